/- -/
import Derived.Test.YtephkbajoofeoaaYHG1
set_option linter.all false
namespace Go.Proofs.Ytephkbajoofeoaa.Am
open Go Go.RowKit
theorem CR.mono {w w':World} {F F':Nat→Prop} {ι ι':Nat→Option Nat} {h h':Nat→Blk} (hF:∀ b,F b→F' b∧w'.heap[b]? = w.heap[b]?)
  (hg:∀ id,Goes w w' ι ι' h h' id) {cur:Array Value} {cs:List AV} (hc:CR w F ι h cur cs):CR w' F' ι' h' cur cs :=
 ⟨hc.size,hc.one,fun k v x hk hx=>(hc.vr k v x hk hx).mono hF hg⟩
section
variable {C:Ctx} {U U':Nat→Prop} {σ:St} {a:Act} {w:World} {ι:Nat→Option Nat}
theorem Jb (S:Sat C U σ a w ι) (b:Nat) (hb:U b) (vals:Array Value) (e:TypeId) (B:Blk) :
  (∀ k,Fz C w ι σ.h k→Fz C (w.alloc (.cells vals e)) (upd ι b (some w.heap.size)) (upd σ.h b B) k∧(w.alloc (.cells vals e)).heap[k]? = w.heap[k]?) ∧
  (∀ id,Goes w (w.alloc (.cells vals e)) ι (upd ι b (some w.heap.size)) σ.h (upd σ.h b B) id):=by
 have hold:∀ k,k<w.heap.size→(w.alloc (.cells vals e)).heap[k]? = w.heap[k]?:=fun k hk=>Below.heap_alloc _ _ _ hk
 refine ⟨fun k hk=>⟨⟨by have:=hk.1;simp;omega,hk.2.1,fun id hid=>?_⟩,hold k hk.1⟩,fun id=>?_⟩
 ·by_cases h:id=b
  ·subst h
   rw [Qd] at hid
   cases hid
   exact absurd hk.1 (Nat.lt_irrefl _)
  ·rw [Qe _ _ _ _ h] at hid ⊢
   exact hk.2.2 id hid
 ·unfold Goes
  by_cases h:id=b
  ·subst h;exact .inl (S.fresh id hb).1
  ·rw [Qe _ _ _ _ h,Qe _ _ _ _ h]
   cases hx:σ.h id with
   | none=>exact .inl rfl
   | dead=>exact .inr (.inl rfl)
   | box cs=>exact .inr (.inr ⟨rfl,rfl,fun k hk=>by unfold World.shape?;rw [hold k (S.rng id k hk).2]⟩)
   | sl e' sz m es=>exact .inr (.inr ⟨rfl,⟨rfl,rfl,rfl⟩,fun k hk=>by unfold World.shape?;rw [hold k (S.rng id k hk).2]⟩)
theorem Fra.alloc {C:Ctx} {w:World} (h:Fra C w) (o:Obj):Fra C (w.alloc o) :=
 ⟨h.os,h.tape,h.output,by have:=h.size;simp;omega,fun k hk hx=>by rw [Below.heap_alloc _ _ _ (by have:=h.size;omega)];exact h.block k hk hx⟩
theorem Sat.alloc (S:Sat C U σ a w ι) (b:Nat) (hb:U b) (hU':∀ i,U' i→U i∧i≠b) (vals:Array Value) (e:TypeId) (B:Blk) (hB:B≠.none∧B≠.dead)
  (hBR:BR (w.alloc (.cells vals e)) (Fz C (w.alloc (.cells vals e)) (upd ι b (some w.heap.size)) (upd σ.h b B)) (upd ι b (some w.heap.size)) (upd σ.h b B) b B) :
  Sat C U' ⟨σ.t,upd σ.h b B,σ.nx⟩ a (w.alloc (.cells vals e)) (upd ι b (some w.heap.size)):=by
 obtain ⟨hF,hg⟩:=Jb S b hb vals e B
 refine S.evolve (S.fra.alloc _) hF hg (fun i cs hx=>by
  by_cases h:i=b
  ·subst h;rw [Qd];exact hB.2
  ·rw [Qe _ _ _ _ h,hx];simp) (fun id=>?_) (fun i j k hi hj=>?_) (fun i k hi=>?_) (fun i hi=>?_) (fun i k hi=>?_)
 ·by_cases h:id=b
  ·subst h;right;rw [Qd];exact hBR
  ·left
   exact ⟨Qe _ _ _ _ h,Qe _ _ _ _ h,fun k hk=>Below.heap_alloc _ _ _ (S.rng id k hk).2⟩
 ·by_cases h1:i=b
  ·by_cases h2:j=b
   ·rw [h1,h2]
   ·subst h1
    rw [Qd] at hi
    rw [Qe _ _ _ _ h2] at hj
    cases hi
    exact absurd (S.rng j _ hj).2 (Nat.lt_irrefl _)
  ·rw [Qe _ _ _ _ h1] at hi
   by_cases h2:j=b
   ·subst h2
    rw [Qd] at hj
    cases hj
    exact absurd (S.rng i _ hi).2 (Nat.lt_irrefl _)
   ·rw [Qe _ _ _ _ h2] at hj
    exact S.inj i j k hi hj
 ·by_cases h1:i=b
  ·subst h1
   rw [Qd] at hi
   cases hi
   exact ⟨.inl (.inl S.fra.size),by simp⟩
  ·rw [Qe _ _ _ _ h1] at hi ⊢
   obtain ⟨h2,h3⟩:=S.rng i k hi
   exact ⟨h2,by simp;omega⟩
 ·obtain ⟨h1,h2⟩:=hU' i hi
  rw [Qe _ _ _ _ h2,Qe _ _ _ _ h2]
  exact S.fresh i h1
 ·by_cases h1:i=b
  ·subst h1;rw [Qd];exact hB
  ·rw [Qe _ _ _ _ h1] at hi ⊢
   exact S.live i k hi
theorem ZB {o:Oper} {v:Value} {x:AV} {w':World} {ι':Nat→Option Nat} {h':Nat→Blk} {Q:Exit→Act→World→Prop}
  (hd:∀ d,o.dst=some d→d<C.N) (hrun:(execOp a.eval o).run C.P w = .ok (.value v) w') (S':Sat C U' ⟨σ.t,h',σ.nx⟩ a w' ι') (hv:VR w' (Fz C w' ι' h') ι' h' v x) {bl:List (Nat × Blk)} (hbl:updL σ.h bl=h') :
  o.wp C.P a w (fun a' w'=>SatU C U' (σ.app o.dst ⟨x,bl⟩) a' w') Q:=by
 unfold Oper.wp
 rw [hrun]
 simp only [Oper.upon]
 refine ⟨ι',?_⟩
 cases ho:o.dst with
 | none=>simpa [St.app,putO,hbl,Act.put] using S'
 | some d=>simpa [St.app,putO,hbl] using S'.put d (hd d ho) v x hv
theorem Qdl {o:Oper} {w':World} {ι':Nat→Option Nat} {h':Nat→Blk} {Q:Exit→Act→World→Prop}
  (hd:∀ d,o.dst=some d→d<C.N) (hrun:(execOp a.eval o).run C.P w = .ok .skip w') (S':Sat C U' ⟨σ.t,h',σ.nx⟩ a w' ι') {bl:List (Nat × Blk)} (hbl:updL σ.h bl=h') :
  o.wp C.P a w (fun a' w'=>SatU C U' (σ.app o.dst ⟨.u,bl⟩) a' w') Q:=by
 unfold Oper.wp
 rw [hrun]
 simp only [Oper.upon]
 refine ⟨ι',?_⟩
 cases ho:o.dst with
 | none=>simpa [St.app,putO,hbl,Act.put] using S'
 | some d=>simpa [St.app,putO,hbl] using S'.put d (hd d ho) undef .u (.u _)
end
section
variable {C:Ctx} {U U':Nat→Prop} {σ:St} {a:Act} {w:World} {ι:Nat→Option Nat} {o:Oper} {Q:Exit→Act→World→Prop} {Γ:Tab} {b:Nat} {e:Eff}
variable (S:Sat C U σ a w ι) (hd:∀ d,o.dst=some d→d<C.N) (hb:U b) (hU':∀ i,U' i→U i∧i≠b)
include S hd hb hU'
theorem Qe4 {t:TypeId} {zs:List AV} (ho:o.op = .alloc t) (hz:QL C.P t=some zs) (he:Qc Γ (Opd.ev σ.t) σ.h b (.new t zs)=some e) :
  o.wp C.P a w (fun a' w'=>SatU C U' (σ.app o.dst e) a' w') Q:=by
 simp only [Qc,Option.some.injEq] at he
 subst he
 obtain ⟨i,z,hi,hzz,hcr⟩:=Yu hz
 refine ZB hd (v:=.pointer (some ⟨w.heap.size,0,none⟩)) (w':=w.alloc (.cells z.cells t)) (ι':=upd ι b (some w.heap.size)) (h':=upd σ.h b (.box zs)) ?_ (S.alloc b hb hU' z.cells t (.box zs) ⟨by simp,by simp⟩ ?_) ?_ rfl
 ·simp [execOp,ho,Instr.alloc,zeroValue,typeInfo,hi,hzz,newVar,newRow]
 ·exact .box w.heap.size t z.cells zs (Qd _ _ _) (heap_alloc_new _ _) (hcr w (fun _=>True) ι σ.h).size (hcr w (fun _=>True) ι σ.h).one (hcr _ _ _ _).vr
 ·have:=VR.p (w:=w.alloc (.cells z.cells t)) (F:=Fz C (w.alloc (.cells z.cells t)) (upd ι b (some w.heap.size)) (upd σ.h b (.box zs))) (ι:=upd ι b (some w.heap.size)) (h:=upd σ.h b (.box zs)) b 0 0 w.heap.size (Qd _ _ _) (by rw [Qd];simp) (by rw [Qd];simp)
  simpa using this
theorem QhR {x:Operand} {x':Opd} {t n:Nat} (ho:o.op = .box t x) (hx:cO C.P t x=some x') (he:Qc Γ (Opd.ev σ.t) σ.h b (.box t x' n)=some e) :
  o.wp C.P a w (fun a' w'=>SatU C U' (σ.app o.dst e) a' w') Q:=by
 simp only [Qc] at he
 split at he
 rotate_left
 ·cases he
 rename_i hc
 cases he
 have hcr:=(Qi S hx).cells hc.2
 obtain ⟨hF,hg⟩:=Jb S b hb (a.eval x).cells t (.box ((Opd.ev σ.t x').cells))
 have hcr':=CR.mono hF hg hcr
 refine ZB hd (v:=.pointer (some ⟨w.heap.size,0,none⟩)) (w':=w.alloc (.cells (a.eval x).cells t)) (ι':=upd ι b (some w.heap.size)) (h':=upd σ.h b (.box ((Opd.ev σ.t x').cells))) ?_ (S.alloc b hb hU' _ t _ ⟨by simp,by simp⟩ ?_) ?_ rfl
 ·simp [execOp,ho,Instr.box,newVar,newRow]
 ·exact .box w.heap.size t _ _ (Qd _ _ _) (heap_alloc_new _ _) hcr'.size hcr'.one hcr'.vr
 ·have:=VR.p (w:=w.alloc (.cells (a.eval x).cells t)) (F:=Fz C (w.alloc (.cells (a.eval x).cells t)) (upd ι b (some w.heap.size)) (upd σ.h b (.box ((Opd.ev σ.t x').cells)))) (ι:=upd ι b (some w.heap.size)) (h:=upd σ.h b (.box ((Opd.ev σ.t x').cells))) b 0 0 w.heap.size (Qd _ _ _) (by rw [Qd];simp) (by rw [Qd];simp)
  simpa using this
omit S hd hb hU' in
theorem Qb5 {P:Program} {t:TypeId} {v:Value}:(av1 P t v).ref1=[]:=by
 unfold av1
 split <;> rfl
omit S hd hb hU' in
theorem QeE {P:Program} {t:TypeId} {zs:List AV} (h:QL P t=some zs):∀ (k:Nat) (x:AV),zs[k]? = some x→x.ref1=[]:=by
 unfold QL at h
 split at h
 rotate_left
 ·cases h
 rename_i i hi
 split at h
 rotate_left
 ·cases h
 rename_i z hz
 split at h
 rotate_left
 ·cases h
 rename_i x hx
 cases h
 intro k y hk
 unfold avOf at hx
 split at hx
 ·split at hx
  ·rename_i cs _
   cases hx
   have hlt:=(List.getElem?_eq_some_iff.1 hk).1
   simp only [AV.cells,J0] at hlt
   obtain ⟨t',rfl⟩:=Qav cs.toList _ k _ y (List.getElem?_eq_getElem hlt) hk
   exact Qb5
  ·cases hx
 ·split at hx
  ·cases hx
   have hc:(av1 P t z).cells=[av1 P t z]:=by unfold av1;split <;> rfl
   rw [hc] at hk
   cases k with
   | zero=>simp at hk;subst hk;exact Qb5
   | succ k=>simp at hk
  ·cases hx
theorem s_mk {t et sz:Nat} {l:Tmp} {zs:List AV} {i:TypeInfo} (ho:o.op = .makeSlice t (.tmp l) (.tmp l)) (ht:elOf C.P t=some et) (hsz:szOf C.P et=some sz) (hz:QL C.P et=some zs) (hi:C.P.info? et=some i)
  (h0:0<sz) (hby:i.bytes≤32768) (he:Qc Γ (Opd.ev σ.t) σ.h b (.mk et sz zs (.s l))=some e) :
  o.wp C.P a w (fun a' w'=>SatU C U' (σ.app o.dst e) a' w') Q:=by
 simp only [Qc] at he
 split at he
 rotate_left
 ·cases he
 rename_i n zd hn hzd
 split at he
 rotate_left
 ·cases he
 rename_i hc
 obtain ⟨c1,c2,c3⟩:=hc
 cases he
 obtain ⟨i',z,hi',hzz,hcr⟩:=Yu hz
 rw [hi] at hi'
 cases hi'
 obtain ⟨i'',hi'',hsz'⟩:=Ys hsz
 rw [hi] at hi''
 cases hi''
 obtain ⟨k,hk⟩:=Qbf (S.vals l) hn
 have hbig:n≤4294967296:=c2
 have hbytes:(i.bytes:Int)*n≤281474976710656:=by
  have h1:(i.bytes:Int)≤32768:=by omega
  have:=Int.mul_le_mul h1 hbig c1 (by omega)
  omega
 have hrun:=run_make (P:=C.P) w t et i z (ZL ht) hi hzz k k n n c1 (Int.le_refl _) hbytes (by omega)
 have hzl:zd.length=zs.length:=(AV.ds_get hzd).1
 have hzs:z.cells.size=sz:=by rw [(hcr w (fun _=>True) ι σ.h).size];omega
 rw [hsz'] at hrun
 refine ZB hd (v:=.slice (some ⟨w.heap.size,0,none⟩) n.toNat n.toNat) (w':=w.alloc (.cells (madeCells z.cells (n.toNat*sz)) et)) (ι':=upd ι b (some w.heap.size)) (h':=upd σ.h b (.sl et sz true (List.replicate n.toNat zd))) ?_
  (S.alloc b hb hU' _ et _ ⟨by simp,by simp⟩ ?_) ?_ rfl
 ·have hev:a.eval (.tmp l) = .int k n:=hk
  simp [execOp,ho,hev,hrun]
 ·refine .sl w.heap.size et sz true _ _ n.toNat h0 (Qd _ _ _) (heap_alloc_new _ _) (by simp [madeCells]) (by simp) (by simp [maxLen];omega) (fun x hx=>?_) (fun p q x d hx hd'=>?_)
  ·rw [List.eq_of_mem_replicate hx];exact c3
  ·have hp:p<n.toNat:=by have:=(List.getElem?_eq_some_iff.1 hx).1;simpa using this
   have hxz:x=zd:=by rw [List.getElem?_replicate,if_pos hp] at hx;cases hx;rfl
   subst hxz
   have hq:q<sz:=by rw [← c3];exact (List.getElem?_eq_some_iff.1 hd').1
   have hlt:p*sz+q<n.toNat*sz:=by
    have:(p+1)*sz≤n.toNat*sz:=Nat.mul_le_mul_right _ hp
    rw [Nat.add_mul] at this
    omega
   have hqz:q<z.cells.size:=by omega
   refine ⟨z.cells[q],?_,?_⟩
   ·have hm:(p*sz+q) % z.cells.size=q:=by rw [hzs,Nat.mul_comm,Nat.mul_add_mod,Nat.mod_eq_of_lt hq]
    rw [madeCells,Array.getElem?_map,Array.getElem?_range,if_pos hlt]
    simp [hm,hqz]
   ·have hzq:zs[q]? = some zs[q]:=List.getElem?_eq_getElem (by omega)
    obtain ⟨d',h5,h6⟩:=(AV.ds_get hzd).2 q _ hzq
    rw [hd'] at h5
    cases h5
    obtain ⟨hF,hg⟩:=Jb S b hb (madeCells z.cells (n.toNat*sz)) et (.sl et sz true (List.replicate n.toNat x))
    have:=AV.d_rd S (F:=Fz C w ι σ.h) (fun _ h=>h) ((hcr w (Fz C w ι σ.h) ι σ.h).vr q z.cells[q] zs[q] (by simp [hqz]) hzq) h6 (fun id b' hid=>by rw [QeE hz q _ hzq] at hid;cases hid)
    exact this.mono hF
 ·refine .r b 0 n.toNat w.heap.size 0 n.toNat et sz true _ (Qd _ _ _) (Qd _ _ _) (by simp) (Nat.le_refl _) (fun _=>by simp) (fun _=>⟨rfl,?_⟩)
  unfold World.shape?
  rw [heap_alloc_new]
  simp [madeCells]
omit S hd hb hU' in
theorem QcJ {h:Nat→Blk} {x:AV} {ds:List D} (hx:AV.ds h x.cells=some ds):x.st=true:=by
 cases x with
 | u=>simp [AV.cells,AV.ds,AV.d] at hx
 | t vs=>simp [AV.cells,AV.ds,AV.d] at hx
 | bx cs=>simp [AV.cells,AV.ds,AV.d] at hx
 | ow e sz es=>simp [AV.cells,AV.ds,AV.d] at hx
 | _=>rfl
omit S hd hb hU' in
theorem Qc1 {x:AV} {k:Nat} {y:AV} {id:Nat} (hk:x.cells[k]? = some y) (hi:id∈y.ref1):id∈x.refs:=by
 cases x with
 | a cs=>exact Jx hk hi
 | _ =>
  cases k with
  | zero=>simp [AV.cells] at hk;subst hk;exact hi
  | succ k=>simp [AV.cells] at hk
omit hd hb hU' in
theorem QcQ {et sz:Nat} (hsz:szOf C.P et=some sz) {F:Nat→Prop} (hF:∀ b,Fz C w ι σ.h b→F b) :
  ∀ (parts:List (Nat × Operand)) (k:Nat) (xs:List Opd) (cur:Array Value) (es:List (List D)),Zf C.P et k parts=some xs→elems σ.h (Opd.ev σ.t) sz xs=some es →
   (∀ id b,id∈xs.flatMap (fun x=>(Opd.ev σ.t x).refs)→ι id=some b→F b)→(k+parts.length)*sz≤cur.size →
   es.length=parts.length∧(∀ x,x∈es→x.length=sz)∧∃ cur',Instr.fill (fun i=>some (i*sz,sz)) cur (parts.map fun x=>(x.1,a.eval x.2))=some cur'∧cur'.size=cur.size∧(∀ m,m<k*sz→cur'[m]? = cur[m]?) ∧
    ∀ (i j:Nat) (el:List D) (d:D),es[i]? = some el→el[j]? = some d→∃ v,cur'[(k+i)*sz+j]? = some v∧Rd w F v d
 | [],k,xs,cur,es,hp,he,_,_=>by
  simp [Zf] at hp
  subst hp
  simp [elems] at he
  subst he
  exact ⟨rfl,by simp,cur,rfl,rfl,fun _ _=>rfl,by simp⟩
 | (i,x)::parts,k,xs,cur,es,hp,he,hown,hle=>by
  simp only [Zf] at hp
  split at hp
  rotate_left
  ·cases hp
  rename_i hik
  subst hik
  split at hp
  rotate_left
  ·cases hp
  rename_i y ys hy hys
  cases hp
  simp only [elems] at he
  split at he
  rotate_left
  ·cases he
  rename_i el0 es' hel hes
  split at he
  rotate_left
  ·cases he
  rename_i hlen
  cases he
  have hcr:=(Qi S hy).cells (QcJ hel)
  have hds:=AV.ds_get hel
  have hpsz:(a.eval x).cells.size=sz:=by rw [hcr.size,← hds.1,hlen]
  simp only [List.length_cons] at hle
  have hle1:i*sz+sz≤cur.size:=by
   have:(i+1)*sz≤(i+(parts.length+1))*sz:=Nat.mul_le_mul_right _ (by omega)
   rw [Nat.add_mul] at this
   omega
  obtain ⟨f1,f2⟩:=Qdu cur (a.eval x).cells (i*sz) (by omega)
  obtain ⟨r1,r2,cur',r3,r4,r5,r6⟩:=QcQ hsz hF parts (i+1) ys _ es' hys hes (fun id b hid=>hown id b (by simp only [List.flatMap_cons,List.mem_append];exact .inr hid)) (by rw [f1];rw [show i+1+parts.length=i+(parts.length+1) by omega];exact hle)
  refine ⟨by simp [r1],fun z hz=>?_,cur',?_,by rw [r4,f1],fun m hm=>?_,fun p q el d hel' hd'=>?_⟩
  ·rcases List.mem_cons.1 hz with rfl | hz
   ·exact hlen
   ·exact r2 z hz
  ·simp only [List.map_cons,Instr.fill]
   rw [if_neg (by simp only [Bool.or_eq_true,decide_eq_true_eq];rintro (h | h) <;> omega)]
   exact r3
  ·rw [r5 m (by rw [Nat.add_mul];omega),f2 m,if_pos hm]
  ·cases p with
   | zero =>
    simp at hel'
    subst hel'
    have hq:q<sz:=by rw [← hlen];exact (List.getElem?_eq_some_iff.1 hd').1
    have hqx:q<(Opd.ev σ.t y).cells.length:=by rw [← hds.1];omega
    obtain ⟨d',h5,h6⟩:=hds.2 q _ (List.getElem?_eq_getElem hqx)
    rw [hd'] at h5
    cases h5
    have hqv:q<(a.eval x).cells.size:=by omega
    have hvr:=hcr.vr q _ _ (Array.getElem?_eq_getElem hqv) (List.getElem?_eq_getElem hqx)
    refine ⟨(a.eval x).cells[q],?_,AV.d_rd S hF hvr h6 (fun id b hid=>hown id b (by simp only [List.flatMap_cons,List.mem_append];exact .inl (Qc1 (List.getElem?_eq_getElem hqx) hid)))⟩
    rw [Nat.add_zero,r5 _ (by rw [Nat.add_mul];omega),f2,if_neg (by omega),if_pos (by omega)]
    rw [show i*sz+q-i*sz=q by omega]
    exact Array.getElem?_eq_getElem hqv
   | succ p =>
    simp at hel'
    rw [show i+(p+1)=i+1+p by omega]
    exact r6 p q el d hel' hd'
omit S hd hb hU' in
theorem Jy {h:Nat→Blk}:∀ {xs:List AV} {ds:List D},AV.ds h xs=some ds→∀ id,id∈AV.refsL xs→∃ e sz m es,h id = .sl e sz m es
 | [],_,_,id,hi=>by simp [AV.refsL] at hi
 | x::xs,ds,hx,id,hi=>by
  simp only [AV.ds] at hx
  split at hx
  ·rename_i d ds' h1 h2
   simp only [AV.refsL,List.mem_append] at hi
   rcases hi with hi | hi
   ·cases x with
    | r sz' id' off len =>
     simp [AV.ref1] at hi
     subst hi
     simp only [AV.d] at h1
     split at h1
     ·rename_i e sz m es hh;exact ⟨e,sz,m,es,hh⟩
     ·cases h1
    | _=>simp [AV.ref1] at hi
   ·exact Jy h2 id hi
  ·cases hx
omit S hd hb hU' in
theorem Qdh {x:AV} (hx:x.st=true):x.refs=AV.refsL x.cells:=by
 cases x with
 | a cs=>rfl
 | _=>first | (simp [AV.st,AV.one] at hx;done) | simp [AV.refs,AV.cells,AV.refsL]
omit S hd hb hU' in
theorem QdO {h:Nat→Blk} {ev:Opd→AV} {sz:Nat}:∀ {xs:List Opd} {es:List (List D)},elems h ev sz xs=some es→∀ id,id∈xs.flatMap (fun x=>(ev x).refs)→∃ e sz m es,h id = .sl e sz m es
 | [],_,_,id,hi=>by simp at hi
 | x::xs,es,hx,id,hi=>by
  simp only [elems] at hx
  split at hx
  ·rename_i e es' h1 h2
   split at hx
   ·simp only [List.flatMap_cons,List.mem_append] at hi
    rcases hi with hi | hi
    ·rw [Qdh (QcJ h1)] at hi
     exact Jy h1 id hi
    ·exact QdO h2 id hi
   ·cases hx
  ·cases hx
omit hd hb hU' in
theorem Qb2 {ids:List Nat} (hsl:∀ id,id∈ids→∃ e sz m es,σ.h id = .sl e sz m es):∀ id b,id∈ids→ι id=some b→Fz C w ι (updL σ.h (frz σ.h ids)) b:=by
 intro id b hid hi
 obtain ⟨e,sz,m,es,hh⟩:=hsl id hid
 obtain ⟨h1,h2⟩:=S.rng id b hi
 refine ⟨h2,.inr (h1.elim (fun h=>h) fun ⟨_,cs,h3⟩=>by rw [hh] at h3;cases h3),fun id' hi'=>?_⟩
 have:=S.inj id' id b hi' hi
 subst this
 rw [QB,if_pos hid,hh]
 rfl
omit S hd hb hU' in
theorem Qe1 {P:Program} {w:World} {t et sz n:Nat} {parts:Array (Nat × Value)} {i:TypeInfo} {z:Value} {cells:Array Value} (ht:P.underlying t=some (.slice et)) (hi:P.info? et=some i) (hz:i.zero=some z) (hsz:i.size=sz) (h0:0<sz)
  (hlim:n*sz≤16777216) (hf:Instr.fill (fun k=>some (k*sz,sz)) (madeCells z.cells (n*sz)) parts.toList=some cells) :
  (Instr.buildSlice t n parts).run P w = .ok (.slice (some ⟨w.heap.size,0,none⟩) n n) (w.alloc (.cells cells et)):=by
 have h1:¬ 16777216<n*sz:=by omega
 by_cases hn:n=0
 ·subst hn
  have hm:madeCells z.cells (0*sz) = #[]:=by simp [madeCells,Array.range_zero']
  rw [hm] at hf
  simp [Instr.buildSlice,run_underlying ht,sizeOf,typeInfo,hi,hsz,newRow,Array.range_zero',hf]
 ·have hf':Instr.fill (fun k=>some (k*sz,sz)) ((Array.range (n*sz)).map fun x=>z.cells[x % z.cells.size]!) parts.toList=some cells:=hf
  have hn':sz≠0:=by omega
  have hm:¬ n*sz=0:=Nat.mul_ne_zero hn hn'
  simp [Instr.buildSlice,hm,run_underlying ht,sizeOf,typeInfo,zeroValue,hi,hz,hsz,h1,hn,hn',newRow,hf']
omit S hd hb hU' in
theorem QcK {P:Program} {et:TypeId}:∀ {parts:List (Nat × Operand)} {k:Nat} {xs:List Opd},Zf P et k parts=some xs→xs.length=parts.length
 | [],k,xs,h=>by simp [Zf] at h;subst h;rfl
 | (i,x)::parts,k,xs,h=>by
  simp only [Zf] at h
  split at h
  ·split at h
   ·rename_i y ys h1 h2
    cases h
    simp [QcK h2]
   ·cases h
  ·cases h
theorem Qeo {t et sz n:Nat} {parts:Array (Nat × Operand)} {xs:List Opd} (ho:o.op = .buildSlice t n parts) (ht:elOf C.P t=some et) (hsz:szOf C.P et=some sz) (hp:Zf C.P et 0 parts.toList=some xs) (hn:xs.length=n) (h0:0<sz)
  (hlim:n*sz≤16777216) (hz:(QL C.P et).isSome=true) (he:Qc Γ (Opd.ev σ.t) σ.h b (.bsl et sz xs)=some e) :
  o.wp C.P a w (fun a' w'=>SatU C U' (σ.app o.dst e) a' w') Q:=by
 simp only [Qc] at he
 split at he
 rotate_left
 ·cases he
 rename_i es hes
 cases he
 obtain ⟨zs,hzs⟩:=Option.isSome_iff_exists.1 hz
 obtain ⟨i,z,hi,hzz,_⟩:=Yu hzs
 obtain ⟨i',hi',hsz'⟩:=Ys hsz
 rw [hi] at hi'
 cases hi'
 have hrefs:=QdO hes
 obtain ⟨S1,hF⟩:=S.freeze (xs.flatMap fun x=>(Opd.ev σ.t x).refs)
 have hown:=Qb2 S hrefs
 have hpl:parts.toList.length=n:=by rw [← QcK hp];exact hn
 obtain ⟨r1,r2,cur',r3,r4,_,r6⟩:=QcQ S hsz hF parts.toList 0 xs (madeCells z.cells (n*sz)) es hp hes hown (by rw [Nat.zero_add,hpl];simp [madeCells])
 have hrun:=Qe1 (P:=C.P) (w:=w) (t:=t) (n:=n) (parts:=parts.map fun x=>(x.1,a.eval x.2)) (ZL ht) hi hzz hsz' h0 hlim (by simpa using r3)
 have hlen:es.length=n:=by rw [r1,hpl]
 have hbn:b∉xs.flatMap fun x=>(Opd.ev σ.t x).refs:=by
  intro hb'
  obtain ⟨e,sz,m,es,hh⟩:=hrefs b hb'
  rw [(S.fresh b hb).1] at hh
  cases hh
 generalize hids:(xs.flatMap fun x=>(Opd.ev σ.t x).refs)=ids at *
 obtain ⟨hF2,hg2⟩:=Jb S1 b hb cur' et (.sl et sz true es)
 have SA:Sat C U' ⟨σ.t,upd (updL σ.h (frz σ.h ids)) b (.sl et sz true es),σ.nx⟩ a (w.alloc (.cells cur' et)) (upd ι b (some w.heap.size)):=by
  refine S1.alloc b hb hU' _ et _ ⟨by simp,by simp⟩ ?_
  refine .sl w.heap.size et sz true es cur' n h0 (Qd _ _ _) (heap_alloc_new _ _) (by rw [r4];simp [madeCells]) (by omega) ?_ r2 (fun p q x d hx hd'=>?_)
  ·have:n*1≤n*sz:=Nat.mul_le_mul_left _ h0
   simp [maxLen]
   omega
  ·obtain ⟨v,h1,h2⟩:=r6 p q x d hx hd'
   rw [Nat.zero_add] at h1
   exact ⟨v,h1,h2.mono hF2⟩
 refine ZB (σ:=σ) hd (v:=.slice (some ⟨w.heap.size,0,none⟩) n n) (w':=w.alloc (.cells cur' et)) (ι':=upd ι b (some w.heap.size)) (h':=upd (updL σ.h (frz σ.h ids)) b (.sl et sz true es)) ?_ SA ?_ ?_
 ·simp only [execOp,ho,Sem.run_bind,hrun,Result.andThen_ok,Sem.run_pure]
 ·rw [hlen]
  refine .r b 0 n w.heap.size 0 n et sz true es (Qd _ _ _) (Qd _ _ _) (by omega) (Nat.le_refl _) (fun _=>by simp) (fun _=>⟨rfl,?_⟩)
  unfold World.shape?
  rw [heap_alloc_new]
  simp [r4,madeCells]
 ·funext k
  simp only [updL]
  rw [QB]
  by_cases hk:k=b
  ·subst hk
   rw [if_neg hbn,Qd,Qd]
  ·rw [Qe _ _ _ _ hk,Qe _ _ _ _ hk,QB]
end
end Go.Proofs.Ytephkbajoofeoaa.Am
namespace Go.Proofs.Ytephkbajoofeoaa.Am
open Go Go.RowKit
section
variable {C:Ctx} {U U':Nat→Prop} {σ:St} {a:Act} {w:World} {ι:Nat→Option Nat}
theorem Qbc {w:World} {g k:Nat} {cur new:Array Value} {et:TypeId} (hb:w.heap[g]? = some (.cells cur et (0,0))) (hsz:new.size=cur.size):(w.setRow g new).shape? k=w.shape? k:=by
 unfold World.shape?
 by_cases h:k=g
 ·subst h;rw [setRow_heap w k cur new et (0,0) hb,hb];simp [hsz]
 ·rw [setRow_other w g k new h]
theorem Fra.setRow {C:Ctx} {w:World} (h:Fra C w) {g:Nat} (hg:C.w0.heap.size≤g∨C.X g) (new:Array Value):Fra C (w.setRow g new) :=
 ⟨h.os,h.tape,h.output,by have:=h.size;simp;exact this,fun k hk hx=>by
  rw [setRow_other w g k new (fun e=>by subst e;exact hg.elim (fun hg=>by omega) (fun hg=>hx hg))]
  exact h.block k hk hx⟩
theorem JU (S:Sat C U σ a w ι) {id g:Nat} (hi:ι id=some g) {cur new:Array Value} {et:TypeId} (hb:w.heap[g]? = some (.cells cur et (0,0))) (hsz:new.size=cur.size) {B:Blk}
  (hsame:Same (σ.h id) B) (hown:(σ.h id).own=true) :
  (∀ k,Fz C w ι σ.h k→Fz C (w.setRow g new) ι (upd σ.h id B) k∧(w.setRow g new).heap[k]? = w.heap[k]?) ∧
  (∀ i,Goes w (w.setRow g new) ι ι σ.h (upd σ.h id B) i):=by
 refine ⟨fun k hk=>⟨⟨by simpa using hk.1,hk.2.1,fun i hik=>?_⟩,setRow_other w g k new (fun e=>?_)⟩,fun i=>?_⟩
 ·by_cases h:i=id
  ·subst h
   rw [hi] at hik
   cases hik
   have:=hk.2.2 _ hi
   rw [hown] at this
   cases this
  ·rw [Qe _ _ _ _ h];exact hk.2.2 i hik
 ·subst e
  have:=hk.2.2 _ hi
  rw [hown] at this
  cases this
 ·unfold Goes
  by_cases h:i=id
  ·subst h
   right;right
   rw [Qd]
   exact ⟨rfl,hsame,fun k _=>Qbc hb hsz⟩
  ·rw [Qe _ _ _ _ h]
   cases hx:σ.h i with
   | none=>exact .inl rfl
   | dead=>exact .inr (.inl rfl)
   | box cs=>exact .inr (.inr ⟨rfl,rfl,fun k _=>Qbc hb hsz⟩)
   | sl e' sz m es=>exact .inr (.inr ⟨rfl,⟨rfl,rfl,rfl⟩,fun k _=>Qbc hb hsz⟩)
theorem Sat.setRow (S:Sat C U σ a w ι) (hU':∀ i,U' i→U i) {id g:Nat} (hi:ι id=some g) {cur new:Array Value} {et:TypeId} (hb:w.heap[g]? = some (.cells cur et (0,0))) (hsz:new.size=cur.size) {B:Blk}
  (hsame:Same (σ.h id) B) (hown:(σ.h id).own=true)
  (hBR:BR (w.setRow g new) (Fz C (w.setRow g new) ι (upd σ.h id B)) ι (upd σ.h id B) id B) :
  Sat C U' ⟨σ.t,upd σ.h id B,σ.nx⟩ a (w.setRow g new) ι:=by
 obtain ⟨hF,hg⟩:=JU S hi hb hsz hsame hown
 have hrng:=S.rng id g hi
 refine S.evolve (S.fra.setRow (hrng.1.elim (fun h=>h.fra) (fun h=>.inr h.1)) new) hF hg (fun i cs hx=>by
  by_cases h:i=id
  ·subst h;rw [Qd];exact hsame.ne.2
  ·rw [Qe _ _ _ _ h,hx];simp) (fun i=>?_) S.inj (fun i k hk=>?_) (fun i hiU=>?_) (fun i k hk=>?_)
 ·by_cases h:i=id
  ·subst h;right;rw [Qd];exact hBR
  ·left
   refine ⟨Qe _ _ _ _ h,rfl,fun k hk=>setRow_other w g k new (fun e=>?_)⟩
   subst e
   exact h (S.inj i id k hk hi)
 ·obtain ⟨h1,h2⟩:=S.rng i k hk
  refine ⟨h1.imp (fun h=>h) fun ⟨hx,cs,hcs⟩=>⟨hx,?_⟩,by simpa using h2⟩
  by_cases h:i=id
  ·subst h
   rw [Qd]
   rw [hcs] at hsame
   cases B <;> simp [Same] at hsame
   exact ⟨_,rfl⟩
  ·rw [Qe _ _ _ _ h];exact ⟨cs,hcs⟩
 ·obtain ⟨h1,h2⟩:=S.fresh i (hU' i hiU)
  have:i≠id:=fun e=>by subst e;rw [hi] at h2;cases h2
  rw [Qe _ _ _ _ this]
  exact ⟨h1,h2⟩
 ·by_cases h:i=id
  ·subst h;rw [Qd];exact hsame.ne
  ·rw [Qe _ _ _ _ h];exact S.live i k hk
theorem QcI {P:Program} {w:World} {t n g o:Nat} {v:Value} {cur:Array Value} {et:TypeId} (hn:szOf P t=some n) (hb:w.heap[g]? = some (.cells cur et (0,0))) (hv:v.cells.size=n) (hle:o+n≤cur.size)
  (h1:∀ (k:Nat) (u:Value),v.cells[k]? = some u→u.oneCell'=true) :
  (Instr.storeAt t (.pointer (some ⟨g,o,Option.none⟩)) v).run P w = .ok () (w.setRow g (Am.splice cur.toList o v.cells.toList).toArray):=by
 have h:=run_storeCells_at P g o et v.cells.toList 0 cur w hb (by simp;omega) (fun u hu=>by
  obtain ⟨k,hk,he⟩:=List.getElem_of_mem hu
  exact h1 k u (by rw [← he];simp at hk ⊢))
 simp only [Nat.add_zero] at h
 simp [Instr.storeAt,Instr.sureAddr,storeVar,Zl hn,hv,h,Am.splice]
end
section
variable {C:Ctx} {U U':Nat→Prop} {σ:St} {a:Act} {w:World} {ι:Nat→Option Nat} {o:Oper} {Q:Exit→Act→World→Prop} {Γ:Tab} {b:Nat} {e:Eff}
variable (S:Sat C U σ a w ι) (hd:∀ d,o.dst=some d→d<C.N) (hU':∀ i,U' i→U i)
include S hd hU'
theorem QgK {x v:Operand} {x' v':Opd} {t n:Nat} {t1 t2:TypeId} (ho:o.op = .store t x v) (hx:cO C.P t1 x=some x') (hv:cO C.P t2 v=some v') (hn:szOf C.P t=some n) (he:Qc Γ (Opd.ev σ.t) σ.h b (.store x' v' n)=some e) :
  o.wp C.P a w (fun a' w'=>SatU C U' (σ.app o.dst e) a' w') Q:=by
 have h1:=Qi S hx
 simp only [Qc] at he
 split at he
 rotate_left
 ·cases he
 rename_i hc
 obtain ⟨hlen,hst⟩:=hc
 have hcr:=(Qi S hv).cells hst
 have hvn:(a.eval v).cells.size=n:=by rw [hcr.size,hlen]
 split at he
 rotate_left
 ·cases he
 rename_i id i j hp
 rw [hp] at h1
 generalize hae:a.eval x=av at h1
 have hblk:=S.blk id
 split at he
 ·rename_i cs hh
  split at he
  rotate_left
  ·cases he
  rename_i hc2
  obtain ⟨rfl,hjn⟩:=hc2
  cases he
  cases h1 with
  | pdead v _ _ _ _ hdd=>rw [hdd] at hh;cases hh
  | p _ _ _ bk hi hn' hnd =>
   rw [hh] at hblk hae
   simp only [Blk.sz,Nat.mul_zero,Nat.zero_add] at hae
   cases hblk with
   | box bk' et vals _ hi' hb hl h1c hvr =>
    rw [hi] at hi';cases hi'
    have hrun:=QcI (P:=C.P) (t:=t) (o:=j) hn hb hvn (by omega) hcr.one
    have hspl:(splice vals.toList j (a.eval v).cells.toList).length=vals.toList.length:=ZJ (by simp;omega)
    have hsame:Same (σ.h id) (.box (splice cs j (Opd.ev σ.t v').cells)):=by rw [hh];exact ZJ (by omega)
    have hown:(σ.h id).own=true:=by rw [hh];rfl
    obtain ⟨hF,hg⟩:=JU S hi hb (new:=(splice vals.toList j (a.eval v).cells.toList).toArray) (by simpa using hspl) hsame hown
    refine Qdl (σ:=σ) hd (h':=upd σ.h id (.box (splice cs j (Opd.ev σ.t v').cells))) (ι':=ι) (w':=w.setRow bk (splice vals.toList j (a.eval v).cells.toList).toArray) ?_ (S.setRow hU' hi hb (by simpa using hspl) hsame hown ?_) rfl
    ·simp only [execOp,ho,hae,Sem.run_bind,hrun,Result.andThen_ok,Sem.run_pure]
    ·have hcell:CR w (Fz C w ι σ.h) ι σ.h (splice vals.toList j (a.eval v).cells.toList).toArray (splice cs j (Opd.ev σ.t v').cells):=by
      have hg1:=Z7 (l:=vals.toList) (xs:=(a.eval v).cells.toList) (j:=j) (by simp;omega)
      have hg2:=Z7 (l:=cs) (xs:=(Opd.ev σ.t v').cells) (j:=j) (by omega)
      have hvl:(a.eval v).cells.toList.length=n:=by simpa using hvn
      refine ⟨by rw [List.size_toArray,hspl,ZJ (by omega)];simpa using hl,fun k u hk=>?_,fun k u y hk hy=>?_⟩
      ·rw [List.getElem?_toArray,hg1 k] at hk
       split at hk
       ·exact h1c k u (by simpa using hk)
       ·split at hk
        ·exact hcr.one _ u (by simpa using hk)
        ·exact h1c k u (by simpa using hk)
      ·rw [List.getElem?_toArray,hg1 k] at hk
       rw [hg2 k] at hy
       split at hk
       ·rename_i e1
        rw [if_pos e1] at hy
        exact hvr k u y (by simpa using hk) hy
       ·rename_i e1
        rw [if_neg e1] at hy
        split at hk
        ·rename_i e2
         rw [if_pos (by omega)] at hy
         exact hcr.vr _ u y (by simpa using hk) hy
        ·rename_i e2
         rw [if_neg (by omega)] at hy
         exact hvr k u y (by simpa using hk) hy
     have hcell':=hcell.mono hF hg
     exact .box bk et _ _ hi (setRow_heap w bk vals _ et (0,0) hb) hcell'.size hcell'.one hcell'.vr
 ·rename_i et sz es hh
  split at he
  rotate_left
  ·cases he
  rename_i el hel
  split at he
  rotate_left
  ·cases he
  rename_i ds hds
  split at he
  rotate_left
  ·cases he
  rename_i hc2
  obtain ⟨hjn,hnot⟩:=hc2
  cases he
  cases h1 with
  | pdead v _ _ _ _ hdd=>rw [hdd] at hh;cases hh
  | p _ _ _ bk hi hn' hnd =>
   rw [hh] at hblk hae
   simp only [Blk.sz] at hae
   cases hblk with
   | slnil=>simp at hel
   | sl bk' _ _ _ _ cur cap hz hi' hb hC hle hC2 hsz hvr =>
    rw [hi] at hi';cases hi'
    have hrefs:∀ id',id'∈(Opd.ev σ.t v').refs→∃ e sz m es,σ.h id' = .sl e sz m es:=by
     rw [Qdh hst];exact Jy hds
    obtain ⟨S1,hF1⟩:=S.freeze (Opd.ev σ.t v').refs
    have hownF:=Qb2 S hrefs
    generalize hids:(Opd.ev σ.t v').refs=ids at *
    have hh1:updL σ.h (frz σ.h ids) id = .sl et sz true es:=by rw [QB,if_neg hnot,hh]
    have hilt:i<es.length:=(List.getElem?_eq_some_iff.1 hel).1
    have hels:el.length=sz:=hsz el (List.mem_of_getElem? hel)
    have hdsl:=AV.ds_get hds
    have hcurs:i*sz+j+n≤cur.size:=by
     rw [hC]
     have:(i+1)*sz≤cap*sz:=Nat.mul_le_mul_right _ (by omega)
     rw [Nat.add_mul] at this
     omega
    have hvl:(a.eval v).cells.toList.length=n:=by simpa using hvn
    have hrun:=QcI (P:=C.P) (t:=t) (o:=i*sz+j) hn hb hvn (by omega) hcr.one
    have hspl:(splice cur.toList (i*sz+j) (a.eval v).cells.toList).length=cur.toList.length:=ZJ (by simp;omega)
    have hsame:Same (updL σ.h (frz σ.h ids) id) (.sl et sz true (es.set i (splice el j ds))):=by rw [hh1];exact ⟨rfl,rfl,by simp⟩
    have hown:(updL σ.h (frz σ.h ids) id).own=true:=by rw [hh1];rfl
    obtain ⟨hF,hg⟩:=JU S1 hi hb (new:=(splice cur.toList (i*sz+j) (a.eval v).cells.toList).toArray) (by simpa using hspl) hsame hown
    have SA:Sat C U' ⟨σ.t,upd (updL σ.h (frz σ.h ids)) id (.sl et sz true (es.set i (splice el j ds))),σ.nx⟩ a (w.setRow bk (splice cur.toList (i*sz+j) (a.eval v).cells.toList).toArray) ι:=by
     refine S1.setRow hU' hi hb (by simpa using hspl) hsame hown ?_
     have hsl:(splice el j ds).length=el.length:=ZJ (by have:=hdsl.1;omega)
     refine .sl bk et sz true _ _ cap hz hi (setRow_heap w bk cur _ et (0,0) hb) (by rw [List.size_toArray,hspl];simpa using hC) (by simpa using hle) hC2 (fun x hx=>?_) (fun p q x d hx hd'=>?_)
     ·rcases List.mem_or_eq_of_mem_set hx with hx | rfl
      ·exact hsz x hx
      ·rw [hsl,hels]
     ·have hg1:=Z7 (l:=cur.toList) (xs:=(a.eval v).cells.toList) (j:=i*sz+j) (by simp;omega) (p*sz+q)
      rw [List.getElem?_toArray,hg1]
      by_cases hpi:p=i
      ·subst hpi
       rw [List.getElem?_set_self hilt] at hx
       cases hx
       have hg2:=Z7 (l:=el) (xs:=ds) (j:=j) (by have:=hdsl.1;omega) q
       rw [hg2] at hd'
       have hdn:ds.length=n:=by rw [hdsl.1,hlen]
       by_cases e1:q<j
       ·rw [if_pos e1] at hd'
        rw [if_pos (by omega)]
        obtain ⟨u,h3,h4⟩:=hvr p q el d hel hd'
        exact ⟨u,by simpa using h3,(h4.mono (fun b hb=>⟨hF1 b hb,rfl⟩)).mono hF⟩
       ·rw [if_neg e1] at hd'
        by_cases e2:q<j+ds.length
        ·rw [if_pos e2] at hd'
         rw [if_neg (by omega),if_pos (by omega)]
         have hqx:q-j<(Opd.ev σ.t v').cells.length:=by omega
         obtain ⟨d',h5,h6⟩:=hdsl.2 (q-j) _ (List.getElem?_eq_getElem hqx)
         rw [hd'] at h5
         cases h5
         have hqv:q-j<(a.eval v).cells.size:=by omega
         have hvv:=hcr.vr (q-j) _ _ (Array.getElem?_eq_getElem hqv) (List.getElem?_eq_getElem hqx)
         have hrd:=AV.d_rd S hF1 hvv h6 (fun id' b' hid' hib'=>hownF id' b' (by rw [← hids];exact Qc1 (List.getElem?_eq_getElem hqx) hid') hib')
         refine ⟨(a.eval v).cells[q-j],?_,hrd.mono hF⟩
         rw [show p*sz+q-(p*sz+j)=q-j by omega]
         simp [hqv]
        ·rw [if_neg e2] at hd'
         rw [if_neg (by omega),if_neg (by omega)]
         obtain ⟨u,h3,h4⟩:=hvr p q el d hel hd'
         exact ⟨u,by simpa using h3,(h4.mono (fun b hb=>⟨hF1 b hb,rfl⟩)).mono hF⟩
      ·rw [List.getElem?_set_ne (fun e=>hpi e.symm)] at hx
       obtain ⟨u,h3,h4⟩:=hvr p q x d hx hd'
       have hq:q<sz:=by rw [← hsz x (List.mem_of_getElem? hx)];exact (List.getElem?_eq_some_iff.1 hd').1
       refine ⟨u,?_,(h4.mono (fun b hb=>⟨hF1 b hb,rfl⟩)).mono hF⟩
       by_cases hlt:p<i
       ·have:(p+1)*sz≤i*sz:=Nat.mul_le_mul_right _ hlt
        rw [Nat.add_mul] at this
        rw [if_pos (by omega)]
        simpa using h3
       ·have:(i+1)*sz≤p*sz:=Nat.mul_le_mul_right _ (by omega)
        rw [Nat.add_mul] at this
        rw [if_neg (by omega),if_neg (by omega)]
        simpa using h3
    refine Qdl (σ:=σ) hd ?_ SA ?_
    ·simp only [execOp,ho,hae,Sem.run_bind,hrun,Result.andThen_ok,Sem.run_pure]
    ·funext k
     simp only [updL]
     rw [QB]
     by_cases hk:k=id
     ·subst hk
      rw [if_neg hnot,Qd,Qd]
     ·rw [Qe _ _ _ _ hk,Qe _ _ _ _ hk,QB]
 ·cases he
end
end Go.Proofs.Ytephkbajoofeoaa.Am
namespace Go.Proofs.Ytephkbajoofeoaa.Am
open Go Go.RowKit
section
variable {C:Ctx} {U U':Nat→Prop} {σ:St} {a:Act} {w w':World} {ι:Nat→Option Nat}
theorem Y7 (S:Sat C U σ a w ι) {id b:Nat} (hb:U b) (hid:id=b∨(∃ e sz m es,σ.h id = .sl e sz m es)∧(σ.h id).own=true) (hsz:w.heap.size≤w'.heap.size)
  (hold:∀ k,k<w.heap.size→ι id≠some k→w'.heap[k]? = w.heap[k]?) {g:Option Nat} (hg:∀ k,g=some k→C.fr k∧k<w'.heap.size∧(w.heap.size≤k∨ι id=some k)) (B:Blk) :
  (∀ k,Fz C w ι σ.h k→Fz C w' (upd (upd ι id none) b g) (upd (upd σ.h id .dead) b B) k∧w'.heap[k]? = w.heap[k]?) ∧
  (∀ i,Goes w w' ι (upd (upd ι id none) b g) σ.h (upd (upd σ.h id .dead) b B) i):=by
 have hnot:∀ k,Fz C w ι σ.h k→ι id≠some k:=by
  intro k hk hik
  rcases hid with rfl | ⟨_,hown⟩
  ·rw [(S.fresh _ hb).2] at hik;cases hik
  ·have:=hk.2.2 id hik
   rw [hown] at this
   cases this
 refine ⟨fun k hk=>⟨⟨by have:=hk.1;omega,hk.2.1,fun i hik=>?_⟩,hold k hk.1 (hnot k hk)⟩,fun i=>?_⟩
 ·by_cases h1:i=b
  ·subst h1
   rw [Qd] at hik
   obtain ⟨_,_,h3⟩:=hg k hik
   rcases h3 with h3 | h3
   ·have:=hk.1;omega
   ·exact absurd h3 (hnot k hk)
  ·rw [Qe _ _ _ _ h1] at hik ⊢
   by_cases h2:i=id
   ·subst h2;rw [Qd] at hik;cases hik
   ·rw [Qe _ _ _ _ h2] at hik ⊢
    exact hk.2.2 i hik
 ·unfold Goes
  by_cases h1:i=b
  ·subst h1;exact .inl (S.fresh i hb).1
  ·rw [Qe _ _ _ _ h1,Qe _ _ _ _ h1]
   by_cases h2:i=id
   ·subst h2;right;left;rw [Qd]
   ·rw [Qe _ _ _ _ h2,Qe _ _ _ _ h2]
    have hsh:∀ k,ι i=some k→w'.shape? k=w.shape? k:=fun k hk=>by
     unfold World.shape?
     rw [hold k (S.rng i k hk).2 (fun e=>h2 (S.inj i id k hk e))]
    cases hx:σ.h i with
    | none=>exact .inl rfl
    | dead=>exact .inr (.inl rfl)
    | box cs=>exact .inr (.inr ⟨rfl,rfl,hsh⟩)
    | sl e' sz m es=>exact .inr (.inr ⟨rfl,⟨rfl,rfl,rfl⟩,hsh⟩)
theorem Sat.moved (S:Sat C U σ a w ι) {id b:Nat} (hb:U b) (hU':∀ i,U' i→U i∧i≠b) (hid:id=b∨(∃ e sz m es,σ.h id = .sl e sz m es)∧(σ.h id).own=true) (hfra:Fra C w') (hsz:w.heap.size≤w'.heap.size)
  (hold:∀ k,k<w.heap.size→ι id≠some k→w'.heap[k]? = w.heap[k]?) {g:Option Nat} (hg:∀ k,g=some k→C.fr k∧k<w'.heap.size∧(w.heap.size≤k∨ι id=some k)) {B:Blk} (hB:B≠.none∧B≠.dead)
  (hBR:BR w' (Fz C w' (upd (upd ι id none) b g) (upd (upd σ.h id .dead) b B)) (upd (upd ι id none) b g) (upd (upd σ.h id .dead) b B) b B) :
  Sat C U' ⟨σ.t,upd (upd σ.h id .dead) b B,σ.nx⟩ a w' (upd (upd ι id none) b g):=by
 obtain ⟨hF,hgo⟩:=Y7 S hb hid hsz hold hg B
 refine S.evolve hfra hF hgo (fun i cs hx=>by
  by_cases h:i=b
  ·subst h;rw [Qd];exact hB.2
  ·rw [Qe _ _ _ _ h]
   by_cases h2:i=id
   ·subst h2
    rcases hid with h3 | ⟨⟨e,sz,m,es,h3⟩,_⟩
    ·exact absurd h3 h
    ·rw [hx] at h3;cases h3
   ·rw [Qe _ _ _ _ h2,hx];simp) (fun i=>?_) (fun i j k hi hj=>?_) (fun i k hi=>?_) (fun i hi=>?_) (fun i k hi=>?_)
 ·by_cases h1:i=b
  ·subst h1;right;rw [Qd];exact hBR
  ·by_cases h2:i=id
   ·subst h2;right;rw [Qe _ _ _ _ h1,Qd];exact .dead
   ·left
    refine ⟨by rw [Qe _ _ _ _ h1,Qe _ _ _ _ h2],by rw [Qe _ _ _ _ h1,Qe _ _ _ _ h2],fun k hk=>hold k (S.rng i k hk).2 (fun e=>h2 (S.inj i id k hk e))⟩
 ·have key:∀ i k,i≠b→upd (upd ι id none) b g i=some k→i≠id∧ι i=some k:=by
   intro i k h1 hi
   rw [Qe _ _ _ _ h1] at hi
   by_cases h2:i=id
   ·subst h2;rw [Qd] at hi;cases hi
   ·rw [Qe _ _ _ _ h2] at hi;exact ⟨h2,hi⟩
  have clash:∀ i k,i≠b→upd (upd ι id none) b g i=some k→g≠some k:=by
   intro i k h1 hi hgk
   obtain ⟨h2,h3⟩:=key i k h1 hi
   obtain ⟨_,_,h4⟩:=hg k hgk
   rcases h4 with h4 | h4
   ·have:=(S.rng i k h3).2;omega
   ·exact h2 (S.inj i id k h3 h4)
  by_cases h1:i=b
  ·by_cases h2:j=b
   ·rw [h1,h2]
   ·subst h1
    rw [Qd] at hi
    exact absurd hi (clash j k h2 hj)
  ·by_cases h2:j=b
   ·subst h2
    rw [Qd] at hj
    exact absurd hj (clash i k h1 hi)
   ·exact S.inj i j k (key i k h1 hi).2 (key j k h2 hj).2
 ·by_cases h1:i=b
  ·subst h1
   rw [Qd] at hi
   obtain ⟨h2,h3,_⟩:=hg k hi
   exact ⟨.inl h2,h3⟩
  ·rw [Qe _ _ _ _ h1] at hi ⊢
   by_cases h2:i=id
   ·subst h2;rw [Qd] at hi;cases hi
   ·rw [Qe _ _ _ _ h2] at hi ⊢
    obtain ⟨h3,h4⟩:=S.rng i k hi
    exact ⟨h3,by omega⟩
 ·obtain ⟨h1,h2⟩:=hU' i hi
  have h3:=S.fresh i h1
  rw [Qe _ _ _ _ h2,Qe _ _ _ _ h2]
  have h4:i≠id:=by
   rintro rfl
   rcases hid with rfl | ⟨⟨e,sz,m,es,hh⟩,_⟩
   ·exact h2 rfl
   ·rw [h3.1] at hh;cases hh
  rw [Qe _ _ _ _ h4,Qe _ _ _ _ h4]
  exact h3
 ·by_cases h1:i=b
  ·subst h1;rw [Qd];exact hB
  ·rw [Qe _ _ _ _ h1] at hi ⊢
   by_cases h2:i=id
   ·subst h2;rw [Qd] at hi;cases hi
   ·rw [Qe _ _ _ _ h2] at hi ⊢
    exact S.live i k hi
structure Src (w:World) (F:Nat→Prop) (sz:Nat) (u:Value) (xs:List (List D)) (news:List Value):Prop where
 len:news.length=xs.length*sz
 val:(u = .slice none 0 0∧xs=[])∨∃ ad cap,u = .slice (some ad) xs.length cap∧∀ j v,news[j]? = some v→w.cell? (ad.add j)=some v
 one:∀ v,v∈news→v.oneCell'=true
 esz:∀ e,e∈xs→e.length=sz
 rd:∀ (p q:Nat) (el:List D) (d:D),xs[p]? = some el→el[q]? = some d→∃ v,news[p*sz+q]? = some v∧Rd w F v d
theorem Qft {p q sz:Nat} (hq:q<sz):(p*sz+q) / sz=p∧(p*sz+q) % sz=q:=by
 have h:0<sz:=by omega
 rw [Nat.mul_comm]
 constructor
 ·rw [Nat.mul_add_div h,Nat.div_eq_of_lt hq,Nat.add_zero]
 ·rw [Nat.mul_add_mod,Nat.mod_eq_of_lt hq]
theorem Qei (S:Sat C U σ a w ι) {u:Value} {x:AV} {sz:Nat} {xs:List (List D)} (h0:0<sz) (hv:VR w (Fz C w ι σ.h) ι σ.h u x) (hx:x.els σ.h sz=some xs) :
  ∃ news,Src w (Fz C w ι σ.h) sz u xs news:=by
 cases hv with
 | u=>simp [AV.els] at hx
 | c v d hr =>
  cases hr with
  | v=>simp [AV.els] at hx
  | nil sz' =>
   simp only [AV.els] at hx
   split at hx
   ·cases hx;exact ⟨[],by simp,.inl ⟨rfl,rfl⟩,by simp,by simp,by simp⟩
   ·cases hx
  | emp ad cap sz' =>
   simp only [AV.els] at hx
   split at hx
   ·cases hx;exact ⟨[],by simp,.inr ⟨ad,cap,rfl,by simp⟩,by simp,by simp,by simp⟩
   ·cases hx
  | sl bk of len cap sz' es xv hlen hcap hml hszs hb hc hr =>
   simp only [AV.els] at hx
   split at hx
   ·rename_i hs
    simp only [Option.some.injEq] at hx
    subst hx
    subst hs
    subst hlen
    have hat:∀ k,k<es.length*sz'→∃ el d,es[k / sz']? = some el∧el[k % sz']? = some d:=by
     intro k hk
     have h1:k / sz'<es.length:=Nat.div_lt_of_lt_mul (by rw [Nat.mul_comm];exact hk)
     have h2:k % sz'<es[k / sz'].length:=by rw [hszs _ (List.getElem_mem h1)];exact Nat.mod_lt _ h0
     exact ⟨es[k / sz'],_,List.getElem?_eq_getElem h1,List.getElem?_eq_getElem h2⟩
    have hg:∀ k v,((List.range (es.length*sz')).map fun k=>xv (k / sz') (k % sz'))[k]? = some v→k<es.length*sz'∧v=xv (k / sz') (k % sz'):=by
     intro k v hk
     have hlt:=(List.getElem?_eq_some_iff.1 hk).1
     simp only [List.length_map,List.length_range] at hlt
     rw [List.getElem?_map,List.getElem?_range hlt] at hk
     simp at hk
     exact ⟨hlt,hk.symm⟩
    refine ⟨(List.range (es.length*sz')).map fun k=>xv (k / sz') (k % sz'),by simp,.inr ⟨_,cap,rfl,fun j v hj=>?_⟩,fun v hv=>?_,hszs,fun p q el d hp hq=>?_⟩
    ·obtain ⟨hlt,rfl⟩:=hg j v hj
     obtain ⟨el,d,h1,h2⟩:=hat j hlt
     rw [QR]
     have:=hc _ _ el d h1 h2
     rw [show of+j / sz'*sz'+j % sz'=of+j by have:=Nat.div_add_mod' j sz';omega] at this
     exact this
    ·obtain ⟨k,hk,he⟩:=List.getElem_of_mem hv
     obtain ⟨hlt,rfl⟩:=hg k v (by rw [← he];exact List.getElem?_eq_getElem hk)
     obtain ⟨el,d,h1,h2⟩:=hat k hlt
     exact (hr _ _ el d h1 h2).one
    ·have hqs:q<sz':=by rw [← hszs el (List.mem_of_getElem? hp)];exact (List.getElem?_eq_some_iff.1 hq).1
     have hpl:=(List.getElem?_eq_some_iff.1 hp).1
     have hlt:p*sz'+q<es.length*sz':=by
      have:(p+1)*sz'≤es.length*sz':=Nat.mul_le_mul_right _ hpl
      rw [Nat.add_mul] at this
      omega
     obtain ⟨e1,e2⟩:=Qft (p:=p) hqs
     refine ⟨xv p q,?_,hr p q el d hp hq⟩
     rw [List.getElem?_map,List.getElem?_range hlt]
     simp [e1,e2]
   ·cases hx
 | n=>simp only [AV.els,Option.some.injEq] at hx;subst hx;exact ⟨[],by simp,.inl ⟨rfl,rfl⟩,by simp,by simp,by simp⟩
 | rdead _ _ _ _ _ _ hdd=>simp [AV.els,hdd] at hx
 | rnil id e sz' m hi hh =>
  simp only [AV.els,hh] at hx
  split at hx
  ·cases hx;exact ⟨[],by simp,.inl ⟨rfl,rfl⟩,by simp,by simp,by simp⟩
  ·cases hx
 | r id off len bk ao cap et sz' m es hi hh hlen hcap hao htip =>
  simp only [AV.els,hh] at hx
  split at hx
  rotate_left
  ·cases hx
  rename_i hs
  subst hs
  cases hx
  have hblk:=S.blk id
  rw [hh] at hblk
  have hwl:((es.drop off).take len).length=len:=by simp;omega
  have hwg:∀ (i:Nat) (el:List D),((es.drop off).take len)[i]? = some el→i<len∧es[off+i]? = some el:=by
   intro i el hel
   have hi:=(List.getElem?_eq_some_iff.1 hel).1
   rw [List.getElem?_take,if_pos (by omega),List.getElem?_drop] at hel
   exact ⟨by omega,hel⟩
  cases hblk with
  | slnil =>
   simp at hlen
   have:len=0:=by omega
   subst this
   exact ⟨[],by simp,.inr ⟨_,cap,by simp;rfl,by simp⟩,by simp,by simp,by simp⟩
  | sl bk' _ _ _ _ cur Cc hz hi' hbk hC hle hC2 hsz hvr =>
   rw [hi] at hi';cases hi'
   have hbnd:off*sz'+len*sz'≤cur.size:=by
    rw [hC,← Nat.add_mul]
    exact Nat.mul_le_mul_right _ (by omega)
   have hg:∀ k,k<len*sz'→((cur.toList.drop (off*sz')).take (len*sz'))[k]? = cur[off*sz'+k]?:=fun k hk=>by rw [List.getElem?_take,if_pos hk,List.getElem?_drop];simp
   have hnl:((cur.toList.drop (off*sz')).take (len*sz')).length=len*sz':=by simp;omega
   refine ⟨(cur.toList.drop (off*sz')).take (len*sz'),by rw [hnl,hwl],.inr ⟨_,cap,by rw [hwl],fun j v hj=>?_⟩,fun v hv=>?_,fun el hel=>hsz el (List.mem_of_mem_drop (List.mem_of_mem_take hel)),fun p q el d hp hq=>?_⟩
   ·have hjl:j<len*sz':=by rw [← hnl];exact (List.getElem?_eq_some_iff.1 hj).1
    rw [hg j hjl] at hj
    have:len≠0:=by rintro rfl;simp at hjl
    rw [QR,hao this]
    exact YK hbk hj
   ·obtain ⟨k,hk,he⟩:=List.getElem_of_mem hv
    rw [hnl] at hk
    have hk2:=hg k hk
    rw [List.getElem?_eq_getElem (by rw [hnl];exact hk),he] at hk2
    have h1:k / sz'<len:=Nat.div_lt_of_lt_mul (by rw [Nat.mul_comm];exact hk)
    have h1':off+k / sz'<es.length:=by omega
    have h2:k % sz'<es[off+k / sz'].length:=by rw [hsz _ (List.getElem_mem h1')];exact Nat.mod_lt _ h0
    obtain ⟨v',h3,h4⟩:=hvr _ _ _ _ (List.getElem?_eq_getElem h1') (List.getElem?_eq_getElem h2)
    rw [show (off+k / sz')*sz'+k % sz'=off*sz'+k by rw [Nat.add_mul];have:=Nat.div_add_mod' k sz';omega,← hk2] at h3
    cases h3
    exact h4.one
   ·obtain ⟨h3,h4⟩:=hwg p el hp
    obtain ⟨v,h5,h6⟩:=hvr _ q el d h4 hq
    have hqs:q<sz':=by rw [← hsz el (List.mem_of_getElem? h4)];exact (List.getElem?_eq_some_iff.1 hq).1
    refine ⟨v,?_,h6⟩
    have hlt:p*sz'+q<len*sz':=by
     have:(p+1)*sz'≤len*sz':=Nat.mul_le_mul_right _ h3
     rw [Nat.add_mul] at this
     omega
    rw [hg _ hlt,← h5,Nat.add_mul]
    congr 1
    omega
 | pdead=>simp [AV.els] at hx
 | p=>simp [AV.els] at hx
 | q=>simp [AV.els] at hx
 | a=>simp [AV.els] at hx
 | t=>simp [AV.els] at hx
theorem Qa2 {w':World} {F F':Nat→Prop} (hF:∀ b,F b→F' b∧w'.heap[b]? = w.heap[b]?) {sz len:Nat} {es xs:List (List D)} {cur new:Array Value} {news:List Value} {u:Value} (hlen:len≤es.length)
  (hes:∀ (p q:Nat) (el:List D) (d:D),es[p]? = some el→el[q]? = some d→∃ v,cur[p*sz+q]? = some v∧Rd w F v d) (hsz:∀ e,e∈es→e.length=sz) (src:Src w F sz u xs news)
  (h1:∀ k,k<len*sz→new[k]? = cur[k]?) (h2:∀ k,k<xs.length*sz→new[len*sz+k]? = news[k]?) :
  (∀ e,e∈es.take len++xs→e.length=sz)∧∀ (p q:Nat) (el:List D) (d:D),(es.take len++xs)[p]? = some el→el[q]? = some d→∃ v,new[p*sz+q]? = some v∧Rd w' F' v d:=by
 refine ⟨fun e he=>?_,fun p q el d hp hq=>?_⟩
 ·rcases List.mem_append.1 he with he | he
  ·exact hsz e (List.mem_of_mem_take he)
  ·exact src.esz e he
 ·rw [List.getElem?_append,List.length_take,Nat.min_eq_left hlen] at hp
  split at hp
  ·rename_i hlt
   rw [List.getElem?_take,if_pos hlt] at hp
   have hqs:q<sz:=by rw [← hsz el (List.mem_of_getElem? hp)];exact (List.getElem?_eq_some_iff.1 hq).1
   obtain ⟨v,h3,h4⟩:=hes p q el d hp hq
   have:(p+1)*sz≤len*sz:=Nat.mul_le_mul_right _ hlt
   rw [Nat.add_mul] at this
   exact ⟨v,by rw [h1 _ (by omega)];exact h3,h4.mono hF⟩
  ·rename_i hge
   have hqs:q<sz:=by rw [← src.esz el (List.mem_of_getElem? hp)];exact (List.getElem?_eq_some_iff.1 hq).1
   have hpl:=(List.getElem?_eq_some_iff.1 hp).1
   obtain ⟨v,h3,h4⟩:=src.rd (p-len) q el d hp hq
   have h5:(p-len+1)*sz≤xs.length*sz:=Nat.mul_le_mul_right _ hpl
   have h6:p*sz=len*sz+(p-len)*sz:=by rw [← Nat.add_mul];congr 1;omega
   rw [Nat.add_mul] at h5
   refine ⟨v,?_,h4.mono hF⟩
   rw [h6,Nat.add_assoc,h2 _ (by omega)]
   exact h3
theorem Qcd {P:Program} {w:World} {t ty et sz n cap:Nat} {base:Option Addr} (ht:P.underlying t=some (.slice et)) (hsz:szOf P et=some sz) (hc:n≤cap) :
  (Builtin.append_ #[t,t] ty #[.slice base n cap,.slice none 0 0]).run P w = .ok (.slice base n cap) w:=by
 have hr:=fun w=>Zl hsz w
 cases base <;> simp [Builtin.append_,run_underlying ht,hr,Builtin.lenOf,Builtin.firstCells,hc,storeCells]
theorem Qga {P:Program} {w:World} {t ty et sz cap:Nat} {ad:Addr} (ht:P.underlying t=some (.slice et)) (hsz:szOf P et=some sz) :
  (Builtin.append_ #[t,t] ty #[.slice none 0 0,.slice (some ad) 0 cap]).run P w = .ok (.slice none 0 0) w:=by
 have hr:=fun w=>Zl hsz w
 simp [Builtin.append_,run_underlying ht,hr,Builtin.lenOf,Builtin.firstCells,loadCells,loadCellsFrom]
end
section
variable {C:Ctx} {U U':Nat→Prop} {σ:St} {a:Act} {w:World} {ι:Nat→Option Nat} {o:Oper} {Q:Exit→Act→World→Prop} {Γ:Tab} {b:Nat} {e:Eff}
variable (S:Sat C U σ a w ι) (hd:∀ d,o.dst=some d→d<C.N) (hb:U b) (hU':∀ i,U' i→U i∧i≠b)
include S hd hb hU'
theorem QbZ {s x:Operand} {t et sz:Nat} {i:TypeInfo} {z:Value} (ho:o.op = .call { callee:=.builtin .append,args:=#[s,x],argTypes:=#[t,t] }) (ht:C.P.underlying t=some (.slice et)) (hi:C.P.info? et=some i) (hz:i.zero=some z)
  (hsz:i.size=sz) (hzs:z.cells.size=sz) (hby:i.bytes≤32768) (h0:0<sz) {id:Nat} (hid:id=b∨(∃ e sz m es,σ.h id = .sl e sz m es)∧(σ.h id).own=true) (hιn:ι id=none) (hs:a.eval s = .slice none 0 0)
  {xs:List (List D)} {news:List Value} (src:Src w (Fz C w ι σ.h) sz (a.eval x) xs news) (hlim:xs.length≤big) {bl:List (Nat × Blk)} (hbl:updL σ.h bl=upd (upd σ.h id .dead) b (.sl et sz true xs)) :
  o.wp C.P a w (fun a' w'=>SatU C U' (σ.app o.dst ⟨.r sz b 0 xs.length,bl⟩) a' w') Q:=by
 have hlim':xs.length≤4294967296:=hlim
 by_cases hx0:xs=[]
 ·subst hx0
  have hold:∀ k,k<w.heap.size→ι id≠some k→w.heap[k]? = w.heap[k]?:=fun _ _ _=>rfl
  have SA:=S.moved hb hU' hid S.fra (Nat.le_refl _) hold (g:=none) (by simp) (B:=.sl et sz true []) ⟨by simp,by simp⟩ (.slnil et sz true h0 (Qd _ _ _))
  refine ZB (σ:=σ) hd (v:=.slice none 0 0) ?_ SA (.rnil b et sz true (Qd _ _ _) (Qd _ _ _)) hbl
  rcases src.val with ⟨h1,_⟩ | ⟨ad,cap,h1,_⟩
  ·have:=Qcd (P:=C.P) (w:=w) (ty:=o.type) (base:=none) (n:=0) (cap:=0) (sz:=sz) ht (by unfold szOf;rw [hi];simp [hsz]) (Nat.le_refl 0)
   simp [execOp,ho,resolve,invoke,builtin,hs,h1,this]
  ·have:=Qga (P:=C.P) (w:=w) (ty:=o.type) (ad:=ad) (cap:=cap) (sz:=sz) ht (by unfold szOf;rw [hi];simpa using hsz)
   simp only [List.length_nil] at h1
   simp [execOp,ho,resolve,invoke,builtin,hs,h1,this]
 ·rcases src.val with ⟨_,h1⟩ | ⟨ad,cap,h1,hcell⟩
  ·exact absurd h1 hx0
  ·have hpos:0<xs.length:=List.length_pos_iff.2 hx0
   have hnl:news.length=xs.length*i.size:=by rw [src.len,hsz]
   have hbytes:xs.length*i.bytes≤281474976710656:=by
    have:=Nat.mul_le_mul hlim' hby
    omega
   have hrun:=run_append_nil (P:=C.P) w t o.type et i z ht hi hz ad xs.length cap news hnl hcell hpos (by omega) hbytes
   have hge:=grownCap_ge w xs.length 0 et
   have hle:=grownCap_le_maxLen w xs.length 0 et (by simp [maxLen];omega)
   generalize grownCap w xs.length 0 et=G at *
   have hold:∀ k,k<w.heap.size→ι id≠some k→(w.drew.alloc (.cells (news.toArray++Builtin.zeroCells z.cells (G-xs.length)) et)).heap[k]? = w.heap[k]?:=fun k hk _=>Below.heap_alloc w.drew _ k hk
   have hfra:Fra C (w.drew.alloc (.cells (news.toArray++Builtin.zeroCells z.cells (G-xs.length)) et)):=by
    have:Fra C w.drew:=⟨S.fra.os,S.fra.tape,S.fra.output,S.fra.size,S.fra.block⟩
    exact this.alloc _
   have hg:∀ k,some w.heap.size=some k→C.fr k∧k<(w.drew.alloc (.cells (news.toArray++Builtin.zeroCells z.cells (G-xs.length)) et)).heap.size∧(w.heap.size≤k∨ι id=some k):=by
    intro k hk;cases hk;exact ⟨.inl S.fra.size,by simp,.inl (Nat.le_refl _)⟩
   obtain ⟨hF,hgo⟩:=Y7 (w':=w.drew.alloc (.cells (news.toArray++Builtin.zeroCells z.cells (G-xs.length)) et)) S hb hid (by simp) hold (g:=some w.heap.size) hg (.sl et sz true xs)
   have hsize:(news.toArray++Builtin.zeroCells z.cells (G-xs.length)).size=G*sz:=by
    rw [Array.size_append,size_zeroCells,hzs]
    simp only [List.size_toArray,src.len]
    rw [← Nat.add_mul]
    congr 1
    omega
   have hnew:∀ k,k<xs.length*sz→(news.toArray++Builtin.zeroCells z.cells (G-xs.length))[0*sz+k]? = news[k]?:=by
    intro k hk
    rw [Nat.zero_mul,Nat.zero_add,Array.getElem?_append_left (by simpa [src.len] using hk)]
    simp
   obtain ⟨c1,c2⟩:=Qa2 (w':=w.drew.alloc (.cells (news.toArray++Builtin.zeroCells z.cells (G-xs.length)) et)) hF (sz:=sz) (len:=0) (es:=[]) (cur:=#[]) (Nat.zero_le _) (by simp) (by simp) src (by simp) hnew
   have SA:=S.moved hb hU' hid hfra (by simp) hold hg (B:=.sl et sz true xs) ⟨by simp,by simp⟩
    (.sl w.heap.size et sz true xs _ G h0 (Qd _ _ _) (heap_alloc_new w.drew _) hsize (by omega) hle (by simpa using c1) (by simpa using c2))
   refine ZB (σ:=σ) hd ?_ SA (.r b 0 xs.length w.heap.size 0 G et sz true xs (Qd _ _ _) (Qd _ _ _) (by omega) (by omega) (fun _=>by simp) (fun _=>⟨rfl,?_⟩)) hbl
   ·simp [execOp,ho,resolve,invoke,builtin,hs,h1,hrun]
   ·unfold World.shape?
    rw [show (w.drew.alloc (.cells (news.toArray++Builtin.zeroCells z.cells (G-xs.length)) et)).heap[w.heap.size]? = some (.cells (news.toArray++Builtin.zeroCells z.cells (G-xs.length)) et) from heap_alloc_new w.drew _]
    simp [hsize]
theorem Qgp {s x:Operand} {t et sz:Nat} {i:TypeInfo} {z:Value} (ho:o.op = .call { callee:=.builtin .append,args:=#[s,x],argTypes:=#[t,t] }) (ht:C.P.underlying t=some (.slice et)) (hi:C.P.info? et=some i) (hz:i.zero=some z)
  (hsz:i.size=sz) (hzs:z.cells.size=sz) (hby:i.bytes≤32768) (h0:0<sz) {id bk cap len:Nat} {es:List (List D)} {cur:Array Value} (hh:σ.h id = .sl et sz true es) (hbk:ι id=some bk) (hs:a.eval s = .slice (some ⟨bk,0,none⟩) len cap)
  (hheap:w.heap[bk]? = some (.cells cur et (0,0))) (hC:cur.size=cap*sz) (hle:es.length≤cap) (hC2:cap≤maxLen) (hszs:∀ e,e∈es→e.length=sz)
  (hes:∀ (p q:Nat) (el:List D) (d:D),es[p]? = some el→el[q]? = some d→∃ v,cur[p*sz+q]? = some v∧Rd w (Fz C w ι σ.h) v d) (hlen:len≤es.length)
  {xs:List (List D)} {news:List Value} (src:Src w (Fz C w ι σ.h) sz (a.eval x) xs news) (hcond:len=es.length∨len+xs.length≤es.length) (hlim:len+xs.length≤big) {bl:List (Nat × Blk)} (hbl:updL σ.h bl=upd (upd σ.h id .dead) b (.sl et sz true (es.take len++xs))) :
  o.wp C.P a w (fun a' w'=>SatU C U' (σ.app o.dst ⟨.r sz b 0 (len+xs.length),bl⟩) a' w') Q:=by
 have hlim':len+xs.length≤4294967296:=hlim
 have hid:id=b∨(∃ e sz m es,σ.h id = .sl e sz m es)∧(σ.h id).own=true:=.inr ⟨⟨_,_,_,_,hh⟩,by rw [hh];rfl⟩
 have hrng:=S.rng id bk hbk
 have hB0:C.fr bk:=hrng.1.elim (fun h=>h) fun ⟨_,cs,h⟩=>by rw [hh] at h;cases h
 have hl':(es.take len++xs).length=len+xs.length:=by simp;omega
 have place:∀ new:Array Value,new.size=cur.size→(∀ k,k<len*sz→new[k]? = cur[k]?)→(∀ k,k<xs.length*sz→new[len*sz+k]? = news[k]?)→len+xs.length≤cap →
   (execOp a.eval o).run C.P w = .ok (.value (.slice (some ⟨bk,0,none⟩) (len+xs.length) cap)) (w.setRow bk new) →
   o.wp C.P a w (fun a' w'=>SatU C U' (σ.app o.dst ⟨.r sz b 0 (len+xs.length),bl⟩) a' w') Q:=by
  intro new hns hn1 hn2 hcap hrun
  have hold:∀ k,k<w.heap.size→ι id≠some k→(w.setRow bk new).heap[k]? = w.heap[k]?:=fun k _ hk=>setRow_other w bk k new (fun e=>hk (by rw [hbk,e]))
  have hg:∀ k,some bk=some k→C.fr k∧k<(w.setRow bk new).heap.size∧(w.heap.size≤k∨ι id=some k):=by
   intro k hk;cases hk;exact ⟨hB0,by simpa using hrng.2,.inr hbk⟩
  obtain ⟨hF,hgo⟩:=Y7 (w':=w.setRow bk new) S hb hid (by simp) hold (g:=some bk) hg (.sl et sz true (es.take len++xs))
  obtain ⟨c1,c2⟩:=Qa2 (w':=w.setRow bk new) hF hlen hes hszs src hn1 hn2
  have SA:=S.moved hb hU' hid (S.fra.setRow hB0.fra new) (by simp) hold hg (B:=.sl et sz true (es.take len++xs)) ⟨by simp,by simp⟩
   (.sl bk et sz true _ new cap h0 (Qd _ _ _) (setRow_heap w bk cur new et (0,0) hheap) (by omega) (by omega) hC2 c1 c2)
  refine ZB (σ:=σ) hd hrun SA (.r b 0 (len+xs.length) bk 0 cap et sz true _ (Qd _ _ _) (Qd _ _ _) (by omega) hcap (fun _=>by simp) (fun _=>⟨rfl,?_⟩)) hbl
  unfold World.shape?
  rw [setRow_heap w bk cur new et (0,0) hheap]
  simp [hns,hC]
 rcases src.val with ⟨h1,h2⟩ | ⟨ad,cx,h1,hcell⟩
 ·subst h2
  refine place cur rfl (fun _ _=>rfl) (by simp) (by simp;omega) ?_
  have:=Qcd (P:=C.P) (w:=w) (ty:=o.type) (base:=some ⟨bk,0,none⟩) (n:=len) (cap:=cap) (sz:=sz) ht (by unfold szOf;rw [hi];simpa using hsz) (by omega)
  rw [setRow_self w bk cur et (0,0) hheap]
  simp [execOp,ho,resolve,invoke,builtin,hs,h1,this]
 ·have hone:∀ u,u∈news→u.oneCell'=true:=src.one
  by_cases hroom:len+xs.length≤cap
  ·have hfit:len*i.size+news.length≤cur.size:=by
    rw [src.len,hsz,hC,← Nat.add_mul];exact Nat.mul_le_mul_right _ hroom
   have hrun:=run_append_room (P:=C.P) w t o.type et i ht hi bk len cap cur hheap ad xs.length cx news (by rw [src.len,hsz]) hcell hone hroom hfit
   rw [hsz] at hfit
   rw [hsz] at hrun
   have hspl:=Z7 (l:=cur.toList) (xs:=news) (j:=len*sz) (by simpa using hfit)
   have hspn:(splice cur.toList (len*sz) news).length=cur.toList.length:=ZJ (by simpa using hfit)
   refine place (splice cur.toList (len*sz) news).toArray (by simpa using hspn) (fun k hk=>?_) (fun k hk=>?_) hroom ?_
   ·rw [List.getElem?_toArray,hspl k,if_pos hk];simp
   ·rw [List.getElem?_toArray,hspl,if_neg (by omega),if_pos (by rw [src.len];omega)]
    congr 1
    omega
   ·unfold splice
    simp [execOp,ho,resolve,invoke,builtin,hs,h1,hrun]
  ·have hle2:len=es.length:=by omega
   have holds:∀ j v,(cur.toList.take (len*sz))[j]? = some v→w.cell? ((⟨bk,0,none⟩:Addr).add j)=some v:=by
    intro j v hj
    rw [QR,Nat.zero_add]
    rw [List.getElem?_take] at hj
    split at hj
    ·exact YK hheap (by simpa using hj)
    ·cases hj
   have hlc:len*sz≤cur.size:=by rw [hC];exact Nat.mul_le_mul_right _ (by omega)
   have hol:(cur.toList.take (len*sz)).length=len*i.size:=by rw [hsz];simp;omega
   have hbytes:(len+xs.length)*i.bytes≤140737488355328:=by
    have:=Nat.mul_le_mul hlim' hby
    omega
   have hrun:=run_append_grow (P:=C.P) w t o.type et i z ht hi hz ⟨bk,0,none⟩ len cap (cur.toList.take (len*sz)) hol holds ad xs.length cx news (by rw [src.len,hsz]) hcell (by omega) (by omega) (growslice_fits (by omega) hbytes)
   have hge:=grownCap_ge w (len+xs.length) cap et
   have hle3:=grownCap_le_maxLen w (len+xs.length) cap et (by simp [maxLen];omega)
   generalize grownCap w (len+xs.length) cap et=G at *
   generalize hnewd:((cur.toList.take (len*sz)).toArray++news.toArray++Builtin.zeroCells z.cells (G-(len+xs.length)))=new at *
   have hns:new.size=G*sz:=by
    rw [← hnewd,Array.size_append,Array.size_append,size_zeroCells,hzs]
    simp only [List.size_toArray,src.len,hol,hsz]
    rw [← Nat.add_mul,← Nat.add_mul]
    congr 1
    omega
   have hol':(cur.toList.take (len*sz)).length=len*sz:=by rw [hol,hsz]
   have hn1:∀ k,k<len*sz→new[k]? = cur[k]?:=by
    intro k hk
    rw [← hnewd,Array.append_assoc,Array.getElem?_append_left (by simpa [hol'] using hk),List.getElem?_toArray,List.getElem?_take,if_pos hk]
    simp
   have hn2:∀ k,k<xs.length*sz→new[len*sz+k]? = news[k]?:=by
    intro k hk
    rw [← hnewd,Array.append_assoc,Array.getElem?_append_right (by simp [hol'])]
    rw [Array.getElem?_append_left (by simp [src.len,hol'];omega)]
    simp [hol']
   have hold:∀ k,k<w.heap.size→ι id≠some k→(w.drew.alloc (.cells new et)).heap[k]? = w.heap[k]?:=fun k hk _=>Below.heap_alloc w.drew _ k hk
   have hfra:Fra C (w.drew.alloc (.cells new et)):=by
    have:Fra C w.drew:=⟨S.fra.os,S.fra.tape,S.fra.output,S.fra.size,S.fra.block⟩
    exact this.alloc _
   have hg:∀ k,some w.heap.size=some k→C.fr k∧k<(w.drew.alloc (.cells new et)).heap.size∧(w.heap.size≤k∨ι id=some k):=by
    intro k hk;cases hk;exact ⟨.inl S.fra.size,by simp,.inl (Nat.le_refl _)⟩
   obtain ⟨hF,hgo⟩:=Y7 (w':=w.drew.alloc (.cells new et)) S hb hid (by simp) hold (g:=some w.heap.size) hg (.sl et sz true (es.take len++xs))
   obtain ⟨c1,c2⟩:=Qa2 (w':=w.drew.alloc (.cells new et)) hF hlen hes hszs src hn1 hn2
   have SA:=S.moved hb hU' hid hfra (by simp) hold hg (B:=.sl et sz true (es.take len++xs)) ⟨by simp,by simp⟩
    (.sl w.heap.size et sz true _ new G h0 (Qd _ _ _) (heap_alloc_new w.drew _) hns (by omega) hle3 c1 c2)
   refine ZB (σ:=σ) hd ?_ SA (.r b 0 (len+xs.length) w.heap.size 0 G et sz true _ (Qd _ _ _) (Qd _ _ _) (by omega) (by omega) (fun _=>by simp) (fun _=>⟨rfl,?_⟩)) hbl
   ·simp [execOp,ho,resolve,invoke,builtin,hs,h1,hrun]
   ·unfold World.shape?
    rw [show (w.drew.alloc (.cells new et)).heap[w.heap.size]? = some (.cells new et) from heap_alloc_new w.drew _]
    simp [hns]
theorem Qfw {s x:Operand} {s' x':Opd} {t et sz:Nat} {i:TypeInfo} {t1 t2:TypeId} (ho:o.op = .call { callee:=.builtin .append,args:=#[s,x],argTypes:=#[t,t] }) (ht:elOf C.P t=some et) (hsz:szOf C.P et=some sz) (hi:C.P.info? et=some i) (h0:0<sz)
  (hby:i.bytes≤32768) (hz:(QL C.P et).map (·.length)=some sz) (hs:cO C.P t1 s=some s') (hx:cO C.P t2 x=some x') (he:Qc Γ (Opd.ev σ.t) σ.h b (.app s' x' et sz)=some e) :
  o.wp C.P a w (fun a' w'=>SatU C U' (σ.app o.dst e) a' w') Q:=by
 obtain ⟨zs,hzs,hzl⟩:=Option.map_eq_some_iff.1 hz
 obtain ⟨i',z,hi',hzz,hcr⟩:=Yu hzs
 rw [hi] at hi';cases hi'
 obtain ⟨i'',hi'',hsz'⟩:=Ys hsz
 rw [hi] at hi'';cases hi''
 have hzc:z.cells.size=sz:=by rw [(hcr w (fun _=>True) ι σ.h).size];exact hzl
 have h1:=Qi S hs
 simp only [Qc] at he
 split at he
 rotate_left
 ·cases he
 rename_i xs hxs
 obtain ⟨news,src⟩:=Qei S h0 (Qi S hx) hxs
 split at he
 ·rename_i szn hv
  split at he
  rotate_left
  ·cases he
  rename_i hlim
  cases he
  rw [hv] at h1
  have hae:a.eval s = .slice none 0 0:=by
   generalize a.eval s=av at h1
   cases h1;rfl
  refine QbZ S hd hb hU' ho (ZL ht) hi hzz hsz' hzc hby h0 (id:=b) (.inl rfl) (S.fresh b hb).2 hae src hlim ?_
  funext k
  simp only [updL]
  by_cases hk:k=b
  ·subst hk;rw [Qd,Qd]
  ·rw [Qe _ _ _ _ hk,Qe _ _ _ _ hk,Qe _ _ _ _ hk]
 ·rename_i szr id len hv
  split at he
  rotate_left
  ·cases he
  rename_i et' sz' es hh
  split at he
  rotate_left
  ·cases he
  rename_i hc
  obtain ⟨rfl,rfl,hcond,hlim⟩:=hc
  cases he
  rw [hv] at h1
  have hown:(∃ e sz m es,σ.h id = .sl e sz m es)∧(σ.h id).own=true:=⟨⟨_,_,_,_,hh⟩,by rw [hh];rfl⟩
  generalize hae:a.eval s=av at h1
  cases h1 with
  | rdead _ _ _ _ _ _ hdd=>rw [hdd] at hh;cases hh
  | rnil _ e' _ m hi' hh' =>
   rw [hh] at hh'
   cases hh'
   have:=QbZ S hd hb hU' ho (ZL ht) hi hzz hsz' hzc hby h0 (id:=id) (.inr hown) hi' hae src (by simpa using hlim) (bl:=[(id,.dead),(b,.sl _ _ true xs)]) rfl (Q:=Q)
   simpa using this
  | r _ _ _ bk ao cap e' _ m es' hi' hh' hlen hcap hao htip =>
   rw [hh] at hh'
   cases hh'
   obtain ⟨rfl,hshape⟩:=htip rfl
   have hblk:=S.blk id
   rw [hh] at hblk
   cases hblk with
   | slnil _ _ _ _ hin=>rw [hi'] at hin;cases hin
   | sl bk' _ _ _ _ cur Cc hz' hi2 hbk hC hle hC2 hszs hvr =>
    rw [hi'] at hi2;cases hi2
    have hCc:Cc=cap:=by
     unfold World.shape? at hshape
     rw [hbk] at hshape
     simp only [Option.some.injEq,Prod.mk.injEq,true_and] at hshape
     rw [hC] at hshape
     exact Nat.eq_of_mul_eq_mul_right h0 hshape
    subst hCc
    exact Qgp S hd hb hU' ho (ZL ht) hi hzz hsz' hzc hby h0 hh hi' hae hbk hC hle hC2 hszs hvr (by omega) src hcond hlim rfl
 ·cases he
end
end Go.Proofs.Ytephkbajoofeoaa.Am
namespace Go.Proofs.Ytephkbajoofeoaa.Am
open Go Go.RowKit
def noι:Nat→Option Nat:=fun _=>none
def noh:Nat→Blk:=fun _=>.none
def AV.dat:AV→Bool
 | .c _=>true
 | .a cs=>cs.all fun | .c _=>true | _=>false
 | _=>false
def isC:AV→Bool
 | .c _=>true
 | _=>false
structure DR (w:World) (F:Nat→Prop) (vals:Array Value) (cs:List AV):Prop where
 size:vals.size=cs.length
 one:∀ (k:Nat) (v:Value),vals[k]? = some v→v.oneCell'=true
 vr:∀ (k:Nat) (v:Value) (x:AV),vals[k]? = some v→cs[k]? = some x→VR w F noι noh v x
structure OwnV (w:World) (F:Nat→Prop) (v:Value) (o:Option Nat) (e:TypeId) (sz:Nat) (es:List (List D)):Prop where
 vr:VR w F (fun _=>o) (fun _=>.sl e sz true es) v (.r sz 0 0 es.length)
 br:BR w F (fun _=>o) (fun _=>.sl e sz true es) 0 (.sl e sz true es)
def Qx (gb:List (Option Nat × Blk)) (b:Nat):Prop:=∃ B,(some b,B)∈gb
inductive Args (w:World) (F:Nat→Prop):List Value→List AV→List Nat→List (Option Nat × Blk)→Prop where
 | nil:Args w F [] [] [] []
 | dat (v:Value) (x:AV) (vs:List Value) (xs:List AV) (lb:List Nat) (gb:List (Option Nat × Blk)) (h:VR w F noι noh v x) (hr:Args w F vs xs lb gb) (hx:x.dat=true):Args w F (v::vs) (x::xs) lb gb
 | box (b:Nat) (e:TypeId) (vals:Array Value) (cs:List AV) (vs:List Value) (xs:List AV) (lb:List Nat) (gb:List (Option Nat × Blk)) (hb:w.heap[b]? = some (.cells vals e (0,0))) (hd:DR w F vals cs) (hc:cs.all isC=true) (hn:b∉lb)
   (hg:¬ Qx gb b) (hr:Args w F vs xs lb gb):Args w F (.pointer (some ⟨b,0,none⟩)::vs) (.bx cs::xs) (b::lb) gb
 | own (v:Value) (o:Option Nat) (e:TypeId) (sz:Nat) (es:List (List D)) (vs:List Value) (xs:List AV) (lb:List Nat) (gb:List (Option Nat × Blk)) (hv:OwnV w F v o e sz es) (hn:∀ b,o=some b→b∉lb∧¬ Qx gb b)
   (hr:Args w F vs xs lb gb):Args w F (v::vs) (.ow e sz es::xs) lb ((o,.sl e sz true es)::gb)
def Res.h (r:Res):Nat→Blk:=fun i=>(r.hb[i]?).getD .none
def FzC (w w':World) (F0:Nat→Prop) (gb:List (Option Nat × Blk)) (r:Res) (ι:Nat→Option Nat) (b:Nat):Prop :=
 b<w'.heap.size∧(r.al=true∧F0 b∨w.heap.size≤b∨Qx gb b)∧(∀ i,ι i=some b→(r.h i).own=false)∧∀ (k:Nat) (B0 B:Blk),gb[k]? = some (some b,B0)→r.gv[k]? = some B→B.own=false
structure Post (w:World) (F0:Nat→Prop) (lb:List Nat) (gb:List (Option Nat × Blk)) (r:Res) (v:Value) (w':World) (ι:Nat→Option Nat):Prop where
 os:w'.os=w.os
 tape:w'.tape=w.tape
 output:w'.output=w.output
 size:w.heap.size≤w'.heap.size
 block:∀ k,k<w.heap.size→k∉lb→¬ Qx gb k→w'.heap[k]? = w.heap[k]?
 val:VR w' (FzC w w' F0 gb r ι) ι r.h v r.v
 blk:∀ i,BR w' (FzC w w' F0 gb r ι) ι r.h i (r.h i)
 inj:∀ i j b,ι i=some b→ι j=some b→i=j
 rng:∀ i b,ι i=some b→(w.heap.size≤b∨∃ (k:Nat) (B0:Blk),gb[k]? = some (some b,B0)∧r.gv[k]? = some Blk.dead)∧b<w'.heap.size∧i<r.hb.length
 live:∀ i b,ι i=some b→r.h i≠.none∧r.h i≠.dead
 bxl:r.bx.length=lb.length
 bx:∀ (k b:Nat) (cs:List AV),lb[k]? = some b→r.bx[k]? = some cs→cs.all isC=true∧w'.shape? b=w.shape? b∧∃ e vals,w'.heap[b]? = some (.cells vals e (0,0))∧DR w' (FzC w w' F0 gb r ι) vals cs
 gvl:r.gv.length=gb.length
 gv:∀ (k:Nat) (o:Option Nat) (B0 B:Blk),gb[k]? = some (o,B0)→r.gv[k]? = some B→B = .dead∨Same B0 B∧BR w' (FzC w w' F0 gb r ι) (fun _=>o) (fun _=>B) 0 B∧∀ b,o=some b→w'.shape? b=w.shape? b
def Con (P:Program) (f:FuncId) (args:List AV) (r:Res):Prop :=
 ∀ (w:World) (F0:Nat→Prop) (vs:Array Value) (lb:List Nat) (gb:List (Option Nat × Blk)),Args w F0 vs.toList args lb gb→(∀ b,F0 b→b<w.heap.size∧b∉lb∧¬ Qx gb b) →
  Calls P f vs w fun e w'=>∃ v ι,e = .returned v∧Post w F0 lb gb r v w' ι
def Zp (P:Program) (Γ:Tab):Prop:=∀ f args r,Γ f args=some r→Con P f args r
theorem VR.data {w:World} {F F':Nat→Prop} (hF:∀ b,F b→F' b) {ι:Nat→Option Nat} {h:Nat→Blk} {v:Value} {d:D} (hv:VR w F ι h v (.c d)) {ι':Nat→Option Nat} {h':Nat→Blk}:VR w F' ι' h' v (.c d):=by
 cases hv with
 | c v d hr=>exact .c _ _ (hr.mono fun b hb=>⟨hF b hb,rfl⟩)
theorem vr_c {w:World} {F:Nat→Prop} {ι:Nat→Option Nat} {h:Nat→Blk} {v:Value} {d:D} (hr:Rd w F v d):VR w F ι h v (.c d):=.c _ _ hr
theorem VR.shift1 {w:World} {F:Nat→Prop} {ι ι':Nat→Option Nat} {h h':Nat→Blk} {b n:Nat} (hi:∀ i,i<n→ι' (i+b)=ι i∧h' (i+b)=(h i).sh b) (hn:∀ i,n≤i→h i = .none∧ι i=none) {v:Value} {x:AV} (hv:VR w F ι h v x):VR w F ι' h' v (x.sh1 b):=by
 have hlt:∀ i,h i≠.none→i<n:=fun i hx=>by
  rcases Nat.lt_or_ge i n with h1 | h1
  ·exact h1
  ·exact absurd (hn i h1).1 hx
 cases hv with
 | u=>exact .u _
 | c v d hr=>exact .c _ _ hr
 | n sz=>exact .n _
 | rdead v sz id off len h1 hd =>
  have:=hi id (hlt id (by rw [hd];simp))
  exact .rdead _ _ _ _ _ h1 (by rw [this.2,hd];rfl)
 | rnil id e sz m hi' hh =>
  have:=hi id (hlt id (by rw [hh];simp))
  exact .rnil _ e sz m (this.1.trans hi') (by rw [this.2,hh];rfl)
 | r id off len bk ao cap e sz m es hi' hh hlen hcap hao htip =>
  have:=hi id (hlt id (by rw [hh];simp))
  exact .r _ off len bk ao cap e sz m es (this.1.trans hi') (by rw [this.2,hh];rfl) hlen hcap hao htip
 | pdead v id i j h1 hd =>
  have:=hi id (hlt id (by rw [hd];simp))
  exact .pdead _ _ _ _ h1 (by rw [this.2,hd];rfl)
 | p id i j bk hi' hn' hd =>
  have:=hi id (hlt id hn')
  have hs:(h' (id+b)).sz=(h id).sz:=by rw [this.2];cases h id <;> rfl
  rw [← hs]
  refine .p (id+b) i j bk (this.1.trans hi') ?_ ?_
  ·rw [this.2];cases hx:h id <;> simp_all [Blk.sh]
  ·rw [this.2];cases hx:h id <;> simp_all [Blk.sh]
 | q bk o j cs x hb hc hr=>exact .q bk o j cs x hb hc hr
 | a=>exact .u _
 | t=>exact .u _
theorem VR.shift2 {w:World} {F:Nat→Prop} {ι ι':Nat→Option Nat} {h h':Nat→Blk} {b n:Nat} (hi:∀ i,i<n→ι' (i+b)=ι i∧h' (i+b)=(h i).sh b) (hn:∀ i,n≤i→h i = .none∧ι i=none) {v:Value} {x:AV} (hv:VR w F ι h v x):VR w F ι' h' v (x.sh2 b):=by
 cases x with
 | a cs =>
  cases hv with
  | a vs _ hl h1 hv =>
   refine .a vs _ (by simpa using hl) h1 (fun k v x hk hx=>?_)
   simp only [List.getElem?_map,Option.map_eq_some_iff] at hx
   obtain ⟨y,hy,rfl⟩:=hx
   exact (hv k v y hk hy).shift1 hi hn
 | _=>exact hv.shift1 hi hn
theorem VR.shift {w:World} {F:Nat→Prop} {ι ι':Nat→Option Nat} {h h':Nat→Blk} {b n:Nat} (hi:∀ i,i<n→ι' (i+b)=ι i∧h' (i+b)=(h i).sh b) (hn:∀ i,n≤i→h i = .none∧ι i=none) {v:Value} {x:AV} (hv:VR w F ι h v x):VR w F ι' h' v (x.sh b):=by
 cases x with
 | t cs =>
  cases hv with
  | t vs _ hl hv =>
   refine .t vs _ (by simpa using hl) (fun k v x hk hx=>?_)
   simp only [List.getElem?_map,Option.map_eq_some_iff] at hx
   obtain ⟨y,hy,rfl⟩:=hx
   exact (hv k v y hk hy).shift2 hi hn
 | _=>exact hv.shift2 hi hn
theorem VR.up {w:World} {F F':Nat→Prop} (hF:∀ b,F b→F' b) {ι:Nat→Option Nat} {h:Nat→Blk} {v:Value} {x:AV} (hv:VR w F ι h v x):VR w F' ι h v x:=by
 refine hv.mono (fun b hb=>⟨hF b hb,rfl⟩) (fun id=>?_)
 unfold Goes
 cases hx:h id with
 | none=>exact .inl rfl
 | dead=>exact .inr (.inl rfl)
 | box cs=>exact .inr (.inr ⟨rfl,rfl,fun _ _=>rfl⟩)
 | sl e sz m es=>exact .inr (.inr ⟨rfl,⟨rfl,rfl,rfl⟩,fun _ _=>rfl⟩)
theorem BR.shift {w:World} {F F':Nat→Prop} (hF:∀ b,F b→F' b) {ι ι':Nat→Option Nat} {h h':Nat→Blk} {b n:Nat} (hi:∀ i,i<n→ι' (i+b)=ι i∧h' (i+b)=(h i).sh b) (hn:∀ i,n≤i→h i = .none∧ι i=Option.none) {i:Nat} (hin:i<n) {B:Blk} (hv:BR w F ι h i B):BR w F' ι' h' (i+b) (B.sh b):=by
 cases hv with
 | none=>exact .none
 | dead=>exact .dead
 | box bk e vals cs hi' hb hl h1 hv =>
  refine .box bk e vals _ ((hi i hin).1.trans hi') hb (by simpa using hl) h1 (fun k v x hk hx=>?_)
  simp only [List.getElem?_map,Option.map_eq_some_iff] at hx
  obtain ⟨y,hy,rfl⟩:=hx
  exact ((hv k v y hk hy).shift1 hi hn).up hF
 | slnil e sz m hz hi'=>exact .slnil e sz m hz ((hi i hin).1.trans hi')
 | sl bk e sz m es cur Cc hz hi' hb hC hle hC2 hsz hv =>
  exact .sl bk e sz m es cur Cc hz ((hi i hin).1.trans hi') hb hC hle hC2 hsz (fun p q x d hp hq=>let ⟨v,h1,h2⟩:=hv p q x d hp hq;⟨v,h1,h2.mono fun b hb=>⟨hF b hb,rfl⟩⟩)
theorem Qct (l:List Blk):∀ (b:Nat) (h:Nat→Blk) (i:Nat),updL h (QN b l) i=if b≤i∧i<b+l.length then (l[i-b]?).getD .none else h i:=by
 induction l with
 | nil=>intro b h i;simp only [QN,updL,List.length_nil];rw [if_neg (by omega)]
 | cons x l ih =>
  intro b h i
  simp only [QN,updL,List.length_cons]
  rw [ih (b+1) (upd h b x) i]
  by_cases h1:i=b
  ·subst h1
   rw [if_neg (by omega),if_pos (by omega),Qd]
   simp
  ·by_cases h2:b≤i∧i<b+(l.length+1)
   ·rw [if_pos (by omega),if_pos h2]
    rw [show i-b=(i-(b+1))+1 by omega]
    simp
   ·rw [if_neg (by omega),if_neg h2,Qe _ _ _ _ h1]
theorem Q3 (h:Nat→Blk):∀ (l m:List (Nat × Blk)),updL h (l++m)=updL (updL h l) m:=by
 intro l
 induction l generalizing h with
 | nil=>intro m;rfl
 | cons x l ih=>intro m;exact ih _ m
theorem YO:∀ (ids:List Nat) (css:List Blk) (h:Nat→Blk) (i:Nat),ids.Nodup→css.length=ids.length →
  (i∉ids→updL h (QZ ids css) i=h i)∧∀ (k:Nat) (B:Blk),ids[k]? = some i→css[k]? = some B→updL h (QZ ids css) i=B
 | [],css,h,i,_,hl=>by
  have:css=[]:=List.eq_nil_of_length_eq_zero hl
  subst this
  exact ⟨fun _=>rfl,by simp⟩
 | id::ids,[],h,i,_,hl=>by simp at hl
 | id::ids,cs0::css,h,i,hnd,hl=>by
  simp only [List.nodup_cons] at hnd
  obtain ⟨h1,h2⟩:=YO ids css (upd h id cs0) i hnd.2 (by simpa using hl)
  simp only [QZ,updL]
  refine ⟨fun hi=>?_,fun k cs hk hcs=>?_⟩
  ·simp only [List.mem_cons,not_or] at hi
   rw [h1 hi.2,Qe _ _ _ _ hi.1]
  ·cases k with
   | zero =>
    simp at hk hcs
    subst hk;subst hcs
    rw [h1 hnd.1,Qd]
   | succ k =>
    simp at hk hcs
    exact h2 k cs hk hcs
theorem Y5:∀ (ids:List Nat) (css:List (List AV)) (h:Nat→Blk) (i:Nat),ids.Nodup→css.length=ids.length →
  (i∉ids→updL h (QX ids css) i=h i)∧∀ (k:Nat) (cs:List AV),ids[k]? = some i→css[k]? = some cs→updL h (QX ids css) i = .box cs
 | [],css,h,i,_,hl=>by
  have:css=[]:=List.eq_nil_of_length_eq_zero hl
  subst this
  exact ⟨fun _=>rfl,by simp⟩
 | id::ids,[],h,i,_,hl=>by simp at hl
 | id::ids,cs0::css,h,i,hnd,hl=>by
  simp only [List.nodup_cons] at hnd
  obtain ⟨h1,h2⟩:=Y5 ids css (upd h id (.box cs0)) i hnd.2 (by simpa using hl)
  simp only [QX,updL]
  refine ⟨fun hi=>?_,fun k cs hk hcs=>?_⟩
  ·simp only [List.mem_cons,not_or] at hi
   rw [h1 hi.2,Qe _ _ _ _ hi.1]
  ·cases k with
   | zero =>
    simp at hk hcs
    subst hk;subst hcs
    rw [h1 hnd.1,Qd]
   | succ k =>
    simp at hk hcs
    exact h2 k cs hk hcs
end Go.Proofs.Ytephkbajoofeoaa.Am
namespace Go.Proofs.Ytephkbajoofeoaa.Am
open Go Go.RowKit
section
variable {C:Ctx} {U U':Nat→Prop} {σ:St} {a:Act} {w:World} {ι:Nat→Option Nat}
theorem Qgo {h:Nat→Blk} {xs:List AV} {ds:List D} (hx:AV.ds h xs=some ds):(ds.map AV.c).all isC=true:=by
 rw [List.all_eq_true]
 intro x hx
 obtain ⟨d,_,rfl⟩:=List.mem_map.1 hx
 rfl
theorem QcS (h:Nat→Blk) (ms:List Bool) (x:AV) (xs:List AV):AV.argM h ms (x::xs)=match (if ms.headD false then x.argO h else x.arg h),AV.argM h ms.tail xs with
  | some d,some ds=>some (d::ds)
  | _,_=>none:=by
 cases ms with
 | nil=>simp only [AV.argM,AV.argL,List.headD_nil,Bool.false_eq_true,if_false,List.tail_nil];cases AV.arg h x <;> cases AV.argL h xs <;> rfl
 | cons m ms=>rfl
theorem Qab (ms:List Bool) (x:AV) (xs:List AV):owns ms (x::xs)=if ms.headD false then x::owns ms.tail xs else owns ms.tail xs:=by
 cases ms with
 | nil=>simp [owns]
 | cons m ms=>rfl
theorem Qc8 (ms:List Bool) (x:AV) (xs:List AV):dats ms (x::xs)=if ms.headD false then dats ms.tail xs else x::dats ms.tail xs:=by
 cases ms with
 | nil=>simp [dats]
 | cons m ms=>rfl
theorem Qev (h:Nat→Blk) (ms:List Bool):AV.argM h ms []=some []:=by cases ms <;> rfl
theorem Qea (ms:List Bool):owns ms []=[]:=by cases ms <;> rfl
theorem QfF (ms:List Bool):dats ms []=[]:=by cases ms <;> rfl
theorem Qbb (S:Sat C U σ a w ι) {F0:Nat→Prop} (hF:∀ b,Fz C w ι σ.h b→F0 b) :
  ∀ (ms:List Bool) (vs:List Value) (xs ys:List AV),vs.length=xs.length→(∀ (k:Nat) (v:Value) (x:AV),vs[k]? = some v→xs[k]? = some x→VR w (Fz C w ι σ.h) ι σ.h v x)→AV.argM σ.h ms xs=some ys →
   (∀ id b,id∈(dats ms xs).flatMap AV.refs→(∃ e sz m es,σ.h id = .sl e sz m es)→ι id=some b→F0 b)→((dats ms xs).flatMap AV.lent).Nodup→((owns ms xs).flatMap AV.refs).Nodup →
   ∃ lb gb,Args w F0 vs ys lb gb∧(gb.length=((owns ms xs).flatMap AV.refs).length∧∀ (k id:Nat),((owns ms xs).flatMap AV.refs)[k]? = some id→∃ e sz es,gb[k]? = some (ι id,.sl e sz true es)∧σ.h id = .sl e sz true es) ∧
    lb.length=((dats ms xs).flatMap AV.lent).length∧(∀ (k id:Nat),((dats ms xs).flatMap AV.lent)[k]? = some id→∃ b cs,lb[k]? = some b∧ι id=some b∧σ.h id = .box cs)∧(∀ id,id∈(dats ms xs).flatMap AV.refs→∃ e sz m es,σ.h id = .sl e sz m es)
 | ms,[],[],ys,_,_,hy,_,_,_=>by
  rw [Qev] at hy
  cases hy
  rw [Qea,QfF]
  exact ⟨[],[],.nil,⟨rfl,by simp⟩,rfl,by simp,by simp⟩
 | ms,v::vs,x::xs,ys,hl,hv,hy,hown,hnd,hno=>by
  rw [QcS] at hy
  split at hy
  rotate_left
  ·cases hy
  rename_i y ys' hx hys
  cases hy
  have hvx:=hv 0 v x rfl rfl
  obtain ⟨ms',hms⟩:∃ ms',ms'=ms.tail:=⟨_,rfl⟩
  rw [← hms] at hys
  have hgiv:∀ (gb:List (Option Nat × Blk)) (ids:List Nat),gb.length=ids.length→(∀ (k id:Nat),ids[k]? = some id→∃ e sz es,gb[k]? = some (ι id,.sl e sz true es)∧σ.h id = .sl e sz true es)→∀ b,Qx gb b→∃ id,id∈ids∧ι id=some b∧∃ e sz es,σ.h id = .sl e sz true es:=by
   intro gb ids g1 g2 b ⟨B,hm⟩
   obtain ⟨k,hk,hke⟩:=List.getElem_of_mem hm
   obtain ⟨e,sz,es,h5,h6⟩:=g2 k _ (List.getElem?_eq_getElem (by omega))
   rw [List.getElem?_eq_getElem hk,hke] at h5
   simp only [Option.some.injEq,Prod.mk.injEq] at h5
   exact ⟨_,List.getElem_mem _,h5.1.symm,e,sz,es,h6⟩
  cases hm:ms.headD false with
  | true =>
   rw [hm,if_pos rfl] at hx
   have hD:dats ms (x::xs)=dats ms' xs:=by rw [Qc8,hm,if_pos rfl,hms]
   have hO:owns ms (x::xs)=x::owns ms' xs:=by rw [Qab,hm,if_pos rfl,hms]
   rw [hD] at hown hnd ⊢
   rw [hO] at hno ⊢
   simp only [List.flatMap_cons] at hno ⊢
   have hno':=List.nodup_append.1 hno
   obtain ⟨lb,gb,h1,⟨g1,g2⟩,h2,h3,h4⟩:=Qbb S hF ms' vs xs ys' (by simpa using hl) (fun k v x hk hx=>hv (k+1) v x hk hx) hys hown hnd hno'.2.1
   cases x with
   | r sz id off len =>
    simp only [AV.argO] at hx
    split at hx
    rotate_left
    ·cases hx
    rename_i e sz' es hh
    split at hx
    rotate_left
    ·cases hx
    rename_i hc
    obtain ⟨rfl,rfl,rfl⟩:=hc
    cases hx
    refine ⟨lb,(ι id,.sl e sz' true es)::gb,.own v (ι id) e sz' es vs ys' lb gb ⟨?_,?_⟩ (fun b hb=>⟨fun hm=>?_,fun hgv=>?_⟩) h1,⟨by simp [AV.refs,AV.ref1,g1],fun k id' hk=>?_⟩,h2,h3,h4⟩
    ·generalize hn:es.length=n at hvx ⊢
     cases hvx with
     | rdead _ _ _ _ _ _ hd=>rw [hd] at hh;cases hh
     | rnil _ e' _ m hi hh' =>
      have:es=[]:=List.eq_nil_of_length_eq_zero hn
      subst this
      exact .rnil 0 e sz' true hi rfl
     | r _ _ _ b ao cap e' _ m es' hi hh' hlen hcap ho htip =>
      rw [hh] at hh'
      cases hh'
      exact .r 0 0 n b ao cap e sz' true es hi rfl hlen hcap ho htip
    ·have hb:=S.blk id
     rw [hh] at hb
     cases hb with
     | slnil _ _ _ hz hi=>exact .slnil e sz' true hz hi
     | sl bk _ _ _ _ cur Cc hz hi hb hC hle hC2 hsz hv'=>exact .sl bk e sz' true es cur Cc hz hi hb hC hle hC2 hsz (fun i j x d hx hd=>let ⟨v,h1,h2⟩:=hv' i j x d hx hd;⟨v,h1,h2.mono fun b hb=>⟨hF b hb,rfl⟩⟩)
    ·obtain ⟨k,hk,hke⟩:=List.getElem_of_mem hm
     obtain ⟨b',cs',h5,h6,h7⟩:=h3 k _ (List.getElem?_eq_getElem (by omega))
     rw [List.getElem?_eq_getElem hk,hke] at h5
     cases h5
     rw [← S.inj _ _ _ hb h6,hh] at h7
     cases h7
    ·obtain ⟨id',h5,h6,_⟩:=hgiv gb _ g1 g2 b hgv
     have:=S.inj _ _ _ hb h6
     subst this
     exact hno'.2.2 id (by simp [AV.refs,AV.ref1]) id h5 rfl
    ·cases k with
     | zero=>simp [AV.refs,AV.ref1] at hk;subst hk;exact ⟨e,sz',es,rfl,hh⟩
     | succ k=>simp [AV.refs,AV.ref1] at hk;simpa using g2 k id' (by simpa using hk)
   | _=>simp [AV.argO] at hx
  | false =>
  rw [hm] at hx
  simp only [Bool.false_eq_true,if_false] at hx
  have hD:dats ms (x::xs)=x::dats ms' xs:=by rw [Qc8,hm,hms];rfl
  have hO:owns ms (x::xs)=owns ms' xs:=by rw [Qab,hm,hms];rfl
  rw [hD] at hown hnd ⊢
  rw [hO] at hno ⊢
  simp only [List.flatMap_cons] at hown hnd
  have hnd':=(List.nodup_append.1 hnd)
  obtain ⟨lb,gb,h1,hG,h2,h3,h4⟩:=Qbb S hF ms' vs xs ys' (by simpa using hl) (fun k v x hk hx=>hv (k+1) v x hk hx) hys (fun id b hid=>hown id b (List.mem_append.2 (.inr hid))) hnd'.2.1 hno
  have hrd:∀ (v:Value) (x:AV) (d:D),VR w (Fz C w ι σ.h) ι σ.h v x→x.d σ.h=some d→(∀ id,id∈x.ref1→id∈(AV.refs x)∨True)→(∀ id b,id∈x.ref1→ι id=some b→F0 b)→Rd w F0 v d:=fun v x d h5 h6 _ h7=>AV.d_rd S hF h5 h6 h7
  cases x with
  | c d =>
   simp [AV.arg] at hx
   subst hx
   refine ⟨lb,gb,.dat v _ vs ys' lb gb (hvx.data hF) h1 rfl,hG,by simpa [AV.lent] using h2,by simpa [AV.lent] using h3,fun id hid=>?_⟩
   rw [List.flatMap_cons] at hid
   rcases List.mem_append.1 hid with hid | hid
   ·simp [AV.refs,AV.ref1] at hid
   ·exact h4 id hid
  | n sz =>
   simp [AV.arg] at hx
   subst hx
   have:Rd w F0 v (.sl sz []):=AV.d_rd S hF hvx rfl (by simp [AV.ref1])
   refine ⟨lb,gb,.dat v _ vs ys' lb gb (vr_c this) h1 rfl,hG,by simpa [AV.lent] using h2,by simpa [AV.lent] using h3,fun id hid=>?_⟩
   rw [List.flatMap_cons] at hid
   rcases List.mem_append.1 hid with hid | hid
   ·simp [AV.refs,AV.ref1] at hid
   ·exact h4 id hid
  | r sz id off len =>
   simp only [AV.arg] at hx
   split at hx
   rotate_left
   ·cases hx
   rename_i d hd
   cases hx
   have hsl:∃ e sz m es,σ.h id = .sl e sz m es:=by
    simp only [AV.d] at hd
    split at hd
    ·rename_i e sz m es hh;exact ⟨_,_,_,_,hh⟩
    ·cases hd
   have:Rd w F0 v d:=AV.d_rd S hF hvx hd (fun id' b' hid' hi'=>by
    simp [AV.ref1] at hid'
    subst hid'
    exact hown id' b' (List.mem_append.2 (.inl (by simp [AV.refs,AV.ref1]))) hsl hi')
   refine ⟨lb,gb,.dat v _ vs ys' lb gb (vr_c this) h1 rfl,hG,by simpa [AV.lent] using h2,by simpa [AV.lent] using h3,fun id' hid=>?_⟩
   rw [List.flatMap_cons] at hid
   rcases List.mem_append.1 hid with hid | hid
   ·simp [AV.refs,AV.ref1] at hid;subst hid;exact hsl
   ·exact h4 id' hid
  | a cs =>
   simp only [AV.arg] at hx
   split at hx
   rotate_left
   ·cases hx
   rename_i ds hds
   cases hx
   have hdsl:=AV.ds_get hds
   have hrefs:=Jy hds
   have:VR w F0 noι noh v (.a (ds.map .c)):=by
    generalize hcs:cs=cs0 at *
    cases hvx with
    | a us _ hl' h1' hv' =>
     refine .a us _ (by simp [hdsl.1,hl']) h1' (fun k u y hk hy=>?_)
     simp only [List.getElem?_map,Option.map_eq_some_iff] at hy
     obtain ⟨d,hd,rfl⟩:=hy
     have hlt:k<cs0.length:=by rw [← hdsl.1];exact (List.getElem?_eq_some_iff.1 hd).1
     obtain ⟨d',hd',hdd⟩:=hdsl.2 k _ (List.getElem?_eq_getElem hlt)
     rw [hd] at hd'
     cases hd'
     refine vr_c (AV.d_rd S hF (hv' k u _ hk (List.getElem?_eq_getElem hlt)) hdd (fun id b hid hi=>?_))
     have hm:=Jx (List.getElem?_eq_getElem hlt) hid
     exact hown id b (List.mem_append.2 (.inl hm)) (hrefs id hm) hi
   refine ⟨lb,gb,.dat v _ vs ys' lb gb this h1 ?_,hG,by simpa [AV.lent] using h2,by simpa [AV.lent] using h3,fun id' hid=>?_⟩
   ·simp only [AV.dat,List.all_eq_true]
    intro x hx
    obtain ⟨d,_,rfl⟩:=List.mem_map.1 hx
    rfl
   ·rw [List.flatMap_cons] at hid
    rcases List.mem_append.1 hid with hid | hid
    ·exact hrefs id' hid
    ·exact h4 id' hid
  | p id i j =>
   match i,j,hx with
   | 0,0,hx =>
    simp only [AV.arg] at hx
    split at hx
    rotate_left
    ·cases hx
    rename_i cs hh
    split at hx
    rotate_left
    ·cases hx
    rename_i hnr
    split at hx
    rotate_left
    ·cases hx
    rename_i ds hds
    cases hx
    have hdsl:=AV.ds_get hds
    have hblk:=S.blk id
    rw [hh] at hblk
    cases hvx with
    | pdead _ _ _ _ _ hdd=>rw [hdd] at hh;cases hh
    | p _ _ _ bk hi hn' hnd2 =>
     rw [hh]
     simp only [Blk.sz,Nat.mul_zero,Nat.zero_add]
     cases hblk with
     | box bk' et vals _ hi' hb hl' h1' hvr =>
      rw [hi] at hi';cases hi'
      have hnot:bk∉lb:=by
       intro hm
       obtain ⟨k,hk,hke⟩:=List.getElem_of_mem hm
       have hk2:k<((dats ms' xs).flatMap AV.lent).length:=by omega
       obtain ⟨b',cs',h5,h6,_⟩:=h3 k _ (List.getElem?_eq_getElem hk2)
       rw [List.getElem?_eq_getElem hk,hke] at h5
       cases h5
       have:=S.inj _ _ _ hi h6
       exact hnd'.2.2 id (by simp [AV.lent]) _ (List.getElem_mem hk2) this
      refine ⟨bk::lb,gb,.box bk et vals _ vs ys' lb gb hb ⟨by simp [hdsl.1,hl'],h1',fun k u y hk hy=>?_⟩ (Qgo hds) hnot (fun hgv=>?_) h1,hG,by simp [AV.lent,h2],fun k id' hk=>?_,fun id' hid=>?_⟩
      ·simp only [List.getElem?_map,Option.map_eq_some_iff] at hy
       obtain ⟨d,hd,rfl⟩:=hy
       have hlt:k<cs.length:=by rw [← hdsl.1];exact (List.getElem?_eq_some_iff.1 hd).1
       obtain ⟨d',hd',hdd⟩:=hdsl.2 k _ (List.getElem?_eq_getElem hlt)
       rw [hd] at hd'
       cases hd'
       refine vr_c (AV.d_rd S hF (hvr k u _ hk (List.getElem?_eq_getElem hlt)) hdd (fun id b hid hi=>?_))
       have hm:=Jx (List.getElem?_eq_getElem hlt) hid
       rw [hnr] at hm
       cases hm
      ·obtain ⟨id',_,h6,_,_,_,h7⟩:=hgiv gb _ hG.1 hG.2 bk hgv
       rw [← S.inj _ _ _ hi h6,hh] at h7
       cases h7
      ·simp only [List.flatMap_cons,AV.lent,List.singleton_append] at hk
       cases k with
       | zero=>simp at hk;subst hk;exact ⟨bk,cs,rfl,hi,hh⟩
       | succ k=>simp at hk;simpa using h3 k id' hk
      ·rw [List.flatMap_cons] at hid
       rcases List.mem_append.1 hid with hid | hid
       ·simp [AV.refs,AV.ref1] at hid
       ·exact h4 id' hid
   | i+1,_,hx=>simp [AV.arg] at hx
   | 0,j+1,hx=>simp [AV.arg] at hx
  | u=>simp [AV.arg] at hx
  | q=>simp [AV.arg] at hx
  | t=>simp [AV.arg] at hx
  | bx=>simp [AV.arg] at hx
  | ow=>simp [AV.arg] at hx
end
end Go.Proofs.Ytephkbajoofeoaa.Am
namespace Go.Proofs.Ytephkbajoofeoaa.Am
open Go Go.RowKit
section
variable {C:Ctx} {U U':Nat→Prop} {σ:St} {a:Act} {w:World} {ι:Nat→Option Nat}
theorem Same.alive {x y:Blk} (h:Same x y):y.alive=true:=by
 cases x <;> cases y <;> first | rfl | exact h.elim
theorem Qhd {x:Blk} {b:Nat} (h:x≠.none∧x≠.dead):x.sh b≠.none∧x.sh b≠.dead:=by
 cases x <;> simp_all [Blk.sh]
theorem Qe7 {x:Blk} (h:x≠.none∧x≠.dead):fzB x≠.none∧fzB x≠.dead:=by
 cases x <;> simp_all [fzB]
theorem QhM {y:Blk} (h:y.alive=true):y≠.none∧y≠.dead:=by
 cases y <;> simp_all [Blk.alive]
set_option maxHeartbeats 1000000 in
theorem Sat.called (S:Sat C U σ a w ι) {b:Nat} {r:Res} {refs lents hds lb:List Nat} {gb:List (Option Nat × Blk)} {F0:Nat→Prop} {v:Value} {w':World} {ι':Nat→Option Nat}
  (hb:∀ i,b≤i→i<b+16→U i) (hU':∀ i,U' i→U i∧¬ (b≤i∧i<b+16)) (h16:r.hb.length≤16) (hal:(r.bx.isEmpty=true∧r.gv.isEmpty=true)∨r.al=true)
  (hF0:r.al=true→∀ k,F0 k→Fz C w ι (updL σ.h (frz σ.h refs)) k) (hrefs:r.al=true→∀ id,id∈refs→∃ e sz m es,σ.h id = .sl e sz m es)
  (hnd:lents.Nodup) (hlen:lb.length=lents.length) (hlents:∀ (k id:Nat),lents[k]? = some id→∃ b cs,lb[k]? = some b∧ι id=some b∧σ.h id = .box cs)
  (hgnd:hds.Nodup) (hglen:gb.length=hds.length) (hgl:∀ (k id:Nat),hds[k]? = some id→∃ e sz es,gb[k]? = some (ι id,.sl e sz true es)∧σ.h id = .sl e sz true es) (hdr:∀ id,id∈hds→id∉refs)
  (P:Post w F0 lb gb r v w' ι') :
  ∃ h'' ι'',updL σ.h (QN b (r.hb.map (Blk.sh b))++QX lents r.bx++QZ hds r.gv++(if r.al then frz σ.h refs else []))=h''∧Sat C U' ⟨σ.t,h'',σ.nx⟩ a w' ι''∧VR w' (Fz C w' ι'' h'') ι'' h'' v (r.v.sh b):=by
 obtain ⟨n,hn⟩:∃ n,n=r.hb.length:=⟨_,rfl⟩
 obtain ⟨h'',hh''⟩:∃ h'',h''=updL σ.h (QN b (r.hb.map (Blk.sh b))++QX lents r.bx++QZ hds r.gv++(if r.al then frz σ.h refs else [])):=⟨_,rfl⟩
 have hbxl:r.bx.length=lents.length:=P.bxl.trans hlen
 have hgvl:r.gv.length=hds.length:=P.gvl.trans hglen
 have hdsl:∀ id,id∈hds→∃ e sz es,σ.h id = .sl e sz true es:=by
  intro id hm
  obtain ⟨k,hk,hke⟩:=List.getElem_of_mem hm
  obtain ⟨e,sz,es,_,h2⟩:=hgl k _ (List.getElem?_eq_getElem hk)
  rw [hke] at h2
  exact ⟨e,sz,es,h2⟩
 have hdbox:∀ id,id∈lents→id∉hds:=by
  intro id hm hm2
  obtain ⟨k,hk,hke⟩:=List.getElem_of_mem hm
  obtain ⟨_,cs,_,_,h3⟩:=hlents k _ (List.getElem?_eq_getElem hk)
  obtain ⟨e,sz,es,h4⟩:=hdsl id hm2
  rw [hke,h4] at h3
  cases h3
 have hnew:∀ i,i<n→h'' (i+b)=(r.h i).sh b:=by
  intro i hi
  have hfr:=S.fresh (i+b) (hb _ (by omega) (by omega))
  have h1:i+b∉lents:=fun hm=>by
   obtain ⟨k,hk,hke⟩:=List.getElem_of_mem hm
   obtain ⟨_,cs,_,_,h3⟩:=hlents k _ (List.getElem?_eq_getElem hk)
   rw [hke,hfr.1] at h3
   cases h3
  have h2:r.al=true→i+b∉refs:=fun ha hm=>by
   obtain ⟨e,sz,m,es,h3⟩:=hrefs ha _ hm
   rw [hfr.1] at h3
   cases h3
  have h0:i+b∉hds:=fun hm=>by
   obtain ⟨e,sz,es,h3⟩:=hdsl _ hm
   rw [hfr.1] at h3
   cases h3
  have hbase:updL (updL (updL σ.h (QN b (r.hb.map (Blk.sh b)))) (QX lents r.bx)) (QZ hds r.gv) (i+b)=(r.h i).sh b:=by
   rw [(YO hds r.gv _ (i+b) hgnd hgvl).1 h0,(Y5 lents r.bx _ (i+b) hnd hbxl).1 h1,Qct,if_pos ⟨by omega,by simp;omega⟩]
   have:i<r.hb.length:=by omega
   simp [Res.h,this]
  rw [hh'',Q3,Q3,Q3]
  cases ha:r.al
  ·simpa [updL] using hbase
  ·simp only [if_true]
   rw [QB,if_neg (h2 ha)]
   exact hbase
 have hlent:∀ (k id:Nat) (cs:List AV),lents[k]? = some id→r.bx[k]? = some cs→h'' id = .box cs:=by
  intro k id cs hk hcs
  have hm:id∈lents:=List.mem_of_getElem? hk
  obtain ⟨_,cs',_,_,h3⟩:=hlents k id hk
  have h2:r.al=true→id∉refs:=fun ha hm=>by
   obtain ⟨e,sz,m,es,h4⟩:=hrefs ha _ hm
   rw [h3] at h4
   cases h4
  rw [hh'',Q3,Q3,Q3]
  have hbase:updL (updL (updL σ.h (QN b (r.hb.map (Blk.sh b)))) (QX lents r.bx)) (QZ hds r.gv) id = .box cs:=by
   rw [(YO hds r.gv _ id hgnd hgvl).1 (hdbox id hm)]
   exact (Y5 lents r.bx (updL σ.h (QN b (r.hb.map (Blk.sh b)))) id hnd hbxl).2 k cs hk hcs
  cases ha:r.al
  ·simpa [updL] using hbase
  ·simp only [if_true]
   rw [QB,if_neg (h2 ha)]
   exact hbase
 have hhand:∀ (k id:Nat) (B:Blk),hds[k]? = some id→r.gv[k]? = some B→h'' id=B:=by
  intro k id B hk hB
  have hm:id∈hds:=List.mem_of_getElem? hk
  have hbase:=(YO hds r.gv (updL (updL σ.h (QN b (r.hb.map (Blk.sh b)))) (QX lents r.bx)) id hgnd hgvl).2 k B hk hB
  rw [hh'',Q3,Q3,Q3]
  cases ha:r.al
  ·simpa [updL] using hbase
  ·simp only [if_true]
   rw [QB,if_neg (hdr id hm)]
   exact hbase
 have hold:∀ i,¬ (b≤i∧i<b+n)→i∉lents→i∉hds→h'' i=if r.al=true∧i∈refs then fzB (σ.h i) else σ.h i:=by
  intro i h1 h2 h0
  have hbase:updL (updL (updL σ.h (QN b (r.hb.map (Blk.sh b)))) (QX lents r.bx)) (QZ hds r.gv) i=σ.h i:=by
   rw [(YO hds r.gv _ i hgnd hgvl).1 h0,(Y5 lents r.bx _ i hnd hbxl).1 h2,Qct,if_neg (by simpa [← hn] using h1)]
  rw [hh'',Q3,Q3,Q3]
  cases ha:r.al
  ·simpa [updL] using hbase
  ·simp only [if_true,true_and]
   rw [QB]
   split
   ·rfl
   ·exact hbase
 obtain ⟨ι'',hι''⟩:∃ ι'':Nat→Option Nat,ι''=fun i=>if b≤i∧i<b+n then ι' (i-b) else if i∈hds∧(h'' i).alive=false then Option.none else ι i:=⟨_,rfl⟩
 have hιn:∀ i,i<n→ι'' (i+b)=ι' i:=fun i hi=>by rw [hι''];simp only;rw [if_pos (by omega)];congr 1;omega
 have hιq:∀ i,¬ (b≤i∧i<b+n)→ι'' i=if i∈hds∧(h'' i).alive=false then Option.none else ι i:=fun i hi=>by rw [hι''];simp only;rw [if_neg hi]
 have hιo:∀ i,¬ (b≤i∧i<b+n)→i∉hds→ι'' i=ι i:=fun i hi h0=>by rw [hιq i hi,if_neg (fun h=>h0 h.1)]
 have hιa:∀ i,¬ (b≤i∧i<b+n)→(h'' i).alive=true→ι'' i=ι i:=fun i hi h0=>by rw [hιq i hi,if_neg (fun h=>by rw [h0] at h;cases h.2)]
 have hιs:∀ i k,¬ (b≤i∧i<b+n)→ι'' i=some k→ι i=some k∧(i∈hds→(h'' i).alive=true):=fun i k hi hk=>by
  rw [hιq i hi] at hk
  split at hk
  ·cases hk
  ·rename_i h0
   refine ⟨hk,fun hm=>?_⟩
   cases hx:(h'' i).alive with
   | true=>rfl
   | false=>exact absurd ⟨hm,hx⟩ h0
 have hout:∀ i,n≤i→r.h i = .none∧ι' i=Option.none:=fun i hi=>by
  refine ⟨by simp [Res.h,List.getElem?_eq_none (show r.hb.length≤i by omega)],?_⟩
  cases hx:ι' i with
  | none=>rfl
  | some k=>have:=(P.rng i k hx).2.2;omega
 have hshift:∀ i,i<n→ι'' (i+b)=ι' i∧h'' (i+b)=(r.h i).sh b:=fun i hi=>⟨hιn i hi,hnew i hi⟩
 have newnone:∀ i,b≤i∧i<b+n→σ.h i = .none∧ι i=Option.none:=fun i hi=>S.fresh i (hb i hi.1 (by omega))
 have newcase:∀ i,b≤i∧i<b+n→∃ j,j<n∧i=j+b:=fun i hi=>⟨i-b,by omega,by omega⟩
 have lentown:∀ id k,id∈lents→ι id=some k→k∈lb∧(σ.h id).own=true:=by
  intro id k hm hk
  obtain ⟨j,hj,hje⟩:=List.getElem_of_mem hm
  obtain ⟨b',cs,h1,h2,h3⟩:=hlents j _ (List.getElem?_eq_getElem hj)
  rw [hje] at h2 h3
  rw [hk] at h2
  cases h2
  exact ⟨List.mem_of_getElem? h1,by rw [h3];rfl⟩
 have lblent:∀ k,k∈lb→∃ id,id∈lents∧ι id=some k:=by
  intro k hm
  obtain ⟨j,hj,hje⟩:=List.getElem_of_mem hm
  have hj2:j<lents.length:=by omega
  obtain ⟨b',cs,h1,h2,h3⟩:=hlents j _ (List.getElem?_eq_getElem hj2)
  rw [List.getElem?_eq_getElem hj,hje] at h1
  cases h1
  exact ⟨_,List.getElem_mem hj2,h2⟩
 have hheap:∀ k,k<w.heap.size→k∉lb→¬ Qx gb k→w'.heap[k]? = w.heap[k]?:=P.block
 have givid:∀ k,Qx gb k→∃ id,id∈hds∧ι id=some k:=by
  intro k ⟨B,hm⟩
  obtain ⟨j,hj,hje⟩:=List.getElem_of_mem hm
  have hj2:j<hds.length:=by omega
  obtain ⟨e,sz,es,h1,_⟩:=hgl j _ (List.getElem?_eq_getElem hj2)
  rw [List.getElem?_eq_getElem hj,hje] at h1
  simp only [Option.some.injEq,Prod.mk.injEq] at h1
  exact ⟨_,List.getElem_mem hj2,h1.1.symm⟩
 have notgiv:∀ k,Fz C w ι σ.h k→¬ Qx gb k:=by
  intro k hk hg
  obtain ⟨id,h1,h2⟩:=givid k hg
  obtain ⟨e,sz,es,h3⟩:=hdsl id h1
  have:=hk.2.2 id h2
  rw [h3] at this
  cases this
 have givfr:∀ k,Qx gb k→C.fr k:=by
  intro k hg
  obtain ⟨id,h1,h2⟩:=givid k hg
  obtain ⟨e,sz,es,h3⟩:=hdsl id h1
  exact (S.rng id k h2).1.elim (fun h=>h) fun ⟨_,cs,h4⟩=>by rw [h3] at h4;cases h4
 have deadid:∀ k,(∃ (j:Nat) (B0:Blk),gb[j]? = some (some k,B0)∧r.gv[j]? = some Blk.dead)→Qx gb k∧∃ id,id∈hds∧ι id=some k∧h'' id = .dead:=by
  intro k ⟨j,B0,h1,h2⟩
  refine ⟨⟨B0,List.mem_of_getElem? h1⟩,?_⟩
  have hj:j<hds.length:=by have:=(List.getElem?_eq_some_iff.1 h1).1;omega
  obtain ⟨e,sz,es,h3,_⟩:=hgl j _ (List.getElem?_eq_getElem hj)
  rw [h1] at h3
  simp only [Option.some.injEq,Prod.mk.injEq] at h3
  exact ⟨_,List.getElem_mem hj,h3.1.symm,hhand j _ _ (List.getElem?_eq_getElem hj) h2⟩
 have handcase:∀ i,i∈hds→∃ (j:Nat) (e:TypeId) (sz:Nat) (es:List (List D)),σ.h i = .sl e sz true es∧gb[j]? = some (ι i,.sl e sz true es)∧r.gv[j]? = some (h'' i):=by
  intro i hm
  obtain ⟨j,hj,hje⟩:=List.getElem_of_mem hm
  obtain ⟨e,sz,es,h1,h2⟩:=hgl j _ (List.getElem?_eq_getElem hj)
  rw [hje] at h1 h2
  have hj2:j<r.gv.length:=by omega
  have:=hhand j _ _ (List.getElem?_eq_getElem hj) (List.getElem?_eq_getElem hj2)
  rw [hje] at this
  exact ⟨j,e,sz,es,h2,h1,by rw [this];exact List.getElem?_eq_getElem hj2⟩
 have notlb:∀ k,Fz C w ι σ.h k→k∉lb:=by
  intro k hk hm
  obtain ⟨id,h1,h2⟩:=lblent k hm
  have h3:=hk.2.2 id h2
  rw [(lentown id k h1 h2).2] at h3
  cases h3
 have hF:∀ k,Fz C w ι σ.h k→Fz C w' ι'' h'' k∧w'.heap[k]? = w.heap[k]?:=by
  intro k hk
  refine ⟨⟨by have:=hk.1;have:=P.size;omega,hk.2.1,fun i hi=>?_⟩,hheap k hk.1 (notlb k hk) (notgiv k hk)⟩
  by_cases hc:b≤i∧i<b+n
  ·obtain ⟨j,hj,rfl⟩:=newcase i hc
   rw [hιn j hj] at hi
   rcases (P.rng j k hi).1 with h5 | h5
   ·have:=hk.1
    omega
   ·exact absurd (deadid k h5).1 (notgiv k hk)
  ·have hi:=(hιs i k hc hi).1
   have hown:=hk.2.2 i hi
   have hnl:i∉lents:=fun hm=>by rw [(lentown i k hm hi).2] at hown;cases hown
   have hnh:i∉hds:=fun hm=>by
    obtain ⟨e,sz,es,h3⟩:=hdsl i hm
    rw [h3] at hown
    cases hown
   rw [hold i hc hnl hnh]
   split
   ·cases hx:(fzB (σ.h i)).own with
    | false=>rfl
    | true=>rw [Qdw _ hx] at hown;cases hown
   ·exact hown
 have hg:∀ i,Goes w w' ι ι'' σ.h h'' i:=by
  intro i
  unfold Goes
  by_cases hc:b≤i∧i<b+n
  ·exact .inl (newnone i hc).1
  ·by_cases hl:i∈lents
   ·obtain ⟨j,hj,hje⟩:=List.getElem_of_mem hl
    obtain ⟨b',cs,h1,h2,h3⟩:=hlents j _ (List.getElem?_eq_getElem hj)
    have hj2:j<r.bx.length:=by omega
    have h4:=hlent j _ _ (List.getElem?_eq_getElem hj) (List.getElem?_eq_getElem hj2)
    obtain ⟨_,h6,e,vals,h7,h8⟩:=P.bx j b' _ h1 (List.getElem?_eq_getElem hj2)
    rw [hje] at h2 h3 h4
    right;right
    refine ⟨hιo i hc (hdbox i hl),?_,fun k hk=>?_⟩
    ·rw [h3,h4]
     have hblk:=S.blk i
     rw [h3] at hblk
     cases hblk with
     | box bk et vs _ hi' hb' hl' _ _ =>
      rw [h2] at hi';cases hi'
      unfold World.shape? at h6
      rw [hb',h7] at h6
      simp only [Option.some.injEq,Prod.mk.injEq] at h6
      show (r.bx[j]).length=cs.length
      rw [← h8.size,h6.2,hl']
    ·rw [h2] at hk;cases hk;exact h6
   ·by_cases hh:i∈hds
    ·obtain ⟨j,e,sz,es,h1,h2,h3⟩:=handcase i hh
     rcases P.gv j _ _ _ h2 h3 with h4 | ⟨h4,_,h5⟩
     ·exact .inr (.inl h4)
     ·right;right
      exact ⟨hιa i hc h4.alive,by rw [h1];exact h4,h5⟩
    rw [hold i hc hl hh]
    have hsh:∀ k,ι i=some k→w'.shape? k=w.shape? k:=fun k hk=>by
     unfold World.shape?
     rw [hheap k (S.rng i k hk).2 (fun hm=>by
      obtain ⟨id,h1,h2⟩:=lblent k hm
      exact hl (by rw [S.inj i id k hk h2];exact h1)) (fun hm=>by
      obtain ⟨id,h1,h2⟩:=givid k hm
      exact hh (by rw [S.inj i id k hk h2];exact h1))]
    cases hx:σ.h i with
    | none=>exact .inl rfl
    | dead=>right;left;split <;> rfl
    | box cs=>right;right;refine ⟨hιo i hc hh,?_,hsh⟩;split <;> exact rfl
    | sl e sz m es=>right;right;refine ⟨hιo i hc hh,?_,hsh⟩;split <;> exact ⟨rfl,rfl,rfl⟩
 have hFz:∀ k,FzC w w' F0 gb r ι' k→Fz C w' ι'' h'' k:=by
  intro k ⟨h1,h2,h3,h4⟩
  have holdown:∀ i,¬ (b≤i∧i<b+n)→ι i=some k→(h'' i).own=false:=by
   intro i hc hi
   by_cases hh:i∈hds
   ·obtain ⟨j,e,sz,es,g1,g2,g3⟩:=handcase i hh
    rw [hi] at g2
    exact h4 j _ _ g2 g3
   rcases h2 with ⟨ha,h2⟩ | h2 | h2
   ·have hz:=(hF0 ha k h2).2.2 i hi
    rw [QB] at hz
    have hnl:i∉lents:=fun hm=>by
     have h5:=(lentown i k hm hi).2
     obtain ⟨j,hj,hje⟩:=List.getElem_of_mem hm
     obtain ⟨_,cs,_,_,h6⟩:=hlents j _ (List.getElem?_eq_getElem hj)
     rw [hje] at h6
     rw [h6] at hz
     split at hz <;> cases hz
    rw [hold i hc hnl hh]
    split
    ·rename_i hcc;rw [if_pos hcc.2] at hz;exact hz
    ·rename_i hcc
     rw [if_neg (fun hm=>hcc ⟨ha,hm⟩)] at hz
     exact hz
   ·have:=(S.rng i k hi).2;omega
   ·obtain ⟨id,g1,g2⟩:=givid k h2
    rw [S.inj _ _ _ g2 hi] at g1
    exact absurd g1 hh
  refine ⟨h1,?_,fun i hi=>?_⟩
  ·rcases h2 with ⟨ha,h2⟩ | h2 | h2
   ·exact (hF0 ha k h2).2.1
   ·have:=S.fra.size;exact .inr (.inl (by omega))
   ·exact .inr (givfr k h2)
  ·by_cases hc:b≤i∧i<b+n
   ·obtain ⟨j,hj,rfl⟩:=newcase i hc
    rw [hιn j hj] at hi
    rw [hnew j hj]
    have:=h3 j hi
    cases hx:r.h j <;> simp_all [Blk.sh,Blk.own]
   ·exact holdown i hc (hιs i k hc hi).1
 have clash:∀ p j k,¬ (b≤j∧j<b+n)→ι' p=some k→ι'' j=some k→False:=by
  intro p j k hc hp hj
  obtain ⟨h1,h2⟩:=hιs j k hc hj
  rcases (P.rng p k hp).1 with h3 | h3
  ·have:=(S.rng j k h1).2
   omega
  ·obtain ⟨_,id,h4,h5,h6⟩:=deadid k h3
   have:=S.inj _ _ _ h1 h5
   subst this
   have:=h2 h4
   rw [h6] at this
   cases this
 refine ⟨h'',ι'',hh''.symm,S.evolve ?_ hF hg (fun i cs hx=>?_) (fun i=>?_) (fun i j k hi hj=>?_) (fun i k hi=>?_) (fun i hi=>?_) (fun i k hi=>?_),(P.val.shift hshift hout).up hFz⟩
 ·refine ⟨P.os.trans S.fra.os,P.tape.trans S.fra.tape,P.output.trans S.fra.output,Nat.le_trans S.fra.size P.size,fun k hk hX=>?_⟩
  rw [hheap k (by have:=S.fra.size;omega) (fun hm=>?_) (fun hm=>?_)]
  ·exact S.fra.block k hk hX
  ·obtain ⟨id,h1,h2⟩:=lblent k hm
   rcases (S.rng id k h2).1 with h3 | ⟨h3,_⟩
   ·exact h3.fra.elim (fun h=>by omega) hX
   ·exact hX h3
  ·exact (givfr k hm).fra.elim (fun h=>by omega) hX
 ·by_cases hc:b≤i∧i<b+n
  ·rw [(S.fresh i (hb i hc.1 (by omega))).1] at hx;cases hx
  ·by_cases hl:i∈lents
   ·obtain ⟨j,hj,hje⟩:=List.getElem_of_mem hl
    have hj2:j<r.bx.length:=by omega
    have h4:=hlent j _ _ (List.getElem?_eq_getElem hj) (List.getElem?_eq_getElem hj2)
    rw [hje] at h4
    rw [h4];simp
   ·by_cases hh:i∈hds
    ·obtain ⟨e,sz,es,h3⟩:=hdsl i hh
     rw [hx] at h3
     cases h3
    rw [hold i hc hl hh,hx]
    split <;> simp [fzB]
 ·by_cases hc:b≤i∧i<b+n
  ·right
   obtain ⟨j,hj,rfl⟩:=newcase i hc
   rw [hnew j hj]
   exact (P.blk j).shift hFz hshift hout hj
  ·by_cases hl:i∈lents
   ·right
    obtain ⟨j,hj,hje⟩:=List.getElem_of_mem hl
    obtain ⟨b',cs,h1,h2,h3⟩:=hlents j _ (List.getElem?_eq_getElem hj)
    have hj2:j<r.bx.length:=by omega
    have h4:=hlent j _ _ (List.getElem?_eq_getElem hj) (List.getElem?_eq_getElem hj2)
    obtain ⟨h5,_,e,vals,h7,h8⟩:=P.bx j b' _ h1 (List.getElem?_eq_getElem hj2)
    rw [hje] at h2 h4
    rw [h4]
    refine .box b' e vals _ ((hιo i hc (hdbox i hl)).trans h2) h7 h8.size h8.one (fun k v x hk hx=>?_)
    have hx5:=List.all_eq_true.1 h5 x (List.mem_of_getElem? hx)
    cases x with
    | c d=>exact (h8.vr k v _ hk hx).data hFz
    | _=>simp [isC] at hx5
   ·by_cases hh:i∈hds
    ·right
     obtain ⟨j,e,sz,es,h1,h2,h3⟩:=handcase i hh
     rcases P.gv j _ _ _ h2 h3 with h4 | ⟨h4,h5,_⟩
     ·rw [h4];exact .dead
     ·have hal':(h'' i).alive=true:=h4.alive
      have hιi:=hιa i hc hal'
      cases hx:h'' i with
      | sl e' sz' m es' =>
       rw [hx] at h5
       cases h5 with
       | slnil _ _ _ hz hi=>exact .slnil e' sz' m hz (hιi.trans hi)
       | sl bk _ _ _ _ cur Cc hz hi hb hC hle hC2 hsz hv=>exact .sl bk e' sz' m es' cur Cc hz (hιi.trans hi) hb hC hle hC2 hsz (fun i j x d hx hd=>let ⟨v,h1,h2⟩:=hv i j x d hx hd;⟨v,h1,h2.mono fun b hb=>⟨hFz b hb,rfl⟩⟩)
      | none=>exact .none
      | dead=>exact .dead
      | box cs=>rw [hx] at h4;exact h4.elim
    have hsame:∀ k,ι i=some k→w'.heap[k]? = w.heap[k]?:=fun k hk=>hheap k (S.rng i k hk).2 (fun hm=>by
      obtain ⟨id,h1,h2⟩:=lblent k hm
      exact hl (by rw [S.inj i id k hk h2];exact h1)) (fun hm=>by
      obtain ⟨id,h1,h2⟩:=givid k hm
      exact hh (by rw [S.inj i id k hk h2];exact h1))
    have hm:=(S.blk i).mono hF hg (hιo i hc hh) hsame
    have ho:=hold i hc hl hh
    split at ho
    ·right
     rw [ho]
     cases hx:σ.h i with
     | none=>exact .none
     | dead=>exact .dead
     | box cs=>rw [hx] at hm;exact hm
     | sl e sz m es =>
      rw [hx] at hm
      cases hm with
      | slnil _ _ _ hz hi=>exact .slnil e sz false hz hi
      | sl bk _ _ _ _ cur Cc hz hi hb hC hle hC2 hsz hv=>exact .sl bk e sz false es cur Cc hz hi hb hC hle hC2 hsz hv
    ·left
     exact ⟨ho,hιo i hc hh,hsame⟩
 ·by_cases h1:b≤i∧i<b+n
  ·obtain ⟨p,hp,rfl⟩:=newcase i h1
   rw [hιn p hp] at hi
   by_cases h2:b≤j∧j<b+n
   ·obtain ⟨q,hq,rfl⟩:=newcase j h2
    rw [hιn q hq] at hj
    rw [P.inj p q k hi hj]
   ·exact (clash p j k h2 hi hj).elim
  ·by_cases h2:b≤j∧j<b+n
   ·obtain ⟨q,hq,rfl⟩:=newcase j h2
    rw [hιn q hq] at hj
    exact (clash q i k h1 hj hi).elim
   ·exact S.inj i j k (hιs i k h1 hi).1 (hιs j k h2 hj).1
 ·by_cases h1:b≤i∧i<b+n
  ·obtain ⟨p,hp,rfl⟩:=newcase i h1
   rw [hιn p hp] at hi
   have h2:=P.rng p k hi
   have:=S.fra.size
   rcases h2.1 with h5 | h5
   ·exact ⟨.inl (.inl (by omega)),h2.2.1⟩
   ·exact ⟨.inl (givfr k (deadid k h5).1),h2.2.1⟩
  ·have hi:=(hιs i k h1 hi).1
   obtain ⟨h2,h3⟩:=S.rng i k hi
   refine ⟨h2.imp (fun h=>h) fun ⟨hX,cs,hcs⟩=>⟨hX,?_⟩,by have:=P.size;omega⟩
   by_cases hl:i∈lents
   ·obtain ⟨j,hj,hje⟩:=List.getElem_of_mem hl
    have hj2:j<r.bx.length:=by omega
    have h4:=hlent j _ _ (List.getElem?_eq_getElem hj) (List.getElem?_eq_getElem hj2)
    rw [hje] at h4
    exact ⟨_,h4⟩
   ·by_cases hh:i∈hds
    ·obtain ⟨e,sz,es,h5⟩:=hdsl i hh
     rw [hcs] at h5
     cases h5
    rw [hold i h1 hl hh,hcs]
    split <;> exact ⟨_,rfl⟩
 ·obtain ⟨h1,h2⟩:=hU' i hi
  have hc:¬ (b≤i∧i<b+n):=fun h=>h2 ⟨h.1,by omega⟩
  have hf:=S.fresh i h1
  have hh:i∉hds:=fun hm=>by
   obtain ⟨e,sz,es,h3⟩:=hdsl i hm
   rw [hf.1] at h3
   cases h3
  rw [hιo i hc hh]
  have hl:i∉lents:=fun hm=>by
   obtain ⟨j,hj,hje⟩:=List.getElem_of_mem hm
   obtain ⟨_,cs,_,_,h6⟩:=hlents j _ (List.getElem?_eq_getElem hj)
   rw [hje,hf.1] at h6
   cases h6
  rw [hold i hc hl hh,hf.1]
  refine ⟨?_,hf.2⟩
  split <;> rfl
 ·by_cases h1:b≤i∧i<b+n
  ·obtain ⟨p,hp,rfl⟩:=newcase i h1
   rw [hιn p hp] at hi
   rw [hnew p hp]
   exact Qhd (P.live p k hi)
  ·obtain ⟨hi,hi2⟩:=hιs i k h1 hi
   have:=S.live i k hi
   by_cases hl:i∈lents
   ·obtain ⟨j,hj,hje⟩:=List.getElem_of_mem hl
    have hj2:j<r.bx.length:=by omega
    have h4:=hlent j _ _ (List.getElem?_eq_getElem hj) (List.getElem?_eq_getElem hj2)
    rw [hje] at h4
    rw [h4];simp
   ·by_cases hh:i∈hds
    ·exact QhM (hi2 hh)
    rw [hold i h1 hl hh]
    split
    ·exact Qe7 this
    ·exact this
end
end Go.Proofs.Ytephkbajoofeoaa.Am
namespace Go.Proofs.Ytephkbajoofeoaa.Am
open Go Go.RowKit
section
variable {C:Ctx} {U U':Nat→Prop} {σ:St} {a:Act} {w:World} {ι:Nat→Option Nat} {o:Oper} {Q:Exit→Act→World→Prop} {Γ:Tab} {b:Nat} {e:Eff}
theorem QaK {h:Nat→Blk}:∀ {ms:List Bool} {xs ys:List AV},AV.argM h ms xs=some ys→∀ id,id∈(owns ms xs).flatMap AV.refs→∃ e sz es,h id = .sl e sz true es
 | ms,[],ys,_,id,hm=>by rw [Qea] at hm;simp at hm
 | ms,x::xs,ys,hy,id,hm=>by
  rw [QcS] at hy
  split at hy
  rotate_left
  ·cases hy
  rename_i y ys' hx hys
  rw [Qab] at hm
  split at hm
  ·rename_i hmd
   rw [if_pos hmd] at hx
   rw [List.flatMap_cons] at hm
   rcases List.mem_append.1 hm with hm | hm
   ·cases x with
    | r sz id' off len =>
     simp [AV.refs,AV.ref1] at hm
     subst hm
     simp only [AV.argO] at hx
     split at hx
     rotate_left
     ·cases hx
     rename_i hh
     exact ⟨_,_,_,hh⟩
    | _=>simp [AV.argO] at hx
   ·exact QaK hys id hm
  ·exact QaK hys id hm
theorem Qfb (hΓ:Zp C.P Γ) (S:Sat C U σ a w ι) (hd:∀ d,o.dst=some d→d<C.N) (hb:∀ i,b≤i→i<b+16→U i) (hU':∀ i,U' i→U i∧¬ (b≤i∧i<b+16))
  {f : FuncId} {args : Array Operand} {ats : Array TypeId} {xs : List Opd} {fn : Func} (ho : o.op = .call { callee := .value (.func f), args, argTypes := ats }) (hf : C.P.funcs[f]? = some fn) (hbody : fn.body.isSome = true) (hname : (fn.name == "runtime.NumGoroutine") = false)
  {ts:List TypeId} (hx:cOs C.P ts args.toList=some xs) (he:Qc Γ (Opd.ev σ.t) σ.h b (.call f xs)=some e) :
  o.wp C.P a w (fun a' w'=>SatU C U' (σ.app o.dst e) a' w') Q:=by
 simp only [Qc] at he
 split at he
 rotate_left
 ·cases he
 rename_i vs hvs
 split at he
 rotate_left
 ·cases he
 rename_i r hr
 split at he
 rotate_left
 ·cases he
 rename_i hc
 obtain ⟨h16,hal,hnd,hgnd,hdr⟩:=hc
 cases he
 obtain ⟨hl,hvr⟩:=QbM S hx
 obtain ⟨DD,hDD⟩:∃ DD,DD=dats (Γ.md f) (xs.map (Opd.ev σ.t)):=⟨_,rfl⟩
 obtain ⟨HH,hHH⟩:∃ HH,HH=(owns (Γ.md f) (xs.map (Opd.ev σ.t))).flatMap AV.refs:=⟨_,rfl⟩
 have hHsl:=QaK hvs
 rw [← hDD] at hnd hdr
 rw [← hHH] at hgnd hdr hHsl
 rw [← hDD,← hHH]
 have hvals:∀ (k:Nat) (v:Value) (x:AV),(args.toList.map a.eval)[k]? = some v→(xs.map (Opd.ev σ.t))[k]? = some x→VR w (Fz C w ι σ.h) ι σ.h v x:=by
  intro k v x hk hk'
  simp only [List.getElem?_map,Option.map_eq_some_iff] at hk hk'
  obtain ⟨y,hy,rfl⟩:=hk
  obtain ⟨z,hz,rfl⟩:=hk'
  exact hvr k y z hy hz
 have key:∃ F0:Nat→Prop,(∀ k,Fz C w ι σ.h k→F0 k)∧(∀ id k,id∈DD.flatMap AV.refs→(∃ e sz m es,σ.h id = .sl e sz m es)→ι id=some k→F0 k) ∧
   (∀ k,F0 k→k<w.heap.size∧∀ id,ι id=some k→(∀ cs,σ.h id≠.box cs)∧id∉HH)∧(r.al=true→∀ k,F0 k→Fz C w ι (updL σ.h (frz σ.h (DD.flatMap AV.refs))) k):=by
  cases ha:r.al
  ·refine ⟨fun k=>k<w.heap.size∧∀ id,ι id=some k→(∀ cs,σ.h id≠.box cs)∧id∉HH,fun k hk=>⟨hk.1,fun id hi=>⟨fun cs hh=>?_,fun hm=>?_⟩⟩,fun id k hid ⟨e,sz,m,es,hh⟩ hi=>⟨(S.rng id k hi).2,fun id' hi'=>?_⟩,fun k hk=>hk,fun h=>by cases h⟩
   ·have:=hk.2.2 id hi
    rw [hh] at this
    cases this
   ·obtain ⟨e,sz,es,hh⟩:=hHsl id hm
    have:=hk.2.2 id hi
    rw [hh] at this
    cases this
   ·have:=S.inj _ _ _ hi hi'
    subst this
    exact ⟨fun cs hh'=>(by rw [hh] at hh';cases hh'),fun hm=>hdr _ hm hid⟩
  ·obtain ⟨_,hF⟩:=S.freeze (DD.flatMap AV.refs)
   refine ⟨Fz C w ι (updL σ.h (frz σ.h (DD.flatMap AV.refs))),hF,fun id k hid ⟨e,sz,m,es,hh⟩ hi=>?_,fun k hk=>⟨hk.1,fun id hi=>⟨fun cs hh=>?_,fun hm=>?_⟩⟩,fun _ k hk=>hk⟩
   ·obtain ⟨h1,h2⟩:=S.rng id k hi
    refine ⟨h2,.inr (h1.elim (fun h=>h) fun ⟨_,cs,h3⟩=>by rw [hh] at h3;cases h3),fun id' hi'=>?_⟩
    have:=S.inj id' id k hi' hi
    subst this
    rw [QB,if_pos hid,hh]
    rfl
   ·have:=hk.2.2 id hi
    rw [QB,hh] at this
    split at this <;> cases this
   ·obtain ⟨e,sz,es,hh⟩:=hHsl id hm
    have:=hk.2.2 id hi
    rw [QB,if_neg (hdr id hm),hh] at this
    cases this
 obtain ⟨F0,k1,k2,k3,k4⟩:=key
 obtain ⟨lb,gb,a1,⟨g1,g2⟩,a2,a3,a4⟩:=Qbb S k1 (Γ.md f) (args.toList.map a.eval) (xs.map (Opd.ev σ.t)) vs (by simpa using hl) hvals hvs (by rw [← hDD];exact k2) (by rw [← hDD];exact hnd) (by rw [← hHH];exact hgnd)
 rw [← hDD] at a2 a3 a4
 rw [← hHH] at g1 g2
 have hF0:∀ k,F0 k→k<w.heap.size∧k∉lb∧¬ Qx gb k:=by
  intro k hk
  obtain ⟨h1,h2⟩:=k3 k hk
  refine ⟨h1,fun hm=>?_,fun ⟨B,hm⟩=>?_⟩
  rotate_left
  ·obtain ⟨j,hj,hje⟩:=List.getElem_of_mem hm
   have hj2:j<HH.length:=by omega
   obtain ⟨e,sz,es,h3,h4⟩:=g2 j _ (List.getElem?_eq_getElem hj2)
   rw [List.getElem?_eq_getElem hj,hje] at h3
   simp only [Option.some.injEq,Prod.mk.injEq] at h3
   exact (h2 _ h3.1.symm).2 (List.getElem_mem hj2)
  obtain ⟨j,hj,hje⟩:=List.getElem_of_mem hm
  have hj2:j<(DD.flatMap AV.lent).length:=by omega
  obtain ⟨b',cs,h3,h4,h5⟩:=a3 j _ (List.getElem?_eq_getElem hj2)
  rw [List.getElem?_eq_getElem hj,hje] at h3
  cases h3
  exact (h2 _ h4).1 cs h5
 have hcalls:=hΓ f vs r hr w F0 (args.map a.eval) lb gb (by simpa using a1) hF0
 have hrun:(execOp a.eval o).run C.P w = .ok (.enter f (args.map a.eval)) w:=by
  have:execOp a.eval o=callFunc f (#[]++args.map a.eval++#[]):=by
   unfold execOp
   rw [ho]
   rfl
  rw [this]
  have hbn:¬ fn.body=none:=by intro h;rw [h] at hbody;cases hbody
  have hname2 : ¬ fn.name = "runtime.NumGoroutine" := by simpa using hname
  simp [callFunc,hf,hname2,hbn]
 unfold Oper.wp
 rw [hrun]
 simp only [Oper.upon]
 refine hcalls.mono fun en w' ⟨v,ι',he,P⟩=>?_
 subst he
 obtain ⟨h'',ι'',hh,SA,hv⟩:=S.called (refs:=DD.flatMap AV.refs) hb hU' h16 (by simpa using hal) k4 (fun _=>a4) hnd a2 a3 hgnd g1 g2 hdr P
 refine ⟨ι'',?_⟩
 show Sat C U' ⟨putO σ.t o.dst (r.v.sh b),updL σ.h _,σ.nx⟩ _ _ _
 rw [hh]
 cases hod:o.dst with
 | none=>simpa [putO,Act.put] using SA
 | some d=>simpa [putO] using SA.put d (hd d hod) v (r.v.sh b) hv
theorem Qb9 (hΓ:Zp C.P Γ) (S:Sat C U σ a w ι) (hd:∀ d,o.dst=some d→d<C.N) (hb:∀ i,b≤i→i<b+16→U i) (hU':∀ i,U' i→U i∧¬ (b≤i∧i<b+16)) {ao:AOp}
  (hc:cOp C.P o=some ao) (he:Qc Γ (Opd.ev σ.t) σ.h b ao=some e) :
  o.wp C.P a w (fun a' w'=>SatU C U' (σ.app o.dst e) a' w') Q:=by
 have hU1:∀ i,U' i→U i:=fun i hi=>(hU' i hi).1
 have hU2:∀ i,U' i→U i∧i≠b:=fun i hi=>⟨(hU' i hi).1,fun e=>(hU' i hi).2 ⟨by omega,by omega⟩⟩
 have hb0:U b:=hb b (Nat.le_refl _) (by omega)
 unfold cOp at hc
 split at hc
 ·rename_i x ho
  obtain ⟨y,hy,rfl⟩:=Option.map_eq_some_iff.1 hc
  exact Qd4 S hd hU1 (.inl ho) hy he
 ·rename_i x ho
  obtain ⟨y,hy,rfl⟩:=Option.map_eq_some_iff.1 hc
  exact Qd4 S hd hU1 (.inr ho) hy he
 ·rename_i c x y ho
  split at hc
  ·rename_i c' x' y' h1 h2 h3;cases hc;exact Qey S hd hU1 ho h1 h2 h3 he
  ·cases hc
 ·rename_i t ho
  obtain ⟨zs,hz,rfl⟩:=Option.map_eq_some_iff.1 hc
  exact Qe4 S hd hb0 hU2 ho hz he
 ·rename_i t x ho
  split at hc
  ·rename_i x' n h1 h2;cases hc;exact QhR S hd hb0 hU2 ho h1 he
  ·cases hc
 ·rename_i t ps ho
  split at hc
  ·rename_i fs h1
   split at hc
   ·rename_i zs ps' h2 h3
    split at hc
    ·rename_i h4;cases hc;exact QhT S hd hU1 ho h1 h2 h3 h4 he
    ·cases hc
   ·cases hc
  ·cases hc
 ·rename_i t n ps ho
  split at hc
  ·rename_i et h1
   split at hc
   ·rename_i sz xs h2 h3
    split at hc
    ·rename_i h4;obtain ⟨h4,h5,h6,h7⟩:=h4;cases hc;exact Qeo S hd hb0 hU2 ho h1 h2 h3 h4 h5 h6 h7 he
    ·cases hc
   ·cases hc
  ·cases hc
 ·rename_i t x ho
  split at hc
  ·rename_i x' n agg h1 h2 h3
   cases hc
   exact Qex S hd hU1 ho h1 h3 (fun h=>by simp [h,h2]) (fun h=>by simp [h]) he
  ·cases hc
 ·rename_i t x v ho
  split at hc
  ·rename_i x' v' n h1 h2 h3;cases hc;exact QgK S hd hU1 ho h1 h2 h3 he
  ·cases hc
 ·rename_i s x i ho
  split at hc
  ·rename_i fs h1
   split at hc
   ·rename_i f h2
    split at hc
    ·rename_i n x' h3 h4
     split at hc
     ·rename_i h5;cases hc;exact Qhc S hd hU1 ho h1 h2 h3 h5 h4 he
     ·cases hc
    ·cases hc
   ·cases hc
  ·cases hc
 ·rename_i s x i ho
  split at hc
  ·rename_i fs h1
   split at hc
   ·rename_i f h2
    split at hc
    ·rename_i n agg x' h3 h4 h5
     cases hc
     exact Qe3 S hd hU1 ho h1 h2 h4 (fun h=>by simp [h,h3]) (fun h=>by simp [h]) h5 he
    ·cases hc
   ·cases hc
  ·cases hc
 ·rename_i t x i ho
  split at hc
  ·rename_i et h1
   split at hc
   ·rename_i sz x' i' h2 h3 h4
    split at hc
    ·cases hc;exact Qhv S hd hU1 ho h1 h2 h3 h4 he
    ·cases hc
   ·cases hc
  ·cases hc
 ·rename_i t l c ho
  split at hc
  ·rename_i h0
   subst h0
   split at hc
   ·rename_i et h1
    split at hc
    ·rename_i sz zs i h2 h3 h4
     split at hc
     ·rename_i h5;cases hc;exact s_mk S hd hb0 hU2 ho h1 h2 h3 h4 h5.1 h5.2 he
     ·cases hc
    ·cases hc
   ·cases hc
  ·cases hc
 ·rename_i t x lo hi ho
  split at hc
  ·rename_i et h1
   split at hc
   ·rename_i sz x' lo' hi' h2 h3 h4 h5
    split at hc
    ·rename_i h6;cases hc;exact Qgw S hd hU1 ho h1 h2 h6 h3 h4 h5 he
    ·cases hc
   ·cases hc
  ·cases hc
 ·rename_i op t x y ty ho
  split at hc
  ·rename_i x' y' h1 h2
   split at hc
   ·rename_i n h3
    split at hc
    ·cases hc;exact QdJ S hd hU1 (neg:=false) ho h3 h1 h2 he
    ·cases hc;exact QdJ S hd hU1 (neg:=true) ho h3 h1 h2 he
    ·cases hc
   ·split at hc
    ·cases hc;exact QbI S hd hU1 ho h1 h2 he
    ·rename_i h4
     split at hc
     ·cases hc;exact Qde S hd hU1 (neg:=false) ho h4 h1 h2 he
     ·cases hc;exact Qde S hd hU1 (neg:=true) ho h4 h1 h2 he
     ·cases hc
    ·cases hc;exact QbI S hd hU1 ho h1 h2 he
    ·cases hc
  ·cases hc
 ·rename_i t x ho
  obtain ⟨y,hy,rfl⟩:=Option.map_eq_some_iff.1 hc
  exact QhH S hd hU1 ho hy he
 ·rename_i t x ho
  obtain ⟨y,hy,rfl⟩:=Option.map_eq_some_iff.1 hc
  exact Qes S hd hU1 ho hy he
 ·rename_i s d x ho
  split at hc
  ·rename_i k0 k x' h1 h2 h3;cases hc;exact QhI S hd hU1 ho h1 h2 h3 he
  ·cases hc
 ·rename_i x i ho
  obtain ⟨y,hy,rfl⟩:=Option.map_eq_some_iff.1 hc
  exact QfZ S hd hU1 ho hy he
 ·rename_i x ho
  obtain ⟨y,hy,rfl⟩:=Option.map_eq_some_iff.1 hc
  exact QhQ S hd hU1 ho hy he
 ·rename_i c ho
  obtain ⟨callee,args,ats⟩:=c
  simp only at hc
  split at hc
  ·rename_i f
   split at hc
   ·rename_i fn xs h1 h2
    split at hc
    ·rename_i h3;cases hc;exact Qfb hΓ S hd hb hU' ho h1 h3.1 h3.2 h2 he
    ·cases hc
   ·cases hc
  ·rename_i bi
   unfold cBi at hc
   split at hc
   ·rename_i x t ha ht
    have ha':args = #[x]:=by cases args;simp at ha;rw [ha]
    have ht':ats = #[t]:=by cases ats;simp at ht;rw [ht]
    subst ha';subst ht'
    split at hc
    ·rename_i et x' h1 h2;cases hc;exact Qfu S hd hU1 ho h1 h2 he
    ·cases hc
   ·rename_i s x t t' ha ht
    have ha':args = #[s,x]:=by cases args;simp at ha;rw [ha]
    have ht':ats = #[t,t']:=by cases ats;simp at ht;rw [ht]
    subst ha';subst ht'
    split at hc
    ·rename_i h0
     subst h0
     split at hc
     ·rename_i et h1
      split at hc
      ·rename_i sz s' x' i h2 h3 h4 h5
       split at hc
       ·rename_i h6;cases hc;exact Qfw S hd hb0 hU2 ho h1 h2 h5 h6.1 h6.2.1 h6.2.2 h3 h4 he
       ·cases hc
      ·cases hc
     ·cases hc
    ·cases hc
   ·rename_i x y t t' ha ht
    have ha':args = #[x,y]:=by cases args;simp at ha;rw [ha]
    have ht':ats = #[t,t']:=by cases ats;simp at ht;rw [ht]
    subst ha';subst ht'
    split at hc
    ·rename_i x' y' h1 h2;cases hc;exact s_mm S hd hU1 (mx:=false) ho h1 h2 he
    ·cases hc
   ·rename_i x y t t' ha ht
    have ha':args = #[x,y]:=by cases args;simp at ha;rw [ha]
    have ht':ats = #[t,t']:=by cases ats;simp at ht;rw [ht]
    subst ha';subst ht'
    split at hc
    ·rename_i x' y' h1 h2;cases hc;exact s_mm S hd hU1 (mx:=true) ho h1 h2 he
    ·cases hc
   ·cases hc
  ·cases hc
 ·cases hc
end
end Go.Proofs.Ytephkbajoofeoaa.Am

