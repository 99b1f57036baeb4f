/- -/
import Derived.Test.YtdplaepmjogjjaaGreatVEG1
set_option linter.all false
namespace Go.Proofs.YtdplaepmjogjjaaGreat.Am
open Go Go.RowKit
theorem CR.mono {w w':World} {F F':Nat→Prop} {ι ι':Io} {h h':Nat→Blk} (hF:∀ b,F b→F' b∧w'.heap[b]? = w.heap[b]?)
  (hg:∀ id,Goes w w' ι ι' h h' id) {cur:Array Value} {cs:List AV} (hc:CR w F ι h cur cs):CR w' F' ι' h' cur cs :=
 ⟨hc.size,hc.one,fun k v x hk hx=>(hc.vr k v x hk hx).mono hF hg⟩
section
variable {C:Ctx} {U U':Nat→Prop} {σ:St} {a:Act} {w:World} {ι:Io}
theorem QcL (S:Sat C U σ a w ι) (b:Nat) (hb:U b) (vals:Array Value) (e:TypeId) (B:Blk) :
  (∀ k,Fz C w ι σ.h k→Fz C (w.alloc (.cells vals e)) (ι.up b (some w.heap.size) 0) (upd σ.h b B) k∧(w.alloc (.cells vals e)).heap[k]? = w.heap[k]?) ∧
  (∀ id,Goes w (w.alloc (.cells vals e)) ι (ι.up b (some w.heap.size) 0) σ.h (upd σ.h b B) id)∧∀ id,id≠b→Rest w (w.alloc (.cells vals e)) ι (ι.up b (some w.heap.size) 0) id:=by
 have hold:∀ k,k<w.heap.size→(w.alloc (.cells vals e)).heap[k]? = w.heap[k]?:=fun k hk=>Below.heap_alloc _ _ _ hk
 have hrest:∀ id,id≠b→Rest w (w.alloc (.cells vals e)) ι (ι.up b (some w.heap.size) 0) id:=fun id h =>
  ⟨Io.up_ne _ _ _ _ _ h,Io.upo_ne _ _ _ _ _ h,fun k hk=>hold k (S.rng id k hk).2,fun k p hk=>⟨hk,hold k (S.lab k id p hk).lt⟩⟩
 refine ⟨fun k hk=>⟨⟨by have:=hk.1;simp;omega,hk.2.1,fun id hid=>?_,hk.2.2.2⟩,hold k hk.1⟩,fun id=>?_,hrest⟩
 ·by_cases h:id=b
  ·subst h
   rw [Io.up_same] at hid
   cases hid
   exact absurd hk.1 (Nat.lt_irrefl _)
  ·rw [Io.up_ne _ _ _ _ _ h] at hid
   rw [Qq _ _ _ _ h]
   exact hk.2.2.1 id hid
 ·by_cases h:id=b
  ·subst h;exact .inl (S.fresh id hb).1
  ·exact (hrest id h).goes (Qq _ _ _ _ h)
theorem Fra.alloc {C:Ctx} {w:World} (h:Fra C w) (o:Obj):Fra C (w.alloc o) :=
 ⟨h.os,h.tape,h.output,by have:=h.size;simp;omega,fun k hk hx=>by rw [Below.heap_alloc _ _ _ (by have:=h.size;omega)];exact h.block k hk hx⟩
theorem Sat.alloc (S:Sat C U σ a w ι) (b:Nat) (hb:U b) (hU':∀ i,U' i→U i∧i≠b) (vals:Array Value) (e:TypeId) (B:Blk) (hB:B≠.none∧B≠.dead)
  (hBR:BR (w.alloc (.cells vals e)) (Fz C (w.alloc (.cells vals e)) (ι.up b (some w.heap.size) 0) (upd σ.h b B)) (ι.up b (some w.heap.size) 0) (upd σ.h b B) b B) :
  Sat C U' ⟨σ.t,upd σ.h b B,σ.nx⟩ a (w.alloc (.cells vals e)) (ι.up b (some w.heap.size) 0):=by
 obtain ⟨hF,hg,hrest⟩:=QcL S b hb vals e B
 refine S.evolve (S.fra.alloc _) hF hg (fun i cs hx=>by
  by_cases h:i=b
  ·subst h;rw [Qu];exact hB.2
  ·rw [Qq _ _ _ _ h,hx];simp) (fun id=>?_) (fun i j k hi hj=>?_) (fun i k hi=>?_) (fun i hi=>?_) (fun i k hi=>?_) (fun k id p hk=>?_)
 ·by_cases h:id=b
  ·subst h;right;rw [Qu];exact hBR
  ·left
   exact ⟨Qq _ _ _ _ h,hrest id h⟩
 ·by_cases h1:i=b
  ·by_cases h2:j=b
   ·rw [h1,h2]
   ·subst h1
    rw [Io.up_same] at hi
    rw [Io.up_ne _ _ _ _ _ h2] at hj
    cases hi
    exact absurd (S.rng j _ hj).2 (Nat.lt_irrefl _)
  ·rw [Io.up_ne _ _ _ _ _ h1] at hi
   by_cases h2:j=b
   ·subst h2
    rw [Io.up_same] at hj
    cases hj
    exact absurd (S.rng i _ hi).2 (Nat.lt_irrefl _)
   ·rw [Io.up_ne _ _ _ _ _ h2] at hj
    exact S.inj i j k hi hj
 ·by_cases h1:i=b
  ·subst h1
   rw [Io.up_same] at hi
   cases hi
   exact ⟨.inl (.inl S.fra.size),by simp⟩
  ·rw [Io.up_ne _ _ _ _ _ h1] at hi
   rw [Qq _ _ _ _ h1]
   obtain ⟨h2,h3⟩:=S.rng i k hi
   exact ⟨h2,by simp;omega⟩
 ·obtain ⟨h1,h2⟩:=hU' i hi
  rw [Io.up_ne _ _ _ _ _ h2,Qq _ _ _ _ h2]
  exact S.fresh i h1
 ·by_cases h1:i=b
  ·subst h1;rw [Qu];exact hB
  ·rw [Io.up_ne _ _ _ _ _ h1] at hi
   rw [Qq _ _ _ _ h1]
   exact S.live i k hi
 ·have L:=S.lab k id p hk
  refine ⟨L.pn,?_,L.fr,by have:=L.lt;simp;omega,fun i hi=>?_⟩
  ·have h8:id≠b:=fun h=>by subst h;obtain ⟨_,_,_,_,_,_,h9⟩:=L.dp;rw [(S.fresh id hb).1] at h9;cases h9
   rw [Qq _ _ _ _ h8]
   exact L.dp
  ·by_cases h1:i=b
   ·subst h1
    rw [Io.up_same] at hi
    cases hi
    exact absurd L.lt (Nat.lt_irrefl _)
   ·rw [Io.up_ne _ _ _ _ _ h1] at hi
    exact L.ne i hi
theorem Jb {o:Oper} {v:Value} {x:AV} {w':World} {ι':Io} {h':Nat→Blk} {Q:Exit→Act→World→Prop}
  (hd:∀ d,o.dst=some d→d<C.N) (hrun:(execOp a.eval o).run C.P w = .ok (.value v) w') (S':Sat C U' ⟨σ.t,h',σ.nx⟩ a w' ι') (hv:VR w' (Fz C w' ι' h') ι' h' v x) {bl:List (Nat × Blk)} (hbl:updL σ.h bl=h') :
  o.wp C.P a w (fun a' w'=>SatU C U' (σ.app o.dst ⟨x,bl⟩) a' w') Q:=by
 unfold Oper.wp
 rw [hrun]
 simp only [Oper.upon]
 refine ⟨ι',?_⟩
 cases ho:o.dst with
 | none=>simpa [St.app,putO,hbl,Act.put] using S'
 | some d=>simpa [St.app,putO,hbl] using S'.put d (hd d ho) v x hv
theorem QhY {o:Oper} {w':World} {ι':Io} {h':Nat→Blk} {Q:Exit→Act→World→Prop}
  (hd:∀ d,o.dst=some d→d<C.N) (hrun:(execOp a.eval o).run C.P w = .ok .skip w') (S':Sat C U' ⟨σ.t,h',σ.nx⟩ a w' ι') {bl:List (Nat × Blk)} (hbl:updL σ.h bl=h') :
  o.wp C.P a w (fun a' w'=>SatU C U' (σ.app o.dst ⟨.u,bl⟩) a' w') Q:=by
 unfold Oper.wp
 rw [hrun]
 simp only [Oper.upon]
 refine ⟨ι',?_⟩
 cases ho:o.dst with
 | none=>simpa [St.app,putO,hbl,Act.put] using S'
 | some d=>simpa [St.app,putO,hbl] using S'.put d (hd d ho) undef .u (.u _)
end
theorem Rd.pl {w w':World} {F:Nat→Prop} {v:Value} {d:D} (h:Rd w F v d) (hd:d.pl=true) (K:Nat→Option (Nat × Pth)) (id:Nat) (p:Pth):RL w' K id p v d:=by
 cases h with
 | v x h=>exact .v _ _ h
 | nil=>exact .nil _ _
 | emp=>exact .emp _ _ _ _
 | sl b o len cap sz es x hlen =>
  cases es with
  | nil=>simp at hlen;subst hlen;exact .emp _ _ _ _
  | cons=>simp [D.pl] at hd
theorem RM.pl {w:World} {F:Nat→Prop} {ι:Io} {id i j:Nat} {m:Mo} {v:Value} {d:D} (h:Rd w F v d) (hd:m.gen.isSome=true→d.pl=true):RM w F ι id m i j v d:=by
 cases m with
 | dp g t H=>exact ⟨h.one,fun _=>h.pl (hd rfl) _ _ _⟩
 | _=>exact h
def posL (i:Nat):Nat→List AV→List (Nat × Nat × Nat)
 | _,[]=>[]
 | j,x::xs=>(match x with | .r _ n _ _=>[(i,j,n)] | _=>[])++posL i (j+1) xs
theorem Qiy {i:Nat}:∀ {xs:List AV} {j:Nat},(posL i j xs).map (fun x=>x.2.2)=AV.mrefsL xs
 | [],j=>rfl
 | x::xs,j=>by
  simp only [posL,List.map_append,AV.mrefsL,Qiy (xs:=xs)]
  congr 1
  cases x <;> rfl
theorem Qe4 {i:Nat}:∀ {xs:List AV} {j i' j' n:Nat},(i',j',n)∈posL i j xs→i'=i∧∃ k sz off len,j'=j+k∧xs[k]? = some (.r sz n off len)
 | [],j,i',j',n,h=>by simp [posL] at h
 | x::xs,j,i',j',n,h=>by
  simp only [posL,List.mem_append] at h
  rcases h with h | h
  ·cases x with
   | r sz id off len=>simp at h;obtain ⟨rfl,rfl,rfl⟩:=h;exact ⟨rfl,0,sz,off,len,rfl,rfl⟩
   | _=>simp at h
  ·obtain ⟨h1,k,sz,off,len,h2,h3⟩:=Qe4 h
   exact ⟨h1,k+1,sz,off,len,by omega,by simpa using h3⟩
theorem Qjz {i:Nat}:∀ {xs:List AV} {j k sz n off len:Nat},xs[k]? = some (.r sz n off len)→(i,j+k,n)∈posL i j xs
 | [],j,k,sz,n,off,len,h=>by simp at h
 | x::xs,j,0,sz,n,off,len,h=>by simp at h;subst h;simp [posL]
 | x::xs,j,k+1,sz,n,off,len,h=>by
  simp only [posL,List.mem_append]
  right
  have:=Qjz (i:=i) (j:=j+1) (k:=k) (xs:=xs) (by simpa using h)
  rwa [show j+1+k=j+(k+1) by omega] at this
theorem Qaj {h:Nat→Blk} {id g i:Nat}:∀ {xs:List AV} {j k:Nat} {y:AV},AV.movL h id g i j xs=true→xs[k]? = some y→y.mov h id g i (j+k)=true
 | [],j,k,y,_,h=>by simp at h
 | x::xs,j,0,y,hm,h=>by simp only [AV.movL,Bool.and_eq_true] at hm;simp at h;subst h;exact hm.1
 | x::xs,j,k+1,y,hm,h=>by
  simp only [AV.movL,Bool.and_eq_true] at hm
  have:=Qaj hm.2 (by simpa using h:xs[k]? = some y)
  rwa [show j+1+k=j+(k+1) by omega] at this
theorem QjA (g:Nat→Blk):∀ (ids:List Nat) (i:Nat),updL g (kil ids) i=if i∈ids then .dead else g i
 | [],i=>by simp [kil,updL]
 | id::ids,i=>by
  simp only [kil,updL]
  rw [QjA (upd g id .dead) ids i]
  by_cases h1:i∈ids
  ·simp [h1]
  ·by_cases h2:i=id
   ·subst h2;simp [h1,upd]
   ·simp [h1,h2,upd]
theorem Sat.merges {C:Ctx} {U:Nat→Prop} {a:Act} {w:World} {id sz g:Nat} {t:Bool} {H:Pth} {e:TypeId} {es:List (List D)} {tt:Nat→AV} {nx:Nat}:∀ (L:List (Nat × Nat × Nat)) {h:Nat→Blk} {ι:Io},Sat C U ⟨tt,h,nx⟩ a w ι →
  h id = .sl e sz (.dp g t (L.map (fun x=>(x.1,x.2.1))++H)) es→(L.map fun x=>x.2.2).Nodup →
  (∀ i j n,(i,j,n)∈L→n≠id∧∃ v sz' off len e' g' t' es' x,h n = .sl e' sz' (.dp g' t' []) es'∧(∃ bk cur e0,ι id=some bk∧w.heap[bk]? = some (.cells cur e0 (0,0))∧cur[ι.o id+i*sz+j]? = some v) ∧
   VR w (Fz C w ι h) ι h v (.r sz' n off len)∧es[i]? = some x∧x[j]? = some (.sl sz' ((es'.drop off).take len))) →
  ∃ ι' h',Sat C U ⟨tt,h',nx⟩ a w ι'∧h'=(fun y=>if y=id then .sl e sz (.dp g t H) es else if y∈L.map (fun x=>x.2.2) then .dead else h y)∧(∀ b,Fz C w ι h b→Fz C w ι' h' b) ∧
   (∀ v x,VR w (Fz C w ι h) ι h v x→VR w (Fz C w ι' h') ι' h' v x)∧ι' id=ι id∧ι'.o id=ι.o id
 | [],h,ι,S,hid,_,_=>by
  refine ⟨ι,h,S,?_,fun b hb=>hb,fun v x hv=>hv,rfl,rfl⟩
  funext y
  by_cases hy:y=id
  ·subst hy;simpa using hid
  ·simp [hy]
 | (i,j,n)::L,h,ι,S,hid,hnd,hall=>by
  obtain ⟨hne,v,sz',off,len,e',g',t',es',x,h1,h2,h3,h4,h5⟩:=hall i j n (by simp)
  simp only [List.map_cons,List.nodup_cons] at hnd
  obtain ⟨S',hF,hg⟩:=S.merge (t:=t) hid h1 hne h2 h3 h4 h5
  have hb2:(ι.merge id n i j off len) id=ι id:=Qq _ _ _ _ hne.symm
  obtain ⟨ι',h',q1,q2,q3,q4,q5,q6⟩:=Sat.merges L S' (Qu _ _ _) hnd.2 (fun i' j' n' hm=>by
   obtain ⟨k1,v',sz2,off',len',e2,g2,t2,es2,x2,k2,k3,k4,k5,k6⟩:=hall i' j' n' (List.mem_cons_of_mem _ hm)
   have hnn:n'≠n:=fun h=>by subst h;exact hnd.1 (List.mem_map.2 ⟨_,hm,rfl⟩)
   refine ⟨k1,v',sz2,off',len',e2,g2,t2,es2,x2,?_,?_,k4.mono (fun b hb=>⟨hF b hb,rfl⟩) hg,k5,k6⟩
   ·show upd (upd h n .dead) id _ n'=_
    rw [Qq _ _ _ _ k1,Qq _ _ _ _ hnn];exact k2
   ·obtain ⟨bk,cur,e0,m1,m2,m3⟩:=k3
    exact ⟨bk,cur,e0,hb2.trans m1,m2,m3⟩)
  refine ⟨ι',h',q1,?_,fun b hb=>q3 b (hF b hb),fun u y hu=>q4 u y (hu.mono (fun b hb=>⟨hF b hb,rfl⟩) hg),q5.trans hb2,q6⟩
  rw [q2]
  funext y
  by_cases hy:y=id
  ·simp [hy]
  ·simp only [hy,if_false,List.map_cons,List.mem_cons]
   by_cases hy2:y∈L.map (fun x=>x.2.2)
   ·simp [hy2]
   ·by_cases hy3:y=n
    ·simp [hy2,hy3,upd,hne]
    ·simp [hy2,hy3,upd,hy]
section
variable {C:Ctx} {U U':Nat→Prop} {σ:St} {a:Act} {w:World} {ι:Io} {o:Oper} {Q:Exit→Act→World→Prop} {Γ:Tab} {b:Nat} {e:Eff}
variable (S:Sat C U σ a w ι) (hd:∀ d,o.dst=some d→d<C.N) (hb:U b) (hU':∀ i,U' i→U i∧i≠b)
include S hd hb hU'
theorem QGg {t:TypeId} {zs:List AV} (ho:o.op = .alloc t) (hz:ZW C.P t=some zs) (he:Qh Γ (Opd.ev σ.t) σ.h b (.new t zs)=some e) :
  o.wp C.P a w (fun a' w'=>SatU C U' (σ.app o.dst e) a' w') Q:=by
 simp only [Qh,Option.some.injEq] at he
 subst he
 obtain ⟨i,z,hi,hzz,hcr⟩:=Qdf hz
 refine Jb hd (v:=.pointer (some ⟨w.heap.size,0,none⟩)) (w':=w.alloc (.cells z.cells t)) (ι':=ι.up b (some w.heap.size) 0) (h':=upd σ.h b (.box zs)) ?_ (S.alloc b hb hU' z.cells t (.box zs) ⟨by simp,by simp⟩ ?_) ?_ rfl
 ·simp [execOp,ho,Instr.alloc,zeroValue,typeInfo,hi,hzz,newVar,newRow]
 ·exact .box w.heap.size t z.cells zs (Io.up_same _ _ _ _) (Io.upo_same _ _ _ _) (heap_alloc_new _ _) (hcr w (fun _=>True) ι σ.h).size (hcr w (fun _=>True) ι σ.h).one (hcr _ _ _ _).vr
 ·have:=VR.p (w:=w.alloc (.cells z.cells t)) (F:=Fz C (w.alloc (.cells z.cells t)) (ι.up b (some w.heap.size) 0) (upd σ.h b (.box zs))) (ι:=ι.up b (some w.heap.size) 0) (h:=upd σ.h b (.box zs)) b 0 0 w.heap.size (Io.up_same _ _ _ _) (by rw [Qu];simp) (by rw [Qu];simp)
  simpa [Io.upo_same] using this
theorem QvA {x:Operand} {x':Opd} {t n:Nat} (ho:o.op = .box t x) (hx:cO C.P t x=some x') (he:Qh Γ (Opd.ev σ.t) σ.h b (.box t x' n)=some e) :
  o.wp C.P a w (fun a' w'=>SatU C U' (σ.app o.dst e) a' w') Q:=by
 simp only [Qh] at he
 split at he
 rotate_left
 ·cases he
 rename_i hc
 cases he
 have hcr:=(QL S hx).cells hc.2
 obtain ⟨hF,hg,_⟩:=QcL S b hb (a.eval x).cells t (.box ((Opd.ev σ.t x').cells))
 have hcr':=CR.mono hF hg hcr
 refine Jb hd (v:=.pointer (some ⟨w.heap.size,0,none⟩)) (w':=w.alloc (.cells (a.eval x).cells t)) (ι':=ι.up b (some w.heap.size) 0) (h':=upd σ.h b (.box ((Opd.ev σ.t x').cells))) ?_ (S.alloc b hb hU' _ t _ ⟨by simp,by simp⟩ ?_) ?_ rfl
 ·simp [execOp,ho,Instr.box,newVar,newRow]
 ·exact .box w.heap.size t _ _ (Io.up_same _ _ _ _) (Io.upo_same _ _ _ _) (heap_alloc_new _ _) hcr'.size hcr'.one hcr'.vr
 ·have:=VR.p (w:=w.alloc (.cells (a.eval x).cells t)) (F:=Fz C (w.alloc (.cells (a.eval x).cells t)) (ι.up b (some w.heap.size) 0) (upd σ.h b (.box ((Opd.ev σ.t x').cells)))) (ι:=ι.up b (some w.heap.size) 0) (h:=upd σ.h b (.box ((Opd.ev σ.t x').cells))) b 0 0 w.heap.size (Io.up_same _ _ _ _) (by rw [Qu];simp) (by rw [Qu];simp)
  simpa [Io.upo_same] using this
omit S hd hb hU' in
theorem Qnw {P:Program} {t:TypeId} {v:Value}:(av1 P t v).ref1=[]:=by
 unfold av1
 split <;> rfl
omit S hd hb hU' in
theorem Qmc {P:Program} {t:TypeId} {zs:List AV} (h:ZW P t=some zs):∀ (k:Nat) (x:AV),zs[k]? = some x→x.ref1=[]:=by
 unfold ZW at h
 split at h
 rotate_left
 ·cases h
 rename_i i hi
 split at h
 rotate_left
 ·cases h
 rename_i z hz
 split at h
 rotate_left
 ·cases h
 rename_i x hx
 cases h
 intro k y hk
 unfold avOf at hx
 split at hx
 ·split at hx
  ·rename_i cs _
   cases hx
   have hlt:=(List.getElem?_eq_some_iff.1 hk).1
   simp only [AV.cells,Qj2] at hlt
   obtain ⟨t',rfl⟩:=QjE cs.toList _ k _ y (List.getElem?_eq_getElem hlt) hk
   exact Qnw
  ·cases hx
 ·split at hx
  ·cases hx
   have hc:(av1 P t z).cells=[av1 P t z]:=by unfold av1;split <;> rfl
   rw [hc] at hk
   cases k with
   | zero=>simp at hk;subst hk;exact Qnw
   | succ k=>simp at hk
  ·cases hx
theorem s_mk {t et sz:Nat} {l:Tmp} {zs:List AV} {i:TypeInfo} (ho:o.op = .makeSlice t (.tmp l) (.tmp l)) (ht:elOf C.P t=some et) (hsz:szOf C.P et=some sz) (hz:ZW C.P et=some zs) (hi:C.P.info? et=some i)
  (h0:0<sz) (hby:i.bytes≤32768) (he:Qh Γ (Opd.ev σ.t) σ.h b (.mk et sz zs (.s l))=some e) :
  o.wp C.P a w (fun a' w'=>SatU C U' (σ.app o.dst e) a' w') Q:=by
 simp only [Qh] at he
 split at he
 rotate_left
 ·cases he
 rename_i n zd hn hzd
 split at he
 rotate_left
 ·cases he
 rename_i hc
 obtain ⟨c1,c2,c3,c4⟩:=hc
 cases he
 obtain ⟨M,hM⟩:∃ M,M=if Γ.dp=true then Mo.dp 0 true [] else .ow:=⟨_,rfl⟩
 have hMt:M.tip=true:=by rw [hM];split <;> rfl
 have hMg:M.gen.isSome=true→zd.all D.pl=true:=by
  rw [hM]
  split
  ·rename_i h;exact fun _=>c4 h
  ·intro h;cases h
 rw [← hM]
 obtain ⟨i',z,hi',hzz,hcr⟩:=Qdf hz
 rw [hi] at hi'
 cases hi'
 obtain ⟨i'',hi'',hsz'⟩:=Qct hsz
 rw [hi] at hi''
 cases hi''
 obtain ⟨k,hk⟩:=Qkc (S.vals l) hn
 have hbig:n≤4294967296:=c2
 have hbytes:(i.bytes:Int)*n≤281474976710656:=by
  have h1:(i.bytes:Int)≤32768:=by omega
  have:=Int.mul_le_mul h1 hbig c1 (by omega)
  omega
 have hrun:=run_make (P:=C.P) w t et i z (YH ht) hi hzz k k n n c1 (Int.le_refl _) hbytes (by omega)
 have hzl:zd.length=zs.length:=(AV.ds_get hzd).1
 have hzs:z.cells.size=sz:=by rw [(hcr w (fun _=>True) ι σ.h).size];omega
 rw [hsz'] at hrun
 refine Jb hd (v:=.slice (some ⟨w.heap.size,0,none⟩) n.toNat n.toNat) (w':=w.alloc (.cells (madeCells z.cells (n.toNat*sz)) et)) (ι':=ι.up b (some w.heap.size) 0) (h':=upd σ.h b (.sl et sz M (List.replicate n.toNat zd))) ?_
  (S.alloc b hb hU' _ et _ ⟨by simp,by simp⟩ ?_) ?_ rfl
 ·have hev:a.eval (.tmp l) = .int k n:=hk
  simp [execOp,ho,hev,hrun]
 ·refine .sl w.heap.size et et sz M _ _ h0 (Io.up_same _ _ _ _) (heap_alloc_new _ _) (fun _=>⟨rfl,Io.upo_same _ _ _ _,n.toNat,by simp [madeCells],by simp,by simp [maxLen];omega⟩) (by rw [Io.upo_same];simp [madeCells]) (by simp [maxLen];omega) (fun x hx=>?_) (fun p q x d hx hd'=>?_)
  ·rw [List.eq_of_mem_replicate hx];exact c3
  ·have hp:p<n.toNat:=by have:=(List.getElem?_eq_some_iff.1 hx).1;simpa using this
   have hxz:x=zd:=by rw [List.getElem?_replicate,if_pos hp] at hx;cases hx;rfl
   subst hxz
   have hq:q<sz:=by rw [← c3];exact (List.getElem?_eq_some_iff.1 hd').1
   have hlt:p*sz+q<n.toNat*sz:=by
    have:(p+1)*sz≤n.toNat*sz:=Nat.mul_le_mul_right _ hp
    rw [Nat.add_mul] at this
    omega
   have hqz:q<z.cells.size:=by omega
   rw [Io.upo_same,Nat.zero_add]
   refine ⟨z.cells[q],?_,?_⟩
   ·have hm:(p*sz+q) % z.cells.size=q:=by rw [hzs,Nat.mul_comm,Nat.mul_add_mod,Nat.mod_eq_of_lt hq]
    rw [madeCells,Array.getElem?_map,Array.getElem?_range,if_pos hlt]
    simp [hm,hqz]
   ·have hzq:zs[q]? = some zs[q]:=List.getElem?_eq_getElem (by omega)
    obtain ⟨d',h5,h6⟩:=(AV.ds_get hzd).2 q _ hzq
    rw [hd'] at h5
    cases h5
    obtain ⟨hF,hg,_⟩:=QcL S b hb (madeCells z.cells (n.toNat*sz)) et (.sl et sz M (List.replicate n.toNat x))
    have:=AV.d_rd S (F:=Fz C w ι σ.h) (fun _ h=>h) ((hcr w (Fz C w ι σ.h) ι σ.h).vr q z.cells[q] zs[q] (by simp [hqz]) hzq) h6 (fun id b' hid=>by rw [Qmc hz q _ hzq] at hid;cases hid) (fun id b' p hid=>by rw [Qmc hz q _ hzq] at hid;cases hid)
    exact .pl (this.mono hF) (fun h=>List.all_eq_true.1 (hMg h) d (List.mem_of_getElem? hd'))
 ·refine .r b 0 n.toNat w.heap.size 0 n.toNat et sz M _ (Io.up_same _ _ _ _) (Qu _ _ _) (by simp) (Nat.le_refl _) (fun _=>by rw [Io.upo_same];simp) (fun _ _=>⟨rfl,?_⟩)
  unfold World.shape?
  rw [heap_alloc_new]
  simp [madeCells]
omit S hd hb hU' in
theorem QcU {h:Nat→Blk} {x:AV} {ds:List D} (hx:AV.ds h x.cells=some ds):x.st=true:=by
 cases x with
 | u=>simp [AV.cells,AV.ds,AV.d] at hx
 | t vs=>simp [AV.cells,AV.ds,AV.d] at hx
 | bx cs=>simp [AV.cells,AV.ds,AV.d] at hx
 | ow e sz m es=>simp [AV.cells,AV.ds,AV.d] at hx
 | _=>rfl
omit S hd hb hU' in
theorem QiP {x:AV} {k:Nat} {y:AV} {id:Nat} (hk:x.cells[k]? = some y) (hi:id∈y.ref1):id∈x.refs:=by
 cases x with
 | a cs=>exact Qbm hk hi
 | _ =>
  cases k with
  | zero=>simp [AV.cells] at hk;subst hk;exact hi
  | succ k=>simp [AV.cells] at hk
omit hd hb hU' in
theorem QmR {et sz:Nat} (hsz:szOf C.P et=some sz) :
  ∀ (parts:List (Nat × Operand)) (k:Nat) (xs:List Opd) (cur:Array Value) (es:List (List D)),Jr C.P et k parts=some xs→elems σ.h (Opd.ev σ.t) sz xs=some es →
   (k+parts.length)*sz≤cur.size →
   es.length=parts.length∧(∀ x,x∈es→x.length=sz)∧∃ cur',Instr.fill (fun i=>some (i*sz,sz)) cur (parts.map fun x=>(x.1,a.eval x.2))=some cur'∧cur'.size=cur.size∧(∀ m,m<k*sz→cur'[m]? = cur[m]?) ∧
    ∀ (i j:Nat) (el:List D) (d:D),es[i]? = some el→el[j]? = some d→∃ v xo y,cur'[(k+i)*sz+j]? = some v∧xs[i]? = some xo∧(Opd.ev σ.t xo).cells[j]? = some y∧VR w (Fz C w ι σ.h) ι σ.h v y∧y.d σ.h=some d
 | [],k,xs,cur,es,hp,he,_=>by
  simp [Jr] at hp
  subst hp
  simp [elems] at he
  subst he
  exact ⟨rfl,by simp,cur,rfl,rfl,fun _ _=>rfl,by simp⟩
 | (i,x)::parts,k,xs,cur,es,hp,he,hle=>by
  simp only [Jr] at hp
  split at hp
  rotate_left
  ·cases hp
  rename_i hik
  subst hik
  split at hp
  rotate_left
  ·cases hp
  rename_i y ys hy hys
  cases hp
  simp only [elems] at he
  split at he
  rotate_left
  ·cases he
  rename_i el0 es' hel hes
  split at he
  rotate_left
  ·cases he
  rename_i hlen
  cases he
  have hcr:=(QL S hy).cells (QcU hel)
  have hds:=AV.ds_get hel
  have hpsz:(a.eval x).cells.size=sz:=by rw [hcr.size,← hds.1,hlen]
  simp only [List.length_cons] at hle
  have hle1:i*sz+sz≤cur.size:=by
   have:(i+1)*sz≤(i+(parts.length+1))*sz:=Nat.mul_le_mul_right _ (by omega)
   rw [Nat.add_mul] at this
   omega
  obtain ⟨f1,f2⟩:=Qoy cur (a.eval x).cells (i*sz) (by omega)
  obtain ⟨r1,r2,cur',r3,r4,r5,r6⟩:=QmR hsz parts (i+1) ys _ es' hys hes (by rw [f1];rw [show i+1+parts.length=i+(parts.length+1) by omega];exact hle)
  refine ⟨by simp [r1],fun z hz=>?_,cur',?_,by rw [r4,f1],fun m hm=>?_,fun p q el d hel' hd'=>?_⟩
  ·rcases List.mem_cons.1 hz with rfl | hz
   ·exact hlen
   ·exact r2 z hz
  ·simp only [List.map_cons,Instr.fill]
   rw [if_neg (by simp only [Bool.or_eq_true,decide_eq_true_eq];rintro (h | h) <;> omega)]
   exact r3
  ·rw [r5 m (by rw [Nat.add_mul];omega),f2 m,if_pos hm]
  ·cases p with
   | zero =>
    simp at hel'
    subst hel'
    have hq:q<sz:=by rw [← hlen];exact (List.getElem?_eq_some_iff.1 hd').1
    have hqx:q<(Opd.ev σ.t y).cells.length:=by rw [← hds.1];omega
    obtain ⟨d',h5,h6⟩:=hds.2 q _ (List.getElem?_eq_getElem hqx)
    rw [hd'] at h5
    cases h5
    have hqv:q<(a.eval x).cells.size:=by omega
    have hvr:=hcr.vr q _ _ (Array.getElem?_eq_getElem hqv) (List.getElem?_eq_getElem hqx)
    refine ⟨(a.eval x).cells[q],y,_,?_,rfl,List.getElem?_eq_getElem hqx,hvr,h6⟩
    rw [Nat.add_zero,r5 _ (by rw [Nat.add_mul];omega),f2,if_neg (by omega),if_pos (by omega)]
    rw [show i*sz+q-i*sz=q by omega]
    exact Array.getElem?_eq_getElem hqv
   | succ p =>
    simp at hel'
    rw [show i+(p+1)=i+1+p by omega]
    exact r6 p q el d hel' hd'
omit S hd hb hU' in
theorem Qcp {h:Nat→Blk}:∀ {xs:List AV} {ds:List D},AV.ds h xs=some ds→∀ id,id∈AV.refsL xs→∃ e sz m es,h id = .sl e sz m es
 | [],_,_,id,hi=>by simp [AV.refsL] at hi
 | x::xs,ds,hx,id,hi=>by
  simp only [AV.ds] at hx
  split at hx
  ·rename_i d ds' h1 h2
   simp only [AV.refsL,List.mem_append] at hi
   rcases hi with hi | hi
   ·cases x with
    | r sz' id' off len =>
     simp [AV.ref1] at hi
     subst hi
     simp only [AV.d] at h1
     split at h1
     ·rename_i e sz m es hh;exact ⟨e,sz,m,es,hh⟩
     ·cases h1
    | b d' id' g p =>
     simp [AV.ref1] at hi
     subst hi
     simp only [AV.d] at h1
     split at h1
     ·rename_i hg
      cases hx:h id with
      | sl e sz m es=>exact ⟨e,sz,m,es,rfl⟩
      | _=>rw [hx] at hg;cases hg
     ·cases h1
    | _=>simp [AV.ref1] at hi
   ·exact Qcp h2 id hi
  ·cases hx
omit S hd hb hU' in
theorem QoT {h:Nat→Blk} {x:AV} {d:D} (hx:x.d h=some d):∀ id,id∈x.ref1→∀ e sz m es,h id = .sl e sz m es→m.full=true:=by
 intro id hi e sz m es hh
 cases x with
 | r sz' id' off len =>
  simp [AV.ref1] at hi
  subst hi
  simp only [AV.d,hh] at hx
  split at hx
  ·assumption
  ·cases hx
 | b d' id' g p =>
  simp [AV.ref1] at hi
  subst hi
  simp only [AV.d,hh] at hx
  split at hx
  ·rename_i hg;exact Blk.genf_full hg
  ·cases hx
 | _=>simp [AV.ref1] at hi
omit S hd hb hU' in
theorem Qdo {h:Nat→Blk}:∀ {xs:List AV} {ds:List D},AV.ds h xs=some ds→Full h (AV.refsL xs)
 | [],_,_,id,hi=>by simp [AV.refsL] at hi
 | x::xs,ds,hx,id,hi=>by
  simp only [AV.ds] at hx
  split at hx
  ·rename_i d ds' h1 h2
   simp only [AV.refsL,List.mem_append] at hi
   rcases hi with hi | hi
   ·exact QoT h1 id hi
   ·exact Qdo h2 id hi
  ·cases hx
omit S hd hb hU' in
theorem Qe2 {x:AV} (hx:x.st=true):x.refs=AV.refsL x.cells:=by
 cases x with
 | a cs=>rfl
 | _=>first | (simp [AV.st,AV.one] at hx;done) | simp [AV.refs,AV.cells,AV.refsL]
omit S hd hb hU' in
theorem QtF {h:Nat→Blk} {ev:Opd→AV} {sz:Nat}:∀ {xs:List Opd} {es:List (List D)},elems h ev sz xs=some es→∀ id,id∈xs.flatMap (fun x=>(ev x).refs)→∃ e sz m es,h id = .sl e sz m es
 | [],_,_,id,hi=>by simp at hi
 | x::xs,es,hx,id,hi=>by
  simp only [elems] at hx
  split at hx
  ·rename_i e es' h1 h2
   split at hx
   ·simp only [List.flatMap_cons,List.mem_append] at hi
    rcases hi with hi | hi
    ·rw [Qe2 (QcU h1)] at hi
     exact Qcp h1 id hi
    ·exact QtF h2 id hi
   ·cases hx
  ·cases hx
omit S hd hb hU' in
theorem Qrd {h:Nat→Blk} {ev:Opd→AV} {sz:Nat}:∀ {xs:List Opd} {es:List (List D)},elems h ev sz xs=some es→Full h (xs.flatMap fun x=>(ev x).refs)
 | [],_,_,id,hi=>by simp at hi
 | x::xs,es,hx,id,hi=>by
  simp only [elems] at hx
  split at hx
  ·rename_i e es' h1 h2
   split at hx
   ·simp only [List.flatMap_cons,List.mem_append] at hi
    rcases hi with hi | hi
    ·rw [Qe2 (QcU h1)] at hi
     exact Qdo h1 id hi
    ·exact Qrd h2 id hi
   ·cases hx
  ·cases hx
omit hd hb hU' in
theorem QrC {ids:List Nat} (hsl:∀ id,id∈ids→∃ e sz m es,σ.h id = .sl e sz m es):(∀ id b,id∈ids→ι id=some b→Fz C w (ι.loose ids) (updL σ.h (frz σ.h ids)) b) ∧
  ∀ id b p,id∈ids→ι.k b=some (id,p)→Fz C w (ι.loose ids) (updL σ.h (frz σ.h ids)) b:=by
 refine ⟨fun id b hid hi=>?_,fun id b p hid hk=>?_⟩
 ·obtain ⟨e,sz,m,es,hh⟩:=hsl id hid
  obtain ⟨h1,h2⟩:=S.rng id b hi
  refine ⟨h2,.inr (h1.elim (fun h=>h) fun ⟨_,cs,h3⟩=>by rw [hh] at h3;cases h3),fun id' hi'=>?_,?_⟩
  ·have:=S.inj id' id b hi' hi
   subst this
   rw [Zz,if_pos hid,hh]
   rfl
  ·refine Io.loose_none ?_
   cases hk:ι.k b with
   | none=>rfl
   | some z=>obtain ⟨z,q⟩:=z;exact absurd hi ((S.lab b z q hk).ne id)
 ·have L:=S.lab b id p hk
  refine ⟨L.lt,.inr L.fr,fun i hi=>absurd hi (L.ne i),?_⟩
  cases hkk:(ι.loose ids).k b with
  | none=>rfl
  | some z =>
   obtain ⟨z,q⟩:=z
   obtain ⟨k1,k2⟩:=Io.loose_k.1 hkk
   rw [hk] at k1
   cases k1
   exact absurd hid k2
omit S hd hb hU' in
theorem Qx0 {P:Program} {w:World} {t et sz n:Nat} {parts:Array (Nat × Value)} {i:TypeInfo} {z:Value} {cells:Array Value} (ht:P.underlying t=some (.slice et)) (hi:P.info? et=some i) (hz:i.zero=some z) (hsz:i.size=sz) (h0:0<sz)
  (hlim:n*sz≤16777216) (hf:Instr.fill (fun k=>some (k*sz,sz)) (madeCells z.cells (n*sz)) parts.toList=some cells) :
  (Instr.buildSlice t n parts).run P w = .ok (.slice (some ⟨w.heap.size,0,none⟩) n n) (w.alloc (.cells cells et)):=by
 have h1:¬ 16777216<n*sz:=by omega
 by_cases hn:n=0
 ·subst hn
  have hm:madeCells z.cells (0*sz) = #[]:=by simp [madeCells,Array.range_zero']
  rw [hm] at hf
  simp [Instr.buildSlice,run_underlying ht,sizeOf,typeInfo,hi,hsz,newRow,Array.range_zero',hf]
 ·have hf':Instr.fill (fun k=>some (k*sz,sz)) ((Array.range (n*sz)).map fun x=>z.cells[x % z.cells.size]!) parts.toList=some cells:=hf
  have hn':sz≠0:=by omega
  have hm:¬ n*sz=0:=Nat.mul_ne_zero hn hn'
  simp [Instr.buildSlice,hm,run_underlying ht,sizeOf,typeInfo,zeroValue,hi,hz,hsz,h1,hn,hn',newRow,hf']
omit S hd hb hU' in
theorem QsH {P:Program} {et:TypeId}:∀ {parts:List (Nat × Operand)} {k:Nat} {xs:List Opd},Jr P et k parts=some xs→xs.length=parts.length
 | [],k,xs,h=>by simp [Jr] at h;subst h;rfl
 | (i,x)::parts,k,xs,h=>by
  simp only [Jr] at h
  split at h
  ·split at h
   ·rename_i y ys h1 h2
    cases h
    simp [QsH h2]
   ·cases h
  ·cases h
omit S hd hb hU' in
theorem Qok {B:Blk} (h:B.dpf=true):∃ e sz g t es,B = .sl e sz (.dp g t []) es:=by
 unfold Blk.dpf at h
 split at h
 ·exact ⟨_,_,_,_,_,rfl⟩
 ·cases h
def posE (ev:Opd→AV):Nat→List Opd→List (Nat × Nat × Nat)
 | _,[]=>[]
 | i,x::r=>posL i 0 (ev x).cells++posE ev (i+1) r
omit S hd hb hU' in
theorem Qg0 {x:AV} (hx:x.st=true):x.mrefs=AV.mrefsL x.cells:=by
 cases x with
 | a cs=>rfl
 | _=>first | (simp [AV.st,AV.one] at hx;done) | simp [AV.mrefs,AV.cells,AV.mrefsL]
omit S hd hb hU' in
theorem QnO:∀ {xs:List AV} {id:Nat},id∈AV.mrefsL xs→∃ (k sz off len:Nat),xs[k]? = some (AV.r sz id off len)
 | [],id,h=>by simp [AV.mrefsL] at h
 | x::xs,id,h=>by
  simp only [AV.mrefsL,List.mem_append] at h
  rcases h with h | h
  ·cases x with
   | r sz id' off len=>simp [AV.mref1] at h;subst h;exact ⟨0,sz,off,len,rfl⟩
   | _=>simp [AV.mref1] at h
  ·obtain ⟨k,sz,off,len,h⟩:=QnO h
   exact ⟨k+1,sz,off,len,by simpa using h⟩
omit S hd hb hU' in
theorem QgX {h:Nat→Blk} {ev:Opd→AV} {sz:Nat}:∀ {xs:List Opd} {es:List (List D)},elems h ev sz xs=some es→∀ {i:Nat} {x:Opd},xs[i]? = some x→AV.ds h (ev x).cells=some ((es[i]?).getD [])
 | [],_,_,i,x,hx=>by simp at hx
 | y::xs,es,he,i,x,hx=>by
  simp only [elems] at he
  split at he
  rotate_left
  ·cases he
  rename_i e es' h1 h2
  split at he
  rotate_left
  ·cases he
  cases he
  cases i with
  | zero=>simp at hx;subst hx;simpa using h1
  | succ i=>simpa using QgX h2 (by simpa using hx)
omit S hd hb hU' in
theorem QqZ {h:Nat→Blk} {ev:Opd→AV} {sz:Nat}:∀ {xs:List Opd} {es:List (List D)},elems h ev sz xs=some es→es.length=xs.length
 | [],es,he=>by simp [elems] at he;subst he;rfl
 | y::xs,es,he=>by
  simp only [elems] at he
  split at he
  rotate_left
  ·cases he
  rename_i e es' h1 h2
  split at he
  rotate_left
  ·cases he
  cases he
  simp [QqZ h2]
omit S hd hb hU' in
theorem Qye {h:Nat→Blk} {ev:Opd→AV} {sz:Nat} {xs:List Opd} {es:List (List D)} (he:elems h ev sz xs=some es) {i j:Nat} {x:Opd} {y:AV} (hx:xs[i]? = some x) (hy:(ev x).cells[j]? = some y):∃ el d,es[i]? = some el∧el[j]? = some d:=by
 have h1:=QgX he hx
 have hl:=QqZ he
 have hi:i<es.length:=by rw [hl];exact (List.getElem?_eq_some_iff.1 hx).1
 rw [List.getElem?_eq_getElem hi] at h1
 obtain ⟨h2,h3⟩:=AV.ds_get h1
 obtain ⟨d,h4,_⟩:=h3 j y hy
 exact ⟨es[i],d,List.getElem?_eq_getElem hi,by simpa using h4⟩
omit S hd hb hU' in
theorem Qqk {h:Nat→Blk} {ev:Opd→AV} {sz:Nat}:∀ {xs:List Opd} {es:List (List D)} {i:Nat},elems h ev sz xs=some es→(posE ev i xs).map (fun x=>x.2.2)=xs.flatMap fun x=>(ev x).mrefs
 | [],es,i,_=>rfl
 | x::xs,es,i,he=>by
  simp only [elems] at he
  split at he
  rotate_left
  ·cases he
  rename_i e es' h1 h2
  simp only [posE,List.map_append,List.flatMap_cons,Qiy,Qqk h2,Qg0 (QcU h1)]
omit S hd hb hU' in
theorem Qo4 {ev:Opd→AV}:∀ {xs:List Opd} {k i j n:Nat},(i,j,n)∈posE ev k xs→∃ m xo,i=k+m∧xs[m]? = some xo∧∃ sz off len,(ev xo).cells[j]? = some (.r sz n off len)
 | [],k,i,j,n,h=>by simp [posE] at h
 | x::xs,k,i,j,n,h=>by
  simp only [posE,List.mem_append] at h
  rcases h with h | h
  ·obtain ⟨rfl,q,sz,off,len,h2,h3⟩:=Qe4 h
   exact ⟨0,x,rfl,rfl,sz,off,len,by rw [h2,Nat.zero_add];exact h3⟩
  ·obtain ⟨m,xo,h1,h2,h3⟩:=Qo4 h
   exact ⟨m+1,xo,by omega,by simpa using h2,h3⟩
omit S hd hb hU' in
theorem Qzg {ev:Opd→AV} {xs:List Opd} {i j n:Nat} (h:(i,j,n)∈posE ev 0 xs):∃ xo,xs[i]? = some xo∧∃ sz off len,(ev xo).cells[j]? = some (.r sz n off len):=by
 obtain ⟨m,xo,h1,h2,h3⟩:=Qo4 h
 rw [Nat.zero_add] at h1
 subst h1
 exact ⟨xo,h2,h3⟩
omit S hd hb hU' in
theorem QuY {ev:Opd→AV}:∀ {xs:List Opd} {k m j n sz off len:Nat} {xo:Opd},xs[m]? = some xo→(ev xo).cells[j]? = some (.r sz n off len)→(k+m,j,n)∈posE ev k xs
 | [],k,m,j,n,sz,off,len,xo,h,_=>by simp at h
 | x::xs,k,0,j,n,sz,off,len,xo,h,h2=>by
  simp at h;subst h
  simp only [posE,List.mem_append,Nat.add_zero]
  left
  have:=Qjz (i:=k) (j:=0) h2
  rwa [Nat.zero_add] at this
 | x::xs,k,m+1,j,n,sz,off,len,xo,h,h2=>by
  simp only [posE,List.mem_append]
  right
  have:=QuY (k:=k+1) (xs:=xs) (m:=m) (by simpa using h) h2
  rwa [show k+1+m=k+(m+1) by omega] at this
omit S hd hb hU' in
theorem QIE {ev:Opd→AV} {xs:List Opd} {i j n sz off len:Nat} {xo:Opd} (h:xs[i]? = some xo) (h2:(ev xo).cells[j]? = some (.r sz n off len)):(i,j,n)∈posE ev 0 xs:=by
 have:=QuY (k:=0) h h2
 rwa [Nat.zero_add] at this
omit S hd hb hU' in
theorem Qll {h:Nat→Blk} {b:Nat} {ev:Opd→AV}:∀ {xs:List Opd} {k m:Nat} {xo:Opd},movE h b ev k xs=true→xs[m]? = some xo→AV.movL h b 0 (k+m) 0 (ev xo).cells=true
 | [],k,m,xo,_,h=>by simp at h
 | x::xs,k,0,xo,hm,h=>by simp only [movE,Bool.and_eq_true] at hm;simp at h;subst h;exact hm.1
 | x::xs,k,m+1,xo,hm,h=>by
  simp only [movE,Bool.and_eq_true] at hm
  have:=Qll hm.2 (by simpa using h:xs[m]? = some xo)
  rwa [show k+1+m=k+(m+1) by omega] at this
omit S hd hb hU' in
theorem Qh2 {h:Nat→Blk} {b:Nat} {ev:Opd→AV} {xs:List Opd} {m:Nat} {xo:Opd} (hm:movE h b ev 0 xs=true) (hx:xs[m]? = some xo):AV.movL h b 0 (0+m) 0 (ev xo).cells=true:=Qll hm hx
theorem QyN {t et sz n:Nat} {parts:Array (Nat × Operand)} {xs:List Opd} (ho:o.op = .buildSlice t n parts) (ht:elOf C.P t=some et) (hsz:szOf C.P et=some sz) (hp:Jr C.P et 0 parts.toList=some xs) (hn:xs.length=n) (h0:0<sz)
  (hlim:n*sz≤16777216) (hz:(ZW C.P et).isSome=true) (he:Qh Γ (Opd.ev σ.t) σ.h b (.bsl et sz xs)=some e) :
  o.wp C.P a w (fun a' w'=>SatU C U' (σ.app o.dst e) a' w') Q:=by
 simp only [Qh] at he
 split at he
 rotate_left
 ·cases he
 rename_i es hes
 obtain ⟨zs,hzs⟩:=Option.isSome_iff_exists.1 hz
 obtain ⟨i,z,hi,hzz,_⟩:=Qdf hzs
 obtain ⟨i',hi',hsz'⟩:=Qct hsz
 rw [hi] at hi'
 cases hi'
 have hpl:parts.toList.length=n:=by rw [← QsH hp];exact hn
 obtain ⟨r1,r2,cur',r3,r4,_,r6⟩:=QmR S hsz parts.toList 0 xs (madeCells z.cells (n*sz)) es hp hes (by rw [Nat.zero_add,hpl];simp [madeCells])
 have hrun:=Qx0 (P:=C.P) (w:=w) (t:=t) (n:=n) (parts:=parts.map fun x=>(x.1,a.eval x.2)) (YH ht) hi hzz hsz' h0 hlim (by simpa using r3)
 have hlen:es.length=n:=by rw [r1,hpl]
 have hn1:n≤maxLen:=by
  have:n*1≤n*sz:=Nat.mul_le_mul_left _ h0
  simp [maxLen]
  omega
 have hcs:cur'.size=n*sz:=by rw [r4];simp [madeCells]
 split at he
 ·
  rename_i hdp
  split at he
  rotate_left
  ·cases he
  rename_i hc
  obtain ⟨hm,hnd⟩:=hc
  cases he
  obtain ⟨L,hL⟩:∃ L,L=posE (Opd.ev σ.t) 0 xs:=⟨_,rfl⟩
  have hLr:L.map (fun x=>x.2.2)=xs.flatMap fun x=>(Opd.ev σ.t x).mrefs:=by rw [hL];exact Qqk hes
  obtain ⟨H,hH⟩:∃ H:Pth,H=L.map (fun x=>(x.1,x.2.1))++[]:=⟨_,rfl⟩
  obtain ⟨hF2,hg2,_⟩:=QcL S b hb cur' et (.sl et sz (.dp 0 true H) es)
  have hbs:∀ z:Nat,ι.o b+z=ι.o b+z:=fun _=>rfl
  have SA:Sat C U' ⟨σ.t,upd σ.h b (.sl et sz (.dp 0 true H) es),σ.nx⟩ a (w.alloc (.cells cur' et)) (ι.up b (some w.heap.size) 0):=by
   refine S.alloc b hb hU' _ et _ ⟨by simp,by simp⟩ ?_
   refine .sl w.heap.size et et sz _ es cur' h0 (Io.up_same _ _ _ _) (heap_alloc_new _ _) (fun _=>⟨rfl,Io.upo_same _ _ _ _,n,hcs,by omega,hn1⟩) (by rw [Io.upo_same,hlen,hcs];omega) (by omega) r2 (fun p q x d hx hd'=>?_)
   obtain ⟨v,xo,y,h1,h2,h3,h4,h5⟩:=r6 p q x d hx hd'
   rw [Nat.zero_add] at h1
   rw [Io.upo_same,Nat.zero_add]
   have hmv:=Qaj (Qh2 hm h2) h3
   rw [Nat.zero_add,Nat.zero_add] at hmv
   refine ⟨v,h1,?_⟩
   cases y with
   | c d0 =>
    cases d0 with
    | v u =>
     simp only [AV.d,Option.some.injEq] at h5
     subst h5
     cases h4 with | c _ _ hr=>exact .pl (hr.mono hF2) (fun _=>rfl)
    | sl=>simp [AV.mov] at hmv
   | n sz0 =>
    simp only [AV.d,Option.some.injEq] at h5
    subst h5
    cases h4 with | n=>exact .pl (F:=Fz C (w.alloc (.cells cur' et)) (ι.up b (some w.heap.size) 0) (upd σ.h b (.sl et sz (.dp 0 true H) es))) (.nil _) (fun _=>rfl)
   | r sz0 id off len =>
    refine ⟨h4.one rfl,fun hnot=>absurd ?_ hnot⟩
    rw [hH,hL,List.append_nil]
    refine List.mem_map.2 ⟨(p,q,id),QIE h2 h3,rfl⟩
   | b d0 id g pt =>
    simp only [AV.mov,Bool.and_eq_true] at hmv
    have:=Nat.eq_of_beq_eq_true hmv.1.1
    subst this
    simp only [AV.d,(S.fresh id hb).1,Blk.genf] at h5
    cases h5
   | _=>simp [AV.mov] at hmv
  obtain ⟨ι',h',q1,q2,q3,q4,q5,q6⟩:=Sat.merges L SA (by rw [← hH];exact Qu _ _ _) (by rw [hLr];exact hnd) (fun i j n' hm'=>by
   obtain ⟨xo,h2,sz0,off,len,h3⟩:=Qzg (by rw [← hL];exact hm')
   have hmv:=Qaj (Qh2 hm h2) h3
   simp only [AV.mov,Bool.and_eq_true,Bool.not_eq_true',Nat.zero_add] at hmv
   have hnb:n'≠b:=fun h=>by subst h;simp at hmv
   obtain ⟨e',sz',g',t',es',hh⟩:=Qok hmv.2
   have hjx:∃ el d,es[i]? = some el∧el[j]? = some d:=Qye hes h2 h3
   obtain ⟨el,d,k1,k2⟩:=hjx
   obtain ⟨v,xo',y,m1,m2,m3,m4,m5⟩:=r6 i j el d k1 k2
   rw [h2] at m2;cases m2
   rw [h3] at m3;cases m3
   have m5':=m5
   simp only [AV.d,hh] at m5'
   simp only [Mo.full,if_true,Option.some.injEq] at m5'
   have hsz0:sz0=sz':=by
    cases m4 with
    | rdead _ _ _ _ _ _ hd=>rw [hd] at hh;cases hh
    | rnil _ _ _ _ _ hh'=>rw [hh] at hh';cases hh';rfl
    | remp _ _ _ _ _ _ _ hh'=>rw [hh] at hh';cases hh';rfl
    | r _ _ _ _ _ _ _ _ _ _ _ hh'=>rw [hh] at hh';cases hh';rfl
   subst hsz0
   refine ⟨hnb,v,sz0,off,len,e',g',t',es',el,?_,⟨w.heap.size,cur',et,Io.up_same _ _ _ _,heap_alloc_new _ _,?_⟩,m4.mono hF2 hg2,k1,?_⟩
   ·show upd σ.h b _ n'=_
    rw [Qq _ _ _ _ hnb];exact hh
   ·rw [Io.upo_same,Nat.zero_add];rw [Nat.zero_add] at m1;exact m1
   ·rw [k2,m5'])
  refine Jb (σ:=σ) hd (v:=.slice (some ⟨w.heap.size,0,none⟩) n n) (w':=w.alloc (.cells cur' et)) (ι':=ι') (h':=h') ?_ q1 ?_ ?_
  ·simp only [execOp,ho,Sem.run_bind,hrun,Result.andThen_ok,Sem.run_pure]
  ·rw [hlen]
   refine q4 _ _ (.r b 0 n w.heap.size 0 n et sz _ es (Io.up_same _ _ _ _) (Qu _ _ _) (by omega) (Nat.le_refl _) (fun _=>by rw [Io.upo_same];simp) (fun _ _=>⟨rfl,?_⟩))
   unfold World.shape?
   rw [heap_alloc_new]
   simp [hcs]
  ·rw [q2]
   funext k
   simp only [updL]
   rw [QjA,← hLr]
   by_cases hk:k=b
   ·subst hk
    have:k∉L.map fun x=>x.2.2:=by
     intro hk
     rw [hLr] at hk
     obtain ⟨x,hx1,hx2⟩:=List.mem_flatMap.1 hk
     obtain ⟨p,hp'⟩:=List.getElem?_of_mem hx1
     have hst:=QcU (QgX hes hp')
     rw [Qg0 hst] at hx2
     obtain ⟨q,sz0,off,len,hq⟩:=QnO hx2
     have hmv:=Qaj (Qh2 hm hp') hq
     simp [AV.mov] at hmv
    rw [if_neg this,Qu,if_pos rfl]
   ·rw [Qq _ _ _ _ hk,if_neg hk]
    show _=if k∈L.map (fun x=>x.2.2) then Blk.dead else upd σ.h b _ k
    rw [Qq _ _ _ _ hk]
 ·cases he
  have hrefs:=QtF hes
  obtain ⟨S1,hF⟩:=S.freeze (xs.flatMap fun x=>(Opd.ev σ.t x).refs) (Qrd hes)
  obtain ⟨hown,hown2⟩:=QrC S hrefs
  have hbn:b∉xs.flatMap fun x=>(Opd.ev σ.t x).refs:=by
   intro hb'
   obtain ⟨e,sz,m,es,hh⟩:=hrefs b hb'
   rw [(S.fresh b hb).1] at hh
   cases hh
  have r7:∀ (i j:Nat) (el:List D) (d:D),es[i]? = some el→el[j]? = some d→∃ v,cur'[(0+i)*sz+j]? = some v∧Rd w (Fz C w (ι.loose (xs.flatMap fun x=>(Opd.ev σ.t x).refs)) (updL σ.h (frz σ.h (xs.flatMap fun x=>(Opd.ev σ.t x).refs)))) v d:=by
   intro i j el d h1 h2
   obtain ⟨v,xo,y,m1,m2,m3,m4,m5⟩:=r6 i j el d h1 h2
   have hin:∀ id,id∈y.ref1→id∈xs.flatMap fun x=>(Opd.ev σ.t x).refs:=fun id hid=>List.mem_flatMap.2 ⟨xo,List.mem_of_getElem? m2,QiP m3 hid⟩
   exact ⟨v,m1,AV.d_rd S hF m4 m5 (fun id b hid=>hown id b (hin id hid)) (fun id b p hid=>hown2 id b p (hin id hid))⟩
  generalize hids:(xs.flatMap fun x=>(Opd.ev σ.t x).refs)=ids at *
  obtain ⟨hF2,hg2,_⟩:=QcL S1 b hb cur' et (.sl et sz .ow es)
  have SA:Sat C U' ⟨σ.t,upd (updL σ.h (frz σ.h ids)) b (.sl et sz .ow es),σ.nx⟩ a (w.alloc (.cells cur' et)) ((ι.loose ids).up b (some w.heap.size) 0):=by
   refine S1.alloc b hb hU' _ et _ ⟨by simp,by simp⟩ ?_
   refine .sl w.heap.size et et sz .ow es cur' h0 (Io.up_same _ _ _ _) (heap_alloc_new _ _) (fun _=>⟨rfl,Io.upo_same _ _ _ _,n,hcs,by omega,hn1⟩) (by rw [Io.upo_same,hlen,hcs];omega) (by omega) r2 (fun p q x d hx hd'=>?_)
   obtain ⟨v,h1,h2⟩:=r7 p q x d hx hd'
   rw [Nat.zero_add] at h1
   rw [Io.upo_same,Nat.zero_add]
   exact ⟨v,h1,h2.mono hF2⟩
  refine Jb (σ:=σ) hd (v:=.slice (some ⟨w.heap.size,0,none⟩) n n) (w':=w.alloc (.cells cur' et)) (ι':=(ι.loose ids).up b (some w.heap.size) 0) (h':=upd (updL σ.h (frz σ.h ids)) b (.sl et sz .ow es)) ?_ SA ?_ ?_
  ·simp only [execOp,ho,Sem.run_bind,hrun,Result.andThen_ok,Sem.run_pure]
  ·rw [hlen]
   refine .r b 0 n w.heap.size 0 n et sz .ow es (Io.up_same _ _ _ _) (Qu _ _ _) (by omega) (Nat.le_refl _) (fun _=>by rw [Io.upo_same];simp) (fun _ _=>⟨rfl,?_⟩)
   unfold World.shape?
   rw [heap_alloc_new]
   simp [hcs]
  ·funext k
   simp only [updL]
   rw [Zz]
   by_cases hk:k=b
   ·subst hk
    rw [if_neg hbn,Qu,Qu]
   ·rw [Qq _ _ _ _ hk,Qq _ _ _ _ hk,Zz]
end
end Go.Proofs.YtdplaepmjogjjaaGreat.Am
namespace Go.Proofs.YtdplaepmjogjjaaGreat.Am
open Go Go.RowKit
section
variable {C:Ctx} {U U':Nat→Prop} {σ:St} {a:Act} {w:World} {ι:Io}
theorem Qy6 {w:World} {g k:Nat} {cur new:Array Value} {et:TypeId} (hb:w.heap[g]? = some (.cells cur et (0,0))) (hsz:new.size=cur.size):(w.setRow g new).shape? k=w.shape? k:=by
 unfold World.shape?
 by_cases h:k=g
 ·subst h;rw [setRow_heap w k cur new et (0,0) hb,hb];simp [hsz]
 ·rw [setRow_other w g k new h]
theorem Fra.setRow {C:Ctx} {w:World} (h:Fra C w) {g:Nat} (hg:C.w0.heap.size≤g∨C.X g) (new:Array Value):Fra C (w.setRow g new) :=
 ⟨h.os,h.tape,h.output,by have:=h.size;simp;exact this,fun k hk hx=>by
  rw [setRow_other w g k new (fun e=>by subst e;exact hg.elim (fun hg=>by omega) (fun hg=>hx hg))]
  exact h.block k hk hx⟩
theorem QdL (S:Sat C U σ a w ι) {id g:Nat} (hi:ι id=some g) {cur new:Array Value} {et:TypeId} (hb:w.heap[g]? = some (.cells cur et (0,0))) (hsz:new.size=cur.size) {B:Blk}
  (hsame:Same (σ.h id) B) (hown:(σ.h id).own=true) (hgen:∀ g,(σ.h id).gen=some g→B.gen≠some g) :
  (∀ k,Fz C w ι σ.h k→Fz C (w.setRow g new) ι (upd σ.h id B) k∧(w.setRow g new).heap[k]? = w.heap[k]?) ∧
  (∀ i,Goes w (w.setRow g new) ι ι σ.h (upd σ.h id B) i)∧(∀ i,i≠id→Rest w (w.setRow g new) ι ι i)∧∀ i,Kin w (w.setRow g new) ι ι i:=by
 have hkin:∀ i,Kin w (w.setRow g new) ι ι i:=fun i b p hk=>⟨hk,setRow_other w g b new (fun e=>by subst e;exact (S.lab _ i p hk).ne id hi)⟩
 have hrest:∀ i,i≠id→Rest w (w.setRow g new) ι ι i:=fun i h=>⟨rfl,rfl,fun k hk=>setRow_other w g k new (fun e=>by subst e;exact h (S.inj i id _ hk hi)),hkin i⟩
 refine ⟨fun k hk=>⟨⟨by simpa using hk.1,hk.2.1,fun i hik=>?_,hk.2.2.2⟩,setRow_other w g k new (fun e=>?_)⟩,fun i=>?_,hrest,hkin⟩
 ·by_cases h:i=id
  ·subst h
   rw [hi] at hik
   cases hik
   have:=hk.2.2.1 _ hi
   rw [hown] at this
   cases this
  ·rw [Qq _ _ _ _ h];exact hk.2.2.1 i hik
 ·subst e
  have:=hk.2.2.1 _ hi
  rw [hown] at this
  cases this
 ·by_cases h:i=id
  ·subst h
   unfold Goes
   right;right
   rw [Qu]
   exact ⟨rfl,rfl,hsame,fun k _=>Qy6 hb hsz,fun g h1 h2=>absurd h2 (hgen g h1)⟩
  ·exact (hrest i h).goes (Qq _ _ _ _ h)
theorem Sat.setRow (S:Sat C U σ a w ι) (hU':∀ i,U' i→U i) {id g:Nat} (hi:ι id=some g) {cur new:Array Value} {et:TypeId} (hb:w.heap[g]? = some (.cells cur et (0,0))) (hsz:new.size=cur.size) {B:Blk}
  (hsame:Same (σ.h id) B) (hown:(σ.h id).own=true) (hgen:∀ g,(σ.h id).gen=some g→B.gen≠some g) (hdp:∀ e sz g t H es,σ.h id = .sl e sz (.dp g t H) es→∃ e sz g t H es,B = .sl e sz (.dp g t H) es)
  (hBR:BR (w.setRow g new) (Fz C (w.setRow g new) ι (upd σ.h id B)) ι (upd σ.h id B) id B) :
  Sat C U' ⟨σ.t,upd σ.h id B,σ.nx⟩ a (w.setRow g new) ι:=by
 obtain ⟨hF,hg,hrest,hkin⟩:=QdL S hi hb hsz hsame hown hgen
 have hrng:=S.rng id g hi
 refine S.evolve (S.fra.setRow (hrng.1.elim (fun h=>h.fra) (fun h=>.inr h.1)) new) hF hg (fun i cs hx=>by
  by_cases h:i=id
  ·subst h;rw [Qu];exact hsame.ne.2
  ·rw [Qq _ _ _ _ h,hx];simp) (fun i=>?_) S.inj (fun i k hk=>?_) (fun i hiU=>?_) (fun i k hk=>?_) (fun k i p hk=>?_)
 ·by_cases h:i=id
  ·subst h;right;rw [Qu];exact hBR
  ·left
   exact ⟨Qq _ _ _ _ h,hrest i h⟩
 ·obtain ⟨h1,h2⟩:=S.rng i k hk
  refine ⟨h1.imp (fun h=>h) fun ⟨hx,cs,hcs⟩=>⟨hx,?_⟩,by simpa using h2⟩
  by_cases h:i=id
  ·subst h
   rw [Qu]
   rw [hcs] at hsame
   cases B <;> simp [Same] at hsame
   exact ⟨_,rfl⟩
  ·rw [Qq _ _ _ _ h];exact ⟨cs,hcs⟩
 ·obtain ⟨h1,h2⟩:=S.fresh i (hU' i hiU)
  have:i≠id:=fun e=>by subst e;rw [hi] at h2;cases h2
  rw [Qq _ _ _ _ this]
  exact ⟨h1,h2⟩
 ·by_cases h:i=id
  ·subst h;rw [Qu];exact hsame.ne
  ·rw [Qq _ _ _ _ h];exact S.live i k hk
 ·have L:=S.lab k i p hk
  refine ⟨L.pn,?_,L.fr,by simpa using L.lt,L.ne⟩
  by_cases h:i=id
  ·subst h
   rw [Qu]
   obtain ⟨e,sz,g,t,H,es,h⟩:=L.dp
   exact hdp e sz g t H es h
  ·rw [Qq _ _ _ _ h];exact L.dp
theorem Qkz {P:Program} {w:World} {t n g o:Nat} {v:Value} {cur:Array Value} {et:TypeId} (hn:szOf P t=some n) (hb:w.heap[g]? = some (.cells cur et (0,0))) (hv:v.cells.size=n) (hle:o+n≤cur.size)
  (h1:∀ (k:Nat) (u:Value),v.cells[k]? = some u→u.oneCell'=true) :
  (Instr.storeAt t (.pointer (some ⟨g,o,Option.none⟩)) v).run P w = .ok () (w.setRow g (Am.splice cur.toList o v.cells.toList).toArray):=by
 have h:=run_storeCells_at P g o et v.cells.toList 0 cur w hb (by simp;omega) (fun u hu=>by
  obtain ⟨k,hk,he⟩:=List.getElem_of_mem hu
  exact h1 k u (by rw [← he];simp at hk ⊢))
 simp only [Nat.add_zero] at h
 simp [Instr.storeAt,Instr.sureAddr,storeVar,Ja hn,hv,h,Am.splice]
end
section
variable {C:Ctx} {U U':Nat→Prop} {σ:St} {a:Act} {w:World} {ι:Io} {o:Oper} {Q:Exit→Act→World→Prop} {Γ:Tab} {b:Nat} {e:Eff}
variable (S:Sat C U σ a w ι) (hd:∀ d,o.dst=some d→d<C.N) (hU':∀ i,U' i→U i)
include S hd hU'
theorem Qym {x v:Operand} {x' v':Opd} {t n:Nat} {t1 t2:TypeId} (ho:o.op = .store t x v) (hx:cO C.P t1 x=some x') (hv:cO C.P t2 v=some v') (hn:szOf C.P t=some n) (he:Qh Γ (Opd.ev σ.t) σ.h b (.store x' v' n)=some e) :
  o.wp C.P a w (fun a' w'=>SatU C U' (σ.app o.dst e) a' w') Q:=by
 have h1:=QL S hx
 simp only [Qh] at he
 split at he
 rotate_left
 ·cases he
 rename_i hc
 obtain ⟨hlen,hst⟩:=hc
 have hcr:=(QL S hv).cells hst
 have hvn:(a.eval v).cells.size=n:=by rw [hcr.size,hlen]
 split at he
 rotate_left
 ·cases he
 rename_i id i j hp
 rw [hp] at h1
 generalize hae:a.eval x=av at h1
 have hblk:=S.blk id
 split at he
 ·rename_i cs hh
  split at he
  rotate_left
  ·cases he
  rename_i hc2
  obtain ⟨rfl,hjn⟩:=hc2
  cases he
  cases h1 with
  | pdead v _ _ _ _ hdd=>rw [hdd] at hh;cases hh
  | p _ _ _ bk hi hn' hnd =>
   rw [hh] at hblk hae
   simp only [Blk.sz,Nat.mul_zero,Nat.zero_add] at hae
   cases hblk with
   | box bk' et vals _ hi' ho0 hb hl h1c hvr =>
    rw [hi] at hi';cases hi'
    rw [ho0,Nat.zero_add] at hae
    have hrun:=Qkz (P:=C.P) (t:=t) (o:=j) hn hb hvn (by omega) hcr.one
    have hspl:(splice vals.toList j (a.eval v).cells.toList).length=vals.toList.length:=Jq (by simp;omega)
    have hsame:Same (σ.h id) (.box (splice cs j (Opd.ev σ.t v').cells)):=by rw [hh];exact Jq (by omega)
    have hown:(σ.h id).own=true:=by rw [hh];rfl
    have hgen:∀ g,(σ.h id).gen=some g→(Blk.box (splice cs j (Opd.ev σ.t v').cells)).gen≠some g:=fun g h=>by rw [hh] at h;cases h
    obtain ⟨hF,hg,_⟩:=QdL S hi hb (new:=(splice vals.toList j (a.eval v).cells.toList).toArray) (by simpa using hspl) hsame hown hgen
    refine QhY (σ:=σ) hd (h':=upd σ.h id (.box (splice cs j (Opd.ev σ.t v').cells))) (ι':=ι) (w':=w.setRow bk (splice vals.toList j (a.eval v).cells.toList).toArray) ?_ (S.setRow hU' hi hb (by simpa using hspl) hsame hown hgen (fun e sz g t H es h=>by rw [hh] at h;cases h) ?_) rfl
    ·simp only [execOp,ho,hae,Sem.run_bind,hrun,Result.andThen_ok,Sem.run_pure]
    ·have hcell:CR w (Fz C w ι σ.h) ι σ.h (splice vals.toList j (a.eval v).cells.toList).toArray (splice cs j (Opd.ev σ.t v').cells):=by
      have hg1:=Jf (l:=vals.toList) (xs:=(a.eval v).cells.toList) (j:=j) (by simp;omega)
      have hg2:=Jf (l:=cs) (xs:=(Opd.ev σ.t v').cells) (j:=j) (by omega)
      have hvl:(a.eval v).cells.toList.length=n:=by simpa using hvn
      refine ⟨by rw [List.size_toArray,hspl,Jq (by omega)];simpa using hl,fun k u hk=>?_,fun k u y hk hy=>?_⟩
      ·rw [List.getElem?_toArray,hg1 k] at hk
       split at hk
       ·exact h1c k u (by simpa using hk)
       ·split at hk
        ·exact hcr.one _ u (by simpa using hk)
        ·exact h1c k u (by simpa using hk)
      ·rw [List.getElem?_toArray,hg1 k] at hk
       rw [hg2 k] at hy
       split at hk
       ·rename_i e1
        rw [if_pos e1] at hy
        exact hvr k u y (by simpa using hk) hy
       ·rename_i e1
        rw [if_neg e1] at hy
        split at hk
        ·rename_i e2
         rw [if_pos (by omega)] at hy
         exact hcr.vr _ u y (by simpa using hk) hy
        ·rename_i e2
         rw [if_neg (by omega)] at hy
         exact hvr k u y (by simpa using hk) hy
     have hcell':=hcell.mono hF hg
     exact .box bk et _ _ hi ho0 (setRow_heap w bk vals _ et (0,0) hb) hcell'.size hcell'.one hcell'.vr
 ·rename_i et sz es hh
  split at he
  rotate_left
  ·cases he
  rename_i el hel
  split at he
  rotate_left
  ·cases he
  rename_i ds hds
  split at he
  rotate_left
  ·cases he
  rename_i hc2
  obtain ⟨hjn,hnot⟩:=hc2
  cases he
  cases h1 with
  | pdead v _ _ _ _ hdd=>rw [hdd] at hh;cases hh
  | p _ _ _ bk hi hn' hnd =>
   rw [hh] at hblk hae
   simp only [Blk.sz] at hae
   cases hblk with
   | slnil=>simp at hel
   | sl bk' _ e0 _ _ _ cur hz hi' hb htc hle hml hsz hvr =>
    rw [hi] at hi';cases hi'
    obtain ⟨rfl,ho0,cap,hC,hle2,hC2⟩:=htc rfl
    rw [ho0,Nat.zero_add] at hae
    simp only [ho0,Nat.zero_add] at hvr
    have hrefs:∀ id',id'∈(Opd.ev σ.t v').refs→∃ e sz m es,σ.h id' = .sl e sz m es:=by
     rw [Qe2 hst];exact Qcp hds
    obtain ⟨S1,hF1⟩:=S.freeze (Opd.ev σ.t v').refs (by rw [Qe2 hst];exact Qdo hds)
    obtain ⟨hownF,hownK⟩:=QrC S hrefs
    generalize hids:(Opd.ev σ.t v').refs=ids at *
    have hh1:updL σ.h (frz σ.h ids) id = .sl e0 sz .ow es:=by rw [Zz,if_neg hnot,hh]
    have hilt:i<es.length:=(List.getElem?_eq_some_iff.1 hel).1
    have hels:el.length=sz:=hsz el (List.mem_of_getElem? hel)
    have hdsl:=AV.ds_get hds
    have hcurs:i*sz+j+n≤cur.size:=by
     rw [hC]
     have:(i+1)*sz≤cap*sz:=Nat.mul_le_mul_right _ (by omega)
     rw [Nat.add_mul] at this
     omega
    have hvl:(a.eval v).cells.toList.length=n:=by simpa using hvn
    have hrun:=Qkz (P:=C.P) (t:=t) (o:=i*sz+j) hn hb hvn (by omega) hcr.one
    have hspl:(splice cur.toList (i*sz+j) (a.eval v).cells.toList).length=cur.toList.length:=Jq (by simp;omega)
    have hsame:Same (updL σ.h (frz σ.h ids) id) (.sl e0 sz .ow (es.set i (splice el j ds))):=by rw [hh1];exact ⟨rfl,rfl,by simp,.refl _⟩
    have hown:(updL σ.h (frz σ.h ids) id).own=true:=by rw [hh1];rfl
    have hgen:∀ g,(updL σ.h (frz σ.h ids) id).gen=some g→(Blk.sl e0 sz .ow (es.set i (splice el j ds))).gen≠some g:=fun g h=>by rw [hh1] at h;cases h
    have hi1:(ι.loose ids) id=some bk:=hi
    have ho1:(ι.loose ids).o id=0:=ho0
    obtain ⟨hF,hg,_⟩:=QdL S1 hi1 hb (new:=(splice cur.toList (i*sz+j) (a.eval v).cells.toList).toArray) (by simpa using hspl) hsame hown hgen
    have SA:Sat C U' ⟨σ.t,upd (updL σ.h (frz σ.h ids)) id (.sl e0 sz .ow (es.set i (splice el j ds))),σ.nx⟩ a (w.setRow bk (splice cur.toList (i*sz+j) (a.eval v).cells.toList).toArray) (ι.loose ids):=by
     refine S1.setRow hU' hi1 hb (by simpa using hspl) hsame hown hgen (fun e sz g t H es h=>by have h:updL σ.h (frz σ.h ids) id=_:=h;rw [hh1] at h;cases h) ?_
     have hsl:(splice el j ds).length=el.length:=Jq (by have:=hdsl.1;omega)
     refine .sl bk e0 e0 sz .ow _ _ hz hi1 (setRow_heap w bk cur _ e0 (0,0) hb) (fun _=>⟨rfl,ho1,cap,by rw [List.size_toArray,hspl];simpa using hC,by simpa using hle2,hC2⟩) (by rw [ho1,List.size_toArray,hspl,show cur.toList.length=cap*sz by simpa using hC];simp only [List.length_set,Nat.zero_add];exact Nat.mul_le_mul_right _ hle2) (by simpa using hml) (fun x hx=>?_) (fun p q x d hx hd'=>?_)
     ·rcases List.mem_or_eq_of_mem_set hx with hx | rfl
      ·exact hsz x hx
      ·rw [hsl,hels]
     ·have hg1:=Jf (l:=cur.toList) (xs:=(a.eval v).cells.toList) (j:=i*sz+j) (by simp;omega) (p*sz+q)
      rw [ho1,Nat.zero_add,List.getElem?_toArray,hg1]
      by_cases hpi:p=i
      ·subst hpi
       rw [List.getElem?_set_self hilt] at hx
       cases hx
       have hg2:=Jf (l:=el) (xs:=ds) (j:=j) (by have:=hdsl.1;omega) q
       rw [hg2] at hd'
       have hdn:ds.length=n:=by rw [hdsl.1,hlen]
       by_cases e1:q<j
       ·rw [if_pos e1] at hd'
        rw [if_pos (by omega)]
        obtain ⟨u,h3,h4⟩:=hvr p q el d hel hd'
        exact ⟨u,by simpa using h3,(Rd.mono (fun b hb=>⟨hF1 b hb,rfl⟩) h4).mono hF⟩
       ·rw [if_neg e1] at hd'
        by_cases e2:q<j+ds.length
        ·rw [if_pos e2] at hd'
         rw [if_neg (by omega),if_pos (by omega)]
         have hqx:q-j<(Opd.ev σ.t v').cells.length:=by omega
         obtain ⟨d',h5,h6⟩:=hdsl.2 (q-j) _ (List.getElem?_eq_getElem hqx)
         rw [hd'] at h5
         cases h5
         have hqv:q-j<(a.eval v).cells.size:=by omega
         have hvv:=hcr.vr (q-j) _ _ (Array.getElem?_eq_getElem hqv) (List.getElem?_eq_getElem hqx)
         have hrd:=AV.d_rd S hF1 hvv h6 (fun id' b' hid' hib'=>hownF id' b' (by rw [← hids];exact QiP (List.getElem?_eq_getElem hqx) hid') hib') (fun id' b' p' hid' hk'=>hownK id' b' p' (by rw [← hids];exact QiP (List.getElem?_eq_getElem hqx) hid') hk')
         refine ⟨(a.eval v).cells[q-j],?_,hrd.mono hF⟩
         rw [show p*sz+q-(p*sz+j)=q-j by omega]
         simp [hqv]
        ·rw [if_neg e2] at hd'
         rw [if_neg (by omega),if_neg (by omega)]
         obtain ⟨u,h3,h4⟩:=hvr p q el d hel hd'
         exact ⟨u,by simpa using h3,(Rd.mono (fun b hb=>⟨hF1 b hb,rfl⟩) h4).mono hF⟩
      ·rw [List.getElem?_set_ne (fun e=>hpi e.symm)] at hx
       obtain ⟨u,h3,h4⟩:=hvr p q x d hx hd'
       have hq:q<sz:=by rw [← hsz x (List.mem_of_getElem? hx)];exact (List.getElem?_eq_some_iff.1 hd').1
       refine ⟨u,?_,(Rd.mono (fun b hb=>⟨hF1 b hb,rfl⟩) h4).mono hF⟩
       by_cases hlt:p<i
       ·have:(p+1)*sz≤i*sz:=Nat.mul_le_mul_right _ hlt
        rw [Nat.add_mul] at this
        rw [if_pos (by omega)]
        simpa using h3
       ·have:(i+1)*sz≤p*sz:=Nat.mul_le_mul_right _ (by omega)
        rw [Nat.add_mul] at this
        rw [if_neg (by omega),if_neg (by omega)]
        simpa using h3
    refine QhY (σ:=σ) hd ?_ SA ?_
    ·simp only [execOp,ho,hae,Sem.run_bind,hrun,Result.andThen_ok,Sem.run_pure]
    ·funext k
     simp only [updL]
     rw [Zz]
     by_cases hk:k=id
     ·subst hk
      rw [if_neg hnot,Qu,Qu]
     ·rw [Qq _ _ _ _ hk,Qq _ _ _ _ hk,Zz]
 ·rename_i et sz g0 t0 es hh
  split at he
  rotate_left
  ·cases he
  rename_i el hel
  split at he
  rotate_left
  ·cases he
  rename_i ds hds
  split at he
  rotate_left
  ·cases he
  rename_i hc2
  obtain ⟨hjn,hmov,hndr⟩:=hc2
  cases he
  cases h1 with
  | pdead v _ _ _ _ hdd=>rw [hdd] at hh;cases hh
  | p _ _ _ bk hi hn' hnd =>
   rw [hh] at hblk hae
   simp only [Blk.sz] at hae
   cases hblk with
   | slnil=>simp at hel
   | sl bk' _ e0 _ _ _ cur hz hi' hb htc hle hml hsz hvr =>
    rw [hi] at hi';cases hi'
    obtain ⟨L,hL⟩:∃ L,L=posL i j (Opd.ev σ.t v').cells:=⟨_,rfl⟩
    have hLr:L.map (fun x=>x.2.2)=(Opd.ev σ.t v').mrefs:=by rw [hL,Qiy,Qg0 hst]
    obtain ⟨H,hH⟩:∃ H:Pth,H=L.map (fun x=>(x.1,x.2.1))++[]:=⟨_,rfl⟩
    have hilt:i<es.length:=(List.getElem?_eq_some_iff.1 hel).1
    have hels:el.length=sz:=hsz el (List.mem_of_getElem? hel)
    have hdsl:=AV.ds_get hds
    have hdn:ds.length=n:=by rw [hdsl.1,hlen]
    have hcurs:ι.o id+i*sz+j+n≤cur.size:=by
     have:(i+1)*sz≤es.length*sz:=Nat.mul_le_mul_right _ (by omega)
     rw [Nat.add_mul] at this
     omega
    have hvl:(a.eval v).cells.toList.length=n:=by simpa using hvn
    have hrun:=Qkz (P:=C.P) (t:=t) (o:=ι.o id+i*sz+j) hn hb hvn (by omega) hcr.one
    have hspl:(splice cur.toList (ι.o id+i*sz+j) (a.eval v).cells.toList).length=cur.toList.length:=Jq (by simp;omega)
    have hsl:(splice el j ds).length=el.length:=Jq (by omega)
    obtain ⟨es2,hes2⟩:∃ es2,es2=es.set i (splice el j ds):=⟨_,rfl⟩
    have hes2i:es2[i]? = some (splice el j ds):=by rw [hes2];exact List.getElem?_set_self hilt
    have hes2l:es2.length=es.length:=by rw [hes2];simp
    obtain ⟨new,hnew⟩:∃ new,new=(splice cur.toList (ι.o id+i*sz+j) (a.eval v).cells.toList).toArray:=⟨_,rfl⟩
    have hns:new.size=cur.size:=by rw [hnew,List.size_toArray,hspl];simp
    have hsame:Same (σ.h id) (.sl et sz (.dp (g0+1) t0 H) es2):=by rw [hh];exact ⟨rfl,rfl,hes2l,⟨fun h=>h,fun g' h=>⟨g0,rfl,by cases h;omega⟩⟩⟩
    have hown:(σ.h id).own=true:=by rw [hh];rfl
    have hgen:∀ g,(σ.h id).gen=some g→(Blk.sl et sz (.dp (g0+1) t0 H) es2).gen≠some g:=fun g h h'=>by rw [hh] at h;cases h;simp [Blk.gen,Mo.gen] at h'
    obtain ⟨hF,hg,_,hkin⟩:=QdL S hi hb (new:=new) hns hsame hown hgen
    have hg1:=Jf (l:=cur.toList) (xs:=(a.eval v).cells.toList) (j:=ι.o id+i*sz+j) (by simp;omega)
    have hg2:=Jf (l:=el) (xs:=ds) (j:=j) (by omega)
    have hcellv:∀ (k:Nat) (y:AV),(Opd.ev σ.t v').cells[k]? = some y→∃ u d,new[ι.o id+i*sz+(j+k)]? = some u∧(splice el j ds)[j+k]? = some d∧VR w (Fz C w ι σ.h) ι σ.h u y∧y.d σ.h=some d:=by
     intro k y hy
     have hk:k<n:=by rw [← hlen];exact (List.getElem?_eq_some_iff.1 hy).1
     obtain ⟨d,h5,h6⟩:=hdsl.2 k y hy
     have hku:k<(a.eval v).cells.size:=by omega
     refine ⟨(a.eval v).cells[k],d,?_,?_,hcr.vr k _ y (Array.getElem?_eq_getElem hku) hy,h6⟩
     ·rw [hnew,List.getElem?_toArray,hg1,if_neg (by omega),if_pos (by omega),show ι.o id+i*sz+(j+k)-(ι.o id+i*sz+j)=k by omega]
      simp [hku]
     ·rw [hg2,if_neg (by omega),if_pos (by omega),show j+k-j=k by omega]
      exact h5
    have SA:Sat C U' ⟨σ.t,upd σ.h id (.sl et sz (.dp (g0+1) t0 H) es2),σ.nx⟩ a (w.setRow bk new) ι:=by
     refine S.setRow hU' hi hb hns hsame hown hgen (fun e sz g t H es h=>⟨_,_,_,_,_,_,rfl⟩) ?_
     refine .sl bk et e0 sz _ es2 new hz hi (setRow_heap w bk cur _ e0 (0,0) hb) (fun h=>?_) (by rw [hns,hes2l];exact hle) (by rw [hes2l];exact hml) (fun x hx=>?_) (fun p q x d hx hd'=>?_)
     ·obtain ⟨h1,h2,cap,h3,h4,h5⟩:=htc h
      exact ⟨h1,h2,cap,by rw [hns];exact h3,by rw [hes2l];exact h4,h5⟩
     ·rw [hes2] at hx
      rcases List.mem_or_eq_of_mem_set hx with hx | rfl
      ·exact hsz x hx
      ·rw [hsl,hels]
     ·have old:∀ (y:List D),es[p]? = some y→y[q]? = some d→(p≠i∨q<j∨j+n≤q)→∃ v,new[ι.o id+p*sz+q]? = some v∧RM (w.setRow bk new) (Fz C (w.setRow bk new) ι (upd σ.h id (.sl et sz (.dp (g0+1) t0 H) es2))) ι id (.dp (g0+1) t0 H) p q v d:=by
       intro y hy hyd hpq
       have hq:q<sz:=by rw [← hsz y (List.mem_of_getElem? hy)];exact (List.getElem?_eq_some_iff.1 hyd).1
       obtain ⟨u,h3,h4,h5⟩:=hvr p q y d hy hyd
       refine ⟨u,?_,h4,fun _=>(h5 (by simp)).mono (hkin id)⟩
       rw [hnew,List.getElem?_toArray,hg1]
       by_cases hlt:p<i
       ·have:(p+1)*sz≤i*sz:=Nat.mul_le_mul_right _ hlt
        rw [Nat.add_mul] at this
        rw [if_pos (by omega)]
        simpa using h3
       ·by_cases hgt:i<p
        ·have:(i+1)*sz≤p*sz:=Nat.mul_le_mul_right _ (by omega)
         rw [Nat.add_mul] at this
         rw [if_neg (by omega),if_neg (by omega)]
         simpa using h3
        ·have:p=i:=by omega
         subst this
         rcases hpq with h | h | h
         ·exact absurd rfl h
         ·rw [if_pos (by omega)];simpa using h3
         ·rw [if_neg (by omega),if_neg (by omega)];simpa using h3
      by_cases hpi:p=i
      ·subst hpi
       rw [hes2i] at hx
       cases hx
       by_cases e1:q<j
       ·rw [hg2,if_pos e1] at hd'
        exact old el hel hd' (.inr (.inl e1))
       ·by_cases e2:q<j+n
        ·obtain ⟨y,hy⟩:∃ y,(Opd.ev σ.t v').cells[q-j]? = some y:=⟨_,List.getElem?_eq_getElem (by omega)⟩
         obtain ⟨u,d2,k1,k2,k3,k4⟩:=hcellv (q-j) y hy
         have hjq:j+(q-j)=q:=by omega
         rw [hjq] at k1 k2
         rw [hd'] at k2
         cases k2
         have hmv:=Qaj hmov hy
         rw [hjq] at hmv
         refine ⟨u,k1,?_⟩
         cases y with
         | c d0 =>
          cases d0 with
          | v uu =>
           simp only [AV.d,Option.some.injEq] at k4
           subst k4
           cases k3 with | c _ _ hr=>exact .pl (hr.mono hF) (fun _=>rfl)
          | sl=>simp [AV.mov] at hmv
         | n sz0 =>
          simp only [AV.d,Option.some.injEq] at k4
          subst k4
          cases k3 with | n=>exact ⟨rfl,fun _=>.nil _ _⟩
         | r sz0 id' off len =>
          refine ⟨k3.one rfl,fun hnot=>absurd ?_ hnot⟩
          rw [hH,hL,List.append_nil]
          have:=Qjz (i:=p) (j:=j) hy
          rw [hjq] at this
          exact List.mem_map.2 ⟨(p,q,id'),this,rfl⟩
         | b d0 id' g' pt =>
          simp only [AV.mov,Bool.and_eq_true,decide_eq_true_eq] at hmv
          obtain ⟨⟨m1,m2⟩,m3⟩:=hmv
          have m1:=Nat.eq_of_beq_eq_true m1
          have m2:=Nat.eq_of_beq_eq_true m2
          subst m1;subst m2;subst m3
          simp only [AV.d,hh,Blk.genf,if_true,Option.some.injEq] at k4
          subst k4
          have hrl:=(k3.bok (by rw [hh];rfl)).1
          exact ⟨hrl.one,fun _=>hrl.mono (hkin id')⟩
         | _=>simp [AV.mov] at hmv
        ·rw [hg2,if_neg e1,if_neg (by omega)] at hd'
         exact old el hel hd' (.inr (.inr (by omega)))
      ·rw [hes2,List.getElem?_set_ne (fun e=>hpi e.symm)] at hx
       exact old x hx hd' (.inl hpi)
    obtain ⟨ι',h',q1,q2,q3,q4,q5,q6⟩:=Sat.merges L SA (by rw [← hH];exact Qu _ _ _) (by rw [hLr];exact hndr) (fun i' j' n' hm'=>by
     rw [hL] at hm'
     obtain ⟨rfl,k,sz0,off,len,rfl,hy⟩:=Qe4 hm'
     have hmv:=Qaj hmov hy
     simp only [AV.mov,Bool.and_eq_true,Bool.not_eq_true'] at hmv
     have hnb:n'≠id:=fun h=>by subst h;simp at hmv
     obtain ⟨e',sz',g',t',es',hhn⟩:=Qok hmv.2
     obtain ⟨u,d2,k1,k2,k3,k4⟩:=hcellv k _ hy
     simp only [AV.d,hhn] at k4
     simp only [Mo.full,if_true,Option.some.injEq] at k4
     have hsz0:sz0=sz':=by
      cases k3 with
      | rdead _ _ _ _ _ _ hd=>rw [hd] at hhn;cases hhn
      | rnil _ _ _ _ _ hh'=>rw [hh'] at hhn;cases hhn;rfl
      | remp _ _ _ _ _ _ _ hh'=>rw [hh'] at hhn;cases hhn;rfl
      | r _ _ _ _ _ _ _ _ _ _ _ hh'=>rw [hh'] at hhn;cases hhn;rfl
     subst hsz0
     refine ⟨hnb,u,sz0,off,len,e',g',t',es',splice el j ds,?_,⟨bk,new,e0,hi,setRow_heap w bk cur _ e0 (0,0) hb,k1⟩,k3.mono hF hg,hes2i,by rw [k2,k4]⟩
     show upd σ.h id _ n'=_
     rw [Qq _ _ _ _ hnb];exact hhn)
    refine QhY (σ:=σ) hd ?_ q1 ?_
    ·rw [hnew];simp only [execOp,ho,hae,Sem.run_bind,hrun,Result.andThen_ok,Sem.run_pure]
    ·rw [q2]
     funext k
     simp only [updL]
     rw [QjA,← hLr]
     by_cases hk:k=id
     ·subst hk
      have:k∉L.map fun x=>x.2.2:=by
       intro hk
       obtain ⟨⟨i',j',n'⟩,hx1,hx2⟩:=List.mem_map.1 hk
       simp only at hx2
       subst hx2
       rw [hL] at hx1
       obtain ⟨rfl,q,sz0,off,len,rfl,hq⟩:=Qe4 hx1
       have hmv:=Qaj hmov hq
       simp [AV.mov] at hmv
      rw [if_neg this,Qu,if_pos rfl,hes2]
     ·rw [Qq _ _ _ _ hk,if_neg hk]
      show _=if k∈L.map (fun x=>x.2.2) then Blk.dead else upd σ.h id _ k
      rw [Qq _ _ _ _ hk]
 ·cases he
end
end Go.Proofs.YtdplaepmjogjjaaGreat.Am
namespace Go.Proofs.YtdplaepmjogjjaaGreat.Am
open Go Go.RowKit
section
variable {C:Ctx} {U U':Nat→Prop} {σ:St} {a:Act} {w w':World} {ι:Io}
def ZV (σ:St) (b id:Nat):Prop:=id=b∨(∃ e sz m es,σ.h id = .sl e sz m es)∧(σ.h id).own=true
structure Over (ι:Io) (K':Nat→Option (Nat × Pth)) (id idx b:Nat) (B:Blk):Prop where
 k1:∀ k y p,ι.k k=some (y,p)→y≠id→y≠idx→K' k=some (y,p)
 k2:∀ k y p,K' k=some (y,p)→(ι.k k=some (y,p)∧y≠id∧y≠idx)∨(y=b∧p≠[]∧(∃ z q,ι.k k=some (z,q))∧∃ e sz g t H es,B = .sl e sz (.dp g t H) es)
def Io.over (ι:Io) (K':Nat→Option (Nat × Pth)) (id idx b:Nat) (g:Option Nat):Io:=⟨upd (upd (upd ι.b id none) idx none) b g,K',upd ι.o b 0⟩
def Z3 (h:Nat→Blk) (id idx b:Nat) (B:Blk):Nat→Blk:=upd (upd (upd h id .dead) idx .dead) b B
theorem Io.over_b {ι:Io} {K':Nat→Option (Nat × Pth)} {id idx b:Nat} {g:Option Nat}:(ι.over K' id idx b g) b=g:=Qu _ _ _
theorem Io.over_ne {ι:Io} {K':Nat→Option (Nat × Pth)} {id idx b y:Nat} {g:Option Nat} (h1:y≠b) (h2:y≠id) (h3:y≠idx):(ι.over K' id idx b g) y=ι y:=by
 show upd _ _ _ _=_
 rw [Qq _ _ _ _ h1,Qq _ _ _ _ h3,Qq _ _ _ _ h2]
theorem Io.over_some {ι:Io} {K':Nat→Option (Nat × Pth)} {id idx b y k:Nat} {g:Option Nat} (h1:y≠b) (h:(ι.over K' id idx b g) y=some k):y≠id∧y≠idx∧ι y=some k:=by
 have h:upd (upd (upd ι.b id none) idx none) b g y=some k:=h
 rw [Qq _ _ _ _ h1] at h
 by_cases h2:y=idx
 ·subst h2;rw [Qu] at h;cases h
 ·rw [Qq _ _ _ _ h2] at h
  by_cases h3:y=id
  ·subst h3;rw [Qu] at h;cases h
  ·rw [Qq _ _ _ _ h3] at h
   exact ⟨h3,h2,h⟩
theorem ZS {h:Nat→Blk} {id idx b:Nat} {B:Blk}:Z3 h id idx b B b=B:=Qu _ _ _
theorem ZZ {h:Nat→Blk} {id idx b y:Nat} {B:Blk} (h1:y≠b) (h2:y≠id) (h3:y≠idx):Z3 h id idx b B y=h y:=by
 unfold Z3
 rw [Qq _ _ _ _ h1,Qq _ _ _ _ h3,Qq _ _ _ _ h2]
theorem Qa4 {h:Nat→Blk} {id idx b y:Nat} {B:Blk} (h1:y≠b) (h2:y=id∨y=idx):Z3 h id idx b B y = .dead:=by
 unfold Z3
 rw [Qq _ _ _ _ h1]
 by_cases h3:y=idx
 ·subst h3;rw [Qu]
 ·rw [Qq _ _ _ _ h3]
  rcases h2 with rfl | h2
  ·rw [Qu]
  ·exact absurd h2 h3
theorem QfZ (S:Sat C U σ a w ι) {id idx b:Nat} (hb:U b) (hid:ZV σ b id) (hidx:ZV σ b idx) {B:Blk} {K':Nat→Option (Nat × Pth)} (hK:Over ι K' id idx b B) (hsz:w.heap.size≤w'.heap.size)
  (hold:∀ k,k<w.heap.size→ι id≠some k→w'.heap[k]? = w.heap[k]?) {g:Option Nat} (hg:∀ k,g=some k→C.fr k∧k<w'.heap.size∧(w.heap.size≤k∨ι id=some k)) :
  (∀ k,Fz C w ι σ.h k→Fz C w' (ι.over K' id idx b g) (Z3 σ.h id idx b B) k∧w'.heap[k]? = w.heap[k]?) ∧
  (∀ i,Goes w w' ι (ι.over K' id idx b g) σ.h (Z3 σ.h id idx b B) i)∧(∀ i,i≠b→i≠id→i≠idx→Rest w w' ι (ι.over K' id idx b g) i):=by
 have hnot:∀ y,ZV σ b y→∀ k,Fz C w ι σ.h k→ι y≠some k:=by
  intro y hy k hk hik
  rcases hy with rfl | ⟨_,hown⟩
  ·rw [(S.fresh _ hb).2] at hik;cases hik
  ·have:=hk.2.2.1 y hik
   rw [hown] at this
   cases this
 have hlabs:∀ k y p,ι.k k=some (y,p)→w'.heap[k]? = w.heap[k]?:=fun k y p hk=>hold k (S.lab k y p hk).lt ((S.lab k y p hk).ne id)
 have hrest:∀ i,i≠b→i≠id→i≠idx→Rest w w' ι (ι.over K' id idx b g) i:=fun i h1 h2 h3 =>
  ⟨Io.over_ne h1 h2 h3,Qq _ _ _ _ h1,fun k hk=>hold k (S.rng i k hk).2 (fun e=>h2 (S.inj i id k hk e)),fun k p hk=>⟨hK.k1 k i p hk h2 h3,hlabs k i p hk⟩⟩
 refine ⟨fun k hk=>⟨⟨by have:=hk.1;omega,hk.2.1,fun i hik=>?_,?_⟩,hold k hk.1 (hnot id hid k hk)⟩,fun i=>?_,hrest⟩
 ·by_cases h1:i=b
  ·subst h1
   rw [Io.over_b] at hik
   obtain ⟨_,_,h3⟩:=hg k hik
   rcases h3 with h3 | h3
   ·have:=hk.1;omega
   ·exact absurd h3 (hnot id hid k hk)
  ·obtain ⟨h2,h3,h4⟩:=Io.over_some h1 hik
   rw [ZZ h1 h2 h3]
   exact hk.2.2.1 i h4
 ·show K' k=none
  cases hx:K' k with
  | none=>rfl
  | some z =>
   obtain ⟨y,p⟩:=z
   rcases hK.k2 k y p hx with ⟨h1,_⟩ | ⟨_,_,⟨z,q,h1⟩,_⟩
   ·rw [hk.2.2.2] at h1;cases h1
   ·rw [hk.2.2.2] at h1;cases h1
 ·by_cases h1:i=b
  ·subst h1;exact .inl (S.fresh i hb).1
  ·by_cases h2:i=id∨i=idx
   ·exact .inr (.inl (Qa4 h1 h2))
   ·simp only [not_or] at h2
    exact (hrest i h1 h2.1 h2.2).goes (ZZ h1 h2.1 h2.2)
theorem Sat.moved (S:Sat C U σ a w ι) {id idx b:Nat} (hb:U b) (hU':∀ i,U' i→U i∧i≠b) (hid:ZV σ b id) (hidx:ZV σ b idx) {B:Blk} {K':Nat→Option (Nat × Pth)} (hK:Over ι K' id idx b B) (hfra:Fra C w') (hsz:w.heap.size≤w'.heap.size)
  (hold:∀ k,k<w.heap.size→ι id≠some k→w'.heap[k]? = w.heap[k]?) {g:Option Nat} (hg:∀ k,g=some k→C.fr k∧k<w'.heap.size∧(w.heap.size≤k∨ι id=some k)) (hB:B≠.none∧B≠.dead)
  (hBR:BR w' (Fz C w' (ι.over K' id idx b g) (Z3 σ.h id idx b B)) (ι.over K' id idx b g) (Z3 σ.h id idx b B) b B) :
  Sat C U' ⟨σ.t,Z3 σ.h id idx b B,σ.nx⟩ a w' (ι.over K' id idx b g):=by
 obtain ⟨hF,hgo,hrest⟩:=QfZ S hb hid hidx hK hsz hold hg
 have hnb:∀ y,ZV σ b y→y≠b→∃ e sz m es,σ.h y = .sl e sz m es:=fun y hy h=>hy.elim (fun e=>absurd e h) (fun h=>h.1)
 have clash:∀ i k,i≠b→(ι.over K' id idx b g) i=some k→g≠some k:=by
  intro i k h1 hi hgk
  obtain ⟨h2,_,h3⟩:=Io.over_some h1 hi
  obtain ⟨_,_,h4⟩:=hg k hgk
  rcases h4 with h4 | h4
  ·have:=(S.rng i k h3).2;omega
  ·exact h2 (S.inj i id k h3 h4)
 refine S.evolve hfra hF hgo (fun i cs hx=>by
  by_cases h:i=b
  ·subst h;rw [ZS];exact hB.2
  ·by_cases h2:i=id∨i=idx
   ·rcases h2 with rfl | rfl
    ·obtain ⟨e,sz,m,es,h3⟩:=hnb _ hid h;rw [hx] at h3;cases h3
    ·obtain ⟨e,sz,m,es,h3⟩:=hnb _ hidx h;rw [hx] at h3;cases h3
   ·simp only [not_or] at h2
    rw [ZZ h h2.1 h2.2,hx];simp) (fun i=>?_) (fun i j k hi hj=>?_) (fun i k hi=>?_) (fun i hi=>?_) (fun i k hi=>?_) (fun k i p hk=>?_)
 ·by_cases h1:i=b
  ·subst h1;right;rw [ZS];exact hBR
  ·by_cases h2:i=id∨i=idx
   ·right;rw [Qa4 h1 h2];exact .dead
   ·simp only [not_or] at h2
    left
    exact ⟨ZZ h1 h2.1 h2.2,hrest i h1 h2.1 h2.2⟩
 ·by_cases h1:i=b
  ·by_cases h2:j=b
   ·rw [h1,h2]
   ·subst h1
    rw [Io.over_b] at hi
    exact absurd hi (clash j k h2 hj)
  ·by_cases h2:j=b
   ·subst h2
    rw [Io.over_b] at hj
    exact absurd hj (clash i k h1 hi)
   ·exact S.inj i j k (Io.over_some h1 hi).2.2 (Io.over_some h2 hj).2.2
 ·by_cases h1:i=b
  ·subst h1
   rw [Io.over_b] at hi
   obtain ⟨h2,h3,_⟩:=hg k hi
   exact ⟨.inl h2,h3⟩
  ·obtain ⟨h2,h3,h4⟩:=Io.over_some h1 hi
   rw [ZZ h1 h2 h3]
   obtain ⟨h5,h6⟩:=S.rng i k h4
   exact ⟨h5,by omega⟩
 ·obtain ⟨h1,h2⟩:=hU' i hi
  have h3:=S.fresh i h1
  have h4:∀ y,ZV σ b y→i≠y:=by
   rintro y hy rfl
   obtain ⟨e,sz,m,es,h5⟩:=hnb _ hy h2
   rw [h3.1] at h5;cases h5
  rw [ZZ h2 (h4 id hid) (h4 idx hidx),Io.over_ne h2 (h4 id hid) (h4 idx hidx)]
  exact h3
 ·by_cases h1:i=b
  ·subst h1;rw [ZS];exact hB
  ·obtain ⟨h2,h3,h4⟩:=Io.over_some h1 hi
   rw [ZZ h1 h2 h3]
   exact S.live i k h4
 ·have hkk:K' k=some (i,p):=hk
  have hne:∀ L:(∀ z,ι z≠some k),∀ hlt:k<w.heap.size,∀ z,(ι.over K' id idx b g) z≠some k:=fun L hlt z hz=>by
   by_cases h1:z=b
   ·subst h1
    rw [Io.over_b] at hz
    obtain ⟨_,_,h4⟩:=hg k hz
    rcases h4 with h4 | h4
    ·omega
    ·exact L id h4
   ·exact L z (Io.over_some h1 hz).2.2
  rcases hK.k2 k i p hkk with ⟨h1,h2,h3⟩ | ⟨rfl,h2,⟨z,q,h1⟩,h3⟩
  ·have L:=S.lab k i p h1
   have h4:i≠b:=fun h=>by subst h;obtain ⟨_,_,_,_,_,_,h9⟩:=L.dp;rw [(S.fresh i hb).1] at h9;cases h9
   exact ⟨L.pn,by rw [ZZ h4 h2 h3];exact L.dp,L.fr,by have:=L.lt;omega,hne L.ne L.lt⟩
  ·have L:=S.lab k z q h1
   exact ⟨h2,by rw [ZS];exact h3,L.fr,by have:=L.lt;omega,hne L.ne L.lt⟩
structure Src (w:World) (R:Nat→Nat→Value→D→Prop) (sz:Nat) (u:Value) (xs:List (List D)) (news:List Value):Prop where
 len:news.length=xs.length*sz
 val:(u = .slice none 0 0∧xs=[])∨∃ ad cap,u = .slice (some ad) xs.length cap∧∀ j v,news[j]? = some v→w.cell? (ad.add j)=some v
 one:∀ v,v∈news→v.oneCell'=true
 esz:∀ e,e∈xs→e.length=sz
 rd:∀ (p q:Nat) (el:List D) (d:D),xs[p]? = some el→el[q]? = some d→∃ v,news[p*sz+q]? = some v∧R p q v d
def elsR (w:World) (F:Nat→Prop) (ι:Io) (h:Nat→Blk):AV→Nat→Nat→Value→D→Prop
 | .r _ id off _,p,q,v,d=>match h id with
  | .sl _ _ (.dp _ _ _) _=>RL w ι.k id [(off+p,q)] v d
  | _=>Rd w F v d
 | .b _ id _ pt,p,q,v,d=>RL w ι.k id (pt++[(p,q)]) v d
 | _,_,_,v,d=>Rd w F v d
theorem RL.rdpl {w:World} {K:Nat→Option (Nat × Pth)} {id:Nat} {p:Pth} {v:Value} {d:D} {F:Nat→Prop} (h:RL w K id p v d) (hd:d.pl=true):Rd w F v d:=by
 cases h with
 | v _ x h=>exact .v _ h
 | nil=>exact .nil _
 | emp=>exact .emp _ _ _
 | sl _ b o len cap sz es cur e0 x hz hne =>
  cases es with
  | nil=>exact absurd rfl hne
  | cons=>simp [D.pl] at hd
theorem QEl {w:World} {F:Nat→Prop} {ι:Io} {h:Nat→Blk} {x:AV} {p q:Nat} {v:Value} {d:D} (hr:elsR w F ι h x p q v d):v.oneCell'=true:=by
 unfold elsR at hr
 split at hr
 ·split at hr
  ·exact RL.one hr
  ·exact Rd.one hr
 ·exact RL.one hr
 ·exact Rd.one hr
theorem QjZ {xs:List (List D)} (h:Jc xs=true) {p q:Nat} {el:List D} {d:D} (hp:xs[p]? = some el) (hq:el[q]? = some d):d.pl=true :=
 List.all_eq_true.1 (List.all_eq_true.1 h el (List.mem_of_getElem? hp)) d (List.mem_of_getElem? hq)
theorem QjO {w:World} {F:Nat→Prop} {ι:Io} {h:Nat→Blk} {x:AV} {xs:List (List D)} (hok:x.okA h xs=true) {p q:Nat} {el:List D} {v:Value} {d:D} (hp:xs[p]? = some el) (hq:el[q]? = some d) (hr:elsR w F ι h x p q v d):Rd w F v d:=by
 unfold elsR at hr
 split at hr
 ·rename_i sz id off len
  simp only [AV.okA] at hok
  split at hr
  ·rename_i hh
   rw [hh] at hok
   exact RL.rdpl hr (QjZ hok hp hq)
  ·exact hr
 ·simp only [AV.okA] at hok
  exact RL.rdpl hr (QjZ hok hp hq)
 ·exact hr
theorem Qsv {p q sz:Nat} (hq:q<sz):(p*sz+q) / sz=p∧(p*sz+q) % sz=q:=by
 have h:0<sz:=by omega
 rw [Nat.mul_comm]
 constructor
 ·rw [Nat.mul_add_div h,Nat.div_eq_of_lt hq,Nat.add_zero]
 ·rw [Nat.mul_add_mod,Nat.mod_eq_of_lt hq]
theorem QCQ (S:Sat C U σ a w ι) {u:Value} {x:AV} {sz:Nat} {xs:List (List D)} (h0:0<sz) (hv:VR w (Fz C w ι σ.h) ι σ.h u x) (hx:x.els σ.h sz=some xs) :
  ∃ news,Src w (elsR w (Fz C w ι σ.h) ι σ.h x) sz u xs news:=by
 cases hv with
 | u=>simp [AV.els] at hx
 | c v d hr =>
  cases hr with
  | v=>simp [AV.els] at hx
  | nil sz' =>
   simp only [AV.els] at hx
   split at hx
   ·cases hx;exact ⟨[],by simp,.inl ⟨rfl,rfl⟩,by simp,by simp,by simp⟩
   ·cases hx
  | emp ad cap sz' =>
   simp only [AV.els] at hx
   split at hx
   ·cases hx;exact ⟨[],by simp,.inr ⟨ad,cap,rfl,by simp⟩,by simp,by simp,by simp⟩
   ·cases hx
  | sl bk of len cap sz' es xv hlen hcap hml hszs hb hc hr =>
   simp only [AV.els] at hx
   split at hx
   ·rename_i hs
    simp only [Option.some.injEq] at hx
    subst hx
    subst hs
    subst hlen
    have hat:∀ k,k<es.length*sz'→∃ el d,es[k / sz']? = some el∧el[k % sz']? = some d:=by
     intro k hk
     have h1:k / sz'<es.length:=Nat.div_lt_of_lt_mul (by rw [Nat.mul_comm];exact hk)
     have h2:k % sz'<es[k / sz'].length:=by rw [hszs _ (List.getElem_mem h1)];exact Nat.mod_lt _ h0
     exact ⟨es[k / sz'],_,List.getElem?_eq_getElem h1,List.getElem?_eq_getElem h2⟩
    have hg:∀ k v,((List.range (es.length*sz')).map fun k=>xv (k / sz') (k % sz'))[k]? = some v→k<es.length*sz'∧v=xv (k / sz') (k % sz'):=by
     intro k v hk
     have hlt:=(List.getElem?_eq_some_iff.1 hk).1
     simp only [List.length_map,List.length_range] at hlt
     rw [List.getElem?_map,List.getElem?_range hlt] at hk
     simp at hk
     exact ⟨hlt,hk.symm⟩
    refine ⟨(List.range (es.length*sz')).map fun k=>xv (k / sz') (k % sz'),by simp,.inr ⟨_,cap,rfl,fun j v hj=>?_⟩,fun v hv=>?_,hszs,fun p q el d hp hq=>?_⟩
    ·obtain ⟨hlt,rfl⟩:=hg j v hj
     obtain ⟨el,d,h1,h2⟩:=hat j hlt
     rw [ZP]
     have:=hc _ _ el d h1 h2
     rw [show of+j / sz'*sz'+j % sz'=of+j by have:=Nat.div_add_mod' j sz';omega] at this
     exact this
    ·obtain ⟨k,hk,he⟩:=List.getElem_of_mem hv
     obtain ⟨hlt,rfl⟩:=hg k v (by rw [← he];exact List.getElem?_eq_getElem hk)
     obtain ⟨el,d,h1,h2⟩:=hat k hlt
     exact (hr _ _ el d h1 h2).one
    ·have hqs:q<sz':=by rw [← hszs el (List.mem_of_getElem? hp)];exact (List.getElem?_eq_some_iff.1 hq).1
     have hpl:=(List.getElem?_eq_some_iff.1 hp).1
     have hlt:p*sz'+q<es.length*sz':=by
      have:(p+1)*sz'≤es.length*sz':=Nat.mul_le_mul_right _ hpl
      rw [Nat.add_mul] at this
      omega
     obtain ⟨e1,e2⟩:=Qsv (p:=p) hqs
     refine ⟨xv p q,?_,hr p q el d hp hq⟩
     rw [List.getElem?_map,List.getElem?_range hlt]
     simp [e1,e2]
   ·cases hx
 | n=>simp only [AV.els,Option.some.injEq] at hx;subst hx;exact ⟨[],by simp,.inl ⟨rfl,rfl⟩,by simp,by simp,by simp⟩
 | rdead _ _ _ _ _ _ hdd=>simp [AV.els,hdd] at hx
 | rnil id e sz' m hi hh =>
  simp only [AV.els,hh] at hx
  split at hx
  ·cases hx;exact ⟨[],by simp,.inl ⟨rfl,rfl⟩,by simp,by simp,by simp⟩
  ·cases hx
 | remp ad cap id e sz' m hi hh ht =>
  simp only [AV.els,hh] at hx
  split at hx
  ·cases hx;exact ⟨[],by simp,.inr ⟨ad,cap,rfl,by simp⟩,by simp,by simp,by simp⟩
  ·cases hx
 | r id off len bk ao cap et sz' m es hi hh hlen hcap hao htip =>
  simp only [AV.els,hh] at hx
  split at hx
  rotate_left
  ·cases hx
  rename_i hs
  obtain ⟨hs,hfull⟩:=hs
  subst hs
  cases hx
  have hblk:=S.blk id
  rw [hh] at hblk
  have hwl:((es.drop off).take len).length=len:=by simp;omega
  have hwg:∀ (i:Nat) (el:List D),((es.drop off).take len)[i]? = some el→i<len∧es[off+i]? = some el:=by
   intro i el hel
   have hi:=(List.getElem?_eq_some_iff.1 hel).1
   rw [List.getElem?_take,if_pos (by omega),List.getElem?_drop] at hel
   exact ⟨by omega,hel⟩
  cases hblk with
  | slnil =>
   simp at hlen
   have:len=0:=by omega
   subst this
   exact ⟨[],by simp,.inr ⟨_,cap,by simp;rfl,by simp⟩,by simp,by simp,by simp⟩
  | sl bk' _ e0 _ _ _ cur hz hi' hbk htc hle hml hsz hvr =>
   rw [hi] at hi';cases hi'
   have hbnd:ι.o id+off*sz'+len*sz'≤cur.size:=by
    have:(off+len)*sz'≤es.length*sz':=Nat.mul_le_mul_right _ hlen
    rw [Nat.add_mul] at this
    omega
   have hg:∀ k,k<len*sz'→((cur.toList.drop (ι.o id+off*sz')).take (len*sz'))[k]? = cur[ι.o id+off*sz'+k]?:=fun k hk=>by rw [List.getElem?_take,if_pos hk,List.getElem?_drop];simp
   have hnl:((cur.toList.drop (ι.o id+off*sz')).take (len*sz')).length=len*sz':=by simp;omega
   refine ⟨(cur.toList.drop (ι.o id+off*sz')).take (len*sz'),by rw [hnl,hwl],.inr ⟨_,cap,by rw [hwl],fun j v hj=>?_⟩,fun v hv=>?_,fun el hel=>hsz el (List.mem_of_mem_drop (List.mem_of_mem_take hel)),fun p q el d hp hq=>?_⟩
   ·have hjl:j<len*sz':=by rw [← hnl];exact (List.getElem?_eq_some_iff.1 hj).1
    rw [hg j hjl] at hj
    have:len≠0:=by rintro rfl;simp at hjl
    rw [ZP,hao this]
    exact Qbb hbk hj
   ·obtain ⟨k,hk,he⟩:=List.getElem_of_mem hv
    rw [hnl] at hk
    have hk2:=hg k hk
    rw [List.getElem?_eq_getElem (by rw [hnl];exact hk),he] at hk2
    have h1:k / sz'<len:=Nat.div_lt_of_lt_mul (by rw [Nat.mul_comm];exact hk)
    have h1':off+k / sz'<es.length:=by omega
    have h2:k % sz'<es[off+k / sz'].length:=by rw [hsz _ (List.getElem_mem h1')];exact Nat.mod_lt _ h0
    obtain ⟨v',h3,h4⟩:=hvr _ _ _ _ (List.getElem?_eq_getElem h1') (List.getElem?_eq_getElem h2)
    rw [show ι.o id+(off+k / sz')*sz'+k % sz'=ι.o id+off*sz'+k by rw [Nat.add_mul];have:=Nat.div_add_mod' k sz';omega,← hk2] at h3
    cases h3
    exact h4.one
   ·obtain ⟨h3,h4⟩:=hwg p el hp
    obtain ⟨v,h5,h6⟩:=hvr _ q el d h4 hq
    have hqs:q<sz':=by rw [← hsz el (List.mem_of_getElem? h4)];exact (List.getElem?_eq_some_iff.1 hq).1
    refine ⟨v,?_,?_⟩
    rotate_left
    ·simp only [elsR,hh]
     cases m with
     | dp g t H =>
      cases H with
      | nil=>exact h6.2 (by simp)
      | cons=>simp [Mo.full] at hfull
     | _=>exact h6
    have hlt:p*sz'+q<len*sz':=by
     have:(p+1)*sz'≤len*sz':=Nat.mul_le_mul_right _ h3
     rw [Nat.add_mul] at this
     omega
    rw [hg _ hlt,← h5,Nat.add_mul]
    congr 1
    omega
 | pdead=>simp [AV.els] at hx
 | p=>simp [AV.els] at hx
 | q=>simp [AV.els] at hx
 | a=>simp [AV.els] at hx
 | bqdead=>simp [AV.els] at hx
 | bq=>simp [AV.els] at hx
 | bdead v d id g p h1 hd =>
  cases d with
  | v=>simp [AV.els] at hx
  | sl sz' es=>simp [AV.els,hd,Blk.genf] at hx
 | b v d id g p e sz0 m es0 h1 hh hge hvv =>
  cases d with
  | v=>simp [AV.els] at hx
  | sl sz' es =>
  simp only [AV.els] at hx
  split at hx
  rotate_left
  ·cases hx
  rename_i hc0
  obtain ⟨rfl,hg⟩:=hc0
  simp only [Option.some.injEq] at hx
  subst hx
  rw [hh] at hg
  obtain ⟨hrl,_⟩:=hvv (Blk.genf_gen hg)
  cases hrl with
  | nil=>exact ⟨[],by simp,.inl ⟨rfl,rfl⟩,by simp,by simp,by simp⟩
  | emp _ ad cap=>exact ⟨[],by simp,.inr ⟨ad,cap,rfl,by simp⟩,by simp,by simp,by simp⟩
  | sl _ bk of len cap _ _ cur e0 xv hz hne hlen hcap hml hszs hk hbk hle hc hr =>
   subst hlen
   have hat:∀ k,k<es.length*sz'→∃ el d,es[k / sz']? = some el∧el[k % sz']? = some d:=by
    intro k hk
    have h1:k / sz'<es.length:=Nat.div_lt_of_lt_mul (by rw [Nat.mul_comm];exact hk)
    have h2:k % sz'<es[k / sz'].length:=by rw [hszs _ (List.getElem_mem h1)];exact Nat.mod_lt _ h0
    exact ⟨es[k / sz'],_,List.getElem?_eq_getElem h1,List.getElem?_eq_getElem h2⟩
   have hg:∀ k v,((List.range (es.length*sz')).map fun k=>xv (k / sz') (k % sz'))[k]? = some v→k<es.length*sz'∧v=xv (k / sz') (k % sz'):=by
    intro k v hk
    have hlt:=(List.getElem?_eq_some_iff.1 hk).1
    simp only [List.length_map,List.length_range] at hlt
    rw [List.getElem?_map,List.getElem?_range hlt] at hk
    simp at hk
    exact ⟨hlt,hk.symm⟩
   refine ⟨(List.range (es.length*sz')).map fun k=>xv (k / sz') (k % sz'),by simp,.inr ⟨_,cap,rfl,fun j v hj=>?_⟩,fun v hv=>?_,hszs,fun p q el d hp hq=>?_⟩
   ·obtain ⟨hlt,rfl⟩:=hg j v hj
    obtain ⟨el,d,h1,h2⟩:=hat j hlt
    rw [ZP]
    have:=hc _ _ el d h1 h2
    rw [show of+j / sz'*sz'+j % sz'=of+j by have:=Nat.div_add_mod' j sz';omega] at this
    exact Qbb hbk this
   ·obtain ⟨k,hk,he⟩:=List.getElem_of_mem hv
    obtain ⟨hlt,rfl⟩:=hg k v (by rw [← he];exact List.getElem?_eq_getElem hk)
    obtain ⟨el,d,h1,h2⟩:=hat k hlt
    exact (hr _ _ el d h1 h2).one
   ·have hqs:q<sz':=by rw [← hszs el (List.mem_of_getElem? hp)];exact (List.getElem?_eq_some_iff.1 hq).1
    have hpl:=(List.getElem?_eq_some_iff.1 hp).1
    have hlt:p*sz'+q<es.length*sz':=by
     have:(p+1)*sz'≤es.length*sz':=Nat.mul_le_mul_right _ hpl
     rw [Nat.add_mul] at this
     omega
    obtain ⟨e1,e2⟩:=Qsv (p:=p) hqs
    refine ⟨xv p q,?_,hr p q el d hp hq⟩
    rw [List.getElem?_map,List.getElem?_range hlt]
    simp [e1,e2]
 | t=>simp [AV.els] at hx
theorem Qky {R T0 T:Nat→Nat→Value→D→Prop} {sz len:Nat} {es xs:List (List D)} {cur new:Array Value} {news:List Value} {u:Value} (hlen:len≤es.length)
  (hes:∀ (p q:Nat) (el:List D) (d:D),es[p]? = some el→el[q]? = some d→∃ v,cur[p*sz+q]? = some v∧T0 p q v d) (hsz:∀ e,e∈es→e.length=sz) (src:Src w R sz u xs news)
  (hT0:∀ p q v d,p<len→T0 p q v d→T p q v d) (hT:∀ p q el v d,xs[p]? = some el→el[q]? = some d→R p q v d→T (len+p) q v d)
  (h1:∀ k,k<len*sz→new[k]? = cur[k]?) (h2:∀ k,k<xs.length*sz→new[len*sz+k]? = news[k]?) :
  (∀ e,e∈es.take len++xs→e.length=sz)∧∀ (p q:Nat) (el:List D) (d:D),(es.take len++xs)[p]? = some el→el[q]? = some d→∃ v,new[p*sz+q]? = some v∧T p q v d:=by
 refine ⟨fun e he=>?_,fun p q el d hp hq=>?_⟩
 ·rcases List.mem_append.1 he with he | he
  ·exact hsz e (List.mem_of_mem_take he)
  ·exact src.esz e he
 ·rw [List.getElem?_append,List.length_take,Nat.min_eq_left hlen] at hp
  split at hp
  ·rename_i hlt
   rw [List.getElem?_take,if_pos hlt] at hp
   have hqs:q<sz:=by rw [← hsz el (List.mem_of_getElem? hp)];exact (List.getElem?_eq_some_iff.1 hq).1
   obtain ⟨v,h3,h4⟩:=hes p q el d hp hq
   have:(p+1)*sz≤len*sz:=Nat.mul_le_mul_right _ hlt
   rw [Nat.add_mul] at this
   exact ⟨v,by rw [h1 _ (by omega)];exact h3,hT0 p q v d hlt h4⟩
  ·rename_i hge
   have hqs:q<sz:=by rw [← src.esz el (List.mem_of_getElem? hp)];exact (List.getElem?_eq_some_iff.1 hq).1
   have hpl:=(List.getElem?_eq_some_iff.1 hp).1
   obtain ⟨v,h3,h4⟩:=src.rd (p-len) q el d hp hq
   have h5:(p-len+1)*sz≤xs.length*sz:=Nat.mul_le_mul_right _ hpl
   have h6:p*sz=len*sz+(p-len)*sz:=by rw [← Nat.add_mul];congr 1;omega
   rw [Nat.add_mul] at h5
   have h7:=hT (p-len) q el v d hp hq h4
   rw [show len+(p-len)=p by omega] at h7
   refine ⟨v,?_,h7⟩
   rw [h6,Nat.add_assoc,h2 _ (by omega)]
   exact h3
structure Take (C:Ctx) (σ:St) (w:World) (ι:Io) (K':Nat→Option (Nat × Pth)) (b len:Nat) (M M0:Mo) (id:Nat) (R:Nat→Nat→Value→D→Prop) (xs:List (List D)):Prop where
 t0:∀ (w':World) (F':Nat→Prop) (ι':Io),ι'.k=K'→(∀ k,Fz C w ι σ.h k→F' k∧w'.heap[k]? = w.heap[k]?)→(∀ k y p,ι.k k=some (y,p)→w'.heap[k]? = w.heap[k]?)→∀ p q v d,p<len→RM w (Fz C w ι σ.h) ι id M0 p q v d→RM w' F' ι' b M p q v d
 t:∀ (w':World) (F':Nat→Prop) (ι':Io),ι'.k=K'→(∀ k,Fz C w ι σ.h k→F' k∧w'.heap[k]? = w.heap[k]?)→(∀ k y p,ι.k k=some (y,p)→w'.heap[k]? = w.heap[k]?)→∀ p q el v d,xs[p]? = some el→el[q]? = some d→R p q v d→RM w' F' ι' b M (len+p) q v d
theorem Qk6 {P:Program} {w:World} {t ty et sz n cap:Nat} {base:Option Addr} (ht:P.underlying t=some (.slice et)) (hsz:szOf P et=some sz) (hc:n≤cap) :
  (Builtin.append_ #[t,t] ty #[.slice base n cap,.slice none 0 0]).run P w = .ok (.slice base n cap) w:=by
 have hr:=fun w=>Ja hsz w
 cases base <;> simp [Builtin.append_,run_underlying ht,hr,Builtin.lenOf,Builtin.firstCells,hc,storeCells]
theorem QxT {P:Program} {w:World} {t ty et sz cap:Nat} {ad:Addr} (ht:P.underlying t=some (.slice et)) (hsz:szOf P et=some sz) :
  (Builtin.append_ #[t,t] ty #[.slice none 0 0,.slice (some ad) 0 cap]).run P w = .ok (.slice none 0 0) w:=by
 have hr:=fun w=>Ja hsz w
 simp [Builtin.append_,run_underlying ht,hr,Builtin.lenOf,Builtin.firstCells,loadCells,loadCellsFrom]
end
section
variable {C:Ctx} {U U':Nat→Prop} {σ:St} {a:Act} {w:World} {ι:Io} {o:Oper} {Q:Exit→Act→World→Prop} {Γ:Tab} {b:Nat} {e:Eff}
variable (S:Sat C U σ a w ι) (hd:∀ d,o.dst=some d→d<C.N) (hb:U b) (hU':∀ i,U' i→U i∧i≠b)
include S hd hb hU'
theorem Qgu {s x:Operand} {t et sz:Nat} {i:TypeInfo} {z:Value} (ho:o.op = .call { callee:=.builtin .append,args:=#[s,x],argTypes:=#[t,t] }) (ht:C.P.underlying t=some (.slice et)) (hi:C.P.info? et=some i) (hz:i.zero=some z)
  (hsz:i.size=sz) (hzs:z.cells.size=sz) (hby:i.bytes≤32768) (h0:0<sz) {id idx:Nat} {M M0:Mo} {K':Nat→Option (Nat × Pth)} {R:Nat→Nat→Value→D→Prop} (hid:ZV σ b id) (hidx:ZV σ b idx) (hιn:ι id=none) (hs:a.eval s = .slice none 0 0)
  {xs:List (List D)} {news:List Value} (src:Src w R sz (a.eval x) xs news) (hK:Over ι K' id idx b (.sl et sz M xs)) (hT:Take C σ w ι K' b 0 M M0 id R xs) (hlim:xs.length≤big) {bl:List (Nat × Blk)} (hbl:updL σ.h bl=Z3 σ.h id idx b (.sl et sz M xs)) :
  o.wp C.P a w (fun a' w'=>SatU C U' (σ.app o.dst ⟨.r sz b 0 xs.length,bl⟩) a' w') Q:=by
 have hlim':xs.length≤4294967296:=hlim
 have hlabs:∀ w':World,(∀ k,k<w.heap.size→ι id≠some k→w'.heap[k]? = w.heap[k]?)→∀ k y p,ι.k k=some (y,p)→w'.heap[k]? = w.heap[k]?:=fun w' hold k y p hk=>hold k (S.lab k y p hk).lt ((S.lab k y p hk).ne id)
 by_cases hx0:xs=[]
 ·subst hx0
  have hold:∀ k,k<w.heap.size→ι id≠some k→w.heap[k]? = w.heap[k]?:=fun _ _ _=>rfl
  have SA:=S.moved hb hU' hid hidx hK S.fra (Nat.le_refl _) hold (g:=none) (by simp) ⟨by simp,by simp⟩ (.slnil et sz M h0 Io.over_b)
  refine Jb (σ:=σ) hd (v:=.slice none 0 0) ?_ SA (.rnil b et sz M Io.over_b ZS) hbl
  rcases src.val with ⟨h1,_⟩ | ⟨ad,cap,h1,_⟩
  ·have:=Qk6 (P:=C.P) (w:=w) (ty:=o.type) (base:=none) (n:=0) (cap:=0) (sz:=sz) ht (by unfold szOf;rw [hi];simp [hsz]) (Nat.le_refl 0)
   simp [execOp,ho,resolve,invoke,builtin,hs,h1,this]
  ·have:=QxT (P:=C.P) (w:=w) (ty:=o.type) (ad:=ad) (cap:=cap) (sz:=sz) ht (by unfold szOf;rw [hi];simpa using hsz)
   simp only [List.length_nil] at h1
   simp [execOp,ho,resolve,invoke,builtin,hs,h1,this]
 ·rcases src.val with ⟨_,h1⟩ | ⟨ad,cap,h1,hcell⟩
  ·exact absurd h1 hx0
  ·have hpos:0<xs.length:=List.length_pos_iff.2 hx0
   have hnl:news.length=xs.length*i.size:=by rw [src.len,hsz]
   have hbytes:xs.length*i.bytes≤281474976710656:=by
    have:=Nat.mul_le_mul hlim' hby
    omega
   have hrun:=run_append_nil (P:=C.P) w t o.type et i z ht hi hz ad xs.length cap news hnl hcell hpos (by omega) hbytes
   have hge:=grownCap_ge w xs.length 0 et
   have hle:=grownCap_le_maxLen w xs.length 0 et (by simp [maxLen];omega)
   generalize grownCap w xs.length 0 et=G at *
   have hold:∀ k,k<w.heap.size→ι id≠some k→(w.drew.alloc (.cells (news.toArray++Builtin.zeroCells z.cells (G-xs.length)) et)).heap[k]? = w.heap[k]?:=fun k hk _=>Below.heap_alloc w.drew _ k hk
   have hfra:Fra C (w.drew.alloc (.cells (news.toArray++Builtin.zeroCells z.cells (G-xs.length)) et)):=by
    have:Fra C w.drew:=⟨S.fra.os,S.fra.tape,S.fra.output,S.fra.size,S.fra.block⟩
    exact this.alloc _
   have hg:∀ k,some w.heap.size=some k→C.fr k∧k<(w.drew.alloc (.cells (news.toArray++Builtin.zeroCells z.cells (G-xs.length)) et)).heap.size∧(w.heap.size≤k∨ι id=some k):=by
    intro k hk;cases hk;exact ⟨.inl S.fra.size,by simp,.inl (Nat.le_refl _)⟩
   obtain ⟨hF,hgo,_⟩:=QfZ (w':=w.drew.alloc (.cells (news.toArray++Builtin.zeroCells z.cells (G-xs.length)) et)) S hb hid hidx hK (by simp) hold (g:=some w.heap.size) hg
   have hsize:(news.toArray++Builtin.zeroCells z.cells (G-xs.length)).size=G*sz:=by
    rw [Array.size_append,size_zeroCells,hzs]
    simp only [List.size_toArray,src.len]
    rw [← Nat.add_mul]
    congr 1
    omega
   have hnew:∀ k,k<xs.length*sz→(news.toArray++Builtin.zeroCells z.cells (G-xs.length))[0*sz+k]? = news[k]?:=by
    intro k hk
    rw [Nat.zero_mul,Nat.zero_add,Array.getElem?_append_left (by simpa [src.len] using hk)]
    simp
   have ho0:(ι.over K' id idx b (some w.heap.size)).o b=0:=Qu _ _ _
   obtain ⟨c1,c2⟩:=Qky (T0:=fun _ _ _ _=>False) (T:=RM (w.drew.alloc (.cells (news.toArray++Builtin.zeroCells z.cells (G-xs.length)) et)) _ (ι.over K' id idx b (some w.heap.size)) b M) (sz:=sz) (len:=0) (es:=[]) (cur:=#[]) (Nat.zero_le _) (by simp) (by simp) src
    (fun p q v d h _=>absurd h (Nat.not_lt_zero _)) (hT.t _ _ (ι.over K' id idx b (some w.heap.size)) rfl hF (hlabs _ hold)) (by simp) hnew
   have SA:=S.moved hb hU' hid hidx hK hfra (by simp) hold hg ⟨by simp,by simp⟩
    (.sl w.heap.size et et sz M xs _ h0 Io.over_b (heap_alloc_new w.drew _) (fun _=>⟨rfl,ho0,G,hsize,by omega,hle⟩) (by rw [ho0,hsize,Nat.zero_add];exact Nat.mul_le_mul_right _ (by omega)) (by omega) (by simpa using c1)
     (fun p q el d hp hq=>by obtain ⟨v,k1,k2⟩:=c2 p q el d (by simpa using hp) hq;exact ⟨v,by rw [ho0,Nat.zero_add];exact k1,k2⟩))
   refine Jb (σ:=σ) hd ?_ SA (.r b 0 xs.length w.heap.size 0 G et sz M xs Io.over_b ZS (by omega) (by omega) (fun _=>by rw [ho0];simp) (fun _ _=>⟨rfl,?_⟩)) hbl
   ·simp [execOp,ho,resolve,invoke,builtin,hs,h1,hrun]
   ·unfold World.shape?
    rw [show (w.drew.alloc (.cells (news.toArray++Builtin.zeroCells z.cells (G-xs.length)) et)).heap[w.heap.size]? = some (.cells (news.toArray++Builtin.zeroCells z.cells (G-xs.length)) et) from heap_alloc_new w.drew _]
    simp [hsize]
theorem Qoi {s x:Operand} {t et sz:Nat} {i:TypeInfo} {z:Value} (ho:o.op = .call { callee:=.builtin .append,args:=#[s,x],argTypes:=#[t,t] }) (ht:C.P.underlying t=some (.slice et)) (hi:C.P.info? et=some i) (hz:i.zero=some z)
  (hsz:i.size=sz) (hzs:z.cells.size=sz) (hby:i.bytes≤32768) (h0:0<sz) {id idx bk cap len:Nat} {M M0:Mo} {K':Nat→Option (Nat × Pth)} {R:Nat→Nat→Value→D→Prop} {es:List (List D)} {cur:Array Value} (hh:σ.h id = .sl et sz M0 es) (hM0:M0.own=true) (hidx:ZV σ b idx) (hbk:ι id=some bk) (hs:a.eval s = .slice (some ⟨bk,0,none⟩) len cap)
  (hheap:w.heap[bk]? = some (.cells cur et (0,0))) (hC:cur.size=cap*sz) (hle:es.length≤cap) (hC2:cap≤maxLen) (hszs:∀ e,e∈es→e.length=sz)
  (hes:∀ (p q:Nat) (el:List D) (d:D),es[p]? = some el→el[q]? = some d→∃ v,cur[p*sz+q]? = some v∧RM w (Fz C w ι σ.h) ι id M0 p q v d) (hlen:len≤es.length)
  {xs:List (List D)} {news:List Value} (src:Src w R sz (a.eval x) xs news) (hK:Over ι K' id idx b (.sl et sz M (es.take len++xs))) (hT:Take C σ w ι K' b len M M0 id R xs) (hcond:len=es.length∨len+xs.length≤es.length) (hlim:len+xs.length≤big)
  {bl:List (Nat × Blk)} (hbl:updL σ.h bl=Z3 σ.h id idx b (.sl et sz M (es.take len++xs))) :
  o.wp C.P a w (fun a' w'=>SatU C U' (σ.app o.dst ⟨.r sz b 0 (len+xs.length),bl⟩) a' w') Q:=by
 have hlim':len+xs.length≤4294967296:=hlim
 have hid:ZV σ b id:=.inr ⟨⟨_,_,_,_,hh⟩,by rw [hh];exact hM0⟩
 have hrng:=S.rng id bk hbk
 have hB0:C.fr bk:=hrng.1.elim (fun h=>h) fun ⟨_,cs,h⟩=>by rw [hh] at h;cases h
 have hl':(es.take len++xs).length=len+xs.length:=by simp;omega
 have hlabs:∀ w':World,(∀ k,k<w.heap.size→ι id≠some k→w'.heap[k]? = w.heap[k]?)→∀ k y p,ι.k k=some (y,p)→w'.heap[k]? = w.heap[k]?:=fun w' hold k y p hk=>hold k (S.lab k y p hk).lt ((S.lab k y p hk).ne id)
 have ho0:∀ g,(ι.over K' id idx b g).o b=0:=fun g=>Qu _ _ _
 have place:∀ new:Array Value,new.size=cur.size→(∀ k,k<len*sz→new[k]? = cur[k]?)→(∀ k,k<xs.length*sz→new[len*sz+k]? = news[k]?)→len+xs.length≤cap →
   (execOp a.eval o).run C.P w = .ok (.value (.slice (some ⟨bk,0,none⟩) (len+xs.length) cap)) (w.setRow bk new) →
   o.wp C.P a w (fun a' w'=>SatU C U' (σ.app o.dst ⟨.r sz b 0 (len+xs.length),bl⟩) a' w') Q:=by
  intro new hns hn1 hn2 hcap hrun
  have hold:∀ k,k<w.heap.size→ι id≠some k→(w.setRow bk new).heap[k]? = w.heap[k]?:=fun k _ hk=>setRow_other w bk k new (fun e=>hk (by rw [hbk,e]))
  have hg:∀ k,some bk=some k→C.fr k∧k<(w.setRow bk new).heap.size∧(w.heap.size≤k∨ι id=some k):=by
   intro k hk;cases hk;exact ⟨hB0,by simpa using hrng.2,.inr hbk⟩
  obtain ⟨hF,hgo,_⟩:=QfZ (w':=w.setRow bk new) S hb hid hidx hK (by simp) hold (g:=some bk) hg
  obtain ⟨c1,c2⟩:=Qky (T:=RM (w.setRow bk new) _ (ι.over K' id idx b (some bk)) b M) hlen hes hszs src (hT.t0 _ _ (ι.over K' id idx b (some bk)) rfl hF (hlabs _ hold)) (hT.t _ _ (ι.over K' id idx b (some bk)) rfl hF (hlabs _ hold)) hn1 hn2
  have SA:=S.moved hb hU' hid hidx hK (S.fra.setRow hB0.fra new) (by simp) hold hg ⟨by simp,by simp⟩
   (.sl bk et et sz M _ new h0 Io.over_b (setRow_heap w bk cur new et (0,0) hheap) (fun _=>⟨rfl,ho0 _,cap,by omega,by omega,hC2⟩) (by rw [ho0,Nat.zero_add,hl',hns,hC];exact Nat.mul_le_mul_right _ hcap) (by omega) c1
    (fun p q el d hp hq=>by obtain ⟨v,k1,k2⟩:=c2 p q el d hp hq;exact ⟨v,by rw [ho0,Nat.zero_add];exact k1,k2⟩))
  refine Jb (σ:=σ) hd hrun SA (.r b 0 (len+xs.length) bk 0 cap et sz M _ Io.over_b ZS (by omega) hcap (fun _=>by rw [ho0];simp) (fun _ _=>⟨rfl,?_⟩)) hbl
  unfold World.shape?
  rw [setRow_heap w bk cur new et (0,0) hheap]
  simp [hns,hC]
 rcases src.val with ⟨h1,h2⟩ | ⟨ad,cx,h1,hcell⟩
 ·subst h2
  refine place cur rfl (fun _ _=>rfl) (by simp) (by simp;omega) ?_
  have:=Qk6 (P:=C.P) (w:=w) (ty:=o.type) (base:=some ⟨bk,0,none⟩) (n:=len) (cap:=cap) (sz:=sz) ht (by unfold szOf;rw [hi];simpa using hsz) (by omega)
  rw [setRow_self w bk cur et (0,0) hheap]
  simp [execOp,ho,resolve,invoke,builtin,hs,h1,this]
 ·have hone:∀ u,u∈news→u.oneCell'=true:=src.one
  by_cases hroom:len+xs.length≤cap
  ·have hfit:len*i.size+news.length≤cur.size:=by
    rw [src.len,hsz,hC,← Nat.add_mul];exact Nat.mul_le_mul_right _ hroom
   have hrun:=run_append_room (P:=C.P) w t o.type et i ht hi bk len cap cur hheap ad xs.length cx news (by rw [src.len,hsz]) hcell hone hroom hfit
   rw [hsz] at hfit
   rw [hsz] at hrun
   have hspl:=Jf (l:=cur.toList) (xs:=news) (j:=len*sz) (by simpa using hfit)
   have hspn:(splice cur.toList (len*sz) news).length=cur.toList.length:=Jq (by simpa using hfit)
   refine place (splice cur.toList (len*sz) news).toArray (by simpa using hspn) (fun k hk=>?_) (fun k hk=>?_) hroom ?_
   ·rw [List.getElem?_toArray,hspl k,if_pos hk];simp
   ·rw [List.getElem?_toArray,hspl,if_neg (by omega),if_pos (by rw [src.len];omega)]
    congr 1
    omega
   ·unfold splice
    simp [execOp,ho,resolve,invoke,builtin,hs,h1,hrun]
  ·have hle2:len=es.length:=by omega
   have holds:∀ j v,(cur.toList.take (len*sz))[j]? = some v→w.cell? ((⟨bk,0,none⟩:Addr).add j)=some v:=by
    intro j v hj
    rw [ZP,Nat.zero_add]
    rw [List.getElem?_take] at hj
    split at hj
    ·exact Qbb hheap (by simpa using hj)
    ·cases hj
   have hlc:len*sz≤cur.size:=by rw [hC];exact Nat.mul_le_mul_right _ (by omega)
   have hol:(cur.toList.take (len*sz)).length=len*i.size:=by rw [hsz];simp;omega
   have hbytes:(len+xs.length)*i.bytes≤140737488355328:=by
    have:=Nat.mul_le_mul hlim' hby
    omega
   have hrun:=run_append_grow (P:=C.P) w t o.type et i z ht hi hz ⟨bk,0,none⟩ len cap (cur.toList.take (len*sz)) hol holds ad xs.length cx news (by rw [src.len,hsz]) hcell (by omega) (by omega) (growslice_fits (by omega) hbytes)
   have hge:=grownCap_ge w (len+xs.length) cap et
   have hle3:=grownCap_le_maxLen w (len+xs.length) cap et (by simp [maxLen];omega)
   generalize grownCap w (len+xs.length) cap et=G at *
   generalize hnewd:((cur.toList.take (len*sz)).toArray++news.toArray++Builtin.zeroCells z.cells (G-(len+xs.length)))=new at *
   have hns:new.size=G*sz:=by
    rw [← hnewd,Array.size_append,Array.size_append,size_zeroCells,hzs]
    simp only [List.size_toArray,src.len,hol,hsz]
    rw [← Nat.add_mul,← Nat.add_mul]
    congr 1
    omega
   have hol':(cur.toList.take (len*sz)).length=len*sz:=by rw [hol,hsz]
   have hn1:∀ k,k<len*sz→new[k]? = cur[k]?:=by
    intro k hk
    rw [← hnewd,Array.append_assoc,Array.getElem?_append_left (by simpa [hol'] using hk),List.getElem?_toArray,List.getElem?_take,if_pos hk]
    simp
   have hn2:∀ k,k<xs.length*sz→new[len*sz+k]? = news[k]?:=by
    intro k hk
    rw [← hnewd,Array.append_assoc,Array.getElem?_append_right (by simp [hol'])]
    rw [Array.getElem?_append_left (by simp [src.len,hol'];omega)]
    simp [hol']
   have hold:∀ k,k<w.heap.size→ι id≠some k→(w.drew.alloc (.cells new et)).heap[k]? = w.heap[k]?:=fun k hk _=>Below.heap_alloc w.drew _ k hk
   have hfra:Fra C (w.drew.alloc (.cells new et)):=by
    have:Fra C w.drew:=⟨S.fra.os,S.fra.tape,S.fra.output,S.fra.size,S.fra.block⟩
    exact this.alloc _
   have hg:∀ k,some w.heap.size=some k→C.fr k∧k<(w.drew.alloc (.cells new et)).heap.size∧(w.heap.size≤k∨ι id=some k):=by
    intro k hk;cases hk;exact ⟨.inl S.fra.size,by simp,.inl (Nat.le_refl _)⟩
   obtain ⟨hF,hgo,_⟩:=QfZ (w':=w.drew.alloc (.cells new et)) S hb hid hidx hK (by simp) hold (g:=some w.heap.size) hg
   obtain ⟨c1,c2⟩:=Qky (T:=RM (w.drew.alloc (.cells new et)) _ (ι.over K' id idx b (some w.heap.size)) b M) hlen hes hszs src (hT.t0 _ _ (ι.over K' id idx b (some w.heap.size)) rfl hF (hlabs _ hold)) (hT.t _ _ (ι.over K' id idx b (some w.heap.size)) rfl hF (hlabs _ hold)) hn1 hn2
   have SA:=S.moved hb hU' hid hidx hK hfra (by simp) hold hg ⟨by simp,by simp⟩
    (.sl w.heap.size et et sz M _ new h0 Io.over_b (heap_alloc_new w.drew _) (fun _=>⟨rfl,ho0 _,G,hns,by omega,hle3⟩) (by rw [ho0,Nat.zero_add,hl',hns];exact Nat.mul_le_mul_right _ (by omega)) (by omega) c1
     (fun p q el d hp hq=>by obtain ⟨v,k1,k2⟩:=c2 p q el d hp hq;exact ⟨v,by rw [ho0,Nat.zero_add];exact k1,k2⟩))
   refine Jb (σ:=σ) hd ?_ SA (.r b 0 (len+xs.length) w.heap.size 0 G et sz M _ Io.over_b ZS (by omega) (by omega) (fun _=>by rw [ho0];simp) (fun _ _=>⟨rfl,?_⟩)) hbl
   ·simp [execOp,ho,resolve,invoke,builtin,hs,h1,hrun]
   ·unfold World.shape?
    rw [show (w.drew.alloc (.cells new et)).heap[w.heap.size]? = some (.cells new et) from heap_alloc_new w.drew _]
    simp [hns]
def Io.join (ι:Io) (b id len idx off l:Nat):Nat→Option (Nat × Pth):=fun k=>match ι.k k with
 | some (y,p)=>match p with
  | (a,c)::q=>if y=id∧a<len then some (b,(a,c)::q) else if y=idx∧off≤a∧a<off+l then some (b,(len+(a-off),c)::q) else if y=id∨y=idx then none else some (y,p)
  | []=>if y=id∨y=idx then none else some (y,p)
 | none=>none
omit S hd hb hU' in
theorem QhM {B:Blk} {id:Nat} (hn:∀ k p,ι.k k≠some (id,p)) (hbl:∀ k p,ι.k k≠some (b,p)):Over ι ι.k id b b B :=
 ⟨fun k y p h _ _=>h,fun k y p h=>.inl ⟨h,fun e=>by subst e;exact hn k p h,fun e=>by subst e;exact hbl k p h⟩⟩
omit S hd hb hU' in
theorem QhP {id len idx off l:Nat} {B:Blk} (hB:∃ e sz g t H es,B = .sl e sz (.dp g t H) es):Over ι (ι.join b id len idx off l) id idx b B:=by
 refine ⟨fun k y p h h1 h2=>?_,fun k y p h=>?_⟩
 ·simp only [Io.join,h]
  cases p with
  | nil=>simp only;rw [if_neg (by simp [h1,h2])]
  | cons c q=>obtain ⟨a,c⟩:=c;simp only;rw [if_neg (fun e=>h1 e.1),if_neg (fun e=>h2 e.1),if_neg (by simp [h1,h2])]
 ·simp only [Io.join] at h
  split at h
  rotate_left
  ·cases h
  rename_i z r hz
  split at h
  ·split at h
   ·cases h;exact .inr ⟨rfl,by simp,⟨_,_,hz⟩,hB⟩
   ·split at h
    ·cases h;exact .inr ⟨rfl,by simp,⟨_,_,hz⟩,hB⟩
    ·split at h
     ·cases h
     ·rename_i hn
      cases h
      simp only [not_or] at hn
      exact .inl ⟨hz,hn.1,hn.2⟩
  ·split at h
   ·cases h
   ·rename_i hn
    cases h
    simp only [not_or] at hn
    exact .inl ⟨hz,hn.1,hn.2⟩
omit hd hU' in
theorem QvX:∀ k p,ι.k k≠some (b,p):=fun k p h=>by
 obtain ⟨_,_,_,_,_,_,h9⟩:=(S.lab k b p h).dp
 rw [(S.fresh b hb).1] at h9
 cases h9
omit S hd hb hU' in
theorem QhQ {K':Nat→Option (Nat × Pth)} {len id:Nat} {R:Nat→Nat→Value→D→Prop} {xs:List (List D)} (hR:∀ p q el v d,xs[p]? = some el→el[q]? = some d→R p q v d→Rd w (Fz C w ι σ.h) v d):Take C σ w ι K' b len .ow .ow id R xs :=
 ⟨fun w' F' ι' _ hF _ p q v d _ h=>Rd.mono hF h,fun w' F' ι' _ hF _ p q el v d h1 h2 h=>(hR p q el v d h1 h2 h).mono hF⟩
omit S hd hb hU' in
theorem Qg6 {len id idx off g:Nat} {t:Bool} {M0:Mo} {x:AV} {xs:List (List D)} (hM0:len=0∨∃ g t,M0 = .dp g t []) (hmv:x.movA σ.h id len xs=true)
  (hx:(∃ sz l e sz' g t H es,x = .r sz idx off l∧σ.h idx = .sl e sz' (.dp g t H) es)∨Jc xs=true) :
  Take C σ w ι (ι.join b id len idx off xs.length) b len (.dp g t []) M0 id (elsR w (Fz C w ι σ.h) ι σ.h x) xs:=by
 refine ⟨fun w' F' ι' hk hF hl p q v d hp h=>?_,fun w' F' ι' hk hF hl p q el v d h1 h2 h=>?_⟩
 ·rcases hM0 with h0 | ⟨g0,t0,rfl⟩
  ·omega
  ·refine ⟨h.1,fun _=>(h.2 (by simp)).map _ fun k r hkk=>⟨?_,hl k id _ hkk⟩⟩
   rw [hk]
   simp only [List.singleton_append] at hkk ⊢
   simp only [Io.join,hkk]
   rw [if_pos ⟨trivial,hp⟩]
 ·refine ⟨QEl h,fun _=>?_⟩
  rcases hx with ⟨sz,l,e,sz',g',t',H,es,rfl,hh⟩ | hpl
  ·simp only [elsR,hh] at h
   refine h.map _ fun k r hkk=>⟨?_,hl k idx _ hkk⟩
   rw [hk]
   simp only [List.singleton_append] at hkk ⊢
   simp only [Io.join,hkk]
   have hpl:=(List.getElem?_eq_some_iff.1 h1).1
   simp only [AV.movA,hh,Bool.or_eq_true,Bool.not_eq_true'] at hmv
   rw [if_neg (fun e=>by
    rcases hmv with hmv | hmv
    ·rw [e.1] at hmv;simp at hmv
    ·have:=Nat.le_of_ble_eq_true hmv;omega),if_pos ⟨trivial,by omega,by omega⟩,show off+p-off=p by omega]
  ·have hd:=QjZ hpl h1 h2
   unfold elsR at h
   split at h
   ·split at h
    ·exact (RL.rdpl (F:=fun _=>False) h hd).pl hd _ _ _
    ·exact Rd.pl h hd _ _ _
   ·exact (RL.rdpl (F:=fun _=>False) h hd).pl hd _ _ _
   ·exact Rd.pl h hd _ _ _
theorem QAi {s x:Operand} {s' x':Opd} {t et sz:Nat} {i:TypeInfo} {t1 t2:TypeId} (ho:o.op = .call { callee:=.builtin .append,args:=#[s,x],argTypes:=#[t,t] }) (ht:elOf C.P t=some et) (hsz:szOf C.P et=some sz) (hi:C.P.info? et=some i) (h0:0<sz)
  (hby:i.bytes≤32768) (hz:(ZW C.P et).map (·.length)=some sz) (hs:cO C.P t1 s=some s') (hx:cO C.P t2 x=some x') (he:Qh Γ (Opd.ev σ.t) σ.h b (.app s' x' et sz)=some e) :
  o.wp C.P a w (fun a' w'=>SatU C U' (σ.app o.dst e) a' w') Q:=by
 obtain ⟨zs,hzs,hzl⟩:=Option.map_eq_some_iff.1 hz
 obtain ⟨i',z,hi',hzz,hcr⟩:=Qdf hzs
 rw [hi] at hi';cases hi'
 obtain ⟨i'',hi'',hsz'⟩:=Qct hsz
 rw [hi] at hi'';cases hi''
 have hzc:z.cells.size=sz:=by rw [(hcr w (fun _=>True) ι σ.h).size];exact hzl
 have h1:=QL S hs
 simp only [Qh] at he
 split at he
 rotate_left
 ·cases he
 rename_i xs hxs
 obtain ⟨news,src⟩:=QCQ S h0 (QL S hx) hxs
 have hbl:=QvX S hb
 have hfb:=(S.fresh b hb)
 have hsrc:∀ id len,(Opd.ev σ.t x').movA σ.h id len xs=true→∃ idx off,ZV σ b idx∧((∃ sz l e sz' g t H es,(Opd.ev σ.t x') = .r sz idx off l∧σ.h idx = .sl e sz' (.dp g t H) es)∨Jc xs=true) ∧
   ((idx=b∧(Opd.ev σ.t x').killA σ.h=[])∨(idx≠b∧(Opd.ev σ.t x').killA σ.h=[idx])):=by
  intro id len hmv
  unfold AV.movA at hmv
  split at hmv
  ·rename_i szr idx off l hxe
   split at hmv
   ·rename_i e1 sz1 g1 t1 H1 es1 hh
    refine ⟨idx,off,.inr ⟨⟨_,_,_,_,hh⟩,by rw [hh];rfl⟩,.inl ⟨_,_,_,_,_,_,_,_,hxe,hh⟩,.inr ⟨fun h=>(by subst h;rw [hfb.1] at hh;cases hh),(by simp only [hxe,AV.killA,hh])⟩⟩
   ·rename_i hno
    refine ⟨b,0,.inl rfl,.inr hmv,.inl ⟨rfl,?_⟩⟩
    rw [hxe]
    simp only [AV.killA]
    first
     | done
     | (split <;> first | rfl | (rename_i hh;exact absurd hh (hno _ _ _ _ _ _)))
  ·rename_i hno
   refine ⟨b,0,.inl rfl,.inr hmv,.inl ⟨rfl,?_⟩⟩
   unfold AV.killA
   split
   ·rename_i hh;exact absurd hh (hno _ _ _ _)
   ·rfl
 split at he
 ·rename_i szn hv
  rw [hv] at h1
  have hae:a.eval s = .slice none 0 0:=by
   generalize a.eval s=av at h1
   cases h1;rfl
  split at he
  rotate_left
  ·cases he
  rename_i hlim
  split at he
  ·split at he
   rotate_left
   ·cases he
   rename_i hdp hmv
   cases he
   obtain ⟨idx,off,k1,k2,k3⟩:=hsrc b 0 hmv
   refine Qgu S hd hb hU' ho (YH ht) hi hzz hsz' hzc hby h0 (id:=b) (idx:=idx) (M:=.dp 0 true []) (M0:=.ow) (.inl rfl) k1 hfb.2 hae src (QhP (len:=0) (off:=off) (l:=xs.length) ⟨_,_,_,_,_,_,rfl⟩) (Qg6 (.inl rfl) hmv k2) hlim ?_
   rcases k3 with ⟨rfl,k3⟩ | ⟨k4,k3⟩
   ·rw [k3]
    funext k
    simp only [kil,List.nil_append,updL]
    by_cases hk:k=idx
    ·subst hk;rw [Qu];exact ZS.symm
    ·rw [Qq _ _ _ _ hk,ZZ hk hk hk]
   ·rw [k3]
    funext k
    simp only [kil,List.singleton_append,updL]
    by_cases hk:k=b
    ·subst hk;rw [Qu];exact ZS.symm
    ·rw [Qq _ _ _ _ hk]
     by_cases hk2:k=idx
     ·subst hk2;rw [Qu,Qa4 hk (.inr rfl)]
     ·rw [Qq _ _ _ _ hk2,ZZ hk hk hk2]
  ·split at he
   rotate_left
   ·cases he
   rename_i hok
   cases he
   refine Qgu S hd hb hU' ho (YH ht) hi hzz hsz' hzc hby h0 (id:=b) (idx:=b) (M:=.ow) (M0:=.ow) (.inl rfl) (.inl rfl) hfb.2 hae src (QhM hbl hbl) (QhQ fun p q el v d h1 h2 hr=>QjO hok h1 h2 hr) hlim ?_
   funext k
   simp only [updL]
   by_cases hk:k=b
   ·subst hk;rw [Qu];exact ZS.symm
   ·rw [Qq _ _ _ _ hk,ZZ hk hk hk]
 ·rename_i szr id len hv
  split at he
  ·rename_i et' sz' es hh
   split at he
   rotate_left
   ·cases he
   rename_i hc
   obtain ⟨rfl,rfl,hcond,hlim,hok⟩:=hc
   cases he
   rw [hv] at h1
   have hown:ZV σ b id:=.inr ⟨⟨_,_,_,_,hh⟩,by rw [hh];rfl⟩
   have hnl:∀ k p,ι.k k≠some (id,p):=fun k p h=>by
    obtain ⟨_,_,_,_,_,_,h9⟩:=(S.lab k id p h).dp
    rw [hh] at h9
    cases h9
   have hidb:id≠b:=fun h=>by subst h;rw [hfb.1] at hh;cases hh
   have hblk2:∀ B,updL σ.h [(id,.dead),(b,B)]=Z3 σ.h id b b B:=by
    intro B
    funext k
    simp only [updL]
    by_cases hk:k=b
    ·subst hk;rw [Qu];exact ZS.symm
    ·rw [Qq _ _ _ _ hk]
     by_cases hk2:k=id
     ·subst hk2;rw [Qu,Qa4 hk (.inl rfl)]
     ·rw [Qq _ _ _ _ hk2,ZZ hk hk2 hk]
   generalize hae:a.eval s=av at h1
   cases h1 with
   | rdead _ _ _ _ _ _ hdd=>rw [hdd] at hh;cases hh
   | remp _ _ _ e' _ m hi' hh' hti=>rw [hh] at hh';cases hh';cases hti
   | rnil _ e' _ m hi' hh' =>
    rw [hh] at hh'
    cases hh'
    have:=Qgu S hd hb hU' ho (YH ht) hi hzz hsz' hzc hby h0 (id:=id) (idx:=b) (M:=.ow) (M0:=.ow) hown (.inl rfl) hi' hae src (QhM hnl hbl) (QhQ fun p q el v d h1 h2 hr=>QjO hok h1 h2 hr) (by simpa using hlim) (hblk2 _) (Q:=Q)
    simpa using this
   | r _ _ _ bk ao cap e' _ m es' hi' hh' hlen hcap hao htip =>
    rw [hh] at hh'
    cases hh'
    obtain ⟨rfl,hshape⟩:=htip rfl rfl
    have hblk:=S.blk id
    rw [hh] at hblk
    cases hblk with
    | slnil _ _ _ _ hin=>rw [hi'] at hin;cases hin
    | sl bk' _ e0 _ _ _ cur hz' hi2 hbk htc hle hml hszs hvr =>
     rw [hi'] at hi2;cases hi2
     obtain ⟨rfl,ho0,Cc,hC,hle2,hC2⟩:=htc rfl
     have hCc:Cc=cap:=by
      unfold World.shape? at hshape
      rw [hbk] at hshape
      simp only [Option.some.injEq,Prod.mk.injEq,true_and] at hshape
      rw [hC] at hshape
      exact Nat.eq_of_mul_eq_mul_right h0 hshape
     subst hCc
     simp only [ho0,Nat.zero_add] at hvr
     exact Qoi S hd hb hU' ho (YH ht) hi hzz hsz' hzc hby h0 (M:=.ow) hh rfl (.inl rfl) hi' hae hbk hC hle2 hC2 hszs hvr (by omega) src (QhM hnl hbl) (QhQ fun p q el v d h1 h2 hr=>QjO hok h1 h2 hr) hcond hlim (hblk2 _)
  ·rename_i et' sz' g0 es hh
   split at he
   rotate_left
   ·cases he
   rename_i hc
   obtain ⟨rfl,rfl,hcond,hlim,hmv⟩:=hc
   cases he
   rw [hv] at h1
   have hown:ZV σ b id:=.inr ⟨⟨_,_,_,_,hh⟩,by rw [hh];rfl⟩
   obtain ⟨idx,off,k1,k2,k3⟩:=hsrc id len hmv
   have hidb:id≠b:=fun h=>by subst h;rw [hfb.1] at hh;cases hh
   have hblk2:∀ B,updL σ.h ((id,.dead)::kil ((Opd.ev σ.t x').killA σ.h)++[(b,B)])=Z3 σ.h id idx b B:=by
    intro B
    funext k
    rcases k3 with ⟨rfl,k3⟩ | ⟨k4,k3⟩
    ·rw [k3]
     simp only [kil,List.cons_append,List.nil_append,updL]
     by_cases hk:k=idx
     ·subst hk;rw [Qu];exact ZS.symm
     ·rw [Qq _ _ _ _ hk]
      by_cases hk2:k=id
      ·subst hk2;rw [Qu,Qa4 hk (.inl rfl)]
      ·rw [Qq _ _ _ _ hk2,ZZ hk hk2 hk]
    ·rw [k3]
     simp only [kil,List.cons_append,List.nil_append,updL]
     by_cases hk:k=b
     ·subst hk;rw [Qu];exact ZS.symm
     ·rw [Qq _ _ _ _ hk]
      by_cases hk3:k=idx
      ·subst hk3;rw [Qu,Qa4 hk (.inr rfl)]
      ·rw [Qq _ _ _ _ hk3]
       by_cases hk2:k=id
       ·subst hk2;rw [Qu,Qa4 hk (.inl rfl)]
       ·rw [Qq _ _ _ _ hk2,ZZ hk hk2 hk3]
   generalize hae:a.eval s=av at h1
   cases h1 with
   | rdead _ _ _ _ _ _ hdd=>rw [hdd] at hh;cases hh
   | remp _ _ _ e' _ m hi' hh' hti=>rw [hh] at hh';cases hh';cases hti
   | rnil _ e' _ m hi' hh' =>
    rw [hh] at hh'
    cases hh'
    have:=Qgu S hd hb hU' ho (YH ht) hi hzz hsz' hzc hby h0 (id:=id) (idx:=idx) (M:=.dp 0 true []) (M0:=.ow) hown k1 hi' hae src (QhP (len:=0) (off:=off) (l:=xs.length) ⟨_,_,_,_,_,_,rfl⟩) (Qg6 (.inl rfl) hmv k2) (by simpa using hlim) (hblk2 _) (Q:=Q)
    simpa using this
   | r _ _ _ bk ao cap e' _ m es' hi' hh' hlen hcap hao htip =>
    rw [hh] at hh'
    cases hh'
    obtain ⟨rfl,hshape⟩:=htip rfl rfl
    have hblk:=S.blk id
    rw [hh] at hblk
    cases hblk with
    | slnil _ _ _ _ hin=>rw [hi'] at hin;cases hin
    | sl bk' _ e0 _ _ _ cur hz' hi2 hbk htc hle hml hszs hvr =>
     rw [hi'] at hi2;cases hi2
     obtain ⟨rfl,ho0,Cc,hC,hle2,hC2⟩:=htc rfl
     have hCc:Cc=cap:=by
      unfold World.shape? at hshape
      rw [hbk] at hshape
      simp only [Option.some.injEq,Prod.mk.injEq,true_and] at hshape
      rw [hC] at hshape
      exact Nat.eq_of_mul_eq_mul_right h0 hshape
     subst hCc
     simp only [ho0,Nat.zero_add] at hvr
     exact Qoi S hd hb hU' ho (YH ht) hi hzz hsz' hzc hby h0 (M:=.dp 0 true []) hh rfl k1 hi' hae hbk hC hle2 hC2 hszs hvr (by omega) src (QhP (len:=len) (off:=off) (l:=xs.length) ⟨_,_,_,_,_,_,rfl⟩) (Qg6 (.inr ⟨_,_,rfl⟩) hmv k2) hcond hlim (hblk2 _)
  ·cases he
 ·cases he
end
end Go.Proofs.YtdplaepmjogjjaaGreat.Am
namespace Go.Proofs.YtdplaepmjogjjaaGreat.Am
open Go Go.RowKit
def noι:Io:=⟨fun _=>none,fun _=>none,fun _=>0⟩
def noh:Nat→Blk:=fun _=>.none
def AV.dat:AV→Bool
 | .c _=>true
 | .a cs=>cs.all fun | .c _=>true | _=>false
 | _=>false
def isC:AV→Bool
 | .c _=>true
 | _=>false
structure DR (w:World) (F:Nat→Prop) (vals:Array Value) (cs:List AV):Prop where
 size:vals.size=cs.length
 one:∀ (k:Nat) (v:Value),vals[k]? = some v→v.oneCell'=true
 vr:∀ (k:Nat) (v:Value) (x:AV),vals[k]? = some v→cs[k]? = some x→VR w F noι noh v x
structure OwnV (w:World) (F:Nat→Prop) (v:Value) (x:Hd) (e:TypeId) (sz:Nat) (m:Mo) (es:List (List D)):Prop where
 hB:x.B = .sl e sz m es
 own:m.own=true
 vr:VR w F x.io (fun _=>x.B) v (.r sz 0 0 es.length)
 br:BR w F x.io (fun _=>x.B) 0 x.B
 lab:∀ b p,x.K b=some p→p≠[]∧b<w.heap.size∧x.o≠some b∧∃ g t H,m = .dp g t H
def Q8 (gb:List Hd) (b:Nat):Prop:=∃ x,x∈gb∧x.has b
def isCO:AV→Bool
 | .c _=>true
 | .ow ..=>true
 | _=>false
inductive Args (w:World) (F:Nat→Prop):List Value→List AV→List Nat→List Hd→Prop where
 | nil:Args w F [] [] [] []
 | dat (v:Value) (x:AV) (vs:List Value) (xs:List AV) (lb:List Nat) (gb:List Hd) (h:VR w F noι noh v x) (hr:Args w F vs xs lb gb) (hx:x.dat=true):Args w F (v::vs) (x::xs) lb gb
 | box (b:Nat) (e:TypeId) (vals:Array Value) (cs:List AV) (vs:List Value) (xs:List AV) (lb:List Nat) (gb:List Hd) (hb:w.heap[b]? = some (.cells vals e (0,0))) (hd:DR w F vals cs) (hc:cs.all isC=true) (hn:b∉lb)
   (hg:¬ Q8 gb b) (hr:Args w F vs xs lb gb):Args w F (.pointer (some ⟨b,0,none⟩)::vs) (.bx cs::xs) (b::lb) gb
 | own (v:Value) (x:Hd) (e:TypeId) (sz:Nat) (m:Mo) (es:List (List D)) (vs:List Value) (xs:List AV) (lb:List Nat) (gb:List Hd) (hv:OwnV w F v x e sz m es) (hn:∀ b,x.has b→b∉lb∧¬ Q8 gb b)
   (hr:Args w F vs xs lb gb):Args w F (v::vs) (.ow e sz m es::xs) lb (x::gb)
 | agg (arr:Array Value) (cs:List AV) (vs:List Value) (xs:List AV) (lb:List Nat) (g1 gb:List Hd) (hc:Args w F arr.toList cs [] g1) (hk:cs.all isCO=true) (h1:∀ v,v∈arr.toList→v.oneCell'=true)
   (hn:∀ b,Q8 g1 b→b∉lb∧¬ Q8 gb b) (hr:Args w F vs xs lb gb):Args w F (.agg arr::vs) (.a cs::xs) lb (g1++gb)
def Res.h (r:Res):Nat→Blk:=fun i=>(r.hb[i]?).getD .none
def FzC (w w':World) (F0:Nat→Prop) (gb:List Hd) (r:Res) (ι:Io) (b:Nat):Prop :=
 b<w'.heap.size∧(r.al=true∧F0 b∨w.heap.size≤b∨Q8 gb b)∧(∀ i,ι i=some b→(((r.hb++r.gv)[i]?).getD .none).own=false)∧ι.k b=none
structure Post (w:World) (F0:Nat→Prop) (lb:List Nat) (gb:List Hd) (r:Res) (v:Value) (w':World) (ι:Io):Prop where
 os:w'.os=w.os
 tape:w'.tape=w.tape
 output:w'.output=w.output
 size:w.heap.size≤w'.heap.size
 block:∀ k,k<w.heap.size→k∉lb→¬ Q8 gb k→w'.heap[k]? = w.heap[k]?
 val:VR w' (FzC w w' F0 gb r ι) ι r.h v r.v
 blk:∀ i,i<r.hb.length→BR w' (FzC w w' F0 gb r ι) ι r.h i (r.h i)
 inj:∀ i j b,ι i=some b→ι j=some b→i=j
 rng:∀ i b,ι i=some b→(w.heap.size≤b∨Q8 gb b)∧b<w'.heap.size∧i<r.hb.length+r.gv.length
 live:∀ i b,ι i=some b→((r.hb++r.gv)[i]?).getD .none≠.none∧((r.hb++r.gv)[i]?).getD .none≠.dead
 lab:∀ b i p,ι.k b=some (i,p)→p≠[]∧(∃ e sz g t H es,(r.hb++r.gv)[i]? = some (.sl e sz (.dp g t H) es))∧(w.heap.size≤b∨Q8 gb b)∧b<w'.heap.size∧∀ j,ι j≠some b
 bxl:r.bx.length=lb.length
 bx:∀ (k b:Nat) (cs:List AV),lb[k]? = some b→r.bx[k]? = some cs→cs.all isC=true∧w'.shape? b=w.shape? b∧∃ e vals,w'.heap[b]? = some (.cells vals e (0,0))∧DR w' (FzC w w' F0 gb r ι) vals cs
 gvl:r.gv.length=gb.length
 gv:∀ (k:Nat) (x:Hd) (B:Blk),gb[k]? = some x→r.gv[k]? = some B→B = .dead∨Zv x.B B∧ι (r.hb.length+k)=x.o∧ι.o (r.hb.length+k)=x.base∧BR w' (FzC w w' F0 gb r ι) ι r.h (r.hb.length+k) B∧∀ b,x.o=some b→w'.shape? b=w.shape? b
def Con (P:Program) (f:FuncId) (args:List AV) (r:Res):Prop :=
 ∀ (w:World) (F0:Nat→Prop) (vs:Array Value) (lb:List Nat) (gb:List Hd),Args w F0 vs.toList args lb gb→(∀ b,F0 b→b<w.heap.size∧b∉lb∧¬ Q8 gb b) →
  Calls P f vs w fun e w'=>∃ v ι,e = .returned v∧Post w F0 lb gb r v w' ι
def YC (P:Program) (Γ:Tab):Prop:=∀ f args r,Γ f args=some r→Con P f args r
theorem VR.data {w:World} {F F':Nat→Prop} (hF:∀ b,F b→F' b) {ι:Io} {h:Nat→Blk} {v:Value} {d:D} (hv:VR w F ι h v (.c d)) {ι':Io} {h':Nat→Blk}:VR w F' ι' h' v (.c d):=by
 cases hv with
 | c v d hr=>exact .c _ _ (hr.mono fun b hb=>⟨hF b hb,rfl⟩)
theorem vr_c {w:World} {F:Nat→Prop} {ι:Io} {h:Nat→Blk} {v:Value} {d:D} (hr:Rd w F v d):VR w F ι h v (.c d):=.c _ _ hr
theorem VR.shift1 {w:World} {F:Nat→Prop} {ι ι':Io} {h h':Nat→Blk} {b n:Nat} (hi:∀ i,i<n→ι' (i+b)=ι i∧ι'.o (i+b)=ι.o i∧h' (i+b)=(h i).sh b) (hn:∀ i,n≤i→h i = .none) {v:Value} {x:AV} (hv:VR w F ι h v x):VR w F ι' h' v (x.sh1 b):=by
 have hlt:∀ i,h i≠.none→i<n:=fun i hx=>by
  rcases Nat.lt_or_ge i n with h1 | h1
  ·exact h1
  ·exact absurd (hn i h1) hx
 cases hv with
 | u=>exact .u _
 | c v d hr=>exact .c _ _ hr
 | n sz=>exact .n _
 | rdead v sz id off len h1 hd =>
  have:=hi id (hlt id (by rw [hd];simp))
  exact .rdead _ _ _ _ _ h1 (by rw [this.2.2,hd];rfl)
 | rnil id e sz m hi' hh =>
  have:=hi id (hlt id (by rw [hh];simp))
  exact .rnil _ e sz m (this.1.trans hi') (by rw [this.2.2,hh];rfl)
 | remp ad cap id e sz m hi' hh ht =>
  have:=hi id (hlt id (by rw [hh];simp))
  exact .remp ad cap _ e sz m (this.1.trans hi') (by rw [this.2.2,hh];rfl) ht
 | r id off len bk ao cap e sz m es hi' hh hlen hcap hao htip =>
  have:=hi id (hlt id (by rw [hh];simp))
  exact .r _ off len bk ao cap e sz m es (this.1.trans hi') (by rw [this.2.2,hh];rfl) hlen hcap (by rw [this.2.1];exact hao) htip
 | pdead v id i j h1 hd =>
  have:=hi id (hlt id (by rw [hd];simp))
  exact .pdead _ _ _ _ h1 (by rw [this.2.2,hd];rfl)
 | p id i j bk hi' hn' hd =>
  have:=hi id (hlt id hn')
  have hs:(h' (id+b)).sz=(h id).sz:=by rw [this.2.2];cases h id <;> rfl
  rw [← hs,← this.2.1]
  refine .p (id+b) i j bk (this.1.trans hi') ?_ ?_
  ·rw [this.2.2];cases hx:h id <;> simp_all [Blk.sh]
  ·rw [this.2.2];cases hx:h id <;> simp_all [Blk.sh]
 | q bk o j cs x hb hc hr=>exact .q bk o j cs x hb hc hr
 | a=>exact .u _
 | t=>exact .u _
 | bdead=>exact .u _
 | b=>exact .u _
 | bqdead=>exact .u _
 | bq=>exact .u _
theorem VR.shift2 {w:World} {F:Nat→Prop} {ι ι':Io} {h h':Nat→Blk} {b n:Nat} (hi:∀ i,i<n→ι' (i+b)=ι i∧ι'.o (i+b)=ι.o i∧h' (i+b)=(h i).sh b) (hn:∀ i,n≤i→h i = .none) {v:Value} {x:AV} (hv:VR w F ι h v x):VR w F ι' h' v (x.sh2 b):=by
 cases x with
 | a cs =>
  cases hv with
  | a vs _ hl h1 hv =>
   refine .a vs _ (by simpa using hl) h1 (fun k v x hk hx=>?_)
   simp only [List.getElem?_map,Option.map_eq_some_iff] at hx
   obtain ⟨y,hy,rfl⟩:=hx
   exact (hv k v y hk hy).shift1 hi hn
 | _=>exact hv.shift1 hi hn
theorem VR.shift {w:World} {F:Nat→Prop} {ι ι':Io} {h h':Nat→Blk} {b n:Nat} (hi:∀ i,i<n→ι' (i+b)=ι i∧ι'.o (i+b)=ι.o i∧h' (i+b)=(h i).sh b) (hn:∀ i,n≤i→h i = .none) {v:Value} {x:AV} (hv:VR w F ι h v x):VR w F ι' h' v (x.sh b):=by
 cases x with
 | t cs =>
  cases hv with
  | t vs _ hl hv =>
   refine .t vs _ (by simpa using hl) (fun k v x hk hx=>?_)
   simp only [List.getElem?_map,Option.map_eq_some_iff] at hx
   obtain ⟨y,hy,rfl⟩:=hx
   exact (hv k v y hk hy).shift2 hi hn
 | _=>exact hv.shift2 hi hn
theorem VR.up {w:World} {F F':Nat→Prop} (hF:∀ b,F b→F' b) {ι:Io} {h:Nat→Blk} {v:Value} {x:AV} (hv:VR w F ι h v x):VR w F' ι h v x :=
 hv.mono (fun b hb=>⟨hF b hb,rfl⟩) (fun id=>Rest.goes ⟨rfl,rfl,fun _ _=>rfl,fun b p hk=>⟨hk,rfl⟩⟩ rfl)
theorem BR.shift {w:World} {F F':Nat→Prop} (hF:∀ b,F b→F' b) {ι ι':Io} {h h':Nat→Blk} {b n:Nat} (hi:∀ i,i<n→ι' (i+b)=ι i∧ι'.o (i+b)=ι.o i∧h' (i+b)=(h i).sh b) (hn:∀ i,n≤i→h i = .none) {i:Nat} (hin:i<n)
  (hk:∀ k p,ι.k k=some (i,p)→ι'.k k=some (i+b,p)) {B:Blk} (hv:BR w F ι h i B):BR w F' ι' h' (i+b) (B.sh b):=by
 cases hv with
 | none=>exact .none
 | dead=>exact .dead
 | box bk e vals cs hi' ho hb hl h1 hv =>
  refine .box bk e vals _ ((hi i hin).1.trans hi') ((hi i hin).2.1.trans ho) hb (by simpa using hl) h1 (fun k v x hk hx=>?_)
  simp only [List.getElem?_map,Option.map_eq_some_iff] at hx
  obtain ⟨y,hy,rfl⟩:=hx
  exact ((hv k v y hk hy).shift1 hi hn).up hF
 | slnil e sz m hz hi'=>exact .slnil e sz m hz ((hi i hin).1.trans hi')
 | sl bk e e0 sz m es cur hz hi' hb htc hle hml hsz hv =>
  refine .sl bk e e0 sz m es cur hz ((hi i hin).1.trans hi') hb (by rw [(hi i hin).2.1];exact htc) (by rw [(hi i hin).2.1];exact hle) hml hsz (fun p q x d hp hq=>?_)
  obtain ⟨v,h1,h2⟩:=hv p q x d hp hq
  refine ⟨v,by rw [(hi i hin).2.1];exact h1,?_⟩
  cases m with
  | dp g t H=>exact ⟨h2.1,fun hnot=>(h2.2 hnot).map _ fun k r hkk=>⟨hk k _ hkk,rfl⟩⟩
  | _=>exact Rd.mono (fun b hb=>⟨hF b hb,rfl⟩) h2
theorem Qpi (l:List Blk):∀ (b:Nat) (h:Nat→Blk) (i:Nat),updL h (ZK b l) i=if b≤i∧i<b+l.length then (l[i-b]?).getD .none else h i:=by
 induction l with
 | nil=>intro b h i;simp only [ZK,updL,List.length_nil];rw [if_neg (by omega)]
 | cons x l ih =>
  intro b h i
  simp only [ZK,updL,List.length_cons]
  rw [ih (b+1) (upd h b x) i]
  by_cases h1:i=b
  ·subst h1
   rw [if_neg (by omega),if_pos (by omega),Qu]
   simp
  ·by_cases h2:b≤i∧i<b+(l.length+1)
   ·rw [if_pos (by omega),if_pos h2]
    rw [show i-b=(i-(b+1))+1 by omega]
    simp
   ·rw [if_neg (by omega),if_neg h2,Qq _ _ _ _ h1]
theorem Yj (h:Nat→Blk):∀ (l m:List (Nat × Blk)),updL h (l++m)=updL (updL h l) m:=by
 intro l
 induction l generalizing h with
 | nil=>intro m;rfl
 | cons x l ih=>intro m;exact ih _ m
theorem Qda (h0:Nat→Blk):∀ (ids:List Nat) (css:List Blk) (h:Nat→Blk) (i:Nat),ids.Nodup→css.length=ids.length →
  (i∉ids→updL h (Zw h0 ids css) i=h i)∧∀ (k:Nat) (B:Blk),ids[k]? = some i→css[k]? = some B→updL h (Zw h0 ids css) i=Yv (h0 i) B
 | [],css,h,i,_,hl=>by
  have:css=[]:=List.eq_nil_of_length_eq_zero hl
  subst this
  exact ⟨fun _=>rfl,by simp⟩
 | id::ids,[],h,i,_,hl=>by simp at hl
 | id::ids,cs0::css,h,i,hnd,hl=>by
  simp only [List.nodup_cons] at hnd
  obtain ⟨h1,h2⟩:=Qda h0 ids css (upd h id (Yv (h0 id) cs0)) i hnd.2 (by simpa using hl)
  simp only [Zw,updL]
  refine ⟨fun hi=>?_,fun k cs hk hcs=>?_⟩
  ·simp only [List.mem_cons,not_or] at hi
   rw [h1 hi.2,Qq _ _ _ _ hi.1]
  ·cases k with
   | zero =>
    simp at hk hcs
    subst hk;subst hcs
    rw [h1 hnd.1,Qu]
   | succ k =>
    simp at hk hcs
    exact h2 k cs hk hcs
theorem Qfc:∀ (ids:List Nat) (css:List (List AV)) (h:Nat→Blk) (i:Nat),ids.Nodup→css.length=ids.length →
  (i∉ids→updL h (ZR ids css) i=h i)∧∀ (k:Nat) (cs:List AV),ids[k]? = some i→css[k]? = some cs→updL h (ZR ids css) i = .box cs
 | [],css,h,i,_,hl=>by
  have:css=[]:=List.eq_nil_of_length_eq_zero hl
  subst this
  exact ⟨fun _=>rfl,by simp⟩
 | id::ids,[],h,i,_,hl=>by simp at hl
 | id::ids,cs0::css,h,i,hnd,hl=>by
  simp only [List.nodup_cons] at hnd
  obtain ⟨h1,h2⟩:=Qfc ids css (upd h id (.box cs0)) i hnd.2 (by simpa using hl)
  simp only [ZR,updL]
  refine ⟨fun hi=>?_,fun k cs hk hcs=>?_⟩
  ·simp only [List.mem_cons,not_or] at hi
   rw [h1 hi.2,Qq _ _ _ _ hi.1]
  ·cases k with
   | zero =>
    simp at hk hcs
    subst hk;subst hcs
    rw [h1 hnd.1,Qu]
   | succ k =>
    simp at hk hcs
    exact h2 k cs hk hcs
end Go.Proofs.YtdplaepmjogjjaaGreat.Am
namespace Go.Proofs.YtdplaepmjogjjaaGreat.Am
open Go Go.RowKit
section
variable {C:Ctx} {U U':Nat→Prop} {σ:St} {a:Act} {w:World} {ι:Io}
theorem QDD {h:Nat→Blk} {xs:List AV} {ds:List D} (hx:AV.ds h xs=some ds):(ds.map AV.c).all isC=true:=by
 rw [List.all_eq_true]
 intro x hx
 obtain ⟨d,_,rfl⟩:=List.mem_map.1 hx
 rfl
theorem QBo (h:Nat→Blk) (ms:List AM) (x:AV) (xs:List AV):AV.argM h ms (x::xs)=match x.argX h (ms.headD .d),AV.argM h ms.tail xs with
  | some d,some ds=>some (d::ds)
  | _,_=>none:=by
 cases ms with
 | nil=>simp only [AV.argM,AV.argL,List.headD_nil,AV.argX,List.tail_nil];cases AV.arg h x <;> cases AV.argL h xs <;> rfl
 | cons m ms=>rfl
theorem Qpe (ms:List AM) (x:AV) (xs:List AV):owns ms (x::xs)=if (ms.headD .d).h then x::owns ms.tail xs else owns ms.tail xs:=by
 cases ms with
 | nil=>simp [owns,AM.h]
 | cons m ms=>rfl
theorem Qox (ms:List AM) (x:AV) (xs:List AV):dats ms (x::xs)=if (ms.headD .d).h then dats ms.tail xs else x::dats ms.tail xs:=by
 cases ms with
 | nil=>simp [dats,AM.h]
 | cons m ms=>rfl
theorem QEW (h:Nat→Blk) (ms:List AM):AV.argM h ms []=some []:=by cases ms <;> rfl
theorem Qzi (ms:List AM):owns ms []=[]:=by cases ms <;> rfl
theorem QFP (ms:List AM):dats ms []=[]:=by cases ms <;> rfl
def hdOf (ι:Io) (x:Nat) (B:Blk):Hd:=⟨ι x,ι.o x,B,fun b=>match ι.k b with | some (y,p)=>if y=x then some p else none | none=>none⟩
def Has (ι:Io) (id b:Nat):Prop:=ι id=some b∨∃ p,ι.k b=some (id,p)
theorem QhT {ι:Io} {x b:Nat} {B:Blk} {p:Pth}:(hdOf ι x B).K b=some p↔ι.k b=some (x,p):=by
 simp only [hdOf]
 cases hx:ι.k b with
 | none=>simp
 | some z =>
  obtain ⟨y,q⟩:=z
  by_cases h:y=x
  ·subst h;simp
  ·simp [h]
theorem Qc0 {ι:Io} {x b:Nat} {B:Blk}:(hdOf ι x B).has b↔Has ι x b:=by
 unfold Hd.has Has
 simp only [QhT]
 exact Iff.rfl
theorem YX (S:Sat C U σ a w ι) {x y b:Nat} (h1:Has ι x b) (h2:Has ι y b):x=y:=by
 rcases h1 with h1 | ⟨p,h1⟩ <;> rcases h2 with h2 | ⟨q,h2⟩
 ·exact S.inj x y b h1 h2
 ·exact absurd h1 ((S.lab b y q h2).ne x)
 ·exact absurd h2 ((S.lab b x p h1).ne y)
 ·rw [h1] at h2;cases h2;rfl
def HB (B0 B:Blk):Prop:=(∃ e sz es,B0 = .sl e sz .ow es∧B = .sl e sz .ow es)∨∃ e sz g t es,B0 = .sl e sz (.dp g t []) es∧B = .sl 0 sz (.dp 0 false []) es
theorem HB.sl {B0 B:Blk} (h:HB B0 B):(∃ e sz m es,B0 = .sl e sz m es)∧B0.own=true:=by
 rcases h with ⟨e,sz,es,rfl,_⟩ | ⟨e,sz,g,t,es,rfl,_⟩
 ·exact ⟨⟨_,_,_,_,rfl⟩,rfl⟩
 ·exact ⟨⟨_,_,_,_,rfl⟩,rfl⟩
theorem Qtk (S:Sat C U σ a w ι) {F0:Nat→Prop} (hF:∀ b,Fz C w ι σ.h b→F0 b) {v:Value} {id e sz e0:Nat} {m m0:Mo} {es:List (List D)} (hB:HB (σ.h id) (.sl e sz m es)) (hh:σ.h id = .sl e0 sz m0 es) (hv:VR w (Fz C w ι σ.h) ι σ.h v (.r sz id 0 es.length)) :
  OwnV w F0 v (hdOf ι id (.sl e sz m es)) e sz m es:=by
 have htip:m.tip=true→m0.tip=true∧e0=e:=by
  rcases hB with ⟨e1,sz1,es1,h1,h2⟩ | ⟨e1,sz1,g,t,es1,h1,h2⟩
  ·rw [hh] at h1;cases h1;cases h2;exact fun _=>⟨rfl,rfl⟩
  ·cases h2;intro h;cases h
 have hown:m.own=true:=by
  rcases hB with ⟨e1,sz1,es1,h1,h2⟩ | ⟨e1,sz1,g,t,es1,h1,h2⟩ <;> cases h2 <;> rfl
 have hio:∀ b p,ι.k b=some (id,p)→(hdOf ι id (.sl e sz m es)).io.k b=some (0,p):=fun b p hk=>by
  simp only [Hd.io]
  rw [QhT.2 hk]
  rfl
 refine ⟨rfl,hown,?_,?_,fun b p hk=>?_⟩
 ·generalize hn:es.length=n at hv ⊢
  cases hv with
  | rdead _ _ _ _ _ _ hd=>rw [hd] at hh;cases hh
  | rnil _ e' _ m' hi hh' =>
   have:es=[]:=List.eq_nil_of_length_eq_zero hn
   subst this
   exact .rnil 0 e sz m hi rfl
  | remp ad cap _ e' _ m' hi hh' ht =>
   have:es=[]:=List.eq_nil_of_length_eq_zero hn
   subst this
   rw [hh] at hh'
   cases hh'
   refine .remp ad cap 0 e sz m hi rfl ?_
   cases hx:m.tip with
   | false=>rfl
   | true=>rw [(htip hx).1] at ht;cases ht
  | r _ _ _ b ao cap e' _ m' es' hi hh' hlen hcap ho ht =>
   rw [hh] at hh'
   cases hh'
   exact .r 0 0 n b ao cap e sz m es hi rfl hlen hcap ho (fun h h0=>by obtain ⟨k1,k2⟩:=htip h;rw [← k2];exact ht k1 h0)
 ·have hb:=S.blk id
  rw [hh] at hb
  show BR w F0 _ _ 0 (.sl e sz m es)
  cases hb with
  | slnil _ _ _ hz hi=>exact .slnil e sz m hz hi
  | sl bk _ e1 _ _ _ cur hz hi hb htc hle hml hsz hv' =>
   refine .sl bk e e1 sz m es cur hz hi hb (fun h=>by obtain ⟨k1,k2⟩:=htip h;rw [← k2];exact htc k1) hle hml hsz (fun i j x d hx hd=>?_)
   obtain ⟨u,h1,h2⟩:=hv' i j x d hx hd
   refine ⟨u,h1,?_⟩
   rcases hB with ⟨e1,sz1,es1,q1,q2⟩ | ⟨e1,sz1,g,t,es1,q1,q2⟩
   ·rw [hh] at q1;cases q1;cases q2
    exact Rd.mono (fun b hb=>⟨hF b hb,rfl⟩) h2
   ·rw [hh] at q1;cases q1;cases q2
    exact ⟨h2.1,fun _=>(h2.2 (by simp)).map _ fun b r hk=>⟨hio b _ hk,rfl⟩⟩
 ·have hk:=QhT.1 hk
  have L:=S.lab b id p hk
  refine ⟨L.pn,L.lt,L.ne id,?_⟩
  obtain ⟨_,_,g,t,H,_,h9⟩:=L.dp
  rcases hB with ⟨e1,sz1,es1,q1,q2⟩ | ⟨e1,sz1,g,t,es1,q1,q2⟩
  ·rw [h9] at q1;cases q1
  ·cases q2;exact ⟨_,_,_,rfl⟩
structure Hands (σ:St) (ι:Io) (gb:List Hd) (ids:List Nat):Prop where
 len:gb.length=ids.length
 get:∀ (k id:Nat),ids[k]? = some id→∃ B,gb[k]? = some (hdOf ι id B)∧HB (σ.h id) B
theorem Hands.giv {gb:List Hd} {ids:List Nat} (H:Hands σ ι gb ids) {b:Nat}:Q8 gb b↔∃ id,id∈ids∧Has ι id b:=by
 constructor
 ·rintro ⟨x,hm,hb⟩
  obtain ⟨k,hk,hke⟩:=List.getElem_of_mem hm
  have hk2:k<ids.length:=by rw [← H.len];exact hk
  obtain ⟨B,h5,h6⟩:=H.get k _ (List.getElem?_eq_getElem hk2)
  rw [List.getElem?_eq_getElem hk,hke] at h5
  cases h5
  exact ⟨_,List.getElem_mem hk2,Qc0.1 hb⟩
 ·rintro ⟨id,hm,hb⟩
  obtain ⟨k,hk⟩:=List.getElem?_of_mem hm
  obtain ⟨B,h5,h6⟩:=H.get k _ hk
  exact ⟨_,List.mem_of_getElem? h5,Qc0.2 hb⟩
theorem Hands.sl {gb:List Hd} {ids:List Nat} (H:Hands σ ι gb ids) {id:Nat} (hm:id∈ids):(∃ e sz m es,σ.h id = .sl e sz m es)∧(σ.h id).own=true:=by
 obtain ⟨k,hk⟩:=List.getElem?_of_mem hm
 obtain ⟨B,h5,h6⟩:=H.get k _ hk
 exact h6.sl
theorem Hands.nil:Hands σ ι [] []:=⟨rfl,by simp⟩
theorem Hands.cons {gb:List Hd} {ids:List Nat} (H:Hands σ ι gb ids) {id:Nat} {B:Blk} (hB:HB (σ.h id) B):Hands σ ι (hdOf ι id B::gb) (id::ids):=by
 refine ⟨by simp [H.len],fun k id' hk=>?_⟩
 cases k with
 | zero=>simp at hk;subst hk;exact ⟨B,rfl,hB⟩
 | succ k=>simpa using H.get k id' (by simpa using hk)
theorem Hands.append {g1 gb:List Hd} {i1 ids:List Nat} (H1:Hands σ ι g1 i1) (H:Hands σ ι gb ids):Hands σ ι (g1++gb) (i1++ids):=by
 refine ⟨by simp [H.len,H1.len],fun k id' hk=>?_⟩
 rw [List.getElem?_append] at hk ⊢
 rw [H1.len]
 split at hk
 ·rename_i h;rw [if_pos h];exact H1.get k id' hk
 ·rename_i h;rw [if_neg h];exact H.get _ id' hk
theorem Quk {h:Nat→Blk} {sz id off len:Nat} {y:AV} (hy:(AV.r sz id off len).argP1 h=some y):∃ e g t es,h id = .sl e sz (.dp g t []) es∧off=0∧len=es.length∧y = .ow 0 sz (.dp 0 false []) es:=by
 simp only [AV.argP1] at hy
 split at hy
 rotate_left
 ·cases hy
 rename_i hh
 split at hy
 rotate_left
 ·cases hy
 rename_i hc
 obtain ⟨rfl,rfl,rfl⟩:=hc
 cases hy
 exact ⟨_,_,_,_,hh,rfl,rfl,rfl⟩
theorem Qqf (S:Sat C U σ a w ι) {F0:Nat→Prop} (hF:∀ b,Fz C w ι σ.h b→F0 b):∀ (vs:List Value) (cs ds:List AV),vs.length=cs.length→(∀ (k:Nat) (v:Value) (x:AV),vs[k]? = some v→cs[k]? = some x→VR w (Fz C w ι σ.h) ι σ.h v x) →
  AV.argPL σ.h cs=some ds→(AV.refsL cs).Nodup→∃ g1,Args w F0 vs ds [] g1∧Hands σ ι g1 (AV.refsL cs)∧ds.all isCO=true
 | [],[],ds,_,_,hd,_=>by
  simp [AV.argPL] at hd
  subst hd
  exact ⟨[],.nil,.nil,rfl⟩
 | v::vs,c::cs,ds,hl,hv,hd,hnd=>by
  simp only [AV.argPL] at hd
  split at hd
  rotate_left
  ·cases hd
  rename_i d ds' h1 h2
  cases hd
  simp only [AV.refsL] at hnd ⊢
  have hnd':=List.nodup_append.1 hnd
  obtain ⟨g1,k1,k2,k3⟩:=Qqf S hF vs cs ds' (by simpa using hl) (fun k v x hk hx=>hv (k+1) v x hk hx) h2 hnd'.2.1
  have hv0:=hv 0 v c rfl rfl
  cases c with
  | c d0 =>
   cases d0 with
   | v x =>
    simp [AV.argP1] at h1
    subst h1
    exact ⟨g1,.dat v _ vs ds' [] g1 (by cases hv0 with | c _ _ hr=>exact vr_c (hr.mono fun b hb=>⟨hF b hb,rfl⟩)) k1 rfl,by simpa [AV.ref1] using k2,by simpa [isCO] using k3⟩
   | sl=>simp [AV.argP1] at h1
  | r sz id off len =>
   obtain ⟨e,g,t,es,hh,rfl,rfl,rfl⟩:=Quk h1
   have hB:HB (σ.h id) (.sl 0 sz (.dp 0 false []) es):=.inr ⟨_,_,_,_,_,hh,rfl⟩
   refine ⟨hdOf ι id (.sl 0 sz (.dp 0 false []) es)::g1,.own v _ 0 sz _ es vs ds' [] g1 (Qtk S hF hB hh hv0) (fun b hb=>⟨by simp,fun hg=>?_⟩) k1,by simpa [AV.ref1] using k2.cons hB,by simpa [isCO] using k3⟩
   obtain ⟨id',h5,h6⟩:=k2.giv.1 hg
   have:=YX S (Qc0.1 hb) h6
   subst this
   exact hnd'.2.2 id (by simp [AV.ref1]) id h5 rfl
  | _=>simp [AV.argP1] at h1
 | [],_::_,_,hl,_,_,_=>by simp at hl
 | _::_,[],_,hl,_,_,_=>by simp at hl
theorem Qd3 (S:Sat C U σ a w ι) {F0:Nat→Prop} (hF:∀ b,Fz C w ι σ.h b→F0 b) :
  ∀ (ms:List AM) (vs:List Value) (xs ys:List AV),vs.length=xs.length→(∀ (k:Nat) (v:Value) (x:AV),vs[k]? = some v→xs[k]? = some x→VR w (Fz C w ι σ.h) ι σ.h v x)→AV.argM σ.h ms xs=some ys →
   (∀ id b,id∈(dats ms xs).flatMap AV.refs→(∃ e sz m es,σ.h id = .sl e sz m es)→Has ι id b→F0 b)→((dats ms xs).flatMap AV.lent).Nodup→((owns ms xs).flatMap AV.refs).Nodup →
   ∃ lb gb,Args w F0 vs ys lb gb∧Hands σ ι gb ((owns ms xs).flatMap AV.refs) ∧
    lb.length=((dats ms xs).flatMap AV.lent).length∧(∀ (k id:Nat),((dats ms xs).flatMap AV.lent)[k]? = some id→∃ b cs,lb[k]? = some b∧ι id=some b∧σ.h id = .box cs)∧(∀ id,id∈(dats ms xs).flatMap AV.refs→∃ e sz m es,σ.h id = .sl e sz m es)∧Full σ.h ((dats ms xs).flatMap AV.refs)
 | ms,[],[],ys,_,_,hy,_,_,_=>by
  rw [QEW] at hy
  cases hy
  rw [Qzi,QFP]
  exact ⟨[],[],.nil,.nil,rfl,by simp,by simp,fun id hid=>by simp at hid⟩
 | ms,[],_::_,ys,hl,_,_,_,_,_=>by simp at hl
 | ms,_::_,[],ys,hl,_,_,_,_,_=>by simp at hl
 | ms,v::vs,x::xs,ys,hl,hv,hy,hown,hnd,hno=>by
  rw [QBo] at hy
  split at hy
  rotate_left
  ·cases hy
  rename_i y ys' hx hys
  cases hy
  have hvx:=hv 0 v x rfl rfl
  obtain ⟨ms',hms⟩:∃ ms',ms'=ms.tail:=⟨_,rfl⟩
  rw [← hms] at hys
  have hbx:∀ (lb:List Nat) (ids:List Nat),lb.length=ids.length→(∀ (k id:Nat),ids[k]? = some id→∃ b cs,lb[k]? = some b∧ι id=some b∧σ.h id = .box cs)→∀ id b,Has ι id b→(∃ e sz m es,σ.h id = .sl e sz m es)→b∉lb:=by
   intro lb ids h1 h2 id b hb ⟨e,sz,m,es,hh⟩ hm
   obtain ⟨k,hk,hke⟩:=List.getElem_of_mem hm
   obtain ⟨b',cs',h5,h6,h7⟩:=h2 k _ (List.getElem?_eq_getElem (by omega))
   rw [List.getElem?_eq_getElem hk,hke] at h5
   cases h5
   have:=YX S hb (.inl h6)
   subst this
   rw [hh] at h7
   cases h7
  cases hm:(ms.headD .d).h with
  | true =>
   have hD:dats ms (x::xs)=dats ms' xs:=by rw [Qox,hm,if_pos rfl,hms]
   have hO:owns ms (x::xs)=x::owns ms' xs:=by rw [Qpe,hm,if_pos rfl,hms]
   rw [hD] at hown hnd ⊢
   rw [hO] at hno ⊢
   simp only [List.flatMap_cons] at hno ⊢
   have hno':=List.nodup_append.1 hno
   obtain ⟨lb,gb,h1,G,h2,h3,h4,h4'⟩:=Qd3 S hF ms' vs xs ys' (by simpa using hl) (fun k v x hk hx=>hv (k+1) v x hk hx) hys hown hnd hno'.2.1
   have one:∀ (sz id:Nat) (e e0:TypeId) (m m0:Mo) (es:List (List D)),x = .r sz id 0 es.length→HB (σ.h id) (.sl e sz m es)→σ.h id = .sl e0 sz m0 es→y = .ow e sz m es →
     ∃ lb gb,Args w F0 (v::vs) (y::ys') lb gb∧Hands σ ι gb (x.refs++(owns ms' xs).flatMap AV.refs)∧lb.length=((dats ms' xs).flatMap AV.lent).length∧(∀ (k id:Nat),((dats ms' xs).flatMap AV.lent)[k]? = some id→∃ b cs,lb[k]? = some b∧ι id=some b∧σ.h id = .box cs) ∧
      (∀ id,id∈(dats ms' xs).flatMap AV.refs→∃ e sz m es,σ.h id = .sl e sz m es)∧Full σ.h ((dats ms' xs).flatMap AV.refs):=by
    rintro sz id e e0 m m0 es rfl hB hh rfl
    refine ⟨lb,hdOf ι id (.sl e sz m es)::gb,.own v _ e sz m es vs ys' lb gb (Qtk S hF hB hh hvx) (fun b hb=>⟨hbx lb _ h2 h3 id b (Qc0.1 hb) ⟨_,_,_,_,hh⟩,fun hg=>?_⟩) h1,by simpa [AV.refs,AV.ref1] using G.cons hB,h2,h3,h4,h4'⟩
    obtain ⟨id',h5,h6⟩:=G.giv.1 hg
    have:=YX S (Qc0.1 hb) h6
    subst this
    exact hno'.2.2 id (by simp [AV.refs,AV.ref1]) id h5 rfl
   cases hmm:ms.headD .d with
   | d=>rw [hmm] at hm;cases hm
   | o =>
    rw [hmm] at hx
    simp only [AV.argX] at hx
    cases x with
    | r sz id off len =>
     simp only [AV.argO] at hx
     split at hx
     rotate_left
     ·cases hx
     rename_i e sz' es hh
     split at hx
     rotate_left
     ·cases hx
     rename_i hc
     obtain ⟨rfl,rfl,rfl⟩:=hc
     cases hx
     exact one sz' id e e .ow .ow es rfl (.inl ⟨_,_,_,hh,rfl⟩) hh rfl
    | _=>simp [AV.argO] at hx
   | p =>
    rw [hmm] at hx
    simp only [AV.argX] at hx
    cases x with
    | r sz id off len =>
     simp only [AV.argP] at hx
     obtain ⟨e,g,t,es,hh,rfl,rfl,rfl⟩:=Quk hx
     exact one sz id 0 e _ _ es rfl (.inr ⟨_,_,_,_,_,hh,rfl⟩) hh rfl
    | a cs =>
     simp only [AV.argP] at hx
     split at hx
     rotate_left
     ·cases hx
     rename_i ds hds
     cases hx
     generalize hcs:cs=cs0 at *
     cases hvx with
     | a arr _ hl' h1' hv' =>
      obtain ⟨g1,k1,k2,k3⟩:=Qqf S hF arr.toList cs0 ds (by simpa using hl') (fun k v x hk hx=>hv' k v x (by simpa using hk) hx) hds hno'.1
      refine ⟨lb,g1++gb,.agg arr ds vs ys' lb g1 gb k1 k3 (fun u hu=>?_) (fun b hb=>?_) h1,k2.append G,h2,h3,h4,h4'⟩
      ·obtain ⟨k,hk⟩:=List.getElem?_of_mem hu
       exact h1' k u (by simpa using hk)
      ·obtain ⟨id,h5,h6⟩:=k2.giv.1 hb
       refine ⟨hbx lb _ h2 h3 id b h6 (k2.sl h5).1,fun hg=>?_⟩
       obtain ⟨id',h7,h8⟩:=G.giv.1 hg
       have:=YX S h6 h8
       subst this
       exact hno'.2.2 id h5 id h7 rfl
    | _=>simp [AV.argP] at hx
  | false =>
  have hmm:ms.headD .d = .d:=by cases hq:ms.headD .d <;> rw [hq] at hm <;> first | rfl | cases hm
  rw [hmm] at hx
  simp only [AV.argX] at hx
  have hD:dats ms (x::xs)=x::dats ms' xs:=by rw [Qox,hm,hms];rfl
  have hO:owns ms (x::xs)=owns ms' xs:=by rw [Qpe,hm,hms];rfl
  rw [hD] at hown hnd ⊢
  rw [hO] at hno ⊢
  simp only [List.flatMap_cons] at hown hnd
  have hnd':=(List.nodup_append.1 hnd)
  obtain ⟨lb,gb,h1,hG,h2,h3,h4,h4'⟩:=Qd3 S hF ms' vs xs ys' (by simpa using hl) (fun k v x hk hx=>hv (k+1) v x hk hx) hys (fun id b hid=>hown id b (List.mem_append.2 (.inr hid))) hnd'.2.1 hno
  have plain:∀ (d:D),x.d σ.h=some d→x.refs=x.ref1→x.lent=[]→y = .c d→∃ lb gb,Args w F0 (v::vs) (y::ys') lb gb∧Hands σ ι gb ((owns ms' xs).flatMap AV.refs) ∧
    lb.length=((x::dats ms' xs).flatMap AV.lent).length∧(∀ (k id:Nat),((x::dats ms' xs).flatMap AV.lent)[k]? = some id→∃ b cs,lb[k]? = some b∧ι id=some b∧σ.h id = .box cs)∧(∀ id,id∈(x::dats ms' xs).flatMap AV.refs→∃ e sz m es,σ.h id = .sl e sz m es)∧Full σ.h ((x::dats ms' xs).flatMap AV.refs):=by
   intro d hd hr hlent hyd
   subst hyd
   have hds:AV.ds σ.h [x]=some [d]:=by simp [AV.ds,hd]
   have hsl:∀ id,id∈x.ref1→∃ e sz m es,σ.h id = .sl e sz m es:=fun id hid=>Qcp hds id (by simpa [AV.refsL] using hid)
   have:Rd w F0 v d:=AV.d_rd S hF hvx hd (fun id b hid hi=>hown id b (List.mem_append.2 (.inl (by rw [hr];exact hid))) (hsl id hid) (.inl hi)) (fun id b p hid hk=>hown id b (List.mem_append.2 (.inl (by rw [hr];exact hid))) (hsl id hid) (.inr ⟨p,hk⟩))
   refine ⟨lb,gb,.dat v _ vs ys' lb gb (vr_c this) h1 rfl,hG,by simpa [hlent] using h2,by simpa [hlent] using h3,fun id hid=>?_,fun id hid=>?_⟩
   ·rw [List.flatMap_cons] at hid
    rcases List.mem_append.1 hid with hid | hid
    ·exact hsl id (by rw [← hr];exact hid)
    ·exact h4 id hid
   ·rw [List.flatMap_cons] at hid
    rcases List.mem_append.1 hid with hid | hid
    ·exact QoT hd id (by rw [← hr];exact hid)
    ·exact h4' id hid
  cases x with
  | c d =>
   simp [AV.arg] at hx
   exact plain d rfl rfl rfl hx.symm
  | n sz =>
   simp [AV.arg] at hx
   exact plain _ rfl rfl rfl hx.symm
  | r sz id off len =>
   simp only [AV.arg] at hx
   split at hx
   rotate_left
   ·cases hx
   rename_i d hd
   cases hx
   exact plain d hd rfl rfl rfl
  | b d0 id g pt =>
   simp only [AV.arg] at hx
   split at hx
   rotate_left
   ·cases hx
   rename_i d hd
   cases hx
   exact plain d hd rfl rfl rfl
  | a cs =>
   simp only [AV.arg] at hx
   split at hx
   rotate_left
   ·cases hx
   rename_i ds hds
   cases hx
   have hdsl:=AV.ds_get hds
   have hrefs:=Qcp hds
   have:VR w F0 noι noh v (.a (ds.map .c)):=by
    generalize hcs:cs=cs0 at *
    cases hvx with
    | a us _ hl' h1' hv' =>
     refine .a us _ (by simp [hdsl.1,hl']) h1' (fun k u y hk hy=>?_)
     simp only [List.getElem?_map,Option.map_eq_some_iff] at hy
     obtain ⟨d,hd,rfl⟩:=hy
     have hlt:k<cs0.length:=by rw [← hdsl.1];exact (List.getElem?_eq_some_iff.1 hd).1
     obtain ⟨d',hd',hdd⟩:=hdsl.2 k _ (List.getElem?_eq_getElem hlt)
     rw [hd] at hd'
     cases hd'
     refine vr_c (AV.d_rd S hF (hv' k u _ hk (List.getElem?_eq_getElem hlt)) hdd (fun id b hid hi=>?_) (fun id b p hid hi=>?_))
     ·have hm:=Qbm (List.getElem?_eq_getElem hlt) hid
      exact hown id b (List.mem_append.2 (.inl hm)) (hrefs id hm) (.inl hi)
     ·have hm:=Qbm (List.getElem?_eq_getElem hlt) hid
      exact hown id b (List.mem_append.2 (.inl hm)) (hrefs id hm) (.inr ⟨p,hi⟩)
   refine ⟨lb,gb,.dat v _ vs ys' lb gb this h1 ?_,hG,by simpa [AV.lent] using h2,by simpa [AV.lent] using h3,fun id' hid=>?_,fun id' hid=>?_⟩
   ·simp only [AV.dat,List.all_eq_true]
    intro x hx
    obtain ⟨d,_,rfl⟩:=List.mem_map.1 hx
    rfl
   ·rw [List.flatMap_cons] at hid
    rcases List.mem_append.1 hid with hid | hid
    ·exact hrefs id' hid
    ·exact h4 id' hid
   ·rw [List.flatMap_cons] at hid
    rcases List.mem_append.1 hid with hid | hid
    ·exact Qdo hds id' hid
    ·exact h4' id' hid
  | p id i j =>
   match i,j,hx with
   | 0,0,hx =>
    simp only [AV.arg] at hx
    split at hx
    rotate_left
    ·cases hx
    rename_i cs hh
    split at hx
    rotate_left
    ·cases hx
    rename_i hnr
    split at hx
    rotate_left
    ·cases hx
    rename_i ds hds
    cases hx
    have hdsl:=AV.ds_get hds
    have hblk:=S.blk id
    rw [hh] at hblk
    cases hvx with
    | pdead _ _ _ _ _ hdd=>rw [hdd] at hh;cases hh
    | p _ _ _ bk hi hn' hnd2 =>
     rw [hh]
     simp only [Blk.sz,Nat.mul_zero,Nat.zero_add]
     cases hblk with
     | box bk' et vals _ hi' ho0 hb hl' h1' hvr =>
      rw [hi] at hi';cases hi'
      rw [ho0]
      have hnot:bk∉lb:=by
       intro hm
       obtain ⟨k,hk,hke⟩:=List.getElem_of_mem hm
       have hk2:k<((dats ms' xs).flatMap AV.lent).length:=by omega
       obtain ⟨b',cs',h5,h6,_⟩:=h3 k _ (List.getElem?_eq_getElem hk2)
       rw [List.getElem?_eq_getElem hk,hke] at h5
       cases h5
       have:=S.inj _ _ _ hi h6
       exact hnd'.2.2 id (by simp [AV.lent]) _ (List.getElem_mem hk2) this
      refine ⟨bk::lb,gb,.box bk et vals _ vs ys' lb gb hb ⟨by simp [hdsl.1,hl'],h1',fun k u y hk hy=>?_⟩ (QDD hds) hnot (fun hgv=>?_) h1,hG,by simp [AV.lent,h2],fun k id' hk=>?_,fun id' hid=>?_,fun id' hid=>?_⟩
      ·simp only [List.getElem?_map,Option.map_eq_some_iff] at hy
       obtain ⟨d,hd,rfl⟩:=hy
       have hlt:k<cs.length:=by rw [← hdsl.1];exact (List.getElem?_eq_some_iff.1 hd).1
       obtain ⟨d',hd',hdd⟩:=hdsl.2 k _ (List.getElem?_eq_getElem hlt)
       rw [hd] at hd'
       cases hd'
       refine vr_c (AV.d_rd S hF (hvr k u _ hk (List.getElem?_eq_getElem hlt)) hdd (fun id b hid hi=>?_) (fun id b p hid hi=>?_))
       ·have hm:=Qbm (List.getElem?_eq_getElem hlt) hid
        rw [hnr] at hm
        cases hm
       ·have hm:=Qbm (List.getElem?_eq_getElem hlt) hid
        rw [hnr] at hm
        cases hm
      ·obtain ⟨id',h5,h6⟩:=hG.giv.1 hgv
       have:=YX S h6 (.inl hi)
       subst this
       obtain ⟨⟨_,_,_,_,h7⟩,_⟩:=hG.sl h5
       rw [hh] at h7
       cases h7
      ·simp only [List.flatMap_cons,AV.lent,List.singleton_append] at hk
       cases k with
       | zero=>simp at hk;subst hk;exact ⟨bk,cs,rfl,hi,hh⟩
       | succ k=>simp at hk;simpa using h3 k id' hk
      ·rw [List.flatMap_cons] at hid
       rcases List.mem_append.1 hid with hid | hid
       ·simp [AV.refs,AV.ref1] at hid
       ·exact h4 id' hid
      ·rw [List.flatMap_cons] at hid
       rcases List.mem_append.1 hid with hid | hid
       ·simp [AV.refs,AV.ref1] at hid
       ·exact h4' id' hid
   | i+1,_,hx=>simp [AV.arg] at hx
   | 0,j+1,hx=>simp [AV.arg] at hx
  | u=>simp [AV.arg] at hx
  | q=>simp [AV.arg] at hx
  | t=>simp [AV.arg] at hx
  | bx=>simp [AV.arg] at hx
  | ow=>simp [AV.arg] at hx
  | bq=>simp [AV.arg] at hx
end
end Go.Proofs.YtdplaepmjogjjaaGreat.Am
namespace Go.Proofs.YtdplaepmjogjjaaGreat.Am
open Go Go.RowKit
section
variable {C:Ctx} {U U':Nat→Prop} {σ:St} {a:Act} {w:World} {ι:Io}
theorem Same.alive {x y:Blk} (h:Same x y):y.alive=true:=by
 cases x <;> cases y <;> first | rfl | exact h.elim
theorem QIJ {x:Blk} {b:Nat} (h:x≠.none∧x≠.dead):x.sh b≠.none∧x.sh b≠.dead:=by
 cases x <;> simp_all [Blk.sh]
theorem QIU {x:Blk} (h:x≠.none∧x≠.dead):fzB x≠.none∧fzB x≠.dead:=by
 cases x <;> simp_all [fzB]
theorem QCJ {x:Blk} {b:Nat}:(x.sh b).own=x.own:=by cases x <;> rfl
theorem QAT {y:Blk} (h:y.alive=true):y≠.none∧y≠.dead:=by
 cases y <;> simp_all [Blk.alive]
theorem QaN {B0 x B:Blk} (hB:HB B0 x) (hs:B = .dead∨Zv x B):Yv B0 B = .dead∨(∃ e sz m es es' m',B0 = .sl e sz m es∧Yv B0 B = .sl e sz m' es'∧es'.length=es.length∧Mo.le m m'∧m.gen≠m'.gen.bind (fun g=>some g) ∧
  (B = .sl e sz m' es'∧m = .ow∧m'.gen=none∨∃ g t g1 t1,m = .dp g t []∧m' = .dp (g+1) false []∧B = .sl 0 sz (.dp g1 t1 []) es'))∨(∃ e sz es es' m',B0 = .sl e sz .ow es∧B = .sl e sz m' es'∧Yv B0 B=B∧es'.length=es.length∧m'.gen=none∧Mo.le .ow m'):=by
 rcases hB with ⟨e,sz,es,rfl,rfl⟩ | ⟨e,sz,g,t,es,rfl,rfl⟩
 ·rcases hs with rfl | hs
  ·exact .inl rfl
  ·cases B with
   | sl e' sz' m' es' =>
    obtain ⟨rfl,rfl,hl,ht,hm⟩:=hs
    have hgn:m'.gen=none:=by
     cases hx:m'.gen with
     | none=>rfl
     | some g=>have:=hm (by rw [hx];rfl);cases this
    exact .inr (.inr ⟨e',sz',es,es',m',rfl,rfl,rfl,hl,hgn,⟨fun _=>rfl,fun g h=>by rw [hgn] at h;cases h⟩⟩)
   | _=>exact hs.elim
 ·rcases hs with rfl | hs
  ·exact .inl rfl
  ·cases B with
   | sl e' sz' m' es' =>
    obtain ⟨rfl,rfl,hl,hm⟩:=hs
    cases m' with
    | dp g1 t1 H =>
     cases H with
     | nil=>exact .inr (.inl ⟨e,sz',_,es,es',_,rfl,rfl,hl,⟨fun h=>(by cases h),fun g' h=>⟨g,rfl,(by cases h;omega)⟩⟩,(by simp [Mo.gen]),.inr ⟨g,t,g1,t1,rfl,rfl,rfl⟩⟩)
     | cons=>exact .inl rfl
    | _=>exact .inl rfl
   | _=>exact hs.elim
set_option maxHeartbeats 1000000 in
theorem Sat.called (S:Sat C U σ a w ι) {b N:Nat} {r:Res} {refs lents hds lb:List Nat} {gb:List Hd} {F0:Nat→Prop} {v:Value} {w':World} {ι':Io}
  (hb:∀ i,b≤i→i<b+N→U i) (hU':∀ i,U' i→U i∧¬ (b≤i∧i<b+N)) (h16:r.hb.length≤N)
  (hF0:r.al=true→∀ k,F0 k→Fz C w (ι.loose refs) (updL σ.h (frz σ.h refs)) k) (hrefs:r.al=true→∀ id,id∈refs→∃ e sz m es,σ.h id = .sl e sz m es) (hfull:r.al=true→Full σ.h refs)
  (hnd:lents.Nodup) (hlen:lb.length=lents.length) (hlents:∀ (k id:Nat),lents[k]? = some id→∃ b cs,lb[k]? = some b∧ι id=some b∧σ.h id = .box cs)
  (hgnd:hds.Nodup) (G:Hands σ ι gb hds) (hdr:∀ id,id∈hds→id∉refs)
  (P:Post w F0 lb gb r v w' ι') :
  ∃ h'' ι'',updL σ.h (ZK b (r.hb.map (Blk.sh b))++ZR lents r.bx++Zw σ.h hds r.gv++(if r.al then frz σ.h refs else []))=h''∧Sat C U' ⟨σ.t,h'',σ.nx⟩ a w' ι''∧VR w' (Fz C w' ι'' h'') ι'' h'' v (r.v.sh b) ∧
   (∀ k,Fz C w ι σ.h k→Fz C w' ι'' h'' k∧w'.heap[k]? = w.heap[k]?)∧(∀ i,Goes w w' ι ι'' σ.h h'' i) ∧
   (∀ i,¬ (b≤i∧i<b+N)→i∉lents→i∉hds→(r.al=true→i∉refs)→Rest w w' ι ι'' i∧h'' i=σ.h i):=by
 obtain ⟨n,hn⟩:∃ n,n=r.hb.length:=⟨_,rfl⟩
 obtain ⟨h'',hh''⟩:∃ h'',h''=updL σ.h (ZK b (r.hb.map (Blk.sh b))++ZR lents r.bx++Zw σ.h hds r.gv++(if r.al then frz σ.h refs else [])):=⟨_,rfl⟩
 have hbxl:r.bx.length=lents.length:=P.bxl.trans hlen
 have hgvl:r.gv.length=hds.length:=P.gvl.trans G.len
 have hdsl:∀ id,id∈hds→∃ e sz m es,σ.h id = .sl e sz m es:=fun id hm=>(G.sl hm).1
 have hdown:∀ id,id∈hds→(σ.h id).own=true:=fun id hm=>(G.sl hm).2
 have lbox:∀ id,id∈lents→∃ bk cs,bk∈lb∧ι id=some bk∧σ.h id = .box cs:=by
  intro id hm
  obtain ⟨k,hk⟩:=List.getElem?_of_mem hm
  obtain ⟨bk,cs,h1,h2,h3⟩:=hlents k _ hk
  exact ⟨bk,cs,List.mem_of_getElem? h1,h2,h3⟩
 have hdbox:∀ id,id∈lents→id∉hds:=by
  intro id hm hm2
  obtain ⟨_,cs,_,_,h3⟩:=lbox id hm
  obtain ⟨e,sz,m,es,h4⟩:=hdsl id hm2
  rw [h4] at h3
  cases h3
 have hrbox:r.al=true→∀ id,id∈lents→id∉refs:=by
  intro ha id hm hm2
  obtain ⟨_,cs,_,_,h3⟩:=lbox id hm
  obtain ⟨e,sz,m,es,h4⟩:=hrefs ha id hm2
  rw [h4] at h3
  cases h3
 have hnew:∀ i,i<n→h'' (i+b)=(r.h i).sh b:=by
  intro i hi
  have hfr:=S.fresh (i+b) (hb _ (by omega) (by omega))
  have h1:i+b∉lents:=fun hm=>by
   obtain ⟨_,cs,_,_,h3⟩:=lbox _ hm
   rw [hfr.1] at h3
   cases h3
  have h2:r.al=true→i+b∉refs:=fun ha hm=>by
   obtain ⟨e,sz,m,es,h3⟩:=hrefs ha _ hm
   rw [hfr.1] at h3
   cases h3
  have h0:i+b∉hds:=fun hm=>by
   obtain ⟨e,sz,m,es,h3⟩:=hdsl _ hm
   rw [hfr.1] at h3
   cases h3
  have hbase:updL (updL (updL σ.h (ZK b (r.hb.map (Blk.sh b)))) (ZR lents r.bx)) (Zw σ.h hds r.gv) (i+b)=(r.h i).sh b:=by
   rw [(Qda σ.h hds r.gv _ (i+b) hgnd hgvl).1 h0,(Qfc lents r.bx _ (i+b) hnd hbxl).1 h1,Qpi,if_pos ⟨by omega,by simp;omega⟩]
   have:i<r.hb.length:=by omega
   simp [Res.h,this]
  rw [hh'',Yj,Yj,Yj]
  cases ha:r.al
  ·simpa [updL] using hbase
  ·simp only [if_true]
   rw [Zz,if_neg (h2 ha)]
   exact hbase
 have hlent:∀ (k id:Nat) (cs:List AV),lents[k]? = some id→r.bx[k]? = some cs→h'' id = .box cs:=by
  intro k id cs hk hcs
  have hm:id∈lents:=List.mem_of_getElem? hk
  rw [hh'',Yj,Yj,Yj]
  have hbase:updL (updL (updL σ.h (ZK b (r.hb.map (Blk.sh b)))) (ZR lents r.bx)) (Zw σ.h hds r.gv) id = .box cs:=by
   rw [(Qda σ.h hds r.gv _ id hgnd hgvl).1 (hdbox id hm)]
   exact (Qfc lents r.bx (updL σ.h (ZK b (r.hb.map (Blk.sh b)))) id hnd hbxl).2 k cs hk hcs
  cases ha:r.al
  ·simpa [updL] using hbase
  ·simp only [if_true]
   rw [Zz,if_neg (hrbox ha id hm)]
   exact hbase
 have hhand:∀ (k id:Nat) (B:Blk),hds[k]? = some id→r.gv[k]? = some B→h'' id=Yv (σ.h id) B:=by
  intro k id B hk hB
  have hm:id∈hds:=List.mem_of_getElem? hk
  have hbase:=(Qda σ.h hds r.gv (updL (updL σ.h (ZK b (r.hb.map (Blk.sh b)))) (ZR lents r.bx)) id hgnd hgvl).2 k B hk hB
  rw [hh'',Yj,Yj,Yj]
  cases ha:r.al
  ·simpa [updL] using hbase
  ·simp only [if_true]
   rw [Zz,if_neg (hdr id hm)]
   exact hbase
 have hold:∀ i,¬ (b≤i∧i<b+n)→i∉lents→i∉hds→h'' i=if r.al=true∧i∈refs then fzB (σ.h i) else σ.h i:=by
  intro i h1 h2 h0
  have hbase:updL (updL (updL σ.h (ZK b (r.hb.map (Blk.sh b)))) (ZR lents r.bx)) (Zw σ.h hds r.gv) i=σ.h i:=by
   rw [(Qda σ.h hds r.gv _ i hgnd hgvl).1 h0,(Qfc lents r.bx _ i hnd hbxl).1 h2,Qpi,if_neg (by simpa [← hn] using h1)]
  rw [hh'',Yj,Yj,Yj]
  cases ha:r.al
  ·simpa [updL] using hbase
  ·simp only [if_true,true_and]
   rw [Zz]
   split
   ·rfl
   ·exact hbase
 obtain ⟨K'',hK''⟩:∃ K'':Nat→Option (Nat × Pth),K''=fun k=>match ι'.k k with
   | some (i,p)=>if i<n then some (i+b,p) else (match hds[i-n]? with | some x=>if (h'' x).alive=true then some (x,p) else none | none=>none)
   | none=>match ι.k k with
    | some (y,p)=>if y∈hds∨(r.al=true∧y∈refs) then none else some (y,p)
    | none=>none:=⟨_,rfl⟩
 obtain ⟨ι'',hι''⟩:∃ ι'':Io,ι''=⟨fun i=>if b≤i∧i<b+n then ι' (i-b) else if i∈hds∧(h'' i).alive=false then Option.none else ι i,K'',fun i=>if b≤i∧i<b+n then ι'.o (i-b) else ι.o i⟩:=⟨_,rfl⟩
 have hkk:ι''.k=K'':=by rw [hι'']
 have hιn:∀ i,i<n→ι'' (i+b)=ι' i:=fun i hi=>by rw [hι''];simp only;rw [if_pos (by omega)];congr 1;omega
 have hιno:∀ i,i<n→ι''.o (i+b)=ι'.o i:=fun i hi=>by rw [hι''];simp only;rw [if_pos (by omega)];congr 1;omega
 have hιoo:∀ i,¬ (b≤i∧i<b+n)→ι''.o i=ι.o i:=fun i hi=>by rw [hι''];simp only;rw [if_neg hi]
 have hιq:∀ i,¬ (b≤i∧i<b+n)→ι'' i=if i∈hds∧(h'' i).alive=false then Option.none else ι i:=fun i hi=>by rw [hι''];simp only;rw [if_neg hi]
 have hιo:∀ i,¬ (b≤i∧i<b+n)→i∉hds→ι'' i=ι i:=fun i hi h0=>by rw [hιq i hi,if_neg (fun h=>h0 h.1)]
 have hιa:∀ i,¬ (b≤i∧i<b+n)→(h'' i).alive=true→ι'' i=ι i:=fun i hi h0=>by rw [hιq i hi,if_neg (fun h=>by rw [h0] at h;cases h.2)]
 have hιs:∀ i k,¬ (b≤i∧i<b+n)→ι'' i=some k→ι i=some k∧(i∈hds→(h'' i).alive=true):=fun i k hi hk=>by
  rw [hιq i hi] at hk
  split at hk
  ·cases hk
  ·rename_i h0
   refine ⟨hk,fun hm=>?_⟩
   cases hx:(h'' i).alive with
   | true=>rfl
   | false=>exact absurd ⟨hm,hx⟩ h0
 have hout:∀ i,n≤i→r.h i = .none:=fun i hi=>by simp [Res.h,List.getElem?_eq_none (show r.hb.length≤i by omega)]
 have hshift:∀ i,i<n→ι'' (i+b)=ι' i∧ι''.o (i+b)=ι'.o i∧h'' (i+b)=(r.h i).sh b:=fun i hi=>⟨hιn i hi,hιno i hi,hnew i hi⟩
 have newnone:∀ i,b≤i∧i<b+n→σ.h i = .none∧ι i=Option.none:=fun i hi=>S.fresh i (hb i hi.1 (by omega))
 have newcase:∀ i,b≤i∧i<b+n→∃ j,j<n∧i=j+b:=fun i hi=>⟨i-b,by omega,by omega⟩
 have hbg:∀ j,j<n→((r.hb++r.gv)[j]?).getD .none=r.h j:=fun j hj=>by simp only [Res.h];rw [List.getElem?_append_left (by omega)]
 have hgg:∀ k,(r.hb++r.gv)[n+k]? = r.gv[k]?:=fun k=>by rw [List.getElem?_append_right (by omega)];congr 1;omega
 have handcase:∀ i,i∈hds→∃ (j:Nat) (B B1:Blk),hds[j]? = some i∧gb[j]? = some (hdOf ι i B1)∧HB (σ.h i) B1∧r.gv[j]? = some B∧h'' i=Yv (σ.h i) B∧(B = .dead∨Zv B1 B∧ι' (n+j)=ι i∧ι'.o (n+j)=ι.o i∧BR w' (FzC w w' F0 gb r ι') ι' r.h (n+j) B∧∀ k,ι i=some k→w'.shape? k=w.shape? k):=by
  intro i hm
  obtain ⟨j,hj⟩:=List.getElem?_of_mem hm
  obtain ⟨B1,h1,h2⟩:=G.get j _ hj
  have hjl:=(List.getElem?_eq_some_iff.1 hj).1
  have hB:r.gv[j]? = some (r.gv[j]'(by omega)):=List.getElem?_eq_getElem (by omega)
  have h4:=hhand j _ _ hj hB
  have h5:=P.gv j _ _ h1 hB
  rw [← hn] at h5
  exact ⟨j,_,B1,hj,h1,h2,hB,h4,h5⟩
 have handidx:∀ i j j',hds[j]? = some i→hds[j']? = some i→j=j':=fun i j j' h1 h2=>(List.getElem?_inj (List.getElem?_eq_some_iff.1 h1).1 hgnd).1 (h1.trans h2.symm)
 have alivecase:∀ i,i∈hds→(h'' i).alive=true→∃ (j:Nat) (B B1:Blk),hds[j]? = some i∧r.gv[j]? = some B∧h'' i=Yv (σ.h i) B∧HB (σ.h i) B1∧Zv B1 B∧ι' (n+j)=ι i∧ι'.o (n+j)=ι.o i∧BR w' (FzC w w' F0 gb r ι') ι' r.h (n+j) B∧∀ k,ι i=some k→w'.shape? k=w.shape? k:=by
  intro i hm hal
  obtain ⟨j,B,B1,h1,h2,h3,h4,h5,h6⟩:=handcase i hm
  rcases h6 with rfl | ⟨h6,h7,h8,h9,h10⟩
  ·rcases h3 with ⟨e,sz,es,q1,_⟩ | ⟨e,sz,g,t,es,q1,_⟩
   ·rw [h5,q1] at hal;cases hal
   ·rw [h5,q1] at hal;cases hal
  ·exact ⟨j,B,B1,h1,h4,h5,h3,h6,h7,h8,h9,h10⟩
 have lentown:∀ id k,id∈lents→ι id=some k→k∈lb∧(σ.h id).own=true:=by
  intro id k hm hk
  obtain ⟨bk,cs,h1,h2,h3⟩:=lbox id hm
  rw [hk] at h2
  cases h2
  exact ⟨h1,by rw [h3];rfl⟩
 have lblent:∀ k,k∈lb→∃ id,id∈lents∧ι id=some k:=by
  intro k hm
  obtain ⟨j,hj,hje⟩:=List.getElem_of_mem hm
  have hj2:j<lents.length:=by omega
  obtain ⟨b',cs,h1,h2,h3⟩:=hlents j _ (List.getElem?_eq_getElem hj2)
  rw [List.getElem?_eq_getElem hj,hje] at h1
  cases h1
  exact ⟨_,List.getElem_mem hj2,h2⟩
 have hheap:∀ k,k<w.heap.size→k∉lb→¬ Q8 gb k→w'.heap[k]? = w.heap[k]?:=P.block
 have notgiv:∀ k,Fz C w ι σ.h k→¬ Q8 gb k:=by
  intro k hk hg
  obtain ⟨id,h1,h2⟩:=G.giv.1 hg
  rcases h2 with h2 | ⟨p,h2⟩
  ·have:=hk.2.2.1 id h2
   rw [hdown id h1] at this
   cases this
  ·rw [hk.2.2.2] at h2;cases h2
 have givlt:∀ k,Q8 gb k→C.fr k∧k<w.heap.size:=by
  intro k hg
  obtain ⟨id,h1,h2⟩:=G.giv.1 hg
  rcases h2 with h2 | ⟨p,h2⟩
  ·obtain ⟨e,sz,m,es,h3⟩:=hdsl id h1
   obtain ⟨h4,h5⟩:=S.rng id k h2
   exact ⟨h4.elim (fun h=>h) fun ⟨_,cs,h4⟩=>(by rw [h3] at h4;cases h4),h5⟩
  ·have L:=S.lab k id p h2
   exact ⟨L.fr,L.lt⟩
 have givroot:∀ k i,Q8 gb k→ι i=some k→i∈hds:=by
  intro k i hg hi
  obtain ⟨id,h1,h2⟩:=G.giv.1 hg
  rw [YX S (.inl hi) h2];exact h1
 have givlab:∀ k i p,Q8 gb k→ι.k k=some (i,p)→i∈hds:=by
  intro k i p hg hi
  obtain ⟨id,h1,h2⟩:=G.giv.1 hg
  rw [YX S (.inr ⟨p,hi⟩) h2];exact h1
 have notlb:∀ k,Fz C w ι σ.h k→k∉lb:=by
  intro k hk hm
  obtain ⟨id,h1,h2⟩:=lblent k hm
  have h3:=hk.2.2.1 id h2
  rw [(lentown id k h1 h2).2] at h3
  cases h3
 have hlabnew:∀ k i p,ι'.k k=some (i,p)→k<w.heap.size→Q8 gb k:=fun k i p hk hlt=>by
  obtain ⟨_,_,h1,_⟩:=P.lab k i p hk
  exact h1.elim (fun h=>by omega) (fun h=>h)
 have kold:∀ k i p,ι.k k=some (i,p)→i∉hds→(r.al=true→i∉refs)→ι''.k k=some (i,p):=by
  intro k i p hk h1 h2
  have L:=S.lab k i p hk
  have:ι'.k k=none:=by
   cases hx:ι'.k k with
   | none=>rfl
   | some z=>obtain ⟨z,q⟩:=z;exact absurd (givlab k i p (hlabnew k z q hx L.lt) hk) h1
  rw [hkk,hK'']
  simp only [this,hk]
  rw [if_neg (fun h=>h.elim h1 (fun h=>h2 h.1 h.2))]
 have kcases:∀ k i p,ι''.k k=some (i,p)→(∃ j,j<n∧i=j+b∧ι'.k k=some (j,p))∨(∃ j,hds[j]? = some i∧(h'' i).alive=true∧ι'.k k=some (n+j,p))∨(ι'.k k=none∧ι.k k=some (i,p)∧i∉hds∧(r.al=true→i∉refs)):=by
  intro k i p hk
  rw [hkk,hK''] at hk
  simp only at hk
  split at hk
  ·rename_i z q hz
   split at hk
   ·rename_i h1;cases hk;exact .inl ⟨z,h1,rfl,hz⟩
   ·rename_i h1
    split at hk
    rotate_left
    ·cases hk
    rename_i x hx
    split at hk
    rotate_left
    ·cases hk
    rename_i hal
    cases hk
    exact .inr (.inl ⟨z-n,hx,hal,by rw [hz];congr 2;omega⟩)
  ·rename_i hz
   split at hk
   rotate_left
   ·cases hk
   rename_i y q hy
   split at hk
   ·cases hk
   ·rename_i h1
    cases hk
    simp only [not_or,not_and] at h1
    exact .inr (.inr ⟨hz,hy,h1.1,h1.2⟩)
 have hheapl:∀ k i p,ι.k k=some (i,p)→i∉hds→w'.heap[k]? = w.heap[k]?:=fun k i p hk h1=>hheap k (S.lab k i p hk).lt (fun hm=>by
  obtain ⟨id,_,h2⟩:=lblent k hm
  exact (S.lab k i p hk).ne id h2) (fun hg=>h1 (givlab k i p hg hk))
 have hheapr:∀ k i,ι i=some k→i∉hds→i∉lents→w'.heap[k]? = w.heap[k]?:=fun k i hk h1 h2=>hheap k (S.rng i k hk).2 (fun hm=>by
  obtain ⟨id,h3,h4⟩:=lblent k hm
  exact h2 (by rw [S.inj i id k hk h4];exact h3)) (fun hg=>h1 (givroot k i hg hk))
 have hrest:∀ i,¬ (b≤i∧i<b+n)→i∉lents→i∉hds→(r.al=true→i∉refs)→Rest w w' ι ι'' i∧h'' i=σ.h i:=fun i h1 h2 h3 h4 =>
  ⟨⟨hιo i h1 h3,hιoo i h1,fun k hk=>hheapr k i hk h3 h2,fun k p hk=>⟨kold k i p hk h3 h4,hheapl k i p hk h3⟩⟩,by rw [hold i h1 h2 h3,if_neg (fun h=>h4 h.1 h.2)]⟩
 have hF:∀ k,Fz C w ι σ.h k→Fz C w' ι'' h'' k∧w'.heap[k]? = w.heap[k]?:=by
  intro k hk
  refine ⟨⟨by have:=hk.1;have:=P.size;omega,hk.2.1,fun i hi=>?_,?_⟩,hheap k hk.1 (notlb k hk) (notgiv k hk)⟩
  ·by_cases hc:b≤i∧i<b+n
   ·obtain ⟨j,hj,rfl⟩:=newcase i hc
    rw [hιn j hj] at hi
    rcases (P.rng j k hi).1 with h5 | h5
    ·have:=hk.1
     omega
    ·exact absurd h5 (notgiv k hk)
   ·have hi:=(hιs i k hc hi).1
    have hown:=hk.2.2.1 i hi
    have hnl:i∉lents:=fun hm=>by rw [(lentown i k hm hi).2] at hown;cases hown
    have hnh:i∉hds:=fun hm=>by rw [hdown i hm] at hown;cases hown
    rw [hold i hc hnl hnh]
    split
    ·cases hx:(fzB (σ.h i)).own with
     | false=>rfl
     | true=>rw [Qps _ hx] at hown;cases hown
    ·exact hown
  ·cases hx:ι''.k k with
   | none=>rfl
   | some z =>
    obtain ⟨z,q⟩:=z
    rcases kcases k z q hx with ⟨j,_,_,h1⟩ | ⟨j,_,_,h1⟩ | ⟨_,h1,_⟩
    ·exact absurd (hlabnew k _ _ h1 hk.1) (notgiv k hk)
    ·exact absurd (hlabnew k _ _ h1 hk.1) (notgiv k hk)
    ·rw [hk.2.2.2] at h1;cases h1
 have hg:∀ i,Goes w w' ι ι'' σ.h h'' i:=by
  intro i
  by_cases hc:b≤i∧i<b+n
  ·exact .inl (newnone i hc).1
  ·by_cases hl:i∈lents
   ·obtain ⟨j,hj,hje⟩:=List.getElem_of_mem hl
    obtain ⟨b',cs,h1,h2,h3⟩:=hlents j _ (List.getElem?_eq_getElem hj)
    have hj2:j<r.bx.length:=by omega
    have h4:=hlent j _ _ (List.getElem?_eq_getElem hj) (List.getElem?_eq_getElem hj2)
    obtain ⟨_,h6,e,vals,h7,h8⟩:=P.bx j b' _ h1 (List.getElem?_eq_getElem hj2)
    rw [hje] at h2 h3 h4
    unfold Goes
    right;right
    refine ⟨hιo i hc (hdbox i hl),hιoo i hc,?_,fun k hk=>?_,fun g h=>?_⟩
    ·rw [h3,h4]
     have hblk:=S.blk i
     rw [h3] at hblk
     cases hblk with
     | box bk et vs _ hi' _ hb' hl' _ _ =>
      rw [h2] at hi';cases hi'
      unfold World.shape? at h6
      rw [hb',h7] at h6
      simp only [Option.some.injEq,Prod.mk.injEq] at h6
      show (r.bx[j]).length=cs.length
      rw [← h8.size,h6.2,hl']
    ·rw [h2] at hk;cases hk;exact h6
    ·rw [h3] at h;cases h
   ·by_cases hh:i∈hds
    ·cases hal:(h'' i).alive with
     | false =>
      obtain ⟨j,B,B1,h1,h2,h3,h4,h5,h6⟩:=handcase i hh
      rcases QaN h3 (h6.imp (fun h=>h) (fun h=>h.1)) with q | ⟨e,sz,m,es,es',m',q1,q2,_⟩ | ⟨e,sz,es,es',m',q1,q2,q3,_⟩
      ·exact .inr (.inl (h5.trans q))
      ·rw [h5,q2] at hal;cases hal
      ·rw [h5,q3,q2] at hal;cases hal
     | true =>
      obtain ⟨j,B,B1,h1,h2,h3,h4,h5,h6,h7,h8,h9⟩:=alivecase i hh hal
      unfold Goes
      right;right
      refine ⟨hιa i hc hal,hιoo i hc,?_,h9,fun g k1 k2=>?_⟩
      ·rcases QaN h4 (.inr h5) with q | ⟨e,sz,m,es,es',m',q1,q2,q3,q4,_⟩ | ⟨e,sz,es,es',m',q1,q2,q3,q4,_,q5⟩
       ·rw [h3,q] at hal;cases hal
       ·rw [h3,q2,q1];exact ⟨rfl,rfl,q3,q4⟩
       ·rw [h3,q3,q2,q1];exact ⟨rfl,rfl,q4,q5⟩
      ·exfalso
       rcases QaN h4 (.inr h5) with q | ⟨e,sz,m,es,es',m',q1,q2,q3,q4,_,q6⟩ | ⟨e,sz,es,es',m',q1,q2,q3,q4,q5,_⟩
       ·rw [h3,q] at hal;cases hal
       ·rw [q1] at k1
        rw [h3,q2] at k2
        rcases q6 with ⟨_,rfl,_⟩ | ⟨g1,t1,g2,t2,rfl,rfl,_⟩
        ·cases k1
        ·simp only [Blk.gen,Mo.gen,Option.some.injEq] at k1 k2
         omega
       ·rw [q1] at k1;cases k1
    ·by_cases hr:r.al=true∧i∈refs
     ·unfold Goes
      rw [hold i hc hl hh,if_pos hr]
      have hsh:∀ k,ι i=some k→w'.shape? k=w.shape? k:=fun k hk=>by
       unfold World.shape?
       rw [hheapr k i hk hh hl]
      cases hx:σ.h i with
      | none=>exact .inl rfl
      | dead=>exact .inr (.inl rfl)
      | box cs=>exact .inr (.inr ⟨hιo i hc hh,hιoo i hc,rfl,hsh,fun g h=>by cases h⟩)
      | sl e sz m es=>exact .inr (.inr ⟨hιo i hc hh,hιoo i hc,⟨rfl,rfl,rfl,Mo.le_fz m⟩,hsh,fun g _ h=>by cases h⟩)
     ·obtain ⟨h1,h2⟩:=hrest i hc hl hh (fun ha hm=>hr ⟨ha,hm⟩)
      exact h1.goes h2
 have hFz:∀ k,FzC w w' F0 gb r ι' k→Fz C w' ι'' h'' k:=by
  intro k ⟨h1,h2,h3,h4⟩
  have holdown:∀ i,¬ (b≤i∧i<b+n)→ι'' i=some k→(h'' i).own=false:=by
   intro i hc hi''
   obtain ⟨hi,hal⟩:=hιs i k hc hi''
   by_cases hh:i∈hds
   ·obtain ⟨j,B,B1,g1,g2,g3,g4,g5,g6,_⟩:=alivecase i hh (hal hh)
    have:=h3 (n+j) (g6.trans hi)
    rw [hgg,g2] at this
    simp only [Option.getD_some] at this
    rcases QaN g4 (.inr g5) with q | ⟨e,sz,m,es,es',m',q1,q2,q3,q4,_,q6⟩ | ⟨e,sz,es,es',m',q1,q2,q3,q4,_⟩
    ·rw [g3,q];rfl
    ·rcases q6 with ⟨rfl,_,_⟩ | ⟨g,t,g1',t1,_,_,rfl⟩
     ·rw [g3,q2];exact this
     ·cases this
    ·rw [g3,q3];exact this
   rcases h2 with ⟨ha,h2⟩ | h2 | h2
   ·have hz:=(hF0 ha k h2).2.2.1 i hi
    rw [Zz] at hz
    have hnl:i∉lents:=fun hm=>by
     obtain ⟨_,cs,_,_,h6⟩:=lbox i hm
     rw [h6] at hz
     split at hz <;> cases hz
    rw [hold i hc hnl hh]
    split
    ·rename_i hcc;rw [if_pos hcc.2] at hz;exact hz
    ·rename_i hcc
     rw [if_neg (fun hm=>hcc ⟨ha,hm⟩)] at hz
     exact hz
   ·have:=(S.rng i k hi).2;omega
   ·exact absurd (givroot k i h2 hi) hh
  refine ⟨h1,?_,fun i hi=>?_,?_⟩
  ·rcases h2 with ⟨ha,h2⟩ | h2 | h2
   ·exact (hF0 ha k h2).2.1
   ·have:=S.fra.size;exact .inr (.inl (by omega))
   ·exact .inr (givlt k h2).1
  ·by_cases hc:b≤i∧i<b+n
   ·obtain ⟨j,hj,rfl⟩:=newcase i hc
    rw [hιn j hj] at hi
    rw [hnew j hj]
    have:=h3 j hi
    rw [hbg j hj] at this
    rw [QCJ];exact this
   ·exact holdown i hc hi
  ·cases hx:ι''.k k with
   | none=>rfl
   | some z =>
    obtain ⟨z,q⟩:=z
    rcases kcases k z q hx with ⟨j,_,_,g1⟩ | ⟨j,_,_,g1⟩ | ⟨_,g1,g2,g3⟩
    ·rw [h4] at g1;cases g1
    ·rw [h4] at g1;cases g1
    ·have L:=S.lab k z q g1
     rcases h2 with ⟨ha,h2⟩ | h2 | h2
     ·have:=(hF0 ha k h2).2.2.2
      have h5:=Io.loose_k.2 ⟨g1,g3 ha⟩
      rw [this] at h5
      cases h5
     ·have:=L.lt;omega
     ·exact absurd (givlab k z q h2 g1) g2
 have clash:∀ p j k,p<n→¬ (b≤j∧j<b+n)→ι' p=some k→ι'' j=some k→False:=by
  intro p j k hpn hc hp hj
  obtain ⟨h1,h2⟩:=hιs j k hc hj
  rcases (P.rng p k hp).1 with h3 | h3
  ·have:=(S.rng j k h1).2
   omega
  ·have h4:=givroot k j h3 h1
   obtain ⟨i,B,B1,_,_,_,_,_,g6,_⟩:=alivecase j h4 (h2 h4)
   have:=P.inj p (n+i) k hp (g6.trans h1)
   omega
 have rootlab:∀ k i p,ι'.k k=some (i,p)→∀ j,ι'' j≠some k:=by
  intro k i p hk j hj
  obtain ⟨_,_,h1,h2,h3⟩:=P.lab k i p hk
  by_cases hc:b≤j∧j<b+n
  ·obtain ⟨q,hq,rfl⟩:=newcase j hc
   rw [hιn q hq] at hj
   exact h3 q hj
  ·obtain ⟨h4,h5⟩:=hιs j k hc hj
   rcases h1 with h1 | h1
   ·have:=(S.rng j k h4).2;omega
   ·have h6:=givroot k j h1 h4
    obtain ⟨q,B,B1,_,_,_,_,_,g6,_⟩:=alivecase j h6 (h5 h6)
    exact h3 (n+q) (g6.trans h4)
 refine ⟨h'',ι'',hh''.symm,S.evolve ?_ hF hg (fun i cs hx=>?_) (fun i=>?_) (fun i j k hi hj=>?_) (fun i k hi=>?_) (fun i hi=>?_) (fun i k hi=>?_) (fun k i p hk=>?_),(P.val.shift hshift hout).up hFz,hF,hg,fun i h1 h2 h3 h4=>hrest i (fun h=>h1 ⟨h.1,by omega⟩) h2 h3 h4⟩
 ·refine ⟨P.os.trans S.fra.os,P.tape.trans S.fra.tape,P.output.trans S.fra.output,Nat.le_trans S.fra.size P.size,fun k hk hX=>?_⟩
  rw [hheap k (by have:=S.fra.size;omega) (fun hm=>?_) (fun hm=>?_)]
  ·exact S.fra.block k hk hX
  ·obtain ⟨id,h1,h2⟩:=lblent k hm
   rcases (S.rng id k h2).1 with h3 | ⟨h3,_⟩
   ·exact h3.fra.elim (fun h=>by omega) hX
   ·exact hX h3
  ·exact (givlt k hm).1.fra.elim (fun h=>by omega) hX
 ·by_cases hc:b≤i∧i<b+n
  ·rw [(S.fresh i (hb i hc.1 (by omega))).1] at hx;cases hx
  ·by_cases hl:i∈lents
   ·obtain ⟨j,hj,hje⟩:=List.getElem_of_mem hl
    have hj2:j<r.bx.length:=by omega
    have h4:=hlent j _ _ (List.getElem?_eq_getElem hj) (List.getElem?_eq_getElem hj2)
    rw [hje] at h4
    rw [h4];simp
   ·by_cases hh:i∈hds
    ·obtain ⟨e,sz,m,es,h3⟩:=hdsl i hh
     rw [hx] at h3
     cases h3
    rw [hold i hc hl hh,hx]
    split <;> simp [fzB]
 ·by_cases hc:b≤i∧i<b+n
  ·right
   obtain ⟨j,hj,rfl⟩:=newcase i hc
   rw [hnew j hj]
   refine (P.blk j (by omega)).shift hFz hshift hout hj (fun k p hk=>?_)
   rw [hkk,hK'']
   simp only [hk]
   rw [if_pos hj]
  ·by_cases hl:i∈lents
   ·right
    obtain ⟨j,hj,hje⟩:=List.getElem_of_mem hl
    obtain ⟨b',cs,h1,h2,h3⟩:=hlents j _ (List.getElem?_eq_getElem hj)
    have hj2:j<r.bx.length:=by omega
    have h4:=hlent j _ _ (List.getElem?_eq_getElem hj) (List.getElem?_eq_getElem hj2)
    obtain ⟨h5,_,e,vals,h7,h8⟩:=P.bx j b' _ h1 (List.getElem?_eq_getElem hj2)
    rw [hje] at h2 h3 h4
    have hbi:=S.blk i
    rw [h3] at hbi
    rw [h4]
    cases hbi with
    | box _ _ _ _ _ ho0 =>
    refine .box b' e vals _ ((hιo i hc (hdbox i hl)).trans h2) ((hιoo i hc).trans ho0) h7 h8.size h8.one (fun k v x hk hx=>?_)
    have hx5:=List.all_eq_true.1 h5 x (List.mem_of_getElem? hx)
    cases x with
    | c d=>exact (h8.vr k v _ hk hx).data hFz
    | _=>simp [isC] at hx5
   ·by_cases hh:i∈hds
    ·right
     cases hal:(h'' i).alive with
     | false =>
      obtain ⟨j,B,B1,h1,h2,h3,h4,h5,h6⟩:=handcase i hh
      rcases QaN h3 (h6.imp (fun h=>h) (fun h=>h.1)) with q | ⟨e,sz,m,es,es',m',q1,q2,_⟩ | ⟨e,sz,es,es',m',q1,q2,q3,_⟩
      ·rw [h5,q];exact .dead
      ·rw [h5,q2] at hal;cases hal
      ·rw [h5,q3,q2] at hal;cases hal
     | true =>
      obtain ⟨j,B,B1,h1,h2,h3,h4,h5,h6,h7,h8,h9⟩:=alivecase i hh hal
      have hιi:=hιa i hc hal
      have hjn:hds[n+j-n]? = some i:=by rw [show n+j-n=j by omega];exact h1
      have hkm:∀ k p,ι'.k k=some (n+j,p)→ι''.k k=some (i,p):=fun k p hk=>by
       rw [hkk,hK'']
       simp only [hk]
       rw [if_neg (by omega),hjn]
       simp only [hal,if_true]
      have fin:∀ (e0':TypeId) (e sz:Nat) (m m':Mo) (es':List (List D)),B = .sl e0' sz m es'→(m'.tip=true→m.tip=true∧e0'=e)→(∀ (k:Nat) p q v d,RM w' (FzC w w' F0 gb r ι') ι' (n+j) m p q v d→RM w' (Fz C w' ι'' h'') ι'' i m' p q v d) →
        BR w' (Fz C w' ι'' h'') ι'' h'' i (.sl e sz m' es'):=by
       intro e0' e sz m m' es' hBe ht hRM
       rw [hBe] at h8
       cases h8 with
       | slnil _ _ _ hz hi=>exact .slnil e sz m' hz (hιi.trans (h6.symm.trans hi))
       | sl bk _ e1 _ _ _ cur hz hi hb htc hle hml hsz hv =>
        refine .sl bk e e1 sz m' es' cur hz (hιi.trans (h6.symm.trans hi)) hb (fun h=>?_) (by rw [hιoo i hc,← h7];exact hle) hml hsz (fun p q x d hx hd=>?_)
        ·obtain ⟨k1,k2⟩:=ht h
         rw [← k2,hιoo i hc,← h7]
         exact htc k1
        ·obtain ⟨u,k1,k2⟩:=hv p q x d hx hd
         exact ⟨u,by rw [hιoo i hc,← h7];exact k1,hRM 0 p q u d k2⟩
      rcases QaN h4 (.inr h5) with q | ⟨e,sz,m,es,es',m',q1,q2,q3,q4,_,q6⟩ | ⟨e,sz,es,es',m',q1,q2,q3,q4,q5,_⟩
      ·rw [h3,q];exact .dead
      ·rw [h3,q2]
       rcases q6 with ⟨hBe,_,hgn⟩ | ⟨g,t,g1',t1,_,rfl,hBe⟩
       ·refine fin e e sz m' m' es' hBe (fun h=>⟨h,rfl⟩) (fun _ p q v d h=>?_)
        cases m' with
        | dp=>cases hgn
        | _=>exact Rd.mono (fun b hb=>⟨hFz b hb,rfl⟩) h
       ·exact fin 0 e sz (.dp g1' t1 []) (.dp (g+1) false []) es' hBe (fun h=>by cases h) (fun _ p q v d h=>⟨h.1,fun _=>RL.map (h.2 (by simp)) _ (fun (k:Nat) (r':Pth) hk=>⟨hkm k _ hk,rfl⟩)⟩)
      ·rw [h3,q3,q2]
       refine fin e e sz m' m' es' q2 (fun h=>⟨h,rfl⟩) (fun _ p q v d h=>?_)
       cases m' with
       | dp=>cases q5
       | _=>exact Rd.mono (fun b hb=>⟨hFz b hb,rfl⟩) h
    ·by_cases hr:r.al=true∧i∈refs
     ·right
      have ho:=hold i hc hl hh
      rw [if_pos hr] at ho
      rw [ho]
      obtain ⟨e,sz,m,es,hx⟩:=hrefs hr.1 i hr.2
      have hfl:=hfull hr.1 i hr.2 e sz m es hx
      have hbi:=S.blk i
      rw [hx] at hbi ⊢
      cases hbi with
      | slnil _ _ _ hz hi=>exact .slnil e sz .fz hz ((hιo i hc hh).trans hi)
      | sl bk _ e1 _ _ _ cur hz hi hb htc hle hml hsz hv =>
       refine .sl bk e e1 sz .fz es cur hz ((hιo i hc hh).trans hi) ((hheapr bk i hi hh hl).trans hb) (fun h=>by cases h) (by rw [hιoo i hc];exact hle) hml hsz (fun p q x d hx2 hd=>?_)
       obtain ⟨u,k1,k2⟩:=hv p q x d hx2 hd
       have k3:Rd w (fun k=>Fz C w ι σ.h k∨∃ p,ι.k k=some (i,p)) u d:=k2.rd hfl (fun b hb=>.inl hb) (fun b p hk=>.inr ⟨p,hk⟩)
       refine ⟨u,by rw [hιoo i hc];exact k1,Rd.mono (fun k hk=>?_) k3⟩
       rcases hk with hk | ⟨p',hk⟩
       ·exact hF k hk
       ·have L:=S.lab k i p' hk
        refine ⟨⟨by have:=L.lt;have:=P.size;omega,.inr L.fr,fun z hz=>?_,?_⟩,hheapl k i p' hk hh⟩
        ·exfalso
         by_cases hcz:b≤z∧z<b+n
         ·obtain ⟨q',hq',rfl⟩:=newcase z hcz
          rw [hιn q' hq'] at hz
          rcases (P.rng q' k hz).1 with h5 | h5
          ·have:=L.lt;omega
          ·exact hh (givlab k i p' h5 hk)
         ·exact L.ne z (hιs z k hcz hz).1
        ·cases hx3:ι''.k k with
         | none=>rfl
         | some zz =>
          obtain ⟨zz,qq⟩:=zz
          rcases kcases k zz qq hx3 with ⟨j,_,_,g1⟩ | ⟨j,_,_,g1⟩ | ⟨_,g1,_,g3⟩
          ·exact absurd (givlab k i p' (hlabnew k _ _ g1 L.lt) hk) hh
          ·exact absurd (givlab k i p' (hlabnew k _ _ g1 L.lt) hk) hh
          ·rw [hk] at g1;cases g1;exact absurd hr.2 (g3 hr.1)
     ·left
      obtain ⟨h1,h2⟩:=hrest i hc hl hh (fun ha hm=>hr ⟨ha,hm⟩)
      exact ⟨h2,h1⟩
 ·by_cases h1:b≤i∧i<b+n
  ·obtain ⟨p,hp,rfl⟩:=newcase i h1
   rw [hιn p hp] at hi
   by_cases h2:b≤j∧j<b+n
   ·obtain ⟨q,hq,rfl⟩:=newcase j h2
    rw [hιn q hq] at hj
    rw [P.inj p q k hi hj]
   ·exact (clash p j k hp h2 hi hj).elim
  ·by_cases h2:b≤j∧j<b+n
   ·obtain ⟨q,hq,rfl⟩:=newcase j h2
    rw [hιn q hq] at hj
    exact (clash q i k hq h1 hj hi).elim
   ·exact S.inj i j k (hιs i k h1 hi).1 (hιs j k h2 hj).1
 ·by_cases h1:b≤i∧i<b+n
  ·obtain ⟨p,hp,rfl⟩:=newcase i h1
   rw [hιn p hp] at hi
   have h2:=P.rng p k hi
   have:=S.fra.size
   rcases h2.1 with h5 | h5
   ·exact ⟨.inl (.inl (by omega)),h2.2.1⟩
   ·exact ⟨.inl (givlt k h5).1,h2.2.1⟩
  ·have hi:=(hιs i k h1 hi).1
   obtain ⟨h2,h3⟩:=S.rng i k hi
   refine ⟨h2.imp (fun h=>h) fun ⟨hX,cs,hcs⟩=>⟨hX,?_⟩,by have:=P.size;omega⟩
   by_cases hl:i∈lents
   ·obtain ⟨j,hj,hje⟩:=List.getElem_of_mem hl
    have hj2:j<r.bx.length:=by omega
    have h4:=hlent j _ _ (List.getElem?_eq_getElem hj) (List.getElem?_eq_getElem hj2)
    rw [hje] at h4
    exact ⟨_,h4⟩
   ·by_cases hh:i∈hds
    ·obtain ⟨e,sz,m,es,h5⟩:=hdsl i hh
     rw [hcs] at h5
     cases h5
    rw [hold i h1 hl hh,hcs]
    split <;> exact ⟨_,rfl⟩
 ·obtain ⟨h1,h2⟩:=hU' i hi
  have hc:¬ (b≤i∧i<b+n):=fun h=>h2 ⟨h.1,by omega⟩
  have hf:=S.fresh i h1
  have hh:i∉hds:=fun hm=>by
   obtain ⟨e,sz,m,es,h3⟩:=hdsl i hm
   rw [hf.1] at h3
   cases h3
  rw [hιo i hc hh]
  have hl:i∉lents:=fun hm=>by
   obtain ⟨_,cs,_,_,h6⟩:=lbox i hm
   rw [hf.1] at h6
   cases h6
  rw [hold i hc hl hh,hf.1]
  refine ⟨?_,hf.2⟩
  split <;> rfl
 ·by_cases h1:b≤i∧i<b+n
  ·obtain ⟨p,hp,rfl⟩:=newcase i h1
   rw [hιn p hp] at hi
   rw [hnew p hp]
   have:=P.live p k hi
   rw [hbg p hp] at this
   exact QIJ this
  ·obtain ⟨hi,hi2⟩:=hιs i k h1 hi
   have:=S.live i k hi
   by_cases hl:i∈lents
   ·obtain ⟨j,hj,hje⟩:=List.getElem_of_mem hl
    have hj2:j<r.bx.length:=by omega
    have h4:=hlent j _ _ (List.getElem?_eq_getElem hj) (List.getElem?_eq_getElem hj2)
    rw [hje] at h4
    rw [h4];simp
   ·by_cases hh:i∈hds
    ·exact QAT (hi2 hh)
    rw [hold i h1 hl hh]
    split
    ·exact QIU this
    ·exact this
 ·rcases kcases k i p hk with ⟨j,hj,rfl,h1⟩ | ⟨j,hj,hal,h1⟩ | ⟨h0,h1,h2,h3⟩
  ·obtain ⟨g1,⟨e,sz,g,t,H,es,g2⟩,g3,g4,g5⟩:=P.lab k j p h1
   refine ⟨g1,?_,?_,g4,rootlab k j p h1⟩
   ·have:=hbg j hj
    rw [g2] at this
    rw [hnew j hj,← this]
    exact ⟨_,_,_,_,_,_,rfl⟩
   ·rcases g3 with g3 | g3
    ·have:=S.fra.size;exact .inl (by omega)
    ·exact (givlt k g3).1
  ·obtain ⟨g1,⟨e,sz,g,t,H,es,g2⟩,g3,g4,g5⟩:=P.lab k _ p h1
   refine ⟨g1,?_,?_,g4,rootlab k _ p h1⟩
   ·have hm:i∈hds:=List.mem_of_getElem? hj
    obtain ⟨j',B,B1,k1,k2,k3,k4,k5,_⟩:=alivecase i hm hal
    have:=handidx i j j' hj k1
    subst this
    rw [hgg,k2] at g2
    cases g2
    rcases QaN k4 (.inr k5) with q | ⟨e',sz',m,es1,es',m',q1,q2,q3,q4,_,q6⟩ | ⟨e',sz',es1,es',m',q1,q2,q3,q4,q5,_⟩
    ·rw [k3,q] at hal;cases hal
    ·rcases q6 with ⟨hBe,_,hgn⟩ | ⟨g',t',g1',t1,_,rfl,hBe⟩
     ·cases hBe;cases hgn
     ·rw [k3,q2];exact ⟨_,_,_,_,_,_,rfl⟩
    ·cases q2;cases q5
   ·rcases g3 with g3 | g3
    ·have:=S.fra.size;exact .inl (by omega)
    ·exact (givlt k g3).1
  ·have L:=S.lab k i p h1
   obtain ⟨e,sz,g,t,H,es,hdp⟩:=L.dp
   have hc:¬ (b≤i∧i<b+n):=fun hc=>by rw [(newnone i hc).1] at hdp;cases hdp
   have hl:i∉lents:=fun hm=>by
    obtain ⟨_,cs,_,_,h6⟩:=lbox i hm
    rw [hdp] at h6
    cases h6
   refine ⟨L.pn,by rw [(hrest i hc hl h2 h3).2];exact L.dp,L.fr,by have:=L.lt;have:=P.size;omega,fun j hj=>?_⟩
   by_cases hcj:b≤j∧j<b+n
   ·obtain ⟨q,hq,rfl⟩:=newcase j hcj
    rw [hιn q hq] at hj
    rcases (P.rng q k hj).1 with h5 | h5
    ·have:=L.lt;omega
    ·exact h2 (givlab k i p h5 h1)
   ·exact L.ne j (hιs j k hcj hj).1
end
end Go.Proofs.YtdplaepmjogjjaaGreat.Am
namespace Go.Proofs.YtdplaepmjogjjaaGreat.Am
open Go Go.RowKit
section
variable {C:Ctx} {U U':Nat→Prop} {σ:St} {a:Act} {w:World} {ι:Io} {o:Oper} {Q:Exit→Act→World→Prop} {Γ:Tab} {b:Nat} {e:Eff}
theorem Qqn (hΓ:YC C.P Γ) (S:Sat C U σ a w ι) {N:Nat} (hb:∀ i,b≤i→i<b+N→U i) (hU':∀ i,U' i→U i∧¬ (b≤i∧i<b+N)) {f:FuncId} {as:Array Value} {xs vs:List AV} {r:Res}
  (hl:as.toList.length=xs.length) (hvals:∀ (k:Nat) (v:Value) (x:AV),as.toList[k]? = some v→xs[k]? = some x→VR w (Fz C w ι σ.h) ι σ.h v x) (hvs:AV.argM σ.h (Γ.md f) xs=some vs) (hr:Γ f vs=some r) (h16:r.hb.length≤N)
  (hnd:((dats (Γ.md f) xs).flatMap AV.lent).Nodup) (hgnd:((owns (Γ.md f) xs).flatMap AV.refs).Nodup) (hdr:∀ id,id∈(owns (Γ.md f) xs).flatMap AV.refs→id∉(dats (Γ.md f) xs).flatMap AV.refs) :
  Calls C.P f as w fun en w'=>∃ v,en = .returned v∧∃ h'' ι'',updL σ.h (ZK b (r.hb.map (Blk.sh b))++ZR ((dats (Γ.md f) xs).flatMap AV.lent) r.bx++Zw σ.h ((owns (Γ.md f) xs).flatMap AV.refs) r.gv ++
    (if r.al then frz σ.h ((dats (Γ.md f) xs).flatMap AV.refs) else []))=h''∧Sat C U' ⟨σ.t,h'',σ.nx⟩ a w' ι''∧VR w' (Fz C w' ι'' h'') ι'' h'' v (r.v.sh b)∧(∀ k,Fz C w ι σ.h k→Fz C w' ι'' h'' k∧w'.heap[k]? = w.heap[k]?)∧(∀ i,Goes w w' ι ι'' σ.h h'' i) ∧
    (∀ i,¬ (b≤i∧i<b+N)→i∉(dats (Γ.md f) xs).flatMap AV.lent→i∉(owns (Γ.md f) xs).flatMap AV.refs→(r.al=true→i∉(dats (Γ.md f) xs).flatMap AV.refs)→Rest w w' ι ι'' i∧h'' i=σ.h i):=by
 obtain ⟨DD,hDD⟩:∃ DD,DD=dats (Γ.md f) xs:=⟨_,rfl⟩
 obtain ⟨HH,hHH⟩:∃ HH,HH=(owns (Γ.md f) xs).flatMap AV.refs:=⟨_,rfl⟩
 rw [← hDD] at hnd hdr
 rw [← hHH] at hgnd hdr
 rw [← hDD,← hHH]
 obtain ⟨lb0,gb0,_,G0,_,_,_,hfull⟩:=Qd3 S (F0:=fun _=>True) (fun _ _=>trivial) (Γ.md f) as.toList xs vs hl hvals hvs (fun _ _ _ _ _=>trivial) (by rw [← hDD];exact hnd) (by rw [← hHH];exact hgnd)
 rw [← hHH] at G0
 rw [← hDD] at hfull
 have hHsl:∀ id,id∈HH→(∃ e sz m es,σ.h id = .sl e sz m es)∧(σ.h id).own=true:=fun id hm=>G0.sl hm
 have key:∃ F0:Nat→Prop,(∀ k,Fz C w ι σ.h k→F0 k)∧(∀ id k,id∈DD.flatMap AV.refs→(∃ e sz m es,σ.h id = .sl e sz m es)→Has ι id k→F0 k) ∧
   (∀ k,F0 k→k<w.heap.size∧(∀ id,ι id=some k→(∀ cs,σ.h id≠.box cs))∧∀ id,id∈HH→¬ Has ι id k)∧(r.al=true→∀ k,F0 k→Fz C w (ι.loose (DD.flatMap AV.refs)) (updL σ.h (frz σ.h (DD.flatMap AV.refs))) k):=by
  cases ha:r.al
  ·refine ⟨fun k=>k<w.heap.size∧(∀ id,ι id=some k→(∀ cs,σ.h id≠.box cs))∧∀ id,id∈HH→¬ Has ι id k,fun k hk=>⟨hk.1,fun id hi cs hh=>?_,fun id hm hhas=>?_⟩,fun id k hid ⟨e,sz,m,es,hh⟩ hi=>?_,fun k hk=>hk,fun h=>by cases h⟩
   ·have:=hk.2.2.1 id hi
    rw [hh] at this
    cases this
   ·rcases hhas with h1 | ⟨p,h1⟩
    ·have:=hk.2.2.1 id h1
     rw [(hHsl id hm).2] at this
     cases this
    ·rw [hk.2.2.2] at h1;cases h1
   ·have hlt:k<w.heap.size:=by
     rcases hi with hi | ⟨p,hi⟩
     ·exact (S.rng id k hi).2
     ·exact (S.lab k id p hi).lt
    refine ⟨hlt,fun id' hi' cs hh'=>?_,fun id' hm hhas=>?_⟩
    ·have:=YX S hi (.inl hi')
     subst this
     rw [hh] at hh';cases hh'
    ·have:=YX S hi hhas
     subst this
     exact hdr _ hm hid
  ·obtain ⟨_,hF⟩:=S.freeze (DD.flatMap AV.refs) hfull
   have hfr:∀ id k,id∈DD.flatMap AV.refs→(∃ e sz m es,σ.h id = .sl e sz m es)→Has ι id k→Fz C w (ι.loose (DD.flatMap AV.refs)) (updL σ.h (frz σ.h (DD.flatMap AV.refs))) k:=by
    intro id k hid hsl hi
    have hkn:(ι.loose (DD.flatMap AV.refs)).k k=none:=by
     cases hkk:(ι.loose (DD.flatMap AV.refs)).k k with
     | none=>rfl
     | some z =>
      obtain ⟨z,q⟩:=z
      obtain ⟨k1,k2⟩:=Io.loose_k.1 hkk
      have:=YX S hi (.inr ⟨q,k1⟩)
      subst this
      exact absurd hid k2
    rcases hi with hi | ⟨p,hi⟩
    ·obtain ⟨h1,h2⟩:=S.rng id k hi
     obtain ⟨e,sz,m,es,hh⟩:=hsl
     refine ⟨h2,.inr (h1.elim (fun h=>h) fun ⟨_,cs,h3⟩=>by rw [hh] at h3;cases h3),fun id' hi'=>?_,hkn⟩
     have:=S.inj id' id k hi' hi
     subst this
     rw [Zz,if_pos hid,hh]
     rfl
    ·have L:=S.lab k id p hi
     exact ⟨L.lt,.inr L.fr,fun i hi=>absurd hi (L.ne i),hkn⟩
   refine ⟨Fz C w (ι.loose (DD.flatMap AV.refs)) (updL σ.h (frz σ.h (DD.flatMap AV.refs))),hF,hfr,fun k hk=>⟨hk.1,fun id hi cs hh=>?_,fun id hm hhas=>?_⟩,fun _ k hk=>hk⟩
   ·have:=hk.2.2.1 id hi
    rw [Zz,hh] at this
    split at this <;> cases this
   ·rcases hhas with h1 | ⟨p,h1⟩
    ·have:=hk.2.2.1 id h1
     rw [Zz,if_neg (hdr id hm),(hHsl id hm).2] at this
     cases this
    ·have h2:=Io.loose_k.2 ⟨h1,hdr id hm⟩
     rw [hk.2.2.2] at h2
     cases h2
 obtain ⟨F0,k1,k2,k3,k4⟩:=key
 obtain ⟨lb,gb,a1,G,a2,a3,a4,a5⟩:=Qd3 S k1 (Γ.md f) as.toList xs vs hl hvals hvs (by rw [← hDD];exact k2) (by rw [← hDD];exact hnd) (by rw [← hHH];exact hgnd)
 rw [← hDD] at a2 a3 a4 a5
 rw [← hHH] at G
 have hF0:∀ k,F0 k→k<w.heap.size∧k∉lb∧¬ Q8 gb k:=by
  intro k hk
  obtain ⟨h1,h2,h3⟩:=k3 k hk
  refine ⟨h1,fun hm=>?_,fun hg=>?_⟩
  ·obtain ⟨j,hj,hje⟩:=List.getElem_of_mem hm
   have hj2:j<(DD.flatMap AV.lent).length:=by omega
   obtain ⟨b',cs,h3,h4,h5⟩:=a3 j _ (List.getElem?_eq_getElem hj2)
   rw [List.getElem?_eq_getElem hj,hje] at h3
   cases h3
   exact h2 _ h4 cs h5
  ·obtain ⟨id,h4,h5⟩:=G.giv.1 hg
   exact h3 id h4 h5
 have hcalls:=hΓ f vs r hr w F0 as lb gb a1 hF0
 refine hcalls.mono fun en w' ⟨v,ι',he,P⟩=>?_
 subst he
 exact ⟨v,rfl,S.called (refs:=DD.flatMap AV.refs) hb hU' h16 k4 (fun _=>a4) (fun _=>a5) hnd a2 a3 hgnd G hdr P⟩
theorem Qq3 {ms:List AM} {xs:List AV} {id g i j:Nat} {r:List AV} (h:Qax ms xs=some (id,g,i,j,r)):∃ ms' d,ms = .p::ms'∧xs = .b d id g [(i,j)]::r∧ms'.all (fun m=>!m.h)=true:=by
 unfold Qax at h
 split at h
 rotate_left
 ·cases h
 split at h
 ·cases h;exact ⟨_,_,rfl,rfl,by assumption⟩
 ·cases h
theorem QuQ {h:Nat→Blk}:∀ {ms:List AM} {xs:List AV},ms.all (fun m=>!m.h)=true→xs.all isPV=true→(AV.argM h ms xs=some xs∨ms.length<xs.length∧AV.argM h ms xs=some xs∨xs.length<ms.length∧AV.argM h ms xs=some xs)∧owns ms xs=[]∧dats ms xs=xs
 | [],xs,_,hx=>by
  refine ⟨.inl ?_,rfl,rfl⟩
  simp only [AV.argM]
  induction xs with
  | nil=>rfl
  | cons x xs ih =>
   simp only [List.all_cons,Bool.and_eq_true] at hx
   have:=ih hx.2
   cases x with
   | c d=>simp only [AV.argL,AV.arg,this]
   | _=>simp [isPV] at hx
 | m::ms,[],_,_=>⟨.inl rfl,rfl,rfl⟩
 | m::ms,x::xs,hm,hx=>by
  simp only [List.all_cons,Bool.and_eq_true,Bool.not_eq_true'] at hm hx
  obtain ⟨h1,h2,h3⟩:=QuQ (h:=h) hm.2 hx.2
  have h1:AV.argM h ms xs=some xs:=by rcases h1 with h | h | h <;> first | exact h | exact h.2
  cases m with
  | d =>
   refine ⟨.inl ?_,by simp [owns,AM.h,h2],by simp [dats,AM.h,h3]⟩
   cases x with
   | c d=>simp only [AV.argM,AV.argX,AV.arg,h1]
   | _=>simp [isPV] at hx
  | _=>simp [AM.h] at hm
theorem Qcz:∀ {xs:List AV},xs.all isPV=true→xs.flatMap AV.refs=[]∧xs.flatMap AV.lent=[]
 | [],_=>⟨rfl,rfl⟩
 | x::xs,h=>by
  simp only [List.all_cons,Bool.and_eq_true] at h
  obtain ⟨h1,h2⟩:=Qcz h.2
  cases x with
  | c d=>exact ⟨by simp [AV.refs,AV.ref1,h1],by simp [AV.lent,h2]⟩
  | _=>simp [isPV] at h
theorem QCL (hΓ:YC C.P Γ) (S:Sat C U σ a w ι) (hd:∀ d,o.dst=some d→d<C.N) (hb:∀ i,b≤i→i<b+16→U i) (hU':∀ i,U' i→U i∧¬ (b≤i∧i<b+16))
  {f : FuncId} {args : Array Operand} {ats : Array TypeId} {xs : List Opd} {fn : Func} (ho : o.op = .call { callee := .value (.func f), args, argTypes := ats }) (hf : C.P.funcs[f]? = some fn) (hbody : fn.body.isSome = true) (hname : (fn.name == "runtime.NumGoroutine") = false)
  {ts:List TypeId} (hx:cOs C.P ts args.toList=some xs) (he:Qh Γ (Opd.ev σ.t) σ.h b (.call f xs)=some e) :
  o.wp C.P a w (fun a' w'=>SatU C U' (σ.app o.dst e) a' w') Q:=by
 simp only [Qh] at he
 obtain ⟨hl,hvr⟩:=Qpc S hx
 have hvals:∀ (k:Nat) (v:Value) (x:AV),(args.map a.eval).toList[k]? = some v→(xs.map (Opd.ev σ.t))[k]? = some x→VR w (Fz C w ι σ.h) ι σ.h v x:=by
  intro k v x hk hk'
  simp only [Array.toList_map,List.getElem?_map,Option.map_eq_some_iff] at hk hk'
  obtain ⟨y,hy,rfl⟩:=hk
  obtain ⟨z,hz,rfl⟩:=hk'
  exact hvr k y z hy hz
 have hlen:(args.map a.eval).toList.length=(xs.map (Opd.ev σ.t)).length:=by simpa using hl
 have hrun:(execOp a.eval o).run C.P w = .ok (.enter f (args.map a.eval)) w:=by
  have:execOp a.eval o=callFunc f (#[]++args.map a.eval++#[]):=by
   unfold execOp
   rw [ho]
   rfl
  rw [this]
  have hbn:¬ fn.body=none:=by intro h;rw [h] at hbody;cases hbody
  have hname2 : ¬ fn.name = "runtime.NumGoroutine" := by simpa using hname
  simp [callFunc,hf,hname2,hbn]
 unfold Oper.wp
 rw [hrun]
 simp only [Oper.upon]
 generalize hX:xs.map (Opd.ev σ.t)=X at *
 split at he
 ·
  rename_i id g i j rest hnest
  obtain ⟨ms,d0,hms,rfl,hall⟩:=Qq3 hnest
  unfold Qc3 at he
  split at he
  rotate_left
  ·cases he
  rename_i e0 sz g0 t es hid
  split at he
  rotate_left
  ·cases he
  rename_i x hx0
  split at he
  rotate_left
  ·cases he
  rename_i sz' es' hxj
  split at he
  rotate_left
  ·cases he
  rename_i rv al e1 sz1 g1 t1 es1 hr
  split at he
  rotate_left
  ·cases he
  rename_i hc
  obtain ⟨rfl,hz',hpv⟩:=hc
  cases he
  have h0:∃ v0,(args.map a.eval).toList[0]? = some v0:=by
   have:0<(args.map a.eval).toList.length:=by rw [hlen];simp
   exact ⟨_,List.getElem?_eq_getElem this⟩
  obtain ⟨v0,hv0⟩:=h0
  have hb0:=hvals 0 v0 _ hv0 rfl
  obtain ⟨_,e2,sz2,m2,es2,hid2,hcell⟩:=hb0.bok (by rw [hid];rfl)
  rw [hid] at hid2
  cases hid2
  have hcell:=hcell i j rfl
  obtain ⟨ι1,S1,hv1,hι1,hιo1,hF1,hg1⟩:=S.carve (n:=b) (U':=fun i=>U i∧i≠b) hid hx0 hxj hz' (hb b (Nat.le_refl _) (by omega)) (fun i hi=>hi) hcell
  obtain ⟨hfb1,hfb2⟩:=S.fresh b (hb b (Nat.le_refl _) (by omega))
  have hidb:id≠b:=fun h=>by subst h;rw [hfb1] at hid;cases hid
  obtain ⟨σ1,hσ1⟩:∃ σ1:St,σ1=⟨σ.t,upd (upd σ.h b (.sl 0 sz' (.dp 0 false []) es')) id (.sl e0 sz (.dp (g0+1) t [(i,j)]) es),σ.nx⟩:=⟨_,rfl⟩
  have hσh:σ1.h=upd (upd σ.h b (.sl 0 sz' (.dp 0 false []) es')) id (.sl e0 sz (.dp (g0+1) t [(i,j)]) es):=by rw [hσ1]
  rw [← hσ1] at S1
  rw [← hσh] at hv1 hF1 hg1
  have hb1:σ1.h b = .sl 0 sz' (.dp 0 false []) es':=by rw [hσh,Qq _ _ _ _ (fun h=>hidb h.symm),Qu]
  have hid1:σ1.h id = .sl e0 sz (.dp (g0+1) t [(i,j)]) es:=by rw [hσh,Qu]
  obtain ⟨p1,p2,p3⟩:=QuQ (h:=σ1.h) hall hpv
  have p1:AV.argM σ1.h ms rest=some rest:=by rcases p1 with h | h | h <;> first | exact h | exact h.2
  have ho':owns (Γ.md f) (.r sz' b 0 es'.length::rest)=[.r sz' b 0 es'.length]:=by rw [hms];simp [owns,AM.h,p2]
  have hd':dats (Γ.md f) (.r sz' b 0 es'.length::rest)=rest:=by rw [hms];simp [dats,AM.h,p3]
  have hcg:=Qqn (Γ:=Γ) (b:=b) (N:=0) (U':=fun i=>U i∧i≠b) hΓ S1 (fun i h1 h2=>by omega) (fun i hi=>⟨hi,by omega⟩) (f:=f) (as:=args.map a.eval) (xs:=.r sz' b 0 es'.length::rest) (vs:=.ow 0 sz' (.dp 0 false []) es'::rest) (r:=⟨rv,[],[],al,[.sl e1 sz1 (.dp g1 t1 []) es1]⟩)
   (by rw [hlen];rfl) (fun k v x hk hk'=>by
    cases k with
    | zero=>rw [hv0] at hk;simp at hk hk';subst hk;subst hk';exact hv1
    | succ k=>exact (hvals (k+1) v x hk (by simpa using hk')).mono (fun b hb=>⟨hF1 b hb,rfl⟩) hg1)
   (by rw [hms];simp only [AV.argM,AV.argX,AV.argP,AV.argP1,hb1,true_and,if_true,p1]) hr (by simp) (by rw [hd',(Qcz hpv).2];exact List.nodup_nil) (by rw [ho'];simp [AV.refs,AV.ref1]) (by rw [hd',(Qcz hpv).1];intro _ _ h;cases h)
  rw [ho',hd',(Qcz hpv).1,(Qcz hpv).2] at hcg
  refine hcg.mono fun en w' ⟨v,he,h2,ι2,hh2,S2,hv2,hF2,hg2,hrest2⟩=>?_
  subst he
  have hh2':h2=upd σ1.h b (Yv (σ1.h b) (.sl e1 sz1 (.dp g1 t1 []) es1)):=by
   rw [← hh2]
   cases al <;> rfl
  rw [hb1] at hh2'
  have hh0:h2=upd σ1.h b (.sl 0 sz1 (.dp 1 false []) es1):=hh2'
  have hszz:sz1=sz':=by
   rcases hg2 b with g | g | ⟨_,_,g,_⟩
   ·rw [hb1] at g;cases g
   ·rw [hh0,Qu] at g;cases g
   ·rw [hb1,hh0,Qu] at g;exact g.2.1
  have hh2'':h2=upd σ1.h b (.sl 0 sz' (.dp 1 false []) es1):=by rw [hh0,hszz]
  have q1:h2 b = .sl 0 sz' (.dp 1 false []) es1:=by rw [hh2'',Qu]
  have q2:h2 id = .sl e0 sz (.dp (g0+1) t [(i,j)]) es:=by rw [hh2'',Qq _ _ _ _ hidb];exact hid1
  have hlen1:es1.length=es'.length:=by
   rcases hg2 b with g | g | ⟨_,_,g,_⟩
   ·rw [hb1] at g;cases g
   ·rw [q1] at g;cases g
   ·rw [hb1,q1] at g;exact g.2.2.1
  obtain ⟨hrid,_⟩:=hrest2 id (by omega) (by simp) (by simp [AV.refs,AV.ref1,hidb]) (fun _=>by simp)
  have hilt:i<es.length:=(List.getElem?_eq_some_iff.1 hx0).1
  have hjlt:j<x.length:=(List.getElem?_eq_some_iff.1 hxj).1
  have hsz2:∀ y,y∈es.set i (x.set j (.sl sz' es1))→y.length=sz:=by
   intro y hy
   have hbk:=S.blk id
   rw [hid] at hbk
   have hszs:∀ y,y∈es→y.length=sz:=by
    cases hbk with
    | slnil=>intro y hy;cases hy
    | sl _ _ _ _ _ _ _ _ _ _ _ _ _ hsz=>exact hsz
   rcases List.mem_or_eq_of_mem_set hy with hy | rfl
   ·exact hszs y hy
   ·rw [List.length_set];exact hszs x (List.mem_of_getElem? hx0)
  obtain ⟨S3,hF3,hg3⟩:=S2.reset (σ:=⟨σ1.t,h2,σ1.nx⟩) (es2:=es.set i (x.set j (.sl sz' es1))) q2 (by simp) hsz2 (fun p q y d hy hd hnot=>by
   have hpq:(p,q)≠(i,j):=by simpa using hnot
   by_cases hp:p=i
   ·subst hp
    rw [List.getElem?_set_self hilt] at hy
    cases hy
    have hq:q≠j:=fun h=>hpq (by rw [h])
    rw [List.getElem?_set_ne (fun h=>hq h.symm)] at hd
    exact ⟨x,hx0,hd⟩
   ·rw [List.getElem?_set_ne (fun h=>hp h.symm)] at hy
    exact ⟨y,hy,hd⟩)
  have hv0':=((hv1.mono hF2 hg2).mono (fun b hb=>⟨hF3 b hb,rfl⟩) hg3)
  have r1:(upd h2 id (.sl e0 sz (.dp (g0+1) t [(i,j)]) (es.set i (x.set j (.sl sz' es1))))) b = .sl 0 sz' (.dp 1 false []) es1:=by rw [Qq _ _ _ _ (fun h=>hidb h.symm)];exact q1
  obtain ⟨S4,hF4,hg4⟩:=S3.merge (i:=i) (j:=j) (H:=[]) (x:=x.set j (.sl sz' es1)) (v:=v0) (Qu _ _ _) r1 (fun h=>hidb h.symm) (by
    obtain ⟨bk,cur,ee,c1,c2,c3⟩:=hcell
    exact ⟨bk,cur,ee,hrid.b.trans (hι1.trans c1),(hrid.heap bk (hι1.trans c1)).trans c2,by rw [hrid.o,hιo1];exact c3⟩) hv0' (List.getElem?_set_self hilt) (by rw [List.getElem?_set_self hjlt,← hlen1];simp)
  have hfin:=((hv2.mono (fun b hb=>⟨hF3 b hb,rfl⟩) hg3).mono (fun b hb=>⟨hF4 b hb,rfl⟩) hg4)
  have hheap:(upd (upd (upd h2 id (.sl e0 sz (.dp (g0+1) t [(i,j)]) (es.set i (x.set j (.sl sz' es1))))) b .dead) id (.sl e0 sz (.dp (g0+1) t []) (es.set i (x.set j (.sl sz' es1)))))=updL σ.h [(b,.dead),(id,.sl e0 sz (.dp (g0+1) t []) (es.set i (x.set j (.sl sz' es1))))]:=by
   funext y
   simp only [updL]
   by_cases h1:y=id
   ·subst h1;rw [Qu,Qu]
   ·rw [Qq _ _ _ _ h1,Qq _ _ _ _ h1]
    by_cases h2:y=b
    ·subst h2;rw [Qu,Qu]
    ·rw [Qq _ _ _ _ h2,Qq _ _ _ _ h2,Qq _ _ _ _ h1,hh2'',Qq _ _ _ _ h2,hσh,Qq _ _ _ _ h1,Qq _ _ _ _ h2]
  have hσt:σ1.t=σ.t:=by rw [hσ1]
  have hσn:σ1.nx=σ.nx:=by rw [hσ1]
  have S4:Sat C U' _ a w' _:={ S4 with fresh:=fun i hi=>S4.fresh i ⟨(hU' i hi).1,fun h=>(hU' i hi).2 ⟨by omega,by omega⟩⟩ }
  simp only [hσt,hσn] at S4
  refine ⟨ι2.merge id b i j 0 es'.length,?_⟩
  show Sat C U' ⟨putO σ.t o.dst (rv.sh b),updL σ.h _,σ.nx⟩ _ _ _
  rw [← hheap]
  cases hod:o.dst with
  | none=>simpa [putO,Act.put] using S4
  | some d=>simpa [putO] using S4.put d (hd d hod) v (rv.sh b) hfin
 ·unfold Qdd at he
  split at he
  rotate_left
  ·cases he
  rename_i vs hvs
  split at he
  rotate_left
  ·cases he
  rename_i r hr
  split at he
  rotate_left
  ·cases he
  rename_i hc
  obtain ⟨h16,hal,hnd,hgnd,hdr⟩:=hc
  cases he
  refine (Qqn hΓ S hb hU' hlen hvals hvs hr h16 hnd hgnd hdr).mono fun en w' ⟨v,he,h'',ι'',hh,SA,hv,_⟩=>?_
  subst he
  refine ⟨ι'',?_⟩
  show Sat C U' ⟨putO σ.t o.dst (r.v.sh b),updL σ.h _,σ.nx⟩ _ _ _
  rw [hh]
  cases hod:o.dst with
  | none=>simpa [putO,Act.put] using SA
  | some d=>simpa [putO] using SA.put d (hd d hod) v (r.v.sh b) hv
theorem Qnc (hΓ:YC C.P Γ) (S:Sat C U σ a w ι) (hd:∀ d,o.dst=some d→d<C.N) (hb:∀ i,b≤i→i<b+16→U i) (hU':∀ i,U' i→U i∧¬ (b≤i∧i<b+16)) {ao:AOp}
  (hc:cOp C.P o=some ao) (he:Qh Γ (Opd.ev σ.t) σ.h b ao=some e) :
  o.wp C.P a w (fun a' w'=>SatU C U' (σ.app o.dst e) a' w') Q:=by
 have hU1:∀ i,U' i→U i:=fun i hi=>(hU' i hi).1
 have hU2:∀ i,U' i→U i∧i≠b:=fun i hi=>⟨(hU' i hi).1,fun e=>(hU' i hi).2 ⟨by omega,by omega⟩⟩
 have hb0:U b:=hb b (Nat.le_refl _) (by omega)
 unfold cOp at hc
 split at hc
 ·rename_i x ho
  obtain ⟨y,hy,rfl⟩:=Option.map_eq_some_iff.1 hc
  exact Qqr S hd hU1 (.inl ho) hy he
 ·rename_i x ho
  obtain ⟨y,hy,rfl⟩:=Option.map_eq_some_iff.1 hc
  exact Qqr S hd hU1 (.inr ho) hy he
 ·rename_i c x y ho
  split at hc
  ·rename_i c' x' y' h1 h2 h3;cases hc;exact QCY S hd hU1 ho h1 h2 h3 he
  ·cases hc
 ·rename_i t ho
  obtain ⟨zs,hz,rfl⟩:=Option.map_eq_some_iff.1 hc
  exact QGg S hd hb0 hU2 ho hz he
 ·rename_i t x ho
  split at hc
  ·rename_i x' n h1 h2;cases hc;exact QvA S hd hb0 hU2 ho h1 he
  ·cases hc
 ·rename_i t ps ho
  split at hc
  ·rename_i fs h1
   split at hc
   ·rename_i zs ps' h2 h3
    split at hc
    ·rename_i h4;cases hc;exact QvS S hd hU1 ho h1 h2 h3 h4 he
    ·cases hc
   ·cases hc
  ·cases hc
 ·rename_i t n ps ho
  split at hc
  ·rename_i et h1
   split at hc
   ·rename_i sz xs h2 h3
    split at hc
    ·rename_i h4;obtain ⟨h4,h5,h6,h7⟩:=h4;cases hc;exact QyN S hd hb0 hU2 ho h1 h2 h3 h4 h5 h6 h7 he
    ·cases hc
   ·cases hc
  ·cases hc
 ·rename_i t x ho
  split at hc
  ·rename_i x' n agg h1 h2 h3
   cases hc
   exact QvP S hd hU1 ho h1 h3 (fun h=>by simp [h,h2]) (fun h=>by simp [h]) he
  ·cases hc
 ·rename_i t x v ho
  split at hc
  ·rename_i x' v' n h1 h2 h3;cases hc;exact Qym S hd hU1 ho h1 h2 h3 he
  ·cases hc
 ·rename_i s x i ho
  split at hc
  ·rename_i fs h1
   split at hc
   ·rename_i f h2
    split at hc
    ·rename_i n x' h3 h4
     split at hc
     ·rename_i h5;cases hc;exact QFF S hd hU1 ho h1 h2 h3 h5 h4 he
     ·cases hc
    ·cases hc
   ·cases hc
  ·cases hc
 ·rename_i s x i ho
  split at hc
  ·rename_i fs h1
   split at hc
   ·rename_i f h2
    split at hc
    ·rename_i n agg x' h3 h4 h5
     cases hc
     exact QFR S hd hU1 ho h1 h2 h4 (fun h=>by simp [h,h3]) (fun h=>by simp [h]) h5 he
    ·cases hc
   ·cases hc
  ·cases hc
 ·rename_i t x i ho
  split at hc
  ·rename_i et h1
   split at hc
   ·rename_i sz x' i' h2 h3 h4
    split at hc
    ·cases hc;exact QAt S hd hU1 ho h1 h2 h3 h4 he
    ·cases hc
   ·cases hc
  ·cases hc
 ·rename_i t l c ho
  split at hc
  ·rename_i h0
   subst h0
   split at hc
   ·rename_i et h1
    split at hc
    ·rename_i sz zs i h2 h3 h4
     split at hc
     ·rename_i h5;cases hc;exact s_mk S hd hb0 hU2 ho h1 h2 h3 h4 h5.1 h5.2 he
     ·cases hc
    ·cases hc
   ·cases hc
  ·cases hc
 ·rename_i t x lo hi ho
  split at hc
  ·rename_i et h1
   split at hc
   ·rename_i sz x' lo' hi' h2 h3 h4 h5
    split at hc
    ·rename_i h6;cases hc;exact QI2 S hd hU1 ho h1 h2 h6 h3 h4 h5 he
    ·cases hc
   ·cases hc
  ·cases hc
 ·rename_i op t x y ty ho
  split at hc
  ·rename_i x' y' h1 h2
   split at hc
   ·rename_i n h3
    split at hc
    ·cases hc;exact Qsn S hd hU1 (neg:=false) ho h3 h1 h2 he
    ·cases hc;exact Qsn S hd hU1 (neg:=true) ho h3 h1 h2 he
    ·cases hc
   ·split at hc
    ·cases hc;exact QpT S hd hU1 ho h1 h2 he
    ·rename_i h4
     split at hc
     ·cases hc;exact Que S hd hU1 (neg:=false) ho h4 h1 h2 he
     ·cases hc;exact Que S hd hU1 (neg:=true) ho h4 h1 h2 he
     ·cases hc
    ·cases hc;exact QpT S hd hU1 ho h1 h2 he
    ·cases hc
  ·cases hc
 ·rename_i t x ho
  obtain ⟨y,hy,rfl⟩:=Option.map_eq_some_iff.1 hc
  exact QyM S hd hU1 ho hy he
 ·rename_i t x ho
  obtain ⟨y,hy,rfl⟩:=Option.map_eq_some_iff.1 hc
  exact QBw S hd hU1 ho hy he
 ·rename_i s d x ho
  split at hc
  ·rename_i k0 k x' h1 h2 h3;cases hc;exact QGy S hd hU1 ho h1 h2 h3 he
  ·cases hc
 ·rename_i x i ho
  obtain ⟨y,hy,rfl⟩:=Option.map_eq_some_iff.1 hc
  exact QCH S hd hU1 ho hy he
 ·rename_i x ho
  obtain ⟨y,hy,rfl⟩:=Option.map_eq_some_iff.1 hc
  exact QFD S hd hU1 ho hy he
 ·rename_i c ho
  obtain ⟨callee,args,ats⟩:=c
  simp only at hc
  split at hc
  ·rename_i f
   split at hc
   ·rename_i fn xs h1 h2
    split at hc
    ·rename_i h3;cases hc;exact QCL hΓ S hd hb hU' ho h1 h3.1 h3.2 h2 he
    ·cases hc
   ·cases hc
  ·rename_i bi
   unfold cBi at hc
   split at hc
   ·rename_i x t ha ht
    have ha':args = #[x]:=by cases args;simp at ha;rw [ha]
    have ht':ats = #[t]:=by cases ats;simp at ht;rw [ht]
    subst ha';subst ht'
    split at hc
    ·rename_i et x' h1 h2;cases hc;exact QEo S hd hU1 ho h1 h2 he
    ·cases hc
   ·rename_i s x t t' ha ht
    have ha':args = #[s,x]:=by cases args;simp at ha;rw [ha]
    have ht':ats = #[t,t']:=by cases ats;simp at ht;rw [ht]
    subst ha';subst ht'
    split at hc
    ·rename_i h0
     subst h0
     split at hc
     ·rename_i et h1
      split at hc
      ·rename_i sz s' x' i h2 h3 h4 h5
       split at hc
       ·rename_i h6;cases hc;exact QAi S hd hb0 hU2 ho h1 h2 h5 h6.1 h6.2.1 h6.2.2 h3 h4 he
       ·cases hc
      ·cases hc
     ·cases hc
    ·cases hc
   ·rename_i x y t t' ha ht
    have ha':args = #[x,y]:=by cases args;simp at ha;rw [ha]
    have ht':ats = #[t,t']:=by cases ats;simp at ht;rw [ht]
    subst ha';subst ht'
    split at hc
    ·rename_i x' y' h1 h2;cases hc;exact s_mm S hd hU1 (mx:=false) ho h1 h2 he
    ·cases hc
   ·rename_i x y t t' ha ht
    have ha':args = #[x,y]:=by cases args;simp at ha;rw [ha]
    have ht':ats = #[t,t']:=by cases ats;simp at ht;rw [ht]
    subst ha';subst ht'
    split at hc
    ·rename_i x' y' h1 h2;cases hc;exact s_mm S hd hU1 (mx:=true) ho h1 h2 he
    ·cases hc
   ·cases hc
  ·cases hc
 ·cases hc
end
end Go.Proofs.YtdplaepmjogjjaaGreat.Am

