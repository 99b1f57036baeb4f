/- -/
import Derived.Test.YtdplaepmjogjjaaGreatVIM0
set_option linter.all false
namespace Go.Proofs.YtdplaepmjogjjaaGreat.Am
open Go Go.RowKit
theorem CR.mono{w w':World}{F F':Nat->Prop}{ι ι':Io}{h h':Nat->aQ}(hF:∀ b,F b->F' b/\w'.heap[b]? = w.heap[b]?)
  (hg:∀ id,cZ w w' ι ι' h h' id) {cur:Array Value} {cs:List AV} (hc:CR w F ι h cur cs):CR w' F' ι' h' cur cs :=
 ⟨hc.size,hc.one,λk v x hk hx=>(hc.vr k v x hk hx).mono hF hg⟩
section
variable {C:Ctx} {U U':Nat->Prop} {σ:St} {a:Act} {w:World} {ι:Io}
theorem vt(S:Sat C U σ a w ι)(b:Nat)(hb:U b)(bj:Array Value)(e:TypeId)(B:aQ) :
  (∀ k,Fz C w ι σ.h k->Fz C (w.alloc (.cells bj e)) (ι.up b (some w.heap.size) 0) (bI σ.h b B) k/\(w.alloc (.cells bj e)).heap[k]? = w.heap[k]?)/\
  (∀ id,cZ w (w.alloc (.cells bj e)) ι (ι.up b (some w.heap.size) 0) σ.h (bI σ.h b B) id)/\∀ id,id≠b->Rest w (w.alloc (.cells bj e)) ι (ι.up b (some w.heap.size) 0) id:=by
 have hold:∀ k,k<w.heap.size->(w.alloc (.cells bj e)).heap[k]? = w.heap[k]?:=λk hk=>Below.heap_alloc _ _ _ hk;have bU:∀ id,id≠b->Rest w (w.alloc (.cells bj e)) ι (ι.up b (some w.heap.size) 0) id:=λid h =>
  ⟨Io.fD _ _ _ _ _ h,Io.pT _ _ _ _ _ h,λk hk=>hold k (S.eh id k hk).2,λk p hk=>⟨hk,hold k (S.dg k id p hk).lt⟩⟩
 refine⟨λk hk=>⟨⟨by have:=hk.1;simp;omega,hk.2.1,λid a8=>?_,hk.2.2.2⟩,hold k hk.1⟩,λid=>?_,bU⟩
 ·by_cases h:id=b
  ·subst h;rw[Io.cy]at a8
   cases a8;exact absurd hk.1 (Nat.lt_irrefl _)
  ·rw[Io.fD _ _ _ _ _ h]at a8;rw[QI _ _ _ _ h];exact hk.2.2.1 id a8
 ·by_cases h:id=b
  ·subst h;exact .inl (S.fresh id hb).1
  ·exact(bU id h).gE (QI _ _ _ _ h)
theorem km.alloc{C:Ctx}{w:World}(h:km C w)(o:Obj):km C (w.alloc o) :=
 ⟨h.os,h.tape,h.output,by have:=h.size;simp;omega,λk hk hx=>by rw[Below.heap_alloc _ _ _ (by have:=h.size;omega)];exact h.block k hk hx⟩
theorem Sat.alloc(S:Sat C U σ a w ι)(b:Nat)(hb:U b)(bN:∀ i,U' i->U i/\i≠b)(bj:Array Value)(e:TypeId)(B:aQ)(hB:B≠.none/\B≠.dead)
  (qg:BR (w.alloc (.cells bj e)) (Fz C (w.alloc (.cells bj e)) (ι.up b (some w.heap.size) 0) (bI σ.h b B)) (ι.up b (some w.heap.size) 0) (bI σ.h b B) b B) :
  Sat C U' ⟨σ.t,bI σ.h b B,σ.nx⟩ a (w.alloc (.cells bj e)) (ι.up b (some w.heap.size) 0):=by
 obtain⟨hF,hg,bU⟩:=vt S b hb bj e B;refine S.ej (S.dE.alloc _) hF hg (λi cs hx=>by
  by_cases h:i=b
  ·subst h;rw[QN];exact hB.2
  ·rw[QI _ _ _ _ h,hx];simp) (λid=>?_) (λi j k hi hj=>?_) (λi k hi=>?_) (λi hi=>?_) (λi k hi=>?_) (λk id p hk=>?_)
 ·by_cases h:id=b
  ·subst h;right;rw[QN];exact qg
  ·left;exact⟨QI _ _ _ _ h,bU id h⟩
 ·by_cases h1:i=b
  ·by_cases h2:j=b
   ·rw[h1,h2]
   ·subst h1;rw[Io.cy]at hi;rw[Io.fD _ _ _ _ _ h2]at hj
    cases hi;exact absurd (S.eh j _ hj).2 (Nat.lt_irrefl _)
  ·rw[Io.fD _ _ _ _ _ h1]at hi;by_cases h2:j=b
   ·subst h2;rw[Io.cy]at hj
    cases hj;exact absurd (S.eh i _ hi).2 (Nat.lt_irrefl _)
   ·rw[Io.fD _ _ _ _ _ h2]at hj;exact S.inj i j k hi hj
 ·by_cases h1:i=b
  ·subst h1;rw[Io.cy]at hi
   cases hi;exact⟨.inl (.inl S.dE.size),by simp⟩
  ·rw[Io.fD _ _ _ _ _ h1]at hi;rw[QI _ _ _ _ h1];obtain⟨h2,h3⟩:=S.eh i k hi;exact⟨h2,by simp;omega⟩
 ·obtain⟨h1,h2⟩:=bN i hi;rw[Io.fD _ _ _ _ _ h2,QI _ _ _ _ h2];exact S.fresh i h1
 ·by_cases h1:i=b
  ·subst h1;rw[QN];exact hB
  ·rw[Io.fD _ _ _ _ _ h1]at hi;rw[QI _ _ _ _ h1];exact S.live i k hi
 ·have L:=S.dg k id p hk;refine⟨L.pn,?_,L.fr,by have:=L.lt;simp;omega,λi hi=>?_⟩
  ·have h8:id≠b:=λh=>by subst h;obtain⟨_,_,_,_,_,_,h9⟩:=L.dp;rw[(S.fresh id hb).1]at h9;cases h9
   rw[QI _ _ _ _ h8];exact L.dp
  ·by_cases h1:i=b
   ·subst h1;rw[Io.cy]at hi
    cases hi;exact absurd L.lt (Nat.lt_irrefl _)
   ·rw[Io.fD _ _ _ _ _ h1]at hi;exact L.ne i hi
theorem mY{o:Oper}{v:Value}{x:AV}{w':World}{ι':Io}{h':Nat->aQ}{Q:Exit->Act->World->Prop}
  (hd:∀ d,o.dst=some d->d<C.N) (cq:(execOp a.eval o).run C.P w = .ok (.value v) w') (S':Sat C U' ⟨σ.t,h',σ.nx⟩ a w' ι') (hv:VR w' (Fz C w' ι' h') ι' h' v x) {bl:List (Nat × aQ)} (gZ:bn σ.h bl=h') :
  o.wp C.P a w (λa' w'=>cA C U' (σ.app o.dst ⟨x,bl⟩) a' w') Q:=by
 unfold Oper.wp;rw[cq];simp only[Oper.upon];refine⟨ι',?_⟩
 cases ho:o.dst with
 | none=>simpa[St.app,cP,gZ,Act.put]using S'
 | some d=>simpa[St.app,cP,gZ]using S'.put d (hd d ho) v x hv
theorem D7{o:Oper}{w':World}{ι':Io}{h':Nat->aQ}{Q:Exit->Act->World->Prop}
  (hd:∀ d,o.dst=some d->d<C.N) (cq:(execOp a.eval o).run C.P w = .ok .skip w') (S':Sat C U' ⟨σ.t,h',σ.nx⟩ a w' ι') {bl:List (Nat × aQ)} (gZ:bn σ.h bl=h') :
  o.wp C.P a w (λa' w'=>cA C U' (σ.app o.dst ⟨.u,bl⟩) a' w') Q:=by
 unfold Oper.wp;rw[cq];simp only[Oper.upon];refine⟨ι',?_⟩
 cases ho:o.dst with
 | none=>simpa[St.app,cP,gZ,Act.put]using S'
 | some d=>simpa[St.app,cP,gZ]using S'.put d (hd d ho) undef .u (.u _)
end
theorem Rd.pl{w w':World}{F:Nat->Prop}{v:Value}{d:D}(h:Rd w F v d)(hd:d.pl=true)(K:Nat->Option (Nat × cE))(id:Nat)(p:cE):RL w' K id p v d:=by
 cases h with
 | v x h=>exact .v _ _ h
 | nil=>exact .nil _ _
 | emp=>exact .emp _ _ _ _
 | sl b o len cap sz es x hlen =>
  cases es with
  | nil=>simp at hlen;subst hlen;exact .emp _ _ _ _
  | cons=>simp[D.pl]at hd
theorem RM.pl{w:World}{F:Nat->Prop}{ι:Io}{id i j:Nat}{m:Mo}{v:Value}{d:D}(h:Rd w F v d)(hd:m.gen.isSome=true->d.pl=true):RM w F ι id m i j v d:=by
 cases m with
 | dp g t H=>exact⟨h.one,λ_=>h.pl (hd rfl) _ _ _⟩
 | _=>exact h
def gK(i:Nat):Nat->List AV->List (Nat × Nat × Nat)
 | _,[]=>[]
 | j,x::xs=>(match x with | .r _ n _ _=>[(i,j,n)] | _=>[])++gK i (j+1) xs
theorem D8{i:Nat}:∀ {xs:List AV} {j:Nat},(gK i j xs).map (λx=>x.2.2)=AV.cS xs
 | [],j=>rfl
 | x::xs,j=>by
  simp only[gK,List.map_append,AV.cS,D8 (xs:=xs)];congr 1
  cases x <;> rfl
theorem zk{i:Nat}:∀ {xs:List AV} {j i' j' n:Nat},(i',j',n)∈gK i j xs->i'=i/\∃ k sz off len,j'=j+k/\xs[k]? = some (.r sz n off len)
 | [],j,i',j',n,h=>by simp[gK]at h
 | x::xs,j,i',j',n,h=>by
  simp only[gK,List.mem_append]at h
  rcases h with h | h
  ·cases x with
   | r sz id off len=>simp at h;obtain⟨rfl,rfl,rfl⟩:=h;exact⟨rfl,0,sz,off,len,rfl,rfl⟩
   | _=>simp at h
  ·obtain⟨h1,k,sz,off,len,h2,h3⟩:=zk h;exact⟨h1,k+1,sz,off,len,by omega,by simpa using h3⟩
theorem D9{i:Nat}:∀ {xs:List AV} {j k sz n off len:Nat},xs[k]? = some (.r sz n off len)->(i,j+k,n)∈gK i j xs
 | [],j,k,sz,n,off,len,h=>by simp at h
 | x::xs,j,0,sz,n,off,len,h=>by simp at h;subst h;simp[gK]
 | x::xs,j,k+1,sz,n,off,len,h=>by
  simp only[gK,List.mem_append];right;have:=D9 (i:=i) (j:=j+1) (k:=k) (xs:=xs) (by simpa using h);rwa [show j+1+k=j+(k+1) by omega]at this
theorem qh{h:Nat->aQ}{id g i:Nat}:∀ {xs:List AV} {j k:Nat} {y:AV},AV.dz h id g i j xs=true->xs[k]? = some y->y.eH h id g i (j+k)=true
 | [],j,k,y,_,h=>by simp at h
 | x::xs,j,0,y,hm,h=>by simp only[AV.dz,Bool.and_eq_true]at hm;simp at h;subst h;exact hm.1
 | x::xs,j,k+1,y,hm,h=>by
  simp only[AV.dz,Bool.and_eq_true]at hm;have:=qh hm.2 (by simpa using h:xs[k]? = some y);rwa [show j+1+k=j+(k+1) by omega]at this
theorem Ea(g:Nat->aQ):∀(ids:List Nat)(i:Nat),bn g (iS ids) i=if i∈ids then .dead else g i
 | [],i=>by simp[iS,bn]
 | id::ids,i=>by
  simp only[iS,bn];rw[Ea (bI g id .dead) ids i];by_cases h1:i∈ids
  ·simp[h1]
  ·by_cases h2:i=id
   ·subst h2;simp[h1,bI]
   ·simp[h1,h2,bI]
theorem Sat.jC{C:Ctx}{U:Nat->Prop}{a:Act}{w:World}{id sz g:Nat}{t:Bool}{H:cE}{e:TypeId}{es:List (List D)}{tt:Nat->AV}{nx:Nat}:∀(L:List (Nat × Nat × Nat)){h:Nat->aQ}{ι:Io},Sat C U ⟨tt,h,nx⟩ a w ι->
  h id = .sl e sz (.dp g t (L.map (λx=>(x.1,x.2.1))++H)) es->(L.map λx=>x.2.2).Nodup->
  (∀ i j n,(i,j,n)∈L->n≠id/\∃ v ba off len e' g' t' bP x,h n = .sl e' ba (.dp g' t' []) bP/\(∃ bk cur e0,ι id=some bk/\w.heap[bk]? = some (.cells cur e0 (0,0))/\cur[ι.o id+i*sz+j]? = some v)/\
   VR w (Fz C w ι h) ι h v (.r ba n off len)/\es[i]? = some x/\x[j]? = some (.sl ba ((bP.drop off).take len)))->
  ∃ ι' h',Sat C U ⟨tt,h',nx⟩ a w ι'/\h'=(λy=>if y=id then .sl e sz (.dp g t H) es else if y∈L.map (λx=>x.2.2) then .dead else h y)/\(∀ b,Fz C w ι h b->Fz C w ι' h' b)/\
   (∀ v x,VR w (Fz C w ι h) ι h v x->VR w (Fz C w ι' h') ι' h' v x)/\ι' id=ι id/\ι'.o id=ι.o id
 | [],h,ι,S,a8,_,_=>by
  refine⟨ι,h,S,?_,λb hb=>hb,λv x hv=>hv,rfl,rfl⟩;funext y
  by_cases hy:y=id
  ·subst hy;simpa using a8
  ·simp[hy]
 | (i,j,n)::L,h,ι,S,a8,dV,ew=>by
  obtain⟨dN,v,ba,off,len,e',g',t',bP,x,h1,h2,h3,h4,h5⟩:=ew i j n (by simp);simp only[List.map_cons,List.nodup_cons]at dV;obtain⟨S',hF,hg⟩:=S.merge (t:=t) a8 h1 dN h2 h3 h4 h5;have fy:(ι.merge id n i j off len) id=ι id:=QI _ _ _ _ dN.symm;obtain⟨ι',h',q1,q2,q3,q4,q5,q6⟩:=Sat.jC L S' (QN _ _ _) dV.2 (λi' j' n' hm=>by
   obtain⟨k1,v',O0,Eb,Ec,e2,g2,t2,f6,x2,k2,k3,k4,k5,k6⟩:=ew i' j' n' (List.mem_cons_of_mem _ hm);have hnn:n'≠n:=λh=>by subst h;exact dV.1 (List.mem_map.2 ⟨_,hm,rfl⟩)
   refine⟨k1,v',O0,Eb,Ec,e2,g2,t2,f6,x2,?_,?_,k4.mono (λb hb=>⟨hF b hb,rfl⟩) hg,k5,k6⟩
   ·show bI (bI h n .dead) id _ n'=_;rw[QI _ _ _ _ k1,QI _ _ _ _ hnn];exact k2
   ·obtain⟨bk,cur,e0,m1,m2,m3⟩:=k3;exact⟨bk,cur,e0,fy.trans m1,m2,m3⟩)
  refine⟨ι',h',q1,?_,λb hb=>q3 b (hF b hb),λu y hu=>q4 u y (hu.mono (λb hb=>⟨hF b hb,rfl⟩) hg),q5.trans fy,q6⟩;rw[q2];funext y
  by_cases hy:y=id
  ·simp[hy]
  ·simp only[hy,if_false,List.map_cons,List.mem_cons];by_cases lu:y∈L.map (λx=>x.2.2)
   ·simp[lu]
   ·by_cases O1:y=n
    ·simp[lu,O1,bI,dN]
    ·simp[lu,O1,bI,hy]
section
variable {C:Ctx} {U U':Nat->Prop} {σ:St} {a:Act} {w:World} {ι:Io} {o:Oper} {Q:Exit->Act->World->Prop} {Γ:eA} {b:Nat} {e:fj}
variable (S:Sat C U σ a w ι) (hd:∀ d,o.dst=some d->d<C.N) (hb:U b) (bN:∀ i,U' i->U i/\i≠b)
include S hd hb bN
theorem QXp{t:TypeId}{zs:List AV}(ho:o.op = .alloc t)(hz:YW C.P t=some zs)(he:Qv Γ (aW.ev σ.t) σ.h b (.new t zs)=some e) :
  o.wp C.P a w (λa' w'=>cA C U' (σ.app o.dst e) a' w') Q:=by
 simp only[Qv,Option.some.injEq]at he;subst he;obtain⟨i,z,hi,jZ,gB⟩:=vk hz;refine mY hd (v:=.pointer (some ⟨w.heap.size,0,none⟩)) (w':=w.alloc (.cells z.cells t)) (ι':=ι.up b (some w.heap.size) 0) (h':=bI σ.h b (.box zs)) ?_ (S.alloc b hb bN z.cells t (.box zs) ⟨by simp,by simp⟩ ?_) ?_ rfl
 ·simp[execOp,ho,Instr.alloc,zeroValue,typeInfo,hi,jZ,newVar,newRow]
 ·exact .box w.heap.size t z.cells zs (Io.cy _ _ _ _) (Io.bZ _ _ _ _) (heap_alloc_new _ _) (gB w (λ_=>True) ι σ.h).size (gB w (λ_=>True) ι σ.h).one (gB _ _ _ _).vr
 ·have:=VR.p (w:=w.alloc (.cells z.cells t)) (F:=Fz C (w.alloc (.cells z.cells t)) (ι.up b (some w.heap.size) 0) (bI σ.h b (.box zs))) (ι:=ι.up b (some w.heap.size) 0) (h:=bI σ.h b (.box zs)) b 0 0 w.heap.size (Io.cy _ _ _ _) (by rw[QN];simp) (by rw[QN];simp);simpa[Io.bZ]using this
theorem QU8{x:Operand}{x':aW}{t n:Nat}(ho:o.op = .box t x)(hx:cO C.P t x=some x')(he:Qv Γ (aW.ev σ.t) σ.h b (.box t x' n)=some e) :
  o.wp C.P a w (λa' w'=>cA C U' (σ.app o.dst e) a' w') Q:=by
 simp only[Qv]at he
 split at he
 rotate_left
 ·cases he
 rename_i hc
 cases he;have gB:=(Zs S hx).cells hc.2;obtain⟨hF,hg,_⟩:=vt S b hb (a.eval x).cells t (.box ((aW.ev σ.t x').cells));have qi:=CR.mono hF hg gB;refine mY hd (v:=.pointer (some ⟨w.heap.size,0,none⟩)) (w':=w.alloc (.cells (a.eval x).cells t)) (ι':=ι.up b (some w.heap.size) 0) (h':=bI σ.h b (.box ((aW.ev σ.t x').cells))) ?_ (S.alloc b hb bN _ t _ ⟨by simp,by simp⟩ ?_) ?_ rfl
 ·simp[execOp,ho,Instr.box,newVar,newRow]
 ·exact .box w.heap.size t _ _ (Io.cy _ _ _ _) (Io.bZ _ _ _ _) (heap_alloc_new _ _) qi.size qi.one qi.vr
 ·have:=VR.p (w:=w.alloc (.cells (a.eval x).cells t)) (F:=Fz C (w.alloc (.cells (a.eval x).cells t)) (ι.up b (some w.heap.size) 0) (bI σ.h b (.box ((aW.ev σ.t x').cells)))) (ι:=ι.up b (some w.heap.size) 0) (h:=bI σ.h b (.box ((aW.ev σ.t x').cells))) b 0 0 w.heap.size (Io.cy _ _ _ _) (by rw[QN];simp) (by rw[QN];simp);simpa[Io.bZ]using this
omit S hd hb bN in
theorem O2{P:Program}{t:TypeId}{v:Value}:(lh P t v).bR=[]:=by
 unfold lh
 split <;> rfl
omit S hd hb bN in
theorem O3{P:Program}{t:TypeId}{zs:List AV}(h:YW P t=some zs):∀(k:Nat)(x:AV),zs[k]? = some x->x.bR=[]:=by
 unfold YW at h
 split at h
 rotate_left
 ·cases h
 rename_i i hi
 split at h
 rotate_left
 ·cases h
 rename_i z hz
 split at h
 rotate_left
 ·cases h
 rename_i x hx
 cases h;intro k y hk;unfold kr at hx
 split at hx
 ·split at hx
  ·rename_i cs _
   cases hx;have aU:=(List.getElem?_eq_some_iff.1 hk).1;simp only[AV.cells,DT]at aU;obtain⟨t',rfl⟩:=DS cs.toList _ k _ y (List.getElem?_eq_getElem aU) hk;exact O2
  ·cases hx
 ·split at hx
  ·cases hx;have hc:(lh P t z).cells=[lh P t z]:=by unfold lh;split <;> rfl
   rw[hc]at hk
   cases k with
   | zero=>simp at hk;subst hk;exact O2
   | succ k=>simp at hk
  ·cases hx
theorem Ed{t et sz:Nat}{l:Tmp}{zs:List AV}{i:TypeInfo}(ho:o.op = .makeSlice t (.tmp l) (.tmp l))(ht:fX C.P t=some et)(bV:cB C.P et=some sz)(hz:YW C.P et=some zs)(hi:C.P.info? et=some i)
  (h0:0<sz) (lx:i.bytes<=32768) (he:Qv Γ (aW.ev σ.t) σ.h b (.mk et sz zs (.s l))=some e) :
  o.wp C.P a w (λa' w'=>cA C U' (σ.app o.dst e) a' w') Q:=by
 simp only[Qv]at he
 split at he
 rotate_left
 ·cases he
 rename_i n zd hn O4
 split at he
 rotate_left
 ·cases he
 rename_i hc;obtain⟨c1,c2,c3,c4⟩:=hc
 cases he;obtain⟨M,hM⟩:∃ M,M=if Γ.dp=true then Mo.dp 0 true [] else .ow:=⟨_,rfl⟩
 have hMt:M.eZ=true:=by rw[hM];split <;> rfl
 have hMg:M.gen.isSome=true->zd.all D.pl=true:=by
  rw[hM]
  split
  ·rename_i h;exact λ_=>c4 h
  ·intro h;cases h
 rw[<- hM];obtain⟨i',z,bY,jZ,gB⟩:=vk hz;rw[hi]at bY
 cases bY;obtain⟨i'',jD,hZ⟩:=vd bV;rw[hi]at jD
 cases jD;obtain⟨k,hk⟩:=DU (S.bj l) hn;have Ee:n<=4294967296:=c2;have gL:(i.bytes:Int)*n<=281474976710656:=by
  have h1:(i.bytes:Int)<=32768:=by omega
  have:=Int.mul_le_mul h1 Ee c1 (by omega);omega
 have cq:=run_make (P:=C.P) w t et i z (JR ht) hi jZ k k n n c1 (Int.le_refl _) gL (by omega);have O5:zd.length=zs.length:=(AV.dX O4).1;have mZ:z.cells.size=sz:=by rw[(gB w (λ_=>True) ι σ.h).size];omega
 rw[hZ]at cq;refine mY hd (v:=.slice (some ⟨w.heap.size,0,none⟩) n.toNat n.toNat) (w':=w.alloc (.cells (madeCells z.cells (n.toNat*sz)) et)) (ι':=ι.up b (some w.heap.size) 0) (h':=bI σ.h b (.sl et sz M (List.replicate n.toNat zd))) ?_
  (S.alloc b hb bN _ et _ ⟨by simp,by simp⟩ ?_) ?_ rfl
 ·have hev:a.eval (.tmp l) = .int k n:=hk;simp[execOp,ho,hev,cq]
 ·refine .sl w.heap.size et et sz M _ _ h0 (Io.cy _ _ _ _) (heap_alloc_new _ _) (λ_=>⟨rfl,Io.bZ _ _ _ _,n.toNat,by simp[madeCells],by simp,by simp[maxLen];omega⟩) (by rw[Io.bZ];simp[madeCells]) (by simp[maxLen];omega) (λx hx=>?_) (λp q x d hx dD=>?_)
  ·rw[List.eq_of_mem_replicate hx];exact c3
  ·have hp:p<n.toNat:=by have:=(List.getElem?_eq_some_iff.1 hx).1;simpa using this
   have hxz:x=zd:=by rw[List.getElem?_replicate,if_pos hp]at hx;cases hx;rfl
   subst hxz;have hq:q<sz:=by rw[<- c3];exact(List.getElem?_eq_some_iff.1 dD).1
   have aU:p*sz+q<n.toNat*sz:=by
    have:(p+1)*sz<=n.toNat*sz:=Nat.mul_le_mul_right _ hp;rw[Nat.add_mul]at this;omega
   have O6:q<z.cells.size:=by omega
   rw[Io.bZ,Nat.zero_add];refine⟨z.cells[q],?_,?_⟩
   ·have hm:(p*sz+q) % z.cells.size=q:=by rw[mZ,Nat.mul_comm,Nat.mul_add_mod,Nat.mod_eq_of_lt hq]
    rw[madeCells,Array.getElem?_map,Array.getElem?_range,if_pos aU];simp[hm,O6]
   ·have zl:zs[q]? = some zs[q]:=List.getElem?_eq_getElem (by omega);obtain⟨d',h5,h6⟩:=(AV.dX O4).2 q _ zl;rw[dD]at h5
    cases h5;obtain⟨hF,hg,_⟩:=vt S b hb (madeCells z.cells (n.toNat*sz)) et (.sl et sz M (List.replicate n.toNat x));have:=AV.jB S (F:=Fz C w ι σ.h) (λ_ h=>h) ((gB w (Fz C w ι σ.h) ι σ.h).vr q z.cells[q] zs[q] (by simp[O6]) zl) h6 (λid b' a8=>by rw[O3 hz q _ zl]at a8;cases a8) (λid b' p a8=>by rw[O3 hz q _ zl]at a8;cases a8);exact .pl (this.mono hF) (λh=>List.all_eq_true.1 (hMg h) d (List.mem_of_getElem? dD))
 ·refine .r b 0 n.toNat w.heap.size 0 n.toNat et sz M _ (Io.cy _ _ _ _) (QN _ _ _) (by simp) (Nat.le_refl _) (λ_=>by rw[Io.bZ];simp) (λ_ _=>⟨rfl,?_⟩);unfold World.shape?;rw[heap_alloc_new];simp[madeCells]
omit S hd hb bN in
theorem vu{h:Nat->aQ}{x:AV}{ds:List D}(hx:AV.ds h x.cells=some ds):x.st=true:=by
 cases x with
 | u=>simp[AV.cells,AV.ds,AV.d]at hx
 | t vs=>simp[AV.cells,AV.ds,AV.d]at hx
 | bx cs=>simp[AV.cells,AV.ds,AV.d]at hx
 | ow e sz m es=>simp[AV.cells,AV.ds,AV.d]at hx
 | _=>rfl
omit S hd hb bN in
theorem Ef{x:AV}{k:Nat}{y:AV}{id:Nat}(hk:x.cells[k]? = some y)(hi:id∈y.bR):id∈x.refs:=by
 cases x with
 | a cs=>exact tf hk hi
 | _ =>
  cases k with
  | zero=>simp[AV.cells]at hk;subst hk;exact hi
  | succ k=>simp[AV.cells]at hk
omit hd hb bN in
theorem O7{et sz:Nat}(bV:cB C.P et=some sz) :
  ∀(parts:List (Nat × Operand))(k:Nat)(xs:List aW)(cur:Array Value)(es:List (List D)),J7 C.P et k parts=some xs->elems σ.h (aW.ev σ.t) sz xs=some es->
   (k+parts.length)*sz<=cur.size->
   es.length=parts.length/\(∀ x,x∈es->x.length=sz)/\∃ dh,Instr.fill (λi=>some (i*sz,sz)) cur (parts.map λx=>(x.1,a.eval x.2))=some dh/\dh.size=cur.size/\(∀ m,m<k*sz->dh[m]? = cur[m]?)/\
    ∀(i j:Nat)(el:List D)(d:D),es[i]? = some el->el[j]? = some d->∃ v xo y,dh[(k+i)*sz+j]? = some v/\xs[i]? = some xo/\(aW.ev σ.t xo).cells[j]? = some y/\VR w (Fz C w ι σ.h) ι σ.h v y/\y.d σ.h=some d
 | [],k,xs,cur,es,hp,he,_=>by
  simp[J7]at hp;subst hp;simp[elems]at he;subst he;exact⟨rfl,by simp,cur,rfl,rfl,λ_ _=>rfl,by simp⟩
 | (i,x)::parts,k,xs,cur,es,hp,he,hle=>by
  simp only[J7]at hp
  split at hp
  rotate_left
  ·cases hp
  rename_i kx;subst kx
  split at hp
  rotate_left
  ·cases hp
  rename_i y ys hy iW
  cases hp;simp only[elems]at he
  split at he
  rotate_left
  ·cases he
  rename_i el0 bP cU gm
  split at he
  rotate_left
  ·cases he
  rename_i hlen
  cases he;have gB:=(Zs S hy).cells (vu cU);have cp:=AV.dX cU;have aij:(a.eval x).cells.size=sz:=by rw[gB.size,<- cp.1,hlen]
  simp only[List.length_cons]at hle;have aik:i*sz+sz<=cur.size:=by
   have:(i+1)*sz<=(i+(parts.length+1))*sz:=Nat.mul_le_mul_right _ (by omega);rw[Nat.add_mul]at this;omega
  obtain⟨f1,f2⟩:=OT cur (a.eval x).cells (i*sz) (by omega);obtain⟨r1,r2,dh,r3,r4,r5,r6⟩:=O7 bV parts (i+1) ys _ bP iW gm (by rw[f1];rw[show i+1+parts.length=i+(parts.length+1) by omega];exact hle);refine⟨by simp[r1],λz hz=>?_,dh,?_,by rw[r4,f1],λm hm=>?_,λp q el d m6 dD=>?_⟩
  ·rcases List.mem_cons.1 hz with rfl | hz
   ·exact hlen
   ·exact r2 z hz
  ·simp only[List.map_cons,Instr.fill];rw[if_neg (by simp only[Bool.or_eq_true,decide_eq_true_eq];rintro(h | h) <;> omega)];exact r3
  ·rw[r5 m (by rw[Nat.add_mul];omega),f2 m,if_pos hm]
  ·cases p with
   | zero =>
    simp at m6;subst m6;have hq:q<sz:=by rw[<- hlen];exact(List.getElem?_eq_some_iff.1 dD).1
    have ou:q<(aW.ev σ.t y).cells.length:=by rw[<- cp.1];omega
    obtain⟨d',h5,h6⟩:=cp.2 q _ (List.getElem?_eq_getElem ou);rw[dD]at h5
    cases h5;have vv:q<(a.eval x).cells.size:=by omega
    have dS:=gB.vr q _ _ (Array.getElem?_eq_getElem vv) (List.getElem?_eq_getElem ou);refine⟨(a.eval x).cells[q],y,_,?_,rfl,List.getElem?_eq_getElem ou,dS,h6⟩;rw[Nat.add_zero,r5 _ (by rw[Nat.add_mul];omega),f2,if_neg (by omega),if_pos (by omega)];rw[show i*sz+q-i*sz=q by omega];exact Array.getElem?_eq_getElem vv
   | succ p =>
    simp at m6;rw[show i+(p+1)=i+1+p by omega];exact r6 p q el d m6 dD
omit S hd hb bN in
theorem vw{h:Nat->aQ}:∀ {xs:List AV} {ds:List D},AV.ds h xs=some ds->∀ id,id∈AV.bM xs->∃ e sz m es,h id = .sl e sz m es
 | [],_,_,id,hi=>by simp[AV.bM]at hi
 | x::xs,ds,hx,id,hi=>by
  simp only[AV.ds]at hx
  split at hx
  ·rename_i d te h1 h2;simp only[AV.bM,List.mem_append]at hi
   rcases hi with hi | hi
   ·cases x with
    | r ba b8 off len =>
     simp[AV.bR]at hi;subst hi;simp only[AV.d]at h1
     split at h1
     ·rename_i e sz m es hh;exact⟨e,sz,m,es,hh⟩
     ·cases h1
    | b d' b8 g p =>
     simp[AV.bR]at hi;subst hi;simp only[AV.d]at h1
     split at h1
     ·rename_i hg
      cases hx:h id with
      | sl e sz m es=>exact⟨e,sz,m,es,rfl⟩
      | _=>rw[hx]at hg;cases hg
     ·cases h1
    | _=>simp[AV.bR]at hi
   ·exact vw h2 id hi
  ·cases hx
omit S hd hb bN in
theorem O8{h:Nat->aQ}{x:AV}{d:D}(hx:x.d h=some d):∀ id,id∈x.bR->∀ e sz m es,h id = .sl e sz m es->m.full=true:=by
 intro id hi e sz m es hh
 cases x with
 | r ba b8 off len =>
  simp[AV.bR]at hi;subst hi;simp only[AV.d,hh]at hx
  split at hx
  ·assumption
  ·cases hx
 | b d' b8 g p =>
  simp[AV.bR]at hi;subst hi;simp only[AV.d,hh]at hx
  split at hx
  ·rename_i hg;exact aQ.kl hg
  ·cases hx
 | _=>simp[AV.bR]at hi
omit S hd hb bN in
theorem zm{h:Nat->aQ}:∀ {xs:List AV} {ds:List D},AV.ds h xs=some ds->Full h (AV.bM xs)
 | [],_,_,id,hi=>by simp[AV.bM]at hi
 | x::xs,ds,hx,id,hi=>by
  simp only[AV.ds]at hx
  split at hx
  ·rename_i d te h1 h2;simp only[AV.bM,List.mem_append]at hi
   rcases hi with hi | hi
   ·exact O8 h1 id hi
   ·exact zm h2 id hi
  ·cases hx
omit S hd hb bN in
theorem zn{x:AV}(hx:x.st=true):x.refs=AV.bM x.cells:=by
 cases x with
 | a cs=>rfl
 | _=>first | (simp[AV.st,AV.one]at hx;done) | simp[AV.refs,AV.cells,AV.bM]
omit S hd hb bN in
theorem O9{h:Nat->aQ}{ev:aW->AV}{sz:Nat}:∀ {xs:List aW} {es:List (List D)},elems h ev sz xs=some es->∀ id,id∈xs.flatMap (λx=>(ev x).refs)->∃ e sz m es,h id = .sl e sz m es
 | [],_,_,id,hi=>by simp at hi
 | x::xs,es,hx,id,hi=>by
  simp only[elems]at hx
  split at hx
  ·rename_i e bP h1 h2
   split at hx
   ·simp only[List.flatMap_cons,List.mem_append]at hi
    rcases hi with hi | hi
    ·rw[zn (vu h1)]at hi;exact vw h1 id hi
    ·exact O9 h2 id hi
   ·cases hx
  ·cases hx
omit S hd hb bN in
theorem Pa{h:Nat->aQ}{ev:aW->AV}{sz:Nat}:∀ {xs:List aW} {es:List (List D)},elems h ev sz xs=some es->Full h (xs.flatMap λx=>(ev x).refs)
 | [],_,_,id,hi=>by simp at hi
 | x::xs,es,hx,id,hi=>by
  simp only[elems]at hx
  split at hx
  ·rename_i e bP h1 h2
   split at hx
   ·simp only[List.flatMap_cons,List.mem_append]at hi
    rcases hi with hi | hi
    ·rw[zn (vu h1)]at hi;exact zm h1 id hi
    ·exact Pa h2 id hi
   ·cases hx
  ·cases hx
omit hd hb bN in
theorem Pb{ids:List Nat}(ly:∀ id,id∈ids->∃ e sz m es,σ.h id = .sl e sz m es):(∀ id b,id∈ids->ι id=some b->Fz C w (ι.loose ids) (bn σ.h (eU σ.h ids)) b)/\
  ∀ id b p,id∈ids->ι.k b=some (id,p)->Fz C w (ι.loose ids) (bn σ.h (eU σ.h ids)) b:=by
 refine⟨λid b a8 hi=>?_,λid b p a8 hk=>?_⟩
 ·obtain⟨e,sz,m,es,hh⟩:=ly id a8;obtain⟨h1,h2⟩:=S.eh id b hi;refine⟨h2,.inr (h1.elim (λh=>h) λ⟨_,cs,h3⟩=>by rw[hh]at h3;cases h3),λb8 bY=>?_,?_⟩
  ·have:=S.inj b8 id b bY hi;subst this;rw[Yx,if_pos a8,hh];rfl
  ·refine Io.gJ ?_
   cases hk:ι.k b with
   | none=>rfl
   | some z=>obtain⟨z,q⟩:=z;exact absurd hi ((S.dg b z q hk).ne id)
 ·have L:=S.dg b id p hk;refine⟨L.lt,.inr L.fr,λi hi=>absurd hi (L.ne i),?_⟩
  cases fk:(ι.loose ids).k b with
  | none=>rfl
  | some z =>
   obtain⟨z,q⟩:=z;obtain⟨k1,k2⟩:=Io.eL.1 fk;rw[hk]at k1
   cases k1;exact absurd a8 k2
omit S hd hb bN in
theorem QR2{P:Program}{w:World}{t et sz n:Nat}{parts:Array (Nat × Value)}{i:TypeInfo}{z:Value}{cells:Array Value}(ht:P.underlying t=some (.slice et))(hi:P.info? et=some i)(hz:i.zero=some z)(bV:i.size=sz)(h0:0<sz)
  (fA:n*sz<=16777216) (hf:Instr.fill (λk=>some (k*sz,sz)) (madeCells z.cells (n*sz)) parts.toList=some cells) :
  (Instr.buildSlice t n parts).run P w = .ok (.slice (some ⟨w.heap.size,0,none⟩) n n) (w.alloc (.cells cells et)):=by
 have h1:¬ 16777216<n*sz:=by omega
 by_cases hn:n=0
 ·subst hn;have hm:madeCells z.cells (0*sz) = #[]:=by simp[madeCells,Array.range_zero']
  rw[hm]at hf;simp[Instr.buildSlice,run_underlying ht,sizeOf,typeInfo,hi,bV,newRow,Array.range_zero',hf]
 ·have hf':Instr.fill (λk=>some (k*sz,sz)) ((Array.range (n*sz)).map λx=>z.cells[x % z.cells.size]!) parts.toList=some cells:=hf;have mj:sz≠0:=by omega
  have hm:¬ n*sz=0:=Nat.mul_ne_zero hn mj;simp[Instr.buildSlice,hm,run_underlying ht,sizeOf,typeInfo,zeroValue,hi,hz,bV,h1,hn,mj,newRow,hf']
omit S hd hb bN in
theorem Pc{P:Program}{et:TypeId}:∀ {parts:List (Nat × Operand)} {k:Nat} {xs:List aW},J7 P et k parts=some xs->xs.length=parts.length
 | [],k,xs,h=>by simp[J7]at h;subst h;rfl
 | (i,x)::parts,k,xs,h=>by
  simp only[J7]at h
  split at h
  ·split at h
   ·rename_i y ys h1 h2
    cases h;simp[Pc h2]
   ·cases h
  ·cases h
omit S hd hb bN in
theorem Pd{B:aQ}(h:B.pX=true):∃ e sz g t es,B = .sl e sz (.dp g t []) es:=by
 unfold aQ.pX at h
 split at h
 ·exact⟨_,_,_,_,_,rfl⟩
 ·cases h
def gn(ev:aW->AV):Nat->List aW->List (Nat × Nat × Nat)
 | _,[]=>[]
 | i,x::r=>gK i 0 (ev x).cells++gn ev (i+1) r
omit S hd hb bN in
theorem Eg{x:AV}(hx:x.st=true):x.dc=AV.cS x.cells:=by
 cases x with
 | a cs=>rfl
 | _=>first | (simp[AV.st,AV.one]at hx;done) | simp[AV.dc,AV.cells,AV.cS]
omit S hd hb bN in
theorem Pe:∀ {xs:List AV} {id:Nat},id∈AV.cS xs->∃(k sz off len:Nat),xs[k]? = some (AV.r sz id off len)
 | [],id,h=>by simp[AV.cS]at h
 | x::xs,id,h=>by
  simp only[AV.cS,List.mem_append]at h
  rcases h with h | h
  ·cases x with
   | r sz b8 off len=>simp[AV.fE]at h;subst h;exact⟨0,sz,off,len,rfl⟩
   | _=>simp[AV.fE]at h
  ·obtain⟨k,sz,off,len,h⟩:=Pe h;exact⟨k+1,sz,off,len,by simpa using h⟩
omit S hd hb bN in
theorem Eh{h:Nat->aQ}{ev:aW->AV}{sz:Nat}:∀ {xs:List aW} {es:List (List D)},elems h ev sz xs=some es->∀ {i:Nat} {x:aW},xs[i]? = some x->AV.ds h (ev x).cells=some ((es[i]?).getD [])
 | [],_,_,i,x,hx=>by simp at hx
 | y::xs,es,he,i,x,hx=>by
  simp only[elems]at he
  split at he
  rotate_left
  ·cases he
  rename_i e bP h1 h2
  split at he
  rotate_left
  ·cases he
  cases he
  cases i with
  | zero=>simp at hx;subst hx;simpa using h1
  | succ i=>simpa using Eh h2 (by simpa using hx)
omit S hd hb bN in
theorem Pf{h:Nat->aQ}{ev:aW->AV}{sz:Nat}:∀ {xs:List aW} {es:List (List D)},elems h ev sz xs=some es->es.length=xs.length
 | [],es,he=>by simp[elems]at he;subst he;rfl
 | y::xs,es,he=>by
  simp only[elems]at he
  split at he
  rotate_left
  ·cases he
  rename_i e bP h1 h2
  split at he
  rotate_left
  ·cases he
  cases he;simp[Pf h2]
omit S hd hb bN in
theorem QVU{h:Nat->aQ}{ev:aW->AV}{sz:Nat}{xs:List aW}{es:List (List D)}(he:elems h ev sz xs=some es){i j:Nat}{x:aW}{y:AV}(hx:xs[i]? = some x)(hy:(ev x).cells[j]? = some y):∃ el d,es[i]? = some el/\el[j]? = some d:=by
 have h1:=Eh he hx;have hl:=Pf he;have hi:i<es.length:=by rw[hl];exact(List.getElem?_eq_some_iff.1 hx).1
 rw[List.getElem?_eq_getElem hi]at h1;obtain⟨h2,h3⟩:=AV.dX h1;obtain⟨d,h4,_⟩:=h3 j y hy;exact⟨es[i],d,List.getElem?_eq_getElem hi,by simpa using h4⟩
omit S hd hb bN in
theorem Pg{h:Nat->aQ}{ev:aW->AV}{sz:Nat}:∀ {xs:List aW} {es:List (List D)} {i:Nat},elems h ev sz xs=some es->(gn ev i xs).map (λx=>x.2.2)=xs.flatMap λx=>(ev x).dc
 | [],es,i,_=>rfl
 | x::xs,es,i,he=>by
  simp only[elems]at he
  split at he
  rotate_left
  ·cases he
  rename_i e bP h1 h2;simp only[gn,List.map_append,List.flatMap_cons,D8,Pg h2,Eg (vu h1)]
omit S hd hb bN in
theorem Ph{ev:aW->AV}:∀ {xs:List aW} {k i j n:Nat},(i,j,n)∈gn ev k xs->∃ m xo,i=k+m/\xs[m]? = some xo/\∃ sz off len,(ev xo).cells[j]? = some (.r sz n off len)
 | [],k,i,j,n,h=>by simp[gn]at h
 | x::xs,k,i,j,n,h=>by
  simp only[gn,List.mem_append]at h
  rcases h with h | h
  ·obtain⟨rfl,q,sz,off,len,h2,h3⟩:=zk h;exact⟨0,x,rfl,rfl,sz,off,len,by rw[h2,Nat.zero_add];exact h3⟩
  ·obtain⟨m,xo,h1,h2,h3⟩:=Ph h;exact⟨m+1,xo,by omega,by simpa using h2,h3⟩
omit S hd hb bN in
theorem QMh{ev:aW->AV}{xs:List aW}{i j n:Nat}(h:(i,j,n)∈gn ev 0 xs):∃ xo,xs[i]? = some xo/\∃ sz off len,(ev xo).cells[j]? = some (.r sz n off len):=by
 obtain⟨m,xo,h1,h2,h3⟩:=Ph h;rw[Nat.zero_add]at h1;subst h1;exact⟨xo,h2,h3⟩
omit S hd hb bN in
theorem Pj{ev:aW->AV}:∀ {xs:List aW} {k m j n sz off len:Nat} {xo:aW},xs[m]? = some xo->(ev xo).cells[j]? = some (.r sz n off len)->(k+m,j,n)∈gn ev k xs
 | [],k,m,j,n,sz,off,len,xo,h,_=>by simp at h
 | x::xs,k,0,j,n,sz,off,len,xo,h,h2=>by
  simp at h;subst h;simp only[gn,List.mem_append,Nat.add_zero];left;have:=D9 (i:=k) (j:=0) h2;rwa [Nat.zero_add]at this
 | x::xs,k,m+1,j,n,sz,off,len,xo,h,h2=>by
  simp only[gn,List.mem_append];right;have:=Pj (k:=k+1) (xs:=xs) (m:=m) (by simpa using h) h2;rwa [show k+1+m=k+(m+1) by omega]at this
omit S hd hb bN in
theorem QSj{ev:aW->AV}{xs:List aW}{i j n sz off len:Nat}{xo:aW}(h:xs[i]? = some xo)(h2:(ev xo).cells[j]? = some (.r sz n off len)):(i,j,n)∈gn ev 0 xs:=by
 have:=Pj (k:=0) h h2;rwa [Nat.zero_add]at this
omit S hd hb bN in
theorem Pk{h:Nat->aQ}{b:Nat}{ev:aW->AV}:∀ {xs:List aW} {k m:Nat} {xo:aW},gG h b ev k xs=true->xs[m]? = some xo->AV.dz h b 0 (k+m) 0 (ev xo).cells=true
 | [],k,m,xo,_,h=>by simp at h
 | x::xs,k,0,xo,hm,h=>by simp only[gG,Bool.and_eq_true]at hm;simp at h;subst h;exact hm.1
 | x::xs,k,m+1,xo,hm,h=>by
  simp only[gG,Bool.and_eq_true]at hm;have:=Pk hm.2 (by simpa using h:xs[m]? = some xo);rwa [show k+1+m=k+(m+1) by omega]at this
omit S hd hb bN in
theorem Ei{h:Nat->aQ}{b:Nat}{ev:aW->AV}{xs:List aW}{m:Nat}{xo:aW}(hm:gG h b ev 0 xs=true)(hx:xs[m]? = some xo):AV.dz h b 0 (0+m) 0 (ev xo).cells=true:=Pk hm hx
theorem QRR{t et sz n:Nat}{parts:Array (Nat × Operand)}{xs:List aW}(ho:o.op = .buildSlice t n parts)(ht:fX C.P t=some et)(bV:cB C.P et=some sz)(hp:J7 C.P et 0 parts.toList=some xs)(hn:xs.length=n)(h0:0<sz)
  (fA:n*sz<=16777216) (hz:(YW C.P et).isSome=true) (he:Qv Γ (aW.ev σ.t) σ.h b (.bW et sz xs)=some e) :
  o.wp C.P a w (λa' w'=>cA C U' (σ.app o.dst e) a' w') Q:=by
 simp only[Qv]at he
 split at he
 rotate_left
 ·cases he
 rename_i es gm;obtain⟨zs,mZ⟩:=Option.isSome_iff_exists.1 hz;obtain⟨i,z,hi,jZ,_⟩:=vk mZ;obtain⟨i',bY,hZ⟩:=vd bV;rw[hi]at bY
 cases bY;have gA:parts.toList.length=n:=by rw[<- Pc hp];exact hn
 obtain⟨r1,r2,dh,r3,r4,_,r6⟩:=O7 S bV parts.toList 0 xs (madeCells z.cells (n*sz)) es hp gm (by rw[Nat.zero_add,gA];simp[madeCells]);have cq:=QR2 (P:=C.P) (w:=w) (t:=t) (n:=n) (parts:=parts.map λx=>(x.1,a.eval x.2)) (JR ht) hi jZ hZ h0 fA (by simpa using r3);have hlen:es.length=n:=by rw[r1,gA]
 have ft:n<=maxLen:=by
  have:n*1<=n*sz:=Nat.mul_le_mul_left _ h0;simp[maxLen];omega
 have dJ:dh.size=n*sz:=by rw[r4];simp[madeCells]
 split at he
 ·
  rename_i iX
  split at he
  rotate_left
  ·cases he
  rename_i hc;obtain⟨hm,dV⟩:=hc
  cases he;obtain⟨L,hL⟩:∃ L,L=gn (aW.ev σ.t) 0 xs:=⟨_,rfl⟩
  have tg:L.map (λx=>x.2.2)=xs.flatMap λx=>(aW.ev σ.t x).dc:=by rw[hL];exact Pg gm
  obtain⟨H,hH⟩:∃ H:cE,H=L.map (λx=>(x.1,x.2.1))++[]:=⟨_,rfl⟩
  obtain⟨th,g7,_⟩:=vt S b hb dh et (.sl et sz (.dp 0 true H) es);have hbs:∀ z:Nat,ι.o b+z=ι.o b+z:=λ_=>rfl;have SA:Sat C U' ⟨σ.t,bI σ.h b (.sl et sz (.dp 0 true H) es),σ.nx⟩ a (w.alloc (.cells dh et)) (ι.up b (some w.heap.size) 0):=by
   refine S.alloc b hb bN _ et _ ⟨by simp,by simp⟩ ?_;refine .sl w.heap.size et et sz _ es dh h0 (Io.cy _ _ _ _) (heap_alloc_new _ _) (λ_=>⟨rfl,Io.bZ _ _ _ _,n,dJ,by omega,ft⟩) (by rw[Io.bZ,hlen,dJ];omega) (by omega) r2 (λp q x d hx dD=>?_);obtain⟨v,xo,y,h1,h2,h3,h4,h5⟩:=r6 p q x d hx dD;rw[Nat.zero_add]at h1;rw[Io.bZ,Nat.zero_add];have ec:=qh (Ei hm h2) h3;rw[Nat.zero_add,Nat.zero_add]at ec;refine⟨v,h1,?_⟩
   cases y with
   | c d0 =>
    cases d0 with
    | v u =>
     simp only[AV.d,Option.some.injEq]at h5;subst h5
     cases h4 with | c _ _ hr=>exact .pl (hr.mono th) (λ_=>rfl)
    | sl=>simp[AV.eH]at ec
   | n k9 =>
    simp only[AV.d,Option.some.injEq]at h5;subst h5
    cases h4 with | n=>exact .pl (F:=Fz C (w.alloc (.cells dh et)) (ι.up b (some w.heap.size) 0) (bI σ.h b (.sl et sz (.dp 0 true H) es))) (.nil _) (λ_=>rfl)
   | r k9 id off len =>
    refine⟨h4.one rfl,λdt=>absurd ?_ dt⟩;rw[hH,hL,List.append_nil];refine List.mem_map.2 ⟨(p,q,id),QSj h2 h3,rfl⟩
   | b d0 id g pt =>
    simp only[AV.eH,Bool.and_eq_true]at ec;have:=Nat.eq_of_beq_eq_true ec.1.1;subst this;simp only[AV.d,(S.fresh id hb).1,aQ.dq]at h5
    cases h5
   | _=>simp[AV.eH]at ec
  obtain⟨ι',h',q1,q2,q3,q4,q5,q6⟩:=Sat.jC L SA (by rw[<- hH];exact QN _ _ _) (by rw[tg];exact dV) (λi j n' ti=>by
   obtain⟨xo,h2,k9,off,len,h3⟩:=QMh (by rw[<- hL];exact ti);have ec:=qh (Ei hm h2) h3;simp only[AV.eH,Bool.and_eq_true,Bool.not_eq_true',Nat.zero_add]at ec;have kv:n'≠b:=λh=>by subst h;simp at ec
   obtain⟨e',ba,g',t',bP,hh⟩:=Pd ec.2;have hjx:∃ el d,es[i]? = some el/\el[j]? = some d:=QVU gm h2 h3;obtain⟨el,d,k1,k2⟩:=hjx;obtain⟨v,xo',y,m1,m2,m3,m4,m5⟩:=r6 i j el d k1 k2;rw[h2]at m2;cases m2;rw[h3]at m3;cases m3;have Ej:=m5;simp only[AV.d,hh]at Ej;simp only[Mo.full,if_true,Option.some.injEq]at Ej;have lv:k9=ba:=by
    cases m4 with
    | cz _ _ _ _ _ _ hd=>rw[hd]at hh;cases hh
    | cM _ _ _ _ _ ca=>rw[hh]at ca;cases ca;rfl
    | df _ _ _ _ _ _ _ ca=>rw[hh]at ca;cases ca;rfl
    | r _ _ _ _ _ _ _ _ _ _ _ ca=>rw[hh]at ca;cases ca;rfl
   subst lv;refine⟨kv,v,k9,off,len,e',g',t',bP,el,?_,⟨w.heap.size,dh,et,Io.cy _ _ _ _,heap_alloc_new _ _,?_⟩,m4.mono th g7,k1,?_⟩
   ·show bI σ.h b _ n'=_;rw[QI _ _ _ _ kv];exact hh
   ·rw[Io.bZ,Nat.zero_add];rw[Nat.zero_add]at m1;exact m1
   ·rw[k2,Ej])
  refine mY (σ:=σ) hd (v:=.slice (some ⟨w.heap.size,0,none⟩) n n) (w':=w.alloc (.cells dh et)) (ι':=ι') (h':=h') ?_ q1 ?_ ?_
  ·simp only[execOp,ho,Sem.run_bind,cq,Result.andThen_ok,Sem.run_pure]
  ·rw[hlen];refine q4 _ _ (.r b 0 n w.heap.size 0 n et sz _ es (Io.cy _ _ _ _) (QN _ _ _) (by omega) (Nat.le_refl _) (λ_=>by rw[Io.bZ];simp) (λ_ _=>⟨rfl,?_⟩));unfold World.shape?;rw[heap_alloc_new];simp[dJ]
  ·rw[q2];funext k
   simp only[bn];rw[Ea,<- tg];by_cases hk:k=b
   ·subst hk;have:k∉L.map λx=>x.2.2:=by
     intro hk;rw[tg]at hk;obtain⟨x,qj,mS⟩:=List.mem_flatMap.1 hk;obtain⟨p,il⟩:=List.getElem?_of_mem qj;have iO:=vu (Eh gm il);rw[Eg iO]at mS;obtain⟨q,k9,off,len,hq⟩:=Pe mS;have ec:=qh (Ei hm il) hq;simp[AV.eH]at ec
    rw[if_neg this,QN,if_pos rfl]
   ·rw[QI _ _ _ _ hk,if_neg hk];show _=if k∈L.map (λx=>x.2.2) then aQ.dead else bI σ.h b _ k;rw[QI _ _ _ _ hk]
 ·cases he;have hrefs:=O9 gm;obtain⟨S1,hF⟩:=S.freeze (xs.flatMap λx=>(aW.ev σ.t x).refs) (Pa gm);obtain⟨cu,vx⟩:=Pb S hrefs;have mW:b∉xs.flatMap λx=>(aW.ev σ.t x).refs:=by
   intro mI;obtain⟨e,sz,m,es,hh⟩:=hrefs b mI;rw[(S.fresh b hb).1]at hh
   cases hh
  have r7:∀(i j:Nat)(el:List D)(d:D),es[i]? = some el->el[j]? = some d->∃ v,dh[(0+i)*sz+j]? = some v/\Rd w (Fz C w (ι.loose (xs.flatMap λx=>(aW.ev σ.t x).refs)) (bn σ.h (eU σ.h (xs.flatMap λx=>(aW.ev σ.t x).refs)))) v d:=by
   intro i j el d h1 h2;obtain⟨v,xo,y,m1,m2,m3,m4,m5⟩:=r6 i j el d h1 h2;have fe:∀ id,id∈y.bR->id∈xs.flatMap λx=>(aW.ev σ.t x).refs:=λid a8=>List.mem_flatMap.2 ⟨xo,List.mem_of_getElem? m2,Ef m3 a8⟩;exact⟨v,m1,AV.jB S hF m4 m5 (λid b a8=>cu id b (fe id a8)) (λid b p a8=>vx id b p (fe id a8))⟩
  generalize ia:(xs.flatMap λx=>(aW.ev σ.t x).refs)=ids at *;obtain⟨th,g7,_⟩:=vt S1 b hb dh et (.sl et sz .ow es);have SA:Sat C U' ⟨σ.t,bI (bn σ.h (eU σ.h ids)) b (.sl et sz .ow es),σ.nx⟩ a (w.alloc (.cells dh et)) ((ι.loose ids).up b (some w.heap.size) 0):=by
   refine S1.alloc b hb bN _ et _ ⟨by simp,by simp⟩ ?_;refine .sl w.heap.size et et sz .ow es dh h0 (Io.cy _ _ _ _) (heap_alloc_new _ _) (λ_=>⟨rfl,Io.bZ _ _ _ _,n,dJ,by omega,ft⟩) (by rw[Io.bZ,hlen,dJ];omega) (by omega) r2 (λp q x d hx dD=>?_);obtain⟨v,h1,h2⟩:=r7 p q x d hx dD;rw[Nat.zero_add]at h1;rw[Io.bZ,Nat.zero_add];exact⟨v,h1,h2.mono th⟩
  refine mY (σ:=σ) hd (v:=.slice (some ⟨w.heap.size,0,none⟩) n n) (w':=w.alloc (.cells dh et)) (ι':=(ι.loose ids).up b (some w.heap.size) 0) (h':=bI (bn σ.h (eU σ.h ids)) b (.sl et sz .ow es)) ?_ SA ?_ ?_
  ·simp only[execOp,ho,Sem.run_bind,cq,Result.andThen_ok,Sem.run_pure]
  ·rw[hlen];refine .r b 0 n w.heap.size 0 n et sz .ow es (Io.cy _ _ _ _) (QN _ _ _) (by omega) (Nat.le_refl _) (λ_=>by rw[Io.bZ];simp) (λ_ _=>⟨rfl,?_⟩);unfold World.shape?;rw[heap_alloc_new];simp[dJ]
  ·funext k
   simp only[bn];rw[Yx];by_cases hk:k=b
   ·subst hk;rw[if_neg mW,QN,QN]
   ·rw[QI _ _ _ _ hk,QI _ _ _ _ hk,Yx]
end
end Go.Proofs.YtdplaepmjogjjaaGreat.Am
namespace Go.Proofs.YtdplaepmjogjjaaGreat.Am
open Go Go.RowKit
section
variable {C:Ctx} {U U':Nat->Prop} {σ:St} {a:Act} {w:World} {ι:Io}
theorem QMt{w:World}{g k:Nat}{cur new:Array Value}{et:TypeId}(hb:w.heap[g]? = some (.cells cur et (0,0)))(bV:new.size=cur.size):(w.setRow g new).shape? k=w.shape? k:=by
 unfold World.shape?;by_cases h:k=g
 ·subst h;rw[setRow_heap w k cur new et (0,0) hb,hb];simp[bV]
 ·rw[setRow_other w g k new h]
theorem km.setRow{C:Ctx}{w:World}(h:km C w){g:Nat}(hg:C.w0.heap.size<=g\/C.X g)(new:Array Value):km C (w.setRow g new) :=
 ⟨h.os,h.tape,h.output,by have:=h.size;simp;exact this,λk hk hx=>by
  rw[setRow_other w g k new (λe=>by subst e;exact hg.elim (λhg=>by omega) (λhg=>hx hg))];exact h.block k hk hx⟩
theorem zo(S:Sat C U σ a w ι){id g:Nat}(hi:ι id=some g){cur new:Array Value}{et:TypeId}(hb:w.heap[g]? = some (.cells cur et (0,0)))(bV:new.size=cur.size){B:aQ}
  (cR:cN (σ.h id) B) (cu:(σ.h id).own=true) (fF:∀ g,(σ.h id).gen=some g->B.gen≠some g) :
  (∀ k,Fz C w ι σ.h k->Fz C (w.setRow g new) ι (bI σ.h id B) k/\(w.setRow g new).heap[k]? = w.heap[k]?)/\
  (∀ i,cZ w (w.setRow g new) ι ι σ.h (bI σ.h id B) i)/\(∀ i,i≠id->Rest w (w.setRow g new) ι ι i)/\∀ i,mH w (w.setRow g new) ι ι i:=by
 have gi:∀ i,mH w (w.setRow g new) ι ι i:=λi b p hk=>⟨hk,setRow_other w g b new (λe=>by subst e;exact(S.dg _ i p hk).ne id hi)⟩
 have bU:∀ i,i≠id->Rest w (w.setRow g new) ι ι i:=λi h=>⟨rfl,rfl,λk hk=>setRow_other w g k new (λe=>by subst e;exact h (S.inj i id _ hk hi)),gi i⟩
 refine⟨λk hk=>⟨⟨by simpa using hk.1,hk.2.1,λi kx=>?_,hk.2.2.2⟩,setRow_other w g k new (λe=>?_)⟩,λi=>?_,bU,gi⟩
 ·by_cases h:i=id
  ·subst h;rw[hi]at kx
   cases kx;have:=hk.2.2.1 _ hi;rw[cu]at this
   cases this
  ·rw[QI _ _ _ _ h];exact hk.2.2.1 i kx
 ·subst e;have:=hk.2.2.1 _ hi;rw[cu]at this
  cases this
 ·by_cases h:i=id
  ·subst h;unfold cZ;right;right;rw[QN];exact⟨rfl,rfl,cR,λk _=>QMt hb bV,λg h1 h2=>absurd h2 (fF g h1)⟩
  ·exact(bU i h).gE (QI _ _ _ _ h)
theorem Sat.setRow(S:Sat C U σ a w ι)(bN:∀ i,U' i->U i){id g:Nat}(hi:ι id=some g){cur new:Array Value}{et:TypeId}(hb:w.heap[g]? = some (.cells cur et (0,0)))(bV:new.size=cur.size){B:aQ}
  (cR:cN (σ.h id) B) (cu:(σ.h id).own=true) (fF:∀ g,(σ.h id).gen=some g->B.gen≠some g) (iX:∀ e sz g t H es,σ.h id = .sl e sz (.dp g t H) es->∃ e sz g t H es,B = .sl e sz (.dp g t H) es)
  (qg:BR (w.setRow g new) (Fz C (w.setRow g new) ι (bI σ.h id B)) ι (bI σ.h id B) id B) :
  Sat C U' ⟨σ.t,bI σ.h id B,σ.nx⟩ a (w.setRow g new) ι:=by
 obtain⟨hF,hg,bU,gi⟩:=zo S hi hb bV cR cu fF;have ko:=S.eh id g hi;refine S.ej (S.dE.setRow (ko.1.elim (λh=>h.dE) (λh=>.inr h.1)) new) hF hg (λi cs hx=>by
  by_cases h:i=id
  ·subst h;rw[QN];exact cR.ne.2
  ·rw[QI _ _ _ _ h,hx];simp) (λi=>?_) S.inj (λi k hk=>?_) (λi hiU=>?_) (λi k hk=>?_) (λk i p hk=>?_)
 ·by_cases h:i=id
  ·subst h;right;rw[QN];exact qg
  ·left;exact⟨QI _ _ _ _ h,bU i h⟩
 ·obtain⟨h1,h2⟩:=S.eh i k hk;refine⟨h1.imp (λh=>h) λ⟨hx,cs,dJ⟩=>⟨hx,?_⟩,by simpa using h2⟩;by_cases h:i=id
  ·subst h;rw[QN];rw[dJ]at cR
   cases B <;> simp[cN]at cR;exact⟨_,rfl⟩
  ·rw[QI _ _ _ _ h];exact⟨cs,dJ⟩
 ·obtain⟨h1,h2⟩:=S.fresh i (bN i hiU);have:i≠id:=λe=>by subst e;rw[hi]at h2;cases h2
  rw[QI _ _ _ _ this];exact⟨h1,h2⟩
 ·by_cases h:i=id
  ·subst h;rw[QN];exact cR.ne
  ·rw[QI _ _ _ _ h];exact S.live i k hk
 ·have L:=S.dg k i p hk;refine⟨L.pn,?_,L.fr,by simpa using L.lt,L.ne⟩;by_cases h:i=id
  ·subst h;rw[QN];obtain⟨e,sz,g,t,H,es,h⟩:=L.dp;exact iX e sz g t H es h
  ·rw[QI _ _ _ _ h];exact L.dp
theorem Ek{P:Program}{w:World}{t n g o:Nat}{v:Value}{cur:Array Value}{et:TypeId}(hn:cB P t=some n)(hb:w.heap[g]? = some (.cells cur et (0,0)))(hv:v.cells.size=n)(hle:o+n<=cur.size)
  (h1:∀(k:Nat)(u:Value),v.cells[k]? = some u->u.oneCell'=true) :
  (Instr.storeAt t (.pointer (some ⟨g,o,Option.none⟩)) v).run P w = .ok () (w.setRow g (Am.bu cur.toList o v.cells.toList).toArray):=by
 have h:=run_storeCells_at P g o et v.cells.toList 0 cur w hb (by simp;omega) (λu hu=>by
  obtain⟨k,hk,he⟩:=List.getElem_of_mem hu;exact h1 k u (by rw[<- he];simp at hk ⊢))
 simp only[Nat.add_zero]at h;simp[Instr.storeAt,Instr.sureAddr,storeVar,mM hn,hv,h,Am.bu]
end
section
variable {C:Ctx} {U U':Nat->Prop} {σ:St} {a:Act} {w:World} {ι:Io} {o:Oper} {Q:Exit->Act->World->Prop} {Γ:eA} {b:Nat} {e:fj}
variable (S:Sat C U σ a w ι) (hd:∀ d,o.dst=some d->d<C.N) (bN:∀ i,U' i->U i)
include S hd bN
theorem QIi{x v:Operand}{x' v':aW}{t n:Nat}{t1 t2:TypeId}(ho:o.op = .store t x v)(hx:cO C.P t1 x=some x')(hv:cO C.P t2 v=some v')(hn:cB C.P t=some n)(he:Qv Γ (aW.ev σ.t) σ.h b (.store x' v' n)=some e) :
  o.wp C.P a w (λa' w'=>cA C U' (σ.app o.dst e) a' w') Q:=by
 have h1:=Zs S hx;simp only[Qv]at he
 split at he
 rotate_left
 ·cases he
 rename_i hc;obtain⟨hlen,iO⟩:=hc;have gB:=(Zs S hv).cells iO;have tj:(a.eval v).cells.size=n:=by rw[gB.size,hlen]
 split at he
 rotate_left
 ·cases he
 rename_i id i j hp;rw[hp]at h1;generalize cw:a.eval x=av at h1;have dr:=S.fi id
 split at he
 ·rename_i cs hh
  split at he
  rotate_left
  ·cases he
  rename_i vy;obtain⟨rfl,zp⟩:=vy
  cases he
  cases h1 with
  | cT v _ _ _ _ eQ=>rw[eQ]at hh;cases hh
  | p _ _ _ bk hi mj dV =>
   rw[hh]at dr cw;simp only[aQ.sz,Nat.mul_zero,Nat.zero_add]at cw
   cases dr with
   | box ml et bj _ bY eS hb hl Pl dS =>
    rw[hi]at bY;cases bY;rw[eS,Nat.zero_add]at cw;have cq:=Ek (P:=C.P) (t:=t) (o:=j) hn hb tj (by omega) gB.one;have fY:(bu bj.toList j (a.eval v).cells.toList).length=bj.toList.length:=mR (by simp;omega);have cR:cN (σ.h id) (.box (bu cs j (aW.ev σ.t v').cells)):=by rw[hh];exact mR (by omega)
    have cu:(σ.h id).own=true:=by rw[hh];rfl
    have fF:∀ g,(σ.h id).gen=some g->(aQ.box (bu cs j (aW.ev σ.t v').cells)).gen≠some g:=λg h=>by rw[hh]at h;cases h
    obtain⟨hF,hg,_⟩:=zo S hi hb (new:=(bu bj.toList j (a.eval v).cells.toList).toArray) (by simpa using fY) cR cu fF;refine D7 (σ:=σ) hd (h':=bI σ.h id (.box (bu cs j (aW.ev σ.t v').cells))) (ι':=ι) (w':=w.setRow bk (bu bj.toList j (a.eval v).cells.toList).toArray) ?_ (S.setRow bN hi hb (by simpa using fY) cR cu fF (λe sz g t H es h=>by rw[hh]at h;cases h) ?_) rfl
    ·simp only[execOp,ho,cw,Sem.run_bind,cq,Result.andThen_ok,Sem.run_pure]
    ·have dj:CR w (Fz C w ι σ.h) ι σ.h (bu bj.toList j (a.eval v).cells.toList).toArray (bu cs j (aW.ev σ.t v').cells):=by
      have la:=J4 (l:=bj.toList) (xs:=(a.eval v).cells.toList) (j:=j) (by simp;omega);have g7:=J4 (l:=cs) (xs:=(aW.ev σ.t v').cells) (j:=j) (by omega);have lk:(a.eval v).cells.toList.length=n:=by simpa using tj
      refine⟨by rw[List.size_toArray,fY,mR (by omega)];simpa using hl,λk u hk=>?_,λk u y hk hy=>?_⟩
      ·rw[List.getElem?_toArray,la k]at hk
       split at hk
       ·exact Pl k u (by simpa using hk)
       ·split at hk
        ·exact gB.one _ u (by simpa using hk)
        ·exact Pl k u (by simpa using hk)
      ·rw[List.getElem?_toArray,la k]at hk;rw[g7 k]at hy
       split at hk
       ·rename_i e1;rw[if_pos e1]at hy;exact dS k u y (by simpa using hk) hy
       ·rename_i e1;rw[if_neg e1]at hy
        split at hk
        ·rename_i e2;rw[if_pos (by omega)]at hy;exact gB.vr _ u y (by simpa using hk) hy
        ·rename_i e2;rw[if_neg (by omega)]at hy;exact dS k u y (by simpa using hk) hy
     have jE:=dj.mono hF hg;exact .box bk et _ _ hi eS (setRow_heap w bk bj _ et (0,0) hb) jE.size jE.one jE.vr
 ·rename_i et sz es hh
  split at he
  rotate_left
  ·cases he
  rename_i el cU
  split at he
  rotate_left
  ·cases he
  rename_i ds cp
  split at he
  rotate_left
  ·cases he
  rename_i vy;obtain⟨zp,dt⟩:=vy
  cases he
  cases h1 with
  | cT v _ _ _ _ eQ=>rw[eQ]at hh;cases hh
  | p _ _ _ bk hi mj dV =>
   rw[hh]at dr cw;simp only[aQ.sz]at cw
   cases dr with
   | slnil=>simp at cU
   | sl ml _ e0 _ _ _ cur hz bY hb eO hle cX bV dS =>
    rw[hi]at bY;cases bY;obtain⟨rfl,eS,cap,hC,jF,qk⟩:=eO rfl;rw[eS,Nat.zero_add]at cw;simp only[eS,Nat.zero_add]at dS;have hrefs:∀ b8,b8∈(aW.ev σ.t v').refs->∃ e sz m es,σ.h b8 = .sl e sz m es:=by
     rw[zn iO];exact vw cp
    obtain⟨S1,ql⟩:=S.freeze (aW.ev σ.t v').refs (by rw[zn iO];exact zm cp);obtain⟨vA,vB⟩:=Pb S hrefs;generalize ia:(aW.ev σ.t v').refs=ids at *;have zq:bn σ.h (eU σ.h ids) id = .sl e0 sz .ow es:=by rw[Yx,if_neg dt,hh]
    have jy:i<es.length:=(List.getElem?_eq_some_iff.1 cU).1;have mN:el.length=sz:=bV el (List.mem_of_getElem? cU);have d8:=AV.dX cp;have oo:i*sz+j+n<=cur.size:=by
     rw[hC];have:(i+1)*sz<=cap*sz:=Nat.mul_le_mul_right _ (by omega);rw[Nat.add_mul]at this;omega
    have lk:(a.eval v).cells.toList.length=n:=by simpa using tj
    have cq:=Ek (P:=C.P) (t:=t) (o:=i*sz+j) hn hb tj (by omega) gB.one;have fY:(bu cur.toList (i*sz+j) (a.eval v).cells.toList).length=cur.toList.length:=mR (by simp;omega);have cR:cN (bn σ.h (eU σ.h ids) id) (.sl e0 sz .ow (es.set i (bu el j ds))):=by rw[zq];exact⟨rfl,rfl,by simp,.refl _⟩
    have cu:(bn σ.h (eU σ.h ids) id).own=true:=by rw[zq];rfl
    have fF:∀ g,(bn σ.h (eU σ.h ids) id).gen=some g->(aQ.sl e0 sz .ow (es.set i (bu el j ds))).gen≠some g:=λg h=>by rw[zq]at h;cases h
    have El:(ι.loose ids) id=some bk:=hi;have m7:(ι.loose ids).o id=0:=eS;obtain⟨hF,hg,_⟩:=zo S1 El hb (new:=(bu cur.toList (i*sz+j) (a.eval v).cells.toList).toArray) (by simpa using fY) cR cu fF;have SA:Sat C U' ⟨σ.t,bI (bn σ.h (eU σ.h ids)) id (.sl e0 sz .ow (es.set i (bu el j ds))),σ.nx⟩ a (w.setRow bk (bu cur.toList (i*sz+j) (a.eval v).cells.toList).toArray) (ι.loose ids):=by
     refine S1.setRow bN El hb (by simpa using fY) cR cu fF (λe sz g t H es h=>by have h:bn σ.h (eU σ.h ids) id=_:=h;rw[zq]at h;cases h) ?_;have ly:(bu el j ds).length=el.length:=mR (by have:=d8.1;omega);refine .sl bk e0 e0 sz .ow _ _ hz El (setRow_heap w bk cur _ e0 (0,0) hb) (λ_=>⟨rfl,m7,cap,by rw[List.size_toArray,fY];simpa using hC,by simpa using jF,qk⟩) (by rw[m7,List.size_toArray,fY,show cur.toList.length=cap*sz by simpa using hC];simp only[List.length_set,Nat.zero_add];exact Nat.mul_le_mul_right _ jF) (by simpa using cX) (λx hx=>?_) (λp q x d hx dD=>?_)
     ·rcases List.mem_or_eq_of_mem_set hx with hx | rfl
      ·exact bV x hx
      ·rw[ly,mN]
     ·have la:=J4 (l:=cur.toList) (xs:=(a.eval v).cells.toList) (j:=i*sz+j) (by simp;omega) (p*sz+q);rw[m7,Nat.zero_add,List.getElem?_toArray,la];by_cases tk:p=i
      ·subst tk;rw[List.getElem?_set_self jy]at hx
       cases hx;have g7:=J4 (l:=el) (xs:=ds) (j:=j) (by have:=d8.1;omega) q;rw[g7]at dD;have hdn:ds.length=n:=by rw[d8.1,hlen]
       by_cases e1:q<j
       ·rw[if_pos e1]at dD;rw[if_pos (by omega)];obtain⟨u,h3,h4⟩:=dS p q el d cU dD;exact⟨u,by simpa using h3,(Rd.mono (λb hb=>⟨ql b hb,rfl⟩) h4).mono hF⟩
       ·rw[if_neg e1]at dD;by_cases e2:q<j+ds.length
        ·rw[if_pos e2]at dD;rw[if_neg (by omega),if_pos (by omega)];have ou:q-j<(aW.ev σ.t v').cells.length:=by omega
         obtain⟨d',h5,h6⟩:=d8.2 (q-j) _ (List.getElem?_eq_getElem ou);rw[dD]at h5
         cases h5;have vv:q-j<(a.eval v).cells.size:=by omega
         have jm:=gB.vr (q-j) _ _ (Array.getElem?_eq_getElem vv) (List.getElem?_eq_getElem ou);have mO:=AV.jB S ql jm h6 (λb8 b' iw Em=>vA b8 b' (by rw[<- ia];exact Ef (List.getElem?_eq_getElem ou) iw) Em) (λb8 b' p' iw ez=>vB b8 b' p' (by rw[<- ia];exact Ef (List.getElem?_eq_getElem ou) iw) ez);refine⟨(a.eval v).cells[q-j],?_,mO.mono hF⟩;rw[show p*sz+q-(p*sz+j)=q-j by omega];simp[vv]
        ·rw[if_neg e2]at dD;rw[if_neg (by omega),if_neg (by omega)];obtain⟨u,h3,h4⟩:=dS p q el d cU dD;exact⟨u,by simpa using h3,(Rd.mono (λb hb=>⟨ql b hb,rfl⟩) h4).mono hF⟩
      ·rw[List.getElem?_set_ne (λe=>tk e.symm)]at hx;obtain⟨u,h3,h4⟩:=dS p q x d hx dD;have hq:q<sz:=by rw[<- bV x (List.mem_of_getElem? hx)];exact(List.getElem?_eq_some_iff.1 dD).1
       refine⟨u,?_,(Rd.mono (λb hb=>⟨ql b hb,rfl⟩) h4).mono hF⟩;by_cases aU:p<i
       ·have:(p+1)*sz<=i*sz:=Nat.mul_le_mul_right _ aU;rw[Nat.add_mul]at this;rw[if_pos (by omega)];simpa using h3
       ·have:(i+1)*sz<=p*sz:=Nat.mul_le_mul_right _ (by omega);rw[Nat.add_mul]at this;rw[if_neg (by omega),if_neg (by omega)];simpa using h3
    refine D7 (σ:=σ) hd ?_ SA ?_
    ·simp only[execOp,ho,cw,Sem.run_bind,cq,Result.andThen_ok,Sem.run_pure]
    ·funext k
     simp only[bn];rw[Yx];by_cases hk:k=id
     ·subst hk;rw[if_neg dt,QN,QN]
     ·rw[QI _ _ _ _ hk,QI _ _ _ _ hk,Yx]
 ·rename_i et sz g0 t0 es hh
  split at he
  rotate_left
  ·cases he
  rename_i el cU
  split at he
  rotate_left
  ·cases he
  rename_i ds cp
  split at he
  rotate_left
  ·cases he
  rename_i vy;obtain⟨zp,qm,En⟩:=vy
  cases he
  cases h1 with
  | cT v _ _ _ _ eQ=>rw[eQ]at hh;cases hh
  | p _ _ _ bk hi mj dV =>
   rw[hh]at dr cw;simp only[aQ.sz]at cw
   cases dr with
   | slnil=>simp at cU
   | sl ml _ e0 _ _ _ cur hz bY hb eO hle cX bV dS =>
    rw[hi]at bY;cases bY;obtain⟨L,hL⟩:∃ L,L=gK i j (aW.ev σ.t v').cells:=⟨_,rfl⟩
    have tg:L.map (λx=>x.2.2)=(aW.ev σ.t v').dc:=by rw[hL,D8,Eg iO]
    obtain⟨H,hH⟩:∃ H:cE,H=L.map (λx=>(x.1,x.2.1))++[]:=⟨_,rfl⟩
    have jy:i<es.length:=(List.getElem?_eq_some_iff.1 cU).1;have mN:el.length=sz:=bV el (List.mem_of_getElem? cU);have d8:=AV.dX cp;have hdn:ds.length=n:=by rw[d8.1,hlen]
    have oo:ι.o id+i*sz+j+n<=cur.size:=by
     have:(i+1)*sz<=es.length*sz:=Nat.mul_le_mul_right _ (by omega);rw[Nat.add_mul]at this;omega
    have lk:(a.eval v).cells.toList.length=n:=by simpa using tj
    have cq:=Ek (P:=C.P) (t:=t) (o:=ι.o id+i*sz+j) hn hb tj (by omega) gB.one;have fY:(bu cur.toList (ι.o id+i*sz+j) (a.eval v).cells.toList).length=cur.toList.length:=mR (by simp;omega);have ly:(bu el j ds).length=el.length:=mR (by omega);obtain⟨f6,lz⟩:∃ f6,f6=es.set i (bu el j ds):=⟨_,rfl⟩
    have ov:f6[i]? = some (bu el j ds):=by rw[lz];exact List.getElem?_set_self jy
    have j0:f6.length=es.length:=by rw[lz];simp
    obtain⟨new,gp⟩:∃ new,new=(bu cur.toList (ι.o id+i*sz+j) (a.eval v).cells.toList).toArray:=⟨_,rfl⟩
    have lA:new.size=cur.size:=by rw[gp,List.size_toArray,fY];simp
    have cR:cN (σ.h id) (.sl et sz (.dp (g0+1) t0 H) f6):=by rw[hh];exact⟨rfl,rfl,j0,⟨λh=>h,λg' h=>⟨g0,rfl,by cases h;omega⟩⟩⟩
    have cu:(σ.h id).own=true:=by rw[hh];rfl
    have fF:∀ g,(σ.h id).gen=some g->(aQ.sl et sz (.dp (g0+1) t0 H) f6).gen≠some g:=λg h h'=>by rw[hh]at h;cases h;simp[aQ.gen,Mo.gen]at h'
    obtain⟨hF,hg,_,gi⟩:=zo S hi hb (new:=new) lA cR cu fF;have la:=J4 (l:=cur.toList) (xs:=(a.eval v).cells.toList) (j:=ι.o id+i*sz+j) (by simp;omega);have g7:=J4 (l:=el) (xs:=ds) (j:=j) (by omega);have lB:∀(k:Nat)(y:AV),(aW.ev σ.t v').cells[k]? = some y->∃ u d,new[ι.o id+i*sz+(j+k)]? = some u/\(bu el j ds)[j+k]? = some d/\VR w (Fz C w ι σ.h) ι σ.h u y/\y.d σ.h=some d:=by
     intro k y hy;have hk:k<n:=by rw[<- hlen];exact(List.getElem?_eq_some_iff.1 hy).1
     obtain⟨d,h5,h6⟩:=d8.2 k y hy;have Pm:k<(a.eval v).cells.size:=by omega
     refine⟨(a.eval v).cells[k],d,?_,?_,gB.vr k _ y (Array.getElem?_eq_getElem Pm) hy,h6⟩
     ·rw[gp,List.getElem?_toArray,la,if_neg (by omega),if_pos (by omega),show ι.o id+i*sz+(j+k)-(ι.o id+i*sz+j)=k by omega];simp[Pm]
     ·rw[g7,if_neg (by omega),if_pos (by omega),show j+k-j=k by omega];exact h5
    have SA:Sat C U' ⟨σ.t,bI σ.h id (.sl et sz (.dp (g0+1) t0 H) f6),σ.nx⟩ a (w.setRow bk new) ι:=by
     refine S.setRow bN hi hb lA cR cu fF (λe sz g t H es h=>⟨_,_,_,_,_,_,rfl⟩) ?_;refine .sl bk et e0 sz _ f6 new hz hi (setRow_heap w bk cur _ e0 (0,0) hb) (λh=>?_) (by rw[lA,j0];exact hle) (by rw[j0];exact cX) (λx hx=>?_) (λp q x d hx dD=>?_)
     ·obtain⟨h1,h2,cap,h3,h4,h5⟩:=eO h;exact⟨h1,h2,cap,by rw[lA];exact h3,by rw[j0];exact h4,h5⟩
     ·rw[lz]at hx
      rcases List.mem_or_eq_of_mem_set hx with hx | rfl
      ·exact bV x hx
      ·rw[ly,mN]
     ·have ta:∀(y:List D),es[p]? = some y->y[q]? = some d->(p≠i\/q<j\/j+n<=q)->∃ v,new[ι.o id+p*sz+q]? = some v/\RM (w.setRow bk new) (Fz C (w.setRow bk new) ι (bI σ.h id (.sl et sz (.dp (g0+1) t0 H) f6))) ι id (.dp (g0+1) t0 H) p q v d:=by
       intro y hy zr mU;have hq:q<sz:=by rw[<- bV y (List.mem_of_getElem? hy)];exact(List.getElem?_eq_some_iff.1 zr).1
       obtain⟨u,h3,h4,h5⟩:=dS p q y d hy zr;refine⟨u,?_,h4,λ_=>(h5 (by simp)).mono (gi id)⟩;rw[gp,List.getElem?_toArray,la];by_cases aU:p<i
       ·have:(p+1)*sz<=i*sz:=Nat.mul_le_mul_right _ aU;rw[Nat.add_mul]at this;rw[if_pos (by omega)];simpa using h3
       ·by_cases hgt:i<p
        ·have:(i+1)*sz<=p*sz:=Nat.mul_le_mul_right _ (by omega);rw[Nat.add_mul]at this;rw[if_neg (by omega),if_neg (by omega)];simpa using h3
        ·have:p=i:=by omega
         subst this
         rcases mU with h | h | h
         ·exact absurd rfl h
         ·rw[if_pos (by omega)];simpa using h3
         ·rw[if_neg (by omega),if_neg (by omega)];simpa using h3
      by_cases tk:p=i
      ·subst tk;rw[ov]at hx
       cases hx;by_cases e1:q<j
       ·rw[g7,if_pos e1]at dD;exact ta el cU dD (.inr (.inl e1))
       ·by_cases e2:q<j+n
        ·obtain⟨y,hy⟩:∃ y,(aW.ev σ.t v').cells[q-j]? = some y:=⟨_,List.getElem?_eq_getElem (by omega)⟩
         obtain⟨u,d2,k1,k2,k3,k4⟩:=lB (q-j) y hy;have Eo:j+(q-j)=q:=by omega
         rw[Eo]at k1 k2;rw[dD]at k2
         cases k2;have ec:=qh qm hy;rw[Eo]at ec;refine⟨u,k1,?_⟩
         cases y with
         | c d0 =>
          cases d0 with
          | v uu =>
           simp only[AV.d,Option.some.injEq]at k4;subst k4
           cases k3 with | c _ _ hr=>exact .pl (hr.mono hF) (λ_=>rfl)
          | sl=>simp[AV.eH]at ec
         | n k9 =>
          simp only[AV.d,Option.some.injEq]at k4;subst k4
          cases k3 with | n=>exact⟨rfl,λ_=>.nil _ _⟩
         | r k9 b8 off len =>
          refine⟨k3.one rfl,λdt=>absurd ?_ dt⟩;rw[hH,hL,List.append_nil];have:=D9 (i:=p) (j:=j) hy;rw[Eo]at this;exact List.mem_map.2 ⟨(p,q,b8),this,rfl⟩
         | b d0 b8 g' pt =>
          simp only[AV.eH,Bool.and_eq_true,decide_eq_true_eq]at ec;obtain⟨⟨m1,m2⟩,m3⟩:=ec;have m1:=Nat.eq_of_beq_eq_true m1;have m2:=Nat.eq_of_beq_eq_true m2;subst m1;subst m2;subst m3;simp only[AV.d,hh,aQ.dq,if_true,Option.some.injEq]at k4;subst k4;have jx:=(k3.ze (by rw[hh];rfl)).1;exact⟨jx.one,λ_=>jx.mono (gi b8)⟩
         | _=>simp[AV.eH]at ec
        ·rw[g7,if_neg e1,if_neg (by omega)]at dD;exact ta el cU dD (.inr (.inr (by omega)))
      ·rw[lz,List.getElem?_set_ne (λe=>tk e.symm)]at hx;exact ta x hx dD (.inl tk)
    obtain⟨ι',h',q1,q2,q3,q4,q5,q6⟩:=Sat.jC L SA (by rw[<- hH];exact QN _ _ _) (by rw[tg];exact En) (λi' j' n' ti=>by
     rw[hL]at ti;obtain⟨rfl,k,k9,off,len,rfl,hy⟩:=zk ti;have ec:=qh qm hy;simp only[AV.eH,Bool.and_eq_true,Bool.not_eq_true']at ec;have kv:n'≠id:=λh=>by subst h;simp at ec
     obtain⟨e',ba,g',t',bP,mo⟩:=Pd ec.2;obtain⟨u,d2,k1,k2,k3,k4⟩:=lB k _ hy;simp only[AV.d,mo]at k4;simp only[Mo.full,if_true,Option.some.injEq]at k4;have lv:k9=ba:=by
      cases k3 with
      | cz _ _ _ _ _ _ hd=>rw[hd]at mo;cases mo
      | cM _ _ _ _ _ ca=>rw[ca]at mo;cases mo;rfl
      | df _ _ _ _ _ _ _ ca=>rw[ca]at mo;cases mo;rfl
      | r _ _ _ _ _ _ _ _ _ _ _ ca=>rw[ca]at mo;cases mo;rfl
     subst lv;refine⟨kv,u,k9,off,len,e',g',t',bP,bu el j ds,?_,⟨bk,new,e0,hi,setRow_heap w bk cur _ e0 (0,0) hb,k1⟩,k3.mono hF hg,ov,by rw[k2,k4]⟩;show bI σ.h id _ n'=_;rw[QI _ _ _ _ kv];exact mo)
    refine D7 (σ:=σ) hd ?_ q1 ?_
    ·rw[gp];simp only[execOp,ho,cw,Sem.run_bind,cq,Result.andThen_ok,Sem.run_pure]
    ·rw[q2];funext k
     simp only[bn];rw[Ea,<- tg];by_cases hk:k=id
     ·subst hk;have:k∉L.map λx=>x.2.2:=by
       intro hk;obtain⟨⟨i',j',n'⟩,qj,mS⟩:=List.mem_map.1 hk;simp only at mS;subst mS;rw[hL]at qj;obtain⟨rfl,q,k9,off,len,rfl,hq⟩:=zk qj;have ec:=qh qm hq;simp[AV.eH]at ec
      rw[if_neg this,QN,if_pos rfl,lz]
     ·rw[QI _ _ _ _ hk,if_neg hk];show _=if k∈L.map (λx=>x.2.2) then aQ.dead else bI σ.h id _ k;rw[QI _ _ _ _ hk]
 ·cases he
end
end Go.Proofs.YtdplaepmjogjjaaGreat.Am
namespace Go.Proofs.YtdplaepmjogjjaaGreat.Am
open Go Go.RowKit
section
variable {C:Ctx} {U U':Nat->Prop} {σ:St} {a:Act} {w w':World} {ι:Io}
def YP(σ:St)(b id:Nat):Prop:=id=b\/(∃ e sz m es,σ.h id = .sl e sz m es)/\(σ.h id).own=true
structure ky(ι:Io)(K':Nat->Option (Nat × cE))(id idx b:Nat)(B:aQ):Prop where
 k1:∀ k y p,ι.k k=some (y,p)->y≠id->y≠idx->K' k=some (y,p)
 k2:∀ k y p,K' k=some (y,p)->(ι.k k=some (y,p)/\y≠id/\y≠idx)\/(y=b/\p≠[]/\(∃ z q,ι.k k=some (z,q))/\∃ e sz g t H es,B = .sl e sz (.dp g t H) es)
def Io.over(ι:Io)(K':Nat->Option (Nat × cE))(id idx b:Nat)(g:Option Nat):Io:=⟨bI (bI (bI ι.b id none) idx none) b g,K',bI ι.o b 0⟩
def YU(h:Nat->aQ)(id idx b:Nat)(B:aQ):Nat->aQ:=bI (bI (bI h id .dead) idx .dead) b B
theorem Io.dA{ι:Io}{K':Nat->Option (Nat × cE)}{id idx b:Nat}{g:Option Nat}:(ι.over K' id idx b g) b=g:=QN _ _ _
theorem Io.j1{ι:Io}{K':Nat->Option (Nat × cE)}{id idx b y:Nat}{g:Option Nat}(h1:y≠b)(h2:y≠id)(h3:y≠idx):(ι.over K' id idx b g) y=ι y:=by
 show bI _ _ _ _=_;rw[QI _ _ _ _ h1,QI _ _ _ _ h3,QI _ _ _ _ h2]
theorem Io.dB{ι:Io}{K':Nat->Option (Nat × cE)}{id idx b y k:Nat}{g:Option Nat}(h1:y≠b)(h:(ι.over K' id idx b g) y=some k):y≠id/\y≠idx/\ι y=some k:=by
 have h:bI (bI (bI ι.b id none) idx none) b g y=some k:=h;rw[QI _ _ _ _ h1]at h;by_cases h2:y=idx
 ·subst h2;rw[QN]at h;cases h
 ·rw[QI _ _ _ _ h2]at h;by_cases h3:y=id
  ·subst h3;rw[QN]at h;cases h
  ·rw[QI _ _ _ _ h3]at h;exact⟨h3,h2,h⟩
theorem Y2{h:Nat->aQ}{id idx b:Nat}{B:aQ}:YU h id idx b B b=B:=QN _ _ _
theorem YT{h:Nat->aQ}{id idx b y:Nat}{B:aQ}(h1:y≠b)(h2:y≠id)(h3:y≠idx):YU h id idx b B y=h y:=by
 unfold YU;rw[QI _ _ _ _ h1,QI _ _ _ _ h3,QI _ _ _ _ h2]
theorem qn{h:Nat->aQ}{id idx b y:Nat}{B:aQ}(h1:y≠b)(h2:y=id\/y=idx):YU h id idx b B y = .dead:=by
 unfold YU;rw[QI _ _ _ _ h1];by_cases h3:y=idx
 ·subst h3;rw[QN]
 ·rw[QI _ _ _ _ h3]
  rcases h2 with rfl | h2
  ·rw[QN]
  ·exact absurd h2 h3
theorem zt(S:Sat C U σ a w ι){id idx b:Nat}(hb:U b)(a8:YP σ b id)(eD:YP σ b idx){B:aQ}{K':Nat->Option (Nat × cE)}(hK:ky ι K' id idx b B)(bV:w.heap.size<=w'.heap.size)
  (hold:∀ k,k<w.heap.size->ι id≠some k->w'.heap[k]? = w.heap[k]?) {g:Option Nat} (hg:∀ k,g=some k->C.fr k/\k<w'.heap.size/\(w.heap.size<=k\/ι id=some k)) :
  (∀ k,Fz C w ι σ.h k->Fz C w' (ι.over K' id idx b g) (YU σ.h id idx b B) k/\w'.heap[k]? = w.heap[k]?)/\
  (∀ i,cZ w w' ι (ι.over K' id idx b g) σ.h (YU σ.h id idx b B) i)/\(∀ i,i≠b->i≠id->i≠idx->Rest w w' ι (ι.over K' id idx b g) i):=by
 have dt:∀ y,YP σ b y->∀ k,Fz C w ι σ.h k->ι y≠some k:=by
  intro y hy k hk kx
  rcases hy with rfl | ⟨_,cu⟩
  ·rw[(S.fresh _ hb).2]at kx;cases kx
  ·have:=hk.2.2.1 y kx;rw[cu]at this
   cases this
 have f7:∀ k y p,ι.k k=some (y,p)->w'.heap[k]? = w.heap[k]?:=λk y p hk=>hold k (S.dg k y p hk).lt ((S.dg k y p hk).ne id);have bU:∀ i,i≠b->i≠id->i≠idx->Rest w w' ι (ι.over K' id idx b g) i:=λi h1 h2 h3 =>
  ⟨Io.j1 h1 h2 h3,QI _ _ _ _ h1,λk hk=>hold k (S.eh i k hk).2 (λe=>h2 (S.inj i id k hk e)),λk p hk=>⟨hK.k1 k i p hk h2 h3,f7 k i p hk⟩⟩
 refine⟨λk hk=>⟨⟨by have:=hk.1;omega,hk.2.1,λi kx=>?_,?_⟩,hold k hk.1 (dt id a8 k hk)⟩,λi=>?_,bU⟩
 ·by_cases h1:i=b
  ·subst h1;rw[Io.dA]at kx;obtain⟨_,_,h3⟩:=hg k kx
   rcases h3 with h3 | h3
   ·have:=hk.1;omega
   ·exact absurd h3 (dt id a8 k hk)
  ·obtain⟨h2,h3,h4⟩:=Io.dB h1 kx;rw[YT h1 h2 h3];exact hk.2.2.1 i h4
 ·show K' k=none
  cases hx:K' k with
  | none=>rfl
  | some z =>
   obtain⟨y,p⟩:=z
   rcases hK.k2 k y p hx with⟨h1,_⟩ | ⟨_,_,⟨z,q,h1⟩,_⟩
   ·rw[hk.2.2.2]at h1;cases h1
   ·rw[hk.2.2.2]at h1;cases h1
 ·by_cases h1:i=b
  ·subst h1;exact .inl (S.fresh i hb).1
  ·by_cases h2:i=id\/i=idx
   ·exact .inr (.inl (qn h1 h2))
   ·simp only[not_or]at h2;exact(bU i h1 h2.1 h2.2).gE (YT h1 h2.1 h2.2)
theorem Sat.j2(S:Sat C U σ a w ι){id idx b:Nat}(hb:U b)(bN:∀ i,U' i->U i/\i≠b)(a8:YP σ b id)(eD:YP σ b idx){B:aQ}{K':Nat->Option (Nat × cE)}(hK:ky ι K' id idx b B)(ju:km C w')(bV:w.heap.size<=w'.heap.size)
  (hold:∀ k,k<w.heap.size->ι id≠some k->w'.heap[k]? = w.heap[k]?) {g:Option Nat} (hg:∀ k,g=some k->C.fr k/\k<w'.heap.size/\(w.heap.size<=k\/ι id=some k)) (hB:B≠.none/\B≠.dead)
  (qg:BR w' (Fz C w' (ι.over K' id idx b g) (YU σ.h id idx b B)) (ι.over K' id idx b g) (YU σ.h id idx b B) b B) :
  Sat C U' ⟨σ.t,YU σ.h id idx b B,σ.nx⟩ a w' (ι.over K' id idx b g):=by
 obtain⟨hF,iY,bU⟩:=zt S hb a8 eD hK bV hold hg;have kv:∀ y,YP σ b y->y≠b->∃ e sz m es,σ.h y = .sl e sz m es:=λy hy h=>hy.elim (λe=>absurd e h) (λh=>h.1);have iZ:∀ i k,i≠b->(ι.over K' id idx b g) i=some k->g≠some k:=by
  intro i k h1 hi hgk;obtain⟨h2,_,h3⟩:=Io.dB h1 hi;obtain⟨_,_,h4⟩:=hg k hgk
  rcases h4 with h4 | h4
  ·have:=(S.eh i k h3).2;omega
  ·exact h2 (S.inj i id k h3 h4)
 refine S.ej ju hF iY (λi cs hx=>by
  by_cases h:i=b
  ·subst h;rw[Y2];exact hB.2
  ·by_cases h2:i=id\/i=idx
   ·rcases h2 with rfl | rfl
    ·obtain⟨e,sz,m,es,h3⟩:=kv _ a8 h;rw[hx]at h3;cases h3
    ·obtain⟨e,sz,m,es,h3⟩:=kv _ eD h;rw[hx]at h3;cases h3
   ·simp only[not_or]at h2;rw[YT h h2.1 h2.2,hx];simp) (λi=>?_) (λi j k hi hj=>?_) (λi k hi=>?_) (λi hi=>?_) (λi k hi=>?_) (λk i p hk=>?_)
 ·by_cases h1:i=b
  ·subst h1;right;rw[Y2];exact qg
  ·by_cases h2:i=id\/i=idx
   ·right;rw[qn h1 h2];exact .dead
   ·simp only[not_or]at h2;left;exact⟨YT h1 h2.1 h2.2,bU i h1 h2.1 h2.2⟩
 ·by_cases h1:i=b
  ·by_cases h2:j=b
   ·rw[h1,h2]
   ·subst h1;rw[Io.dA]at hi;exact absurd hi (iZ j k h2 hj)
  ·by_cases h2:j=b
   ·subst h2;rw[Io.dA]at hj;exact absurd hj (iZ i k h1 hi)
   ·exact S.inj i j k (Io.dB h1 hi).2.2 (Io.dB h2 hj).2.2
 ·by_cases h1:i=b
  ·subst h1;rw[Io.dA]at hi;obtain⟨h2,h3,_⟩:=hg k hi;exact⟨.inl h2,h3⟩
  ·obtain⟨h2,h3,h4⟩:=Io.dB h1 hi;rw[YT h1 h2 h3];obtain⟨h5,h6⟩:=S.eh i k h4;exact⟨h5,by omega⟩
 ·obtain⟨h1,h2⟩:=bN i hi;have h3:=S.fresh i h1;have h4:∀ y,YP σ b y->i≠y:=by
   rintro y hy rfl
   obtain⟨e,sz,m,es,h5⟩:=kv _ hy h2;rw[h3.1]at h5;cases h5
  rw[YT h2 (h4 id a8) (h4 idx eD),Io.j1 h2 (h4 id a8) (h4 idx eD)];exact h3
 ·by_cases h1:i=b
  ·subst h1;rw[Y2];exact hB
  ·obtain⟨h2,h3,h4⟩:=Io.dB h1 hi;rw[YT h1 h2 h3];exact S.live i k h4
 ·have fk:K' k=some (i,p):=hk;have dN:∀ L:(∀ z,ι z≠some k),∀ aU:k<w.heap.size,∀ z,(ι.over K' id idx b g) z≠some k:=λL aU z hz=>by
   by_cases h1:z=b
   ·subst h1;rw[Io.dA]at hz;obtain⟨_,_,h4⟩:=hg k hz
    rcases h4 with h4 | h4
    ·omega
    ·exact L id h4
   ·exact L z (Io.dB h1 hz).2.2
  rcases hK.k2 k i p fk with⟨h1,h2,h3⟩ | ⟨rfl,h2,⟨z,q,h1⟩,h3⟩
  ·have L:=S.dg k i p h1;have h4:i≠b:=λh=>by subst h;obtain⟨_,_,_,_,_,_,h9⟩:=L.dp;rw[(S.fresh i hb).1]at h9;cases h9
   exact⟨L.pn,by rw[YT h4 h2 h3];exact L.dp,L.fr,by have:=L.lt;omega,dN L.ne L.lt⟩
  ·have L:=S.dg k z q h1;exact⟨h2,by rw[Y2];exact h3,L.fr,by have:=L.lt;omega,dN L.ne L.lt⟩
structure Src(w:World)(R:Nat->Nat->Value->D->Prop)(sz:Nat)(u:Value)(xs:List (List D))(news:List Value):Prop where
 len:news.length=xs.length*sz
 val:(u = .slice none 0 0/\xs=[])\/∃ ad cap,u = .slice (some ad) xs.length cap/\∀ j v,news[j]? = some v->w.cell? (ad.add j)=some v
 one:∀ v,v∈news->v.oneCell'=true
 Pn:∀ e,e∈xs->e.length=sz
 rd:∀(p q:Nat)(el:List D)(d:D),xs[p]? = some el->el[q]? = some d->∃ v,news[p*sz+q]? = some v/\R p q v d
def ix(w:World)(F:Nat->Prop)(ι:Io)(h:Nat->aQ):AV->Nat->Nat->Value->D->Prop
 | .r _ id off _,p,q,v,d=>match h id with
  | .sl _ _ (.dp _ _ _) _=>RL w ι.k id [(off+p,q)] v d
  | _=>Rd w F v d
 | .b _ id _ pt,p,q,v,d=>RL w ι.k id (pt++[(p,q)]) v d
 | _,_,_,v,d=>Rd w F v d
theorem RL.m8{w:World}{K:Nat->Option (Nat × cE)}{id:Nat}{p:cE}{v:Value}{d:D}{F:Nat->Prop}(h:RL w K id p v d)(hd:d.pl=true):Rd w F v d:=by
 cases h with
 | v _ x h=>exact .v _ h
 | nil=>exact .nil _
 | emp=>exact .emp _ _ _
 | sl _ b o len cap sz es cur e0 x hz dN =>
  cases es with
  | nil=>exact absurd rfl dN
  | cons=>simp[D.pl]at hd
theorem QSR{w:World}{F:Nat->Prop}{ι:Io}{h:Nat->aQ}{x:AV}{p q:Nat}{v:Value}{d:D}(hr:ix w F ι h x p q v d):v.oneCell'=true:=by
 unfold ix at hr
 split at hr
 ·split at hr
  ·exact RL.one hr
  ·exact Rd.one hr
 ·exact RL.one hr
 ·exact Rd.one hr
theorem Ep{xs:List (List D)}(h:mK xs=true){p q:Nat}{el:List D}{d:D}(hp:xs[p]? = some el)(hq:el[q]? = some d):d.pl=true :=
 List.all_eq_true.1 (List.all_eq_true.1 h el (List.mem_of_getElem? hp)) d (List.mem_of_getElem? hq)
theorem Er{w:World}{F:Nat->Prop}{ι:Io}{h:Nat->aQ}{x:AV}{xs:List (List D)}(cI:x.iT h xs=true){p q:Nat}{el:List D}{v:Value}{d:D}(hp:xs[p]? = some el)(hq:el[q]? = some d)(hr:ix w F ι h x p q v d):Rd w F v d:=by
 unfold ix at hr
 split at hr
 ·rename_i sz id off len;simp only[AV.iT]at cI
  split at hr
  ·rename_i hh;rw[hh]at cI;exact RL.m8 hr (Ep cI hp hq)
  ·exact hr
 ·simp only[AV.iT]at cI;exact RL.m8 hr (Ep cI hp hq)
 ·exact hr
theorem Po{p q sz:Nat}(hq:q<sz):(p*sz+q) / sz=p/\(p*sz+q) % sz=q:=by
 have h:0<sz:=by omega
 rw[Nat.mul_comm];constructor
 ·rw[Nat.mul_add_div h,Nat.div_eq_of_lt hq,Nat.add_zero]
 ·rw[Nat.mul_add_mod,Nat.mod_eq_of_lt hq]
theorem QLK(S:Sat C U σ a w ι){u:Value}{x:AV}{sz:Nat}{xs:List (List D)}(h0:0<sz)(hv:VR w (Fz C w ι σ.h) ι σ.h u x)(hx:x.fp σ.h sz=some xs) :
  ∃ news,Src w (ix w (Fz C w ι σ.h) ι σ.h x) sz u xs news:=by
 cases hv with
 | u=>simp[AV.fp]at hx
 | c v d hr =>
  cases hr with
  | v=>simp[AV.fp]at hx
  | nil ba =>
   simp only[AV.fp]at hx
   split at hx
   ·cases hx;exact⟨[],by simp,.inl ⟨rfl,rfl⟩,by simp,by simp,by simp⟩
   ·cases hx
  | emp ad cap ba =>
   simp only[AV.fp]at hx
   split at hx
   ·cases hx;exact⟨[],by simp,.inr ⟨ad,cap,rfl,by simp⟩,by simp,by simp,by simp⟩
   ·cases hx
  | sl bk of len cap ba es xv hlen ck cX dQ hb hc hr =>
   simp only[AV.fp]at hx
   split at hx
   ·rename_i hs;simp only[Option.some.injEq]at hx;subst hx;subst hs;subst hlen;have vC:∀ k,k<es.length*ba->∃ el d,es[k / ba]? = some el/\el[k % ba]? = some d:=by
     intro k hk;have h1:k / ba<es.length:=Nat.div_lt_of_lt_mul (by rw[Nat.mul_comm];exact hk);have h2:k % ba<es[k / ba].length:=by rw[dQ _ (List.getElem_mem h1)];exact Nat.mod_lt _ h0
     exact⟨es[k / ba],_,List.getElem?_eq_getElem h1,List.getElem?_eq_getElem h2⟩
    have hg:∀ k v,((List.range (es.length*ba)).map λk=>xv (k / ba) (k % ba))[k]? = some v->k<es.length*ba/\v=xv (k / ba) (k % ba):=by
     intro k v hk;have aU:=(List.getElem?_eq_some_iff.1 hk).1;simp only[List.length_map,List.length_range]at aU;rw[List.getElem?_map,List.getElem?_range aU]at hk;simp at hk;exact⟨aU,hk.symm⟩
    refine⟨(List.range (es.length*ba)).map λk=>xv (k / ba) (k % ba),by simp,.inr ⟨_,cap,rfl,λj v hj=>?_⟩,λv hv=>?_,dQ,λp q el d hp hq=>?_⟩
    ·obtain⟨aU,rfl⟩:=hg j v hj;obtain⟨el,d,h1,h2⟩:=vC j aU;rw[YN];have:=hc _ _ el d h1 h2;rw[show of+j / ba*ba+j % ba=of+j by have:=Nat.div_add_mod' j ba;omega]at this;exact this
    ·obtain⟨k,hk,he⟩:=List.getElem_of_mem hv;obtain⟨aU,rfl⟩:=hg k v (by rw[<- he];exact List.getElem?_eq_getElem hk);obtain⟨el,d,h1,h2⟩:=vC k aU;exact(hr _ _ el d h1 h2).one
    ·have ox:q<ba:=by rw[<- dQ el (List.mem_of_getElem? hp)];exact(List.getElem?_eq_some_iff.1 hq).1
     have gA:=(List.getElem?_eq_some_iff.1 hp).1;have aU:p*ba+q<es.length*ba:=by
      have:(p+1)*ba<=es.length*ba:=Nat.mul_le_mul_right _ gA;rw[Nat.add_mul]at this;omega
     obtain⟨e1,e2⟩:=Po (p:=p) ox;refine⟨xv p q,?_,hr p q el d hp hq⟩;rw[List.getElem?_map,List.getElem?_range aU];simp[e1,e2]
   ·cases hx
 | n=>simp only[AV.fp,Option.some.injEq]at hx;subst hx;exact⟨[],by simp,.inl ⟨rfl,rfl⟩,by simp,by simp,by simp⟩
 | cz _ _ _ _ _ _ eQ=>simp[AV.fp,eQ]at hx
 | cM id e ba m hi hh =>
  simp only[AV.fp,hh]at hx
  split at hx
  ·cases hx;exact⟨[],by simp,.inl ⟨rfl,rfl⟩,by simp,by simp,by simp⟩
  ·cases hx
 | df ad cap id e ba m hi hh ht =>
  simp only[AV.fp,hh]at hx
  split at hx
  ·cases hx;exact⟨[],by simp,.inr ⟨ad,cap,rfl,by simp⟩,by simp,by simp,by simp⟩
  ·cases hx
 | r id off len bk ao cap et ba m es hi hh hlen ck jn cY =>
  simp only[AV.fp,hh]at hx
  split at hx
  rotate_left
  ·cases hx
  rename_i hs;obtain⟨hs,dW⟩:=hs;subst hs
  cases hx;have dr:=S.fi id;rw[hh]at dr;have ku:((es.drop off).take len).length=len:=by simp;omega
  have ln:∀(i:Nat)(el:List D),((es.drop off).take len)[i]? = some el->i<len/\es[off+i]? = some el:=by
   intro i el cU;have hi:=(List.getElem?_eq_some_iff.1 cU).1;rw[List.getElem?_take,if_pos (by omega),List.getElem?_drop]at cU;exact⟨by omega,cU⟩
  cases dr with
  | slnil =>
   simp at hlen;have:len=0:=by omega
   subst this;exact⟨[],by simp,.inr ⟨_,cap,by simp;rfl,by simp⟩,by simp,by simp,by simp⟩
  | sl ml _ e0 _ _ _ cur hz bY fc eO hle cX bV dS =>
   rw[hi]at bY;cases bY;have aiz:ι.o id+off*ba+len*ba<=cur.size:=by
    have:(off+len)*ba<=es.length*ba:=Nat.mul_le_mul_right _ hlen;rw[Nat.add_mul]at this;omega
   have hg:∀ k,k<len*ba->((cur.toList.drop (ι.o id+off*ba)).take (len*ba))[k]? = cur[ι.o id+off*ba+k]?:=λk hk=>by rw[List.getElem?_take,if_pos hk,List.getElem?_drop];simp
   have i0:((cur.toList.drop (ι.o id+off*ba)).take (len*ba)).length=len*ba:=by simp;omega
   refine⟨(cur.toList.drop (ι.o id+off*ba)).take (len*ba),by rw[i0,ku],.inr ⟨_,cap,by rw[ku],λj v hj=>?_⟩,λv hv=>?_,λel cU=>bV el (List.mem_of_mem_drop (List.mem_of_mem_take cU)),λp q el d hp hq=>?_⟩
   ·have mq:j<len*ba:=by rw[<- i0];exact(List.getElem?_eq_some_iff.1 hj).1
    rw[hg j mq]at hj;have:len≠0:=by rintro rfl;simp at mq
    rw[YN,jn this];exact p8 fc hj
   ·obtain⟨k,hk,he⟩:=List.getElem_of_mem hv;rw[i0]at hk;have gq:=hg k hk;rw[List.getElem?_eq_getElem (by rw[i0];exact hk),he]at gq;have h1:k / ba<len:=Nat.div_lt_of_lt_mul (by rw[Nat.mul_comm];exact hk);have fO:off+k / ba<es.length:=by omega
    have h2:k % ba<es[off+k / ba].length:=by rw[bV _ (List.getElem_mem fO)];exact Nat.mod_lt _ h0
    obtain⟨v',h3,h4⟩:=dS _ _ _ _ (List.getElem?_eq_getElem fO) (List.getElem?_eq_getElem h2);rw[show ι.o id+(off+k / ba)*ba+k % ba=ι.o id+off*ba+k by rw[Nat.add_mul];have:=Nat.div_add_mod' k ba;omega,<- gq]at h3
    cases h3;exact h4.one
   ·obtain⟨h3,h4⟩:=ln p el hp;obtain⟨v,h5,h6⟩:=dS _ q el d h4 hq;have ox:q<ba:=by rw[<- bV el (List.mem_of_getElem? h4)];exact(List.getElem?_eq_some_iff.1 hq).1
    refine⟨v,?_,?_⟩;rotate_left
    ·simp only[ix,hh]
     cases m with
     | dp g t H =>
      cases H with
      | nil=>exact h6.2 (by simp)
      | cons=>simp[Mo.full]at dW
     | _=>exact h6
    have aU:p*ba+q<len*ba:=by
     have:(p+1)*ba<=len*ba:=Nat.mul_le_mul_right _ h3;rw[Nat.add_mul]at this;omega
    rw[hg _ aU,<- h5,Nat.add_mul];congr 1
    omega
 | cT=>simp[AV.fp]at hx
 | p=>simp[AV.fp]at hx
 | q=>simp[AV.fp]at hx
 | a=>simp[AV.fp]at hx
 | eJ=>simp[AV.fp]at hx
 | bq=>simp[AV.fp]at hx
 | fo v d id g p h1 hd =>
  cases d with
  | v=>simp[AV.fp]at hx
  | sl ba es=>simp[AV.fp,hd,aQ.dq]at hx
 | b v d id g p e k9 m mr h1 hh iM jm =>
  cases d with
  | v=>simp[AV.fp]at hx
  | sl ba es =>
  simp only[AV.fp]at hx
  split at hx
  rotate_left
  ·cases hx
  rename_i D6;obtain⟨rfl,hg⟩:=D6;simp only[Option.some.injEq]at hx;subst hx;rw[hh]at hg;obtain⟨jx,_⟩:=jm (aQ.eB hg)
  cases jx with
  | nil=>exact⟨[],by simp,.inl ⟨rfl,rfl⟩,by simp,by simp,by simp⟩
  | emp _ ad cap=>exact⟨[],by simp,.inr ⟨ad,cap,rfl,by simp⟩,by simp,by simp,by simp⟩
  | sl _ bk of len cap _ _ cur e0 xv hz dN hlen ck cX dQ hk fc hle hc hr =>
   subst hlen;have vC:∀ k,k<es.length*ba->∃ el d,es[k / ba]? = some el/\el[k % ba]? = some d:=by
    intro k hk;have h1:k / ba<es.length:=Nat.div_lt_of_lt_mul (by rw[Nat.mul_comm];exact hk);have h2:k % ba<es[k / ba].length:=by rw[dQ _ (List.getElem_mem h1)];exact Nat.mod_lt _ h0
    exact⟨es[k / ba],_,List.getElem?_eq_getElem h1,List.getElem?_eq_getElem h2⟩
   have hg:∀ k v,((List.range (es.length*ba)).map λk=>xv (k / ba) (k % ba))[k]? = some v->k<es.length*ba/\v=xv (k / ba) (k % ba):=by
    intro k v hk;have aU:=(List.getElem?_eq_some_iff.1 hk).1;simp only[List.length_map,List.length_range]at aU;rw[List.getElem?_map,List.getElem?_range aU]at hk;simp at hk;exact⟨aU,hk.symm⟩
   refine⟨(List.range (es.length*ba)).map λk=>xv (k / ba) (k % ba),by simp,.inr ⟨_,cap,rfl,λj v hj=>?_⟩,λv hv=>?_,dQ,λp q el d hp hq=>?_⟩
   ·obtain⟨aU,rfl⟩:=hg j v hj;obtain⟨el,d,h1,h2⟩:=vC j aU;rw[YN];have:=hc _ _ el d h1 h2;rw[show of+j / ba*ba+j % ba=of+j by have:=Nat.div_add_mod' j ba;omega]at this;exact p8 fc this
   ·obtain⟨k,hk,he⟩:=List.getElem_of_mem hv;obtain⟨aU,rfl⟩:=hg k v (by rw[<- he];exact List.getElem?_eq_getElem hk);obtain⟨el,d,h1,h2⟩:=vC k aU;exact(hr _ _ el d h1 h2).one
   ·have ox:q<ba:=by rw[<- dQ el (List.mem_of_getElem? hp)];exact(List.getElem?_eq_some_iff.1 hq).1
    have gA:=(List.getElem?_eq_some_iff.1 hp).1;have aU:p*ba+q<es.length*ba:=by
     have:(p+1)*ba<=es.length*ba:=Nat.mul_le_mul_right _ gA;rw[Nat.add_mul]at this;omega
    obtain⟨e1,e2⟩:=Po (p:=p) ox;refine⟨xv p q,?_,hr p q el d hp hq⟩;rw[List.getElem?_map,List.getElem?_range aU];simp[e1,e2]
 | t=>simp[AV.fp]at hx
theorem Es{R T0 T:Nat->Nat->Value->D->Prop}{sz len:Nat}{es xs:List (List D)}{cur new:Array Value}{news:List Value}{u:Value}(hlen:len<=es.length)
  (gm:∀(p q:Nat)(el:List D)(d:D),es[p]? = some el->el[q]? = some d->∃ v,cur[p*sz+q]? = some v/\T0 p q v d) (bV:∀ e,e∈es->e.length=sz) (src:Src w R sz u xs news)
  (hT0:∀ p q v d,p<len->T0 p q v d->T p q v d) (hT:∀ p q el v d,xs[p]? = some el->el[q]? = some d->R p q v d->T (len+p) q v d)
  (h1:∀ k,k<len*sz->new[k]? = cur[k]?) (h2:∀ k,k<xs.length*sz->new[len*sz+k]? = news[k]?) :
  (∀ e,e∈es.take len++xs->e.length=sz)/\∀(p q:Nat)(el:List D)(d:D),(es.take len++xs)[p]? = some el->el[q]? = some d->∃ v,new[p*sz+q]? = some v/\T p q v d:=by
 refine⟨λe he=>?_,λp q el d hp hq=>?_⟩
 ·rcases List.mem_append.1 he with he | he
  ·exact bV e (List.mem_of_mem_take he)
  ·exact src.Pn e he
 ·rw[List.getElem?_append,List.length_take,Nat.min_eq_left hlen]at hp
  split at hp
  ·rename_i aU;rw[List.getElem?_take,if_pos aU]at hp;have ox:q<sz:=by rw[<- bV el (List.mem_of_getElem? hp)];exact(List.getElem?_eq_some_iff.1 hq).1
   obtain⟨v,h3,h4⟩:=gm p q el d hp hq;have:(p+1)*sz<=len*sz:=Nat.mul_le_mul_right _ aU;rw[Nat.add_mul]at this;exact⟨v,by rw[h1 _ (by omega)];exact h3,hT0 p q v d aU h4⟩
  ·rename_i iM;have ox:q<sz:=by rw[<- src.Pn el (List.mem_of_getElem? hp)];exact(List.getElem?_eq_some_iff.1 hq).1
   have gA:=(List.getElem?_eq_some_iff.1 hp).1;obtain⟨v,h3,h4⟩:=src.rd (p-len) q el d hp hq;have h5:(p-len+1)*sz<=xs.length*sz:=Nat.mul_le_mul_right _ gA;have h6:p*sz=len*sz+(p-len)*sz:=by rw[<- Nat.add_mul];congr 1;omega
   rw[Nat.add_mul]at h5;have h7:=hT (p-len) q el v d hp hq h4;rw[show len+(p-len)=p by omega]at h7;refine⟨v,?_,h7⟩;rw[h6,Nat.add_assoc,h2 _ (by omega)];exact h3
structure Take(C:Ctx)(σ:St)(w:World)(ι:Io)(K':Nat->Option (Nat × cE))(b len:Nat)(M M0:Mo)(id:Nat)(R:Nat->Nat->Value->D->Prop)(xs:List (List D)):Prop where
 t0:∀(w':World)(F':Nat->Prop)(ι':Io),ι'.k=K'->(∀ k,Fz C w ι σ.h k->F' k/\w'.heap[k]? = w.heap[k]?)->(∀ k y p,ι.k k=some (y,p)->w'.heap[k]? = w.heap[k]?)->∀ p q v d,p<len->RM w (Fz C w ι σ.h) ι id M0 p q v d->RM w' F' ι' b M p q v d
 t:∀(w':World)(F':Nat->Prop)(ι':Io),ι'.k=K'->(∀ k,Fz C w ι σ.h k->F' k/\w'.heap[k]? = w.heap[k]?)->(∀ k y p,ι.k k=some (y,p)->w'.heap[k]? = w.heap[k]?)->∀ p q el v d,xs[p]? = some el->el[q]? = some d->R p q v d->RM w' F' ι' b M (len+p) q v d
theorem Pp{P:Program}{w:World}{t ty et sz n cap:Nat}{base:Option Addr}(ht:P.underlying t=some (.slice et))(bV:cB P et=some sz)(hc:n<=cap) :
  (Builtin.append_ #[t,t] ty #[.slice base n cap,.slice none 0 0]).run P w = .ok (.slice base n cap) w:=by
 have hr:=λw=>mM bV w
 cases base <;> simp[Builtin.append_,run_underlying ht,hr,Builtin.lenOf,Builtin.firstCells,hc,storeCells]
theorem QOP{P:Program}{w:World}{t ty et sz cap:Nat}{ad:Addr}(ht:P.underlying t=some (.slice et))(bV:cB P et=some sz) :
  (Builtin.append_ #[t,t] ty #[.slice none 0 0,.slice (some ad) 0 cap]).run P w = .ok (.slice none 0 0) w:=by
 have hr:=λw=>mM bV w;simp[Builtin.append_,run_underlying ht,hr,Builtin.lenOf,Builtin.firstCells,loadCells,loadCellsFrom]
end
section
variable {C:Ctx} {U U':Nat->Prop} {σ:St} {a:Act} {w:World} {ι:Io} {o:Oper} {Q:Exit->Act->World->Prop} {Γ:eA} {b:Nat} {e:fj}
variable (S:Sat C U σ a w ι) (hd:∀ d,o.dst=some d->d<C.N) (hb:U b) (bN:∀ i,U' i->U i/\i≠b)
include S hd hb bN
theorem zu{s x:Operand}{t et sz:Nat}{i:TypeInfo}{z:Value}(ho:o.op = .call { callee:=.builtin .append,args:=#[s,x],argTypes:=#[t,t] })(ht:C.P.underlying t=some (.slice et))(hi:C.P.info? et=some i)(hz:i.zero=some z)
  (bV:i.size=sz) (mZ:z.cells.size=sz) (lx:i.bytes<=32768) (h0:0<sz) {id idx:Nat} {M M0:Mo} {K':Nat->Option (Nat × cE)} {R:Nat->Nat->Value->D->Prop} (a8:YP σ b id) (eD:YP σ b idx) (hιn:ι id=none) (hs:a.eval s = .slice none 0 0)
  {xs:List (List D)} {news:List Value} (src:Src w R sz (a.eval x) xs news) (hK:ky ι K' id idx b (.sl et sz M xs)) (hT:Take C σ w ι K' b 0 M M0 id R xs) (fA:xs.length<=cc) {bl:List (Nat × aQ)} (gZ:bn σ.h bl=YU σ.h id idx b (.sl et sz M xs)) :
  o.wp C.P a w (λa' w'=>cA C U' (σ.app o.dst ⟨.r sz b 0 xs.length,bl⟩) a' w') Q:=by
 have lC:xs.length<=4294967296:=fA;have f7:∀ w':World,(∀ k,k<w.heap.size->ι id≠some k->w'.heap[k]? = w.heap[k]?)->∀ k y p,ι.k k=some (y,p)->w'.heap[k]? = w.heap[k]?:=λw' hold k y p hk=>hold k (S.dg k y p hk).lt ((S.dg k y p hk).ne id);by_cases oy:xs=[]
 ·subst oy;have hold:∀ k,k<w.heap.size->ι id≠some k->w.heap[k]? = w.heap[k]?:=λ_ _ _=>rfl;have SA:=S.j2 hb bN a8 eD hK S.dE (Nat.le_refl _) hold (g:=none) (by simp) ⟨by simp,by simp⟩ (.slnil et sz M h0 Io.dA);refine mY (σ:=σ) hd (v:=.slice none 0 0) ?_ SA (.cM b et sz M Io.dA Y2) gZ
  rcases src.val with⟨h1,_⟩ | ⟨ad,cap,h1,_⟩
  ·have:=Pp (P:=C.P) (w:=w) (ty:=o.type) (base:=none) (n:=0) (cap:=0) (sz:=sz) ht (by unfold cB;rw[hi];simp[bV]) (Nat.le_refl 0);simp[execOp,ho,resolve,invoke,builtin,hs,h1,this]
  ·have:=QOP (P:=C.P) (w:=w) (ty:=o.type) (ad:=ad) (cap:=cap) (sz:=sz) ht (by unfold cB;rw[hi];simpa using bV);simp only[List.length_nil]at h1;simp[execOp,ho,resolve,invoke,builtin,hs,h1,this]
 ·rcases src.val with⟨_,h1⟩ | ⟨ad,cap,h1,dj⟩
  ·exact absurd h1 oy
  ·have dk:0<xs.length:=List.length_pos_iff.2 oy;have i0:news.length=xs.length*i.size:=by rw[src.len,bV]
   have gL:xs.length*i.bytes<=281474976710656:=by
    have:=Nat.mul_le_mul lC lx;omega
   have cq:=run_append_nil (P:=C.P) w t o.type et i z ht hi hz ad xs.length cap news i0 dj dk (by omega) gL;have iM:=grownCap_ge w xs.length 0 et;have hle:=grownCap_le_maxLen w xs.length 0 et (by simp[maxLen];omega);generalize grownCap w xs.length 0 et=G at *;have hold:∀ k,k<w.heap.size->ι id≠some k->(w.drew.alloc (.cells (news.toArray++Builtin.zeroCells z.cells (G-xs.length)) et)).heap[k]? = w.heap[k]?:=λk hk _=>Below.heap_alloc w.drew _ k hk;have ju:km C (w.drew.alloc (.cells (news.toArray++Builtin.zeroCells z.cells (G-xs.length)) et)):=by
    have:km C w.drew:=⟨S.dE.os,S.dE.tape,S.dE.output,S.dE.size,S.dE.block⟩
    exact this.alloc _
   have hg:∀ k,some w.heap.size=some k->C.fr k/\k<(w.drew.alloc (.cells (news.toArray++Builtin.zeroCells z.cells (G-xs.length)) et)).heap.size/\(w.heap.size<=k\/ι id=some k):=by
    intro k hk;cases hk;exact⟨.inl S.dE.size,by simp,.inl (Nat.le_refl _)⟩
   obtain⟨hF,iY,_⟩:=zt (w':=w.drew.alloc (.cells (news.toArray++Builtin.zeroCells z.cells (G-xs.length)) et)) S hb a8 eD hK (by simp) hold (g:=some w.heap.size) hg;have lD:(news.toArray++Builtin.zeroCells z.cells (G-xs.length)).size=G*sz:=by
    rw[Array.size_append,size_zeroCells,mZ];simp only[List.size_toArray,src.len];rw[<- Nat.add_mul];congr 1
    omega
   have gp:∀ k,k<xs.length*sz->(news.toArray++Builtin.zeroCells z.cells (G-xs.length))[0*sz+k]? = news[k]?:=by
    intro k hk;rw[Nat.zero_mul,Nat.zero_add,Array.getElem?_append_left (by simpa[src.len]using hk)];simp
   have eS:(ι.over K' id idx b (some w.heap.size)).o b=0:=QN _ _ _;obtain⟨c1,c2⟩:=Es (T0:=λ_ _ _ _=>False) (T:=RM (w.drew.alloc (.cells (news.toArray++Builtin.zeroCells z.cells (G-xs.length)) et)) _ (ι.over K' id idx b (some w.heap.size)) b M) (sz:=sz) (len:=0) (es:=[]) (cur:=#[]) (Nat.zero_le _) (by simp) (by simp) src
    (λp q v d h _=>absurd h (Nat.not_lt_zero _)) (hT.t _ _ (ι.over K' id idx b (some w.heap.size)) rfl hF (f7 _ hold)) (by simp) gp
   have SA:=S.j2 hb bN a8 eD hK ju (by simp) hold hg ⟨by simp,by simp⟩
    (.sl w.heap.size et et sz M xs _ h0 Io.dA (heap_alloc_new w.drew _) (λ_=>⟨rfl,eS,G,lD,by omega,hle⟩) (by rw[eS,lD,Nat.zero_add];exact Nat.mul_le_mul_right _ (by omega)) (by omega) (by simpa using c1)
     (λp q el d hp hq=>by obtain⟨v,k1,k2⟩:=c2 p q el d (by simpa using hp) hq;exact⟨v,by rw[eS,Nat.zero_add];exact k1,k2⟩))
   refine mY (σ:=σ) hd ?_ SA (.r b 0 xs.length w.heap.size 0 G et sz M xs Io.dA Y2 (by omega) (by omega) (λ_=>by rw[eS];simp) (λ_ _=>⟨rfl,?_⟩)) gZ
   ·simp[execOp,ho,resolve,invoke,builtin,hs,h1,cq]
   ·unfold World.shape?;rw[show(w.drew.alloc (.cells (news.toArray++Builtin.zeroCells z.cells (G-xs.length)) et)).heap[w.heap.size]? = some (.cells (news.toArray++Builtin.zeroCells z.cells (G-xs.length)) et) from heap_alloc_new w.drew _];simp[lD]
theorem Pq{s x:Operand}{t et sz:Nat}{i:TypeInfo}{z:Value}(ho:o.op = .call { callee:=.builtin .append,args:=#[s,x],argTypes:=#[t,t] })(ht:C.P.underlying t=some (.slice et))(hi:C.P.info? et=some i)(hz:i.zero=some z)
  (bV:i.size=sz) (mZ:z.cells.size=sz) (lx:i.bytes<=32768) (h0:0<sz) {id idx bk cap len:Nat} {M M0:Mo} {K':Nat->Option (Nat × cE)} {R:Nat->Nat->Value->D->Prop} {es:List (List D)} {cur:Array Value} (hh:σ.h id = .sl et sz M0 es) (Et:M0.own=true) (eD:YP σ b idx) (fc:ι id=some bk) (hs:a.eval s = .slice (some ⟨bk,0,none⟩) len cap)
  (dY:w.heap[bk]? = some (.cells cur et (0,0))) (hC:cur.size=cap*sz) (hle:es.length<=cap) (qk:cap<=maxLen) (dQ:∀ e,e∈es->e.length=sz)
  (gm:∀(p q:Nat)(el:List D)(d:D),es[p]? = some el->el[q]? = some d->∃ v,cur[p*sz+q]? = some v/\RM w (Fz C w ι σ.h) ι id M0 p q v d) (hlen:len<=es.length)
  {xs:List (List D)} {news:List Value} (src:Src w R sz (a.eval x) xs news) (hK:ky ι K' id idx b (.sl et sz M (es.take len++xs))) (hT:Take C σ w ι K' b len M M0 id R xs) (fu:len=es.length\/len+xs.length<=es.length) (fA:len+xs.length<=cc)
  {bl:List (Nat × aQ)} (gZ:bn σ.h bl=YU σ.h id idx b (.sl et sz M (es.take len++xs))) :
  o.wp C.P a w (λa' w'=>cA C U' (σ.app o.dst ⟨.r sz b 0 (len+xs.length),bl⟩) a' w') Q:=by
 have lC:len+xs.length<=4294967296:=fA;have a8:YP σ b id:=.inr ⟨⟨_,_,_,_,hh⟩,by rw[hh];exact Et⟩;have ko:=S.eh id bk fc;have Pr:C.fr bk:=ko.1.elim (λh=>h) λ⟨_,cs,h⟩=>by rw[hh]at h;cases h
 have fP:(es.take len++xs).length=len+xs.length:=by simp;omega
 have f7:∀ w':World,(∀ k,k<w.heap.size->ι id≠some k->w'.heap[k]? = w.heap[k]?)->∀ k y p,ι.k k=some (y,p)->w'.heap[k]? = w.heap[k]?:=λw' hold k y p hk=>hold k (S.dg k y p hk).lt ((S.dg k y p hk).ne id);have eS:∀ g,(ι.over K' id idx b g).o b=0:=λg=>QN _ _ _;have place:∀ new:Array Value,new.size=cur.size->(∀ k,k<len*sz->new[k]? = cur[k]?)->(∀ k,k<xs.length*sz->new[len*sz+k]? = news[k]?)->len+xs.length<=cap->
   (execOp a.eval o).run C.P w = .ok (.value (.slice (some ⟨bk,0,none⟩) (len+xs.length) cap)) (w.setRow bk new)->
   o.wp C.P a w (λa' w'=>cA C U' (σ.app o.dst ⟨.r sz b 0 (len+xs.length),bl⟩) a' w') Q:=by
  intro new lA ft mh ck cq;have hold:∀ k,k<w.heap.size->ι id≠some k->(w.setRow bk new).heap[k]? = w.heap[k]?:=λk _ hk=>setRow_other w bk k new (λe=>hk (by rw[fc,e]));have hg:∀ k,some bk=some k->C.fr k/\k<(w.setRow bk new).heap.size/\(w.heap.size<=k\/ι id=some k):=by
   intro k hk;cases hk;exact⟨Pr,by simpa using ko.2,.inr fc⟩
  obtain⟨hF,iY,_⟩:=zt (w':=w.setRow bk new) S hb a8 eD hK (by simp) hold (g:=some bk) hg;obtain⟨c1,c2⟩:=Es (T:=RM (w.setRow bk new) _ (ι.over K' id idx b (some bk)) b M) hlen gm dQ src (hT.t0 _ _ (ι.over K' id idx b (some bk)) rfl hF (f7 _ hold)) (hT.t _ _ (ι.over K' id idx b (some bk)) rfl hF (f7 _ hold)) ft mh;have SA:=S.j2 hb bN a8 eD hK (S.dE.setRow Pr.dE new) (by simp) hold hg ⟨by simp,by simp⟩
   (.sl bk et et sz M _ new h0 Io.dA (setRow_heap w bk cur new et (0,0) dY) (λ_=>⟨rfl,eS _,cap,by omega,by omega,qk⟩) (by rw[eS,Nat.zero_add,fP,lA,hC];exact Nat.mul_le_mul_right _ ck) (by omega) c1
    (λp q el d hp hq=>by obtain⟨v,k1,k2⟩:=c2 p q el d hp hq;exact⟨v,by rw[eS,Nat.zero_add];exact k1,k2⟩))
  refine mY (σ:=σ) hd cq SA (.r b 0 (len+xs.length) bk 0 cap et sz M _ Io.dA Y2 (by omega) ck (λ_=>by rw[eS];simp) (λ_ _=>⟨rfl,?_⟩)) gZ;unfold World.shape?;rw[setRow_heap w bk cur new et (0,0) dY];simp[lA,hC]
 rcases src.val with⟨h1,h2⟩ | ⟨ad,cx,h1,dj⟩
 ·subst h2;refine place cur rfl (λ_ _=>rfl) (by simp) (by simp;omega) ?_;have:=Pp (P:=C.P) (w:=w) (ty:=o.type) (base:=some ⟨bk,0,none⟩) (n:=len) (cap:=cap) (sz:=sz) ht (by unfold cB;rw[hi];simpa using bV) (by omega);rw[setRow_self w bk cur et (0,0) dY];simp[execOp,ho,resolve,invoke,builtin,hs,h1,this]
 ·have iU:∀ u,u∈news->u.oneCell'=true:=src.one;by_cases lE:len+xs.length<=cap
  ·have fG:len*i.size+news.length<=cur.size:=by
    rw[src.len,bV,hC,<- Nat.add_mul];exact Nat.mul_le_mul_right _ lE
   have cq:=run_append_room (P:=C.P) w t o.type et i ht hi bk len cap cur dY ad xs.length cx news (by rw[src.len,bV]) dj iU lE fG;rw[bV]at fG;rw[bV]at cq;have fY:=J4 (l:=cur.toList) (xs:=news) (j:=len*sz) (by simpa using fG);have Eu:(bu cur.toList (len*sz) news).length=cur.toList.length:=mR (by simpa using fG);refine place (bu cur.toList (len*sz) news).toArray (by simpa using Eu) (λk hk=>?_) (λk hk=>?_) lE ?_
   ·rw[List.getElem?_toArray,fY k,if_pos hk];simp
   ·rw[List.getElem?_toArray,fY,if_neg (by omega),if_pos (by rw[src.len];omega)];congr 1
    omega
   ·unfold bu;simp[execOp,ho,resolve,invoke,builtin,hs,h1,cq]
  ·have jF:len=es.length:=by omega
   have holds:∀ j v,(cur.toList.take (len*sz))[j]? = some v->w.cell? ((⟨bk,0,none⟩:Addr).add j)=some v:=by
    intro j v hj;rw[YN,Nat.zero_add];rw[List.getElem?_take]at hj
    split at hj
    ·exact p8 dY (by simpa using hj)
    ·cases hj
   have Ps:len*sz<=cur.size:=by rw[hC];exact Nat.mul_le_mul_right _ (by omega)
   have Ev:(cur.toList.take (len*sz)).length=len*i.size:=by rw[bV];simp;omega
   have gL:(len+xs.length)*i.bytes<=140737488355328:=by
    have:=Nat.mul_le_mul lC lx;omega
   have cq:=run_append_grow (P:=C.P) w t o.type et i z ht hi hz ⟨bk,0,none⟩ len cap (cur.toList.take (len*sz)) Ev holds ad xs.length cx news (by rw[src.len,bV]) dj (by omega) (by omega) (growslice_fits (by omega) gL);have iM:=grownCap_ge w (len+xs.length) cap et;have Ew:=grownCap_le_maxLen w (len+xs.length) cap et (by simp[maxLen];omega);generalize grownCap w (len+xs.length) cap et=G at *;generalize lF:((cur.toList.take (len*sz)).toArray++news.toArray++Builtin.zeroCells z.cells (G-(len+xs.length)))=new at *;have lA:new.size=G*sz:=by
    rw[<- lF,Array.size_append,Array.size_append,size_zeroCells,mZ];simp only[List.size_toArray,src.len,Ev,bV];rw[<- Nat.add_mul,<- Nat.add_mul];congr 1
    omega
   have m9:(cur.toList.take (len*sz)).length=len*sz:=by rw[Ev,bV]
   have ft:∀ k,k<len*sz->new[k]? = cur[k]?:=by
    intro k hk;rw[<- lF,Array.append_assoc,Array.getElem?_append_left (by simpa[m9]using hk),List.getElem?_toArray,List.getElem?_take,if_pos hk];simp
   have mh:∀ k,k<xs.length*sz->new[len*sz+k]? = news[k]?:=by
    intro k hk;rw[<- lF,Array.append_assoc,Array.getElem?_append_right (by simp[m9])];rw[Array.getElem?_append_left (by simp[src.len,m9];omega)];simp[m9]
   have hold:∀ k,k<w.heap.size->ι id≠some k->(w.drew.alloc (.cells new et)).heap[k]? = w.heap[k]?:=λk hk _=>Below.heap_alloc w.drew _ k hk;have ju:km C (w.drew.alloc (.cells new et)):=by
    have:km C w.drew:=⟨S.dE.os,S.dE.tape,S.dE.output,S.dE.size,S.dE.block⟩
    exact this.alloc _
   have hg:∀ k,some w.heap.size=some k->C.fr k/\k<(w.drew.alloc (.cells new et)).heap.size/\(w.heap.size<=k\/ι id=some k):=by
    intro k hk;cases hk;exact⟨.inl S.dE.size,by simp,.inl (Nat.le_refl _)⟩
   obtain⟨hF,iY,_⟩:=zt (w':=w.drew.alloc (.cells new et)) S hb a8 eD hK (by simp) hold (g:=some w.heap.size) hg;obtain⟨c1,c2⟩:=Es (T:=RM (w.drew.alloc (.cells new et)) _ (ι.over K' id idx b (some w.heap.size)) b M) hlen gm dQ src (hT.t0 _ _ (ι.over K' id idx b (some w.heap.size)) rfl hF (f7 _ hold)) (hT.t _ _ (ι.over K' id idx b (some w.heap.size)) rfl hF (f7 _ hold)) ft mh;have SA:=S.j2 hb bN a8 eD hK ju (by simp) hold hg ⟨by simp,by simp⟩
    (.sl w.heap.size et et sz M _ new h0 Io.dA (heap_alloc_new w.drew _) (λ_=>⟨rfl,eS _,G,lA,by omega,Ew⟩) (by rw[eS,Nat.zero_add,fP,lA];exact Nat.mul_le_mul_right _ (by omega)) (by omega) c1
     (λp q el d hp hq=>by obtain⟨v,k1,k2⟩:=c2 p q el d hp hq;exact⟨v,by rw[eS,Nat.zero_add];exact k1,k2⟩))
   refine mY (σ:=σ) hd ?_ SA (.r b 0 (len+xs.length) w.heap.size 0 G et sz M _ Io.dA Y2 (by omega) (by omega) (λ_=>by rw[eS];simp) (λ_ _=>⟨rfl,?_⟩)) gZ
   ·simp[execOp,ho,resolve,invoke,builtin,hs,h1,cq]
   ·unfold World.shape?;rw[show(w.drew.alloc (.cells new et)).heap[w.heap.size]? = some (.cells new et) from heap_alloc_new w.drew _];simp[lA]
def Io.join(ι:Io)(b id len idx off l:Nat):Nat->Option (Nat × cE):=λk=>match ι.k k with
 | some (y,p)=>match p with
  | (a,c)::q=>if y=id/\a<len then some (b,(a,c)::q) else if y=idx/\off<=a/\a<off+l then some (b,(len+(a-off),c)::q) else if y=id\/y=idx then none else some (y,p)
  | []=>if y=id\/y=idx then none else some (y,p)
 | none=>none
omit S hd hb bN in
theorem Ex{B:aQ}{id:Nat}(hn:∀ k p,ι.k k≠some (id,p))(gZ:∀ k p,ι.k k≠some (b,p)):ky ι ι.k id b b B :=
 ⟨λk y p h _ _=>h,λk y p h=>.inl ⟨h,λe=>by subst e;exact hn k p h,λe=>by subst e;exact gZ k p h⟩⟩
omit S hd hb bN in
theorem Ey{id len idx off l:Nat}{B:aQ}(hB:∃ e sz g t H es,B = .sl e sz (.dp g t H) es):ky ι (ι.join b id len idx off l) id idx b B:=by
 refine⟨λk y p h h1 h2=>?_,λk y p h=>?_⟩
 ·simp only[Io.join,h]
  cases p with
  | nil=>simp only;rw[if_neg (by simp[h1,h2])]
  | cons c q=>obtain⟨a,c⟩:=c;simp only;rw[if_neg (λe=>h1 e.1),if_neg (λe=>h2 e.1),if_neg (by simp[h1,h2])]
 ·simp only[Io.join]at h
  split at h
  rotate_left
  ·cases h
  rename_i z r hz
  split at h
  ·split at h
   ·cases h;exact .inr ⟨rfl,by simp,⟨_,_,hz⟩,hB⟩
   ·split at h
    ·cases h;exact .inr ⟨rfl,by simp,⟨_,_,hz⟩,hB⟩
    ·split at h
     ·cases h
     ·rename_i hn
      cases h;simp only[not_or]at hn;exact .inl ⟨hz,hn.1,hn.2⟩
  ·split at h
   ·cases h
   ·rename_i hn
    cases h;simp only[not_or]at hn;exact .inl ⟨hz,hn.1,hn.2⟩
omit hd bN in
theorem QUa:∀ k p,ι.k k≠some (b,p):=λk p h=>by
 obtain⟨_,_,_,_,_,_,h9⟩:=(S.dg k b p h).dp;rw[(S.fresh b hb).1]at h9
 cases h9
omit S hd hb bN in
theorem Ez{K':Nat->Option (Nat × cE)}{len id:Nat}{R:Nat->Nat->Value->D->Prop}{xs:List (List D)}(hR:∀ p q el v d,xs[p]? = some el->el[q]? = some d->R p q v d->Rd w (Fz C w ι σ.h) v d):Take C σ w ι K' b len .ow .ow id R xs :=
 ⟨λw' F' ι' _ hF _ p q v d _ h=>Rd.mono hF h,λw' F' ι' _ hF _ p q el v d h1 h2 h=>(hR p q el v d h1 h2 h).mono hF⟩
omit S hd hb bN in
theorem EA{len id idx off g:Nat}{t:Bool}{M0:Mo}{x:AV}{xs:List (List D)}(Et:len=0\/∃ g t,M0 = .dp g t [])(ec:x.dI σ.h id len xs=true)
  (hx:(∃ sz l e ba g t H es,x = .r sz idx off l/\σ.h idx = .sl e ba (.dp g t H) es)\/mK xs=true) :
  Take C σ w ι (ι.join b id len idx off xs.length) b len (.dp g t []) M0 id (ix w (Fz C w ι σ.h) ι σ.h x) xs:=by
 refine⟨λw' F' ι' hk hF hl p q v d hp h=>?_,λw' F' ι' hk hF hl p q el v d h1 h2 h=>?_⟩
 ·rcases Et with h0 | ⟨g0,t0,rfl⟩
  ·omega
  ·refine⟨h.1,λ_=>(h.2 (by simp)).map _ λk r fk=>⟨?_,hl k id _ fk⟩⟩;rw[hk];simp only[List.singleton_append]at fk ⊢;simp only[Io.join,fk];rw[if_pos ⟨trivial,hp⟩]
 ·refine⟨QSR h,λ_=>?_⟩
  rcases hx with⟨sz,l,e,ba,g',t',H,es,rfl,hh⟩ | gA
  ·simp only[ix,hh]at h;refine h.map _ λk r fk=>⟨?_,hl k idx _ fk⟩
   rw[hk];simp only[List.singleton_append]at fk ⊢;simp only[Io.join,fk];have gA:=(List.getElem?_eq_some_iff.1 h1).1;simp only[AV.dI,hh,Bool.or_eq_true,Bool.not_eq_true']at ec;rw[if_neg (λe=>by
    rcases ec with ec | ec
    ·rw[e.1]at ec;simp at ec
    ·have:=Nat.le_of_ble_eq_true ec;omega),if_pos ⟨trivial,by omega,by omega⟩,show off+p-off=p by omega]
  ·have hd:=Ep gA h1 h2;unfold ix at h
   split at h
   ·split at h
    ·exact(RL.m8 (F:=λ_=>False) h hd).pl hd _ _ _
    ·exact Rd.pl h hd _ _ _
   ·exact(RL.m8 (F:=λ_=>False) h hd).pl hd _ _ _
   ·exact Rd.pl h hd _ _ _
theorem QGY{s x:Operand}{s' x':aW}{t et sz:Nat}{i:TypeInfo}{t1 t2:TypeId}(ho:o.op = .call { callee:=.builtin .append,args:=#[s,x],argTypes:=#[t,t] })(ht:fX C.P t=some et)(bV:cB C.P et=some sz)(hi:C.P.info? et=some i)(h0:0<sz)
  (lx:i.bytes<=32768) (hz:(YW C.P et).map (·.length)=some sz) (hs:cO C.P t1 s=some s') (hx:cO C.P t2 x=some x') (he:Qv Γ (aW.ev σ.t) σ.h b (.app s' x' et sz)=some e) :
  o.wp C.P a w (λa' w'=>cA C U' (σ.app o.dst e) a' w') Q:=by
 obtain⟨zs,mZ,O5⟩:=Option.map_eq_some_iff.1 hz;obtain⟨i',z,bY,jZ,gB⟩:=vk mZ;rw[hi]at bY;cases bY;obtain⟨i'',jD,hZ⟩:=vd bV;rw[hi]at jD;cases jD;have tn:z.cells.size=sz:=by rw[(gB w (λ_=>True) ι σ.h).size];exact O5
 have h1:=Zs S hs;simp only[Qv]at he
 split at he
 rotate_left
 ·cases he
 rename_i xs qc;obtain⟨news,src⟩:=QLK S h0 (Zs S hx) qc;have gZ:=QUa S hb;have vE:=(S.fresh b hb)
 have vF:∀ id len,(aW.ev σ.t x').dI σ.h id len xs=true->∃ idx off,YP σ b idx/\((∃ sz l e ba g t H es,(aW.ev σ.t x') = .r sz idx off l/\σ.h idx = .sl e ba (.dp g t H) es)\/mK xs=true)/\
   ((idx=b/\(aW.ev σ.t x').de σ.h=[])\/(idx≠b/\(aW.ev σ.t x').de σ.h=[idx])):=by
  intro id len ec;unfold AV.dI at ec
  split at ec
  ·rename_i szr idx off l EB
   split at ec
   ·rename_i e1 kz g1 t1 H1 eP hh;refine⟨idx,off,.inr ⟨⟨_,_,_,_,hh⟩,by rw[hh];rfl⟩,.inl ⟨_,_,_,_,_,_,_,_,EB,hh⟩,.inr ⟨λh=>(by subst h;rw[vE.1]at hh;cases hh),(by simp only[EB,AV.de,hh])⟩⟩
   ·rename_i fm;refine⟨b,0,.inl rfl,.inr ec,.inl ⟨rfl,?_⟩⟩;rw[EB];simp only[AV.de]
    first
     | done
     | (split <;> first | rfl | (rename_i hh;exact absurd hh (fm _ _ _ _ _ _)))
  ·rename_i fm;refine⟨b,0,.inl rfl,.inr ec,.inl ⟨rfl,?_⟩⟩;unfold AV.de
   split
   ·rename_i hh;exact absurd hh (fm _ _ _ _)
   ·rfl
 split at he
 ·rename_i szn hv;rw[hv]at h1;have cw:a.eval s = .slice none 0 0:=by
   generalize a.eval s=av at h1
   cases h1;rfl
  split at he
  rotate_left
  ·cases he
  rename_i fA
  split at he
  ·split at he
   rotate_left
   ·cases he
   rename_i iX ec
   cases he;obtain⟨idx,off,k1,k2,k3⟩:=vF b 0 ec;refine zu S hd hb bN ho (JR ht) hi jZ hZ tn lx h0 (id:=b) (idx:=idx) (M:=.dp 0 true []) (M0:=.ow) (.inl rfl) k1 vE.2 cw src (Ey (len:=0) (off:=off) (l:=xs.length) ⟨_,_,_,_,_,_,rfl⟩) (EA (.inl rfl) ec k2) fA ?_
   rcases k3 with⟨rfl,k3⟩ | ⟨k4,k3⟩
   ·rw[k3];funext k
    simp only[iS,List.nil_append,bn];by_cases hk:k=idx
    ·subst hk;rw[QN];exact Y2.symm
    ·rw[QI _ _ _ _ hk,YT hk hk hk]
   ·rw[k3];funext k
    simp only[iS,List.singleton_append,bn];by_cases hk:k=b
    ·subst hk;rw[QN];exact Y2.symm
    ·rw[QI _ _ _ _ hk];by_cases gq:k=idx
     ·subst gq;rw[QN,qn hk (.inr rfl)]
     ·rw[QI _ _ _ _ gq,YT hk hk gq]
  ·split at he
   rotate_left
   ·cases he
   rename_i cI
   cases he;refine zu S hd hb bN ho (JR ht) hi jZ hZ tn lx h0 (id:=b) (idx:=b) (M:=.ow) (M0:=.ow) (.inl rfl) (.inl rfl) vE.2 cw src (Ex gZ gZ) (Ez λp q el v d h1 h2 hr=>Er cI h1 h2 hr) fA ?_;funext k
   simp only[bn];by_cases hk:k=b
   ·subst hk;rw[QN];exact Y2.symm
   ·rw[QI _ _ _ _ hk,YT hk hk hk]
 ·rename_i szr id len hv
  split at he
  ·rename_i et' ba es hh
   split at he
   rotate_left
   ·cases he
   rename_i hc;obtain⟨rfl,rfl,fu,fA,cI⟩:=hc
   cases he;rw[hv]at h1;have cu:YP σ b id:=.inr ⟨⟨_,_,_,_,hh⟩,by rw[hh];rfl⟩;have i0:∀ k p,ι.k k≠some (id,p):=λk p h=>by
    obtain⟨_,_,_,_,_,_,h9⟩:=(S.dg k id p h).dp;rw[hh]at h9
    cases h9
   have jG:id≠b:=λh=>by subst h;rw[vE.1]at hh;cases hh
   have i4:∀ B,bn σ.h [(id,.dead),(b,B)]=YU σ.h id b b B:=by
    intro B;funext k
    simp only[bn];by_cases hk:k=b
    ·subst hk;rw[QN];exact Y2.symm
    ·rw[QI _ _ _ _ hk];by_cases gq:k=id
     ·subst gq;rw[QN,qn hk (.inl rfl)]
     ·rw[QI _ _ _ _ gq,YT hk gq hk]
   generalize cw:a.eval s=av at h1
   cases h1 with
   | cz _ _ _ _ _ _ eQ=>rw[eQ]at hh;cases hh
   | df _ _ _ e' _ m bY ca EC=>rw[hh]at ca;cases ca;cases EC
   | cM _ e' _ m bY ca =>
    rw[hh]at ca
    cases ca;have:=zu S hd hb bN ho (JR ht) hi jZ hZ tn lx h0 (id:=id) (idx:=b) (M:=.ow) (M0:=.ow) cu (.inl rfl) bY cw src (Ex i0 gZ) (Ez λp q el v d h1 h2 hr=>Er cI h1 h2 hr) (by simpa using fA) (i4 _) (Q:=Q);simpa using this
   | r _ _ _ bk ao cap e' _ m bP bY ca hlen ck jn cY =>
    rw[hh]at ca
    cases ca;obtain⟨rfl,dZ⟩:=cY rfl rfl;have dr:=S.fi id;rw[hh]at dr
    cases dr with
    | slnil _ _ _ _ fe=>rw[bY]at fe;cases fe
    | sl ml _ e0 _ _ _ cur qf mu fc eO hle cX dQ dS =>
     rw[bY]at mu;cases mu;obtain⟨rfl,eS,Cc,hC,jF,qk⟩:=eO rfl;have ED:Cc=cap:=by
      unfold World.shape? at dZ;rw[fc]at dZ;simp only[Option.some.injEq,Prod.mk.injEq,true_and]at dZ;rw[hC]at dZ;exact Nat.eq_of_mul_eq_mul_right h0 dZ
     subst ED;simp only[eS,Nat.zero_add]at dS;exact Pq S hd hb bN ho (JR ht) hi jZ hZ tn lx h0 (M:=.ow) hh rfl (.inl rfl) bY cw fc hC jF qk dQ dS (by omega) src (Ex i0 gZ) (Ez λp q el v d h1 h2 hr=>Er cI h1 h2 hr) fu fA (i4 _)
  ·rename_i et' ba g0 es hh
   split at he
   rotate_left
   ·cases he
   rename_i hc;obtain⟨rfl,rfl,fu,fA,ec⟩:=hc
   cases he;rw[hv]at h1;have cu:YP σ b id:=.inr ⟨⟨_,_,_,_,hh⟩,by rw[hh];rfl⟩;obtain⟨idx,off,k1,k2,k3⟩:=vF id len ec;have jG:id≠b:=λh=>by subst h;rw[vE.1]at hh;cases hh
   have i4:∀ B,bn σ.h ((id,.dead)::iS ((aW.ev σ.t x').de σ.h)++[(b,B)])=YU σ.h id idx b B:=by
    intro B;funext k
    rcases k3 with⟨rfl,k3⟩ | ⟨k4,k3⟩
    ·rw[k3];simp only[iS,List.cons_append,List.nil_append,bn];by_cases hk:k=idx
     ·subst hk;rw[QN];exact Y2.symm
     ·rw[QI _ _ _ _ hk];by_cases gq:k=id
      ·subst gq;rw[QN,qn hk (.inl rfl)]
      ·rw[QI _ _ _ _ gq,YT hk gq hk]
    ·rw[k3];simp only[iS,List.cons_append,List.nil_append,bn];by_cases hk:k=b
     ·subst hk;rw[QN];exact Y2.symm
     ·rw[QI _ _ _ _ hk];by_cases EE:k=idx
      ·subst EE;rw[QN,qn hk (.inr rfl)]
      ·rw[QI _ _ _ _ EE];by_cases gq:k=id
       ·subst gq;rw[QN,qn hk (.inl rfl)]
       ·rw[QI _ _ _ _ gq,YT hk gq EE]
   generalize cw:a.eval s=av at h1
   cases h1 with
   | cz _ _ _ _ _ _ eQ=>rw[eQ]at hh;cases hh
   | df _ _ _ e' _ m bY ca EC=>rw[hh]at ca;cases ca;cases EC
   | cM _ e' _ m bY ca =>
    rw[hh]at ca
    cases ca;have:=zu S hd hb bN ho (JR ht) hi jZ hZ tn lx h0 (id:=id) (idx:=idx) (M:=.dp 0 true []) (M0:=.ow) cu k1 bY cw src (Ey (len:=0) (off:=off) (l:=xs.length) ⟨_,_,_,_,_,_,rfl⟩) (EA (.inl rfl) ec k2) (by simpa using fA) (i4 _) (Q:=Q);simpa using this
   | r _ _ _ bk ao cap e' _ m bP bY ca hlen ck jn cY =>
    rw[hh]at ca
    cases ca;obtain⟨rfl,dZ⟩:=cY rfl rfl;have dr:=S.fi id;rw[hh]at dr
    cases dr with
    | slnil _ _ _ _ fe=>rw[bY]at fe;cases fe
    | sl ml _ e0 _ _ _ cur qf mu fc eO hle cX dQ dS =>
     rw[bY]at mu;cases mu;obtain⟨rfl,eS,Cc,hC,jF,qk⟩:=eO rfl;have ED:Cc=cap:=by
      unfold World.shape? at dZ;rw[fc]at dZ;simp only[Option.some.injEq,Prod.mk.injEq,true_and]at dZ;rw[hC]at dZ;exact Nat.eq_of_mul_eq_mul_right h0 dZ
     subst ED;simp only[eS,Nat.zero_add]at dS;exact Pq S hd hb bN ho (JR ht) hi jZ hZ tn lx h0 (M:=.dp 0 true []) hh rfl k1 bY cw fc hC jF qk dQ dS (by omega) src (Ey (len:=len) (off:=off) (l:=xs.length) ⟨_,_,_,_,_,_,rfl⟩) (EA (.inr ⟨_,_,rfl⟩) ec k2) fu fA (i4 _)
  ·cases he
 ·cases he
end
end Go.Proofs.YtdplaepmjogjjaaGreat.Am
namespace Go.Proofs.YtdplaepmjogjjaaGreat.Am
open Go Go.RowKit
def noι:Io:=⟨λ_=>none,λ_=>none,λ_=>0⟩
def tq:Nat->aQ:=λ_=>.none
def AV.eE:AV->Bool
 | .c _=>true
 | .a cs=>cs.all fun | .c _=>true | _=>false
 | _=>false
def mv:AV->Bool
 | .c _=>true
 | _=>false
structure DR(w:World)(F:Nat->Prop)(bj:Array Value)(cs:List AV):Prop where
 size:bj.size=cs.length
 one:∀(k:Nat)(v:Value),bj[k]? = some v->v.oneCell'=true
 vr:∀(k:Nat)(v:Value)(x:AV),bj[k]? = some v->cs[k]? = some x->VR w F noι tq v x
structure lG(w:World)(F:Nat->Prop)(v:Value)(x:Hd)(e:TypeId)(sz:Nat)(m:Mo)(es:List (List D)):Prop where
 hB:x.B = .sl e sz m es
 own:m.own=true
 vr:VR w F x.io (λ_=>x.B) v (.r sz 0 0 es.length)
 br:BR w F x.io (λ_=>x.B) 0 x.B
 dg:∀ b p,x.K b=some p->p≠[]/\b<w.heap.size/\x.o≠some b/\∃ g t H,m = .dp g t H
def ZP(gb:List Hd)(b:Nat):Prop:=∃ x,x∈gb/\x.has b
def kA:AV->Bool
 | .c _=>true
 | .ow ..=>true
 | _=>false
inductive ey(w:World)(F:Nat->Prop):List Value->List AV->List Nat->List Hd->Prop where
 | nil:ey w F [] [] [] []
 | eE (v:Value) (x:AV) (vs:List Value) (xs:List AV) (lb:List Nat) (gb:List Hd) (h:VR w F noι tq v x) (hr:ey w F vs xs lb gb) (hx:x.eE=true):ey w F (v::vs) (x::xs) lb gb
 | box (b:Nat) (e:TypeId) (bj:Array Value) (cs:List AV) (vs:List Value) (xs:List AV) (lb:List Nat) (gb:List Hd) (hb:w.heap[b]? = some (.cells bj e (0,0))) (hd:DR w F bj cs) (hc:cs.all mv=true) (hn:b∉lb)
   (hg:¬ ZP gb b) (hr:ey w F vs xs lb gb):ey w F (.pointer (some ⟨b,0,none⟩)::vs) (.bx cs::xs) (b::lb) gb
 | own (v:Value) (x:Hd) (e:TypeId) (sz:Nat) (m:Mo) (es:List (List D)) (vs:List Value) (xs:List AV) (lb:List Nat) (gb:List Hd) (hv:lG w F v x e sz m es) (hn:∀ b,x.has b->b∉lb/\¬ ZP gb b)
   (hr:ey w F vs xs lb gb):ey w F (v::vs) (.ow e sz m es::xs) lb (x::gb)
 | agg (arr:Array Value) (cs:List AV) (vs:List Value) (xs:List AV) (lb:List Nat) (g1 gb:List Hd) (hc:ey w F arr.toList cs [] g1) (hk:cs.all kA=true) (h1:∀ v,v∈arr.toList->v.oneCell'=true)
   (hn:∀ b,ZP g1 b->b∉lb/\¬ ZP gb b) (hr:ey w F vs xs lb gb):ey w F (.agg arr::vs) (.a cs::xs) lb (g1++gb)
def ik.h(r:ik):Nat->aQ:=λi=>(r.hb[i]?).getD .none
def mw(w w':World)(F0:Nat->Prop)(gb:List Hd)(r:ik)(ι:Io)(b:Nat):Prop :=
 b<w'.heap.size/\(r.al=true/\F0 b\/w.heap.size<=b\/ZP gb b)/\(∀ i,ι i=some b->(((r.hb++r.gv)[i]?).getD .none).own=false)/\ι.k b=none
structure iy(w:World)(F0:Nat->Prop)(lb:List Nat)(gb:List Hd)(r:ik)(v:Value)(w':World)(ι:Io):Prop where
 os:w'.os=w.os
 tape:w'.tape=w.tape
 output:w'.output=w.output
 size:w.heap.size<=w'.heap.size
 block:∀ k,k<w.heap.size->k∉lb->¬ ZP gb k->w'.heap[k]? = w.heap[k]?
 val:VR w' (mw w w' F0 gb r ι) ι r.h v r.v
 fi:∀ i,i<r.hb.length->BR w' (mw w w' F0 gb r ι) ι r.h i (r.h i)
 inj:∀ i j b,ι i=some b->ι j=some b->i=j
 eh:∀ i b,ι i=some b->(w.heap.size<=b\/ZP gb b)/\b<w'.heap.size/\i<r.hb.length+r.gv.length
 live:∀ i b,ι i=some b->((r.hb++r.gv)[i]?).getD .none≠.none/\((r.hb++r.gv)[i]?).getD .none≠.dead
 dg:∀ b i p,ι.k b=some (i,p)->p≠[]/\(∃ e sz g t H es,(r.hb++r.gv)[i]? = some (.sl e sz (.dp g t H) es))/\(w.heap.size<=b\/ZP gb b)/\b<w'.heap.size/\∀ j,ι j≠some b
 EF:r.bx.length=lb.length
 bx:∀(k b:Nat)(cs:List AV),lb[k]? = some b->r.bx[k]? = some cs->cs.all mv=true/\w'.shape? b=w.shape? b/\∃ e bj,w'.heap[b]? = some (.cells bj e (0,0))/\DR w' (mw w w' F0 gb r ι) bj cs
 EG:r.gv.length=gb.length
 gv:∀(k:Nat)(x:Hd)(B:aQ),gb[k]? = some x->r.gv[k]? = some B->B = .dead\/Yj x.B B/\ι (r.hb.length+k)=x.o/\ι.o (r.hb.length+k)=x.base/\BR w' (mw w w' F0 gb r ι) ι r.h (r.hb.length+k) B/\∀ b,x.o=some b->w'.shape? b=w.shape? b
def qp(P:Program)(f:FuncId)(args:List AV)(r:ik):Prop :=
 ∀(w:World)(F0:Nat->Prop)(vs:Array Value)(lb:List Nat)(gb:List Hd),ey w F0 vs.toList args lb gb->(∀ b,F0 b->b<w.heap.size/\b∉lb/\¬ ZP gb b)->
  Calls P f vs w λe w'=>∃ v ι,e = .returned v/\iy w F0 lb gb r v w' ι
def JP(P:Program)(Γ:eA):Prop:=∀ f args r,Γ f args=some r->qp P f args r
theorem VR.data{w:World}{F F':Nat->Prop}(hF:∀ b,F b->F' b){ι:Io}{h:Nat->aQ}{v:Value}{d:D}(hv:VR w F ι h v (.c d)){ι':Io}{h':Nat->aQ}:VR w F' ι' h' v (.c d):=by
 cases hv with
 | c v d hr=>exact .c _ _ (hr.mono λb hb=>⟨hF b hb,rfl⟩)
theorem na{w:World}{F:Nat->Prop}{ι:Io}{h:Nat->aQ}{v:Value}{d:D}(hr:Rd w F v d):VR w F ι h v (.c d):=.c _ _ hr
theorem VR.jH{w:World}{F:Nat->Prop}{ι ι':Io}{h h':Nat->aQ}{b n:Nat}(hi:∀ i,i<n->ι' (i+b)=ι i/\ι'.o (i+b)=ι.o i/\h' (i+b)=(h i).sh b)(hn:∀ i,n<=i->h i = .none){v:Value}{x:AV}(hv:VR w F ι h v x):VR w F ι' h' v (x.mf b):=by
 have aU:∀ i,h i≠.none->i<n:=λi hx=>by
  rcases Nat.lt_or_ge i n with h1 | h1
  ·exact h1
  ·exact absurd (hn i h1) hx
 cases hv with
 | u=>exact .u _
 | c v d hr=>exact .c _ _ hr
 | n sz=>exact .n _
 | cz v sz id off len h1 hd =>
  have:=hi id (aU id (by rw[hd];simp));exact .cz _ _ _ _ _ h1 (by rw[this.2.2,hd];rfl)
 | cM id e sz m bY hh =>
  have:=hi id (aU id (by rw[hh];simp));exact .cM _ e sz m (this.1.trans bY) (by rw[this.2.2,hh];rfl)
 | df ad cap id e sz m bY hh ht =>
  have:=hi id (aU id (by rw[hh];simp));exact .df ad cap _ e sz m (this.1.trans bY) (by rw[this.2.2,hh];rfl) ht
 | r id off len bk ao cap e sz m es bY hh hlen ck jn cY =>
  have:=hi id (aU id (by rw[hh];simp));exact .r _ off len bk ao cap e sz m es (this.1.trans bY) (by rw[this.2.2,hh];rfl) hlen ck (by rw[this.2.1];exact jn) cY
 | cT v id i j h1 hd =>
  have:=hi id (aU id (by rw[hd];simp));exact .cT _ _ _ _ h1 (by rw[this.2.2,hd];rfl)
 | p id i j bk bY mj hd =>
  have:=hi id (aU id mj);have hs:(h' (id+b)).sz=(h id).sz:=by rw[this.2.2];cases h id <;> rfl
  rw[<- hs,<- this.2.1];refine .p (id+b) i j bk (this.1.trans bY) ?_ ?_
  ·rw[this.2.2];cases hx:h id <;> simp_all [aQ.sh]
  ·rw[this.2.2];cases hx:h id <;> simp_all [aQ.sh]
 | q bk o j cs x hb hc hr=>exact .q bk o j cs x hb hc hr
 | a=>exact .u _
 | t=>exact .u _
 | fo=>exact .u _
 | b=>exact .u _
 | eJ=>exact .u _
 | bq=>exact .u _
theorem VR.lH{w:World}{F:Nat->Prop}{ι ι':Io}{h h':Nat->aQ}{b n:Nat}(hi:∀ i,i<n->ι' (i+b)=ι i/\ι'.o (i+b)=ι.o i/\h' (i+b)=(h i).sh b)(hn:∀ i,n<=i->h i = .none){v:Value}{x:AV}(hv:VR w F ι h v x):VR w F ι' h' v (x.kZ b):=by
 cases x with
 | a cs =>
  cases hv with
  | a vs _ hl h1 hv =>
   refine .a vs _ (by simpa using hl) h1 (λk v x hk hx=>?_);simp only[List.getElem?_map,Option.map_eq_some_iff]at hx;obtain⟨y,hy,rfl⟩:=hx;exact(hv k v y hk hy).jH hi hn
 | _=>exact hv.jH hi hn
theorem VR.shift{w:World}{F:Nat->Prop}{ι ι':Io}{h h':Nat->aQ}{b n:Nat}(hi:∀ i,i<n->ι' (i+b)=ι i/\ι'.o (i+b)=ι.o i/\h' (i+b)=(h i).sh b)(hn:∀ i,n<=i->h i = .none){v:Value}{x:AV}(hv:VR w F ι h v x):VR w F ι' h' v (x.sh b):=by
 cases x with
 | t cs =>
  cases hv with
  | t vs _ hl hv =>
   refine .t vs _ (by simpa using hl) (λk v x hk hx=>?_);simp only[List.getElem?_map,Option.map_eq_some_iff]at hx;obtain⟨y,hy,rfl⟩:=hx;exact(hv k v y hk hy).lH hi hn
 | _=>exact hv.lH hi hn
theorem VR.up{w:World}{F F':Nat->Prop}(hF:∀ b,F b->F' b){ι:Io}{h:Nat->aQ}{v:Value}{x:AV}(hv:VR w F ι h v x):VR w F' ι h v x :=
 hv.mono (λb hb=>⟨hF b hb,rfl⟩) (λid=>Rest.gE ⟨rfl,rfl,λ_ _=>rfl,λb p hk=>⟨hk,rfl⟩⟩ rfl)
theorem BR.shift{w:World}{F F':Nat->Prop}(hF:∀ b,F b->F' b){ι ι':Io}{h h':Nat->aQ}{b n:Nat}(hi:∀ i,i<n->ι' (i+b)=ι i/\ι'.o (i+b)=ι.o i/\h' (i+b)=(h i).sh b)(hn:∀ i,n<=i->h i = .none){i:Nat}(fe:i<n)
  (hk:∀ k p,ι.k k=some (i,p)->ι'.k k=some (i+b,p)) {B:aQ} (hv:BR w F ι h i B):BR w F' ι' h' (i+b) (B.sh b):=by
 cases hv with
 | none=>exact .none
 | dead=>exact .dead
 | box bk e bj cs bY ho hb hl h1 hv =>
  refine .box bk e bj _ ((hi i fe).1.trans bY) ((hi i fe).2.1.trans ho) hb (by simpa using hl) h1 (λk v x hk hx=>?_);simp only[List.getElem?_map,Option.map_eq_some_iff]at hx;obtain⟨y,hy,rfl⟩:=hx;exact((hv k v y hk hy).jH hi hn).up hF
 | slnil e sz m hz bY=>exact .slnil e sz m hz ((hi i fe).1.trans bY)
 | sl bk e e0 sz m es cur hz bY hb eO hle cX bV hv =>
  refine .sl bk e e0 sz m es cur hz ((hi i fe).1.trans bY) hb (by rw[(hi i fe).2.1];exact eO) (by rw[(hi i fe).2.1];exact hle) cX bV (λp q x d hp hq=>?_);obtain⟨v,h1,h2⟩:=hv p q x d hp hq;refine⟨v,by rw[(hi i fe).2.1];exact h1,?_⟩
  cases m with
  | dp g t H=>exact⟨h2.1,λdt=>(h2.2 dt).map _ λk r fk=>⟨hk k _ fk,rfl⟩⟩
  | _=>exact Rd.mono (λb hb=>⟨hF b hb,rfl⟩) h2
theorem Pt(l:List aQ):∀(b:Nat)(h:Nat->aQ)(i:Nat),bn h (YM b l) i=if b<=i/\i<b+l.length then(l[i-b]?).getD .none else h i:=by
 induction l with
 | nil=>intro b h i;simp only[YM,bn,List.length_nil];rw[if_neg (by omega)]
 | cons x l ih =>
  intro b h i;simp only[YM,bn,List.length_cons];rw[ih (b+1) (bI h b x) i];by_cases h1:i=b
  ·subst h1;rw[if_neg (by omega),if_pos (by omega),QN];simp
  ·by_cases h2:b<=i/\i<b+(l.length+1)
   ·rw[if_pos (by omega),if_pos h2];rw[show i-b=(i-(b+1))+1 by omega];simp
   ·rw[if_neg (by omega),if_neg h2,QI _ _ _ _ h1]
theorem Jl(h:Nat->aQ):∀(l m:List (Nat × aQ)),bn h (l++m)=bn (bn h l) m:=by
 intro l
 induction l generalizing h with
 | nil=>intro m;rfl
 | cons x l ih=>intro m;exact ih _ m
theorem vH(h0:Nat->aQ):∀(ids:List Nat)(cD:List aQ)(h:Nat->aQ)(i:Nat),ids.Nodup->cD.length=ids.length->
  (i∉ids->bn h (Yt h0 ids cD) i=h i)/\∀(k:Nat)(B:aQ),ids[k]? = some i->cD[k]? = some B->bn h (Yt h0 ids cD) i=JH (h0 i) B
 | [],cD,h,i,_,hl=>by
  have:cD=[]:=List.eq_nil_of_length_eq_zero hl;subst this;exact⟨λ_=>rfl,by simp⟩
 | id::ids,[],h,i,_,hl=>by simp at hl
 | id::ids,fZ::cD,h,i,dV,hl=>by
  simp only[List.nodup_cons]at dV;obtain⟨h1,h2⟩:=vH h0 ids cD (bI h id (JH (h0 id) fZ)) i dV.2 (by simpa using hl);simp only[Yt,bn];refine⟨λhi=>?_,λk cs hk dJ=>?_⟩
  ·simp only[List.mem_cons,not_or]at hi;rw[h1 hi.2,QI _ _ _ _ hi.1]
  ·cases k with
   | zero =>
    simp at hk dJ;subst hk;subst dJ;rw[h1 dV.1,QN]
   | succ k =>
    simp at hk dJ;exact h2 k cs hk dJ
theorem zv:∀(ids:List Nat)(cD:List (List AV))(h:Nat->aQ)(i:Nat),ids.Nodup->cD.length=ids.length->
  (i∉ids->bn h (YO ids cD) i=h i)/\∀(k:Nat)(cs:List AV),ids[k]? = some i->cD[k]? = some cs->bn h (YO ids cD) i = .box cs
 | [],cD,h,i,_,hl=>by
  have:cD=[]:=List.eq_nil_of_length_eq_zero hl;subst this;exact⟨λ_=>rfl,by simp⟩
 | id::ids,[],h,i,_,hl=>by simp at hl
 | id::ids,fZ::cD,h,i,dV,hl=>by
  simp only[List.nodup_cons]at dV;obtain⟨h1,h2⟩:=zv ids cD (bI h id (.box fZ)) i dV.2 (by simpa using hl);simp only[YO,bn];refine⟨λhi=>?_,λk cs hk dJ=>?_⟩
  ·simp only[List.mem_cons,not_or]at hi;rw[h1 hi.2,QI _ _ _ _ hi.1]
  ·cases k with
   | zero =>
    simp at hk dJ;subst hk;subst dJ;rw[h1 dV.1,QN]
   | succ k =>
    simp at hk dJ;exact h2 k cs hk dJ
end Go.Proofs.YtdplaepmjogjjaaGreat.Am
namespace Go.Proofs.YtdplaepmjogjjaaGreat.Am
open Go Go.RowKit
section
variable {C:Ctx} {U U':Nat->Prop} {σ:St} {a:Act} {w:World} {ι:Io}
theorem QMn{h:Nat->aQ}{xs:List AV}{ds:List D}(hx:AV.ds h xs=some ds):(ds.map AV.c).all mv=true:=by
 rw[List.all_eq_true];intro x hx;obtain⟨d,_,rfl⟩:=List.mem_map.1 hx;rfl
theorem QSe(h:Nat->aQ)(ms:List AM)(x:AV)(xs:List AV):AV.dU h ms (x::xs)=match x.fV h (ms.headD .d),AV.dU h ms.tail xs with
  | some d,some ds=>some (d::ds)
  | _,_=>none:=by
 cases ms with
 | nil=>simp only[AV.dU,AV.g8,List.headD_nil,AV.fV,List.tail_nil];cases AV.arg h x <;> cases AV.g8 h xs <;> rfl
 | cons m ms=>rfl
theorem Pu(ms:List AM)(x:AV)(xs:List AV):cJ ms (x::xs)=if(ms.headD .d).h then x::cJ ms.tail xs else cJ ms.tail xs:=by
 cases ms with
 | nil=>simp[cJ,AM.h]
 | cons m ms=>rfl
theorem Pv(ms:List AM)(x:AV)(xs:List AV):cm ms (x::xs)=if(ms.headD .d).h then cm ms.tail xs else x::cm ms.tail xs:=by
 cases ms with
 | nil=>simp[cm,AM.h]
 | cons m ms=>rfl
theorem QOE(h:Nat->aQ)(ms:List AM):AV.dU h ms []=some []:=by cases ms <;> rfl
theorem QX5(ms:List AM):cJ ms []=[]:=by cases ms <;> rfl
theorem QWp(ms:List AM):cm ms []=[]:=by cases ms <;> rfl
def ib(ι:Io)(x:Nat)(B:aQ):Hd:=⟨ι x,ι.o x,B,λb=>match ι.k b with | some (y,p)=>if y=x then some p else none | none=>none⟩
def Has(ι:Io)(id b:Nat):Prop:=ι id=some b\/∃ p,ι.k b=some (id,p)
theorem EH{ι:Io}{x b:Nat}{B:aQ}{p:cE}:(ib ι x B).K b=some p↔ι.k b=some (x,p):=by
 simp only[ib]
 cases hx:ι.k b with
 | none=>simp
 | some z =>
  obtain⟨y,q⟩:=z;by_cases h:y=x
  ·subst h;simp
  ·simp[h]
theorem vI{ι:Io}{x b:Nat}{B:aQ}:(ib ι x B).has b↔Has ι x b:=by
 unfold Hd.has Has;simp only[EH];exact Iff.rfl
theorem JN(S:Sat C U σ a w ι){x y b:Nat}(h1:Has ι x b)(h2:Has ι y b):x=y:=by
 rcases h1 with h1 | ⟨p,h1⟩ <;> rcases h2 with h2 | ⟨q,h2⟩
 ·exact S.inj x y b h1 h2
 ·exact absurd h1 ((S.dg b y q h2).ne x)
 ·exact absurd h2 ((S.dg b x p h1).ne y)
 ·rw[h1]at h2;cases h2;rfl
def HB(B0 B:aQ):Prop:=(∃ e sz es,B0 = .sl e sz .ow es/\B = .sl e sz .ow es)\/∃ e sz g t es,B0 = .sl e sz (.dp g t []) es/\B = .sl 0 sz (.dp 0 false []) es
theorem HB.sl{B0 B:aQ}(h:HB B0 B):(∃ e sz m es,B0 = .sl e sz m es)/\B0.own=true:=by
 rcases h with⟨e,sz,es,rfl,_⟩ | ⟨e,sz,g,t,es,rfl,_⟩
 ·exact⟨⟨_,_,_,_,rfl⟩,rfl⟩
 ·exact⟨⟨_,_,_,_,rfl⟩,rfl⟩
theorem Pw(S:Sat C U σ a w ι){F0:Nat->Prop}(hF:∀ b,Fz C w ι σ.h b->F0 b){v:Value}{id e sz e0:Nat}{m m0:Mo}{es:List (List D)}(hB:HB (σ.h id) (.sl e sz m es))(hh:σ.h id = .sl e0 sz m0 es)(hv:VR w (Fz C w ι σ.h) ι σ.h v (.r sz id 0 es.length)) :
  lG w F0 v (ib ι id (.sl e sz m es)) e sz m es:=by
 have cY:m.eZ=true->m0.eZ=true/\e0=e:=by
  rcases hB with⟨e1,kz,eP,h1,h2⟩ | ⟨e1,kz,g,t,eP,h1,h2⟩
  ·rw[hh]at h1;cases h1;cases h2;exact λ_=>⟨rfl,rfl⟩
  ·cases h2;intro h;cases h
 have cu:m.own=true:=by
  rcases hB with⟨e1,kz,eP,h1,h2⟩ | ⟨e1,kz,g,t,eP,h1,h2⟩ <;> cases h2 <;> rfl
 have hio:∀ b p,ι.k b=some (id,p)->(ib ι id (.sl e sz m es)).io.k b=some (0,p):=λb p hk=>by
  simp only[Hd.io];rw[EH.2 hk];rfl
 refine⟨rfl,cu,?_,?_,λb p hk=>?_⟩
 ·generalize hn:es.length=n at hv ⊢
  cases hv with
  | cz _ _ _ _ _ _ hd=>rw[hd]at hh;cases hh
  | cM _ e' _ m' hi ca =>
   have:es=[]:=List.eq_nil_of_length_eq_zero hn;subst this;exact .cM 0 e sz m hi rfl
  | df ad cap _ e' _ m' hi ca ht =>
   have:es=[]:=List.eq_nil_of_length_eq_zero hn;subst this;rw[hh]at ca
   cases ca;refine .df ad cap 0 e sz m hi rfl ?_
   cases hx:m.eZ with
   | false=>rfl
   | true=>rw[(cY hx).1]at ht;cases ht
  | r _ _ _ b ao cap e' _ m' bP hi ca hlen ck ho ht =>
   rw[hh]at ca
   cases ca;exact .r 0 0 n b ao cap e sz m es hi rfl hlen ck ho (λh h0=>by obtain⟨k1,k2⟩:=cY h;rw[<- k2];exact ht k1 h0)
 ·have hb:=S.fi id;rw[hh]at hb;show BR w F0 _ _ 0 (.sl e sz m es)
  cases hb with
  | slnil _ _ _ hz hi=>exact .slnil e sz m hz hi
  | sl bk _ e1 _ _ _ cur hz hi hb eO hle cX bV iz =>
   refine .sl bk e e1 sz m es cur hz hi hb (λh=>by obtain⟨k1,k2⟩:=cY h;rw[<- k2];exact eO k1) hle cX bV (λi j x d hx hd=>?_);obtain⟨u,h1,h2⟩:=iz i j x d hx hd;refine⟨u,h1,?_⟩
   rcases hB with⟨e1,kz,eP,q1,q2⟩ | ⟨e1,kz,g,t,eP,q1,q2⟩
   ·rw[hh]at q1;cases q1;cases q2;exact Rd.mono (λb hb=>⟨hF b hb,rfl⟩) h2
   ·rw[hh]at q1;cases q1;cases q2;exact⟨h2.1,λ_=>(h2.2 (by simp)).map _ λb r hk=>⟨hio b _ hk,rfl⟩⟩
 ·have hk:=EH.1 hk;have L:=S.dg b id p hk;refine⟨L.pn,L.lt,L.ne id,?_⟩;obtain⟨_,_,g,t,H,_,h9⟩:=L.dp
  rcases hB with⟨e1,kz,eP,q1,q2⟩ | ⟨e1,kz,g,t,eP,q1,q2⟩
  ·rw[h9]at q1;cases q1
  ·cases q2;exact⟨_,_,_,rfl⟩
structure dv(σ:St)(ι:Io)(gb:List Hd)(ids:List Nat):Prop where
 len:gb.length=ids.length
 get:∀(k id:Nat),ids[k]? = some id->∃ B,gb[k]? = some (ib ι id B)/\HB (σ.h id) B
theorem dv.my{gb:List Hd}{ids:List Nat}(H:dv σ ι gb ids){b:Nat}:ZP gb b↔∃ id,id∈ids/\Has ι id b:=by
 constructor
 ·rintro⟨x,hm,hb⟩
  obtain⟨k,hk,vJ⟩:=List.getElem_of_mem hm;have gq:k<ids.length:=by rw[<- H.len];exact hk
  obtain⟨B,h5,h6⟩:=H.get k _ (List.getElem?_eq_getElem gq);rw[List.getElem?_eq_getElem hk,vJ]at h5
  cases h5;exact⟨_,List.getElem_mem gq,vI.1 hb⟩
 ·rintro⟨id,hm,hb⟩
  obtain⟨k,hk⟩:=List.getElem?_of_mem hm;obtain⟨B,h5,h6⟩:=H.get k _ hk;exact⟨_,List.mem_of_getElem? h5,vI.2 hb⟩
theorem dv.sl{gb:List Hd}{ids:List Nat}(H:dv σ ι gb ids){id:Nat}(hm:id∈ids):(∃ e sz m es,σ.h id = .sl e sz m es)/\(σ.h id).own=true:=by
 obtain⟨k,hk⟩:=List.getElem?_of_mem hm;obtain⟨B,h5,h6⟩:=H.get k _ hk;exact h6.sl
theorem dv.nil:dv σ ι [] []:=⟨rfl,by simp⟩
theorem dv.cons{gb:List Hd}{ids:List Nat}(H:dv σ ι gb ids){id:Nat}{B:aQ}(hB:HB (σ.h id) B):dv σ ι (ib ι id B::gb) (id::ids):=by
 refine⟨by simp[H.len],λk b8 hk=>?_⟩
 cases k with
 | zero=>simp at hk;subst hk;exact⟨B,rfl,hB⟩
 | succ k=>simpa using H.get k b8 (by simpa using hk)
theorem dv.append{g1 gb:List Hd}{i1 ids:List Nat}(H1:dv σ ι g1 i1)(H:dv σ ι gb ids):dv σ ι (g1++gb) (i1++ids):=by
 refine⟨by simp[H.len,H1.len],λk b8 hk=>?_⟩;rw[List.getElem?_append]at hk ⊢;rw[H1.len]
 split at hk
 ·rename_i h;rw[if_pos h];exact H1.get k b8 hk
 ·rename_i h;rw[if_neg h];exact H.get _ b8 hk
theorem Px{h:Nat->aQ}{sz id off len:Nat}{y:AV}(hy:(AV.r sz id off len).dO h=some y):∃ e g t es,h id = .sl e sz (.dp g t []) es/\off=0/\len=es.length/\y = .ow 0 sz (.dp 0 false []) es:=by
 simp only[AV.dO]at hy
 split at hy
 rotate_left
 ·cases hy
 rename_i hh
 split at hy
 rotate_left
 ·cases hy
 rename_i hc;obtain⟨rfl,rfl,rfl⟩:=hc
 cases hy;exact⟨_,_,_,_,hh,rfl,rfl,rfl⟩
theorem Py(S:Sat C U σ a w ι){F0:Nat->Prop}(hF:∀ b,Fz C w ι σ.h b->F0 b):∀(vs:List Value)(cs ds:List AV),vs.length=cs.length->(∀(k:Nat)(v:Value)(x:AV),vs[k]? = some v->cs[k]? = some x->VR w (Fz C w ι σ.h) ι σ.h v x)->
  AV.fq σ.h cs=some ds->(AV.bM cs).Nodup->∃ g1,ey w F0 vs ds [] g1/\dv σ ι g1 (AV.bM cs)/\ds.all kA=true
 | [],[],ds,_,_,hd,_=>by
  simp[AV.fq]at hd;subst hd;exact⟨[],.nil,.nil,rfl⟩
 | v::vs,c::cs,ds,hl,hv,hd,dV=>by
  simp only[AV.fq]at hd
  split at hd
  rotate_left
  ·cases hd
  rename_i d te h1 h2
  cases hd;simp only[AV.bM]at dV ⊢;have lI:=List.nodup_append.1 dV;obtain⟨g1,k1,k2,k3⟩:=Py S hF vs cs te (by simpa using hl) (λk v x hk hx=>hv (k+1) v x hk hx) h2 lI.2.1;have qs:=hv 0 v c rfl rfl
  cases c with
  | c d0 =>
   cases d0 with
   | v x =>
    simp[AV.dO]at h1;subst h1;exact⟨g1,.eE v _ vs te [] g1 (by cases qs with | c _ _ hr=>exact na (hr.mono λb hb=>⟨hF b hb,rfl⟩)) k1 rfl,by simpa[AV.bR]using k2,by simpa[kA]using k3⟩
   | sl=>simp[AV.dO]at h1
  | r sz id off len =>
   obtain⟨e,g,t,es,hh,rfl,rfl,rfl⟩:=Px h1;have hB:HB (σ.h id) (.sl 0 sz (.dp 0 false []) es):=.inr ⟨_,_,_,_,_,hh,rfl⟩;refine⟨ib ι id (.sl 0 sz (.dp 0 false []) es)::g1,.own v _ 0 sz _ es vs te [] g1 (Pw S hF hB hh qs) (λb hb=>⟨by simp,λhg=>?_⟩) k1,by simpa[AV.bR]using k2.cons hB,by simpa[kA]using k3⟩;obtain⟨b8,h5,h6⟩:=k2.my.1 hg;have:=JN S (vI.1 hb) h6;subst this;exact lI.2.2 id (by simp[AV.bR]) id h5 rfl
  | _=>simp[AV.dO]at h1
 | [],_::_,_,hl,_,_,_=>by simp at hl
 | _::_,[],_,hl,_,_,_=>by simp at hl
theorem zw(S:Sat C U σ a w ι){F0:Nat->Prop}(hF:∀ b,Fz C w ι σ.h b->F0 b) :
  ∀(ms:List AM)(vs:List Value)(xs ys:List AV),vs.length=xs.length->(∀(k:Nat)(v:Value)(x:AV),vs[k]? = some v->xs[k]? = some x->VR w (Fz C w ι σ.h) ι σ.h v x)->AV.dU σ.h ms xs=some ys->
   (∀ id b,id∈(cm ms xs).flatMap AV.refs->(∃ e sz m es,σ.h id = .sl e sz m es)->Has ι id b->F0 b)->((cm ms xs).flatMap AV.b9).Nodup->((cJ ms xs).flatMap AV.refs).Nodup->
   ∃ lb gb,ey w F0 vs ys lb gb/\dv σ ι gb ((cJ ms xs).flatMap AV.refs)/\
    lb.length=((cm ms xs).flatMap AV.b9).length/\(∀(k id:Nat),((cm ms xs).flatMap AV.b9)[k]? = some id->∃ b cs,lb[k]? = some b/\ι id=some b/\σ.h id = .box cs)/\(∀ id,id∈(cm ms xs).flatMap AV.refs->∃ e sz m es,σ.h id = .sl e sz m es)/\Full σ.h ((cm ms xs).flatMap AV.refs)
 | ms,[],[],ys,_,_,hy,_,_,_=>by
  rw[QOE]at hy
  cases hy;rw[QX5,QWp];exact⟨[],[],.nil,.nil,rfl,by simp,by simp,λid a8=>by simp at a8⟩
 | ms,[],_::_,ys,hl,_,_,_,_,_=>by simp at hl
 | ms,_::_,[],ys,hl,_,_,_,_,_=>by simp at hl
 | ms,v::vs,x::xs,ys,hl,hv,hy,cu,dV,fm=>by
  rw[QSe]at hy
  split at hy
  rotate_left
  ·cases hy
  rename_i y k7 hx iW
  cases hy;have lr:=hv 0 v x rfl rfl;obtain⟨gM,nc⟩:∃ gM,gM=ms.tail:=⟨_,rfl⟩
  rw[<- nc]at iW;have jW:∀(lb:List Nat)(ids:List Nat),lb.length=ids.length->(∀(k id:Nat),ids[k]? = some id->∃ b cs,lb[k]? = some b/\ι id=some b/\σ.h id = .box cs)->∀ id b,Has ι id b->(∃ e sz m es,σ.h id = .sl e sz m es)->b∉lb:=by
   intro lb ids h1 h2 id b hb ⟨e,sz,m,es,hh⟩ hm;obtain⟨k,hk,vJ⟩:=List.getElem_of_mem hm;obtain⟨b',cs',h5,h6,h7⟩:=h2 k _ (List.getElem?_eq_getElem (by omega));rw[List.getElem?_eq_getElem hk,vJ]at h5
   cases h5;have:=JN S hb (.inl h6);subst this;rw[hh]at h7
   cases h7
  cases hm:(ms.headD .d).h with
  | true =>
   have hD:cm ms (x::xs)=cm gM xs:=by rw[Pv,hm,if_pos rfl,nc]
   have hO:cJ ms (x::xs)=x::cJ gM xs:=by rw[Pu,hm,if_pos rfl,nc]
   rw[hD]at cu dV ⊢;rw[hO]at fm ⊢;simp only[List.flatMap_cons]at fm ⊢;have nf:=List.nodup_append.1 fm;obtain⟨lb,gb,h1,G,h2,h3,h4,tr⟩:=zw S hF gM vs xs k7 (by simpa using hl) (λk v x hk hx=>hv (k+1) v x hk hx) iW cu dV nf.2.1;have one:∀(sz id:Nat)(e e0:TypeId)(m m0:Mo)(es:List (List D)),x = .r sz id 0 es.length->HB (σ.h id) (.sl e sz m es)->σ.h id = .sl e0 sz m0 es->y = .ow e sz m es->
     ∃ lb gb,ey w F0 (v::vs) (y::k7) lb gb/\dv σ ι gb (x.refs++(cJ gM xs).flatMap AV.refs)/\lb.length=((cm gM xs).flatMap AV.b9).length/\(∀(k id:Nat),((cm gM xs).flatMap AV.b9)[k]? = some id->∃ b cs,lb[k]? = some b/\ι id=some b/\σ.h id = .box cs)/\
      (∀ id,id∈(cm gM xs).flatMap AV.refs->∃ e sz m es,σ.h id = .sl e sz m es)/\Full σ.h ((cm gM xs).flatMap AV.refs):=by
    rintro sz id e e0 m m0 es rfl hB hh rfl
    refine⟨lb,ib ι id (.sl e sz m es)::gb,.own v _ e sz m es vs k7 lb gb (Pw S hF hB hh lr) (λb hb=>⟨jW lb _ h2 h3 id b (vI.1 hb) ⟨_,_,_,_,hh⟩,λhg=>?_⟩) h1,by simpa[AV.refs,AV.bR]using G.cons hB,h2,h3,h4,tr⟩;obtain⟨b8,h5,h6⟩:=G.my.1 hg;have:=JN S (vI.1 hb) h6;subst this;exact nf.2.2 id (by simp[AV.refs,AV.bR]) id h5 rfl
   cases vK:ms.headD .d with
   | d=>rw[vK]at hm;cases hm
   | o =>
    rw[vK]at hx;simp only[AV.fV]at hx
    cases x with
    | r sz id off len =>
     simp only[AV.g9]at hx
     split at hx
     rotate_left
     ·cases hx
     rename_i e ba es hh
     split at hx
     rotate_left
     ·cases hx
     rename_i hc;obtain⟨rfl,rfl,rfl⟩:=hc
     cases hx;exact one ba id e e .ow .ow es rfl (.inl ⟨_,_,_,hh,rfl⟩) hh rfl
    | _=>simp[AV.g9]at hx
   | p =>
    rw[vK]at hx;simp only[AV.fV]at hx
    cases x with
    | r sz id off len =>
     simp only[AV.ir]at hx;obtain⟨e,g,t,es,hh,rfl,rfl,rfl⟩:=Px hx;exact one sz id 0 e _ _ es rfl (.inr ⟨_,_,_,_,_,hh,rfl⟩) hh rfl
    | a cs =>
     simp only[AV.ir]at hx
     split at hx
     rotate_left
     ·cases hx
     rename_i ds cp
     cases hx;generalize dJ:cs=fZ at *
     cases lr with
     | a arr _ fP fO iz =>
      obtain⟨g1,k1,k2,k3⟩:=Py S hF arr.toList fZ ds (by simpa using fP) (λk v x hk hx=>iz k v x (by simpa using hk) hx) cp nf.1;refine⟨lb,g1++gb,.agg arr ds vs k7 lb g1 gb k1 k3 (λu hu=>?_) (λb hb=>?_) h1,k2.append G,h2,h3,h4,tr⟩
      ·obtain⟨k,hk⟩:=List.getElem?_of_mem hu;exact fO k u (by simpa using hk)
      ·obtain⟨id,h5,h6⟩:=k2.my.1 hb;refine⟨jW lb _ h2 h3 id b h6 (k2.sl h5).1,λhg=>?_⟩;obtain⟨b8,h7,h8⟩:=G.my.1 hg;have:=JN S h6 h8;subst this;exact nf.2.2 id h5 id h7 rfl
    | _=>simp[AV.ir]at hx
  | false =>
  have vK:ms.headD .d = .d:=by cases hq:ms.headD .d <;> rw[hq]at hm <;> first | rfl | cases hm
  rw[vK]at hx;simp only[AV.fV]at hx;have hD:cm ms (x::xs)=x::cm gM xs:=by rw[Pv,hm,nc];rfl
  have hO:cJ ms (x::xs)=cJ gM xs:=by rw[Pu,hm,nc];rfl
  rw[hD]at cu dV ⊢;rw[hO]at fm ⊢;simp only[List.flatMap_cons]at cu dV;have lI:=(List.nodup_append.1 dV)
  obtain⟨lb,gb,h1,hG,h2,h3,h4,tr⟩:=zw S hF gM vs xs k7 (by simpa using hl) (λk v x hk hx=>hv (k+1) v x hk hx) iW (λid b a8=>cu id b (List.mem_append.2 (.inr a8))) lI.2.1 fm;have plain:∀(d:D),x.d σ.h=some d->x.refs=x.bR->x.b9=[]->y = .c d->∃ lb gb,ey w F0 (v::vs) (y::k7) lb gb/\dv σ ι gb ((cJ gM xs).flatMap AV.refs)/\
    lb.length=((x::cm gM xs).flatMap AV.b9).length/\(∀(k id:Nat),((x::cm gM xs).flatMap AV.b9)[k]? = some id->∃ b cs,lb[k]? = some b/\ι id=some b/\σ.h id = .box cs)/\(∀ id,id∈(x::cm gM xs).flatMap AV.refs->∃ e sz m es,σ.h id = .sl e sz m es)/\Full σ.h ((x::cm gM xs).flatMap AV.refs):=by
   intro d hd hr fv zr;subst zr;have cp:AV.ds σ.h [x]=some [d]:=by simp[AV.ds,hd]
   have ly:∀ id,id∈x.bR->∃ e sz m es,σ.h id = .sl e sz m es:=λid a8=>vw cp id (by simpa[AV.bM]using a8);have:Rd w F0 v d:=AV.jB S hF lr hd (λid b a8 hi=>cu id b (List.mem_append.2 (.inl (by rw[hr];exact a8))) (ly id a8) (.inl hi)) (λid b p a8 hk=>cu id b (List.mem_append.2 (.inl (by rw[hr];exact a8))) (ly id a8) (.inr ⟨p,hk⟩));refine⟨lb,gb,.eE v _ vs k7 lb gb (na this) h1 rfl,hG,by simpa[fv]using h2,by simpa[fv]using h3,λid a8=>?_,λid a8=>?_⟩
   ·rw[List.flatMap_cons]at a8
    rcases List.mem_append.1 a8 with a8 | a8
    ·exact ly id (by rw[<- hr];exact a8)
    ·exact h4 id a8
   ·rw[List.flatMap_cons]at a8
    rcases List.mem_append.1 a8 with a8 | a8
    ·exact O8 hd id (by rw[<- hr];exact a8)
    ·exact tr id a8
  cases x with
  | c d =>
   simp[AV.arg]at hx;exact plain d rfl rfl rfl hx.symm
  | n sz =>
   simp[AV.arg]at hx;exact plain _ rfl rfl rfl hx.symm
  | r sz id off len =>
   simp only[AV.arg]at hx
   split at hx
   rotate_left
   ·cases hx
   rename_i d hd
   cases hx;exact plain d hd rfl rfl rfl
  | b d0 id g pt =>
   simp only[AV.arg]at hx
   split at hx
   rotate_left
   ·cases hx
   rename_i d hd
   cases hx;exact plain d hd rfl rfl rfl
  | a cs =>
   simp only[AV.arg]at hx
   split at hx
   rotate_left
   ·cases hx
   rename_i ds cp
   cases hx;have d8:=AV.dX cp;have hrefs:=vw cp;have:VR w F0 noι tq v (.a (ds.map .c)):=by
    generalize dJ:cs=fZ at *
    cases lr with
    | a us _ fP fO iz =>
     refine .a us _ (by simp[d8.1,fP]) fO (λk u y hk hy=>?_);simp only[List.getElem?_map,Option.map_eq_some_iff]at hy;obtain⟨d,hd,rfl⟩:=hy;have aU:k<fZ.length:=by rw[<- d8.1];exact(List.getElem?_eq_some_iff.1 hd).1
     obtain⟨d',dD,eQ⟩:=d8.2 k _ (List.getElem?_eq_getElem aU);rw[hd]at dD
     cases dD;refine na (AV.jB S hF (iz k u _ hk (List.getElem?_eq_getElem aU)) eQ (λid b a8 hi=>?_) (λid b p a8 hi=>?_))
     ·have hm:=tf (List.getElem?_eq_getElem aU) a8;exact cu id b (List.mem_append.2 (.inl hm)) (hrefs id hm) (.inl hi)
     ·have hm:=tf (List.getElem?_eq_getElem aU) a8;exact cu id b (List.mem_append.2 (.inl hm)) (hrefs id hm) (.inr ⟨p,hi⟩)
   refine⟨lb,gb,.eE v _ vs k7 lb gb this h1 ?_,hG,by simpa[AV.b9]using h2,by simpa[AV.b9]using h3,λb8 a8=>?_,λb8 a8=>?_⟩
   ·simp only[AV.eE,List.all_eq_true];intro x hx;obtain⟨d,_,rfl⟩:=List.mem_map.1 hx;rfl
   ·rw[List.flatMap_cons]at a8
    rcases List.mem_append.1 a8 with a8 | a8
    ·exact hrefs b8 a8
    ·exact h4 b8 a8
   ·rw[List.flatMap_cons]at a8
    rcases List.mem_append.1 a8 with a8 | a8
    ·exact zm cp b8 a8
    ·exact tr b8 a8
  | p id i j =>
   match i,j,hx with
   | 0,0,hx =>
    simp only[AV.arg]at hx
    split at hx
    rotate_left
    ·cases hx
    rename_i cs hh
    split at hx
    rotate_left
    ·cases hx
    rename_i Pz
    split at hx
    rotate_left
    ·cases hx
    rename_i ds cp
    cases hx;have d8:=AV.dX cp;have dr:=S.fi id;rw[hh]at dr
    cases lr with
    | cT _ _ _ _ _ eQ=>rw[eQ]at hh;cases hh
    | p _ _ _ bk hi mj aiM =>
     rw[hh];simp only[aQ.sz,Nat.mul_zero,Nat.zero_add]
     cases dr with
     | box ml et bj _ bY eS hb fP fO dS =>
      rw[hi]at bY;cases bY;rw[eS];have dt:bk∉lb:=by
       intro hm;obtain⟨k,hk,vJ⟩:=List.getElem_of_mem hm;have gq:k<((cm gM xs).flatMap AV.b9).length:=by omega
       obtain⟨b',cs',h5,h6,_⟩:=h3 k _ (List.getElem?_eq_getElem gq);rw[List.getElem?_eq_getElem hk,vJ]at h5
       cases h5;have:=S.inj _ _ _ hi h6;exact lI.2.2 id (by simp[AV.b9]) _ (List.getElem_mem gq) this
      refine⟨bk::lb,gb,.box bk et bj _ vs k7 lb gb hb ⟨by simp[d8.1,fP],fO,λk u y hk hy=>?_⟩ (QMn cp) dt (λvL=>?_) h1,hG,by simp[AV.b9,h2],λk b8 hk=>?_,λb8 a8=>?_,λb8 a8=>?_⟩
      ·simp only[List.getElem?_map,Option.map_eq_some_iff]at hy;obtain⟨d,hd,rfl⟩:=hy;have aU:k<cs.length:=by rw[<- d8.1];exact(List.getElem?_eq_some_iff.1 hd).1
       obtain⟨d',dD,eQ⟩:=d8.2 k _ (List.getElem?_eq_getElem aU);rw[hd]at dD
       cases dD;refine na (AV.jB S hF (dS k u _ hk (List.getElem?_eq_getElem aU)) eQ (λid b a8 hi=>?_) (λid b p a8 hi=>?_))
       ·have hm:=tf (List.getElem?_eq_getElem aU) a8;rw[Pz]at hm
        cases hm
       ·have hm:=tf (List.getElem?_eq_getElem aU) a8;rw[Pz]at hm
        cases hm
      ·obtain⟨b8,h5,h6⟩:=hG.my.1 vL;have:=JN S h6 (.inl hi);subst this;obtain⟨⟨_,_,_,_,h7⟩,_⟩:=hG.sl h5;rw[hh]at h7
       cases h7
      ·simp only[List.flatMap_cons,AV.b9,List.singleton_append]at hk
       cases k with
       | zero=>simp at hk;subst hk;exact⟨bk,cs,rfl,hi,hh⟩
       | succ k=>simp at hk;simpa using h3 k b8 hk
      ·rw[List.flatMap_cons]at a8
       rcases List.mem_append.1 a8 with a8 | a8
       ·simp[AV.refs,AV.bR]at a8
       ·exact h4 b8 a8
      ·rw[List.flatMap_cons]at a8
       rcases List.mem_append.1 a8 with a8 | a8
       ·simp[AV.refs,AV.bR]at a8
       ·exact tr b8 a8
   | i+1,_,hx=>simp[AV.arg]at hx
   | 0,j+1,hx=>simp[AV.arg]at hx
  | u=>simp[AV.arg]at hx
  | q=>simp[AV.arg]at hx
  | t=>simp[AV.arg]at hx
  | bx=>simp[AV.arg]at hx
  | ow=>simp[AV.arg]at hx
  | bq=>simp[AV.arg]at hx
end
end Go.Proofs.YtdplaepmjogjjaaGreat.Am
namespace Go.Proofs.YtdplaepmjogjjaaGreat.Am
open Go Go.RowKit
section
variable {C:Ctx} {U U':Nat->Prop} {σ:St} {a:Act} {w:World} {ι:Io}
theorem cN.alive{x y:aQ}(h:cN x y):y.alive=true:=by
 cases x <;> cases y <;> first | rfl | exact h.elim
theorem QSv{x:aQ}{b:Nat}(h:x≠.none/\x≠.dead):x.sh b≠.none/\x.sh b≠.dead:=by
 cases x <;> simp_all [aQ.sh]
theorem QIs{x:aQ}(h:x≠.none/\x≠.dead):jw x≠.none/\jw x≠.dead:=by
 cases x <;> simp_all [jw]
theorem QIQ{x:aQ}{b:Nat}:(x.sh b).own=x.own:=by cases x <;> rfl
theorem QLs{y:aQ}(h:y.alive=true):y≠.none/\y≠.dead:=by
 cases y <;> simp_all [aQ.alive]
theorem qt{B0 x B:aQ}(hB:HB B0 x)(hs:B = .dead\/Yj x B):JH B0 B = .dead\/(∃ e sz m es bP m',B0 = .sl e sz m es/\JH B0 B = .sl e sz m' bP/\bP.length=es.length/\Mo.le m m'/\m.gen≠m'.gen.bind (λg=>some g)/\
  (B = .sl e sz m' bP/\m = .ow/\m'.gen=none\/∃ g t g1 t1,m = .dp g t []/\m' = .dp (g+1) false []/\B = .sl 0 sz (.dp g1 t1 []) bP))\/(∃ e sz es bP m',B0 = .sl e sz .ow es/\B = .sl e sz m' bP/\JH B0 B=B/\bP.length=es.length/\m'.gen=none/\Mo.le .ow m'):=by
 rcases hB with⟨e,sz,es,rfl,rfl⟩ | ⟨e,sz,g,t,es,rfl,rfl⟩
 ·rcases hs with rfl | hs
  ·exact .inl rfl
  ·cases B with
   | sl e' ba m' bP =>
    obtain⟨rfl,rfl,hl,ht,hm⟩:=hs;have jo:m'.gen=none:=by
     cases hx:m'.gen with
     | none=>rfl
     | some g=>have:=hm (by rw[hx];rfl);cases this
    exact .inr (.inr ⟨e',ba,es,bP,m',rfl,rfl,rfl,hl,jo,⟨λ_=>rfl,λg h=>by rw[jo]at h;cases h⟩⟩)
   | _=>exact hs.elim
 ·rcases hs with rfl | hs
  ·exact .inl rfl
  ·cases B with
   | sl e' ba m' bP =>
    obtain⟨rfl,rfl,hl,hm⟩:=hs
    cases m' with
    | dp g1 t1 H =>
     cases H with
     | nil=>exact .inr (.inl ⟨e,ba,_,es,bP,_,rfl,rfl,hl,⟨λh=>(by cases h),λg' h=>⟨g,rfl,(by cases h;omega)⟩⟩,(by simp[Mo.gen]),.inr ⟨g,t,g1,t1,rfl,rfl,rfl⟩⟩)
     | cons=>exact .inl rfl
    | _=>exact .inl rfl
   | _=>exact hs.elim
set_option maxHeartbeats 1000000 in
theorem Sat.called(S:Sat C U σ a w ι){b N:Nat}{r:ik}{refs b3 cp lb:List Nat}{gb:List Hd}{F0:Nat->Prop}{v:Value}{w':World}{ι':Io}
  (hb:∀ i,b<=i->i<b+N->U i) (bN:∀ i,U' i->U i/\¬ (b<=i/\i<b+N)) (zx:r.hb.length<=N)
  (vM:r.al=true->∀ k,F0 k->Fz C w (ι.loose refs) (bn σ.h (eU σ.h refs)) k) (hrefs:r.al=true->∀ id,id∈refs->∃ e sz m es,σ.h id = .sl e sz m es) (dW:r.al=true->Full σ.h refs)
  (dV:b3.Nodup) (hlen:lb.length=b3.length) (iA:∀(k id:Nat),b3[k]? = some id->∃ b cs,lb[k]? = some b/\ι id=some b/\σ.h id = .box cs)
  (gr:cp.Nodup) (G:dv σ ι gb cp) (mz:∀ id,id∈cp->id∉refs)
  (P:iy w F0 lb gb r v w' ι') :
  ∃ d9 ι'',bn σ.h (YM b (r.hb.map (aQ.sh b))++YO b3 r.bx++Yt σ.h cp r.gv++(if r.al then eU σ.h refs else []))=d9/\Sat C U' ⟨σ.t,d9,σ.nx⟩ a w' ι''/\VR w' (Fz C w' ι'' d9) ι'' d9 v (r.v.sh b)/\
   (∀ k,Fz C w ι σ.h k->Fz C w' ι'' d9 k/\w'.heap[k]? = w.heap[k]?)/\(∀ i,cZ w w' ι ι'' σ.h d9 i)/\
   (∀ i,¬ (b<=i/\i<b+N)->i∉b3->i∉cp->(r.al=true->i∉refs)->Rest w w' ι ι'' i/\d9 i=σ.h i):=by
 obtain⟨n,hn⟩:∃ n,n=r.hb.length:=⟨_,rfl⟩
 obtain⟨d9,lJ⟩:∃ d9,d9=bn σ.h (YM b (r.hb.map (aQ.sh b))++YO b3 r.bx++Yt σ.h cp r.gv++(if r.al then eU σ.h refs else [])):=⟨_,rfl⟩
 have qu:r.bx.length=b3.length:=P.EF.trans hlen;have nh:r.gv.length=cp.length:=P.EG.trans G.len;have d8:∀ id,id∈cp->∃ e sz m es,σ.h id = .sl e sz m es:=λid hm=>(G.sl hm).1;have oz:∀ id,id∈cp->(σ.h id).own=true:=λid hm=>(G.sl hm).2;have jI:∀ id,id∈b3->∃ bk cs,bk∈lb/\ι id=some bk/\σ.h id = .box cs:=by
  intro id hm;obtain⟨k,hk⟩:=List.getElem?_of_mem hm;obtain⟨bk,cs,h1,h2,h3⟩:=iA k _ hk;exact⟨bk,cs,List.mem_of_getElem? h1,h2,h3⟩
 have lK:∀ id,id∈b3->id∉cp:=by
  intro id hm vN;obtain⟨_,cs,_,_,h3⟩:=jI id hm;obtain⟨e,sz,m,es,h4⟩:=d8 id vN;rw[h4]at h3
  cases h3
 have vO:r.al=true->∀ id,id∈b3->id∉refs:=by
  intro ha id hm vN;obtain⟨_,cs,_,_,h3⟩:=jI id hm;obtain⟨e,sz,m,es,h4⟩:=hrefs ha id vN;rw[h4]at h3
  cases h3
 have gp:∀ i,i<n->d9 (i+b)=(r.h i).sh b:=by
  intro i hi;have vP:=S.fresh (i+b) (hb _ (by omega) (by omega));have h1:i+b∉b3:=λhm=>by
   obtain⟨_,cs,_,_,h3⟩:=jI _ hm;rw[vP.1]at h3
   cases h3
  have h2:r.al=true->i+b∉refs:=λha hm=>by
   obtain⟨e,sz,m,es,h3⟩:=hrefs ha _ hm;rw[vP.1]at h3
   cases h3
  have h0:i+b∉cp:=λhm=>by
   obtain⟨e,sz,m,es,h3⟩:=d8 _ hm;rw[vP.1]at h3
   cases h3
  have ff:bn (bn (bn σ.h (YM b (r.hb.map (aQ.sh b)))) (YO b3 r.bx)) (Yt σ.h cp r.gv) (i+b)=(r.h i).sh b:=by
   rw[(vH σ.h cp r.gv _ (i+b) gr nh).1 h0,(zv b3 r.bx _ (i+b) dV qu).1 h1,Pt,if_pos ⟨by omega,by simp;omega⟩];have:i<r.hb.length:=by omega
   simp[ik.h,this]
  rw[lJ,Jl,Jl,Jl]
  cases ha:r.al
  ·simpa[bn]using ff
  ·simp only[if_true];rw[Yx,if_neg (h2 ha)];exact ff
 have fv:∀(k id:Nat)(cs:List AV),b3[k]? = some id->r.bx[k]? = some cs->d9 id = .box cs:=by
  intro k id cs hk dJ;have hm:id∈b3:=List.mem_of_getElem? hk;rw[lJ,Jl,Jl,Jl];have ff:bn (bn (bn σ.h (YM b (r.hb.map (aQ.sh b)))) (YO b3 r.bx)) (Yt σ.h cp r.gv) id = .box cs:=by
   rw[(vH σ.h cp r.gv _ id gr nh).1 (lK id hm)];exact(zv b3 r.bx (bn σ.h (YM b (r.hb.map (aQ.sh b)))) id dV qu).2 k cs hk dJ
  cases ha:r.al
  ·simpa[bn]using ff
  ·simp only[if_true];rw[Yx,if_neg (vO ha id hm)];exact ff
 have vQ:∀(k id:Nat)(B:aQ),cp[k]? = some id->r.gv[k]? = some B->d9 id=JH (σ.h id) B:=by
  intro k id B hk hB;have hm:id∈cp:=List.mem_of_getElem? hk;have ff:=(vH σ.h cp r.gv (bn (bn σ.h (YM b (r.hb.map (aQ.sh b)))) (YO b3 r.bx)) id gr nh).2 k B hk hB;rw[lJ,Jl,Jl,Jl]
  cases ha:r.al
  ·simpa[bn]using ff
  ·simp only[if_true];rw[Yx,if_neg (mz id hm)];exact ff
 have hold:∀ i,¬ (b<=i/\i<b+n)->i∉b3->i∉cp->d9 i=if r.al=true/\i∈refs then jw (σ.h i) else σ.h i:=by
  intro i h1 h2 h0;have ff:bn (bn (bn σ.h (YM b (r.hb.map (aQ.sh b)))) (YO b3 r.bx)) (Yt σ.h cp r.gv) i=σ.h i:=by
   rw[(vH σ.h cp r.gv _ i gr nh).1 h0,(zv b3 r.bx _ i dV qu).1 h2,Pt,if_neg (by simpa[<- hn]using h1)]
  rw[lJ,Jl,Jl,Jl]
  cases ha:r.al
  ·simpa[bn]using ff
  ·simp only[if_true,true_and];rw[Yx]
   split
   ·rfl
   ·exact ff
 obtain⟨zy,ni⟩:∃ zy:Nat->Option (Nat × cE),zy=λk=>match ι'.k k with
   | some (i,p)=>if i<n then some (i+b,p) else(match cp[i-n]? with | some x=>if(d9 x).alive=true then some (x,p) else none | none=>none)
   | none=>match ι.k k with
    | some (y,p)=>if y∈cp\/(r.al=true/\y∈refs) then none else some (y,p)
    | none=>none:=⟨_,rfl⟩
 obtain⟨ι'',hι''⟩:∃ ι'':Io,ι''=⟨λi=>if b<=i/\i<b+n then ι' (i-b) else if i∈cp/\(d9 i).alive=false then Option.none else ι i,zy,λi=>if b<=i/\i<b+n then ι'.o (i-b) else ι.o i⟩:=⟨_,rfl⟩
 have fk:ι''.k=zy:=by rw[hι'']
 have hιn:∀ i,i<n->ι'' (i+b)=ι' i:=λi hi=>by rw[hι''];simp only;rw[if_pos (by omega)];congr 1;omega
 have hιno:∀ i,i<n->ι''.o (i+b)=ι'.o i:=λi hi=>by rw[hι''];simp only;rw[if_pos (by omega)];congr 1;omega
 have hιoo:∀ i,¬ (b<=i/\i<b+n)->ι''.o i=ι.o i:=λi hi=>by rw[hι''];simp only;rw[if_neg hi]
 have hιq:∀ i,¬ (b<=i/\i<b+n)->ι'' i=if i∈cp/\(d9 i).alive=false then Option.none else ι i:=λi hi=>by rw[hι''];simp only;rw[if_neg hi]
 have hιo:∀ i,¬ (b<=i/\i<b+n)->i∉cp->ι'' i=ι i:=λi hi h0=>by rw[hιq i hi,if_neg (λh=>h0 h.1)]
 have hιa:∀ i,¬ (b<=i/\i<b+n)->(d9 i).alive=true->ι'' i=ι i:=λi hi h0=>by rw[hιq i hi,if_neg (λh=>by rw[h0]at h;cases h.2)]
 have hιs:∀ i k,¬ (b<=i/\i<b+n)->ι'' i=some k->ι i=some k/\(i∈cp->(d9 i).alive=true):=λi k hi hk=>by
  rw[hιq i hi]at hk
  split at hk
  ·cases hk
  ·rename_i h0;refine⟨hk,λhm=>?_⟩
   cases hx:(d9 i).alive with
   | true=>rfl
   | false=>exact absurd ⟨hm,hx⟩ h0
 have db:∀ i,n<=i->r.h i = .none:=λi hi=>by simp[ik.h,List.getElem?_eq_none (show r.hb.length<=i by omega)]
 have lL:∀ i,i<n->ι'' (i+b)=ι' i/\ι''.o (i+b)=ι'.o i/\d9 (i+b)=(r.h i).sh b:=λi hi=>⟨hιn i hi,hιno i hi,gp i hi⟩
 have j3:∀ i,b<=i/\i<b+n->σ.h i = .none/\ι i=Option.none:=λi hi=>S.fresh i (hb i hi.1 (by omega));have dm:∀ i,b<=i/\i<b+n->∃ j,j<n/\i=j+b:=λi hi=>⟨i-b,by omega,by omega⟩
 have ld:∀ j,j<n->((r.hb++r.gv)[j]?).getD .none=r.h j:=λj hj=>by simp only[ik.h];rw[List.getElem?_append_left (by omega)]
 have PA:∀ k,(r.hb++r.gv)[n+k]? = r.gv[k]?:=λk=>by rw[List.getElem?_append_right (by omega)];congr 1;omega
 have gN:∀ i,i∈cp->∃(j:Nat)(B B1:aQ),cp[j]? = some i/\gb[j]? = some (ib ι i B1)/\HB (σ.h i) B1/\r.gv[j]? = some B/\d9 i=JH (σ.h i) B/\(B = .dead\/Yj B1 B/\ι' (n+j)=ι i/\ι'.o (n+j)=ι.o i/\BR w' (mw w w' F0 gb r ι') ι' r.h (n+j) B/\∀ k,ι i=some k->w'.shape? k=w.shape? k):=by
  intro i hm;obtain⟨j,hj⟩:=List.getElem?_of_mem hm;obtain⟨B1,h1,h2⟩:=G.get j _ hj;have mq:=(List.getElem?_eq_some_iff.1 hj).1;have hB:r.gv[j]? = some (r.gv[j]'(by omega)):=List.getElem?_eq_getElem (by omega);have h4:=vQ j _ _ hj hB;have h5:=P.gv j _ _ h1 hB;rw[<- hn]at h5;exact⟨j,_,B1,hj,h1,h2,hB,h4,h5⟩
 have nj:∀ i j j',cp[j]? = some i->cp[j']? = some i->j=j':=λi j j' h1 h2=>(List.getElem?_inj (List.getElem?_eq_some_iff.1 h1).1 gr).1 (h1.trans h2.symm);have dT:∀ i,i∈cp->(d9 i).alive=true->∃(j:Nat)(B B1:aQ),cp[j]? = some i/\r.gv[j]? = some B/\d9 i=JH (σ.h i) B/\HB (σ.h i) B1/\Yj B1 B/\ι' (n+j)=ι i/\ι'.o (n+j)=ι.o i/\BR w' (mw w w' F0 gb r ι') ι' r.h (n+j) B/\∀ k,ι i=some k->w'.shape? k=w.shape? k:=by
  intro i hm dP;obtain⟨j,B,B1,h1,h2,h3,h4,h5,h6⟩:=gN i hm
  rcases h6 with rfl | ⟨h6,h7,h8,h9,nk⟩
  ·rcases h3 with⟨e,sz,es,q1,_⟩ | ⟨e,sz,g,t,es,q1,_⟩
   ·rw[h5,q1]at dP;cases dP
   ·rw[h5,q1]at dP;cases dP
  ·exact⟨j,B,B1,h1,h4,h5,h3,h6,h7,h8,h9,nk⟩
 have j4:∀ id k,id∈b3->ι id=some k->k∈lb/\(σ.h id).own=true:=by
  intro id k hm hk;obtain⟨bk,cs,h1,h2,h3⟩:=jI id hm;rw[hk]at h2
  cases h2;exact⟨h1,by rw[h3];rfl⟩
 have iB:∀ k,k∈lb->∃ id,id∈b3/\ι id=some k:=by
  intro k hm;obtain⟨j,hj,kB⟩:=List.getElem_of_mem hm;have jq:j<b3.length:=by omega
  obtain⟨b',cs,h1,h2,h3⟩:=iA j _ (List.getElem?_eq_getElem jq);rw[List.getElem?_eq_getElem hj,kB]at h1
  cases h1;exact⟨_,List.getElem_mem jq,h2⟩
 have dY:∀ k,k<w.heap.size->k∉lb->¬ ZP gb k->w'.heap[k]? = w.heap[k]?:=P.block;have iC:∀ k,Fz C w ι σ.h k->¬ ZP gb k:=by
  intro k hk hg;obtain⟨id,h1,h2⟩:=G.my.1 hg
  rcases h2 with h2 | ⟨p,h2⟩
  ·have:=hk.2.2.1 id h2;rw[oz id h1]at this
   cases this
  ·rw[hk.2.2.2]at h2;cases h2
 have i5:∀ k,ZP gb k->C.fr k/\k<w.heap.size:=by
  intro k hg;obtain⟨id,h1,h2⟩:=G.my.1 hg
  rcases h2 with h2 | ⟨p,h2⟩
  ·obtain⟨e,sz,m,es,h3⟩:=d8 id h1;obtain⟨h4,h5⟩:=S.eh id k h2;exact⟨h4.elim (λh=>h) λ⟨_,cs,h4⟩=>(by rw[h3]at h4;cases h4),h5⟩
  ·have L:=S.dg k id p h2;exact⟨L.fr,L.lt⟩
 have gC:∀ k i,ZP gb k->ι i=some k->i∈cp:=by
  intro k i hg hi;obtain⟨id,h1,h2⟩:=G.my.1 hg;rw[JN S (.inl hi) h2];exact h1
 have fB:∀ k i p,ZP gb k->ι.k k=some (i,p)->i∈cp:=by
  intro k i p hg hi;obtain⟨id,h1,h2⟩:=G.my.1 hg;rw[JN S (.inr ⟨p,hi⟩) h2];exact h1
 have vR:∀ k,Fz C w ι σ.h k->k∉lb:=by
  intro k hk hm;obtain⟨id,h1,h2⟩:=iB k hm;have h3:=hk.2.2.1 id h2;rw[(j4 id k h1 h2).2]at h3
  cases h3
 have fH:∀ k i p,ι'.k k=some (i,p)->k<w.heap.size->ZP gb k:=λk i p hk aU=>by
  obtain⟨_,_,h1,_⟩:=P.dg k i p hk;exact h1.elim (λh=>by omega) (λh=>h)
 have EI:∀ k i p,ι.k k=some (i,p)->i∉cp->(r.al=true->i∉refs)->ι''.k k=some (i,p):=by
  intro k i p hk h1 h2;have L:=S.dg k i p hk;have:ι'.k k=none:=by
   cases hx:ι'.k k with
   | none=>rfl
   | some z=>obtain⟨z,q⟩:=z;exact absurd (fB k i p (fH k z q hx L.lt) hk) h1
  rw[fk,ni];simp only[this,hk];rw[if_neg (λh=>h.elim h1 (λh=>h2 h.1 h.2))]
 have iD:∀ k i p,ι''.k k=some (i,p)->(∃ j,j<n/\i=j+b/\ι'.k k=some (j,p))\/(∃ j,cp[j]? = some i/\(d9 i).alive=true/\ι'.k k=some (n+j,p))\/(ι'.k k=none/\ι.k k=some (i,p)/\i∉cp/\(r.al=true->i∉refs)):=by
  intro k i p hk;rw[fk,ni]at hk;simp only at hk
  split at hk
  ·rename_i z q hz
   split at hk
   ·rename_i h1;cases hk;exact .inl ⟨z,h1,rfl,hz⟩
   ·rename_i h1
    split at hk
    rotate_left
    ·cases hk
    rename_i x hx
    split at hk
    rotate_left
    ·cases hk
    rename_i dP
    cases hk;exact .inr (.inl ⟨z-n,hx,dP,by rw[hz];congr 2;omega⟩)
  ·rename_i hz
   split at hk
   rotate_left
   ·cases hk
   rename_i y q hy
   split at hk
   ·cases hk
   ·rename_i h1
    cases hk;simp only[not_or,not_and]at h1;exact .inr (.inr ⟨hz,hy,h1.1,h1.2⟩)
 have lM:∀ k i p,ι.k k=some (i,p)->i∉cp->w'.heap[k]? = w.heap[k]?:=λk i p hk h1=>dY k (S.dg k i p hk).lt (λhm=>by
  obtain⟨id,_,h2⟩:=iB k hm;exact(S.dg k i p hk).ne id h2) (λhg=>h1 (fB k i p hg hk))
 have jJ:∀ k i,ι i=some k->i∉cp->i∉b3->w'.heap[k]? = w.heap[k]?:=λk i hk h1 h2=>dY k (S.eh i k hk).2 (λhm=>by
  obtain⟨id,h3,h4⟩:=iB k hm;exact h2 (by rw[S.inj i id k hk h4];exact h3)) (λhg=>h1 (gC k i hg hk))
 have bU:∀ i,¬ (b<=i/\i<b+n)->i∉b3->i∉cp->(r.al=true->i∉refs)->Rest w w' ι ι'' i/\d9 i=σ.h i:=λi h1 h2 h3 h4 =>
  ⟨⟨hιo i h1 h3,hιoo i h1,λk hk=>jJ k i hk h3 h2,λk p hk=>⟨EI k i p hk h3 h4,lM k i p hk h3⟩⟩,by rw[hold i h1 h2 h3,if_neg (λh=>h4 h.1 h.2)]⟩
 have hF:∀ k,Fz C w ι σ.h k->Fz C w' ι'' d9 k/\w'.heap[k]? = w.heap[k]?:=by
  intro k hk;refine⟨⟨by have:=hk.1;have:=P.size;omega,hk.2.1,λi hi=>?_,?_⟩,dY k hk.1 (vR k hk) (iC k hk)⟩
  ·by_cases hc:b<=i/\i<b+n
   ·obtain⟨j,hj,rfl⟩:=dm i hc;rw[hιn j hj]at hi
    rcases(P.eh j k hi).1 with h5 | h5
    ·have:=hk.1;omega
    ·exact absurd h5 (iC k hk)
   ·have hi:=(hιs i k hc hi).1;have cu:=hk.2.2.1 i hi;have i0:i∉b3:=λhm=>by rw[(j4 i k hm hi).2]at cu;cases cu
    have hnh:i∉cp:=λhm=>by rw[oz i hm]at cu;cases cu
    rw[hold i hc i0 hnh]
    split
    ·cases hx:(jw (σ.h i)).own with
     | false=>rfl
     | true=>rw[OW _ hx]at cu;cases cu
    ·exact cu
  ·cases hx:ι''.k k with
   | none=>rfl
   | some z =>
    obtain⟨z,q⟩:=z
    rcases iD k z q hx with⟨j,_,_,h1⟩ | ⟨j,_,_,h1⟩ | ⟨_,h1,_⟩
    ·exact absurd (fH k _ _ h1 hk.1) (iC k hk)
    ·exact absurd (fH k _ _ h1 hk.1) (iC k hk)
    ·rw[hk.2.2.2]at h1;cases h1
 have hg:∀ i,cZ w w' ι ι'' σ.h d9 i:=by
  intro i;by_cases hc:b<=i/\i<b+n
  ·exact .inl (j3 i hc).1
  ·by_cases hl:i∈b3
   ·obtain⟨j,hj,kB⟩:=List.getElem_of_mem hl;obtain⟨b',cs,h1,h2,h3⟩:=iA j _ (List.getElem?_eq_getElem hj);have jq:j<r.bx.length:=by omega
    have h4:=fv j _ _ (List.getElem?_eq_getElem hj) (List.getElem?_eq_getElem jq);obtain⟨_,h6,e,bj,h7,h8⟩:=P.bx j b' _ h1 (List.getElem?_eq_getElem jq);rw[kB]at h2 h3 h4;unfold cZ;right;right;refine⟨hιo i hc (lK i hl),hιoo i hc,?_,λk hk=>?_,λg h=>?_⟩
    ·rw[h3,h4];have dr:=S.fi i;rw[h3]at dr
     cases dr with
     | box bk et vs _ bY _ mI fP _ _ =>
      rw[h2]at bY;cases bY;unfold World.shape? at h6;rw[mI,h7]at h6;simp only[Option.some.injEq,Prod.mk.injEq]at h6;show(r.bx[j]).length=cs.length;rw[<- h8.size,h6.2,fP]
    ·rw[h2]at hk;cases hk;exact h6
    ·rw[h3]at h;cases h
   ·by_cases hh:i∈cp
    ·cases dP:(d9 i).alive with
     | false =>
      obtain⟨j,B,B1,h1,h2,h3,h4,h5,h6⟩:=gN i hh
      rcases qt h3 (h6.imp (λh=>h) (λh=>h.1)) with q | ⟨e,sz,m,es,bP,m',q1,q2,_⟩ | ⟨e,sz,es,bP,m',q1,q2,q3,_⟩
      ·exact .inr (.inl (h5.trans q))
      ·rw[h5,q2]at dP;cases dP
      ·rw[h5,q3,q2]at dP;cases dP
     | true =>
      obtain⟨j,B,B1,h1,h2,h3,h4,h5,h6,h7,h8,h9⟩:=dT i hh dP;unfold cZ;right;right;refine⟨hιa i hc dP,hιoo i hc,?_,h9,λg k1 k2=>?_⟩
      ·rcases qt h4 (.inr h5) with q | ⟨e,sz,m,es,bP,m',q1,q2,q3,q4,_⟩ | ⟨e,sz,es,bP,m',q1,q2,q3,q4,_,q5⟩
       ·rw[h3,q]at dP;cases dP
       ·rw[h3,q2,q1];exact⟨rfl,rfl,q3,q4⟩
       ·rw[h3,q3,q2,q1];exact⟨rfl,rfl,q4,q5⟩
      ·exfalso
       rcases qt h4 (.inr h5) with q | ⟨e,sz,m,es,bP,m',q1,q2,q3,q4,_,q6⟩ | ⟨e,sz,es,bP,m',q1,q2,q3,q4,q5,_⟩
       ·rw[h3,q]at dP;cases dP
       ·rw[q1]at k1;rw[h3,q2]at k2
        rcases q6 with⟨_,rfl,_⟩ | ⟨g1,t1,g2,t2,rfl,rfl,_⟩
        ·cases k1
        ·simp only[aQ.gen,Mo.gen,Option.some.injEq]at k1 k2;omega
       ·rw[q1]at k1;cases k1
    ·by_cases hr:r.al=true/\i∈refs
     ·unfold cZ;rw[hold i hc hl hh,if_pos hr];have PB:∀ k,ι i=some k->w'.shape? k=w.shape? k:=λk hk=>by
       unfold World.shape?;rw[jJ k i hk hh hl]
      cases hx:σ.h i with
      | none=>exact .inl rfl
      | dead=>exact .inr (.inl rfl)
      | box cs=>exact .inr (.inr ⟨hιo i hc hh,hιoo i hc,rfl,PB,λg h=>by cases h⟩)
      | sl e sz m es=>exact .inr (.inr ⟨hιo i hc hh,hιoo i hc,⟨rfl,rfl,rfl,Mo.og m⟩,PB,λg _ h=>by cases h⟩)
     ·obtain⟨h1,h2⟩:=bU i hc hl hh (λha hm=>hr ⟨ha,hm⟩);exact h1.gE h2
 have j5:∀ k,mw w w' F0 gb r ι' k->Fz C w' ι'' d9 k:=by
  intro k ⟨h1,h2,h3,h4⟩;have nm:∀ i,¬ (b<=i/\i<b+n)->ι'' i=some k->(d9 i).own=false:=by
   intro i hc jD;obtain⟨hi,dP⟩:=hιs i k hc jD;by_cases hh:i∈cp
   ·obtain⟨j,B,B1,g1,g2,g3,g4,g5,g6,_⟩:=dT i hh (dP hh);have:=h3 (n+j) (g6.trans hi);rw[PA,g2]at this;simp only[Option.getD_some]at this
    rcases qt g4 (.inr g5) with q | ⟨e,sz,m,es,bP,m',q1,q2,q3,q4,_,q6⟩ | ⟨e,sz,es,bP,m',q1,q2,q3,q4,_⟩
    ·rw[g3,q];rfl
    ·rcases q6 with⟨rfl,_,_⟩ | ⟨g,t,u5,t1,_,_,rfl⟩
     ·rw[g3,q2];exact this
     ·cases this
    ·rw[g3,q3];exact this
   rcases h2 with⟨ha,h2⟩ | h2 | h2
   ·have hz:=(vM ha k h2).2.2.1 i hi;rw[Yx]at hz;have i0:i∉b3:=λhm=>by
     obtain⟨_,cs,_,_,h6⟩:=jI i hm;rw[h6]at hz
     split at hz <;> cases hz
    rw[hold i hc i0 hh]
    split
    ·rename_i EJ;rw[if_pos EJ.2]at hz;exact hz
    ·rename_i EJ;rw[if_neg (λhm=>EJ ⟨ha,hm⟩)]at hz;exact hz
   ·have:=(S.eh i k hi).2;omega
   ·exact absurd (gC k i h2 hi) hh
  refine⟨h1,?_,λi hi=>?_,?_⟩
  ·rcases h2 with⟨ha,h2⟩ | h2 | h2
   ·exact(vM ha k h2).2.1
   ·have:=S.dE.size;exact .inr (.inl (by omega))
   ·exact .inr (i5 k h2).1
  ·by_cases hc:b<=i/\i<b+n
   ·obtain⟨j,hj,rfl⟩:=dm i hc;rw[hιn j hj]at hi;rw[gp j hj];have:=h3 j hi;rw[ld j hj]at this;rw[QIQ];exact this
   ·exact nm i hc hi
  ·cases hx:ι''.k k with
   | none=>rfl
   | some z =>
    obtain⟨z,q⟩:=z
    rcases iD k z q hx with⟨j,_,_,g1⟩ | ⟨j,_,_,g1⟩ | ⟨_,g1,g2,g3⟩
    ·rw[h4]at g1;cases g1
    ·rw[h4]at g1;cases g1
    ·have L:=S.dg k z q g1
     rcases h2 with⟨ha,h2⟩ | h2 | h2
     ·have:=(vM ha k h2).2.2.2;have h5:=Io.eL.2 ⟨g1,g3 ha⟩;rw[this]at h5
      cases h5
     ·have:=L.lt;omega
     ·exact absurd (fB k z q h2 g1) g2
 have iZ:∀ p j k,p<n->¬ (b<=j/\j<b+n)->ι' p=some k->ι'' j=some k->False:=by
  intro p j k hpn hc hp hj;obtain⟨h1,h2⟩:=hιs j k hc hj
  rcases(P.eh p k hp).1 with h3 | h3
  ·have:=(S.eh j k h1).2;omega
  ·have h4:=gC k j h3 h1;obtain⟨i,B,B1,_,_,_,_,_,g6,_⟩:=dT j h4 (h2 h4);have:=P.inj p (n+i) k hp (g6.trans h1);omega
 have j6:∀ k i p,ι'.k k=some (i,p)->∀ j,ι'' j≠some k:=by
  intro k i p hk j hj;obtain⟨_,_,h1,h2,h3⟩:=P.dg k i p hk;by_cases hc:b<=j/\j<b+n
  ·obtain⟨q,hq,rfl⟩:=dm j hc;rw[hιn q hq]at hj;exact h3 q hj
  ·obtain⟨h4,h5⟩:=hιs j k hc hj
   rcases h1 with h1 | h1
   ·have:=(S.eh j k h4).2;omega
   ·have h6:=gC k j h1 h4;obtain⟨q,B,B1,_,_,_,_,_,g6,_⟩:=dT j h6 (h5 h6);exact h3 (n+q) (g6.trans h4)
 refine⟨d9,ι'',lJ.symm,S.ej ?_ hF hg (λi cs hx=>?_) (λi=>?_) (λi j k hi hj=>?_) (λi k hi=>?_) (λi hi=>?_) (λi k hi=>?_) (λk i p hk=>?_),(P.val.shift lL db).up j5,hF,hg,λi h1 h2 h3 h4=>bU i (λh=>h1 ⟨h.1,by omega⟩) h2 h3 h4⟩
 ·refine⟨P.os.trans S.dE.os,P.tape.trans S.dE.tape,P.output.trans S.dE.output,Nat.le_trans S.dE.size P.size,λk hk hX=>?_⟩;rw[dY k (by have:=S.dE.size;omega) (λhm=>?_) (λhm=>?_)]
  ·exact S.dE.block k hk hX
  ·obtain⟨id,h1,h2⟩:=iB k hm
   rcases(S.eh id k h2).1 with h3 | ⟨h3,_⟩
   ·exact h3.dE.elim (λh=>by omega) hX
   ·exact hX h3
  ·exact(i5 k hm).1.dE.elim (λh=>by omega) hX
 ·by_cases hc:b<=i/\i<b+n
  ·rw[(S.fresh i (hb i hc.1 (by omega))).1]at hx;cases hx
  ·by_cases hl:i∈b3
   ·obtain⟨j,hj,kB⟩:=List.getElem_of_mem hl;have jq:j<r.bx.length:=by omega
    have h4:=fv j _ _ (List.getElem?_eq_getElem hj) (List.getElem?_eq_getElem jq);rw[kB]at h4;rw[h4];simp
   ·by_cases hh:i∈cp
    ·obtain⟨e,sz,m,es,h3⟩:=d8 i hh;rw[hx]at h3
     cases h3
    rw[hold i hc hl hh,hx]
    split <;> simp[jw]
 ·by_cases hc:b<=i/\i<b+n
  ·right;obtain⟨j,hj,rfl⟩:=dm i hc;rw[gp j hj];refine(P.fi j (by omega)).shift j5 lL db hj (λk p hk=>?_);rw[fk,ni];simp only[hk];rw[if_pos hj]
  ·by_cases hl:i∈b3
   ·right;obtain⟨j,hj,kB⟩:=List.getElem_of_mem hl;obtain⟨b',cs,h1,h2,h3⟩:=iA j _ (List.getElem?_eq_getElem hj);have jq:j<r.bx.length:=by omega
    have h4:=fv j _ _ (List.getElem?_eq_getElem hj) (List.getElem?_eq_getElem jq);obtain⟨h5,_,e,bj,h7,h8⟩:=P.bx j b' _ h1 (List.getElem?_eq_getElem jq);rw[kB]at h2 h3 h4;have vS:=S.fi i;rw[h3]at vS;rw[h4]
    cases vS with
    | box _ _ _ _ _ eS =>
    refine .box b' e bj _ ((hιo i hc (lK i hl)).trans h2) ((hιoo i hc).trans eS) h7 h8.size h8.one (λk v x hk hx=>?_);have hx5:=List.all_eq_true.1 h5 x (List.mem_of_getElem? hx)
    cases x with
    | c d=>exact(h8.vr k v _ hk hx).data j5
    | _=>simp[mv]at hx5
   ·by_cases hh:i∈cp
    ·right
     cases dP:(d9 i).alive with
     | false =>
      obtain⟨j,B,B1,h1,h2,h3,h4,h5,h6⟩:=gN i hh
      rcases qt h3 (h6.imp (λh=>h) (λh=>h.1)) with q | ⟨e,sz,m,es,bP,m',q1,q2,_⟩ | ⟨e,sz,es,bP,m',q1,q2,q3,_⟩
      ·rw[h5,q];exact .dead
      ·rw[h5,q2]at dP;cases dP
      ·rw[h5,q3,q2]at dP;cases dP
     | true =>
      obtain⟨j,B,B1,h1,h2,h3,h4,h5,h6,h7,h8,h9⟩:=dT i hh dP;have hιi:=hιa i hc dP;have zp:cp[n+j-n]? = some i:=by rw[show n+j-n=j by omega];exact h1
      have jX:∀ k p,ι'.k k=some (n+j,p)->ι''.k k=some (i,p):=λk p hk=>by
       rw[fk,ni];simp only[hk];rw[if_neg (by omega),zp];simp only[dP,if_true]
      have fin:∀(vn:TypeId)(e sz:Nat)(m m':Mo)(bP:List (List D)),B = .sl vn sz m bP->(m'.eZ=true->m.eZ=true/\vn=e)->(∀(k:Nat) p q v d,RM w' (mw w w' F0 gb r ι') ι' (n+j) m p q v d->RM w' (Fz C w' ι'' d9) ι'' i m' p q v d)->
        BR w' (Fz C w' ι'' d9) ι'' d9 i (.sl e sz m' bP):=by
       intro vn e sz m m' bP oA ht hRM;rw[oA]at h8
       cases h8 with
       | slnil _ _ _ hz hi=>exact .slnil e sz m' hz (hιi.trans (h6.symm.trans hi))
       | sl bk _ e1 _ _ _ cur hz hi hb eO hle cX bV hv =>
        refine .sl bk e e1 sz m' bP cur hz (hιi.trans (h6.symm.trans hi)) hb (λh=>?_) (by rw[hιoo i hc,<- h7];exact hle) cX bV (λp q x d hx hd=>?_)
        ·obtain⟨k1,k2⟩:=ht h;rw[<- k2,hιoo i hc,<- h7];exact eO k1
        ·obtain⟨u,k1,k2⟩:=hv p q x d hx hd;exact⟨u,by rw[hιoo i hc,<- h7];exact k1,hRM 0 p q u d k2⟩
      rcases qt h4 (.inr h5) with q | ⟨e,sz,m,es,bP,m',q1,q2,q3,q4,_,q6⟩ | ⟨e,sz,es,bP,m',q1,q2,q3,q4,q5,_⟩
      ·rw[h3,q];exact .dead
      ·rw[h3,q2]
       rcases q6 with⟨oA,_,jo⟩ | ⟨g,t,u5,t1,_,rfl,oA⟩
       ·refine fin e e sz m' m' bP oA (λh=>⟨h,rfl⟩) (λ_ p q v d h=>?_)
        cases m' with
        | dp=>cases jo
        | _=>exact Rd.mono (λb hb=>⟨j5 b hb,rfl⟩) h
       ·exact fin 0 e sz (.dp u5 t1 []) (.dp (g+1) false []) bP oA (λh=>by cases h) (λ_ p q v d h=>⟨h.1,λ_=>RL.map (h.2 (by simp)) _ (λ(k:Nat)(r':cE) hk=>⟨jX k _ hk,rfl⟩)⟩)
      ·rw[h3,q3,q2];refine fin e e sz m' m' bP q2 (λh=>⟨h,rfl⟩) (λ_ p q v d h=>?_)
       cases m' with
       | dp=>cases q5
       | _=>exact Rd.mono (λb hb=>⟨j5 b hb,rfl⟩) h
    ·by_cases hr:r.al=true/\i∈refs
     ·right;have ho:=hold i hc hl hh;rw[if_pos hr]at ho;rw[ho];obtain⟨e,sz,m,es,hx⟩:=hrefs hr.1 i hr.2;have mn:=dW hr.1 i hr.2 e sz m es hx;have vS:=S.fi i;rw[hx]at vS ⊢
      cases vS with
      | slnil _ _ _ hz hi=>exact .slnil e sz .fz hz ((hιo i hc hh).trans hi)
      | sl bk _ e1 _ _ _ cur hz hi hb eO hle cX bV hv =>
       refine .sl bk e e1 sz .fz es cur hz ((hιo i hc hh).trans hi) ((jJ bk i hi hh hl).trans hb) (λh=>by cases h) (by rw[hιoo i hc];exact hle) cX bV (λp q x d mS hd=>?_);obtain⟨u,k1,k2⟩:=hv p q x d mS hd;have k3:Rd w (λk=>Fz C w ι σ.h k\/∃ p,ι.k k=some (i,p)) u d:=k2.rd mn (λb hb=>.inl hb) (λb p hk=>.inr ⟨p,hk⟩);refine⟨u,by rw[hιoo i hc];exact k1,Rd.mono (λk hk=>?_) k3⟩
       rcases hk with hk | ⟨p',hk⟩
       ·exact hF k hk
       ·have L:=S.dg k i p' hk;refine⟨⟨by have:=L.lt;have:=P.size;omega,.inr L.fr,λz hz=>?_,?_⟩,lM k i p' hk hh⟩
        ·exfalso;by_cases PC:b<=z/\z<b+n
         ·obtain⟨q',hq',rfl⟩:=dm z PC;rw[hιn q' hq']at hz
          rcases(P.eh q' k hz).1 with h5 | h5
          ·have:=L.lt;omega
          ·exact hh (fB k i p' h5 hk)
         ·exact L.ne z (hιs z k PC hz).1
        ·cases hx3:ι''.k k with
         | none=>rfl
         | some zz =>
          obtain⟨zz,qq⟩:=zz
          rcases iD k zz qq hx3 with⟨j,_,_,g1⟩ | ⟨j,_,_,g1⟩ | ⟨_,g1,_,g3⟩
          ·exact absurd (fB k i p' (fH k _ _ g1 L.lt) hk) hh
          ·exact absurd (fB k i p' (fH k _ _ g1 L.lt) hk) hh
          ·rw[hk]at g1;cases g1;exact absurd hr.2 (g3 hr.1)
     ·left;obtain⟨h1,h2⟩:=bU i hc hl hh (λha hm=>hr ⟨ha,hm⟩);exact⟨h2,h1⟩
 ·by_cases h1:b<=i/\i<b+n
  ·obtain⟨p,hp,rfl⟩:=dm i h1;rw[hιn p hp]at hi;by_cases h2:b<=j/\j<b+n
   ·obtain⟨q,hq,rfl⟩:=dm j h2;rw[hιn q hq]at hj;rw[P.inj p q k hi hj]
   ·exact(iZ p j k hp h2 hi hj).elim
  ·by_cases h2:b<=j/\j<b+n
   ·obtain⟨q,hq,rfl⟩:=dm j h2;rw[hιn q hq]at hj;exact(iZ q i k hq h1 hj hi).elim
   ·exact S.inj i j k (hιs i k h1 hi).1 (hιs j k h2 hj).1
 ·by_cases h1:b<=i/\i<b+n
  ·obtain⟨p,hp,rfl⟩:=dm i h1;rw[hιn p hp]at hi;have h2:=P.eh p k hi;have:=S.dE.size
   rcases h2.1 with h5 | h5
   ·exact⟨.inl (.inl (by omega)),h2.2.1⟩
   ·exact⟨.inl (i5 k h5).1,h2.2.1⟩
  ·have hi:=(hιs i k h1 hi).1;obtain⟨h2,h3⟩:=S.eh i k hi;refine⟨h2.imp (λh=>h) λ⟨hX,cs,dJ⟩=>⟨hX,?_⟩,by have:=P.size;omega⟩;by_cases hl:i∈b3
   ·obtain⟨j,hj,kB⟩:=List.getElem_of_mem hl;have jq:j<r.bx.length:=by omega
    have h4:=fv j _ _ (List.getElem?_eq_getElem hj) (List.getElem?_eq_getElem jq);rw[kB]at h4;exact⟨_,h4⟩
   ·by_cases hh:i∈cp
    ·obtain⟨e,sz,m,es,h5⟩:=d8 i hh;rw[dJ]at h5
     cases h5
    rw[hold i h1 hl hh,dJ]
    split <;> exact⟨_,rfl⟩
 ·obtain⟨h1,h2⟩:=bN i hi;have hc:¬ (b<=i/\i<b+n):=λh=>h2 ⟨h.1,by omega⟩;have hf:=S.fresh i h1;have hh:i∉cp:=λhm=>by
   obtain⟨e,sz,m,es,h3⟩:=d8 i hm;rw[hf.1]at h3
   cases h3
  rw[hιo i hc hh];have hl:i∉b3:=λhm=>by
   obtain⟨_,cs,_,_,h6⟩:=jI i hm;rw[hf.1]at h6
   cases h6
  rw[hold i hc hl hh,hf.1];refine⟨?_,hf.2⟩
  split <;> rfl
 ·by_cases h1:b<=i/\i<b+n
  ·obtain⟨p,hp,rfl⟩:=dm i h1;rw[hιn p hp]at hi;rw[gp p hp];have:=P.live p k hi;rw[ld p hp]at this;exact QSv this
  ·obtain⟨hi,mu⟩:=hιs i k h1 hi;have:=S.live i k hi;by_cases hl:i∈b3
   ·obtain⟨j,hj,kB⟩:=List.getElem_of_mem hl;have jq:j<r.bx.length:=by omega
    have h4:=fv j _ _ (List.getElem?_eq_getElem hj) (List.getElem?_eq_getElem jq);rw[kB]at h4;rw[h4];simp
   ·by_cases hh:i∈cp
    ·exact QLs (mu hh)
    rw[hold i h1 hl hh]
    split
    ·exact QIs this
    ·exact this
 ·rcases iD k i p hk with⟨j,hj,rfl,h1⟩ | ⟨j,hj,dP,h1⟩ | ⟨h0,h1,h2,h3⟩
  ·obtain⟨g1,⟨e,sz,g,t,H,es,g2⟩,g3,g4,g5⟩:=P.dg k j p h1;refine⟨g1,?_,?_,g4,j6 k j p h1⟩
   ·have:=ld j hj;rw[g2]at this;rw[gp j hj,<- this];exact⟨_,_,_,_,_,_,rfl⟩
   ·rcases g3 with g3 | g3
    ·have:=S.dE.size;exact .inl (by omega)
    ·exact(i5 k g3).1
  ·obtain⟨g1,⟨e,sz,g,t,H,es,g2⟩,g3,g4,g5⟩:=P.dg k _ p h1;refine⟨g1,?_,?_,g4,j6 k _ p h1⟩
   ·have hm:i∈cp:=List.mem_of_getElem? hj;obtain⟨j',B,B1,k1,k2,k3,k4,k5,_⟩:=dT i hm dP;have:=nj i j j' hj k1;subst this;rw[PA,k2]at g2
    cases g2
    rcases qt k4 (.inr k5) with q | ⟨e',ba,m,eP,bP,m',q1,q2,q3,q4,_,q6⟩ | ⟨e',ba,eP,bP,m',q1,q2,q3,q4,q5,_⟩
    ·rw[k3,q]at dP;cases dP
    ·rcases q6 with⟨oA,_,jo⟩ | ⟨g',t',u5,t1,_,rfl,oA⟩
     ·cases oA;cases jo
     ·rw[k3,q2];exact⟨_,_,_,_,_,_,rfl⟩
    ·cases q2;cases q5
   ·rcases g3 with g3 | g3
    ·have:=S.dE.size;exact .inl (by omega)
    ·exact(i5 k g3).1
  ·have L:=S.dg k i p h1;obtain⟨e,sz,g,t,H,es,iX⟩:=L.dp;have hc:¬ (b<=i/\i<b+n):=λhc=>by rw[(j3 i hc).1]at iX;cases iX
   have hl:i∉b3:=λhm=>by
    obtain⟨_,cs,_,_,h6⟩:=jI i hm;rw[iX]at h6
    cases h6
   refine⟨L.pn,by rw[(bU i hc hl h2 h3).2];exact L.dp,L.fr,by have:=L.lt;have:=P.size;omega,λj hj=>?_⟩;by_cases PD:b<=j/\j<b+n
   ·obtain⟨q,hq,rfl⟩:=dm j PD;rw[hιn q hq]at hj
    rcases(P.eh q k hj).1 with h5 | h5
    ·have:=L.lt;omega
    ·exact h2 (fB k i p h5 h1)
   ·exact L.ne j (hιs j k PD hj).1
end
end Go.Proofs.YtdplaepmjogjjaaGreat.Am
namespace Go.Proofs.YtdplaepmjogjjaaGreat.Am
open Go Go.RowKit
section
variable {C:Ctx} {U U':Nat->Prop} {σ:St} {a:Act} {w:World} {ι:Io} {o:Oper} {Q:Exit->Act->World->Prop} {Γ:eA} {b:Nat} {e:fj}
theorem PE(hΓ:JP C.P Γ)(S:Sat C U σ a w ι){N:Nat}(hb:∀ i,b<=i->i<b+N->U i)(bN:∀ i,U' i->U i/\¬ (b<=i/\i<b+N)){f:FuncId}{as:Array Value}{xs vs:List AV}{r:ik}
  (hl:as.toList.length=xs.length) (f8:∀(k:Nat)(v:Value)(x:AV),as.toList[k]? = some v->xs[k]? = some x->VR w (Fz C w ι σ.h) ι σ.h v x) (qv:AV.dU σ.h (Γ.md f) xs=some vs) (hr:Γ f vs=some r) (zx:r.hb.length<=N)
  (dV:((cm (Γ.md f) xs).flatMap AV.b9).Nodup) (gr:((cJ (Γ.md f) xs).flatMap AV.refs).Nodup) (mz:∀ id,id∈(cJ (Γ.md f) xs).flatMap AV.refs->id∉(cm (Γ.md f) xs).flatMap AV.refs) :
  Calls C.P f as w λen w'=>∃ v,en = .returned v/\∃ d9 ι'',bn σ.h (YM b (r.hb.map (aQ.sh b))++YO ((cm (Γ.md f) xs).flatMap AV.b9) r.bx++Yt σ.h ((cJ (Γ.md f) xs).flatMap AV.refs) r.gv ++
    (if r.al then eU σ.h ((cm (Γ.md f) xs).flatMap AV.refs) else []))=d9/\Sat C U' ⟨σ.t,d9,σ.nx⟩ a w' ι''/\VR w' (Fz C w' ι'' d9) ι'' d9 v (r.v.sh b)/\(∀ k,Fz C w ι σ.h k->Fz C w' ι'' d9 k/\w'.heap[k]? = w.heap[k]?)/\(∀ i,cZ w w' ι ι'' σ.h d9 i)/\
    (∀ i,¬ (b<=i/\i<b+N)->i∉(cm (Γ.md f) xs).flatMap AV.b9->i∉(cJ (Γ.md f) xs).flatMap AV.refs->(r.al=true->i∉(cm (Γ.md f) xs).flatMap AV.refs)->Rest w w' ι ι'' i/\d9 i=σ.h i):=by
 obtain⟨DD,qw⟩:∃ DD,DD=cm (Γ.md f) xs:=⟨_,rfl⟩
 obtain⟨HH,oB⟩:∃ HH,HH=(cJ (Γ.md f) xs).flatMap AV.refs:=⟨_,rfl⟩
 rw[<- qw]at dV mz;rw[<- oB]at gr mz;rw[<- qw,<- oB];obtain⟨lb0,gb0,_,G0,_,_,_,dW⟩:=zw S (F0:=λ_=>True) (λ_ _=>trivial) (Γ.md f) as.toList xs vs hl f8 qv (λ_ _ _ _ _=>trivial) (by rw[<- qw];exact dV) (by rw[<- oB];exact gr);rw[<- oB]at G0;rw[<- qw]at dW;have vT:∀ id,id∈HH->(∃ e sz m es,σ.h id = .sl e sz m es)/\(σ.h id).own=true:=λid hm=>G0.sl hm;have key:∃ F0:Nat->Prop,(∀ k,Fz C w ι σ.h k->F0 k)/\(∀ id k,id∈DD.flatMap AV.refs->(∃ e sz m es,σ.h id = .sl e sz m es)->Has ι id k->F0 k)/\
   (∀ k,F0 k->k<w.heap.size/\(∀ id,ι id=some k->(∀ cs,σ.h id≠.box cs))/\∀ id,id∈HH->¬ Has ι id k)/\(r.al=true->∀ k,F0 k->Fz C w (ι.loose (DD.flatMap AV.refs)) (bn σ.h (eU σ.h (DD.flatMap AV.refs))) k):=by
  cases ha:r.al
  ·refine⟨λk=>k<w.heap.size/\(∀ id,ι id=some k->(∀ cs,σ.h id≠.box cs))/\∀ id,id∈HH->¬ Has ι id k,λk hk=>⟨hk.1,λid hi cs hh=>?_,λid hm lN=>?_⟩,λid k a8 ⟨e,sz,m,es,hh⟩ hi=>?_,λk hk=>hk,λh=>by cases h⟩
   ·have:=hk.2.2.1 id hi;rw[hh]at this
    cases this
   ·rcases lN with h1 | ⟨p,h1⟩
    ·have:=hk.2.2.1 id h1;rw[(vT id hm).2]at this
     cases this
    ·rw[hk.2.2.2]at h1;cases h1
   ·have aU:k<w.heap.size:=by
     rcases hi with hi | ⟨p,hi⟩
     ·exact(S.eh id k hi).2
     ·exact(S.dg k id p hi).lt
    refine⟨aU,λb8 bY cs ca=>?_,λb8 hm lN=>?_⟩
    ·have:=JN S hi (.inl bY);subst this;rw[hh]at ca;cases ca
    ·have:=JN S hi lN;subst this;exact mz _ hm a8
  ·obtain⟨_,hF⟩:=S.freeze (DD.flatMap AV.refs) dW;have vP:∀ id k,id∈DD.flatMap AV.refs->(∃ e sz m es,σ.h id = .sl e sz m es)->Has ι id k->Fz C w (ι.loose (DD.flatMap AV.refs)) (bn σ.h (eU σ.h (DD.flatMap AV.refs))) k:=by
    intro id k a8 ly hi;have jz:(ι.loose (DD.flatMap AV.refs)).k k=none:=by
     cases fk:(ι.loose (DD.flatMap AV.refs)).k k with
     | none=>rfl
     | some z =>
      obtain⟨z,q⟩:=z;obtain⟨k1,k2⟩:=Io.eL.1 fk;have:=JN S hi (.inr ⟨q,k1⟩);subst this;exact absurd a8 k2
    rcases hi with hi | ⟨p,hi⟩
    ·obtain⟨h1,h2⟩:=S.eh id k hi;obtain⟨e,sz,m,es,hh⟩:=ly;refine⟨h2,.inr (h1.elim (λh=>h) λ⟨_,cs,h3⟩=>by rw[hh]at h3;cases h3),λb8 bY=>?_,jz⟩;have:=S.inj b8 id k bY hi;subst this;rw[Yx,if_pos a8,hh];rfl
    ·have L:=S.dg k id p hi;exact⟨L.lt,.inr L.fr,λi hi=>absurd hi (L.ne i),jz⟩
   refine⟨Fz C w (ι.loose (DD.flatMap AV.refs)) (bn σ.h (eU σ.h (DD.flatMap AV.refs))),hF,vP,λk hk=>⟨hk.1,λid hi cs hh=>?_,λid hm lN=>?_⟩,λ_ k hk=>hk⟩
   ·have:=hk.2.2.1 id hi;rw[Yx,hh]at this
    split at this <;> cases this
   ·rcases lN with h1 | ⟨p,h1⟩
    ·have:=hk.2.2.1 id h1;rw[Yx,if_neg (mz id hm),(vT id hm).2]at this
     cases this
    ·have h2:=Io.eL.2 ⟨h1,mz id hm⟩;rw[hk.2.2.2]at h2
     cases h2
 obtain⟨F0,k1,k2,k3,k4⟩:=key;obtain⟨lb,gb,a1,G,a2,a3,a4,a5⟩:=zw S k1 (Γ.md f) as.toList xs vs hl f8 qv (by rw[<- qw];exact k2) (by rw[<- qw];exact dV) (by rw[<- oB];exact gr);rw[<- qw]at a2 a3 a4 a5;rw[<- oB]at G;have vM:∀ k,F0 k->k<w.heap.size/\k∉lb/\¬ ZP gb k:=by
  intro k hk;obtain⟨h1,h2,h3⟩:=k3 k hk;refine⟨h1,λhm=>?_,λhg=>?_⟩
  ·obtain⟨j,hj,kB⟩:=List.getElem_of_mem hm;have jq:j<(DD.flatMap AV.b9).length:=by omega
   obtain⟨b',cs,h3,h4,h5⟩:=a3 j _ (List.getElem?_eq_getElem jq);rw[List.getElem?_eq_getElem hj,kB]at h3
   cases h3;exact h2 _ h4 cs h5
  ·obtain⟨id,h4,h5⟩:=G.my.1 hg;exact h3 id h4 h5
 have qx:=hΓ f vs r hr w F0 as lb gb a1 vM;refine qx.mono λen w' ⟨v,ι',he,P⟩=>?_;subst he;exact⟨v,rfl,S.called (refs:=DD.flatMap AV.refs) hb bN zx k4 (λ_=>a4) (λ_=>a5) dV a2 a3 gr G mz P⟩
theorem PF{ms:List AM}{xs:List AV}{id g i j:Nat}{r:List AV}(h:pY ms xs=some (id,g,i,j,r)):∃ gM d,ms = .p::gM/\xs = .b d id g [(i,j)]::r/\gM.all (λm=>!m.h)=true:=by
 unfold pY at h
 split at h
 rotate_left
 ·cases h
 split at h
 ·cases h;exact⟨_,_,rfl,rfl,by assumption⟩
 ·cases h
theorem PG{h:Nat->aQ}:∀ {ms:List AM} {xs:List AV},ms.all (λm=>!m.h)=true->xs.all iu=true->(AV.dU h ms xs=some xs\/ms.length<xs.length/\AV.dU h ms xs=some xs\/xs.length<ms.length/\AV.dU h ms xs=some xs)/\cJ ms xs=[]/\cm ms xs=xs
 | [],xs,_,hx=>by
  refine⟨.inl ?_,rfl,rfl⟩;simp only[AV.dU]
  induction xs with
  | nil=>rfl
  | cons x xs ih =>
   simp only[List.all_cons,Bool.and_eq_true]at hx;have:=ih hx.2
   cases x with
   | c d=>simp only[AV.g8,AV.arg,this]
   | _=>simp[iu]at hx
 | m::ms,[],_,_=>⟨.inl rfl,rfl,rfl⟩
 | m::ms,x::xs,hm,hx=>by
  simp only[List.all_cons,Bool.and_eq_true,Bool.not_eq_true']at hm hx;obtain⟨h1,h2,h3⟩:=PG (h:=h) hm.2 hx.2;have h1:AV.dU h ms xs=some xs:=by rcases h1 with h | h | h <;> first | exact h | exact h.2
  cases m with
  | d =>
   refine⟨.inl ?_,by simp[cJ,AM.h,h2],by simp[cm,AM.h,h3]⟩
   cases x with
   | c d=>simp only[AV.dU,AV.fV,AV.arg,h1]
   | _=>simp[iu]at hx
  | _=>simp[AM.h]at hm
theorem vU:∀ {xs:List AV},xs.all iu=true->xs.flatMap AV.refs=[]/\xs.flatMap AV.b9=[]
 | [],_=>⟨rfl,rfl⟩
 | x::xs,h=>by
  simp only[List.all_cons,Bool.and_eq_true]at h;obtain⟨h1,h2⟩:=vU h.2
  cases x with
  | c d=>exact⟨by simp[AV.refs,AV.bR,h1],by simp[AV.b9,h2]⟩
  | _=>simp[iu]at h
theorem QKF(hΓ:JP C.P Γ)(S:Sat C U σ a w ι)(hd:∀ d,o.dst=some d->d<C.N)(hb:∀ i,b<=i->i<b+16->U i)(bN:∀ i,U' i->U i/\¬ (b<=i/\i<b+16))
  {f : FuncId} {args : Array Operand} {mA : Array TypeId} {xs : List aW} {fn : Func} (ho : o.op = .call { callee := .value (.func f), args, argTypes := mA }) (hf : C.P.funcs[f]? = some fn) (oC : fn.body.isSome = true) (vV : (fn.name == "runtime.NumGoroutine") = false)
  {ts:List TypeId} (hx:s4 C.P ts args.toList=some xs) (he:Qv Γ (aW.ev σ.t) σ.h b (.call f xs)=some e) :
  o.wp C.P a w (λa' w'=>cA C U' (σ.app o.dst e) a' w') Q:=by
 simp only[Qv]at he;obtain⟨hl,dS⟩:=OB S hx;have f8:∀(k:Nat)(v:Value)(x:AV),(args.map a.eval).toList[k]? = some v->(xs.map (aW.ev σ.t))[k]? = some x->VR w (Fz C w ι σ.h) ι σ.h v x:=by
  intro k v x hk ez;simp only[Array.toList_map,List.getElem?_map,Option.map_eq_some_iff]at hk ez;obtain⟨y,hy,rfl⟩:=hk;obtain⟨z,hz,rfl⟩:=ez;exact dS k y z hy hz
 have hlen:(args.map a.eval).toList.length=(xs.map (aW.ev σ.t)).length:=by simpa using hl
 have cq:(execOp a.eval o).run C.P w = .ok (.enter f (args.map a.eval)) w:=by
  have:execOp a.eval o=callFunc f (#[]++args.map a.eval++#[]):=by
   unfold execOp;rw[ho];rfl
  rw[this];have mW:¬ fn.body=none:=by intro h;rw[h]at oC;cases oC
  have qy : ¬ fn.name = "runtime.NumGoroutine" := by simpa using vV
  simp[callFunc,hf,qy,mW]
 unfold Oper.wp;rw[cq];simp only[Oper.upon];generalize hX:xs.map (aW.ev σ.t)=X at *
 split at he
 ·
  rename_i id g i j rest vW;obtain⟨ms,d0,nc,rfl,ew⟩:=PF vW;unfold u7 at he
  split at he
  rotate_left
  ·cases he
  rename_i e0 sz g0 t es a8
  split at he
  rotate_left
  ·cases he
  rename_i x oy
  split at he
  rotate_left
  ·cases he
  rename_i ba bP mT
  split at he
  rotate_left
  ·cases he
  rename_i rv al e1 kz g1 t1 eP hr
  split at he
  rotate_left
  ·cases he
  rename_i hc;obtain⟨rfl,qf,vZ⟩:=hc
  cases he;have h0:∃ v0,(args.map a.eval).toList[0]? = some v0:=by
   have:0<(args.map a.eval).toList.length:=by rw[hlen];simp
   exact⟨_,List.getElem?_eq_getElem this⟩
  obtain⟨v0,qs⟩:=h0;have mX:=f8 0 v0 _ qs rfl;obtain⟨_,e2,O0,m2,f6,v3,dj⟩:=mX.ze (by rw[a8];rfl);rw[a8]at v3
  cases v3;have dj:=dj i j rfl;obtain⟨ι1,S1,vj,hι1,hιo1,ql,la⟩:=S.cK (n:=b) (U':=λi=>U i/\i≠b) a8 oy mT qf (hb b (Nat.le_refl _) (by omega)) (λi hi=>hi) dj;obtain⟨EK,aiX⟩:=S.fresh b (hb b (Nat.le_refl _) (by omega));have jG:id≠b:=λh=>by subst h;rw[EK]at a8;cases a8
  obtain⟨σ1,hσ1⟩:∃ σ1:St,σ1=⟨σ.t,bI (bI σ.h b (.sl 0 ba (.dp 0 false []) bP)) id (.sl e0 sz (.dp (g0+1) t [(i,j)]) es),σ.nx⟩:=⟨_,rfl⟩
  have hσh:σ1.h=bI (bI σ.h b (.sl 0 ba (.dp 0 false []) bP)) id (.sl e0 sz (.dp (g0+1) t [(i,j)]) es):=by rw[hσ1]
  rw[<- hσ1]at S1;rw[<- hσh]at vj ql la;have iv:σ1.h b = .sl 0 ba (.dp 0 false []) bP:=by rw[hσh,QI _ _ _ _ (λh=>jG h.symm),QN]
  have EL:σ1.h id = .sl e0 sz (.dp (g0+1) t [(i,j)]) es:=by rw[hσh,QN]
  obtain⟨p1,p2,p3⟩:=PG (h:=σ1.h) ew vZ;have p1:AV.dU σ1.h ms rest=some rest:=by rcases p1 with h | h | h <;> first | exact h | exact h.2
  have iR:cJ (Γ.md f) (.r ba b 0 bP.length::rest)=[.r ba b 0 bP.length]:=by rw[nc];simp[cJ,AM.h,p2]
  have dD:cm (Γ.md f) (.r ba b 0 bP.length::rest)=rest:=by rw[nc];simp[cm,AM.h,p3]
  have PH:=PE (Γ:=Γ) (b:=b) (N:=0) (U':=λi=>U i/\i≠b) hΓ S1 (λi h1 h2=>by omega) (λi hi=>⟨hi,by omega⟩) (f:=f) (as:=args.map a.eval) (xs:=.r ba b 0 bP.length::rest) (vs:=.ow 0 ba (.dp 0 false []) bP::rest) (r:=⟨rv,[],[],al,[.sl e1 kz (.dp g1 t1 []) eP]⟩)
   (by rw[hlen];rfl) (λk v x hk ez=>by
    cases k with
    | zero=>rw[qs]at hk;simp at hk ez;subst hk;subst ez;exact vj
    | succ k=>exact(f8 (k+1) v x hk (by simpa using ez)).mono (λb hb=>⟨ql b hb,rfl⟩) la)
   (by rw[nc];simp only[AV.dU,AV.fV,AV.ir,AV.dO,iv,true_and,if_true,p1]) hr (by simp) (by rw[dD,(vU vZ).2];exact List.nodup_nil) (by rw[iR];simp[AV.refs,AV.bR]) (by rw[dD,(vU vZ).1];intro _ _ h;cases h)
  rw[iR,dD,(vU vZ).1,(vU vZ).2]at PH;refine PH.mono λen w' ⟨v,he,h2,ι2,hh2,S2,mQ,th,g7,qz⟩=>?_;subst he;have v5:h2=bI σ1.h b (JH (σ1.h b) (.sl e1 kz (.dp g1 t1 []) eP)):=by
   rw[<- hh2]
   cases al <;> rfl
  rw[iv]at v5;have EM:h2=bI σ1.h b (.sl 0 kz (.dp 1 false []) eP):=v5;have EN:kz=ba:=by
   rcases g7 b with g | g | ⟨_,_,g,_⟩
   ·rw[iv]at g;cases g
   ·rw[EM,QN]at g;cases g
   ·rw[iv,EM,QN]at g;exact g.2.1
  have lO:h2=bI σ1.h b (.sl 0 ba (.dp 1 false []) eP):=by rw[EM,EN]
  have q1:h2 b = .sl 0 ba (.dp 1 false []) eP:=by rw[lO,QN]
  have q2:h2 id = .sl e0 sz (.dp (g0+1) t [(i,j)]) es:=by rw[lO,QI _ _ _ _ jG];exact EL
  have v7:eP.length=bP.length:=by
   rcases g7 b with g | g | ⟨_,_,g,_⟩
   ·rw[iv]at g;cases g
   ·rw[q1]at g;cases g
   ·rw[iv,q1]at g;exact g.2.2.1
  obtain⟨qA,_⟩:=qz id (by omega) (by simp) (by simp[AV.refs,AV.bR,jG]) (λ_=>by simp);have jy:i<es.length:=(List.getElem?_eq_some_iff.1 oy).1;have EO:j<x.length:=(List.getElem?_eq_some_iff.1 mT).1;have mV:∀ y,y∈es.set i (x.set j (.sl ba eP))->y.length=sz:=by
   intro y hy;have fc:=S.fi id;rw[a8]at fc;have dQ:∀ y,y∈es->y.length=sz:=by
    cases fc with
    | slnil=>intro y hy;cases hy
    | sl _ _ _ _ _ _ _ _ _ _ _ _ _ bV=>exact bV
   rcases List.mem_or_eq_of_mem_set hy with hy | rfl
   ·exact dQ y hy
   ·rw[List.length_set];exact dQ x (List.mem_of_getElem? oy)
  obtain⟨S3,PI,PJ⟩:=S2.reset (σ:=⟨σ1.t,h2,σ1.nx⟩) (f6:=es.set i (x.set j (.sl ba eP))) q2 (by simp) mV (λp q y d hy hd dt=>by
   have mU:(p,q)≠(i,j):=by simpa using dt
   by_cases hp:p=i
   ·subst hp;rw[List.getElem?_set_self jy]at hy
    cases hy;have hq:q≠j:=λh=>mU (by rw[h]);rw[List.getElem?_set_ne (λh=>hq h.symm)]at hd;exact⟨x,oy,hd⟩
   ·rw[List.getElem?_set_ne (λh=>hp h.symm)]at hy;exact⟨y,hy,hd⟩)
  have EP:=((vj.mono th g7).mono (λb hb=>⟨PI b hb,rfl⟩) PJ)
  have r1:(bI h2 id (.sl e0 sz (.dp (g0+1) t [(i,j)]) (es.set i (x.set j (.sl ba eP))))) b = .sl 0 ba (.dp 1 false []) eP:=by rw[QI _ _ _ _ (λh=>jG h.symm)];exact q1
  obtain⟨S4,hF4,hg4⟩:=S3.merge (i:=i) (j:=j) (H:=[]) (x:=x.set j (.sl ba eP)) (v:=v0) (QN _ _ _) r1 (λh=>jG h.symm) (by
    obtain⟨bk,cur,ee,c1,c2,c3⟩:=dj;exact⟨bk,cur,ee,qA.b.trans (hι1.trans c1),(qA.heap bk (hι1.trans c1)).trans c2,by rw[qA.o,hιo1];exact c3⟩) EP (List.getElem?_set_self jy) (by rw[List.getElem?_set_self EO,<- v7];simp)
  have ER:=((mQ.mono (λb hb=>⟨PI b hb,rfl⟩) PJ).mono (λb hb=>⟨hF4 b hb,rfl⟩) hg4)
  have dY:(bI (bI (bI h2 id (.sl e0 sz (.dp (g0+1) t [(i,j)]) (es.set i (x.set j (.sl ba eP))))) b .dead) id (.sl e0 sz (.dp (g0+1) t []) (es.set i (x.set j (.sl ba eP)))))=bn σ.h [(b,.dead),(id,.sl e0 sz (.dp (g0+1) t []) (es.set i (x.set j (.sl ba eP))))]:=by
   funext y
   simp only[bn];by_cases h1:y=id
   ·subst h1;rw[QN,QN]
   ·rw[QI _ _ _ _ h1,QI _ _ _ _ h1];by_cases h2:y=b
    ·subst h2;rw[QN,QN]
    ·rw[QI _ _ _ _ h2,QI _ _ _ _ h2,QI _ _ _ _ h1,lO,QI _ _ _ _ h2,hσh,QI _ _ _ _ h1,QI _ _ _ _ h2]
  have hσt:σ1.t=σ.t:=by rw[hσ1]
  have hσn:σ1.nx=σ.nx:=by rw[hσ1]
  have S4:Sat C U' _ a w' _:={ S4 with fresh:=λi hi=>S4.fresh i ⟨(bN i hi).1,λh=>(bN i hi).2 ⟨by omega,by omega⟩⟩ }
  simp only[hσt,hσn]at S4;refine⟨ι2.merge id b i j 0 bP.length,?_⟩;show Sat C U' ⟨cP σ.t o.dst (rv.sh b),bn σ.h _,σ.nx⟩ _ _ _;rw[<- dY]
  cases v8:o.dst with
  | none=>simpa[cP,Act.put]using S4
  | some d=>simpa[cP]using S4.put d (hd d v8) v (rv.sh b) ER
 ·unfold u9 at he
  split at he
  rotate_left
  ·cases he
  rename_i vs qv
  split at he
  rotate_left
  ·cases he
  rename_i r hr
  split at he
  rotate_left
  ·cases he
  rename_i hc;obtain⟨zx,dP,dV,gr,mz⟩:=hc
  cases he;refine(PE hΓ S hb bN hlen f8 qv hr zx dV gr mz).mono λen w' ⟨v,he,d9,ι'',hh,SA,hv,_⟩=>?_;subst he;refine⟨ι'',?_⟩;show Sat C U' ⟨cP σ.t o.dst (r.v.sh b),bn σ.h _,σ.nx⟩ _ _ _;rw[hh]
  cases v8:o.dst with
  | none=>simpa[cP,Act.put]using SA
  | some d=>simpa[cP]using SA.put d (hd d v8) v (r.v.sh b) hv
theorem PK(hΓ:JP C.P Γ)(S:Sat C U σ a w ι)(hd:∀ d,o.dst=some d->d<C.N)(hb:∀ i,b<=i->i<b+16->U i)(bN:∀ i,U' i->U i/\¬ (b<=i/\i<b+16)){ao:eb}
  (hc:vb C.P o=some ao) (he:Qv Γ (aW.ev σ.t) σ.h b ao=some e) :
  o.wp C.P a w (λa' w'=>cA C U' (σ.app o.dst e) a' w') Q:=by
 have gD:∀ i,U' i->U i:=λi hi=>(bN i hi).1;have v9:∀ i,U' i->U i/\i≠b:=λi hi=>⟨(bN i hi).1,λe=>(bN i hi).2 ⟨by omega,by omega⟩⟩
 have mX:U b:=hb b (Nat.le_refl _) (by omega);unfold vb at hc
 split at hc
 ·rename_i x ho;obtain⟨y,hy,rfl⟩:=Option.map_eq_some_iff.1 hc;exact OD S hd gD (.inl ho) hy he
 ·rename_i x ho;obtain⟨y,hy,rfl⟩:=Option.map_eq_some_iff.1 hc;exact OD S hd gD (.inr ho) hy he
 ·rename_i c x y ho
  split at hc
  ·rename_i c' x' y' h1 h2 h3;cases hc;exact QP3 S hd gD ho h1 h2 h3 he
  ·cases hc
 ·rename_i t ho;obtain⟨zs,hz,rfl⟩:=Option.map_eq_some_iff.1 hc;exact QXp S hd mX v9 ho hz he
 ·rename_i t x ho
  split at hc
  ·rename_i x' n h1 h2;cases hc;exact QU8 S hd mX v9 ho h1 he
  ·cases hc
 ·rename_i t ps ho
  split at hc
  ·rename_i fs h1
   split at hc
   ·rename_i zs ps' h2 h3
    split at hc
    ·rename_i h4;cases hc;exact QLZ S hd gD ho h1 h2 h3 h4 he
    ·cases hc
   ·cases hc
  ·cases hc
 ·rename_i t n ps ho
  split at hc
  ·rename_i et h1
   split at hc
   ·rename_i sz xs h2 h3
    split at hc
    ·rename_i h4;obtain⟨h4,h5,h6,h7⟩:=h4;cases hc;exact QRR S hd mX v9 ho h1 h2 h3 h4 h5 h6 h7 he
    ·cases hc
   ·cases hc
  ·cases hc
 ·rename_i t x ho
  split at hc
  ·rename_i x' n agg h1 h2 h3
   cases hc;exact QPy S hd gD ho h1 h3 (λh=>by simp[h,h2]) (λh=>by simp[h]) he
  ·cases hc
 ·rename_i t x v ho
  split at hc
  ·rename_i x' v' n h1 h2 h3;cases hc;exact QIi S hd gD ho h1 h2 h3 he
  ·cases hc
 ·rename_i s x i ho
  split at hc
  ·rename_i fs h1
   split at hc
   ·rename_i f h2
    split at hc
    ·rename_i n x' h3 h4
     split at hc
     ·rename_i h5;cases hc;exact QRB S hd gD ho h1 h2 h3 h5 h4 he
     ·cases hc
    ·cases hc
   ·cases hc
  ·cases hc
 ·rename_i s x i ho
  split at hc
  ·rename_i fs h1
   split at hc
   ·rename_i f h2
    split at hc
    ·rename_i n agg x' h3 h4 h5
     cases hc;exact QQl S hd gD ho h1 h2 h4 (λh=>by simp[h,h3]) (λh=>by simp[h]) h5 he
    ·cases hc
   ·cases hc
  ·cases hc
 ·rename_i t x i ho
  split at hc
  ·rename_i et h1
   split at hc
   ·rename_i sz x' i' h2 h3 h4
    split at hc
    ·cases hc;exact QTL S hd gD ho h1 h2 h3 h4 he
    ·cases hc
   ·cases hc
  ·cases hc
 ·rename_i t l c ho
  split at hc
  ·rename_i h0;subst h0
   split at hc
   ·rename_i et h1
    split at hc
    ·rename_i sz zs i h2 h3 h4
     split at hc
     ·rename_i h5;cases hc;exact Ed S hd mX v9 ho h1 h2 h3 h4 h5.1 h5.2 he
     ·cases hc
    ·cases hc
   ·cases hc
  ·cases hc
 ·rename_i t x lo hi ho
  split at hc
  ·rename_i et h1
   split at hc
   ·rename_i sz x' zh bY h2 h3 h4 h5
    split at hc
    ·rename_i h6;cases hc;exact QPc S hd gD ho h1 h2 h6 h3 h4 h5 he
    ·cases hc
   ·cases hc
  ·cases hc
 ·rename_i op t x y ty ho
  split at hc
  ·rename_i x' y' h1 h2
   split at hc
   ·rename_i n h3
    split at hc
    ·cases hc;exact OP S hd gD (neg:=false) ho h3 h1 h2 he
    ·cases hc;exact OP S hd gD (neg:=true) ho h3 h1 h2 he
    ·cases hc
   ·split at hc
    ·cases hc;exact OE S hd gD ho h1 h2 he
    ·rename_i h4
     split at hc
     ·cases hc;exact OG S hd gD (neg:=false) ho h4 h1 h2 he
     ·cases hc;exact OG S hd gD (neg:=true) ho h4 h1 h2 he
     ·cases hc
    ·cases hc;exact OE S hd gD ho h1 h2 he
    ·cases hc
  ·cases hc
 ·rename_i t x ho;obtain⟨y,hy,rfl⟩:=Option.map_eq_some_iff.1 hc;exact QKC S hd gD ho hy he
 ·rename_i t x ho;obtain⟨y,hy,rfl⟩:=Option.map_eq_some_iff.1 hc;exact QR0 S hd gD ho hy he
 ·rename_i s d x ho
  split at hc
  ·rename_i k0 k x' h1 h2 h3;cases hc;exact QQw S hd gD ho h1 h2 h3 he
  ·cases hc
 ·rename_i x i ho;obtain⟨y,hy,rfl⟩:=Option.map_eq_some_iff.1 hc;exact QOs S hd gD ho hy he
 ·rename_i x ho;obtain⟨y,hy,rfl⟩:=Option.map_eq_some_iff.1 hc;exact QTq S hd gD ho hy he
 ·rename_i c ho;obtain⟨callee,args,mA⟩:=c;simp only at hc
  split at hc
  ·rename_i f
   split at hc
   ·rename_i fn xs h1 h2
    split at hc
    ·rename_i h3;cases hc;exact QKF hΓ S hd hb bN ho h1 h3.1 h3.2 h2 he
    ·cases hc
   ·cases hc
  ·rename_i bi;unfold Ow at hc
   split at hc
   ·rename_i x t ha ht;have qB:args = #[x]:=by cases args;simp at ha;rw[ha]
    have qC:mA = #[t]:=by cases mA;simp at ht;rw[ht]
    subst qB;subst qC
    split at hc
    ·rename_i et x' h1 h2;cases hc;exact QHE S hd gD ho h1 h2 he
    ·cases hc
   ·rename_i s x t t' ha ht;have qB:args = #[s,x]:=by cases args;simp at ha;rw[ha]
    have qC:mA = #[t,t']:=by cases mA;simp at ht;rw[ht]
    subst qB;subst qC
    split at hc
    ·rename_i h0;subst h0
     split at hc
     ·rename_i et h1
      split at hc
      ·rename_i sz s' x' i h2 h3 h4 h5
       split at hc
       ·rename_i h6;cases hc;exact QGY S hd mX v9 ho h1 h2 h5 h6.1 h6.2.1 h6.2.2 h3 h4 he
       ·cases hc
      ·cases hc
     ·cases hc
    ·cases hc
   ·rename_i x y t t' ha ht;have qB:args = #[x,y]:=by cases args;simp at ha;rw[ha]
    have qC:mA = #[t,t']:=by cases mA;simp at ht;rw[ht]
    subst qB;subst qC
    split at hc
    ·rename_i x' y' h1 h2;cases hc;exact vf S hd gD (mx:=false) ho h1 h2 he
    ·cases hc
   ·rename_i x y t t' ha ht;have qB:args = #[x,y]:=by cases args;simp at ha;rw[ha]
    have qC:mA = #[t,t']:=by cases mA;simp at ht;rw[ht]
    subst qB;subst qC
    split at hc
    ·rename_i x' y' h1 h2;cases hc;exact vf S hd gD (mx:=true) ho h1 h2 he
    ·cases hc
   ·cases hc
  ·cases hc
 ·cases hc
end
end Go.Proofs.YtdplaepmjogjjaaGreat.Am

