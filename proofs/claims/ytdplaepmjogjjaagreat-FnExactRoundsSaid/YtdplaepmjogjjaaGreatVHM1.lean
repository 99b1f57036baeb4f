/- -/
import Derived.Test.YtdplaepmjogjjaaGreatVHM0
set_option linter.all false
namespace Go.Proofs.YtdplaepmjogjjaaGreat.Am
open Go Go.RowKit
theorem CR.mono{w w':World}{F F':Nat->Prop}{ι ι':Io}{h h':Nat->aR}(hF:∀ b,F b->F' b/\w'.heap[b]? = w.heap[b]?)
  (hg:∀ id,cY w w' ι ι' h h' id) {cur:Array Value} {cs:List AV} (hc:CR w F ι h cur cs):CR w' F' ι' h' cur cs :=
 ⟨hc.size,hc.one,λk v x hk hx=>(hc.vr k v x hk hx).mono hF hg⟩
section
variable {C:Ctx} {U U':Nat->Prop} {σ:St} {a:Act} {w:World} {ι:Io}
theorem vg(S:Sat C U σ a w ι)(b:Nat)(hb:U b)(bm:Array Value)(e:TypeId)(B:aR) :
  (∀ k,Fz C w ι σ.h k->Fz C (w.alloc (.cells bm e)) (ι.up b (some w.heap.size) 0) (bI σ.h b B) k/\(w.alloc (.cells bm e)).heap[k]? = w.heap[k]?)/\
  (∀ id,cY w (w.alloc (.cells bm e)) ι (ι.up b (some w.heap.size) 0) σ.h (bI σ.h b B) id)/\∀ id,id≠b->Rest w (w.alloc (.cells bm e)) ι (ι.up b (some w.heap.size) 0) id:=by
 have hold:∀ k,k<w.heap.size->(w.alloc (.cells bm e)).heap[k]? = w.heap[k]?:=λk hk=>Below.heap_alloc _ _ _ hk;have bU:∀ id,id≠b->Rest w (w.alloc (.cells bm e)) ι (ι.up b (some w.heap.size) 0) id:=λid h =>
  ⟨Io.fC _ _ _ _ _ h,Io.pN _ _ _ _ _ h,λk hk=>hold k (S.eg id k hk).2,λk p hk=>⟨hk,hold k (S.df k id p hk).lt⟩⟩
 refine⟨λk hk=>⟨⟨by have:=hk.1;simp;omega,hk.2.1,λid a9=>?_,hk.2.2.2⟩,hold k hk.1⟩,λid=>?_,bU⟩
 ·by_cases h:id=b
  ·subst h;rw[Io.cw]at a9
   cases a9;exact absurd hk.1 (Nat.lt_irrefl _)
  ·rw[Io.fC _ _ _ _ _ h]at a9;rw[QI _ _ _ _ h];exact hk.2.2.1 id a9
 ·by_cases h:id=b
  ·subst h;exact .inl (S.fresh id hb).1
  ·exact(bU id h).gD (QI _ _ _ _ h)
theorem ki.alloc{C:Ctx}{w:World}(h:ki C w)(o:Obj):ki C (w.alloc o) :=
 ⟨h.os,h.tape,h.output,by have:=h.size;simp;omega,λk hk hx=>by rw[Below.heap_alloc _ _ _ (by have:=h.size;omega)];exact h.block k hk hx⟩
theorem Sat.alloc(S:Sat C U σ a w ι)(b:Nat)(hb:U b)(bN:∀ i,U' i->U i/\i≠b)(bm:Array Value)(e:TypeId)(B:aR)(hB:B≠.none/\B≠.dead)
  (p8:BR (w.alloc (.cells bm e)) (Fz C (w.alloc (.cells bm e)) (ι.up b (some w.heap.size) 0) (bI σ.h b B)) (ι.up b (some w.heap.size) 0) (bI σ.h b B) b B) :
  Sat C U' ⟨σ.t,bI σ.h b B,σ.nx⟩ a (w.alloc (.cells bm e)) (ι.up b (some w.heap.size) 0):=by
 obtain⟨hF,hg,bU⟩:=vg S b hb bm e B;refine S.eh (S.dD.alloc _) hF hg (λi cs hx=>by
  by_cases h:i=b
  ·subst h;rw[QN];exact hB.2
  ·rw[QI _ _ _ _ h,hx];simp) (λid=>?_) (λi j k hi hj=>?_) (λi k hi=>?_) (λi hi=>?_) (λi k hi=>?_) (λk id p hk=>?_)
 ·by_cases h:id=b
  ·subst h;right;rw[QN];exact p8
  ·left;exact⟨QI _ _ _ _ h,bU id h⟩
 ·by_cases h1:i=b
  ·by_cases h2:j=b
   ·rw[h1,h2]
   ·subst h1;rw[Io.cw]at hi;rw[Io.fC _ _ _ _ _ h2]at hj
    cases hi;exact absurd (S.eg j _ hj).2 (Nat.lt_irrefl _)
  ·rw[Io.fC _ _ _ _ _ h1]at hi;by_cases h2:j=b
   ·subst h2;rw[Io.cw]at hj
    cases hj;exact absurd (S.eg i _ hi).2 (Nat.lt_irrefl _)
   ·rw[Io.fC _ _ _ _ _ h2]at hj;exact S.inj i j k hi hj
 ·by_cases h1:i=b
  ·subst h1;rw[Io.cw]at hi
   cases hi;exact⟨.inl (.inl S.dD.size),by simp⟩
  ·rw[Io.fC _ _ _ _ _ h1]at hi;rw[QI _ _ _ _ h1];obtain⟨h2,h3⟩:=S.eg i k hi;exact⟨h2,by simp;omega⟩
 ·obtain⟨h1,h2⟩:=bN i hi;rw[Io.fC _ _ _ _ _ h2,QI _ _ _ _ h2];exact S.fresh i h1
 ·by_cases h1:i=b
  ·subst h1;rw[QN];exact hB
  ·rw[Io.fC _ _ _ _ _ h1]at hi;rw[QI _ _ _ _ h1];exact S.live i k hi
 ·have L:=S.df k id p hk;refine⟨L.pn,?_,L.fr,by have:=L.lt;simp;omega,λi hi=>?_⟩
  ·have h8:id≠b:=λh=>by subst h;obtain⟨_,_,_,_,_,_,h9⟩:=L.dp;rw[(S.fresh id hb).1]at h9;cases h9
   rw[QI _ _ _ _ h8];exact L.dp
  ·by_cases h1:i=b
   ·subst h1;rw[Io.cw]at hi
    cases hi;exact absurd L.lt (Nat.lt_irrefl _)
   ·rw[Io.fC _ _ _ _ _ h1]at hi;exact L.ne i hi
theorem J7{o:Oper}{v:Value}{x:AV}{w':World}{ι':Io}{h':Nat->aR}{Q:Exit->Act->World->Prop}
  (hd:∀ d,o.dst=some d->d<C.N) (cp:(execOp a.eval o).run C.P w = .ok (.value v) w') (S':Sat C U' ⟨σ.t,h',σ.nx⟩ a w' ι') (hv:VR w' (Fz C w' ι' h') ι' h' v x) {bl:List (Nat × aR)} (gY:bp σ.h bl=h') :
  o.wp C.P a w (λa' w'=>cz C U' (σ.app o.dst ⟨x,bl⟩) a' w') Q:=by
 unfold Oper.wp;rw[cp];simp only[Oper.upon];refine⟨ι',?_⟩
 cases ho:o.dst with
 | none=>simpa[St.app,cN,gY,Act.put]using S'
 | some d=>simpa[St.app,cN,gY]using S'.put d (hd d ho) v x hv
theorem D3{o:Oper}{w':World}{ι':Io}{h':Nat->aR}{Q:Exit->Act->World->Prop}
  (hd:∀ d,o.dst=some d->d<C.N) (cp:(execOp a.eval o).run C.P w = .ok .skip w') (S':Sat C U' ⟨σ.t,h',σ.nx⟩ a w' ι') {bl:List (Nat × aR)} (gY:bp σ.h bl=h') :
  o.wp C.P a w (λa' w'=>cz C U' (σ.app o.dst ⟨.u,bl⟩) a' w') Q:=by
 unfold Oper.wp;rw[cp];simp only[Oper.upon];refine⟨ι',?_⟩
 cases ho:o.dst with
 | none=>simpa[St.app,cN,gY,Act.put]using S'
 | some d=>simpa[St.app,cN,gY]using S'.put d (hd d ho) undef .u (.u _)
end
theorem Rd.pl{w w':World}{F:Nat->Prop}{v:Value}{d:D}(h:Rd w F v d)(hd:d.pl=true)(K:Nat->Option (Nat × cD))(id:Nat)(p:cD):RL w' K id p v d:=by
 cases h with
 | v x h=>exact .v _ _ h
 | nil=>exact .nil _ _
 | emp=>exact .emp _ _ _ _
 | sl b o len cap sz es x hlen =>
  cases es with
  | nil=>simp at hlen;subst hlen;exact .emp _ _ _ _
  | cons=>simp[D.pl]at hd
theorem RM.pl{w:World}{F:Nat->Prop}{ι:Io}{id i j:Nat}{m:Mo}{v:Value}{d:D}(h:Rd w F v d)(hd:m.gen.isSome=true->d.pl=true):RM w F ι id m i j v d:=by
 cases m with
 | dp g t H=>exact⟨h.one,λ_=>h.pl (hd rfl) _ _ _⟩
 | _=>exact h
def gJ(i:Nat):Nat->List AV->List (Nat × Nat × Nat)
 | _,[]=>[]
 | j,x::xs=>(match x with | .r _ n _ _=>[(i,j,n)] | _=>[])++gJ i (j+1) xs
theorem D4{i:Nat}:∀ {xs:List AV} {j:Nat},(gJ i j xs).map (λx=>x.2.2)=AV.cR xs
 | [],j=>rfl
 | x::xs,j=>by
  simp only[gJ,List.map_append,AV.cR,D4 (xs:=xs)];congr 1
  cases x <;> rfl
theorem zg{i:Nat}:∀ {xs:List AV} {j i' j' n:Nat},(i',j',n)∈gJ i j xs->i'=i/\∃ k sz off len,j'=j+k/\xs[k]? = some (.r sz n off len)
 | [],j,i',j',n,h=>by simp[gJ]at h
 | x::xs,j,i',j',n,h=>by
  simp only[gJ,List.mem_append]at h
  rcases h with h | h
  ·cases x with
   | r sz id off len=>simp at h;obtain⟨rfl,rfl,rfl⟩:=h;exact⟨rfl,0,sz,off,len,rfl,rfl⟩
   | _=>simp at h
  ·obtain⟨h1,k,sz,off,len,h2,h3⟩:=zg h;exact⟨h1,k+1,sz,off,len,by omega,by simpa using h3⟩
theorem D5{i:Nat}:∀ {xs:List AV} {j k sz n off len:Nat},xs[k]? = some (.r sz n off len)->(i,j+k,n)∈gJ i j xs
 | [],j,k,sz,n,off,len,h=>by simp at h
 | x::xs,j,0,sz,n,off,len,h=>by simp at h;subst h;simp[gJ]
 | x::xs,j,k+1,sz,n,off,len,h=>by
  simp only[gJ,List.mem_append];right;have:=D5 (i:=i) (j:=j+1) (k:=k) (xs:=xs) (by simpa using h);rwa [show j+1+k=j+(k+1) by omega]at this
theorem p9{h:Nat->aR}{id g i:Nat}:∀ {xs:List AV} {j k:Nat} {y:AV},AV.dy h id g i j xs=true->xs[k]? = some y->y.eG h id g i (j+k)=true
 | [],j,k,y,_,h=>by simp at h
 | x::xs,j,0,y,hm,h=>by simp only[AV.dy,Bool.and_eq_true]at hm;simp at h;subst h;exact hm.1
 | x::xs,j,k+1,y,hm,h=>by
  simp only[AV.dy,Bool.and_eq_true]at hm;have:=p9 hm.2 (by simpa using h:xs[k]? = some y);rwa [show j+1+k=j+(k+1) by omega]at this
theorem D6(g:Nat->aR):∀(ids:List Nat)(i:Nat),bp g (iR ids) i=if i∈ids then .dead else g i
 | [],i=>by simp[iR,bp]
 | id::ids,i=>by
  simp only[iR,bp];rw[D6 (bI g id .dead) ids i];by_cases h1:i∈ids
  ·simp[h1]
  ·by_cases h2:i=id
   ·subst h2;simp[h1,bI]
   ·simp[h1,h2,bI]
theorem Sat.jz{C:Ctx}{U:Nat->Prop}{a:Act}{w:World}{id sz g:Nat}{t:Bool}{H:cD}{e:TypeId}{es:List (List D)}{tt:Nat->AV}{nx:Nat}:∀(L:List (Nat × Nat × Nat)){h:Nat->aR}{ι:Io},Sat C U ⟨tt,h,nx⟩ a w ι->
  h id = .sl e sz (.dp g t (L.map (λx=>(x.1,x.2.1))++H)) es->(L.map λx=>x.2.2).Nodup->
  (∀ i j n,(i,j,n)∈L->n≠id/\∃ v bc off len e' g' t' bP x,h n = .sl e' bc (.dp g' t' []) bP/\(∃ bk cur e0,ι id=some bk/\w.heap[bk]? = some (.cells cur e0 (0,0))/\cur[ι.o id+i*sz+j]? = some v)/\
   VR w (Fz C w ι h) ι h v (.r bc n off len)/\es[i]? = some x/\x[j]? = some (.sl bc ((bP.drop off).take len)))->
  ∃ ι' h',Sat C U ⟨tt,h',nx⟩ a w ι'/\h'=(λy=>if y=id then .sl e sz (.dp g t H) es else if y∈L.map (λx=>x.2.2) then .dead else h y)/\(∀ b,Fz C w ι h b->Fz C w ι' h' b)/\
   (∀ v x,VR w (Fz C w ι h) ι h v x->VR w (Fz C w ι' h') ι' h' v x)/\ι' id=ι id/\ι'.o id=ι.o id
 | [],h,ι,S,a9,_,_=>by
  refine⟨ι,h,S,?_,λb hb=>hb,λv x hv=>hv,rfl,rfl⟩;funext y
  by_cases hy:y=id
  ·subst hy;simpa using a9
  ·simp[hy]
 | (i,j,n)::L,h,ι,S,a9,dU,ej=>by
  obtain⟨dM,v,bc,off,len,e',g',t',bP,x,h1,h2,h3,h4,h5⟩:=ej i j n (by simp);simp only[List.map_cons,List.nodup_cons]at dU;obtain⟨S',hF,hg⟩:=S.merge (t:=t) a9 h1 dM h2 h3 h4 h5;have fw:(ι.merge id n i j off len) id=ι id:=QI _ _ _ _ dM.symm;obtain⟨ι',h',q1,q2,q3,q4,q5,q6⟩:=Sat.jz L S' (QN _ _ _) dU.2 (λi' j' n' hm=>by
   obtain⟨k1,v',OW,D7,D8,e2,g2,t2,f4,x2,k2,k3,k4,k5,k6⟩:=ej i' j' n' (List.mem_cons_of_mem _ hm);have hnn:n'≠n:=λh=>by subst h;exact dU.1 (List.mem_map.2 ⟨_,hm,rfl⟩)
   refine⟨k1,v',OW,D7,D8,e2,g2,t2,f4,x2,?_,?_,k4.mono (λb hb=>⟨hF b hb,rfl⟩) hg,k5,k6⟩
   ·show bI (bI h n .dead) id _ n'=_;rw[QI _ _ _ _ k1,QI _ _ _ _ hnn];exact k2
   ·obtain⟨bk,cur,e0,m1,m2,m3⟩:=k3;exact⟨bk,cur,e0,fw.trans m1,m2,m3⟩)
  refine⟨ι',h',q1,?_,λb hb=>q3 b (hF b hb),λu y hu=>q4 u y (hu.mono (λb hb=>⟨hF b hb,rfl⟩) hg),q5.trans fw,q6⟩;rw[q2];funext y
  by_cases hy:y=id
  ·simp[hy]
  ·simp only[hy,if_false,List.map_cons,List.mem_cons];by_cases lh:y∈L.map (λx=>x.2.2)
   ·simp[lh]
   ·by_cases OX:y=n
    ·simp[lh,OX,bI,dM]
    ·simp[lh,OX,bI,hy]
section
variable {C:Ctx} {U U':Nat->Prop} {σ:St} {a:Act} {w:World} {ι:Io} {o:Oper} {Q:Exit->Act->World->Prop} {Γ:ez} {b:Nat} {e:fi}
variable (S:Sat C U σ a w ι) (hd:∀ d,o.dst=some d->d<C.N) (hb:U b) (bN:∀ i,U' i->U i/\i≠b)
include S hd hb bN
theorem QFq{t:TypeId}{zs:List AV}(ho:o.op = .alloc t)(hz:Y2 C.P t=some zs)(he:Qw Γ (aX.ev σ.t) σ.h b (.new t zs)=some e) :
  o.wp C.P a w (λa' w'=>cz C U' (σ.app o.dst e) a' w') Q:=by
 simp only[Qw,Option.some.injEq]at he;subst he;obtain⟨i,z,hi,jW,gA⟩:=vc hz;refine J7 hd (v:=.pointer (some ⟨w.heap.size,0,none⟩)) (w':=w.alloc (.cells z.cells t)) (ι':=ι.up b (some w.heap.size) 0) (h':=bI σ.h b (.box zs)) ?_ (S.alloc b hb bN z.cells t (.box zs) ⟨by simp,by simp⟩ ?_) ?_ rfl
 ·simp[execOp,ho,Instr.alloc,zeroValue,typeInfo,hi,jW,newVar,newRow]
 ·exact .box w.heap.size t z.cells zs (Io.cw _ _ _ _) (Io.bZ _ _ _ _) (heap_alloc_new _ _) (gA w (λ_=>True) ι σ.h).size (gA w (λ_=>True) ι σ.h).one (gA _ _ _ _).vr
 ·have:=VR.p (w:=w.alloc (.cells z.cells t)) (F:=Fz C (w.alloc (.cells z.cells t)) (ι.up b (some w.heap.size) 0) (bI σ.h b (.box zs))) (ι:=ι.up b (some w.heap.size) 0) (h:=bI σ.h b (.box zs)) b 0 0 w.heap.size (Io.cw _ _ _ _) (by rw[QN];simp) (by rw[QN];simp);simpa[Io.bZ]using this
theorem QNR{x:Operand}{x':aX}{t n:Nat}(ho:o.op = .box t x)(hx:cO C.P t x=some x')(he:Qw Γ (aX.ev σ.t) σ.h b (.box t x' n)=some e) :
  o.wp C.P a w (λa' w'=>cz C U' (σ.app o.dst e) a' w') Q:=by
 simp only[Qw]at he
 split at he
 rotate_left
 ·cases he
 rename_i hc
 cases he;have gA:=(Zs S hx).cells hc.2;obtain⟨hF,hg,_⟩:=vg S b hb (a.eval x).cells t (.box ((aX.ev σ.t x').cells));have qc:=CR.mono hF hg gA;refine J7 hd (v:=.pointer (some ⟨w.heap.size,0,none⟩)) (w':=w.alloc (.cells (a.eval x).cells t)) (ι':=ι.up b (some w.heap.size) 0) (h':=bI σ.h b (.box ((aX.ev σ.t x').cells))) ?_ (S.alloc b hb bN _ t _ ⟨by simp,by simp⟩ ?_) ?_ rfl
 ·simp[execOp,ho,Instr.box,newVar,newRow]
 ·exact .box w.heap.size t _ _ (Io.cw _ _ _ _) (Io.bZ _ _ _ _) (heap_alloc_new _ _) qc.size qc.one qc.vr
 ·have:=VR.p (w:=w.alloc (.cells (a.eval x).cells t)) (F:=Fz C (w.alloc (.cells (a.eval x).cells t)) (ι.up b (some w.heap.size) 0) (bI σ.h b (.box ((aX.ev σ.t x').cells)))) (ι:=ι.up b (some w.heap.size) 0) (h:=bI σ.h b (.box ((aX.ev σ.t x').cells))) b 0 0 w.heap.size (Io.cw _ _ _ _) (by rw[QN];simp) (by rw[QN];simp);simpa[Io.bZ]using this
omit S hd hb bN in
theorem OY{P:Program}{t:TypeId}{v:Value}:(kZ P t v).bR=[]:=by
 unfold kZ
 split <;> rfl
omit S hd hb bN in
theorem OZ{P:Program}{t:TypeId}{zs:List AV}(h:Y2 P t=some zs):∀(k:Nat)(x:AV),zs[k]? = some x->x.bR=[]:=by
 unfold Y2 at h
 split at h
 rotate_left
 ·cases h
 rename_i i hi
 split at h
 rotate_left
 ·cases h
 rename_i z hz
 split at h
 rotate_left
 ·cases h
 rename_i x hx
 cases h;intro k y hk;unfold ko at hx
 split at hx
 ·split at hx
  ·rename_i cs _
   cases hx;have aW:=(List.getElem?_eq_some_iff.1 hk).1;simp only[AV.cells,DO]at aW;obtain⟨t',rfl⟩:=DN cs.toList _ k _ y (List.getElem?_eq_getElem aW) hk;exact OY
  ·cases hx
 ·split at hx
  ·cases hx;have hc:(kZ P t z).cells=[kZ P t z]:=by unfold kZ;split <;> rfl
   rw[hc]at hk
   cases k with
   | zero=>simp at hk;subst hk;exact OY
   | succ k=>simp at hk
  ·cases hx
theorem D9{t et sz:Nat}{l:Tmp}{zs:List AV}{i:TypeInfo}(ho:o.op = .makeSlice t (.tmp l) (.tmp l))(ht:fV C.P t=some et)(bV:cA C.P et=some sz)(hz:Y2 C.P et=some zs)(hi:C.P.info? et=some i)
  (h0:0<sz) (lk:i.bytes<=32768) (he:Qw Γ (aX.ev σ.t) σ.h b (.mk et sz zs (.s l))=some e) :
  o.wp C.P a w (λa' w'=>cz C U' (σ.app o.dst e) a' w') Q:=by
 simp only[Qw]at he
 split at he
 rotate_left
 ·cases he
 rename_i n zd hn O0
 split at he
 rotate_left
 ·cases he
 rename_i hc;obtain⟨c1,c2,c3,c4⟩:=hc
 cases he;obtain⟨M,hM⟩:∃ M,M=if Γ.dp=true then Mo.dp 0 true [] else .ow:=⟨_,rfl⟩
 have hMt:M.eY=true:=by rw[hM];split <;> rfl
 have hMg:M.gen.isSome=true->zd.all D.pl=true:=by
  rw[hM]
  split
  ·rename_i h;exact λ_=>c4 h
  ·intro h;cases h
 rw[<- hM];obtain⟨i',z,bY,jW,gA⟩:=vc hz;rw[hi]at bY
 cases bY;obtain⟨i'',jA,g9⟩:=u4 bV;rw[hi]at jA
 cases jA;obtain⟨k,hk⟩:=DP (S.bm l) hn;have Ea:n<=4294967296:=c2;have gK:(i.bytes:Int)*n<=281474976710656:=by
  have h1:(i.bytes:Int)<=32768:=by omega
  have:=Int.mul_le_mul h1 Ea c1 (by omega);omega
 have cp:=run_make (P:=C.P) w t et i z (JR ht) hi jW k k n n c1 (Int.le_refl _) gK (by omega);have O1:zd.length=zs.length:=(AV.dW O0).1;have mW:z.cells.size=sz:=by rw[(gA w (λ_=>True) ι σ.h).size];omega
 rw[g9]at cp;refine J7 hd (v:=.slice (some ⟨w.heap.size,0,none⟩) n.toNat n.toNat) (w':=w.alloc (.cells (madeCells z.cells (n.toNat*sz)) et)) (ι':=ι.up b (some w.heap.size) 0) (h':=bI σ.h b (.sl et sz M (List.replicate n.toNat zd))) ?_
  (S.alloc b hb bN _ et _ ⟨by simp,by simp⟩ ?_) ?_ rfl
 ·have hev:a.eval (.tmp l) = .int k n:=hk;simp[execOp,ho,hev,cp]
 ·refine .sl w.heap.size et et sz M _ _ h0 (Io.cw _ _ _ _) (heap_alloc_new _ _) (λ_=>⟨rfl,Io.bZ _ _ _ _,n.toNat,by simp[madeCells],by simp,by simp[maxLen];omega⟩) (by rw[Io.bZ];simp[madeCells]) (by simp[maxLen];omega) (λx hx=>?_) (λp q x d hx dC=>?_)
  ·rw[List.eq_of_mem_replicate hx];exact c3
  ·have hp:p<n.toNat:=by have:=(List.getElem?_eq_some_iff.1 hx).1;simpa using this
   have hxz:x=zd:=by rw[List.getElem?_replicate,if_pos hp]at hx;cases hx;rfl
   subst hxz;have hq:q<sz:=by rw[<- c3];exact(List.getElem?_eq_some_iff.1 dC).1
   have aW:p*sz+q<n.toNat*sz:=by
    have:(p+1)*sz<=n.toNat*sz:=Nat.mul_le_mul_right _ hp;rw[Nat.add_mul]at this;omega
   have O2:q<z.cells.size:=by omega
   rw[Io.bZ,Nat.zero_add];refine⟨z.cells[q],?_,?_⟩
   ·have hm:(p*sz+q) % z.cells.size=q:=by rw[mW,Nat.mul_comm,Nat.mul_add_mod,Nat.mod_eq_of_lt hq]
    rw[madeCells,Array.getElem?_map,Array.getElem?_range,if_pos aW];simp[hm,O2]
   ·have zh:zs[q]? = some zs[q]:=List.getElem?_eq_getElem (by omega);obtain⟨d',h5,h6⟩:=(AV.dW O0).2 q _ zh;rw[dC]at h5
    cases h5;obtain⟨hF,hg,_⟩:=vg S b hb (madeCells z.cells (n.toNat*sz)) et (.sl et sz M (List.replicate n.toNat x));have:=AV.jy S (F:=Fz C w ι σ.h) (λ_ h=>h) ((gA w (Fz C w ι σ.h) ι σ.h).vr q z.cells[q] zs[q] (by simp[O2]) zh) h6 (λid b' a9=>by rw[OZ hz q _ zh]at a9;cases a9) (λid b' p a9=>by rw[OZ hz q _ zh]at a9;cases a9);exact .pl (this.mono hF) (λh=>List.all_eq_true.1 (hMg h) d (List.mem_of_getElem? dC))
 ·refine .r b 0 n.toNat w.heap.size 0 n.toNat et sz M _ (Io.cw _ _ _ _) (QN _ _ _) (by simp) (Nat.le_refl _) (λ_=>by rw[Io.bZ];simp) (λ_ _=>⟨rfl,?_⟩);unfold World.shape?;rw[heap_alloc_new];simp[madeCells]
omit S hd hb bN in
theorem vi{h:Nat->aR}{x:AV}{ds:List D}(hx:AV.ds h x.cells=some ds):x.st=true:=by
 cases x with
 | u=>simp[AV.cells,AV.ds,AV.d]at hx
 | t vs=>simp[AV.cells,AV.ds,AV.d]at hx
 | bx cs=>simp[AV.cells,AV.ds,AV.d]at hx
 | ow e sz m es=>simp[AV.cells,AV.ds,AV.d]at hx
 | _=>rfl
omit S hd hb bN in
theorem Eb{x:AV}{k:Nat}{y:AV}{id:Nat}(hk:x.cells[k]? = some y)(hi:id∈y.bR):id∈x.refs:=by
 cases x with
 | a cs=>exact s9 hk hi
 | _ =>
  cases k with
  | zero=>simp[AV.cells]at hk;subst hk;exact hi
  | succ k=>simp[AV.cells]at hk
omit hd hb bN in
theorem O3{et sz:Nat}(bV:cA C.P et=some sz) :
  ∀(parts:List (Nat × Operand))(k:Nat)(xs:List aX)(cur:Array Value)(es:List (List D)),mI C.P et k parts=some xs->elems σ.h (aX.ev σ.t) sz xs=some es->
   (k+parts.length)*sz<=cur.size->
   es.length=parts.length/\(∀ x,x∈es->x.length=sz)/\∃ dg,Instr.fill (λi=>some (i*sz,sz)) cur (parts.map λx=>(x.1,a.eval x.2))=some dg/\dg.size=cur.size/\(∀ m,m<k*sz->dg[m]? = cur[m]?)/\
    ∀(i j:Nat)(el:List D)(d:D),es[i]? = some el->el[j]? = some d->∃ v xo y,dg[(k+i)*sz+j]? = some v/\xs[i]? = some xo/\(aX.ev σ.t xo).cells[j]? = some y/\VR w (Fz C w ι σ.h) ι σ.h v y/\y.d σ.h=some d
 | [],k,xs,cur,es,hp,he,_=>by
  simp[mI]at hp;subst hp;simp[elems]at he;subst he;exact⟨rfl,by simp,cur,rfl,rfl,λ_ _=>rfl,by simp⟩
 | (i,x)::parts,k,xs,cur,es,hp,he,hle=>by
  simp only[mI]at hp
  split at hp
  rotate_left
  ·cases hp
  rename_i kt;subst kt
  split at hp
  rotate_left
  ·cases hp
  rename_i y ys hy iV
  cases hp;simp only[elems]at he
  split at he
  rotate_left
  ·cases he
  rename_i el0 bP cT gi
  split at he
  rotate_left
  ·cases he
  rename_i hlen
  cases he;have gA:=(Zs S hy).cells (vi cT);have cn:=AV.dW cT;have aic:(a.eval x).cells.size=sz:=by rw[gA.size,<- cn.1,hlen]
  simp only[List.length_cons]at hle;have aid:i*sz+sz<=cur.size:=by
   have:(i+1)*sz<=(i+(parts.length+1))*sz:=Nat.mul_le_mul_right _ (by omega);rw[Nat.add_mul]at this;omega
  obtain⟨f1,f2⟩:=OP cur (a.eval x).cells (i*sz) (by omega);obtain⟨r1,r2,dg,r3,r4,r5,r6⟩:=O3 bV parts (i+1) ys _ bP iV gi (by rw[f1];rw[show i+1+parts.length=i+(parts.length+1) by omega];exact hle);refine⟨by simp[r1],λz hz=>?_,dg,?_,by rw[r4,f1],λm hm=>?_,λp q el d mX dC=>?_⟩
  ·rcases List.mem_cons.1 hz with rfl | hz
   ·exact hlen
   ·exact r2 z hz
  ·simp only[List.map_cons,Instr.fill];rw[if_neg (by simp only[Bool.or_eq_true,decide_eq_true_eq];rintro(h | h) <;> omega)];exact r3
  ·rw[r5 m (by rw[Nat.add_mul];omega),f2 m,if_pos hm]
  ·cases p with
   | zero =>
    simp at mX;subst mX;have hq:q<sz:=by rw[<- hlen];exact(List.getElem?_eq_some_iff.1 dC).1
    have oo:q<(aX.ev σ.t y).cells.length:=by rw[<- cn.1];omega
    obtain⟨d',h5,h6⟩:=cn.2 q _ (List.getElem?_eq_getElem oo);rw[dC]at h5
    cases h5;have vj:q<(a.eval x).cells.size:=by omega
    have dR:=gA.vr q _ _ (Array.getElem?_eq_getElem vj) (List.getElem?_eq_getElem oo);refine⟨(a.eval x).cells[q],y,_,?_,rfl,List.getElem?_eq_getElem oo,dR,h6⟩;rw[Nat.add_zero,r5 _ (by rw[Nat.add_mul];omega),f2,if_neg (by omega),if_pos (by omega)];rw[show i*sz+q-i*sz=q by omega];exact Array.getElem?_eq_getElem vj
   | succ p =>
    simp at mX;rw[show i+(p+1)=i+1+p by omega];exact r6 p q el d mX dC
omit S hd hb bN in
theorem vk{h:Nat->aR}:∀ {xs:List AV} {ds:List D},AV.ds h xs=some ds->∀ id,id∈AV.bM xs->∃ e sz m es,h id = .sl e sz m es
 | [],_,_,id,hi=>by simp[AV.bM]at hi
 | x::xs,ds,hx,id,hi=>by
  simp only[AV.ds]at hx
  split at hx
  ·rename_i d s8 h1 h2;simp only[AV.bM,List.mem_append]at hi
   rcases hi with hi | hi
   ·cases x with
    | r bc b7 off len =>
     simp[AV.bR]at hi;subst hi;simp only[AV.d]at h1
     split at h1
     ·rename_i e sz m es hh;exact⟨e,sz,m,es,hh⟩
     ·cases h1
    | b d' b7 g p =>
     simp[AV.bR]at hi;subst hi;simp only[AV.d]at h1
     split at h1
     ·rename_i hg
      cases hx:h id with
      | sl e sz m es=>exact⟨e,sz,m,es,rfl⟩
      | _=>rw[hx]at hg;cases hg
     ·cases h1
    | _=>simp[AV.bR]at hi
   ·exact vk h2 id hi
  ·cases hx
omit S hd hb bN in
theorem O4{h:Nat->aR}{x:AV}{d:D}(hx:x.d h=some d):∀ id,id∈x.bR->∀ e sz m es,h id = .sl e sz m es->m.full=true:=by
 intro id hi e sz m es hh
 cases x with
 | r bc b7 off len =>
  simp[AV.bR]at hi;subst hi;simp only[AV.d,hh]at hx
  split at hx
  ·assumption
  ·cases hx
 | b d' b7 g p =>
  simp[AV.bR]at hi;subst hi;simp only[AV.d,hh]at hx
  split at hx
  ·rename_i hg;exact aR.kh hg
  ·cases hx
 | _=>simp[AV.bR]at hi
omit S hd hb bN in
theorem zi{h:Nat->aR}:∀ {xs:List AV} {ds:List D},AV.ds h xs=some ds->Full h (AV.bM xs)
 | [],_,_,id,hi=>by simp[AV.bM]at hi
 | x::xs,ds,hx,id,hi=>by
  simp only[AV.ds]at hx
  split at hx
  ·rename_i d s8 h1 h2;simp only[AV.bM,List.mem_append]at hi
   rcases hi with hi | hi
   ·exact O4 h1 id hi
   ·exact zi h2 id hi
  ·cases hx
omit S hd hb bN in
theorem zj{x:AV}(hx:x.st=true):x.refs=AV.bM x.cells:=by
 cases x with
 | a cs=>rfl
 | _=>first | (simp[AV.st,AV.one]at hx;done) | simp[AV.refs,AV.cells,AV.bM]
omit S hd hb bN in
theorem O5{h:Nat->aR}{ev:aX->AV}{sz:Nat}:∀ {xs:List aX} {es:List (List D)},elems h ev sz xs=some es->∀ id,id∈xs.flatMap (λx=>(ev x).refs)->∃ e sz m es,h id = .sl e sz m es
 | [],_,_,id,hi=>by simp at hi
 | x::xs,es,hx,id,hi=>by
  simp only[elems]at hx
  split at hx
  ·rename_i e bP h1 h2
   split at hx
   ·simp only[List.flatMap_cons,List.mem_append]at hi
    rcases hi with hi | hi
    ·rw[zj (vi h1)]at hi;exact vk h1 id hi
    ·exact O5 h2 id hi
   ·cases hx
  ·cases hx
omit S hd hb bN in
theorem O6{h:Nat->aR}{ev:aX->AV}{sz:Nat}:∀ {xs:List aX} {es:List (List D)},elems h ev sz xs=some es->Full h (xs.flatMap λx=>(ev x).refs)
 | [],_,_,id,hi=>by simp at hi
 | x::xs,es,hx,id,hi=>by
  simp only[elems]at hx
  split at hx
  ·rename_i e bP h1 h2
   split at hx
   ·simp only[List.flatMap_cons,List.mem_append]at hi
    rcases hi with hi | hi
    ·rw[zj (vi h1)]at hi;exact zi h1 id hi
    ·exact O6 h2 id hi
   ·cases hx
  ·cases hx
omit hd hb bN in
theorem O7{ids:List Nat}(ln:∀ id,id∈ids->∃ e sz m es,σ.h id = .sl e sz m es):(∀ id b,id∈ids->ι id=some b->Fz C w (ι.loose ids) (bp σ.h (eT σ.h ids)) b)/\
  ∀ id b p,id∈ids->ι.k b=some (id,p)->Fz C w (ι.loose ids) (bp σ.h (eT σ.h ids)) b:=by
 refine⟨λid b a9 hi=>?_,λid b p a9 hk=>?_⟩
 ·obtain⟨e,sz,m,es,hh⟩:=ln id a9;obtain⟨h1,h2⟩:=S.eg id b hi;refine⟨h2,.inr (h1.elim (λh=>h) λ⟨_,cs,h3⟩=>by rw[hh]at h3;cases h3),λb7 bY=>?_,?_⟩
  ·have:=S.inj b7 id b bY hi;subst this;rw[Yw,if_pos a9,hh];rfl
  ·refine Io.gI ?_
   cases hk:ι.k b with
   | none=>rfl
   | some z=>obtain⟨z,q⟩:=z;exact absurd hi ((S.df b z q hk).ne id)
 ·have L:=S.df b id p hk;refine⟨L.lt,.inr L.fr,λi hi=>absurd hi (L.ne i),?_⟩
  cases fj:(ι.loose ids).k b with
  | none=>rfl
  | some z =>
   obtain⟨z,q⟩:=z;obtain⟨k1,k2⟩:=Io.eK.1 fj;rw[hk]at k1
   cases k1;exact absurd a9 k2
omit S hd hb bN in
theorem QJl{P:Program}{w:World}{t et sz n:Nat}{parts:Array (Nat × Value)}{i:TypeInfo}{z:Value}{cells:Array Value}(ht:P.underlying t=some (.slice et))(hi:P.info? et=some i)(hz:i.zero=some z)(bV:i.size=sz)(h0:0<sz)
  (fx:n*sz<=16777216) (hf:Instr.fill (λk=>some (k*sz,sz)) (madeCells z.cells (n*sz)) parts.toList=some cells) :
  (Instr.buildSlice t n parts).run P w = .ok (.slice (some ⟨w.heap.size,0,none⟩) n n) (w.alloc (.cells cells et)):=by
 have h1:¬ 16777216<n*sz:=by omega
 by_cases hn:n=0
 ·subst hn;have hm:madeCells z.cells (0*sz) = #[]:=by simp[madeCells,Array.range_zero']
  rw[hm]at hf;simp[Instr.buildSlice,run_underlying ht,sizeOf,typeInfo,hi,bV,newRow,Array.range_zero',hf]
 ·have hf':Instr.fill (λk=>some (k*sz,sz)) ((Array.range (n*sz)).map λx=>z.cells[x % z.cells.size]!) parts.toList=some cells:=hf;have mb:sz≠0:=by omega
  have hm:¬ n*sz=0:=Nat.mul_ne_zero hn mb;simp[Instr.buildSlice,hm,run_underlying ht,sizeOf,typeInfo,zeroValue,hi,hz,bV,h1,hn,mb,newRow,hf']
omit S hd hb bN in
theorem O8{P:Program}{et:TypeId}:∀ {parts:List (Nat × Operand)} {k:Nat} {xs:List aX},mI P et k parts=some xs->xs.length=parts.length
 | [],k,xs,h=>by simp[mI]at h;subst h;rfl
 | (i,x)::parts,k,xs,h=>by
  simp only[mI]at h
  split at h
  ·split at h
   ·rename_i y ys h1 h2
    cases h;simp[O8 h2]
   ·cases h
  ·cases h
omit S hd hb bN in
theorem O9{B:aR}(h:B.pR=true):∃ e sz g t es,B = .sl e sz (.dp g t []) es:=by
 unfold aR.pR at h
 split at h
 ·exact⟨_,_,_,_,_,rfl⟩
 ·cases h
def gj(ev:aX->AV):Nat->List aX->List (Nat × Nat × Nat)
 | _,[]=>[]
 | i,x::r=>gJ i 0 (ev x).cells++gj ev (i+1) r
omit S hd hb bN in
theorem Ec{x:AV}(hx:x.st=true):x.db=AV.cR x.cells:=by
 cases x with
 | a cs=>rfl
 | _=>first | (simp[AV.st,AV.one]at hx;done) | simp[AV.db,AV.cells,AV.cR]
omit S hd hb bN in
theorem Pa:∀ {xs:List AV} {id:Nat},id∈AV.cR xs->∃(k sz off len:Nat),xs[k]? = some (AV.r sz id off len)
 | [],id,h=>by simp[AV.cR]at h
 | x::xs,id,h=>by
  simp only[AV.cR,List.mem_append]at h
  rcases h with h | h
  ·cases x with
   | r sz b7 off len=>simp[AV.fD]at h;subst h;exact⟨0,sz,off,len,rfl⟩
   | _=>simp[AV.fD]at h
  ·obtain⟨k,sz,off,len,h⟩:=Pa h;exact⟨k+1,sz,off,len,by simpa using h⟩
omit S hd hb bN in
theorem Ed{h:Nat->aR}{ev:aX->AV}{sz:Nat}:∀ {xs:List aX} {es:List (List D)},elems h ev sz xs=some es->∀ {i:Nat} {x:aX},xs[i]? = some x->AV.ds h (ev x).cells=some ((es[i]?).getD [])
 | [],_,_,i,x,hx=>by simp at hx
 | y::xs,es,he,i,x,hx=>by
  simp only[elems]at he
  split at he
  rotate_left
  ·cases he
  rename_i e bP h1 h2
  split at he
  rotate_left
  ·cases he
  cases he
  cases i with
  | zero=>simp at hx;subst hx;simpa using h1
  | succ i=>simpa using Ed h2 (by simpa using hx)
omit S hd hb bN in
theorem Pb{h:Nat->aR}{ev:aX->AV}{sz:Nat}:∀ {xs:List aX} {es:List (List D)},elems h ev sz xs=some es->es.length=xs.length
 | [],es,he=>by simp[elems]at he;subst he;rfl
 | y::xs,es,he=>by
  simp only[elems]at he
  split at he
  rotate_left
  ·cases he
  rename_i e bP h1 h2
  split at he
  rotate_left
  ·cases he
  cases he;simp[Pb h2]
omit S hd hb bN in
theorem QSG{h:Nat->aR}{ev:aX->AV}{sz:Nat}{xs:List aX}{es:List (List D)}(he:elems h ev sz xs=some es){i j:Nat}{x:aX}{y:AV}(hx:xs[i]? = some x)(hy:(ev x).cells[j]? = some y):∃ el d,es[i]? = some el/\el[j]? = some d:=by
 have h1:=Ed he hx;have hl:=Pb he;have hi:i<es.length:=by rw[hl];exact(List.getElem?_eq_some_iff.1 hx).1
 rw[List.getElem?_eq_getElem hi]at h1;obtain⟨h2,h3⟩:=AV.dW h1;obtain⟨d,h4,_⟩:=h3 j y hy;exact⟨es[i],d,List.getElem?_eq_getElem hi,by simpa using h4⟩
omit S hd hb bN in
theorem Pc{h:Nat->aR}{ev:aX->AV}{sz:Nat}:∀ {xs:List aX} {es:List (List D)} {i:Nat},elems h ev sz xs=some es->(gj ev i xs).map (λx=>x.2.2)=xs.flatMap λx=>(ev x).db
 | [],es,i,_=>rfl
 | x::xs,es,i,he=>by
  simp only[elems]at he
  split at he
  rotate_left
  ·cases he
  rename_i e bP h1 h2;simp only[gj,List.map_append,List.flatMap_cons,D4,Pc h2,Ec (vi h1)]
omit S hd hb bN in
theorem Pd{ev:aX->AV}:∀ {xs:List aX} {k i j n:Nat},(i,j,n)∈gj ev k xs->∃ m xo,i=k+m/\xs[m]? = some xo/\∃ sz off len,(ev xo).cells[j]? = some (.r sz n off len)
 | [],k,i,j,n,h=>by simp[gj]at h
 | x::xs,k,i,j,n,h=>by
  simp only[gj,List.mem_append]at h
  rcases h with h | h
  ·obtain⟨rfl,q,sz,off,len,h2,h3⟩:=zg h;exact⟨0,x,rfl,rfl,sz,off,len,by rw[h2,Nat.zero_add];exact h3⟩
  ·obtain⟨m,xo,h1,h2,h3⟩:=Pd h;exact⟨m+1,xo,by omega,by simpa using h2,h3⟩
omit S hd hb bN in
theorem QJ0{ev:aX->AV}{xs:List aX}{i j n:Nat}(h:(i,j,n)∈gj ev 0 xs):∃ xo,xs[i]? = some xo/\∃ sz off len,(ev xo).cells[j]? = some (.r sz n off len):=by
 obtain⟨m,xo,h1,h2,h3⟩:=Pd h;rw[Nat.zero_add]at h1;subst h1;exact⟨xo,h2,h3⟩
omit S hd hb bN in
theorem Pe{ev:aX->AV}:∀ {xs:List aX} {k m j n sz off len:Nat} {xo:aX},xs[m]? = some xo->(ev xo).cells[j]? = some (.r sz n off len)->(k+m,j,n)∈gj ev k xs
 | [],k,m,j,n,sz,off,len,xo,h,_=>by simp at h
 | x::xs,k,0,j,n,sz,off,len,xo,h,h2=>by
  simp at h;subst h;simp only[gj,List.mem_append,Nat.add_zero];left;have:=D5 (i:=k) (j:=0) h2;rwa [Nat.zero_add]at this
 | x::xs,k,m+1,j,n,sz,off,len,xo,h,h2=>by
  simp only[gj,List.mem_append];right;have:=Pe (k:=k+1) (xs:=xs) (m:=m) (by simpa using h) h2;rwa [show k+1+m=k+(m+1) by omega]at this
omit S hd hb bN in
theorem QUh{ev:aX->AV}{xs:List aX}{i j n sz off len:Nat}{xo:aX}(h:xs[i]? = some xo)(h2:(ev xo).cells[j]? = some (.r sz n off len)):(i,j,n)∈gj ev 0 xs:=by
 have:=Pe (k:=0) h h2;rwa [Nat.zero_add]at this
omit S hd hb bN in
theorem Pf{h:Nat->aR}{b:Nat}{ev:aX->AV}:∀ {xs:List aX} {k m:Nat} {xo:aX},gF h b ev k xs=true->xs[m]? = some xo->AV.dy h b 0 (k+m) 0 (ev xo).cells=true
 | [],k,m,xo,_,h=>by simp at h
 | x::xs,k,0,xo,hm,h=>by simp only[gF,Bool.and_eq_true]at hm;simp at h;subst h;exact hm.1
 | x::xs,k,m+1,xo,hm,h=>by
  simp only[gF,Bool.and_eq_true]at hm;have:=Pf hm.2 (by simpa using h:xs[m]? = some xo);rwa [show k+1+m=k+(m+1) by omega]at this
omit S hd hb bN in
theorem Ee{h:Nat->aR}{b:Nat}{ev:aX->AV}{xs:List aX}{m:Nat}{xo:aX}(hm:gF h b ev 0 xs=true)(hx:xs[m]? = some xo):AV.dy h b 0 (0+m) 0 (ev xo).cells=true:=Pf hm hx
theorem QJh{t et sz n:Nat}{parts:Array (Nat × Operand)}{xs:List aX}(ho:o.op = .buildSlice t n parts)(ht:fV C.P t=some et)(bV:cA C.P et=some sz)(hp:mI C.P et 0 parts.toList=some xs)(hn:xs.length=n)(h0:0<sz)
  (fx:n*sz<=16777216) (hz:(Y2 C.P et).isSome=true) (he:Qw Γ (aX.ev σ.t) σ.h b (.bW et sz xs)=some e) :
  o.wp C.P a w (λa' w'=>cz C U' (σ.app o.dst e) a' w') Q:=by
 simp only[Qw]at he
 split at he
 rotate_left
 ·cases he
 rename_i es gi;obtain⟨zs,mW⟩:=Option.isSome_iff_exists.1 hz;obtain⟨i,z,hi,jW,_⟩:=vc mW;obtain⟨i',bY,g9⟩:=u4 bV;rw[hi]at bY
 cases bY;have gz:parts.toList.length=n:=by rw[<- O8 hp];exact hn
 obtain⟨r1,r2,dg,r3,r4,_,r6⟩:=O3 S bV parts.toList 0 xs (madeCells z.cells (n*sz)) es hp gi (by rw[Nat.zero_add,gz];simp[madeCells]);have cp:=QJl (P:=C.P) (w:=w) (t:=t) (n:=n) (parts:=parts.map λx=>(x.1,a.eval x.2)) (JR ht) hi jW g9 h0 fx (by simpa using r3);have hlen:es.length=n:=by rw[r1,gz]
 have fq:n<=maxLen:=by
  have:n*1<=n*sz:=Nat.mul_le_mul_left _ h0;simp[maxLen];omega
 have dI:dg.size=n*sz:=by rw[r4];simp[madeCells]
 split at he
 ·
  rename_i iW
  split at he
  rotate_left
  ·cases he
  rename_i hc;obtain⟨hm,dU⟩:=hc
  cases he;obtain⟨L,hL⟩:∃ L,L=gj (aX.ev σ.t) 0 xs:=⟨_,rfl⟩
  have ta:L.map (λx=>x.2.2)=xs.flatMap λx=>(aX.ev σ.t x).db:=by rw[hL];exact Pc gi
  obtain⟨H,hH⟩:∃ H:cD,H=L.map (λx=>(x.1,x.2.1))++[]:=⟨_,rfl⟩
  obtain⟨td,ig,_⟩:=vg S b hb dg et (.sl et sz (.dp 0 true H) es);have hbs:∀ z:Nat,ι.o b+z=ι.o b+z:=λ_=>rfl;have SA:Sat C U' ⟨σ.t,bI σ.h b (.sl et sz (.dp 0 true H) es),σ.nx⟩ a (w.alloc (.cells dg et)) (ι.up b (some w.heap.size) 0):=by
   refine S.alloc b hb bN _ et _ ⟨by simp,by simp⟩ ?_;refine .sl w.heap.size et et sz _ es dg h0 (Io.cw _ _ _ _) (heap_alloc_new _ _) (λ_=>⟨rfl,Io.bZ _ _ _ _,n,dI,by omega,fq⟩) (by rw[Io.bZ,hlen,dI];omega) (by omega) r2 (λp q x d hx dC=>?_);obtain⟨v,xo,y,h1,h2,h3,h4,h5⟩:=r6 p q x d hx dC;rw[Nat.zero_add]at h1;rw[Io.bZ,Nat.zero_add];have eb:=p9 (Ee hm h2) h3;rw[Nat.zero_add,Nat.zero_add]at eb;refine⟨v,h1,?_⟩
   cases y with
   | c d0 =>
    cases d0 with
    | v u =>
     simp only[AV.d,Option.some.injEq]at h5;subst h5
     cases h4 with | c _ _ hr=>exact .pl (hr.mono td) (λ_=>rfl)
    | sl=>simp[AV.eG]at eb
   | n kV =>
    simp only[AV.d,Option.some.injEq]at h5;subst h5
    cases h4 with | n=>exact .pl (F:=Fz C (w.alloc (.cells dg et)) (ι.up b (some w.heap.size) 0) (bI σ.h b (.sl et sz (.dp 0 true H) es))) (.nil _) (λ_=>rfl)
   | r kV id off len =>
    refine⟨h4.one rfl,λdr=>absurd ?_ dr⟩;rw[hH,hL,List.append_nil];refine List.mem_map.2 ⟨(p,q,id),QUh h2 h3,rfl⟩
   | b d0 id g pt =>
    simp only[AV.eG,Bool.and_eq_true]at eb;have:=Nat.eq_of_beq_eq_true eb.1.1;subst this;simp only[AV.d,(S.fresh id hb).1,aR.dn]at h5
    cases h5
   | _=>simp[AV.eG]at eb
  obtain⟨ι',h',q1,q2,q3,q4,q5,q6⟩:=Sat.jz L SA (by rw[<- hH];exact QN _ _ _) (by rw[ta];exact dU) (λi j n' te=>by
   obtain⟨xo,h2,kV,off,len,h3⟩:=QJ0 (by rw[<- hL];exact te);have eb:=p9 (Ee hm h2) h3;simp only[AV.eG,Bool.and_eq_true,Bool.not_eq_true',Nat.zero_add]at eb;have kr:n'≠b:=λh=>by subst h;simp at eb
   obtain⟨e',bc,g',t',bP,hh⟩:=O9 eb.2;have hjx:∃ el d,es[i]? = some el/\el[j]? = some d:=QSG gi h2 h3;obtain⟨el,d,k1,k2⟩:=hjx;obtain⟨v,xo',y,m1,m2,m3,m4,m5⟩:=r6 i j el d k1 k2;rw[h2]at m2;cases m2;rw[h3]at m3;cases m3;have Ef:=m5;simp only[AV.d,hh]at Ef;simp only[Mo.full,if_true,Option.some.injEq]at Ef;have lj:kV=bc:=by
    cases m4 with
    | cy _ _ _ _ _ _ hd=>rw[hd]at hh;cases hh
    | cL _ _ _ _ _ b9=>rw[hh]at b9;cases b9;rfl
    | de _ _ _ _ _ _ _ b9=>rw[hh]at b9;cases b9;rfl
    | r _ _ _ _ _ _ _ _ _ _ _ b9=>rw[hh]at b9;cases b9;rfl
   subst lj;refine⟨kr,v,kV,off,len,e',g',t',bP,el,?_,⟨w.heap.size,dg,et,Io.cw _ _ _ _,heap_alloc_new _ _,?_⟩,m4.mono td ig,k1,?_⟩
   ·show bI σ.h b _ n'=_;rw[QI _ _ _ _ kr];exact hh
   ·rw[Io.bZ,Nat.zero_add];rw[Nat.zero_add]at m1;exact m1
   ·rw[k2,Ef])
  refine J7 (σ:=σ) hd (v:=.slice (some ⟨w.heap.size,0,none⟩) n n) (w':=w.alloc (.cells dg et)) (ι':=ι') (h':=h') ?_ q1 ?_ ?_
  ·simp only[execOp,ho,Sem.run_bind,cp,Result.andThen_ok,Sem.run_pure]
  ·rw[hlen];refine q4 _ _ (.r b 0 n w.heap.size 0 n et sz _ es (Io.cw _ _ _ _) (QN _ _ _) (by omega) (Nat.le_refl _) (λ_=>by rw[Io.bZ];simp) (λ_ _=>⟨rfl,?_⟩));unfold World.shape?;rw[heap_alloc_new];simp[dI]
  ·rw[q2];funext k
   simp only[bp];rw[D6,<- ta];by_cases hk:k=b
   ·subst hk;have:k∉L.map λx=>x.2.2:=by
     intro hk;rw[ta]at hk;obtain⟨x,qd,mQ⟩:=List.mem_flatMap.1 hk;obtain⟨p,ij⟩:=List.getElem?_of_mem qd;have iN:=vi (Ed gi ij);rw[Ec iN]at mQ;obtain⟨q,kV,off,len,hq⟩:=Pa mQ;have eb:=p9 (Ee hm ij) hq;simp[AV.eG]at eb
    rw[if_neg this,QN,if_pos rfl]
   ·rw[QI _ _ _ _ hk,if_neg hk];show _=if k∈L.map (λx=>x.2.2) then aR.dead else bI σ.h b _ k;rw[QI _ _ _ _ hk]
 ·cases he;have hrefs:=O5 gi;obtain⟨S1,hF⟩:=S.freeze (xs.flatMap λx=>(aX.ev σ.t x).refs) (O6 gi);obtain⟨cr,vm⟩:=O7 S hrefs;have mU:b∉xs.flatMap λx=>(aX.ev σ.t x).refs:=by
   intro mE;obtain⟨e,sz,m,es,hh⟩:=hrefs b mE;rw[(S.fresh b hb).1]at hh
   cases hh
  have r7:∀(i j:Nat)(el:List D)(d:D),es[i]? = some el->el[j]? = some d->∃ v,dg[(0+i)*sz+j]? = some v/\Rd w (Fz C w (ι.loose (xs.flatMap λx=>(aX.ev σ.t x).refs)) (bp σ.h (eT σ.h (xs.flatMap λx=>(aX.ev σ.t x).refs)))) v d:=by
   intro i j el d h1 h2;obtain⟨v,xo,y,m1,m2,m3,m4,m5⟩:=r6 i j el d h1 h2;have fc:∀ id,id∈y.bR->id∈xs.flatMap λx=>(aX.ev σ.t x).refs:=λid a9=>List.mem_flatMap.2 ⟨xo,List.mem_of_getElem? m2,Eb m3 a9⟩;exact⟨v,m1,AV.jy S hF m4 m5 (λid b a9=>cr id b (fc id a9)) (λid b p a9=>vm id b p (fc id a9))⟩
  generalize hP:(xs.flatMap λx=>(aX.ev σ.t x).refs)=ids at *;obtain⟨td,ig,_⟩:=vg S1 b hb dg et (.sl et sz .ow es);have SA:Sat C U' ⟨σ.t,bI (bp σ.h (eT σ.h ids)) b (.sl et sz .ow es),σ.nx⟩ a (w.alloc (.cells dg et)) ((ι.loose ids).up b (some w.heap.size) 0):=by
   refine S1.alloc b hb bN _ et _ ⟨by simp,by simp⟩ ?_;refine .sl w.heap.size et et sz .ow es dg h0 (Io.cw _ _ _ _) (heap_alloc_new _ _) (λ_=>⟨rfl,Io.bZ _ _ _ _,n,dI,by omega,fq⟩) (by rw[Io.bZ,hlen,dI];omega) (by omega) r2 (λp q x d hx dC=>?_);obtain⟨v,h1,h2⟩:=r7 p q x d hx dC;rw[Nat.zero_add]at h1;rw[Io.bZ,Nat.zero_add];exact⟨v,h1,h2.mono td⟩
  refine J7 (σ:=σ) hd (v:=.slice (some ⟨w.heap.size,0,none⟩) n n) (w':=w.alloc (.cells dg et)) (ι':=(ι.loose ids).up b (some w.heap.size) 0) (h':=bI (bp σ.h (eT σ.h ids)) b (.sl et sz .ow es)) ?_ SA ?_ ?_
  ·simp only[execOp,ho,Sem.run_bind,cp,Result.andThen_ok,Sem.run_pure]
  ·rw[hlen];refine .r b 0 n w.heap.size 0 n et sz .ow es (Io.cw _ _ _ _) (QN _ _ _) (by omega) (Nat.le_refl _) (λ_=>by rw[Io.bZ];simp) (λ_ _=>⟨rfl,?_⟩);unfold World.shape?;rw[heap_alloc_new];simp[dI]
  ·funext k
   simp only[bp];rw[Yw];by_cases hk:k=b
   ·subst hk;rw[if_neg mU,QN,QN]
   ·rw[QI _ _ _ _ hk,QI _ _ _ _ hk,Yw]
end
end Go.Proofs.YtdplaepmjogjjaaGreat.Am
namespace Go.Proofs.YtdplaepmjogjjaaGreat.Am
open Go Go.RowKit
section
variable {C:Ctx} {U U':Nat->Prop} {σ:St} {a:Act} {w:World} {ι:Io}
theorem QG3{w:World}{g k:Nat}{cur new:Array Value}{et:TypeId}(hb:w.heap[g]? = some (.cells cur et (0,0)))(bV:new.size=cur.size):(w.setRow g new).shape? k=w.shape? k:=by
 unfold World.shape?;by_cases h:k=g
 ·subst h;rw[setRow_heap w k cur new et (0,0) hb,hb];simp[bV]
 ·rw[setRow_other w g k new h]
theorem ki.setRow{C:Ctx}{w:World}(h:ki C w){g:Nat}(hg:C.w0.heap.size<=g\/C.X g)(new:Array Value):ki C (w.setRow g new) :=
 ⟨h.os,h.tape,h.output,by have:=h.size;simp;exact this,λk hk hx=>by
  rw[setRow_other w g k new (λe=>by subst e;exact hg.elim (λhg=>by omega) (λhg=>hx hg))];exact h.block k hk hx⟩
theorem zk(S:Sat C U σ a w ι){id g:Nat}(hi:ι id=some g){cur new:Array Value}{et:TypeId}(hb:w.heap[g]? = some (.cells cur et (0,0)))(bV:new.size=cur.size){B:aR}
  (cQ:cM (σ.h id) B) (cr:(σ.h id).own=true) (fE:∀ g,(σ.h id).gen=some g->B.gen≠some g) :
  (∀ k,Fz C w ι σ.h k->Fz C (w.setRow g new) ι (bI σ.h id B) k/\(w.setRow g new).heap[k]? = w.heap[k]?)/\
  (∀ i,cY w (w.setRow g new) ι ι σ.h (bI σ.h id B) i)/\(∀ i,i≠id->Rest w (w.setRow g new) ι ι i)/\∀ i,mD w (w.setRow g new) ι ι i:=by
 have gg:∀ i,mD w (w.setRow g new) ι ι i:=λi b p hk=>⟨hk,setRow_other w g b new (λe=>by subst e;exact(S.df _ i p hk).ne id hi)⟩
 have bU:∀ i,i≠id->Rest w (w.setRow g new) ι ι i:=λi h=>⟨rfl,rfl,λk hk=>setRow_other w g k new (λe=>by subst e;exact h (S.inj i id _ hk hi)),gg i⟩
 refine⟨λk hk=>⟨⟨by simpa using hk.1,hk.2.1,λi kt=>?_,hk.2.2.2⟩,setRow_other w g k new (λe=>?_)⟩,λi=>?_,bU,gg⟩
 ·by_cases h:i=id
  ·subst h;rw[hi]at kt
   cases kt;have:=hk.2.2.1 _ hi;rw[cr]at this
   cases this
  ·rw[QI _ _ _ _ h];exact hk.2.2.1 i kt
 ·subst e;have:=hk.2.2.1 _ hi;rw[cr]at this
  cases this
 ·by_cases h:i=id
  ·subst h;unfold cY;right;right;rw[QN];exact⟨rfl,rfl,cQ,λk _=>QG3 hb bV,λg h1 h2=>absurd h2 (fE g h1)⟩
  ·exact(bU i h).gD (QI _ _ _ _ h)
theorem Sat.setRow(S:Sat C U σ a w ι)(bN:∀ i,U' i->U i){id g:Nat}(hi:ι id=some g){cur new:Array Value}{et:TypeId}(hb:w.heap[g]? = some (.cells cur et (0,0)))(bV:new.size=cur.size){B:aR}
  (cQ:cM (σ.h id) B) (cr:(σ.h id).own=true) (fE:∀ g,(σ.h id).gen=some g->B.gen≠some g) (iW:∀ e sz g t H es,σ.h id = .sl e sz (.dp g t H) es->∃ e sz g t H es,B = .sl e sz (.dp g t H) es)
  (p8:BR (w.setRow g new) (Fz C (w.setRow g new) ι (bI σ.h id B)) ι (bI σ.h id B) id B) :
  Sat C U' ⟨σ.t,bI σ.h id B,σ.nx⟩ a (w.setRow g new) ι:=by
 obtain⟨hF,hg,bU,gg⟩:=zk S hi hb bV cQ cr fE;have kj:=S.eg id g hi;refine S.eh (S.dD.setRow (kj.1.elim (λh=>h.dD) (λh=>.inr h.1)) new) hF hg (λi cs hx=>by
  by_cases h:i=id
  ·subst h;rw[QN];exact cQ.ne.2
  ·rw[QI _ _ _ _ h,hx];simp) (λi=>?_) S.inj (λi k hk=>?_) (λi hiU=>?_) (λi k hk=>?_) (λk i p hk=>?_)
 ·by_cases h:i=id
  ·subst h;right;rw[QN];exact p8
  ·left;exact⟨QI _ _ _ _ h,bU i h⟩
 ·obtain⟨h1,h2⟩:=S.eg i k hk;refine⟨h1.imp (λh=>h) λ⟨hx,cs,dI⟩=>⟨hx,?_⟩,by simpa using h2⟩;by_cases h:i=id
  ·subst h;rw[QN];rw[dI]at cQ
   cases B <;> simp[cM]at cQ;exact⟨_,rfl⟩
  ·rw[QI _ _ _ _ h];exact⟨cs,dI⟩
 ·obtain⟨h1,h2⟩:=S.fresh i (bN i hiU);have:i≠id:=λe=>by subst e;rw[hi]at h2;cases h2
  rw[QI _ _ _ _ this];exact⟨h1,h2⟩
 ·by_cases h:i=id
  ·subst h;rw[QN];exact cQ.ne
  ·rw[QI _ _ _ _ h];exact S.live i k hk
 ·have L:=S.df k i p hk;refine⟨L.pn,?_,L.fr,by simpa using L.lt,L.ne⟩;by_cases h:i=id
  ·subst h;rw[QN];obtain⟨e,sz,g,t,H,es,h⟩:=L.dp;exact iW e sz g t H es h
  ·rw[QI _ _ _ _ h];exact L.dp
theorem Eg{P:Program}{w:World}{t n g o:Nat}{v:Value}{cur:Array Value}{et:TypeId}(hn:cA P t=some n)(hb:w.heap[g]? = some (.cells cur et (0,0)))(hv:v.cells.size=n)(hle:o+n<=cur.size)
  (h1:∀(k:Nat)(u:Value),v.cells[k]? = some u->u.oneCell'=true) :
  (Instr.storeAt t (.pointer (some ⟨g,o,Option.none⟩)) v).run P w = .ok () (w.setRow g (Am.bw cur.toList o v.cells.toList).toArray):=by
 have h:=run_storeCells_at P g o et v.cells.toList 0 cur w hb (by simp;omega) (λu hu=>by
  obtain⟨k,hk,he⟩:=List.getElem_of_mem hu;exact h1 k u (by rw[<- he];simp at hk ⊢))
 simp only[Nat.add_zero]at h;simp[Instr.storeAt,Instr.sureAddr,storeVar,mK hn,hv,h,Am.bw]
end
section
variable {C:Ctx} {U U':Nat->Prop} {σ:St} {a:Act} {w:World} {ι:Io} {o:Oper} {Q:Exit->Act->World->Prop} {Γ:ez} {b:Nat} {e:fi}
variable (S:Sat C U σ a w ι) (hd:∀ d,o.dst=some d->d<C.N) (bN:∀ i,U' i->U i)
include S hd bN
theorem QWL{x v:Operand}{x' v':aX}{t n:Nat}{t1 t2:TypeId}(ho:o.op = .store t x v)(hx:cO C.P t1 x=some x')(hv:cO C.P t2 v=some v')(hn:cA C.P t=some n)(he:Qw Γ (aX.ev σ.t) σ.h b (.store x' v' n)=some e) :
  o.wp C.P a w (λa' w'=>cz C U' (σ.app o.dst e) a' w') Q:=by
 have h1:=Zs S hx;simp only[Qw]at he
 split at he
 rotate_left
 ·cases he
 rename_i hc;obtain⟨hlen,iN⟩:=hc;have gA:=(Zs S hv).cells iN;have tf:(a.eval v).cells.size=n:=by rw[gA.size,hlen]
 split at he
 rotate_left
 ·cases he
 rename_i id i j hp;rw[hp]at h1;generalize cu:a.eval x=av at h1;have dq:=S.fh id
 split at he
 ·rename_i cs hh
  split at he
  rotate_left
  ·cases he
  rename_i vn;obtain⟨rfl,zl⟩:=vn
  cases he
  cases h1 with
  | cS v _ _ _ _ eP=>rw[eP]at hh;cases hh
  | p _ _ _ bk hi mb dU =>
   rw[hh]at dq cu;simp only[aR.sz,Nat.mul_zero,Nat.zero_add]at cu
   cases dq with
   | box mc et bm _ bY eR hb hl Pg dR =>
    rw[hi]at bY;cases bY;rw[eR,Nat.zero_add]at cu;have cp:=Eg (P:=C.P) (t:=t) (o:=j) hn hb tf (by omega) gA.one;have fW:(bw bm.toList j (a.eval v).cells.toList).length=bm.toList.length:=J9 (by simp;omega);have cQ:cM (σ.h id) (.box (bw cs j (aX.ev σ.t v').cells)):=by rw[hh];exact J9 (by omega)
    have cr:(σ.h id).own=true:=by rw[hh];rfl
    have fE:∀ g,(σ.h id).gen=some g->(aR.box (bw cs j (aX.ev σ.t v').cells)).gen≠some g:=λg h=>by rw[hh]at h;cases h
    obtain⟨hF,hg,_⟩:=zk S hi hb (new:=(bw bm.toList j (a.eval v).cells.toList).toArray) (by simpa using fW) cQ cr fE;refine D3 (σ:=σ) hd (h':=bI σ.h id (.box (bw cs j (aX.ev σ.t v').cells))) (ι':=ι) (w':=w.setRow bk (bw bm.toList j (a.eval v).cells.toList).toArray) ?_ (S.setRow bN hi hb (by simpa using fW) cQ cr fE (λe sz g t H es h=>by rw[hh]at h;cases h) ?_) rfl
    ·simp only[execOp,ho,cu,Sem.run_bind,cp,Result.andThen_ok,Sem.run_pure]
    ·have di:CR w (Fz C w ι σ.h) ι σ.h (bw bm.toList j (a.eval v).cells.toList).toArray (bw cs j (aX.ev σ.t v').cells):=by
      have kW:=mP (l:=bm.toList) (xs:=(a.eval v).cells.toList) (j:=j) (by simp;omega);have ig:=mP (l:=cs) (xs:=(aX.ev σ.t v').cells) (j:=j) (by omega);have k9:(a.eval v).cells.toList.length=n:=by simpa using tf
      refine⟨by rw[List.size_toArray,fW,J9 (by omega)];simpa using hl,λk u hk=>?_,λk u y hk hy=>?_⟩
      ·rw[List.getElem?_toArray,kW k]at hk
       split at hk
       ·exact Pg k u (by simpa using hk)
       ·split at hk
        ·exact gA.one _ u (by simpa using hk)
        ·exact Pg k u (by simpa using hk)
      ·rw[List.getElem?_toArray,kW k]at hk;rw[ig k]at hy
       split at hk
       ·rename_i e1;rw[if_pos e1]at hy;exact dR k u y (by simpa using hk) hy
       ·rename_i e1;rw[if_neg e1]at hy
        split at hk
        ·rename_i e2;rw[if_pos (by omega)]at hy;exact gA.vr _ u y (by simpa using hk) hy
        ·rename_i e2;rw[if_neg (by omega)]at hy;exact dR k u y (by simpa using hk) hy
     have jB:=di.mono hF hg;exact .box bk et _ _ hi eR (setRow_heap w bk bm _ et (0,0) hb) jB.size jB.one jB.vr
 ·rename_i et sz es hh
  split at he
  rotate_left
  ·cases he
  rename_i el cT
  split at he
  rotate_left
  ·cases he
  rename_i ds cn
  split at he
  rotate_left
  ·cases he
  rename_i vn;obtain⟨zl,dr⟩:=vn
  cases he
  cases h1 with
  | cS v _ _ _ _ eP=>rw[eP]at hh;cases hh
  | p _ _ _ bk hi mb dU =>
   rw[hh]at dq cu;simp only[aR.sz]at cu
   cases dq with
   | slnil=>simp at cT
   | sl mc _ e0 _ _ _ cur hz bY hb eN hle cW bV dR =>
    rw[hi]at bY;cases bY;obtain⟨rfl,eR,cap,hC,jC,qe⟩:=eN rfl;rw[eR,Nat.zero_add]at cu;simp only[eR,Nat.zero_add]at dR;have hrefs:∀ b7,b7∈(aX.ev σ.t v').refs->∃ e sz m es,σ.h b7 = .sl e sz m es:=by
     rw[zj iN];exact vk cn
    obtain⟨S1,qf⟩:=S.freeze (aX.ev σ.t v').refs (by rw[zj iN];exact zi cn);obtain⟨vq,vt⟩:=O7 S hrefs;generalize hP:(aX.ev σ.t v').refs=ids at *;have zm:bp σ.h (eT σ.h ids) id = .sl e0 sz .ow es:=by rw[Yw,if_neg dr,hh]
    have jv:i<es.length:=(List.getElem?_eq_some_iff.1 cT).1;have mL:el.length=sz:=bV el (List.mem_of_getElem? cT);have d7:=AV.dW cn;have oe:i*sz+j+n<=cur.size:=by
     rw[hC];have:(i+1)*sz<=cap*sz:=Nat.mul_le_mul_right _ (by omega);rw[Nat.add_mul]at this;omega
    have k9:(a.eval v).cells.toList.length=n:=by simpa using tf
    have cp:=Eg (P:=C.P) (t:=t) (o:=i*sz+j) hn hb tf (by omega) gA.one;have fW:(bw cur.toList (i*sz+j) (a.eval v).cells.toList).length=cur.toList.length:=J9 (by simp;omega);have cQ:cM (bp σ.h (eT σ.h ids) id) (.sl e0 sz .ow (es.set i (bw el j ds))):=by rw[zm];exact⟨rfl,rfl,by simp,.refl _⟩
    have cr:(bp σ.h (eT σ.h ids) id).own=true:=by rw[zm];rfl
    have fE:∀ g,(bp σ.h (eT σ.h ids) id).gen=some g->(aR.sl e0 sz .ow (es.set i (bw el j ds))).gen≠some g:=λg h=>by rw[zm]at h;cases h
    have Eh:(ι.loose ids) id=some bk:=hi;have mY:(ι.loose ids).o id=0:=eR;obtain⟨hF,hg,_⟩:=zk S1 Eh hb (new:=(bw cur.toList (i*sz+j) (a.eval v).cells.toList).toArray) (by simpa using fW) cQ cr fE;have SA:Sat C U' ⟨σ.t,bI (bp σ.h (eT σ.h ids)) id (.sl e0 sz .ow (es.set i (bw el j ds))),σ.nx⟩ a (w.setRow bk (bw cur.toList (i*sz+j) (a.eval v).cells.toList).toArray) (ι.loose ids):=by
     refine S1.setRow bN Eh hb (by simpa using fW) cQ cr fE (λe sz g t H es h=>by have h:bp σ.h (eT σ.h ids) id=_:=h;rw[zm]at h;cases h) ?_;have ln:(bw el j ds).length=el.length:=J9 (by have:=d7.1;omega);refine .sl bk e0 e0 sz .ow _ _ hz Eh (setRow_heap w bk cur _ e0 (0,0) hb) (λ_=>⟨rfl,mY,cap,by rw[List.size_toArray,fW];simpa using hC,by simpa using jC,qe⟩) (by rw[mY,List.size_toArray,fW,show cur.toList.length=cap*sz by simpa using hC];simp only[List.length_set,Nat.zero_add];exact Nat.mul_le_mul_right _ jC) (by simpa using cW) (λx hx=>?_) (λp q x d hx dC=>?_)
     ·rcases List.mem_or_eq_of_mem_set hx with hx | rfl
      ·exact bV x hx
      ·rw[ln,mL]
     ·have kW:=mP (l:=cur.toList) (xs:=(a.eval v).cells.toList) (j:=i*sz+j) (by simp;omega) (p*sz+q);rw[mY,Nat.zero_add,List.getElem?_toArray,kW];by_cases tg:p=i
      ·subst tg;rw[List.getElem?_set_self jv]at hx
       cases hx;have ig:=mP (l:=el) (xs:=ds) (j:=j) (by have:=d7.1;omega) q;rw[ig]at dC;have hdn:ds.length=n:=by rw[d7.1,hlen]
       by_cases e1:q<j
       ·rw[if_pos e1]at dC;rw[if_pos (by omega)];obtain⟨u,h3,h4⟩:=dR p q el d cT dC;exact⟨u,by simpa using h3,(Rd.mono (λb hb=>⟨qf b hb,rfl⟩) h4).mono hF⟩
       ·rw[if_neg e1]at dC;by_cases e2:q<j+ds.length
        ·rw[if_pos e2]at dC;rw[if_neg (by omega),if_pos (by omega)];have oo:q-j<(aX.ev σ.t v').cells.length:=by omega
         obtain⟨d',h5,h6⟩:=d7.2 (q-j) _ (List.getElem?_eq_getElem oo);rw[dC]at h5
         cases h5;have vj:q-j<(a.eval v).cells.size:=by omega
         have jj:=gA.vr (q-j) _ _ (Array.getElem?_eq_getElem vj) (List.getElem?_eq_getElem oo);have mM:=AV.jy S qf jj h6 (λb7 b' iv Ei=>vq b7 b' (by rw[<- hP];exact Eb (List.getElem?_eq_getElem oo) iv) Ei) (λb7 b' p' iv ey=>vt b7 b' p' (by rw[<- hP];exact Eb (List.getElem?_eq_getElem oo) iv) ey);refine⟨(a.eval v).cells[q-j],?_,mM.mono hF⟩;rw[show p*sz+q-(p*sz+j)=q-j by omega];simp[vj]
        ·rw[if_neg e2]at dC;rw[if_neg (by omega),if_neg (by omega)];obtain⟨u,h3,h4⟩:=dR p q el d cT dC;exact⟨u,by simpa using h3,(Rd.mono (λb hb=>⟨qf b hb,rfl⟩) h4).mono hF⟩
      ·rw[List.getElem?_set_ne (λe=>tg e.symm)]at hx;obtain⟨u,h3,h4⟩:=dR p q x d hx dC;have hq:q<sz:=by rw[<- bV x (List.mem_of_getElem? hx)];exact(List.getElem?_eq_some_iff.1 dC).1
       refine⟨u,?_,(Rd.mono (λb hb=>⟨qf b hb,rfl⟩) h4).mono hF⟩;by_cases aW:p<i
       ·have:(p+1)*sz<=i*sz:=Nat.mul_le_mul_right _ aW;rw[Nat.add_mul]at this;rw[if_pos (by omega)];simpa using h3
       ·have:(i+1)*sz<=p*sz:=Nat.mul_le_mul_right _ (by omega);rw[Nat.add_mul]at this;rw[if_neg (by omega),if_neg (by omega)];simpa using h3
    refine D3 (σ:=σ) hd ?_ SA ?_
    ·simp only[execOp,ho,cu,Sem.run_bind,cp,Result.andThen_ok,Sem.run_pure]
    ·funext k
     simp only[bp];rw[Yw];by_cases hk:k=id
     ·subst hk;rw[if_neg dr,QN,QN]
     ·rw[QI _ _ _ _ hk,QI _ _ _ _ hk,Yw]
 ·rename_i et sz g0 t0 es hh
  split at he
  rotate_left
  ·cases he
  rename_i el cT
  split at he
  rotate_left
  ·cases he
  rename_i ds cn
  split at he
  rotate_left
  ·cases he
  rename_i vn;obtain⟨zl,qg,Ej⟩:=vn
  cases he
  cases h1 with
  | cS v _ _ _ _ eP=>rw[eP]at hh;cases hh
  | p _ _ _ bk hi mb dU =>
   rw[hh]at dq cu;simp only[aR.sz]at cu
   cases dq with
   | slnil=>simp at cT
   | sl mc _ e0 _ _ _ cur hz bY hb eN hle cW bV dR =>
    rw[hi]at bY;cases bY;obtain⟨L,hL⟩:∃ L,L=gJ i j (aX.ev σ.t v').cells:=⟨_,rfl⟩
    have ta:L.map (λx=>x.2.2)=(aX.ev σ.t v').db:=by rw[hL,D4,Ec iN]
    obtain⟨H,hH⟩:∃ H:cD,H=L.map (λx=>(x.1,x.2.1))++[]:=⟨_,rfl⟩
    have jv:i<es.length:=(List.getElem?_eq_some_iff.1 cT).1;have mL:el.length=sz:=bV el (List.mem_of_getElem? cT);have d7:=AV.dW cn;have hdn:ds.length=n:=by rw[d7.1,hlen]
    have oe:ι.o id+i*sz+j+n<=cur.size:=by
     have:(i+1)*sz<=es.length*sz:=Nat.mul_le_mul_right _ (by omega);rw[Nat.add_mul]at this;omega
    have k9:(a.eval v).cells.toList.length=n:=by simpa using tf
    have cp:=Eg (P:=C.P) (t:=t) (o:=ι.o id+i*sz+j) hn hb tf (by omega) gA.one;have fW:(bw cur.toList (ι.o id+i*sz+j) (a.eval v).cells.toList).length=cur.toList.length:=J9 (by simp;omega);have ln:(bw el j ds).length=el.length:=J9 (by omega);obtain⟨f4,lq⟩:∃ f4,f4=es.set i (bw el j ds):=⟨_,rfl⟩
    have oq:f4[i]? = some (bw el j ds):=by rw[lq];exact List.getElem?_set_self jv
    have jX:f4.length=es.length:=by rw[lq];simp
    obtain⟨new,gm⟩:∃ new,new=(bw cur.toList (ι.o id+i*sz+j) (a.eval v).cells.toList).toArray:=⟨_,rfl⟩
    have lr:new.size=cur.size:=by rw[gm,List.size_toArray,fW];simp
    have cQ:cM (σ.h id) (.sl et sz (.dp (g0+1) t0 H) f4):=by rw[hh];exact⟨rfl,rfl,jX,⟨λh=>h,λg' h=>⟨g0,rfl,by cases h;omega⟩⟩⟩
    have cr:(σ.h id).own=true:=by rw[hh];rfl
    have fE:∀ g,(σ.h id).gen=some g->(aR.sl et sz (.dp (g0+1) t0 H) f4).gen≠some g:=λg h h'=>by rw[hh]at h;cases h;simp[aR.gen,Mo.gen]at h'
    obtain⟨hF,hg,_,gg⟩:=zk S hi hb (new:=new) lr cQ cr fE;have kW:=mP (l:=cur.toList) (xs:=(a.eval v).cells.toList) (j:=ι.o id+i*sz+j) (by simp;omega);have ig:=mP (l:=el) (xs:=ds) (j:=j) (by omega);have lu:∀(k:Nat)(y:AV),(aX.ev σ.t v').cells[k]? = some y->∃ u d,new[ι.o id+i*sz+(j+k)]? = some u/\(bw el j ds)[j+k]? = some d/\VR w (Fz C w ι σ.h) ι σ.h u y/\y.d σ.h=some d:=by
     intro k y hy;have hk:k<n:=by rw[<- hlen];exact(List.getElem?_eq_some_iff.1 hy).1
     obtain⟨d,h5,h6⟩:=d7.2 k y hy;have Ph:k<(a.eval v).cells.size:=by omega
     refine⟨(a.eval v).cells[k],d,?_,?_,gA.vr k _ y (Array.getElem?_eq_getElem Ph) hy,h6⟩
     ·rw[gm,List.getElem?_toArray,kW,if_neg (by omega),if_pos (by omega),show ι.o id+i*sz+(j+k)-(ι.o id+i*sz+j)=k by omega];simp[Ph]
     ·rw[ig,if_neg (by omega),if_pos (by omega),show j+k-j=k by omega];exact h5
    have SA:Sat C U' ⟨σ.t,bI σ.h id (.sl et sz (.dp (g0+1) t0 H) f4),σ.nx⟩ a (w.setRow bk new) ι:=by
     refine S.setRow bN hi hb lr cQ cr fE (λe sz g t H es h=>⟨_,_,_,_,_,_,rfl⟩) ?_;refine .sl bk et e0 sz _ f4 new hz hi (setRow_heap w bk cur _ e0 (0,0) hb) (λh=>?_) (by rw[lr,jX];exact hle) (by rw[jX];exact cW) (λx hx=>?_) (λp q x d hx dC=>?_)
     ·obtain⟨h1,h2,cap,h3,h4,h5⟩:=eN h;exact⟨h1,h2,cap,by rw[lr];exact h3,by rw[jX];exact h4,h5⟩
     ·rw[lq]at hx
      rcases List.mem_or_eq_of_mem_set hx with hx | rfl
      ·exact bV x hx
      ·rw[ln,mL]
     ·have s6:∀(y:List D),es[p]? = some y->y[q]? = some d->(p≠i\/q<j\/j+n<=q)->∃ v,new[ι.o id+p*sz+q]? = some v/\RM (w.setRow bk new) (Fz C (w.setRow bk new) ι (bI σ.h id (.sl et sz (.dp (g0+1) t0 H) f4))) ι id (.dp (g0+1) t0 H) p q v d:=by
       intro y hy zn mS;have hq:q<sz:=by rw[<- bV y (List.mem_of_getElem? hy)];exact(List.getElem?_eq_some_iff.1 zn).1
       obtain⟨u,h3,h4,h5⟩:=dR p q y d hy zn;refine⟨u,?_,h4,λ_=>(h5 (by simp)).mono (gg id)⟩;rw[gm,List.getElem?_toArray,kW];by_cases aW:p<i
       ·have:(p+1)*sz<=i*sz:=Nat.mul_le_mul_right _ aW;rw[Nat.add_mul]at this;rw[if_pos (by omega)];simpa using h3
       ·by_cases hgt:i<p
        ·have:(i+1)*sz<=p*sz:=Nat.mul_le_mul_right _ (by omega);rw[Nat.add_mul]at this;rw[if_neg (by omega),if_neg (by omega)];simpa using h3
        ·have:p=i:=by omega
         subst this
         rcases mS with h | h | h
         ·exact absurd rfl h
         ·rw[if_pos (by omega)];simpa using h3
         ·rw[if_neg (by omega),if_neg (by omega)];simpa using h3
      by_cases tg:p=i
      ·subst tg;rw[oq]at hx
       cases hx;by_cases e1:q<j
       ·rw[ig,if_pos e1]at dC;exact s6 el cT dC (.inr (.inl e1))
       ·by_cases e2:q<j+n
        ·obtain⟨y,hy⟩:∃ y,(aX.ev σ.t v').cells[q-j]? = some y:=⟨_,List.getElem?_eq_getElem (by omega)⟩
         obtain⟨u,d2,k1,k2,k3,k4⟩:=lu (q-j) y hy;have Ek:j+(q-j)=q:=by omega
         rw[Ek]at k1 k2;rw[dC]at k2
         cases k2;have eb:=p9 qg hy;rw[Ek]at eb;refine⟨u,k1,?_⟩
         cases y with
         | c d0 =>
          cases d0 with
          | v uu =>
           simp only[AV.d,Option.some.injEq]at k4;subst k4
           cases k3 with | c _ _ hr=>exact .pl (hr.mono hF) (λ_=>rfl)
          | sl=>simp[AV.eG]at eb
         | n kV =>
          simp only[AV.d,Option.some.injEq]at k4;subst k4
          cases k3 with | n=>exact⟨rfl,λ_=>.nil _ _⟩
         | r kV b7 off len =>
          refine⟨k3.one rfl,λdr=>absurd ?_ dr⟩;rw[hH,hL,List.append_nil];have:=D5 (i:=p) (j:=j) hy;rw[Ek]at this;exact List.mem_map.2 ⟨(p,q,b7),this,rfl⟩
         | b d0 b7 g' pt =>
          simp only[AV.eG,Bool.and_eq_true,decide_eq_true_eq]at eb;obtain⟨⟨m1,m2⟩,m3⟩:=eb;have m1:=Nat.eq_of_beq_eq_true m1;have m2:=Nat.eq_of_beq_eq_true m2;subst m1;subst m2;subst m3;simp only[AV.d,hh,aR.dn,if_true,Option.some.injEq]at k4;subst k4;have ju:=(k3.y9 (by rw[hh];rfl)).1;exact⟨ju.one,λ_=>ju.mono (gg b7)⟩
         | _=>simp[AV.eG]at eb
        ·rw[ig,if_neg e1,if_neg (by omega)]at dC;exact s6 el cT dC (.inr (.inr (by omega)))
      ·rw[lq,List.getElem?_set_ne (λe=>tg e.symm)]at hx;exact s6 x hx dC (.inl tg)
    obtain⟨ι',h',q1,q2,q3,q4,q5,q6⟩:=Sat.jz L SA (by rw[<- hH];exact QN _ _ _) (by rw[ta];exact Ej) (λi' j' n' te=>by
     rw[hL]at te;obtain⟨rfl,k,kV,off,len,rfl,hy⟩:=zg te;have eb:=p9 qg hy;simp only[AV.eG,Bool.and_eq_true,Bool.not_eq_true']at eb;have kr:n'≠id:=λh=>by subst h;simp at eb
     obtain⟨e',bc,g',t',bP,me⟩:=O9 eb.2;obtain⟨u,d2,k1,k2,k3,k4⟩:=lu k _ hy;simp only[AV.d,me]at k4;simp only[Mo.full,if_true,Option.some.injEq]at k4;have lj:kV=bc:=by
      cases k3 with
      | cy _ _ _ _ _ _ hd=>rw[hd]at me;cases me
      | cL _ _ _ _ _ b9=>rw[b9]at me;cases me;rfl
      | de _ _ _ _ _ _ _ b9=>rw[b9]at me;cases me;rfl
      | r _ _ _ _ _ _ _ _ _ _ _ b9=>rw[b9]at me;cases me;rfl
     subst lj;refine⟨kr,u,kV,off,len,e',g',t',bP,bw el j ds,?_,⟨bk,new,e0,hi,setRow_heap w bk cur _ e0 (0,0) hb,k1⟩,k3.mono hF hg,oq,by rw[k2,k4]⟩;show bI σ.h id _ n'=_;rw[QI _ _ _ _ kr];exact me)
    refine D3 (σ:=σ) hd ?_ q1 ?_
    ·rw[gm];simp only[execOp,ho,cu,Sem.run_bind,cp,Result.andThen_ok,Sem.run_pure]
    ·rw[q2];funext k
     simp only[bp];rw[D6,<- ta];by_cases hk:k=id
     ·subst hk;have:k∉L.map λx=>x.2.2:=by
       intro hk;obtain⟨⟨i',j',n'⟩,qd,mQ⟩:=List.mem_map.1 hk;simp only at mQ;subst mQ;rw[hL]at qd;obtain⟨rfl,q,kV,off,len,rfl,hq⟩:=zg qd;have eb:=p9 qg hq;simp[AV.eG]at eb
      rw[if_neg this,QN,if_pos rfl,lq]
     ·rw[QI _ _ _ _ hk,if_neg hk];show _=if k∈L.map (λx=>x.2.2) then aR.dead else bI σ.h id _ k;rw[QI _ _ _ _ hk]
 ·cases he
end
end Go.Proofs.YtdplaepmjogjjaaGreat.Am
namespace Go.Proofs.YtdplaepmjogjjaaGreat.Am
open Go Go.RowKit
section
variable {C:Ctx} {U U':Nat->Prop} {σ:St} {a:Act} {w w':World} {ι:Io}
def Y1(σ:St)(b id:Nat):Prop:=id=b\/(∃ e sz m es,σ.h id = .sl e sz m es)/\(σ.h id).own=true
structure ku(ι:Io)(K':Nat->Option (Nat × cD))(id idx b:Nat)(B:aR):Prop where
 k1:∀ k y p,ι.k k=some (y,p)->y≠id->y≠idx->K' k=some (y,p)
 k2:∀ k y p,K' k=some (y,p)->(ι.k k=some (y,p)/\y≠id/\y≠idx)\/(y=b/\p≠[]/\(∃ z q,ι.k k=some (z,q))/\∃ e sz g t H es,B = .sl e sz (.dp g t H) es)
def Io.over(ι:Io)(K':Nat->Option (Nat × cD))(id idx b:Nat)(g:Option Nat):Io:=⟨bI (bI (bI ι.b id none) idx none) b g,K',bI ι.o b 0⟩
def Y0(h:Nat->aR)(id idx b:Nat)(B:aR):Nat->aR:=bI (bI (bI h id .dead) idx .dead) b B
theorem Io.dz{ι:Io}{K':Nat->Option (Nat × cD)}{id idx b:Nat}{g:Option Nat}:(ι.over K' id idx b g) b=g:=QN _ _ _
theorem Io.jY{ι:Io}{K':Nat->Option (Nat × cD)}{id idx b y:Nat}{g:Option Nat}(h1:y≠b)(h2:y≠id)(h3:y≠idx):(ι.over K' id idx b g) y=ι y:=by
 show bI _ _ _ _=_;rw[QI _ _ _ _ h1,QI _ _ _ _ h3,QI _ _ _ _ h2]
theorem Io.dA{ι:Io}{K':Nat->Option (Nat × cD)}{id idx b y k:Nat}{g:Option Nat}(h1:y≠b)(h:(ι.over K' id idx b g) y=some k):y≠id/\y≠idx/\ι y=some k:=by
 have h:bI (bI (bI ι.b id none) idx none) b g y=some k:=h;rw[QI _ _ _ _ h1]at h;by_cases h2:y=idx
 ·subst h2;rw[QN]at h;cases h
 ·rw[QI _ _ _ _ h2]at h;by_cases h3:y=id
  ·subst h3;rw[QN]at h;cases h
  ·rw[QI _ _ _ _ h3]at h;exact⟨h3,h2,h⟩
theorem YN{h:Nat->aR}{id idx b:Nat}{B:aR}:Y0 h id idx b B b=B:=QN _ _ _
theorem YX{h:Nat->aR}{id idx b y:Nat}{B:aR}(h1:y≠b)(h2:y≠id)(h3:y≠idx):Y0 h id idx b B y=h y:=by
 unfold Y0;rw[QI _ _ _ _ h1,QI _ _ _ _ h3,QI _ _ _ _ h2]
theorem qh{h:Nat->aR}{id idx b y:Nat}{B:aR}(h1:y≠b)(h2:y=id\/y=idx):Y0 h id idx b B y = .dead:=by
 unfold Y0;rw[QI _ _ _ _ h1];by_cases h3:y=idx
 ·subst h3;rw[QN]
 ·rw[QI _ _ _ _ h3]
  rcases h2 with rfl | h2
  ·rw[QN]
  ·exact absurd h2 h3
theorem zo(S:Sat C U σ a w ι){id idx b:Nat}(hb:U b)(a9:Y1 σ b id)(eC:Y1 σ b idx){B:aR}{K':Nat->Option (Nat × cD)}(hK:ku ι K' id idx b B)(bV:w.heap.size<=w'.heap.size)
  (hold:∀ k,k<w.heap.size->ι id≠some k->w'.heap[k]? = w.heap[k]?) {g:Option Nat} (hg:∀ k,g=some k->C.fr k/\k<w'.heap.size/\(w.heap.size<=k\/ι id=some k)) :
  (∀ k,Fz C w ι σ.h k->Fz C w' (ι.over K' id idx b g) (Y0 σ.h id idx b B) k/\w'.heap[k]? = w.heap[k]?)/\
  (∀ i,cY w w' ι (ι.over K' id idx b g) σ.h (Y0 σ.h id idx b B) i)/\(∀ i,i≠b->i≠id->i≠idx->Rest w w' ι (ι.over K' id idx b g) i):=by
 have dr:∀ y,Y1 σ b y->∀ k,Fz C w ι σ.h k->ι y≠some k:=by
  intro y hy k hk kt
  rcases hy with rfl | ⟨_,cr⟩
  ·rw[(S.fresh _ hb).2]at kt;cases kt
  ·have:=hk.2.2.1 y kt;rw[cr]at this
   cases this
 have f5:∀ k y p,ι.k k=some (y,p)->w'.heap[k]? = w.heap[k]?:=λk y p hk=>hold k (S.df k y p hk).lt ((S.df k y p hk).ne id);have bU:∀ i,i≠b->i≠id->i≠idx->Rest w w' ι (ι.over K' id idx b g) i:=λi h1 h2 h3 =>
  ⟨Io.jY h1 h2 h3,QI _ _ _ _ h1,λk hk=>hold k (S.eg i k hk).2 (λe=>h2 (S.inj i id k hk e)),λk p hk=>⟨hK.k1 k i p hk h2 h3,f5 k i p hk⟩⟩
 refine⟨λk hk=>⟨⟨by have:=hk.1;omega,hk.2.1,λi kt=>?_,?_⟩,hold k hk.1 (dr id a9 k hk)⟩,λi=>?_,bU⟩
 ·by_cases h1:i=b
  ·subst h1;rw[Io.dz]at kt;obtain⟨_,_,h3⟩:=hg k kt
   rcases h3 with h3 | h3
   ·have:=hk.1;omega
   ·exact absurd h3 (dr id a9 k hk)
  ·obtain⟨h2,h3,h4⟩:=Io.dA h1 kt;rw[YX h1 h2 h3];exact hk.2.2.1 i h4
 ·show K' k=none
  cases hx:K' k with
  | none=>rfl
  | some z =>
   obtain⟨y,p⟩:=z
   rcases hK.k2 k y p hx with⟨h1,_⟩ | ⟨_,_,⟨z,q,h1⟩,_⟩
   ·rw[hk.2.2.2]at h1;cases h1
   ·rw[hk.2.2.2]at h1;cases h1
 ·by_cases h1:i=b
  ·subst h1;exact .inl (S.fresh i hb).1
  ·by_cases h2:i=id\/i=idx
   ·exact .inr (.inl (qh h1 h2))
   ·simp only[not_or]at h2;exact(bU i h1 h2.1 h2.2).gD (YX h1 h2.1 h2.2)
theorem Sat.jZ(S:Sat C U σ a w ι){id idx b:Nat}(hb:U b)(bN:∀ i,U' i->U i/\i≠b)(a9:Y1 σ b id)(eC:Y1 σ b idx){B:aR}{K':Nat->Option (Nat × cD)}(hK:ku ι K' id idx b B)(jr:ki C w')(bV:w.heap.size<=w'.heap.size)
  (hold:∀ k,k<w.heap.size->ι id≠some k->w'.heap[k]? = w.heap[k]?) {g:Option Nat} (hg:∀ k,g=some k->C.fr k/\k<w'.heap.size/\(w.heap.size<=k\/ι id=some k)) (hB:B≠.none/\B≠.dead)
  (p8:BR w' (Fz C w' (ι.over K' id idx b g) (Y0 σ.h id idx b B)) (ι.over K' id idx b g) (Y0 σ.h id idx b B) b B) :
  Sat C U' ⟨σ.t,Y0 σ.h id idx b B,σ.nx⟩ a w' (ι.over K' id idx b g):=by
 obtain⟨hF,iX,bU⟩:=zo S hb a9 eC hK bV hold hg;have kr:∀ y,Y1 σ b y->y≠b->∃ e sz m es,σ.h y = .sl e sz m es:=λy hy h=>hy.elim (λe=>absurd e h) (λh=>h.1);have iY:∀ i k,i≠b->(ι.over K' id idx b g) i=some k->g≠some k:=by
  intro i k h1 hi hgk;obtain⟨h2,_,h3⟩:=Io.dA h1 hi;obtain⟨_,_,h4⟩:=hg k hgk
  rcases h4 with h4 | h4
  ·have:=(S.eg i k h3).2;omega
  ·exact h2 (S.inj i id k h3 h4)
 refine S.eh jr hF iX (λi cs hx=>by
  by_cases h:i=b
  ·subst h;rw[YN];exact hB.2
  ·by_cases h2:i=id\/i=idx
   ·rcases h2 with rfl | rfl
    ·obtain⟨e,sz,m,es,h3⟩:=kr _ a9 h;rw[hx]at h3;cases h3
    ·obtain⟨e,sz,m,es,h3⟩:=kr _ eC h;rw[hx]at h3;cases h3
   ·simp only[not_or]at h2;rw[YX h h2.1 h2.2,hx];simp) (λi=>?_) (λi j k hi hj=>?_) (λi k hi=>?_) (λi hi=>?_) (λi k hi=>?_) (λk i p hk=>?_)
 ·by_cases h1:i=b
  ·subst h1;right;rw[YN];exact p8
  ·by_cases h2:i=id\/i=idx
   ·right;rw[qh h1 h2];exact .dead
   ·simp only[not_or]at h2;left;exact⟨YX h1 h2.1 h2.2,bU i h1 h2.1 h2.2⟩
 ·by_cases h1:i=b
  ·by_cases h2:j=b
   ·rw[h1,h2]
   ·subst h1;rw[Io.dz]at hi;exact absurd hi (iY j k h2 hj)
  ·by_cases h2:j=b
   ·subst h2;rw[Io.dz]at hj;exact absurd hj (iY i k h1 hi)
   ·exact S.inj i j k (Io.dA h1 hi).2.2 (Io.dA h2 hj).2.2
 ·by_cases h1:i=b
  ·subst h1;rw[Io.dz]at hi;obtain⟨h2,h3,_⟩:=hg k hi;exact⟨.inl h2,h3⟩
  ·obtain⟨h2,h3,h4⟩:=Io.dA h1 hi;rw[YX h1 h2 h3];obtain⟨h5,h6⟩:=S.eg i k h4;exact⟨h5,by omega⟩
 ·obtain⟨h1,h2⟩:=bN i hi;have h3:=S.fresh i h1;have h4:∀ y,Y1 σ b y->i≠y:=by
   rintro y hy rfl
   obtain⟨e,sz,m,es,h5⟩:=kr _ hy h2;rw[h3.1]at h5;cases h5
  rw[YX h2 (h4 id a9) (h4 idx eC),Io.jY h2 (h4 id a9) (h4 idx eC)];exact h3
 ·by_cases h1:i=b
  ·subst h1;rw[YN];exact hB
  ·obtain⟨h2,h3,h4⟩:=Io.dA h1 hi;rw[YX h1 h2 h3];exact S.live i k h4
 ·have fj:K' k=some (i,p):=hk;have dM:∀ L:(∀ z,ι z≠some k),∀ aW:k<w.heap.size,∀ z,(ι.over K' id idx b g) z≠some k:=λL aW z hz=>by
   by_cases h1:z=b
   ·subst h1;rw[Io.dz]at hz;obtain⟨_,_,h4⟩:=hg k hz
    rcases h4 with h4 | h4
    ·omega
    ·exact L id h4
   ·exact L z (Io.dA h1 hz).2.2
  rcases hK.k2 k i p fj with⟨h1,h2,h3⟩ | ⟨rfl,h2,⟨z,q,h1⟩,h3⟩
  ·have L:=S.df k i p h1;have h4:i≠b:=λh=>by subst h;obtain⟨_,_,_,_,_,_,h9⟩:=L.dp;rw[(S.fresh i hb).1]at h9;cases h9
   exact⟨L.pn,by rw[YX h4 h2 h3];exact L.dp,L.fr,by have:=L.lt;omega,dM L.ne L.lt⟩
  ·have L:=S.df k z q h1;exact⟨h2,by rw[YN];exact h3,L.fr,by have:=L.lt;omega,dM L.ne L.lt⟩
structure Src(w:World)(R:Nat->Nat->Value->D->Prop)(sz:Nat)(u:Value)(xs:List (List D))(news:List Value):Prop where
 len:news.length=xs.length*sz
 val:(u = .slice none 0 0/\xs=[])\/∃ ad cap,u = .slice (some ad) xs.length cap/\∀ j v,news[j]? = some v->w.cell? (ad.add j)=some v
 one:∀ v,v∈news->v.oneCell'=true
 Pj:∀ e,e∈xs->e.length=sz
 rd:∀(p q:Nat)(el:List D)(d:D),xs[p]? = some el->el[q]? = some d->∃ v,news[p*sz+q]? = some v/\R p q v d
def iw(w:World)(F:Nat->Prop)(ι:Io)(h:Nat->aR):AV->Nat->Nat->Value->D->Prop
 | .r _ id off _,p,q,v,d=>match h id with
  | .sl _ _ (.dp _ _ _) _=>RL w ι.k id [(off+p,q)] v d
  | _=>Rd w F v d
 | .b _ id _ pt,p,q,v,d=>RL w ι.k id (pt++[(p,q)]) v d
 | _,_,_,v,d=>Rd w F v d
theorem RL.mZ{w:World}{K:Nat->Option (Nat × cD)}{id:Nat}{p:cD}{v:Value}{d:D}{F:Nat->Prop}(h:RL w K id p v d)(hd:d.pl=true):Rd w F v d:=by
 cases h with
 | v _ x h=>exact .v _ h
 | nil=>exact .nil _
 | emp=>exact .emp _ _ _
 | sl _ b o len cap sz es cur e0 x hz dM =>
  cases es with
  | nil=>exact absurd rfl dM
  | cons=>simp[D.pl]at hd
theorem QSI{w:World}{F:Nat->Prop}{ι:Io}{h:Nat->aR}{x:AV}{p q:Nat}{v:Value}{d:D}(hr:iw w F ι h x p q v d):v.oneCell'=true:=by
 unfold iw at hr
 split at hr
 ·split at hr
  ·exact RL.one hr
  ·exact Rd.one hr
 ·exact RL.one hr
 ·exact Rd.one hr
theorem El{xs:List (List D)}(h:mG xs=true){p q:Nat}{el:List D}{d:D}(hp:xs[p]? = some el)(hq:el[q]? = some d):d.pl=true :=
 List.all_eq_true.1 (List.all_eq_true.1 h el (List.mem_of_getElem? hp)) d (List.mem_of_getElem? hq)
theorem Em{w:World}{F:Nat->Prop}{ι:Io}{h:Nat->aR}{x:AV}{xs:List (List D)}(cH:x.iS h xs=true){p q:Nat}{el:List D}{v:Value}{d:D}(hp:xs[p]? = some el)(hq:el[q]? = some d)(hr:iw w F ι h x p q v d):Rd w F v d:=by
 unfold iw at hr
 split at hr
 ·rename_i sz id off len;simp only[AV.iS]at cH
  split at hr
  ·rename_i hh;rw[hh]at cH;exact RL.mZ hr (El cH hp hq)
  ·exact hr
 ·simp only[AV.iS]at cH;exact RL.mZ hr (El cH hp hq)
 ·exact hr
theorem Pk{p q sz:Nat}(hq:q<sz):(p*sz+q) / sz=p/\(p*sz+q) % sz=q:=by
 have h:0<sz:=by omega
 rw[Nat.mul_comm];constructor
 ·rw[Nat.mul_add_div h,Nat.div_eq_of_lt hq,Nat.add_zero]
 ·rw[Nat.mul_add_mod,Nat.mod_eq_of_lt hq]
theorem QLL(S:Sat C U σ a w ι){u:Value}{x:AV}{sz:Nat}{xs:List (List D)}(h0:0<sz)(hv:VR w (Fz C w ι σ.h) ι σ.h u x)(hx:x.fo σ.h sz=some xs) :
  ∃ news,Src w (iw w (Fz C w ι σ.h) ι σ.h x) sz u xs news:=by
 cases hv with
 | u=>simp[AV.fo]at hx
 | c v d hr =>
  cases hr with
  | v=>simp[AV.fo]at hx
  | nil bc =>
   simp only[AV.fo]at hx
   split at hx
   ·cases hx;exact⟨[],by simp,.inl ⟨rfl,rfl⟩,by simp,by simp,by simp⟩
   ·cases hx
  | emp ad cap bc =>
   simp only[AV.fo]at hx
   split at hx
   ·cases hx;exact⟨[],by simp,.inr ⟨ad,cap,rfl,by simp⟩,by simp,by simp,by simp⟩
   ·cases hx
  | sl bk of len cap bc es xv hlen cj cW dP hb hc hr =>
   simp only[AV.fo]at hx
   split at hx
   ·rename_i hs;simp only[Option.some.injEq]at hx;subst hx;subst hs;subst hlen;have vu:∀ k,k<es.length*bc->∃ el d,es[k / bc]? = some el/\el[k % bc]? = some d:=by
     intro k hk;have h1:k / bc<es.length:=Nat.div_lt_of_lt_mul (by rw[Nat.mul_comm];exact hk);have h2:k % bc<es[k / bc].length:=by rw[dP _ (List.getElem_mem h1)];exact Nat.mod_lt _ h0
     exact⟨es[k / bc],_,List.getElem?_eq_getElem h1,List.getElem?_eq_getElem h2⟩
    have hg:∀ k v,((List.range (es.length*bc)).map λk=>xv (k / bc) (k % bc))[k]? = some v->k<es.length*bc/\v=xv (k / bc) (k % bc):=by
     intro k v hk;have aW:=(List.getElem?_eq_some_iff.1 hk).1;simp only[List.length_map,List.length_range]at aW;rw[List.getElem?_map,List.getElem?_range aW]at hk;simp at hk;exact⟨aW,hk.symm⟩
    refine⟨(List.range (es.length*bc)).map λk=>xv (k / bc) (k % bc),by simp,.inr ⟨_,cap,rfl,λj v hj=>?_⟩,λv hv=>?_,dP,λp q el d hp hq=>?_⟩
    ·obtain⟨aW,rfl⟩:=hg j v hj;obtain⟨el,d,h1,h2⟩:=vu j aW;rw[YO];have:=hc _ _ el d h1 h2;rw[show of+j / bc*bc+j % bc=of+j by have:=Nat.div_add_mod' j bc;omega]at this;exact this
    ·obtain⟨k,hk,he⟩:=List.getElem_of_mem hv;obtain⟨aW,rfl⟩:=hg k v (by rw[<- he];exact List.getElem?_eq_getElem hk);obtain⟨el,d,h1,h2⟩:=vu k aW;exact(hr _ _ el d h1 h2).one
    ·have ot:q<bc:=by rw[<- dP el (List.mem_of_getElem? hp)];exact(List.getElem?_eq_some_iff.1 hq).1
     have gz:=(List.getElem?_eq_some_iff.1 hp).1;have aW:p*bc+q<es.length*bc:=by
      have:(p+1)*bc<=es.length*bc:=Nat.mul_le_mul_right _ gz;rw[Nat.add_mul]at this;omega
     obtain⟨e1,e2⟩:=Pk (p:=p) ot;refine⟨xv p q,?_,hr p q el d hp hq⟩;rw[List.getElem?_map,List.getElem?_range aW];simp[e1,e2]
   ·cases hx
 | n=>simp only[AV.fo,Option.some.injEq]at hx;subst hx;exact⟨[],by simp,.inl ⟨rfl,rfl⟩,by simp,by simp,by simp⟩
 | cy _ _ _ _ _ _ eP=>simp[AV.fo,eP]at hx
 | cL id e bc m hi hh =>
  simp only[AV.fo,hh]at hx
  split at hx
  ·cases hx;exact⟨[],by simp,.inl ⟨rfl,rfl⟩,by simp,by simp,by simp⟩
  ·cases hx
 | de ad cap id e bc m hi hh ht =>
  simp only[AV.fo,hh]at hx
  split at hx
  ·cases hx;exact⟨[],by simp,.inr ⟨ad,cap,rfl,by simp⟩,by simp,by simp,by simp⟩
  ·cases hx
 | r id off len bk ao cap et bc m es hi hh hlen cj jk cX =>
  simp only[AV.fo,hh]at hx
  split at hx
  rotate_left
  ·cases hx
  rename_i hs;obtain⟨hs,dV⟩:=hs;subst hs
  cases hx;have dq:=S.fh id;rw[hh]at dq;have kq:((es.drop off).take len).length=len:=by simp;omega
  have la:∀(i:Nat)(el:List D),((es.drop off).take len)[i]? = some el->i<len/\es[off+i]? = some el:=by
   intro i el cT;have hi:=(List.getElem?_eq_some_iff.1 cT).1;rw[List.getElem?_take,if_pos (by omega),List.getElem?_drop]at cT;exact⟨by omega,cT⟩
  cases dq with
  | slnil =>
   simp at hlen;have:len=0:=by omega
   subst this;exact⟨[],by simp,.inr ⟨_,cap,by simp;rfl,by simp⟩,by simp,by simp,by simp⟩
  | sl mc _ e0 _ _ _ cur hz bY fb eN hle cW bV dR =>
   rw[hi]at bY;cases bY;have ait:ι.o id+off*bc+len*bc<=cur.size:=by
    have:(off+len)*bc<=es.length*bc:=Nat.mul_le_mul_right _ hlen;rw[Nat.add_mul]at this;omega
   have hg:∀ k,k<len*bc->((cur.toList.drop (ι.o id+off*bc)).take (len*bc))[k]? = cur[ι.o id+off*bc+k]?:=λk hk=>by rw[List.getElem?_take,if_pos hk,List.getElem?_drop];simp
   have iZ:((cur.toList.drop (ι.o id+off*bc)).take (len*bc)).length=len*bc:=by simp;omega
   refine⟨(cur.toList.drop (ι.o id+off*bc)).take (len*bc),by rw[iZ,kq],.inr ⟨_,cap,by rw[kq],λj v hj=>?_⟩,λv hv=>?_,λel cT=>bV el (List.mem_of_mem_drop (List.mem_of_mem_take cT)),λp q el d hp hq=>?_⟩
   ·have mf:j<len*bc:=by rw[<- iZ];exact(List.getElem?_eq_some_iff.1 hj).1
    rw[hg j mf]at hj;have:len≠0:=by rintro rfl;simp at mf
    rw[YO,jk this];exact pY fb hj
   ·obtain⟨k,hk,he⟩:=List.getElem_of_mem hv;rw[iZ]at hk;have gn:=hg k hk;rw[List.getElem?_eq_getElem (by rw[iZ];exact hk),he]at gn;have h1:k / bc<len:=Nat.div_lt_of_lt_mul (by rw[Nat.mul_comm];exact hk);have fO:off+k / bc<es.length:=by omega
    have h2:k % bc<es[off+k / bc].length:=by rw[bV _ (List.getElem_mem fO)];exact Nat.mod_lt _ h0
    obtain⟨v',h3,h4⟩:=dR _ _ _ _ (List.getElem?_eq_getElem fO) (List.getElem?_eq_getElem h2);rw[show ι.o id+(off+k / bc)*bc+k % bc=ι.o id+off*bc+k by rw[Nat.add_mul];have:=Nat.div_add_mod' k bc;omega,<- gn]at h3
    cases h3;exact h4.one
   ·obtain⟨h3,h4⟩:=la p el hp;obtain⟨v,h5,h6⟩:=dR _ q el d h4 hq;have ot:q<bc:=by rw[<- bV el (List.mem_of_getElem? h4)];exact(List.getElem?_eq_some_iff.1 hq).1
    refine⟨v,?_,?_⟩;rotate_left
    ·simp only[iw,hh]
     cases m with
     | dp g t H =>
      cases H with
      | nil=>exact h6.2 (by simp)
      | cons=>simp[Mo.full]at dV
     | _=>exact h6
    have aW:p*bc+q<len*bc:=by
     have:(p+1)*bc<=len*bc:=Nat.mul_le_mul_right _ h3;rw[Nat.add_mul]at this;omega
    rw[hg _ aW,<- h5,Nat.add_mul];congr 1
    omega
 | cS=>simp[AV.fo]at hx
 | p=>simp[AV.fo]at hx
 | q=>simp[AV.fo]at hx
 | a=>simp[AV.fo]at hx
 | eI=>simp[AV.fo]at hx
 | bq=>simp[AV.fo]at hx
 | fm v d id g p h1 hd =>
  cases d with
  | v=>simp[AV.fo]at hx
  | sl bc es=>simp[AV.fo,hd,aR.dn]at hx
 | b v d id g p e kV m mg h1 hh iL jj =>
  cases d with
  | v=>simp[AV.fo]at hx
  | sl bc es =>
  simp only[AV.fo]at hx
  split at hx
  rotate_left
  ·cases hx
  rename_i D2;obtain⟨rfl,hg⟩:=D2;simp only[Option.some.injEq]at hx;subst hx;rw[hh]at hg;obtain⟨ju,_⟩:=jj (aR.eA hg)
  cases ju with
  | nil=>exact⟨[],by simp,.inl ⟨rfl,rfl⟩,by simp,by simp,by simp⟩
  | emp _ ad cap=>exact⟨[],by simp,.inr ⟨ad,cap,rfl,by simp⟩,by simp,by simp,by simp⟩
  | sl _ bk of len cap _ _ cur e0 xv hz dM hlen cj cW dP hk fb hle hc hr =>
   subst hlen;have vu:∀ k,k<es.length*bc->∃ el d,es[k / bc]? = some el/\el[k % bc]? = some d:=by
    intro k hk;have h1:k / bc<es.length:=Nat.div_lt_of_lt_mul (by rw[Nat.mul_comm];exact hk);have h2:k % bc<es[k / bc].length:=by rw[dP _ (List.getElem_mem h1)];exact Nat.mod_lt _ h0
    exact⟨es[k / bc],_,List.getElem?_eq_getElem h1,List.getElem?_eq_getElem h2⟩
   have hg:∀ k v,((List.range (es.length*bc)).map λk=>xv (k / bc) (k % bc))[k]? = some v->k<es.length*bc/\v=xv (k / bc) (k % bc):=by
    intro k v hk;have aW:=(List.getElem?_eq_some_iff.1 hk).1;simp only[List.length_map,List.length_range]at aW;rw[List.getElem?_map,List.getElem?_range aW]at hk;simp at hk;exact⟨aW,hk.symm⟩
   refine⟨(List.range (es.length*bc)).map λk=>xv (k / bc) (k % bc),by simp,.inr ⟨_,cap,rfl,λj v hj=>?_⟩,λv hv=>?_,dP,λp q el d hp hq=>?_⟩
   ·obtain⟨aW,rfl⟩:=hg j v hj;obtain⟨el,d,h1,h2⟩:=vu j aW;rw[YO];have:=hc _ _ el d h1 h2;rw[show of+j / bc*bc+j % bc=of+j by have:=Nat.div_add_mod' j bc;omega]at this;exact pY fb this
   ·obtain⟨k,hk,he⟩:=List.getElem_of_mem hv;obtain⟨aW,rfl⟩:=hg k v (by rw[<- he];exact List.getElem?_eq_getElem hk);obtain⟨el,d,h1,h2⟩:=vu k aW;exact(hr _ _ el d h1 h2).one
   ·have ot:q<bc:=by rw[<- dP el (List.mem_of_getElem? hp)];exact(List.getElem?_eq_some_iff.1 hq).1
    have gz:=(List.getElem?_eq_some_iff.1 hp).1;have aW:p*bc+q<es.length*bc:=by
     have:(p+1)*bc<=es.length*bc:=Nat.mul_le_mul_right _ gz;rw[Nat.add_mul]at this;omega
    obtain⟨e1,e2⟩:=Pk (p:=p) ot;refine⟨xv p q,?_,hr p q el d hp hq⟩;rw[List.getElem?_map,List.getElem?_range aW];simp[e1,e2]
 | t=>simp[AV.fo]at hx
theorem En{R T0 T:Nat->Nat->Value->D->Prop}{sz len:Nat}{es xs:List (List D)}{cur new:Array Value}{news:List Value}{u:Value}(hlen:len<=es.length)
  (gi:∀(p q:Nat)(el:List D)(d:D),es[p]? = some el->el[q]? = some d->∃ v,cur[p*sz+q]? = some v/\T0 p q v d) (bV:∀ e,e∈es->e.length=sz) (src:Src w R sz u xs news)
  (hT0:∀ p q v d,p<len->T0 p q v d->T p q v d) (hT:∀ p q el v d,xs[p]? = some el->el[q]? = some d->R p q v d->T (len+p) q v d)
  (h1:∀ k,k<len*sz->new[k]? = cur[k]?) (h2:∀ k,k<xs.length*sz->new[len*sz+k]? = news[k]?) :
  (∀ e,e∈es.take len++xs->e.length=sz)/\∀(p q:Nat)(el:List D)(d:D),(es.take len++xs)[p]? = some el->el[q]? = some d->∃ v,new[p*sz+q]? = some v/\T p q v d:=by
 refine⟨λe he=>?_,λp q el d hp hq=>?_⟩
 ·rcases List.mem_append.1 he with he | he
  ·exact bV e (List.mem_of_mem_take he)
  ·exact src.Pj e he
 ·rw[List.getElem?_append,List.length_take,Nat.min_eq_left hlen]at hp
  split at hp
  ·rename_i aW;rw[List.getElem?_take,if_pos aW]at hp;have ot:q<sz:=by rw[<- bV el (List.mem_of_getElem? hp)];exact(List.getElem?_eq_some_iff.1 hq).1
   obtain⟨v,h3,h4⟩:=gi p q el d hp hq;have:(p+1)*sz<=len*sz:=Nat.mul_le_mul_right _ aW;rw[Nat.add_mul]at this;exact⟨v,by rw[h1 _ (by omega)];exact h3,hT0 p q v d aW h4⟩
  ·rename_i iL;have ot:q<sz:=by rw[<- src.Pj el (List.mem_of_getElem? hp)];exact(List.getElem?_eq_some_iff.1 hq).1
   have gz:=(List.getElem?_eq_some_iff.1 hp).1;obtain⟨v,h3,h4⟩:=src.rd (p-len) q el d hp hq;have h5:(p-len+1)*sz<=xs.length*sz:=Nat.mul_le_mul_right _ gz;have h6:p*sz=len*sz+(p-len)*sz:=by rw[<- Nat.add_mul];congr 1;omega
   rw[Nat.add_mul]at h5;have h7:=hT (p-len) q el v d hp hq h4;rw[show len+(p-len)=p by omega]at h7;refine⟨v,?_,h7⟩;rw[h6,Nat.add_assoc,h2 _ (by omega)];exact h3
structure Take(C:Ctx)(σ:St)(w:World)(ι:Io)(K':Nat->Option (Nat × cD))(b len:Nat)(M M0:Mo)(id:Nat)(R:Nat->Nat->Value->D->Prop)(xs:List (List D)):Prop where
 t0:∀(w':World)(F':Nat->Prop)(ι':Io),ι'.k=K'->(∀ k,Fz C w ι σ.h k->F' k/\w'.heap[k]? = w.heap[k]?)->(∀ k y p,ι.k k=some (y,p)->w'.heap[k]? = w.heap[k]?)->∀ p q v d,p<len->RM w (Fz C w ι σ.h) ι id M0 p q v d->RM w' F' ι' b M p q v d
 t:∀(w':World)(F':Nat->Prop)(ι':Io),ι'.k=K'->(∀ k,Fz C w ι σ.h k->F' k/\w'.heap[k]? = w.heap[k]?)->(∀ k y p,ι.k k=some (y,p)->w'.heap[k]? = w.heap[k]?)->∀ p q el v d,xs[p]? = some el->el[q]? = some d->R p q v d->RM w' F' ι' b M (len+p) q v d
theorem Pl{P:Program}{w:World}{t ty et sz n cap:Nat}{base:Option Addr}(ht:P.underlying t=some (.slice et))(bV:cA P et=some sz)(hc:n<=cap) :
  (Builtin.append_ #[t,t] ty #[.slice base n cap,.slice none 0 0]).run P w = .ok (.slice base n cap) w:=by
 have hr:=λw=>mK bV w
 cases base <;> simp[Builtin.append_,run_underlying ht,hr,Builtin.lenOf,Builtin.firstCells,hc,storeCells]
theorem QV9{P:Program}{w:World}{t ty et sz cap:Nat}{ad:Addr}(ht:P.underlying t=some (.slice et))(bV:cA P et=some sz) :
  (Builtin.append_ #[t,t] ty #[.slice none 0 0,.slice (some ad) 0 cap]).run P w = .ok (.slice none 0 0) w:=by
 have hr:=λw=>mK bV w;simp[Builtin.append_,run_underlying ht,hr,Builtin.lenOf,Builtin.firstCells,loadCells,loadCellsFrom]
end
section
variable {C:Ctx} {U U':Nat->Prop} {σ:St} {a:Act} {w:World} {ι:Io} {o:Oper} {Q:Exit->Act->World->Prop} {Γ:ez} {b:Nat} {e:fi}
variable (S:Sat C U σ a w ι) (hd:∀ d,o.dst=some d->d<C.N) (hb:U b) (bN:∀ i,U' i->U i/\i≠b)
include S hd hb bN
theorem zp{s x:Operand}{t et sz:Nat}{i:TypeInfo}{z:Value}(ho:o.op = .call { callee:=.builtin .append,args:=#[s,x],argTypes:=#[t,t] })(ht:C.P.underlying t=some (.slice et))(hi:C.P.info? et=some i)(hz:i.zero=some z)
  (bV:i.size=sz) (mW:z.cells.size=sz) (lk:i.bytes<=32768) (h0:0<sz) {id idx:Nat} {M M0:Mo} {K':Nat->Option (Nat × cD)} {R:Nat->Nat->Value->D->Prop} (a9:Y1 σ b id) (eC:Y1 σ b idx) (hιn:ι id=none) (hs:a.eval s = .slice none 0 0)
  {xs:List (List D)} {news:List Value} (src:Src w R sz (a.eval x) xs news) (hK:ku ι K' id idx b (.sl et sz M xs)) (hT:Take C σ w ι K' b 0 M M0 id R xs) (fx:xs.length<=ca) {bl:List (Nat × aR)} (gY:bp σ.h bl=Y0 σ.h id idx b (.sl et sz M xs)) :
  o.wp C.P a w (λa' w'=>cz C U' (σ.app o.dst ⟨.r sz b 0 xs.length,bl⟩) a' w') Q:=by
 have lv:xs.length<=4294967296:=fx;have f5:∀ w':World,(∀ k,k<w.heap.size->ι id≠some k->w'.heap[k]? = w.heap[k]?)->∀ k y p,ι.k k=some (y,p)->w'.heap[k]? = w.heap[k]?:=λw' hold k y p hk=>hold k (S.df k y p hk).lt ((S.df k y p hk).ne id);by_cases ou:xs=[]
 ·subst ou;have hold:∀ k,k<w.heap.size->ι id≠some k->w.heap[k]? = w.heap[k]?:=λ_ _ _=>rfl;have SA:=S.jZ hb bN a9 eC hK S.dD (Nat.le_refl _) hold (g:=none) (by simp) ⟨by simp,by simp⟩ (.slnil et sz M h0 Io.dz);refine J7 (σ:=σ) hd (v:=.slice none 0 0) ?_ SA (.cL b et sz M Io.dz YN) gY
  rcases src.val with⟨h1,_⟩ | ⟨ad,cap,h1,_⟩
  ·have:=Pl (P:=C.P) (w:=w) (ty:=o.type) (base:=none) (n:=0) (cap:=0) (sz:=sz) ht (by unfold cA;rw[hi];simp[bV]) (Nat.le_refl 0);simp[execOp,ho,resolve,invoke,builtin,hs,h1,this]
  ·have:=QV9 (P:=C.P) (w:=w) (ty:=o.type) (ad:=ad) (cap:=cap) (sz:=sz) ht (by unfold cA;rw[hi];simpa using bV);simp only[List.length_nil]at h1;simp[execOp,ho,resolve,invoke,builtin,hs,h1,this]
 ·rcases src.val with⟨_,h1⟩ | ⟨ad,cap,h1,di⟩
  ·exact absurd h1 ou
  ·have dj:0<xs.length:=List.length_pos_iff.2 ou;have iZ:news.length=xs.length*i.size:=by rw[src.len,bV]
   have gK:xs.length*i.bytes<=281474976710656:=by
    have:=Nat.mul_le_mul lv lk;omega
   have cp:=run_append_nil (P:=C.P) w t o.type et i z ht hi hz ad xs.length cap news iZ di dj (by omega) gK;have iL:=grownCap_ge w xs.length 0 et;have hle:=grownCap_le_maxLen w xs.length 0 et (by simp[maxLen];omega);generalize grownCap w xs.length 0 et=G at *;have hold:∀ k,k<w.heap.size->ι id≠some k->(w.drew.alloc (.cells (news.toArray++Builtin.zeroCells z.cells (G-xs.length)) et)).heap[k]? = w.heap[k]?:=λk hk _=>Below.heap_alloc w.drew _ k hk;have jr:ki C (w.drew.alloc (.cells (news.toArray++Builtin.zeroCells z.cells (G-xs.length)) et)):=by
    have:ki C w.drew:=⟨S.dD.os,S.dD.tape,S.dD.output,S.dD.size,S.dD.block⟩
    exact this.alloc _
   have hg:∀ k,some w.heap.size=some k->C.fr k/\k<(w.drew.alloc (.cells (news.toArray++Builtin.zeroCells z.cells (G-xs.length)) et)).heap.size/\(w.heap.size<=k\/ι id=some k):=by
    intro k hk;cases hk;exact⟨.inl S.dD.size,by simp,.inl (Nat.le_refl _)⟩
   obtain⟨hF,iX,_⟩:=zo (w':=w.drew.alloc (.cells (news.toArray++Builtin.zeroCells z.cells (G-xs.length)) et)) S hb a9 eC hK (by simp) hold (g:=some w.heap.size) hg;have lx:(news.toArray++Builtin.zeroCells z.cells (G-xs.length)).size=G*sz:=by
    rw[Array.size_append,size_zeroCells,mW];simp only[List.size_toArray,src.len];rw[<- Nat.add_mul];congr 1
    omega
   have gm:∀ k,k<xs.length*sz->(news.toArray++Builtin.zeroCells z.cells (G-xs.length))[0*sz+k]? = news[k]?:=by
    intro k hk;rw[Nat.zero_mul,Nat.zero_add,Array.getElem?_append_left (by simpa[src.len]using hk)];simp
   have eR:(ι.over K' id idx b (some w.heap.size)).o b=0:=QN _ _ _;obtain⟨c1,c2⟩:=En (T0:=λ_ _ _ _=>False) (T:=RM (w.drew.alloc (.cells (news.toArray++Builtin.zeroCells z.cells (G-xs.length)) et)) _ (ι.over K' id idx b (some w.heap.size)) b M) (sz:=sz) (len:=0) (es:=[]) (cur:=#[]) (Nat.zero_le _) (by simp) (by simp) src
    (λp q v d h _=>absurd h (Nat.not_lt_zero _)) (hT.t _ _ (ι.over K' id idx b (some w.heap.size)) rfl hF (f5 _ hold)) (by simp) gm
   have SA:=S.jZ hb bN a9 eC hK jr (by simp) hold hg ⟨by simp,by simp⟩
    (.sl w.heap.size et et sz M xs _ h0 Io.dz (heap_alloc_new w.drew _) (λ_=>⟨rfl,eR,G,lx,by omega,hle⟩) (by rw[eR,lx,Nat.zero_add];exact Nat.mul_le_mul_right _ (by omega)) (by omega) (by simpa using c1)
     (λp q el d hp hq=>by obtain⟨v,k1,k2⟩:=c2 p q el d (by simpa using hp) hq;exact⟨v,by rw[eR,Nat.zero_add];exact k1,k2⟩))
   refine J7 (σ:=σ) hd ?_ SA (.r b 0 xs.length w.heap.size 0 G et sz M xs Io.dz YN (by omega) (by omega) (λ_=>by rw[eR];simp) (λ_ _=>⟨rfl,?_⟩)) gY
   ·simp[execOp,ho,resolve,invoke,builtin,hs,h1,cp]
   ·unfold World.shape?;rw[show(w.drew.alloc (.cells (news.toArray++Builtin.zeroCells z.cells (G-xs.length)) et)).heap[w.heap.size]? = some (.cells (news.toArray++Builtin.zeroCells z.cells (G-xs.length)) et) from heap_alloc_new w.drew _];simp[lx]
theorem Pm{s x:Operand}{t et sz:Nat}{i:TypeInfo}{z:Value}(ho:o.op = .call { callee:=.builtin .append,args:=#[s,x],argTypes:=#[t,t] })(ht:C.P.underlying t=some (.slice et))(hi:C.P.info? et=some i)(hz:i.zero=some z)
  (bV:i.size=sz) (mW:z.cells.size=sz) (lk:i.bytes<=32768) (h0:0<sz) {id idx bk cap len:Nat} {M M0:Mo} {K':Nat->Option (Nat × cD)} {R:Nat->Nat->Value->D->Prop} {es:List (List D)} {cur:Array Value} (hh:σ.h id = .sl et sz M0 es) (Eo:M0.own=true) (eC:Y1 σ b idx) (fb:ι id=some bk) (hs:a.eval s = .slice (some ⟨bk,0,none⟩) len cap)
  (dX:w.heap[bk]? = some (.cells cur et (0,0))) (hC:cur.size=cap*sz) (hle:es.length<=cap) (qe:cap<=maxLen) (dP:∀ e,e∈es->e.length=sz)
  (gi:∀(p q:Nat)(el:List D)(d:D),es[p]? = some el->el[q]? = some d->∃ v,cur[p*sz+q]? = some v/\RM w (Fz C w ι σ.h) ι id M0 p q v d) (hlen:len<=es.length)
  {xs:List (List D)} {news:List Value} (src:Src w R sz (a.eval x) xs news) (hK:ku ι K' id idx b (.sl et sz M (es.take len++xs))) (hT:Take C σ w ι K' b len M M0 id R xs) (ft:len=es.length\/len+xs.length<=es.length) (fx:len+xs.length<=ca)
  {bl:List (Nat × aR)} (gY:bp σ.h bl=Y0 σ.h id idx b (.sl et sz M (es.take len++xs))) :
  o.wp C.P a w (λa' w'=>cz C U' (σ.app o.dst ⟨.r sz b 0 (len+xs.length),bl⟩) a' w') Q:=by
 have lv:len+xs.length<=4294967296:=fx;have a9:Y1 σ b id:=.inr ⟨⟨_,_,_,_,hh⟩,by rw[hh];exact Eo⟩;have kj:=S.eg id bk fb;have Pn:C.fr bk:=kj.1.elim (λh=>h) λ⟨_,cs,h⟩=>by rw[hh]at h;cases h
 have fP:(es.take len++xs).length=len+xs.length:=by simp;omega
 have f5:∀ w':World,(∀ k,k<w.heap.size->ι id≠some k->w'.heap[k]? = w.heap[k]?)->∀ k y p,ι.k k=some (y,p)->w'.heap[k]? = w.heap[k]?:=λw' hold k y p hk=>hold k (S.df k y p hk).lt ((S.df k y p hk).ne id);have eR:∀ g,(ι.over K' id idx b g).o b=0:=λg=>QN _ _ _;have place:∀ new:Array Value,new.size=cur.size->(∀ k,k<len*sz->new[k]? = cur[k]?)->(∀ k,k<xs.length*sz->new[len*sz+k]? = news[k]?)->len+xs.length<=cap->
   (execOp a.eval o).run C.P w = .ok (.value (.slice (some ⟨bk,0,none⟩) (len+xs.length) cap)) (w.setRow bk new)->
   o.wp C.P a w (λa' w'=>cz C U' (σ.app o.dst ⟨.r sz b 0 (len+xs.length),bl⟩) a' w') Q:=by
  intro new lr fq ma cj cp;have hold:∀ k,k<w.heap.size->ι id≠some k->(w.setRow bk new).heap[k]? = w.heap[k]?:=λk _ hk=>setRow_other w bk k new (λe=>hk (by rw[fb,e]));have hg:∀ k,some bk=some k->C.fr k/\k<(w.setRow bk new).heap.size/\(w.heap.size<=k\/ι id=some k):=by
   intro k hk;cases hk;exact⟨Pn,by simpa using kj.2,.inr fb⟩
  obtain⟨hF,iX,_⟩:=zo (w':=w.setRow bk new) S hb a9 eC hK (by simp) hold (g:=some bk) hg;obtain⟨c1,c2⟩:=En (T:=RM (w.setRow bk new) _ (ι.over K' id idx b (some bk)) b M) hlen gi dP src (hT.t0 _ _ (ι.over K' id idx b (some bk)) rfl hF (f5 _ hold)) (hT.t _ _ (ι.over K' id idx b (some bk)) rfl hF (f5 _ hold)) fq ma;have SA:=S.jZ hb bN a9 eC hK (S.dD.setRow Pn.dD new) (by simp) hold hg ⟨by simp,by simp⟩
   (.sl bk et et sz M _ new h0 Io.dz (setRow_heap w bk cur new et (0,0) dX) (λ_=>⟨rfl,eR _,cap,by omega,by omega,qe⟩) (by rw[eR,Nat.zero_add,fP,lr,hC];exact Nat.mul_le_mul_right _ cj) (by omega) c1
    (λp q el d hp hq=>by obtain⟨v,k1,k2⟩:=c2 p q el d hp hq;exact⟨v,by rw[eR,Nat.zero_add];exact k1,k2⟩))
  refine J7 (σ:=σ) hd cp SA (.r b 0 (len+xs.length) bk 0 cap et sz M _ Io.dz YN (by omega) cj (λ_=>by rw[eR];simp) (λ_ _=>⟨rfl,?_⟩)) gY;unfold World.shape?;rw[setRow_heap w bk cur new et (0,0) dX];simp[lr,hC]
 rcases src.val with⟨h1,h2⟩ | ⟨ad,cx,h1,di⟩
 ·subst h2;refine place cur rfl (λ_ _=>rfl) (by simp) (by simp;omega) ?_;have:=Pl (P:=C.P) (w:=w) (ty:=o.type) (base:=some ⟨bk,0,none⟩) (n:=len) (cap:=cap) (sz:=sz) ht (by unfold cA;rw[hi];simpa using bV) (by omega);rw[setRow_self w bk cur et (0,0) dX];simp[execOp,ho,resolve,invoke,builtin,hs,h1,this]
 ·have iT:∀ u,u∈news->u.oneCell'=true:=src.one;by_cases ly:len+xs.length<=cap
  ·have fF:len*i.size+news.length<=cur.size:=by
    rw[src.len,bV,hC,<- Nat.add_mul];exact Nat.mul_le_mul_right _ ly
   have cp:=run_append_room (P:=C.P) w t o.type et i ht hi bk len cap cur dX ad xs.length cx news (by rw[src.len,bV]) di iT ly fF;rw[bV]at fF;rw[bV]at cp;have fW:=mP (l:=cur.toList) (xs:=news) (j:=len*sz) (by simpa using fF);have Ep:(bw cur.toList (len*sz) news).length=cur.toList.length:=J9 (by simpa using fF);refine place (bw cur.toList (len*sz) news).toArray (by simpa using Ep) (λk hk=>?_) (λk hk=>?_) ly ?_
   ·rw[List.getElem?_toArray,fW k,if_pos hk];simp
   ·rw[List.getElem?_toArray,fW,if_neg (by omega),if_pos (by rw[src.len];omega)];congr 1
    omega
   ·unfold bw;simp[execOp,ho,resolve,invoke,builtin,hs,h1,cp]
  ·have jC:len=es.length:=by omega
   have holds:∀ j v,(cur.toList.take (len*sz))[j]? = some v->w.cell? ((⟨bk,0,none⟩:Addr).add j)=some v:=by
    intro j v hj;rw[YO,Nat.zero_add];rw[List.getElem?_take]at hj
    split at hj
    ·exact pY dX (by simpa using hj)
    ·cases hj
   have Po:len*sz<=cur.size:=by rw[hC];exact Nat.mul_le_mul_right _ (by omega)
   have Er:(cur.toList.take (len*sz)).length=len*i.size:=by rw[bV];simp;omega
   have gK:(len+xs.length)*i.bytes<=140737488355328:=by
    have:=Nat.mul_le_mul lv lk;omega
   have cp:=run_append_grow (P:=C.P) w t o.type et i z ht hi hz ⟨bk,0,none⟩ len cap (cur.toList.take (len*sz)) Er holds ad xs.length cx news (by rw[src.len,bV]) di (by omega) (by omega) (growslice_fits (by omega) gK);have iL:=grownCap_ge w (len+xs.length) cap et;have Es:=grownCap_le_maxLen w (len+xs.length) cap et (by simp[maxLen];omega);generalize grownCap w (len+xs.length) cap et=G at *;generalize lz:((cur.toList.take (len*sz)).toArray++news.toArray++Builtin.zeroCells z.cells (G-(len+xs.length)))=new at *;have lr:new.size=G*sz:=by
    rw[<- lz,Array.size_append,Array.size_append,size_zeroCells,mW];simp only[List.size_toArray,src.len,Er,bV];rw[<- Nat.add_mul,<- Nat.add_mul];congr 1
    omega
   have m6:(cur.toList.take (len*sz)).length=len*sz:=by rw[Er,bV]
   have fq:∀ k,k<len*sz->new[k]? = cur[k]?:=by
    intro k hk;rw[<- lz,Array.append_assoc,Array.getElem?_append_left (by simpa[m6]using hk),List.getElem?_toArray,List.getElem?_take,if_pos hk];simp
   have ma:∀ k,k<xs.length*sz->new[len*sz+k]? = news[k]?:=by
    intro k hk;rw[<- lz,Array.append_assoc,Array.getElem?_append_right (by simp[m6])];rw[Array.getElem?_append_left (by simp[src.len,m6];omega)];simp[m6]
   have hold:∀ k,k<w.heap.size->ι id≠some k->(w.drew.alloc (.cells new et)).heap[k]? = w.heap[k]?:=λk hk _=>Below.heap_alloc w.drew _ k hk;have jr:ki C (w.drew.alloc (.cells new et)):=by
    have:ki C w.drew:=⟨S.dD.os,S.dD.tape,S.dD.output,S.dD.size,S.dD.block⟩
    exact this.alloc _
   have hg:∀ k,some w.heap.size=some k->C.fr k/\k<(w.drew.alloc (.cells new et)).heap.size/\(w.heap.size<=k\/ι id=some k):=by
    intro k hk;cases hk;exact⟨.inl S.dD.size,by simp,.inl (Nat.le_refl _)⟩
   obtain⟨hF,iX,_⟩:=zo (w':=w.drew.alloc (.cells new et)) S hb a9 eC hK (by simp) hold (g:=some w.heap.size) hg;obtain⟨c1,c2⟩:=En (T:=RM (w.drew.alloc (.cells new et)) _ (ι.over K' id idx b (some w.heap.size)) b M) hlen gi dP src (hT.t0 _ _ (ι.over K' id idx b (some w.heap.size)) rfl hF (f5 _ hold)) (hT.t _ _ (ι.over K' id idx b (some w.heap.size)) rfl hF (f5 _ hold)) fq ma;have SA:=S.jZ hb bN a9 eC hK jr (by simp) hold hg ⟨by simp,by simp⟩
    (.sl w.heap.size et et sz M _ new h0 Io.dz (heap_alloc_new w.drew _) (λ_=>⟨rfl,eR _,G,lr,by omega,Es⟩) (by rw[eR,Nat.zero_add,fP,lr];exact Nat.mul_le_mul_right _ (by omega)) (by omega) c1
     (λp q el d hp hq=>by obtain⟨v,k1,k2⟩:=c2 p q el d hp hq;exact⟨v,by rw[eR,Nat.zero_add];exact k1,k2⟩))
   refine J7 (σ:=σ) hd ?_ SA (.r b 0 (len+xs.length) w.heap.size 0 G et sz M _ Io.dz YN (by omega) (by omega) (λ_=>by rw[eR];simp) (λ_ _=>⟨rfl,?_⟩)) gY
   ·simp[execOp,ho,resolve,invoke,builtin,hs,h1,cp]
   ·unfold World.shape?;rw[show(w.drew.alloc (.cells new et)).heap[w.heap.size]? = some (.cells new et) from heap_alloc_new w.drew _];simp[lr]
def Io.join(ι:Io)(b id len idx off l:Nat):Nat->Option (Nat × cD):=λk=>match ι.k k with
 | some (y,p)=>match p with
  | (a,c)::q=>if y=id/\a<len then some (b,(a,c)::q) else if y=idx/\off<=a/\a<off+l then some (b,(len+(a-off),c)::q) else if y=id\/y=idx then none else some (y,p)
  | []=>if y=id\/y=idx then none else some (y,p)
 | none=>none
omit S hd hb bN in
theorem Et{B:aR}{id:Nat}(hn:∀ k p,ι.k k≠some (id,p))(gY:∀ k p,ι.k k≠some (b,p)):ku ι ι.k id b b B :=
 ⟨λk y p h _ _=>h,λk y p h=>.inl ⟨h,λe=>by subst e;exact hn k p h,λe=>by subst e;exact gY k p h⟩⟩
omit S hd hb bN in
theorem Eu{id len idx off l:Nat}{B:aR}(hB:∃ e sz g t H es,B = .sl e sz (.dp g t H) es):ku ι (ι.join b id len idx off l) id idx b B:=by
 refine⟨λk y p h h1 h2=>?_,λk y p h=>?_⟩
 ·simp only[Io.join,h]
  cases p with
  | nil=>simp only;rw[if_neg (by simp[h1,h2])]
  | cons c q=>obtain⟨a,c⟩:=c;simp only;rw[if_neg (λe=>h1 e.1),if_neg (λe=>h2 e.1),if_neg (by simp[h1,h2])]
 ·simp only[Io.join]at h
  split at h
  rotate_left
  ·cases h
  rename_i z r hz
  split at h
  ·split at h
   ·cases h;exact .inr ⟨rfl,by simp,⟨_,_,hz⟩,hB⟩
   ·split at h
    ·cases h;exact .inr ⟨rfl,by simp,⟨_,_,hz⟩,hB⟩
    ·split at h
     ·cases h
     ·rename_i hn
      cases h;simp only[not_or]at hn;exact .inl ⟨hz,hn.1,hn.2⟩
  ·split at h
   ·cases h
   ·rename_i hn
    cases h;simp only[not_or]at hn;exact .inl ⟨hz,hn.1,hn.2⟩
omit hd bN in
theorem QOx:∀ k p,ι.k k≠some (b,p):=λk p h=>by
 obtain⟨_,_,_,_,_,_,h9⟩:=(S.df k b p h).dp;rw[(S.fresh b hb).1]at h9
 cases h9
omit S hd hb bN in
theorem Ev{K':Nat->Option (Nat × cD)}{len id:Nat}{R:Nat->Nat->Value->D->Prop}{xs:List (List D)}(hR:∀ p q el v d,xs[p]? = some el->el[q]? = some d->R p q v d->Rd w (Fz C w ι σ.h) v d):Take C σ w ι K' b len .ow .ow id R xs :=
 ⟨λw' F' ι' _ hF _ p q v d _ h=>Rd.mono hF h,λw' F' ι' _ hF _ p q el v d h1 h2 h=>(hR p q el v d h1 h2 h).mono hF⟩
omit S hd hb bN in
theorem Ew{len id idx off g:Nat}{t:Bool}{M0:Mo}{x:AV}{xs:List (List D)}(Eo:len=0\/∃ g t,M0 = .dp g t [])(eb:x.dH σ.h id len xs=true)
  (hx:(∃ sz l e bc g t H es,x = .r sz idx off l/\σ.h idx = .sl e bc (.dp g t H) es)\/mG xs=true) :
  Take C σ w ι (ι.join b id len idx off xs.length) b len (.dp g t []) M0 id (iw w (Fz C w ι σ.h) ι σ.h x) xs:=by
 refine⟨λw' F' ι' hk hF hl p q v d hp h=>?_,λw' F' ι' hk hF hl p q el v d h1 h2 h=>?_⟩
 ·rcases Eo with h0 | ⟨g0,t0,rfl⟩
  ·omega
  ·refine⟨h.1,λ_=>(h.2 (by simp)).map _ λk r fj=>⟨?_,hl k id _ fj⟩⟩;rw[hk];simp only[List.singleton_append]at fj ⊢;simp only[Io.join,fj];rw[if_pos ⟨trivial,hp⟩]
 ·refine⟨QSI h,λ_=>?_⟩
  rcases hx with⟨sz,l,e,bc,g',t',H,es,rfl,hh⟩ | gz
  ·simp only[iw,hh]at h;refine h.map _ λk r fj=>⟨?_,hl k idx _ fj⟩
   rw[hk];simp only[List.singleton_append]at fj ⊢;simp only[Io.join,fj];have gz:=(List.getElem?_eq_some_iff.1 h1).1;simp only[AV.dH,hh,Bool.or_eq_true,Bool.not_eq_true']at eb;rw[if_neg (λe=>by
    rcases eb with eb | eb
    ·rw[e.1]at eb;simp at eb
    ·have:=Nat.le_of_ble_eq_true eb;omega),if_pos ⟨trivial,by omega,by omega⟩,show off+p-off=p by omega]
  ·have hd:=El gz h1 h2;unfold iw at h
   split at h
   ·split at h
    ·exact(RL.mZ (F:=λ_=>False) h hd).pl hd _ _ _
    ·exact Rd.pl h hd _ _ _
   ·exact(RL.mZ (F:=λ_=>False) h hd).pl hd _ _ _
   ·exact Rd.pl h hd _ _ _
theorem QSD{s x:Operand}{s' x':aX}{t et sz:Nat}{i:TypeInfo}{t1 t2:TypeId}(ho:o.op = .call { callee:=.builtin .append,args:=#[s,x],argTypes:=#[t,t] })(ht:fV C.P t=some et)(bV:cA C.P et=some sz)(hi:C.P.info? et=some i)(h0:0<sz)
  (lk:i.bytes<=32768) (hz:(Y2 C.P et).map (·.length)=some sz) (hs:cO C.P t1 s=some s') (hx:cO C.P t2 x=some x') (he:Qw Γ (aX.ev σ.t) σ.h b (.app s' x' et sz)=some e) :
  o.wp C.P a w (λa' w'=>cz C U' (σ.app o.dst e) a' w') Q:=by
 obtain⟨zs,mW,O1⟩:=Option.map_eq_some_iff.1 hz;obtain⟨i',z,bY,jW,gA⟩:=vc mW;rw[hi]at bY;cases bY;obtain⟨i'',jA,g9⟩:=u4 bV;rw[hi]at jA;cases jA;have th:z.cells.size=sz:=by rw[(gA w (λ_=>True) ι σ.h).size];exact O1
 have h1:=Zs S hs;simp only[Qw]at he
 split at he
 rotate_left
 ·cases he
 rename_i xs p4;obtain⟨news,src⟩:=QLL S h0 (Zs S hx) p4;have gY:=QOx S hb;have vv:=(S.fresh b hb)
 have vw:∀ id len,(aX.ev σ.t x').dH σ.h id len xs=true->∃ idx off,Y1 σ b idx/\((∃ sz l e bc g t H es,(aX.ev σ.t x') = .r sz idx off l/\σ.h idx = .sl e bc (.dp g t H) es)\/mG xs=true)/\
   ((idx=b/\(aX.ev σ.t x').dc σ.h=[])\/(idx≠b/\(aX.ev σ.t x').dc σ.h=[idx])):=by
  intro id len eb;unfold AV.dH at eb
  split at eb
  ·rename_i szr idx off l Ex
   split at eb
   ·rename_i e1 kv g1 t1 H1 eO hh;refine⟨idx,off,.inr ⟨⟨_,_,_,_,hh⟩,by rw[hh];rfl⟩,.inl ⟨_,_,_,_,_,_,_,_,Ex,hh⟩,.inr ⟨λh=>(by subst h;rw[vv.1]at hh;cases hh),(by simp only[Ex,AV.dc,hh])⟩⟩
   ·rename_i fk;refine⟨b,0,.inl rfl,.inr eb,.inl ⟨rfl,?_⟩⟩;rw[Ex];simp only[AV.dc]
    first
     | done
     | (split <;> first | rfl | (rename_i hh;exact absurd hh (fk _ _ _ _ _ _)))
  ·rename_i fk;refine⟨b,0,.inl rfl,.inr eb,.inl ⟨rfl,?_⟩⟩;unfold AV.dc
   split
   ·rename_i hh;exact absurd hh (fk _ _ _ _)
   ·rfl
 split at he
 ·rename_i szn hv;rw[hv]at h1;have cu:a.eval s = .slice none 0 0:=by
   generalize a.eval s=av at h1
   cases h1;rfl
  split at he
  rotate_left
  ·cases he
  rename_i fx
  split at he
  ·split at he
   rotate_left
   ·cases he
   rename_i iW eb
   cases he;obtain⟨idx,off,k1,k2,k3⟩:=vw b 0 eb;refine zp S hd hb bN ho (JR ht) hi jW g9 th lk h0 (id:=b) (idx:=idx) (M:=.dp 0 true []) (M0:=.ow) (.inl rfl) k1 vv.2 cu src (Eu (len:=0) (off:=off) (l:=xs.length) ⟨_,_,_,_,_,_,rfl⟩) (Ew (.inl rfl) eb k2) fx ?_
   rcases k3 with⟨rfl,k3⟩ | ⟨k4,k3⟩
   ·rw[k3];funext k
    simp only[iR,List.nil_append,bp];by_cases hk:k=idx
    ·subst hk;rw[QN];exact YN.symm
    ·rw[QI _ _ _ _ hk,YX hk hk hk]
   ·rw[k3];funext k
    simp only[iR,List.singleton_append,bp];by_cases hk:k=b
    ·subst hk;rw[QN];exact YN.symm
    ·rw[QI _ _ _ _ hk];by_cases gn:k=idx
     ·subst gn;rw[QN,qh hk (.inr rfl)]
     ·rw[QI _ _ _ _ gn,YX hk hk gn]
  ·split at he
   rotate_left
   ·cases he
   rename_i cH
   cases he;refine zp S hd hb bN ho (JR ht) hi jW g9 th lk h0 (id:=b) (idx:=b) (M:=.ow) (M0:=.ow) (.inl rfl) (.inl rfl) vv.2 cu src (Et gY gY) (Ev λp q el v d h1 h2 hr=>Em cH h1 h2 hr) fx ?_;funext k
   simp only[bp];by_cases hk:k=b
   ·subst hk;rw[QN];exact YN.symm
   ·rw[QI _ _ _ _ hk,YX hk hk hk]
 ·rename_i szr id len hv
  split at he
  ·rename_i et' bc es hh
   split at he
   rotate_left
   ·cases he
   rename_i hc;obtain⟨rfl,rfl,ft,fx,cH⟩:=hc
   cases he;rw[hv]at h1;have cr:Y1 σ b id:=.inr ⟨⟨_,_,_,_,hh⟩,by rw[hh];rfl⟩;have iZ:∀ k p,ι.k k≠some (id,p):=λk p h=>by
    obtain⟨_,_,_,_,_,_,h9⟩:=(S.df k id p h).dp;rw[hh]at h9
    cases h9
   have jD:id≠b:=λh=>by subst h;rw[vv.1]at hh;cases hh
   have i0:∀ B,bp σ.h [(id,.dead),(b,B)]=Y0 σ.h id b b B:=by
    intro B;funext k
    simp only[bp];by_cases hk:k=b
    ·subst hk;rw[QN];exact YN.symm
    ·rw[QI _ _ _ _ hk];by_cases gn:k=id
     ·subst gn;rw[QN,qh hk (.inl rfl)]
     ·rw[QI _ _ _ _ gn,YX hk gn hk]
   generalize cu:a.eval s=av at h1
   cases h1 with
   | cy _ _ _ _ _ _ eP=>rw[eP]at hh;cases hh
   | de _ _ _ e' _ m bY b9 Ey=>rw[hh]at b9;cases b9;cases Ey
   | cL _ e' _ m bY b9 =>
    rw[hh]at b9
    cases b9;have:=zp S hd hb bN ho (JR ht) hi jW g9 th lk h0 (id:=id) (idx:=b) (M:=.ow) (M0:=.ow) cr (.inl rfl) bY cu src (Et iZ gY) (Ev λp q el v d h1 h2 hr=>Em cH h1 h2 hr) (by simpa using fx) (i0 _) (Q:=Q);simpa using this
   | r _ _ _ bk ao cap e' _ m bP bY b9 hlen cj jk cX =>
    rw[hh]at b9
    cases b9;obtain⟨rfl,dY⟩:=cX rfl rfl;have dq:=S.fh id;rw[hh]at dq
    cases dq with
    | slnil _ _ _ _ fc=>rw[bY]at fc;cases fc
    | sl mc _ e0 _ _ _ cur p7 mh fb eN hle cW dP dR =>
     rw[bY]at mh;cases mh;obtain⟨rfl,eR,Cc,hC,jC,qe⟩:=eN rfl;have Ez:Cc=cap:=by
      unfold World.shape? at dY;rw[fb]at dY;simp only[Option.some.injEq,Prod.mk.injEq,true_and]at dY;rw[hC]at dY;exact Nat.eq_of_mul_eq_mul_right h0 dY
     subst Ez;simp only[eR,Nat.zero_add]at dR;exact Pm S hd hb bN ho (JR ht) hi jW g9 th lk h0 (M:=.ow) hh rfl (.inl rfl) bY cu fb hC jC qe dP dR (by omega) src (Et iZ gY) (Ev λp q el v d h1 h2 hr=>Em cH h1 h2 hr) ft fx (i0 _)
  ·rename_i et' bc g0 es hh
   split at he
   rotate_left
   ·cases he
   rename_i hc;obtain⟨rfl,rfl,ft,fx,eb⟩:=hc
   cases he;rw[hv]at h1;have cr:Y1 σ b id:=.inr ⟨⟨_,_,_,_,hh⟩,by rw[hh];rfl⟩;obtain⟨idx,off,k1,k2,k3⟩:=vw id len eb;have jD:id≠b:=λh=>by subst h;rw[vv.1]at hh;cases hh
   have i0:∀ B,bp σ.h ((id,.dead)::iR ((aX.ev σ.t x').dc σ.h)++[(b,B)])=Y0 σ.h id idx b B:=by
    intro B;funext k
    rcases k3 with⟨rfl,k3⟩ | ⟨k4,k3⟩
    ·rw[k3];simp only[iR,List.cons_append,List.nil_append,bp];by_cases hk:k=idx
     ·subst hk;rw[QN];exact YN.symm
     ·rw[QI _ _ _ _ hk];by_cases gn:k=id
      ·subst gn;rw[QN,qh hk (.inl rfl)]
      ·rw[QI _ _ _ _ gn,YX hk gn hk]
    ·rw[k3];simp only[iR,List.cons_append,List.nil_append,bp];by_cases hk:k=b
     ·subst hk;rw[QN];exact YN.symm
     ·rw[QI _ _ _ _ hk];by_cases EA:k=idx
      ·subst EA;rw[QN,qh hk (.inr rfl)]
      ·rw[QI _ _ _ _ EA];by_cases gn:k=id
       ·subst gn;rw[QN,qh hk (.inl rfl)]
       ·rw[QI _ _ _ _ gn,YX hk gn EA]
   generalize cu:a.eval s=av at h1
   cases h1 with
   | cy _ _ _ _ _ _ eP=>rw[eP]at hh;cases hh
   | de _ _ _ e' _ m bY b9 Ey=>rw[hh]at b9;cases b9;cases Ey
   | cL _ e' _ m bY b9 =>
    rw[hh]at b9
    cases b9;have:=zp S hd hb bN ho (JR ht) hi jW g9 th lk h0 (id:=id) (idx:=idx) (M:=.dp 0 true []) (M0:=.ow) cr k1 bY cu src (Eu (len:=0) (off:=off) (l:=xs.length) ⟨_,_,_,_,_,_,rfl⟩) (Ew (.inl rfl) eb k2) (by simpa using fx) (i0 _) (Q:=Q);simpa using this
   | r _ _ _ bk ao cap e' _ m bP bY b9 hlen cj jk cX =>
    rw[hh]at b9
    cases b9;obtain⟨rfl,dY⟩:=cX rfl rfl;have dq:=S.fh id;rw[hh]at dq
    cases dq with
    | slnil _ _ _ _ fc=>rw[bY]at fc;cases fc
    | sl mc _ e0 _ _ _ cur p7 mh fb eN hle cW dP dR =>
     rw[bY]at mh;cases mh;obtain⟨rfl,eR,Cc,hC,jC,qe⟩:=eN rfl;have Ez:Cc=cap:=by
      unfold World.shape? at dY;rw[fb]at dY;simp only[Option.some.injEq,Prod.mk.injEq,true_and]at dY;rw[hC]at dY;exact Nat.eq_of_mul_eq_mul_right h0 dY
     subst Ez;simp only[eR,Nat.zero_add]at dR;exact Pm S hd hb bN ho (JR ht) hi jW g9 th lk h0 (M:=.dp 0 true []) hh rfl k1 bY cu fb hC jC qe dP dR (by omega) src (Eu (len:=len) (off:=off) (l:=xs.length) ⟨_,_,_,_,_,_,rfl⟩) (Ew (.inr ⟨_,_,rfl⟩) eb k2) ft fx (i0 _)
  ·cases he
 ·cases he
end
end Go.Proofs.YtdplaepmjogjjaaGreat.Am
namespace Go.Proofs.YtdplaepmjogjjaaGreat.Am
open Go Go.RowKit
def noι:Io:=⟨λ_=>none,λ_=>none,λ_=>0⟩
def ti:Nat->aR:=λ_=>.none
def AV.eD:AV->Bool
 | .c _=>true
 | .a cs=>cs.all fun | .c _=>true | _=>false
 | _=>false
def mj:AV->Bool
 | .c _=>true
 | _=>false
structure DR(w:World)(F:Nat->Prop)(bm:Array Value)(cs:List AV):Prop where
 size:bm.size=cs.length
 one:∀(k:Nat)(v:Value),bm[k]? = some v->v.oneCell'=true
 vr:∀(k:Nat)(v:Value)(x:AV),bm[k]? = some v->cs[k]? = some x->VR w F noι ti v x
structure lA(w:World)(F:Nat->Prop)(v:Value)(x:Hd)(e:TypeId)(sz:Nat)(m:Mo)(es:List (List D)):Prop where
 hB:x.B = .sl e sz m es
 own:m.own=true
 vr:VR w F x.io (λ_=>x.B) v (.r sz 0 0 es.length)
 br:BR w F x.io (λ_=>x.B) 0 x.B
 df:∀ b p,x.K b=some p->p≠[]/\b<w.heap.size/\x.o≠some b/\∃ g t H,m = .dp g t H
def ZQ(gb:List Hd)(b:Nat):Prop:=∃ x,x∈gb/\x.has b
def kx:AV->Bool
 | .c _=>true
 | .ow ..=>true
 | _=>false
inductive ew(w:World)(F:Nat->Prop):List Value->List AV->List Nat->List Hd->Prop where
 | nil:ew w F [] [] [] []
 | eD (v:Value) (x:AV) (vs:List Value) (xs:List AV) (lb:List Nat) (gb:List Hd) (h:VR w F noι ti v x) (hr:ew w F vs xs lb gb) (hx:x.eD=true):ew w F (v::vs) (x::xs) lb gb
 | box (b:Nat) (e:TypeId) (bm:Array Value) (cs:List AV) (vs:List Value) (xs:List AV) (lb:List Nat) (gb:List Hd) (hb:w.heap[b]? = some (.cells bm e (0,0))) (hd:DR w F bm cs) (hc:cs.all mj=true) (hn:b∉lb)
   (hg:¬ ZQ gb b) (hr:ew w F vs xs lb gb):ew w F (.pointer (some ⟨b,0,none⟩)::vs) (.bx cs::xs) (b::lb) gb
 | own (v:Value) (x:Hd) (e:TypeId) (sz:Nat) (m:Mo) (es:List (List D)) (vs:List Value) (xs:List AV) (lb:List Nat) (gb:List Hd) (hv:lA w F v x e sz m es) (hn:∀ b,x.has b->b∉lb/\¬ ZQ gb b)
   (hr:ew w F vs xs lb gb):ew w F (v::vs) (.ow e sz m es::xs) lb (x::gb)
 | agg (arr:Array Value) (cs:List AV) (vs:List Value) (xs:List AV) (lb:List Nat) (g1 gb:List Hd) (hc:ew w F arr.toList cs [] g1) (hk:cs.all kx=true) (h1:∀ v,v∈arr.toList->v.oneCell'=true)
   (hn:∀ b,ZQ g1 b->b∉lb/\¬ ZQ gb b) (hr:ew w F vs xs lb gb):ew w F (.agg arr::vs) (.a cs::xs) lb (g1++gb)
def ie.h(r:ie):Nat->aR:=λi=>(r.hb[i]?).getD .none
def ml(w w':World)(F0:Nat->Prop)(gb:List Hd)(r:ie)(ι:Io)(b:Nat):Prop :=
 b<w'.heap.size/\(r.al=true/\F0 b\/w.heap.size<=b\/ZQ gb b)/\(∀ i,ι i=some b->(((r.hb++r.gv)[i]?).getD .none).own=false)/\ι.k b=none
structure ix(w:World)(F0:Nat->Prop)(lb:List Nat)(gb:List Hd)(r:ie)(v:Value)(w':World)(ι:Io):Prop where
 os:w'.os=w.os
 tape:w'.tape=w.tape
 output:w'.output=w.output
 size:w.heap.size<=w'.heap.size
 block:∀ k,k<w.heap.size->k∉lb->¬ ZQ gb k->w'.heap[k]? = w.heap[k]?
 val:VR w' (ml w w' F0 gb r ι) ι r.h v r.v
 fh:∀ i,i<r.hb.length->BR w' (ml w w' F0 gb r ι) ι r.h i (r.h i)
 inj:∀ i j b,ι i=some b->ι j=some b->i=j
 eg:∀ i b,ι i=some b->(w.heap.size<=b\/ZQ gb b)/\b<w'.heap.size/\i<r.hb.length+r.gv.length
 live:∀ i b,ι i=some b->((r.hb++r.gv)[i]?).getD .none≠.none/\((r.hb++r.gv)[i]?).getD .none≠.dead
 df:∀ b i p,ι.k b=some (i,p)->p≠[]/\(∃ e sz g t H es,(r.hb++r.gv)[i]? = some (.sl e sz (.dp g t H) es))/\(w.heap.size<=b\/ZQ gb b)/\b<w'.heap.size/\∀ j,ι j≠some b
 EB:r.bx.length=lb.length
 bx:∀(k b:Nat)(cs:List AV),lb[k]? = some b->r.bx[k]? = some cs->cs.all mj=true/\w'.shape? b=w.shape? b/\∃ e bm,w'.heap[b]? = some (.cells bm e (0,0))/\DR w' (ml w w' F0 gb r ι) bm cs
 EC:r.gv.length=gb.length
 gv:∀(k:Nat)(x:Hd)(B:aR),gb[k]? = some x->r.gv[k]? = some B->B = .dead\/Yk x.B B/\ι (r.hb.length+k)=x.o/\ι.o (r.hb.length+k)=x.base/\BR w' (ml w w' F0 gb r ι) ι r.h (r.hb.length+k) B/\∀ b,x.o=some b->w'.shape? b=w.shape? b
def qi(P:Program)(f:FuncId)(args:List AV)(r:ie):Prop :=
 ∀(w:World)(F0:Nat->Prop)(vs:Array Value)(lb:List Nat)(gb:List Hd),ew w F0 vs.toList args lb gb->(∀ b,F0 b->b<w.heap.size/\b∉lb/\¬ ZQ gb b)->
  Calls P f vs w λe w'=>∃ v ι,e = .returned v/\ix w F0 lb gb r v w' ι
def JS(P:Program)(Γ:ez):Prop:=∀ f args r,Γ f args=some r->qi P f args r
theorem VR.data{w:World}{F F':Nat->Prop}(hF:∀ b,F b->F' b){ι:Io}{h:Nat->aR}{v:Value}{d:D}(hv:VR w F ι h v (.c d)){ι':Io}{h':Nat->aR}:VR w F' ι' h' v (.c d):=by
 cases hv with
 | c v d hr=>exact .c _ _ (hr.mono λb hb=>⟨hF b hb,rfl⟩)
theorem m7{w:World}{F:Nat->Prop}{ι:Io}{h:Nat->aR}{v:Value}{d:D}(hr:Rd w F v d):VR w F ι h v (.c d):=.c _ _ hr
theorem VR.jE{w:World}{F:Nat->Prop}{ι ι':Io}{h h':Nat->aR}{b n:Nat}(hi:∀ i,i<n->ι' (i+b)=ι i/\ι'.o (i+b)=ι.o i/\h' (i+b)=(h i).sh b)(hn:∀ i,n<=i->h i = .none){v:Value}{x:AV}(hv:VR w F ι h v x):VR w F ι' h' v (x.l8 b):=by
 have aW:∀ i,h i≠.none->i<n:=λi hx=>by
  rcases Nat.lt_or_ge i n with h1 | h1
  ·exact h1
  ·exact absurd (hn i h1) hx
 cases hv with
 | u=>exact .u _
 | c v d hr=>exact .c _ _ hr
 | n sz=>exact .n _
 | cy v sz id off len h1 hd =>
  have:=hi id (aW id (by rw[hd];simp));exact .cy _ _ _ _ _ h1 (by rw[this.2.2,hd];rfl)
 | cL id e sz m bY hh =>
  have:=hi id (aW id (by rw[hh];simp));exact .cL _ e sz m (this.1.trans bY) (by rw[this.2.2,hh];rfl)
 | de ad cap id e sz m bY hh ht =>
  have:=hi id (aW id (by rw[hh];simp));exact .de ad cap _ e sz m (this.1.trans bY) (by rw[this.2.2,hh];rfl) ht
 | r id off len bk ao cap e sz m es bY hh hlen cj jk cX =>
  have:=hi id (aW id (by rw[hh];simp));exact .r _ off len bk ao cap e sz m es (this.1.trans bY) (by rw[this.2.2,hh];rfl) hlen cj (by rw[this.2.1];exact jk) cX
 | cS v id i j h1 hd =>
  have:=hi id (aW id (by rw[hd];simp));exact .cS _ _ _ _ h1 (by rw[this.2.2,hd];rfl)
 | p id i j bk bY mb hd =>
  have:=hi id (aW id mb);have hs:(h' (id+b)).sz=(h id).sz:=by rw[this.2.2];cases h id <;> rfl
  rw[<- hs,<- this.2.1];refine .p (id+b) i j bk (this.1.trans bY) ?_ ?_
  ·rw[this.2.2];cases hx:h id <;> simp_all [aR.sh]
  ·rw[this.2.2];cases hx:h id <;> simp_all [aR.sh]
 | q bk o j cs x hb hc hr=>exact .q bk o j cs x hb hc hr
 | a=>exact .u _
 | t=>exact .u _
 | fm=>exact .u _
 | b=>exact .u _
 | eI=>exact .u _
 | bq=>exact .u _
theorem VR.lB{w:World}{F:Nat->Prop}{ι ι':Io}{h h':Nat->aR}{b n:Nat}(hi:∀ i,i<n->ι' (i+b)=ι i/\ι'.o (i+b)=ι.o i/\h' (i+b)=(h i).sh b)(hn:∀ i,n<=i->h i = .none){v:Value}{x:AV}(hv:VR w F ι h v x):VR w F ι' h' v (x.kT b):=by
 cases x with
 | a cs =>
  cases hv with
  | a vs _ hl h1 hv =>
   refine .a vs _ (by simpa using hl) h1 (λk v x hk hx=>?_);simp only[List.getElem?_map,Option.map_eq_some_iff]at hx;obtain⟨y,hy,rfl⟩:=hx;exact(hv k v y hk hy).jE hi hn
 | _=>exact hv.jE hi hn
theorem VR.shift{w:World}{F:Nat->Prop}{ι ι':Io}{h h':Nat->aR}{b n:Nat}(hi:∀ i,i<n->ι' (i+b)=ι i/\ι'.o (i+b)=ι.o i/\h' (i+b)=(h i).sh b)(hn:∀ i,n<=i->h i = .none){v:Value}{x:AV}(hv:VR w F ι h v x):VR w F ι' h' v (x.sh b):=by
 cases x with
 | t cs =>
  cases hv with
  | t vs _ hl hv =>
   refine .t vs _ (by simpa using hl) (λk v x hk hx=>?_);simp only[List.getElem?_map,Option.map_eq_some_iff]at hx;obtain⟨y,hy,rfl⟩:=hx;exact(hv k v y hk hy).lB hi hn
 | _=>exact hv.lB hi hn
theorem VR.up{w:World}{F F':Nat->Prop}(hF:∀ b,F b->F' b){ι:Io}{h:Nat->aR}{v:Value}{x:AV}(hv:VR w F ι h v x):VR w F' ι h v x :=
 hv.mono (λb hb=>⟨hF b hb,rfl⟩) (λid=>Rest.gD ⟨rfl,rfl,λ_ _=>rfl,λb p hk=>⟨hk,rfl⟩⟩ rfl)
theorem BR.shift{w:World}{F F':Nat->Prop}(hF:∀ b,F b->F' b){ι ι':Io}{h h':Nat->aR}{b n:Nat}(hi:∀ i,i<n->ι' (i+b)=ι i/\ι'.o (i+b)=ι.o i/\h' (i+b)=(h i).sh b)(hn:∀ i,n<=i->h i = .none){i:Nat}(fc:i<n)
  (hk:∀ k p,ι.k k=some (i,p)->ι'.k k=some (i+b,p)) {B:aR} (hv:BR w F ι h i B):BR w F' ι' h' (i+b) (B.sh b):=by
 cases hv with
 | none=>exact .none
 | dead=>exact .dead
 | box bk e bm cs bY ho hb hl h1 hv =>
  refine .box bk e bm _ ((hi i fc).1.trans bY) ((hi i fc).2.1.trans ho) hb (by simpa using hl) h1 (λk v x hk hx=>?_);simp only[List.getElem?_map,Option.map_eq_some_iff]at hx;obtain⟨y,hy,rfl⟩:=hx;exact((hv k v y hk hy).jE hi hn).up hF
 | slnil e sz m hz bY=>exact .slnil e sz m hz ((hi i fc).1.trans bY)
 | sl bk e e0 sz m es cur hz bY hb eN hle cW bV hv =>
  refine .sl bk e e0 sz m es cur hz ((hi i fc).1.trans bY) hb (by rw[(hi i fc).2.1];exact eN) (by rw[(hi i fc).2.1];exact hle) cW bV (λp q x d hp hq=>?_);obtain⟨v,h1,h2⟩:=hv p q x d hp hq;refine⟨v,by rw[(hi i fc).2.1];exact h1,?_⟩
  cases m with
  | dp g t H=>exact⟨h2.1,λdr=>(h2.2 dr).map _ λk r fj=>⟨hk k _ fj,rfl⟩⟩
  | _=>exact Rd.mono (λb hb=>⟨hF b hb,rfl⟩) h2
theorem Pp(l:List aR):∀(b:Nat)(h:Nat->aR)(i:Nat),bp h (YJ b l) i=if b<=i/\i<b+l.length then(l[i-b]?).getD .none else h i:=by
 induction l with
 | nil=>intro b h i;simp only[YJ,bp,List.length_nil];rw[if_neg (by omega)]
 | cons x l ih =>
  intro b h i;simp only[YJ,bp,List.length_cons];rw[ih (b+1) (bI h b x) i];by_cases h1:i=b
  ·subst h1;rw[if_neg (by omega),if_pos (by omega),QN];simp
  ·by_cases h2:b<=i/\i<b+(l.length+1)
   ·rw[if_pos (by omega),if_pos h2];rw[show i-b=(i-(b+1))+1 by omega];simp
   ·rw[if_neg (by omega),if_neg h2,QI _ _ _ _ h1]
theorem Jl(h:Nat->aR):∀(l m:List (Nat × aR)),bp h (l++m)=bp (bp h l) m:=by
 intro l
 induction l generalizing h with
 | nil=>intro m;rfl
 | cons x l ih=>intro m;exact ih _ m
theorem vx(h0:Nat->aR):∀(ids:List Nat)(cC:List aR)(h:Nat->aR)(i:Nat),ids.Nodup->cC.length=ids.length->
  (i∉ids->bp h (Yr h0 ids cC) i=h i)/\∀(k:Nat)(B:aR),ids[k]? = some i->cC[k]? = some B->bp h (Yr h0 ids cC) i=Jx (h0 i) B
 | [],cC,h,i,_,hl=>by
  have:cC=[]:=List.eq_nil_of_length_eq_zero hl;subst this;exact⟨λ_=>rfl,by simp⟩
 | id::ids,[],h,i,_,hl=>by simp at hl
 | id::ids,fX::cC,h,i,dU,hl=>by
  simp only[List.nodup_cons]at dU;obtain⟨h1,h2⟩:=vx h0 ids cC (bI h id (Jx (h0 id) fX)) i dU.2 (by simpa using hl);simp only[Yr,bp];refine⟨λhi=>?_,λk cs hk dI=>?_⟩
  ·simp only[List.mem_cons,not_or]at hi;rw[h1 hi.2,QI _ _ _ _ hi.1]
  ·cases k with
   | zero =>
    simp at hk dI;subst hk;subst dI;rw[h1 dU.1,QN]
   | succ k =>
    simp at hk dI;exact h2 k cs hk dI
theorem zq:∀(ids:List Nat)(cC:List (List AV))(h:Nat->aR)(i:Nat),ids.Nodup->cC.length=ids.length->
  (i∉ids->bp h (YY ids cC) i=h i)/\∀(k:Nat)(cs:List AV),ids[k]? = some i->cC[k]? = some cs->bp h (YY ids cC) i = .box cs
 | [],cC,h,i,_,hl=>by
  have:cC=[]:=List.eq_nil_of_length_eq_zero hl;subst this;exact⟨λ_=>rfl,by simp⟩
 | id::ids,[],h,i,_,hl=>by simp at hl
 | id::ids,fX::cC,h,i,dU,hl=>by
  simp only[List.nodup_cons]at dU;obtain⟨h1,h2⟩:=zq ids cC (bI h id (.box fX)) i dU.2 (by simpa using hl);simp only[YY,bp];refine⟨λhi=>?_,λk cs hk dI=>?_⟩
  ·simp only[List.mem_cons,not_or]at hi;rw[h1 hi.2,QI _ _ _ _ hi.1]
  ·cases k with
   | zero =>
    simp at hk dI;subst hk;subst dI;rw[h1 dU.1,QN]
   | succ k =>
    simp at hk dI;exact h2 k cs hk dI
end Go.Proofs.YtdplaepmjogjjaaGreat.Am
namespace Go.Proofs.YtdplaepmjogjjaaGreat.Am
open Go Go.RowKit
section
variable {C:Ctx} {U U':Nat->Prop} {σ:St} {a:Act} {w:World} {ι:Io}
theorem QWy{h:Nat->aR}{xs:List AV}{ds:List D}(hx:AV.ds h xs=some ds):(ds.map AV.c).all mj=true:=by
 rw[List.all_eq_true];intro x hx;obtain⟨d,_,rfl⟩:=List.mem_map.1 hx;rfl
theorem QSh(h:Nat->aR)(ms:List AM)(x:AV)(xs:List AV):AV.dT h ms (x::xs)=match x.fT h (ms.headD .d),AV.dT h ms.tail xs with
  | some d,some ds=>some (d::ds)
  | _,_=>none:=by
 cases ms with
 | nil=>simp only[AV.dT,AV.gZ,List.headD_nil,AV.fT,List.tail_nil];cases AV.arg h x <;> cases AV.gZ h xs <;> rfl
 | cons m ms=>rfl
theorem Pq(ms:List AM)(x:AV)(xs:List AV):cI ms (x::xs)=if(ms.headD .d).h then x::cI ms.tail xs else cI ms.tail xs:=by
 cases ms with
 | nil=>simp[cI,AM.h]
 | cons m ms=>rfl
theorem Pr(ms:List AM)(x:AV)(xs:List AV):cl ms (x::xs)=if(ms.headD .d).h then cl ms.tail xs else x::cl ms.tail xs:=by
 cases ms with
 | nil=>simp[cl,AM.h]
 | cons m ms=>rfl
theorem QR0(h:Nat->aR)(ms:List AM):AV.dT h ms []=some []:=by cases ms <;> rfl
theorem QYb(ms:List AM):cI ms []=[]:=by cases ms <;> rfl
theorem QJK(ms:List AM):cl ms []=[]:=by cases ms <;> rfl
def hZ(ι:Io)(x:Nat)(B:aR):Hd:=⟨ι x,ι.o x,B,λb=>match ι.k b with | some (y,p)=>if y=x then some p else none | none=>none⟩
def Has(ι:Io)(id b:Nat):Prop:=ι id=some b\/∃ p,ι.k b=some (id,p)
theorem ED{ι:Io}{x b:Nat}{B:aR}{p:cD}:(hZ ι x B).K b=some p↔ι.k b=some (x,p):=by
 simp only[hZ]
 cases hx:ι.k b with
 | none=>simp
 | some z =>
  obtain⟨y,q⟩:=z;by_cases h:y=x
  ·subst h;simp
  ·simp[h]
theorem vy{ι:Io}{x b:Nat}{B:aR}:(hZ ι x B).has b↔Has ι x b:=by
 unfold Hd.has Has;simp only[ED];exact Iff.rfl
theorem JO(S:Sat C U σ a w ι){x y b:Nat}(h1:Has ι x b)(h2:Has ι y b):x=y:=by
 rcases h1 with h1 | ⟨p,h1⟩ <;> rcases h2 with h2 | ⟨q,h2⟩
 ·exact S.inj x y b h1 h2
 ·exact absurd h1 ((S.df b y q h2).ne x)
 ·exact absurd h2 ((S.df b x p h1).ne y)
 ·rw[h1]at h2;cases h2;rfl
def HB(B0 B:aR):Prop:=(∃ e sz es,B0 = .sl e sz .ow es/\B = .sl e sz .ow es)\/∃ e sz g t es,B0 = .sl e sz (.dp g t []) es/\B = .sl 0 sz (.dp 0 false []) es
theorem HB.sl{B0 B:aR}(h:HB B0 B):(∃ e sz m es,B0 = .sl e sz m es)/\B0.own=true:=by
 rcases h with⟨e,sz,es,rfl,_⟩ | ⟨e,sz,g,t,es,rfl,_⟩
 ·exact⟨⟨_,_,_,_,rfl⟩,rfl⟩
 ·exact⟨⟨_,_,_,_,rfl⟩,rfl⟩
theorem Ps(S:Sat C U σ a w ι){F0:Nat->Prop}(hF:∀ b,Fz C w ι σ.h b->F0 b){v:Value}{id e sz e0:Nat}{m m0:Mo}{es:List (List D)}(hB:HB (σ.h id) (.sl e sz m es))(hh:σ.h id = .sl e0 sz m0 es)(hv:VR w (Fz C w ι σ.h) ι σ.h v (.r sz id 0 es.length)) :
  lA w F0 v (hZ ι id (.sl e sz m es)) e sz m es:=by
 have cX:m.eY=true->m0.eY=true/\e0=e:=by
  rcases hB with⟨e1,kv,eO,h1,h2⟩ | ⟨e1,kv,g,t,eO,h1,h2⟩
  ·rw[hh]at h1;cases h1;cases h2;exact λ_=>⟨rfl,rfl⟩
  ·cases h2;intro h;cases h
 have cr:m.own=true:=by
  rcases hB with⟨e1,kv,eO,h1,h2⟩ | ⟨e1,kv,g,t,eO,h1,h2⟩ <;> cases h2 <;> rfl
 have hio:∀ b p,ι.k b=some (id,p)->(hZ ι id (.sl e sz m es)).io.k b=some (0,p):=λb p hk=>by
  simp only[Hd.io];rw[ED.2 hk];rfl
 refine⟨rfl,cr,?_,?_,λb p hk=>?_⟩
 ·generalize hn:es.length=n at hv ⊢
  cases hv with
  | cy _ _ _ _ _ _ hd=>rw[hd]at hh;cases hh
  | cL _ e' _ m' hi b9 =>
   have:es=[]:=List.eq_nil_of_length_eq_zero hn;subst this;exact .cL 0 e sz m hi rfl
  | de ad cap _ e' _ m' hi b9 ht =>
   have:es=[]:=List.eq_nil_of_length_eq_zero hn;subst this;rw[hh]at b9
   cases b9;refine .de ad cap 0 e sz m hi rfl ?_
   cases hx:m.eY with
   | false=>rfl
   | true=>rw[(cX hx).1]at ht;cases ht
  | r _ _ _ b ao cap e' _ m' bP hi b9 hlen cj ho ht =>
   rw[hh]at b9
   cases b9;exact .r 0 0 n b ao cap e sz m es hi rfl hlen cj ho (λh h0=>by obtain⟨k1,k2⟩:=cX h;rw[<- k2];exact ht k1 h0)
 ·have hb:=S.fh id;rw[hh]at hb;show BR w F0 _ _ 0 (.sl e sz m es)
  cases hb with
  | slnil _ _ _ hz hi=>exact .slnil e sz m hz hi
  | sl bk _ e1 _ _ _ cur hz hi hb eN hle cW bV iy =>
   refine .sl bk e e1 sz m es cur hz hi hb (λh=>by obtain⟨k1,k2⟩:=cX h;rw[<- k2];exact eN k1) hle cW bV (λi j x d hx hd=>?_);obtain⟨u,h1,h2⟩:=iy i j x d hx hd;refine⟨u,h1,?_⟩
   rcases hB with⟨e1,kv,eO,q1,q2⟩ | ⟨e1,kv,g,t,eO,q1,q2⟩
   ·rw[hh]at q1;cases q1;cases q2;exact Rd.mono (λb hb=>⟨hF b hb,rfl⟩) h2
   ·rw[hh]at q1;cases q1;cases q2;exact⟨h2.1,λ_=>(h2.2 (by simp)).map _ λb r hk=>⟨hio b _ hk,rfl⟩⟩
 ·have hk:=ED.1 hk;have L:=S.df b id p hk;refine⟨L.pn,L.lt,L.ne id,?_⟩;obtain⟨_,_,g,t,H,_,h9⟩:=L.dp
  rcases hB with⟨e1,kv,eO,q1,q2⟩ | ⟨e1,kv,g,t,eO,q1,q2⟩
  ·rw[h9]at q1;cases q1
  ·cases q2;exact⟨_,_,_,rfl⟩
structure du(σ:St)(ι:Io)(gb:List Hd)(ids:List Nat):Prop where
 len:gb.length=ids.length
 get:∀(k id:Nat),ids[k]? = some id->∃ B,gb[k]? = some (hZ ι id B)/\HB (σ.h id) B
theorem du.mn{gb:List Hd}{ids:List Nat}(H:du σ ι gb ids){b:Nat}:ZQ gb b↔∃ id,id∈ids/\Has ι id b:=by
 constructor
 ·rintro⟨x,hm,hb⟩
  obtain⟨k,hk,vA⟩:=List.getElem_of_mem hm;have gn:k<ids.length:=by rw[<- H.len];exact hk
  obtain⟨B,h5,h6⟩:=H.get k _ (List.getElem?_eq_getElem gn);rw[List.getElem?_eq_getElem hk,vA]at h5
  cases h5;exact⟨_,List.getElem_mem gn,vy.1 hb⟩
 ·rintro⟨id,hm,hb⟩
  obtain⟨k,hk⟩:=List.getElem?_of_mem hm;obtain⟨B,h5,h6⟩:=H.get k _ hk;exact⟨_,List.mem_of_getElem? h5,vy.2 hb⟩
theorem du.sl{gb:List Hd}{ids:List Nat}(H:du σ ι gb ids){id:Nat}(hm:id∈ids):(∃ e sz m es,σ.h id = .sl e sz m es)/\(σ.h id).own=true:=by
 obtain⟨k,hk⟩:=List.getElem?_of_mem hm;obtain⟨B,h5,h6⟩:=H.get k _ hk;exact h6.sl
theorem du.nil:du σ ι [] []:=⟨rfl,by simp⟩
theorem du.cons{gb:List Hd}{ids:List Nat}(H:du σ ι gb ids){id:Nat}{B:aR}(hB:HB (σ.h id) B):du σ ι (hZ ι id B::gb) (id::ids):=by
 refine⟨by simp[H.len],λk b7 hk=>?_⟩
 cases k with
 | zero=>simp at hk;subst hk;exact⟨B,rfl,hB⟩
 | succ k=>simpa using H.get k b7 (by simpa using hk)
theorem du.append{g1 gb:List Hd}{i1 ids:List Nat}(H1:du σ ι g1 i1)(H:du σ ι gb ids):du σ ι (g1++gb) (i1++ids):=by
 refine⟨by simp[H.len,H1.len],λk b7 hk=>?_⟩;rw[List.getElem?_append]at hk ⊢;rw[H1.len]
 split at hk
 ·rename_i h;rw[if_pos h];exact H1.get k b7 hk
 ·rename_i h;rw[if_neg h];exact H.get _ b7 hk
theorem Pt{h:Nat->aR}{sz id off len:Nat}{y:AV}(hy:(AV.r sz id off len).dN h=some y):∃ e g t es,h id = .sl e sz (.dp g t []) es/\off=0/\len=es.length/\y = .ow 0 sz (.dp 0 false []) es:=by
 simp only[AV.dN]at hy
 split at hy
 rotate_left
 ·cases hy
 rename_i hh
 split at hy
 rotate_left
 ·cases hy
 rename_i hc;obtain⟨rfl,rfl,rfl⟩:=hc
 cases hy;exact⟨_,_,_,_,hh,rfl,rfl,rfl⟩
theorem Pu(S:Sat C U σ a w ι){F0:Nat->Prop}(hF:∀ b,Fz C w ι σ.h b->F0 b):∀(vs:List Value)(cs ds:List AV),vs.length=cs.length->(∀(k:Nat)(v:Value)(x:AV),vs[k]? = some v->cs[k]? = some x->VR w (Fz C w ι σ.h) ι σ.h v x)->
  AV.fp σ.h cs=some ds->(AV.bM cs).Nodup->∃ g1,ew w F0 vs ds [] g1/\du σ ι g1 (AV.bM cs)/\ds.all kx=true
 | [],[],ds,_,_,hd,_=>by
  simp[AV.fp]at hd;subst hd;exact⟨[],.nil,.nil,rfl⟩
 | v::vs,c::cs,ds,hl,hv,hd,dU=>by
  simp only[AV.fp]at hd
  split at hd
  rotate_left
  ·cases hd
  rename_i d s8 h1 h2
  cases hd;simp only[AV.bM]at dU ⊢;have lC:=List.nodup_append.1 dU;obtain⟨g1,k1,k2,k3⟩:=Pu S hF vs cs s8 (by simpa using hl) (λk v x hk hx=>hv (k+1) v x hk hx) h2 lC.2.1;have qj:=hv 0 v c rfl rfl
  cases c with
  | c d0 =>
   cases d0 with
   | v x =>
    simp[AV.dN]at h1;subst h1;exact⟨g1,.eD v _ vs s8 [] g1 (by cases qj with | c _ _ hr=>exact m7 (hr.mono λb hb=>⟨hF b hb,rfl⟩)) k1 rfl,by simpa[AV.bR]using k2,by simpa[kx]using k3⟩
   | sl=>simp[AV.dN]at h1
  | r sz id off len =>
   obtain⟨e,g,t,es,hh,rfl,rfl,rfl⟩:=Pt h1;have hB:HB (σ.h id) (.sl 0 sz (.dp 0 false []) es):=.inr ⟨_,_,_,_,_,hh,rfl⟩;refine⟨hZ ι id (.sl 0 sz (.dp 0 false []) es)::g1,.own v _ 0 sz _ es vs s8 [] g1 (Ps S hF hB hh qj) (λb hb=>⟨by simp,λhg=>?_⟩) k1,by simpa[AV.bR]using k2.cons hB,by simpa[kx]using k3⟩;obtain⟨b7,h5,h6⟩:=k2.mn.1 hg;have:=JO S (vy.1 hb) h6;subst this;exact lC.2.2 id (by simp[AV.bR]) id h5 rfl
  | _=>simp[AV.dN]at h1
 | [],_::_,_,hl,_,_,_=>by simp at hl
 | _::_,[],_,hl,_,_,_=>by simp at hl
theorem zr(S:Sat C U σ a w ι){F0:Nat->Prop}(hF:∀ b,Fz C w ι σ.h b->F0 b) :
  ∀(ms:List AM)(vs:List Value)(xs ys:List AV),vs.length=xs.length->(∀(k:Nat)(v:Value)(x:AV),vs[k]? = some v->xs[k]? = some x->VR w (Fz C w ι σ.h) ι σ.h v x)->AV.dT σ.h ms xs=some ys->
   (∀ id b,id∈(cl ms xs).flatMap AV.refs->(∃ e sz m es,σ.h id = .sl e sz m es)->Has ι id b->F0 b)->((cl ms xs).flatMap AV.b8).Nodup->((cI ms xs).flatMap AV.refs).Nodup->
   ∃ lb gb,ew w F0 vs ys lb gb/\du σ ι gb ((cI ms xs).flatMap AV.refs)/\
    lb.length=((cl ms xs).flatMap AV.b8).length/\(∀(k id:Nat),((cl ms xs).flatMap AV.b8)[k]? = some id->∃ b cs,lb[k]? = some b/\ι id=some b/\σ.h id = .box cs)/\(∀ id,id∈(cl ms xs).flatMap AV.refs->∃ e sz m es,σ.h id = .sl e sz m es)/\Full σ.h ((cl ms xs).flatMap AV.refs)
 | ms,[],[],ys,_,_,hy,_,_,_=>by
  rw[QR0]at hy
  cases hy;rw[QYb,QJK];exact⟨[],[],.nil,.nil,rfl,by simp,by simp,λid a9=>by simp at a9⟩
 | ms,[],_::_,ys,hl,_,_,_,_,_=>by simp at hl
 | ms,_::_,[],ys,hl,_,_,_,_,_=>by simp at hl
 | ms,v::vs,x::xs,ys,hl,hv,hy,cr,dU,fk=>by
  rw[QSh]at hy
  split at hy
  rotate_left
  ·cases hy
  rename_i y kU hx iV
  cases hy;have lf:=hv 0 v x rfl rfl;obtain⟨gL,m8⟩:∃ gL,gL=ms.tail:=⟨_,rfl⟩
  rw[<- m8]at iV;have jT:∀(lb:List Nat)(ids:List Nat),lb.length=ids.length->(∀(k id:Nat),ids[k]? = some id->∃ b cs,lb[k]? = some b/\ι id=some b/\σ.h id = .box cs)->∀ id b,Has ι id b->(∃ e sz m es,σ.h id = .sl e sz m es)->b∉lb:=by
   intro lb ids h1 h2 id b hb ⟨e,sz,m,es,hh⟩ hm;obtain⟨k,hk,vA⟩:=List.getElem_of_mem hm;obtain⟨b',cs',h5,h6,h7⟩:=h2 k _ (List.getElem?_eq_getElem (by omega));rw[List.getElem?_eq_getElem hk,vA]at h5
   cases h5;have:=JO S hb (.inl h6);subst this;rw[hh]at h7
   cases h7
  cases hm:(ms.headD .d).h with
  | true =>
   have hD:cl ms (x::xs)=cl gL xs:=by rw[Pr,hm,if_pos rfl,m8]
   have hO:cI ms (x::xs)=x::cI gL xs:=by rw[Pq,hm,if_pos rfl,m8]
   rw[hD]at cr dU ⊢;rw[hO]at fk ⊢;simp only[List.flatMap_cons]at fk ⊢;have m9:=List.nodup_append.1 fk;obtain⟨lb,gb,h1,G,h2,h3,h4,tj⟩:=zr S hF gL vs xs kU (by simpa using hl) (λk v x hk hx=>hv (k+1) v x hk hx) iV cr dU m9.2.1;have one:∀(sz id:Nat)(e e0:TypeId)(m m0:Mo)(es:List (List D)),x = .r sz id 0 es.length->HB (σ.h id) (.sl e sz m es)->σ.h id = .sl e0 sz m0 es->y = .ow e sz m es->
     ∃ lb gb,ew w F0 (v::vs) (y::kU) lb gb/\du σ ι gb (x.refs++(cI gL xs).flatMap AV.refs)/\lb.length=((cl gL xs).flatMap AV.b8).length/\(∀(k id:Nat),((cl gL xs).flatMap AV.b8)[k]? = some id->∃ b cs,lb[k]? = some b/\ι id=some b/\σ.h id = .box cs)/\
      (∀ id,id∈(cl gL xs).flatMap AV.refs->∃ e sz m es,σ.h id = .sl e sz m es)/\Full σ.h ((cl gL xs).flatMap AV.refs):=by
    rintro sz id e e0 m m0 es rfl hB hh rfl
    refine⟨lb,hZ ι id (.sl e sz m es)::gb,.own v _ e sz m es vs kU lb gb (Ps S hF hB hh lf) (λb hb=>⟨jT lb _ h2 h3 id b (vy.1 hb) ⟨_,_,_,_,hh⟩,λhg=>?_⟩) h1,by simpa[AV.refs,AV.bR]using G.cons hB,h2,h3,h4,tj⟩;obtain⟨b7,h5,h6⟩:=G.mn.1 hg;have:=JO S (vy.1 hb) h6;subst this;exact m9.2.2 id (by simp[AV.refs,AV.bR]) id h5 rfl
   cases vB:ms.headD .d with
   | d=>rw[vB]at hm;cases hm
   | o =>
    rw[vB]at hx;simp only[AV.fT]at hx
    cases x with
    | r sz id off len =>
     simp only[AV.g7]at hx
     split at hx
     rotate_left
     ·cases hx
     rename_i e bc es hh
     split at hx
     rotate_left
     ·cases hx
     rename_i hc;obtain⟨rfl,rfl,rfl⟩:=hc
     cases hx;exact one bc id e e .ow .ow es rfl (.inl ⟨_,_,_,hh,rfl⟩) hh rfl
    | _=>simp[AV.g7]at hx
   | p =>
    rw[vB]at hx;simp only[AV.fT]at hx
    cases x with
    | r sz id off len =>
     simp only[AV.iq]at hx;obtain⟨e,g,t,es,hh,rfl,rfl,rfl⟩:=Pt hx;exact one sz id 0 e _ _ es rfl (.inr ⟨_,_,_,_,_,hh,rfl⟩) hh rfl
    | a cs =>
     simp only[AV.iq]at hx
     split at hx
     rotate_left
     ·cases hx
     rename_i ds cn
     cases hx;generalize dI:cs=fX at *
     cases lf with
     | a arr _ fP fO iy =>
      obtain⟨g1,k1,k2,k3⟩:=Pu S hF arr.toList fX ds (by simpa using fP) (λk v x hk hx=>iy k v x (by simpa using hk) hx) cn m9.1;refine⟨lb,g1++gb,.agg arr ds vs kU lb g1 gb k1 k3 (λu hu=>?_) (λb hb=>?_) h1,k2.append G,h2,h3,h4,tj⟩
      ·obtain⟨k,hk⟩:=List.getElem?_of_mem hu;exact fO k u (by simpa using hk)
      ·obtain⟨id,h5,h6⟩:=k2.mn.1 hb;refine⟨jT lb _ h2 h3 id b h6 (k2.sl h5).1,λhg=>?_⟩;obtain⟨b7,h7,h8⟩:=G.mn.1 hg;have:=JO S h6 h8;subst this;exact m9.2.2 id h5 id h7 rfl
    | _=>simp[AV.iq]at hx
  | false =>
  have vB:ms.headD .d = .d:=by cases hq:ms.headD .d <;> rw[hq]at hm <;> first | rfl | cases hm
  rw[vB]at hx;simp only[AV.fT]at hx;have hD:cl ms (x::xs)=x::cl gL xs:=by rw[Pr,hm,m8];rfl
  have hO:cI ms (x::xs)=cI gL xs:=by rw[Pq,hm,m8];rfl
  rw[hD]at cr dU ⊢;rw[hO]at fk ⊢;simp only[List.flatMap_cons]at cr dU;have lC:=(List.nodup_append.1 dU)
  obtain⟨lb,gb,h1,hG,h2,h3,h4,tj⟩:=zr S hF gL vs xs kU (by simpa using hl) (λk v x hk hx=>hv (k+1) v x hk hx) iV (λid b a9=>cr id b (List.mem_append.2 (.inr a9))) lC.2.1 fk;have plain:∀(d:D),x.d σ.h=some d->x.refs=x.bR->x.b8=[]->y = .c d->∃ lb gb,ew w F0 (v::vs) (y::kU) lb gb/\du σ ι gb ((cI gL xs).flatMap AV.refs)/\
    lb.length=((x::cl gL xs).flatMap AV.b8).length/\(∀(k id:Nat),((x::cl gL xs).flatMap AV.b8)[k]? = some id->∃ b cs,lb[k]? = some b/\ι id=some b/\σ.h id = .box cs)/\(∀ id,id∈(x::cl gL xs).flatMap AV.refs->∃ e sz m es,σ.h id = .sl e sz m es)/\Full σ.h ((x::cl gL xs).flatMap AV.refs):=by
   intro d hd hr fu zn;subst zn;have cn:AV.ds σ.h [x]=some [d]:=by simp[AV.ds,hd]
   have ln:∀ id,id∈x.bR->∃ e sz m es,σ.h id = .sl e sz m es:=λid a9=>vk cn id (by simpa[AV.bM]using a9);have:Rd w F0 v d:=AV.jy S hF lf hd (λid b a9 hi=>cr id b (List.mem_append.2 (.inl (by rw[hr];exact a9))) (ln id a9) (.inl hi)) (λid b p a9 hk=>cr id b (List.mem_append.2 (.inl (by rw[hr];exact a9))) (ln id a9) (.inr ⟨p,hk⟩));refine⟨lb,gb,.eD v _ vs kU lb gb (m7 this) h1 rfl,hG,by simpa[fu]using h2,by simpa[fu]using h3,λid a9=>?_,λid a9=>?_⟩
   ·rw[List.flatMap_cons]at a9
    rcases List.mem_append.1 a9 with a9 | a9
    ·exact ln id (by rw[<- hr];exact a9)
    ·exact h4 id a9
   ·rw[List.flatMap_cons]at a9
    rcases List.mem_append.1 a9 with a9 | a9
    ·exact O4 hd id (by rw[<- hr];exact a9)
    ·exact tj id a9
  cases x with
  | c d =>
   simp[AV.arg]at hx;exact plain d rfl rfl rfl hx.symm
  | n sz =>
   simp[AV.arg]at hx;exact plain _ rfl rfl rfl hx.symm
  | r sz id off len =>
   simp only[AV.arg]at hx
   split at hx
   rotate_left
   ·cases hx
   rename_i d hd
   cases hx;exact plain d hd rfl rfl rfl
  | b d0 id g pt =>
   simp only[AV.arg]at hx
   split at hx
   rotate_left
   ·cases hx
   rename_i d hd
   cases hx;exact plain d hd rfl rfl rfl
  | a cs =>
   simp only[AV.arg]at hx
   split at hx
   rotate_left
   ·cases hx
   rename_i ds cn
   cases hx;have d7:=AV.dW cn;have hrefs:=vk cn;have:VR w F0 noι ti v (.a (ds.map .c)):=by
    generalize dI:cs=fX at *
    cases lf with
    | a us _ fP fO iy =>
     refine .a us _ (by simp[d7.1,fP]) fO (λk u y hk hy=>?_);simp only[List.getElem?_map,Option.map_eq_some_iff]at hy;obtain⟨d,hd,rfl⟩:=hy;have aW:k<fX.length:=by rw[<- d7.1];exact(List.getElem?_eq_some_iff.1 hd).1
     obtain⟨d',dC,eP⟩:=d7.2 k _ (List.getElem?_eq_getElem aW);rw[hd]at dC
     cases dC;refine m7 (AV.jy S hF (iy k u _ hk (List.getElem?_eq_getElem aW)) eP (λid b a9 hi=>?_) (λid b p a9 hi=>?_))
     ·have hm:=s9 (List.getElem?_eq_getElem aW) a9;exact cr id b (List.mem_append.2 (.inl hm)) (hrefs id hm) (.inl hi)
     ·have hm:=s9 (List.getElem?_eq_getElem aW) a9;exact cr id b (List.mem_append.2 (.inl hm)) (hrefs id hm) (.inr ⟨p,hi⟩)
   refine⟨lb,gb,.eD v _ vs kU lb gb this h1 ?_,hG,by simpa[AV.b8]using h2,by simpa[AV.b8]using h3,λb7 a9=>?_,λb7 a9=>?_⟩
   ·simp only[AV.eD,List.all_eq_true];intro x hx;obtain⟨d,_,rfl⟩:=List.mem_map.1 hx;rfl
   ·rw[List.flatMap_cons]at a9
    rcases List.mem_append.1 a9 with a9 | a9
    ·exact hrefs b7 a9
    ·exact h4 b7 a9
   ·rw[List.flatMap_cons]at a9
    rcases List.mem_append.1 a9 with a9 | a9
    ·exact zi cn b7 a9
    ·exact tj b7 a9
  | p id i j =>
   match i,j,hx with
   | 0,0,hx =>
    simp only[AV.arg]at hx
    split at hx
    rotate_left
    ·cases hx
    rename_i cs hh
    split at hx
    rotate_left
    ·cases hx
    rename_i Pv
    split at hx
    rotate_left
    ·cases hx
    rename_i ds cn
    cases hx;have d7:=AV.dW cn;have dq:=S.fh id;rw[hh]at dq
    cases lf with
    | cS _ _ _ _ _ eP=>rw[eP]at hh;cases hh
    | p _ _ _ bk hi mb aiG =>
     rw[hh];simp only[aR.sz,Nat.mul_zero,Nat.zero_add]
     cases dq with
     | box mc et bm _ bY eR hb fP fO dR =>
      rw[hi]at bY;cases bY;rw[eR];have dr:bk∉lb:=by
       intro hm;obtain⟨k,hk,vA⟩:=List.getElem_of_mem hm;have gn:k<((cl gL xs).flatMap AV.b8).length:=by omega
       obtain⟨b',cs',h5,h6,_⟩:=h3 k _ (List.getElem?_eq_getElem gn);rw[List.getElem?_eq_getElem hk,vA]at h5
       cases h5;have:=S.inj _ _ _ hi h6;exact lC.2.2 id (by simp[AV.b8]) _ (List.getElem_mem gn) this
      refine⟨bk::lb,gb,.box bk et bm _ vs kU lb gb hb ⟨by simp[d7.1,fP],fO,λk u y hk hy=>?_⟩ (QWy cn) dr (λvC=>?_) h1,hG,by simp[AV.b8,h2],λk b7 hk=>?_,λb7 a9=>?_,λb7 a9=>?_⟩
      ·simp only[List.getElem?_map,Option.map_eq_some_iff]at hy;obtain⟨d,hd,rfl⟩:=hy;have aW:k<cs.length:=by rw[<- d7.1];exact(List.getElem?_eq_some_iff.1 hd).1
       obtain⟨d',dC,eP⟩:=d7.2 k _ (List.getElem?_eq_getElem aW);rw[hd]at dC
       cases dC;refine m7 (AV.jy S hF (dR k u _ hk (List.getElem?_eq_getElem aW)) eP (λid b a9 hi=>?_) (λid b p a9 hi=>?_))
       ·have hm:=s9 (List.getElem?_eq_getElem aW) a9;rw[Pv]at hm
        cases hm
       ·have hm:=s9 (List.getElem?_eq_getElem aW) a9;rw[Pv]at hm
        cases hm
      ·obtain⟨b7,h5,h6⟩:=hG.mn.1 vC;have:=JO S h6 (.inl hi);subst this;obtain⟨⟨_,_,_,_,h7⟩,_⟩:=hG.sl h5;rw[hh]at h7
       cases h7
      ·simp only[List.flatMap_cons,AV.b8,List.singleton_append]at hk
       cases k with
       | zero=>simp at hk;subst hk;exact⟨bk,cs,rfl,hi,hh⟩
       | succ k=>simp at hk;simpa using h3 k b7 hk
      ·rw[List.flatMap_cons]at a9
       rcases List.mem_append.1 a9 with a9 | a9
       ·simp[AV.refs,AV.bR]at a9
       ·exact h4 b7 a9
      ·rw[List.flatMap_cons]at a9
       rcases List.mem_append.1 a9 with a9 | a9
       ·simp[AV.refs,AV.bR]at a9
       ·exact tj b7 a9
   | i+1,_,hx=>simp[AV.arg]at hx
   | 0,j+1,hx=>simp[AV.arg]at hx
  | u=>simp[AV.arg]at hx
  | q=>simp[AV.arg]at hx
  | t=>simp[AV.arg]at hx
  | bx=>simp[AV.arg]at hx
  | ow=>simp[AV.arg]at hx
  | bq=>simp[AV.arg]at hx
end
end Go.Proofs.YtdplaepmjogjjaaGreat.Am
namespace Go.Proofs.YtdplaepmjogjjaaGreat.Am
open Go Go.RowKit
section
variable {C:Ctx} {U U':Nat->Prop} {σ:St} {a:Act} {w:World} {ι:Io}
theorem cM.alive{x y:aR}(h:cM x y):y.alive=true:=by
 cases x <;> cases y <;> first | rfl | exact h.elim
theorem QPQ{x:aR}{b:Nat}(h:x≠.none/\x≠.dead):x.sh b≠.none/\x.sh b≠.dead:=by
 cases x <;> simp_all [aR.sh]
theorem QVE{x:aR}(h:x≠.none/\x≠.dead):jt x≠.none/\jt x≠.dead:=by
 cases x <;> simp_all [jt]
theorem QRt{x:aR}{b:Nat}:(x.sh b).own=x.own:=by cases x <;> rfl
theorem QHh{y:aR}(h:y.alive=true):y≠.none/\y≠.dead:=by
 cases y <;> simp_all [aR.alive]
theorem qk{B0 x B:aR}(hB:HB B0 x)(hs:B = .dead\/Yk x B):Jx B0 B = .dead\/(∃ e sz m es bP m',B0 = .sl e sz m es/\Jx B0 B = .sl e sz m' bP/\bP.length=es.length/\Mo.le m m'/\m.gen≠m'.gen.bind (λg=>some g)/\
  (B = .sl e sz m' bP/\m = .ow/\m'.gen=none\/∃ g t g1 t1,m = .dp g t []/\m' = .dp (g+1) false []/\B = .sl 0 sz (.dp g1 t1 []) bP))\/(∃ e sz es bP m',B0 = .sl e sz .ow es/\B = .sl e sz m' bP/\Jx B0 B=B/\bP.length=es.length/\m'.gen=none/\Mo.le .ow m'):=by
 rcases hB with⟨e,sz,es,rfl,rfl⟩ | ⟨e,sz,g,t,es,rfl,rfl⟩
 ·rcases hs with rfl | hs
  ·exact .inl rfl
  ·cases B with
   | sl e' bc m' bP =>
    obtain⟨rfl,rfl,hl,ht,hm⟩:=hs;have jl:m'.gen=none:=by
     cases hx:m'.gen with
     | none=>rfl
     | some g=>have:=hm (by rw[hx];rfl);cases this
    exact .inr (.inr ⟨e',bc,es,bP,m',rfl,rfl,rfl,hl,jl,⟨λ_=>rfl,λg h=>by rw[jl]at h;cases h⟩⟩)
   | _=>exact hs.elim
 ·rcases hs with rfl | hs
  ·exact .inl rfl
  ·cases B with
   | sl e' bc m' bP =>
    obtain⟨rfl,rfl,hl,hm⟩:=hs
    cases m' with
    | dp g1 t1 H =>
     cases H with
     | nil=>exact .inr (.inl ⟨e,bc,_,es,bP,_,rfl,rfl,hl,⟨λh=>(by cases h),λg' h=>⟨g,rfl,(by cases h;omega)⟩⟩,(by simp[Mo.gen]),.inr ⟨g,t,g1,t1,rfl,rfl,rfl⟩⟩)
     | cons=>exact .inl rfl
    | _=>exact .inl rfl
   | _=>exact hs.elim
set_option maxHeartbeats 1000000 in
theorem Sat.called(S:Sat C U σ a w ι){b N:Nat}{r:ie}{refs b3 cn lb:List Nat}{gb:List Hd}{F0:Nat->Prop}{v:Value}{w':World}{ι':Io}
  (hb:∀ i,b<=i->i<b+N->U i) (bN:∀ i,U' i->U i/\¬ (b<=i/\i<b+N)) (zt:r.hb.length<=N)
  (vE:r.al=true->∀ k,F0 k->Fz C w (ι.loose refs) (bp σ.h (eT σ.h refs)) k) (hrefs:r.al=true->∀ id,id∈refs->∃ e sz m es,σ.h id = .sl e sz m es) (dV:r.al=true->Full σ.h refs)
  (dU:b3.Nodup) (hlen:lb.length=b3.length) (iz:∀(k id:Nat),b3[k]? = some id->∃ b cs,lb[k]? = some b/\ι id=some b/\σ.h id = .box cs)
  (gp:cn.Nodup) (G:du σ ι gb cn) (mo:∀ id,id∈cn->id∉refs)
  (P:ix w F0 lb gb r v w' ι') :
  ∃ d8 ι'',bp σ.h (YJ b (r.hb.map (aR.sh b))++YY b3 r.bx++Yr σ.h cn r.gv++(if r.al then eT σ.h refs else []))=d8/\Sat C U' ⟨σ.t,d8,σ.nx⟩ a w' ι''/\VR w' (Fz C w' ι'' d8) ι'' d8 v (r.v.sh b)/\
   (∀ k,Fz C w ι σ.h k->Fz C w' ι'' d8 k/\w'.heap[k]? = w.heap[k]?)/\(∀ i,cY w w' ι ι'' σ.h d8 i)/\
   (∀ i,¬ (b<=i/\i<b+N)->i∉b3->i∉cn->(r.al=true->i∉refs)->Rest w w' ι ι'' i/\d8 i=σ.h i):=by
 obtain⟨n,hn⟩:∃ n,n=r.hb.length:=⟨_,rfl⟩
 obtain⟨d8,lD⟩:∃ d8,d8=bp σ.h (YJ b (r.hb.map (aR.sh b))++YY b3 r.bx++Yr σ.h cn r.gv++(if r.al then eT σ.h refs else [])):=⟨_,rfl⟩
 have ql:r.bx.length=b3.length:=P.EB.trans hlen;have na:r.gv.length=cn.length:=P.EC.trans G.len;have d7:∀ id,id∈cn->∃ e sz m es,σ.h id = .sl e sz m es:=λid hm=>(G.sl hm).1;have ov:∀ id,id∈cn->(σ.h id).own=true:=λid hm=>(G.sl hm).2;have jF:∀ id,id∈b3->∃ bk cs,bk∈lb/\ι id=some bk/\σ.h id = .box cs:=by
  intro id hm;obtain⟨k,hk⟩:=List.getElem?_of_mem hm;obtain⟨bk,cs,h1,h2,h3⟩:=iz k _ hk;exact⟨bk,cs,List.mem_of_getElem? h1,h2,h3⟩
 have lE:∀ id,id∈b3->id∉cn:=by
  intro id hm vF;obtain⟨_,cs,_,_,h3⟩:=jF id hm;obtain⟨e,sz,m,es,h4⟩:=d7 id vF;rw[h4]at h3
  cases h3
 have vH:r.al=true->∀ id,id∈b3->id∉refs:=by
  intro ha id hm vF;obtain⟨_,cs,_,_,h3⟩:=jF id hm;obtain⟨e,sz,m,es,h4⟩:=hrefs ha id vF;rw[h4]at h3
  cases h3
 have gm:∀ i,i<n->d8 (i+b)=(r.h i).sh b:=by
  intro i hi;have vI:=S.fresh (i+b) (hb _ (by omega) (by omega));have h1:i+b∉b3:=λhm=>by
   obtain⟨_,cs,_,_,h3⟩:=jF _ hm;rw[vI.1]at h3
   cases h3
  have h2:r.al=true->i+b∉refs:=λha hm=>by
   obtain⟨e,sz,m,es,h3⟩:=hrefs ha _ hm;rw[vI.1]at h3
   cases h3
  have h0:i+b∉cn:=λhm=>by
   obtain⟨e,sz,m,es,h3⟩:=d7 _ hm;rw[vI.1]at h3
   cases h3
  have fe:bp (bp (bp σ.h (YJ b (r.hb.map (aR.sh b)))) (YY b3 r.bx)) (Yr σ.h cn r.gv) (i+b)=(r.h i).sh b:=by
   rw[(vx σ.h cn r.gv _ (i+b) gp na).1 h0,(zq b3 r.bx _ (i+b) dU ql).1 h1,Pp,if_pos ⟨by omega,by simp;omega⟩];have:i<r.hb.length:=by omega
   simp[ie.h,this]
  rw[lD,Jl,Jl,Jl]
  cases ha:r.al
  ·simpa[bp]using fe
  ·simp only[if_true];rw[Yw,if_neg (h2 ha)];exact fe
 have fu:∀(k id:Nat)(cs:List AV),b3[k]? = some id->r.bx[k]? = some cs->d8 id = .box cs:=by
  intro k id cs hk dI;have hm:id∈b3:=List.mem_of_getElem? hk;rw[lD,Jl,Jl,Jl];have fe:bp (bp (bp σ.h (YJ b (r.hb.map (aR.sh b)))) (YY b3 r.bx)) (Yr σ.h cn r.gv) id = .box cs:=by
   rw[(vx σ.h cn r.gv _ id gp na).1 (lE id hm)];exact(zq b3 r.bx (bp σ.h (YJ b (r.hb.map (aR.sh b)))) id dU ql).2 k cs hk dI
  cases ha:r.al
  ·simpa[bp]using fe
  ·simp only[if_true];rw[Yw,if_neg (vH ha id hm)];exact fe
 have vJ:∀(k id:Nat)(B:aR),cn[k]? = some id->r.gv[k]? = some B->d8 id=Jx (σ.h id) B:=by
  intro k id B hk hB;have hm:id∈cn:=List.mem_of_getElem? hk;have fe:=(vx σ.h cn r.gv (bp (bp σ.h (YJ b (r.hb.map (aR.sh b)))) (YY b3 r.bx)) id gp na).2 k B hk hB;rw[lD,Jl,Jl,Jl]
  cases ha:r.al
  ·simpa[bp]using fe
  ·simp only[if_true];rw[Yw,if_neg (mo id hm)];exact fe
 have hold:∀ i,¬ (b<=i/\i<b+n)->i∉b3->i∉cn->d8 i=if r.al=true/\i∈refs then jt (σ.h i) else σ.h i:=by
  intro i h1 h2 h0;have fe:bp (bp (bp σ.h (YJ b (r.hb.map (aR.sh b)))) (YY b3 r.bx)) (Yr σ.h cn r.gv) i=σ.h i:=by
   rw[(vx σ.h cn r.gv _ i gp na).1 h0,(zq b3 r.bx _ i dU ql).1 h2,Pp,if_neg (by simpa[<- hn]using h1)]
  rw[lD,Jl,Jl,Jl]
  cases ha:r.al
  ·simpa[bp]using fe
  ·simp only[if_true,true_and];rw[Yw]
   split
   ·rfl
   ·exact fe
 obtain⟨zu,nc⟩:∃ zu:Nat->Option (Nat × cD),zu=λk=>match ι'.k k with
   | some (i,p)=>if i<n then some (i+b,p) else(match cn[i-n]? with | some x=>if(d8 x).alive=true then some (x,p) else none | none=>none)
   | none=>match ι.k k with
    | some (y,p)=>if y∈cn\/(r.al=true/\y∈refs) then none else some (y,p)
    | none=>none:=⟨_,rfl⟩
 obtain⟨ι'',hι''⟩:∃ ι'':Io,ι''=⟨λi=>if b<=i/\i<b+n then ι' (i-b) else if i∈cn/\(d8 i).alive=false then Option.none else ι i,zu,λi=>if b<=i/\i<b+n then ι'.o (i-b) else ι.o i⟩:=⟨_,rfl⟩
 have fj:ι''.k=zu:=by rw[hι'']
 have hιn:∀ i,i<n->ι'' (i+b)=ι' i:=λi hi=>by rw[hι''];simp only;rw[if_pos (by omega)];congr 1;omega
 have hιno:∀ i,i<n->ι''.o (i+b)=ι'.o i:=λi hi=>by rw[hι''];simp only;rw[if_pos (by omega)];congr 1;omega
 have hιoo:∀ i,¬ (b<=i/\i<b+n)->ι''.o i=ι.o i:=λi hi=>by rw[hι''];simp only;rw[if_neg hi]
 have hιq:∀ i,¬ (b<=i/\i<b+n)->ι'' i=if i∈cn/\(d8 i).alive=false then Option.none else ι i:=λi hi=>by rw[hι''];simp only;rw[if_neg hi]
 have hιo:∀ i,¬ (b<=i/\i<b+n)->i∉cn->ι'' i=ι i:=λi hi h0=>by rw[hιq i hi,if_neg (λh=>h0 h.1)]
 have hιa:∀ i,¬ (b<=i/\i<b+n)->(d8 i).alive=true->ι'' i=ι i:=λi hi h0=>by rw[hιq i hi,if_neg (λh=>by rw[h0]at h;cases h.2)]
 have hιs:∀ i k,¬ (b<=i/\i<b+n)->ι'' i=some k->ι i=some k/\(i∈cn->(d8 i).alive=true):=λi k hi hk=>by
  rw[hιq i hi]at hk
  split at hk
  ·cases hk
  ·rename_i h0;refine⟨hk,λhm=>?_⟩
   cases hx:(d8 i).alive with
   | true=>rfl
   | false=>exact absurd ⟨hm,hx⟩ h0
 have da:∀ i,n<=i->r.h i = .none:=λi hi=>by simp[ie.h,List.getElem?_eq_none (show r.hb.length<=i by omega)]
 have lF:∀ i,i<n->ι'' (i+b)=ι' i/\ι''.o (i+b)=ι'.o i/\d8 (i+b)=(r.h i).sh b:=λi hi=>⟨hιn i hi,hιno i hi,gm i hi⟩
 have j0:∀ i,b<=i/\i<b+n->σ.h i = .none/\ι i=Option.none:=λi hi=>S.fresh i (hb i hi.1 (by omega));have dk:∀ i,b<=i/\i<b+n->∃ j,j<n/\i=j+b:=λi hi=>⟨i-b,by omega,by omega⟩
 have kX:∀ j,j<n->((r.hb++r.gv)[j]?).getD .none=r.h j:=λj hj=>by simp only[ie.h];rw[List.getElem?_append_left (by omega)]
 have Pw:∀ k,(r.hb++r.gv)[n+k]? = r.gv[k]?:=λk=>by rw[List.getElem?_append_right (by omega)];congr 1;omega
 have gM:∀ i,i∈cn->∃(j:Nat)(B B1:aR),cn[j]? = some i/\gb[j]? = some (hZ ι i B1)/\HB (σ.h i) B1/\r.gv[j]? = some B/\d8 i=Jx (σ.h i) B/\(B = .dead\/Yk B1 B/\ι' (n+j)=ι i/\ι'.o (n+j)=ι.o i/\BR w' (ml w w' F0 gb r ι') ι' r.h (n+j) B/\∀ k,ι i=some k->w'.shape? k=w.shape? k):=by
  intro i hm;obtain⟨j,hj⟩:=List.getElem?_of_mem hm;obtain⟨B1,h1,h2⟩:=G.get j _ hj;have mf:=(List.getElem?_eq_some_iff.1 hj).1;have hB:r.gv[j]? = some (r.gv[j]'(by omega)):=List.getElem?_eq_getElem (by omega);have h4:=vJ j _ _ hj hB;have h5:=P.gv j _ _ h1 hB;rw[<- hn]at h5;exact⟨j,_,B1,hj,h1,h2,hB,h4,h5⟩
 have nf:∀ i j j',cn[j]? = some i->cn[j']? = some i->j=j':=λi j j' h1 h2=>(List.getElem?_inj (List.getElem?_eq_some_iff.1 h1).1 gp).1 (h1.trans h2.symm);have dS:∀ i,i∈cn->(d8 i).alive=true->∃(j:Nat)(B B1:aR),cn[j]? = some i/\r.gv[j]? = some B/\d8 i=Jx (σ.h i) B/\HB (σ.h i) B1/\Yk B1 B/\ι' (n+j)=ι i/\ι'.o (n+j)=ι.o i/\BR w' (ml w w' F0 gb r ι') ι' r.h (n+j) B/\∀ k,ι i=some k->w'.shape? k=w.shape? k:=by
  intro i hm dO;obtain⟨j,B,B1,h1,h2,h3,h4,h5,h6⟩:=gM i hm
  rcases h6 with rfl | ⟨h6,h7,h8,h9,nh⟩
  ·rcases h3 with⟨e,sz,es,q1,_⟩ | ⟨e,sz,g,t,es,q1,_⟩
   ·rw[h5,q1]at dO;cases dO
   ·rw[h5,q1]at dO;cases dO
  ·exact⟨j,B,B1,h1,h4,h5,h3,h6,h7,h8,h9,nh⟩
 have j1:∀ id k,id∈b3->ι id=some k->k∈lb/\(σ.h id).own=true:=by
  intro id k hm hk;obtain⟨bk,cs,h1,h2,h3⟩:=jF id hm;rw[hk]at h2
  cases h2;exact⟨h1,by rw[h3];rfl⟩
 have iA:∀ k,k∈lb->∃ id,id∈b3/\ι id=some k:=by
  intro k hm;obtain⟨j,hj,ky⟩:=List.getElem_of_mem hm;have jm:j<b3.length:=by omega
  obtain⟨b',cs,h1,h2,h3⟩:=iz j _ (List.getElem?_eq_getElem jm);rw[List.getElem?_eq_getElem hj,ky]at h1
  cases h1;exact⟨_,List.getElem_mem jm,h2⟩
 have dX:∀ k,k<w.heap.size->k∉lb->¬ ZQ gb k->w'.heap[k]? = w.heap[k]?:=P.block;have iB:∀ k,Fz C w ι σ.h k->¬ ZQ gb k:=by
  intro k hk hg;obtain⟨id,h1,h2⟩:=G.mn.1 hg
  rcases h2 with h2 | ⟨p,h2⟩
  ·have:=hk.2.2.1 id h2;rw[ov id h1]at this
   cases this
  ·rw[hk.2.2.2]at h2;cases h2
 have i4:∀ k,ZQ gb k->C.fr k/\k<w.heap.size:=by
  intro k hg;obtain⟨id,h1,h2⟩:=G.mn.1 hg
  rcases h2 with h2 | ⟨p,h2⟩
  ·obtain⟨e,sz,m,es,h3⟩:=d7 id h1;obtain⟨h4,h5⟩:=S.eg id k h2;exact⟨h4.elim (λh=>h) λ⟨_,cs,h4⟩=>(by rw[h3]at h4;cases h4),h5⟩
  ·have L:=S.df k id p h2;exact⟨L.fr,L.lt⟩
 have gB:∀ k i,ZQ gb k->ι i=some k->i∈cn:=by
  intro k i hg hi;obtain⟨id,h1,h2⟩:=G.mn.1 hg;rw[JO S (.inl hi) h2];exact h1
 have fy:∀ k i p,ZQ gb k->ι.k k=some (i,p)->i∈cn:=by
  intro k i p hg hi;obtain⟨id,h1,h2⟩:=G.mn.1 hg;rw[JO S (.inr ⟨p,hi⟩) h2];exact h1
 have vK:∀ k,Fz C w ι σ.h k->k∉lb:=by
  intro k hk hm;obtain⟨id,h1,h2⟩:=iA k hm;have h3:=hk.2.2.1 id h2;rw[(j1 id k h1 h2).2]at h3
  cases h3
 have fG:∀ k i p,ι'.k k=some (i,p)->k<w.heap.size->ZQ gb k:=λk i p hk aW=>by
  obtain⟨_,_,h1,_⟩:=P.df k i p hk;exact h1.elim (λh=>by omega) (λh=>h)
 have EE:∀ k i p,ι.k k=some (i,p)->i∉cn->(r.al=true->i∉refs)->ι''.k k=some (i,p):=by
  intro k i p hk h1 h2;have L:=S.df k i p hk;have:ι'.k k=none:=by
   cases hx:ι'.k k with
   | none=>rfl
   | some z=>obtain⟨z,q⟩:=z;exact absurd (fy k i p (fG k z q hx L.lt) hk) h1
  rw[fj,nc];simp only[this,hk];rw[if_neg (λh=>h.elim h1 (λh=>h2 h.1 h.2))]
 have iC:∀ k i p,ι''.k k=some (i,p)->(∃ j,j<n/\i=j+b/\ι'.k k=some (j,p))\/(∃ j,cn[j]? = some i/\(d8 i).alive=true/\ι'.k k=some (n+j,p))\/(ι'.k k=none/\ι.k k=some (i,p)/\i∉cn/\(r.al=true->i∉refs)):=by
  intro k i p hk;rw[fj,nc]at hk;simp only at hk
  split at hk
  ·rename_i z q hz
   split at hk
   ·rename_i h1;cases hk;exact .inl ⟨z,h1,rfl,hz⟩
   ·rename_i h1
    split at hk
    rotate_left
    ·cases hk
    rename_i x hx
    split at hk
    rotate_left
    ·cases hk
    rename_i dO
    cases hk;exact .inr (.inl ⟨z-n,hx,dO,by rw[hz];congr 2;omega⟩)
  ·rename_i hz
   split at hk
   rotate_left
   ·cases hk
   rename_i y q hy
   split at hk
   ·cases hk
   ·rename_i h1
    cases hk;simp only[not_or,not_and]at h1;exact .inr (.inr ⟨hz,hy,h1.1,h1.2⟩)
 have lG:∀ k i p,ι.k k=some (i,p)->i∉cn->w'.heap[k]? = w.heap[k]?:=λk i p hk h1=>dX k (S.df k i p hk).lt (λhm=>by
  obtain⟨id,_,h2⟩:=iA k hm;exact(S.df k i p hk).ne id h2) (λhg=>h1 (fy k i p hg hk))
 have jG:∀ k i,ι i=some k->i∉cn->i∉b3->w'.heap[k]? = w.heap[k]?:=λk i hk h1 h2=>dX k (S.eg i k hk).2 (λhm=>by
  obtain⟨id,h3,h4⟩:=iA k hm;exact h2 (by rw[S.inj i id k hk h4];exact h3)) (λhg=>h1 (gB k i hg hk))
 have bU:∀ i,¬ (b<=i/\i<b+n)->i∉b3->i∉cn->(r.al=true->i∉refs)->Rest w w' ι ι'' i/\d8 i=σ.h i:=λi h1 h2 h3 h4 =>
  ⟨⟨hιo i h1 h3,hιoo i h1,λk hk=>jG k i hk h3 h2,λk p hk=>⟨EE k i p hk h3 h4,lG k i p hk h3⟩⟩,by rw[hold i h1 h2 h3,if_neg (λh=>h4 h.1 h.2)]⟩
 have hF:∀ k,Fz C w ι σ.h k->Fz C w' ι'' d8 k/\w'.heap[k]? = w.heap[k]?:=by
  intro k hk;refine⟨⟨by have:=hk.1;have:=P.size;omega,hk.2.1,λi hi=>?_,?_⟩,dX k hk.1 (vK k hk) (iB k hk)⟩
  ·by_cases hc:b<=i/\i<b+n
   ·obtain⟨j,hj,rfl⟩:=dk i hc;rw[hιn j hj]at hi
    rcases(P.eg j k hi).1 with h5 | h5
    ·have:=hk.1;omega
    ·exact absurd h5 (iB k hk)
   ·have hi:=(hιs i k hc hi).1;have cr:=hk.2.2.1 i hi;have iZ:i∉b3:=λhm=>by rw[(j1 i k hm hi).2]at cr;cases cr
    have hnh:i∉cn:=λhm=>by rw[ov i hm]at cr;cases cr
    rw[hold i hc iZ hnh]
    split
    ·cases hx:(jt (σ.h i)).own with
     | false=>rfl
     | true=>rw[OS _ hx]at cr;cases cr
    ·exact cr
  ·cases hx:ι''.k k with
   | none=>rfl
   | some z =>
    obtain⟨z,q⟩:=z
    rcases iC k z q hx with⟨j,_,_,h1⟩ | ⟨j,_,_,h1⟩ | ⟨_,h1,_⟩
    ·exact absurd (fG k _ _ h1 hk.1) (iB k hk)
    ·exact absurd (fG k _ _ h1 hk.1) (iB k hk)
    ·rw[hk.2.2.2]at h1;cases h1
 have hg:∀ i,cY w w' ι ι'' σ.h d8 i:=by
  intro i;by_cases hc:b<=i/\i<b+n
  ·exact .inl (j0 i hc).1
  ·by_cases hl:i∈b3
   ·obtain⟨j,hj,ky⟩:=List.getElem_of_mem hl;obtain⟨b',cs,h1,h2,h3⟩:=iz j _ (List.getElem?_eq_getElem hj);have jm:j<r.bx.length:=by omega
    have h4:=fu j _ _ (List.getElem?_eq_getElem hj) (List.getElem?_eq_getElem jm);obtain⟨_,h6,e,bm,h7,h8⟩:=P.bx j b' _ h1 (List.getElem?_eq_getElem jm);rw[ky]at h2 h3 h4;unfold cY;right;right;refine⟨hιo i hc (lE i hl),hιoo i hc,?_,λk hk=>?_,λg h=>?_⟩
    ·rw[h3,h4];have dq:=S.fh i;rw[h3]at dq
     cases dq with
     | box bk et vs _ bY _ mE fP _ _ =>
      rw[h2]at bY;cases bY;unfold World.shape? at h6;rw[mE,h7]at h6;simp only[Option.some.injEq,Prod.mk.injEq]at h6;show(r.bx[j]).length=cs.length;rw[<- h8.size,h6.2,fP]
    ·rw[h2]at hk;cases hk;exact h6
    ·rw[h3]at h;cases h
   ·by_cases hh:i∈cn
    ·cases dO:(d8 i).alive with
     | false =>
      obtain⟨j,B,B1,h1,h2,h3,h4,h5,h6⟩:=gM i hh
      rcases qk h3 (h6.imp (λh=>h) (λh=>h.1)) with q | ⟨e,sz,m,es,bP,m',q1,q2,_⟩ | ⟨e,sz,es,bP,m',q1,q2,q3,_⟩
      ·exact .inr (.inl (h5.trans q))
      ·rw[h5,q2]at dO;cases dO
      ·rw[h5,q3,q2]at dO;cases dO
     | true =>
      obtain⟨j,B,B1,h1,h2,h3,h4,h5,h6,h7,h8,h9⟩:=dS i hh dO;unfold cY;right;right;refine⟨hιa i hc dO,hιoo i hc,?_,h9,λg k1 k2=>?_⟩
      ·rcases qk h4 (.inr h5) with q | ⟨e,sz,m,es,bP,m',q1,q2,q3,q4,_⟩ | ⟨e,sz,es,bP,m',q1,q2,q3,q4,_,q5⟩
       ·rw[h3,q]at dO;cases dO
       ·rw[h3,q2,q1];exact⟨rfl,rfl,q3,q4⟩
       ·rw[h3,q3,q2,q1];exact⟨rfl,rfl,q4,q5⟩
      ·exfalso
       rcases qk h4 (.inr h5) with q | ⟨e,sz,m,es,bP,m',q1,q2,q3,q4,_,q6⟩ | ⟨e,sz,es,bP,m',q1,q2,q3,q4,q5,_⟩
       ·rw[h3,q]at dO;cases dO
       ·rw[q1]at k1;rw[h3,q2]at k2
        rcases q6 with⟨_,rfl,_⟩ | ⟨g1,t1,g2,t2,rfl,rfl,_⟩
        ·cases k1
        ·simp only[aR.gen,Mo.gen,Option.some.injEq]at k1 k2;omega
       ·rw[q1]at k1;cases k1
    ·by_cases hr:r.al=true/\i∈refs
     ·unfold cY;rw[hold i hc hl hh,if_pos hr];have Px:∀ k,ι i=some k->w'.shape? k=w.shape? k:=λk hk=>by
       unfold World.shape?;rw[jG k i hk hh hl]
      cases hx:σ.h i with
      | none=>exact .inl rfl
      | dead=>exact .inr (.inl rfl)
      | box cs=>exact .inr (.inr ⟨hιo i hc hh,hιoo i hc,rfl,Px,λg h=>by cases h⟩)
      | sl e sz m es=>exact .inr (.inr ⟨hιo i hc hh,hιoo i hc,⟨rfl,rfl,rfl,Mo.ob m⟩,Px,λg _ h=>by cases h⟩)
     ·obtain⟨h1,h2⟩:=bU i hc hl hh (λha hm=>hr ⟨ha,hm⟩);exact h1.gD h2
 have j2:∀ k,ml w w' F0 gb r ι' k->Fz C w' ι'' d8 k:=by
  intro k ⟨h1,h2,h3,h4⟩;have ni:∀ i,¬ (b<=i/\i<b+n)->ι'' i=some k->(d8 i).own=false:=by
   intro i hc jA;obtain⟨hi,dO⟩:=hιs i k hc jA;by_cases hh:i∈cn
   ·obtain⟨j,B,B1,g1,g2,g3,g4,g5,g6,_⟩:=dS i hh (dO hh);have:=h3 (n+j) (g6.trans hi);rw[Pw,g2]at this;simp only[Option.getD_some]at this
    rcases qk g4 (.inr g5) with q | ⟨e,sz,m,es,bP,m',q1,q2,q3,q4,_,q6⟩ | ⟨e,sz,es,bP,m',q1,q2,q3,q4,_⟩
    ·rw[g3,q];rfl
    ·rcases q6 with⟨rfl,_,_⟩ | ⟨g,t,uY,t1,_,_,rfl⟩
     ·rw[g3,q2];exact this
     ·cases this
    ·rw[g3,q3];exact this
   rcases h2 with⟨ha,h2⟩ | h2 | h2
   ·have hz:=(vE ha k h2).2.2.1 i hi;rw[Yw]at hz;have iZ:i∉b3:=λhm=>by
     obtain⟨_,cs,_,_,h6⟩:=jF i hm;rw[h6]at hz
     split at hz <;> cases hz
    rw[hold i hc iZ hh]
    split
    ·rename_i EF;rw[if_pos EF.2]at hz;exact hz
    ·rename_i EF;rw[if_neg (λhm=>EF ⟨ha,hm⟩)]at hz;exact hz
   ·have:=(S.eg i k hi).2;omega
   ·exact absurd (gB k i h2 hi) hh
  refine⟨h1,?_,λi hi=>?_,?_⟩
  ·rcases h2 with⟨ha,h2⟩ | h2 | h2
   ·exact(vE ha k h2).2.1
   ·have:=S.dD.size;exact .inr (.inl (by omega))
   ·exact .inr (i4 k h2).1
  ·by_cases hc:b<=i/\i<b+n
   ·obtain⟨j,hj,rfl⟩:=dk i hc;rw[hιn j hj]at hi;rw[gm j hj];have:=h3 j hi;rw[kX j hj]at this;rw[QRt];exact this
   ·exact ni i hc hi
  ·cases hx:ι''.k k with
   | none=>rfl
   | some z =>
    obtain⟨z,q⟩:=z
    rcases iC k z q hx with⟨j,_,_,g1⟩ | ⟨j,_,_,g1⟩ | ⟨_,g1,g2,g3⟩
    ·rw[h4]at g1;cases g1
    ·rw[h4]at g1;cases g1
    ·have L:=S.df k z q g1
     rcases h2 with⟨ha,h2⟩ | h2 | h2
     ·have:=(vE ha k h2).2.2.2;have h5:=Io.eK.2 ⟨g1,g3 ha⟩;rw[this]at h5
      cases h5
     ·have:=L.lt;omega
     ·exact absurd (fy k z q h2 g1) g2
 have iY:∀ p j k,p<n->¬ (b<=j/\j<b+n)->ι' p=some k->ι'' j=some k->False:=by
  intro p j k hpn hc hp hj;obtain⟨h1,h2⟩:=hιs j k hc hj
  rcases(P.eg p k hp).1 with h3 | h3
  ·have:=(S.eg j k h1).2;omega
  ·have h4:=gB k j h3 h1;obtain⟨i,B,B1,_,_,_,_,_,g6,_⟩:=dS j h4 (h2 h4);have:=P.inj p (n+i) k hp (g6.trans h1);omega
 have j3:∀ k i p,ι'.k k=some (i,p)->∀ j,ι'' j≠some k:=by
  intro k i p hk j hj;obtain⟨_,_,h1,h2,h3⟩:=P.df k i p hk;by_cases hc:b<=j/\j<b+n
  ·obtain⟨q,hq,rfl⟩:=dk j hc;rw[hιn q hq]at hj;exact h3 q hj
  ·obtain⟨h4,h5⟩:=hιs j k hc hj
   rcases h1 with h1 | h1
   ·have:=(S.eg j k h4).2;omega
   ·have h6:=gB k j h1 h4;obtain⟨q,B,B1,_,_,_,_,_,g6,_⟩:=dS j h6 (h5 h6);exact h3 (n+q) (g6.trans h4)
 refine⟨d8,ι'',lD.symm,S.eh ?_ hF hg (λi cs hx=>?_) (λi=>?_) (λi j k hi hj=>?_) (λi k hi=>?_) (λi hi=>?_) (λi k hi=>?_) (λk i p hk=>?_),(P.val.shift lF da).up j2,hF,hg,λi h1 h2 h3 h4=>bU i (λh=>h1 ⟨h.1,by omega⟩) h2 h3 h4⟩
 ·refine⟨P.os.trans S.dD.os,P.tape.trans S.dD.tape,P.output.trans S.dD.output,Nat.le_trans S.dD.size P.size,λk hk hX=>?_⟩;rw[dX k (by have:=S.dD.size;omega) (λhm=>?_) (λhm=>?_)]
  ·exact S.dD.block k hk hX
  ·obtain⟨id,h1,h2⟩:=iA k hm
   rcases(S.eg id k h2).1 with h3 | ⟨h3,_⟩
   ·exact h3.dD.elim (λh=>by omega) hX
   ·exact hX h3
  ·exact(i4 k hm).1.dD.elim (λh=>by omega) hX
 ·by_cases hc:b<=i/\i<b+n
  ·rw[(S.fresh i (hb i hc.1 (by omega))).1]at hx;cases hx
  ·by_cases hl:i∈b3
   ·obtain⟨j,hj,ky⟩:=List.getElem_of_mem hl;have jm:j<r.bx.length:=by omega
    have h4:=fu j _ _ (List.getElem?_eq_getElem hj) (List.getElem?_eq_getElem jm);rw[ky]at h4;rw[h4];simp
   ·by_cases hh:i∈cn
    ·obtain⟨e,sz,m,es,h3⟩:=d7 i hh;rw[hx]at h3
     cases h3
    rw[hold i hc hl hh,hx]
    split <;> simp[jt]
 ·by_cases hc:b<=i/\i<b+n
  ·right;obtain⟨j,hj,rfl⟩:=dk i hc;rw[gm j hj];refine(P.fh j (by omega)).shift j2 lF da hj (λk p hk=>?_);rw[fj,nc];simp only[hk];rw[if_pos hj]
  ·by_cases hl:i∈b3
   ·right;obtain⟨j,hj,ky⟩:=List.getElem_of_mem hl;obtain⟨b',cs,h1,h2,h3⟩:=iz j _ (List.getElem?_eq_getElem hj);have jm:j<r.bx.length:=by omega
    have h4:=fu j _ _ (List.getElem?_eq_getElem hj) (List.getElem?_eq_getElem jm);obtain⟨h5,_,e,bm,h7,h8⟩:=P.bx j b' _ h1 (List.getElem?_eq_getElem jm);rw[ky]at h2 h3 h4;have vL:=S.fh i;rw[h3]at vL;rw[h4]
    cases vL with
    | box _ _ _ _ _ eR =>
    refine .box b' e bm _ ((hιo i hc (lE i hl)).trans h2) ((hιoo i hc).trans eR) h7 h8.size h8.one (λk v x hk hx=>?_);have hx5:=List.all_eq_true.1 h5 x (List.mem_of_getElem? hx)
    cases x with
    | c d=>exact(h8.vr k v _ hk hx).data j2
    | _=>simp[mj]at hx5
   ·by_cases hh:i∈cn
    ·right
     cases dO:(d8 i).alive with
     | false =>
      obtain⟨j,B,B1,h1,h2,h3,h4,h5,h6⟩:=gM i hh
      rcases qk h3 (h6.imp (λh=>h) (λh=>h.1)) with q | ⟨e,sz,m,es,bP,m',q1,q2,_⟩ | ⟨e,sz,es,bP,m',q1,q2,q3,_⟩
      ·rw[h5,q];exact .dead
      ·rw[h5,q2]at dO;cases dO
      ·rw[h5,q3,q2]at dO;cases dO
     | true =>
      obtain⟨j,B,B1,h1,h2,h3,h4,h5,h6,h7,h8,h9⟩:=dS i hh dO;have hιi:=hιa i hc dO;have zl:cn[n+j-n]? = some i:=by rw[show n+j-n=j by omega];exact h1
      have jU:∀ k p,ι'.k k=some (n+j,p)->ι''.k k=some (i,p):=λk p hk=>by
       rw[fj,nc];simp only[hk];rw[if_neg (by omega),zl];simp only[dO,if_true]
      have fin:∀(ve:TypeId)(e sz:Nat)(m m':Mo)(bP:List (List D)),B = .sl ve sz m bP->(m'.eY=true->m.eY=true/\ve=e)->(∀(k:Nat) p q v d,RM w' (ml w w' F0 gb r ι') ι' (n+j) m p q v d->RM w' (Fz C w' ι'' d8) ι'' i m' p q v d)->
        BR w' (Fz C w' ι'' d8) ι'' d8 i (.sl e sz m' bP):=by
       intro ve e sz m m' bP ox ht hRM;rw[ox]at h8
       cases h8 with
       | slnil _ _ _ hz hi=>exact .slnil e sz m' hz (hιi.trans (h6.symm.trans hi))
       | sl bk _ e1 _ _ _ cur hz hi hb eN hle cW bV hv =>
        refine .sl bk e e1 sz m' bP cur hz (hιi.trans (h6.symm.trans hi)) hb (λh=>?_) (by rw[hιoo i hc,<- h7];exact hle) cW bV (λp q x d hx hd=>?_)
        ·obtain⟨k1,k2⟩:=ht h;rw[<- k2,hιoo i hc,<- h7];exact eN k1
        ·obtain⟨u,k1,k2⟩:=hv p q x d hx hd;exact⟨u,by rw[hιoo i hc,<- h7];exact k1,hRM 0 p q u d k2⟩
      rcases qk h4 (.inr h5) with q | ⟨e,sz,m,es,bP,m',q1,q2,q3,q4,_,q6⟩ | ⟨e,sz,es,bP,m',q1,q2,q3,q4,q5,_⟩
      ·rw[h3,q];exact .dead
      ·rw[h3,q2]
       rcases q6 with⟨ox,_,jl⟩ | ⟨g,t,uY,t1,_,rfl,ox⟩
       ·refine fin e e sz m' m' bP ox (λh=>⟨h,rfl⟩) (λ_ p q v d h=>?_)
        cases m' with
        | dp=>cases jl
        | _=>exact Rd.mono (λb hb=>⟨j2 b hb,rfl⟩) h
       ·exact fin 0 e sz (.dp uY t1 []) (.dp (g+1) false []) bP ox (λh=>by cases h) (λ_ p q v d h=>⟨h.1,λ_=>RL.map (h.2 (by simp)) _ (λ(k:Nat)(r':cD) hk=>⟨jU k _ hk,rfl⟩)⟩)
      ·rw[h3,q3,q2];refine fin e e sz m' m' bP q2 (λh=>⟨h,rfl⟩) (λ_ p q v d h=>?_)
       cases m' with
       | dp=>cases q5
       | _=>exact Rd.mono (λb hb=>⟨j2 b hb,rfl⟩) h
    ·by_cases hr:r.al=true/\i∈refs
     ·right;have ho:=hold i hc hl hh;rw[if_pos hr]at ho;rw[ho];obtain⟨e,sz,m,es,hx⟩:=hrefs hr.1 i hr.2;have og:=dV hr.1 i hr.2 e sz m es hx;have vL:=S.fh i;rw[hx]at vL ⊢
      cases vL with
      | slnil _ _ _ hz hi=>exact .slnil e sz .fz hz ((hιo i hc hh).trans hi)
      | sl bk _ e1 _ _ _ cur hz hi hb eN hle cW bV hv =>
       refine .sl bk e e1 sz .fz es cur hz ((hιo i hc hh).trans hi) ((jG bk i hi hh hl).trans hb) (λh=>by cases h) (by rw[hιoo i hc];exact hle) cW bV (λp q x d mQ hd=>?_);obtain⟨u,k1,k2⟩:=hv p q x d mQ hd;have k3:Rd w (λk=>Fz C w ι σ.h k\/∃ p,ι.k k=some (i,p)) u d:=k2.rd og (λb hb=>.inl hb) (λb p hk=>.inr ⟨p,hk⟩);refine⟨u,by rw[hιoo i hc];exact k1,Rd.mono (λk hk=>?_) k3⟩
       rcases hk with hk | ⟨p',hk⟩
       ·exact hF k hk
       ·have L:=S.df k i p' hk;refine⟨⟨by have:=L.lt;have:=P.size;omega,.inr L.fr,λz hz=>?_,?_⟩,lG k i p' hk hh⟩
        ·exfalso;by_cases Py:b<=z/\z<b+n
         ·obtain⟨q',hq',rfl⟩:=dk z Py;rw[hιn q' hq']at hz
          rcases(P.eg q' k hz).1 with h5 | h5
          ·have:=L.lt;omega
          ·exact hh (fy k i p' h5 hk)
         ·exact L.ne z (hιs z k Py hz).1
        ·cases hx3:ι''.k k with
         | none=>rfl
         | some zz =>
          obtain⟨zz,qq⟩:=zz
          rcases iC k zz qq hx3 with⟨j,_,_,g1⟩ | ⟨j,_,_,g1⟩ | ⟨_,g1,_,g3⟩
          ·exact absurd (fy k i p' (fG k _ _ g1 L.lt) hk) hh
          ·exact absurd (fy k i p' (fG k _ _ g1 L.lt) hk) hh
          ·rw[hk]at g1;cases g1;exact absurd hr.2 (g3 hr.1)
     ·left;obtain⟨h1,h2⟩:=bU i hc hl hh (λha hm=>hr ⟨ha,hm⟩);exact⟨h2,h1⟩
 ·by_cases h1:b<=i/\i<b+n
  ·obtain⟨p,hp,rfl⟩:=dk i h1;rw[hιn p hp]at hi;by_cases h2:b<=j/\j<b+n
   ·obtain⟨q,hq,rfl⟩:=dk j h2;rw[hιn q hq]at hj;rw[P.inj p q k hi hj]
   ·exact(iY p j k hp h2 hi hj).elim
  ·by_cases h2:b<=j/\j<b+n
   ·obtain⟨q,hq,rfl⟩:=dk j h2;rw[hιn q hq]at hj;exact(iY q i k hq h1 hj hi).elim
   ·exact S.inj i j k (hιs i k h1 hi).1 (hιs j k h2 hj).1
 ·by_cases h1:b<=i/\i<b+n
  ·obtain⟨p,hp,rfl⟩:=dk i h1;rw[hιn p hp]at hi;have h2:=P.eg p k hi;have:=S.dD.size
   rcases h2.1 with h5 | h5
   ·exact⟨.inl (.inl (by omega)),h2.2.1⟩
   ·exact⟨.inl (i4 k h5).1,h2.2.1⟩
  ·have hi:=(hιs i k h1 hi).1;obtain⟨h2,h3⟩:=S.eg i k hi;refine⟨h2.imp (λh=>h) λ⟨hX,cs,dI⟩=>⟨hX,?_⟩,by have:=P.size;omega⟩;by_cases hl:i∈b3
   ·obtain⟨j,hj,ky⟩:=List.getElem_of_mem hl;have jm:j<r.bx.length:=by omega
    have h4:=fu j _ _ (List.getElem?_eq_getElem hj) (List.getElem?_eq_getElem jm);rw[ky]at h4;exact⟨_,h4⟩
   ·by_cases hh:i∈cn
    ·obtain⟨e,sz,m,es,h5⟩:=d7 i hh;rw[dI]at h5
     cases h5
    rw[hold i h1 hl hh,dI]
    split <;> exact⟨_,rfl⟩
 ·obtain⟨h1,h2⟩:=bN i hi;have hc:¬ (b<=i/\i<b+n):=λh=>h2 ⟨h.1,by omega⟩;have hf:=S.fresh i h1;have hh:i∉cn:=λhm=>by
   obtain⟨e,sz,m,es,h3⟩:=d7 i hm;rw[hf.1]at h3
   cases h3
  rw[hιo i hc hh];have hl:i∉b3:=λhm=>by
   obtain⟨_,cs,_,_,h6⟩:=jF i hm;rw[hf.1]at h6
   cases h6
  rw[hold i hc hl hh,hf.1];refine⟨?_,hf.2⟩
  split <;> rfl
 ·by_cases h1:b<=i/\i<b+n
  ·obtain⟨p,hp,rfl⟩:=dk i h1;rw[hιn p hp]at hi;rw[gm p hp];have:=P.live p k hi;rw[kX p hp]at this;exact QPQ this
  ·obtain⟨hi,mh⟩:=hιs i k h1 hi;have:=S.live i k hi;by_cases hl:i∈b3
   ·obtain⟨j,hj,ky⟩:=List.getElem_of_mem hl;have jm:j<r.bx.length:=by omega
    have h4:=fu j _ _ (List.getElem?_eq_getElem hj) (List.getElem?_eq_getElem jm);rw[ky]at h4;rw[h4];simp
   ·by_cases hh:i∈cn
    ·exact QHh (mh hh)
    rw[hold i h1 hl hh]
    split
    ·exact QVE this
    ·exact this
 ·rcases iC k i p hk with⟨j,hj,rfl,h1⟩ | ⟨j,hj,dO,h1⟩ | ⟨h0,h1,h2,h3⟩
  ·obtain⟨g1,⟨e,sz,g,t,H,es,g2⟩,g3,g4,g5⟩:=P.df k j p h1;refine⟨g1,?_,?_,g4,j3 k j p h1⟩
   ·have:=kX j hj;rw[g2]at this;rw[gm j hj,<- this];exact⟨_,_,_,_,_,_,rfl⟩
   ·rcases g3 with g3 | g3
    ·have:=S.dD.size;exact .inl (by omega)
    ·exact(i4 k g3).1
  ·obtain⟨g1,⟨e,sz,g,t,H,es,g2⟩,g3,g4,g5⟩:=P.df k _ p h1;refine⟨g1,?_,?_,g4,j3 k _ p h1⟩
   ·have hm:i∈cn:=List.mem_of_getElem? hj;obtain⟨j',B,B1,k1,k2,k3,k4,k5,_⟩:=dS i hm dO;have:=nf i j j' hj k1;subst this;rw[Pw,k2]at g2
    cases g2
    rcases qk k4 (.inr k5) with q | ⟨e',bc,m,eO,bP,m',q1,q2,q3,q4,_,q6⟩ | ⟨e',bc,eO,bP,m',q1,q2,q3,q4,q5,_⟩
    ·rw[k3,q]at dO;cases dO
    ·rcases q6 with⟨ox,_,jl⟩ | ⟨g',t',uY,t1,_,rfl,ox⟩
     ·cases ox;cases jl
     ·rw[k3,q2];exact⟨_,_,_,_,_,_,rfl⟩
    ·cases q2;cases q5
   ·rcases g3 with g3 | g3
    ·have:=S.dD.size;exact .inl (by omega)
    ·exact(i4 k g3).1
  ·have L:=S.df k i p h1;obtain⟨e,sz,g,t,H,es,iW⟩:=L.dp;have hc:¬ (b<=i/\i<b+n):=λhc=>by rw[(j0 i hc).1]at iW;cases iW
   have hl:i∉b3:=λhm=>by
    obtain⟨_,cs,_,_,h6⟩:=jF i hm;rw[iW]at h6
    cases h6
   refine⟨L.pn,by rw[(bU i hc hl h2 h3).2];exact L.dp,L.fr,by have:=L.lt;have:=P.size;omega,λj hj=>?_⟩;by_cases Pz:b<=j/\j<b+n
   ·obtain⟨q,hq,rfl⟩:=dk j Pz;rw[hιn q hq]at hj
    rcases(P.eg q k hj).1 with h5 | h5
    ·have:=L.lt;omega
    ·exact h2 (fy k i p h5 h1)
   ·exact L.ne j (hιs j k Pz hj).1
end
end Go.Proofs.YtdplaepmjogjjaaGreat.Am
namespace Go.Proofs.YtdplaepmjogjjaaGreat.Am
open Go Go.RowKit
section
variable {C:Ctx} {U U':Nat->Prop} {σ:St} {a:Act} {w:World} {ι:Io} {o:Oper} {Q:Exit->Act->World->Prop} {Γ:ez} {b:Nat} {e:fi}
theorem PA(hΓ:JS C.P Γ)(S:Sat C U σ a w ι){N:Nat}(hb:∀ i,b<=i->i<b+N->U i)(bN:∀ i,U' i->U i/\¬ (b<=i/\i<b+N)){f:FuncId}{as:Array Value}{xs vs:List AV}{r:ie}
  (hl:as.toList.length=xs.length) (f6:∀(k:Nat)(v:Value)(x:AV),as.toList[k]? = some v->xs[k]? = some x->VR w (Fz C w ι σ.h) ι σ.h v x) (qm:AV.dT σ.h (Γ.md f) xs=some vs) (hr:Γ f vs=some r) (zt:r.hb.length<=N)
  (dU:((cl (Γ.md f) xs).flatMap AV.b8).Nodup) (gp:((cI (Γ.md f) xs).flatMap AV.refs).Nodup) (mo:∀ id,id∈(cI (Γ.md f) xs).flatMap AV.refs->id∉(cl (Γ.md f) xs).flatMap AV.refs) :
  Calls C.P f as w λen w'=>∃ v,en = .returned v/\∃ d8 ι'',bp σ.h (YJ b (r.hb.map (aR.sh b))++YY ((cl (Γ.md f) xs).flatMap AV.b8) r.bx++Yr σ.h ((cI (Γ.md f) xs).flatMap AV.refs) r.gv ++
    (if r.al then eT σ.h ((cl (Γ.md f) xs).flatMap AV.refs) else []))=d8/\Sat C U' ⟨σ.t,d8,σ.nx⟩ a w' ι''/\VR w' (Fz C w' ι'' d8) ι'' d8 v (r.v.sh b)/\(∀ k,Fz C w ι σ.h k->Fz C w' ι'' d8 k/\w'.heap[k]? = w.heap[k]?)/\(∀ i,cY w w' ι ι'' σ.h d8 i)/\
    (∀ i,¬ (b<=i/\i<b+N)->i∉(cl (Γ.md f) xs).flatMap AV.b8->i∉(cI (Γ.md f) xs).flatMap AV.refs->(r.al=true->i∉(cl (Γ.md f) xs).flatMap AV.refs)->Rest w w' ι ι'' i/\d8 i=σ.h i):=by
 obtain⟨DD,qn⟩:∃ DD,DD=cl (Γ.md f) xs:=⟨_,rfl⟩
 obtain⟨HH,oy⟩:∃ HH,HH=(cI (Γ.md f) xs).flatMap AV.refs:=⟨_,rfl⟩
 rw[<- qn]at dU mo;rw[<- oy]at gp mo;rw[<- qn,<- oy];obtain⟨lb0,gb0,_,G0,_,_,_,dV⟩:=zr S (F0:=λ_=>True) (λ_ _=>trivial) (Γ.md f) as.toList xs vs hl f6 qm (λ_ _ _ _ _=>trivial) (by rw[<- qn];exact dU) (by rw[<- oy];exact gp);rw[<- oy]at G0;rw[<- qn]at dV;have vM:∀ id,id∈HH->(∃ e sz m es,σ.h id = .sl e sz m es)/\(σ.h id).own=true:=λid hm=>G0.sl hm;have key:∃ F0:Nat->Prop,(∀ k,Fz C w ι σ.h k->F0 k)/\(∀ id k,id∈DD.flatMap AV.refs->(∃ e sz m es,σ.h id = .sl e sz m es)->Has ι id k->F0 k)/\
   (∀ k,F0 k->k<w.heap.size/\(∀ id,ι id=some k->(∀ cs,σ.h id≠.box cs))/\∀ id,id∈HH->¬ Has ι id k)/\(r.al=true->∀ k,F0 k->Fz C w (ι.loose (DD.flatMap AV.refs)) (bp σ.h (eT σ.h (DD.flatMap AV.refs))) k):=by
  cases ha:r.al
  ·refine⟨λk=>k<w.heap.size/\(∀ id,ι id=some k->(∀ cs,σ.h id≠.box cs))/\∀ id,id∈HH->¬ Has ι id k,λk hk=>⟨hk.1,λid hi cs hh=>?_,λid hm lH=>?_⟩,λid k a9 ⟨e,sz,m,es,hh⟩ hi=>?_,λk hk=>hk,λh=>by cases h⟩
   ·have:=hk.2.2.1 id hi;rw[hh]at this
    cases this
   ·rcases lH with h1 | ⟨p,h1⟩
    ·have:=hk.2.2.1 id h1;rw[(vM id hm).2]at this
     cases this
    ·rw[hk.2.2.2]at h1;cases h1
   ·have aW:k<w.heap.size:=by
     rcases hi with hi | ⟨p,hi⟩
     ·exact(S.eg id k hi).2
     ·exact(S.df k id p hi).lt
    refine⟨aW,λb7 bY cs b9=>?_,λb7 hm lH=>?_⟩
    ·have:=JO S hi (.inl bY);subst this;rw[hh]at b9;cases b9
    ·have:=JO S hi lH;subst this;exact mo _ hm a9
  ·obtain⟨_,hF⟩:=S.freeze (DD.flatMap AV.refs) dV;have vI:∀ id k,id∈DD.flatMap AV.refs->(∃ e sz m es,σ.h id = .sl e sz m es)->Has ι id k->Fz C w (ι.loose (DD.flatMap AV.refs)) (bp σ.h (eT σ.h (DD.flatMap AV.refs))) k:=by
    intro id k a9 ln hi;have jw:(ι.loose (DD.flatMap AV.refs)).k k=none:=by
     cases fj:(ι.loose (DD.flatMap AV.refs)).k k with
     | none=>rfl
     | some z =>
      obtain⟨z,q⟩:=z;obtain⟨k1,k2⟩:=Io.eK.1 fj;have:=JO S hi (.inr ⟨q,k1⟩);subst this;exact absurd a9 k2
    rcases hi with hi | ⟨p,hi⟩
    ·obtain⟨h1,h2⟩:=S.eg id k hi;obtain⟨e,sz,m,es,hh⟩:=ln;refine⟨h2,.inr (h1.elim (λh=>h) λ⟨_,cs,h3⟩=>by rw[hh]at h3;cases h3),λb7 bY=>?_,jw⟩;have:=S.inj b7 id k bY hi;subst this;rw[Yw,if_pos a9,hh];rfl
    ·have L:=S.df k id p hi;exact⟨L.lt,.inr L.fr,λi hi=>absurd hi (L.ne i),jw⟩
   refine⟨Fz C w (ι.loose (DD.flatMap AV.refs)) (bp σ.h (eT σ.h (DD.flatMap AV.refs))),hF,vI,λk hk=>⟨hk.1,λid hi cs hh=>?_,λid hm lH=>?_⟩,λ_ k hk=>hk⟩
   ·have:=hk.2.2.1 id hi;rw[Yw,hh]at this
    split at this <;> cases this
   ·rcases lH with h1 | ⟨p,h1⟩
    ·have:=hk.2.2.1 id h1;rw[Yw,if_neg (mo id hm),(vM id hm).2]at this
     cases this
    ·have h2:=Io.eK.2 ⟨h1,mo id hm⟩;rw[hk.2.2.2]at h2
     cases h2
 obtain⟨F0,k1,k2,k3,k4⟩:=key;obtain⟨lb,gb,a1,G,a2,a3,a4,a5⟩:=zr S k1 (Γ.md f) as.toList xs vs hl f6 qm (by rw[<- qn];exact k2) (by rw[<- qn];exact dU) (by rw[<- oy];exact gp);rw[<- qn]at a2 a3 a4 a5;rw[<- oy]at G;have vE:∀ k,F0 k->k<w.heap.size/\k∉lb/\¬ ZQ gb k:=by
  intro k hk;obtain⟨h1,h2,h3⟩:=k3 k hk;refine⟨h1,λhm=>?_,λhg=>?_⟩
  ·obtain⟨j,hj,ky⟩:=List.getElem_of_mem hm;have jm:j<(DD.flatMap AV.b8).length:=by omega
   obtain⟨b',cs,h3,h4,h5⟩:=a3 j _ (List.getElem?_eq_getElem jm);rw[List.getElem?_eq_getElem hj,ky]at h3
   cases h3;exact h2 _ h4 cs h5
  ·obtain⟨id,h4,h5⟩:=G.mn.1 hg;exact h3 id h4 h5
 have qp:=hΓ f vs r hr w F0 as lb gb a1 vE;refine qp.mono λen w' ⟨v,ι',he,P⟩=>?_;subst he;exact⟨v,rfl,S.called (refs:=DD.flatMap AV.refs) hb bN zt k4 (λ_=>a4) (λ_=>a5) dU a2 a3 gp G mo P⟩
theorem PB{ms:List AM}{xs:List AV}{id g i j:Nat}{r:List AV}(h:pS ms xs=some (id,g,i,j,r)):∃ gL d,ms = .p::gL/\xs = .b d id g [(i,j)]::r/\gL.all (λm=>!m.h)=true:=by
 unfold pS at h
 split at h
 rotate_left
 ·cases h
 split at h
 ·cases h;exact⟨_,_,rfl,rfl,by assumption⟩
 ·cases h
theorem PC{h:Nat->aR}:∀ {ms:List AM} {xs:List AV},ms.all (λm=>!m.h)=true->xs.all ir=true->(AV.dT h ms xs=some xs\/ms.length<xs.length/\AV.dT h ms xs=some xs\/xs.length<ms.length/\AV.dT h ms xs=some xs)/\cI ms xs=[]/\cl ms xs=xs
 | [],xs,_,hx=>by
  refine⟨.inl ?_,rfl,rfl⟩;simp only[AV.dT]
  induction xs with
  | nil=>rfl
  | cons x xs ih =>
   simp only[List.all_cons,Bool.and_eq_true]at hx;have:=ih hx.2
   cases x with
   | c d=>simp only[AV.gZ,AV.arg,this]
   | _=>simp[ir]at hx
 | m::ms,[],_,_=>⟨.inl rfl,rfl,rfl⟩
 | m::ms,x::xs,hm,hx=>by
  simp only[List.all_cons,Bool.and_eq_true,Bool.not_eq_true']at hm hx;obtain⟨h1,h2,h3⟩:=PC (h:=h) hm.2 hx.2;have h1:AV.dT h ms xs=some xs:=by rcases h1 with h | h | h <;> first | exact h | exact h.2
  cases m with
  | d =>
   refine⟨.inl ?_,by simp[cI,AM.h,h2],by simp[cl,AM.h,h3]⟩
   cases x with
   | c d=>simp only[AV.dT,AV.fT,AV.arg,h1]
   | _=>simp[ir]at hx
  | _=>simp[AM.h]at hm
theorem vN:∀ {xs:List AV},xs.all ir=true->xs.flatMap AV.refs=[]/\xs.flatMap AV.b8=[]
 | [],_=>⟨rfl,rfl⟩
 | x::xs,h=>by
  simp only[List.all_cons,Bool.and_eq_true]at h;obtain⟨h1,h2⟩:=vN h.2
  cases x with
  | c d=>exact⟨by simp[AV.refs,AV.bR,h1],by simp[AV.b8,h2]⟩
  | _=>simp[ir]at h
theorem QI7(hΓ:JS C.P Γ)(S:Sat C U σ a w ι)(hd:∀ d,o.dst=some d->d<C.N)(hb:∀ i,b<=i->i<b+16->U i)(bN:∀ i,U' i->U i/\¬ (b<=i/\i<b+16))
  {f : FuncId} {args : Array Operand} {mq : Array TypeId} {xs : List aX} {fn : Func} (ho : o.op = .call { callee := .value (.func f), args, argTypes := mq }) (hf : C.P.funcs[f]? = some fn) (oz : fn.body.isSome = true) (vO : (fn.name == "runtime.NumGoroutine") = false)
  {ts:List TypeId} (hx:sW C.P ts args.toList=some xs) (he:Qw Γ (aX.ev σ.t) σ.h b (.call f xs)=some e) :
  o.wp C.P a w (λa' w'=>cz C U' (σ.app o.dst e) a' w') Q:=by
 simp only[Qw]at he;obtain⟨hl,dR⟩:=Ox S hx;have f6:∀(k:Nat)(v:Value)(x:AV),(args.map a.eval).toList[k]? = some v->(xs.map (aX.ev σ.t))[k]? = some x->VR w (Fz C w ι σ.h) ι σ.h v x:=by
  intro k v x hk ey;simp only[Array.toList_map,List.getElem?_map,Option.map_eq_some_iff]at hk ey;obtain⟨y,hy,rfl⟩:=hk;obtain⟨z,hz,rfl⟩:=ey;exact dR k y z hy hz
 have hlen:(args.map a.eval).toList.length=(xs.map (aX.ev σ.t)).length:=by simpa using hl
 have cp:(execOp a.eval o).run C.P w = .ok (.enter f (args.map a.eval)) w:=by
  have:execOp a.eval o=callFunc f (#[]++args.map a.eval++#[]):=by
   unfold execOp;rw[ho];rfl
  rw[this];have mU:¬ fn.body=none:=by intro h;rw[h]at oz;cases oz
  have qs : ¬ fn.name = "runtime.NumGoroutine" := by simpa using vO
  simp[callFunc,hf,qs,mU]
 unfold Oper.wp;rw[cp];simp only[Oper.upon];generalize hX:xs.map (aX.ev σ.t)=X at *
 split at he
 ·
  rename_i id g i j rest vP;obtain⟨ms,d0,m8,rfl,ej⟩:=PB vP;unfold u0 at he
  split at he
  rotate_left
  ·cases he
  rename_i e0 sz g0 t es a9
  split at he
  rotate_left
  ·cases he
  rename_i x ou
  split at he
  rotate_left
  ·cases he
  rename_i bc bP mR
  split at he
  rotate_left
  ·cases he
  rename_i rv al e1 kv g1 t1 eO hr
  split at he
  rotate_left
  ·cases he
  rename_i hc;obtain⟨rfl,p7,vQ⟩:=hc
  cases he;have h0:∃ v0,(args.map a.eval).toList[0]? = some v0:=by
   have:0<(args.map a.eval).toList.length:=by rw[hlen];simp
   exact⟨_,List.getElem?_eq_getElem this⟩
  obtain⟨v0,qj⟩:=h0;have mV:=f6 0 v0 _ qj rfl;obtain⟨_,e2,OW,m2,f4,vR,di⟩:=mV.y9 (by rw[a9];rfl);rw[a9]at vR
  cases vR;have di:=di i j rfl;obtain⟨ι1,S1,vb,hι1,hιo1,qf,kW⟩:=S.cJ (n:=b) (U':=λi=>U i/\i≠b) a9 ou mR p7 (hb b (Nat.le_refl _) (by omega)) (λi hi=>hi) di;obtain⟨EG,aiR⟩:=S.fresh b (hb b (Nat.le_refl _) (by omega));have jD:id≠b:=λh=>by subst h;rw[EG]at a9;cases a9
  obtain⟨σ1,hσ1⟩:∃ σ1:St,σ1=⟨σ.t,bI (bI σ.h b (.sl 0 bc (.dp 0 false []) bP)) id (.sl e0 sz (.dp (g0+1) t [(i,j)]) es),σ.nx⟩:=⟨_,rfl⟩
  have hσh:σ1.h=bI (bI σ.h b (.sl 0 bc (.dp 0 false []) bP)) id (.sl e0 sz (.dp (g0+1) t [(i,j)]) es):=by rw[hσ1]
  rw[<- hσ1]at S1;rw[<- hσh]at vb qf kW;have iu:σ1.h b = .sl 0 bc (.dp 0 false []) bP:=by rw[hσh,QI _ _ _ _ (λh=>jD h.symm),QN]
  have EH:σ1.h id = .sl e0 sz (.dp (g0+1) t [(i,j)]) es:=by rw[hσh,QN]
  obtain⟨p1,p2,p3⟩:=PC (h:=σ1.h) ej vQ;have p1:AV.dT σ1.h ms rest=some rest:=by rcases p1 with h | h | h <;> first | exact h | exact h.2
  have iQ:cI (Γ.md f) (.r bc b 0 bP.length::rest)=[.r bc b 0 bP.length]:=by rw[m8];simp[cI,AM.h,p2]
  have dC:cl (Γ.md f) (.r bc b 0 bP.length::rest)=rest:=by rw[m8];simp[cl,AM.h,p3]
  have PD:=PA (Γ:=Γ) (b:=b) (N:=0) (U':=λi=>U i/\i≠b) hΓ S1 (λi h1 h2=>by omega) (λi hi=>⟨hi,by omega⟩) (f:=f) (as:=args.map a.eval) (xs:=.r bc b 0 bP.length::rest) (vs:=.ow 0 bc (.dp 0 false []) bP::rest) (r:=⟨rv,[],[],al,[.sl e1 kv (.dp g1 t1 []) eO]⟩)
   (by rw[hlen];rfl) (λk v x hk ey=>by
    cases k with
    | zero=>rw[qj]at hk;simp at hk ey;subst hk;subst ey;exact vb
    | succ k=>exact(f6 (k+1) v x hk (by simpa using ey)).mono (λb hb=>⟨qf b hb,rfl⟩) kW)
   (by rw[m8];simp only[AV.dT,AV.fT,AV.iq,AV.dN,iu,true_and,if_true,p1]) hr (by simp) (by rw[dC,(vN vQ).2];exact List.nodup_nil) (by rw[iQ];simp[AV.refs,AV.bR]) (by rw[dC,(vN vQ).1];intro _ _ h;cases h)
  rw[iQ,dC,(vN vQ).1,(vN vQ).2]at PD;refine PD.mono λen w' ⟨v,he,h2,ι2,hh2,S2,mO,td,ig,qt⟩=>?_;subst he;have vS:h2=bI σ1.h b (Jx (σ1.h b) (.sl e1 kv (.dp g1 t1 []) eO)):=by
   rw[<- hh2]
   cases al <;> rfl
  rw[iu]at vS;have EI:h2=bI σ1.h b (.sl 0 kv (.dp 1 false []) eO):=vS;have EJ:kv=bc:=by
   rcases ig b with g | g | ⟨_,_,g,_⟩
   ·rw[iu]at g;cases g
   ·rw[EI,QN]at g;cases g
   ·rw[iu,EI,QN]at g;exact g.2.1
  have lI:h2=bI σ1.h b (.sl 0 bc (.dp 1 false []) eO):=by rw[EI,EJ]
  have q1:h2 b = .sl 0 bc (.dp 1 false []) eO:=by rw[lI,QN]
  have q2:h2 id = .sl e0 sz (.dp (g0+1) t [(i,j)]) es:=by rw[lI,QI _ _ _ _ jD];exact EH
  have vT:eO.length=bP.length:=by
   rcases ig b with g | g | ⟨_,_,g,_⟩
   ·rw[iu]at g;cases g
   ·rw[q1]at g;cases g
   ·rw[iu,q1]at g;exact g.2.2.1
  obtain⟨qu,_⟩:=qt id (by omega) (by simp) (by simp[AV.refs,AV.bR,jD]) (λ_=>by simp);have jv:i<es.length:=(List.getElem?_eq_some_iff.1 ou).1;have EK:j<x.length:=(List.getElem?_eq_some_iff.1 mR).1;have mT:∀ y,y∈es.set i (x.set j (.sl bc eO))->y.length=sz:=by
   intro y hy;have fb:=S.fh id;rw[a9]at fb;have dP:∀ y,y∈es->y.length=sz:=by
    cases fb with
    | slnil=>intro y hy;cases hy
    | sl _ _ _ _ _ _ _ _ _ _ _ _ _ bV=>exact bV
   rcases List.mem_or_eq_of_mem_set hy with hy | rfl
   ·exact dP y hy
   ·rw[List.length_set];exact dP x (List.mem_of_getElem? ou)
  obtain⟨S3,PE,PF⟩:=S2.reset (σ:=⟨σ1.t,h2,σ1.nx⟩) (f4:=es.set i (x.set j (.sl bc eO))) q2 (by simp) mT (λp q y d hy hd dr=>by
   have mS:(p,q)≠(i,j):=by simpa using dr
   by_cases hp:p=i
   ·subst hp;rw[List.getElem?_set_self jv]at hy
    cases hy;have hq:q≠j:=λh=>mS (by rw[h]);rw[List.getElem?_set_ne (λh=>hq h.symm)]at hd;exact⟨x,ou,hd⟩
   ·rw[List.getElem?_set_ne (λh=>hp h.symm)]at hy;exact⟨y,hy,hd⟩)
  have EL:=((vb.mono td ig).mono (λb hb=>⟨PE b hb,rfl⟩) PF)
  have r1:(bI h2 id (.sl e0 sz (.dp (g0+1) t [(i,j)]) (es.set i (x.set j (.sl bc eO))))) b = .sl 0 bc (.dp 1 false []) eO:=by rw[QI _ _ _ _ (λh=>jD h.symm)];exact q1
  obtain⟨S4,hF4,hg4⟩:=S3.merge (i:=i) (j:=j) (H:=[]) (x:=x.set j (.sl bc eO)) (v:=v0) (QN _ _ _) r1 (λh=>jD h.symm) (by
    obtain⟨bk,cur,ee,c1,c2,c3⟩:=di;exact⟨bk,cur,ee,qu.b.trans (hι1.trans c1),(qu.heap bk (hι1.trans c1)).trans c2,by rw[qu.o,hιo1];exact c3⟩) EL (List.getElem?_set_self jv) (by rw[List.getElem?_set_self EK,<- vT];simp)
  have EM:=((mO.mono (λb hb=>⟨PE b hb,rfl⟩) PF).mono (λb hb=>⟨hF4 b hb,rfl⟩) hg4)
  have dX:(bI (bI (bI h2 id (.sl e0 sz (.dp (g0+1) t [(i,j)]) (es.set i (x.set j (.sl bc eO))))) b .dead) id (.sl e0 sz (.dp (g0+1) t []) (es.set i (x.set j (.sl bc eO)))))=bp σ.h [(b,.dead),(id,.sl e0 sz (.dp (g0+1) t []) (es.set i (x.set j (.sl bc eO))))]:=by
   funext y
   simp only[bp];by_cases h1:y=id
   ·subst h1;rw[QN,QN]
   ·rw[QI _ _ _ _ h1,QI _ _ _ _ h1];by_cases h2:y=b
    ·subst h2;rw[QN,QN]
    ·rw[QI _ _ _ _ h2,QI _ _ _ _ h2,QI _ _ _ _ h1,lI,QI _ _ _ _ h2,hσh,QI _ _ _ _ h1,QI _ _ _ _ h2]
  have hσt:σ1.t=σ.t:=by rw[hσ1]
  have hσn:σ1.nx=σ.nx:=by rw[hσ1]
  have S4:Sat C U' _ a w' _:={ S4 with fresh:=λi hi=>S4.fresh i ⟨(bN i hi).1,λh=>(bN i hi).2 ⟨by omega,by omega⟩⟩ }
  simp only[hσt,hσn]at S4;refine⟨ι2.merge id b i j 0 bP.length,?_⟩;show Sat C U' ⟨cN σ.t o.dst (rv.sh b),bp σ.h _,σ.nx⟩ _ _ _;rw[<- dX]
  cases vU:o.dst with
  | none=>simpa[cN,Act.put]using S4
  | some d=>simpa[cN]using S4.put d (hd d vU) v (rv.sh b) EM
 ·unfold u1 at he
  split at he
  rotate_left
  ·cases he
  rename_i vs qm
  split at he
  rotate_left
  ·cases he
  rename_i r hr
  split at he
  rotate_left
  ·cases he
  rename_i hc;obtain⟨zt,dO,dU,gp,mo⟩:=hc
  cases he;refine(PA hΓ S hb bN hlen f6 qm hr zt dU gp mo).mono λen w' ⟨v,he,d8,ι'',hh,SA,hv,_⟩=>?_;subst he;refine⟨ι'',?_⟩;show Sat C U' ⟨cN σ.t o.dst (r.v.sh b),bp σ.h _,σ.nx⟩ _ _ _;rw[hh]
  cases vU:o.dst with
  | none=>simpa[cN,Act.put]using SA
  | some d=>simpa[cN]using SA.put d (hd d vU) v (r.v.sh b) hv
theorem PG(hΓ:JS C.P Γ)(S:Sat C U σ a w ι)(hd:∀ d,o.dst=some d->d<C.N)(hb:∀ i,b<=i->i<b+16->U i)(bN:∀ i,U' i->U i/\¬ (b<=i/\i<b+16)){ao:ea}
  (hc:u2 C.P o=some ao) (he:Qw Γ (aX.ev σ.t) σ.h b ao=some e) :
  o.wp C.P a w (λa' w'=>cz C U' (σ.app o.dst e) a' w') Q:=by
 have gC:∀ i,U' i->U i:=λi hi=>(bN i hi).1;have vV:∀ i,U' i->U i/\i≠b:=λi hi=>⟨(bN i hi).1,λe=>(bN i hi).2 ⟨by omega,by omega⟩⟩
 have mV:U b:=hb b (Nat.le_refl _) (by omega);unfold u2 at hc
 split at hc
 ·rename_i x ho;obtain⟨y,hy,rfl⟩:=Option.map_eq_some_iff.1 hc;exact Oz S hd gC (.inl ho) hy he
 ·rename_i x ho;obtain⟨y,hy,rfl⟩:=Option.map_eq_some_iff.1 hc;exact Oz S hd gC (.inr ho) hy he
 ·rename_i c x y ho
  split at hc
  ·rename_i c' x' y' h1 h2 h3;cases hc;exact QJe S hd gC ho h1 h2 h3 he
  ·cases hc
 ·rename_i t ho;obtain⟨zs,hz,rfl⟩:=Option.map_eq_some_iff.1 hc;exact QFq S hd mV vV ho hz he
 ·rename_i t x ho
  split at hc
  ·rename_i x' n h1 h2;cases hc;exact QNR S hd mV vV ho h1 he
  ·cases hc
 ·rename_i t ps ho
  split at hc
  ·rename_i fs h1
   split at hc
   ·rename_i zs ps' h2 h3
    split at hc
    ·rename_i h4;cases hc;exact QKg S hd gC ho h1 h2 h3 h4 he
    ·cases hc
   ·cases hc
  ·cases hc
 ·rename_i t n ps ho
  split at hc
  ·rename_i et h1
   split at hc
   ·rename_i sz xs h2 h3
    split at hc
    ·rename_i h4;obtain⟨h4,h5,h6,h7⟩:=h4;cases hc;exact QJh S hd mV vV ho h1 h2 h3 h4 h5 h6 h7 he
    ·cases hc
   ·cases hc
  ·cases hc
 ·rename_i t x ho
  split at hc
  ·rename_i x' n agg h1 h2 h3
   cases hc;exact QRL S hd gC ho h1 h3 (λh=>by simp[h,h2]) (λh=>by simp[h]) he
  ·cases hc
 ·rename_i t x v ho
  split at hc
  ·rename_i x' v' n h1 h2 h3;cases hc;exact QWL S hd gC ho h1 h2 h3 he
  ·cases hc
 ·rename_i s x i ho
  split at hc
  ·rename_i fs h1
   split at hc
   ·rename_i f h2
    split at hc
    ·rename_i n x' h3 h4
     split at hc
     ·rename_i h5;cases hc;exact QFC S hd gC ho h1 h2 h3 h5 h4 he
     ·cases hc
    ·cases hc
   ·cases hc
  ·cases hc
 ·rename_i s x i ho
  split at hc
  ·rename_i fs h1
   split at hc
   ·rename_i f h2
    split at hc
    ·rename_i n agg x' h3 h4 h5
     cases hc;exact QWq S hd gC ho h1 h2 h4 (λh=>by simp[h,h3]) (λh=>by simp[h]) h5 he
    ·cases hc
   ·cases hc
  ·cases hc
 ·rename_i t x i ho
  split at hc
  ·rename_i et h1
   split at hc
   ·rename_i sz x' i' h2 h3 h4
    split at hc
    ·cases hc;exact QO1 S hd gC ho h1 h2 h3 h4 he
    ·cases hc
   ·cases hc
  ·cases hc
 ·rename_i t l c ho
  split at hc
  ·rename_i h0;subst h0
   split at hc
   ·rename_i et h1
    split at hc
    ·rename_i sz zs i h2 h3 h4
     split at hc
     ·rename_i h5;cases hc;exact D9 S hd mV vV ho h1 h2 h3 h4 h5.1 h5.2 he
     ·cases hc
    ·cases hc
   ·cases hc
  ·cases hc
 ·rename_i t x lo hi ho
  split at hc
  ·rename_i et h1
   split at hc
   ·rename_i sz x' zc bY h2 h3 h4 h5
    split at hc
    ·rename_i h6;cases hc;exact QT0 S hd gC ho h1 h2 h6 h3 h4 h5 he
    ·cases hc
   ·cases hc
  ·cases hc
 ·rename_i op t x y ty ho
  split at hc
  ·rename_i x' y' h1 h2
   split at hc
   ·rename_i n h3
    split at hc
    ·cases hc;exact OL S hd gC (neg:=false) ho h3 h1 h2 he
    ·cases hc;exact OL S hd gC (neg:=true) ho h3 h1 h2 he
    ·cases hc
   ·split at hc
    ·cases hc;exact OA S hd gC ho h1 h2 he
    ·rename_i h4
     split at hc
     ·cases hc;exact OB S hd gC (neg:=false) ho h4 h1 h2 he
     ·cases hc;exact OB S hd gC (neg:=true) ho h4 h1 h2 he
     ·cases hc
    ·cases hc;exact OA S hd gC ho h1 h2 he
    ·cases hc
  ·cases hc
 ·rename_i t x ho;obtain⟨y,hy,rfl⟩:=Option.map_eq_some_iff.1 hc;exact QKl S hd gC ho hy he
 ·rename_i t x ho;obtain⟨y,hy,rfl⟩:=Option.map_eq_some_iff.1 hc;exact QPv S hd gC ho hy he
 ·rename_i s d x ho
  split at hc
  ·rename_i k0 k x' h1 h2 h3;cases hc;exact QQo S hd gC ho h1 h2 h3 he
  ·cases hc
 ·rename_i x i ho;obtain⟨y,hy,rfl⟩:=Option.map_eq_some_iff.1 hc;exact QGE S hd gC ho hy he
 ·rename_i x ho;obtain⟨y,hy,rfl⟩:=Option.map_eq_some_iff.1 hc;exact QTx S hd gC ho hy he
 ·rename_i c ho;obtain⟨callee,args,mq⟩:=c;simp only at hc
  split at hc
  ·rename_i f
   split at hc
   ·rename_i fn xs h1 h2
    split at hc
    ·rename_i h3;cases hc;exact QI7 hΓ S hd hb bN ho h1 h3.1 h3.2 h2 he
    ·cases hc
   ·cases hc
  ·rename_i bi;unfold Oq at hc
   split at hc
   ·rename_i x t ha ht;have qv:args = #[x]:=by cases args;simp at ha;rw[ha]
    have qw:mq = #[t]:=by cases mq;simp at ht;rw[ht]
    subst qv;subst qw
    split at hc
    ·rename_i et x' h1 h2;cases hc;exact QYv S hd gC ho h1 h2 he
    ·cases hc
   ·rename_i s x t t' ha ht;have qv:args = #[s,x]:=by cases args;simp at ha;rw[ha]
    have qw:mq = #[t,t']:=by cases mq;simp at ht;rw[ht]
    subst qv;subst qw
    split at hc
    ·rename_i h0;subst h0
     split at hc
     ·rename_i et h1
      split at hc
      ·rename_i sz s' x' i h2 h3 h4 h5
       split at hc
       ·rename_i h6;cases hc;exact QSD S hd mV vV ho h1 h2 h5 h6.1 h6.2.1 h6.2.2 h3 h4 he
       ·cases hc
      ·cases hc
     ·cases hc
    ·cases hc
   ·rename_i x y t t' ha ht;have qv:args = #[x,y]:=by cases args;simp at ha;rw[ha]
    have qw:mq = #[t,t']:=by cases mq;simp at ht;rw[ht]
    subst qv;subst qw
    split at hc
    ·rename_i x' y' h1 h2;cases hc;exact u6 S hd gC (mx:=false) ho h1 h2 he
    ·cases hc
   ·rename_i x y t t' ha ht;have qv:args = #[x,y]:=by cases args;simp at ha;rw[ha]
    have qw:mq = #[t,t']:=by cases mq;simp at ht;rw[ht]
    subst qv;subst qw
    split at hc
    ·rename_i x' y' h1 h2;cases hc;exact u6 S hd gC (mx:=true) ho h1 h2 he
    ·cases hc
   ·cases hc
  ·cases hc
 ·cases hc
end
end Go.Proofs.YtdplaepmjogjjaaGreat.Am

