/- -/
import Derived.Test.YtdplaepmjogjjaaGreatVFM0
set_option linter.all false
namespace Go.Proofs.YtdplaepmjogjjaaGreat.Am
open Go Go.RowKit
theorem CR.mono{w w':World}{F F':Nat->Prop}{ι ι':Io}{h h':Nat->aX}(hF:∀ b,F b->F' b/\w'.heap[b]? = w.heap[b]?)
  (hg:∀ id,dn w w' ι ι' h h' id) {cur:Array Value} {cs:List AV} (hc:CR w F ι h cur cs):CR w' F' ι' h' cur cs :=
 ⟨hc.size,hc.one,λk v x hk hx=>(hc.vr k v x hk hx).mono hF hg⟩
section
variable {C:Ctx} {U U':Nat->Prop} {σ:St} {a:Act} {w:World} {ι:Io}
theorem xT(S:Sat C U σ a w ι)(b:Nat)(hb:U b)(bz:Array Value)(e:TypeId)(B:aX) :
  (∀ k,Fz C w ι σ.h k->Fz C (w.alloc (.cells bz e)) (ι.up b (some w.heap.size) 0) (bN σ.h b B) k/\(w.alloc (.cells bz e)).heap[k]? = w.heap[k]?)/\
  (∀ id,dn w (w.alloc (.cells bz e)) ι (ι.up b (some w.heap.size) 0) σ.h (bN σ.h b B) id)/\∀ id,id≠b->Rest w (w.alloc (.cells bz e)) ι (ι.up b (some w.heap.size) 0) id:=by
 have hold:∀ k,k<w.heap.size->(w.alloc (.cells bz e)).heap[k]? = w.heap[k]?:=λk hk=>Below.heap_alloc _ _ _ hk;have b8:∀ id,id≠b->Rest w (w.alloc (.cells bz e)) ι (ι.up b (some w.heap.size) 0) id:=λid h =>
  ⟨Io.gr _ _ _ _ _ h,Io.so _ _ _ _ _ h,λk hk=>hold k (S.eL id k hk).2,λk p hk=>⟨hk,hold k (S.dA k id p hk).lt⟩⟩
 refine⟨λk hk=>⟨⟨by have:=hk.1;simp;omega,hk.2.1,λid bp=>?_,hk.2.2.2⟩,hold k hk.1⟩,λid=>?_,b8⟩
 ·by_cases h:id=b
  ·subst h;rw[Io.cH]at bp
   cases bp;exact absurd hk.1 (Nat.lt_irrefl _)
  ·rw[Io.gr _ _ _ _ _ h]at bp;rw[QK _ _ _ _ h];exact hk.2.2.1 id bp
 ·by_cases h:id=b
  ·subst h;exact .inl (S.fresh id hb).1
  ·exact(b8 id h).il (QK _ _ _ _ h)
theorem lf.alloc{C:Ctx}{w:World}(h:lf C w)(o:Obj):lf C (w.alloc o) :=
 ⟨h.os,h.tape,h.output,by have:=h.size;simp;omega,λk hk hx=>by rw[Below.heap_alloc _ _ _ (by have:=h.size;omega)];exact h.block k hk hx⟩
theorem Sat.alloc(S:Sat C U σ a w ι)(b:Nat)(hb:U b)(bW:∀ i,U' i->U i/\i≠b)(bz:Array Value)(e:TypeId)(B:aX)(hB:B≠.none/\B≠.dead)
  (sL:BR (w.alloc (.cells bz e)) (Fz C (w.alloc (.cells bz e)) (ι.up b (some w.heap.size) 0) (bN σ.h b B)) (ι.up b (some w.heap.size) 0) (bN σ.h b B) b B) :
  Sat C U' ⟨σ.t,bN σ.h b B,σ.nx⟩ a (w.alloc (.cells bz e)) (ι.up b (some w.heap.size) 0):=by
 obtain⟨hF,hg,b8⟩:=xT S b hb bz e B;refine S.eM (S.dR.alloc _) hF hg (λi cs hx=>by
  by_cases h:i=b
  ·subst h;rw[QQ];exact hB.2
  ·rw[QK _ _ _ _ h,hx];simp) (λid=>?_) (λi j k hi hj=>?_) (λi k hi=>?_) (λi hi=>?_) (λi k hi=>?_) (λk id p hk=>?_)
 ·by_cases h:id=b
  ·subst h;right;rw[QQ];exact sL
  ·left;exact⟨QK _ _ _ _ h,b8 id h⟩
 ·by_cases h1:i=b
  ·by_cases h2:j=b
   ·rw[h1,h2]
   ·subst h1;rw[Io.cH]at hi;rw[Io.gr _ _ _ _ _ h2]at hj
    cases hi;exact absurd (S.eL j _ hj).2 (Nat.lt_irrefl _)
  ·rw[Io.gr _ _ _ _ _ h1]at hi;by_cases h2:j=b
   ·subst h2;rw[Io.cH]at hj
    cases hj;exact absurd (S.eL i _ hi).2 (Nat.lt_irrefl _)
   ·rw[Io.gr _ _ _ _ _ h2]at hj;exact S.inj i j k hi hj
 ·by_cases h1:i=b
  ·subst h1;rw[Io.cH]at hi
   cases hi;exact⟨.inl (.inl S.dR.size),by simp⟩
  ·rw[Io.gr _ _ _ _ _ h1]at hi;rw[QK _ _ _ _ h1];obtain⟨h2,h3⟩:=S.eL i k hi;exact⟨h2,by simp;omega⟩
 ·obtain⟨h1,h2⟩:=bW i hi;rw[Io.gr _ _ _ _ _ h2,QK _ _ _ _ h2];exact S.fresh i h1
 ·by_cases h1:i=b
  ·subst h1;rw[QQ];exact hB
  ·rw[Io.gr _ _ _ _ _ h1]at hi;rw[QK _ _ _ _ h1];exact S.live i k hi
 ·have L:=S.dA k id p hk;refine⟨L.pn,?_,L.fr,by have:=L.lt;simp;omega,λi hi=>?_⟩
  ·have h8:id≠b:=λh=>by subst h;obtain⟨_,_,_,_,_,_,h9⟩:=L.dp;rw[(S.fresh id hb).1]at h9;cases h9
   rw[QK _ _ _ _ h8];exact L.dp
  ·by_cases h1:i=b
   ·subst h1;rw[Io.cH]at hi
    cases hi;exact absurd L.lt (Nat.lt_irrefl _)
   ·rw[Io.gr _ _ _ _ _ h1]at hi;exact L.ne i hi
theorem pw{o:Oper}{v:Value}{x:AV}{w':World}{ι':Io}{h':Nat->aX}{Q:Exit->Act->World->Prop}
  (hd:∀ d,o.dst=some d->d<C.N) (cB:(execOp a.eval o).run C.P w = .ok (.value v) w') (S':Sat C U' ⟨σ.t,h',σ.nx⟩ a w' ι') (hv:VR w' (Fz C w' ι' h') ι' h' v x) {bl:List (Nat × aX)} (iv:bA σ.h bl=h') :
  o.wp C.P a w (λa' w'=>cJ C U' (σ.app o.dst ⟨x,bl⟩) a' w') Q:=by
 unfold Oper.wp;rw[cB];simp only[Oper.upon];refine⟨ι',?_⟩
 cases ho:o.dst with
 | none=>simpa[St.app,cY,iv,Act.put]using S'
 | some d=>simpa[St.app,cY,iv]using S'.put d (hd d ho) v x hv
theorem HQ{o:Oper}{w':World}{ι':Io}{h':Nat->aX}{Q:Exit->Act->World->Prop}
  (hd:∀ d,o.dst=some d->d<C.N) (cB:(execOp a.eval o).run C.P w = .ok .skip w') (S':Sat C U' ⟨σ.t,h',σ.nx⟩ a w' ι') {bl:List (Nat × aX)} (iv:bA σ.h bl=h') :
  o.wp C.P a w (λa' w'=>cJ C U' (σ.app o.dst ⟨.u,bl⟩) a' w') Q:=by
 unfold Oper.wp;rw[cB];simp only[Oper.upon];refine⟨ι',?_⟩
 cases ho:o.dst with
 | none=>simpa[St.app,cY,iv,Act.put]using S'
 | some d=>simpa[St.app,cY,iv]using S'.put d (hd d ho) undef .u (.u _)
end
theorem Rd.pl{w w':World}{F:Nat->Prop}{v:Value}{d:D}(h:Rd w F v d)(hd:d.pl=true)(K:Nat->Option (Nat × cM))(id:Nat)(p:cM):RL w' K id p v d:=by
 cases h with
 | v x h=>exact .v _ _ h
 | nil=>exact .nil _ _
 | emp=>exact .emp _ _ _ _
 | sl b o len cap sz es x hlen =>
  cases es with
  | nil=>simp at hlen;subst hlen;exact .emp _ _ _ _
  | cons=>simp[D.pl]at hd
theorem RM.pl{w:World}{F:Nat->Prop}{ι:Io}{id i j:Nat}{m:Mo}{v:Value}{d:D}(h:Rd w F v d)(hd:m.gen.isSome=true->d.pl=true):RM w F ι id m i j v d:=by
 cases m with
 | dp g t H=>exact⟨h.one,λ_=>h.pl (hd rfl) _ _ _⟩
 | _=>exact h
def iw(i:Nat):Nat->List AV->List (Nat × Nat × Nat)
 | _,[]=>[]
 | j,x::xs=>(match x with | .r _ n _ _=>[(i,j,n)] | _=>[])++iw i (j+1) xs
theorem HR{i:Nat}:∀ {xs:List AV} {j:Nat},(iw i j xs).map (λx=>x.2.2)=AV.de xs
 | [],j=>rfl
 | x::xs,j=>by
  simp only[iw,List.map_append,AV.de,HR (xs:=xs)];congr 1
  cases x <;> rfl
theorem Cg{i:Nat}:∀ {xs:List AV} {j i' j' n:Nat},(i',j',n)∈iw i j xs->i'=i/\∃ k sz off len,j'=j+k/\xs[k]? = some (.r sz n off len)
 | [],j,i',j',n,h=>by simp[iw]at h
 | x::xs,j,i',j',n,h=>by
  simp only[iw,List.mem_append]at h
  rcases h with h | h
  ·cases x with
   | r sz id off len=>simp at h;obtain⟨rfl,rfl,rfl⟩:=h;exact⟨rfl,0,sz,off,len,rfl,rfl⟩
   | _=>simp at h
  ·obtain⟨h1,k,sz,off,len,h2,h3⟩:=Cg h;exact⟨h1,k+1,sz,off,len,by omega,by simpa using h3⟩
theorem HS{i:Nat}:∀ {xs:List AV} {j k sz n off len:Nat},xs[k]? = some (.r sz n off len)->(i,j+k,n)∈iw i j xs
 | [],j,k,sz,n,off,len,h=>by simp at h
 | x::xs,j,0,sz,n,off,len,h=>by simp at h;subst h;simp[iw]
 | x::xs,j,k+1,sz,n,off,len,h=>by
  simp only[iw,List.mem_append];right;have:=HS (i:=i) (j:=j+1) (k:=k) (xs:=xs) (by simpa using h);rwa [show j+1+k=j+(k+1) by omega]at this
theorem sM{h:Nat->aX}{id g i:Nat}:∀ {xs:List AV} {j k:Nat} {y:AV},AV.dM h id g i j xs=true->xs[k]? = some y->y.eY h id g i (j+k)=true
 | [],j,k,y,_,h=>by simp at h
 | x::xs,j,0,y,hm,h=>by simp only[AV.dM,Bool.and_eq_true]at hm;simp at h;subst h;exact hm.1
 | x::xs,j,k+1,y,hm,h=>by
  simp only[AV.dM,Bool.and_eq_true]at hm;have:=sM hm.2 (by simpa using h:xs[k]? = some y);rwa [show j+1+k=j+(k+1) by omega]at this
theorem HT(g:Nat->aX):∀(ids:List Nat)(i:Nat),bA g (jx ids) i=if i∈ids then .dead else g i
 | [],i=>by simp[jx,bA]
 | id::ids,i=>by
  simp only[jx,bA];rw[HT (bN g id .dead) ids i];by_cases h1:i∈ids
  ·simp[h1]
  ·by_cases h2:i=id
   ·subst h2;simp[h1,bN]
   ·simp[h1,h2,bN]
theorem Sat.kl{C:Ctx}{U:Nat->Prop}{a:Act}{w:World}{id sz g:Nat}{t:Bool}{H:cM}{e:TypeId}{es:List (List D)}{tt:Nat->AV}{nx:Nat}:∀(L:List (Nat × Nat × Nat)){h:Nat->aX}{ι:Io},Sat C U ⟨tt,h,nx⟩ a w ι->
  h id = .sl e sz (.dp g t (L.map (λx=>(x.1,x.2.1))++H)) es->(L.map λx=>x.2.2).Nodup->
  (∀ i j n,(i,j,n)∈L->n≠id/\∃ v bt off len e' g' t' bZ x,h n = .sl e' bt (.dp g' t' []) bZ/\(∃ bk cur e0,ι id=some bk/\w.heap[bk]? = some (.cells cur e0 (0,0))/\cur[ι.o id+i*sz+j]? = some v)/\
   VR w (Fz C w ι h) ι h v (.r bt n off len)/\es[i]? = some x/\x[j]? = some (.sl bt ((bZ.drop off).take len)))->
  ∃ ι' h',Sat C U ⟨tt,h',nx⟩ a w ι'/\h'=(λy=>if y=id then .sl e sz (.dp g t H) es else if y∈L.map (λx=>x.2.2) then .dead else h y)/\(∀ b,Fz C w ι h b->Fz C w ι' h' b)/\
   (∀ v x,VR w (Fz C w ι h) ι h v x->VR w (Fz C w ι' h') ι' h' v x)/\ι' id=ι id/\ι'.o id=ι.o id
 | [],h,ι,S,bp,_,_=>by
  refine⟨ι,h,S,?_,λb hb=>hb,λv x hv=>hv,rfl,rfl⟩;funext y
  by_cases hy:y=id
  ·subst hy;simpa using bp
  ·simp[hy]
 | (i,j,n)::L,h,ι,S,bp,d9,eN=>by
  obtain⟨dk,v,bt,off,len,e',g',t',bZ,x,h1,h2,h3,h4,h5⟩:=eN i j n (by simp);simp only[List.map_cons,List.nodup_cons]at d9;obtain⟨S',hF,hg⟩:=S.merge (t:=t) bp h1 dk h2 h3 h4 h5;have fY:(ι.merge id n i j off len) id=ι id:=QK _ _ _ _ dk.symm;obtain⟨ι',h',q1,q2,q3,q4,q5,q6⟩:=Sat.kl L S' (QQ _ _ _) d9.2 (λi' j' n' hm=>by
   obtain⟨k1,v',T4,HU,HV,e2,g2,t2,gQ,x2,k2,k3,k4,k5,k6⟩:=eN i' j' n' (List.mem_cons_of_mem _ hm);have hnn:n'≠n:=λh=>by subst h;exact d9.1 (List.mem_map.2 ⟨_,hm,rfl⟩)
   refine⟨k1,v',T4,HU,HV,e2,g2,t2,gQ,x2,?_,?_,k4.mono (λb hb=>⟨hF b hb,rfl⟩) hg,k5,k6⟩
   ·show bN (bN h n .dead) id _ n'=_;rw[QK _ _ _ _ k1,QK _ _ _ _ hnn];exact k2
   ·obtain⟨bk,cur,e0,m1,m2,m3⟩:=k3;exact⟨bk,cur,e0,fY.trans m1,m2,m3⟩)
  refine⟨ι',h',q1,?_,λb hb=>q3 b (hF b hb),λu y hu=>q4 u y (hu.mono (λb hb=>⟨hF b hb,rfl⟩) hg),q5.trans fY,q6⟩;rw[q2];funext y
  by_cases hy:y=id
  ·simp[hy]
  ·simp only[hy,if_false,List.map_cons,List.mem_cons];by_cases mB:y∈L.map (λx=>x.2.2)
   ·simp[mB]
   ·by_cases T5:y=n
    ·simp[mB,T5,bN,dk]
    ·simp[mB,T5,bN,hy]
section
variable {C:Ctx} {U U':Nat->Prop} {σ:St} {a:Act} {w:World} {ι:Io} {o:Oper} {Q:Exit->Act->World->Prop} {Γ:eR} {b:Nat} {e:fI}
variable (S:Sat C U σ a w ι) (hd:∀ d,o.dst=some d->d<C.N) (hb:U b) (bW:∀ i,U' i->U i/\i≠b)
include S hd hb bW
theorem QY6{t:TypeId}{zs:List AV}(ho:o.op = .alloc t)(hz:JG C.P t=some zs)(he:QD Γ (bc.ev σ.t) σ.h b (.new t zs)=some e) :
  o.wp C.P a w (λa' w'=>cJ C U' (σ.app o.dst e) a' w') Q:=by
 simp only[QD,Option.some.injEq]at he;subst he;obtain⟨i,z,hi,kK,ib⟩:=xP hz;refine pw hd (v:=.pointer (some ⟨w.heap.size,0,none⟩)) (w':=w.alloc (.cells z.cells t)) (ι':=ι.up b (some w.heap.size) 0) (h':=bN σ.h b (.box zs)) ?_ (S.alloc b hb bW z.cells t (.box zs) ⟨by simp,by simp⟩ ?_) ?_ rfl
 ·simp[execOp,ho,Instr.alloc,zeroValue,typeInfo,hi,kK,newVar,newRow]
 ·exact .box w.heap.size t z.cells zs (Io.cH _ _ _ _) (Io.cj _ _ _ _) (heap_alloc_new _ _) (ib w (λ_=>True) ι σ.h).size (ib w (λ_=>True) ι σ.h).one (ib _ _ _ _).vr
 ·have:=VR.p (w:=w.alloc (.cells z.cells t)) (F:=Fz C (w.alloc (.cells z.cells t)) (ι.up b (some w.heap.size) 0) (bN σ.h b (.box zs))) (ι:=ι.up b (some w.heap.size) 0) (h:=bN σ.h b (.box zs)) b 0 0 w.heap.size (Io.cH _ _ _ _) (by rw[QQ];simp) (by rw[QQ];simp);simpa[Io.cj]using this
theorem Q1h{x:Operand}{x':bc}{t n:Nat}(ho:o.op = .box t x)(hx:cO C.P t x=some x')(he:QD Γ (bc.ev σ.t) σ.h b (.box t x' n)=some e) :
  o.wp C.P a w (λa' w'=>cJ C U' (σ.app o.dst e) a' w') Q:=by
 simp only[QD]at he
 split at he
 rotate_left
 ·cases he
 rename_i hc
 cases he;have ib:=(ZL S hx).cells hc.2;obtain⟨hF,hg,_⟩:=xT S b hb (a.eval x).cells t (.box ((bc.ev σ.t x').cells));have sN:=CR.mono hF hg ib;refine pw hd (v:=.pointer (some ⟨w.heap.size,0,none⟩)) (w':=w.alloc (.cells (a.eval x).cells t)) (ι':=ι.up b (some w.heap.size) 0) (h':=bN σ.h b (.box ((bc.ev σ.t x').cells))) ?_ (S.alloc b hb bW _ t _ ⟨by simp,by simp⟩ ?_) ?_ rfl
 ·simp[execOp,ho,Instr.box,newVar,newRow]
 ·exact .box w.heap.size t _ _ (Io.cH _ _ _ _) (Io.cj _ _ _ _) (heap_alloc_new _ _) sN.size sN.one sN.vr
 ·have:=VR.p (w:=w.alloc (.cells (a.eval x).cells t)) (F:=Fz C (w.alloc (.cells (a.eval x).cells t)) (ι.up b (some w.heap.size) 0) (bN σ.h b (.box ((bc.ev σ.t x').cells)))) (ι:=ι.up b (some w.heap.size) 0) (h:=bN σ.h b (.box ((bc.ev σ.t x').cells))) b 0 0 w.heap.size (Io.cH _ _ _ _) (by rw[QQ];simp) (by rw[QQ];simp);simpa[Io.cj]using this
omit S hd hb bW in
theorem T6{P:Program}{t:TypeId}{v:Value}:(mv P t v).b4=[]:=by
 unfold mv
 split <;> rfl
omit S hd hb bW in
theorem T7{P:Program}{t:TypeId}{zs:List AV}(h:JG P t=some zs):∀(k:Nat)(x:AV),zs[k]? = some x->x.b4=[]:=by
 unfold JG at h
 split at h
 rotate_left
 ·cases h
 rename_i i hi
 split at h
 rotate_left
 ·cases h
 rename_i z hz
 split at h
 rotate_left
 ·cases h
 rename_i x hx
 cases h;intro k y hk;unfold ln at hx
 split at hx
 ·split at hx
  ·rename_i cs _
   cases hx;have aY:=(List.getElem?_eq_some_iff.1 hk).1;simp only[AV.cells,HA]at aY;obtain⟨t',rfl⟩:=Hz cs.toList _ k _ y (List.getElem?_eq_getElem aY) hk;exact T6
  ·cases hx
 ·split at hx
  ·cases hx;have hc:(mv P t z).cells=[mv P t z]:=by unfold mv;split <;> rfl
   rw[hc]at hk
   cases k with
   | zero=>simp at hk;subst hk;exact T6
   | succ k=>simp at hk
  ·cases hx
theorem HW{t et sz:Nat}{l:Tmp}{zs:List AV}{i:TypeInfo}(ho:o.op = .makeSlice t (.tmp l) (.tmp l))(ht:gJ C.P t=some et)(b7:cK C.P et=some sz)(hz:JG C.P et=some zs)(hi:C.P.info? et=some i)
  (h0:0<sz) (mD:i.bytes<=32768) (he:QD Γ (bc.ev σ.t) σ.h b (.mk et sz zs (.s l))=some e) :
  o.wp C.P a w (λa' w'=>cJ C U' (σ.app o.dst e) a' w') Q:=by
 simp only[QD]at he
 split at he
 rotate_left
 ·cases he
 rename_i n zd hn T8
 split at he
 rotate_left
 ·cases he
 rename_i hc;obtain⟨c1,c2,c3,c4⟩:=hc
 cases he;obtain⟨M,hM⟩:∃ M,M=if Γ.dp=true then Mo.dp 0 true [] else .ow:=⟨_,rfl⟩
 have hMt:M.fw=true:=by rw[hM];split <;> rfl
 have hMg:M.gen.isSome=true->zd.all D.pl=true:=by
  rw[hM]
  split
  ·rename_i h;exact λ_=>c4 h
  ·intro h;cases h
 rw[<- hM];obtain⟨i',z,cc,kK,ib⟩:=xP hz;rw[hi]at cc
 cases cc;obtain⟨i'',km,iM⟩:=xI b7;rw[hi]at km
 cases km;obtain⟨k,hk⟩:=HC (S.bz l) hn;have HX:n<=4294967296:=c2;have ix:(i.bytes:Int)*n<=281474976710656:=by
  have h1:(i.bytes:Int)<=32768:=by omega
  have:=Int.mul_le_mul h1 HX c1 (by omega);omega
 have cB:=run_make (P:=C.P) w t et i z (nU ht) hi kK k k n n c1 (Int.le_refl _) ix (by omega);have T9:zd.length=zs.length:=(AV.eb T8).1;have px:z.cells.size=sz:=by rw[(ib w (λ_=>True) ι σ.h).size];omega
 rw[iM]at cB;refine pw hd (v:=.slice (some ⟨w.heap.size,0,none⟩) n.toNat n.toNat) (w':=w.alloc (.cells (madeCells z.cells (n.toNat*sz)) et)) (ι':=ι.up b (some w.heap.size) 0) (h':=bN σ.h b (.sl et sz M (List.replicate n.toNat zd))) ?_
  (S.alloc b hb bW _ et _ ⟨by simp,by simp⟩ ?_) ?_ rfl
 ·have hev:a.eval (.tmp l) = .int k n:=hk;simp[execOp,ho,hev,cB]
 ·refine .sl w.heap.size et et sz M _ _ h0 (Io.cH _ _ _ _) (heap_alloc_new _ _) (λ_=>⟨rfl,Io.cj _ _ _ _,n.toNat,by simp[madeCells],by simp,by simp[maxLen];omega⟩) (by rw[Io.cj];simp[madeCells]) (by simp[maxLen];omega) (λx hx=>?_) (λp q x d hx dr=>?_)
  ·rw[List.eq_of_mem_replicate hx];exact c3
  ·have hp:p<n.toNat:=by have:=(List.getElem?_eq_some_iff.1 hx).1;simpa using this
   have hxz:x=zd:=by rw[List.getElem?_replicate,if_pos hp]at hx;cases hx;rfl
   subst hxz;have hq:q<sz:=by rw[<- c3];exact(List.getElem?_eq_some_iff.1 dr).1
   have aY:p*sz+q<n.toNat*sz:=by
    have:(p+1)*sz<=n.toNat*sz:=Nat.mul_le_mul_right _ hp;rw[Nat.add_mul]at this;omega
   have Ua:q<z.cells.size:=by omega
   rw[Io.cj,Nat.zero_add];refine⟨z.cells[q],?_,?_⟩
   ·have hm:(p*sz+q) % z.cells.size=q:=by rw[px,Nat.mul_comm,Nat.mul_add_mod,Nat.mod_eq_of_lt hq]
    rw[madeCells,Array.getElem?_map,Array.getElem?_range,if_pos aY];simp[hm,Ua]
   ·have Ch:zs[q]? = some zs[q]:=List.getElem?_eq_getElem (by omega);obtain⟨d',h5,h6⟩:=(AV.eb T8).2 q _ Ch;rw[dr]at h5
    cases h5;obtain⟨hF,hg,_⟩:=xT S b hb (madeCells z.cells (n.toNat*sz)) et (.sl et sz M (List.replicate n.toNat x));have:=AV.kj S (F:=Fz C w ι σ.h) (λ_ h=>h) ((ib w (Fz C w ι σ.h) ι σ.h).vr q z.cells[q] zs[q] (by simp[Ua]) Ch) h6 (λid b' bp=>by rw[T7 hz q _ Ch]at bp;cases bp) (λid b' p bp=>by rw[T7 hz q _ Ch]at bp;cases bp);exact .pl (this.mono hF) (λh=>List.all_eq_true.1 (hMg h) d (List.mem_of_getElem? dr))
 ·refine .r b 0 n.toNat w.heap.size 0 n.toNat et sz M _ (Io.cH _ _ _ _) (QQ _ _ _) (by simp) (Nat.le_refl _) (λ_=>by rw[Io.cj];simp) (λ_ _=>⟨rfl,?_⟩);unfold World.shape?;rw[heap_alloc_new];simp[madeCells]
omit S hd hb bW in
theorem xU{h:Nat->aX}{x:AV}{ds:List D}(hx:AV.ds h x.cells=some ds):x.st=true:=by
 cases x with
 | u=>simp[AV.cells,AV.ds,AV.d]at hx
 | t vs=>simp[AV.cells,AV.ds,AV.d]at hx
 | bx cs=>simp[AV.cells,AV.ds,AV.d]at hx
 | ow e sz m es=>simp[AV.cells,AV.ds,AV.d]at hx
 | _=>rfl
omit S hd hb bW in
theorem HY{x:AV}{k:Nat}{y:AV}{id:Nat}(hk:x.cells[k]? = some y)(hi:id∈y.b4):id∈x.refs:=by
 cases x with
 | a cs=>exact vg hk hi
 | _ =>
  cases k with
  | zero=>simp[AV.cells]at hk;subst hk;exact hi
  | succ k=>simp[AV.cells]at hk
omit hd hb bW in
theorem Ub{et sz:Nat}(b7:cK C.P et=some sz) :
  ∀(parts:List (Nat × Operand))(k:Nat)(xs:List bc)(cur:Array Value)(es:List (List D)),o5 C.P et k parts=some xs->elems σ.h (bc.ev σ.t) sz xs=some es->
   (k+parts.length)*sz<=cur.size->
   es.length=parts.length/\(∀ x,x∈es->x.length=sz)/\∃ dB,Instr.fill (λi=>some (i*sz,sz)) cur (parts.map λx=>(x.1,a.eval x.2))=some dB/\dB.size=cur.size/\(∀ m,m<k*sz->dB[m]? = cur[m]?)/\
    ∀(i j:Nat)(el:List D)(d:D),es[i]? = some el->el[j]? = some d->∃ v xo y,dB[(k+i)*sz+j]? = some v/\xs[i]? = some xo/\(bc.ev σ.t xo).cells[j]? = some y/\VR w (Fz C w ι σ.h) ι σ.h v y/\y.d σ.h=some d
 | [],k,xs,cur,es,hp,he,_=>by
  simp[o5]at hp;subst hp;simp[elems]at he;subst he;exact⟨rfl,by simp,cur,rfl,rfl,λ_ _=>rfl,by simp⟩
 | (i,x)::parts,k,xs,cur,es,hp,he,hle=>by
  simp only[o5]at hp
  split at hp
  rotate_left
  ·cases hp
  rename_i ly;subst ly
  split at hp
  rotate_left
  ·cases hp
  rename_i y ys hy jC
  cases hp;simp only[elems]at he
  split at he
  rotate_left
  ·cases he
  rename_i el0 bZ dh gW
  split at he
  rotate_left
  ·cases he
  rename_i hlen
  cases he;have ib:=(ZL S hy).cells (xU dh);have cA:=AV.eb dh;have ant:(a.eval x).cells.size=sz:=by rw[ib.size,<- cA.1,hlen]
  simp only[List.length_cons]at hle;have anu:i*sz+sz<=cur.size:=by
   have:(i+1)*sz<=(i+(parts.length+1))*sz:=Nat.mul_le_mul_right _ (by omega);rw[Nat.add_mul]at this;omega
  obtain⟨f1,f2⟩:=TU cur (a.eval x).cells (i*sz) (by omega);obtain⟨r1,r2,dB,r3,r4,r5,r6⟩:=Ub b7 parts (i+1) ys _ bZ jC gW (by rw[f1];rw[show i+1+parts.length=i+(parts.length+1) by omega];exact hle);refine⟨by simp[r1],λz hz=>?_,dB,?_,by rw[r4,f1],λm hm=>?_,λp q el d py dr=>?_⟩
  ·rcases List.mem_cons.1 hz with rfl | hz
   ·exact hlen
   ·exact r2 z hz
  ·simp only[List.map_cons,Instr.fill];rw[if_neg (by simp only[Bool.or_eq_true,decide_eq_true_eq];rintro(h | h) <;> omega)];exact r3
  ·rw[r5 m (by rw[Nat.add_mul];omega),f2 m,if_pos hm]
  ·cases p with
   | zero =>
    simp at py;subst py;have hq:q<sz:=by rw[<- hlen];exact(List.getElem?_eq_some_iff.1 dr).1
    have qG:q<(bc.ev σ.t y).cells.length:=by rw[<- cA.1];omega
    obtain⟨d',h5,h6⟩:=cA.2 q _ (List.getElem?_eq_getElem qG);rw[dr]at h5
    cases h5;have xV:q<(a.eval x).cells.size:=by omega
    have d6:=ib.vr q _ _ (Array.getElem?_eq_getElem xV) (List.getElem?_eq_getElem qG);refine⟨(a.eval x).cells[q],y,_,?_,rfl,List.getElem?_eq_getElem qG,d6,h6⟩;rw[Nat.add_zero,r5 _ (by rw[Nat.add_mul];omega),f2,if_neg (by omega),if_pos (by omega)];rw[show i*sz+q-i*sz=q by omega];exact Array.getElem?_eq_getElem xV
   | succ p =>
    simp at py;rw[show i+(p+1)=i+1+p by omega];exact r6 p q el d py dr
omit S hd hb bW in
theorem xW{h:Nat->aX}:∀ {xs:List AV} {ds:List D},AV.ds h xs=some ds->∀ id,id∈AV.bU xs->∃ e sz m es,h id = .sl e sz m es
 | [],_,_,id,hi=>by simp[AV.bU]at hi
 | x::xs,ds,hx,id,hi=>by
  simp only[AV.ds]at hx
  split at hx
  ·rename_i d vf h1 h2;simp only[AV.bU,List.mem_append]at hi
   rcases hi with hi | hi
   ·cases x with
    | r bt cn off len =>
     simp[AV.b4]at hi;subst hi;simp only[AV.d]at h1
     split at h1
     ·rename_i e sz m es hh;exact⟨e,sz,m,es,hh⟩
     ·cases h1
    | b d' cn g p =>
     simp[AV.b4]at hi;subst hi;simp only[AV.d]at h1
     split at h1
     ·rename_i hg
      cases hx:h id with
      | sl e sz m es=>exact⟨e,sz,m,es,rfl⟩
      | _=>rw[hx]at hg;cases hg
     ·cases h1
    | _=>simp[AV.b4]at hi
   ·exact xW h2 id hi
  ·cases hx
omit S hd hb bW in
theorem Uc{h:Nat->aX}{x:AV}{d:D}(hx:x.d h=some d):∀ id,id∈x.b4->∀ e sz m es,h id = .sl e sz m es->m.full=true:=by
 intro id hi e sz m es hh
 cases x with
 | r bt cn off len =>
  simp[AV.b4]at hi;subst hi;simp only[AV.d,hh]at hx
  split at hx
  ·assumption
  ·cases hx
 | b d' cn g p =>
  simp[AV.b4]at hi;subst hi;simp only[AV.d,hh]at hx
  split at hx
  ·rename_i hg;exact aX.ld hg
  ·cases hx
 | _=>simp[AV.b4]at hi
omit S hd hb bW in
theorem Ci{h:Nat->aX}:∀ {xs:List AV} {ds:List D},AV.ds h xs=some ds->Full h (AV.bU xs)
 | [],_,_,id,hi=>by simp[AV.bU]at hi
 | x::xs,ds,hx,id,hi=>by
  simp only[AV.ds]at hx
  split at hx
  ·rename_i d vf h1 h2;simp only[AV.bU,List.mem_append]at hi
   rcases hi with hi | hi
   ·exact Uc h1 id hi
   ·exact Ci h2 id hi
  ·cases hx
omit S hd hb bW in
theorem Cj{x:AV}(hx:x.st=true):x.refs=AV.bU x.cells:=by
 cases x with
 | a cs=>rfl
 | _=>first | (simp[AV.st,AV.one]at hx;done) | simp[AV.refs,AV.cells,AV.bU]
omit S hd hb bW in
theorem Ud{h:Nat->aX}{ev:bc->AV}{sz:Nat}:∀ {xs:List bc} {es:List (List D)},elems h ev sz xs=some es->∀ id,id∈xs.flatMap (λx=>(ev x).refs)->∃ e sz m es,h id = .sl e sz m es
 | [],_,_,id,hi=>by simp at hi
 | x::xs,es,hx,id,hi=>by
  simp only[elems]at hx
  split at hx
  ·rename_i e bZ h1 h2
   split at hx
   ·simp only[List.flatMap_cons,List.mem_append]at hi
    rcases hi with hi | hi
    ·rw[Cj (xU h1)]at hi;exact xW h1 id hi
    ·exact Ud h2 id hi
   ·cases hx
  ·cases hx
omit S hd hb bW in
theorem Ue{h:Nat->aX}{ev:bc->AV}{sz:Nat}:∀ {xs:List bc} {es:List (List D)},elems h ev sz xs=some es->Full h (xs.flatMap λx=>(ev x).refs)
 | [],_,_,id,hi=>by simp at hi
 | x::xs,es,hx,id,hi=>by
  simp only[elems]at hx
  split at hx
  ·rename_i e bZ h1 h2
   split at hx
   ·simp only[List.flatMap_cons,List.mem_append]at hi
    rcases hi with hi | hi
    ·rw[Cj (xU h1)]at hi;exact Ci h1 id hi
    ·exact Ue h2 id hi
   ·cases hx
  ·cases hx
omit hd hb bW in
theorem Uf{ids:List Nat}(lz:∀ id,id∈ids->∃ e sz m es,σ.h id = .sl e sz m es):(∀ id b,id∈ids->ι id=some b->Fz C w (ι.loose ids) (bA σ.h (fu σ.h ids)) b)/\
  ∀ id b p,id∈ids->ι.k b=some (id,p)->Fz C w (ι.loose ids) (bA σ.h (fu σ.h ids)) b:=by
 refine⟨λid b bp hi=>?_,λid b p bp hk=>?_⟩
 ·obtain⟨e,sz,m,es,hh⟩:=lz id bp;obtain⟨h1,h2⟩:=S.eL id b hi;refine⟨h2,.inr (h1.elim (λh=>h) λ⟨_,cs,h3⟩=>by rw[hh]at h3;cases h3),λcn cc=>?_,?_⟩
  ·have:=S.inj cn id b cc hi;subst this;rw[Y8,if_pos bp,hh];rfl
  ·refine Io.iu ?_
   cases hk:ι.k b with
   | none=>rfl
   | some z=>obtain⟨z,q⟩:=z;exact absurd hi ((S.dA b z q hk).ne id)
 ·have L:=S.dA b id p hk;refine⟨L.lt,.inr L.fr,λi hi=>absurd hi (L.ne i),?_⟩
  cases fJ:(ι.loose ids).k b with
  | none=>rfl
  | some z =>
   obtain⟨z,q⟩:=z;obtain⟨k1,k2⟩:=Io.fc.1 fJ;rw[hk]at k1
   cases k1;exact absurd bp k2
omit S hd hb bW in
theorem QQo{P:Program}{w:World}{t et sz n:Nat}{parts:Array (Nat × Value)}{i:TypeInfo}{z:Value}{cells:Array Value}(ht:P.underlying t=some (.slice et))(hi:P.info? et=some i)(hz:i.zero=some z)(b7:i.size=sz)(h0:0<sz)
  (fq:n*sz<=16777216) (hf:Instr.fill (λk=>some (k*sz,sz)) (madeCells z.cells (n*sz)) parts.toList=some cells) :
  (Instr.buildSlice t n parts).run P w = .ok (.slice (some ⟨w.heap.size,0,none⟩) n n) (w.alloc (.cells cells et)):=by
 have h1:¬ 16777216<n*sz:=by omega
 by_cases hn:n=0
 ·subst hn;have hm:madeCells z.cells (0*sz) = #[]:=by simp[madeCells,Array.range_zero']
  rw[hm]at hf;simp[Instr.buildSlice,run_underlying ht,sizeOf,typeInfo,hi,b7,newRow,Array.range_zero',hf]
 ·have hf':Instr.fill (λk=>some (k*sz,sz)) ((Array.range (n*sz)).map λx=>z.cells[x % z.cells.size]!) parts.toList=some cells:=hf;have nW:sz≠0:=by omega
  have hm:¬ n*sz=0:=Nat.mul_ne_zero hn nW;simp[Instr.buildSlice,hm,run_underlying ht,sizeOf,typeInfo,zeroValue,hi,hz,b7,h1,hn,nW,newRow,hf']
omit S hd hb bW in
theorem Ug{P:Program}{et:TypeId}:∀ {parts:List (Nat × Operand)} {k:Nat} {xs:List bc},o5 P et k parts=some xs->xs.length=parts.length
 | [],k,xs,h=>by simp[o5]at h;subst h;rfl
 | (i,x)::parts,k,xs,h=>by
  simp only[o5]at h
  split at h
  ·split at h
   ·rename_i y ys h1 h2
    cases h;simp[Ug h2]
   ·cases h
  ·cases h
omit S hd hb bW in
theorem Uh{B:aX}(h:B.sv=true):∃ e sz g t es,B = .sl e sz (.dp g t []) es:=by
 unfold aX.sv at h
 split at h
 ·exact⟨_,_,_,_,_,rfl⟩
 ·cases h
def gX(ev:bc->AV):Nat->List bc->List (Nat × Nat × Nat)
 | _,[]=>[]
 | i,x::r=>iw i 0 (ev x).cells++gX ev (i+1) r
omit S hd hb bW in
theorem HZ{x:AV}(hx:x.st=true):x.dx=AV.de x.cells:=by
 cases x with
 | a cs=>rfl
 | _=>first | (simp[AV.st,AV.one]at hx;done) | simp[AV.dx,AV.cells,AV.de]
omit S hd hb bW in
theorem Ui:∀ {xs:List AV} {id:Nat},id∈AV.de xs->∃(k sz off len:Nat),xs[k]? = some (AV.r sz id off len)
 | [],id,h=>by simp[AV.de]at h
 | x::xs,id,h=>by
  simp only[AV.de,List.mem_append]at h
  rcases h with h | h
  ·cases x with
   | r sz cn off len=>simp[AV.gu]at h;subst h;exact⟨0,sz,off,len,rfl⟩
   | _=>simp[AV.gu]at h
  ·obtain⟨k,sz,off,len,h⟩:=Ui h;exact⟨k+1,sz,off,len,by simpa using h⟩
omit S hd hb bW in
theorem H0{h:Nat->aX}{ev:bc->AV}{sz:Nat}:∀ {xs:List bc} {es:List (List D)},elems h ev sz xs=some es->∀ {i:Nat} {x:bc},xs[i]? = some x->AV.ds h (ev x).cells=some ((es[i]?).getD [])
 | [],_,_,i,x,hx=>by simp at hx
 | y::xs,es,he,i,x,hx=>by
  simp only[elems]at he
  split at he
  rotate_left
  ·cases he
  rename_i e bZ h1 h2
  split at he
  rotate_left
  ·cases he
  cases he
  cases i with
  | zero=>simp at hx;subst hx;simpa using h1
  | succ i=>simpa using H0 h2 (by simpa using hx)
omit S hd hb bW in
theorem Uj{h:Nat->aX}{ev:bc->AV}{sz:Nat}:∀ {xs:List bc} {es:List (List D)},elems h ev sz xs=some es->es.length=xs.length
 | [],es,he=>by simp[elems]at he;subst he;rfl
 | y::xs,es,he=>by
  simp only[elems]at he
  split at he
  rotate_left
  ·cases he
  rename_i e bZ h1 h2
  split at he
  rotate_left
  ·cases he
  cases he;simp[Uj h2]
omit S hd hb bW in
theorem QX5{h:Nat->aX}{ev:bc->AV}{sz:Nat}{xs:List bc}{es:List (List D)}(he:elems h ev sz xs=some es){i j:Nat}{x:bc}{y:AV}(hx:xs[i]? = some x)(hy:(ev x).cells[j]? = some y):∃ el d,es[i]? = some el/\el[j]? = some d:=by
 have h1:=H0 he hx;have hl:=Uj he;have hi:i<es.length:=by rw[hl];exact(List.getElem?_eq_some_iff.1 hx).1
 rw[List.getElem?_eq_getElem hi]at h1;obtain⟨h2,h3⟩:=AV.eb h1;obtain⟨d,h4,_⟩:=h3 j y hy;exact⟨es[i],d,List.getElem?_eq_getElem hi,by simpa using h4⟩
omit S hd hb bW in
theorem Uk{h:Nat->aX}{ev:bc->AV}{sz:Nat}:∀ {xs:List bc} {es:List (List D)} {i:Nat},elems h ev sz xs=some es->(gX ev i xs).map (λx=>x.2.2)=xs.flatMap λx=>(ev x).dx
 | [],es,i,_=>rfl
 | x::xs,es,i,he=>by
  simp only[elems]at he
  split at he
  rotate_left
  ·cases he
  rename_i e bZ h1 h2;simp only[gX,List.map_append,List.flatMap_cons,HR,Uk h2,HZ (xU h1)]
omit S hd hb bW in
theorem Ul{ev:bc->AV}:∀ {xs:List bc} {k i j n:Nat},(i,j,n)∈gX ev k xs->∃ m xo,i=k+m/\xs[m]? = some xo/\∃ sz off len,(ev xo).cells[j]? = some (.r sz n off len)
 | [],k,i,j,n,h=>by simp[gX]at h
 | x::xs,k,i,j,n,h=>by
  simp only[gX,List.mem_append]at h
  rcases h with h | h
  ·obtain⟨rfl,q,sz,off,len,h2,h3⟩:=Cg h;exact⟨0,x,rfl,rfl,sz,off,len,by rw[h2,Nat.zero_add];exact h3⟩
  ·obtain⟨m,xo,h1,h2,h3⟩:=Ul h;exact⟨m+1,xo,by omega,by simpa using h2,h3⟩
omit S hd hb bW in
theorem QYv{ev:bc->AV}{xs:List bc}{i j n:Nat}(h:(i,j,n)∈gX ev 0 xs):∃ xo,xs[i]? = some xo/\∃ sz off len,(ev xo).cells[j]? = some (.r sz n off len):=by
 obtain⟨m,xo,h1,h2,h3⟩:=Ul h;rw[Nat.zero_add]at h1;subst h1;exact⟨xo,h2,h3⟩
omit S hd hb bW in
theorem Um{ev:bc->AV}:∀ {xs:List bc} {k m j n sz off len:Nat} {xo:bc},xs[m]? = some xo->(ev xo).cells[j]? = some (.r sz n off len)->(k+m,j,n)∈gX ev k xs
 | [],k,m,j,n,sz,off,len,xo,h,_=>by simp at h
 | x::xs,k,0,j,n,sz,off,len,xo,h,h2=>by
  simp at h;subst h;simp only[gX,List.mem_append,Nat.add_zero];left;have:=HS (i:=k) (j:=0) h2;rwa [Nat.zero_add]at this
 | x::xs,k,m+1,j,n,sz,off,len,xo,h,h2=>by
  simp only[gX,List.mem_append];right;have:=Um (k:=k+1) (xs:=xs) (m:=m) (by simpa using h) h2;rwa [show k+1+m=k+(m+1) by omega]at this
omit S hd hb bW in
theorem QKq{ev:bc->AV}{xs:List bc}{i j n sz off len:Nat}{xo:bc}(h:xs[i]? = some xo)(h2:(ev xo).cells[j]? = some (.r sz n off len)):(i,j,n)∈gX ev 0 xs:=by
 have:=Um (k:=0) h h2;rwa [Nat.zero_add]at this
omit S hd hb bW in
theorem Un{h:Nat->aX}{b:Nat}{ev:bc->AV}:∀ {xs:List bc} {k m:Nat} {xo:bc},iq h b ev k xs=true->xs[m]? = some xo->AV.dM h b 0 (k+m) 0 (ev xo).cells=true
 | [],k,m,xo,_,h=>by simp at h
 | x::xs,k,0,xo,hm,h=>by simp only[iq,Bool.and_eq_true]at hm;simp at h;subst h;exact hm.1
 | x::xs,k,m+1,xo,hm,h=>by
  simp only[iq,Bool.and_eq_true]at hm;have:=Un hm.2 (by simpa using h:xs[m]? = some xo);rwa [show k+1+m=k+(m+1) by omega]at this
omit S hd hb bW in
theorem H3{h:Nat->aX}{b:Nat}{ev:bc->AV}{xs:List bc}{m:Nat}{xo:bc}(hm:iq h b ev 0 xs=true)(hx:xs[m]? = some xo):AV.dM h b 0 (0+m) 0 (ev xo).cells=true:=Un hm hx
theorem QVb{t et sz n:Nat}{parts:Array (Nat × Operand)}{xs:List bc}(ho:o.op = .buildSlice t n parts)(ht:gJ C.P t=some et)(b7:cK C.P et=some sz)(hp:o5 C.P et 0 parts.toList=some xs)(hn:xs.length=n)(h0:0<sz)
  (fq:n*sz<=16777216) (hz:(JG C.P et).isSome=true) (he:QD Γ (bc.ev σ.t) σ.h b (.bO et sz xs)=some e) :
  o.wp C.P a w (λa' w'=>cJ C U' (σ.app o.dst e) a' w') Q:=by
 simp only[QD]at he
 split at he
 rotate_left
 ·cases he
 rename_i es gW;obtain⟨zs,px⟩:=Option.isSome_iff_exists.1 hz;obtain⟨i,z,hi,kK,_⟩:=xP px;obtain⟨i',cc,iM⟩:=xI b7;rw[hi]at cc
 cases cc;have fT:parts.toList.length=n:=by rw[<- Ug hp];exact hn
 obtain⟨r1,r2,dB,r3,r4,_,r6⟩:=Ub S b7 parts.toList 0 xs (madeCells z.cells (n*sz)) es hp gW (by rw[Nat.zero_add,fT];simp[madeCells]);have cB:=QQo (P:=C.P) (w:=w) (t:=t) (n:=n) (parts:=parts.map λx=>(x.1,a.eval x.2)) (nU ht) hi kK iM h0 fq (by simpa using r3);have hlen:es.length=n:=by rw[r1,fT]
 have fR:n<=maxLen:=by
  have:n*1<=n*sz:=Nat.mul_le_mul_left _ h0;simp[maxLen];omega
 have dU:dB.size=n*sz:=by rw[r4];simp[madeCells]
 split at he
 ·
  rename_i jD
  split at he
  rotate_left
  ·cases he
  rename_i hc;obtain⟨hm,d9⟩:=hc
  cases he;obtain⟨L,hL⟩:∃ L,L=gX (bc.ev σ.t) 0 xs:=⟨_,rfl⟩
  have vi:L.map (λx=>x.2.2)=xs.flatMap λx=>(bc.ev σ.t x).dx:=by rw[hL];exact Uk gW
  obtain⟨H,hH⟩:∃ H:cM,H=L.map (λx=>(x.1,x.2.1))++[]:=⟨_,rfl⟩
  obtain⟨vj,iT,_⟩:=xT S b hb dB et (.sl et sz (.dp 0 true H) es);have Uo:∀ z:Nat,ι.o b+z=ι.o b+z:=λ_=>rfl;have SA:Sat C U' ⟨σ.t,bN σ.h b (.sl et sz (.dp 0 true H) es),σ.nx⟩ a (w.alloc (.cells dB et)) (ι.up b (some w.heap.size) 0):=by
   refine S.alloc b hb bW _ et _ ⟨by simp,by simp⟩ ?_;refine .sl w.heap.size et et sz _ es dB h0 (Io.cH _ _ _ _) (heap_alloc_new _ _) (λ_=>⟨rfl,Io.cj _ _ _ _,n,dU,by omega,fR⟩) (by rw[Io.cj,hlen,dU];omega) (by omega) r2 (λp q x d hx dr=>?_);obtain⟨v,xo,y,h1,h2,h3,h4,h5⟩:=r6 p q x d hx dr;rw[Nat.zero_add]at h1;rw[Io.cj,Nat.zero_add];have eH:=sM (H3 hm h2) h3;rw[Nat.zero_add,Nat.zero_add]at eH;refine⟨v,h1,?_⟩
   cases y with
   | c d0 =>
    cases d0 with
    | v u =>
     simp only[AV.d,Option.some.injEq]at h5;subst h5
     cases h4 with | c _ _ hr=>exact .pl (hr.mono vj) (λ_=>rfl)
    | sl=>simp[AV.eY]at eH
   | n l8 =>
    simp only[AV.d,Option.some.injEq]at h5;subst h5
    cases h4 with | n=>exact .pl (F:=Fz C (w.alloc (.cells dB et)) (ι.up b (some w.heap.size) 0) (bN σ.h b (.sl et sz (.dp 0 true H) es))) (.nil _) (λ_=>rfl)
   | r l8 id off len =>
    refine⟨h4.one rfl,λdI=>absurd ?_ dI⟩;rw[hH,hL,List.append_nil];refine List.mem_map.2 ⟨(p,q,id),QKq h2 h3,rfl⟩
   | b d0 id g pt =>
    simp only[AV.eY,Bool.and_eq_true]at eH;have:=Nat.eq_of_beq_eq_true eH.1.1;subst this;simp only[AV.d,(S.fresh id hb).1,aX.dG]at h5
    cases h5
   | _=>simp[AV.eY]at eH
  obtain⟨ι',h',q1,q2,q3,q4,q5,q6⟩:=Sat.kl L SA (by rw[<- hH];exact QQ _ _ _) (by rw[vi];exact d9) (λi j n' vk=>by
   obtain⟨xo,h2,l8,off,len,h3⟩:=QYv (by rw[<- hL];exact vk);have eH:=sM (H3 hm h2) h3;simp only[AV.eY,Bool.and_eq_true,Bool.not_eq_true',Nat.zero_add]at eH;have lv:n'≠b:=λh=>by subst h;simp at eH
   obtain⟨e',bt,g',t',bZ,hh⟩:=Uh eH.2;have hjx:∃ el d,es[i]? = some el/\el[j]? = some d:=QX5 gW h2 h3;obtain⟨el,d,k1,k2⟩:=hjx;obtain⟨v,xo',y,m1,m2,m3,m4,m5⟩:=r6 i j el d k1 k2;rw[h2]at m2;cases m2;rw[h3]at m3;cases m3;have H4:=m5;simp only[AV.d,hh]at H4;simp only[Mo.full,if_true,Option.some.injEq]at H4;have mC:l8=bt:=by
    cases m4 with
    | cI _ _ _ _ _ _ hd=>rw[hd]at hh;cases hh
    | cW _ _ _ _ _ cq=>rw[hh]at cq;cases cq;rfl
    | dz _ _ _ _ _ _ _ cq=>rw[hh]at cq;cases cq;rfl
    | r _ _ _ _ _ _ _ _ _ _ _ cq=>rw[hh]at cq;cases cq;rfl
   subst mC;refine⟨lv,v,l8,off,len,e',g',t',bZ,el,?_,⟨w.heap.size,dB,et,Io.cH _ _ _ _,heap_alloc_new _ _,?_⟩,m4.mono vj iT,k1,?_⟩
   ·show bN σ.h b _ n'=_;rw[QK _ _ _ _ lv];exact hh
   ·rw[Io.cj,Nat.zero_add];rw[Nat.zero_add]at m1;exact m1
   ·rw[k2,H4])
  refine pw (σ:=σ) hd (v:=.slice (some ⟨w.heap.size,0,none⟩) n n) (w':=w.alloc (.cells dB et)) (ι':=ι') (h':=h') ?_ q1 ?_ ?_
  ·simp only[execOp,ho,Sem.run_bind,cB,Result.andThen_ok,Sem.run_pure]
  ·rw[hlen];refine q4 _ _ (.r b 0 n w.heap.size 0 n et sz _ es (Io.cH _ _ _ _) (QQ _ _ _) (by omega) (Nat.le_refl _) (λ_=>by rw[Io.cj];simp) (λ_ _=>⟨rfl,?_⟩));unfold World.shape?;rw[heap_alloc_new];simp[dU]
  ·rw[q2];funext k
   simp only[bA];rw[HT,<- vi];by_cases hk:k=b
   ·subst hk;have:k∉L.map λx=>x.2.2:=by
     intro hk;rw[vi]at hk;obtain⟨x,sO,pf⟩:=List.mem_flatMap.1 hk;obtain⟨p,iN⟩:=List.getElem?_of_mem sO;have fS:=xU (H0 gW iN);rw[HZ fS]at pf;obtain⟨q,l8,off,len,hq⟩:=Ui pf;have eH:=sM (H3 hm iN) hq;simp[AV.eY]at eH
    rw[if_neg this,QQ,if_pos rfl]
   ·rw[QK _ _ _ _ hk,if_neg hk];show _=if k∈L.map (λx=>x.2.2) then aX.dead else bN σ.h b _ k;rw[QK _ _ _ _ hk]
 ·cases he;have hrefs:=Ud gW;obtain⟨S1,hF⟩:=S.freeze (xs.flatMap λx=>(bc.ev σ.t x).refs) (Ue gW);obtain⟨cE,xX⟩:=Uf S hrefs;have po:b∉xs.flatMap λx=>(bc.ev σ.t x).refs:=by
   intro oY;obtain⟨e,sz,m,es,hh⟩:=hrefs b oY;rw[(S.fresh b hb).1]at hh
   cases hh
  have r7:∀(i j:Nat)(el:List D)(d:D),es[i]? = some el->el[j]? = some d->∃ v,dB[(0+i)*sz+j]? = some v/\Rd w (Fz C w (ι.loose (xs.flatMap λx=>(bc.ev σ.t x).refs)) (bA σ.h (fu σ.h (xs.flatMap λx=>(bc.ev σ.t x).refs)))) v d:=by
   intro i j el d h1 h2;obtain⟨v,xo,y,m1,m2,m3,m4,m5⟩:=r6 i j el d h1 h2;have eS:∀ id,id∈y.b4->id∈xs.flatMap λx=>(bc.ev σ.t x).refs:=λid bp=>List.mem_flatMap.2 ⟨xo,List.mem_of_getElem? m2,HY m3 bp⟩;exact⟨v,m1,AV.kj S hF m4 m5 (λid b bp=>cE id b (eS id bp)) (λid b p bp=>xX id b p (eS id bp))⟩
  generalize iO:(xs.flatMap λx=>(bc.ev σ.t x).refs)=ids at *;obtain⟨vj,iT,_⟩:=xT S1 b hb dB et (.sl et sz .ow es);have SA:Sat C U' ⟨σ.t,bN (bA σ.h (fu σ.h ids)) b (.sl et sz .ow es),σ.nx⟩ a (w.alloc (.cells dB et)) ((ι.loose ids).up b (some w.heap.size) 0):=by
   refine S1.alloc b hb bW _ et _ ⟨by simp,by simp⟩ ?_;refine .sl w.heap.size et et sz .ow es dB h0 (Io.cH _ _ _ _) (heap_alloc_new _ _) (λ_=>⟨rfl,Io.cj _ _ _ _,n,dU,by omega,fR⟩) (by rw[Io.cj,hlen,dU];omega) (by omega) r2 (λp q x d hx dr=>?_);obtain⟨v,h1,h2⟩:=r7 p q x d hx dr;rw[Nat.zero_add]at h1;rw[Io.cj,Nat.zero_add];exact⟨v,h1,h2.mono vj⟩
  refine pw (σ:=σ) hd (v:=.slice (some ⟨w.heap.size,0,none⟩) n n) (w':=w.alloc (.cells dB et)) (ι':=(ι.loose ids).up b (some w.heap.size) 0) (h':=bN (bA σ.h (fu σ.h ids)) b (.sl et sz .ow es)) ?_ SA ?_ ?_
  ·simp only[execOp,ho,Sem.run_bind,cB,Result.andThen_ok,Sem.run_pure]
  ·rw[hlen];refine .r b 0 n w.heap.size 0 n et sz .ow es (Io.cH _ _ _ _) (QQ _ _ _) (by omega) (Nat.le_refl _) (λ_=>by rw[Io.cj];simp) (λ_ _=>⟨rfl,?_⟩);unfold World.shape?;rw[heap_alloc_new];simp[dU]
  ·funext k
   simp only[bA];rw[Y8];by_cases hk:k=b
   ·subst hk;rw[if_neg po,QQ,QQ]
   ·rw[QK _ _ _ _ hk,QK _ _ _ _ hk,Y8]
end
end Go.Proofs.YtdplaepmjogjjaaGreat.Am
namespace Go.Proofs.YtdplaepmjogjjaaGreat.Am
open Go Go.RowKit
section
variable {C:Ctx} {U U':Nat->Prop} {σ:St} {a:Act} {w:World} {ι:Io}
theorem QSI{w:World}{g k:Nat}{cur new:Array Value}{et:TypeId}(hb:w.heap[g]? = some (.cells cur et (0,0)))(b7:new.size=cur.size):(w.setRow g new).shape? k=w.shape? k:=by
 unfold World.shape?;by_cases h:k=g
 ·subst h;rw[setRow_heap w k cur new et (0,0) hb,hb];simp[b7]
 ·rw[setRow_other w g k new h]
theorem lf.setRow{C:Ctx}{w:World}(h:lf C w){g:Nat}(hg:C.w0.heap.size<=g\/C.X g)(new:Array Value):lf C (w.setRow g new) :=
 ⟨h.os,h.tape,h.output,by have:=h.size;simp;exact this,λk hk hx=>by
  rw[setRow_other w g k new (λe=>by subst e;exact hg.elim (λhg=>by omega) (λhg=>hx hg))];exact h.block k hk hx⟩
theorem Ck(S:Sat C U σ a w ι){id g:Nat}(hi:ι id=some g){cur new:Array Value}{et:TypeId}(hb:w.heap[g]? = some (.cells cur et (0,0)))(b7:new.size=cur.size){B:aX}
  (db:cX (σ.h id) B) (cE:(σ.h id).own=true) (gx:∀ g,(σ.h id).gen=some g->B.gen≠some g) :
  (∀ k,Fz C w ι σ.h k->Fz C (w.setRow g new) ι (bN σ.h id B) k/\(w.setRow g new).heap[k]? = w.heap[k]?)/\
  (∀ i,dn w (w.setRow g new) ι ι σ.h (bN σ.h id B) i)/\(∀ i,i≠id->Rest w (w.setRow g new) ι ι i)/\∀ i,oX w (w.setRow g new) ι ι i:=by
 have gV:∀ i,oX w (w.setRow g new) ι ι i:=λi b p hk=>⟨hk,setRow_other w g b new (λe=>by subst e;exact(S.dA _ i p hk).ne id hi)⟩
 have b8:∀ i,i≠id->Rest w (w.setRow g new) ι ι i:=λi h=>⟨rfl,rfl,λk hk=>setRow_other w g k new (λe=>by subst e;exact h (S.inj i id _ hk hi)),gV i⟩
 refine⟨λk hk=>⟨⟨by simpa using hk.1,hk.2.1,λi ly=>?_,hk.2.2.2⟩,setRow_other w g k new (λe=>?_)⟩,λi=>?_,b8,gV⟩
 ·by_cases h:i=id
  ·subst h;rw[hi]at ly
   cases ly;have:=hk.2.2.1 _ hi;rw[cE]at this
   cases this
  ·rw[QK _ _ _ _ h];exact hk.2.2.1 i ly
 ·subst e;have:=hk.2.2.1 _ hi;rw[cE]at this
  cases this
 ·by_cases h:i=id
  ·subst h;unfold dn;right;right;rw[QQ];exact⟨rfl,rfl,db,λk _=>QSI hb b7,λg h1 h2=>absurd h2 (gx g h1)⟩
  ·exact(b8 i h).il (QK _ _ _ _ h)
theorem Sat.setRow(S:Sat C U σ a w ι)(bW:∀ i,U' i->U i){id g:Nat}(hi:ι id=some g){cur new:Array Value}{et:TypeId}(hb:w.heap[g]? = some (.cells cur et (0,0)))(b7:new.size=cur.size){B:aX}
  (db:cX (σ.h id) B) (cE:(σ.h id).own=true) (gx:∀ g,(σ.h id).gen=some g->B.gen≠some g) (jD:∀ e sz g t H es,σ.h id = .sl e sz (.dp g t H) es->∃ e sz g t H es,B = .sl e sz (.dp g t H) es)
  (sL:BR (w.setRow g new) (Fz C (w.setRow g new) ι (bN σ.h id B)) ι (bN σ.h id B) id B) :
  Sat C U' ⟨σ.t,bN σ.h id B,σ.nx⟩ a (w.setRow g new) ι:=by
 obtain⟨hF,hg,b8,gV⟩:=Ck S hi hb b7 db cE gx;have lh:=S.eL id g hi;refine S.eM (S.dR.setRow (lh.1.elim (λh=>h.dR) (λh=>.inr h.1)) new) hF hg (λi cs hx=>by
  by_cases h:i=id
  ·subst h;rw[QQ];exact db.ne.2
  ·rw[QK _ _ _ _ h,hx];simp) (λi=>?_) S.inj (λi k hk=>?_) (λi hiU=>?_) (λi k hk=>?_) (λk i p hk=>?_)
 ·by_cases h:i=id
  ·subst h;right;rw[QQ];exact sL
  ·left;exact⟨QK _ _ _ _ h,b8 i h⟩
 ·obtain⟨h1,h2⟩:=S.eL i k hk;refine⟨h1.imp (λh=>h) λ⟨hx,cs,dU⟩=>⟨hx,?_⟩,by simpa using h2⟩;by_cases h:i=id
  ·subst h;rw[QQ];rw[dU]at db
   cases B <;> simp[cX]at db;exact⟨_,rfl⟩
  ·rw[QK _ _ _ _ h];exact⟨cs,dU⟩
 ·obtain⟨h1,h2⟩:=S.fresh i (bW i hiU);have:i≠id:=λe=>by subst e;rw[hi]at h2;cases h2
  rw[QK _ _ _ _ this];exact⟨h1,h2⟩
 ·by_cases h:i=id
  ·subst h;rw[QQ];exact db.ne
  ·rw[QK _ _ _ _ h];exact S.live i k hk
 ·have L:=S.dA k i p hk;refine⟨L.pn,?_,L.fr,by simpa using L.lt,L.ne⟩;by_cases h:i=id
  ·subst h;rw[QQ];obtain⟨e,sz,g,t,H,es,h⟩:=L.dp;exact jD e sz g t H es h
  ·rw[QK _ _ _ _ h];exact L.dp
theorem H5{P:Program}{w:World}{t n g o:Nat}{v:Value}{cur:Array Value}{et:TypeId}(hn:cK P t=some n)(hb:w.heap[g]? = some (.cells cur et (0,0)))(hv:v.cells.size=n)(hle:o+n<=cur.size)
  (h1:∀(k:Nat)(u:Value),v.cells[k]? = some u->u.oneCell'=true) :
  (Instr.storeAt t (.pointer (some ⟨g,o,Option.none⟩)) v).run P w = .ok () (w.setRow g (Am.bB cur.toList o v.cells.toList).toArray):=by
 have h:=run_storeCells_at P g o et v.cells.toList 0 cur w hb (by simp;omega) (λu hu=>by
  obtain⟨k,hk,he⟩:=List.getElem_of_mem hu;exact h1 k u (by rw[<- he];simp at hk ⊢))
 simp only[Nat.add_zero]at h;simp[Instr.storeAt,Instr.sureAddr,storeVar,o7 hn,hv,h,Am.bB]
end
section
variable {C:Ctx} {U U':Nat->Prop} {σ:St} {a:Act} {w:World} {ι:Io} {o:Oper} {Q:Exit->Act->World->Prop} {Γ:eR} {b:Nat} {e:fI}
variable (S:Sat C U σ a w ι) (hd:∀ d,o.dst=some d->d<C.N) (bW:∀ i,U' i->U i)
include S hd bW
theorem QOV{x v:Operand}{x' v':bc}{t n:Nat}{t1 t2:TypeId}(ho:o.op = .store t x v)(hx:cO C.P t1 x=some x')(hv:cO C.P t2 v=some v')(hn:cK C.P t=some n)(he:QD Γ (bc.ev σ.t) σ.h b (.store x' v' n)=some e) :
  o.wp C.P a w (λa' w'=>cJ C U' (σ.app o.dst e) a' w') Q:=by
 have h1:=ZL S hx;simp only[QD]at he
 split at he
 rotate_left
 ·cases he
 rename_i hc;obtain⟨hlen,fS⟩:=hc;have ib:=(ZL S hv).cells fS;have vm:(a.eval v).cells.size=n:=by rw[ib.size,hlen]
 split at he
 rotate_left
 ·cases he
 rename_i id i j hp;rw[hp]at h1;generalize cG:a.eval x=av at h1;have dH:=S.fH id
 split at he
 ·rename_i cs hh
  split at he
  rotate_left
  ·cases he
  rename_i xY;obtain⟨rfl,Cl⟩:=xY
  cases he
  cases h1 with
  | dg v _ _ _ _ fm=>rw[fm]at hh;cases hh
  | p _ _ _ bk hi nW d9 =>
   rw[hh]at dH cG;simp only[aX.sz,Nat.mul_zero,Nat.zero_add]at cG
   cases dH with
   | box nX et bz _ cc fp hb hl Up d6 =>
    rw[hi]at cc;cases cc;rw[fp,Nat.zero_add]at cG;have cB:=H5 (P:=C.P) (t:=t) (o:=j) hn hb vm (by omega) ib.one;have gK:(bB bz.toList j (a.eval v).cells.toList).length=bz.toList.length:=pe (by simp;omega);have db:cX (σ.h id) (.box (bB cs j (bc.ev σ.t v').cells)):=by rw[hh];exact pe (by omega)
    have cE:(σ.h id).own=true:=by rw[hh];rfl
    have gx:∀ g,(σ.h id).gen=some g->(aX.box (bB cs j (bc.ev σ.t v').cells)).gen≠some g:=λg h=>by rw[hh]at h;cases h
    obtain⟨hF,hg,_⟩:=Ck S hi hb (new:=(bB bz.toList j (a.eval v).cells.toList).toArray) (by simpa using gK) db cE gx;refine HQ (σ:=σ) hd (h':=bN σ.h id (.box (bB cs j (bc.ev σ.t v').cells))) (ι':=ι) (w':=w.setRow bk (bB bz.toList j (a.eval v).cells.toList).toArray) ?_ (S.setRow bW hi hb (by simpa using gK) db cE gx (λe sz g t H es h=>by rw[hh]at h;cases h) ?_) rfl
    ·simp only[execOp,ho,cG,Sem.run_bind,cB,Result.andThen_ok,Sem.run_pure]
    ·have dD:CR w (Fz C w ι σ.h) ι σ.h (bB bz.toList j (a.eval v).cells.toList).toArray (bB cs j (bc.ev σ.t v').cells):=by
      have l9:=pd (l:=bz.toList) (xs:=(a.eval v).cells.toList) (j:=j) (by simp;omega);have iT:=pd (l:=cs) (xs:=(bc.ev σ.t v').cells) (j:=j) (by omega);have kb:(a.eval v).cells.toList.length=n:=by simpa using vm
      refine⟨by rw[List.size_toArray,gK,pe (by omega)];simpa using hl,λk u hk=>?_,λk u y hk hy=>?_⟩
      ·rw[List.getElem?_toArray,l9 k]at hk
       split at hk
       ·exact Up k u (by simpa using hk)
       ·split at hk
        ·exact ib.one _ u (by simpa using hk)
        ·exact Up k u (by simpa using hk)
      ·rw[List.getElem?_toArray,l9 k]at hk;rw[iT k]at hy
       split at hk
       ·rename_i e1;rw[if_pos e1]at hy;exact d6 k u y (by simpa using hk) hy
       ·rename_i e1;rw[if_neg e1]at hy
        split at hk
        ·rename_i e2;rw[if_pos (by omega)]at hy;exact ib.vr _ u y (by simpa using hk) hy
        ·rename_i e2;rw[if_neg (by omega)]at hy;exact d6 k u y (by simpa using hk) hy
     have ko:=dD.mono hF hg;exact .box bk et _ _ hi fp (setRow_heap w bk bz _ et (0,0) hb) ko.size ko.one ko.vr
 ·rename_i et sz es hh
  split at he
  rotate_left
  ·cases he
  rename_i el dh
  split at he
  rotate_left
  ·cases he
  rename_i ds cA
  split at he
  rotate_left
  ·cases he
  rename_i xY;obtain⟨Cl,dI⟩:=xY
  cases he
  cases h1 with
  | dg v _ _ _ _ fm=>rw[fm]at hh;cases hh
  | p _ _ _ bk hi nW d9 =>
   rw[hh]at dH cG;simp only[aX.sz]at cG
   cases dH with
   | slnil=>simp at dh
   | sl nX _ e0 _ _ _ cur hz cc hb fj hle dj b7 d6 =>
    rw[hi]at cc;cases cc;obtain⟨rfl,fp,cap,hC,kp,sP⟩:=fj rfl;rw[fp,Nat.zero_add]at cG;simp only[fp,Nat.zero_add]at d6;have hrefs:∀ cn,cn∈(bc.ev σ.t v').refs->∃ e sz m es,σ.h cn = .sl e sz m es:=by
     rw[Cj fS];exact xW cA
    obtain⟨S1,sQ⟩:=S.freeze (bc.ev σ.t v').refs (by rw[Cj fS];exact Ci cA);obtain⟨xZ,x4⟩:=Uf S hrefs;generalize iO:(bc.ev σ.t v').refs=ids at *;have Cm:bA σ.h (fu σ.h ids) id = .sl e0 sz .ow es:=by rw[Y8,if_neg dI,hh]
    have ke:i<es.length:=(List.getElem?_eq_some_iff.1 dh).1;have o8:el.length=sz:=b7 el (List.mem_of_getElem? dh);have eC:=AV.eb cA;have qD:i*sz+j+n<=cur.size:=by
     rw[hC];have:(i+1)*sz<=cap*sz:=Nat.mul_le_mul_right _ (by omega);rw[Nat.add_mul]at this;omega
    have kb:(a.eval v).cells.toList.length=n:=by simpa using vm
    have cB:=H5 (P:=C.P) (t:=t) (o:=i*sz+j) hn hb vm (by omega) ib.one;have gK:(bB cur.toList (i*sz+j) (a.eval v).cells.toList).length=cur.toList.length:=pe (by simp;omega);have db:cX (bA σ.h (fu σ.h ids) id) (.sl e0 sz .ow (es.set i (bB el j ds))):=by rw[Cm];exact⟨rfl,rfl,by simp,.refl _⟩
    have cE:(bA σ.h (fu σ.h ids) id).own=true:=by rw[Cm];rfl
    have gx:∀ g,(bA σ.h (fu σ.h ids) id).gen=some g->(aX.sl e0 sz .ow (es.set i (bB el j ds))).gen≠some g:=λg h=>by rw[Cm]at h;cases h
    have H6:(ι.loose ids) id=some bk:=hi;have pz:(ι.loose ids).o id=0:=fp;obtain⟨hF,hg,_⟩:=Ck S1 H6 hb (new:=(bB cur.toList (i*sz+j) (a.eval v).cells.toList).toArray) (by simpa using gK) db cE gx;have SA:Sat C U' ⟨σ.t,bN (bA σ.h (fu σ.h ids)) id (.sl e0 sz .ow (es.set i (bB el j ds))),σ.nx⟩ a (w.setRow bk (bB cur.toList (i*sz+j) (a.eval v).cells.toList).toArray) (ι.loose ids):=by
     refine S1.setRow bW H6 hb (by simpa using gK) db cE gx (λe sz g t H es h=>by have h:bA σ.h (fu σ.h ids) id=_:=h;rw[Cm]at h;cases h) ?_;have lz:(bB el j ds).length=el.length:=pe (by have:=eC.1;omega);refine .sl bk e0 e0 sz .ow _ _ hz H6 (setRow_heap w bk cur _ e0 (0,0) hb) (λ_=>⟨rfl,pz,cap,by rw[List.size_toArray,gK];simpa using hC,by simpa using kp,sP⟩) (by rw[pz,List.size_toArray,gK,show cur.toList.length=cap*sz by simpa using hC];simp only[List.length_set,Nat.zero_add];exact Nat.mul_le_mul_right _ kp) (by simpa using dj) (λx hx=>?_) (λp q x d hx dr=>?_)
     ·rcases List.mem_or_eq_of_mem_set hx with hx | rfl
      ·exact b7 x hx
      ·rw[lz,o8]
     ·have l9:=pd (l:=cur.toList) (xs:=(a.eval v).cells.toList) (j:=i*sz+j) (by simp;omega) (p*sz+q);rw[pz,Nat.zero_add,List.getElem?_toArray,l9];by_cases vn:p=i
      ·subst vn;rw[List.getElem?_set_self ke]at hx
       cases hx;have iT:=pd (l:=el) (xs:=ds) (j:=j) (by have:=eC.1;omega) q;rw[iT]at dr;have hdn:ds.length=n:=by rw[eC.1,hlen]
       by_cases e1:q<j
       ·rw[if_pos e1]at dr;rw[if_pos (by omega)];obtain⟨u,h3,h4⟩:=d6 p q el d dh dr;exact⟨u,by simpa using h3,(Rd.mono (λb hb=>⟨sQ b hb,rfl⟩) h4).mono hF⟩
       ·rw[if_neg e1]at dr;by_cases e2:q<j+ds.length
        ·rw[if_pos e2]at dr;rw[if_neg (by omega),if_pos (by omega)];have qG:q-j<(bc.ev σ.t v').cells.length:=by omega
         obtain⟨d',h5,h6⟩:=eC.2 (q-j) _ (List.getElem?_eq_getElem qG);rw[dr]at h5
         cases h5;have xV:q-j<(a.eval v).cells.size:=by omega
         have j0:=ib.vr (q-j) _ _ (Array.getElem?_eq_getElem xV) (List.getElem?_eq_getElem qG);have o9:=AV.kj S sQ j0 h6 (λcn b' i5 H7=>xZ cn b' (by rw[<- iO];exact HY (List.getElem?_eq_getElem qG) i5) H7) (λcn b' p' i5 eQ=>x4 cn b' p' (by rw[<- iO];exact HY (List.getElem?_eq_getElem qG) i5) eQ);refine⟨(a.eval v).cells[q-j],?_,o9.mono hF⟩;rw[show p*sz+q-(p*sz+j)=q-j by omega];simp[xV]
        ·rw[if_neg e2]at dr;rw[if_neg (by omega),if_neg (by omega)];obtain⟨u,h3,h4⟩:=d6 p q el d dh dr;exact⟨u,by simpa using h3,(Rd.mono (λb hb=>⟨sQ b hb,rfl⟩) h4).mono hF⟩
      ·rw[List.getElem?_set_ne (λe=>vn e.symm)]at hx;obtain⟨u,h3,h4⟩:=d6 p q x d hx dr;have hq:q<sz:=by rw[<- b7 x (List.mem_of_getElem? hx)];exact(List.getElem?_eq_some_iff.1 dr).1
       refine⟨u,?_,(Rd.mono (λb hb=>⟨sQ b hb,rfl⟩) h4).mono hF⟩;by_cases aY:p<i
       ·have:(p+1)*sz<=i*sz:=Nat.mul_le_mul_right _ aY;rw[Nat.add_mul]at this;rw[if_pos (by omega)];simpa using h3
       ·have:(i+1)*sz<=p*sz:=Nat.mul_le_mul_right _ (by omega);rw[Nat.add_mul]at this;rw[if_neg (by omega),if_neg (by omega)];simpa using h3
    refine HQ (σ:=σ) hd ?_ SA ?_
    ·simp only[execOp,ho,cG,Sem.run_bind,cB,Result.andThen_ok,Sem.run_pure]
    ·funext k
     simp only[bA];rw[Y8];by_cases hk:k=id
     ·subst hk;rw[if_neg dI,QQ,QQ]
     ·rw[QK _ _ _ _ hk,QK _ _ _ _ hk,Y8]
 ·rename_i et sz g0 t0 es hh
  split at he
  rotate_left
  ·cases he
  rename_i el dh
  split at he
  rotate_left
  ·cases he
  rename_i ds cA
  split at he
  rotate_left
  ·cases he
  rename_i xY;obtain⟨Cl,sR,H8⟩:=xY
  cases he
  cases h1 with
  | dg v _ _ _ _ fm=>rw[fm]at hh;cases hh
  | p _ _ _ bk hi nW d9 =>
   rw[hh]at dH cG;simp only[aX.sz]at cG
   cases dH with
   | slnil=>simp at dh
   | sl nX _ e0 _ _ _ cur hz cc hb fj hle dj b7 d6 =>
    rw[hi]at cc;cases cc;obtain⟨L,hL⟩:∃ L,L=iw i j (bc.ev σ.t v').cells:=⟨_,rfl⟩
    have vi:L.map (λx=>x.2.2)=(bc.ev σ.t v').dx:=by rw[hL,HR,HZ fS]
    obtain⟨H,hH⟩:∃ H:cM,H=L.map (λx=>(x.1,x.2.1))++[]:=⟨_,rfl⟩
    have ke:i<es.length:=(List.getElem?_eq_some_iff.1 dh).1;have o8:el.length=sz:=b7 el (List.mem_of_getElem? dh);have eC:=AV.eb cA;have hdn:ds.length=n:=by rw[eC.1,hlen]
    have qD:ι.o id+i*sz+j+n<=cur.size:=by
     have:(i+1)*sz<=es.length*sz:=Nat.mul_le_mul_right _ (by omega);rw[Nat.add_mul]at this;omega
    have kb:(a.eval v).cells.toList.length=n:=by simpa using vm
    have cB:=H5 (P:=C.P) (t:=t) (o:=ι.o id+i*sz+j) hn hb vm (by omega) ib.one;have gK:(bB cur.toList (ι.o id+i*sz+j) (a.eval v).cells.toList).length=cur.toList.length:=pe (by simp;omega);have lz:(bB el j ds).length=el.length:=pe (by omega);obtain⟨gQ,mE⟩:∃ gQ,gQ=es.set i (bB el j ds):=⟨_,rfl⟩
    have qH:gQ[i]? = some (bB el j ds):=by rw[mE];exact List.getElem?_set_self ke
    have kL:gQ.length=es.length:=by rw[mE];simp
    obtain⟨new,ft⟩:∃ new,new=(bB cur.toList (ι.o id+i*sz+j) (a.eval v).cells.toList).toArray:=⟨_,rfl⟩
    have kM:new.size=cur.size:=by rw[ft,List.size_toArray,gK];simp
    have db:cX (σ.h id) (.sl et sz (.dp (g0+1) t0 H) gQ):=by rw[hh];exact⟨rfl,rfl,kL,⟨λh=>h,λg' h=>⟨g0,rfl,by cases h;omega⟩⟩⟩
    have cE:(σ.h id).own=true:=by rw[hh];rfl
    have gx:∀ g,(σ.h id).gen=some g->(aX.sl et sz (.dp (g0+1) t0 H) gQ).gen≠some g:=λg h h'=>by rw[hh]at h;cases h;simp[aX.gen,Mo.gen]at h'
    obtain⟨hF,hg,_,gV⟩:=Ck S hi hb (new:=new) kM db cE gx;have l9:=pd (l:=cur.toList) (xs:=(a.eval v).cells.toList) (j:=ι.o id+i*sz+j) (by simp;omega);have iT:=pd (l:=el) (xs:=ds) (j:=j) (by omega);have mF:∀(k:Nat)(y:AV),(bc.ev σ.t v').cells[k]? = some y->∃ u d,new[ι.o id+i*sz+(j+k)]? = some u/\(bB el j ds)[j+k]? = some d/\VR w (Fz C w ι σ.h) ι σ.h u y/\y.d σ.h=some d:=by
     intro k y hy;have hk:k<n:=by rw[<- hlen];exact(List.getElem?_eq_some_iff.1 hy).1
     obtain⟨d,h5,h6⟩:=eC.2 k y hy;have Uq:k<(a.eval v).cells.size:=by omega
     refine⟨(a.eval v).cells[k],d,?_,?_,ib.vr k _ y (Array.getElem?_eq_getElem Uq) hy,h6⟩
     ·rw[ft,List.getElem?_toArray,l9,if_neg (by omega),if_pos (by omega),show ι.o id+i*sz+(j+k)-(ι.o id+i*sz+j)=k by omega];simp[Uq]
     ·rw[iT,if_neg (by omega),if_pos (by omega),show j+k-j=k by omega];exact h5
    have SA:Sat C U' ⟨σ.t,bN σ.h id (.sl et sz (.dp (g0+1) t0 H) gQ),σ.nx⟩ a (w.setRow bk new) ι:=by
     refine S.setRow bW hi hb kM db cE gx (λe sz g t H es h=>⟨_,_,_,_,_,_,rfl⟩) ?_;refine .sl bk et e0 sz _ gQ new hz hi (setRow_heap w bk cur _ e0 (0,0) hb) (λh=>?_) (by rw[kM,kL];exact hle) (by rw[kL];exact dj) (λx hx=>?_) (λp q x d hx dr=>?_)
     ·obtain⟨h1,h2,cap,h3,h4,h5⟩:=fj h;exact⟨h1,h2,cap,by rw[kM];exact h3,by rw[kL];exact h4,h5⟩
     ·rw[mE]at hx
      rcases List.mem_or_eq_of_mem_set hx with hx | rfl
      ·exact b7 x hx
      ·rw[lz,o8]
     ·have vd:∀(y:List D),es[p]? = some y->y[q]? = some d->(p≠i\/q<j\/j+n<=q)->∃ v,new[ι.o id+p*sz+q]? = some v/\RM (w.setRow bk new) (Fz C (w.setRow bk new) ι (bN σ.h id (.sl et sz (.dp (g0+1) t0 H) gQ))) ι id (.dp (g0+1) t0 H) p q v d:=by
       intro y hy Cn ph;have hq:q<sz:=by rw[<- b7 y (List.mem_of_getElem? hy)];exact(List.getElem?_eq_some_iff.1 Cn).1
       obtain⟨u,h3,h4,h5⟩:=d6 p q y d hy Cn;refine⟨u,?_,h4,λ_=>(h5 (by simp)).mono (gV id)⟩;rw[ft,List.getElem?_toArray,l9];by_cases aY:p<i
       ·have:(p+1)*sz<=i*sz:=Nat.mul_le_mul_right _ aY;rw[Nat.add_mul]at this;rw[if_pos (by omega)];simpa using h3
       ·by_cases hgt:i<p
        ·have:(i+1)*sz<=p*sz:=Nat.mul_le_mul_right _ (by omega);rw[Nat.add_mul]at this;rw[if_neg (by omega),if_neg (by omega)];simpa using h3
        ·have:p=i:=by omega
         subst this
         rcases ph with h | h | h
         ·exact absurd rfl h
         ·rw[if_pos (by omega)];simpa using h3
         ·rw[if_neg (by omega),if_neg (by omega)];simpa using h3
      by_cases vn:p=i
      ·subst vn;rw[qH]at hx
       cases hx;by_cases e1:q<j
       ·rw[iT,if_pos e1]at dr;exact vd el dh dr (.inr (.inl e1))
       ·by_cases e2:q<j+n
        ·obtain⟨y,hy⟩:∃ y,(bc.ev σ.t v').cells[q-j]? = some y:=⟨_,List.getElem?_eq_getElem (by omega)⟩
         obtain⟨u,d2,k1,k2,k3,k4⟩:=mF (q-j) y hy;have H9:j+(q-j)=q:=by omega
         rw[H9]at k1 k2;rw[dr]at k2
         cases k2;have eH:=sM sR hy;rw[H9]at eH;refine⟨u,k1,?_⟩
         cases y with
         | c d0 =>
          cases d0 with
          | v uu =>
           simp only[AV.d,Option.some.injEq]at k4;subst k4
           cases k3 with | c _ _ hr=>exact .pl (hr.mono hF) (λ_=>rfl)
          | sl=>simp[AV.eY]at eH
         | n l8 =>
          simp only[AV.d,Option.some.injEq]at k4;subst k4
          cases k3 with | n=>exact⟨rfl,λ_=>.nil _ _⟩
         | r l8 cn off len =>
          refine⟨k3.one rfl,λdI=>absurd ?_ dI⟩;rw[hH,hL,List.append_nil];have:=HS (i:=p) (j:=j) hy;rw[H9]at this;exact List.mem_map.2 ⟨(p,q,cn),this,rfl⟩
         | b d0 cn g' pt =>
          simp only[AV.eY,Bool.and_eq_true,decide_eq_true_eq]at eH;obtain⟨⟨m1,m2⟩,m3⟩:=eH;have m1:=Nat.eq_of_beq_eq_true m1;have m2:=Nat.eq_of_beq_eq_true m2;subst m1;subst m2;subst m3;simp only[AV.d,hh,aX.dG,if_true,Option.some.injEq]at k4;subst k4;have jA:=(k3.Ca (by rw[hh];rfl)).1;exact⟨jA.one,λ_=>jA.mono (gV cn)⟩
         | _=>simp[AV.eY]at eH
        ·rw[iT,if_neg e1,if_neg (by omega)]at dr;exact vd el dh dr (.inr (.inr (by omega)))
      ·rw[mE,List.getElem?_set_ne (λe=>vn e.symm)]at hx;exact vd x hx dr (.inl vn)
    obtain⟨ι',h',q1,q2,q3,q4,q5,q6⟩:=Sat.kl L SA (by rw[<- hH];exact QQ _ _ _) (by rw[vi];exact H8) (λi' j' n' vk=>by
     rw[hL]at vk;obtain⟨rfl,k,l8,off,len,rfl,hy⟩:=Cg vk;have eH:=sM sR hy;simp only[AV.eY,Bool.and_eq_true,Bool.not_eq_true']at eH;have lv:n'≠id:=λh=>by subst h;simp at eH
     obtain⟨e',bt,g',t',bZ,nY⟩:=Uh eH.2;obtain⟨u,d2,k1,k2,k3,k4⟩:=mF k _ hy;simp only[AV.d,nY]at k4;simp only[Mo.full,if_true,Option.some.injEq]at k4;have mC:l8=bt:=by
      cases k3 with
      | cI _ _ _ _ _ _ hd=>rw[hd]at nY;cases nY
      | cW _ _ _ _ _ cq=>rw[cq]at nY;cases nY;rfl
      | dz _ _ _ _ _ _ _ cq=>rw[cq]at nY;cases nY;rfl
      | r _ _ _ _ _ _ _ _ _ _ _ cq=>rw[cq]at nY;cases nY;rfl
     subst mC;refine⟨lv,u,l8,off,len,e',g',t',bZ,bB el j ds,?_,⟨bk,new,e0,hi,setRow_heap w bk cur _ e0 (0,0) hb,k1⟩,k3.mono hF hg,qH,by rw[k2,k4]⟩;show bN σ.h id _ n'=_;rw[QK _ _ _ _ lv];exact nY)
    refine HQ (σ:=σ) hd ?_ q1 ?_
    ·rw[ft];simp only[execOp,ho,cG,Sem.run_bind,cB,Result.andThen_ok,Sem.run_pure]
    ·rw[q2];funext k
     simp only[bA];rw[HT,<- vi];by_cases hk:k=id
     ·subst hk;have:k∉L.map λx=>x.2.2:=by
       intro hk;obtain⟨⟨i',j',n'⟩,sO,pf⟩:=List.mem_map.1 hk;simp only at pf;subst pf;rw[hL]at sO;obtain⟨rfl,q,l8,off,len,rfl,hq⟩:=Cg sO;have eH:=sM sR hq;simp[AV.eY]at eH
      rw[if_neg this,QQ,if_pos rfl,mE]
     ·rw[QK _ _ _ _ hk,if_neg hk];show _=if k∈L.map (λx=>x.2.2) then aX.dead else bN σ.h id _ k;rw[QK _ _ _ _ hk]
 ·cases he
end
end Go.Proofs.YtdplaepmjogjjaaGreat.Am
namespace Go.Proofs.YtdplaepmjogjjaaGreat.Am
open Go Go.RowKit
section
variable {C:Ctx} {U U':Nat->Prop} {σ:St} {a:Act} {w w':World} {ι:Io}
def JT(σ:St)(b id:Nat):Prop:=id=b\/(∃ e sz m es,σ.h id = .sl e sz m es)/\(σ.h id).own=true
structure lA(ι:Io)(K':Nat->Option (Nat × cM))(id idx b:Nat)(B:aX):Prop where
 k1:∀ k y p,ι.k k=some (y,p)->y≠id->y≠idx->K' k=some (y,p)
 k2:∀ k y p,K' k=some (y,p)->(ι.k k=some (y,p)/\y≠id/\y≠idx)\/(y=b/\p≠[]/\(∃ z q,ι.k k=some (z,q))/\∃ e sz g t H es,B = .sl e sz (.dp g t H) es)
def Io.over(ι:Io)(K':Nat->Option (Nat × cM))(id idx b:Nat)(g:Option Nat):Io:=⟨bN (bN (bN ι.b id none) idx none) b g,K',bN ι.o b 0⟩
def JJ(h:Nat->aX)(id idx b:Nat)(B:aX):Nat->aX:=bN (bN (bN h id .dead) idx .dead) b B
theorem Io.dO{ι:Io}{K':Nat->Option (Nat × cM)}{id idx b:Nat}{g:Option Nat}:(ι.over K' id idx b g) b=g:=QQ _ _ _
theorem Io.kN{ι:Io}{K':Nat->Option (Nat × cM)}{id idx b y:Nat}{g:Option Nat}(h1:y≠b)(h2:y≠id)(h3:y≠idx):(ι.over K' id idx b g) y=ι y:=by
 show bN _ _ _ _=_;rw[QK _ _ _ _ h1,QK _ _ _ _ h3,QK _ _ _ _ h2]
theorem Io.dP{ι:Io}{K':Nat->Option (Nat × cM)}{id idx b y k:Nat}{g:Option Nat}(h1:y≠b)(h:(ι.over K' id idx b g) y=some k):y≠id/\y≠idx/\ι y=some k:=by
 have h:bN (bN (bN ι.b id none) idx none) b g y=some k:=h;rw[QK _ _ _ _ h1]at h;by_cases h2:y=idx
 ·subst h2;rw[QQ]at h;cases h
 ·rw[QK _ _ _ _ h2]at h;by_cases h3:y=id
  ·subst h3;rw[QQ]at h;cases h
  ·rw[QK _ _ _ _ h3]at h;exact⟨h3,h2,h⟩
theorem JK{h:Nat->aX}{id idx b:Nat}{B:aX}:JJ h id idx b B b=B:=QQ _ _ _
theorem JP{h:Nat->aX}{id idx b y:Nat}{B:aX}(h1:y≠b)(h2:y≠id)(h3:y≠idx):JJ h id idx b B y=h y:=by
 unfold JJ;rw[QK _ _ _ _ h1,QK _ _ _ _ h3,QK _ _ _ _ h2]
theorem sS{h:Nat->aX}{id idx b y:Nat}{B:aX}(h1:y≠b)(h2:y=id\/y=idx):JJ h id idx b B y = .dead:=by
 unfold JJ;rw[QK _ _ _ _ h1];by_cases h3:y=idx
 ·subst h3;rw[QQ]
 ·rw[QK _ _ _ _ h3]
  rcases h2 with rfl | h2
  ·rw[QQ]
  ·exact absurd h2 h3
theorem Co(S:Sat C U σ a w ι){id idx b:Nat}(hb:U b)(bp:JT σ b id)(eV:JT σ b idx){B:aX}{K':Nat->Option (Nat × cM)}(hK:lA ι K' id idx b B)(b7:w.heap.size<=w'.heap.size)
  (hold:∀ k,k<w.heap.size->ι id≠some k->w'.heap[k]? = w.heap[k]?) {g:Option Nat} (hg:∀ k,g=some k->C.fr k/\k<w'.heap.size/\(w.heap.size<=k\/ι id=some k)) :
  (∀ k,Fz C w ι σ.h k->Fz C w' (ι.over K' id idx b g) (JJ σ.h id idx b B) k/\w'.heap[k]? = w.heap[k]?)/\
  (∀ i,dn w w' ι (ι.over K' id idx b g) σ.h (JJ σ.h id idx b B) i)/\(∀ i,i≠b->i≠id->i≠idx->Rest w w' ι (ι.over K' id idx b g) i):=by
 have dI:∀ y,JT σ b y->∀ k,Fz C w ι σ.h k->ι y≠some k:=by
  intro y hy k hk ly
  rcases hy with rfl | ⟨_,cE⟩
  ·rw[(S.fresh _ hb).2]at ly;cases ly
  ·have:=hk.2.2.1 y ly;rw[cE]at this
   cases this
 have gR:∀ k y p,ι.k k=some (y,p)->w'.heap[k]? = w.heap[k]?:=λk y p hk=>hold k (S.dA k y p hk).lt ((S.dA k y p hk).ne id);have b8:∀ i,i≠b->i≠id->i≠idx->Rest w w' ι (ι.over K' id idx b g) i:=λi h1 h2 h3 =>
  ⟨Io.kN h1 h2 h3,QK _ _ _ _ h1,λk hk=>hold k (S.eL i k hk).2 (λe=>h2 (S.inj i id k hk e)),λk p hk=>⟨hK.k1 k i p hk h2 h3,gR k i p hk⟩⟩
 refine⟨λk hk=>⟨⟨by have:=hk.1;omega,hk.2.1,λi ly=>?_,?_⟩,hold k hk.1 (dI id bp k hk)⟩,λi=>?_,b8⟩
 ·by_cases h1:i=b
  ·subst h1;rw[Io.dO]at ly;obtain⟨_,_,h3⟩:=hg k ly
   rcases h3 with h3 | h3
   ·have:=hk.1;omega
   ·exact absurd h3 (dI id bp k hk)
  ·obtain⟨h2,h3,h4⟩:=Io.dP h1 ly;rw[JP h1 h2 h3];exact hk.2.2.1 i h4
 ·show K' k=none
  cases hx:K' k with
  | none=>rfl
  | some z =>
   obtain⟨y,p⟩:=z
   rcases hK.k2 k y p hx with⟨h1,_⟩ | ⟨_,_,⟨z,q,h1⟩,_⟩
   ·rw[hk.2.2.2]at h1;cases h1
   ·rw[hk.2.2.2]at h1;cases h1
 ·by_cases h1:i=b
  ·subst h1;exact .inl (S.fresh i hb).1
  ·by_cases h2:i=id\/i=idx
   ·exact .inr (.inl (sS h1 h2))
   ·simp only[not_or]at h2;exact(b8 i h1 h2.1 h2.2).il (JP h1 h2.1 h2.2)
theorem Sat.kO(S:Sat C U σ a w ι){id idx b:Nat}(hb:U b)(bW:∀ i,U' i->U i/\i≠b)(bp:JT σ b id)(eV:JT σ b idx){B:aX}{K':Nat->Option (Nat × cM)}(hK:lA ι K' id idx b B)(j8:lf C w')(b7:w.heap.size<=w'.heap.size)
  (hold:∀ k,k<w.heap.size->ι id≠some k->w'.heap[k]? = w.heap[k]?) {g:Option Nat} (hg:∀ k,g=some k->C.fr k/\k<w'.heap.size/\(w.heap.size<=k\/ι id=some k)) (hB:B≠.none/\B≠.dead)
  (sL:BR w' (Fz C w' (ι.over K' id idx b g) (JJ σ.h id idx b B)) (ι.over K' id idx b g) (JJ σ.h id idx b B) b B) :
  Sat C U' ⟨σ.t,JJ σ.h id idx b B,σ.nx⟩ a w' (ι.over K' id idx b g):=by
 obtain⟨hF,jE,b8⟩:=Co S hb bp eV hK b7 hold hg;have lv:∀ y,JT σ b y->y≠b->∃ e sz m es,σ.h y = .sl e sz m es:=λy hy h=>hy.elim (λe=>absurd e h) (λh=>h.1);have jF:∀ i k,i≠b->(ι.over K' id idx b g) i=some k->g≠some k:=by
  intro i k h1 hi hgk;obtain⟨h2,_,h3⟩:=Io.dP h1 hi;obtain⟨_,_,h4⟩:=hg k hgk
  rcases h4 with h4 | h4
  ·have:=(S.eL i k h3).2;omega
  ·exact h2 (S.inj i id k h3 h4)
 refine S.eM j8 hF jE (λi cs hx=>by
  by_cases h:i=b
  ·subst h;rw[JK];exact hB.2
  ·by_cases h2:i=id\/i=idx
   ·rcases h2 with rfl | rfl
    ·obtain⟨e,sz,m,es,h3⟩:=lv _ bp h;rw[hx]at h3;cases h3
    ·obtain⟨e,sz,m,es,h3⟩:=lv _ eV h;rw[hx]at h3;cases h3
   ·simp only[not_or]at h2;rw[JP h h2.1 h2.2,hx];simp) (λi=>?_) (λi j k hi hj=>?_) (λi k hi=>?_) (λi hi=>?_) (λi k hi=>?_) (λk i p hk=>?_)
 ·by_cases h1:i=b
  ·subst h1;right;rw[JK];exact sL
  ·by_cases h2:i=id\/i=idx
   ·right;rw[sS h1 h2];exact .dead
   ·simp only[not_or]at h2;left;exact⟨JP h1 h2.1 h2.2,b8 i h1 h2.1 h2.2⟩
 ·by_cases h1:i=b
  ·by_cases h2:j=b
   ·rw[h1,h2]
   ·subst h1;rw[Io.dO]at hi;exact absurd hi (jF j k h2 hj)
  ·by_cases h2:j=b
   ·subst h2;rw[Io.dO]at hj;exact absurd hj (jF i k h1 hi)
   ·exact S.inj i j k (Io.dP h1 hi).2.2 (Io.dP h2 hj).2.2
 ·by_cases h1:i=b
  ·subst h1;rw[Io.dO]at hi;obtain⟨h2,h3,_⟩:=hg k hi;exact⟨.inl h2,h3⟩
  ·obtain⟨h2,h3,h4⟩:=Io.dP h1 hi;rw[JP h1 h2 h3];obtain⟨h5,h6⟩:=S.eL i k h4;exact⟨h5,by omega⟩
 ·obtain⟨h1,h2⟩:=bW i hi;have h3:=S.fresh i h1;have h4:∀ y,JT σ b y->i≠y:=by
   rintro y hy rfl
   obtain⟨e,sz,m,es,h5⟩:=lv _ hy h2;rw[h3.1]at h5;cases h5
  rw[JP h2 (h4 id bp) (h4 idx eV),Io.kN h2 (h4 id bp) (h4 idx eV)];exact h3
 ·by_cases h1:i=b
  ·subst h1;rw[JK];exact hB
  ·obtain⟨h2,h3,h4⟩:=Io.dP h1 hi;rw[JP h1 h2 h3];exact S.live i k h4
 ·have fJ:K' k=some (i,p):=hk;have dk:∀ L:(∀ z,ι z≠some k),∀ aY:k<w.heap.size,∀ z,(ι.over K' id idx b g) z≠some k:=λL aY z hz=>by
   by_cases h1:z=b
   ·subst h1;rw[Io.dO]at hz;obtain⟨_,_,h4⟩:=hg k hz
    rcases h4 with h4 | h4
    ·omega
    ·exact L id h4
   ·exact L z (Io.dP h1 hz).2.2
  rcases hK.k2 k i p fJ with⟨h1,h2,h3⟩ | ⟨rfl,h2,⟨z,q,h1⟩,h3⟩
  ·have L:=S.dA k i p h1;have h4:i≠b:=λh=>by subst h;obtain⟨_,_,_,_,_,_,h9⟩:=L.dp;rw[(S.fresh i hb).1]at h9;cases h9
   exact⟨L.pn,by rw[JP h4 h2 h3];exact L.dp,L.fr,by have:=L.lt;omega,dk L.ne L.lt⟩
  ·have L:=S.dA k z q h1;exact⟨h2,by rw[JK];exact h3,L.fr,by have:=L.lt;omega,dk L.ne L.lt⟩
structure Src(w:World)(R:Nat->Nat->Value->D->Prop)(sz:Nat)(u:Value)(xs:List (List D))(news:List Value):Prop where
 len:news.length=xs.length*sz
 val:(u = .slice none 0 0/\xs=[])\/∃ ad cap,u = .slice (some ad) xs.length cap/\∀ j v,news[j]? = some v->w.cell? (ad.add j)=some v
 one:∀ v,v∈news->v.oneCell'=true
 Ur:∀ e,e∈xs->e.length=sz
 rd:∀(p q:Nat)(el:List D)(d:D),xs[p]? = some el->el[q]? = some d->∃ v,news[p*sz+q]? = some v/\R p q v d
def i6(w:World)(F:Nat->Prop)(ι:Io)(h:Nat->aX):AV->Nat->Nat->Value->D->Prop
 | .r _ id off _,p,q,v,d=>match h id with
  | .sl _ _ (.dp _ _ _) _=>RL w ι.k id [(off+p,q)] v d
  | _=>Rd w F v d
 | .b _ id _ pt,p,q,v,d=>RL w ι.k id (pt++[(p,q)]) v d
 | _,_,_,v,d=>Rd w F v d
theorem RL.pA{w:World}{K:Nat->Option (Nat × cM)}{id:Nat}{p:cM}{v:Value}{d:D}{F:Nat->Prop}(h:RL w K id p v d)(hd:d.pl=true):Rd w F v d:=by
 cases h with
 | v _ x h=>exact .v _ h
 | nil=>exact .nil _
 | emp=>exact .emp _ _ _
 | sl _ b o len cap sz es cur e0 x hz dk =>
  cases es with
  | nil=>exact absurd rfl dk
  | cons=>simp[D.pl]at hd
theorem QKv{w:World}{F:Nat->Prop}{ι:Io}{h:Nat->aX}{x:AV}{p q:Nat}{v:Value}{d:D}(hr:i6 w F ι h x p q v d):v.oneCell'=true:=by
 unfold i6 at hr
 split at hr
 ·split at hr
  ·exact RL.one hr
  ·exact Rd.one hr
 ·exact RL.one hr
 ·exact Rd.one hr
theorem Ia{xs:List (List D)}(h:o3 xs=true){p q:Nat}{el:List D}{d:D}(hp:xs[p]? = some el)(hq:el[q]? = some d):d.pl=true :=
 List.all_eq_true.1 (List.all_eq_true.1 h el (List.mem_of_getElem? hp)) d (List.mem_of_getElem? hq)
theorem Ib{w:World}{F:Nat->Prop}{ι:Io}{h:Nat->aX}{x:AV}{xs:List (List D)}(cC:x.jy h xs=true){p q:Nat}{el:List D}{v:Value}{d:D}(hp:xs[p]? = some el)(hq:el[q]? = some d)(hr:i6 w F ι h x p q v d):Rd w F v d:=by
 unfold i6 at hr
 split at hr
 ·rename_i sz id off len;simp only[AV.jy]at cC
  split at hr
  ·rename_i hh;rw[hh]at cC;exact RL.pA hr (Ia cC hp hq)
  ·exact hr
 ·simp only[AV.jy]at cC;exact RL.pA hr (Ia cC hp hq)
 ·exact hr
theorem Us{p q sz:Nat}(hq:q<sz):(p*sz+q) / sz=p/\(p*sz+q) % sz=q:=by
 have h:0<sz:=by omega
 rw[Nat.mul_comm];constructor
 ·rw[Nat.mul_add_div h,Nat.div_eq_of_lt hq,Nat.add_zero]
 ·rw[Nat.mul_add_mod,Nat.mod_eq_of_lt hq]
theorem QKi(S:Sat C U σ a w ι){u:Value}{x:AV}{sz:Nat}{xs:List (List D)}(h0:0<sz)(hv:VR w (Fz C w ι σ.h) ι σ.h u x)(hx:x.fP σ.h sz=some xs) :
  ∃ news,Src w (i6 w (Fz C w ι σ.h) ι σ.h x) sz u xs news:=by
 cases hv with
 | u=>simp[AV.fP]at hx
 | c v d hr =>
  cases hr with
  | v=>simp[AV.fP]at hx
  | nil bt =>
   simp only[AV.fP]at hx
   split at hx
   ·cases hx;exact⟨[],by simp,.inl ⟨rfl,rfl⟩,by simp,by simp,by simp⟩
   ·cases hx
  | emp ad cap bt =>
   simp only[AV.fP]at hx
   split at hx
   ·cases hx;exact⟨[],by simp,.inr ⟨ad,cap,rfl,by simp⟩,by simp,by simp,by simp⟩
   ·cases hx
  | sl bk of len cap bt es xv hlen cr dj d5 hb hc hr =>
   simp only[AV.fP]at hx
   split at hx
   ·rename_i hs;simp only[Option.some.injEq]at hx;subst hx;subst hs;subst hlen;have nZ:∀ k,k<es.length*bt->∃ el d,es[k / bt]? = some el/\el[k % bt]? = some d:=by
     intro k hk;have h1:k / bt<es.length:=Nat.div_lt_of_lt_mul (by rw[Nat.mul_comm];exact hk);have h2:k % bt<es[k / bt].length:=by rw[d5 _ (List.getElem_mem h1)];exact Nat.mod_lt _ h0
     exact⟨es[k / bt],_,List.getElem?_eq_getElem h1,List.getElem?_eq_getElem h2⟩
    have hg:∀ k v,((List.range (es.length*bt)).map λk=>xv (k / bt) (k % bt))[k]? = some v->k<es.length*bt/\v=xv (k / bt) (k % bt):=by
     intro k v hk;have aY:=(List.getElem?_eq_some_iff.1 hk).1;simp only[List.length_map,List.length_range]at aY;rw[List.getElem?_map,List.getElem?_range aY]at hk;simp at hk;exact⟨aY,hk.symm⟩
    refine⟨(List.range (es.length*bt)).map λk=>xv (k / bt) (k % bt),by simp,.inr ⟨_,cap,rfl,λj v hj=>?_⟩,λv hv=>?_,d5,λp q el d hp hq=>?_⟩
    ·obtain⟨aY,rfl⟩:=hg j v hj;obtain⟨el,d,h1,h2⟩:=nZ j aY;rw[JE];have:=hc _ _ el d h1 h2;rw[show of+j / bt*bt+j % bt=of+j by have:=Nat.div_add_mod' j bt;omega]at this;exact this
    ·obtain⟨k,hk,he⟩:=List.getElem_of_mem hv;obtain⟨aY,rfl⟩:=hg k v (by rw[<- he];exact List.getElem?_eq_getElem hk);obtain⟨el,d,h1,h2⟩:=nZ k aY;exact(hr _ _ el d h1 h2).one
    ·have qI:q<bt:=by rw[<- d5 el (List.mem_of_getElem? hp)];exact(List.getElem?_eq_some_iff.1 hq).1
     have fT:=(List.getElem?_eq_some_iff.1 hp).1;have aY:p*bt+q<es.length*bt:=by
      have:(p+1)*bt<=es.length*bt:=Nat.mul_le_mul_right _ fT;rw[Nat.add_mul]at this;omega
     obtain⟨e1,e2⟩:=Us (p:=p) qI;refine⟨xv p q,?_,hr p q el d hp hq⟩;rw[List.getElem?_map,List.getElem?_range aY];simp[e1,e2]
   ·cases hx
 | n=>simp only[AV.fP,Option.some.injEq]at hx;subst hx;exact⟨[],by simp,.inl ⟨rfl,rfl⟩,by simp,by simp,by simp⟩
 | cI _ _ _ _ _ _ fm=>simp[AV.fP,fm]at hx
 | cW id e bt m hi hh =>
  simp only[AV.fP,hh]at hx
  split at hx
  ·cases hx;exact⟨[],by simp,.inl ⟨rfl,rfl⟩,by simp,by simp,by simp⟩
  ·cases hx
 | dz ad cap id e bt m hi hh ht =>
  simp only[AV.fP,hh]at hx
  split at hx
  ·cases hx;exact⟨[],by simp,.inr ⟨ad,cap,rfl,by simp⟩,by simp,by simp,by simp⟩
  ·cases hx
 | r id off len bk ao cap et bt m es hi hh hlen cr j2 dm =>
  simp only[AV.fP,hh]at hx
  split at hx
  rotate_left
  ·cases hx
  rename_i hs;obtain⟨hs,ea⟩:=hs;subst hs
  cases hx;have dH:=S.fH id;rw[hh]at dH;have lr:((es.drop off).take len).length=len:=by simp;omega
  have mz:∀(i:Nat)(el:List D),((es.drop off).take len)[i]? = some el->i<len/\es[off+i]? = some el:=by
   intro i el dh;have hi:=(List.getElem?_eq_some_iff.1 dh).1;rw[List.getElem?_take,if_pos (by omega),List.getElem?_drop]at dh;exact⟨by omega,dh⟩
  cases dH with
  | slnil =>
   simp at hlen;have:len=0:=by omega
   subst this;exact⟨[],by simp,.inr ⟨_,cap,by simp;rfl,by simp⟩,by simp,by simp,by simp⟩
  | sl nX _ e0 _ _ _ cur hz cc fe fj hle dj b7 d6 =>
   rw[hi]at cc;cases cc;have anK:ι.o id+off*bt+len*bt<=cur.size:=by
    have:(off+len)*bt<=es.length*bt:=Nat.mul_le_mul_right _ hlen;rw[Nat.add_mul]at this;omega
   have hg:∀ k,k<len*bt->((cur.toList.drop (ι.o id+off*bt)).take (len*bt))[k]? = cur[ι.o id+off*bt+k]?:=λk hk=>by rw[List.getElem?_take,if_pos hk,List.getElem?_drop];simp
   have jG:((cur.toList.drop (ι.o id+off*bt)).take (len*bt)).length=len*bt:=by simp;omega
   refine⟨(cur.toList.drop (ι.o id+off*bt)).take (len*bt),by rw[jG,lr],.inr ⟨_,cap,by rw[lr],λj v hj=>?_⟩,λv hv=>?_,λel dh=>b7 el (List.mem_of_mem_drop (List.mem_of_mem_take dh)),λp q el d hp hq=>?_⟩
   ·have n0:j<len*bt:=by rw[<- jG];exact(List.getElem?_eq_some_iff.1 hj).1
    rw[hg j n0]at hj;have:len≠0:=by rintro rfl;simp at n0
    rw[JE,j2 this];exact sE fe hj
   ·obtain⟨k,hk,he⟩:=List.getElem_of_mem hv;rw[jG]at hk;have gY:=hg k hk;rw[List.getElem?_eq_getElem (by rw[jG];exact hk),he]at gY;have h1:k / bt<len:=Nat.div_lt_of_lt_mul (by rw[Nat.mul_comm];exact hk);have gG:off+k / bt<es.length:=by omega
    have h2:k % bt<es[off+k / bt].length:=by rw[b7 _ (List.getElem_mem gG)];exact Nat.mod_lt _ h0
    obtain⟨v',h3,h4⟩:=d6 _ _ _ _ (List.getElem?_eq_getElem gG) (List.getElem?_eq_getElem h2);rw[show ι.o id+(off+k / bt)*bt+k % bt=ι.o id+off*bt+k by rw[Nat.add_mul];have:=Nat.div_add_mod' k bt;omega,<- gY]at h3
    cases h3;exact h4.one
   ·obtain⟨h3,h4⟩:=mz p el hp;obtain⟨v,h5,h6⟩:=d6 _ q el d h4 hq;have qI:q<bt:=by rw[<- b7 el (List.mem_of_getElem? h4)];exact(List.getElem?_eq_some_iff.1 hq).1
    refine⟨v,?_,?_⟩;rotate_left
    ·simp only[i6,hh]
     cases m with
     | dp g t H =>
      cases H with
      | nil=>exact h6.2 (by simp)
      | cons=>simp[Mo.full]at ea
     | _=>exact h6
    have aY:p*bt+q<len*bt:=by
     have:(p+1)*bt<=len*bt:=Nat.mul_le_mul_right _ h3;rw[Nat.add_mul]at this;omega
    rw[hg _ aY,<- h5,Nat.add_mul];congr 1
    omega
 | dg=>simp[AV.fP]at hx
 | p=>simp[AV.fP]at hx
 | q=>simp[AV.fP]at hx
 | a=>simp[AV.fP]at hx
 | fa=>simp[AV.fP]at hx
 | bq=>simp[AV.fP]at hx
 | fN v d id g p h1 hd =>
  cases d with
  | v=>simp[AV.fP]at hx
  | sl bt es=>simp[AV.fP,hd,aX.dG]at hx
 | b v d id g p e l8 m n8 h1 hh jq j0 =>
  cases d with
  | v=>simp[AV.fP]at hx
  | sl bt es =>
  simp only[AV.fP]at hx
  split at hx
  rotate_left
  ·cases hx
  rename_i HP;obtain⟨rfl,hg⟩:=HP;simp only[Option.some.injEq]at hx;subst hx;rw[hh]at hg;obtain⟨jA,_⟩:=j0 (aX.eT hg)
  cases jA with
  | nil=>exact⟨[],by simp,.inl ⟨rfl,rfl⟩,by simp,by simp,by simp⟩
  | emp _ ad cap=>exact⟨[],by simp,.inr ⟨ad,cap,rfl,by simp⟩,by simp,by simp,by simp⟩
  | sl _ bk of len cap _ _ cur e0 xv hz dk hlen cr dj d5 hk fe hle hc hr =>
   subst hlen;have nZ:∀ k,k<es.length*bt->∃ el d,es[k / bt]? = some el/\el[k % bt]? = some d:=by
    intro k hk;have h1:k / bt<es.length:=Nat.div_lt_of_lt_mul (by rw[Nat.mul_comm];exact hk);have h2:k % bt<es[k / bt].length:=by rw[d5 _ (List.getElem_mem h1)];exact Nat.mod_lt _ h0
    exact⟨es[k / bt],_,List.getElem?_eq_getElem h1,List.getElem?_eq_getElem h2⟩
   have hg:∀ k v,((List.range (es.length*bt)).map λk=>xv (k / bt) (k % bt))[k]? = some v->k<es.length*bt/\v=xv (k / bt) (k % bt):=by
    intro k v hk;have aY:=(List.getElem?_eq_some_iff.1 hk).1;simp only[List.length_map,List.length_range]at aY;rw[List.getElem?_map,List.getElem?_range aY]at hk;simp at hk;exact⟨aY,hk.symm⟩
   refine⟨(List.range (es.length*bt)).map λk=>xv (k / bt) (k % bt),by simp,.inr ⟨_,cap,rfl,λj v hj=>?_⟩,λv hv=>?_,d5,λp q el d hp hq=>?_⟩
   ·obtain⟨aY,rfl⟩:=hg j v hj;obtain⟨el,d,h1,h2⟩:=nZ j aY;rw[JE];have:=hc _ _ el d h1 h2;rw[show of+j / bt*bt+j % bt=of+j by have:=Nat.div_add_mod' j bt;omega]at this;exact sE fe this
   ·obtain⟨k,hk,he⟩:=List.getElem_of_mem hv;obtain⟨aY,rfl⟩:=hg k v (by rw[<- he];exact List.getElem?_eq_getElem hk);obtain⟨el,d,h1,h2⟩:=nZ k aY;exact(hr _ _ el d h1 h2).one
   ·have qI:q<bt:=by rw[<- d5 el (List.mem_of_getElem? hp)];exact(List.getElem?_eq_some_iff.1 hq).1
    have fT:=(List.getElem?_eq_some_iff.1 hp).1;have aY:p*bt+q<es.length*bt:=by
     have:(p+1)*bt<=es.length*bt:=Nat.mul_le_mul_right _ fT;rw[Nat.add_mul]at this;omega
    obtain⟨e1,e2⟩:=Us (p:=p) qI;refine⟨xv p q,?_,hr p q el d hp hq⟩;rw[List.getElem?_map,List.getElem?_range aY];simp[e1,e2]
 | t=>simp[AV.fP]at hx
theorem Ic{R T0 T:Nat->Nat->Value->D->Prop}{sz len:Nat}{es xs:List (List D)}{cur new:Array Value}{news:List Value}{u:Value}(hlen:len<=es.length)
  (gW:∀(p q:Nat)(el:List D)(d:D),es[p]? = some el->el[q]? = some d->∃ v,cur[p*sz+q]? = some v/\T0 p q v d) (b7:∀ e,e∈es->e.length=sz) (src:Src w R sz u xs news)
  (hT0:∀ p q v d,p<len->T0 p q v d->T p q v d) (hT:∀ p q el v d,xs[p]? = some el->el[q]? = some d->R p q v d->T (len+p) q v d)
  (h1:∀ k,k<len*sz->new[k]? = cur[k]?) (h2:∀ k,k<xs.length*sz->new[len*sz+k]? = news[k]?) :
  (∀ e,e∈es.take len++xs->e.length=sz)/\∀(p q:Nat)(el:List D)(d:D),(es.take len++xs)[p]? = some el->el[q]? = some d->∃ v,new[p*sz+q]? = some v/\T p q v d:=by
 refine⟨λe he=>?_,λp q el d hp hq=>?_⟩
 ·rcases List.mem_append.1 he with he | he
  ·exact b7 e (List.mem_of_mem_take he)
  ·exact src.Ur e he
 ·rw[List.getElem?_append,List.length_take,Nat.min_eq_left hlen]at hp
  split at hp
  ·rename_i aY;rw[List.getElem?_take,if_pos aY]at hp;have qI:q<sz:=by rw[<- b7 el (List.mem_of_getElem? hp)];exact(List.getElem?_eq_some_iff.1 hq).1
   obtain⟨v,h3,h4⟩:=gW p q el d hp hq;have:(p+1)*sz<=len*sz:=Nat.mul_le_mul_right _ aY;rw[Nat.add_mul]at this;exact⟨v,by rw[h1 _ (by omega)];exact h3,hT0 p q v d aY h4⟩
  ·rename_i jq;have qI:q<sz:=by rw[<- src.Ur el (List.mem_of_getElem? hp)];exact(List.getElem?_eq_some_iff.1 hq).1
   have fT:=(List.getElem?_eq_some_iff.1 hp).1;obtain⟨v,h3,h4⟩:=src.rd (p-len) q el d hp hq;have h5:(p-len+1)*sz<=xs.length*sz:=Nat.mul_le_mul_right _ fT;have h6:p*sz=len*sz+(p-len)*sz:=by rw[<- Nat.add_mul];congr 1;omega
   rw[Nat.add_mul]at h5;have h7:=hT (p-len) q el v d hp hq h4;rw[show len+(p-len)=p by omega]at h7;refine⟨v,?_,h7⟩;rw[h6,Nat.add_assoc,h2 _ (by omega)];exact h3
structure Take(C:Ctx)(σ:St)(w:World)(ι:Io)(K':Nat->Option (Nat × cM))(b len:Nat)(M M0:Mo)(id:Nat)(R:Nat->Nat->Value->D->Prop)(xs:List (List D)):Prop where
 t0:∀(w':World)(F':Nat->Prop)(ι':Io),ι'.k=K'->(∀ k,Fz C w ι σ.h k->F' k/\w'.heap[k]? = w.heap[k]?)->(∀ k y p,ι.k k=some (y,p)->w'.heap[k]? = w.heap[k]?)->∀ p q v d,p<len->RM w (Fz C w ι σ.h) ι id M0 p q v d->RM w' F' ι' b M p q v d
 t:∀(w':World)(F':Nat->Prop)(ι':Io),ι'.k=K'->(∀ k,Fz C w ι σ.h k->F' k/\w'.heap[k]? = w.heap[k]?)->(∀ k y p,ι.k k=some (y,p)->w'.heap[k]? = w.heap[k]?)->∀ p q el v d,xs[p]? = some el->el[q]? = some d->R p q v d->RM w' F' ι' b M (len+p) q v d
theorem Ut{P:Program}{w:World}{t ty et sz n cap:Nat}{base:Option Addr}(ht:P.underlying t=some (.slice et))(b7:cK P et=some sz)(hc:n<=cap) :
  (Builtin.append_ #[t,t] ty #[.slice base n cap,.slice none 0 0]).run P w = .ok (.slice base n cap) w:=by
 have hr:=λw=>o7 b7 w
 cases base <;> simp[Builtin.append_,run_underlying ht,hr,Builtin.lenOf,Builtin.firstCells,hc,storeCells]
theorem Q0p{P:Program}{w:World}{t ty et sz cap:Nat}{ad:Addr}(ht:P.underlying t=some (.slice et))(b7:cK P et=some sz) :
  (Builtin.append_ #[t,t] ty #[.slice none 0 0,.slice (some ad) 0 cap]).run P w = .ok (.slice none 0 0) w:=by
 have hr:=λw=>o7 b7 w;simp[Builtin.append_,run_underlying ht,hr,Builtin.lenOf,Builtin.firstCells,loadCells,loadCellsFrom]
end
section
variable {C:Ctx} {U U':Nat->Prop} {σ:St} {a:Act} {w:World} {ι:Io} {o:Oper} {Q:Exit->Act->World->Prop} {Γ:eR} {b:Nat} {e:fI}
variable (S:Sat C U σ a w ι) (hd:∀ d,o.dst=some d->d<C.N) (hb:U b) (bW:∀ i,U' i->U i/\i≠b)
include S hd hb bW
theorem Cp{s x:Operand}{t et sz:Nat}{i:TypeInfo}{z:Value}(ho:o.op = .call { callee:=.builtin .append,args:=#[s,x],argTypes:=#[t,t] })(ht:C.P.underlying t=some (.slice et))(hi:C.P.info? et=some i)(hz:i.zero=some z)
  (b7:i.size=sz) (px:z.cells.size=sz) (mD:i.bytes<=32768) (h0:0<sz) {id idx:Nat} {M M0:Mo} {K':Nat->Option (Nat × cM)} {R:Nat->Nat->Value->D->Prop} (bp:JT σ b id) (eV:JT σ b idx) (hιn:ι id=none) (hs:a.eval s = .slice none 0 0)
  {xs:List (List D)} {news:List Value} (src:Src w R sz (a.eval x) xs news) (hK:lA ι K' id idx b (.sl et sz M xs)) (hT:Take C σ w ι K' b 0 M M0 id R xs) (fq:xs.length<=bP) {bl:List (Nat × aX)} (iv:bA σ.h bl=JJ σ.h id idx b (.sl et sz M xs)) :
  o.wp C.P a w (λa' w'=>cJ C U' (σ.app o.dst ⟨.r sz b 0 xs.length,bl⟩) a' w') Q:=by
 have mG:xs.length<=4294967296:=fq;have gR:∀ w':World,(∀ k,k<w.heap.size->ι id≠some k->w'.heap[k]? = w.heap[k]?)->∀ k y p,ι.k k=some (y,p)->w'.heap[k]? = w.heap[k]?:=λw' hold k y p hk=>hold k (S.dA k y p hk).lt ((S.dA k y p hk).ne id);by_cases qJ:xs=[]
 ·subst qJ;have hold:∀ k,k<w.heap.size->ι id≠some k->w.heap[k]? = w.heap[k]?:=λ_ _ _=>rfl;have SA:=S.kO hb bW bp eV hK S.dR (Nat.le_refl _) hold (g:=none) (by simp) ⟨by simp,by simp⟩ (.slnil et sz M h0 Io.dO);refine pw (σ:=σ) hd (v:=.slice none 0 0) ?_ SA (.cW b et sz M Io.dO JK) iv
  rcases src.val with⟨h1,_⟩ | ⟨ad,cap,h1,_⟩
  ·have:=Ut (P:=C.P) (w:=w) (ty:=o.type) (base:=none) (n:=0) (cap:=0) (sz:=sz) ht (by unfold cK;rw[hi];simp[b7]) (Nat.le_refl 0);simp[execOp,ho,resolve,invoke,builtin,hs,h1,this]
  ·have:=Q0p (P:=C.P) (w:=w) (ty:=o.type) (ad:=ad) (cap:=cap) (sz:=sz) ht (by unfold cK;rw[hi];simpa using b7);simp only[List.length_nil]at h1;simp[execOp,ho,resolve,invoke,builtin,hs,h1,this]
 ·rcases src.val with⟨_,h1⟩ | ⟨ad,cap,h1,dD⟩
  ·exact absurd h1 qJ
  ·have jH:0<xs.length:=List.length_pos_iff.2 qJ;have jG:news.length=xs.length*i.size:=by rw[src.len,b7]
   have ix:xs.length*i.bytes<=281474976710656:=by
    have:=Nat.mul_le_mul mG mD;omega
   have cB:=run_append_nil (P:=C.P) w t o.type et i z ht hi hz ad xs.length cap news jG dD jH (by omega) ix;have jq:=grownCap_ge w xs.length 0 et;have hle:=grownCap_le_maxLen w xs.length 0 et (by simp[maxLen];omega);generalize grownCap w xs.length 0 et=G at *;have hold:∀ k,k<w.heap.size->ι id≠some k->(w.drew.alloc (.cells (news.toArray++Builtin.zeroCells z.cells (G-xs.length)) et)).heap[k]? = w.heap[k]?:=λk hk _=>Below.heap_alloc w.drew _ k hk;have j8:lf C (w.drew.alloc (.cells (news.toArray++Builtin.zeroCells z.cells (G-xs.length)) et)):=by
    have:lf C w.drew:=⟨S.dR.os,S.dR.tape,S.dR.output,S.dR.size,S.dR.block⟩
    exact this.alloc _
   have hg:∀ k,some w.heap.size=some k->C.fr k/\k<(w.drew.alloc (.cells (news.toArray++Builtin.zeroCells z.cells (G-xs.length)) et)).heap.size/\(w.heap.size<=k\/ι id=some k):=by
    intro k hk;cases hk;exact⟨.inl S.dR.size,by simp,.inl (Nat.le_refl _)⟩
   obtain⟨hF,jE,_⟩:=Co (w':=w.drew.alloc (.cells (news.toArray++Builtin.zeroCells z.cells (G-xs.length)) et)) S hb bp eV hK (by simp) hold (g:=some w.heap.size) hg;have mH:(news.toArray++Builtin.zeroCells z.cells (G-xs.length)).size=G*sz:=by
    rw[Array.size_append,size_zeroCells,px];simp only[List.size_toArray,src.len];rw[<- Nat.add_mul];congr 1
    omega
   have ft:∀ k,k<xs.length*sz->(news.toArray++Builtin.zeroCells z.cells (G-xs.length))[0*sz+k]? = news[k]?:=by
    intro k hk;rw[Nat.zero_mul,Nat.zero_add,Array.getElem?_append_left (by simpa[src.len]using hk)];simp
   have fp:(ι.over K' id idx b (some w.heap.size)).o b=0:=QQ _ _ _;obtain⟨c1,c2⟩:=Ic (T0:=λ_ _ _ _=>False) (T:=RM (w.drew.alloc (.cells (news.toArray++Builtin.zeroCells z.cells (G-xs.length)) et)) _ (ι.over K' id idx b (some w.heap.size)) b M) (sz:=sz) (len:=0) (es:=[]) (cur:=#[]) (Nat.zero_le _) (by simp) (by simp) src
    (λp q v d h _=>absurd h (Nat.not_lt_zero _)) (hT.t _ _ (ι.over K' id idx b (some w.heap.size)) rfl hF (gR _ hold)) (by simp) ft
   have SA:=S.kO hb bW bp eV hK j8 (by simp) hold hg ⟨by simp,by simp⟩
    (.sl w.heap.size et et sz M xs _ h0 Io.dO (heap_alloc_new w.drew _) (λ_=>⟨rfl,fp,G,mH,by omega,hle⟩) (by rw[fp,mH,Nat.zero_add];exact Nat.mul_le_mul_right _ (by omega)) (by omega) (by simpa using c1)
     (λp q el d hp hq=>by obtain⟨v,k1,k2⟩:=c2 p q el d (by simpa using hp) hq;exact⟨v,by rw[fp,Nat.zero_add];exact k1,k2⟩))
   refine pw (σ:=σ) hd ?_ SA (.r b 0 xs.length w.heap.size 0 G et sz M xs Io.dO JK (by omega) (by omega) (λ_=>by rw[fp];simp) (λ_ _=>⟨rfl,?_⟩)) iv
   ·simp[execOp,ho,resolve,invoke,builtin,hs,h1,cB]
   ·unfold World.shape?;rw[show(w.drew.alloc (.cells (news.toArray++Builtin.zeroCells z.cells (G-xs.length)) et)).heap[w.heap.size]? = some (.cells (news.toArray++Builtin.zeroCells z.cells (G-xs.length)) et) from heap_alloc_new w.drew _];simp[mH]
theorem Uu{s x:Operand}{t et sz:Nat}{i:TypeInfo}{z:Value}(ho:o.op = .call { callee:=.builtin .append,args:=#[s,x],argTypes:=#[t,t] })(ht:C.P.underlying t=some (.slice et))(hi:C.P.info? et=some i)(hz:i.zero=some z)
  (b7:i.size=sz) (px:z.cells.size=sz) (mD:i.bytes<=32768) (h0:0<sz) {id idx bk cap len:Nat} {M M0:Mo} {K':Nat->Option (Nat × cM)} {R:Nat->Nat->Value->D->Prop} {es:List (List D)} {cur:Array Value} (hh:σ.h id = .sl et sz M0 es) (Ie:M0.own=true) (eV:JT σ b idx) (fe:ι id=some bk) (hs:a.eval s = .slice (some ⟨bk,0,none⟩) len cap)
  (ec:w.heap[bk]? = some (.cells cur et (0,0))) (hC:cur.size=cap*sz) (hle:es.length<=cap) (sP:cap<=maxLen) (d5:∀ e,e∈es->e.length=sz)
  (gW:∀(p q:Nat)(el:List D)(d:D),es[p]? = some el->el[q]? = some d->∃ v,cur[p*sz+q]? = some v/\RM w (Fz C w ι σ.h) ι id M0 p q v d) (hlen:len<=es.length)
  {xs:List (List D)} {news:List Value} (src:Src w R sz (a.eval x) xs news) (hK:lA ι K' id idx b (.sl et sz M (es.take len++xs))) (hT:Take C σ w ι K' b len M M0 id R xs) (fU:len=es.length\/len+xs.length<=es.length) (fq:len+xs.length<=bP)
  {bl:List (Nat × aX)} (iv:bA σ.h bl=JJ σ.h id idx b (.sl et sz M (es.take len++xs))) :
  o.wp C.P a w (λa' w'=>cJ C U' (σ.app o.dst ⟨.r sz b 0 (len+xs.length),bl⟩) a' w') Q:=by
 have mG:len+xs.length<=4294967296:=fq;have bp:JT σ b id:=.inr ⟨⟨_,_,_,_,hh⟩,by rw[hh];exact Ie⟩;have lh:=S.eL id bk fe;have Uv:C.fr bk:=lh.1.elim (λh=>h) λ⟨_,cs,h⟩=>by rw[hh]at h;cases h
 have gq:(es.take len++xs).length=len+xs.length:=by simp;omega
 have gR:∀ w':World,(∀ k,k<w.heap.size->ι id≠some k->w'.heap[k]? = w.heap[k]?)->∀ k y p,ι.k k=some (y,p)->w'.heap[k]? = w.heap[k]?:=λw' hold k y p hk=>hold k (S.dA k y p hk).lt ((S.dA k y p hk).ne id);have fp:∀ g,(ι.over K' id idx b g).o b=0:=λg=>QQ _ _ _;have place:∀ new:Array Value,new.size=cur.size->(∀ k,k<len*sz->new[k]? = cur[k]?)->(∀ k,k<xs.length*sz->new[len*sz+k]? = news[k]?)->len+xs.length<=cap->
   (execOp a.eval o).run C.P w = .ok (.value (.slice (some ⟨bk,0,none⟩) (len+xs.length) cap)) (w.setRow bk new)->
   o.wp C.P a w (λa' w'=>cJ C U' (σ.app o.dst ⟨.r sz b 0 (len+xs.length),bl⟩) a' w') Q:=by
  intro new kM fR nV cr cB;have hold:∀ k,k<w.heap.size->ι id≠some k->(w.setRow bk new).heap[k]? = w.heap[k]?:=λk _ hk=>setRow_other w bk k new (λe=>hk (by rw[fe,e]));have hg:∀ k,some bk=some k->C.fr k/\k<(w.setRow bk new).heap.size/\(w.heap.size<=k\/ι id=some k):=by
   intro k hk;cases hk;exact⟨Uv,by simpa using lh.2,.inr fe⟩
  obtain⟨hF,jE,_⟩:=Co (w':=w.setRow bk new) S hb bp eV hK (by simp) hold (g:=some bk) hg;obtain⟨c1,c2⟩:=Ic (T:=RM (w.setRow bk new) _ (ι.over K' id idx b (some bk)) b M) hlen gW d5 src (hT.t0 _ _ (ι.over K' id idx b (some bk)) rfl hF (gR _ hold)) (hT.t _ _ (ι.over K' id idx b (some bk)) rfl hF (gR _ hold)) fR nV;have SA:=S.kO hb bW bp eV hK (S.dR.setRow Uv.dR new) (by simp) hold hg ⟨by simp,by simp⟩
   (.sl bk et et sz M _ new h0 Io.dO (setRow_heap w bk cur new et (0,0) ec) (λ_=>⟨rfl,fp _,cap,by omega,by omega,sP⟩) (by rw[fp,Nat.zero_add,gq,kM,hC];exact Nat.mul_le_mul_right _ cr) (by omega) c1
    (λp q el d hp hq=>by obtain⟨v,k1,k2⟩:=c2 p q el d hp hq;exact⟨v,by rw[fp,Nat.zero_add];exact k1,k2⟩))
  refine pw (σ:=σ) hd cB SA (.r b 0 (len+xs.length) bk 0 cap et sz M _ Io.dO JK (by omega) cr (λ_=>by rw[fp];simp) (λ_ _=>⟨rfl,?_⟩)) iv;unfold World.shape?;rw[setRow_heap w bk cur new et (0,0) ec];simp[kM,hC]
 rcases src.val with⟨h1,h2⟩ | ⟨ad,cx,h1,dD⟩
 ·subst h2;refine place cur rfl (λ_ _=>rfl) (by simp) (by simp;omega) ?_;have:=Ut (P:=C.P) (w:=w) (ty:=o.type) (base:=some ⟨bk,0,none⟩) (n:=len) (cap:=cap) (sz:=sz) ht (by unfold cK;rw[hi];simpa using b7) (by omega);rw[setRow_self w bk cur et (0,0) ec];simp[execOp,ho,resolve,invoke,builtin,hs,h1,this]
 ·have jz:∀ u,u∈news->u.oneCell'=true:=src.one;by_cases jI:len+xs.length<=cap
  ·have gy:len*i.size+news.length<=cur.size:=by
    rw[src.len,b7,hC,<- Nat.add_mul];exact Nat.mul_le_mul_right _ jI
   have cB:=run_append_room (P:=C.P) w t o.type et i ht hi bk len cap cur ec ad xs.length cx news (by rw[src.len,b7]) dD jz jI gy;rw[b7]at gy;rw[b7]at cB;have gK:=pd (l:=cur.toList) (xs:=news) (j:=len*sz) (by simpa using gy);have Ig:(bB cur.toList (len*sz) news).length=cur.toList.length:=pe (by simpa using gy);refine place (bB cur.toList (len*sz) news).toArray (by simpa using Ig) (λk hk=>?_) (λk hk=>?_) jI ?_
   ·rw[List.getElem?_toArray,gK k,if_pos hk];simp
   ·rw[List.getElem?_toArray,gK,if_neg (by omega),if_pos (by rw[src.len];omega)];congr 1
    omega
   ·unfold bB;simp[execOp,ho,resolve,invoke,builtin,hs,h1,cB]
  ·have kp:len=es.length:=by omega
   have holds:∀ j v,(cur.toList.take (len*sz))[j]? = some v->w.cell? ((⟨bk,0,none⟩:Addr).add j)=some v:=by
    intro j v hj;rw[JE,Nat.zero_add];rw[List.getElem?_take]at hj
    split at hj
    ·exact sE ec (by simpa using hj)
    ·cases hj
   have Uw:len*sz<=cur.size:=by rw[hC];exact Nat.mul_le_mul_right _ (by omega)
   have Ih:(cur.toList.take (len*sz)).length=len*i.size:=by rw[b7];simp;omega
   have ix:(len+xs.length)*i.bytes<=140737488355328:=by
    have:=Nat.mul_le_mul mG mD;omega
   have cB:=run_append_grow (P:=C.P) w t o.type et i z ht hi hz ⟨bk,0,none⟩ len cap (cur.toList.take (len*sz)) Ih holds ad xs.length cx news (by rw[src.len,b7]) dD (by omega) (by omega) (growslice_fits (by omega) ix);have jq:=grownCap_ge w (len+xs.length) cap et;have Ii:=grownCap_le_maxLen w (len+xs.length) cap et (by simp[maxLen];omega);generalize grownCap w (len+xs.length) cap et=G at *;generalize mI:((cur.toList.take (len*sz)).toArray++news.toArray++Builtin.zeroCells z.cells (G-(len+xs.length)))=new at *;have kM:new.size=G*sz:=by
    rw[<- mI,Array.size_append,Array.size_append,size_zeroCells,px];simp only[List.size_toArray,src.len,Ih,b7];rw[<- Nat.add_mul,<- Nat.add_mul];congr 1
    omega
   have pB:(cur.toList.take (len*sz)).length=len*sz:=by rw[Ih,b7]
   have fR:∀ k,k<len*sz->new[k]? = cur[k]?:=by
    intro k hk;rw[<- mI,Array.append_assoc,Array.getElem?_append_left (by simpa[pB]using hk),List.getElem?_toArray,List.getElem?_take,if_pos hk];simp
   have nV:∀ k,k<xs.length*sz->new[len*sz+k]? = news[k]?:=by
    intro k hk;rw[<- mI,Array.append_assoc,Array.getElem?_append_right (by simp[pB])];rw[Array.getElem?_append_left (by simp[src.len,pB];omega)];simp[pB]
   have hold:∀ k,k<w.heap.size->ι id≠some k->(w.drew.alloc (.cells new et)).heap[k]? = w.heap[k]?:=λk hk _=>Below.heap_alloc w.drew _ k hk;have j8:lf C (w.drew.alloc (.cells new et)):=by
    have:lf C w.drew:=⟨S.dR.os,S.dR.tape,S.dR.output,S.dR.size,S.dR.block⟩
    exact this.alloc _
   have hg:∀ k,some w.heap.size=some k->C.fr k/\k<(w.drew.alloc (.cells new et)).heap.size/\(w.heap.size<=k\/ι id=some k):=by
    intro k hk;cases hk;exact⟨.inl S.dR.size,by simp,.inl (Nat.le_refl _)⟩
   obtain⟨hF,jE,_⟩:=Co (w':=w.drew.alloc (.cells new et)) S hb bp eV hK (by simp) hold (g:=some w.heap.size) hg;obtain⟨c1,c2⟩:=Ic (T:=RM (w.drew.alloc (.cells new et)) _ (ι.over K' id idx b (some w.heap.size)) b M) hlen gW d5 src (hT.t0 _ _ (ι.over K' id idx b (some w.heap.size)) rfl hF (gR _ hold)) (hT.t _ _ (ι.over K' id idx b (some w.heap.size)) rfl hF (gR _ hold)) fR nV;have SA:=S.kO hb bW bp eV hK j8 (by simp) hold hg ⟨by simp,by simp⟩
    (.sl w.heap.size et et sz M _ new h0 Io.dO (heap_alloc_new w.drew _) (λ_=>⟨rfl,fp _,G,kM,by omega,Ii⟩) (by rw[fp,Nat.zero_add,gq,kM];exact Nat.mul_le_mul_right _ (by omega)) (by omega) c1
     (λp q el d hp hq=>by obtain⟨v,k1,k2⟩:=c2 p q el d hp hq;exact⟨v,by rw[fp,Nat.zero_add];exact k1,k2⟩))
   refine pw (σ:=σ) hd ?_ SA (.r b 0 (len+xs.length) w.heap.size 0 G et sz M _ Io.dO JK (by omega) (by omega) (λ_=>by rw[fp];simp) (λ_ _=>⟨rfl,?_⟩)) iv
   ·simp[execOp,ho,resolve,invoke,builtin,hs,h1,cB]
   ·unfold World.shape?;rw[show(w.drew.alloc (.cells new et)).heap[w.heap.size]? = some (.cells new et) from heap_alloc_new w.drew _];simp[kM]
def Io.join(ι:Io)(b id len idx off l:Nat):Nat->Option (Nat × cM):=λk=>match ι.k k with
 | some (y,p)=>match p with
  | (a,c)::q=>if y=id/\a<len then some (b,(a,c)::q) else if y=idx/\off<=a/\a<off+l then some (b,(len+(a-off),c)::q) else if y=id\/y=idx then none else some (y,p)
  | []=>if y=id\/y=idx then none else some (y,p)
 | none=>none
omit S hd hb bW in
theorem Ij{B:aX}{id:Nat}(hn:∀ k p,ι.k k≠some (id,p))(iv:∀ k p,ι.k k≠some (b,p)):lA ι ι.k id b b B :=
 ⟨λk y p h _ _=>h,λk y p h=>.inl ⟨h,λe=>by subst e;exact hn k p h,λe=>by subst e;exact iv k p h⟩⟩
omit S hd hb bW in
theorem Ik{id len idx off l:Nat}{B:aX}(hB:∃ e sz g t H es,B = .sl e sz (.dp g t H) es):lA ι (ι.join b id len idx off l) id idx b B:=by
 refine⟨λk y p h h1 h2=>?_,λk y p h=>?_⟩
 ·simp only[Io.join,h]
  cases p with
  | nil=>simp only;rw[if_neg (by simp[h1,h2])]
  | cons c q=>obtain⟨a,c⟩:=c;simp only;rw[if_neg (λe=>h1 e.1),if_neg (λe=>h2 e.1),if_neg (by simp[h1,h2])]
 ·simp only[Io.join]at h
  split at h
  rotate_left
  ·cases h
  rename_i z r hz
  split at h
  ·split at h
   ·cases h;exact .inr ⟨rfl,by simp,⟨_,_,hz⟩,hB⟩
   ·split at h
    ·cases h;exact .inr ⟨rfl,by simp,⟨_,_,hz⟩,hB⟩
    ·split at h
     ·cases h
     ·rename_i hn
      cases h;simp only[not_or]at hn;exact .inl ⟨hz,hn.1,hn.2⟩
  ·split at h
   ·cases h
   ·rename_i hn
    cases h;simp only[not_or]at hn;exact .inl ⟨hz,hn.1,hn.2⟩
omit hd bW in
theorem QUx:∀ k p,ι.k k≠some (b,p):=λk p h=>by
 obtain⟨_,_,_,_,_,_,h9⟩:=(S.dA k b p h).dp;rw[(S.fresh b hb).1]at h9
 cases h9
omit S hd hb bW in
theorem Il{K':Nat->Option (Nat × cM)}{len id:Nat}{R:Nat->Nat->Value->D->Prop}{xs:List (List D)}(hR:∀ p q el v d,xs[p]? = some el->el[q]? = some d->R p q v d->Rd w (Fz C w ι σ.h) v d):Take C σ w ι K' b len .ow .ow id R xs :=
 ⟨λw' F' ι' _ hF _ p q v d _ h=>Rd.mono hF h,λw' F' ι' _ hF _ p q el v d h1 h2 h=>(hR p q el v d h1 h2 h).mono hF⟩
omit S hd hb bW in
theorem Im{len id idx off g:Nat}{t:Bool}{M0:Mo}{x:AV}{xs:List (List D)}(Ie:len=0\/∃ g t,M0 = .dp g t [])(eH:x.dT σ.h id len xs=true)
  (hx:(∃ sz l e bt g t H es,x = .r sz idx off l/\σ.h idx = .sl e bt (.dp g t H) es)\/o3 xs=true) :
  Take C σ w ι (ι.join b id len idx off xs.length) b len (.dp g t []) M0 id (i6 w (Fz C w ι σ.h) ι σ.h x) xs:=by
 refine⟨λw' F' ι' hk hF hl p q v d hp h=>?_,λw' F' ι' hk hF hl p q el v d h1 h2 h=>?_⟩
 ·rcases Ie with h0 | ⟨g0,t0,rfl⟩
  ·omega
  ·refine⟨h.1,λ_=>(h.2 (by simp)).map _ λk r fJ=>⟨?_,hl k id _ fJ⟩⟩;rw[hk];simp only[List.singleton_append]at fJ ⊢;simp only[Io.join,fJ];rw[if_pos ⟨trivial,hp⟩]
 ·refine⟨QKv h,λ_=>?_⟩
  rcases hx with⟨sz,l,e,bt,g',t',H,es,rfl,hh⟩ | fT
  ·simp only[i6,hh]at h;refine h.map _ λk r fJ=>⟨?_,hl k idx _ fJ⟩
   rw[hk];simp only[List.singleton_append]at fJ ⊢;simp only[Io.join,fJ];have fT:=(List.getElem?_eq_some_iff.1 h1).1;simp only[AV.dT,hh,Bool.or_eq_true,Bool.not_eq_true']at eH;rw[if_neg (λe=>by
    rcases eH with eH | eH
    ·rw[e.1]at eH;simp at eH
    ·have:=Nat.le_of_ble_eq_true eH;omega),if_pos ⟨trivial,by omega,by omega⟩,show off+p-off=p by omega]
  ·have hd:=Ia fT h1 h2;unfold i6 at h
   split at h
   ·split at h
    ·exact(RL.pA (F:=λ_=>False) h hd).pl hd _ _ _
    ·exact Rd.pl h hd _ _ _
   ·exact(RL.pA (F:=λ_=>False) h hd).pl hd _ _ _
   ·exact Rd.pl h hd _ _ _
theorem QV8{s x:Operand}{s' x':bc}{t et sz:Nat}{i:TypeInfo}{t1 t2:TypeId}(ho:o.op = .call { callee:=.builtin .append,args:=#[s,x],argTypes:=#[t,t] })(ht:gJ C.P t=some et)(b7:cK C.P et=some sz)(hi:C.P.info? et=some i)(h0:0<sz)
  (mD:i.bytes<=32768) (hz:(JG C.P et).map (·.length)=some sz) (hs:cO C.P t1 s=some s') (hx:cO C.P t2 x=some x') (he:QD Γ (bc.ev σ.t) σ.h b (.app s' x' et sz)=some e) :
  o.wp C.P a w (λa' w'=>cJ C U' (σ.app o.dst e) a' w') Q:=by
 obtain⟨zs,px,T9⟩:=Option.map_eq_some_iff.1 hz;obtain⟨i',z,cc,kK,ib⟩:=xP px;rw[hi]at cc;cases cc;obtain⟨i'',km,iM⟩:=xI b7;rw[hi]at km;cases km;have vq:z.cells.size=sz:=by rw[(ib w (λ_=>True) ι σ.h).size];exact T9
 have h1:=ZL S hs;simp only[QD]at he
 split at he
 rotate_left
 ·cases he
 rename_i xs sH;obtain⟨news,src⟩:=QKi S h0 (ZL S hx) sH;have iv:=QUx S hb;have x6:=(S.fresh b hb)
 have x7:∀ id len,(bc.ev σ.t x').dT σ.h id len xs=true->∃ idx off,JT σ b idx/\((∃ sz l e bt g t H es,(bc.ev σ.t x') = .r sz idx off l/\σ.h idx = .sl e bt (.dp g t H) es)\/o3 xs=true)/\
   ((idx=b/\(bc.ev σ.t x').dy σ.h=[])\/(idx≠b/\(bc.ev σ.t x').dy σ.h=[idx])):=by
  intro id len eH;unfold AV.dT at eH
  split at eH
  ·rename_i szr idx off l Ip
   split at eH
   ·rename_i e1 lB g1 t1 H1 fk hh;refine⟨idx,off,.inr ⟨⟨_,_,_,_,hh⟩,by rw[hh];rfl⟩,.inl ⟨_,_,_,_,_,_,_,_,Ip,hh⟩,.inr ⟨λh=>(by subst h;rw[x6.1]at hh;cases hh),(by simp only[Ip,AV.dy,hh])⟩⟩
   ·rename_i fK;refine⟨b,0,.inl rfl,.inr eH,.inl ⟨rfl,?_⟩⟩;rw[Ip];simp only[AV.dy]
    first
     | done
     | (split <;> first | rfl | (rename_i hh;exact absurd hh (fK _ _ _ _ _ _)))
  ·rename_i fK;refine⟨b,0,.inl rfl,.inr eH,.inl ⟨rfl,?_⟩⟩;unfold AV.dy
   split
   ·rename_i hh;exact absurd hh (fK _ _ _ _)
   ·rfl
 split at he
 ·rename_i szn hv;rw[hv]at h1;have cG:a.eval s = .slice none 0 0:=by
   generalize a.eval s=av at h1
   cases h1;rfl
  split at he
  rotate_left
  ·cases he
  rename_i fq
  split at he
  ·split at he
   rotate_left
   ·cases he
   rename_i jD eH
   cases he;obtain⟨idx,off,k1,k2,k3⟩:=x7 b 0 eH;refine Cp S hd hb bW ho (nU ht) hi kK iM vq mD h0 (id:=b) (idx:=idx) (M:=.dp 0 true []) (M0:=.ow) (.inl rfl) k1 x6.2 cG src (Ik (len:=0) (off:=off) (l:=xs.length) ⟨_,_,_,_,_,_,rfl⟩) (Im (.inl rfl) eH k2) fq ?_
   rcases k3 with⟨rfl,k3⟩ | ⟨k4,k3⟩
   ·rw[k3];funext k
    simp only[jx,List.nil_append,bA];by_cases hk:k=idx
    ·subst hk;rw[QQ];exact JK.symm
    ·rw[QK _ _ _ _ hk,JP hk hk hk]
   ·rw[k3];funext k
    simp only[jx,List.singleton_append,bA];by_cases hk:k=b
    ·subst hk;rw[QQ];exact JK.symm
    ·rw[QK _ _ _ _ hk];by_cases gY:k=idx
     ·subst gY;rw[QQ,sS hk (.inr rfl)]
     ·rw[QK _ _ _ _ gY,JP hk hk gY]
  ·split at he
   rotate_left
   ·cases he
   rename_i cC
   cases he;refine Cp S hd hb bW ho (nU ht) hi kK iM vq mD h0 (id:=b) (idx:=b) (M:=.ow) (M0:=.ow) (.inl rfl) (.inl rfl) x6.2 cG src (Ij iv iv) (Il λp q el v d h1 h2 hr=>Ib cC h1 h2 hr) fq ?_;funext k
   simp only[bA];by_cases hk:k=b
   ·subst hk;rw[QQ];exact JK.symm
   ·rw[QK _ _ _ _ hk,JP hk hk hk]
 ·rename_i szr id len hv
  split at he
  ·rename_i et' bt es hh
   split at he
   rotate_left
   ·cases he
   rename_i hc;obtain⟨rfl,rfl,fU,fq,cC⟩:=hc
   cases he;rw[hv]at h1;have cE:JT σ b id:=.inr ⟨⟨_,_,_,_,hh⟩,by rw[hh];rfl⟩;have jG:∀ k p,ι.k k≠some (id,p):=λk p h=>by
    obtain⟨_,_,_,_,_,_,h9⟩:=(S.dA k id p h).dp;rw[hh]at h9
    cases h9
   have kq:id≠b:=λh=>by subst h;rw[x6.1]at hh;cases hh
   have jJ:∀ B,bA σ.h [(id,.dead),(b,B)]=JJ σ.h id b b B:=by
    intro B;funext k
    simp only[bA];by_cases hk:k=b
    ·subst hk;rw[QQ];exact JK.symm
    ·rw[QK _ _ _ _ hk];by_cases gY:k=id
     ·subst gY;rw[QQ,sS hk (.inl rfl)]
     ·rw[QK _ _ _ _ gY,JP hk gY hk]
   generalize cG:a.eval s=av at h1
   cases h1 with
   | cI _ _ _ _ _ _ fm=>rw[fm]at hh;cases hh
   | dz _ _ _ e' _ m cc cq Iq=>rw[hh]at cq;cases cq;cases Iq
   | cW _ e' _ m cc cq =>
    rw[hh]at cq
    cases cq;have:=Cp S hd hb bW ho (nU ht) hi kK iM vq mD h0 (id:=id) (idx:=b) (M:=.ow) (M0:=.ow) cE (.inl rfl) cc cG src (Ij jG iv) (Il λp q el v d h1 h2 hr=>Ib cC h1 h2 hr) (by simpa using fq) (jJ _) (Q:=Q);simpa using this
   | r _ _ _ bk ao cap e' _ m bZ cc cq hlen cr j2 dm =>
    rw[hh]at cq
    cases cq;obtain⟨rfl,ef⟩:=dm rfl rfl;have dH:=S.fH id;rw[hh]at dH
    cases dH with
    | slnil _ _ _ _ eS=>rw[cc]at eS;cases eS
    | sl nX _ e0 _ _ _ cur pk n9 fe fj hle dj d5 d6 =>
     rw[cc]at n9;cases n9;obtain⟨rfl,fp,Cc,hC,kp,sP⟩:=fj rfl;have Ir:Cc=cap:=by
      unfold World.shape? at ef;rw[fe]at ef;simp only[Option.some.injEq,Prod.mk.injEq,true_and]at ef;rw[hC]at ef;exact Nat.eq_of_mul_eq_mul_right h0 ef
     subst Ir;simp only[fp,Nat.zero_add]at d6;exact Uu S hd hb bW ho (nU ht) hi kK iM vq mD h0 (M:=.ow) hh rfl (.inl rfl) cc cG fe hC kp sP d5 d6 (by omega) src (Ij jG iv) (Il λp q el v d h1 h2 hr=>Ib cC h1 h2 hr) fU fq (jJ _)
  ·rename_i et' bt g0 es hh
   split at he
   rotate_left
   ·cases he
   rename_i hc;obtain⟨rfl,rfl,fU,fq,eH⟩:=hc
   cases he;rw[hv]at h1;have cE:JT σ b id:=.inr ⟨⟨_,_,_,_,hh⟩,by rw[hh];rfl⟩;obtain⟨idx,off,k1,k2,k3⟩:=x7 id len eH;have kq:id≠b:=λh=>by subst h;rw[x6.1]at hh;cases hh
   have jJ:∀ B,bA σ.h ((id,.dead)::jx ((bc.ev σ.t x').dy σ.h)++[(b,B)])=JJ σ.h id idx b B:=by
    intro B;funext k
    rcases k3 with⟨rfl,k3⟩ | ⟨k4,k3⟩
    ·rw[k3];simp only[jx,List.cons_append,List.nil_append,bA];by_cases hk:k=idx
     ·subst hk;rw[QQ];exact JK.symm
     ·rw[QK _ _ _ _ hk];by_cases gY:k=id
      ·subst gY;rw[QQ,sS hk (.inl rfl)]
      ·rw[QK _ _ _ _ gY,JP hk gY hk]
    ·rw[k3];simp only[jx,List.cons_append,List.nil_append,bA];by_cases hk:k=b
     ·subst hk;rw[QQ];exact JK.symm
     ·rw[QK _ _ _ _ hk];by_cases Is:k=idx
      ·subst Is;rw[QQ,sS hk (.inr rfl)]
      ·rw[QK _ _ _ _ Is];by_cases gY:k=id
       ·subst gY;rw[QQ,sS hk (.inl rfl)]
       ·rw[QK _ _ _ _ gY,JP hk gY Is]
   generalize cG:a.eval s=av at h1
   cases h1 with
   | cI _ _ _ _ _ _ fm=>rw[fm]at hh;cases hh
   | dz _ _ _ e' _ m cc cq Iq=>rw[hh]at cq;cases cq;cases Iq
   | cW _ e' _ m cc cq =>
    rw[hh]at cq
    cases cq;have:=Cp S hd hb bW ho (nU ht) hi kK iM vq mD h0 (id:=id) (idx:=idx) (M:=.dp 0 true []) (M0:=.ow) cE k1 cc cG src (Ik (len:=0) (off:=off) (l:=xs.length) ⟨_,_,_,_,_,_,rfl⟩) (Im (.inl rfl) eH k2) (by simpa using fq) (jJ _) (Q:=Q);simpa using this
   | r _ _ _ bk ao cap e' _ m bZ cc cq hlen cr j2 dm =>
    rw[hh]at cq
    cases cq;obtain⟨rfl,ef⟩:=dm rfl rfl;have dH:=S.fH id;rw[hh]at dH
    cases dH with
    | slnil _ _ _ _ eS=>rw[cc]at eS;cases eS
    | sl nX _ e0 _ _ _ cur pk n9 fe fj hle dj d5 d6 =>
     rw[cc]at n9;cases n9;obtain⟨rfl,fp,Cc,hC,kp,sP⟩:=fj rfl;have Ir:Cc=cap:=by
      unfold World.shape? at ef;rw[fe]at ef;simp only[Option.some.injEq,Prod.mk.injEq,true_and]at ef;rw[hC]at ef;exact Nat.eq_of_mul_eq_mul_right h0 ef
     subst Ir;simp only[fp,Nat.zero_add]at d6;exact Uu S hd hb bW ho (nU ht) hi kK iM vq mD h0 (M:=.dp 0 true []) hh rfl k1 cc cG fe hC kp sP d5 d6 (by omega) src (Ik (len:=len) (off:=off) (l:=xs.length) ⟨_,_,_,_,_,_,rfl⟩) (Im (.inr ⟨_,_,rfl⟩) eH k2) fU fq (jJ _)
  ·cases he
 ·cases he
end
end Go.Proofs.YtdplaepmjogjjaaGreat.Am
namespace Go.Proofs.YtdplaepmjogjjaaGreat.Am
open Go Go.RowKit
def noι:Io:=⟨λ_=>none,λ_=>none,λ_=>0⟩
def vt:Nat->aX:=λ_=>.none
def AV.eW:AV->Bool
 | .c _=>true
 | .a cs=>cs.all fun | .c _=>true | _=>false
 | _=>false
def oa:AV->Bool
 | .c _=>true
 | _=>false
structure DR(w:World)(F:Nat->Prop)(bz:Array Value)(cs:List AV):Prop where
 size:bz.size=cs.length
 one:∀(k:Nat)(v:Value),bz[k]? = some v->v.oneCell'=true
 vr:∀(k:Nat)(v:Value)(x:AV),bz[k]? = some v->cs[k]? = some x->VR w F noι vt v x
structure mJ(w:World)(F:Nat->Prop)(v:Value)(x:Hd)(e:TypeId)(sz:Nat)(m:Mo)(es:List (List D)):Prop where
 hB:x.B = .sl e sz m es
 own:m.own=true
 vr:VR w F x.io (λ_=>x.B) v (.r sz 0 0 es.length)
 br:BR w F x.io (λ_=>x.B) 0 x.B
 dA:∀ b p,x.K b=some p->p≠[]/\b<w.heap.size/\x.o≠some b/\∃ g t H,m = .dp g t H
def Yo(gb:List Hd)(b:Nat):Prop:=∃ x,x∈gb/\x.has b
def lC:AV->Bool
 | .c _=>true
 | .ow ..=>true
 | _=>false
inductive eO(w:World)(F:Nat->Prop):List Value->List AV->List Nat->List Hd->Prop where
 | nil:eO w F [] [] [] []
 | eW (v:Value) (x:AV) (vs:List Value) (xs:List AV) (lb:List Nat) (gb:List Hd) (h:VR w F noι vt v x) (hr:eO w F vs xs lb gb) (hx:x.eW=true):eO w F (v::vs) (x::xs) lb gb
 | box (b:Nat) (e:TypeId) (bz:Array Value) (cs:List AV) (vs:List Value) (xs:List AV) (lb:List Nat) (gb:List Hd) (hb:w.heap[b]? = some (.cells bz e (0,0))) (hd:DR w F bz cs) (hc:cs.all oa=true) (hn:b∉lb)
   (hg:¬ Yo gb b) (hr:eO w F vs xs lb gb):eO w F (.pointer (some ⟨b,0,none⟩)::vs) (.bx cs::xs) (b::lb) gb
 | own (v:Value) (x:Hd) (e:TypeId) (sz:Nat) (m:Mo) (es:List (List D)) (vs:List Value) (xs:List AV) (lb:List Nat) (gb:List Hd) (hv:mJ w F v x e sz m es) (hn:∀ b,x.has b->b∉lb/\¬ Yo gb b)
   (hr:eO w F vs xs lb gb):eO w F (v::vs) (.ow e sz m es::xs) lb (x::gb)
 | agg (arr:Array Value) (cs:List AV) (vs:List Value) (xs:List AV) (lb:List Nat) (g1 gb:List Hd) (hc:eO w F arr.toList cs [] g1) (hk:cs.all lC=true) (h1:∀ v,v∈arr.toList->v.oneCell'=true)
   (hn:∀ b,Yo g1 b->b∉lb/\¬ Yo gb b) (hr:eO w F vs xs lb gb):eO w F (.agg arr::vs) (.a cs::xs) lb (g1++gb)
def iS.h(r:iS):Nat->aX:=λi=>(r.hb[i]?).getD .none
def ob(w w':World)(F0:Nat->Prop)(gb:List Hd)(r:iS)(ι:Io)(b:Nat):Prop :=
 b<w'.heap.size/\(r.al=true/\F0 b\/w.heap.size<=b\/Yo gb b)/\(∀ i,ι i=some b->(((r.hb++r.gv)[i]?).getD .none).own=false)/\ι.k b=none
structure i7(w:World)(F0:Nat->Prop)(lb:List Nat)(gb:List Hd)(r:iS)(v:Value)(w':World)(ι:Io):Prop where
 os:w'.os=w.os
 tape:w'.tape=w.tape
 output:w'.output=w.output
 size:w.heap.size<=w'.heap.size
 block:∀ k,k<w.heap.size->k∉lb->¬ Yo gb k->w'.heap[k]? = w.heap[k]?
 val:VR w' (ob w w' F0 gb r ι) ι r.h v r.v
 fH:∀ i,i<r.hb.length->BR w' (ob w w' F0 gb r ι) ι r.h i (r.h i)
 inj:∀ i j b,ι i=some b->ι j=some b->i=j
 eL:∀ i b,ι i=some b->(w.heap.size<=b\/Yo gb b)/\b<w'.heap.size/\i<r.hb.length+r.gv.length
 live:∀ i b,ι i=some b->((r.hb++r.gv)[i]?).getD .none≠.none/\((r.hb++r.gv)[i]?).getD .none≠.dead
 dA:∀ b i p,ι.k b=some (i,p)->p≠[]/\(∃ e sz g t H es,(r.hb++r.gv)[i]? = some (.sl e sz (.dp g t H) es))/\(w.heap.size<=b\/Yo gb b)/\b<w'.heap.size/\∀ j,ι j≠some b
 It:r.bx.length=lb.length
 bx:∀(k b:Nat)(cs:List AV),lb[k]? = some b->r.bx[k]? = some cs->cs.all oa=true/\w'.shape? b=w.shape? b/\∃ e bz,w'.heap[b]? = some (.cells bz e (0,0))/\DR w' (ob w w' F0 gb r ι) bz cs
 Iu:r.gv.length=gb.length
 gv:∀(k:Nat)(x:Hd)(B:aX),gb[k]? = some x->r.gv[k]? = some B->B = .dead\/YP x.B B/\ι (r.hb.length+k)=x.o/\ι.o (r.hb.length+k)=x.base/\BR w' (ob w w' F0 gb r ι) ι r.h (r.hb.length+k) B/\∀ b,x.o=some b->w'.shape? b=w.shape? b
def sT(P:Program)(f:FuncId)(args:List AV)(r:iS):Prop :=
 ∀(w:World)(F0:Nat->Prop)(vs:Array Value)(lb:List Nat)(gb:List Hd),eO w F0 vs.toList args lb gb->(∀ b,F0 b->b<w.heap.size/\b∉lb/\¬ Yo gb b)->
  Calls P f vs w λe w'=>∃ v ι,e = .returned v/\i7 w F0 lb gb r v w' ι
def oc(P:Program)(Γ:eR):Prop:=∀ f args r,Γ f args=some r->sT P f args r
theorem VR.data{w:World}{F F':Nat->Prop}(hF:∀ b,F b->F' b){ι:Io}{h:Nat->aX}{v:Value}{d:D}(hv:VR w F ι h v (.c d)){ι':Io}{h':Nat->aX}:VR w F' ι' h' v (.c d):=by
 cases hv with
 | c v d hr=>exact .c _ _ (hr.mono λb hb=>⟨hF b hb,rfl⟩)
theorem pC{w:World}{F:Nat->Prop}{ι:Io}{h:Nat->aX}{v:Value}{d:D}(hr:Rd w F v d):VR w F ι h v (.c d):=.c _ _ hr
theorem VR.kr{w:World}{F:Nat->Prop}{ι ι':Io}{h h':Nat->aX}{b n:Nat}(hi:∀ i,i<n->ι' (i+b)=ι i/\ι'.o (i+b)=ι.o i/\h' (i+b)=(h i).sh b)(hn:∀ i,n<=i->h i = .none){v:Value}{x:AV}(hv:VR w F ι h v x):VR w F ι' h' v (x.nQ b):=by
 have aY:∀ i,h i≠.none->i<n:=λi hx=>by
  rcases Nat.lt_or_ge i n with h1 | h1
  ·exact h1
  ·exact absurd (hn i h1) hx
 cases hv with
 | u=>exact .u _
 | c v d hr=>exact .c _ _ hr
 | n sz=>exact .n _
 | cI v sz id off len h1 hd =>
  have:=hi id (aY id (by rw[hd];simp));exact .cI _ _ _ _ _ h1 (by rw[this.2.2,hd];rfl)
 | cW id e sz m cc hh =>
  have:=hi id (aY id (by rw[hh];simp));exact .cW _ e sz m (this.1.trans cc) (by rw[this.2.2,hh];rfl)
 | dz ad cap id e sz m cc hh ht =>
  have:=hi id (aY id (by rw[hh];simp));exact .dz ad cap _ e sz m (this.1.trans cc) (by rw[this.2.2,hh];rfl) ht
 | r id off len bk ao cap e sz m es cc hh hlen cr j2 dm =>
  have:=hi id (aY id (by rw[hh];simp));exact .r _ off len bk ao cap e sz m es (this.1.trans cc) (by rw[this.2.2,hh];rfl) hlen cr (by rw[this.2.1];exact j2) dm
 | dg v id i j h1 hd =>
  have:=hi id (aY id (by rw[hd];simp));exact .dg _ _ _ _ h1 (by rw[this.2.2,hd];rfl)
 | p id i j bk cc nW hd =>
  have:=hi id (aY id nW);have hs:(h' (id+b)).sz=(h id).sz:=by rw[this.2.2];cases h id <;> rfl
  rw[<- hs,<- this.2.1];refine .p (id+b) i j bk (this.1.trans cc) ?_ ?_
  ·rw[this.2.2];cases hx:h id <;> simp_all [aX.sh]
  ·rw[this.2.2];cases hx:h id <;> simp_all [aX.sh]
 | q bk o j cs x hb hc hr=>exact .q bk o j cs x hb hc hr
 | a=>exact .u _
 | t=>exact .u _
 | fN=>exact .u _
 | b=>exact .u _
 | fa=>exact .u _
 | bq=>exact .u _
theorem VR.mK{w:World}{F:Nat->Prop}{ι ι':Io}{h h':Nat->aX}{b n:Nat}(hi:∀ i,i<n->ι' (i+b)=ι i/\ι'.o (i+b)=ι.o i/\h' (i+b)=(h i).sh b)(hn:∀ i,n<=i->h i = .none){v:Value}{x:AV}(hv:VR w F ι h v x):VR w F ι' h' v (x.lZ b):=by
 cases x with
 | a cs =>
  cases hv with
  | a vs _ hl h1 hv =>
   refine .a vs _ (by simpa using hl) h1 (λk v x hk hx=>?_);simp only[List.getElem?_map,Option.map_eq_some_iff]at hx;obtain⟨y,hy,rfl⟩:=hx;exact(hv k v y hk hy).kr hi hn
 | _=>exact hv.kr hi hn
theorem VR.shift{w:World}{F:Nat->Prop}{ι ι':Io}{h h':Nat->aX}{b n:Nat}(hi:∀ i,i<n->ι' (i+b)=ι i/\ι'.o (i+b)=ι.o i/\h' (i+b)=(h i).sh b)(hn:∀ i,n<=i->h i = .none){v:Value}{x:AV}(hv:VR w F ι h v x):VR w F ι' h' v (x.sh b):=by
 cases x with
 | t cs =>
  cases hv with
  | t vs _ hl hv =>
   refine .t vs _ (by simpa using hl) (λk v x hk hx=>?_);simp only[List.getElem?_map,Option.map_eq_some_iff]at hx;obtain⟨y,hy,rfl⟩:=hx;exact(hv k v y hk hy).mK hi hn
 | _=>exact hv.mK hi hn
theorem VR.up{w:World}{F F':Nat->Prop}(hF:∀ b,F b->F' b){ι:Io}{h:Nat->aX}{v:Value}{x:AV}(hv:VR w F ι h v x):VR w F' ι h v x :=
 hv.mono (λb hb=>⟨hF b hb,rfl⟩) (λid=>Rest.il ⟨rfl,rfl,λ_ _=>rfl,λb p hk=>⟨hk,rfl⟩⟩ rfl)
theorem BR.shift{w:World}{F F':Nat->Prop}(hF:∀ b,F b->F' b){ι ι':Io}{h h':Nat->aX}{b n:Nat}(hi:∀ i,i<n->ι' (i+b)=ι i/\ι'.o (i+b)=ι.o i/\h' (i+b)=(h i).sh b)(hn:∀ i,n<=i->h i = .none){i:Nat}(eS:i<n)
  (hk:∀ k p,ι.k k=some (i,p)->ι'.k k=some (i+b,p)) {B:aX} (hv:BR w F ι h i B):BR w F' ι' h' (i+b) (B.sh b):=by
 cases hv with
 | none=>exact .none
 | dead=>exact .dead
 | box bk e bz cs cc ho hb hl h1 hv =>
  refine .box bk e bz _ ((hi i eS).1.trans cc) ((hi i eS).2.1.trans ho) hb (by simpa using hl) h1 (λk v x hk hx=>?_);simp only[List.getElem?_map,Option.map_eq_some_iff]at hx;obtain⟨y,hy,rfl⟩:=hx;exact((hv k v y hk hy).kr hi hn).up hF
 | slnil e sz m hz cc=>exact .slnil e sz m hz ((hi i eS).1.trans cc)
 | sl bk e e0 sz m es cur hz cc hb fj hle dj b7 hv =>
  refine .sl bk e e0 sz m es cur hz ((hi i eS).1.trans cc) hb (by rw[(hi i eS).2.1];exact fj) (by rw[(hi i eS).2.1];exact hle) dj b7 (λp q x d hp hq=>?_);obtain⟨v,h1,h2⟩:=hv p q x d hp hq;refine⟨v,by rw[(hi i eS).2.1];exact h1,?_⟩
  cases m with
  | dp g t H=>exact⟨h2.1,λdI=>(h2.2 dI).map _ λk r fJ=>⟨hk k _ fJ,rfl⟩⟩
  | _=>exact Rd.mono (λb hb=>⟨hF b hb,rfl⟩) h2
theorem Ux(l:List aX):∀(b:Nat)(h:Nat->aX)(i:Nat),bA h (Jp b l) i=if b<=i/\i<b+l.length then(l[i-b]?).getD .none else h i:=by
 induction l with
 | nil=>intro b h i;simp only[Jp,bA,List.length_nil];rw[if_neg (by omega)]
 | cons x l ih =>
  intro b h i;simp only[Jp,bA,List.length_cons];rw[ih (b+1) (bN h b x) i];by_cases h1:i=b
  ·subst h1;rw[if_neg (by omega),if_pos (by omega),QQ];simp
  ·by_cases h2:b<=i/\i<b+(l.length+1)
   ·rw[if_pos (by omega),if_pos h2];rw[show i-b=(i-(b+1))+1 by omega];simp
   ·rw[if_neg (by omega),if_neg h2,QK _ _ _ _ h1]
theorem ma(h:Nat->aX):∀(l m:List (Nat × aX)),bA h (l++m)=bA (bA h l) m:=by
 intro l
 induction l generalizing h with
 | nil=>intro m;rfl
 | cons x l ih=>intro m;exact ih _ m
theorem x8(h0:Nat->aX):∀(ids:List Nat)(cL:List aX)(h:Nat->aX)(i:Nat),ids.Nodup->cL.length=ids.length->
  (i∉ids->bA h (Y0 h0 ids cL) i=h i)/\∀(k:Nat)(B:aX),ids[k]? = some i->cL[k]? = some B->bA h (Y0 h0 ids cL) i=mr (h0 i) B
 | [],cL,h,i,_,hl=>by
  have:cL=[]:=List.eq_nil_of_length_eq_zero hl;subst this;exact⟨λ_=>rfl,by simp⟩
 | id::ids,[],h,i,_,hl=>by simp at hl
 | id::ids,gL::cL,h,i,d9,hl=>by
  simp only[List.nodup_cons]at d9;obtain⟨h1,h2⟩:=x8 h0 ids cL (bN h id (mr (h0 id) gL)) i d9.2 (by simpa using hl);simp only[Y0,bA];refine⟨λhi=>?_,λk cs hk dU=>?_⟩
  ·simp only[List.mem_cons,not_or]at hi;rw[h1 hi.2,QK _ _ _ _ hi.1]
  ·cases k with
   | zero =>
    simp at hk dU;subst hk;subst dU;rw[h1 d9.1,QQ]
   | succ k =>
    simp at hk dU;exact h2 k cs hk dU
theorem Cq:∀(ids:List Nat)(cL:List (List AV))(h:Nat->aX)(i:Nat),ids.Nodup->cL.length=ids.length->
  (i∉ids->bA h (JO ids cL) i=h i)/\∀(k:Nat)(cs:List AV),ids[k]? = some i->cL[k]? = some cs->bA h (JO ids cL) i = .box cs
 | [],cL,h,i,_,hl=>by
  have:cL=[]:=List.eq_nil_of_length_eq_zero hl;subst this;exact⟨λ_=>rfl,by simp⟩
 | id::ids,[],h,i,_,hl=>by simp at hl
 | id::ids,gL::cL,h,i,d9,hl=>by
  simp only[List.nodup_cons]at d9;obtain⟨h1,h2⟩:=Cq ids cL (bN h id (.box gL)) i d9.2 (by simpa using hl);simp only[JO,bA];refine⟨λhi=>?_,λk cs hk dU=>?_⟩
  ·simp only[List.mem_cons,not_or]at hi;rw[h1 hi.2,QK _ _ _ _ hi.1]
  ·cases k with
   | zero =>
    simp at hk dU;subst hk;subst dU;rw[h1 d9.1,QQ]
   | succ k =>
    simp at hk dU;exact h2 k cs hk dU
end Go.Proofs.YtdplaepmjogjjaaGreat.Am
namespace Go.Proofs.YtdplaepmjogjjaaGreat.Am
open Go Go.RowKit
section
variable {C:Ctx} {U U':Nat->Prop} {σ:St} {a:Act} {w:World} {ι:Io}
theorem Q20{h:Nat->aX}{xs:List AV}{ds:List D}(hx:AV.ds h xs=some ds):(ds.map AV.c).all oa=true:=by
 rw[List.all_eq_true];intro x hx;obtain⟨d,_,rfl⟩:=List.mem_map.1 hx;rfl
theorem Q4p(h:Nat->aX)(ms:List AM)(x:AV)(xs:List AV):AV.d8 h ms (x::xs)=match x.gI h (ms.headD .d),AV.d8 h ms.tail xs with
  | some d,some ds=>some (d::ds)
  | _,_=>none:=by
 cases ms with
 | nil=>simp only[AV.d8,AV.iK,List.headD_nil,AV.gI,List.tail_nil];cases AV.arg h x <;> cases AV.iK h xs <;> rfl
 | cons m ms=>rfl
theorem Uy(ms:List AM)(x:AV)(xs:List AV):cT ms (x::xs)=if(ms.headD .d).h then x::cT ms.tail xs else cT ms.tail xs:=by
 cases ms with
 | nil=>simp[cT,AM.h]
 | cons m ms=>rfl
theorem Uz(ms:List AM)(x:AV)(xs:List AV):cy ms (x::xs)=if(ms.headD .d).h then cy ms.tail xs else x::cy ms.tail xs:=by
 cases ms with
 | nil=>simp[cy,AM.h]
 | cons m ms=>rfl
theorem QUZ(h:Nat->aX)(ms:List AM):AV.d8 h ms []=some []:=by cases ms <;> rfl
theorem QVX(ms:List AM):cT ms []=[]:=by cases ms <;> rfl
theorem QQD(ms:List AM):cy ms []=[]:=by cases ms <;> rfl
def iP(ι:Io)(x:Nat)(B:aX):Hd:=⟨ι x,ι.o x,B,λb=>match ι.k b with | some (y,p)=>if y=x then some p else none | none=>none⟩
def Has(ι:Io)(id b:Nat):Prop:=ι id=some b\/∃ p,ι.k b=some (id,p)
theorem Iv{ι:Io}{x b:Nat}{B:aX}{p:cM}:(iP ι x B).K b=some p↔ι.k b=some (x,p):=by
 simp only[iP]
 cases hx:ι.k b with
 | none=>simp
 | some z =>
  obtain⟨y,q⟩:=z;by_cases h:y=x
  ·subst h;simp
  ·simp[h]
theorem x9{ι:Io}{x b:Nat}{B:aX}:(iP ι x B).has b↔Has ι x b:=by
 unfold Hd.has Has;simp only[Iv];exact Iff.rfl
theorem od(S:Sat C U σ a w ι){x y b:Nat}(h1:Has ι x b)(h2:Has ι y b):x=y:=by
 rcases h1 with h1 | ⟨p,h1⟩ <;> rcases h2 with h2 | ⟨q,h2⟩
 ·exact S.inj x y b h1 h2
 ·exact absurd h1 ((S.dA b y q h2).ne x)
 ·exact absurd h2 ((S.dA b x p h1).ne y)
 ·rw[h1]at h2;cases h2;rfl
def HB(B0 B:aX):Prop:=(∃ e sz es,B0 = .sl e sz .ow es/\B = .sl e sz .ow es)\/∃ e sz g t es,B0 = .sl e sz (.dp g t []) es/\B = .sl 0 sz (.dp 0 false []) es
theorem HB.sl{B0 B:aX}(h:HB B0 B):(∃ e sz m es,B0 = .sl e sz m es)/\B0.own=true:=by
 rcases h with⟨e,sz,es,rfl,_⟩ | ⟨e,sz,g,t,es,rfl,_⟩
 ·exact⟨⟨_,_,_,_,rfl⟩,rfl⟩
 ·exact⟨⟨_,_,_,_,rfl⟩,rfl⟩
theorem UA(S:Sat C U σ a w ι){F0:Nat->Prop}(hF:∀ b,Fz C w ι σ.h b->F0 b){v:Value}{id e sz e0:Nat}{m m0:Mo}{es:List (List D)}(hB:HB (σ.h id) (.sl e sz m es))(hh:σ.h id = .sl e0 sz m0 es)(hv:VR w (Fz C w ι σ.h) ι σ.h v (.r sz id 0 es.length)) :
  mJ w F0 v (iP ι id (.sl e sz m es)) e sz m es:=by
 have dm:m.fw=true->m0.fw=true/\e0=e:=by
  rcases hB with⟨e1,lB,fk,h1,h2⟩ | ⟨e1,lB,g,t,fk,h1,h2⟩
  ·rw[hh]at h1;cases h1;cases h2;exact λ_=>⟨rfl,rfl⟩
  ·cases h2;intro h;cases h
 have cE:m.own=true:=by
  rcases hB with⟨e1,lB,fk,h1,h2⟩ | ⟨e1,lB,g,t,fk,h1,h2⟩ <;> cases h2 <;> rfl
 have ya:∀ b p,ι.k b=some (id,p)->(iP ι id (.sl e sz m es)).io.k b=some (0,p):=λb p hk=>by
  simp only[Hd.io];rw[Iv.2 hk];rfl
 refine⟨rfl,cE,?_,?_,λb p hk=>?_⟩
 ·generalize hn:es.length=n at hv ⊢
  cases hv with
  | cI _ _ _ _ _ _ hd=>rw[hd]at hh;cases hh
  | cW _ e' _ m' hi cq =>
   have:es=[]:=List.eq_nil_of_length_eq_zero hn;subst this;exact .cW 0 e sz m hi rfl
  | dz ad cap _ e' _ m' hi cq ht =>
   have:es=[]:=List.eq_nil_of_length_eq_zero hn;subst this;rw[hh]at cq
   cases cq;refine .dz ad cap 0 e sz m hi rfl ?_
   cases hx:m.fw with
   | false=>rfl
   | true=>rw[(dm hx).1]at ht;cases ht
  | r _ _ _ b ao cap e' _ m' bZ hi cq hlen cr ho ht =>
   rw[hh]at cq
   cases cq;exact .r 0 0 n b ao cap e sz m es hi rfl hlen cr ho (λh h0=>by obtain⟨k1,k2⟩:=dm h;rw[<- k2];exact ht k1 h0)
 ·have hb:=S.fH id;rw[hh]at hb;show BR w F0 _ _ 0 (.sl e sz m es)
  cases hb with
  | slnil _ _ _ hz hi=>exact .slnil e sz m hz hi
  | sl bk _ e1 _ _ _ cur hz hi hb fj hle dj b7 i9 =>
   refine .sl bk e e1 sz m es cur hz hi hb (λh=>by obtain⟨k1,k2⟩:=dm h;rw[<- k2];exact fj k1) hle dj b7 (λi j x d hx hd=>?_);obtain⟨u,h1,h2⟩:=i9 i j x d hx hd;refine⟨u,h1,?_⟩
   rcases hB with⟨e1,lB,fk,q1,q2⟩ | ⟨e1,lB,g,t,fk,q1,q2⟩
   ·rw[hh]at q1;cases q1;cases q2;exact Rd.mono (λb hb=>⟨hF b hb,rfl⟩) h2
   ·rw[hh]at q1;cases q1;cases q2;exact⟨h2.1,λ_=>(h2.2 (by simp)).map _ λb r hk=>⟨ya b _ hk,rfl⟩⟩
 ·have hk:=Iv.1 hk;have L:=S.dA b id p hk;refine⟨L.pn,L.lt,L.ne id,?_⟩;obtain⟨_,_,g,t,H,_,h9⟩:=L.dp
  rcases hB with⟨e1,lB,fk,q1,q2⟩ | ⟨e1,lB,g,t,fk,q1,q2⟩
  ·rw[h9]at q1;cases q1
  ·cases q2;exact⟨_,_,_,rfl⟩
structure dJ(σ:St)(ι:Io)(gb:List Hd)(ids:List Nat):Prop where
 len:gb.length=ids.length
 get:∀(k id:Nat),ids[k]? = some id->∃ B,gb[k]? = some (iP ι id B)/\HB (σ.h id) B
theorem dJ.oe{gb:List Hd}{ids:List Nat}(H:dJ σ ι gb ids){b:Nat}:Yo gb b↔∃ id,id∈ids/\Has ι id b:=by
 constructor
 ·rintro⟨x,hm,hb⟩
  obtain⟨k,hk,yc⟩:=List.getElem_of_mem hm;have gY:k<ids.length:=by rw[<- H.len];exact hk
  obtain⟨B,h5,h6⟩:=H.get k _ (List.getElem?_eq_getElem gY);rw[List.getElem?_eq_getElem hk,yc]at h5
  cases h5;exact⟨_,List.getElem_mem gY,x9.1 hb⟩
 ·rintro⟨id,hm,hb⟩
  obtain⟨k,hk⟩:=List.getElem?_of_mem hm;obtain⟨B,h5,h6⟩:=H.get k _ hk;exact⟨_,List.mem_of_getElem? h5,x9.2 hb⟩
theorem dJ.sl{gb:List Hd}{ids:List Nat}(H:dJ σ ι gb ids){id:Nat}(hm:id∈ids):(∃ e sz m es,σ.h id = .sl e sz m es)/\(σ.h id).own=true:=by
 obtain⟨k,hk⟩:=List.getElem?_of_mem hm;obtain⟨B,h5,h6⟩:=H.get k _ hk;exact h6.sl
theorem dJ.nil:dJ σ ι [] []:=⟨rfl,by simp⟩
theorem dJ.cons{gb:List Hd}{ids:List Nat}(H:dJ σ ι gb ids){id:Nat}{B:aX}(hB:HB (σ.h id) B):dJ σ ι (iP ι id B::gb) (id::ids):=by
 refine⟨by simp[H.len],λk cn hk=>?_⟩
 cases k with
 | zero=>simp at hk;subst hk;exact⟨B,rfl,hB⟩
 | succ k=>simpa using H.get k cn (by simpa using hk)
theorem dJ.append{g1 gb:List Hd}{i1 ids:List Nat}(H1:dJ σ ι g1 i1)(H:dJ σ ι gb ids):dJ σ ι (g1++gb) (i1++ids):=by
 refine⟨by simp[H.len,H1.len],λk cn hk=>?_⟩;rw[List.getElem?_append]at hk ⊢;rw[H1.len]
 split at hk
 ·rename_i h;rw[if_pos h];exact H1.get k cn hk
 ·rename_i h;rw[if_neg h];exact H.get _ cn hk
theorem UB{h:Nat->aX}{sz id off len:Nat}{y:AV}(hy:(AV.r sz id off len).dX h=some y):∃ e g t es,h id = .sl e sz (.dp g t []) es/\off=0/\len=es.length/\y = .ow 0 sz (.dp 0 false []) es:=by
 simp only[AV.dX]at hy
 split at hy
 rotate_left
 ·cases hy
 rename_i hh
 split at hy
 rotate_left
 ·cases hy
 rename_i hc;obtain⟨rfl,rfl,rfl⟩:=hc
 cases hy;exact⟨_,_,_,_,hh,rfl,rfl,rfl⟩
theorem UC(S:Sat C U σ a w ι){F0:Nat->Prop}(hF:∀ b,Fz C w ι σ.h b->F0 b):∀(vs:List Value)(cs ds:List AV),vs.length=cs.length->(∀(k:Nat)(v:Value)(x:AV),vs[k]? = some v->cs[k]? = some x->VR w (Fz C w ι σ.h) ι σ.h v x)->
  AV.fQ σ.h cs=some ds->(AV.bU cs).Nodup->∃ g1,eO w F0 vs ds [] g1/\dJ σ ι g1 (AV.bU cs)/\ds.all lC=true
 | [],[],ds,_,_,hd,_=>by
  simp[AV.fQ]at hd;subst hd;exact⟨[],.nil,.nil,rfl⟩
 | v::vs,c::cs,ds,hl,hv,hd,d9=>by
  simp only[AV.fQ]at hd
  split at hd
  rotate_left
  ·cases hd
  rename_i d vf h1 h2
  cases hd;simp only[AV.bU]at d9 ⊢;have mL:=List.nodup_append.1 d9;obtain⟨g1,k1,k2,k3⟩:=UC S hF vs cs vf (by simpa using hl) (λk v x hk hx=>hv (k+1) v x hk hx) h2 mL.2.1;have sU:=hv 0 v c rfl rfl
  cases c with
  | c d0 =>
   cases d0 with
   | v x =>
    simp[AV.dX]at h1;subst h1;exact⟨g1,.eW v _ vs vf [] g1 (by cases sU with | c _ _ hr=>exact pC (hr.mono λb hb=>⟨hF b hb,rfl⟩)) k1 rfl,by simpa[AV.b4]using k2,by simpa[lC]using k3⟩
   | sl=>simp[AV.dX]at h1
  | r sz id off len =>
   obtain⟨e,g,t,es,hh,rfl,rfl,rfl⟩:=UB h1;have hB:HB (σ.h id) (.sl 0 sz (.dp 0 false []) es):=.inr ⟨_,_,_,_,_,hh,rfl⟩;refine⟨iP ι id (.sl 0 sz (.dp 0 false []) es)::g1,.own v _ 0 sz _ es vs vf [] g1 (UA S hF hB hh sU) (λb hb=>⟨by simp,λhg=>?_⟩) k1,by simpa[AV.b4]using k2.cons hB,by simpa[lC]using k3⟩;obtain⟨cn,h5,h6⟩:=k2.oe.1 hg;have:=od S (x9.1 hb) h6;subst this;exact mL.2.2 id (by simp[AV.b4]) id h5 rfl
  | _=>simp[AV.dX]at h1
 | [],_::_,_,hl,_,_,_=>by simp at hl
 | _::_,[],_,hl,_,_,_=>by simp at hl
theorem Cr(S:Sat C U σ a w ι){F0:Nat->Prop}(hF:∀ b,Fz C w ι σ.h b->F0 b) :
  ∀(ms:List AM)(vs:List Value)(xs ys:List AV),vs.length=xs.length->(∀(k:Nat)(v:Value)(x:AV),vs[k]? = some v->xs[k]? = some x->VR w (Fz C w ι σ.h) ι σ.h v x)->AV.d8 σ.h ms xs=some ys->
   (∀ id b,id∈(cy ms xs).flatMap AV.refs->(∃ e sz m es,σ.h id = .sl e sz m es)->Has ι id b->F0 b)->((cy ms xs).flatMap AV.cp).Nodup->((cT ms xs).flatMap AV.refs).Nodup->
   ∃ lb gb,eO w F0 vs ys lb gb/\dJ σ ι gb ((cT ms xs).flatMap AV.refs)/\
    lb.length=((cy ms xs).flatMap AV.cp).length/\(∀(k id:Nat),((cy ms xs).flatMap AV.cp)[k]? = some id->∃ b cs,lb[k]? = some b/\ι id=some b/\σ.h id = .box cs)/\(∀ id,id∈(cy ms xs).flatMap AV.refs->∃ e sz m es,σ.h id = .sl e sz m es)/\Full σ.h ((cy ms xs).flatMap AV.refs)
 | ms,[],[],ys,_,_,hy,_,_,_=>by
  rw[QUZ]at hy
  cases hy;rw[QVX,QQD];exact⟨[],[],.nil,.nil,rfl,by simp,by simp,λid bp=>by simp at bp⟩
 | ms,[],_::_,ys,hl,_,_,_,_,_=>by simp at hl
 | ms,_::_,[],ys,hl,_,_,_,_,_=>by simp at hl
 | ms,v::vs,x::xs,ys,hl,hv,hy,cE,d9,fK=>by
  rw[Q4p]at hy
  split at hy
  rotate_left
  ·cases hy
  rename_i y l6 hx jC
  cases hy;have mA:=hv 0 v x rfl rfl;obtain⟨iy,lD⟩:∃ iy,iy=ms.tail:=⟨_,rfl⟩
  rw[<- lD]at jC;have js:∀(lb:List Nat)(ids:List Nat),lb.length=ids.length->(∀(k id:Nat),ids[k]? = some id->∃ b cs,lb[k]? = some b/\ι id=some b/\σ.h id = .box cs)->∀ id b,Has ι id b->(∃ e sz m es,σ.h id = .sl e sz m es)->b∉lb:=by
   intro lb ids h1 h2 id b hb ⟨e,sz,m,es,hh⟩ hm;obtain⟨k,hk,yc⟩:=List.getElem_of_mem hm;obtain⟨b',cs',h5,h6,h7⟩:=h2 k _ (List.getElem?_eq_getElem (by omega));rw[List.getElem?_eq_getElem hk,yc]at h5
   cases h5;have:=od S hb (.inl h6);subst this;rw[hh]at h7
   cases h7
  cases hm:(ms.headD .d).h with
  | true =>
   have hD:cy ms (x::xs)=cy iy xs:=by rw[Uz,hm,if_pos rfl,lD]
   have hO:cT ms (x::xs)=x::cT iy xs:=by rw[Uy,hm,if_pos rfl,lD]
   rw[hD]at cE d9 ⊢;rw[hO]at fK ⊢;simp only[List.flatMap_cons]at fK ⊢;have pD:=List.nodup_append.1 fK;obtain⟨lb,gb,h1,G,h2,h3,h4,qK⟩:=Cr S hF iy vs xs l6 (by simpa using hl) (λk v x hk hx=>hv (k+1) v x hk hx) jC cE d9 pD.2.1;have one:∀(sz id:Nat)(e e0:TypeId)(m m0:Mo)(es:List (List D)),x = .r sz id 0 es.length->HB (σ.h id) (.sl e sz m es)->σ.h id = .sl e0 sz m0 es->y = .ow e sz m es->
     ∃ lb gb,eO w F0 (v::vs) (y::l6) lb gb/\dJ σ ι gb (x.refs++(cT iy xs).flatMap AV.refs)/\lb.length=((cy iy xs).flatMap AV.cp).length/\(∀(k id:Nat),((cy iy xs).flatMap AV.cp)[k]? = some id->∃ b cs,lb[k]? = some b/\ι id=some b/\σ.h id = .box cs)/\
      (∀ id,id∈(cy iy xs).flatMap AV.refs->∃ e sz m es,σ.h id = .sl e sz m es)/\Full σ.h ((cy iy xs).flatMap AV.refs):=by
    rintro sz id e e0 m m0 es rfl hB hh rfl
    refine⟨lb,iP ι id (.sl e sz m es)::gb,.own v _ e sz m es vs l6 lb gb (UA S hF hB hh mA) (λb hb=>⟨js lb _ h2 h3 id b (x9.1 hb) ⟨_,_,_,_,hh⟩,λhg=>?_⟩) h1,by simpa[AV.refs,AV.b4]using G.cons hB,h2,h3,h4,qK⟩;obtain⟨cn,h5,h6⟩:=G.oe.1 hg;have:=od S (x9.1 hb) h6;subst this;exact pD.2.2 id (by simp[AV.refs,AV.b4]) id h5 rfl
   cases yd:ms.headD .d with
   | d=>rw[yd]at hm;cases hm
   | o =>
    rw[yd]at hx;simp only[AV.gI]at hx
    cases x with
    | r sz id off len =>
     simp only[AV.iL]at hx
     split at hx
     rotate_left
     ·cases hx
     rename_i e bt es hh
     split at hx
     rotate_left
     ·cases hx
     rename_i hc;obtain⟨rfl,rfl,rfl⟩:=hc
     cases hx;exact one bt id e e .ow .ow es rfl (.inl ⟨_,_,_,hh,rfl⟩) hh rfl
    | _=>simp[AV.iL]at hx
   | p =>
    rw[yd]at hx;simp only[AV.gI]at hx
    cases x with
    | r sz id off len =>
     simp only[AV.iZ]at hx;obtain⟨e,g,t,es,hh,rfl,rfl,rfl⟩:=UB hx;exact one sz id 0 e _ _ es rfl (.inr ⟨_,_,_,_,_,hh,rfl⟩) hh rfl
    | a cs =>
     simp only[AV.iZ]at hx
     split at hx
     rotate_left
     ·cases hx
     rename_i ds cA
     cases hx;generalize dU:cs=gL at *
     cases mA with
     | a arr _ gq gG i9 =>
      obtain⟨g1,k1,k2,k3⟩:=UC S hF arr.toList gL ds (by simpa using gq) (λk v x hk hx=>i9 k v x (by simpa using hk) hx) cA pD.1;refine⟨lb,g1++gb,.agg arr ds vs l6 lb g1 gb k1 k3 (λu hu=>?_) (λb hb=>?_) h1,k2.append G,h2,h3,h4,qK⟩
      ·obtain⟨k,hk⟩:=List.getElem?_of_mem hu;exact gG k u (by simpa using hk)
      ·obtain⟨id,h5,h6⟩:=k2.oe.1 hb;refine⟨js lb _ h2 h3 id b h6 (k2.sl h5).1,λhg=>?_⟩;obtain⟨cn,h7,h8⟩:=G.oe.1 hg;have:=od S h6 h8;subst this;exact pD.2.2 id h5 id h7 rfl
    | _=>simp[AV.iZ]at hx
  | false =>
  have yd:ms.headD .d = .d:=by cases hq:ms.headD .d <;> rw[hq]at hm <;> first | rfl | cases hm
  rw[yd]at hx;simp only[AV.gI]at hx;have hD:cy ms (x::xs)=x::cy iy xs:=by rw[Uz,hm,lD];rfl
  have hO:cT ms (x::xs)=cT iy xs:=by rw[Uy,hm,lD];rfl
  rw[hD]at cE d9 ⊢;rw[hO]at fK ⊢;simp only[List.flatMap_cons]at cE d9;have mL:=(List.nodup_append.1 d9)
  obtain⟨lb,gb,h1,hG,h2,h3,h4,qK⟩:=Cr S hF iy vs xs l6 (by simpa using hl) (λk v x hk hx=>hv (k+1) v x hk hx) jC (λid b bp=>cE id b (List.mem_append.2 (.inr bp))) mL.2.1 fK;have plain:∀(d:D),x.d σ.h=some d->x.refs=x.b4->x.cp=[]->y = .c d->∃ lb gb,eO w F0 (v::vs) (y::l6) lb gb/\dJ σ ι gb ((cT iy xs).flatMap AV.refs)/\
    lb.length=((x::cy iy xs).flatMap AV.cp).length/\(∀(k id:Nat),((x::cy iy xs).flatMap AV.cp)[k]? = some id->∃ b cs,lb[k]? = some b/\ι id=some b/\σ.h id = .box cs)/\(∀ id,id∈(x::cy iy xs).flatMap AV.refs->∃ e sz m es,σ.h id = .sl e sz m es)/\Full σ.h ((x::cy iy xs).flatMap AV.refs):=by
   intro d hd hr fV Cn;subst Cn;have cA:AV.ds σ.h [x]=some [d]:=by simp[AV.ds,hd]
   have lz:∀ id,id∈x.b4->∃ e sz m es,σ.h id = .sl e sz m es:=λid bp=>xW cA id (by simpa[AV.bU]using bp);have:Rd w F0 v d:=AV.kj S hF mA hd (λid b bp hi=>cE id b (List.mem_append.2 (.inl (by rw[hr];exact bp))) (lz id bp) (.inl hi)) (λid b p bp hk=>cE id b (List.mem_append.2 (.inl (by rw[hr];exact bp))) (lz id bp) (.inr ⟨p,hk⟩));refine⟨lb,gb,.eW v _ vs l6 lb gb (pC this) h1 rfl,hG,by simpa[fV]using h2,by simpa[fV]using h3,λid bp=>?_,λid bp=>?_⟩
   ·rw[List.flatMap_cons]at bp
    rcases List.mem_append.1 bp with bp | bp
    ·exact lz id (by rw[<- hr];exact bp)
    ·exact h4 id bp
   ·rw[List.flatMap_cons]at bp
    rcases List.mem_append.1 bp with bp | bp
    ·exact Uc hd id (by rw[<- hr];exact bp)
    ·exact qK id bp
  cases x with
  | c d =>
   simp[AV.arg]at hx;exact plain d rfl rfl rfl hx.symm
  | n sz =>
   simp[AV.arg]at hx;exact plain _ rfl rfl rfl hx.symm
  | r sz id off len =>
   simp only[AV.arg]at hx
   split at hx
   rotate_left
   ·cases hx
   rename_i d hd
   cases hx;exact plain d hd rfl rfl rfl
  | b d0 id g pt =>
   simp only[AV.arg]at hx
   split at hx
   rotate_left
   ·cases hx
   rename_i d hd
   cases hx;exact plain d hd rfl rfl rfl
  | a cs =>
   simp only[AV.arg]at hx
   split at hx
   rotate_left
   ·cases hx
   rename_i ds cA
   cases hx;have eC:=AV.eb cA;have hrefs:=xW cA;have:VR w F0 noι vt v (.a (ds.map .c)):=by
    generalize dU:cs=gL at *
    cases mA with
    | a us _ gq gG i9 =>
     refine .a us _ (by simp[eC.1,gq]) gG (λk u y hk hy=>?_);simp only[List.getElem?_map,Option.map_eq_some_iff]at hy;obtain⟨d,hd,rfl⟩:=hy;have aY:k<gL.length:=by rw[<- eC.1];exact(List.getElem?_eq_some_iff.1 hd).1
     obtain⟨d',dr,fm⟩:=eC.2 k _ (List.getElem?_eq_getElem aY);rw[hd]at dr
     cases dr;refine pC (AV.kj S hF (i9 k u _ hk (List.getElem?_eq_getElem aY)) fm (λid b bp hi=>?_) (λid b p bp hi=>?_))
     ·have hm:=vg (List.getElem?_eq_getElem aY) bp;exact cE id b (List.mem_append.2 (.inl hm)) (hrefs id hm) (.inl hi)
     ·have hm:=vg (List.getElem?_eq_getElem aY) bp;exact cE id b (List.mem_append.2 (.inl hm)) (hrefs id hm) (.inr ⟨p,hi⟩)
   refine⟨lb,gb,.eW v _ vs l6 lb gb this h1 ?_,hG,by simpa[AV.cp]using h2,by simpa[AV.cp]using h3,λcn bp=>?_,λcn bp=>?_⟩
   ·simp only[AV.eW,List.all_eq_true];intro x hx;obtain⟨d,_,rfl⟩:=List.mem_map.1 hx;rfl
   ·rw[List.flatMap_cons]at bp
    rcases List.mem_append.1 bp with bp | bp
    ·exact hrefs cn bp
    ·exact h4 cn bp
   ·rw[List.flatMap_cons]at bp
    rcases List.mem_append.1 bp with bp | bp
    ·exact Ci cA cn bp
    ·exact qK cn bp
  | p id i j =>
   match i,j,hx with
   | 0,0,hx =>
    simp only[AV.arg]at hx
    split at hx
    rotate_left
    ·cases hx
    rename_i cs hh
    split at hx
    rotate_left
    ·cases hx
    rename_i UD
    split at hx
    rotate_left
    ·cases hx
    rename_i ds cA
    cases hx;have eC:=AV.eb cA;have dH:=S.fH id;rw[hh]at dH
    cases mA with
    | dg _ _ _ _ _ fm=>rw[fm]at hh;cases hh
    | p _ _ _ bk hi nW anW =>
     rw[hh];simp only[aX.sz,Nat.mul_zero,Nat.zero_add]
     cases dH with
     | box nX et bz _ cc fp hb gq gG d6 =>
      rw[hi]at cc;cases cc;rw[fp];have dI:bk∉lb:=by
       intro hm;obtain⟨k,hk,yc⟩:=List.getElem_of_mem hm;have gY:k<((cy iy xs).flatMap AV.cp).length:=by omega
       obtain⟨b',cs',h5,h6,_⟩:=h3 k _ (List.getElem?_eq_getElem gY);rw[List.getElem?_eq_getElem hk,yc]at h5
       cases h5;have:=S.inj _ _ _ hi h6;exact mL.2.2 id (by simp[AV.cp]) _ (List.getElem_mem gY) this
      refine⟨bk::lb,gb,.box bk et bz _ vs l6 lb gb hb ⟨by simp[eC.1,gq],gG,λk u y hk hy=>?_⟩ (Q20 cA) dI (λye=>?_) h1,hG,by simp[AV.cp,h2],λk cn hk=>?_,λcn bp=>?_,λcn bp=>?_⟩
      ·simp only[List.getElem?_map,Option.map_eq_some_iff]at hy;obtain⟨d,hd,rfl⟩:=hy;have aY:k<cs.length:=by rw[<- eC.1];exact(List.getElem?_eq_some_iff.1 hd).1
       obtain⟨d',dr,fm⟩:=eC.2 k _ (List.getElem?_eq_getElem aY);rw[hd]at dr
       cases dr;refine pC (AV.kj S hF (d6 k u _ hk (List.getElem?_eq_getElem aY)) fm (λid b bp hi=>?_) (λid b p bp hi=>?_))
       ·have hm:=vg (List.getElem?_eq_getElem aY) bp;rw[UD]at hm
        cases hm
       ·have hm:=vg (List.getElem?_eq_getElem aY) bp;rw[UD]at hm
        cases hm
      ·obtain⟨cn,h5,h6⟩:=hG.oe.1 ye;have:=od S h6 (.inl hi);subst this;obtain⟨⟨_,_,_,_,h7⟩,_⟩:=hG.sl h5;rw[hh]at h7
       cases h7
      ·simp only[List.flatMap_cons,AV.cp,List.singleton_append]at hk
       cases k with
       | zero=>simp at hk;subst hk;exact⟨bk,cs,rfl,hi,hh⟩
       | succ k=>simp at hk;simpa using h3 k cn hk
      ·rw[List.flatMap_cons]at bp
       rcases List.mem_append.1 bp with bp | bp
       ·simp[AV.refs,AV.b4]at bp
       ·exact h4 cn bp
      ·rw[List.flatMap_cons]at bp
       rcases List.mem_append.1 bp with bp | bp
       ·simp[AV.refs,AV.b4]at bp
       ·exact qK cn bp
   | i+1,_,hx=>simp[AV.arg]at hx
   | 0,j+1,hx=>simp[AV.arg]at hx
  | u=>simp[AV.arg]at hx
  | q=>simp[AV.arg]at hx
  | t=>simp[AV.arg]at hx
  | bx=>simp[AV.arg]at hx
  | ow=>simp[AV.arg]at hx
  | bq=>simp[AV.arg]at hx
end
end Go.Proofs.YtdplaepmjogjjaaGreat.Am
namespace Go.Proofs.YtdplaepmjogjjaaGreat.Am
open Go Go.RowKit
section
variable {C:Ctx} {U U':Nat->Prop} {σ:St} {a:Act} {w:World} {ι:Io}
theorem cX.alive{x y:aX}(h:cX x y):y.alive=true:=by
 cases x <;> cases y <;> first | rfl | exact h.elim
theorem QSk{x:aX}{b:Nat}(h:x≠.none/\x≠.dead):x.sh b≠.none/\x.sh b≠.dead:=by
 cases x <;> simp_all [aX.sh]
theorem QYl{x:aX}(h:x≠.none/\x≠.dead):ka x≠.none/\ka x≠.dead:=by
 cases x <;> simp_all [ka]
theorem QYq{x:aX}{b:Nat}:(x.sh b).own=x.own:=by cases x <;> rfl
theorem QXN{y:aX}(h:y.alive=true):y≠.none/\y≠.dead:=by
 cases y <;> simp_all [aX.alive]
theorem sV{B0 x B:aX}(hB:HB B0 x)(hs:B = .dead\/YP x B):mr B0 B = .dead\/(∃ e sz m es bZ m',B0 = .sl e sz m es/\mr B0 B = .sl e sz m' bZ/\bZ.length=es.length/\Mo.le m m'/\m.gen≠m'.gen.bind (λg=>some g)/\
  (B = .sl e sz m' bZ/\m = .ow/\m'.gen=none\/∃ g t g1 t1,m = .dp g t []/\m' = .dp (g+1) false []/\B = .sl 0 sz (.dp g1 t1 []) bZ))\/(∃ e sz es bZ m',B0 = .sl e sz .ow es/\B = .sl e sz m' bZ/\mr B0 B=B/\bZ.length=es.length/\m'.gen=none/\Mo.le .ow m'):=by
 rcases hB with⟨e,sz,es,rfl,rfl⟩ | ⟨e,sz,g,t,es,rfl,rfl⟩
 ·rcases hs with rfl | hs
  ·exact .inl rfl
  ·cases B with
   | sl e' bt m' bZ =>
    obtain⟨rfl,rfl,hl,ht,hm⟩:=hs;have j3:m'.gen=none:=by
     cases hx:m'.gen with
     | none=>rfl
     | some g=>have:=hm (by rw[hx];rfl);cases this
    exact .inr (.inr ⟨e',bt,es,bZ,m',rfl,rfl,rfl,hl,j3,⟨λ_=>rfl,λg h=>by rw[j3]at h;cases h⟩⟩)
   | _=>exact hs.elim
 ·rcases hs with rfl | hs
  ·exact .inl rfl
  ·cases B with
   | sl e' bt m' bZ =>
    obtain⟨rfl,rfl,hl,hm⟩:=hs
    cases m' with
    | dp g1 t1 H =>
     cases H with
     | nil=>exact .inr (.inl ⟨e,bt,_,es,bZ,_,rfl,rfl,hl,⟨λh=>(by cases h),λg' h=>⟨g,rfl,(by cases h;omega)⟩⟩,(by simp[Mo.gen]),.inr ⟨g,t,g1,t1,rfl,rfl,rfl⟩⟩)
     | cons=>exact .inl rfl
    | _=>exact .inl rfl
   | _=>exact hs.elim
set_option maxHeartbeats 1000000 in
theorem Sat.called(S:Sat C U σ a w ι){b N:Nat}{r:iS}{refs ck cA lb:List Nat}{gb:List Hd}{F0:Nat->Prop}{v:Value}{w':World}{ι':Io}
  (hb:∀ i,b<=i->i<b+N->U i) (bW:∀ i,U' i->U i/\¬ (b<=i/\i<b+N)) (sW:r.hb.length<=N)
  (yf:r.al=true->∀ k,F0 k->Fz C w (ι.loose refs) (bA σ.h (fu σ.h refs)) k) (hrefs:r.al=true->∀ id,id∈refs->∃ e sz m es,σ.h id = .sl e sz m es) (ea:r.al=true->Full σ.h refs)
  (d9:ck.Nodup) (hlen:lb.length=ck.length) (ja:∀(k id:Nat),ck[k]? = some id->∃ b cs,lb[k]? = some b/\ι id=some b/\σ.h id = .box cs)
  (gZ:cA.Nodup) (G:dJ σ ι gb cA) (og:∀ id,id∈cA->id∉refs)
  (P:i7 w F0 lb gb r v w' ι') :
  ∃ eg ι'',bA σ.h (Jp b (r.hb.map (aX.sh b))++JO ck r.bx++Y0 σ.h cA r.gv++(if r.al then fu σ.h refs else []))=eg/\Sat C U' ⟨σ.t,eg,σ.nx⟩ a w' ι''/\VR w' (Fz C w' ι'' eg) ι'' eg v (r.v.sh b)/\
   (∀ k,Fz C w ι σ.h k->Fz C w' ι'' eg k/\w'.heap[k]? = w.heap[k]?)/\(∀ i,dn w w' ι ι'' σ.h eg i)/\
   (∀ i,¬ (b<=i/\i<b+N)->i∉ck->i∉cA->(r.al=true->i∉refs)->Rest w w' ι ι'' i/\eg i=σ.h i):=by
 obtain⟨n,hn⟩:∃ n,n=r.hb.length:=⟨_,rfl⟩
 obtain⟨eg,mM⟩:∃ eg,eg=bA σ.h (Jp b (r.hb.map (aX.sh b))++JO ck r.bx++Y0 σ.h cA r.gv++(if r.al then fu σ.h refs else [])):=⟨_,rfl⟩
 have sZ:r.bx.length=ck.length:=P.It.trans hlen;have pE:r.gv.length=cA.length:=P.Iu.trans G.len;have eC:∀ id,id∈cA->∃ e sz m es,σ.h id = .sl e sz m es:=λid hm=>(G.sl hm).1;have qL:∀ id,id∈cA->(σ.h id).own=true:=λid hm=>(G.sl hm).2;have kt:∀ id,id∈ck->∃ bk cs,bk∈lb/\ι id=some bk/\σ.h id = .box cs:=by
  intro id hm;obtain⟨k,hk⟩:=List.getElem?_of_mem hm;obtain⟨bk,cs,h1,h2,h3⟩:=ja k _ hk;exact⟨bk,cs,List.mem_of_getElem? h1,h2,h3⟩
 have mN:∀ id,id∈ck->id∉cA:=by
  intro id hm yg;obtain⟨_,cs,_,_,h3⟩:=kt id hm;obtain⟨e,sz,m,es,h4⟩:=eC id yg;rw[h4]at h3
  cases h3
 have yh:r.al=true->∀ id,id∈ck->id∉refs:=by
  intro ha id hm yg;obtain⟨_,cs,_,_,h3⟩:=kt id hm;obtain⟨e,sz,m,es,h4⟩:=hrefs ha id yg;rw[h4]at h3
  cases h3
 have ft:∀ i,i<n->eg (i+b)=(r.h i).sh b:=by
  intro i hi;have yi:=S.fresh (i+b) (hb _ (by omega) (by omega));have h1:i+b∉ck:=λhm=>by
   obtain⟨_,cs,_,_,h3⟩:=kt _ hm;rw[yi.1]at h3
   cases h3
  have h2:r.al=true->i+b∉refs:=λha hm=>by
   obtain⟨e,sz,m,es,h3⟩:=hrefs ha _ hm;rw[yi.1]at h3
   cases h3
  have h0:i+b∉cA:=λhm=>by
   obtain⟨e,sz,m,es,h3⟩:=eC _ hm;rw[yi.1]at h3
   cases h3
  have fA:bA (bA (bA σ.h (Jp b (r.hb.map (aX.sh b)))) (JO ck r.bx)) (Y0 σ.h cA r.gv) (i+b)=(r.h i).sh b:=by
   rw[(x8 σ.h cA r.gv _ (i+b) gZ pE).1 h0,(Cq ck r.bx _ (i+b) d9 sZ).1 h1,Ux,if_pos ⟨by omega,by simp;omega⟩];have:i<r.hb.length:=by omega
   simp[iS.h,this]
  rw[mM,ma,ma,ma]
  cases ha:r.al
  ·simpa[bA]using fA
  ·simp only[if_true];rw[Y8,if_neg (h2 ha)];exact fA
 have fV:∀(k id:Nat)(cs:List AV),ck[k]? = some id->r.bx[k]? = some cs->eg id = .box cs:=by
  intro k id cs hk dU;have hm:id∈ck:=List.mem_of_getElem? hk;rw[mM,ma,ma,ma];have fA:bA (bA (bA σ.h (Jp b (r.hb.map (aX.sh b)))) (JO ck r.bx)) (Y0 σ.h cA r.gv) id = .box cs:=by
   rw[(x8 σ.h cA r.gv _ id gZ pE).1 (mN id hm)];exact(Cq ck r.bx (bA σ.h (Jp b (r.hb.map (aX.sh b)))) id d9 sZ).2 k cs hk dU
  cases ha:r.al
  ·simpa[bA]using fA
  ·simp only[if_true];rw[Y8,if_neg (yh ha id hm)];exact fA
 have yj:∀(k id:Nat)(B:aX),cA[k]? = some id->r.gv[k]? = some B->eg id=mr (σ.h id) B:=by
  intro k id B hk hB;have hm:id∈cA:=List.mem_of_getElem? hk;have fA:=(x8 σ.h cA r.gv (bA (bA σ.h (Jp b (r.hb.map (aX.sh b)))) (JO ck r.bx)) id gZ pE).2 k B hk hB;rw[mM,ma,ma,ma]
  cases ha:r.al
  ·simpa[bA]using fA
  ·simp only[if_true];rw[Y8,if_neg (og id hm)];exact fA
 have hold:∀ i,¬ (b<=i/\i<b+n)->i∉ck->i∉cA->eg i=if r.al=true/\i∈refs then ka (σ.h i) else σ.h i:=by
  intro i h1 h2 h0;have fA:bA (bA (bA σ.h (Jp b (r.hb.map (aX.sh b)))) (JO ck r.bx)) (Y0 σ.h cA r.gv) i=σ.h i:=by
   rw[(x8 σ.h cA r.gv _ i gZ pE).1 h0,(Cq ck r.bx _ i d9 sZ).1 h2,Ux,if_neg (by simpa[<- hn]using h1)]
  rw[mM,ma,ma,ma]
  cases ha:r.al
  ·simpa[bA]using fA
  ·simp only[if_true,true_and];rw[Y8]
   split
   ·rfl
   ·exact fA
 obtain⟨Cs,pF⟩:∃ Cs:Nat->Option (Nat × cM),Cs=λk=>match ι'.k k with
   | some (i,p)=>if i<n then some (i+b,p) else(match cA[i-n]? with | some x=>if(eg x).alive=true then some (x,p) else none | none=>none)
   | none=>match ι.k k with
    | some (y,p)=>if y∈cA\/(r.al=true/\y∈refs) then none else some (y,p)
    | none=>none:=⟨_,rfl⟩
 obtain⟨ι'',hι''⟩:∃ ι'':Io,ι''=⟨λi=>if b<=i/\i<b+n then ι' (i-b) else if i∈cA/\(eg i).alive=false then Option.none else ι i,Cs,λi=>if b<=i/\i<b+n then ι'.o (i-b) else ι.o i⟩:=⟨_,rfl⟩
 have fJ:ι''.k=Cs:=by rw[hι'']
 have hιn:∀ i,i<n->ι'' (i+b)=ι' i:=λi hi=>by rw[hι''];simp only;rw[if_pos (by omega)];congr 1;omega
 have hιno:∀ i,i<n->ι''.o (i+b)=ι'.o i:=λi hi=>by rw[hι''];simp only;rw[if_pos (by omega)];congr 1;omega
 have hιoo:∀ i,¬ (b<=i/\i<b+n)->ι''.o i=ι.o i:=λi hi=>by rw[hι''];simp only;rw[if_neg hi]
 have hιq:∀ i,¬ (b<=i/\i<b+n)->ι'' i=if i∈cA/\(eg i).alive=false then Option.none else ι i:=λi hi=>by rw[hι''];simp only;rw[if_neg hi]
 have hιo:∀ i,¬ (b<=i/\i<b+n)->i∉cA->ι'' i=ι i:=λi hi h0=>by rw[hιq i hi,if_neg (λh=>h0 h.1)]
 have hιa:∀ i,¬ (b<=i/\i<b+n)->(eg i).alive=true->ι'' i=ι i:=λi hi h0=>by rw[hιq i hi,if_neg (λh=>by rw[h0]at h;cases h.2)]
 have hιs:∀ i k,¬ (b<=i/\i<b+n)->ι'' i=some k->ι i=some k/\(i∈cA->(eg i).alive=true):=λi k hi hk=>by
  rw[hιq i hi]at hk
  split at hk
  ·cases hk
  ·rename_i h0;refine⟨hk,λhm=>?_⟩
   cases hx:(eg i).alive with
   | true=>rfl
   | false=>exact absurd ⟨hm,hx⟩ h0
 have dt:∀ i,n<=i->r.h i = .none:=λi hi=>by simp[iS.h,List.getElem?_eq_none (show r.hb.length<=i by omega)]
 have mO:∀ i,i<n->ι'' (i+b)=ι' i/\ι''.o (i+b)=ι'.o i/\eg (i+b)=(r.h i).sh b:=λi hi=>⟨hιn i hi,hιno i hi,ft i hi⟩
 have kP:∀ i,b<=i/\i<b+n->σ.h i = .none/\ι i=Option.none:=λi hi=>S.fresh i (hb i hi.1 (by omega));have dE:∀ i,b<=i/\i<b+n->∃ j,j<n/\i=j+b:=λi hi=>⟨i-b,by omega,by omega⟩
 have mb:∀ j,j<n->((r.hb++r.gv)[j]?).getD .none=r.h j:=λj hj=>by simp only[iS.h];rw[List.getElem?_append_left (by omega)]
 have UE:∀ k,(r.hb++r.gv)[n+k]? = r.gv[k]?:=λk=>by rw[List.getElem?_append_right (by omega)];congr 1;omega
 have iz:∀ i,i∈cA->∃(j:Nat)(B B1:aX),cA[j]? = some i/\gb[j]? = some (iP ι i B1)/\HB (σ.h i) B1/\r.gv[j]? = some B/\eg i=mr (σ.h i) B/\(B = .dead\/YP B1 B/\ι' (n+j)=ι i/\ι'.o (n+j)=ι.o i/\BR w' (ob w w' F0 gb r ι') ι' r.h (n+j) B/\∀ k,ι i=some k->w'.shape? k=w.shape? k):=by
  intro i hm;obtain⟨j,hj⟩:=List.getElem?_of_mem hm;obtain⟨B1,h1,h2⟩:=G.get j _ hj;have n0:=(List.getElem?_eq_some_iff.1 hj).1;have hB:r.gv[j]? = some (r.gv[j]'(by omega)):=List.getElem?_eq_getElem (by omega);have h4:=yj j _ _ hj hB;have h5:=P.gv j _ _ h1 hB;rw[<- hn]at h5;exact⟨j,_,B1,hj,h1,h2,hB,h4,h5⟩
 have pG:∀ i j j',cA[j]? = some i->cA[j']? = some i->j=j':=λi j j' h1 h2=>(List.getElem?_inj (List.getElem?_eq_some_iff.1 h1).1 gZ).1 (h1.trans h2.symm);have d7:∀ i,i∈cA->(eg i).alive=true->∃(j:Nat)(B B1:aX),cA[j]? = some i/\r.gv[j]? = some B/\eg i=mr (σ.h i) B/\HB (σ.h i) B1/\YP B1 B/\ι' (n+j)=ι i/\ι'.o (n+j)=ι.o i/\BR w' (ob w w' F0 gb r ι') ι' r.h (n+j) B/\∀ k,ι i=some k->w'.shape? k=w.shape? k:=by
  intro i hm dY;obtain⟨j,B,B1,h1,h2,h3,h4,h5,h6⟩:=iz i hm
  rcases h6 with rfl | ⟨h6,h7,h8,h9,vu⟩
  ·rcases h3 with⟨e,sz,es,q1,_⟩ | ⟨e,sz,g,t,es,q1,_⟩
   ·rw[h5,q1]at dY;cases dY
   ·rw[h5,q1]at dY;cases dY
  ·exact⟨j,B,B1,h1,h4,h5,h3,h6,h7,h8,h9,vu⟩
 have kQ:∀ id k,id∈ck->ι id=some k->k∈lb/\(σ.h id).own=true:=by
  intro id k hm hk;obtain⟨bk,cs,h1,h2,h3⟩:=kt id hm;rw[hk]at h2
  cases h2;exact⟨h1,by rw[h3];rfl⟩
 have jb:∀ k,k∈lb->∃ id,id∈ck/\ι id=some k:=by
  intro k hm;obtain⟨j,hj,jt⟩:=List.getElem_of_mem hm;have j4:j<ck.length:=by omega
  obtain⟨b',cs,h1,h2,h3⟩:=ja j _ (List.getElem?_eq_getElem j4);rw[List.getElem?_eq_getElem hj,jt]at h1
  cases h1;exact⟨_,List.getElem_mem j4,h2⟩
 have ec:∀ k,k<w.heap.size->k∉lb->¬ Yo gb k->w'.heap[k]? = w.heap[k]?:=P.block;have jc:∀ k,Fz C w ι σ.h k->¬ Yo gb k:=by
  intro k hk hg;obtain⟨id,h1,h2⟩:=G.oe.1 hg
  rcases h2 with h2 | ⟨p,h2⟩
  ·have:=hk.2.2.1 id h2;rw[qL id h1]at this
   cases this
  ·rw[hk.2.2.2]at h2;cases h2
 have jK:∀ k,Yo gb k->C.fr k/\k<w.heap.size:=by
  intro k hg;obtain⟨id,h1,h2⟩:=G.oe.1 hg
  rcases h2 with h2 | ⟨p,h2⟩
  ·obtain⟨e,sz,m,es,h3⟩:=eC id h1;obtain⟨h4,h5⟩:=S.eL id k h2;exact⟨h4.elim (λh=>h) λ⟨_,cs,h4⟩=>(by rw[h3]at h4;cases h4),h5⟩
  ·have L:=S.dA k id p h2;exact⟨L.fr,L.lt⟩
 have ic:∀ k i,Yo gb k->ι i=some k->i∈cA:=by
  intro k i hg hi;obtain⟨id,h1,h2⟩:=G.oe.1 hg;rw[od S (.inl hi) h2];exact h1
 have fZ:∀ k i p,Yo gb k->ι.k k=some (i,p)->i∈cA:=by
  intro k i p hg hi;obtain⟨id,h1,h2⟩:=G.oe.1 hg;rw[od S (.inr ⟨p,hi⟩) h2];exact h1
 have yk:∀ k,Fz C w ι σ.h k->k∉lb:=by
  intro k hk hm;obtain⟨id,h1,h2⟩:=jb k hm;have h3:=hk.2.2.1 id h2;rw[(kQ id k h1 h2).2]at h3
  cases h3
 have gz:∀ k i p,ι'.k k=some (i,p)->k<w.heap.size->Yo gb k:=λk i p hk aY=>by
  obtain⟨_,_,h1,_⟩:=P.dA k i p hk;exact h1.elim (λh=>by omega) (λh=>h)
 have Iw:∀ k i p,ι.k k=some (i,p)->i∉cA->(r.al=true->i∉refs)->ι''.k k=some (i,p):=by
  intro k i p hk h1 h2;have L:=S.dA k i p hk;have:ι'.k k=none:=by
   cases hx:ι'.k k with
   | none=>rfl
   | some z=>obtain⟨z,q⟩:=z;exact absurd (fZ k i p (gz k z q hx L.lt) hk) h1
  rw[fJ,pF];simp only[this,hk];rw[if_neg (λh=>h.elim h1 (λh=>h2 h.1 h.2))]
 have jd:∀ k i p,ι''.k k=some (i,p)->(∃ j,j<n/\i=j+b/\ι'.k k=some (j,p))\/(∃ j,cA[j]? = some i/\(eg i).alive=true/\ι'.k k=some (n+j,p))\/(ι'.k k=none/\ι.k k=some (i,p)/\i∉cA/\(r.al=true->i∉refs)):=by
  intro k i p hk;rw[fJ,pF]at hk;simp only at hk
  split at hk
  ·rename_i z q hz
   split at hk
   ·rename_i h1;cases hk;exact .inl ⟨z,h1,rfl,hz⟩
   ·rename_i h1
    split at hk
    rotate_left
    ·cases hk
    rename_i x hx
    split at hk
    rotate_left
    ·cases hk
    rename_i dY
    cases hk;exact .inr (.inl ⟨z-n,hx,dY,by rw[hz];congr 2;omega⟩)
  ·rename_i hz
   split at hk
   rotate_left
   ·cases hk
   rename_i y q hy
   split at hk
   ·cases hk
   ·rename_i h1
    cases hk;simp only[not_or,not_and]at h1;exact .inr (.inr ⟨hz,hy,h1.1,h1.2⟩)
 have mP:∀ k i p,ι.k k=some (i,p)->i∉cA->w'.heap[k]? = w.heap[k]?:=λk i p hk h1=>ec k (S.dA k i p hk).lt (λhm=>by
  obtain⟨id,_,h2⟩:=jb k hm;exact(S.dA k i p hk).ne id h2) (λhg=>h1 (fZ k i p hg hk))
 have ku:∀ k i,ι i=some k->i∉cA->i∉ck->w'.heap[k]? = w.heap[k]?:=λk i hk h1 h2=>ec k (S.eL i k hk).2 (λhm=>by
  obtain⟨id,h3,h4⟩:=jb k hm;exact h2 (by rw[S.inj i id k hk h4];exact h3)) (λhg=>h1 (ic k i hg hk))
 have b8:∀ i,¬ (b<=i/\i<b+n)->i∉ck->i∉cA->(r.al=true->i∉refs)->Rest w w' ι ι'' i/\eg i=σ.h i:=λi h1 h2 h3 h4 =>
  ⟨⟨hιo i h1 h3,hιoo i h1,λk hk=>ku k i hk h3 h2,λk p hk=>⟨Iw k i p hk h3 h4,mP k i p hk h3⟩⟩,by rw[hold i h1 h2 h3,if_neg (λh=>h4 h.1 h.2)]⟩
 have hF:∀ k,Fz C w ι σ.h k->Fz C w' ι'' eg k/\w'.heap[k]? = w.heap[k]?:=by
  intro k hk;refine⟨⟨by have:=hk.1;have:=P.size;omega,hk.2.1,λi hi=>?_,?_⟩,ec k hk.1 (yk k hk) (jc k hk)⟩
  ·by_cases hc:b<=i/\i<b+n
   ·obtain⟨j,hj,rfl⟩:=dE i hc;rw[hιn j hj]at hi
    rcases(P.eL j k hi).1 with h5 | h5
    ·have:=hk.1;omega
    ·exact absurd h5 (jc k hk)
   ·have hi:=(hιs i k hc hi).1;have cE:=hk.2.2.1 i hi;have jG:i∉ck:=λhm=>by rw[(kQ i k hm hi).2]at cE;cases cE
    have hnh:i∉cA:=λhm=>by rw[qL i hm]at cE;cases cE
    rw[hold i hc jG hnh]
    split
    ·cases hx:(ka (σ.h i)).own with
     | false=>rfl
     | true=>rw[TY _ hx]at cE;cases cE
    ·exact cE
  ·cases hx:ι''.k k with
   | none=>rfl
   | some z =>
    obtain⟨z,q⟩:=z
    rcases jd k z q hx with⟨j,_,_,h1⟩ | ⟨j,_,_,h1⟩ | ⟨_,h1,_⟩
    ·exact absurd (gz k _ _ h1 hk.1) (jc k hk)
    ·exact absurd (gz k _ _ h1 hk.1) (jc k hk)
    ·rw[hk.2.2.2]at h1;cases h1
 have hg:∀ i,dn w w' ι ι'' σ.h eg i:=by
  intro i;by_cases hc:b<=i/\i<b+n
  ·exact .inl (kP i hc).1
  ·by_cases hl:i∈ck
   ·obtain⟨j,hj,jt⟩:=List.getElem_of_mem hl;obtain⟨b',cs,h1,h2,h3⟩:=ja j _ (List.getElem?_eq_getElem hj);have j4:j<r.bx.length:=by omega
    have h4:=fV j _ _ (List.getElem?_eq_getElem hj) (List.getElem?_eq_getElem j4);obtain⟨_,h6,e,bz,h7,h8⟩:=P.bx j b' _ h1 (List.getElem?_eq_getElem j4);rw[jt]at h2 h3 h4;unfold dn;right;right;refine⟨hιo i hc (mN i hl),hιoo i hc,?_,λk hk=>?_,λg h=>?_⟩
    ·rw[h3,h4];have dH:=S.fH i;rw[h3]at dH
     cases dH with
     | box bk et vs _ cc _ oY gq _ _ =>
      rw[h2]at cc;cases cc;unfold World.shape? at h6;rw[oY,h7]at h6;simp only[Option.some.injEq,Prod.mk.injEq]at h6;show(r.bx[j]).length=cs.length;rw[<- h8.size,h6.2,gq]
    ·rw[h2]at hk;cases hk;exact h6
    ·rw[h3]at h;cases h
   ·by_cases hh:i∈cA
    ·cases dY:(eg i).alive with
     | false =>
      obtain⟨j,B,B1,h1,h2,h3,h4,h5,h6⟩:=iz i hh
      rcases sV h3 (h6.imp (λh=>h) (λh=>h.1)) with q | ⟨e,sz,m,es,bZ,m',q1,q2,_⟩ | ⟨e,sz,es,bZ,m',q1,q2,q3,_⟩
      ·exact .inr (.inl (h5.trans q))
      ·rw[h5,q2]at dY;cases dY
      ·rw[h5,q3,q2]at dY;cases dY
     | true =>
      obtain⟨j,B,B1,h1,h2,h3,h4,h5,h6,h7,h8,h9⟩:=d7 i hh dY;unfold dn;right;right;refine⟨hιa i hc dY,hιoo i hc,?_,h9,λg k1 k2=>?_⟩
      ·rcases sV h4 (.inr h5) with q | ⟨e,sz,m,es,bZ,m',q1,q2,q3,q4,_⟩ | ⟨e,sz,es,bZ,m',q1,q2,q3,q4,_,q5⟩
       ·rw[h3,q]at dY;cases dY
       ·rw[h3,q2,q1];exact⟨rfl,rfl,q3,q4⟩
       ·rw[h3,q3,q2,q1];exact⟨rfl,rfl,q4,q5⟩
      ·exfalso
       rcases sV h4 (.inr h5) with q | ⟨e,sz,m,es,bZ,m',q1,q2,q3,q4,_,q6⟩ | ⟨e,sz,es,bZ,m',q1,q2,q3,q4,q5,_⟩
       ·rw[h3,q]at dY;cases dY
       ·rw[q1]at k1;rw[h3,q2]at k2
        rcases q6 with⟨_,rfl,_⟩ | ⟨g1,t1,g2,t2,rfl,rfl,_⟩
        ·cases k1
        ·simp only[aX.gen,Mo.gen,Option.some.injEq]at k1 k2;omega
       ·rw[q1]at k1;cases k1
    ·by_cases hr:r.al=true/\i∈refs
     ·unfold dn;rw[hold i hc hl hh,if_pos hr];have UF:∀ k,ι i=some k->w'.shape? k=w.shape? k:=λk hk=>by
       unfold World.shape?;rw[ku k i hk hh hl]
      cases hx:σ.h i with
      | none=>exact .inl rfl
      | dead=>exact .inr (.inl rfl)
      | box cs=>exact .inr (.inr ⟨hιo i hc hh,hιoo i hc,rfl,UF,λg h=>by cases h⟩)
      | sl e sz m es=>exact .inr (.inr ⟨hιo i hc hh,hιoo i hc,⟨rfl,rfl,rfl,Mo.qA m⟩,UF,λg _ h=>by cases h⟩)
     ·obtain⟨h1,h2⟩:=b8 i hc hl hh (λha hm=>hr ⟨ha,hm⟩);exact h1.il h2
 have kR:∀ k,ob w w' F0 gb r ι' k->Fz C w' ι'' eg k:=by
  intro k ⟨h1,h2,h3,h4⟩;have pH:∀ i,¬ (b<=i/\i<b+n)->ι'' i=some k->(eg i).own=false:=by
   intro i hc km;obtain⟨hi,dY⟩:=hιs i k hc km;by_cases hh:i∈cA
   ·obtain⟨j,B,B1,g1,g2,g3,g4,g5,g6,_⟩:=d7 i hh (dY hh);have:=h3 (n+j) (g6.trans hi);rw[UE,g2]at this;simp only[Option.getD_some]at this
    rcases sV g4 (.inr g5) with q | ⟨e,sz,m,es,bZ,m',q1,q2,q3,q4,_,q6⟩ | ⟨e,sz,es,bZ,m',q1,q2,q3,q4,_⟩
    ·rw[g3,q];rfl
    ·rcases q6 with⟨rfl,_,_⟩ | ⟨g,t,xC,t1,_,_,rfl⟩
     ·rw[g3,q2];exact this
     ·cases this
    ·rw[g3,q3];exact this
   rcases h2 with⟨ha,h2⟩ | h2 | h2
   ·have hz:=(yf ha k h2).2.2.1 i hi;rw[Y8]at hz;have jG:i∉ck:=λhm=>by
     obtain⟨_,cs,_,_,h6⟩:=kt i hm;rw[h6]at hz
     split at hz <;> cases hz
    rw[hold i hc jG hh]
    split
    ·rename_i Ix;rw[if_pos Ix.2]at hz;exact hz
    ·rename_i Ix;rw[if_neg (λhm=>Ix ⟨ha,hm⟩)]at hz;exact hz
   ·have:=(S.eL i k hi).2;omega
   ·exact absurd (ic k i h2 hi) hh
  refine⟨h1,?_,λi hi=>?_,?_⟩
  ·rcases h2 with⟨ha,h2⟩ | h2 | h2
   ·exact(yf ha k h2).2.1
   ·have:=S.dR.size;exact .inr (.inl (by omega))
   ·exact .inr (jK k h2).1
  ·by_cases hc:b<=i/\i<b+n
   ·obtain⟨j,hj,rfl⟩:=dE i hc;rw[hιn j hj]at hi;rw[ft j hj];have:=h3 j hi;rw[mb j hj]at this;rw[QYq];exact this
   ·exact pH i hc hi
  ·cases hx:ι''.k k with
   | none=>rfl
   | some z =>
    obtain⟨z,q⟩:=z
    rcases jd k z q hx with⟨j,_,_,g1⟩ | ⟨j,_,_,g1⟩ | ⟨_,g1,g2,g3⟩
    ·rw[h4]at g1;cases g1
    ·rw[h4]at g1;cases g1
    ·have L:=S.dA k z q g1
     rcases h2 with⟨ha,h2⟩ | h2 | h2
     ·have:=(yf ha k h2).2.2.2;have h5:=Io.fc.2 ⟨g1,g3 ha⟩;rw[this]at h5
      cases h5
     ·have:=L.lt;omega
     ·exact absurd (fZ k z q h2 g1) g2
 have jF:∀ p j k,p<n->¬ (b<=j/\j<b+n)->ι' p=some k->ι'' j=some k->False:=by
  intro p j k hpn hc hp hj;obtain⟨h1,h2⟩:=hιs j k hc hj
  rcases(P.eL p k hp).1 with h3 | h3
  ·have:=(S.eL j k h1).2;omega
  ·have h4:=ic k j h3 h1;obtain⟨i,B,B1,_,_,_,_,_,g6,_⟩:=d7 j h4 (h2 h4);have:=P.inj p (n+i) k hp (g6.trans h1);omega
 have kS:∀ k i p,ι'.k k=some (i,p)->∀ j,ι'' j≠some k:=by
  intro k i p hk j hj;obtain⟨_,_,h1,h2,h3⟩:=P.dA k i p hk;by_cases hc:b<=j/\j<b+n
  ·obtain⟨q,hq,rfl⟩:=dE j hc;rw[hιn q hq]at hj;exact h3 q hj
  ·obtain⟨h4,h5⟩:=hιs j k hc hj
   rcases h1 with h1 | h1
   ·have:=(S.eL j k h4).2;omega
   ·have h6:=ic k j h1 h4;obtain⟨q,B,B1,_,_,_,_,_,g6,_⟩:=d7 j h6 (h5 h6);exact h3 (n+q) (g6.trans h4)
 refine⟨eg,ι'',mM.symm,S.eM ?_ hF hg (λi cs hx=>?_) (λi=>?_) (λi j k hi hj=>?_) (λi k hi=>?_) (λi hi=>?_) (λi k hi=>?_) (λk i p hk=>?_),(P.val.shift mO dt).up kR,hF,hg,λi h1 h2 h3 h4=>b8 i (λh=>h1 ⟨h.1,by omega⟩) h2 h3 h4⟩
 ·refine⟨P.os.trans S.dR.os,P.tape.trans S.dR.tape,P.output.trans S.dR.output,Nat.le_trans S.dR.size P.size,λk hk hX=>?_⟩;rw[ec k (by have:=S.dR.size;omega) (λhm=>?_) (λhm=>?_)]
  ·exact S.dR.block k hk hX
  ·obtain⟨id,h1,h2⟩:=jb k hm
   rcases(S.eL id k h2).1 with h3 | ⟨h3,_⟩
   ·exact h3.dR.elim (λh=>by omega) hX
   ·exact hX h3
  ·exact(jK k hm).1.dR.elim (λh=>by omega) hX
 ·by_cases hc:b<=i/\i<b+n
  ·rw[(S.fresh i (hb i hc.1 (by omega))).1]at hx;cases hx
  ·by_cases hl:i∈ck
   ·obtain⟨j,hj,jt⟩:=List.getElem_of_mem hl;have j4:j<r.bx.length:=by omega
    have h4:=fV j _ _ (List.getElem?_eq_getElem hj) (List.getElem?_eq_getElem j4);rw[jt]at h4;rw[h4];simp
   ·by_cases hh:i∈cA
    ·obtain⟨e,sz,m,es,h3⟩:=eC i hh;rw[hx]at h3
     cases h3
    rw[hold i hc hl hh,hx]
    split <;> simp[ka]
 ·by_cases hc:b<=i/\i<b+n
  ·right;obtain⟨j,hj,rfl⟩:=dE i hc;rw[ft j hj];refine(P.fH j (by omega)).shift kR mO dt hj (λk p hk=>?_);rw[fJ,pF];simp only[hk];rw[if_pos hj]
  ·by_cases hl:i∈ck
   ·right;obtain⟨j,hj,jt⟩:=List.getElem_of_mem hl;obtain⟨b',cs,h1,h2,h3⟩:=ja j _ (List.getElem?_eq_getElem hj);have j4:j<r.bx.length:=by omega
    have h4:=fV j _ _ (List.getElem?_eq_getElem hj) (List.getElem?_eq_getElem j4);obtain⟨h5,_,e,bz,h7,h8⟩:=P.bx j b' _ h1 (List.getElem?_eq_getElem j4);rw[jt]at h2 h3 h4;have yl:=S.fH i;rw[h3]at yl;rw[h4]
    cases yl with
    | box _ _ _ _ _ fp =>
    refine .box b' e bz _ ((hιo i hc (mN i hl)).trans h2) ((hιoo i hc).trans fp) h7 h8.size h8.one (λk v x hk hx=>?_);have hx5:=List.all_eq_true.1 h5 x (List.mem_of_getElem? hx)
    cases x with
    | c d=>exact(h8.vr k v _ hk hx).data kR
    | _=>simp[oa]at hx5
   ·by_cases hh:i∈cA
    ·right
     cases dY:(eg i).alive with
     | false =>
      obtain⟨j,B,B1,h1,h2,h3,h4,h5,h6⟩:=iz i hh
      rcases sV h3 (h6.imp (λh=>h) (λh=>h.1)) with q | ⟨e,sz,m,es,bZ,m',q1,q2,_⟩ | ⟨e,sz,es,bZ,m',q1,q2,q3,_⟩
      ·rw[h5,q];exact .dead
      ·rw[h5,q2]at dY;cases dY
      ·rw[h5,q3,q2]at dY;cases dY
     | true =>
      obtain⟨j,B,B1,h1,h2,h3,h4,h5,h6,h7,h8,h9⟩:=d7 i hh dY;have hιi:=hιa i hc dY;have Cl:cA[n+j-n]? = some i:=by rw[show n+j-n=j by omega];exact h1
      have kI:∀ k p,ι'.k k=some (n+j,p)->ι''.k k=some (i,p):=λk p hk=>by
       rw[fJ,pF];simp only[hk];rw[if_neg (by omega),Cl];simp only[dY,if_true]
      have fin:∀(xR:TypeId)(e sz:Nat)(m m':Mo)(bZ:List (List D)),B = .sl xR sz m bZ->(m'.fw=true->m.fw=true/\xR=e)->(∀(k:Nat) p q v d,RM w' (ob w w' F0 gb r ι') ι' (n+j) m p q v d->RM w' (Fz C w' ι'' eg) ι'' i m' p q v d)->
        BR w' (Fz C w' ι'' eg) ι'' eg i (.sl e sz m' bZ):=by
       intro xR e sz m m' bZ qM ht hRM;rw[qM]at h8
       cases h8 with
       | slnil _ _ _ hz hi=>exact .slnil e sz m' hz (hιi.trans (h6.symm.trans hi))
       | sl bk _ e1 _ _ _ cur hz hi hb fj hle dj b7 hv =>
        refine .sl bk e e1 sz m' bZ cur hz (hιi.trans (h6.symm.trans hi)) hb (λh=>?_) (by rw[hιoo i hc,<- h7];exact hle) dj b7 (λp q x d hx hd=>?_)
        ·obtain⟨k1,k2⟩:=ht h;rw[<- k2,hιoo i hc,<- h7];exact fj k1
        ·obtain⟨u,k1,k2⟩:=hv p q x d hx hd;exact⟨u,by rw[hιoo i hc,<- h7];exact k1,hRM 0 p q u d k2⟩
      rcases sV h4 (.inr h5) with q | ⟨e,sz,m,es,bZ,m',q1,q2,q3,q4,_,q6⟩ | ⟨e,sz,es,bZ,m',q1,q2,q3,q4,q5,_⟩
      ·rw[h3,q];exact .dead
      ·rw[h3,q2]
       rcases q6 with⟨qM,_,j3⟩ | ⟨g,t,xC,t1,_,rfl,qM⟩
       ·refine fin e e sz m' m' bZ qM (λh=>⟨h,rfl⟩) (λ_ p q v d h=>?_)
        cases m' with
        | dp=>cases j3
        | _=>exact Rd.mono (λb hb=>⟨kR b hb,rfl⟩) h
       ·exact fin 0 e sz (.dp xC t1 []) (.dp (g+1) false []) bZ qM (λh=>by cases h) (λ_ p q v d h=>⟨h.1,λ_=>RL.map (h.2 (by simp)) _ (λ(k:Nat)(r':cM) hk=>⟨kI k _ hk,rfl⟩)⟩)
      ·rw[h3,q3,q2];refine fin e e sz m' m' bZ q2 (λh=>⟨h,rfl⟩) (λ_ p q v d h=>?_)
       cases m' with
       | dp=>cases q5
       | _=>exact Rd.mono (λb hb=>⟨kR b hb,rfl⟩) h
    ·by_cases hr:r.al=true/\i∈refs
     ·right;have ho:=hold i hc hl hh;rw[if_pos hr]at ho;rw[ho];obtain⟨e,sz,m,es,hx⟩:=hrefs hr.1 i hr.2;have qE:=ea hr.1 i hr.2 e sz m es hx;have yl:=S.fH i;rw[hx]at yl ⊢
      cases yl with
      | slnil _ _ _ hz hi=>exact .slnil e sz .fz hz ((hιo i hc hh).trans hi)
      | sl bk _ e1 _ _ _ cur hz hi hb fj hle dj b7 hv =>
       refine .sl bk e e1 sz .fz es cur hz ((hιo i hc hh).trans hi) ((ku bk i hi hh hl).trans hb) (λh=>by cases h) (by rw[hιoo i hc];exact hle) dj b7 (λp q x d pf hd=>?_);obtain⟨u,k1,k2⟩:=hv p q x d pf hd;have k3:Rd w (λk=>Fz C w ι σ.h k\/∃ p,ι.k k=some (i,p)) u d:=k2.rd qE (λb hb=>.inl hb) (λb p hk=>.inr ⟨p,hk⟩);refine⟨u,by rw[hιoo i hc];exact k1,Rd.mono (λk hk=>?_) k3⟩
       rcases hk with hk | ⟨p',hk⟩
       ·exact hF k hk
       ·have L:=S.dA k i p' hk;refine⟨⟨by have:=L.lt;have:=P.size;omega,.inr L.fr,λz hz=>?_,?_⟩,mP k i p' hk hh⟩
        ·exfalso;by_cases UG:b<=z/\z<b+n
         ·obtain⟨q',hq',rfl⟩:=dE z UG;rw[hιn q' hq']at hz
          rcases(P.eL q' k hz).1 with h5 | h5
          ·have:=L.lt;omega
          ·exact hh (fZ k i p' h5 hk)
         ·exact L.ne z (hιs z k UG hz).1
        ·cases hx3:ι''.k k with
         | none=>rfl
         | some zz =>
          obtain⟨zz,qq⟩:=zz
          rcases jd k zz qq hx3 with⟨j,_,_,g1⟩ | ⟨j,_,_,g1⟩ | ⟨_,g1,_,g3⟩
          ·exact absurd (fZ k i p' (gz k _ _ g1 L.lt) hk) hh
          ·exact absurd (fZ k i p' (gz k _ _ g1 L.lt) hk) hh
          ·rw[hk]at g1;cases g1;exact absurd hr.2 (g3 hr.1)
     ·left;obtain⟨h1,h2⟩:=b8 i hc hl hh (λha hm=>hr ⟨ha,hm⟩);exact⟨h2,h1⟩
 ·by_cases h1:b<=i/\i<b+n
  ·obtain⟨p,hp,rfl⟩:=dE i h1;rw[hιn p hp]at hi;by_cases h2:b<=j/\j<b+n
   ·obtain⟨q,hq,rfl⟩:=dE j h2;rw[hιn q hq]at hj;rw[P.inj p q k hi hj]
   ·exact(jF p j k hp h2 hi hj).elim
  ·by_cases h2:b<=j/\j<b+n
   ·obtain⟨q,hq,rfl⟩:=dE j h2;rw[hιn q hq]at hj;exact(jF q i k hq h1 hj hi).elim
   ·exact S.inj i j k (hιs i k h1 hi).1 (hιs j k h2 hj).1
 ·by_cases h1:b<=i/\i<b+n
  ·obtain⟨p,hp,rfl⟩:=dE i h1;rw[hιn p hp]at hi;have h2:=P.eL p k hi;have:=S.dR.size
   rcases h2.1 with h5 | h5
   ·exact⟨.inl (.inl (by omega)),h2.2.1⟩
   ·exact⟨.inl (jK k h5).1,h2.2.1⟩
  ·have hi:=(hιs i k h1 hi).1;obtain⟨h2,h3⟩:=S.eL i k hi;refine⟨h2.imp (λh=>h) λ⟨hX,cs,dU⟩=>⟨hX,?_⟩,by have:=P.size;omega⟩;by_cases hl:i∈ck
   ·obtain⟨j,hj,jt⟩:=List.getElem_of_mem hl;have j4:j<r.bx.length:=by omega
    have h4:=fV j _ _ (List.getElem?_eq_getElem hj) (List.getElem?_eq_getElem j4);rw[jt]at h4;exact⟨_,h4⟩
   ·by_cases hh:i∈cA
    ·obtain⟨e,sz,m,es,h5⟩:=eC i hh;rw[dU]at h5
     cases h5
    rw[hold i h1 hl hh,dU]
    split <;> exact⟨_,rfl⟩
 ·obtain⟨h1,h2⟩:=bW i hi;have hc:¬ (b<=i/\i<b+n):=λh=>h2 ⟨h.1,by omega⟩;have hf:=S.fresh i h1;have hh:i∉cA:=λhm=>by
   obtain⟨e,sz,m,es,h3⟩:=eC i hm;rw[hf.1]at h3
   cases h3
  rw[hιo i hc hh];have hl:i∉ck:=λhm=>by
   obtain⟨_,cs,_,_,h6⟩:=kt i hm;rw[hf.1]at h6
   cases h6
  rw[hold i hc hl hh,hf.1];refine⟨?_,hf.2⟩
  split <;> rfl
 ·by_cases h1:b<=i/\i<b+n
  ·obtain⟨p,hp,rfl⟩:=dE i h1;rw[hιn p hp]at hi;rw[ft p hp];have:=P.live p k hi;rw[mb p hp]at this;exact QSk this
  ·obtain⟨hi,n9⟩:=hιs i k h1 hi;have:=S.live i k hi;by_cases hl:i∈ck
   ·obtain⟨j,hj,jt⟩:=List.getElem_of_mem hl;have j4:j<r.bx.length:=by omega
    have h4:=fV j _ _ (List.getElem?_eq_getElem hj) (List.getElem?_eq_getElem j4);rw[jt]at h4;rw[h4];simp
   ·by_cases hh:i∈cA
    ·exact QXN (n9 hh)
    rw[hold i h1 hl hh]
    split
    ·exact QYl this
    ·exact this
 ·rcases jd k i p hk with⟨j,hj,rfl,h1⟩ | ⟨j,hj,dY,h1⟩ | ⟨h0,h1,h2,h3⟩
  ·obtain⟨g1,⟨e,sz,g,t,H,es,g2⟩,g3,g4,g5⟩:=P.dA k j p h1;refine⟨g1,?_,?_,g4,kS k j p h1⟩
   ·have:=mb j hj;rw[g2]at this;rw[ft j hj,<- this];exact⟨_,_,_,_,_,_,rfl⟩
   ·rcases g3 with g3 | g3
    ·have:=S.dR.size;exact .inl (by omega)
    ·exact(jK k g3).1
  ·obtain⟨g1,⟨e,sz,g,t,H,es,g2⟩,g3,g4,g5⟩:=P.dA k _ p h1;refine⟨g1,?_,?_,g4,kS k _ p h1⟩
   ·have hm:i∈cA:=List.mem_of_getElem? hj;obtain⟨j',B,B1,k1,k2,k3,k4,k5,_⟩:=d7 i hm dY;have:=pG i j j' hj k1;subst this;rw[UE,k2]at g2
    cases g2
    rcases sV k4 (.inr k5) with q | ⟨e',bt,m,fk,bZ,m',q1,q2,q3,q4,_,q6⟩ | ⟨e',bt,fk,bZ,m',q1,q2,q3,q4,q5,_⟩
    ·rw[k3,q]at dY;cases dY
    ·rcases q6 with⟨qM,_,j3⟩ | ⟨g',t',xC,t1,_,rfl,qM⟩
     ·cases qM;cases j3
     ·rw[k3,q2];exact⟨_,_,_,_,_,_,rfl⟩
    ·cases q2;cases q5
   ·rcases g3 with g3 | g3
    ·have:=S.dR.size;exact .inl (by omega)
    ·exact(jK k g3).1
  ·have L:=S.dA k i p h1;obtain⟨e,sz,g,t,H,es,jD⟩:=L.dp;have hc:¬ (b<=i/\i<b+n):=λhc=>by rw[(kP i hc).1]at jD;cases jD
   have hl:i∉ck:=λhm=>by
    obtain⟨_,cs,_,_,h6⟩:=kt i hm;rw[jD]at h6
    cases h6
   refine⟨L.pn,by rw[(b8 i hc hl h2 h3).2];exact L.dp,L.fr,by have:=L.lt;have:=P.size;omega,λj hj=>?_⟩;by_cases UH:b<=j/\j<b+n
   ·obtain⟨q,hq,rfl⟩:=dE j UH;rw[hιn q hq]at hj
    rcases(P.eL q k hj).1 with h5 | h5
    ·have:=L.lt;omega
    ·exact h2 (fZ k i p h5 h1)
   ·exact L.ne j (hιs j k UH hj).1
end
end Go.Proofs.YtdplaepmjogjjaaGreat.Am
namespace Go.Proofs.YtdplaepmjogjjaaGreat.Am
open Go Go.RowKit
section
variable {C:Ctx} {U U':Nat->Prop} {σ:St} {a:Act} {w:World} {ι:Io} {o:Oper} {Q:Exit->Act->World->Prop} {Γ:eR} {b:Nat} {e:fI}
theorem UI(hΓ:oc C.P Γ)(S:Sat C U σ a w ι){N:Nat}(hb:∀ i,b<=i->i<b+N->U i)(bW:∀ i,U' i->U i/\¬ (b<=i/\i<b+N)){f:FuncId}{as:Array Value}{xs vs:List AV}{r:iS}
  (hl:as.toList.length=xs.length) (gS:∀(k:Nat)(v:Value)(x:AV),as.toList[k]? = some v->xs[k]? = some x->VR w (Fz C w ι σ.h) ι σ.h v x) (s0:AV.d8 σ.h (Γ.md f) xs=some vs) (hr:Γ f vs=some r) (sW:r.hb.length<=N)
  (d9:((cy (Γ.md f) xs).flatMap AV.cp).Nodup) (gZ:((cT (Γ.md f) xs).flatMap AV.refs).Nodup) (og:∀ id,id∈(cT (Γ.md f) xs).flatMap AV.refs->id∉(cy (Γ.md f) xs).flatMap AV.refs) :
  Calls C.P f as w λen w'=>∃ v,en = .returned v/\∃ eg ι'',bA σ.h (Jp b (r.hb.map (aX.sh b))++JO ((cy (Γ.md f) xs).flatMap AV.cp) r.bx++Y0 σ.h ((cT (Γ.md f) xs).flatMap AV.refs) r.gv ++
    (if r.al then fu σ.h ((cy (Γ.md f) xs).flatMap AV.refs) else []))=eg/\Sat C U' ⟨σ.t,eg,σ.nx⟩ a w' ι''/\VR w' (Fz C w' ι'' eg) ι'' eg v (r.v.sh b)/\(∀ k,Fz C w ι σ.h k->Fz C w' ι'' eg k/\w'.heap[k]? = w.heap[k]?)/\(∀ i,dn w w' ι ι'' σ.h eg i)/\
    (∀ i,¬ (b<=i/\i<b+N)->i∉(cy (Γ.md f) xs).flatMap AV.cp->i∉(cT (Γ.md f) xs).flatMap AV.refs->(r.al=true->i∉(cy (Γ.md f) xs).flatMap AV.refs)->Rest w w' ι ι'' i/\eg i=σ.h i):=by
 obtain⟨DD,s3⟩:∃ DD,DD=cy (Γ.md f) xs:=⟨_,rfl⟩
 obtain⟨HH,qN⟩:∃ HH,HH=(cT (Γ.md f) xs).flatMap AV.refs:=⟨_,rfl⟩
 rw[<- s3]at d9 og;rw[<- qN]at gZ og;rw[<- s3,<- qN];obtain⟨lb0,gb0,_,G0,_,_,_,ea⟩:=Cr S (F0:=λ_=>True) (λ_ _=>trivial) (Γ.md f) as.toList xs vs hl gS s0 (λ_ _ _ _ _=>trivial) (by rw[<- s3];exact d9) (by rw[<- qN];exact gZ);rw[<- qN]at G0;rw[<- s3]at ea;have ym:∀ id,id∈HH->(∃ e sz m es,σ.h id = .sl e sz m es)/\(σ.h id).own=true:=λid hm=>G0.sl hm;have key:∃ F0:Nat->Prop,(∀ k,Fz C w ι σ.h k->F0 k)/\(∀ id k,id∈DD.flatMap AV.refs->(∃ e sz m es,σ.h id = .sl e sz m es)->Has ι id k->F0 k)/\
   (∀ k,F0 k->k<w.heap.size/\(∀ id,ι id=some k->(∀ cs,σ.h id≠.box cs))/\∀ id,id∈HH->¬ Has ι id k)/\(r.al=true->∀ k,F0 k->Fz C w (ι.loose (DD.flatMap AV.refs)) (bA σ.h (fu σ.h (DD.flatMap AV.refs))) k):=by
  cases ha:r.al
  ·refine⟨λk=>k<w.heap.size/\(∀ id,ι id=some k->(∀ cs,σ.h id≠.box cs))/\∀ id,id∈HH->¬ Has ι id k,λk hk=>⟨hk.1,λid hi cs hh=>?_,λid hm mQ=>?_⟩,λid k bp ⟨e,sz,m,es,hh⟩ hi=>?_,λk hk=>hk,λh=>by cases h⟩
   ·have:=hk.2.2.1 id hi;rw[hh]at this
    cases this
   ·rcases mQ with h1 | ⟨p,h1⟩
    ·have:=hk.2.2.1 id h1;rw[(ym id hm).2]at this
     cases this
    ·rw[hk.2.2.2]at h1;cases h1
   ·have aY:k<w.heap.size:=by
     rcases hi with hi | ⟨p,hi⟩
     ·exact(S.eL id k hi).2
     ·exact(S.dA k id p hi).lt
    refine⟨aY,λcn cc cs cq=>?_,λcn hm mQ=>?_⟩
    ·have:=od S hi (.inl cc);subst this;rw[hh]at cq;cases cq
    ·have:=od S hi mQ;subst this;exact og _ hm bp
  ·obtain⟨_,hF⟩:=S.freeze (DD.flatMap AV.refs) ea;have yi:∀ id k,id∈DD.flatMap AV.refs->(∃ e sz m es,σ.h id = .sl e sz m es)->Has ι id k->Fz C w (ι.loose (DD.flatMap AV.refs)) (bA σ.h (fu σ.h (DD.flatMap AV.refs))) k:=by
    intro id k bp lz hi;have kh:(ι.loose (DD.flatMap AV.refs)).k k=none:=by
     cases fJ:(ι.loose (DD.flatMap AV.refs)).k k with
     | none=>rfl
     | some z =>
      obtain⟨z,q⟩:=z;obtain⟨k1,k2⟩:=Io.fc.1 fJ;have:=od S hi (.inr ⟨q,k1⟩);subst this;exact absurd bp k2
    rcases hi with hi | ⟨p,hi⟩
    ·obtain⟨h1,h2⟩:=S.eL id k hi;obtain⟨e,sz,m,es,hh⟩:=lz;refine⟨h2,.inr (h1.elim (λh=>h) λ⟨_,cs,h3⟩=>by rw[hh]at h3;cases h3),λcn cc=>?_,kh⟩;have:=S.inj cn id k cc hi;subst this;rw[Y8,if_pos bp,hh];rfl
    ·have L:=S.dA k id p hi;exact⟨L.lt,.inr L.fr,λi hi=>absurd hi (L.ne i),kh⟩
   refine⟨Fz C w (ι.loose (DD.flatMap AV.refs)) (bA σ.h (fu σ.h (DD.flatMap AV.refs))),hF,yi,λk hk=>⟨hk.1,λid hi cs hh=>?_,λid hm mQ=>?_⟩,λ_ k hk=>hk⟩
   ·have:=hk.2.2.1 id hi;rw[Y8,hh]at this
    split at this <;> cases this
   ·rcases mQ with h1 | ⟨p,h1⟩
    ·have:=hk.2.2.1 id h1;rw[Y8,if_neg (og id hm),(ym id hm).2]at this
     cases this
    ·have h2:=Io.fc.2 ⟨h1,og id hm⟩;rw[hk.2.2.2]at h2
     cases h2
 obtain⟨F0,k1,k2,k3,k4⟩:=key;obtain⟨lb,gb,a1,G,a2,a3,a4,a5⟩:=Cr S k1 (Γ.md f) as.toList xs vs hl gS s0 (by rw[<- s3];exact k2) (by rw[<- s3];exact d9) (by rw[<- qN];exact gZ);rw[<- s3]at a2 a3 a4 a5;rw[<- qN]at G;have yf:∀ k,F0 k->k<w.heap.size/\k∉lb/\¬ Yo gb k:=by
  intro k hk;obtain⟨h1,h2,h3⟩:=k3 k hk;refine⟨h1,λhm=>?_,λhg=>?_⟩
  ·obtain⟨j,hj,jt⟩:=List.getElem_of_mem hm;have j4:j<(DD.flatMap AV.cp).length:=by omega
   obtain⟨b',cs,h3,h4,h5⟩:=a3 j _ (List.getElem?_eq_getElem j4);rw[List.getElem?_eq_getElem hj,jt]at h3
   cases h3;exact h2 _ h4 cs h5
  ·obtain⟨id,h4,h5⟩:=G.oe.1 hg;exact h3 id h4 h5
 have s4:=hΓ f vs r hr w F0 as lb gb a1 yf;refine s4.mono λen w' ⟨v,ι',he,P⟩=>?_;subst he;exact⟨v,rfl,S.called (refs:=DD.flatMap AV.refs) hb bW sW k4 (λ_=>a4) (λ_=>a5) d9 a2 a3 gZ G og P⟩
theorem UJ{ms:List AM}{xs:List AV}{id g i j:Nat}{r:List AV}(h:sw ms xs=some (id,g,i,j,r)):∃ iy d,ms = .p::iy/\xs = .b d id g [(i,j)]::r/\iy.all (λm=>!m.h)=true:=by
 unfold sw at h
 split at h
 rotate_left
 ·cases h
 split at h
 ·cases h;exact⟨_,_,rfl,rfl,by assumption⟩
 ·cases h
theorem UK{h:Nat->aX}:∀ {ms:List AM} {xs:List AV},ms.all (λm=>!m.h)=true->xs.all i0=true->(AV.d8 h ms xs=some xs\/ms.length<xs.length/\AV.d8 h ms xs=some xs\/xs.length<ms.length/\AV.d8 h ms xs=some xs)/\cT ms xs=[]/\cy ms xs=xs
 | [],xs,_,hx=>by
  refine⟨.inl ?_,rfl,rfl⟩;simp only[AV.d8]
  induction xs with
  | nil=>rfl
  | cons x xs ih =>
   simp only[List.all_cons,Bool.and_eq_true]at hx;have:=ih hx.2
   cases x with
   | c d=>simp only[AV.iK,AV.arg,this]
   | _=>simp[i0]at hx
 | m::ms,[],_,_=>⟨.inl rfl,rfl,rfl⟩
 | m::ms,x::xs,hm,hx=>by
  simp only[List.all_cons,Bool.and_eq_true,Bool.not_eq_true']at hm hx;obtain⟨h1,h2,h3⟩:=UK (h:=h) hm.2 hx.2;have h1:AV.d8 h ms xs=some xs:=by rcases h1 with h | h | h <;> first | exact h | exact h.2
  cases m with
  | d =>
   refine⟨.inl ?_,by simp[cT,AM.h,h2],by simp[cy,AM.h,h3]⟩
   cases x with
   | c d=>simp only[AV.d8,AV.gI,AV.arg,h1]
   | _=>simp[i0]at hx
  | _=>simp[AM.h]at hm
theorem yn:∀ {xs:List AV},xs.all i0=true->xs.flatMap AV.refs=[]/\xs.flatMap AV.cp=[]
 | [],_=>⟨rfl,rfl⟩
 | x::xs,h=>by
  simp only[List.all_cons,Bool.and_eq_true]at h;obtain⟨h1,h2⟩:=yn h.2
  cases x with
  | c d=>exact⟨by simp[AV.refs,AV.b4,h1],by simp[AV.cp,h2]⟩
  | _=>simp[i0]at h
theorem Q30(hΓ:oc C.P Γ)(S:Sat C U σ a w ι)(hd:∀ d,o.dst=some d->d<C.N)(hb:∀ i,b<=i->i<b+16->U i)(bW:∀ i,U' i->U i/\¬ (b<=i/\i<b+16))
  {f : FuncId} {args : Array Operand} {oh : Array TypeId} {xs : List bc} {fn : Func} (ho : o.op = .call { callee := .value (.func f), args, argTypes := oh }) (hf : C.P.funcs[f]? = some fn) (qO : fn.body.isSome = true) (yo : (fn.name == "runtime.NumGoroutine") = false)
  {ts:List TypeId} (hx:u5 C.P ts args.toList=some xs) (he:QD Γ (bc.ev σ.t) σ.h b (.call f xs)=some e) :
  o.wp C.P a w (λa' w'=>cJ C U' (σ.app o.dst e) a' w') Q:=by
 simp only[QD]at he;obtain⟨hl,d6⟩:=TA S hx;have gS:∀(k:Nat)(v:Value)(x:AV),(args.map a.eval).toList[k]? = some v->(xs.map (bc.ev σ.t))[k]? = some x->VR w (Fz C w ι σ.h) ι σ.h v x:=by
  intro k v x hk eQ;simp only[Array.toList_map,List.getElem?_map,Option.map_eq_some_iff]at hk eQ;obtain⟨y,hy,rfl⟩:=hk;obtain⟨z,hz,rfl⟩:=eQ;exact d6 k y z hy hz
 have hlen:(args.map a.eval).toList.length=(xs.map (bc.ev σ.t)).length:=by simpa using hl
 have cB:(execOp a.eval o).run C.P w = .ok (.enter f (args.map a.eval)) w:=by
  have:execOp a.eval o=callFunc f (#[]++args.map a.eval++#[]):=by
   unfold execOp;rw[ho];rfl
  rw[this];have po:¬ fn.body=none:=by intro h;rw[h]at qO;cases qO
  have s5 : ¬ fn.name = "runtime.NumGoroutine" := by simpa using yo
  simp[callFunc,hf,s5,po]
 unfold Oper.wp;rw[cB];simp only[Oper.upon];generalize hX:xs.map (bc.ev σ.t)=X at *
 split at he
 ·
  rename_i id g i j rest yp;obtain⟨ms,d0,lD,rfl,eN⟩:=UJ yp;unfold xE at he
  split at he
  rotate_left
  ·cases he
  rename_i e0 sz g0 t es bp
  split at he
  rotate_left
  ·cases he
  rename_i x qJ
  split at he
  rotate_left
  ·cases he
  rename_i bt bZ pg
  split at he
  rotate_left
  ·cases he
  rename_i rv al e1 lB g1 t1 fk hr
  split at he
  rotate_left
  ·cases he
  rename_i hc;obtain⟨rfl,pk,s6⟩:=hc
  cases he;have h0:∃ v0,(args.map a.eval).toList[0]? = some v0:=by
   have:0<(args.map a.eval).toList.length:=by rw[hlen];simp
   exact⟨_,List.getElem?_eq_getElem this⟩
  obtain⟨v0,sU⟩:=h0;have pq:=gS 0 v0 _ sU rfl;obtain⟨_,e2,T4,m2,gQ,yq,dD⟩:=pq.Ca (by rw[bp];rfl);rw[bp]at yq
  cases yq;have dD:=dD i j rfl;obtain⟨ι1,S1,xN,hι1,hιo1,sQ,l9⟩:=S.cU (n:=b) (U':=λi=>U i/\i≠b) bp qJ pg pk (hb b (Nat.le_refl _) (by omega)) (λi hi=>hi) dD;obtain⟨Iy,an7⟩:=S.fresh b (hb b (Nat.le_refl _) (by omega));have kq:id≠b:=λh=>by subst h;rw[Iy]at bp;cases bp
  obtain⟨σ1,hσ1⟩:∃ σ1:St,σ1=⟨σ.t,bN (bN σ.h b (.sl 0 bt (.dp 0 false []) bZ)) id (.sl e0 sz (.dp (g0+1) t [(i,j)]) es),σ.nx⟩:=⟨_,rfl⟩
  have hσh:σ1.h=bN (bN σ.h b (.sl 0 bt (.dp 0 false []) bZ)) id (.sl e0 sz (.dp (g0+1) t [(i,j)]) es):=by rw[hσ1]
  rw[<- hσ1]at S1;rw[<- hσh]at xN sQ l9;have i4:σ1.h b = .sl 0 bt (.dp 0 false []) bZ:=by rw[hσh,QK _ _ _ _ (λh=>kq h.symm),QQ]
  have Iz:σ1.h id = .sl e0 sz (.dp (g0+1) t [(i,j)]) es:=by rw[hσh,QQ]
  obtain⟨p1,p2,p3⟩:=UK (h:=σ1.h) eN s6;have p1:AV.d8 σ1.h ms rest=some rest:=by rcases p1 with h | h | h <;> first | exact h | exact h.2
  have jw:cT (Γ.md f) (.r bt b 0 bZ.length::rest)=[.r bt b 0 bZ.length]:=by rw[lD];simp[cT,AM.h,p2]
  have dr:cy (Γ.md f) (.r bt b 0 bZ.length::rest)=rest:=by rw[lD];simp[cy,AM.h,p3]
  have UL:=UI (Γ:=Γ) (b:=b) (N:=0) (U':=λi=>U i/\i≠b) hΓ S1 (λi h1 h2=>by omega) (λi hi=>⟨hi,by omega⟩) (f:=f) (as:=args.map a.eval) (xs:=.r bt b 0 bZ.length::rest) (vs:=.ow 0 bt (.dp 0 false []) bZ::rest) (r:=⟨rv,[],[],al,[.sl e1 lB (.dp g1 t1 []) fk]⟩)
   (by rw[hlen];rfl) (λk v x hk eQ=>by
    cases k with
    | zero=>rw[sU]at hk;simp at hk eQ;subst hk;subst eQ;exact xN
    | succ k=>exact(gS (k+1) v x hk (by simpa using eQ)).mono (λb hb=>⟨sQ b hb,rfl⟩) l9)
   (by rw[lD];simp only[AV.d8,AV.gI,AV.iZ,AV.dX,i4,true_and,if_true,p1]) hr (by simp) (by rw[dr,(yn s6).2];exact List.nodup_nil) (by rw[jw];simp[AV.refs,AV.b4]) (by rw[dr,(yn s6).1];intro _ _ h;cases h)
  rw[jw,dr,(yn s6).1,(yn s6).2]at UL;refine UL.mono λen w' ⟨v,he,h2,ι2,hh2,S2,pc,vj,iT,s7⟩=>?_;subst he;have yr:h2=bN σ1.h b (mr (σ1.h b) (.sl e1 lB (.dp g1 t1 []) fk)):=by
   rw[<- hh2]
   cases al <;> rfl
  rw[i4]at yr;have IA:h2=bN σ1.h b (.sl 0 lB (.dp 1 false []) fk):=yr;have IB:lB=bt:=by
   rcases iT b with g | g | ⟨_,_,g,_⟩
   ·rw[i4]at g;cases g
   ·rw[IA,QQ]at g;cases g
   ·rw[i4,IA,QQ]at g;exact g.2.1
  have mR:h2=bN σ1.h b (.sl 0 bt (.dp 1 false []) fk):=by rw[IA,IB]
  have q1:h2 b = .sl 0 bt (.dp 1 false []) fk:=by rw[mR,QQ]
  have q2:h2 id = .sl e0 sz (.dp (g0+1) t [(i,j)]) es:=by rw[mR,QK _ _ _ _ kq];exact Iz
  have yt:fk.length=bZ.length:=by
   rcases iT b with g | g | ⟨_,_,g,_⟩
   ·rw[i4]at g;cases g
   ·rw[q1]at g;cases g
   ·rw[i4,q1]at g;exact g.2.2.1
  obtain⟨s8,_⟩:=s7 id (by omega) (by simp) (by simp[AV.refs,AV.b4,kq]) (λ_=>by simp);have ke:i<es.length:=(List.getElem?_eq_some_iff.1 qJ).1;have IC:j<x.length:=(List.getElem?_eq_some_iff.1 pg).1;have pj:∀ y,y∈es.set i (x.set j (.sl bt fk))->y.length=sz:=by
   intro y hy;have fe:=S.fH id;rw[bp]at fe;have d5:∀ y,y∈es->y.length=sz:=by
    cases fe with
    | slnil=>intro y hy;cases hy
    | sl _ _ _ _ _ _ _ _ _ _ _ _ _ b7=>exact b7
   rcases List.mem_or_eq_of_mem_set hy with hy | rfl
   ·exact d5 y hy
   ·rw[List.length_set];exact d5 x (List.mem_of_getElem? qJ)
  obtain⟨S3,UM,UN⟩:=S2.reset (σ:=⟨σ1.t,h2,σ1.nx⟩) (gQ:=es.set i (x.set j (.sl bt fk))) q2 (by simp) pj (λp q y d hy hd dI=>by
   have ph:(p,q)≠(i,j):=by simpa using dI
   by_cases hp:p=i
   ·subst hp;rw[List.getElem?_set_self ke]at hy
    cases hy;have hq:q≠j:=λh=>ph (by rw[h]);rw[List.getElem?_set_ne (λh=>hq h.symm)]at hd;exact⟨x,qJ,hd⟩
   ·rw[List.getElem?_set_ne (λh=>hp h.symm)]at hy;exact⟨y,hy,hd⟩)
  have ID:=((xN.mono vj iT).mono (λb hb=>⟨UM b hb,rfl⟩) UN)
  have r1:(bN h2 id (.sl e0 sz (.dp (g0+1) t [(i,j)]) (es.set i (x.set j (.sl bt fk))))) b = .sl 0 bt (.dp 1 false []) fk:=by rw[QK _ _ _ _ (λh=>kq h.symm)];exact q1
  obtain⟨S4,hF4,hg4⟩:=S3.merge (i:=i) (j:=j) (H:=[]) (x:=x.set j (.sl bt fk)) (v:=v0) (QQ _ _ _) r1 (λh=>kq h.symm) (by
    obtain⟨bk,cur,ee,c1,c2,c3⟩:=dD;exact⟨bk,cur,ee,s8.b.trans (hι1.trans c1),(s8.heap bk (hι1.trans c1)).trans c2,by rw[s8.o,hιo1];exact c3⟩) ID (List.getElem?_set_self ke) (by rw[List.getElem?_set_self IC,<- yt];simp)
  have IE:=((pc.mono (λb hb=>⟨UM b hb,rfl⟩) UN).mono (λb hb=>⟨hF4 b hb,rfl⟩) hg4)
  have ec:(bN (bN (bN h2 id (.sl e0 sz (.dp (g0+1) t [(i,j)]) (es.set i (x.set j (.sl bt fk))))) b .dead) id (.sl e0 sz (.dp (g0+1) t []) (es.set i (x.set j (.sl bt fk)))))=bA σ.h [(b,.dead),(id,.sl e0 sz (.dp (g0+1) t []) (es.set i (x.set j (.sl bt fk))))]:=by
   funext y
   simp only[bA];by_cases h1:y=id
   ·subst h1;rw[QQ,QQ]
   ·rw[QK _ _ _ _ h1,QK _ _ _ _ h1];by_cases h2:y=b
    ·subst h2;rw[QQ,QQ]
    ·rw[QK _ _ _ _ h2,QK _ _ _ _ h2,QK _ _ _ _ h1,mR,QK _ _ _ _ h2,hσh,QK _ _ _ _ h1,QK _ _ _ _ h2]
  have hσt:σ1.t=σ.t:=by rw[hσ1]
  have hσn:σ1.nx=σ.nx:=by rw[hσ1]
  have S4:Sat C U' _ a w' _:={ S4 with fresh:=λi hi=>S4.fresh i ⟨(bW i hi).1,λh=>(bW i hi).2 ⟨by omega,by omega⟩⟩ }
  simp only[hσt,hσn]at S4;refine⟨ι2.merge id b i j 0 bZ.length,?_⟩;show Sat C U' ⟨cY σ.t o.dst (rv.sh b),bA σ.h _,σ.nx⟩ _ _ _;rw[<- ec]
  cases yu:o.dst with
  | none=>simpa[cY,Act.put]using S4
  | some d=>simpa[cY]using S4.put d (hd d yu) v (rv.sh b) IE
 ·unfold xF at he
  split at he
  rotate_left
  ·cases he
  rename_i vs s0
  split at he
  rotate_left
  ·cases he
  rename_i r hr
  split at he
  rotate_left
  ·cases he
  rename_i hc;obtain⟨sW,dY,d9,gZ,og⟩:=hc
  cases he;refine(UI hΓ S hb bW hlen gS s0 hr sW d9 gZ og).mono λen w' ⟨v,he,eg,ι'',hh,SA,hv,_⟩=>?_;subst he;refine⟨ι'',?_⟩;show Sat C U' ⟨cY σ.t o.dst (r.v.sh b),bA σ.h _,σ.nx⟩ _ _ _;rw[hh]
  cases yu:o.dst with
  | none=>simpa[cY,Act.put]using SA
  | some d=>simpa[cY]using SA.put d (hd d yu) v (r.v.sh b) hv
theorem UO(hΓ:oc C.P Γ)(S:Sat C U σ a w ι)(hd:∀ d,o.dst=some d->d<C.N)(hb:∀ i,b<=i->i<b+16->U i)(bW:∀ i,U' i->U i/\¬ (b<=i/\i<b+16)){ao:eG}
  (hc:xG C.P o=some ao) (he:QD Γ (bc.ev σ.t) σ.h b ao=some e) :
  o.wp C.P a w (λa' w'=>cJ C U' (σ.app o.dst e) a' w') Q:=by
 have ie:∀ i,U' i->U i:=λi hi=>(bW i hi).1;have yv:∀ i,U' i->U i/\i≠b:=λi hi=>⟨(bW i hi).1,λe=>(bW i hi).2 ⟨by omega,by omega⟩⟩
 have pq:U b:=hb b (Nat.le_refl _) (by omega);unfold xG at hc
 split at hc
 ·rename_i x ho;obtain⟨y,hy,rfl⟩:=Option.map_eq_some_iff.1 hc;exact TC S hd ie (.inl ho) hy he
 ·rename_i x ho;obtain⟨y,hy,rfl⟩:=Option.map_eq_some_iff.1 hc;exact TC S hd ie (.inr ho) hy he
 ·rename_i c x y ho
  split at hc
  ·rename_i c' x' y' h1 h2 h3;cases hc;exact QZW S hd ie ho h1 h2 h3 he
  ·cases hc
 ·rename_i t ho;obtain⟨zs,hz,rfl⟩:=Option.map_eq_some_iff.1 hc;exact QY6 S hd pq yv ho hz he
 ·rename_i t x ho
  split at hc
  ·rename_i x' n h1 h2;cases hc;exact Q1h S hd pq yv ho h1 he
  ·cases hc
 ·rename_i t ps ho
  split at hc
  ·rename_i fs h1
   split at hc
   ·rename_i zs ps' h2 h3
    split at hc
    ·rename_i h4;cases hc;exact Q4e S hd ie ho h1 h2 h3 h4 he
    ·cases hc
   ·cases hc
  ·cases hc
 ·rename_i t n ps ho
  split at hc
  ·rename_i et h1
   split at hc
   ·rename_i sz xs h2 h3
    split at hc
    ·rename_i h4;obtain⟨h4,h5,h6,h7⟩:=h4;cases hc;exact QVb S hd pq yv ho h1 h2 h3 h4 h5 h6 h7 he
    ·cases hc
   ·cases hc
  ·cases hc
 ·rename_i t x ho
  split at hc
  ·rename_i x' n agg h1 h2 h3
   cases hc;exact QZZ S hd ie ho h1 h3 (λh=>by simp[h,h2]) (λh=>by simp[h]) he
  ·cases hc
 ·rename_i t x v ho
  split at hc
  ·rename_i x' v' n h1 h2 h3;cases hc;exact QOV S hd ie ho h1 h2 h3 he
  ·cases hc
 ·rename_i s x i ho
  split at hc
  ·rename_i fs h1
   split at hc
   ·rename_i f h2
    split at hc
    ·rename_i n x' h3 h4
     split at hc
     ·rename_i h5;cases hc;exact QYK S hd ie ho h1 h2 h3 h5 h4 he
     ·cases hc
    ·cases hc
   ·cases hc
  ·cases hc
 ·rename_i s x i ho
  split at hc
  ·rename_i fs h1
   split at hc
   ·rename_i f h2
    split at hc
    ·rename_i n agg x' h3 h4 h5
     cases hc;exact QNJ S hd ie ho h1 h2 h4 (λh=>by simp[h,h3]) (λh=>by simp[h]) h5 he
    ·cases hc
   ·cases hc
  ·cases hc
 ·rename_i t x i ho
  split at hc
  ·rename_i et h1
   split at hc
   ·rename_i sz x' i' h2 h3 h4
    split at hc
    ·cases hc;exact QL2 S hd ie ho h1 h2 h3 h4 he
    ·cases hc
   ·cases hc
  ·cases hc
 ·rename_i t l c ho
  split at hc
  ·rename_i h0;subst h0
   split at hc
   ·rename_i et h1
    split at hc
    ·rename_i sz zs i h2 h3 h4
     split at hc
     ·rename_i h5;cases hc;exact HW S hd pq yv ho h1 h2 h3 h4 h5.1 h5.2 he
     ·cases hc
    ·cases hc
   ·cases hc
  ·cases hc
 ·rename_i t x lo hi ho
  split at hc
  ·rename_i et h1
   split at hc
   ·rename_i sz x' Ce cc h2 h3 h4 h5
    split at hc
    ·rename_i h6;cases hc;exact QXm S hd ie ho h1 h2 h6 h3 h4 h5 he
    ·cases hc
   ·cases hc
  ·cases hc
 ·rename_i op t x y ty ho
  split at hc
  ·rename_i x' y' h1 h2
   split at hc
   ·rename_i n h3
    split at hc
    ·cases hc;exact TP S hd ie (neg:=false) ho h3 h1 h2 he
    ·cases hc;exact TP S hd ie (neg:=true) ho h3 h1 h2 he
    ·cases hc
   ·split at hc
    ·cases hc;exact TD S hd ie ho h1 h2 he
    ·rename_i h4
     split at hc
     ·cases hc;exact TF S hd ie (neg:=false) ho h4 h1 h2 he
     ·cases hc;exact TF S hd ie (neg:=true) ho h4 h1 h2 he
     ·cases hc
    ·cases hc;exact TD S hd ie ho h1 h2 he
    ·cases hc
  ·cases hc
 ·rename_i t x ho;obtain⟨y,hy,rfl⟩:=Option.map_eq_some_iff.1 hc;exact QLX S hd ie ho hy he
 ·rename_i t x ho;obtain⟨y,hy,rfl⟩:=Option.map_eq_some_iff.1 hc;exact QP9 S hd ie ho hy he
 ·rename_i s d x ho
  split at hc
  ·rename_i k0 k x' h1 h2 h3;cases hc;exact QSZ S hd ie ho h1 h2 h3 he
  ·cases hc
 ·rename_i x i ho;obtain⟨y,hy,rfl⟩:=Option.map_eq_some_iff.1 hc;exact QSz S hd ie ho hy he
 ·rename_i x ho;obtain⟨y,hy,rfl⟩:=Option.map_eq_some_iff.1 hc;exact QL5 S hd ie ho hy he
 ·rename_i c ho;obtain⟨callee,args,oh⟩:=c;simp only at hc
  split at hc
  ·rename_i f
   split at hc
   ·rename_i fn xs h1 h2
    split at hc
    ·rename_i h3;cases hc;exact Q30 hΓ S hd hb bW ho h1 h3.1 h3.2 h2 he
    ·cases hc
   ·cases hc
  ·rename_i bi;unfold Tv at hc
   split at hc
   ·rename_i x t ha ht;have s9:args = #[x]:=by cases args;simp at ha;rw[ha]
    have ta:oh = #[t]:=by cases oh;simp at ht;rw[ht]
    subst s9;subst ta
    split at hc
    ·rename_i et x' h1 h2;cases hc;exact Q2C S hd ie ho h1 h2 he
    ·cases hc
   ·rename_i s x t t' ha ht;have s9:args = #[s,x]:=by cases args;simp at ha;rw[ha]
    have ta:oh = #[t,t']:=by cases oh;simp at ht;rw[ht]
    subst s9;subst ta
    split at hc
    ·rename_i h0;subst h0
     split at hc
     ·rename_i et h1
      split at hc
      ·rename_i sz s' x' i h2 h3 h4 h5
       split at hc
       ·rename_i h6;cases hc;exact QV8 S hd pq yv ho h1 h2 h5 h6.1 h6.2.1 h6.2.2 h3 h4 he
       ·cases hc
      ·cases hc
     ·cases hc
    ·cases hc
   ·rename_i x y t t' ha ht;have s9:args = #[x,y]:=by cases args;simp at ha;rw[ha]
    have ta:oh = #[t,t']:=by cases oh;simp at ht;rw[ht]
    subst s9;subst ta
    split at hc
    ·rename_i x' y' h1 h2;cases hc;exact xK S hd ie (mx:=false) ho h1 h2 he
    ·cases hc
   ·rename_i x y t t' ha ht;have s9:args = #[x,y]:=by cases args;simp at ha;rw[ha]
    have ta:oh = #[t,t']:=by cases oh;simp at ht;rw[ht]
    subst s9;subst ta
    split at hc
    ·rename_i x' y' h1 h2;cases hc;exact xK S hd ie (mx:=true) ho h1 h2 he
    ·cases hc
   ·cases hc
  ·cases hc
 ·cases hc
end
end Go.Proofs.YtdplaepmjogjjaaGreat.Am

