/- -/
import Derived.Test.YtjbdljkhbglnhaaGreatZJKM
set_option linter.all false
namespace Go.Proofs.YtjbdljkhbglnhaaGreat.Am
open Go Sz
def Qba (_:TCur) (t:Qb × List Int × TCur):Prop:=QC (sOps t.1)=true∧(Qr t.1).length=(sOps t.1).length∧sz t.1≤3000∧t.2.1.length≤6∧QF t.2.2
def QfN (_:TCur) (t:Qb × List Int × TCur):Prop:=QC (sOps t.1)=true∧sz t.1≤3100∧t.2.1.length≤6∧QF t.2.2
def Qcb (_:List Int) (t:Qb × Int × List Int × List Int):Prop:=QC (sOps t.1)=true∧sz t.1≤3100
theorem QDd (s:Qb) (m:Int) (x t:List Int):sOps (ZM s m x t)=sOps s∧Qr (ZM s m x t)=Qr s:=by
 unfold ZM;split <;> exact ⟨rfl,rfl⟩
theorem Qy6 (s:Qb) (m:Int):sOps (Z1 s m)=sOps s∧Qr (Z1 s m)=Qr s:=by
 unfold Z1;simp only;split <;> exact ⟨rfl,rfl⟩
theorem QIt (s:Qb) (m:Int) (t:List Int) (h:(Qr s).length=(sOps s).length):sOps (Zg s m t)=sOps s∧(Qr (Zg s m t)).length=(sOps s).length:=by
 unfold Zg
 simp only
 split
 ·rename_i hb
  refine ⟨rfl,?_⟩
  rw [JP] at hb
  simp only [Bool.and_eq_true,beq_iff_eq] at hb
  show (Zl (Qr s) (QD (sOps s) (Zt s (Qo (Qd s) m)) (bwdD s (Qo (Qd s) m) t).1).1).1.length=_
  rw [Qng,Qgn _ _ _ (by have:=hb.1.1.2;omega)]
  omega
 ·exact ⟨rfl,h⟩
section
variable {pc:Int} {plan:List TIns} {ops:List TOp'} {last:Bool} {X Y G D:List Int} {rows:List (List Int)} {loss:Int} {sat:Bool} {m:Int} {x t:List Int}
theorem QFI (n:Int):ZI [] n=true:=rfl
theorem Qqr {v:List Int} {n:Int} (h:Qf v n=true):ZI v n=true:=by unfold ZI;rw [h,Bool.or_true]
theorem Qs3 {r:Bool} {rws full:List (List Int)} {Y' G':List Int} {l':Int} {s':Bool} (h:Qv (pc,plan,ops,last,r,[],[],X,Y,G,D,rows,loss,sat)=true)
  (h1:(rws.length:Int)=(if r then 1 else (ops.length:Int)+1)) (h2:ZK ops rws (if r then 1 else (ops.length:Int)+1)=true) (hy:ZI Y' (QP ops)=true) (hg:ZI G' (QP ops)=true) :
  Qv (pc,plan,ops,last,r,[(m,rws)],full,[],Y',G',D,rows,l',s')=true:=by
 unfold Qv at h ⊢
 simp only [Bool.and_eq_true] at h ⊢
 obtain ⟨⟨⟨⟨g1,g2⟩,g3⟩,_⟩,⟨⟨⟨_,g6⟩,_⟩,_⟩⟩:=h
 refine ⟨⟨⟨⟨g1,g2⟩,g3⟩,?_⟩,⟨⟨⟨QFI _,g6⟩,hy⟩,hg⟩⟩
 simp only [List.all_cons,List.all_nil,Bool.and_true,Z3,Zz,Bool.and_eq_true,beq_iff_eq]
 exact ⟨h1,h2⟩
theorem QwE (H0:Qv (pc,plan,ops,last,false,[],[],X,Y,G,D,rows,loss,sat)=true) (H1:Qf x (QV ops)=true) (H2:Qf t (QP ops)=true)
  (Hz:Y.length+G.length+D.length≤10000):∃ (R:List (List Int)) (Y':List Int) (l':Int) (s':Bool) (z:QK) (d:List Int),
  ZM (pc,plan,ops,last,false,[],[],X,Y,G,D,rows,loss,sat) m x t=(pc,plan,ops,last,false,[(m,R)],[],[],Y',G,D,rows,l',s') ∧
  ZM (pc,plan,ops,last,true,[],[],X,Y,G,D,rows,loss,sat) m x t=(pc,plan,ops,last,true,[(m,R.take 1)],[],[],Y',G,D,rows,l',s') ∧
  Z1 (pc,plan,ops,last,true,[(m,R.take 1)],[],[],Y',G,D,rows,l',s') m=(pc,plan,ops,last,true,[(m,R.take 1)],R,[],Y',G,D,rows,l',s') ∧
  Zg (pc,plan,ops,last,false,[(m,R)],[],[],Y',t,D,rows,l',s') m t=(pc,plan,ops,last,false,[],[],[],Y',[],d,z.1,z.2.1,z.2.2) ∧
  Zg (pc,plan,ops,last,true,[(m,R.take 1)],R,[],Y',t,D,rows,l',s') m t=(pc,plan,ops,last,true,[],[],[],Y',[],d,z.1,z.2.1,z.2.2) ∧
  (d.length:Int)=QV ops ∧
  Y9 (pc,plan,ops,last,true,[(m,R.take 1)],[],[],Y',G,D,rows,l',s')≤Y9 (pc,plan,ops,last,false,[(m,R)],[],[],Y',G,D,rows,l',s'):=by
 have Ht:Qv (pc,plan,ops,last,true,[],[],X,Y,G,D,rows,loss,sat)=true:=H0
 have hm:=Yg H0
 have hm:QC ops=true:=hm
 have hml:=Zw hm
 obtain ⟨_,_,ch⟩:=QJq hm
 have hy:Qf (YD ops x) (QP ops)=true:=Qut ch H1
 have hgo:Zp ops 0 (Qp ops x).1=true:=QEu ch (by intro e;rw [e] at hml;simp at hml) H1
 have hlen:(Qp ops x).1.length=ops.length+1:=Qe5 ops x
 have hhead:gtd [] (Qp ops x).1 0=x:=Qya ops x
 have hY:∀ v:List Int,v=(if last then Y else gtd [] (Qp ops x).1 ops.length)→ZI v (QP ops)=true:=by
  intro v hv
  rw [hv]
  cases last
  ·exact Qqr hy
  ·unfold Qv at H0
   simp only [Bool.and_eq_true] at H0
   exact H0.2.1.2
 have hG:ZI G (QP ops)=true:=by
  unfold Qv at H0
  simp only [Bool.and_eq_true] at H0
  exact H0.2.2
 have hfind:∀ rws:List (List Int),Qo [(m,rws)] m=0:=fun rws=>by unfold Qo YH;rw [if_pos rfl]
 have hf0:Qo [] m = -1:=rfl
 have hok:∀ r:Bool,Yr (pc,plan,ops,last,r,[],[],X,Y,G,D,rows,loss,sat) m x t=true:=by
  intro r
  have hS:Qv (pc,plan,ops,last,r,[],[],X,Y,G,D,rows,loss,sat)=true:=H0
  unfold Yr
  simp only [hS,H1,H2,hf0]
  simp
 obtain ⟨R,hR⟩:∃ R,(Qp ops x).1=R:=⟨_,rfl⟩
 obtain ⟨Y',hY'⟩:∃ v,(if last then Y else gtd [] (Qp ops x).1 ops.length)=v:=⟨_,rfl⟩
 obtain ⟨l',hl'⟩:∃ v,(if last then (QT loss (ZS (gtd [] (Qp ops x).1 ops.length) t).1).1 else loss)=v:=⟨_,rfl⟩
 obtain ⟨s',hs'⟩:∃ v,(sat||(Qp ops x).2||(last&&((ZS (gtd [] (Qp ops x).1 ops.length) t).2||(QT loss (ZS (gtd [] (Qp ops x).1 ops.length) t).1).2)))=v:=⟨_,rfl⟩
 have hYh:=hY Y' hY'.symm
 have hgo1:Zp ops 0 (R.take 1)=true:=by rw [← hR];exact QkV _ _ _ _ hgo
 have hRl:R.length=ops.length+1:=by rw [← hR];exact hlen
 have hx0:gtd [] (R.take 1) 0=x:=by
  rw [← hR]
  rw [QvT (by omega)]
  exact hhead
 obtain ⟨d,b,hdb⟩:∃ d b,(d,b)=(if last then QY (gtd [] R ops.length) t else (t,false)):=⟨_,_,rfl⟩
 have hd:Qf d (QP ops)=true:=by
  cases last
  ·have e:d=t:=congrArg Prod.fst hdb
   rw [e];exact H2
  ·have e:d=(QY (gtd [] R ops.length) t).1:=congrArg Prod.fst hdb
   rw [e,← hR]
   show Qf (QY (YD ops x) t).1 _=true
   have:=QB3 (QkC hy H2)
   rwa [(Yd.1 hy).2] at this
 have hsave:∀ (r:Bool) (rws full:List (List Int)) (G':List Int),rws=(if r then R.take 1 else R)→ZI G' (QP ops)=true →
   Qv (pc,plan,ops,last,r,[(m,rws)],full,[],Y',G',D,rows,l',s')=true:=by
  intro r rws full G' hr hg
  have hS:Qv (pc,plan,ops,last,r,[],[],X,Y,G,D,rows,loss,sat)=true:=H0
  cases r
  ·refine Qs3 hS ?_ ?_ hYh hg
   ·rw [hr];show (R.length:Int)=(ops.length:Int)+1;omega
   ·rw [hr]
    show Zp ops 0 (List.take ((ops.length:Int)+1).toNat R)=true
    rw [List.take_of_length_le (by omega),← hR]
    exact hgo
  ·refine Qs3 hS ?_ ?_ hYh hg
   ·rw [hr];show ((R.take 1).length:Int)=1;simp;omega
   ·rw [hr]
    show Zp ops 0 (List.take 1 (R.take 1))=true
    rw [List.take_of_length_le (by rw [List.length_take];exact Nat.min_le_left _ _)]
    exact hgo1
 have hth:=Qqr H2
 have hgi:ZK ops R (ops.length:Int)=true:=by
  show Zp ops 0 (List.take (ops.length:Int).toNat R)=true
  rw [← hR]
  exact QkV _ _ _ _ hgo
 have hb:∀ (r:Bool) (rws full:List (List Int)),rws=(if r then R.take 1 else R)→(r=true→full=R) →
   Zg (pc,plan,ops,last,r,[(m,rws)],full,[],Y',t,D,rows,l',s') m t=(pc,plan,ops,last,r,[],[],[],Y',[],(QD ops R d).2.1,
    (Zo (rows,l',s') ((QD ops R d).1,0,b||(QD ops R d).2.2)).1,(Zo (rows,l',s') ((QD ops R d).1,0,b||(QD ops R d).2.2)).2.1,(Zo (rows,l',s') ((QD ops R d).1,0,b||(QD ops R d).2.2)).2.2):=by
  intro r rws full hr hfull
  have e0:=hfind rws
  have hrows:R=Zt (pc,plan,ops,last,r,[(m,rws)],full,[],Y',t,D,rows,l',s') (Qo [(m,rws)] m):=by
   rw [e0]
   cases r
   ·exact hr.symm
   ·exact (hfull rfl).symm
  have hdd:(d,b)=bwdD (pc,plan,ops,last,r,[(m,rws)],full,[],Y',t,D,rows,l',s') (Qo [(m,rws)] m) t:=by
   unfold bwdD
   rw [← hrows]
   exact hdb
  have hbo:YR (pc,plan,ops,last,r,[(m,rws)],full,[],Y',t,D,rows,l',s') (Qo [(m,rws)] m) t=true:=by
   rw [JP,← hrows,← hdd,e0]
   rw [hsave r rws full t hr hth]
   simp only [Bool.true_and,Bool.and_eq_true,beq_iff_eq]
   exact ⟨⟨⟨rfl,hRl⟩,hgi⟩,hd⟩
  rw [QgF hbo hrows hdd]
  simp only [e0]
  rfl
 refine ⟨R,Y',l',s',Zo (rows,l',s') ((QD ops R d).1,0,b||(QD ops R d).2.2),(QD ops R d).2.1,?_,?_,?_,hb false R [] rfl (fun h=>by cases h),hb true (R.take 1) R rfl (fun _=>rfl),?_,?_⟩
 ·rw [Qef (hok false)]
  simp only [hR] at hY' hl' hs' ⊢
  rw [← hY',← hl',← hs']
  simp
 ·rw [Qef (hok true)]
  simp only [hR] at hY' hl' hs' ⊢
  rw [← hY',← hl',← hs']
  simp
 ·unfold Z1
  simp only
  rw [hfind,hsave true (R.take 1) [] G rfl hG]
  simp only [Bool.true_and]
  rw [if_pos (by decide)]
  show (pc,plan,ops,last,true,[(m,R.take 1)],(Qp ops (gtd [] (R.take 1) 0)).1,[],Y',G,D,rows,l',s')=_
  rw [hx0,hR]
 ·have:=(QmH ch H1 hd).1
  rw [hR] at this
  exact (Yd.1 this).2
 ·have hYl:Y'.length≤Y.length+6:=by
   rw [← hY']
   cases last
   ·have:=YO hy
    show (YD ops x).length≤_
    omega
   ·show Y.length≤_
    omega
  have hRsum:∀ l:List (List Int),0≤(l.map fun r=>(r.length:Int)).sum:=by
   intro l
   induction l with
   | nil=>simp
   | cons a l ih=>simp only [List.map_cons,List.sum_cons];omega
  have h1:((R.take 1).map fun r=>(r.length:Int)).sum≤(R.map fun r=>(r.length:Int)).sum:=by
   cases hRc:R with
   | nil=>simp
   | cons a l=>have:=hRsum l;simp only [List.take_succ_cons,List.take_zero,List.map_cons,List.map_nil,List.sum_cons,List.sum_nil];omega
  have h0:=hRsum (R.take 1)
  have h2:(R.map fun r=>(r.length:Int)).sum≤1000:=by
   have e1:=Qp3 ch H1
   have e2:=Qt5 ch
   have e3:=(Qmd hm).2.2
   rw [hR] at e1
   rw [e1]
   omega
  unfold Y9
  simp only [List.map_cons,List.map_nil,List.sum_cons,List.sum_nil,List.length_nil]
  rw [Qs (by omega) (by omega),Qs (by omega) (by omega)]
  omega
end
end Go.Proofs.YtjbdljkhbglnhaaGreat.Am

