/- -/
import Derived.Test.YtjbdljkhbglnhaaGreatZIGA
set_option linter.all false
namespace Go.Proofs.YtjbdljkhbglnhaaGreat.Am
open Go Sz
theorem Qkv {α:Type} (d:α) (n:Nat) (f:Nat→α) {k:Nat} (hk:k<n):gtd d ((List.range n).map f) k=f k :=
 QbL (by rw [List.getElem?_map,List.getElem?_range hk];rfl) d
theorem Qf4 {α:Type} (n:Nat) (f g:Nat→α) (k:Nat) (v:α) (hv:k<n→v=g k) (h:∀ j,j<n→j≠k→f j=g j):((List.range n).map f).set k v=(List.range n).map g:=by
 apply List.ext_getElem?
 intro i
 rw [List.getElem?_set]
 simp only [List.length_map,List.length_range,List.getElem?_map]
 by_cases hi:i<n
 ·rw [List.getElem?_range hi]
  by_cases hk:k=i
  ·subst hk
   rw [if_pos rfl,if_pos hi,hv hi];rfl
  ·rw [if_neg hk]
   simp only [Option.map_some]
   rw [h i hi (fun e=>hk e.symm)]
 ·rw [List.getElem?_eq_none (by simp;omega)]
  split
  ·rename_i e;rw [if_neg (by omega)];rfl
  ·rfl
theorem QeK {α:Type} {n:Nat} {f g:Nat→α} (h:∀ j,j<n→f j=g j):(List.range n).map f=(List.range n).map g :=
 List.map_congr_left (fun j hj=>h j (List.mem_range.1 hj))
def bump (ks:Nat→Nat) (s:Nat):Nat→Nat:=fun j=>if j=s then ks j+1 else ks j
theorem YY (ks:Nat→Nat) (s:Nat):bump ks s s=ks s+1:=by simp [bump]
theorem ZI (ks:Nat→Nat) {s j:Nat} (h:j≠s):bump ks s j=ks j:=by simp [bump,h]
section
variable {c:QM} {b:List Qy} (A:Adm c b)
include A
omit A in
theorem QDs (ks:Nat→Nat) {s:Nat} (hs:s<nSt c):gtd QH (QI (Zo c b ks)) s=stAt c b s (ks s):=Qkv _ _ _ hs
omit A in
theorem QiO (ks:Nat→Nat) {s:Nat} (hs:s+1<nSt c):gtd Qw (Qt (Zo c b ks)) s=aQ c b ks s:=Qkv _ _ _ (by omega)
omit A in
theorem Qj2 (ks:Nat→Nat) {s:Nat} (hs:s+1<nSt c):gtd Qw (Qu (Zo c b ks)) s=bQ c b ks s:=Qkv _ _ _ (by omega)
omit A in
theorem QdB (ks:Nat→Nat):(QI (Zo c b ks)).length=nSt c:=by
 show ((List.range (nSt c)).map _).length=_
 simp
theorem Qw2 {s k:Nat} (hs:s<nSt c) (hk:k≤lenP c b s):sc c b s k≤b.length∧rc c b s k≤b.length∧rg c b s k≤b.length∧sg c b s k≤b.length:=by
 have H:=nums A hs hk
 have h1:=H.gf;have h2:=H.fM;have h3:=H.k1;have h4:=H.k45
 unfold sc rc rg sg scOf rcOf rgOf sgQ
 refine ⟨?_,?_,?_,?_⟩
 ·split <;> omega
 ·split
  ·rename_i h;have:=h3 h;omega
  ·omega
 ·split
  ·rename_i h;have:=h4 (h.imp id (fun h=>h.1));omega
  ·omega
 ·split <;> omega
theorem QoG {ks:Nat→Nat} (V:Ok c b ks) {s:Nat} (hs:s+1<nSt c):Q3 (aQ c b ks s)=true:=by
 have hc:=Qgv A hs
 have hq:=V.qa s hs
 have hb:=Qdf A
 have hl:=(Qw2 A (s:=s) (by omega) (V.le s (by omega))).1
 unfold Q3 aQ
 simp only [Bool.and_eq_true,decide_eq_true_eq,List.length_map,List.length_range',List.all_eq_true]
 refine ⟨⟨⟨hc.1,hc.2⟩,by omega⟩,fun x hx=>?_⟩
 obtain ⟨j,hj,rfl⟩:=List.mem_map.1 hx
 rw [List.mem_range'_1] at hj
 have:=YQ.1 (Qgh A (s:=s+1) (j:=j) (by omega) (by omega))
 simp only [Yy,Bool.and_eq_true,decide_eq_true_eq]
 exact ⟨⟨this.1,by omega⟩,by omega⟩
theorem Qop {ks:Nat→Nat} (V:Ok c b ks) {s:Nat} (hs:s+1<nSt c):Q3 (bQ c b ks s)=true:=by
 have hc:=Qgv A hs
 have hq:=V.qb s hs
 have hb:=Qdf A
 have hl:=(Qw2 A (s:=s+1) (by omega) (V.le (s+1) (by omega))).2.2.2
 unfold Q3 bQ
 simp only [Bool.and_eq_true,decide_eq_true_eq,List.length_map,List.length_range',List.all_eq_true]
 refine ⟨⟨⟨hc.1,hc.2⟩,by omega⟩,fun x hx=>?_⟩
 obtain ⟨j,hj,rfl⟩:=List.mem_map.1 hx
 rw [List.mem_range'_1] at hj
 have:=YQ.1 (Qf2 A (s:=s+1) (j:=j) (by omega) (by omega))
 simp only [Yy,Bool.and_eq_true,decide_eq_true_eq]
 exact ⟨⟨this.1,by omega⟩,by omega⟩
theorem QBa {ks:Nat→Nat} (V:Ok c b ks):∀ (n s:Nat),s+n=nSt c→Jx b.length ((List.range' s n).map fun s=>stAt c b s (ks s))=true
 | 0,s,h=>rfl
 | n+1,s,h=>by
  have hs:s<nSt c:=by omega
  have ih:=QBa V n (s+1) (by omega)
  rw [List.range'_succ,List.map_cons,Jx,ih]
  have h1:QS (stAt c b s (ks s))=true:=QgY A hs (V.le s hs) (nums A hs (V.le s hs))
  have h2:(((stAt c b s (ks s)).2.2.2.1:Bool)==decide (((List.range' (s+1) n).map fun s=>stAt c b s (ks s)).length=0))=true:=by
   simp only [stAt,st,Zn,List.length_map,List.length_range',beq_iff_eq]
   rw [Bool.eq_iff_iff];simp only [decide_eq_true_eq];omega
  have h3:(stAt c b s (ks s)).2.1.all (fun x=>m_in x.2 0 ((b.length:Int)-1))=true:=by
   rw [QfP dIns]
   intro k hk
   have L:=(loc A hs (k:=k) hk).c0
   rw [QP]
   have e:gtd dIns (stAt c b s (ks s)).2.1 k=insP c b s k:=rfl
   rw [e];omega
  rw [h1,h2,h3];rfl
theorem QU3 {ks:Nat→Nat} (V:Ok c b ks):Zk (Zo c b ks)=true:=by
 have hn:=Qhi A
 have hb:=Qdf A
 have hg:=QBa A V (nSt c) 0 (by omega)
 rw [← List.range_eq_range'] at hg
 have ha:(Qt (Zo c b ks)).all Q3=true:=by
  rw [List.all_eq_true]
  intro q hq
  obtain ⟨j,hj,rfl⟩:=List.mem_map.1 hq
  exact QoG A V (by have:=List.mem_range.1 hj;omega)
 have hbk:(Qu (Zo c b ks)).all Q3=true:=by
  rw [List.all_eq_true]
  intro q hq
  obtain ⟨j,hj,rfl⟩:=List.mem_map.1 hq
  exact Qop A V (by have:=List.mem_range.1 hj;omega)
 have hpv:(QF (Zo c b ks)).all JF=true:=by
  rw [List.all_eq_true]
  intro x hx
  have:=A.batch
  simp only [YL,Bool.and_eq_true,List.all_eq_true] at this
  have:=this.2 x hx
  simp only [JS,Bool.and_eq_true] at this
  simp only [JF,Bool.and_eq_true]
  exact ⟨(YQ.1 this.1.2).1,(YQ.1 this.2).1⟩
 simp only [Zk,Bool.and_eq_true,QP,beq_iff_eq]
 refine ⟨⟨⟨⟨?_,?_⟩,?_⟩,?_⟩,⟨hpv,ha,hbk⟩,hg⟩
 ·rw [QdB];omega
 ·simp [Zo];omega
 ·simp [Zo];omega
 ·show (1:Int)≤(b.length:Int)∧(b.length:Int)≤5;omega
theorem Qrf {ks:Nat→Nat} {s:Nat} (hs:s<nSt c) (hk:ks s≤lenP c b s):Qj (Zo c b ks) (s:Int)=if ks s<lenP c b s then insP c b s (ks s) else (0,0):=by
 have _:=A
 unfold Qj
 rw [if_pos (by rw [QP,QdB];omega),Int.toNat_natCast,QDs ks hs]
 unfold Qb9
 have e1:((stAt c b s (ks s)).1:Int)=(ks s:Nat):=rfl
 have e2:(stAt c b s (ks s)).2.1.length=lenP c b s:=rfl
 rw [e1,e2]
 by_cases h:ks s<lenP c b s
 ·rw [if_pos h,if_pos (by rw [QP];omega),Int.toNat_natCast];rfl
 ·rw [if_neg h,if_neg (by rw [QP];omega)]
theorem QD4 {ks:Nat→Nat} (V:Ok c b ks) {s:Nat} (hs:s<nSt c):ZV (Zo c b ks) (s:Int)=true↔En c b ks s:=by
 have hn:=Qhi A
 unfold ZV
 rw [QU3 A V,Qrf A hs (V.le s hs),Bool.true_and,Bool.and_eq_true,QP,QdB]
 by_cases hk:ks s<lenP c b s
 rotate_left
 ·rw [if_neg hk]
  constructor
  ·intro h;exact absurd h.2 (by simp [JI])
  ·intro h;exact absurd h.1 hk
 rw [if_pos hk]
 have L:=loc A hs hk
 have hi:=L.c0
 have h1:=L.c1;have h3:=L.c3;have h4:=L.c4;have h7:=L.c7
 have hlen:((QI (Zo c b ks)).length:Int)=(nSt c:Nat):=by rw [QdB]
 unfold En
 generalize insP c b s (ks s)=i at *
 have hcase:i.1=1∨i.1=2∨i.1=3∨i.1=4∨i.1=5∨i.1=6∨i.1=7∨i.1=8:=by omega
 unfold JI
 rw [hlen,Int.toNat_natCast]
 rcases hcase with e | e | e | e | e | e | e | e
 ·have h0:=h1 e
  have hq:=QiO (b:=b) ks (c:=c) (s:=s-1) (by omega)
  rw [hq]
  simp only [e,aQ,List.length_map,List.length_range',Bool.and_eq_true,decide_eq_true_eq]
  rw [show s-1+1=s by omega]
  simp;omega
 ·simp [e];omega
 ·have h0:=h3 e
  have hq:=QiO (b:=b) ks (c:=c) (s:=s) (by omega)
  have hqa:=V.qa s (by omega)
  rw [hq]
  simp only [e,aQ,QaR,List.length_map,List.length_range',Bool.and_eq_true,decide_eq_true_eq]
  simp;omega
 ·have h0:=h4 e
  have hq:=Qj2 (b:=b) ks (c:=c) (s:=s) (by omega)
  rw [hq]
  simp only [e,bQ,List.length_map,List.length_range',Bool.and_eq_true,decide_eq_true_eq]
  simp;omega
 ·simp [e];omega
 ·simp [e];omega
 ·have h0:=h7 e
  have hq:=Qj2 (b:=b) ks (c:=c) (s:=s-1) (by omega)
  have hqb:=V.qb (s-1) (by omega)
  rw [hq]
  rw [show s-1+1=s by omega] at hqb
  simp only [e,bQ,QaR,List.length_map,List.length_range',Bool.and_eq_true,decide_eq_true_eq]
  rw [show s-1+1=s by omega]
  simp;omega
 ·have:J6 (Zo c b ks)=true↔∀ j,j<nSt c→lenP c b j≤ks j+1:=by
   unfold J6
   rw [List.all_eq_true]
   constructor
   ·intro h j hj
    have:=h (stAt c b j (ks j)) (List.mem_map.2 ⟨j,List.mem_range.2 hj,rfl⟩)
    simp only [Jw,decide_eq_true_eq] at this
    have e1:((stAt c b j (ks j)).1:Int)=(ks j:Nat):=rfl
    have e2:(stAt c b j (ks j)).2.1.length=lenP c b j:=rfl
    rw [e1,e2] at this;omega
   ·intro h x hx
    obtain ⟨j,hj,rfl⟩:=List.mem_map.1 hx
    have:=h j (List.mem_range.1 hj)
    simp only [Jw,decide_eq_true_eq]
    have e1:((stAt c b j (ks j)).1:Int)=(ks j:Nat):=rfl
    have e2:(stAt c b j (ks j)).2.1.length=lenP c b j:=rfl
    rw [e1,e2];omega
  simp only [e]
  simp [this];omega
theorem QCc {ks:Nat→Nat} (V:Ok c b ks) {s:Nat} (hs:s<nSt c) (E:En c b ks s):Ok c b (bump ks s):=by
 obtain ⟨hk,e1,e3,e4,e7,e8⟩:=E
 obtain ⟨c1,c2,c3,c4⟩:=Qqz A hs hk
 have L:=loc A hs hk
 refine ⟨fun j hj=>?_,fun j hj=>?_,fun j hj=>?_,fun h=>?_⟩
 ·by_cases h:j=s
  ·subst h;rw [YY];omega
  ·rw [ZI _ h];exact V.le j hj
 ·have hq:=V.qa j hj
  by_cases h:j=s
  ·subst h
   rw [YY,ZI _ (by omega),c1 hj]
   split
   ·rename_i h;have:=e3 h;omega
   ·omega
  ·by_cases h2:j+1=s
   ·subst h2
    rw [YY,ZI _ h,c2 (by omega)]
    split
    ·rename_i h;have:=e1 h;simp only [Nat.add_sub_cancel] at this;omega
    ·omega
   ·rw [ZI _ h,ZI _ h2];exact hq
 ·have hq:=V.qb j hj
  by_cases h:j=s
  ·subst h
   rw [YY,ZI _ (by omega),c3 hj]
   split
   ·rename_i h;have:=e4 h;omega
   ·omega
  ·by_cases h2:j+1=s
   ·subst h2
    rw [YY,ZI _ h,c4 (by omega)]
    split
    ·rename_i h;have:=e7 h;simp only [Nat.add_sub_cancel] at this;omega
    ·omega
   ·rw [ZI _ h,ZI _ h2];exact hq
 ·by_cases h8:(insP c b s (ks s)).1=8
  ·intro j hj
   have:=e8 h8 j hj
   by_cases h2:j=s
   ·subst h2;rw [YY];omega
   ·rw [ZI _ h2];exact this
  ·exfalso
   have hl:¬ ks s+1=lenP c b s:=fun e=>h8 (L.c0.2.2.2.2.2.2.1.2 (by simpa using e))
   obtain ⟨j,hj,hje⟩:=h
   by_cases h2:j=s
   ·subst h2;rw [YY] at hje;exact hl hje
   ·rw [ZI _ h2] at hje
    have:=V.fl ⟨j,hj,hje⟩ s hs
    omega
theorem QKU {ks:Nat→Nat} (V:Ok c b ks) {s:Nat} (hs:s<nSt c) (E:En c b ks s):Zu (Zo c b ks) (s:Int)=Zo c b (bump ks s):=by
 have hen:=(QD4 A V hs).2 E
 have V':=QCc A V hs E
 have hk:=E.1
 have hnx:=Qrf A hs (V.le s hs)
 rw [if_pos hk] at hnx
 unfold Zu
 rw [if_pos hen]
 simp only
 rw [hnx,Int.toNat_natCast,QDs ks hs]
 obtain ⟨c1,c2,c3,c4⟩:=Qqz A hs hk
 obtain ⟨f1,f2,f3⟩:=Qtz (c:=c) (b:=b) hk
 have L:=loc A hs hk
 have H:=nums A hs (V.le s hs)
 have hi:=L.c0
 have hpc:sPc (stAt c b s (ks s))+1=((ks s:Nat):Int)+1:=rfl
 rw [hpc]
 have fin:∀ (y:Qc × List Qd × List Qd),YH y.1 (((ks s:Nat):Int)+1)=stAt c b s (ks s+1) →
   y.2.1=(List.range (nSt c-1)).map (aQ c b (bump ks s))→y.2.2=(List.range (nSt c-1)).map (bQ c b (bump ks s)) →
   ((QF (Zo c b ks),(QI (Zo c b ks)).set s (YH y.1 (((ks s:Nat):Int)+1)),y.2.1,y.2.2):Qe)=Zo c b (bump ks s):=by
  intro y h1 h2 h3
  rw [h1,h2,h3]
  refine Prod.ext rfl (Prod.ext ?_ rfl)
  exact Qf4 _ _ _ _ _ (fun _=>by rw [YY]) (fun j hj hne=>by rw [ZI _ hne])
 have keepA:((insP c b s (ks s)).1≠1)→((insP c b s (ks s)).1≠3)→Qt (Zo c b ks)=(List.range (nSt c-1)).map (aQ c b (bump ks s)):=by
  intro h1 h3
  refine QeK fun j hj=>?_
  unfold aQ
  by_cases h:j=s
  ·subst h;rw [YY,ZI _ (by omega),c1 (by omega),if_neg h3];simp only [Nat.add_zero]
  ·by_cases h2:j+1=s
   ·subst h2;rw [YY,ZI _ h,c2 (by omega),if_neg h1];simp only [Nat.add_zero]
   ·rw [ZI _ h,ZI _ h2]
 have keepB:((insP c b s (ks s)).1≠4)→((insP c b s (ks s)).1≠7)→Qu (Zo c b ks)=(List.range (nSt c-1)).map (bQ c b (bump ks s)):=by
  intro h1 h3
  refine QeK fun j hj=>?_
  unfold bQ
  by_cases h:j=s
  ·subst h;rw [YY,ZI _ (by omega),c3 (by omega),if_neg h1];simp only [Nat.add_zero]
  ·by_cases h2:j+1=s
   ·subst h2;rw [YY,ZI _ h,c4 (by omega),if_neg h3];simp only [Nat.add_zero]
   ·rw [ZI _ h,ZI _ h2]
 have hp:∀ j,gtd QX (QF (Zo c b ks)) j=prAt b j:=fun j=>rfl
 have hstAt:∀ k1,(insP c b s (ks s)).1=k1→stAt c b s (ks s+1)=st c b s (ks s+1) (F c b s (ks s)+kf (insP c b s (ks s))) (G c b s (ks s)+kg (insP c b s (ks s))) k1:=by
  intro k1 h;unfold stAt;rw [f1,f2,f3,h]
 have hcase:(insP c b s (ks s)).1=1∨(insP c b s (ks s)).1=2∨(insP c b s (ks s)).1=3∨(insP c b s (ks s)).1=4∨(insP c b s (ks s)).1=5∨(insP c b s (ks s)).1=6∨(insP c b s (ks s)).1=7∨(insP c b s (ks s)).1=8:=by omega
 have g9:=L.c9;have g10:=L.c10;have g11:=L.c11;have g12:=L.c12;have g13:=L.c13
 unfold Yl
 simp only [hp]
 rcases hcase with e | e | e | e | e | e | e | e
 ·
  obtain ⟨h0,h1,h2⟩:=L.c1 e
  have hs0:0<s:=by omega
  have hkf:kf (insP c b s (ks s))=0:=by unfold kf;rw [if_neg (by omega)]
  have hkg:kg (insP c b s (ks s))=0:=by unfold kg;rw [if_neg (by omega)]
  have hlt:=E.2.1 e
  have hrc:rc c b s (ks s)=F c b s (ks s):=by unfold rc rcOf;rw [if_neg h2]
  have hq:=QiO (c:=c) (b:=b) ks (s:=s-1) (by omega)
  have hok:=QoG A V (s:=s-1) (by omega)
  have hitems:(aQ c b ks (s-1)).2=(((rc c b s (ks s):Nat):Int),inS c b s (rc c b s (ks s)))::(List.range' (rc c b s (ks s)+1) (sc c b (s-1) (ks (s-1))-(rc c b s (ks s)+1))).map (fun j:Nat=>((j:Int),inS c b s j)):=by
   unfold aQ
   simp only
   rw [show s-1+1=s by omega,show sc c b (s-1) (ks (s-1))-rc c b s (ks s)=(sc c b (s-1) (ks (s-1))-(rc c b s (ks s)+1))+1 by omega,List.range'_succ,List.map_cons]
  have hpop:Zt (aQ c b ks (s-1))=((J9 c (s-1),(List.range' (rc c b s (ks s)+1) (sc c b (s-1) (ks (s-1))-(rc c b s (ks s)+1))).map (fun j:Nat=>((j:Int),inS c b s j))),(((rc c b s (ks s):Nat):Int),inS c b s (rc c b s (ks s))),true):=by
   unfold Zt
   rw [hok,hitems]
   simp [QbA]
   rfl
  simp only [e,if_true,hq,hpop]
  refine fin (_,_,_) ?_ ?_ (keepB (by omega) (by omega))
  ·rw [hstAt 1 e,hkf,hkg,hrc]
   exact QIH A (fun h=>by have:=g10 h.1 (by omega);omega) (fun h=>by have:=g11 h;omega) (fun h=>by have:=g12 h;omega) (fun h=>by have:=g13 h.1 (by omega);omega)
  ·refine Qf4 _ _ _ _ _ (fun h=>?_) (fun j hj hne=>?_)
   ·unfold aQ
    rw [show s-1+1=s by omega,YY,ZI _ (by omega),c2 hs0,if_pos e]
   ·unfold aQ
    by_cases h:j=s
    ·subst h;rw [YY,ZI _ (by omega),c1 (by omega),if_neg (by omega)];simp only [Nat.add_zero]
    ·rw [ZI _ h,ZI _ (by omega)]
 ·
  obtain ⟨h1,h2⟩:=L.c2 e
  have hkf:kf (insP c b s (ks s))=1:=by unfold kf;rw [if_pos e]
  have hkg:kg (insP c b s (ks s))=0:=by unfold kg;rw [if_neg (by omega)]
  have hf:F c b s (ks s)<b.length:=by omega
  have e2:(insP c b s (ks s)).2.toNat=F c b s (ks s):=by omega
  simp only [e]
  simp
  refine fin (_,_,_) ?_ (keepA (by omega) (by omega)) (keepB (by omega) (by omega))
  rw [hstAt 2 e,hkf,hkg,e2,h1]
  exact QGn A hs (V.le s hs) H hf (fun h=>h2 (by omega)) (fun h=>by have:=g10 h.1 (by omega);omega) (fun h=>by have:=g11 h;omega) (fun h=>by have:=g12 h;omega) (fun h=>by have:=g13 h.1 (by omega);omega)
 ·
  obtain ⟨h0,h1,h2⟩:=L.c3 e
  have hs0:s+1<nSt c:=by omega
  have hkf:kf (insP c b s (ks s))=0:=by unfold kf;rw [if_neg (by omega)]
  have hkg:kg (insP c b s (ks s))=0:=by unfold kg;rw [if_neg (by omega)]
  have hroom:=E.2.2.1 e
  have h16:=L.c16 h2
  have hsc:sc c b s (ks s)=F c b s (ks s)-1:=by unfold sc scOf;rw [if_pos h2]
  have hq:=QiO (c:=c) (b:=b) ks (s:=s) hs0
  have hok:=QoG A V (s:=s) hs0
  have hqa:=V.qa s hs0
  have hb5:=Qdf A
  have hY:sY (stAt c b s (ks s))=inS c b (s+1) (F c b s (ks s)-1):=by
   show vY c b s _ _=_
   unfold vY;rw [if_pos ⟨h2,hs0⟩]
  have hv:=YQ.1 (Qgh A (s:=s+1) (j:=F c b s (ks s)-1) (by omega) (by omega))
  have hpush:Yw (aQ c b ks s) ((insP c b s (ks s)).2,sY (stAt c b s (ks s)))=((J9 c s,(aQ c b ks s).2++[(((sc c b s (ks s):Nat):Int),inS c b (s+1) (sc c b s (ks s)))]),true):=by
   unfold Yw
   rw [hok,hY,h1,hsc]
   have hio:Yy (((F c b s (ks s):Nat):Int)-1,inS c b (s+1) (F c b s (ks s)-1))=true:=by
    simp only [Yy,Bool.and_eq_true,decide_eq_true_eq];exact ⟨⟨hv.1,by omega⟩,by omega⟩
   rw [hio]
   have hl:(((aQ c b ks s).2.length:Nat):Int)<(aQ c b ks s).1:=by simp only [aQ,List.length_map,List.length_range'];omega
   rw [if_pos (by simp only [Bool.true_and,decide_eq_true_eq];exact hl),show ((F c b s (ks s):Nat):Int)-1=((F c b s (ks s)-1:Nat):Int) by omega]
   rfl
  simp only [e,hq,hpush]
  simp
  refine fin (_,_,_) ?_ ?_ (keepB (by omega) (by omega))
  ·rw [hstAt 3 e,hkf,hkg]
   exact QRo A h2
  ·refine Qf4 _ _ _ _ _ (fun h=>?_) (fun j hj hne=>?_)
   ·unfold aQ
    rw [YY,ZI _ (by omega),c1 hs0,if_pos e]
    rw [show sc c b s (ks s)+1-rc c b (s+1) (ks (s+1))=(sc c b s (ks s)-rc c b (s+1) (ks (s+1)))+1 by omega,List.range'_concat,List.map_append]
    simp only [List.map_cons,List.map_nil,Nat.one_mul]
    rw [show rc c b (s+1) (ks (s+1))+(sc c b s (ks s)-rc c b (s+1) (ks (s+1)))=sc c b s (ks s) by omega]
   ·unfold aQ
    by_cases h:j+1=s
    ·subst h;rw [YY,ZI _ (by omega),c2 (by omega),if_neg (by omega)];simp only [Nat.add_zero]
    ·rw [ZI _ hne,ZI _ h]
 ·
  obtain ⟨h0,h1⟩:=L.c4 e
  have hs0:s+1<nSt c:=by omega
  have hkf:kf (insP c b s (ks s))=0:=by unfold kf;rw [if_neg (by omega)]
  have hkg:kg (insP c b s (ks s))=0:=by unfold kg;rw [if_neg (by omega)]
  have hlt:=E.2.2.2.1 e
  have h2:¬ (K1 c b s (ks s)=4∨(K1 c b s (ks s)=5∧(s:Int)<(nSt c:Nat)-1)):=by
   rintro (h | h)
   ·have:=g11 h;omega
   ·have:=g12 h.1;omega
  have hrg:rg c b s (ks s)=G c b s (ks s):=by unfold rg rgOf;rw [if_neg h2]
  have hq:=Qj2 (c:=c) (b:=b) ks (s:=s) hs0
  have hok:=Qop A V (s:=s) hs0
  have hitems:(bQ c b ks s).2=(((rg c b s (ks s):Nat):Int),doS c b (s+1) (rg c b s (ks s)))::(List.range' (rg c b s (ks s)+1) (sg c b (s+1) (ks (s+1))-(rg c b s (ks s)+1))).map (fun j:Nat=>((j:Int),doS c b (s+1) j)):=by
   unfold bQ
   simp only
   rw [show sg c b (s+1) (ks (s+1))-rg c b s (ks s)=(sg c b (s+1) (ks (s+1))-(rg c b s (ks s)+1))+1 by omega,List.range'_succ,List.map_cons]
  have hpop:Zt (bQ c b ks s)=((J9 c s,(List.range' (rg c b s (ks s)+1) (sg c b (s+1) (ks (s+1))-(rg c b s (ks s)+1))).map (fun j:Nat=>((j:Int),doS c b (s+1) j))),(((rg c b s (ks s):Nat):Int),doS c b (s+1) (rg c b s (ks s))),true):=by
   unfold Zt
   rw [hok,hitems]
   simp [QbA]
   rfl
  simp only [e,hq,hpop]
  simp
  refine fin (_,Qt (Zo c b ks),(Qu (Zo c b ks)).set _ _) ?_ (keepA (by omega) (by omega)) ?_
  ·rw [hstAt 4 e,hkf,hkg,hrg]
   exact QGS A (fun h=>by have:=g9 h;omega) (fun h=>by have:=g10 h.1 (by omega);omega) (fun h=>by have:=g12 h;omega) (fun h=>by have:=g13 h.1 (by omega);omega)
  ·refine Qf4 _ _ _ _ _ (fun h=>?_) (fun j hj hne=>?_)
   ·unfold bQ
    rw [YY,ZI _ (by omega),c3 hs0,if_pos e]
   ·unfold bQ
    by_cases h:j+1=s
    ·subst h;rw [YY,ZI _ (by omega),c4 (by omega),if_neg (by omega)];simp only [Nat.add_zero]
    ·rw [ZI _ hne,ZI _ h]
 ·
  obtain ⟨h0,h1,h2,h3⟩:=L.c5 e
  have hkf:kf (insP c b s (ks s))=0:=by unfold kf;rw [if_neg (by omega)]
  have hkg:kg (insP c b s (ks s))=0:=by unfold kg;rw [if_neg (by omega)]
  simp only [e]
  simp
  refine fin (_,_,_) ?_ (keepA (by omega) (by omega)) (keepB (by omega) (by omega))
  rw [hstAt 5 e,hkf,hkg,h1]
  exact QUt A hs (V.le s hs) H h0 h2 (fun h=>by have:=g9 h;omega) (fun h=>by have:=g10 h.1 (by omega);omega) ⟨fun h=>by have:=L.c18 h;omega,fun h=>h3 (by omega)⟩ (fun h=>by have:=g12 h;omega) (fun h=>by have:=g13 h.1 (by omega);omega)
 ·
  obtain ⟨h1,h2,h3,h4⟩:=L.c6 e
  have hkf:kf (insP c b s (ks s))=0:=by unfold kf;rw [if_neg (by omega)]
  have hkg:kg (insP c b s (ks s))=1:=by unfold kg;rw [if_pos e]
  have e2:(insP c b s (ks s)).2.toNat=G c b s (ks s):=by omega
  simp only [e]
  simp
  refine fin (_,_,_) ?_ (keepA (by omega) (by omega)) (keepB (by omega) (by omega))
  rw [hstAt 6 e,hkf,hkg,e2,h1]
  exact QJw A hs (V.le s hs) H h2 h3 (fun hr hn=>h4 hr (by omega)) (fun h=>by have:=g9 h;omega) (fun h=>by have:=g10 h.1 (by omega);omega) L.c14 (fun h=>by have:=L.c18 h;omega)
 ·
  obtain ⟨h0,h1,h2⟩:=L.c7 e
  have hs0:0<s:=by omega
  have hkf:kf (insP c b s (ks s))=0:=by unfold kf;rw [if_neg (by omega)]
  have hkg:kg (insP c b s (ks s))=0:=by unfold kg;rw [if_neg (by omega)]
  have hroom:=E.2.2.2.2.1 e
  have h15:=L.c15 h2
  have hsg:sg c b s (ks s)=G c b s (ks s)-1:=by unfold sg sgQ;rw [if_pos h2]
  have hq:=Qj2 (c:=c) (b:=b) ks (s:=s-1) (by omega)
  have hok:=Qop A V (s:=s-1) (by omega)
  have hqb:=V.qb (s-1) (by omega)
  rw [show s-1+1=s by omega] at hqb
  have hb5:=Qdf A
  have hD:sD (stAt c b s (ks s))=doS c b s (G c b s (ks s)-1):=by
   show vD c b s _ _=_
   unfold vD;rw [if_pos ⟨h2,hs0⟩]
  have hv:=YQ.1 (Qf2 A (s:=s) (j:=G c b s (ks s)-1) (by omega) (by omega))
  have hpush:Yw (bQ c b ks (s-1)) ((insP c b s (ks s)).2,sD (stAt c b s (ks s)))=((J9 c (s-1),(bQ c b ks (s-1)).2++[(((sg c b s (ks s):Nat):Int),doS c b s (sg c b s (ks s)))]),true):=by
   unfold Yw
   rw [hok,hD,h1,hsg]
   have hio:Yy (((G c b s (ks s):Nat):Int)-1,doS c b s (G c b s (ks s)-1))=true:=by
    simp only [Yy,Bool.and_eq_true,decide_eq_true_eq];exact ⟨⟨hv.1,by omega⟩,by omega⟩
   rw [hio]
   have hl:(((bQ c b ks (s-1)).2.length:Nat):Int)<(bQ c b ks (s-1)).1:=by
    simp only [bQ,List.length_map,List.length_range'];rw [show s-1+1=s by omega];omega
   rw [if_pos (by simp only [Bool.true_and,decide_eq_true_eq];exact hl),show ((G c b s (ks s):Nat):Int)-1=((G c b s (ks s)-1:Nat):Int) by omega]
   rfl
  simp only [e,hq,hpush]
  simp
  refine fin (_,Qt (Zo c b ks),(Qu (Zo c b ks)).set _ _) ?_ (keepA (by omega) (by omega)) ?_
  ·rw [hstAt 7 e,hkf,hkg]
   exact QXA A h2
  ·refine Qf4 _ _ _ _ _ (fun h=>?_) (fun j hj hne=>?_)
   ·unfold bQ
    rw [show s-1+1=s by omega,YY,ZI _ (by omega),c4 hs0,if_pos e]
    rw [show sg c b s (ks s)+1-rg c b (s-1) (ks (s-1))=(sg c b s (ks s)-rg c b (s-1) (ks (s-1)))+1 by omega,List.range'_concat,List.map_append]
    simp only [List.map_cons,List.map_nil,Nat.one_mul]
    rw [show rg c b (s-1) (ks (s-1))+(sg c b s (ks s)-rg c b (s-1) (ks (s-1)))=sg c b s (ks s) by omega]
   ·unfold bQ
    by_cases h:j=s
    ·subst h;rw [YY,ZI _ (by omega),c3 (by omega),if_neg (by omega)];simp only [Nat.add_zero]
    ·rw [ZI _ h,ZI _ (by omega)]
 ·
  have hkf:kf (insP c b s (ks s))=0:=by unfold kf;rw [if_neg (by omega)]
  have hkg:kg (insP c b s (ks s))=0:=by unfold kg;rw [if_neg (by omega)]
  simp only [e]
  simp
  refine fin (_,_,_) ?_ (keepA (by omega) (by omega)) (keepB (by omega) (by omega))
  rw [hstAt 8 e,hkf,hkg]
  exact QSj A (fun h=>by have:=g9 h;omega) (fun h=>by have:=g10 h.1 (by omega);omega) (fun h=>by have:=g11 h;omega) (fun h=>by have:=g12 h;omega) (fun h=>by have:=g13 h.1 (by omega);omega)
theorem QWL {ks:Nat→Nat} (V:Ok c b ks) {s:Nat} (hs:s<nSt c) (E:¬ En c b ks s):Zu (Zo c b ks) (s:Int)=Zo c b ks:=by
 unfold Zu
 rw [if_neg (fun h=>E ((QD4 A V hs).1 h))]
theorem QN8 {ks:Nat→Nat} {s:Int} (hs:¬ (0≤s∧s<(nSt c:Nat))):Zu (Zo c b ks) s=Zo c b ks:=by
 have _:=A
 unfold Zu
 rw [if_neg]
 unfold ZV
 rw [QdB]
 simp only [Bool.and_eq_true,QP]
 omega
theorem QHj {ks:Nat→Nat} (V:Ok c b ks) (s:Int):∃ ks',Ok c b ks'∧Zu (Zo c b ks) s=Zo c b ks'∧(∀ j,ks j≤ks' j)∧((∃ t:Nat,s=t∧t<nSt c∧En c b ks t∧ks'=bump ks t)∨ks'=ks):=by
 by_cases h:0≤s∧s<(nSt c:Nat)
 ·obtain ⟨t,rfl⟩:=Int.eq_ofNat_of_zero_le h.1
  by_cases E:En c b ks t
  ·refine ⟨bump ks t,QCc A V (by omega) E,QKU A V (by omega) E,fun j=>?_,.inl ⟨t,rfl,by omega,E,rfl⟩⟩
   unfold bump;split <;> omega
  ·exact ⟨ks,V,QWL A V (by omega) E,fun _=>Nat.le_refl _,.inr rfl⟩
 ·exact ⟨ks,V,QN8 A h,fun _=>Nat.le_refl _,.inr rfl⟩
end
end Go.Proofs.YtjbdljkhbglnhaaGreat.Am
namespace Go.Proofs.YtjbdljkhbglnhaaGreat.Am
open Go Sz
theorem QCo {α β:Type} (d:α) (f:α→β) (l:List α):l.map f=(List.range l.length).map fun i=>f (gtd d l i):=by
 apply List.ext_getElem?
 intro i
 simp only [List.getElem?_map]
 by_cases h:i<l.length
 ·rw [List.getElem?_range h,YZ h d];rfl
 ·rw [List.getElem?_eq_none (by omega),List.getElem?_eq_none (by simp;omega)];rfl
section
variable {c:QM} {b:List Qy} (A:Adm c b)
include A
theorem QmU:QZ c=(nSt c:Nat):=by
 have:=(QdP (c:=c)).2.2.2 A.cuts
 rw [this];simp [nSt]
theorem QWD {s:Nat} (hs:s<nSt c):1≤lenP c b s:=by
 have h:=(QyU A hs).2.2
 apply Classical.byContradiction
 intro hn
 rw [show lenP c b s=0 by omega] at h
 simp [K1,Jf] at h
omit A in
theorem QD8 (n micro:Int):∀ k:Nat,QaU c n micro k=(List.range k).map fun s:Nat =>
  QaG (slice (ZU c) (QV (ZU c) (Zv c) s).1 (QV (ZU c) (Zv c) s).2) (YA (cDs c) n s micro (gtd false (J5 c) s)) (decide ((s:Int)=n-1)) (gtd false (J5 c) s)
 | 0=>rfl
 | k+1=>by rw [QaU,QD8 n micro k,List.range_succ,List.map_append];rfl
theorem QRB:Ja c b=Zo c b (fun _=>0):=by
 unfold Ja
 rw [if_pos (QC8 A),QmU A,QD8,Int.toNat_natCast]
 refine Prod.ext rfl (Prod.ext ?_ (Prod.ext ?_ ?_))
 ·refine QeK fun s hs=>?_
  have hm:=(QfK A hs).1
  have e:slice (ZU c) (QV (ZU c) (Zv c) (s:Int)).1 (QV (ZU c) (Zv c) (s:Int)).2=opS c s:=QQa A.cuts (by simp only [nSt] at hs;omega)
  rw [e]
  unfold QaG
  rw [if_pos hm]
  have e2:decide ((s:Int)=((nSt c:Nat):Int)-1)=Zn c s:=by
   simp only [Zn];rw [Bool.eq_iff_iff];simp only [decide_eq_true_eq];omega
  rw [e2]
  simp [stAt,st,F,G,K1,cf,cg,Jf,YF,J3,vX,vY,vG,vD,Qaw,Jj,satV,Y4,Y3]
 ·have e:=QhO A
  show (JK c).map (fun n=>((n,[]):Qd))=_
  rw [QCo (0:Int),e]
  refine QeK fun s hs=>?_
  simp [aQ,rc,sc,F,K1,cf,Jf,rcOf,scOf]
 ·have e:=QhO A
  show (JK c).map (fun n=>((n,[]):Qd))=_
  rw [QCo (0:Int),e]
  refine QeK fun s hs=>?_
  simp [bQ,rg,sg,G,K1,cg,Jf,rgOf,sgQ]
theorem QFx:Ok c b (fun _=>0):=by
 refine ⟨fun s hs=>Nat.zero_le _,fun s hs=>?_,fun s hs=>?_,fun h=>?_⟩
 ·have:=Qgv A hs
  simp [rc,sc,F,K1,cf,Jf,rcOf,scOf];omega
 ·have:=Qgv A hs
  simp [rg,sg,G,K1,cg,Jf,rgOf,sgQ];omega
 ·obtain ⟨s,hs,e⟩:=h
  have:=QWD A hs
  omega
def left (c:QM) (b:List Qy) (ks:Nat→Nat):Nat:=((List.range (nSt c)).map fun s=>lenP c b s-ks s).sum
end
end Go.Proofs.YtjbdljkhbglnhaaGreat.Am
namespace Go.Proofs.YtjbdljkhbglnhaaGreat.Am
open Go Sz
section
variable {c:QM} {b:List Qy} (A:Adm c b)
include A
end
end Go.Proofs.YtjbdljkhbglnhaaGreat.Am

