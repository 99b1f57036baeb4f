/- -/
import Derived.Test.YtjbdljkhbglnhaaGreatZDGA
set_option linter.all false
namespace Go.Proofs.YtjbdljkhbglnhaaGreat.Am
open Go Sz
theorem QnQ {α:Type} (d:α) (n:Nat) (f:Nat→α) {k:Nat} (hk:k<n):gtd d ((List.range n).map f) k=f k :=
 Qec (by rw [List.getElem?_map,List.getElem?_range hk];rfl) d
theorem Qfr {α:Type} (n:Nat) (f g:Nat→α) (k:Nat) (v:α) (hv:k<n→v=g k) (h:∀ j,j<n→j≠k→f j=g j):((List.range n).map f).set k v=(List.range n).map g:=by
 apply List.ext_getElem?
 intro i
 rw [List.getElem?_set]
 simp only [List.length_map,List.length_range,List.getElem?_map]
 by_cases hi:i<n
 ·rw [List.getElem?_range hi]
  by_cases hk:k=i
  ·subst hk
   rw [if_pos rfl,if_pos hi,hv hi];rfl
  ·rw [if_neg hk]
   simp only [Option.map_some]
   rw [h i hi (fun e=>hk e.symm)]
 ·rw [List.getElem?_eq_none (by simp;omega)]
  split
  ·rename_i e;rw [if_neg (by omega)];rfl
  ·rfl
theorem QdK {α:Type} {n:Nat} {f g:Nat→α} (h:∀ j,j<n→f j=g j):(List.range n).map f=(List.range n).map g :=
 List.map_congr_left (fun j hj=>h j (List.mem_range.1 hj))
def bump (ks:Nat→Nat) (s:Nat):Nat→Nat:=fun j=>if j=s then ks j+1 else ks j
theorem YK (ks:Nat→Nat) (s:Nat):bump ks s s=ks s+1:=by simp [bump]
theorem ZG (ks:Nat→Nat) {s j:Nat} (h:j≠s):bump ks s j=ks j:=by simp [bump,h]
section
variable {c:QM} {b:List Qr} (A:Adm c b)
include A
omit A in
theorem QwT (ks:Nat→Nat) {s:Nat} (hs:s<nSt c):gtd QC (QH (Q8 c b ks)) s=stAt c b s (ks s):=QnQ _ _ _ hs
omit A in
theorem Qj1 (ks:Nat→Nat) {s:Nat} (hs:s+1<nSt c):gtd Qv (Qy (Q8 c b ks)) s=aQ c b ks s:=QnQ _ _ _ (by omega)
omit A in
theorem Qjd (ks:Nat→Nat) {s:Nat} (hs:s+1<nSt c):gtd Qv (Qz (Q8 c b ks)) s=bQ c b ks s:=QnQ _ _ _ (by omega)
omit A in
theorem Qcf (ks:Nat→Nat):(QH (Q8 c b ks)).length=nSt c:=by
 show ((List.range (nSt c)).map _).length=_
 simp
theorem QCX {s k:Nat} (hs:s<nSt c) (hk:k≤lenP c b s):sc c b s k≤b.length∧rc c b s k≤b.length∧rg c b s k≤b.length∧sg c b s k≤b.length:=by
 have H:=nums A hs hk
 have h1:=H.gf;have h2:=H.fM;have h3:=H.k1;have h4:=H.k45
 unfold sc rc rg sg scOf rcOf rgOf sgQ
 refine ⟨?_,?_,?_,?_⟩
 ·split <;> omega
 ·split
  ·rename_i h;have:=h3 h;omega
  ·omega
 ·split
  ·rename_i h;have:=h4 (h.imp id (fun h=>h.1));omega
  ·omega
 ·split <;> omega
theorem Qqx {ks:Nat→Nat} (V:Ok c b ks) {s:Nat} (hs:s+1<nSt c):Q0 (aQ c b ks s)=true:=by
 have hc:=QdZ A hs
 have hq:=V.qa s hs
 have hb:=Qa5 A
 have hl:=(QCX A (s:=s) (by omega) (V.le s (by omega))).1
 unfold Q0 aQ
 simp only [Bool.and_eq_true,decide_eq_true_eq,List.length_map,List.length_range',List.all_eq_true]
 refine ⟨⟨⟨hc.1,hc.2⟩,by omega⟩,fun x hx=>?_⟩
 obtain ⟨j,hj,rfl⟩:=List.mem_map.1 hx
 rw [List.mem_range'_1] at hj
 have:=YW.1 (Qf5 A (s:=s+1) (j:=j) (by omega) (by omega))
 simp only [Yv,Bool.and_eq_true,decide_eq_true_eq]
 exact ⟨⟨this.1,by omega⟩,by omega⟩
theorem Qnu {ks:Nat→Nat} (V:Ok c b ks) {s:Nat} (hs:s+1<nSt c):Q0 (bQ c b ks s)=true:=by
 have hc:=QdZ A hs
 have hq:=V.qb s hs
 have hb:=Qa5 A
 have hl:=(QCX A (s:=s+1) (by omega) (V.le (s+1) (by omega))).2.2.2
 unfold Q0 bQ
 simp only [Bool.and_eq_true,decide_eq_true_eq,List.length_map,List.length_range',List.all_eq_true]
 refine ⟨⟨⟨hc.1,hc.2⟩,by omega⟩,fun x hx=>?_⟩
 obtain ⟨j,hj,rfl⟩:=List.mem_map.1 hx
 rw [List.mem_range'_1] at hj
 have:=YW.1 (QfI A (s:=s+1) (j:=j) (by omega) (by omega))
 simp only [Yv,Bool.and_eq_true,decide_eq_true_eq]
 exact ⟨⟨this.1,by omega⟩,by omega⟩
theorem Qza {ks:Nat→Nat} (V:Ok c b ks):∀ (n s:Nat),s+n=nSt c→Jv b.length ((List.range' s n).map fun s=>stAt c b s (ks s))=true
 | 0,s,h=>rfl
 | n+1,s,h=>by
  have hs:s<nSt c:=by omega
  have ih:=Qza V n (s+1) (by omega)
  rw [List.range'_succ,List.map_cons,Jv,ih]
  have h1:QQ (stAt c b s (ks s))=true:=QiS A hs (V.le s hs) (nums A hs (V.le s hs))
  have h2:(((stAt c b s (ks s)).2.2.2.1:Bool)==decide (((List.range' (s+1) n).map fun s=>stAt c b s (ks s)).length=0))=true:=by
   simp only [stAt,st,Zq,List.length_map,List.length_range',beq_iff_eq]
   rw [Bool.eq_iff_iff];simp only [decide_eq_true_eq];omega
  have h3:(stAt c b s (ks s)).2.1.all (fun x=>m_in x.2 0 ((b.length:Int)-1))=true:=by
   rw [Qe4 dIns]
   intro k hk
   have L:=(loc A hs (k:=k) hk).c0
   rw [QS]
   have e:gtd dIns (stAt c b s (ks s)).2.1 k=insP c b s k:=rfl
   rw [e];omega
  rw [h1,h2,h3];rfl
theorem Qj0 {ks:Nat→Nat} (V:Ok c b ks):Zi (Q8 c b ks)=true:=by
 have hn:=Qb6 A
 have hb:=Qa5 A
 have hg:=Qza A V (nSt c) 0 (by omega)
 rw [← List.range_eq_range'] at hg
 have ha:(Qy (Q8 c b ks)).all Q0=true:=by
  rw [List.all_eq_true]
  intro q hq
  obtain ⟨j,hj,rfl⟩:=List.mem_map.1 hq
  exact Qqx A V (by have:=List.mem_range.1 hj;omega)
 have hbk:(Qz (Q8 c b ks)).all Q0=true:=by
  rw [List.all_eq_true]
  intro q hq
  obtain ⟨j,hj,rfl⟩:=List.mem_map.1 hq
  exact Qnu A V (by have:=List.mem_range.1 hj;omega)
 have hpv:(QI (Q8 c b ks)).all JK=true:=by
  rw [List.all_eq_true]
  intro x hx
  have:=A.batch
  simp only [YY,Bool.and_eq_true,List.all_eq_true] at this
  have:=this.2 x hx
  simp only [Qan,Bool.and_eq_true] at this
  simp only [JK,Bool.and_eq_true]
  exact ⟨(YW.1 this.1.2).1,(YW.1 this.2).1⟩
 simp only [Zi,Bool.and_eq_true,QS,beq_iff_eq]
 refine ⟨⟨⟨⟨?_,?_⟩,?_⟩,?_⟩,⟨hpv,ha,hbk⟩,hg⟩
 ·rw [Qcf];omega
 ·simp [Q8];omega
 ·simp [Q8];omega
 ·show (1:Int)≤(b.length:Int)∧(b.length:Int)≤5;omega
theorem Qxf {ks:Nat→Nat} {s:Nat} (hs:s<nSt c) (hk:ks s≤lenP c b s):Qn (Q8 c b ks) (s:Int)=if ks s<lenP c b s then insP c b s (ks s) else (0,0):=by
 have _:=A
 unfold Qn
 rw [if_pos (by rw [QS,Qcf];omega),Int.toNat_natCast,QwT ks hs]
 unfold Qcl
 have e1:((stAt c b s (ks s)).1:Int)=(ks s:Nat):=rfl
 have e2:(stAt c b s (ks s)).2.1.length=lenP c b s:=rfl
 rw [e1,e2]
 by_cases h:ks s<lenP c b s
 ·rw [if_pos h,if_pos (by rw [QS];omega),Int.toNat_natCast];rfl
 ·rw [if_neg h,if_neg (by rw [QS];omega)]
theorem Qei {ks:Nat→Nat} (V:Ok c b ks) {s:Nat} (hs:s<nSt c):Zu (Q8 c b ks) (s:Int)=true↔En c b ks s:=by
 have hn:=Qb6 A
 unfold Zu
 rw [Qj0 A V,Qxf A hs (V.le s hs),Bool.true_and,Bool.and_eq_true,QS,Qcf]
 by_cases hk:ks s<lenP c b s
 rotate_left
 ·rw [if_neg hk]
  constructor
  ·intro h;exact absurd h.2 (by simp [JE])
  ·intro h;exact absurd h.1 hk
 rw [if_pos hk]
 have L:=loc A hs hk
 have hi:=L.c0
 have h1:=L.c1;have h3:=L.c3;have h4:=L.c4;have h7:=L.c7
 have hlen:((QH (Q8 c b ks)).length:Int)=(nSt c:Nat):=by rw [Qcf]
 unfold En
 generalize insP c b s (ks s)=i at *
 have hcase:i.1=1∨i.1=2∨i.1=3∨i.1=4∨i.1=5∨i.1=6∨i.1=7∨i.1=8:=by omega
 unfold JE
 rw [hlen,Int.toNat_natCast]
 rcases hcase with e | e | e | e | e | e | e | e
 ·have h0:=h1 e
  have hq:=Qj1 (b:=b) ks (c:=c) (s:=s-1) (by omega)
  rw [hq]
  simp only [e,aQ,List.length_map,List.length_range',Bool.and_eq_true,decide_eq_true_eq]
  rw [show s-1+1=s by omega]
  simp;omega
 ·simp [e];omega
 ·have h0:=h3 e
  have hq:=Qj1 (b:=b) ks (c:=c) (s:=s) (by omega)
  have hqa:=V.qa s (by omega)
  rw [hq]
  simp only [e,aQ,Qaz,List.length_map,List.length_range',Bool.and_eq_true,decide_eq_true_eq]
  simp;omega
 ·have h0:=h4 e
  have hq:=Qjd (b:=b) ks (c:=c) (s:=s) (by omega)
  rw [hq]
  simp only [e,bQ,List.length_map,List.length_range',Bool.and_eq_true,decide_eq_true_eq]
  simp;omega
 ·simp [e];omega
 ·simp [e];omega
 ·have h0:=h7 e
  have hq:=Qjd (b:=b) ks (c:=c) (s:=s-1) (by omega)
  have hqb:=V.qb (s-1) (by omega)
  rw [hq]
  rw [show s-1+1=s by omega] at hqb
  simp only [e,bQ,Qaz,List.length_map,List.length_range',Bool.and_eq_true,decide_eq_true_eq]
  rw [show s-1+1=s by omega]
  simp;omega
 ·have:JX (Q8 c b ks)=true↔∀ j,j<nSt c→lenP c b j≤ks j+1:=by
   unfold JX
   rw [List.all_eq_true]
   constructor
   ·intro h j hj
    have:=h (stAt c b j (ks j)) (List.mem_map.2 ⟨j,List.mem_range.2 hj,rfl⟩)
    simp only [Jq,decide_eq_true_eq] at this
    have e1:((stAt c b j (ks j)).1:Int)=(ks j:Nat):=rfl
    have e2:(stAt c b j (ks j)).2.1.length=lenP c b j:=rfl
    rw [e1,e2] at this;omega
   ·intro h x hx
    obtain ⟨j,hj,rfl⟩:=List.mem_map.1 hx
    have:=h j (List.mem_range.1 hj)
    simp only [Jq,decide_eq_true_eq]
    have e1:((stAt c b j (ks j)).1:Int)=(ks j:Nat):=rfl
    have e2:(stAt c b j (ks j)).2.1.length=lenP c b j:=rfl
    rw [e1,e2];omega
  simp only [e]
  simp [this];omega
theorem Qml {ks:Nat→Nat} (V:Ok c b ks) {s:Nat} (hs:s<nSt c) (E:En c b ks s):Ok c b (bump ks s):=by
 obtain ⟨hk,e1,e3,e4,e7,e8⟩:=E
 obtain ⟨c1,c2,c3,c4⟩:=QzE A hs hk
 have L:=loc A hs hk
 refine ⟨fun j hj=>?_,fun j hj=>?_,fun j hj=>?_,fun h=>?_⟩
 ·by_cases h:j=s
  ·subst h;rw [YK];omega
  ·rw [ZG _ h];exact V.le j hj
 ·have hq:=V.qa j hj
  by_cases h:j=s
  ·subst h
   rw [YK,ZG _ (by omega),c1 hj]
   split
   ·rename_i h;have:=e3 h;omega
   ·omega
  ·by_cases h2:j+1=s
   ·subst h2
    rw [YK,ZG _ h,c2 (by omega)]
    split
    ·rename_i h;have:=e1 h;simp only [Nat.add_sub_cancel] at this;omega
    ·omega
   ·rw [ZG _ h,ZG _ h2];exact hq
 ·have hq:=V.qb j hj
  by_cases h:j=s
  ·subst h
   rw [YK,ZG _ (by omega),c3 hj]
   split
   ·rename_i h;have:=e4 h;omega
   ·omega
  ·by_cases h2:j+1=s
   ·subst h2
    rw [YK,ZG _ h,c4 (by omega)]
    split
    ·rename_i h;have:=e7 h;simp only [Nat.add_sub_cancel] at this;omega
    ·omega
   ·rw [ZG _ h,ZG _ h2];exact hq
 ·by_cases h8:(insP c b s (ks s)).1=8
  ·intro j hj
   have:=e8 h8 j hj
   by_cases h2:j=s
   ·subst h2;rw [YK];omega
   ·rw [ZG _ h2];exact this
  ·exfalso
   have hl:¬ ks s+1=lenP c b s:=fun e=>h8 (L.c0.2.2.2.2.2.2.1.2 (by simpa using e))
   obtain ⟨j,hj,hje⟩:=h
   by_cases h2:j=s
   ·subst h2;rw [YK] at hje;exact hl hje
   ·rw [ZG _ h2] at hje
    have:=V.fl ⟨j,hj,hje⟩ s hs
    omega
theorem Qz1 {ks:Nat→Nat} (V:Ok c b ks) {s:Nat} (hs:s<nSt c) (E:En c b ks s):Zy (Q8 c b ks) (s:Int)=Q8 c b (bump ks s):=by
 have hen:=(Qei A V hs).2 E
 have V':=Qml A V hs E
 have hk:=E.1
 have hnx:=Qxf A hs (V.le s hs)
 rw [if_pos hk] at hnx
 unfold Zy
 rw [if_pos hen]
 simp only
 rw [hnx,Int.toNat_natCast,QwT ks hs]
 obtain ⟨c1,c2,c3,c4⟩:=QzE A hs hk
 obtain ⟨f1,f2,f3⟩:=Qva (c:=c) (b:=b) hk
 have L:=loc A hs hk
 have H:=nums A hs (V.le s hs)
 have hi:=L.c0
 have hpc:sPc (stAt c b s (ks s))+1=((ks s:Nat):Int)+1:=rfl
 rw [hpc]
 have fin:∀ (y:Qc × List Qd × List Qd),YI y.1 (((ks s:Nat):Int)+1)=stAt c b s (ks s+1) →
   y.2.1=(List.range (nSt c-1)).map (aQ c b (bump ks s))→y.2.2=(List.range (nSt c-1)).map (bQ c b (bump ks s)) →
   ((QI (Q8 c b ks),(QH (Q8 c b ks)).set s (YI y.1 (((ks s:Nat):Int)+1)),y.2.1,y.2.2):Qe)=Q8 c b (bump ks s):=by
  intro y h1 h2 h3
  rw [h1,h2,h3]
  refine Prod.ext rfl (Prod.ext ?_ rfl)
  exact Qfr _ _ _ _ _ (fun _=>by rw [YK]) (fun j hj hne=>by rw [ZG _ hne])
 have keepA:((insP c b s (ks s)).1≠1)→((insP c b s (ks s)).1≠3)→Qy (Q8 c b ks)=(List.range (nSt c-1)).map (aQ c b (bump ks s)):=by
  intro h1 h3
  refine QdK fun j hj=>?_
  unfold aQ
  by_cases h:j=s
  ·subst h;rw [YK,ZG _ (by omega),c1 (by omega),if_neg h3];simp only [Nat.add_zero]
  ·by_cases h2:j+1=s
   ·subst h2;rw [YK,ZG _ h,c2 (by omega),if_neg h1];simp only [Nat.add_zero]
   ·rw [ZG _ h,ZG _ h2]
 have keepB:((insP c b s (ks s)).1≠4)→((insP c b s (ks s)).1≠7)→Qz (Q8 c b ks)=(List.range (nSt c-1)).map (bQ c b (bump ks s)):=by
  intro h1 h3
  refine QdK fun j hj=>?_
  unfold bQ
  by_cases h:j=s
  ·subst h;rw [YK,ZG _ (by omega),c3 (by omega),if_neg h1];simp only [Nat.add_zero]
  ·by_cases h2:j+1=s
   ·subst h2;rw [YK,ZG _ h,c4 (by omega),if_neg h3];simp only [Nat.add_zero]
   ·rw [ZG _ h,ZG _ h2]
 have hp:∀ j,gtd QY (QI (Q8 c b ks)) j=prAt b j:=fun j=>rfl
 have hstAt:∀ k1,(insP c b s (ks s)).1=k1→stAt c b s (ks s+1)=st c b s (ks s+1) (F c b s (ks s)+kf (insP c b s (ks s))) (G c b s (ks s)+kg (insP c b s (ks s))) k1:=by
  intro k1 h;unfold stAt;rw [f1,f2,f3,h]
 have hcase:(insP c b s (ks s)).1=1∨(insP c b s (ks s)).1=2∨(insP c b s (ks s)).1=3∨(insP c b s (ks s)).1=4∨(insP c b s (ks s)).1=5∨(insP c b s (ks s)).1=6∨(insP c b s (ks s)).1=7∨(insP c b s (ks s)).1=8:=by omega
 have g9:=L.c9;have g10:=L.c10;have g11:=L.c11;have g12:=L.c12;have g13:=L.c13
 unfold Ym
 simp only [hp]
 rcases hcase with e | e | e | e | e | e | e | e
 ·
  obtain ⟨h0,h1,h2⟩:=L.c1 e
  have hs0:0<s:=by omega
  have hkf:kf (insP c b s (ks s))=0:=by unfold kf;rw [if_neg (by omega)]
  have hkg:kg (insP c b s (ks s))=0:=by unfold kg;rw [if_neg (by omega)]
  have hlt:=E.2.1 e
  have hrc:rc c b s (ks s)=F c b s (ks s):=by unfold rc rcOf;rw [if_neg h2]
  have hq:=Qj1 (c:=c) (b:=b) ks (s:=s-1) (by omega)
  have hok:=Qqx A V (s:=s-1) (by omega)
  have hitems:(aQ c b ks (s-1)).2=(((rc c b s (ks s):Nat):Int),inS c b s (rc c b s (ks s)))::(List.range' (rc c b s (ks s)+1) (sc c b (s-1) (ks (s-1))-(rc c b s (ks s)+1))).map (fun j:Nat=>((j:Int),inS c b s j)):=by
   unfold aQ
   simp only
   rw [show s-1+1=s by omega,show sc c b (s-1) (ks (s-1))-rc c b s (ks s)=(sc c b (s-1) (ks (s-1))-(rc c b s (ks s)+1))+1 by omega,List.range'_succ,List.map_cons]
  have hpop:Zv (aQ c b ks (s-1))=((J0 c (s-1),(List.range' (rc c b s (ks s)+1) (sc c b (s-1) (ks (s-1))-(rc c b s (ks s)+1))).map (fun j:Nat=>((j:Int),inS c b s j))),(((rc c b s (ks s):Nat):Int),inS c b s (rc c b s (ks s))),true):=by
   unfold Zv
   rw [hok,hitems]
   simp [QbE]
   rfl
  simp only [e,if_true,hq,hpop]
  refine fin (_,_,_) ?_ ?_ (keepB (by omega) (by omega))
  ·rw [hstAt 1 e,hkf,hkg,hrc]
   exact QNb A (fun h=>by have:=g10 h.1 (by omega);omega) (fun h=>by have:=g11 h;omega) (fun h=>by have:=g12 h;omega) (fun h=>by have:=g13 h.1 (by omega);omega)
  ·refine Qfr _ _ _ _ _ (fun h=>?_) (fun j hj hne=>?_)
   ·unfold aQ
    rw [show s-1+1=s by omega,YK,ZG _ (by omega),c2 hs0,if_pos e]
   ·unfold aQ
    by_cases h:j=s
    ·subst h;rw [YK,ZG _ (by omega),c1 (by omega),if_neg (by omega)];simp only [Nat.add_zero]
    ·rw [ZG _ h,ZG _ (by omega)]
 ·
  obtain ⟨h1,h2⟩:=L.c2 e
  have hkf:kf (insP c b s (ks s))=1:=by unfold kf;rw [if_pos e]
  have hkg:kg (insP c b s (ks s))=0:=by unfold kg;rw [if_neg (by omega)]
  have hf:F c b s (ks s)<b.length:=by omega
  have e2:(insP c b s (ks s)).2.toNat=F c b s (ks s):=by omega
  simp only [e]
  simp
  refine fin (_,_,_) ?_ (keepA (by omega) (by omega)) (keepB (by omega) (by omega))
  rw [hstAt 2 e,hkf,hkg,e2,h1]
  exact QWn A hs (V.le s hs) H hf (fun h=>h2 (by omega)) (fun h=>by have:=g10 h.1 (by omega);omega) (fun h=>by have:=g11 h;omega) (fun h=>by have:=g12 h;omega) (fun h=>by have:=g13 h.1 (by omega);omega)
 ·
  obtain ⟨h0,h1,h2⟩:=L.c3 e
  have hs0:s+1<nSt c:=by omega
  have hkf:kf (insP c b s (ks s))=0:=by unfold kf;rw [if_neg (by omega)]
  have hkg:kg (insP c b s (ks s))=0:=by unfold kg;rw [if_neg (by omega)]
  have hroom:=E.2.2.1 e
  have h16:=L.c16 h2
  have hsc:sc c b s (ks s)=F c b s (ks s)-1:=by unfold sc scOf;rw [if_pos h2]
  have hq:=Qj1 (c:=c) (b:=b) ks (s:=s) hs0
  have hok:=Qqx A V (s:=s) hs0
  have hqa:=V.qa s hs0
  have hb5:=Qa5 A
  have hY:sY (stAt c b s (ks s))=inS c b (s+1) (F c b s (ks s)-1):=by
   show vY c b s _ _=_
   unfold vY;rw [if_pos ⟨h2,hs0⟩]
  have hv:=YW.1 (Qf5 A (s:=s+1) (j:=F c b s (ks s)-1) (by omega) (by omega))
  have hpush:Yw (aQ c b ks s) ((insP c b s (ks s)).2,sY (stAt c b s (ks s)))=((J0 c s,(aQ c b ks s).2++[(((sc c b s (ks s):Nat):Int),inS c b (s+1) (sc c b s (ks s)))]),true):=by
   unfold Yw
   rw [hok,hY,h1,hsc]
   have hio:Yv (((F c b s (ks s):Nat):Int)-1,inS c b (s+1) (F c b s (ks s)-1))=true:=by
    simp only [Yv,Bool.and_eq_true,decide_eq_true_eq];exact ⟨⟨hv.1,by omega⟩,by omega⟩
   rw [hio]
   have hl:(((aQ c b ks s).2.length:Nat):Int)<(aQ c b ks s).1:=by simp only [aQ,List.length_map,List.length_range'];omega
   rw [if_pos (by simp only [Bool.true_and,decide_eq_true_eq];exact hl),show ((F c b s (ks s):Nat):Int)-1=((F c b s (ks s)-1:Nat):Int) by omega]
   rfl
  simp only [e,hq,hpush]
  simp
  refine fin (_,_,_) ?_ ?_ (keepB (by omega) (by omega))
  ·rw [hstAt 3 e,hkf,hkg]
   exact QU8 A h2
  ·refine Qfr _ _ _ _ _ (fun h=>?_) (fun j hj hne=>?_)
   ·unfold aQ
    rw [YK,ZG _ (by omega),c1 hs0,if_pos e]
    rw [show sc c b s (ks s)+1-rc c b (s+1) (ks (s+1))=(sc c b s (ks s)-rc c b (s+1) (ks (s+1)))+1 by omega,List.range'_concat,List.map_append]
    simp only [List.map_cons,List.map_nil,Nat.one_mul]
    rw [show rc c b (s+1) (ks (s+1))+(sc c b s (ks s)-rc c b (s+1) (ks (s+1)))=sc c b s (ks s) by omega]
   ·unfold aQ
    by_cases h:j+1=s
    ·subst h;rw [YK,ZG _ (by omega),c2 (by omega),if_neg (by omega)];simp only [Nat.add_zero]
    ·rw [ZG _ hne,ZG _ h]
 ·
  obtain ⟨h0,h1⟩:=L.c4 e
  have hs0:s+1<nSt c:=by omega
  have hkf:kf (insP c b s (ks s))=0:=by unfold kf;rw [if_neg (by omega)]
  have hkg:kg (insP c b s (ks s))=0:=by unfold kg;rw [if_neg (by omega)]
  have hlt:=E.2.2.2.1 e
  have h2:¬ (K1 c b s (ks s)=4∨(K1 c b s (ks s)=5∧(s:Int)<(nSt c:Nat)-1)):=by
   rintro (h | h)
   ·have:=g11 h;omega
   ·have:=g12 h.1;omega
  have hrg:rg c b s (ks s)=G c b s (ks s):=by unfold rg rgOf;rw [if_neg h2]
  have hq:=Qjd (c:=c) (b:=b) ks (s:=s) hs0
  have hok:=Qnu A V (s:=s) hs0
  have hitems:(bQ c b ks s).2=(((rg c b s (ks s):Nat):Int),doS c b (s+1) (rg c b s (ks s)))::(List.range' (rg c b s (ks s)+1) (sg c b (s+1) (ks (s+1))-(rg c b s (ks s)+1))).map (fun j:Nat=>((j:Int),doS c b (s+1) j)):=by
   unfold bQ
   simp only
   rw [show sg c b (s+1) (ks (s+1))-rg c b s (ks s)=(sg c b (s+1) (ks (s+1))-(rg c b s (ks s)+1))+1 by omega,List.range'_succ,List.map_cons]
  have hpop:Zv (bQ c b ks s)=((J0 c s,(List.range' (rg c b s (ks s)+1) (sg c b (s+1) (ks (s+1))-(rg c b s (ks s)+1))).map (fun j:Nat=>((j:Int),doS c b (s+1) j))),(((rg c b s (ks s):Nat):Int),doS c b (s+1) (rg c b s (ks s))),true):=by
   unfold Zv
   rw [hok,hitems]
   simp [QbE]
   rfl
  simp only [e,hq,hpop]
  simp
  refine fin (_,Qy (Q8 c b ks),(Qz (Q8 c b ks)).set _ _) ?_ (keepA (by omega) (by omega)) ?_
  ·rw [hstAt 4 e,hkf,hkg,hrg]
   exact QMl A (fun h=>by have:=g9 h;omega) (fun h=>by have:=g10 h.1 (by omega);omega) (fun h=>by have:=g12 h;omega) (fun h=>by have:=g13 h.1 (by omega);omega)
  ·refine Qfr _ _ _ _ _ (fun h=>?_) (fun j hj hne=>?_)
   ·unfold bQ
    rw [YK,ZG _ (by omega),c3 hs0,if_pos e]
   ·unfold bQ
    by_cases h:j+1=s
    ·subst h;rw [YK,ZG _ (by omega),c4 (by omega),if_neg (by omega)];simp only [Nat.add_zero]
    ·rw [ZG _ hne,ZG _ h]
 ·
  obtain ⟨h0,h1,h2,h3⟩:=L.c5 e
  have hkf:kf (insP c b s (ks s))=0:=by unfold kf;rw [if_neg (by omega)]
  have hkg:kg (insP c b s (ks s))=0:=by unfold kg;rw [if_neg (by omega)]
  simp only [e]
  simp
  refine fin (_,_,_) ?_ (keepA (by omega) (by omega)) (keepB (by omega) (by omega))
  rw [hstAt 5 e,hkf,hkg,h1]
  exact QZr A hs (V.le s hs) H h0 h2 (fun h=>by have:=g9 h;omega) (fun h=>by have:=g10 h.1 (by omega);omega) ⟨fun h=>by have:=L.c18 h;omega,fun h=>h3 (by omega)⟩ (fun h=>by have:=g12 h;omega) (fun h=>by have:=g13 h.1 (by omega);omega)
 ·
  obtain ⟨h1,h2,h3,h4⟩:=L.c6 e
  have hkf:kf (insP c b s (ks s))=0:=by unfold kf;rw [if_neg (by omega)]
  have hkg:kg (insP c b s (ks s))=1:=by unfold kg;rw [if_pos e]
  have e2:(insP c b s (ks s)).2.toNat=G c b s (ks s):=by omega
  simp only [e]
  simp
  refine fin (_,_,_) ?_ (keepA (by omega) (by omega)) (keepB (by omega) (by omega))
  rw [hstAt 6 e,hkf,hkg,e2,h1]
  exact QU0 A hs (V.le s hs) H h2 h3 (fun hr hn=>h4 hr (by omega)) (fun h=>by have:=g9 h;omega) (fun h=>by have:=g10 h.1 (by omega);omega) L.c14 (fun h=>by have:=L.c18 h;omega)
 ·
  obtain ⟨h0,h1,h2⟩:=L.c7 e
  have hs0:0<s:=by omega
  have hkf:kf (insP c b s (ks s))=0:=by unfold kf;rw [if_neg (by omega)]
  have hkg:kg (insP c b s (ks s))=0:=by unfold kg;rw [if_neg (by omega)]
  have hroom:=E.2.2.2.2.1 e
  have h15:=L.c15 h2
  have hsg:sg c b s (ks s)=G c b s (ks s)-1:=by unfold sg sgQ;rw [if_pos h2]
  have hq:=Qjd (c:=c) (b:=b) ks (s:=s-1) (by omega)
  have hok:=Qnu A V (s:=s-1) (by omega)
  have hqb:=V.qb (s-1) (by omega)
  rw [show s-1+1=s by omega] at hqb
  have hb5:=Qa5 A
  have hD:sD (stAt c b s (ks s))=doS c b s (G c b s (ks s)-1):=by
   show vD c b s _ _=_
   unfold vD;rw [if_pos ⟨h2,hs0⟩]
  have hv:=YW.1 (QfI A (s:=s) (j:=G c b s (ks s)-1) (by omega) (by omega))
  have hpush:Yw (bQ c b ks (s-1)) ((insP c b s (ks s)).2,sD (stAt c b s (ks s)))=((J0 c (s-1),(bQ c b ks (s-1)).2++[(((sg c b s (ks s):Nat):Int),doS c b s (sg c b s (ks s)))]),true):=by
   unfold Yw
   rw [hok,hD,h1,hsg]
   have hio:Yv (((G c b s (ks s):Nat):Int)-1,doS c b s (G c b s (ks s)-1))=true:=by
    simp only [Yv,Bool.and_eq_true,decide_eq_true_eq];exact ⟨⟨hv.1,by omega⟩,by omega⟩
   rw [hio]
   have hl:(((bQ c b ks (s-1)).2.length:Nat):Int)<(bQ c b ks (s-1)).1:=by
    simp only [bQ,List.length_map,List.length_range'];rw [show s-1+1=s by omega];omega
   rw [if_pos (by simp only [Bool.true_and,decide_eq_true_eq];exact hl),show ((G c b s (ks s):Nat):Int)-1=((G c b s (ks s)-1:Nat):Int) by omega]
   rfl
  simp only [e,hq,hpush]
  simp
  refine fin (_,Qy (Q8 c b ks),(Qz (Q8 c b ks)).set _ _) ?_ (keepA (by omega) (by omega)) ?_
  ·rw [hstAt 7 e,hkf,hkg]
   exact QMS A h2
  ·refine Qfr _ _ _ _ _ (fun h=>?_) (fun j hj hne=>?_)
   ·unfold bQ
    rw [show s-1+1=s by omega,YK,ZG _ (by omega),c4 hs0,if_pos e]
    rw [show sg c b s (ks s)+1-rg c b (s-1) (ks (s-1))=(sg c b s (ks s)-rg c b (s-1) (ks (s-1)))+1 by omega,List.range'_concat,List.map_append]
    simp only [List.map_cons,List.map_nil,Nat.one_mul]
    rw [show rg c b (s-1) (ks (s-1))+(sg c b s (ks s)-rg c b (s-1) (ks (s-1)))=sg c b s (ks s) by omega]
   ·unfold bQ
    by_cases h:j=s
    ·subst h;rw [YK,ZG _ (by omega),c3 (by omega),if_neg (by omega)];simp only [Nat.add_zero]
    ·rw [ZG _ h,ZG _ (by omega)]
 ·
  have hkf:kf (insP c b s (ks s))=0:=by unfold kf;rw [if_neg (by omega)]
  have hkg:kg (insP c b s (ks s))=0:=by unfold kg;rw [if_neg (by omega)]
  simp only [e]
  simp
  refine fin (_,_,_) ?_ (keepA (by omega) (by omega)) (keepB (by omega) (by omega))
  rw [hstAt 8 e,hkf,hkg]
  exact QHM A (fun h=>by have:=g9 h;omega) (fun h=>by have:=g10 h.1 (by omega);omega) (fun h=>by have:=g11 h;omega) (fun h=>by have:=g12 h;omega) (fun h=>by have:=g13 h.1 (by omega);omega)
theorem Qx8 {ks:Nat→Nat} (V:Ok c b ks) {s:Nat} (hs:s<nSt c) (E:¬ En c b ks s):Zy (Q8 c b ks) (s:Int)=Q8 c b ks:=by
 unfold Zy
 rw [if_neg (fun h=>E ((Qei A V hs).1 h))]
theorem QKl {ks:Nat→Nat} {s:Int} (hs:¬ (0≤s∧s<(nSt c:Nat))):Zy (Q8 c b ks) s=Q8 c b ks:=by
 have _:=A
 unfold Zy
 rw [if_neg]
 unfold Zu
 rw [Qcf]
 simp only [Bool.and_eq_true,QS]
 omega
theorem QSY {ks:Nat→Nat} (V:Ok c b ks) (s:Int):∃ ks',Ok c b ks'∧Zy (Q8 c b ks) s=Q8 c b ks'∧(∀ j,ks j≤ks' j)∧((∃ t:Nat,s=t∧t<nSt c∧En c b ks t∧ks'=bump ks t)∨ks'=ks):=by
 by_cases h:0≤s∧s<(nSt c:Nat)
 ·obtain ⟨t,rfl⟩:=Int.eq_ofNat_of_zero_le h.1
  by_cases E:En c b ks t
  ·refine ⟨bump ks t,Qml A V (by omega) E,Qz1 A V (by omega) E,fun j=>?_,.inl ⟨t,rfl,by omega,E,rfl⟩⟩
   unfold bump;split <;> omega
  ·exact ⟨ks,V,Qx8 A V (by omega) E,fun _=>Nat.le_refl _,.inr rfl⟩
 ·exact ⟨ks,V,QKl A h,fun _=>Nat.le_refl _,.inr rfl⟩
end
end Go.Proofs.YtjbdljkhbglnhaaGreat.Am
namespace Go.Proofs.YtjbdljkhbglnhaaGreat.Am
open Go Sz
def Qr7:Bool:=[1,2].all fun ds:Int=>[1,2,3,4].all fun n:Int=>[0,1,2,3].all fun s:Int=>[1,2,3,4,5].all fun M:Int=>[true,false].all fun rd =>
 decide (((Yr ds n s M rd).length:Int)≤7*M+1)
set_option maxRecDepth 100000 in
theorem QLG:Qr7=true:=by kernel_rfl
theorem QLI {ds n s M:Int} (rd:Bool) (h1:1≤ds) (h2:ds≤2) (h3:n≤4) (h4:0≤s) (h5:s<n) (h6:1≤M) (h7:M≤5):((Yr ds n s M rd).length:Int)≤7*M+1:=by
 have h:=QLG
 unfold Qr7 at h
 rw [List.all_eq_true] at h
 have h:=h ds (by have:ds=1∨ds=2:=(by omega);rcases this with rfl | rfl <;> simp)
 rw [List.all_eq_true] at h
 have h:=h n (by have:n=1∨n=2∨n=3∨n=4:=(by omega);rcases this with rfl | rfl | rfl | rfl <;> simp)
 rw [List.all_eq_true] at h
 have h:=h s (by have:s=0∨s=1∨s=2∨s=3:=(by omega);rcases this with rfl | rfl | rfl | rfl <;> simp)
 rw [List.all_eq_true] at h
 have h:=h M (by have:M=1∨M=2∨M=3∨M=4∨M=5:=(by omega);rcases this with rfl | rfl | rfl | rfl | rfl <;> simp)
 rw [List.all_eq_true] at h
 have h:=h rd (by cases rd <;> simp)
 simpa using h
theorem QxY {α β:Type} (d:α) (f:α→β) (l:List α):l.map f=(List.range l.length).map fun i=>f (gtd d l i):=by
 apply List.ext_getElem?
 intro i
 simp only [List.getElem?_map]
 by_cases h:i<l.length
 ·rw [List.getElem?_range h,Y3 h d];rfl
 ·rw [List.getElem?_eq_none (by omega),List.getElem?_eq_none (by simp;omega)];rfl
section
variable {c:QM} {b:List Qr} (A:Adm c b)
include A
theorem QoM:Zh c=(nSt c:Nat):=by
 have:=(Qfe (c:=c)).2.2.2 A.cuts
 rw [this];simp [nSt]
theorem QQ8 {s:Nat} (hs:s<nSt c):1≤lenP c b s:=by
 have h:=(QqB A hs).2.2
 apply Classical.byContradiction
 intro hn
 rw [show lenP c b s=0 by omega] at h
 simp [K1,Y9] at h
theorem QCC {s:Nat} (hs:s<nSt c):lenP c b s≤7*b.length+1:=by
 have h1:=Qb6 A
 have h2:=Qa5 A
 have:=QLI (ds:=cDs c) (n:=(nSt c:Nat)) (s:=(s:Nat)) (M:=b.length) (YU c s) A.ds.1 A.ds.2 (by omega) (by omega) (by omega) (by omega) (by omega)
 unfold lenP YS;omega
omit A in
theorem QqZ (n micro:Int):∀ k:Nat,QaA c n micro k=(List.range k).map fun s:Nat =>
  QaI (slice (Yc c) (QW (Yc c) (ZH c) s).1 (QW (Yc c) (ZH c) s).2) (Yr (cDs c) n s micro (gtd false (Qau c) s)) (decide ((s:Int)=n-1)) (gtd false (Qau c) s)
 | 0=>rfl
 | k+1=>by rw [QaA,QqZ n micro k,List.range_succ,List.map_append];rfl
theorem QYo:YJ c b=Q8 c b (fun _=>0):=by
 unfold YJ
 rw [if_pos (QGu A),QoM A,QqZ,Int.toNat_natCast]
 refine Prod.ext rfl (Prod.ext ?_ (Prod.ext ?_ ?_))
 ·refine QdK fun s hs=>?_
  have hm:=(QfY A hs).1
  have e:slice (Yc c) (QW (Yc c) (ZH c) (s:Int)).1 (QW (Yc c) (ZH c) (s:Int)).2=opS c s:=QQk A.cuts (by simp only [nSt] at hs;omega)
  rw [e]
  unfold QaI
  rw [if_pos hm]
  have e2:decide ((s:Int)=((nSt c:Nat):Int)-1)=Zq c s:=by
   simp only [Zq];rw [Bool.eq_iff_iff];simp only [decide_eq_true_eq];omega
  rw [e2]
  simp [stAt,st,F,G,K1,cf,cg,Y9,YF,J1,vX,vY,vG,vD,Qal,Jh,satV,YS,YU]
 ·have e:=QiF A
  show (Qad c).map (fun n=>((n,[]):Qd))=_
  rw [QxY (0:Int),e]
  refine QdK fun s hs=>?_
  simp [aQ,rc,sc,F,K1,cf,Y9,rcOf,scOf]
 ·have e:=QiF A
  show (Qad c).map (fun n=>((n,[]):Qd))=_
  rw [QxY (0:Int),e]
  refine QdK fun s hs=>?_
  simp [bQ,rg,sg,G,K1,cg,Y9,rgOf,sgQ]
theorem QYZ:Ok c b (fun _=>0):=by
 refine ⟨fun s hs=>Nat.zero_le _,fun s hs=>?_,fun s hs=>?_,fun h=>?_⟩
 ·have:=QdZ A hs
  simp [rc,sc,F,K1,cf,Y9,rcOf,scOf];omega
 ·have:=QdZ A hs
  simp [rg,sg,G,K1,cg,Y9,rgOf,sgQ];omega
 ·obtain ⟨s,hs,e⟩:=h
  have:=QQ8 A hs
  omega
def left (c:QM) (b:List Qr) (ks:Nat→Nat):Nat:=((List.range (nSt c)).map fun s=>lenP c b s-ks s).sum
omit A in
theorem Qoj {n:Nat} {f g:Nat→Nat} (h:∀ j,j<n→f j≤g j):((List.range n).map f).sum≤((List.range n).map g).sum:=by
 induction n with
 | zero=>simp
 | succ n ih =>
  rw [List.range_succ,List.map_append,List.map_append,List.sum_append,List.sum_append]
  have:=ih (fun j hj=>h j (by omega))
  have:=h n (by omega)
  simp;omega
omit A in
theorem QPd {n:Nat} {f g:Nat→Nat} {k:Nat} (hk:k<n) (h:∀ j,j<n→f j≤g j) (hlt:f k+1≤g k):((List.range n).map f).sum+1≤((List.range n).map g).sum:=by
 induction n with
 | zero=>omega
 | succ n ih =>
  rw [List.range_succ,List.map_append,List.map_append,List.sum_append,List.sum_append]
  by_cases e:k=n
  ·subst e
   have:=Qoj (n:=k) (f:=f) (g:=g) (fun j hj=>h j (by omega))
   simp;omega
  ·have:=ih (by omega) (fun j hj=>h j (by omega))
   have:=h n (by omega)
   simp;omega
omit A in
theorem QM9 {ks ks':Nat→Nat} (h:∀ j,ks j≤ks' j):left c b ks'≤left c b ks:=Qoj fun j hj=>by have:=h j;omega
omit A in
theorem QSv {n:Nat} {f g:Nat→Nat} {k:Nat} (hk:k<n) (h:∀ j,j<n→j≠k→f j=g j) (he:f k+1=g k):((List.range n).map f).sum+1=((List.range n).map g).sum:=by
 induction n with
 | zero=>omega
 | succ n ih =>
  rw [List.range_succ,List.map_append,List.map_append,List.sum_append,List.sum_append]
  by_cases e:k=n
  ·subst e
   have:(List.range k).map f=(List.range k).map g:=QdK fun j hj=>h j (by omega) (by omega)
   rw [this];simp;omega
  ·have:=ih (by omega) (fun j hj=>h j (by omega))
   have:=h n (by omega) (by omega)
   simp;omega
omit A in
theorem QVp {ks:Nat→Nat} {s:Nat} (hs:s<nSt c) (hk:ks s<lenP c b s):left c b (bump ks s)+1=left c b ks :=
 QSv hs (fun j hj hne=>by rw [ZG _ hne]) (by rw [YK];omega)
omit A in
theorem QwE {ks:Nat→Nat}:left c b ks=0↔∀ s,s<nSt c→lenP c b s≤ks s:=by
 unfold left
 constructor
 ·intro h s hs
  apply Classical.byContradiction
  intro hn
  have:=QPd (n:=nSt c) (f:=fun _=>0) (g:=fun s=>lenP c b s-ks s) hs (fun j hj=>Nat.zero_le _) (by omega)
  omega
 ·intro h
  have:=Qoj (n:=nSt c) (f:=fun s=>lenP c b s-ks s) (g:=fun _=>0) (fun j hj=>by have:=h j hj;omega)
  have e:((List.range (nSt c)).map fun _=>0).sum=0:=by
   generalize nSt c=n
   induction n with
   | zero=>rfl
   | succ n ih=>rw [List.range_succ,List.map_append,List.sum_append,ih];rfl
  omega
theorem QUZ {ks:Nat→Nat}:left c b ks≤nSt c*(7*b.length+1):=by
 unfold left
 have:∀ n,n≤nSt c→((List.range n).map fun s=>lenP c b s-ks s).sum≤n*(7*b.length+1):=by
  intro n hn
  induction n with
  | zero=>simp
  | succ n ih =>
   rw [List.range_succ,List.map_append,List.sum_append,Nat.add_mul]
   have:=ih (by omega)
   have:=QCC A (s:=n) (by omega)
   simp;omega
 exact this _ (Nat.le_refl _)
theorem Qv7 {ks:Nat→Nat}:left c b ks≤144:=by
 have h1:=QUZ A (ks:=ks)
 have h2:=Qb6 A
 have h3:=Qa5 A
 have:nSt c*(7*b.length+1)≤4*36:=Nat.mul_le_mul (by omega) (by omega)
 omega
theorem QnN {ks:Nat→Nat} (V:Ok c b ks):ZW (Q8 c b ks)=(left c b ks:Nat):=by
 unfold ZW
 have e:((QH (Q8 c b ks)).map Jz).sum=((left c b ks:Nat):Int):=by
  unfold left
  show (((List.range (nSt c)).map (fun s=>stAt c b s (ks s))).map Jz).sum=_
  rw [List.map_map]
  have:∀ n,n≤nSt c→((List.range n).map (Jz ∘ fun s=>stAt c b s (ks s))).sum=((((List.range n).map fun s=>lenP c b s-ks s).sum:Nat):Int):=by
   intro n hn
   induction n with
   | zero=>rfl
   | succ n ih =>
    rw [List.range_succ,List.map_append,List.map_append,List.sum_append,List.sum_append,ih (by omega)]
    have hle:=V.le n (by omega)
    have e1:(stAt c b n (ks n)).1=((ks n:Nat):Int):=rfl
    have e2:(stAt c b n (ks n)).2.1.length=lenP c b n:=rfl
    simp only [List.map_cons,List.map_nil,List.sum_cons,List.sum_nil,Function.comp_apply,Jz,e1,e2]
    unfold iMin iMax
    repeat' split
    all_goals omega
  exact this _ (Nat.le_refl _)
 have:=Qv7 A (ks:=ks)
 have e':(List.map Jz (Q8 c b ks).2.1).sum=((left c b ks:Nat):Int):=e
 rw [e',Qt (by omega) (by omega)]
theorem QV0 {ks:Nat→Nat} (V:Ok c b ks):QcY (Q8 c b ks)=decide (left c b ks=0):=by
 unfold QcY
 rw [QnN A V]
 have:=Qb6 A
 have e:=Qcf (c:=c) (b:=b) ks
 show (decide (0<(QH (Q8 c b ks)).length)&&_)=_
 rw [e,Bool.eq_iff_iff]
 simp only [Bool.and_eq_true,decide_eq_true_eq,beq_iff_eq]
 omega
theorem QRb {ks:Nat→Nat} (V:Ok c b ks) (h:left c b ks≠0):∃ s,s<nSt c∧En c b ks s:=by
 refine QYW A V ?_
 apply Classical.byContradiction
 intro hn
 refine h (QwE.2 fun s hs=>?_)
 apply Classical.byContradiction
 intro hk
 exact hn ⟨s,hs,by omega⟩
theorem Qrl:∀ (l:List Int) {ks:Nat→Nat},Ok c b ks→∃ ks',Ok c b ks'∧Qcn l (Q8 c b ks)=Q8 c b ks'∧∀ j,ks j≤ks' j
 | [],ks,V=>⟨ks,V,rfl,fun _=>Nat.le_refl _⟩
 | s::l,ks,V=>by
  obtain ⟨k1,V1,e1,h1,_⟩:=QSY A V s
  obtain ⟨k2,V2,e2,h2⟩:=Qrl l V1
  exact ⟨k2,V2,by rw [Qcn,e1,e2],fun j=>Nat.le_trans (h1 j) (h2 j)⟩
end
end Go.Proofs.YtjbdljkhbglnhaaGreat.Am
namespace Go.Proofs.YtjbdljkhbglnhaaGreat.Am
open Go Sz
section
variable {c:QM} {b:List Qr} (A:Adm c b)
include A
end
end Go.Proofs.YtjbdljkhbglnhaaGreat.Am

