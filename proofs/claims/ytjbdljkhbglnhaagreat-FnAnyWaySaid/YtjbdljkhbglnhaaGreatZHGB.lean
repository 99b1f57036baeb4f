/- -/
import Derived.Test.YtjbdljkhbglnhaaGreatZHGA
set_option linter.all false
namespace Go.Proofs.YtjbdljkhbglnhaaGreat.Am
open Go Sz
theorem Qnv {α:Type} (d:α) (n:Nat) (f:Nat→α) {k:Nat} (hk:k<n):gtd d ((List.range n).map f) k=f k :=
 Qb9 (by rw [List.getElem?_map,List.getElem?_range hk];rfl) d
theorem QfI {α:Type} (n:Nat) (f g:Nat→α) (k:Nat) (v:α) (hv:k<n→v=g k) (h:∀ j,j<n→j≠k→f j=g j):((List.range n).map f).set k v=(List.range n).map g:=by
 apply List.ext_getElem?
 intro i
 rw [List.getElem?_set]
 simp only [List.length_map,List.length_range,List.getElem?_map]
 by_cases hi:i<n
 ·rw [List.getElem?_range hi]
  by_cases hk:k=i
  ·subst hk
   rw [if_pos rfl,if_pos hi,hv hi];rfl
  ·rw [if_neg hk]
   simp only [Option.map_some]
   rw [h i hi (fun e=>hk e.symm)]
 ·rw [List.getElem?_eq_none (by simp;omega)]
  split
  ·rename_i e;rw [if_neg (by omega)];rfl
  ·rfl
theorem QaA {α:Type} {n:Nat} {f g:Nat→α} (h:∀ j,j<n→f j=g j):(List.range n).map f=(List.range n).map g :=
 List.map_congr_left (fun j hj=>h j (List.mem_range.1 hj))
def bump (ks:Nat→Nat) (s:Nat):Nat→Nat:=fun j=>if j=s then ks j+1 else ks j
theorem Yz (ks:Nat→Nat) (s:Nat):bump ks s s=ks s+1:=by simp [bump]
theorem Zv (ks:Nat→Nat) {s j:Nat} (h:j≠s):bump ks s j=ks j:=by simp [bump,h]
section
variable {c:Ql} {b:List Qd} (A:Adm c b)
include A
omit A in
theorem Qp3 (ks:Nat→Nat) {s:Nat} (hs:s<nSt c):gtd QQ (QE (Q6 c b ks)) s=stAt c b s (ks s):=Qnv _ _ _ hs
omit A in
theorem QhN (ks:Nat→Nat) {s:Nat} (hs:s+1<nSt c):gtd QW (Qz (Q6 c b ks)) s=aQ c b ks s:=Qnv _ _ _ (by omega)
omit A in
theorem Qis (ks:Nat→Nat) {s:Nat} (hs:s+1<nSt c):gtd QW (QA (Q6 c b ks)) s=bQ c b ks s:=Qnv _ _ _ (by omega)
omit A in
theorem QcG (ks:Nat→Nat):(QE (Q6 c b ks)).length=nSt c:=by
 show ((List.range (nSt c)).map _).length=_
 simp
theorem Qq4 {s k:Nat} (hs:s<nSt c) (hk:k≤lenP c b s):sc c b s k≤b.length∧rc c b s k≤b.length∧rg c b s k≤b.length∧sg c b s k≤b.length:=by
 have H:=nums A hs hk
 have h1:=H.gf;have h2:=H.fM;have h3:=H.k1;have h4:=H.k45
 unfold sc rc rg sg scOf rcOf rgOf sgQ
 refine ⟨?_,?_,?_,?_⟩
 ·split <;> omega
 ·split
  ·rename_i h;have:=h3 h;omega
  ·omega
 ·split
  ·rename_i h;have:=h4 (h.imp id (fun h=>h.1));omega
  ·omega
 ·split <;> omega
theorem Qmr {ks:Nat→Nat} (V:Ok c b ks) {s:Nat} (hs:s+1<nSt c):Zx (aQ c b ks s)=true:=by
 have hc:=QbN A hs
 have hq:=V.qa s hs
 have hb:=Qba A
 have hl:=(Qq4 A (s:=s) (by omega) (V.le s (by omega))).1
 unfold Zx aQ
 simp only [Bool.and_eq_true,decide_eq_true_eq,List.length_map,List.length_range',List.all_eq_true]
 refine ⟨⟨⟨hc.1,hc.2⟩,by omega⟩,fun x hx=>?_⟩
 obtain ⟨j,hj,rfl⟩:=List.mem_map.1 hx
 rw [List.mem_range'_1] at hj
 have:=YA.1 (Qfy A (s:=s+1) (j:=j) (by omega) (by omega))
 simp only [YY,Bool.and_eq_true,decide_eq_true_eq]
 exact ⟨⟨this.1,by omega⟩,by omega⟩
theorem QjW {ks:Nat→Nat} (V:Ok c b ks) {s:Nat} (hs:s+1<nSt c):Zx (bQ c b ks s)=true:=by
 have hc:=QbN A hs
 have hq:=V.qb s hs
 have hb:=Qba A
 have hl:=(Qq4 A (s:=s+1) (by omega) (V.le (s+1) (by omega))).2.2.2
 unfold Zx bQ
 simp only [Bool.and_eq_true,decide_eq_true_eq,List.length_map,List.length_range',List.all_eq_true]
 refine ⟨⟨⟨hc.1,hc.2⟩,by omega⟩,fun x hx=>?_⟩
 obtain ⟨j,hj,rfl⟩:=List.mem_map.1 hx
 rw [List.mem_range'_1] at hj
 have:=YA.1 (QeU A (s:=s+1) (j:=j) (by omega) (by omega))
 simp only [YY,Bool.and_eq_true,decide_eq_true_eq]
 exact ⟨⟨this.1,by omega⟩,by omega⟩
theorem Qyo {ks:Nat→Nat} (V:Ok c b ks):∀ (n s:Nat),s+n=nSt c→QaH b.length ((List.range' s n).map fun s=>stAt c b s (ks s))=true
 | 0,s,h=>rfl
 | n+1,s,h=>by
  have hs:s<nSt c:=by omega
  have ih:=Qyo V n (s+1) (by omega)
  rw [List.range'_succ,List.map_cons,QaH,ih]
  have h1:Zc (stAt c b s (ks s))=true:=Qhb A hs (V.le s hs) (nums A hs (V.le s hs))
  have h2:(((stAt c b s (ks s)).2.2.2.1:Bool)==decide (((List.range' (s+1) n).map fun s=>stAt c b s (ks s)).length=0))=true:=by
   simp only [stAt,st,Q4,List.length_map,List.length_range',beq_iff_eq]
   rw [Bool.eq_iff_iff];simp only [decide_eq_true_eq];omega
  have h3:(stAt c b s (ks s)).2.1.all (fun x=>m_in x.2 0 ((b.length:Int)-1))=true:=by
   rw [QF6 dIns]
   intro k hk
   have L:=(loc A hs (k:=k) hk).c0
   rw [QJ]
   have e:gtd dIns (stAt c b s (ks s)).2.1 k=insP c b s k:=rfl
   rw [e];omega
  rw [h1,h2,h3];rfl
theorem Qxf {ks:Nat→Nat} (V:Ok c b ks):ZZ (Q6 c b ks)=true:=by
 have hn:=QaN A
 have hb:=Qba A
 have hg:=Qyo A V (nSt c) 0 (by omega)
 rw [← List.range_eq_range'] at hg
 have ha:(Qz (Q6 c b ks)).all Zx=true:=by
  rw [List.all_eq_true]
  intro q hq
  obtain ⟨j,hj,rfl⟩:=List.mem_map.1 hq
  exact Qmr A V (by have:=List.mem_range.1 hj;omega)
 have hbk:(QA (Q6 c b ks)).all Zx=true:=by
  rw [List.all_eq_true]
  intro q hq
  obtain ⟨j,hj,rfl⟩:=List.mem_map.1 hq
  exact QjW A V (by have:=List.mem_range.1 hj;omega)
 have hpv:(QN (Q6 c b ks)).all QcQ=true:=by
  rw [List.all_eq_true]
  intro x hx
  have:=A.batch
  simp only [ZC,Bool.and_eq_true,List.all_eq_true] at this
  have:=this.2 x hx
  simp only [Yn,Bool.and_eq_true] at this
  simp only [QcQ,Bool.and_eq_true]
  exact ⟨(YA.1 this.1.2).1,(YA.1 this.2).1⟩
 simp only [ZZ,Bool.and_eq_true,QJ,beq_iff_eq]
 refine ⟨⟨⟨⟨?_,?_⟩,?_⟩,?_⟩,⟨hpv,ha,hbk⟩,hg⟩
 ·rw [QcG];omega
 ·simp [Q6];omega
 ·simp [Q6];omega
 ·show (1:Int)≤(b.length:Int)∧(b.length:Int)≤5;omega
theorem Qsd {ks:Nat→Nat} {s:Nat} (hs:s<nSt c) (hk:ks s≤lenP c b s):Qt (Q6 c b ks) (s:Int)=if ks s<lenP c b s then insP c b s (ks s) else (0,0):=by
 have _:=A
 unfold Qt
 rw [if_pos (by rw [QJ,QcG];omega),Int.toNat_natCast,Qp3 ks hs]
 unfold Qee
 have e1:((stAt c b s (ks s)).1:Int)=(ks s:Nat):=rfl
 have e2:(stAt c b s (ks s)).2.1.length=lenP c b s:=rfl
 rw [e1,e2]
 by_cases h:ks s<lenP c b s
 ·rw [if_pos h,if_pos (by rw [QJ];omega),Int.toNat_natCast];rfl
 ·rw [if_neg h,if_neg (by rw [QJ];omega)]
theorem Qxu {ks:Nat→Nat} (V:Ok c b ks) {s:Nat} (hs:s<nSt c):YF (Q6 c b ks) (s:Int)=true↔En c b ks s:=by
 have hn:=QaN A
 unfold YF
 rw [Qxf A V,Qsd A hs (V.le s hs),Bool.true_and,Bool.and_eq_true,QJ,QcG]
 by_cases hk:ks s<lenP c b s
 rotate_left
 ·rw [if_neg hk]
  constructor
  ·intro h;exact absurd h.2 (by simp [QaQ])
  ·intro h;exact absurd h.1 hk
 rw [if_pos hk]
 have L:=loc A hs hk
 have hi:=L.c0
 have h1:=L.c1;have h3:=L.c3;have h4:=L.c4;have h7:=L.c7
 have hlen:((QE (Q6 c b ks)).length:Int)=(nSt c:Nat):=by rw [QcG]
 unfold En
 generalize insP c b s (ks s)=i at *
 have hcase:i.1=1∨i.1=2∨i.1=3∨i.1=4∨i.1=5∨i.1=6∨i.1=7∨i.1=8:=by omega
 unfold QaQ
 rw [hlen,Int.toNat_natCast]
 rcases hcase with e | e | e | e | e | e | e | e
 ·have h0:=h1 e
  have hq:=QhN (b:=b) ks (c:=c) (s:=s-1) (by omega)
  rw [hq]
  simp only [e,aQ,List.length_map,List.length_range',Bool.and_eq_true,decide_eq_true_eq]
  rw [show s-1+1=s by omega]
  simp;omega
 ·simp [e];omega
 ·have h0:=h3 e
  have hq:=QhN (b:=b) ks (c:=c) (s:=s) (by omega)
  have hqa:=V.qa s (by omega)
  rw [hq]
  simp only [e,aQ,Qbo,List.length_map,List.length_range',Bool.and_eq_true,decide_eq_true_eq]
  simp;omega
 ·have h0:=h4 e
  have hq:=Qis (b:=b) ks (c:=c) (s:=s) (by omega)
  rw [hq]
  simp only [e,bQ,List.length_map,List.length_range',Bool.and_eq_true,decide_eq_true_eq]
  simp;omega
 ·simp [e];omega
 ·simp [e];omega
 ·have h0:=h7 e
  have hq:=Qis (b:=b) ks (c:=c) (s:=s-1) (by omega)
  have hqb:=V.qb (s-1) (by omega)
  rw [hq]
  rw [show s-1+1=s by omega] at hqb
  simp only [e,bQ,Qbo,List.length_map,List.length_range',Bool.and_eq_true,decide_eq_true_eq]
  rw [show s-1+1=s by omega]
  simp;omega
 ·have:Qe5 (Q6 c b ks)=true↔∀ j,j<nSt c→lenP c b j≤ks j+1:=by
   unfold Qe5
   rw [List.all_eq_true]
   constructor
   ·intro h j hj
    have:=h (stAt c b j (ks j)) (List.mem_map.2 ⟨j,List.mem_range.2 hj,rfl⟩)
    simp only [Qbh,decide_eq_true_eq] at this
    have e1:((stAt c b j (ks j)).1:Int)=(ks j:Nat):=rfl
    have e2:(stAt c b j (ks j)).2.1.length=lenP c b j:=rfl
    rw [e1,e2] at this;omega
   ·intro h x hx
    obtain ⟨j,hj,rfl⟩:=List.mem_map.1 hx
    have:=h j (List.mem_range.1 hj)
    simp only [Qbh,decide_eq_true_eq]
    have e1:((stAt c b j (ks j)).1:Int)=(ks j:Nat):=rfl
    have e2:(stAt c b j (ks j)).2.1.length=lenP c b j:=rfl
    rw [e1,e2];omega
  simp only [e]
  simp [this];omega
theorem QzO {ks:Nat→Nat} (V:Ok c b ks) {s:Nat} (hs:s<nSt c) (E:En c b ks s):Ok c b (bump ks s):=by
 obtain ⟨hk,e1,e3,e4,e7,e8⟩:=E
 obtain ⟨c1,c2,c3,c4⟩:=Qzl A hs hk
 have L:=loc A hs hk
 refine ⟨fun j hj=>?_,fun j hj=>?_,fun j hj=>?_,fun h=>?_⟩
 ·by_cases h:j=s
  ·subst h;rw [Yz];omega
  ·rw [Zv _ h];exact V.le j hj
 ·have hq:=V.qa j hj
  by_cases h:j=s
  ·subst h
   rw [Yz,Zv _ (by omega),c1 hj]
   split
   ·rename_i h;have:=e3 h;omega
   ·omega
  ·by_cases h2:j+1=s
   ·subst h2
    rw [Yz,Zv _ h,c2 (by omega)]
    split
    ·rename_i h;have:=e1 h;simp only [Nat.add_sub_cancel] at this;omega
    ·omega
   ·rw [Zv _ h,Zv _ h2];exact hq
 ·have hq:=V.qb j hj
  by_cases h:j=s
  ·subst h
   rw [Yz,Zv _ (by omega),c3 hj]
   split
   ·rename_i h;have:=e4 h;omega
   ·omega
  ·by_cases h2:j+1=s
   ·subst h2
    rw [Yz,Zv _ h,c4 (by omega)]
    split
    ·rename_i h;have:=e7 h;simp only [Nat.add_sub_cancel] at this;omega
    ·omega
   ·rw [Zv _ h,Zv _ h2];exact hq
 ·by_cases h8:(insP c b s (ks s)).1=8
  ·intro j hj
   have:=e8 h8 j hj
   by_cases h2:j=s
   ·subst h2;rw [Yz];omega
   ·rw [Zv _ h2];exact this
  ·exfalso
   have hl:¬ ks s+1=lenP c b s:=fun e=>h8 (L.c0.2.2.2.2.2.2.1.2 (by simpa using e))
   obtain ⟨j,hj,hje⟩:=h
   by_cases h2:j=s
   ·subst h2;rw [Yz] at hje;exact hl hje
   ·rw [Zv _ h2] at hje
    have:=V.fl ⟨j,hj,hje⟩ s hs
    omega
theorem QD3 {ks:Nat→Nat} (V:Ok c b ks) {s:Nat} (hs:s<nSt c) (E:En c b ks s):Yg (Q6 c b ks) (s:Int)=Q6 c b (bump ks s):=by
 have hen:=(Qxu A V hs).2 E
 have V':=QzO A V hs E
 have hk:=E.1
 have hnx:=Qsd A hs (V.le s hs)
 rw [if_pos hk] at hnx
 unfold Yg
 rw [if_pos hen]
 simp only
 rw [hnx,Int.toNat_natCast,Qp3 ks hs]
 obtain ⟨c1,c2,c3,c4⟩:=Qzl A hs hk
 obtain ⟨f1,f2,f3⟩:=QuJ (c:=c) (b:=b) hk
 have L:=loc A hs hk
 have H:=nums A hs (V.le s hs)
 have hi:=L.c0
 have hpc:sPc (stAt c b s (ks s))+1=((ks s:Nat):Int)+1:=rfl
 rw [hpc]
 have fin:∀ (y:Qc × List Qm × List Qm),Yq y.1 (((ks s:Nat):Int)+1)=stAt c b s (ks s+1) →
   y.2.1=(List.range (nSt c-1)).map (aQ c b (bump ks s))→y.2.2=(List.range (nSt c-1)).map (bQ c b (bump ks s)) →
   ((QN (Q6 c b ks),(QE (Q6 c b ks)).set s (Yq y.1 (((ks s:Nat):Int)+1)),y.2.1,y.2.2):Qr)=Q6 c b (bump ks s):=by
  intro y h1 h2 h3
  rw [h1,h2,h3]
  refine Prod.ext rfl (Prod.ext ?_ rfl)
  exact QfI _ _ _ _ _ (fun _=>by rw [Yz]) (fun j hj hne=>by rw [Zv _ hne])
 have keepA:((insP c b s (ks s)).1≠1)→((insP c b s (ks s)).1≠3)→Qz (Q6 c b ks)=(List.range (nSt c-1)).map (aQ c b (bump ks s)):=by
  intro h1 h3
  refine QaA fun j hj=>?_
  unfold aQ
  by_cases h:j=s
  ·subst h;rw [Yz,Zv _ (by omega),c1 (by omega),if_neg h3];simp only [Nat.add_zero]
  ·by_cases h2:j+1=s
   ·subst h2;rw [Yz,Zv _ h,c2 (by omega),if_neg h1];simp only [Nat.add_zero]
   ·rw [Zv _ h,Zv _ h2]
 have keepB:((insP c b s (ks s)).1≠4)→((insP c b s (ks s)).1≠7)→QA (Q6 c b ks)=(List.range (nSt c-1)).map (bQ c b (bump ks s)):=by
  intro h1 h3
  refine QaA fun j hj=>?_
  unfold bQ
  by_cases h:j=s
  ·subst h;rw [Yz,Zv _ (by omega),c3 (by omega),if_neg h1];simp only [Nat.add_zero]
  ·by_cases h2:j+1=s
   ·subst h2;rw [Yz,Zv _ h,c4 (by omega),if_neg h3];simp only [Nat.add_zero]
   ·rw [Zv _ h,Zv _ h2]
 have hp:∀ j,gtd Zn (QN (Q6 c b ks)) j=prAt b j:=fun j=>rfl
 have hstAt:∀ k1,(insP c b s (ks s)).1=k1→stAt c b s (ks s+1)=st c b s (ks s+1) (F c b s (ks s)+kf (insP c b s (ks s))) (G c b s (ks s)+kg (insP c b s (ks s))) k1:=by
  intro k1 h;unfold stAt;rw [f1,f2,f3,h]
 have hcase:(insP c b s (ks s)).1=1∨(insP c b s (ks s)).1=2∨(insP c b s (ks s)).1=3∨(insP c b s (ks s)).1=4∨(insP c b s (ks s)).1=5∨(insP c b s (ks s)).1=6∨(insP c b s (ks s)).1=7∨(insP c b s (ks s)).1=8:=by omega
 have g9:=L.c9;have g10:=L.c10;have g11:=L.c11;have g12:=L.c12;have g13:=L.c13
 unfold Z6
 simp only [hp]
 rcases hcase with e | e | e | e | e | e | e | e
 ·
  obtain ⟨h0,h1,h2⟩:=L.c1 e
  have hs0:0<s:=by omega
  have hkf:kf (insP c b s (ks s))=0:=by unfold kf;rw [if_neg (by omega)]
  have hkg:kg (insP c b s (ks s))=0:=by unfold kg;rw [if_neg (by omega)]
  have hlt:=E.2.1 e
  have hrc:rc c b s (ks s)=F c b s (ks s):=by unfold rc rcOf;rw [if_neg h2]
  have hq:=QhN (c:=c) (b:=b) ks (s:=s-1) (by omega)
  have hok:=Qmr A V (s:=s-1) (by omega)
  have hitems:(aQ c b ks (s-1)).2=(((rc c b s (ks s):Nat):Int),inS c b s (rc c b s (ks s)))::(List.range' (rc c b s (ks s)+1) (sc c b (s-1) (ks (s-1))-(rc c b s (ks s)+1))).map (fun j:Nat=>((j:Int),inS c b s j)):=by
   unfold aQ
   simp only
   rw [show s-1+1=s by omega,show sc c b (s-1) (ks (s-1))-rc c b s (ks s)=(sc c b (s-1) (ks (s-1))-(rc c b s (ks s)+1))+1 by omega,List.range'_succ,List.map_cons]
  have hpop:ZH (aQ c b ks (s-1))=((JV c (s-1),(List.range' (rc c b s (ks s)+1) (sc c b (s-1) (ks (s-1))-(rc c b s (ks s)+1))).map (fun j:Nat=>((j:Int),inS c b s j))),(((rc c b s (ks s):Nat):Int),inS c b s (rc c b s (ks s))),true):=by
   unfold ZH
   rw [hok,hitems]
   simp [Qbg]
   rfl
  simp only [e,if_true,hq,hpop]
  refine fin (_,_,_) ?_ ?_ (keepB (by omega) (by omega))
  ·rw [hstAt 1 e,hkf,hkg,hrc]
   exact QKW A (fun h=>by have:=g10 h.1 (by omega);omega) (fun h=>by have:=g11 h;omega) (fun h=>by have:=g12 h;omega) (fun h=>by have:=g13 h.1 (by omega);omega)
  ·refine QfI _ _ _ _ _ (fun h=>?_) (fun j hj hne=>?_)
   ·unfold aQ
    rw [show s-1+1=s by omega,Yz,Zv _ (by omega),c2 hs0,if_pos e]
   ·unfold aQ
    by_cases h:j=s
    ·subst h;rw [Yz,Zv _ (by omega),c1 (by omega),if_neg (by omega)];simp only [Nat.add_zero]
    ·rw [Zv _ h,Zv _ (by omega)]
 ·
  obtain ⟨h1,h2⟩:=L.c2 e
  have hkf:kf (insP c b s (ks s))=1:=by unfold kf;rw [if_pos e]
  have hkg:kg (insP c b s (ks s))=0:=by unfold kg;rw [if_neg (by omega)]
  have hf:F c b s (ks s)<b.length:=by omega
  have e2:(insP c b s (ks s)).2.toNat=F c b s (ks s):=by omega
  simp only [e]
  simp
  refine fin (_,_,_) ?_ (keepA (by omega) (by omega)) (keepB (by omega) (by omega))
  rw [hstAt 2 e,hkf,hkg,e2,h1]
  exact QNA A hs (V.le s hs) H hf (fun h=>h2 (by omega)) (fun h=>by have:=g10 h.1 (by omega);omega) (fun h=>by have:=g11 h;omega) (fun h=>by have:=g12 h;omega) (fun h=>by have:=g13 h.1 (by omega);omega)
 ·
  obtain ⟨h0,h1,h2⟩:=L.c3 e
  have hs0:s+1<nSt c:=by omega
  have hkf:kf (insP c b s (ks s))=0:=by unfold kf;rw [if_neg (by omega)]
  have hkg:kg (insP c b s (ks s))=0:=by unfold kg;rw [if_neg (by omega)]
  have hroom:=E.2.2.1 e
  have h16:=L.c16 h2
  have hsc:sc c b s (ks s)=F c b s (ks s)-1:=by unfold sc scOf;rw [if_pos h2]
  have hq:=QhN (c:=c) (b:=b) ks (s:=s) hs0
  have hok:=Qmr A V (s:=s) hs0
  have hqa:=V.qa s hs0
  have hb5:=Qba A
  have hY:sY (stAt c b s (ks s))=inS c b (s+1) (F c b s (ks s)-1):=by
   show vY c b s _ _=_
   unfold vY;rw [if_pos ⟨h2,hs0⟩]
  have hv:=YA.1 (Qfy A (s:=s+1) (j:=F c b s (ks s)-1) (by omega) (by omega))
  have hpush:Y2 (aQ c b ks s) ((insP c b s (ks s)).2,sY (stAt c b s (ks s)))=((JV c s,(aQ c b ks s).2++[(((sc c b s (ks s):Nat):Int),inS c b (s+1) (sc c b s (ks s)))]),true):=by
   unfold Y2
   rw [hok,hY,h1,hsc]
   have hio:YY (((F c b s (ks s):Nat):Int)-1,inS c b (s+1) (F c b s (ks s)-1))=true:=by
    simp only [YY,Bool.and_eq_true,decide_eq_true_eq];exact ⟨⟨hv.1,by omega⟩,by omega⟩
   rw [hio]
   have hl:(((aQ c b ks s).2.length:Nat):Int)<(aQ c b ks s).1:=by simp only [aQ,List.length_map,List.length_range'];omega
   rw [if_pos (by simp only [Bool.true_and,decide_eq_true_eq];exact hl),show ((F c b s (ks s):Nat):Int)-1=((F c b s (ks s)-1:Nat):Int) by omega]
   rfl
  simp only [e,hq,hpush]
  simp
  refine fin (_,_,_) ?_ ?_ (keepB (by omega) (by omega))
  ·rw [hstAt 3 e,hkf,hkg]
   exact QKx A h2
  ·refine QfI _ _ _ _ _ (fun h=>?_) (fun j hj hne=>?_)
   ·unfold aQ
    rw [Yz,Zv _ (by omega),c1 hs0,if_pos e]
    rw [show sc c b s (ks s)+1-rc c b (s+1) (ks (s+1))=(sc c b s (ks s)-rc c b (s+1) (ks (s+1)))+1 by omega,List.range'_concat,List.map_append]
    simp only [List.map_cons,List.map_nil,Nat.one_mul]
    rw [show rc c b (s+1) (ks (s+1))+(sc c b s (ks s)-rc c b (s+1) (ks (s+1)))=sc c b s (ks s) by omega]
   ·unfold aQ
    by_cases h:j+1=s
    ·subst h;rw [Yz,Zv _ (by omega),c2 (by omega),if_neg (by omega)];simp only [Nat.add_zero]
    ·rw [Zv _ hne,Zv _ h]
 ·
  obtain ⟨h0,h1⟩:=L.c4 e
  have hs0:s+1<nSt c:=by omega
  have hkf:kf (insP c b s (ks s))=0:=by unfold kf;rw [if_neg (by omega)]
  have hkg:kg (insP c b s (ks s))=0:=by unfold kg;rw [if_neg (by omega)]
  have hlt:=E.2.2.2.1 e
  have h2:¬ (K1 c b s (ks s)=4∨(K1 c b s (ks s)=5∧(s:Int)<(nSt c:Nat)-1)):=by
   rintro (h | h)
   ·have:=g11 h;omega
   ·have:=g12 h.1;omega
  have hrg:rg c b s (ks s)=G c b s (ks s):=by unfold rg rgOf;rw [if_neg h2]
  have hq:=Qis (c:=c) (b:=b) ks (s:=s) hs0
  have hok:=QjW A V (s:=s) hs0
  have hitems:(bQ c b ks s).2=(((rg c b s (ks s):Nat):Int),doS c b (s+1) (rg c b s (ks s)))::(List.range' (rg c b s (ks s)+1) (sg c b (s+1) (ks (s+1))-(rg c b s (ks s)+1))).map (fun j:Nat=>((j:Int),doS c b (s+1) j)):=by
   unfold bQ
   simp only
   rw [show sg c b (s+1) (ks (s+1))-rg c b s (ks s)=(sg c b (s+1) (ks (s+1))-(rg c b s (ks s)+1))+1 by omega,List.range'_succ,List.map_cons]
  have hpop:ZH (bQ c b ks s)=((JV c s,(List.range' (rg c b s (ks s)+1) (sg c b (s+1) (ks (s+1))-(rg c b s (ks s)+1))).map (fun j:Nat=>((j:Int),doS c b (s+1) j))),(((rg c b s (ks s):Nat):Int),doS c b (s+1) (rg c b s (ks s))),true):=by
   unfold ZH
   rw [hok,hitems]
   simp [Qbg]
   rfl
  simp only [e,hq,hpop]
  simp
  refine fin (_,Qz (Q6 c b ks),(QA (Q6 c b ks)).set _ _) ?_ (keepA (by omega) (by omega)) ?_
  ·rw [hstAt 4 e,hkf,hkg,hrg]
   exact QGW A (fun h=>by have:=g9 h;omega) (fun h=>by have:=g10 h.1 (by omega);omega) (fun h=>by have:=g12 h;omega) (fun h=>by have:=g13 h.1 (by omega);omega)
  ·refine QfI _ _ _ _ _ (fun h=>?_) (fun j hj hne=>?_)
   ·unfold bQ
    rw [Yz,Zv _ (by omega),c3 hs0,if_pos e]
   ·unfold bQ
    by_cases h:j+1=s
    ·subst h;rw [Yz,Zv _ (by omega),c4 (by omega),if_neg (by omega)];simp only [Nat.add_zero]
    ·rw [Zv _ hne,Zv _ h]
 ·
  obtain ⟨h0,h1,h2,h3⟩:=L.c5 e
  have hkf:kf (insP c b s (ks s))=0:=by unfold kf;rw [if_neg (by omega)]
  have hkg:kg (insP c b s (ks s))=0:=by unfold kg;rw [if_neg (by omega)]
  simp only [e]
  simp
  refine fin (_,_,_) ?_ (keepA (by omega) (by omega)) (keepB (by omega) (by omega))
  rw [hstAt 5 e,hkf,hkg,h1]
  exact QIK A hs (V.le s hs) H h0 h2 (fun h=>by have:=g9 h;omega) (fun h=>by have:=g10 h.1 (by omega);omega) ⟨fun h=>by have:=L.c18 h;omega,fun h=>h3 (by omega)⟩ (fun h=>by have:=g12 h;omega) (fun h=>by have:=g13 h.1 (by omega);omega)
 ·
  obtain ⟨h1,h2,h3,h4⟩:=L.c6 e
  have hkf:kf (insP c b s (ks s))=0:=by unfold kf;rw [if_neg (by omega)]
  have hkg:kg (insP c b s (ks s))=1:=by unfold kg;rw [if_pos e]
  have e2:(insP c b s (ks s)).2.toNat=G c b s (ks s):=by omega
  simp only [e]
  simp
  refine fin (_,_,_) ?_ (keepA (by omega) (by omega)) (keepB (by omega) (by omega))
  rw [hstAt 6 e,hkf,hkg,e2,h1]
  exact QLM A hs (V.le s hs) H h2 h3 (fun hr hn=>h4 hr (by omega)) (fun h=>by have:=g9 h;omega) (fun h=>by have:=g10 h.1 (by omega);omega) L.c14 (fun h=>by have:=L.c18 h;omega)
 ·
  obtain ⟨h0,h1,h2⟩:=L.c7 e
  have hs0:0<s:=by omega
  have hkf:kf (insP c b s (ks s))=0:=by unfold kf;rw [if_neg (by omega)]
  have hkg:kg (insP c b s (ks s))=0:=by unfold kg;rw [if_neg (by omega)]
  have hroom:=E.2.2.2.2.1 e
  have h15:=L.c15 h2
  have hsg:sg c b s (ks s)=G c b s (ks s)-1:=by unfold sg sgQ;rw [if_pos h2]
  have hq:=Qis (c:=c) (b:=b) ks (s:=s-1) (by omega)
  have hok:=QjW A V (s:=s-1) (by omega)
  have hqb:=V.qb (s-1) (by omega)
  rw [show s-1+1=s by omega] at hqb
  have hb5:=Qba A
  have hD:sD (stAt c b s (ks s))=doS c b s (G c b s (ks s)-1):=by
   show vD c b s _ _=_
   unfold vD;rw [if_pos ⟨h2,hs0⟩]
  have hv:=YA.1 (QeU A (s:=s) (j:=G c b s (ks s)-1) (by omega) (by omega))
  have hpush:Y2 (bQ c b ks (s-1)) ((insP c b s (ks s)).2,sD (stAt c b s (ks s)))=((JV c (s-1),(bQ c b ks (s-1)).2++[(((sg c b s (ks s):Nat):Int),doS c b s (sg c b s (ks s)))]),true):=by
   unfold Y2
   rw [hok,hD,h1,hsg]
   have hio:YY (((G c b s (ks s):Nat):Int)-1,doS c b s (G c b s (ks s)-1))=true:=by
    simp only [YY,Bool.and_eq_true,decide_eq_true_eq];exact ⟨⟨hv.1,by omega⟩,by omega⟩
   rw [hio]
   have hl:(((bQ c b ks (s-1)).2.length:Nat):Int)<(bQ c b ks (s-1)).1:=by
    simp only [bQ,List.length_map,List.length_range'];rw [show s-1+1=s by omega];omega
   rw [if_pos (by simp only [Bool.true_and,decide_eq_true_eq];exact hl),show ((G c b s (ks s):Nat):Int)-1=((G c b s (ks s)-1:Nat):Int) by omega]
   rfl
  simp only [e,hq,hpush]
  simp
  refine fin (_,Qz (Q6 c b ks),(QA (Q6 c b ks)).set _ _) ?_ (keepA (by omega) (by omega)) ?_
  ·rw [hstAt 7 e,hkf,hkg]
   exact QH2 A h2
  ·refine QfI _ _ _ _ _ (fun h=>?_) (fun j hj hne=>?_)
   ·unfold bQ
    rw [show s-1+1=s by omega,Yz,Zv _ (by omega),c4 hs0,if_pos e]
    rw [show sg c b s (ks s)+1-rg c b (s-1) (ks (s-1))=(sg c b s (ks s)-rg c b (s-1) (ks (s-1)))+1 by omega,List.range'_concat,List.map_append]
    simp only [List.map_cons,List.map_nil,Nat.one_mul]
    rw [show rg c b (s-1) (ks (s-1))+(sg c b s (ks s)-rg c b (s-1) (ks (s-1)))=sg c b s (ks s) by omega]
   ·unfold bQ
    by_cases h:j=s
    ·subst h;rw [Yz,Zv _ (by omega),c3 (by omega),if_neg (by omega)];simp only [Nat.add_zero]
    ·rw [Zv _ h,Zv _ (by omega)]
 ·
  have hkf:kf (insP c b s (ks s))=0:=by unfold kf;rw [if_neg (by omega)]
  have hkg:kg (insP c b s (ks s))=0:=by unfold kg;rw [if_neg (by omega)]
  simp only [e]
  simp
  refine fin (_,_,_) ?_ (keepA (by omega) (by omega)) (keepB (by omega) (by omega))
  rw [hstAt 8 e,hkf,hkg]
  exact QCh A (fun h=>by have:=g9 h;omega) (fun h=>by have:=g10 h.1 (by omega);omega) (fun h=>by have:=g11 h;omega) (fun h=>by have:=g12 h;omega) (fun h=>by have:=g13 h.1 (by omega);omega)
theorem QFc {ks:Nat→Nat} (V:Ok c b ks) {s:Nat} (hs:s<nSt c) (E:¬ En c b ks s):Yg (Q6 c b ks) (s:Int)=Q6 c b ks:=by
 unfold Yg
 rw [if_neg (fun h=>E ((Qxu A V hs).1 h))]
end
end Go.Proofs.YtjbdljkhbglnhaaGreat.Am
namespace Go.Proofs.YtjbdljkhbglnhaaGreat.Am
open Go Sz
def QoT:Bool:=[1,2].all fun ds:Int=>[1,2,3,4].all fun n:Int=>[0,1,2,3].all fun s:Int=>[1,2,3,4,5].all fun M:Int=>[true,false].all fun rd =>
 decide (((Z7 ds n s M rd).length:Int)≤7*M+1)
set_option maxRecDepth 100000 in
theorem QOA:QoT=true:=by kernel_rfl
theorem QCF {ds n s M:Int} (rd:Bool) (h1:1≤ds) (h2:ds≤2) (h3:n≤4) (h4:0≤s) (h5:s<n) (h6:1≤M) (h7:M≤5):((Z7 ds n s M rd).length:Int)≤7*M+1:=by
 have h:=QOA
 unfold QoT at h
 rw [List.all_eq_true] at h
 have h:=h ds (by have:ds=1∨ds=2:=(by omega);rcases this with rfl | rfl <;> simp)
 rw [List.all_eq_true] at h
 have h:=h n (by have:n=1∨n=2∨n=3∨n=4:=(by omega);rcases this with rfl | rfl | rfl | rfl <;> simp)
 rw [List.all_eq_true] at h
 have h:=h s (by have:s=0∨s=1∨s=2∨s=3:=(by omega);rcases this with rfl | rfl | rfl | rfl <;> simp)
 rw [List.all_eq_true] at h
 have h:=h M (by have:M=1∨M=2∨M=3∨M=4∨M=5:=(by omega);rcases this with rfl | rfl | rfl | rfl | rfl <;> simp)
 rw [List.all_eq_true] at h
 have h:=h rd (by cases rd <;> simp)
 simpa using h
theorem Qsr {α β:Type} (d:α) (f:α→β) (l:List α):l.map f=(List.range l.length).map fun i=>f (gtd d l i):=by
 apply List.ext_getElem?
 intro i
 simp only [List.getElem?_map]
 by_cases h:i<l.length
 ·rw [List.getElem?_range h,Jp h d];rfl
 ·rw [List.getElem?_eq_none (by omega),List.getElem?_eq_none (by simp;omega)];rfl
theorem QFB {α:Type} (l:List α) (f g:α→Bool):l.any (fun x=>f x||g x)=(l.any f||l.any g):=by
 induction l with
 | nil=>rfl
 | cons x l ih=>simp only [List.any_cons,ih];ac_rfl
theorem QD2 {α:Type} (l:List α) (f:α→Bool) (q:Bool):l.any (fun x=>f x&&q)=(l.any f&&q):=by
 induction l with
 | nil=>rfl
 | cons x l ih=>simp only [List.any_cons,ih];cases q <;> simp
theorem Qtr {α:Type} (f g:α→List (List Int)):∀ (l:List α),(∀ x,x∈l→(f x).length=(g x).length)→Zg (l.flatMap f) (l.flatMap g)=(l.flatMap fun x=>(Zg (f x) (g x)).1,l.any fun x=>(Zg (f x) (g x)).2)
 | [],h=>rfl
 | x::l,h=>by
  rw [List.flatMap_cons,List.flatMap_cons,QyQ _ _ _ _ (h x List.mem_cons_self),Qtr f g l (fun y hy=>h y (List.mem_cons_of_mem _ hy))]
  simp
section
variable {c:Ql} {b:List Qd} (A:Adm c b)
include A
theorem Qjh:QH c=(nSt c:Nat):=by
 have:=(QbC (c:=c)).2.2.2 A.cuts
 rw [this];simp [nSt]
theorem QBl {s:Nat} (hs:s<nSt c):1≤lenP c b s:=by
 have h:=(QfY A hs).2.2
 apply Classical.byContradiction
 intro hn
 rw [show lenP c b s=0 by omega] at h
 simp [K1,Y3] at h
theorem Qvw {s:Nat} (hs:s<nSt c):lenP c b s≤7*b.length+1:=by
 have h1:=QaN A
 have h2:=Qba A
 have:=QCF (ds:=cDs c) (n:=(nSt c:Nat)) (s:=(s:Nat)) (M:=b.length) (YN c s) A.ds.1 A.ds.2 (by omega) (by omega) (by omega) (by omega) (by omega)
 unfold lenP YH;omega
omit A in
theorem QzS (n micro:Int):∀ k:Nat,Qar c n micro k=(List.range k).map fun s:Nat =>
  Qay (slice (QV c) (Qp (QV c) (Q3 c) s).1 (Qp (QV c) (Q3 c) s).2) (Z7 (cDs c) n s micro (gtd false (JW c) s)) (decide ((s:Int)=n-1)) (gtd false (JW c) s)
 | 0=>rfl
 | k+1=>by rw [Qar,QzS n micro k,List.range_succ,List.map_append];rfl
theorem QEr:Zr c b=Q6 c b (fun _=>0):=by
 unfold Zr
 rw [if_pos (QkW A),Qjh A,QzS,Int.toNat_natCast]
 refine Prod.ext rfl (Prod.ext ?_ (Prod.ext ?_ ?_))
 ·refine QaA fun s hs=>?_
  have hm:=(QdS A hs).1
  have e:slice (QV c) (Qp (QV c) (Q3 c) (s:Int)).1 (Qp (QV c) (Q3 c) (s:Int)).2=opS c s:=QPN A.cuts (by simp only [nSt] at hs;omega)
  rw [e]
  unfold Qay
  rw [if_pos hm]
  have e2:decide ((s:Int)=((nSt c:Nat):Int)-1)=Q4 c s:=by
   simp only [Q4];rw [Bool.eq_iff_iff];simp only [decide_eq_true_eq];omega
  rw [e2]
  simp [stAt,st,F,G,K1,cf,cg,Y3,Yr,J8,vX,vY,vG,vD,Jm,YP,satV,YH,YN]
 ·have e:=QgS A
  show (Jr c).map (fun n=>((n,[]):Qm))=_
  rw [Qsr (0:Int),e]
  refine QaA fun s hs=>?_
  simp [aQ,rc,sc,F,K1,cf,Y3,rcOf,scOf]
 ·have e:=QgS A
  show (Jr c).map (fun n=>((n,[]):Qm))=_
  rw [Qsr (0:Int),e]
  refine QaA fun s hs=>?_
  simp [bQ,rg,sg,G,K1,cg,Y3,rgOf,sgQ]
theorem QB0:Ok c b (fun _=>0):=by
 refine ⟨fun s hs=>Nat.zero_le _,fun s hs=>?_,fun s hs=>?_,fun h=>?_⟩
 ·have:=QbN A hs
  simp [rc,sc,F,K1,cf,Y3,rcOf,scOf];omega
 ·have:=QbN A hs
  simp [rg,sg,G,K1,cg,Y3,rgOf,sgQ];omega
 ·obtain ⟨s,hs,e⟩:=h
  have:=QBl A hs
  omega
def left (c:Ql) (b:List Qd) (ks:Nat→Nat):Nat:=((List.range (nSt c)).map fun s=>lenP c b s-ks s).sum
omit A in
theorem QnZ {n:Nat} {f g:Nat→Nat} (h:∀ j,j<n→f j≤g j):((List.range n).map f).sum≤((List.range n).map g).sum:=by
 induction n with
 | zero=>simp
 | succ n ih =>
  rw [List.range_succ,List.map_append,List.map_append,List.sum_append,List.sum_append]
  have:=ih (fun j hj=>h j (by omega))
  have:=h n (by omega)
  simp;omega
omit A in
theorem QNv {n:Nat} {f g:Nat→Nat} {k:Nat} (hk:k<n) (h:∀ j,j<n→f j≤g j) (hlt:f k+1≤g k):((List.range n).map f).sum+1≤((List.range n).map g).sum:=by
 induction n with
 | zero=>omega
 | succ n ih =>
  rw [List.range_succ,List.map_append,List.map_append,List.sum_append,List.sum_append]
  by_cases e:k=n
  ·subst e
   have:=QnZ (n:=k) (f:=f) (g:=g) (fun j hj=>h j (by omega))
   simp;omega
  ·have:=ih (by omega) (fun j hj=>h j (by omega))
   have:=h n (by omega)
   simp;omega
omit A in
theorem Qkw {ks ks':Nat→Nat} (h:∀ j,ks j≤ks' j):left c b ks'≤left c b ks:=QnZ fun j hj=>by have:=h j;omega
omit A in
theorem QN3 {n:Nat} {f g:Nat→Nat} {k:Nat} (hk:k<n) (h:∀ j,j<n→j≠k→f j=g j) (he:f k+1=g k):((List.range n).map f).sum+1=((List.range n).map g).sum:=by
 induction n with
 | zero=>omega
 | succ n ih =>
  rw [List.range_succ,List.map_append,List.map_append,List.sum_append,List.sum_append]
  by_cases e:k=n
  ·subst e
   have:(List.range k).map f=(List.range k).map g:=QaA fun j hj=>h j (by omega) (by omega)
   rw [this];simp;omega
  ·have:=ih (by omega) (fun j hj=>h j (by omega))
   have:=h n (by omega) (by omega)
   simp;omega
omit A in
theorem QLw {ks:Nat→Nat} {s:Nat} (hs:s<nSt c) (hk:ks s<lenP c b s):left c b (bump ks s)+1=left c b ks :=
 QN3 hs (fun j hj hne=>by rw [Zv _ hne]) (by rw [Yz];omega)
omit A in
theorem Qmo {ks:Nat→Nat}:left c b ks=0↔∀ s,s<nSt c→lenP c b s≤ks s:=by
 unfold left
 constructor
 ·intro h s hs
  apply Classical.byContradiction
  intro hn
  have:=QNv (n:=nSt c) (f:=fun _=>0) (g:=fun s=>lenP c b s-ks s) hs (fun j hj=>Nat.zero_le _) (by omega)
  omega
 ·intro h
  have:=QnZ (n:=nSt c) (f:=fun s=>lenP c b s-ks s) (g:=fun _=>0) (fun j hj=>by have:=h j hj;omega)
  have e:((List.range (nSt c)).map fun _=>0).sum=0:=by
   generalize nSt c=n
   induction n with
   | zero=>rfl
   | succ n ih=>rw [List.range_succ,List.map_append,List.sum_append,ih];rfl
  omega
theorem QHO {ks:Nat→Nat}:left c b ks≤nSt c*(7*b.length+1):=by
 unfold left
 have:∀ n,n≤nSt c→((List.range n).map fun s=>lenP c b s-ks s).sum≤n*(7*b.length+1):=by
  intro n hn
  induction n with
  | zero=>simp
  | succ n ih =>
   rw [List.range_succ,List.map_append,List.sum_append,Nat.add_mul]
   have:=ih (by omega)
   have:=Qvw A (s:=n) (by omega)
   simp;omega
 exact this _ (Nat.le_refl _)
theorem Qug {ks:Nat→Nat}:left c b ks≤144:=by
 have h1:=QHO A (ks:=ks)
 have h2:=QaN A
 have h3:=Qba A
 have:nSt c*(7*b.length+1)≤4*36:=Nat.mul_le_mul (by omega) (by omega)
 omega
theorem QM5 {ks:Nat→Nat} (V:Ok c b ks):Qal (Q6 c b ks)=(left c b ks:Nat):=by
 unfold Qal
 have e:((QE (Q6 c b ks)).map JQ).sum=((left c b ks:Nat):Int):=by
  unfold left
  show (((List.range (nSt c)).map (fun s=>stAt c b s (ks s))).map JQ).sum=_
  rw [List.map_map]
  have:∀ n,n≤nSt c→((List.range n).map (JQ ∘ fun s=>stAt c b s (ks s))).sum=((((List.range n).map fun s=>lenP c b s-ks s).sum:Nat):Int):=by
   intro n hn
   induction n with
   | zero=>rfl
   | succ n ih =>
    rw [List.range_succ,List.map_append,List.map_append,List.sum_append,List.sum_append,ih (by omega)]
    have hle:=V.le n (by omega)
    have e1:(stAt c b n (ks n)).1=((ks n:Nat):Int):=rfl
    have e2:(stAt c b n (ks n)).2.1.length=lenP c b n:=rfl
    simp only [List.map_cons,List.map_nil,List.sum_cons,List.sum_nil,Function.comp_apply,JQ,e1,e2]
    unfold iMin iMax
    repeat' split
    all_goals omega
  exact this _ (Nat.le_refl _)
 have:=Qug A (ks:=ks)
 have e':(List.map JQ (Q6 c b ks).2.1).sum=((left c b ks:Nat):Int):=e
 rw [e',Qo (by omega) (by omega)]
theorem Qlw {ks:Nat→Nat} (V:Ok c b ks):Ji (Q6 c b ks)=decide (left c b ks=0):=by
 unfold Ji
 rw [QM5 A V]
 have:=QaN A
 have e:=QcG (c:=c) (b:=b) ks
 show (decide (0<(QE (Q6 c b ks)).length)&&_)=_
 rw [e,Bool.eq_iff_iff]
 simp only [Bool.and_eq_true,decide_eq_true_eq,beq_iff_eq]
 omega
theorem QJi {ks:Nat→Nat} (V:Ok c b ks) (h:left c b ks≠0):∃ s,s<nSt c∧En c b ks s:=by
 refine QIS A V ?_
 apply Classical.byContradiction
 intro hn
 refine h (Qmo.2 fun s hs=>?_)
 apply Classical.byContradiction
 intro hk
 exact hn ⟨s,hs,by omega⟩
omit A in
theorem QJ0 (k n:Nat) (ks:Nat→Nat):ZE k (n+1) (Q6 c b ks)=ZE (k+1) n (Yg (Q6 c b ks) ((k % nSt c:Nat):Int)):=by
 rw [ZE,QcG]
 rfl
theorem Qdt:∀ (n k:Nat) {ks:Nat→Nat},Ok c b ks→∃ ks',Ok c b ks'∧ZE k n (Q6 c b ks)=Q6 c b ks'∧(∀ j,ks j≤ks' j)∧(left c b ks'<left c b ks∨(ks'=ks∧∀ i,i<n→¬ En c b ks ((k+i) % nSt c)))
 | 0,k,ks,V=>⟨ks,V,rfl,fun _=>Nat.le_refl _,.inr ⟨rfl,fun i hi=>by omega⟩⟩
 | n+1,k,ks,V=>by
  have hn:=QaN A
  have hlt:k % nSt c<nSt c:=Nat.mod_lt _ (by omega)
  rw [QJ0]
  by_cases E:En c b ks (k % nSt c)
  ·have V1:=QzO A V hlt E
   obtain ⟨k2,V2,e2,h2,_⟩:=Qdt n (k+1) V1
   rw [QD3 A V hlt E]
   have hb:∀ j,ks j≤bump ks (k % nSt c) j:=fun j=>by unfold bump;split <;> omega
   refine ⟨k2,V2,e2,fun j=>Nat.le_trans (hb j) (h2 j),.inl ?_⟩
   have h3:=QLw (b:=b) hlt E.1
   have h4:=Qkw (c:=c) (b:=b) h2
   omega
  ·rw [QFc A V hlt E]
   obtain ⟨k2,V2,e2,h2,h3⟩:=Qdt n (k+1) V
   refine ⟨k2,V2,e2,h2,h3.imp (fun h=>h) fun ⟨h4,h5⟩=>⟨h4,fun i hi=>?_⟩⟩
   cases i with
   | zero=>exact E
   | succ i=>have:=h5 i (by omega);rwa [show k+1+i=k+(i+1) by omega] at this
omit A in
theorem Qla:∀ (n k m:Nat) (p:Qr),ZE k (n+m) p=ZE (k+n) m (ZE k n p)
 | 0,k,m,p=>by rw [Nat.zero_add];rfl
 | n+1,k,m,p=>by
  rw [show n+1+m=(n+m)+1 by omega,ZE,Qla n (k+1) m,ZE,show k+1+n=k+(n+1) by omega]
theorem QDz {ks:Nat→Nat} (V:Ok c b ks) (k:Nat) (h:left c b ks≠0):∃ ks',Ok c b ks'∧ZE k (nSt c) (Q6 c b ks)=Q6 c b ks'∧(∀ j,ks j≤ks' j)∧left c b ks'<left c b ks:=by
 obtain ⟨k1,V1,e1,h1,h2⟩:=Qdt A (nSt c) k V
 refine ⟨k1,V1,e1,h1,?_⟩
 rcases h2 with h2 | ⟨_,h3⟩
 ·exact h2
 ·exfalso
  have hn:=QaN A
  obtain ⟨s,hs,E⟩:=QJi A V h
  have hmod:k % nSt c<nSt c:=Nat.mod_lt _ (by omega)
  have hk:=Nat.div_add_mod k (nSt c)
  refine h3 (if k % nSt c≤s then s-k % nSt c else s+nSt c-k % nSt c) (by split <;> omega) ?_
  have:(k+if k % nSt c≤s then s-k % nSt c else s+nSt c-k % nSt c) % nSt c=s:=by
   split
   ·rw [show k+(s-k % nSt c)=nSt c*(k / nSt c)+s by omega,Nat.mul_add_mod,Nat.mod_eq_of_lt hs]
   ·rw [show k+(s+nSt c-k % nSt c)=nSt c*(k / nSt c)+(nSt c+s) by omega,Nat.mul_add_mod,Nat.add_mod_left,Nat.mod_eq_of_lt hs]
  rw [this];exact E
theorem Qw3:∀ (L n k:Nat) {ks:Nat→Nat},Ok c b ks→left c b ks≤L→nSt c*L≤n→∃ ks',Ok c b ks'∧ZE k n (Q6 c b ks)=Q6 c b ks'∧left c b ks'=0
 | 0,n,k,ks,V,h1,_=>by
  obtain ⟨k1,V1,e1,h2,_⟩:=Qdt A n k V
  exact ⟨k1,V1,e1,by have:=Qkw (c:=c) (b:=b) h2;omega⟩
 | L+1,n,k,ks,V,h1,h2=>by
  by_cases h:left c b ks=0
  ·obtain ⟨k1,V1,e1,h3,_⟩:=Qdt A n k V
   exact ⟨k1,V1,e1,by have:=Qkw (c:=c) (b:=b) h3;omega⟩
  ·obtain ⟨k1,V1,e1,h3,h4⟩:=QDz A V k h
   rw [Nat.mul_add,Nat.mul_one] at h2
   obtain ⟨k2,V2,e2,h5⟩:=Qw3 L (n-nSt c) (k+nSt c) V1 (by omega) (by omega)
   refine ⟨k2,V2,?_,h5⟩
   rw [show n=nSt c+(n-nSt c) by omega,Qla,e1,e2]
omit A in
theorem QK5 {ks ks':Nat→Nat} (h:∀ s,s<nSt c→ks s=ks' s):Q6 c b ks=Q6 c b ks':=by
 refine Prod.ext rfl (Prod.ext ?_ (Prod.ext ?_ ?_))
 ·exact QaA fun s hs=>by rw [h s hs]
 ·exact QaA fun s hs=>by unfold aQ;rw [h s (by omega),h (s+1) (by omega)]
 ·exact QaA fun s hs=>by unfold bQ;rw [h s (by omega),h (s+1) (by omega)]
theorem QMZ {ks:Nat→Nat} (V:Ok c b ks) (h:left c b ks=0):Q6 c b ks=Q6 c b (lenP c b):=by
 have _:=A
 exact QK5 fun s hs=>by have:=V.le s hs;have:=Qmo.1 h s hs;omega
def Qaq (c:Ql) (b:List Qd) (j:Nat):QZ:=((List.range (nSt c)).flatMap (fun s=>Jm c b s j),YP c b j,(List.range (nSt c)).any fun s=>satV c b s j j)
theorem QxF:∀ (k s:Nat),s+k=nSt c→(List.range' s k).flatMap (fun s=>opS c s)=(QV c).drop (Zk (QV c) (Q3 c) s)
 | 0,s,h=>by
  rw [show s=(Q3 c).length+1 by unfold nSt at h;omega,Qcm A.cuts,List.drop_length];rfl
 | k+1,s,h=>by
  rw [List.range'_succ,List.flatMap_cons,QxF k (s+1) (by omega),Qdg A.cuts (s:=s) (by unfold nSt at h;omega)]
theorem QLJ:Qaq c b 0=ZU (QV c):=by
 unfold Qaq ZU
 rw [if_pos A.model]
 refine Prod.ext ?_ (Prod.ext rfl ?_)
 ·show (List.range (nSt c)).flatMap (fun s=>(ZU (opS c s)).1)=_
  have h:=QxF A (nSt c) 0 (by omega)
  rw [← List.range_eq_range'] at h
  have e0:(QV c).drop (Zk (QV c) (Q3 c) 0)=QV c:=rfl
  rw [e0] at h
  have e1:(QV c).map (fun o=>List.replicate o.2.2.2.length (0:Int))=((List.range (nSt c)).flatMap fun s=>opS c s).map (fun o=>List.replicate o.2.2.2.length (0:Int)):=by rw [h]
  rw [e1,List.map_flatMap]
  have:∀ l:List Nat,(∀ s,s∈l→s<nSt c)→l.flatMap (fun s=>(ZU (opS c s)).1)=l.flatMap (fun s=>(opS c s).map fun o=>List.replicate o.2.2.2.length (0:Int)):=by
   intro l hl
   induction l with
   | nil=>rfl
   | cons s l ih =>
    rw [List.flatMap_cons,List.flatMap_cons,ih (fun t ht=>hl t (List.mem_cons_of_mem _ ht))]
    unfold ZU
    rw [if_pos (QdS A (hl s List.mem_cons_self)).1]
  exact this _ (fun s hs=>List.mem_range.1 hs)
 ·show ((List.range (nSt c)).any fun s=>false)=false
  simp
theorem QMP {j:Nat} (hj:j<b.length):Ym (Qaq c b j) (QdJ (QV c) (prAt b j))=Qaq c b (j+1):=by
 have hp:=QaS A hj
 have hbf:=QxH A.cuts (prAt b j) (nSt c) 0 (by simp [nSt])
 have hff:=Qt4 A.cuts (prAt b j).1 (nSt c) 0 (by simp [nSt])
 rw [← List.range_eq_range'] at hbf hff
 have e0:(QV c).drop (Zk (QV c) (Q3 c) 0)=QV c:=rfl
 have e1:inp (QV c) (Q3 c) (prAt b j).1 0=(prAt b j).1:=QpD A.cuts _
 have e2:JS (QV c) (Q3 c) (prAt b j) 0=QM (QV c) (Qy (QV c) (prAt b j).1).1 (Zs (ZK (QV c) (prAt b j).1) (prAt b j).2).1:=by unfold JS;rw [e0,e1]
 rw [e2] at hbf
 rw [e0,e1] at hff
 have ey:gtd [] (Qy (QV c) (prAt b j).1).1 (QV c).length=ZK (QV c) (prAt b j).1:=rfl
 have hra:=Qtr (fun s=>Jm c b s j) (fun s=>(bkS c b s j).1) (List.range (nSt c)) (fun s hs=>by
  have hs:=List.mem_range.1 hs
  rw [(Qmz A hs (g:=j) (by omega)).1,(Qzf A hs hj).1])
 unfold QdJ
 rw [if_pos hp]
 simp only [ey]
 unfold Ym
 simp only
 rw [hbf.1,hbf.2,hff]
 have hra':Zg (Qaq c b j).1 ((List.range (nSt c)).flatMap fun s=>(Qaf (QV c) (Q3 c) (prAt b j) s).1)=_:=hra
 rw [hra']
 refine Prod.ext rfl (Prod.ext rfl ?_)
 show ((List.range (nSt c)).any (fun s=>satV c b s j j)||_||_||_)=(List.range (nSt c)).any (fun s=>satV c b s (j+1) (j+1))
 have hs:∀ s,satV c b s (j+1) (j+1)=(satV c b s j j||(fsat (QV c) (Q3 c) (prAt b j).1 s||(Q4 c s&&lsat c b j))||((bkS c b s j).2.2||(Zg (Jm c b s j) (bkS c b s j).1).2||(Q4 c s&&(Zs (outA c b j) (prAt b j).2).2))):=by
  intro s
  unfold satV
  rw [List.range_succ,List.any_append,List.any_append]
  simp only [List.any_cons,List.any_nil,Bool.or_false,Qdp,Qfw]
  ac_rfl
 have hl:(List.range (nSt c)).any (Q4 c)=true:=by
  rw [List.any_eq_true]
  exact ⟨(Q3 c).length,List.mem_range.2 (by simp [nSt]),by simp [Q4,nSt]⟩
 have hl':(List.range (nSt c)).any (fun s=>Q4 c s)=true:=hl
 have:(List.range (nSt c)).any (fun s=>satV c b s (j+1) (j+1))=(List.range (nSt c)).any (fun s=>(satV c b s j j||(fsat (QV c) (Q3 c) (prAt b j).1 s||(Q4 c s&&lsat c b j))||((bkS c b s j).2.2||(Zg (Jm c b s j) (bkS c b s j).1).2||(Q4 c s&&(Zs (outA c b j) (prAt b j).2).2)))):=by
  congr 1;funext s;exact hs s
 rw [this]
 simp only [QFB,QD2,hl',Bool.true_and]
 unfold lsat
 show (_||(_||(Yh (outA c b j) (prAt b j).2).2||(Zs (outA c b j) (prAt b j).2).2||_)||_||(Zl (YP c b j) (Yh (outA c b j) (prAt b j).2).1).2)=_
 simp only [bkS]
 generalize (List.range (nSt c)).any (fun s=>fsat (QV c) (Q3 c) (prAt b j).1 s)=X
 ac_rfl
theorem Qqb:∀ (n j:Nat),j+n=b.length→QeO (QV c) (b.drop j) (Qaq c b j)=Qaq c b b.length
 | 0,j,h=>by rw [show j=b.length by omega,List.drop_length];rfl
 | n+1,j,h=>by
  have hj:j<b.length:=by omega
  rw [List.drop_eq_getElem_cons hj,QeO]
  have e:b[j]=prAt b j:=(Qb9 (List.getElem?_eq_getElem hj) Zn).symm
  rw [e,QMP A hj]
  exact Qqb n (j+1) (by omega)
theorem QKU:Qa1 (QV c) b=Qaq c b b.length:=by
 unfold Qa1
 rw [if_pos A.batch,← QLJ A]
 have:=Qqb A b.length 0 (by omega)
 rwa [List.drop_zero] at this
theorem QC3:JG (Q6 c b (lenP c b))=Qa1 (QV c) b:=by
 have V:Ok c b (lenP c b):=by
  refine ⟨fun s hs=>Nat.le_refl _,fun s hs=>?_,fun s hs=>?_,fun _ s hs=>by omega⟩
  ·have:=QbI A (s:=s) (by omega);have:=QbI A hs;have:=QbN A hs;omega
  ·have:=QbI A (s:=s) (by omega);have:=QbI A hs;have:=QbN A hs;omega
 have hd:Ji (Q6 c b (lenP c b))=true:=by
  rw [Qlw A V];exact decide_eq_true (Qmo.2 fun s hs=>Nat.le_refl _)
 unfold JG
 rw [if_pos hd,QKU A]
 have hst:∀ s,s<nSt c→stAt c b s (lenP c b s)=st c b s (lenP c b s) b.length b.length 8:=by
  intro s hs
  obtain ⟨h1,h2,h3⟩:=QfY A hs
  unfold stAt;rw [h1,h2,h3]
 have hps:QE (Q6 c b (lenP c b))=(List.range (nSt c)).map fun s=>st c b s (lenP c b s) b.length b.length 8:=QaA hst
 rw [hps]
 refine Prod.ext ?_ (Prod.ext ?_ ?_)
 ·simp only [Qaq]
  rw [List.flatMap_map]
  rfl
 ·simp only [Qaq]
  rw [List.map_map,show nSt c=(Q3 c).length+1 from rfl,List.range_succ,List.map_append,List.map_cons,List.map_nil,List.getLast?_append]
  simp [st,Q4,nSt]
 ·simp only [Qaq]
  rw [List.any_map]
  rfl
end
end Go.Proofs.YtjbdljkhbglnhaaGreat.Am
namespace Go.Proofs.YtjbdljkhbglnhaaGreat.Am
open Go Sz
section
variable {c:Ql} {b:List Qd} (A:Adm c b)
include A
end
end Go.Proofs.YtjbdljkhbglnhaaGreat.Am

