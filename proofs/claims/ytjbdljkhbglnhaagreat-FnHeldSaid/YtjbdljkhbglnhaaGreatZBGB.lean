/- -/
import Derived.Test.YtjbdljkhbglnhaaGreatZBGA
set_option linter.all false
namespace Go.Proofs.YtjbdljkhbglnhaaGreat.Am
open Go Sz
theorem Qgc {α:Type} (d:α) (n:Nat) (f:Nat→α) {k:Nat} (hk:k<n):gtd d ((List.range n).map f) k=f k :=
 Qcg (by rw [List.getElem?_map,List.getElem?_range hk];rfl) d
theorem Qe0 {α:Type} (n:Nat) (f g:Nat→α) (k:Nat) (v:α) (hv:k<n→v=g k) (h:∀ j,j<n→j≠k→f j=g j):((List.range n).map f).set k v=(List.range n).map g:=by
 apply List.ext_getElem?
 intro i
 rw [List.getElem?_set]
 simp only [List.length_map,List.length_range,List.getElem?_map]
 by_cases hi:i<n
 ·rw [List.getElem?_range hi]
  by_cases hk:k=i
  ·subst hk
   rw [if_pos rfl,if_pos hi,hv hi];rfl
  ·rw [if_neg hk]
   simp only [Option.map_some]
   rw [h i hi (fun e=>hk e.symm)]
 ·rw [List.getElem?_eq_none (by simp;omega)]
  split
  ·rename_i e;rw [if_neg (by omega)];rfl
  ·rfl
theorem Qd0 {α:Type} {n:Nat} {f g:Nat→α} (h:∀ j,j<n→f j=g j):(List.range n).map f=(List.range n).map g :=
 List.map_congr_left (fun j hj=>h j (List.mem_range.1 hj))
def bump (ks:Nat→Nat) (s:Nat):Nat→Nat:=fun j=>if j=s then ks j+1 else ks j
theorem YD (ks:Nat→Nat) (s:Nat):bump ks s s=ks s+1:=by simp [bump]
theorem Zq (ks:Nat→Nat) {s j:Nat} (h:j≠s):bump ks s j=ks j:=by simp [bump,h]
section
variable {c:Ql} {b:List Qg} (A:Adm c b)
include A
omit A in
theorem Qlc (ks:Nat→Nat) {s:Nat} (hs:s<nSt c):gtd QW (QR (Zd c b ks)) s=stAt c b s (ks s):=Qgc _ _ _ hs
omit A in
theorem QiL (ks:Nat→Nat) {s:Nat} (hs:s+1<nSt c):gtd QT (QD (Zd c b ks)) s=aQ c b ks s:=Qgc _ _ _ (by omega)
omit A in
theorem Qf2 (ks:Nat→Nat) {s:Nat} (hs:s+1<nSt c):gtd QT (QE (Zd c b ks)) s=bQ c b ks s:=Qgc _ _ _ (by omega)
omit A in
theorem Qc1 (ks:Nat→Nat):(QR (Zd c b ks)).length=nSt c:=by
 show ((List.range (nSt c)).map _).length=_
 simp
theorem QrB {s k:Nat} (hs:s<nSt c) (hk:k≤lenP c b s):sc c b s k≤b.length∧rc c b s k≤b.length∧rg c b s k≤b.length∧sg c b s k≤b.length:=by
 have H:=nums A hs hk
 have h1:=H.gf;have h2:=H.fM;have h3:=H.k1;have h4:=H.k45
 unfold sc rc rg sg scOf rcOf rgOf sgQ
 refine ⟨?_,?_,?_,?_⟩
 ·split <;> omega
 ·split
  ·rename_i h;have:=h3 h;omega
  ·omega
 ·split
  ·rename_i h;have:=h4 (h.imp id (fun h=>h.1));omega
  ·omega
 ·split <;> omega
theorem QmC {ks:Nat→Nat} (V:Ok c b ks) {s:Nat} (hs:s+1<nSt c):Zr (aQ c b ks s)=true:=by
 have hc:=Qit A hs
 have hq:=V.qa s hs
 have hb:=Qbn A
 have hl:=(QrB A (s:=s) (by omega) (V.le s (by omega))).1
 unfold Zr aQ
 simp only [Bool.and_eq_true,decide_eq_true_eq,List.length_map,List.length_range',List.all_eq_true]
 refine ⟨⟨⟨hc.1,hc.2⟩,by omega⟩,fun x hx=>?_⟩
 obtain ⟨j,hj,rfl⟩:=List.mem_map.1 hx
 rw [List.mem_range'_1] at hj
 have:=Z2.1 (QaN A (s:=s+1) (j:=j) (by omega) (by omega))
 simp only [YX,Bool.and_eq_true,decide_eq_true_eq]
 exact ⟨⟨this.1,by omega⟩,by omega⟩
theorem Qmw {ks:Nat→Nat} (V:Ok c b ks) {s:Nat} (hs:s+1<nSt c):Zr (bQ c b ks s)=true:=by
 have hc:=Qit A hs
 have hq:=V.qb s hs
 have hb:=Qbn A
 have hl:=(QrB A (s:=s+1) (by omega) (V.le (s+1) (by omega))).2.2.2
 unfold Zr bQ
 simp only [Bool.and_eq_true,decide_eq_true_eq,List.length_map,List.length_range',List.all_eq_true]
 refine ⟨⟨⟨hc.1,hc.2⟩,by omega⟩,fun x hx=>?_⟩
 obtain ⟨j,hj,rfl⟩:=List.mem_map.1 hx
 rw [List.mem_range'_1] at hj
 have:=Z2.1 (Qcz A (s:=s+1) (j:=j) (by omega) (by omega))
 simp only [YX,Bool.and_eq_true,decide_eq_true_eq]
 exact ⟨⟨this.1,by omega⟩,by omega⟩
theorem QuK {ks:Nat→Nat} (V:Ok c b ks):∀ (n s:Nat),s+n=nSt c→QaR b.length ((List.range' s n).map fun s=>stAt c b s (ks s))=true
 | 0,s,h=>rfl
 | n+1,s,h=>by
  have hs:s<nSt c:=by omega
  have ih:=QuK V n (s+1) (by omega)
  rw [List.range'_succ,List.map_cons,QaR,ih]
  have h1:Q7 (stAt c b s (ks s))=true:=QiD A hs (V.le s hs) (nums A hs (V.le s hs))
  have h2:(((stAt c b s (ks s)).2.2.2.1:Bool)==decide (((List.range' (s+1) n).map fun s=>stAt c b s (ks s)).length=0))=true:=by
   simp only [stAt,st,Zb,List.length_map,List.length_range',beq_iff_eq]
   rw [Bool.eq_iff_iff];simp only [decide_eq_true_eq];omega
  have h3:(stAt c b s (ks s)).2.1.all (fun x=>m_in x.2 0 ((b.length:Int)-1))=true:=by
   rw [QJK dIns]
   intro k hk
   have L:=(loc A hs (k:=k) hk).c0
   rw [QS]
   have e:gtd dIns (stAt c b s (ks s)).2.1 k=insP c b s k:=rfl
   rw [e];omega
  rw [h1,h2,h3];rfl
theorem Qpb {ks:Nat→Nat} (V:Ok c b ks):ZZ (Zd c b ks)=true:=by
 have hn:=QdQ A
 have hb:=Qbn A
 have hg:=QuK A V (nSt c) 0 (by omega)
 rw [← List.range_eq_range'] at hg
 have ha:(QD (Zd c b ks)).all Zr=true:=by
  rw [List.all_eq_true]
  intro q hq
  obtain ⟨j,hj,rfl⟩:=List.mem_map.1 hq
  exact QmC A V (by have:=List.mem_range.1 hj;omega)
 have hbk:(QE (Zd c b ks)).all Zr=true:=by
  rw [List.all_eq_true]
  intro q hq
  obtain ⟨j,hj,rfl⟩:=List.mem_map.1 hq
  exact Qmw A V (by have:=List.mem_range.1 hj;omega)
 have hpv:(QQ (Zd c b ks)).all QcD=true:=by
  rw [List.all_eq_true]
  intro x hx
  have:=A.batch
  simp only [ZY,Bool.and_eq_true,List.all_eq_true] at this
  have:=this.2 x hx
  simp only [Jd,Bool.and_eq_true] at this
  simp only [QcD,Bool.and_eq_true]
  exact ⟨(Z2.1 this.1.2).1,(Z2.1 this.2).1⟩
 simp only [ZZ,Bool.and_eq_true,QS,beq_iff_eq]
 refine ⟨⟨⟨⟨?_,?_⟩,?_⟩,?_⟩,⟨hpv,ha,hbk⟩,hg⟩
 ·rw [Qc1];omega
 ·simp [Zd];omega
 ·simp [Zd];omega
 ·show (1:Int)≤(b.length:Int)∧(b.length:Int)≤5;omega
theorem QwP {ks:Nat→Nat} {s:Nat} (hs:s<nSt c) (hk:ks s≤lenP c b s):Qu (Zd c b ks) (s:Int)=if ks s<lenP c b s then insP c b s (ks s) else (0,0):=by
 have _:=A
 unfold Qu
 rw [if_pos (by rw [QS,Qc1];omega),Int.toNat_natCast,Qlc ks hs]
 unfold QdY
 have e1:((stAt c b s (ks s)).1:Int)=(ks s:Nat):=rfl
 have e2:(stAt c b s (ks s)).2.1.length=lenP c b s:=rfl
 rw [e1,e2]
 by_cases h:ks s<lenP c b s
 ·rw [if_pos h,if_pos (by rw [QS];omega),Int.toNat_natCast];rfl
 ·rw [if_neg h,if_neg (by rw [QS];omega)]
theorem Qok {ks:Nat→Nat} (V:Ok c b ks) {s:Nat} (hs:s<nSt c):Yy (Zd c b ks) (s:Int)=true↔En c b ks s:=by
 have hn:=QdQ A
 unfold Yy
 rw [Qpb A V,QwP A hs (V.le s hs),Bool.true_and,Bool.and_eq_true,QS,Qc1]
 by_cases hk:ks s<lenP c b s
 rotate_left
 ·rw [if_neg hk]
  constructor
  ·intro h;exact absurd h.2 (by simp [QaO])
  ·intro h;exact absurd h.1 hk
 rw [if_pos hk]
 have L:=loc A hs hk
 have hi:=L.c0
 have h1:=L.c1;have h3:=L.c3;have h4:=L.c4;have h7:=L.c7
 have hlen:((QR (Zd c b ks)).length:Int)=(nSt c:Nat):=by rw [Qc1]
 unfold En
 generalize insP c b s (ks s)=i at *
 have hcase:i.1=1∨i.1=2∨i.1=3∨i.1=4∨i.1=5∨i.1=6∨i.1=7∨i.1=8:=by omega
 unfold QaO
 rw [hlen,Int.toNat_natCast]
 rcases hcase with e | e | e | e | e | e | e | e
 ·have h0:=h1 e
  have hq:=QiL (b:=b) ks (c:=c) (s:=s-1) (by omega)
  rw [hq]
  simp only [e,aQ,List.length_map,List.length_range',Bool.and_eq_true,decide_eq_true_eq]
  rw [show s-1+1=s by omega]
  simp;omega
 ·simp [e];omega
 ·have h0:=h3 e
  have hq:=QiL (b:=b) ks (c:=c) (s:=s) (by omega)
  have hqa:=V.qa s (by omega)
  rw [hq]
  simp only [e,aQ,Qa3,List.length_map,List.length_range',Bool.and_eq_true,decide_eq_true_eq]
  simp;omega
 ·have h0:=h4 e
  have hq:=Qf2 (b:=b) ks (c:=c) (s:=s) (by omega)
  rw [hq]
  simp only [e,bQ,List.length_map,List.length_range',Bool.and_eq_true,decide_eq_true_eq]
  simp;omega
 ·simp [e];omega
 ·simp [e];omega
 ·have h0:=h7 e
  have hq:=Qf2 (b:=b) ks (c:=c) (s:=s-1) (by omega)
  have hqb:=V.qb (s-1) (by omega)
  rw [hq]
  rw [show s-1+1=s by omega] at hqb
  simp only [e,bQ,Qa3,List.length_map,List.length_range',Bool.and_eq_true,decide_eq_true_eq]
  rw [show s-1+1=s by omega]
  simp;omega
 ·have:QeV (Zd c b ks)=true↔∀ j,j<nSt c→lenP c b j≤ks j+1:=by
   unfold QeV
   rw [List.all_eq_true]
   constructor
   ·intro h j hj
    have:=h (stAt c b j (ks j)) (List.mem_map.2 ⟨j,List.mem_range.2 hj,rfl⟩)
    simp only [Qa5,decide_eq_true_eq] at this
    have e1:((stAt c b j (ks j)).1:Int)=(ks j:Nat):=rfl
    have e2:(stAt c b j (ks j)).2.1.length=lenP c b j:=rfl
    rw [e1,e2] at this;omega
   ·intro h x hx
    obtain ⟨j,hj,rfl⟩:=List.mem_map.1 hx
    have:=h j (List.mem_range.1 hj)
    simp only [Qa5,decide_eq_true_eq]
    have e1:((stAt c b j (ks j)).1:Int)=(ks j:Nat):=rfl
    have e2:(stAt c b j (ks j)).2.1.length=lenP c b j:=rfl
    rw [e1,e2];omega
  simp only [e]
  simp [this];omega
theorem QrE {ks:Nat→Nat} (V:Ok c b ks) {s:Nat} (hs:s<nSt c) (E:En c b ks s):Ok c b (bump ks s):=by
 obtain ⟨hk,e1,e3,e4,e7,e8⟩:=E
 obtain ⟨c1,c2,c3,c4⟩:=QoC A hs hk
 have L:=loc A hs hk
 refine ⟨fun j hj=>?_,fun j hj=>?_,fun j hj=>?_,fun h=>?_⟩
 ·by_cases h:j=s
  ·subst h;rw [YD];omega
  ·rw [Zq _ h];exact V.le j hj
 ·have hq:=V.qa j hj
  by_cases h:j=s
  ·subst h
   rw [YD,Zq _ (by omega),c1 hj]
   split
   ·rename_i h;have:=e3 h;omega
   ·omega
  ·by_cases h2:j+1=s
   ·subst h2
    rw [YD,Zq _ h,c2 (by omega)]
    split
    ·rename_i h;have:=e1 h;simp only [Nat.add_sub_cancel] at this;omega
    ·omega
   ·rw [Zq _ h,Zq _ h2];exact hq
 ·have hq:=V.qb j hj
  by_cases h:j=s
  ·subst h
   rw [YD,Zq _ (by omega),c3 hj]
   split
   ·rename_i h;have:=e4 h;omega
   ·omega
  ·by_cases h2:j+1=s
   ·subst h2
    rw [YD,Zq _ h,c4 (by omega)]
    split
    ·rename_i h;have:=e7 h;simp only [Nat.add_sub_cancel] at this;omega
    ·omega
   ·rw [Zq _ h,Zq _ h2];exact hq
 ·by_cases h8:(insP c b s (ks s)).1=8
  ·intro j hj
   have:=e8 h8 j hj
   by_cases h2:j=s
   ·subst h2;rw [YD];omega
   ·rw [Zq _ h2];exact this
  ·exfalso
   have hl:¬ ks s+1=lenP c b s:=fun e=>h8 (L.c0.2.2.2.2.2.2.1.2 (by simpa using e))
   obtain ⟨j,hj,hje⟩:=h
   by_cases h2:j=s
   ·subst h2;rw [YD] at hje;exact hl hje
   ·rw [Zq _ h2] at hje
    have:=V.fl ⟨j,hj,hje⟩ s hs
    omega
theorem QDw {ks:Nat→Nat} (V:Ok c b ks) {s:Nat} (hs:s<nSt c) (E:En c b ks s):ZS (Zd c b ks) (s:Int)=Zd c b (bump ks s):=by
 have hen:=(Qok A V hs).2 E
 have V':=QrE A V hs E
 have hk:=E.1
 have hnx:=QwP A hs (V.le s hs)
 rw [if_pos hk] at hnx
 unfold ZS
 rw [if_pos hen]
 simp only
 rw [hnx,Int.toNat_natCast,Qlc ks hs]
 obtain ⟨c1,c2,c3,c4⟩:=QoC A hs hk
 obtain ⟨f1,f2,f3⟩:=Qos (c:=c) (b:=b) hk
 have L:=loc A hs hk
 have H:=nums A hs (V.le s hs)
 have hi:=L.c0
 have hpc:sPc (stAt c b s (ks s))+1=((ks s:Nat):Int)+1:=rfl
 rw [hpc]
 have fin:∀ (y:Qc × List Qd × List Qd),Ys y.1 (((ks s:Nat):Int)+1)=stAt c b s (ks s+1) →
   y.2.1=(List.range (nSt c-1)).map (aQ c b (bump ks s))→y.2.2=(List.range (nSt c-1)).map (bQ c b (bump ks s)) →
   ((QQ (Zd c b ks),(QR (Zd c b ks)).set s (Ys y.1 (((ks s:Nat):Int)+1)),y.2.1,y.2.2):Qn)=Zd c b (bump ks s):=by
  intro y h1 h2 h3
  rw [h1,h2,h3]
  refine Prod.ext rfl (Prod.ext ?_ rfl)
  exact Qe0 _ _ _ _ _ (fun _=>by rw [YD]) (fun j hj hne=>by rw [Zq _ hne])
 have keepA:((insP c b s (ks s)).1≠1)→((insP c b s (ks s)).1≠3)→QD (Zd c b ks)=(List.range (nSt c-1)).map (aQ c b (bump ks s)):=by
  intro h1 h3
  refine Qd0 fun j hj=>?_
  unfold aQ
  by_cases h:j=s
  ·subst h;rw [YD,Zq _ (by omega),c1 (by omega),if_neg h3];simp only [Nat.add_zero]
  ·by_cases h2:j+1=s
   ·subst h2;rw [YD,Zq _ h,c2 (by omega),if_neg h1];simp only [Nat.add_zero]
   ·rw [Zq _ h,Zq _ h2]
 have keepB:((insP c b s (ks s)).1≠4)→((insP c b s (ks s)).1≠7)→QE (Zd c b ks)=(List.range (nSt c-1)).map (bQ c b (bump ks s)):=by
  intro h1 h3
  refine Qd0 fun j hj=>?_
  unfold bQ
  by_cases h:j=s
  ·subst h;rw [YD,Zq _ (by omega),c3 (by omega),if_neg h1];simp only [Nat.add_zero]
  ·by_cases h2:j+1=s
   ·subst h2;rw [YD,Zq _ h,c4 (by omega),if_neg h3];simp only [Nat.add_zero]
   ·rw [Zq _ h,Zq _ h2]
 have hp:∀ j,gtd Zh (QQ (Zd c b ks)) j=prAt b j:=fun j=>rfl
 have hstAt:∀ k1,(insP c b s (ks s)).1=k1→stAt c b s (ks s+1)=st c b s (ks s+1) (F c b s (ks s)+kf (insP c b s (ks s))) (G c b s (ks s)+kg (insP c b s (ks s))) k1:=by
  intro k1 h;unfold stAt;rw [f1,f2,f3,h]
 have hcase:(insP c b s (ks s)).1=1∨(insP c b s (ks s)).1=2∨(insP c b s (ks s)).1=3∨(insP c b s (ks s)).1=4∨(insP c b s (ks s)).1=5∨(insP c b s (ks s)).1=6∨(insP c b s (ks s)).1=7∨(insP c b s (ks s)).1=8:=by omega
 have g9:=L.c9;have g10:=L.c10;have g11:=L.c11;have g12:=L.c12;have g13:=L.c13
 unfold Yg
 simp only [hp]
 rcases hcase with e | e | e | e | e | e | e | e
 ·
  obtain ⟨h0,h1,h2⟩:=L.c1 e
  have hs0:0<s:=by omega
  have hkf:kf (insP c b s (ks s))=0:=by unfold kf;rw [if_neg (by omega)]
  have hkg:kg (insP c b s (ks s))=0:=by unfold kg;rw [if_neg (by omega)]
  have hlt:=E.2.1 e
  have hrc:rc c b s (ks s)=F c b s (ks s):=by unfold rc rcOf;rw [if_neg h2]
  have hq:=QiL (c:=c) (b:=b) ks (s:=s-1) (by omega)
  have hok:=QmC A V (s:=s-1) (by omega)
  have hitems:(aQ c b ks (s-1)).2=(((rc c b s (ks s):Nat):Int),inS c b s (rc c b s (ks s)))::(List.range' (rc c b s (ks s)+1) (sc c b (s-1) (ks (s-1))-(rc c b s (ks s)+1))).map (fun j:Nat=>((j:Int),inS c b s j)):=by
   unfold aQ
   simp only
   rw [show s-1+1=s by omega,show sc c b (s-1) (ks (s-1))-rc c b s (ks s)=(sc c b (s-1) (ks (s-1))-(rc c b s (ks s)+1))+1 by omega,List.range'_succ,List.map_cons]
  have hpop:ZB (aQ c b ks (s-1))=((J5 c (s-1),(List.range' (rc c b s (ks s)+1) (sc c b (s-1) (ks (s-1))-(rc c b s (ks s)+1))).map (fun j:Nat=>((j:Int),inS c b s j))),(((rc c b s (ks s):Nat):Int),inS c b s (rc c b s (ks s))),true):=by
   unfold ZB
   rw [hok,hitems]
   simp [QaJ]
   rfl
  simp only [e,if_true,hq,hpop]
  refine fin (_,_,_) ?_ ?_ (keepB (by omega) (by omega))
  ·rw [hstAt 1 e,hkf,hkg,hrc]
   exact QJS A (fun h=>by have:=g10 h.1 (by omega);omega) (fun h=>by have:=g11 h;omega) (fun h=>by have:=g12 h;omega) (fun h=>by have:=g13 h.1 (by omega);omega)
  ·refine Qe0 _ _ _ _ _ (fun h=>?_) (fun j hj hne=>?_)
   ·unfold aQ
    rw [show s-1+1=s by omega,YD,Zq _ (by omega),c2 hs0,if_pos e]
   ·unfold aQ
    by_cases h:j=s
    ·subst h;rw [YD,Zq _ (by omega),c1 (by omega),if_neg (by omega)];simp only [Nat.add_zero]
    ·rw [Zq _ h,Zq _ (by omega)]
 ·
  obtain ⟨h1,h2⟩:=L.c2 e
  have hkf:kf (insP c b s (ks s))=1:=by unfold kf;rw [if_pos e]
  have hkg:kg (insP c b s (ks s))=0:=by unfold kg;rw [if_neg (by omega)]
  have hf:F c b s (ks s)<b.length:=by omega
  have e2:(insP c b s (ks s)).2.toNat=F c b s (ks s):=by omega
  simp only [e]
  simp
  refine fin (_,_,_) ?_ (keepA (by omega) (by omega)) (keepB (by omega) (by omega))
  rw [hstAt 2 e,hkf,hkg,e2,h1]
  exact QzC A hs (V.le s hs) H hf (fun h=>h2 (by omega)) (fun h=>by have:=g10 h.1 (by omega);omega) (fun h=>by have:=g11 h;omega) (fun h=>by have:=g12 h;omega) (fun h=>by have:=g13 h.1 (by omega);omega)
 ·
  obtain ⟨h0,h1,h2⟩:=L.c3 e
  have hs0:s+1<nSt c:=by omega
  have hkf:kf (insP c b s (ks s))=0:=by unfold kf;rw [if_neg (by omega)]
  have hkg:kg (insP c b s (ks s))=0:=by unfold kg;rw [if_neg (by omega)]
  have hroom:=E.2.2.1 e
  have h16:=L.c16 h2
  have hsc:sc c b s (ks s)=F c b s (ks s)-1:=by unfold sc scOf;rw [if_pos h2]
  have hq:=QiL (c:=c) (b:=b) ks (s:=s) hs0
  have hok:=QmC A V (s:=s) hs0
  have hqa:=V.qa s hs0
  have hb5:=Qbn A
  have hY:sY (stAt c b s (ks s))=inS c b (s+1) (F c b s (ks s)-1):=by
   show vY c b s _ _=_
   unfold vY;rw [if_pos ⟨h2,hs0⟩]
  have hv:=Z2.1 (QaN A (s:=s+1) (j:=F c b s (ks s)-1) (by omega) (by omega))
  have hpush:YW (aQ c b ks s) ((insP c b s (ks s)).2,sY (stAt c b s (ks s)))=((J5 c s,(aQ c b ks s).2++[(((sc c b s (ks s):Nat):Int),inS c b (s+1) (sc c b s (ks s)))]),true):=by
   unfold YW
   rw [hok,hY,h1,hsc]
   have hio:YX (((F c b s (ks s):Nat):Int)-1,inS c b (s+1) (F c b s (ks s)-1))=true:=by
    simp only [YX,Bool.and_eq_true,decide_eq_true_eq];exact ⟨⟨hv.1,by omega⟩,by omega⟩
   rw [hio]
   have hl:(((aQ c b ks s).2.length:Nat):Int)<(aQ c b ks s).1:=by simp only [aQ,List.length_map,List.length_range'];omega
   rw [if_pos (by simp only [Bool.true_and,decide_eq_true_eq];exact hl),show ((F c b s (ks s):Nat):Int)-1=((F c b s (ks s)-1:Nat):Int) by omega]
   rfl
  simp only [e,hq,hpush]
  simp
  refine fin (_,_,_) ?_ ?_ (keepB (by omega) (by omega))
  ·rw [hstAt 3 e,hkf,hkg]
   exact QCs A h2
  ·refine Qe0 _ _ _ _ _ (fun h=>?_) (fun j hj hne=>?_)
   ·unfold aQ
    rw [YD,Zq _ (by omega),c1 hs0,if_pos e]
    rw [show sc c b s (ks s)+1-rc c b (s+1) (ks (s+1))=(sc c b s (ks s)-rc c b (s+1) (ks (s+1)))+1 by omega,List.range'_concat,List.map_append]
    simp only [List.map_cons,List.map_nil,Nat.one_mul]
    rw [show rc c b (s+1) (ks (s+1))+(sc c b s (ks s)-rc c b (s+1) (ks (s+1)))=sc c b s (ks s) by omega]
   ·unfold aQ
    by_cases h:j+1=s
    ·subst h;rw [YD,Zq _ (by omega),c2 (by omega),if_neg (by omega)];simp only [Nat.add_zero]
    ·rw [Zq _ hne,Zq _ h]
 ·
  obtain ⟨h0,h1⟩:=L.c4 e
  have hs0:s+1<nSt c:=by omega
  have hkf:kf (insP c b s (ks s))=0:=by unfold kf;rw [if_neg (by omega)]
  have hkg:kg (insP c b s (ks s))=0:=by unfold kg;rw [if_neg (by omega)]
  have hlt:=E.2.2.2.1 e
  have h2:¬ (K1 c b s (ks s)=4∨(K1 c b s (ks s)=5∧(s:Int)<(nSt c:Nat)-1)):=by
   rintro (h | h)
   ·have:=g11 h;omega
   ·have:=g12 h.1;omega
  have hrg:rg c b s (ks s)=G c b s (ks s):=by unfold rg rgOf;rw [if_neg h2]
  have hq:=Qf2 (c:=c) (b:=b) ks (s:=s) hs0
  have hok:=Qmw A V (s:=s) hs0
  have hitems:(bQ c b ks s).2=(((rg c b s (ks s):Nat):Int),doS c b (s+1) (rg c b s (ks s)))::(List.range' (rg c b s (ks s)+1) (sg c b (s+1) (ks (s+1))-(rg c b s (ks s)+1))).map (fun j:Nat=>((j:Int),doS c b (s+1) j)):=by
   unfold bQ
   simp only
   rw [show sg c b (s+1) (ks (s+1))-rg c b s (ks s)=(sg c b (s+1) (ks (s+1))-(rg c b s (ks s)+1))+1 by omega,List.range'_succ,List.map_cons]
  have hpop:ZB (bQ c b ks s)=((J5 c s,(List.range' (rg c b s (ks s)+1) (sg c b (s+1) (ks (s+1))-(rg c b s (ks s)+1))).map (fun j:Nat=>((j:Int),doS c b (s+1) j))),(((rg c b s (ks s):Nat):Int),doS c b (s+1) (rg c b s (ks s))),true):=by
   unfold ZB
   rw [hok,hitems]
   simp [QaJ]
   rfl
  simp only [e,hq,hpop]
  simp
  refine fin (_,QD (Zd c b ks),(QE (Zd c b ks)).set _ _) ?_ (keepA (by omega) (by omega)) ?_
  ·rw [hstAt 4 e,hkf,hkg,hrg]
   exact QPC A (fun h=>by have:=g9 h;omega) (fun h=>by have:=g10 h.1 (by omega);omega) (fun h=>by have:=g12 h;omega) (fun h=>by have:=g13 h.1 (by omega);omega)
  ·refine Qe0 _ _ _ _ _ (fun h=>?_) (fun j hj hne=>?_)
   ·unfold bQ
    rw [YD,Zq _ (by omega),c3 hs0,if_pos e]
   ·unfold bQ
    by_cases h:j+1=s
    ·subst h;rw [YD,Zq _ (by omega),c4 (by omega),if_neg (by omega)];simp only [Nat.add_zero]
    ·rw [Zq _ hne,Zq _ h]
 ·
  obtain ⟨h0,h1,h2,h3⟩:=L.c5 e
  have hkf:kf (insP c b s (ks s))=0:=by unfold kf;rw [if_neg (by omega)]
  have hkg:kg (insP c b s (ks s))=0:=by unfold kg;rw [if_neg (by omega)]
  simp only [e]
  simp
  refine fin (_,_,_) ?_ (keepA (by omega) (by omega)) (keepB (by omega) (by omega))
  rw [hstAt 5 e,hkf,hkg,h1]
  exact QKm A hs (V.le s hs) H h0 h2 (fun h=>by have:=g9 h;omega) (fun h=>by have:=g10 h.1 (by omega);omega) ⟨fun h=>by have:=L.c18 h;omega,fun h=>h3 (by omega)⟩ (fun h=>by have:=g12 h;omega) (fun h=>by have:=g13 h.1 (by omega);omega)
 ·
  obtain ⟨h1,h2,h3,h4⟩:=L.c6 e
  have hkf:kf (insP c b s (ks s))=0:=by unfold kf;rw [if_neg (by omega)]
  have hkg:kg (insP c b s (ks s))=1:=by unfold kg;rw [if_pos e]
  have e2:(insP c b s (ks s)).2.toNat=G c b s (ks s):=by omega
  simp only [e]
  simp
  refine fin (_,_,_) ?_ (keepA (by omega) (by omega)) (keepB (by omega) (by omega))
  rw [hstAt 6 e,hkf,hkg,e2,h1]
  exact QI6 A hs (V.le s hs) H h2 h3 (fun hr hn=>h4 hr (by omega)) (fun h=>by have:=g9 h;omega) (fun h=>by have:=g10 h.1 (by omega);omega) L.c14 (fun h=>by have:=L.c18 h;omega)
 ·
  obtain ⟨h0,h1,h2⟩:=L.c7 e
  have hs0:0<s:=by omega
  have hkf:kf (insP c b s (ks s))=0:=by unfold kf;rw [if_neg (by omega)]
  have hkg:kg (insP c b s (ks s))=0:=by unfold kg;rw [if_neg (by omega)]
  have hroom:=E.2.2.2.2.1 e
  have h15:=L.c15 h2
  have hsg:sg c b s (ks s)=G c b s (ks s)-1:=by unfold sg sgQ;rw [if_pos h2]
  have hq:=Qf2 (c:=c) (b:=b) ks (s:=s-1) (by omega)
  have hok:=Qmw A V (s:=s-1) (by omega)
  have hqb:=V.qb (s-1) (by omega)
  rw [show s-1+1=s by omega] at hqb
  have hb5:=Qbn A
  have hD:sD (stAt c b s (ks s))=doS c b s (G c b s (ks s)-1):=by
   show vD c b s _ _=_
   unfold vD;rw [if_pos ⟨h2,hs0⟩]
  have hv:=Z2.1 (Qcz A (s:=s) (j:=G c b s (ks s)-1) (by omega) (by omega))
  have hpush:YW (bQ c b ks (s-1)) ((insP c b s (ks s)).2,sD (stAt c b s (ks s)))=((J5 c (s-1),(bQ c b ks (s-1)).2++[(((sg c b s (ks s):Nat):Int),doS c b s (sg c b s (ks s)))]),true):=by
   unfold YW
   rw [hok,hD,h1,hsg]
   have hio:YX (((G c b s (ks s):Nat):Int)-1,doS c b s (G c b s (ks s)-1))=true:=by
    simp only [YX,Bool.and_eq_true,decide_eq_true_eq];exact ⟨⟨hv.1,by omega⟩,by omega⟩
   rw [hio]
   have hl:(((bQ c b ks (s-1)).2.length:Nat):Int)<(bQ c b ks (s-1)).1:=by
    simp only [bQ,List.length_map,List.length_range'];rw [show s-1+1=s by omega];omega
   rw [if_pos (by simp only [Bool.true_and,decide_eq_true_eq];exact hl),show ((G c b s (ks s):Nat):Int)-1=((G c b s (ks s)-1:Nat):Int) by omega]
   rfl
  simp only [e,hq,hpush]
  simp
  refine fin (_,QD (Zd c b ks),(QE (Zd c b ks)).set _ _) ?_ (keepA (by omega) (by omega)) ?_
  ·rw [hstAt 7 e,hkf,hkg]
   exact QAU A h2
  ·refine Qe0 _ _ _ _ _ (fun h=>?_) (fun j hj hne=>?_)
   ·unfold bQ
    rw [show s-1+1=s by omega,YD,Zq _ (by omega),c4 hs0,if_pos e]
    rw [show sg c b s (ks s)+1-rg c b (s-1) (ks (s-1))=(sg c b s (ks s)-rg c b (s-1) (ks (s-1)))+1 by omega,List.range'_concat,List.map_append]
    simp only [List.map_cons,List.map_nil,Nat.one_mul]
    rw [show rg c b (s-1) (ks (s-1))+(sg c b s (ks s)-rg c b (s-1) (ks (s-1)))=sg c b s (ks s) by omega]
   ·unfold bQ
    by_cases h:j=s
    ·subst h;rw [YD,Zq _ (by omega),c3 (by omega),if_neg (by omega)];simp only [Nat.add_zero]
    ·rw [Zq _ h,Zq _ (by omega)]
 ·
  have hkf:kf (insP c b s (ks s))=0:=by unfold kf;rw [if_neg (by omega)]
  have hkg:kg (insP c b s (ks s))=0:=by unfold kg;rw [if_neg (by omega)]
  simp only [e]
  simp
  refine fin (_,_,_) ?_ (keepA (by omega) (by omega)) (keepB (by omega) (by omega))
  rw [hstAt 8 e,hkf,hkg]
  exact QFW A (fun h=>by have:=g9 h;omega) (fun h=>by have:=g10 h.1 (by omega);omega) (fun h=>by have:=g11 h;omega) (fun h=>by have:=g12 h;omega) (fun h=>by have:=g13 h.1 (by omega);omega)
theorem QAP {ks:Nat→Nat} (V:Ok c b ks) {s:Nat} (hs:s<nSt c) (E:¬ En c b ks s):ZS (Zd c b ks) (s:Int)=Zd c b ks:=by
 unfold ZS
 rw [if_neg (fun h=>E ((Qok A V hs).1 h))]
theorem QKr {ks:Nat→Nat} {s:Int} (hs:¬ (0≤s∧s<(nSt c:Nat))):ZS (Zd c b ks) s=Zd c b ks:=by
 have _:=A
 unfold ZS
 rw [if_neg]
 unfold Yy
 rw [Qc1]
 simp only [Bool.and_eq_true,QS]
 omega
theorem QCg {ks:Nat→Nat} (V:Ok c b ks) (s:Int):∃ ks',Ok c b ks'∧ZS (Zd c b ks) s=Zd c b ks'∧(∀ j,ks j≤ks' j)∧((∃ t:Nat,s=t∧t<nSt c∧En c b ks t∧ks'=bump ks t)∨ks'=ks):=by
 by_cases h:0≤s∧s<(nSt c:Nat)
 ·obtain ⟨t,rfl⟩:=Int.eq_ofNat_of_zero_le h.1
  by_cases E:En c b ks t
  ·refine ⟨bump ks t,QrE A V (by omega) E,QDw A V (by omega) E,fun j=>?_,.inl ⟨t,rfl,by omega,E,rfl⟩⟩
   unfold bump;split <;> omega
  ·exact ⟨ks,V,QAP A V (by omega) E,fun _=>Nat.le_refl _,.inr rfl⟩
 ·exact ⟨ks,V,QKr A h,fun _=>Nat.le_refl _,.inr rfl⟩
end
end Go.Proofs.YtjbdljkhbglnhaaGreat.Am
namespace Go.Proofs.YtjbdljkhbglnhaaGreat.Am
open Go Sz
theorem Qn1 {α β:Type} (d:α) (f:α→β) (l:List α):l.map f=(List.range l.length).map fun i=>f (gtd d l i):=by
 apply List.ext_getElem?
 intro i
 simp only [List.getElem?_map]
 by_cases h:i<l.length
 ·rw [List.getElem?_range h,Y6 h d];rfl
 ·rw [List.getElem?_eq_none (by omega),List.getElem?_eq_none (by simp;omega)];rfl
section
variable {c:Ql} {b:List Qg} (A:Adm c b)
include A
theorem QcI:QF c=(nSt c:Nat):=by
 have:=(QcH (c:=c)).2.2.2 A.cuts
 rw [this];simp [nSt]
theorem QNO {s:Nat} (hs:s<nSt c):1≤lenP c b s:=by
 have h:=(QeU A hs).2.2
 apply Classical.byContradiction
 intro hn
 rw [show lenP c b s=0 by omega] at h
 simp [K1,Y5] at h
omit A in
theorem Qv6 (n micro:Int):∀ k:Nat,Qak c n micro k=(List.range k).map fun s:Nat =>
  Qax (slice (Qw c) (Qq (Qw c) (Qt c) s).1 (Qq (Qw c) (Qt c) s).2) (Yn (cDs c) n s micro (gtd false (JY c) s)) (decide ((s:Int)=n-1)) (gtd false (JY c) s)
 | 0=>rfl
 | k+1=>by rw [Qak,Qv6 n micro k,List.range_succ,List.map_append];rfl
theorem QGI:Yt c b=Zd c b (fun _=>0):=by
 unfold Yt
 rw [if_pos (QNm A),QcI A,Qv6,Int.toNat_natCast]
 refine Prod.ext rfl (Prod.ext ?_ (Prod.ext ?_ ?_))
 ·refine Qd0 fun s hs=>?_
  have hm:=(QeA A hs).1
  have e:slice (Qw c) (Qq (Qw c) (Qt c) (s:Int)).1 (Qq (Qw c) (Qt c) (s:Int)).2=opS c s:=QtD A.cuts (by simp only [nSt] at hs;omega)
  rw [e]
  unfold Qax
  rw [if_pos hm]
  have e2:decide ((s:Int)=((nSt c:Nat):Int)-1)=Zb c s:=by
   simp only [Zb];rw [Bool.eq_iff_iff];simp only [decide_eq_true_eq];omega
  rw [e2]
  simp [stAt,st,F,G,K1,cf,cg,Y5,Z7,Jp,vX,vY,vG,vD,Qaa,Y2,satV,YL,Z4]
 ·have e:=Qiu A
  show (JN c).map (fun n=>((n,[]):Qd))=_
  rw [Qn1 (0:Int),e]
  refine Qd0 fun s hs=>?_
  simp [aQ,rc,sc,F,K1,cf,Y5,rcOf,scOf]
 ·have e:=Qiu A
  show (JN c).map (fun n=>((n,[]):Qd))=_
  rw [Qn1 (0:Int),e]
  refine Qd0 fun s hs=>?_
  simp [bQ,rg,sg,G,K1,cg,Y5,rgOf,sgQ]
theorem QCu:Ok c b (fun _=>0):=by
 refine ⟨fun s hs=>Nat.zero_le _,fun s hs=>?_,fun s hs=>?_,fun h=>?_⟩
 ·have:=Qit A hs
  simp [rc,sc,F,K1,cf,Y5,rcOf,scOf];omega
 ·have:=Qit A hs
  simp [rg,sg,G,K1,cg,Y5,rgOf,sgQ];omega
 ·obtain ⟨s,hs,e⟩:=h
  have:=QNO A hs
  omega
def left (c:Ql) (b:List Qg) (ks:Nat→Nat):Nat:=((List.range (nSt c)).map fun s=>lenP c b s-ks s).sum
end
end Go.Proofs.YtjbdljkhbglnhaaGreat.Am
namespace Go.Proofs.YtjbdljkhbglnhaaGreat.Am
open Go Sz
theorem Qu3:∀ {l:List TOp'} {i o:Int} {x:List Int},ZI i l o→Qs x i=true→((Qz l x).1.map fun r=>(r.length:Int)).sum=(l.map fun a=>a.2.1).sum+o
 | [],i,o,x,h,hx=>by
  have:=(Z2.1 hx).2
  have h':i=o:=h
  simp [Qz];omega
 | a::r,i,o,x,h,hx=>by
  obtain ⟨h1,h2,h3⟩:=h
  have hx':=(Z2.1 hx).2
  have:=Qu3 h3 (QfU h1 (by rw [h2];exact hx))
  rw [Qz]
  simp only [List.map_cons,List.sum_cons,this]
  omega
theorem QmS:∀ {l:List TOp'} {i o:Int},ZI i l o→0≤(l.map fun a=>a.2.1).sum∧(l.map fun a=>a.2.1).sum≤6*l.length
 | [],i,o,h=>by simp
 | a::r,i,o,h=>by
  have:=QbR h.1
  have:=QmS h.2.2
  simp only [List.map_cons,List.sum_cons,List.length_cons];omega
section
variable {c:Ql} {b:List Qg} (A:Adm c b)
include A
def JG (c:Ql) (s:Nat):Int:=((opS c s).map fun a=>a.2.1).sum+dimI (Qw c) (Qt c) (s+1)
theorem QcU {s:Nat} (hs:s≤nSt c):1≤dimI (Qw c) (Qt c) s∧dimI (Qw c) (Qt c) s≤6:=by
 have hb:=Qbn A
 have h:=Z2.1 (QaN A (b:=b) (s:=s) (j:=0) hs (by omega))
 have:=(Yz.1 h.1).1
 omega
theorem Qll {s:Nat} (hs:s<nSt c):dimI (Qw c) (Qt c) s≤JG c s∧dimI (Qw c) (Qt c) (s+1)≤JG c s∧JG c s≤54:=by
 have hs':s≤(Qt c).length:=by simp only [nSt] at hs;omega
 have hch:=Qcr A.cuts hs'
 have h1:=QmS hch
 have h2:=Qb8 A.cuts hs'
 have h3:=QcU A (s:=s+1) (by omega)
 have h4:=QcU A (s:=s) (by omega)
 have h5:dimI (Qw c) (Qt c) s≤((opS c s).map fun a=>a.2.1).sum:=by
  cases hq:opS c s with
  | nil =>
   have:(opS c s).length=0:=by rw [hq];rfl
   have h2':1≤(opS c s).length:=h2.1
   omega
  | cons a r =>
   have hch':ZI (dimI (Qw c) (Qt c) s) (opS c s) (dimI (Qw c) (Qt c) (s+1)):=hch
   rw [hq] at hch'
   have:=hch'.2.1
   have:=QmS hch'.2.2
   simp only [List.map_cons,List.sum_cons];omega
 have h2':(opS c s).length≤8:=h2.2
 have h1':((opS c s).map fun a=>a.2.1).sum≤6*(opS c s).length:=h1.2
 unfold JG
 omega
theorem Qx5 {s:Nat} (hs:s<nSt c):Ye c (s:Int)=JG c s:=by
 have hs':s≤(Qt c).length:=by simp only [nSt] at hs;omega
 have hlt:=Qd4 A.cuts hs'
 have hle:=QfY A.cuts (s:=s+1)
 have hf:=Qll A hs
 have hd:=QcU A (s:=s) (by omega)
 have e1:=QtD A.cuts hs'
 have e2:=QnQ A.cuts hs'
 have hch:=Qcr A.cuts hs'
 have hpos:=Qb8 A.cuts hs'
 have hout:=hch.out_eq (by intro e;rw [e] at hpos;simp at hpos)
 have hlen:=QkU A.cuts hs'
 have hg:gtd dOp (Qw c) (Q2 (Qw c) (Qt c) (s+1)-1)=gtd dOp (Zj (Qw c) (Qt c) s) ((Zj (Qw c) (Qt c) s).length-1):=by
  have h0:(Zj (Qw c) (Qt c) s)[(Zj (Qw c) (Qt c) s).length-1]? = (Qw c)[Q2 (Qw c) (Qt c) (s+1)-1]?:=by
   rw [hlen]
   unfold Zj
   rw [List.getElem?_take,if_pos (by omega),List.getElem?_drop]
   congr 1;omega
  have h1:(Qw c)[Q2 (Qw c) (Qt c) (s+1)-1]? = some (gtd dOp (Qw c) (Q2 (Qw c) (Qt c) (s+1)-1)):=Y6 (by omega) dOp
  rw [h1] at h0
  exact (Qcg h0 dOp).symm
 unfold Ye
 simp only
 have e1':slice c.1 (Qq c.1 c.2.1 (s:Int)).1 (Qq c.1 c.2.1 (s:Int)).2=Zj (Qw c) (Qt c) s:=e1
 have e2':Qq c.1 c.2.1 (s:Int)=_:=e2
 rw [e1',e2',if_pos (by simp only;omega)]
 simp only [Int.toNat_natCast]
 have hg':gtd dOp c.1 (Q2 (Qw c) (Qt c) (s+1)-1)=_:=hg
 rw [hg',hout]
 show w64 (JG c s)=JG c s
 exact Qp (by omega) (by omega)
theorem Qx7 {s:Nat} (hs:s<nSt c):ZU c (s:Int)=(dimI (Qw c) (Qt c) s,dimI (Qw c) (Qt c) (s+1)):=by
 have hs':s≤(Qt c).length:=by simp only [nSt] at hs;omega
 have hlt:=Qd4 A.cuts hs'
 have hle:=QfY A.cuts (s:=s+1)
 have e2:=QnQ A.cuts hs'
 have hch:=Qcr A.cuts hs'
 have hpos:=Qb8 A.cuts hs'
 have hout:=hch.out_eq (by intro e;rw [e] at hpos;simp at hpos)
 have hlen:=QkU A.cuts hs'
 have hget:∀ k,k<(Zj (Qw c) (Qt c) s).length→gtd dOp (Qw c) (Q2 (Qw c) (Qt c) s+k)=gtd dOp (Zj (Qw c) (Qt c) s) k:=by
  intro k hk
  have h0:(Zj (Qw c) (Qt c) s)[k]? = (Qw c)[Q2 (Qw c) (Qt c) s+k]?:=by
   rw [hlen] at hk
   unfold Zj
   rw [List.getElem?_take,if_pos (by omega),List.getElem?_drop]
  have h1:(Qw c)[Q2 (Qw c) (Qt c) s+k]? = some (gtd dOp (Qw c) (Q2 (Qw c) (Qt c) s+k)):=Y6 (by omega) dOp
  rw [h1] at h0
  exact (Qcg h0 dOp).symm
 have hin:(gtd dOp (Zj (Qw c) (Qt c) s) 0).2.1=dimI (Qw c) (Qt c) s:=by
  have hch':=hch
  cases hq:Zj (Qw c) (Qt c) s with
  | nil=>rw [hq] at hpos;simp at hpos
  | cons a r=>rw [hq] at hch';rw [QaJ];exact hch'.2.1
 unfold ZU
 simp only
 have e2':Qq c.1 c.2.1 (s:Int)=_:=e2
 rw [e2',if_neg (by simp only;omega)]
 simp only [Int.toNat_natCast]
 have h1:=hget 0 (by omega)
 have h2:=hget ((Zj (Qw c) (Qt c) s).length-1) (by omega)
 rw [Nat.add_zero] at h1
 rw [show Q2 (Qw c) (Qt c) s+((Zj (Qw c) (Qt c) s).length-1)=Q2 (Qw c) (Qt c) (s+1)-1 by omega] at h2
 have h1':gtd dOp c.1 (Q2 (Qw c) (Qt c) s)=_:=h1
 have h2':gtd dOp c.1 (Q2 (Qw c) (Qt c) (s+1)-1)=_:=h2
 rw [h1',h2',hin,hout]
theorem Qwj {s:Nat} (hs:s<nSt c):YT c (s:Int)=Z4 c s:=by
 have:=A.redo
 unfold YT
 have h1:decide ((0:Int)≤(s:Int))=true:=by simp
 have h2:decide ((s:Int)<(c.2.2.2.1.length:Int))=true:=by simp only [decide_eq_true_eq];simp only [JY,nSt] at *;omega
 rw [h1,h2,Int.toNat_natCast];rfl
def Z6 (c:Ql) (s:Nat):Int:=if Z4 c s then dimI (Qw c) (Qt c) s else JG c s
theorem QHt {s:Nat} (hs:s<nSt c):Y3 c (s:Int)=Z6 c s:=by
 unfold Y3 Z6
 rw [Qwj A hs,Qx7 A hs,Qx5 A hs]
def cntS (c:Ql) (b:List Qg) (s:Nat):Int:=if cDs c=2 then iMin b.length ((nSt c:Nat)-s) else b.length
theorem QNP {s:Nat} (hs:s<nSt c):Zs c (s:Int) b.length=cntS c b s*Z6 c s+iMax (dimI (Qw c) (Qt c) s) (dimI (Qw c) (Qt c) (s+1))+(if Z4 c s then JG c s else 0)∧Zs c (s:Int) b.length≤1000∧0≤Zs c (s:Int) b.length:=by
 have hb:=Qbn A
 have hn:=QdQ A
 have hst:=QcI A
 have hf:=Qll A hs
 have hd:=QcU A (s:=s) (by omega)
 have hd2:=QcU A (s:=s+1) (by omega)
 have hk:1≤cntS c b s∧cntS c b s≤5:=by unfold cntS iMin;split <;> (try split) <;> omega
 have hsv:1≤Z6 c s∧Z6 c s≤54:=by unfold Z6;split <;> omega
 have hmul:0≤cntS c b s*Z6 c s∧cntS c b s*Z6 c s≤270:=by
  constructor
  ·exact Int.mul_nonneg (by omega) (by omega)
  ·have:=Int.mul_le_mul hk.2 hsv.2 (by omega) (by omega:(0:Int)≤5)
   omega
 have hmx:1≤iMax (dimI (Qw c) (Qt c) s) (dimI (Qw c) (Qt c) (s+1))∧iMax (dimI (Qw c) (Qt c) s) (dimI (Qw c) (Qt c) (s+1))≤6:=by unfold iMax;split <;> omega
 have e:Zs c (s:Int) b.length=cntS c b s*Z6 c s+iMax (dimI (Qw c) (Qt c) s) (dimI (Qw c) (Qt c) (s+1))+(if Z4 c s then JG c s else 0):=by
  unfold Zs
  rw [if_pos (by rw [hst];simp only [Bool.and_eq_true,QS,decide_eq_true_eq];omega)]
  simp only
  rw [Qx7 A hs,QHt A hs,Qwj A hs,Qx5 A hs,hst]
  have ec:(if c.2.2.1=2 then iMin (b.length:Int) (((nSt c:Nat):Int)-(s:Int)) else (b.length:Int))=cntS c b s:=rfl
  rw [ec]
  simp only
  cases Z4 c s with
  | true =>
   simp only [if_true]
   rw [Qp (x:=cntS c b s*Z6 c s) (by omega) (by omega),Qp (x:=cntS c b s*Z6 c s+_) (by omega) (by omega)]
   exact Qp (by omega) (by omega)
  | false =>
   simp only [Bool.false_eq_true,if_false]
   rw [Qp (x:=cntS c b s*Z6 c s) (by omega) (by omega),Qp (x:=cntS c b s*Z6 c s+_) (by omega) (by omega)]
   exact Qp (by omega) (by omega)
 refine ⟨e,?_,?_⟩ <;> (rw [e];split <;> omega)
theorem Qst {s k:Nat} (hs:s<nSt c) (hk:k≤lenP c b s):ZJ (stAt c b s k)≤Zs c (s:Int) b.length∧0≤ZJ (stAt c b s k):=by
 have hs':s≤(Qt c).length:=by simp only [nSt] at hs;omega
 have H:=nums A hs hk
 have hb:=Qbn A
 have hn:=QdQ A
 have hf:=Qll A hs
 have hd:=QcU A (s:=s) (by omega)
 have hd2:=QcU A (s:=s+1) (by omega)
 obtain ⟨hpk,_,_⟩:=QNP A hs
 have hfull:∀ j,j<b.length→((rowS c b s j).map fun r=>(r.length:Int)).sum=JG c s:=fun j hj=>Qu3 (Qcr A.cuts hs') (QaN A (by omega) hj)
 have hkept:∀ j,j<b.length→((JC c s (rowS c b s j)).map fun r=>(r.length:Int)).sum=Z6 c s:=by
  intro j hj
  unfold JC Z6
  cases hr:Z4 c s with
  | false=>simp only [Bool.false_eq_true,if_false];exact hfull j hj
  | true =>
   simp only [if_true]
   have h0:gtd [] (rowS c b s j) 0=inS c b s j:=Qox A.cuts (Qaf A hj)
   have hl:(rowS c b s j).length=(opS c s).length+1:=Qhv A.cuts (Qaf A hj)
   have hv:=(Z2.1 (QaN A (s:=s) (j:=j) (by omega) hj)).2
   cases hq:rowS c b s j with
   | nil=>rw [hq] at hl;simp at hl
   | cons x r =>
    rw [hq,QaJ] at h0
    rw [h0]
    simp only [List.take_succ_cons,List.take_zero,List.map_cons,List.map_nil,List.sum_cons,List.sum_nil]
    omega
 have hstash:∀ f g:Nat,g≤f→f≤b.length→((Z7 c b s f g).map fun x=>(x.2.map fun r=>(r.length:Int)).sum).sum=((f-g:Nat):Int)*Z6 c s:=by
  intro f g hgf hfb
  unfold Z7
  rw [List.map_map]
  have:∀ n g,g+n≤b.length→((List.range' g n).map ((fun x:Z8=>(x.2.map fun r=>(r.length:Int)).sum) ∘ fun j:Nat=>((j:Int),JC c s (rowS c b s j)))).sum=(n:Int)*Z6 c s:=by
   intro n
   induction n with
   | zero=>intro g _;simp
   | succ n ih =>
    intro g hg
    rw [List.range'_succ,List.map_cons,List.sum_cons,ih (g+1) (by omega)]
    have:=hkept g (by omega)
    simp only [Function.comp_apply,this]
    rw [show ((n+1:Nat):Int)=(n:Int)+1 by omega,Int.add_mul];omega
  exact this (f-g) g (by omega)
 have hX:∀ f,(k1e:K1 c b s k=1→f<b.length)→((vX c b s f (K1 c b s k)).length:Int)=if K1 c b s k=1 then dimI (Qw c) (Qt c) s else 0:=by
  intro f hf'
  unfold vX;split
  ·rename_i h;exact (Z2.1 (QaN A (by omega) (hf' h))).2
  ·rfl
 have hY:((vY c b s (F c b s k) (K1 c b s k)).length:Int)=if K1 c b s k=2∧s+1<nSt c then dimI (Qw c) (Qt c) (s+1) else 0:=by
  unfold vY;split
  ·rename_i h;exact (Z2.1 (QaN A (by omega) (by have:=H.k2 h.1;have:=H.fM;omega))).2
  ·rfl
 have hG:((vG c b s (G c b s k) (K1 c b s k)).length:Int)=if K1 c b s k=4∨(K1 c b s k=5∧s+1<nSt c) then dimI (Qw c) (Qt c) (s+1) else 0:=by
  unfold vG;split
  ·rename_i h
   have:G c b s k<F c b s k:=H.k45 (h.imp id (fun h=>h.1))
   exact (Z2.1 (Qcz A (by omega) (by have:=H.fM;omega))).2
  ·rfl
 have hD:((vD c b s (G c b s k) (K1 c b s k)).length:Int)=if K1 c b s k=6∧0<s then dimI (Qw c) (Qt c) s else 0:=by
  unfold vD;split
  ·rename_i h;exact (Z2.1 (Qcz A (by omega) (by have:=H.k6 h.1;have:=H.gf;have:=H.fM;omega))).2
  ·rfl
 have hFl:((Jp c b s (G c b s k) (K1 c b s k)).map fun r=>(r.length:Int)).sum=if K1 c b s k=5 then JG c s else 0:=by
  unfold Jp;split
  ·rename_i h
   have:G c b s k<F c b s k:=H.k45 (.inr h)
   exact hfull _ (by have:=H.fM;omega)
  ·rfl
 have hcnt:((F c b s k-G c b s k:Nat):Int)≤cntS c b s:=by
  unfold cntS iMin
  by_cases hl:k<lenP c b s
  ·have L:=loc A hs hl
   have h26:=L.c26
   have:=H.fM
   split
   ·rename_i e;have:=h26 e;split <;> omega
   ·omega
  ·have hk':k=lenP c b s:=by omega
   subst hk'
   obtain ⟨h1,h2,h3⟩:=QeU A hs
   rw [h1,h2]
   split <;> (try split) <;> omega
 have h5:K1 c b s k=5→Z4 c s=true:=by
  intro h
  by_cases hl:k<lenP c b s
  ·exact (loc A hs hl).c14 h
  ·have hk':k=lenP c b s:=by omega
   subst hk'
   have:=(QeU A hs).2.2
   omega
 have hsv:1≤Z6 c s∧Z6 c s≤54:=by unfold Z6;split <;> omega
 have hmul:((F c b s k-G c b s k:Nat):Int)*Z6 c s≤cntS c b s*Z6 c s:=Int.mul_le_mul_of_nonneg_right hcnt (by omega)
 have hmul0:0≤((F c b s k-G c b s k:Nat):Int)*Z6 c s:=Int.mul_nonneg (by omega) (by omega)
 have hmul5:((F c b s k-G c b s k:Nat):Int)*Z6 c s≤270:=by
  have h1:((F c b s k-G c b s k:Nat):Int)≤5:=by have:=H.fM;omega
  have:=Int.mul_le_mul h1 hsv.2 (by omega) (by omega:(0:Int)≤5)
  omega
 have hS:=hstash (F c b s k) (G c b s k) H.gf H.fM
 have hX:=hX (F c b s k) H.k1
 have hx1:((stAt c b s k).2.2.2.2.2.2.2.1.length:Int)=if K1 c b s k=1 then dimI (Qw c) (Qt c) s else 0:=hX
 have hy1:((stAt c b s k).2.2.2.2.2.2.2.2.1.length:Int)=_:=hY
 have hg1:((stAt c b s k).2.2.2.2.2.2.2.2.2.1.length:Int)=_:=hG
 have hd1:((stAt c b s k).2.2.2.2.2.2.2.2.2.2.1.length:Int)=_:=hD
 have hf1:((stAt c b s k).2.2.2.2.2.2.1.map fun r=>(r.length:Int)).sum=_:=hFl
 have hs1:((stAt c b s k).2.2.2.2.2.1.map fun x=>(x.2.map fun r=>(r.length:Int)).sum).sum=_:=hS
 have hmx:dimI (Qw c) (Qt c) s≤iMax (dimI (Qw c) (Qt c) s) (dimI (Qw c) (Qt c) (s+1))∧dimI (Qw c) (Qt c) (s+1)≤iMax (dimI (Qw c) (Qt c) s) (dimI (Qw c) (Qt c) (s+1))∧iMax (dimI (Qw c) (Qt c) s) (dimI (Qw c) (Qt c) (s+1))≤6:=by unfold iMax;split <;> omega
 unfold ZJ
 rw [hx1,hy1,hg1,hd1,hf1,hs1,hpk]
 generalize K1 c b s k=k1 at *
 generalize ((F c b s k-G c b s k:Nat):Int)*Z6 c s=z1 at *
 generalize cntS c b s*Z6 c s=z2 at *
 generalize iMax (dimI (Qw c) (Qt c) s) (dimI (Qw c) (Qt c) (s+1))=mx at *
 generalize dimI (Qw c) (Qt c) s=di at *
 generalize dimI (Qw c) (Qt c) (s+1)=dj at *
 generalize JG c s=fl at *
 by_cases e1:k1=1
 ·subst e1;simp;rw [Qp (by omega) (by omega)];split <;> omega
 by_cases e2:k1=2
 ·subst e2;simp;split <;> (rw [Qp (by omega) (by omega)];split <;> omega)
 by_cases e4:k1=4
 ·subst e4;simp;rw [Qp (by omega) (by omega)];split <;> omega
 by_cases e5:k1=5
 ·subst e5;simp [h5];split <;> (rw [Qp (by omega) (by omega)];omega)
 by_cases e6:k1=6
 ·subst e6;simp;split <;> (rw [Qp (by omega) (by omega)];split <;> omega)
 simp [e1,e2,e4,e5,e6]
 rw [Qp (by omega) (by omega)]
 split <;> omega
theorem QqQ:∀ (l:List Int) (s:Int) (k:Nat),JX c b.length l s=true→k<l.length→Zs c (s+k) b.length≤gtd 0 l k∧gtd 0 l k≤100000
 | [],s,k,h,hk=>by have _:=A;simp at hk
 | n::r,s,k,h,hk=>by
  simp only [JX,Bool.and_eq_true,QS] at h
  cases k with
  | zero=>rw [QaJ];simpa using h.1
  | succ k =>
   rw [QoR]
   have:=QqQ r (s+1) k h.2 (by simpa using hk)
   rwa [show s+1+(k:Int)=s+((k+1:Nat):Int) by omega] at this
theorem QMh {s:Nat} (hs:s<nSt c):Zs c (s:Int) b.length≤gtd 0 (Qik c) s:=by
 have h:=A.limits
 simp only [YB,Bool.and_eq_true,beq_iff_eq] at h
 have hst:=QcI A
 have:=(QqQ A _ 0 s h.2 (by omega)).1
 simpa using this
theorem QCq:(Qik c).length=nSt c:=by
 have h:=A.limits
 simp only [YB,Bool.and_eq_true,beq_iff_eq] at h
 have hst:=QcI A
 simp only [Qik];omega
theorem QJ1 {ks:Nat→Nat} (V:Ok c b ks):YJ c (Zd c b ks)=true:=by
 have hst:=QcI A
 have hl:=QCq A
 have go:∀ (n s:Nat),s+n=nSt c→J4 c b.length ((List.range' s n).map fun s=>stAt c b s (ks s)) (s:Int)=true:=by
  intro n
  induction n with
  | zero=>intro s _;rfl
  | succ n ih =>
   intro s h
   have hs:s<nSt c:=by omega
   rw [List.range'_succ,List.map_cons,J4]
   have h1:=(Qst A hs (V.le s hs)).1
   have h2:=QMh A hs
   have:=ih (s+1) (by omega)
   rw [show ((s+1:Nat):Int)=(s:Int)+1 by omega] at this
   rw [this,Bool.and_true,decide_eq_true_eq,Int.toNat_natCast]
   unfold iMin;split
   ·have h2':Zs c (s:Int) b.length≤gtd 0 c.2.2.2.2.2 s:=h2;omega
   ·exact h1
 have hg:=go (nSt c) 0 (by omega)
 rw [← List.range_eq_range'] at hg
 unfold YJ
 have e1:((Zd c b ks).2.1.length:Int)=QF c:=by rw [hst];have:=Qc1 (c:=c) (b:=b) ks;simp only [QR] at this;omega
 have e2:(c.2.2.2.2.2.length:Int)=QF c:=by rw [hst];simp only [Qik] at hl;omega
 rw [e1,e2]
 simp only [beq_self_eq_true,Bool.true_and]
 exact hg
theorem QNV {ks:Nat→Nat} (V:Ok c b ks):ZR (Zd c b ks)=true:=by
 have h:=Qpb A V
 simp only [ZZ,Bool.and_eq_true,List.all_eq_true] at h
 unfold ZR
 simp only [Bool.and_eq_true,List.all_eq_true]
 have hq:∀ q,Zr q=true→Je q=true:=by
  intro q hq
  simp only [Zr,Bool.and_eq_true,decide_eq_true_eq] at hq
  simp only [Je,decide_eq_true_eq]
  omega
 exact ⟨fun q hm=>hq q (h.2.1.2.1 q hm),fun q hm=>hq q (h.2.1.2.2 q hm)⟩
theorem QuB (ks:Nat→Nat):Y9 (Zd c b ks)=(List.range (nSt c)).map fun s=>((F c b s (ks s)-G c b s (ks s):Nat):Int):=by
 have _:=A
 unfold Y9
 show ((List.range (nSt c)).map _).map _=_
 rw [List.map_map]
 refine Qd0 fun s hs=>?_
 show ((Z7 c b s _ _).length:Int)=_
 unfold Z7;simp
theorem QGa {ks:Nat→Nat} (V:Ok c b ks) {s:Nat} (hs:s<nSt c):((F c b s (ks s)-G c b s (ks s):Nat):Int)≤cntS c b s:=by
 have H:=nums A hs (V.le s hs)
 unfold cntS iMin
 by_cases hl:ks s<lenP c b s
 ·have L:=loc A hs hl
  have h26:=L.c26
  have:=H.fM
  split
  ·rename_i e;have:=h26 e;split <;> omega
  ·omega
 ·have hk':ks s=lenP c b s:=by have:=V.le s hs;omega
  rw [hk']
  obtain ⟨h1,h2,h3⟩:=QeU A hs
  rw [h1,h2]
  split <;> (try split) <;> omega
end
end Go.Proofs.YtjbdljkhbglnhaaGreat.Am

