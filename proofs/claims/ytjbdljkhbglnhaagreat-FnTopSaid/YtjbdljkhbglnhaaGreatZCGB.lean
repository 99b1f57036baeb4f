/- -/
import Derived.Test.YtjbdljkhbglnhaaGreatZCGA
set_option linter.all false
namespace Go.Proofs.YtjbdljkhbglnhaaGreat.Am
open Go Sz
theorem Qpq {α:Type} (d:α) (n:Nat) (f:Nat→α) {k:Nat} (hk:k<n):gtd d ((List.range n).map f) k=f k :=
 Qd4 (by rw [List.getElem?_map,List.getElem?_range hk];rfl) d
theorem Qf6 {α:Type} (n:Nat) (f g:Nat→α) (k:Nat) (v:α) (hv:k<n→v=g k) (h:∀ j,j<n→j≠k→f j=g j):((List.range n).map f).set k v=(List.range n).map g:=by
 apply List.ext_getElem?
 intro i
 rw [List.getElem?_set]
 simp only [List.length_map,List.length_range,List.getElem?_map]
 by_cases hi:i<n
 ·rw [List.getElem?_range hi]
  by_cases hk:k=i
  ·subst hk
   rw [if_pos rfl,if_pos hi,hv hi];rfl
  ·rw [if_neg hk]
   simp only [Option.map_some]
   rw [h i hi (fun e=>hk e.symm)]
 ·rw [List.getElem?_eq_none (by simp;omega)]
  split
  ·rename_i e;rw [if_neg (by omega)];rfl
  ·rfl
theorem Qa4 {α:Type} {n:Nat} {f g:Nat→α} (h:∀ j,j<n→f j=g j):(List.range n).map f=(List.range n).map g :=
 List.map_congr_left (fun j hj=>h j (List.mem_range.1 hj))
def bump (ks:Nat→Nat) (s:Nat):Nat→Nat:=fun j=>if j=s then ks j+1 else ks j
theorem YL (ks:Nat→Nat) (s:Nat):bump ks s s=ks s+1:=by simp [bump]
theorem ZF (ks:Nat→Nat) {s j:Nat} (h:j≠s):bump ks s j=ks j:=by simp [bump,h]
section
variable {c:Qo} {b:List Qi} (A:Adm c b)
include A
omit A in
theorem QC9 (ks:Nat→Nat) {s:Nat} (hs:s<nSt c):gtd QT (QB (QW c b ks)) s=stAt c b s (ks s):=Qpq _ _ _ hs
omit A in
theorem Qi6 (ks:Nat→Nat) {s:Nat} (hs:s+1<nSt c):gtd Q2 (Qz (QW c b ks)) s=aQ c b ks s:=Qpq _ _ _ (by omega)
omit A in
theorem Qhb (ks:Nat→Nat) {s:Nat} (hs:s+1<nSt c):gtd Q2 (QA (QW c b ks)) s=bQ c b ks s:=Qpq _ _ _ (by omega)
omit A in
theorem QaF (ks:Nat→Nat):(QB (QW c b ks)).length=nSt c:=by
 show ((List.range (nSt c)).map _).length=_
 simp
theorem QtL {s k:Nat} (hs:s<nSt c) (hk:k≤lenP c b s):sc c b s k≤b.length∧rc c b s k≤b.length∧rg c b s k≤b.length∧sg c b s k≤b.length:=by
 have H:=nums A hs hk
 have h1:=H.gf;have h2:=H.fM;have h3:=H.k1;have h4:=H.k45
 unfold sc rc rg sg scOf rcOf rgOf sgQ
 refine ⟨?_,?_,?_,?_⟩
 ·split <;> omega
 ·split
  ·rename_i h;have:=h3 h;omega
  ·omega
 ·split
  ·rename_i h;have:=h4 (h.imp id (fun h=>h.1));omega
  ·omega
 ·split <;> omega
theorem QqO {ks:Nat→Nat} (V:Ok c b ks) {s:Nat} (hs:s+1<nSt c):ZK (aQ c b ks s)=true:=by
 have hc:=QaJ A hs
 have hq:=V.qa s hs
 have hb:=QbE A
 have hl:=(QtL A (s:=s) (by omega) (V.le s (by omega))).1
 unfold ZK aQ
 simp only [Bool.and_eq_true,decide_eq_true_eq,List.length_map,List.length_range',List.all_eq_true]
 refine ⟨⟨⟨hc.1,hc.2⟩,by omega⟩,fun x hx=>?_⟩
 obtain ⟨j,hj,rfl⟩:=List.mem_map.1 hx
 rw [List.mem_range'_1] at hj
 have:=YD.1 (QfN A (s:=s+1) (j:=j) (by omega) (by omega))
 simp only [Y4,Bool.and_eq_true,decide_eq_true_eq]
 exact ⟨⟨this.1,by omega⟩,by omega⟩
theorem QmR {ks:Nat→Nat} (V:Ok c b ks) {s:Nat} (hs:s+1<nSt c):ZK (bQ c b ks s)=true:=by
 have hc:=QaJ A hs
 have hq:=V.qb s hs
 have hb:=QbE A
 have hl:=(QtL A (s:=s+1) (by omega) (V.le (s+1) (by omega))).2.2.2
 unfold ZK bQ
 simp only [Bool.and_eq_true,decide_eq_true_eq,List.length_map,List.length_range',List.all_eq_true]
 refine ⟨⟨⟨hc.1,hc.2⟩,by omega⟩,fun x hx=>?_⟩
 obtain ⟨j,hj,rfl⟩:=List.mem_map.1 hx
 rw [List.mem_range'_1] at hj
 have:=YD.1 (Qf1 A (s:=s+1) (j:=j) (by omega) (by omega))
 simp only [Y4,Bool.and_eq_true,decide_eq_true_eq]
 exact ⟨⟨this.1,by omega⟩,by omega⟩
theorem QwB {ks:Nat→Nat} (V:Ok c b ks):∀ (n s:Nat),s+n=nSt c→Qa1 b.length ((List.range' s n).map fun s=>stAt c b s (ks s))=true
 | 0,s,h=>rfl
 | n+1,s,h=>by
  have hs:s<nSt c:=by omega
  have ih:=QwB V n (s+1) (by omega)
  rw [List.range'_succ,List.map_cons,Qa1,ih]
  have h1:Zn (stAt c b s (ks s))=true:=QiJ A hs (V.le s hs) (nums A hs (V.le s hs))
  have h2:(((stAt c b s (ks s)).2.2.2.1:Bool)==decide (((List.range' (s+1) n).map fun s=>stAt c b s (ks s)).length=0))=true:=by
   simp only [stAt,st,Zc,List.length_map,List.length_range',beq_iff_eq]
   rw [Bool.eq_iff_iff];simp only [decide_eq_true_eq];omega
  have h3:(stAt c b s (ks s)).2.1.all (fun x=>m_in x.2 0 ((b.length:Int)-1))=true:=by
   rw [QOo dIns]
   intro k hk
   have L:=(loc A hs (k:=k) hk).c0
   rw [QR]
   have e:gtd dIns (stAt c b s (ks s)).2.1 k=insP c b s k:=rfl
   rw [e];omega
  rw [h1,h2,h3];rfl
theorem Quv {ks:Nat→Nat} (V:Ok c b ks):Yb (QW c b ks)=true:=by
 have hn:=JV A
 have hb:=QbE A
 have hg:=QwB A V (nSt c) 0 (by omega)
 rw [← List.range_eq_range'] at hg
 have ha:(Qz (QW c b ks)).all ZK=true:=by
  rw [List.all_eq_true]
  intro q hq
  obtain ⟨j,hj,rfl⟩:=List.mem_map.1 hq
  exact QqO A V (by have:=List.mem_range.1 hj;omega)
 have hbk:(QA (QW c b ks)).all ZK=true:=by
  rw [List.all_eq_true]
  intro q hq
  obtain ⟨j,hj,rfl⟩:=List.mem_map.1 hq
  exact QmR A V (by have:=List.mem_range.1 hj;omega)
 have hpv:(QM (QW c b ks)).all Qcm=true:=by
  rw [List.all_eq_true]
  intro x hx
  have:=A.batch
  simp only [ZG,Bool.and_eq_true,List.all_eq_true] at this
  have:=this.2 x hx
  simp only [Z5,Bool.and_eq_true] at this
  simp only [Qcm,Bool.and_eq_true]
  exact ⟨(YD.1 this.1.2).1,(YD.1 this.2).1⟩
 simp only [Yb,Bool.and_eq_true,QR,beq_iff_eq]
 refine ⟨⟨⟨⟨?_,?_⟩,?_⟩,?_⟩,⟨hpv,ha,hbk⟩,hg⟩
 ·rw [QaF];omega
 ·simp [QW];omega
 ·simp [QW];omega
 ·show (1:Int)≤(b.length:Int)∧(b.length:Int)≤5;omega
theorem Qvb {ks:Nat→Nat} {s:Nat} (hs:s<nSt c) (hk:ks s≤lenP c b s):Qv (QW c b ks) (s:Int)=if ks s<lenP c b s then insP c b s (ks s) else (0,0):=by
 have _:=A
 unfold Qv
 rw [if_pos (by rw [QR,QaF];omega),Int.toNat_natCast,QC9 ks hs]
 unfold QeC
 have e1:((stAt c b s (ks s)).1:Int)=(ks s:Nat):=rfl
 have e2:(stAt c b s (ks s)).2.1.length=lenP c b s:=rfl
 rw [e1,e2]
 by_cases h:ks s<lenP c b s
 ·rw [if_pos h,if_pos (by rw [QR];omega),Int.toNat_natCast];rfl
 ·rw [if_neg h,if_neg (by rw [QR];omega)]
theorem QAT {ks:Nat→Nat} (V:Ok c b ks) {s:Nat} (hs:s<nSt c):YK (QW c b ks) (s:Int)=true↔En c b ks s:=by
 have hn:=JV A
 unfold YK
 rw [Quv A V,Qvb A hs (V.le s hs),Bool.true_and,Bool.and_eq_true,QR,QaF]
 by_cases hk:ks s<lenP c b s
 rotate_left
 ·rw [if_neg hk]
  constructor
  ·intro h;exact absurd h.2 (by simp [QaS])
  ·intro h;exact absurd h.1 hk
 rw [if_pos hk]
 have L:=loc A hs hk
 have hi:=L.c0
 have h1:=L.c1;have h3:=L.c3;have h4:=L.c4;have h7:=L.c7
 have hlen:((QB (QW c b ks)).length:Int)=(nSt c:Nat):=by rw [QaF]
 unfold En
 generalize insP c b s (ks s)=i at *
 have hcase:i.1=1∨i.1=2∨i.1=3∨i.1=4∨i.1=5∨i.1=6∨i.1=7∨i.1=8:=by omega
 unfold QaS
 rw [hlen,Int.toNat_natCast]
 rcases hcase with e | e | e | e | e | e | e | e
 ·have h0:=h1 e
  have hq:=Qi6 (b:=b) ks (c:=c) (s:=s-1) (by omega)
  rw [hq]
  simp only [e,aQ,List.length_map,List.length_range',Bool.and_eq_true,decide_eq_true_eq]
  rw [show s-1+1=s by omega]
  simp;omega
 ·simp [e];omega
 ·have h0:=h3 e
  have hq:=Qi6 (b:=b) ks (c:=c) (s:=s) (by omega)
  have hqa:=V.qa s (by omega)
  rw [hq]
  simp only [e,aQ,QbB,List.length_map,List.length_range',Bool.and_eq_true,decide_eq_true_eq]
  simp;omega
 ·have h0:=h4 e
  have hq:=Qhb (b:=b) ks (c:=c) (s:=s) (by omega)
  rw [hq]
  simp only [e,bQ,List.length_map,List.length_range',Bool.and_eq_true,decide_eq_true_eq]
  simp;omega
 ·simp [e];omega
 ·simp [e];omega
 ·have h0:=h7 e
  have hq:=Qhb (b:=b) ks (c:=c) (s:=s-1) (by omega)
  have hqb:=V.qb (s-1) (by omega)
  rw [hq]
  rw [show s-1+1=s by omega] at hqb
  simp only [e,bQ,QbB,List.length_map,List.length_range',Bool.and_eq_true,decide_eq_true_eq]
  rw [show s-1+1=s by omega]
  simp;omega
 ·have:Qfz (QW c b ks)=true↔∀ j,j<nSt c→lenP c b j≤ks j+1:=by
   unfold Qfz
   rw [List.all_eq_true]
   constructor
   ·intro h j hj
    have:=h (stAt c b j (ks j)) (List.mem_map.2 ⟨j,List.mem_range.2 hj,rfl⟩)
    simp only [Qbl,decide_eq_true_eq] at this
    have e1:((stAt c b j (ks j)).1:Int)=(ks j:Nat):=rfl
    have e2:(stAt c b j (ks j)).2.1.length=lenP c b j:=rfl
    rw [e1,e2] at this;omega
   ·intro h x hx
    obtain ⟨j,hj,rfl⟩:=List.mem_map.1 hx
    have:=h j (List.mem_range.1 hj)
    simp only [Qbl,decide_eq_true_eq]
    have e1:((stAt c b j (ks j)).1:Int)=(ks j:Nat):=rfl
    have e2:(stAt c b j (ks j)).2.1.length=lenP c b j:=rfl
    rw [e1,e2];omega
  simp only [e]
  simp [this];omega
theorem Qqp {ks:Nat→Nat} (V:Ok c b ks) {s:Nat} (hs:s<nSt c) (E:En c b ks s):Ok c b (bump ks s):=by
 obtain ⟨hk,e1,e3,e4,e7,e8⟩:=E
 obtain ⟨c1,c2,c3,c4⟩:=Qvw A hs hk
 have L:=loc A hs hk
 refine ⟨fun j hj=>?_,fun j hj=>?_,fun j hj=>?_,fun h=>?_⟩
 ·by_cases h:j=s
  ·subst h;rw [YL];omega
  ·rw [ZF _ h];exact V.le j hj
 ·have hq:=V.qa j hj
  by_cases h:j=s
  ·subst h
   rw [YL,ZF _ (by omega),c1 hj]
   split
   ·rename_i h;have:=e3 h;omega
   ·omega
  ·by_cases h2:j+1=s
   ·subst h2
    rw [YL,ZF _ h,c2 (by omega)]
    split
    ·rename_i h;have:=e1 h;simp only [Nat.add_sub_cancel] at this;omega
    ·omega
   ·rw [ZF _ h,ZF _ h2];exact hq
 ·have hq:=V.qb j hj
  by_cases h:j=s
  ·subst h
   rw [YL,ZF _ (by omega),c3 hj]
   split
   ·rename_i h;have:=e4 h;omega
   ·omega
  ·by_cases h2:j+1=s
   ·subst h2
    rw [YL,ZF _ h,c4 (by omega)]
    split
    ·rename_i h;have:=e7 h;simp only [Nat.add_sub_cancel] at this;omega
    ·omega
   ·rw [ZF _ h,ZF _ h2];exact hq
 ·by_cases h8:(insP c b s (ks s)).1=8
  ·intro j hj
   have:=e8 h8 j hj
   by_cases h2:j=s
   ·subst h2;rw [YL];omega
   ·rw [ZF _ h2];exact this
  ·exfalso
   have hl:¬ ks s+1=lenP c b s:=fun e=>h8 (L.c0.2.2.2.2.2.2.1.2 (by simpa using e))
   obtain ⟨j,hj,hje⟩:=h
   by_cases h2:j=s
   ·subst h2;rw [YL] at hje;exact hl hje
   ·rw [ZF _ h2] at hje
    have:=V.fl ⟨j,hj,hje⟩ s hs
    omega
theorem QyU {ks:Nat→Nat} (V:Ok c b ks) {s:Nat} (hs:s<nSt c) (E:En c b ks s):Zz (QW c b ks) (s:Int)=QW c b (bump ks s):=by
 have hen:=(QAT A V hs).2 E
 have V':=Qqp A V hs E
 have hk:=E.1
 have hnx:=Qvb A hs (V.le s hs)
 rw [if_pos hk] at hnx
 unfold Zz
 rw [if_pos hen]
 simp only
 rw [hnx,Int.toNat_natCast,QC9 ks hs]
 obtain ⟨c1,c2,c3,c4⟩:=Qvw A hs hk
 obtain ⟨f1,f2,f3⟩:=QtT (c:=c) (b:=b) hk
 have L:=loc A hs hk
 have H:=nums A hs (V.le s hs)
 have hi:=L.c0
 have hpc:sPc (stAt c b s (ks s))+1=((ks s:Nat):Int)+1:=rfl
 rw [hpc]
 have fin:∀ (y:Qc × List Qn × List Qn),YB y.1 (((ks s:Nat):Int)+1)=stAt c b s (ks s+1) →
   y.2.1=(List.range (nSt c-1)).map (aQ c b (bump ks s))→y.2.2=(List.range (nSt c-1)).map (bQ c b (bump ks s)) →
   ((QM (QW c b ks),(QB (QW c b ks)).set s (YB y.1 (((ks s:Nat):Int)+1)),y.2.1,y.2.2):Qk)=QW c b (bump ks s):=by
  intro y h1 h2 h3
  rw [h1,h2,h3]
  refine Prod.ext rfl (Prod.ext ?_ rfl)
  exact Qf6 _ _ _ _ _ (fun _=>by rw [YL]) (fun j hj hne=>by rw [ZF _ hne])
 have keepA:((insP c b s (ks s)).1≠1)→((insP c b s (ks s)).1≠3)→Qz (QW c b ks)=(List.range (nSt c-1)).map (aQ c b (bump ks s)):=by
  intro h1 h3
  refine Qa4 fun j hj=>?_
  unfold aQ
  by_cases h:j=s
  ·subst h;rw [YL,ZF _ (by omega),c1 (by omega),if_neg h3];simp only [Nat.add_zero]
  ·by_cases h2:j+1=s
   ·subst h2;rw [YL,ZF _ h,c2 (by omega),if_neg h1];simp only [Nat.add_zero]
   ·rw [ZF _ h,ZF _ h2]
 have keepB:((insP c b s (ks s)).1≠4)→((insP c b s (ks s)).1≠7)→QA (QW c b ks)=(List.range (nSt c-1)).map (bQ c b (bump ks s)):=by
  intro h1 h3
  refine Qa4 fun j hj=>?_
  unfold bQ
  by_cases h:j=s
  ·subst h;rw [YL,ZF _ (by omega),c3 (by omega),if_neg h1];simp only [Nat.add_zero]
  ·by_cases h2:j+1=s
   ·subst h2;rw [YL,ZF _ h,c4 (by omega),if_neg h3];simp only [Nat.add_zero]
   ·rw [ZF _ h,ZF _ h2]
 have hp:∀ j,gtd Zh (QM (QW c b ks)) j=prAt b j:=fun j=>rfl
 have hstAt:∀ k1,(insP c b s (ks s)).1=k1→stAt c b s (ks s+1)=st c b s (ks s+1) (F c b s (ks s)+kf (insP c b s (ks s))) (G c b s (ks s)+kg (insP c b s (ks s))) k1:=by
  intro k1 h;unfold stAt;rw [f1,f2,f3,h]
 have hcase:(insP c b s (ks s)).1=1∨(insP c b s (ks s)).1=2∨(insP c b s (ks s)).1=3∨(insP c b s (ks s)).1=4∨(insP c b s (ks s)).1=5∨(insP c b s (ks s)).1=6∨(insP c b s (ks s)).1=7∨(insP c b s (ks s)).1=8:=by omega
 have g9:=L.c9;have g10:=L.c10;have g11:=L.c11;have g12:=L.c12;have g13:=L.c13
 unfold Yl
 simp only [hp]
 rcases hcase with e | e | e | e | e | e | e | e
 ·
  obtain ⟨h0,h1,h2⟩:=L.c1 e
  have hs0:0<s:=by omega
  have hkf:kf (insP c b s (ks s))=0:=by unfold kf;rw [if_neg (by omega)]
  have hkg:kg (insP c b s (ks s))=0:=by unfold kg;rw [if_neg (by omega)]
  have hlt:=E.2.1 e
  have hrc:rc c b s (ks s)=F c b s (ks s):=by unfold rc rcOf;rw [if_neg h2]
  have hq:=Qi6 (c:=c) (b:=b) ks (s:=s-1) (by omega)
  have hok:=QqO A V (s:=s-1) (by omega)
  have hitems:(aQ c b ks (s-1)).2=(((rc c b s (ks s):Nat):Int),inS c b s (rc c b s (ks s)))::(List.range' (rc c b s (ks s)+1) (sc c b (s-1) (ks (s-1))-(rc c b s (ks s)+1))).map (fun j:Nat=>((j:Int),inS c b s j)):=by
   unfold aQ
   simp only
   rw [show s-1+1=s by omega,show sc c b (s-1) (ks (s-1))-rc c b s (ks s)=(sc c b (s-1) (ks (s-1))-(rc c b s (ks s)+1))+1 by omega,List.range'_succ,List.map_cons]
  have hpop:ZS (aQ c b ks (s-1))=((Qad c (s-1),(List.range' (rc c b s (ks s)+1) (sc c b (s-1) (ks (s-1))-(rc c b s (ks s)+1))).map (fun j:Nat=>((j:Int),inS c b s j))),(((rc c b s (ks s):Nat):Int),inS c b s (rc c b s (ks s))),true):=by
   unfold ZS
   rw [hok,hitems]
   simp [Qc7]
   rfl
  simp only [e,if_true,hq,hpop]
  refine fin (_,_,_) ?_ ?_ (keepB (by omega) (by omega))
  ·rw [hstAt 1 e,hkf,hkg,hrc]
   exact QKJ A (fun h=>by have:=g10 h.1 (by omega);omega) (fun h=>by have:=g11 h;omega) (fun h=>by have:=g12 h;omega) (fun h=>by have:=g13 h.1 (by omega);omega)
  ·refine Qf6 _ _ _ _ _ (fun h=>?_) (fun j hj hne=>?_)
   ·unfold aQ
    rw [show s-1+1=s by omega,YL,ZF _ (by omega),c2 hs0,if_pos e]
   ·unfold aQ
    by_cases h:j=s
    ·subst h;rw [YL,ZF _ (by omega),c1 (by omega),if_neg (by omega)];simp only [Nat.add_zero]
    ·rw [ZF _ h,ZF _ (by omega)]
 ·
  obtain ⟨h1,h2⟩:=L.c2 e
  have hkf:kf (insP c b s (ks s))=1:=by unfold kf;rw [if_pos e]
  have hkg:kg (insP c b s (ks s))=0:=by unfold kg;rw [if_neg (by omega)]
  have hf:F c b s (ks s)<b.length:=by omega
  have e2:(insP c b s (ks s)).2.toNat=F c b s (ks s):=by omega
  simp only [e]
  simp
  refine fin (_,_,_) ?_ (keepA (by omega) (by omega)) (keepB (by omega) (by omega))
  rw [hstAt 2 e,hkf,hkg,e2,h1]
  exact QU5 A hs (V.le s hs) H hf (fun h=>h2 (by omega)) (fun h=>by have:=g10 h.1 (by omega);omega) (fun h=>by have:=g11 h;omega) (fun h=>by have:=g12 h;omega) (fun h=>by have:=g13 h.1 (by omega);omega)
 ·
  obtain ⟨h0,h1,h2⟩:=L.c3 e
  have hs0:s+1<nSt c:=by omega
  have hkf:kf (insP c b s (ks s))=0:=by unfold kf;rw [if_neg (by omega)]
  have hkg:kg (insP c b s (ks s))=0:=by unfold kg;rw [if_neg (by omega)]
  have hroom:=E.2.2.1 e
  have h16:=L.c16 h2
  have hsc:sc c b s (ks s)=F c b s (ks s)-1:=by unfold sc scOf;rw [if_pos h2]
  have hq:=Qi6 (c:=c) (b:=b) ks (s:=s) hs0
  have hok:=QqO A V (s:=s) hs0
  have hqa:=V.qa s hs0
  have hb5:=QbE A
  have hY:sY (stAt c b s (ks s))=inS c b (s+1) (F c b s (ks s)-1):=by
   show vY c b s _ _=_
   unfold vY;rw [if_pos ⟨h2,hs0⟩]
  have hv:=YD.1 (QfN A (s:=s+1) (j:=F c b s (ks s)-1) (by omega) (by omega))
  have hpush:Y7 (aQ c b ks s) ((insP c b s (ks s)).2,sY (stAt c b s (ks s)))=((Qad c s,(aQ c b ks s).2++[(((sc c b s (ks s):Nat):Int),inS c b (s+1) (sc c b s (ks s)))]),true):=by
   unfold Y7
   rw [hok,hY,h1,hsc]
   have hio:Y4 (((F c b s (ks s):Nat):Int)-1,inS c b (s+1) (F c b s (ks s)-1))=true:=by
    simp only [Y4,Bool.and_eq_true,decide_eq_true_eq];exact ⟨⟨hv.1,by omega⟩,by omega⟩
   rw [hio]
   have hl:(((aQ c b ks s).2.length:Nat):Int)<(aQ c b ks s).1:=by simp only [aQ,List.length_map,List.length_range'];omega
   rw [if_pos (by simp only [Bool.true_and,decide_eq_true_eq];exact hl),show ((F c b s (ks s):Nat):Int)-1=((F c b s (ks s)-1:Nat):Int) by omega]
   rfl
  simp only [e,hq,hpush]
  simp
  refine fin (_,_,_) ?_ ?_ (keepB (by omega) (by omega))
  ·rw [hstAt 3 e,hkf,hkg]
   exact QE1 A h2
  ·refine Qf6 _ _ _ _ _ (fun h=>?_) (fun j hj hne=>?_)
   ·unfold aQ
    rw [YL,ZF _ (by omega),c1 hs0,if_pos e]
    rw [show sc c b s (ks s)+1-rc c b (s+1) (ks (s+1))=(sc c b s (ks s)-rc c b (s+1) (ks (s+1)))+1 by omega,List.range'_concat,List.map_append]
    simp only [List.map_cons,List.map_nil,Nat.one_mul]
    rw [show rc c b (s+1) (ks (s+1))+(sc c b s (ks s)-rc c b (s+1) (ks (s+1)))=sc c b s (ks s) by omega]
   ·unfold aQ
    by_cases h:j+1=s
    ·subst h;rw [YL,ZF _ (by omega),c2 (by omega),if_neg (by omega)];simp only [Nat.add_zero]
    ·rw [ZF _ hne,ZF _ h]
 ·
  obtain ⟨h0,h1⟩:=L.c4 e
  have hs0:s+1<nSt c:=by omega
  have hkf:kf (insP c b s (ks s))=0:=by unfold kf;rw [if_neg (by omega)]
  have hkg:kg (insP c b s (ks s))=0:=by unfold kg;rw [if_neg (by omega)]
  have hlt:=E.2.2.2.1 e
  have h2:¬ (K1 c b s (ks s)=4∨(K1 c b s (ks s)=5∧(s:Int)<(nSt c:Nat)-1)):=by
   rintro (h | h)
   ·have:=g11 h;omega
   ·have:=g12 h.1;omega
  have hrg:rg c b s (ks s)=G c b s (ks s):=by unfold rg rgOf;rw [if_neg h2]
  have hq:=Qhb (c:=c) (b:=b) ks (s:=s) hs0
  have hok:=QmR A V (s:=s) hs0
  have hitems:(bQ c b ks s).2=(((rg c b s (ks s):Nat):Int),doS c b (s+1) (rg c b s (ks s)))::(List.range' (rg c b s (ks s)+1) (sg c b (s+1) (ks (s+1))-(rg c b s (ks s)+1))).map (fun j:Nat=>((j:Int),doS c b (s+1) j)):=by
   unfold bQ
   simp only
   rw [show sg c b (s+1) (ks (s+1))-rg c b s (ks s)=(sg c b (s+1) (ks (s+1))-(rg c b s (ks s)+1))+1 by omega,List.range'_succ,List.map_cons]
  have hpop:ZS (bQ c b ks s)=((Qad c s,(List.range' (rg c b s (ks s)+1) (sg c b (s+1) (ks (s+1))-(rg c b s (ks s)+1))).map (fun j:Nat=>((j:Int),doS c b (s+1) j))),(((rg c b s (ks s):Nat):Int),doS c b (s+1) (rg c b s (ks s))),true):=by
   unfold ZS
   rw [hok,hitems]
   simp [Qc7]
   rfl
  simp only [e,hq,hpop]
  simp
  refine fin (_,Qz (QW c b ks),(QA (QW c b ks)).set _ _) ?_ (keepA (by omega) (by omega)) ?_
  ·rw [hstAt 4 e,hkf,hkg,hrg]
   exact QM0 A (fun h=>by have:=g9 h;omega) (fun h=>by have:=g10 h.1 (by omega);omega) (fun h=>by have:=g12 h;omega) (fun h=>by have:=g13 h.1 (by omega);omega)
  ·refine Qf6 _ _ _ _ _ (fun h=>?_) (fun j hj hne=>?_)
   ·unfold bQ
    rw [YL,ZF _ (by omega),c3 hs0,if_pos e]
   ·unfold bQ
    by_cases h:j+1=s
    ·subst h;rw [YL,ZF _ (by omega),c4 (by omega),if_neg (by omega)];simp only [Nat.add_zero]
    ·rw [ZF _ hne,ZF _ h]
 ·
  obtain ⟨h0,h1,h2,h3⟩:=L.c5 e
  have hkf:kf (insP c b s (ks s))=0:=by unfold kf;rw [if_neg (by omega)]
  have hkg:kg (insP c b s (ks s))=0:=by unfold kg;rw [if_neg (by omega)]
  simp only [e]
  simp
  refine fin (_,_,_) ?_ (keepA (by omega) (by omega)) (keepB (by omega) (by omega))
  rw [hstAt 5 e,hkf,hkg,h1]
  exact QYt A hs (V.le s hs) H h0 h2 (fun h=>by have:=g9 h;omega) (fun h=>by have:=g10 h.1 (by omega);omega) ⟨fun h=>by have:=L.c18 h;omega,fun h=>h3 (by omega)⟩ (fun h=>by have:=g12 h;omega) (fun h=>by have:=g13 h.1 (by omega);omega)
 ·
  obtain ⟨h1,h2,h3,h4⟩:=L.c6 e
  have hkf:kf (insP c b s (ks s))=0:=by unfold kf;rw [if_neg (by omega)]
  have hkg:kg (insP c b s (ks s))=1:=by unfold kg;rw [if_pos e]
  have e2:(insP c b s (ks s)).2.toNat=G c b s (ks s):=by omega
  simp only [e]
  simp
  refine fin (_,_,_) ?_ (keepA (by omega) (by omega)) (keepB (by omega) (by omega))
  rw [hstAt 6 e,hkf,hkg,e2,h1]
  exact QSs A hs (V.le s hs) H h2 h3 (fun hr hn=>h4 hr (by omega)) (fun h=>by have:=g9 h;omega) (fun h=>by have:=g10 h.1 (by omega);omega) L.c14 (fun h=>by have:=L.c18 h;omega)
 ·
  obtain ⟨h0,h1,h2⟩:=L.c7 e
  have hs0:0<s:=by omega
  have hkf:kf (insP c b s (ks s))=0:=by unfold kf;rw [if_neg (by omega)]
  have hkg:kg (insP c b s (ks s))=0:=by unfold kg;rw [if_neg (by omega)]
  have hroom:=E.2.2.2.2.1 e
  have h15:=L.c15 h2
  have hsg:sg c b s (ks s)=G c b s (ks s)-1:=by unfold sg sgQ;rw [if_pos h2]
  have hq:=Qhb (c:=c) (b:=b) ks (s:=s-1) (by omega)
  have hok:=QmR A V (s:=s-1) (by omega)
  have hqb:=V.qb (s-1) (by omega)
  rw [show s-1+1=s by omega] at hqb
  have hb5:=QbE A
  have hD:sD (stAt c b s (ks s))=doS c b s (G c b s (ks s)-1):=by
   show vD c b s _ _=_
   unfold vD;rw [if_pos ⟨h2,hs0⟩]
  have hv:=YD.1 (Qf1 A (s:=s) (j:=G c b s (ks s)-1) (by omega) (by omega))
  have hpush:Y7 (bQ c b ks (s-1)) ((insP c b s (ks s)).2,sD (stAt c b s (ks s)))=((Qad c (s-1),(bQ c b ks (s-1)).2++[(((sg c b s (ks s):Nat):Int),doS c b s (sg c b s (ks s)))]),true):=by
   unfold Y7
   rw [hok,hD,h1,hsg]
   have hio:Y4 (((G c b s (ks s):Nat):Int)-1,doS c b s (G c b s (ks s)-1))=true:=by
    simp only [Y4,Bool.and_eq_true,decide_eq_true_eq];exact ⟨⟨hv.1,by omega⟩,by omega⟩
   rw [hio]
   have hl:(((bQ c b ks (s-1)).2.length:Nat):Int)<(bQ c b ks (s-1)).1:=by
    simp only [bQ,List.length_map,List.length_range'];rw [show s-1+1=s by omega];omega
   rw [if_pos (by simp only [Bool.true_and,decide_eq_true_eq];exact hl),show ((G c b s (ks s):Nat):Int)-1=((G c b s (ks s)-1:Nat):Int) by omega]
   rfl
  simp only [e,hq,hpush]
  simp
  refine fin (_,Qz (QW c b ks),(QA (QW c b ks)).set _ _) ?_ (keepA (by omega) (by omega)) ?_
  ·rw [hstAt 7 e,hkf,hkg]
   exact QVD A h2
  ·refine Qf6 _ _ _ _ _ (fun h=>?_) (fun j hj hne=>?_)
   ·unfold bQ
    rw [show s-1+1=s by omega,YL,ZF _ (by omega),c4 hs0,if_pos e]
    rw [show sg c b s (ks s)+1-rg c b (s-1) (ks (s-1))=(sg c b s (ks s)-rg c b (s-1) (ks (s-1)))+1 by omega,List.range'_concat,List.map_append]
    simp only [List.map_cons,List.map_nil,Nat.one_mul]
    rw [show rg c b (s-1) (ks (s-1))+(sg c b s (ks s)-rg c b (s-1) (ks (s-1)))=sg c b s (ks s) by omega]
   ·unfold bQ
    by_cases h:j=s
    ·subst h;rw [YL,ZF _ (by omega),c3 (by omega),if_neg (by omega)];simp only [Nat.add_zero]
    ·rw [ZF _ h,ZF _ (by omega)]
 ·
  have hkf:kf (insP c b s (ks s))=0:=by unfold kf;rw [if_neg (by omega)]
  have hkg:kg (insP c b s (ks s))=0:=by unfold kg;rw [if_neg (by omega)]
  simp only [e]
  simp
  refine fin (_,_,_) ?_ (keepA (by omega) (by omega)) (keepB (by omega) (by omega))
  rw [hstAt 8 e,hkf,hkg]
  exact QSx A (fun h=>by have:=g9 h;omega) (fun h=>by have:=g10 h.1 (by omega);omega) (fun h=>by have:=g11 h;omega) (fun h=>by have:=g12 h;omega) (fun h=>by have:=g13 h.1 (by omega);omega)
theorem Qsw {ks:Nat→Nat} (V:Ok c b ks) {s:Nat} (hs:s<nSt c) (E:¬ En c b ks s):Zz (QW c b ks) (s:Int)=QW c b ks:=by
 unfold Zz
 rw [if_neg (fun h=>E ((QAT A V hs).1 h))]
theorem QTf {ks:Nat→Nat} {s:Int} (hs:¬ (0≤s∧s<(nSt c:Nat))):Zz (QW c b ks) s=QW c b ks:=by
 have _:=A
 unfold Zz
 rw [if_neg]
 unfold YK
 rw [QaF]
 simp only [Bool.and_eq_true,QR]
 omega
theorem QHu {ks:Nat→Nat} (V:Ok c b ks) (s:Int):∃ ks',Ok c b ks'∧Zz (QW c b ks) s=QW c b ks'∧(∀ j,ks j≤ks' j)∧((∃ t:Nat,s=t∧t<nSt c∧En c b ks t∧ks'=bump ks t)∨ks'=ks):=by
 by_cases h:0≤s∧s<(nSt c:Nat)
 ·obtain ⟨t,rfl⟩:=Int.eq_ofNat_of_zero_le h.1
  by_cases E:En c b ks t
  ·refine ⟨bump ks t,Qqp A V (by omega) E,QyU A V (by omega) E,fun j=>?_,.inl ⟨t,rfl,by omega,E,rfl⟩⟩
   unfold bump;split <;> omega
  ·exact ⟨ks,V,Qsw A V (by omega) E,fun _=>Nat.le_refl _,.inr rfl⟩
 ·exact ⟨ks,V,QTf A h,fun _=>Nat.le_refl _,.inr rfl⟩
end
end Go.Proofs.YtjbdljkhbglnhaaGreat.Am
namespace Go.Proofs.YtjbdljkhbglnhaaGreat.Am
open Go Sz
def QrI:Bool:=[1,2].all fun ds:Int=>[1,2,3,4].all fun n:Int=>[0,1,2,3].all fun s:Int=>[1,2,3,4,5].all fun M:Int=>[true,false].all fun rd =>
 decide (((ZE ds n s M rd).length:Int)≤7*M+1)
set_option maxRecDepth 100000 in
theorem QYc:QrI=true:=by kernel_rfl
theorem QT0 {ds n s M:Int} (rd:Bool) (h1:1≤ds) (h2:ds≤2) (h3:n≤4) (h4:0≤s) (h5:s<n) (h6:1≤M) (h7:M≤5):((ZE ds n s M rd).length:Int)≤7*M+1:=by
 have h:=QYc
 unfold QrI at h
 rw [List.all_eq_true] at h
 have h:=h ds (by have:ds=1∨ds=2:=(by omega);rcases this with rfl | rfl <;> simp)
 rw [List.all_eq_true] at h
 have h:=h n (by have:n=1∨n=2∨n=3∨n=4:=(by omega);rcases this with rfl | rfl | rfl | rfl <;> simp)
 rw [List.all_eq_true] at h
 have h:=h s (by have:s=0∨s=1∨s=2∨s=3:=(by omega);rcases this with rfl | rfl | rfl | rfl <;> simp)
 rw [List.all_eq_true] at h
 have h:=h M (by have:M=1∨M=2∨M=3∨M=4∨M=5:=(by omega);rcases this with rfl | rfl | rfl | rfl | rfl <;> simp)
 rw [List.all_eq_true] at h
 have h:=h rd (by cases rd <;> simp)
 simpa using h
theorem Qq6 {α β:Type} (d:α) (f:α→β) (l:List α):l.map f=(List.range l.length).map fun i=>f (gtd d l i):=by
 apply List.ext_getElem?
 intro i
 simp only [List.getElem?_map]
 by_cases h:i<l.length
 ·rw [List.getElem?_range h,Js h d];rfl
 ·rw [List.getElem?_eq_none (by omega),List.getElem?_eq_none (by simp;omega)];rfl
theorem QQT {α:Type} (l:List α) (f g:α→Bool):l.any (fun x=>f x||g x)=(l.any f||l.any g):=by
 induction l with
 | nil=>rfl
 | cons x l ih=>simp only [List.any_cons,ih];ac_rfl
theorem QIV {α:Type} (l:List α) (f:α→Bool) (q:Bool):l.any (fun x=>f x&&q)=(l.any f&&q):=by
 induction l with
 | nil=>rfl
 | cons x l ih=>simp only [List.any_cons,ih];cases q <;> simp
theorem QD7 {α:Type} (f g:α→List (List Int)):∀ (l:List α),(∀ x,x∈l→(f x).length=(g x).length)→Zd (l.flatMap f) (l.flatMap g)=(l.flatMap fun x=>(Zd (f x) (g x)).1,l.any fun x=>(Zd (f x) (g x)).2)
 | [],h=>rfl
 | x::l,h=>by
  rw [List.flatMap_cons,List.flatMap_cons,QBq _ _ _ _ (h x List.mem_cons_self),QD7 f g l (fun y hy=>h y (List.mem_cons_of_mem _ hy))]
  simp
section
variable {c:Qo} {b:List Qi} (A:Adm c b)
include A
theorem Qhj:QO c=(nSt c:Nat):=by
 have:=(QbW (c:=c)).2.2.2 A.cuts
 rw [this];simp [nSt]
theorem QJt {s:Nat} (hs:s<nSt c):1≤lenP c b s:=by
 have h:=(Qjz A hs).2.2
 apply Classical.byContradiction
 intro hn
 rw [show lenP c b s=0 by omega] at h
 simp [K1,Jd] at h
theorem QAi {s:Nat} (hs:s<nSt c):lenP c b s≤7*b.length+1:=by
 have h1:=JV A
 have h2:=QbE A
 have:=QT0 (ds:=cDs c) (n:=(nSt c:Nat)) (s:=(s:Nat)) (M:=b.length) (YP c s) A.ds.1 A.ds.2 (by omega) (by omega) (by omega) (by omega) (by omega)
 unfold lenP YJ;omega
omit A in
theorem QuM (n micro:Int):∀ k:Nat,Qam c n micro k=(List.range k).map fun s:Nat =>
  QaP (slice (Q6 c) (Qt (Q6 c) (Zj c) s).1 (Qt (Q6 c) (Zj c) s).2) (ZE (cDs c) n s micro (gtd false (J9 c) s)) (decide ((s:Int)=n-1)) (gtd false (J9 c) s)
 | 0=>rfl
 | k+1=>by rw [Qam,QuM n micro k,List.range_succ,List.map_append];rfl
theorem Qtb:Zi c b=QW c b (fun _=>0):=by
 unfold Zi
 rw [if_pos (QVU A),Qhj A,QuM,Int.toNat_natCast]
 refine Prod.ext rfl (Prod.ext ?_ (Prod.ext ?_ ?_))
 ·refine Qa4 fun s hs=>?_
  have hm:=(Qeq A hs).1
  have e:slice (Q6 c) (Qt (Q6 c) (Zj c) (s:Int)).1 (Qt (Q6 c) (Zj c) (s:Int)).2=opS c s:=QL8 A.cuts (by simp only [nSt] at hs;omega)
  rw [e]
  unfold QaP
  rw [if_pos hm]
  have e2:decide ((s:Int)=((nSt c:Nat):Int)-1)=Zc c s:=by
   simp only [Zc];rw [Bool.eq_iff_iff];simp only [decide_eq_true_eq];omega
  rw [e2]
  simp [stAt,st,F,G,K1,cf,cg,Jd,YG,Qai,vX,vY,vG,vD,Jo,YY,satV,YJ,YP]
 ·have e:=Qis A
  show (JZ c).map (fun n=>((n,[]):Qn))=_
  rw [Qq6 (0:Int),e]
  refine Qa4 fun s hs=>?_
  simp [aQ,rc,sc,F,K1,cf,Jd,rcOf,scOf]
 ·have e:=Qis A
  show (JZ c).map (fun n=>((n,[]):Qn))=_
  rw [Qq6 (0:Int),e]
  refine Qa4 fun s hs=>?_
  simp [bQ,rg,sg,G,K1,cg,Jd,rgOf,sgQ]
theorem QrA:Ok c b (fun _=>0):=by
 refine ⟨fun s hs=>Nat.zero_le _,fun s hs=>?_,fun s hs=>?_,fun h=>?_⟩
 ·have:=QaJ A hs
  simp [rc,sc,F,K1,cf,Jd,rcOf,scOf];omega
 ·have:=QaJ A hs
  simp [rg,sg,G,K1,cg,Jd,rgOf,sgQ];omega
 ·obtain ⟨s,hs,e⟩:=h
  have:=QJt A hs
  omega
def left (c:Qo) (b:List Qi) (ks:Nat→Nat):Nat:=((List.range (nSt c)).map fun s=>lenP c b s-ks s).sum
omit A in
theorem Qqy {n:Nat} {f g:Nat→Nat} (h:∀ j,j<n→f j≤g j):((List.range n).map f).sum≤((List.range n).map g).sum:=by
 induction n with
 | zero=>simp
 | succ n ih =>
  rw [List.range_succ,List.map_append,List.map_append,List.sum_append,List.sum_append]
  have:=ih (fun j hj=>h j (by omega))
  have:=h n (by omega)
  simp;omega
omit A in
theorem QE0 {n:Nat} {f g:Nat→Nat} {k:Nat} (hk:k<n) (h:∀ j,j<n→f j≤g j) (hlt:f k+1≤g k):((List.range n).map f).sum+1≤((List.range n).map g).sum:=by
 induction n with
 | zero=>omega
 | succ n ih =>
  rw [List.range_succ,List.map_append,List.map_append,List.sum_append,List.sum_append]
  by_cases e:k=n
  ·subst e
   have:=Qqy (n:=k) (f:=f) (g:=g) (fun j hj=>h j (by omega))
   simp;omega
  ·have:=ih (by omega) (fun j hj=>h j (by omega))
   have:=h n (by omega)
   simp;omega
omit A in
theorem QjZ {ks ks':Nat→Nat} (h:∀ j,ks j≤ks' j):left c b ks'≤left c b ks:=Qqy fun j hj=>by have:=h j;omega
omit A in
theorem QKq {n:Nat} {f g:Nat→Nat} {k:Nat} (hk:k<n) (h:∀ j,j<n→j≠k→f j=g j) (he:f k+1=g k):((List.range n).map f).sum+1=((List.range n).map g).sum:=by
 induction n with
 | zero=>omega
 | succ n ih =>
  rw [List.range_succ,List.map_append,List.map_append,List.sum_append,List.sum_append]
  by_cases e:k=n
  ·subst e
   have:(List.range k).map f=(List.range k).map g:=Qa4 fun j hj=>h j (by omega) (by omega)
   rw [this];simp;omega
  ·have:=ih (by omega) (fun j hj=>h j (by omega))
   have:=h n (by omega) (by omega)
   simp;omega
omit A in
theorem QLu {ks:Nat→Nat} {s:Nat} (hs:s<nSt c) (hk:ks s<lenP c b s):left c b (bump ks s)+1=left c b ks :=
 QKq hs (fun j hj hne=>by rw [ZF _ hne]) (by rw [YL];omega)
omit A in
theorem Qj7 {ks:Nat→Nat}:left c b ks=0↔∀ s,s<nSt c→lenP c b s≤ks s:=by
 unfold left
 constructor
 ·intro h s hs
  apply Classical.byContradiction
  intro hn
  have:=QE0 (n:=nSt c) (f:=fun _=>0) (g:=fun s=>lenP c b s-ks s) hs (fun j hj=>Nat.zero_le _) (by omega)
  omega
 ·intro h
  have:=Qqy (n:=nSt c) (f:=fun s=>lenP c b s-ks s) (g:=fun _=>0) (fun j hj=>by have:=h j hj;omega)
  have e:((List.range (nSt c)).map fun _=>0).sum=0:=by
   generalize nSt c=n
   induction n with
   | zero=>rfl
   | succ n ih=>rw [List.range_succ,List.map_append,List.sum_append,ih];rfl
  omega
theorem QJ7 {ks:Nat→Nat}:left c b ks≤nSt c*(7*b.length+1):=by
 unfold left
 have:∀ n,n≤nSt c→((List.range n).map fun s=>lenP c b s-ks s).sum≤n*(7*b.length+1):=by
  intro n hn
  induction n with
  | zero=>simp
  | succ n ih =>
   rw [List.range_succ,List.map_append,List.sum_append,Nat.add_mul]
   have:=ih (by omega)
   have:=QAi A (s:=n) (by omega)
   simp;omega
 exact this _ (Nat.le_refl _)
theorem QoW {ks:Nat→Nat}:left c b ks≤144:=by
 have h1:=QJ7 A (ks:=ks)
 have h2:=JV A
 have h3:=QbE A
 have:nSt c*(7*b.length+1)≤4*36:=Nat.mul_le_mul (by omega) (by omega)
 omega
theorem QA7 {ks:Nat→Nat} (V:Ok c b ks):J8 (QW c b ks)=(left c b ks:Nat):=by
 unfold J8
 have e:((QB (QW c b ks)).map J6).sum=((left c b ks:Nat):Int):=by
  unfold left
  show (((List.range (nSt c)).map (fun s=>stAt c b s (ks s))).map J6).sum=_
  rw [List.map_map]
  have:∀ n,n≤nSt c→((List.range n).map (J6 ∘ fun s=>stAt c b s (ks s))).sum=((((List.range n).map fun s=>lenP c b s-ks s).sum:Nat):Int):=by
   intro n hn
   induction n with
   | zero=>rfl
   | succ n ih =>
    rw [List.range_succ,List.map_append,List.map_append,List.sum_append,List.sum_append,ih (by omega)]
    have hle:=V.le n (by omega)
    have e1:(stAt c b n (ks n)).1=((ks n:Nat):Int):=rfl
    have e2:(stAt c b n (ks n)).2.1.length=lenP c b n:=rfl
    simp only [List.map_cons,List.map_nil,List.sum_cons,List.sum_nil,Function.comp_apply,J6,e1,e2]
    unfold iMin iMax
    repeat' split
    all_goals omega
  exact this _ (Nat.le_refl _)
 have:=QoW A (ks:=ks)
 have e':(List.map J6 (QW c b ks).2.1).sum=((left c b ks:Nat):Int):=e
 rw [e',Qq (by omega) (by omega)]
theorem QiF {ks:Nat→Nat} (V:Ok c b ks):Ja (QW c b ks)=decide (left c b ks=0):=by
 unfold Ja
 rw [QA7 A V]
 have:=JV A
 have e:=QaF (c:=c) (b:=b) ks
 show (decide (0<(QB (QW c b ks)).length)&&_)=_
 rw [e,Bool.eq_iff_iff]
 simp only [Bool.and_eq_true,decide_eq_true_eq,beq_iff_eq]
 omega
theorem QG4 {ks:Nat→Nat} (V:Ok c b ks) (h:left c b ks≠0):∃ s,s<nSt c∧En c b ks s:=by
 refine QHn A V ?_
 apply Classical.byContradiction
 intro hn
 refine h (Qj7.2 fun s hs=>?_)
 apply Classical.byContradiction
 intro hk
 exact hn ⟨s,hs,by omega⟩
theorem QtA:∀ (l:List Int) {ks:Nat→Nat},Ok c b ks→∃ ks',Ok c b ks'∧Qb0 l (QW c b ks)=QW c b ks'∧∀ j,ks j≤ks' j
 | [],ks,V=>⟨ks,V,rfl,fun _=>Nat.le_refl _⟩
 | s::l,ks,V=>by
  obtain ⟨k1,V1,e1,h1,_⟩:=QHu A V s
  obtain ⟨k2,V2,e2,h2⟩:=QtA l V1
  exact ⟨k2,V2,by rw [Qb0,e1,e2],fun j=>Nat.le_trans (h1 j) (h2 j)⟩
omit A in
theorem QFY (k n:Nat) (ks:Nat→Nat):ZI k (n+1) (QW c b ks)=ZI (k+1) n (Zz (QW c b ks) ((k % nSt c:Nat):Int)):=by
 rw [ZI,QaF]
 rfl
theorem QdT:∀ (n k:Nat) {ks:Nat→Nat},Ok c b ks→∃ ks',Ok c b ks'∧ZI k n (QW c b ks)=QW c b ks'∧(∀ j,ks j≤ks' j)∧(left c b ks'<left c b ks∨(ks'=ks∧∀ i,i<n→¬ En c b ks ((k+i) % nSt c)))
 | 0,k,ks,V=>⟨ks,V,rfl,fun _=>Nat.le_refl _,.inr ⟨rfl,fun i hi=>by omega⟩⟩
 | n+1,k,ks,V=>by
  have hn:=JV A
  have hlt:k % nSt c<nSt c:=Nat.mod_lt _ (by omega)
  rw [QFY]
  by_cases E:En c b ks (k % nSt c)
  ·have V1:=Qqp A V hlt E
   obtain ⟨k2,V2,e2,h2,_⟩:=QdT n (k+1) V1
   rw [QyU A V hlt E]
   have hb:∀ j,ks j≤bump ks (k % nSt c) j:=fun j=>by unfold bump;split <;> omega
   refine ⟨k2,V2,e2,fun j=>Nat.le_trans (hb j) (h2 j),.inl ?_⟩
   have h3:=QLu (b:=b) hlt E.1
   have h4:=QjZ (c:=c) (b:=b) h2
   omega
  ·rw [Qsw A V hlt E]
   obtain ⟨k2,V2,e2,h2,h3⟩:=QdT n (k+1) V
   refine ⟨k2,V2,e2,h2,h3.imp (fun h=>h) fun ⟨h4,h5⟩=>⟨h4,fun i hi=>?_⟩⟩
   cases i with
   | zero=>exact E
   | succ i=>have:=h5 i (by omega);rwa [show k+1+i=k+(i+1) by omega] at this
omit A in
theorem QoB:∀ (n k m:Nat) (p:Qk),ZI k (n+m) p=ZI (k+n) m (ZI k n p)
 | 0,k,m,p=>by rw [Nat.zero_add];rfl
 | n+1,k,m,p=>by
  rw [show n+1+m=(n+m)+1 by omega,ZI,QoB n (k+1) m,ZI,show k+1+n=k+(n+1) by omega]
theorem QJ0 {ks:Nat→Nat} (V:Ok c b ks) (k:Nat) (h:left c b ks≠0):∃ ks',Ok c b ks'∧ZI k (nSt c) (QW c b ks)=QW c b ks'∧(∀ j,ks j≤ks' j)∧left c b ks'<left c b ks:=by
 obtain ⟨k1,V1,e1,h1,h2⟩:=QdT A (nSt c) k V
 refine ⟨k1,V1,e1,h1,?_⟩
 rcases h2 with h2 | ⟨_,h3⟩
 ·exact h2
 ·exfalso
  have hn:=JV A
  obtain ⟨s,hs,E⟩:=QG4 A V h
  have hmod:k % nSt c<nSt c:=Nat.mod_lt _ (by omega)
  have hk:=Nat.div_add_mod k (nSt c)
  refine h3 (if k % nSt c≤s then s-k % nSt c else s+nSt c-k % nSt c) (by split <;> omega) ?_
  have:(k+if k % nSt c≤s then s-k % nSt c else s+nSt c-k % nSt c) % nSt c=s:=by
   split
   ·rw [show k+(s-k % nSt c)=nSt c*(k / nSt c)+s by omega,Nat.mul_add_mod,Nat.mod_eq_of_lt hs]
   ·rw [show k+(s+nSt c-k % nSt c)=nSt c*(k / nSt c)+(nSt c+s) by omega,Nat.mul_add_mod,Nat.add_mod_left,Nat.mod_eq_of_lt hs]
  rw [this];exact E
theorem Qk1:∀ (L n k:Nat) {ks:Nat→Nat},Ok c b ks→left c b ks≤L→nSt c*L≤n→∃ ks',Ok c b ks'∧ZI k n (QW c b ks)=QW c b ks'∧left c b ks'=0
 | 0,n,k,ks,V,h1,_=>by
  obtain ⟨k1,V1,e1,h2,_⟩:=QdT A n k V
  exact ⟨k1,V1,e1,by have:=QjZ (c:=c) (b:=b) h2;omega⟩
 | L+1,n,k,ks,V,h1,h2=>by
  by_cases h:left c b ks=0
  ·obtain ⟨k1,V1,e1,h3,_⟩:=QdT A n k V
   exact ⟨k1,V1,e1,by have:=QjZ (c:=c) (b:=b) h3;omega⟩
  ·obtain ⟨k1,V1,e1,h3,h4⟩:=QJ0 A V k h
   rw [Nat.mul_add,Nat.mul_one] at h2
   obtain ⟨k2,V2,e2,h5⟩:=Qk1 L (n-nSt c) (k+nSt c) V1 (by omega) (by omega)
   refine ⟨k2,V2,?_,h5⟩
   rw [show n=nSt c+(n-nSt c) by omega,QoB,e1,e2]
omit A in
theorem QN9 {ks ks':Nat→Nat} (h:∀ s,s<nSt c→ks s=ks' s):QW c b ks=QW c b ks':=by
 refine Prod.ext rfl (Prod.ext ?_ (Prod.ext ?_ ?_))
 ·exact Qa4 fun s hs=>by rw [h s hs]
 ·exact Qa4 fun s hs=>by unfold aQ;rw [h s (by omega),h (s+1) (by omega)]
 ·exact Qa4 fun s hs=>by unfold bQ;rw [h s (by omega),h (s+1) (by omega)]
theorem QyI {ks:Nat→Nat} (V:Ok c b ks) (h:left c b ks=0):QW c b ks=QW c b (lenP c b):=by
 have _:=A
 exact QN9 fun s hs=>by have:=V.le s hs;have:=Qj7.1 h s hs;omega
def Qaw (c:Qo) (b:List Qi) (j:Nat):QG:=((List.range (nSt c)).flatMap (fun s=>Jo c b s j),YY c b j,(List.range (nSt c)).any fun s=>satV c b s j j)
theorem QsO:∀ (k s:Nat),s+k=nSt c→(List.range' s k).flatMap (fun s=>opS c s)=(Q6 c).drop (Zw (Q6 c) (Zj c) s)
 | 0,s,h=>by
  rw [show s=(Zj c).length+1 by unfold nSt at h;omega,Qdn A.cuts,List.drop_length];rfl
 | k+1,s,h=>by
  rw [List.range'_succ,List.flatMap_cons,QsO k (s+1) (by omega),QdM A.cuts (s:=s) (by unfold nSt at h;omega)]
theorem QOg:Qaw c b 0=Zq (Q6 c):=by
 unfold Qaw Zq
 rw [if_pos A.model]
 refine Prod.ext ?_ (Prod.ext rfl ?_)
 ·show (List.range (nSt c)).flatMap (fun s=>(Zq (opS c s)).1)=_
  have h:=QsO A (nSt c) 0 (by omega)
  rw [← List.range_eq_range'] at h
  have e0:(Q6 c).drop (Zw (Q6 c) (Zj c) 0)=Q6 c:=rfl
  rw [e0] at h
  have e1:(Q6 c).map (fun o=>List.replicate o.2.2.2.length (0:Int))=((List.range (nSt c)).flatMap fun s=>opS c s).map (fun o=>List.replicate o.2.2.2.length (0:Int)):=by rw [h]
  rw [e1,List.map_flatMap]
  have:∀ l:List Nat,(∀ s,s∈l→s<nSt c)→l.flatMap (fun s=>(Zq (opS c s)).1)=l.flatMap (fun s=>(opS c s).map fun o=>List.replicate o.2.2.2.length (0:Int)):=by
   intro l hl
   induction l with
   | nil=>rfl
   | cons s l ih =>
    rw [List.flatMap_cons,List.flatMap_cons,ih (fun t ht=>hl t (List.mem_cons_of_mem _ ht))]
    unfold Zq
    rw [if_pos (Qeq A (hl s List.mem_cons_self)).1]
  exact this _ (fun s hs=>List.mem_range.1 hs)
 ·show ((List.range (nSt c)).any fun s=>false)=false
  simp
theorem QEW {j:Nat} (hj:j<b.length):ZA (Qaw c b j) (Yk (Q6 c) (prAt b j))=Qaw c b (j+1):=by
 have hp:=QaW A hj
 have hbf:=QCC A.cuts (prAt b j) (nSt c) 0 (by simp [nSt])
 have hff:=Qsf A.cuts (prAt b j).1 (nSt c) 0 (by simp [nSt])
 rw [← List.range_eq_range'] at hbf hff
 have e0:(Q6 c).drop (Zw (Q6 c) (Zj c) 0)=Q6 c:=rfl
 have e1:inp (Q6 c) (Zj c) (prAt b j).1 0=(prAt b j).1:=Qup A.cuts _
 have e2:JW (Q6 c) (Zj c) (prAt b j) 0=Qy (Q6 c) (Qu (Q6 c) (prAt b j).1).1 (Q3 (ZY (Q6 c) (prAt b j).1) (prAt b j).2).1:=by unfold JW;rw [e0,e1]
 rw [e2] at hbf
 rw [e0,e1] at hff
 have ey:gtd [] (Qu (Q6 c) (prAt b j).1).1 (Q6 c).length=ZY (Q6 c) (prAt b j).1:=rfl
 have hra:=QD7 (fun s=>Jo c b s j) (fun s=>(bkS c b s j).1) (List.range (nSt c)) (fun s hs=>by
  have hs:=List.mem_range.1 hs
  rw [(Qmm A hs (g:=j) (by omega)).1,(QzF A hs hj).1])
 unfold Yk
 rw [if_pos hp]
 simp only [ey]
 unfold ZA
 simp only
 rw [hbf.1,hbf.2,hff]
 have hra':Zd (Qaw c b j).1 ((List.range (nSt c)).flatMap fun s=>(Qal (Q6 c) (Zj c) (prAt b j) s).1)=_:=hra
 rw [hra']
 refine Prod.ext rfl (Prod.ext rfl ?_)
 show ((List.range (nSt c)).any (fun s=>satV c b s j j)||_||_||_)=(List.range (nSt c)).any (fun s=>satV c b s (j+1) (j+1))
 have hs:∀ s,satV c b s (j+1) (j+1)=(satV c b s j j||(fsat (Q6 c) (Zj c) (prAt b j).1 s||(Zc c s&&lsat c b j))||((bkS c b s j).2.2||(Zd (Jo c b s j) (bkS c b s j).1).2||(Zc c s&&(Q3 (outA c b j) (prAt b j).2).2))):=by
  intro s
  unfold satV
  rw [List.range_succ,List.any_append,List.any_append]
  simp only [List.any_cons,List.any_nil,Bool.or_false,QdV,Qfs]
  ac_rfl
 have hl:(List.range (nSt c)).any (Zc c)=true:=by
  rw [List.any_eq_true]
  exact ⟨(Zj c).length,List.mem_range.2 (by simp [nSt]),by simp [Zc,nSt]⟩
 have hl':(List.range (nSt c)).any (fun s=>Zc c s)=true:=hl
 have:(List.range (nSt c)).any (fun s=>satV c b s (j+1) (j+1))=(List.range (nSt c)).any (fun s=>(satV c b s j j||(fsat (Q6 c) (Zj c) (prAt b j).1 s||(Zc c s&&lsat c b j))||((bkS c b s j).2.2||(Zd (Jo c b s j) (bkS c b s j).1).2||(Zc c s&&(Q3 (outA c b j) (prAt b j).2).2)))):=by
  congr 1;funext s;exact hs s
 rw [this]
 simp only [QQT,QIV,hl',Bool.true_and]
 unfold lsat
 show (_||(_||(ZX (outA c b j) (prAt b j).2).2||(Q3 (outA c b j) (prAt b j).2).2||_)||_||(Q4 (YY c b j) (ZX (outA c b j) (prAt b j).2).1).2)=_
 simp only [bkS]
 generalize (List.range (nSt c)).any (fun s=>fsat (Q6 c) (Zj c) (prAt b j).1 s)=X
 ac_rfl
theorem QtP:∀ (n j:Nat),j+n=b.length→QbX (Q6 c) (b.drop j) (Qaw c b j)=Qaw c b b.length
 | 0,j,h=>by rw [show j=b.length by omega,List.drop_length];rfl
 | n+1,j,h=>by
  have hj:j<b.length:=by omega
  rw [List.drop_eq_getElem_cons hj,QbX]
  have e:b[j]=prAt b j:=(Qd4 (List.getElem?_eq_getElem hj) Zh).symm
  rw [e,QEW A hj]
  exact QtP n (j+1) (by omega)
theorem QHS:Yu (Q6 c) b=Qaw c b b.length:=by
 unfold Yu
 rw [if_pos A.batch,← QOg A]
 have:=QtP A b.length 0 (by omega)
 rwa [List.drop_zero] at this
theorem QxP:Jw (QW c b (lenP c b))=Yu (Q6 c) b:=by
 have V:Ok c b (lenP c b):=by
  refine ⟨fun s hs=>Nat.le_refl _,fun s hs=>?_,fun s hs=>?_,fun _ s hs=>by omega⟩
  ·have:=Qaa A (s:=s) (by omega);have:=Qaa A hs;have:=QaJ A hs;omega
  ·have:=Qaa A (s:=s) (by omega);have:=Qaa A hs;have:=QaJ A hs;omega
 have hd:Ja (QW c b (lenP c b))=true:=by
  rw [QiF A V];exact decide_eq_true (Qj7.2 fun s hs=>Nat.le_refl _)
 unfold Jw
 rw [if_pos hd,QHS A]
 have hst:∀ s,s<nSt c→stAt c b s (lenP c b s)=st c b s (lenP c b s) b.length b.length 8:=by
  intro s hs
  obtain ⟨h1,h2,h3⟩:=Qjz A hs
  unfold stAt;rw [h1,h2,h3]
 have hps:QB (QW c b (lenP c b))=(List.range (nSt c)).map fun s=>st c b s (lenP c b s) b.length b.length 8:=Qa4 hst
 rw [hps]
 refine Prod.ext ?_ (Prod.ext ?_ ?_)
 ·simp only [Qaw]
  rw [List.flatMap_map]
  rfl
 ·simp only [Qaw]
  rw [List.map_map,show nSt c=(Zj c).length+1 from rfl,List.range_succ,List.map_append,List.map_cons,List.map_nil,List.getLast?_append]
  simp [st,Zc,nSt]
 ·simp only [Qaw]
  rw [List.any_map]
  rfl
end
end Go.Proofs.YtjbdljkhbglnhaaGreat.Am
namespace Go.Proofs.YtjbdljkhbglnhaaGreat.Am
open Go Sz
section
variable {c:Qo} {b:List Qi} (A:Adm c b)
include A
theorem QnS:Ok c b (lenP c b):=by
 refine ⟨fun s hs=>Nat.le_refl _,fun s hs=>?_,fun s hs=>?_,fun _ s hs=>by omega⟩
 ·have:=Qaa A (s:=s) (by omega);have:=Qaa A hs;have:=QaJ A hs;omega
 ·have:=Qaa A (s:=s) (by omega);have:=Qaa A hs;have:=QaJ A hs;omega
theorem QNM:Qaz c b.length=(left c b (fun _=>0):Nat):=by
 have hst:=Qhj A
 have hr:=A.redo
 unfold Qaz
 have e:min c.2.2.2.1.length (QO c).toNat=nSt c:=by rw [hst];simp only [J9,nSt] at *;omega
 rw [e]
 unfold left
 have:∀ n,Qbh c b.length n=(((List.range n).map fun s=>lenP c b s-0).sum:Nat):=by
  intro n
  induction n with
  | zero=>rfl
  | succ n ih =>
   rw [Qbh,ih,List.range_succ,List.map_append,List.sum_append,hst]
   simp [lenP,YJ,YP]
 exact this _
end
end Go.Proofs.YtjbdljkhbglnhaaGreat.Am

