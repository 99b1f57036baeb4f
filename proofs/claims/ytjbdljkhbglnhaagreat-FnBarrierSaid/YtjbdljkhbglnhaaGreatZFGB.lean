/- -/
import Derived.Test.YtjbdljkhbglnhaaGreatZFGA
set_option linter.all false
namespace Go.Proofs.YtjbdljkhbglnhaaGreat.Am
open Go Sz
theorem Qpg {α:Type} (d:α) (n:Nat) (f:Nat→α) {k:Nat} (hk:k<n):gtd d ((List.range n).map f) k=f k :=
 QeO (by rw [List.getElem?_map,List.getElem?_range hk];rfl) d
theorem Qf3 {α:Type} (n:Nat) (f g:Nat→α) (k:Nat) (v:α) (hv:k<n→v=g k) (h:∀ j,j<n→j≠k→f j=g j):((List.range n).map f).set k v=(List.range n).map g:=by
 apply List.ext_getElem?
 intro i
 rw [List.getElem?_set]
 simp only [List.length_map,List.length_range,List.getElem?_map]
 by_cases hi:i<n
 ·rw [List.getElem?_range hi]
  by_cases hk:k=i
  ·subst hk
   rw [if_pos rfl,if_pos hi,hv hi];rfl
  ·rw [if_neg hk]
   simp only [Option.map_some]
   rw [h i hi (fun e=>hk e.symm)]
 ·rw [List.getElem?_eq_none (by simp;omega)]
  split
  ·rename_i e;rw [if_neg (by omega)];rfl
  ·rfl
theorem Qeo {α:Type} {n:Nat} {f g:Nat→α} (h:∀ j,j<n→f j=g j):(List.range n).map f=(List.range n).map g :=
 List.map_congr_left (fun j hj=>h j (List.mem_range.1 hj))
def bump (ks:Nat→Nat) (s:Nat):Nat→Nat:=fun j=>if j=s then ks j+1 else ks j
theorem YW (ks:Nat→Nat) (s:Nat):bump ks s s=ks s+1:=by simp [bump]
theorem ZJ (ks:Nat→Nat) {s j:Nat} (h:j≠s):bump ks s j=ks j:=by simp [bump,h]
section
variable {c:QC} {b:List Qp} (A:Adm c b)
include A
omit A in
theorem QoK (ks:Nat→Nat) {s:Nat} (hs:s<nSt c):gtd QM (QJ (Zv c b ks)) s=stAt c b s (ks s):=Qpg _ _ _ hs
omit A in
theorem Qlk (ks:Nat→Nat) {s:Nat} (hs:s+1<nSt c):gtd Qw (QB (Zv c b ks)) s=aQ c b ks s:=Qpg _ _ _ (by omega)
omit A in
theorem Qk8 (ks:Nat→Nat) {s:Nat} (hs:s+1<nSt c):gtd Qw (QA (Zv c b ks)) s=bQ c b ks s:=Qpg _ _ _ (by omega)
omit A in
theorem Qci (ks:Nat→Nat):(QJ (Zv c b ks)).length=nSt c:=by
 show ((List.range (nSt c)).map _).length=_
 simp
theorem QtU {s k:Nat} (hs:s<nSt c) (hk:k≤lenP c b s):sc c b s k≤b.length∧rc c b s k≤b.length∧rg c b s k≤b.length∧sg c b s k≤b.length:=by
 have H:=nums A hs hk
 have h1:=H.gf;have h2:=H.fM;have h3:=H.k1;have h4:=H.k45
 unfold sc rc rg sg scOf rcOf rgOf sgQ
 refine ⟨?_,?_,?_,?_⟩
 ·split <;> omega
 ·split
  ·rename_i h;have:=h3 h;omega
  ·omega
 ·split
  ·rename_i h;have:=h4 (h.imp id (fun h=>h.1));omega
  ·omega
 ·split <;> omega
theorem QmI {ks:Nat→Nat} (V:Ok c b ks) {s:Nat} (hs:s+1<nSt c):Q4 (aQ c b ks s)=true:=by
 have hc:=Qkh A hs
 have hq:=V.qa s hs
 have hb:=QcH A
 have hl:=(QtU A (s:=s) (by omega) (V.le s (by omega))).1
 unfold Q4 aQ
 simp only [Bool.and_eq_true,decide_eq_true_eq,List.length_map,List.length_range',List.all_eq_true]
 refine ⟨⟨⟨hc.1,hc.2⟩,by omega⟩,fun x hx=>?_⟩
 obtain ⟨j,hj,rfl⟩:=List.mem_map.1 hx
 rw [List.mem_range'_1] at hj
 have:=Y0.1 (Qfs A (s:=s+1) (j:=j) (by omega) (by omega))
 simp only [YE,Bool.and_eq_true,decide_eq_true_eq]
 exact ⟨⟨this.1,by omega⟩,by omega⟩
theorem QrA {ks:Nat→Nat} (V:Ok c b ks) {s:Nat} (hs:s+1<nSt c):Q4 (bQ c b ks s)=true:=by
 have hc:=Qkh A hs
 have hq:=V.qb s hs
 have hb:=QcH A
 have hl:=(QtU A (s:=s+1) (by omega) (V.le (s+1) (by omega))).2.2.2
 unfold Q4 bQ
 simp only [Bool.and_eq_true,decide_eq_true_eq,List.length_map,List.length_range',List.all_eq_true]
 refine ⟨⟨⟨hc.1,hc.2⟩,by omega⟩,fun x hx=>?_⟩
 obtain ⟨j,hj,rfl⟩:=List.mem_map.1 hx
 rw [List.mem_range'_1] at hj
 have:=Y0.1 (QfL A (s:=s+1) (j:=j) (by omega) (by omega))
 simp only [YE,Bool.and_eq_true,decide_eq_true_eq]
 exact ⟨⟨this.1,by omega⟩,by omega⟩
theorem QEq {ks:Nat→Nat} (V:Ok c b ks):∀ (n s:Nat),s+n=nSt c→JI b.length ((List.range' s n).map fun s=>stAt c b s (ks s))=true
 | 0,s,h=>rfl
 | n+1,s,h=>by
  have hs:s<nSt c:=by omega
  have ih:=QEq V n (s+1) (by omega)
  rw [List.range'_succ,List.map_cons,JI,ih]
  have h1:QU (stAt c b s (ks s))=true:=Qha A hs (V.le s hs) (nums A hs (V.le s hs))
  have h2:(((stAt c b s (ks s)).2.2.2.1:Bool)==decide (((List.range' (s+1) n).map fun s=>stAt c b s (ks s)).length=0))=true:=by
   simp only [stAt,st,Zs,List.length_map,List.length_range',beq_iff_eq]
   rw [Bool.eq_iff_iff];simp only [decide_eq_true_eq];omega
  have h3:(stAt c b s (ks s)).2.1.all (fun x=>m_in x.2 0 ((b.length:Int)-1))=true:=by
   rw [Qf4 dIns]
   intro k hk
   have L:=(loc A hs (k:=k) hk).c0
   rw [QV]
   have e:gtd dIns (stAt c b s (ks s)).2.1 k=insP c b s k:=rfl
   rw [e];omega
  rw [h1,h2,h3];rfl
theorem QIj {ks:Nat→Nat} (V:Ok c b ks):Zp (Zv c b ks)=true:=by
 have hn:=Qdg A
 have hb:=QcH A
 have hg:=QEq A V (nSt c) 0 (by omega)
 rw [← List.range_eq_range'] at hg
 have ha:(QB (Zv c b ks)).all Q4=true:=by
  rw [List.all_eq_true]
  intro q hq
  obtain ⟨j,hj,rfl⟩:=List.mem_map.1 hq
  exact QmI A V (by have:=List.mem_range.1 hj;omega)
 have hbk:(QA (Zv c b ks)).all Q4=true:=by
  rw [List.all_eq_true]
  intro q hq
  obtain ⟨j,hj,rfl⟩:=List.mem_map.1 hq
  exact QrA A V (by have:=List.mem_range.1 hj;omega)
 have hpv:(QL (Zv c b ks)).all JV=true:=by
  rw [List.all_eq_true]
  intro x hx
  have:=A.batch
  simp only [Yj,Bool.and_eq_true,List.all_eq_true] at this
  have:=this.2 x hx
  simp only [Jp,Bool.and_eq_true] at this
  simp only [JV,Bool.and_eq_true]
  exact ⟨(Y0.1 this.1.2).1,(Y0.1 this.2).1⟩
 simp only [Zp,Bool.and_eq_true,QV,beq_iff_eq]
 refine ⟨⟨⟨⟨?_,?_⟩,?_⟩,?_⟩,⟨hpv,ha,hbk⟩,hg⟩
 ·rw [Qci];omega
 ·simp [Zv];omega
 ·simp [Zv];omega
 ·show (1:Int)≤(b.length:Int)∧(b.length:Int)≤5;omega
theorem QtT {ks:Nat→Nat} {s:Nat} (hs:s<nSt c) (hk:ks s≤lenP c b s):Qn (Zv c b ks) (s:Int)=if ks s<lenP c b s then insP c b s (ks s) else (0,0):=by
 have _:=A
 unfold Qn
 rw [if_pos (by rw [QV,Qci];omega),Int.toNat_natCast,QoK ks hs]
 unfold QbM
 have e1:((stAt c b s (ks s)).1:Int)=(ks s:Nat):=rfl
 have e2:(stAt c b s (ks s)).2.1.length=lenP c b s:=rfl
 rw [e1,e2]
 by_cases h:ks s<lenP c b s
 ·rw [if_pos h,if_pos (by rw [QV];omega),Int.toNat_natCast];rfl
 ·rw [if_neg h,if_neg (by rw [QV];omega)]
theorem QuX {ks:Nat→Nat} (V:Ok c b ks) {s:Nat} (hs:s<nSt c):Z4 (Zv c b ks) (s:Int)=true↔En c b ks s:=by
 have hn:=Qdg A
 unfold Z4
 rw [QIj A V,QtT A hs (V.le s hs),Bool.true_and,Bool.and_eq_true,QV,Qci]
 by_cases hk:ks s<lenP c b s
 rotate_left
 ·rw [if_neg hk]
  constructor
  ·intro h;exact absurd h.2 (by simp [JM])
  ·intro h;exact absurd h.1 hk
 rw [if_pos hk]
 have L:=loc A hs hk
 have hi:=L.c0
 have h1:=L.c1;have h3:=L.c3;have h4:=L.c4;have h7:=L.c7
 have hlen:((QJ (Zv c b ks)).length:Int)=(nSt c:Nat):=by rw [Qci]
 unfold En
 generalize insP c b s (ks s)=i at *
 have hcase:i.1=1∨i.1=2∨i.1=3∨i.1=4∨i.1=5∨i.1=6∨i.1=7∨i.1=8:=by omega
 unfold JM
 rw [hlen,Int.toNat_natCast]
 rcases hcase with e | e | e | e | e | e | e | e
 ·have h0:=h1 e
  have hq:=Qlk (b:=b) ks (c:=c) (s:=s-1) (by omega)
  rw [hq]
  simp only [e,aQ,List.length_map,List.length_range',Bool.and_eq_true,decide_eq_true_eq]
  rw [show s-1+1=s by omega]
  simp;omega
 ·simp [e];omega
 ·have h0:=h3 e
  have hq:=Qlk (b:=b) ks (c:=c) (s:=s) (by omega)
  have hqa:=V.qa s (by omega)
  rw [hq]
  simp only [e,aQ,Qa8,List.length_map,List.length_range',Bool.and_eq_true,decide_eq_true_eq]
  simp;omega
 ·have h0:=h4 e
  have hq:=Qk8 (b:=b) ks (c:=c) (s:=s) (by omega)
  rw [hq]
  simp only [e,bQ,List.length_map,List.length_range',Bool.and_eq_true,decide_eq_true_eq]
  simp;omega
 ·simp [e];omega
 ·simp [e];omega
 ·have h0:=h7 e
  have hq:=Qk8 (b:=b) ks (c:=c) (s:=s-1) (by omega)
  have hqb:=V.qb (s-1) (by omega)
  rw [hq]
  rw [show s-1+1=s by omega] at hqb
  simp only [e,bQ,Qa8,List.length_map,List.length_range',Bool.and_eq_true,decide_eq_true_eq]
  rw [show s-1+1=s by omega]
  simp;omega
 ·have:Qae (Zv c b ks)=true↔∀ j,j<nSt c→lenP c b j≤ks j+1:=by
   unfold Qae
   rw [List.all_eq_true]
   constructor
   ·intro h j hj
    have:=h (stAt c b j (ks j)) (List.mem_map.2 ⟨j,List.mem_range.2 hj,rfl⟩)
    simp only [Jz,decide_eq_true_eq] at this
    have e1:((stAt c b j (ks j)).1:Int)=(ks j:Nat):=rfl
    have e2:(stAt c b j (ks j)).2.1.length=lenP c b j:=rfl
    rw [e1,e2] at this;omega
   ·intro h x hx
    obtain ⟨j,hj,rfl⟩:=List.mem_map.1 hx
    have:=h j (List.mem_range.1 hj)
    simp only [Jz,decide_eq_true_eq]
    have e1:((stAt c b j (ks j)).1:Int)=(ks j:Nat):=rfl
    have e2:(stAt c b j (ks j)).2.1.length=lenP c b j:=rfl
    rw [e1,e2];omega
  simp only [e]
  simp [this];omega
theorem QlG {ks:Nat→Nat} (V:Ok c b ks) {s:Nat} (hs:s<nSt c) (E:En c b ks s):Ok c b (bump ks s):=by
 obtain ⟨hk,e1,e3,e4,e7,e8⟩:=E
 obtain ⟨c1,c2,c3,c4⟩:=QGb A hs hk
 have L:=loc A hs hk
 refine ⟨fun j hj=>?_,fun j hj=>?_,fun j hj=>?_,fun h=>?_⟩
 ·by_cases h:j=s
  ·subst h;rw [YW];omega
  ·rw [ZJ _ h];exact V.le j hj
 ·have hq:=V.qa j hj
  by_cases h:j=s
  ·subst h
   rw [YW,ZJ _ (by omega),c1 hj]
   split
   ·rename_i h;have:=e3 h;omega
   ·omega
  ·by_cases h2:j+1=s
   ·subst h2
    rw [YW,ZJ _ h,c2 (by omega)]
    split
    ·rename_i h;have:=e1 h;simp only [Nat.add_sub_cancel] at this;omega
    ·omega
   ·rw [ZJ _ h,ZJ _ h2];exact hq
 ·have hq:=V.qb j hj
  by_cases h:j=s
  ·subst h
   rw [YW,ZJ _ (by omega),c3 hj]
   split
   ·rename_i h;have:=e4 h;omega
   ·omega
  ·by_cases h2:j+1=s
   ·subst h2
    rw [YW,ZJ _ h,c4 (by omega)]
    split
    ·rename_i h;have:=e7 h;simp only [Nat.add_sub_cancel] at this;omega
    ·omega
   ·rw [ZJ _ h,ZJ _ h2];exact hq
 ·by_cases h8:(insP c b s (ks s)).1=8
  ·intro j hj
   have:=e8 h8 j hj
   by_cases h2:j=s
   ·subst h2;rw [YW];omega
   ·rw [ZJ _ h2];exact this
  ·exfalso
   have hl:¬ ks s+1=lenP c b s:=fun e=>h8 (L.c0.2.2.2.2.2.2.1.2 (by simpa using e))
   obtain ⟨j,hj,hje⟩:=h
   by_cases h2:j=s
   ·subst h2;rw [YW] at hje;exact hl hje
   ·rw [ZJ _ h2] at hje
    have:=V.fl ⟨j,hj,hje⟩ s hs
    omega
theorem Qt2 {ks:Nat→Nat} (V:Ok c b ks) {s:Nat} (hs:s<nSt c) (E:En c b ks s):Zl (Zv c b ks) (s:Int)=Zv c b (bump ks s):=by
 have hen:=(QuX A V hs).2 E
 have V':=QlG A V hs E
 have hk:=E.1
 have hnx:=QtT A hs (V.le s hs)
 rw [if_pos hk] at hnx
 unfold Zl
 rw [if_pos hen]
 simp only
 rw [hnx,Int.toNat_natCast,QoK ks hs]
 obtain ⟨c1,c2,c3,c4⟩:=QGb A hs hk
 obtain ⟨f1,f2,f3⟩:=QCY (c:=c) (b:=b) hk
 have L:=loc A hs hk
 have H:=nums A hs (V.le s hs)
 have hi:=L.c0
 have hpc:sPc (stAt c b s (ks s))+1=((ks s:Nat):Int)+1:=rfl
 rw [hpc]
 have fin:∀ (y:Qc × List Qd × List Qd),YK y.1 (((ks s:Nat):Int)+1)=stAt c b s (ks s+1) →
   y.2.1=(List.range (nSt c-1)).map (aQ c b (bump ks s))→y.2.2=(List.range (nSt c-1)).map (bQ c b (bump ks s)) →
   ((QL (Zv c b ks),(QJ (Zv c b ks)).set s (YK y.1 (((ks s:Nat):Int)+1)),y.2.1,y.2.2):Qe)=Zv c b (bump ks s):=by
  intro y h1 h2 h3
  rw [h1,h2,h3]
  refine Prod.ext rfl (Prod.ext ?_ rfl)
  exact Qf3 _ _ _ _ _ (fun _=>by rw [YW]) (fun j hj hne=>by rw [ZJ _ hne])
 have keepA:((insP c b s (ks s)).1≠1)→((insP c b s (ks s)).1≠3)→QB (Zv c b ks)=(List.range (nSt c-1)).map (aQ c b (bump ks s)):=by
  intro h1 h3
  refine Qeo fun j hj=>?_
  unfold aQ
  by_cases h:j=s
  ·subst h;rw [YW,ZJ _ (by omega),c1 (by omega),if_neg h3];simp only [Nat.add_zero]
  ·by_cases h2:j+1=s
   ·subst h2;rw [YW,ZJ _ h,c2 (by omega),if_neg h1];simp only [Nat.add_zero]
   ·rw [ZJ _ h,ZJ _ h2]
 have keepB:((insP c b s (ks s)).1≠4)→((insP c b s (ks s)).1≠7)→QA (Zv c b ks)=(List.range (nSt c-1)).map (bQ c b (bump ks s)):=by
  intro h1 h3
  refine Qeo fun j hj=>?_
  unfold bQ
  by_cases h:j=s
  ·subst h;rw [YW,ZJ _ (by omega),c3 (by omega),if_neg h1];simp only [Nat.add_zero]
  ·by_cases h2:j+1=s
   ·subst h2;rw [YW,ZJ _ h,c4 (by omega),if_neg h3];simp only [Nat.add_zero]
   ·rw [ZJ _ h,ZJ _ h2]
 have hp:∀ j,gtd QY (QL (Zv c b ks)) j=prAt b j:=fun j=>rfl
 have hstAt:∀ k1,(insP c b s (ks s)).1=k1→stAt c b s (ks s+1)=st c b s (ks s+1) (F c b s (ks s)+kf (insP c b s (ks s))) (G c b s (ks s)+kg (insP c b s (ks s))) k1:=by
  intro k1 h;unfold stAt;rw [f1,f2,f3,h]
 have hcase:(insP c b s (ks s)).1=1∨(insP c b s (ks s)).1=2∨(insP c b s (ks s)).1=3∨(insP c b s (ks s)).1=4∨(insP c b s (ks s)).1=5∨(insP c b s (ks s)).1=6∨(insP c b s (ks s)).1=7∨(insP c b s (ks s)).1=8:=by omega
 have g9:=L.c9;have g10:=L.c10;have g11:=L.c11;have g12:=L.c12;have g13:=L.c13
 unfold Ys
 simp only [hp]
 rcases hcase with e | e | e | e | e | e | e | e
 ·
  obtain ⟨h0,h1,h2⟩:=L.c1 e
  have hs0:0<s:=by omega
  have hkf:kf (insP c b s (ks s))=0:=by unfold kf;rw [if_neg (by omega)]
  have hkg:kg (insP c b s (ks s))=0:=by unfold kg;rw [if_neg (by omega)]
  have hlt:=E.2.1 e
  have hrc:rc c b s (ks s)=F c b s (ks s):=by unfold rc rcOf;rw [if_neg h2]
  have hq:=Qlk (c:=c) (b:=b) ks (s:=s-1) (by omega)
  have hok:=QmI A V (s:=s-1) (by omega)
  have hitems:(aQ c b ks (s-1)).2=(((rc c b s (ks s):Nat):Int),inS c b s (rc c b s (ks s)))::(List.range' (rc c b s (ks s)+1) (sc c b (s-1) (ks (s-1))-(rc c b s (ks s)+1))).map (fun j:Nat=>((j:Int),inS c b s j)):=by
   unfold aQ
   simp only
   rw [show s-1+1=s by omega,show sc c b (s-1) (ks (s-1))-rc c b s (ks s)=(sc c b (s-1) (ks (s-1))-(rc c b s (ks s)+1))+1 by omega,List.range'_succ,List.map_cons]
  have hpop:Zx (aQ c b ks (s-1))=((Qaw c (s-1),(List.range' (rc c b s (ks s)+1) (sc c b (s-1) (ks (s-1))-(rc c b s (ks s)+1))).map (fun j:Nat=>((j:Int),inS c b s j))),(((rc c b s (ks s):Nat):Int),inS c b s (rc c b s (ks s))),true):=by
   unfold Zx
   rw [hok,hitems]
   simp [QbZ]
   rfl
  simp only [e,if_true,hq,hpop]
  refine fin (_,_,_) ?_ ?_ (keepB (by omega) (by omega))
  ·rw [hstAt 1 e,hkf,hkg,hrc]
   exact Q25 A (fun h=>by have:=g10 h.1 (by omega);omega) (fun h=>by have:=g11 h;omega) (fun h=>by have:=g12 h;omega) (fun h=>by have:=g13 h.1 (by omega);omega)
  ·refine Qf3 _ _ _ _ _ (fun h=>?_) (fun j hj hne=>?_)
   ·unfold aQ
    rw [show s-1+1=s by omega,YW,ZJ _ (by omega),c2 hs0,if_pos e]
   ·unfold aQ
    by_cases h:j=s
    ·subst h;rw [YW,ZJ _ (by omega),c1 (by omega),if_neg (by omega)];simp only [Nat.add_zero]
    ·rw [ZJ _ h,ZJ _ (by omega)]
 ·
  obtain ⟨h1,h2⟩:=L.c2 e
  have hkf:kf (insP c b s (ks s))=1:=by unfold kf;rw [if_pos e]
  have hkg:kg (insP c b s (ks s))=0:=by unfold kg;rw [if_neg (by omega)]
  have hf:F c b s (ks s)<b.length:=by omega
  have e2:(insP c b s (ks s)).2.toNat=F c b s (ks s):=by omega
  simp only [e]
  simp
  refine fin (_,_,_) ?_ (keepA (by omega) (by omega)) (keepB (by omega) (by omega))
  rw [hstAt 2 e,hkf,hkg,e2,h1]
  exact QXS A hs (V.le s hs) H hf (fun h=>h2 (by omega)) (fun h=>by have:=g10 h.1 (by omega);omega) (fun h=>by have:=g11 h;omega) (fun h=>by have:=g12 h;omega) (fun h=>by have:=g13 h.1 (by omega);omega)
 ·
  obtain ⟨h0,h1,h2⟩:=L.c3 e
  have hs0:s+1<nSt c:=by omega
  have hkf:kf (insP c b s (ks s))=0:=by unfold kf;rw [if_neg (by omega)]
  have hkg:kg (insP c b s (ks s))=0:=by unfold kg;rw [if_neg (by omega)]
  have hroom:=E.2.2.1 e
  have h16:=L.c16 h2
  have hsc:sc c b s (ks s)=F c b s (ks s)-1:=by unfold sc scOf;rw [if_pos h2]
  have hq:=Qlk (c:=c) (b:=b) ks (s:=s) hs0
  have hok:=QmI A V (s:=s) hs0
  have hqa:=V.qa s hs0
  have hb5:=QcH A
  have hY:sY (stAt c b s (ks s))=inS c b (s+1) (F c b s (ks s)-1):=by
   show vY c b s _ _=_
   unfold vY;rw [if_pos ⟨h2,hs0⟩]
  have hv:=Y0.1 (Qfs A (s:=s+1) (j:=F c b s (ks s)-1) (by omega) (by omega))
  have hpush:YC (aQ c b ks s) ((insP c b s (ks s)).2,sY (stAt c b s (ks s)))=((Qaw c s,(aQ c b ks s).2++[(((sc c b s (ks s):Nat):Int),inS c b (s+1) (sc c b s (ks s)))]),true):=by
   unfold YC
   rw [hok,hY,h1,hsc]
   have hio:YE (((F c b s (ks s):Nat):Int)-1,inS c b (s+1) (F c b s (ks s)-1))=true:=by
    simp only [YE,Bool.and_eq_true,decide_eq_true_eq];exact ⟨⟨hv.1,by omega⟩,by omega⟩
   rw [hio]
   have hl:(((aQ c b ks s).2.length:Nat):Int)<(aQ c b ks s).1:=by simp only [aQ,List.length_map,List.length_range'];omega
   rw [if_pos (by simp only [Bool.true_and,decide_eq_true_eq];exact hl),show ((F c b s (ks s):Nat):Int)-1=((F c b s (ks s)-1:Nat):Int) by omega]
   rfl
  simp only [e,hq,hpush]
  simp
  refine fin (_,_,_) ?_ ?_ (keepB (by omega) (by omega))
  ·rw [hstAt 3 e,hkf,hkg]
   exact QMr A h2
  ·refine Qf3 _ _ _ _ _ (fun h=>?_) (fun j hj hne=>?_)
   ·unfold aQ
    rw [YW,ZJ _ (by omega),c1 hs0,if_pos e]
    rw [show sc c b s (ks s)+1-rc c b (s+1) (ks (s+1))=(sc c b s (ks s)-rc c b (s+1) (ks (s+1)))+1 by omega,List.range'_concat,List.map_append]
    simp only [List.map_cons,List.map_nil,Nat.one_mul]
    rw [show rc c b (s+1) (ks (s+1))+(sc c b s (ks s)-rc c b (s+1) (ks (s+1)))=sc c b s (ks s) by omega]
   ·unfold aQ
    by_cases h:j+1=s
    ·subst h;rw [YW,ZJ _ (by omega),c2 (by omega),if_neg (by omega)];simp only [Nat.add_zero]
    ·rw [ZJ _ hne,ZJ _ h]
 ·
  obtain ⟨h0,h1⟩:=L.c4 e
  have hs0:s+1<nSt c:=by omega
  have hkf:kf (insP c b s (ks s))=0:=by unfold kf;rw [if_neg (by omega)]
  have hkg:kg (insP c b s (ks s))=0:=by unfold kg;rw [if_neg (by omega)]
  have hlt:=E.2.2.2.1 e
  have h2:¬ (K1 c b s (ks s)=4∨(K1 c b s (ks s)=5∧(s:Int)<(nSt c:Nat)-1)):=by
   rintro (h | h)
   ·have:=g11 h;omega
   ·have:=g12 h.1;omega
  have hrg:rg c b s (ks s)=G c b s (ks s):=by unfold rg rgOf;rw [if_neg h2]
  have hq:=Qk8 (c:=c) (b:=b) ks (s:=s) hs0
  have hok:=QrA A V (s:=s) hs0
  have hitems:(bQ c b ks s).2=(((rg c b s (ks s):Nat):Int),doS c b (s+1) (rg c b s (ks s)))::(List.range' (rg c b s (ks s)+1) (sg c b (s+1) (ks (s+1))-(rg c b s (ks s)+1))).map (fun j:Nat=>((j:Int),doS c b (s+1) j)):=by
   unfold bQ
   simp only
   rw [show sg c b (s+1) (ks (s+1))-rg c b s (ks s)=(sg c b (s+1) (ks (s+1))-(rg c b s (ks s)+1))+1 by omega,List.range'_succ,List.map_cons]
  have hpop:Zx (bQ c b ks s)=((Qaw c s,(List.range' (rg c b s (ks s)+1) (sg c b (s+1) (ks (s+1))-(rg c b s (ks s)+1))).map (fun j:Nat=>((j:Int),doS c b (s+1) j))),(((rg c b s (ks s):Nat):Int),doS c b (s+1) (rg c b s (ks s))),true):=by
   unfold Zx
   rw [hok,hitems]
   simp [QbZ]
   rfl
  simp only [e,hq,hpop]
  simp
  refine fin (_,QB (Zv c b ks),(QA (Zv c b ks)).set _ _) ?_ (keepA (by omega) (by omega)) ?_
  ·rw [hstAt 4 e,hkf,hkg,hrg]
   exact QQL A (fun h=>by have:=g9 h;omega) (fun h=>by have:=g10 h.1 (by omega);omega) (fun h=>by have:=g12 h;omega) (fun h=>by have:=g13 h.1 (by omega);omega)
  ·refine Qf3 _ _ _ _ _ (fun h=>?_) (fun j hj hne=>?_)
   ·unfold bQ
    rw [YW,ZJ _ (by omega),c3 hs0,if_pos e]
   ·unfold bQ
    by_cases h:j+1=s
    ·subst h;rw [YW,ZJ _ (by omega),c4 (by omega),if_neg (by omega)];simp only [Nat.add_zero]
    ·rw [ZJ _ hne,ZJ _ h]
 ·
  obtain ⟨h0,h1,h2,h3⟩:=L.c5 e
  have hkf:kf (insP c b s (ks s))=0:=by unfold kf;rw [if_neg (by omega)]
  have hkg:kg (insP c b s (ks s))=0:=by unfold kg;rw [if_neg (by omega)]
  simp only [e]
  simp
  refine fin (_,_,_) ?_ (keepA (by omega) (by omega)) (keepB (by omega) (by omega))
  rw [hstAt 5 e,hkf,hkg,h1]
  exact QMF A hs (V.le s hs) H h0 h2 (fun h=>by have:=g9 h;omega) (fun h=>by have:=g10 h.1 (by omega);omega) ⟨fun h=>by have:=L.c18 h;omega,fun h=>h3 (by omega)⟩ (fun h=>by have:=g12 h;omega) (fun h=>by have:=g13 h.1 (by omega);omega)
 ·
  obtain ⟨h1,h2,h3,h4⟩:=L.c6 e
  have hkf:kf (insP c b s (ks s))=0:=by unfold kf;rw [if_neg (by omega)]
  have hkg:kg (insP c b s (ks s))=1:=by unfold kg;rw [if_pos e]
  have e2:(insP c b s (ks s)).2.toNat=G c b s (ks s):=by omega
  simp only [e]
  simp
  refine fin (_,_,_) ?_ (keepA (by omega) (by omega)) (keepB (by omega) (by omega))
  rw [hstAt 6 e,hkf,hkg,e2,h1]
  exact QJD A hs (V.le s hs) H h2 h3 (fun hr hn=>h4 hr (by omega)) (fun h=>by have:=g9 h;omega) (fun h=>by have:=g10 h.1 (by omega);omega) L.c14 (fun h=>by have:=L.c18 h;omega)
 ·
  obtain ⟨h0,h1,h2⟩:=L.c7 e
  have hs0:0<s:=by omega
  have hkf:kf (insP c b s (ks s))=0:=by unfold kf;rw [if_neg (by omega)]
  have hkg:kg (insP c b s (ks s))=0:=by unfold kg;rw [if_neg (by omega)]
  have hroom:=E.2.2.2.2.1 e
  have h15:=L.c15 h2
  have hsg:sg c b s (ks s)=G c b s (ks s)-1:=by unfold sg sgQ;rw [if_pos h2]
  have hq:=Qk8 (c:=c) (b:=b) ks (s:=s-1) (by omega)
  have hok:=QrA A V (s:=s-1) (by omega)
  have hqb:=V.qb (s-1) (by omega)
  rw [show s-1+1=s by omega] at hqb
  have hb5:=QcH A
  have hD:sD (stAt c b s (ks s))=doS c b s (G c b s (ks s)-1):=by
   show vD c b s _ _=_
   unfold vD;rw [if_pos ⟨h2,hs0⟩]
  have hv:=Y0.1 (QfL A (s:=s) (j:=G c b s (ks s)-1) (by omega) (by omega))
  have hpush:YC (bQ c b ks (s-1)) ((insP c b s (ks s)).2,sD (stAt c b s (ks s)))=((Qaw c (s-1),(bQ c b ks (s-1)).2++[(((sg c b s (ks s):Nat):Int),doS c b s (sg c b s (ks s)))]),true):=by
   unfold YC
   rw [hok,hD,h1,hsg]
   have hio:YE (((G c b s (ks s):Nat):Int)-1,doS c b s (G c b s (ks s)-1))=true:=by
    simp only [YE,Bool.and_eq_true,decide_eq_true_eq];exact ⟨⟨hv.1,by omega⟩,by omega⟩
   rw [hio]
   have hl:(((bQ c b ks (s-1)).2.length:Nat):Int)<(bQ c b ks (s-1)).1:=by
    simp only [bQ,List.length_map,List.length_range'];rw [show s-1+1=s by omega];omega
   rw [if_pos (by simp only [Bool.true_and,decide_eq_true_eq];exact hl),show ((G c b s (ks s):Nat):Int)-1=((G c b s (ks s)-1:Nat):Int) by omega]
   rfl
  simp only [e,hq,hpush]
  simp
  refine fin (_,QB (Zv c b ks),(QA (Zv c b ks)).set _ _) ?_ (keepA (by omega) (by omega)) ?_
  ·rw [hstAt 7 e,hkf,hkg]
   exact QO0 A h2
  ·refine Qf3 _ _ _ _ _ (fun h=>?_) (fun j hj hne=>?_)
   ·unfold bQ
    rw [show s-1+1=s by omega,YW,ZJ _ (by omega),c4 hs0,if_pos e]
    rw [show sg c b s (ks s)+1-rg c b (s-1) (ks (s-1))=(sg c b s (ks s)-rg c b (s-1) (ks (s-1)))+1 by omega,List.range'_concat,List.map_append]
    simp only [List.map_cons,List.map_nil,Nat.one_mul]
    rw [show rg c b (s-1) (ks (s-1))+(sg c b s (ks s)-rg c b (s-1) (ks (s-1)))=sg c b s (ks s) by omega]
   ·unfold bQ
    by_cases h:j=s
    ·subst h;rw [YW,ZJ _ (by omega),c3 (by omega),if_neg (by omega)];simp only [Nat.add_zero]
    ·rw [ZJ _ h,ZJ _ (by omega)]
 ·
  have hkf:kf (insP c b s (ks s))=0:=by unfold kf;rw [if_neg (by omega)]
  have hkg:kg (insP c b s (ks s))=0:=by unfold kg;rw [if_neg (by omega)]
  simp only [e]
  simp
  refine fin (_,_,_) ?_ (keepA (by omega) (by omega)) (keepB (by omega) (by omega))
  rw [hstAt 8 e,hkf,hkg]
  exact QZ3 A (fun h=>by have:=g9 h;omega) (fun h=>by have:=g10 h.1 (by omega);omega) (fun h=>by have:=g11 h;omega) (fun h=>by have:=g12 h;omega) (fun h=>by have:=g13 h.1 (by omega);omega)
theorem QyG {ks:Nat→Nat} (V:Ok c b ks) {s:Nat} (hs:s<nSt c) (E:¬ En c b ks s):Zl (Zv c b ks) (s:Int)=Zv c b ks:=by
 unfold Zl
 rw [if_neg (fun h=>E ((QuX A V hs).1 h))]
theorem QJg {ks:Nat→Nat} {s:Int} (hs:¬ (0≤s∧s<(nSt c:Nat))):Zl (Zv c b ks) s=Zv c b ks:=by
 have _:=A
 unfold Zl
 rw [if_neg]
 unfold Z4
 rw [Qci]
 simp only [Bool.and_eq_true,QV]
 omega
theorem QJy {ks:Nat→Nat} (V:Ok c b ks) (s:Int):∃ ks',Ok c b ks'∧Zl (Zv c b ks) s=Zv c b ks'∧(∀ j,ks j≤ks' j)∧((∃ t:Nat,s=t∧t<nSt c∧En c b ks t∧ks'=bump ks t)∨ks'=ks):=by
 by_cases h:0≤s∧s<(nSt c:Nat)
 ·obtain ⟨t,rfl⟩:=Int.eq_ofNat_of_zero_le h.1
  by_cases E:En c b ks t
  ·refine ⟨bump ks t,QlG A V (by omega) E,Qt2 A V (by omega) E,fun j=>?_,.inl ⟨t,rfl,by omega,E,rfl⟩⟩
   unfold bump;split <;> omega
  ·exact ⟨ks,V,QyG A V (by omega) E,fun _=>Nat.le_refl _,.inr rfl⟩
 ·exact ⟨ks,V,QJg A h,fun _=>Nat.le_refl _,.inr rfl⟩
end
end Go.Proofs.YtjbdljkhbglnhaaGreat.Am
namespace Go.Proofs.YtjbdljkhbglnhaaGreat.Am
open Go Sz
def QsJ:Bool:=[1,2].all fun ds:Int=>[1,2,3,4].all fun n:Int=>[0,1,2,3].all fun s:Int=>[1,2,3,4,5].all fun M:Int=>[true,false].all fun rd =>
 decide (((ZL ds n s M rd).length:Int)≤7*M+1)
set_option maxRecDepth 100000 in
theorem QQV:QsJ=true:=by kernel_rfl
theorem QNM {ds n s M:Int} (rd:Bool) (h1:1≤ds) (h2:ds≤2) (h3:n≤4) (h4:0≤s) (h5:s<n) (h6:1≤M) (h7:M≤5):((ZL ds n s M rd).length:Int)≤7*M+1:=by
 have h:=QQV
 unfold QsJ at h
 rw [List.all_eq_true] at h
 have h:=h ds (by have:ds=1∨ds=2:=(by omega);rcases this with rfl | rfl <;> simp)
 rw [List.all_eq_true] at h
 have h:=h n (by have:n=1∨n=2∨n=3∨n=4:=(by omega);rcases this with rfl | rfl | rfl | rfl <;> simp)
 rw [List.all_eq_true] at h
 have h:=h s (by have:s=0∨s=1∨s=2∨s=3:=(by omega);rcases this with rfl | rfl | rfl | rfl <;> simp)
 rw [List.all_eq_true] at h
 have h:=h M (by have:M=1∨M=2∨M=3∨M=4∨M=5:=(by omega);rcases this with rfl | rfl | rfl | rfl | rfl <;> simp)
 rw [List.all_eq_true] at h
 have h:=h rd (by cases rd <;> simp)
 simpa using h
theorem QFe {α β:Type} (d:α) (f:α→β) (l:List α):l.map f=(List.range l.length).map fun i=>f (gtd d l i):=by
 apply List.ext_getElem?
 intro i
 simp only [List.getElem?_map]
 by_cases h:i<l.length
 ·rw [List.getElem?_range h,Y4 h d];rfl
 ·rw [List.getElem?_eq_none (by omega),List.getElem?_eq_none (by simp;omega)];rfl
section
variable {c:QC} {b:List Qp} (A:Adm c b)
include A
theorem Qji:QR c=(nSt c:Nat):=by
 have:=(QcW (c:=c)).2.2.2 A.cuts
 rw [this];simp [nSt]
theorem Qx7 {s:Nat} (hs:s<nSt c):1≤lenP c b s:=by
 have h:=(QvG A hs).2.2
 apply Classical.byContradiction
 intro hn
 rw [show lenP c b s=0 by omega] at h
 simp [K1,Jl] at h
theorem QXW {s:Nat} (hs:s<nSt c):lenP c b s≤7*b.length+1:=by
 have h1:=Qdg A
 have h2:=QcH A
 have:=QNM (ds:=cDs c) (n:=(nSt c:Nat)) (s:=(s:Nat)) (M:=b.length) (YZ c s) A.ds.1 A.ds.2 (by omega) (by omega) (by omega) (by omega) (by omega)
 unfold lenP Y6;omega
omit A in
theorem Qs2 (n micro:Int):∀ k:Nat,Jy c n micro k=(List.range k).map fun s:Nat =>
  JF (slice (Yk c) (QK (Yk c) (ZF c) s).1 (QK (Yk c) (ZF c) s).2) (ZL (cDs c) n s micro (gtd false (QaM c) s)) (decide ((s:Int)=n-1)) (gtd false (QaM c) s)
 | 0=>rfl
 | k+1=>by rw [Jy,Qs2 n micro k,List.range_succ,List.map_append];rfl
theorem QPW:Zy c b=Zv c b (fun _=>0):=by
 unfold Zy
 rw [if_pos (QW3 A),Qji A,Qs2,Int.toNat_natCast]
 refine Prod.ext rfl (Prod.ext ?_ (Prod.ext ?_ ?_))
 ·refine Qeo fun s hs=>?_
  have hm:=(Qfu A hs).1
  have e:slice (Yk c) (QK (Yk c) (ZF c) (s:Int)).1 (QK (Yk c) (ZF c) (s:Int)).2=opS c s:=QTE A.cuts (by simp only [nSt] at hs;omega)
  rw [e]
  unfold JF
  rw [if_pos hm]
  have e2:decide ((s:Int)=((nSt c:Nat):Int)-1)=Zs c s:=by
   simp only [Zs];rw [Bool.eq_iff_iff];simp only [decide_eq_true_eq];omega
  rw [e2]
  simp [stAt,st,F,G,K1,cf,cg,Jl,YL,Qac,vX,vY,vG,vD,QaC,Jj,satV,Y6,YZ]
 ·have e:=Qgt A
  show (JU c).map (fun n=>((n,[]):Qd))=_
  rw [QFe (0:Int),e]
  refine Qeo fun s hs=>?_
  simp [aQ,rc,sc,F,K1,cf,Jl,rcOf,scOf]
 ·have e:=Qgt A
  show (JU c).map (fun n=>((n,[]):Qd))=_
  rw [QFe (0:Int),e]
  refine Qeo fun s hs=>?_
  simp [bQ,rg,sg,G,K1,cg,Jl,rgOf,sgQ]
theorem Q1K:Ok c b (fun _=>0):=by
 refine ⟨fun s hs=>Nat.zero_le _,fun s hs=>?_,fun s hs=>?_,fun h=>?_⟩
 ·have:=Qkh A hs
  simp [rc,sc,F,K1,cf,Jl,rcOf,scOf];omega
 ·have:=Qkh A hs
  simp [rg,sg,G,K1,cg,Jl,rgOf,sgQ];omega
 ·obtain ⟨s,hs,e⟩:=h
  have:=Qx7 A hs
  omega
def left (c:QC) (b:List Qp) (ks:Nat→Nat):Nat:=((List.range (nSt c)).map fun s=>lenP c b s-ks s).sum
omit A in
theorem QYm {n:Nat} {f g:Nat→Nat} (h:∀ j,j<n→f j≤g j):((List.range n).map f).sum≤((List.range n).map g).sum:=by
 induction n with
 | zero=>simp
 | succ n ih =>
  rw [List.range_succ,List.map_append,List.map_append,List.sum_append,List.sum_append]
  have:=ih (fun j hj=>h j (by omega))
  have:=h n (by omega)
  simp;omega
omit A in
theorem Q2h {ks ks':Nat→Nat} (h:∀ j,ks j≤ks' j):left c b ks'≤left c b ks:=QYm fun j hj=>by have:=h j;omega
omit A in
theorem QOK {n:Nat} {f g:Nat→Nat} {k:Nat} (hk:k<n) (h:∀ j,j<n→j≠k→f j=g j) (he:f k+1=g k):((List.range n).map f).sum+1=((List.range n).map g).sum:=by
 induction n with
 | zero=>omega
 | succ n ih =>
  rw [List.range_succ,List.map_append,List.map_append,List.sum_append,List.sum_append]
  by_cases e:k=n
  ·subst e
   have:(List.range k).map f=(List.range k).map g:=Qeo fun j hj=>h j (by omega) (by omega)
   rw [this];simp;omega
  ·have:=ih (by omega) (fun j hj=>h j (by omega))
   have:=h n (by omega) (by omega)
   simp;omega
omit A in
theorem QSX {ks:Nat→Nat} {s:Nat} (hs:s<nSt c) (hk:ks s<lenP c b s):left c b (bump ks s)+1=left c b ks :=
 QOK hs (fun j hj hne=>by rw [ZJ _ hne]) (by rw [YW];omega)
omit A in
theorem QPI (k n:Nat) (ks:Nat→Nat):J2 k (n+1) (Zv c b ks)=J2 (k+1) n (Zl (Zv c b ks) ((k % nSt c:Nat):Int)):=by
 rw [J2,Qci]
 rfl
theorem Qmv:∀ (n k:Nat) {ks:Nat→Nat},Ok c b ks→∃ ks',Ok c b ks'∧J2 k n (Zv c b ks)=Zv c b ks'∧(∀ j,ks j≤ks' j)∧(left c b ks'<left c b ks∨(ks'=ks∧∀ i,i<n→¬ En c b ks ((k+i) % nSt c)))
 | 0,k,ks,V=>⟨ks,V,rfl,fun _=>Nat.le_refl _,.inr ⟨rfl,fun i hi=>by omega⟩⟩
 | n+1,k,ks,V=>by
  have hn:=Qdg A
  have hlt:k % nSt c<nSt c:=Nat.mod_lt _ (by omega)
  rw [QPI]
  by_cases E:En c b ks (k % nSt c)
  ·have V1:=QlG A V hlt E
   obtain ⟨k2,V2,e2,h2,_⟩:=Qmv n (k+1) V1
   rw [Qt2 A V hlt E]
   have hb:∀ j,ks j≤bump ks (k % nSt c) j:=fun j=>by unfold bump;split <;> omega
   refine ⟨k2,V2,e2,fun j=>Nat.le_trans (hb j) (h2 j),.inl ?_⟩
   have h3:=QSX (b:=b) hlt E.1
   have h4:=Q2h (c:=c) (b:=b) h2
   omega
  ·rw [QyG A V hlt E]
   obtain ⟨k2,V2,e2,h2,h3⟩:=Qmv n (k+1) V
   refine ⟨k2,V2,e2,h2,h3.imp (fun h=>h) fun ⟨h4,h5⟩=>⟨h4,fun i hi=>?_⟩⟩
   cases i with
   | zero=>exact E
   | succ i=>have:=h5 i (by omega);rwa [show k+1+i=k+(i+1) by omega] at this
end
end Go.Proofs.YtjbdljkhbglnhaaGreat.Am
namespace Go.Proofs.YtjbdljkhbglnhaaGreat.Am
open Go Sz
section
variable {c:QC} {b:List Qp} (A:Adm c b)
include A
theorem QNQ {ks:Nat→Nat} (V:Ok c b ks):(QaL (Zv c b ks)=0∨∀ s,s<nSt c→lenP c b s≤ks s+1):=by
 have _:=A
 by_cases h:∃ s,s<nSt c∧ks s=lenP c b s
 ·exact .inr (V.fl h)
 ·left
  unfold QaL
  have:((Zv c b ks).2.1.map fun s=>if QaR s then (1:Int) else 0).sum=0:=by
   show (((List.range (nSt c)).map fun s=>stAt c b s (ks s)).map _).sum=0
   rw [List.map_map]
   have:∀ n,n≤nSt c→((List.range n).map ((fun s=>if QaR s then (1:Int) else 0) ∘ fun s=>stAt c b s (ks s))).sum=0:=by
    intro n hn
    induction n with
    | zero=>rfl
    | succ n ih =>
     rw [List.range_succ,List.map_append,List.sum_append,ih (by omega)]
     have:QaR (stAt c b n (ks n))=false:=by
      have h1:=V.le n (by omega)
      have h2:ks n≠lenP c b n:=fun e=>h ⟨n,by omega,e⟩
      have e1:(stAt c b n (ks n)).1=((ks n:Nat):Int):=rfl
      have e2:(stAt c b n (ks n)).2.1.length=lenP c b n:=rfl
      simp only [QaR,e1,e2,decide_eq_false_iff_not];omega
     simp [this]
   exact this _ (Nat.le_refl _)
  rw [this];rfl
end
end Go.Proofs.YtjbdljkhbglnhaaGreat.Am

