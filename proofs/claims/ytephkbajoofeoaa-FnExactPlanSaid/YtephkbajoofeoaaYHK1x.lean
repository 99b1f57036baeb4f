/- -/
import Derived.Test.YtephkbajoofeoaaYHG9
namespace Go.Proofs.Ytephkbajoofeoaa.Am
open Go Go.RowKit Go.Proofs.Ytephkbajoofeoaa
set_option linter.all false
noncomputable section
variable (K:TRes→Prop)
def Z1 (t:Int × (List TIns)):TRes:=⟨(zci t.1),[],[],true,[(.sl 151 Qb true t.2)]⟩
def Qa4:TRow:=QD 20 [(.o 151 Qb),(.c TI)] fun x=>(some (Zn x.1 x.2.1),Z1 (Q8 x.1 x.2.1))
def Qa5:List TRow:=[]
def Qdx:TCode :=
 (zsq [(zsq [(.reg [zmv 6 5,zmv 7 0,zle 8 7,zbi 9 .lss 6 8]),(.cond 9 .skip (.exit 0))]),(.block 1 (zsq [(.reg [zmv 12 0,zmv 13 5,zmv 14 1,zia 15 12 13 Qb,zfa 16 15 0,zst 16 14 1]),(.reg [zmv 17 1,zbi 18 .add 17 (zki 1),zmv 1 18]),(.reg [zmv 19 0,zmv 20 5,zmv 21 1,zia 22 19 20 Qb,zfa 23 22 1,zst 23 21 1]),(.reg [zmv 24 1,zbi 25 .add 24 (zki 1),zmv 1 25])])),(.reg [zmv 10 5,zbi 11 .add 10 (zki 1),zmv 5 11])])
def Qck:List (Nat × Md):=[(0,.one .f),(1,.one .d),(5,.one .d)]
def Qbw:TCode :=
 (zsq [(.reg [zmv 26 1,zmv 4 26]),.ret])
def Qfm:TCode :=
 (zsq [(.reg [zmv 4 (zki 0)]),(zsq [(.reg [zmv 5 (zki 0)]),(.block 0 (.loop Qck Qdx))]),Qbw])
def QcR:List (ARv × Md):=[(.t 4,.one .d)]
def Qbt:Qg:=TQ 0 1 QcR K
def QfJ:Qg:=Qseq (tawp Qa5 1 Qbw (Qbt K)) (Qbt K)
def QeO:Qg:=Qblk 0 (QfJ K)
def Y9 (a:List TIns) (k1:Int) (i:Int) (a1:List TIns):Prop:=Loop Qa5 1 Qck Qdx (QeO K) ⟨[(0,(.r Qb 0 0 a.length)),(1,(zci k1)),(5,(zci i))],[(0,(.sl 151 Qb true a1))],1⟩
theorem QdE (a:List TIns) (k1:Int) (i:Int) (a1:List TIns) (h :
 (zif (decide (i<((a.length:Nat):Int))) ((((0:Int)≤i∧Int.toNat i<a.length)∧((0+(Int.toNat i))<a1.length))∧((((0:Int)≤i∧Int.toNat i<a.length)∧((0+(Int.toNat i))<((a1).set (0+(Int.toNat i)) (k1,(gtd dIns a1 (0+(Int.toNat i))).2)).length))∧(Y9 K a (w64 ((w64 (k1+(1:Int)))+(1:Int))) (w64 (i+(1:Int))) (((a1).set (0+(Int.toNat i)) (k1,(gtd dIns a1 (0+(Int.toNat i))).2)).set (0+(Int.toNat i)) ((gtd dIns ((a1).set (0+(Int.toNat i)) (k1,(gtd dIns a1 (0+(Int.toNat i))).2)) (0+(Int.toNat i))).1,w64 (k1+(1:Int))))))) (K (Z1 (k1,a1))))):Y9 K a k1 i a1 :=
 Loop.of (by kernel_rfl) h
theorem Qhi (a:List TIns) (k:Int) (h :
 (Y9 K a k 0 a)):Hold (tawp Qa5 (0+1) Qfm (TQ 0 1 QcR K) (Qw [(.ow 151 Qb a),(.c TI k)])) :=
 Hold.of (by kernel_rfl) h
theorem Qg9 (a:List TIns) (k:Int) (hp:Zn a k):TCon Try.prog 20 [(.ow 151 Qb a),(.c TI k)] (Z1 (Q8 a k)):=by
 refine QI rfl fun hb=>tcg (n:=27) (sg:=Qa4.sg) QH TOk.nil (by kernel_rfl) (by kernel_rfl) (Qhi _ a k ?_)
 have key:∀ (r done:List TIns) (j:Int),0≤j→j+2*r.length≤4000000000→(done++r).length=a.length→a.length≤1000000000→(j+2*r.length,done++QV r j)=(Q8 a k)→Y9 (fun r'=>r'=Z1 (Q8 a k)) a j (done.length:Int) (done++r):=by
  intro r
  induction r with
  | nil =>
   intro done j h1 h2 h3 h4 he
   refine QdE (fun r'=>r'=Z1 (Q8 a k)) a _ _ _ ⟨fun h=>?_,fun _=>R_eq ?_⟩
   ·simp at h h3;omega
   ·rw [← he];simp [QV]
  | cons x r ih =>
   intro done j h1 h2 h3 h4 he
   have hl:done.length<(done++x::r).length:=by simp
   have hl2:done.length<a.length:=by omega
   simp only [List.length_cons] at h2 he
   refine QdE (fun r'=>r'=Z1 (Q8 a k)) a _ _ _ ⟨fun _=>?_,fun h=>?_⟩
   ·rw [Int.toNat_natCast,Nat.zero_add]
    refine ⟨⟨⟨by omega,hl2⟩,hl⟩,⟨⟨by omega,hl2⟩,by rw [List.length_set];exact hl⟩,?_⟩
    rw [QA (x:=j+1) (by omega) (by omega),QA (x:=j+1+1) (by omega) (by omega),sc1 (by omega),List.set_set,Qe8 hl,QgY,Qh0]
    have h:=ih (done++[(j,j+1)]) (j+1+1) (by omega) (by omega) (by simpa using h3) h4 ?_
    ·simpa using h
    ·rw [← he];simp [QV];omega
   ·simp at h;omega
 obtain ⟨h1,h2,h3⟩:=hp
 exact key a [] k h1 (by omega) rfl (by omega) rfl
theorem Qhk:QC Try.prog Qa4:=QM fun x h=>Qg9 x.1 x.2.1 h
def Zu (t:Int):TRes:=zre (zci t)
def QaA:TRow:=QD 21 [(.c (.sl Qb)),(.c TI)] fun x=>(some (Zn x.1 x.2.1),Zu (Zq x.1 x.2.1))
def J9:List TRow:=[]
def Qc7:TCode :=
 (zsq [(zsq [(.reg [zmv 6 5,zmv 7 0,zle 8 7,zbi 9 .lss 6 8]),(.cond 9 .skip (.exit 0))]),(.block 1 (zsq [(zsq [(.reg [zmv 12 0,zmv 13 5,zia 14 12 13 Qb,zfa 15 14 0,zld 16 15 1,zmv 17 1,zbi 18 .neq 16 17]),(.cond 18 (zsq [(.reg [zmv 4 (zki (-1))]),.ret]) .skip)]),(.reg [zmv 19 1,zbi 20 .add 19 (zki 1),zmv 1 20]),(zsq [(.reg [zmv 21 0,zmv 22 5,zia 23 21 22 Qb,zfa 24 23 1,zld 25 24 1,zmv 26 1,zbi 27 .neq 25 26]),(.cond 27 (zsq [(.reg [zmv 4 (zki (-1))]),.ret]) .skip)]),(.reg [zmv 28 1,zbi 29 .add 28 (zki 1),zmv 1 29])])),(.reg [zmv 10 5,zbi 11 .add 10 (zki 1),zmv 5 11])])
def QcY:List (Nat × Md):=zdl [0,1,5]
def QcV:TCode :=
 (zsq [(.reg [zmv 30 1,zmv 4 30]),.ret])
def Qh2:TCode :=
 (zsq [(.reg [zmv 4 (zki 0)]),(zsq [(.reg [zmv 5 (zki 0)]),(.block 0 (.loop QcY Qc7))]),QcV])
def Qcg:List (ARv × Md):=[(.t 4,.one .d)]
def Qcw:Qg:=TQ 0 0 Qcg K
def Qgv:Qg:=Qseq (tawp J9 0 QcV (Qcw K)) (Qcw K)
def Qhp:Qg:=Qblk 0 (Qgv K)
def Jf (a:List TIns) (k1:Int) (i:Int):Prop:=Loop J9 0 QcY Qc7 (Qhp K) ⟨[(0,(zcs Qb a)),(1,(zci k1)),(5,(zci i))],[],0⟩
theorem Qd0 (a:List TIns) (k1:Int) (i:Int) (h :
 (zif (decide (i<(a.length:Int))) (((0:Int)≤i∧Int.toNat i<a.length)∧(zif (((gtd dIns a (Int.toNat i)).1) != k1) (K (Zu (-1:Int))) (((0:Int)≤i∧Int.toNat i<a.length)∧(zif (((gtd dIns a (Int.toNat i)).2) != (w64 (k1+(1:Int)))) (K (Zu (-1:Int))) (Jf K a (w64 ((w64 (k1+(1:Int)))+(1:Int))) (w64 (i+(1:Int)))))))) (K (Zu k1)))):Jf K a k1 i :=
 Loop.of (by kernel_rfl) h
theorem Qgz (a:List TIns) (k:Int) (h :
 (Jf K a k 0)):Hold (tawp J9 (0+0) Qh2 (TQ 0 0 Qcg K) (Qw [(.c (.sl Qb) a),(.c TI k)])) :=
 Hold.of (by kernel_rfl) h
theorem QeT (a:List TIns) (k:Int) (hp:Zn a k):TCon Try.prog 21 [(.c (.sl Qb) a),(.c TI k)] (Zu (Zq a k)):=by
 refine QI rfl fun hb=>tcg (n:=31) (sg:=QaA.sg) QH TOk.nil (by kernel_rfl) (by kernel_rfl) (Qgz _ a k ?_)
 have hl_a:a.length≤9223372036854775807:=hb.1.1
 obtain ⟨h1,h2,h3⟩:=hp
 refine QbS a (fun r i=>∀ j:Int,j=k+2*i→ZH r j=(Zq a k)→Jf (fun r'=>r'=Zu (Zq a k)) a j i) ?_ ?_ k (by simp) rfl
 ·intro j hj he
  refine Qd0 (fun r'=>r'=Zu (Zq a k)) a _ _ ⟨fun h=>by simp at h,fun _=>R_eq ?_⟩
  rw [← he];rfl
 ·intro i x r hi hlt hg ih j hj he
  refine Qd0 (fun r'=>r'=Zu (Zq a k)) a _ _ ⟨fun _=>?_,fun h=>by simp at h;omega⟩
  rw [Int.toNat_natCast,hg,sc1 (by omega),QA (x:=j+1) (by omega) (by omega),QA (x:=j+1+1) (by omega) (by omega)]
  rw [ZH] at he
  refine ⟨⟨by omega,hlt⟩,fun h=>R_eq ?_,fun h=>⟨⟨by omega,hlt⟩,fun h'=>R_eq ?_,fun h'=>ih _ (by omega) ?_⟩⟩
  ·rw [← he,if_pos (by simpa using h)]
  ·rw [← he,if_neg (by simpa using h),if_pos (by simpa using h')]
  ·rw [← he,if_neg (by simpa using h),if_neg (by simpa using h')]
theorem Qha:QC Try.prog QaA:=QM fun x h=>QeT x.1 x.2.1 h
end
end Go.Proofs.Ytephkbajoofeoaa.Am

