/- -/
import Derived.Test.YtdplaepmjogjjaaGreatVDP1
import Derived.Test.YtdplaepmjogjjaaGreatVDPF
namespace Go.Proofs.YtdplaepmjogjjaaGreat.Am
open Go Go.RowKit Go.Proofs.YtdplaepmjogjjaaGreat
set_option linter.all false
noncomputable section
variable (K:TRes→Prop)
def QiF (t:Bool):TRes:=zre (zcb t)
def Qb5:TRow:=Qg 195 [(.c (.sl [TI])),(.c (.sl [TI]))] fun x=>(none,QiF (Zd x.1 x.2.1))
def QpQ:TTab:=⟨[QbV,Ju],false⟩
def QCf:TCode :=
 (zsq [(.reg [zmv 4 (zkb false)]),(.reg [zmv 5 0,zca 6 187 [5],zmv 7 6,.grp 7 true [zmv 8 1,zmv 9 0,zle 10 9,zca 11 100 [8,10]] 12 11,zmv 4 12]),.ret])
def QJn:List (ARv × Md):=[(.t 4,.one .d)]
theorem QJG (a:List Int) (b:List Int) (h :
 K (QiF ((QA a)&&(Qq b (a.length:Int))))):Hold (tawp QpQ (0+0) QCf (TQ 0 0 QJn K) (Qd [(.c (.sl [TI]) a),(.c (.sl [TI]) b)])) :=
 Hold.of (by kernel_rfl) h
theorem Qwi (a:List Int) (b:List Int):TCon Tryz.prog 195 [(.c (.sl [TI]) a),(.c (.sl [TI]) b)] (QiF (Zd a b)):=by
 refine Qh rfl fun hb=>tcg (Γ:=QpQ) (n:=13) (sg:=Qb5.sg) Qi (TOkL.cons Qd9 (TOkL.cons Qay TOkL.nil)) (by kernel_rfl) (by kernel_rfl) (QJG _ a b ?_)
 have hl_a:a.length≤9223372036854775807:=hb.1.1
 have hl_b:b.length≤9223372036854775807:=hb.2.1.1
 exact R_eq rfl
theorem QgJ:Qf Tryz.prog Qb5:=Qj fun x _=>Qwi x.1 x.2.1
def Qh0 (t:Bool):TRes:=zre (zcb t)
def QbF:TRow:=Qg 191 [(.c (.sl [TI])),(.c (.sl [TI]))] fun x=>(none,Qh0 (Zd x.1 x.2.1))
def Qln:TTab:=⟨[YU],false⟩
def QIE:TCode :=
 (zsq [(.reg [zmv 4 (zkb false)]),(.reg [zmv 5 0,zca 6 97 [5],zmv 7 6,.grp 7 true [zmv 8 1,zca 9 97 [8]] 10 9,zmv 11 10,.grp 11 true [zmv 12 0,zle 13 12,zmv 14 1,zle 15 14,zbi 16 .eql 13 15] 17 16,zmv 4 17]),.ret])
def QyJ:List (ARv × Md):=[(.t 4,.one .d)]
theorem QxI (a:List Int) (b:List Int) (h :
 K (Qh0 (((QA a)&&(QA b))&&((a.length:Int)==(b.length:Int))))):Hold (tawp Qln (0+0) QIE (TQ 0 0 QyJ K) (Qd [(.c (.sl [TI]) a),(.c (.sl [TI]) b)])) :=
 Hold.of (by kernel_rfl) h
theorem QJD (a:List Int) (b:List Int):TCon Tryz.prog 191 [(.c (.sl [TI]) a),(.c (.sl [TI]) b)] (Qh0 (Zd a b)):=by
 refine Qh rfl fun hb=>tcg (Γ:=Qln) (n:=18) (sg:=QbF.sg) Qi (TOkL.cons JW TOkL.nil) (by kernel_rfl) (by kernel_rfl) (QxI _ a b ?_)
 have hl_a:a.length≤9223372036854775807:=hb.1.1
 have hl_b:b.length≤9223372036854775807:=hb.2.1.1
 refine R_eq ?_
 rw [Bool.eq_iff_iff]
 unfold Zd Qq
 simp only [Bool.and_eq_true,beq_iff_eq]
 constructor
 ·rintro ⟨⟨h1,h2⟩,h3⟩;exact ⟨h1,h2,by omega⟩
 ·rintro ⟨h1,h2,h3⟩;exact ⟨⟨h1,h2⟩,by omega⟩
theorem QfU:Qf Tryz.prog QbF:=Qj fun x _=>QJD x.1 x.2.1
def Qac (t:(List Int) × Bool):TRes:=⟨(.tp [(.r [TI] 0 0 ((t.1).length)),(zcb t.2)]),[(.sl 3 [TI] (.dp 0 true []) t.1)],[],false,[]⟩
def Qkz:TRow:=Qg 231 [(.c (.sl [TI])),(.c (.sl [TI]))] fun x=>(none,Qac (Zb x.1 x.2.1))
def QeC:TTab:=⟨[Qb5,Qco],true⟩
def Qqo:TCode :=
 (zsq [(.reg [zbi 19 .lss 18 17]),(.cond 19 .skip (.exit 0)),(.block 1 (zsq [(.reg [zmv 20 18,zmv 8 20]),(.draw [zmv 22 0,zmv 23 8,zia 24 22 23 [TI],zld 25 24 1,zmv 26 1,zmv 27 8,zia 28 26 27 [TI],zld 29 28 1,zca 30 106 [25,29],zmv 21 30,zex 31 21 0,zex 32 21 1,zmv 9 31,zmv 10 32] []),(.reg [zmv 33 6,zmv 34 9,zop 35 (.bsl 3 [TI] [34]),zop 36 (.app 33 35 3 [TI]),zmv 6 36]),(.reg [zmv 37 7,zmv 38 37,.grp 38 false [zmv 39 10] 40 39,zmv 7 40])])),(.reg [zbi 41 .add 18 (zki 1),zmv 18 41])])
def QuR:List (Nat × Md):=[(0,.one .d),(1,.one .d),(6,.one .f),(7,.one .d),(17,.one .d),(18,.one .d)]
def QoA:TCode :=
 (zsq [(.reg [zmv 42 6,zmv 43 7,zmv 4 42,zmv 5 43]),.ret])
def QFF:TCode :=
 (zsq [(.reg [zmv 4 (.k (.n [TI])),zmv 5 (zkb false)]),(zsq [(.reg [zmv 11 0,zmv 12 1,zca 13 195 [11,12],zno 14 13]),(.cond 14 (zsq [(.reg [zmv 4 (.k (.n [TI])),zmv 5 (zkb false)]),.ret]) .skip)]),(.reg [zop 15 (.bsl 3 [TI] []),zmv 6 15]),(.reg [zmv 7 (zkb false)]),(zsq [(.reg [zmv 16 0,zle 17 16,zmv 18 (zki 0)]),(.block 0 (.loop QuR Qqo))]),QoA])
def Qml:List (ARv × Md):=[(.t 4,.one (.p 3)),(.t 5,.one .d)]
def QqC:Qb:=TQ 0 0 Qml K
def QFH:Qb:=Qseq (tawp QeC 0 QoA (QqC K)) (QqC K)
def Qzo:Qb:=Qblk 0 (QFH K)
def QeN (a:List Int) (b:List Int) (out:Bool) (x:Int) (v:List Int):Prop:=Loop QeC 0 QuR Qqo (Qzo K) ⟨[(0,(zcs [TI] a)),(1,(zcs [TI] b)),(6,(.r [TI] 0 0 v.length)),(7,(zcb out)),(17,(zci (a.length:Int))),(18,(zci x))],[(0,(.sl 3 [TI] (.dp 0 true []) v))],1⟩
theorem QnR (a:List Int) (b:List Int) (out:Bool) (x:Int) (v:List Int) (h :
 (zif (decide (x<(a.length:Int))) ((((0:Int)≤x∧Int.toNat x<a.length)∧((0:Int)≤x∧Int.toNat x<b.length))∧(((v.length=v.length∨v.length+1≤v.length)∧v.length+1≤big)∧(QeN K a b (out||((QV (gtd (0:Int) a (Int.toNat x)) (gtd (0:Int) b (Int.toNat x))).2)) (w64 (x+(1:Int))) (List.take (v.length+1) ((List.take v.length v)++([(QV (gtd (0:Int) a (Int.toNat x)) (gtd (0:Int) b (Int.toNat x))).1])))))) (K (Qac ((List.take v.length v),out))))):QeN K a b out x v :=
 Loop.of (by kernel_rfl) h
theorem Qxz (a:List Int) (b:List Int) (h :
 (zif (!(Zd a b)) (K (Qac (([]:List Int),false))) (QeN K a b false 0 ([]:List Int)))):Hold (tawp QeC (0+0) QFF (TQ 0 0 Qml K) (Qd [(.c (.sl [TI]) a),(.c (.sl [TI]) b)])) :=
 Hold.of (by kernel_rfl) h
theorem QI8 (a:List Int) (b:List Int):TCon Tryz.prog 231 [(.c (.sl [TI]) a),(.c (.sl [TI]) b)] (Qac (Zb a b)):=by
 refine Qh rfl fun hb=>tcg (Γ:=QeC) (n:=44) (sg:=Qkz.sg) Qi (TOkL.cons QgJ (TOkL.cons QjE TOkL.nil)) (by kernel_rfl) (by kernel_rfl) (Qxz _ a b ?_)
 have hl_a:a.length≤9223372036854775807:=hb.1.1
 have hl_b:b.length≤9223372036854775807:=hb.2.1.1
 refine ⟨fun h=>R_eq (by unfold Zb;rw [if_neg (by simpa using h)]),fun h=>?_⟩
 have hp:Zd a b=true:=by simpa using h
 have hl:=JF.1 hp
 have h6:=(ZV.1 hl.1).1
 refine Za a (fun r k=>∀ (v:List Int) (s:Bool),v.length=k→(v++(vz QV r (b.drop k)).1,s||(vz QV r (b.drop k)).2)=(Zb a b)→QeN (fun r'=>r'=Qac (Zb a b)) a b s k v) ?_ ?_ [] false rfl (by unfold Zb;rw [if_pos hp];simp)
 ·intro v s hv he
  refine QnR (fun r'=>r'=Qac (Zb a b)) a b _ _ _ ⟨fun h=>by simp at h,fun _=>R_eq ?_⟩
  rw [← he];simp [vz]
 ·intro k x r hk hlt hg ih v s hv he
  obtain ⟨y,q,hq⟩:=ZQ (l:=b) (k:=k) (by omega)
  refine QnR (fun r'=>r'=Qac (Zb a b)) a b _ _ _ ⟨fun _=>?_,fun h=>by simp at h;omega⟩
  rw [Int.toNat_natCast,hg,Zr hq,sc1 (by omega),Zm]
  refine ⟨⟨⟨by omega,hlt⟩,by omega,by omega⟩,room (by omega),ih _ _ (ZZ hv) ?_⟩
  rw [← he,hq,vz,Zj hq]
  simp [Bool.or_assoc]
theorem QEK:Qf Tryz.prog Qkz:=Qj fun x _=>QI8 x.1 x.2.1
def QaV (t:(List Int) × Bool):TRes:=zra (.tp [(zcs [TI] t.1),(zcb t.2)])
def Qg4:TRow:=Qg 225 [(.c (.sl [TI])),(.c (.sl [TI]))] fun x=>(none,QaV (Zb x.1 x.2.1))
def Qgp:TTab:=⟨[QbF,Qbk],false⟩
def QtC:TCode :=
 (zsq [(zsq [(.reg [zmv 12 8,zmv 13 0,zle 14 13,zbi 15 .lss 12 14,zmv 16 15,.grp 16 true [zmv 17 0,zmv 18 1,zca 19 191 [17,18]] 20 19]),(.cond 20 .skip (.exit 0))]),(.block 1 (zsq [(.draw [zmv 24 0,zmv 25 8,zia 26 24 25 [TI],zld 27 26 1,zmv 28 1,zmv 29 8,zia 30 28 29 [TI],zld 31 30 1,zca 32 99 [27,31],zmv 23 32,zex 33 23 0,zex 34 23 1,zmv 9 33,zmv 10 34] []),(.reg [zmv 35 6,zmv 36 9,zop 37 (.bsl 3 [TI] [36]),zop 38 (.app 35 37 3 [TI]),zmv 6 38]),(.reg [zmv 39 7,zmv 40 39,.grp 40 false [zmv 41 10] 42 41,zmv 7 42])])),(.reg [zmv 21 8,zbi 22 .add 21 (zki 1),zmv 8 22])])
def QvJ:List (Nat × Md):=[(0,.one .d),(1,.one .d),(6,.one .f),(7,.one .d),(8,.one .d)]
def Qtj:TCode :=
 (zsq [(.reg [zmv 43 6,zmv 44 7,zmv 4 43,zmv 5 44]),.ret])
def QHN:TCode :=
 (zsq [(.reg [zmv 4 (.k (.n [TI])),zmv 5 (zkb false)]),(.reg [zop 11 (.bsl 3 [TI] []),zmv 6 11]),(.reg [zmv 7 (zkb false)]),(zsq [(.reg [zmv 8 (zki 0)]),(.block 0 (.loop QvJ QtC))]),Qtj])
def Qm0:List (ARv × Md):=[(.t 4,.one .d),(.t 5,.one .d)]
def QuM:Qb:=TQ 0 0 Qm0 K
def QJ5:Qb:=Qseq (tawp Qgp 0 Qtj (QuM K)) (QuM K)
def Qzg:Qb:=Qblk 0 (QJ5 K)
def Qed (a:List Int) (b:List Int) (sat:Bool) (i:Int) (out:List Int):Prop:=Loop Qgp 0 QvJ QtC (Qzg K) ⟨[(0,(zcs [TI] a)),(1,(zcs [TI] b)),(6,(.r [TI] 0 0 out.length)),(7,(zcb sat)),(8,(zci i))],[(0,(.sl 3 [TI] .ow out))],1⟩
theorem QgZ (a:List Int) (b:List Int) (sat:Bool) (i:Int) (out:List Int) (h :
 (zif ((decide (i<(a.length:Int)))&&(Zd a b)) ((((0:Int)≤i∧Int.toNat i<a.length)∧((0:Int)≤i∧Int.toNat i<b.length))∧(((out.length=out.length∨out.length+1≤out.length)∧out.length+1≤big)∧(Qed K a b (sat||((QV (gtd (0:Int) a (Int.toNat i)) (gtd (0:Int) b (Int.toNat i))).2)) (w64 (i+(1:Int))) (List.take (out.length+1) ((List.take out.length out)++([(QV (gtd (0:Int) a (Int.toNat i)) (gtd (0:Int) b (Int.toNat i))).1])))))) (K (QaV ((List.take out.length (List.drop 0 out)),sat))))):Qed K a b sat i out :=
 Loop.of (by kernel_rfl) h
theorem QJS (a:List Int) (b:List Int) (h :
 (Qed K a b false 0 ([]:List Int))):Hold (tawp Qgp (0+0) QHN (TQ 0 0 Qm0 K) (Qd [(.c (.sl [TI]) a),(.c (.sl [TI]) b)])) :=
 Hold.of (by kernel_rfl) h
theorem QE2 (a:List Int) (b:List Int):TCon Tryz.prog 225 [(.c (.sl [TI]) a),(.c (.sl [TI]) b)] (QaV (Zb a b)):=by
 refine Qh rfl fun hb=>tcg (Γ:=Qgp) (n:=45) (sg:=Qg4.sg) Qi (TOkL.cons QfU (TOkL.cons Qgo TOkL.nil)) (by kernel_rfl) (by kernel_rfl) (QJS _ a b ?_)
 have hl_a:a.length≤9223372036854775807:=hb.1.1
 have hl_b:b.length≤9223372036854775807:=hb.2.1.1
 by_cases hp:Zd a b=true
 rotate_left
 ·refine QgZ (fun r'=>r'=QaV (Zb a b)) a b _ _ _ ⟨fun h=>by simp [hp] at h,fun _=>R_eq (by unfold Zb;rw [if_neg hp];rfl)⟩
 have hl:=JF.1 hp
 have h6:=(ZV.1 hl.1).1
 refine Za a (fun r k=>∀ (v:List Int) (s:Bool),v.length=k→(v++(vz QV r (b.drop k)).1,s||(vz QV r (b.drop k)).2)=(Zb a b)→Qed (fun r'=>r'=QaV (Zb a b)) a b s k v) ?_ ?_ [] false rfl (by unfold Zb;rw [if_pos hp];simp)
 ·intro v s hv he
  refine QgZ (fun r'=>r'=QaV (Zb a b)) a b _ _ _ ⟨fun h=>by simp at h,fun _=>R_eq ?_⟩
  rw [← he];simp [vz]
 ·intro k x r hk hlt hg ih v s hv he
  obtain ⟨y,q,hq⟩:=ZQ (l:=b) (k:=k) (by omega)
  refine QgZ (fun r'=>r'=QaV (Zb a b)) a b _ _ _ ⟨fun _=>?_,fun h=>by simp [hp] at h;omega⟩
  rw [Int.toNat_natCast,hg,Zr hq,sc1 (by omega),Zm]
  refine ⟨⟨⟨by omega,hlt⟩,by omega,by omega⟩,room (by omega),ih _ _ (ZZ hv) ?_⟩
  rw [← he,hq,vz,Zj hq]
  simp [Bool.or_assoc]
theorem QJM:Qf Tryz.prog Qg4:=Qj fun x _=>QE2 x.1 x.2.1
def QaU (t:(List Int) × Bool):TRes:=⟨(.tp [(.r [TI] 0 0 ((t.1).length)),(zcb t.2)]),[(.sl 3 [TI] (.dp 0 true []) t.1)],[],false,[]⟩
def QhJ:TRow:=Qg 111 [(.c (.sl [TI])),(.c (.sl [TI]))] fun x=>(none,QaU (QT x.1 x.2.1))
def Qfp:TTab:=⟨[Qb5,QhS],true⟩
def Qp5:TCode :=
 (zsq [(.reg [zbi 19 .lss 18 17]),(.cond 19 .skip (.exit 0)),(.block 1 (zsq [(.reg [zmv 20 18,zmv 8 20]),(.draw [zmv 22 0,zmv 23 8,zia 24 22 23 [TI],zld 25 24 1,zmv 26 1,zmv 27 8,zia 28 26 27 [TI],zld 29 28 1,zca 30 196 [25,29],zmv 21 30,zex 31 21 0,zex 32 21 1,zmv 9 31,zmv 10 32] []),(.reg [zmv 33 6,zmv 34 9,zop 35 (.bsl 3 [TI] [34]),zop 36 (.app 33 35 3 [TI]),zmv 6 36]),(.reg [zmv 37 7,zmv 38 37,.grp 38 false [zmv 39 10] 40 39,zmv 7 40])])),(.reg [zbi 41 .add 18 (zki 1),zmv 18 41])])
def QsY:List (Nat × Md):=[(0,.one .d),(1,.one .d),(6,.one .f),(7,.one .d),(17,.one .d),(18,.one .d)]
def Qp9:TCode :=
 (zsq [(.reg [zmv 42 6,zmv 43 7,zmv 4 42,zmv 5 43]),.ret])
def QF9:TCode :=
 (zsq [(.reg [zmv 4 (.k (.n [TI])),zmv 5 (zkb false)]),(zsq [(.reg [zmv 11 0,zmv 12 1,zca 13 195 [11,12],zno 14 13]),(.cond 14 (zsq [(.reg [zmv 4 (.k (.n [TI])),zmv 5 (zkb false)]),.ret]) .skip)]),(.reg [zop 15 (.bsl 3 [TI] []),zmv 6 15]),(.reg [zmv 7 (zkb false)]),(zsq [(.reg [zmv 16 0,zle 17 16,zmv 18 (zki 0)]),(.block 0 (.loop QsY Qp5))]),Qp9])
def QoI:List (ARv × Md):=[(.t 4,.one (.p 3)),(.t 5,.one .d)]
def Qpq:Qb:=TQ 0 0 QoI K
def QBZ:Qb:=Qseq (tawp Qfp 0 Qp9 (Qpq K)) (Qpq K)
def QDR:Qb:=Qblk 0 (QBZ K)
def QeD (a:List Int) (b:List Int) (out:Bool) (x:Int) (v:List Int):Prop:=Loop Qfp 0 QsY Qp5 (QDR K) ⟨[(0,(zcs [TI] a)),(1,(zcs [TI] b)),(6,(.r [TI] 0 0 v.length)),(7,(zcb out)),(17,(zci (a.length:Int))),(18,(zci x))],[(0,(.sl 3 [TI] (.dp 0 true []) v))],1⟩
theorem Qro (a:List Int) (b:List Int) (out:Bool) (x:Int) (v:List Int) (h :
 (zif (decide (x<(a.length:Int))) ((((0:Int)≤x∧Int.toNat x<a.length)∧((0:Int)≤x∧Int.toNat x<b.length))∧(((v.length=v.length∨v.length+1≤v.length)∧v.length+1≤big)∧(QeD K a b (out||((Yr (gtd (0:Int) a (Int.toNat x)) (gtd (0:Int) b (Int.toNat x))).2)) (w64 (x+(1:Int))) (List.take (v.length+1) ((List.take v.length v)++([(Yr (gtd (0:Int) a (Int.toNat x)) (gtd (0:Int) b (Int.toNat x))).1])))))) (K (QaU ((List.take v.length v),out))))):QeD K a b out x v :=
 Loop.of (by kernel_rfl) h
theorem QwZ (a:List Int) (b:List Int) (h :
 (zif (!(Zd a b)) (K (QaU (([]:List Int),false))) (QeD K a b false 0 ([]:List Int)))):Hold (tawp Qfp (0+0) QF9 (TQ 0 0 QoI K) (Qd [(.c (.sl [TI]) a),(.c (.sl [TI]) b)])) :=
 Hold.of (by kernel_rfl) h
theorem Qy7 (a:List Int) (b:List Int):TCon Tryz.prog 111 [(.c (.sl [TI]) a),(.c (.sl [TI]) b)] (QaU (QT a b)):=by
 refine Qh rfl fun hb=>tcg (Γ:=Qfp) (n:=44) (sg:=QhJ.sg) Qi (TOkL.cons QgJ (TOkL.cons QAd TOkL.nil)) (by kernel_rfl) (by kernel_rfl) (QwZ _ a b ?_)
 have hl_a:a.length≤9223372036854775807:=hb.1.1
 have hl_b:b.length≤9223372036854775807:=hb.2.1.1
 refine ⟨fun h=>R_eq (by unfold QT;rw [if_neg (by simpa using h)]),fun h=>?_⟩
 have hp:Zd a b=true:=by simpa using h
 have hl:=JF.1 hp
 have h6:=(ZV.1 hl.1).1
 refine Za a (fun r k=>∀ (v:List Int) (s:Bool),v.length=k→(v++(vz Yr r (b.drop k)).1,s||(vz Yr r (b.drop k)).2)=(QT a b)→QeD (fun r'=>r'=QaU (QT a b)) a b s k v) ?_ ?_ [] false rfl (by unfold QT;rw [if_pos hp];simp)
 ·intro v s hv he
  refine Qro (fun r'=>r'=QaU (QT a b)) a b _ _ _ ⟨fun h=>by simp at h,fun _=>R_eq ?_⟩
  rw [← he];simp [vz]
 ·intro k x r hk hlt hg ih v s hv he
  obtain ⟨y,q,hq⟩:=ZQ (l:=b) (k:=k) (by omega)
  refine Qro (fun r'=>r'=QaU (QT a b)) a b _ _ _ ⟨fun _=>?_,fun h=>by simp at h;omega⟩
  rw [Int.toNat_natCast,hg,Zr hq,sc1 (by omega),Zm]
  refine ⟨⟨⟨by omega,hlt⟩,by omega,by omega⟩,room (by omega),ih _ _ (ZZ hv) ?_⟩
  rw [← he,hq,vz,Zj hq]
  simp [Bool.or_assoc]
theorem QzU:Qf Tryz.prog QhJ:=Qj fun x _=>Qy7 x.1 x.2.1
def QaA (t:(List Int) × Bool):TRes:=zra (.tp [(zcs [TI] t.1),(zcb t.2)])
def QhO:TRow:=Qg 107 [(.c (.sl [TI])),(.c (.sl [TI]))] fun x=>(none,QaA (QT x.1 x.2.1))
def QgK:TTab:=⟨[QbF,Qg5],false⟩
def QnH:TCode :=
 (zsq [(zsq [(.reg [zmv 12 8,zmv 13 0,zle 14 13,zbi 15 .lss 12 14,zmv 16 15,.grp 16 true [zmv 17 0,zmv 18 1,zca 19 191 [17,18]] 20 19]),(.cond 20 .skip (.exit 0))]),(.block 1 (zsq [(.draw [zmv 24 0,zmv 25 8,zia 26 24 25 [TI],zld 27 26 1,zmv 28 1,zmv 29 8,zia 30 28 29 [TI],zld 31 30 1,zca 32 192 [27,31],zmv 23 32,zex 33 23 0,zex 34 23 1,zmv 9 33,zmv 10 34] []),(.reg [zmv 35 6,zmv 36 9,zop 37 (.bsl 3 [TI] [36]),zop 38 (.app 35 37 3 [TI]),zmv 6 38]),(.reg [zmv 39 7,zmv 40 39,.grp 40 false [zmv 41 10] 42 41,zmv 7 42])])),(.reg [zmv 21 8,zbi 22 .add 21 (zki 1),zmv 8 22])])
def Qpi:List (Nat × Md):=[(0,.one .d),(1,.one .d),(6,.one .f),(7,.one .d),(8,.one .d)]
def Qlm:TCode :=
 (zsq [(.reg [zmv 43 6,zmv 44 7,zmv 4 43,zmv 5 44]),.ret])
def QE9:TCode :=
 (zsq [(.reg [zmv 4 (.k (.n [TI])),zmv 5 (zkb false)]),(.reg [zop 11 (.bsl 3 [TI] []),zmv 6 11]),(.reg [zmv 7 (zkb false)]),(zsq [(.reg [zmv 8 (zki 0)]),(.block 0 (.loop Qpi QnH))]),Qlm])
def QpA:List (ARv × Md):=[(.t 4,.one .d),(.t 5,.one .d)]
def Qsg:Qb:=TQ 0 0 QpA K
def QKz:Qb:=Qseq (tawp QgK 0 Qlm (Qsg K)) (Qsg K)
def QJc:Qb:=Qblk 0 (QKz K)
def QfN (a:List Int) (b:List Int) (sat:Bool) (i:Int) (out:List Int):Prop:=Loop QgK 0 Qpi QnH (QJc K) ⟨[(0,(zcs [TI] a)),(1,(zcs [TI] b)),(6,(.r [TI] 0 0 out.length)),(7,(zcb sat)),(8,(zci i))],[(0,(.sl 3 [TI] .ow out))],1⟩
theorem QgQ (a:List Int) (b:List Int) (sat:Bool) (i:Int) (out:List Int) (h :
 (zif ((decide (i<(a.length:Int)))&&(Zd a b)) ((((0:Int)≤i∧Int.toNat i<a.length)∧((0:Int)≤i∧Int.toNat i<b.length))∧(((out.length=out.length∨out.length+1≤out.length)∧out.length+1≤big)∧(QfN K a b (sat||((Yr (gtd (0:Int) a (Int.toNat i)) (gtd (0:Int) b (Int.toNat i))).2)) (w64 (i+(1:Int))) (List.take (out.length+1) ((List.take out.length out)++([(Yr (gtd (0:Int) a (Int.toNat i)) (gtd (0:Int) b (Int.toNat i))).1])))))) (K (QaA ((List.take out.length (List.drop 0 out)),sat))))):QfN K a b sat i out :=
 Loop.of (by kernel_rfl) h
theorem QCk (a:List Int) (b:List Int) (h :
 (QfN K a b false 0 ([]:List Int))):Hold (tawp QgK (0+0) QE9 (TQ 0 0 QpA K) (Qd [(.c (.sl [TI]) a),(.c (.sl [TI]) b)])) :=
 Hold.of (by kernel_rfl) h
theorem QDI (a:List Int) (b:List Int):TCon Tryz.prog 107 [(.c (.sl [TI]) a),(.c (.sl [TI]) b)] (QaA (QT a b)):=by
 refine Qh rfl fun hb=>tcg (Γ:=QgK) (n:=45) (sg:=QhO.sg) Qi (TOkL.cons QfU (TOkL.cons QI1 TOkL.nil)) (by kernel_rfl) (by kernel_rfl) (QCk _ a b ?_)
 have hl_a:a.length≤9223372036854775807:=hb.1.1
 have hl_b:b.length≤9223372036854775807:=hb.2.1.1
 by_cases hp:Zd a b=true
 rotate_left
 ·refine QgQ (fun r'=>r'=QaA (QT a b)) a b _ _ _ ⟨fun h=>by simp [hp] at h,fun _=>R_eq (by unfold QT;rw [if_neg hp];rfl)⟩
 have hl:=JF.1 hp
 have h6:=(ZV.1 hl.1).1
 refine Za a (fun r k=>∀ (v:List Int) (s:Bool),v.length=k→(v++(vz Yr r (b.drop k)).1,s||(vz Yr r (b.drop k)).2)=(QT a b)→QfN (fun r'=>r'=QaA (QT a b)) a b s k v) ?_ ?_ [] false rfl (by unfold QT;rw [if_pos hp];simp)
 ·intro v s hv he
  refine QgQ (fun r'=>r'=QaA (QT a b)) a b _ _ _ ⟨fun h=>by simp at h,fun _=>R_eq ?_⟩
  rw [← he];simp [vz]
 ·intro k x r hk hlt hg ih v s hv he
  obtain ⟨y,q,hq⟩:=ZQ (l:=b) (k:=k) (by omega)
  refine QgQ (fun r'=>r'=QaA (QT a b)) a b _ _ _ ⟨fun _=>?_,fun h=>by simp [hp] at h;omega⟩
  rw [Int.toNat_natCast,hg,Zr hq,sc1 (by omega),Zm]
  refine ⟨⟨⟨by omega,hlt⟩,by omega,by omega⟩,room (by omega),ih _ _ (ZZ hv) ?_⟩
  rw [← he,hq,vz,Zj hq]
  simp [Bool.or_assoc]
theorem QGr:Qf Tryz.prog QhO:=Qj fun x _=>QDI x.1 x.2.1
def Qaz (t:(List Int) × Bool):TRes:=⟨(.tp [(.r [TI] 0 0 ((t.1).length)),(zcb t.2)]),[(.sl 3 [TI] (.dp 0 true []) t.1)],[],false,[]⟩
def Qh9:TRow:=Qg 232 [(.c TI),(.c (.sl [TI]))] fun x=>(none,Qaz (Zc x.1 x.2.1))
def Qgk:TTab:=⟨[Qdb,QbV,Qcz],true⟩
def Qm8:TCode :=
 (zsq [(.reg [zbi 23 .lss 22 21]),(.cond 23 .skip (.exit 0)),(.block 1 (zsq [(.reg [zmv 24 22,zmv 8 24]),(.reg [zmv 26 0,zmv 27 1,zmv 28 8,zia 29 27 28 [TI],zld 30 29 1,zca 31 239 [26,30],zmv 25 31,zex 32 25 0,zex 33 25 1,zmv 9 32,zmv 10 33]),(.reg [zmv 34 6,zmv 35 9,zop 36 (.bsl 3 [TI] [35]),zop 37 (.app 34 36 3 [TI]),zmv 6 37]),(.reg [zmv 38 7,zmv 39 38,.grp 39 false [zmv 40 10] 41 40,zmv 7 41])])),(.reg [zbi 42 .add 22 (zki 1),zmv 22 42])])
def QpH:List (Nat × Md):=[(0,.one .d),(1,.one .d),(6,.one .f),(7,.one .d),(21,.one .d),(22,.one .d)]
def QuF:TCode :=
 (zsq [(.reg [zmv 43 6,zmv 44 7,zmv 4 43,zmv 5 44]),.ret])
def QzB:TCode :=
 (zsq [(.reg [zmv 4 (.k (.n [TI])),zmv 5 (zkb false)]),(zsq [(.reg [zmv 11 0,zca 12 240 [11],zno 13 12,zmv 14 13,.grp 14 false [zmv 15 1,zca 16 187 [15],zno 17 16] 18 17]),(.cond 18 (zsq [(.reg [zmv 4 (.k (.n [TI])),zmv 5 (zkb false)]),.ret]) .skip)]),(.reg [zop 19 (.bsl 3 [TI] []),zmv 6 19]),(.reg [zmv 7 (zkb false)]),(zsq [(.reg [zmv 20 1,zle 21 20,zmv 22 (zki 0)]),(.block 0 (.loop QpH Qm8))]),QuF])
def Qs6:List (ARv × Md):=[(.t 4,.one (.p 3)),(.t 5,.one .d)]
def QrO:Qb:=TQ 0 0 Qs6 K
def Qy2:Qb:=Qseq (tawp Qgk 0 QuF (QrO K)) (QrO K)
def QIo:Qb:=Qblk 0 (Qy2 K)
def Qgx (c:Int) (a:List Int) (out:Bool) (x:Int) (v:List Int):Prop:=Loop Qgk 0 QpH Qm8 (QIo K) ⟨[(0,(zci c)),(1,(zcs [TI] a)),(6,(.r [TI] 0 0 v.length)),(7,(zcb out)),(21,(zci (a.length:Int))),(22,(zci x))],[(0,(.sl 3 [TI] (.dp 0 true []) v))],1⟩
theorem Qsy (c:Int) (a:List Int) (out:Bool) (x:Int) (v:List Int) (h :
 (zif (decide (x<(a.length:Int))) (((0:Int)≤x∧Int.toNat x<a.length)∧(((v.length=v.length∨v.length+1≤v.length)∧v.length+1≤big)∧(Qgx K c a (out||((QW c (gtd (0:Int) a (Int.toNat x))).2)) (w64 (x+(1:Int))) (List.take (v.length+1) ((List.take v.length v)++([(QW c (gtd (0:Int) a (Int.toNat x))).1])))))) (K (Qaz ((List.take v.length v),out))))):Qgx K c a out x v :=
 Loop.of (by kernel_rfl) h
theorem Qzc (c:Int) (a:List Int) (h :
 (zif ((!(Zt c))||(!(QA a))) (K (Qaz (([]:List Int),false))) (Qgx K c a false 0 ([]:List Int)))):Hold (tawp Qgk (0+0) QzB (TQ 0 0 Qs6 K) (Qd [(.c TI c),(.c (.sl [TI]) a)])) :=
 Hold.of (by kernel_rfl) h
theorem QAn (c:Int) (a:List Int):TCon Tryz.prog 232 [(.c TI c),(.c (.sl [TI]) a)] (Qaz (Zc c a)):=by
 refine Qh rfl fun hb=>tcg (Γ:=Qgk) (n:=45) (sg:=Qh9.sg) Qi (TOkL.cons Qj7 (TOkL.cons Qd9 (TOkL.cons Qhd TOkL.nil))) (by kernel_rfl) (by kernel_rfl) (Qzc _ c a ?_)
 have hl_a:a.length≤9223372036854775807:=hb.2.1.1
 refine ⟨fun h=>R_eq (by unfold Zc;rw [if_neg (by intro h2;simp at h2;simp [h2] at h)]),fun h=>?_⟩
 have hp:Zt c=true∧QA a=true:=by simpa using h
 have h6:=(ZV.1 hp.2).1
 refine Za a (fun r k=>∀ (v:List Int) (s:Bool),v.length=k→(v++(v1 (QW c) r).1,s||(v1 (QW c) r).2)=(Zc c a)→Qgx (fun r'=>r'=Qaz (Zc c a)) c a s k v) ?_ ?_ [] false rfl (by unfold Zc;rw [if_pos (by simp [hp])];simp)
 ·intro v s hv he
  refine Qsy (fun r'=>r'=Qaz (Zc c a)) c a _ _ _ ⟨fun h=>by simp at h,fun _=>R_eq ?_⟩
  rw [← he];simp [v1]
 ·intro k x r hk hlt hg ih v s hv he
  refine Qsy (fun r'=>r'=Qaz (Zc c a)) c a _ _ _ ⟨fun _=>?_,fun h=>by simp at h;omega⟩
  rw [Int.toNat_natCast,hg,sc1 (by omega),Zm]
  refine ⟨⟨by omega,hlt⟩,room (by omega),ih _ _ (ZZ hv) ?_⟩
  rw [← he,v1]
  simp [Bool.or_assoc]
theorem QKy:Qf Tryz.prog Qh9:=Qj fun x _=>QAn x.1 x.2.1
def QaX (t:(List Int) × Bool):TRes:=zra (.tp [(zcs [TI] t.1),(zcb t.2)])
def Qhq:TRow:=Qg 227 [(.c TI),(.c (.sl [TI]))] fun x=>(none,QaX (Zc x.1 x.2.1))
def Qgt:TTab:=⟨[YU,QbD,Qdl],false⟩
def Qur:TCode :=
 (zsq [(zsq [(.reg [zmv 12 8,zmv 13 1,zle 14 13,zbi 15 .lss 12 14,zmv 16 15,.grp 16 true [zmv 17 1,zca 18 97 [17]] 19 18,zmv 20 19,.grp 20 true [zmv 21 0,zca 22 183 [21]] 23 22]),(.cond 23 .skip (.exit 0))]),(.block 1 (zsq [(.reg [zmv 27 0,zmv 28 1,zmv 29 8,zia 30 28 29 [TI],zld 31 30 1,zca 32 237 [27,31],zmv 26 32,zex 33 26 0,zex 34 26 1,zmv 9 33,zmv 10 34]),(.reg [zmv 35 6,zmv 36 9,zop 37 (.bsl 3 [TI] [36]),zop 38 (.app 35 37 3 [TI]),zmv 6 38]),(.reg [zmv 39 7,zmv 40 39,.grp 40 false [zmv 41 10] 42 41,zmv 7 42])])),(.reg [zmv 24 8,zbi 25 .add 24 (zki 1),zmv 8 25])])
def QrY:List (Nat × Md):=[(0,.one .d),(1,.one .d),(6,.one .f),(7,.one .d),(8,.one .d)]
def QoN:TCode :=
 (zsq [(.reg [zmv 43 6,zmv 44 7,zmv 4 43,zmv 5 44]),.ret])
def QzG:TCode :=
 (zsq [(.reg [zmv 4 (.k (.n [TI])),zmv 5 (zkb false)]),(.reg [zop 11 (.bsl 3 [TI] []),zmv 6 11]),(.reg [zmv 7 (zkb false)]),(zsq [(.reg [zmv 8 (zki 0)]),(.block 0 (.loop QrY Qur))]),QoN])
def Qod:List (ARv × Md):=[(.t 4,.one .d),(.t 5,.one .d)]
def Qvp:Qb:=TQ 0 0 Qod K
def QJF:Qb:=Qseq (tawp Qgt 0 QoN (Qvp K)) (Qvp K)
def QAJ:Qb:=Qblk 0 (QJF K)
def QfV (c:Int) (a:List Int) (sat:Bool) (i:Int) (out:List Int):Prop:=Loop Qgt 0 QrY Qur (QAJ K) ⟨[(0,(zci c)),(1,(zcs [TI] a)),(6,(.r [TI] 0 0 out.length)),(7,(zcb sat)),(8,(zci i))],[(0,(.sl 3 [TI] .ow out))],1⟩
theorem QiR (c:Int) (a:List Int) (sat:Bool) (i:Int) (out:List Int) (h :
 (zif (((decide (i<(a.length:Int)))&&(QA a))&&(Zt c)) (((0:Int)≤i∧Int.toNat i<a.length)∧(((out.length=out.length∨out.length+1≤out.length)∧out.length+1≤big)∧(QfV K c a (sat||((QW c (gtd (0:Int) a (Int.toNat i))).2)) (w64 (i+(1:Int))) (List.take (out.length+1) ((List.take out.length out)++([(QW c (gtd (0:Int) a (Int.toNat i))).1])))))) (K (QaX ((List.take out.length (List.drop 0 out)),sat))))):QfV K c a sat i out :=
 Loop.of (by kernel_rfl) h
theorem QHO (c:Int) (a:List Int) (h :
 (QfV K c a false 0 ([]:List Int))):Hold (tawp Qgt (0+0) QzG (TQ 0 0 Qod K) (Qd [(.c TI c),(.c (.sl [TI]) a)])) :=
 Hold.of (by kernel_rfl) h
theorem QyF (c:Int) (a:List Int):TCon Tryz.prog 227 [(.c TI c),(.c (.sl [TI]) a)] (QaX (Zc c a)):=by
 refine Qh rfl fun hb=>tcg (Γ:=Qgt) (n:=45) (sg:=Qhq.sg) Qi (TOkL.cons JW (TOkL.cons Qfr (TOkL.cons Qk2 TOkL.nil))) (by kernel_rfl) (by kernel_rfl) (QHO _ c a ?_)
 have hl_a:a.length≤9223372036854775807:=hb.2.1.1
 by_cases hp:Zt c=true∧QA a=true
 rotate_left
 ·refine QiR (fun r'=>r'=QaX (Zc c a)) c a _ _ _ ⟨fun h=>absurd (by simp at h;exact ⟨h.2,h.1.2⟩) hp,fun _=>R_eq (by unfold Zc;rw [if_neg (by simpa using hp)];rfl)⟩
 have h6:=(ZV.1 hp.2).1
 refine Za a (fun r k=>∀ (v:List Int) (s:Bool),v.length=k→(v++(v1 (QW c) r).1,s||(v1 (QW c) r).2)=(Zc c a)→QfV (fun r'=>r'=QaX (Zc c a)) c a s k v) ?_ ?_ [] false rfl (by unfold Zc;rw [if_pos (by simp [hp])];simp)
 ·intro v s hv he
  refine QiR (fun r'=>r'=QaX (Zc c a)) c a _ _ _ ⟨fun h=>by simp at h,fun _=>R_eq ?_⟩
  rw [← he];simp [v1]
 ·intro k x r hk hlt hg ih v s hv he
  refine QiR (fun r'=>r'=QaX (Zc c a)) c a _ _ _ ⟨fun _=>?_,fun h=>by simp [hp] at h;omega⟩
  rw [Int.toNat_natCast,hg,sc1 (by omega),Zm]
  refine ⟨⟨by omega,hlt⟩,room (by omega),ih _ _ (ZZ hv) ?_⟩
  rw [← he,v1]
  simp [Bool.or_assoc]
theorem QE5:Qf Tryz.prog Qhq:=Qj fun x _=>QyF x.1 x.2.1
def QaO (t:Int × Bool):TRes:=zre (.tp [(zci t.1),(zcb t.2)])
def Qee:TRow:=Qg 188 [(.c (.sl [TI])),(.c (.sl [TI]))] fun x=>(none,QaO (QQ x.1 x.2.1))
def QgE:TTab:=⟨[Qb5,Qcz,Qco],false⟩
def QvU:TCode :=
 (zsq [(.reg [zbi 20 .lss 19 18]),(.cond 20 .skip (.exit 0)),(.block 1 (zsq [(.reg [zmv 21 19,zmv 8 21]),(.draw [zmv 23 0,zmv 24 8,zia 25 23 24 [TI],zld 26 25 1,zmv 27 1,zmv 28 8,zia 29 27 28 [TI],zld 30 29 1,zca 31 239 [26,30],zmv 22 31,zex 32 22 0,zex 33 22 1,zmv 9 32,zmv 10 33] []),(.reg [zmv 35 6,zmv 36 9,zca 37 106 [35,36],zmv 34 37,zex 38 34 0,zex 39 34 1,zmv 11 38,zmv 12 39]),(.reg [zmv 40 11,zmv 6 40]),(.reg [zmv 41 7,zmv 42 41,.grp 42 false [zmv 43 10] 44 43,zmv 45 44,.grp 45 false [zmv 46 12] 47 46,zmv 7 47])])),(.reg [zbi 48 .add 19 (zki 1),zmv 19 48])])
def Qp6:List (Nat × Md):=zdl [0,1,6,7,18,19]
def Qpa:TCode :=
 (zsq [(.reg [zmv 49 6,zmv 50 7,zmv 4 49,zmv 5 50]),.ret])
def Qzr:TCode :=
 (zsq [(.reg [zmv 4 (zki 0),zmv 5 (zkb false)]),(zsq [(.reg [zmv 13 0,zmv 14 1,zca 15 195 [13,14],zno 16 15]),(.cond 16 (zsq [(.reg [zmv 4 (zki 0),zmv 5 (zkb false)]),.ret]) .skip)]),(.reg [zmv 6 (zki 0)]),(.reg [zmv 7 (zkb false)]),(zsq [(.reg [zmv 17 0,zle 18 17,zmv 19 (zki 0)]),(.block 0 (.loop Qp6 QvU))]),Qpa])
def Qmy:List (ARv × Md):=[(.t 4,.one .d),(.t 5,.one .d)]
def QuA:Qb:=TQ 0 0 Qmy K
def QJp:Qb:=Qseq (tawp QgE 0 Qpa (QuA K)) (QuA K)
def QvX:Qb:=Qblk 0 (QJp K)
def Qgb (a:List Int) (b:List Int) (sum:Int) (out:Bool) (x:Int):Prop:=Loop QgE 0 Qp6 QvU (QvX K) ⟨[(0,(zcs [TI] a)),(1,(zcs [TI] b)),(6,(zci sum)),(7,(zcb out)),(18,(zci (a.length:Int))),(19,(zci x))],[],0⟩
theorem Qqn (a:List Int) (b:List Int) (sum:Int) (out:Bool) (x:Int) (h :
 (zif (decide (x<(a.length:Int))) ((((0:Int)≤x∧Int.toNat x<a.length)∧((0:Int)≤x∧Int.toNat x<b.length))∧(Qgb K a b ((QV sum ((QW (gtd (0:Int) a (Int.toNat x)) (gtd (0:Int) b (Int.toNat x))).1)).1) ((out||((QW (gtd (0:Int) a (Int.toNat x)) (gtd (0:Int) b (Int.toNat x))).2))||((QV sum ((QW (gtd (0:Int) a (Int.toNat x)) (gtd (0:Int) b (Int.toNat x))).1)).2)) (w64 (x+(1:Int))))) (K (QaO (sum,out))))):Qgb K a b sum out x :=
 Loop.of (by kernel_rfl) h
theorem QIy (a:List Int) (b:List Int) (h :
 (zif (!(Zd a b)) (K (QaO ((0:Int),false))) (Qgb K a b 0 false 0))):Hold (tawp QgE (0+0) Qzr (TQ 0 0 Qmy K) (Qd [(.c (.sl [TI]) a),(.c (.sl [TI]) b)])) :=
 Hold.of (by kernel_rfl) h
theorem Qyp (a:List Int) (b:List Int):TCon Tryz.prog 188 [(.c (.sl [TI]) a),(.c (.sl [TI]) b)] (QaO (QQ a b)):=by
 refine Qh rfl fun hb=>tcg (Γ:=QgE) (n:=51) (sg:=Qee.sg) Qi (TOkL.cons QgJ (TOkL.cons Qhd (TOkL.cons QjE TOkL.nil))) (by kernel_rfl) (by kernel_rfl) (QIy _ a b ?_)
 have hl_a:a.length≤9223372036854775807:=hb.1.1
 have hl_b:b.length≤9223372036854775807:=hb.2.1.1
 refine ⟨fun h=>R_eq (by unfold QQ;rw [if_neg (by simpa using h)]),fun h=>?_⟩
 have hp:Zd a b=true:=by simpa using h
 have hl:=JF.1 hp
 have h6:=(ZV.1 hl.1).1
 refine Za a (fun r k=>∀ (z:Int) (s:Bool),((YP r (b.drop k) z).1,s||(YP r (b.drop k) z).2)=(QQ a b)→Qgb (fun r'=>r'=QaO (QQ a b)) a b z s k) ?_ ?_ 0 false (by unfold QQ;rw [if_pos hp];simp)
 ·intro z s he
  refine Qqn (fun r'=>r'=QaO (QQ a b)) a b _ _ _ ⟨fun h=>by simp at h,fun _=>R_eq ?_⟩
  rw [← he];simp [YP]
 ·intro k x r hk hlt hg ih z s he
  obtain ⟨y,q,hq⟩:=ZQ (l:=b) (k:=k) (by omega)
  refine Qqn (fun r'=>r'=QaO (QQ a b)) a b _ _ _ ⟨fun _=>?_,fun h=>by simp at h;omega⟩
  rw [Int.toNat_natCast,hg,Zr hq,sc1 (by omega)]
  refine ⟨⟨⟨by omega,hlt⟩,by omega,by omega⟩,ih _ _ ?_⟩
  rw [← he,hq,YP,Zj hq]
  simp [Bool.or_assoc]
theorem Qtm:Qf Tryz.prog Qee:=Qj fun x _=>Qyp x.1 x.2.1
def QaL (t:Int × Bool):TRes:=zre (.tp [(zci t.1),(zcb t.2)])
def QfJ:TRow:=Qg 184 [(.c (.sl [TI])),(.c (.sl [TI]))] fun x=>(none,QaL (QQ x.1 x.2.1))
def Qga:TTab:=⟨[QbF,Qdl,Qbk],false⟩
def Qql:TCode :=
 (zsq [(zsq [(.reg [zmv 13 8,zmv 14 0,zle 15 14,zbi 16 .lss 13 15,zmv 17 16,.grp 17 true [zmv 18 0,zmv 19 1,zca 20 191 [18,19]] 21 20]),(.cond 21 .skip (.exit 0))]),(.block 1 (zsq [(.draw [zmv 25 0,zmv 26 8,zia 27 25 26 [TI],zld 28 27 1,zmv 29 1,zmv 30 8,zia 31 29 30 [TI],zld 32 31 1,zca 33 237 [28,32],zmv 24 33,zex 34 24 0,zex 35 24 1,zmv 9 34,zmv 10 35] []),(.reg [zmv 37 6,zmv 38 9,zca 39 99 [37,38],zmv 36 39,zex 40 36 0,zex 41 36 1,zmv 11 40,zmv 12 41]),(.reg [zmv 42 11,zmv 6 42]),(.reg [zmv 43 7,zmv 44 43,.grp 44 false [zmv 45 10] 46 45,zmv 47 46,.grp 47 false [zmv 48 12] 49 48,zmv 7 49])])),(.reg [zmv 22 8,zbi 23 .add 22 (zki 1),zmv 8 23])])
def Qnw:List (Nat × Md):=zdl [0,1,6,7,8]
def Qq7:TCode :=
 (zsq [(.reg [zmv 50 6,zmv 51 7,zmv 4 50,zmv 5 51]),.ret])
def QD4:TCode :=
 (zsq [(.reg [zmv 4 (zki 0),zmv 5 (zkb false)]),(.reg [zmv 6 (zki 0)]),(.reg [zmv 7 (zkb false)]),(zsq [(.reg [zmv 8 (zki 0)]),(.block 0 (.loop Qnw Qql))]),Qq7])
def QmA:List (ARv × Md):=[(.t 4,.one .d),(.t 5,.one .d)]
def QtH:Qb:=TQ 0 0 QmA K
def QIg:Qb:=Qseq (tawp Qga 0 Qq7 (QtH K)) (QtH K)
def QGy:Qb:=Qblk 0 (QIg K)
def QdI (a:List Int) (b:List Int) (sum:Int) (sat:Bool) (i:Int):Prop:=Loop Qga 0 Qnw Qql (QGy K) ⟨[(0,(zcs [TI] a)),(1,(zcs [TI] b)),(6,(zci sum)),(7,(zcb sat)),(8,(zci i))],[],0⟩
theorem Qk4 (a:List Int) (b:List Int) (sum:Int) (sat:Bool) (i:Int) (h :
 (zif ((decide (i<(a.length:Int)))&&(Zd a b)) ((((0:Int)≤i∧Int.toNat i<a.length)∧((0:Int)≤i∧Int.toNat i<b.length))∧(QdI K a b ((QV sum ((QW (gtd (0:Int) a (Int.toNat i)) (gtd (0:Int) b (Int.toNat i))).1)).1) ((sat||((QW (gtd (0:Int) a (Int.toNat i)) (gtd (0:Int) b (Int.toNat i))).2))||((QV sum ((QW (gtd (0:Int) a (Int.toNat i)) (gtd (0:Int) b (Int.toNat i))).1)).2)) (w64 (i+(1:Int))))) (K (QaL (sum,sat))))):QdI K a b sum sat i :=
 Loop.of (by kernel_rfl) h
theorem QAw (a:List Int) (b:List Int) (h :
 (QdI K a b 0 false 0)):Hold (tawp Qga (0+0) QD4 (TQ 0 0 QmA K) (Qd [(.c (.sl [TI]) a),(.c (.sl [TI]) b)])) :=
 Hold.of (by kernel_rfl) h
theorem QI0 (a:List Int) (b:List Int):TCon Tryz.prog 184 [(.c (.sl [TI]) a),(.c (.sl [TI]) b)] (QaL (QQ a b)):=by
 refine Qh rfl fun hb=>tcg (Γ:=Qga) (n:=52) (sg:=QfJ.sg) Qi (TOkL.cons QfU (TOkL.cons Qk2 (TOkL.cons Qgo TOkL.nil))) (by kernel_rfl) (by kernel_rfl) (QAw _ a b ?_)
 have hl_a:a.length≤9223372036854775807:=hb.1.1
 have hl_b:b.length≤9223372036854775807:=hb.2.1.1
 by_cases hp:Zd a b=true
 rotate_left
 ·refine Qk4 (fun r'=>r'=QaL (QQ a b)) a b _ _ _ ⟨fun h=>by simp [hp] at h,fun _=>R_eq (by unfold QQ;rw [if_neg hp])⟩
 have hl:=JF.1 hp
 have h6:=(ZV.1 hl.1).1
 refine Za a (fun r k=>∀ (z:Int) (s:Bool),((YP r (b.drop k) z).1,s||(YP r (b.drop k) z).2)=(QQ a b)→QdI (fun r'=>r'=QaL (QQ a b)) a b z s k) ?_ ?_ 0 false (by unfold QQ;rw [if_pos hp];simp)
 ·intro z s he
  refine Qk4 (fun r'=>r'=QaL (QQ a b)) a b _ _ _ ⟨fun h=>by simp at h,fun _=>R_eq ?_⟩
  rw [← he];simp [YP]
 ·intro k x r hk hlt hg ih z s he
  obtain ⟨y,q,hq⟩:=ZQ (l:=b) (k:=k) (by omega)
  refine Qk4 (fun r'=>r'=QaL (QQ a b)) a b _ _ _ ⟨fun _=>?_,fun h=>by simp [hp] at h;omega⟩
  rw [Int.toNat_natCast,hg,Zr hq,sc1 (by omega)]
  refine ⟨⟨⟨by omega,hlt⟩,by omega,by omega⟩,ih _ _ ?_⟩
  rw [← he,hq,YP,Zj hq]
  simp [Bool.or_assoc]
theorem Qp4:Qf Tryz.prog QfJ:=Qj fun x _=>QI0 x.1 x.2.1
def Qa8 (t:(List Int)):TRes:=⟨(.r [TI] 0 0 t.length),[(.sl 3 [TI] (.dp 0 true []) t)],[],false,[]⟩
def Qh2:TRow:=Qg 246 [(.c (.sl [TI])),(.c (.sl [TI]))] fun x=>(none,Qa8 (Zu x.1 x.2.1))
def QgG:TTab:=⟨[Qb5],true⟩
def Qsu:TCode :=
 (zsq [(.reg [zbi 15 .lss 14 13]),(.cond 15 .skip (.exit 0)),(.block 1 (zsq [(.reg [zmv 16 14,zmv 6 16]),(.reg [zmv 17 0,zmv 18 6,zia 19 17 18 [TI],zld 20 19 1,zbi 21 .gtr 20 (zki 0)]),(.cond 21 (.reg [zmv 22 5,zmv 23 1,zmv 24 6,zia 25 23 24 [TI],zld 26 25 1,zop 27 (.bsl 3 [TI] [26]),zop 28 (.app 22 27 3 [TI]),zmv 5 28]) (.reg [zmv 29 5,zop 30 (.bsl 3 [TI] [(zki 0)]),zop 31 (.app 29 30 3 [TI]),zmv 5 31]))])),(.reg [zbi 32 .add 14 (zki 1),zmv 14 32])])
def Qvk:List (Nat × Md):=[(0,.one .d),(1,.one .d),(5,.one .f),(13,.one .d),(14,.one .d)]
def Qu9:TCode :=
 (zsq [(.reg [zmv 33 5,zmv 4 33]),.ret])
def QAY:TCode :=
 (zsq [(.reg [zmv 4 (.k (.n [TI]))]),(zsq [(.reg [zmv 7 0,zmv 8 1,zca 9 195 [7,8],zno 10 9]),(.cond 10 (zsq [(.reg [zmv 4 (.k (.n [TI]))]),.ret]) .skip)]),(.reg [zop 11 (.bsl 3 [TI] []),zmv 5 11]),(zsq [(.reg [zmv 12 0,zle 13 12,zmv 14 (zki 0)]),(.block 0 (.loop Qvk Qsu))]),Qu9])
def Qtw:List (ARv × Md):=[(.t 4,.one (.p 3))]
def QvE:Qb:=TQ 0 0 Qtw K
def QJ2:Qb:=Qseq (tawp QgG 0 Qu9 (QvE K)) (QvE K)
def QGC:Qb:=Qblk 0 (QJ2 K)
def QcI (x:List Int) (d:List Int) (x1:Int) (v:List Int):Prop:=Loop QgG 0 Qvk Qsu (QGC K) ⟨[(0,(zcs [TI] x)),(1,(zcs [TI] d)),(5,(.r [TI] 0 0 v.length)),(13,(zci (x.length:Int))),(14,(zci x1))],[(0,(.sl 3 [TI] (.dp 0 true []) v))],1⟩
theorem Qs2 (x:List Int) (d:List Int) (x1:Int) (v:List Int) (h :
 (zif (decide (x1<(x.length:Int))) (((0:Int)≤x1∧Int.toNat x1<x.length)∧(zif (decide ((gtd (0:Int) x (Int.toNat x1))>(0:Int))) ((((0:Int)≤x1∧Int.toNat x1<d.length)∧((v.length=v.length∨v.length+1≤v.length)∧v.length+1≤big))∧(QcI K x d (w64 (x1+(1:Int))) (List.take (v.length+1) ((List.take v.length v)++([(gtd (0:Int) d (Int.toNat x1))]))))) (((v.length=v.length∨v.length+1≤v.length)∧v.length+1≤big)∧(QcI K x d (w64 (x1+(1:Int))) (List.take (v.length+1) ((List.take v.length v)++([(0:Int)]))))))) (K (Qa8 (List.take v.length v))))):QcI K x d x1 v :=
 Loop.of (by kernel_rfl) h
theorem QJo (x:List Int) (d:List Int) (h :
 (zif (!(Zd x d)) (K (Qa8 ([]:List Int))) (QcI K x d 0 ([]:List Int)))):Hold (tawp QgG (0+0) QAY (TQ 0 0 Qtw K) (Qd [(.c (.sl [TI]) x),(.c (.sl [TI]) d)])) :=
 Hold.of (by kernel_rfl) h
theorem QG6 (x:List Int) (d:List Int):TCon Tryz.prog 246 [(.c (.sl [TI]) x),(.c (.sl [TI]) d)] (Qa8 (Zu x d)):=by
 refine Qh rfl fun hb=>tcg (Γ:=QgG) (n:=34) (sg:=Qh2.sg) Qi (TOkL.cons QgJ TOkL.nil) (by kernel_rfl) (by kernel_rfl) (QJo _ x d ?_)
 have hl_x:x.length≤9223372036854775807:=hb.1.1
 have hl_d:d.length≤9223372036854775807:=hb.2.1.1
 refine ⟨fun h=>R_eq (by unfold Zu;rw [if_neg (by simpa using h)]),fun h=>?_⟩
 have hp:Zd x d=true:=by simpa using h
 have hl:=JF.1 hp
 have h6:=(ZV.1 hl.1).1
 refine Za x (fun r k=>∀ (v:List Int),v.length=k→v++List.zipWith (fun a b=>if 0<a then b else 0) r (d.drop k)=(Zu x d)→QcI (fun r'=>r'=Qa8 (Zu x d)) x d k v) ?_ ?_ [] rfl (by unfold Zu;rw [if_pos hp];simp)
 ·intro v hv he
  refine Qs2 (fun r'=>r'=Qa8 (Zu x d)) x d _ _ ⟨fun h=>by simp at h,fun _=>R_eq ?_⟩
  rw [← he];simp
 ·intro k y r hk hlt hg ih v hv he
  obtain ⟨z,q,hq⟩:=ZQ (l:=d) (k:=k) (by omega)
  refine Qs2 (fun r'=>r'=Qa8 (Zu x d)) x d _ _ ⟨fun _=>?_,fun h=>by simp at h;omega⟩
  rw [Int.toNat_natCast,hg,Zr hq,sc1 (by omega),Zm,Zm]
  rw [hq,List.zipWith_cons_cons,← Zj hq] at he
  refine ⟨⟨by omega,hlt⟩,fun h=>⟨⟨⟨by omega,by omega⟩,room (by omega)⟩,ih _ (ZZ hv) ?_⟩,fun h=>⟨room (by omega),ih _ (ZZ hv) ?_⟩⟩
  ·rw [← he,if_pos (by simpa using h)];simp
  ·rw [← he,if_neg (by simpa using h)];simp
theorem QyN:Qf Tryz.prog Qh2:=Qj fun x _=>QG6 x.1 x.2.1
def QaK (t:(List Int)):TRes:=zra (zcs [TI] t)
def QjH:TRow:=Qg 241 [(.c (.sl [TI])),(.c (.sl [TI]))] fun x=>(none,QaK (Zu x.1 x.2.1))
def QeS:TTab:=⟨[QbF],false⟩
def QrU:TCode :=
 (zsq [(zsq [(.reg [zmv 8 6,zmv 9 0,zle 10 9,zbi 11 .lss 8 10,zmv 12 11,.grp 12 true [zmv 13 0,zmv 14 1,zca 15 191 [13,14]] 16 15]),(.cond 16 .skip (.exit 0))]),(.block 1 (zsq [(.reg [zmv 19 0,zmv 20 6,zia 21 19 20 [TI],zld 22 21 1,zbi 23 .gtr 22 (zki 0)]),(.cond 23 (.reg [zmv 24 5,zmv 25 1,zmv 26 6,zia 27 25 26 [TI],zld 28 27 1,zop 29 (.bsl 3 [TI] [28]),zop 30 (.app 24 29 3 [TI]),zmv 5 30]) (.reg [zmv 31 5,zop 32 (.bsl 3 [TI] [(zki 0)]),zop 33 (.app 31 32 3 [TI]),zmv 5 33]))])),(.reg [zmv 17 6,zbi 18 .add 17 (zki 1),zmv 6 18])])
def Quq:List (Nat × Md):=[(0,.one .d),(1,.one .d),(5,.one .f),(6,.one .d)]
def QvW:TCode :=
 (zsq [(.reg [zmv 34 5,zmv 4 34]),.ret])
def QEf:TCode :=
 (zsq [(.reg [zmv 4 (.k (.n [TI]))]),(.reg [zop 7 (.bsl 3 [TI] []),zmv 5 7]),(zsq [(.reg [zmv 6 (zki 0)]),(.block 0 (.loop Quq QrU))]),QvW])
def Qrs:List (ARv × Md):=[(.t 4,.one .d)]
def Qnd:Qb:=TQ 0 0 Qrs K
def QFk:Qb:=Qseq (tawp QeS 0 QvW (Qnd K)) (Qnd K)
def QIL:Qb:=Qblk 0 (QFk K)
def Qcd (x:List Int) (d:List Int) (i:Int) (out:List Int):Prop:=Loop QeS 0 Quq QrU (QIL K) ⟨[(0,(zcs [TI] x)),(1,(zcs [TI] d)),(5,(.r [TI] 0 0 out.length)),(6,(zci i))],[(0,(.sl 3 [TI] .ow out))],1⟩
theorem QgU (x:List Int) (d:List Int) (i:Int) (out:List Int) (h :
 (zif ((decide (i<(x.length:Int)))&&(Zd x d)) (((0:Int)≤i∧Int.toNat i<x.length)∧(zif (decide ((gtd (0:Int) x (Int.toNat i))>(0:Int))) ((((0:Int)≤i∧Int.toNat i<d.length)∧((out.length=out.length∨out.length+1≤out.length)∧out.length+1≤big))∧(Qcd K x d (w64 (i+(1:Int))) (List.take (out.length+1) ((List.take out.length out)++([(gtd (0:Int) d (Int.toNat i))]))))) (((out.length=out.length∨out.length+1≤out.length)∧out.length+1≤big)∧(Qcd K x d (w64 (i+(1:Int))) (List.take (out.length+1) ((List.take out.length out)++([(0:Int)]))))))) (K (QaK (List.take out.length (List.drop 0 out)))))):Qcd K x d i out :=
 Loop.of (by kernel_rfl) h
theorem QIe (x:List Int) (d:List Int) (h :
 (Qcd K x d 0 ([]:List Int))):Hold (tawp QeS (0+0) QEf (TQ 0 0 Qrs K) (Qd [(.c (.sl [TI]) x),(.c (.sl [TI]) d)])) :=
 Hold.of (by kernel_rfl) h
theorem QxU (x:List Int) (d:List Int):TCon Tryz.prog 241 [(.c (.sl [TI]) x),(.c (.sl [TI]) d)] (QaK (Zu x d)):=by
 refine Qh rfl fun hb=>tcg (Γ:=QeS) (n:=35) (sg:=QjH.sg) Qi (TOkL.cons QfU TOkL.nil) (by kernel_rfl) (by kernel_rfl) (QIe _ x d ?_)
 have hl_x:x.length≤9223372036854775807:=hb.1.1
 have hl_d:d.length≤9223372036854775807:=hb.2.1.1
 by_cases hp:Zd x d=true
 rotate_left
 ·refine QgU (fun r'=>r'=QaK (Zu x d)) x d _ _ ⟨fun h=>by simp [hp] at h,fun _=>R_eq (by unfold Zu;rw [if_neg hp];rfl)⟩
 have hl:=JF.1 hp
 have h6:=(ZV.1 hl.1).1
 refine Za x (fun r k=>∀ (v:List Int),v.length=k→v++List.zipWith (fun a b=>if 0<a then b else 0) r (d.drop k)=(Zu x d)→Qcd (fun r'=>r'=QaK (Zu x d)) x d k v) ?_ ?_ [] rfl (by unfold Zu;rw [if_pos hp];simp)
 ·intro v hv he
  refine QgU (fun r'=>r'=QaK (Zu x d)) x d _ _ ⟨fun h=>by simp at h,fun _=>R_eq ?_⟩
  rw [← he];simp
 ·intro k y r hk hlt hg ih v hv he
  obtain ⟨z,q,hq⟩:=ZQ (l:=d) (k:=k) (by omega)
  refine QgU (fun r'=>r'=QaK (Zu x d)) x d _ _ ⟨fun _=>?_,fun h=>by simp [hp] at h;omega⟩
  rw [Int.toNat_natCast,hg,Zr hq,sc1 (by omega),Zm,Zm]
  rw [hq,List.zipWith_cons_cons,← Zj hq] at he
  refine ⟨⟨by omega,hlt⟩,fun h=>⟨⟨⟨by omega,by omega⟩,room (by omega)⟩,ih _ (ZZ hv) ?_⟩,fun h=>⟨room (by omega),ih _ (ZZ hv) ?_⟩⟩
  ·rw [← he,if_pos (by simpa using h)];simp
  ·rw [← he,if_neg (by simpa using h)];simp
theorem QIb:Qf Tryz.prog QjH:=Qj fun x _=>QxU x.1 x.2.1
end
end Go.Proofs.YtdplaepmjogjjaaGreat.Am

