/- -/
import Derived.Test.YtdplaepmjogjjaaGreatVCP1
import Derived.Test.YtdplaepmjogjjaaGreatVCPF
namespace Go.Proofs.YtdplaepmjogjjaaGreat.Am
open Go Go.RowKit Go.Proofs.YtdplaepmjogjjaaGreat
set_option linter.all false
noncomputable section
variable (K:TRes→Prop)
def QiU (t:Bool):TRes:=zre (zcb t)
def Qci:TRow:=Qg 195 [(.c (.sl [TI])),(.c (.sl [TI]))] fun x=>(none,QiU (Zg x.1 x.2.1))
def QlC:TTab:=⟨[QbC,Y0],false⟩
def QIo:TCode :=
 (zsq [(.reg [zmv 4 (zkb false)]),(.reg [zmv 5 0,zca 6 187 [5],zmv 7 6,.grp 7 true [zmv 8 1,zmv 9 0,zle 10 9,zca 11 100 [8,10]] 12 11,zmv 4 12]),.ret])
def QwT:List (ARv × Md):=[(.t 4,.one .d)]
theorem QB6 (a:List Int) (b:List Int) (h :
 K (QiU ((QD a)&&(Qw b (a.length:Int))))):Hold (tawp QlC (0+0) QIo (TQ 0 0 QwT K) (Qd [(.c (.sl [TI]) a),(.c (.sl [TI]) b)])) :=
 Hold.of (by kernel_rfl) h
theorem QES (a:List Int) (b:List Int):TCon Tryz.prog 195 [(.c (.sl [TI]) a),(.c (.sl [TI]) b)] (QiU (Zg a b)):=by
 refine Qi rfl fun hb=>tcg (Γ:=QlC) (n:=13) (sg:=Qci.sg) Qj (TOkL.cons QdR (TOkL.cons QaD TOkL.nil)) (by kernel_rfl) (by kernel_rfl) (QB6 _ a b ?_)
 have hl_a:a.length≤9223372036854775807:=hb.1.1
 have hl_b:b.length≤9223372036854775807:=hb.2.1.1
 exact R_eq rfl
theorem QgM:Qe Tryz.prog Qci:=Qk fun x _=>QES x.1 x.2.1
def QgL (t:Bool):TRes:=zre (zcb t)
def Qcu:TRow:=Qg 191 [(.c (.sl [TI])),(.c (.sl [TI]))] fun x=>(none,QgL (Zg x.1 x.2.1))
def QlL:TTab:=⟨[YQ],false⟩
def QHU:TCode :=
 (zsq [(.reg [zmv 4 (zkb false)]),(.reg [zmv 5 0,zca 6 97 [5],zmv 7 6,.grp 7 true [zmv 8 1,zca 9 97 [8]] 10 9,zmv 11 10,.grp 11 true [zmv 12 0,zle 13 12,zmv 14 1,zle 15 14,zbi 16 .eql 13 15] 17 16,zmv 4 17]),.ret])
def QDV:List (ARv × Md):=[(.t 4,.one .d)]
theorem QDB (a:List Int) (b:List Int) (h :
 K (QgL (((QD a)&&(QD b))&&((a.length:Int)==(b.length:Int))))):Hold (tawp QlL (0+0) QHU (TQ 0 0 QDV K) (Qd [(.c (.sl [TI]) a),(.c (.sl [TI]) b)])) :=
 Hold.of (by kernel_rfl) h
theorem QCa (a:List Int) (b:List Int):TCon Tryz.prog 191 [(.c (.sl [TI]) a),(.c (.sl [TI]) b)] (QgL (Zg a b)):=by
 refine Qi rfl fun hb=>tcg (Γ:=QlL) (n:=18) (sg:=Qcu.sg) Qj (TOkL.cons JI TOkL.nil) (by kernel_rfl) (by kernel_rfl) (QDB _ a b ?_)
 have hl_a:a.length≤9223372036854775807:=hb.1.1
 have hl_b:b.length≤9223372036854775807:=hb.2.1.1
 refine R_eq ?_
 rw [Bool.eq_iff_iff]
 unfold Zg Qw
 simp only [Bool.and_eq_true,beq_iff_eq]
 constructor
 ·rintro ⟨⟨h1,h2⟩,h3⟩;exact ⟨h1,h2,by omega⟩
 ·rintro ⟨h1,h2,h3⟩;exact ⟨⟨h1,h2⟩,by omega⟩
theorem Qht:Qe Tryz.prog Qcu:=Qk fun x _=>QCa x.1 x.2.1
def QaI (t:(List Int) × Bool):TRes:=⟨(.tp [(.r [TI] 0 0 ((t.1).length)),(zcb t.2)]),[(.sl 3 [TI] (.dp 0 true []) t.1)],[],false,[]⟩
def QjC:TRow:=Qg 231 [(.c (.sl [TI])),(.c (.sl [TI]))] fun x=>(none,QaI (QT x.1 x.2.1))
def QfP:TTab:=⟨[Qci,QcJ],true⟩
def Qle:TCode :=
 (zsq [(.reg [zbi 19 .lss 18 17]),(.cond 19 .skip (.exit 0)),(.block 1 (zsq [(.reg [zmv 20 18,zmv 8 20]),(.draw [zmv 22 0,zmv 23 8,zia 24 22 23 [TI],zld 25 24 1,zmv 26 1,zmv 27 8,zia 28 26 27 [TI],zld 29 28 1,zca 30 106 [25,29],zmv 21 30,zex 31 21 0,zex 32 21 1,zmv 9 31,zmv 10 32] []),(.reg [zmv 33 6,zmv 34 9,zop 35 (.bsl 3 [TI] [34]),zop 36 (.app 33 35 3 [TI]),zmv 6 36]),(.reg [zmv 37 7,zmv 38 37,.grp 38 false [zmv 39 10] 40 39,zmv 7 40])])),(.reg [zbi 41 .add 18 (zki 1),zmv 18 41])])
def QkF:List (Nat × Md):=[(0,.one .d),(1,.one .d),(6,.one .f),(7,.one .d),(17,.one .d),(18,.one .d)]
def Qns:TCode :=
 (zsq [(.reg [zmv 42 6,zmv 43 7,zmv 4 42,zmv 5 43]),.ret])
def QGm:TCode :=
 (zsq [(.reg [zmv 4 (.k (.n [TI])),zmv 5 (zkb false)]),(zsq [(.reg [zmv 11 0,zmv 12 1,zca 13 195 [11,12],zno 14 13]),(.cond 14 (zsq [(.reg [zmv 4 (.k (.n [TI])),zmv 5 (zkb false)]),.ret]) .skip)]),(.reg [zop 15 (.bsl 3 [TI] []),zmv 6 15]),(.reg [zmv 7 (zkb false)]),(zsq [(.reg [zmv 16 0,zle 17 16,zmv 18 (zki 0)]),(.block 0 (.loop QkF Qle))]),Qns])
def Qrs:List (ARv × Md):=[(.t 4,.one (.p 3)),(.t 5,.one .d)]
def QkZ:Qb:=TQ 0 0 Qrs K
def QyO:Qb:=Qseq (tawp QfP 0 Qns (QkZ K)) (QkZ K)
def Qxo:Qb:=Qblk 0 (QyO K)
def Qfp (a:List Int) (b:List Int) (out:Bool) (x:Int) (v:List Int):Prop:=Loop QfP 0 QkF Qle (Qxo K) ⟨[(0,(zcs [TI] a)),(1,(zcs [TI] b)),(6,(.r [TI] 0 0 v.length)),(7,(zcb out)),(17,(zci (a.length:Int))),(18,(zci x))],[(0,(.sl 3 [TI] (.dp 0 true []) v))],1⟩
theorem QtS (a:List Int) (b:List Int) (out:Bool) (x:Int) (v:List Int) (h :
 (zif (decide (x<(a.length:Int))) ((((0:Int)≤x∧Int.toNat x<a.length)∧((0:Int)≤x∧Int.toNat x<b.length))∧(((v.length=v.length∨v.length+1≤v.length)∧v.length+1≤big)∧(Qfp K a b (out||((Q3 (gtd (0:Int) a (Int.toNat x)) (gtd (0:Int) b (Int.toNat x))).2)) (w64 (x+(1:Int))) (List.take (v.length+1) ((List.take v.length v)++([(Q3 (gtd (0:Int) a (Int.toNat x)) (gtd (0:Int) b (Int.toNat x))).1])))))) (K (QaI ((List.take v.length v),out))))):Qfp K a b out x v :=
 Loop.of (by kernel_rfl) h
theorem Qwt (a:List Int) (b:List Int) (h :
 (zif (!(Zg a b)) (K (QaI (([]:List Int),false))) (Qfp K a b false 0 ([]:List Int)))):Hold (tawp QfP (0+0) QGm (TQ 0 0 Qrs K) (Qd [(.c (.sl [TI]) a),(.c (.sl [TI]) b)])) :=
 Hold.of (by kernel_rfl) h
theorem QGx (a:List Int) (b:List Int):TCon Tryz.prog 231 [(.c (.sl [TI]) a),(.c (.sl [TI]) b)] (QaI (QT a b)):=by
 refine Qi rfl fun hb=>tcg (Γ:=QfP) (n:=44) (sg:=QjC.sg) Qj (TOkL.cons QgM (TOkL.cons Qil TOkL.nil)) (by kernel_rfl) (by kernel_rfl) (Qwt _ a b ?_)
 have hl_a:a.length≤9223372036854775807:=hb.1.1
 have hl_b:b.length≤9223372036854775807:=hb.2.1.1
 refine ⟨fun h=>R_eq (by unfold QT;rw [if_neg (by simpa using h)]),fun h=>?_⟩
 have hp:Zg a b=true:=by simpa using h
 have hl:=Qbz.1 hp
 have h6:=(Yw.1 hl.1).1
 refine Zh a (fun r k=>∀ (v:List Int) (s:Bool),v.length=k→(v++(vz Q3 r (b.drop k)).1,s||(vz Q3 r (b.drop k)).2)=(QT a b)→Qfp (fun r'=>r'=QaI (QT a b)) a b s k v) ?_ ?_ [] false rfl (by unfold QT;rw [if_pos hp];simp)
 ·intro v s hv he
  refine QtS (fun r'=>r'=QaI (QT a b)) a b _ _ _ ⟨fun h=>by simp at h,fun _=>R_eq ?_⟩
  rw [← he];simp [vz]
 ·intro k x r hk hlt hg ih v s hv he
  obtain ⟨y,q,hq⟩:=Qbc (l:=b) (k:=k) (by omega)
  refine QtS (fun r'=>r'=QaI (QT a b)) a b _ _ _ ⟨fun _=>?_,fun h=>by simp at h;omega⟩
  rw [Int.toNat_natCast,hg,Yg hq,sc1 (by omega),Zu]
  refine ⟨⟨⟨by omega,hlt⟩,by omega,by omega⟩,room (by omega),ih _ _ (Yv hv) ?_⟩
  rw [← he,hq,vz,Yp hq]
  simp [Bool.or_assoc]
theorem QHT:Qe Tryz.prog QjC:=Qk fun x _=>QGx x.1 x.2.1
def Qac (t:(List Int) × Bool):TRes:=zra (.tp [(zcs [TI] t.1),(zcb t.2)])
def Qib:TRow:=Qg 225 [(.c (.sl [TI])),(.c (.sl [TI]))] fun x=>(none,Qac (QT x.1 x.2.1))
def QdS:TTab:=⟨[Qcu,Qb2],false⟩
def Qs3:TCode :=
 (zsq [(zsq [(.reg [zmv 12 8,zmv 13 0,zle 14 13,zbi 15 .lss 12 14,zmv 16 15,.grp 16 true [zmv 17 0,zmv 18 1,zca 19 191 [17,18]] 20 19]),(.cond 20 .skip (.exit 0))]),(.block 1 (zsq [(.draw [zmv 24 0,zmv 25 8,zia 26 24 25 [TI],zld 27 26 1,zmv 28 1,zmv 29 8,zia 30 28 29 [TI],zld 31 30 1,zca 32 99 [27,31],zmv 23 32,zex 33 23 0,zex 34 23 1,zmv 9 33,zmv 10 34] []),(.reg [zmv 35 6,zmv 36 9,zop 37 (.bsl 3 [TI] [36]),zop 38 (.app 35 37 3 [TI]),zmv 6 38]),(.reg [zmv 39 7,zmv 40 39,.grp 40 false [zmv 41 10] 42 41,zmv 7 42])])),(.reg [zmv 21 8,zbi 22 .add 21 (zki 1),zmv 8 22])])
def Qrt:List (Nat × Md):=[(0,.one .d),(1,.one .d),(6,.one .f),(7,.one .d),(8,.one .d)]
def Qn6:TCode :=
 (zsq [(.reg [zmv 43 6,zmv 44 7,zmv 4 43,zmv 5 44]),.ret])
def QBa:TCode :=
 (zsq [(.reg [zmv 4 (.k (.n [TI])),zmv 5 (zkb false)]),(.reg [zop 11 (.bsl 3 [TI] []),zmv 6 11]),(.reg [zmv 7 (zkb false)]),(zsq [(.reg [zmv 8 (zki 0)]),(.block 0 (.loop Qrt Qs3))]),Qn6])
def Qqk:List (ARv × Md):=[(.t 4,.one .d),(.t 5,.one .d)]
def Qma:Qb:=TQ 0 0 Qqk K
def QxW:Qb:=Qseq (tawp QdS 0 Qn6 (Qma K)) (Qma K)
def QEe:Qb:=Qblk 0 (QxW K)
def Qd2 (a:List Int) (b:List Int) (sat:Bool) (i:Int) (out:List Int):Prop:=Loop QdS 0 Qrt Qs3 (QEe K) ⟨[(0,(zcs [TI] a)),(1,(zcs [TI] b)),(6,(.r [TI] 0 0 out.length)),(7,(zcb sat)),(8,(zci i))],[(0,(.sl 3 [TI] .ow out))],1⟩
theorem Qiq (a:List Int) (b:List Int) (sat:Bool) (i:Int) (out:List Int) (h :
 (zif ((decide (i<(a.length:Int)))&&(Zg a b)) ((((0:Int)≤i∧Int.toNat i<a.length)∧((0:Int)≤i∧Int.toNat i<b.length))∧(((out.length=out.length∨out.length+1≤out.length)∧out.length+1≤big)∧(Qd2 K a b (sat||((Q3 (gtd (0:Int) a (Int.toNat i)) (gtd (0:Int) b (Int.toNat i))).2)) (w64 (i+(1:Int))) (List.take (out.length+1) ((List.take out.length out)++([(Q3 (gtd (0:Int) a (Int.toNat i)) (gtd (0:Int) b (Int.toNat i))).1])))))) (K (Qac ((List.take out.length (List.drop 0 out)),sat))))):Qd2 K a b sat i out :=
 Loop.of (by kernel_rfl) h
theorem QHZ (a:List Int) (b:List Int) (h :
 (Qd2 K a b false 0 ([]:List Int))):Hold (tawp QdS (0+0) QBa (TQ 0 0 Qqk K) (Qd [(.c (.sl [TI]) a),(.c (.sl [TI]) b)])) :=
 Hold.of (by kernel_rfl) h
theorem QHp (a:List Int) (b:List Int):TCon Tryz.prog 225 [(.c (.sl [TI]) a),(.c (.sl [TI]) b)] (Qac (QT a b)):=by
 refine Qi rfl fun hb=>tcg (Γ:=QdS) (n:=45) (sg:=Qib.sg) Qj (TOkL.cons Qht (TOkL.cons Qgv TOkL.nil)) (by kernel_rfl) (by kernel_rfl) (QHZ _ a b ?_)
 have hl_a:a.length≤9223372036854775807:=hb.1.1
 have hl_b:b.length≤9223372036854775807:=hb.2.1.1
 by_cases hp:Zg a b=true
 rotate_left
 ·refine Qiq (fun r'=>r'=Qac (QT a b)) a b _ _ _ ⟨fun h=>by simp [hp] at h,fun _=>R_eq (by unfold QT;rw [if_neg hp];rfl)⟩
 have hl:=Qbz.1 hp
 have h6:=(Yw.1 hl.1).1
 refine Zh a (fun r k=>∀ (v:List Int) (s:Bool),v.length=k→(v++(vz Q3 r (b.drop k)).1,s||(vz Q3 r (b.drop k)).2)=(QT a b)→Qd2 (fun r'=>r'=Qac (QT a b)) a b s k v) ?_ ?_ [] false rfl (by unfold QT;rw [if_pos hp];simp)
 ·intro v s hv he
  refine Qiq (fun r'=>r'=Qac (QT a b)) a b _ _ _ ⟨fun h=>by simp at h,fun _=>R_eq ?_⟩
  rw [← he];simp [vz]
 ·intro k x r hk hlt hg ih v s hv he
  obtain ⟨y,q,hq⟩:=Qbc (l:=b) (k:=k) (by omega)
  refine Qiq (fun r'=>r'=Qac (QT a b)) a b _ _ _ ⟨fun _=>?_,fun h=>by simp [hp] at h;omega⟩
  rw [Int.toNat_natCast,hg,Yg hq,sc1 (by omega),Zu]
  refine ⟨⟨⟨by omega,hlt⟩,by omega,by omega⟩,room (by omega),ih _ _ (Yv hv) ?_⟩
  rw [← he,hq,vz,Yp hq]
  simp [Bool.or_assoc]
theorem QGR:Qe Tryz.prog Qib:=Qk fun x _=>QHp x.1 x.2.1
def Qay (t:(List Int) × Bool):TRes:=⟨(.tp [(.r [TI] 0 0 ((t.1).length)),(zcb t.2)]),[(.sl 3 [TI] (.dp 0 true []) t.1)],[],false,[]⟩
def QhV:TRow:=Qg 111 [(.c (.sl [TI])),(.c (.sl [TI]))] fun x=>(none,Qay (QQ x.1 x.2.1))
def Qe9:TTab:=⟨[Qci,Qir],true⟩
def Qk7:TCode :=
 (zsq [(.reg [zbi 19 .lss 18 17]),(.cond 19 .skip (.exit 0)),(.block 1 (zsq [(.reg [zmv 20 18,zmv 8 20]),(.draw [zmv 22 0,zmv 23 8,zia 24 22 23 [TI],zld 25 24 1,zmv 26 1,zmv 27 8,zia 28 26 27 [TI],zld 29 28 1,zca 30 196 [25,29],zmv 21 30,zex 31 21 0,zex 32 21 1,zmv 9 31,zmv 10 32] []),(.reg [zmv 33 6,zmv 34 9,zop 35 (.bsl 3 [TI] [34]),zop 36 (.app 33 35 3 [TI]),zmv 6 36]),(.reg [zmv 37 7,zmv 38 37,.grp 38 false [zmv 39 10] 40 39,zmv 7 40])])),(.reg [zbi 41 .add 18 (zki 1),zmv 18 41])])
def Qo7:List (Nat × Md):=[(0,.one .d),(1,.one .d),(6,.one .f),(7,.one .d),(17,.one .d),(18,.one .d)]
def Qs1:TCode :=
 (zsq [(.reg [zmv 42 6,zmv 43 7,zmv 4 42,zmv 5 43]),.ret])
def QCr:TCode :=
 (zsq [(.reg [zmv 4 (.k (.n [TI])),zmv 5 (zkb false)]),(zsq [(.reg [zmv 11 0,zmv 12 1,zca 13 195 [11,12],zno 14 13]),(.cond 14 (zsq [(.reg [zmv 4 (.k (.n [TI])),zmv 5 (zkb false)]),.ret]) .skip)]),(.reg [zop 15 (.bsl 3 [TI] []),zmv 6 15]),(.reg [zmv 7 (zkb false)]),(zsq [(.reg [zmv 16 0,zle 17 16,zmv 18 (zki 0)]),(.block 0 (.loop Qo7 Qk7))]),Qs1])
def Qqi:List (ARv × Md):=[(.t 4,.one (.p 3)),(.t 5,.one .d)]
def Qs7:Qb:=TQ 0 0 Qqi K
def QxH:Qb:=Qseq (tawp Qe9 0 Qs1 (Qs7 K)) (Qs7 K)
def QAp:Qb:=Qblk 0 (QxH K)
def QdJ (a:List Int) (b:List Int) (out:Bool) (x:Int) (v:List Int):Prop:=Loop Qe9 0 Qo7 Qk7 (QAp K) ⟨[(0,(zcs [TI] a)),(1,(zcs [TI] b)),(6,(.r [TI] 0 0 v.length)),(7,(zcb out)),(17,(zci (a.length:Int))),(18,(zci x))],[(0,(.sl 3 [TI] (.dp 0 true []) v))],1⟩
theorem Qn2 (a:List Int) (b:List Int) (out:Bool) (x:Int) (v:List Int) (h :
 (zif (decide (x<(a.length:Int))) ((((0:Int)≤x∧Int.toNat x<a.length)∧((0:Int)≤x∧Int.toNat x<b.length))∧(((v.length=v.length∨v.length+1≤v.length)∧v.length+1≤big)∧(QdJ K a b (out||((Z6 (gtd (0:Int) a (Int.toNat x)) (gtd (0:Int) b (Int.toNat x))).2)) (w64 (x+(1:Int))) (List.take (v.length+1) ((List.take v.length v)++([(Z6 (gtd (0:Int) a (Int.toNat x)) (gtd (0:Int) b (Int.toNat x))).1])))))) (K (Qay ((List.take v.length v),out))))):QdJ K a b out x v :=
 Loop.of (by kernel_rfl) h
theorem QGv (a:List Int) (b:List Int) (h :
 (zif (!(Zg a b)) (K (Qay (([]:List Int),false))) (QdJ K a b false 0 ([]:List Int)))):Hold (tawp Qe9 (0+0) QCr (TQ 0 0 Qqi K) (Qd [(.c (.sl [TI]) a),(.c (.sl [TI]) b)])) :=
 Hold.of (by kernel_rfl) h
theorem QCL (a:List Int) (b:List Int):TCon Tryz.prog 111 [(.c (.sl [TI]) a),(.c (.sl [TI]) b)] (Qay (QQ a b)):=by
 refine Qi rfl fun hb=>tcg (Γ:=Qe9) (n:=44) (sg:=QhV.sg) Qj (TOkL.cons QgM (TOkL.cons QHt TOkL.nil)) (by kernel_rfl) (by kernel_rfl) (QGv _ a b ?_)
 have hl_a:a.length≤9223372036854775807:=hb.1.1
 have hl_b:b.length≤9223372036854775807:=hb.2.1.1
 refine ⟨fun h=>R_eq (by unfold QQ;rw [if_neg (by simpa using h)]),fun h=>?_⟩
 have hp:Zg a b=true:=by simpa using h
 have hl:=Qbz.1 hp
 have h6:=(Yw.1 hl.1).1
 refine Zh a (fun r k=>∀ (v:List Int) (s:Bool),v.length=k→(v++(vz Z6 r (b.drop k)).1,s||(vz Z6 r (b.drop k)).2)=(QQ a b)→QdJ (fun r'=>r'=Qay (QQ a b)) a b s k v) ?_ ?_ [] false rfl (by unfold QQ;rw [if_pos hp];simp)
 ·intro v s hv he
  refine Qn2 (fun r'=>r'=Qay (QQ a b)) a b _ _ _ ⟨fun h=>by simp at h,fun _=>R_eq ?_⟩
  rw [← he];simp [vz]
 ·intro k x r hk hlt hg ih v s hv he
  obtain ⟨y,q,hq⟩:=Qbc (l:=b) (k:=k) (by omega)
  refine Qn2 (fun r'=>r'=Qay (QQ a b)) a b _ _ _ ⟨fun _=>?_,fun h=>by simp at h;omega⟩
  rw [Int.toNat_natCast,hg,Yg hq,sc1 (by omega),Zu]
  refine ⟨⟨⟨by omega,hlt⟩,by omega,by omega⟩,room (by omega),ih _ _ (Yv hv) ?_⟩
  rw [← he,hq,vz,Yp hq]
  simp [Bool.or_assoc]
theorem Qyj:Qe Tryz.prog QhV:=Qk fun x _=>QCL x.1 x.2.1
def Qai (t:(List Int) × Bool):TRes:=zra (.tp [(zcs [TI] t.1),(zcb t.2)])
def QjW:TRow:=Qg 107 [(.c (.sl [TI])),(.c (.sl [TI]))] fun x=>(none,Qai (QQ x.1 x.2.1))
def Qew:TTab:=⟨[Qcu,Qg6],false⟩
def QoA:TCode :=
 (zsq [(zsq [(.reg [zmv 12 8,zmv 13 0,zle 14 13,zbi 15 .lss 12 14,zmv 16 15,.grp 16 true [zmv 17 0,zmv 18 1,zca 19 191 [17,18]] 20 19]),(.cond 20 .skip (.exit 0))]),(.block 1 (zsq [(.draw [zmv 24 0,zmv 25 8,zia 26 24 25 [TI],zld 27 26 1,zmv 28 1,zmv 29 8,zia 30 28 29 [TI],zld 31 30 1,zca 32 192 [27,31],zmv 23 32,zex 33 23 0,zex 34 23 1,zmv 9 33,zmv 10 34] []),(.reg [zmv 35 6,zmv 36 9,zop 37 (.bsl 3 [TI] [36]),zop 38 (.app 35 37 3 [TI]),zmv 6 38]),(.reg [zmv 39 7,zmv 40 39,.grp 40 false [zmv 41 10] 42 41,zmv 7 42])])),(.reg [zmv 21 8,zbi 22 .add 21 (zki 1),zmv 8 22])])
def QoI:List (Nat × Md):=[(0,.one .d),(1,.one .d),(6,.one .f),(7,.one .d),(8,.one .d)]
def QnA:TCode :=
 (zsq [(.reg [zmv 43 6,zmv 44 7,zmv 4 43,zmv 5 44]),.ret])
def QEH:TCode :=
 (zsq [(.reg [zmv 4 (.k (.n [TI])),zmv 5 (zkb false)]),(.reg [zop 11 (.bsl 3 [TI] []),zmv 6 11]),(.reg [zmv 7 (zkb false)]),(zsq [(.reg [zmv 8 (zki 0)]),(.block 0 (.loop QoI QoA))]),QnA])
def QrL:List (ARv × Md):=[(.t 4,.one .d),(.t 5,.one .d)]
def Qnh:Qb:=TQ 0 0 QrL K
def Qx5:Qb:=Qseq (tawp Qew 0 QnA (Qnh K)) (Qnh K)
def QFr:Qb:=Qblk 0 (Qx5 K)
def Qdg (a:List Int) (b:List Int) (sat:Bool) (i:Int) (out:List Int):Prop:=Loop Qew 0 QoI QoA (QFr K) ⟨[(0,(zcs [TI] a)),(1,(zcs [TI] b)),(6,(.r [TI] 0 0 out.length)),(7,(zcb sat)),(8,(zci i))],[(0,(.sl 3 [TI] .ow out))],1⟩
theorem QhA (a:List Int) (b:List Int) (sat:Bool) (i:Int) (out:List Int) (h :
 (zif ((decide (i<(a.length:Int)))&&(Zg a b)) ((((0:Int)≤i∧Int.toNat i<a.length)∧((0:Int)≤i∧Int.toNat i<b.length))∧(((out.length=out.length∨out.length+1≤out.length)∧out.length+1≤big)∧(Qdg K a b (sat||((Z6 (gtd (0:Int) a (Int.toNat i)) (gtd (0:Int) b (Int.toNat i))).2)) (w64 (i+(1:Int))) (List.take (out.length+1) ((List.take out.length out)++([(Z6 (gtd (0:Int) a (Int.toNat i)) (gtd (0:Int) b (Int.toNat i))).1])))))) (K (Qai ((List.take out.length (List.drop 0 out)),sat))))):Qdg K a b sat i out :=
 Loop.of (by kernel_rfl) h
theorem QvV (a:List Int) (b:List Int) (h :
 (Qdg K a b false 0 ([]:List Int))):Hold (tawp Qew (0+0) QEH (TQ 0 0 QrL K) (Qd [(.c (.sl [TI]) a),(.c (.sl [TI]) b)])) :=
 Hold.of (by kernel_rfl) h
theorem QHD (a:List Int) (b:List Int):TCon Tryz.prog 107 [(.c (.sl [TI]) a),(.c (.sl [TI]) b)] (Qai (QQ a b)):=by
 refine Qi rfl fun hb=>tcg (Γ:=Qew) (n:=45) (sg:=QjW.sg) Qj (TOkL.cons Qht (TOkL.cons QE7 TOkL.nil)) (by kernel_rfl) (by kernel_rfl) (QvV _ a b ?_)
 have hl_a:a.length≤9223372036854775807:=hb.1.1
 have hl_b:b.length≤9223372036854775807:=hb.2.1.1
 by_cases hp:Zg a b=true
 rotate_left
 ·refine QhA (fun r'=>r'=Qai (QQ a b)) a b _ _ _ ⟨fun h=>by simp [hp] at h,fun _=>R_eq (by unfold QQ;rw [if_neg hp];rfl)⟩
 have hl:=Qbz.1 hp
 have h6:=(Yw.1 hl.1).1
 refine Zh a (fun r k=>∀ (v:List Int) (s:Bool),v.length=k→(v++(vz Z6 r (b.drop k)).1,s||(vz Z6 r (b.drop k)).2)=(QQ a b)→Qdg (fun r'=>r'=Qai (QQ a b)) a b s k v) ?_ ?_ [] false rfl (by unfold QQ;rw [if_pos hp];simp)
 ·intro v s hv he
  refine QhA (fun r'=>r'=Qai (QQ a b)) a b _ _ _ ⟨fun h=>by simp at h,fun _=>R_eq ?_⟩
  rw [← he];simp [vz]
 ·intro k x r hk hlt hg ih v s hv he
  obtain ⟨y,q,hq⟩:=Qbc (l:=b) (k:=k) (by omega)
  refine QhA (fun r'=>r'=Qai (QQ a b)) a b _ _ _ ⟨fun _=>?_,fun h=>by simp [hp] at h;omega⟩
  rw [Int.toNat_natCast,hg,Yg hq,sc1 (by omega),Zu]
  refine ⟨⟨⟨by omega,hlt⟩,by omega,by omega⟩,room (by omega),ih _ _ (Yv hv) ?_⟩
  rw [← he,hq,vz,Yp hq]
  simp [Bool.or_assoc]
theorem Qv3:Qe Tryz.prog QjW:=Qk fun x _=>QHD x.1 x.2.1
def QaK (t:(List Int) × Bool):TRes:=⟨(.tp [(.r [TI] 0 0 ((t.1).length)),(zcb t.2)]),[(.sl 3 [TI] (.dp 0 true []) t.1)],[],false,[]⟩
def Qj2:TRow:=Qg 232 [(.c TI),(.c (.sl [TI]))] fun x=>(none,QaK (Q9 x.1 x.2.1))
def QfL:TTab:=⟨[Qcz,QbC,Qdx],true⟩
def QqJ:TCode :=
 (zsq [(.reg [zbi 23 .lss 22 21]),(.cond 23 .skip (.exit 0)),(.block 1 (zsq [(.reg [zmv 24 22,zmv 8 24]),(.reg [zmv 26 0,zmv 27 1,zmv 28 8,zia 29 27 28 [TI],zld 30 29 1,zca 31 239 [26,30],zmv 25 31,zex 32 25 0,zex 33 25 1,zmv 9 32,zmv 10 33]),(.reg [zmv 34 6,zmv 35 9,zop 36 (.bsl 3 [TI] [35]),zop 37 (.app 34 36 3 [TI]),zmv 6 37]),(.reg [zmv 38 7,zmv 39 38,.grp 39 false [zmv 40 10] 41 40,zmv 7 41])])),(.reg [zbi 42 .add 22 (zki 1),zmv 22 42])])
def QkC:List (Nat × Md):=[(0,.one .d),(1,.one .d),(6,.one .f),(7,.one .d),(21,.one .d),(22,.one .d)]
def Qtb:TCode :=
 (zsq [(.reg [zmv 43 6,zmv 44 7,zmv 4 43,zmv 5 44]),.ret])
def QAV:TCode :=
 (zsq [(.reg [zmv 4 (.k (.n [TI])),zmv 5 (zkb false)]),(zsq [(.reg [zmv 11 0,zca 12 240 [11],zno 13 12,zmv 14 13,.grp 14 false [zmv 15 1,zca 16 187 [15],zno 17 16] 18 17]),(.cond 18 (zsq [(.reg [zmv 4 (.k (.n [TI])),zmv 5 (zkb false)]),.ret]) .skip)]),(.reg [zop 19 (.bsl 3 [TI] []),zmv 6 19]),(.reg [zmv 7 (zkb false)]),(zsq [(.reg [zmv 20 1,zle 21 20,zmv 22 (zki 0)]),(.block 0 (.loop QkC QqJ))]),Qtb])
def QpT:List (ARv × Md):=[(.t 4,.one (.p 3)),(.t 5,.one .d)]
def Qn8:Qb:=TQ 0 0 QpT K
def QHw:Qb:=Qseq (tawp QfL 0 Qtb (Qn8 K)) (Qn8 K)
def QzO:Qb:=Qblk 0 (QHw K)
def Qd1 (c:Int) (a:List Int) (out:Bool) (x:Int) (v:List Int):Prop:=Loop QfL 0 QkC QqJ (QzO K) ⟨[(0,(zci c)),(1,(zcs [TI] a)),(6,(.r [TI] 0 0 v.length)),(7,(zcb out)),(21,(zci (a.length:Int))),(22,(zci x))],[(0,(.sl 3 [TI] (.dp 0 true []) v))],1⟩
theorem QoZ (c:Int) (a:List Int) (out:Bool) (x:Int) (v:List Int) (h :
 (zif (decide (x<(a.length:Int))) (((0:Int)≤x∧Int.toNat x<a.length)∧(((v.length=v.length∨v.length+1≤v.length)∧v.length+1≤big)∧(Qd1 K c a (out||((Za c (gtd (0:Int) a (Int.toNat x))).2)) (w64 (x+(1:Int))) (List.take (v.length+1) ((List.take v.length v)++([(Za c (gtd (0:Int) a (Int.toNat x))).1])))))) (K (QaK ((List.take v.length v),out))))):Qd1 K c a out x v :=
 Loop.of (by kernel_rfl) h
theorem QCd (c:Int) (a:List Int) (h :
 (zif ((!(Q2 c))||(!(QD a))) (K (QaK (([]:List Int),false))) (Qd1 K c a false 0 ([]:List Int)))):Hold (tawp QfL (0+0) QAV (TQ 0 0 QpT K) (Qd [(.c TI c),(.c (.sl [TI]) a)])) :=
 Hold.of (by kernel_rfl) h
theorem QIp (c:Int) (a:List Int):TCon Tryz.prog 232 [(.c TI c),(.c (.sl [TI]) a)] (QaK (Q9 c a)):=by
 refine Qi rfl fun hb=>tcg (Γ:=QfL) (n:=45) (sg:=Qj2.sg) Qj (TOkL.cons Qgd (TOkL.cons QdR (TOkL.cons QnT TOkL.nil))) (by kernel_rfl) (by kernel_rfl) (QCd _ c a ?_)
 have hl_a:a.length≤9223372036854775807:=hb.2.1.1
 refine ⟨fun h=>R_eq (by unfold Q9;rw [if_neg (by intro h2;simp at h2;simp [h2] at h)]),fun h=>?_⟩
 have hp:Q2 c=true∧QD a=true:=by simpa using h
 have h6:=(Yw.1 hp.2).1
 refine Zh a (fun r k=>∀ (v:List Int) (s:Bool),v.length=k→(v++(v1 (Za c) r).1,s||(v1 (Za c) r).2)=(Q9 c a)→Qd1 (fun r'=>r'=QaK (Q9 c a)) c a s k v) ?_ ?_ [] false rfl (by unfold Q9;rw [if_pos (by simp [hp])];simp)
 ·intro v s hv he
  refine QoZ (fun r'=>r'=QaK (Q9 c a)) c a _ _ _ ⟨fun h=>by simp at h,fun _=>R_eq ?_⟩
  rw [← he];simp [v1]
 ·intro k x r hk hlt hg ih v s hv he
  refine QoZ (fun r'=>r'=QaK (Q9 c a)) c a _ _ _ ⟨fun _=>?_,fun h=>by simp at h;omega⟩
  rw [Int.toNat_natCast,hg,sc1 (by omega),Zu]
  refine ⟨⟨by omega,hlt⟩,room (by omega),ih _ _ (Yv hv) ?_⟩
  rw [← he,v1]
  simp [Bool.or_assoc]
theorem QAW:Qe Tryz.prog Qj2:=Qk fun x _=>QIp x.1 x.2.1
def Qan (t:(List Int) × Bool):TRes:=zra (.tp [(zcs [TI] t.1),(zcb t.2)])
def Qg4:TRow:=Qg 227 [(.c TI),(.c (.sl [TI]))] fun x=>(none,Qan (Q9 x.1 x.2.1))
def QfU:TTab:=⟨[YQ,Qbu,Qfi],false⟩
def QmF:TCode :=
 (zsq [(zsq [(.reg [zmv 12 8,zmv 13 1,zle 14 13,zbi 15 .lss 12 14,zmv 16 15,.grp 16 true [zmv 17 1,zca 18 97 [17]] 19 18,zmv 20 19,.grp 20 true [zmv 21 0,zca 22 183 [21]] 23 22]),(.cond 23 .skip (.exit 0))]),(.block 1 (zsq [(.reg [zmv 27 0,zmv 28 1,zmv 29 8,zia 30 28 29 [TI],zld 31 30 1,zca 32 237 [27,31],zmv 26 32,zex 33 26 0,zex 34 26 1,zmv 9 33,zmv 10 34]),(.reg [zmv 35 6,zmv 36 9,zop 37 (.bsl 3 [TI] [36]),zop 38 (.app 35 37 3 [TI]),zmv 6 38]),(.reg [zmv 39 7,zmv 40 39,.grp 40 false [zmv 41 10] 42 41,zmv 7 42])])),(.reg [zmv 24 8,zbi 25 .add 24 (zki 1),zmv 8 25])])
def QsV:List (Nat × Md):=[(0,.one .d),(1,.one .d),(6,.one .f),(7,.one .d),(8,.one .d)]
def Qro:TCode :=
 (zsq [(.reg [zmv 43 6,zmv 44 7,zmv 4 43,zmv 5 44]),.ret])
def QBp:TCode :=
 (zsq [(.reg [zmv 4 (.k (.n [TI])),zmv 5 (zkb false)]),(.reg [zop 11 (.bsl 3 [TI] []),zmv 6 11]),(.reg [zmv 7 (zkb false)]),(zsq [(.reg [zmv 8 (zki 0)]),(.block 0 (.loop QsV QmF))]),Qro])
def Qtc:List (ARv × Md):=[(.t 4,.one .d),(.t 5,.one .d)]
def Qr9:Qb:=TQ 0 0 Qtc K
def Qwu:Qb:=Qseq (tawp QfU 0 Qro (Qr9 K)) (Qr9 K)
def QC1:Qb:=Qblk 0 (Qwu K)
def QfJ (c:Int) (a:List Int) (sat:Bool) (i:Int) (out:List Int):Prop:=Loop QfU 0 QsV QmF (QC1 K) ⟨[(0,(zci c)),(1,(zcs [TI] a)),(6,(.r [TI] 0 0 out.length)),(7,(zcb sat)),(8,(zci i))],[(0,(.sl 3 [TI] .ow out))],1⟩
theorem QjQ (c:Int) (a:List Int) (sat:Bool) (i:Int) (out:List Int) (h :
 (zif (((decide (i<(a.length:Int)))&&(QD a))&&(Q2 c)) (((0:Int)≤i∧Int.toNat i<a.length)∧(((out.length=out.length∨out.length+1≤out.length)∧out.length+1≤big)∧(QfJ K c a (sat||((Za c (gtd (0:Int) a (Int.toNat i))).2)) (w64 (i+(1:Int))) (List.take (out.length+1) ((List.take out.length out)++([(Za c (gtd (0:Int) a (Int.toNat i))).1])))))) (K (Qan ((List.take out.length (List.drop 0 out)),sat))))):QfJ K c a sat i out :=
 Loop.of (by kernel_rfl) h
theorem Qyn (c:Int) (a:List Int) (h :
 (QfJ K c a false 0 ([]:List Int))):Hold (tawp QfU (0+0) QBp (TQ 0 0 Qtc K) (Qd [(.c TI c),(.c (.sl [TI]) a)])) :=
 Hold.of (by kernel_rfl) h
theorem QBX (c:Int) (a:List Int):TCon Tryz.prog 227 [(.c TI c),(.c (.sl [TI]) a)] (Qan (Q9 c a)):=by
 refine Qi rfl fun hb=>tcg (Γ:=QfU) (n:=45) (sg:=Qg4.sg) Qj (TOkL.cons JI (TOkL.cons QfQ (TOkL.cons Qn0 TOkL.nil))) (by kernel_rfl) (by kernel_rfl) (Qyn _ c a ?_)
 have hl_a:a.length≤9223372036854775807:=hb.2.1.1
 by_cases hp:Q2 c=true∧QD a=true
 rotate_left
 ·refine QjQ (fun r'=>r'=Qan (Q9 c a)) c a _ _ _ ⟨fun h=>absurd (by simp at h;exact ⟨h.2,h.1.2⟩) hp,fun _=>R_eq (by unfold Q9;rw [if_neg (by simpa using hp)];rfl)⟩
 have h6:=(Yw.1 hp.2).1
 refine Zh a (fun r k=>∀ (v:List Int) (s:Bool),v.length=k→(v++(v1 (Za c) r).1,s||(v1 (Za c) r).2)=(Q9 c a)→QfJ (fun r'=>r'=Qan (Q9 c a)) c a s k v) ?_ ?_ [] false rfl (by unfold Q9;rw [if_pos (by simp [hp])];simp)
 ·intro v s hv he
  refine QjQ (fun r'=>r'=Qan (Q9 c a)) c a _ _ _ ⟨fun h=>by simp at h,fun _=>R_eq ?_⟩
  rw [← he];simp [v1]
 ·intro k x r hk hlt hg ih v s hv he
  refine QjQ (fun r'=>r'=Qan (Q9 c a)) c a _ _ _ ⟨fun _=>?_,fun h=>by simp [hp] at h;omega⟩
  rw [Int.toNat_natCast,hg,sc1 (by omega),Zu]
  refine ⟨⟨by omega,hlt⟩,room (by omega),ih _ _ (Yv hv) ?_⟩
  rw [← he,v1]
  simp [Bool.or_assoc]
theorem QAn:Qe Tryz.prog Qg4:=Qk fun x _=>QBX x.1 x.2.1
def QaO (t:Int × Bool):TRes:=zre (.tp [(zci t.1),(zcb t.2)])
def Qe8:TRow:=Qg 188 [(.c (.sl [TI])),(.c (.sl [TI]))] fun x=>(none,QaO (QJ x.1 x.2.1))
def Qdp:TTab:=⟨[Qci,Qdx,QcJ],false⟩
def Qss:TCode :=
 (zsq [(.reg [zbi 20 .lss 19 18]),(.cond 20 .skip (.exit 0)),(.block 1 (zsq [(.reg [zmv 21 19,zmv 8 21]),(.draw [zmv 23 0,zmv 24 8,zia 25 23 24 [TI],zld 26 25 1,zmv 27 1,zmv 28 8,zia 29 27 28 [TI],zld 30 29 1,zca 31 239 [26,30],zmv 22 31,zex 32 22 0,zex 33 22 1,zmv 9 32,zmv 10 33] []),(.reg [zmv 35 6,zmv 36 9,zca 37 106 [35,36],zmv 34 37,zex 38 34 0,zex 39 34 1,zmv 11 38,zmv 12 39]),(.reg [zmv 40 11,zmv 6 40]),(.reg [zmv 41 7,zmv 42 41,.grp 42 false [zmv 43 10] 44 43,zmv 45 44,.grp 45 false [zmv 46 12] 47 46,zmv 7 47])])),(.reg [zbi 48 .add 19 (zki 1),zmv 19 48])])
def QtE:List (Nat × Md):=zdl [0,1,6,7,18,19]
def Qt3:TCode :=
 (zsq [(.reg [zmv 49 6,zmv 50 7,zmv 4 49,zmv 5 50]),.ret])
def QEZ:TCode :=
 (zsq [(.reg [zmv 4 (zki 0),zmv 5 (zkb false)]),(zsq [(.reg [zmv 13 0,zmv 14 1,zca 15 195 [13,14],zno 16 15]),(.cond 16 (zsq [(.reg [zmv 4 (zki 0),zmv 5 (zkb false)]),.ret]) .skip)]),(.reg [zmv 6 (zki 0)]),(.reg [zmv 7 (zkb false)]),(zsq [(.reg [zmv 17 0,zle 18 17,zmv 19 (zki 0)]),(.block 0 (.loop QtE Qss))]),Qt3])
def Qto:List (ARv × Md):=[(.t 4,.one .d),(.t 5,.one .d)]
def Qsb:Qb:=TQ 0 0 Qto K
def QuP:Qb:=Qseq (tawp Qdp 0 Qt3 (Qsb K)) (Qsb K)
def Qzk:Qb:=Qblk 0 (QuP K)
def Qd3 (a:List Int) (b:List Int) (sum:Int) (out:Bool) (x:Int):Prop:=Loop Qdp 0 QtE Qss (Qzk K) ⟨[(0,(zcs [TI] a)),(1,(zcs [TI] b)),(6,(zci sum)),(7,(zcb out)),(18,(zci (a.length:Int))),(19,(zci x))],[],0⟩
theorem QkB (a:List Int) (b:List Int) (sum:Int) (out:Bool) (x:Int) (h :
 (zif (decide (x<(a.length:Int))) ((((0:Int)≤x∧Int.toNat x<a.length)∧((0:Int)≤x∧Int.toNat x<b.length))∧(Qd3 K a b ((Q3 sum ((Za (gtd (0:Int) a (Int.toNat x)) (gtd (0:Int) b (Int.toNat x))).1)).1) ((out||((Za (gtd (0:Int) a (Int.toNat x)) (gtd (0:Int) b (Int.toNat x))).2))||((Q3 sum ((Za (gtd (0:Int) a (Int.toNat x)) (gtd (0:Int) b (Int.toNat x))).1)).2)) (w64 (x+(1:Int))))) (K (QaO (sum,out))))):Qd3 K a b sum out x :=
 Loop.of (by kernel_rfl) h
theorem QCl (a:List Int) (b:List Int) (h :
 (zif (!(Zg a b)) (K (QaO ((0:Int),false))) (Qd3 K a b 0 false 0))):Hold (tawp Qdp (0+0) QEZ (TQ 0 0 Qto K) (Qd [(.c (.sl [TI]) a),(.c (.sl [TI]) b)])) :=
 Hold.of (by kernel_rfl) h
theorem Qy0 (a:List Int) (b:List Int):TCon Tryz.prog 188 [(.c (.sl [TI]) a),(.c (.sl [TI]) b)] (QaO (QJ a b)):=by
 refine Qi rfl fun hb=>tcg (Γ:=Qdp) (n:=51) (sg:=Qe8.sg) Qj (TOkL.cons QgM (TOkL.cons QnT (TOkL.cons Qil TOkL.nil))) (by kernel_rfl) (by kernel_rfl) (QCl _ a b ?_)
 have hl_a:a.length≤9223372036854775807:=hb.1.1
 have hl_b:b.length≤9223372036854775807:=hb.2.1.1
 refine ⟨fun h=>R_eq (by unfold QJ;rw [if_neg (by simpa using h)]),fun h=>?_⟩
 have hp:Zg a b=true:=by simpa using h
 have hl:=Qbz.1 hp
 have h6:=(Yw.1 hl.1).1
 refine Zh a (fun r k=>∀ (z:Int) (s:Bool),((ZD r (b.drop k) z).1,s||(ZD r (b.drop k) z).2)=(QJ a b)→Qd3 (fun r'=>r'=QaO (QJ a b)) a b z s k) ?_ ?_ 0 false (by unfold QJ;rw [if_pos hp];simp)
 ·intro z s he
  refine QkB (fun r'=>r'=QaO (QJ a b)) a b _ _ _ ⟨fun h=>by simp at h,fun _=>R_eq ?_⟩
  rw [← he];simp [ZD]
 ·intro k x r hk hlt hg ih z s he
  obtain ⟨y,q,hq⟩:=Qbc (l:=b) (k:=k) (by omega)
  refine QkB (fun r'=>r'=QaO (QJ a b)) a b _ _ _ ⟨fun _=>?_,fun h=>by simp at h;omega⟩
  rw [Int.toNat_natCast,hg,Yg hq,sc1 (by omega)]
  refine ⟨⟨⟨by omega,hlt⟩,by omega,by omega⟩,ih _ _ ?_⟩
  rw [← he,hq,ZD,Yp hq]
  simp [Bool.or_assoc]
theorem QpN:Qe Tryz.prog Qe8:=Qk fun x _=>Qy0 x.1 x.2.1
def QaH (t:Int × Bool):TRes:=zre (.tp [(zci t.1),(zcb t.2)])
def QfR:TRow:=Qg 184 [(.c (.sl [TI])),(.c (.sl [TI]))] fun x=>(none,QaH (QJ x.1 x.2.1))
def Qfq:TTab:=⟨[Qcu,Qfi,Qb2],false⟩
def QkR:TCode :=
 (zsq [(zsq [(.reg [zmv 13 8,zmv 14 0,zle 15 14,zbi 16 .lss 13 15,zmv 17 16,.grp 17 true [zmv 18 0,zmv 19 1,zca 20 191 [18,19]] 21 20]),(.cond 21 .skip (.exit 0))]),(.block 1 (zsq [(.draw [zmv 25 0,zmv 26 8,zia 27 25 26 [TI],zld 28 27 1,zmv 29 1,zmv 30 8,zia 31 29 30 [TI],zld 32 31 1,zca 33 237 [28,32],zmv 24 33,zex 34 24 0,zex 35 24 1,zmv 9 34,zmv 10 35] []),(.reg [zmv 37 6,zmv 38 9,zca 39 99 [37,38],zmv 36 39,zex 40 36 0,zex 41 36 1,zmv 11 40,zmv 12 41]),(.reg [zmv 42 11,zmv 6 42]),(.reg [zmv 43 7,zmv 44 43,.grp 44 false [zmv 45 10] 46 45,zmv 47 46,.grp 47 false [zmv 48 12] 49 48,zmv 7 49])])),(.reg [zmv 22 8,zbi 23 .add 22 (zki 1),zmv 8 23])])
def Qrd:List (Nat × Md):=zdl [0,1,6,7,8]
def Qrl:TCode :=
 (zsq [(.reg [zmv 50 6,zmv 51 7,zmv 4 50,zmv 5 51]),.ret])
def Qyu:TCode :=
 (zsq [(.reg [zmv 4 (zki 0),zmv 5 (zkb false)]),(.reg [zmv 6 (zki 0)]),(.reg [zmv 7 (zkb false)]),(zsq [(.reg [zmv 8 (zki 0)]),(.block 0 (.loop Qrd QkR))]),Qrl])
def QqK:List (ARv × Md):=[(.t 4,.one .d),(.t 5,.one .d)]
def Qq7:Qb:=TQ 0 0 QqK K
def Qw8:Qb:=Qseq (tawp Qfq 0 Qrl (Qq7 K)) (Qq7 K)
def QF8:Qb:=Qblk 0 (Qw8 K)
def Qdf (a:List Int) (b:List Int) (sum:Int) (sat:Bool) (i:Int):Prop:=Loop Qfq 0 Qrd QkR (QF8 K) ⟨[(0,(zcs [TI] a)),(1,(zcs [TI] b)),(6,(zci sum)),(7,(zcb sat)),(8,(zci i))],[],0⟩
theorem Qhx (a:List Int) (b:List Int) (sum:Int) (sat:Bool) (i:Int) (h :
 (zif ((decide (i<(a.length:Int)))&&(Zg a b)) ((((0:Int)≤i∧Int.toNat i<a.length)∧((0:Int)≤i∧Int.toNat i<b.length))∧(Qdf K a b ((Q3 sum ((Za (gtd (0:Int) a (Int.toNat i)) (gtd (0:Int) b (Int.toNat i))).1)).1) ((sat||((Za (gtd (0:Int) a (Int.toNat i)) (gtd (0:Int) b (Int.toNat i))).2))||((Q3 sum ((Za (gtd (0:Int) a (Int.toNat i)) (gtd (0:Int) b (Int.toNat i))).1)).2)) (w64 (i+(1:Int))))) (K (QaH (sum,sat))))):Qdf K a b sum sat i :=
 Loop.of (by kernel_rfl) h
theorem QyZ (a:List Int) (b:List Int) (h :
 (Qdf K a b 0 false 0)):Hold (tawp Qfq (0+0) Qyu (TQ 0 0 QqK K) (Qd [(.c (.sl [TI]) a),(.c (.sl [TI]) b)])) :=
 Hold.of (by kernel_rfl) h
theorem QFh (a:List Int) (b:List Int):TCon Tryz.prog 184 [(.c (.sl [TI]) a),(.c (.sl [TI]) b)] (QaH (QJ a b)):=by
 refine Qi rfl fun hb=>tcg (Γ:=Qfq) (n:=52) (sg:=QfR.sg) Qj (TOkL.cons Qht (TOkL.cons Qn0 (TOkL.cons Qgv TOkL.nil))) (by kernel_rfl) (by kernel_rfl) (QyZ _ a b ?_)
 have hl_a:a.length≤9223372036854775807:=hb.1.1
 have hl_b:b.length≤9223372036854775807:=hb.2.1.1
 by_cases hp:Zg a b=true
 rotate_left
 ·refine Qhx (fun r'=>r'=QaH (QJ a b)) a b _ _ _ ⟨fun h=>by simp [hp] at h,fun _=>R_eq (by unfold QJ;rw [if_neg hp])⟩
 have hl:=Qbz.1 hp
 have h6:=(Yw.1 hl.1).1
 refine Zh a (fun r k=>∀ (z:Int) (s:Bool),((ZD r (b.drop k) z).1,s||(ZD r (b.drop k) z).2)=(QJ a b)→Qdf (fun r'=>r'=QaH (QJ a b)) a b z s k) ?_ ?_ 0 false (by unfold QJ;rw [if_pos hp];simp)
 ·intro z s he
  refine Qhx (fun r'=>r'=QaH (QJ a b)) a b _ _ _ ⟨fun h=>by simp at h,fun _=>R_eq ?_⟩
  rw [← he];simp [ZD]
 ·intro k x r hk hlt hg ih z s he
  obtain ⟨y,q,hq⟩:=Qbc (l:=b) (k:=k) (by omega)
  refine Qhx (fun r'=>r'=QaH (QJ a b)) a b _ _ _ ⟨fun _=>?_,fun h=>by simp [hp] at h;omega⟩
  rw [Int.toNat_natCast,hg,Yg hq,sc1 (by omega)]
  refine ⟨⟨⟨by omega,hlt⟩,by omega,by omega⟩,ih _ _ ?_⟩
  rw [← he,hq,ZD,Yp hq]
  simp [Bool.or_assoc]
theorem Qp8:Qe Tryz.prog QfR:=Qk fun x _=>QFh x.1 x.2.1
def Qae (t:(List Int)):TRes:=⟨(.r [TI] 0 0 t.length),[(.sl 3 [TI] (.dp 0 true []) t)],[],false,[]⟩
def Qgz:TRow:=Qg 233 [(.c (.sl [TI]))] fun x=>(none,Qae (Ze x.1))
def QeJ:TTab:=⟨[QbC,Qhd],true⟩
def Qtp:TCode :=
 (zsq [(.reg [zbi 13 .lss 12 11]),(.cond 13 .skip (.exit 0)),(.block 1 (zsq [(.reg [zia 14 10 12 [TI],zld 15 14 1,zmv 5 15]),(.reg [zmv 16 3,zmv 17 5,zca 18 259 [17],zop 19 (.bsl 3 [TI] [18]),zop 20 (.app 16 19 3 [TI]),zmv 3 20])])),(.reg [zbi 21 .add 12 (zki 1),zmv 12 21])])
def QrW:List (Nat × Md):=[(3,.one .f),(10,.one .d),(11,.one .d),(12,.one .d)]
def QqT:TCode :=
 (zsq [(.reg [zmv 22 3,zmv 2 22]),.ret])
def QxZ:TCode :=
 (zsq [(.reg [zmv 2 (.k (.n [TI]))]),(zsq [(.reg [zmv 6 0,zca 7 187 [6],zno 8 7]),(.cond 8 (zsq [(.reg [zmv 2 (.k (.n [TI]))]),.ret]) .skip)]),(.reg [zop 9 (.bsl 3 [TI] []),zmv 3 9]),(zsq [(.reg [zmv 10 0,zle 11 10,zmv 12 (zki 0)]),(.block 0 (.loop QrW Qtp))]),QqT])
def Qrn:List (ARv × Md):=[(.t 2,.one (.p 3))]
def QmU:Qb:=TQ 0 0 Qrn K
def Qw5:Qb:=Qseq (tawp QeJ 0 QqT (QmU K)) (QmU K)
def QG4:Qb:=Qblk 0 (Qw5 K)
def Qfr (a:List Int) (x:Int) (v:List Int):Prop:=Loop QeJ 0 QrW Qtp (QG4 K) ⟨[(3,(.r [TI] 0 0 v.length)),(10,(zcs [TI] a)),(11,(zci (a.length:Int))),(12,(zci x))],[(0,(.sl 3 [TI] (.dp 0 true []) v))],1⟩
theorem QkN (a:List Int) (x:Int) (v:List Int) (h :
 (zif (decide (x<(a.length:Int))) (((0:Int)≤x∧Int.toNat x<a.length)∧(((v.length=v.length∨v.length+1≤v.length)∧v.length+1≤big)∧(Qfr K a (w64 (x+(1:Int))) (List.take (v.length+1) ((List.take v.length v)++([(Jj (gtd (0:Int) a (Int.toNat x)))])))))) (K (Qae (List.take v.length v))))):Qfr K a x v :=
 Loop.of (by kernel_rfl) h
theorem QC0 (a:List Int) (h :
 (zif (!(QD a)) (K (Qae ([]:List Int))) (Qfr K a 0 ([]:List Int)))):Hold (tawp QeJ (0+0) QxZ (TQ 0 0 Qrn K) (Qd [(.c (.sl [TI]) a)])) :=
 Hold.of (by kernel_rfl) h
theorem QBn (a:List Int):TCon Tryz.prog 233 [(.c (.sl [TI]) a)] (Qae (Ze a)):=by
 refine Qi rfl fun hb=>tcg (Γ:=QeJ) (n:=23) (sg:=Qgz.sg) Qj (TOkL.cons QdR (TOkL.cons QAe TOkL.nil)) (by kernel_rfl) (by kernel_rfl) (QC0 _ a ?_)
 have hl_a:a.length≤9223372036854775807:=hb.1.1
 refine ⟨fun h=>R_eq (by unfold Ze;rw [if_neg (by simpa using h)]),fun h=>?_⟩
 have hp:QD a=true:=by simpa using h
 have h6:=(Yw.1 hp).1
 refine Zh a (fun r k=>∀ (v:List Int),v.length=k→v++r.map Jj=(Ze a)→Qfr (fun r'=>r'=Qae (Ze a)) a k v) ?_ ?_ [] rfl (by unfold Ze;rw [if_pos hp];simp)
 ·intro v hv he
  refine QkN (fun r'=>r'=Qae (Ze a)) a _ _ ⟨fun h=>by simp at h,fun _=>R_eq ?_⟩
  rw [← he];simp
 ·intro k x r hk hlt hg ih v hv he
  refine QkN (fun r'=>r'=Qae (Ze a)) a _ _ ⟨fun _=>?_,fun h=>by simp at h;omega⟩
  rw [Int.toNat_natCast,hg,sc1 (by omega),Zu]
  refine ⟨⟨by omega,hlt⟩,room (by omega),ih _ (Yv hv) ?_⟩
  rw [← he];simp
theorem Qy5:Qe Tryz.prog Qgz:=Qk fun x _=>QBn x.1
def QaJ (t:(List Int)):TRes:=zra (zcs [TI] t)
def Qkc:TRow:=Qg 226 [(.c (.sl [TI]))] fun x=>(none,QaJ (Ze x.1))
def Qdw:TTab:=⟨[YQ,Qiy],false⟩
def Qmq:TCode :=
 (zsq [(zsq [(.reg [zmv 6 4,zmv 7 0,zle 8 7,zbi 9 .lss 6 8,zmv 10 9,.grp 10 true [zmv 11 0,zca 12 97 [11]] 13 12]),(.cond 13 .skip (.exit 0))]),(.block 1 (.reg [zmv 16 3,zmv 17 0,zmv 18 4,zia 19 17 18 [TI],zld 20 19 1,zca 21 256 [20],zop 22 (.bsl 3 [TI] [21]),zop 23 (.app 16 22 3 [TI]),zmv 3 23])),(.reg [zmv 14 4,zbi 15 .add 14 (zki 1),zmv 4 15])])
def QmL:List (Nat × Md):=[(0,.one .d),(3,.one .f),(4,.one .d)]
def QqM:TCode :=
 (zsq [(.reg [zmv 24 3,zmv 2 24]),.ret])
def QD8:TCode :=
 (zsq [(.reg [zmv 2 (.k (.n [TI]))]),(.reg [zop 5 (.bsl 3 [TI] []),zmv 3 5]),(zsq [(.reg [zmv 4 (zki 0)]),(.block 0 (.loop QmL Qmq))]),QqM])
def Qk9:List (ARv × Md):=[(.t 2,.one .d)]
def Qmg:Qb:=TQ 0 0 Qk9 K
def QzV:Qb:=Qseq (tawp Qdw 0 QqM (Qmg K)) (Qmg K)
def QDL:Qb:=Qblk 0 (QzV K)
def Qez (a:List Int) (i:Int) (out:List Int):Prop:=Loop Qdw 0 QmL Qmq (QDL K) ⟨[(0,(zcs [TI] a)),(3,(.r [TI] 0 0 out.length)),(4,(zci i))],[(0,(.sl 3 [TI] .ow out))],1⟩
theorem QgA (a:List Int) (i:Int) (out:List Int) (h :
 (zif ((decide (i<(a.length:Int)))&&(QD a)) ((((0:Int)≤i∧Int.toNat i<a.length)∧((out.length=out.length∨out.length+1≤out.length)∧out.length+1≤big))∧(Qez K a (w64 (i+(1:Int))) (List.take (out.length+1) ((List.take out.length out)++([(Jj (gtd (0:Int) a (Int.toNat i)))]))))) (K (QaJ (List.take out.length (List.drop 0 out)))))):Qez K a i out :=
 Loop.of (by kernel_rfl) h
theorem Qwi (a:List Int) (h :
 (Qez K a 0 ([]:List Int))):Hold (tawp Qdw (0+0) QD8 (TQ 0 0 Qk9 K) (Qd [(.c (.sl [TI]) a)])) :=
 Hold.of (by kernel_rfl) h
theorem Qwo (a:List Int):TCon Tryz.prog 226 [(.c (.sl [TI]) a)] (QaJ (Ze a)):=by
 refine Qi rfl fun hb=>tcg (Γ:=Qdw) (n:=25) (sg:=Qkc.sg) Qj (TOkL.cons JI (TOkL.cons Qwg TOkL.nil)) (by kernel_rfl) (by kernel_rfl) (Qwi _ a ?_)
 have hl_a:a.length≤9223372036854775807:=hb.1.1
 by_cases hp:QD a=true
 rotate_left
 ·refine QgA (fun r'=>r'=QaJ (Ze a)) a _ _ ⟨fun h=>by simp [hp] at h,fun _=>R_eq (by unfold Ze;rw [if_neg hp];rfl)⟩
 have h6:=(Yw.1 hp).1
 refine Zh a (fun r k=>∀ (v:List Int),v.length=k→v++r.map Jj=(Ze a)→Qez (fun r'=>r'=QaJ (Ze a)) a k v) ?_ ?_ [] rfl (by unfold Ze;rw [if_pos hp];simp)
 ·intro v hv he
  refine QgA (fun r'=>r'=QaJ (Ze a)) a _ _ ⟨fun h=>by simp at h,fun _=>R_eq ?_⟩
  rw [← he];simp
 ·intro k x r hk hlt hg ih v hv he
  refine QgA (fun r'=>r'=QaJ (Ze a)) a _ _ ⟨fun _=>?_,fun h=>by simp [hp] at h;omega⟩
  rw [Int.toNat_natCast,hg,sc1 (by omega),Zu]
  refine ⟨⟨⟨by omega,hlt⟩,room (by omega)⟩,ih _ (Yv hv) ?_⟩
  rw [← he];simp
theorem QD2:Qe Tryz.prog Qkc:=Qk fun x _=>Qwo x.1
end
end Go.Proofs.YtdplaepmjogjjaaGreat.Am

