/- -/
import Derived.Test.YtdplaepmjogjjaaGreatVAP1
import Derived.Test.YtdplaepmjogjjaaGreatVAPF
namespace Go.Proofs.YtdplaepmjogjjaaGreat.Am
open Go Go.RowKit Go.Proofs.YtdplaepmjogjjaaGreat
set_option linter.all false
noncomputable section
variable (K:TRes→Prop)
def Qhx (t:Bool):TRes:=zre (zcb t)
def QdZ:TRow:=Qh 195 [(.c (.sl [TI])),(.c (.sl [TI]))] fun x=>(none,Qhx (Zp x.1 x.2.1))
def Qmg:TTab:=⟨[Qbi,JN],false⟩
def QAe:TCode :=
 (zsq [(.reg [zmv 4 (zkb false)]),(.reg [zmv 5 0,zca 6 187 [5],zmv 7 6,.grp 7 true [zmv 8 1,zmv 9 0,zle 10 9,zca 11 100 [8,10]] 12 11,zmv 4 12]),.ret])
def Qxv:List (ARv × Md):=[(.t 4,.one .d)]
theorem QDk (a:List Int) (b:List Int) (h :
 K (Qhx ((QE a)&&(Qx b (a.length:Int))))):Hold (tawp Qmg (0+0) QAe (TQ 0 0 Qxv K) (Qf [(.c (.sl [TI]) a),(.c (.sl [TI]) b)])) :=
 Hold.of (by kernel_rfl) h
theorem Qy9 (a:List Int) (b:List Int):TCon Tryz.prog 195 [(.c (.sl [TI]) a),(.c (.sl [TI]) b)] (Qhx (Zp a b)):=by
 refine Qj rfl fun hb=>tcg (Γ:=Qmg) (n:=13) (sg:=QdZ.sg) Qi (TOkL.cons Qeo (TOkL.cons QaX TOkL.nil)) (by kernel_rfl) (by kernel_rfl) (QDk _ a b ?_)
 have hl_a:a.length≤9223372036854775807:=hb.1.1
 have hl_b:b.length≤9223372036854775807:=hb.2.1.1
 exact R_eq rfl
theorem Qqy:Qg Tryz.prog QdZ:=Qk fun x _=>Qy9 x.1 x.2.1
def Qgf (t:Bool):TRes:=zre (zcb t)
def QfA:TRow:=Qh 191 [(.c (.sl [TI])),(.c (.sl [TI]))] fun x=>(none,Qgf (Zp x.1 x.2.1))
def QnF:TTab:=⟨[YW],false⟩
def QCR:TCode :=
 (zsq [(.reg [zmv 4 (zkb false)]),(.reg [zmv 5 0,zca 6 97 [5],zmv 7 6,.grp 7 true [zmv 8 1,zca 9 97 [8]] 10 9,zmv 11 10,.grp 11 true [zmv 12 0,zle 13 12,zmv 14 1,zle 15 14,zbi 16 .eql 13 15] 17 16,zmv 4 17]),.ret])
def Qvt:List (ARv × Md):=[(.t 4,.one .d)]
theorem Qvs (a:List Int) (b:List Int) (h :
 K (Qgf (((QE a)&&(QE b))&&((a.length:Int)==(b.length:Int))))):Hold (tawp QnF (0+0) QCR (TQ 0 0 Qvt K) (Qf [(.c (.sl [TI]) a),(.c (.sl [TI]) b)])) :=
 Hold.of (by kernel_rfl) h
theorem Qu2 (a:List Int) (b:List Int):TCon Tryz.prog 191 [(.c (.sl [TI]) a),(.c (.sl [TI]) b)] (Qgf (Zp a b)):=by
 refine Qj rfl fun hb=>tcg (Γ:=QnF) (n:=18) (sg:=QfA.sg) Qi (TOkL.cons Qar TOkL.nil) (by kernel_rfl) (by kernel_rfl) (Qvs _ a b ?_)
 have hl_a:a.length≤9223372036854775807:=hb.1.1
 have hl_b:b.length≤9223372036854775807:=hb.2.1.1
 refine R_eq ?_
 rw [Bool.eq_iff_iff]
 unfold Zp Qx
 simp only [Bool.and_eq_true,beq_iff_eq]
 constructor
 ·rintro ⟨⟨h1,h2⟩,h3⟩;exact ⟨h1,h2,by omega⟩
 ·rintro ⟨h1,h2,h3⟩;exact ⟨⟨h1,h2⟩,by omega⟩
theorem QqR:Qg Tryz.prog QfA:=Qk fun x _=>Qu2 x.1 x.2.1
def J7 (t:(List Int) × Bool):TRes:=⟨(.tp [(.r [TI] 0 0 ((t.1).length)),(zcb t.2)]),[(.sl 3 [TI] (.dp 0 true []) t.1)],[],false,[]⟩
def Qhc:TRow:=Qh 231 [(.c (.sl [TI])),(.c (.sl [TI]))] fun x=>(none,J7 (QH x.1 x.2.1))
def Qd0:TTab:=⟨[QdZ,QfB],true⟩
def QoZ:TCode :=
 (zsq [(.reg [zbi 19 .lss 18 17]),(.cond 19 .skip (.exit 0)),(.block 1 (zsq [(.reg [zmv 20 18,zmv 8 20]),(.draw [zmv 22 0,zmv 23 8,zia 24 22 23 [TI],zld 25 24 1,zmv 26 1,zmv 27 8,zia 28 26 27 [TI],zld 29 28 1,zca 30 106 [25,29],zmv 21 30,zex 31 21 0,zex 32 21 1,zmv 9 31,zmv 10 32] []),(.reg [zmv 33 6,zmv 34 9,zop 35 (.bsl 3 [TI] [34]),zop 36 (.app 33 35 3 [TI]),zmv 6 36]),(.reg [zmv 37 7,zmv 38 37,.grp 38 false [zmv 39 10] 40 39,zmv 7 40])])),(.reg [zbi 41 .add 18 (zki 1),zmv 18 41])])
def Ql3:List (Nat × Md):=[(0,.one .d),(1,.one .d),(6,.one .f),(7,.one .d),(17,.one .d),(18,.one .d)]
def Qp5:TCode :=
 (zsq [(.reg [zmv 42 6,zmv 43 7,zmv 4 42,zmv 5 43]),.ret])
def QD3:TCode :=
 (zsq [(.reg [zmv 4 (.k (.n [TI])),zmv 5 (zkb false)]),(zsq [(.reg [zmv 11 0,zmv 12 1,zca 13 195 [11,12],zno 14 13]),(.cond 14 (zsq [(.reg [zmv 4 (.k (.n [TI])),zmv 5 (zkb false)]),.ret]) .skip)]),(.reg [zop 15 (.bsl 3 [TI] []),zmv 6 15]),(.reg [zmv 7 (zkb false)]),(zsq [(.reg [zmv 16 0,zle 17 16,zmv 18 (zki 0)]),(.block 0 (.loop Ql3 QoZ))]),Qp5])
def Qkh:List (ARv × Md):=[(.t 4,.one (.p 3)),(.t 5,.one .d)]
def Qs8:Qb:=TQ 0 0 Qkh K
def QBU:Qb:=Qseq (tawp Qd0 0 Qp5 (Qs8 K)) (Qs8 K)
def QF5:Qb:=Qblk 0 (QBU K)
def Qd7 (a:List Int) (b:List Int) (out:Bool) (x:Int) (v:List Int):Prop:=Loop Qd0 0 Ql3 QoZ (QF5 K) ⟨[(0,(zcs [TI] a)),(1,(zcs [TI] b)),(6,(.r [TI] 0 0 v.length)),(7,(zcb out)),(17,(zci (a.length:Int))),(18,(zci x))],[(0,(.sl 3 [TI] (.dp 0 true []) v))],1⟩
theorem QlI (a:List Int) (b:List Int) (out:Bool) (x:Int) (v:List Int) (h :
 (zif (decide (x<(a.length:Int))) ((((0:Int)≤x∧Int.toNat x<a.length)∧((0:Int)≤x∧Int.toNat x<b.length))∧(((v.length=v.length∨v.length+1≤v.length)∧v.length+1≤big)∧(Qd7 K a b (out||((Q7 (gtd (0:Int) a (Int.toNat x)) (gtd (0:Int) b (Int.toNat x))).2)) (w64 (x+(1:Int))) (List.take (v.length+1) ((List.take v.length v)++([(Q7 (gtd (0:Int) a (Int.toNat x)) (gtd (0:Int) b (Int.toNat x))).1])))))) (K (J7 ((List.take v.length v),out))))):Qd7 K a b out x v :=
 Loop.of (by kernel_rfl) h
theorem QxC (a:List Int) (b:List Int) (h :
 (zif (!(Zp a b)) (K (J7 (([]:List Int),false))) (Qd7 K a b false 0 ([]:List Int)))):Hold (tawp Qd0 (0+0) QD3 (TQ 0 0 Qkh K) (Qf [(.c (.sl [TI]) a),(.c (.sl [TI]) b)])) :=
 Hold.of (by kernel_rfl) h
theorem QCp (a:List Int) (b:List Int):TCon Tryz.prog 231 [(.c (.sl [TI]) a),(.c (.sl [TI]) b)] (J7 (QH a b)):=by
 refine Qj rfl fun hb=>tcg (Γ:=Qd0) (n:=44) (sg:=Qhc.sg) Qi (TOkL.cons Qqy (TOkL.cons QmE TOkL.nil)) (by kernel_rfl) (by kernel_rfl) (QxC _ a b ?_)
 have hl_a:a.length≤9223372036854775807:=hb.1.1
 have hl_b:b.length≤9223372036854775807:=hb.2.1.1
 refine ⟨fun h=>R_eq (by unfold QH;rw [if_neg (by simpa using h)]),fun h=>?_⟩
 have hp:Zp a b=true:=by simpa using h
 have hl:=QeP.1 hp
 have h6:=(Jd.1 hl.1).1
 refine Zj a (fun r k=>∀ (v:List Int) (s:Bool),v.length=k→(v++(vz Q7 r (b.drop k)).1,s||(vz Q7 r (b.drop k)).2)=(QH a b)→Qd7 (fun r'=>r'=J7 (QH a b)) a b s k v) ?_ ?_ [] false rfl (by unfold QH;rw [if_pos hp];simp)
 ·intro v s hv he
  refine QlI (fun r'=>r'=J7 (QH a b)) a b _ _ _ ⟨fun h=>by simp at h,fun _=>R_eq ?_⟩
  rw [← he];simp [vz]
 ·intro k x r hk hlt hg ih v s hv he
  obtain ⟨y,q,hq⟩:=QdV (l:=b) (k:=k) (by omega)
  refine QlI (fun r'=>r'=J7 (QH a b)) a b _ _ _ ⟨fun _=>?_,fun h=>by simp at h;omega⟩
  rw [Int.toNat_natCast,hg,YF hq,sc1 (by omega),ZI]
  refine ⟨⟨⟨by omega,hlt⟩,by omega,by omega⟩,room (by omega),ih _ _ (Y8 hv) ?_⟩
  rw [← he,hq,vz,YE hq]
  simp [Bool.or_assoc]
theorem Que:Qg Tryz.prog Qhc:=Qk fun x _=>QCp x.1 x.2.1
def Qaa (t:(List Int) × Bool):TRes:=zra (.tp [(zcs [TI] t.1),(zcb t.2)])
def Qi6:TRow:=Qh 225 [(.c (.sl [TI])),(.c (.sl [TI]))] fun x=>(none,Qaa (QH x.1 x.2.1))
def Qea:TTab:=⟨[QfA,Qd1],false⟩
def Qsu:TCode :=
 (zsq [(zsq [(.reg [zmv 12 8,zmv 13 0,zle 14 13,zbi 15 .lss 12 14,zmv 16 15,.grp 16 true [zmv 17 0,zmv 18 1,zca 19 191 [17,18]] 20 19]),(.cond 20 .skip (.exit 0))]),(.block 1 (zsq [(.draw [zmv 24 0,zmv 25 8,zia 26 24 25 [TI],zld 27 26 1,zmv 28 1,zmv 29 8,zia 30 28 29 [TI],zld 31 30 1,zca 32 99 [27,31],zmv 23 32,zex 33 23 0,zex 34 23 1,zmv 9 33,zmv 10 34] []),(.reg [zmv 35 6,zmv 36 9,zop 37 (.bsl 3 [TI] [36]),zop 38 (.app 35 37 3 [TI]),zmv 6 38]),(.reg [zmv 39 7,zmv 40 39,.grp 40 false [zmv 41 10] 42 41,zmv 7 42])])),(.reg [zmv 21 8,zbi 22 .add 21 (zki 1),zmv 8 22])])
def Qof:List (Nat × Md):=[(0,.one .d),(1,.one .d),(6,.one .f),(7,.one .d),(8,.one .d)]
def QlT:TCode :=
 (zsq [(.reg [zmv 43 6,zmv 44 7,zmv 4 43,zmv 5 44]),.ret])
def QvE:TCode :=
 (zsq [(.reg [zmv 4 (.k (.n [TI])),zmv 5 (zkb false)]),(.reg [zop 11 (.bsl 3 [TI] []),zmv 6 11]),(.reg [zmv 7 (zkb false)]),(zsq [(.reg [zmv 8 (zki 0)]),(.block 0 (.loop Qof Qsu))]),QlT])
def Qsr:List (ARv × Md):=[(.t 4,.one .d),(.t 5,.one .d)]
def Qsf:Qb:=TQ 0 0 Qsr K
def QwJ:Qb:=Qseq (tawp Qea 0 QlT (Qsf K)) (Qsf K)
def Qyc:Qb:=Qblk 0 (QwJ K)
def Qd8 (a:List Int) (b:List Int) (sat:Bool) (i:Int) (out:List Int):Prop:=Loop Qea 0 Qof Qsu (Qyc K) ⟨[(0,(zcs [TI] a)),(1,(zcs [TI] b)),(6,(.r [TI] 0 0 out.length)),(7,(zcb sat)),(8,(zci i))],[(0,(.sl 3 [TI] .ow out))],1⟩
theorem Qi4 (a:List Int) (b:List Int) (sat:Bool) (i:Int) (out:List Int) (h :
 (zif ((decide (i<(a.length:Int)))&&(Zp a b)) ((((0:Int)≤i∧Int.toNat i<a.length)∧((0:Int)≤i∧Int.toNat i<b.length))∧(((out.length=out.length∨out.length+1≤out.length)∧out.length+1≤big)∧(Qd8 K a b (sat||((Q7 (gtd (0:Int) a (Int.toNat i)) (gtd (0:Int) b (Int.toNat i))).2)) (w64 (i+(1:Int))) (List.take (out.length+1) ((List.take out.length out)++([(Q7 (gtd (0:Int) a (Int.toNat i)) (gtd (0:Int) b (Int.toNat i))).1])))))) (K (Qaa ((List.take out.length (List.drop 0 out)),sat))))):Qd8 K a b sat i out :=
 Loop.of (by kernel_rfl) h
theorem Qvp (a:List Int) (b:List Int) (h :
 (Qd8 K a b false 0 ([]:List Int))):Hold (tawp Qea (0+0) QvE (TQ 0 0 Qsr K) (Qf [(.c (.sl [TI]) a),(.c (.sl [TI]) b)])) :=
 Hold.of (by kernel_rfl) h
theorem QCy (a:List Int) (b:List Int):TCon Tryz.prog 225 [(.c (.sl [TI]) a),(.c (.sl [TI]) b)] (Qaa (QH a b)):=by
 refine Qj rfl fun hb=>tcg (Γ:=Qea) (n:=45) (sg:=Qi6.sg) Qi (TOkL.cons QqR (TOkL.cons QjT TOkL.nil)) (by kernel_rfl) (by kernel_rfl) (Qvp _ a b ?_)
 have hl_a:a.length≤9223372036854775807:=hb.1.1
 have hl_b:b.length≤9223372036854775807:=hb.2.1.1
 by_cases hp:Zp a b=true
 rotate_left
 ·refine Qi4 (fun r'=>r'=Qaa (QH a b)) a b _ _ _ ⟨fun h=>by simp [hp] at h,fun _=>R_eq (by unfold QH;rw [if_neg hp];rfl)⟩
 have hl:=QeP.1 hp
 have h6:=(Jd.1 hl.1).1
 refine Zj a (fun r k=>∀ (v:List Int) (s:Bool),v.length=k→(v++(vz Q7 r (b.drop k)).1,s||(vz Q7 r (b.drop k)).2)=(QH a b)→Qd8 (fun r'=>r'=Qaa (QH a b)) a b s k v) ?_ ?_ [] false rfl (by unfold QH;rw [if_pos hp];simp)
 ·intro v s hv he
  refine Qi4 (fun r'=>r'=Qaa (QH a b)) a b _ _ _ ⟨fun h=>by simp at h,fun _=>R_eq ?_⟩
  rw [← he];simp [vz]
 ·intro k x r hk hlt hg ih v s hv he
  obtain ⟨y,q,hq⟩:=QdV (l:=b) (k:=k) (by omega)
  refine Qi4 (fun r'=>r'=Qaa (QH a b)) a b _ _ _ ⟨fun _=>?_,fun h=>by simp [hp] at h;omega⟩
  rw [Int.toNat_natCast,hg,YF hq,sc1 (by omega),ZI]
  refine ⟨⟨⟨by omega,hlt⟩,by omega,by omega⟩,room (by omega),ih _ _ (Y8 hv) ?_⟩
  rw [← he,hq,vz,YE hq]
  simp [Bool.or_assoc]
theorem QEC:Qg Tryz.prog Qi6:=Qk fun x _=>QCy x.1 x.2.1
def Qai (t:(List Int) × Bool):TRes:=⟨(.tp [(.r [TI] 0 0 ((t.1).length)),(zcb t.2)]),[(.sl 3 [TI] (.dp 0 true []) t.1)],[],false,[]⟩
def Qjn:TRow:=Qh 232 [(.c TI),(.c (.sl [TI]))] fun x=>(none,Qai (QV x.1 x.2.1))
def QdP:TTab:=⟨[Qbr,Qbi,QdG],true⟩
def Qra:TCode :=
 (zsq [(.reg [zbi 23 .lss 22 21]),(.cond 23 .skip (.exit 0)),(.block 1 (zsq [(.reg [zmv 24 22,zmv 8 24]),(.reg [zmv 26 0,zmv 27 1,zmv 28 8,zia 29 27 28 [TI],zld 30 29 1,zca 31 239 [26,30],zmv 25 31,zex 32 25 0,zex 33 25 1,zmv 9 32,zmv 10 33]),(.reg [zmv 34 6,zmv 35 9,zop 36 (.bsl 3 [TI] [35]),zop 37 (.app 34 36 3 [TI]),zmv 6 37]),(.reg [zmv 38 7,zmv 39 38,.grp 39 false [zmv 40 10] 41 40,zmv 7 41])])),(.reg [zbi 42 .add 22 (zki 1),zmv 22 42])])
def QkC:List (Nat × Md):=[(0,.one .d),(1,.one .d),(6,.one .f),(7,.one .d),(21,.one .d),(22,.one .d)]
def Qsv:TCode :=
 (zsq [(.reg [zmv 43 6,zmv 44 7,zmv 4 43,zmv 5 44]),.ret])
def QEt:TCode :=
 (zsq [(.reg [zmv 4 (.k (.n [TI])),zmv 5 (zkb false)]),(zsq [(.reg [zmv 11 0,zca 12 240 [11],zno 13 12,zmv 14 13,.grp 14 false [zmv 15 1,zca 16 187 [15],zno 17 16] 18 17]),(.cond 18 (zsq [(.reg [zmv 4 (.k (.n [TI])),zmv 5 (zkb false)]),.ret]) .skip)]),(.reg [zop 19 (.bsl 3 [TI] []),zmv 6 19]),(.reg [zmv 7 (zkb false)]),(zsq [(.reg [zmv 20 1,zle 21 20,zmv 22 (zki 0)]),(.block 0 (.loop QkC Qra))]),Qsv])
def Qto:List (ARv × Md):=[(.t 4,.one (.p 3)),(.t 5,.one .d)]
def Qob:Qb:=TQ 0 0 Qto K
def QGP:Qb:=Qseq (tawp QdP 0 Qsv (Qob K)) (Qob K)
def QwX:Qb:=Qblk 0 (QGP K)
def Qfv (c:Int) (a:List Int) (out:Bool) (x:Int) (v:List Int):Prop:=Loop QdP 0 QkC Qra (QwX K) ⟨[(0,(zci c)),(1,(zcs [TI] a)),(6,(.r [TI] 0 0 v.length)),(7,(zcb out)),(21,(zci (a.length:Int))),(22,(zci x))],[(0,(.sl 3 [TI] (.dp 0 true []) v))],1⟩
theorem QqM (c:Int) (a:List Int) (out:Bool) (x:Int) (v:List Int) (h :
 (zif (decide (x<(a.length:Int))) (((0:Int)≤x∧Int.toNat x<a.length)∧(((v.length=v.length∨v.length+1≤v.length)∧v.length+1≤big)∧(Qfv K c a (out||((Q2 c (gtd (0:Int) a (Int.toNat x))).2)) (w64 (x+(1:Int))) (List.take (v.length+1) ((List.take v.length v)++([(Q2 c (gtd (0:Int) a (Int.toNat x))).1])))))) (K (Qai ((List.take v.length v),out))))):Qfv K c a out x v :=
 Loop.of (by kernel_rfl) h
theorem QuR (c:Int) (a:List Int) (h :
 (zif ((!(Q5 c))||(!(QE a))) (K (Qai (([]:List Int),false))) (Qfv K c a false 0 ([]:List Int)))):Hold (tawp QdP (0+0) QEt (TQ 0 0 Qto K) (Qf [(.c TI c),(.c (.sl [TI]) a)])) :=
 Hold.of (by kernel_rfl) h
theorem QB6 (c:Int) (a:List Int):TCon Tryz.prog 232 [(.c TI c),(.c (.sl [TI]) a)] (Qai (QV c a)):=by
 refine Qj rfl fun hb=>tcg (Γ:=QdP) (n:=45) (sg:=Qjn.sg) Qi (TOkL.cons Qje (TOkL.cons Qeo (TOkL.cons Qla TOkL.nil))) (by kernel_rfl) (by kernel_rfl) (QuR _ c a ?_)
 have hl_a:a.length≤9223372036854775807:=hb.2.1.1
 refine ⟨fun h=>R_eq (by unfold QV;rw [if_neg (by intro h2;simp at h2;simp [h2] at h)]),fun h=>?_⟩
 have hp:Q5 c=true∧QE a=true:=by simpa using h
 have h6:=(Jd.1 hp.2).1
 refine Zj a (fun r k=>∀ (v:List Int) (s:Bool),v.length=k→(v++(v1 (Q2 c) r).1,s||(v1 (Q2 c) r).2)=(QV c a)→Qfv (fun r'=>r'=Qai (QV c a)) c a s k v) ?_ ?_ [] false rfl (by unfold QV;rw [if_pos (by simp [hp])];simp)
 ·intro v s hv he
  refine QqM (fun r'=>r'=Qai (QV c a)) c a _ _ _ ⟨fun h=>by simp at h,fun _=>R_eq ?_⟩
  rw [← he];simp [v1]
 ·intro k x r hk hlt hg ih v s hv he
  refine QqM (fun r'=>r'=Qai (QV c a)) c a _ _ _ ⟨fun _=>?_,fun h=>by simp at h;omega⟩
  rw [Int.toNat_natCast,hg,sc1 (by omega),ZI]
  refine ⟨⟨by omega,hlt⟩,room (by omega),ih _ _ (Y8 hv) ?_⟩
  rw [← he,v1]
  simp [Bool.or_assoc]
theorem QA4:Qg Tryz.prog Qjn:=Qk fun x _=>QB6 x.1 x.2.1
def Qaq (t:(List Int) × Bool):TRes:=zra (.tp [(zcs [TI] t.1),(zcb t.2)])
def Qgx:TRow:=Qh 227 [(.c TI),(.c (.sl [TI]))] fun x=>(none,Qaq (QV x.1 x.2.1))
def QdW:TTab:=⟨[YW,Qa3,QdS],false⟩
def Qn1:TCode :=
 (zsq [(zsq [(.reg [zmv 12 8,zmv 13 1,zle 14 13,zbi 15 .lss 12 14,zmv 16 15,.grp 16 true [zmv 17 1,zca 18 97 [17]] 19 18,zmv 20 19,.grp 20 true [zmv 21 0,zca 22 183 [21]] 23 22]),(.cond 23 .skip (.exit 0))]),(.block 1 (zsq [(.reg [zmv 27 0,zmv 28 1,zmv 29 8,zia 30 28 29 [TI],zld 31 30 1,zca 32 237 [27,31],zmv 26 32,zex 33 26 0,zex 34 26 1,zmv 9 33,zmv 10 34]),(.reg [zmv 35 6,zmv 36 9,zop 37 (.bsl 3 [TI] [36]),zop 38 (.app 35 37 3 [TI]),zmv 6 38]),(.reg [zmv 39 7,zmv 40 39,.grp 40 false [zmv 41 10] 42 41,zmv 7 42])])),(.reg [zmv 24 8,zbi 25 .add 24 (zki 1),zmv 8 25])])
def QmH:List (Nat × Md):=[(0,.one .d),(1,.one .d),(6,.one .f),(7,.one .d),(8,.one .d)]
def Qkj:TCode :=
 (zsq [(.reg [zmv 43 6,zmv 44 7,zmv 4 43,zmv 5 44]),.ret])
def Qxc:TCode :=
 (zsq [(.reg [zmv 4 (.k (.n [TI])),zmv 5 (zkb false)]),(.reg [zop 11 (.bsl 3 [TI] []),zmv 6 11]),(.reg [zmv 7 (zkb false)]),(zsq [(.reg [zmv 8 (zki 0)]),(.block 0 (.loop QmH Qn1))]),Qkj])
def QjN:List (ARv × Md):=[(.t 4,.one .d),(.t 5,.one .d)]
def QpN:Qb:=TQ 0 0 QjN K
def QAZ:Qb:=Qseq (tawp QdW 0 Qkj (QpN K)) (QpN K)
def QGK:Qb:=Qblk 0 (QAZ K)
def Qdm (c:Int) (a:List Int) (sat:Bool) (i:Int) (out:List Int):Prop:=Loop QdW 0 QmH Qn1 (QGK K) ⟨[(0,(zci c)),(1,(zcs [TI] a)),(6,(.r [TI] 0 0 out.length)),(7,(zcb sat)),(8,(zci i))],[(0,(.sl 3 [TI] .ow out))],1⟩
theorem QjJ (c:Int) (a:List Int) (sat:Bool) (i:Int) (out:List Int) (h :
 (zif (((decide (i<(a.length:Int)))&&(QE a))&&(Q5 c)) (((0:Int)≤i∧Int.toNat i<a.length)∧(((out.length=out.length∨out.length+1≤out.length)∧out.length+1≤big)∧(Qdm K c a (sat||((Q2 c (gtd (0:Int) a (Int.toNat i))).2)) (w64 (i+(1:Int))) (List.take (out.length+1) ((List.take out.length out)++([(Q2 c (gtd (0:Int) a (Int.toNat i))).1])))))) (K (Qaq ((List.take out.length (List.drop 0 out)),sat))))):Qdm K c a sat i out :=
 Loop.of (by kernel_rfl) h
theorem QwO (c:Int) (a:List Int) (h :
 (Qdm K c a false 0 ([]:List Int))):Hold (tawp QdW (0+0) Qxc (TQ 0 0 QjN K) (Qf [(.c TI c),(.c (.sl [TI]) a)])) :=
 Hold.of (by kernel_rfl) h
theorem QxP (c:Int) (a:List Int):TCon Tryz.prog 227 [(.c TI c),(.c (.sl [TI]) a)] (Qaq (QV c a)):=by
 refine Qj rfl fun hb=>tcg (Γ:=QdW) (n:=45) (sg:=Qgx.sg) Qi (TOkL.cons Qar (TOkL.cons QdA (TOkL.cons Qp9 TOkL.nil))) (by kernel_rfl) (by kernel_rfl) (QwO _ c a ?_)
 have hl_a:a.length≤9223372036854775807:=hb.2.1.1
 by_cases hp:Q5 c=true∧QE a=true
 rotate_left
 ·refine QjJ (fun r'=>r'=Qaq (QV c a)) c a _ _ _ ⟨fun h=>absurd (by simp at h;exact ⟨h.2,h.1.2⟩) hp,fun _=>R_eq (by unfold QV;rw [if_neg (by simpa using hp)];rfl)⟩
 have h6:=(Jd.1 hp.2).1
 refine Zj a (fun r k=>∀ (v:List Int) (s:Bool),v.length=k→(v++(v1 (Q2 c) r).1,s||(v1 (Q2 c) r).2)=(QV c a)→Qdm (fun r'=>r'=Qaq (QV c a)) c a s k v) ?_ ?_ [] false rfl (by unfold QV;rw [if_pos (by simp [hp])];simp)
 ·intro v s hv he
  refine QjJ (fun r'=>r'=Qaq (QV c a)) c a _ _ _ ⟨fun h=>by simp at h,fun _=>R_eq ?_⟩
  rw [← he];simp [v1]
 ·intro k x r hk hlt hg ih v s hv he
  refine QjJ (fun r'=>r'=Qaq (QV c a)) c a _ _ _ ⟨fun _=>?_,fun h=>by simp [hp] at h;omega⟩
  rw [Int.toNat_natCast,hg,sc1 (by omega),ZI]
  refine ⟨⟨by omega,hlt⟩,room (by omega),ih _ _ (Y8 hv) ?_⟩
  rw [← he,v1]
  simp [Bool.or_assoc]
theorem Qvz:Qg Tryz.prog Qgx:=Qk fun x _=>QxP x.1 x.2.1
def Qau (t:Int × Bool):TRes:=zre (.tp [(zci t.1),(zcb t.2)])
def Qjw:TRow:=Qh 188 [(.c (.sl [TI])),(.c (.sl [TI]))] fun x=>(none,Qau (QJ x.1 x.2.1))
def Qd5:TTab:=⟨[QdZ,QdG,QfB],false⟩
def Qrn:TCode :=
 (zsq [(.reg [zbi 20 .lss 19 18]),(.cond 20 .skip (.exit 0)),(.block 1 (zsq [(.reg [zmv 21 19,zmv 8 21]),(.draw [zmv 23 0,zmv 24 8,zia 25 23 24 [TI],zld 26 25 1,zmv 27 1,zmv 28 8,zia 29 27 28 [TI],zld 30 29 1,zca 31 239 [26,30],zmv 22 31,zex 32 22 0,zex 33 22 1,zmv 9 32,zmv 10 33] []),(.reg [zmv 35 6,zmv 36 9,zca 37 106 [35,36],zmv 34 37,zex 38 34 0,zex 39 34 1,zmv 11 38,zmv 12 39]),(.reg [zmv 40 11,zmv 6 40]),(.reg [zmv 41 7,zmv 42 41,.grp 42 false [zmv 43 10] 44 43,zmv 45 44,.grp 45 false [zmv 46 12] 47 46,zmv 7 47])])),(.reg [zbi 48 .add 19 (zki 1),zmv 19 48])])
def Qsj:List (Nat × Md):=zdl [0,1,6,7,18,19]
def QjQ:TCode :=
 (zsq [(.reg [zmv 49 6,zmv 50 7,zmv 4 49,zmv 5 50]),.ret])
def QDC:TCode :=
 (zsq [(.reg [zmv 4 (zki 0),zmv 5 (zkb false)]),(zsq [(.reg [zmv 13 0,zmv 14 1,zca 15 195 [13,14],zno 16 15]),(.cond 16 (zsq [(.reg [zmv 4 (zki 0),zmv 5 (zkb false)]),.ret]) .skip)]),(.reg [zmv 6 (zki 0)]),(.reg [zmv 7 (zkb false)]),(zsq [(.reg [zmv 17 0,zle 18 17,zmv 19 (zki 0)]),(.block 0 (.loop Qsj Qrn))]),QjQ])
def QjP:List (ARv × Md):=[(.t 4,.one .d),(.t 5,.one .d)]
def Qru:Qb:=TQ 0 0 QjP K
def QxR:Qb:=Qseq (tawp Qd5 0 QjQ (Qru K)) (Qru K)
def Qu4:Qb:=Qblk 0 (QxR K)
def Qc5 (a:List Int) (b:List Int) (sum:Int) (out:Bool) (x:Int):Prop:=Loop Qd5 0 Qsj Qrn (Qu4 K) ⟨[(0,(zcs [TI] a)),(1,(zcs [TI] b)),(6,(zci sum)),(7,(zcb out)),(18,(zci (a.length:Int))),(19,(zci x))],[],0⟩
theorem Qpa (a:List Int) (b:List Int) (sum:Int) (out:Bool) (x:Int) (h :
 (zif (decide (x<(a.length:Int))) ((((0:Int)≤x∧Int.toNat x<a.length)∧((0:Int)≤x∧Int.toNat x<b.length))∧(Qc5 K a b ((Q7 sum ((Q2 (gtd (0:Int) a (Int.toNat x)) (gtd (0:Int) b (Int.toNat x))).1)).1) ((out||((Q2 (gtd (0:Int) a (Int.toNat x)) (gtd (0:Int) b (Int.toNat x))).2))||((Q7 sum ((Q2 (gtd (0:Int) a (Int.toNat x)) (gtd (0:Int) b (Int.toNat x))).1)).2)) (w64 (x+(1:Int))))) (K (Qau (sum,out))))):Qc5 K a b sum out x :=
 Loop.of (by kernel_rfl) h
theorem QBt (a:List Int) (b:List Int) (h :
 (zif (!(Zp a b)) (K (Qau ((0:Int),false))) (Qc5 K a b 0 false 0))):Hold (tawp Qd5 (0+0) QDC (TQ 0 0 QjP K) (Qf [(.c (.sl [TI]) a),(.c (.sl [TI]) b)])) :=
 Hold.of (by kernel_rfl) h
theorem QwN (a:List Int) (b:List Int):TCon Tryz.prog 188 [(.c (.sl [TI]) a),(.c (.sl [TI]) b)] (Qau (QJ a b)):=by
 refine Qj rfl fun hb=>tcg (Γ:=Qd5) (n:=51) (sg:=Qjw.sg) Qi (TOkL.cons Qqy (TOkL.cons Qla (TOkL.cons QmE TOkL.nil))) (by kernel_rfl) (by kernel_rfl) (QBt _ a b ?_)
 have hl_a:a.length≤9223372036854775807:=hb.1.1
 have hl_b:b.length≤9223372036854775807:=hb.2.1.1
 refine ⟨fun h=>R_eq (by unfold QJ;rw [if_neg (by simpa using h)]),fun h=>?_⟩
 have hp:Zp a b=true:=by simpa using h
 have hl:=QeP.1 hp
 have h6:=(Jd.1 hl.1).1
 refine Zj a (fun r k=>∀ (z:Int) (s:Bool),((Yl r (b.drop k) z).1,s||(Yl r (b.drop k) z).2)=(QJ a b)→Qc5 (fun r'=>r'=Qau (QJ a b)) a b z s k) ?_ ?_ 0 false (by unfold QJ;rw [if_pos hp];simp)
 ·intro z s he
  refine Qpa (fun r'=>r'=Qau (QJ a b)) a b _ _ _ ⟨fun h=>by simp at h,fun _=>R_eq ?_⟩
  rw [← he];simp [Yl]
 ·intro k x r hk hlt hg ih z s he
  obtain ⟨y,q,hq⟩:=QdV (l:=b) (k:=k) (by omega)
  refine Qpa (fun r'=>r'=Qau (QJ a b)) a b _ _ _ ⟨fun _=>?_,fun h=>by simp at h;omega⟩
  rw [Int.toNat_natCast,hg,YF hq,sc1 (by omega)]
  refine ⟨⟨⟨by omega,hlt⟩,by omega,by omega⟩,ih _ _ ?_⟩
  rw [← he,hq,Yl,YE hq]
  simp [Bool.or_assoc]
theorem Quf:Qg Tryz.prog Qjw:=Qk fun x _=>QwN x.1 x.2.1
def QaE (t:Int × Bool):TRes:=zre (.tp [(zci t.1),(zcb t.2)])
def Qgg:TRow:=Qh 184 [(.c (.sl [TI])),(.c (.sl [TI]))] fun x=>(none,QaE (QJ x.1 x.2.1))
def Qdt:TTab:=⟨[QfA,QdS,Qd1],false⟩
def Qpb:TCode :=
 (zsq [(zsq [(.reg [zmv 13 8,zmv 14 0,zle 15 14,zbi 16 .lss 13 15,zmv 17 16,.grp 17 true [zmv 18 0,zmv 19 1,zca 20 191 [18,19]] 21 20]),(.cond 21 .skip (.exit 0))]),(.block 1 (zsq [(.draw [zmv 25 0,zmv 26 8,zia 27 25 26 [TI],zld 28 27 1,zmv 29 1,zmv 30 8,zia 31 29 30 [TI],zld 32 31 1,zca 33 237 [28,32],zmv 24 33,zex 34 24 0,zex 35 24 1,zmv 9 34,zmv 10 35] []),(.reg [zmv 37 6,zmv 38 9,zca 39 99 [37,38],zmv 36 39,zex 40 36 0,zex 41 36 1,zmv 11 40,zmv 12 41]),(.reg [zmv 42 11,zmv 6 42]),(.reg [zmv 43 7,zmv 44 43,.grp 44 false [zmv 45 10] 46 45,zmv 47 46,.grp 47 false [zmv 48 12] 49 48,zmv 7 49])])),(.reg [zmv 22 8,zbi 23 .add 22 (zki 1),zmv 8 23])])
def Qqm:List (Nat × Md):=zdl [0,1,6,7,8]
def QkD:TCode :=
 (zsq [(.reg [zmv 50 6,zmv 51 7,zmv 4 50,zmv 5 51]),.ret])
def Qx5:TCode :=
 (zsq [(.reg [zmv 4 (zki 0),zmv 5 (zkb false)]),(.reg [zmv 6 (zki 0)]),(.reg [zmv 7 (zkb false)]),(zsq [(.reg [zmv 8 (zki 0)]),(.block 0 (.loop Qqm Qpb))]),QkD])
def Qse:List (ARv × Md):=[(.t 4,.one .d),(.t 5,.one .d)]
def QsB:Qb:=TQ 0 0 Qse K
def Qzy:Qb:=Qseq (tawp Qdt 0 QkD (QsB K)) (QsB K)
def QzN:Qb:=Qblk 0 (Qzy K)
def Qdv (a:List Int) (b:List Int) (sum:Int) (sat:Bool) (i:Int):Prop:=Loop Qdt 0 Qqm Qpb (QzN K) ⟨[(0,(zcs [TI] a)),(1,(zcs [TI] b)),(6,(zci sum)),(7,(zcb sat)),(8,(zci i))],[],0⟩
theorem QgW (a:List Int) (b:List Int) (sum:Int) (sat:Bool) (i:Int) (h :
 (zif ((decide (i<(a.length:Int)))&&(Zp a b)) ((((0:Int)≤i∧Int.toNat i<a.length)∧((0:Int)≤i∧Int.toNat i<b.length))∧(Qdv K a b ((Q7 sum ((Q2 (gtd (0:Int) a (Int.toNat i)) (gtd (0:Int) b (Int.toNat i))).1)).1) ((sat||((Q2 (gtd (0:Int) a (Int.toNat i)) (gtd (0:Int) b (Int.toNat i))).2))||((Q7 sum ((Q2 (gtd (0:Int) a (Int.toNat i)) (gtd (0:Int) b (Int.toNat i))).1)).2)) (w64 (i+(1:Int))))) (K (QaE (sum,sat))))):Qdv K a b sum sat i :=
 Loop.of (by kernel_rfl) h
theorem QDZ (a:List Int) (b:List Int) (h :
 (Qdv K a b 0 false 0)):Hold (tawp Qdt (0+0) Qx5 (TQ 0 0 Qse K) (Qf [(.c (.sl [TI]) a),(.c (.sl [TI]) b)])) :=
 Hold.of (by kernel_rfl) h
theorem Qyp (a:List Int) (b:List Int):TCon Tryz.prog 184 [(.c (.sl [TI]) a),(.c (.sl [TI]) b)] (QaE (QJ a b)):=by
 refine Qj rfl fun hb=>tcg (Γ:=Qdt) (n:=52) (sg:=Qgg.sg) Qi (TOkL.cons QqR (TOkL.cons Qp9 (TOkL.cons QjT TOkL.nil))) (by kernel_rfl) (by kernel_rfl) (QDZ _ a b ?_)
 have hl_a:a.length≤9223372036854775807:=hb.1.1
 have hl_b:b.length≤9223372036854775807:=hb.2.1.1
 by_cases hp:Zp a b=true
 rotate_left
 ·refine QgW (fun r'=>r'=QaE (QJ a b)) a b _ _ _ ⟨fun h=>by simp [hp] at h,fun _=>R_eq (by unfold QJ;rw [if_neg hp])⟩
 have hl:=QeP.1 hp
 have h6:=(Jd.1 hl.1).1
 refine Zj a (fun r k=>∀ (z:Int) (s:Bool),((Yl r (b.drop k) z).1,s||(Yl r (b.drop k) z).2)=(QJ a b)→Qdv (fun r'=>r'=QaE (QJ a b)) a b z s k) ?_ ?_ 0 false (by unfold QJ;rw [if_pos hp];simp)
 ·intro z s he
  refine QgW (fun r'=>r'=QaE (QJ a b)) a b _ _ _ ⟨fun h=>by simp at h,fun _=>R_eq ?_⟩
  rw [← he];simp [Yl]
 ·intro k x r hk hlt hg ih z s he
  obtain ⟨y,q,hq⟩:=QdV (l:=b) (k:=k) (by omega)
  refine QgW (fun r'=>r'=QaE (QJ a b)) a b _ _ _ ⟨fun _=>?_,fun h=>by simp [hp] at h;omega⟩
  rw [Int.toNat_natCast,hg,YF hq,sc1 (by omega)]
  refine ⟨⟨⟨by omega,hlt⟩,by omega,by omega⟩,ih _ _ ?_⟩
  rw [← he,hq,Yl,YE hq]
  simp [Bool.or_assoc]
theorem QA9:Qg Tryz.prog Qgg:=Qk fun x _=>Qyp x.1 x.2.1
def Qay (t:(List Int)):TRes:=⟨(.r [TI] 0 0 t.length),[(.sl 3 [TI] (.dp 0 true []) t)],[],false,[]⟩
def Qh9:TRow:=Qh 233 [(.c (.sl [TI]))] fun x=>(none,Qay (Q6 x.1))
def Qfw:TTab:=⟨[Qbi,Qg6],true⟩
def Qql:TCode :=
 (zsq [(.reg [zbi 13 .lss 12 11]),(.cond 13 .skip (.exit 0)),(.block 1 (zsq [(.reg [zia 14 10 12 [TI],zld 15 14 1,zmv 5 15]),(.reg [zmv 16 3,zmv 17 5,zca 18 259 [17],zop 19 (.bsl 3 [TI] [18]),zop 20 (.app 16 19 3 [TI]),zmv 3 20])])),(.reg [zbi 21 .add 12 (zki 1),zmv 12 21])])
def QmP:List (Nat × Md):=[(3,.one .f),(10,.one .d),(11,.one .d),(12,.one .d)]
def QqS:TCode :=
 (zsq [(.reg [zmv 22 3,zmv 2 22]),.ret])
def QtV:TCode :=
 (zsq [(.reg [zmv 2 (.k (.n [TI]))]),(zsq [(.reg [zmv 6 0,zca 7 187 [6],zno 8 7]),(.cond 8 (zsq [(.reg [zmv 2 (.k (.n [TI]))]),.ret]) .skip)]),(.reg [zop 9 (.bsl 3 [TI] []),zmv 3 9]),(zsq [(.reg [zmv 10 0,zle 11 10,zmv 12 (zki 0)]),(.block 0 (.loop QmP Qql))]),QqS])
def Qq2:List (ARv × Md):=[(.t 2,.one (.p 3))]
def Qk7:Qb:=TQ 0 0 Qq2 K
def QBa:Qb:=Qseq (tawp Qfw 0 QqS (Qk7 K)) (Qk7 K)
def Qui:Qb:=Qblk 0 (QBa K)
def Qfx (a:List Int) (x:Int) (v:List Int):Prop:=Loop Qfw 0 QmP Qql (Qui K) ⟨[(3,(.r [TI] 0 0 v.length)),(10,(zcs [TI] a)),(11,(zci (a.length:Int))),(12,(zci x))],[(0,(.sl 3 [TI] (.dp 0 true []) v))],1⟩
theorem QkJ (a:List Int) (x:Int) (v:List Int) (h :
 (zif (decide (x<(a.length:Int))) (((0:Int)≤x∧Int.toNat x<a.length)∧(((v.length=v.length∨v.length+1≤v.length)∧v.length+1≤big)∧(Qfx K a (w64 (x+(1:Int))) (List.take (v.length+1) ((List.take v.length v)++([(YP (gtd (0:Int) a (Int.toNat x)))])))))) (K (Qay (List.take v.length v))))):Qfx K a x v :=
 Loop.of (by kernel_rfl) h
theorem QvX (a:List Int) (h :
 (zif (!(QE a)) (K (Qay ([]:List Int))) (Qfx K a 0 ([]:List Int)))):Hold (tawp Qfw (0+0) QtV (TQ 0 0 Qq2 K) (Qf [(.c (.sl [TI]) a)])) :=
 Hold.of (by kernel_rfl) h
theorem Qu5 (a:List Int):TCon Tryz.prog 233 [(.c (.sl [TI]) a)] (Qay (Q6 a)):=by
 refine Qj rfl fun hb=>tcg (Γ:=Qfw) (n:=23) (sg:=Qh9.sg) Qi (TOkL.cons Qeo (TOkL.cons QtI TOkL.nil)) (by kernel_rfl) (by kernel_rfl) (QvX _ a ?_)
 have hl_a:a.length≤9223372036854775807:=hb.1.1
 refine ⟨fun h=>R_eq (by unfold Q6;rw [if_neg (by simpa using h)]),fun h=>?_⟩
 have hp:QE a=true:=by simpa using h
 have h6:=(Jd.1 hp).1
 refine Zj a (fun r k=>∀ (v:List Int),v.length=k→v++r.map YP=(Q6 a)→Qfx (fun r'=>r'=Qay (Q6 a)) a k v) ?_ ?_ [] rfl (by unfold Q6;rw [if_pos hp];simp)
 ·intro v hv he
  refine QkJ (fun r'=>r'=Qay (Q6 a)) a _ _ ⟨fun h=>by simp at h,fun _=>R_eq ?_⟩
  rw [← he];simp
 ·intro k x r hk hlt hg ih v hv he
  refine QkJ (fun r'=>r'=Qay (Q6 a)) a _ _ ⟨fun _=>?_,fun h=>by simp at h;omega⟩
  rw [Int.toNat_natCast,hg,sc1 (by omega),ZI]
  refine ⟨⟨by omega,hlt⟩,room (by omega),ih _ (Y8 hv) ?_⟩
  rw [← he];simp
theorem QtK:Qg Tryz.prog Qh9:=Qk fun x _=>Qu5 x.1
def Qae (t:(List Int)):TRes:=zra (zcs [TI] t)
def Qjb:TRow:=Qh 226 [(.c (.sl [TI]))] fun x=>(none,Qae (Q6 x.1))
def QdR:TTab:=⟨[YW,QiT],false⟩
def QoQ:TCode :=
 (zsq [(zsq [(.reg [zmv 6 4,zmv 7 0,zle 8 7,zbi 9 .lss 6 8,zmv 10 9,.grp 10 true [zmv 11 0,zca 12 97 [11]] 13 12]),(.cond 13 .skip (.exit 0))]),(.block 1 (.reg [zmv 16 3,zmv 17 0,zmv 18 4,zia 19 17 18 [TI],zld 20 19 1,zca 21 256 [20],zop 22 (.bsl 3 [TI] [21]),zop 23 (.app 16 22 3 [TI]),zmv 3 23])),(.reg [zmv 14 4,zbi 15 .add 14 (zki 1),zmv 4 15])])
def Qps:List (Nat × Md):=[(0,.one .d),(3,.one .f),(4,.one .d)]
def QpZ:TCode :=
 (zsq [(.reg [zmv 24 3,zmv 2 24]),.ret])
def QD5:TCode :=
 (zsq [(.reg [zmv 2 (.k (.n [TI]))]),(.reg [zop 5 (.bsl 3 [TI] []),zmv 3 5]),(zsq [(.reg [zmv 4 (zki 0)]),(.block 0 (.loop Qps QoQ))]),QpZ])
def QsI:List (ARv × Md):=[(.t 2,.one .d)]
def QsN:Qb:=TQ 0 0 QsI K
def QC4:Qb:=Qseq (tawp QdR 0 QpZ (QsN K)) (QsN K)
def QCU:Qb:=Qblk 0 (QC4 K)
def QeG (a:List Int) (i:Int) (out:List Int):Prop:=Loop QdR 0 Qps QoQ (QCU K) ⟨[(0,(zcs [TI] a)),(3,(.r [TI] 0 0 out.length)),(4,(zci i))],[(0,(.sl 3 [TI] .ow out))],1⟩
theorem QhZ (a:List Int) (i:Int) (out:List Int) (h :
 (zif ((decide (i<(a.length:Int)))&&(QE a)) ((((0:Int)≤i∧Int.toNat i<a.length)∧((out.length=out.length∨out.length+1≤out.length)∧out.length+1≤big))∧(QeG K a (w64 (i+(1:Int))) (List.take (out.length+1) ((List.take out.length out)++([(YP (gtd (0:Int) a (Int.toNat i)))]))))) (K (Qae (List.take out.length (List.drop 0 out)))))):QeG K a i out :=
 Loop.of (by kernel_rfl) h
theorem QFm (a:List Int) (h :
 (QeG K a 0 ([]:List Int))):Hold (tawp QdR (0+0) QD5 (TQ 0 0 QsI K) (Qf [(.c (.sl [TI]) a)])) :=
 Hold.of (by kernel_rfl) h
theorem QwE (a:List Int):TCon Tryz.prog 226 [(.c (.sl [TI]) a)] (Qae (Q6 a)):=by
 refine Qj rfl fun hb=>tcg (Γ:=QdR) (n:=25) (sg:=Qjb.sg) Qi (TOkL.cons Qar (TOkL.cons QBW TOkL.nil)) (by kernel_rfl) (by kernel_rfl) (QFm _ a ?_)
 have hl_a:a.length≤9223372036854775807:=hb.1.1
 by_cases hp:QE a=true
 rotate_left
 ·refine QhZ (fun r'=>r'=Qae (Q6 a)) a _ _ ⟨fun h=>by simp [hp] at h,fun _=>R_eq (by unfold Q6;rw [if_neg hp];rfl)⟩
 have h6:=(Jd.1 hp).1
 refine Zj a (fun r k=>∀ (v:List Int),v.length=k→v++r.map YP=(Q6 a)→QeG (fun r'=>r'=Qae (Q6 a)) a k v) ?_ ?_ [] rfl (by unfold Q6;rw [if_pos hp];simp)
 ·intro v hv he
  refine QhZ (fun r'=>r'=Qae (Q6 a)) a _ _ ⟨fun h=>by simp at h,fun _=>R_eq ?_⟩
  rw [← he];simp
 ·intro k x r hk hlt hg ih v hv he
  refine QhZ (fun r'=>r'=Qae (Q6 a)) a _ _ ⟨fun _=>?_,fun h=>by simp [hp] at h;omega⟩
  rw [Int.toNat_natCast,hg,sc1 (by omega),ZI]
  refine ⟨⟨⟨by omega,hlt⟩,room (by omega)⟩,ih _ (Y8 hv) ?_⟩
  rw [← he];simp
theorem QuP:Qg Tryz.prog Qjb:=Qk fun x _=>QwE x.1
end
end Go.Proofs.YtdplaepmjogjjaaGreat.Am

