/- -/
import Derived.Test.YtjbdljkhbglnhaaGreatZEP1
import Derived.Test.YtjbdljkhbglnhaaGreatZEPF
namespace Go.Proofs.YtjbdljkhbglnhaaGreat.Am
open Go Go.RowKit Go.Proofs.YtjbdljkhbglnhaaGreat
set_option linter.all false
noncomputable section
variable (K:TRes→Prop)
def Ql5 (t:Bool):TRes:=zre (zcb t)
def Qef:TRow:=Qk 191 [(.c (.sl [TI])),(.c (.sl [TI]))] fun x=>(none,Ql5 (ZH x.1 x.2.1))
def QKp:List TRow:=[Qa6,Qai]
def QWm:TCode :=
 (zsq [(.reg [zmv 4 (zkb false)]),(.reg [zmv 5 0,zca 6 134 [5],zmv 7 6,.grp 7 true [zmv 8 1,zmv 9 0,zle 10 9,zca 11 114 [8,10]] 12 11,zmv 4 12]),.ret])
def QYN:List (ARv × Md):=[(.t 4,.one .d)]
theorem QVw (a:List Int) (b:List Int) (h :
 K (Ql5 ((QJ a)&&(Qq b (a.length:Int))))):Hold (tawp QKp (0+0) QWm (TQ 0 0 QYN K) (Qg [(.c (.sl [TI]) a),(.c (.sl [TI]) b)])) :=
 Hold.of (by kernel_rfl) h
theorem QHj (a:List Int) (b:List Int):TCon Tryz.prog 191 [(.c (.sl [TI]) a),(.c (.sl [TI]) b)] (Ql5 (ZH a b)):=by
 refine Qo rfl fun hb=>tcg (n:=13) (sg:=Qef.sg) Qm (TOk.cons Qdc (TOk.cons QaD TOk.nil)) (by kernel_rfl) (by kernel_rfl) (QVw _ a b ?_)
 have hl_a:a.length≤9223372036854775807:=hb.1.1
 have hl_b:b.length≤9223372036854775807:=hb.2.1.1
 exact R_eq rfl
theorem Qh4:Qj Tryz.prog Qef:=Qn fun x _=>QHj x.1 x.2.1
def Ql6 (t:Bool):TRes:=zre (zcb t)
def Qeg:TRow:=Qk 207 [(.c (.sl [TI])),(.c (.sl [TI]))] fun x=>(none,Ql6 (ZH x.1 x.2.1))
def QOt:List TRow:=[Y7]
def QUn:TCode :=
 (zsq [(.reg [zmv 4 (zkb false)]),(.reg [zmv 5 0,zca 6 42 [5],zmv 7 6,.grp 7 true [zmv 8 1,zca 9 42 [8]] 10 9,zmv 11 10,.grp 11 true [zmv 12 0,zle 13 12,zmv 14 1,zle 15 14,zbi 16 .eql 13 15] 17 16,zmv 4 17]),.ret])
def QU1:List (ARv × Md):=[(.t 4,.one .d)]
theorem QK6 (a:List Int) (b:List Int) (h :
 K (Ql6 (((QJ a)&&(QJ b))&&((a.length:Int)==(b.length:Int))))):Hold (tawp QOt (0+0) QUn (TQ 0 0 QU1 K) (Qg [(.c (.sl [TI]) a),(.c (.sl [TI]) b)])) :=
 Hold.of (by kernel_rfl) h
theorem QIx (a:List Int) (b:List Int):TCon Tryz.prog 207 [(.c (.sl [TI]) a),(.c (.sl [TI]) b)] (Ql6 (ZH a b)):=by
 refine Qo rfl fun hb=>tcg (n:=18) (sg:=Qeg.sg) Qm (TOk.cons Jp TOk.nil) (by kernel_rfl) (by kernel_rfl) (QK6 _ a b ?_)
 have hl_a:a.length≤9223372036854775807:=hb.1.1
 have hl_b:b.length≤9223372036854775807:=hb.2.1.1
 refine R_eq ?_
 rw [Bool.eq_iff_iff]
 unfold ZH Qq
 simp only [Bool.and_eq_true,beq_iff_eq]
 constructor
 ·rintro ⟨⟨h1,h2⟩,h3⟩;exact ⟨h1,h2,by omega⟩
 ·rintro ⟨h1,h2,h3⟩;exact ⟨⟨h1,h2⟩,by omega⟩
theorem Qgz:Qj Tryz.prog Qeg:=Qn fun x _=>QIx x.1 x.2.1
def Qda (t:(List Int) × Bool):TRes:=zra (.tp [(zcs [TI] t.1),(zcb t.2)])
def Qit:TRow:=Qk 213 [(.c (.sl [TI])),(.c (.sl [TI]))] fun x=>(none,Qda (Zl x.1 x.2.1))
def Qns:List TRow:=[Qef,QeF]
def Qsz:TCode :=
 (zsq [(.reg [zbi 19 .lss 18 17]),(.cond 19 .skip (.exit 0)),(.block 1 (zsq [(.reg [zmv 20 18,zmv 8 20]),(.draw [zmv 22 0,zmv 23 8,zia 24 22 23 [TI],zld 25 24 1,zmv 26 1,zmv 27 8,zia 28 26 27 [TI],zld 29 28 1,zca 30 121 [25,29],zmv 21 30,zex 31 21 0,zex 32 21 1,zmv 9 31,zmv 10 32] []),(.reg [zmv 33 6,zmv 34 9,zop 35 (.bsl 3 [TI] [34]),zop 36 (.app 33 35 3 [TI]),zmv 6 36]),(.reg [zmv 37 7,zmv 38 37,.grp 38 false [zmv 39 10] 40 39,zmv 7 40])])),(.reg [zbi 41 .add 18 (zki 1),zmv 18 41])])
def Qx1:List (Nat × Md):=[(0,.one .d),(1,.one .d),(6,.one .f),(7,.one .d),(17,.one .d),(18,.one .d)]
def QzD:TCode :=
 (zsq [(.reg [zmv 42 6,zmv 43 7,zmv 4 42,zmv 5 43]),.ret])
def QIl:TCode :=
 (zsq [(.reg [zmv 4 (.k (.n [TI])),zmv 5 (zkb false)]),(zsq [(.reg [zmv 11 0,zmv 12 1,zca 13 191 [11,12],zno 14 13]),(.cond 14 (zsq [(.reg [zmv 4 (.k (.n [TI])),zmv 5 (zkb false)]),.ret]) .skip)]),(.reg [zop 15 (.bsl 3 [TI] []),zmv 6 15]),(.reg [zmv 7 (zkb false)]),(zsq [(.reg [zmv 16 0,zle 17 16,zmv 18 (zki 0)]),(.block 0 (.loop Qx1 Qsz))]),QzD])
def Qw1:List (ARv × Md):=[(.t 4,.one .d),(.t 5,.one .d)]
def Qsa:Qb:=TQ 0 0 Qw1 K
def QM1:Qb:=Qseq (tawp Qns 0 QzD (Qsa K)) (Qsa K)
def QLS:Qb:=Qblk 0 (QM1 K)
def Qih (a:List Int) (b:List Int) (out:Bool) (x:Int) (v:List Int):Prop:=Loop Qns 0 Qx1 Qsz (QLS K) ⟨[(0,(zcs [TI] a)),(1,(zcs [TI] b)),(6,(.r [TI] 0 0 v.length)),(7,(zcb out)),(17,(zci (a.length:Int))),(18,(zci x))],[(0,(.sl 3 [TI] true v))],1⟩
theorem Qq8 (a:List Int) (b:List Int) (out:Bool) (x:Int) (v:List Int) (h :
 (zif (decide (x<(a.length:Int))) ((((0:Int)≤x∧Int.toNat x<a.length)∧((0:Int)≤x∧Int.toNat x<b.length))∧(((v.length=v.length∨v.length+1≤v.length)∧v.length+1≤big)∧(Qih K a b (out||((Q4 (gtd (0:Int) a (Int.toNat x)) (gtd (0:Int) b (Int.toNat x))).2)) (w64 (x+(1:Int))) (List.take (v.length+1) ((List.take v.length v)++([(Q4 (gtd (0:Int) a (Int.toNat x)) (gtd (0:Int) b (Int.toNat x))).1])))))) (K (Qda ((List.take v.length (List.drop 0 v)),out))))):Qih K a b out x v :=
 Loop.of (by kernel_rfl) h
theorem QT8 (a:List Int) (b:List Int) (h :
 (zif (!(ZH a b)) (K (Qda ([],false))) (Qih K a b false 0 ([]:List Int)))):Hold (tawp Qns (0+0) QIl (TQ 0 0 Qw1 K) (Qg [(.c (.sl [TI]) a),(.c (.sl [TI]) b)])) :=
 Hold.of (by kernel_rfl) h
theorem QQE (a:List Int) (b:List Int):TCon Tryz.prog 213 [(.c (.sl [TI]) a),(.c (.sl [TI]) b)] (Qda (Zl a b)):=by
 refine Qo rfl fun hb=>tcg (n:=44) (sg:=Qit.sg) Qm (TOk.cons Qh4 (TOk.cons QgO TOk.nil)) (by kernel_rfl) (by kernel_rfl) (QT8 _ a b ?_)
 have hl_a:a.length≤9223372036854775807:=hb.1.1
 have hl_b:b.length≤9223372036854775807:=hb.2.1.1
 refine ⟨fun h=>R_eq (by unfold Zl;rw [if_neg (by simpa using h)]),fun h=>?_⟩
 have hp:ZH a b=true:=by simpa using h
 have hl:=JX.1 hp
 have h6:=(Z0.1 hl.1).1
 refine Zp a (fun r k=>∀ (v:List Int) (s:Bool),v.length=k→(v++(vz Q4 r (b.drop k)).1,s||(vz Q4 r (b.drop k)).2)=(Zl a b)→Qih (fun r'=>r'=Qda (Zl a b)) a b s k v) ?_ ?_ [] false rfl (by unfold Zl;rw [if_pos hp];simp)
 ·intro v s hv he
  refine Qq8 (fun r'=>r'=Qda (Zl a b)) a b _ _ _ ⟨fun h=>by simp at h,fun _=>R_eq ?_⟩
  rw [← he];simp [vz]
 ·intro k x r hk hlt hg ih v s hv he
  obtain ⟨y,q,hq⟩:=Jl (l:=b) (k:=k) (by omega)
  refine Qq8 (fun r'=>r'=Qda (Zl a b)) a b _ _ _ ⟨fun _=>?_,fun h=>by simp at h;omega⟩
  rw [Int.toNat_natCast,hg,Yb hq,sc1 (by omega),Q8]
  refine ⟨⟨⟨by omega,hlt⟩,by omega,by omega⟩,room (by omega),ih _ _ (YQ hv) ?_⟩
  rw [← he,hq,vz,ZY hq]
  simp [Bool.or_assoc]
theorem QrV:Qj Tryz.prog Qit:=Qn fun x _=>QQE x.1 x.2.1
def Qcy (t:(List Int) × Bool):TRes:=zra (.tp [(zcs [TI] t.1),(zcb t.2)])
def Qj9:TRow:=Qk 226 [(.c (.sl [TI])),(.c (.sl [TI]))] fun x=>(none,Qcy (Zl x.1 x.2.1))
def QlI:List TRow:=[Qeg,Qdp]
def QtK:TCode :=
 (zsq [(zsq [(.reg [zmv 12 8,zmv 13 0,zle 14 13,zbi 15 .lss 12 14,zmv 16 15,.grp 16 true [zmv 17 0,zmv 18 1,zca 19 207 [17,18]] 20 19]),(.cond 20 .skip (.exit 0))]),(.block 1 (zsq [(.draw [zmv 24 0,zmv 25 8,zia 26 24 25 [TI],zld 27 26 1,zmv 28 1,zmv 29 8,zia 30 28 29 [TI],zld 31 30 1,zca 32 162 [27,31],zmv 23 32,zex 33 23 0,zex 34 23 1,zmv 9 33,zmv 10 34] []),(.reg [zmv 35 6,zmv 36 9,zop 37 (.bsl 3 [TI] [36]),zop 38 (.app 35 37 3 [TI]),zmv 6 38]),(.reg [zmv 39 7,zmv 40 39,.grp 40 false [zmv 41 10] 42 41,zmv 7 42])])),(.reg [zmv 21 8,zbi 22 .add 21 (zki 1),zmv 8 22])])
def QwC:List (Nat × Md):=[(0,.one .d),(1,.one .d),(6,.one .f),(7,.one .d),(8,.one .d)]
def Qt4:TCode :=
 (zsq [(.reg [zmv 43 6,zmv 44 7,zmv 4 43,zmv 5 44]),.ret])
def QUW:TCode :=
 (zsq [(.reg [zmv 4 (.k (.n [TI])),zmv 5 (zkb false)]),(.reg [zop 11 (.bsl 3 [TI] []),zmv 6 11]),(.reg [zmv 7 (zkb false)]),(zsq [(.reg [zmv 8 (zki 0)]),(.block 0 (.loop QwC QtK))]),Qt4])
def QEu:List (ARv × Md):=[(.t 4,.one .d),(.t 5,.one .d)]
def Qza:Qb:=TQ 0 0 QEu K
def QQa:Qb:=Qseq (tawp QlI 0 Qt4 (Qza K)) (Qza K)
def QXX:Qb:=Qblk 0 (QQa K)
def QhJ (a:List Int) (b:List Int) (sat:Bool) (i:Int) (out:List Int):Prop:=Loop QlI 0 QwC QtK (QXX K) ⟨[(0,(zcs [TI] a)),(1,(zcs [TI] b)),(6,(.r [TI] 0 0 out.length)),(7,(zcb sat)),(8,(zci i))],[(0,(.sl 3 [TI] true out))],1⟩
theorem QoE (a:List Int) (b:List Int) (sat:Bool) (i:Int) (out:List Int) (h :
 (zif ((decide (i<(a.length:Int)))&&(ZH a b)) ((((0:Int)≤i∧Int.toNat i<a.length)∧((0:Int)≤i∧Int.toNat i<b.length))∧(((out.length=out.length∨out.length+1≤out.length)∧out.length+1≤big)∧(QhJ K a b (sat||((Q4 (gtd (0:Int) a (Int.toNat i)) (gtd (0:Int) b (Int.toNat i))).2)) (w64 (i+(1:Int))) (List.take (out.length+1) ((List.take out.length out)++([(Q4 (gtd (0:Int) a (Int.toNat i)) (gtd (0:Int) b (Int.toNat i))).1])))))) (K (Qcy ((List.take out.length (List.drop 0 out)),sat))))):QhJ K a b sat i out :=
 Loop.of (by kernel_rfl) h
theorem QWH (a:List Int) (b:List Int) (h :
 (QhJ K a b false 0 ([]:List Int))):Hold (tawp QlI (0+0) QUW (TQ 0 0 QEu K) (Qg [(.c (.sl [TI]) a),(.c (.sl [TI]) b)])) :=
 Hold.of (by kernel_rfl) h
theorem QR0 (a:List Int) (b:List Int):TCon Tryz.prog 226 [(.c (.sl [TI]) a),(.c (.sl [TI]) b)] (Qcy (Zl a b)):=by
 refine Qo rfl fun hb=>tcg (n:=45) (sg:=Qj9.sg) Qm (TOk.cons Qgz (TOk.cons Qfd TOk.nil)) (by kernel_rfl) (by kernel_rfl) (QWH _ a b ?_)
 have hl_a:a.length≤9223372036854775807:=hb.1.1
 have hl_b:b.length≤9223372036854775807:=hb.2.1.1
 by_cases hp:ZH a b=true
 rotate_left
 ·refine QoE (fun r'=>r'=Qcy (Zl a b)) a b _ _ _ ⟨fun h=>by simp [hp] at h,fun _=>R_eq (by unfold Zl;rw [if_neg hp];rfl)⟩
 have hl:=JX.1 hp
 have h6:=(Z0.1 hl.1).1
 refine Zp a (fun r k=>∀ (v:List Int) (s:Bool),v.length=k→(v++(vz Q4 r (b.drop k)).1,s||(vz Q4 r (b.drop k)).2)=(Zl a b)→QhJ (fun r'=>r'=Qcy (Zl a b)) a b s k v) ?_ ?_ [] false rfl (by unfold Zl;rw [if_pos hp];simp)
 ·intro v s hv he
  refine QoE (fun r'=>r'=Qcy (Zl a b)) a b _ _ _ ⟨fun h=>by simp at h,fun _=>R_eq ?_⟩
  rw [← he];simp [vz]
 ·intro k x r hk hlt hg ih v s hv he
  obtain ⟨y,q,hq⟩:=Jl (l:=b) (k:=k) (by omega)
  refine QoE (fun r'=>r'=Qcy (Zl a b)) a b _ _ _ ⟨fun _=>?_,fun h=>by simp [hp] at h;omega⟩
  rw [Int.toNat_natCast,hg,Yb hq,sc1 (by omega),Q8]
  refine ⟨⟨⟨by omega,hlt⟩,by omega,by omega⟩,room (by omega),ih _ _ (YQ hv) ?_⟩
  rw [← he,hq,vz,ZY hq]
  simp [Bool.or_assoc]
theorem QsK:Qj Tryz.prog Qj9:=Qn fun x _=>QR0 x.1 x.2.1
def Qdg (t:(List Int) × Bool):TRes:=zra (.tp [(zcs [TI] t.1),(zcb t.2)])
def Qig:TRow:=Qk 124 [(.c (.sl [TI])),(.c (.sl [TI]))] fun x=>(none,Qdg (Zi x.1 x.2.1))
def Qml:List TRow:=[Qef,Qmc]
def QvU:TCode :=
 (zsq [(.reg [zbi 19 .lss 18 17]),(.cond 19 .skip (.exit 0)),(.block 1 (zsq [(.reg [zmv 20 18,zmv 8 20]),(.draw [zmv 22 0,zmv 23 8,zia 24 22 23 [TI],zld 25 24 1,zmv 26 1,zmv 27 8,zia 28 26 27 [TI],zld 29 28 1,zca 30 192 [25,29],zmv 21 30,zex 31 21 0,zex 32 21 1,zmv 9 31,zmv 10 32] []),(.reg [zmv 33 6,zmv 34 9,zop 35 (.bsl 3 [TI] [34]),zop 36 (.app 33 35 3 [TI]),zmv 6 36]),(.reg [zmv 37 7,zmv 38 37,.grp 38 false [zmv 39 10] 40 39,zmv 7 40])])),(.reg [zbi 41 .add 18 (zki 1),zmv 18 41])])
def QsF:List (Nat × Md):=[(0,.one .d),(1,.one .d),(6,.one .f),(7,.one .d),(17,.one .d),(18,.one .d)]
def QzK:TCode :=
 (zsq [(.reg [zmv 42 6,zmv 43 7,zmv 4 42,zmv 5 43]),.ret])
def QWf:TCode :=
 (zsq [(.reg [zmv 4 (.k (.n [TI])),zmv 5 (zkb false)]),(zsq [(.reg [zmv 11 0,zmv 12 1,zca 13 191 [11,12],zno 14 13]),(.cond 14 (zsq [(.reg [zmv 4 (.k (.n [TI])),zmv 5 (zkb false)]),.ret]) .skip)]),(.reg [zop 15 (.bsl 3 [TI] []),zmv 6 15]),(.reg [zmv 7 (zkb false)]),(zsq [(.reg [zmv 16 0,zle 17 16,zmv 18 (zki 0)]),(.block 0 (.loop QsF QvU))]),QzK])
def QD9:List (ARv × Md):=[(.t 4,.one .d),(.t 5,.one .d)]
def QAC:Qb:=TQ 0 0 QD9 K
def QMb:Qb:=Qseq (tawp Qml 0 QzK (QAC K)) (QAC K)
def QMV:Qb:=Qblk 0 (QMb K)
def Qg3 (a:List Int) (b:List Int) (out:Bool) (x:Int) (v:List Int):Prop:=Loop Qml 0 QsF QvU (QMV K) ⟨[(0,(zcs [TI] a)),(1,(zcs [TI] b)),(6,(.r [TI] 0 0 v.length)),(7,(zcb out)),(17,(zci (a.length:Int))),(18,(zci x))],[(0,(.sl 3 [TI] true v))],1⟩
theorem QEM (a:List Int) (b:List Int) (out:Bool) (x:Int) (v:List Int) (h :
 (zif (decide (x<(a.length:Int))) ((((0:Int)≤x∧Int.toNat x<a.length)∧((0:Int)≤x∧Int.toNat x<b.length))∧(((v.length=v.length∨v.length+1≤v.length)∧v.length+1≤big)∧(Qg3 K a b (out||((JB (gtd (0:Int) a (Int.toNat x)) (gtd (0:Int) b (Int.toNat x))).2)) (w64 (x+(1:Int))) (List.take (v.length+1) ((List.take v.length v)++([(JB (gtd (0:Int) a (Int.toNat x)) (gtd (0:Int) b (Int.toNat x))).1])))))) (K (Qdg ((List.take v.length (List.drop 0 v)),out))))):Qg3 K a b out x v :=
 Loop.of (by kernel_rfl) h
theorem QKm (a:List Int) (b:List Int) (h :
 (zif (!(ZH a b)) (K (Qdg ([],false))) (Qg3 K a b false 0 ([]:List Int)))):Hold (tawp Qml (0+0) QWf (TQ 0 0 QD9 K) (Qg [(.c (.sl [TI]) a),(.c (.sl [TI]) b)])) :=
 Hold.of (by kernel_rfl) h
theorem QGM (a:List Int) (b:List Int):TCon Tryz.prog 124 [(.c (.sl [TI]) a),(.c (.sl [TI]) b)] (Qdg (Zi a b)):=by
 refine Qo rfl fun hb=>tcg (n:=44) (sg:=Qig.sg) Qm (TOk.cons Qh4 (TOk.cons QTo TOk.nil)) (by kernel_rfl) (by kernel_rfl) (QKm _ a b ?_)
 have hl_a:a.length≤9223372036854775807:=hb.1.1
 have hl_b:b.length≤9223372036854775807:=hb.2.1.1
 refine ⟨fun h=>R_eq (by unfold Zi;rw [if_neg (by simpa using h)]),fun h=>?_⟩
 have hp:ZH a b=true:=by simpa using h
 have hl:=JX.1 hp
 have h6:=(Z0.1 hl.1).1
 refine Zp a (fun r k=>∀ (v:List Int) (s:Bool),v.length=k→(v++(vz JB r (b.drop k)).1,s||(vz JB r (b.drop k)).2)=(Zi a b)→Qg3 (fun r'=>r'=Qdg (Zi a b)) a b s k v) ?_ ?_ [] false rfl (by unfold Zi;rw [if_pos hp];simp)
 ·intro v s hv he
  refine QEM (fun r'=>r'=Qdg (Zi a b)) a b _ _ _ ⟨fun h=>by simp at h,fun _=>R_eq ?_⟩
  rw [← he];simp [vz]
 ·intro k x r hk hlt hg ih v s hv he
  obtain ⟨y,q,hq⟩:=Jl (l:=b) (k:=k) (by omega)
  refine QEM (fun r'=>r'=Qdg (Zi a b)) a b _ _ _ ⟨fun _=>?_,fun h=>by simp at h;omega⟩
  rw [Int.toNat_natCast,hg,Yb hq,sc1 (by omega),Q8]
  refine ⟨⟨⟨by omega,hlt⟩,by omega,by omega⟩,room (by omega),ih _ _ (YQ hv) ?_⟩
  rw [← he,hq,vz,ZY hq]
  simp [Bool.or_assoc]
theorem Qsb:Qj Tryz.prog Qig:=Qn fun x _=>QGM x.1 x.2.1
def Qdr (t:(List Int) × Bool):TRes:=zra (.tp [(zcs [TI] t.1),(zcb t.2)])
def Qic:TRow:=Qk 165 [(.c (.sl [TI])),(.c (.sl [TI]))] fun x=>(none,Qdr (Zi x.1 x.2.1))
def QoG:List TRow:=[Qeg,Qpg]
def Qwp:TCode :=
 (zsq [(zsq [(.reg [zmv 12 8,zmv 13 0,zle 14 13,zbi 15 .lss 12 14,zmv 16 15,.grp 16 true [zmv 17 0,zmv 18 1,zca 19 207 [17,18]] 20 19]),(.cond 20 .skip (.exit 0))]),(.block 1 (zsq [(.draw [zmv 24 0,zmv 25 8,zia 26 24 25 [TI],zld 27 26 1,zmv 28 1,zmv 29 8,zia 30 28 29 [TI],zld 31 30 1,zca 32 208 [27,31],zmv 23 32,zex 33 23 0,zex 34 23 1,zmv 9 33,zmv 10 34] []),(.reg [zmv 35 6,zmv 36 9,zop 37 (.bsl 3 [TI] [36]),zop 38 (.app 35 37 3 [TI]),zmv 6 38]),(.reg [zmv 39 7,zmv 40 39,.grp 40 false [zmv 41 10] 42 41,zmv 7 42])])),(.reg [zmv 21 8,zbi 22 .add 21 (zki 1),zmv 8 22])])
def QsG:List (Nat × Md):=[(0,.one .d),(1,.one .d),(6,.one .f),(7,.one .d),(8,.one .d)]
def QAG:TCode :=
 (zsq [(.reg [zmv 43 6,zmv 44 7,zmv 4 43,zmv 5 44]),.ret])
def QTu:TCode :=
 (zsq [(.reg [zmv 4 (.k (.n [TI])),zmv 5 (zkb false)]),(.reg [zop 11 (.bsl 3 [TI] []),zmv 6 11]),(.reg [zmv 7 (zkb false)]),(zsq [(.reg [zmv 8 (zki 0)]),(.block 0 (.loop QsG Qwp))]),QAG])
def QvR:List (ARv × Md):=[(.t 4,.one .d),(.t 5,.one .d)]
def QvF:Qb:=TQ 0 0 QvR K
def QFn:Qb:=Qseq (tawp QoG 0 QAG (QvF K)) (QvF K)
def QST:Qb:=Qblk 0 (QFn K)
def QgS (a:List Int) (b:List Int) (sat:Bool) (i:Int) (out:List Int):Prop:=Loop QoG 0 QsG Qwp (QST K) ⟨[(0,(zcs [TI] a)),(1,(zcs [TI] b)),(6,(.r [TI] 0 0 out.length)),(7,(zcb sat)),(8,(zci i))],[(0,(.sl 3 [TI] true out))],1⟩
theorem Qoi (a:List Int) (b:List Int) (sat:Bool) (i:Int) (out:List Int) (h :
 (zif ((decide (i<(a.length:Int)))&&(ZH a b)) ((((0:Int)≤i∧Int.toNat i<a.length)∧((0:Int)≤i∧Int.toNat i<b.length))∧(((out.length=out.length∨out.length+1≤out.length)∧out.length+1≤big)∧(QgS K a b (sat||((JB (gtd (0:Int) a (Int.toNat i)) (gtd (0:Int) b (Int.toNat i))).2)) (w64 (i+(1:Int))) (List.take (out.length+1) ((List.take out.length out)++([(JB (gtd (0:Int) a (Int.toNat i)) (gtd (0:Int) b (Int.toNat i))).1])))))) (K (Qdr ((List.take out.length (List.drop 0 out)),sat))))):QgS K a b sat i out :=
 Loop.of (by kernel_rfl) h
theorem QKe (a:List Int) (b:List Int) (h :
 (QgS K a b false 0 ([]:List Int))):Hold (tawp QoG (0+0) QTu (TQ 0 0 QvR K) (Qg [(.c (.sl [TI]) a),(.c (.sl [TI]) b)])) :=
 Hold.of (by kernel_rfl) h
theorem QNG (a:List Int) (b:List Int):TCon Tryz.prog 165 [(.c (.sl [TI]) a),(.c (.sl [TI]) b)] (Qdr (Zi a b)):=by
 refine Qo rfl fun hb=>tcg (n:=45) (sg:=Qic.sg) Qm (TOk.cons Qgz (TOk.cons QOi TOk.nil)) (by kernel_rfl) (by kernel_rfl) (QKe _ a b ?_)
 have hl_a:a.length≤9223372036854775807:=hb.1.1
 have hl_b:b.length≤9223372036854775807:=hb.2.1.1
 by_cases hp:ZH a b=true
 rotate_left
 ·refine Qoi (fun r'=>r'=Qdr (Zi a b)) a b _ _ _ ⟨fun h=>by simp [hp] at h,fun _=>R_eq (by unfold Zi;rw [if_neg hp];rfl)⟩
 have hl:=JX.1 hp
 have h6:=(Z0.1 hl.1).1
 refine Zp a (fun r k=>∀ (v:List Int) (s:Bool),v.length=k→(v++(vz JB r (b.drop k)).1,s||(vz JB r (b.drop k)).2)=(Zi a b)→QgS (fun r'=>r'=Qdr (Zi a b)) a b s k v) ?_ ?_ [] false rfl (by unfold Zi;rw [if_pos hp];simp)
 ·intro v s hv he
  refine Qoi (fun r'=>r'=Qdr (Zi a b)) a b _ _ _ ⟨fun h=>by simp at h,fun _=>R_eq ?_⟩
  rw [← he];simp [vz]
 ·intro k x r hk hlt hg ih v s hv he
  obtain ⟨y,q,hq⟩:=Jl (l:=b) (k:=k) (by omega)
  refine Qoi (fun r'=>r'=Qdr (Zi a b)) a b _ _ _ ⟨fun _=>?_,fun h=>by simp [hp] at h;omega⟩
  rw [Int.toNat_natCast,hg,Yb hq,sc1 (by omega),Q8]
  refine ⟨⟨⟨by omega,hlt⟩,by omega,by omega⟩,room (by omega),ih _ _ (YQ hv) ?_⟩
  rw [← he,hq,vz,ZY hq]
  simp [Bool.or_assoc]
theorem QxO:Qj Tryz.prog Qic:=Qn fun x _=>QNG x.1 x.2.1
def QcI (t:(List Int) × Bool):TRes:=zra (.tp [(zcs [TI] t.1),(zcb t.2)])
def Qh8:TRow:=Qk 214 [(.c TI),(.c (.sl [TI]))] fun x=>(none,QcI (ZE x.1 x.2.1))
def QkJ:List TRow:=[Qgq,Qa6,QfL]
def QA1:TCode :=
 (zsq [(.reg [zbi 23 .lss 22 21]),(.cond 23 .skip (.exit 0)),(.block 1 (zsq [(.reg [zmv 24 22,zmv 8 24]),(.reg [zmv 26 0,zmv 27 1,zmv 28 8,zia 29 27 28 [TI],zld 30 29 1,zca 31 216 [26,30],zmv 25 31,zex 32 25 0,zex 33 25 1,zmv 9 32,zmv 10 33]),(.reg [zmv 34 6,zmv 35 9,zop 36 (.bsl 3 [TI] [35]),zop 37 (.app 34 36 3 [TI]),zmv 6 37]),(.reg [zmv 38 7,zmv 39 38,.grp 39 false [zmv 40 10] 41 40,zmv 7 41])])),(.reg [zbi 42 .add 22 (zki 1),zmv 22 42])])
def Qr7:List (Nat × Md):=[(0,.one .d),(1,.one .d),(6,.one .f),(7,.one .d),(21,.one .d),(22,.one .d)]
def Qz3:TCode :=
 (zsq [(.reg [zmv 43 6,zmv 44 7,zmv 4 43,zmv 5 44]),.ret])
def QYR:TCode :=
 (zsq [(.reg [zmv 4 (.k (.n [TI])),zmv 5 (zkb false)]),(zsq [(.reg [zmv 11 0,zca 12 217 [11],zno 13 12,zmv 14 13,.grp 14 false [zmv 15 1,zca 16 134 [15],zno 17 16] 18 17]),(.cond 18 (zsq [(.reg [zmv 4 (.k (.n [TI])),zmv 5 (zkb false)]),.ret]) .skip)]),(.reg [zop 19 (.bsl 3 [TI] []),zmv 6 19]),(.reg [zmv 7 (zkb false)]),(zsq [(.reg [zmv 20 1,zle 21 20,zmv 22 (zki 0)]),(.block 0 (.loop Qr7 QA1))]),Qz3])
def QrX:List (ARv × Md):=[(.t 4,.one .d),(.t 5,.one .d)]
def Qr8:Qb:=TQ 0 0 QrX K
def QUI:Qb:=Qseq (tawp QkJ 0 Qz3 (Qr8 K)) (Qr8 K)
def QO0:Qb:=Qblk 0 (QUI K)
def QgX (c:Int) (a:List Int) (out:Bool) (x:Int) (v:List Int):Prop:=Loop QkJ 0 Qr7 QA1 (QO0 K) ⟨[(0,(zci c)),(1,(zcs [TI] a)),(6,(.r [TI] 0 0 v.length)),(7,(zcb out)),(21,(zci (a.length:Int))),(22,(zci x))],[(0,(.sl 3 [TI] true v))],1⟩
theorem QtP (c:Int) (a:List Int) (out:Bool) (x:Int) (v:List Int) (h :
 (zif (decide (x<(a.length:Int))) (((0:Int)≤x∧Int.toNat x<a.length)∧(((v.length=v.length∨v.length+1≤v.length)∧v.length+1≤big)∧(QgX K c a (out||((Zr c (gtd (0:Int) a (Int.toNat x))).2)) (w64 (x+(1:Int))) (List.take (v.length+1) ((List.take v.length v)++([(Zr c (gtd (0:Int) a (Int.toNat x))).1])))))) (K (QcI ((List.take v.length (List.drop 0 v)),out))))):QgX K c a out x v :=
 Loop.of (by kernel_rfl) h
theorem QPP (c:Int) (a:List Int) (h :
 (zif ((!(Zc c))||(!(QJ a))) (K (QcI ([],false))) (QgX K c a false 0 ([]:List Int)))):Hold (tawp QkJ (0+0) QYR (TQ 0 0 QrX K) (Qg [(.c TI c),(.c (.sl [TI]) a)])) :=
 Hold.of (by kernel_rfl) h
theorem QXT (c:Int) (a:List Int):TCon Tryz.prog 214 [(.c TI c),(.c (.sl [TI]) a)] (QcI (ZE c a)):=by
 refine Qo rfl fun hb=>tcg (n:=45) (sg:=Qh8.sg) Qm (TOk.cons QnW (TOk.cons Qdc (TOk.cons Qmk TOk.nil))) (by kernel_rfl) (by kernel_rfl) (QPP _ c a ?_)
 have hl_a:a.length≤9223372036854775807:=hb.2.1.1
 refine ⟨fun h=>R_eq (by unfold ZE;rw [if_neg (by intro h2;simp at h2;simp [h2] at h)]),fun h=>?_⟩
 have hp:Zc c=true∧QJ a=true:=by simpa using h
 have h6:=(Z0.1 hp.2).1
 refine Zp a (fun r k=>∀ (v:List Int) (s:Bool),v.length=k→(v++(v1 (Zr c) r).1,s||(v1 (Zr c) r).2)=(ZE c a)→QgX (fun r'=>r'=QcI (ZE c a)) c a s k v) ?_ ?_ [] false rfl (by unfold ZE;rw [if_pos (by simp [hp])];simp)
 ·intro v s hv he
  refine QtP (fun r'=>r'=QcI (ZE c a)) c a _ _ _ ⟨fun h=>by simp at h,fun _=>R_eq ?_⟩
  rw [← he];simp [v1]
 ·intro k x r hk hlt hg ih v s hv he
  refine QtP (fun r'=>r'=QcI (ZE c a)) c a _ _ _ ⟨fun _=>?_,fun h=>by simp at h;omega⟩
  rw [Int.toNat_natCast,hg,sc1 (by omega),Q8]
  refine ⟨⟨by omega,hlt⟩,room (by omega),ih _ _ (YQ hv) ?_⟩
  rw [← he,v1]
  simp [Bool.or_assoc]
theorem QrQ:Qj Tryz.prog Qh8:=Qn fun x _=>QXT x.1 x.2.1
def QcH (t:(List Int) × Bool):TRes:=zra (.tp [(zcs [TI] t.1),(zcb t.2)])
def QiL:TRow:=Qk 228 [(.c TI),(.c (.sl [TI]))] fun x=>(none,QcH (ZE x.1 x.2.1))
def Qqj:List TRow:=[Y7,QdT,QfU]
def Qs5:TCode :=
 (zsq [(zsq [(.reg [zmv 12 8,zmv 13 1,zle 14 13,zbi 15 .lss 12 14,zmv 16 15,.grp 16 true [zmv 17 1,zca 18 42 [17]] 19 18,zmv 20 19,.grp 20 true [zmv 21 0,zca 22 110 [21]] 23 22]),(.cond 23 .skip (.exit 0))]),(.block 1 (zsq [(.reg [zmv 27 0,zmv 28 1,zmv 29 8,zia 30 28 29 [TI],zld 31 30 1,zca 32 229 [27,31],zmv 26 32,zex 33 26 0,zex 34 26 1,zmv 9 33,zmv 10 34]),(.reg [zmv 35 6,zmv 36 9,zop 37 (.bsl 3 [TI] [36]),zop 38 (.app 35 37 3 [TI]),zmv 6 38]),(.reg [zmv 39 7,zmv 40 39,.grp 40 false [zmv 41 10] 42 41,zmv 7 42])])),(.reg [zmv 24 8,zbi 25 .add 24 (zki 1),zmv 8 25])])
def Qwz:List (Nat × Md):=[(0,.one .d),(1,.one .d),(6,.one .f),(7,.one .d),(8,.one .d)]
def Qt1:TCode :=
 (zsq [(.reg [zmv 43 6,zmv 44 7,zmv 4 43,zmv 5 44]),.ret])
def QVV:TCode :=
 (zsq [(.reg [zmv 4 (.k (.n [TI])),zmv 5 (zkb false)]),(.reg [zop 11 (.bsl 3 [TI] []),zmv 6 11]),(.reg [zmv 7 (zkb false)]),(zsq [(.reg [zmv 8 (zki 0)]),(.block 0 (.loop Qwz Qs5))]),Qt1])
def Quk:List (ARv × Md):=[(.t 4,.one .d),(.t 5,.one .d)]
def QxA:Qb:=TQ 0 0 Quk K
def QH0:Qb:=Qseq (tawp Qqj 0 Qt1 (QxA K)) (QxA K)
def QMT:Qb:=Qblk 0 (QH0 K)
def QgV (c:Int) (a:List Int) (sat:Bool) (i:Int) (out:List Int):Prop:=Loop Qqj 0 Qwz Qs5 (QMT K) ⟨[(0,(zci c)),(1,(zcs [TI] a)),(6,(.r [TI] 0 0 out.length)),(7,(zcb sat)),(8,(zci i))],[(0,(.sl 3 [TI] true out))],1⟩
theorem Qo5 (c:Int) (a:List Int) (sat:Bool) (i:Int) (out:List Int) (h :
 (zif (((decide (i<(a.length:Int)))&&(QJ a))&&(Zc c)) (((0:Int)≤i∧Int.toNat i<a.length)∧(((out.length=out.length∨out.length+1≤out.length)∧out.length+1≤big)∧(QgV K c a (sat||((Zr c (gtd (0:Int) a (Int.toNat i))).2)) (w64 (i+(1:Int))) (List.take (out.length+1) ((List.take out.length out)++([(Zr c (gtd (0:Int) a (Int.toNat i))).1])))))) (K (QcH ((List.take out.length (List.drop 0 out)),sat))))):QgV K c a sat i out :=
 Loop.of (by kernel_rfl) h
theorem QLy (c:Int) (a:List Int) (h :
 (QgV K c a false 0 ([]:List Int))):Hold (tawp Qqj (0+0) QVV (TQ 0 0 Quk K) (Qg [(.c TI c),(.c (.sl [TI]) a)])) :=
 Hold.of (by kernel_rfl) h
theorem QJ9 (c:Int) (a:List Int):TCon Tryz.prog 228 [(.c TI c),(.c (.sl [TI]) a)] (QcH (ZE c a)):=by
 refine Qo rfl fun hb=>tcg (n:=45) (sg:=QiL.sg) Qm (TOk.cons Jp (TOk.cons QhM (TOk.cons QkU TOk.nil))) (by kernel_rfl) (by kernel_rfl) (QLy _ c a ?_)
 have hl_a:a.length≤9223372036854775807:=hb.2.1.1
 by_cases hp:Zc c=true∧QJ a=true
 rotate_left
 ·refine Qo5 (fun r'=>r'=QcH (ZE c a)) c a _ _ _ ⟨fun h=>absurd (by simp at h;exact ⟨h.2,h.1.2⟩) hp,fun _=>R_eq (by unfold ZE;rw [if_neg (by simpa using hp)];rfl)⟩
 have h6:=(Z0.1 hp.2).1
 refine Zp a (fun r k=>∀ (v:List Int) (s:Bool),v.length=k→(v++(v1 (Zr c) r).1,s||(v1 (Zr c) r).2)=(ZE c a)→QgV (fun r'=>r'=QcH (ZE c a)) c a s k v) ?_ ?_ [] false rfl (by unfold ZE;rw [if_pos (by simp [hp])];simp)
 ·intro v s hv he
  refine Qo5 (fun r'=>r'=QcH (ZE c a)) c a _ _ _ ⟨fun h=>by simp at h,fun _=>R_eq ?_⟩
  rw [← he];simp [v1]
 ·intro k x r hk hlt hg ih v s hv he
  refine Qo5 (fun r'=>r'=QcH (ZE c a)) c a _ _ _ ⟨fun _=>?_,fun h=>by simp [hp] at h;omega⟩
  rw [Int.toNat_natCast,hg,sc1 (by omega),Q8]
  refine ⟨⟨by omega,hlt⟩,room (by omega),ih _ _ (YQ hv) ?_⟩
  rw [← he,v1]
  simp [Bool.or_assoc]
theorem Qwe:Qj Tryz.prog QiL:=Qn fun x _=>QJ9 x.1 x.2.1
def QcU (t:Int × Bool):TRes:=zre (.tp [(zci t.1),(zcb t.2)])
def Qf6:TRow:=Qk 188 [(.c (.sl [TI])),(.c (.sl [TI]))] fun x=>(none,QcU (Q3 x.1 x.2.1))
def QnP:List TRow:=[Qef,QfL,QeF]
def QBD:TCode :=
 (zsq [(.reg [zbi 20 .lss 19 18]),(.cond 20 .skip (.exit 0)),(.block 1 (zsq [(.reg [zmv 21 19,zmv 8 21]),(.draw [zmv 23 0,zmv 24 8,zia 25 23 24 [TI],zld 26 25 1,zmv 27 1,zmv 28 8,zia 29 27 28 [TI],zld 30 29 1,zca 31 216 [26,30],zmv 22 31,zex 32 22 0,zex 33 22 1,zmv 9 32,zmv 10 33] []),(.reg [zmv 35 6,zmv 36 9,zca 37 121 [35,36],zmv 34 37,zex 38 34 0,zex 39 34 1,zmv 11 38,zmv 12 39]),(.reg [zmv 40 11,zmv 6 40]),(.reg [zmv 41 7,zmv 42 41,.grp 42 false [zmv 43 10] 44 43,zmv 45 44,.grp 45 false [zmv 46 12] 47 46,zmv 7 47])])),(.reg [zbi 48 .add 19 (zki 1),zmv 19 48])])
def Qyl:List (Nat × Md):=zdl [0,1,6,7,18,19]
def Qrd:TCode :=
 (zsq [(.reg [zmv 49 6,zmv 50 7,zmv 4 49,zmv 5 50]),.ret])
def QG3:TCode :=
 (zsq [(.reg [zmv 4 (zki 0),zmv 5 (zkb false)]),(zsq [(.reg [zmv 13 0,zmv 14 1,zca 15 191 [13,14],zno 16 15]),(.cond 16 (zsq [(.reg [zmv 4 (zki 0),zmv 5 (zkb false)]),.ret]) .skip)]),(.reg [zmv 6 (zki 0)]),(.reg [zmv 7 (zkb false)]),(zsq [(.reg [zmv 17 0,zle 18 17,zmv 19 (zki 0)]),(.block 0 (.loop Qyl QBD))]),Qrd])
def QCk:List (ARv × Md):=[(.t 4,.one .d),(.t 5,.one .d)]
def QCQ:Qb:=TQ 0 0 QCk K
def QR1:Qb:=Qseq (tawp QnP 0 Qrd (QCQ K)) (QCQ K)
def QI7:Qb:=Qblk 0 (QR1 K)
def Qkj (a:List Int) (b:List Int) (sum:Int) (out:Bool) (x:Int):Prop:=Loop QnP 0 Qyl QBD (QI7 K) ⟨[(0,(zcs [TI] a)),(1,(zcs [TI] b)),(6,(zci sum)),(7,(zcb out)),(18,(zci (a.length:Int))),(19,(zci x))],[],0⟩
theorem QuW (a:List Int) (b:List Int) (sum:Int) (out:Bool) (x:Int) (h :
 (zif (decide (x<(a.length:Int))) ((((0:Int)≤x∧Int.toNat x<a.length)∧((0:Int)≤x∧Int.toNat x<b.length))∧(Qkj K a b ((Q4 sum ((Zr (gtd (0:Int) a (Int.toNat x)) (gtd (0:Int) b (Int.toNat x))).1)).1) ((out||((Zr (gtd (0:Int) a (Int.toNat x)) (gtd (0:Int) b (Int.toNat x))).2))||((Q4 sum ((Zr (gtd (0:Int) a (Int.toNat x)) (gtd (0:Int) b (Int.toNat x))).1)).2)) (w64 (x+(1:Int))))) (K (QcU (sum,out))))):Qkj K a b sum out x :=
 Loop.of (by kernel_rfl) h
theorem QJF (a:List Int) (b:List Int) (h :
 (zif (!(ZH a b)) (K (QcU ((0:Int),false))) (Qkj K a b 0 false 0))):Hold (tawp QnP (0+0) QG3 (TQ 0 0 QCk K) (Qg [(.c (.sl [TI]) a),(.c (.sl [TI]) b)])) :=
 Hold.of (by kernel_rfl) h
theorem QQh (a:List Int) (b:List Int):TCon Tryz.prog 188 [(.c (.sl [TI]) a),(.c (.sl [TI]) b)] (QcU (Q3 a b)):=by
 refine Qo rfl fun hb=>tcg (n:=51) (sg:=Qf6.sg) Qm (TOk.cons Qh4 (TOk.cons Qmk (TOk.cons QgO TOk.nil))) (by kernel_rfl) (by kernel_rfl) (QJF _ a b ?_)
 have hl_a:a.length≤9223372036854775807:=hb.1.1
 have hl_b:b.length≤9223372036854775807:=hb.2.1.1
 refine ⟨fun h=>R_eq (by unfold Q3;rw [if_neg (by simpa using h)]),fun h=>?_⟩
 have hp:ZH a b=true:=by simpa using h
 have hl:=JX.1 hp
 have h6:=(Z0.1 hl.1).1
 refine Zp a (fun r k=>∀ (z:Int) (s:Bool),((Jb r (b.drop k) z).1,s||(Jb r (b.drop k) z).2)=(Q3 a b)→Qkj (fun r'=>r'=QcU (Q3 a b)) a b z s k) ?_ ?_ 0 false (by unfold Q3;rw [if_pos hp];simp)
 ·intro z s he
  refine QuW (fun r'=>r'=QcU (Q3 a b)) a b _ _ _ ⟨fun h=>by simp at h,fun _=>R_eq ?_⟩
  rw [← he];simp [Jb]
 ·intro k x r hk hlt hg ih z s he
  obtain ⟨y,q,hq⟩:=Jl (l:=b) (k:=k) (by omega)
  refine QuW (fun r'=>r'=QcU (Q3 a b)) a b _ _ _ ⟨fun _=>?_,fun h=>by simp at h;omega⟩
  rw [Int.toNat_natCast,hg,Yb hq,sc1 (by omega)]
  refine ⟨⟨⟨by omega,hlt⟩,by omega,by omega⟩,ih _ _ ?_⟩
  rw [← he,hq,Jb,ZY hq]
  simp [Bool.or_assoc]
theorem QlK:Qj Tryz.prog Qf6:=Qn fun x _=>QQh x.1 x.2.1
def QcP (t:Int × Bool):TRes:=zre (.tp [(zci t.1),(zcb t.2)])
def Qew:TRow:=Qk 206 [(.c (.sl [TI])),(.c (.sl [TI]))] fun x=>(none,QcP (Q3 x.1 x.2.1))
def Qm4:List TRow:=[Qeg,QfU,Qdp]
def QEo:TCode :=
 (zsq [(zsq [(.reg [zmv 13 8,zmv 14 0,zle 15 14,zbi 16 .lss 13 15,zmv 17 16,.grp 17 true [zmv 18 0,zmv 19 1,zca 20 207 [18,19]] 21 20]),(.cond 21 .skip (.exit 0))]),(.block 1 (zsq [(.draw [zmv 25 0,zmv 26 8,zia 27 25 26 [TI],zld 28 27 1,zmv 29 1,zmv 30 8,zia 31 29 30 [TI],zld 32 31 1,zca 33 229 [28,32],zmv 24 33,zex 34 24 0,zex 35 24 1,zmv 9 34,zmv 10 35] []),(.reg [zmv 37 6,zmv 38 9,zca 39 162 [37,38],zmv 36 39,zex 40 36 0,zex 41 36 1,zmv 11 40,zmv 12 41]),(.reg [zmv 42 11,zmv 6 42]),(.reg [zmv 43 7,zmv 44 43,.grp 44 false [zmv 45 10] 46 45,zmv 47 46,.grp 47 false [zmv 48 12] 49 48,zmv 7 49])])),(.reg [zmv 22 8,zbi 23 .add 22 (zki 1),zmv 8 23])])
def Quu:List (Nat × Md):=zdl [0,1,6,7,8]
def QB9:TCode :=
 (zsq [(.reg [zmv 50 6,zmv 51 7,zmv 4 50,zmv 5 51]),.ret])
def QWE:TCode :=
 (zsq [(.reg [zmv 4 (zki 0),zmv 5 (zkb false)]),(.reg [zmv 6 (zki 0)]),(.reg [zmv 7 (zkb false)]),(zsq [(.reg [zmv 8 (zki 0)]),(.block 0 (.loop Quu QEo))]),QB9])
def Qq4:List (ARv × Md):=[(.t 4,.one .d),(.t 5,.one .d)]
def Qvg:Qb:=TQ 0 0 Qq4 K
def QNE:Qb:=Qseq (tawp Qm4 0 QB9 (Qvg K)) (Qvg K)
def QPm:Qb:=Qblk 0 (QNE K)
def QhZ (a:List Int) (b:List Int) (sum:Int) (sat:Bool) (i:Int):Prop:=Loop Qm4 0 Quu QEo (QPm K) ⟨[(0,(zcs [TI] a)),(1,(zcs [TI] b)),(6,(zci sum)),(7,(zcb sat)),(8,(zci i))],[],0⟩
theorem Qly (a:List Int) (b:List Int) (sum:Int) (sat:Bool) (i:Int) (h :
 (zif ((decide (i<(a.length:Int)))&&(ZH a b)) ((((0:Int)≤i∧Int.toNat i<a.length)∧((0:Int)≤i∧Int.toNat i<b.length))∧(QhZ K a b ((Q4 sum ((Zr (gtd (0:Int) a (Int.toNat i)) (gtd (0:Int) b (Int.toNat i))).1)).1) ((sat||((Zr (gtd (0:Int) a (Int.toNat i)) (gtd (0:Int) b (Int.toNat i))).2))||((Q4 sum ((Zr (gtd (0:Int) a (Int.toNat i)) (gtd (0:Int) b (Int.toNat i))).1)).2)) (w64 (i+(1:Int))))) (K (QcP (sum,sat))))):QhZ K a b sum sat i :=
 Loop.of (by kernel_rfl) h
theorem QE5 (a:List Int) (b:List Int) (h :
 (QhZ K a b 0 false 0)):Hold (tawp Qm4 (0+0) QWE (TQ 0 0 Qq4 K) (Qg [(.c (.sl [TI]) a),(.c (.sl [TI]) b)])) :=
 Hold.of (by kernel_rfl) h
theorem QXA (a:List Int) (b:List Int):TCon Tryz.prog 206 [(.c (.sl [TI]) a),(.c (.sl [TI]) b)] (QcP (Q3 a b)):=by
 refine Qo rfl fun hb=>tcg (n:=52) (sg:=Qew.sg) Qm (TOk.cons Qgz (TOk.cons QkU (TOk.cons Qfd TOk.nil))) (by kernel_rfl) (by kernel_rfl) (QE5 _ a b ?_)
 have hl_a:a.length≤9223372036854775807:=hb.1.1
 have hl_b:b.length≤9223372036854775807:=hb.2.1.1
 by_cases hp:ZH a b=true
 rotate_left
 ·refine Qly (fun r'=>r'=QcP (Q3 a b)) a b _ _ _ ⟨fun h=>by simp [hp] at h,fun _=>R_eq (by unfold Q3;rw [if_neg hp])⟩
 have hl:=JX.1 hp
 have h6:=(Z0.1 hl.1).1
 refine Zp a (fun r k=>∀ (z:Int) (s:Bool),((Jb r (b.drop k) z).1,s||(Jb r (b.drop k) z).2)=(Q3 a b)→QhZ (fun r'=>r'=QcP (Q3 a b)) a b z s k) ?_ ?_ 0 false (by unfold Q3;rw [if_pos hp];simp)
 ·intro z s he
  refine Qly (fun r'=>r'=QcP (Q3 a b)) a b _ _ _ ⟨fun h=>by simp at h,fun _=>R_eq ?_⟩
  rw [← he];simp [Jb]
 ·intro k x r hk hlt hg ih z s he
  obtain ⟨y,q,hq⟩:=Jl (l:=b) (k:=k) (by omega)
  refine Qly (fun r'=>r'=QcP (Q3 a b)) a b _ _ _ ⟨fun _=>?_,fun h=>by simp [hp] at h;omega⟩
  rw [Int.toNat_natCast,hg,Yb hq,sc1 (by omega)]
  refine ⟨⟨⟨by omega,hlt⟩,by omega,by omega⟩,ih _ _ ?_⟩
  rw [← he,hq,Jb,ZY hq]
  simp [Bool.or_assoc]
theorem QkA:Qj Tryz.prog Qew:=Qn fun x _=>QXA x.1 x.2.1
def QcF (t:(List Int)):TRes:=zra (zcs [TI] t)
def Qpa:TRow:=Qk 215 [(.c (.sl [TI]))] fun x=>(none,QcF (Yj x.1))
def QkO:List TRow:=[Qa6,QmY]
def Qy4:TCode :=
 (zsq [(.reg [zbi 13 .lss 12 11]),(.cond 13 .skip (.exit 0)),(.block 1 (zsq [(.reg [zia 14 10 12 [TI],zld 15 14 1,zmv 5 15]),(.reg [zmv 16 3,zmv 17 5,zca 18 234 [17],zop 19 (.bsl 3 [TI] [18]),zop 20 (.app 16 19 3 [TI]),zmv 3 20])])),(.reg [zbi 21 .add 12 (zki 1),zmv 12 21])])
def QAP:List (Nat × Md):=[(3,.one .f),(10,.one .d),(11,.one .d),(12,.one .d)]
def QBz:TCode :=
 (zsq [(.reg [zmv 22 3,zmv 2 22]),.ret])
def QPy:TCode :=
 (zsq [(.reg [zmv 2 (.k (.n [TI]))]),(zsq [(.reg [zmv 6 0,zca 7 134 [6],zno 8 7]),(.cond 8 (zsq [(.reg [zmv 2 (.k (.n [TI]))]),.ret]) .skip)]),(.reg [zop 9 (.bsl 3 [TI] []),zmv 3 9]),(zsq [(.reg [zmv 10 0,zle 11 10,zmv 12 (zki 0)]),(.block 0 (.loop QAP Qy4))]),QBz])
def Qq7:List (ARv × Md):=[(.t 2,.one .d)]
def QxS:Qb:=TQ 0 0 Qq7 K
def QSZ:Qb:=Qseq (tawp QkO 0 QBz (QxS K)) (QxS K)
def QNL:Qb:=Qblk 0 (QSZ K)
def QiO (a:List Int) (x:Int) (v:List Int):Prop:=Loop QkO 0 QAP Qy4 (QNL K) ⟨[(3,(.r [TI] 0 0 v.length)),(10,(zcs [TI] a)),(11,(zci (a.length:Int))),(12,(zci x))],[(0,(.sl 3 [TI] true v))],1⟩
theorem Qrv (a:List Int) (x:Int) (v:List Int) (h :
 (zif (decide (x<(a.length:Int))) (((0:Int)≤x∧Int.toNat x<a.length)∧(((v.length=v.length∨v.length+1≤v.length)∧v.length+1≤big)∧(QiO K a (w64 (x+(1:Int))) (List.take (v.length+1) ((List.take v.length v)++([(Qan (gtd (0:Int) a (Int.toNat x)))])))))) (K (QcF (List.take v.length (List.drop 0 v)))))):QiO K a x v :=
 Loop.of (by kernel_rfl) h
theorem QQU (a:List Int) (h :
 (zif (!(QJ a)) (K (QcF ([]))) (QiO K a 0 ([]:List Int)))):Hold (tawp QkO (0+0) QPy (TQ 0 0 Qq7 K) (Qg [(.c (.sl [TI]) a)])) :=
 Hold.of (by kernel_rfl) h
theorem QTj (a:List Int):TCon Tryz.prog 215 [(.c (.sl [TI]) a)] (QcF (Yj a)):=by
 refine Qo rfl fun hb=>tcg (n:=23) (sg:=Qpa.sg) Qm (TOk.cons Qdc (TOk.cons QIk TOk.nil)) (by kernel_rfl) (by kernel_rfl) (QQU _ a ?_)
 have hl_a:a.length≤9223372036854775807:=hb.1.1
 refine ⟨fun h=>R_eq (by unfold Yj;rw [if_neg (by simpa using h)]),fun h=>?_⟩
 have hp:QJ a=true:=by simpa using h
 have h6:=(Z0.1 hp).1
 refine Zp a (fun r k=>∀ (v:List Int),v.length=k→v++r.map Qan=(Yj a)→QiO (fun r'=>r'=QcF (Yj a)) a k v) ?_ ?_ [] rfl (by unfold Yj;rw [if_pos hp];simp)
 ·intro v hv he
  refine Qrv (fun r'=>r'=QcF (Yj a)) a _ _ ⟨fun h=>by simp at h,fun _=>R_eq ?_⟩
  rw [← he];simp
 ·intro k x r hk hlt hg ih v hv he
  refine Qrv (fun r'=>r'=QcF (Yj a)) a _ _ ⟨fun _=>?_,fun h=>by simp at h;omega⟩
  rw [Int.toNat_natCast,hg,sc1 (by omega),Q8]
  refine ⟨⟨by omega,hlt⟩,room (by omega),ih _ (YQ hv) ?_⟩
  rw [← he];simp
theorem QOg:Qj Tryz.prog Qpa:=Qn fun x _=>QTj x.1
def QcS (t:(List Int)):TRes:=zra (zcs [TI] t)
def Qot:TRow:=Qk 227 [(.c (.sl [TI]))] fun x=>(none,QcS (Yj x.1))
def QpY:List TRow:=[Y7,QmH]
def QEk:TCode :=
 (zsq [(zsq [(.reg [zmv 6 4,zmv 7 0,zle 8 7,zbi 9 .lss 6 8,zmv 10 9,.grp 10 true [zmv 11 0,zca 12 42 [11]] 13 12]),(.cond 13 .skip (.exit 0))]),(.block 1 (.reg [zmv 16 3,zmv 17 0,zmv 18 4,zia 19 17 18 [TI],zld 20 19 1,zca 21 238 [20],zop 22 (.bsl 3 [TI] [21]),zop 23 (.app 16 22 3 [TI]),zmv 3 23])),(.reg [zmv 14 4,zbi 15 .add 14 (zki 1),zmv 4 15])])
def Qs0:List (Nat × Md):=[(0,.one .d),(3,.one .f),(4,.one .d)]
def QAe:TCode :=
 (zsq [(.reg [zmv 24 3,zmv 2 24]),.ret])
def QMZ:TCode :=
 (zsq [(.reg [zmv 2 (.k (.n [TI]))]),(.reg [zop 5 (.bsl 3 [TI] []),zmv 3 5]),(zsq [(.reg [zmv 4 (zki 0)]),(.block 0 (.loop Qs0 QEk))]),QAe])
def QrP:List (ARv × Md):=[(.t 2,.one .d)]
def QA4:Qb:=TQ 0 0 QrP K
def QJt:Qb:=Qseq (tawp QpY 0 QAe (QA4 K)) (QA4 K)
def QTe:Qb:=Qblk 0 (QJt K)
def Qjf (a:List Int) (i:Int) (out:List Int):Prop:=Loop QpY 0 Qs0 QEk (QTe K) ⟨[(0,(zcs [TI] a)),(3,(.r [TI] 0 0 out.length)),(4,(zci i))],[(0,(.sl 3 [TI] true out))],1⟩
theorem QlL (a:List Int) (i:Int) (out:List Int) (h :
 (zif ((decide (i<(a.length:Int)))&&(QJ a)) ((((0:Int)≤i∧Int.toNat i<a.length)∧((out.length=out.length∨out.length+1≤out.length)∧out.length+1≤big))∧(Qjf K a (w64 (i+(1:Int))) (List.take (out.length+1) ((List.take out.length out)++([(Qan (gtd (0:Int) a (Int.toNat i)))]))))) (K (QcS (List.take out.length (List.drop 0 out)))))):Qjf K a i out :=
 Loop.of (by kernel_rfl) h
theorem QM4 (a:List Int) (h :
 (Qjf K a 0 ([]:List Int))):Hold (tawp QpY (0+0) QMZ (TQ 0 0 QrP K) (Qg [(.c (.sl [TI]) a)])) :=
 Hold.of (by kernel_rfl) h
theorem QT4 (a:List Int):TCon Tryz.prog 227 [(.c (.sl [TI]) a)] (QcS (Yj a)):=by
 refine Qo rfl fun hb=>tcg (n:=25) (sg:=Qot.sg) Qm (TOk.cons Jp (TOk.cons QVG TOk.nil)) (by kernel_rfl) (by kernel_rfl) (QM4 _ a ?_)
 have hl_a:a.length≤9223372036854775807:=hb.1.1
 by_cases hp:QJ a=true
 rotate_left
 ·refine QlL (fun r'=>r'=QcS (Yj a)) a _ _ ⟨fun h=>by simp [hp] at h,fun _=>R_eq (by unfold Yj;rw [if_neg hp];rfl)⟩
 have h6:=(Z0.1 hp).1
 refine Zp a (fun r k=>∀ (v:List Int),v.length=k→v++r.map Qan=(Yj a)→Qjf (fun r'=>r'=QcS (Yj a)) a k v) ?_ ?_ [] rfl (by unfold Yj;rw [if_pos hp];simp)
 ·intro v hv he
  refine QlL (fun r'=>r'=QcS (Yj a)) a _ _ ⟨fun h=>by simp at h,fun _=>R_eq ?_⟩
  rw [← he];simp
 ·intro k x r hk hlt hg ih v hv he
  refine QlL (fun r'=>r'=QcS (Yj a)) a _ _ ⟨fun _=>?_,fun h=>by simp [hp] at h;omega⟩
  rw [Int.toNat_natCast,hg,sc1 (by omega),Q8]
  refine ⟨⟨⟨by omega,hlt⟩,room (by omega)⟩,ih _ (YQ hv) ?_⟩
  rw [← he];simp
theorem QQz:Qj Tryz.prog Qot:=Qn fun x _=>QT4 x.1
def QcL (t:(List Int)):TRes:=zra (zcs [TI] t)
def Qnk:TRow:=Qk 220 [(.c (.sl [TI])),(.c (.sl [TI]))] fun x=>(none,QcL (Yn x.1 x.2.1))
def QpW:List TRow:=[Qef]
def Qs1:TCode :=
 (zsq [(.reg [zbi 15 .lss 14 13]),(.cond 15 .skip (.exit 0)),(.block 1 (zsq [(.reg [zmv 16 14,zmv 6 16]),(.reg [zmv 17 0,zmv 18 6,zia 19 17 18 [TI],zld 20 19 1,zbi 21 .gtr 20 (zki 0)]),(.cond 21 (.reg [zmv 22 5,zmv 23 1,zmv 24 6,zia 25 23 24 [TI],zld 26 25 1,zop 27 (.bsl 3 [TI] [26]),zop 28 (.app 22 27 3 [TI]),zmv 5 28]) (.reg [zmv 29 5,zop 30 (.bsl 3 [TI] [(zki 0)]),zop 31 (.app 29 30 3 [TI]),zmv 5 31]))])),(.reg [zbi 32 .add 14 (zki 1),zmv 14 32])])
def QrY:List (Nat × Md):=[(0,.one .d),(1,.one .d),(5,.one .f),(13,.one .d),(14,.one .d)]
def Qvs:TCode :=
 (zsq [(.reg [zmv 33 5,zmv 4 33]),.ret])
def QXi:TCode :=
 (zsq [(.reg [zmv 4 (.k (.n [TI]))]),(zsq [(.reg [zmv 7 0,zmv 8 1,zca 9 191 [7,8],zno 10 9]),(.cond 10 (zsq [(.reg [zmv 4 (.k (.n [TI]))]),.ret]) .skip)]),(.reg [zop 11 (.bsl 3 [TI] []),zmv 5 11]),(zsq [(.reg [zmv 12 0,zle 13 12,zmv 14 (zki 0)]),(.block 0 (.loop QrY Qs1))]),Qvs])
def QAI:List (ARv × Md):=[(.t 4,.one .d)]
def QzE:Qb:=TQ 0 0 QAI K
def QSw:Qb:=Qseq (tawp QpW 0 Qvs (QzE K)) (QzE K)
def QHv:Qb:=Qblk 0 (QSw K)
def Qfq (x:List Int) (d:List Int) (x1:Int) (v:List Int):Prop:=Loop QpW 0 QrY Qs1 (QHv K) ⟨[(0,(zcs [TI] x)),(1,(zcs [TI] d)),(5,(.r [TI] 0 0 v.length)),(13,(zci (x.length:Int))),(14,(zci x1))],[(0,(.sl 3 [TI] true v))],1⟩
theorem QA8 (x:List Int) (d:List Int) (x1:Int) (v:List Int) (h :
 (zif (decide (x1<(x.length:Int))) (((0:Int)≤x1∧Int.toNat x1<x.length)∧(zif (decide ((gtd (0:Int) x (Int.toNat x1))>(0:Int))) ((((0:Int)≤x1∧Int.toNat x1<d.length)∧((v.length=v.length∨v.length+1≤v.length)∧v.length+1≤big))∧(Qfq K x d (w64 (x1+(1:Int))) (List.take (v.length+1) ((List.take v.length v)++([(gtd (0:Int) d (Int.toNat x1))]))))) (((v.length=v.length∨v.length+1≤v.length)∧v.length+1≤big)∧(Qfq K x d (w64 (x1+(1:Int))) (List.take (v.length+1) ((List.take v.length v)++([(0:Int)]))))))) (K (QcL (List.take v.length (List.drop 0 v)))))):Qfq K x d x1 v :=
 Loop.of (by kernel_rfl) h
theorem QH2 (x:List Int) (d:List Int) (h :
 (zif (!(ZH x d)) (K (QcL ([]))) (Qfq K x d 0 ([]:List Int)))):Hold (tawp QpW (0+0) QXi (TQ 0 0 QAI K) (Qg [(.c (.sl [TI]) x),(.c (.sl [TI]) d)])) :=
 Hold.of (by kernel_rfl) h
theorem QEV (x:List Int) (d:List Int):TCon Tryz.prog 220 [(.c (.sl [TI]) x),(.c (.sl [TI]) d)] (QcL (Yn x d)):=by
 refine Qo rfl fun hb=>tcg (n:=34) (sg:=Qnk.sg) Qm (TOk.cons Qh4 TOk.nil) (by kernel_rfl) (by kernel_rfl) (QH2 _ x d ?_)
 have hl_x:x.length≤9223372036854775807:=hb.1.1
 have hl_d:d.length≤9223372036854775807:=hb.2.1.1
 refine ⟨fun h=>R_eq (by unfold Yn;rw [if_neg (by simpa using h)]),fun h=>?_⟩
 have hp:ZH x d=true:=by simpa using h
 have hl:=JX.1 hp
 have h6:=(Z0.1 hl.1).1
 refine Zp x (fun r k=>∀ (v:List Int),v.length=k→v++List.zipWith (fun a b=>if 0<a then b else 0) r (d.drop k)=(Yn x d)→Qfq (fun r'=>r'=QcL (Yn x d)) x d k v) ?_ ?_ [] rfl (by unfold Yn;rw [if_pos hp];simp)
 ·intro v hv he
  refine QA8 (fun r'=>r'=QcL (Yn x d)) x d _ _ ⟨fun h=>by simp at h,fun _=>R_eq ?_⟩
  rw [← he];simp
 ·intro k y r hk hlt hg ih v hv he
  obtain ⟨z,q,hq⟩:=Jl (l:=d) (k:=k) (by omega)
  refine QA8 (fun r'=>r'=QcL (Yn x d)) x d _ _ ⟨fun _=>?_,fun h=>by simp at h;omega⟩
  rw [Int.toNat_natCast,hg,Yb hq,sc1 (by omega),Q8,Q8]
  rw [hq,List.zipWith_cons_cons,← ZY hq] at he
  refine ⟨⟨by omega,hlt⟩,fun h=>⟨⟨⟨by omega,by omega⟩,room (by omega)⟩,ih _ (YQ hv) ?_⟩,fun h=>⟨room (by omega),ih _ (YQ hv) ?_⟩⟩
  ·rw [← he,if_pos (by simpa using h)];simp
  ·rw [← he,if_neg (by simpa using h)];simp
theorem QOq:Qj Tryz.prog Qnk:=Qn fun x _=>QEV x.1 x.2.1
def Qc2 (t:(List Int)):TRes:=zra (zcs [TI] t)
def Qqf:TRow:=Qk 230 [(.c (.sl [TI])),(.c (.sl [TI]))] fun x=>(none,Qc2 (Yn x.1 x.2.1))
def QpO:List TRow:=[Qeg]
def QEi:TCode :=
 (zsq [(zsq [(.reg [zmv 8 6,zmv 9 0,zle 10 9,zbi 11 .lss 8 10,zmv 12 11,.grp 12 true [zmv 13 0,zmv 14 1,zca 15 207 [13,14]] 16 15]),(.cond 16 .skip (.exit 0))]),(.block 1 (zsq [(.reg [zmv 19 0,zmv 20 6,zia 21 19 20 [TI],zld 22 21 1,zbi 23 .gtr 22 (zki 0)]),(.cond 23 (.reg [zmv 24 5,zmv 25 1,zmv 26 6,zia 27 25 26 [TI],zld 28 27 1,zop 29 (.bsl 3 [TI] [28]),zop 30 (.app 24 29 3 [TI]),zmv 5 30]) (.reg [zmv 31 5,zop 32 (.bsl 3 [TI] [(zki 0)]),zop 33 (.app 31 32 3 [TI]),zmv 5 33]))])),(.reg [zmv 17 6,zbi 18 .add 17 (zki 1),zmv 6 18])])
def Qu5:List (Nat × Md):=[(0,.one .d),(1,.one .d),(5,.one .f),(6,.one .d)]
def QvX:TCode :=
 (zsq [(.reg [zmv 34 5,zmv 4 34]),.ret])
def QLt:TCode :=
 (zsq [(.reg [zmv 4 (.k (.n [TI]))]),(.reg [zop 7 (.bsl 3 [TI] []),zmv 5 7]),(zsq [(.reg [zmv 6 (zki 0)]),(.block 0 (.loop Qu5 QEi))]),QvX])
def Qt7:List (ARv × Md):=[(.t 4,.one .d)]
def Qyr:Qb:=TQ 0 0 Qt7 K
def QP7:Qb:=Qseq (tawp QpO 0 QvX (Qyr K)) (Qyr K)
def QSv:Qb:=Qblk 0 (QP7 K)
def Qff (x:List Int) (d:List Int) (i:Int) (out:List Int):Prop:=Loop QpO 0 Qu5 QEi (QSv K) ⟨[(0,(zcs [TI] x)),(1,(zcs [TI] d)),(5,(.r [TI] 0 0 out.length)),(6,(zci i))],[(0,(.sl 3 [TI] true out))],1⟩
theorem Qpe (x:List Int) (d:List Int) (i:Int) (out:List Int) (h :
 (zif ((decide (i<(x.length:Int)))&&(ZH x d)) (((0:Int)≤i∧Int.toNat i<x.length)∧(zif (decide ((gtd (0:Int) x (Int.toNat i))>(0:Int))) ((((0:Int)≤i∧Int.toNat i<d.length)∧((out.length=out.length∨out.length+1≤out.length)∧out.length+1≤big))∧(Qff K x d (w64 (i+(1:Int))) (List.take (out.length+1) ((List.take out.length out)++([(gtd (0:Int) d (Int.toNat i))]))))) (((out.length=out.length∨out.length+1≤out.length)∧out.length+1≤big)∧(Qff K x d (w64 (i+(1:Int))) (List.take (out.length+1) ((List.take out.length out)++([(0:Int)]))))))) (K (Qc2 (List.take out.length (List.drop 0 out)))))):Qff K x d i out :=
 Loop.of (by kernel_rfl) h
theorem QX1 (x:List Int) (d:List Int) (h :
 (Qff K x d 0 ([]:List Int))):Hold (tawp QpO (0+0) QLt (TQ 0 0 Qt7 K) (Qg [(.c (.sl [TI]) x),(.c (.sl [TI]) d)])) :=
 Hold.of (by kernel_rfl) h
theorem QG1 (x:List Int) (d:List Int):TCon Tryz.prog 230 [(.c (.sl [TI]) x),(.c (.sl [TI]) d)] (Qc2 (Yn x d)):=by
 refine Qo rfl fun hb=>tcg (n:=35) (sg:=Qqf.sg) Qm (TOk.cons Qgz TOk.nil) (by kernel_rfl) (by kernel_rfl) (QX1 _ x d ?_)
 have hl_x:x.length≤9223372036854775807:=hb.1.1
 have hl_d:d.length≤9223372036854775807:=hb.2.1.1
 by_cases hp:ZH x d=true
 rotate_left
 ·refine Qpe (fun r'=>r'=Qc2 (Yn x d)) x d _ _ ⟨fun h=>by simp [hp] at h,fun _=>R_eq (by unfold Yn;rw [if_neg hp];rfl)⟩
 have hl:=JX.1 hp
 have h6:=(Z0.1 hl.1).1
 refine Zp x (fun r k=>∀ (v:List Int),v.length=k→v++List.zipWith (fun a b=>if 0<a then b else 0) r (d.drop k)=(Yn x d)→Qff (fun r'=>r'=Qc2 (Yn x d)) x d k v) ?_ ?_ [] rfl (by unfold Yn;rw [if_pos hp];simp)
 ·intro v hv he
  refine Qpe (fun r'=>r'=Qc2 (Yn x d)) x d _ _ ⟨fun h=>by simp at h,fun _=>R_eq ?_⟩
  rw [← he];simp
 ·intro k y r hk hlt hg ih v hv he
  obtain ⟨z,q,hq⟩:=Jl (l:=d) (k:=k) (by omega)
  refine Qpe (fun r'=>r'=Qc2 (Yn x d)) x d _ _ ⟨fun _=>?_,fun h=>by simp [hp] at h;omega⟩
  rw [Int.toNat_natCast,hg,Yb hq,sc1 (by omega),Q8,Q8]
  rw [hq,List.zipWith_cons_cons,← ZY hq] at he
  refine ⟨⟨by omega,hlt⟩,fun h=>⟨⟨⟨by omega,by omega⟩,room (by omega)⟩,ih _ (YQ hv) ?_⟩,fun h=>⟨room (by omega),ih _ (YQ hv) ?_⟩⟩
  ·rw [← he,if_pos (by simpa using h)];simp
  ·rw [← he,if_neg (by simpa using h)];simp
theorem QIY:Qj Tryz.prog Qqf:=Qn fun x _=>QG1 x.1 x.2.1
end
end Go.Proofs.YtjbdljkhbglnhaaGreat.Am

