/- -/
import Derived.Test.YtjbdljkhbglnhaaGreatZJP1
import Derived.Test.YtjbdljkhbglnhaaGreatZJPF
namespace Go.Proofs.YtjbdljkhbglnhaaGreat.Am
open Go Go.RowKit Go.Proofs.YtjbdljkhbglnhaaGreat
set_option linter.all false
noncomputable section
variable (K:TRes→Prop)
def Qii (t:Bool):TRes:=zre (zcb t)
def Qb5:TRow:=Qg 191 [(.c (.sl [TI])),(.c (.sl [TI]))] fun x=>(none,Qii (Ze x.1 x.2.1))
def QJm:List TRow:=[Qat,Y0]
def QCu:TCode :=
 (zsq [(.reg [zmv 4 (zkb false)]),(.reg [zmv 5 0,zca 6 134 [5],zmv 7 6,.grp 7 true [zmv 8 1,zmv 9 0,zle 10 9,zca 11 114 [8,10]] 12 11,zmv 4 12]),.ret])
def QHa:List (ARv × Md):=[(.t 4,.one .d)]
theorem QGm (a:List Int) (b:List Int) (h :
 K (Qii ((Qu a)&&(Qf b (a.length:Int))))):Hold (tawp QJm (0+0) QCu (TQ 0 0 QHa K) (Qe [(.c (.sl [TI]) a),(.c (.sl [TI]) b)])) :=
 Hold.of (by kernel_rfl) h
theorem QAU (a:List Int) (b:List Int):TCon Tryz.prog 191 [(.c (.sl [TI]) a),(.c (.sl [TI]) b)] (Qii (Ze a b)):=by
 refine Ql rfl fun hb=>tcg (n:=13) (sg:=Qb5.sg) Qi (TOk.cons QcC (TOk.cons Js TOk.nil)) (by kernel_rfl) (by kernel_rfl) (QGm _ a b ?_)
 have hl_a:a.length≤9223372036854775807:=hb.1.1
 have hl_b:b.length≤9223372036854775807:=hb.2.1.1
 exact R_eq rfl
theorem QfW:Qh Tryz.prog Qb5:=Qk fun x _=>QAU x.1 x.2.1
def Qjs (t:Bool):TRes:=zre (zcb t)
def QbG:TRow:=Qg 207 [(.c (.sl [TI])),(.c (.sl [TI]))] fun x=>(none,Qjs (Ze x.1 x.2.1))
def Qyo:List TRow:=[Ys]
def Qu9:TCode :=
 (zsq [(.reg [zmv 4 (zkb false)]),(.reg [zmv 5 0,zca 6 42 [5],zmv 7 6,.grp 7 true [zmv 8 1,zca 9 42 [8]] 10 9,zmv 11 10,.grp 11 true [zmv 12 0,zle 13 12,zmv 14 1,zle 15 14,zbi 16 .eql 13 15] 17 16,zmv 4 17]),.ret])
def QHK:List (ARv × Md):=[(.t 4,.one .d)]
theorem Qvw (a:List Int) (b:List Int) (h :
 K (Qjs (((Qu a)&&(Qu b))&&((a.length:Int)==(b.length:Int))))):Hold (tawp Qyo (0+0) Qu9 (TQ 0 0 QHK K) (Qe [(.c (.sl [TI]) a),(.c (.sl [TI]) b)])) :=
 Hold.of (by kernel_rfl) h
theorem QCn (a:List Int) (b:List Int):TCon Tryz.prog 207 [(.c (.sl [TI]) a),(.c (.sl [TI]) b)] (Qjs (Ze a b)):=by
 refine Ql rfl fun hb=>tcg (n:=18) (sg:=QbG.sg) Qi (TOk.cons YF TOk.nil) (by kernel_rfl) (by kernel_rfl) (Qvw _ a b ?_)
 have hl_a:a.length≤9223372036854775807:=hb.1.1
 have hl_b:b.length≤9223372036854775807:=hb.2.1.1
 refine R_eq ?_
 rw [Bool.eq_iff_iff]
 unfold Ze Qf
 simp only [Bool.and_eq_true,beq_iff_eq]
 constructor
 ·rintro ⟨⟨h1,h2⟩,h3⟩;exact ⟨h1,h2,by omega⟩
 ·rintro ⟨h1,h2,h3⟩;exact ⟨⟨h1,h2⟩,by omega⟩
theorem Qd3:Qh Tryz.prog QbG:=Qk fun x _=>QCn x.1 x.2.1
def QaL (t:(List Int) × Bool):TRes:=zra (.tp [(zcs [TI] t.1),(zcb t.2)])
def Qed:TRow:=Qg 213 [(.c (.sl [TI])),(.c (.sl [TI]))] fun x=>(none,QaL (QZ x.1 x.2.1))
def QiA:List TRow:=[Qb5,Qb0]
def Qm7:TCode :=
 (zsq [(.reg [zbi 19 .lss 18 17]),(.cond 19 .skip (.exit 0)),(.block 1 (zsq [(.reg [zmv 20 18,zmv 8 20]),(.draw [zmv 22 0,zmv 23 8,zia 24 22 23 [TI],zld 25 24 1,zmv 26 1,zmv 27 8,zia 28 26 27 [TI],zld 29 28 1,zca 30 121 [25,29],zmv 21 30,zex 31 21 0,zex 32 21 1,zmv 9 31,zmv 10 32] []),(.reg [zmv 33 6,zmv 34 9,zop 35 (.bsl 3 [TI] [34]),zop 36 (.app 33 35 3 [TI]),zmv 6 36]),(.reg [zmv 37 7,zmv 38 37,.grp 38 false [zmv 39 10] 40 39,zmv 7 40])])),(.reg [zbi 41 .add 18 (zki 1),zmv 18 41])])
def QsL:List (Nat × Md):=[(0,.one .d),(1,.one .d),(6,.one .f),(7,.one .d),(17,.one .d),(18,.one .d)]
def Qmn:TCode :=
 (zsq [(.reg [zmv 42 6,zmv 43 7,zmv 4 42,zmv 5 43]),.ret])
def QFJ:TCode :=
 (zsq [(.reg [zmv 4 (.k (.n [TI])),zmv 5 (zkb false)]),(zsq [(.reg [zmv 11 0,zmv 12 1,zca 13 191 [11,12],zno 14 13]),(.cond 14 (zsq [(.reg [zmv 4 (.k (.n [TI])),zmv 5 (zkb false)]),.ret]) .skip)]),(.reg [zop 15 (.bsl 3 [TI] []),zmv 6 15]),(.reg [zmv 7 (zkb false)]),(zsq [(.reg [zmv 16 0,zle 17 16,zmv 18 (zki 0)]),(.block 0 (.loop QsL Qm7))]),Qmn])
def Qns:List (ARv × Md):=[(.t 4,.one .d),(.t 5,.one .d)]
def Qte:Qc:=TQ 0 0 Qns K
def Qzn:Qc:=Qseq (tawp QiA 0 Qmn (Qte K)) (Qte K)
def QAX:Qc:=Qblk 0 (Qzn K)
def Qfs (a:List Int) (b:List Int) (out:Bool) (x:Int) (v:List Int):Prop:=Loop QiA 0 QsL Qm7 (QAX K) ⟨[(0,(zcs [TI] a)),(1,(zcs [TI] b)),(6,(.r [TI] 0 0 v.length)),(7,(zcb out)),(17,(zci (a.length:Int))),(18,(zci x))],[(0,(.sl 3 [TI] true v))],1⟩
theorem Qqw (a:List Int) (b:List Int) (out:Bool) (x:Int) (v:List Int) (h :
 (zif (decide (x<(a.length:Int))) ((((0:Int)≤x∧Int.toNat x<a.length)∧((0:Int)≤x∧Int.toNat x<b.length))∧(((v.length=v.length∨v.length+1≤v.length)∧v.length+1≤big)∧(Qfs K a b (out||((QT (gtd (0:Int) a (Int.toNat x)) (gtd (0:Int) b (Int.toNat x))).2)) (w64 (x+(1:Int))) (List.take (v.length+1) ((List.take v.length v)++([(QT (gtd (0:Int) a (Int.toNat x)) (gtd (0:Int) b (Int.toNat x))).1])))))) (K (QaL ((List.take v.length (List.drop 0 v)),out))))):Qfs K a b out x v :=
 Loop.of (by kernel_rfl) h
theorem QHo (a:List Int) (b:List Int) (h :
 (zif (!(Ze a b)) (K (QaL ([],false))) (Qfs K a b false 0 ([]:List Int)))):Hold (tawp QiA (0+0) QFJ (TQ 0 0 Qns K) (Qe [(.c (.sl [TI]) a),(.c (.sl [TI]) b)])) :=
 Hold.of (by kernel_rfl) h
theorem QCi (a:List Int) (b:List Int):TCon Tryz.prog 213 [(.c (.sl [TI]) a),(.c (.sl [TI]) b)] (QaL (QZ a b)):=by
 refine Ql rfl fun hb=>tcg (n:=44) (sg:=Qed.sg) Qi (TOk.cons QfW (TOk.cons Qfk TOk.nil)) (by kernel_rfl) (by kernel_rfl) (QHo _ a b ?_)
 have hl_a:a.length≤9223372036854775807:=hb.1.1
 have hl_b:b.length≤9223372036854775807:=hb.2.1.1
 refine ⟨fun h=>R_eq (by unfold QZ;rw [if_neg (by simpa using h)]),fun h=>?_⟩
 have hp:Ze a b=true:=by simpa using h
 have hl:=YE.1 hp
 have h6:=(Zu.1 hl.1).1
 refine Zc a (fun r k=>∀ (v:List Int) (s:Bool),v.length=k→(v++(vz QT r (b.drop k)).1,s||(vz QT r (b.drop k)).2)=(QZ a b)→Qfs (fun r'=>r'=QaL (QZ a b)) a b s k v) ?_ ?_ [] false rfl (by unfold QZ;rw [if_pos hp];simp)
 ·intro v s hv he
  refine Qqw (fun r'=>r'=QaL (QZ a b)) a b _ _ _ ⟨fun h=>by simp at h,fun _=>R_eq ?_⟩
  rw [← he];simp [vz]
 ·intro k x r hk hlt hg ih v s hv he
  obtain ⟨y,q,hq⟩:=Yj (l:=b) (k:=k) (by omega)
  refine Qqw (fun r'=>r'=QaL (QZ a b)) a b _ _ _ ⟨fun _=>?_,fun h=>by simp at h;omega⟩
  rw [Int.toNat_natCast,hg,ZN hq,sc1 (by omega),Q9]
  refine ⟨⟨⟨by omega,hlt⟩,by omega,by omega⟩,room (by omega),ih _ _ (ZZ hv) ?_⟩
  rw [← he,hq,vz,Zx hq]
  simp [Bool.or_assoc]
theorem Qlq:Qh Tryz.prog Qed:=Qk fun x _=>QCi x.1 x.2.1
def Qar (t:(List Int) × Bool):TRes:=zra (.tp [(zcs [TI] t.1),(zcb t.2)])
def Qer:TRow:=Qg 226 [(.c (.sl [TI])),(.c (.sl [TI]))] fun x=>(none,Qar (QZ x.1 x.2.1))
def Qih:List TRow:=[QbG,QaB]
def QuI:TCode :=
 (zsq [(zsq [(.reg [zmv 12 8,zmv 13 0,zle 14 13,zbi 15 .lss 12 14,zmv 16 15,.grp 16 true [zmv 17 0,zmv 18 1,zca 19 207 [17,18]] 20 19]),(.cond 20 .skip (.exit 0))]),(.block 1 (zsq [(.draw [zmv 24 0,zmv 25 8,zia 26 24 25 [TI],zld 27 26 1,zmv 28 1,zmv 29 8,zia 30 28 29 [TI],zld 31 30 1,zca 32 162 [27,31],zmv 23 32,zex 33 23 0,zex 34 23 1,zmv 9 33,zmv 10 34] []),(.reg [zmv 35 6,zmv 36 9,zop 37 (.bsl 3 [TI] [36]),zop 38 (.app 35 37 3 [TI]),zmv 6 38]),(.reg [zmv 39 7,zmv 40 39,.grp 40 false [zmv 41 10] 42 41,zmv 7 42])])),(.reg [zmv 21 8,zbi 22 .add 21 (zki 1),zmv 8 22])])
def QnL:List (Nat × Md):=[(0,.one .d),(1,.one .d),(6,.one .f),(7,.one .d),(8,.one .d)]
def QuE:TCode :=
 (zsq [(.reg [zmv 43 6,zmv 44 7,zmv 4 43,zmv 5 44]),.ret])
def QAW:TCode :=
 (zsq [(.reg [zmv 4 (.k (.n [TI])),zmv 5 (zkb false)]),(.reg [zop 11 (.bsl 3 [TI] []),zmv 6 11]),(.reg [zmv 7 (zkb false)]),(zsq [(.reg [zmv 8 (zki 0)]),(.block 0 (.loop QnL QuI))]),QuE])
def QoO:List (ARv × Md):=[(.t 4,.one .d),(.t 5,.one .d)]
def Qnk:Qc:=TQ 0 0 QoO K
def QvM:Qc:=Qseq (tawp Qih 0 QuE (Qnk K)) (Qnk K)
def QvV:Qc:=Qblk 0 (QvM K)
def Qfe (a:List Int) (b:List Int) (sat:Bool) (i:Int) (out:List Int):Prop:=Loop Qih 0 QnL QuI (QvV K) ⟨[(0,(zcs [TI] a)),(1,(zcs [TI] b)),(6,(.r [TI] 0 0 out.length)),(7,(zcb sat)),(8,(zci i))],[(0,(.sl 3 [TI] true out))],1⟩
theorem Qg6 (a:List Int) (b:List Int) (sat:Bool) (i:Int) (out:List Int) (h :
 (zif ((decide (i<(a.length:Int)))&&(Ze a b)) ((((0:Int)≤i∧Int.toNat i<a.length)∧((0:Int)≤i∧Int.toNat i<b.length))∧(((out.length=out.length∨out.length+1≤out.length)∧out.length+1≤big)∧(Qfe K a b (sat||((QT (gtd (0:Int) a (Int.toNat i)) (gtd (0:Int) b (Int.toNat i))).2)) (w64 (i+(1:Int))) (List.take (out.length+1) ((List.take out.length out)++([(QT (gtd (0:Int) a (Int.toNat i)) (gtd (0:Int) b (Int.toNat i))).1])))))) (K (Qar ((List.take out.length (List.drop 0 out)),sat))))):Qfe K a b sat i out :=
 Loop.of (by kernel_rfl) h
theorem QCz (a:List Int) (b:List Int) (h :
 (Qfe K a b false 0 ([]:List Int))):Hold (tawp Qih (0+0) QAW (TQ 0 0 QoO K) (Qe [(.c (.sl [TI]) a),(.c (.sl [TI]) b)])) :=
 Hold.of (by kernel_rfl) h
theorem QIY (a:List Int) (b:List Int):TCon Tryz.prog 226 [(.c (.sl [TI]) a),(.c (.sl [TI]) b)] (Qar (QZ a b)):=by
 refine Ql rfl fun hb=>tcg (n:=45) (sg:=Qer.sg) Qi (TOk.cons Qd3 (TOk.cons Qdn TOk.nil)) (by kernel_rfl) (by kernel_rfl) (QCz _ a b ?_)
 have hl_a:a.length≤9223372036854775807:=hb.1.1
 have hl_b:b.length≤9223372036854775807:=hb.2.1.1
 by_cases hp:Ze a b=true
 rotate_left
 ·refine Qg6 (fun r'=>r'=Qar (QZ a b)) a b _ _ _ ⟨fun h=>by simp [hp] at h,fun _=>R_eq (by unfold QZ;rw [if_neg hp];rfl)⟩
 have hl:=YE.1 hp
 have h6:=(Zu.1 hl.1).1
 refine Zc a (fun r k=>∀ (v:List Int) (s:Bool),v.length=k→(v++(vz QT r (b.drop k)).1,s||(vz QT r (b.drop k)).2)=(QZ a b)→Qfe (fun r'=>r'=Qar (QZ a b)) a b s k v) ?_ ?_ [] false rfl (by unfold QZ;rw [if_pos hp];simp)
 ·intro v s hv he
  refine Qg6 (fun r'=>r'=Qar (QZ a b)) a b _ _ _ ⟨fun h=>by simp at h,fun _=>R_eq ?_⟩
  rw [← he];simp [vz]
 ·intro k x r hk hlt hg ih v s hv he
  obtain ⟨y,q,hq⟩:=Yj (l:=b) (k:=k) (by omega)
  refine Qg6 (fun r'=>r'=Qar (QZ a b)) a b _ _ _ ⟨fun _=>?_,fun h=>by simp [hp] at h;omega⟩
  rw [Int.toNat_natCast,hg,ZN hq,sc1 (by omega),Q9]
  refine ⟨⟨⟨by omega,hlt⟩,by omega,by omega⟩,room (by omega),ih _ _ (ZZ hv) ?_⟩
  rw [← he,hq,vz,Zx hq]
  simp [Bool.or_assoc]
theorem QnC:Qh Tryz.prog Qer:=Qk fun x _=>QIY x.1 x.2.1
def Qa4 (t:(List Int) × Bool):TRes:=zra (.tp [(zcs [TI] t.1),(zcb t.2)])
def QfA:TRow:=Qg 124 [(.c (.sl [TI])),(.c (.sl [TI]))] fun x=>(none,Qa4 (QY x.1 x.2.1))
def QkM:List TRow:=[Qb5,Qhg]
def Qn2:TCode :=
 (zsq [(.reg [zbi 19 .lss 18 17]),(.cond 19 .skip (.exit 0)),(.block 1 (zsq [(.reg [zmv 20 18,zmv 8 20]),(.draw [zmv 22 0,zmv 23 8,zia 24 22 23 [TI],zld 25 24 1,zmv 26 1,zmv 27 8,zia 28 26 27 [TI],zld 29 28 1,zca 30 192 [25,29],zmv 21 30,zex 31 21 0,zex 32 21 1,zmv 9 31,zmv 10 32] []),(.reg [zmv 33 6,zmv 34 9,zop 35 (.bsl 3 [TI] [34]),zop 36 (.app 33 35 3 [TI]),zmv 6 36]),(.reg [zmv 37 7,zmv 38 37,.grp 38 false [zmv 39 10] 40 39,zmv 7 40])])),(.reg [zbi 41 .add 18 (zki 1),zmv 18 41])])
def QmM:List (Nat × Md):=[(0,.one .d),(1,.one .d),(6,.one .f),(7,.one .d),(17,.one .d),(18,.one .d)]
def Qt4:TCode :=
 (zsq [(.reg [zmv 42 6,zmv 43 7,zmv 4 42,zmv 5 43]),.ret])
def QFj:TCode :=
 (zsq [(.reg [zmv 4 (.k (.n [TI])),zmv 5 (zkb false)]),(zsq [(.reg [zmv 11 0,zmv 12 1,zca 13 191 [11,12],zno 14 13]),(.cond 14 (zsq [(.reg [zmv 4 (.k (.n [TI])),zmv 5 (zkb false)]),.ret]) .skip)]),(.reg [zop 15 (.bsl 3 [TI] []),zmv 6 15]),(.reg [zmv 7 (zkb false)]),(zsq [(.reg [zmv 16 0,zle 17 16,zmv 18 (zki 0)]),(.block 0 (.loop QmM Qn2))]),Qt4])
def Qnr:List (ARv × Md):=[(.t 4,.one .d),(.t 5,.one .d)]
def Ql6:Qc:=TQ 0 0 Qnr K
def QBh:Qc:=Qseq (tawp QkM 0 Qt4 (Ql6 K)) (Ql6 K)
def QDQ:Qc:=Qblk 0 (QBh K)
def QeX (a:List Int) (b:List Int) (out:Bool) (x:Int) (v:List Int):Prop:=Loop QkM 0 QmM Qn2 (QDQ K) ⟨[(0,(zcs [TI] a)),(1,(zcs [TI] b)),(6,(.r [TI] 0 0 v.length)),(7,(zcb out)),(17,(zci (a.length:Int))),(18,(zci x))],[(0,(.sl 3 [TI] true v))],1⟩
theorem QnS (a:List Int) (b:List Int) (out:Bool) (x:Int) (v:List Int) (h :
 (zif (decide (x<(a.length:Int))) ((((0:Int)≤x∧Int.toNat x<a.length)∧((0:Int)≤x∧Int.toNat x<b.length))∧(((v.length=v.length∨v.length+1≤v.length)∧v.length+1≤big)∧(QeX K a b (out||((Yx (gtd (0:Int) a (Int.toNat x)) (gtd (0:Int) b (Int.toNat x))).2)) (w64 (x+(1:Int))) (List.take (v.length+1) ((List.take v.length v)++([(Yx (gtd (0:Int) a (Int.toNat x)) (gtd (0:Int) b (Int.toNat x))).1])))))) (K (Qa4 ((List.take v.length (List.drop 0 v)),out))))):QeX K a b out x v :=
 Loop.of (by kernel_rfl) h
theorem Qxu (a:List Int) (b:List Int) (h :
 (zif (!(Ze a b)) (K (Qa4 ([],false))) (QeX K a b false 0 ([]:List Int)))):Hold (tawp QkM (0+0) QFj (TQ 0 0 Qnr K) (Qe [(.c (.sl [TI]) a),(.c (.sl [TI]) b)])) :=
 Hold.of (by kernel_rfl) h
theorem QzM (a:List Int) (b:List Int):TCon Tryz.prog 124 [(.c (.sl [TI]) a),(.c (.sl [TI]) b)] (Qa4 (QY a b)):=by
 refine Ql rfl fun hb=>tcg (n:=44) (sg:=QfA.sg) Qi (TOk.cons QfW (TOk.cons QzJ TOk.nil)) (by kernel_rfl) (by kernel_rfl) (Qxu _ a b ?_)
 have hl_a:a.length≤9223372036854775807:=hb.1.1
 have hl_b:b.length≤9223372036854775807:=hb.2.1.1
 refine ⟨fun h=>R_eq (by unfold QY;rw [if_neg (by simpa using h)]),fun h=>?_⟩
 have hp:Ze a b=true:=by simpa using h
 have hl:=YE.1 hp
 have h6:=(Zu.1 hl.1).1
 refine Zc a (fun r k=>∀ (v:List Int) (s:Bool),v.length=k→(v++(vz Yx r (b.drop k)).1,s||(vz Yx r (b.drop k)).2)=(QY a b)→QeX (fun r'=>r'=Qa4 (QY a b)) a b s k v) ?_ ?_ [] false rfl (by unfold QY;rw [if_pos hp];simp)
 ·intro v s hv he
  refine QnS (fun r'=>r'=Qa4 (QY a b)) a b _ _ _ ⟨fun h=>by simp at h,fun _=>R_eq ?_⟩
  rw [← he];simp [vz]
 ·intro k x r hk hlt hg ih v s hv he
  obtain ⟨y,q,hq⟩:=Yj (l:=b) (k:=k) (by omega)
  refine QnS (fun r'=>r'=Qa4 (QY a b)) a b _ _ _ ⟨fun _=>?_,fun h=>by simp at h;omega⟩
  rw [Int.toNat_natCast,hg,ZN hq,sc1 (by omega),Q9]
  refine ⟨⟨⟨by omega,hlt⟩,by omega,by omega⟩,room (by omega),ih _ _ (ZZ hv) ?_⟩
  rw [← he,hq,vz,Zx hq]
  simp [Bool.or_assoc]
theorem Qsq:Qh Tryz.prog QfA:=Qk fun x _=>QzM x.1 x.2.1
def Qbk (t:(List Int) × Bool):TRes:=zra (.tp [(zcs [TI] t.1),(zcb t.2)])
def QfR:TRow:=Qg 165 [(.c (.sl [TI])),(.c (.sl [TI]))] fun x=>(none,Qbk (QY x.1 x.2.1))
def QjY:List TRow:=[QbG,QgG]
def Qo4:TCode :=
 (zsq [(zsq [(.reg [zmv 12 8,zmv 13 0,zle 14 13,zbi 15 .lss 12 14,zmv 16 15,.grp 16 true [zmv 17 0,zmv 18 1,zca 19 207 [17,18]] 20 19]),(.cond 20 .skip (.exit 0))]),(.block 1 (zsq [(.draw [zmv 24 0,zmv 25 8,zia 26 24 25 [TI],zld 27 26 1,zmv 28 1,zmv 29 8,zia 30 28 29 [TI],zld 31 30 1,zca 32 208 [27,31],zmv 23 32,zex 33 23 0,zex 34 23 1,zmv 9 33,zmv 10 34] []),(.reg [zmv 35 6,zmv 36 9,zop 37 (.bsl 3 [TI] [36]),zop 38 (.app 35 37 3 [TI]),zmv 6 38]),(.reg [zmv 39 7,zmv 40 39,.grp 40 false [zmv 41 10] 42 41,zmv 7 42])])),(.reg [zmv 21 8,zbi 22 .add 21 (zki 1),zmv 8 22])])
def Qpj:List (Nat × Md):=[(0,.one .d),(1,.one .d),(6,.one .f),(7,.one .d),(8,.one .d)]
def Qpp:TCode :=
 (zsq [(.reg [zmv 43 6,zmv 44 7,zmv 4 43,zmv 5 44]),.ret])
def Qxh:TCode :=
 (zsq [(.reg [zmv 4 (.k (.n [TI])),zmv 5 (zkb false)]),(.reg [zop 11 (.bsl 3 [TI] []),zmv 6 11]),(.reg [zmv 7 (zkb false)]),(zsq [(.reg [zmv 8 (zki 0)]),(.block 0 (.loop Qpj Qo4))]),Qpp])
def Qnl:List (ARv × Md):=[(.t 4,.one .d),(.t 5,.one .d)]
def QqE:Qc:=TQ 0 0 Qnl K
def QGq:Qc:=Qseq (tawp QjY 0 Qpp (QqE K)) (QqE K)
def QCe:Qc:=Qblk 0 (QGq K)
def Qes (a:List Int) (b:List Int) (sat:Bool) (i:Int) (out:List Int):Prop:=Loop QjY 0 Qpj Qo4 (QCe K) ⟨[(0,(zcs [TI] a)),(1,(zcs [TI] b)),(6,(.r [TI] 0 0 out.length)),(7,(zcb sat)),(8,(zci i))],[(0,(.sl 3 [TI] true out))],1⟩
theorem QiR (a:List Int) (b:List Int) (sat:Bool) (i:Int) (out:List Int) (h :
 (zif ((decide (i<(a.length:Int)))&&(Ze a b)) ((((0:Int)≤i∧Int.toNat i<a.length)∧((0:Int)≤i∧Int.toNat i<b.length))∧(((out.length=out.length∨out.length+1≤out.length)∧out.length+1≤big)∧(Qes K a b (sat||((Yx (gtd (0:Int) a (Int.toNat i)) (gtd (0:Int) b (Int.toNat i))).2)) (w64 (i+(1:Int))) (List.take (out.length+1) ((List.take out.length out)++([(Yx (gtd (0:Int) a (Int.toNat i)) (gtd (0:Int) b (Int.toNat i))).1])))))) (K (Qbk ((List.take out.length (List.drop 0 out)),sat))))):Qes K a b sat i out :=
 Loop.of (by kernel_rfl) h
theorem Qzy (a:List Int) (b:List Int) (h :
 (Qes K a b false 0 ([]:List Int))):Hold (tawp QjY (0+0) Qxh (TQ 0 0 Qnl K) (Qe [(.c (.sl [TI]) a),(.c (.sl [TI]) b)])) :=
 Hold.of (by kernel_rfl) h
theorem Qyf (a:List Int) (b:List Int):TCon Tryz.prog 165 [(.c (.sl [TI]) a),(.c (.sl [TI]) b)] (Qbk (QY a b)):=by
 refine Ql rfl fun hb=>tcg (n:=45) (sg:=QfR.sg) Qi (TOk.cons Qd3 (TOk.cons Qv4 TOk.nil)) (by kernel_rfl) (by kernel_rfl) (Qzy _ a b ?_)
 have hl_a:a.length≤9223372036854775807:=hb.1.1
 have hl_b:b.length≤9223372036854775807:=hb.2.1.1
 by_cases hp:Ze a b=true
 rotate_left
 ·refine QiR (fun r'=>r'=Qbk (QY a b)) a b _ _ _ ⟨fun h=>by simp [hp] at h,fun _=>R_eq (by unfold QY;rw [if_neg hp];rfl)⟩
 have hl:=YE.1 hp
 have h6:=(Zu.1 hl.1).1
 refine Zc a (fun r k=>∀ (v:List Int) (s:Bool),v.length=k→(v++(vz Yx r (b.drop k)).1,s||(vz Yx r (b.drop k)).2)=(QY a b)→Qes (fun r'=>r'=Qbk (QY a b)) a b s k v) ?_ ?_ [] false rfl (by unfold QY;rw [if_pos hp];simp)
 ·intro v s hv he
  refine QiR (fun r'=>r'=Qbk (QY a b)) a b _ _ _ ⟨fun h=>by simp at h,fun _=>R_eq ?_⟩
  rw [← he];simp [vz]
 ·intro k x r hk hlt hg ih v s hv he
  obtain ⟨y,q,hq⟩:=Yj (l:=b) (k:=k) (by omega)
  refine QiR (fun r'=>r'=Qbk (QY a b)) a b _ _ _ ⟨fun _=>?_,fun h=>by simp [hp] at h;omega⟩
  rw [Int.toNat_natCast,hg,ZN hq,sc1 (by omega),Q9]
  refine ⟨⟨⟨by omega,hlt⟩,by omega,by omega⟩,room (by omega),ih _ _ (ZZ hv) ?_⟩
  rw [← he,hq,vz,Zx hq]
  simp [Bool.or_assoc]
theorem Qus:Qh Tryz.prog QfR:=Qk fun x _=>Qyf x.1 x.2.1
def QaY (t:(List Int) × Bool):TRes:=zra (.tp [(zcs [TI] t.1),(zcb t.2)])
def QdS:TRow:=Qg 214 [(.c TI),(.c (.sl [TI]))] fun x=>(none,QaY (Za x.1 x.2.1))
def QhY:List TRow:=[Qci,Qat,Qc1]
def QlO:TCode :=
 (zsq [(.reg [zbi 23 .lss 22 21]),(.cond 23 .skip (.exit 0)),(.block 1 (zsq [(.reg [zmv 24 22,zmv 8 24]),(.reg [zmv 26 0,zmv 27 1,zmv 28 8,zia 29 27 28 [TI],zld 30 29 1,zca 31 216 [26,30],zmv 25 31,zex 32 25 0,zex 33 25 1,zmv 9 32,zmv 10 33]),(.reg [zmv 34 6,zmv 35 9,zop 36 (.bsl 3 [TI] [35]),zop 37 (.app 34 36 3 [TI]),zmv 6 37]),(.reg [zmv 38 7,zmv 39 38,.grp 39 false [zmv 40 10] 41 40,zmv 7 41])])),(.reg [zbi 42 .add 22 (zki 1),zmv 22 42])])
def QpJ:List (Nat × Md):=[(0,.one .d),(1,.one .d),(6,.one .f),(7,.one .d),(21,.one .d),(22,.one .d)]
def Qub:TCode :=
 (zsq [(.reg [zmv 43 6,zmv 44 7,zmv 4 43,zmv 5 44]),.ret])
def QFO:TCode :=
 (zsq [(.reg [zmv 4 (.k (.n [TI])),zmv 5 (zkb false)]),(zsq [(.reg [zmv 11 0,zca 12 217 [11],zno 13 12,zmv 14 13,.grp 14 false [zmv 15 1,zca 16 134 [15],zno 17 16] 18 17]),(.cond 18 (zsq [(.reg [zmv 4 (.k (.n [TI])),zmv 5 (zkb false)]),.ret]) .skip)]),(.reg [zop 19 (.bsl 3 [TI] []),zmv 6 19]),(.reg [zmv 7 (zkb false)]),(zsq [(.reg [zmv 20 1,zle 21 20,zmv 22 (zki 0)]),(.block 0 (.loop QpJ QlO))]),Qub])
def QuZ:List (ARv × Md):=[(.t 4,.one .d),(.t 5,.one .d)]
def Qlt:Qc:=TQ 0 0 QuZ K
def QJA:Qc:=Qseq (tawp QhY 0 Qub (Qlt K)) (Qlt K)
def QEr:Qc:=Qblk 0 (QJA K)
def Qe4 (c:Int) (a:List Int) (out:Bool) (x:Int) (v:List Int):Prop:=Loop QhY 0 QpJ QlO (QEr K) ⟨[(0,(zci c)),(1,(zcs [TI] a)),(6,(.r [TI] 0 0 v.length)),(7,(zcb out)),(21,(zci (a.length:Int))),(22,(zci x))],[(0,(.sl 3 [TI] true v))],1⟩
theorem QsO (c:Int) (a:List Int) (out:Bool) (x:Int) (v:List Int) (h :
 (zif (decide (x<(a.length:Int))) (((0:Int)≤x∧Int.toNat x<a.length)∧(((v.length=v.length∨v.length+1≤v.length)∧v.length+1≤big)∧(Qe4 K c a (out||((Q2 c (gtd (0:Int) a (Int.toNat x))).2)) (w64 (x+(1:Int))) (List.take (v.length+1) ((List.take v.length v)++([(Q2 c (gtd (0:Int) a (Int.toNat x))).1])))))) (K (QaY ((List.take v.length (List.drop 0 v)),out))))):Qe4 K c a out x v :=
 Loop.of (by kernel_rfl) h
theorem QCf (c:Int) (a:List Int) (h :
 (zif ((!(QU c))||(!(Qu a))) (K (QaY ([],false))) (Qe4 K c a false 0 ([]:List Int)))):Hold (tawp QhY (0+0) QFO (TQ 0 0 QuZ K) (Qe [(.c TI c),(.c (.sl [TI]) a)])) :=
 Hold.of (by kernel_rfl) h
theorem QyF (c:Int) (a:List Int):TCon Tryz.prog 214 [(.c TI c),(.c (.sl [TI]) a)] (QaY (Za c a)):=by
 refine Ql rfl fun hb=>tcg (n:=45) (sg:=QdS.sg) Qi (TOk.cons Qkk (TOk.cons QcC (TOk.cons QiS TOk.nil))) (by kernel_rfl) (by kernel_rfl) (QCf _ c a ?_)
 have hl_a:a.length≤9223372036854775807:=hb.2.1.1
 refine ⟨fun h=>R_eq (by unfold Za;rw [if_neg (by intro h2;simp at h2;simp [h2] at h)]),fun h=>?_⟩
 have hp:QU c=true∧Qu a=true:=by simpa using h
 have h6:=(Zu.1 hp.2).1
 refine Zc a (fun r k=>∀ (v:List Int) (s:Bool),v.length=k→(v++(v1 (Q2 c) r).1,s||(v1 (Q2 c) r).2)=(Za c a)→Qe4 (fun r'=>r'=QaY (Za c a)) c a s k v) ?_ ?_ [] false rfl (by unfold Za;rw [if_pos (by simp [hp])];simp)
 ·intro v s hv he
  refine QsO (fun r'=>r'=QaY (Za c a)) c a _ _ _ ⟨fun h=>by simp at h,fun _=>R_eq ?_⟩
  rw [← he];simp [v1]
 ·intro k x r hk hlt hg ih v s hv he
  refine QsO (fun r'=>r'=QaY (Za c a)) c a _ _ _ ⟨fun _=>?_,fun h=>by simp at h;omega⟩
  rw [Int.toNat_natCast,hg,sc1 (by omega),Q9]
  refine ⟨⟨by omega,hlt⟩,room (by omega),ih _ _ (ZZ hv) ?_⟩
  rw [← he,v1]
  simp [Bool.or_assoc]
theorem QoB:Qh Tryz.prog QdS:=Qk fun x _=>QyF x.1 x.2.1
def Qaz (t:(List Int) × Bool):TRes:=zra (.tp [(zcs [TI] t.1),(zcb t.2)])
def Qfb:TRow:=Qg 228 [(.c TI),(.c (.sl [TI]))] fun x=>(none,Qaz (Za x.1 x.2.1))
def QhJ:List TRow:=[Ys,QbA,QcM]
def QrA:TCode :=
 (zsq [(zsq [(.reg [zmv 12 8,zmv 13 1,zle 14 13,zbi 15 .lss 12 14,zmv 16 15,.grp 16 true [zmv 17 1,zca 18 42 [17]] 19 18,zmv 20 19,.grp 20 true [zmv 21 0,zca 22 110 [21]] 23 22]),(.cond 23 .skip (.exit 0))]),(.block 1 (zsq [(.reg [zmv 27 0,zmv 28 1,zmv 29 8,zia 30 28 29 [TI],zld 31 30 1,zca 32 229 [27,31],zmv 26 32,zex 33 26 0,zex 34 26 1,zmv 9 33,zmv 10 34]),(.reg [zmv 35 6,zmv 36 9,zop 37 (.bsl 3 [TI] [36]),zop 38 (.app 35 37 3 [TI]),zmv 6 38]),(.reg [zmv 39 7,zmv 40 39,.grp 40 false [zmv 41 10] 42 41,zmv 7 42])])),(.reg [zmv 24 8,zbi 25 .add 24 (zki 1),zmv 8 25])])
def QrY:List (Nat × Md):=[(0,.one .d),(1,.one .d),(6,.one .f),(7,.one .d),(8,.one .d)]
def Qq7:TCode :=
 (zsq [(.reg [zmv 43 6,zmv 44 7,zmv 4 43,zmv 5 44]),.ret])
def Qzo:TCode :=
 (zsq [(.reg [zmv 4 (.k (.n [TI])),zmv 5 (zkb false)]),(.reg [zop 11 (.bsl 3 [TI] []),zmv 6 11]),(.reg [zmv 7 (zkb false)]),(zsq [(.reg [zmv 8 (zki 0)]),(.block 0 (.loop QrY QrA))]),Qq7])
def QuK:List (ARv × Md):=[(.t 4,.one .d),(.t 5,.one .d)]
def Qlu:Qc:=TQ 0 0 QuK K
def QDD:Qc:=Qseq (tawp QhJ 0 Qq7 (Qlu K)) (Qlu K)
def QBs:Qc:=Qblk 0 (QDD K)
def Qd8 (c:Int) (a:List Int) (sat:Bool) (i:Int) (out:List Int):Prop:=Loop QhJ 0 QrY QrA (QBs K) ⟨[(0,(zci c)),(1,(zcs [TI] a)),(6,(.r [TI] 0 0 out.length)),(7,(zcb sat)),(8,(zci i))],[(0,(.sl 3 [TI] true out))],1⟩
theorem QiU (c:Int) (a:List Int) (sat:Bool) (i:Int) (out:List Int) (h :
 (zif (((decide (i<(a.length:Int)))&&(Qu a))&&(QU c)) (((0:Int)≤i∧Int.toNat i<a.length)∧(((out.length=out.length∨out.length+1≤out.length)∧out.length+1≤big)∧(Qd8 K c a (sat||((Q2 c (gtd (0:Int) a (Int.toNat i))).2)) (w64 (i+(1:Int))) (List.take (out.length+1) ((List.take out.length out)++([(Q2 c (gtd (0:Int) a (Int.toNat i))).1])))))) (K (Qaz ((List.take out.length (List.drop 0 out)),sat))))):Qd8 K c a sat i out :=
 Loop.of (by kernel_rfl) h
theorem Qxj (c:Int) (a:List Int) (h :
 (Qd8 K c a false 0 ([]:List Int))):Hold (tawp QhJ (0+0) Qzo (TQ 0 0 QuK K) (Qe [(.c TI c),(.c (.sl [TI]) a)])) :=
 Hold.of (by kernel_rfl) h
theorem QGK (c:Int) (a:List Int):TCon Tryz.prog 228 [(.c TI c),(.c (.sl [TI]) a)] (Qaz (Za c a)):=by
 refine Ql rfl fun hb=>tcg (n:=45) (sg:=Qfb.sg) Qi (TOk.cons YF (TOk.cons QfC (TOk.cons QjP TOk.nil))) (by kernel_rfl) (by kernel_rfl) (Qxj _ c a ?_)
 have hl_a:a.length≤9223372036854775807:=hb.2.1.1
 by_cases hp:QU c=true∧Qu a=true
 rotate_left
 ·refine QiU (fun r'=>r'=Qaz (Za c a)) c a _ _ _ ⟨fun h=>absurd (by simp at h;exact ⟨h.2,h.1.2⟩) hp,fun _=>R_eq (by unfold Za;rw [if_neg (by simpa using hp)];rfl)⟩
 have h6:=(Zu.1 hp.2).1
 refine Zc a (fun r k=>∀ (v:List Int) (s:Bool),v.length=k→(v++(v1 (Q2 c) r).1,s||(v1 (Q2 c) r).2)=(Za c a)→Qd8 (fun r'=>r'=Qaz (Za c a)) c a s k v) ?_ ?_ [] false rfl (by unfold Za;rw [if_pos (by simp [hp])];simp)
 ·intro v s hv he
  refine QiU (fun r'=>r'=Qaz (Za c a)) c a _ _ _ ⟨fun h=>by simp at h,fun _=>R_eq ?_⟩
  rw [← he];simp [v1]
 ·intro k x r hk hlt hg ih v s hv he
  refine QiU (fun r'=>r'=Qaz (Za c a)) c a _ _ _ ⟨fun _=>?_,fun h=>by simp [hp] at h;omega⟩
  rw [Int.toNat_natCast,hg,sc1 (by omega),Q9]
  refine ⟨⟨by omega,hlt⟩,room (by omega),ih _ _ (ZZ hv) ?_⟩
  rw [← he,v1]
  simp [Bool.or_assoc]
theorem QmI:Qh Tryz.prog Qfb:=Qk fun x _=>QGK x.1 x.2.1
def QaR (t:Int × Bool):TRes:=zre (.tp [(zci t.1),(zcb t.2)])
def Qdh:TRow:=Qg 188 [(.c (.sl [TI])),(.c (.sl [TI]))] fun x=>(none,QaR (QM x.1 x.2.1))
def Qki:List TRow:=[Qb5,Qc1,Qb0]
def QnE:TCode :=
 (zsq [(.reg [zbi 20 .lss 19 18]),(.cond 20 .skip (.exit 0)),(.block 1 (zsq [(.reg [zmv 21 19,zmv 8 21]),(.draw [zmv 23 0,zmv 24 8,zia 25 23 24 [TI],zld 26 25 1,zmv 27 1,zmv 28 8,zia 29 27 28 [TI],zld 30 29 1,zca 31 216 [26,30],zmv 22 31,zex 32 22 0,zex 33 22 1,zmv 9 32,zmv 10 33] []),(.reg [zmv 35 6,zmv 36 9,zca 37 121 [35,36],zmv 34 37,zex 38 34 0,zex 39 34 1,zmv 11 38,zmv 12 39]),(.reg [zmv 40 11,zmv 6 40]),(.reg [zmv 41 7,zmv 42 41,.grp 42 false [zmv 43 10] 44 43,zmv 45 44,.grp 45 false [zmv 46 12] 47 46,zmv 7 47])])),(.reg [zbi 48 .add 19 (zki 1),zmv 19 48])])
def QpR:List (Nat × Md):=zdl [0,1,6,7,18,19]
def QnT:TCode :=
 (zsq [(.reg [zmv 49 6,zmv 50 7,zmv 4 49,zmv 5 50]),.ret])
def QI3:TCode :=
 (zsq [(.reg [zmv 4 (zki 0),zmv 5 (zkb false)]),(zsq [(.reg [zmv 13 0,zmv 14 1,zca 15 191 [13,14],zno 16 15]),(.cond 16 (zsq [(.reg [zmv 4 (zki 0),zmv 5 (zkb false)]),.ret]) .skip)]),(.reg [zmv 6 (zki 0)]),(.reg [zmv 7 (zkb false)]),(zsq [(.reg [zmv 17 0,zle 18 17,zmv 19 (zki 0)]),(.block 0 (.loop QpR QnE))]),QnT])
def QmA:List (ARv × Md):=[(.t 4,.one .d),(.t 5,.one .d)]
def QoM:Qc:=TQ 0 0 QmA K
def QD2:Qc:=Qseq (tawp Qki 0 QnT (QoM K)) (QoM K)
def QwK:Qc:=Qblk 0 (QD2 K)
def Qf8 (a:List Int) (b:List Int) (sum:Int) (out:Bool) (x:Int):Prop:=Loop Qki 0 QpR QnE (QwK K) ⟨[(0,(zcs [TI] a)),(1,(zcs [TI] b)),(6,(zci sum)),(7,(zcb out)),(18,(zci (a.length:Int))),(19,(zci x))],[],0⟩
theorem Qtu (a:List Int) (b:List Int) (sum:Int) (out:Bool) (x:Int) (h :
 (zif (decide (x<(a.length:Int))) ((((0:Int)≤x∧Int.toNat x<a.length)∧((0:Int)≤x∧Int.toNat x<b.length))∧(Qf8 K a b ((QT sum ((Q2 (gtd (0:Int) a (Int.toNat x)) (gtd (0:Int) b (Int.toNat x))).1)).1) ((out||((Q2 (gtd (0:Int) a (Int.toNat x)) (gtd (0:Int) b (Int.toNat x))).2))||((QT sum ((Q2 (gtd (0:Int) a (Int.toNat x)) (gtd (0:Int) b (Int.toNat x))).1)).2)) (w64 (x+(1:Int))))) (K (QaR (sum,out))))):Qf8 K a b sum out x :=
 Loop.of (by kernel_rfl) h
theorem QzP (a:List Int) (b:List Int) (h :
 (zif (!(Ze a b)) (K (QaR ((0:Int),false))) (Qf8 K a b 0 false 0))):Hold (tawp Qki (0+0) QI3 (TQ 0 0 QmA K) (Qe [(.c (.sl [TI]) a),(.c (.sl [TI]) b)])) :=
 Hold.of (by kernel_rfl) h
theorem Qwd (a:List Int) (b:List Int):TCon Tryz.prog 188 [(.c (.sl [TI]) a),(.c (.sl [TI]) b)] (QaR (QM a b)):=by
 refine Ql rfl fun hb=>tcg (n:=51) (sg:=Qdh.sg) Qi (TOk.cons QfW (TOk.cons QiS (TOk.cons Qfk TOk.nil))) (by kernel_rfl) (by kernel_rfl) (QzP _ a b ?_)
 have hl_a:a.length≤9223372036854775807:=hb.1.1
 have hl_b:b.length≤9223372036854775807:=hb.2.1.1
 refine ⟨fun h=>R_eq (by unfold QM;rw [if_neg (by simpa using h)]),fun h=>?_⟩
 have hp:Ze a b=true:=by simpa using h
 have hl:=YE.1 hp
 have h6:=(Zu.1 hl.1).1
 refine Zc a (fun r k=>∀ (z:Int) (s:Bool),((Z9 r (b.drop k) z).1,s||(Z9 r (b.drop k) z).2)=(QM a b)→Qf8 (fun r'=>r'=QaR (QM a b)) a b z s k) ?_ ?_ 0 false (by unfold QM;rw [if_pos hp];simp)
 ·intro z s he
  refine Qtu (fun r'=>r'=QaR (QM a b)) a b _ _ _ ⟨fun h=>by simp at h,fun _=>R_eq ?_⟩
  rw [← he];simp [Z9]
 ·intro k x r hk hlt hg ih z s he
  obtain ⟨y,q,hq⟩:=Yj (l:=b) (k:=k) (by omega)
  refine Qtu (fun r'=>r'=QaR (QM a b)) a b _ _ _ ⟨fun _=>?_,fun h=>by simp at h;omega⟩
  rw [Int.toNat_natCast,hg,ZN hq,sc1 (by omega)]
  refine ⟨⟨⟨by omega,hlt⟩,by omega,by omega⟩,ih _ _ ?_⟩
  rw [← he,hq,Z9,Zx hq]
  simp [Bool.or_assoc]
theorem Qi9:Qh Tryz.prog Qdh:=Qk fun x _=>Qwd x.1 x.2.1
def Qa8 (t:Int × Bool):TRes:=zre (.tp [(zci t.1),(zcb t.2)])
def Qb4:TRow:=Qg 206 [(.c (.sl [TI])),(.c (.sl [TI]))] fun x=>(none,Qa8 (QM x.1 x.2.1))
def Qin:List TRow:=[QbG,QcM,QaB]
def QuX:TCode :=
 (zsq [(zsq [(.reg [zmv 13 8,zmv 14 0,zle 15 14,zbi 16 .lss 13 15,zmv 17 16,.grp 17 true [zmv 18 0,zmv 19 1,zca 20 207 [18,19]] 21 20]),(.cond 21 .skip (.exit 0))]),(.block 1 (zsq [(.draw [zmv 25 0,zmv 26 8,zia 27 25 26 [TI],zld 28 27 1,zmv 29 1,zmv 30 8,zia 31 29 30 [TI],zld 32 31 1,zca 33 229 [28,32],zmv 24 33,zex 34 24 0,zex 35 24 1,zmv 9 34,zmv 10 35] []),(.reg [zmv 37 6,zmv 38 9,zca 39 162 [37,38],zmv 36 39,zex 40 36 0,zex 41 36 1,zmv 11 40,zmv 12 41]),(.reg [zmv 42 11,zmv 6 42]),(.reg [zmv 43 7,zmv 44 43,.grp 44 false [zmv 45 10] 46 45,zmv 47 46,.grp 47 false [zmv 48 12] 49 48,zmv 7 49])])),(.reg [zmv 22 8,zbi 23 .add 22 (zki 1),zmv 8 23])])
def QpE:List (Nat × Md):=zdl [0,1,6,7,8]
def Qnq:TCode :=
 (zsq [(.reg [zmv 50 6,zmv 51 7,zmv 4 50,zmv 5 51]),.ret])
def QDf:TCode :=
 (zsq [(.reg [zmv 4 (zki 0),zmv 5 (zkb false)]),(.reg [zmv 6 (zki 0)]),(.reg [zmv 7 (zkb false)]),(zsq [(.reg [zmv 8 (zki 0)]),(.block 0 (.loop QpE QuX))]),Qnq])
def QqL:List (ARv × Md):=[(.t 4,.one .d),(.t 5,.one .d)]
def Qsn:Qc:=TQ 0 0 QqL K
def Qvr:Qc:=Qseq (tawp Qin 0 Qnq (Qsn K)) (Qsn K)
def QIM:Qc:=Qblk 0 (Qvr K)
def QeE (a:List Int) (b:List Int) (sum:Int) (sat:Bool) (i:Int):Prop:=Loop Qin 0 QpE QuX (QIM K) ⟨[(0,(zcs [TI] a)),(1,(zcs [TI] b)),(6,(zci sum)),(7,(zcb sat)),(8,(zci i))],[],0⟩
theorem Qhj (a:List Int) (b:List Int) (sum:Int) (sat:Bool) (i:Int) (h :
 (zif ((decide (i<(a.length:Int)))&&(Ze a b)) ((((0:Int)≤i∧Int.toNat i<a.length)∧((0:Int)≤i∧Int.toNat i<b.length))∧(QeE K a b ((QT sum ((Q2 (gtd (0:Int) a (Int.toNat i)) (gtd (0:Int) b (Int.toNat i))).1)).1) ((sat||((Q2 (gtd (0:Int) a (Int.toNat i)) (gtd (0:Int) b (Int.toNat i))).2))||((QT sum ((Q2 (gtd (0:Int) a (Int.toNat i)) (gtd (0:Int) b (Int.toNat i))).1)).2)) (w64 (i+(1:Int))))) (K (Qa8 (sum,sat))))):QeE K a b sum sat i :=
 Loop.of (by kernel_rfl) h
theorem QDe (a:List Int) (b:List Int) (h :
 (QeE K a b 0 false 0)):Hold (tawp Qin (0+0) QDf (TQ 0 0 QqL K) (Qe [(.c (.sl [TI]) a),(.c (.sl [TI]) b)])) :=
 Hold.of (by kernel_rfl) h
theorem QHd (a:List Int) (b:List Int):TCon Tryz.prog 206 [(.c (.sl [TI]) a),(.c (.sl [TI]) b)] (Qa8 (QM a b)):=by
 refine Ql rfl fun hb=>tcg (n:=52) (sg:=Qb4.sg) Qi (TOk.cons Qd3 (TOk.cons QjP (TOk.cons Qdn TOk.nil))) (by kernel_rfl) (by kernel_rfl) (QDe _ a b ?_)
 have hl_a:a.length≤9223372036854775807:=hb.1.1
 have hl_b:b.length≤9223372036854775807:=hb.2.1.1
 by_cases hp:Ze a b=true
 rotate_left
 ·refine Qhj (fun r'=>r'=Qa8 (QM a b)) a b _ _ _ ⟨fun h=>by simp [hp] at h,fun _=>R_eq (by unfold QM;rw [if_neg hp])⟩
 have hl:=YE.1 hp
 have h6:=(Zu.1 hl.1).1
 refine Zc a (fun r k=>∀ (z:Int) (s:Bool),((Z9 r (b.drop k) z).1,s||(Z9 r (b.drop k) z).2)=(QM a b)→QeE (fun r'=>r'=Qa8 (QM a b)) a b z s k) ?_ ?_ 0 false (by unfold QM;rw [if_pos hp];simp)
 ·intro z s he
  refine Qhj (fun r'=>r'=Qa8 (QM a b)) a b _ _ _ ⟨fun h=>by simp at h,fun _=>R_eq ?_⟩
  rw [← he];simp [Z9]
 ·intro k x r hk hlt hg ih z s he
  obtain ⟨y,q,hq⟩:=Yj (l:=b) (k:=k) (by omega)
  refine Qhj (fun r'=>r'=Qa8 (QM a b)) a b _ _ _ ⟨fun _=>?_,fun h=>by simp [hp] at h;omega⟩
  rw [Int.toNat_natCast,hg,ZN hq,sc1 (by omega)]
  refine ⟨⟨⟨by omega,hlt⟩,by omega,by omega⟩,ih _ _ ?_⟩
  rw [← he,hq,Z9,Zx hq]
  simp [Bool.or_assoc]
theorem Qgk:Qh Tryz.prog Qb4:=Qk fun x _=>QHd x.1 x.2.1
def QaA (t:(List Int)):TRes:=zra (zcs [TI] t)
def QjF:TRow:=Qg 215 [(.c (.sl [TI]))] fun x=>(none,QaA (ZH x.1))
def QkK:List TRow:=[Qat,Qid]
def QtN:TCode :=
 (zsq [(.reg [zbi 13 .lss 12 11]),(.cond 13 .skip (.exit 0)),(.block 1 (zsq [(.reg [zia 14 10 12 [TI],zld 15 14 1,zmv 5 15]),(.reg [zmv 16 3,zmv 17 5,zca 18 234 [17],zop 19 (.bsl 3 [TI] [18]),zop 20 (.app 16 19 3 [TI]),zmv 3 20])])),(.reg [zbi 21 .add 12 (zki 1),zmv 12 21])])
def Qmk:List (Nat × Md):=[(3,.one .f),(10,.one .d),(11,.one .d),(12,.one .d)]
def QpY:TCode :=
 (zsq [(.reg [zmv 22 3,zmv 2 22]),.ret])
def Qw7:TCode :=
 (zsq [(.reg [zmv 2 (.k (.n [TI]))]),(zsq [(.reg [zmv 6 0,zca 7 134 [6],zno 8 7]),(.cond 8 (zsq [(.reg [zmv 2 (.k (.n [TI]))]),.ret]) .skip)]),(.reg [zop 9 (.bsl 3 [TI] []),zmv 3 9]),(zsq [(.reg [zmv 10 0,zle 11 10,zmv 12 (zki 0)]),(.block 0 (.loop Qmk QtN))]),QpY])
def Qox:List (ARv × Md):=[(.t 2,.one .d)]
def Qpq:Qc:=TQ 0 0 Qox K
def Qxi:Qc:=Qseq (tawp QkK 0 QpY (Qpq K)) (Qpq K)
def QFY:Qc:=Qblk 0 (Qxi K)
def Qfy (a:List Int) (x:Int) (v:List Int):Prop:=Loop QkK 0 Qmk QtN (QFY K) ⟨[(3,(.r [TI] 0 0 v.length)),(10,(zcs [TI] a)),(11,(zci (a.length:Int))),(12,(zci x))],[(0,(.sl 3 [TI] true v))],1⟩
theorem Qs4 (a:List Int) (x:Int) (v:List Int) (h :
 (zif (decide (x<(a.length:Int))) (((0:Int)≤x∧Int.toNat x<a.length)∧(((v.length=v.length∨v.length+1≤v.length)∧v.length+1≤big)∧(Qfy K a (w64 (x+(1:Int))) (List.take (v.length+1) ((List.take v.length v)++([(Y8 (gtd (0:Int) a (Int.toNat x)))])))))) (K (QaA (List.take v.length (List.drop 0 v)))))):Qfy K a x v :=
 Loop.of (by kernel_rfl) h
theorem QBC (a:List Int) (h :
 (zif (!(Qu a)) (K (QaA ([]))) (Qfy K a 0 ([]:List Int)))):Hold (tawp QkK (0+0) Qw7 (TQ 0 0 Qox K) (Qe [(.c (.sl [TI]) a)])) :=
 Hold.of (by kernel_rfl) h
theorem Qvi (a:List Int):TCon Tryz.prog 215 [(.c (.sl [TI]) a)] (QaA (ZH a)):=by
 refine Ql rfl fun hb=>tcg (n:=23) (sg:=QjF.sg) Qi (TOk.cons QcC (TOk.cons QHQ TOk.nil)) (by kernel_rfl) (by kernel_rfl) (QBC _ a ?_)
 have hl_a:a.length≤9223372036854775807:=hb.1.1
 refine ⟨fun h=>R_eq (by unfold ZH;rw [if_neg (by simpa using h)]),fun h=>?_⟩
 have hp:Qu a=true:=by simpa using h
 have h6:=(Zu.1 hp).1
 refine Zc a (fun r k=>∀ (v:List Int),v.length=k→v++r.map Y8=(ZH a)→Qfy (fun r'=>r'=QaA (ZH a)) a k v) ?_ ?_ [] rfl (by unfold ZH;rw [if_pos hp];simp)
 ·intro v hv he
  refine Qs4 (fun r'=>r'=QaA (ZH a)) a _ _ ⟨fun h=>by simp at h,fun _=>R_eq ?_⟩
  rw [← he];simp
 ·intro k x r hk hlt hg ih v hv he
  refine Qs4 (fun r'=>r'=QaA (ZH a)) a _ _ ⟨fun _=>?_,fun h=>by simp at h;omega⟩
  rw [Int.toNat_natCast,hg,sc1 (by omega),Q9]
  refine ⟨⟨by omega,hlt⟩,room (by omega),ih _ (ZZ hv) ?_⟩
  rw [← he];simp
theorem QIs:Qh Tryz.prog QjF:=Qk fun x _=>Qvi x.1
def Qbb (t:(List Int)):TRes:=zra (zcs [TI] t)
def QkJ:TRow:=Qg 227 [(.c (.sl [TI]))] fun x=>(none,Qbb (ZH x.1))
def Qgr:List TRow:=[Ys,Qjk]
def QoU:TCode :=
 (zsq [(zsq [(.reg [zmv 6 4,zmv 7 0,zle 8 7,zbi 9 .lss 6 8,zmv 10 9,.grp 10 true [zmv 11 0,zca 12 42 [11]] 13 12]),(.cond 13 .skip (.exit 0))]),(.block 1 (.reg [zmv 16 3,zmv 17 0,zmv 18 4,zia 19 17 18 [TI],zld 20 19 1,zca 21 238 [20],zop 22 (.bsl 3 [TI] [21]),zop 23 (.app 16 22 3 [TI]),zmv 3 23])),(.reg [zmv 14 4,zbi 15 .add 14 (zki 1),zmv 4 15])])
def QqJ:List (Nat × Md):=[(0,.one .d),(3,.one .f),(4,.one .d)]
def Ql0:TCode :=
 (zsq [(.reg [zmv 24 3,zmv 2 24]),.ret])
def Qzv:TCode :=
 (zsq [(.reg [zmv 2 (.k (.n [TI]))]),(.reg [zop 5 (.bsl 3 [TI] []),zmv 3 5]),(zsq [(.reg [zmv 4 (zki 0)]),(.block 0 (.loop QqJ QoU))]),Ql0])
def QqS:List (ARv × Md):=[(.t 2,.one .d)]
def QqI:Qc:=TQ 0 0 QqS K
def QAL:Qc:=Qseq (tawp Qgr 0 Ql0 (QqI K)) (QqI K)
def Qwn:Qc:=Qblk 0 (QAL K)
def QeO (a:List Int) (i:Int) (out:List Int):Prop:=Loop Qgr 0 QqJ QoU (Qwn K) ⟨[(0,(zcs [TI] a)),(3,(.r [TI] 0 0 out.length)),(4,(zci i))],[(0,(.sl 3 [TI] true out))],1⟩
theorem Qib (a:List Int) (i:Int) (out:List Int) (h :
 (zif ((decide (i<(a.length:Int)))&&(Qu a)) ((((0:Int)≤i∧Int.toNat i<a.length)∧((out.length=out.length∨out.length+1≤out.length)∧out.length+1≤big))∧(QeO K a (w64 (i+(1:Int))) (List.take (out.length+1) ((List.take out.length out)++([(Y8 (gtd (0:Int) a (Int.toNat i)))]))))) (K (Qbb (List.take out.length (List.drop 0 out)))))):QeO K a i out :=
 Loop.of (by kernel_rfl) h
theorem QDs (a:List Int) (h :
 (QeO K a 0 ([]:List Int))):Hold (tawp Qgr (0+0) Qzv (TQ 0 0 QqS K) (Qe [(.c (.sl [TI]) a)])) :=
 Hold.of (by kernel_rfl) h
theorem QyP (a:List Int):TCon Tryz.prog 227 [(.c (.sl [TI]) a)] (Qbb (ZH a)):=by
 refine Ql rfl fun hb=>tcg (n:=25) (sg:=QkJ.sg) Qi (TOk.cons YF (TOk.cons QFx TOk.nil)) (by kernel_rfl) (by kernel_rfl) (QDs _ a ?_)
 have hl_a:a.length≤9223372036854775807:=hb.1.1
 by_cases hp:Qu a=true
 rotate_left
 ·refine Qib (fun r'=>r'=Qbb (ZH a)) a _ _ ⟨fun h=>by simp [hp] at h,fun _=>R_eq (by unfold ZH;rw [if_neg hp];rfl)⟩
 have h6:=(Zu.1 hp).1
 refine Zc a (fun r k=>∀ (v:List Int),v.length=k→v++r.map Y8=(ZH a)→QeO (fun r'=>r'=Qbb (ZH a)) a k v) ?_ ?_ [] rfl (by unfold ZH;rw [if_pos hp];simp)
 ·intro v hv he
  refine Qib (fun r'=>r'=Qbb (ZH a)) a _ _ ⟨fun h=>by simp at h,fun _=>R_eq ?_⟩
  rw [← he];simp
 ·intro k x r hk hlt hg ih v hv he
  refine Qib (fun r'=>r'=Qbb (ZH a)) a _ _ ⟨fun _=>?_,fun h=>by simp [hp] at h;omega⟩
  rw [Int.toNat_natCast,hg,sc1 (by omega),Q9]
  refine ⟨⟨⟨by omega,hlt⟩,room (by omega)⟩,ih _ (ZZ hv) ?_⟩
  rw [← he];simp
theorem QAm:Qh Tryz.prog QkJ:=Qk fun x _=>QyP x.1
def Qa2 (t:(List Int)):TRes:=zra (zcs [TI] t)
def QgK:TRow:=Qg 220 [(.c (.sl [TI])),(.c (.sl [TI]))] fun x=>(none,Qa2 (ZJ x.1 x.2.1))
def Qkg:List TRow:=[Qb5]
def Qmt:TCode :=
 (zsq [(.reg [zbi 15 .lss 14 13]),(.cond 15 .skip (.exit 0)),(.block 1 (zsq [(.reg [zmv 16 14,zmv 6 16]),(.reg [zmv 17 0,zmv 18 6,zia 19 17 18 [TI],zld 20 19 1,zbi 21 .gtr 20 (zki 0)]),(.cond 21 (.reg [zmv 22 5,zmv 23 1,zmv 24 6,zia 25 23 24 [TI],zld 26 25 1,zop 27 (.bsl 3 [TI] [26]),zop 28 (.app 22 27 3 [TI]),zmv 5 28]) (.reg [zmv 29 5,zop 30 (.bsl 3 [TI] [(zki 0)]),zop 31 (.app 29 30 3 [TI]),zmv 5 31]))])),(.reg [zbi 32 .add 14 (zki 1),zmv 14 32])])
def Qmv:List (Nat × Md):=[(0,.one .d),(1,.one .d),(5,.one .f),(13,.one .d),(14,.one .d)]
def Qnt:TCode :=
 (zsq [(.reg [zmv 33 5,zmv 4 33]),.ret])
def Qzb:TCode :=
 (zsq [(.reg [zmv 4 (.k (.n [TI]))]),(zsq [(.reg [zmv 7 0,zmv 8 1,zca 9 191 [7,8],zno 10 9]),(.cond 10 (zsq [(.reg [zmv 4 (.k (.n [TI]))]),.ret]) .skip)]),(.reg [zop 11 (.bsl 3 [TI] []),zmv 5 11]),(zsq [(.reg [zmv 12 0,zle 13 12,zmv 14 (zki 0)]),(.block 0 (.loop Qmv Qmt))]),Qnt])
def Qsm:List (ARv × Md):=[(.t 4,.one .d)]
def Qqp:Qc:=TQ 0 0 Qsm K
def Qwm:Qc:=Qseq (tawp Qkg 0 Qnt (Qqp K)) (Qqp K)
def QCo:Qc:=Qblk 0 (Qwm K)
def QcG (x:List Int) (d:List Int) (x1:Int) (v:List Int):Prop:=Loop Qkg 0 Qmv Qmt (QCo K) ⟨[(0,(zcs [TI] x)),(1,(zcs [TI] d)),(5,(.r [TI] 0 0 v.length)),(13,(zci (x.length:Int))),(14,(zci x1))],[(0,(.sl 3 [TI] true v))],1⟩
theorem Qrd (x:List Int) (d:List Int) (x1:Int) (v:List Int) (h :
 (zif (decide (x1<(x.length:Int))) (((0:Int)≤x1∧Int.toNat x1<x.length)∧(zif (decide ((gtd (0:Int) x (Int.toNat x1))>(0:Int))) ((((0:Int)≤x1∧Int.toNat x1<d.length)∧((v.length=v.length∨v.length+1≤v.length)∧v.length+1≤big))∧(QcG K x d (w64 (x1+(1:Int))) (List.take (v.length+1) ((List.take v.length v)++([(gtd (0:Int) d (Int.toNat x1))]))))) (((v.length=v.length∨v.length+1≤v.length)∧v.length+1≤big)∧(QcG K x d (w64 (x1+(1:Int))) (List.take (v.length+1) ((List.take v.length v)++([(0:Int)]))))))) (K (Qa2 (List.take v.length (List.drop 0 v)))))):QcG K x d x1 v :=
 Loop.of (by kernel_rfl) h
theorem QxI (x:List Int) (d:List Int) (h :
 (zif (!(Ze x d)) (K (Qa2 ([]))) (QcG K x d 0 ([]:List Int)))):Hold (tawp Qkg (0+0) Qzb (TQ 0 0 Qsm K) (Qe [(.c (.sl [TI]) x),(.c (.sl [TI]) d)])) :=
 Hold.of (by kernel_rfl) h
theorem QBr (x:List Int) (d:List Int):TCon Tryz.prog 220 [(.c (.sl [TI]) x),(.c (.sl [TI]) d)] (Qa2 (ZJ x d)):=by
 refine Ql rfl fun hb=>tcg (n:=34) (sg:=QgK.sg) Qi (TOk.cons QfW TOk.nil) (by kernel_rfl) (by kernel_rfl) (QxI _ x d ?_)
 have hl_x:x.length≤9223372036854775807:=hb.1.1
 have hl_d:d.length≤9223372036854775807:=hb.2.1.1
 refine ⟨fun h=>R_eq (by unfold ZJ;rw [if_neg (by simpa using h)]),fun h=>?_⟩
 have hp:Ze x d=true:=by simpa using h
 have hl:=YE.1 hp
 have h6:=(Zu.1 hl.1).1
 refine Zc x (fun r k=>∀ (v:List Int),v.length=k→v++List.zipWith (fun a b=>if 0<a then b else 0) r (d.drop k)=(ZJ x d)→QcG (fun r'=>r'=Qa2 (ZJ x d)) x d k v) ?_ ?_ [] rfl (by unfold ZJ;rw [if_pos hp];simp)
 ·intro v hv he
  refine Qrd (fun r'=>r'=Qa2 (ZJ x d)) x d _ _ ⟨fun h=>by simp at h,fun _=>R_eq ?_⟩
  rw [← he];simp
 ·intro k y r hk hlt hg ih v hv he
  obtain ⟨z,q,hq⟩:=Yj (l:=d) (k:=k) (by omega)
  refine Qrd (fun r'=>r'=Qa2 (ZJ x d)) x d _ _ ⟨fun _=>?_,fun h=>by simp at h;omega⟩
  rw [Int.toNat_natCast,hg,ZN hq,sc1 (by omega),Q9,Q9]
  rw [hq,List.zipWith_cons_cons,← Zx hq] at he
  refine ⟨⟨by omega,hlt⟩,fun h=>⟨⟨⟨by omega,by omega⟩,room (by omega)⟩,ih _ (ZZ hv) ?_⟩,fun h=>⟨room (by omega),ih _ (ZZ hv) ?_⟩⟩
  ·rw [← he,if_pos (by simpa using h)];simp
  ·rw [← he,if_neg (by simpa using h)];simp
theorem QzN:Qh Tryz.prog QgK:=Qk fun x _=>QBr x.1 x.2.1
def Qbj (t:(List Int)):TRes:=zra (zcs [TI] t)
def QhN:TRow:=Qg 230 [(.c (.sl [TI])),(.c (.sl [TI]))] fun x=>(none,Qbj (ZJ x.1 x.2.1))
def Qh4:List TRow:=[QbG]
def Qtj:TCode :=
 (zsq [(zsq [(.reg [zmv 8 6,zmv 9 0,zle 10 9,zbi 11 .lss 8 10,zmv 12 11,.grp 12 true [zmv 13 0,zmv 14 1,zca 15 207 [13,14]] 16 15]),(.cond 16 .skip (.exit 0))]),(.block 1 (zsq [(.reg [zmv 19 0,zmv 20 6,zia 21 19 20 [TI],zld 22 21 1,zbi 23 .gtr 22 (zki 0)]),(.cond 23 (.reg [zmv 24 5,zmv 25 1,zmv 26 6,zia 27 25 26 [TI],zld 28 27 1,zop 29 (.bsl 3 [TI] [28]),zop 30 (.app 24 29 3 [TI]),zmv 5 30]) (.reg [zmv 31 5,zop 32 (.bsl 3 [TI] [(zki 0)]),zop 33 (.app 31 32 3 [TI]),zmv 5 33]))])),(.reg [zmv 17 6,zbi 18 .add 17 (zki 1),zmv 6 18])])
def Qqe:List (Nat × Md):=[(0,.one .d),(1,.one .d),(5,.one .f),(6,.one .d)]
def Qo3:TCode :=
 (zsq [(.reg [zmv 34 5,zmv 4 34]),.ret])
def QHN:TCode :=
 (zsq [(.reg [zmv 4 (.k (.n [TI]))]),(.reg [zop 7 (.bsl 3 [TI] []),zmv 5 7]),(zsq [(.reg [zmv 6 (zki 0)]),(.block 0 (.loop Qqe Qtj))]),Qo3])
def QpS:List (ARv × Md):=[(.t 4,.one .d)]
def Qqv:Qc:=TQ 0 0 QpS K
def QzC:Qc:=Qseq (tawp Qh4 0 Qo3 (Qqv K)) (Qqv K)
def Qw3:Qc:=Qblk 0 (QzC K)
def Qda (x:List Int) (d:List Int) (i:Int) (out:List Int):Prop:=Loop Qh4 0 Qqe Qtj (Qw3 K) ⟨[(0,(zcs [TI] x)),(1,(zcs [TI] d)),(5,(.r [TI] 0 0 out.length)),(6,(zci i))],[(0,(.sl 3 [TI] true out))],1⟩
theorem Qj1 (x:List Int) (d:List Int) (i:Int) (out:List Int) (h :
 (zif ((decide (i<(x.length:Int)))&&(Ze x d)) (((0:Int)≤i∧Int.toNat i<x.length)∧(zif (decide ((gtd (0:Int) x (Int.toNat i))>(0:Int))) ((((0:Int)≤i∧Int.toNat i<d.length)∧((out.length=out.length∨out.length+1≤out.length)∧out.length+1≤big))∧(Qda K x d (w64 (i+(1:Int))) (List.take (out.length+1) ((List.take out.length out)++([(gtd (0:Int) d (Int.toNat i))]))))) (((out.length=out.length∨out.length+1≤out.length)∧out.length+1≤big)∧(Qda K x d (w64 (i+(1:Int))) (List.take (out.length+1) ((List.take out.length out)++([(0:Int)]))))))) (K (Qbj (List.take out.length (List.drop 0 out)))))):Qda K x d i out :=
 Loop.of (by kernel_rfl) h
theorem QDj (x:List Int) (d:List Int) (h :
 (Qda K x d 0 ([]:List Int))):Hold (tawp Qh4 (0+0) QHN (TQ 0 0 QpS K) (Qe [(.c (.sl [TI]) x),(.c (.sl [TI]) d)])) :=
 Hold.of (by kernel_rfl) h
theorem QCv (x:List Int) (d:List Int):TCon Tryz.prog 230 [(.c (.sl [TI]) x),(.c (.sl [TI]) d)] (Qbj (ZJ x d)):=by
 refine Ql rfl fun hb=>tcg (n:=35) (sg:=QhN.sg) Qi (TOk.cons Qd3 TOk.nil) (by kernel_rfl) (by kernel_rfl) (QDj _ x d ?_)
 have hl_x:x.length≤9223372036854775807:=hb.1.1
 have hl_d:d.length≤9223372036854775807:=hb.2.1.1
 by_cases hp:Ze x d=true
 rotate_left
 ·refine Qj1 (fun r'=>r'=Qbj (ZJ x d)) x d _ _ ⟨fun h=>by simp [hp] at h,fun _=>R_eq (by unfold ZJ;rw [if_neg hp];rfl)⟩
 have hl:=YE.1 hp
 have h6:=(Zu.1 hl.1).1
 refine Zc x (fun r k=>∀ (v:List Int),v.length=k→v++List.zipWith (fun a b=>if 0<a then b else 0) r (d.drop k)=(ZJ x d)→Qda (fun r'=>r'=Qbj (ZJ x d)) x d k v) ?_ ?_ [] rfl (by unfold ZJ;rw [if_pos hp];simp)
 ·intro v hv he
  refine Qj1 (fun r'=>r'=Qbj (ZJ x d)) x d _ _ ⟨fun h=>by simp at h,fun _=>R_eq ?_⟩
  rw [← he];simp
 ·intro k y r hk hlt hg ih v hv he
  obtain ⟨z,q,hq⟩:=Yj (l:=d) (k:=k) (by omega)
  refine Qj1 (fun r'=>r'=Qbj (ZJ x d)) x d _ _ ⟨fun _=>?_,fun h=>by simp [hp] at h;omega⟩
  rw [Int.toNat_natCast,hg,ZN hq,sc1 (by omega),Q9,Q9]
  rw [hq,List.zipWith_cons_cons,← Zx hq] at he
  refine ⟨⟨by omega,hlt⟩,fun h=>⟨⟨⟨by omega,by omega⟩,room (by omega)⟩,ih _ (ZZ hv) ?_⟩,fun h=>⟨room (by omega),ih _ (ZZ hv) ?_⟩⟩
  ·rw [← he,if_pos (by simpa using h)];simp
  ·rw [← he,if_neg (by simpa using h)];simp
theorem QCr:Qh Tryz.prog QhN:=Qk fun x _=>QCv x.1 x.2.1
end
end Go.Proofs.YtjbdljkhbglnhaaGreat.Am

