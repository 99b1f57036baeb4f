/- -/
import Derived.Test.YtjbdljkhbglnhaaGreatZFP1
import Derived.Test.YtjbdljkhbglnhaaGreatZFPF
namespace Go.Proofs.YtjbdljkhbglnhaaGreat.Am
open Go Go.RowKit Go.Proofs.YtjbdljkhbglnhaaGreat
set_option linter.all false
noncomputable section
variable (K:TRes→Prop)
def Qng (t:Bool):TRes:=zre (zcb t)
def QeW:TRow:=Qh 191 [(.c (.sl [TI])),(.c (.sl [TI]))] fun x=>(none,Qng (ZN x.1 x.2.1))
def Q3d:List TRow:=[Qbi,Qaa]
def Q10:TCode :=
 (zsq [(.reg [zmv 4 (zkb false)]),(.reg [zmv 5 0,zca 6 134 [5],zmv 7 6,.grp 7 true [zmv 8 1,zmv 9 0,zle 10 9,zca 11 114 [8,10]] 12 11,zmv 4 12]),.ret])
def QZ9:List (ARv × Md):=[(.t 4,.one .d)]
theorem QH9 (a:List Int) (b:List Int) (h :
 K (Qng ((QN a)&&(Qt b (a.length:Int))))):Hold (tawp Q3d (0+0) Q10 (TQ 0 0 QZ9 K) (Qf [(.c (.sl [TI]) a),(.c (.sl [TI]) b)])) :=
 Hold.of (by kernel_rfl) h
theorem Q1o (a:List Int) (b:List Int):TCon Tryz.prog 191 [(.c (.sl [TI]) a),(.c (.sl [TI]) b)] (Qng (ZN a b)):=by
 refine Qo rfl fun hb=>tcg (n:=13) (sg:=QeW.sg) Qj (TOk.cons QdL (TOk.cons Qay TOk.nil)) (by kernel_rfl) (by kernel_rfl) (QH9 _ a b ?_)
 have hl_a:a.length≤9223372036854775807:=hb.1.1
 have hl_b:b.length≤9223372036854775807:=hb.2.1.1
 exact R_eq rfl
theorem QjA:Qg Tryz.prog QeW:=Qk fun x _=>Q1o x.1 x.2.1
def Qox (t:Bool):TRes:=zre (zcb t)
def Qe4:TRow:=Qh 207 [(.c (.sl [TI])),(.c (.sl [TI]))] fun x=>(none,Qox (ZN x.1 x.2.1))
def QQf:List TRow:=[Jd]
def QW2:TCode :=
 (zsq [(.reg [zmv 4 (zkb false)]),(.reg [zmv 5 0,zca 6 42 [5],zmv 7 6,.grp 7 true [zmv 8 1,zca 9 42 [8]] 10 9,zmv 11 10,.grp 11 true [zmv 12 0,zle 13 12,zmv 14 1,zle 15 14,zbi 16 .eql 13 15] 17 16,zmv 4 17]),.ret])
def QSL:List (ARv × Md):=[(.t 4,.one .d)]
theorem QRZ (a:List Int) (b:List Int) (h :
 K (Qox (((QN a)&&(QN b))&&((a.length:Int)==(b.length:Int))))):Hold (tawp QQf (0+0) QW2 (TQ 0 0 QSL K) (Qf [(.c (.sl [TI]) a),(.c (.sl [TI]) b)])) :=
 Hold.of (by kernel_rfl) h
theorem QRj (a:List Int) (b:List Int):TCon Tryz.prog 207 [(.c (.sl [TI]) a),(.c (.sl [TI]) b)] (Qox (ZN a b)):=by
 refine Qo rfl fun hb=>tcg (n:=18) (sg:=Qe4.sg) Qj (TOk.cons Jw TOk.nil) (by kernel_rfl) (by kernel_rfl) (QRZ _ a b ?_)
 have hl_a:a.length≤9223372036854775807:=hb.1.1
 have hl_b:b.length≤9223372036854775807:=hb.2.1.1
 refine R_eq ?_
 rw [Bool.eq_iff_iff]
 unfold ZN Qt
 simp only [Bool.and_eq_true,beq_iff_eq]
 constructor
 ·rintro ⟨⟨h1,h2⟩,h3⟩;exact ⟨h1,h2,by omega⟩
 ·rintro ⟨h1,h2,h3⟩;exact ⟨⟨h1,h2⟩,by omega⟩
theorem Qit:Qg Tryz.prog Qe4:=Qk fun x _=>QRj x.1 x.2.1
def Qdh (t:(List Int) × Bool):TRes:=zra (.tp [(zcs [TI] t.1),(zcb t.2)])
def Qlz:TRow:=Qh 213 [(.c (.sl [TI])),(.c (.sl [TI]))] fun x=>(none,Qdh (Zn x.1 x.2.1))
def Qmg:List TRow:=[QeW,Qes]
def QB8:TCode :=
 (zsq [(.reg [zbi 19 .lss 18 17]),(.cond 19 .skip (.exit 0)),(.block 1 (zsq [(.reg [zmv 20 18,zmv 8 20]),(.draw [zmv 22 0,zmv 23 8,zia 24 22 23 [TI],zld 25 24 1,zmv 26 1,zmv 27 8,zia 28 26 27 [TI],zld 29 28 1,zca 30 121 [25,29],zmv 21 30,zex 31 21 0,zex 32 21 1,zmv 9 31,zmv 10 32] []),(.reg [zmv 33 6,zmv 34 9,zop 35 (.bsl 3 [TI] [34]),zop 36 (.app 33 35 3 [TI]),zmv 6 36]),(.reg [zmv 37 7,zmv 38 37,.grp 38 false [zmv 39 10] 40 39,zmv 7 40])])),(.reg [zbi 41 .add 18 (zki 1),zmv 18 41])])
def QCc:List (Nat × Md):=[(0,.one .d),(1,.one .d),(6,.one .f),(7,.one .d),(17,.one .d),(18,.one .d)]
def QBJ:TCode :=
 (zsq [(.reg [zmv 42 6,zmv 43 7,zmv 4 42,zmv 5 43]),.ret])
def QYb:TCode :=
 (zsq [(.reg [zmv 4 (.k (.n [TI])),zmv 5 (zkb false)]),(zsq [(.reg [zmv 11 0,zmv 12 1,zca 13 191 [11,12],zno 14 13]),(.cond 14 (zsq [(.reg [zmv 4 (.k (.n [TI])),zmv 5 (zkb false)]),.ret]) .skip)]),(.reg [zop 15 (.bsl 3 [TI] []),zmv 6 15]),(.reg [zmv 7 (zkb false)]),(zsq [(.reg [zmv 16 0,zle 17 16,zmv 18 (zki 0)]),(.block 0 (.loop QCc QB8))]),QBJ])
def QyM:List (ARv × Md):=[(.t 4,.one .d),(.t 5,.one .d)]
def QEW:Qb:=TQ 0 0 QyM K
def Q0a:Qb:=Qseq (tawp Qmg 0 QBJ (QEW K)) (QEW K)
def Q1W:Qb:=Qblk 0 (Q0a K)
def QhK (a:List Int) (b:List Int) (out:Bool) (x:Int) (v:List Int):Prop:=Loop Qmg 0 QCc QB8 (Q1W K) ⟨[(0,(zcs [TI] a)),(1,(zcs [TI] b)),(6,(.r [TI] 0 0 v.length)),(7,(zcb out)),(17,(zci (a.length:Int))),(18,(zci x))],[(0,(.sl 3 [TI] true v))],1⟩
theorem QF6 (a:List Int) (b:List Int) (out:Bool) (x:Int) (v:List Int) (h :
 (zif (decide (x<(a.length:Int))) ((((0:Int)≤x∧Int.toNat x<a.length)∧((0:Int)≤x∧Int.toNat x<b.length))∧(((v.length=v.length∨v.length+1≤v.length)∧v.length+1≤big)∧(QhK K a b (out||((Q9 (gtd (0:Int) a (Int.toNat x)) (gtd (0:Int) b (Int.toNat x))).2)) (w64 (x+(1:Int))) (List.take (v.length+1) ((List.take v.length v)++([(Q9 (gtd (0:Int) a (Int.toNat x)) (gtd (0:Int) b (Int.toNat x))).1])))))) (K (Qdh ((List.take v.length (List.drop 0 v)),out))))):QhK K a b out x v :=
 Loop.of (by kernel_rfl) h
theorem Q0b (a:List Int) (b:List Int) (h :
 (zif (!(ZN a b)) (K (Qdh ([],false))) (QhK K a b false 0 ([]:List Int)))):Hold (tawp Qmg (0+0) QYb (TQ 0 0 QyM K) (Qf [(.c (.sl [TI]) a),(.c (.sl [TI]) b)])) :=
 Hold.of (by kernel_rfl) h
theorem QHQ (a:List Int) (b:List Int):TCon Tryz.prog 213 [(.c (.sl [TI]) a),(.c (.sl [TI]) b)] (Qdh (Zn a b)):=by
 refine Qo rfl fun hb=>tcg (n:=44) (sg:=Qlz.sg) Qj (TOk.cons QjA (TOk.cons QkV TOk.nil)) (by kernel_rfl) (by kernel_rfl) (Q0b _ a b ?_)
 have hl_a:a.length≤9223372036854775807:=hb.1.1
 have hl_b:b.length≤9223372036854775807:=hb.2.1.1
 refine ⟨fun h=>R_eq (by unfold Zn;rw [if_neg (by simpa using h)]),fun h=>?_⟩
 have hp:ZN a b=true:=by simpa using h
 have hl:=JZ.1 hp
 have h6:=(Z5.1 hl.1).1
 refine Zk a (fun r k=>∀ (v:List Int) (s:Bool),v.length=k→(v++(vz Q9 r (b.drop k)).1,s||(vz Q9 r (b.drop k)).2)=(Zn a b)→QhK (fun r'=>r'=Qdh (Zn a b)) a b s k v) ?_ ?_ [] false rfl (by unfold Zn;rw [if_pos hp];simp)
 ·intro v s hv he
  refine QF6 (fun r'=>r'=Qdh (Zn a b)) a b _ _ _ ⟨fun h=>by simp at h,fun _=>R_eq ?_⟩
  rw [← he];simp [vz]
 ·intro k x r hk hlt hg ih v s hv he
  obtain ⟨y,q,hq⟩:=Jt (l:=b) (k:=k) (by omega)
  refine QF6 (fun r'=>r'=Qdh (Zn a b)) a b _ _ _ ⟨fun _=>?_,fun h=>by simp at h;omega⟩
  rw [Int.toNat_natCast,hg,Yo hq,sc1 (by omega),Q7]
  refine ⟨⟨⟨by omega,hlt⟩,by omega,by omega⟩,room (by omega),ih _ _ (YQ hv) ?_⟩
  rw [← he,hq,vz,Z3 hq]
  simp [Bool.or_assoc]
theorem Qsz:Qg Tryz.prog Qlz:=Qk fun x _=>QHQ x.1 x.2.1
def QdX (t:(List Int) × Bool):TRes:=zra (.tp [(zcs [TI] t.1),(zcb t.2)])
def Qk9:TRow:=Qh 226 [(.c (.sl [TI])),(.c (.sl [TI]))] fun x=>(none,QdX (Zn x.1 x.2.1))
def Qrc:List TRow:=[Qe4,Qc1]
def QCP:TCode :=
 (zsq [(zsq [(.reg [zmv 12 8,zmv 13 0,zle 14 13,zbi 15 .lss 12 14,zmv 16 15,.grp 16 true [zmv 17 0,zmv 18 1,zca 19 207 [17,18]] 20 19]),(.cond 20 .skip (.exit 0))]),(.block 1 (zsq [(.draw [zmv 24 0,zmv 25 8,zia 26 24 25 [TI],zld 27 26 1,zmv 28 1,zmv 29 8,zia 30 28 29 [TI],zld 31 30 1,zca 32 162 [27,31],zmv 23 32,zex 33 23 0,zex 34 23 1,zmv 9 33,zmv 10 34] []),(.reg [zmv 35 6,zmv 36 9,zop 37 (.bsl 3 [TI] [36]),zop 38 (.app 35 37 3 [TI]),zmv 6 38]),(.reg [zmv 39 7,zmv 40 39,.grp 40 false [zmv 41 10] 42 41,zmv 7 42])])),(.reg [zmv 21 8,zbi 22 .add 21 (zki 1),zmv 8 22])])
def QDY:List (Nat × Md):=[(0,.one .d),(1,.one .d),(6,.one .f),(7,.one .d),(8,.one .d)]
def Qtr:TCode :=
 (zsq [(.reg [zmv 43 6,zmv 44 7,zmv 4 43,zmv 5 44]),.ret])
def Q0y:TCode :=
 (zsq [(.reg [zmv 4 (.k (.n [TI])),zmv 5 (zkb false)]),(.reg [zop 11 (.bsl 3 [TI] []),zmv 6 11]),(.reg [zmv 7 (zkb false)]),(zsq [(.reg [zmv 8 (zki 0)]),(.block 0 (.loop QDY QCP))]),Qtr])
def Qzk:List (ARv × Md):=[(.t 4,.one .d),(.t 5,.one .d)]
def QGA:Qb:=TQ 0 0 Qzk K
def QW4:Qb:=Qseq (tawp Qrc 0 Qtr (QGA K)) (QGA K)
def QXi:Qb:=Qblk 0 (QW4 K)
def Qjv (a:List Int) (b:List Int) (sat:Bool) (i:Int) (out:List Int):Prop:=Loop Qrc 0 QDY QCP (QXi K) ⟨[(0,(zcs [TI] a)),(1,(zcs [TI] b)),(6,(.r [TI] 0 0 out.length)),(7,(zcb sat)),(8,(zci i))],[(0,(.sl 3 [TI] true out))],1⟩
theorem QqX (a:List Int) (b:List Int) (sat:Bool) (i:Int) (out:List Int) (h :
 (zif ((decide (i<(a.length:Int)))&&(ZN a b)) ((((0:Int)≤i∧Int.toNat i<a.length)∧((0:Int)≤i∧Int.toNat i<b.length))∧(((out.length=out.length∨out.length+1≤out.length)∧out.length+1≤big)∧(Qjv K a b (sat||((Q9 (gtd (0:Int) a (Int.toNat i)) (gtd (0:Int) b (Int.toNat i))).2)) (w64 (i+(1:Int))) (List.take (out.length+1) ((List.take out.length out)++([(Q9 (gtd (0:Int) a (Int.toNat i)) (gtd (0:Int) b (Int.toNat i))).1])))))) (K (QdX ((List.take out.length (List.drop 0 out)),sat))))):Qjv K a b sat i out :=
 Loop.of (by kernel_rfl) h
theorem QKc (a:List Int) (b:List Int) (h :
 (Qjv K a b false 0 ([]:List Int))):Hold (tawp Qrc (0+0) Q0y (TQ 0 0 Qzk K) (Qf [(.c (.sl [TI]) a),(.c (.sl [TI]) b)])) :=
 Hold.of (by kernel_rfl) h
theorem QL0 (a:List Int) (b:List Int):TCon Tryz.prog 226 [(.c (.sl [TI]) a),(.c (.sl [TI]) b)] (QdX (Zn a b)):=by
 refine Qo rfl fun hb=>tcg (n:=45) (sg:=Qk9.sg) Qj (TOk.cons Qit (TOk.cons Qge TOk.nil)) (by kernel_rfl) (by kernel_rfl) (QKc _ a b ?_)
 have hl_a:a.length≤9223372036854775807:=hb.1.1
 have hl_b:b.length≤9223372036854775807:=hb.2.1.1
 by_cases hp:ZN a b=true
 rotate_left
 ·refine QqX (fun r'=>r'=QdX (Zn a b)) a b _ _ _ ⟨fun h=>by simp [hp] at h,fun _=>R_eq (by unfold Zn;rw [if_neg hp];rfl)⟩
 have hl:=JZ.1 hp
 have h6:=(Z5.1 hl.1).1
 refine Zk a (fun r k=>∀ (v:List Int) (s:Bool),v.length=k→(v++(vz Q9 r (b.drop k)).1,s||(vz Q9 r (b.drop k)).2)=(Zn a b)→Qjv (fun r'=>r'=QdX (Zn a b)) a b s k v) ?_ ?_ [] false rfl (by unfold Zn;rw [if_pos hp];simp)
 ·intro v s hv he
  refine QqX (fun r'=>r'=QdX (Zn a b)) a b _ _ _ ⟨fun h=>by simp at h,fun _=>R_eq ?_⟩
  rw [← he];simp [vz]
 ·intro k x r hk hlt hg ih v s hv he
  obtain ⟨y,q,hq⟩:=Jt (l:=b) (k:=k) (by omega)
  refine QqX (fun r'=>r'=QdX (Zn a b)) a b _ _ _ ⟨fun _=>?_,fun h=>by simp [hp] at h;omega⟩
  rw [Int.toNat_natCast,hg,Yo hq,sc1 (by omega),Q7]
  refine ⟨⟨⟨by omega,hlt⟩,by omega,by omega⟩,room (by omega),ih _ _ (YQ hv) ?_⟩
  rw [← he,hq,vz,Z3 hq]
  simp [Bool.or_assoc]
theorem Qx0:Qg Tryz.prog Qk9:=Qk fun x _=>QL0 x.1 x.2.1
def QdA (t:(List Int) × Bool):TRes:=zra (.tp [(zcs [TI] t.1),(zcb t.2)])
def Qhl:TRow:=Qh 124 [(.c (.sl [TI])),(.c (.sl [TI]))] fun x=>(none,QdA (Zi x.1 x.2.1))
def Qq9:List TRow:=[QeW,Qoe]
def QyZ:TCode :=
 (zsq [(.reg [zbi 19 .lss 18 17]),(.cond 19 .skip (.exit 0)),(.block 1 (zsq [(.reg [zmv 20 18,zmv 8 20]),(.draw [zmv 22 0,zmv 23 8,zia 24 22 23 [TI],zld 25 24 1,zmv 26 1,zmv 27 8,zia 28 26 27 [TI],zld 29 28 1,zca 30 192 [25,29],zmv 21 30,zex 31 21 0,zex 32 21 1,zmv 9 31,zmv 10 32] []),(.reg [zmv 33 6,zmv 34 9,zop 35 (.bsl 3 [TI] [34]),zop 36 (.app 33 35 3 [TI]),zmv 6 36]),(.reg [zmv 37 7,zmv 38 37,.grp 38 false [zmv 39 10] 40 39,zmv 7 40])])),(.reg [zbi 41 .add 18 (zki 1),zmv 18 41])])
def Qyv:List (Nat × Md):=[(0,.one .d),(1,.one .d),(6,.one .f),(7,.one .d),(17,.one .d),(18,.one .d)]
def QGE:TCode :=
 (zsq [(.reg [zmv 42 6,zmv 43 7,zmv 4 42,zmv 5 43]),.ret])
def QTk:TCode :=
 (zsq [(.reg [zmv 4 (.k (.n [TI])),zmv 5 (zkb false)]),(zsq [(.reg [zmv 11 0,zmv 12 1,zca 13 191 [11,12],zno 14 13]),(.cond 14 (zsq [(.reg [zmv 4 (.k (.n [TI])),zmv 5 (zkb false)]),.ret]) .skip)]),(.reg [zop 15 (.bsl 3 [TI] []),zmv 6 15]),(.reg [zmv 7 (zkb false)]),(zsq [(.reg [zmv 16 0,zle 17 16,zmv 18 (zki 0)]),(.block 0 (.loop Qyv QyZ))]),QGE])
def Qw6:List (ARv × Md):=[(.t 4,.one .d),(.t 5,.one .d)]
def QF4:Qb:=TQ 0 0 Qw6 K
def QVn:Qb:=Qseq (tawp Qq9 0 QGE (QF4 K)) (QF4 K)
def QVA:Qb:=Qblk 0 (QVn K)
def QkU (a:List Int) (b:List Int) (out:Bool) (x:Int) (v:List Int):Prop:=Loop Qq9 0 Qyv QyZ (QVA K) ⟨[(0,(zcs [TI] a)),(1,(zcs [TI] b)),(6,(.r [TI] 0 0 v.length)),(7,(zcb out)),(17,(zci (a.length:Int))),(18,(zci x))],[(0,(.sl 3 [TI] true v))],1⟩
theorem QB6 (a:List Int) (b:List Int) (out:Bool) (x:Int) (v:List Int) (h :
 (zif (decide (x<(a.length:Int))) ((((0:Int)≤x∧Int.toNat x<a.length)∧((0:Int)≤x∧Int.toNat x<b.length))∧(((v.length=v.length∨v.length+1≤v.length)∧v.length+1≤big)∧(QkU K a b (out||((JK (gtd (0:Int) a (Int.toNat x)) (gtd (0:Int) b (Int.toNat x))).2)) (w64 (x+(1:Int))) (List.take (v.length+1) ((List.take v.length v)++([(JK (gtd (0:Int) a (Int.toNat x)) (gtd (0:Int) b (Int.toNat x))).1])))))) (K (QdA ((List.take v.length (List.drop 0 v)),out))))):QkU K a b out x v :=
 Loop.of (by kernel_rfl) h
theorem QN8 (a:List Int) (b:List Int) (h :
 (zif (!(ZN a b)) (K (QdA ([],false))) (QkU K a b false 0 ([]:List Int)))):Hold (tawp Qq9 (0+0) QTk (TQ 0 0 Qw6 K) (Qf [(.c (.sl [TI]) a),(.c (.sl [TI]) b)])) :=
 Hold.of (by kernel_rfl) h
theorem QYt (a:List Int) (b:List Int):TCon Tryz.prog 124 [(.c (.sl [TI]) a),(.c (.sl [TI]) b)] (QdA (Zi a b)):=by
 refine Qo rfl fun hb=>tcg (n:=44) (sg:=Qhl.sg) Qj (TOk.cons QjA (TOk.cons QOA TOk.nil)) (by kernel_rfl) (by kernel_rfl) (QN8 _ a b ?_)
 have hl_a:a.length≤9223372036854775807:=hb.1.1
 have hl_b:b.length≤9223372036854775807:=hb.2.1.1
 refine ⟨fun h=>R_eq (by unfold Zi;rw [if_neg (by simpa using h)]),fun h=>?_⟩
 have hp:ZN a b=true:=by simpa using h
 have hl:=JZ.1 hp
 have h6:=(Z5.1 hl.1).1
 refine Zk a (fun r k=>∀ (v:List Int) (s:Bool),v.length=k→(v++(vz JK r (b.drop k)).1,s||(vz JK r (b.drop k)).2)=(Zi a b)→QkU (fun r'=>r'=QdA (Zi a b)) a b s k v) ?_ ?_ [] false rfl (by unfold Zi;rw [if_pos hp];simp)
 ·intro v s hv he
  refine QB6 (fun r'=>r'=QdA (Zi a b)) a b _ _ _ ⟨fun h=>by simp at h,fun _=>R_eq ?_⟩
  rw [← he];simp [vz]
 ·intro k x r hk hlt hg ih v s hv he
  obtain ⟨y,q,hq⟩:=Jt (l:=b) (k:=k) (by omega)
  refine QB6 (fun r'=>r'=QdA (Zi a b)) a b _ _ _ ⟨fun _=>?_,fun h=>by simp at h;omega⟩
  rw [Int.toNat_natCast,hg,Yo hq,sc1 (by omega),Q7]
  refine ⟨⟨⟨by omega,hlt⟩,by omega,by omega⟩,room (by omega),ih _ _ (YQ hv) ?_⟩
  rw [← he,hq,vz,Z3 hq]
  simp [Bool.or_assoc]
theorem QB3:Qg Tryz.prog Qhl:=Qk fun x _=>QYt x.1 x.2.1
def Qda (t:(List Int) × Bool):TRes:=zra (.tp [(zcs [TI] t.1),(zcb t.2)])
def QjH:TRow:=Qh 165 [(.c (.sl [TI])),(.c (.sl [TI]))] fun x=>(none,Qda (Zi x.1 x.2.1))
def QpE:List TRow:=[Qe4,QmM]
def QyU:TCode :=
 (zsq [(zsq [(.reg [zmv 12 8,zmv 13 0,zle 14 13,zbi 15 .lss 12 14,zmv 16 15,.grp 16 true [zmv 17 0,zmv 18 1,zca 19 207 [17,18]] 20 19]),(.cond 20 .skip (.exit 0))]),(.block 1 (zsq [(.draw [zmv 24 0,zmv 25 8,zia 26 24 25 [TI],zld 27 26 1,zmv 28 1,zmv 29 8,zia 30 28 29 [TI],zld 31 30 1,zca 32 208 [27,31],zmv 23 32,zex 33 23 0,zex 34 23 1,zmv 9 33,zmv 10 34] []),(.reg [zmv 35 6,zmv 36 9,zop 37 (.bsl 3 [TI] [36]),zop 38 (.app 35 37 3 [TI]),zmv 6 38]),(.reg [zmv 39 7,zmv 40 39,.grp 40 false [zmv 41 10] 42 41,zmv 7 42])])),(.reg [zmv 21 8,zbi 22 .add 21 (zki 1),zmv 8 22])])
def QyN:List (Nat × Md):=[(0,.one .d),(1,.one .d),(6,.one .f),(7,.one .d),(8,.one .d)]
def Qyf:TCode :=
 (zsq [(.reg [zmv 43 6,zmv 44 7,zmv 4 43,zmv 5 44]),.ret])
def QPF:TCode :=
 (zsq [(.reg [zmv 4 (.k (.n [TI])),zmv 5 (zkb false)]),(.reg [zop 11 (.bsl 3 [TI] []),zmv 6 11]),(.reg [zmv 7 (zkb false)]),(zsq [(.reg [zmv 8 (zki 0)]),(.block 0 (.loop QyN QyU))]),Qyf])
def Qtf:List (ARv × Md):=[(.t 4,.one .d),(.t 5,.one .d)]
def Qva:Qb:=TQ 0 0 Qtf K
def Q0d:Qb:=Qseq (tawp QpE 0 Qyf (Qva K)) (Qva K)
def QNH:Qb:=Qblk 0 (Q0d K)
def Qlx (a:List Int) (b:List Int) (sat:Bool) (i:Int) (out:List Int):Prop:=Loop QpE 0 QyN QyU (QNH K) ⟨[(0,(zcs [TI] a)),(1,(zcs [TI] b)),(6,(.r [TI] 0 0 out.length)),(7,(zcb sat)),(8,(zci i))],[(0,(.sl 3 [TI] true out))],1⟩
theorem QnA (a:List Int) (b:List Int) (sat:Bool) (i:Int) (out:List Int) (h :
 (zif ((decide (i<(a.length:Int)))&&(ZN a b)) ((((0:Int)≤i∧Int.toNat i<a.length)∧((0:Int)≤i∧Int.toNat i<b.length))∧(((out.length=out.length∨out.length+1≤out.length)∧out.length+1≤big)∧(Qlx K a b (sat||((JK (gtd (0:Int) a (Int.toNat i)) (gtd (0:Int) b (Int.toNat i))).2)) (w64 (i+(1:Int))) (List.take (out.length+1) ((List.take out.length out)++([(JK (gtd (0:Int) a (Int.toNat i)) (gtd (0:Int) b (Int.toNat i))).1])))))) (K (Qda ((List.take out.length (List.drop 0 out)),sat))))):Qlx K a b sat i out :=
 Loop.of (by kernel_rfl) h
theorem QNk (a:List Int) (b:List Int) (h :
 (Qlx K a b false 0 ([]:List Int))):Hold (tawp QpE (0+0) QPF (TQ 0 0 Qtf K) (Qf [(.c (.sl [TI]) a),(.c (.sl [TI]) b)])) :=
 Hold.of (by kernel_rfl) h
theorem QP7 (a:List Int) (b:List Int):TCon Tryz.prog 165 [(.c (.sl [TI]) a),(.c (.sl [TI]) b)] (Qda (Zi a b)):=by
 refine Qo rfl fun hb=>tcg (n:=45) (sg:=QjH.sg) Qj (TOk.cons Qit (TOk.cons QZq TOk.nil)) (by kernel_rfl) (by kernel_rfl) (QNk _ a b ?_)
 have hl_a:a.length≤9223372036854775807:=hb.1.1
 have hl_b:b.length≤9223372036854775807:=hb.2.1.1
 by_cases hp:ZN a b=true
 rotate_left
 ·refine QnA (fun r'=>r'=Qda (Zi a b)) a b _ _ _ ⟨fun h=>by simp [hp] at h,fun _=>R_eq (by unfold Zi;rw [if_neg hp];rfl)⟩
 have hl:=JZ.1 hp
 have h6:=(Z5.1 hl.1).1
 refine Zk a (fun r k=>∀ (v:List Int) (s:Bool),v.length=k→(v++(vz JK r (b.drop k)).1,s||(vz JK r (b.drop k)).2)=(Zi a b)→Qlx (fun r'=>r'=Qda (Zi a b)) a b s k v) ?_ ?_ [] false rfl (by unfold Zi;rw [if_pos hp];simp)
 ·intro v s hv he
  refine QnA (fun r'=>r'=Qda (Zi a b)) a b _ _ _ ⟨fun h=>by simp at h,fun _=>R_eq ?_⟩
  rw [← he];simp [vz]
 ·intro k x r hk hlt hg ih v s hv he
  obtain ⟨y,q,hq⟩:=Jt (l:=b) (k:=k) (by omega)
  refine QnA (fun r'=>r'=Qda (Zi a b)) a b _ _ _ ⟨fun _=>?_,fun h=>by simp [hp] at h;omega⟩
  rw [Int.toNat_natCast,hg,Yo hq,sc1 (by omega),Q7]
  refine ⟨⟨⟨by omega,hlt⟩,by omega,by omega⟩,room (by omega),ih _ _ (YQ hv) ?_⟩
  rw [← he,hq,vz,Z3 hq]
  simp [Bool.or_assoc]
theorem Qsl:Qg Tryz.prog QjH:=Qk fun x _=>QP7 x.1 x.2.1
def QcI (t:(List Int) × Bool):TRes:=zra (.tp [(zcs [TI] t.1),(zcb t.2)])
def QiS:TRow:=Qh 214 [(.c TI),(.c (.sl [TI]))] fun x=>(none,QcI (ZD x.1 x.2.1))
def QnI:List TRow:=[QgH,Qbi,QfK]
def Qub:TCode :=
 (zsq [(.reg [zbi 23 .lss 22 21]),(.cond 23 .skip (.exit 0)),(.block 1 (zsq [(.reg [zmv 24 22,zmv 8 24]),(.reg [zmv 26 0,zmv 27 1,zmv 28 8,zia 29 27 28 [TI],zld 30 29 1,zca 31 216 [26,30],zmv 25 31,zex 32 25 0,zex 33 25 1,zmv 9 32,zmv 10 33]),(.reg [zmv 34 6,zmv 35 9,zop 36 (.bsl 3 [TI] [35]),zop 37 (.app 34 36 3 [TI]),zmv 6 37]),(.reg [zmv 38 7,zmv 39 38,.grp 39 false [zmv 40 10] 41 40,zmv 7 41])])),(.reg [zbi 42 .add 22 (zki 1),zmv 22 42])])
def QDK:List (Nat × Md):=[(0,.one .d),(1,.one .d),(6,.one .f),(7,.one .d),(21,.one .d),(22,.one .d)]
def QxT:TCode :=
 (zsq [(.reg [zmv 43 6,zmv 44 7,zmv 4 43,zmv 5 44]),.ret])
def Q1a:TCode :=
 (zsq [(.reg [zmv 4 (.k (.n [TI])),zmv 5 (zkb false)]),(zsq [(.reg [zmv 11 0,zca 12 217 [11],zno 13 12,zmv 14 13,.grp 14 false [zmv 15 1,zca 16 134 [15],zno 17 16] 18 17]),(.cond 18 (zsq [(.reg [zmv 4 (.k (.n [TI])),zmv 5 (zkb false)]),.ret]) .skip)]),(.reg [zop 19 (.bsl 3 [TI] []),zmv 6 19]),(.reg [zmv 7 (zkb false)]),(zsq [(.reg [zmv 20 1,zle 21 20,zmv 22 (zki 0)]),(.block 0 (.loop QDK Qub))]),QxT])
def QBH:List (ARv × Md):=[(.t 4,.one .d),(.t 5,.one .d)]
def QDW:Qb:=TQ 0 0 QBH K
def QUk:Qb:=Qseq (tawp QnI 0 QxT (QDW K)) (QDW K)
def QWY:Qb:=Qblk 0 (QUk K)
def Qlr (c:Int) (a:List Int) (out:Bool) (x:Int) (v:List Int):Prop:=Loop QnI 0 QDK Qub (QWY K) ⟨[(0,(zci c)),(1,(zcs [TI] a)),(6,(.r [TI] 0 0 v.length)),(7,(zcb out)),(21,(zci (a.length:Int))),(22,(zci x))],[(0,(.sl 3 [TI] true v))],1⟩
theorem QA8 (c:Int) (a:List Int) (out:Bool) (x:Int) (v:List Int) (h :
 (zif (decide (x<(a.length:Int))) (((0:Int)≤x∧Int.toNat x<a.length)∧(((v.length=v.length∨v.length+1≤v.length)∧v.length+1≤big)∧(Qlr K c a (out||((Zq c (gtd (0:Int) a (Int.toNat x))).2)) (w64 (x+(1:Int))) (List.take (v.length+1) ((List.take v.length v)++([(Zq c (gtd (0:Int) a (Int.toNat x))).1])))))) (K (QcI ((List.take v.length (List.drop 0 v)),out))))):Qlr K c a out x v :=
 Loop.of (by kernel_rfl) h
theorem QUb (c:Int) (a:List Int) (h :
 (zif ((!(Zc c))||(!(QN a))) (K (QcI ([],false))) (Qlr K c a false 0 ([]:List Int)))):Hold (tawp QnI (0+0) Q1a (TQ 0 0 QBH K) (Qf [(.c TI c),(.c (.sl [TI]) a)])) :=
 Hold.of (by kernel_rfl) h
theorem QQ4 (c:Int) (a:List Int):TCon Tryz.prog 214 [(.c TI c),(.c (.sl [TI]) a)] (QcI (ZD c a)):=by
 refine Qo rfl fun hb=>tcg (n:=45) (sg:=QiS.sg) Qj (TOk.cons Qol (TOk.cons QdL (TOk.cons QmB TOk.nil))) (by kernel_rfl) (by kernel_rfl) (QUb _ c a ?_)
 have hl_a:a.length≤9223372036854775807:=hb.2.1.1
 refine ⟨fun h=>R_eq (by unfold ZD;rw [if_neg (by intro h2;simp at h2;simp [h2] at h)]),fun h=>?_⟩
 have hp:Zc c=true∧QN a=true:=by simpa using h
 have h6:=(Z5.1 hp.2).1
 refine Zk a (fun r k=>∀ (v:List Int) (s:Bool),v.length=k→(v++(v1 (Zq c) r).1,s||(v1 (Zq c) r).2)=(ZD c a)→Qlr (fun r'=>r'=QcI (ZD c a)) c a s k v) ?_ ?_ [] false rfl (by unfold ZD;rw [if_pos (by simp [hp])];simp)
 ·intro v s hv he
  refine QA8 (fun r'=>r'=QcI (ZD c a)) c a _ _ _ ⟨fun h=>by simp at h,fun _=>R_eq ?_⟩
  rw [← he];simp [v1]
 ·intro k x r hk hlt hg ih v s hv he
  refine QA8 (fun r'=>r'=QcI (ZD c a)) c a _ _ _ ⟨fun _=>?_,fun h=>by simp at h;omega⟩
  rw [Int.toNat_natCast,hg,sc1 (by omega),Q7]
  refine ⟨⟨by omega,hlt⟩,room (by omega),ih _ _ (YQ hv) ?_⟩
  rw [← he,v1]
  simp [Bool.or_assoc]
theorem QC8:Qg Tryz.prog QiS:=Qk fun x _=>QQ4 x.1 x.2.1
def QdU (t:(List Int) × Bool):TRes:=zra (.tp [(zcs [TI] t.1),(zcb t.2)])
def Qjc:TRow:=Qh 228 [(.c TI),(.c (.sl [TI]))] fun x=>(none,QdU (ZD x.1 x.2.1))
def Qmf:List TRow:=[Jd,QeJ,QfG]
def Qyz:TCode :=
 (zsq [(zsq [(.reg [zmv 12 8,zmv 13 1,zle 14 13,zbi 15 .lss 12 14,zmv 16 15,.grp 16 true [zmv 17 1,zca 18 42 [17]] 19 18,zmv 20 19,.grp 20 true [zmv 21 0,zca 22 110 [21]] 23 22]),(.cond 23 .skip (.exit 0))]),(.block 1 (zsq [(.reg [zmv 27 0,zmv 28 1,zmv 29 8,zia 30 28 29 [TI],zld 31 30 1,zca 32 229 [27,31],zmv 26 32,zex 33 26 0,zex 34 26 1,zmv 9 33,zmv 10 34]),(.reg [zmv 35 6,zmv 36 9,zop 37 (.bsl 3 [TI] [36]),zop 38 (.app 35 37 3 [TI]),zmv 6 38]),(.reg [zmv 39 7,zmv 40 39,.grp 40 false [zmv 41 10] 42 41,zmv 7 42])])),(.reg [zmv 24 8,zbi 25 .add 24 (zki 1),zmv 8 25])])
def QBy:List (Nat × Md):=[(0,.one .d),(1,.one .d),(6,.one .f),(7,.one .d),(8,.one .d)]
def QD2:TCode :=
 (zsq [(.reg [zmv 43 6,zmv 44 7,zmv 4 43,zmv 5 44]),.ret])
def QTA:TCode :=
 (zsq [(.reg [zmv 4 (.k (.n [TI])),zmv 5 (zkb false)]),(.reg [zop 11 (.bsl 3 [TI] []),zmv 6 11]),(.reg [zmv 7 (zkb false)]),(zsq [(.reg [zmv 8 (zki 0)]),(.block 0 (.loop QBy Qyz))]),QD2])
def Qz9:List (ARv × Md):=[(.t 4,.one .d),(.t 5,.one .d)]
def Qty:Qb:=TQ 0 0 Qz9 K
def QZL:Qb:=Qseq (tawp Qmf 0 QD2 (Qty K)) (Qty K)
def Q05:Qb:=Qblk 0 (QZL K)
def Qko (c:Int) (a:List Int) (sat:Bool) (i:Int) (out:List Int):Prop:=Loop Qmf 0 QBy Qyz (Q05 K) ⟨[(0,(zci c)),(1,(zcs [TI] a)),(6,(.r [TI] 0 0 out.length)),(7,(zcb sat)),(8,(zci i))],[(0,(.sl 3 [TI] true out))],1⟩
theorem QpD (c:Int) (a:List Int) (sat:Bool) (i:Int) (out:List Int) (h :
 (zif (((decide (i<(a.length:Int)))&&(QN a))&&(Zc c)) (((0:Int)≤i∧Int.toNat i<a.length)∧(((out.length=out.length∨out.length+1≤out.length)∧out.length+1≤big)∧(Qko K c a (sat||((Zq c (gtd (0:Int) a (Int.toNat i))).2)) (w64 (i+(1:Int))) (List.take (out.length+1) ((List.take out.length out)++([(Zq c (gtd (0:Int) a (Int.toNat i))).1])))))) (K (QdU ((List.take out.length (List.drop 0 out)),sat))))):Qko K c a sat i out :=
 Loop.of (by kernel_rfl) h
theorem QTW (c:Int) (a:List Int) (h :
 (Qko K c a false 0 ([]:List Int))):Hold (tawp Qmf (0+0) QTA (TQ 0 0 Qz9 K) (Qf [(.c TI c),(.c (.sl [TI]) a)])) :=
 Hold.of (by kernel_rfl) h
theorem QQQ (c:Int) (a:List Int):TCon Tryz.prog 228 [(.c TI c),(.c (.sl [TI]) a)] (QdU (ZD c a)):=by
 refine Qo rfl fun hb=>tcg (n:=45) (sg:=Qjc.sg) Qj (TOk.cons Jw (TOk.cons Qhd (TOk.cons Qqw TOk.nil))) (by kernel_rfl) (by kernel_rfl) (QTW _ c a ?_)
 have hl_a:a.length≤9223372036854775807:=hb.2.1.1
 by_cases hp:Zc c=true∧QN a=true
 rotate_left
 ·refine QpD (fun r'=>r'=QdU (ZD c a)) c a _ _ _ ⟨fun h=>absurd (by simp at h;exact ⟨h.2,h.1.2⟩) hp,fun _=>R_eq (by unfold ZD;rw [if_neg (by simpa using hp)];rfl)⟩
 have h6:=(Z5.1 hp.2).1
 refine Zk a (fun r k=>∀ (v:List Int) (s:Bool),v.length=k→(v++(v1 (Zq c) r).1,s||(v1 (Zq c) r).2)=(ZD c a)→Qko (fun r'=>r'=QdU (ZD c a)) c a s k v) ?_ ?_ [] false rfl (by unfold ZD;rw [if_pos (by simp [hp])];simp)
 ·intro v s hv he
  refine QpD (fun r'=>r'=QdU (ZD c a)) c a _ _ _ ⟨fun h=>by simp at h,fun _=>R_eq ?_⟩
  rw [← he];simp [v1]
 ·intro k x r hk hlt hg ih v s hv he
  refine QpD (fun r'=>r'=QdU (ZD c a)) c a _ _ _ ⟨fun _=>?_,fun h=>by simp [hp] at h;omega⟩
  rw [Int.toNat_natCast,hg,sc1 (by omega),Q7]
  refine ⟨⟨by omega,hlt⟩,room (by omega),ih _ _ (YQ hv) ?_⟩
  rw [← he,v1]
  simp [Bool.or_assoc]
theorem QB4:Qg Tryz.prog Qjc:=Qk fun x _=>QQQ x.1 x.2.1
def QdK (t:Int × Bool):TRes:=zre (.tp [(zci t.1),(zcb t.2)])
def QfX:TRow:=Qh 188 [(.c (.sl [TI])),(.c (.sl [TI]))] fun x=>(none,QdK (Q3 x.1 x.2.1))
def QrF:List TRow:=[QeW,QfK,Qes]
def QDF:TCode :=
 (zsq [(.reg [zbi 20 .lss 19 18]),(.cond 20 .skip (.exit 0)),(.block 1 (zsq [(.reg [zmv 21 19,zmv 8 21]),(.draw [zmv 23 0,zmv 24 8,zia 25 23 24 [TI],zld 26 25 1,zmv 27 1,zmv 28 8,zia 29 27 28 [TI],zld 30 29 1,zca 31 216 [26,30],zmv 22 31,zex 32 22 0,zex 33 22 1,zmv 9 32,zmv 10 33] []),(.reg [zmv 35 6,zmv 36 9,zca 37 121 [35,36],zmv 34 37,zex 38 34 0,zex 39 34 1,zmv 11 38,zmv 12 39]),(.reg [zmv 40 11,zmv 6 40]),(.reg [zmv 41 7,zmv 42 41,.grp 42 false [zmv 43 10] 44 43,zmv 45 44,.grp 45 false [zmv 46 12] 47 46,zmv 7 47])])),(.reg [zbi 48 .add 19 (zki 1),zmv 19 48])])
def Qs9:List (Nat × Md):=zdl [0,1,6,7,18,19]
def Qus:TCode :=
 (zsq [(.reg [zmv 49 6,zmv 50 7,zmv 4 49,zmv 5 50]),.ret])
def QOi:TCode :=
 (zsq [(.reg [zmv 4 (zki 0),zmv 5 (zkb false)]),(zsq [(.reg [zmv 13 0,zmv 14 1,zca 15 191 [13,14],zno 16 15]),(.cond 16 (zsq [(.reg [zmv 4 (zki 0),zmv 5 (zkb false)]),.ret]) .skip)]),(.reg [zmv 6 (zki 0)]),(.reg [zmv 7 (zkb false)]),(zsq [(.reg [zmv 17 0,zle 18 17,zmv 19 (zki 0)]),(.block 0 (.loop Qs9 QDF))]),Qus])
def QAC:List (ARv × Md):=[(.t 4,.one .d),(.t 5,.one .d)]
def QzT:Qb:=TQ 0 0 QAC K
def QNx:Qb:=Qseq (tawp QrF 0 Qus (QzT K)) (QzT K)
def QKi:Qb:=Qblk 0 (QNx K)
def QkH (a:List Int) (b:List Int) (sum:Int) (out:Bool) (x:Int):Prop:=Loop QrF 0 Qs9 QDF (QKi K) ⟨[(0,(zcs [TI] a)),(1,(zcs [TI] b)),(6,(zci sum)),(7,(zcb out)),(18,(zci (a.length:Int))),(19,(zci x))],[],0⟩
theorem Qsm (a:List Int) (b:List Int) (sum:Int) (out:Bool) (x:Int) (h :
 (zif (decide (x<(a.length:Int))) ((((0:Int)≤x∧Int.toNat x<a.length)∧((0:Int)≤x∧Int.toNat x<b.length))∧(QkH K a b ((Q9 sum ((Zq (gtd (0:Int) a (Int.toNat x)) (gtd (0:Int) b (Int.toNat x))).1)).1) ((out||((Zq (gtd (0:Int) a (Int.toNat x)) (gtd (0:Int) b (Int.toNat x))).2))||((Q9 sum ((Zq (gtd (0:Int) a (Int.toNat x)) (gtd (0:Int) b (Int.toNat x))).1)).2)) (w64 (x+(1:Int))))) (K (QdK (sum,out))))):QkH K a b sum out x :=
 Loop.of (by kernel_rfl) h
theorem QYs (a:List Int) (b:List Int) (h :
 (zif (!(ZN a b)) (K (QdK ((0:Int),false))) (QkH K a b 0 false 0))):Hold (tawp QrF (0+0) QOi (TQ 0 0 QAC K) (Qf [(.c (.sl [TI]) a),(.c (.sl [TI]) b)])) :=
 Hold.of (by kernel_rfl) h
theorem QQG (a:List Int) (b:List Int):TCon Tryz.prog 188 [(.c (.sl [TI]) a),(.c (.sl [TI]) b)] (QdK (Q3 a b)):=by
 refine Qo rfl fun hb=>tcg (n:=51) (sg:=QfX.sg) Qj (TOk.cons QjA (TOk.cons QmB (TOk.cons QkV TOk.nil))) (by kernel_rfl) (by kernel_rfl) (QYs _ a b ?_)
 have hl_a:a.length≤9223372036854775807:=hb.1.1
 have hl_b:b.length≤9223372036854775807:=hb.2.1.1
 refine ⟨fun h=>R_eq (by unfold Q3;rw [if_neg (by simpa using h)]),fun h=>?_⟩
 have hp:ZN a b=true:=by simpa using h
 have hl:=JZ.1 hp
 have h6:=(Z5.1 hl.1).1
 refine Zk a (fun r k=>∀ (z:Int) (s:Bool),((Jf r (b.drop k) z).1,s||(Jf r (b.drop k) z).2)=(Q3 a b)→QkH (fun r'=>r'=QdK (Q3 a b)) a b z s k) ?_ ?_ 0 false (by unfold Q3;rw [if_pos hp];simp)
 ·intro z s he
  refine Qsm (fun r'=>r'=QdK (Q3 a b)) a b _ _ _ ⟨fun h=>by simp at h,fun _=>R_eq ?_⟩
  rw [← he];simp [Jf]
 ·intro k x r hk hlt hg ih z s he
  obtain ⟨y,q,hq⟩:=Jt (l:=b) (k:=k) (by omega)
  refine Qsm (fun r'=>r'=QdK (Q3 a b)) a b _ _ _ ⟨fun _=>?_,fun h=>by simp at h;omega⟩
  rw [Int.toNat_natCast,hg,Yo hq,sc1 (by omega)]
  refine ⟨⟨⟨by omega,hlt⟩,by omega,by omega⟩,ih _ _ ?_⟩
  rw [← he,hq,Jf,Z3 hq]
  simp [Bool.or_assoc]
theorem QpW:Qg Tryz.prog QfX:=Qk fun x _=>QQG x.1 x.2.1
def QcD (t:Int × Bool):TRes:=zre (.tp [(zci t.1),(zcb t.2)])
def Qe6:TRow:=Qh 206 [(.c (.sl [TI])),(.c (.sl [TI]))] fun x=>(none,QcD (Q3 x.1 x.2.1))
def Qmb:List TRow:=[Qe4,QfG,Qc1]
def QFq:TCode :=
 (zsq [(zsq [(.reg [zmv 13 8,zmv 14 0,zle 15 14,zbi 16 .lss 13 15,zmv 17 16,.grp 17 true [zmv 18 0,zmv 19 1,zca 20 207 [18,19]] 21 20]),(.cond 21 .skip (.exit 0))]),(.block 1 (zsq [(.draw [zmv 25 0,zmv 26 8,zia 27 25 26 [TI],zld 28 27 1,zmv 29 1,zmv 30 8,zia 31 29 30 [TI],zld 32 31 1,zca 33 229 [28,32],zmv 24 33,zex 34 24 0,zex 35 24 1,zmv 9 34,zmv 10 35] []),(.reg [zmv 37 6,zmv 38 9,zca 39 162 [37,38],zmv 36 39,zex 40 36 0,zex 41 36 1,zmv 11 40,zmv 12 41]),(.reg [zmv 42 11,zmv 6 42]),(.reg [zmv 43 7,zmv 44 43,.grp 44 false [zmv 45 10] 46 45,zmv 47 46,.grp 47 false [zmv 48 12] 49 48,zmv 7 49])])),(.reg [zmv 22 8,zbi 23 .add 22 (zki 1),zmv 8 23])])
def Quw:List (Nat × Md):=zdl [0,1,6,7,8]
def QvQ:TCode :=
 (zsq [(.reg [zmv 50 6,zmv 51 7,zmv 4 50,zmv 5 51]),.ret])
def QJ7:TCode :=
 (zsq [(.reg [zmv 4 (zki 0),zmv 5 (zkb false)]),(.reg [zmv 6 (zki 0)]),(.reg [zmv 7 (zkb false)]),(zsq [(.reg [zmv 8 (zki 0)]),(.block 0 (.loop Quw QFq))]),QvQ])
def QDc:List (ARv × Md):=[(.t 4,.one .d),(.t 5,.one .d)]
def QGe:Qb:=TQ 0 0 QDc K
def QJu:Qb:=Qseq (tawp Qmb 0 QvQ (QGe K)) (QGe K)
def QHD:Qb:=Qblk 0 (QJu K)
def Qk0 (a:List Int) (b:List Int) (sum:Int) (sat:Bool) (i:Int):Prop:=Loop Qmb 0 Quw QFq (QHD K) ⟨[(0,(zcs [TI] a)),(1,(zcs [TI] b)),(6,(zci sum)),(7,(zcb sat)),(8,(zci i))],[],0⟩
theorem Qp6 (a:List Int) (b:List Int) (sum:Int) (sat:Bool) (i:Int) (h :
 (zif ((decide (i<(a.length:Int)))&&(ZN a b)) ((((0:Int)≤i∧Int.toNat i<a.length)∧((0:Int)≤i∧Int.toNat i<b.length))∧(Qk0 K a b ((Q9 sum ((Zq (gtd (0:Int) a (Int.toNat i)) (gtd (0:Int) b (Int.toNat i))).1)).1) ((sat||((Zq (gtd (0:Int) a (Int.toNat i)) (gtd (0:Int) b (Int.toNat i))).2))||((Q9 sum ((Zq (gtd (0:Int) a (Int.toNat i)) (gtd (0:Int) b (Int.toNat i))).1)).2)) (w64 (i+(1:Int))))) (K (QcD (sum,sat))))):Qk0 K a b sum sat i :=
 Loop.of (by kernel_rfl) h
theorem QM3 (a:List Int) (b:List Int) (h :
 (Qk0 K a b 0 false 0)):Hold (tawp Qmb (0+0) QJ7 (TQ 0 0 QDc K) (Qf [(.c (.sl [TI]) a),(.c (.sl [TI]) b)])) :=
 Hold.of (by kernel_rfl) h
theorem QRe (a:List Int) (b:List Int):TCon Tryz.prog 206 [(.c (.sl [TI]) a),(.c (.sl [TI]) b)] (QcD (Q3 a b)):=by
 refine Qo rfl fun hb=>tcg (n:=52) (sg:=Qe6.sg) Qj (TOk.cons Qit (TOk.cons Qqw (TOk.cons Qge TOk.nil))) (by kernel_rfl) (by kernel_rfl) (QM3 _ a b ?_)
 have hl_a:a.length≤9223372036854775807:=hb.1.1
 have hl_b:b.length≤9223372036854775807:=hb.2.1.1
 by_cases hp:ZN a b=true
 rotate_left
 ·refine Qp6 (fun r'=>r'=QcD (Q3 a b)) a b _ _ _ ⟨fun h=>by simp [hp] at h,fun _=>R_eq (by unfold Q3;rw [if_neg hp])⟩
 have hl:=JZ.1 hp
 have h6:=(Z5.1 hl.1).1
 refine Zk a (fun r k=>∀ (z:Int) (s:Bool),((Jf r (b.drop k) z).1,s||(Jf r (b.drop k) z).2)=(Q3 a b)→Qk0 (fun r'=>r'=QcD (Q3 a b)) a b z s k) ?_ ?_ 0 false (by unfold Q3;rw [if_pos hp];simp)
 ·intro z s he
  refine Qp6 (fun r'=>r'=QcD (Q3 a b)) a b _ _ _ ⟨fun h=>by simp at h,fun _=>R_eq ?_⟩
  rw [← he];simp [Jf]
 ·intro k x r hk hlt hg ih z s he
  obtain ⟨y,q,hq⟩:=Jt (l:=b) (k:=k) (by omega)
  refine Qp6 (fun r'=>r'=QcD (Q3 a b)) a b _ _ _ ⟨fun _=>?_,fun h=>by simp [hp] at h;omega⟩
  rw [Int.toNat_natCast,hg,Yo hq,sc1 (by omega)]
  refine ⟨⟨⟨by omega,hlt⟩,by omega,by omega⟩,ih _ _ ?_⟩
  rw [← he,hq,Jf,Z3 hq]
  simp [Bool.or_assoc]
theorem QhI:Qg Tryz.prog Qe6:=Qk fun x _=>QRe x.1 x.2.1
def Qdf (t:(List Int)):TRes:=zra (zcs [TI] t)
def Qmw:TRow:=Qh 215 [(.c (.sl [TI]))] fun x=>(none,Qdf (Yr x.1))
def QrN:List TRow:=[Qbi,Qnr]
def Qxn:TCode :=
 (zsq [(.reg [zbi 13 .lss 12 11]),(.cond 13 .skip (.exit 0)),(.block 1 (zsq [(.reg [zia 14 10 12 [TI],zld 15 14 1,zmv 5 15]),(.reg [zmv 16 3,zmv 17 5,zca 18 234 [17],zop 19 (.bsl 3 [TI] [18]),zop 20 (.app 16 19 3 [TI]),zmv 3 20])])),(.reg [zbi 21 .add 12 (zki 1),zmv 12 21])])
def Qwb:List (Nat × Md):=[(3,.one .f),(10,.one .d),(11,.one .d),(12,.one .d)]
def QGB:TCode :=
 (zsq [(.reg [zmv 22 3,zmv 2 22]),.ret])
def QNo:TCode :=
 (zsq [(.reg [zmv 2 (.k (.n [TI]))]),(zsq [(.reg [zmv 6 0,zca 7 134 [6],zno 8 7]),(.cond 8 (zsq [(.reg [zmv 2 (.k (.n [TI]))]),.ret]) .skip)]),(.reg [zop 9 (.bsl 3 [TI] []),zmv 3 9]),(zsq [(.reg [zmv 10 0,zle 11 10,zmv 12 (zki 0)]),(.block 0 (.loop Qwb Qxn))]),QGB])
def QCy:List (ARv × Md):=[(.t 2,.one .d)]
def QAi:Qb:=TQ 0 0 QCy K
def QN2:Qb:=Qseq (tawp QrN 0 QGB (QAi K)) (QAi K)
def QNC:Qb:=Qblk 0 (QN2 K)
def Qlj (a:List Int) (x:Int) (v:List Int):Prop:=Loop QrN 0 Qwb Qxn (QNC K) ⟨[(3,(.r [TI] 0 0 v.length)),(10,(zcs [TI] a)),(11,(zci (a.length:Int))),(12,(zci x))],[(0,(.sl 3 [TI] true v))],1⟩
theorem QBj (a:List Int) (x:Int) (v:List Int) (h :
 (zif (decide (x<(a.length:Int))) (((0:Int)≤x∧Int.toNat x<a.length)∧(((v.length=v.length∨v.length+1≤v.length)∧v.length+1≤big)∧(Qlj K a (w64 (x+(1:Int))) (List.take (v.length+1) ((List.take v.length v)++([(QaH (gtd (0:Int) a (Int.toNat x)))])))))) (K (Qdf (List.take v.length (List.drop 0 v)))))):Qlj K a x v :=
 Loop.of (by kernel_rfl) h
theorem Q0f (a:List Int) (h :
 (zif (!(QN a)) (K (Qdf ([]))) (Qlj K a 0 ([]:List Int)))):Hold (tawp QrN (0+0) QNo (TQ 0 0 QCy K) (Qf [(.c (.sl [TI]) a)])) :=
 Hold.of (by kernel_rfl) h
theorem QKy (a:List Int):TCon Tryz.prog 215 [(.c (.sl [TI]) a)] (Qdf (Yr a)):=by
 refine Qo rfl fun hb=>tcg (n:=23) (sg:=Qmw.sg) Qj (TOk.cons QdL (TOk.cons QXn TOk.nil)) (by kernel_rfl) (by kernel_rfl) (Q0f _ a ?_)
 have hl_a:a.length≤9223372036854775807:=hb.1.1
 refine ⟨fun h=>R_eq (by unfold Yr;rw [if_neg (by simpa using h)]),fun h=>?_⟩
 have hp:QN a=true:=by simpa using h
 have h6:=(Z5.1 hp).1
 refine Zk a (fun r k=>∀ (v:List Int),v.length=k→v++r.map QaH=(Yr a)→Qlj (fun r'=>r'=Qdf (Yr a)) a k v) ?_ ?_ [] rfl (by unfold Yr;rw [if_pos hp];simp)
 ·intro v hv he
  refine QBj (fun r'=>r'=Qdf (Yr a)) a _ _ ⟨fun h=>by simp at h,fun _=>R_eq ?_⟩
  rw [← he];simp
 ·intro k x r hk hlt hg ih v hv he
  refine QBj (fun r'=>r'=Qdf (Yr a)) a _ _ ⟨fun _=>?_,fun h=>by simp at h;omega⟩
  rw [Int.toNat_natCast,hg,sc1 (by omega),Q7]
  refine ⟨⟨by omega,hlt⟩,room (by omega),ih _ (YQ hv) ?_⟩
  rw [← he];simp
theorem QZp:Qg Tryz.prog Qmw:=Qk fun x _=>QKy x.1
def QdH (t:(List Int)):TRes:=zra (zcs [TI] t)
def Qo6:TRow:=Qh 227 [(.c (.sl [TI]))] fun x=>(none,QdH (Yr x.1))
def QnQ:List TRow:=[Jd,QnO]
def QFP:TCode :=
 (zsq [(zsq [(.reg [zmv 6 4,zmv 7 0,zle 8 7,zbi 9 .lss 6 8,zmv 10 9,.grp 10 true [zmv 11 0,zca 12 42 [11]] 13 12]),(.cond 13 .skip (.exit 0))]),(.block 1 (.reg [zmv 16 3,zmv 17 0,zmv 18 4,zia 19 17 18 [TI],zld 20 19 1,zca 21 238 [20],zop 22 (.bsl 3 [TI] [21]),zop 23 (.app 16 22 3 [TI]),zmv 3 23])),(.reg [zmv 14 4,zbi 15 .add 14 (zki 1),zmv 4 15])])
def Qxo:List (Nat × Md):=[(0,.one .d),(3,.one .f),(4,.one .d)]
def Qyr:TCode :=
 (zsq [(.reg [zmv 24 3,zmv 2 24]),.ret])
def QHm:TCode :=
 (zsq [(.reg [zmv 2 (.k (.n [TI]))]),(.reg [zop 5 (.bsl 3 [TI] []),zmv 3 5]),(zsq [(.reg [zmv 4 (zki 0)]),(.block 0 (.loop Qxo QFP))]),Qyr])
def QAf:List (ARv × Md):=[(.t 2,.one .d)]
def Qwl:Qb:=TQ 0 0 QAf K
def QLx:Qb:=Qseq (tawp QnQ 0 Qyr (Qwl K)) (Qwl K)
def QNn:Qb:=Qblk 0 (QLx K)
def Qku (a:List Int) (i:Int) (out:List Int):Prop:=Loop QnQ 0 Qxo QFP (QNn K) ⟨[(0,(zcs [TI] a)),(3,(.r [TI] 0 0 out.length)),(4,(zci i))],[(0,(.sl 3 [TI] true out))],1⟩
theorem QqI (a:List Int) (i:Int) (out:List Int) (h :
 (zif ((decide (i<(a.length:Int)))&&(QN a)) ((((0:Int)≤i∧Int.toNat i<a.length)∧((out.length=out.length∨out.length+1≤out.length)∧out.length+1≤big))∧(Qku K a (w64 (i+(1:Int))) (List.take (out.length+1) ((List.take out.length out)++([(QaH (gtd (0:Int) a (Int.toNat i)))]))))) (K (QdH (List.take out.length (List.drop 0 out)))))):Qku K a i out :=
 Loop.of (by kernel_rfl) h
theorem QIt (a:List Int) (h :
 (Qku K a 0 ([]:List Int))):Hold (tawp QnQ (0+0) QHm (TQ 0 0 QAf K) (Qf [(.c (.sl [TI]) a)])) :=
 Hold.of (by kernel_rfl) h
theorem QJa (a:List Int):TCon Tryz.prog 227 [(.c (.sl [TI]) a)] (QdH (Yr a)):=by
 refine Qo rfl fun hb=>tcg (n:=25) (sg:=Qo6.sg) Qj (TOk.cons Jw (TOk.cons QPE TOk.nil)) (by kernel_rfl) (by kernel_rfl) (QIt _ a ?_)
 have hl_a:a.length≤9223372036854775807:=hb.1.1
 by_cases hp:QN a=true
 rotate_left
 ·refine QqI (fun r'=>r'=QdH (Yr a)) a _ _ ⟨fun h=>by simp [hp] at h,fun _=>R_eq (by unfold Yr;rw [if_neg hp];rfl)⟩
 have h6:=(Z5.1 hp).1
 refine Zk a (fun r k=>∀ (v:List Int),v.length=k→v++r.map QaH=(Yr a)→Qku (fun r'=>r'=QdH (Yr a)) a k v) ?_ ?_ [] rfl (by unfold Yr;rw [if_pos hp];simp)
 ·intro v hv he
  refine QqI (fun r'=>r'=QdH (Yr a)) a _ _ ⟨fun h=>by simp at h,fun _=>R_eq ?_⟩
  rw [← he];simp
 ·intro k x r hk hlt hg ih v hv he
  refine QqI (fun r'=>r'=QdH (Yr a)) a _ _ ⟨fun _=>?_,fun h=>by simp [hp] at h;omega⟩
  rw [Int.toNat_natCast,hg,sc1 (by omega),Q7]
  refine ⟨⟨⟨by omega,hlt⟩,room (by omega)⟩,ih _ (YQ hv) ?_⟩
  rw [← he];simp
theorem QH8:Qg Tryz.prog Qo6:=Qk fun x _=>QJa x.1
def QcT (t:(List Int)):TRes:=zra (zcs [TI] t)
def Qml:TRow:=Qh 220 [(.c (.sl [TI])),(.c (.sl [TI]))] fun x=>(none,QcT (Yv x.1 x.2.1))
def Qnm:List TRow:=[QeW]
def QsA:TCode :=
 (zsq [(.reg [zbi 15 .lss 14 13]),(.cond 15 .skip (.exit 0)),(.block 1 (zsq [(.reg [zmv 16 14,zmv 6 16]),(.reg [zmv 17 0,zmv 18 6,zia 19 17 18 [TI],zld 20 19 1,zbi 21 .gtr 20 (zki 0)]),(.cond 21 (.reg [zmv 22 5,zmv 23 1,zmv 24 6,zia 25 23 24 [TI],zld 26 25 1,zop 27 (.bsl 3 [TI] [26]),zop 28 (.app 22 27 3 [TI]),zmv 5 28]) (.reg [zmv 29 5,zop 30 (.bsl 3 [TI] [(zki 0)]),zop 31 (.app 29 30 3 [TI]),zmv 5 31]))])),(.reg [zbi 32 .add 14 (zki 1),zmv 14 32])])
def QCK:List (Nat × Md):=[(0,.one .d),(1,.one .d),(5,.one .f),(13,.one .d),(14,.one .d)]
def Qyg:TCode :=
 (zsq [(.reg [zmv 33 5,zmv 4 33]),.ret])
def QZi:TCode :=
 (zsq [(.reg [zmv 4 (.k (.n [TI]))]),(zsq [(.reg [zmv 7 0,zmv 8 1,zca 9 191 [7,8],zno 10 9]),(.cond 10 (zsq [(.reg [zmv 4 (.k (.n [TI]))]),.ret]) .skip)]),(.reg [zop 11 (.bsl 3 [TI] []),zmv 5 11]),(zsq [(.reg [zmv 12 0,zle 13 12,zmv 14 (zki 0)]),(.block 0 (.loop QCK QsA))]),Qyg])
def QF1:List (ARv × Md):=[(.t 4,.one .d)]
def QEK:Qb:=TQ 0 0 QF1 K
def QW7:Qb:=Qseq (tawp Qnm 0 Qyg (QEK K)) (QEK K)
def QIZ:Qb:=Qblk 0 (QW7 K)
def Qfm (x:List Int) (d:List Int) (x1:Int) (v:List Int):Prop:=Loop Qnm 0 QCK QsA (QIZ K) ⟨[(0,(zcs [TI] x)),(1,(zcs [TI] d)),(5,(.r [TI] 0 0 v.length)),(13,(zci (x.length:Int))),(14,(zci x1))],[(0,(.sl 3 [TI] true v))],1⟩
theorem QC2 (x:List Int) (d:List Int) (x1:Int) (v:List Int) (h :
 (zif (decide (x1<(x.length:Int))) (((0:Int)≤x1∧Int.toNat x1<x.length)∧(zif (decide ((gtd (0:Int) x (Int.toNat x1))>(0:Int))) ((((0:Int)≤x1∧Int.toNat x1<d.length)∧((v.length=v.length∨v.length+1≤v.length)∧v.length+1≤big))∧(Qfm K x d (w64 (x1+(1:Int))) (List.take (v.length+1) ((List.take v.length v)++([(gtd (0:Int) d (Int.toNat x1))]))))) (((v.length=v.length∨v.length+1≤v.length)∧v.length+1≤big)∧(Qfm K x d (w64 (x1+(1:Int))) (List.take (v.length+1) ((List.take v.length v)++([(0:Int)]))))))) (K (QcT (List.take v.length (List.drop 0 v)))))):Qfm K x d x1 v :=
 Loop.of (by kernel_rfl) h
theorem QZe (x:List Int) (d:List Int) (h :
 (zif (!(ZN x d)) (K (QcT ([]))) (Qfm K x d 0 ([]:List Int)))):Hold (tawp Qnm (0+0) QZi (TQ 0 0 QF1 K) (Qf [(.c (.sl [TI]) x),(.c (.sl [TI]) d)])) :=
 Hold.of (by kernel_rfl) h
theorem QHY (x:List Int) (d:List Int):TCon Tryz.prog 220 [(.c (.sl [TI]) x),(.c (.sl [TI]) d)] (QcT (Yv x d)):=by
 refine Qo rfl fun hb=>tcg (n:=34) (sg:=Qml.sg) Qj (TOk.cons QjA TOk.nil) (by kernel_rfl) (by kernel_rfl) (QZe _ x d ?_)
 have hl_x:x.length≤9223372036854775807:=hb.1.1
 have hl_d:d.length≤9223372036854775807:=hb.2.1.1
 refine ⟨fun h=>R_eq (by unfold Yv;rw [if_neg (by simpa using h)]),fun h=>?_⟩
 have hp:ZN x d=true:=by simpa using h
 have hl:=JZ.1 hp
 have h6:=(Z5.1 hl.1).1
 refine Zk x (fun r k=>∀ (v:List Int),v.length=k→v++List.zipWith (fun a b=>if 0<a then b else 0) r (d.drop k)=(Yv x d)→Qfm (fun r'=>r'=QcT (Yv x d)) x d k v) ?_ ?_ [] rfl (by unfold Yv;rw [if_pos hp];simp)
 ·intro v hv he
  refine QC2 (fun r'=>r'=QcT (Yv x d)) x d _ _ ⟨fun h=>by simp at h,fun _=>R_eq ?_⟩
  rw [← he];simp
 ·intro k y r hk hlt hg ih v hv he
  obtain ⟨z,q,hq⟩:=Jt (l:=d) (k:=k) (by omega)
  refine QC2 (fun r'=>r'=QcT (Yv x d)) x d _ _ ⟨fun _=>?_,fun h=>by simp at h;omega⟩
  rw [Int.toNat_natCast,hg,Yo hq,sc1 (by omega),Q7,Q7]
  rw [hq,List.zipWith_cons_cons,← Z3 hq] at he
  refine ⟨⟨by omega,hlt⟩,fun h=>⟨⟨⟨by omega,by omega⟩,room (by omega)⟩,ih _ (YQ hv) ?_⟩,fun h=>⟨room (by omega),ih _ (YQ hv) ?_⟩⟩
  ·rw [← he,if_pos (by simpa using h)];simp
  ·rw [← he,if_neg (by simpa using h)];simp
theorem QUe:Qg Tryz.prog Qml:=Qk fun x _=>QHY x.1 x.2.1
def QcY (t:(List Int)):TRes:=zra (zcs [TI] t)
def QpP:TRow:=Qh 230 [(.c (.sl [TI])),(.c (.sl [TI]))] fun x=>(none,QcY (Yv x.1 x.2.1))
def QnE:List TRow:=[Qe4]
def Qyh:TCode :=
 (zsq [(zsq [(.reg [zmv 8 6,zmv 9 0,zle 10 9,zbi 11 .lss 8 10,zmv 12 11,.grp 12 true [zmv 13 0,zmv 14 1,zca 15 207 [13,14]] 16 15]),(.cond 16 .skip (.exit 0))]),(.block 1 (zsq [(.reg [zmv 19 0,zmv 20 6,zia 21 19 20 [TI],zld 22 21 1,zbi 23 .gtr 22 (zki 0)]),(.cond 23 (.reg [zmv 24 5,zmv 25 1,zmv 26 6,zia 27 25 26 [TI],zld 28 27 1,zop 29 (.bsl 3 [TI] [28]),zop 30 (.app 24 29 3 [TI]),zmv 5 30]) (.reg [zmv 31 5,zop 32 (.bsl 3 [TI] [(zki 0)]),zop 33 (.app 31 32 3 [TI]),zmv 5 33]))])),(.reg [zmv 17 6,zbi 18 .add 17 (zki 1),zmv 6 18])])
def QBx:List (Nat × Md):=[(0,.one .d),(1,.one .d),(5,.one .f),(6,.one .d)]
def QES:TCode :=
 (zsq [(.reg [zmv 34 5,zmv 4 34]),.ret])
def Q0r:TCode :=
 (zsq [(.reg [zmv 4 (.k (.n [TI]))]),(.reg [zop 7 (.bsl 3 [TI] []),zmv 5 7]),(zsq [(.reg [zmv 6 (zki 0)]),(.block 0 (.loop QBx Qyh))]),QES])
def QDd:List (ARv × Md):=[(.t 4,.one .d)]
def Qv0:Qb:=TQ 0 0 QDd K
def QKH:Qb:=Qseq (tawp QnE 0 QES (Qv0 K)) (Qv0 K)
def QRO:Qb:=Qblk 0 (QKH K)
def QgF (x:List Int) (d:List Int) (i:Int) (out:List Int):Prop:=Loop QnE 0 QBx Qyh (QRO K) ⟨[(0,(zcs [TI] x)),(1,(zcs [TI] d)),(5,(.r [TI] 0 0 out.length)),(6,(zci i))],[(0,(.sl 3 [TI] true out))],1⟩
theorem Qrz (x:List Int) (d:List Int) (i:Int) (out:List Int) (h :
 (zif ((decide (i<(x.length:Int)))&&(ZN x d)) (((0:Int)≤i∧Int.toNat i<x.length)∧(zif (decide ((gtd (0:Int) x (Int.toNat i))>(0:Int))) ((((0:Int)≤i∧Int.toNat i<d.length)∧((out.length=out.length∨out.length+1≤out.length)∧out.length+1≤big))∧(QgF K x d (w64 (i+(1:Int))) (List.take (out.length+1) ((List.take out.length out)++([(gtd (0:Int) d (Int.toNat i))]))))) (((out.length=out.length∨out.length+1≤out.length)∧out.length+1≤big)∧(QgF K x d (w64 (i+(1:Int))) (List.take (out.length+1) ((List.take out.length out)++([(0:Int)]))))))) (K (QcY (List.take out.length (List.drop 0 out)))))):QgF K x d i out :=
 Loop.of (by kernel_rfl) h
theorem QSG (x:List Int) (d:List Int) (h :
 (QgF K x d 0 ([]:List Int))):Hold (tawp QnE (0+0) Q0r (TQ 0 0 QDd K) (Qf [(.c (.sl [TI]) x),(.c (.sl [TI]) d)])) :=
 Hold.of (by kernel_rfl) h
theorem QZn (x:List Int) (d:List Int):TCon Tryz.prog 230 [(.c (.sl [TI]) x),(.c (.sl [TI]) d)] (QcY (Yv x d)):=by
 refine Qo rfl fun hb=>tcg (n:=35) (sg:=QpP.sg) Qj (TOk.cons Qit TOk.nil) (by kernel_rfl) (by kernel_rfl) (QSG _ x d ?_)
 have hl_x:x.length≤9223372036854775807:=hb.1.1
 have hl_d:d.length≤9223372036854775807:=hb.2.1.1
 by_cases hp:ZN x d=true
 rotate_left
 ·refine Qrz (fun r'=>r'=QcY (Yv x d)) x d _ _ ⟨fun h=>by simp [hp] at h,fun _=>R_eq (by unfold Yv;rw [if_neg hp];rfl)⟩
 have hl:=JZ.1 hp
 have h6:=(Z5.1 hl.1).1
 refine Zk x (fun r k=>∀ (v:List Int),v.length=k→v++List.zipWith (fun a b=>if 0<a then b else 0) r (d.drop k)=(Yv x d)→QgF (fun r'=>r'=QcY (Yv x d)) x d k v) ?_ ?_ [] rfl (by unfold Yv;rw [if_pos hp];simp)
 ·intro v hv he
  refine Qrz (fun r'=>r'=QcY (Yv x d)) x d _ _ ⟨fun h=>by simp at h,fun _=>R_eq ?_⟩
  rw [← he];simp
 ·intro k y r hk hlt hg ih v hv he
  obtain ⟨z,q,hq⟩:=Jt (l:=d) (k:=k) (by omega)
  refine Qrz (fun r'=>r'=QcY (Yv x d)) x d _ _ ⟨fun _=>?_,fun h=>by simp [hp] at h;omega⟩
  rw [Int.toNat_natCast,hg,Yo hq,sc1 (by omega),Q7,Q7]
  rw [hq,List.zipWith_cons_cons,← Z3 hq] at he
  refine ⟨⟨by omega,hlt⟩,fun h=>⟨⟨⟨by omega,by omega⟩,room (by omega)⟩,ih _ (YQ hv) ?_⟩,fun h=>⟨room (by omega),ih _ (YQ hv) ?_⟩⟩
  ·rw [← he,if_pos (by simpa using h)];simp
  ·rw [← he,if_neg (by simpa using h)];simp
theorem Q0z:Qg Tryz.prog QpP:=Qk fun x _=>QZn x.1 x.2.1
end
end Go.Proofs.YtjbdljkhbglnhaaGreat.Am

