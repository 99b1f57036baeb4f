/- -/
import Derived.Test.YtjbdljkhbglnhaaGreatZIP1
import Derived.Test.YtjbdljkhbglnhaaGreatZIPF
namespace Go.Proofs.YtjbdljkhbglnhaaGreat.Am
open Go Go.RowKit Go.Proofs.YtjbdljkhbglnhaaGreat
set_option linter.all false
noncomputable section
variable (K:TRes→Prop)
def Qo0 (t:Bool):TRes:=zre (zcb t)
def Qen:TRow:=Qk 191 [(.c (.sl [TI])),(.c (.sl [TI]))] fun x=>(none,Qo0 (ZG x.1 x.2.1))
def QQx:List TRow:=[Qbh,Qac]
def QSo:TCode :=
 (zsq [(.reg [zmv 4 (zkb false)]),(.reg [zmv 5 0,zca 6 134 [5],zmv 7 6,.grp 7 true [zmv 8 1,zmv 9 0,zle 10 9,zca 11 114 [8,10]] 12 11,zmv 4 12]),.ret])
def QKw:List (ARv × Md):=[(.t 4,.one .d)]
theorem QMh (a:List Int) (b:List Int) (h :
 K (Qo0 ((QJ a)&&(Qr b (a.length:Int))))):Hold (tawp QQx (0+0) QSo (TQ 0 0 QKw K) (Qi [(.c (.sl [TI]) a),(.c (.sl [TI]) b)])) :=
 Hold.of (by kernel_rfl) h
theorem QLH (a:List Int) (b:List Int):TCon Tryz.prog 191 [(.c (.sl [TI]) a),(.c (.sl [TI]) b)] (Qo0 (ZG a b)):=by
 refine Qo rfl fun hb=>tcg (n:=13) (sg:=Qen.sg) Qm (TOk.cons Qds (TOk.cons QaH TOk.nil)) (by kernel_rfl) (by kernel_rfl) (QMh _ a b ?_)
 have hl_a:a.length≤9223372036854775807:=hb.1.1
 have hl_b:b.length≤9223372036854775807:=hb.2.1.1
 exact R_eq rfl
theorem QiB:Ql Tryz.prog Qen:=Qn fun x _=>QLH x.1 x.2.1
def Qkt (t:Bool):TRes:=zre (zcb t)
def QdG:TRow:=Qk 207 [(.c (.sl [TI])),(.c (.sl [TI]))] fun x=>(none,Qkt (ZG x.1 x.2.1))
def QK6:List TRow:=[Jc]
def QMg:TCode :=
 (zsq [(.reg [zmv 4 (zkb false)]),(.reg [zmv 5 0,zca 6 42 [5],zmv 7 6,.grp 7 true [zmv 8 1,zca 9 42 [8]] 10 9,zmv 11 10,.grp 11 true [zmv 12 0,zle 13 12,zmv 14 1,zle 15 14,zbi 16 .eql 13 15] 17 16,zmv 4 17]),.ret])
def QUe:List (ARv × Md):=[(.t 4,.one .d)]
theorem QMt (a:List Int) (b:List Int) (h :
 K (Qkt (((QJ a)&&(QJ b))&&((a.length:Int)==(b.length:Int))))):Hold (tawp QK6 (0+0) QMg (TQ 0 0 QUe K) (Qi [(.c (.sl [TI]) a),(.c (.sl [TI]) b)])) :=
 Hold.of (by kernel_rfl) h
theorem QOf (a:List Int) (b:List Int):TCon Tryz.prog 207 [(.c (.sl [TI]) a),(.c (.sl [TI]) b)] (Qkt (ZG a b)):=by
 refine Qo rfl fun hb=>tcg (n:=18) (sg:=QdG.sg) Qm (TOk.cons Jr TOk.nil) (by kernel_rfl) (by kernel_rfl) (QMt _ a b ?_)
 have hl_a:a.length≤9223372036854775807:=hb.1.1
 have hl_b:b.length≤9223372036854775807:=hb.2.1.1
 refine R_eq ?_
 rw [Bool.eq_iff_iff]
 unfold ZG Qr
 simp only [Bool.and_eq_true,beq_iff_eq]
 constructor
 ·rintro ⟨⟨h1,h2⟩,h3⟩;exact ⟨h1,h2,by omega⟩
 ·rintro ⟨h1,h2,h3⟩;exact ⟨⟨h1,h2⟩,by omega⟩
theorem QhE:Ql Tryz.prog QdG:=Qn fun x _=>QOf x.1 x.2.1
def Qda (t:(List Int) × Bool):TRes:=zra (.tp [(zcs [TI] t.1),(zcb t.2)])
def Qin:TRow:=Qk 213 [(.c (.sl [TI])),(.c (.sl [TI]))] fun x=>(none,Qda (Zi x.1 x.2.1))
def Qn9:List TRow:=[Qen,QdW]
def QtR:TCode :=
 (zsq [(.reg [zbi 19 .lss 18 17]),(.cond 19 .skip (.exit 0)),(.block 1 (zsq [(.reg [zmv 20 18,zmv 8 20]),(.draw [zmv 22 0,zmv 23 8,zia 24 22 23 [TI],zld 25 24 1,zmv 26 1,zmv 27 8,zia 28 26 27 [TI],zld 29 28 1,zca 30 121 [25,29],zmv 21 30,zex 31 21 0,zex 32 21 1,zmv 9 31,zmv 10 32] []),(.reg [zmv 33 6,zmv 34 9,zop 35 (.bsl 3 [TI] [34]),zop 36 (.app 33 35 3 [TI]),zmv 6 36]),(.reg [zmv 37 7,zmv 38 37,.grp 38 false [zmv 39 10] 40 39,zmv 7 40])])),(.reg [zbi 41 .add 18 (zki 1),zmv 18 41])])
def QwP:List (Nat × Md):=[(0,.one .d),(1,.one .d),(6,.one .f),(7,.one .d),(17,.one .d),(18,.one .d)]
def Qtc:TCode :=
 (zsq [(.reg [zmv 42 6,zmv 43 7,zmv 4 42,zmv 5 43]),.ret])
def QRu:TCode :=
 (zsq [(.reg [zmv 4 (.k (.n [TI])),zmv 5 (zkb false)]),(zsq [(.reg [zmv 11 0,zmv 12 1,zca 13 191 [11,12],zno 14 13]),(.cond 14 (zsq [(.reg [zmv 4 (.k (.n [TI])),zmv 5 (zkb false)]),.ret]) .skip)]),(.reg [zop 15 (.bsl 3 [TI] []),zmv 6 15]),(.reg [zmv 7 (zkb false)]),(zsq [(.reg [zmv 16 0,zle 17 16,zmv 18 (zki 0)]),(.block 0 (.loop QwP QtR))]),Qtc])
def Qsu:List (ARv × Md):=[(.t 4,.one .d),(.t 5,.one .d)]
def Qrs:Qb:=TQ 0 0 Qsu K
def QOS:Qb:=Qseq (tawp Qn9 0 Qtc (Qrs K)) (Qrs K)
def QKg:Qb:=Qblk 0 (QOS K)
def QhA (a:List Int) (b:List Int) (out:Bool) (x:Int) (v:List Int):Prop:=Loop Qn9 0 QwP QtR (QKg K) ⟨[(0,(zcs [TI] a)),(1,(zcs [TI] b)),(6,(.r [TI] 0 0 v.length)),(7,(zcb out)),(17,(zci (a.length:Int))),(18,(zci x))],[(0,(.sl 3 [TI] true v))],1⟩
theorem QxD (a:List Int) (b:List Int) (out:Bool) (x:Int) (v:List Int) (h :
 (zif (decide (x<(a.length:Int))) ((((0:Int)≤x∧Int.toNat x<a.length)∧((0:Int)≤x∧Int.toNat x<b.length))∧(((v.length=v.length∨v.length+1≤v.length)∧v.length+1≤big)∧(QhA K a b (out||((Q7 (gtd (0:Int) a (Int.toNat x)) (gtd (0:Int) b (Int.toNat x))).2)) (w64 (x+(1:Int))) (List.take (v.length+1) ((List.take v.length v)++([(Q7 (gtd (0:Int) a (Int.toNat x)) (gtd (0:Int) b (Int.toNat x))).1])))))) (K (Qda ((List.take v.length (List.drop 0 v)),out))))):QhA K a b out x v :=
 Loop.of (by kernel_rfl) h
theorem QWM (a:List Int) (b:List Int) (h :
 (zif (!(ZG a b)) (K (Qda ([],false))) (QhA K a b false 0 ([]:List Int)))):Hold (tawp Qn9 (0+0) QRu (TQ 0 0 Qsu K) (Qi [(.c (.sl [TI]) a),(.c (.sl [TI]) b)])) :=
 Hold.of (by kernel_rfl) h
theorem QRT (a:List Int) (b:List Int):TCon Tryz.prog 213 [(.c (.sl [TI]) a),(.c (.sl [TI]) b)] (Qda (Zi a b)):=by
 refine Qo rfl fun hb=>tcg (n:=44) (sg:=Qin.sg) Qm (TOk.cons QiB (TOk.cons Qhk TOk.nil)) (by kernel_rfl) (by kernel_rfl) (QWM _ a b ?_)
 have hl_a:a.length≤9223372036854775807:=hb.1.1
 have hl_b:b.length≤9223372036854775807:=hb.2.1.1
 refine ⟨fun h=>R_eq (by unfold Zi;rw [if_neg (by simpa using h)]),fun h=>?_⟩
 have hp:ZG a b=true:=by simpa using h
 have hl:=J2.1 hp
 have h6:=(ZZ.1 hl.1).1
 refine Zj a (fun r k=>∀ (v:List Int) (s:Bool),v.length=k→(v++(vz Q7 r (b.drop k)).1,s||(vz Q7 r (b.drop k)).2)=(Zi a b)→QhA (fun r'=>r'=Qda (Zi a b)) a b s k v) ?_ ?_ [] false rfl (by unfold Zi;rw [if_pos hp];simp)
 ·intro v s hv he
  refine QxD (fun r'=>r'=Qda (Zi a b)) a b _ _ _ ⟨fun h=>by simp at h,fun _=>R_eq ?_⟩
  rw [← he];simp [vz]
 ·intro k x r hk hlt hg ih v s hv he
  obtain ⟨y,q,hq⟩:=Jn (l:=b) (k:=k) (by omega)
  refine QxD (fun r'=>r'=Qda (Zi a b)) a b _ _ _ ⟨fun _=>?_,fun h=>by simp at h;omega⟩
  rw [Int.toNat_natCast,hg,Yb hq,sc1 (by omega),Zc]
  refine ⟨⟨⟨by omega,hlt⟩,by omega,by omega⟩,room (by omega),ih _ _ (YS hv) ?_⟩
  rw [← he,hq,vz,ZX hq]
  simp [Bool.or_assoc]
theorem QsY:Ql Tryz.prog Qin:=Qn fun x _=>QRT x.1 x.2.1
def QcY (t:(List Int) × Bool):TRes:=zra (.tp [(zcs [TI] t.1),(zcb t.2)])
def Qjp:TRow:=Qk 226 [(.c (.sl [TI])),(.c (.sl [TI]))] fun x=>(none,QcY (Zi x.1 x.2.1))
def Qpe:List TRow:=[QdG,Qcs]
def QDz:TCode :=
 (zsq [(zsq [(.reg [zmv 12 8,zmv 13 0,zle 14 13,zbi 15 .lss 12 14,zmv 16 15,.grp 16 true [zmv 17 0,zmv 18 1,zca 19 207 [17,18]] 20 19]),(.cond 20 .skip (.exit 0))]),(.block 1 (zsq [(.draw [zmv 24 0,zmv 25 8,zia 26 24 25 [TI],zld 27 26 1,zmv 28 1,zmv 29 8,zia 30 28 29 [TI],zld 31 30 1,zca 32 162 [27,31],zmv 23 32,zex 33 23 0,zex 34 23 1,zmv 9 33,zmv 10 34] []),(.reg [zmv 35 6,zmv 36 9,zop 37 (.bsl 3 [TI] [36]),zop 38 (.app 35 37 3 [TI]),zmv 6 38]),(.reg [zmv 39 7,zmv 40 39,.grp 40 false [zmv 41 10] 42 41,zmv 7 42])])),(.reg [zmv 21 8,zbi 22 .add 21 (zki 1),zmv 8 22])])
def Qxd:List (Nat × Md):=[(0,.one .d),(1,.one .d),(6,.one .f),(7,.one .d),(8,.one .d)]
def QuY:TCode :=
 (zsq [(.reg [zmv 43 6,zmv 44 7,zmv 4 43,zmv 5 44]),.ret])
def QP8:TCode :=
 (zsq [(.reg [zmv 4 (.k (.n [TI])),zmv 5 (zkb false)]),(.reg [zop 11 (.bsl 3 [TI] []),zmv 6 11]),(.reg [zmv 7 (zkb false)]),(zsq [(.reg [zmv 8 (zki 0)]),(.block 0 (.loop Qxd QDz))]),QuY])
def Qyi:List (ARv × Md):=[(.t 4,.one .d),(.t 5,.one .d)]
def QCm:Qb:=TQ 0 0 Qyi K
def QMZ:Qb:=Qseq (tawp Qpe 0 QuY (QCm K)) (QCm K)
def QNO:Qb:=Qblk 0 (QMZ K)
def QgC (a:List Int) (b:List Int) (sat:Bool) (i:Int) (out:List Int):Prop:=Loop Qpe 0 Qxd QDz (QNO K) ⟨[(0,(zcs [TI] a)),(1,(zcs [TI] b)),(6,(.r [TI] 0 0 out.length)),(7,(zcb sat)),(8,(zci i))],[(0,(.sl 3 [TI] true out))],1⟩
theorem Qpl (a:List Int) (b:List Int) (sat:Bool) (i:Int) (out:List Int) (h :
 (zif ((decide (i<(a.length:Int)))&&(ZG a b)) ((((0:Int)≤i∧Int.toNat i<a.length)∧((0:Int)≤i∧Int.toNat i<b.length))∧(((out.length=out.length∨out.length+1≤out.length)∧out.length+1≤big)∧(QgC K a b (sat||((Q7 (gtd (0:Int) a (Int.toNat i)) (gtd (0:Int) b (Int.toNat i))).2)) (w64 (i+(1:Int))) (List.take (out.length+1) ((List.take out.length out)++([(Q7 (gtd (0:Int) a (Int.toNat i)) (gtd (0:Int) b (Int.toNat i))).1])))))) (K (QcY ((List.take out.length (List.drop 0 out)),sat))))):QgC K a b sat i out :=
 Loop.of (by kernel_rfl) h
theorem QQp (a:List Int) (b:List Int) (h :
 (QgC K a b false 0 ([]:List Int))):Hold (tawp Qpe (0+0) QP8 (TQ 0 0 Qyi K) (Qi [(.c (.sl [TI]) a),(.c (.sl [TI]) b)])) :=
 Hold.of (by kernel_rfl) h
theorem QJC (a:List Int) (b:List Int):TCon Tryz.prog 226 [(.c (.sl [TI]) a),(.c (.sl [TI]) b)] (QcY (Zi a b)):=by
 refine Qo rfl fun hb=>tcg (n:=45) (sg:=Qjp.sg) Qm (TOk.cons QhE (TOk.cons Qe3 TOk.nil)) (by kernel_rfl) (by kernel_rfl) (QQp _ a b ?_)
 have hl_a:a.length≤9223372036854775807:=hb.1.1
 have hl_b:b.length≤9223372036854775807:=hb.2.1.1
 by_cases hp:ZG a b=true
 rotate_left
 ·refine Qpl (fun r'=>r'=QcY (Zi a b)) a b _ _ _ ⟨fun h=>by simp [hp] at h,fun _=>R_eq (by unfold Zi;rw [if_neg hp];rfl)⟩
 have hl:=J2.1 hp
 have h6:=(ZZ.1 hl.1).1
 refine Zj a (fun r k=>∀ (v:List Int) (s:Bool),v.length=k→(v++(vz Q7 r (b.drop k)).1,s||(vz Q7 r (b.drop k)).2)=(Zi a b)→QgC (fun r'=>r'=QcY (Zi a b)) a b s k v) ?_ ?_ [] false rfl (by unfold Zi;rw [if_pos hp];simp)
 ·intro v s hv he
  refine Qpl (fun r'=>r'=QcY (Zi a b)) a b _ _ _ ⟨fun h=>by simp at h,fun _=>R_eq ?_⟩
  rw [← he];simp [vz]
 ·intro k x r hk hlt hg ih v s hv he
  obtain ⟨y,q,hq⟩:=Jn (l:=b) (k:=k) (by omega)
  refine Qpl (fun r'=>r'=QcY (Zi a b)) a b _ _ _ ⟨fun _=>?_,fun h=>by simp [hp] at h;omega⟩
  rw [Int.toNat_natCast,hg,Yb hq,sc1 (by omega),Zc]
  refine ⟨⟨⟨by omega,hlt⟩,by omega,by omega⟩,room (by omega),ih _ _ (YS hv) ?_⟩
  rw [← he,hq,vz,ZX hq]
  simp [Bool.or_assoc]
theorem QwO:Ql Tryz.prog Qjp:=Qn fun x _=>QJC x.1 x.2.1
def Qdb (t:(List Int) × Bool):TRes:=zra (.tp [(zcs [TI] t.1),(zcb t.2)])
def Qkd:TRow:=Qk 124 [(.c (.sl [TI])),(.c (.sl [TI]))] fun x=>(none,Qdb (Ze x.1 x.2.1))
def Qlj:List TRow:=[Qen,QoM]
def QrC:TCode :=
 (zsq [(.reg [zbi 19 .lss 18 17]),(.cond 19 .skip (.exit 0)),(.block 1 (zsq [(.reg [zmv 20 18,zmv 8 20]),(.draw [zmv 22 0,zmv 23 8,zia 24 22 23 [TI],zld 25 24 1,zmv 26 1,zmv 27 8,zia 28 26 27 [TI],zld 29 28 1,zca 30 192 [25,29],zmv 21 30,zex 31 21 0,zex 32 21 1,zmv 9 31,zmv 10 32] []),(.reg [zmv 33 6,zmv 34 9,zop 35 (.bsl 3 [TI] [34]),zop 36 (.app 33 35 3 [TI]),zmv 6 36]),(.reg [zmv 37 7,zmv 38 37,.grp 38 false [zmv 39 10] 40 39,zmv 7 40])])),(.reg [zbi 41 .add 18 (zki 1),zmv 18 41])])
def Qwr:List (Nat × Md):=[(0,.one .d),(1,.one .d),(6,.one .f),(7,.one .d),(17,.one .d),(18,.one .d)]
def Qt9:TCode :=
 (zsq [(.reg [zmv 42 6,zmv 43 7,zmv 4 42,zmv 5 43]),.ret])
def QNx:TCode :=
 (zsq [(.reg [zmv 4 (.k (.n [TI])),zmv 5 (zkb false)]),(zsq [(.reg [zmv 11 0,zmv 12 1,zca 13 191 [11,12],zno 14 13]),(.cond 14 (zsq [(.reg [zmv 4 (.k (.n [TI])),zmv 5 (zkb false)]),.ret]) .skip)]),(.reg [zop 15 (.bsl 3 [TI] []),zmv 6 15]),(.reg [zmv 7 (zkb false)]),(zsq [(.reg [zmv 16 0,zle 17 16,zmv 18 (zki 0)]),(.block 0 (.loop Qwr QrC))]),Qt9])
def QCk:List (ARv × Md):=[(.t 4,.one .d),(.t 5,.one .d)]
def Qrq:Qb:=TQ 0 0 QCk K
def QIk:Qb:=Qseq (tawp Qlj 0 Qt9 (Qrq K)) (Qrq K)
def QFc:Qb:=Qblk 0 (QIk K)
def Qis (a:List Int) (b:List Int) (out:Bool) (x:Int) (v:List Int):Prop:=Loop Qlj 0 Qwr QrC (QFc K) ⟨[(0,(zcs [TI] a)),(1,(zcs [TI] b)),(6,(.r [TI] 0 0 v.length)),(7,(zcb out)),(17,(zci (a.length:Int))),(18,(zci x))],[(0,(.sl 3 [TI] true v))],1⟩
theorem QtS (a:List Int) (b:List Int) (out:Bool) (x:Int) (v:List Int) (h :
 (zif (decide (x<(a.length:Int))) ((((0:Int)≤x∧Int.toNat x<a.length)∧((0:Int)≤x∧Int.toNat x<b.length))∧(((v.length=v.length∨v.length+1≤v.length)∧v.length+1≤big)∧(Qis K a b (out||((JN (gtd (0:Int) a (Int.toNat x)) (gtd (0:Int) b (Int.toNat x))).2)) (w64 (x+(1:Int))) (List.take (v.length+1) ((List.take v.length v)++([(JN (gtd (0:Int) a (Int.toNat x)) (gtd (0:Int) b (Int.toNat x))).1])))))) (K (Qdb ((List.take v.length (List.drop 0 v)),out))))):Qis K a b out x v :=
 Loop.of (by kernel_rfl) h
theorem QWK (a:List Int) (b:List Int) (h :
 (zif (!(ZG a b)) (K (Qdb ([],false))) (Qis K a b false 0 ([]:List Int)))):Hold (tawp Qlj (0+0) QNx (TQ 0 0 QCk K) (Qi [(.c (.sl [TI]) a),(.c (.sl [TI]) b)])) :=
 Hold.of (by kernel_rfl) h
theorem QEM (a:List Int) (b:List Int):TCon Tryz.prog 124 [(.c (.sl [TI]) a),(.c (.sl [TI]) b)] (Qdb (Ze a b)):=by
 refine Qo rfl fun hb=>tcg (n:=44) (sg:=Qkd.sg) Qm (TOk.cons QiB (TOk.cons QLA TOk.nil)) (by kernel_rfl) (by kernel_rfl) (QWK _ a b ?_)
 have hl_a:a.length≤9223372036854775807:=hb.1.1
 have hl_b:b.length≤9223372036854775807:=hb.2.1.1
 refine ⟨fun h=>R_eq (by unfold Ze;rw [if_neg (by simpa using h)]),fun h=>?_⟩
 have hp:ZG a b=true:=by simpa using h
 have hl:=J2.1 hp
 have h6:=(ZZ.1 hl.1).1
 refine Zj a (fun r k=>∀ (v:List Int) (s:Bool),v.length=k→(v++(vz JN r (b.drop k)).1,s||(vz JN r (b.drop k)).2)=(Ze a b)→Qis (fun r'=>r'=Qdb (Ze a b)) a b s k v) ?_ ?_ [] false rfl (by unfold Ze;rw [if_pos hp];simp)
 ·intro v s hv he
  refine QtS (fun r'=>r'=Qdb (Ze a b)) a b _ _ _ ⟨fun h=>by simp at h,fun _=>R_eq ?_⟩
  rw [← he];simp [vz]
 ·intro k x r hk hlt hg ih v s hv he
  obtain ⟨y,q,hq⟩:=Jn (l:=b) (k:=k) (by omega)
  refine QtS (fun r'=>r'=Qdb (Ze a b)) a b _ _ _ ⟨fun _=>?_,fun h=>by simp at h;omega⟩
  rw [Int.toNat_natCast,hg,Yb hq,sc1 (by omega),Zc]
  refine ⟨⟨⟨by omega,hlt⟩,by omega,by omega⟩,room (by omega),ih _ _ (YS hv) ?_⟩
  rw [← he,hq,vz,ZX hq]
  simp [Bool.or_assoc]
theorem Qv2:Ql Tryz.prog Qkd:=Qn fun x _=>QEM x.1 x.2.1
def Qcq (t:(List Int) × Bool):TRes:=zra (.tp [(zcs [TI] t.1),(zcb t.2)])
def QiX:TRow:=Qk 165 [(.c (.sl [TI])),(.c (.sl [TI]))] fun x=>(none,Qcq (Ze x.1 x.2.1))
def QmC:List TRow:=[QdG,Qqc]
def QAs:TCode :=
 (zsq [(zsq [(.reg [zmv 12 8,zmv 13 0,zle 14 13,zbi 15 .lss 12 14,zmv 16 15,.grp 16 true [zmv 17 0,zmv 18 1,zca 19 207 [17,18]] 20 19]),(.cond 20 .skip (.exit 0))]),(.block 1 (zsq [(.draw [zmv 24 0,zmv 25 8,zia 26 24 25 [TI],zld 27 26 1,zmv 28 1,zmv 29 8,zia 30 28 29 [TI],zld 31 30 1,zca 32 208 [27,31],zmv 23 32,zex 33 23 0,zex 34 23 1,zmv 9 33,zmv 10 34] []),(.reg [zmv 35 6,zmv 36 9,zop 37 (.bsl 3 [TI] [36]),zop 38 (.app 35 37 3 [TI]),zmv 6 38]),(.reg [zmv 39 7,zmv 40 39,.grp 40 false [zmv 41 10] 42 41,zmv 7 42])])),(.reg [zmv 21 8,zbi 22 .add 21 (zki 1),zmv 8 22])])
def Qvx:List (Nat × Md):=[(0,.one .d),(1,.one .d),(6,.one .f),(7,.one .d),(8,.one .d)]
def QtX:TCode :=
 (zsq [(.reg [zmv 43 6,zmv 44 7,zmv 4 43,zmv 5 44]),.ret])
def QSw:TCode :=
 (zsq [(.reg [zmv 4 (.k (.n [TI])),zmv 5 (zkb false)]),(.reg [zop 11 (.bsl 3 [TI] []),zmv 6 11]),(.reg [zmv 7 (zkb false)]),(zsq [(.reg [zmv 8 (zki 0)]),(.block 0 (.loop Qvx QAs))]),QtX])
def QrA:List (ARv × Md):=[(.t 4,.one .d),(.t 5,.one .d)]
def QAz:Qb:=TQ 0 0 QrA K
def QWU:Qb:=Qseq (tawp QmC 0 QtX (QAz K)) (QAz K)
def QRY:Qb:=Qblk 0 (QWU K)
def Qj9 (a:List Int) (b:List Int) (sat:Bool) (i:Int) (out:List Int):Prop:=Loop QmC 0 Qvx QAs (QRY K) ⟨[(0,(zcs [TI] a)),(1,(zcs [TI] b)),(6,(.r [TI] 0 0 out.length)),(7,(zcb sat)),(8,(zci i))],[(0,(.sl 3 [TI] true out))],1⟩
theorem Qqj (a:List Int) (b:List Int) (sat:Bool) (i:Int) (out:List Int) (h :
 (zif ((decide (i<(a.length:Int)))&&(ZG a b)) ((((0:Int)≤i∧Int.toNat i<a.length)∧((0:Int)≤i∧Int.toNat i<b.length))∧(((out.length=out.length∨out.length+1≤out.length)∧out.length+1≤big)∧(Qj9 K a b (sat||((JN (gtd (0:Int) a (Int.toNat i)) (gtd (0:Int) b (Int.toNat i))).2)) (w64 (i+(1:Int))) (List.take (out.length+1) ((List.take out.length out)++([(JN (gtd (0:Int) a (Int.toNat i)) (gtd (0:Int) b (Int.toNat i))).1])))))) (K (Qcq ((List.take out.length (List.drop 0 out)),sat))))):Qj9 K a b sat i out :=
 Loop.of (by kernel_rfl) h
theorem QQE (a:List Int) (b:List Int) (h :
 (Qj9 K a b false 0 ([]:List Int))):Hold (tawp QmC (0+0) QSw (TQ 0 0 QrA K) (Qi [(.c (.sl [TI]) a),(.c (.sl [TI]) b)])) :=
 Hold.of (by kernel_rfl) h
theorem QIq (a:List Int) (b:List Int):TCon Tryz.prog 165 [(.c (.sl [TI]) a),(.c (.sl [TI]) b)] (Qcq (Ze a b)):=by
 refine Qo rfl fun hb=>tcg (n:=45) (sg:=QiX.sg) Qm (TOk.cons QhE (TOk.cons QNI TOk.nil)) (by kernel_rfl) (by kernel_rfl) (QQE _ a b ?_)
 have hl_a:a.length≤9223372036854775807:=hb.1.1
 have hl_b:b.length≤9223372036854775807:=hb.2.1.1
 by_cases hp:ZG a b=true
 rotate_left
 ·refine Qqj (fun r'=>r'=Qcq (Ze a b)) a b _ _ _ ⟨fun h=>by simp [hp] at h,fun _=>R_eq (by unfold Ze;rw [if_neg hp];rfl)⟩
 have hl:=J2.1 hp
 have h6:=(ZZ.1 hl.1).1
 refine Zj a (fun r k=>∀ (v:List Int) (s:Bool),v.length=k→(v++(vz JN r (b.drop k)).1,s||(vz JN r (b.drop k)).2)=(Ze a b)→Qj9 (fun r'=>r'=Qcq (Ze a b)) a b s k v) ?_ ?_ [] false rfl (by unfold Ze;rw [if_pos hp];simp)
 ·intro v s hv he
  refine Qqj (fun r'=>r'=Qcq (Ze a b)) a b _ _ _ ⟨fun h=>by simp at h,fun _=>R_eq ?_⟩
  rw [← he];simp [vz]
 ·intro k x r hk hlt hg ih v s hv he
  obtain ⟨y,q,hq⟩:=Jn (l:=b) (k:=k) (by omega)
  refine Qqj (fun r'=>r'=Qcq (Ze a b)) a b _ _ _ ⟨fun _=>?_,fun h=>by simp [hp] at h;omega⟩
  rw [Int.toNat_natCast,hg,Yb hq,sc1 (by omega),Zc]
  refine ⟨⟨⟨by omega,hlt⟩,by omega,by omega⟩,room (by omega),ih _ _ (YS hv) ?_⟩
  rw [← he,hq,vz,ZX hq]
  simp [Bool.or_assoc]
theorem QsO:Ql Tryz.prog QiX:=Qn fun x _=>QIq x.1 x.2.1
def Qdl (t:(List Int) × Bool):TRes:=zra (.tp [(zcs [TI] t.1),(zcb t.2)])
def Qhj:TRow:=Qk 214 [(.c TI),(.c (.sl [TI]))] fun x=>(none,Qdl (ZE x.1 x.2.1))
def QoD:List TRow:=[Qe4,Qbh,QeH]
def QAM:TCode :=
 (zsq [(.reg [zbi 23 .lss 22 21]),(.cond 23 .skip (.exit 0)),(.block 1 (zsq [(.reg [zmv 24 22,zmv 8 24]),(.reg [zmv 26 0,zmv 27 1,zmv 28 8,zia 29 27 28 [TI],zld 30 29 1,zca 31 216 [26,30],zmv 25 31,zex 32 25 0,zex 33 25 1,zmv 9 32,zmv 10 33]),(.reg [zmv 34 6,zmv 35 9,zop 36 (.bsl 3 [TI] [35]),zop 37 (.app 34 36 3 [TI]),zmv 6 37]),(.reg [zmv 38 7,zmv 39 38,.grp 39 false [zmv 40 10] 41 40,zmv 7 41])])),(.reg [zbi 42 .add 22 (zki 1),zmv 22 42])])
def QDC:List (Nat × Md):=[(0,.one .d),(1,.one .d),(6,.one .f),(7,.one .d),(21,.one .d),(22,.one .d)]
def QCq:TCode :=
 (zsq [(.reg [zmv 43 6,zmv 44 7,zmv 4 43,zmv 5 44]),.ret])
def QSX:TCode :=
 (zsq [(.reg [zmv 4 (.k (.n [TI])),zmv 5 (zkb false)]),(zsq [(.reg [zmv 11 0,zca 12 217 [11],zno 13 12,zmv 14 13,.grp 14 false [zmv 15 1,zca 16 134 [15],zno 17 16] 18 17]),(.cond 18 (zsq [(.reg [zmv 4 (.k (.n [TI])),zmv 5 (zkb false)]),.ret]) .skip)]),(.reg [zop 19 (.bsl 3 [TI] []),zmv 6 19]),(.reg [zmv 7 (zkb false)]),(zsq [(.reg [zmv 20 1,zle 21 20,zmv 22 (zki 0)]),(.block 0 (.loop QDC QAM))]),QCq])
def QAT:List (ARv × Md):=[(.t 4,.one .d),(.t 5,.one .d)]
def QCQ:Qb:=TQ 0 0 QAT K
def QJR:Qb:=Qseq (tawp QoD 0 QCq (QCQ K)) (QCQ K)
def QFb:Qb:=Qblk 0 (QJR K)
def QgG (c:Int) (a:List Int) (out:Bool) (x:Int) (v:List Int):Prop:=Loop QoD 0 QDC QAM (QFb K) ⟨[(0,(zci c)),(1,(zcs [TI] a)),(6,(.r [TI] 0 0 v.length)),(7,(zcb out)),(21,(zci (a.length:Int))),(22,(zci x))],[(0,(.sl 3 [TI] true v))],1⟩
theorem QBQ (c:Int) (a:List Int) (out:Bool) (x:Int) (v:List Int) (h :
 (zif (decide (x<(a.length:Int))) (((0:Int)≤x∧Int.toNat x<a.length)∧(((v.length=v.length∨v.length+1≤v.length)∧v.length+1≤big)∧(QgG K c a (out||((Zm c (gtd (0:Int) a (Int.toNat x))).2)) (w64 (x+(1:Int))) (List.take (v.length+1) ((List.take v.length v)++([(Zm c (gtd (0:Int) a (Int.toNat x))).1])))))) (K (Qdl ((List.take v.length (List.drop 0 v)),out))))):QgG K c a out x v :=
 Loop.of (by kernel_rfl) h
theorem QTg (c:Int) (a:List Int) (h :
 (zif ((!(Zb c))||(!(QJ a))) (K (Qdl ([],false))) (QgG K c a false 0 ([]:List Int)))):Hold (tawp QoD (0+0) QSX (TQ 0 0 QAT K) (Qi [(.c TI c),(.c (.sl [TI]) a)])) :=
 Hold.of (by kernel_rfl) h
theorem QU7 (c:Int) (a:List Int):TCon Tryz.prog 214 [(.c TI c),(.c (.sl [TI]) a)] (Qdl (ZE c a)):=by
 refine Qo rfl fun hb=>tcg (n:=45) (sg:=Qhj.sg) Qm (TOk.cons Qp0 (TOk.cons Qds (TOk.cons QlM TOk.nil))) (by kernel_rfl) (by kernel_rfl) (QTg _ c a ?_)
 have hl_a:a.length≤9223372036854775807:=hb.2.1.1
 refine ⟨fun h=>R_eq (by unfold ZE;rw [if_neg (by intro h2;simp at h2;simp [h2] at h)]),fun h=>?_⟩
 have hp:Zb c=true∧QJ a=true:=by simpa using h
 have h6:=(ZZ.1 hp.2).1
 refine Zj a (fun r k=>∀ (v:List Int) (s:Bool),v.length=k→(v++(v1 (Zm c) r).1,s||(v1 (Zm c) r).2)=(ZE c a)→QgG (fun r'=>r'=Qdl (ZE c a)) c a s k v) ?_ ?_ [] false rfl (by unfold ZE;rw [if_pos (by simp [hp])];simp)
 ·intro v s hv he
  refine QBQ (fun r'=>r'=Qdl (ZE c a)) c a _ _ _ ⟨fun h=>by simp at h,fun _=>R_eq ?_⟩
  rw [← he];simp [v1]
 ·intro k x r hk hlt hg ih v s hv he
  refine QBQ (fun r'=>r'=Qdl (ZE c a)) c a _ _ _ ⟨fun _=>?_,fun h=>by simp at h;omega⟩
  rw [Int.toNat_natCast,hg,sc1 (by omega),Zc]
  refine ⟨⟨by omega,hlt⟩,room (by omega),ih _ _ (YS hv) ?_⟩
  rw [← he,v1]
  simp [Bool.or_assoc]
theorem QCv:Ql Tryz.prog Qhj:=Qn fun x _=>QU7 x.1 x.2.1
def Qc9 (t:(List Int) × Bool):TRes:=zra (.tp [(zcs [TI] t.1),(zcb t.2)])
def QgF:TRow:=Qk 228 [(.c TI),(.c (.sl [TI]))] fun x=>(none,Qc9 (ZE x.1 x.2.1))
def QlQ:List TRow:=[Jc,QdS,Qe5]
def Qsl:TCode :=
 (zsq [(zsq [(.reg [zmv 12 8,zmv 13 1,zle 14 13,zbi 15 .lss 12 14,zmv 16 15,.grp 16 true [zmv 17 1,zca 18 42 [17]] 19 18,zmv 20 19,.grp 20 true [zmv 21 0,zca 22 110 [21]] 23 22]),(.cond 23 .skip (.exit 0))]),(.block 1 (zsq [(.reg [zmv 27 0,zmv 28 1,zmv 29 8,zia 30 28 29 [TI],zld 31 30 1,zca 32 229 [27,31],zmv 26 32,zex 33 26 0,zex 34 26 1,zmv 9 33,zmv 10 34]),(.reg [zmv 35 6,zmv 36 9,zop 37 (.bsl 3 [TI] [36]),zop 38 (.app 35 37 3 [TI]),zmv 6 38]),(.reg [zmv 39 7,zmv 40 39,.grp 40 false [zmv 41 10] 42 41,zmv 7 42])])),(.reg [zmv 24 8,zbi 25 .add 24 (zki 1),zmv 8 25])])
def QxG:List (Nat × Md):=[(0,.one .d),(1,.one .d),(6,.one .f),(7,.one .d),(8,.one .d)]
def QsM:TCode :=
 (zsq [(.reg [zmv 43 6,zmv 44 7,zmv 4 43,zmv 5 44]),.ret])
def QRr:TCode :=
 (zsq [(.reg [zmv 4 (.k (.n [TI])),zmv 5 (zkb false)]),(.reg [zop 11 (.bsl 3 [TI] []),zmv 6 11]),(.reg [zmv 7 (zkb false)]),(zsq [(.reg [zmv 8 (zki 0)]),(.block 0 (.loop QxG Qsl))]),QsM])
def Qwb:List (ARv × Md):=[(.t 4,.one .d),(.t 5,.one .d)]
def Qwy:Qb:=TQ 0 0 Qwb K
def QGx:Qb:=Qseq (tawp QlQ 0 QsM (Qwy K)) (Qwy K)
def QHt:Qb:=Qblk 0 (QGx K)
def Qi8 (c:Int) (a:List Int) (sat:Bool) (i:Int) (out:List Int):Prop:=Loop QlQ 0 QxG Qsl (QHt K) ⟨[(0,(zci c)),(1,(zcs [TI] a)),(6,(.r [TI] 0 0 out.length)),(7,(zcb sat)),(8,(zci i))],[(0,(.sl 3 [TI] true out))],1⟩
theorem QoC (c:Int) (a:List Int) (sat:Bool) (i:Int) (out:List Int) (h :
 (zif (((decide (i<(a.length:Int)))&&(QJ a))&&(Zb c)) (((0:Int)≤i∧Int.toNat i<a.length)∧(((out.length=out.length∨out.length+1≤out.length)∧out.length+1≤big)∧(Qi8 K c a (sat||((Zm c (gtd (0:Int) a (Int.toNat i))).2)) (w64 (i+(1:Int))) (List.take (out.length+1) ((List.take out.length out)++([(Zm c (gtd (0:Int) a (Int.toNat i))).1])))))) (K (Qc9 ((List.take out.length (List.drop 0 out)),sat))))):Qi8 K c a sat i out :=
 Loop.of (by kernel_rfl) h
theorem QTi (c:Int) (a:List Int) (h :
 (Qi8 K c a false 0 ([]:List Int))):Hold (tawp QlQ (0+0) QRr (TQ 0 0 Qwb K) (Qi [(.c TI c),(.c (.sl [TI]) a)])) :=
 Hold.of (by kernel_rfl) h
theorem QTZ (c:Int) (a:List Int):TCon Tryz.prog 228 [(.c TI c),(.c (.sl [TI]) a)] (Qc9 (ZE c a)):=by
 refine Qo rfl fun hb=>tcg (n:=45) (sg:=QgF.sg) Qm (TOk.cons Jr (TOk.cons Qj4 (TOk.cons Qlo TOk.nil))) (by kernel_rfl) (by kernel_rfl) (QTi _ c a ?_)
 have hl_a:a.length≤9223372036854775807:=hb.2.1.1
 by_cases hp:Zb c=true∧QJ a=true
 rotate_left
 ·refine QoC (fun r'=>r'=Qc9 (ZE c a)) c a _ _ _ ⟨fun h=>absurd (by simp at h;exact ⟨h.2,h.1.2⟩) hp,fun _=>R_eq (by unfold ZE;rw [if_neg (by simpa using hp)];rfl)⟩
 have h6:=(ZZ.1 hp.2).1
 refine Zj a (fun r k=>∀ (v:List Int) (s:Bool),v.length=k→(v++(v1 (Zm c) r).1,s||(v1 (Zm c) r).2)=(ZE c a)→Qi8 (fun r'=>r'=Qc9 (ZE c a)) c a s k v) ?_ ?_ [] false rfl (by unfold ZE;rw [if_pos (by simp [hp])];simp)
 ·intro v s hv he
  refine QoC (fun r'=>r'=Qc9 (ZE c a)) c a _ _ _ ⟨fun h=>by simp at h,fun _=>R_eq ?_⟩
  rw [← he];simp [v1]
 ·intro k x r hk hlt hg ih v s hv he
  refine QoC (fun r'=>r'=Qc9 (ZE c a)) c a _ _ _ ⟨fun _=>?_,fun h=>by simp [hp] at h;omega⟩
  rw [Int.toNat_natCast,hg,sc1 (by omega),Zc]
  refine ⟨⟨by omega,hlt⟩,room (by omega),ih _ _ (YS hv) ?_⟩
  rw [← he,v1]
  simp [Bool.or_assoc]
theorem QBM:Ql Tryz.prog QgF:=Qn fun x _=>QTZ x.1 x.2.1
def Qcy (t:Int × Bool):TRes:=zre (.tp [(zci t.1),(zcb t.2)])
def Qfl:TRow:=Qk 188 [(.c (.sl [TI])),(.c (.sl [TI]))] fun x=>(none,Qcy (Q2 x.1 x.2.1))
def Qnl:List TRow:=[Qen,QeH,QdW]
def Qxt:TCode :=
 (zsq [(.reg [zbi 20 .lss 19 18]),(.cond 20 .skip (.exit 0)),(.block 1 (zsq [(.reg [zmv 21 19,zmv 8 21]),(.draw [zmv 23 0,zmv 24 8,zia 25 23 24 [TI],zld 26 25 1,zmv 27 1,zmv 28 8,zia 29 27 28 [TI],zld 30 29 1,zca 31 216 [26,30],zmv 22 31,zex 32 22 0,zex 33 22 1,zmv 9 32,zmv 10 33] []),(.reg [zmv 35 6,zmv 36 9,zca 37 121 [35,36],zmv 34 37,zex 38 34 0,zex 39 34 1,zmv 11 38,zmv 12 39]),(.reg [zmv 40 11,zmv 6 40]),(.reg [zmv 41 7,zmv 42 41,.grp 42 false [zmv 43 10] 44 43,zmv 45 44,.grp 45 false [zmv 46 12] 47 46,zmv 7 47])])),(.reg [zbi 48 .add 19 (zki 1),zmv 19 48])])
def QCx:List (Nat × Md):=zdl [0,1,6,7,18,19]
def Qvk:TCode :=
 (zsq [(.reg [zmv 49 6,zmv 50 7,zmv 4 49,zmv 5 50]),.ret])
def QNv:TCode :=
 (zsq [(.reg [zmv 4 (zki 0),zmv 5 (zkb false)]),(zsq [(.reg [zmv 13 0,zmv 14 1,zca 15 191 [13,14],zno 16 15]),(.cond 16 (zsq [(.reg [zmv 4 (zki 0),zmv 5 (zkb false)]),.ret]) .skip)]),(.reg [zmv 6 (zki 0)]),(.reg [zmv 7 (zkb false)]),(zsq [(.reg [zmv 17 0,zle 18 17,zmv 19 (zki 0)]),(.block 0 (.loop QCx Qxt))]),Qvk])
def Quf:List (ARv × Md):=[(.t 4,.one .d),(.t 5,.one .d)]
def Qvm:Qb:=TQ 0 0 Quf K
def QGb:Qb:=Qseq (tawp Qnl 0 Qvk (Qvm K)) (Qvm K)
def QYc:Qb:=Qblk 0 (QGb K)
def Qkc (a:List Int) (b:List Int) (sum:Int) (out:Bool) (x:Int):Prop:=Loop Qnl 0 QCx Qxt (QYc K) ⟨[(0,(zcs [TI] a)),(1,(zcs [TI] b)),(6,(zci sum)),(7,(zcb out)),(18,(zci (a.length:Int))),(19,(zci x))],[],0⟩
theorem QBJ (a:List Int) (b:List Int) (sum:Int) (out:Bool) (x:Int) (h :
 (zif (decide (x<(a.length:Int))) ((((0:Int)≤x∧Int.toNat x<a.length)∧((0:Int)≤x∧Int.toNat x<b.length))∧(Qkc K a b ((Q7 sum ((Zm (gtd (0:Int) a (Int.toNat x)) (gtd (0:Int) b (Int.toNat x))).1)).1) ((out||((Zm (gtd (0:Int) a (Int.toNat x)) (gtd (0:Int) b (Int.toNat x))).2))||((Q7 sum ((Zm (gtd (0:Int) a (Int.toNat x)) (gtd (0:Int) b (Int.toNat x))).1)).2)) (w64 (x+(1:Int))))) (K (Qcy (sum,out))))):Qkc K a b sum out x :=
 Loop.of (by kernel_rfl) h
theorem QHS (a:List Int) (b:List Int) (h :
 (zif (!(ZG a b)) (K (Qcy ((0:Int),false))) (Qkc K a b 0 false 0))):Hold (tawp Qnl (0+0) QNv (TQ 0 0 Quf K) (Qi [(.c (.sl [TI]) a),(.c (.sl [TI]) b)])) :=
 Hold.of (by kernel_rfl) h
theorem QPq (a:List Int) (b:List Int):TCon Tryz.prog 188 [(.c (.sl [TI]) a),(.c (.sl [TI]) b)] (Qcy (Q2 a b)):=by
 refine Qo rfl fun hb=>tcg (n:=51) (sg:=Qfl.sg) Qm (TOk.cons QiB (TOk.cons QlM (TOk.cons Qhk TOk.nil))) (by kernel_rfl) (by kernel_rfl) (QHS _ a b ?_)
 have hl_a:a.length≤9223372036854775807:=hb.1.1
 have hl_b:b.length≤9223372036854775807:=hb.2.1.1
 refine ⟨fun h=>R_eq (by unfold Q2;rw [if_neg (by simpa using h)]),fun h=>?_⟩
 have hp:ZG a b=true:=by simpa using h
 have hl:=J2.1 hp
 have h6:=(ZZ.1 hl.1).1
 refine Zj a (fun r k=>∀ (z:Int) (s:Bool),((Y6 r (b.drop k) z).1,s||(Y6 r (b.drop k) z).2)=(Q2 a b)→Qkc (fun r'=>r'=Qcy (Q2 a b)) a b z s k) ?_ ?_ 0 false (by unfold Q2;rw [if_pos hp];simp)
 ·intro z s he
  refine QBJ (fun r'=>r'=Qcy (Q2 a b)) a b _ _ _ ⟨fun h=>by simp at h,fun _=>R_eq ?_⟩
  rw [← he];simp [Y6]
 ·intro k x r hk hlt hg ih z s he
  obtain ⟨y,q,hq⟩:=Jn (l:=b) (k:=k) (by omega)
  refine QBJ (fun r'=>r'=Qcy (Q2 a b)) a b _ _ _ ⟨fun _=>?_,fun h=>by simp at h;omega⟩
  rw [Int.toNat_natCast,hg,Yb hq,sc1 (by omega)]
  refine ⟨⟨⟨by omega,hlt⟩,by omega,by omega⟩,ih _ _ ?_⟩
  rw [← he,hq,Y6,ZX hq]
  simp [Bool.or_assoc]
theorem Qmx:Ql Tryz.prog Qfl:=Qn fun x _=>QPq x.1 x.2.1
def QcU (t:Int × Bool):TRes:=zre (.tp [(zci t.1),(zcb t.2)])
def Qd3:TRow:=Qk 206 [(.c (.sl [TI])),(.c (.sl [TI]))] fun x=>(none,QcU (Q2 x.1 x.2.1))
def Qlx:List TRow:=[QdG,Qe5,Qcs]
def QvY:TCode :=
 (zsq [(zsq [(.reg [zmv 13 8,zmv 14 0,zle 15 14,zbi 16 .lss 13 15,zmv 17 16,.grp 17 true [zmv 18 0,zmv 19 1,zca 20 207 [18,19]] 21 20]),(.cond 21 .skip (.exit 0))]),(.block 1 (zsq [(.draw [zmv 25 0,zmv 26 8,zia 27 25 26 [TI],zld 28 27 1,zmv 29 1,zmv 30 8,zia 31 29 30 [TI],zld 32 31 1,zca 33 229 [28,32],zmv 24 33,zex 34 24 0,zex 35 24 1,zmv 9 34,zmv 10 35] []),(.reg [zmv 37 6,zmv 38 9,zca 39 162 [37,38],zmv 36 39,zex 40 36 0,zex 41 36 1,zmv 11 40,zmv 12 41]),(.reg [zmv 42 11,zmv 6 42]),(.reg [zmv 43 7,zmv 44 43,.grp 44 false [zmv 45 10] 46 45,zmv 47 46,.grp 47 false [zmv 48 12] 49 48,zmv 7 49])])),(.reg [zmv 22 8,zbi 23 .add 22 (zki 1),zmv 8 23])])
def QzM:List (Nat × Md):=zdl [0,1,6,7,8]
def QuH:TCode :=
 (zsq [(.reg [zmv 50 6,zmv 51 7,zmv 4 50,zmv 5 51]),.ret])
def QJl:TCode :=
 (zsq [(.reg [zmv 4 (zki 0),zmv 5 (zkb false)]),(.reg [zmv 6 (zki 0)]),(.reg [zmv 7 (zkb false)]),(zsq [(.reg [zmv 8 (zki 0)]),(.block 0 (.loop QzM QvY))]),QuH])
def QDA:List (ARv × Md):=[(.t 4,.one .d),(.t 5,.one .d)]
def QDi:Qb:=TQ 0 0 QDA K
def QHx:Qb:=Qseq (tawp Qlx 0 QuH (QDi K)) (QDi K)
def QNS:Qb:=Qblk 0 (QHx K)
def Qjj (a:List Int) (b:List Int) (sum:Int) (sat:Bool) (i:Int):Prop:=Loop Qlx 0 QzM QvY (QNS K) ⟨[(0,(zcs [TI] a)),(1,(zcs [TI] b)),(6,(zci sum)),(7,(zcb sat)),(8,(zci i))],[],0⟩
theorem QpM (a:List Int) (b:List Int) (sum:Int) (sat:Bool) (i:Int) (h :
 (zif ((decide (i<(a.length:Int)))&&(ZG a b)) ((((0:Int)≤i∧Int.toNat i<a.length)∧((0:Int)≤i∧Int.toNat i<b.length))∧(Qjj K a b ((Q7 sum ((Zm (gtd (0:Int) a (Int.toNat i)) (gtd (0:Int) b (Int.toNat i))).1)).1) ((sat||((Zm (gtd (0:Int) a (Int.toNat i)) (gtd (0:Int) b (Int.toNat i))).2))||((Q7 sum ((Zm (gtd (0:Int) a (Int.toNat i)) (gtd (0:Int) b (Int.toNat i))).1)).2)) (w64 (i+(1:Int))))) (K (QcU (sum,sat))))):Qjj K a b sum sat i :=
 Loop.of (by kernel_rfl) h
theorem QJJ (a:List Int) (b:List Int) (h :
 (Qjj K a b 0 false 0)):Hold (tawp Qlx (0+0) QJl (TQ 0 0 QDA K) (Qi [(.c (.sl [TI]) a),(.c (.sl [TI]) b)])) :=
 Hold.of (by kernel_rfl) h
theorem QGd (a:List Int) (b:List Int):TCon Tryz.prog 206 [(.c (.sl [TI]) a),(.c (.sl [TI]) b)] (QcU (Q2 a b)):=by
 refine Qo rfl fun hb=>tcg (n:=52) (sg:=Qd3.sg) Qm (TOk.cons QhE (TOk.cons Qlo (TOk.cons Qe3 TOk.nil))) (by kernel_rfl) (by kernel_rfl) (QJJ _ a b ?_)
 have hl_a:a.length≤9223372036854775807:=hb.1.1
 have hl_b:b.length≤9223372036854775807:=hb.2.1.1
 by_cases hp:ZG a b=true
 rotate_left
 ·refine QpM (fun r'=>r'=QcU (Q2 a b)) a b _ _ _ ⟨fun h=>by simp [hp] at h,fun _=>R_eq (by unfold Q2;rw [if_neg hp])⟩
 have hl:=J2.1 hp
 have h6:=(ZZ.1 hl.1).1
 refine Zj a (fun r k=>∀ (z:Int) (s:Bool),((Y6 r (b.drop k) z).1,s||(Y6 r (b.drop k) z).2)=(Q2 a b)→Qjj (fun r'=>r'=QcU (Q2 a b)) a b z s k) ?_ ?_ 0 false (by unfold Q2;rw [if_pos hp];simp)
 ·intro z s he
  refine QpM (fun r'=>r'=QcU (Q2 a b)) a b _ _ _ ⟨fun h=>by simp at h,fun _=>R_eq ?_⟩
  rw [← he];simp [Y6]
 ·intro k x r hk hlt hg ih z s he
  obtain ⟨y,q,hq⟩:=Jn (l:=b) (k:=k) (by omega)
  refine QpM (fun r'=>r'=QcU (Q2 a b)) a b _ _ _ ⟨fun _=>?_,fun h=>by simp [hp] at h;omega⟩
  rw [Int.toNat_natCast,hg,Yb hq,sc1 (by omega)]
  refine ⟨⟨⟨by omega,hlt⟩,by omega,by omega⟩,ih _ _ ?_⟩
  rw [← he,hq,Y6,ZX hq]
  simp [Bool.or_assoc]
theorem QiL:Ql Tryz.prog Qd3:=Qn fun x _=>QGd x.1 x.2.1
def Qcz (t:(List Int)):TRes:=zra (zcs [TI] t)
def QkI:TRow:=Qk 215 [(.c (.sl [TI]))] fun x=>(none,Qcz (Yi x.1))
def QlT:List TRow:=[Qbh,Qm9]
def QDr:TCode :=
 (zsq [(.reg [zbi 13 .lss 12 11]),(.cond 13 .skip (.exit 0)),(.block 1 (zsq [(.reg [zia 14 10 12 [TI],zld 15 14 1,zmv 5 15]),(.reg [zmv 16 3,zmv 17 5,zca 18 234 [17],zop 19 (.bsl 3 [TI] [18]),zop 20 (.app 16 19 3 [TI]),zmv 3 20])])),(.reg [zbi 21 .add 12 (zki 1),zmv 12 21])])
def Quj:List (Nat × Md):=[(3,.one .f),(10,.one .d),(11,.one .d),(12,.one .d)]
def Qy9:TCode :=
 (zsq [(.reg [zmv 22 3,zmv 2 22]),.ret])
def QEO:TCode :=
 (zsq [(.reg [zmv 2 (.k (.n [TI]))]),(zsq [(.reg [zmv 6 0,zca 7 134 [6],zno 8 7]),(.cond 8 (zsq [(.reg [zmv 2 (.k (.n [TI]))]),.ret]) .skip)]),(.reg [zop 9 (.bsl 3 [TI] []),zmv 3 9]),(zsq [(.reg [zmv 10 0,zle 11 10,zmv 12 (zki 0)]),(.block 0 (.loop Quj QDr))]),Qy9])
def QBj:List (ARv × Md):=[(.t 2,.one .d)]
def QvG:Qb:=TQ 0 0 QBj K
def QHH:Qb:=Qseq (tawp QlT 0 Qy9 (QvG K)) (QvG K)
def QPA:Qb:=Qblk 0 (QHH K)
def QjA (a:List Int) (x:Int) (v:List Int):Prop:=Loop QlT 0 Quj QDr (QPA K) ⟨[(3,(.r [TI] 0 0 v.length)),(10,(zcs [TI] a)),(11,(zci (a.length:Int))),(12,(zci x))],[(0,(.sl 3 [TI] true v))],1⟩
theorem QrH (a:List Int) (x:Int) (v:List Int) (h :
 (zif (decide (x<(a.length:Int))) (((0:Int)≤x∧Int.toNat x<a.length)∧(((v.length=v.length∨v.length+1≤v.length)∧v.length+1≤big)∧(QjA K a (w64 (x+(1:Int))) (List.take (v.length+1) ((List.take v.length v)++([(Qan (gtd (0:Int) a (Int.toNat x)))])))))) (K (Qcz (List.take v.length (List.drop 0 v)))))):QjA K a x v :=
 Loop.of (by kernel_rfl) h
theorem QT5 (a:List Int) (h :
 (zif (!(QJ a)) (K (Qcz ([]))) (QjA K a 0 ([]:List Int)))):Hold (tawp QlT (0+0) QEO (TQ 0 0 QBj K) (Qi [(.c (.sl [TI]) a)])) :=
 Hold.of (by kernel_rfl) h
theorem QEg (a:List Int):TCon Tryz.prog 215 [(.c (.sl [TI]) a)] (Qcz (Yi a)):=by
 refine Qo rfl fun hb=>tcg (n:=23) (sg:=QkI.sg) Qm (TOk.cons Qds (TOk.cons QW2 TOk.nil)) (by kernel_rfl) (by kernel_rfl) (QT5 _ a ?_)
 have hl_a:a.length≤9223372036854775807:=hb.1.1
 refine ⟨fun h=>R_eq (by unfold Yi;rw [if_neg (by simpa using h)]),fun h=>?_⟩
 have hp:QJ a=true:=by simpa using h
 have h6:=(ZZ.1 hp).1
 refine Zj a (fun r k=>∀ (v:List Int),v.length=k→v++r.map Qan=(Yi a)→QjA (fun r'=>r'=Qcz (Yi a)) a k v) ?_ ?_ [] rfl (by unfold Yi;rw [if_pos hp];simp)
 ·intro v hv he
  refine QrH (fun r'=>r'=Qcz (Yi a)) a _ _ ⟨fun h=>by simp at h,fun _=>R_eq ?_⟩
  rw [← he];simp
 ·intro k x r hk hlt hg ih v hv he
  refine QrH (fun r'=>r'=Qcz (Yi a)) a _ _ ⟨fun _=>?_,fun h=>by simp at h;omega⟩
  rw [Int.toNat_natCast,hg,sc1 (by omega),Zc]
  refine ⟨⟨by omega,hlt⟩,room (by omega),ih _ (YS hv) ?_⟩
  rw [← he];simp
theorem QKl:Ql Tryz.prog QkI:=Qn fun x _=>QEg x.1
def QcF (t:(List Int)):TRes:=zra (zcs [TI] t)
def QmV:TRow:=Qk 227 [(.c (.sl [TI]))] fun x=>(none,QcF (Yi x.1))
def QpP:List TRow:=[Jc,Qk4]
def Qv3:TCode :=
 (zsq [(zsq [(.reg [zmv 6 4,zmv 7 0,zle 8 7,zbi 9 .lss 6 8,zmv 10 9,.grp 10 true [zmv 11 0,zca 12 42 [11]] 13 12]),(.cond 13 .skip (.exit 0))]),(.block 1 (.reg [zmv 16 3,zmv 17 0,zmv 18 4,zia 19 17 18 [TI],zld 20 19 1,zca 21 238 [20],zop 22 (.bsl 3 [TI] [21]),zop 23 (.app 16 22 3 [TI]),zmv 3 23])),(.reg [zmv 14 4,zbi 15 .add 14 (zki 1),zmv 4 15])])
def Qt5:List (Nat × Md):=[(0,.one .d),(3,.one .f),(4,.one .d)]
def QqP:TCode :=
 (zsq [(.reg [zmv 24 3,zmv 2 24]),.ret])
def QHo:TCode :=
 (zsq [(.reg [zmv 2 (.k (.n [TI]))]),(.reg [zop 5 (.bsl 3 [TI] []),zmv 3 5]),(zsq [(.reg [zmv 4 (zki 0)]),(.block 0 (.loop Qt5 Qv3))]),QqP])
def QBK:List (ARv × Md):=[(.t 2,.one .d)]
def Qsp:Qb:=TQ 0 0 QBK K
def QQK:Qb:=Qseq (tawp QpP 0 QqP (Qsp K)) (Qsp K)
def QT9:Qb:=Qblk 0 (QQK K)
def Qjv (a:List Int) (i:Int) (out:List Int):Prop:=Loop QpP 0 Qt5 Qv3 (QT9 K) ⟨[(0,(zcs [TI] a)),(3,(.r [TI] 0 0 out.length)),(4,(zci i))],[(0,(.sl 3 [TI] true out))],1⟩
theorem Qqe (a:List Int) (i:Int) (out:List Int) (h :
 (zif ((decide (i<(a.length:Int)))&&(QJ a)) ((((0:Int)≤i∧Int.toNat i<a.length)∧((out.length=out.length∨out.length+1≤out.length)∧out.length+1≤big))∧(Qjv K a (w64 (i+(1:Int))) (List.take (out.length+1) ((List.take out.length out)++([(Qan (gtd (0:Int) a (Int.toNat i)))]))))) (K (QcF (List.take out.length (List.drop 0 out)))))):Qjv K a i out :=
 Loop.of (by kernel_rfl) h
theorem QR3 (a:List Int) (h :
 (Qjv K a 0 ([]:List Int))):Hold (tawp QpP (0+0) QHo (TQ 0 0 QBK K) (Qi [(.c (.sl [TI]) a)])) :=
 Hold.of (by kernel_rfl) h
theorem QJO (a:List Int):TCon Tryz.prog 227 [(.c (.sl [TI]) a)] (QcF (Yi a)):=by
 refine Qo rfl fun hb=>tcg (n:=25) (sg:=QmV.sg) Qm (TOk.cons Jr (TOk.cons QJF TOk.nil)) (by kernel_rfl) (by kernel_rfl) (QR3 _ a ?_)
 have hl_a:a.length≤9223372036854775807:=hb.1.1
 by_cases hp:QJ a=true
 rotate_left
 ·refine Qqe (fun r'=>r'=QcF (Yi a)) a _ _ ⟨fun h=>by simp [hp] at h,fun _=>R_eq (by unfold Yi;rw [if_neg hp];rfl)⟩
 have h6:=(ZZ.1 hp).1
 refine Zj a (fun r k=>∀ (v:List Int),v.length=k→v++r.map Qan=(Yi a)→Qjv (fun r'=>r'=QcF (Yi a)) a k v) ?_ ?_ [] rfl (by unfold Yi;rw [if_pos hp];simp)
 ·intro v hv he
  refine Qqe (fun r'=>r'=QcF (Yi a)) a _ _ ⟨fun h=>by simp at h,fun _=>R_eq ?_⟩
  rw [← he];simp
 ·intro k x r hk hlt hg ih v hv he
  refine Qqe (fun r'=>r'=QcF (Yi a)) a _ _ ⟨fun _=>?_,fun h=>by simp [hp] at h;omega⟩
  rw [Int.toNat_natCast,hg,sc1 (by omega),Zc]
  refine ⟨⟨⟨by omega,hlt⟩,room (by omega)⟩,ih _ (YS hv) ?_⟩
  rw [← he];simp
theorem QMJ:Ql Tryz.prog QmV:=Qn fun x _=>QJO x.1
def Qdt (t:(List Int)):TRes:=zra (zcs [TI] t)
def QnS:TRow:=Qk 220 [(.c (.sl [TI])),(.c (.sl [TI]))] fun x=>(none,Qdt (Yj x.1 x.2.1))
def Qm5:List TRow:=[Qen]
def Qyq:TCode :=
 (zsq [(.reg [zbi 15 .lss 14 13]),(.cond 15 .skip (.exit 0)),(.block 1 (zsq [(.reg [zmv 16 14,zmv 6 16]),(.reg [zmv 17 0,zmv 18 6,zia 19 17 18 [TI],zld 20 19 1,zbi 21 .gtr 20 (zki 0)]),(.cond 21 (.reg [zmv 22 5,zmv 23 1,zmv 24 6,zia 25 23 24 [TI],zld 26 25 1,zop 27 (.bsl 3 [TI] [26]),zop 28 (.app 22 27 3 [TI]),zmv 5 28]) (.reg [zmv 29 5,zop 30 (.bsl 3 [TI] [(zki 0)]),zop 31 (.app 29 30 3 [TI]),zmv 5 31]))])),(.reg [zbi 32 .add 14 (zki 1),zmv 14 32])])
def Qws:List (Nat × Md):=[(0,.one .d),(1,.one .d),(5,.one .f),(13,.one .d),(14,.one .d)]
def Qz3:TCode :=
 (zsq [(.reg [zmv 33 5,zmv 4 33]),.ret])
def QOq:TCode :=
 (zsq [(.reg [zmv 4 (.k (.n [TI]))]),(zsq [(.reg [zmv 7 0,zmv 8 1,zca 9 191 [7,8],zno 10 9]),(.cond 10 (zsq [(.reg [zmv 4 (.k (.n [TI]))]),.ret]) .skip)]),(.reg [zop 11 (.bsl 3 [TI] []),zmv 5 11]),(zsq [(.reg [zmv 12 0,zle 13 12,zmv 14 (zki 0)]),(.block 0 (.loop Qws Qyq))]),Qz3])
def QsZ:List (ARv × Md):=[(.t 4,.one .d)]
def QqJ:Qb:=TQ 0 0 QsZ K
def QVs:Qb:=Qseq (tawp Qm5 0 Qz3 (QqJ K)) (QqJ K)
def QQf:Qb:=Qblk 0 (QVs K)
def QfY (x:List Int) (d:List Int) (x1:Int) (v:List Int):Prop:=Loop Qm5 0 Qws Qyq (QQf K) ⟨[(0,(zcs [TI] x)),(1,(zcs [TI] d)),(5,(.r [TI] 0 0 v.length)),(13,(zci (x.length:Int))),(14,(zci x1))],[(0,(.sl 3 [TI] true v))],1⟩
theorem QwA (x:List Int) (d:List Int) (x1:Int) (v:List Int) (h :
 (zif (decide (x1<(x.length:Int))) (((0:Int)≤x1∧Int.toNat x1<x.length)∧(zif (decide ((gtd (0:Int) x (Int.toNat x1))>(0:Int))) ((((0:Int)≤x1∧Int.toNat x1<d.length)∧((v.length=v.length∨v.length+1≤v.length)∧v.length+1≤big))∧(QfY K x d (w64 (x1+(1:Int))) (List.take (v.length+1) ((List.take v.length v)++([(gtd (0:Int) d (Int.toNat x1))]))))) (((v.length=v.length∨v.length+1≤v.length)∧v.length+1≤big)∧(QfY K x d (w64 (x1+(1:Int))) (List.take (v.length+1) ((List.take v.length v)++([(0:Int)]))))))) (K (Qdt (List.take v.length (List.drop 0 v)))))):QfY K x d x1 v :=
 Loop.of (by kernel_rfl) h
theorem QR0 (x:List Int) (d:List Int) (h :
 (zif (!(ZG x d)) (K (Qdt ([]))) (QfY K x d 0 ([]:List Int)))):Hold (tawp Qm5 (0+0) QOq (TQ 0 0 QsZ K) (Qi [(.c (.sl [TI]) x),(.c (.sl [TI]) d)])) :=
 Hold.of (by kernel_rfl) h
theorem QKD (x:List Int) (d:List Int):TCon Tryz.prog 220 [(.c (.sl [TI]) x),(.c (.sl [TI]) d)] (Qdt (Yj x d)):=by
 refine Qo rfl fun hb=>tcg (n:=34) (sg:=QnS.sg) Qm (TOk.cons QiB TOk.nil) (by kernel_rfl) (by kernel_rfl) (QR0 _ x d ?_)
 have hl_x:x.length≤9223372036854775807:=hb.1.1
 have hl_d:d.length≤9223372036854775807:=hb.2.1.1
 refine ⟨fun h=>R_eq (by unfold Yj;rw [if_neg (by simpa using h)]),fun h=>?_⟩
 have hp:ZG x d=true:=by simpa using h
 have hl:=J2.1 hp
 have h6:=(ZZ.1 hl.1).1
 refine Zj x (fun r k=>∀ (v:List Int),v.length=k→v++List.zipWith (fun a b=>if 0<a then b else 0) r (d.drop k)=(Yj x d)→QfY (fun r'=>r'=Qdt (Yj x d)) x d k v) ?_ ?_ [] rfl (by unfold Yj;rw [if_pos hp];simp)
 ·intro v hv he
  refine QwA (fun r'=>r'=Qdt (Yj x d)) x d _ _ ⟨fun h=>by simp at h,fun _=>R_eq ?_⟩
  rw [← he];simp
 ·intro k y r hk hlt hg ih v hv he
  obtain ⟨z,q,hq⟩:=Jn (l:=d) (k:=k) (by omega)
  refine QwA (fun r'=>r'=Qdt (Yj x d)) x d _ _ ⟨fun _=>?_,fun h=>by simp at h;omega⟩
  rw [Int.toNat_natCast,hg,Yb hq,sc1 (by omega),Zc,Zc]
  rw [hq,List.zipWith_cons_cons,← ZX hq] at he
  refine ⟨⟨by omega,hlt⟩,fun h=>⟨⟨⟨by omega,by omega⟩,room (by omega)⟩,ih _ (YS hv) ?_⟩,fun h=>⟨room (by omega),ih _ (YS hv) ?_⟩⟩
  ·rw [← he,if_pos (by simpa using h)];simp
  ·rw [← he,if_neg (by simpa using h)];simp
theorem QQn:Ql Tryz.prog QnS:=Qn fun x _=>QKD x.1 x.2.1
def Qcu (t:(List Int)):TRes:=zra (zcs [TI] t)
def Qk1:TRow:=Qk 230 [(.c (.sl [TI])),(.c (.sl [TI]))] fun x=>(none,Qcu (Yj x.1 x.2.1))
def Qmy:List TRow:=[QdG]
def QDX:TCode :=
 (zsq [(zsq [(.reg [zmv 8 6,zmv 9 0,zle 10 9,zbi 11 .lss 8 10,zmv 12 11,.grp 12 true [zmv 13 0,zmv 14 1,zca 15 207 [13,14]] 16 15]),(.cond 16 .skip (.exit 0))]),(.block 1 (zsq [(.reg [zmv 19 0,zmv 20 6,zia 21 19 20 [TI],zld 22 21 1,zbi 23 .gtr 22 (zki 0)]),(.cond 23 (.reg [zmv 24 5,zmv 25 1,zmv 26 6,zia 27 25 26 [TI],zld 28 27 1,zop 29 (.bsl 3 [TI] [28]),zop 30 (.app 24 29 3 [TI]),zmv 5 30]) (.reg [zmv 31 5,zop 32 (.bsl 3 [TI] [(zki 0)]),zop 33 (.app 31 32 3 [TI]),zmv 5 33]))])),(.reg [zmv 17 6,zbi 18 .add 17 (zki 1),zmv 6 18])])
def QyN:List (Nat × Md):=[(0,.one .d),(1,.one .d),(5,.one .f),(6,.one .d)]
def QrT:TCode :=
 (zsq [(.reg [zmv 34 5,zmv 4 34]),.ret])
def QQs:TCode :=
 (zsq [(.reg [zmv 4 (.k (.n [TI]))]),(.reg [zop 7 (.bsl 3 [TI] []),zmv 5 7]),(zsq [(.reg [zmv 6 (zki 0)]),(.block 0 (.loop QyN QDX))]),QrT])
def Qyv:List (ARv × Md):=[(.t 4,.one .d)]
def QCP:Qb:=TQ 0 0 Qyv K
def QJv:Qb:=Qseq (tawp Qmy 0 QrT (QCP K)) (QCP K)
def QRa:Qb:=Qblk 0 (QJv K)
def QfN (x:List Int) (d:List Int) (i:Int) (out:List Int):Prop:=Loop Qmy 0 QyN QDX (QRa K) ⟨[(0,(zcs [TI] x)),(1,(zcs [TI] d)),(5,(.r [TI] 0 0 out.length)),(6,(zci i))],[(0,(.sl 3 [TI] true out))],1⟩
theorem QmE (x:List Int) (d:List Int) (i:Int) (out:List Int) (h :
 (zif ((decide (i<(x.length:Int)))&&(ZG x d)) (((0:Int)≤i∧Int.toNat i<x.length)∧(zif (decide ((gtd (0:Int) x (Int.toNat i))>(0:Int))) ((((0:Int)≤i∧Int.toNat i<d.length)∧((out.length=out.length∨out.length+1≤out.length)∧out.length+1≤big))∧(QfN K x d (w64 (i+(1:Int))) (List.take (out.length+1) ((List.take out.length out)++([(gtd (0:Int) d (Int.toNat i))]))))) (((out.length=out.length∨out.length+1≤out.length)∧out.length+1≤big)∧(QfN K x d (w64 (i+(1:Int))) (List.take (out.length+1) ((List.take out.length out)++([(0:Int)]))))))) (K (Qcu (List.take out.length (List.drop 0 out)))))):QfN K x d i out :=
 Loop.of (by kernel_rfl) h
theorem QGy (x:List Int) (d:List Int) (h :
 (QfN K x d 0 ([]:List Int))):Hold (tawp Qmy (0+0) QQs (TQ 0 0 Qyv K) (Qi [(.c (.sl [TI]) x),(.c (.sl [TI]) d)])) :=
 Hold.of (by kernel_rfl) h
theorem QQe (x:List Int) (d:List Int):TCon Tryz.prog 230 [(.c (.sl [TI]) x),(.c (.sl [TI]) d)] (Qcu (Yj x d)):=by
 refine Qo rfl fun hb=>tcg (n:=35) (sg:=Qk1.sg) Qm (TOk.cons QhE TOk.nil) (by kernel_rfl) (by kernel_rfl) (QGy _ x d ?_)
 have hl_x:x.length≤9223372036854775807:=hb.1.1
 have hl_d:d.length≤9223372036854775807:=hb.2.1.1
 by_cases hp:ZG x d=true
 rotate_left
 ·refine QmE (fun r'=>r'=Qcu (Yj x d)) x d _ _ ⟨fun h=>by simp [hp] at h,fun _=>R_eq (by unfold Yj;rw [if_neg hp];rfl)⟩
 have hl:=J2.1 hp
 have h6:=(ZZ.1 hl.1).1
 refine Zj x (fun r k=>∀ (v:List Int),v.length=k→v++List.zipWith (fun a b=>if 0<a then b else 0) r (d.drop k)=(Yj x d)→QfN (fun r'=>r'=Qcu (Yj x d)) x d k v) ?_ ?_ [] rfl (by unfold Yj;rw [if_pos hp];simp)
 ·intro v hv he
  refine QmE (fun r'=>r'=Qcu (Yj x d)) x d _ _ ⟨fun h=>by simp at h,fun _=>R_eq ?_⟩
  rw [← he];simp
 ·intro k y r hk hlt hg ih v hv he
  obtain ⟨z,q,hq⟩:=Jn (l:=d) (k:=k) (by omega)
  refine QmE (fun r'=>r'=Qcu (Yj x d)) x d _ _ ⟨fun _=>?_,fun h=>by simp [hp] at h;omega⟩
  rw [Int.toNat_natCast,hg,Yb hq,sc1 (by omega),Zc,Zc]
  rw [hq,List.zipWith_cons_cons,← ZX hq] at he
  refine ⟨⟨by omega,hlt⟩,fun h=>⟨⟨⟨by omega,by omega⟩,room (by omega)⟩,ih _ (YS hv) ?_⟩,fun h=>⟨room (by omega),ih _ (YS hv) ?_⟩⟩
  ·rw [← he,if_pos (by simpa using h)];simp
  ·rw [← he,if_neg (by simpa using h)];simp
theorem QVL:Ql Tryz.prog Qk1:=Qn fun x _=>QQe x.1 x.2.1
end
end Go.Proofs.YtjbdljkhbglnhaaGreat.Am

