/- -/
import Derived.Test.YtjbdljkhbglnhaaGreatZDP1
import Derived.Test.YtjbdljkhbglnhaaGreatZDPF
namespace Go.Proofs.YtjbdljkhbglnhaaGreat.Am
open Go Go.RowKit Go.Proofs.YtjbdljkhbglnhaaGreat
set_option linter.all false
noncomputable section
variable (K:TRes→Prop)
def Qmw (t:Bool):TRes:=zre (zcb t)
def Qed:TRow:=Qj 191 [(.c (.sl [TI])),(.c (.sl [TI]))] fun x=>(none,Qmw (ZI x.1 x.2.1))
def QML:List TRow:=[Qbg,Qah]
def QYr:TCode :=
 (zsq [(.reg [zmv 4 (zkb false)]),(.reg [zmv 5 0,zca 6 134 [5],zmv 7 6,.grp 7 true [zmv 8 1,zmv 9 0,zle 10 9,zca 11 114 [8,10]] 12 11,zmv 4 12]),.ret])
def QRC:List (ARv × Md):=[(.t 4,.one .d)]
theorem QLk (a:List Int) (b:List Int) (h :
 K (Qmw ((QK a)&&(Qq b (a.length:Int))))):Hold (tawp QML (0+0) QYr (TQ 0 0 QRC K) (Qh [(.c (.sl [TI]) a),(.c (.sl [TI]) b)])) :=
 Hold.of (by kernel_rfl) h
theorem QH6 (a:List Int) (b:List Int):TCon Tryz.prog 191 [(.c (.sl [TI]) a),(.c (.sl [TI]) b)] (Qmw (ZI a b)):=by
 refine Qo rfl fun hb=>tcg (n:=13) (sg:=Qed.sg) Ql (TOk.cons QcB (TOk.cons QaM TOk.nil)) (by kernel_rfl) (by kernel_rfl) (QLk _ a b ?_)
 have hl_a:a.length≤9223372036854775807:=hb.1.1
 have hl_b:b.length≤9223372036854775807:=hb.2.1.1
 exact R_eq rfl
theorem Qii:Qi Tryz.prog Qed:=Qm fun x _=>QH6 x.1 x.2.1
def Qp3 (t:Bool):TRes:=zre (zcb t)
def Qex:TRow:=Qj 207 [(.c (.sl [TI])),(.c (.sl [TI]))] fun x=>(none,Qp3 (ZI x.1 x.2.1))
def QTF:List TRow:=[Y6]
def QWD:TCode :=
 (zsq [(.reg [zmv 4 (zkb false)]),(.reg [zmv 5 0,zca 6 42 [5],zmv 7 6,.grp 7 true [zmv 8 1,zca 9 42 [8]] 10 9,zmv 11 10,.grp 11 true [zmv 12 0,zle 13 12,zmv 14 1,zle 15 14,zbi 16 .eql 13 15] 17 16,zmv 4 17]),.ret])
def QYf:List (ARv × Md):=[(.t 4,.one .d)]
theorem QHX (a:List Int) (b:List Int) (h :
 K (Qp3 (((QK a)&&(QK b))&&((a.length:Int)==(b.length:Int))))):Hold (tawp QTF (0+0) QWD (TQ 0 0 QYf K) (Qh [(.c (.sl [TI]) a),(.c (.sl [TI]) b)])) :=
 Hold.of (by kernel_rfl) h
theorem QYi (a:List Int) (b:List Int):TCon Tryz.prog 207 [(.c (.sl [TI]) a),(.c (.sl [TI]) b)] (Qp3 (ZI a b)):=by
 refine Qo rfl fun hb=>tcg (n:=18) (sg:=Qex.sg) Ql (TOk.cons Jp TOk.nil) (by kernel_rfl) (by kernel_rfl) (QHX _ a b ?_)
 have hl_a:a.length≤9223372036854775807:=hb.1.1
 have hl_b:b.length≤9223372036854775807:=hb.2.1.1
 refine R_eq ?_
 rw [Bool.eq_iff_iff]
 unfold ZI Qq
 simp only [Bool.and_eq_true,beq_iff_eq]
 constructor
 ·rintro ⟨⟨h1,h2⟩,h3⟩;exact ⟨h1,h2,by omega⟩
 ·rintro ⟨h1,h2,h3⟩;exact ⟨⟨h1,h2⟩,by omega⟩
theorem QgH:Qi Tryz.prog Qex:=Qm fun x _=>QYi x.1 x.2.1
def Qdv (t:(List Int) × Bool):TRes:=zra (.tp [(zcs [TI] t.1),(zcb t.2)])
def Qie:TRow:=Qj 213 [(.c (.sl [TI])),(.c (.sl [TI]))] fun x=>(none,Qdv (Zm x.1 x.2.1))
def QnT:List TRow:=[Qed,Qd4]
def QvD:TCode :=
 (zsq [(.reg [zbi 19 .lss 18 17]),(.cond 19 .skip (.exit 0)),(.block 1 (zsq [(.reg [zmv 20 18,zmv 8 20]),(.draw [zmv 22 0,zmv 23 8,zia 24 22 23 [TI],zld 25 24 1,zmv 26 1,zmv 27 8,zia 28 26 27 [TI],zld 29 28 1,zca 30 121 [25,29],zmv 21 30,zex 31 21 0,zex 32 21 1,zmv 9 31,zmv 10 32] []),(.reg [zmv 33 6,zmv 34 9,zop 35 (.bsl 3 [TI] [34]),zop 36 (.app 33 35 3 [TI]),zmv 6 36]),(.reg [zmv 37 7,zmv 38 37,.grp 38 false [zmv 39 10] 40 39,zmv 7 40])])),(.reg [zbi 41 .add 18 (zki 1),zmv 18 41])])
def QDv:List (Nat × Md):=[(0,.one .d),(1,.one .d),(6,.one .f),(7,.one .d),(17,.one .d),(18,.one .d)]
def Qrw:TCode :=
 (zsq [(.reg [zmv 42 6,zmv 43 7,zmv 4 42,zmv 5 43]),.ret])
def QMG:TCode :=
 (zsq [(.reg [zmv 4 (.k (.n [TI])),zmv 5 (zkb false)]),(zsq [(.reg [zmv 11 0,zmv 12 1,zca 13 191 [11,12],zno 14 13]),(.cond 14 (zsq [(.reg [zmv 4 (.k (.n [TI])),zmv 5 (zkb false)]),.ret]) .skip)]),(.reg [zop 15 (.bsl 3 [TI] []),zmv 6 15]),(.reg [zmv 7 (zkb false)]),(zsq [(.reg [zmv 16 0,zle 17 16,zmv 18 (zki 0)]),(.block 0 (.loop QDv QvD))]),Qrw])
def QBI:List (ARv × Md):=[(.t 4,.one .d),(.t 5,.one .d)]
def QCw:Qb:=TQ 0 0 QBI K
def QYk:Qb:=Qseq (tawp QnT 0 Qrw (QCw K)) (QCw K)
def QRA:Qb:=Qblk 0 (QYk K)
def QhL (a:List Int) (b:List Int) (out:Bool) (x:Int) (v:List Int):Prop:=Loop QnT 0 QDv QvD (QRA K) ⟨[(0,(zcs [TI] a)),(1,(zcs [TI] b)),(6,(.r [TI] 0 0 v.length)),(7,(zcb out)),(17,(zci (a.length:Int))),(18,(zci x))],[(0,(.sl 3 [TI] true v))],1⟩
theorem Qrp (a:List Int) (b:List Int) (out:Bool) (x:Int) (v:List Int) (h :
 (zif (decide (x<(a.length:Int))) ((((0:Int)≤x∧Int.toNat x<a.length)∧((0:Int)≤x∧Int.toNat x<b.length))∧(((v.length=v.length∨v.length+1≤v.length)∧v.length+1≤big)∧(QhL K a b (out||((Q4 (gtd (0:Int) a (Int.toNat x)) (gtd (0:Int) b (Int.toNat x))).2)) (w64 (x+(1:Int))) (List.take (v.length+1) ((List.take v.length v)++([(Q4 (gtd (0:Int) a (Int.toNat x)) (gtd (0:Int) b (Int.toNat x))).1])))))) (K (Qdv ((List.take v.length (List.drop 0 v)),out))))):QhL K a b out x v :=
 Loop.of (by kernel_rfl) h
theorem QSn (a:List Int) (b:List Int) (h :
 (zif (!(ZI a b)) (K (Qdv ([],false))) (QhL K a b false 0 ([]:List Int)))):Hold (tawp QnT (0+0) QMG (TQ 0 0 QBI K) (Qh [(.c (.sl [TI]) a),(.c (.sl [TI]) b)])) :=
 Hold.of (by kernel_rfl) h
theorem QLq (a:List Int) (b:List Int):TCon Tryz.prog 213 [(.c (.sl [TI]) a),(.c (.sl [TI]) b)] (Qdv (Zm a b)):=by
 refine Qo rfl fun hb=>tcg (n:=44) (sg:=Qie.sg) Ql (TOk.cons Qii (TOk.cons QjY TOk.nil)) (by kernel_rfl) (by kernel_rfl) (QSn _ a b ?_)
 have hl_a:a.length≤9223372036854775807:=hb.1.1
 have hl_b:b.length≤9223372036854775807:=hb.2.1.1
 refine ⟨fun h=>R_eq (by unfold Zm;rw [if_neg (by simpa using h)]),fun h=>?_⟩
 have hp:ZI a b=true:=by simpa using h
 have hl:=JQ.1 hp
 have h6:=(ZZ.1 hl.1).1
 refine Zj a (fun r k=>∀ (v:List Int) (s:Bool),v.length=k→(v++(vz Q4 r (b.drop k)).1,s||(vz Q4 r (b.drop k)).2)=(Zm a b)→QhL (fun r'=>r'=Qdv (Zm a b)) a b s k v) ?_ ?_ [] false rfl (by unfold Zm;rw [if_pos hp];simp)
 ·intro v s hv he
  refine Qrp (fun r'=>r'=Qdv (Zm a b)) a b _ _ _ ⟨fun h=>by simp at h,fun _=>R_eq ?_⟩
  rw [← he];simp [vz]
 ·intro k x r hk hlt hg ih v s hv he
  obtain ⟨y,q,hq⟩:=Jn (l:=b) (k:=k) (by omega)
  refine Qrp (fun r'=>r'=Qdv (Zm a b)) a b _ _ _ ⟨fun _=>?_,fun h=>by simp at h;omega⟩
  rw [Int.toNat_natCast,hg,Yb hq,sc1 (by omega),Za]
  refine ⟨⟨⟨by omega,hlt⟩,by omega,by omega⟩,room (by omega),ih _ _ (YM hv) ?_⟩
  rw [← he,hq,vz,ZY hq]
  simp [Bool.or_assoc]
theorem QtI:Qi Tryz.prog Qie:=Qm fun x _=>QLq x.1 x.2.1
def Qdh (t:(List Int) × Bool):TRes:=zra (.tp [(zcs [TI] t.1),(zcb t.2)])
def Qg4:TRow:=Qj 226 [(.c (.sl [TI])),(.c (.sl [TI]))] fun x=>(none,Qdh (Zm x.1 x.2.1))
def QoG:List TRow:=[Qex,Qdi]
def Qxn:TCode :=
 (zsq [(zsq [(.reg [zmv 12 8,zmv 13 0,zle 14 13,zbi 15 .lss 12 14,zmv 16 15,.grp 16 true [zmv 17 0,zmv 18 1,zca 19 207 [17,18]] 20 19]),(.cond 20 .skip (.exit 0))]),(.block 1 (zsq [(.draw [zmv 24 0,zmv 25 8,zia 26 24 25 [TI],zld 27 26 1,zmv 28 1,zmv 29 8,zia 30 28 29 [TI],zld 31 30 1,zca 32 162 [27,31],zmv 23 32,zex 33 23 0,zex 34 23 1,zmv 9 33,zmv 10 34] []),(.reg [zmv 35 6,zmv 36 9,zop 37 (.bsl 3 [TI] [36]),zop 38 (.app 35 37 3 [TI]),zmv 6 38]),(.reg [zmv 39 7,zmv 40 39,.grp 40 false [zmv 41 10] 42 41,zmv 7 42])])),(.reg [zmv 21 8,zbi 22 .add 21 (zki 1),zmv 8 22])])
def QyU:List (Nat × Md):=[(0,.one .d),(1,.one .d),(6,.one .f),(7,.one .d),(8,.one .d)]
def QwO:TCode :=
 (zsq [(.reg [zmv 43 6,zmv 44 7,zmv 4 43,zmv 5 44]),.ret])
def QZc:TCode :=
 (zsq [(.reg [zmv 4 (.k (.n [TI])),zmv 5 (zkb false)]),(.reg [zop 11 (.bsl 3 [TI] []),zmv 6 11]),(.reg [zmv 7 (zkb false)]),(zsq [(.reg [zmv 8 (zki 0)]),(.block 0 (.loop QyU Qxn))]),QwO])
def QAP:List (ARv × Md):=[(.t 4,.one .d),(.t 5,.one .d)]
def Qwu:Qb:=TQ 0 0 QAP K
def QVU:Qb:=Qseq (tawp QoG 0 QwO (Qwu K)) (Qwu K)
def QPP:Qb:=Qblk 0 (QVU K)
def Qhf (a:List Int) (b:List Int) (sat:Bool) (i:Int) (out:List Int):Prop:=Loop QoG 0 QyU Qxn (QPP K) ⟨[(0,(zcs [TI] a)),(1,(zcs [TI] b)),(6,(.r [TI] 0 0 out.length)),(7,(zcb sat)),(8,(zci i))],[(0,(.sl 3 [TI] true out))],1⟩
theorem QpV (a:List Int) (b:List Int) (sat:Bool) (i:Int) (out:List Int) (h :
 (zif ((decide (i<(a.length:Int)))&&(ZI a b)) ((((0:Int)≤i∧Int.toNat i<a.length)∧((0:Int)≤i∧Int.toNat i<b.length))∧(((out.length=out.length∨out.length+1≤out.length)∧out.length+1≤big)∧(Qhf K a b (sat||((Q4 (gtd (0:Int) a (Int.toNat i)) (gtd (0:Int) b (Int.toNat i))).2)) (w64 (i+(1:Int))) (List.take (out.length+1) ((List.take out.length out)++([(Q4 (gtd (0:Int) a (Int.toNat i)) (gtd (0:Int) b (Int.toNat i))).1])))))) (K (Qdh ((List.take out.length (List.drop 0 out)),sat))))):Qhf K a b sat i out :=
 Loop.of (by kernel_rfl) h
theorem QNB (a:List Int) (b:List Int) (h :
 (Qhf K a b false 0 ([]:List Int))):Hold (tawp QoG (0+0) QZc (TQ 0 0 QAP K) (Qh [(.c (.sl [TI]) a),(.c (.sl [TI]) b)])) :=
 Hold.of (by kernel_rfl) h
theorem QGt (a:List Int) (b:List Int):TCon Tryz.prog 226 [(.c (.sl [TI]) a),(.c (.sl [TI]) b)] (Qdh (Zm a b)):=by
 refine Qo rfl fun hb=>tcg (n:=45) (sg:=Qg4.sg) Ql (TOk.cons QgH (TOk.cons Qfs TOk.nil)) (by kernel_rfl) (by kernel_rfl) (QNB _ a b ?_)
 have hl_a:a.length≤9223372036854775807:=hb.1.1
 have hl_b:b.length≤9223372036854775807:=hb.2.1.1
 by_cases hp:ZI a b=true
 rotate_left
 ·refine QpV (fun r'=>r'=Qdh (Zm a b)) a b _ _ _ ⟨fun h=>by simp [hp] at h,fun _=>R_eq (by unfold Zm;rw [if_neg hp];rfl)⟩
 have hl:=JQ.1 hp
 have h6:=(ZZ.1 hl.1).1
 refine Zj a (fun r k=>∀ (v:List Int) (s:Bool),v.length=k→(v++(vz Q4 r (b.drop k)).1,s||(vz Q4 r (b.drop k)).2)=(Zm a b)→Qhf (fun r'=>r'=Qdh (Zm a b)) a b s k v) ?_ ?_ [] false rfl (by unfold Zm;rw [if_pos hp];simp)
 ·intro v s hv he
  refine QpV (fun r'=>r'=Qdh (Zm a b)) a b _ _ _ ⟨fun h=>by simp at h,fun _=>R_eq ?_⟩
  rw [← he];simp [vz]
 ·intro k x r hk hlt hg ih v s hv he
  obtain ⟨y,q,hq⟩:=Jn (l:=b) (k:=k) (by omega)
  refine QpV (fun r'=>r'=Qdh (Zm a b)) a b _ _ _ ⟨fun _=>?_,fun h=>by simp [hp] at h;omega⟩
  rw [Int.toNat_natCast,hg,Yb hq,sc1 (by omega),Za]
  refine ⟨⟨⟨by omega,hlt⟩,by omega,by omega⟩,room (by omega),ih _ _ (YM hv) ?_⟩
  rw [← he,hq,vz,ZY hq]
  simp [Bool.or_assoc]
theorem QBO:Qi Tryz.prog Qg4:=Qm fun x _=>QGt x.1 x.2.1
def Qdf (t:(List Int) × Bool):TRes:=zra (.tp [(zcs [TI] t.1),(zcb t.2)])
def Qhs:TRow:=Qj 124 [(.c (.sl [TI])),(.c (.sl [TI]))] fun x=>(none,Qdf (Zg x.1 x.2.1))
def QmC:List TRow:=[Qed,QmY]
def QET:TCode :=
 (zsq [(.reg [zbi 19 .lss 18 17]),(.cond 19 .skip (.exit 0)),(.block 1 (zsq [(.reg [zmv 20 18,zmv 8 20]),(.draw [zmv 22 0,zmv 23 8,zia 24 22 23 [TI],zld 25 24 1,zmv 26 1,zmv 27 8,zia 28 26 27 [TI],zld 29 28 1,zca 30 192 [25,29],zmv 21 30,zex 31 21 0,zex 32 21 1,zmv 9 31,zmv 10 32] []),(.reg [zmv 33 6,zmv 34 9,zop 35 (.bsl 3 [TI] [34]),zop 36 (.app 33 35 3 [TI]),zmv 6 36]),(.reg [zmv 37 7,zmv 38 37,.grp 38 false [zmv 39 10] 40 39,zmv 7 40])])),(.reg [zbi 41 .add 18 (zki 1),zmv 18 41])])
def Qyb:List (Nat × Md):=[(0,.one .d),(1,.one .d),(6,.one .f),(7,.one .d),(17,.one .d),(18,.one .d)]
def QCY:TCode :=
 (zsq [(.reg [zmv 42 6,zmv 43 7,zmv 4 42,zmv 5 43]),.ret])
def QHH:TCode :=
 (zsq [(.reg [zmv 4 (.k (.n [TI])),zmv 5 (zkb false)]),(zsq [(.reg [zmv 11 0,zmv 12 1,zca 13 191 [11,12],zno 14 13]),(.cond 14 (zsq [(.reg [zmv 4 (.k (.n [TI])),zmv 5 (zkb false)]),.ret]) .skip)]),(.reg [zop 15 (.bsl 3 [TI] []),zmv 6 15]),(.reg [zmv 7 (zkb false)]),(zsq [(.reg [zmv 16 0,zle 17 16,zmv 18 (zki 0)]),(.block 0 (.loop Qyb QET))]),QCY])
def QDU:List (ARv × Md):=[(.t 4,.one .d),(.t 5,.one .d)]
def Quc:Qb:=TQ 0 0 QDU K
def QRk:Qb:=Qseq (tawp QmC 0 QCY (Quc K)) (Quc K)
def QJm:Qb:=Qblk 0 (QRk K)
def QhM (a:List Int) (b:List Int) (out:Bool) (x:Int) (v:List Int):Prop:=Loop QmC 0 Qyb QET (QJm K) ⟨[(0,(zcs [TI] a)),(1,(zcs [TI] b)),(6,(.r [TI] 0 0 v.length)),(7,(zcb out)),(17,(zci (a.length:Int))),(18,(zci x))],[(0,(.sl 3 [TI] true v))],1⟩
theorem QCV (a:List Int) (b:List Int) (out:Bool) (x:Int) (v:List Int) (h :
 (zif (decide (x<(a.length:Int))) ((((0:Int)≤x∧Int.toNat x<a.length)∧((0:Int)≤x∧Int.toNat x<b.length))∧(((v.length=v.length∨v.length+1≤v.length)∧v.length+1≤big)∧(QhM K a b (out||((JF (gtd (0:Int) a (Int.toNat x)) (gtd (0:Int) b (Int.toNat x))).2)) (w64 (x+(1:Int))) (List.take (v.length+1) ((List.take v.length v)++([(JF (gtd (0:Int) a (Int.toNat x)) (gtd (0:Int) b (Int.toNat x))).1])))))) (K (Qdf ((List.take v.length (List.drop 0 v)),out))))):QhM K a b out x v :=
 Loop.of (by kernel_rfl) h
theorem QQQ (a:List Int) (b:List Int) (h :
 (zif (!(ZI a b)) (K (Qdf ([],false))) (QhM K a b false 0 ([]:List Int)))):Hold (tawp QmC (0+0) QHH (TQ 0 0 QDU K) (Qh [(.c (.sl [TI]) a),(.c (.sl [TI]) b)])) :=
 Hold.of (by kernel_rfl) h
theorem QPE (a:List Int) (b:List Int):TCon Tryz.prog 124 [(.c (.sl [TI]) a),(.c (.sl [TI]) b)] (Qdf (Zg a b)):=by
 refine Qo rfl fun hb=>tcg (n:=44) (sg:=Qhs.sg) Ql (TOk.cons Qii (TOk.cons QHj TOk.nil)) (by kernel_rfl) (by kernel_rfl) (QQQ _ a b ?_)
 have hl_a:a.length≤9223372036854775807:=hb.1.1
 have hl_b:b.length≤9223372036854775807:=hb.2.1.1
 refine ⟨fun h=>R_eq (by unfold Zg;rw [if_neg (by simpa using h)]),fun h=>?_⟩
 have hp:ZI a b=true:=by simpa using h
 have hl:=JQ.1 hp
 have h6:=(ZZ.1 hl.1).1
 refine Zj a (fun r k=>∀ (v:List Int) (s:Bool),v.length=k→(v++(vz JF r (b.drop k)).1,s||(vz JF r (b.drop k)).2)=(Zg a b)→QhM (fun r'=>r'=Qdf (Zg a b)) a b s k v) ?_ ?_ [] false rfl (by unfold Zg;rw [if_pos hp];simp)
 ·intro v s hv he
  refine QCV (fun r'=>r'=Qdf (Zg a b)) a b _ _ _ ⟨fun h=>by simp at h,fun _=>R_eq ?_⟩
  rw [← he];simp [vz]
 ·intro k x r hk hlt hg ih v s hv he
  obtain ⟨y,q,hq⟩:=Jn (l:=b) (k:=k) (by omega)
  refine QCV (fun r'=>r'=Qdf (Zg a b)) a b _ _ _ ⟨fun _=>?_,fun h=>by simp at h;omega⟩
  rw [Int.toNat_natCast,hg,Yb hq,sc1 (by omega),Za]
  refine ⟨⟨⟨by omega,hlt⟩,by omega,by omega⟩,room (by omega),ih _ _ (YM hv) ?_⟩
  rw [← he,hq,vz,ZY hq]
  simp [Bool.or_assoc]
theorem Qu7:Qi Tryz.prog Qhs:=Qm fun x _=>QPE x.1 x.2.1
def Qdx (t:(List Int) × Bool):TRes:=zra (.tp [(zcs [TI] t.1),(zcb t.2)])
def Qir:TRow:=Qj 165 [(.c (.sl [TI])),(.c (.sl [TI]))] fun x=>(none,Qdx (Zg x.1 x.2.1))
def Qmt:List TRow:=[Qex,Qld]
def QA6:TCode :=
 (zsq [(zsq [(.reg [zmv 12 8,zmv 13 0,zle 14 13,zbi 15 .lss 12 14,zmv 16 15,.grp 16 true [zmv 17 0,zmv 18 1,zca 19 207 [17,18]] 20 19]),(.cond 20 .skip (.exit 0))]),(.block 1 (zsq [(.draw [zmv 24 0,zmv 25 8,zia 26 24 25 [TI],zld 27 26 1,zmv 28 1,zmv 29 8,zia 30 28 29 [TI],zld 31 30 1,zca 32 208 [27,31],zmv 23 32,zex 33 23 0,zex 34 23 1,zmv 9 33,zmv 10 34] []),(.reg [zmv 35 6,zmv 36 9,zop 37 (.bsl 3 [TI] [36]),zop 38 (.app 35 37 3 [TI]),zmv 6 38]),(.reg [zmv 39 7,zmv 40 39,.grp 40 false [zmv 41 10] 42 41,zmv 7 42])])),(.reg [zmv 21 8,zbi 22 .add 21 (zki 1),zmv 8 22])])
def QxU:List (Nat × Md):=[(0,.one .d),(1,.one .d),(6,.one .f),(7,.one .d),(8,.one .d)]
def QuP:TCode :=
 (zsq [(.reg [zmv 43 6,zmv 44 7,zmv 4 43,zmv 5 44]),.ret])
def QPC:TCode :=
 (zsq [(.reg [zmv 4 (.k (.n [TI])),zmv 5 (zkb false)]),(.reg [zop 11 (.bsl 3 [TI] []),zmv 6 11]),(.reg [zmv 7 (zkb false)]),(zsq [(.reg [zmv 8 (zki 0)]),(.block 0 (.loop QxU QA6))]),QuP])
def QwX:List (ARv × Md):=[(.t 4,.one .d),(.t 5,.one .d)]
def QDS:Qb:=TQ 0 0 QwX K
def QME:Qb:=Qseq (tawp Qmt 0 QuP (QDS K)) (QDS K)
def QGH:Qb:=Qblk 0 (QME K)
def Qkx (a:List Int) (b:List Int) (sat:Bool) (i:Int) (out:List Int):Prop:=Loop Qmt 0 QxU QA6 (QGH K) ⟨[(0,(zcs [TI] a)),(1,(zcs [TI] b)),(6,(.r [TI] 0 0 out.length)),(7,(zcb sat)),(8,(zci i))],[(0,(.sl 3 [TI] true out))],1⟩
theorem Qpg (a:List Int) (b:List Int) (sat:Bool) (i:Int) (out:List Int) (h :
 (zif ((decide (i<(a.length:Int)))&&(ZI a b)) ((((0:Int)≤i∧Int.toNat i<a.length)∧((0:Int)≤i∧Int.toNat i<b.length))∧(((out.length=out.length∨out.length+1≤out.length)∧out.length+1≤big)∧(Qkx K a b (sat||((JF (gtd (0:Int) a (Int.toNat i)) (gtd (0:Int) b (Int.toNat i))).2)) (w64 (i+(1:Int))) (List.take (out.length+1) ((List.take out.length out)++([(JF (gtd (0:Int) a (Int.toNat i)) (gtd (0:Int) b (Int.toNat i))).1])))))) (K (Qdx ((List.take out.length (List.drop 0 out)),sat))))):Qkx K a b sat i out :=
 Loop.of (by kernel_rfl) h
theorem QIl (a:List Int) (b:List Int) (h :
 (Qkx K a b false 0 ([]:List Int))):Hold (tawp Qmt (0+0) QPC (TQ 0 0 QwX K) (Qh [(.c (.sl [TI]) a),(.c (.sl [TI]) b)])) :=
 Hold.of (by kernel_rfl) h
theorem QXB (a:List Int) (b:List Int):TCon Tryz.prog 165 [(.c (.sl [TI]) a),(.c (.sl [TI]) b)] (Qdx (Zg a b)):=by
 refine Qo rfl fun hb=>tcg (n:=45) (sg:=Qir.sg) Ql (TOk.cons QgH (TOk.cons QRL TOk.nil)) (by kernel_rfl) (by kernel_rfl) (QIl _ a b ?_)
 have hl_a:a.length≤9223372036854775807:=hb.1.1
 have hl_b:b.length≤9223372036854775807:=hb.2.1.1
 by_cases hp:ZI a b=true
 rotate_left
 ·refine Qpg (fun r'=>r'=Qdx (Zg a b)) a b _ _ _ ⟨fun h=>by simp [hp] at h,fun _=>R_eq (by unfold Zg;rw [if_neg hp];rfl)⟩
 have hl:=JQ.1 hp
 have h6:=(ZZ.1 hl.1).1
 refine Zj a (fun r k=>∀ (v:List Int) (s:Bool),v.length=k→(v++(vz JF r (b.drop k)).1,s||(vz JF r (b.drop k)).2)=(Zg a b)→Qkx (fun r'=>r'=Qdx (Zg a b)) a b s k v) ?_ ?_ [] false rfl (by unfold Zg;rw [if_pos hp];simp)
 ·intro v s hv he
  refine Qpg (fun r'=>r'=Qdx (Zg a b)) a b _ _ _ ⟨fun h=>by simp at h,fun _=>R_eq ?_⟩
  rw [← he];simp [vz]
 ·intro k x r hk hlt hg ih v s hv he
  obtain ⟨y,q,hq⟩:=Jn (l:=b) (k:=k) (by omega)
  refine Qpg (fun r'=>r'=Qdx (Zg a b)) a b _ _ _ ⟨fun _=>?_,fun h=>by simp [hp] at h;omega⟩
  rw [Int.toNat_natCast,hg,Yb hq,sc1 (by omega),Za]
  refine ⟨⟨⟨by omega,hlt⟩,by omega,by omega⟩,room (by omega),ih _ _ (YM hv) ?_⟩
  rw [← he,hq,vz,ZY hq]
  simp [Bool.or_assoc]
theorem QDe:Qi Tryz.prog Qir:=Qm fun x _=>QXB x.1 x.2.1
def QcA (t:(List Int) × Bool):TRes:=zra (.tp [(zcs [TI] t.1),(zcb t.2)])
def Qkb:TRow:=Qj 214 [(.c TI),(.c (.sl [TI]))] fun x=>(none,QcA (ZC x.1 x.2.1))
def Qqs:List TRow:=[Qe1,Qbg,QfA]
def QzP:TCode :=
 (zsq [(.reg [zbi 23 .lss 22 21]),(.cond 23 .skip (.exit 0)),(.block 1 (zsq [(.reg [zmv 24 22,zmv 8 24]),(.reg [zmv 26 0,zmv 27 1,zmv 28 8,zia 29 27 28 [TI],zld 30 29 1,zca 31 216 [26,30],zmv 25 31,zex 32 25 0,zex 33 25 1,zmv 9 32,zmv 10 33]),(.reg [zmv 34 6,zmv 35 9,zop 36 (.bsl 3 [TI] [35]),zop 37 (.app 34 36 3 [TI]),zmv 6 37]),(.reg [zmv 38 7,zmv 39 38,.grp 39 false [zmv 40 10] 41 40,zmv 7 41])])),(.reg [zbi 42 .add 22 (zki 1),zmv 22 42])])
def Qz5:List (Nat × Md):=[(0,.one .d),(1,.one .d),(6,.one .f),(7,.one .d),(21,.one .d),(22,.one .d)]
def QrQ:TCode :=
 (zsq [(.reg [zmv 43 6,zmv 44 7,zmv 4 43,zmv 5 44]),.ret])
def QHI:TCode :=
 (zsq [(.reg [zmv 4 (.k (.n [TI])),zmv 5 (zkb false)]),(zsq [(.reg [zmv 11 0,zca 12 217 [11],zno 13 12,zmv 14 13,.grp 14 false [zmv 15 1,zca 16 134 [15],zno 17 16] 18 17]),(.cond 18 (zsq [(.reg [zmv 4 (.k (.n [TI])),zmv 5 (zkb false)]),.ret]) .skip)]),(.reg [zop 19 (.bsl 3 [TI] []),zmv 6 19]),(.reg [zmv 7 (zkb false)]),(zsq [(.reg [zmv 20 1,zle 21 20,zmv 22 (zki 0)]),(.block 0 (.loop Qz5 QzP))]),QrQ])
def QCy:List (ARv × Md):=[(.t 4,.one .d),(.t 5,.one .d)]
def QvH:Qb:=TQ 0 0 QCy K
def QW4:Qb:=Qseq (tawp Qqs 0 QrQ (QvH K)) (QvH K)
def QMK:Qb:=Qblk 0 (QW4 K)
def Qkd (c:Int) (a:List Int) (out:Bool) (x:Int) (v:List Int):Prop:=Loop Qqs 0 Qz5 QzP (QMK K) ⟨[(0,(zci c)),(1,(zcs [TI] a)),(6,(.r [TI] 0 0 v.length)),(7,(zcb out)),(21,(zci (a.length:Int))),(22,(zci x))],[(0,(.sl 3 [TI] true v))],1⟩
theorem Qt3 (c:Int) (a:List Int) (out:Bool) (x:Int) (v:List Int) (h :
 (zif (decide (x<(a.length:Int))) (((0:Int)≤x∧Int.toNat x<a.length)∧(((v.length=v.length∨v.length+1≤v.length)∧v.length+1≤big)∧(Qkd K c a (out||((Zp c (gtd (0:Int) a (Int.toNat x))).2)) (w64 (x+(1:Int))) (List.take (v.length+1) ((List.take v.length v)++([(Zp c (gtd (0:Int) a (Int.toNat x))).1])))))) (K (QcA ((List.take v.length (List.drop 0 v)),out))))):Qkd K c a out x v :=
 Loop.of (by kernel_rfl) h
theorem QT8 (c:Int) (a:List Int) (h :
 (zif ((!(Zb c))||(!(QK a))) (K (QcA ([],false))) (Qkd K c a false 0 ([]:List Int)))):Hold (tawp Qqs (0+0) QHI (TQ 0 0 QCy K) (Qh [(.c TI c),(.c (.sl [TI]) a)])) :=
 Hold.of (by kernel_rfl) h
theorem QVY (c:Int) (a:List Int):TCon Tryz.prog 214 [(.c TI c),(.c (.sl [TI]) a)] (QcA (ZC c a)):=by
 refine Qo rfl fun hb=>tcg (n:=45) (sg:=Qkb.sg) Ql (TOk.cons Qno (TOk.cons QcB (TOk.cons QlX TOk.nil))) (by kernel_rfl) (by kernel_rfl) (QT8 _ c a ?_)
 have hl_a:a.length≤9223372036854775807:=hb.2.1.1
 refine ⟨fun h=>R_eq (by unfold ZC;rw [if_neg (by intro h2;simp at h2;simp [h2] at h)]),fun h=>?_⟩
 have hp:Zb c=true∧QK a=true:=by simpa using h
 have h6:=(ZZ.1 hp.2).1
 refine Zj a (fun r k=>∀ (v:List Int) (s:Bool),v.length=k→(v++(v1 (Zp c) r).1,s||(v1 (Zp c) r).2)=(ZC c a)→Qkd (fun r'=>r'=QcA (ZC c a)) c a s k v) ?_ ?_ [] false rfl (by unfold ZC;rw [if_pos (by simp [hp])];simp)
 ·intro v s hv he
  refine Qt3 (fun r'=>r'=QcA (ZC c a)) c a _ _ _ ⟨fun h=>by simp at h,fun _=>R_eq ?_⟩
  rw [← he];simp [v1]
 ·intro k x r hk hlt hg ih v s hv he
  refine Qt3 (fun r'=>r'=QcA (ZC c a)) c a _ _ _ ⟨fun _=>?_,fun h=>by simp at h;omega⟩
  rw [Int.toNat_natCast,hg,sc1 (by omega),Za]
  refine ⟨⟨by omega,hlt⟩,room (by omega),ih _ _ (YM hv) ?_⟩
  rw [← he,v1]
  simp [Bool.or_assoc]
theorem Qua:Qi Tryz.prog Qkb:=Qm fun x _=>QVY x.1 x.2.1
def Qdr (t:(List Int) × Bool):TRes:=zra (.tp [(zcs [TI] t.1),(zcb t.2)])
def Qj9:TRow:=Qj 228 [(.c TI),(.c (.sl [TI]))] fun x=>(none,Qdr (ZC x.1 x.2.1))
def Ql1:List TRow:=[Y6,Qen,QeZ]
def QE3:TCode :=
 (zsq [(zsq [(.reg [zmv 12 8,zmv 13 1,zle 14 13,zbi 15 .lss 12 14,zmv 16 15,.grp 16 true [zmv 17 1,zca 18 42 [17]] 19 18,zmv 20 19,.grp 20 true [zmv 21 0,zca 22 110 [21]] 23 22]),(.cond 23 .skip (.exit 0))]),(.block 1 (zsq [(.reg [zmv 27 0,zmv 28 1,zmv 29 8,zia 30 28 29 [TI],zld 31 30 1,zca 32 229 [27,31],zmv 26 32,zex 33 26 0,zex 34 26 1,zmv 9 33,zmv 10 34]),(.reg [zmv 35 6,zmv 36 9,zop 37 (.bsl 3 [TI] [36]),zop 38 (.app 35 37 3 [TI]),zmv 6 38]),(.reg [zmv 39 7,zmv 40 39,.grp 40 false [zmv 41 10] 42 41,zmv 7 42])])),(.reg [zmv 24 8,zbi 25 .add 24 (zki 1),zmv 8 25])])
def QDK:List (Nat × Md):=[(0,.one .d),(1,.one .d),(6,.one .f),(7,.one .d),(8,.one .d)]
def Qyy:TCode :=
 (zsq [(.reg [zmv 43 6,zmv 44 7,zmv 4 43,zmv 5 44]),.ret])
def QZz:TCode :=
 (zsq [(.reg [zmv 4 (.k (.n [TI])),zmv 5 (zkb false)]),(.reg [zop 11 (.bsl 3 [TI] []),zmv 6 11]),(.reg [zmv 7 (zkb false)]),(zsq [(.reg [zmv 8 (zki 0)]),(.block 0 (.loop QDK QE3))]),Qyy])
def QE1:List (ARv × Md):=[(.t 4,.one .d),(.t 5,.one .d)]
def QyA:Qb:=TQ 0 0 QE1 K
def QR3:Qb:=Qseq (tawp Ql1 0 Qyy (QyA K)) (QyA K)
def QTR:Qb:=Qblk 0 (QR3 K)
def Qjh (c:Int) (a:List Int) (sat:Bool) (i:Int) (out:List Int):Prop:=Loop Ql1 0 QDK QE3 (QTR K) ⟨[(0,(zci c)),(1,(zcs [TI] a)),(6,(.r [TI] 0 0 out.length)),(7,(zcb sat)),(8,(zci i))],[(0,(.sl 3 [TI] true out))],1⟩
theorem Qoq (c:Int) (a:List Int) (sat:Bool) (i:Int) (out:List Int) (h :
 (zif (((decide (i<(a.length:Int)))&&(QK a))&&(Zb c)) (((0:Int)≤i∧Int.toNat i<a.length)∧(((out.length=out.length∨out.length+1≤out.length)∧out.length+1≤big)∧(Qjh K c a (sat||((Zp c (gtd (0:Int) a (Int.toNat i))).2)) (w64 (i+(1:Int))) (List.take (out.length+1) ((List.take out.length out)++([(Zp c (gtd (0:Int) a (Int.toNat i))).1])))))) (K (Qdr ((List.take out.length (List.drop 0 out)),sat))))):Qjh K c a sat i out :=
 Loop.of (by kernel_rfl) h
theorem QPi (c:Int) (a:List Int) (h :
 (Qjh K c a false 0 ([]:List Int))):Hold (tawp Ql1 (0+0) QZz (TQ 0 0 QE1 K) (Qh [(.c TI c),(.c (.sl [TI]) a)])) :=
 Hold.of (by kernel_rfl) h
theorem QWA (c:Int) (a:List Int):TCon Tryz.prog 228 [(.c TI c),(.c (.sl [TI]) a)] (Qdr (ZC c a)):=by
 refine Qo rfl fun hb=>tcg (n:=45) (sg:=Qj9.sg) Ql (TOk.cons Jp (TOk.cons Qhr (TOk.cons QqW TOk.nil))) (by kernel_rfl) (by kernel_rfl) (QPi _ c a ?_)
 have hl_a:a.length≤9223372036854775807:=hb.2.1.1
 by_cases hp:Zb c=true∧QK a=true
 rotate_left
 ·refine Qoq (fun r'=>r'=Qdr (ZC c a)) c a _ _ _ ⟨fun h=>absurd (by simp at h;exact ⟨h.2,h.1.2⟩) hp,fun _=>R_eq (by unfold ZC;rw [if_neg (by simpa using hp)];rfl)⟩
 have h6:=(ZZ.1 hp.2).1
 refine Zj a (fun r k=>∀ (v:List Int) (s:Bool),v.length=k→(v++(v1 (Zp c) r).1,s||(v1 (Zp c) r).2)=(ZC c a)→Qjh (fun r'=>r'=Qdr (ZC c a)) c a s k v) ?_ ?_ [] false rfl (by unfold ZC;rw [if_pos (by simp [hp])];simp)
 ·intro v s hv he
  refine Qoq (fun r'=>r'=Qdr (ZC c a)) c a _ _ _ ⟨fun h=>by simp at h,fun _=>R_eq ?_⟩
  rw [← he];simp [v1]
 ·intro k x r hk hlt hg ih v s hv he
  refine Qoq (fun r'=>r'=Qdr (ZC c a)) c a _ _ _ ⟨fun _=>?_,fun h=>by simp [hp] at h;omega⟩
  rw [Int.toNat_natCast,hg,sc1 (by omega),Za]
  refine ⟨⟨by omega,hlt⟩,room (by omega),ih _ _ (YM hv) ?_⟩
  rw [← he,v1]
  simp [Bool.or_assoc]
theorem QAG:Qi Tryz.prog Qj9:=Qm fun x _=>QWA x.1 x.2.1
def Qc2 (t:Int × Bool):TRes:=zre (.tp [(zci t.1),(zcb t.2)])
def Qgp:TRow:=Qj 188 [(.c (.sl [TI])),(.c (.sl [TI]))] fun x=>(none,Qc2 (Q1 x.1 x.2.1))
def QnR:List TRow:=[Qed,QfA,Qd4]
def Qyz:TCode :=
 (zsq [(.reg [zbi 20 .lss 19 18]),(.cond 20 .skip (.exit 0)),(.block 1 (zsq [(.reg [zmv 21 19,zmv 8 21]),(.draw [zmv 23 0,zmv 24 8,zia 25 23 24 [TI],zld 26 25 1,zmv 27 1,zmv 28 8,zia 29 27 28 [TI],zld 30 29 1,zca 31 216 [26,30],zmv 22 31,zex 32 22 0,zex 33 22 1,zmv 9 32,zmv 10 33] []),(.reg [zmv 35 6,zmv 36 9,zca 37 121 [35,36],zmv 34 37,zex 38 34 0,zex 39 34 1,zmv 11 38,zmv 12 39]),(.reg [zmv 40 11,zmv 6 40]),(.reg [zmv 41 7,zmv 42 41,.grp 42 false [zmv 43 10] 44 43,zmv 45 44,.grp 45 false [zmv 46 12] 47 46,zmv 7 47])])),(.reg [zbi 48 .add 19 (zki 1),zmv 19 48])])
def QzV:List (Nat × Md):=zdl [0,1,6,7,18,19]
def QvL:TCode :=
 (zsq [(.reg [zmv 49 6,zmv 50 7,zmv 4 49,zmv 5 50]),.ret])
def QUi:TCode :=
 (zsq [(.reg [zmv 4 (zki 0),zmv 5 (zkb false)]),(zsq [(.reg [zmv 13 0,zmv 14 1,zca 15 191 [13,14],zno 16 15]),(.cond 16 (zsq [(.reg [zmv 4 (zki 0),zmv 5 (zkb false)]),.ret]) .skip)]),(.reg [zmv 6 (zki 0)]),(.reg [zmv 7 (zkb false)]),(zsq [(.reg [zmv 17 0,zle 18 17,zmv 19 (zki 0)]),(.block 0 (.loop QzV Qyz))]),QvL])
def Qvf:List (ARv × Md):=[(.t 4,.one .d),(.t 5,.one .d)]
def Qta:Qb:=TQ 0 0 Qvf K
def QII:Qb:=Qseq (tawp QnR 0 QvL (Qta K)) (Qta K)
def QLQ:Qb:=Qblk 0 (QII K)
def Qhm (a:List Int) (b:List Int) (sum:Int) (out:Bool) (x:Int):Prop:=Loop QnR 0 QzV Qyz (QLQ K) ⟨[(0,(zcs [TI] a)),(1,(zcs [TI] b)),(6,(zci sum)),(7,(zcb out)),(18,(zci (a.length:Int))),(19,(zci x))],[],0⟩
theorem QzA (a:List Int) (b:List Int) (sum:Int) (out:Bool) (x:Int) (h :
 (zif (decide (x<(a.length:Int))) ((((0:Int)≤x∧Int.toNat x<a.length)∧((0:Int)≤x∧Int.toNat x<b.length))∧(Qhm K a b ((Q4 sum ((Zp (gtd (0:Int) a (Int.toNat x)) (gtd (0:Int) b (Int.toNat x))).1)).1) ((out||((Zp (gtd (0:Int) a (Int.toNat x)) (gtd (0:Int) b (Int.toNat x))).2))||((Q4 sum ((Zp (gtd (0:Int) a (Int.toNat x)) (gtd (0:Int) b (Int.toNat x))).1)).2)) (w64 (x+(1:Int))))) (K (Qc2 (sum,out))))):Qhm K a b sum out x :=
 Loop.of (by kernel_rfl) h
theorem QV9 (a:List Int) (b:List Int) (h :
 (zif (!(ZI a b)) (K (Qc2 ((0:Int),false))) (Qhm K a b 0 false 0))):Hold (tawp QnR (0+0) QUi (TQ 0 0 Qvf K) (Qh [(.c (.sl [TI]) a),(.c (.sl [TI]) b)])) :=
 Hold.of (by kernel_rfl) h
theorem QSK (a:List Int) (b:List Int):TCon Tryz.prog 188 [(.c (.sl [TI]) a),(.c (.sl [TI]) b)] (Qc2 (Q1 a b)):=by
 refine Qo rfl fun hb=>tcg (n:=51) (sg:=Qgp.sg) Ql (TOk.cons Qii (TOk.cons QlX (TOk.cons QjY TOk.nil))) (by kernel_rfl) (by kernel_rfl) (QV9 _ a b ?_)
 have hl_a:a.length≤9223372036854775807:=hb.1.1
 have hl_b:b.length≤9223372036854775807:=hb.2.1.1
 refine ⟨fun h=>R_eq (by unfold Q1;rw [if_neg (by simpa using h)]),fun h=>?_⟩
 have hp:ZI a b=true:=by simpa using h
 have hl:=JQ.1 hp
 have h6:=(ZZ.1 hl.1).1
 refine Zj a (fun r k=>∀ (z:Int) (s:Bool),((Y7 r (b.drop k) z).1,s||(Y7 r (b.drop k) z).2)=(Q1 a b)→Qhm (fun r'=>r'=Qc2 (Q1 a b)) a b z s k) ?_ ?_ 0 false (by unfold Q1;rw [if_pos hp];simp)
 ·intro z s he
  refine QzA (fun r'=>r'=Qc2 (Q1 a b)) a b _ _ _ ⟨fun h=>by simp at h,fun _=>R_eq ?_⟩
  rw [← he];simp [Y7]
 ·intro k x r hk hlt hg ih z s he
  obtain ⟨y,q,hq⟩:=Jn (l:=b) (k:=k) (by omega)
  refine QzA (fun r'=>r'=Qc2 (Q1 a b)) a b _ _ _ ⟨fun _=>?_,fun h=>by simp at h;omega⟩
  rw [Int.toNat_natCast,hg,Yb hq,sc1 (by omega)]
  refine ⟨⟨⟨by omega,hlt⟩,by omega,by omega⟩,ih _ _ ?_⟩
  rw [← he,hq,Y7,ZY hq]
  simp [Bool.or_assoc]
theorem Qp1:Qi Tryz.prog Qgp:=Qm fun x _=>QSK x.1 x.2.1
def QcC (t:Int × Bool):TRes:=zre (.tp [(zci t.1),(zcb t.2)])
def QdN:TRow:=Qj 206 [(.c (.sl [TI])),(.c (.sl [TI]))] fun x=>(none,QcC (Q1 x.1 x.2.1))
def Qme:List TRow:=[Qex,QeZ,Qdi]
def Qs4:TCode :=
 (zsq [(zsq [(.reg [zmv 13 8,zmv 14 0,zle 15 14,zbi 16 .lss 13 15,zmv 17 16,.grp 17 true [zmv 18 0,zmv 19 1,zca 20 207 [18,19]] 21 20]),(.cond 21 .skip (.exit 0))]),(.block 1 (zsq [(.draw [zmv 25 0,zmv 26 8,zia 27 25 26 [TI],zld 28 27 1,zmv 29 1,zmv 30 8,zia 31 29 30 [TI],zld 32 31 1,zca 33 229 [28,32],zmv 24 33,zex 34 24 0,zex 35 24 1,zmv 9 34,zmv 10 35] []),(.reg [zmv 37 6,zmv 38 9,zca 39 162 [37,38],zmv 36 39,zex 40 36 0,zex 41 36 1,zmv 11 40,zmv 12 41]),(.reg [zmv 42 11,zmv 6 42]),(.reg [zmv 43 7,zmv 44 43,.grp 44 false [zmv 45 10] 46 45,zmv 47 46,.grp 47 false [zmv 48 12] 49 48,zmv 7 49])])),(.reg [zmv 22 8,zbi 23 .add 22 (zki 1),zmv 8 23])])
def QsK:List (Nat × Md):=zdl [0,1,6,7,8]
def QB3:TCode :=
 (zsq [(.reg [zmv 50 6,zmv 51 7,zmv 4 50,zmv 5 51]),.ret])
def QMn:TCode :=
 (zsq [(.reg [zmv 4 (zki 0),zmv 5 (zkb false)]),(.reg [zmv 6 (zki 0)]),(.reg [zmv 7 (zkb false)]),(zsq [(.reg [zmv 8 (zki 0)]),(.block 0 (.loop QsK Qs4))]),QB3])
def Qvl:List (ARv × Md):=[(.t 4,.one .d),(.t 5,.one .d)]
def QAo:Qb:=TQ 0 0 Qvl K
def QJk:Qb:=Qseq (tawp Qme 0 QB3 (QAo K)) (QAo K)
def QN6:Qb:=Qblk 0 (QJk K)
def Qha (a:List Int) (b:List Int) (sum:Int) (sat:Bool) (i:Int):Prop:=Loop Qme 0 QsK Qs4 (QN6 K) ⟨[(0,(zcs [TI] a)),(1,(zcs [TI] b)),(6,(zci sum)),(7,(zcb sat)),(8,(zci i))],[],0⟩
theorem Qnv (a:List Int) (b:List Int) (sum:Int) (sat:Bool) (i:Int) (h :
 (zif ((decide (i<(a.length:Int)))&&(ZI a b)) ((((0:Int)≤i∧Int.toNat i<a.length)∧((0:Int)≤i∧Int.toNat i<b.length))∧(Qha K a b ((Q4 sum ((Zp (gtd (0:Int) a (Int.toNat i)) (gtd (0:Int) b (Int.toNat i))).1)).1) ((sat||((Zp (gtd (0:Int) a (Int.toNat i)) (gtd (0:Int) b (Int.toNat i))).2))||((Q4 sum ((Zp (gtd (0:Int) a (Int.toNat i)) (gtd (0:Int) b (Int.toNat i))).1)).2)) (w64 (i+(1:Int))))) (K (QcC (sum,sat))))):Qha K a b sum sat i :=
 Loop.of (by kernel_rfl) h
theorem QKF (a:List Int) (b:List Int) (h :
 (Qha K a b 0 false 0)):Hold (tawp Qme (0+0) QMn (TQ 0 0 Qvl K) (Qh [(.c (.sl [TI]) a),(.c (.sl [TI]) b)])) :=
 Hold.of (by kernel_rfl) h
theorem QLF (a:List Int) (b:List Int):TCon Tryz.prog 206 [(.c (.sl [TI]) a),(.c (.sl [TI]) b)] (QcC (Q1 a b)):=by
 refine Qo rfl fun hb=>tcg (n:=52) (sg:=QdN.sg) Ql (TOk.cons QgH (TOk.cons QqW (TOk.cons Qfs TOk.nil))) (by kernel_rfl) (by kernel_rfl) (QKF _ a b ?_)
 have hl_a:a.length≤9223372036854775807:=hb.1.1
 have hl_b:b.length≤9223372036854775807:=hb.2.1.1
 by_cases hp:ZI a b=true
 rotate_left
 ·refine Qnv (fun r'=>r'=QcC (Q1 a b)) a b _ _ _ ⟨fun h=>by simp [hp] at h,fun _=>R_eq (by unfold Q1;rw [if_neg hp])⟩
 have hl:=JQ.1 hp
 have h6:=(ZZ.1 hl.1).1
 refine Zj a (fun r k=>∀ (z:Int) (s:Bool),((Y7 r (b.drop k) z).1,s||(Y7 r (b.drop k) z).2)=(Q1 a b)→Qha (fun r'=>r'=QcC (Q1 a b)) a b z s k) ?_ ?_ 0 false (by unfold Q1;rw [if_pos hp];simp)
 ·intro z s he
  refine Qnv (fun r'=>r'=QcC (Q1 a b)) a b _ _ _ ⟨fun h=>by simp at h,fun _=>R_eq ?_⟩
  rw [← he];simp [Y7]
 ·intro k x r hk hlt hg ih z s he
  obtain ⟨y,q,hq⟩:=Jn (l:=b) (k:=k) (by omega)
  refine Qnv (fun r'=>r'=QcC (Q1 a b)) a b _ _ _ ⟨fun _=>?_,fun h=>by simp [hp] at h;omega⟩
  rw [Int.toNat_natCast,hg,Yb hq,sc1 (by omega)]
  refine ⟨⟨⟨by omega,hlt⟩,by omega,by omega⟩,ih _ _ ?_⟩
  rw [← he,hq,Y7,ZY hq]
  simp [Bool.or_assoc]
theorem Qhb:Qi Tryz.prog QdN:=Qm fun x _=>QLF x.1 x.2.1
def QcP (t:(List Int)):TRes:=zra (zcs [TI] t)
def QpI:TRow:=Qj 215 [(.c (.sl [TI]))] fun x=>(none,QcP (Yo x.1))
def QpX:List TRow:=[Qbg,QoR]
def QD4:TCode :=
 (zsq [(.reg [zbi 13 .lss 12 11]),(.cond 13 .skip (.exit 0)),(.block 1 (zsq [(.reg [zia 14 10 12 [TI],zld 15 14 1,zmv 5 15]),(.reg [zmv 16 3,zmv 17 5,zca 18 234 [17],zop 19 (.bsl 3 [TI] [18]),zop 20 (.app 16 19 3 [TI]),zmv 3 20])])),(.reg [zbi 21 .add 12 (zki 1),zmv 12 21])])
def QvM:List (Nat × Md):=[(3,.one .f),(10,.one .d),(11,.one .d),(12,.one .d)]
def QwQ:TCode :=
 (zsq [(.reg [zmv 22 3,zmv 2 22]),.ret])
def QWk:TCode :=
 (zsq [(.reg [zmv 2 (.k (.n [TI]))]),(zsq [(.reg [zmv 6 0,zca 7 134 [6],zno 8 7]),(.cond 8 (zsq [(.reg [zmv 2 (.k (.n [TI]))]),.ret]) .skip)]),(.reg [zop 9 (.bsl 3 [TI] []),zmv 3 9]),(zsq [(.reg [zmv 10 0,zle 11 10,zmv 12 (zki 0)]),(.block 0 (.loop QvM QD4))]),QwQ])
def QsU:List (ARv × Md):=[(.t 2,.one .d)]
def QsD:Qb:=TQ 0 0 QsU K
def QQt:Qb:=Qseq (tawp QpX 0 QwQ (QsD K)) (QsD K)
def QIp:Qb:=Qblk 0 (QQt K)
def Qi7 (a:List Int) (x:Int) (v:List Int):Prop:=Loop QpX 0 QvM QD4 (QIp K) ⟨[(3,(.r [TI] 0 0 v.length)),(10,(zcs [TI] a)),(11,(zci (a.length:Int))),(12,(zci x))],[(0,(.sl 3 [TI] true v))],1⟩
theorem QDH (a:List Int) (x:Int) (v:List Int) (h :
 (zif (decide (x<(a.length:Int))) (((0:Int)≤x∧Int.toNat x<a.length)∧(((v.length=v.length∨v.length+1≤v.length)∧v.length+1≤big)∧(Qi7 K a (w64 (x+(1:Int))) (List.take (v.length+1) ((List.take v.length v)++([(Qai (gtd (0:Int) a (Int.toNat x)))])))))) (K (QcP (List.take v.length (List.drop 0 v)))))):Qi7 K a x v :=
 Loop.of (by kernel_rfl) h
theorem QPQ (a:List Int) (h :
 (zif (!(QK a)) (K (QcP ([]))) (Qi7 K a 0 ([]:List Int)))):Hold (tawp QpX (0+0) QWk (TQ 0 0 QsU K) (Qh [(.c (.sl [TI]) a)])) :=
 Hold.of (by kernel_rfl) h
theorem QVW (a:List Int):TCon Tryz.prog 215 [(.c (.sl [TI]) a)] (QcP (Yo a)):=by
 refine Qo rfl fun hb=>tcg (n:=23) (sg:=QpI.sg) Ql (TOk.cons QcB (TOk.cons QUl TOk.nil)) (by kernel_rfl) (by kernel_rfl) (QPQ _ a ?_)
 have hl_a:a.length≤9223372036854775807:=hb.1.1
 refine ⟨fun h=>R_eq (by unfold Yo;rw [if_neg (by simpa using h)]),fun h=>?_⟩
 have hp:QK a=true:=by simpa using h
 have h6:=(ZZ.1 hp).1
 refine Zj a (fun r k=>∀ (v:List Int),v.length=k→v++r.map Qai=(Yo a)→Qi7 (fun r'=>r'=QcP (Yo a)) a k v) ?_ ?_ [] rfl (by unfold Yo;rw [if_pos hp];simp)
 ·intro v hv he
  refine QDH (fun r'=>r'=QcP (Yo a)) a _ _ ⟨fun h=>by simp at h,fun _=>R_eq ?_⟩
  rw [← he];simp
 ·intro k x r hk hlt hg ih v hv he
  refine QDH (fun r'=>r'=QcP (Yo a)) a _ _ ⟨fun _=>?_,fun h=>by simp at h;omega⟩
  rw [Int.toNat_natCast,hg,sc1 (by omega),Za]
  refine ⟨⟨by omega,hlt⟩,room (by omega),ih _ (YM hv) ?_⟩
  rw [← he];simp
theorem QGw:Qi Tryz.prog QpI:=Qm fun x _=>QVW x.1
def QcU (t:(List Int)):TRes:=zra (zcs [TI] t)
def Qmy:TRow:=Qj 227 [(.c (.sl [TI]))] fun x=>(none,QcU (Yo x.1))
def Qov:List TRow:=[Y6,Qn0]
def QEz:TCode :=
 (zsq [(zsq [(.reg [zmv 6 4,zmv 7 0,zle 8 7,zbi 9 .lss 6 8,zmv 10 9,.grp 10 true [zmv 11 0,zca 12 42 [11]] 13 12]),(.cond 13 .skip (.exit 0))]),(.block 1 (.reg [zmv 16 3,zmv 17 0,zmv 18 4,zia 19 17 18 [TI],zld 20 19 1,zca 21 238 [20],zop 22 (.bsl 3 [TI] [21]),zop 23 (.app 16 22 3 [TI]),zmv 3 23])),(.reg [zmv 14 4,zbi 15 .add 14 (zki 1),zmv 4 15])])
def QC6:List (Nat × Md):=[(0,.one .d),(3,.one .f),(4,.one .d)]
def QsV:TCode :=
 (zsq [(.reg [zmv 24 3,zmv 2 24]),.ret])
def QHE:TCode :=
 (zsq [(.reg [zmv 2 (.k (.n [TI]))]),(.reg [zop 5 (.bsl 3 [TI] []),zmv 3 5]),(zsq [(.reg [zmv 4 (zki 0)]),(.block 0 (.loop QC6 QEz))]),QsV])
def QEJ:List (ARv × Md):=[(.t 2,.one .d)]
def QE9:Qb:=TQ 0 0 QEJ K
def QKv:Qb:=Qseq (tawp Qov 0 QsV (QE9 K)) (QE9 K)
def QHi:Qb:=Qblk 0 (QKv K)
def Qkc (a:List Int) (i:Int) (out:List Int):Prop:=Loop Qov 0 QC6 QEz (QHi K) ⟨[(0,(zcs [TI] a)),(3,(.r [TI] 0 0 out.length)),(4,(zci i))],[(0,(.sl 3 [TI] true out))],1⟩
theorem Qmq (a:List Int) (i:Int) (out:List Int) (h :
 (zif ((decide (i<(a.length:Int)))&&(QK a)) ((((0:Int)≤i∧Int.toNat i<a.length)∧((out.length=out.length∨out.length+1≤out.length)∧out.length+1≤big))∧(Qkc K a (w64 (i+(1:Int))) (List.take (out.length+1) ((List.take out.length out)++([(Qai (gtd (0:Int) a (Int.toNat i)))]))))) (K (QcU (List.take out.length (List.drop 0 out)))))):Qkc K a i out :=
 Loop.of (by kernel_rfl) h
theorem QFh (a:List Int) (h :
 (Qkc K a 0 ([]:List Int))):Hold (tawp Qov (0+0) QHE (TQ 0 0 QEJ K) (Qh [(.c (.sl [TI]) a)])) :=
 Hold.of (by kernel_rfl) h
theorem QGV (a:List Int):TCon Tryz.prog 227 [(.c (.sl [TI]) a)] (QcU (Yo a)):=by
 refine Qo rfl fun hb=>tcg (n:=25) (sg:=Qmy.sg) Ql (TOk.cons Jp (TOk.cons QOf TOk.nil)) (by kernel_rfl) (by kernel_rfl) (QFh _ a ?_)
 have hl_a:a.length≤9223372036854775807:=hb.1.1
 by_cases hp:QK a=true
 rotate_left
 ·refine Qmq (fun r'=>r'=QcU (Yo a)) a _ _ ⟨fun h=>by simp [hp] at h,fun _=>R_eq (by unfold Yo;rw [if_neg hp];rfl)⟩
 have h6:=(ZZ.1 hp).1
 refine Zj a (fun r k=>∀ (v:List Int),v.length=k→v++r.map Qai=(Yo a)→Qkc (fun r'=>r'=QcU (Yo a)) a k v) ?_ ?_ [] rfl (by unfold Yo;rw [if_pos hp];simp)
 ·intro v hv he
  refine Qmq (fun r'=>r'=QcU (Yo a)) a _ _ ⟨fun h=>by simp at h,fun _=>R_eq ?_⟩
  rw [← he];simp
 ·intro k x r hk hlt hg ih v hv he
  refine Qmq (fun r'=>r'=QcU (Yo a)) a _ _ ⟨fun _=>?_,fun h=>by simp [hp] at h;omega⟩
  rw [Int.toNat_natCast,hg,sc1 (by omega),Za]
  refine ⟨⟨⟨by omega,hlt⟩,room (by omega)⟩,ih _ (YM hv) ?_⟩
  rw [← he];simp
theorem QSk:Qi Tryz.prog Qmy:=Qm fun x _=>QGV x.1
def Qdk (t:(List Int)):TRes:=zra (zcs [TI] t)
def QnS:TRow:=Qj 220 [(.c (.sl [TI])),(.c (.sl [TI]))] fun x=>(none,Qdk (Yk x.1 x.2.1))
def QlJ:List TRow:=[Qed]
def Qxc:TCode :=
 (zsq [(.reg [zbi 15 .lss 14 13]),(.cond 15 .skip (.exit 0)),(.block 1 (zsq [(.reg [zmv 16 14,zmv 6 16]),(.reg [zmv 17 0,zmv 18 6,zia 19 17 18 [TI],zld 20 19 1,zbi 21 .gtr 20 (zki 0)]),(.cond 21 (.reg [zmv 22 5,zmv 23 1,zmv 24 6,zia 25 23 24 [TI],zld 26 25 1,zop 27 (.bsl 3 [TI] [26]),zop 28 (.app 22 27 3 [TI]),zmv 5 28]) (.reg [zmv 29 5,zop 30 (.bsl 3 [TI] [(zki 0)]),zop 31 (.app 29 30 3 [TI]),zmv 5 31]))])),(.reg [zbi 32 .add 14 (zki 1),zmv 14 32])])
def Qxl:List (Nat × Md):=[(0,.one .d),(1,.one .d),(5,.one .f),(13,.one .d),(14,.one .d)]
def QCr:TCode :=
 (zsq [(.reg [zmv 33 5,zmv 4 33]),.ret])
def QQZ:TCode :=
 (zsq [(.reg [zmv 4 (.k (.n [TI]))]),(zsq [(.reg [zmv 7 0,zmv 8 1,zca 9 191 [7,8],zno 10 9]),(.cond 10 (zsq [(.reg [zmv 4 (.k (.n [TI]))]),.ret]) .skip)]),(.reg [zop 11 (.bsl 3 [TI] []),zmv 5 11]),(zsq [(.reg [zmv 12 0,zle 13 12,zmv 14 (zki 0)]),(.block 0 (.loop Qxl Qxc))]),QCr])
def Qrq:List (ARv × Md):=[(.t 4,.one .d)]
def Qy2:Qb:=TQ 0 0 Qrq K
def QXz:Qb:=Qseq (tawp QlJ 0 QCr (Qy2 K)) (Qy2 K)
def QTH:Qb:=Qblk 0 (QXz K)
def Qfi (x:List Int) (d:List Int) (x1:Int) (v:List Int):Prop:=Loop QlJ 0 Qxl Qxc (QTH K) ⟨[(0,(zcs [TI] x)),(1,(zcs [TI] d)),(5,(.r [TI] 0 0 v.length)),(13,(zci (x.length:Int))),(14,(zci x1))],[(0,(.sl 3 [TI] true v))],1⟩
theorem QAH (x:List Int) (d:List Int) (x1:Int) (v:List Int) (h :
 (zif (decide (x1<(x.length:Int))) (((0:Int)≤x1∧Int.toNat x1<x.length)∧(zif (decide ((gtd (0:Int) x (Int.toNat x1))>(0:Int))) ((((0:Int)≤x1∧Int.toNat x1<d.length)∧((v.length=v.length∨v.length+1≤v.length)∧v.length+1≤big))∧(Qfi K x d (w64 (x1+(1:Int))) (List.take (v.length+1) ((List.take v.length v)++([(gtd (0:Int) d (Int.toNat x1))]))))) (((v.length=v.length∨v.length+1≤v.length)∧v.length+1≤big)∧(Qfi K x d (w64 (x1+(1:Int))) (List.take (v.length+1) ((List.take v.length v)++([(0:Int)]))))))) (K (Qdk (List.take v.length (List.drop 0 v)))))):Qfi K x d x1 v :=
 Loop.of (by kernel_rfl) h
theorem QRF (x:List Int) (d:List Int) (h :
 (zif (!(ZI x d)) (K (Qdk ([]))) (Qfi K x d 0 ([]:List Int)))):Hold (tawp QlJ (0+0) QQZ (TQ 0 0 Qrq K) (Qh [(.c (.sl [TI]) x),(.c (.sl [TI]) d)])) :=
 Hold.of (by kernel_rfl) h
theorem QVJ (x:List Int) (d:List Int):TCon Tryz.prog 220 [(.c (.sl [TI]) x),(.c (.sl [TI]) d)] (Qdk (Yk x d)):=by
 refine Qo rfl fun hb=>tcg (n:=34) (sg:=QnS.sg) Ql (TOk.cons Qii TOk.nil) (by kernel_rfl) (by kernel_rfl) (QRF _ x d ?_)
 have hl_x:x.length≤9223372036854775807:=hb.1.1
 have hl_d:d.length≤9223372036854775807:=hb.2.1.1
 refine ⟨fun h=>R_eq (by unfold Yk;rw [if_neg (by simpa using h)]),fun h=>?_⟩
 have hp:ZI x d=true:=by simpa using h
 have hl:=JQ.1 hp
 have h6:=(ZZ.1 hl.1).1
 refine Zj x (fun r k=>∀ (v:List Int),v.length=k→v++List.zipWith (fun a b=>if 0<a then b else 0) r (d.drop k)=(Yk x d)→Qfi (fun r'=>r'=Qdk (Yk x d)) x d k v) ?_ ?_ [] rfl (by unfold Yk;rw [if_pos hp];simp)
 ·intro v hv he
  refine QAH (fun r'=>r'=Qdk (Yk x d)) x d _ _ ⟨fun h=>by simp at h,fun _=>R_eq ?_⟩
  rw [← he];simp
 ·intro k y r hk hlt hg ih v hv he
  obtain ⟨z,q,hq⟩:=Jn (l:=d) (k:=k) (by omega)
  refine QAH (fun r'=>r'=Qdk (Yk x d)) x d _ _ ⟨fun _=>?_,fun h=>by simp at h;omega⟩
  rw [Int.toNat_natCast,hg,Yb hq,sc1 (by omega),Za,Za]
  rw [hq,List.zipWith_cons_cons,← ZY hq] at he
  refine ⟨⟨by omega,hlt⟩,fun h=>⟨⟨⟨by omega,by omega⟩,room (by omega)⟩,ih _ (YM hv) ?_⟩,fun h=>⟨room (by omega),ih _ (YM hv) ?_⟩⟩
  ·rw [← he,if_pos (by simpa using h)];simp
  ·rw [← he,if_neg (by simpa using h)];simp
theorem QFT:Qi Tryz.prog QnS:=Qm fun x _=>QVJ x.1 x.2.1
def Qds (t:(List Int)):TRes:=zra (zcs [TI] t)
def QoJ:TRow:=Qj 230 [(.c (.sl [TI])),(.c (.sl [TI]))] fun x=>(none,Qds (Yk x.1 x.2.1))
def QnD:List TRow:=[Qex]
def QwL:TCode :=
 (zsq [(zsq [(.reg [zmv 8 6,zmv 9 0,zle 10 9,zbi 11 .lss 8 10,zmv 12 11,.grp 12 true [zmv 13 0,zmv 14 1,zca 15 207 [13,14]] 16 15]),(.cond 16 .skip (.exit 0))]),(.block 1 (zsq [(.reg [zmv 19 0,zmv 20 6,zia 21 19 20 [TI],zld 22 21 1,zbi 23 .gtr 22 (zki 0)]),(.cond 23 (.reg [zmv 24 5,zmv 25 1,zmv 26 6,zia 27 25 26 [TI],zld 28 27 1,zop 29 (.bsl 3 [TI] [28]),zop 30 (.app 24 29 3 [TI]),zmv 5 30]) (.reg [zmv 31 5,zop 32 (.bsl 3 [TI] [(zki 0)]),zop 33 (.app 31 32 3 [TI]),zmv 5 33]))])),(.reg [zmv 17 6,zbi 18 .add 17 (zki 1),zmv 6 18])])
def Qvm:List (Nat × Md):=[(0,.one .d),(1,.one .d),(5,.one .f),(6,.one .d)]
def QBx:TCode :=
 (zsq [(.reg [zmv 34 5,zmv 4 34]),.ret])
def QXc:TCode :=
 (zsq [(.reg [zmv 4 (.k (.n [TI]))]),(.reg [zop 7 (.bsl 3 [TI] []),zmv 5 7]),(zsq [(.reg [zmv 6 (zki 0)]),(.block 0 (.loop Qvm QwL))]),QBx])
def QAB:List (ARv × Md):=[(.t 4,.one .d)]
def QsH:Qb:=TQ 0 0 QAB K
def QI9:Qb:=Qseq (tawp QnD 0 QBx (QsH K)) (QsH K)
def QYJ:Qb:=Qblk 0 (QI9 K)
def Qgk (x:List Int) (d:List Int) (i:Int) (out:List Int):Prop:=Loop QnD 0 Qvm QwL (QYJ K) ⟨[(0,(zcs [TI] x)),(1,(zcs [TI] d)),(5,(.r [TI] 0 0 out.length)),(6,(zci i))],[(0,(.sl 3 [TI] true out))],1⟩
theorem QpQ (x:List Int) (d:List Int) (i:Int) (out:List Int) (h :
 (zif ((decide (i<(x.length:Int)))&&(ZI x d)) (((0:Int)≤i∧Int.toNat i<x.length)∧(zif (decide ((gtd (0:Int) x (Int.toNat i))>(0:Int))) ((((0:Int)≤i∧Int.toNat i<d.length)∧((out.length=out.length∨out.length+1≤out.length)∧out.length+1≤big))∧(Qgk K x d (w64 (i+(1:Int))) (List.take (out.length+1) ((List.take out.length out)++([(gtd (0:Int) d (Int.toNat i))]))))) (((out.length=out.length∨out.length+1≤out.length)∧out.length+1≤big)∧(Qgk K x d (w64 (i+(1:Int))) (List.take (out.length+1) ((List.take out.length out)++([(0:Int)]))))))) (K (Qds (List.take out.length (List.drop 0 out)))))):Qgk K x d i out :=
 Loop.of (by kernel_rfl) h
theorem QHP (x:List Int) (d:List Int) (h :
 (Qgk K x d 0 ([]:List Int))):Hold (tawp QnD (0+0) QXc (TQ 0 0 QAB K) (Qh [(.c (.sl [TI]) x),(.c (.sl [TI]) d)])) :=
 Hold.of (by kernel_rfl) h
theorem QPW (x:List Int) (d:List Int):TCon Tryz.prog 230 [(.c (.sl [TI]) x),(.c (.sl [TI]) d)] (Qds (Yk x d)):=by
 refine Qo rfl fun hb=>tcg (n:=35) (sg:=QoJ.sg) Ql (TOk.cons QgH TOk.nil) (by kernel_rfl) (by kernel_rfl) (QHP _ x d ?_)
 have hl_x:x.length≤9223372036854775807:=hb.1.1
 have hl_d:d.length≤9223372036854775807:=hb.2.1.1
 by_cases hp:ZI x d=true
 rotate_left
 ·refine QpQ (fun r'=>r'=Qds (Yk x d)) x d _ _ ⟨fun h=>by simp [hp] at h,fun _=>R_eq (by unfold Yk;rw [if_neg hp];rfl)⟩
 have hl:=JQ.1 hp
 have h6:=(ZZ.1 hl.1).1
 refine Zj x (fun r k=>∀ (v:List Int),v.length=k→v++List.zipWith (fun a b=>if 0<a then b else 0) r (d.drop k)=(Yk x d)→Qgk (fun r'=>r'=Qds (Yk x d)) x d k v) ?_ ?_ [] rfl (by unfold Yk;rw [if_pos hp];simp)
 ·intro v hv he
  refine QpQ (fun r'=>r'=Qds (Yk x d)) x d _ _ ⟨fun h=>by simp at h,fun _=>R_eq ?_⟩
  rw [← he];simp
 ·intro k y r hk hlt hg ih v hv he
  obtain ⟨z,q,hq⟩:=Jn (l:=d) (k:=k) (by omega)
  refine QpQ (fun r'=>r'=Qds (Yk x d)) x d _ _ ⟨fun _=>?_,fun h=>by simp [hp] at h;omega⟩
  rw [Int.toNat_natCast,hg,Yb hq,sc1 (by omega),Za,Za]
  rw [hq,List.zipWith_cons_cons,← ZY hq] at he
  refine ⟨⟨by omega,hlt⟩,fun h=>⟨⟨⟨by omega,by omega⟩,room (by omega)⟩,ih _ (YM hv) ?_⟩,fun h=>⟨room (by omega),ih _ (YM hv) ?_⟩⟩
  ·rw [← he,if_pos (by simpa using h)];simp
  ·rw [← he,if_neg (by simpa using h)];simp
theorem QXD:Qi Tryz.prog QoJ:=Qm fun x _=>QPW x.1 x.2.1
end
end Go.Proofs.YtjbdljkhbglnhaaGreat.Am

