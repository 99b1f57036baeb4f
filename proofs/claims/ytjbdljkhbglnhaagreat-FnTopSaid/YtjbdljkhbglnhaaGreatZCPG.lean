/- -/
import Derived.Test.YtjbdljkhbglnhaaGreatZCP1
import Derived.Test.YtjbdljkhbglnhaaGreatZCPF
namespace Go.Proofs.YtjbdljkhbglnhaaGreat.Am
open Go Go.RowKit Go.Proofs.YtjbdljkhbglnhaaGreat
set_option linter.all false
noncomputable section
variable (K:TRes→Prop)
def Qqj (t:Bool):TRes:=zre (zcb t)
def QeK:TRow:=Qf 191 [(.c (.sl [TI])),(.c (.sl [TI]))] fun x=>(none,Qqj (ZJ x.1 x.2.1))
def QI7:List TRow:=[Qbs,JO]
def QSl:TCode :=
 (zsq [(.reg [zmv 4 (zkb false)]),(.reg [zmv 5 0,zca 6 134 [5],zmv 7 6,.grp 7 true [zmv 8 1,zmv 9 0,zle 10 9,zca 11 114 [8,10]] 12 11,zmv 4 12]),.ret])
def QOb:List (ARv × Md):=[(.t 4,.one .d)]
theorem QV4 (a:List Int) (b:List Int) (h :
 K (Qqj ((QU a)&&(Qr b (a.length:Int))))):Hold (tawp QI7 (0+0) QSl (TQ 0 0 QOb K) (Qd [(.c (.sl [TI]) a),(.c (.sl [TI]) b)])) :=
 Hold.of (by kernel_rfl) h
theorem QNs (a:List Int) (b:List Int):TCon Tryz.prog 191 [(.c (.sl [TI]) a),(.c (.sl [TI]) b)] (Qqj (ZJ a b)):=by
 refine Qj rfl fun hb=>tcg (n:=13) (sg:=QeK.sg) Qg (TOk.cons QcE (TOk.cons Qav TOk.nil)) (by kernel_rfl) (by kernel_rfl) (QV4 _ a b ?_)
 have hl_a:a.length≤9223372036854775807:=hb.1.1
 have hl_b:b.length≤9223372036854775807:=hb.2.1.1
 exact R_eq rfl
theorem Qid:Qe Tryz.prog QeK:=Qh fun x _=>QNs x.1 x.2.1
def Qlq (t:Bool):TRes:=zre (zcb t)
def QdG:TRow:=Qf 207 [(.c (.sl [TI])),(.c (.sl [TI]))] fun x=>(none,Qlq (ZJ x.1 x.2.1))
def QVe:List TRow:=[Qar]
def QXS:TCode :=
 (zsq [(.reg [zmv 4 (zkb false)]),(.reg [zmv 5 0,zca 6 42 [5],zmv 7 6,.grp 7 true [zmv 8 1,zca 9 42 [8]] 10 9,zmv 11 10,.grp 11 true [zmv 12 0,zle 13 12,zmv 14 1,zle 15 14,zbi 16 .eql 13 15] 17 16,zmv 4 17]),.ret])
def QQh:List (ARv × Md):=[(.t 4,.one .d)]
theorem QJg (a:List Int) (b:List Int) (h :
 K (Qlq (((QU a)&&(QU b))&&((a.length:Int)==(b.length:Int))))):Hold (tawp QVe (0+0) QXS (TQ 0 0 QQh K) (Qd [(.c (.sl [TI]) a),(.c (.sl [TI]) b)])) :=
 Hold.of (by kernel_rfl) h
theorem QI6 (a:List Int) (b:List Int):TCon Tryz.prog 207 [(.c (.sl [TI]) a),(.c (.sl [TI]) b)] (Qlq (ZJ a b)):=by
 refine Qj rfl fun hb=>tcg (n:=18) (sg:=QdG.sg) Qg (TOk.cons Qbm TOk.nil) (by kernel_rfl) (by kernel_rfl) (QJg _ a b ?_)
 have hl_a:a.length≤9223372036854775807:=hb.1.1
 have hl_b:b.length≤9223372036854775807:=hb.2.1.1
 refine R_eq ?_
 rw [Bool.eq_iff_iff]
 unfold ZJ Qr
 simp only [Bool.and_eq_true,beq_iff_eq]
 constructor
 ·rintro ⟨⟨h1,h2⟩,h3⟩;exact ⟨h1,h2,by omega⟩
 ·rintro ⟨h1,h2,h3⟩;exact ⟨⟨h1,h2⟩,by omega⟩
theorem Qkl:Qe Tryz.prog QdG:=Qh fun x _=>QI6 x.1 x.2.1
def Qct (t:(List Int) × Bool):TRes:=zra (.tp [(zcs [TI] t.1),(zcb t.2)])
def Qku:TRow:=Qf 213 [(.c (.sl [TI])),(.c (.sl [TI]))] fun x=>(none,Qct (Zk x.1 x.2.1))
def Qoq:List TRow:=[QeK,QeH]
def QCL:TCode :=
 (zsq [(.reg [zbi 19 .lss 18 17]),(.cond 19 .skip (.exit 0)),(.block 1 (zsq [(.reg [zmv 20 18,zmv 8 20]),(.draw [zmv 22 0,zmv 23 8,zia 24 22 23 [TI],zld 25 24 1,zmv 26 1,zmv 27 8,zia 28 26 27 [TI],zld 29 28 1,zca 30 121 [25,29],zmv 21 30,zex 31 21 0,zex 32 21 1,zmv 9 31,zmv 10 32] []),(.reg [zmv 33 6,zmv 34 9,zop 35 (.bsl 3 [TI] [34]),zop 36 (.app 33 35 3 [TI]),zmv 6 36]),(.reg [zmv 37 7,zmv 38 37,.grp 38 false [zmv 39 10] 40 39,zmv 7 40])])),(.reg [zbi 41 .add 18 (zki 1),zmv 18 41])])
def QDu:List (Nat × Md):=[(0,.one .d),(1,.one .d),(6,.one .f),(7,.one .d),(17,.one .d),(18,.one .d)]
def QBd:TCode :=
 (zsq [(.reg [zmv 42 6,zmv 43 7,zmv 4 42,zmv 5 43]),.ret])
def QPP:TCode :=
 (zsq [(.reg [zmv 4 (.k (.n [TI])),zmv 5 (zkb false)]),(zsq [(.reg [zmv 11 0,zmv 12 1,zca 13 191 [11,12],zno 14 13]),(.cond 14 (zsq [(.reg [zmv 4 (.k (.n [TI])),zmv 5 (zkb false)]),.ret]) .skip)]),(.reg [zop 15 (.bsl 3 [TI] []),zmv 6 15]),(.reg [zmv 7 (zkb false)]),(zsq [(.reg [zmv 16 0,zle 17 16,zmv 18 (zki 0)]),(.block 0 (.loop QDu QCL))]),QBd])
def QuK:List (ARv × Md):=[(.t 4,.one .d),(.t 5,.one .d)]
def QDp:Qb:=TQ 0 0 QuK K
def QQe:Qb:=Qseq (tawp Qoq 0 QBd (QDp K)) (QDp K)
def QGf:Qb:=Qblk 0 (QQe K)
def QgQ (a:List Int) (b:List Int) (out:Bool) (x:Int) (v:List Int):Prop:=Loop Qoq 0 QDu QCL (QGf K) ⟨[(0,(zcs [TI] a)),(1,(zcs [TI] b)),(6,(.r [TI] 0 0 v.length)),(7,(zcb out)),(17,(zci (a.length:Int))),(18,(zci x))],[(0,(.sl 3 [TI] true v))],1⟩
theorem Qyi (a:List Int) (b:List Int) (out:Bool) (x:Int) (v:List Int) (h :
 (zif (decide (x<(a.length:Int))) ((((0:Int)≤x∧Int.toNat x<a.length)∧((0:Int)≤x∧Int.toNat x<b.length))∧(((v.length=v.length∨v.length+1≤v.length)∧v.length+1≤big)∧(QgQ K a b (out||((Q4 (gtd (0:Int) a (Int.toNat x)) (gtd (0:Int) b (Int.toNat x))).2)) (w64 (x+(1:Int))) (List.take (v.length+1) ((List.take v.length v)++([(Q4 (gtd (0:Int) a (Int.toNat x)) (gtd (0:Int) b (Int.toNat x))).1])))))) (K (Qct ((List.take v.length (List.drop 0 v)),out))))):QgQ K a b out x v :=
 Loop.of (by kernel_rfl) h
theorem QLS (a:List Int) (b:List Int) (h :
 (zif (!(ZJ a b)) (K (Qct ([],false))) (QgQ K a b false 0 ([]:List Int)))):Hold (tawp Qoq (0+0) QPP (TQ 0 0 QuK K) (Qd [(.c (.sl [TI]) a),(.c (.sl [TI]) b)])) :=
 Hold.of (by kernel_rfl) h
theorem QFR (a:List Int) (b:List Int):TCon Tryz.prog 213 [(.c (.sl [TI]) a),(.c (.sl [TI]) b)] (Qct (Zk a b)):=by
 refine Qj rfl fun hb=>tcg (n:=44) (sg:=Qku.sg) Qg (TOk.cons Qid (TOk.cons Qjs TOk.nil)) (by kernel_rfl) (by kernel_rfl) (QLS _ a b ?_)
 have hl_a:a.length≤9223372036854775807:=hb.1.1
 have hl_b:b.length≤9223372036854775807:=hb.2.1.1
 refine ⟨fun h=>R_eq (by unfold Zk;rw [if_neg (by simpa using h)]),fun h=>?_⟩
 have hp:ZJ a b=true:=by simpa using h
 have hl:=JM.1 hp
 have h6:=(Z0.1 hl.1).1
 refine Zp a (fun r k=>∀ (v:List Int) (s:Bool),v.length=k→(v++(vz Q4 r (b.drop k)).1,s||(vz Q4 r (b.drop k)).2)=(Zk a b)→QgQ (fun r'=>r'=Qct (Zk a b)) a b s k v) ?_ ?_ [] false rfl (by unfold Zk;rw [if_pos hp];simp)
 ·intro v s hv he
  refine Qyi (fun r'=>r'=Qct (Zk a b)) a b _ _ _ ⟨fun h=>by simp at h,fun _=>R_eq ?_⟩
  rw [← he];simp [vz]
 ·intro k x r hk hlt hg ih v s hv he
  obtain ⟨y,q,hq⟩:=Jg (l:=b) (k:=k) (by omega)
  refine Qyi (fun r'=>r'=Qct (Zk a b)) a b _ _ _ ⟨fun _=>?_,fun h=>by simp at h;omega⟩
  rw [Int.toNat_natCast,hg,Yp hq,sc1 (by omega),Zf]
  refine ⟨⟨⟨by omega,hlt⟩,by omega,by omega⟩,room (by omega),ih _ _ (YF hv) ?_⟩
  rw [← he,hq,vz,Z6 hq]
  simp [Bool.or_assoc]
theorem QAN:Qe Tryz.prog Qku:=Qh fun x _=>QFR x.1 x.2.1
def Qdg (t:(List Int) × Bool):TRes:=zra (.tp [(zcs [TI] t.1),(zcb t.2)])
def QjN:TRow:=Qf 226 [(.c (.sl [TI])),(.c (.sl [TI]))] fun x=>(none,Qdg (Zk x.1 x.2.1))
def Qop:List TRow:=[QdG,QdF]
def QuJ:TCode :=
 (zsq [(zsq [(.reg [zmv 12 8,zmv 13 0,zle 14 13,zbi 15 .lss 12 14,zmv 16 15,.grp 16 true [zmv 17 0,zmv 18 1,zca 19 207 [17,18]] 20 19]),(.cond 20 .skip (.exit 0))]),(.block 1 (zsq [(.draw [zmv 24 0,zmv 25 8,zia 26 24 25 [TI],zld 27 26 1,zmv 28 1,zmv 29 8,zia 30 28 29 [TI],zld 31 30 1,zca 32 162 [27,31],zmv 23 32,zex 33 23 0,zex 34 23 1,zmv 9 33,zmv 10 34] []),(.reg [zmv 35 6,zmv 36 9,zop 37 (.bsl 3 [TI] [36]),zop 38 (.app 35 37 3 [TI]),zmv 6 38]),(.reg [zmv 39 7,zmv 40 39,.grp 40 false [zmv 41 10] 42 41,zmv 7 42])])),(.reg [zmv 21 8,zbi 22 .add 21 (zki 1),zmv 8 22])])
def Qs7:List (Nat × Md):=[(0,.one .d),(1,.one .d),(6,.one .f),(7,.one .d),(8,.one .d)]
def QBi:TCode :=
 (zsq [(.reg [zmv 43 6,zmv 44 7,zmv 4 43,zmv 5 44]),.ret])
def QQl:TCode :=
 (zsq [(.reg [zmv 4 (.k (.n [TI])),zmv 5 (zkb false)]),(.reg [zop 11 (.bsl 3 [TI] []),zmv 6 11]),(.reg [zmv 7 (zkb false)]),(zsq [(.reg [zmv 8 (zki 0)]),(.block 0 (.loop Qs7 QuJ))]),QBi])
def QqX:List (ARv × Md):=[(.t 4,.one .d),(.t 5,.one .d)]
def Qxd:Qb:=TQ 0 0 QqX K
def QOG:Qb:=Qseq (tawp Qop 0 QBi (Qxd K)) (Qxd K)
def QKj:Qb:=Qblk 0 (QOG K)
def QiX (a:List Int) (b:List Int) (sat:Bool) (i:Int) (out:List Int):Prop:=Loop Qop 0 Qs7 QuJ (QKj K) ⟨[(0,(zcs [TI] a)),(1,(zcs [TI] b)),(6,(.r [TI] 0 0 out.length)),(7,(zcb sat)),(8,(zci i))],[(0,(.sl 3 [TI] true out))],1⟩
theorem Qm3 (a:List Int) (b:List Int) (sat:Bool) (i:Int) (out:List Int) (h :
 (zif ((decide (i<(a.length:Int)))&&(ZJ a b)) ((((0:Int)≤i∧Int.toNat i<a.length)∧((0:Int)≤i∧Int.toNat i<b.length))∧(((out.length=out.length∨out.length+1≤out.length)∧out.length+1≤big)∧(QiX K a b (sat||((Q4 (gtd (0:Int) a (Int.toNat i)) (gtd (0:Int) b (Int.toNat i))).2)) (w64 (i+(1:Int))) (List.take (out.length+1) ((List.take out.length out)++([(Q4 (gtd (0:Int) a (Int.toNat i)) (gtd (0:Int) b (Int.toNat i))).1])))))) (K (Qdg ((List.take out.length (List.drop 0 out)),sat))))):QiX K a b sat i out :=
 Loop.of (by kernel_rfl) h
theorem QKu (a:List Int) (b:List Int) (h :
 (QiX K a b false 0 ([]:List Int))):Hold (tawp Qop (0+0) QQl (TQ 0 0 QqX K) (Qd [(.c (.sl [TI]) a),(.c (.sl [TI]) b)])) :=
 Hold.of (by kernel_rfl) h
theorem QWK (a:List Int) (b:List Int):TCon Tryz.prog 226 [(.c (.sl [TI]) a),(.c (.sl [TI]) b)] (Qdg (Zk a b)):=by
 refine Qj rfl fun hb=>tcg (n:=45) (sg:=QjN.sg) Qg (TOk.cons Qkl (TOk.cons QjM TOk.nil)) (by kernel_rfl) (by kernel_rfl) (QKu _ a b ?_)
 have hl_a:a.length≤9223372036854775807:=hb.1.1
 have hl_b:b.length≤9223372036854775807:=hb.2.1.1
 by_cases hp:ZJ a b=true
 rotate_left
 ·refine Qm3 (fun r'=>r'=Qdg (Zk a b)) a b _ _ _ ⟨fun h=>by simp [hp] at h,fun _=>R_eq (by unfold Zk;rw [if_neg hp];rfl)⟩
 have hl:=JM.1 hp
 have h6:=(Z0.1 hl.1).1
 refine Zp a (fun r k=>∀ (v:List Int) (s:Bool),v.length=k→(v++(vz Q4 r (b.drop k)).1,s||(vz Q4 r (b.drop k)).2)=(Zk a b)→QiX (fun r'=>r'=Qdg (Zk a b)) a b s k v) ?_ ?_ [] false rfl (by unfold Zk;rw [if_pos hp];simp)
 ·intro v s hv he
  refine Qm3 (fun r'=>r'=Qdg (Zk a b)) a b _ _ _ ⟨fun h=>by simp at h,fun _=>R_eq ?_⟩
  rw [← he];simp [vz]
 ·intro k x r hk hlt hg ih v s hv he
  obtain ⟨y,q,hq⟩:=Jg (l:=b) (k:=k) (by omega)
  refine Qm3 (fun r'=>r'=Qdg (Zk a b)) a b _ _ _ ⟨fun _=>?_,fun h=>by simp [hp] at h;omega⟩
  rw [Int.toNat_natCast,hg,Yp hq,sc1 (by omega),Zf]
  refine ⟨⟨⟨by omega,hlt⟩,by omega,by omega⟩,room (by omega),ih _ _ (YF hv) ?_⟩
  rw [← he,hq,vz,Z6 hq]
  simp [Bool.or_assoc]
theorem QAK:Qe Tryz.prog QjN:=Qh fun x _=>QWK x.1 x.2.1
def Qda (t:(List Int) × Bool):TRes:=zra (.tp [(zcs [TI] t.1),(zcb t.2)])
def QfE:TRow:=Qf 124 [(.c (.sl [TI])),(.c (.sl [TI]))] fun x=>(none,Qda (Q3 x.1 x.2.1))
def QqE:List TRow:=[QeK,Qqb]
def Quw:TCode :=
 (zsq [(.reg [zbi 19 .lss 18 17]),(.cond 19 .skip (.exit 0)),(.block 1 (zsq [(.reg [zmv 20 18,zmv 8 20]),(.draw [zmv 22 0,zmv 23 8,zia 24 22 23 [TI],zld 25 24 1,zmv 26 1,zmv 27 8,zia 28 26 27 [TI],zld 29 28 1,zca 30 192 [25,29],zmv 21 30,zex 31 21 0,zex 32 21 1,zmv 9 31,zmv 10 32] []),(.reg [zmv 33 6,zmv 34 9,zop 35 (.bsl 3 [TI] [34]),zop 36 (.app 33 35 3 [TI]),zmv 6 36]),(.reg [zmv 37 7,zmv 38 37,.grp 38 false [zmv 39 10] 40 39,zmv 7 40])])),(.reg [zbi 41 .add 18 (zki 1),zmv 18 41])])
def Qq3:List (Nat × Md):=[(0,.one .d),(1,.one .d),(6,.one .f),(7,.one .d),(17,.one .d),(18,.one .d)]
def QAx:TCode :=
 (zsq [(.reg [zmv 42 6,zmv 43 7,zmv 4 42,zmv 5 43]),.ret])
def QK0:TCode :=
 (zsq [(.reg [zmv 4 (.k (.n [TI])),zmv 5 (zkb false)]),(zsq [(.reg [zmv 11 0,zmv 12 1,zca 13 191 [11,12],zno 14 13]),(.cond 14 (zsq [(.reg [zmv 4 (.k (.n [TI])),zmv 5 (zkb false)]),.ret]) .skip)]),(.reg [zop 15 (.bsl 3 [TI] []),zmv 6 15]),(.reg [zmv 7 (zkb false)]),(zsq [(.reg [zmv 16 0,zle 17 16,zmv 18 (zki 0)]),(.block 0 (.loop Qq3 Quw))]),QAx])
def QvK:List (ARv × Md):=[(.t 4,.one .d),(.t 5,.one .d)]
def QzB:Qb:=TQ 0 0 QvK K
def QGz:Qb:=Qseq (tawp QqE 0 QAx (QzB K)) (QzB K)
def QXI:Qb:=Qblk 0 (QGz K)
def Qgy (a:List Int) (b:List Int) (out:Bool) (x:Int) (v:List Int):Prop:=Loop QqE 0 Qq3 Quw (QXI K) ⟨[(0,(zcs [TI] a)),(1,(zcs [TI] b)),(6,(.r [TI] 0 0 v.length)),(7,(zcb out)),(17,(zci (a.length:Int))),(18,(zci x))],[(0,(.sl 3 [TI] true v))],1⟩
theorem QvX (a:List Int) (b:List Int) (out:Bool) (x:Int) (v:List Int) (h :
 (zif (decide (x<(a.length:Int))) ((((0:Int)≤x∧Int.toNat x<a.length)∧((0:Int)≤x∧Int.toNat x<b.length))∧(((v.length=v.length∨v.length+1≤v.length)∧v.length+1≤big)∧(Qgy K a b (out||((JE (gtd (0:Int) a (Int.toNat x)) (gtd (0:Int) b (Int.toNat x))).2)) (w64 (x+(1:Int))) (List.take (v.length+1) ((List.take v.length v)++([(JE (gtd (0:Int) a (Int.toNat x)) (gtd (0:Int) b (Int.toNat x))).1])))))) (K (Qda ((List.take v.length (List.drop 0 v)),out))))):Qgy K a b out x v :=
 Loop.of (by kernel_rfl) h
theorem QKo (a:List Int) (b:List Int) (h :
 (zif (!(ZJ a b)) (K (Qda ([],false))) (Qgy K a b false 0 ([]:List Int)))):Hold (tawp QqE (0+0) QK0 (TQ 0 0 QvK K) (Qd [(.c (.sl [TI]) a),(.c (.sl [TI]) b)])) :=
 Hold.of (by kernel_rfl) h
theorem QF1 (a:List Int) (b:List Int):TCon Tryz.prog 124 [(.c (.sl [TI]) a),(.c (.sl [TI]) b)] (Qda (Q3 a b)):=by
 refine Qj rfl fun hb=>tcg (n:=44) (sg:=QfE.sg) Qg (TOk.cons Qid (TOk.cons QRP TOk.nil)) (by kernel_rfl) (by kernel_rfl) (QKo _ a b ?_)
 have hl_a:a.length≤9223372036854775807:=hb.1.1
 have hl_b:b.length≤9223372036854775807:=hb.2.1.1
 refine ⟨fun h=>R_eq (by unfold Q3;rw [if_neg (by simpa using h)]),fun h=>?_⟩
 have hp:ZJ a b=true:=by simpa using h
 have hl:=JM.1 hp
 have h6:=(Z0.1 hl.1).1
 refine Zp a (fun r k=>∀ (v:List Int) (s:Bool),v.length=k→(v++(vz JE r (b.drop k)).1,s||(vz JE r (b.drop k)).2)=(Q3 a b)→Qgy (fun r'=>r'=Qda (Q3 a b)) a b s k v) ?_ ?_ [] false rfl (by unfold Q3;rw [if_pos hp];simp)
 ·intro v s hv he
  refine QvX (fun r'=>r'=Qda (Q3 a b)) a b _ _ _ ⟨fun h=>by simp at h,fun _=>R_eq ?_⟩
  rw [← he];simp [vz]
 ·intro k x r hk hlt hg ih v s hv he
  obtain ⟨y,q,hq⟩:=Jg (l:=b) (k:=k) (by omega)
  refine QvX (fun r'=>r'=Qda (Q3 a b)) a b _ _ _ ⟨fun _=>?_,fun h=>by simp at h;omega⟩
  rw [Int.toNat_natCast,hg,Yp hq,sc1 (by omega),Zf]
  refine ⟨⟨⟨by omega,hlt⟩,by omega,by omega⟩,room (by omega),ih _ _ (YF hv) ?_⟩
  rw [← he,hq,vz,Z6 hq]
  simp [Bool.or_assoc]
theorem QqH:Qe Tryz.prog QfE:=Qh fun x _=>QF1 x.1 x.2.1
def Qdx (t:(List Int) × Bool):TRes:=zra (.tp [(zcs [TI] t.1),(zcb t.2)])
def Qju:TRow:=Qf 165 [(.c (.sl [TI])),(.c (.sl [TI]))] fun x=>(none,Qdx (Q3 x.1 x.2.1))
def QpT:List TRow:=[QdG,QkK]
def QCV:TCode :=
 (zsq [(zsq [(.reg [zmv 12 8,zmv 13 0,zle 14 13,zbi 15 .lss 12 14,zmv 16 15,.grp 16 true [zmv 17 0,zmv 18 1,zca 19 207 [17,18]] 20 19]),(.cond 20 .skip (.exit 0))]),(.block 1 (zsq [(.draw [zmv 24 0,zmv 25 8,zia 26 24 25 [TI],zld 27 26 1,zmv 28 1,zmv 29 8,zia 30 28 29 [TI],zld 31 30 1,zca 32 208 [27,31],zmv 23 32,zex 33 23 0,zex 34 23 1,zmv 9 33,zmv 10 34] []),(.reg [zmv 35 6,zmv 36 9,zop 37 (.bsl 3 [TI] [36]),zop 38 (.app 35 37 3 [TI]),zmv 6 38]),(.reg [zmv 39 7,zmv 40 39,.grp 40 false [zmv 41 10] 42 41,zmv 7 42])])),(.reg [zmv 21 8,zbi 22 .add 21 (zki 1),zmv 8 22])])
def QwQ:List (Nat × Md):=[(0,.one .d),(1,.one .d),(6,.one .f),(7,.one .d),(8,.one .d)]
def QtI:TCode :=
 (zsq [(.reg [zmv 43 6,zmv 44 7,zmv 4 43,zmv 5 44]),.ret])
def QFZ:TCode :=
 (zsq [(.reg [zmv 4 (.k (.n [TI])),zmv 5 (zkb false)]),(.reg [zop 11 (.bsl 3 [TI] []),zmv 6 11]),(.reg [zmv 7 (zkb false)]),(zsq [(.reg [zmv 8 (zki 0)]),(.block 0 (.loop QwQ QCV))]),QtI])
def Qxq:List (ARv × Md):=[(.t 4,.one .d),(.t 5,.one .d)]
def QyJ:Qb:=TQ 0 0 Qxq K
def QFh:Qb:=Qseq (tawp QpT 0 QtI (QyJ K)) (QyJ K)
def QL2:Qb:=Qblk 0 (QFh K)
def QhT (a:List Int) (b:List Int) (sat:Bool) (i:Int) (out:List Int):Prop:=Loop QpT 0 QwQ QCV (QL2 K) ⟨[(0,(zcs [TI] a)),(1,(zcs [TI] b)),(6,(.r [TI] 0 0 out.length)),(7,(zcb sat)),(8,(zci i))],[(0,(.sl 3 [TI] true out))],1⟩
theorem QqP (a:List Int) (b:List Int) (sat:Bool) (i:Int) (out:List Int) (h :
 (zif ((decide (i<(a.length:Int)))&&(ZJ a b)) ((((0:Int)≤i∧Int.toNat i<a.length)∧((0:Int)≤i∧Int.toNat i<b.length))∧(((out.length=out.length∨out.length+1≤out.length)∧out.length+1≤big)∧(QhT K a b (sat||((JE (gtd (0:Int) a (Int.toNat i)) (gtd (0:Int) b (Int.toNat i))).2)) (w64 (i+(1:Int))) (List.take (out.length+1) ((List.take out.length out)++([(JE (gtd (0:Int) a (Int.toNat i)) (gtd (0:Int) b (Int.toNat i))).1])))))) (K (Qdx ((List.take out.length (List.drop 0 out)),sat))))):QhT K a b sat i out :=
 Loop.of (by kernel_rfl) h
theorem QJ1 (a:List Int) (b:List Int) (h :
 (QhT K a b false 0 ([]:List Int))):Hold (tawp QpT (0+0) QFZ (TQ 0 0 Qxq K) (Qd [(.c (.sl [TI]) a),(.c (.sl [TI]) b)])) :=
 Hold.of (by kernel_rfl) h
theorem QHM (a:List Int) (b:List Int):TCon Tryz.prog 165 [(.c (.sl [TI]) a),(.c (.sl [TI]) b)] (Qdx (Q3 a b)):=by
 refine Qj rfl fun hb=>tcg (n:=45) (sg:=Qju.sg) Qg (TOk.cons Qkl (TOk.cons QRY TOk.nil)) (by kernel_rfl) (by kernel_rfl) (QJ1 _ a b ?_)
 have hl_a:a.length≤9223372036854775807:=hb.1.1
 have hl_b:b.length≤9223372036854775807:=hb.2.1.1
 by_cases hp:ZJ a b=true
 rotate_left
 ·refine QqP (fun r'=>r'=Qdx (Q3 a b)) a b _ _ _ ⟨fun h=>by simp [hp] at h,fun _=>R_eq (by unfold Q3;rw [if_neg hp];rfl)⟩
 have hl:=JM.1 hp
 have h6:=(Z0.1 hl.1).1
 refine Zp a (fun r k=>∀ (v:List Int) (s:Bool),v.length=k→(v++(vz JE r (b.drop k)).1,s||(vz JE r (b.drop k)).2)=(Q3 a b)→QhT (fun r'=>r'=Qdx (Q3 a b)) a b s k v) ?_ ?_ [] false rfl (by unfold Q3;rw [if_pos hp];simp)
 ·intro v s hv he
  refine QqP (fun r'=>r'=Qdx (Q3 a b)) a b _ _ _ ⟨fun h=>by simp at h,fun _=>R_eq ?_⟩
  rw [← he];simp [vz]
 ·intro k x r hk hlt hg ih v s hv he
  obtain ⟨y,q,hq⟩:=Jg (l:=b) (k:=k) (by omega)
  refine QqP (fun r'=>r'=Qdx (Q3 a b)) a b _ _ _ ⟨fun _=>?_,fun h=>by simp [hp] at h;omega⟩
  rw [Int.toNat_natCast,hg,Yp hq,sc1 (by omega),Zf]
  refine ⟨⟨⟨by omega,hlt⟩,by omega,by omega⟩,room (by omega),ih _ _ (YF hv) ?_⟩
  rw [← he,hq,vz,Z6 hq]
  simp [Bool.or_assoc]
theorem QBK:Qe Tryz.prog Qju:=Qh fun x _=>QHM x.1 x.2.1
def QcT (t:(List Int) × Bool):TRes:=zra (.tp [(zcs [TI] t.1),(zcb t.2)])
def QhZ:TRow:=Qf 214 [(.c TI),(.c (.sl [TI]))] fun x=>(none,QcT (ZC x.1 x.2.1))
def QoM:List TRow:=[Qgc,Qbs,Qfh]
def QxY:TCode :=
 (zsq [(.reg [zbi 23 .lss 22 21]),(.cond 23 .skip (.exit 0)),(.block 1 (zsq [(.reg [zmv 24 22,zmv 8 24]),(.reg [zmv 26 0,zmv 27 1,zmv 28 8,zia 29 27 28 [TI],zld 30 29 1,zca 31 216 [26,30],zmv 25 31,zex 32 25 0,zex 33 25 1,zmv 9 32,zmv 10 33]),(.reg [zmv 34 6,zmv 35 9,zop 36 (.bsl 3 [TI] [35]),zop 37 (.app 34 36 3 [TI]),zmv 6 37]),(.reg [zmv 38 7,zmv 39 38,.grp 39 false [zmv 40 10] 41 40,zmv 7 41])])),(.reg [zbi 42 .add 22 (zki 1),zmv 22 42])])
def QqW:List (Nat × Md):=[(0,.one .d),(1,.one .d),(6,.one .f),(7,.one .d),(21,.one .d),(22,.one .d)]
def QsW:TCode :=
 (zsq [(.reg [zmv 43 6,zmv 44 7,zmv 4 43,zmv 5 44]),.ret])
def QUG:TCode :=
 (zsq [(.reg [zmv 4 (.k (.n [TI])),zmv 5 (zkb false)]),(zsq [(.reg [zmv 11 0,zca 12 217 [11],zno 13 12,zmv 14 13,.grp 14 false [zmv 15 1,zca 16 134 [15],zno 17 16] 18 17]),(.cond 18 (zsq [(.reg [zmv 4 (.k (.n [TI])),zmv 5 (zkb false)]),.ret]) .skip)]),(.reg [zop 19 (.bsl 3 [TI] []),zmv 6 19]),(.reg [zmv 7 (zkb false)]),(zsq [(.reg [zmv 20 1,zle 21 20,zmv 22 (zki 0)]),(.block 0 (.loop QqW QxY))]),QsW])
def Qyy:List (ARv × Md):=[(.t 4,.one .d),(.t 5,.one .d)]
def QsA:Qb:=TQ 0 0 Qyy K
def QKH:Qb:=Qseq (tawp QoM 0 QsW (QsA K)) (QsA K)
def QTY:Qb:=Qblk 0 (QKH K)
def QgV (c:Int) (a:List Int) (out:Bool) (x:Int) (v:List Int):Prop:=Loop QoM 0 QqW QxY (QTY K) ⟨[(0,(zci c)),(1,(zcs [TI] a)),(6,(.r [TI] 0 0 v.length)),(7,(zcb out)),(21,(zci (a.length:Int))),(22,(zci x))],[(0,(.sl 3 [TI] true v))],1⟩
theorem QAE (c:Int) (a:List Int) (out:Bool) (x:Int) (v:List Int) (h :
 (zif (decide (x<(a.length:Int))) (((0:Int)≤x∧Int.toNat x<a.length)∧(((v.length=v.length∨v.length+1≤v.length)∧v.length+1≤big)∧(QgV K c a (out||((Zo c (gtd (0:Int) a (Int.toNat x))).2)) (w64 (x+(1:Int))) (List.take (v.length+1) ((List.take v.length v)++([(Zo c (gtd (0:Int) a (Int.toNat x))).1])))))) (K (QcT ((List.take v.length (List.drop 0 v)),out))))):QgV K c a out x v :=
 Loop.of (by kernel_rfl) h
theorem QPd (c:Int) (a:List Int) (h :
 (zif ((!(Q8 c))||(!(QU a))) (K (QcT ([],false))) (QgV K c a false 0 ([]:List Int)))):Hold (tawp QoM (0+0) QUG (TQ 0 0 Qyy K) (Qd [(.c TI c),(.c (.sl [TI]) a)])) :=
 Hold.of (by kernel_rfl) h
theorem QNj (c:Int) (a:List Int):TCon Tryz.prog 214 [(.c TI c),(.c (.sl [TI]) a)] (QcT (ZC c a)):=by
 refine Qj rfl fun hb=>tcg (n:=45) (sg:=QhZ.sg) Qg (TOk.cons Qlr (TOk.cons QcE (TOk.cons QlI TOk.nil))) (by kernel_rfl) (by kernel_rfl) (QPd _ c a ?_)
 have hl_a:a.length≤9223372036854775807:=hb.2.1.1
 refine ⟨fun h=>R_eq (by unfold ZC;rw [if_neg (by intro h2;simp at h2;simp [h2] at h)]),fun h=>?_⟩
 have hp:Q8 c=true∧QU a=true:=by simpa using h
 have h6:=(Z0.1 hp.2).1
 refine Zp a (fun r k=>∀ (v:List Int) (s:Bool),v.length=k→(v++(v1 (Zo c) r).1,s||(v1 (Zo c) r).2)=(ZC c a)→QgV (fun r'=>r'=QcT (ZC c a)) c a s k v) ?_ ?_ [] false rfl (by unfold ZC;rw [if_pos (by simp [hp])];simp)
 ·intro v s hv he
  refine QAE (fun r'=>r'=QcT (ZC c a)) c a _ _ _ ⟨fun h=>by simp at h,fun _=>R_eq ?_⟩
  rw [← he];simp [v1]
 ·intro k x r hk hlt hg ih v s hv he
  refine QAE (fun r'=>r'=QcT (ZC c a)) c a _ _ _ ⟨fun _=>?_,fun h=>by simp at h;omega⟩
  rw [Int.toNat_natCast,hg,sc1 (by omega),Zf]
  refine ⟨⟨by omega,hlt⟩,room (by omega),ih _ _ (YF hv) ?_⟩
  rw [← he,v1]
  simp [Bool.or_assoc]
theorem QB5:Qe Tryz.prog QhZ:=Qh fun x _=>QNj x.1 x.2.1
def Qdq (t:(List Int) × Bool):TRes:=zra (.tp [(zcs [TI] t.1),(zcb t.2)])
def Qg9:TRow:=Qf 228 [(.c TI),(.c (.sl [TI]))] fun x=>(none,Qdq (ZC x.1 x.2.1))
def QkO:List TRow:=[Qar,QdX,Qe2]
def Qwu:TCode :=
 (zsq [(zsq [(.reg [zmv 12 8,zmv 13 1,zle 14 13,zbi 15 .lss 12 14,zmv 16 15,.grp 16 true [zmv 17 1,zca 18 42 [17]] 19 18,zmv 20 19,.grp 20 true [zmv 21 0,zca 22 110 [21]] 23 22]),(.cond 23 .skip (.exit 0))]),(.block 1 (zsq [(.reg [zmv 27 0,zmv 28 1,zmv 29 8,zia 30 28 29 [TI],zld 31 30 1,zca 32 229 [27,31],zmv 26 32,zex 33 26 0,zex 34 26 1,zmv 9 33,zmv 10 34]),(.reg [zmv 35 6,zmv 36 9,zop 37 (.bsl 3 [TI] [36]),zop 38 (.app 35 37 3 [TI]),zmv 6 38]),(.reg [zmv 39 7,zmv 40 39,.grp 40 false [zmv 41 10] 42 41,zmv 7 42])])),(.reg [zmv 24 8,zbi 25 .add 24 (zki 1),zmv 8 25])])
def QCU:List (Nat × Md):=[(0,.one .d),(1,.one .d),(6,.one .f),(7,.one .d),(8,.one .d)]
def Qri:TCode :=
 (zsq [(.reg [zmv 43 6,zmv 44 7,zmv 4 43,zmv 5 44]),.ret])
def QMz:TCode :=
 (zsq [(.reg [zmv 4 (.k (.n [TI])),zmv 5 (zkb false)]),(.reg [zop 11 (.bsl 3 [TI] []),zmv 6 11]),(.reg [zmv 7 (zkb false)]),(zsq [(.reg [zmv 8 (zki 0)]),(.block 0 (.loop QCU Qwu))]),Qri])
def QEe:List (ARv × Md):=[(.t 4,.one .d),(.t 5,.one .d)]
def QBj:Qb:=TQ 0 0 QEe K
def QEU:Qb:=Qseq (tawp QkO 0 Qri (QBj K)) (QBj K)
def QTG:Qb:=Qblk 0 (QEU K)
def Qjp (c:Int) (a:List Int) (sat:Bool) (i:Int) (out:List Int):Prop:=Loop QkO 0 QCU Qwu (QTG K) ⟨[(0,(zci c)),(1,(zcs [TI] a)),(6,(.r [TI] 0 0 out.length)),(7,(zcb sat)),(8,(zci i))],[(0,(.sl 3 [TI] true out))],1⟩
theorem QoL (c:Int) (a:List Int) (sat:Bool) (i:Int) (out:List Int) (h :
 (zif (((decide (i<(a.length:Int)))&&(QU a))&&(Q8 c)) (((0:Int)≤i∧Int.toNat i<a.length)∧(((out.length=out.length∨out.length+1≤out.length)∧out.length+1≤big)∧(Qjp K c a (sat||((Zo c (gtd (0:Int) a (Int.toNat i))).2)) (w64 (i+(1:Int))) (List.take (out.length+1) ((List.take out.length out)++([(Zo c (gtd (0:Int) a (Int.toNat i))).1])))))) (K (Qdq ((List.take out.length (List.drop 0 out)),sat))))):Qjp K c a sat i out :=
 Loop.of (by kernel_rfl) h
theorem QPQ (c:Int) (a:List Int) (h :
 (Qjp K c a false 0 ([]:List Int))):Hold (tawp QkO (0+0) QMz (TQ 0 0 QEe K) (Qd [(.c TI c),(.c (.sl [TI]) a)])) :=
 Hold.of (by kernel_rfl) h
theorem QO8 (c:Int) (a:List Int):TCon Tryz.prog 228 [(.c TI c),(.c (.sl [TI]) a)] (Qdq (ZC c a)):=by
 refine Qj rfl fun hb=>tcg (n:=45) (sg:=Qg9.sg) Qg (TOk.cons Qbm (TOk.cons QhQ (TOk.cons Qor TOk.nil))) (by kernel_rfl) (by kernel_rfl) (QPQ _ c a ?_)
 have hl_a:a.length≤9223372036854775807:=hb.2.1.1
 by_cases hp:Q8 c=true∧QU a=true
 rotate_left
 ·refine QoL (fun r'=>r'=Qdq (ZC c a)) c a _ _ _ ⟨fun h=>absurd (by simp at h;exact ⟨h.2,h.1.2⟩) hp,fun _=>R_eq (by unfold ZC;rw [if_neg (by simpa using hp)];rfl)⟩
 have h6:=(Z0.1 hp.2).1
 refine Zp a (fun r k=>∀ (v:List Int) (s:Bool),v.length=k→(v++(v1 (Zo c) r).1,s||(v1 (Zo c) r).2)=(ZC c a)→Qjp (fun r'=>r'=Qdq (ZC c a)) c a s k v) ?_ ?_ [] false rfl (by unfold ZC;rw [if_pos (by simp [hp])];simp)
 ·intro v s hv he
  refine QoL (fun r'=>r'=Qdq (ZC c a)) c a _ _ _ ⟨fun h=>by simp at h,fun _=>R_eq ?_⟩
  rw [← he];simp [v1]
 ·intro k x r hk hlt hg ih v s hv he
  refine QoL (fun r'=>r'=Qdq (ZC c a)) c a _ _ _ ⟨fun _=>?_,fun h=>by simp [hp] at h;omega⟩
  rw [Int.toNat_natCast,hg,sc1 (by omega),Zf]
  refine ⟨⟨by omega,hlt⟩,room (by omega),ih _ _ (YF hv) ?_⟩
  rw [← he,v1]
  simp [Bool.or_assoc]
theorem QBC:Qe Tryz.prog Qg9:=Qh fun x _=>QO8 x.1 x.2.1
def Qcy (t:Int × Bool):TRes:=zre (.tp [(zci t.1),(zcb t.2)])
def QfI:TRow:=Qf 188 [(.c (.sl [TI])),(.c (.sl [TI]))] fun x=>(none,Qcy (Q0 x.1 x.2.1))
def Qqi:List TRow:=[QeK,Qfh,QeH]
def QCA:TCode :=
 (zsq [(.reg [zbi 20 .lss 19 18]),(.cond 20 .skip (.exit 0)),(.block 1 (zsq [(.reg [zmv 21 19,zmv 8 21]),(.draw [zmv 23 0,zmv 24 8,zia 25 23 24 [TI],zld 26 25 1,zmv 27 1,zmv 28 8,zia 29 27 28 [TI],zld 30 29 1,zca 31 216 [26,30],zmv 22 31,zex 32 22 0,zex 33 22 1,zmv 9 32,zmv 10 33] []),(.reg [zmv 35 6,zmv 36 9,zca 37 121 [35,36],zmv 34 37,zex 38 34 0,zex 39 34 1,zmv 11 38,zmv 12 39]),(.reg [zmv 40 11,zmv 6 40]),(.reg [zmv 41 7,zmv 42 41,.grp 42 false [zmv 43 10] 44 43,zmv 45 44,.grp 45 false [zmv 46 12] 47 46,zmv 7 47])])),(.reg [zbi 48 .add 19 (zki 1),zmv 19 48])])
def QrR:List (Nat × Md):=zdl [0,1,6,7,18,19]
def QyD:TCode :=
 (zsq [(.reg [zmv 49 6,zmv 50 7,zmv 4 49,zmv 5 50]),.ret])
def QM5:TCode :=
 (zsq [(.reg [zmv 4 (zki 0),zmv 5 (zkb false)]),(zsq [(.reg [zmv 13 0,zmv 14 1,zca 15 191 [13,14],zno 16 15]),(.cond 16 (zsq [(.reg [zmv 4 (zki 0),zmv 5 (zkb false)]),.ret]) .skip)]),(.reg [zmv 6 (zki 0)]),(.reg [zmv 7 (zkb false)]),(zsq [(.reg [zmv 17 0,zle 18 17,zmv 19 (zki 0)]),(.block 0 (.loop QrR QCA))]),QyD])
def Qxx:List (ARv × Md):=[(.t 4,.one .d),(.t 5,.one .d)]
def QwO:Qb:=TQ 0 0 Qxx K
def QM8:Qb:=Qseq (tawp Qqi 0 QyD (QwO K)) (QwO K)
def QT9:Qb:=Qblk 0 (QM8 K)
def QiU (a:List Int) (b:List Int) (sum:Int) (out:Bool) (x:Int):Prop:=Loop Qqi 0 QrR QCA (QT9 K) ⟨[(0,(zcs [TI] a)),(1,(zcs [TI] b)),(6,(zci sum)),(7,(zcb out)),(18,(zci (a.length:Int))),(19,(zci x))],[],0⟩
theorem Quc (a:List Int) (b:List Int) (sum:Int) (out:Bool) (x:Int) (h :
 (zif (decide (x<(a.length:Int))) ((((0:Int)≤x∧Int.toNat x<a.length)∧((0:Int)≤x∧Int.toNat x<b.length))∧(QiU K a b ((Q4 sum ((Zo (gtd (0:Int) a (Int.toNat x)) (gtd (0:Int) b (Int.toNat x))).1)).1) ((out||((Zo (gtd (0:Int) a (Int.toNat x)) (gtd (0:Int) b (Int.toNat x))).2))||((Q4 sum ((Zo (gtd (0:Int) a (Int.toNat x)) (gtd (0:Int) b (Int.toNat x))).1)).2)) (w64 (x+(1:Int))))) (K (Qcy (sum,out))))):QiU K a b sum out x :=
 Loop.of (by kernel_rfl) h
theorem QGe (a:List Int) (b:List Int) (h :
 (zif (!(ZJ a b)) (K (Qcy ((0:Int),false))) (QiU K a b 0 false 0))):Hold (tawp Qqi (0+0) QM5 (TQ 0 0 Qxx K) (Qd [(.c (.sl [TI]) a),(.c (.sl [TI]) b)])) :=
 Hold.of (by kernel_rfl) h
theorem QFC (a:List Int) (b:List Int):TCon Tryz.prog 188 [(.c (.sl [TI]) a),(.c (.sl [TI]) b)] (Qcy (Q0 a b)):=by
 refine Qj rfl fun hb=>tcg (n:=51) (sg:=QfI.sg) Qg (TOk.cons Qid (TOk.cons QlI (TOk.cons Qjs TOk.nil))) (by kernel_rfl) (by kernel_rfl) (QGe _ a b ?_)
 have hl_a:a.length≤9223372036854775807:=hb.1.1
 have hl_b:b.length≤9223372036854775807:=hb.2.1.1
 refine ⟨fun h=>R_eq (by unfold Q0;rw [if_neg (by simpa using h)]),fun h=>?_⟩
 have hp:ZJ a b=true:=by simpa using h
 have hl:=JM.1 hp
 have h6:=(Z0.1 hl.1).1
 refine Zp a (fun r k=>∀ (z:Int) (s:Bool),((Y5 r (b.drop k) z).1,s||(Y5 r (b.drop k) z).2)=(Q0 a b)→QiU (fun r'=>r'=Qcy (Q0 a b)) a b z s k) ?_ ?_ 0 false (by unfold Q0;rw [if_pos hp];simp)
 ·intro z s he
  refine Quc (fun r'=>r'=Qcy (Q0 a b)) a b _ _ _ ⟨fun h=>by simp at h,fun _=>R_eq ?_⟩
  rw [← he];simp [Y5]
 ·intro k x r hk hlt hg ih z s he
  obtain ⟨y,q,hq⟩:=Jg (l:=b) (k:=k) (by omega)
  refine Quc (fun r'=>r'=Qcy (Q0 a b)) a b _ _ _ ⟨fun _=>?_,fun h=>by simp at h;omega⟩
  rw [Int.toNat_natCast,hg,Yp hq,sc1 (by omega)]
  refine ⟨⟨⟨by omega,hlt⟩,by omega,by omega⟩,ih _ _ ?_⟩
  rw [← he,hq,Y5,Z6 hq]
  simp [Bool.or_assoc]
theorem Qpv:Qe Tryz.prog QfI:=Qh fun x _=>QFC x.1 x.2.1
def QdA (t:Int × Bool):TRes:=zre (.tp [(zci t.1),(zcb t.2)])
def QeD:TRow:=Qf 206 [(.c (.sl [TI])),(.c (.sl [TI]))] fun x=>(none,QdA (Q0 x.1 x.2.1))
def QqM:List TRow:=[QdG,Qe2,QdF]
def Qui:TCode :=
 (zsq [(zsq [(.reg [zmv 13 8,zmv 14 0,zle 15 14,zbi 16 .lss 13 15,zmv 17 16,.grp 17 true [zmv 18 0,zmv 19 1,zca 20 207 [18,19]] 21 20]),(.cond 21 .skip (.exit 0))]),(.block 1 (zsq [(.draw [zmv 25 0,zmv 26 8,zia 27 25 26 [TI],zld 28 27 1,zmv 29 1,zmv 30 8,zia 31 29 30 [TI],zld 32 31 1,zca 33 229 [28,32],zmv 24 33,zex 34 24 0,zex 35 24 1,zmv 9 34,zmv 10 35] []),(.reg [zmv 37 6,zmv 38 9,zca 39 162 [37,38],zmv 36 39,zex 40 36 0,zex 41 36 1,zmv 11 40,zmv 12 41]),(.reg [zmv 42 11,zmv 6 42]),(.reg [zmv 43 7,zmv 44 43,.grp 44 false [zmv 45 10] 46 45,zmv 47 46,.grp 47 false [zmv 48 12] 49 48,zmv 7 49])])),(.reg [zmv 22 8,zbi 23 .add 22 (zki 1),zmv 8 23])])
def Qzm:List (Nat × Md):=zdl [0,1,6,7,8]
def QAu:TCode :=
 (zsq [(.reg [zmv 50 6,zmv 51 7,zmv 4 50,zmv 5 51]),.ret])
def QQ2:TCode :=
 (zsq [(.reg [zmv 4 (zki 0),zmv 5 (zkb false)]),(.reg [zmv 6 (zki 0)]),(.reg [zmv 7 (zkb false)]),(zsq [(.reg [zmv 8 (zki 0)]),(.block 0 (.loop Qzm Qui))]),QAu])
def Qy2:List (ARv × Md):=[(.t 4,.one .d),(.t 5,.one .d)]
def Qxf:Qb:=TQ 0 0 Qy2 K
def QMO:Qb:=Qseq (tawp QqM 0 QAu (Qxf K)) (Qxf K)
def QXC:Qb:=Qblk 0 (QMO K)
def Qjb (a:List Int) (b:List Int) (sum:Int) (sat:Bool) (i:Int):Prop:=Loop QqM 0 Qzm Qui (QXC K) ⟨[(0,(zcs [TI] a)),(1,(zcs [TI] b)),(6,(zci sum)),(7,(zcb sat)),(8,(zci i))],[],0⟩
theorem Qps (a:List Int) (b:List Int) (sum:Int) (sat:Bool) (i:Int) (h :
 (zif ((decide (i<(a.length:Int)))&&(ZJ a b)) ((((0:Int)≤i∧Int.toNat i<a.length)∧((0:Int)≤i∧Int.toNat i<b.length))∧(Qjb K a b ((Q4 sum ((Zo (gtd (0:Int) a (Int.toNat i)) (gtd (0:Int) b (Int.toNat i))).1)).1) ((sat||((Zo (gtd (0:Int) a (Int.toNat i)) (gtd (0:Int) b (Int.toNat i))).2))||((Q4 sum ((Zo (gtd (0:Int) a (Int.toNat i)) (gtd (0:Int) b (Int.toNat i))).1)).2)) (w64 (i+(1:Int))))) (K (QdA (sum,sat))))):Qjb K a b sum sat i :=
 Loop.of (by kernel_rfl) h
theorem QOK (a:List Int) (b:List Int) (h :
 (Qjb K a b 0 false 0)):Hold (tawp QqM (0+0) QQ2 (TQ 0 0 Qy2 K) (Qd [(.c (.sl [TI]) a),(.c (.sl [TI]) b)])) :=
 Hold.of (by kernel_rfl) h
theorem QFX (a:List Int) (b:List Int):TCon Tryz.prog 206 [(.c (.sl [TI]) a),(.c (.sl [TI]) b)] (QdA (Q0 a b)):=by
 refine Qj rfl fun hb=>tcg (n:=52) (sg:=QeD.sg) Qg (TOk.cons Qkl (TOk.cons Qor (TOk.cons QjM TOk.nil))) (by kernel_rfl) (by kernel_rfl) (QOK _ a b ?_)
 have hl_a:a.length≤9223372036854775807:=hb.1.1
 have hl_b:b.length≤9223372036854775807:=hb.2.1.1
 by_cases hp:ZJ a b=true
 rotate_left
 ·refine Qps (fun r'=>r'=QdA (Q0 a b)) a b _ _ _ ⟨fun h=>by simp [hp] at h,fun _=>R_eq (by unfold Q0;rw [if_neg hp])⟩
 have hl:=JM.1 hp
 have h6:=(Z0.1 hl.1).1
 refine Zp a (fun r k=>∀ (z:Int) (s:Bool),((Y5 r (b.drop k) z).1,s||(Y5 r (b.drop k) z).2)=(Q0 a b)→Qjb (fun r'=>r'=QdA (Q0 a b)) a b z s k) ?_ ?_ 0 false (by unfold Q0;rw [if_pos hp];simp)
 ·intro z s he
  refine Qps (fun r'=>r'=QdA (Q0 a b)) a b _ _ _ ⟨fun h=>by simp at h,fun _=>R_eq ?_⟩
  rw [← he];simp [Y5]
 ·intro k x r hk hlt hg ih z s he
  obtain ⟨y,q,hq⟩:=Jg (l:=b) (k:=k) (by omega)
  refine Qps (fun r'=>r'=QdA (Q0 a b)) a b _ _ _ ⟨fun _=>?_,fun h=>by simp [hp] at h;omega⟩
  rw [Int.toNat_natCast,hg,Yp hq,sc1 (by omega)]
  refine ⟨⟨⟨by omega,hlt⟩,by omega,by omega⟩,ih _ _ ?_⟩
  rw [← he,hq,Y5,Z6 hq]
  simp [Bool.or_assoc]
theorem QhI:Qe Tryz.prog QeD:=Qh fun x _=>QFX x.1 x.2.1
def QcO (t:(List Int)):TRes:=zra (zcs [TI] t)
def Qnx:TRow:=Qf 215 [(.c (.sl [TI]))] fun x=>(none,QcO (Yd x.1))
def Qmy:List TRow:=[Qbs,Qqu]
def QtM:TCode :=
 (zsq [(.reg [zbi 13 .lss 12 11]),(.cond 13 .skip (.exit 0)),(.block 1 (zsq [(.reg [zia 14 10 12 [TI],zld 15 14 1,zmv 5 15]),(.reg [zmv 16 3,zmv 17 5,zca 18 234 [17],zop 19 (.bsl 3 [TI] [18]),zop 20 (.app 16 19 3 [TI]),zmv 3 20])])),(.reg [zbi 21 .add 12 (zki 1),zmv 12 21])])
def QxX:List (Nat × Md):=[(3,.one .f),(10,.one .d),(11,.one .d),(12,.one .d)]
def QBe:TCode :=
 (zsq [(.reg [zmv 22 3,zmv 2 22]),.ret])
def QLv:TCode :=
 (zsq [(.reg [zmv 2 (.k (.n [TI]))]),(zsq [(.reg [zmv 6 0,zca 7 134 [6],zno 8 7]),(.cond 8 (zsq [(.reg [zmv 2 (.k (.n [TI]))]),.ret]) .skip)]),(.reg [zop 9 (.bsl 3 [TI] []),zmv 3 9]),(zsq [(.reg [zmv 10 0,zle 11 10,zmv 12 (zki 0)]),(.block 0 (.loop QxX QtM))]),QBe])
def QuB:List (ARv × Md):=[(.t 2,.one .d)]
def Qu0:Qb:=TQ 0 0 QuB K
def QXp:Qb:=Qseq (tawp Qmy 0 QBe (Qu0 K)) (Qu0 K)
def QHG:Qb:=Qblk 0 (QXp K)
def Qg0 (a:List Int) (x:Int) (v:List Int):Prop:=Loop Qmy 0 QxX QtM (QHG K) ⟨[(3,(.r [TI] 0 0 v.length)),(10,(zcs [TI] a)),(11,(zci (a.length:Int))),(12,(zci x))],[(0,(.sl 3 [TI] true v))],1⟩
theorem Qx2 (a:List Int) (x:Int) (v:List Int) (h :
 (zif (decide (x<(a.length:Int))) (((0:Int)≤x∧Int.toNat x<a.length)∧(((v.length=v.length∨v.length+1≤v.length)∧v.length+1≤big)∧(Qg0 K a (w64 (x+(1:Int))) (List.take (v.length+1) ((List.take v.length v)++([(Qao (gtd (0:Int) a (Int.toNat x)))])))))) (K (QcO (List.take v.length (List.drop 0 v)))))):Qg0 K a x v :=
 Loop.of (by kernel_rfl) h
theorem QOu (a:List Int) (h :
 (zif (!(QU a)) (K (QcO ([]))) (Qg0 K a 0 ([]:List Int)))):Hold (tawp Qmy (0+0) QLv (TQ 0 0 QuB K) (Qd [(.c (.sl [TI]) a)])) :=
 Hold.of (by kernel_rfl) h
theorem QKR (a:List Int):TCon Tryz.prog 215 [(.c (.sl [TI]) a)] (QcO (Yd a)):=by
 refine Qj rfl fun hb=>tcg (n:=23) (sg:=Qnx.sg) Qg (TOk.cons QcE (TOk.cons QW6 TOk.nil)) (by kernel_rfl) (by kernel_rfl) (QOu _ a ?_)
 have hl_a:a.length≤9223372036854775807:=hb.1.1
 refine ⟨fun h=>R_eq (by unfold Yd;rw [if_neg (by simpa using h)]),fun h=>?_⟩
 have hp:QU a=true:=by simpa using h
 have h6:=(Z0.1 hp).1
 refine Zp a (fun r k=>∀ (v:List Int),v.length=k→v++r.map Qao=(Yd a)→Qg0 (fun r'=>r'=QcO (Yd a)) a k v) ?_ ?_ [] rfl (by unfold Yd;rw [if_pos hp];simp)
 ·intro v hv he
  refine Qx2 (fun r'=>r'=QcO (Yd a)) a _ _ ⟨fun h=>by simp at h,fun _=>R_eq ?_⟩
  rw [← he];simp
 ·intro k x r hk hlt hg ih v hv he
  refine Qx2 (fun r'=>r'=QcO (Yd a)) a _ _ ⟨fun _=>?_,fun h=>by simp at h;omega⟩
  rw [Int.toNat_natCast,hg,sc1 (by omega),Zf]
  refine ⟨⟨by omega,hlt⟩,room (by omega),ih _ (YF hv) ?_⟩
  rw [← he];simp
theorem QPs:Qe Tryz.prog Qnx:=Qh fun x _=>QKR x.1
def Qdc (t:(List Int)):TRes:=zra (zcs [TI] t)
def Qla:TRow:=Qf 227 [(.c (.sl [TI]))] fun x=>(none,Qdc (Yd x.1))
def Qob:List TRow:=[Qar,QmL]
def QxM:TCode :=
 (zsq [(zsq [(.reg [zmv 6 4,zmv 7 0,zle 8 7,zbi 9 .lss 6 8,zmv 10 9,.grp 10 true [zmv 11 0,zca 12 42 [11]] 13 12]),(.cond 13 .skip (.exit 0))]),(.block 1 (.reg [zmv 16 3,zmv 17 0,zmv 18 4,zia 19 17 18 [TI],zld 20 19 1,zca 21 238 [20],zop 22 (.bsl 3 [TI] [21]),zop 23 (.app 16 22 3 [TI]),zmv 3 23])),(.reg [zmv 14 4,zbi 15 .add 14 (zki 1),zmv 4 15])])
def QAk:List (Nat × Md):=[(0,.one .d),(3,.one .f),(4,.one .d)]
def QAy:TCode :=
 (zsq [(.reg [zmv 24 3,zmv 2 24]),.ret])
def QTm:TCode :=
 (zsq [(.reg [zmv 2 (.k (.n [TI]))]),(.reg [zop 5 (.bsl 3 [TI] []),zmv 3 5]),(zsq [(.reg [zmv 4 (zki 0)]),(.block 0 (.loop QAk QxM))]),QAy])
def QzO:List (ARv × Md):=[(.t 2,.one .d)]
def Qsj:Qb:=TQ 0 0 QzO K
def QE6:Qb:=Qseq (tawp Qob 0 QAy (Qsj K)) (Qsj K)
def QVK:Qb:=Qblk 0 (QE6 K)
def Qg3 (a:List Int) (i:Int) (out:List Int):Prop:=Loop Qob 0 QAk QxM (QVK K) ⟨[(0,(zcs [TI] a)),(3,(.r [TI] 0 0 out.length)),(4,(zci i))],[(0,(.sl 3 [TI] true out))],1⟩
theorem QnF (a:List Int) (i:Int) (out:List Int) (h :
 (zif ((decide (i<(a.length:Int)))&&(QU a)) ((((0:Int)≤i∧Int.toNat i<a.length)∧((out.length=out.length∨out.length+1≤out.length)∧out.length+1≤big))∧(Qg3 K a (w64 (i+(1:Int))) (List.take (out.length+1) ((List.take out.length out)++([(Qao (gtd (0:Int) a (Int.toNat i)))]))))) (K (Qdc (List.take out.length (List.drop 0 out)))))):Qg3 K a i out :=
 Loop.of (by kernel_rfl) h
theorem QUM (a:List Int) (h :
 (Qg3 K a 0 ([]:List Int))):Hold (tawp Qob (0+0) QTm (TQ 0 0 QzO K) (Qd [(.c (.sl [TI]) a)])) :=
 Hold.of (by kernel_rfl) h
theorem QSB (a:List Int):TCon Tryz.prog 227 [(.c (.sl [TI]) a)] (Qdc (Yd a)):=by
 refine Qj rfl fun hb=>tcg (n:=25) (sg:=Qla.sg) Qg (TOk.cons Qbm (TOk.cons QVI TOk.nil)) (by kernel_rfl) (by kernel_rfl) (QUM _ a ?_)
 have hl_a:a.length≤9223372036854775807:=hb.1.1
 by_cases hp:QU a=true
 rotate_left
 ·refine QnF (fun r'=>r'=Qdc (Yd a)) a _ _ ⟨fun h=>by simp [hp] at h,fun _=>R_eq (by unfold Yd;rw [if_neg hp];rfl)⟩
 have h6:=(Z0.1 hp).1
 refine Zp a (fun r k=>∀ (v:List Int),v.length=k→v++r.map Qao=(Yd a)→Qg3 (fun r'=>r'=Qdc (Yd a)) a k v) ?_ ?_ [] rfl (by unfold Yd;rw [if_pos hp];simp)
 ·intro v hv he
  refine QnF (fun r'=>r'=Qdc (Yd a)) a _ _ ⟨fun h=>by simp at h,fun _=>R_eq ?_⟩
  rw [← he];simp
 ·intro k x r hk hlt hg ih v hv he
  refine QnF (fun r'=>r'=Qdc (Yd a)) a _ _ ⟨fun _=>?_,fun h=>by simp [hp] at h;omega⟩
  rw [Int.toNat_natCast,hg,sc1 (by omega),Zf]
  refine ⟨⟨⟨by omega,hlt⟩,room (by omega)⟩,ih _ (YF hv) ?_⟩
  rw [← he];simp
theorem QWb:Qe Tryz.prog Qla:=Qh fun x _=>QSB x.1
def Qdw (t:(List Int)):TRes:=zra (zcs [TI] t)
def Qqx:TRow:=Qf 220 [(.c (.sl [TI])),(.c (.sl [TI]))] fun x=>(none,Qdw (Yg x.1 x.2.1))
def Qoe:List TRow:=[QeK]
def QB4:TCode :=
 (zsq [(.reg [zbi 15 .lss 14 13]),(.cond 15 .skip (.exit 0)),(.block 1 (zsq [(.reg [zmv 16 14,zmv 6 16]),(.reg [zmv 17 0,zmv 18 6,zia 19 17 18 [TI],zld 20 19 1,zbi 21 .gtr 20 (zki 0)]),(.cond 21 (.reg [zmv 22 5,zmv 23 1,zmv 24 6,zia 25 23 24 [TI],zld 26 25 1,zop 27 (.bsl 3 [TI] [26]),zop 28 (.app 22 27 3 [TI]),zmv 5 28]) (.reg [zmv 29 5,zop 30 (.bsl 3 [TI] [(zki 0)]),zop 31 (.app 29 30 3 [TI]),zmv 5 31]))])),(.reg [zbi 32 .add 14 (zki 1),zmv 14 32])])
def QrK:List (Nat × Md):=[(0,.one .d),(1,.one .d),(5,.one .f),(13,.one .d),(14,.one .d)]
def QCa:TCode :=
 (zsq [(.reg [zmv 33 5,zmv 4 33]),.ret])
def QK1:TCode :=
 (zsq [(.reg [zmv 4 (.k (.n [TI]))]),(zsq [(.reg [zmv 7 0,zmv 8 1,zca 9 191 [7,8],zno 10 9]),(.cond 10 (zsq [(.reg [zmv 4 (.k (.n [TI]))]),.ret]) .skip)]),(.reg [zop 11 (.bsl 3 [TI] []),zmv 5 11]),(zsq [(.reg [zmv 12 0,zle 13 12,zmv 14 (zki 0)]),(.block 0 (.loop QrK QB4))]),QCa])
def Qs5:List (ARv × Md):=[(.t 4,.one .d)]
def QuN:Qb:=TQ 0 0 Qs5 K
def QFH:Qb:=Qseq (tawp Qoe 0 QCa (QuN K)) (QuN K)
def QUY:Qb:=Qblk 0 (QFH K)
def QfS (x:List Int) (d:List Int) (x1:Int) (v:List Int):Prop:=Loop Qoe 0 QrK QB4 (QUY K) ⟨[(0,(zcs [TI] x)),(1,(zcs [TI] d)),(5,(.r [TI] 0 0 v.length)),(13,(zci (x.length:Int))),(14,(zci x1))],[(0,(.sl 3 [TI] true v))],1⟩
theorem QwT (x:List Int) (d:List Int) (x1:Int) (v:List Int) (h :
 (zif (decide (x1<(x.length:Int))) (((0:Int)≤x1∧Int.toNat x1<x.length)∧(zif (decide ((gtd (0:Int) x (Int.toNat x1))>(0:Int))) ((((0:Int)≤x1∧Int.toNat x1<d.length)∧((v.length=v.length∨v.length+1≤v.length)∧v.length+1≤big))∧(QfS K x d (w64 (x1+(1:Int))) (List.take (v.length+1) ((List.take v.length v)++([(gtd (0:Int) d (Int.toNat x1))]))))) (((v.length=v.length∨v.length+1≤v.length)∧v.length+1≤big)∧(QfS K x d (w64 (x1+(1:Int))) (List.take (v.length+1) ((List.take v.length v)++([(0:Int)]))))))) (K (Qdw (List.take v.length (List.drop 0 v)))))):QfS K x d x1 v :=
 Loop.of (by kernel_rfl) h
theorem QQb (x:List Int) (d:List Int) (h :
 (zif (!(ZJ x d)) (K (Qdw ([]))) (QfS K x d 0 ([]:List Int)))):Hold (tawp Qoe (0+0) QK1 (TQ 0 0 Qs5 K) (Qd [(.c (.sl [TI]) x),(.c (.sl [TI]) d)])) :=
 Hold.of (by kernel_rfl) h
theorem QEn (x:List Int) (d:List Int):TCon Tryz.prog 220 [(.c (.sl [TI]) x),(.c (.sl [TI]) d)] (Qdw (Yg x d)):=by
 refine Qj rfl fun hb=>tcg (n:=34) (sg:=Qqx.sg) Qg (TOk.cons Qid TOk.nil) (by kernel_rfl) (by kernel_rfl) (QQb _ x d ?_)
 have hl_x:x.length≤9223372036854775807:=hb.1.1
 have hl_d:d.length≤9223372036854775807:=hb.2.1.1
 refine ⟨fun h=>R_eq (by unfold Yg;rw [if_neg (by simpa using h)]),fun h=>?_⟩
 have hp:ZJ x d=true:=by simpa using h
 have hl:=JM.1 hp
 have h6:=(Z0.1 hl.1).1
 refine Zp x (fun r k=>∀ (v:List Int),v.length=k→v++List.zipWith (fun a b=>if 0<a then b else 0) r (d.drop k)=(Yg x d)→QfS (fun r'=>r'=Qdw (Yg x d)) x d k v) ?_ ?_ [] rfl (by unfold Yg;rw [if_pos hp];simp)
 ·intro v hv he
  refine QwT (fun r'=>r'=Qdw (Yg x d)) x d _ _ ⟨fun h=>by simp at h,fun _=>R_eq ?_⟩
  rw [← he];simp
 ·intro k y r hk hlt hg ih v hv he
  obtain ⟨z,q,hq⟩:=Jg (l:=d) (k:=k) (by omega)
  refine QwT (fun r'=>r'=Qdw (Yg x d)) x d _ _ ⟨fun _=>?_,fun h=>by simp at h;omega⟩
  rw [Int.toNat_natCast,hg,Yp hq,sc1 (by omega),Zf,Zf]
  rw [hq,List.zipWith_cons_cons,← Z6 hq] at he
  refine ⟨⟨by omega,hlt⟩,fun h=>⟨⟨⟨by omega,by omega⟩,room (by omega)⟩,ih _ (YF hv) ?_⟩,fun h=>⟨room (by omega),ih _ (YF hv) ?_⟩⟩
  ·rw [← he,if_pos (by simpa using h)];simp
  ·rw [← he,if_neg (by simpa using h)];simp
theorem QNO:Qe Tryz.prog Qqx:=Qh fun x _=>QEn x.1 x.2.1
def QcP (t:(List Int)):TRes:=zra (zcs [TI] t)
def Qpf:TRow:=Qf 230 [(.c (.sl [TI])),(.c (.sl [TI]))] fun x=>(none,QcP (Yg x.1 x.2.1))
def Qo3:List TRow:=[QdG]
def Qxr:TCode :=
 (zsq [(zsq [(.reg [zmv 8 6,zmv 9 0,zle 10 9,zbi 11 .lss 8 10,zmv 12 11,.grp 12 true [zmv 13 0,zmv 14 1,zca 15 207 [13,14]] 16 15]),(.cond 16 .skip (.exit 0))]),(.block 1 (zsq [(.reg [zmv 19 0,zmv 20 6,zia 21 19 20 [TI],zld 22 21 1,zbi 23 .gtr 22 (zki 0)]),(.cond 23 (.reg [zmv 24 5,zmv 25 1,zmv 26 6,zia 27 25 26 [TI],zld 28 27 1,zop 29 (.bsl 3 [TI] [28]),zop 30 (.app 24 29 3 [TI]),zmv 5 30]) (.reg [zmv 31 5,zop 32 (.bsl 3 [TI] [(zki 0)]),zop 33 (.app 31 32 3 [TI]),zmv 5 33]))])),(.reg [zmv 17 6,zbi 18 .add 17 (zki 1),zmv 6 18])])
def QAH:List (Nat × Md):=[(0,.one .d),(1,.one .d),(5,.one .f),(6,.one .d)]
def Qss:TCode :=
 (zsq [(.reg [zmv 34 5,zmv 4 34]),.ret])
def QHw:TCode :=
 (zsq [(.reg [zmv 4 (.k (.n [TI]))]),(.reg [zop 7 (.bsl 3 [TI] []),zmv 5 7]),(zsq [(.reg [zmv 6 (zki 0)]),(.block 0 (.loop QAH Qxr))]),Qss])
def Qvy:List (ARv × Md):=[(.t 4,.one .d)]
def QyY:Qb:=TQ 0 0 Qvy K
def QFG:Qb:=Qseq (tawp Qo3 0 Qss (QyY K)) (QyY K)
def QEr:Qb:=Qblk 0 (QFG K)
def Qf8 (x:List Int) (d:List Int) (i:Int) (out:List Int):Prop:=Loop Qo3 0 QAH Qxr (QEr K) ⟨[(0,(zcs [TI] x)),(1,(zcs [TI] d)),(5,(.r [TI] 0 0 out.length)),(6,(zci i))],[(0,(.sl 3 [TI] true out))],1⟩
theorem Qo4 (x:List Int) (d:List Int) (i:Int) (out:List Int) (h :
 (zif ((decide (i<(x.length:Int)))&&(ZJ x d)) (((0:Int)≤i∧Int.toNat i<x.length)∧(zif (decide ((gtd (0:Int) x (Int.toNat i))>(0:Int))) ((((0:Int)≤i∧Int.toNat i<d.length)∧((out.length=out.length∨out.length+1≤out.length)∧out.length+1≤big))∧(Qf8 K x d (w64 (i+(1:Int))) (List.take (out.length+1) ((List.take out.length out)++([(gtd (0:Int) d (Int.toNat i))]))))) (((out.length=out.length∨out.length+1≤out.length)∧out.length+1≤big)∧(Qf8 K x d (w64 (i+(1:Int))) (List.take (out.length+1) ((List.take out.length out)++([(0:Int)]))))))) (K (QcP (List.take out.length (List.drop 0 out)))))):Qf8 K x d i out :=
 Loop.of (by kernel_rfl) h
theorem QTE (x:List Int) (d:List Int) (h :
 (Qf8 K x d 0 ([]:List Int))):Hold (tawp Qo3 (0+0) QHw (TQ 0 0 Qvy K) (Qd [(.c (.sl [TI]) x),(.c (.sl [TI]) d)])) :=
 Hold.of (by kernel_rfl) h
theorem QXv (x:List Int) (d:List Int):TCon Tryz.prog 230 [(.c (.sl [TI]) x),(.c (.sl [TI]) d)] (QcP (Yg x d)):=by
 refine Qj rfl fun hb=>tcg (n:=35) (sg:=Qpf.sg) Qg (TOk.cons Qkl TOk.nil) (by kernel_rfl) (by kernel_rfl) (QTE _ x d ?_)
 have hl_x:x.length≤9223372036854775807:=hb.1.1
 have hl_d:d.length≤9223372036854775807:=hb.2.1.1
 by_cases hp:ZJ x d=true
 rotate_left
 ·refine Qo4 (fun r'=>r'=QcP (Yg x d)) x d _ _ ⟨fun h=>by simp [hp] at h,fun _=>R_eq (by unfold Yg;rw [if_neg hp];rfl)⟩
 have hl:=JM.1 hp
 have h6:=(Z0.1 hl.1).1
 refine Zp x (fun r k=>∀ (v:List Int),v.length=k→v++List.zipWith (fun a b=>if 0<a then b else 0) r (d.drop k)=(Yg x d)→Qf8 (fun r'=>r'=QcP (Yg x d)) x d k v) ?_ ?_ [] rfl (by unfold Yg;rw [if_pos hp];simp)
 ·intro v hv he
  refine Qo4 (fun r'=>r'=QcP (Yg x d)) x d _ _ ⟨fun h=>by simp at h,fun _=>R_eq ?_⟩
  rw [← he];simp
 ·intro k y r hk hlt hg ih v hv he
  obtain ⟨z,q,hq⟩:=Jg (l:=d) (k:=k) (by omega)
  refine Qo4 (fun r'=>r'=QcP (Yg x d)) x d _ _ ⟨fun _=>?_,fun h=>by simp [hp] at h;omega⟩
  rw [Int.toNat_natCast,hg,Yp hq,sc1 (by omega),Zf,Zf]
  rw [hq,List.zipWith_cons_cons,← Z6 hq] at he
  refine ⟨⟨by omega,hlt⟩,fun h=>⟨⟨⟨by omega,by omega⟩,room (by omega)⟩,ih _ (YF hv) ?_⟩,fun h=>⟨room (by omega),ih _ (YF hv) ?_⟩⟩
  ·rw [← he,if_pos (by simpa using h)];simp
  ·rw [← he,if_neg (by simpa using h)];simp
theorem QKp:Qe Tryz.prog Qpf:=Qh fun x _=>QXv x.1 x.2.1
end
end Go.Proofs.YtjbdljkhbglnhaaGreat.Am

