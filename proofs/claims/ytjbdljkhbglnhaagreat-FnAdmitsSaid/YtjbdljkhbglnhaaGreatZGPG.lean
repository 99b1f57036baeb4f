/- -/
import Derived.Test.YtjbdljkhbglnhaaGreatZGP1
import Derived.Test.YtjbdljkhbglnhaaGreatZGPF
namespace Go.Proofs.YtjbdljkhbglnhaaGreat.Am
open Go Go.RowKit Go.Proofs.YtjbdljkhbglnhaaGreat
set_option linter.all false
noncomputable section
variable (K:TRes→Prop)
def Qni (t:Bool):TRes:=zre (zcb t)
def QdK:TRow:=Qi 191 [(.c (.sl [TI])),(.c (.sl [TI]))] fun x=>(none,Qni (Yb x.1 x.2.1))
def QIx:List TRow:=[Qba,JJ]
def QBt:TCode :=
 (zsq [(.reg [zmv 4 (zkb false)]),(.reg [zmv 5 0,zca 6 134 [5],zmv 7 6,.grp 7 true [zmv 8 1,zmv 9 0,zle 10 9,zca 11 114 [8,10]] 12 11,zmv 4 12]),.ret])
def QMK:List (ARv × Md):=[(.t 4,.one .d)]
theorem QQc (a:List Int) (b:List Int) (h :
 K (Qni ((QW a)&&(Qq b (a.length:Int))))):Hold (tawp QIx (0+0) QBt (TQ 0 0 QMK K) (Qf [(.c (.sl [TI]) a),(.c (.sl [TI]) b)])) :=
 Hold.of (by kernel_rfl) h
theorem QCh (a:List Int) (b:List Int):TCon Tryz.prog 191 [(.c (.sl [TI]) a),(.c (.sl [TI]) b)] (Qni (Yb a b)):=by
 refine Qr rfl fun hb=>tcg (n:=13) (sg:=QdK.sg) Qk (TOk.cons Qce (TOk.cons Qaa TOk.nil)) (by kernel_rfl) (by kernel_rfl) (QQc _ a b ?_)
 have hl_a:a.length≤9223372036854775807:=hb.1.1
 have hl_b:b.length≤9223372036854775807:=hb.2.1.1
 exact R_eq rfl
theorem Qho:Qj Tryz.prog QdK:=Ql fun x _=>QCh x.1 x.2.1
def Qcm (t:(List Int) × Bool):TRes:=zra (.tp [(zcs [TI] t.1),(zcb t.2)])
def QgO:TRow:=Qi 213 [(.c (.sl [TI])),(.c (.sl [TI]))] fun x=>(none,Qcm (ZW x.1 x.2.1))
def QlO:List TRow:=[QdK,QdS]
def Qvz:TCode :=
 (zsq [(.reg [zbi 19 .lss 18 17]),(.cond 19 .skip (.exit 0)),(.block 1 (zsq [(.reg [zmv 20 18,zmv 8 20]),(.draw [zmv 22 0,zmv 23 8,zia 24 22 23 [TI],zld 25 24 1,zmv 26 1,zmv 27 8,zia 28 26 27 [TI],zld 29 28 1,zca 30 121 [25,29],zmv 21 30,zex 31 21 0,zex 32 21 1,zmv 9 31,zmv 10 32] []),(.reg [zmv 33 6,zmv 34 9,zop 35 (.bsl 3 [TI] [34]),zop 36 (.app 33 35 3 [TI]),zmv 6 36]),(.reg [zmv 37 7,zmv 38 37,.grp 38 false [zmv 39 10] 40 39,zmv 7 40])])),(.reg [zbi 41 .add 18 (zki 1),zmv 18 41])])
def QyV:List (Nat × Md):=[(0,.one .d),(1,.one .d),(6,.one .f),(7,.one .d),(17,.one .d),(18,.one .d)]
def QxI:TCode :=
 (zsq [(.reg [zmv 42 6,zmv 43 7,zmv 4 42,zmv 5 43]),.ret])
def QGM:TCode :=
 (zsq [(.reg [zmv 4 (.k (.n [TI])),zmv 5 (zkb false)]),(zsq [(.reg [zmv 11 0,zmv 12 1,zca 13 191 [11,12],zno 14 13]),(.cond 14 (zsq [(.reg [zmv 4 (.k (.n [TI])),zmv 5 (zkb false)]),.ret]) .skip)]),(.reg [zop 15 (.bsl 3 [TI] []),zmv 6 15]),(.reg [zmv 7 (zkb false)]),(zsq [(.reg [zmv 16 0,zle 17 16,zmv 18 (zki 0)]),(.block 0 (.loop QyV Qvz))]),QxI])
def Qpy:List (ARv × Md):=[(.t 4,.one .d),(.t 5,.one .d)]
def QxH:Qb:=TQ 0 0 Qpy K
def QOg:Qb:=Qseq (tawp QlO 0 QxI (QxH K)) (QxH K)
def QKQ:Qb:=Qblk 0 (QOg K)
def QfI (a:List Int) (b:List Int) (out:Bool) (x:Int) (v:List Int):Prop:=Loop QlO 0 QyV Qvz (QKQ K) ⟨[(0,(zcs [TI] a)),(1,(zcs [TI] b)),(6,(.r [TI] 0 0 v.length)),(7,(zcb out)),(17,(zci (a.length:Int))),(18,(zci x))],[(0,(.sl 3 [TI] true v))],1⟩
theorem QtZ (a:List Int) (b:List Int) (out:Bool) (x:Int) (v:List Int) (h :
 (zif (decide (x<(a.length:Int))) ((((0:Int)≤x∧Int.toNat x<a.length)∧((0:Int)≤x∧Int.toNat x<b.length))∧(((v.length=v.length∨v.length+1≤v.length)∧v.length+1≤big)∧(QfI K a b (out||((Zn (gtd (0:Int) a (Int.toNat x)) (gtd (0:Int) b (Int.toNat x))).2)) (w64 (x+(1:Int))) (List.take (v.length+1) ((List.take v.length v)++([(Zn (gtd (0:Int) a (Int.toNat x)) (gtd (0:Int) b (Int.toNat x))).1])))))) (K (Qcm ((List.take v.length (List.drop 0 v)),out))))):QfI K a b out x v :=
 Loop.of (by kernel_rfl) h
theorem QAh (a:List Int) (b:List Int) (h :
 (zif (!(Yb a b)) (K (Qcm ([],false))) (QfI K a b false 0 ([]:List Int)))):Hold (tawp QlO (0+0) QGM (TQ 0 0 Qpy K) (Qf [(.c (.sl [TI]) a),(.c (.sl [TI]) b)])) :=
 Hold.of (by kernel_rfl) h
theorem QEs (a:List Int) (b:List Int):TCon Tryz.prog 213 [(.c (.sl [TI]) a),(.c (.sl [TI]) b)] (Qcm (ZW a b)):=by
 refine Qr rfl fun hb=>tcg (n:=44) (sg:=QgO.sg) Qk (TOk.cons Qho (TOk.cons Qib TOk.nil)) (by kernel_rfl) (by kernel_rfl) (QAh _ a b ?_)
 have hl_a:a.length≤9223372036854775807:=hb.1.1
 have hl_b:b.length≤9223372036854775807:=hb.2.1.1
 refine ⟨fun h=>R_eq (by unfold ZW;rw [if_neg (by simpa using h)]),fun h=>?_⟩
 have hp:Yb a b=true:=by simpa using h
 have hl:=Qa7.1 hp
 have h6:=(YF.1 hl.1).1
 refine Zz a (fun r k=>∀ (v:List Int) (s:Bool),v.length=k→(v++(vz Zn r (b.drop k)).1,s||(vz Zn r (b.drop k)).2)=(ZW a b)→QfI (fun r'=>r'=Qcm (ZW a b)) a b s k v) ?_ ?_ [] false rfl (by unfold ZW;rw [if_pos hp];simp)
 ·intro v s hv he
  refine QtZ (fun r'=>r'=Qcm (ZW a b)) a b _ _ _ ⟨fun h=>by simp at h,fun _=>R_eq ?_⟩
  rw [← he];simp [vz]
 ·intro k x r hk hlt hg ih v s hv he
  obtain ⟨y,q,hq⟩:=Qbo (l:=b) (k:=k) (by omega)
  refine QtZ (fun r'=>r'=Qcm (ZW a b)) a b _ _ _ ⟨fun _=>?_,fun h=>by simp at h;omega⟩
  rw [Int.toNat_natCast,hg,Y1 hq,sc1 (by omega),Zx]
  refine ⟨⟨⟨by omega,hlt⟩,by omega,by omega⟩,room (by omega),ih _ _ (JR hv) ?_⟩
  rw [← he,hq,vz,YL hq]
  simp [Bool.or_assoc]
theorem QoB:Qj Tryz.prog QgO:=Ql fun x _=>QEs x.1 x.2.1
def QcP (t:(List Int) × Bool):TRes:=zra (.tp [(zcs [TI] t.1),(zcb t.2)])
def QiH:TRow:=Qi 124 [(.c (.sl [TI])),(.c (.sl [TI]))] fun x=>(none,QcP (Zu x.1 x.2.1))
def Qnm:List TRow:=[QdK,QlB]
def QoI:TCode :=
 (zsq [(.reg [zbi 19 .lss 18 17]),(.cond 19 .skip (.exit 0)),(.block 1 (zsq [(.reg [zmv 20 18,zmv 8 20]),(.draw [zmv 22 0,zmv 23 8,zia 24 22 23 [TI],zld 25 24 1,zmv 26 1,zmv 27 8,zia 28 26 27 [TI],zld 29 28 1,zca 30 192 [25,29],zmv 21 30,zex 31 21 0,zex 32 21 1,zmv 9 31,zmv 10 32] []),(.reg [zmv 33 6,zmv 34 9,zop 35 (.bsl 3 [TI] [34]),zop 36 (.app 33 35 3 [TI]),zmv 6 36]),(.reg [zmv 37 7,zmv 38 37,.grp 38 false [zmv 39 10] 40 39,zmv 7 40])])),(.reg [zbi 41 .add 18 (zki 1),zmv 18 41])])
def QxO:List (Nat × Md):=[(0,.one .d),(1,.one .d),(6,.one .f),(7,.one .d),(17,.one .d),(18,.one .d)]
def Qox:TCode :=
 (zsq [(.reg [zmv 42 6,zmv 43 7,zmv 4 42,zmv 5 43]),.ret])
def QGv:TCode :=
 (zsq [(.reg [zmv 4 (.k (.n [TI])),zmv 5 (zkb false)]),(zsq [(.reg [zmv 11 0,zmv 12 1,zca 13 191 [11,12],zno 14 13]),(.cond 14 (zsq [(.reg [zmv 4 (.k (.n [TI])),zmv 5 (zkb false)]),.ret]) .skip)]),(.reg [zop 15 (.bsl 3 [TI] []),zmv 6 15]),(.reg [zmv 7 (zkb false)]),(zsq [(.reg [zmv 16 0,zle 17 16,zmv 18 (zki 0)]),(.block 0 (.loop QxO QoI))]),Qox])
def Qqt:List (ARv × Md):=[(.t 4,.one .d),(.t 5,.one .d)]
def Qqu:Qb:=TQ 0 0 Qqt K
def Qzx:Qb:=Qseq (tawp Qnm 0 Qox (Qqu K)) (Qqu K)
def QEE:Qb:=Qblk 0 (Qzx K)
def QgW (a:List Int) (b:List Int) (out:Bool) (x:Int) (v:List Int):Prop:=Loop Qnm 0 QxO QoI (QEE K) ⟨[(0,(zcs [TI] a)),(1,(zcs [TI] b)),(6,(.r [TI] 0 0 v.length)),(7,(zcb out)),(17,(zci (a.length:Int))),(18,(zci x))],[(0,(.sl 3 [TI] true v))],1⟩
theorem Qup (a:List Int) (b:List Int) (out:Bool) (x:Int) (v:List Int) (h :
 (zif (decide (x<(a.length:Int))) ((((0:Int)≤x∧Int.toNat x<a.length)∧((0:Int)≤x∧Int.toNat x<b.length))∧(((v.length=v.length∨v.length+1≤v.length)∧v.length+1≤big)∧(QgW K a b (out||((Qby (gtd (0:Int) a (Int.toNat x)) (gtd (0:Int) b (Int.toNat x))).2)) (w64 (x+(1:Int))) (List.take (v.length+1) ((List.take v.length v)++([(Qby (gtd (0:Int) a (Int.toNat x)) (gtd (0:Int) b (Int.toNat x))).1])))))) (K (QcP ((List.take v.length (List.drop 0 v)),out))))):QgW K a b out x v :=
 Loop.of (by kernel_rfl) h
theorem QJS (a:List Int) (b:List Int) (h :
 (zif (!(Yb a b)) (K (QcP ([],false))) (QgW K a b false 0 ([]:List Int)))):Hold (tawp Qnm (0+0) QGv (TQ 0 0 Qqt K) (Qf [(.c (.sl [TI]) a),(.c (.sl [TI]) b)])) :=
 Hold.of (by kernel_rfl) h
theorem QKz (a:List Int) (b:List Int):TCon Tryz.prog 124 [(.c (.sl [TI]) a),(.c (.sl [TI]) b)] (QcP (Zu a b)):=by
 refine Qr rfl fun hb=>tcg (n:=44) (sg:=QiH.sg) Qk (TOk.cons Qho (TOk.cons QPM TOk.nil)) (by kernel_rfl) (by kernel_rfl) (QJS _ a b ?_)
 have hl_a:a.length≤9223372036854775807:=hb.1.1
 have hl_b:b.length≤9223372036854775807:=hb.2.1.1
 refine ⟨fun h=>R_eq (by unfold Zu;rw [if_neg (by simpa using h)]),fun h=>?_⟩
 have hp:Yb a b=true:=by simpa using h
 have hl:=Qa7.1 hp
 have h6:=(YF.1 hl.1).1
 refine Zz a (fun r k=>∀ (v:List Int) (s:Bool),v.length=k→(v++(vz Qby r (b.drop k)).1,s||(vz Qby r (b.drop k)).2)=(Zu a b)→QgW (fun r'=>r'=QcP (Zu a b)) a b s k v) ?_ ?_ [] false rfl (by unfold Zu;rw [if_pos hp];simp)
 ·intro v s hv he
  refine Qup (fun r'=>r'=QcP (Zu a b)) a b _ _ _ ⟨fun h=>by simp at h,fun _=>R_eq ?_⟩
  rw [← he];simp [vz]
 ·intro k x r hk hlt hg ih v s hv he
  obtain ⟨y,q,hq⟩:=Qbo (l:=b) (k:=k) (by omega)
  refine Qup (fun r'=>r'=QcP (Zu a b)) a b _ _ _ ⟨fun _=>?_,fun h=>by simp at h;omega⟩
  rw [Int.toNat_natCast,hg,Y1 hq,sc1 (by omega),Zx]
  refine ⟨⟨⟨by omega,hlt⟩,by omega,by omega⟩,room (by omega),ih _ _ (JR hv) ?_⟩
  rw [← he,hq,vz,YL hq]
  simp [Bool.or_assoc]
theorem Qy3:Qj Tryz.prog QiH:=Ql fun x _=>QKz x.1 x.2.1
def Qco (t:(List Int) × Bool):TRes:=zra (.tp [(zcs [TI] t.1),(zcb t.2)])
def QhF:TRow:=Qi 214 [(.c TI),(.c (.sl [TI]))] fun x=>(none,Qco (Yx x.1 x.2.1))
def QkJ:List TRow:=[Qe3,Qba,Qfp]
def QvC:TCode :=
 (zsq [(.reg [zbi 23 .lss 22 21]),(.cond 23 .skip (.exit 0)),(.block 1 (zsq [(.reg [zmv 24 22,zmv 8 24]),(.reg [zmv 26 0,zmv 27 1,zmv 28 8,zia 29 27 28 [TI],zld 30 29 1,zca 31 216 [26,30],zmv 25 31,zex 32 25 0,zex 33 25 1,zmv 9 32,zmv 10 33]),(.reg [zmv 34 6,zmv 35 9,zop 36 (.bsl 3 [TI] [35]),zop 37 (.app 34 36 3 [TI]),zmv 6 37]),(.reg [zmv 38 7,zmv 39 38,.grp 39 false [zmv 40 10] 41 40,zmv 7 41])])),(.reg [zbi 42 .add 22 (zki 1),zmv 22 42])])
def Qx8:List (Nat × Md):=[(0,.one .d),(1,.one .d),(6,.one .f),(7,.one .d),(21,.one .d),(22,.one .d)]
def QwY:TCode :=
 (zsq [(.reg [zmv 43 6,zmv 44 7,zmv 4 43,zmv 5 44]),.ret])
def Qzp:TCode :=
 (zsq [(.reg [zmv 4 (.k (.n [TI])),zmv 5 (zkb false)]),(zsq [(.reg [zmv 11 0,zca 12 217 [11],zno 13 12,zmv 14 13,.grp 14 false [zmv 15 1,zca 16 134 [15],zno 17 16] 18 17]),(.cond 18 (zsq [(.reg [zmv 4 (.k (.n [TI])),zmv 5 (zkb false)]),.ret]) .skip)]),(.reg [zop 19 (.bsl 3 [TI] []),zmv 6 19]),(.reg [zmv 7 (zkb false)]),(zsq [(.reg [zmv 20 1,zle 21 20,zmv 22 (zki 0)]),(.block 0 (.loop Qx8 QvC))]),QwY])
def QnZ:List (ARv × Md):=[(.t 4,.one .d),(.t 5,.one .d)]
def Qqj:Qb:=TQ 0 0 QnZ K
def QP3:Qb:=Qseq (tawp QkJ 0 QwY (Qqj K)) (Qqj K)
def QDG:Qb:=Qblk 0 (QP3 K)
def QgV (c:Int) (a:List Int) (out:Bool) (x:Int) (v:List Int):Prop:=Loop QkJ 0 Qx8 QvC (QDG K) ⟨[(0,(zci c)),(1,(zcs [TI] a)),(6,(.r [TI] 0 0 v.length)),(7,(zcb out)),(21,(zci (a.length:Int))),(22,(zci x))],[(0,(.sl 3 [TI] true v))],1⟩
theorem Qw3 (c:Int) (a:List Int) (out:Bool) (x:Int) (v:List Int) (h :
 (zif (decide (x<(a.length:Int))) (((0:Int)≤x∧Int.toNat x<a.length)∧(((v.length=v.length∨v.length+1≤v.length)∧v.length+1≤big)∧(QgV K c a (out||((Z0 c (gtd (0:Int) a (Int.toNat x))).2)) (w64 (x+(1:Int))) (List.take (v.length+1) ((List.take v.length v)++([(Z0 c (gtd (0:Int) a (Int.toNat x))).1])))))) (K (Qco ((List.take v.length (List.drop 0 v)),out))))):QgV K c a out x v :=
 Loop.of (by kernel_rfl) h
theorem QAP (c:Int) (a:List Int) (h :
 (zif ((!(Zc c))||(!(QW a))) (K (Qco ([],false))) (QgV K c a false 0 ([]:List Int)))):Hold (tawp QkJ (0+0) Qzp (TQ 0 0 QnZ K) (Qf [(.c TI c),(.c (.sl [TI]) a)])) :=
 Hold.of (by kernel_rfl) h
theorem QFk (c:Int) (a:List Int):TCon Tryz.prog 214 [(.c TI c),(.c (.sl [TI]) a)] (Qco (Yx c a)):=by
 refine Qr rfl fun hb=>tcg (n:=45) (sg:=QhF.sg) Qk (TOk.cons QjM (TOk.cons Qce (TOk.cons Qlp TOk.nil))) (by kernel_rfl) (by kernel_rfl) (QAP _ c a ?_)
 have hl_a:a.length≤9223372036854775807:=hb.2.1.1
 refine ⟨fun h=>R_eq (by unfold Yx;rw [if_neg (by intro h2;simp at h2;simp [h2] at h)]),fun h=>?_⟩
 have hp:Zc c=true∧QW a=true:=by simpa using h
 have h6:=(YF.1 hp.2).1
 refine Zz a (fun r k=>∀ (v:List Int) (s:Bool),v.length=k→(v++(v1 (Z0 c) r).1,s||(v1 (Z0 c) r).2)=(Yx c a)→QgV (fun r'=>r'=Qco (Yx c a)) c a s k v) ?_ ?_ [] false rfl (by unfold Yx;rw [if_pos (by simp [hp])];simp)
 ·intro v s hv he
  refine Qw3 (fun r'=>r'=Qco (Yx c a)) c a _ _ _ ⟨fun h=>by simp at h,fun _=>R_eq ?_⟩
  rw [← he];simp [v1]
 ·intro k x r hk hlt hg ih v s hv he
  refine Qw3 (fun r'=>r'=Qco (Yx c a)) c a _ _ _ ⟨fun _=>?_,fun h=>by simp at h;omega⟩
  rw [Int.toNat_natCast,hg,sc1 (by omega),Zx]
  refine ⟨⟨by omega,hlt⟩,room (by omega),ih _ _ (JR hv) ?_⟩
  rw [← he,v1]
  simp [Bool.or_assoc]
theorem Qwr:Qj Tryz.prog QhF:=Ql fun x _=>QFk x.1 x.2.1
def QcA (t:Int × Bool):TRes:=zre (.tp [(zci t.1),(zcb t.2)])
def Qfk:TRow:=Qi 188 [(.c (.sl [TI])),(.c (.sl [TI]))] fun x=>(none,QcA (ZF x.1 x.2.1))
def Qja:List TRow:=[QdK,Qfp,QdS]
def QwL:TCode :=
 (zsq [(.reg [zbi 20 .lss 19 18]),(.cond 20 .skip (.exit 0)),(.block 1 (zsq [(.reg [zmv 21 19,zmv 8 21]),(.draw [zmv 23 0,zmv 24 8,zia 25 23 24 [TI],zld 26 25 1,zmv 27 1,zmv 28 8,zia 29 27 28 [TI],zld 30 29 1,zca 31 216 [26,30],zmv 22 31,zex 32 22 0,zex 33 22 1,zmv 9 32,zmv 10 33] []),(.reg [zmv 35 6,zmv 36 9,zca 37 121 [35,36],zmv 34 37,zex 38 34 0,zex 39 34 1,zmv 11 38,zmv 12 39]),(.reg [zmv 40 11,zmv 6 40]),(.reg [zmv 41 7,zmv 42 41,.grp 42 false [zmv 43 10] 44 43,zmv 45 44,.grp 45 false [zmv 46 12] 47 46,zmv 7 47])])),(.reg [zbi 48 .add 19 (zki 1),zmv 19 48])])
def QpW:List (Nat × Md):=zdl [0,1,6,7,18,19]
def Qru:TCode :=
 (zsq [(.reg [zmv 49 6,zmv 50 7,zmv 4 49,zmv 5 50]),.ret])
def QHu:TCode :=
 (zsq [(.reg [zmv 4 (zki 0),zmv 5 (zkb false)]),(zsq [(.reg [zmv 13 0,zmv 14 1,zca 15 191 [13,14],zno 16 15]),(.cond 16 (zsq [(.reg [zmv 4 (zki 0),zmv 5 (zkb false)]),.ret]) .skip)]),(.reg [zmv 6 (zki 0)]),(.reg [zmv 7 (zkb false)]),(zsq [(.reg [zmv 17 0,zle 18 17,zmv 19 (zki 0)]),(.block 0 (.loop QpW QwL))]),Qru])
def Qw0:List (ARv × Md):=[(.t 4,.one .d),(.t 5,.one .d)]
def Qn4:Qb:=TQ 0 0 Qw0 K
def QHD:Qb:=Qseq (tawp Qja 0 Qru (Qn4 K)) (Qn4 K)
def QFM:Qb:=Qblk 0 (QHD K)
def QhR (a:List Int) (b:List Int) (sum:Int) (out:Bool) (x:Int):Prop:=Loop Qja 0 QpW QwL (QFM K) ⟨[(0,(zcs [TI] a)),(1,(zcs [TI] b)),(6,(zci sum)),(7,(zcb out)),(18,(zci (a.length:Int))),(19,(zci x))],[],0⟩
theorem QsA (a:List Int) (b:List Int) (sum:Int) (out:Bool) (x:Int) (h :
 (zif (decide (x<(a.length:Int))) ((((0:Int)≤x∧Int.toNat x<a.length)∧((0:Int)≤x∧Int.toNat x<b.length))∧(QhR K a b ((Zn sum ((Z0 (gtd (0:Int) a (Int.toNat x)) (gtd (0:Int) b (Int.toNat x))).1)).1) ((out||((Z0 (gtd (0:Int) a (Int.toNat x)) (gtd (0:Int) b (Int.toNat x))).2))||((Zn sum ((Z0 (gtd (0:Int) a (Int.toNat x)) (gtd (0:Int) b (Int.toNat x))).1)).2)) (w64 (x+(1:Int))))) (K (QcA (sum,out))))):QhR K a b sum out x :=
 Loop.of (by kernel_rfl) h
theorem QBe (a:List Int) (b:List Int) (h :
 (zif (!(Yb a b)) (K (QcA ((0:Int),false))) (QhR K a b 0 false 0))):Hold (tawp Qja (0+0) QHu (TQ 0 0 Qw0 K) (Qf [(.c (.sl [TI]) a),(.c (.sl [TI]) b)])) :=
 Hold.of (by kernel_rfl) h
theorem QGr (a:List Int) (b:List Int):TCon Tryz.prog 188 [(.c (.sl [TI]) a),(.c (.sl [TI]) b)] (QcA (ZF a b)):=by
 refine Qr rfl fun hb=>tcg (n:=51) (sg:=Qfk.sg) Qk (TOk.cons Qho (TOk.cons Qlp (TOk.cons Qib TOk.nil))) (by kernel_rfl) (by kernel_rfl) (QBe _ a b ?_)
 have hl_a:a.length≤9223372036854775807:=hb.1.1
 have hl_b:b.length≤9223372036854775807:=hb.2.1.1
 refine ⟨fun h=>R_eq (by unfold ZF;rw [if_neg (by simpa using h)]),fun h=>?_⟩
 have hp:Yb a b=true:=by simpa using h
 have hl:=Qa7.1 hp
 have h6:=(YF.1 hl.1).1
 refine Zz a (fun r k=>∀ (z:Int) (s:Bool),((Qaf r (b.drop k) z).1,s||(Qaf r (b.drop k) z).2)=(ZF a b)→QhR (fun r'=>r'=QcA (ZF a b)) a b z s k) ?_ ?_ 0 false (by unfold ZF;rw [if_pos hp];simp)
 ·intro z s he
  refine QsA (fun r'=>r'=QcA (ZF a b)) a b _ _ _ ⟨fun h=>by simp at h,fun _=>R_eq ?_⟩
  rw [← he];simp [Qaf]
 ·intro k x r hk hlt hg ih z s he
  obtain ⟨y,q,hq⟩:=Qbo (l:=b) (k:=k) (by omega)
  refine QsA (fun r'=>r'=QcA (ZF a b)) a b _ _ _ ⟨fun _=>?_,fun h=>by simp at h;omega⟩
  rw [Int.toNat_natCast,hg,Y1 hq,sc1 (by omega)]
  refine ⟨⟨⟨by omega,hlt⟩,by omega,by omega⟩,ih _ _ ?_⟩
  rw [← he,hq,Qaf,YL hq]
  simp [Bool.or_assoc]
theorem Qlt:Qj Tryz.prog Qfk:=Ql fun x _=>QGr x.1 x.2.1
def Qb8 (t:(List Int)):TRes:=zra (zcs [TI] t)
def QkU:TRow:=Qi 215 [(.c (.sl [TI]))] fun x=>(none,Qb8 (Jo x.1))
def Qi9:List TRow:=[Qba,Qma]
def Qt7:TCode :=
 (zsq [(.reg [zbi 13 .lss 12 11]),(.cond 13 .skip (.exit 0)),(.block 1 (zsq [(.reg [zia 14 10 12 [TI],zld 15 14 1,zmv 5 15]),(.reg [zmv 16 3,zmv 17 5,zca 18 234 [17],zop 19 (.bsl 3 [TI] [18]),zop 20 (.app 16 19 3 [TI]),zmv 3 20])])),(.reg [zbi 21 .add 12 (zki 1),zmv 12 21])])
def QvK:List (Nat × Md):=[(3,.one .f),(10,.one .d),(11,.one .d),(12,.one .d)]
def Qxr:TCode :=
 (zsq [(.reg [zmv 22 3,zmv 2 22]),.ret])
def QNK:TCode :=
 (zsq [(.reg [zmv 2 (.k (.n [TI]))]),(zsq [(.reg [zmv 6 0,zca 7 134 [6],zno 8 7]),(.cond 8 (zsq [(.reg [zmv 2 (.k (.n [TI]))]),.ret]) .skip)]),(.reg [zop 9 (.bsl 3 [TI] []),zmv 3 9]),(zsq [(.reg [zmv 10 0,zle 11 10,zmv 12 (zki 0)]),(.block 0 (.loop QvK Qt7))]),Qxr])
def Qv1:List (ARv × Md):=[(.t 2,.one .d)]
def QvY:Qb:=TQ 0 0 Qv1 K
def QPR:Qb:=Qseq (tawp Qi9 0 Qxr (QvY K)) (QvY K)
def QAz:Qb:=Qblk 0 (QPR K)
def Qik (a:List Int) (x:Int) (v:List Int):Prop:=Loop Qi9 0 QvK Qt7 (QAz K) ⟨[(3,(.r [TI] 0 0 v.length)),(10,(zcs [TI] a)),(11,(zci (a.length:Int))),(12,(zci x))],[(0,(.sl 3 [TI] true v))],1⟩
theorem QwI (a:List Int) (x:Int) (v:List Int) (h :
 (zif (decide (x<(a.length:Int))) (((0:Int)≤x∧Int.toNat x<a.length)∧(((v.length=v.length∨v.length+1≤v.length)∧v.length+1≤big)∧(Qik K a (w64 (x+(1:Int))) (List.take (v.length+1) ((List.take v.length v)++([(QcW (gtd (0:Int) a (Int.toNat x)))])))))) (K (Qb8 (List.take v.length (List.drop 0 v)))))):Qik K a x v :=
 Loop.of (by kernel_rfl) h
theorem QKj (a:List Int) (h :
 (zif (!(QW a)) (K (Qb8 ([]))) (Qik K a 0 ([]:List Int)))):Hold (tawp Qi9 (0+0) QNK (TQ 0 0 Qv1 K) (Qf [(.c (.sl [TI]) a)])) :=
 Hold.of (by kernel_rfl) h
theorem QPx (a:List Int):TCon Tryz.prog 215 [(.c (.sl [TI]) a)] (Qb8 (Jo a)):=by
 refine Qr rfl fun hb=>tcg (n:=23) (sg:=QkU.sg) Qk (TOk.cons Qce (TOk.cons QNv TOk.nil)) (by kernel_rfl) (by kernel_rfl) (QKj _ a ?_)
 have hl_a:a.length≤9223372036854775807:=hb.1.1
 refine ⟨fun h=>R_eq (by unfold Jo;rw [if_neg (by simpa using h)]),fun h=>?_⟩
 have hp:QW a=true:=by simpa using h
 have h6:=(YF.1 hp).1
 refine Zz a (fun r k=>∀ (v:List Int),v.length=k→v++r.map QcW=(Jo a)→Qik (fun r'=>r'=Qb8 (Jo a)) a k v) ?_ ?_ [] rfl (by unfold Jo;rw [if_pos hp];simp)
 ·intro v hv he
  refine QwI (fun r'=>r'=Qb8 (Jo a)) a _ _ ⟨fun h=>by simp at h,fun _=>R_eq ?_⟩
  rw [← he];simp
 ·intro k x r hk hlt hg ih v hv he
  refine QwI (fun r'=>r'=Qb8 (Jo a)) a _ _ ⟨fun _=>?_,fun h=>by simp at h;omega⟩
  rw [Int.toNat_natCast,hg,sc1 (by omega),Zx]
  refine ⟨⟨by omega,hlt⟩,room (by omega),ih _ (JR hv) ?_⟩
  rw [← he];simp
theorem QNt:Qj Tryz.prog QkU:=Ql fun x _=>QPx x.1
def Qch (t:(List Int)):TRes:=zra (zcs [TI] t)
def QkS:TRow:=Qi 220 [(.c (.sl [TI])),(.c (.sl [TI]))] fun x=>(none,Qch (Jl x.1 x.2.1))
def Qmd:List TRow:=[QdK]
def Qty:TCode :=
 (zsq [(.reg [zbi 15 .lss 14 13]),(.cond 15 .skip (.exit 0)),(.block 1 (zsq [(.reg [zmv 16 14,zmv 6 16]),(.reg [zmv 17 0,zmv 18 6,zia 19 17 18 [TI],zld 20 19 1,zbi 21 .gtr 20 (zki 0)]),(.cond 21 (.reg [zmv 22 5,zmv 23 1,zmv 24 6,zia 25 23 24 [TI],zld 26 25 1,zop 27 (.bsl 3 [TI] [26]),zop 28 (.app 22 27 3 [TI]),zmv 5 28]) (.reg [zmv 29 5,zop 30 (.bsl 3 [TI] [(zki 0)]),zop 31 (.app 29 30 3 [TI]),zmv 5 31]))])),(.reg [zbi 32 .add 14 (zki 1),zmv 14 32])])
def Qqb:List (Nat × Md):=[(0,.one .d),(1,.one .d),(5,.one .f),(13,.one .d),(14,.one .d)]
def Qu3:TCode :=
 (zsq [(.reg [zmv 33 5,zmv 4 33]),.ret])
def QAp:TCode :=
 (zsq [(.reg [zmv 4 (.k (.n [TI]))]),(zsq [(.reg [zmv 7 0,zmv 8 1,zca 9 191 [7,8],zno 10 9]),(.cond 10 (zsq [(.reg [zmv 4 (.k (.n [TI]))]),.ret]) .skip)]),(.reg [zop 11 (.bsl 3 [TI] []),zmv 5 11]),(zsq [(.reg [zmv 12 0,zle 13 12,zmv 14 (zki 0)]),(.block 0 (.loop Qqb Qty))]),Qu3])
def Qvq:List (ARv × Md):=[(.t 4,.one .d)]
def Qot:Qb:=TQ 0 0 Qvq K
def QBR:Qb:=Qseq (tawp Qmd 0 Qu3 (Qot K)) (Qot K)
def QAU:Qb:=Qblk 0 (QBR K)
def Qfb (x:List Int) (d:List Int) (x1:Int) (v:List Int):Prop:=Loop Qmd 0 Qqb Qty (QAU K) ⟨[(0,(zcs [TI] x)),(1,(zcs [TI] d)),(5,(.r [TI] 0 0 v.length)),(13,(zci (x.length:Int))),(14,(zci x1))],[(0,(.sl 3 [TI] true v))],1⟩
theorem QwF (x:List Int) (d:List Int) (x1:Int) (v:List Int) (h :
 (zif (decide (x1<(x.length:Int))) (((0:Int)≤x1∧Int.toNat x1<x.length)∧(zif (decide ((gtd (0:Int) x (Int.toNat x1))>(0:Int))) ((((0:Int)≤x1∧Int.toNat x1<d.length)∧((v.length=v.length∨v.length+1≤v.length)∧v.length+1≤big))∧(Qfb K x d (w64 (x1+(1:Int))) (List.take (v.length+1) ((List.take v.length v)++([(gtd (0:Int) d (Int.toNat x1))]))))) (((v.length=v.length∨v.length+1≤v.length)∧v.length+1≤big)∧(Qfb K x d (w64 (x1+(1:Int))) (List.take (v.length+1) ((List.take v.length v)++([(0:Int)]))))))) (K (Qch (List.take v.length (List.drop 0 v)))))):Qfb K x d x1 v :=
 Loop.of (by kernel_rfl) h
theorem QNX (x:List Int) (d:List Int) (h :
 (zif (!(Yb x d)) (K (Qch ([]))) (Qfb K x d 0 ([]:List Int)))):Hold (tawp Qmd (0+0) QAp (TQ 0 0 Qvq K) (Qf [(.c (.sl [TI]) x),(.c (.sl [TI]) d)])) :=
 Hold.of (by kernel_rfl) h
theorem QNx (x:List Int) (d:List Int):TCon Tryz.prog 220 [(.c (.sl [TI]) x),(.c (.sl [TI]) d)] (Qch (Jl x d)):=by
 refine Qr rfl fun hb=>tcg (n:=34) (sg:=QkS.sg) Qk (TOk.cons Qho TOk.nil) (by kernel_rfl) (by kernel_rfl) (QNX _ x d ?_)
 have hl_x:x.length≤9223372036854775807:=hb.1.1
 have hl_d:d.length≤9223372036854775807:=hb.2.1.1
 refine ⟨fun h=>R_eq (by unfold Jl;rw [if_neg (by simpa using h)]),fun h=>?_⟩
 have hp:Yb x d=true:=by simpa using h
 have hl:=Qa7.1 hp
 have h6:=(YF.1 hl.1).1
 refine Zz x (fun r k=>∀ (v:List Int),v.length=k→v++List.zipWith (fun a b=>if 0<a then b else 0) r (d.drop k)=(Jl x d)→Qfb (fun r'=>r'=Qch (Jl x d)) x d k v) ?_ ?_ [] rfl (by unfold Jl;rw [if_pos hp];simp)
 ·intro v hv he
  refine QwF (fun r'=>r'=Qch (Jl x d)) x d _ _ ⟨fun h=>by simp at h,fun _=>R_eq ?_⟩
  rw [← he];simp
 ·intro k y r hk hlt hg ih v hv he
  obtain ⟨z,q,hq⟩:=Qbo (l:=d) (k:=k) (by omega)
  refine QwF (fun r'=>r'=Qch (Jl x d)) x d _ _ ⟨fun _=>?_,fun h=>by simp at h;omega⟩
  rw [Int.toNat_natCast,hg,Y1 hq,sc1 (by omega),Zx,Zx]
  rw [hq,List.zipWith_cons_cons,← YL hq] at he
  refine ⟨⟨by omega,hlt⟩,fun h=>⟨⟨⟨by omega,by omega⟩,room (by omega)⟩,ih _ (JR hv) ?_⟩,fun h=>⟨room (by omega),ih _ (JR hv) ?_⟩⟩
  ·rw [← he,if_pos (by simpa using h)];simp
  ·rw [← he,if_neg (by simpa using h)];simp
theorem QHA:Qj Tryz.prog QkS:=Ql fun x _=>QNx x.1 x.2.1
end
end Go.Proofs.YtjbdljkhbglnhaaGreat.Am

