/- -/
import Derived.Test.YtjbdljkhbglnhaaGreatZAP1
import Derived.Test.YtjbdljkhbglnhaaGreatZAPF
namespace Go.Proofs.YtjbdljkhbglnhaaGreat.Am
open Go Go.RowKit Go.Proofs.YtjbdljkhbglnhaaGreat
set_option linter.all false
noncomputable section
variable (K:TRes→Prop)
def Qn4 (t:Bool):TRes:=zre (zcb t)
def Qdu:TRow:=Qj 191 [(.c (.sl [TI])),(.c (.sl [TI]))] fun x=>(none,Qn4 (Z8 x.1 x.2.1))
def QKk:List TRow:=[Qba,JJ]
def QCz:TCode :=
 (zsq [(.reg [zmv 4 (zkb false)]),(.reg [zmv 5 0,zca 6 134 [5],zmv 7 6,.grp 7 true [zmv 8 1,zmv 9 0,zle 10 9,zca 11 114 [8,10]] 12 11,zmv 4 12]),.ret])
def QHv:List (ARv × Md):=[(.t 4,.one .d)]
theorem QEP (a:List Int) (b:List Int) (h :
 K (Qn4 ((Q2 a)&&(Qt b (a.length:Int))))):Hold (tawp QKk (0+0) QCz (TQ 0 0 QHv K) (Qf [(.c (.sl [TI]) a),(.c (.sl [TI]) b)])) :=
 Hold.of (by kernel_rfl) h
theorem QFp (a:List Int) (b:List Int):TCon Tryz.prog 191 [(.c (.sl [TI]) a),(.c (.sl [TI]) b)] (Qn4 (Z8 a b)):=by
 refine Qq rfl fun hb=>tcg (n:=13) (sg:=Qdu.sg) Ql (TOk.cons QcM (TOk.cons Qak TOk.nil)) (by kernel_rfl) (by kernel_rfl) (QEP _ a b ?_)
 have hl_a:a.length≤9223372036854775807:=hb.1.1
 have hl_b:b.length≤9223372036854775807:=hb.2.1.1
 exact R_eq rfl
theorem QfN:Qi Tryz.prog Qdu:=Qm fun x _=>QFp x.1 x.2.1
def QcD (t:(List Int) × Bool):TRes:=zra (.tp [(zcs [TI] t.1),(zcb t.2)])
def QgU:TRow:=Qj 213 [(.c (.sl [TI])),(.c (.sl [TI]))] fun x=>(none,QcD (ZR x.1 x.2.1))
def Qmp:List TRow:=[Qdu,QdI]
def QuJ:TCode :=
 (zsq [(.reg [zbi 19 .lss 18 17]),(.cond 19 .skip (.exit 0)),(.block 1 (zsq [(.reg [zmv 20 18,zmv 8 20]),(.draw [zmv 22 0,zmv 23 8,zia 24 22 23 [TI],zld 25 24 1,zmv 26 1,zmv 27 8,zia 28 26 27 [TI],zld 29 28 1,zca 30 121 [25,29],zmv 21 30,zex 31 21 0,zex 32 21 1,zmv 9 31,zmv 10 32] []),(.reg [zmv 33 6,zmv 34 9,zop 35 (.bsl 3 [TI] [34]),zop 36 (.app 33 35 3 [TI]),zmv 6 36]),(.reg [zmv 37 7,zmv 38 37,.grp 38 false [zmv 39 10] 40 39,zmv 7 40])])),(.reg [zbi 41 .add 18 (zki 1),zmv 18 41])])
def Qt7:List (Nat × Md):=[(0,.one .d),(1,.one .d),(6,.one .f),(7,.one .d),(17,.one .d),(18,.one .d)]
def Qwy:TCode :=
 (zsq [(.reg [zmv 42 6,zmv 43 7,zmv 4 42,zmv 5 43]),.ret])
def QP1:TCode :=
 (zsq [(.reg [zmv 4 (.k (.n [TI])),zmv 5 (zkb false)]),(zsq [(.reg [zmv 11 0,zmv 12 1,zca 13 191 [11,12],zno 14 13]),(.cond 14 (zsq [(.reg [zmv 4 (.k (.n [TI])),zmv 5 (zkb false)]),.ret]) .skip)]),(.reg [zop 15 (.bsl 3 [TI] []),zmv 6 15]),(.reg [zmv 7 (zkb false)]),(zsq [(.reg [zmv 16 0,zle 17 16,zmv 18 (zki 0)]),(.block 0 (.loop Qt7 QuJ))]),Qwy])
def QtZ:List (ARv × Md):=[(.t 4,.one .d),(.t 5,.one .d)]
def QsJ:Qb:=TQ 0 0 QtZ K
def QCS:Qb:=Qseq (tawp Qmp 0 Qwy (QsJ K)) (QsJ K)
def QGE:Qb:=Qblk 0 (QCS K)
def Qg5 (a:List Int) (b:List Int) (out:Bool) (x:Int) (v:List Int):Prop:=Loop Qmp 0 Qt7 QuJ (QGE K) ⟨[(0,(zcs [TI] a)),(1,(zcs [TI] b)),(6,(.r [TI] 0 0 v.length)),(7,(zcb out)),(17,(zci (a.length:Int))),(18,(zci x))],[(0,(.sl 3 [TI] true v))],1⟩
theorem Qu7 (a:List Int) (b:List Int) (out:Bool) (x:Int) (v:List Int) (h :
 (zif (decide (x<(a.length:Int))) ((((0:Int)≤x∧Int.toNat x<a.length)∧((0:Int)≤x∧Int.toNat x<b.length))∧(((v.length=v.length∨v.length+1≤v.length)∧v.length+1≤big)∧(Qg5 K a b (out||((Zi (gtd (0:Int) a (Int.toNat x)) (gtd (0:Int) b (Int.toNat x))).2)) (w64 (x+(1:Int))) (List.take (v.length+1) ((List.take v.length v)++([(Zi (gtd (0:Int) a (Int.toNat x)) (gtd (0:Int) b (Int.toNat x))).1])))))) (K (QcD ((List.take v.length (List.drop 0 v)),out))))):Qg5 K a b out x v :=
 Loop.of (by kernel_rfl) h
theorem QCB (a:List Int) (b:List Int) (h :
 (zif (!(Z8 a b)) (K (QcD ([],false))) (Qg5 K a b false 0 ([]:List Int)))):Hold (tawp Qmp (0+0) QP1 (TQ 0 0 QtZ K) (Qf [(.c (.sl [TI]) a),(.c (.sl [TI]) b)])) :=
 Hold.of (by kernel_rfl) h
theorem QD6 (a:List Int) (b:List Int):TCon Tryz.prog 213 [(.c (.sl [TI]) a),(.c (.sl [TI]) b)] (QcD (ZR a b)):=by
 refine Qq rfl fun hb=>tcg (n:=44) (sg:=QgU.sg) Ql (TOk.cons QfN (TOk.cons QfT TOk.nil)) (by kernel_rfl) (by kernel_rfl) (QCB _ a b ?_)
 have hl_a:a.length≤9223372036854775807:=hb.1.1
 have hl_b:b.length≤9223372036854775807:=hb.2.1.1
 refine ⟨fun h=>R_eq (by unfold ZR;rw [if_neg (by simpa using h)]),fun h=>?_⟩
 have hp:Z8 a b=true:=by simpa using h
 have hl:=Qa3.1 hp
 have h6:=(YD.1 hl.1).1
 refine Zj a (fun r k=>∀ (v:List Int) (s:Bool),v.length=k→(v++(vz Zi r (b.drop k)).1,s||(vz Zi r (b.drop k)).2)=(ZR a b)→Qg5 (fun r'=>r'=QcD (ZR a b)) a b s k v) ?_ ?_ [] false rfl (by unfold ZR;rw [if_pos hp];simp)
 ·intro v s hv he
  refine Qu7 (fun r'=>r'=QcD (ZR a b)) a b _ _ _ ⟨fun h=>by simp at h,fun _=>R_eq ?_⟩
  rw [← he];simp [vz]
 ·intro k x r hk hlt hg ih v s hv he
  obtain ⟨y,q,hq⟩:=QbJ (l:=b) (k:=k) (by omega)
  refine Qu7 (fun r'=>r'=QcD (ZR a b)) a b _ _ _ ⟨fun _=>?_,fun h=>by simp at h;omega⟩
  rw [Int.toNat_natCast,hg,Y3 hq,sc1 (by omega),Zv]
  refine ⟨⟨⟨by omega,hlt⟩,by omega,by omega⟩,room (by omega),ih _ _ (JQ hv) ?_⟩
  rw [← he,hq,vz,YS hq]
  simp [Bool.or_assoc]
theorem QuP:Qi Tryz.prog QgU:=Qm fun x _=>QD6 x.1 x.2.1
def Qct (t:(List Int) × Bool):TRes:=zra (.tp [(zcs [TI] t.1),(zcb t.2)])
def Qin:TRow:=Qj 124 [(.c (.sl [TI])),(.c (.sl [TI]))] fun x=>(none,Qct (Zt x.1 x.2.1))
def QmE:List TRow:=[Qdu,QkQ]
def QxS:TCode :=
 (zsq [(.reg [zbi 19 .lss 18 17]),(.cond 19 .skip (.exit 0)),(.block 1 (zsq [(.reg [zmv 20 18,zmv 8 20]),(.draw [zmv 22 0,zmv 23 8,zia 24 22 23 [TI],zld 25 24 1,zmv 26 1,zmv 27 8,zia 28 26 27 [TI],zld 29 28 1,zca 30 192 [25,29],zmv 21 30,zex 31 21 0,zex 32 21 1,zmv 9 31,zmv 10 32] []),(.reg [zmv 33 6,zmv 34 9,zop 35 (.bsl 3 [TI] [34]),zop 36 (.app 33 35 3 [TI]),zmv 6 36]),(.reg [zmv 37 7,zmv 38 37,.grp 38 false [zmv 39 10] 40 39,zmv 7 40])])),(.reg [zbi 41 .add 18 (zki 1),zmv 18 41])])
def QyK:List (Nat × Md):=[(0,.one .d),(1,.one .d),(6,.one .f),(7,.one .d),(17,.one .d),(18,.one .d)]
def Qqr:TCode :=
 (zsq [(.reg [zmv 42 6,zmv 43 7,zmv 4 42,zmv 5 43]),.ret])
def QEH:TCode :=
 (zsq [(.reg [zmv 4 (.k (.n [TI])),zmv 5 (zkb false)]),(zsq [(.reg [zmv 11 0,zmv 12 1,zca 13 191 [11,12],zno 14 13]),(.cond 14 (zsq [(.reg [zmv 4 (.k (.n [TI])),zmv 5 (zkb false)]),.ret]) .skip)]),(.reg [zop 15 (.bsl 3 [TI] []),zmv 6 15]),(.reg [zmv 7 (zkb false)]),(zsq [(.reg [zmv 16 0,zle 17 16,zmv 18 (zki 0)]),(.block 0 (.loop QyK QxS))]),Qqr])
def Qsa:List (ARv × Md):=[(.t 4,.one .d),(.t 5,.one .d)]
def Qwe:Qb:=TQ 0 0 Qsa K
def QRq:Qb:=Qseq (tawp QmE 0 Qqr (Qwe K)) (Qwe K)
def QBl:Qb:=Qblk 0 (QRq K)
def QiQ (a:List Int) (b:List Int) (out:Bool) (x:Int) (v:List Int):Prop:=Loop QmE 0 QyK QxS (QBl K) ⟨[(0,(zcs [TI] a)),(1,(zcs [TI] b)),(6,(.r [TI] 0 0 v.length)),(7,(zcb out)),(17,(zci (a.length:Int))),(18,(zci x))],[(0,(.sl 3 [TI] true v))],1⟩
theorem Qu3 (a:List Int) (b:List Int) (out:Bool) (x:Int) (v:List Int) (h :
 (zif (decide (x<(a.length:Int))) ((((0:Int)≤x∧Int.toNat x<a.length)∧((0:Int)≤x∧Int.toNat x<b.length))∧(((v.length=v.length∨v.length+1≤v.length)∧v.length+1≤big)∧(QiQ K a b (out||((Qbw (gtd (0:Int) a (Int.toNat x)) (gtd (0:Int) b (Int.toNat x))).2)) (w64 (x+(1:Int))) (List.take (v.length+1) ((List.take v.length v)++([(Qbw (gtd (0:Int) a (Int.toNat x)) (gtd (0:Int) b (Int.toNat x))).1])))))) (K (Qct ((List.take v.length (List.drop 0 v)),out))))):QiQ K a b out x v :=
 Loop.of (by kernel_rfl) h
theorem QNh (a:List Int) (b:List Int) (h :
 (zif (!(Z8 a b)) (K (Qct ([],false))) (QiQ K a b false 0 ([]:List Int)))):Hold (tawp QmE (0+0) QEH (TQ 0 0 Qsa K) (Qf [(.c (.sl [TI]) a),(.c (.sl [TI]) b)])) :=
 Hold.of (by kernel_rfl) h
theorem QMt (a:List Int) (b:List Int):TCon Tryz.prog 124 [(.c (.sl [TI]) a),(.c (.sl [TI]) b)] (Qct (Zt a b)):=by
 refine Qq rfl fun hb=>tcg (n:=44) (sg:=Qin.sg) Ql (TOk.cons QfN (TOk.cons QMX TOk.nil)) (by kernel_rfl) (by kernel_rfl) (QNh _ a b ?_)
 have hl_a:a.length≤9223372036854775807:=hb.1.1
 have hl_b:b.length≤9223372036854775807:=hb.2.1.1
 refine ⟨fun h=>R_eq (by unfold Zt;rw [if_neg (by simpa using h)]),fun h=>?_⟩
 have hp:Z8 a b=true:=by simpa using h
 have hl:=Qa3.1 hp
 have h6:=(YD.1 hl.1).1
 refine Zj a (fun r k=>∀ (v:List Int) (s:Bool),v.length=k→(v++(vz Qbw r (b.drop k)).1,s||(vz Qbw r (b.drop k)).2)=(Zt a b)→QiQ (fun r'=>r'=Qct (Zt a b)) a b s k v) ?_ ?_ [] false rfl (by unfold Zt;rw [if_pos hp];simp)
 ·intro v s hv he
  refine Qu3 (fun r'=>r'=Qct (Zt a b)) a b _ _ _ ⟨fun h=>by simp at h,fun _=>R_eq ?_⟩
  rw [← he];simp [vz]
 ·intro k x r hk hlt hg ih v s hv he
  obtain ⟨y,q,hq⟩:=QbJ (l:=b) (k:=k) (by omega)
  refine Qu3 (fun r'=>r'=Qct (Zt a b)) a b _ _ _ ⟨fun _=>?_,fun h=>by simp at h;omega⟩
  rw [Int.toNat_natCast,hg,Y3 hq,sc1 (by omega),Zv]
  refine ⟨⟨⟨by omega,hlt⟩,by omega,by omega⟩,room (by omega),ih _ _ (JQ hv) ?_⟩
  rw [← he,hq,vz,YS hq]
  simp [Bool.or_assoc]
theorem Qzl:Qi Tryz.prog Qin:=Qm fun x _=>QMt x.1 x.2.1
def Qcn (t:(List Int) × Bool):TRes:=zra (.tp [(zcs [TI] t.1),(zcb t.2)])
def QhW:TRow:=Qj 214 [(.c TI),(.c (.sl [TI]))] fun x=>(none,Qcn (Yu x.1 x.2.1))
def QjZ:List TRow:=[Qen,Qba,Qe6]
def QvX:TCode :=
 (zsq [(.reg [zbi 23 .lss 22 21]),(.cond 23 .skip (.exit 0)),(.block 1 (zsq [(.reg [zmv 24 22,zmv 8 24]),(.reg [zmv 26 0,zmv 27 1,zmv 28 8,zia 29 27 28 [TI],zld 30 29 1,zca 31 216 [26,30],zmv 25 31,zex 32 25 0,zex 33 25 1,zmv 9 32,zmv 10 33]),(.reg [zmv 34 6,zmv 35 9,zop 36 (.bsl 3 [TI] [35]),zop 37 (.app 34 36 3 [TI]),zmv 6 37]),(.reg [zmv 38 7,zmv 39 38,.grp 39 false [zmv 40 10] 41 40,zmv 7 41])])),(.reg [zbi 42 .add 22 (zki 1),zmv 22 42])])
def QoT:List (Nat × Md):=[(0,.one .d),(1,.one .d),(6,.one .f),(7,.one .d),(21,.one .d),(22,.one .d)]
def Qpl:TCode :=
 (zsq [(.reg [zmv 43 6,zmv 44 7,zmv 4 43,zmv 5 44]),.ret])
def QJl:TCode :=
 (zsq [(.reg [zmv 4 (.k (.n [TI])),zmv 5 (zkb false)]),(zsq [(.reg [zmv 11 0,zca 12 217 [11],zno 13 12,zmv 14 13,.grp 14 false [zmv 15 1,zca 16 134 [15],zno 17 16] 18 17]),(.cond 18 (zsq [(.reg [zmv 4 (.k (.n [TI])),zmv 5 (zkb false)]),.ret]) .skip)]),(.reg [zop 19 (.bsl 3 [TI] []),zmv 6 19]),(.reg [zmv 7 (zkb false)]),(zsq [(.reg [zmv 20 1,zle 21 20,zmv 22 (zki 0)]),(.block 0 (.loop QoT QvX))]),Qpl])
def Qv7:List (ARv × Md):=[(.t 4,.one .d),(.t 5,.one .d)]
def QvE:Qb:=TQ 0 0 Qv7 K
def QLY:Qb:=Qseq (tawp QjZ 0 Qpl (QvE K)) (QvE K)
def QB8:Qb:=Qblk 0 (QLY K)
def QiJ (c:Int) (a:List Int) (out:Bool) (x:Int) (v:List Int):Prop:=Loop QjZ 0 QoT QvX (QB8 K) ⟨[(0,(zci c)),(1,(zcs [TI] a)),(6,(.r [TI] 0 0 v.length)),(7,(zcb out)),(21,(zci (a.length:Int))),(22,(zci x))],[(0,(.sl 3 [TI] true v))],1⟩
theorem QxI (c:Int) (a:List Int) (out:Bool) (x:Int) (v:List Int) (h :
 (zif (decide (x<(a.length:Int))) (((0:Int)≤x∧Int.toNat x<a.length)∧(((v.length=v.length∨v.length+1≤v.length)∧v.length+1≤big)∧(QiJ K c a (out||((ZS c (gtd (0:Int) a (Int.toNat x))).2)) (w64 (x+(1:Int))) (List.take (v.length+1) ((List.take v.length v)++([(ZS c (gtd (0:Int) a (Int.toNat x))).1])))))) (K (Qcn ((List.take v.length (List.drop 0 v)),out))))):QiJ K c a out x v :=
 Loop.of (by kernel_rfl) h
theorem QQ8 (c:Int) (a:List Int) (h :
 (zif ((!(Q6 c))||(!(Q2 a))) (K (Qcn ([],false))) (QiJ K c a false 0 ([]:List Int)))):Hold (tawp QjZ (0+0) QJl (TQ 0 0 Qv7 K) (Qf [(.c TI c),(.c (.sl [TI]) a)])) :=
 Hold.of (by kernel_rfl) h
theorem QKT (c:Int) (a:List Int):TCon Tryz.prog 214 [(.c TI c),(.c (.sl [TI]) a)] (Qcn (Yu c a)):=by
 refine Qq rfl fun hb=>tcg (n:=45) (sg:=QhW.sg) Ql (TOk.cons Qnw (TOk.cons QcM (TOk.cons QmJ TOk.nil))) (by kernel_rfl) (by kernel_rfl) (QQ8 _ c a ?_)
 have hl_a:a.length≤9223372036854775807:=hb.2.1.1
 refine ⟨fun h=>R_eq (by unfold Yu;rw [if_neg (by intro h2;simp at h2;simp [h2] at h)]),fun h=>?_⟩
 have hp:Q6 c=true∧Q2 a=true:=by simpa using h
 have h6:=(YD.1 hp.2).1
 refine Zj a (fun r k=>∀ (v:List Int) (s:Bool),v.length=k→(v++(v1 (ZS c) r).1,s||(v1 (ZS c) r).2)=(Yu c a)→QiJ (fun r'=>r'=Qcn (Yu c a)) c a s k v) ?_ ?_ [] false rfl (by unfold Yu;rw [if_pos (by simp [hp])];simp)
 ·intro v s hv he
  refine QxI (fun r'=>r'=Qcn (Yu c a)) c a _ _ _ ⟨fun h=>by simp at h,fun _=>R_eq ?_⟩
  rw [← he];simp [v1]
 ·intro k x r hk hlt hg ih v s hv he
  refine QxI (fun r'=>r'=Qcn (Yu c a)) c a _ _ _ ⟨fun _=>?_,fun h=>by simp at h;omega⟩
  rw [Int.toNat_natCast,hg,sc1 (by omega),Zv]
  refine ⟨⟨by omega,hlt⟩,room (by omega),ih _ _ (JQ hv) ?_⟩
  rw [← he,v1]
  simp [Bool.or_assoc]
theorem Qsu:Qi Tryz.prog QhW:=Qm fun x _=>QKT x.1 x.2.1
def QcV (t:Int × Bool):TRes:=zre (.tp [(zci t.1),(zcb t.2)])
def Qew:TRow:=Qj 188 [(.c (.sl [TI])),(.c (.sl [TI]))] fun x=>(none,QcV (Zz x.1 x.2.1))
def QmF:List TRow:=[Qdu,Qe6,QdI]
def QpP:TCode :=
 (zsq [(.reg [zbi 20 .lss 19 18]),(.cond 20 .skip (.exit 0)),(.block 1 (zsq [(.reg [zmv 21 19,zmv 8 21]),(.draw [zmv 23 0,zmv 24 8,zia 25 23 24 [TI],zld 26 25 1,zmv 27 1,zmv 28 8,zia 29 27 28 [TI],zld 30 29 1,zca 31 216 [26,30],zmv 22 31,zex 32 22 0,zex 33 22 1,zmv 9 32,zmv 10 33] []),(.reg [zmv 35 6,zmv 36 9,zca 37 121 [35,36],zmv 34 37,zex 38 34 0,zex 39 34 1,zmv 11 38,zmv 12 39]),(.reg [zmv 40 11,zmv 6 40]),(.reg [zmv 41 7,zmv 42 41,.grp 42 false [zmv 43 10] 44 43,zmv 45 44,.grp 45 false [zmv 46 12] 47 46,zmv 7 47])])),(.reg [zbi 48 .add 19 (zki 1),zmv 19 48])])
def QsG:List (Nat × Md):=zdl [0,1,6,7,18,19]
def Qo4:TCode :=
 (zsq [(.reg [zmv 49 6,zmv 50 7,zmv 4 49,zmv 5 50]),.ret])
def QNK:TCode :=
 (zsq [(.reg [zmv 4 (zki 0),zmv 5 (zkb false)]),(zsq [(.reg [zmv 13 0,zmv 14 1,zca 15 191 [13,14],zno 16 15]),(.cond 16 (zsq [(.reg [zmv 4 (zki 0),zmv 5 (zkb false)]),.ret]) .skip)]),(.reg [zmv 6 (zki 0)]),(.reg [zmv 7 (zkb false)]),(zsq [(.reg [zmv 17 0,zle 18 17,zmv 19 (zki 0)]),(.block 0 (.loop QsG QpP))]),Qo4])
def Qyj:List (ARv × Md):=[(.t 4,.one .d),(.t 5,.one .d)]
def Qvz:Qb:=TQ 0 0 Qyj K
def QOe:Qb:=Qseq (tawp QmF 0 Qo4 (Qvz K)) (Qvz K)
def QAz:Qb:=Qblk 0 (QOe K)
def QhU (a:List Int) (b:List Int) (sum:Int) (out:Bool) (x:Int):Prop:=Loop QmF 0 QsG QpP (QAz K) ⟨[(0,(zcs [TI] a)),(1,(zcs [TI] b)),(6,(zci sum)),(7,(zcb out)),(18,(zci (a.length:Int))),(19,(zci x))],[],0⟩
theorem QAb (a:List Int) (b:List Int) (sum:Int) (out:Bool) (x:Int) (h :
 (zif (decide (x<(a.length:Int))) ((((0:Int)≤x∧Int.toNat x<a.length)∧((0:Int)≤x∧Int.toNat x<b.length))∧(QhU K a b ((Zi sum ((ZS (gtd (0:Int) a (Int.toNat x)) (gtd (0:Int) b (Int.toNat x))).1)).1) ((out||((ZS (gtd (0:Int) a (Int.toNat x)) (gtd (0:Int) b (Int.toNat x))).2))||((Zi sum ((ZS (gtd (0:Int) a (Int.toNat x)) (gtd (0:Int) b (Int.toNat x))).1)).2)) (w64 (x+(1:Int))))) (K (QcV (sum,out))))):QhU K a b sum out x :=
 Loop.of (by kernel_rfl) h
theorem QBT (a:List Int) (b:List Int) (h :
 (zif (!(Z8 a b)) (K (QcV ((0:Int),false))) (QhU K a b 0 false 0))):Hold (tawp QmF (0+0) QNK (TQ 0 0 Qyj K) (Qf [(.c (.sl [TI]) a),(.c (.sl [TI]) b)])) :=
 Hold.of (by kernel_rfl) h
theorem QGY (a:List Int) (b:List Int):TCon Tryz.prog 188 [(.c (.sl [TI]) a),(.c (.sl [TI]) b)] (QcV (Zz a b)):=by
 refine Qq rfl fun hb=>tcg (n:=51) (sg:=Qew.sg) Ql (TOk.cons QfN (TOk.cons QmJ (TOk.cons QfT TOk.nil))) (by kernel_rfl) (by kernel_rfl) (QBT _ a b ?_)
 have hl_a:a.length≤9223372036854775807:=hb.1.1
 have hl_b:b.length≤9223372036854775807:=hb.2.1.1
 refine ⟨fun h=>R_eq (by unfold Zz;rw [if_neg (by simpa using h)]),fun h=>?_⟩
 have hp:Z8 a b=true:=by simpa using h
 have hl:=Qa3.1 hp
 have h6:=(YD.1 hl.1).1
 refine Zj a (fun r k=>∀ (z:Int) (s:Bool),((Qai r (b.drop k) z).1,s||(Qai r (b.drop k) z).2)=(Zz a b)→QhU (fun r'=>r'=QcV (Zz a b)) a b z s k) ?_ ?_ 0 false (by unfold Zz;rw [if_pos hp];simp)
 ·intro z s he
  refine QAb (fun r'=>r'=QcV (Zz a b)) a b _ _ _ ⟨fun h=>by simp at h,fun _=>R_eq ?_⟩
  rw [← he];simp [Qai]
 ·intro k x r hk hlt hg ih z s he
  obtain ⟨y,q,hq⟩:=QbJ (l:=b) (k:=k) (by omega)
  refine QAb (fun r'=>r'=QcV (Zz a b)) a b _ _ _ ⟨fun _=>?_,fun h=>by simp at h;omega⟩
  rw [Int.toNat_natCast,hg,Y3 hq,sc1 (by omega)]
  refine ⟨⟨⟨by omega,hlt⟩,by omega,by omega⟩,ih _ _ ?_⟩
  rw [← he,hq,Qai,YS hq]
  simp [Bool.or_assoc]
theorem Qkn:Qi Tryz.prog Qew:=Qm fun x _=>QGY x.1 x.2.1
def Qcf (t:(List Int)):TRes:=zra (zcs [TI] t)
def Ql7:TRow:=Qj 215 [(.c (.sl [TI]))] fun x=>(none,Qcf (Jr x.1))
def Qkt:List TRow:=[Qba,QnU]
def QyG:TCode :=
 (zsq [(.reg [zbi 13 .lss 12 11]),(.cond 13 .skip (.exit 0)),(.block 1 (zsq [(.reg [zia 14 10 12 [TI],zld 15 14 1,zmv 5 15]),(.reg [zmv 16 3,zmv 17 5,zca 18 234 [17],zop 19 (.bsl 3 [TI] [18]),zop 20 (.app 16 19 3 [TI]),zmv 3 20])])),(.reg [zbi 21 .add 12 (zki 1),zmv 12 21])])
def Qyf:List (Nat × Md):=[(3,.one .f),(10,.one .d),(11,.one .d),(12,.one .d)]
def QoJ:TCode :=
 (zsq [(.reg [zmv 22 3,zmv 2 22]),.ret])
def QQX:TCode :=
 (zsq [(.reg [zmv 2 (.k (.n [TI]))]),(zsq [(.reg [zmv 6 0,zca 7 134 [6],zno 8 7]),(.cond 8 (zsq [(.reg [zmv 2 (.k (.n [TI]))]),.ret]) .skip)]),(.reg [zop 9 (.bsl 3 [TI] []),zmv 3 9]),(zsq [(.reg [zmv 10 0,zle 11 10,zmv 12 (zki 0)]),(.block 0 (.loop Qyf QyG))]),QoJ])
def Qrk:List (ARv × Md):=[(.t 2,.one .d)]
def QrS:Qb:=TQ 0 0 Qrk K
def QCW:Qb:=Qseq (tawp Qkt 0 QoJ (QrS K)) (QrS K)
def QAQ:Qb:=Qblk 0 (QCW K)
def QhM (a:List Int) (x:Int) (v:List Int):Prop:=Loop Qkt 0 Qyf QyG (QAQ K) ⟨[(3,(.r [TI] 0 0 v.length)),(10,(zcs [TI] a)),(11,(zci (a.length:Int))),(12,(zci x))],[(0,(.sl 3 [TI] true v))],1⟩
theorem QsL (a:List Int) (x:Int) (v:List Int) (h :
 (zif (decide (x<(a.length:Int))) (((0:Int)≤x∧Int.toNat x<a.length)∧(((v.length=v.length∨v.length+1≤v.length)∧v.length+1≤big)∧(QhM K a (w64 (x+(1:Int))) (List.take (v.length+1) ((List.take v.length v)++([(QcP (gtd (0:Int) a (Int.toNat x)))])))))) (K (Qcf (List.take v.length (List.drop 0 v)))))):QhM K a x v :=
 Loop.of (by kernel_rfl) h
theorem QMc (a:List Int) (h :
 (zif (!(Q2 a)) (K (Qcf ([]))) (QhM K a 0 ([]:List Int)))):Hold (tawp Qkt (0+0) QQX (TQ 0 0 Qrk K) (Qf [(.c (.sl [TI]) a)])) :=
 Hold.of (by kernel_rfl) h
theorem QKd (a:List Int):TCon Tryz.prog 215 [(.c (.sl [TI]) a)] (Qcf (Jr a)):=by
 refine Qq rfl fun hb=>tcg (n:=23) (sg:=Ql7.sg) Ql (TOk.cons QcM (TOk.cons QLM TOk.nil)) (by kernel_rfl) (by kernel_rfl) (QMc _ a ?_)
 have hl_a:a.length≤9223372036854775807:=hb.1.1
 refine ⟨fun h=>R_eq (by unfold Jr;rw [if_neg (by simpa using h)]),fun h=>?_⟩
 have hp:Q2 a=true:=by simpa using h
 have h6:=(YD.1 hp).1
 refine Zj a (fun r k=>∀ (v:List Int),v.length=k→v++r.map QcP=(Jr a)→QhM (fun r'=>r'=Qcf (Jr a)) a k v) ?_ ?_ [] rfl (by unfold Jr;rw [if_pos hp];simp)
 ·intro v hv he
  refine QsL (fun r'=>r'=Qcf (Jr a)) a _ _ ⟨fun h=>by simp at h,fun _=>R_eq ?_⟩
  rw [← he];simp
 ·intro k x r hk hlt hg ih v hv he
  refine QsL (fun r'=>r'=Qcf (Jr a)) a _ _ ⟨fun _=>?_,fun h=>by simp at h;omega⟩
  rw [Int.toNat_natCast,hg,sc1 (by omega),Zv]
  refine ⟨⟨by omega,hlt⟩,room (by omega),ih _ (JQ hv) ?_⟩
  rw [← he];simp
theorem QNd:Qi Tryz.prog Ql7:=Qm fun x _=>QKd x.1
def Qb9 (t:(List Int)):TRes:=zra (zcs [TI] t)
def QkA:TRow:=Qj 220 [(.c (.sl [TI])),(.c (.sl [TI]))] fun x=>(none,Qb9 (Jg x.1 x.2.1))
def Qnh:List TRow:=[Qdu]
def Qxn:TCode :=
 (zsq [(.reg [zbi 15 .lss 14 13]),(.cond 15 .skip (.exit 0)),(.block 1 (zsq [(.reg [zmv 16 14,zmv 6 16]),(.reg [zmv 17 0,zmv 18 6,zia 19 17 18 [TI],zld 20 19 1,zbi 21 .gtr 20 (zki 0)]),(.cond 21 (.reg [zmv 22 5,zmv 23 1,zmv 24 6,zia 25 23 24 [TI],zld 26 25 1,zop 27 (.bsl 3 [TI] [26]),zop 28 (.app 22 27 3 [TI]),zmv 5 28]) (.reg [zmv 29 5,zop 30 (.bsl 3 [TI] [(zki 0)]),zop 31 (.app 29 30 3 [TI]),zmv 5 31]))])),(.reg [zbi 32 .add 14 (zki 1),zmv 14 32])])
def Qrs:List (Nat × Md):=[(0,.one .d),(1,.one .d),(5,.one .f),(13,.one .d),(14,.one .d)]
def QoN:TCode :=
 (zsq [(.reg [zmv 33 5,zmv 4 33]),.ret])
def QGH:TCode :=
 (zsq [(.reg [zmv 4 (.k (.n [TI]))]),(zsq [(.reg [zmv 7 0,zmv 8 1,zca 9 191 [7,8],zno 10 9]),(.cond 10 (zsq [(.reg [zmv 4 (.k (.n [TI]))]),.ret]) .skip)]),(.reg [zop 11 (.bsl 3 [TI] []),zmv 5 11]),(zsq [(.reg [zmv 12 0,zle 13 12,zmv 14 (zki 0)]),(.block 0 (.loop Qrs Qxn))]),QoN])
def Qx4:List (ARv × Md):=[(.t 4,.one .d)]
def Qwf:Qb:=TQ 0 0 Qx4 K
def QHL:Qb:=Qseq (tawp Qnh 0 QoN (Qwf K)) (Qwf K)
def QCg:Qb:=Qblk 0 (QHL K)
def Qfo (x:List Int) (d:List Int) (x1:Int) (v:List Int):Prop:=Loop Qnh 0 Qrs Qxn (QCg K) ⟨[(0,(zcs [TI] x)),(1,(zcs [TI] d)),(5,(.r [TI] 0 0 v.length)),(13,(zci (x.length:Int))),(14,(zci x1))],[(0,(.sl 3 [TI] true v))],1⟩
theorem Qqq (x:List Int) (d:List Int) (x1:Int) (v:List Int) (h :
 (zif (decide (x1<(x.length:Int))) (((0:Int)≤x1∧Int.toNat x1<x.length)∧(zif (decide ((gtd (0:Int) x (Int.toNat x1))>(0:Int))) ((((0:Int)≤x1∧Int.toNat x1<d.length)∧((v.length=v.length∨v.length+1≤v.length)∧v.length+1≤big))∧(Qfo K x d (w64 (x1+(1:Int))) (List.take (v.length+1) ((List.take v.length v)++([(gtd (0:Int) d (Int.toNat x1))]))))) (((v.length=v.length∨v.length+1≤v.length)∧v.length+1≤big)∧(Qfo K x d (w64 (x1+(1:Int))) (List.take (v.length+1) ((List.take v.length v)++([(0:Int)]))))))) (K (Qb9 (List.take v.length (List.drop 0 v)))))):Qfo K x d x1 v :=
 Loop.of (by kernel_rfl) h
theorem QEU (x:List Int) (d:List Int) (h :
 (zif (!(Z8 x d)) (K (Qb9 ([]))) (Qfo K x d 0 ([]:List Int)))):Hold (tawp Qnh (0+0) QGH (TQ 0 0 Qx4 K) (Qf [(.c (.sl [TI]) x),(.c (.sl [TI]) d)])) :=
 Hold.of (by kernel_rfl) h
theorem QJA (x:List Int) (d:List Int):TCon Tryz.prog 220 [(.c (.sl [TI]) x),(.c (.sl [TI]) d)] (Qb9 (Jg x d)):=by
 refine Qq rfl fun hb=>tcg (n:=34) (sg:=QkA.sg) Ql (TOk.cons QfN TOk.nil) (by kernel_rfl) (by kernel_rfl) (QEU _ x d ?_)
 have hl_x:x.length≤9223372036854775807:=hb.1.1
 have hl_d:d.length≤9223372036854775807:=hb.2.1.1
 refine ⟨fun h=>R_eq (by unfold Jg;rw [if_neg (by simpa using h)]),fun h=>?_⟩
 have hp:Z8 x d=true:=by simpa using h
 have hl:=Qa3.1 hp
 have h6:=(YD.1 hl.1).1
 refine Zj x (fun r k=>∀ (v:List Int),v.length=k→v++List.zipWith (fun a b=>if 0<a then b else 0) r (d.drop k)=(Jg x d)→Qfo (fun r'=>r'=Qb9 (Jg x d)) x d k v) ?_ ?_ [] rfl (by unfold Jg;rw [if_pos hp];simp)
 ·intro v hv he
  refine Qqq (fun r'=>r'=Qb9 (Jg x d)) x d _ _ ⟨fun h=>by simp at h,fun _=>R_eq ?_⟩
  rw [← he];simp
 ·intro k y r hk hlt hg ih v hv he
  obtain ⟨z,q,hq⟩:=QbJ (l:=d) (k:=k) (by omega)
  refine Qqq (fun r'=>r'=Qb9 (Jg x d)) x d _ _ ⟨fun _=>?_,fun h=>by simp at h;omega⟩
  rw [Int.toNat_natCast,hg,Y3 hq,sc1 (by omega),Zv,Zv]
  rw [hq,List.zipWith_cons_cons,← YS hq] at he
  refine ⟨⟨by omega,hlt⟩,fun h=>⟨⟨⟨by omega,by omega⟩,room (by omega)⟩,ih _ (JQ hv) ?_⟩,fun h=>⟨room (by omega),ih _ (JQ hv) ?_⟩⟩
  ·rw [← he,if_pos (by simpa using h)];simp
  ·rw [← he,if_neg (by simpa using h)];simp
theorem QA8:Qi Tryz.prog QkA:=Qm fun x _=>QJA x.1 x.2.1
end
end Go.Proofs.YtjbdljkhbglnhaaGreat.Am

