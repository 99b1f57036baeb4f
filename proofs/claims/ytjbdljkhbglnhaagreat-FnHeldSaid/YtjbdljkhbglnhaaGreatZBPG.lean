/- -/
import Derived.Test.YtjbdljkhbglnhaaGreatZBP1
import Derived.Test.YtjbdljkhbglnhaaGreatZBPF
namespace Go.Proofs.YtjbdljkhbglnhaaGreat.Am
open Go Go.RowKit Go.Proofs.YtjbdljkhbglnhaaGreat
set_option linter.all false
noncomputable section
variable (K:TRes→Prop)
def Qnv (t:Bool):TRes:=zre (zcb t)
def Qdq:TRow:=Qi 191 [(.c (.sl [TI])),(.c (.sl [TI]))] fun x=>(none,Qnv (Yf x.1 x.2.1))
def QDi:List TRow:=[Qa0,JA]
def QBd:TCode :=
 (zsq [(.reg [zmv 4 (zkb false)]),(.reg [zmv 5 0,zca 6 134 [5],zmv 7 6,.grp 7 true [zmv 8 1,zmv 9 0,zle 10 9,zca 11 114 [8,10]] 12 11,zmv 4 12]),.ret])
def QKX:List (ARv × Md):=[(.t 4,.one .d)]
theorem QIN (a:List Int) (b:List Int) (h :
 K (Qnv ((Q3 a)&&(Qs b (a.length:Int))))):Hold (tawp QDi (0+0) QBd (TQ 0 0 QKX K) (Qf [(.c (.sl [TI]) a),(.c (.sl [TI]) b)])) :=
 Hold.of (by kernel_rfl) h
theorem QCE (a:List Int) (b:List Int):TCon Tryz.prog 191 [(.c (.sl [TI]) a),(.c (.sl [TI]) b)] (Qnv (Yf a b)):=by
 refine Qr rfl fun hb=>tcg (n:=13) (sg:=Qdq.sg) Qk (TOk.cons Qca (TOk.cons Qac TOk.nil)) (by kernel_rfl) (by kernel_rfl) (QIN _ a b ?_)
 have hl_a:a.length≤9223372036854775807:=hb.1.1
 have hl_b:b.length≤9223372036854775807:=hb.2.1.1
 exact R_eq rfl
theorem Qiv:Qj Tryz.prog Qdq:=Qm fun x _=>QCE x.1 x.2.1
def QcG (t:(List Int) × Bool):TRes:=zra (.tp [(zcs [TI] t.1),(zcb t.2)])
def QiI:TRow:=Qi 213 [(.c (.sl [TI])),(.c (.sl [TI]))] fun x=>(none,QcG (ZV x.1 x.2.1))
def Qkq:List TRow:=[Qdq,Qd3]
def QvH:TCode :=
 (zsq [(.reg [zbi 19 .lss 18 17]),(.cond 19 .skip (.exit 0)),(.block 1 (zsq [(.reg [zmv 20 18,zmv 8 20]),(.draw [zmv 22 0,zmv 23 8,zia 24 22 23 [TI],zld 25 24 1,zmv 26 1,zmv 27 8,zia 28 26 27 [TI],zld 29 28 1,zca 30 121 [25,29],zmv 21 30,zex 31 21 0,zex 32 21 1,zmv 9 31,zmv 10 32] []),(.reg [zmv 33 6,zmv 34 9,zop 35 (.bsl 3 [TI] [34]),zop 36 (.app 33 35 3 [TI]),zmv 6 36]),(.reg [zmv 37 7,zmv 38 37,.grp 38 false [zmv 39 10] 40 39,zmv 7 40])])),(.reg [zbi 41 .add 18 (zki 1),zmv 18 41])])
def QrR:List (Nat × Md):=[(0,.one .d),(1,.one .d),(6,.one .f),(7,.one .d),(17,.one .d),(18,.one .d)]
def QrX:TCode :=
 (zsq [(.reg [zmv 42 6,zmv 43 7,zmv 4 42,zmv 5 43]),.ret])
def QJm:TCode :=
 (zsq [(.reg [zmv 4 (.k (.n [TI])),zmv 5 (zkb false)]),(zsq [(.reg [zmv 11 0,zmv 12 1,zca 13 191 [11,12],zno 14 13]),(.cond 14 (zsq [(.reg [zmv 4 (.k (.n [TI])),zmv 5 (zkb false)]),.ret]) .skip)]),(.reg [zop 15 (.bsl 3 [TI] []),zmv 6 15]),(.reg [zmv 7 (zkb false)]),(zsq [(.reg [zmv 16 0,zle 17 16,zmv 18 (zki 0)]),(.block 0 (.loop QrR QvH))]),QrX])
def Qvb:List (ARv × Md):=[(.t 4,.one .d),(.t 5,.one .d)]
def Qyb:Qb:=TQ 0 0 Qvb K
def QOr:Qb:=Qseq (tawp Qkq 0 QrX (Qyb K)) (Qyb K)
def QK8:Qb:=Qblk 0 (QOr K)
def QfP (a:List Int) (b:List Int) (out:Bool) (x:Int) (v:List Int):Prop:=Loop Qkq 0 QrR QvH (QK8 K) ⟨[(0,(zcs [TI] a)),(1,(zcs [TI] b)),(6,(.r [TI] 0 0 v.length)),(7,(zcb out)),(17,(zci (a.length:Int))),(18,(zci x))],[(0,(.sl 3 [TI] true v))],1⟩
theorem QrM (a:List Int) (b:List Int) (out:Bool) (x:Int) (v:List Int) (h :
 (zif (decide (x<(a.length:Int))) ((((0:Int)≤x∧Int.toNat x<a.length)∧((0:Int)≤x∧Int.toNat x<b.length))∧(((v.length=v.length∨v.length+1≤v.length)∧v.length+1≤big)∧(QfP K a b (out||((Ze (gtd (0:Int) a (Int.toNat x)) (gtd (0:Int) b (Int.toNat x))).2)) (w64 (x+(1:Int))) (List.take (v.length+1) ((List.take v.length v)++([(Ze (gtd (0:Int) a (Int.toNat x)) (gtd (0:Int) b (Int.toNat x))).1])))))) (K (QcG ((List.take v.length (List.drop 0 v)),out))))):QfP K a b out x v :=
 Loop.of (by kernel_rfl) h
theorem QBq (a:List Int) (b:List Int) (h :
 (zif (!(Yf a b)) (K (QcG ([],false))) (QfP K a b false 0 ([]:List Int)))):Hold (tawp Qkq (0+0) QJm (TQ 0 0 Qvb K) (Qf [(.c (.sl [TI]) a),(.c (.sl [TI]) b)])) :=
 Hold.of (by kernel_rfl) h
theorem QM6 (a:List Int) (b:List Int):TCon Tryz.prog 213 [(.c (.sl [TI]) a),(.c (.sl [TI]) b)] (QcG (ZV a b)):=by
 refine Qr rfl fun hb=>tcg (n:=44) (sg:=QiI.sg) Qk (TOk.cons Qiv (TOk.cons Qgs TOk.nil)) (by kernel_rfl) (by kernel_rfl) (QBq _ a b ?_)
 have hl_a:a.length≤9223372036854775807:=hb.1.1
 have hl_b:b.length≤9223372036854775807:=hb.2.1.1
 refine ⟨fun h=>R_eq (by unfold ZV;rw [if_neg (by simpa using h)]),fun h=>?_⟩
 have hp:Yf a b=true:=by simpa using h
 have hl:=Qbf.1 hp
 have h6:=(Yz.1 hl.1).1
 refine Zt a (fun r k=>∀ (v:List Int) (s:Bool),v.length=k→(v++(vz Ze r (b.drop k)).1,s||(vz Ze r (b.drop k)).2)=(ZV a b)→QfP (fun r'=>r'=QcG (ZV a b)) a b s k v) ?_ ?_ [] false rfl (by unfold ZV;rw [if_pos hp];simp)
 ·intro v s hv he
  refine QrM (fun r'=>r'=QcG (ZV a b)) a b _ _ _ ⟨fun h=>by simp at h,fun _=>R_eq ?_⟩
  rw [← he];simp [vz]
 ·intro k x r hk hlt hg ih v s hv he
  obtain ⟨y,q,hq⟩:=QbA (l:=b) (k:=k) (by omega)
  refine QrM (fun r'=>r'=QcG (ZV a b)) a b _ _ _ ⟨fun _=>?_,fun h=>by simp at h;omega⟩
  rw [Int.toNat_natCast,hg,Y1 hq,sc1 (by omega),Zn]
  refine ⟨⟨⟨by omega,hlt⟩,by omega,by omega⟩,room (by omega),ih _ _ (JQ hv) ?_⟩
  rw [← he,hq,vz,YS hq]
  simp [Bool.or_assoc]
theorem QoA:Qj Tryz.prog QiI:=Qm fun x _=>QM6 x.1 x.2.1
def Qcm (t:(List Int) × Bool):TRes:=zra (.tp [(zcs [TI] t.1),(zcb t.2)])
def Qg5:TRow:=Qi 124 [(.c (.sl [TI])),(.c (.sl [TI]))] fun x=>(none,Qcm (ZH x.1 x.2.1))
def Qm4:List TRow:=[Qdq,Qjy]
def Qsj:TCode :=
 (zsq [(.reg [zbi 19 .lss 18 17]),(.cond 19 .skip (.exit 0)),(.block 1 (zsq [(.reg [zmv 20 18,zmv 8 20]),(.draw [zmv 22 0,zmv 23 8,zia 24 22 23 [TI],zld 25 24 1,zmv 26 1,zmv 27 8,zia 28 26 27 [TI],zld 29 28 1,zca 30 192 [25,29],zmv 21 30,zex 31 21 0,zex 32 21 1,zmv 9 31,zmv 10 32] []),(.reg [zmv 33 6,zmv 34 9,zop 35 (.bsl 3 [TI] [34]),zop 36 (.app 33 35 3 [TI]),zmv 6 36]),(.reg [zmv 37 7,zmv 38 37,.grp 38 false [zmv 39 10] 40 39,zmv 7 40])])),(.reg [zbi 41 .add 18 (zki 1),zmv 18 41])])
def Qxh:List (Nat × Md):=[(0,.one .d),(1,.one .d),(6,.one .f),(7,.one .d),(17,.one .d),(18,.one .d)]
def Qs9:TCode :=
 (zsq [(.reg [zmv 42 6,zmv 43 7,zmv 4 42,zmv 5 43]),.ret])
def QHo:TCode :=
 (zsq [(.reg [zmv 4 (.k (.n [TI])),zmv 5 (zkb false)]),(zsq [(.reg [zmv 11 0,zmv 12 1,zca 13 191 [11,12],zno 14 13]),(.cond 14 (zsq [(.reg [zmv 4 (.k (.n [TI])),zmv 5 (zkb false)]),.ret]) .skip)]),(.reg [zop 15 (.bsl 3 [TI] []),zmv 6 15]),(.reg [zmv 7 (zkb false)]),(zsq [(.reg [zmv 16 0,zle 17 16,zmv 18 (zki 0)]),(.block 0 (.loop Qxh Qsj))]),Qs9])
def QsY:List (ARv × Md):=[(.t 4,.one .d),(.t 5,.one .d)]
def Qwb:Qb:=TQ 0 0 QsY K
def QKY:Qb:=Qseq (tawp Qm4 0 Qs9 (Qwb K)) (Qwb K)
def QGG:Qb:=Qblk 0 (QKY K)
def QiG (a:List Int) (b:List Int) (out:Bool) (x:Int) (v:List Int):Prop:=Loop Qm4 0 Qxh Qsj (QGG K) ⟨[(0,(zcs [TI] a)),(1,(zcs [TI] b)),(6,(.r [TI] 0 0 v.length)),(7,(zcb out)),(17,(zci (a.length:Int))),(18,(zci x))],[(0,(.sl 3 [TI] true v))],1⟩
theorem QwO (a:List Int) (b:List Int) (out:Bool) (x:Int) (v:List Int) (h :
 (zif (decide (x<(a.length:Int))) ((((0:Int)≤x∧Int.toNat x<a.length)∧((0:Int)≤x∧Int.toNat x<b.length))∧(((v.length=v.length∨v.length+1≤v.length)∧v.length+1≤big)∧(QiG K a b (out||((QbM (gtd (0:Int) a (Int.toNat x)) (gtd (0:Int) b (Int.toNat x))).2)) (w64 (x+(1:Int))) (List.take (v.length+1) ((List.take v.length v)++([(QbM (gtd (0:Int) a (Int.toNat x)) (gtd (0:Int) b (Int.toNat x))).1])))))) (K (Qcm ((List.take v.length (List.drop 0 v)),out))))):QiG K a b out x v :=
 Loop.of (by kernel_rfl) h
theorem QKS (a:List Int) (b:List Int) (h :
 (zif (!(Yf a b)) (K (Qcm ([],false))) (QiG K a b false 0 ([]:List Int)))):Hold (tawp Qm4 (0+0) QHo (TQ 0 0 QsY K) (Qf [(.c (.sl [TI]) a),(.c (.sl [TI]) b)])) :=
 Hold.of (by kernel_rfl) h
theorem QEo (a:List Int) (b:List Int):TCon Tryz.prog 124 [(.c (.sl [TI]) a),(.c (.sl [TI]) b)] (Qcm (ZH a b)):=by
 refine Qr rfl fun hb=>tcg (n:=44) (sg:=Qg5.sg) Qk (TOk.cons Qiv (TOk.cons QJO TOk.nil)) (by kernel_rfl) (by kernel_rfl) (QKS _ a b ?_)
 have hl_a:a.length≤9223372036854775807:=hb.1.1
 have hl_b:b.length≤9223372036854775807:=hb.2.1.1
 refine ⟨fun h=>R_eq (by unfold ZH;rw [if_neg (by simpa using h)]),fun h=>?_⟩
 have hp:Yf a b=true:=by simpa using h
 have hl:=Qbf.1 hp
 have h6:=(Yz.1 hl.1).1
 refine Zt a (fun r k=>∀ (v:List Int) (s:Bool),v.length=k→(v++(vz QbM r (b.drop k)).1,s||(vz QbM r (b.drop k)).2)=(ZH a b)→QiG (fun r'=>r'=Qcm (ZH a b)) a b s k v) ?_ ?_ [] false rfl (by unfold ZH;rw [if_pos hp];simp)
 ·intro v s hv he
  refine QwO (fun r'=>r'=Qcm (ZH a b)) a b _ _ _ ⟨fun h=>by simp at h,fun _=>R_eq ?_⟩
  rw [← he];simp [vz]
 ·intro k x r hk hlt hg ih v s hv he
  obtain ⟨y,q,hq⟩:=QbA (l:=b) (k:=k) (by omega)
  refine QwO (fun r'=>r'=Qcm (ZH a b)) a b _ _ _ ⟨fun _=>?_,fun h=>by simp at h;omega⟩
  rw [Int.toNat_natCast,hg,Y1 hq,sc1 (by omega),Zn]
  refine ⟨⟨⟨by omega,hlt⟩,by omega,by omega⟩,room (by omega),ih _ _ (JQ hv) ?_⟩
  rw [← he,hq,vz,YS hq]
  simp [Bool.or_assoc]
theorem Qu6:Qj Tryz.prog Qg5:=Qm fun x _=>QEo x.1 x.2.1
def QcB (t:(List Int) × Bool):TRes:=zra (.tp [(zcs [TI] t.1),(zcb t.2)])
def QfF:TRow:=Qi 214 [(.c TI),(.c (.sl [TI]))] fun x=>(none,QcB (Yo x.1 x.2.1))
def Qi6:List TRow:=[Qd7,Qa0,QeK]
def Qqc:TCode :=
 (zsq [(.reg [zbi 23 .lss 22 21]),(.cond 23 .skip (.exit 0)),(.block 1 (zsq [(.reg [zmv 24 22,zmv 8 24]),(.reg [zmv 26 0,zmv 27 1,zmv 28 8,zia 29 27 28 [TI],zld 30 29 1,zca 31 216 [26,30],zmv 25 31,zex 32 25 0,zex 33 25 1,zmv 9 32,zmv 10 33]),(.reg [zmv 34 6,zmv 35 9,zop 36 (.bsl 3 [TI] [35]),zop 37 (.app 34 36 3 [TI]),zmv 6 37]),(.reg [zmv 38 7,zmv 39 38,.grp 39 false [zmv 40 10] 41 40,zmv 7 41])])),(.reg [zbi 42 .add 22 (zki 1),zmv 22 42])])
def Qoy:List (Nat × Md):=[(0,.one .d),(1,.one .d),(6,.one .f),(7,.one .d),(21,.one .d),(22,.one .d)]
def QpJ:TCode :=
 (zsq [(.reg [zmv 43 6,zmv 44 7,zmv 4 43,zmv 5 44]),.ret])
def QGK:TCode :=
 (zsq [(.reg [zmv 4 (.k (.n [TI])),zmv 5 (zkb false)]),(zsq [(.reg [zmv 11 0,zca 12 217 [11],zno 13 12,zmv 14 13,.grp 14 false [zmv 15 1,zca 16 134 [15],zno 17 16] 18 17]),(.cond 18 (zsq [(.reg [zmv 4 (.k (.n [TI])),zmv 5 (zkb false)]),.ret]) .skip)]),(.reg [zop 19 (.bsl 3 [TI] []),zmv 6 19]),(.reg [zmv 7 (zkb false)]),(zsq [(.reg [zmv 20 1,zle 21 20,zmv 22 (zki 0)]),(.block 0 (.loop Qoy Qqc))]),QpJ])
def QpO:List (ARv × Md):=[(.t 4,.one .d),(.t 5,.one .d)]
def Qsu:Qb:=TQ 0 0 QpO K
def QL0:Qb:=Qseq (tawp Qi6 0 QpJ (Qsu K)) (Qsu K)
def QLn:Qb:=Qblk 0 (QL0 K)
def Qh8 (c:Int) (a:List Int) (out:Bool) (x:Int) (v:List Int):Prop:=Loop Qi6 0 Qoy Qqc (QLn K) ⟨[(0,(zci c)),(1,(zcs [TI] a)),(6,(.r [TI] 0 0 v.length)),(7,(zcb out)),(21,(zci (a.length:Int))),(22,(zci x))],[(0,(.sl 3 [TI] true v))],1⟩
theorem Qts (c:Int) (a:List Int) (out:Bool) (x:Int) (v:List Int) (h :
 (zif (decide (x<(a.length:Int))) (((0:Int)≤x∧Int.toNat x<a.length)∧(((v.length=v.length∨v.length+1≤v.length)∧v.length+1≤big)∧(Qh8 K c a (out||((ZQ c (gtd (0:Int) a (Int.toNat x))).2)) (w64 (x+(1:Int))) (List.take (v.length+1) ((List.take v.length v)++([(ZQ c (gtd (0:Int) a (Int.toNat x))).1])))))) (K (QcB ((List.take v.length (List.drop 0 v)),out))))):Qh8 K c a out x v :=
 Loop.of (by kernel_rfl) h
theorem QCw (c:Int) (a:List Int) (h :
 (zif ((!(Q5 c))||(!(Q3 a))) (K (QcB ([],false))) (Qh8 K c a false 0 ([]:List Int)))):Hold (tawp Qi6 (0+0) QGK (TQ 0 0 QpO K) (Qf [(.c TI c),(.c (.sl [TI]) a)])) :=
 Hold.of (by kernel_rfl) h
theorem QJz (c:Int) (a:List Int):TCon Tryz.prog 214 [(.c TI c),(.c (.sl [TI]) a)] (QcB (Yo c a)):=by
 refine Qr rfl fun hb=>tcg (n:=45) (sg:=QfF.sg) Qk (TOk.cons Qko (TOk.cons Qca (TOk.cons Qkn TOk.nil))) (by kernel_rfl) (by kernel_rfl) (QCw _ c a ?_)
 have hl_a:a.length≤9223372036854775807:=hb.2.1.1
 refine ⟨fun h=>R_eq (by unfold Yo;rw [if_neg (by intro h2;simp at h2;simp [h2] at h)]),fun h=>?_⟩
 have hp:Q5 c=true∧Q3 a=true:=by simpa using h
 have h6:=(Yz.1 hp.2).1
 refine Zt a (fun r k=>∀ (v:List Int) (s:Bool),v.length=k→(v++(v1 (ZQ c) r).1,s||(v1 (ZQ c) r).2)=(Yo c a)→Qh8 (fun r'=>r'=QcB (Yo c a)) c a s k v) ?_ ?_ [] false rfl (by unfold Yo;rw [if_pos (by simp [hp])];simp)
 ·intro v s hv he
  refine Qts (fun r'=>r'=QcB (Yo c a)) c a _ _ _ ⟨fun h=>by simp at h,fun _=>R_eq ?_⟩
  rw [← he];simp [v1]
 ·intro k x r hk hlt hg ih v s hv he
  refine Qts (fun r'=>r'=QcB (Yo c a)) c a _ _ _ ⟨fun _=>?_,fun h=>by simp at h;omega⟩
  rw [Int.toNat_natCast,hg,sc1 (by omega),Zn]
  refine ⟨⟨by omega,hlt⟩,room (by omega),ih _ _ (JQ hv) ?_⟩
  rw [← he,v1]
  simp [Bool.or_assoc]
theorem QwQ:Qj Tryz.prog QfF:=Qm fun x _=>QJz x.1 x.2.1
def Qc3 (t:Int × Bool):TRes:=zre (.tp [(zci t.1),(zcb t.2)])
def Qex:TRow:=Qi 188 [(.c (.sl [TI])),(.c (.sl [TI]))] fun x=>(none,Qc3 (Zy x.1 x.2.1))
def Qlm:List TRow:=[Qdq,QeK,Qd3]
def QrZ:TCode :=
 (zsq [(.reg [zbi 20 .lss 19 18]),(.cond 20 .skip (.exit 0)),(.block 1 (zsq [(.reg [zmv 21 19,zmv 8 21]),(.draw [zmv 23 0,zmv 24 8,zia 25 23 24 [TI],zld 26 25 1,zmv 27 1,zmv 28 8,zia 29 27 28 [TI],zld 30 29 1,zca 31 216 [26,30],zmv 22 31,zex 32 22 0,zex 33 22 1,zmv 9 32,zmv 10 33] []),(.reg [zmv 35 6,zmv 36 9,zca 37 121 [35,36],zmv 34 37,zex 38 34 0,zex 39 34 1,zmv 11 38,zmv 12 39]),(.reg [zmv 40 11,zmv 6 40]),(.reg [zmv 41 7,zmv 42 41,.grp 42 false [zmv 43 10] 44 43,zmv 45 44,.grp 45 false [zmv 46 12] 47 46,zmv 7 47])])),(.reg [zbi 48 .add 19 (zki 1),zmv 19 48])])
def Qqt:List (Nat × Md):=zdl [0,1,6,7,18,19]
def QtF:TCode :=
 (zsq [(.reg [zmv 49 6,zmv 50 7,zmv 4 49,zmv 5 50]),.ret])
def QPp:TCode :=
 (zsq [(.reg [zmv 4 (zki 0),zmv 5 (zkb false)]),(zsq [(.reg [zmv 13 0,zmv 14 1,zca 15 191 [13,14],zno 16 15]),(.cond 16 (zsq [(.reg [zmv 4 (zki 0),zmv 5 (zkb false)]),.ret]) .skip)]),(.reg [zmv 6 (zki 0)]),(.reg [zmv 7 (zkb false)]),(zsq [(.reg [zmv 17 0,zle 18 17,zmv 19 (zki 0)]),(.block 0 (.loop Qqt QrZ))]),QtF])
def Qs0:List (ARv × Md):=[(.t 4,.one .d),(.t 5,.one .d)]
def QpX:Qb:=TQ 0 0 Qs0 K
def QJI:Qb:=Qseq (tawp Qlm 0 QtF (QpX K)) (QpX K)
def QAJ:Qb:=Qblk 0 (QJI K)
def Qhf (a:List Int) (b:List Int) (sum:Int) (out:Bool) (x:Int):Prop:=Loop Qlm 0 Qqt QrZ (QAJ K) ⟨[(0,(zcs [TI] a)),(1,(zcs [TI] b)),(6,(zci sum)),(7,(zcb out)),(18,(zci (a.length:Int))),(19,(zci x))],[],0⟩
theorem Qya (a:List Int) (b:List Int) (sum:Int) (out:Bool) (x:Int) (h :
 (zif (decide (x<(a.length:Int))) ((((0:Int)≤x∧Int.toNat x<a.length)∧((0:Int)≤x∧Int.toNat x<b.length))∧(Qhf K a b ((Ze sum ((ZQ (gtd (0:Int) a (Int.toNat x)) (gtd (0:Int) b (Int.toNat x))).1)).1) ((out||((ZQ (gtd (0:Int) a (Int.toNat x)) (gtd (0:Int) b (Int.toNat x))).2))||((Ze sum ((ZQ (gtd (0:Int) a (Int.toNat x)) (gtd (0:Int) b (Int.toNat x))).1)).2)) (w64 (x+(1:Int))))) (K (Qc3 (sum,out))))):Qhf K a b sum out x :=
 Loop.of (by kernel_rfl) h
theorem QIl (a:List Int) (b:List Int) (h :
 (zif (!(Yf a b)) (K (Qc3 ((0:Int),false))) (Qhf K a b 0 false 0))):Hold (tawp Qlm (0+0) QPp (TQ 0 0 Qs0 K) (Qf [(.c (.sl [TI]) a),(.c (.sl [TI]) b)])) :=
 Hold.of (by kernel_rfl) h
theorem QEN (a:List Int) (b:List Int):TCon Tryz.prog 188 [(.c (.sl [TI]) a),(.c (.sl [TI]) b)] (Qc3 (Zy a b)):=by
 refine Qr rfl fun hb=>tcg (n:=51) (sg:=Qex.sg) Qk (TOk.cons Qiv (TOk.cons Qkn (TOk.cons Qgs TOk.nil))) (by kernel_rfl) (by kernel_rfl) (QIl _ a b ?_)
 have hl_a:a.length≤9223372036854775807:=hb.1.1
 have hl_b:b.length≤9223372036854775807:=hb.2.1.1
 refine ⟨fun h=>R_eq (by unfold Zy;rw [if_neg (by simpa using h)]),fun h=>?_⟩
 have hp:Yf a b=true:=by simpa using h
 have hl:=Qbf.1 hp
 have h6:=(Yz.1 hl.1).1
 refine Zt a (fun r k=>∀ (z:Int) (s:Bool),((Qaj r (b.drop k) z).1,s||(Qaj r (b.drop k) z).2)=(Zy a b)→Qhf (fun r'=>r'=Qc3 (Zy a b)) a b z s k) ?_ ?_ 0 false (by unfold Zy;rw [if_pos hp];simp)
 ·intro z s he
  refine Qya (fun r'=>r'=Qc3 (Zy a b)) a b _ _ _ ⟨fun h=>by simp at h,fun _=>R_eq ?_⟩
  rw [← he];simp [Qaj]
 ·intro k x r hk hlt hg ih z s he
  obtain ⟨y,q,hq⟩:=QbA (l:=b) (k:=k) (by omega)
  refine Qya (fun r'=>r'=Qc3 (Zy a b)) a b _ _ _ ⟨fun _=>?_,fun h=>by simp at h;omega⟩
  rw [Int.toNat_natCast,hg,Y1 hq,sc1 (by omega)]
  refine ⟨⟨⟨by omega,hlt⟩,by omega,by omega⟩,ih _ _ ?_⟩
  rw [← he,hq,Qaj,YS hq]
  simp [Bool.or_assoc]
theorem QmB:Qj Tryz.prog Qex:=Qm fun x _=>QEN x.1 x.2.1
def Qc0 (t:(List Int)):TRes:=zra (zcs [TI] t)
def QkI:TRow:=Qi 215 [(.c (.sl [TI]))] fun x=>(none,Qc0 (Jo x.1))
def QjE:List TRow:=[Qa0,QkF]
def QtK:TCode :=
 (zsq [(.reg [zbi 13 .lss 12 11]),(.cond 13 .skip (.exit 0)),(.block 1 (zsq [(.reg [zia 14 10 12 [TI],zld 15 14 1,zmv 5 15]),(.reg [zmv 16 3,zmv 17 5,zca 18 234 [17],zop 19 (.bsl 3 [TI] [18]),zop 20 (.app 16 19 3 [TI]),zmv 3 20])])),(.reg [zbi 21 .add 12 (zki 1),zmv 12 21])])
def Qwg:List (Nat × Md):=[(3,.one .f),(10,.one .d),(11,.one .d),(12,.one .d)]
def Qw8:TCode :=
 (zsq [(.reg [zmv 22 3,zmv 2 22]),.ret])
def QP8:TCode :=
 (zsq [(.reg [zmv 2 (.k (.n [TI]))]),(zsq [(.reg [zmv 6 0,zca 7 134 [6],zno 8 7]),(.cond 8 (zsq [(.reg [zmv 2 (.k (.n [TI]))]),.ret]) .skip)]),(.reg [zop 9 (.bsl 3 [TI] []),zmv 3 9]),(zsq [(.reg [zmv 10 0,zle 11 10,zmv 12 (zki 0)]),(.block 0 (.loop Qwg QtK))]),Qw8])
def Qvt:List (ARv × Md):=[(.t 2,.one .d)]
def QyP:Qb:=TQ 0 0 Qvt K
def QK7:Qb:=Qseq (tawp QjE 0 Qw8 (QyP K)) (QyP K)
def QP7:Qb:=Qblk 0 (QK7 K)
def Qfz (a:List Int) (x:Int) (v:List Int):Prop:=Loop QjE 0 Qwg QtK (QP7 K) ⟨[(3,(.r [TI] 0 0 v.length)),(10,(zcs [TI] a)),(11,(zci (a.length:Int))),(12,(zci x))],[(0,(.sl 3 [TI] true v))],1⟩
theorem QwH (a:List Int) (x:Int) (v:List Int) (h :
 (zif (decide (x<(a.length:Int))) (((0:Int)≤x∧Int.toNat x<a.length)∧(((v.length=v.length∨v.length+1≤v.length)∧v.length+1≤big)∧(Qfz K a (w64 (x+(1:Int))) (List.take (v.length+1) ((List.take v.length v)++([(Qc4 (gtd (0:Int) a (Int.toNat x)))])))))) (K (Qc0 (List.take v.length (List.drop 0 v)))))):Qfz K a x v :=
 Loop.of (by kernel_rfl) h
theorem QK0 (a:List Int) (h :
 (zif (!(Q3 a)) (K (Qc0 ([]))) (Qfz K a 0 ([]:List Int)))):Hold (tawp QjE (0+0) QP8 (TQ 0 0 Qvt K) (Qf [(.c (.sl [TI]) a)])) :=
 Hold.of (by kernel_rfl) h
theorem QDb (a:List Int):TCon Tryz.prog 215 [(.c (.sl [TI]) a)] (Qc0 (Jo a)):=by
 refine Qr rfl fun hb=>tcg (n:=23) (sg:=QkI.sg) Qk (TOk.cons Qca (TOk.cons QL5 TOk.nil)) (by kernel_rfl) (by kernel_rfl) (QK0 _ a ?_)
 have hl_a:a.length≤9223372036854775807:=hb.1.1
 refine ⟨fun h=>R_eq (by unfold Jo;rw [if_neg (by simpa using h)]),fun h=>?_⟩
 have hp:Q3 a=true:=by simpa using h
 have h6:=(Yz.1 hp).1
 refine Zt a (fun r k=>∀ (v:List Int),v.length=k→v++r.map Qc4=(Jo a)→Qfz (fun r'=>r'=Qc0 (Jo a)) a k v) ?_ ?_ [] rfl (by unfold Jo;rw [if_pos hp];simp)
 ·intro v hv he
  refine QwH (fun r'=>r'=Qc0 (Jo a)) a _ _ ⟨fun h=>by simp at h,fun _=>R_eq ?_⟩
  rw [← he];simp
 ·intro k x r hk hlt hg ih v hv he
  refine QwH (fun r'=>r'=Qc0 (Jo a)) a _ _ ⟨fun _=>?_,fun h=>by simp at h;omega⟩
  rw [Int.toNat_natCast,hg,sc1 (by omega),Zn]
  refine ⟨⟨by omega,hlt⟩,room (by omega),ih _ (JQ hv) ?_⟩
  rw [← he];simp
theorem QQk:Qj Tryz.prog QkI:=Qm fun x _=>QDb x.1
def Qcv (t:(List Int)):TRes:=zra (zcs [TI] t)
def Qj8:TRow:=Qi 220 [(.c (.sl [TI])),(.c (.sl [TI]))] fun x=>(none,Qcv (Jk x.1 x.2.1))
def QnA:List TRow:=[Qdq]
def Qw5:TCode :=
 (zsq [(.reg [zbi 15 .lss 14 13]),(.cond 15 .skip (.exit 0)),(.block 1 (zsq [(.reg [zmv 16 14,zmv 6 16]),(.reg [zmv 17 0,zmv 18 6,zia 19 17 18 [TI],zld 20 19 1,zbi 21 .gtr 20 (zki 0)]),(.cond 21 (.reg [zmv 22 5,zmv 23 1,zmv 24 6,zia 25 23 24 [TI],zld 26 25 1,zop 27 (.bsl 3 [TI] [26]),zop 28 (.app 22 27 3 [TI]),zmv 5 28]) (.reg [zmv 29 5,zop 30 (.bsl 3 [TI] [(zki 0)]),zop 31 (.app 29 30 3 [TI]),zmv 5 31]))])),(.reg [zbi 32 .add 14 (zki 1),zmv 14 32])])
def Qyd:List (Nat × Md):=[(0,.one .d),(1,.one .d),(5,.one .f),(13,.one .d),(14,.one .d)]
def Qxn:TCode :=
 (zsq [(.reg [zmv 33 5,zmv 4 33]),.ret])
def QDy:TCode :=
 (zsq [(.reg [zmv 4 (.k (.n [TI]))]),(zsq [(.reg [zmv 7 0,zmv 8 1,zca 9 191 [7,8],zno 10 9]),(.cond 10 (zsq [(.reg [zmv 4 (.k (.n [TI]))]),.ret]) .skip)]),(.reg [zop 11 (.bsl 3 [TI] []),zmv 5 11]),(zsq [(.reg [zmv 12 0,zle 13 12,zmv 14 (zki 0)]),(.block 0 (.loop Qyd Qw5))]),Qxn])
def Qqw:List (ARv × Md):=[(.t 4,.one .d)]
def Qwf:Qb:=TQ 0 0 Qqw K
def QDY:Qb:=Qseq (tawp QnA 0 Qxn (Qwf K)) (Qwf K)
def QOj:Qb:=Qblk 0 (QDY K)
def Qfm (x:List Int) (d:List Int) (x1:Int) (v:List Int):Prop:=Loop QnA 0 Qyd Qw5 (QOj K) ⟨[(0,(zcs [TI] x)),(1,(zcs [TI] d)),(5,(.r [TI] 0 0 v.length)),(13,(zci (x.length:Int))),(14,(zci x1))],[(0,(.sl 3 [TI] true v))],1⟩
theorem QwE (x:List Int) (d:List Int) (x1:Int) (v:List Int) (h :
 (zif (decide (x1<(x.length:Int))) (((0:Int)≤x1∧Int.toNat x1<x.length)∧(zif (decide ((gtd (0:Int) x (Int.toNat x1))>(0:Int))) ((((0:Int)≤x1∧Int.toNat x1<d.length)∧((v.length=v.length∨v.length+1≤v.length)∧v.length+1≤big))∧(Qfm K x d (w64 (x1+(1:Int))) (List.take (v.length+1) ((List.take v.length v)++([(gtd (0:Int) d (Int.toNat x1))]))))) (((v.length=v.length∨v.length+1≤v.length)∧v.length+1≤big)∧(Qfm K x d (w64 (x1+(1:Int))) (List.take (v.length+1) ((List.take v.length v)++([(0:Int)]))))))) (K (Qcv (List.take v.length (List.drop 0 v)))))):Qfm K x d x1 v :=
 Loop.of (by kernel_rfl) h
theorem QzD (x:List Int) (d:List Int) (h :
 (zif (!(Yf x d)) (K (Qcv ([]))) (Qfm K x d 0 ([]:List Int)))):Hold (tawp QnA (0+0) QDy (TQ 0 0 Qqw K) (Qf [(.c (.sl [TI]) x),(.c (.sl [TI]) d)])) :=
 Hold.of (by kernel_rfl) h
theorem QKi (x:List Int) (d:List Int):TCon Tryz.prog 220 [(.c (.sl [TI]) x),(.c (.sl [TI]) d)] (Qcv (Jk x d)):=by
 refine Qr rfl fun hb=>tcg (n:=34) (sg:=Qj8.sg) Qk (TOk.cons Qiv TOk.nil) (by kernel_rfl) (by kernel_rfl) (QzD _ x d ?_)
 have hl_x:x.length≤9223372036854775807:=hb.1.1
 have hl_d:d.length≤9223372036854775807:=hb.2.1.1
 refine ⟨fun h=>R_eq (by unfold Jk;rw [if_neg (by simpa using h)]),fun h=>?_⟩
 have hp:Yf x d=true:=by simpa using h
 have hl:=Qbf.1 hp
 have h6:=(Yz.1 hl.1).1
 refine Zt x (fun r k=>∀ (v:List Int),v.length=k→v++List.zipWith (fun a b=>if 0<a then b else 0) r (d.drop k)=(Jk x d)→Qfm (fun r'=>r'=Qcv (Jk x d)) x d k v) ?_ ?_ [] rfl (by unfold Jk;rw [if_pos hp];simp)
 ·intro v hv he
  refine QwE (fun r'=>r'=Qcv (Jk x d)) x d _ _ ⟨fun h=>by simp at h,fun _=>R_eq ?_⟩
  rw [← he];simp
 ·intro k y r hk hlt hg ih v hv he
  obtain ⟨z,q,hq⟩:=QbA (l:=d) (k:=k) (by omega)
  refine QwE (fun r'=>r'=Qcv (Jk x d)) x d _ _ ⟨fun _=>?_,fun h=>by simp at h;omega⟩
  rw [Int.toNat_natCast,hg,Y1 hq,sc1 (by omega),Zn,Zn]
  rw [hq,List.zipWith_cons_cons,← YS hq] at he
  refine ⟨⟨by omega,hlt⟩,fun h=>⟨⟨⟨by omega,by omega⟩,room (by omega)⟩,ih _ (JQ hv) ?_⟩,fun h=>⟨room (by omega),ih _ (JQ hv) ?_⟩⟩
  ·rw [← he,if_pos (by simpa using h)];simp
  ·rw [← he,if_neg (by simpa using h)];simp
theorem QBU:Qj Tryz.prog Qj8:=Qm fun x _=>QKi x.1 x.2.1
end
end Go.Proofs.YtjbdljkhbglnhaaGreat.Am

