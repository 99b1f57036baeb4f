/- -/
import Derived.Test.YtjbdljkhbglnhaaGreatZAP1
import Derived.Test.YtjbdljkhbglnhaaGreatZAPF
namespace Go.Proofs.YtjbdljkhbglnhaaGreat.Am
open Go Go.RowKit Go.Proofs.YtjbdljkhbglnhaaGreat
set_option linter.all false
noncomputable section
variable (K:TRes→Prop)
def Qjp (t:Bool):TRes:=zre (zcb t)
def QdN:TRow:=Qh 191 [(.c (.sl [TI])),(.c (.sl [TI]))] fun x=>(none,Qjp (Yc x.1 x.2.1))
def QKC:List TRow:=[Qbq,JF]
def QKs:TCode :=
 (zsq [(.reg [zmv 4 (zkb false)]),(.reg [zmv 5 0,zca 6 134 [5],zmv 7 6,.grp 7 true [zmv 8 1,zmv 9 0,zle 10 9,zca 11 114 [8,10]] 12 11,zmv 4 12]),.ret])
def QC3:List (ARv × Md):=[(.t 4,.one .d)]
theorem QNd (a:List Int) (b:List Int) (h :
K (Qjp ((Q1 a)&&(Qs b (a.length:Int))))):Hold (tawp QKC (0+0) QKs (TQ 0 0 QC3 K) (Qf [(.c (.sl [TI]) a),(.c (.sl [TI]) b)])) :=
 Hold.of (by kernel_rfl) h
theorem QHo (a:List Int) (b:List Int):TCon Tryz.prog 191 [(.c (.sl [TI]) a),(.c (.sl [TI]) b)] (Qjp (Yc a b)):=by
 refine Qq rfl fun hb=>tcg (n:=13) (sg:=QdN.sg) Ql (TOk.cons Qb7 (TOk.cons Qaf TOk.nil)) (by kernel_rfl) (by kernel_rfl) (QNd _ a b ?_)
 have hl_a:a.length≤9223372036854775807:=hb.1.1
 have hl_b:b.length≤9223372036854775807:=hb.2.1.1
 exact R_eq rfl
theorem Qi1:Qi Tryz.prog QdN:=Qm fun x _=>QHo x.1 x.2.1
def Qcf (t:(List Int) × Bool):TRes:=zra (.tp [(zcs [TI] t.1),(zcb t.2)])
def Qik:TRow:=Qh 213 [(.c (.sl [TI])),(.c (.sl [TI]))] fun x=>(none,Qcf (ZS x.1 x.2.1))
def Qj0:List TRow:=[QdN,Qdu]
def Qw7:TCode :=
 (zsq [(.reg [zbi 19 .lss 18 17]),(.cond 19 .skip (.exit 0)),(.block 1 (zsq [(.reg [zmv 20 18,zmv 8 20]),(.draw [zmv 22 0,zmv 23 8,zia 24 22 23 [TI],zld 25 24 1,zmv 26 1,zmv 27 8,zia 28 26 27 [TI],zld 29 28 1,zca 30 121 [25,29],zmv 21 30,zex 31 21 0,zex 32 21 1,zmv 9 31,zmv 10 32] []),(.reg [zmv 33 6,zmv 34 9,zop 35 (.bsl 3 [TI] [34]),zop 36 (.app 33 35 3 [TI]),zmv 6 36]),(.reg [zmv 37 7,zmv 38 37,.grp 38 false [zmv 39 10] 40 39,zmv 7 40])])),(.reg [zbi 41 .add 18 (zki 1),zmv 18 41])])
def Qqu:List (Nat × Md):=[(0,.one .d),(1,.one .d),(6,.one .f),(7,.one .d),(17,.one .d),(18,.one .d)]
def QyS:TCode :=
 (zsq [(.reg [zmv 42 6,zmv 43 7,zmv 4 42,zmv 5 43]),.ret])
def QPB:TCode :=
 (zsq [(.reg [zmv 4 (.k (.n [TI])),zmv 5 (zkb false)]),(zsq [(.reg [zmv 11 0,zmv 12 1,zca 13 191 [11,12],zno 14 13]),(.cond 14 (zsq [(.reg [zmv 4 (.k (.n [TI])),zmv 5 (zkb false)]),.ret]) .skip)]),(.reg [zop 15 (.bsl 3 [TI] []),zmv 6 15]),(.reg [zmv 7 (zkb false)]),(zsq [(.reg [zmv 16 0,zle 17 16,zmv 18 (zki 0)]),(.block 0 (.loop Qqu Qw7))]),QyS])
def Qy8:List (ARv × Md):=[(.t 4,.one .d),(.t 5,.one .d)]
def Qt6:Qb:=TQ 0 0 Qy8 K
def QF1:Qb:=Qseq (tawp Qj0 0 QyS (Qt6 K)) (Qt6 K)
def QF3:Qb:=Qblk 0 (QF1 K)
def Qi0 (a:List Int) (b:List Int) (out:Bool) (x:Int) (v:List Int):Prop:=Loop Qj0 0 Qqu Qw7 (QF3 K) ⟨[(0,(zcs [TI] a)),(1,(zcs [TI] b)),(6,(.r [TI] 0 0 v.length)),(7,(zcb out)),(17,(zci (a.length:Int))),(18,(zci x))],[(0,(.sl 3 [TI] true v))],1⟩
theorem QpP (a:List Int) (b:List Int) (out:Bool) (x:Int) (v:List Int) (h :
(zif (decide (x<(a.length:Int))) ((((0:Int)≤x∧Int.toNat x<a.length)∧((0:Int)≤x∧Int.toNat x<b.length))∧(((v.length=v.length∨v.length+1≤v.length)∧v.length+1≤big)∧(Qi0 K a b (out||((Zk (gtd (0:Int) a (Int.toNat x)) (gtd (0:Int) b (Int.toNat x))).2)) (w64 (x+(1:Int))) (List.take (v.length+1) ((List.take v.length v)++([(Zk (gtd (0:Int) a (Int.toNat x)) (gtd (0:Int) b (Int.toNat x))).1])))))) (K (Qcf ((List.take v.length (List.drop 0 v)),out))))):Qi0 K a b out x v :=
 Loop.of (by kernel_rfl) h
theorem QOl (a:List Int) (b:List Int) (h :
(zif (!(Yc a b)) (K (Qcf ([],false))) (Qi0 K a b false 0 ([]:List Int)))):Hold (tawp Qj0 (0+0) QPB (TQ 0 0 Qy8 K) (Qf [(.c (.sl [TI]) a),(.c (.sl [TI]) b)])) :=
 Hold.of (by kernel_rfl) h
theorem QRG (a:List Int) (b:List Int):TCon Tryz.prog 213 [(.c (.sl [TI]) a),(.c (.sl [TI]) b)] (Qcf (ZS a b)):=by
 refine Qq rfl fun hb=>tcg (n:=44) (sg:=Qik.sg) Ql (TOk.cons Qi1 (TOk.cons QiO TOk.nil)) (by kernel_rfl) (by kernel_rfl) (QOl _ a b ?_)
 have hl_a:a.length≤9223372036854775807:=hb.1.1
 have hl_b:b.length≤9223372036854775807:=hb.2.1.1
 refine ⟨fun h=>R_eq (by unfold ZS;rw [if_neg (by simpa using h)]),fun h=>?_⟩
 have hp:Yc a b=true:=by simpa using h
 have hl:=Qbi.1 hp
 have h6:=(YE.1 hl.1).1
 refine Zi a (fun r k=>∀ (v:List Int) (s:Bool),v.length=k→(v++(vz Zk r (b.drop k)).1,s||(vz Zk r (b.drop k)).2)=(ZS a b)→Qi0 (fun r'=>r'=Qcf (ZS a b)) a b s k v) ?_ ?_ [] false rfl (by unfold ZS;rw [if_pos hp];simp)
 ·intro v s hv he
  refine QpP (fun r'=>r'=Qcf (ZS a b)) a b _ _ _ ⟨fun h=>by simp at h,fun _=>R_eq ?_⟩
  rw [← he];simp [vz]
 ·intro k x r hk hlt hg ih v s hv he
  obtain ⟨y,q,hq⟩:=QbJ (l:=b) (k:=k) (by omega)
  refine QpP (fun r'=>r'=Qcf (ZS a b)) a b _ _ _ ⟨fun _=>?_,fun h=>by simp at h;omega⟩
  rw [Int.toNat_natCast,hg,Y4 hq,sc1 (by omega),Zv]
  refine ⟨⟨⟨by omega,hlt⟩,by omega,by omega⟩,room (by omega),ih _ _ (JY hv) ?_⟩
  rw [← he,hq,vz,YN hq]
  simp [Bool.or_assoc]
theorem QtZ:Qi Tryz.prog Qik:=Qm fun x _=>QRG x.1 x.2.1
def QcI (t:(List Int) × Bool):TRes:=zra (.tp [(zcs [TI] t.1),(zcb t.2)])
def Qf0:TRow:=Qh 124 [(.c (.sl [TI])),(.c (.sl [TI]))] fun x=>(none,QcI (Zt x.1 x.2.1))
def Qkb:List TRow:=[QdN,Qkw]
def Qvy:TCode :=
 (zsq [(.reg [zbi 19 .lss 18 17]),(.cond 19 .skip (.exit 0)),(.block 1 (zsq [(.reg [zmv 20 18,zmv 8 20]),(.draw [zmv 22 0,zmv 23 8,zia 24 22 23 [TI],zld 25 24 1,zmv 26 1,zmv 27 8,zia 28 26 27 [TI],zld 29 28 1,zca 30 192 [25,29],zmv 21 30,zex 31 21 0,zex 32 21 1,zmv 9 31,zmv 10 32] []),(.reg [zmv 33 6,zmv 34 9,zop 35 (.bsl 3 [TI] [34]),zop 36 (.app 33 35 3 [TI]),zmv 6 36]),(.reg [zmv 37 7,zmv 38 37,.grp 38 false [zmv 39 10] 40 39,zmv 7 40])])),(.reg [zbi 41 .add 18 (zki 1),zmv 18 41])])
def Qv0:List (Nat × Md):=[(0,.one .d),(1,.one .d),(6,.one .f),(7,.one .d),(17,.one .d),(18,.one .d)]
def QvY:TCode :=
 (zsq [(.reg [zmv 42 6,zmv 43 7,zmv 4 42,zmv 5 43]),.ret])
def QJA:TCode :=
 (zsq [(.reg [zmv 4 (.k (.n [TI])),zmv 5 (zkb false)]),(zsq [(.reg [zmv 11 0,zmv 12 1,zca 13 191 [11,12],zno 14 13]),(.cond 14 (zsq [(.reg [zmv 4 (.k (.n [TI])),zmv 5 (zkb false)]),.ret]) .skip)]),(.reg [zop 15 (.bsl 3 [TI] []),zmv 6 15]),(.reg [zmv 7 (zkb false)]),(zsq [(.reg [zmv 16 0,zle 17 16,zmv 18 (zki 0)]),(.block 0 (.loop Qv0 Qvy))]),QvY])
def Qww:List (ARv × Md):=[(.t 4,.one .d),(.t 5,.one .d)]
def QtN:Qb:=TQ 0 0 Qww K
def QFt:Qb:=Qseq (tawp Qkb 0 QvY (QtN K)) (QtN K)
def QIA:Qb:=Qblk 0 (QFt K)
def Qhk (a:List Int) (b:List Int) (out:Bool) (x:Int) (v:List Int):Prop:=Loop Qkb 0 Qv0 Qvy (QIA K) ⟨[(0,(zcs [TI] a)),(1,(zcs [TI] b)),(6,(.r [TI] 0 0 v.length)),(7,(zcb out)),(17,(zci (a.length:Int))),(18,(zci x))],[(0,(.sl 3 [TI] true v))],1⟩
theorem QsA (a:List Int) (b:List Int) (out:Bool) (x:Int) (v:List Int) (h :
(zif (decide (x<(a.length:Int))) ((((0:Int)≤x∧Int.toNat x<a.length)∧((0:Int)≤x∧Int.toNat x<b.length))∧(((v.length=v.length∨v.length+1≤v.length)∧v.length+1≤big)∧(Qhk K a b (out||((Qb6 (gtd (0:Int) a (Int.toNat x)) (gtd (0:Int) b (Int.toNat x))).2)) (w64 (x+(1:Int))) (List.take (v.length+1) ((List.take v.length v)++([(Qb6 (gtd (0:Int) a (Int.toNat x)) (gtd (0:Int) b (Int.toNat x))).1])))))) (K (QcI ((List.take v.length (List.drop 0 v)),out))))):Qhk K a b out x v :=
 Loop.of (by kernel_rfl) h
theorem QMX (a:List Int) (b:List Int) (h :
(zif (!(Yc a b)) (K (QcI ([],false))) (Qhk K a b false 0 ([]:List Int)))):Hold (tawp Qkb (0+0) QJA (TQ 0 0 Qww K) (Qf [(.c (.sl [TI]) a),(.c (.sl [TI]) b)])) :=
 Hold.of (by kernel_rfl) h
theorem QNc (a:List Int) (b:List Int):TCon Tryz.prog 124 [(.c (.sl [TI]) a),(.c (.sl [TI]) b)] (QcI (Zt a b)):=by
 refine Qq rfl fun hb=>tcg (n:=44) (sg:=Qf0.sg) Ql (TOk.cons Qi1 (TOk.cons QCS TOk.nil)) (by kernel_rfl) (by kernel_rfl) (QMX _ a b ?_)
 have hl_a:a.length≤9223372036854775807:=hb.1.1
 have hl_b:b.length≤9223372036854775807:=hb.2.1.1
 refine ⟨fun h=>R_eq (by unfold Zt;rw [if_neg (by simpa using h)]),fun h=>?_⟩
 have hp:Yc a b=true:=by simpa using h
 have hl:=Qbi.1 hp
 have h6:=(YE.1 hl.1).1
 refine Zi a (fun r k=>∀ (v:List Int) (s:Bool),v.length=k→(v++(vz Qb6 r (b.drop k)).1,s||(vz Qb6 r (b.drop k)).2)=(Zt a b)→Qhk (fun r'=>r'=QcI (Zt a b)) a b s k v) ?_ ?_ [] false rfl (by unfold Zt;rw [if_pos hp];simp)
 ·intro v s hv he
  refine QsA (fun r'=>r'=QcI (Zt a b)) a b _ _ _ ⟨fun h=>by simp at h,fun _=>R_eq ?_⟩
  rw [← he];simp [vz]
 ·intro k x r hk hlt hg ih v s hv he
  obtain ⟨y,q,hq⟩:=QbJ (l:=b) (k:=k) (by omega)
  refine QsA (fun r'=>r'=QcI (Zt a b)) a b _ _ _ ⟨fun _=>?_,fun h=>by simp at h;omega⟩
  rw [Int.toNat_natCast,hg,Y4 hq,sc1 (by omega),Zv]
  refine ⟨⟨⟨by omega,hlt⟩,by omega,by omega⟩,room (by omega),ih _ _ (JY hv) ?_⟩
  rw [← he,hq,vz,YN hq]
  simp [Bool.or_assoc]
theorem Qxh:Qi Tryz.prog Qf0:=Qm fun x _=>QNc x.1 x.2.1
def QcF (t:(List Int) × Bool):TRes:=zra (.tp [(zcs [TI] t.1),(zcb t.2)])
def Qix:TRow:=Qh 214 [(.c TI),(.c (.sl [TI]))] fun x=>(none,QcF (Yl x.1 x.2.1))
def QmS:List TRow:=[QeV,Qbq,Qer]
def Qra:TCode :=
 (zsq [(.reg [zbi 23 .lss 22 21]),(.cond 23 .skip (.exit 0)),(.block 1 (zsq [(.reg [zmv 24 22,zmv 8 24]),(.reg [zmv 26 0,zmv 27 1,zmv 28 8,zia 29 27 28 [TI],zld 30 29 1,zca 31 216 [26,30],zmv 25 31,zex 32 25 0,zex 33 25 1,zmv 9 32,zmv 10 33]),(.reg [zmv 34 6,zmv 35 9,zop 36 (.bsl 3 [TI] [35]),zop 37 (.app 34 36 3 [TI]),zmv 6 37]),(.reg [zmv 38 7,zmv 39 38,.grp 39 false [zmv 40 10] 41 40,zmv 7 41])])),(.reg [zbi 42 .add 22 (zki 1),zmv 22 42])])
def Qyq:List (Nat × Md):=[(0,.one .d),(1,.one .d),(6,.one .f),(7,.one .d),(21,.one .d),(22,.one .d)]
def QqI:TCode :=
 (zsq [(.reg [zmv 43 6,zmv 44 7,zmv 4 43,zmv 5 44]),.ret])
def QQz:TCode :=
 (zsq [(.reg [zmv 4 (.k (.n [TI])),zmv 5 (zkb false)]),(zsq [(.reg [zmv 11 0,zca 12 217 [11],zno 13 12,zmv 14 13,.grp 14 false [zmv 15 1,zca 16 134 [15],zno 17 16] 18 17]),(.cond 18 (zsq [(.reg [zmv 4 (.k (.n [TI])),zmv 5 (zkb false)]),.ret]) .skip)]),(.reg [zop 19 (.bsl 3 [TI] []),zmv 6 19]),(.reg [zmv 7 (zkb false)]),(zsq [(.reg [zmv 20 1,zle 21 20,zmv 22 (zki 0)]),(.block 0 (.loop Qyq Qra))]),QqI])
def QzH:List (ARv × Md):=[(.t 4,.one .d),(.t 5,.one .d)]
def Qp2:Qb:=TQ 0 0 QzH K
def QK4:Qb:=Qseq (tawp QmS 0 QqI (Qp2 K)) (Qp2 K)
def QNa:Qb:=Qblk 0 (QK4 K)
def Qgz (c:Int) (a:List Int) (out:Bool) (x:Int) (v:List Int):Prop:=Loop QmS 0 Qyq Qra (QNa K) ⟨[(0,(zci c)),(1,(zcs [TI] a)),(6,(.r [TI] 0 0 v.length)),(7,(zcb out)),(21,(zci (a.length:Int))),(22,(zci x))],[(0,(.sl 3 [TI] true v))],1⟩
theorem QqJ (c:Int) (a:List Int) (out:Bool) (x:Int) (v:List Int) (h :
(zif (decide (x<(a.length:Int))) (((0:Int)≤x∧Int.toNat x<a.length)∧(((v.length=v.length∨v.length+1≤v.length)∧v.length+1≤big)∧(Qgz K c a (out||((ZT c (gtd (0:Int) a (Int.toNat x))).2)) (w64 (x+(1:Int))) (List.take (v.length+1) ((List.take v.length v)++([(ZT c (gtd (0:Int) a (Int.toNat x))).1])))))) (K (QcF ((List.take v.length (List.drop 0 v)),out))))):Qgz K c a out x v :=
 Loop.of (by kernel_rfl) h
theorem QB9 (c:Int) (a:List Int) (h :
(zif ((!(Q6 c))||(!(Q1 a))) (K (QcF ([],false))) (Qgz K c a false 0 ([]:List Int)))):Hold (tawp QmS (0+0) QQz (TQ 0 0 QzH K) (Qf [(.c TI c),(.c (.sl [TI]) a)])) :=
 Hold.of (by kernel_rfl) h
theorem QMG (c:Int) (a:List Int):TCon Tryz.prog 214 [(.c TI c),(.c (.sl [TI]) a)] (QcF (Yl c a)):=by
 refine Qq rfl fun hb=>tcg (n:=45) (sg:=Qix.sg) Ql (TOk.cons QnA (TOk.cons Qb7 (TOk.cons QlG TOk.nil))) (by kernel_rfl) (by kernel_rfl) (QB9 _ c a ?_)
 have hl_a:a.length≤9223372036854775807:=hb.2.1.1
 refine ⟨fun h=>R_eq (by unfold Yl;rw [if_neg (by intro h2;simp at h2;simp [h2] at h)]),fun h=>?_⟩
 have hp:Q6 c=true∧Q1 a=true:=by simpa using h
 have h6:=(YE.1 hp.2).1
 refine Zi a (fun r k=>∀ (v:List Int) (s:Bool),v.length=k→(v++(v1 (ZT c) r).1,s||(v1 (ZT c) r).2)=(Yl c a)→Qgz (fun r'=>r'=QcF (Yl c a)) c a s k v) ?_ ?_ [] false rfl (by unfold Yl;rw [if_pos (by simp [hp])];simp)
 ·intro v s hv he
  refine QqJ (fun r'=>r'=QcF (Yl c a)) c a _ _ _ ⟨fun h=>by simp at h,fun _=>R_eq ?_⟩
  rw [← he];simp [v1]
 ·intro k x r hk hlt hg ih v s hv he
  refine QqJ (fun r'=>r'=QcF (Yl c a)) c a _ _ _ ⟨fun _=>?_,fun h=>by simp at h;omega⟩
  rw [Int.toNat_natCast,hg,sc1 (by omega),Zv]
  refine ⟨⟨by omega,hlt⟩,room (by omega),ih _ _ (JY hv) ?_⟩
  rw [← he,v1]
  simp [Bool.or_assoc]
theorem Qyn:Qi Tryz.prog Qix:=Qm fun x _=>QMG x.1 x.2.1
def QcD (t:Int × Bool):TRes:=zre (.tp [(zci t.1),(zcb t.2)])
def QfE:TRow:=Qh 188 [(.c (.sl [TI])),(.c (.sl [TI]))] fun x=>(none,QcD (Zz x.1 x.2.1))
def Qji:List TRow:=[QdN,Qer,Qdu]
def Qo9:TCode :=
 (zsq [(.reg [zbi 20 .lss 19 18]),(.cond 20 .skip (.exit 0)),(.block 1 (zsq [(.reg [zmv 21 19,zmv 8 21]),(.draw [zmv 23 0,zmv 24 8,zia 25 23 24 [TI],zld 26 25 1,zmv 27 1,zmv 28 8,zia 29 27 28 [TI],zld 30 29 1,zca 31 216 [26,30],zmv 22 31,zex 32 22 0,zex 33 22 1,zmv 9 32,zmv 10 33] []),(.reg [zmv 35 6,zmv 36 9,zca 37 121 [35,36],zmv 34 37,zex 38 34 0,zex 39 34 1,zmv 11 38,zmv 12 39]),(.reg [zmv 40 11,zmv 6 40]),(.reg [zmv 41 7,zmv 42 41,.grp 42 false [zmv 43 10] 44 43,zmv 45 44,.grp 45 false [zmv 46 12] 47 46,zmv 7 47])])),(.reg [zbi 48 .add 19 (zki 1),zmv 19 48])])
def Qqf:List (Nat × Md):=zdl [0,1,6,7,18,19]
def QwB:TCode :=
 (zsq [(.reg [zmv 49 6,zmv 50 7,zmv 4 49,zmv 5 50]),.ret])
def QM6:TCode :=
 (zsq [(.reg [zmv 4 (zki 0),zmv 5 (zkb false)]),(zsq [(.reg [zmv 13 0,zmv 14 1,zca 15 191 [13,14],zno 16 15]),(.cond 16 (zsq [(.reg [zmv 4 (zki 0),zmv 5 (zkb false)]),.ret]) .skip)]),(.reg [zmv 6 (zki 0)]),(.reg [zmv 7 (zkb false)]),(zsq [(.reg [zmv 17 0,zle 18 17,zmv 19 (zki 0)]),(.block 0 (.loop Qqf Qo9))]),QwB])
def Qui:List (ARv × Md):=[(.t 4,.one .d),(.t 5,.one .d)]
def Qwf:Qb:=TQ 0 0 Qui K
def QQF:Qb:=Qseq (tawp Qji 0 QwB (Qwf K)) (Qwf K)
def QJn:Qb:=Qblk 0 (QQF K)
def QiP (a:List Int) (b:List Int) (sum:Int) (out:Bool) (x:Int):Prop:=Loop Qji 0 Qqf Qo9 (QJn K) ⟨[(0,(zcs [TI] a)),(1,(zcs [TI] b)),(6,(zci sum)),(7,(zcb out)),(18,(zci (a.length:Int))),(19,(zci x))],[],0⟩
theorem Quv (a:List Int) (b:List Int) (sum:Int) (out:Bool) (x:Int) (h :
(zif (decide (x<(a.length:Int))) ((((0:Int)≤x∧Int.toNat x<a.length)∧((0:Int)≤x∧Int.toNat x<b.length))∧(QiP K a b ((Zk sum ((ZT (gtd (0:Int) a (Int.toNat x)) (gtd (0:Int) b (Int.toNat x))).1)).1) ((out||((ZT (gtd (0:Int) a (Int.toNat x)) (gtd (0:Int) b (Int.toNat x))).2))||((Zk sum ((ZT (gtd (0:Int) a (Int.toNat x)) (gtd (0:Int) b (Int.toNat x))).1)).2)) (w64 (x+(1:Int))))) (K (QcD (sum,out))))):QiP K a b sum out x :=
 Loop.of (by kernel_rfl) h
theorem QMR (a:List Int) (b:List Int) (h :
(zif (!(Yc a b)) (K (QcD ((0:Int),false))) (QiP K a b 0 false 0))):Hold (tawp Qji (0+0) QM6 (TQ 0 0 Qui K) (Qf [(.c (.sl [TI]) a),(.c (.sl [TI]) b)])) :=
 Hold.of (by kernel_rfl) h
theorem QO1 (a:List Int) (b:List Int):TCon Tryz.prog 188 [(.c (.sl [TI]) a),(.c (.sl [TI]) b)] (QcD (Zz a b)):=by
 refine Qq rfl fun hb=>tcg (n:=51) (sg:=QfE.sg) Ql (TOk.cons Qi1 (TOk.cons QlG (TOk.cons QiO TOk.nil))) (by kernel_rfl) (by kernel_rfl) (QMR _ a b ?_)
 have hl_a:a.length≤9223372036854775807:=hb.1.1
 have hl_b:b.length≤9223372036854775807:=hb.2.1.1
 refine ⟨fun h=>R_eq (by unfold Zz;rw [if_neg (by simpa using h)]),fun h=>?_⟩
 have hp:Yc a b=true:=by simpa using h
 have hl:=Qbi.1 hp
 have h6:=(YE.1 hl.1).1
 refine Zi a (fun r k=>∀ (z:Int) (s:Bool),((Qaa r (b.drop k) z).1,s||(Qaa r (b.drop k) z).2)=(Zz a b)→QiP (fun r'=>r'=QcD (Zz a b)) a b z s k) ?_ ?_ 0 false (by unfold Zz;rw [if_pos hp];simp)
 ·intro z s he
  refine Quv (fun r'=>r'=QcD (Zz a b)) a b _ _ _ ⟨fun h=>by simp at h,fun _=>R_eq ?_⟩
  rw [← he];simp [Qaa]
 ·intro k x r hk hlt hg ih z s he
  obtain ⟨y,q,hq⟩:=QbJ (l:=b) (k:=k) (by omega)
  refine Quv (fun r'=>r'=QcD (Zz a b)) a b _ _ _ ⟨fun _=>?_,fun h=>by simp at h;omega⟩
  rw [Int.toNat_natCast,hg,Y4 hq,sc1 (by omega)]
  refine ⟨⟨⟨by omega,hlt⟩,by omega,by omega⟩,ih _ _ ?_⟩
  rw [← he,hq,Qaa,YN hq]
  simp [Bool.or_assoc]
theorem Qla:Qi Tryz.prog QfE:=Qm fun x _=>QO1 x.1 x.2.1
def Qck (t:(List Int)):TRes:=zra (zcs [TI] t)
def QnF:TRow:=Qh 215 [(.c (.sl [TI]))] fun x=>(none,Qck (Jj x.1))
def QlC:List TRow:=[Qbq,QkA]
def QsB:TCode :=
 (zsq [(.reg [zbi 13 .lss 12 11]),(.cond 13 .skip (.exit 0)),(.block 1 (zsq [(.reg [zia 14 10 12 [TI],zld 15 14 1,zmv 5 15]),(.reg [zmv 16 3,zmv 17 5,zca 18 234 [17],zop 19 (.bsl 3 [TI] [18]),zop 20 (.app 16 19 3 [TI]),zmv 3 20])])),(.reg [zbi 21 .add 12 (zki 1),zmv 12 21])])
def Qrp:List (Nat × Md):=[(3,.one .f),(10,.one .d),(11,.one .d),(12,.one .d)]
def QuF:TCode :=
 (zsq [(.reg [zmv 22 3,zmv 2 22]),.ret])
def QN0:TCode :=
 (zsq [(.reg [zmv 2 (.k (.n [TI]))]),(zsq [(.reg [zmv 6 0,zca 7 134 [6],zno 8 7]),(.cond 8 (zsq [(.reg [zmv 2 (.k (.n [TI]))]),.ret]) .skip)]),(.reg [zop 9 (.bsl 3 [TI] []),zmv 3 9]),(zsq [(.reg [zmv 10 0,zle 11 10,zmv 12 (zki 0)]),(.block 0 (.loop Qrp QsB))]),QuF])
def Qw3:List (ARv × Md):=[(.t 2,.one .d)]
def QsC:Qb:=TQ 0 0 Qw3 K
def QQl:Qb:=Qseq (tawp QlC 0 QuF (QsC K)) (QsC K)
def QFe:Qb:=Qblk 0 (QQl K)
def Qg7 (a:List Int) (x:Int) (v:List Int):Prop:=Loop QlC 0 Qrp QsB (QFe K) ⟨[(3,(.r [TI] 0 0 v.length)),(10,(zcs [TI] a)),(11,(zci (a.length:Int))),(12,(zci x))],[(0,(.sl 3 [TI] true v))],1⟩
theorem Qua (a:List Int) (x:Int) (v:List Int) (h :
(zif (decide (x<(a.length:Int))) (((0:Int)≤x∧Int.toNat x<a.length)∧(((v.length=v.length∨v.length+1≤v.length)∧v.length+1≤big)∧(Qg7 K a (w64 (x+(1:Int))) (List.take (v.length+1) ((List.take v.length v)++([(Qca (gtd (0:Int) a (Int.toNat x)))])))))) (K (Qck (List.take v.length (List.drop 0 v)))))):Qg7 K a x v :=
 Loop.of (by kernel_rfl) h
theorem QJv (a:List Int) (h :
(zif (!(Q1 a)) (K (Qck ([]))) (Qg7 K a 0 ([]:List Int)))):Hold (tawp QlC (0+0) QN0 (TQ 0 0 Qw3 K) (Qf [(.c (.sl [TI]) a)])) :=
 Hold.of (by kernel_rfl) h
theorem QBl (a:List Int):TCon Tryz.prog 215 [(.c (.sl [TI]) a)] (Qck (Jj a)):=by
 refine Qq rfl fun hb=>tcg (n:=23) (sg:=QnF.sg) Ql (TOk.cons Qb7 (TOk.cons QKR TOk.nil)) (by kernel_rfl) (by kernel_rfl) (QJv _ a ?_)
 have hl_a:a.length≤9223372036854775807:=hb.1.1
 refine ⟨fun h=>R_eq (by unfold Jj;rw [if_neg (by simpa using h)]),fun h=>?_⟩
 have hp:Q1 a=true:=by simpa using h
 have h6:=(YE.1 hp).1
 refine Zi a (fun r k=>∀ (v:List Int),v.length=k→v++r.map Qca=(Jj a)→Qg7 (fun r'=>r'=Qck (Jj a)) a k v) ?_ ?_ [] rfl (by unfold Jj;rw [if_pos hp];simp)
 ·intro v hv he
  refine Qua (fun r'=>r'=Qck (Jj a)) a _ _ ⟨fun h=>by simp at h,fun _=>R_eq ?_⟩
  rw [← he];simp
 ·intro k x r hk hlt hg ih v hv he
  refine Qua (fun r'=>r'=Qck (Jj a)) a _ _ ⟨fun _=>?_,fun h=>by simp at h;omega⟩
  rw [Int.toNat_natCast,hg,sc1 (by omega),Zv]
  refine ⟨⟨by omega,hlt⟩,room (by omega),ih _ (JY hv) ?_⟩
  rw [← he];simp
theorem QEm:Qi Tryz.prog QnF:=Qm fun x _=>QBl x.1
def QcN (t:(List Int)):TRes:=zra (zcs [TI] t)
def QmF:TRow:=Qh 220 [(.c (.sl [TI])),(.c (.sl [TI]))] fun x=>(none,QcN (Jq x.1 x.2.1))
def QnV:List TRow:=[QdN]
def Qqv:TCode :=
 (zsq [(.reg [zbi 15 .lss 14 13]),(.cond 15 .skip (.exit 0)),(.block 1 (zsq [(.reg [zmv 16 14,zmv 6 16]),(.reg [zmv 17 0,zmv 18 6,zia 19 17 18 [TI],zld 20 19 1,zbi 21 .gtr 20 (zki 0)]),(.cond 21 (.reg [zmv 22 5,zmv 23 1,zmv 24 6,zia 25 23 24 [TI],zld 26 25 1,zop 27 (.bsl 3 [TI] [26]),zop 28 (.app 22 27 3 [TI]),zmv 5 28]) (.reg [zmv 29 5,zop 30 (.bsl 3 [TI] [(zki 0)]),zop 31 (.app 29 30 3 [TI]),zmv 5 31]))])),(.reg [zbi 32 .add 14 (zki 1),zmv 14 32])])
def Qrz:List (Nat × Md):=[(0,.one .d),(1,.one .d),(5,.one .f),(13,.one .d),(14,.one .d)]
def Qqr:TCode :=
 (zsq [(.reg [zmv 33 5,zmv 4 33]),.ret])
def QO5:TCode :=
 (zsq [(.reg [zmv 4 (.k (.n [TI]))]),(zsq [(.reg [zmv 7 0,zmv 8 1,zca 9 191 [7,8],zno 10 9]),(.cond 10 (zsq [(.reg [zmv 4 (.k (.n [TI]))]),.ret]) .skip)]),(.reg [zop 11 (.bsl 3 [TI] []),zmv 5 11]),(zsq [(.reg [zmv 12 0,zle 13 12,zmv 14 (zki 0)]),(.block 0 (.loop Qrz Qqv))]),Qqr])
def Qvg:List (ARv × Md):=[(.t 4,.one .d)]
def QuW:Qb:=TQ 0 0 Qvg K
def QBz:Qb:=Qseq (tawp QnV 0 Qqr (QuW K)) (QuW K)
def QBW:Qb:=Qblk 0 (QBz K)
def QeF (x:List Int) (d:List Int) (x1:Int) (v:List Int):Prop:=Loop QnV 0 Qrz Qqv (QBW K) ⟨[(0,(zcs [TI] x)),(1,(zcs [TI] d)),(5,(.r [TI] 0 0 v.length)),(13,(zci (x.length:Int))),(14,(zci x1))],[(0,(.sl 3 [TI] true v))],1⟩
theorem QvA (x:List Int) (d:List Int) (x1:Int) (v:List Int) (h :
(zif (decide (x1<(x.length:Int))) (((0:Int)≤x1∧Int.toNat x1<x.length)∧(zif (decide ((gtd (0:Int) x (Int.toNat x1))>(0:Int))) ((((0:Int)≤x1∧Int.toNat x1<d.length)∧((v.length=v.length∨v.length+1≤v.length)∧v.length+1≤big))∧(QeF K x d (w64 (x1+(1:Int))) (List.take (v.length+1) ((List.take v.length v)++([(gtd (0:Int) d (Int.toNat x1))]))))) (((v.length=v.length∨v.length+1≤v.length)∧v.length+1≤big)∧(QeF K x d (w64 (x1+(1:Int))) (List.take (v.length+1) ((List.take v.length v)++([(0:Int)]))))))) (K (QcN (List.take v.length (List.drop 0 v)))))):QeF K x d x1 v :=
 Loop.of (by kernel_rfl) h
theorem QED (x:List Int) (d:List Int) (h :
(zif (!(Yc x d)) (K (QcN ([]))) (QeF K x d 0 ([]:List Int)))):Hold (tawp QnV (0+0) QO5 (TQ 0 0 Qvg K) (Qf [(.c (.sl [TI]) x),(.c (.sl [TI]) d)])) :=
 Hold.of (by kernel_rfl) h
theorem QNu (x:List Int) (d:List Int):TCon Tryz.prog 220 [(.c (.sl [TI]) x),(.c (.sl [TI]) d)] (QcN (Jq x d)):=by
 refine Qq rfl fun hb=>tcg (n:=34) (sg:=QmF.sg) Ql (TOk.cons Qi1 TOk.nil) (by kernel_rfl) (by kernel_rfl) (QED _ x d ?_)
 have hl_x:x.length≤9223372036854775807:=hb.1.1
 have hl_d:d.length≤9223372036854775807:=hb.2.1.1
 refine ⟨fun h=>R_eq (by unfold Jq;rw [if_neg (by simpa using h)]),fun h=>?_⟩
 have hp:Yc x d=true:=by simpa using h
 have hl:=Qbi.1 hp
 have h6:=(YE.1 hl.1).1
 refine Zi x (fun r k=>∀ (v:List Int),v.length=k→v++List.zipWith (fun a b=>if 0<a then b else 0) r (d.drop k)=(Jq x d)→QeF (fun r'=>r'=QcN (Jq x d)) x d k v) ?_ ?_ [] rfl (by unfold Jq;rw [if_pos hp];simp)
 ·intro v hv he
  refine QvA (fun r'=>r'=QcN (Jq x d)) x d _ _ ⟨fun h=>by simp at h,fun _=>R_eq ?_⟩
  rw [← he];simp
 ·intro k y r hk hlt hg ih v hv he
  obtain ⟨z,q,hq⟩:=QbJ (l:=d) (k:=k) (by omega)
  refine QvA (fun r'=>r'=QcN (Jq x d)) x d _ _ ⟨fun _=>?_,fun h=>by simp at h;omega⟩
  rw [Int.toNat_natCast,hg,Y4 hq,sc1 (by omega),Zv,Zv]
  rw [hq,List.zipWith_cons_cons,← YN hq] at he
  refine ⟨⟨by omega,hlt⟩,fun h=>⟨⟨⟨by omega,by omega⟩,room (by omega)⟩,ih _ (JY hv) ?_⟩,fun h=>⟨room (by omega),ih _ (JY hv) ?_⟩⟩
  ·rw [← he,if_pos (by simpa using h)];simp
  ·rw [← he,if_neg (by simpa using h)];simp
theorem QFd:Qi Tryz.prog QmF:=Qm fun x _=>QNu x.1 x.2.1
end
end Go.Proofs.YtjbdljkhbglnhaaGreat.Am

