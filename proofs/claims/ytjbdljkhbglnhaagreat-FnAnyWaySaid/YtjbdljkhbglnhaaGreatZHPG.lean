/- -/
import Derived.Test.YtjbdljkhbglnhaaGreatZHP1
import Derived.Test.YtjbdljkhbglnhaaGreatZHPF
namespace Go.Proofs.YtjbdljkhbglnhaaGreat.Am
open Go Go.RowKit Go.Proofs.YtjbdljkhbglnhaaGreat
set_option linter.all false
noncomputable section
variable (K:TRes→Prop)
def QkC (t:Bool):TRes:=zre (zcb t)
def Qeh:TRow:=Qg 191 [(.c (.sl [TI])),(.c (.sl [TI]))] fun x=>(none,QkC (Ya x.1 x.2.1))
def QMh:List TRow:=[Qa0,JA]
def QB7:TCode :=
 (zsq [(.reg [zmv 4 (zkb false)]),(.reg [zmv 5 0,zca 6 134 [5],zmv 7 6,.grp 7 true [zmv 8 1,zmv 9 0,zle 10 9,zca 11 114 [8,10]] 12 11,zmv 4 12]),.ret])
def QHK:List (ARv × Md):=[(.t 4,.one .d)]
theorem QIx (a:List Int) (b:List Int) (h :
 K (QkC ((Q8 a)&&(Qs b (a.length:Int))))):Hold (tawp QMh (0+0) QB7 (TQ 0 0 QHK K) (Qf [(.c (.sl [TI]) a),(.c (.sl [TI]) b)])) :=
 Hold.of (by kernel_rfl) h
theorem QJq (a:List Int) (b:List Int):TCon Tryz.prog 191 [(.c (.sl [TI]) a),(.c (.sl [TI]) b)] (QkC (Ya a b)):=by
 refine Qq rfl fun hb=>tcg (n:=13) (sg:=Qeh.sg) Qj (TOk.cons QcT (TOk.cons Qao TOk.nil)) (by kernel_rfl) (by kernel_rfl) (QIx _ a b ?_)
 have hl_a:a.length≤9223372036854775807:=hb.1.1
 have hl_b:b.length≤9223372036854775807:=hb.2.1.1
 exact R_eq rfl
theorem QfW:Qh Tryz.prog Qeh:=Qk fun x _=>QJq x.1 x.2.1
def Qcy (t:(List Int) × Bool):TRes:=zra (.tp [(zcs [TI] t.1),(zcb t.2)])
def Qi5:TRow:=Qg 213 [(.c (.sl [TI])),(.c (.sl [TI]))] fun x=>(none,Qcy (ZY x.1 x.2.1))
def Qlu:List TRow:=[Qeh,Qed]
def Qtd:TCode :=
 (zsq [(.reg [zbi 19 .lss 18 17]),(.cond 19 .skip (.exit 0)),(.block 1 (zsq [(.reg [zmv 20 18,zmv 8 20]),(.draw [zmv 22 0,zmv 23 8,zia 24 22 23 [TI],zld 25 24 1,zmv 26 1,zmv 27 8,zia 28 26 27 [TI],zld 29 28 1,zca 30 121 [25,29],zmv 21 30,zex 31 21 0,zex 32 21 1,zmv 9 31,zmv 10 32] []),(.reg [zmv 33 6,zmv 34 9,zop 35 (.bsl 3 [TI] [34]),zop 36 (.app 33 35 3 [TI]),zmv 6 36]),(.reg [zmv 37 7,zmv 38 37,.grp 38 false [zmv 39 10] 40 39,zmv 7 40])])),(.reg [zbi 41 .add 18 (zki 1),zmv 18 41])])
def Qxn:List (Nat × Md):=[(0,.one .d),(1,.one .d),(6,.one .f),(7,.one .d),(17,.one .d),(18,.one .d)]
def Qqu:TCode :=
 (zsq [(.reg [zmv 42 6,zmv 43 7,zmv 4 42,zmv 5 43]),.ret])
def QIh:TCode :=
 (zsq [(.reg [zmv 4 (.k (.n [TI])),zmv 5 (zkb false)]),(zsq [(.reg [zmv 11 0,zmv 12 1,zca 13 191 [11,12],zno 14 13]),(.cond 14 (zsq [(.reg [zmv 4 (.k (.n [TI])),zmv 5 (zkb false)]),.ret]) .skip)]),(.reg [zop 15 (.bsl 3 [TI] []),zmv 6 15]),(.reg [zmv 7 (zkb false)]),(zsq [(.reg [zmv 16 0,zle 17 16,zmv 18 (zki 0)]),(.block 0 (.loop Qxn Qtd))]),Qqu])
def QvH:List (ARv × Md):=[(.t 4,.one .d),(.t 5,.one .d)]
def QpI:Qb:=TQ 0 0 QvH K
def QOp:Qb:=Qseq (tawp Qlu 0 Qqu (QpI K)) (QpI K)
def QC4:Qb:=Qblk 0 (QOp K)
def Qgv (a:List Int) (b:List Int) (out:Bool) (x:Int) (v:List Int):Prop:=Loop Qlu 0 Qxn Qtd (QC4 K) ⟨[(0,(zcs [TI] a)),(1,(zcs [TI] b)),(6,(.r [TI] 0 0 v.length)),(7,(zcb out)),(17,(zci (a.length:Int))),(18,(zci x))],[(0,(.sl 3 [TI] true v))],1⟩
theorem Qvh (a:List Int) (b:List Int) (out:Bool) (x:Int) (v:List Int) (h :
 (zif (decide (x<(a.length:Int))) ((((0:Int)≤x∧Int.toNat x<a.length)∧((0:Int)≤x∧Int.toNat x<b.length))∧(((v.length=v.length∨v.length+1≤v.length)∧v.length+1≤big)∧(Qgv K a b (out||((Zl (gtd (0:Int) a (Int.toNat x)) (gtd (0:Int) b (Int.toNat x))).2)) (w64 (x+(1:Int))) (List.take (v.length+1) ((List.take v.length v)++([(Zl (gtd (0:Int) a (Int.toNat x)) (gtd (0:Int) b (Int.toNat x))).1])))))) (K (Qcy ((List.take v.length (List.drop 0 v)),out))))):Qgv K a b out x v :=
 Loop.of (by kernel_rfl) h
theorem QPH (a:List Int) (b:List Int) (h :
 (zif (!(Ya a b)) (K (Qcy ([],false))) (Qgv K a b false 0 ([]:List Int)))):Hold (tawp Qlu (0+0) QIh (TQ 0 0 QvH K) (Qf [(.c (.sl [TI]) a),(.c (.sl [TI]) b)])) :=
 Hold.of (by kernel_rfl) h
theorem QLO (a:List Int) (b:List Int):TCon Tryz.prog 213 [(.c (.sl [TI]) a),(.c (.sl [TI]) b)] (Qcy (ZY a b)):=by
 refine Qq rfl fun hb=>tcg (n:=44) (sg:=Qi5.sg) Qj (TOk.cons QfW (TOk.cons QgW TOk.nil)) (by kernel_rfl) (by kernel_rfl) (QPH _ a b ?_)
 have hl_a:a.length≤9223372036854775807:=hb.1.1
 have hl_b:b.length≤9223372036854775807:=hb.2.1.1
 refine ⟨fun h=>R_eq (by unfold ZY;rw [if_neg (by simpa using h)]),fun h=>?_⟩
 have hp:Ya a b=true:=by simpa using h
 have hl:=QaY.1 hp
 have h6:=(YE.1 hl.1).1
 refine ZL a (fun r k=>∀ (v:List Int) (s:Bool),v.length=k→(v++(vz Zl r (b.drop k)).1,s||(vz Zl r (b.drop k)).2)=(ZY a b)→Qgv (fun r'=>r'=Qcy (ZY a b)) a b s k v) ?_ ?_ [] false rfl (by unfold ZY;rw [if_pos hp];simp)
 ·intro v s hv he
  refine Qvh (fun r'=>r'=Qcy (ZY a b)) a b _ _ _ ⟨fun h=>by simp at h,fun _=>R_eq ?_⟩
  rw [← he];simp [vz]
 ·intro k x r hk hlt hg ih v s hv he
  obtain ⟨y,q,hq⟩:=Qbu (l:=b) (k:=k) (by omega)
  refine Qvh (fun r'=>r'=Qcy (ZY a b)) a b _ _ _ ⟨fun _=>?_,fun h=>by simp at h;omega⟩
  rw [Int.toNat_natCast,hg,Y1 hq,sc1 (by omega),Zq]
  refine ⟨⟨⟨by omega,hlt⟩,by omega,by omega⟩,room (by omega),ih _ _ (JX hv) ?_⟩
  rw [← he,hq,vz,YO hq]
  simp [Bool.or_assoc]
theorem Qo3:Qh Tryz.prog Qi5:=Qk fun x _=>QLO x.1 x.2.1
def Qcv (t:(List Int) × Bool):TRes:=zra (.tp [(zcs [TI] t.1),(zcb t.2)])
def Qh3:TRow:=Qg 124 [(.c (.sl [TI])),(.c (.sl [TI]))] fun x=>(none,Qcv (Zs x.1 x.2.1))
def Ql4:List TRow:=[Qeh,Qoi]
def QrO:TCode :=
 (zsq [(.reg [zbi 19 .lss 18 17]),(.cond 19 .skip (.exit 0)),(.block 1 (zsq [(.reg [zmv 20 18,zmv 8 20]),(.draw [zmv 22 0,zmv 23 8,zia 24 22 23 [TI],zld 25 24 1,zmv 26 1,zmv 27 8,zia 28 26 27 [TI],zld 29 28 1,zca 30 192 [25,29],zmv 21 30,zex 31 21 0,zex 32 21 1,zmv 9 31,zmv 10 32] []),(.reg [zmv 33 6,zmv 34 9,zop 35 (.bsl 3 [TI] [34]),zop 36 (.app 33 35 3 [TI]),zmv 6 36]),(.reg [zmv 37 7,zmv 38 37,.grp 38 false [zmv 39 10] 40 39,zmv 7 40])])),(.reg [zbi 41 .add 18 (zki 1),zmv 18 41])])
def QxY:List (Nat × Md):=[(0,.one .d),(1,.one .d),(6,.one .f),(7,.one .d),(17,.one .d),(18,.one .d)]
def QqJ:TCode :=
 (zsq [(.reg [zmv 42 6,zmv 43 7,zmv 4 42,zmv 5 43]),.ret])
def QK9:TCode :=
 (zsq [(.reg [zmv 4 (.k (.n [TI])),zmv 5 (zkb false)]),(zsq [(.reg [zmv 11 0,zmv 12 1,zca 13 191 [11,12],zno 14 13]),(.cond 14 (zsq [(.reg [zmv 4 (.k (.n [TI])),zmv 5 (zkb false)]),.ret]) .skip)]),(.reg [zop 15 (.bsl 3 [TI] []),zmv 6 15]),(.reg [zmv 7 (zkb false)]),(zsq [(.reg [zmv 16 0,zle 17 16,zmv 18 (zki 0)]),(.block 0 (.loop QxY QrO))]),QqJ])
def Qvu:List (ARv × Md):=[(.t 4,.one .d),(.t 5,.one .d)]
def QrT:Qb:=TQ 0 0 Qvu K
def QJD:Qb:=Qseq (tawp Ql4 0 QqJ (QrT K)) (QrT K)
def QC6:Qb:=Qblk 0 (QJD K)
def QgK (a:List Int) (b:List Int) (out:Bool) (x:Int) (v:List Int):Prop:=Loop Ql4 0 QxY QrO (QC6 K) ⟨[(0,(zcs [TI] a)),(1,(zcs [TI] b)),(6,(.r [TI] 0 0 v.length)),(7,(zcb out)),(17,(zci (a.length:Int))),(18,(zci x))],[(0,(.sl 3 [TI] true v))],1⟩
theorem Qp4 (a:List Int) (b:List Int) (out:Bool) (x:Int) (v:List Int) (h :
 (zif (decide (x<(a.length:Int))) ((((0:Int)≤x∧Int.toNat x<a.length)∧((0:Int)≤x∧Int.toNat x<b.length))∧(((v.length=v.length∨v.length+1≤v.length)∧v.length+1≤big)∧(QgK K a b (out||((QbG (gtd (0:Int) a (Int.toNat x)) (gtd (0:Int) b (Int.toNat x))).2)) (w64 (x+(1:Int))) (List.take (v.length+1) ((List.take v.length v)++([(QbG (gtd (0:Int) a (Int.toNat x)) (gtd (0:Int) b (Int.toNat x))).1])))))) (K (Qcv ((List.take v.length (List.drop 0 v)),out))))):QgK K a b out x v :=
 Loop.of (by kernel_rfl) h
theorem QHG (a:List Int) (b:List Int) (h :
 (zif (!(Ya a b)) (K (Qcv ([],false))) (QgK K a b false 0 ([]:List Int)))):Hold (tawp Ql4 (0+0) QK9 (TQ 0 0 Qvu K) (Qf [(.c (.sl [TI]) a),(.c (.sl [TI]) b)])) :=
 Hold.of (by kernel_rfl) h
theorem QOY (a:List Int) (b:List Int):TCon Tryz.prog 124 [(.c (.sl [TI]) a),(.c (.sl [TI]) b)] (Qcv (Zs a b)):=by
 refine Qq rfl fun hb=>tcg (n:=44) (sg:=Qh3.sg) Qj (TOk.cons QfW (TOk.cons QGw TOk.nil)) (by kernel_rfl) (by kernel_rfl) (QHG _ a b ?_)
 have hl_a:a.length≤9223372036854775807:=hb.1.1
 have hl_b:b.length≤9223372036854775807:=hb.2.1.1
 refine ⟨fun h=>R_eq (by unfold Zs;rw [if_neg (by simpa using h)]),fun h=>?_⟩
 have hp:Ya a b=true:=by simpa using h
 have hl:=QaY.1 hp
 have h6:=(YE.1 hl.1).1
 refine ZL a (fun r k=>∀ (v:List Int) (s:Bool),v.length=k→(v++(vz QbG r (b.drop k)).1,s||(vz QbG r (b.drop k)).2)=(Zs a b)→QgK (fun r'=>r'=Qcv (Zs a b)) a b s k v) ?_ ?_ [] false rfl (by unfold Zs;rw [if_pos hp];simp)
 ·intro v s hv he
  refine Qp4 (fun r'=>r'=Qcv (Zs a b)) a b _ _ _ ⟨fun h=>by simp at h,fun _=>R_eq ?_⟩
  rw [← he];simp [vz]
 ·intro k x r hk hlt hg ih v s hv he
  obtain ⟨y,q,hq⟩:=Qbu (l:=b) (k:=k) (by omega)
  refine Qp4 (fun r'=>r'=Qcv (Zs a b)) a b _ _ _ ⟨fun _=>?_,fun h=>by simp at h;omega⟩
  rw [Int.toNat_natCast,hg,Y1 hq,sc1 (by omega),Zq]
  refine ⟨⟨⟨by omega,hlt⟩,by omega,by omega⟩,room (by omega),ih _ _ (JX hv) ?_⟩
  rw [← he,hq,vz,YO hq]
  simp [Bool.or_assoc]
theorem Qzt:Qh Tryz.prog Qh3:=Qk fun x _=>QOY x.1 x.2.1
def Qde (t:(List Int) × Bool):TRes:=zra (.tp [(zcs [TI] t.1),(zcb t.2)])
def Qhi:TRow:=Qg 214 [(.c TI),(.c (.sl [TI]))] fun x=>(none,Qde (Yy x.1 x.2.1))
def Qkc:List TRow:=[QfH,Qa0,Qfn]
def Qr2:TCode :=
 (zsq [(.reg [zbi 23 .lss 22 21]),(.cond 23 .skip (.exit 0)),(.block 1 (zsq [(.reg [zmv 24 22,zmv 8 24]),(.reg [zmv 26 0,zmv 27 1,zmv 28 8,zia 29 27 28 [TI],zld 30 29 1,zca 31 216 [26,30],zmv 25 31,zex 32 25 0,zex 33 25 1,zmv 9 32,zmv 10 33]),(.reg [zmv 34 6,zmv 35 9,zop 36 (.bsl 3 [TI] [35]),zop 37 (.app 34 36 3 [TI]),zmv 6 37]),(.reg [zmv 38 7,zmv 39 38,.grp 39 false [zmv 40 10] 41 40,zmv 7 41])])),(.reg [zbi 42 .add 22 (zki 1),zmv 22 42])])
def QtC:List (Nat × Md):=[(0,.one .d),(1,.one .d),(6,.one .f),(7,.one .d),(21,.one .d),(22,.one .d)]
def QqO:TCode :=
 (zsq [(.reg [zmv 43 6,zmv 44 7,zmv 4 43,zmv 5 44]),.ret])
def QLP:TCode :=
 (zsq [(.reg [zmv 4 (.k (.n [TI])),zmv 5 (zkb false)]),(zsq [(.reg [zmv 11 0,zca 12 217 [11],zno 13 12,zmv 14 13,.grp 14 false [zmv 15 1,zca 16 134 [15],zno 17 16] 18 17]),(.cond 18 (zsq [(.reg [zmv 4 (.k (.n [TI])),zmv 5 (zkb false)]),.ret]) .skip)]),(.reg [zop 19 (.bsl 3 [TI] []),zmv 6 19]),(.reg [zmv 7 (zkb false)]),(zsq [(.reg [zmv 20 1,zle 21 20,zmv 22 (zki 0)]),(.block 0 (.loop QtC Qr2))]),QqO])
def Qxs:List (ARv × Md):=[(.t 4,.one .d),(.t 5,.one .d)]
def QzJ:Qb:=TQ 0 0 Qxs K
def QEv:Qb:=Qseq (tawp Qkc 0 QqO (QzJ K)) (QzJ K)
def QCD:Qb:=Qblk 0 (QEv K)
def Qgy (c:Int) (a:List Int) (out:Bool) (x:Int) (v:List Int):Prop:=Loop Qkc 0 QtC Qr2 (QCD K) ⟨[(0,(zci c)),(1,(zcs [TI] a)),(6,(.r [TI] 0 0 v.length)),(7,(zcb out)),(21,(zci (a.length:Int))),(22,(zci x))],[(0,(.sl 3 [TI] true v))],1⟩
theorem Qw9 (c:Int) (a:List Int) (out:Bool) (x:Int) (v:List Int) (h :
 (zif (decide (x<(a.length:Int))) (((0:Int)≤x∧Int.toNat x<a.length)∧(((v.length=v.length∨v.length+1≤v.length)∧v.length+1≤big)∧(Qgy K c a (out||((ZV c (gtd (0:Int) a (Int.toNat x))).2)) (w64 (x+(1:Int))) (List.take (v.length+1) ((List.take v.length v)++([(ZV c (gtd (0:Int) a (Int.toNat x))).1])))))) (K (Qde ((List.take v.length (List.drop 0 v)),out))))):Qgy K c a out x v :=
 Loop.of (by kernel_rfl) h
theorem QOf (c:Int) (a:List Int) (h :
 (zif ((!(Za c))||(!(Q8 a))) (K (Qde ([],false))) (Qgy K c a false 0 ([]:List Int)))):Hold (tawp Qkc (0+0) QLP (TQ 0 0 Qxs K) (Qf [(.c TI c),(.c (.sl [TI]) a)])) :=
 Hold.of (by kernel_rfl) h
theorem QNQ (c:Int) (a:List Int):TCon Tryz.prog 214 [(.c TI c),(.c (.sl [TI]) a)] (Qde (Yy c a)):=by
 refine Qq rfl fun hb=>tcg (n:=45) (sg:=Qhi.sg) Qj (TOk.cons QlM (TOk.cons QcT (TOk.cons Qki TOk.nil))) (by kernel_rfl) (by kernel_rfl) (QOf _ c a ?_)
 have hl_a:a.length≤9223372036854775807:=hb.2.1.1
 refine ⟨fun h=>R_eq (by unfold Yy;rw [if_neg (by intro h2;simp at h2;simp [h2] at h)]),fun h=>?_⟩
 have hp:Za c=true∧Q8 a=true:=by simpa using h
 have h6:=(YE.1 hp.2).1
 refine ZL a (fun r k=>∀ (v:List Int) (s:Bool),v.length=k→(v++(v1 (ZV c) r).1,s||(v1 (ZV c) r).2)=(Yy c a)→Qgy (fun r'=>r'=Qde (Yy c a)) c a s k v) ?_ ?_ [] false rfl (by unfold Yy;rw [if_pos (by simp [hp])];simp)
 ·intro v s hv he
  refine Qw9 (fun r'=>r'=Qde (Yy c a)) c a _ _ _ ⟨fun h=>by simp at h,fun _=>R_eq ?_⟩
  rw [← he];simp [v1]
 ·intro k x r hk hlt hg ih v s hv he
  refine Qw9 (fun r'=>r'=Qde (Yy c a)) c a _ _ _ ⟨fun _=>?_,fun h=>by simp at h;omega⟩
  rw [Int.toNat_natCast,hg,sc1 (by omega),Zq]
  refine ⟨⟨by omega,hlt⟩,room (by omega),ih _ _ (JX hv) ?_⟩
  rw [← he,v1]
  simp [Bool.or_assoc]
theorem Qyn:Qh Tryz.prog Qhi:=Qk fun x _=>QNQ x.1 x.2.1
def QcF (t:Int × Bool):TRes:=zre (.tp [(zci t.1),(zcb t.2)])
def QfA:TRow:=Qg 188 [(.c (.sl [TI])),(.c (.sl [TI]))] fun x=>(none,QcF (ZF x.1 x.2.1))
def Qjs:List TRow:=[Qeh,Qfn,Qed]
def QoE:TCode :=
 (zsq [(.reg [zbi 20 .lss 19 18]),(.cond 20 .skip (.exit 0)),(.block 1 (zsq [(.reg [zmv 21 19,zmv 8 21]),(.draw [zmv 23 0,zmv 24 8,zia 25 23 24 [TI],zld 26 25 1,zmv 27 1,zmv 28 8,zia 29 27 28 [TI],zld 30 29 1,zca 31 216 [26,30],zmv 22 31,zex 32 22 0,zex 33 22 1,zmv 9 32,zmv 10 33] []),(.reg [zmv 35 6,zmv 36 9,zca 37 121 [35,36],zmv 34 37,zex 38 34 0,zex 39 34 1,zmv 11 38,zmv 12 39]),(.reg [zmv 40 11,zmv 6 40]),(.reg [zmv 41 7,zmv 42 41,.grp 42 false [zmv 43 10] 44 43,zmv 45 44,.grp 45 false [zmv 46 12] 47 46,zmv 7 47])])),(.reg [zbi 48 .add 19 (zki 1),zmv 19 48])])
def Qr1:List (Nat × Md):=zdl [0,1,6,7,18,19]
def QwD:TCode :=
 (zsq [(.reg [zmv 49 6,zmv 50 7,zmv 4 49,zmv 5 50]),.ret])
def QB3:TCode :=
 (zsq [(.reg [zmv 4 (zki 0),zmv 5 (zkb false)]),(zsq [(.reg [zmv 13 0,zmv 14 1,zca 15 191 [13,14],zno 16 15]),(.cond 16 (zsq [(.reg [zmv 4 (zki 0),zmv 5 (zkb false)]),.ret]) .skip)]),(.reg [zmv 6 (zki 0)]),(.reg [zmv 7 (zkb false)]),(zsq [(.reg [zmv 17 0,zle 18 17,zmv 19 (zki 0)]),(.block 0 (.loop Qr1 QoE))]),QwD])
def Qt2:List (ARv × Md):=[(.t 4,.one .d),(.t 5,.one .d)]
def QyO:Qb:=TQ 0 0 Qt2 K
def QMB:Qb:=Qseq (tawp Qjs 0 QwD (QyO K)) (QyO K)
def QJI:Qb:=Qblk 0 (QMB K)
def Qgr (a:List Int) (b:List Int) (sum:Int) (out:Bool) (x:Int):Prop:=Loop Qjs 0 Qr1 QoE (QJI K) ⟨[(0,(zcs [TI] a)),(1,(zcs [TI] b)),(6,(zci sum)),(7,(zcb out)),(18,(zci (a.length:Int))),(19,(zci x))],[],0⟩
theorem QzA (a:List Int) (b:List Int) (sum:Int) (out:Bool) (x:Int) (h :
 (zif (decide (x<(a.length:Int))) ((((0:Int)≤x∧Int.toNat x<a.length)∧((0:Int)≤x∧Int.toNat x<b.length))∧(Qgr K a b ((Zl sum ((ZV (gtd (0:Int) a (Int.toNat x)) (gtd (0:Int) b (Int.toNat x))).1)).1) ((out||((ZV (gtd (0:Int) a (Int.toNat x)) (gtd (0:Int) b (Int.toNat x))).2))||((Zl sum ((ZV (gtd (0:Int) a (Int.toNat x)) (gtd (0:Int) b (Int.toNat x))).1)).2)) (w64 (x+(1:Int))))) (K (QcF (sum,out))))):Qgr K a b sum out x :=
 Loop.of (by kernel_rfl) h
theorem QC7 (a:List Int) (b:List Int) (h :
 (zif (!(Ya a b)) (K (QcF ((0:Int),false))) (Qgr K a b 0 false 0))):Hold (tawp Qjs (0+0) QB3 (TQ 0 0 Qt2 K) (Qf [(.c (.sl [TI]) a),(.c (.sl [TI]) b)])) :=
 Hold.of (by kernel_rfl) h
theorem QJf (a:List Int) (b:List Int):TCon Tryz.prog 188 [(.c (.sl [TI]) a),(.c (.sl [TI]) b)] (QcF (ZF a b)):=by
 refine Qq rfl fun hb=>tcg (n:=51) (sg:=QfA.sg) Qj (TOk.cons QfW (TOk.cons Qki (TOk.cons QgW TOk.nil))) (by kernel_rfl) (by kernel_rfl) (QC7 _ a b ?_)
 have hl_a:a.length≤9223372036854775807:=hb.1.1
 have hl_b:b.length≤9223372036854775807:=hb.2.1.1
 refine ⟨fun h=>R_eq (by unfold ZF;rw [if_neg (by simpa using h)]),fun h=>?_⟩
 have hp:Ya a b=true:=by simpa using h
 have hl:=QaY.1 hp
 have h6:=(YE.1 hl.1).1
 refine ZL a (fun r k=>∀ (z:Int) (s:Bool),((Qaj r (b.drop k) z).1,s||(Qaj r (b.drop k) z).2)=(ZF a b)→Qgr (fun r'=>r'=QcF (ZF a b)) a b z s k) ?_ ?_ 0 false (by unfold ZF;rw [if_pos hp];simp)
 ·intro z s he
  refine QzA (fun r'=>r'=QcF (ZF a b)) a b _ _ _ ⟨fun h=>by simp at h,fun _=>R_eq ?_⟩
  rw [← he];simp [Qaj]
 ·intro k x r hk hlt hg ih z s he
  obtain ⟨y,q,hq⟩:=Qbu (l:=b) (k:=k) (by omega)
  refine QzA (fun r'=>r'=QcF (ZF a b)) a b _ _ _ ⟨fun _=>?_,fun h=>by simp at h;omega⟩
  rw [Int.toNat_natCast,hg,Y1 hq,sc1 (by omega)]
  refine ⟨⟨⟨by omega,hlt⟩,by omega,by omega⟩,ih _ _ ?_⟩
  rw [← he,hq,Qaj,YO hq]
  simp [Bool.or_assoc]
theorem Qjl:Qh Tryz.prog QfA:=Qk fun x _=>QJf x.1 x.2.1
def Qdd (t:(List Int)):TRes:=zra (zcs [TI] t)
def QjZ:TRow:=Qg 215 [(.c (.sl [TI]))] fun x=>(none,Qdd (Jn x.1))
def Qm3:List TRow:=[Qa0,Qlv]
def Qpt:TCode :=
 (zsq [(.reg [zbi 13 .lss 12 11]),(.cond 13 .skip (.exit 0)),(.block 1 (zsq [(.reg [zia 14 10 12 [TI],zld 15 14 1,zmv 5 15]),(.reg [zmv 16 3,zmv 17 5,zca 18 234 [17],zop 19 (.bsl 3 [TI] [18]),zop 20 (.app 16 19 3 [TI]),zmv 3 20])])),(.reg [zbi 21 .add 12 (zki 1),zmv 12 21])])
def Qx2:List (Nat × Md):=[(3,.one .f),(10,.one .d),(11,.one .d),(12,.one .d)]
def Qul:TCode :=
 (zsq [(.reg [zmv 22 3,zmv 2 22]),.ret])
def QHx:TCode :=
 (zsq [(.reg [zmv 2 (.k (.n [TI]))]),(zsq [(.reg [zmv 6 0,zca 7 134 [6],zno 8 7]),(.cond 8 (zsq [(.reg [zmv 2 (.k (.n [TI]))]),.ret]) .skip)]),(.reg [zop 9 (.bsl 3 [TI] []),zmv 3 9]),(zsq [(.reg [zmv 10 0,zle 11 10,zmv 12 (zki 0)]),(.block 0 (.loop Qx2 Qpt))]),Qul])
def Qp6:List (ARv × Md):=[(.t 2,.one .d)]
def QuG:Qb:=TQ 0 0 Qp6 K
def QFz:Qb:=Qseq (tawp Qm3 0 Qul (QuG K)) (QuG K)
def QMI:Qb:=Qblk 0 (QFz K)
def QiW (a:List Int) (x:Int) (v:List Int):Prop:=Loop Qm3 0 Qx2 Qpt (QMI K) ⟨[(3,(.r [TI] 0 0 v.length)),(10,(zcs [TI] a)),(11,(zci (a.length:Int))),(12,(zci x))],[(0,(.sl 3 [TI] true v))],1⟩
theorem Qse (a:List Int) (x:Int) (v:List Int) (h :
 (zif (decide (x<(a.length:Int))) (((0:Int)≤x∧Int.toNat x<a.length)∧(((v.length=v.length∨v.length+1≤v.length)∧v.length+1≤big)∧(QiW K a (w64 (x+(1:Int))) (List.take (v.length+1) ((List.take v.length v)++([(Qdc (gtd (0:Int) a (Int.toNat x)))])))))) (K (Qdd (List.take v.length (List.drop 0 v)))))):QiW K a x v :=
 Loop.of (by kernel_rfl) h
theorem QAv (a:List Int) (h :
 (zif (!(Q8 a)) (K (Qdd ([]))) (QiW K a 0 ([]:List Int)))):Hold (tawp Qm3 (0+0) QHx (TQ 0 0 Qp6 K) (Qf [(.c (.sl [TI]) a)])) :=
 Hold.of (by kernel_rfl) h
theorem QJd (a:List Int):TCon Tryz.prog 215 [(.c (.sl [TI]) a)] (Qdd (Jn a)):=by
 refine Qq rfl fun hb=>tcg (n:=23) (sg:=QjZ.sg) Qj (TOk.cons QcT (TOk.cons QKL TOk.nil)) (by kernel_rfl) (by kernel_rfl) (QAv _ a ?_)
 have hl_a:a.length≤9223372036854775807:=hb.1.1
 refine ⟨fun h=>R_eq (by unfold Jn;rw [if_neg (by simpa using h)]),fun h=>?_⟩
 have hp:Q8 a=true:=by simpa using h
 have h6:=(YE.1 hp).1
 refine ZL a (fun r k=>∀ (v:List Int),v.length=k→v++r.map Qdc=(Jn a)→QiW (fun r'=>r'=Qdd (Jn a)) a k v) ?_ ?_ [] rfl (by unfold Jn;rw [if_pos hp];simp)
 ·intro v hv he
  refine Qse (fun r'=>r'=Qdd (Jn a)) a _ _ ⟨fun h=>by simp at h,fun _=>R_eq ?_⟩
  rw [← he];simp
 ·intro k x r hk hlt hg ih v hv he
  refine Qse (fun r'=>r'=Qdd (Jn a)) a _ _ ⟨fun _=>?_,fun h=>by simp at h;omega⟩
  rw [Int.toNat_natCast,hg,sc1 (by omega),Zq]
  refine ⟨⟨by omega,hlt⟩,room (by omega),ih _ (JX hv) ?_⟩
  rw [← he];simp
theorem QDe:Qh Tryz.prog QjZ:=Qk fun x _=>QJd x.1
def QcH (t:(List Int)):TRes:=zra (zcs [TI] t)
def QlU:TRow:=Qg 220 [(.c (.sl [TI])),(.c (.sl [TI]))] fun x=>(none,QcH (Jo x.1 x.2.1))
def QjO:List TRow:=[Qeh]
def QxD:TCode :=
 (zsq [(.reg [zbi 15 .lss 14 13]),(.cond 15 .skip (.exit 0)),(.block 1 (zsq [(.reg [zmv 16 14,zmv 6 16]),(.reg [zmv 17 0,zmv 18 6,zia 19 17 18 [TI],zld 20 19 1,zbi 21 .gtr 20 (zki 0)]),(.cond 21 (.reg [zmv 22 5,zmv 23 1,zmv 24 6,zia 25 23 24 [TI],zld 26 25 1,zop 27 (.bsl 3 [TI] [26]),zop 28 (.app 22 27 3 [TI]),zmv 5 28]) (.reg [zmv 29 5,zop 30 (.bsl 3 [TI] [(zki 0)]),zop 31 (.app 29 30 3 [TI]),zmv 5 31]))])),(.reg [zbi 32 .add 14 (zki 1),zmv 14 32])])
def Qvs:List (Nat × Md):=[(0,.one .d),(1,.one .d),(5,.one .f),(13,.one .d),(14,.one .d)]
def QtJ:TCode :=
 (zsq [(.reg [zmv 33 5,zmv 4 33]),.ret])
def QCn:TCode :=
 (zsq [(.reg [zmv 4 (.k (.n [TI]))]),(zsq [(.reg [zmv 7 0,zmv 8 1,zca 9 191 [7,8],zno 10 9]),(.cond 10 (zsq [(.reg [zmv 4 (.k (.n [TI]))]),.ret]) .skip)]),(.reg [zop 11 (.bsl 3 [TI] []),zmv 5 11]),(zsq [(.reg [zmv 12 0,zle 13 12,zmv 14 (zki 0)]),(.block 0 (.loop Qvs QxD))]),QtJ])
def QtH:List (ARv × Md):=[(.t 4,.one .d)]
def Qwy:Qb:=TQ 0 0 QtH K
def QGB:Qb:=Qseq (tawp QjO 0 QtJ (Qwy K)) (Qwy K)
def QBi:Qb:=Qblk 0 (QGB K)
def QeF (x:List Int) (d:List Int) (x1:Int) (v:List Int):Prop:=Loop QjO 0 Qvs QxD (QBi K) ⟨[(0,(zcs [TI] x)),(1,(zcs [TI] d)),(5,(.r [TI] 0 0 v.length)),(13,(zci (x.length:Int))),(14,(zci x1))],[(0,(.sl 3 [TI] true v))],1⟩
theorem QzI (x:List Int) (d:List Int) (x1:Int) (v:List Int) (h :
 (zif (decide (x1<(x.length:Int))) (((0:Int)≤x1∧Int.toNat x1<x.length)∧(zif (decide ((gtd (0:Int) x (Int.toNat x1))>(0:Int))) ((((0:Int)≤x1∧Int.toNat x1<d.length)∧((v.length=v.length∨v.length+1≤v.length)∧v.length+1≤big))∧(QeF K x d (w64 (x1+(1:Int))) (List.take (v.length+1) ((List.take v.length v)++([(gtd (0:Int) d (Int.toNat x1))]))))) (((v.length=v.length∨v.length+1≤v.length)∧v.length+1≤big)∧(QeF K x d (w64 (x1+(1:Int))) (List.take (v.length+1) ((List.take v.length v)++([(0:Int)]))))))) (K (QcH (List.take v.length (List.drop 0 v)))))):QeF K x d x1 v :=
 Loop.of (by kernel_rfl) h
theorem QRs (x:List Int) (d:List Int) (h :
 (zif (!(Ya x d)) (K (QcH ([]))) (QeF K x d 0 ([]:List Int)))):Hold (tawp QjO (0+0) QCn (TQ 0 0 QtH K) (Qf [(.c (.sl [TI]) x),(.c (.sl [TI]) d)])) :=
 Hold.of (by kernel_rfl) h
theorem QJE (x:List Int) (d:List Int):TCon Tryz.prog 220 [(.c (.sl [TI]) x),(.c (.sl [TI]) d)] (QcH (Jo x d)):=by
 refine Qq rfl fun hb=>tcg (n:=34) (sg:=QlU.sg) Qj (TOk.cons QfW TOk.nil) (by kernel_rfl) (by kernel_rfl) (QRs _ x d ?_)
 have hl_x:x.length≤9223372036854775807:=hb.1.1
 have hl_d:d.length≤9223372036854775807:=hb.2.1.1
 refine ⟨fun h=>R_eq (by unfold Jo;rw [if_neg (by simpa using h)]),fun h=>?_⟩
 have hp:Ya x d=true:=by simpa using h
 have hl:=QaY.1 hp
 have h6:=(YE.1 hl.1).1
 refine ZL x (fun r k=>∀ (v:List Int),v.length=k→v++List.zipWith (fun a b=>if 0<a then b else 0) r (d.drop k)=(Jo x d)→QeF (fun r'=>r'=QcH (Jo x d)) x d k v) ?_ ?_ [] rfl (by unfold Jo;rw [if_pos hp];simp)
 ·intro v hv he
  refine QzI (fun r'=>r'=QcH (Jo x d)) x d _ _ ⟨fun h=>by simp at h,fun _=>R_eq ?_⟩
  rw [← he];simp
 ·intro k y r hk hlt hg ih v hv he
  obtain ⟨z,q,hq⟩:=Qbu (l:=d) (k:=k) (by omega)
  refine QzI (fun r'=>r'=QcH (Jo x d)) x d _ _ ⟨fun _=>?_,fun h=>by simp at h;omega⟩
  rw [Int.toNat_natCast,hg,Y1 hq,sc1 (by omega),Zq,Zq]
  rw [hq,List.zipWith_cons_cons,← YO hq] at he
  refine ⟨⟨by omega,hlt⟩,fun h=>⟨⟨⟨by omega,by omega⟩,room (by omega)⟩,ih _ (JX hv) ?_⟩,fun h=>⟨room (by omega),ih _ (JX hv) ?_⟩⟩
  ·rw [← he,if_pos (by simpa using h)];simp
  ·rw [← he,if_neg (by simpa using h)];simp
theorem QK7:Qh Tryz.prog QlU:=Qk fun x _=>QJE x.1 x.2.1
end
end Go.Proofs.YtjbdljkhbglnhaaGreat.Am

