/- -/
import Derived.Test.YtephkbajoofeoaaYAPL
import Derived.Test.YtephkbajoofeoaaYAPE
import Derived.Test.YtephkbajoofeoaaYAP1
import Derived.Test.YtephkbajoofeoaaYAG9
namespace Go.Proofs.Ytephkbajoofeoaa.Am
open Go Go.RowKit Go.Proofs.Ytephkbajoofeoaa
set_option linter.all false
noncomputable section
variable (K:TRes→Prop)
def Yn (t:Int):TRes:=zre (zci t)
def Qbv:TRow:=Qy 111 [(.c (.sl Qb)),(.c TI),(.c TI)] fun x=>(none,Yn (Qt x.1 x.2.1 x.2.2.1))
def QbT:List TRow:=[]
def Qez:TCode :=
 (zsq [(zsq [(.reg [zmv 9 8,zmv 10 0,zle 11 10,zbi 12 .lss 9 11]),(.cond 12 .skip (.exit 0))]),(.block 1 (zsq [(.reg [zmv 15 0,zmv 16 8,zia 17 15 16 Qb,zfa 18 17 0,zld 19 18 1,zmv 20 1,zbi 21 .eql 19 20,zmv 22 21,.grp 22 true [zmv 23 0,zmv 24 8,zia 25 23 24 Qb,zfa 26 25 1,zld 27 26 1,zmv 28 2,zbi 29 .eql 27 28] 30 29]),(.cond 30 (zsq [(zsq [(.reg [zmv 31 7,zbi 32 .geq 31 (zki 0)]),(.cond 32 (zsq [(.reg [zmv 6 (zki (-1))]),.ret]) .skip)]),(.reg [zmv 33 8,zmv 7 33])]) .skip)])),(.reg [zmv 13 8,zbi 14 .add 13 (zki 1),zmv 8 14])])
def QeD:List (Nat × Md):=zdl [0,1,2,7,8]
def QfJ:TCode :=
 (zsq [(.reg [zmv 34 7,zmv 6 34]),.ret])
def QjY:TCode :=
 (zsq [(.reg [zmv 6 (zki 0)]),(.reg [zmv 7 (zki (-1))]),(zsq [(.reg [zmv 8 (zki 0)]),(.block 0 (.loop QeD Qez))]),QfJ])
def Qfy:List (ARv × Md):=[(.t 6,.one .d)]
def Qe1:Qd:=TQ 0 0 Qfy K
def QgY:Qd:=Qseq (tawp QbT 0 QfJ (Qe1 K)) (Qe1 K)
def QjH:Qd:=Qblk 0 (QgY K)
def Jt (l:List TIns) (kind:Int) (m:Int) (att:Int) (i:Int):Prop:=Loop QbT 0 QeD Qez (QjH K) ⟨[(0,(zcs Qb l)),(1,(zci kind)),(2,(zci m)),(7,(zci att)),(8,(zci i))],[],0⟩
theorem QdA (l:List TIns) (kind:Int) (m:Int) (att:Int) (i:Int) (h :
 (zif (decide (i<(l.length:Int))) ((((0:Int)≤i∧Int.toNat i<l.length)∧((((gtd dIns l (Int.toNat i)).1)==kind)=true→((0:Int)≤i∧Int.toNat i<l.length)))∧(zif ((((gtd dIns l (Int.toNat i)).1)==kind)&&(((gtd dIns l (Int.toNat i)).2)==m)) (zif (decide (att≥(0:Int))) (K (Yn (-1:Int))) (Jt K l kind m i (w64 (i+(1:Int))))) (Jt K l kind m att (w64 (i+(1:Int)))))) (K (Yn att)))):Jt K l kind m att i :=
 Loop.of (by kernel_rfl) h
theorem QiW (l:List TIns) (kind:Int) (m:Int) (h :
 (Jt K l kind m (-1) 0)):Hold (tawp QbT (0+0) QjY (TQ 0 0 Qfy K) (Qn [(.c (.sl Qb) l),(.c TI kind),(.c TI m)])) :=
 Hold.of (by kernel_rfl) h
theorem Qig (l:List TIns) (kind:Int) (m:Int):TCon Try.prog 111 [(.c (.sl Qb) l),(.c TI kind),(.c TI m)] (Yn (Qt l kind m)):=by
 refine QN rfl fun hb=>tcg (n:=35) (sg:=Qbv.sg) QC TOk.nil (by kernel_rfl) (by kernel_rfl) (QiW _ l kind m ?_)
 have hl_l:l.length≤9223372036854775807:=hb.1.1
 refine Je l (fun r k=>∀ a:Int,Q3 (kind,m) r k a=(Qt l kind m)→Jt (fun r'=>r'=Yn (Qt l kind m)) l kind m a k) ?_ ?_ (-1) rfl
 ·intro a he
  refine QdA (fun r'=>r'=Yn (Qt l kind m)) l kind m _ _ ⟨fun h=>by simp at h,fun _=>R_eq ?_⟩
  rw [← he];rfl
 ·intro k x r hk hlt hg ih a he
  refine QdA (fun r'=>r'=Yn (Qt l kind m)) l kind m _ _ ⟨fun _=>?_,fun h=>by simp at h;omega⟩
  rw [Int.toNat_natCast,hg,sc1 (by omega)]
  rw [Q3] at he
  refine ⟨⟨⟨by omega,hlt⟩,fun _=>⟨by omega,hlt⟩⟩,fun h=>?_,fun h=>ih _ ?_⟩
  ·have hx:x=(kind,m):=by simp at h;exact Prod.ext h.1 h.2
   rw [if_pos hx] at he
   refine ⟨fun h=>R_eq ?_,fun h=>ih _ ?_⟩
   ·rw [if_pos (by simpa using h)] at he;exact he
   ·rw [if_neg (by simpa using h)] at he;exact he
  ·have hx:¬ x=(kind,m):=by rintro rfl;simp at h
   rw [if_neg hx] at he;exact he
theorem QkC:Qx Try.prog Qbv:=QD fun x _=>Qig x.1 x.2.1 x.2.2.1
def YW (t:(List Int)):TRes:=zra (zcs [TI] t)
def QbX:TRow:=Qy 110 [(.c TI),(.c TI),(.c .bool)] fun x=>(some (Qcj x.1 x.2.1 x.2.2.1),YW (Qj x.1 x.2.1 x.2.2.1))
def QcU:List TRow:=[JV,QaP]
def Qem:TCode :=
 (zsq [(zsq [(.reg [zmv 20 9,zmv 21 7,zle 22 21,zbi 23 .lss 20 22]),(.cond 23 .skip (.exit 0))]),(.block 1 (.reg [zmv 26 8,zmv 27 7,zmv 28 9,zia 29 27 28 Qb,zfa 30 29 0,zld 31 30 1,zop 32 (.bsl 3 [TI] [31]),zop 33 (.app 26 32 3 [TI]),zmv 8 33])),(.reg [zmv 24 9,zbi 25 .add 24 (zki 1),zmv 9 25])])
def Qgo:List (Nat × Md):=[(7,.one .f),(8,.one .f),(9,.one .d)]
def Qc6:TCode :=
 (zsq [(.reg [zmv 34 8,zmv 6 34]),.ret])
def QjC:TCode :=
 (zsq [(.reg [zmv 6 (.k (.n [TI]))]),(.reg [zop 10 (.bsl 151 Qb []),zmv 7 10]),(.reg [zmv 11 7,zmv 12 0,zmv 13 1,zca 14 104 [11,12,13,(zki 0)],zmv 15 0,zmv 16 1,zmv 17 2,zca 18 105 [14,15,16,(zki 0),17],zmv 7 18]),(.reg [zop 19 (.bsl 3 [TI] []),zmv 8 19]),(zsq [(.reg [zmv 9 (zki 0)]),(.block 0 (.loop Qgo Qem))]),Qc6])
def Qeu:List (ARv × Md):=[(.t 6,.one .d)]
def QfR:Qd:=TQ 0 0 Qeu K
def Qkv:Qd:=Qseq (tawp QcU 0 Qc6 (QfR K)) (QfR K)
def Qlg:Qd:=Qblk 0 (Qkv K)
def Qae (i:Int) (l:List TIns) (out:List Int):Prop:=Loop QcU 0 Qgo Qem (Qlg K) ⟨[(7,(.r Qb 0 0 l.length)),(8,(.r [TI] 1 0 out.length)),(9,(zci i))],[(0,(.sl 151 Qb true l)),(1,(.sl 3 [TI] true out))],2⟩
theorem Qfu (i:Int) (l:List TIns) (out:List Int) (h :
 (zif (decide (i<((l.length:Nat):Int))) ((((0:Int)≤i∧Int.toNat i<l.length)∧(((0+(Int.toNat i))<l.length)∧((out.length=out.length∨out.length+1≤out.length)∧out.length+1≤big)))∧(Qae K (w64 (i+(1:Int))) (List.take l.length l) (List.take (out.length+1) ((List.take out.length out)++([(gtd dIns l (0+(Int.toNat i))).1]))))) (K (YW (List.take out.length (List.drop 0 out)))))):Qae K i l out :=
 Loop.of (by kernel_rfl) h
theorem QhJ (stages:Int) (s:Int) (redo:Bool) (h :
 ((((0=0)∧(p_l9 ([]:List TIns) stages s (0:Int)))∧(((Q8 ([]:List TIns) stages s (0:Int)).length=(Q8 ([]:List TIns) stages s (0:Int)).length)∧(JT (Q8 ([]:List TIns) stages s (0:Int)) stages s (0:Int) redo)))∧(Qae K 0 (List.take ((ZM (Q8 ([]:List TIns) stages s (0:Int)) stages s (0:Int) redo).length) (ZM (Q8 ([]:List TIns) stages s (0:Int)) stages s (0:Int) redo)) ([]:List Int)))):Hold (tawp QcU (0+0) QjC (TQ 0 0 Qeu K) (Qn [(.c TI stages),(.c TI s),(.c .bool redo)])) :=
 Hold.of (by kernel_rfl) h
theorem Qj7 (stages:Int) (s:Int) (redo:Bool) (hp:Qcj stages s redo):TCon Try.prog 110 [(.c TI stages),(.c TI s),(.c .bool redo)] (YW (Qj stages s redo)):=by
 refine QN rfl fun hb=>tcg (n:=35) (sg:=QbX.sg) QC (TOk.cons QeG (TOk.cons QdI TOk.nil)) (by kernel_rfl) (by kernel_rfl) (QhJ _ stages s redo ?_)
 have hW:ZM (Q8 [] stages s 0) stages s 0 redo=want stages s 0 redo:=rfl
 have h7:(want stages s 0 redo).length≤7:=by rw [QdC];exact QbK _ _ _
 obtain ⟨h1,h2⟩:=hp
 have ha:=Zp stages s 0
 refine ⟨⟨⟨rfl,⟨by omega,by omega⟩,by simp⟩,rfl,⟨by omega,by omega⟩,by show (Qg stages s 0).length≤_;omega⟩,?_⟩
 rw [List.take_length,hW]
 refine Je (want stages s 0 redo) (fun r k=>∀ v:List Int,v.length=k→v++r.map Prod.fst=(Qj stages s redo)→Qae (fun r'=>r'=YW (Qj stages s redo)) k (want stages s 0 redo) v) ?_ ?_ [] rfl rfl
 ·intro v hv he
  refine Qfu (fun r'=>r'=YW (Qj stages s redo)) _ _ _ ⟨fun h=>by simp at h,fun _=>R_eq ?_⟩
  rw [List.drop_zero,List.take_length,← he];simp
 ·intro k x r hk hlt hg ih v hv he
  refine Qfu (fun r'=>r'=YW (Qj stages s redo)) _ _ _ ⟨fun _=>?_,fun h=>by simp at h;omega⟩
  rw [Int.toNat_natCast,Nat.zero_add,hg,sc1 (by omega),YQ,List.take_length]
  exact ⟨⟨⟨by omega,hlt⟩,hlt,room (by omega)⟩,ih _ (QkY hv) (by rw [← he];simp)⟩
theorem QhN:Qx Try.prog QbX:=QD fun x h=>Qj7 x.1 x.2.1 x.2.2.1 h
def Zr (t:Bool):TRes:=zre (zcb t)
def Qcp:TRow:=Qy 113 [(.c (.sl Qb))] fun x=>(none,Zr (Q9 x.1))
def Yv:List TRow:=[]
def QdM:TCode :=
 (zsq [(.reg [zbi 19 .lss 18 17]),(.cond 19 .skip (.exit 2)),(.block 3 (zsq [(.reg [zia 20 16 18 Qb,zLd 21 20 2,zop 6 (.new 151 (z0s Qb)),zst 6 21 2]),(.reg [zfa 22 4 0,zld 23 22 1,zfa 24 6 0,zld 25 24 1,zbi 26 .eql 23 25,zmv 27 26,.grp 27 true [zfa 28 4 1,zld 29 28 1,zfa 30 6 1,zld 31 30 1,zbi 32 .leq 29 31] 33 32]),(.cond 33 (zsq [(.reg [zmv 2 (zkb false)]),.ret]) .skip)])),(.reg [zbi 34 .add 18 (zki 1),zmv 18 34])])
def QeL:List (Nat × Md):=[(0,.one .d),(4,.b [.d,.d]),(7,.one .d),(8,.one .d),(9,.one .d),(16,.one .d),(17,.one .d),(18,.one .d)]
def Qfx:TCode :=
 (.reg [zbi 35 .add 9 (zki 1),zmv 9 35])
def Qb5:TCode :=
 (zsq [(.reg [zbi 10 .lss 9 8]),(.cond 10 .skip (.exit 0)),(.block 1 (zsq [(.reg [zmv 11 9,zia 12 7 9 Qb,zLd 13 12 2,zop 4 (.new 151 (z0s Qb)),zmv 3 11,zst 4 13 2]),(.reg [zmv 14 0,zmv 15 3,zop 16 (.slc 14 none (some 15) Qb),zle 17 16,zmv 18 (zki 0)]),(.block 2 (.loop QeL QdM))])),Qfx])
def J4:List (Nat × Md):=zdl [0,7,8,9]
def Qfp:TCode :=
 (zsq [(.reg [zmv 2 (zkb true)]),.ret])
def Qme:TCode :=
 (zsq [(.reg [zmv 2 (zkb false)]),(zsq [(.reg [zmv 7 0,zle 8 7,zmv 9 (zki 0)]),(.block 0 (.loop J4 Qb5))]),Qfp])
def Qef:List (ARv × Md):=[(.t 2,.one .d)]
def QeH:Qd:=TQ 0 0 Qef K
def Ql1:Qd:=Qseq (tawp Yv 0 Qfp (QeH K)) (QeH K)
def Qcn:Qd:=Qblk 0 (Ql1 K)
def QdZ:Qd:=Qseq (fun s'=>Loop Yv 0 J4 Qb5 (Qcn K) (gc 0 J4 s')) (Qcn K)
def Qkq:Qd:=Qseq (tawp Yv 0 Qfx (QdZ K)) (QdZ K)
def Qhc:Qd:=Qblk 1 (Qkq K)
def Ql5:Qd:=Qblk 2 (Qhc K)
def J1 (l:List TIns) (x:Int) (x1:Int):Prop:=Loop Yv 0 QeL QdM (Ql5 K) ⟨[(0,(zcs Qb l)),(4,(.p 0 0 0)),(7,(zcs Qb l)),(8,(zci (l.length:Int))),(9,(zci x1)),(16,(zcs Qb (List.take (Int.toNat x1-Int.toNat (0:Int)) (List.drop (Int.toNat (0:Int)) l)))),(17,(zci ((List.take (Int.toNat x1-Int.toNat (0:Int)) (List.drop (Int.toNat (0:Int)) l)).length:Int))),(18,(zci x))],[(0,(.box [(zci ((gtd dIns l (Int.toNat x1)).1)),(zci ((gtd dIns l (Int.toNat x1)).2))]))],1⟩
def Qa0 (l:List TIns) (x1:Int):Prop:=Loop Yv 0 J4 Qb5 (Qcn K) ⟨[(0,(zcs Qb l)),(7,(zcs Qb l)),(8,(zci (l.length:Int))),(9,(zci x1))],[],0⟩
theorem QeP (l:List TIns) (x:Int) (x1:Int) (h :
 (zif (decide (x<((List.take (Int.toNat x1-Int.toNat (0:Int)) (List.drop (Int.toNat (0:Int)) l)).length:Int))) (((0:Int)≤x∧Int.toNat x<(List.take (Int.toNat x1-Int.toNat (0:Int)) (List.drop (Int.toNat (0:Int)) l)).length)∧(zif ((((gtd dIns l (Int.toNat x1)).1)==((gtd dIns (List.take (Int.toNat x1-Int.toNat (0:Int)) (List.drop (Int.toNat (0:Int)) l)) (Int.toNat x)).1))&&(decide (((gtd dIns l (Int.toNat x1)).2)≤((gtd dIns (List.take (Int.toNat x1-Int.toNat (0:Int)) (List.drop (Int.toNat (0:Int)) l)) (Int.toNat x)).2)))) (K (Zr false)) (J1 K l (w64 (x+(1:Int))) x1))) (Qa0 K l (w64 (x1+(1:Int)))))):J1 K l x x1 :=
 Loop.of (by kernel_rfl) h
theorem Qgu (l:List TIns) (x1:Int) (h :
 (zif (decide (x1<(l.length:Int))) (((0:Int)≤x1∧Int.toNat x1<l.length)∧(((0:Int)≤(0:Int)∧(0:Int)≤x1∧x1≤(l.length:Int))∧(J1 K l 0 x1))) (K (Zr true)))):Qa0 K l x1 :=
 Loop.of (by kernel_rfl) h
theorem QkX (l:List TIns) (h :
 (Qa0 K l 0)):Hold (tawp Yv (0+0) Qme (TQ 0 0 Qef K) (Qn [(.c (.sl Qb) l)])) :=
 Hold.of (by kernel_rfl) h
theorem Qh1 (l:List TIns):TCon Try.prog 113 [(.c (.sl Qb) l)] (Zr (Q9 l)):=by
 refine QN rfl fun hb=>tcg (n:=36) (sg:=Qcp.sg) QC TOk.nil (by kernel_rfl) (by kernel_rfl) (QkX _ l ?_)
 have hl_l:l.length≤9223372036854775807:=hb.1.1
 refine Zq l.length (fun k=>((List.range k).all fun k=>(List.range k).all fun j=>!(((gtd dIns l k).1==(gtd dIns l j).1)&&decide ((gtd dIns l k).2≤(gtd dIns l j).2)))=true→Qa0 (fun r'=>r'=Zr (Q9 l)) l k) ?_ ?_ rfl
 ·intro hd
  exact Qgu (fun r'=>r'=Zr (Q9 l)) l _ ⟨fun h=>by simp at h,fun _=>R_eq hd.symm⟩
 ·intro k hk ih hd
  refine Qgu (fun r'=>r'=Zr (Q9 l)) l _ ⟨fun _=>⟨⟨by omega,by simpa using hk⟩,⟨by omega,by omega,by omega⟩,?_⟩,fun h=>by simp at h;omega⟩
  refine Zq k (fun j=>((List.range j).all fun j=>!(((gtd dIns l k).1==(gtd dIns l j).1)&&decide ((gtd dIns l k).2≤(gtd dIns l j).2)))=true→J1 (fun r'=>r'=Zr (Q9 l)) l j k) ?_ ?_ rfl
  ·intro hd2
   refine QeP (fun r'=>r'=Zr (Q9 l)) l _ _ ?_
   simp only [Int.toNat_natCast,Int.toNat_zero,Nat.sub_zero,List.drop_zero,List.length_take]
   refine ⟨fun h=>by simp at h;omega,fun _=>?_⟩
   rw [sc1 (by omega)]
   exact ih (by rw [List.range_succ,List.all_append,hd];simp only [List.all_cons,List.all_nil,Bool.and_true,Bool.true_and];exact hd2)
  ·intro j hj ih2 hd2
   refine QeP (fun r'=>r'=Zr (Q9 l)) l _ _ ?_
   simp only [Int.toNat_natCast,Int.toNat_zero,Nat.sub_zero,List.drop_zero,List.length_take,QjM hj]
   refine ⟨fun _=>⟨⟨by omega,by omega⟩,fun h=>R_eq ?_,fun h=>?_⟩,fun h=>by simp at h;omega⟩
   ·symm
    rw [← Bool.not_eq_true]
    unfold Q9
    rw [List.all_eq_true]
    intro hA
    have:=List.all_eq_true.1 (hA k (List.mem_range.2 hk)) j (List.mem_range.2 hj)
    rw [h] at this;simp at this
   ·rw [sc1 (by omega)]
    exact ih2 (by rw [List.range_succ,List.all_append,hd2];simp only [List.all_cons,List.all_nil,Bool.and_true,Bool.true_and];rw [h];rfl)
theorem Qj3:Qx Try.prog Qcp:=QD fun x _=>Qh1 x.1
def Zj (t:Bool):TRes:=zre (zcb t)
def QcK:TRow:=Qy 25 [(.c (.sl Qb)),(.c TI),(.c TI),(.c TI),(.c .bool)] fun x=>(none,Zj (QI x.1 x.2.1 x.2.2.1 x.2.2.2.1 x.2.2.2.2.1))
def Yj:List TRow:=[JE,Qag,Qaj,Qcp]
def Qdk:TCode :=
 (zsq [(.reg [zbi 60 .lss 59 58]),(.cond 60 .skip (.exit 2)),(.block 3 (zsq [(.reg [zia 61 57 59 Qb,zLd 62 61 2,zop 18 (.new 151 (z0s Qb)),zst 18 62 2]),(zsq [(.reg [zfa 63 18 1,zld 64 63 1,zmv 65 14,zbi 66 .neq 64 65]),(.cond 66 (.exit 3) .skip)]),(zsq [(.draw [zmv 67 16,zmv 68 15,zle 69 68,zbi 70 .eql 67 69,zmv 71 70,.grp 71 false [zLd 72 18 2,zmv 73 15,zmv 74 16,zia 75 73 74 Qb,zLd 76 75 2,zop 77 (.cmpa 2 true 72 76)] 78 77] []),(.cond 78 (zsq [(.reg [zmv 10 (zkb false)]),.ret]) .skip)]),(.reg [zmv 79 16,zbi 80 .add 79 (zki 1),zmv 16 80])])),(.reg [zbi 81 .add 59 (zki 1),zmv 59 81])])
def QfZ:List (Nat × Md):=zdl [1,2,3,4,11,12,13,14,15,16,57,58,59]
def QgH:TCode :=
 (zsq [(zsq [(.reg [zmv 82 16,zmv 83 15,zle 84 83,zbi 85 .lss 82 84]),(.cond 85 (zsq [(.reg [zmv 10 (zkb false)]),.ret]) .skip)]),(.reg [zmv 86 13,zmv 87 16,zbi 88 .add 86 87,zmv 13 88])])
def Qfq:TCode :=
 (.reg [zmv 45 14,zbi 46 .add 45 (zki 1),zmv 14 46])
def QcI:TCode :=
 (zsq [(zsq [(.reg [zmv 42 14,zmv 43 3,zbi 44 .lss 42 43]),(.cond 44 .skip (.exit 0))]),(.block 1 (zsq [(.reg [zmv 47 1,zmv 48 2,zmv 49 14,zca 50 107 [47,48,49],zmv 51 1,zmv 52 2,zmv 53 14,zmv 54 4,zca 55 108 [51,52,53,54],zop 56 (.app 50 55 151 Qb),zmv 15 56]),(.reg [zmv 16 (zki 0)]),(zsq [(.reg [zmv 57 12,zle 58 57,zmv 59 (zki 0)]),(.block 2 (.loop QfZ Qdk))]),QgH])),Qfq])
def QaM:List (Nat × Md):=zdl [1,2,3,4,11,12,13,14]
def Qe6:TCode :=
 (zsq [(.reg [zmv 89 13,zmv 90 11,zbi 91 .eql 89 90,zmv 92 91,.grp 92 true [zmv 93 12,zca 94 113 [93]] 95 94,zmv 10 95]),.ret])
def Qil:TCode :=
 (zsq [(.reg [zmv 10 (zkb false)]),(.reg [zmv 19 0,zle 20 19,zbi 21 .sub 20 (zki 1),zmv 11 21]),(zsq [(.reg [zmv 22 1,zmv 23 2,zmv 24 3,zca 25 106 [22,23,24],zno 26 25,zmv 27 26,.grp 27 false [zmv 28 11,zbi 29 .lss 28 (zki 0)] 30 29,zmv 31 30,.grp 31 false [zmv 32 0,zmv 33 11,zia 34 32 33 Qb,zLd 35 34 2,zop 36 (.build (z0s Qb) [(0,1,(zki 8)),(1,1,(zki 0))]),zop 37 (.cmpa 2 true 35 36)] 38 37]),(.cond 38 (zsq [(.reg [zmv 10 (zkb false)]),.ret]) .skip)]),(.reg [zmv 39 0,zmv 40 11,zop 41 (.slc 39 none (some 40) Qb),zmv 12 41]),(.reg [zmv 13 (zki 0)]),(zsq [(.reg [zmv 14 (zki 0)]),(.block 0 (.loop QaM QcI))]),Qe6])
def Qdm:List (ARv × Md):=[(.t 10,.one .d)]
def QfS:Qd:=TQ 0 0 Qdm K
def QhM:Qd:=Qseq (tawp Yj 0 Qe6 (QfS K)) (QfS K)
def Qb2:Qd:=Qblk 0 (QhM K)
def Qgx:Qd:=Qseq (fun s'=>Loop Yj 0 QaM QcI (Qb2 K) (gc 0 QaM s')) (Qb2 K)
def QjZ:Qd:=Qseq (tawp Yj 0 Qfq (Qgx K)) (Qgx K)
def Qep:Qd:=Qblk 1 (QjZ K)
def Qlr:Qd:=Qseq (tawp Yj 0 QgH (Qep K)) (Qep K)
def Qmb:Qd:=Qblk 2 (Qlr K)
def Jg (l:List TIns) (stages:Int) (s:Int) (micro:Int) (redo:Bool) (k:Int) (x:Int) (count:Int) (m:Int):Prop:=let z1:=List.take (Int.toNat (w64 ((l.length:Int)-(1:Int)))-Int.toNat (0:Int)) (List.drop (Int.toNat (0:Int)) l)
 let z2:=List.take ((Ql stages s m redo).length) (List.drop 0 (Ql stages s m redo))
 Loop Yj 0 QfZ Qdk (Qmb K) ⟨[(1,(zci stages)),(2,(zci s)),(3,(zci micro)),(4,(zcb redo)),(11,(zci (w64 ((l.length:Int)-(1:Int))))),(12,(zcs Qb z1)),(13,(zci count)),(14,(zci m)),(15,(zcs Qb (List.take ((Qg stages s m).length+z2.length) (List.drop 0 ((List.take ((Qg stages s m).length) (Qg stages s m))++z2))))),(16,(zci k)),(57,(zcs Qb z1)),(58,(zci (z1.length:Int))),(59,(zci x))],[],0⟩
def QaO (l:List TIns) (stages:Int) (s:Int) (micro:Int) (redo:Bool) (count:Int) (m:Int):Prop:=Loop Yj 0 QaM QcI (Qb2 K) ⟨[(1,(zci stages)),(2,(zci s)),(3,(zci micro)),(4,(zcb redo)),(11,(zci (w64 ((l.length:Int)-(1:Int))))),(12,(zcs Qb (List.take (Int.toNat (w64 ((l.length:Int)-(1:Int)))-Int.toNat (0:Int)) (List.drop (Int.toNat (0:Int)) l)))),(13,(zci count)),(14,(zci m))],[],0⟩
theorem QdU (l:List TIns) (stages:Int) (s:Int) (micro:Int) (redo:Bool) (k:Int) (x:Int) (count:Int) (m:Int) (h :
 let z2:=List.take (Int.toNat (w64 ((l.length:Int)-(1:Int)))-Int.toNat (0:Int)) (List.drop (Int.toNat (0:Int)) l)
 let z3:=List.take ((Ql stages s m redo).length) (List.drop 0 (Ql stages s m redo))
 let z1:=List.take ((Qg stages s m).length+z3.length) (List.drop 0 ((List.take ((Qg stages s m).length) (Qg stages s m))++z3))
 let z4:=gtd dIns z2 (Int.toNat x)
 (zif (decide (x<(z2.length:Int))) (((0:Int)≤x∧Int.toNat x<z2.length)∧(zif ((z4.2) != m) (Jg K l stages s micro redo k (w64 (x+(1:Int))) count m) (((!(k==(z1.length:Int)))=true→((0:Int)≤k∧Int.toNat k<z1.length))∧(zif ((k==(z1.length:Int))||(!decide (([z4.1,z4.2]:List Int)=[(gtd dIns z1 (Int.toNat k)).1,(gtd dIns z1 (Int.toNat k)).2]))) (K (Zj false)) (Jg K l stages s micro redo (w64 (k+(1:Int))) (w64 (x+(1:Int))) count m))))) (zif (decide (k<(z1.length:Int))) (K (Zj false)) (QaO K l stages s micro redo (w64 (count+k)) (w64 (m+(1:Int))))))):Jg K l stages s micro redo k x count m :=
 Loop.of (by kernel_rfl) h
theorem QfV (l:List TIns) (stages:Int) (s:Int) (micro:Int) (redo:Bool) (count:Int) (m:Int) (h :
 (zif (decide (m<micro)) (((p_st stages s m)∧((Qab stages s m redo)∧(((Qg stages s m).length=(Qg stages s m).length∨(Qg stages s m).length+(List.take ((Ql stages s m redo).length) (List.drop 0 (Ql stages s m redo))).length≤(Qg stages s m).length)∧(Qg stages s m).length+(List.take ((Ql stages s m redo).length) (List.drop 0 (Ql stages s m redo))).length≤big)))∧(Jg K l stages s micro redo 0 0 count m)) (K (Zj ((count==(w64 ((l.length:Int)-(1:Int))))&&(Q9 (List.take (Int.toNat (w64 ((l.length:Int)-(1:Int)))-Int.toNat (0:Int)) (List.drop (Int.toNat (0:Int)) l)))))))):QaO K l stages s micro redo count m :=
 Loop.of (by kernel_rfl) h
theorem Qhj (l:List TIns) (stages:Int) (s:Int) (micro:Int) (redo:Bool) (h :
 (((!((!(Qh stages s micro))||(decide ((w64 ((l.length:Int)-(1:Int)))<(0:Int)))))=true→((0:Int)≤w64 ((l.length:Int)-(1:Int))∧Int.toNat (w64 ((l.length:Int)-(1:Int)))<l.length))∧(zif (((!(Qh stages s micro))||(decide ((w64 ((l.length:Int)-(1:Int)))<(0:Int))))||(!decide (([(gtd dIns l (Int.toNat (w64 ((l.length:Int)-(1:Int))))).1,(gtd dIns l (Int.toNat (w64 ((l.length:Int)-(1:Int))))).2]:List Int)=[(8:Int),(0:Int)]))) (K (Zj false)) (((0:Int)≤(0:Int)∧(0:Int)≤w64 ((l.length:Int)-(1:Int))∧w64 ((l.length:Int)-(1:Int))≤(l.length:Int))∧(QaO K l stages s micro redo 0 0))))):Hold (tawp Yj (0+0) Qil (TQ 0 0 Qdm K) (Qn [(.c (.sl Qb) l),(.c TI stages),(.c TI s),(.c TI micro),(.c .bool redo)])) :=
 Hold.of (by kernel_rfl) h
theorem QiP (l:List TIns) (stages:Int) (s:Int) (micro:Int) (redo:Bool):TCon Try.prog 25 [(.c (.sl Qb) l),(.c TI stages),(.c TI s),(.c TI micro),(.c .bool redo)] (Zj (QI l stages s micro redo)):=by
 refine QN rfl fun hb=>tcg (n:=96) (sg:=QcK.sg) QC (TOk.cons Qcs (TOk.cons Qdf (TOk.cons Qf5 (TOk.cons Qj3 TOk.nil)))) (by kernel_rfl) (by kernel_rfl) (Qhj _ l stages s micro redo ?_)
 have hl_l:l.length≤9223372036854775807:=hb.1.1
 by_cases hq:Qh stages s micro=true
 case neg =>
  rw [show Qh stages s micro=false by simpa using hq]
  exact ⟨fun h=>by simp at h,fun _=>R_eq (by unfold QI;simp [hq]),fun h=>by simp at h⟩
 have hr:=Yh.1 hq
 by_cases hn:l=[]
 ·subst hn
  have e:w64 ((([]:List TIns).length:Int)-1) = -1:=rfl
  rw [e]
  exact ⟨fun h=>by simp at h,fun _=>R_eq (by unfold QI;simp),fun h=>by simp at h⟩
 have hn1:1≤l.length:=by cases l with | nil=>exact absurd rfl hn | cons _ _=>simp
 have e:w64 ((l.length:Int)-1)=((l.length-1:Nat):Int):=by rw [Qk (by omega) (by omega)];omega
 rw [e]
 simp only [Int.toNat_natCast,QdN]
 refine ⟨fun _=>⟨by omega,by omega⟩,fun h=>R_eq ?_,fun h=>⟨⟨by omega,by omega,by omega⟩,?_⟩⟩
 ·have hz:¬ gtd dIns l (l.length-1)=(8,0):=by
   intro e2;simp [e2,hq] at h;omega
  unfold QI;simp [hz]
 have hz:gtd dIns l (l.length-1)=(8,0):=by simp at h;exact h.2
 have hfalse:∀ m:Nat,m<micro.toNat→¬ (l.take (l.length-1)).filter (fun x=>x.2==(m:Int))=want stages s m redo→(QI l stages s micro redo)=false:=by
  intro m hm hne
  rw [← Bool.not_eq_true]
  unfold QI
  simp only [Bool.and_eq_true]
  intro ⟨⟨_,h2⟩,_⟩
  exact hne (of_decide_eq_true (List.all_eq_true.1 h2 m (List.mem_range.2 hm)))
 have ho:=QbK stages s redo
 refine Zq micro.toNat (fun k=>((List.range k).all fun m=>decide ((l.take (l.length-1)).filter (fun x=>x.2==(m:Int))=want stages s m redo))=true→QaO (fun r'=>r'=Zj (QI l stages s micro redo)) l stages s micro redo ((k*(Qj stages s redo).length:Nat):Int) k) ?_ ?_ rfl |> fun h=>by simpa using h
 ·intro hd
  refine QfV (fun r'=>r'=Zj (QI l stages s micro redo)) l stages s micro redo _ _ ?_
  rw [e]
  simp only [Int.toNat_natCast,Int.toNat_zero,Nat.sub_zero,List.drop_zero]
  refine ⟨fun h=>by simp at h;omega,fun _=>R_eq ?_⟩
  unfold QI
  rw [hq,hd,hz]
  simp only [hn1,decide_true,Bool.true_and,Bool.and_true]
  congr 1
  rw [Bool.eq_iff_iff,beq_iff_eq,decide_eq_true_eq]
  exact ⟨fun h=>(Int.ofNat_inj.1 h).symm,fun h=>by rw [h]⟩
 ·intro k hk ih hd
  have h1:=Zp stages s k
  have h2:=Y5 stages s k redo
  have hm5:=Nat.mul_le_mul (show k≤5 by omega) ho
  refine QfV (fun r'=>r'=Zj (QI l stages s micro redo)) l stages s micro redo _ _ ⟨fun _=>⟨⟨⟨by omega,by omega⟩,⟨by omega,by omega⟩,QaE (by omega)⟩,?_⟩,fun h=>by simp at h;omega⟩
  have hwl:=QdC stages s k redo
  refine Je (l.take (l.length-1)) (fun r i=>∀ kk:Nat,kk≤(want stages s k redo).length→((l.take (l.length-1)).filter (fun x=>x.2==(k:Int))=want stages s k redo↔r.filter (fun x=>x.2==(k:Int))=(want stages s k redo).drop kk)→Jg (fun r'=>r'=Zj (QI l stages s micro redo)) l stages s micro redo kk i ((k*(Qj stages s redo).length:Nat):Int) k) ?_ ?_ 0 (by omega) (by rw [List.drop_zero])
  ·intro kk hkk hiff
   refine QdU (fun r'=>r'=Zj (QI l stages s micro redo)) l stages s micro redo _ _ _ _ ?_
   conv=>zeta
   rw [e]
   simp only [Int.toNat_natCast,Int.toNat_zero,Nat.sub_zero,List.drop_zero,List.take_length,QdX]
   refine ⟨fun h=>by simp at h,fun _=>⟨fun h=>R_eq (hfalse k (by omega) ?_).symm,fun h=>?_⟩⟩
   ·rw [hiff,List.filter_nil]
    intro e2
    have:=congrArg List.length e2
    simp at this h;omega
   ·have hkl:kk=(want stages s k redo).length:=by simp at h;omega
    rw [sc1 (by omega),Qk (by omega) (by omega)]
    have:=ih (by
     rw [List.range_succ,List.all_append,hd]
     simp only [List.all_cons,List.all_nil,Bool.and_true,Bool.true_and]
     refine decide_eq_true (hiff.2 ?_)
     rw [hkl,List.drop_length];rfl)
    rw [hkl,hwl]
    rw [Nat.add_mul,Nat.one_mul,Int.natCast_add] at this
    exact this
  ·intro i x r hi hlt hg ih2 kk hkk hiff
   refine QdU (fun r'=>r'=Zj (QI l stages s micro redo)) l stages s micro redo _ _ _ _ ?_
   conv=>zeta
   rw [e]
   simp only [Int.toNat_natCast,Int.toNat_zero,Nat.sub_zero,List.drop_zero,List.take_length,QdX]
   rw [hg]
   have hll:i<9223372036854775807:=by rw [List.length_take] at hlt;omega
   rw [Qj4,sc1 hll]
   refine ⟨fun _=>⟨⟨by omega,hlt⟩,fun h=>?_,fun h=>?_⟩,fun h=>absurd (Int.ofNat_lt.2 hlt) (of_decide_eq_false h)⟩
   ·refine ih2 kk hkk (hiff.trans ?_)
    have:(x.2==(k:Int))=false:=by simpa using h
    rw [List.filter_cons,this];rfl
   ·have hx:(x.2==(k:Int))=true:=by simpa using h
    refine ⟨fun h=>⟨by omega,by simp at h;omega⟩,fun h=>R_eq (hfalse k (by omega) ?_).symm,fun h=>?_⟩
    ·rw [hiff,List.filter_cons,hx,if_pos rfl]
     intro e2
     by_cases hkl:kk<(want stages s k redo).length
     ·rw [QcV (YM hkl dIns)] at e2
      simp only [List.cons.injEq] at e2
      simp [e2.1] at h
      omega
     ·have:=congrArg List.length e2
      simp at this;omega
    ·have hkl:kk<(want stages s k redo).length:=by simp at h;omega
     have hxw:x=gtd dIns (want stages s k redo) kk:=by simp at h;exact h.2
     rw [sc1 (by omega)]
     refine ih2 (kk+1) (by omega) (hiff.trans ?_)
     rw [List.filter_cons,hx,if_pos rfl,QcV (YM hkl dIns),← hxw]
     simp
theorem Qkh:Qx Try.prog QcK:=QD fun x _=>QiP x.1 x.2.1 x.2.2.1 x.2.2.2.1 x.2.2.2.2.1
def Z7 (t:Bool):TRes:=zre (zcb t)
def Qbb:TRow:=Qy 23 [(.c (.sl Qb)),(.c TI),(.c TI),(.c TI),(.c .bool)] fun x=>(none,Z7 (QI x.1 x.2.1 x.2.2.1 x.2.2.2.1 x.2.2.2.2.1))
def YK:List TRow:=[Jy,QbX,Qbv]
def QeX:TCode :=
 (zsq [(zsq [(.reg [zmv 58 13,zmv 59 3,zbi 60 .lss 58 59]),(.cond 60 .skip (.exit 2))]),(.block 3 (zsq [(.reg [zmv 63 0,zmv 64 11,zmv 65 12,zia 66 64 65 [TI],zld 67 66 1,zmv 68 13,zca 69 111 [63,67,68],zmv 14 69]),(.reg [zmv 70 14,zbi 71 .lss 70 (zki 0),zmv 72 71,.grp 72 false [zmv 73 12,zbi 74 .gtr 73 (zki 0),zmv 75 74,.grp 75 true [zmv 76 0,zmv 77 11,zmv 78 12,zbi 79 .sub 78 (zki 1),zia 80 77 79 [TI],zld 81 80 1,zmv 82 13,zca 83 111 [76,81,82],zmv 84 14,zbi 85 .geq 83 84] 86 85] 87 86,zmv 88 87,.grp 88 false [zmv 89 13,zbi 90 .gtr 89 (zki 0),zmv 91 90,.grp 91 true [zmv 92 0,zmv 93 11,zmv 94 12,zia 95 93 94 [TI],zld 96 95 1,zmv 97 13,zbi 98 .sub 97 (zki 1),zca 99 111 [92,96,98],zmv 100 14,zbi 101 .geq 99 100] 102 101] 103 102]),(.cond 103 (zsq [(.reg [zmv 10 (zkb false)]),.ret]) .skip)])),(.reg [zmv 61 13,zbi 62 .add 61 (zki 1),zmv 13 62])])
def QgR:List (Nat × Md):=zdl [0,3,11,12,13]
def Qdn:TCode :=
 (.reg [zmv 56 12,zbi 57 .add 56 (zki 1),zmv 12 57])
def QcN:TCode :=
 (zsq [(zsq [(.reg [zmv 52 12,zmv 53 11,zle 54 53,zbi 55 .lss 52 54]),(.cond 55 .skip (.exit 0))]),(.block 1 (zsq [(.reg [zmv 13 (zki 0)]),(.block 2 (.loop QgR QeX))])),Qdn])
def QaZ:List (Nat × Md):=zdl [0,3,11,12]
def Qfc:TCode :=
 (zsq [(.reg [zmv 10 (zkb true)]),.ret])
def Qj2:TCode :=
 (zsq [(.reg [zmv 10 (zkb false)]),(zsq [(.reg [zmv 15 1,zca 16 102 [15,(zki 1),(zki 4)],zno 17 16,zmv 18 17,.grp 18 false [zmv 19 2,zmv 20 1,zbi 21 .sub 20 (zki 1),zca 22 102 [19,(zki 0),21],zno 23 22] 24 23,zmv 25 24,.grp 25 false [zmv 26 3,zca 27 102 [26,(zki 1),(zki 5)],zno 28 27] 29 28]),(.cond 29 (zsq [(.reg [zmv 10 (zkb false)]),.ret]) .skip)]),(.reg [zmv 30 1,zmv 31 2,zmv 32 4,zca 33 110 [30,31,32],zmv 11 33]),(zsq [(.reg [zmv 34 0,zle 35 34,zmv 36 3,zmv 37 11,zle 38 37,zbi 39 .mul 36 38,zbi 40 .add 39 (zki 1),zbi 41 .neq 35 40,zmv 42 41,.grp 42 false [zmv 43 0,zmv 44 0,zle 45 44,zbi 46 .sub 45 (zki 1),zia 47 43 46 Qb,zLd 48 47 2,zop 49 (.build (z0s Qb) [(0,1,(zki 8))]),zop 50 (.cmpa 2 true 48 49)] 51 50]),(.cond 51 (zsq [(.reg [zmv 10 (zkb false)]),.ret]) .skip)]),(zsq [(.reg [zmv 12 (zki 0)]),(.block 0 (.loop QaZ QcN))]),Qfc])
def Qel:List (ARv × Md):=[(.t 10,.one .d)]
def Qds:Qd:=TQ 0 0 Qel K
def Qmg:Qd:=Qseq (tawp YK 0 Qfc (Qds K)) (Qds K)
def Qa6:Qd:=Qblk 0 (Qmg K)
def QeW:Qd:=Qseq (fun s'=>Loop YK 0 QaZ QcN (Qa6 K) (gc 0 QaZ s')) (Qa6 K)
def Qis:Qd:=Qseq (tawp YK 0 Qdn (QeW K)) (QeW K)
def QjI:Qd:=Qblk 1 (Qis K)
def Qjj:Qd:=Qblk 2 (QjI K)
def JR (l:List TIns) (stages:Int) (s:Int) (micro:Int) (redo:Bool) (m:Int) (k:Int):Prop:=Loop YK 0 QgR QeX (Qjj K) ⟨[(0,(zcs Qb l)),(3,(zci micro)),(11,(zcs [TI] (Qj stages s redo))),(12,(zci k)),(13,(zci m))],[],0⟩
def QaQ (l:List TIns) (stages:Int) (s:Int) (micro:Int) (redo:Bool) (k:Int):Prop:=Loop YK 0 QaZ QcN (Qa6 K) ⟨[(0,(zcs Qb l)),(3,(zci micro)),(11,(zcs [TI] (Qj stages s redo))),(12,(zci k))],[],0⟩
theorem QdY (l:List TIns) (stages:Int) (s:Int) (micro:Int) (redo:Bool) (m:Int) (k:Int) (h :
 let z2:=Qj stages s redo
 let z1:=Qt l (gtd (0:Int) z2 (Int.toNat k)) m
 let z3:=Qt l (gtd (0:Int) z2 (Int.toNat (w64 (k-(1:Int))))) m
 (zif (decide (m<micro)) (((0:Int)≤k∧Int.toNat k<z2.length)∧((((!(decide (z1<(0:Int))))=true→((decide (k>(0:Int)))=true→((0:Int)≤w64 (k-(1:Int))∧Int.toNat (w64 (k-(1:Int)))<z2.length)))∧((!((decide (z1<(0:Int)))||((decide (k>(0:Int)))&&(decide (z3≥z1)))))=true→((decide (m>(0:Int)))=true→((0:Int)≤k∧Int.toNat k<z2.length))))∧(zif (((decide (z1<(0:Int)))||((decide (k>(0:Int)))&&(decide (z3≥z1))))||((decide (m>(0:Int)))&&(decide ((Qt l (gtd (0:Int) z2 (Int.toNat k)) (w64 (m-(1:Int))))≥z1)))) (K (Z7 false)) (JR K l stages s micro redo (w64 (m+(1:Int))) k)))) (QaQ K l stages s micro redo (w64 (k+(1:Int)))))):JR K l stages s micro redo m k :=
 Loop.of (by kernel_rfl) h
theorem Qfa (l:List TIns) (stages:Int) (s:Int) (micro:Int) (redo:Bool) (k:Int) (h :
 (zif (decide (k<((Qj stages s redo).length:Int))) (JR K l stages s micro redo 0 k) (K (Z7 true)))):QaQ K l stages s micro redo k :=
 Loop.of (by kernel_rfl) h
theorem Qg7 (l:List TIns) (stages:Int) (s:Int) (micro:Int) (redo:Bool) (h :
 (zif (((!(m_in stages (1:Int) (4:Int)))||(!(m_in s (0:Int) (w64 (stages-(1:Int))))))||(!(m_in micro (1:Int) (5:Int)))) (K (Z7 false)) ((Qcj stages s redo)∧(((!((l.length:Int) != (w64 ((w64 (micro*((Qj stages s redo).length:Int)))+(1:Int)))))=true→((0:Int)≤w64 ((l.length:Int)-(1:Int))∧Int.toNat (w64 ((l.length:Int)-(1:Int)))<l.length))∧(zif (((l.length:Int) != (w64 ((w64 (micro*((Qj stages s redo).length:Int)))+(1:Int))))||(!decide (([(gtd dIns l (Int.toNat (w64 ((l.length:Int)-(1:Int))))).1,(gtd dIns l (Int.toNat (w64 ((l.length:Int)-(1:Int))))).2]:List Int)=[(8:Int),(0:Int)]))) (K (Z7 false)) (QaQ K l stages s micro redo 0)))))):Hold (tawp YK (0+0) Qj2 (TQ 0 0 Qel K) (Qn [(.c (.sl Qb) l),(.c TI stages),(.c TI s),(.c TI micro),(.c .bool redo)])) :=
 Hold.of (by kernel_rfl) h
theorem QhH (l:List TIns) (stages:Int) (s:Int) (micro:Int) (redo:Bool):TCon Try.prog 23 [(.c (.sl Qb) l),(.c TI stages),(.c TI s),(.c TI micro),(.c .bool redo)] (Z7 (QI l stages s micro redo)):=by
 refine QN rfl fun hb=>tcg (n:=104) (sg:=Qbb.sg) QC (TOk.cons Qcl (TOk.cons QhN (TOk.cons QkC TOk.nil))) (by kernel_rfl) (by kernel_rfl) (Qg7 _ l stages s micro redo ?_)
 have hl_l:l.length≤9223372036854775807:=hb.1.1
 rw [Qid]
 by_cases hq:Qh stages s micro=true
 case neg =>
  rw [show Qh stages s micro=false by simpa using hq]
  exact ⟨fun _=>R_eq (by unfold QI;simp [hq]),fun h=>by simp at h⟩
 have hr:=Yh.1 hq
 obtain ⟨mi,rfl⟩:∃ mi:Nat,micro=(mi:Int):=⟨micro.toNat,by omega⟩
 have ho:=QbK stages s redo
 have hmul:mi*(Qj stages s redo).length≤35:=by have:=Nat.mul_le_mul (show mi≤5 by omega) ho;omega
 rw [hq]
 refine ⟨fun h=>by simp at h,fun _=>⟨⟨by omega,by omega⟩,?_⟩⟩
 have e1:w64 (w64 ((mi:Int)*((Qj stages s redo).length:Int))+1)=((mi*(Qj stages s redo).length+1:Nat):Int):=by
  rw [← Int.natCast_mul,Qk (x:=((mi*(Qj stages s redo).length:Nat):Int)) (by omega) (by omega),Qk (by omega) (by omega)];omega
 rw [e1,← Qjg l stages s mi redo]
 by_cases hl:l.length=mi*(Qj stages s redo).length+1
 case neg =>
  have c1:((l.length:Int) != ((mi*(Qj stages s redo).length+1:Nat):Int))=true:=bne_iff_ne.2 (fun e=>hl (Int.ofNat_inj.1 e))
  rw [c1]
  exact ⟨fun h=>by simp at h,fun _=>R_eq (by unfold ZJ;simp [hl]),fun h=>by simp at h⟩
 have c1:((l.length:Int) != ((mi*(Qj stages s redo).length+1:Nat):Int))=false:=by rw [hl];simp
 have e:w64 ((l.length:Int)-1)=((l.length-1:Nat):Int):=by rw [Qk (by omega) (by omega)];omega
 rw [c1,e]
 simp only [Int.toNat_natCast,QdN]
 refine ⟨fun _=>⟨by omega,by omega⟩,fun h=>R_eq ?_,fun h=>?_⟩
 ·have hz:¬ gtd dIns l (l.length-1)=(8,0):=by intro e2;simp [e2] at h
  unfold ZJ;simp [hz]
 have hz:gtd dIns l (l.length-1)=(8,0):=by simpa using h
 have hfalse:∀ k m:Nat,k<(Qj stages s redo).length→m<mi→Z2 l (Qj stages s redo) k m=false→ZJ l stages s mi redo=false:=by
  intro k m hk hm hne
  rw [← Bool.not_eq_true]
  unfold ZJ
  simp only [Bool.and_eq_true]
  intro ⟨_,h2⟩
  have:=List.all_eq_true.1 (List.all_eq_true.1 h2 k (List.mem_range.2 hk)) m (List.mem_range.2 (by simpa using hm))
  rw [hne] at this;simp at this
 refine Zq (Qj stages s redo).length (fun k=>((List.range k).all fun k=>(List.range mi).all fun m=>Z2 l (Qj stages s redo) k m)=true→QaQ (fun r'=>r'=Z7 (ZJ l stages s mi redo)) l stages s (mi:Int) redo k) ?_ ?_ rfl
 ·intro hd
  refine Qfa _ l stages s _ redo _ ⟨fun h=>by simp at h,fun _=>R_eq ?_⟩
  unfold ZJ
  rw [hq,hz,Int.toNat_natCast,hd]
  simp [hl]
 ·intro k hk ih hd
  refine Qfa _ l stages s _ redo _ ⟨fun _=>?_,fun h=>by simp at h;omega⟩
  refine Zq mi (fun m=>((List.range m).all fun m=>Z2 l (Qj stages s redo) k m)=true→JR (fun r'=>r'=Z7 (ZJ l stages s mi redo)) l stages s (mi:Int) redo m k) ?_ ?_ rfl
  ·intro hd2
   refine QdY _ l stages s _ redo _ _ ⟨fun h=>by simp at h,fun _=>?_⟩
   rw [sc1 (by omega)]
   exact ih (by rw [List.range_succ,List.all_append,hd];simp [hd2])
  ·intro m hm ih2 hd2
   refine QdY _ l stages s _ redo _ _ ⟨fun _=>?_,fun h=>by simp at h;omega⟩
   have hk0:Int.toNat (k:Int)=k:=Int.toNat_natCast k
   rw [hk0,Qma l _ (by omega) (by omega)]
   refine ⟨⟨by omega,hk⟩,⟨fun _ h=>?_,fun _ _=>⟨by omega,hk⟩⟩,fun h=>R_eq (hfalse k m hk hm (by simpa using h)).symm,fun h=>?_⟩
   ·simp at h;rw [Qk (by omega) (by omega)];omega
   ·rw [sc1 (by omega)]
    exact ih2 (by rw [List.range_succ,List.all_append,hd2];simpa using h)
theorem Qmd:Qx Try.prog Qbb:=QD fun x _=>QhH x.1 x.2.1 x.2.2.1 x.2.2.2.1 x.2.2.2.2.1
end
end Go.Proofs.Ytephkbajoofeoaa.Am

