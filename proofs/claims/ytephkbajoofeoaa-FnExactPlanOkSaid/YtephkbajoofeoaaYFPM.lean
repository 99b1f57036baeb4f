/- -/
import Derived.Test.YtephkbajoofeoaaYFPL
import Derived.Test.YtephkbajoofeoaaYFPE
import Derived.Test.YtephkbajoofeoaaYFP1
import Derived.Test.YtephkbajoofeoaaYFG9
namespace Go.Proofs.Ytephkbajoofeoaa.Am
open Go Go.RowKit Go.Proofs.Ytephkbajoofeoaa
set_option linter.all false
noncomputable section
variable (K:TRes→Prop)
def ZI (t:Int):TRes:=zre (zci t)
def J2:TRow:=Qz 111 [(.c (.sl Qb)),(.c TI),(.c TI)] fun x=>(none,ZI (Ql x.1 x.2.1 x.2.2.1))
def QaQ:List TRow:=[]
def Qei:TCode :=
 (zsq [(zsq [(.reg [zmv 9 8,zmv 10 0,zle 11 10,zbi 12 .lss 9 11]),(.cond 12 .skip (.exit 0))]),(.block 1 (zsq [(.reg [zmv 15 0,zmv 16 8,zia 17 15 16 Qb,zfa 18 17 0,zld 19 18 1,zmv 20 1,zbi 21 .eql 19 20,zmv 22 21,.grp 22 true [zmv 23 0,zmv 24 8,zia 25 23 24 Qb,zfa 26 25 1,zld 27 26 1,zmv 28 2,zbi 29 .eql 27 28] 30 29]),(.cond 30 (zsq [(zsq [(.reg [zmv 31 7,zbi 32 .geq 31 (zki 0)]),(.cond 32 (zsq [(.reg [zmv 6 (zki (-1))]),.ret]) .skip)]),(.reg [zmv 33 8,zmv 7 33])]) .skip)])),(.reg [zmv 13 8,zbi 14 .add 13 (zki 1),zmv 8 14])])
def QdM:List (Nat × Md):=zdl [0,1,2,7,8]
def Qcr:TCode :=
 (zsq [(.reg [zmv 34 7,zmv 6 34]),.ret])
def Qha:TCode :=
 (zsq [(.reg [zmv 6 (zki 0)]),(.reg [zmv 7 (zki (-1))]),(zsq [(.reg [zmv 8 (zki 0)]),(.block 0 (.loop QdM Qei))]),Qcr])
def Qd2:List (ARv × Md):=[(.t 6,.one .d)]
def QbL:Qf:=TQ 0 0 Qd2 K
def QgD:Qf:=Qseq (tawp QaQ 0 Qcr (QbL K)) (QbL K)
def QfM:Qf:=Qblk 0 (QgD K)
def YG (l:List TIns) (kind:Int) (m:Int) (att:Int) (i:Int):Prop:=Loop QaQ 0 QdM Qei (QfM K) ⟨[(0,(zcs Qb l)),(1,(zci kind)),(2,(zci m)),(7,(zci att)),(8,(zci i))],[],0⟩
theorem Qet (l:List TIns) (kind:Int) (m:Int) (att:Int) (i:Int) (h :
 (zif (decide (i<(l.length:Int))) ((((0:Int)≤i∧Int.toNat i<l.length)∧((((gtd dIns l (Int.toNat i)).1)==kind)=true→((0:Int)≤i∧Int.toNat i<l.length)))∧(zif ((((gtd dIns l (Int.toNat i)).1)==kind)&&(((gtd dIns l (Int.toNat i)).2)==m)) (zif (decide (att≥(0:Int))) (K (ZI (-1:Int))) (YG K l kind m i (w64 (i+(1:Int))))) (YG K l kind m att (w64 (i+(1:Int)))))) (K (ZI att)))):YG K l kind m att i :=
 Loop.of (by kernel_rfl) h
theorem Qgs (l:List TIns) (kind:Int) (m:Int) (h :
 (YG K l kind m (-1) 0)):Hold (tawp QaQ (0+0) Qha (TQ 0 0 Qd2 K) (Qt [(.c (.sl Qb) l),(.c TI kind),(.c TI m)])) :=
 Hold.of (by kernel_rfl) h
theorem QeL (l:List TIns) (kind:Int) (m:Int):TCon Try.prog 111 [(.c (.sl Qb) l),(.c TI kind),(.c TI m)] (ZI (Ql l kind m)):=by
 refine QE rfl fun hb=>tcg (n:=35) (sg:=J2.sg) QF TOk.nil (by kernel_rfl) (by kernel_rfl) (Qgs _ l kind m ?_)
 have hl_l:l.length≤9223372036854775807:=hb.1.1
 refine YB l (fun r k=>∀ a:Int,QM (kind,m) r k a=(Ql l kind m)→YG (fun r'=>r'=ZI (Ql l kind m)) l kind m a k) ?_ ?_ (-1) rfl
 ·intro a he
  refine Qet (fun r'=>r'=ZI (Ql l kind m)) l kind m _ _ ⟨fun h=>by simp at h,fun _=>R_eq ?_⟩
  rw [← he];rfl
 ·intro k x r hk hlt hg ih a he
  refine Qet (fun r'=>r'=ZI (Ql l kind m)) l kind m _ _ ⟨fun _=>?_,fun h=>by simp at h;omega⟩
  rw [Int.toNat_natCast,hg,sc1 (by omega)]
  rw [QM] at he
  refine ⟨⟨⟨by omega,hlt⟩,fun _=>⟨by omega,hlt⟩⟩,fun h=>?_,fun h=>ih _ ?_⟩
  ·have hx:x=(kind,m):=by simp at h;exact Prod.ext h.1 h.2
   rw [if_pos hx] at he
   refine ⟨fun h=>R_eq ?_,fun h=>ih _ ?_⟩
   ·rw [if_pos (by simpa using h)] at he;exact he
   ·rw [if_neg (by simpa using h)] at he;exact he
  ·have hx:¬ x=(kind,m):=by rintro rfl;simp at h
   rw [if_neg hx] at he;exact he
theorem QiA:QB Try.prog J2:=QH fun x _=>QeL x.1 x.2.1 x.2.2.1
def ZY (t:(List Int)):TRes:=zra (zcs [TI] t)
def QaF:TRow:=Qz 110 [(.c TI),(.c TI),(.c .bool)] fun x=>(some (Qa1 x.1 x.2.1 x.2.2.1),ZY (Qh x.1 x.2.1 x.2.2.1))
def Qas:List TRow:=[Qbr,Qbi]
def QdA:TCode :=
 (zsq [(zsq [(.reg [zmv 20 9,zmv 21 7,zle 22 21,zbi 23 .lss 20 22]),(.cond 23 .skip (.exit 0))]),(.block 1 (.reg [zmv 26 8,zmv 27 7,zmv 28 9,zia 29 27 28 Qb,zfa 30 29 0,zld 31 30 1,zop 32 (.bsl 3 [TI] [31]),zop 33 (.app 26 32 3 [TI]),zmv 8 33])),(.reg [zmv 24 9,zbi 25 .add 24 (zki 1),zmv 9 25])])
def Qdv:List (Nat × Md):=[(7,.one .f),(8,.one .f),(9,.one .d)]
def Qer:TCode :=
 (zsq [(.reg [zmv 34 8,zmv 6 34]),.ret])
def Qg8:TCode :=
 (zsq [(.reg [zmv 6 (.k (.n [TI]))]),(.reg [zop 10 (.bsl 151 Qb []),zmv 7 10]),(.reg [zmv 11 7,zmv 12 0,zmv 13 1,zca 14 104 [11,12,13,(zki 0)],zmv 15 0,zmv 16 1,zmv 17 2,zca 18 105 [14,15,16,(zki 0),17],zmv 7 18]),(.reg [zop 19 (.bsl 3 [TI] []),zmv 8 19]),(zsq [(.reg [zmv 9 (zki 0)]),(.block 0 (.loop Qdv QdA))]),Qer])
def Qdj:List (ARv × Md):=[(.t 6,.one .d)]
def QbQ:Qf:=TQ 0 0 Qdj K
def Qf8:Qf:=Qseq (tawp Qas 0 Qer (QbQ K)) (QbQ K)
def QeD:Qf:=Qblk 0 (Qf8 K)
def Jr (i:Int) (l:List TIns) (out:List Int):Prop:=Loop Qas 0 Qdv QdA (QeD K) ⟨[(7,(.r Qb 0 0 l.length)),(8,(.r [TI] 1 0 out.length)),(9,(zci i))],[(0,(.sl 151 Qb true l)),(1,(.sl 3 [TI] true out))],2⟩
theorem Qeb (i:Int) (l:List TIns) (out:List Int) (h :
 (zif (decide (i<((l.length:Nat):Int))) ((((0:Int)≤i∧Int.toNat i<l.length)∧(((0+(Int.toNat i))<l.length)∧((out.length=out.length∨out.length+1≤out.length)∧out.length+1≤big)))∧(Jr K (w64 (i+(1:Int))) (List.take l.length l) (List.take (out.length+1) ((List.take out.length out)++([(gtd dIns l (0+(Int.toNat i))).1]))))) (K (ZY (List.take out.length (List.drop 0 out)))))):Jr K i l out :=
 Loop.of (by kernel_rfl) h
theorem QhT (stages:Int) (s:Int) (redo:Bool) (h :
 ((((0=0)∧(p_l9 ([]:List TIns) stages s (0:Int)))∧(((Zf ([]:List TIns) stages s (0:Int)).length=(Zf ([]:List TIns) stages s (0:Int)).length)∧(JN (Zf ([]:List TIns) stages s (0:Int)) stages s (0:Int) redo)))∧(Jr K 0 (List.take ((Yg (Zf ([]:List TIns) stages s (0:Int)) stages s (0:Int) redo).length) (Yg (Zf ([]:List TIns) stages s (0:Int)) stages s (0:Int) redo)) ([]:List Int)))):Hold (tawp Qas (0+0) Qg8 (TQ 0 0 Qdj K) (Qt [(.c TI stages),(.c TI s),(.c .bool redo)])) :=
 Hold.of (by kernel_rfl) h
theorem QhK (stages:Int) (s:Int) (redo:Bool) (hp:Qa1 stages s redo):TCon Try.prog 110 [(.c TI stages),(.c TI s),(.c .bool redo)] (ZY (Qh stages s redo)):=by
 refine QE rfl fun hb=>tcg (n:=35) (sg:=QaF.sg) QF (TOk.cons Qe8 (TOk.cons Qgn TOk.nil)) (by kernel_rfl) (by kernel_rfl) (QhT _ stages s redo ?_)
 have hW:Yg (Zf [] stages s 0) stages s 0 redo=want stages s 0 redo:=rfl
 have h7:(want stages s 0 redo).length≤7:=by rw [QcW];exact Qaw _ _ _
 obtain ⟨h1,h2⟩:=hp
 have ha:=Qau stages s 0
 refine ⟨⟨⟨rfl,⟨by omega,by omega⟩,by simp⟩,rfl,⟨by omega,by omega⟩,by show (Qq stages s 0).length≤_;omega⟩,?_⟩
 rw [List.take_length,hW]
 refine YB (want stages s 0 redo) (fun r k=>∀ v:List Int,v.length=k→v++r.map Prod.fst=(Qh stages s redo)→Jr (fun r'=>r'=ZY (Qh stages s redo)) k (want stages s 0 redo) v) ?_ ?_ [] rfl rfl
 ·intro v hv he
  refine Qeb (fun r'=>r'=ZY (Qh stages s redo)) _ _ _ ⟨fun h=>by simp at h,fun _=>R_eq ?_⟩
  rw [List.drop_zero,List.take_length,← he];simp
 ·intro k x r hk hlt hg ih v hv he
  refine Qeb (fun r'=>r'=ZY (Qh stages s redo)) _ _ _ ⟨fun _=>?_,fun h=>by simp at h;omega⟩
  rw [Int.toNat_natCast,Nat.zero_add,hg,sc1 (by omega),Jx,List.take_length]
  exact ⟨⟨⟨by omega,hlt⟩,hlt,room (by omega)⟩,ih _ (Qgy hv) (by rw [← he];simp)⟩
theorem Qfn:QB Try.prog QaF:=QH fun x h=>QhK x.1 x.2.1 x.2.2.1 h
def Q7 (t:Bool):TRes:=zre (zcb t)
def QaN:TRow:=Qz 113 [(.c (.sl Qb))] fun x=>(none,Q7 (QR x.1))
def Ye:List TRow:=[]
def QcP:TCode :=
 (zsq [(.reg [zbi 19 .lss 18 17]),(.cond 19 .skip (.exit 2)),(.block 3 (zsq [(.reg [zia 20 16 18 Qb,zLd 21 20 2,zop 6 (.new 151 (z0s Qb)),zst 6 21 2]),(.reg [zfa 22 4 0,zld 23 22 1,zfa 24 6 0,zld 25 24 1,zbi 26 .eql 23 25,zmv 27 26,.grp 27 true [zfa 28 4 1,zld 29 28 1,zfa 30 6 1,zld 31 30 1,zbi 32 .leq 29 31] 33 32]),(.cond 33 (zsq [(.reg [zmv 2 (zkb false)]),.ret]) .skip)])),(.reg [zbi 34 .add 18 (zki 1),zmv 18 34])])
def Qeg:List (Nat × Md):=[(0,.one .d),(4,.b [.d,.d]),(7,.one .d),(8,.one .d),(9,.one .d),(16,.one .d),(17,.one .d),(18,.one .d)]
def Qcj:TCode :=
 (.reg [zbi 35 .add 9 (zki 1),zmv 9 35])
def Qaq:TCode :=
 (zsq [(.reg [zbi 10 .lss 9 8]),(.cond 10 .skip (.exit 0)),(.block 1 (zsq [(.reg [zmv 11 9,zia 12 7 9 Qb,zLd 13 12 2,zop 4 (.new 151 (z0s Qb)),zmv 3 11,zst 4 13 2]),(.reg [zmv 14 0,zmv 15 3,zop 16 (.slc 14 none (some 15) Qb),zle 17 16,zmv 18 (zki 0)]),(.block 2 (.loop Qeg QcP))])),Qcj])
def Jj:List (Nat × Md):=zdl [0,7,8,9]
def QcL:TCode :=
 (zsq [(.reg [zmv 2 (zkb true)]),.ret])
def Qe6:TCode :=
 (zsq [(.reg [zmv 2 (zkb false)]),(zsq [(.reg [zmv 7 0,zle 8 7,zmv 9 (zki 0)]),(.block 0 (.loop Jj Qaq))]),QcL])
def QdZ:List (ARv × Md):=[(.t 2,.one .d)]
def Qb5:Qf:=TQ 0 0 QdZ K
def QiR:Qf:=Qseq (tawp Ye 0 QcL (Qb5 K)) (Qb5 K)
def Qab:Qf:=Qblk 0 (QiR K)
def Qd9:Qf:=Qseq (fun s'=>Loop Ye 0 Jj Qaq (Qab K) (gc 0 Jj s')) (Qab K)
def QfW:Qf:=Qseq (tawp Ye 0 Qcj (Qd9 K)) (Qd9 K)
def Qfu:Qf:=Qblk 1 (QfW K)
def Qhs:Qf:=Qblk 2 (Qfu K)
def Y6 (l:List TIns) (x:Int) (x1:Int):Prop:=Loop Ye 0 Qeg QcP (Qhs K) ⟨[(0,(zcs Qb l)),(4,(.p 0 0 0)),(7,(zcs Qb l)),(8,(zci (l.length:Int))),(9,(zci x1)),(16,(zcs Qb (List.take (Int.toNat x1-Int.toNat (0:Int)) (List.drop (Int.toNat (0:Int)) l)))),(17,(zci ((List.take (Int.toNat x1-Int.toNat (0:Int)) (List.drop (Int.toNat (0:Int)) l)).length:Int))),(18,(zci x))],[(0,(.box [(zci ((gtd dIns l (Int.toNat x1)).1)),(zci ((gtd dIns l (Int.toNat x1)).2))]))],1⟩
def Jf (l:List TIns) (x1:Int):Prop:=Loop Ye 0 Jj Qaq (Qab K) ⟨[(0,(zcs Qb l)),(7,(zcs Qb l)),(8,(zci (l.length:Int))),(9,(zci x1))],[],0⟩
theorem QdF (l:List TIns) (x:Int) (x1:Int) (h :
 (zif (decide (x<((List.take (Int.toNat x1-Int.toNat (0:Int)) (List.drop (Int.toNat (0:Int)) l)).length:Int))) (((0:Int)≤x∧Int.toNat x<(List.take (Int.toNat x1-Int.toNat (0:Int)) (List.drop (Int.toNat (0:Int)) l)).length)∧(zif ((((gtd dIns l (Int.toNat x1)).1)==((gtd dIns (List.take (Int.toNat x1-Int.toNat (0:Int)) (List.drop (Int.toNat (0:Int)) l)) (Int.toNat x)).1))&&(decide (((gtd dIns l (Int.toNat x1)).2)≤((gtd dIns (List.take (Int.toNat x1-Int.toNat (0:Int)) (List.drop (Int.toNat (0:Int)) l)) (Int.toNat x)).2)))) (K (Q7 false)) (Y6 K l (w64 (x+(1:Int))) x1))) (Jf K l (w64 (x1+(1:Int)))))):Y6 K l x x1 :=
 Loop.of (by kernel_rfl) h
theorem QcM (l:List TIns) (x1:Int) (h :
 (zif (decide (x1<(l.length:Int))) (((0:Int)≤x1∧Int.toNat x1<l.length)∧(((0:Int)≤(0:Int)∧(0:Int)≤x1∧x1≤(l.length:Int))∧(Y6 K l 0 x1))) (K (Q7 true)))):Jf K l x1 :=
 Loop.of (by kernel_rfl) h
theorem Qfp (l:List TIns) (h :
 (Jf K l 0)):Hold (tawp Ye (0+0) Qe6 (TQ 0 0 QdZ K) (Qt [(.c (.sl Qb) l)])) :=
 Hold.of (by kernel_rfl) h
theorem QgB (l:List TIns):TCon Try.prog 113 [(.c (.sl Qb) l)] (Q7 (QR l)):=by
 refine QE rfl fun hb=>tcg (n:=36) (sg:=QaN.sg) QF TOk.nil (by kernel_rfl) (by kernel_rfl) (Qfp _ l ?_)
 have hl_l:l.length≤9223372036854775807:=hb.1.1
 refine YC l.length (fun k=>((List.range k).all fun k=>(List.range k).all fun j=>!(((gtd dIns l k).1==(gtd dIns l j).1)&&decide ((gtd dIns l k).2≤(gtd dIns l j).2)))=true→Jf (fun r'=>r'=Q7 (QR l)) l k) ?_ ?_ rfl
 ·intro hd
  exact QcM (fun r'=>r'=Q7 (QR l)) l _ ⟨fun h=>by simp at h,fun _=>R_eq hd.symm⟩
 ·intro k hk ih hd
  refine QcM (fun r'=>r'=Q7 (QR l)) l _ ⟨fun _=>⟨⟨by omega,by simpa using hk⟩,⟨by omega,by omega,by omega⟩,?_⟩,fun h=>by simp at h;omega⟩
  refine YC k (fun j=>((List.range j).all fun j=>!(((gtd dIns l k).1==(gtd dIns l j).1)&&decide ((gtd dIns l k).2≤(gtd dIns l j).2)))=true→Y6 (fun r'=>r'=Q7 (QR l)) l j k) ?_ ?_ rfl
  ·intro hd2
   refine QdF (fun r'=>r'=Q7 (QR l)) l _ _ ?_
   simp only [Int.toNat_natCast,Int.toNat_zero,Nat.sub_zero,List.drop_zero,List.length_take]
   refine ⟨fun h=>by simp at h;omega,fun _=>?_⟩
   rw [sc1 (by omega)]
   exact ih (by rw [List.range_succ,List.all_append,hd];simp only [List.all_cons,List.all_nil,Bool.and_true,Bool.true_and];exact hd2)
  ·intro j hj ih2 hd2
   refine QdF (fun r'=>r'=Q7 (QR l)) l _ _ ?_
   simp only [Int.toNat_natCast,Int.toNat_zero,Nat.sub_zero,List.drop_zero,List.length_take,Qfy hj]
   refine ⟨fun _=>⟨⟨by omega,by omega⟩,fun h=>R_eq ?_,fun h=>?_⟩,fun h=>by simp at h;omega⟩
   ·symm
    rw [← Bool.not_eq_true]
    unfold QR
    rw [List.all_eq_true]
    intro hA
    have:=List.all_eq_true.1 (hA k (List.mem_range.2 hk)) j (List.mem_range.2 hj)
    rw [h] at this;simp at this
   ·rw [sc1 (by omega)]
    exact ih2 (by rw [List.range_succ,List.all_append,hd2];simp only [List.all_cons,List.all_nil,Bool.and_true,Bool.true_and];rw [h];rfl)
theorem Qgo:QB Try.prog QaN:=QH fun x _=>QgB x.1
def Q1 (t:Bool):TRes:=zre (zcb t)
def J6:TRow:=Qz 25 [(.c (.sl Qb)),(.c TI),(.c TI),(.c TI),(.c .bool)] fun x=>(none,Q1 (Qw x.1 x.2.1 x.2.2.1 x.2.2.2.1 x.2.2.2.2.1))
def ZN:List TRow:=[Qa0,JP,Qa4,QaN]
def Qdb:TCode :=
 (zsq [(.reg [zbi 60 .lss 59 58]),(.cond 60 .skip (.exit 2)),(.block 3 (zsq [(.reg [zia 61 57 59 Qb,zLd 62 61 2,zop 18 (.new 151 (z0s Qb)),zst 18 62 2]),(zsq [(.reg [zfa 63 18 1,zld 64 63 1,zmv 65 14,zbi 66 .neq 64 65]),(.cond 66 (.exit 3) .skip)]),(zsq [(.draw [zmv 67 16,zmv 68 15,zle 69 68,zbi 70 .eql 67 69,zmv 71 70,.grp 71 false [zLd 72 18 2,zmv 73 15,zmv 74 16,zia 75 73 74 Qb,zLd 76 75 2,zop 77 (.cmpa 2 true 72 76)] 78 77] []),(.cond 78 (zsq [(.reg [zmv 10 (zkb false)]),.ret]) .skip)]),(.reg [zmv 79 16,zbi 80 .add 79 (zki 1),zmv 16 80])])),(.reg [zbi 81 .add 59 (zki 1),zmv 59 81])])
def Qc3:List (Nat × Md):=zdl [1,2,3,4,11,12,13,14,15,16,57,58,59]
def Qcp:TCode :=
 (zsq [(zsq [(.reg [zmv 82 16,zmv 83 15,zle 84 83,zbi 85 .lss 82 84]),(.cond 85 (zsq [(.reg [zmv 10 (zkb false)]),.ret]) .skip)]),(.reg [zmv 86 13,zmv 87 16,zbi 88 .add 86 87,zmv 13 88])])
def QcE:TCode :=
 (.reg [zmv 45 14,zbi 46 .add 45 (zki 1),zmv 14 46])
def JM:TCode :=
 (zsq [(zsq [(.reg [zmv 42 14,zmv 43 3,zbi 44 .lss 42 43]),(.cond 44 .skip (.exit 0))]),(.block 1 (zsq [(.reg [zmv 47 1,zmv 48 2,zmv 49 14,zca 50 107 [47,48,49],zmv 51 1,zmv 52 2,zmv 53 14,zmv 54 4,zca 55 108 [51,52,53,54],zop 56 (.app 50 55 151 Qb),zmv 15 56]),(.reg [zmv 16 (zki 0)]),(zsq [(.reg [zmv 57 12,zle 58 57,zmv 59 (zki 0)]),(.block 2 (.loop Qc3 Qdb))]),Qcp])),QcE])
def JG:List (Nat × Md):=zdl [1,2,3,4,11,12,13,14]
def QdE:TCode :=
 (zsq [(.reg [zmv 89 13,zmv 90 11,zbi 91 .eql 89 90,zmv 92 91,.grp 92 true [zmv 93 12,zca 94 113 [93]] 95 94,zmv 10 95]),.ret])
def Qgh:TCode :=
 (zsq [(.reg [zmv 10 (zkb false)]),(.reg [zmv 19 0,zle 20 19,zbi 21 .sub 20 (zki 1),zmv 11 21]),(zsq [(.reg [zmv 22 1,zmv 23 2,zmv 24 3,zca 25 106 [22,23,24],zno 26 25,zmv 27 26,.grp 27 false [zmv 28 11,zbi 29 .lss 28 (zki 0)] 30 29,zmv 31 30,.grp 31 false [zmv 32 0,zmv 33 11,zia 34 32 33 Qb,zLd 35 34 2,zop 36 (.build (z0s Qb) [(0,1,(zki 8)),(1,1,(zki 0))]),zop 37 (.cmpa 2 true 35 36)] 38 37]),(.cond 38 (zsq [(.reg [zmv 10 (zkb false)]),.ret]) .skip)]),(.reg [zmv 39 0,zmv 40 11,zop 41 (.slc 39 none (some 40) Qb),zmv 12 41]),(.reg [zmv 13 (zki 0)]),(zsq [(.reg [zmv 14 (zki 0)]),(.block 0 (.loop JG JM))]),QdE])
def Qd6:List (ARv × Md):=[(.t 10,.one .d)]
def Qb9:Qf:=TQ 0 0 Qd6 K
def Qf2:Qf:=Qseq (tawp ZN 0 QdE (Qb9 K)) (Qb9 K)
def QaD:Qf:=Qblk 0 (Qf2 K)
def Qdk:Qf:=Qseq (fun s'=>Loop ZN 0 JG JM (QaD K) (gc 0 JG s')) (QaD K)
def QfZ:Qf:=Qseq (tawp ZN 0 QcE (Qdk K)) (Qdk K)
def QdJ:Qf:=Qblk 1 (QfZ K)
def QeX:Qf:=Qseq (tawp ZN 0 Qcp (QdJ K)) (QdJ K)
def Qf6:Qf:=Qblk 2 (QeX K)
def Yx (l:List TIns) (stages:Int) (s:Int) (micro:Int) (redo:Bool) (k:Int) (x:Int) (count:Int) (m:Int):Prop:=let z1:=List.take (Int.toNat (w64 ((l.length:Int)-(1:Int)))-Int.toNat (0:Int)) (List.drop (Int.toNat (0:Int)) l)
 let z2:=List.take ((Qs stages s m redo).length) (List.drop 0 (Qs stages s m redo))
 Loop ZN 0 Qc3 Qdb (Qf6 K) ⟨[(1,(zci stages)),(2,(zci s)),(3,(zci micro)),(4,(zcb redo)),(11,(zci (w64 ((l.length:Int)-(1:Int))))),(12,(zcs Qb z1)),(13,(zci count)),(14,(zci m)),(15,(zcs Qb (List.take ((Qq stages s m).length+z2.length) (List.drop 0 ((List.take ((Qq stages s m).length) (Qq stages s m))++z2))))),(16,(zci k)),(57,(zcs Qb z1)),(58,(zci (z1.length:Int))),(59,(zci x))],[],0⟩
def Je (l:List TIns) (stages:Int) (s:Int) (micro:Int) (redo:Bool) (count:Int) (m:Int):Prop:=Loop ZN 0 JG JM (QaD K) ⟨[(1,(zci stages)),(2,(zci s)),(3,(zci micro)),(4,(zcb redo)),(11,(zci (w64 ((l.length:Int)-(1:Int))))),(12,(zcs Qb (List.take (Int.toNat (w64 ((l.length:Int)-(1:Int)))-Int.toNat (0:Int)) (List.drop (Int.toNat (0:Int)) l)))),(13,(zci count)),(14,(zci m))],[],0⟩
theorem Qdn (l:List TIns) (stages:Int) (s:Int) (micro:Int) (redo:Bool) (k:Int) (x:Int) (count:Int) (m:Int) (h :
 let z2:=List.take (Int.toNat (w64 ((l.length:Int)-(1:Int)))-Int.toNat (0:Int)) (List.drop (Int.toNat (0:Int)) l)
 let z3:=List.take ((Qs stages s m redo).length) (List.drop 0 (Qs stages s m redo))
 let z1:=List.take ((Qq stages s m).length+z3.length) (List.drop 0 ((List.take ((Qq stages s m).length) (Qq stages s m))++z3))
 let z4:=gtd dIns z2 (Int.toNat x)
 (zif (decide (x<(z2.length:Int))) (((0:Int)≤x∧Int.toNat x<z2.length)∧(zif ((z4.2) != m) (Yx K l stages s micro redo k (w64 (x+(1:Int))) count m) (((!(k==(z1.length:Int)))=true→((0:Int)≤k∧Int.toNat k<z1.length))∧(zif ((k==(z1.length:Int))||(!decide (([z4.1,z4.2]:List Int)=[(gtd dIns z1 (Int.toNat k)).1,(gtd dIns z1 (Int.toNat k)).2]))) (K (Q1 false)) (Yx K l stages s micro redo (w64 (k+(1:Int))) (w64 (x+(1:Int))) count m))))) (zif (decide (k<(z1.length:Int))) (K (Q1 false)) (Je K l stages s micro redo (w64 (count+k)) (w64 (m+(1:Int))))))):Yx K l stages s micro redo k x count m :=
 Loop.of (by kernel_rfl) h
theorem QdH (l:List TIns) (stages:Int) (s:Int) (micro:Int) (redo:Bool) (count:Int) (m:Int) (h :
 (zif (decide (m<micro)) (((p_st stages s m)∧((Qa5 stages s m redo)∧(((Qq stages s m).length=(Qq stages s m).length∨(Qq stages s m).length+(List.take ((Qs stages s m redo).length) (List.drop 0 (Qs stages s m redo))).length≤(Qq stages s m).length)∧(Qq stages s m).length+(List.take ((Qs stages s m redo).length) (List.drop 0 (Qs stages s m redo))).length≤big)))∧(Yx K l stages s micro redo 0 0 count m)) (K (Q1 ((count==(w64 ((l.length:Int)-(1:Int))))&&(QR (List.take (Int.toNat (w64 ((l.length:Int)-(1:Int)))-Int.toNat (0:Int)) (List.drop (Int.toNat (0:Int)) l)))))))):Je K l stages s micro redo count m :=
 Loop.of (by kernel_rfl) h
theorem Qg5 (l:List TIns) (stages:Int) (s:Int) (micro:Int) (redo:Bool) (h :
 (((!((!(QD stages s micro))||(decide ((w64 ((l.length:Int)-(1:Int)))<(0:Int)))))=true→((0:Int)≤w64 ((l.length:Int)-(1:Int))∧Int.toNat (w64 ((l.length:Int)-(1:Int)))<l.length))∧(zif (((!(QD stages s micro))||(decide ((w64 ((l.length:Int)-(1:Int)))<(0:Int))))||(!decide (([(gtd dIns l (Int.toNat (w64 ((l.length:Int)-(1:Int))))).1,(gtd dIns l (Int.toNat (w64 ((l.length:Int)-(1:Int))))).2]:List Int)=[(8:Int),(0:Int)]))) (K (Q1 false)) (((0:Int)≤(0:Int)∧(0:Int)≤w64 ((l.length:Int)-(1:Int))∧w64 ((l.length:Int)-(1:Int))≤(l.length:Int))∧(Je K l stages s micro redo 0 0))))):Hold (tawp ZN (0+0) Qgh (TQ 0 0 Qd6 K) (Qt [(.c (.sl Qb) l),(.c TI stages),(.c TI s),(.c TI micro),(.c .bool redo)])) :=
 Hold.of (by kernel_rfl) h
theorem Qe2 (l:List TIns) (stages:Int) (s:Int) (micro:Int) (redo:Bool):TCon Try.prog 25 [(.c (.sl Qb) l),(.c TI stages),(.c TI s),(.c TI micro),(.c .bool redo)] (Q1 (Qw l stages s micro redo)):=by
 refine QE rfl fun hb=>tcg (n:=96) (sg:=J6.sg) QF (TOk.cons QfY (TOk.cons Qhh (TOk.cons QiD (TOk.cons Qgo TOk.nil)))) (by kernel_rfl) (by kernel_rfl) (Qg5 _ l stages s micro redo ?_)
 have hl_l:l.length≤9223372036854775807:=hb.1.1
 by_cases hq:QD stages s micro=true
 case neg =>
  rw [show QD stages s micro=false by simpa using hq]
  exact ⟨fun h=>by simp at h,fun _=>R_eq (by unfold Qw;simp [hq]),fun h=>by simp at h⟩
 have hr:=Qb6.1 hq
 by_cases hn:l=[]
 ·subst hn
  have e:w64 ((([]:List TIns).length:Int)-1) = -1:=rfl
  rw [e]
  exact ⟨fun h=>by simp at h,fun _=>R_eq (by unfold Qw;simp),fun h=>by simp at h⟩
 have hn1:1≤l.length:=by cases l with | nil=>exact absurd rfl hn | cons _ _=>simp
 have e:w64 ((l.length:Int)-1)=((l.length-1:Nat):Int):=by rw [QC (by omega) (by omega)];omega
 rw [e]
 simp only [Int.toNat_natCast,Qc8]
 refine ⟨fun _=>⟨by omega,by omega⟩,fun h=>R_eq ?_,fun h=>⟨⟨by omega,by omega,by omega⟩,?_⟩⟩
 ·have hz:¬ gtd dIns l (l.length-1)=(8,0):=by
   intro e2;simp [e2,hq] at h;omega
  unfold Qw;simp [hz]
 have hz:gtd dIns l (l.length-1)=(8,0):=by simp at h;exact h.2
 have hfalse:∀ m:Nat,m<micro.toNat→¬ (l.take (l.length-1)).filter (fun x=>x.2==(m:Int))=want stages s m redo→(Qw l stages s micro redo)=false:=by
  intro m hm hne
  rw [← Bool.not_eq_true]
  unfold Qw
  simp only [Bool.and_eq_true]
  intro ⟨⟨_,h2⟩,_⟩
  exact hne (of_decide_eq_true (List.all_eq_true.1 h2 m (List.mem_range.2 hm)))
 have ho:=Qaw stages s redo
 refine YC micro.toNat (fun k=>((List.range k).all fun m=>decide ((l.take (l.length-1)).filter (fun x=>x.2==(m:Int))=want stages s m redo))=true→Je (fun r'=>r'=Q1 (Qw l stages s micro redo)) l stages s micro redo ((k*(Qh stages s redo).length:Nat):Int) k) ?_ ?_ rfl |> fun h=>by simpa using h
 ·intro hd
  refine QdH (fun r'=>r'=Q1 (Qw l stages s micro redo)) l stages s micro redo _ _ ?_
  rw [e]
  simp only [Int.toNat_natCast,Int.toNat_zero,Nat.sub_zero,List.drop_zero]
  refine ⟨fun h=>by simp at h;omega,fun _=>R_eq ?_⟩
  unfold Qw
  rw [hq,hd,hz]
  simp only [hn1,decide_true,Bool.true_and,Bool.and_true]
  congr 1
  rw [Bool.eq_iff_iff,beq_iff_eq,decide_eq_true_eq]
  exact ⟨fun h=>(Int.ofNat_inj.1 h).symm,fun h=>by rw [h]⟩
 ·intro k hk ih hd
  have h1:=Qau stages s k
  have h2:=QcG stages s k redo
  have hm5:=Nat.mul_le_mul (show k≤5 by omega) ho
  refine QdH (fun r'=>r'=Q1 (Qw l stages s micro redo)) l stages s micro redo _ _ ⟨fun _=>⟨⟨⟨by omega,by omega⟩,⟨by omega,by omega⟩,QgC (by omega)⟩,?_⟩,fun h=>by simp at h;omega⟩
  have hwl:=QcW stages s k redo
  refine YB (l.take (l.length-1)) (fun r i=>∀ kk:Nat,kk≤(want stages s k redo).length→((l.take (l.length-1)).filter (fun x=>x.2==(k:Int))=want stages s k redo↔r.filter (fun x=>x.2==(k:Int))=(want stages s k redo).drop kk)→Yx (fun r'=>r'=Q1 (Qw l stages s micro redo)) l stages s micro redo kk i ((k*(Qh stages s redo).length:Nat):Int) k) ?_ ?_ 0 (by omega) (by rw [List.drop_zero])
  ·intro kk hkk hiff
   refine Qdn (fun r'=>r'=Q1 (Qw l stages s micro redo)) l stages s micro redo _ _ _ _ ?_
   conv=>zeta
   rw [e]
   simp only [Int.toNat_natCast,Int.toNat_zero,Nat.sub_zero,List.drop_zero,List.take_length,Qeo]
   refine ⟨fun h=>by simp at h,fun _=>⟨fun h=>R_eq (hfalse k (by omega) ?_).symm,fun h=>?_⟩⟩
   ·rw [hiff,List.filter_nil]
    intro e2
    have:=congrArg List.length e2
    simp at this h;omega
   ·have hkl:kk=(want stages s k redo).length:=by simp at h;omega
    rw [sc1 (by omega),QC (by omega) (by omega)]
    have:=ih (by
     rw [List.range_succ,List.all_append,hd]
     simp only [List.all_cons,List.all_nil,Bool.and_true,Bool.true_and]
     refine decide_eq_true (hiff.2 ?_)
     rw [hkl,List.drop_length];rfl)
    rw [hkl,hwl]
    rw [Nat.add_mul,Nat.one_mul,Int.natCast_add] at this
    exact this
  ·intro i x r hi hlt hg ih2 kk hkk hiff
   refine Qdn (fun r'=>r'=Q1 (Qw l stages s micro redo)) l stages s micro redo _ _ _ _ ?_
   conv=>zeta
   rw [e]
   simp only [Int.toNat_natCast,Int.toNat_zero,Nat.sub_zero,List.drop_zero,List.take_length,Qeo]
   rw [hg]
   have hll:i<9223372036854775807:=by rw [List.length_take] at hlt;omega
   rw [QeI,sc1 hll]
   refine ⟨fun _=>⟨⟨by omega,hlt⟩,fun h=>?_,fun h=>?_⟩,fun h=>absurd (Int.ofNat_lt.2 hlt) (of_decide_eq_false h)⟩
   ·refine ih2 kk hkk (hiff.trans ?_)
    have:(x.2==(k:Int))=false:=by simpa using h
    rw [List.filter_cons,this];rfl
   ·have hx:(x.2==(k:Int))=true:=by simpa using h
    refine ⟨fun h=>⟨by omega,by simp at h;omega⟩,fun h=>R_eq (hfalse k (by omega) ?_).symm,fun h=>?_⟩
    ·rw [hiff,List.filter_cons,hx,if_pos rfl]
     intro e2
     by_cases hkl:kk<(want stages s k redo).length
     ·rw [Qbn (Z1 hkl dIns)] at e2
      simp only [List.cons.injEq] at e2
      simp [e2.1] at h
      omega
     ·have:=congrArg List.length e2
      simp at this;omega
    ·have hkl:kk<(want stages s k redo).length:=by simp at h;omega
     have hxw:x=gtd dIns (want stages s k redo) kk:=by simp at h;exact h.2
     rw [sc1 (by omega)]
     refine ih2 (kk+1) (by omega) (hiff.trans ?_)
     rw [List.filter_cons,hx,if_pos rfl,Qbn (Z1 hkl dIns),← hxw]
     simp
theorem Qfr:QB Try.prog J6:=QH fun x _=>Qe2 x.1 x.2.1 x.2.2.1 x.2.2.2.1 x.2.2.2.2.1
def Zx (t:Bool):TRes:=zre (zcb t)
def Qbm:TRow:=Qz 23 [(.c (.sl Qb)),(.c TI),(.c TI),(.c TI),(.c .bool)] fun x=>(none,Zx (Qw x.1 x.2.1 x.2.2.1 x.2.2.2.1 x.2.2.2.2.1))
def ZW:List TRow:=[J3,QaF,J2]
def Qd4:TCode :=
 (zsq [(zsq [(.reg [zmv 58 13,zmv 59 3,zbi 60 .lss 58 59]),(.cond 60 .skip (.exit 2))]),(.block 3 (zsq [(.reg [zmv 63 0,zmv 64 11,zmv 65 12,zia 66 64 65 [TI],zld 67 66 1,zmv 68 13,zca 69 111 [63,67,68],zmv 14 69]),(.reg [zmv 70 14,zbi 71 .lss 70 (zki 0),zmv 72 71,.grp 72 false [zmv 73 12,zbi 74 .gtr 73 (zki 0),zmv 75 74,.grp 75 true [zmv 76 0,zmv 77 11,zmv 78 12,zbi 79 .sub 78 (zki 1),zia 80 77 79 [TI],zld 81 80 1,zmv 82 13,zca 83 111 [76,81,82],zmv 84 14,zbi 85 .geq 83 84] 86 85] 87 86,zmv 88 87,.grp 88 false [zmv 89 13,zbi 90 .gtr 89 (zki 0),zmv 91 90,.grp 91 true [zmv 92 0,zmv 93 11,zmv 94 12,zia 95 93 94 [TI],zld 96 95 1,zmv 97 13,zbi 98 .sub 97 (zki 1),zca 99 111 [92,96,98],zmv 100 14,zbi 101 .geq 99 100] 102 101] 103 102]),(.cond 103 (zsq [(.reg [zmv 10 (zkb false)]),.ret]) .skip)])),(.reg [zmv 61 13,zbi 62 .add 61 (zki 1),zmv 13 62])])
def QcD:List (Nat × Md):=zdl [0,3,11,12,13]
def QbD:TCode :=
 (.reg [zmv 56 12,zbi 57 .add 56 (zki 1),zmv 12 57])
def Qaf:TCode :=
 (zsq [(zsq [(.reg [zmv 52 12,zmv 53 11,zle 54 53,zbi 55 .lss 52 54]),(.cond 55 .skip (.exit 0))]),(.block 1 (zsq [(.reg [zmv 13 (zki 0)]),(.block 2 (.loop QcD Qd4))])),QbD])
def Y8:List (Nat × Md):=zdl [0,3,11,12]
def Qdp:TCode :=
 (zsq [(.reg [zmv 10 (zkb true)]),.ret])
def QgV:TCode :=
 (zsq [(.reg [zmv 10 (zkb false)]),(zsq [(.reg [zmv 15 1,zca 16 102 [15,(zki 1),(zki 4)],zno 17 16,zmv 18 17,.grp 18 false [zmv 19 2,zmv 20 1,zbi 21 .sub 20 (zki 1),zca 22 102 [19,(zki 0),21],zno 23 22] 24 23,zmv 25 24,.grp 25 false [zmv 26 3,zca 27 102 [26,(zki 1),(zki 5)],zno 28 27] 29 28]),(.cond 29 (zsq [(.reg [zmv 10 (zkb false)]),.ret]) .skip)]),(.reg [zmv 30 1,zmv 31 2,zmv 32 4,zca 33 110 [30,31,32],zmv 11 33]),(zsq [(.reg [zmv 34 0,zle 35 34,zmv 36 3,zmv 37 11,zle 38 37,zbi 39 .mul 36 38,zbi 40 .add 39 (zki 1),zbi 41 .neq 35 40,zmv 42 41,.grp 42 false [zmv 43 0,zmv 44 0,zle 45 44,zbi 46 .sub 45 (zki 1),zia 47 43 46 Qb,zLd 48 47 2,zop 49 (.build (z0s Qb) [(0,1,(zki 8))]),zop 50 (.cmpa 2 true 48 49)] 51 50]),(.cond 51 (zsq [(.reg [zmv 10 (zkb false)]),.ret]) .skip)]),(zsq [(.reg [zmv 12 (zki 0)]),(.block 0 (.loop Y8 Qaf))]),Qdp])
def Qea:List (ARv × Md):=[(.t 10,.one .d)]
def Qby:Qf:=TQ 0 0 Qea K
def Qic:Qf:=Qseq (tawp ZW 0 Qdp (Qby K)) (Qby K)
def Qaz:Qf:=Qblk 0 (Qic K)
def Qcs:Qf:=Qseq (fun s'=>Loop ZW 0 Y8 Qaf (Qaz K) (gc 0 Y8 s')) (Qaz K)
def QfS:Qf:=Qseq (tawp ZW 0 QbD (Qcs K)) (Qcs K)
def Qix:Qf:=Qblk 1 (QfS K)
def Qh1:Qf:=Qblk 2 (Qix K)
def Jp (l:List TIns) (stages:Int) (s:Int) (micro:Int) (redo:Bool) (m:Int) (k:Int):Prop:=Loop ZW 0 QcD Qd4 (Qh1 K) ⟨[(0,(zcs Qb l)),(3,(zci micro)),(11,(zcs [TI] (Qh stages s redo))),(12,(zci k)),(13,(zci m))],[],0⟩
def YS (l:List TIns) (stages:Int) (s:Int) (micro:Int) (redo:Bool) (k:Int):Prop:=Loop ZW 0 Y8 Qaf (Qaz K) ⟨[(0,(zcs Qb l)),(3,(zci micro)),(11,(zcs [TI] (Qh stages s redo))),(12,(zci k))],[],0⟩
theorem QcT (l:List TIns) (stages:Int) (s:Int) (micro:Int) (redo:Bool) (m:Int) (k:Int) (h :
 let z2:=Qh stages s redo
 let z1:=Ql l (gtd (0:Int) z2 (Int.toNat k)) m
 let z3:=Ql l (gtd (0:Int) z2 (Int.toNat (w64 (k-(1:Int))))) m
 (zif (decide (m<micro)) (((0:Int)≤k∧Int.toNat k<z2.length)∧((((!(decide (z1<(0:Int))))=true→((decide (k>(0:Int)))=true→((0:Int)≤w64 (k-(1:Int))∧Int.toNat (w64 (k-(1:Int)))<z2.length)))∧((!((decide (z1<(0:Int)))||((decide (k>(0:Int)))&&(decide (z3≥z1)))))=true→((decide (m>(0:Int)))=true→((0:Int)≤k∧Int.toNat k<z2.length))))∧(zif (((decide (z1<(0:Int)))||((decide (k>(0:Int)))&&(decide (z3≥z1))))||((decide (m>(0:Int)))&&(decide ((Ql l (gtd (0:Int) z2 (Int.toNat k)) (w64 (m-(1:Int))))≥z1)))) (K (Zx false)) (Jp K l stages s micro redo (w64 (m+(1:Int))) k)))) (YS K l stages s micro redo (w64 (k+(1:Int)))))):Jp K l stages s micro redo m k :=
 Loop.of (by kernel_rfl) h
theorem Qbx (l:List TIns) (stages:Int) (s:Int) (micro:Int) (redo:Bool) (k:Int) (h :
 (zif (decide (k<((Qh stages s redo).length:Int))) (Jp K l stages s micro redo 0 k) (K (Zx true)))):YS K l stages s micro redo k :=
 Loop.of (by kernel_rfl) h
theorem Qh0 (l:List TIns) (stages:Int) (s:Int) (micro:Int) (redo:Bool) (h :
 (zif (((!(m_in stages (1:Int) (4:Int)))||(!(m_in s (0:Int) (w64 (stages-(1:Int))))))||(!(m_in micro (1:Int) (5:Int)))) (K (Zx false)) ((Qa1 stages s redo)∧(((!((l.length:Int) != (w64 ((w64 (micro*((Qh stages s redo).length:Int)))+(1:Int)))))=true→((0:Int)≤w64 ((l.length:Int)-(1:Int))∧Int.toNat (w64 ((l.length:Int)-(1:Int)))<l.length))∧(zif (((l.length:Int) != (w64 ((w64 (micro*((Qh stages s redo).length:Int)))+(1:Int))))||(!decide (([(gtd dIns l (Int.toNat (w64 ((l.length:Int)-(1:Int))))).1,(gtd dIns l (Int.toNat (w64 ((l.length:Int)-(1:Int))))).2]:List Int)=[(8:Int),(0:Int)]))) (K (Zx false)) (YS K l stages s micro redo 0)))))):Hold (tawp ZW (0+0) QgV (TQ 0 0 Qea K) (Qt [(.c (.sl Qb) l),(.c TI stages),(.c TI s),(.c TI micro),(.c .bool redo)])) :=
 Hold.of (by kernel_rfl) h
theorem QfK (l:List TIns) (stages:Int) (s:Int) (micro:Int) (redo:Bool):TCon Try.prog 23 [(.c (.sl Qb) l),(.c TI stages),(.c TI s),(.c TI micro),(.c .bool redo)] (Zx (Qw l stages s micro redo)):=by
 refine QE rfl fun hb=>tcg (n:=104) (sg:=Qbm.sg) QF (TOk.cons QfI (TOk.cons Qfn (TOk.cons QiA TOk.nil))) (by kernel_rfl) (by kernel_rfl) (Qh0 _ l stages s micro redo ?_)
 have hl_l:l.length≤9223372036854775807:=hb.1.1
 rw [Qgf]
 by_cases hq:QD stages s micro=true
 case neg =>
  rw [show QD stages s micro=false by simpa using hq]
  exact ⟨fun _=>R_eq (by unfold Qw;simp [hq]),fun h=>by simp at h⟩
 have hr:=Qb6.1 hq
 obtain ⟨mi,rfl⟩:∃ mi:Nat,micro=(mi:Int):=⟨micro.toNat,by omega⟩
 have ho:=Qaw stages s redo
 have hmul:mi*(Qh stages s redo).length≤35:=by have:=Nat.mul_le_mul (show mi≤5 by omega) ho;omega
 rw [hq]
 refine ⟨fun h=>by simp at h,fun _=>⟨⟨by omega,by omega⟩,?_⟩⟩
 have e1:w64 (w64 ((mi:Int)*((Qh stages s redo).length:Int))+1)=((mi*(Qh stages s redo).length+1:Nat):Int):=by
  rw [← Int.natCast_mul,QC (x:=((mi*(Qh stages s redo).length:Nat):Int)) (by omega) (by omega),QC (by omega) (by omega)];omega
 rw [e1,← Qhy l stages s mi redo]
 by_cases hl:l.length=mi*(Qh stages s redo).length+1
 case neg =>
  have c1:((l.length:Int) != ((mi*(Qh stages s redo).length+1:Nat):Int))=true:=bne_iff_ne.2 (fun e=>hl (Int.ofNat_inj.1 e))
  rw [c1]
  exact ⟨fun h=>by simp at h,fun _=>R_eq (by unfold Zm;simp [hl]),fun h=>by simp at h⟩
 have c1:((l.length:Int) != ((mi*(Qh stages s redo).length+1:Nat):Int))=false:=by rw [hl];simp
 have e:w64 ((l.length:Int)-1)=((l.length-1:Nat):Int):=by rw [QC (by omega) (by omega)];omega
 rw [c1,e]
 simp only [Int.toNat_natCast,Qc8]
 refine ⟨fun _=>⟨by omega,by omega⟩,fun h=>R_eq ?_,fun h=>?_⟩
 ·have hz:¬ gtd dIns l (l.length-1)=(8,0):=by intro e2;simp [e2] at h
  unfold Zm;simp [hz]
 have hz:gtd dIns l (l.length-1)=(8,0):=by simpa using h
 have hfalse:∀ k m:Nat,k<(Qh stages s redo).length→m<mi→Zr l (Qh stages s redo) k m=false→Zm l stages s mi redo=false:=by
  intro k m hk hm hne
  rw [← Bool.not_eq_true]
  unfold Zm
  simp only [Bool.and_eq_true]
  intro ⟨_,h2⟩
  have:=List.all_eq_true.1 (List.all_eq_true.1 h2 k (List.mem_range.2 hk)) m (List.mem_range.2 (by simpa using hm))
  rw [hne] at this;simp at this
 refine YC (Qh stages s redo).length (fun k=>((List.range k).all fun k=>(List.range mi).all fun m=>Zr l (Qh stages s redo) k m)=true→YS (fun r'=>r'=Zx (Zm l stages s mi redo)) l stages s (mi:Int) redo k) ?_ ?_ rfl
 ·intro hd
  refine Qbx _ l stages s _ redo _ ⟨fun h=>by simp at h,fun _=>R_eq ?_⟩
  unfold Zm
  rw [hq,hz,Int.toNat_natCast,hd]
  simp [hl]
 ·intro k hk ih hd
  refine Qbx _ l stages s _ redo _ ⟨fun _=>?_,fun h=>by simp at h;omega⟩
  refine YC mi (fun m=>((List.range m).all fun m=>Zr l (Qh stages s redo) k m)=true→Jp (fun r'=>r'=Zx (Zm l stages s mi redo)) l stages s (mi:Int) redo m k) ?_ ?_ rfl
  ·intro hd2
   refine QcT _ l stages s _ redo _ _ ⟨fun h=>by simp at h,fun _=>?_⟩
   rw [sc1 (by omega)]
   exact ih (by rw [List.range_succ,List.all_append,hd];simp [hd2])
  ·intro m hm ih2 hd2
   refine QcT _ l stages s _ redo _ _ ⟨fun _=>?_,fun h=>by simp at h;omega⟩
   have hk0:Int.toNat (k:Int)=k:=Int.toNat_natCast k
   rw [hk0,QeJ l _ (by omega) (by omega)]
   refine ⟨⟨by omega,hk⟩,⟨fun _ h=>?_,fun _ _=>⟨by omega,hk⟩⟩,fun h=>R_eq (hfalse k m hk hm (by simpa using h)).symm,fun h=>?_⟩
   ·simp at h;rw [QC (by omega) (by omega)];omega
   ·rw [sc1 (by omega)]
    exact ih2 (by rw [List.range_succ,List.all_append,hd2];simpa using h)
theorem Qg3:QB Try.prog Qbm:=QH fun x _=>QfK x.1 x.2.1 x.2.2.1 x.2.2.2.1 x.2.2.2.2.1
end
end Go.Proofs.Ytephkbajoofeoaa.Am

