/- -/
import Derived.Test.YtjbdljkhbglnhaaGreatZIP7
import Derived.Test.YtjbdljkhbglnhaaGreatZIPJ
import Derived.Test.YtjbdljkhbglnhaaGreatZIP5
import Derived.Test.YtjbdljkhbglnhaaGreatZIPL
import Derived.Test.YtjbdljkhbglnhaaGreatZIPP
import Derived.Test.YtjbdljkhbglnhaaGreatZIPO
import Derived.Test.YtjbdljkhbglnhaaGreatZIPA
import Derived.Test.YtjbdljkhbglnhaaGreatZIGD
namespace Go.Proofs.YtjbdljkhbglnhaaGreat.Am
open Go Go.RowKit Go.Proofs.YtjbdljkhbglnhaaGreat
set_option linter.all false
set_option maxHeartbeats 2000000
noncomputable section
variable (K:TRes→Prop)
def Qao (t:Qe):TRes:=⟨(.a [(zcs QK t.1),(.r Qg 0 0 ((t.2.1).length)),(.r Qh 1 0 ((t.2.2.1).length)),(zcs Qh t.2.2.2)]),[(.sl 63 Qg true t.2.1),(.sl 97 Qh true t.2.2.1)],[],true,[]⟩
def QoA:TRow:=Qk 28 [(.a ZW),(.c (.sl QK))] fun x=>(none,Qao (Ja x.1 x.2.1))
def QfD:List TRow:=[Qmr,Qoy,Qer,Qpd,Qon]
def QqT:TCode :=
 (zsq [(zsq [(.reg [zmv 19 7,zmv 20 1,zle 21 20,zbi 22 .lss 19 21]),(.cond 22 .skip (.exit 0))]),(.block 1 (.draw [zfa 25 5 0,zld 26 25 1,zop 27 (.bsl 3 [TI] []),zmv 28 1,zmv 29 7,zia 30 28 29 QK,zfa 31 30 0,zld 32 31 1,zop 33 (.app 27 32 3 [TI]),zop 34 (.bsl 3 [TI] []),zmv 35 1,zmv 36 7,zia 37 35 36 QK,zfa 38 37 1,zld 39 38 1,zop 40 (.app 34 39 3 [TI]),zop 41 (.build (z0s QK) [(0,1,33),(1,1,40)]),zop 42 (.bsl 108 QK [41]),zop 43 (.app 26 42 108 QK),zfa 44 5 0,zst 44 43 1] [(0,2),(1,2),(2,5),(2,6),(2,7),(0,8),(1,8),(0,9),(1,9),(2,9),(5,9),(6,9),(7,9),(8,9),(2,12),(8,12),(9,12),(2,13),(8,13),(9,13),(2,14),(8,14),(9,14),(0,15),(1,15),(0,17),(1,17)])),(.reg [zmv 23 7,zbi 24 .add 23 (zki 1),zmv 7 24])])
def QsF:List (Nat × Md):=[(1,.one .d),(2,.b (zds 6)),(4,.b (zds 4)),(5,.b [.o 108,.o 63,.o 97,.o 97]),(6,.one .d),(7,.one .d)]
def Qz9:TCode :=
 (zsq [(zsq [(.reg [zmv 45 8,zmv 46 6,zbi 47 .lss 45 46]),(.cond 47 .skip (.exit 2))]),(.block 3 (zsq [(.reg [zfa 51 2 0,zLd 52 51 1,zfa 53 2 1,zld 54 53 1,zmv 55 8,zca 56 93 [52,54,55],zmv 50 56,zex 57 50 0,zex 58 50 1,zmv 9 57,zmv 10 58]),(.draw [zfa 59 5 1,zld 60 59 1,zfa 61 2 0,zfa 62 61 0,zld 63 62 1,zmv 64 9,zmv 65 10,zop 66 (.slc 63 (some 64) (some 65) ctOp),zfa 67 2 2,zld 68 67 1,zmv 69 6,zmv 70 8,zmv 71 1,zle 72 71,zfa 73 2 3,zld 74 73 1,zmv 75 8,zia 76 74 75 [.bool],zld 77 76 1,zca 78 82 [68,69,70,72,77],zmv 79 8,zmv 80 6,zbi 81 .sub 80 (zki 1),zbi 82 .eql 79 81,zfa 83 2 3,zld 84 83 1,zmv 85 8,zia 86 84 85 [.bool],zld 87 86 1,zca 88 94 [66,78,82,87],zop 89 (.bsl 63 Qg [88]),zop 90 (.app 60 89 63 Qg),zfa 91 5 1,zst 91 90 1] [(0,19),(1,19),(2,19),(3,19),(4,19),(7,19),(19,24),(19,25),(19,27),(19,28),(0,29),(1,29),(0,30),(1,30)]),(.reg [zmv 92 8,zbi 93 .gtr 92 (zki 0)]),(.cond 93 (zsq [(.draw [zfa 94 5 2,zld 95 94 1,zfa 96 2 4,zld 97 96 1,zmv 98 8,zbi 99 .sub 98 (zki 1),zia 100 97 99 [TI],zld 101 100 1,zop 102 (.build (z0s Qh) [(0,1,101)]),zop 103 (.bsl 97 Qh [102]),zop 104 (.app 95 103 97 Qh),zfa 105 5 2,zst 105 104 1] [(0,9),(1,9)]),(.draw [zfa 106 5 3,zld 107 106 1,zfa 108 2 4,zld 109 108 1,zmv 110 8,zbi 111 .sub 110 (zki 1),zia 112 109 111 [TI],zld 113 112 1,zop 114 (.build (z0s Qh) [(0,1,113)]),zop 115 (.bsl 97 Qh [114]),zop 116 (.app 107 115 97 Qh),zfa 117 5 3,zst 117 116 1] [(0,9),(1,9)])]) .skip)])),(.reg [zmv 48 8,zbi 49 .add 48 (zki 1),zmv 8 49])])
def Qyr:List (Nat × Md):=[(1,.one .d),(2,.b (zds 6)),(4,.b (zds 4)),(5,.b [.f,.f,.f,.f]),(6,.one .d),(8,.one .d)]
def QsA:TCode :=
 (zsq [(.reg [zLd 118 5 4,zst 4 118 4]),.ret])
def QtK:TCode :=
 (zsq [(zsq [(.reg [zmv 8 (zki 0)]),(.block 2 (.loop Qyr Qz9))]),QsA])
def QOz:TCode :=
 (zsq [(.reg [zop 2 (.box 30 0 6),zop 4 (.new 37 (z0s QE))]),(.reg [zop 11 (.build (z0s QE) []),zop 5 (.new 37 (z0s QE)),zst 5 11 4]),(zsq [(.reg [zLd 12 2 6,zmv 13 1,zca 14 16 [12,13],zbi 15 .neq 14 (zki 0)]),(.cond 15 (zsq [(.reg [zLd 16 5 4,zst 4 16 4]),.ret]) .skip)]),(.reg [zLd 17 2 6,zca 18 81 [17],zmv 6 18]),(zsq [(.reg [zmv 7 (zki 0)]),(.block 0 (.loop QsF QqT))]),QtK])
def Qvr:List (ARv × Md):=[(.l 4 4 true,.b [.d,.o 63,.o 97,.d])]
def QjL:Qb:=TQ 0 0 Qvr K
def QER:Qb:=Qseq (tawp QfD 0 QsA (QjL K)) (QjL K)
def QVK:Qb:=Qblk 2 (QER K)
def Qeo (c:QM) (b:List Qy) (s:Int) (p01:List Qy) (p1:List Qc) (p2:List Qd) (p3:List Qd):Prop:=Loop QfD 0 Qyr Qz9 (QVK K) ⟨[(1,(zcs QK b)),(2,(.p 0 0 0)),(4,(.p 1 0 0)),(5,(.p 6 0 0)),(6,(zci (QZ c))),(8,(zci s))],[(0,(.box (Tup.cells ZW c))),(1,(.box (Tup.cells QE ([],[],[],[])))),(2,(.sl 108 QK true p01)),(3,(.sl 63 Qg true p1)),(4,(.sl 97 Qh true p2)),(5,(.sl 97 Qh true p3)),(6,(.box [(.r QK 2 0 p01.length),(.r Qg 3 0 p1.length),(.r Qh 4 0 p2.length),(.r Qh 5 0 p3.length)]))],7⟩
def QLZ:Qb:=Qseq (tawp QfD 0 QtK (QjL K)) (QjL K)
def QJb:Qb:=Qblk 0 (QLZ K)
def Qhp (c:QM) (b:List Qy) (i:Int) (p0:List Qy):Prop:=Loop QfD 0 QsF QqT (QJb K) ⟨[(1,(zcs QK b)),(2,(.p 0 0 0)),(4,(.p 1 0 0)),(5,(.p 6 0 0)),(6,(zci (QZ c))),(7,(zci i))],[(0,(.box (Tup.cells ZW c))),(1,(.box (Tup.cells QE ([],[],[],[])))),(2,(.sl 108 QK true p0)),(3,(.sl 63 Qg true ([]:List Qc))),(4,(.sl 97 Qh true ([]:List Qd))),(5,(.sl 97 Qh true ([]:List Qd))),(6,(.box [(.r QK 2 0 p0.length),(.r Qg 3 0 0),(.r Qh 4 0 0),(.r Qh 5 0 0)]))],7⟩
theorem Qxu (c:QM) (b:List Qy) (s:Int) (p01:List Qy) (p1:List Qc) (p2:List Qd) (p3:List Qd) (h :
 let z3:=QV c.1 c.2.1 s
 let z4:=gtd (false:Bool) c.2.2.2.1 (Int.toNat s)
 let z2:=YA c.2.2.1 (QZ c) s (b.length:Int) z4
 let z5:=List.take (Int.toNat (z3.2)-Int.toNat (z3.1)) (List.drop (Int.toNat (z3.1)) c.1)
 let z1:=QaG z5 (List.take (z2.length) (List.drop 0 z2)) (s==(w64 ((QZ c)-(1:Int)))) z4
 let z6:=gtd (0:Int) c.2.2.2.2.1 (Int.toNat (w64 (s-(1:Int))))
 let z7:=List.take p1.length p1
 let z8:=List.take p2.length p2
 (zif (decide (s<(QZ c))) ((((0:Int)≤z3.1∧z3.1≤z3.2∧z3.2≤((c.1).length:Int))∧(((0:Int)≤s∧Int.toNat s<(c.2.2.2.1).length)∧(((0:Int)≤s∧Int.toNat s<(c.2.2.2.1).length)∧((Qo6 z5 (List.take (z2.length) (List.drop 0 z2)) (s==(w64 ((QZ c)-(1:Int)))) z4)∧((p1.length=p1.length∨p1.length+1≤p1.length)∧p1.length+1≤big)))))∧(zif (decide (s>(0:Int))) ((((0:Int)≤w64 (s-(1:Int))∧Int.toNat (w64 (s-(1:Int)))<(c.2.2.2.2.1).length)∧((p2.length=p2.length∨p2.length+1≤p2.length)∧p2.length+1≤big))∧((((0:Int)≤w64 (s-(1:Int))∧Int.toNat (w64 (s-(1:Int)))<(c.2.2.2.2.1).length)∧((p3.length=p3.length∨p3.length+1≤p3.length)∧p3.length+1≤big))∧(Qeo K c b (w64 (s+(1:Int))) (List.take p01.length p01) (List.take (p1.length+1) (z7++([z1]))) (List.take (p2.length+1) (z8++([(z6,[])]))) (List.take (p3.length+1) ((List.take p3.length p3)++([(z6,[])])))))) (Qeo K c b (w64 (s+(1:Int))) (List.take p01.length p01) (List.take (p1.length+1) (z7++([z1]))) z8 (List.take p3.length p3)))) (K (Qao ((List.take p01.length (List.drop 0 p01)),z7,z8,(List.take p3.length (List.drop 0 p3))))))):Qeo K c b s p01 p1 p2 p3 :=
 Loop.of (by kernel_rfl) h
theorem QwU (c:QM) (b:List Qy) (i:Int) (p0:List Qy) (h :
 (zif (decide (i<(b.length:Int))) ((((0:Int)≤i∧Int.toNat i<b.length)∧(((0=0∨0+((gtd QX b (Int.toNat i)).1).length≤0)∧0+((gtd QX b (Int.toNat i)).1).length≤big)∧(((0:Int)≤i∧Int.toNat i<b.length)∧(((0=0∨0+((gtd QX b (Int.toNat i)).2).length≤0)∧0+((gtd QX b (Int.toNat i)).2).length≤big)∧((p0.length=p0.length∨p0.length+1≤p0.length)∧p0.length+1≤big)))))∧(Qhp K c b (w64 (i+(1:Int))) (List.take (p0.length+1) ((List.take p0.length p0)++([((List.take (0+((gtd QX b (Int.toNat i)).1).length) (List.drop 0 ((gtd QX b (Int.toNat i)).1))),(List.take (0+((gtd QX b (Int.toNat i)).2).length) (List.drop 0 ((gtd QX b (Int.toNat i)).2))))]))))) (Qeo K c b 0 (List.take p0.length p0) ([]:List Qc) ([]:List Qd) ([]:List Qd)))):Qhp K c b i p0 :=
 Loop.of (by kernel_rfl) h
theorem QRZ (c:QM) (b:List Qy) (h :
 (zif ((Yd c b) != (0:Int)) (K (Qao ([],([]:List Qc),([]:List Qd),[]))) (Qhp K c b 0 ([]:List Qy)))):Hold (tawp QfD (0+0) QOz (TQ 0 0 Qvr K) (Qi [(.a (Tup.cells ZW c)),(.c (.sl QK) b)])) :=
 Hold.of (by kernel_rfl) h
theorem QWg (c:QM) (b:List Qy):TCon Tryz.prog 28 [(.a (Tup.cells ZW c)),(.c (.sl QK) b)] (Qao (Ja c b)):=by
 refine Qo rfl fun hb=>tcg (n:=119) (sg:=QoA.sg) Qm (TOk.cons QX1 (TOk.cons QQ6 (TOk.cons Qgx (TOk.cons QQH (TOk.cons QTV TOk.nil))))) (by kernel_rfl) (by kernel_rfl) (QRZ _ c b ?_)
 have hl_c_0:(c.1).length≤9223372036854775807:=hb.1.1.1
 have hl_c_1:(c.2.1).length≤9223372036854775807:=hb.1.2.1.1
 have hl_c_3:(c.2.2.2.1).length≤9223372036854775807:=hb.1.2.2.2.1.1
 have hl_c_4:(c.2.2.2.2.1).length≤9223372036854775807:=hb.1.2.2.2.2.1.1
 have hl_c_5:(c.2.2.2.2.2).length≤9223372036854775807:=hb.1.2.2.2.2.2.1.1
 have hl_b:b.length≤9223372036854775807:=hb.2.1.1
 refine ⟨fun h=>R_eq ?_,fun h=>?_⟩
 ·unfold Ja;rw [if_neg (by simpa using h)]
 have h0:Yd c b=0:=by simpa using h
 have A:=QnU h0
 have hn:=QmU A
 have hM:(Ja c b)=(b,QaU c (QZ c) b.length (QZ c).toNat,(JK c).map fun n=>(n,[]),(JK c).map fun n=>(n,[])):=by unfold Ja;rw [if_pos h0]
 have h5:=A.stages
 have h6:nSt c=(Zv c).length+1:=rfl
 have h7:c.2.2.2.1.length=(Zv c).length+1:=A.redo
 have h8:c.2.2.2.2.1.length=nSt c-1:=QhO A
 have hbs:=QBR A.batch
 have hbl:=YW b
 have hms:=QrM A.model
 have k4:Qeo (fun r'=>r'=Qao (Ja c b)) c b ((0:Nat):Int) b (QaU c (QZ c) b.length 0) ((c.2.2.2.2.1.take (0-1)).map fun n=>((n,[]):Qd)) ((c.2.2.2.2.1.take (0-1)).map fun n=>((n,[]):Qd)):=by
  refine JH (nSt c) (fun k=>Qeo (fun r'=>r'=Qao (Ja c b)) c b (k:Int) b (QaU c (QZ c) b.length k) ((c.2.2.2.2.1.take (k-1)).map fun n=>((n,[]):Qd)) ((c.2.2.2.2.1.take (k-1)).map fun n=>((n,[]):Qd))) ?_ ?_
  ·refine Qxu (fun r'=>r'=Qao (Ja c b)) c b _ _ _ _ _ ⟨fun h=>by rw [hn] at h;simp at h,fun _=>R_eq ?_⟩
   simp only [List.drop_zero,List.take_length]
   rw [hM,List.take_of_length_le (by omega),hn,Int.toNat_natCast]
  ·intro k hk ih
   refine Qxu (fun r'=>r'=Qao (Ja c b)) c b _ _ _ _ _ ⟨fun _=>?_,fun h=>by rw [hn] at h;simp at h;omega⟩
   have hr:=Qfv c.1 c.2.1 (k:Int)
   have hpl:=Qv7 c.2.2.1 (QZ c) k b.length (gtd false c.2.2.2.1 k)
   have hss:=Ql0 c (QZ c) b.length k
   have hsl:=YW (QaU c (QZ c) b.length k)
   have hql:((c.2.2.2.2.1.take (k-1)).map fun n=>((n,[]):Qd)).length≤4:=by simp;omega
   have e:((k:Int)==w64 (QZ c-1))=decide ((k:Int)=QZ c-1):=by
    rw [Qp (by omega) (by omega)];rfl
   rw [e,Int.toNat_natCast,Zc,sc1 (by omega)]
   simp only [List.drop_zero,List.take_length]
   refine ⟨⟨⟨hr.1,hr.2.1,hr.2.2.1⟩,⟨by omega,by omega⟩,⟨by omega,by omega⟩,⟨?_,by omega⟩,(by first | exact room (by omega) | (simp [Q9];omega))⟩,fun hk0=>?_,fun hk0=>?_⟩
   ·refine Nat.le_trans (Nat.le_trans (Qh0 _ _) (QxZ _ _)) ?_
    exact Nat.le_trans hms (by omega)
   ·simp at hk0
    have e2:w64 ((k:Int)-1)=((k-1:Nat):Int):=by rw [Qp (by omega) (by omega)];omega
    have e3:(c.2.2.2.2.1.take (k+1-1)).map (fun n=>((n,[]):Qd))=(c.2.2.2.2.1.take (k-1)).map (fun n=>((n,[]):Qd))++[(gtd 0 c.2.2.2.2.1 (k-1),[])]:=by
     rw [show k+1-1=(k-1)+1 by omega,List.take_add_one,YZ (show k-1<c.2.2.2.2.1.length by omega) 0]
     simp
    rw [e3] at ih
    rw [e2,Int.toNat_natCast]
    refine ⟨⟨⟨by omega,by omega⟩,by simp [Q9];omega⟩,⟨⟨by omega,by omega⟩,by simp [Q9];omega⟩,?_⟩
    have e4:∀ x:Qd,List.take (((c.2.2.2.2.1.take (k-1)).map fun n=>((n,[]):Qd)).length+1) (((c.2.2.2.2.1.take (k-1)).map fun n=>((n,[]):Qd))++[x])=((c.2.2.2.2.1.take (k-1)).map fun n=>((n,[]):Qd))++[x]:=fun x=>List.take_of_length_le (by simp)
    rw [e4]
    exact ih
   ·have:k=0:=by simpa using hk0
    subst this
    exact ih
 refine Zj b (fun r k=>∀ v:List Qy,v.length=k→v++r=b→Qhp (fun r'=>r'=Qao (Ja c b)) c b (k:Int) v) ?_ ?_ [] rfl rfl
 ·intro v hv he
  rw [List.append_nil] at he
  refine QwU (fun r'=>r'=Qao (Ja c b)) c b _ _ ⟨fun h=>by simp at h,fun _=>?_⟩
  rw [List.take_length,he]
  exact k4
 ·intro k x r hk hlt hg ih v hv he
  have hx:=QeM hk
  simp only [ZO] at hx
  have h1:=ZN x.1
  have h2:=ZN x.2
  refine QwU (fun r'=>r'=Qao (Ja c b)) c b _ _ ⟨fun _=>?_,fun h=>by simp at h;omega⟩
  rw [Int.toNat_natCast,hg,sc1 (by omega),Zc,QbX,QbX]
  exact ⟨⟨⟨by omega,hlt⟩,⟨.inl rfl,by rw [Q9];omega⟩,⟨by omega,hlt⟩,⟨.inl rfl,by rw [Q9];omega⟩,(by first | exact room (by omega) | (simp [Q9];omega))⟩,ih _ (by simp;omega) (by rw [← he];simp)⟩
theorem QVV:Ql Tryz.prog QoA:=Qn fun x _=>QWg x.1 x.2.1
def Jq (t:Qe):TRes:=⟨(.a [(zcs QK t.1),(.r Qg 0 0 ((t.2.1).length)),(.r Qh 1 0 ((t.2.2.1).length)),(.r Qh 2 0 ((t.2.2.2).length))]),[(.sl 63 Qg true t.2.1),(.sl 97 Qh true t.2.2.1),(.sl 97 Qh true t.2.2.2)],[],true,[]⟩
def Qhu:TRow:=Qk 79 [(.a QE)] fun x=>(some (Qx (α:=Qe) x.1),Jq (id (α:=Qe) x.1))
def Qco:List TRow:=[QmG,QdV,Qfn]
def Qvc:TCode :=
 (zsq [(.reg [zbi 18 .lss 17 16]),(.cond 18 .skip (.exit 0)),(.block 1 (zsq [(.reg [zia 19 15 17 Qg,zLd 20 19 14,zop 5 (.new 63 (z0s Qg)),zst 5 20 14]),(.draw [zfa 21 3 1,zld 22 21 1,zLd 23 5 14,zca 24 111 [23],zop 25 (.bsl 63 Qg [24]),zop 26 (.app 22 25 63 Qg),zfa 27 3 1,zst 27 26 1] [(0,3),(1,3),(0,4),(1,4)])])),(.reg [zbi 28 .add 17 (zki 1),zmv 17 28])])
def Qwx:List (Nat × Md):=[(1,.b (zds 4)),(2,.b (zds 4)),(3,.b [.d,.o 63,.o 97,.o 97]),(15,.one .d),(16,.one .d),(17,.one .d)]
def Qt8:TCode :=
 (zsq [(.reg [zbi 33 .lss 32 31]),(.cond 33 .skip (.exit 2)),(.block 3 (zsq [(.reg [zia 34 30 32 Qh,zLd 35 34 2,zop 7 (.new 97 (z0s Qh)),zst 7 35 2]),(.draw [zfa 36 3 2,zld 37 36 1,zLd 38 7 2,zca 39 157 [38],zop 40 (.bsl 97 Qh [39]),zop 41 (.app 37 40 97 Qh),zfa 42 3 2,zst 42 41 1] [(0,3),(1,3),(0,4),(1,4)])])),(.reg [zbi 43 .add 32 (zki 1),zmv 32 43])])
def QzY:List (Nat × Md):=[(1,.b (zds 4)),(2,.b (zds 4)),(3,.b [.d,.f,.f,.f]),(30,.one .d),(31,.one .d),(32,.one .d)]
def Qvl:TCode :=
 (zsq [(.reg [zbi 48 .lss 47 46]),(.cond 48 .skip (.exit 4)),(.block 5 (zsq [(.reg [zia 49 45 47 Qh,zLd 50 49 2,zop 9 (.new 97 (z0s Qh)),zst 9 50 2]),(.draw [zfa 51 3 3,zld 52 51 1,zLd 53 9 2,zca 54 157 [53],zop 55 (.bsl 97 Qh [54]),zop 56 (.app 52 55 97 Qh),zfa 57 3 3,zst 57 56 1] [(0,3),(1,3),(0,4),(1,4)])])),(.reg [zbi 58 .add 47 (zki 1),zmv 47 58])])
def Qxc:List (Nat × Md):=[(2,.b (zds 4)),(3,.b [.d,.f,.f,.f]),(45,.one .d),(46,.one .d),(47,.one .d)]
def QAY:TCode :=
 (zsq [(.reg [zLd 59 3 4,zst 2 59 4]),.ret])
def QDf:TCode :=
 (zsq [(zsq [(.reg [zfa 44 1 3,zld 45 44 1,zle 46 45,zmv 47 (zki 0)]),(.block 4 (.loop Qxc Qvl))]),QAY])
def Qw3:TCode :=
 (zsq [(zsq [(.reg [zfa 29 1 2,zld 30 29 1,zle 31 30,zmv 32 (zki 0)]),(.block 2 (.loop QzY Qt8))]),QDf])
def QOI:TCode :=
 (zsq [(.reg [zop 1 (.box 37 0 4),zop 2 (.new 37 (z0s QE))]),(.reg [zfa 10 1 0,zld 11 10 1,zca 12 70 [11],zop 13 (.build (z0s QE) [(0,1,12)]),zop 3 (.new 37 (z0s QE)),zst 3 13 4]),(zsq [(.reg [zfa 14 1 1,zld 15 14 1,zle 16 15,zmv 17 (zki 0)]),(.block 0 (.loop Qwx Qvc))]),Qw3])
def QAO:List (ARv × Md):=[(.l 2 4 true,.b [.d,.o 63,.o 97,.o 97])]
def QdD:Qb:=TQ 0 0 QAO K
def QTC:Qb:=Qseq (tawp Qco 0 QAY (QdD K)) (QdD K)
def QPT:Qb:=Qblk 4 (QTC K)
def Qfe (p:Qe) (x2:Int) (q12:List Qc) (q21:List Qd) (q3:List Qd):Prop:=Loop Qco 0 Qxc Qvl (QPT K) ⟨[(2,(.p 0 0 0)),(3,(.p 4 0 0)),(45,(zcs Qh p.2.2.2)),(46,(zci ((p.2.2.2).length:Int))),(47,(zci x2))],[(0,(.box (Tup.cells QE ([],[],[],[])))),(1,(.sl 63 Qg true q12)),(2,(.sl 97 Qh true q21)),(3,(.sl 97 Qh true q3)),(4,(.box [(zcs QK (id (α:=List Qy) p.1)),(.r Qg 1 0 q12.length),(.r Qh 2 0 q21.length),(.r Qh 3 0 q3.length)]))],5⟩
def QWW:Qb:=Qseq (tawp Qco 0 QDf (QdD K)) (QdD K)
def QVz:Qb:=Qblk 2 (QWW K)
def Qgi (p:Qe) (x1:Int) (q11:List Qc) (q2:List Qd):Prop:=Loop Qco 0 QzY Qt8 (QVz K) ⟨[(1,(.p 0 0 0)),(2,(.p 1 0 0)),(3,(.p 5 0 0)),(30,(zcs Qh p.2.2.1)),(31,(zci ((p.2.2.1).length:Int))),(32,(zci x1))],[(0,(.box (Tup.cells QE p))),(1,(.box (Tup.cells QE ([],[],[],[])))),(2,(.sl 63 Qg true q11)),(3,(.sl 97 Qh true q2)),(4,(.sl 97 Qh true ([]:List Qd))),(5,(.box [(zcs QK (id (α:=List Qy) p.1)),(.r Qg 2 0 q11.length),(.r Qh 3 0 q2.length),(.r Qh 4 0 0)]))],6⟩
def QOj:Qb:=Qseq (tawp Qco 0 Qw3 (QdD K)) (QdD K)
def QHD:Qb:=Qblk 0 (QOj K)
def Qho (p:Qe) (x:Int) (q1:List Qc):Prop:=Loop Qco 0 Qwx Qvc (QHD K) ⟨[(1,(.p 0 0 0)),(2,(.p 1 0 0)),(3,(.p 5 0 0)),(15,(zcs Qg p.2.1)),(16,(zci ((p.2.1).length:Int))),(17,(zci x))],[(0,(.box (Tup.cells QE p))),(1,(.box (Tup.cells QE ([],[],[],[])))),(2,(.sl 63 Qg true q1)),(3,(.sl 97 Qh true ([]:List Qd))),(4,(.sl 97 Qh true ([]:List Qd))),(5,(.box [(zcs QK (id (α:=List Qy) p.1)),(.r Qg 2 0 q1.length),(.r Qh 3 0 0),(.r Qh 4 0 0)]))],6⟩
theorem Qxa (p:Qe) (x2:Int) (q12:List Qc) (q21:List Qd) (q3:List Qd) (h :
 (zif (decide (x2<((p.2.2.2).length:Int))) (((0:Int)≤x2∧Int.toNat x2<(p.2.2.2).length)∧(((Qx (α:=Qd) (gtd Qw p.2.2.2 (Int.toNat x2)))∧((q3.length=q3.length∨q3.length+1≤q3.length)∧q3.length+1≤big))∧(Qfe K p (w64 (x2+(1:Int))) (List.take q12.length q12) (List.take q21.length q21) (List.take (q3.length+1) ((List.take q3.length q3)++([((id (α:=Qd) (gtd Qw p.2.2.2 (Int.toNat x2))).1,(List.take (((id (α:=Qd) (gtd Qw p.2.2.2 (Int.toNat x2))).2).length) (List.drop 0 ((id (α:=Qd) (gtd Qw p.2.2.2 (Int.toNat x2))).2))))])))))) (K (Jq ((id (α:=List Qy) p.1),(List.take q12.length q12),(List.take q21.length q21),(List.take q3.length q3)))))):Qfe K p x2 q12 q21 q3 :=
 Loop.of (by kernel_rfl) h
theorem QvA (p:Qe) (x1:Int) (q11:List Qc) (q2:List Qd) (h :
 (zif (decide (x1<((p.2.2.1).length:Int))) (((0:Int)≤x1∧Int.toNat x1<(p.2.2.1).length)∧(((Qx (α:=Qd) (gtd Qw p.2.2.1 (Int.toNat x1)))∧((q2.length=q2.length∨q2.length+1≤q2.length)∧q2.length+1≤big))∧(Qgi K p (w64 (x1+(1:Int))) (List.take q11.length q11) (List.take (q2.length+1) ((List.take q2.length q2)++([((id (α:=Qd) (gtd Qw p.2.2.1 (Int.toNat x1))).1,(List.take (((id (α:=Qd) (gtd Qw p.2.2.1 (Int.toNat x1))).2).length) (List.drop 0 ((id (α:=Qd) (gtd Qw p.2.2.1 (Int.toNat x1))).2))))])))))) (Qfe K p 0 (List.take q11.length q11) (List.take q2.length q2) ([]:List Qd)))):Qgi K p x1 q11 q2 :=
 Loop.of (by kernel_rfl) h
theorem Qv0 (p:Qe) (x:Int) (q1:List Qc) (h :
 let z1:=id (α:=Qc) (gtd QH p.2.1 (Int.toNat x))
 (zif (decide (x<((p.2.1).length:Int))) (((0:Int)≤x∧Int.toNat x<(p.2.1).length)∧(((Qx (α:=Qc) (gtd QH p.2.1 (Int.toNat x)))∧((q1.length=q1.length∨q1.length+1≤q1.length)∧q1.length+1≤big))∧(Qho K p (w64 (x+(1:Int))) (List.take (q1.length+1) ((List.take q1.length q1)++([(z1.1,z1.2.1,z1.2.2.1,z1.2.2.2.1,z1.2.2.2.2.1,(List.take ((z1.2.2.2.2.2.1).length) (List.drop 0 (z1.2.2.2.2.2.1))),z1.2.2.2.2.2.2.1,z1.2.2.2.2.2.2.2.1,z1.2.2.2.2.2.2.2.2.1,z1.2.2.2.2.2.2.2.2.2.1,z1.2.2.2.2.2.2.2.2.2.2.1,z1.2.2.2.2.2.2.2.2.2.2.2.1,z1.2.2.2.2.2.2.2.2.2.2.2.2.1,z1.2.2.2.2.2.2.2.2.2.2.2.2.2)])))))) (Qgi K p 0 (List.take q1.length q1) ([]:List Qd)))):Qho K p x q1 :=
 Loop.of (by kernel_rfl) h
theorem QHI (p:Qe) (h :
 ((Qx (α:=List Qy) p.1)∧(Qho K p 0 ([]:List Qc)))):Hold (tawp Qco (0+0) QOI (TQ 0 0 QAO K) (Qi [(.a (Tup.cells QE p))])) :=
 Hold.of (by kernel_rfl) h
theorem QM2 (p:Qe) (hp:Qx (α:=Qe) p):TCon Tryz.prog 79 [(.a (Tup.cells QE p))] (Jq (id (α:=Qe) p)):=by
 refine Qo rfl fun hb=>tcg (n:=60) (sg:=Qhu.sg) Qm (TOk.cons QPk (TOk.cons QjD (TOk.cons QpZ TOk.nil))) (by kernel_rfl) (by kernel_rfl) (QHI _ p ?_)
 have hl_p_0:(p.1).length≤9223372036854775807:=hb.1.1.1
 have hl_p_1:(p.2.1).length≤9223372036854775807:=hb.1.2.1.1
 have hl_p_2:(p.2.2.1).length≤9223372036854775807:=hb.1.2.2.1.1
 have hl_p_3:(p.2.2.2).length≤9223372036854775807:=hb.1.2.2.2.1.1
 have hp':Sz.sz p≤2147483648:=hp
 have hs:Sz.sz p=Sz.sz p.1+Sz.sz p.2.1+Sz.sz p.2.2.1+Sz.sz p.2.2.2:=JR p
 have k6:Qfe (fun r'=>r'=Jq (id (α:=Qe) p)) p 0 p.2.1 p.2.2.1 ([]):=by
  refine Jm (l:=p.2.2.2) (A:=fun i v=>Qfe (fun r'=>r'=Jq (id (α:=Qe) p)) p i p.2.1 p.2.2.1 v) (Q:=fun z=>Jq (p.1,p.2.1,p.2.2.1,z)=Jq (id (α:=Qe) p)) (by omega) (fun k x v hk hl hg hv hx ih=>?_) (fun hq=>?_) (R_eq rfl)
  ·refine Qxa (fun r'=>r'=Jq (id (α:=Qe) p)) p _ _ _ _ ⟨fun _=>?_,fun h=>by simp at h;omega⟩
   rw [Int.toNat_natCast,hg,sc1 (by omega),Zc]
   simp only [id,List.drop_zero,List.take_length]
   exact ⟨⟨by omega,hk⟩,⟨by unfold Qx;omega,(by first | exact room (by omega) | (simp [Q9];omega))⟩,ih⟩
  ·refine Qxa (fun r'=>r'=Jq (id (α:=Qe) p)) p _ _ _ _ ⟨fun h=>by simp at h,fun _=>?_⟩
   simp only [id,List.drop_zero,List.take_length]
   first | done | exact hq | trivial
 have k4:Qgi (fun r'=>r'=Jq (id (α:=Qe) p)) p 0 p.2.1 ([]):=by
  refine Jm (l:=p.2.2.1) (A:=fun i v=>Qgi (fun r'=>r'=Jq (id (α:=Qe) p)) p i p.2.1 v) (Q:=fun z=>z=p.2.2.1) (by omega) (fun k x v hk hl hg hv hx ih=>?_) (fun hq=>?_) rfl
  ·refine QvA (fun r'=>r'=Jq (id (α:=Qe) p)) p _ _ _ ⟨fun _=>?_,fun h=>by simp at h;omega⟩
   rw [Int.toNat_natCast,hg,sc1 (by omega),Zc]
   simp only [id,List.drop_zero,List.take_length]
   exact ⟨⟨by omega,hk⟩,⟨by unfold Qx;omega,(by first | exact room (by omega) | (simp [Q9];omega))⟩,ih⟩
  ·refine QvA (fun r'=>r'=Jq (id (α:=Qe) p)) p _ _ _ ⟨fun h=>by simp at h,fun _=>?_⟩
   simp only [id,List.drop_zero,List.take_length]
   exact k6
 refine ⟨by unfold Qx;omega,?_⟩
 refine Jm (l:=p.2.1) (A:=fun i v=>Qho (fun r'=>r'=Jq (id (α:=Qe) p)) p i v) (Q:=fun z=>z=p.2.1) (by omega) (fun k x v hk hl hg hv hx ih=>?_) (fun hq=>?_) rfl
 ·refine Qv0 (fun r'=>r'=Jq (id (α:=Qe) p)) p _ _ ⟨fun _=>?_,fun h=>by simp at h;omega⟩
  rw [Int.toNat_natCast,hg,sc1 (by omega),Zc]
  simp only [id,List.drop_zero,List.take_length]
  exact ⟨⟨by omega,hk⟩,⟨by unfold Qx;omega,(by first | exact room (by omega) | (simp [Q9];omega))⟩,ih⟩
 ·refine Qv0 (fun r'=>r'=Jq (id (α:=Qe) p)) p _ _ ⟨fun h=>by simp at h,fun _=>?_⟩
  simp only [id,List.drop_zero,List.take_length]
  exact k4
theorem QtV:Ql Tryz.prog Qhu:=Qn fun x h=>QM2 x.1 h
def YU (t:Qe):TRes:=⟨(.a [(zcs QK t.1),(.r Qg 0 0 ((t.2.1).length)),(.r Qh 1 0 ((t.2.2.1).length)),(.r Qh 2 0 ((t.2.2.2).length))]),[(.sl 63 Qg true t.2.1),(.sl 97 Qh true t.2.2.1),(.sl 97 Qh true t.2.2.2)],[],true,[]⟩
def Qih:TRow:=Qk 91 [(.a QE)] fun x=>(some (Qx (α:=Qe) x.1),YU (id (α:=Qe) x.1))
def Qbr:List TRow:=[Qef,Qf7]
def QwC:TCode :=
 (zsq [(zsq [(.reg [zmv 9 4,zfa 10 1 0,zld 11 10 1,zle 12 11,zbi 13 .lss 9 12]),(.cond 13 .skip (.exit 0))]),(.block 1 (.draw [zfa 16 3 0,zld 17 16 1,zop 18 (.bsl 3 [TI] []),zfa 19 1 0,zld 20 19 1,zmv 21 4,zia 22 20 21 QK,zfa 23 22 0,zld 24 23 1,zop 25 (.app 18 24 3 [TI]),zop 26 (.bsl 3 [TI] []),zfa 27 1 0,zld 28 27 1,zmv 29 4,zia 30 28 29 QK,zfa 31 30 1,zld 32 31 1,zop 33 (.app 26 32 3 [TI]),zop 34 (.build (z0s QK) [(0,1,25),(1,1,33)]),zop 35 (.bsl 108 QK [34]),zop 36 (.app 17 35 108 QK),zfa 37 3 0,zst 37 36 1] [(0,2),(1,2),(2,3),(2,4),(2,6),(2,7),(2,8),(0,9),(1,9),(0,10),(1,10),(2,10),(3,10),(4,10),(6,10),(7,10),(8,10),(9,10),(2,11),(9,11),(10,11),(2,12),(9,12),(10,12),(2,14),(9,14),(10,14),(2,15),(9,15),(10,15),(2,16),(9,16),(10,16),(0,17),(1,17),(0,19),(1,19)])),(.reg [zmv 14 4,zbi 15 .add 14 (zki 1),zmv 4 15])])
def QvJ:List (Nat × Md):=[(1,.b (zds 4)),(2,.b (zds 4)),(3,.b [.o 108,.o 63,.o 97,.o 97]),(4,.one .d)]
def QCf:TCode :=
 (zsq [(zsq [(.reg [zmv 38 5,zfa 39 1 1,zld 40 39 1,zle 41 40,zbi 42 .lss 38 41]),(.cond 42 .skip (.exit 2))]),(.block 3 (.draw [zfa 45 3 1,zld 46 45 1,zfa 47 1 1,zld 48 47 1,zmv 49 5,zia 50 48 49 Qg,zLd 51 50 14,zca 52 168 [51],zop 53 (.bsl 63 Qg [52]),zop 54 (.app 46 53 63 Qg),zfa 55 3 1,zst 55 54 1] [(0,7),(1,7),(0,8),(1,8)])),(.reg [zmv 43 5,zbi 44 .add 43 (zki 1),zmv 5 44])])
def QxT:List (Nat × Md):=[(1,.b (zds 4)),(2,.b (zds 4)),(3,.b [.f,.f,.f,.f]),(5,.one .d)]
def QBc:TCode :=
 (zsq [(zsq [(.reg [zmv 56 6,zfa 57 1 2,zld 58 57 1,zle 59 58,zbi 60 .lss 56 59]),(.cond 60 .skip (.exit 4))]),(.block 5 (.draw [zfa 63 3 2,zld 64 63 1,zfa 65 1 2,zld 66 65 1,zmv 67 6,zia 68 66 67 Qh,zLd 69 68 2,zca 70 169 [69],zop 71 (.bsl 97 Qh [70]),zop 72 (.app 64 71 97 Qh),zfa 73 3 2,zst 73 72 1] [(0,7),(1,7),(0,8),(1,8)])),(.reg [zmv 61 6,zbi 62 .add 61 (zki 1),zmv 6 62])])
def Qr3:List (Nat × Md):=[(1,.b (zds 4)),(2,.b (zds 4)),(3,.b [.f,.f,.f,.f]),(6,.one .d)]
def QzP:TCode :=
 (zsq [(zsq [(.reg [zmv 74 7,zfa 75 1 3,zld 76 75 1,zle 77 76,zbi 78 .lss 74 77]),(.cond 78 .skip (.exit 6))]),(.block 7 (.draw [zfa 81 3 3,zld 82 81 1,zfa 83 1 3,zld 84 83 1,zmv 85 7,zia 86 84 85 Qh,zLd 87 86 2,zca 88 169 [87],zop 89 (.bsl 97 Qh [88]),zop 90 (.app 82 89 97 Qh),zfa 91 3 3,zst 91 90 1] [(0,7),(1,7),(0,8),(1,8)])),(.reg [zmv 79 7,zbi 80 .add 79 (zki 1),zmv 7 80])])
def QxK:List (Nat × Md):=[(1,.b (zds 4)),(2,.b (zds 4)),(3,.b [.f,.f,.f,.f]),(7,.one .d)]
def QCS:TCode :=
 (zsq [(.reg [zLd 92 3 4,zst 2 92 4]),.ret])
def QAg:TCode :=
 (zsq [(zsq [(.reg [zmv 7 (zki 0)]),(.block 6 (.loop QxK QzP))]),QCS])
def QwY:TCode :=
 (zsq [(zsq [(.reg [zmv 6 (zki 0)]),(.block 4 (.loop Qr3 QBc))]),QAg])
def QCi:TCode :=
 (zsq [(zsq [(.reg [zmv 5 (zki 0)]),(.block 2 (.loop QxT QCf))]),QwY])
def QVW:TCode :=
 (zsq [(.reg [zop 1 (.box 37 0 4),zop 2 (.new 37 (z0s QE))]),(.reg [zop 8 (.build (z0s QE) []),zop 3 (.new 37 (z0s QE)),zst 3 8 4]),(zsq [(.reg [zmv 4 (zki 0)]),(.block 0 (.loop QvJ QwC))]),QCi])
def QDM:List (ARv × Md):=[(.l 2 4 true,.b [.d,.o 63,.o 97,.o 97])]
def QbO:Qb:=TQ 0 0 QDM K
def QVr:Qb:=Qseq (tawp Qbr 0 QCS (QbO K)) (QbO K)
def QOX:Qb:=Qblk 6 (QVr K)
def QfS (p:Qe) (i3:Int) (x03:List Qy) (x12:List Qc) (x21:List Qd) (x3:List Qd):Prop:=Loop Qbr 0 QxK QzP (QOX K) ⟨[(1,(.p 0 0 0)),(2,(.p 1 0 0)),(3,(.p 6 0 0)),(7,(zci i3))],[(0,(.box (Tup.cells QE p))),(1,(.box (Tup.cells QE ([],[],[],[])))),(2,(.sl 108 QK true x03)),(3,(.sl 63 Qg true x12)),(4,(.sl 97 Qh true x21)),(5,(.sl 97 Qh true x3)),(6,(.box [(.r QK 2 0 x03.length),(.r Qg 3 0 x12.length),(.r Qh 4 0 x21.length),(.r Qh 5 0 x3.length)]))],7⟩
def QN5:Qb:=Qseq (tawp Qbr 0 QAg (QbO K)) (QbO K)
def QIu:Qb:=Qblk 4 (QN5 K)
def Qf5 (p:Qe) (i2:Int) (x02:List Qy) (x11:List Qc) (x2:List Qd):Prop:=Loop Qbr 0 Qr3 QBc (QIu K) ⟨[(1,(.p 0 0 0)),(2,(.p 1 0 0)),(3,(.p 6 0 0)),(6,(zci i2))],[(0,(.box (Tup.cells QE p))),(1,(.box (Tup.cells QE ([],[],[],[])))),(2,(.sl 108 QK true x02)),(3,(.sl 63 Qg true x11)),(4,(.sl 97 Qh true x2)),(5,(.sl 97 Qh true ([]:List Qd))),(6,(.box [(.r QK 2 0 x02.length),(.r Qg 3 0 x11.length),(.r Qh 4 0 x2.length),(.r Qh 5 0 0)]))],7⟩
def QPp:Qb:=Qseq (tawp Qbr 0 QwY (QbO K)) (QbO K)
def QJu:Qb:=Qblk 2 (QPp K)
def QeL (p:Qe) (i1:Int) (x01:List Qy) (x1:List Qc):Prop:=Loop Qbr 0 QxT QCf (QJu K) ⟨[(1,(.p 0 0 0)),(2,(.p 1 0 0)),(3,(.p 6 0 0)),(5,(zci i1))],[(0,(.box (Tup.cells QE p))),(1,(.box (Tup.cells QE ([],[],[],[])))),(2,(.sl 108 QK true x01)),(3,(.sl 63 Qg true x1)),(4,(.sl 97 Qh true ([]:List Qd))),(5,(.sl 97 Qh true ([]:List Qd))),(6,(.box [(.r QK 2 0 x01.length),(.r Qg 3 0 x1.length),(.r Qh 4 0 0),(.r Qh 5 0 0)]))],7⟩
def QO1:Qb:=Qseq (tawp Qbr 0 QCi (QbO K)) (QbO K)
def QVQ:Qb:=Qblk 0 (QO1 K)
def Qjr (p:Qe) (i:Int) (x0:List Qy):Prop:=Loop Qbr 0 QvJ QwC (QVQ K) ⟨[(1,(.p 0 0 0)),(2,(.p 1 0 0)),(3,(.p 6 0 0)),(4,(zci i))],[(0,(.box (Tup.cells QE p))),(1,(.box (Tup.cells QE ([],[],[],[])))),(2,(.sl 108 QK true x0)),(3,(.sl 63 Qg true ([]:List Qc))),(4,(.sl 97 Qh true ([]:List Qd))),(5,(.sl 97 Qh true ([]:List Qd))),(6,(.box [(.r QK 2 0 x0.length),(.r Qg 3 0 0),(.r Qh 4 0 0),(.r Qh 5 0 0)]))],7⟩
theorem QAh (p:Qe) (i3:Int) (x03:List Qy) (x12:List Qc) (x21:List Qd) (x3:List Qd) (h :
 (zif (decide (i3<((p.2.2.2).length:Int))) ((((0:Int)≤i3∧Int.toNat i3<(p.2.2.2).length)∧((Qx (α:=Qd) (gtd Qw p.2.2.2 (Int.toNat i3)))∧((x3.length=x3.length∨x3.length+1≤x3.length)∧x3.length+1≤big)))∧(QfS K p (w64 (i3+(1:Int))) (List.take x03.length x03) (List.take x12.length x12) (List.take x21.length x21) (List.take (x3.length+1) ((List.take x3.length x3)++([((id (α:=Qd) (gtd Qw p.2.2.2 (Int.toNat i3))).1,(List.take (((id (α:=Qd) (gtd Qw p.2.2.2 (Int.toNat i3))).2).length) (List.drop 0 ((id (α:=Qd) (gtd Qw p.2.2.2 (Int.toNat i3))).2))))]))))) (K (YU ((List.take x03.length (List.drop 0 x03)),(List.take x12.length x12),(List.take x21.length x21),(List.take x3.length x3)))))):QfS K p i3 x03 x12 x21 x3 :=
 Loop.of (by kernel_rfl) h
theorem QB8 (p:Qe) (i2:Int) (x02:List Qy) (x11:List Qc) (x2:List Qd) (h :
 (zif (decide (i2<((p.2.2.1).length:Int))) ((((0:Int)≤i2∧Int.toNat i2<(p.2.2.1).length)∧((Qx (α:=Qd) (gtd Qw p.2.2.1 (Int.toNat i2)))∧((x2.length=x2.length∨x2.length+1≤x2.length)∧x2.length+1≤big)))∧(Qf5 K p (w64 (i2+(1:Int))) (List.take x02.length x02) (List.take x11.length x11) (List.take (x2.length+1) ((List.take x2.length x2)++([((id (α:=Qd) (gtd Qw p.2.2.1 (Int.toNat i2))).1,(List.take (((id (α:=Qd) (gtd Qw p.2.2.1 (Int.toNat i2))).2).length) (List.drop 0 ((id (α:=Qd) (gtd Qw p.2.2.1 (Int.toNat i2))).2))))]))))) (QfS K p 0 (List.take x02.length x02) (List.take x11.length x11) (List.take x2.length x2) ([]:List Qd)))):Qf5 K p i2 x02 x11 x2 :=
 Loop.of (by kernel_rfl) h
theorem Qs1 (p:Qe) (i1:Int) (x01:List Qy) (x1:List Qc) (h :
 let z1:=id (α:=Qc) (gtd QH p.2.1 (Int.toNat i1))
 (zif (decide (i1<((p.2.1).length:Int))) ((((0:Int)≤i1∧Int.toNat i1<(p.2.1).length)∧((Qx (α:=Qc) (gtd QH p.2.1 (Int.toNat i1)))∧((x1.length=x1.length∨x1.length+1≤x1.length)∧x1.length+1≤big)))∧(QeL K p (w64 (i1+(1:Int))) (List.take x01.length x01) (List.take (x1.length+1) ((List.take x1.length x1)++([(z1.1,z1.2.1,z1.2.2.1,z1.2.2.2.1,z1.2.2.2.2.1,(List.take ((z1.2.2.2.2.2.1).length) (List.drop 0 (z1.2.2.2.2.2.1))),z1.2.2.2.2.2.2.1,z1.2.2.2.2.2.2.2.1,z1.2.2.2.2.2.2.2.2.1,z1.2.2.2.2.2.2.2.2.2.1,z1.2.2.2.2.2.2.2.2.2.2.1,z1.2.2.2.2.2.2.2.2.2.2.2.1,z1.2.2.2.2.2.2.2.2.2.2.2.2.1,z1.2.2.2.2.2.2.2.2.2.2.2.2.2)]))))) (Qf5 K p 0 (List.take x01.length x01) (List.take x1.length x1) ([]:List Qd)))):QeL K p i1 x01 x1 :=
 Loop.of (by kernel_rfl) h
theorem QDB (p:Qe) (i:Int) (x0:List Qy) (h :
 (zif (decide (i<((p.1).length:Int))) ((((0:Int)≤i∧Int.toNat i<(p.1).length)∧(((0=0∨0+((gtd QX p.1 (Int.toNat i)).1).length≤0)∧0+((gtd QX p.1 (Int.toNat i)).1).length≤big)∧(((0:Int)≤i∧Int.toNat i<(p.1).length)∧(((0=0∨0+((gtd QX p.1 (Int.toNat i)).2).length≤0)∧0+((gtd QX p.1 (Int.toNat i)).2).length≤big)∧((x0.length=x0.length∨x0.length+1≤x0.length)∧x0.length+1≤big)))))∧(Qjr K p (w64 (i+(1:Int))) (List.take (x0.length+1) ((List.take x0.length x0)++([((List.take (0+((gtd QX p.1 (Int.toNat i)).1).length) (List.drop 0 ((gtd QX p.1 (Int.toNat i)).1))),(List.take (0+((gtd QX p.1 (Int.toNat i)).2).length) (List.drop 0 ((gtd QX p.1 (Int.toNat i)).2))))]))))) (QeL K p 0 (List.take x0.length x0) ([]:List Qc)))):Qjr K p i x0 :=
 Loop.of (by kernel_rfl) h
theorem QRM (p:Qe) (h :
 (Qjr K p 0 ([]:List Qy))):Hold (tawp Qbr (0+0) QVW (TQ 0 0 QDM K) (Qi [(.a (Tup.cells QE p))])) :=
 Hold.of (by kernel_rfl) h
theorem QPv (p:Qe) (hp:Qx (α:=Qe) p):TCon Tryz.prog 91 [(.a (Tup.cells QE p))] (YU (id (α:=Qe) p)):=by
 refine Qo rfl fun hb=>tcg (n:=93) (sg:=Qih.sg) Qm (TOk.cons Qj0 (TOk.cons QmR TOk.nil)) (by kernel_rfl) (by kernel_rfl) (QRM _ p ?_)
 have hl_p_0:(p.1).length≤9223372036854775807:=hb.1.1.1
 have hl_p_1:(p.2.1).length≤9223372036854775807:=hb.1.2.1.1
 have hl_p_2:(p.2.2.1).length≤9223372036854775807:=hb.1.2.2.1.1
 have hl_p_3:(p.2.2.2).length≤9223372036854775807:=hb.1.2.2.2.1.1
 have hp':Sz.sz p≤2147483648:=hp
 have hs:Sz.sz p=Sz.sz p.1+Sz.sz p.2.1+Sz.sz p.2.2.1+Sz.sz p.2.2.2:=JR p
 have k8:QfS (fun r'=>r'=YU (id (α:=Qe) p)) p 0 p.1 p.2.1 p.2.2.1 ([]):=by
  refine Jm (l:=p.2.2.2) (A:=fun i v=>QfS (fun r'=>r'=YU (id (α:=Qe) p)) p i p.1 p.2.1 p.2.2.1 v) (Q:=fun z=>YU (p.1,p.2.1,p.2.2.1,z)=YU (id (α:=Qe) p)) (by omega) (fun k x v hk hl hg hv hx ih=>?_) (fun hq=>?_) (R_eq rfl)
  ·refine QAh (fun r'=>r'=YU (id (α:=Qe) p)) p _ _ _ _ _ ⟨fun _=>?_,fun h=>by simp at h;omega⟩
   rw [Int.toNat_natCast,hg,sc1 (by omega),Zc]
   simp only [id,List.drop_zero,List.take_length]
   exact ⟨⟨⟨by omega,hk⟩,by unfold Qx;omega,(by first | exact room (by omega) | (simp [Q9];omega))⟩,ih⟩
  ·refine QAh (fun r'=>r'=YU (id (α:=Qe) p)) p _ _ _ _ _ ⟨fun h=>by simp at h,fun _=>?_⟩
   simp only [id,List.drop_zero,List.take_length]
   first | done | exact hq | trivial
 have k6:Qf5 (fun r'=>r'=YU (id (α:=Qe) p)) p 0 p.1 p.2.1 ([]):=by
  refine Jm (l:=p.2.2.1) (A:=fun i v=>Qf5 (fun r'=>r'=YU (id (α:=Qe) p)) p i p.1 p.2.1 v) (Q:=fun z=>z=p.2.2.1) (by omega) (fun k x v hk hl hg hv hx ih=>?_) (fun hq=>?_) rfl
  ·refine QB8 (fun r'=>r'=YU (id (α:=Qe) p)) p _ _ _ _ ⟨fun _=>?_,fun h=>by simp at h;omega⟩
   rw [Int.toNat_natCast,hg,sc1 (by omega),Zc]
   simp only [id,List.drop_zero,List.take_length]
   exact ⟨⟨⟨by omega,hk⟩,by unfold Qx;omega,(by first | exact room (by omega) | (simp [Q9];omega))⟩,ih⟩
  ·refine QB8 (fun r'=>r'=YU (id (α:=Qe) p)) p _ _ _ _ ⟨fun h=>by simp at h,fun _=>?_⟩
   simp only [id,List.drop_zero,List.take_length]
   exact k8
 have k4:QeL (fun r'=>r'=YU (id (α:=Qe) p)) p 0 p.1 ([]):=by
  refine Jm (l:=p.2.1) (A:=fun i v=>QeL (fun r'=>r'=YU (id (α:=Qe) p)) p i p.1 v) (Q:=fun z=>z=p.2.1) (by omega) (fun k x v hk hl hg hv hx ih=>?_) (fun hq=>?_) rfl
  ·refine Qs1 (fun r'=>r'=YU (id (α:=Qe) p)) p _ _ _ ⟨fun _=>?_,fun h=>by simp at h;omega⟩
   rw [Int.toNat_natCast,hg,sc1 (by omega),Zc]
   simp only [id,List.drop_zero,List.take_length]
   exact ⟨⟨⟨by omega,hk⟩,by unfold Qx;omega,(by first | exact room (by omega) | (simp [Q9];omega))⟩,ih⟩
  ·refine Qs1 (fun r'=>r'=YU (id (α:=Qe) p)) p _ _ _ ⟨fun h=>by simp at h,fun _=>?_⟩
   simp only [id,List.drop_zero,List.take_length]
   exact k6
 refine Jm (l:=p.1) (A:=fun i v=>Qjr (fun r'=>r'=YU (id (α:=Qe) p)) p i v) (Q:=fun z=>z=p.1) (by omega) (fun k x v hk hl hg hv hx ih=>?_) (fun hq=>?_) rfl
 ·refine QDB (fun r'=>r'=YU (id (α:=Qe) p)) p _ _ ⟨fun _=>?_,fun h=>by simp at h;omega⟩
  simp only [ZO] at hx
  have h1:=ZN x.1
  have h2:=ZN x.2
  rw [Int.toNat_natCast,hg,sc1 (by omega),Zc,QbX,QbX]
  exact ⟨⟨⟨by omega,hk⟩,⟨.inl rfl,by rw [Q9];omega⟩,⟨by omega,hk⟩,⟨.inl rfl,by rw [Q9];omega⟩,(by first | exact room (by omega) | (simp [Q9];omega))⟩,ih⟩
 ·refine QDB (fun r'=>r'=YU (id (α:=Qe) p)) p _ _ ⟨fun h=>by simp at h,fun _=>?_⟩
  rw [List.take_length]
  exact k4
theorem QqW:Ql Tryz.prog Qih:=Qn fun x h=>QPv x.1 h
def QbJ (t:Qe):TRes:=zra (.a (Tup.cells QE t))
def QnO:TRow:=Qk 33 [(.a QE),(.c TI)] fun x=>(some (Qbm x.1 x.2.1),QbJ (Zu x.1 x.2.1))
def Qh6:List TRow:=[Qhu,Qo1,Qhs,Qm0,QnZ,Qll,Qmk,Ql4]
def QDw:TCode :=
 (.draw [zLd 67 6 14,zfa 68 7 1,zld 69 68 1,zmv 70 11,zfa 71 5 0,zld 72 71 1,zfa 73 7 1,zld 74 73 1,zia 75 72 74 QK,zfa 76 75 1,zld 77 76 1,zca 78 44 [67,69,70,77],zst 6 78 14] [])
def QSb:List (Nat × Md):=[(1,.one .d),(4,.b (zds 4)),(5,.b [.d,.f,.f,.f]),(6,.b (zds 14)),(7,.b [.d,.d]),(11,.one .d)]
def QK0:TCode:=.wk QSb QDw
def Qrb:TCode :=
 (zsq [(.reg [zfa 165 6 0,zld 166 165 1,zbi 167 .add 166 (zki 1),zfa 168 6 0,zst 168 167 1]),(.reg [zfa 169 5 1,zld 170 169 1,zmv 171 1,zLd 172 6 14,zia 173 170 171 Qg,zst 173 172 14]),(.reg [zLd 174 5 4,zst 4 174 4]),.ret])
def QOh:List (Nat × Md):=[(1,.one .d),(4,.b (zds 4)),(5,.b [.d,.f,.f,.f]),(6,.b (zds 14))]
def QrL:TCode:=.wk QOh Qrb
def QTU:TCode :=
 (zsq [(.reg [zop 2 (.box 37 0 4),zop 4 (.new 37 (z0s QE))]),(.reg [zLd 15 2 4,zca 16 79 [15],zop 5 (.new 37 (z0s QE)),zst 5 16 4]),(zsq [(.reg [zLd 17 2 4,zmv 18 1,zca 19 34 [17,18],zno 20 19]),(.cond 20 (zsq [(.reg [zLd 21 5 4,zst 4 21 4]),.ret]) .skip)]),(.reg [zfa 22 5 1,zld 23 22 1,zmv 24 1,zia 25 23 24 Qg,zLd 26 25 14,zop 6 (.new 63 (z0s Qg)),zst 6 26 14]),(.reg [zLd 27 2 4,zmv 28 1,zca 29 96 [27,28],zop 7 (.new 111 (z0s QR)),zst 7 29 2]),(zsq [(.reg [zfa 30 7 0,zld 31 30 1]),(.block 0 (zsq [(.reg [zbi 33 .eql 31 (zki 1),zmv 32 33]),(.cond 32 (zsq [(.reg [zfa 35 5 2,zld 36 35 1,zmv 37 1,zbi 38 .sub 37 (zki 1),zia 39 36 38 Qh,zLd 40 39 2,zca 41 97 [40],zmv 34 41,zex 42 34 0,zex 43 34 1,zex 44 34 2,zop 8 (.new 97 (z0s Qh)),zop 9 (.new 114 (z0s QN)),zst 8 42 2,zst 9 43 2,zmv 10 44]),(.reg [zfa 45 5 2,zld 46 45 1,zmv 47 1,zbi 48 .sub 47 (zki 1),zLd 49 8 2,zia 50 46 48 Qh,zst 50 49 2]),(.reg [zfa 51 9 1,zld 52 51 1,zfa 53 6 7,zst 53 52 1])]) (zsq [(.reg [zbi 55 .eql 31 (zki 2),zmv 54 55]),(.cond 54 (zsq [(.reg [zfa 56 6 7,zld 57 56 1,zmv 11 57]),(zsq [(.reg [zmv 58 1,zbi 59 .eql 58 (zki 0)]),(.cond 59 (.reg [zfa 60 5 0,zld 61 60 1,zfa 62 7 1,zld 63 62 1,zia 64 61 63 QK,zfa 65 64 0,zld 66 65 1,zmv 11 66]) .skip)]),QK0]) (zsq [(.reg [zbi 80 .eql 31 (zki 3),zmv 79 80]),(.cond 79 (zsq [(.draw [zfa 82 5 2,zld 83 82 1,zmv 84 1,zfa 85 5 2,zld 86 85 1,zmv 87 1,zia 88 86 87 Qh,zLd 89 88 2,zfa 90 7 1,zld 91 90 1,zfa 92 6 8,zld 93 92 1,zop 94 (.build (z0s QN) [(0,1,91),(1,1,93)]),zca 95 98 [89,94],zmv 81 95,zex 96 81 0,zex 97 81 1,zia 98 83 84 Qh,zst 98 96 2] [(0,13),(1,13)]),(.reg [zfa 99 6 8,zst 99 (.k (.n [TI])) 1])]) (zsq [(.reg [zbi 101 .eql 31 (zki 4),zmv 100 101]),(.cond 100 (zsq [(.reg [zfa 103 5 3,zld 104 103 1,zmv 105 1,zia 106 104 105 Qh,zLd 107 106 2,zca 108 97 [107],zmv 102 108,zex 109 102 0,zex 110 102 1,zex 111 102 2,zop 12 (.new 97 (z0s Qh)),zop 13 (.new 114 (z0s QN)),zst 12 109 2,zst 13 110 2,zmv 14 111]),(.reg [zfa 112 5 3,zld 113 112 1,zmv 114 1,zLd 115 12 2,zia 116 113 114 Qh,zst 116 115 2]),(.reg [zfa 117 13 1,zld 118 117 1,zfa 119 6 9,zst 119 118 1])]) (zsq [(.reg [zbi 121 .eql 31 (zki 5),zmv 120 121]),(.cond 120 (.reg [zLd 122 6 14,zfa 123 7 1,zld 124 123 1,zca 125 46 [122,124],zst 6 125 14]) (zsq [(.reg [zbi 127 .eql 31 (zki 6),zmv 126 127]),(.cond 126 (zsq [(.draw [zLd 128 6 14,zfa 129 7 1,zld 130 129 1,zfa 131 5 0,zld 132 131 1,zfa 133 7 1,zld 134 133 1,zia 135 132 134 QK,zfa 136 135 1,zld 137 136 1,zca 138 48 [128,130,137],zst 6 138 14] []),(.reg [zmv 139 1,zbi 140 .eql 139 (zki 0)]),(.cond 140 (.reg [zfa 141 6 10,zst 141 (.k (.n [TI])) 1]) .skip)]) (zsq [(.reg [zbi 143 .eql 31 (zki 7),zmv 142 143]),(.cond 142 (zsq [(.draw [zfa 145 5 3,zld 146 145 1,zmv 147 1,zbi 148 .sub 147 (zki 1),zfa 149 5 3,zld 150 149 1,zmv 151 1,zbi 152 .sub 151 (zki 1),zia 153 150 152 Qh,zLd 154 153 2,zfa 155 7 1,zld 156 155 1,zfa 157 6 10,zld 158 157 1,zop 159 (.build (z0s QN) [(0,1,156),(1,1,158)]),zca 160 98 [154,159],zmv 144 160,zex 161 144 0,zex 162 144 1,zia 163 146 148 Qh,zst 163 161 2] [(0,15),(1,15)]),(.reg [zfa 164 6 10,zst 164 (.k (.n [TI])) 1])]) .skip)]))]))]))]))]))]))]))]),QrL])
def Qz7:List (ARv × Md):=[(.l 4 4 true,.b (zds 4))]
def Qpj:Qb:=TQ 0 0 Qz7 K
@[irreducible] def Qaq (p:Qe) (s:Int) (q1:List Qc) (q2:List Qd) (q3:List Qd) (x0:Int) (x1:List TIns) (x2:List TOp') (x3:Bool) (x4:Bool) (x5:List ZD) (x6:List (List Int)) (x7:List Int) (x8:List Int) (x9:List Int) (x10:List Int) (x11:List (List Int)) (x12:Int) (x13:Bool):Prop:=tawp Qh6 0 Qrb (Qpj K) ⟨[(1,(zci s)),(4,(.p 0 0 0)),(5,(.p 4 0 0)),(6,(.p 5 0 0))],[(0,(.box (Tup.cells QE ([],[],[],[])))),(1,(.sl 63 Qg true q1)),(2,(.sl 97 Qh true q2)),(3,(.sl 97 Qh true q3)),(4,(.box [(zcs QK ((id (α:=Qe) p).1)),(.r Qg 1 0 q1.length),(.r Qh 2 0 q2.length),(.r Qh 3 0 q3.length)])),(5,(.box (Tup.cells Qg (x0,x1,x2,x3,x4,x5,x6,x7,x8,x9,x10,x11,x12,x13))))],6⟩
def QRJ:Qb:=Qseq (tawp Qh6 0 QrL (Qpj K)) (Qpj K)
def QPE:Qb:=Qblk 0 (QRJ K)
@[irreducible] def Qgp (p:Qe) (s:Int) (inn:List Int):Prop:=let z1:=id (α:=Qe) p
 tawp Qh6 0 QDw (QPE K) ⟨[(1,(zci s)),(4,(.p 0 0 0)),(5,(.p 4 0 0)),(6,(.p 5 0 0)),(7,(.p 6 0 0)),(11,(zcs [TI] inn))],[(0,(.box (Tup.cells QE ([],[],[],[])))),(1,(.sl 63 Qg true (List.take ((z1.2.1).length) (z1.2.1)))),(2,(.sl 97 Qh true (List.take ((z1.2.2.1).length) (z1.2.2.1)))),(3,(.sl 97 Qh true (List.take ((z1.2.2.2).length) (z1.2.2.2)))),(4,(.box [(zcs QK (z1.1)),(.r Qg 1 0 ((List.take ((z1.2.1).length) (z1.2.1)).length)),(.r Qh 2 0 ((List.take ((z1.2.2.1).length) (z1.2.2.1)).length)),(.r Qh 3 0 ((List.take ((z1.2.2.2).length) (z1.2.2.2)).length))])),(5,(.box (Tup.cells Qg (gtd QH (z1.2.1) (0+(Int.toNat s)))))),(6,(.box [(zci ((Qj p s).1)),(zci ((Qj p s).2))]))],7⟩
theorem QNy (p:Qe) (s:Int) (q1:List Qc) (q2:List Qd) (q3:List Qd) (x0:Int) (x1:List TIns) (x2:List TOp') (x3:Bool) (x4:Bool) (x5:List ZD) (x6:List (List Int)) (x7:List Int) (x8:List Int) (x9:List Int) (x10:List Int) (x11:List (List Int)) (x12:Int) (x13:Bool) (h :
 ((((0:Int)≤s∧Int.toNat s<q1.length)∧((0+(Int.toNat s))<q1.length))∧K (QbJ ((id (α:=Qe) p).1,(List.take q1.length (List.drop 0 ((q1).set (0+(Int.toNat s)) (w64 (x0+(1:Int)),x1,x2,x3,x4,x5,x6,x7,x8,x9,x10,x11,x12,x13)))),(List.take q2.length (List.drop 0 q2)),(List.take q3.length (List.drop 0 q3)))))):Hold (Qaq K p s q1 q2 q3 x0 x1 x2 x3 x4 x5 x6 x7 x8 x9 x10 x11 x12 x13) :=
 Hold.of (by kernel_rfl) h
theorem QS2 (p:Qe) (s:Int) (inn:List Int) (h :
 let z2:=id (α:=Qe) p
 let z3:=gtd QX (z2.1) (Int.toNat ((Qj p s).2))
 let z1:=Ye (gtd QH (z2.2.1) (0+(Int.toNat s))) ((Qj p s).2) inn (z3.2)
 ((((0:Int)≤(Qj p s).2∧Int.toNat ((Qj p s).2)<(z2.1).length)∧(QbC (gtd QH (z2.2.1) (0+(Int.toNat s))) ((Qj p s).2) inn (z3.2)))∧(Qaq K p s (List.take ((List.take ((z2.2.1).length) (z2.2.1)).length) (List.take ((z2.2.1).length) (z2.2.1))) (List.take ((List.take ((z2.2.2.1).length) (z2.2.2.1)).length) (List.take ((z2.2.2.1).length) (z2.2.2.1))) (List.take ((List.take ((z2.2.2.2).length) (z2.2.2.2)).length) (List.take ((z2.2.2.2).length) (z2.2.2.2))) (z1.1) (z1.2.1) (z1.2.2.1) (z1.2.2.2.1) (z1.2.2.2.2.1) (z1.2.2.2.2.2.1) (z1.2.2.2.2.2.2.1) (z1.2.2.2.2.2.2.2.1) (z1.2.2.2.2.2.2.2.2.1) (z1.2.2.2.2.2.2.2.2.2.1) (z1.2.2.2.2.2.2.2.2.2.2.1) (z1.2.2.2.2.2.2.2.2.2.2.2.1) (z1.2.2.2.2.2.2.2.2.2.2.2.2.1) (z1.2.2.2.2.2.2.2.2.2.2.2.2.2)))):Hold (Qgp K p s inn) :=
 Hold.of (by kernel_rfl) h
theorem QE7 (p:Qe) (s:Int) (h :
 let z3:=id (α:=Qe) p
 let z1:=gtd QH (z3.2.1) (0+(Int.toNat s))
 let z4:=YX z1 ((Qj p s).2)
 let z6:=List.take ((z3.2.1).length) (z3.2.1)
 let z7:=List.take ((z3.2.2.2).length) (z3.2.2.2)
 let z8:=List.take ((z3.2.2.1).length) (z3.2.2.1)
 let z11:=gtd QX (z3.1) (Int.toNat ((Qj p s).2))
 let z2:=Zx z1 ((Qj p s).2) (z11.2)
 let z12:=gtd Qw (z3.2.2.2) (0+(Int.toNat s))
 let z13:=w64 (s-(1:Int))
 let z5:=Int.toNat z13
 let z10:=Yw (gtd Qw (z3.2.2.2) (0+z5)) ((Qj p s).2,z1.2.2.2.2.2.2.2.2.2.2.1)
 let z14:=gtd Qw (z3.2.2.1) (0+z5)
 let z15:=gtd Qw (z3.2.2.1) (0+(Int.toNat s))
 let z9:=Yw z15 ((Qj p s).2,z1.2.2.2.2.2.2.2.2.1)
 ((Qx (α:=Qe) p)∧(zif (!(ZV p s)) (K (QbJ (z3.1,(List.take ((z3.2.1).length) (List.drop 0 (z3.2.1))),(List.take ((z3.2.2.1).length) (List.drop 0 (z3.2.2.1))),(List.take ((z3.2.2.2).length) (List.drop 0 (z3.2.2.2)))))) ((((0:Int)≤s∧Int.toNat s<(z3.2.1).length)∧((0+(Int.toNat s))<(z3.2.1).length))∧(zif (((Qj p s).1)==(1:Int)) ((((0:Int)≤w64 (s-(1:Int))∧Int.toNat z13<(z3.2.2.1).length)∧(((0+z5)<(z3.2.2.1).length)∧(Qx (α:=Qd) z14)))∧((((0:Int)≤w64 (s-(1:Int))∧Int.toNat z13<(z3.2.2.1).length)∧((0+z5)<(z3.2.2.1).length))∧(Qaq K p s z6 (List.take ((z3.2.2.1).length) ((z3.2.2.1).set (0+z5) ((Zt z14).1))) z7 (z1.1) (z1.2.1) (z1.2.2.1) (z1.2.2.2.1) (z1.2.2.2.2.1) (z1.2.2.2.2.2.1) (z1.2.2.2.2.2.2.1) (((Zt z14).2.1).2) (z1.2.2.2.2.2.2.2.2.1) (z1.2.2.2.2.2.2.2.2.2.1) (z1.2.2.2.2.2.2.2.2.2.2.1) (z1.2.2.2.2.2.2.2.2.2.2.2.1) (z1.2.2.2.2.2.2.2.2.2.2.2.2.1) (z1.2.2.2.2.2.2.2.2.2.2.2.2.2)))) (zif (((Qj p s).1)==(2:Int)) (zif (s==(0:Int)) (((0:Int)≤(Qj p s).2∧Int.toNat ((Qj p s).2)<(z3.1).length)∧(Qgp K p s (z11.1))) (Qgp K p s (z1.2.2.2.2.2.2.2.1))) (zif (((Qj p s).1)==(3:Int)) ((((0:Int)≤s∧Int.toNat s<(z3.2.2.1).length)∧(((0+(Int.toNat s))<(z3.2.2.1).length)∧((Z2 (α:=Qd) (β:=Za) z15 ((Qj p s).2,z1.2.2.2.2.2.2.2.2.1))∧(((0:Int)≤s∧Int.toNat s<(z3.2.2.1).length)∧((0+(Int.toNat s))<(z3.2.2.1).length)))))∧(Qaq K p s z6 (List.take ((z3.2.2.1).length) ((z3.2.2.1).set (0+(Int.toNat s)) ((z9.1).1,(List.take (((z9.1).2).length) (List.drop 0 ((z9.1).2)))))) z7 (z1.1) (z1.2.1) (z1.2.2.1) (z1.2.2.2.1) (z1.2.2.2.2.1) (z1.2.2.2.2.2.1) (z1.2.2.2.2.2.2.1) (z1.2.2.2.2.2.2.2.1) ([]) (z1.2.2.2.2.2.2.2.2.2.1) (z1.2.2.2.2.2.2.2.2.2.2.1) (z1.2.2.2.2.2.2.2.2.2.2.2.1) (z1.2.2.2.2.2.2.2.2.2.2.2.2.1) (z1.2.2.2.2.2.2.2.2.2.2.2.2.2))) (zif (((Qj p s).1)==(4:Int)) ((((0:Int)≤s∧Int.toNat s<(z3.2.2.2).length)∧(((0+(Int.toNat s))<(z3.2.2.2).length)∧(Qx (α:=Qd) z12)))∧((((0:Int)≤s∧Int.toNat s<(z3.2.2.2).length)∧((0+(Int.toNat s))<(z3.2.2.2).length))∧(Qaq K p s z6 z8 (List.take ((z3.2.2.2).length) ((z3.2.2.2).set (0+(Int.toNat s)) ((Zt z12).1))) (z1.1) (z1.2.1) (z1.2.2.1) (z1.2.2.2.1) (z1.2.2.2.2.1) (z1.2.2.2.2.2.1) (z1.2.2.2.2.2.2.1) (z1.2.2.2.2.2.2.2.1) (z1.2.2.2.2.2.2.2.2.1) (((Zt z12).2.1).2) (z1.2.2.2.2.2.2.2.2.2.2.1) (z1.2.2.2.2.2.2.2.2.2.2.2.1) (z1.2.2.2.2.2.2.2.2.2.2.2.2.1) (z1.2.2.2.2.2.2.2.2.2.2.2.2.2)))) (zif (((Qj p s).1)==(5:Int)) ((QbB z1 ((Qj p s).2))∧(Qaq K p s z6 z8 z7 (z4.1) (z4.2.1) (z4.2.2.1) (z4.2.2.2.1) (z4.2.2.2.2.1) (z4.2.2.2.2.2.1) (z4.2.2.2.2.2.2.1) (z4.2.2.2.2.2.2.2.1) (z4.2.2.2.2.2.2.2.2.1) (z4.2.2.2.2.2.2.2.2.2.1) (z4.2.2.2.2.2.2.2.2.2.2.1) (z4.2.2.2.2.2.2.2.2.2.2.2.1) (z4.2.2.2.2.2.2.2.2.2.2.2.2.1) (z4.2.2.2.2.2.2.2.2.2.2.2.2.2))) (zif (((Qj p s).1)==(6:Int)) ((((0:Int)≤(Qj p s).2∧Int.toNat ((Qj p s).2)<(z3.1).length)∧(Qb7 z1 ((Qj p s).2) (z11.2)))∧(zif (s==(0:Int)) (Qaq K p s z6 z8 z7 (z2.1) (z2.2.1) (z2.2.2.1) (z2.2.2.2.1) (z2.2.2.2.2.1) (z2.2.2.2.2.2.1) (z2.2.2.2.2.2.2.1) (z2.2.2.2.2.2.2.2.1) (z2.2.2.2.2.2.2.2.2.1) (z2.2.2.2.2.2.2.2.2.2.1) ([]) (z2.2.2.2.2.2.2.2.2.2.2.2.1) (z2.2.2.2.2.2.2.2.2.2.2.2.2.1) (z2.2.2.2.2.2.2.2.2.2.2.2.2.2)) (Qaq K p s z6 z8 z7 (z2.1) (z2.2.1) (z2.2.2.1) (z2.2.2.2.1) (z2.2.2.2.2.1) (z2.2.2.2.2.2.1) (z2.2.2.2.2.2.2.1) (z2.2.2.2.2.2.2.2.1) (z2.2.2.2.2.2.2.2.2.1) (z2.2.2.2.2.2.2.2.2.2.1) (z2.2.2.2.2.2.2.2.2.2.2.1) (z2.2.2.2.2.2.2.2.2.2.2.2.1) (z2.2.2.2.2.2.2.2.2.2.2.2.2.1) (z2.2.2.2.2.2.2.2.2.2.2.2.2.2)))) (zif (((Qj p s).1)==(7:Int)) ((((0:Int)≤w64 (s-(1:Int))∧Int.toNat z13<(z3.2.2.2).length)∧(((0+z5)<(z3.2.2.2).length)∧((Z2 (α:=Qd) (β:=Za) (gtd Qw (z3.2.2.2) (0+z5)) ((Qj p s).2,z1.2.2.2.2.2.2.2.2.2.2.1))∧(((0:Int)≤w64 (s-(1:Int))∧Int.toNat z13<(z3.2.2.2).length)∧((0+z5)<(z3.2.2.2).length)))))∧(Qaq K p s z6 z8 (List.take ((z3.2.2.2).length) ((z3.2.2.2).set (0+z5) ((z10.1).1,(List.take (((z10.1).2).length) (List.drop 0 ((z10.1).2)))))) (z1.1) (z1.2.1) (z1.2.2.1) (z1.2.2.2.1) (z1.2.2.2.2.1) (z1.2.2.2.2.2.1) (z1.2.2.2.2.2.2.1) (z1.2.2.2.2.2.2.2.1) (z1.2.2.2.2.2.2.2.2.1) (z1.2.2.2.2.2.2.2.2.2.1) ([]) (z1.2.2.2.2.2.2.2.2.2.2.2.1) (z1.2.2.2.2.2.2.2.2.2.2.2.2.1) (z1.2.2.2.2.2.2.2.2.2.2.2.2.2))) (Qaq K p s z6 z8 z7 (z1.1) (z1.2.1) (z1.2.2.1) (z1.2.2.2.1) (z1.2.2.2.2.1) (z1.2.2.2.2.2.1) (z1.2.2.2.2.2.2.1) (z1.2.2.2.2.2.2.2.1) (z1.2.2.2.2.2.2.2.2.1) (z1.2.2.2.2.2.2.2.2.2.1) (z1.2.2.2.2.2.2.2.2.2.2.1) (z1.2.2.2.2.2.2.2.2.2.2.2.1) (z1.2.2.2.2.2.2.2.2.2.2.2.2.1) (z1.2.2.2.2.2.2.2.2.2.2.2.2.2))))))))))))):Hold (tawp Qh6 (0+0) QTU (TQ 0 0 Qz7 K) (Qi [(.a (Tup.cells QE p)),(.c TI s)])) :=
 Hold.of (by kernel_rfl) h
theorem QNQ (p:Qe) (s:Int) (hp:Qbm p s):TCon Tryz.prog 33 [(.a (Tup.cells QE p)),(.c TI s)] (QbJ (Zu p s)):=by
 refine Qo rfl fun hb=>tcg (n:=175) (sg:=QnO.sg) Qm (TOk.cons QtV (TOk.cons QQc (TOk.cons Qz2 (TOk.cons QVG (TOk.cons QQi (TOk.cons QYa (TOk.cons QP2 (TOk.cons QRH TOk.nil)))))))) (by kernel_rfl) (by kernel_rfl) (QE7 _ p s ?_)
 have hl_p_0:(p.1).length≤9223372036854775807:=hb.1.1.1
 have hl_p_1:(p.2.1).length≤9223372036854775807:=hb.1.2.1.1
 have hl_p_2:(p.2.2.1).length≤9223372036854775807:=hb.1.2.2.1.1
 have hl_p_3:(p.2.2.2).length≤9223372036854775807:=hb.1.2.2.2.1.1
 conv=>zeta
 have hp':Sz.sz p≤1073741824:=hp
 have hs:Sz.sz p=Sz.sz p.1+Sz.sz p.2.1+Sz.sz p.2.2.1+Sz.sz p.2.2.2:=JR p
 simp only [id,List.drop_zero,List.take_length,Nat.zero_add]
 refine ⟨by unfold Qx;omega,fun h=>R_eq ?_,fun h=>?_⟩
 ·rw [QzF (by simpa using h)]
 have he:ZV p s=true:=by simpa using h
 obtain ⟨k,rfl,hk,h4,ha,hb,hst,hm1,hm2,c1,c3,c4,c7,hkind⟩:=Qtg he
 have hpc:=Qth hst
 have hxs:=Qbb QH p.2.1 k
 have hx:=ZS (gtd QH p.2.1 k)
 have hpl:=YW (Qz (gtd QH p.2.1 k))
 have hq1:=fun j=>Qbb Qw p.2.2.1 j
 have hq2:=fun j=>Qbb Qw p.2.2.2 j
 have d0:Sz.sz QH=0:=rfl
 have d1:Sz.sz Qw=0:=rfl
 have ts:∀ (l:List Qd) (i:Nat) (v:Qd),List.take l.length (l.set i v)=l.set i v:=fun l i v=>List.take_of_length_le (by simp)
 simp only [Int.toNat_natCast]
 have key:∀ (y:Qc) (a b:List Qd),Yl p k (gtd QH p.2.1 k) (Qj p (k:Int))=(y,a,b)→y.1=(gtd QH p.2.1 k).1→Qaq (fun r'=>r'=QbJ (Zu p (k:Int))) p (k:Int) p.2.1 a b y.1 y.2.1 y.2.2.1 y.2.2.2.1 y.2.2.2.2.1 y.2.2.2.2.2.1 y.2.2.2.2.2.2.1 y.2.2.2.2.2.2.2.1 y.2.2.2.2.2.2.2.2.1 y.2.2.2.2.2.2.2.2.2.1 y.2.2.2.2.2.2.2.2.2.2.1 y.2.2.2.2.2.2.2.2.2.2.2.1 y.2.2.2.2.2.2.2.2.2.2.2.2.1 y.2.2.2.2.2.2.2.2.2.2.2.2.2:=by
  intro y a b hy hpy
  have hw:w64 (y.1+1)=y.1+1:=by rw [hpy];exact Qp (by ((try simp only [sPc,Qz,sOps,Qq,Qv,Qf,QD,sX,sY,sG,sD,QC,QB,sSat,QF,QI,Qt,Qu] at *);omega)) (by ((try simp only [sPc,Qz,sOps,Qq,Qv,Qf,QD,sX,sY,sG,sD,QC,QB,sSat,QF,QI,Qt,Qu] at *);omega))
  refine (QNy (fun r'=>r'=QbJ (Zu p (k:Int))) p (k:Int) _ _ _ y.1 y.2.1 y.2.2.1 y.2.2.2.1 y.2.2.2.2.1 y.2.2.2.2.2.1 y.2.2.2.2.2.2.1 y.2.2.2.2.2.2.2.1 y.2.2.2.2.2.2.2.2.1 y.2.2.2.2.2.2.2.2.2.1 y.2.2.2.2.2.2.2.2.2.2.1 y.2.2.2.2.2.2.2.2.2.2.2.1 y.2.2.2.2.2.2.2.2.2.2.2.2.1 y.2.2.2.2.2.2.2.2.2.2.2.2.2 ?_).h
  simp only [id,List.drop_zero,List.take_length,Nat.zero_add,Int.toNat_natCast]
  refine ⟨⟨⟨by omega,hk⟩,hk⟩,R_eq ?_⟩
  rw [Qtv he rfl hy hpy,hw,List.take_of_length_le (by simp)]
 have k2:(Qj p (k:Int)).1=2→∀ inn,inn=(if k=0 then (gtd QX p.1 (Qj p (k:Int)).2.toNat).1 else sX (gtd QH p.2.1 k))→Qgp (fun r'=>r'=QbJ (Zu p (k:Int))) p (k:Int) inn:=by
  intro g inn hi
  refine (QS2 (fun r'=>r'=QbJ (Zu p (k:Int))) p (k:Int) inn ?_).h
  conv=>zeta
  simp only [id,List.drop_zero,List.take_length,Nat.zero_add,Int.toNat_natCast]
  refine ⟨⟨⟨hm1,by omega⟩,by unfold QbC;omega⟩,?_⟩
  exact key (Ye (gtd QH p.2.1 k) (Qj p (k:Int)).2 inn (gtd QX p.1 (Qj p (k:Int)).2.toNat).2) _ _ (by rw [pi2 g,hi]) (QzB _ _ _ _)
 refine ⟨⟨⟨by omega,hk⟩,hk⟩,?_⟩
 refine ⟨fun g=>?_,fun n1=>?_⟩
 ·have g:(Qj p (k:Int)).1=1:=by simpa using g
  have g1:=c1 g
  have e:w64 ((k:Int)-1)=((k-1:Nat):Int):=by rw [Qp (by omega) (by omega)];omega
  rw [e]
  simp only [Int.toNat_natCast]
  rw [ts]
  exact ⟨⟨⟨by omega,by omega⟩,by omega,by unfold Qx;have:=hq1 (k-1);omega⟩,⟨⟨by omega,by omega⟩,by omega⟩,key (setX (gtd QH p.2.1 k) (Zt (gtd Qw p.2.2.1 (k-1))).2.1.2) _ _ (pi1 g) rfl⟩
 refine ⟨fun g=>?_,fun n2=>?_⟩
 ·have g:(Qj p (k:Int)).1=2:=by simpa using g
  refine ⟨fun hz=>⟨⟨hm1,by omega⟩,k2 g _ ?_⟩,fun hz=>k2 g _ ?_⟩
  ·rw [if_pos (by simp at hz;omega)]
  ·rw [if_neg (by simp at hz;omega)]
 refine ⟨fun g=>?_,fun n3=>?_⟩
 ·have g:(Qj p (k:Int)).1=3:=by simpa using g
  have g1:=c3 g
  rw [ts]
  refine ⟨⟨⟨by omega,by omega⟩,by omega,?_,⟨by omega,by omega⟩,by omega⟩,key (setY (gtd QH p.2.1 k) []) _ _ (pi3 g) rfl⟩
  unfold Z2;simp only [QaC,ZF];have:=hq1 (k);((try simp only [sPc,Qz,sOps,Qq,Qv,Qf,QD,sX,sY,sG,sD,QC,QB,sSat,QF,QI,Qt,Qu] at *);omega)
 refine ⟨fun g=>?_,fun n4=>?_⟩
 ·have g:(Qj p (k:Int)).1=4:=by simpa using g
  have g1:=c4 g
  rw [ts]
  exact ⟨⟨⟨by omega,by omega⟩,by omega,by unfold Qx;have:=hq2 (k);omega⟩,⟨⟨by omega,by omega⟩,by omega⟩,key (setG (gtd QH p.2.1 k) (Zt (gtd Qw p.2.2.2 k)).2.1.2) _ _ (pi4 g) rfl⟩
 refine ⟨fun g=>?_,fun n5=>?_⟩
 ·have g:(Qj p (k:Int)).1=5:=by simpa using g
  exact ⟨by unfold QbB;omega,key (YX (gtd QH p.2.1 k) (Qj p (k:Int)).2) _ _ (pi5 g) (Qwl _ _)⟩
 refine ⟨fun g=>?_,fun n6=>?_⟩
 ·have g:(Qj p (k:Int)).1=6:=by simpa using g
  refine ⟨⟨⟨hm1,by omega⟩,by unfold Qb7;omega⟩,fun hz=>?_,fun hz=>?_⟩
  ·exact key (setD (Zx (gtd QH p.2.1 k) (Qj p (k:Int)).2 (gtd QX p.1 (Qj p (k:Int)).2.toNat).2) []) _ _ (by rw [pi6 g,if_pos (by simp at hz;omega)]) (QiZ _ _ _)
  ·exact key (Zx (gtd QH p.2.1 k) (Qj p (k:Int)).2 (gtd QX p.1 (Qj p (k:Int)).2.toNat).2) _ _ (by rw [pi6 g,if_neg (by simp at hz;omega)]) (QiZ _ _ _)
 refine ⟨fun g=>?_,fun n7=>?_⟩
 ·have g:(Qj p (k:Int)).1=7:=by simpa using g
  have g1:=c7 g
  have e:w64 ((k:Int)-1)=((k-1:Nat):Int):=by rw [Qp (by omega) (by omega)];omega
  rw [e]
  simp only [Int.toNat_natCast]
  rw [ts]
  refine ⟨⟨⟨by omega,by omega⟩,by omega,?_,⟨by omega,by omega⟩,by omega⟩,key (setD (gtd QH p.2.1 k) []) _ _ (pi7 g) rfl⟩
  unfold Z2;simp only [QaC,ZF];have:=hq2 (k-1);((try simp only [sPc,Qz,sOps,Qq,Qv,Qf,QD,sX,sY,sG,sD,QC,QB,sSat,QF,QI,Qt,Qu] at *);omega)
 ·simp at n1 n2 n3 n4 n5 n6 n7
  exact key (gtd QH p.2.1 k) _ _ (pi8 (by omega)) rfl
theorem QIE:Ql Tryz.prog QnO:=Qn fun x h=>QNQ x.1 x.2.1 h
def Qcb (t:Qe):TRes:=⟨(.a [(zcs QK t.1),(.r Qg 0 0 ((t.2.1).length)),(.r Qh 1 0 ((t.2.2.1).length)),(zcs Qh t.2.2.2)]),[(.sl 63 Qg true t.2.1),(.sl 97 Qh true t.2.2.1)],[],true,[]⟩
def Qie:TRow:=Qk 92 [(.a QE),(.c TI)] fun x=>(some (Qbm x.1 x.2.1),Qcb (Zu x.1 x.2.1))
def Qkb:List TRow:=[Qih,Qkx,Qg1,QnT,Qmu,Qk7,QkB,Qqp]
def QzK:TCode :=
 (.draw [zLd 71 7 14,zfa 72 6 1,zld 73 72 1,zmv 74 11,zfa 75 2 0,zld 76 75 1,zfa 77 6 1,zld 78 77 1,zia 79 76 78 QK,zfa 80 79 1,zld 81 80 1,zca 82 172 [71,73,74,81],zst 7 82 14] [])
def QPh:List (Nat × Md):=[(1,.one .d),(2,.b (zds 4)),(4,.b (zds 4)),(5,.b [.d,.f,.f,.f]),(6,.b [.d,.d]),(7,.b (zds 14)),(11,.one .d)]
def QLE:TCode:=.wk QPh QzK
def Qud:TCode :=
 (zsq [(.reg [zfa 174 7 0,zld 175 174 1,zbi 176 .add 175 (zki 1),zfa 177 7 0,zst 177 176 1]),(.reg [zfa 178 5 1,zld 179 178 1,zmv 180 1,zLd 181 7 14,zia 182 179 180 Qg,zst 182 181 14]),(.reg [zLd 183 5 4,zst 4 183 4]),.ret])
def QXz:List (Nat × Md):=[(1,.one .d),(4,.b (zds 4)),(5,.b [.d,.f,.f,.f]),(7,.b (zds 14))]
def Qx9:TCode:=.wk QXz Qud
def QFT:TCode :=
 (zsq [(.reg [zop 2 (.box 37 0 4),zop 4 (.new 37 (z0s QE))]),(.reg [zLd 19 2 4,zca 20 91 [19],zop 5 (.new 37 (z0s QE)),zst 5 20 4]),(zsq [(.reg [zLd 21 2 4,zmv 22 1,zca 23 95 [21,22],zno 24 23]),(.cond 24 (zsq [(.reg [zLd 25 5 4,zst 4 25 4]),.ret]) .skip)]),(.reg [zLd 26 2 4,zmv 27 1,zca 28 170 [26,27],zop 6 (.new 111 (z0s QR)),zst 6 28 2]),(.reg [zfa 29 5 1,zld 30 29 1,zmv 31 1,zia 32 30 31 Qg,zLd 33 32 14,zop 7 (.new 63 (z0s Qg)),zst 7 33 14]),(zsq [(.reg [zfa 34 6 0,zld 35 34 1]),(.block 0 (zsq [(.reg [zbi 37 .eql 35 (zki 1),zmv 36 37]),(.cond 36 (zsq [(.reg [zfa 39 2 2,zld 40 39 1,zmv 41 1,zbi 42 .sub 41 (zki 1),zia 43 40 42 Qh,zLd 44 43 2,zca 45 171 [44],zmv 38 45,zex 46 38 0,zex 47 38 1,zex 48 38 2,zop 8 (.new 97 (z0s Qh)),zop 9 (.new 114 (z0s QN)),zst 8 46 2,zst 9 47 2,zmv 10 48]),(.reg [zfa 49 5 2,zld 50 49 1,zmv 51 1,zbi 52 .sub 51 (zki 1),zLd 53 8 2,zia 54 50 52 Qh,zst 54 53 2]),(.reg [zfa 55 9 1,zld 56 55 1,zfa 57 7 7,zst 57 56 1])]) (zsq [(.reg [zbi 59 .eql 35 (zki 2),zmv 58 59]),(.cond 58 (zsq [(.reg [zfa 60 7 7,zld 61 60 1,zmv 11 61]),(zsq [(.reg [zmv 62 1,zbi 63 .eql 62 (zki 0)]),(.cond 63 (.reg [zfa 64 2 0,zld 65 64 1,zfa 66 6 1,zld 67 66 1,zia 68 65 67 QK,zfa 69 68 0,zld 70 69 1,zmv 11 70]) .skip)]),QLE]) (zsq [(.reg [zbi 84 .eql 35 (zki 3),zmv 83 84]),(.cond 83 (zsq [(.draw [zfa 86 2 2,zld 87 86 1,zmv 88 1,zia 89 87 88 Qh,zLd 90 89 2,zfa 91 6 1,zld 92 91 1,zfa 93 7 8,zld 94 93 1,zop 95 (.build (z0s QN) [(0,1,92),(1,1,94)]),zca 96 173 [90,95],zmv 85 96,zex 97 85 0,zex 98 85 1,zop 12 (.new 97 (z0s Qh)),zst 12 97 2,zmv 13 98] [(0,14),(1,14),(3,14),(4,14),(5,14),(6,14),(7,14),(8,14),(10,14)]),(.reg [zfa 99 5 2,zld 100 99 1,zmv 101 1,zLd 102 12 2,zia 103 100 101 Qh,zst 103 102 2]),(.reg [zop 104 (.bsl 3 [TI] []),zfa 105 7 8,zst 105 104 1])]) (zsq [(.reg [zbi 107 .eql 35 (zki 4),zmv 106 107]),(.cond 106 (zsq [(.reg [zfa 109 2 3,zld 110 109 1,zmv 111 1,zia 112 110 111 Qh,zLd 113 112 2,zca 114 171 [113],zmv 108 114,zex 115 108 0,zex 116 108 1,zex 117 108 2,zop 14 (.new 97 (z0s Qh)),zop 15 (.new 114 (z0s QN)),zst 14 115 2,zst 15 116 2,zmv 16 117]),(.reg [zfa 118 5 3,zld 119 118 1,zmv 120 1,zLd 121 14 2,zia 122 119 120 Qh,zst 122 121 2]),(.reg [zfa 123 15 1,zld 124 123 1,zfa 125 7 9,zst 125 124 1])]) (zsq [(.reg [zbi 127 .eql 35 (zki 5),zmv 126 127]),(.cond 126 (.reg [zLd 128 7 14,zfa 129 6 1,zld 130 129 1,zca 131 174 [128,130],zst 7 131 14]) (zsq [(.reg [zbi 133 .eql 35 (zki 6),zmv 132 133]),(.cond 132 (zsq [(.draw [zLd 134 7 14,zfa 135 6 1,zld 136 135 1,zfa 137 2 0,zld 138 137 1,zfa 139 6 1,zld 140 139 1,zia 141 138 140 QK,zfa 142 141 1,zld 143 142 1,zca 144 175 [134,136,143],zst 7 144 14] []),(.reg [zmv 145 1,zbi 146 .eql 145 (zki 0)]),(.cond 146 (.reg [zop 147 (.bsl 3 [TI] []),zfa 148 7 10,zst 148 147 1]) .skip)]) (zsq [(.reg [zbi 150 .eql 35 (zki 7),zmv 149 150]),(.cond 149 (zsq [(.draw [zfa 152 2 3,zld 153 152 1,zmv 154 1,zbi 155 .sub 154 (zki 1),zia 156 153 155 Qh,zLd 157 156 2,zfa 158 6 1,zld 159 158 1,zfa 160 7 10,zld 161 160 1,zop 162 (.build (z0s QN) [(0,1,159),(1,1,161)]),zca 163 173 [157,162],zmv 151 163,zex 164 151 0,zex 165 151 1,zop 17 (.new 97 (z0s Qh)),zst 17 164 2,zmv 18 165] [(0,15),(1,15),(4,15),(5,15),(6,15),(7,15),(8,15),(9,15),(11,15)]),(.reg [zfa 166 5 3,zld 167 166 1,zmv 168 1,zbi 169 .sub 168 (zki 1),zLd 170 17 2,zia 171 167 169 Qh,zst 171 170 2]),(.reg [zop 172 (.bsl 3 [TI] []),zfa 173 7 10,zst 173 172 1])]) .skip)]))]))]))]))]))]))]))]),Qx9])
def QrW:List (ARv × Md):=[(.l 4 4 true,.b [.d,.o 63,.o 97,.d])]
def Qk6:Qb:=TQ 0 0 QrW K
@[irreducible] def Qap (p:Qe) (s:Int) (x1:List Qc) (x2:List Qd) (x3:List Qd) (st0:Int) (st1:List TIns) (st2:List TOp') (st3:Bool) (st4:Bool) (st5:List ZD) (st6:List (List Int)) (st7:List Int) (st8:List Int) (st9:List Int) (st10:List Int) (st11:List (List Int)) (st12:Int) (st13:Bool):Prop:=tawp Qkb 0 Qud (Qk6 K) ⟨[(1,(zci s)),(4,(.p 0 0 0)),(5,(.p 4 0 0)),(7,(.p 5 0 0))],[(0,(.box (Tup.cells QE ([],[],[],[])))),(1,(.sl 63 Qg true x1)),(2,(.sl 97 Qh true x2)),(3,(.sl 97 Qh true x3)),(4,(.box [(zcs QK ((id (α:=Qe) p).1)),(.r Qg 1 0 x1.length),(.r Qh 2 0 x2.length),(.r Qh 3 0 x3.length)])),(5,(.box (Tup.cells Qg (st0,st1,st2,st3,st4,st5,st6,st7,st8,st9,st10,st11,st12,st13))))],6⟩
def QSy:Qb:=Qseq (tawp Qkb 0 Qx9 (Qk6 K)) (Qk6 K)
def QRC:Qb:=Qblk 0 (QSy K)
@[irreducible] def Qj1 (p:Qe) (s:Int) (inn:List Int):Prop:=let z1:=id (α:=Qe) p
 tawp Qkb 0 QzK (QRC K) ⟨[(1,(zci s)),(2,(.p 0 0 0)),(4,(.p 1 0 0)),(5,(.p 5 0 0)),(6,(.p 6 0 0)),(7,(.p 7 0 0)),(11,(zcs [TI] inn))],[(0,(.box (Tup.cells QE p))),(1,(.box (Tup.cells QE ([],[],[],[])))),(2,(.sl 63 Qg true (List.take ((z1.2.1).length) (z1.2.1)))),(3,(.sl 97 Qh true (List.take ((z1.2.2.1).length) (z1.2.2.1)))),(4,(.sl 97 Qh true (List.take ((z1.2.2.2).length) (z1.2.2.2)))),(5,(.box [(zcs QK (z1.1)),(.r Qg 2 0 ((List.take ((z1.2.1).length) (z1.2.1)).length)),(.r Qh 3 0 ((List.take ((z1.2.2.1).length) (z1.2.2.1)).length)),(.r Qh 4 0 ((List.take ((z1.2.2.2).length) (z1.2.2.2)).length))])),(6,(.box [(zci ((Qj p s).1)),(zci ((Qj p s).2))])),(7,(.box (Tup.cells Qg (gtd QH (z1.2.1) (0+(Int.toNat s))))))],8⟩
theorem QJj (p:Qe) (s:Int) (x1:List Qc) (x2:List Qd) (x3:List Qd) (st0:Int) (st1:List TIns) (st2:List TOp') (st3:Bool) (st4:Bool) (st5:List ZD) (st6:List (List Int)) (st7:List Int) (st8:List Int) (st9:List Int) (st10:List Int) (st11:List (List Int)) (st12:Int) (st13:Bool) (h :
 ((((0:Int)≤s∧Int.toNat s<x1.length)∧((0+(Int.toNat s))<x1.length))∧K (Qcb ((id (α:=Qe) p).1,(List.take x1.length ((x1).set (0+(Int.toNat s)) (w64 (st0+(1:Int)),st1,st2,st3,st4,st5,st6,st7,st8,st9,st10,st11,st12,st13))),(List.take x2.length x2),(List.take x3.length (List.drop 0 x3)))))):Hold (Qap K p s x1 x2 x3 st0 st1 st2 st3 st4 st5 st6 st7 st8 st9 st10 st11 st12 st13) :=
 Hold.of (by kernel_rfl) h
theorem QNT (p:Qe) (s:Int) (inn:List Int) (h :
 let z2:=id (α:=Qe) p
 let z3:=gtd QX p.1 (Int.toNat ((Qj p s).2))
 let z1:=Ye (gtd QH (z2.2.1) (0+(Int.toNat s))) ((Qj p s).2) inn (z3.2)
 ((((0:Int)≤(Qj p s).2∧Int.toNat ((Qj p s).2)<(p.1).length)∧(QbC (gtd QH (z2.2.1) (0+(Int.toNat s))) ((Qj p s).2) inn (z3.2)))∧(Qap K p s (List.take ((List.take ((z2.2.1).length) (z2.2.1)).length) (List.take ((z2.2.1).length) (z2.2.1))) (List.take ((List.take ((z2.2.2.1).length) (z2.2.2.1)).length) (List.take ((z2.2.2.1).length) (z2.2.2.1))) (List.take ((List.take ((z2.2.2.2).length) (z2.2.2.2)).length) (List.take ((z2.2.2.2).length) (z2.2.2.2))) (z1.1) (z1.2.1) (z1.2.2.1) (z1.2.2.2.1) (z1.2.2.2.2.1) (z1.2.2.2.2.2.1) (z1.2.2.2.2.2.2.1) (z1.2.2.2.2.2.2.2.1) (z1.2.2.2.2.2.2.2.2.1) (z1.2.2.2.2.2.2.2.2.2.1) (z1.2.2.2.2.2.2.2.2.2.2.1) (z1.2.2.2.2.2.2.2.2.2.2.2.1) (z1.2.2.2.2.2.2.2.2.2.2.2.2.1) (z1.2.2.2.2.2.2.2.2.2.2.2.2.2)))):Hold (Qj1 K p s inn) :=
 Hold.of (by kernel_rfl) h
theorem QQm (p:Qe) (s:Int) (h :
 let z3:=id (α:=Qe) p
 let z1:=gtd QH (z3.2.1) (0+(Int.toNat s))
 let z4:=YX z1 ((Qj p s).2)
 let z6:=List.take ((z3.2.1).length) (z3.2.1)
 let z7:=List.take ((z3.2.2.1).length) (z3.2.2.1)
 let z8:=List.take ((z3.2.2.2).length) (z3.2.2.2)
 let z9:=Yw (gtd Qw p.2.2.1 (Int.toNat s)) ((Qj p s).2,z1.2.2.2.2.2.2.2.2.1)
 let z11:=gtd QX p.1 (Int.toNat ((Qj p s).2))
 let z2:=Zx z1 ((Qj p s).2) (z11.2)
 let z12:=w64 (s-(1:Int))
 let z5:=Int.toNat z12
 let z10:=Yw (gtd Qw p.2.2.2 z5) ((Qj p s).2,z1.2.2.2.2.2.2.2.2.2.2.1)
 let z13:=gtd Qw p.2.2.2 (Int.toNat s)
 let z14:=gtd Qw p.2.2.1 z5
 ((Qx (α:=Qe) p)∧(zif (!(ZV p s)) (K (Qcb (z3.1,z6,z7,(List.take ((z3.2.2.2).length) (List.drop 0 (z3.2.2.2)))))) ((((0:Int)≤s∧Int.toNat s<(z3.2.1).length)∧((0+(Int.toNat s))<(z3.2.1).length))∧(zif (((Qj p s).1)==(1:Int)) ((((0:Int)≤w64 (s-(1:Int))∧Int.toNat z12<(p.2.2.1).length)∧(Qx (α:=Qd) z14))∧((((0:Int)≤w64 (s-(1:Int))∧Int.toNat z12<(z3.2.2.1).length)∧((0+z5)<(z3.2.2.1).length))∧(Qap K p s z6 (List.take ((z3.2.2.1).length) ((z3.2.2.1).set (0+z5) ((Zt z14).1))) z8 (z1.1) (z1.2.1) (z1.2.2.1) (z1.2.2.2.1) (z1.2.2.2.2.1) (z1.2.2.2.2.2.1) (z1.2.2.2.2.2.2.1) (((Zt z14).2.1).2) (z1.2.2.2.2.2.2.2.2.1) (z1.2.2.2.2.2.2.2.2.2.1) (z1.2.2.2.2.2.2.2.2.2.2.1) (z1.2.2.2.2.2.2.2.2.2.2.2.1) (z1.2.2.2.2.2.2.2.2.2.2.2.2.1) (z1.2.2.2.2.2.2.2.2.2.2.2.2.2)))) (zif (((Qj p s).1)==(2:Int)) (zif (s==(0:Int)) (((0:Int)≤(Qj p s).2∧Int.toNat ((Qj p s).2)<(p.1).length)∧(Qj1 K p s (z11.1))) (Qj1 K p s (z1.2.2.2.2.2.2.2.1))) (zif (((Qj p s).1)==(3:Int)) ((((0:Int)≤s∧Int.toNat s<(p.2.2.1).length)∧(Z2 (α:=Qd) (β:=Za) (gtd Qw p.2.2.1 (Int.toNat s)) ((Qj p s).2,z1.2.2.2.2.2.2.2.2.1)))∧((((0:Int)≤s∧Int.toNat s<(z3.2.2.1).length)∧((0+(Int.toNat s))<(z3.2.2.1).length))∧(Qap K p s z6 (List.take ((z3.2.2.1).length) ((z3.2.2.1).set (0+(Int.toNat s)) ((z9.1).1,(List.take (((z9.1).2).length) (List.drop 0 ((z9.1).2)))))) z8 (z1.1) (z1.2.1) (z1.2.2.1) (z1.2.2.2.1) (z1.2.2.2.2.1) (z1.2.2.2.2.2.1) (z1.2.2.2.2.2.2.1) (z1.2.2.2.2.2.2.2.1) ([]:List Int) (z1.2.2.2.2.2.2.2.2.2.1) (z1.2.2.2.2.2.2.2.2.2.2.1) (z1.2.2.2.2.2.2.2.2.2.2.2.1) (z1.2.2.2.2.2.2.2.2.2.2.2.2.1) (z1.2.2.2.2.2.2.2.2.2.2.2.2.2)))) (zif (((Qj p s).1)==(4:Int)) ((((0:Int)≤s∧Int.toNat s<(p.2.2.2).length)∧(Qx (α:=Qd) z13))∧((((0:Int)≤s∧Int.toNat s<(z3.2.2.2).length)∧((0+(Int.toNat s))<(z3.2.2.2).length))∧(Qap K p s z6 z7 (List.take ((z3.2.2.2).length) ((z3.2.2.2).set (0+(Int.toNat s)) ((Zt z13).1))) (z1.1) (z1.2.1) (z1.2.2.1) (z1.2.2.2.1) (z1.2.2.2.2.1) (z1.2.2.2.2.2.1) (z1.2.2.2.2.2.2.1) (z1.2.2.2.2.2.2.2.1) (z1.2.2.2.2.2.2.2.2.1) (((Zt z13).2.1).2) (z1.2.2.2.2.2.2.2.2.2.2.1) (z1.2.2.2.2.2.2.2.2.2.2.2.1) (z1.2.2.2.2.2.2.2.2.2.2.2.2.1) (z1.2.2.2.2.2.2.2.2.2.2.2.2.2)))) (zif (((Qj p s).1)==(5:Int)) ((QbB z1 ((Qj p s).2))∧(Qap K p s z6 z7 z8 (z4.1) (z4.2.1) (z4.2.2.1) (z4.2.2.2.1) (z4.2.2.2.2.1) (z4.2.2.2.2.2.1) (z4.2.2.2.2.2.2.1) (z4.2.2.2.2.2.2.2.1) (z4.2.2.2.2.2.2.2.2.1) (z4.2.2.2.2.2.2.2.2.2.1) (z4.2.2.2.2.2.2.2.2.2.2.1) (z4.2.2.2.2.2.2.2.2.2.2.2.1) (z4.2.2.2.2.2.2.2.2.2.2.2.2.1) (z4.2.2.2.2.2.2.2.2.2.2.2.2.2))) (zif (((Qj p s).1)==(6:Int)) ((((0:Int)≤(Qj p s).2∧Int.toNat ((Qj p s).2)<(p.1).length)∧(Qb7 z1 ((Qj p s).2) (z11.2)))∧(zif (s==(0:Int)) (Qap K p s z6 z7 z8 (z2.1) (z2.2.1) (z2.2.2.1) (z2.2.2.2.1) (z2.2.2.2.2.1) (z2.2.2.2.2.2.1) (z2.2.2.2.2.2.2.1) (z2.2.2.2.2.2.2.2.1) (z2.2.2.2.2.2.2.2.2.1) (z2.2.2.2.2.2.2.2.2.2.1) ([]:List Int) (z2.2.2.2.2.2.2.2.2.2.2.2.1) (z2.2.2.2.2.2.2.2.2.2.2.2.2.1) (z2.2.2.2.2.2.2.2.2.2.2.2.2.2)) (Qap K p s z6 z7 z8 (z2.1) (z2.2.1) (z2.2.2.1) (z2.2.2.2.1) (z2.2.2.2.2.1) (z2.2.2.2.2.2.1) (z2.2.2.2.2.2.2.1) (z2.2.2.2.2.2.2.2.1) (z2.2.2.2.2.2.2.2.2.1) (z2.2.2.2.2.2.2.2.2.2.1) (z2.2.2.2.2.2.2.2.2.2.2.1) (z2.2.2.2.2.2.2.2.2.2.2.2.1) (z2.2.2.2.2.2.2.2.2.2.2.2.2.1) (z2.2.2.2.2.2.2.2.2.2.2.2.2.2)))) (zif (((Qj p s).1)==(7:Int)) ((((0:Int)≤w64 (s-(1:Int))∧Int.toNat z12<(p.2.2.2).length)∧(Z2 (α:=Qd) (β:=Za) (gtd Qw p.2.2.2 z5) ((Qj p s).2,z1.2.2.2.2.2.2.2.2.2.2.1)))∧((((0:Int)≤w64 (s-(1:Int))∧Int.toNat z12<(z3.2.2.2).length)∧((0+z5)<(z3.2.2.2).length))∧(Qap K p s z6 z7 (List.take ((z3.2.2.2).length) ((z3.2.2.2).set (0+z5) ((z10.1).1,(List.take (((z10.1).2).length) (List.drop 0 ((z10.1).2)))))) (z1.1) (z1.2.1) (z1.2.2.1) (z1.2.2.2.1) (z1.2.2.2.2.1) (z1.2.2.2.2.2.1) (z1.2.2.2.2.2.2.1) (z1.2.2.2.2.2.2.2.1) (z1.2.2.2.2.2.2.2.2.1) (z1.2.2.2.2.2.2.2.2.2.1) ([]:List Int) (z1.2.2.2.2.2.2.2.2.2.2.2.1) (z1.2.2.2.2.2.2.2.2.2.2.2.2.1) (z1.2.2.2.2.2.2.2.2.2.2.2.2.2)))) (Qap K p s z6 z7 z8 (z1.1) (z1.2.1) (z1.2.2.1) (z1.2.2.2.1) (z1.2.2.2.2.1) (z1.2.2.2.2.2.1) (z1.2.2.2.2.2.2.1) (z1.2.2.2.2.2.2.2.1) (z1.2.2.2.2.2.2.2.2.1) (z1.2.2.2.2.2.2.2.2.2.1) (z1.2.2.2.2.2.2.2.2.2.2.1) (z1.2.2.2.2.2.2.2.2.2.2.2.1) (z1.2.2.2.2.2.2.2.2.2.2.2.2.1) (z1.2.2.2.2.2.2.2.2.2.2.2.2.2))))))))))))):Hold (tawp Qkb (0+0) QFT (TQ 0 0 QrW K) (Qi [(.a (Tup.cells QE p)),(.c TI s)])) :=
 Hold.of (by kernel_rfl) h
theorem QHK (p:Qe) (s:Int) (hp:Qbm p s):TCon Tryz.prog 92 [(.a (Tup.cells QE p)),(.c TI s)] (Qcb (Zu p s)):=by
 refine Qo rfl fun hb=>tcg (n:=184) (sg:=Qie.sg) Qm (TOk.cons QqW (TOk.cons QG6 (TOk.cons QBA (TOk.cons QYf (TOk.cons QWB (TOk.cons QNc (TOk.cons QNM (TOk.cons QNm TOk.nil)))))))) (by kernel_rfl) (by kernel_rfl) (QQm _ p s ?_)
 have hl_p_0:(p.1).length≤9223372036854775807:=hb.1.1.1
 have hl_p_1:(p.2.1).length≤9223372036854775807:=hb.1.2.1.1
 have hl_p_2:(p.2.2.1).length≤9223372036854775807:=hb.1.2.2.1.1
 have hl_p_3:(p.2.2.2).length≤9223372036854775807:=hb.1.2.2.2.1.1
 conv=>zeta
 have hp':Sz.sz p≤1073741824:=hp
 have hs:Sz.sz p=Sz.sz p.1+Sz.sz p.2.1+Sz.sz p.2.2.1+Sz.sz p.2.2.2:=JR p
 simp only [id,List.drop_zero,List.take_length,Nat.zero_add]
 refine ⟨by unfold Qx;omega,fun h=>R_eq ?_,fun h=>?_⟩
 ·rw [QzF (by simpa using h)]
 have he:ZV p s=true:=by simpa using h
 obtain ⟨k,rfl,hk,h4,ha,hb,hst,hm1,hm2,c1,c3,c4,c7,hkind⟩:=Qtg he
 have hpc:=Qth hst
 have hxs:=Qbb QH p.2.1 k
 have hx:=ZS (gtd QH p.2.1 k)
 have hpl:=YW (Qz (gtd QH p.2.1 k))
 have hq1:=fun j=>Qbb Qw p.2.2.1 j
 have hq2:=fun j=>Qbb Qw p.2.2.2 j
 have d0:Sz.sz QH=0:=rfl
 have d1:Sz.sz Qw=0:=rfl
 have ts:∀ (l:List Qd) (i:Nat) (v:Qd),List.take l.length (l.set i v)=l.set i v:=fun l i v=>List.take_of_length_le (by simp)
 simp only [Int.toNat_natCast]
 have key:∀ (y:Qc) (a b:List Qd),Yl p k (gtd QH p.2.1 k) (Qj p (k:Int))=(y,a,b)→y.1=(gtd QH p.2.1 k).1→Qap (fun r'=>r'=Qcb (Zu p (k:Int))) p (k:Int) p.2.1 a b y.1 y.2.1 y.2.2.1 y.2.2.2.1 y.2.2.2.2.1 y.2.2.2.2.2.1 y.2.2.2.2.2.2.1 y.2.2.2.2.2.2.2.1 y.2.2.2.2.2.2.2.2.1 y.2.2.2.2.2.2.2.2.2.1 y.2.2.2.2.2.2.2.2.2.2.1 y.2.2.2.2.2.2.2.2.2.2.2.1 y.2.2.2.2.2.2.2.2.2.2.2.2.1 y.2.2.2.2.2.2.2.2.2.2.2.2.2:=by
  intro y a b hy hpy
  have hw:w64 (y.1+1)=y.1+1:=by rw [hpy];exact Qp (by ((try simp only [sPc,Qz,sOps,Qq,Qv,Qf,QD,sX,sY,sG,sD,QC,QB,sSat,QF,QI,Qt,Qu] at *);omega)) (by ((try simp only [sPc,Qz,sOps,Qq,Qv,Qf,QD,sX,sY,sG,sD,QC,QB,sSat,QF,QI,Qt,Qu] at *);omega))
  refine (QJj (fun r'=>r'=Qcb (Zu p (k:Int))) p (k:Int) _ _ _ y.1 y.2.1 y.2.2.1 y.2.2.2.1 y.2.2.2.2.1 y.2.2.2.2.2.1 y.2.2.2.2.2.2.1 y.2.2.2.2.2.2.2.1 y.2.2.2.2.2.2.2.2.1 y.2.2.2.2.2.2.2.2.2.1 y.2.2.2.2.2.2.2.2.2.2.1 y.2.2.2.2.2.2.2.2.2.2.2.1 y.2.2.2.2.2.2.2.2.2.2.2.2.1 y.2.2.2.2.2.2.2.2.2.2.2.2.2 ?_).h
  simp only [id,List.drop_zero,List.take_length,Nat.zero_add,Int.toNat_natCast]
  refine ⟨⟨⟨by omega,hk⟩,hk⟩,R_eq ?_⟩
  rw [Qtv he rfl hy hpy,hw,List.take_of_length_le (by simp)]
 have k2:(Qj p (k:Int)).1=2→∀ inn,inn=(if k=0 then (gtd QX p.1 (Qj p (k:Int)).2.toNat).1 else sX (gtd QH p.2.1 k))→Qj1 (fun r'=>r'=Qcb (Zu p (k:Int))) p (k:Int) inn:=by
  intro g inn hi
  refine (QNT (fun r'=>r'=Qcb (Zu p (k:Int))) p (k:Int) inn ?_).h
  conv=>zeta
  simp only [id,List.drop_zero,List.take_length,Nat.zero_add,Int.toNat_natCast]
  refine ⟨⟨⟨hm1,by omega⟩,by unfold QbC;omega⟩,?_⟩
  exact key (Ye (gtd QH p.2.1 k) (Qj p (k:Int)).2 inn (gtd QX p.1 (Qj p (k:Int)).2.toNat).2) _ _ (by rw [pi2 g,hi]) (QzB _ _ _ _)
 refine ⟨⟨⟨by omega,hk⟩,hk⟩,?_⟩
 refine ⟨fun g=>?_,fun n1=>?_⟩
 ·have g:(Qj p (k:Int)).1=1:=by simpa using g
  have g1:=c1 g
  have e:w64 ((k:Int)-1)=((k-1:Nat):Int):=by rw [Qp (by omega) (by omega)];omega
  rw [e]
  simp only [Int.toNat_natCast]
  rw [ts]
  exact ⟨⟨⟨by omega,by omega⟩,by unfold Qx;have:=hq1 (k-1);omega⟩,⟨⟨by omega,by omega⟩,by omega⟩,key (setX (gtd QH p.2.1 k) (Zt (gtd Qw p.2.2.1 (k-1))).2.1.2) _ _ (pi1 g) rfl⟩
 refine ⟨fun g=>?_,fun n2=>?_⟩
 ·have g:(Qj p (k:Int)).1=2:=by simpa using g
  refine ⟨fun hz=>⟨⟨hm1,by omega⟩,k2 g _ ?_⟩,fun hz=>k2 g _ ?_⟩
  ·rw [if_pos (by simp at hz;omega)]
  ·rw [if_neg (by simp at hz;omega)]
 refine ⟨fun g=>?_,fun n3=>?_⟩
 ·have g:(Qj p (k:Int)).1=3:=by simpa using g
  have g1:=c3 g
  rw [ts]
  refine ⟨⟨⟨by omega,by omega⟩,?_⟩,⟨⟨by omega,by omega⟩,by omega⟩,key (setY (gtd QH p.2.1 k) []) _ _ (pi3 g) rfl⟩
  unfold Z2;simp only [QaC,ZF];have:=hq1 (k);((try simp only [sPc,Qz,sOps,Qq,Qv,Qf,QD,sX,sY,sG,sD,QC,QB,sSat,QF,QI,Qt,Qu] at *);omega)
 refine ⟨fun g=>?_,fun n4=>?_⟩
 ·have g:(Qj p (k:Int)).1=4:=by simpa using g
  have g1:=c4 g
  rw [ts]
  exact ⟨⟨⟨by omega,by omega⟩,by unfold Qx;have:=hq2 (k);omega⟩,⟨⟨by omega,by omega⟩,by omega⟩,key (setG (gtd QH p.2.1 k) (Zt (gtd Qw p.2.2.2 k)).2.1.2) _ _ (pi4 g) rfl⟩
 refine ⟨fun g=>?_,fun n5=>?_⟩
 ·have g:(Qj p (k:Int)).1=5:=by simpa using g
  exact ⟨by unfold QbB;omega,key (YX (gtd QH p.2.1 k) (Qj p (k:Int)).2) _ _ (pi5 g) (Qwl _ _)⟩
 refine ⟨fun g=>?_,fun n6=>?_⟩
 ·have g:(Qj p (k:Int)).1=6:=by simpa using g
  refine ⟨⟨⟨hm1,by omega⟩,by unfold Qb7;omega⟩,fun hz=>?_,fun hz=>?_⟩
  ·exact key (setD (Zx (gtd QH p.2.1 k) (Qj p (k:Int)).2 (gtd QX p.1 (Qj p (k:Int)).2.toNat).2) []) _ _ (by rw [pi6 g,if_pos (by simp at hz;omega)]) (QiZ _ _ _)
  ·exact key (Zx (gtd QH p.2.1 k) (Qj p (k:Int)).2 (gtd QX p.1 (Qj p (k:Int)).2.toNat).2) _ _ (by rw [pi6 g,if_neg (by simp at hz;omega)]) (QiZ _ _ _)
 refine ⟨fun g=>?_,fun n7=>?_⟩
 ·have g:(Qj p (k:Int)).1=7:=by simpa using g
  have g1:=c7 g
  have e:w64 ((k:Int)-1)=((k-1:Nat):Int):=by rw [Qp (by omega) (by omega)];omega
  rw [e]
  simp only [Int.toNat_natCast]
  rw [ts]
  refine ⟨⟨⟨by omega,by omega⟩,?_⟩,⟨⟨by omega,by omega⟩,by omega⟩,key (setD (gtd QH p.2.1 k) []) _ _ (pi7 g) rfl⟩
  unfold Z2;simp only [QaC,ZF];have:=hq2 (k-1);((try simp only [sPc,Qz,sOps,Qq,Qv,Qf,QD,sX,sY,sG,sD,QC,QB,sSat,QF,QI,Qt,Qu] at *);omega)
 ·simp at n1 n2 n3 n4 n5 n6 n7
  exact key (gtd QH p.2.1 k) _ _ (pi8 (by omega)) rfl
theorem Qub:Ql Tryz.prog Qie:=Qn fun x h=>QHK x.1 x.2.1 h
end
end Go.Proofs.YtjbdljkhbglnhaaGreat.Am

