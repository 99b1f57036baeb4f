/- -/
import Derived.Test.YtjbdljkhbglnhaaGreatZIPS
import Derived.Test.YtjbdljkhbglnhaaGreatZIGE
namespace Go.Proofs.YtjbdljkhbglnhaaGreat.Am
open Go Go.RowKit Go.Proofs.YtjbdljkhbglnhaaGreat
set_option linter.all false
noncomputable section
variable (K:TRes→Prop)
def Qae (t:Bool):TRes:=zre (zcb t)
def QpE:TRow:=Qk 100 [(.c (.sl Qh)),(.c (.sl Qh))] fun x=>(some (Qd2 x.1 x.2.1),Qae (m_eq (α:=List Qd) x.1 x.2.1))
def QdN:List TRow:=[Qcr]
def QuK:TCode :=
 (zsq [(zsq [(.reg [zmv 44 6,zmv 45 0,zmv 46 5,zia 47 45 46 Qh,zfa 48 47 1,zld 49 48 1,zle 50 49,zbi 51 .lss 44 50]),(.cond 51 .skip (.exit 2))]),(.block 3 (zsq [(.draw [zmv 54 0,zmv 55 5,zia 56 54 55 Qh,zfa 57 56 1,zld 58 57 1,zmv 59 6,zia 60 58 59 QN,zfa 61 60 0,zld 62 61 1,zmv 63 1,zmv 64 5,zia 65 63 64 Qh,zfa 66 65 1,zld 67 66 1,zmv 68 6,zia 69 67 68 QN,zfa 70 69 0,zld 71 70 1,zbi 72 .neq 62 71,zmv 73 72,.grp 73 false [zmv 74 0,zmv 75 5,zia 76 74 75 Qh,zfa 77 76 1,zld 78 77 1,zmv 79 6,zia 80 78 79 QN,zfa 81 80 1,zld 82 81 1,zmv 83 1,zmv 84 5,zia 85 83 84 Qh,zfa 86 85 1,zld 87 86 1,zmv 88 6,zia 89 87 88 QN,zfa 90 89 1,zld 91 90 1,zca 92 102 [82,91],zno 93 92] 94 93] []),(.cond 94 (zsq [(.reg [zmv 4 (zkb false)]),.ret]) .skip)])),(.reg [zmv 52 6,zbi 53 .add 52 (zki 1),zmv 6 53])])
def Qwc:List (Nat × Md):=zdl [0,1,5,6]
def QsC:TCode :=
 (.reg [zmv 16 5,zbi 17 .add 16 (zki 1),zmv 5 17])
def Qn8:TCode :=
 (zsq [(zsq [(.reg [zmv 12 5,zmv 13 0,zle 14 13,zbi 15 .lss 12 14]),(.cond 15 .skip (.exit 0))]),(.block 1 (zsq [(zsq [(.draw [zmv 18 0,zmv 19 5,zia 20 18 19 Qh,zfa 21 20 0,zld 22 21 1,zmv 23 1,zmv 24 5,zia 25 23 24 Qh,zfa 26 25 0,zld 27 26 1,zbi 28 .neq 22 27,zmv 29 28,.grp 29 false [zmv 30 0,zmv 31 5,zia 32 30 31 Qh,zfa 33 32 1,zld 34 33 1,zle 35 34,zmv 36 1,zmv 37 5,zia 38 36 37 Qh,zfa 39 38 1,zld 40 39 1,zle 41 40,zbi 42 .neq 35 41] 43 42] []),(.cond 43 (zsq [(.reg [zmv 4 (zkb false)]),.ret]) .skip)]),(.reg [zmv 6 (zki 0)]),(.block 2 (.loop Qwc QuK))])),QsC])
def QiI:List (Nat × Md):=zdl [0,1,5]
def QDu:TCode :=
 (zsq [(.reg [zmv 4 (zkb true)]),.ret])
def QEk:TCode :=
 (zsq [(.reg [zmv 4 (zkb false)]),(zsq [(.reg [zmv 7 0,zle 8 7,zmv 9 1,zle 10 9,zbi 11 .neq 8 10]),(.cond 11 (zsq [(.reg [zmv 4 (zkb false)]),.ret]) .skip)]),(zsq [(.reg [zmv 5 (zki 0)]),(.block 0 (.loop QiI Qn8))]),QDu])
def QC1:List (ARv × Md):=[(.t 4,.one .d)]
def Qwo:Qb:=TQ 0 0 QC1 K
def QW9:Qb:=Qseq (tawp QdN 0 QDu (Qwo K)) (Qwo K)
def QkX:Qb:=Qblk 0 (QW9 K)
def QyI:Qb:=Qseq (fun s'=>Loop QdN 0 QiI Qn8 (QkX K) (gc 0 QiI s')) (QkX K)
def QWk:Qb:=Qseq (tawp QdN 0 QsC (QyI K)) (QyI K)
def QOL:Qb:=Qblk 1 (QWk K)
def QEY:Qb:=Qblk 2 (QOL K)
def Qit (a:List Qd) (b:List Qd) (k:Int) (i:Int):Prop:=Loop QdN 0 Qwc QuK (QEY K) ⟨[(0,(zcs Qh a)),(1,(zcs Qh b)),(5,(zci i)),(6,(zci k))],[],0⟩
def Qjo (a:List Qd) (b:List Qd) (i:Int):Prop:=Loop QdN 0 QiI Qn8 (QkX K) ⟨[(0,(zcs Qh a)),(1,(zcs Qh b)),(5,(zci i))],[],0⟩
theorem QAJ (a:List Qd) (b:List Qd) (k:Int) (i:Int) (h :
 (((0:Int)≤i∧Int.toNat i<a.length)∧(zif (decide (k<(((gtd Qw a (Int.toNat i)).2).length:Int))) ((((0:Int)≤i∧Int.toNat i<a.length)∧(((0:Int)≤k∧Int.toNat k<((gtd Qw a (Int.toNat i)).2).length)∧(((0:Int)≤i∧Int.toNat i<b.length)∧(((0:Int)≤k∧Int.toNat k<((gtd Qw b (Int.toNat i)).2).length)∧((!(((gtd ((0,[]):Za) ((gtd Qw a (Int.toNat i)).2) (Int.toNat k)).1) != ((gtd ((0,[]):Za) ((gtd Qw b (Int.toNat i)).2) (Int.toNat k)).1)))=true→(((0:Int)≤i∧Int.toNat i<a.length)∧(((0:Int)≤k∧Int.toNat k<((gtd Qw a (Int.toNat i)).2).length)∧(((0:Int)≤i∧Int.toNat i<b.length)∧((0:Int)≤k∧Int.toNat k<((gtd Qw b (Int.toNat i)).2).length)))))))))∧(zif ((((gtd ((0,[]):Za) ((gtd Qw a (Int.toNat i)).2) (Int.toNat k)).1) != ((gtd ((0,[]):Za) ((gtd Qw b (Int.toNat i)).2) (Int.toNat k)).1))||(!(m_eq (α:=List Int) ((gtd ((0,[]):Za) ((gtd Qw a (Int.toNat i)).2) (Int.toNat k)).2) ((gtd ((0,[]):Za) ((gtd Qw b (Int.toNat i)).2) (Int.toNat k)).2)))) (K (Qae false)) (Qit K a b (w64 (k+(1:Int))) i))) (Qjo K a b (w64 (i+(1:Int))))))):Qit K a b k i :=
 Loop.of (by kernel_rfl) h
theorem QDD (a:List Qd) (b:List Qd) (i:Int) (h :
 (zif (decide (i<(a.length:Int))) ((((0:Int)≤i∧Int.toNat i<a.length)∧(((0:Int)≤i∧Int.toNat i<b.length)∧((!(((gtd Qw a (Int.toNat i)).1) != ((gtd Qw b (Int.toNat i)).1)))=true→(((0:Int)≤i∧Int.toNat i<a.length)∧((0:Int)≤i∧Int.toNat i<b.length)))))∧(zif ((((gtd Qw a (Int.toNat i)).1) != ((gtd Qw b (Int.toNat i)).1))||((((gtd Qw a (Int.toNat i)).2).length:Int) != (((gtd Qw b (Int.toNat i)).2).length:Int))) (K (Qae false)) (Qit K a b 0 i))) (K (Qae true)))):Qjo K a b i :=
 Loop.of (by kernel_rfl) h
theorem QJ7 (a:List Qd) (b:List Qd) (h :
 (zif ((a.length:Int) != (b.length:Int)) (K (Qae false)) (Qjo K a b 0))):Hold (tawp QdN (0+0) QEk (TQ 0 0 QC1 K) (Qi [(.c (.sl Qh) a),(.c (.sl Qh) b)])) :=
 Hold.of (by kernel_rfl) h
theorem QIL (a:List Qd) (b:List Qd) (hp:Qd2 a b):TCon Tryz.prog 100 [(.c (.sl Qh) a),(.c (.sl Qh) b)] (Qae (m_eq (α:=List Qd) a b)):=by
 refine Qo rfl fun hb=>tcg (n:=95) (sg:=QpE.sg) Qm (TOk.cons Qe2 TOk.nil) (by kernel_rfl) (by kernel_rfl) (QJ7 _ a b ?_)
 have hl_a:a.length≤9223372036854775807:=hb.1.1
 have hl_b:b.length≤9223372036854775807:=hb.2.1.1
 have hf:a≠b→false=(m_eq (α:=List Qd) a b):=fun h=>(decide_eq_false h).symm
 refine ⟨fun h=>R_eq (hf ?_),fun h=>?_⟩
 ·rintro rfl;simp at h
 have hl:a.length=b.length:=by simp only [bne_eq_false_iff_eq] at h;omega
 have hal:=hb.1.1
 refine QcM Qw hl (fun k=>Qjo (fun r'=>r'=Qae (m_eq (α:=List Qd) a b)) a b (k:Int)) (fun he=>?_) (fun k hk ih hne=>?_)
 ·exact QDD (fun r'=>r'=Qae (m_eq (α:=List Qd) a b)) a b _ ⟨fun h=>by simp at h,fun _=>R_eq (decide_eq_true he).symm⟩
 ·refine QDD (fun r'=>r'=Qae (m_eq (α:=List Qd) a b)) a b _ ⟨fun _=>?_,fun h=>by simp at h;omega⟩
  rw [Int.toNat_natCast]
  refine ⟨⟨⟨by omega,hk⟩,⟨by omega,by omega⟩,fun _=>⟨⟨by omega,hk⟩,by omega,by omega⟩⟩,fun h=>R_eq (hf (hne ?_)),fun h=>?_⟩
  ·intro he;rw [he] at h;simp at h
  simp only [Bool.or_eq_false_iff,bne_eq_false_iff_eq] at h
  have hl2:(gtd Qw a k).2.length=(gtd Qw b k).2.length:=by have:=h.2;omega
  have hw:w64 ((k:Int)+1)=((k+1:Nat):Int):=sc1 (by omega)
  refine QcM ((0,[]):Za) hl2 (fun j=>Qit (fun r'=>r'=Qae (m_eq (α:=List Qd) a b)) a b (j:Int) (k:Int)) (fun he=>?_) (fun j hj ih2 hne2=>?_)
  ·refine QAJ (fun r'=>r'=Qae (m_eq (α:=List Qd) a b)) a b _ _ ?_
   rw [Int.toNat_natCast]
   refine ⟨⟨by omega,hk⟩,fun h=>by simp at h,fun _=>?_⟩
   rw [hw]
   exact ih (Prod.ext h.1 he)
  ·refine QAJ (fun r'=>r'=Qae (m_eq (α:=List Qd) a b)) a b _ _ ?_
   rw [Int.toNat_natCast,Int.toNat_natCast]
   have hq1:=Qe6 (Jb hk Qw)
   have hq2:=YW (gtd Qw a k).2
   have hq3:Sz.sz (gtd Qw a k).2≤Sz.sz (gtd Qw a k):=by simp only [ZO];omega
   have hps:Sz.sz a≤2147483648:=hp
   have hjb:j<9223372036854775807:=by omega
   refine ⟨⟨by omega,hk⟩,fun _=>⟨⟨⟨by omega,hk⟩,⟨by omega,hj⟩,⟨by omega,by omega⟩,⟨by omega,by omega⟩,fun _=>⟨⟨by omega,hk⟩,⟨by omega,hj⟩,⟨by omega,by omega⟩,by omega,by omega⟩⟩,fun h3=>R_eq (hf (hne ?_)),fun h3=>?_⟩,fun h=>by simp at h;omega⟩
   ·intro he;rw [he] at h3;simp [m_eq] at h3
   ·rw [sc1 hjb]
    refine ih2 (Prod.ext ?_ ?_)
    ·simp [m_eq] at h3;exact h3.1
    ·simp [m_eq] at h3;exact h3.2
theorem QEu:Ql Tryz.prog QpE:=Qn fun x h=>QIL x.1 x.2.1 h
def Jp (t:Bool):TRes:=zre (zcb t)
def Ql3:TRow:=Qk 101 [(.a Qg),(.a Qg)] fun x=>(none,Jp (m_eq (α:=Qc) x.1 x.2.1))
def Qdq:List TRow:=[Qg7,Qcr,QpY,Qpq]
def QrF:TCode :=
 (zsq [(zsq [(.reg [zmv 102 5,zfa 103 2 1,zld 104 103 1,zle 105 104,zbi 106 .lss 102 105]),(.cond 106 .skip (.exit 0))]),(.block 1 (zsq [(.draw [zfa 109 2 1,zld 110 109 1,zmv 111 5,zia 112 110 111 QR,zLd 113 112 2,zfa 114 3 1,zld 115 114 1,zmv 116 5,zia 117 115 116 QR,zLd 118 117 2,zop 119 (.cmpa 2 true 113 118)] []),(.cond 119 (zsq [(.reg [zmv 4 (zkb false)]),.ret]) .skip)])),(.reg [zmv 107 5,zbi 108 .add 107 (zki 1),zmv 5 108])])
def Qvp:List (Nat × Md):=[(2,.b (zds 14)),(3,.b (zds 14)),(5,.one .d)]
def Qt4:TCode :=
 (zsq [(zsq [(.reg [zmv 120 6,zfa 121 2 2,zld 122 121 1,zle 123 122,zbi 124 .lss 120 123]),(.cond 124 .skip (.exit 2))]),(.block 3 (zsq [(.draw [zfa 127 2 2,zld 128 127 1,zmv 129 6,zia 130 128 129 ctOp,zLd 131 130 4,zfa 132 3 2,zld 133 132 1,zmv 134 6,zia 135 133 134 ctOp,zLd 136 135 4,zca 137 179 [131,136],zno 138 137] []),(.cond 138 (zsq [(.reg [zmv 4 (zkb false)]),.ret]) .skip)])),(.reg [zmv 125 6,zbi 126 .add 125 (zki 1),zmv 6 126])])
def Qsg:List (Nat × Md):=[(2,.b (zds 14)),(3,.b (zds 14)),(6,.one .d)]
def QA7:TCode :=
 (zsq [(zsq [(.reg [zmv 139 7,zfa 140 2 5,zld 141 140 1,zle 142 141,zbi 143 .lss 139 142]),(.cond 143 .skip (.exit 4))]),(.block 5 (zsq [(.draw [zfa 146 2 5,zld 147 146 1,zmv 148 7,zia 149 147 148 QW,zfa 150 149 0,zld 151 150 1,zfa 152 3 5,zld 153 152 1,zmv 154 7,zia 155 153 154 QW,zfa 156 155 0,zld 157 156 1,zbi 158 .neq 151 157,zmv 159 158,.grp 159 false [zfa 160 2 5,zld 161 160 1,zmv 162 7,zia 163 161 162 QW,zfa 164 163 1,zld 165 164 1,zfa 166 3 5,zld 167 166 1,zmv 168 7,zia 169 167 168 QW,zfa 170 169 1,zld 171 170 1,zca 172 47 [165,171],zno 173 172] 174 173] []),(.cond 174 (zsq [(.reg [zmv 4 (zkb false)]),.ret]) .skip)])),(.reg [zmv 144 7,zbi 145 .add 144 (zki 1),zmv 7 145])])
def QwE:List (Nat × Md):=[(2,.b (zds 14)),(3,.b (zds 14)),(7,.one .d)]
def QAt:TCode :=
 (zsq [(.reg [zmv 4 (zkb true)]),.ret])
def Qxe:TCode :=
 (zsq [(zsq [(.reg [zmv 7 (zki 0)]),(.block 4 (.loop QwE QA7))]),QAt])
def Qyo:TCode :=
 (zsq [(zsq [(.reg [zmv 6 (zki 0)]),(.block 2 (.loop Qsg Qt4))]),Qxe])
def QPC:TCode :=
 (zsq [(.reg [zop 2 (.box 63 0 14),zop 3 (.box 63 1 14),zmv 4 (zkb false)]),(zsq [(.reg [zfa 8 2 0,zld 9 8 1,zfa 10 3 0,zld 11 10 1,zbi 12 .neq 9 11,zmv 13 12,.grp 13 false [zfa 14 2 3,zld 15 14 1,zfa 16 3 3,zld 17 16 1,zop 18 (.eqb true 15 17)] 19 18,zmv 20 19,.grp 20 false [zfa 21 2 4,zld 22 21 1,zfa 23 3 4,zld 24 23 1,zop 25 (.eqb true 22 24)] 26 25,zmv 27 26,.grp 27 false [zfa 28 2 1,zld 29 28 1,zle 30 29,zfa 31 3 1,zld 32 31 1,zle 33 32,zbi 34 .neq 30 33] 35 34,zmv 36 35,.grp 36 false [zfa 37 2 2,zld 38 37 1,zle 39 38,zfa 40 3 2,zld 41 40 1,zle 42 41,zbi 43 .neq 39 42] 44 43,zmv 45 44,.grp 45 false [zfa 46 2 5,zld 47 46 1,zle 48 47,zfa 49 3 5,zld 50 49 1,zle 51 50,zbi 52 .neq 48 51] 53 52,zmv 54 53,.grp 54 false [zfa 55 2 6,zld 56 55 1,zfa 57 3 6,zld 58 57 1,zca 59 47 [56,58],zno 60 59] 61 60,zmv 62 61,.grp 62 false [zfa 63 2 7,zld 64 63 1,zfa 65 3 7,zld 66 65 1,zca 67 102 [64,66],zno 68 67] 69 68,zmv 70 69,.grp 70 false [zfa 71 2 8,zld 72 71 1,zfa 73 3 8,zld 74 73 1,zca 75 102 [72,74],zno 76 75] 77 76,zmv 78 77,.grp 78 false [zfa 79 2 9,zld 80 79 1,zfa 81 3 9,zld 82 81 1,zca 83 102 [80,82],zno 84 83] 85 84,zmv 86 85,.grp 86 false [zfa 87 2 10,zld 88 87 1,zfa 89 3 10,zld 90 89 1,zca 91 102 [88,90],zno 92 91] 93 92,zmv 94 93,.grp 94 false [zfa 95 2 11,zLd 96 95 3,zfa 97 3 11,zLd 98 97 3,zca 99 24 [96,98],zno 100 99] 101 100]),(.cond 101 (zsq [(.reg [zmv 4 (zkb false)]),.ret]) .skip)]),(zsq [(.reg [zmv 5 (zki 0)]),(.block 0 (.loop Qvp QrF))]),Qyo])
def QuJ:List (ARv × Md):=[(.t 4,.one .d)]
def Qes:Qb:=TQ 0 0 QuJ K
def QIS:Qb:=Qseq (tawp Qdq 0 QAt (Qes K)) (Qes K)
def QNa:Qb:=Qblk 4 (QIS K)
def QiK (a:Qc) (b:Qc) (i2:Int):Prop:=Loop Qdq 0 QwE QA7 (QNa K) ⟨[(2,(.p 0 0 0)),(3,(.p 1 0 0)),(7,(zci i2))],[(0,(.box (Tup.cells Qg a))),(1,(.box (Tup.cells Qg b)))],2⟩
def QGI:Qb:=Qseq (tawp Qdq 0 Qxe (Qes K)) (Qes K)
def QTO:Qb:=Qblk 2 (QGI K)
def Qjx (a:Qc) (b:Qc) (i1:Int):Prop:=Loop Qdq 0 Qsg Qt4 (QTO K) ⟨[(2,(.p 0 0 0)),(3,(.p 1 0 0)),(6,(zci i1))],[(0,(.box (Tup.cells Qg a))),(1,(.box (Tup.cells Qg b)))],2⟩
def QHy:Qb:=Qseq (tawp Qdq 0 Qyo (Qes K)) (Qes K)
def QLa:Qb:=Qblk 0 (QHy K)
def Qgt (a:Qc) (b:Qc) (i:Int):Prop:=Loop Qdq 0 Qvp QrF (QLa K) ⟨[(2,(.p 0 0 0)),(3,(.p 1 0 0)),(5,(zci i))],[(0,(.box (Tup.cells Qg a))),(1,(.box (Tup.cells Qg b)))],2⟩
theorem Qzf (a:Qc) (b:Qc) (i2:Int) (h :
 (zif (decide (i2<((a.2.2.2.2.2.1).length:Int))) ((((0:Int)≤i2∧Int.toNat i2<(a.2.2.2.2.2.1).length)∧(((0:Int)≤i2∧Int.toNat i2<(b.2.2.2.2.2.1).length)∧((!(((gtd Zp a.2.2.2.2.2.1 (Int.toNat i2)).1) != ((gtd Zp b.2.2.2.2.2.1 (Int.toNat i2)).1)))=true→(((0:Int)≤i2∧Int.toNat i2<(a.2.2.2.2.2.1).length)∧((0:Int)≤i2∧Int.toNat i2<(b.2.2.2.2.2.1).length)))))∧(zif ((((gtd Zp a.2.2.2.2.2.1 (Int.toNat i2)).1) != ((gtd Zp b.2.2.2.2.2.1 (Int.toNat i2)).1))||(!(m_eq (α:=List (List Int)) ((gtd Zp a.2.2.2.2.2.1 (Int.toNat i2)).2) ((gtd Zp b.2.2.2.2.2.1 (Int.toNat i2)).2)))) (K (Jp false)) (QiK K a b (w64 (i2+(1:Int)))))) (K (Jp true)))):QiK K a b i2 :=
 Loop.of (by kernel_rfl) h
theorem Qtm (a:Qc) (b:Qc) (i1:Int) (h :
 (zif (decide (i1<((a.2.2.1).length:Int))) ((((0:Int)≤i1∧Int.toNat i1<(a.2.2.1).length)∧((0:Int)≤i1∧Int.toNat i1<(b.2.2.1).length))∧(zif (!(m_eq (α:=TOp') (gtd dOp a.2.2.1 (Int.toNat i1)) (gtd dOp b.2.2.1 (Int.toNat i1)))) (K (Jp false)) (Qjx K a b (w64 (i1+(1:Int)))))) (QiK K a b 0))):Qjx K a b i1 :=
 Loop.of (by kernel_rfl) h
theorem QuQ (a:Qc) (b:Qc) (i:Int) (h :
 (zif (decide (i<((a.2.1).length:Int))) ((((0:Int)≤i∧Int.toNat i<(a.2.1).length)∧((0:Int)≤i∧Int.toNat i<(b.2.1).length))∧(zif (!decide (([(gtd dIns a.2.1 (Int.toNat i)).1,(gtd dIns a.2.1 (Int.toNat i)).2]:List Int)=[(gtd dIns b.2.1 (Int.toNat i)).1,(gtd dIns b.2.1 (Int.toNat i)).2])) (K (Jp false)) (Qgt K a b (w64 (i+(1:Int)))))) (Qjx K a b 0))):Qgt K a b i :=
 Loop.of (by kernel_rfl) h
theorem QWm (a:Qc) (b:Qc) (h :
 (zif ((((((((((((a.1 != b.1)||(!(a.2.2.2.1==b.2.2.2.1)))||(!(a.2.2.2.2.1==b.2.2.2.2.1)))||(((a.2.1).length:Int) != ((b.2.1).length:Int)))||(((a.2.2.1).length:Int) != ((b.2.2.1).length:Int)))||(((a.2.2.2.2.2.1).length:Int) != ((b.2.2.2.2.2.1).length:Int)))||(!(m_eq (α:=List (List Int)) a.2.2.2.2.2.2.1 b.2.2.2.2.2.2.1)))||(!(m_eq (α:=List Int) a.2.2.2.2.2.2.2.1 b.2.2.2.2.2.2.2.1)))||(!(m_eq (α:=List Int) a.2.2.2.2.2.2.2.2.1 b.2.2.2.2.2.2.2.2.1)))||(!(m_eq (α:=List Int) a.2.2.2.2.2.2.2.2.2.1 b.2.2.2.2.2.2.2.2.2.1)))||(!(m_eq (α:=List Int) a.2.2.2.2.2.2.2.2.2.2.1 b.2.2.2.2.2.2.2.2.2.2.1)))||(!(m_eq (α:=Q1) a.2.2.2.2.2.2.2.2.2.2.2 b.2.2.2.2.2.2.2.2.2.2.2))) (K (Jp false)) (Qgt K a b 0))):Hold (tawp Qdq (0+0) QPC (TQ 0 0 QuJ K) (Qi [(.a (Tup.cells Qg a)),(.a (Tup.cells Qg b))])) :=
 Hold.of (by kernel_rfl) h
theorem QFa (a:Qc) (b:Qc):TCon Tryz.prog 101 [(.a (Tup.cells Qg a)),(.a (Tup.cells Qg b))] (Jp (m_eq (α:=Qc) a b)):=by
 refine Qo rfl fun hb=>tcg (n:=175) (sg:=Ql3.sg) Qm (TOk.cons QyM (TOk.cons Qe2 (TOk.cons QPs (TOk.cons QFo TOk.nil)))) (by kernel_rfl) (by kernel_rfl) (QWm _ a b ?_)
 have hl_a_1:(a.2.1).length≤9223372036854775807:=hb.1.2.1.1
 have hl_a_2:(a.2.2.1).length≤9223372036854775807:=hb.1.2.2.1.1
 have hl_a_5:(a.2.2.2.2.2.1).length≤9223372036854775807:=hb.1.2.2.2.2.2.1.1
 have hl_a_6:(a.2.2.2.2.2.2.1).length≤9223372036854775807:=hb.1.2.2.2.2.2.2.1.1
 have hl_a_7:(a.2.2.2.2.2.2.2.1).length≤9223372036854775807:=hb.1.2.2.2.2.2.2.2.1.1
 have hl_a_8:(a.2.2.2.2.2.2.2.2.1).length≤9223372036854775807:=hb.1.2.2.2.2.2.2.2.2.1.1
 have hl_a_9:(a.2.2.2.2.2.2.2.2.2.1).length≤9223372036854775807:=hb.1.2.2.2.2.2.2.2.2.2.1.1
 have hl_a_10:(a.2.2.2.2.2.2.2.2.2.2.1).length≤9223372036854775807:=hb.1.2.2.2.2.2.2.2.2.2.2.1.1
 have hl_a_11:(a.2.2.2.2.2.2.2.2.2.2.2.1).length≤9223372036854775807:=hb.1.2.2.2.2.2.2.2.2.2.2.2.1.1
 have hl_b_1:(b.2.1).length≤9223372036854775807:=hb.2.1.2.1.1
 have hl_b_2:(b.2.2.1).length≤9223372036854775807:=hb.2.1.2.2.1.1
 have hl_b_5:(b.2.2.2.2.2.1).length≤9223372036854775807:=hb.2.1.2.2.2.2.2.1.1
 have hl_b_6:(b.2.2.2.2.2.2.1).length≤9223372036854775807:=hb.2.1.2.2.2.2.2.2.1.1
 have hl_b_7:(b.2.2.2.2.2.2.2.1).length≤9223372036854775807:=hb.2.1.2.2.2.2.2.2.2.1.1
 have hl_b_8:(b.2.2.2.2.2.2.2.2.1).length≤9223372036854775807:=hb.2.1.2.2.2.2.2.2.2.2.1.1
 have hl_b_9:(b.2.2.2.2.2.2.2.2.2.1).length≤9223372036854775807:=hb.2.1.2.2.2.2.2.2.2.2.2.1.1
 have hl_b_10:(b.2.2.2.2.2.2.2.2.2.2.1).length≤9223372036854775807:=hb.2.1.2.2.2.2.2.2.2.2.2.2.1.1
 have hl_b_11:(b.2.2.2.2.2.2.2.2.2.2.2.1).length≤9223372036854775807:=hb.2.1.2.2.2.2.2.2.2.2.2.2.2.1.1
 have hf:a≠b→false=(m_eq (α:=Qc) a b):=fun h=>(decide_eq_false h).symm
 have hb1:a.2.1.length≤9223372036854775807:=hb.1.2.1.1
 have hb2:a.2.2.1.length≤9223372036854775807:=hb.1.2.2.1.1
 have hb5:a.2.2.2.2.2.1.length≤9223372036854775807:=hb.1.2.2.2.2.2.1.1
 refine ⟨fun h=>R_eq (hf ?_),fun h=>?_⟩
 ·rintro rfl;simp [m_eq] at h
 simp only [Bool.or_eq_false_iff,bne_eq_false_iff_eq,Bool.not_eq_false',m_eq,decide_eq_true_eq,beq_iff_eq] at h
 obtain ⟨⟨⟨⟨⟨⟨⟨⟨⟨⟨⟨g0,g3⟩,g4⟩,g1⟩,g2⟩,g5⟩,g6⟩,g7⟩,g8⟩,g9⟩,g10⟩,g11⟩:=h
 refine QcM dIns (a:=a.2.1) (b:=b.2.1) (by omega) (fun k=>Qgt (fun r'=>r'=Jp (m_eq (α:=Qc) a b)) a b (k:Int)) (fun e1=>?_) (fun k hk ih hne=>?_)
 ·refine QuQ (fun r'=>r'=Jp (m_eq (α:=Qc) a b)) a b _ ⟨fun h=>by simp at h,fun _=>?_⟩
  refine QcM dOp (a:=a.2.2.1) (b:=b.2.2.1) (by omega) (fun k=>Qjx (fun r'=>r'=Jp (m_eq (α:=Qc) a b)) a b (k:Int)) (fun e2=>?_) (fun k hk ih hne=>?_)
  ·refine Qtm (fun r'=>r'=Jp (m_eq (α:=Qc) a b)) a b _ ⟨fun h=>by simp at h,fun _=>?_⟩
   refine QcM Zp (a:=a.2.2.2.2.2.1) (b:=b.2.2.2.2.2.1) (by omega) (fun k=>QiK (fun r'=>r'=Jp (m_eq (α:=Qc) a b)) a b (k:Int)) (fun e5=>?_) (fun k hk ih hne=>?_)
   ·refine Qzf (fun r'=>r'=Jp (m_eq (α:=Qc) a b)) a b _ ⟨fun h=>by simp at h,fun _=>R_eq ?_⟩
    refine (decide_eq_true ?_).symm
    exact Prod.ext g0 (Prod.ext e1 (Prod.ext e2 (Prod.ext g3 (Prod.ext g4 (Prod.ext e5 (Prod.ext g6 (Prod.ext g7 (Prod.ext g8 (Prod.ext g9 (Prod.ext g10 g11))))))))))
   ·refine Qzf (fun r'=>r'=Jp (m_eq (α:=Qc) a b)) a b _ ⟨fun _=>?_,fun h=>by simp at h;omega⟩
    rw [Int.toNat_natCast,sc1 (by omega)]
    refine ⟨⟨⟨by omega,hk⟩,⟨by omega,by omega⟩,fun _=>⟨⟨by omega,hk⟩,by omega,by omega⟩⟩,fun h=>R_eq (hf fun hab=>hne ?_ (by rw [hab])),fun h=>ih ?_⟩
    ·intro he;rw [he] at h;simp [m_eq] at h
    ·simp [m_eq] at h
     exact Prod.ext h.1 h.2
  ·refine Qtm (fun r'=>r'=Jp (m_eq (α:=Qc) a b)) a b _ ⟨fun _=>?_,fun h=>by simp at h;omega⟩
   rw [Int.toNat_natCast,sc1 (by omega)]
   refine ⟨⟨⟨by omega,hk⟩,by omega,by omega⟩,fun h=>R_eq (hf fun hab=>hne ?_ (by rw [hab])),fun h=>ih ?_⟩
   ·intro he;rw [he] at h;simp [m_eq] at h
   ·simpa [m_eq] using h
 ·refine QuQ (fun r'=>r'=Jp (m_eq (α:=Qc) a b)) a b _ ⟨fun _=>?_,fun h=>by simp at h;omega⟩
  rw [Int.toNat_natCast,sc1 (by omega),QXZ]
  refine ⟨⟨⟨by omega,hk⟩,by omega,by omega⟩,fun h=>R_eq (hf fun hab=>hne ?_ (by rw [hab])),fun h=>ih ?_⟩
  ·intro he;rw [he] at h;simp at h
  ·simpa using h
theorem QJL:Ql Tryz.prog Ql3:=Qn fun x _=>QFa x.1 x.2.1
def Qal (t:Bool):TRes:=zre (zcb t)
def Qnd:TRow:=Qk 35 [(.a QE),(.a QE)] fun x=>(some (QdM x.1 x.2.1),Qal (m_eq (α:=Qe) x.1 x.2.1))
def QfF:List TRow:=[QpE,Ql3,Qcr]
def Qza:TCode :=
 (zsq [(zsq [(.reg [zmv 39 5,zfa 40 2 1,zld 41 40 1,zle 42 41,zbi 43 .lss 39 42]),(.cond 43 .skip (.exit 0))]),(.block 1 (zsq [(.draw [zfa 46 2 1,zld 47 46 1,zmv 48 5,zia 49 47 48 Qg,zLd 50 49 14,zfa 51 3 1,zld 52 51 1,zmv 53 5,zia 54 52 53 Qg,zLd 55 54 14,zca 56 101 [50,55],zno 57 56] []),(.cond 57 (zsq [(.reg [zmv 4 (zkb false)]),.ret]) .skip)])),(.reg [zmv 44 5,zbi 45 .add 44 (zki 1),zmv 5 45])])
def Qt2:List (Nat × Md):=[(2,.b (zds 4)),(3,.b (zds 4)),(5,.one .d)]
def QA5:TCode :=
 (zsq [(zsq [(.reg [zmv 58 6,zfa 59 2 0,zld 60 59 1,zle 61 60,zbi 62 .lss 58 61]),(.cond 62 .skip (.exit 2))]),(.block 3 (zsq [(.draw [zfa 65 2 0,zld 66 65 1,zmv 67 6,zia 68 66 67 QK,zfa 69 68 0,zld 70 69 1,zfa 71 3 0,zld 72 71 1,zmv 73 6,zia 74 72 73 QK,zfa 75 74 0,zld 76 75 1,zca 77 102 [70,76],zno 78 77,zmv 79 78,.grp 79 false [zfa 80 2 0,zld 81 80 1,zmv 82 6,zia 83 81 82 QK,zfa 84 83 1,zld 85 84 1,zfa 86 3 0,zld 87 86 1,zmv 88 6,zia 89 87 88 QK,zfa 90 89 1,zld 91 90 1,zca 92 102 [85,91],zno 93 92] 94 93] []),(.cond 94 (zsq [(.reg [zmv 4 (zkb false)]),.ret]) .skip)])),(.reg [zmv 63 6,zbi 64 .add 63 (zki 1),zmv 6 64])])
def Qq3:List (Nat × Md):=[(2,.b (zds 4)),(3,.b (zds 4)),(6,.one .d)]
def QyF:TCode :=
 (zsq [(.reg [zmv 4 (zkb true)]),.ret])
def QDy:TCode :=
 (zsq [(zsq [(.reg [zmv 6 (zki 0)]),(.block 2 (.loop Qq3 QA5))]),QyF])
def QSM:TCode :=
 (zsq [(.reg [zop 2 (.box 37 0 4),zop 3 (.box 37 1 4),zmv 4 (zkb false)]),(zsq [(.reg [zfa 7 2 1,zld 8 7 1,zle 9 8,zfa 10 3 1,zld 11 10 1,zle 12 11,zbi 13 .neq 9 12,zmv 14 13,.grp 14 false [zfa 15 2 0,zld 16 15 1,zle 17 16,zfa 18 3 0,zld 19 18 1,zle 20 19,zbi 21 .neq 17 20] 22 21,zmv 23 22,.grp 23 false [zfa 24 2 2,zld 25 24 1,zfa 26 3 2,zld 27 26 1,zca 28 100 [25,27],zno 29 28] 30 29,zmv 31 30,.grp 31 false [zfa 32 2 3,zld 33 32 1,zfa 34 3 3,zld 35 34 1,zca 36 100 [33,35],zno 37 36] 38 37]),(.cond 38 (zsq [(.reg [zmv 4 (zkb false)]),.ret]) .skip)]),(zsq [(.reg [zmv 5 (zki 0)]),(.block 0 (.loop Qt2 Qza))]),QDy])
def Qqw:List (ARv × Md):=[(.t 4,.one .d)]
def Qh5:Qb:=TQ 0 0 Qqw K
def QGs:Qb:=Qseq (tawp QfF 0 QyF (Qh5 K)) (Qh5 K)
def QIa:Qb:=Qblk 2 (QGs K)
def Qgr (a:Qe) (b:Qe) (i1:Int):Prop:=Loop QfF 0 Qq3 QA5 (QIa K) ⟨[(2,(.p 0 0 0)),(3,(.p 1 0 0)),(6,(zci i1))],[(0,(.box (Tup.cells QE a))),(1,(.box (Tup.cells QE b)))],2⟩
def QPU:Qb:=Qseq (tawp QfF 0 QDy (Qh5 K)) (Qh5 K)
def QUf:Qb:=Qblk 0 (QPU K)
def QhW (a:Qe) (b:Qe) (i:Int):Prop:=Loop QfF 0 Qt2 Qza (QUf K) ⟨[(2,(.p 0 0 0)),(3,(.p 1 0 0)),(5,(zci i))],[(0,(.box (Tup.cells QE a))),(1,(.box (Tup.cells QE b)))],2⟩
theorem Qsm (a:Qe) (b:Qe) (i1:Int) (h :
 (zif (decide (i1<((a.1).length:Int))) ((((0:Int)≤i1∧Int.toNat i1<(a.1).length)∧(((0:Int)≤i1∧Int.toNat i1<(b.1).length)∧((!(!(m_eq (α:=List Int) ((gtd QX a.1 (Int.toNat i1)).1) ((gtd QX b.1 (Int.toNat i1)).1))))=true→(((0:Int)≤i1∧Int.toNat i1<(a.1).length)∧((0:Int)≤i1∧Int.toNat i1<(b.1).length)))))∧(zif ((!(m_eq (α:=List Int) ((gtd QX a.1 (Int.toNat i1)).1) ((gtd QX b.1 (Int.toNat i1)).1)))||(!(m_eq (α:=List Int) ((gtd QX a.1 (Int.toNat i1)).2) ((gtd QX b.1 (Int.toNat i1)).2)))) (K (Qal false)) (Qgr K a b (w64 (i1+(1:Int)))))) (K (Qal true)))):Qgr K a b i1 :=
 Loop.of (by kernel_rfl) h
theorem QA8 (a:Qe) (b:Qe) (i:Int) (h :
 (zif (decide (i<((a.2.1).length:Int))) ((((0:Int)≤i∧Int.toNat i<(a.2.1).length)∧((0:Int)≤i∧Int.toNat i<(b.2.1).length))∧(zif (!(m_eq (α:=Qc) (gtd QH a.2.1 (Int.toNat i)) (gtd QH b.2.1 (Int.toNat i)))) (K (Qal false)) (QhW K a b (w64 (i+(1:Int)))))) (Qgr K a b 0))):QhW K a b i :=
 Loop.of (by kernel_rfl) h
theorem QJd (a:Qe) (b:Qe) (h :
 ((((!((((a.2.1).length:Int) != ((b.2.1).length:Int))||(((a.1).length:Int) != ((b.1).length:Int))))=true→(Qd2 a.2.2.1 b.2.2.1))∧((!(((((a.2.1).length:Int) != ((b.2.1).length:Int))||(((a.1).length:Int) != ((b.1).length:Int)))||(!(m_eq (α:=List Qd) a.2.2.1 b.2.2.1))))=true→(Qd2 a.2.2.2 b.2.2.2)))∧(zif ((((((a.2.1).length:Int) != ((b.2.1).length:Int))||(((a.1).length:Int) != ((b.1).length:Int)))||(!(m_eq (α:=List Qd) a.2.2.1 b.2.2.1)))||(!(m_eq (α:=List Qd) a.2.2.2 b.2.2.2))) (K (Qal false)) (QhW K a b 0)))):Hold (tawp QfF (0+0) QSM (TQ 0 0 Qqw K) (Qi [(.a (Tup.cells QE a)),(.a (Tup.cells QE b))])) :=
 Hold.of (by kernel_rfl) h
theorem QUl (a:Qe) (b:Qe) (hp:QdM a b):TCon Tryz.prog 35 [(.a (Tup.cells QE a)),(.a (Tup.cells QE b))] (Qal (m_eq (α:=Qe) a b)):=by
 refine Qo rfl fun hb=>tcg (n:=95) (sg:=Qnd.sg) Qm (TOk.cons QEu (TOk.cons QJL (TOk.cons Qe2 TOk.nil))) (by kernel_rfl) (by kernel_rfl) (QJd _ a b ?_)
 have hl_a_0:(a.1).length≤9223372036854775807:=hb.1.1.1
 have hl_a_1:(a.2.1).length≤9223372036854775807:=hb.1.2.1.1
 have hl_a_2:(a.2.2.1).length≤9223372036854775807:=hb.1.2.2.1.1
 have hl_a_3:(a.2.2.2).length≤9223372036854775807:=hb.1.2.2.2.1.1
 have hl_b_0:(b.1).length≤9223372036854775807:=hb.2.1.1.1
 have hl_b_1:(b.2.1).length≤9223372036854775807:=hb.2.1.2.1.1
 have hl_b_2:(b.2.2.1).length≤9223372036854775807:=hb.2.1.2.2.1.1
 have hl_b_3:(b.2.2.2).length≤9223372036854775807:=hb.2.1.2.2.2.1.1
 have hps:Sz.sz a≤2147483648:=hp
 have hs:Sz.sz a=Sz.sz a.1+Sz.sz a.2.1+Sz.sz a.2.2.1+Sz.sz a.2.2.2:=JR a
 have hl1:=YW a.1
 have hl2:=YW a.2.1
 have hf:a≠b→false=(m_eq (α:=Qe) a b):=fun h=>(decide_eq_false h).symm
 refine ⟨⟨fun _=>by unfold Qd2;omega,fun _=>by unfold Qd2;omega⟩,fun h=>R_eq (hf ?_),fun h=>?_⟩
 ·rintro rfl;simp [m_eq] at h
 simp only [Bool.or_eq_false_iff,bne_eq_false_iff_eq,Bool.not_eq_false',m_eq,decide_eq_true_eq] at h
 obtain ⟨⟨⟨g1,g0⟩,g2⟩,g3⟩:=h
 refine QcM QH (a:=a.2.1) (b:=b.2.1) (by omega) (fun k=>QhW (fun r'=>r'=Qal (m_eq (α:=Qe) a b)) a b (k:Int)) (fun e1=>?_) (fun k hk ih hne=>?_)
 ·refine QA8 (fun r'=>r'=Qal (m_eq (α:=Qe) a b)) a b _ ⟨fun h=>by simp at h,fun _=>?_⟩
  refine QcM QX (a:=a.1) (b:=b.1) (by omega) (fun k=>Qgr (fun r'=>r'=Qal (m_eq (α:=Qe) a b)) a b (k:Int)) (fun e0=>?_) (fun k hk ih hne=>?_)
  ·refine Qsm (fun r'=>r'=Qal (m_eq (α:=Qe) a b)) a b _ ⟨fun h=>by simp at h,fun _=>R_eq ?_⟩
   exact (decide_eq_true (Prod.ext e0 (Prod.ext e1 (Prod.ext g2 g3)))).symm
  ·refine Qsm (fun r'=>r'=Qal (m_eq (α:=Qe) a b)) a b _ ⟨fun _=>?_,fun h=>by simp at h;omega⟩
   rw [Int.toNat_natCast,sc1 (by omega)]
   refine ⟨⟨⟨by omega,hk⟩,⟨by omega,by omega⟩,fun _=>⟨⟨by omega,hk⟩,by omega,by omega⟩⟩,fun h=>R_eq (hf fun hab=>hne ?_ (by rw [hab])),fun h=>ih ?_⟩
   ·intro he;rw [he] at h;simp [m_eq] at h
   ·simp [m_eq] at h
    exact Prod.ext h.1 h.2
 ·refine QA8 (fun r'=>r'=Qal (m_eq (α:=Qe) a b)) a b _ ⟨fun _=>?_,fun h=>by simp at h;omega⟩
  rw [Int.toNat_natCast,sc1 (by omega)]
  refine ⟨⟨⟨by omega,hk⟩,by omega,by omega⟩,fun h=>R_eq (hf fun hab=>hne ?_ (by rw [hab])),fun h=>ih ?_⟩
  ·intro he;rw [he] at h;simp [m_eq] at h
  ·simpa [m_eq] using h
theorem QXe:Ql Tryz.prog Qnd:=Qn fun x h=>QUl x.1 x.2.1 h
end
end Go.Proofs.YtjbdljkhbglnhaaGreat.Am

