/-
  Written by program: the code of functions, what it asks, and that it comes to what the models say.
-/
import Derived.Test.YtjbdljkhbglnhaaGreatZFD1
import Derived.Test.YtjbdljkhbglnhaaGreatZFD6
import Derived.Test.YtjbdljkhbglnhaaGreatZFP7
import Derived.Test.YtjbdljkhbglnhaaGreatZFPQ
import Derived.Test.YtjbdljkhbglnhaaGreatZFPR
import Derived.Test.YtjbdljkhbglnhaaGreatZFPU
import Derived.Test.YtjbdljkhbglnhaaGreatZFD7
import Derived.Test.YtjbdljkhbglnhaaGreatZFPC
import Derived.Test.YtjbdljkhbglnhaaGreatZFGE
namespace Go.Proofs.YtjbdljkhbglnhaaGreat.Am
open Go Go.RowKit Go.Proofs.YtjbdljkhbglnhaaGreat
set_option linter.all false
set_option maxHeartbeats 2000000
noncomputable section
variable (K:TRes→Prop)
def J8 (t:Bool):TRes:=zre (zcb t)
def Q1B:TRow:=Qh 12 [(.c (.sl [(.int .u8)]))] fun x=>(none,J8 (Qb9 x.1))
def Qd9:List TRow:=[QoS,Qm3,Qka,Qr2,Qi2,Qn4,QnR,QmH,Qq0,Qoz,QhL,Qow]
def QDH:TCode :=
 (zsq [(zsq [(.reg [zmv 58 8,zfa 59 5 1,zld 60 59 1,zle 61 60,zbi 62 .lss 58 61]),(.cond 62 .skip (.exit 2))]),(.block 3 (zsq [(.draw [zfa 65 5 1,zld 66 65 1,zmv 67 8,zia 68 66 67 Qi,zfa 69 68 0,zld 70 69 1,zfa 71 5 1,zld 72 71 1,zmv 73 8,zia 74 72 73 Qi,zfa 75 74 1,zld 76 75 1,zle 77 76,zbi 78 .sub 77 (zki 1),zbi 79 .lss 70 78] []),(.cond 79 (zsq [(.reg [zmv 2 (zkb false)]),.ret]) .skip)])),(.reg [zmv 63 8,zbi 64 .add 63 (zki 1),zmv 8 64])])
def QuG:List (Nat × Md):=[(5,.b (zds 4)),(6,.one .d),(7,.one .d),(8,.one .d)]
def Qwx:TCode :=
 (.reg [zmv 47 7,zbi 48 .add 47 (zki 1),zmv 7 48])
def QpI:TCode :=
 (zsq [(zsq [(.reg [zmv 43 7,zmv 44 6,zle 45 44,zbi 46 .lss 43 45]),(.cond 46 .skip (.exit 0))]),(.block 1 (zsq [(.draw [zLd 49 5 4,zmv 50 6,zmv 51 7,zia 52 50 51 [TI],zld 53 52 1,zca 54 33 [49,53],zst 5 54 4] []),(zsq [(.reg [zLd 55 5 4,zca 56 63 [55],zbi 57 .eql 56 (zki 0)]),(.cond 57 (.exit 1) .skip)]),(.reg [zmv 8 (zki 0)]),(.block 2 (.loop QuG QDH))])),Qwx])
def Qg6:List (Nat × Md):=[(5,.b (zds 4)),(6,.one .d),(7,.one .d)]
def QsH:TCode :=
 (zsq [(.reg [zmv 2 (zkb true)]),.ret])
def Q0k:TCode :=
 (zsq [(.reg [zmv 2 (zkb false)]),(zsq [(.reg [zmv 9 0,zca 10 13 [9]]),(.cond 10 (zsq [(.reg [zmv 2 (zkb true)]),.ret]) .skip)]),(.reg [zmv 12 0,zca 13 14 [12],zmv 11 13,zex 14 11 0,zex 15 11 1,zop 3 (.new 30 (z0s Q0)),zst 3 14 6,zmv 4 15]),(zsq [(.reg [zLd 16 3 6,zmv 17 4,zca 18 16 [16,17],zbi 19 .neq 18 (zki 0)]),(.cond 19 (zsq [(.reg [zmv 2 (zkb true)]),.ret]) .skip)]),(.reg [zLd 20 3 6,zmv 21 4,zca 22 15 [20,21],zop 5 (.new 37 (z0s QE)),zst 5 22 4]),(.draw [zLd 23 5 4,zmv 24 0,zca 25 29 [24,(zki 0)],zbi 26 .mul 25 (zki 4),zca 27 19 [23,26],zst 5 27 4] [(0,2)]),(zsq [(.draw [zLd 28 5 4,zLd 29 3 6,zmv 30 4,zca 31 28 [29,30],zmv 32 0,zca 33 29 [32,(zki 0)],zbi 34 .mul 33 (zki 4),zca 35 67 [31,34],zca 36 35 [28,35],zno 37 36] [(0,3),(0,5),(0,7)]),(.cond 37 (zsq [(.reg [zmv 2 (zkb false)]),.ret]) .skip)]),(.reg [zmv 38 0,zfa 39 5 1,zld 40 39 1,zle 41 40,zca 42 18 [38,41],zmv 6 42]),(zsq [(.reg [zmv 7 (zki 0)]),(.block 0 (.loop Qg6 QpI))]),QsH])
def QE6:List (ARv × Md):=[(.t 2,.one .d)]
def QEk:Qb:=TQ 0 0 QE6 K
def QMu:Qb:=Qseq (tawp Qd9 0 QsH (QEk K)) (QEk K)
def QrH:Qb:=Qblk 0 (QMu K)
def Qtk:Qb:=Qseq (fun s'=>Loop Qd9 0 Qg6 QpI (QrH K) (gc 0 Qg6 s')) (QrH K)
def QTp:Qb:=Qseq (tawp Qd9 0 Qwx (Qtk K)) (Qtk K)
def QHX:Qb:=Qblk 1 (QTp K)
def Q3f:Qb:=Qblk 2 (QHX K)
def Qkr (code:List Int) (s:Int) (i:Int) (p0:List Qp) (p1:List Qc) (p2:List Qd) (p3:List Qd):Prop:=Loop Qd9 0 QuG QDH (Q3f K) ⟨[(5,(.p 0 0 0)),(6,(zcs [TI] (Qbv code (((ZP (Zy ((JR code).1) ((JR code).2)) (w64 ((m_at code (0:Int))*(4:Int)))).2.1).length:Int)))),(7,(zci i)),(8,(zci s))],[(0,(.box (Tup.cells QE (Zl (p0,p1,p2,p3) (gtd (0:Int) (Qbv code (((ZP (Zy ((JR code).1) ((JR code).2)) (w64 ((m_at code (0:Int))*(4:Int)))).2.1).length:Int)) (Int.toNat i))))))],1⟩
def QgZ (code:List Int) (i:Int) (p0:List Qp) (p1:List Qc) (p2:List Qd) (p3:List Qd):Prop:=Loop Qd9 0 Qg6 QpI (QrH K) ⟨[(5,(.p 0 0 0)),(6,(zcs [TI] (Qbv code (((ZP (Zy ((JR code).1) ((JR code).2)) (w64 ((m_at code (0:Int))*(4:Int)))).2.1).length:Int)))),(7,(zci i))],[(0,(.box (Tup.cells QE (p0,p1,p2,p3))))],1⟩
theorem QsD (code:List Int) (s:Int) (i:Int) (p0:List Qp) (p1:List Qc) (p2:List Qd) (p3:List Qd) (h :
 let z1:=Zl (p0,p1,p2,p3) (gtd (0:Int) (Qbv code (((ZP (Zy ((JR code).1) ((JR code).2)) (w64 ((m_at code (0:Int))*(4:Int)))).2.1).length:Int)) (Int.toNat i))
 (zif (decide (s<((z1.2.1).length:Int))) ((((0:Int)≤s∧Int.toNat s<(z1.2.1).length)∧((0:Int)≤s∧Int.toNat s<(z1.2.1).length))∧(zif (decide (((gtd QM (z1.2.1) (Int.toNat s)).1)<(w64 ((((gtd QM (z1.2.1) (Int.toNat s)).2.1).length:Int)-(1:Int))))) (K (J8 false)) (Qkr K code (w64 (s+(1:Int))) i p0 p1 p2 p3))) (QgZ K code (w64 (i+(1:Int))) (z1.1) (z1.2.1) (z1.2.2.1) (z1.2.2.2)))):Qkr K code s i p0 p1 p2 p3 :=
 Loop.of (by kernel_rfl) h
theorem QwZ (code:List Int) (i:Int) (p0:List Qp) (p1:List Qc) (p2:List Qd) (p3:List Qd) (h :
 let z1:=Qbv code (((ZP (Zy ((JR code).1) ((JR code).2)) (w64 ((m_at code (0:Int))*(4:Int)))).2.1).length:Int)
 let z2:=Zl (p0,p1,p2,p3) (gtd (0:Int) z1 (Int.toNat i))
 (zif (decide (i<(z1.length:Int))) ((((0:Int)≤i∧Int.toNat i<z1.length)∧(Qbl (p0,p1,p2,p3) (gtd (0:Int) z1 (Int.toNat i))))∧(zif ((QaL z2)==(0:Int)) (QgZ K code (w64 (i+(1:Int))) (z2.1) (z2.2.1) (z2.2.2.1) (z2.2.2.2)) (Qkr K code 0 i p0 p1 p2 p3))) (K (J8 true)))):QgZ K code i p0 p1 p2 p3 :=
 Loop.of (by kernel_rfl) h
theorem QPn (code:List Int) (h :
 let z2:=w64 ((m_at code (0:Int))*(4:Int))
 let z6:=JR code
 let z1:=Zy (z6.1) (z6.2)
 let z4:=ZP z1 z2
 let z5:=List.take ((z1.2.2.1).length) (List.drop 0 (z1.2.2.1))
 let z7:=List.take ((z1.2.1).length) (List.drop 0 (z1.2.1))
 let z3:=ZP (z1.1,z7,z5,z1.2.2.2) z2
 (zif (Qfx code) (K (J8 true)) ((QaK code)∧(zif ((ZB (z6.1) (z6.2)) != (0:Int)) (K (J8 true)) (((p_at code (0:Int))∧(QbJ z1 z2))∧(((p_at code (0:Int))∧((QbJ (z1.1,z7,z5,z1.2.2.2) z2)∧(QiW z4 z3)))∧(zif (!(m_eq (α:=Qe) z4 z3)) (K (J8 false)) (QgZ K code 0 (z4.1) (z4.2.1) (z4.2.2.1) (z4.2.2.2))))))))):Hold (tawp Qd9 (0+0) Q0k (TQ 0 0 QE6 K) (Qf [(.c (.sl [(.int .u8)]) code)])) :=
 Hold.of (by kernel_rfl) h
theorem l_FnBarrier_h (code:List Int):TCon Tryz.prog 12 [(.c (.sl [(.int .u8)]) code)] (J8 (Qb9 code)):=by
 refine Qo rfl fun hb=>tcg (n:=80) (sg:=Q1B.sg) Qj (TOk.cons QWx (TOk.cons QNJ (TOk.cons QAv (TOk.cons Q1r (TOk.cons QvL (TOk.cons QRV (TOk.cons QIM (TOk.cons QPb (TOk.cons QP5 (TOk.cons QQM (TOk.cons QD3 (TOk.cons QQI TOk.nil)))))))))))) (by kernel_rfl) (by kernel_rfl) (QPn _ code ?_)
 have hl_code:code.length≤9223372036854775807:=hb.1.1
 conv=>zeta
 refine ⟨fun _=>R_eq rfl,fun hb=>?_⟩
 have hn:=QJv hb
 obtain ⟨⟨c,b⟩,hr⟩:∃ r,JR code=r:=⟨_,rfl⟩
 rw [hr]
 simp only [QbP,Prod.eta]
 refine ⟨hn,fun h=>R_eq rfl,fun h=>?_⟩
 have h0:ZB c b=0:=by simpa using h
 have A:=Qln h0
 have h1:=QSx c b
 have hp0:p_at code 0:=Int.le_refl 0
 have h3:=QVU (Zy c b) (w64 (m_at code 0*4))
 have hpr:QbJ (Zy c b) (w64 (m_at code 0*4)):=by unfold QbJ;omega
 refine ⟨⟨hp0,hpr⟩,⟨hp0,hpr,by unfold QiW;omega⟩,fun h=>by simp [m_eq] at h,fun _=>?_⟩
 have hpk:=Q28 code ((ZP (Zy c b) (w64 (m_at code 0*4))).2.1.length:Int)
 obtain ⟨l,hl⟩:∃ l,Qbv code ((ZP (Zy c b) (w64 (m_at code 0*4))).2.1.length:Int)=l:=⟨_,rfl⟩
 rw [hl] at hpk
 have hpk:l.length≤60:=hpk
 obtain ⟨ks0,V0,hk0⟩:=QRD A (w64 (m_at code 0*4))
 have key:∀ (rem k:Nat) (q:Qe),k+rem=l.length→(∃ ks,Ok c b ks∧q=Zv c b ks)→Sz.sz q≤300000+100*k→QgZ (fun r'=>r'=J8 (Qb9 code)) code (k:Int) q.1 q.2.1 q.2.2.1 q.2.2.2:=by
  intro rem
  induction rem with
  | zero =>
   intro k q h2 hq hz
   refine QwZ (fun r'=>r'=J8 (Qb9 code)) code _ _ _ _ _ ?_
   conv=>zeta
   rw [hr]
   simp only
   rw [hl]
   exact ⟨fun h=>by simp at h;omega,fun _=>R_eq rfl⟩
  | succ rem ih =>
   intro k q h2 hq hz
   obtain ⟨ks,V,hq⟩:=hq
   obtain ⟨ks',V',hk',_⟩:=QJy A V (gtd 0 l k)
   have hps:=QjK q (gtd 0 l k)
   have ih':=ih (k+1) (Zl q (gtd 0 l k)) (by omega) ⟨ks',V',by rw [hq,hk']⟩ (by omega)
   have hlen:(Zv c b ks').2.1.length=nSt c:=Qci ks'
   have hk'':Zl q (gtd 0 l k)=Zv c b ks':=by rw [hq,hk']
   refine QwZ (fun r'=>r'=J8 (Qb9 code)) code _ _ _ _ _ ?_
   conv=>zeta
   rw [hr]
   simp only
   rw [hl,Int.toNat_natCast,sc1 (by omega)]
   refine ⟨fun _=>⟨⟨⟨by omega,by omega⟩,show Sz.sz q≤_ by omega⟩,fun _=>ih',fun hpf=>?_⟩,fun h=>by simp at h;omega⟩
   have hpf:(QaL (Zl q (gtd 0 l k))==0)=false:=hpf
   rw [hk''] at hpf
   have hpast:=(QNQ A V').resolve_left (by simpa using hpf)
   refine Y7 (nSt c) (fun s=>Qkr (fun r'=>r'=J8 (Qb9 code)) code (s:Int) (k:Int) q.1 q.2.1 q.2.2.1 q.2.2.2) ?_ ?_
   ·refine QsD (fun r'=>r'=J8 (Qb9 code)) code _ _ _ _ _ _ ?_
    conv=>zeta
    rw [hr]
    simp only
    rw [hl,Int.toNat_natCast,Int.toNat_natCast,sc1 (k:=k) (by omega)]
    refine ⟨fun h=>?_,fun _=>ih'⟩
    have h:decide (((nSt c:Nat):Int)<((Zl q (gtd 0 l k)).2.1.length:Int))=true:=h
    rw [hk'',hlen] at h;simp at h
   ·intro s hs ih2
    have hst:gtd QM (Zv c b ks').2.1 s=stAt c b s (ks' s):=QoK ks' hs
    have hp1:=hpast s hs
    have hp2:=QXW A hs
    have hpl:(stAt c b s (ks' s)).2.1.length=lenP c b s:=rfl
    have hpc:(stAt c b s (ks' s)).1=(ks' s:Nat):=rfl
    have hb5:=QK6 A
    have hp3:=Qx7 A hs
    refine QsD (fun r'=>r'=J8 (Qb9 code)) code _ _ _ _ _ _ ?_
    conv=>zeta
    rw [hr]
    simp only
    rw [hl,Int.toNat_natCast,Int.toNat_natCast,sc1 (k:=s) (by have:=Qdg A;omega)]
    rw [show ((q.1,q.2.1,q.2.2.1,q.2.2.2):Qe)=q from rfl,hk'',hlen,hst,hpl,hpc,Qq (x:=(lenP c b s:Int)-1) (by omega) (by omega)]
    refine ⟨fun _=>⟨⟨⟨by omega,by omega⟩,by omega,by omega⟩,fun h=>?_,fun _=>ih2⟩,fun h=>by simp at h;omega⟩
    simp at h;omega
 exact key l.length 0 (ZP (Zy c b) (w64 (m_at code 0*4))) (by omega) ⟨ks0,V0,hk0⟩ (by omega)
end
end Go.Proofs.YtjbdljkhbglnhaaGreat.Am

