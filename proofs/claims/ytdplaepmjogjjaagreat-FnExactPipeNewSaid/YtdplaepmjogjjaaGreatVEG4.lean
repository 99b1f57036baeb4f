/- -/
import Derived.Test.YtdplaepmjogjjaaGreatVEG3
set_option linter.all false
namespace Go.Proofs.YtdplaepmjogjjaaGreat.Am
open Go Go.RowKit
inductive CT where
 | int (k:IntKind)
 | bool
 | str
 | nilp
 | sl (ts:List CT)
def Qf7 (A:Type):List CT→Type→Type
 | [],_=>A
 | _::_,B=>A × B
mutual
@[reducible] def CT.den:CT→Type
 | .int _=>Int
 | .bool=>Bool
 | .str=>ByteArray
 | .nilp=>Unit
 | .sl ts=>List (Tup ts)
@[reducible] def Tup:List CT→Type
 | []=>Unit
 | t::ts=>Qf7 t.den ts (Tup ts)
end
def hd {A:Type}:(ts:List CT)→{B:Type}→Qf7 A ts B→A
 | [],_,x=>x
 | _::_,_,x=>x.1
def tl {A:Type}:(ts:List CT)→Qf7 A ts (Tup ts)→Tup ts
 | [],_=>()
 | _::_,x=>x.2
def mkT {A:Type}:(ts:List CT)→A→Tup ts→Qf7 A ts (Tup ts)
 | [],a,_=>a
 | _::_,a,b=>(a,b)
mutual
def enc:(t:CT)→t.den→D
 | .int k,x=>.v (.int k x)
 | .bool,b=>.v (.bool b)
 | .str,s=>.v (.string s)
 | .nilp,_=>.v (.pointer none)
 | .sl ts,l=>.sl ts.length (List.map (encs ts) l)
def encs:(ts:List CT)→Tup ts→List D
 | [],_=>[]
 | t::ts,x=>enc t (hd ts x)::encs ts (tl ts x)
end
mutual
def CT.beq:CT→CT→Bool
 | .int k,.int k'=>decide (k=k')
 | .bool,.bool=>true
 | .str,.str=>true
 | .nilp,.nilp=>true
 | .sl a,.sl b=>CT.beqL a b
 | _,_=>false
def CT.beqL:List CT→List CT→Bool
 | [],[]=>true
 | x::xs,y::ys=>x.beq y&&CT.beqL xs ys
 | _,_=>false
end
mutual
def CT.dft:(t:CT)→t.den
 | .int _=>(0:Int)
 | .bool=>false
 | .str=>⟨#[]⟩
 | .nilp=>()
 | .sl ts=>([]:List (Tup ts))
def Tup.dft:(ts:List CT)→Tup ts
 | []=>()
 | t::ts=>mkT ts t.dft (Tup.dft ts)
end
mutual
theorem CT.beq_eq:∀ (a b:CT),a.beq b=true→a=b
 | .int k,.int k',h=>by simp [CT.beq] at h;rw [h]
 | .bool,.bool,_=>rfl
 | .str,.str,_=>rfl
 | .nilp,.nilp,_=>rfl
 | .sl a,.sl b,h=>by simp only [CT.beq] at h;rw [CT.beqL_eq a b h]
 | .int _,.bool,h=>by simp [CT.beq] at h
 | .int _,.str,h=>by simp [CT.beq] at h
 | .int _,.sl _,h=>by simp [CT.beq] at h
 | .bool,.int _,h=>by simp [CT.beq] at h
 | .bool,.str,h=>by simp [CT.beq] at h
 | .bool,.sl _,h=>by simp [CT.beq] at h
 | .str,.int _,h=>by simp [CT.beq] at h
 | .str,.bool,h=>by simp [CT.beq] at h
 | .str,.sl _,h=>by simp [CT.beq] at h
 | .sl _,.int _,h=>by simp [CT.beq] at h
 | .sl _,.bool,h=>by simp [CT.beq] at h
 | .sl _,.str,h=>by simp [CT.beq] at h
 | .int _,.nilp,h=>by simp [CT.beq] at h
 | .nilp,.int _,h=>by simp [CT.beq] at h
 | .bool,.nilp,h=>by simp [CT.beq] at h
 | .nilp,.bool,h=>by simp [CT.beq] at h
 | .str,.nilp,h=>by simp [CT.beq] at h
 | .nilp,.str,h=>by simp [CT.beq] at h
 | .sl _,.nilp,h=>by simp [CT.beq] at h
 | .nilp,.sl _,h=>by simp [CT.beq] at h
theorem CT.beqL_eq:∀ (a b:List CT),CT.beqL a b=true→a=b
 | [],[],_=>rfl
 | x::xs,y::ys,h=>by simp only [CT.beqL,Bool.and_eq_true] at h;rw [CT.beq_eq x y h.1,CT.beqL_eq xs ys h.2]
 | [],_::_,h=>by simp [CT.beqL] at h
 | _::_,[],h=>by simp [CT.beqL] at h
end
inductive TV where
 | u
 | c (t:CT) (x:t.den)
 | n (ts:List CT)
 | r (ts:List CT) (id off len:Nat)
 | p (id i j:Nat)
 | q (ts:List CT) (x:Tup ts) (j:Nat)
 | a (cs:List TV)
 | tp (vs:List TV)
 | bx (cs:List TV)
 | ow (e:TypeId) (ts:List CT) (m:Mo) (es:List (Tup ts))
 | bs (ts:List CT) (x:List (Tup ts)) (id g:Nat) (p:Pth)
 | bq (ts:List CT) (x:Tup ts) (j id g:Nat) (p:Pth) (i:Nat)
 | g (b:Bool) (v:TV)
inductive TBlk where
 | none
 | dead
 | box (cs:List TV)
 | sl (e:TypeId) (ts:List CT) (m:Mo) (es:List (Tup ts))
def TV.emb1:TV→AV
 | .c t x=>.c (enc t x)
 | .n ts=>.n ts.length
 | .r ts id off len=>.r ts.length id off len
 | .p id i j=>.p id i j
 | .q ts x j=>.q (encs ts x) j
 | .ow e ts m es=>.ow e ts.length m (es.map (encs ts))
 | .bs ts x id v pt=>.b (.sl ts.length (x.map (encs ts))) id v pt
 | .bq ts x j id v pt i=>.bq (encs ts x) j id v pt i
 | _=>.u
def TV.emb2:TV→AV
 | .a cs=>.a (cs.map TV.emb1)
 | x=>x.emb1
def TV.emb:TV→AV
 | .tp vs=>.t (vs.map TV.emb2)
 | .bx cs=>.bx (cs.map TV.emb1)
 | .g b v=>bif b then v.emb else .t []
 | x=>x.emb2
def TBlk.emb:TBlk→Blk
 | .none=>.none
 | .dead=>.dead
 | .box cs=>.box (cs.map TV.emb1)
 | .sl e ts m es=>.sl e ts.length m (es.map (encs ts))
def lkT:List (Nat × TV)→Nat→TV
 | [],_=>.u
 | (j,x)::r,i=>bif Nat.beq i j then x else lkT r i
def lkB:List (Nat × TBlk)→Nat→TBlk
 | [],_=>.none
 | (j,x)::r,i=>bif Nat.beq i j then x else lkB r i
structure TSt where
 t:List (Nat × TV)
 h:List (Nat × TBlk)
 nx:Nat
def TSt.T (σ:TSt):Nat→TV:=lkT σ.t
def TSt.H (σ:TSt):Nat→TBlk:=lkB σ.h
def TSt.emb (σ:TSt):St:=⟨fun s=>(σ.T s).emb,fun i=>(σ.H i).emb,σ.nx⟩
inductive TOpd where
 | s (i:Nat)
 | k (x:TV)
def TOpd.ev (T:Nat→TV):TOpd→TV
 | .s i=>T i
 | .k x=>x
def TOpd.er:TOpd→Opd
 | .s i=>.s i
 | .k x=>.k x.emb
inductive TOp where
 | mov (x:TOpd)
 | pick (c x y:TOpd)
 | bin (op:BinOp) (x y:TOpd)
 | cmpa (n:Nat) (neg:Bool) (x y:TOpd)
 | eqb (neg:Bool) (x y:TOpd)
 | not (x:TOpd)
 | neg (x:TOpd)
 | new (e:TypeId) (zs:List TV)
 | box (e:TypeId) (x:TOpd) (n:Nat)
 | load (x:TOpd) (n:Nat) (agg:Bool)
 | store (x v:TOpd) (n:Nat)
 | fad (x:TOpd) (off:Nat)
 | iad (x i:TOpd) (ts:List CT)
 | fld (x:TOpd) (off n:Nat) (agg:Bool)
 | build (zs:List TV) (ps:List (Nat × Nat × TOpd))
 | bsl (e:TypeId) (ts:List CT) (ps:List TOpd)
 | mk (e:TypeId) (ts:List CT) (zs:List TV) (n:TOpd)
 | slc (x:TOpd) (lo hi:Option TOpd) (ts:List CT)
 | len (x:TOpd)
 | app (s x:TOpd) (e:TypeId) (ts:List CT)
 | mm (mx:Bool) (x y:TOpd)
 | call (f:FuncId) (args:List TOpd)
 | ext (x:TOpd) (i:Nat)
 | conv (k:IntKind) (x:TOpd)
 | nilc (x:TOpd)
def erP (p:Nat × Nat × TOpd):Nat × Nat × Opd:=(p.1,p.2.1,p.2.2.er)
def erO:Option TOpd→Option Opd
 | some x=>some x.er
 | none=>none
def TOp.er:TOp→AOp
 | .mov x=>.mov x.er
 | .pick c x y=>.pick c.er x.er y.er
 | .bin op x y=>.bin op x.er y.er
 | .cmpa n g x y=>.cmpa n g x.er y.er
 | .eqb g x y=>.eqb g x.er y.er
 | .not x=>.not x.er
 | .neg x=>.neg x.er
 | .new e zs=>.new e (zs.map TV.emb1)
 | .box e x n=>.box e x.er n
 | .load x n agg=>.load x.er n agg
 | .store x v n=>.store x.er v.er n
 | .fad x off=>.fad x.er off
 | .iad x i ts=>.iad x.er i.er ts.length
 | .fld x off n agg=>.fld x.er off n agg
 | .build zs ps=>.build (zs.map TV.emb1) (ps.map erP)
 | .bsl e ts ps=>.bsl e ts.length (ps.map TOpd.er)
 | .mk e ts zs n=>.mk e ts.length (zs.map TV.emb1) n.er
 | .slc x lo hi ts=>.slc x.er (erO lo) (erO hi) ts.length
 | .len x=>.len x.er
 | .app s x e ts=>.app s.er x.er e ts.length
 | .mm mx x y=>.mm mx x.er y.er
 | .call f args=>.call f (args.map TOpd.er)
 | .ext x i=>.ext x.er i
 | .conv k x=>.conv k x.er
 | .nilc x=>.nilc x.er
structure TE where
 pre:Option Prop
 val:TV
 blks:List (Nat × TBlk)
def andP:Option Prop→Prop→Prop
 | none,k=>k
 | some p,k=>p∧k
def holds:Option Prop→Prop
 | none=>True
 | some p=>p
inductive Sh where
 | c (t:CT)
 | a (ts:List CT)
 | b (ts:List CT)
 | o (e:TypeId) (ts:List CT)
 | d (ts:List CT)
 | s (ts:List CT)
def Sh.md:Sh→AM
 | .o _ _=>.o
 | .d _=>.p
 | .s _=>.p
 | _=>.d
def mdOf (sg:List Sh):List AM:=sg.map Sh.md
def CT.flat:CT→Bool
 | .sl _=>false
 | _=>true
abbrev dw:Mo:=.dp 0 false []
def isDw:Mo→Bool
 | .dp 0 false []=>true
 | _=>false
def ctL:List TV→Option (List CT)
 | []=>some []
 | .c t _::r=>match ctL r with
  | some ts=>some (t::ts)
  | none=>none
 | _=>none
def Yy:List CT→List TV→Bool
 | [],[]=>true
 | t::ts,x::xs=>(match x with
  | .c t' _=>t'.beq t&&t'.flat
  | .ow e' ts' m _=>Nat.beq e' 0&&(CT.sl ts').beq t&&isDw m
  | _=>false)&&Yy ts xs
 | _,_=>false
def Sh.fits:Sh→TV→Bool
 | .c t,.c t' _=>t'.beq t
 | .a ts,.a cs=>match ctL cs with
  | some ts'=>CT.beqL ts' ts
  | none=>false
 | .b ts,.bx cs=>match ctL cs with
  | some ts'=>CT.beqL ts' ts
  | none=>false
 | .o e ts,.ow e' ts' .ow _=>Nat.beq e' e&&CT.beqL ts' ts
 | .d ts,.ow e' ts' m _=>Nat.beq e' 0&&CT.beqL ts' ts&&isDw m
 | .s ts,.a cs=>Yy ts cs
 | _,_=>false
def Zi:List Sh→List TV→Bool
 | [],[]=>true
 | s::ss,x::xs=>s.fits x&&Zi ss xs
 | _,_=>false
structure TRes where
 v:TV
 hb:List TBlk
 bx:List (List TV)
 al:Bool
 gv:List TBlk
structure TRow where
 f:FuncId
 sg:List Sh
 fn:List TV→Option (Option Prop × TRes)
structure TTab where
 rows:List TRow
 dp:Bool:=false
def Yk:List TRow→FuncId→Option TRow
 | [],_=>none
 | r::rs,f=>bif Nat.beq r.f f then some r else Yk rs f
def QbB {ts ts':List CT} (e:CT.beqL ts ts'=true) (l:List (Tup ts)):List (Tup ts'):=CT.beqL_eq ts ts' e ▸ l
def Qgr {t t':CT} (e:t.beq t'=true) (x:t.den):t'.den:=CT.beq_eq t t' e ▸ x
def TBlk.genf:TBlk→Option Nat
 | .sl _ _ (.dp g _ []) _=>some g
 | _=>Option.none
def TBlk.dpf:TBlk→Bool
 | .sl _ _ (.dp _ _ []) _=>true
 | _=>false
def TBlk.ver (b:TBlk) (g:Nat):Bool:=match b.genf with
 | some g'=>Nat.beq g' g
 | Option.none=>false
def TV.dat (h:Nat→TBlk) (t:CT):TV→Option t.den
 | .c t' x=>if e:t'.beq t=true then some (Qgr e x) else none
 | .n ts=>match t with
  | .sl ts'=>bif CT.beqL ts ts' then some ([]:List (Tup ts')) else none
  | _=>none
 | .r _ id off len=>match t with
  | .sl ts'=>match h id with
   | .sl _ ts m es=>bif m.full then (if e:CT.beqL ts ts'=true then some (((QbB e es).drop off).take len) else none) else none
   | _=>none
  | _=>none
 | .bs ts x id v _=>match t with
  | .sl ts'=>bif (h id).ver v then (if e:CT.beqL ts ts'=true then some (QbB e x) else none) else none
  | _=>none
 | _=>none
def TV.datC (h:Nat→TBlk):TV→Option TV
 | .c t x=>some (.c t x)
 | .n ts=>some (.c (.sl ts) [])
 | .r _ id off len=>match h id with
  | .sl _ ts m es=>bif m.full then some (.c (.sl ts) ((es.drop off).take len)) else none
  | _=>none
 | .bs ts x id v _=>bif (h id).ver v then some (.c (.sl ts) x) else none
 | _=>none
def TV.datL (h:Nat→TBlk):List TV→Option (List TV)
 | []=>some []
 | x::xs=>match x.datC h,TV.datL h xs with
  | some d,some ds=>some (d::ds)
  | _,_=>none
def Tup.cells:(ts:List CT)→Tup ts→List TV
 | [],_=>[]
 | t::ts,x=>.c t (hd ts x)::Tup.cells ts (tl ts x)
def Tup.of (h:Nat→TBlk):(ts:List CT)→List TV→Option (Tup ts)
 | [],xs=>match xs with
  | []=>some ()
  | _=>none
 | t::ts,xs=>match xs with
  | x::xs=>match x.dat h t,Tup.of h ts xs with
   | some a,some b=>some (mkT ts a b)
   | _,_=>none
  | []=>none
def TV.cells:TV→List TV
 | .a cs=>cs
 | x=>[x]
def TV.one:TV→Bool
 | .c _ _ | .n _ | .r .. | .p .. | .q .. | .bs .. | .bq ..=>true
 | _=>false
def TV.st:TV→Bool
 | .a _=>true
 | x=>x.one
def TV.ref1:TV→List Nat
 | .r _ id _ _=>[id]
 | .bs _ _ id _ _=>[id]
 | _=>[]
def TV.mref1:TV→List Nat
 | .r _ id _ _=>[id]
 | _=>[]
def TV.mrefsL:List TV→List Nat
 | []=>[]
 | x::xs=>x.mref1++TV.mrefsL xs
def TV.mrefs:TV→List Nat
 | .a cs=>TV.mrefsL cs
 | .g b v=>bif b then v.mrefs else []
 | x=>x.mref1
def TV.refsL:List TV→List Nat
 | []=>[]
 | x::xs=>x.ref1++TV.refsL xs
def TV.refs:TV→List Nat
 | .a cs=>TV.refsL cs
 | .g b v=>bif b then v.refs else []
 | x=>x.ref1
def TV.lent:TV→List Nat
 | .p id _ _=>[id]
 | .g b v=>bif b then v.lent else []
 | _=>[]
def fzT:TBlk→TBlk
 | .sl e ts _ es=>.sl e ts .fz es
 | b=>b
def frzT (h:Nat→TBlk):List Nat→List (Nat × TBlk)
 | []=>[]
 | id::ids=>(id,fzT (h id))::frzT h ids
def QaV (agg:Bool) (cs:List TV):Option TV :=
 if agg then some (.a cs) else match cs with
  | [x]=>bif x.one then some x else none
  | _=>none
def TBlk.alive:TBlk→Bool
 | .box _=>true
 | .sl ..=>true
 | _=>false
def QbT:List TV→Option (List Int)
 | []=>some []
 | .c (.int .i64) x::r=>match QbT r with
  | some l=>some (x::l)
  | none=>none
 | _=>none
def Qic:TV→Option Int
 | .c (.int _) x=>some x
 | _=>none
def Qat (T:Nat→TV) (m:Int):Option TOpd→Option Int
 | some l=>Qic (l.ev T)
 | none=>some m
def targ (h:Nat→TBlk):TV→Option TV
 | .a cs=>match TV.datL h cs with
  | some ds=>some (.a ds)
  | none=>none
 | .p id 0 0=>match h id with
  | .box cs=>match TV.refsL cs with
   | []=>match TV.datL h cs with
    | some ds=>some (.bx ds)
    | none=>none
   | _=>none
  | _=>none
 | x=>x.datC h
def Qcf (h:Nat→TBlk):List TV→Option (List TV)
 | []=>some []
 | x::xs=>match targ h x,Qcf h xs with
  | some d,some ds=>some (d::ds)
  | _,_=>none
def mixP:Option Prop→Option Prop→Option Prop
 | none,q=>q
 | some p,none=>some p
 | some p,some q=>some (p∧q)
def Qkl (h:Nat→TBlk):TV→Option (Option Prop × TV)
 | .r ts id 0 len=>match h id with
  | .sl e ts' .ow es=>bif CT.beqL ts' ts then some (some (len=es.length),.ow e ts' .ow es) else none
  | _=>none
 | _=>none
def Qdw (h:Nat→TBlk):TV→Option (Option Prop × TV)
 | .c t x=>bif t.flat then some (none,.c t x) else none
 | .r ts id 0 len=>match h id with
  | .sl _ ts' (.dp _ _ []) es=>bif CT.beqL ts' ts then some (some (len=es.length),.ow 0 ts' dw es) else none
  | _=>none
 | _=>none
def Qcr (h:Nat→TBlk):List TV→Option (Option Prop × List TV)
 | []=>some (none,[])
 | x::xs=>match Qdw h x,Qcr h xs with
  | some (p,d),some (q,ds)=>some (mixP p q,d::ds)
  | _,_=>none
def Qdi (h:Nat→TBlk):TV→Option (Option Prop × TV)
 | .a cs=>match Qcr h cs with
  | some (p,ds)=>some (p,.a ds)
  | none=>none
 | .r ts id off len=>Qdw h (.r ts id off len)
 | _=>none
def Qd8 (h:Nat→TBlk):AM→TV→Option (Option Prop × TV)
 | .d,x=>match targ h x with
  | some d=>some (none,d)
  | none=>none
 | .o,x=>Qkl h x
 | .p,x=>Qdi h x
def JG (h:Nat→TBlk):List AM→List TV→Option (Option Prop × List TV)
 | [],xs=>match Qcf h xs with
  | some ds=>some (none,ds)
  | none=>none
 | m::ms,xs=>match xs with
  | []=>some (none,[])
  | x::xs=>match Qd8 h m x,JG h ms xs with
   | some (p,d),some (q,ds)=>some (mixP p q,d::ds)
   | _,_=>none
def Qaz:List AM→List TV→List TV
 | [],_=>[]
 | m::ms,xs=>match xs with
  | []=>[]
  | x::xs=>bif m.h then x::Qaz ms xs else Qaz ms xs
def J2:List AM→List TV→List TV
 | [],xs=>xs
 | m::ms,xs=>match xs with
  | []=>[]
  | x::xs=>bif m.h then J2 ms xs else x::J2 ms xs
def QtO:TBlk→TBlk→TBlk
 | .sl e _ (.dp g _ _) _,.sl _ ts (.dp _ _ []) es=>.sl e ts (.dp (g+1) false []) es
 | .sl _ _ (.dp _ _ _) _,_=>.dead
 | _,B=>B
def QdA (h:Nat→TBlk):List Nat→List TBlk→List (Nat × TBlk)
 | id::ids,x::xs=>(id,QtO (h id) x)::QdA h ids xs
 | _,_=>[]
def Qf0:List Nat→List Nat→Bool
 | [],_=>true
 | x::xs,ys=>(ys.all fun y=>!Nat.beq x y)&&Qf0 xs ys
def TV.sh1 (b:Nat):TV→TV
 | .r ts id off len=>.r ts (id+b) off len
 | .p id i j=>.p (id+b) i j
 | .c t x=>.c t x
 | .n ts=>.n ts
 | .q ts x j=>.q ts x j
 | _=>.u
def TV.sh2 (b:Nat):TV→TV
 | .a cs=>.a (cs.map (TV.sh1 b))
 | x=>x.sh1 b
def TV.sh (b:Nat):TV→TV
 | .tp vs=>.tp (vs.map (TV.sh2 b))
 | .g d v=>.g d (v.sh b)
 | x=>x.sh2 b
def TBlk.sh (b:Nat):TBlk→TBlk
 | .box cs=>.box (cs.map (TV.sh1 b))
 | x=>x
def Qdn (b:Nat):List TBlk→List (Nat × TBlk)
 | []=>[]
 | x::xs=>(b,x)::Qdn (b+1) xs
def QfA:List Nat→List (List TV)→List (Nat × TBlk)
 | id::ids,cs::css=>(id,.box cs)::QfA ids css
 | _,_=>[]
def Qb7 (T:Nat→TV):List TV→List (Nat × Nat × TOpd)→Option (List TV)
 | cs,[]=>some cs
 | cs,(off,n,x)::r =>
  bif Nat.beq (x.ev T).cells.length n&&Nat.ble (off+n) cs.length&&(x.ev T).st then Qb7 T (splice cs off (x.ev T).cells) r else none
def QcR (h:Nat→TBlk) (T:Nat→TV) (ts:List CT):List TOpd→Option (List (Tup ts))
 | []=>some []
 | x::r=>match Tup.of h ts (x.ev T).cells,QcR h T ts r with
  | some e,some es=>some (e::es)
  | _,_=>none
def Qac:List Nat→Bool
 | []=>true
 | x::xs=>!(xs.elem x)&&Qac xs
def tcut (l:List TV) (j n:Nat):Option (List TV):=bif Nat.ble (j+n) l.length then some ((l.drop j).take n) else none
def tbin (op:BinOp):TV→TV→Option TE
 | .c (.int k) x,.c (.int k') y =>
  match op with
  | .shl=>some ⟨some ((0:Int)≤y),.c (.int k) (k.wrap (x*2 ^ (min (Int.toNat y) k.bits))),[]⟩
  | .shr=>some ⟨some ((0:Int)≤y),.c (.int k) (Int.fdiv x (2 ^ (min (Int.toNat y) k.bits))),[]⟩
  | op=>if k=k' then (match op with
   | .add=>some ⟨none,.c (.int k) (k.wrap (x+y)),[]⟩
   | .sub=>some ⟨none,.c (.int k) (k.wrap (x-y)),[]⟩
   | .mul=>some ⟨none,.c (.int k) (k.wrap (x*y)),[]⟩
   | .quo=>some ⟨some (¬ (y:Int)=0),.c (.int k) (k.wrap (Int.tdiv x y)),[]⟩
   | .rem=>some ⟨some (¬ (y:Int)=0),.c (.int k) (Int.tmod x y),[]⟩
   | .and=>some ⟨none,.c (.int k) (k.wrap ((BitVec.ofInt k.bits x &&& BitVec.ofInt k.bits y).toNat)),[]⟩
   | .or=>some ⟨none,.c (.int k) (k.wrap ((BitVec.ofInt k.bits x ||| BitVec.ofInt k.bits y).toNat)),[]⟩
   | .xor=>some ⟨none,.c (.int k) (k.wrap ((BitVec.ofInt k.bits x ^^^ BitVec.ofInt k.bits y).toNat)),[]⟩
   | .eql=>some ⟨none,.c .bool ((x:Int)==y),[]⟩
   | .neq=>some ⟨none,.c .bool ((x:Int) != y),[]⟩
   | .lss=>some ⟨none,.c .bool (decide ((x:Int)<y)),[]⟩
   | .leq=>some ⟨none,.c .bool (decide ((x:Int)≤y)),[]⟩
   | .gtr=>some ⟨none,.c .bool (decide ((x:Int)>y)),[]⟩
   | .geq=>some ⟨none,.c .bool (decide ((x:Int)≥y)),[]⟩
   | _=>none) else none
 | .c .str x,.c .str y=>match op with
  | .eql=>some ⟨none,.c .bool (ByteArray.toList x==ByteArray.toList y),[]⟩
  | .neq=>some ⟨none,.c .bool (!(ByteArray.toList x==ByteArray.toList y)),[]⟩
  | _=>none
 | _,_=>none
def selB {α:Type} (b:Bool) (x y:α):α:=match b with
 | true=>x
 | false=>y
def gt (ts:List CT) (l:List (Tup ts)) (i:Nat):Tup ts:=l.getD i (Tup.dft ts)
def Tup.cellsB (id g i:Nat):Nat→(ts:List CT)→Tup ts→List TV
 | _,[],_=>[]
 | j,t::ts,x=>(match t,hd ts x with
  | .sl us,l=>TV.bs us l id g [(i,j)]
  | t,v=>.c t v)::Tup.cellsB id g i (j+1) ts (tl ts x)
def Tup.cellsM (m:Mo) (id i:Nat) (ts:List CT) (x:Tup ts):List TV:=match m with
 | .dp g _ _=>Tup.cellsB id g i 0 ts x
 | _=>Tup.cells ts x
def Tup.cellsQ (id g:Nat) (p:Pth) (i:Nat):Nat→(ts:List CT)→Tup ts→List TV
 | _,[],_=>[]
 | j,t::ts,x=>(match t,hd ts x with
  | .sl us,l=>TV.bs us l id g (p++[(i,j)])
  | t,v=>.c t v)::Tup.cellsQ id g p i (j+1) ts (tl ts x)
def TV.mov (h:Nat→TBlk) (id g i j:Nat):TV→Option (Option Prop)
 | .c t _=>bif t.flat then some none else none
 | .n _=>some none
 | .r _ id' _ _=>bif !(Nat.beq id' id)&&(h id').dpf then some none else none
 | .bs _ _ id' g' pt=>match pt with
  | [(i',j')]=>bif Nat.beq id' id&&Nat.beq g' g&&Nat.beq j' j then some (some (i'=i)) else none
  | _=>none
 | _=>none
def TV.movL (h:Nat→TBlk) (id g i:Nat):Nat→List TV→Option (Option Prop)
 | _,[]=>some none
 | j,x::xs=>match x.mov h id g i j,TV.movL h id g i (j+1) xs with
  | some P,some Q=>some (mixP P Q)
  | _,_=>none
def Qfo (h:Nat→TBlk) (b:Nat) (T:Nat→TV):Nat→List TOpd→Option (Option Prop)
 | _,[]=>some none
 | i,x::r=>match TV.movL h b 0 i 0 (x.ev T).cells,Qfo h b T (i+1) r with
  | some p,some q=>some (mixP p q)
  | _,_=>none
def tkil:List Nat→List (Nat × TBlk)
 | []=>[]
 | id::ids=>(id,.dead)::tkil ids
def TV.pl:TV→Bool
 | .c t _=>t.flat
 | .n _=>true
 | _=>false
def TBlk.isDp:TBlk→Bool
 | .sl _ _ (.dp _ _ _) _=>true
 | _=>false
def TV.okA (h:Nat→TBlk) (ts:List CT):TV→Bool
 | .r _ idx _ _=>!(h idx).isDp||ts.all CT.flat
 | .bs ..=>ts.all CT.flat
 | _=>true
def TV.movA (h:Nat→TBlk) (id len:Nat) (ts:List CT):TV→Option (Option Prop)
 | .r _ idx off _=>bif (h idx).isDp then (bif Nat.beq idx id then some (some (len≤off)) else some none) else bif ts.all CT.flat then some none else none
 | _=>bif ts.all CT.flat then some none else none
def TV.killA (h:Nat→TBlk):TV→List Nat
 | .r _ idx _ _=>bif (h idx).isDp then [idx] else []
 | _=>[]
def isPT:TV→Bool
 | .c t _=>t.flat
 | _=>false
def QjK (Γ:TTab) (h:Nat→TBlk) (b:Nat) (f:FuncId) (id g i j:Nat) (xs:List TV):Option TE :=
 match h id with
 | .sl e ts (.dp g0 t []) es=>match (Tup.cells ts (gt ts es i))[j]? with
  | some (.c (.sl us) l)=>match Yk Γ.rows f with
   | some row=>bif Zi row.sg (.ow 0 us dw l::xs)&&Nat.beq g0 g&&xs.all isPT&&!us.isEmpty then (match row.fn (.ow 0 us dw l::xs) with
    | some (pre,⟨v,[],[],_,[.sl _ us1 (.dp _ _ []) es1]⟩)=>match Tup.of (fun _=>.none) ts (splice (Tup.cells ts (gt ts es i)) j [.c (.sl us1) es1]) with
     | some x=>bif CT.beqL us1 us then some ⟨mixP (some (i<es.length)) pre,v.sh b,[(b,.dead),(id,.sl e ts (.dp (g+1) t []) (es.set i x))]⟩ else none
     | none=>none
    | _=>none) else none
   | none=>none
  | _=>none
 | _=>none
def QhL (ms:List AM) (xs:List TV):Option (Nat × Nat × Nat × Nat × List TV) :=
 match ms,xs with
 | .p::ms,.bs _ _ id g [(i,j)]::r=>if ms.all (fun m=>!m.h)=true then some (id,g,i,j,r) else none
 | _,_=>none
def Qjy (Γ:TTab) (h:Nat→TBlk) (b:Nat) (f:FuncId) (xs:List TV) (row:TRow):Option TE :=
 match JG h (mdOf row.sg) xs with
   | some (p0,vs)=>bif Zi row.sg vs then (match row.fn vs with
    | some (pre,r)=>bif Nat.ble r.hb.length 16&&((r.bx.isEmpty&&r.gv.isEmpty)||r.al)&&Qac ((J2 (mdOf row.sg) xs).flatMap TV.lent) &&
       Qac ((Qaz (mdOf row.sg) xs).flatMap TV.refs)&&Qf0 ((Qaz (mdOf row.sg) xs).flatMap TV.refs) ((J2 (mdOf row.sg) xs).flatMap TV.refs) then
      some ⟨mixP p0 pre,r.v.sh b,Qdn b (r.hb.map (TBlk.sh b))++QfA ((J2 (mdOf row.sg) xs).flatMap TV.lent) r.bx++QdA h ((Qaz (mdOf row.sg) xs).flatMap TV.refs) r.gv ++
       (if r.al then frzT h ((J2 (mdOf row.sg) xs).flatMap TV.refs) else [])⟩ else none
    | none=>none) else none
   | none=>none
def QJ (Γ:TTab) (T:Nat→TV) (h:Nat→TBlk) (b:Nat):TOp→Option TE
 | .mov x=>some ⟨none,x.ev T,[]⟩
 | .pick c x y=>match c.ev T,x.ev T,y.ev T with
  | .c .bool c,.c .bool x,.c .bool y=>some ⟨none,.c .bool (bif c then x else y),[]⟩
  | _,_,_=>none
 | .bin op x y=>tbin op (x.ev T) (y.ev T)
 | .cmpa n neg x y=>match x.ev T,y.ev T with
  | .a xs,.a ys=>match QbT xs,QbT ys with
   | some l,some m=>bif Nat.beq l.length n&&Nat.beq m.length n then some ⟨none,.c .bool (selB neg (!decide (l=m)) (decide (l=m))),[]⟩ else none
   | _,_=>none
  | _,_=>none
 | .eqb neg x y=>match x.ev T,y.ev T with
  | .c .bool x,.c .bool y=>some ⟨none,.c .bool (selB neg (!((x:Bool)==y)) ((x:Bool)==y)),[]⟩
  | _,_=>none
 | .not x=>match x.ev T with
  | .c .bool c=>some ⟨none,.c .bool (!c),[]⟩
  | _=>none
 | .neg x=>match x.ev T with
  | .c (.int k) n=>some ⟨none,.c (.int k) (k.wrap (0-n)),[]⟩
  | _=>none
 | .new _ zs=>some ⟨none,.p b 0 0,[(b,.box zs)]⟩
 | .box _ x n=>bif Nat.beq (x.ev T).cells.length n&&(x.ev T).st then some ⟨none,.p b 0 0,[(b,.box (x.ev T).cells)]⟩ else none
 | .load x n agg=>match x.ev T with
  | .p id i j=>match h id with
   | .box cs=>match i with
    | 0=>match tcut cs j n with
     | some l=>match QaV agg l with
      | some v=>some ⟨none,v,[]⟩
      | none=>none
     | none=>none
    | _=>none
   | .sl _ ts m es=>bif m.full then (match tcut (Tup.cellsM m id i ts (gt ts es i)) j n with
    | some l=>match QaV agg l with
     | some v=>some ⟨some (i<es.length),v,[]⟩
     | none=>none
    | none=>none) else none
   | _=>none
  | .bq ts x j id g p i=>bif (h id).ver g then (match tcut (Tup.cellsQ id g p i 0 ts x) j n with
   | some l=>match QaV agg l with
    | some v=>some ⟨none,v,[]⟩
    | none=>none
   | none=>none) else none
  | .q ts x j=>match tcut (Tup.cells ts x) j n with
   | some l=>match QaV agg l with
    | some v=>some ⟨none,v,[]⟩
    | none=>none
   | none=>none
  | _=>none
 | .store x v n=>bif Nat.beq (v.ev T).cells.length n&&(v.ev T).st then (match x.ev T with
  | .p id i j=>match h id with
   | .box cs=>match i with
    | 0=>bif Nat.ble (j+n) cs.length then some ⟨none,.u,[(id,.box (splice cs j (v.ev T).cells))]⟩ else none
    | _=>none
   | .sl e ts .ow es=>match Tup.of h ts (splice (Tup.cells ts (gt ts es i)) j (v.ev T).cells) with
    | some x=>bif Nat.ble (j+n) ts.length&&!((v.ev T).refs.elem id) then some ⟨some (i<es.length),.u,(id,.sl e ts .ow (es.set i x))::frzT h (v.ev T).refs⟩ else none
    | none=>none
   | .sl e ts (.dp g t []) es=>match Tup.of h ts (splice (Tup.cells ts (gt ts es i)) j (v.ev T).cells) with
    | some x=>match TV.movL h id g i j (v.ev T).cells with
     | some q=>bif Nat.ble (j+n) ts.length&&Qac (v.ev T).mrefs then some ⟨mixP (some (i<es.length)) q,.u,(id,.sl e ts (.dp (g+1) t []) (es.set i x))::tkil (v.ev T).mrefs⟩ else none
     | none=>none
    | none=>none
   | _=>none
  | _=>none) else none
 | .fad x off=>match x.ev T with
  | .p id i j=>bif (h id).alive then some ⟨none,.p id i (j+off),[]⟩ else none
  | .q ts x j=>some ⟨none,.q ts x (j+off),[]⟩
  | .bq ts x j id g p i=>bif (h id).ver g then some ⟨none,.bq ts x (j+off) id g p i,[]⟩ else none
  | _=>none
 | .iad x i ts=>match i.ev T with
  | .c (.int _) i=>match x.ev T with
   | .c (.sl ts') l=>bif CT.beqL ts' ts then some ⟨some ((0:Int)≤i∧Int.toNat i<List.length l),.q ts' (gt ts' l (Int.toNat i)) 0,[]⟩ else none
   | .r ts' id off len=>bif CT.beqL ts' ts&&(h id).alive then some ⟨some ((0:Int)≤i∧Int.toNat i<len),.p id (off+Int.toNat i) 0,[]⟩ else none
   | .bs ts' l id g p=>bif CT.beqL ts' ts&&(h id).ver g then some ⟨some ((0:Int)≤i∧Int.toNat i<List.length l),.bq ts' (gt ts' l (Int.toNat i)) 0 id g p (Int.toNat i),[]⟩ else none
   | _=>none
  | _=>none
 | .fld x off n agg=>match x.ev T with
  | .a cs=>match tcut cs off n with
   | some l=>match QaV agg l with
    | some v=>some ⟨none,v,[]⟩
    | none=>none
   | none=>none
  | _=>none
 | .build zs ps=>match Qb7 T zs ps with
  | some cs=>some ⟨none,.a cs,[]⟩
  | none=>none
 | .bsl e ts ps=>match QcR h T ts ps with
  | some es=>match Γ.dp with
   | true=>match Qfo h b T 0 ps with
    | some q=>bif Qac (ps.flatMap fun x=>(x.ev T).mrefs) then some ⟨q,.r ts b 0 es.length,(b,.sl e ts (.dp 0 true []) es)::tkil (ps.flatMap fun x=>(x.ev T).mrefs)⟩ else none
    | none=>none
   | false=>some ⟨none,.r ts b 0 es.length,(b,.sl e ts .ow es)::frzT h (ps.flatMap fun x=>(x.ev T).refs)⟩
  | none=>none
 | .mk e ts zs n=>match n.ev T,Tup.of h ts zs with
  | .c (.int _) n,some z=>bif !Γ.dp||zs.all TV.pl then some ⟨some ((0:Int)≤n∧n≤big),.r ts b 0 (Int.toNat n),[(b,.sl e ts (selB Γ.dp (.dp 0 true []) .ow) (List.replicate (Int.toNat n) z))]⟩ else none
  | _,_=>none
 | .slc x lo hi ts =>
  match Qat T 0 lo with
  | some lo=>match x.ev T with
   | .c (.sl ts') l=>match Qat T (List.length l) hi with
    | some hi=>bif CT.beqL ts' ts then some ⟨some (0≤lo∧lo≤hi∧hi≤List.length l),.c (.sl ts') (List.take (hi.toNat-lo.toNat) (List.drop lo.toNat l)),[]⟩ else none
    | none=>none
   | .r ts' id off len=>match Qat T len hi with
    | some hi=>bif CT.beqL ts' ts&&(h id).alive then some ⟨some (0≤lo∧lo≤hi∧hi≤len),.r ts' id (off+lo.toNat) (hi.toNat-lo.toNat),[]⟩ else none
    | none=>none
   | .n _=>match Qat T 0 hi with
    | some hi=>some ⟨some (lo=0∧hi=0),.n ts,[]⟩
    | none=>none
   | _=>none
  | none=>none
 | .len x=>match x.ev T with
  | .c (.sl _) l=>some ⟨none,.c (.int .i64) (List.length l:Int),[]⟩
  | .n _=>some ⟨none,.c (.int .i64) (0:Int),[]⟩
  | .r _ id _ len=>bif (h id).alive then some ⟨none,.c (.int .i64) (len:Int),[]⟩ else none
  | .bs _ l id g _=>bif (h id).ver g then some ⟨none,.c (.int .i64) (List.length l:Int),[]⟩ else none
  | _=>none
 | .app s x e ts=>match (x.ev T).dat h (.sl ts) with
  | some xs=>match s.ev T with
   | .n _=>match Γ.dp with
    | true=>match (x.ev T).movA h b 0 ts with
     | some q=>some ⟨mixP (some (List.length xs≤big)) q,.r ts b 0 (List.length xs),tkil ((x.ev T).killA h)++[(b,.sl e ts (.dp 0 true []) xs)]⟩
     | none=>none
    | false=>bif (x.ev T).okA h ts then some ⟨some (List.length xs≤big),.r ts b 0 (List.length xs),[(b,.sl e ts .ow xs)]⟩ else none
   | .r _ id 0 len=>match h id with
    | .sl e' ts' .ow es=>if q:CT.beqL ts' ts=true then (bif Nat.beq e' e&&(x.ev T).okA h ts then
      some ⟨some ((len=es.length∨len+List.length xs≤es.length)∧len+List.length xs≤big),.r ts b 0 (len+List.length xs),[(id,.dead),(b,.sl e ts .ow ((QbB q es).take len++xs))]⟩ else none) else none
    | .sl e' ts' (.dp _ true []) es=>if q:CT.beqL ts' ts=true then (bif Nat.beq e' e then (match (x.ev T).movA h id len ts with
      | some r=>some ⟨mixP (some ((len=es.length∨len+List.length xs≤es.length)∧len+List.length xs≤big)) r,.r ts b 0 (len+List.length xs),(id,.dead)::tkil ((x.ev T).killA h)++[(b,.sl e ts (.dp 0 true []) ((QbB q es).take len++xs))]⟩
      | none=>none) else none) else none
    | _=>none
   | _=>none
  | none=>none
 | .mm mx x y=>match x.ev T,y.ev T with
  | .c (.int k) x,.c (.int _) y=>some ⟨none,.c (.int k) (selB mx (if (x:Int)<y then y else x) (if (y:Int)<x then y else x)),[]⟩
  | _,_=>none
 | .call f args=>match Yk Γ.rows f with
  | some row=>match QhL (mdOf row.sg) (args.map fun x=>x.ev T) with
   | some (id,g,i,j,r)=>QjK Γ h b f id g i j r
   | none=>Qjy Γ h b f (args.map fun x=>x.ev T) row
  | none=>none
 | .ext x i=>match x.ev T with
  | .tp vs=>match vs[i]? with
   | some v=>bif v.st then some ⟨none,v,[]⟩ else none
   | none=>none
  | _=>none
 | .conv k x=>match x.ev T with
  | .c (.int _) n=>some ⟨none,.c (.int k) (k.wrap n),[]⟩
  | _=>none
 | .nilc x=>match x.ev T with
  | .p id i j=>bif (h id).alive then some ⟨none,.p id i j,[]⟩ else none
  | .q ts x j=>some ⟨none,.q ts x j,[]⟩
  | .bq ts x j id g p i=>bif (h id).ver g then some ⟨none,.bq ts x j id g p i,[]⟩ else none
  | _=>none
end Go.Proofs.YtdplaepmjogjjaaGreat.Am
namespace Go.Proofs.YtdplaepmjogjjaaGreat.Am
open Go Go.RowKit
@[simp] theorem QgW {ts:List CT} (e:CT.beqL ts ts=true) (l:List (Tup ts)):QbB e l=l:=rfl
@[simp] theorem QJD {t:CT} (e:t.beq t=true) (x:t.den):Qgr e x=x:=rfl
theorem TBlk.emb_sl {e:TypeId} {ts:List CT} {m:Mo} {es:List (Tup ts)}:(TBlk.sl e ts m es).emb = .sl e ts.length m (es.map (encs ts)):=rfl
theorem TBlk.emb_box {cs:List TV}:(TBlk.box cs).emb = .box (cs.map TV.emb1):=rfl
theorem TBlk.emb_dead:TBlk.dead.emb = .dead:=rfl
theorem QQ (T:Nat→TV) (o:TOpd):o.er.ev (fun s=>(T s).emb)=(o.ev T).emb:=by cases o <;> rfl
theorem Qa3 {x:TV} (h:x.one=true):x.emb=x.emb1:=by cases x <;> first | rfl | simp [TV.one] at h
theorem Qjo {x:TV} (h:x.st=true):x.emb.st=true:=by cases x <;> first | rfl | simp [TV.st,TV.one] at h
theorem Qcl {x:TV} (h:x.st=true):x.emb.cells=x.cells.map TV.emb1:=by cases x <;> first | rfl | simp [TV.st,TV.one] at h
theorem QG3 {x:TV}:x.emb1.ref1=x.ref1:=by cases x <;> rfl
theorem Qyt {x:TV}:x.emb1.mref1=x.mref1:=by cases x <;> rfl
theorem Qpl:∀ {xs:List TV},AV.mrefsL (xs.map TV.emb1)=TV.mrefsL xs
 | []=>rfl
 | x::xs=>by simp only [List.map_cons,AV.mrefsL,TV.mrefsL,Qyt,Qpl (xs:=xs)]
theorem QhK:∀ {xs:List TV},AV.refsL (xs.map TV.emb1)=TV.refsL xs
 | []=>rfl
 | x::xs=>by simp only [List.map_cons,AV.refsL,TV.refsL,QG3,QhK (xs:=xs)]
theorem QeD:∀ {x:TV},x.emb.refs=x.refs
 | .a cs=>QhK
 | .g true v=>QeD (x:=v)
 | .g false v=>rfl
 | .u=>rfl
 | .c _ _=>rfl
 | .n _=>rfl
 | .r ..=>rfl
 | .p ..=>rfl
 | .q ..=>rfl
 | .tp _=>rfl
 | .bx _=>rfl
 | .ow ..=>rfl
 | .bs ..=>rfl
 | .bq ..=>rfl
theorem Qh7:∀ {x:TV},x.emb.mrefs=x.mrefs
 | .a cs=>Qpl
 | .g true v=>Qh7 (x:=v)
 | .g false v=>rfl
 | .u=>rfl
 | .c _ _=>rfl
 | .n _=>rfl
 | .r ..=>rfl
 | .p ..=>rfl
 | .q ..=>rfl
 | .tp _=>rfl
 | .bx _=>rfl
 | .ow ..=>rfl
 | .bs ..=>rfl
 | .bq ..=>rfl
theorem QkR:∀ {x:TV},x.emb.lent=x.lent
 | .a cs=>rfl
 | .g true v=>QkR (x:=v)
 | .g false v=>rfl
 | .u=>rfl
 | .c _ _=>rfl
 | .n _=>rfl
 | .r ..=>rfl
 | .p ..=>rfl
 | .q ..=>rfl
 | .tp _=>rfl
 | .bx _=>rfl
 | .ow ..=>rfl
 | .bs ..=>rfl
 | .bq ..=>rfl
theorem QCu {h:Nat→TBlk} {t:CT} {x:TV} {d:t.den} (e:x.dat h t=some d):x.one=true:=by
 cases x <;> first | rfl | simp [TV.dat] at e
theorem Qz {α:Type} {b:Bool} {x:Option α} {y:α} (h:(bif b then x else none)=some y):b=true∧x=some y:=by
 cases b with
 | true=>exact ⟨rfl,h⟩
 | false=>cases h
theorem QJv (b:TBlk):b.emb.genf=b.genf:=by
 cases b with
 | sl e ts m es =>
  cases m with
  | dp g t H=>cases H <;> rfl
  | _=>rfl
 | _=>rfl
theorem QyZ (b:TBlk):b.emb.dpf=b.dpf:=by
 cases b with
 | sl e ts m es =>
  cases m with
  | dp g t H=>cases H <;> rfl
  | _=>rfl
 | _=>rfl
theorem QaK {b:TBlk} {g:Nat} (h:b.ver g=true):b.emb.genf=some g:=by
 rw [QJv]
 unfold TBlk.ver at h
 cases hx:b.genf with
 | none=>rw [hx] at h;cases h
 | some g'=>rw [hx] at h;rw [Nat.eq_of_beq_eq_true h]
theorem QuS {h:Nat→TBlk} {t:CT} {x:TV} {d:t.den} (e:x.dat h t=some d):x.emb1.d (fun i=>(h i).emb)=some (enc t d):=by
 cases x with
 | c t' x =>
  simp only [TV.dat] at e
  split at e
  ·rename_i q
   obtain rfl:=CT.beq_eq _ _ q
   cases e
   rfl
  ·cases e
 | n ts =>
  cases t with
  | sl ts' =>
   simp only [TV.dat] at e
   obtain ⟨q,e⟩:=Qz e
   obtain rfl:=CT.beqL_eq _ _ q
   cases e
   simp [TV.emb1,AV.d,enc]
  | _=>simp [TV.dat] at e
 | r ts id off len =>
  cases t with
  | sl ts' =>
   simp only [TV.dat] at e
   split at e
   rotate_left
   ·cases e
   rename_i hh
   obtain ⟨hf,e⟩:=Qz e
   split at e
   rotate_left
   ·cases e
   rename_i q
   obtain rfl:=CT.beqL_eq _ _ q
   cases e
   simp only [TV.emb1,AV.d,hh,TBlk.emb,QgW,enc,List.map_take,List.map_drop,hf,if_true]
  | _=>simp [TV.dat] at e
 | bs ts l id g p =>
  cases t with
  | sl ts' =>
   simp only [TV.dat] at e
   obtain ⟨hv,e⟩:=Qz e
   split at e
   rotate_left
   ·cases e
   rename_i q
   obtain rfl:=CT.beqL_eq _ _ q
   cases e
   simp only [TV.emb1,AV.d,QaK hv,QgW,enc,if_true]
  | _=>simp [TV.dat] at e
 | _=>simp [TV.dat] at e
theorem Qcd {A:Type} (ts:List CT) (a:A) (b:Tup ts):hd ts (mkT ts a b)=a:=by cases ts <;> rfl
theorem Qc8 {A:Type} (ts:List CT) (a:A) (b:Tup ts):tl ts (mkT ts a b)=b:=by cases ts <;> rfl
theorem QbD {h:Nat→TBlk}:∀ (ts:List CT) (xs:List TV) (d:Tup ts),Tup.of h ts xs=some d→AV.ds (fun i=>(h i).emb) (xs.map TV.emb1)=some (encs ts d)∧xs.length=ts.length
 | [],xs,d,e=>by
  cases xs with
  | nil=>exact ⟨rfl,rfl⟩
  | cons x xs=>cases (show (none:Option (Tup []))=some d from e)
 | t::ts,xs,d,e=>by
  cases xs with
  | nil=>cases (show (none:Option (Tup (t::ts)))=some d from e)
  | cons x xs =>
   have e:(match x.dat h t,Tup.of h ts xs with | some a,some b=>some (mkT ts a b) | _,_=>none)=some d:=e
   split at e
   rotate_left
   ·cases e
   rename_i a b ha hb
   cases e
   have h1:=QuS (t:=t) ha
   obtain ⟨h2,h3⟩:=QbD ts xs b hb
   rw [encs,Qcd,Qc8]
   simp only [List.map_cons,AV.ds,h1,h2,List.length_cons,h3,and_self]
theorem Qaf:∀ (ts:List CT) (x:Tup ts),(encs ts x).length=ts.length
 | [],x=>by rw [encs];rfl
 | t::ts,x=>by rw [encs,List.length_cons,List.length_cons,Qaf ts]
theorem JO:∀ (ts:List CT) (x:Tup ts),(Tup.cells ts x).map TV.emb1=(encs ts x).map AV.c
 | [],x=>by rw [encs,Tup.cells];rfl
 | t::ts,x=>by rw [encs,Tup.cells,List.map_cons,List.map_cons,JO ts];rfl
theorem QcD {α β:Type} (f:α→β) (l:List α) (j:Nat) (xs:List α):(splice l j xs).map f=splice (l.map f) j (xs.map f):=by
 simp [splice]
theorem Qpp {h:Nat→TBlk} {x y:TV} (e:x.datC h=some y):x.one=true∧∃ t d,y = .c t d∧x.emb1.d (fun i=>(h i).emb)=some (enc t d):=by
 cases x with
 | c t x=>simp only [TV.datC,Option.some.injEq] at e;subst e;exact ⟨rfl,t,x,rfl,rfl⟩
 | n ts=>simp only [TV.datC,Option.some.injEq] at e;subst e;exact ⟨rfl,.sl ts,[],rfl,by simp [TV.emb1,AV.d,enc]⟩
 | r ts id off len =>
  simp only [TV.datC] at e
  split at e
  rotate_left
  ·cases e
  rename_i hh
  obtain ⟨hf,e⟩:=Qz e
  simp only [Option.some.injEq] at e
  subst e
  exact ⟨rfl,_,_,rfl,by simp only [TV.emb1,AV.d,hh,TBlk.emb,enc,List.map_take,List.map_drop,hf,if_true]⟩
 | bs ts l id g p =>
  simp only [TV.datC] at e
  obtain ⟨hv,e⟩:=Qz e
  simp only [Option.some.injEq] at e
  subst e
  exact ⟨rfl,_,_,rfl,by simp only [TV.emb1,AV.d,QaK hv,enc,if_true]⟩
 | _=>simp [TV.datC] at e
theorem QiY {h:Nat→TBlk}:∀ {xs ys:List TV},TV.datL h xs=some ys→∃ ds,AV.ds (fun i=>(h i).emb) (xs.map TV.emb1)=some ds∧ys.map TV.emb1=ds.map AV.c
 | [],ys,e=>by simp only [TV.datL,Option.some.injEq] at e;subst e;exact ⟨[],rfl,rfl⟩
 | x::xs,ys,e=>by
  simp only [TV.datL] at e
  split at e
  rotate_left
  ·cases e
  rename_i a b ha hb
  simp only [Option.some.injEq] at e
  subst e
  obtain ⟨_,t,d,rfl,h2⟩:=Qpp ha
  obtain ⟨ds,h3,h4⟩:=QiY hb
  exact ⟨enc t d::ds,by simp only [List.map_cons,AV.ds,h2,h3],by simp only [List.map_cons,h4,TV.emb1]⟩
theorem Qod {h:Nat→TBlk} {x y:TV} (e:targ h x=some y):x.emb.arg (fun i=>(h i).emb)=some y.emb:=by
 unfold targ at e
 split at e
 ·rename_i cs
  split at e
  rotate_left
  ·cases e
  rename_i ds hds
  simp only [Option.some.injEq] at e
  subst e
  obtain ⟨d,h1,h2⟩:=QiY hds
  simp only [TV.emb,TV.emb2,AV.arg,h1,h2]
 ·rename_i id
  split at e
  rotate_left
  ·cases e
  rename_i cs hh
  split at e
  rotate_left
  ·cases e
  rename_i hr
  split at e
  rotate_left
  ·cases e
  rename_i ds hds
  simp only [Option.some.injEq] at e
  subst e
  obtain ⟨d,h1,h2⟩:=QiY hds
  show (match (h id).emb with
   | .box cs=>if AV.refsL cs=[] then (match AV.ds (fun i=>(h i).emb) cs with
    | some ds=>some (AV.bx (ds.map .c))
    | none=>none) else none
   | _=>none)=some (TV.emb (.bx ds))
  rw [hh]
  show (if AV.refsL (cs.map TV.emb1)=[] then (match AV.ds (fun i=>(h i).emb) (cs.map TV.emb1) with
    | some ds=>some (AV.bx (ds.map .c))
    | none=>none) else none)=some (TV.emb (.bx ds))
  rw [if_pos (by rw [QhK,hr]),h1]
  simp only [TV.emb,h2]
 ·obtain ⟨h1,t,d,rfl,h2⟩:=Qpp e
  rw [Qa3 h1]
  cases x with
  | c t' x=>simp only [TV.emb1,AV.d,Option.some.injEq] at h2;simp only [TV.emb1,AV.arg,TV.emb,TV.emb2,h2]
  | n ts=>simp only [TV.emb1,AV.d,Option.some.injEq] at h2;simp only [TV.emb1,AV.arg,TV.emb,TV.emb2,h2]
  | r ts id off len=>simp only [TV.emb1] at h2;simp only [TV.emb1,AV.arg,TV.emb,TV.emb2,h2]
  | bs ts l id g p=>simp only [TV.emb1] at h2;simp only [TV.emb1,AV.arg,TV.emb,TV.emb2,h2]
  | _=>simp [TV.datC] at e
theorem QnL {h:Nat→TBlk}:∀ {xs ys:List TV},Qcf h xs=some ys→AV.argL (fun i=>(h i).emb) (xs.map TV.emb)=some (ys.map TV.emb)
 | [],ys,e=>by simp only [Qcf,Option.some.injEq] at e;subst e;rfl
 | x::xs,ys,e=>by
  simp only [Qcf] at e
  split at e
  rotate_left
  ·cases e
  rename_i a b ha hb
  simp only [Option.some.injEq] at e
  subst e
  simp only [List.map_cons,AV.argL,Qod ha,QnL hb]
theorem Qux (b:TBlk):(fzT b).emb=fzB b.emb:=by cases b <;> rfl
def embP (p:Nat × TBlk):Nat × Blk:=(p.1,p.2.emb)
theorem QeA (h:Nat→TBlk):∀ (ids:List Nat),(frzT h ids).map embP=frz (fun i=>(h i).emb) ids
 | []=>rfl
 | id::ids=>by simp only [frzT,frz,List.map_cons,embP,Qux,QeA h ids]
theorem QcB (b:TBlk):b.emb.alive=b.alive:=by cases b <;> rfl
theorem Qc4 {l m:List TV} {j n:Nat} (e:tcut l j n=some m):cut (l.map TV.emb1) j n=some (m.map TV.emb1):=by
 unfold tcut at e
 obtain ⟨q,e⟩:=Qz e
 simp only [Option.some.injEq] at e
 subst e
 have q:=Nat.le_of_ble_eq_true q
 unfold cut
 rw [if_pos (by simpa using q)]
 simp [List.map_take,List.map_drop]
theorem Qce {agg:Bool} {cs:List TV} {v:TV} (e:QaV agg cs=some v):YW agg (cs.map TV.emb1)=some v.emb:=by
 unfold QaV at e
 unfold YW
 cases agg with
 | true=>simp only [if_true,Option.some.injEq] at e ⊢;subst e;rfl
 | false =>
  simp only [Bool.false_eq_true,if_false] at e ⊢
  split at e
  ·rename_i x
   obtain ⟨q,e⟩:=Qz e
   simp only [Option.some.injEq] at e
   subst e
   simp only [List.map_cons,List.map_nil,Qa3 q]
  ·cases e
theorem QjU:∀ {xs:List TV} {l:List Int},QbT xs=some l→JW (xs.map TV.emb1)=some l
 | [],l,e=>by simp only [QbT,Option.some.injEq] at e;subst e;rfl
 | x::xs,l,e=>by
  unfold QbT at e
  split at e
  ·rename_i h;cases h
  ·rename_i n r h
   cases h
   split at e
   rotate_left
   ·cases e
   rename_i l' h'
   simp only [Option.some.injEq] at e
   subst e
   simp only [List.map_cons,TV.emb1,enc,JW,QjU h']
  ·cases e
theorem QHs {x:TV} {n:Int} (e:Qic x=some n):QbP x.emb=some n:=by
 unfold Qic at e
 split at e
 ·cases e;rfl
 ·cases e
theorem QfQ {T:Nat→TV} {m:Int} {o:Option TOpd} {n:Int} (e:Qat T m o=some n):Zt (Opd.ev fun s=>(T s).emb) m (erO o)=some n:=by
 cases o with
 | none=>simpa [Qat,Zt,erO] using e
 | some l=>simp only [Qat] at e;simp only [Zt,erO,QQ];exact QHs e
theorem Qg9 (b:Nat) (x:TV):(x.sh1 b).emb1=x.emb1.sh1 b:=by cases x <;> rfl
theorem QAq (b:Nat) (x:TV):(x.sh2 b).emb2=x.emb2.sh2 b:=by
 cases x with
 | a cs=>simp only [TV.sh2,TV.emb2,AV.sh2,List.map_map];congr 2;funext y;exact Qg9 b y
 | _=>rfl
theorem Qh6 (b:Nat):∀ (x:TV),(x.sh b).emb=x.emb.sh b
 | .tp vs=>by simp only [TV.sh,TV.emb,AV.sh,List.map_map];congr 2;funext y;exact QAq b y
 | .a cs=>by simp only [TV.sh,TV.sh2,TV.emb,TV.emb2,AV.sh,AV.sh2,List.map_map];congr 2;funext y;exact Qg9 b y
 | .g true v=>Qh6 b v
 | .g false v=>rfl
 | .u=>rfl
 | .c _ _=>rfl
 | .n _=>rfl
 | .r ..=>rfl
 | .p ..=>rfl
 | .q ..=>rfl
 | .bx _=>rfl
 | .ow ..=>rfl
 | .bs ..=>rfl
 | .bq ..=>rfl
theorem QBe (b:Nat) (x:TBlk):(x.sh b).emb=x.emb.sh b:=by
 cases x with
 | box cs=>simp only [TBlk.sh,TBlk.emb,Blk.sh,List.map_map];congr 2;funext y;exact Qg9 b y
 | _=>rfl
def TRes.emb (r:TRes):Res:=⟨r.v.emb,r.hb.map TBlk.emb,r.bx.map (·.map TV.emb1),r.al,r.gv.map TBlk.emb⟩
theorem QnE (b:Nat):∀ (l:List TBlk) (k:Nat),(Qdn k (l.map (TBlk.sh b))).map embP=ZK k ((l.map TBlk.emb).map (Blk.sh b))
 | [],_=>rfl
 | x::xs,k=>by simp only [List.map_cons,Qdn,ZK,embP,QBe,QnE b xs (k+1)]
theorem QsK:∀ (ids:List Nat) (css:List (List TV)),(QfA ids css).map embP=ZR ids (css.map (·.map TV.emb1))
 | [],[]=>rfl
 | [],_::_=>rfl
 | _::_,[]=>rfl
 | id::ids,cs::css=>by simp only [QfA,ZR,List.map_cons,embP,TBlk.emb,QsK ids css]
theorem QCq (B0 B:TBlk):(QtO B0 B).emb=Yv B0.emb B.emb:=by
 cases B0 with
 | sl e ts m es =>
  cases m with
  | dp g t H =>
   cases B with
   | sl e1 ts1 m1 es1 =>
    cases m1 with
    | dp g1 t1 H1 =>
     cases H1 with
     | nil=>rfl
     | cons=>rfl
    | _=>rfl
   | _=>rfl
  | _=>rfl
 | _=>rfl
theorem Quj (h:Nat→TBlk):∀ (ids:List Nat) (css:List TBlk),(QdA h ids css).map embP=Zw (fun i=>(h i).emb) ids (css.map TBlk.emb)
 | [],[]=>rfl
 | [],_::_=>rfl
 | _::_,[]=>rfl
 | id::ids,cs::css=>by simp only [QdA,Zw,List.map_cons,embP,Quj h ids css,QCq]
theorem Y7 {p q:Option Prop} (h:holds (mixP p q)):holds p∧holds q:=by
 cases p <;> cases q <;> simp_all [mixP,holds]
theorem QBv {h:Nat→TBlk} {x y:TV} {p:Option Prop} (e:Qkl h x=some (p,y)) (hp:holds p):x.emb.argO (fun i=>(h i).emb)=some y.emb:=by
 unfold Qkl at e
 split at e
 ·rename_i ts id len
  split at e
  ·rename_i e0 ts' es hh
   have q:CT.beqL ts' ts=true:=by
    cases hq:CT.beqL ts' ts with
    | true=>rfl
    | false=>rw [hq] at e;cases e
   rw [q] at e
   cases e
   obtain rfl:=CT.beqL_eq _ _ q
   have hp:len=es.length:=hp
   subst hp
   show (AV.r ts'.length id 0 es.length).argO (fun i=>(h i).emb)=some (AV.ow e0 ts'.length .ow (es.map (encs ts')))
   have hh':(fun i=>(h i).emb) id = .sl e0 ts'.length .ow (es.map (encs ts')):=by show (h id).emb=_;rw [hh];rfl
   have key:∀ (H:Nat→Blk) (e:TypeId) (es:List (List D)) (n:Nat),H id = .sl e n .ow es→(AV.r n id 0 es.length).argO H=some (.ow e n .ow es):=by
    intro H e es n hH
    simp [AV.argO,hH]
   have:=key (fun i=>(h i).emb) e0 (es.map (encs ts')) ts'.length hh'
   rw [List.length_map] at this
   exact this
  ·cases e
 ·cases e
theorem Qci {t:CT} {x:t.den} (h:t.flat=true):∃ v,enc t x = .v v:=by
 cases t with
 | sl ts=>simp [CT.flat] at h
 | _=>exact ⟨_,rfl⟩
theorem QmC {h:Nat→TBlk} {x y:TV} {p:Option Prop} (e:Qdw h x=some (p,y)) (hp:holds p):x.emb1.argP1 (fun i=>(h i).emb)=some y.emb1∧x.emb=x.emb1∧y.emb=y.emb1:=by
 unfold Qdw at e
 split at e
 ·rename_i t v
  obtain ⟨hf,e⟩:=Qz e
  cases e
  obtain ⟨v',hv'⟩:=Qci (x:=v) hf
  refine ⟨?_,rfl,rfl⟩
  simp only [TV.emb1,hv',AV.argP1]
 ·rename_i ts id len
  split at e
  ·rename_i e0 ts' g t es hh
   have q:CT.beqL ts' ts=true:=by
    cases hq:CT.beqL ts' ts with
    | true=>rfl
    | false=>rw [hq] at e;cases e
   rw [q] at e
   cases e
   obtain rfl:=CT.beqL_eq _ _ q
   have hp:len=es.length:=hp
   subst hp
   refine ⟨?_,rfl,rfl⟩
   show (AV.r ts'.length id 0 es.length).argP1 (fun i=>(h i).emb)=some (AV.ow 0 ts'.length dw (es.map (encs ts')))
   have hh':(fun i=>(h i).emb) id = .sl e0 ts'.length (.dp g t []) (es.map (encs ts')):=by show (h id).emb=_;rw [hh];rfl
   have key:∀ (H:Nat→Blk) (e:TypeId) (es:List (List D)) (n:Nat),H id = .sl e n (.dp g t []) es→(AV.r n id 0 es.length).argP1 H=some (.ow 0 n dw es):=by
    intro H e es n hH
    simp [AV.argP1,hH]
   have:=key (fun i=>(h i).emb) e0 (es.map (encs ts')) ts'.length hh'
   rw [List.length_map] at this
   exact this
  ·cases e
 ·cases e
theorem Qnd {h:Nat→TBlk}:∀ {xs ys:List TV} {p:Option Prop},Qcr h xs=some (p,ys)→holds p→AV.argPL (fun i=>(h i).emb) (xs.map TV.emb1)=some (ys.map TV.emb1)
 | [],ys,p,e,hp=>by simp only [Qcr,Option.some.injEq,Prod.mk.injEq] at e;obtain ⟨rfl,rfl⟩:=e;rfl
 | x::xs,ys,p,e,hp=>by
  simp only [Qcr] at e
  split at e
  ·rename_i p1 d q ds h1 h2
   simp only [Option.some.injEq,Prod.mk.injEq] at e
   obtain ⟨rfl,rfl⟩:=e
   obtain ⟨hp1,hp2⟩:=Y7 hp
   simp only [List.map_cons,AV.argPL,(QmC h1 hp1).1,Qnd h2 hp2]
  ·cases e
theorem QJj {h:Nat→TBlk} {x y:TV} {p:Option Prop} (e:Qdi h x=some (p,y)) (hp:holds p):x.emb.argP (fun i=>(h i).emb)=some y.emb:=by
 unfold Qdi at e
 split at e
 ·rename_i cs
  split at e
  ·rename_i p' ds h1
   cases e
   simp only [TV.emb,TV.emb2,AV.argP,Qnd h1 hp]
  ·cases e
 ·obtain ⟨h1,h2,h3⟩:=QmC e hp
  rw [h3]
  exact h1
 ·cases e
theorem Qvg {h:Nat→TBlk} {m:AM} {x y:TV} {p:Option Prop} (e:Qd8 h m x=some (p,y)) (hp:holds p):x.emb.argX (fun i=>(h i).emb) m=some y.emb:=by
 cases m with
 | d =>
  simp only [Qd8] at e
  split at e
  ·rename_i d h1;cases e;exact Qod h1
  ·cases e
 | o=>exact QBv e hp
 | p=>exact QJj e hp
theorem QtG {h:Nat→TBlk}:∀ {ms:List AM} {xs ys:List TV} {p:Option Prop},JG h ms xs=some (p,ys)→holds p→AV.argM (fun i=>(h i).emb) ms (xs.map TV.emb)=some (ys.map TV.emb)
 | [],xs,ys,p,e,hp=>by
  simp only [JG] at e
  split at e
  ·rename_i ds hds
   simp only [Option.some.injEq,Prod.mk.injEq] at e
   obtain ⟨rfl,rfl⟩:=e
   exact QnL hds
  ·cases e
 | m::ms,[],ys,p,e,hp=>by
  simp only [JG,Option.some.injEq,Prod.mk.injEq] at e
  obtain ⟨rfl,rfl⟩:=e
  rfl
 | m::ms,x::xs,ys,p,e,hp=>by
  simp only [JG] at e
  split at e
  ·rename_i p1 d q ds h1 h2
   simp only [Option.some.injEq,Prod.mk.injEq] at e
   obtain ⟨rfl,rfl⟩:=e
   obtain ⟨hp1,hp2⟩:=Y7 hp
   simp only [List.map_cons,AV.argM,Qvg h1 hp1,QtG h2 hp2]
  ·cases e
theorem QlB:∀ (ms:List AM) (xs:List TV),owns ms (xs.map TV.emb)=(Qaz ms xs).map TV.emb
 | [],_=>rfl
 | _::_,[]=>rfl
 | m::ms,x::xs=>by cases m <;> simp only [List.map_cons,owns,Qaz,AM.h,Bool.false_eq_true,if_true,if_false,cond_true,cond_false,QlB ms xs]
theorem Qr3:∀ (ms:List AM) (xs:List TV),dats ms (xs.map TV.emb)=(J2 ms xs).map TV.emb
 | [],_=>rfl
 | _::_,[]=>rfl
 | m::ms,x::xs=>by cases m <;> simp only [List.map_cons,dats,J2,AM.h,Bool.false_eq_true,if_true,if_false,cond_true,cond_false,Qr3 ms xs]
theorem QE6 (xs:List TV):(xs.map TV.emb).flatMap AV.refs=xs.flatMap TV.refs:=by
 rw [List.flatMap_map];congr 1;funext x;exact QeD
theorem Qvb (xs:List TV):(xs.map TV.emb).flatMap AV.lent=xs.flatMap TV.lent:=by
 rw [List.flatMap_map];congr 1;funext x;exact QkR
theorem QoQ:∀ {xs ys:List Nat},Qf0 xs ys=true→∀ id,id∈xs→id∉ys
 | [],_,_,id,hm=>by simp at hm
 | x::xs,ys,h,id,hm=>by
  simp only [Qf0,Bool.and_eq_true] at h
  rcases List.mem_cons.1 hm with rfl | hm
  ·intro hy
   have:=List.all_eq_true.1 h.1 id hy
   rw [Nat.beq_refl] at this
   simp at this
  ·exact QoQ h.2 id hm
theorem QcW:∀ {l:List Nat},Qac l=true→l.Nodup
 | [],_=>List.nodup_nil
 | x::xs,h=>by
  simp only [Qac,Bool.and_eq_true,Bool.not_eq_true'] at h
  exact List.nodup_cons.2 ⟨by simpa using h.1,QcW h.2⟩
theorem Qsi {T:Nat→TV}:∀ {ps:List (Nat × Nat × TOpd)} {zs cs:List TV},Qb7 T zs ps=some cs→YB (Opd.ev fun s=>(T s).emb) (zs.map TV.emb1) (ps.map erP)=some (cs.map TV.emb1)
 | [],zs,cs,e=>by simp only [Qb7,Option.some.injEq] at e;subst e;rfl
 | (off,n,x)::r,zs,cs,e=>by
  simp only [Qb7] at e
  obtain ⟨q,e⟩:=Qz e
  simp only [Bool.and_eq_true] at q
  obtain ⟨⟨q1,q2⟩,q3⟩:=q
  have q1:=Nat.eq_of_beq_eq_true q1
  have q2:=Nat.le_of_ble_eq_true q2
  have:=Qsi e
  simp only [List.map_cons,erP,YB,QQ,Qcl q3,List.length_map,Qjo q3,q1,q2,and_self,if_true]
  rw [QcD] at this
  exact this
theorem Qca {h:Nat→TBlk} {ts:List CT} {a:Tup ts} (x:TV) (hx:x.st=false):¬ Tup.of h ts x.cells=some a:=by
 intro e
 have hc:x.cells=[x]:=by cases x <;> first | rfl | simp [TV.st,TV.one] at hx
 rw [hc] at e
 cases ts with
 | nil=>cases (show (none:Option (Tup []))=some a from e)
 | cons t ts =>
  have:x.dat h t=none:=by cases x <;> first | rfl | simp [TV.st,TV.one] at hx
  have e:(match x.dat h t,Tup.of h ts [] with | some a,some b=>some (mkT ts a b) | _,_=>none)=some a:=e
  rw [this] at e
  cases e
theorem QqQ {h:Nat→TBlk} {T:Nat→TV} {ts:List CT}:∀ {ps:List TOpd} {es:List (Tup ts)},QcR h T ts ps=some es →
  elems (fun i=>(h i).emb) (Opd.ev fun s=>(T s).emb) ts.length (ps.map TOpd.er)=some (es.map (encs ts))
 | [],es,e=>by simp only [QcR,Option.some.injEq] at e;subst e;rfl
 | x::r,es,e=>by
  simp only [QcR] at e
  split at e
  rotate_left
  ·cases e
  rename_i a b ha hb
  simp only [Option.some.injEq] at e
  subst e
  obtain ⟨h1,h2⟩:=QbD ts _ _ ha
  have hst:(x.ev T).st=true:=by
   cases hx:x.ev T with
   | u=>rw [hx] at ha;exact absurd ha (Qca _ rfl)
   | tp vs=>rw [hx] at ha;exact absurd ha (Qca _ rfl)
   | bx vs=>rw [hx] at ha;exact absurd ha (Qca _ rfl)
   | ow e us m vs=>rw [hx] at ha;exact absurd ha (Qca _ rfl)
   | g c vs=>rw [hx] at ha;exact absurd ha (Qca _ rfl)
   | _=>rfl
  simp only [List.map_cons,elems,QQ,Qcl hst,h1,QqQ hb,Qaf,if_true]
theorem Qx1 {T:Nat→TV} (ps:List TOpd):((ps.map TOpd.er).flatMap fun x=>(Opd.ev (fun s=>(T s).emb) x).refs)=ps.flatMap fun x=>(x.ev T).refs:=by
 induction ps with
 | nil=>rfl
 | cons x ps ih=>simp only [List.map_cons,List.flatMap_cons,ih,QQ,QeD]
theorem QCC {T:Nat→TV} (ps:List TOpd):(ps.map TOpd.er).map (Opd.ev fun s=>(T s).emb)=(ps.map fun x=>x.ev T).map TV.emb:=by
 simp only [List.map_map]
 congr 1
 funext x
 exact QQ T x
theorem Qyi {op:BinOp} {x y:TV} {e:TE} (he:tbin op x y=some e) (hp:holds e.pre):∃ a b v,x.emb = .c (.v a)∧y.emb = .c (.v b)∧biv op a b=some v∧e.val.emb = .c (.v v)∧e.blks=[]:=by
 unfold tbin at he
 split at he
 ·rename_i k x k' y
  refine ⟨.int k x,.int k' y,?_⟩
  cases op <;> simp only at he <;> first
   | (cases he;simp only [holds] at hp;exact ⟨_,rfl,rfl,by simp only [biv];rw [if_neg (by omega)],rfl,rfl⟩)
   | (split at he <;> first
    | (cases he;done)
    | (rename_i hk;subst hk;first
     | (cases he;simp only [holds] at hp;exact ⟨_,rfl,rfl,by simp only [biv,if_true];rw [if_neg hp],rfl,rfl⟩)
     | (cases he;exact ⟨_,rfl,rfl,by simp only [biv,if_true],rfl,rfl⟩)
     | cases he))
 ·rename_i x y
  refine ⟨.string x,.string y,?_⟩
  cases op <;> simp only at he <;> first
   | (cases he;exact ⟨_,rfl,rfl,by simp only [biv],rfl,rfl⟩)
   | cases he
 ·cases he
theorem QcC:∀ (ids:List Nat),(tkil ids).map embP=kil ids
 | []=>rfl
 | id::ids=>by simp only [tkil,kil,List.map_cons,embP,QcC ids];rfl
theorem QFB {h:Nat→TBlk} {id g i j:Nat} {x:TV} {p:Option Prop} (e:x.mov h id g i j=some p) (hp:holds p):x.emb1.mov (fun i=>(h i).emb) id g i j=true:=by
 unfold TV.mov at e
 split at e
 ·rename_i t v
  obtain ⟨hf,_⟩:=Qz e
  obtain ⟨v',hv'⟩:=Qci (x:=v) hf
  simp only [TV.emb1,hv',AV.mov]
 ·rfl
 ·rename_i ts id' off len
  obtain ⟨hf,_⟩:=Qz e
  simp only [TV.emb1,AV.mov,QyZ]
  exact hf
 ·rename_i ts l id' g' pt
  split at e
  ·rename_i i' j'
   obtain ⟨hf,e⟩:=Qz e
   cases e
   simp only [Bool.and_eq_true] at hf
   have hj:=Nat.eq_of_beq_eq_true hf.2
   have hi:i'=i:=hp
   subst hj;subst hi
   simp only [TV.emb1,AV.mov,hf.1.1,hf.1.2,Bool.and_self,Bool.true_and,decide_eq_true_eq]
  ·cases e
 ·cases e
theorem Qiz {h:Nat→TBlk} {id g i:Nat}:∀ {xs:List TV} {j:Nat} {p:Option Prop},TV.movL h id g i j xs=some p→holds p→AV.movL (fun i=>(h i).emb) id g i j (xs.map TV.emb1)=true
 | [],j,p,e,hp=>rfl
 | x::xs,j,p,e,hp=>by
  simp only [TV.movL] at e
  split at e
  ·rename_i P Q h1 h2
   cases e
   obtain ⟨hp1,hp2⟩:=Y7 hp
   simp only [List.map_cons,AV.movL,QFB h1 hp1,Qiz h2 hp2,Bool.and_self]
  ·cases e
theorem Qxa {h:Nat→TBlk} {id g i j:Nat} {x:TV} {p:Option Prop} (e:TV.movL h id g i j x.cells=some p):x.st=true:=by
 cases x with
 | u=>simp [TV.cells,TV.movL,TV.mov] at e
 | tp vs=>simp [TV.cells,TV.movL,TV.mov] at e
 | bx vs=>simp [TV.cells,TV.movL,TV.mov] at e
 | ow a b c d=>simp [TV.cells,TV.movL,TV.mov] at e
 | g b v=>simp [TV.cells,TV.movL,TV.mov] at e
 | _=>rfl
theorem Qls {h:Nat→TBlk} {b:Nat} {T:Nat→TV}:∀ {ps:List TOpd} {i:Nat} {p:Option Prop},Qfo h b T i ps=some p→holds p→movE (fun i=>(h i).emb) b (Opd.ev fun s=>(T s).emb) i (ps.map TOpd.er)=true
 | [],i,p,e,hp=>rfl
 | x::r,i,p,e,hp=>by
  simp only [Qfo] at e
  split at e
  ·rename_i P Q h1 h2
   cases e
   obtain ⟨hp1,hp2⟩:=Y7 hp
   have hst:=Qxa h1
   simp only [List.map_cons,movE,QQ,Qcl hst,Qiz h1 hp1,Qls h2 hp2,Bool.and_self]
  ·cases e
theorem QIM {T:Nat→TV} (ps:List TOpd):((ps.map TOpd.er).flatMap fun x=>(Opd.ev (fun s=>(T s).emb) x).mrefs)=ps.flatMap fun x=>(x.ev T).mrefs:=by
 induction ps with
 | nil=>rfl
 | cons x ps ih=>simp only [List.map_cons,List.flatMap_cons,ih,QQ,Qh7]
theorem Qt1:∀ (ts:List CT) (x:Tup ts),ts.all CT.flat=true→(encs ts x).all D.pl=true
 | [],x,_=>by rw [encs];rfl
 | t::ts,x,h=>by
  rw [List.all_cons,Bool.and_eq_true] at h
  rw [encs,List.all_cons,Qt1 ts _ h.2,Bool.and_true]
  obtain ⟨v,hv⟩:=Qci (x:=hd ts x) h.1
  rw [hv];rfl
theorem Y9 {ts:List CT} {xs:List (Tup ts)} (h:ts.all CT.flat=true):Jc (xs.map (encs ts))=true:=by
 unfold Jc
 rw [List.all_map,List.all_eq_true]
 intro x _
 exact Qt1 ts x h
theorem QcO {b:TBlk}:b.isDp=true↔∃ e sz g t H es,b.emb = .sl e sz (.dp g t H) es:=by
 cases b with
 | sl e ts m es =>
  cases m with
  | dp g t H=>exact ⟨fun _=>⟨_,_,_,_,_,_,rfl⟩,fun _=>rfl⟩
  | _=>exact ⟨fun h=>(by cases h),fun ⟨_,_,_,_,_,_,h⟩=>(by cases h)⟩
 | _=>exact ⟨fun h=>(by cases h),fun ⟨_,_,_,_,_,_,h⟩=>(by cases h)⟩
theorem Qs8 {h:Nat→TBlk} {ts:List CT} {xs:List (Tup ts)} {x:TV} (hx:x.one=true) (e:x.okA h ts=true):x.emb.okA (fun i=>(h i).emb) (xs.map (encs ts))=true:=by
 rw [Qa3 hx]
 cases x with
 | r us id off len =>
  simp only [TV.okA,Bool.or_eq_true,Bool.not_eq_true'] at e
  simp only [TV.emb1,AV.okA]
  split
  ·rename_i hh
   rcases e with e | e
   ·rw [QcO.2 ⟨_,_,_,_,_,_,hh⟩] at e;cases e
   ·exact Y9 e
  ·rfl
 | bs us l id g p=>exact Y9 e
 | _=>first | rfl | simp [TV.one] at hx
theorem Qlt {h:Nat→TBlk} {id len:Nat} {ts:List CT} {xs:List (Tup ts)} {x:TV} {p:Option Prop} (hx:x.one=true) (e:x.movA h id len ts=some p) (hp:holds p):x.emb.movA (fun i=>(h i).emb) id len (xs.map (encs ts))=true:=by
 rw [Qa3 hx]
 cases x with
 | r us idx off l =>
  simp only [TV.movA] at e
  cases hd:(h idx).isDp with
  | true =>
   rw [hd] at e
   obtain ⟨_,_,_,_,_,_,hh⟩:=QcO.1 hd
   simp only [TV.emb1,AV.movA,hh]
   cases hb:Nat.beq idx id with
   | false=>simp
   | true =>
    simp only [cond_true,hb] at e
    cases e
    have hp:len≤off:=hp
    simp [Nat.ble_eq_true_of_le hp]
  | false =>
   rw [hd] at e
   simp only [cond_false] at e
   obtain ⟨hf,_⟩:=Qz e
   simp only [TV.emb1,AV.movA]
   split
   ·rename_i hh
    rw [QcO.2 ⟨_,_,_,_,_,_,hh⟩] at hd;cases hd
   ·exact Y9 hf
 | bs us l id' g p =>
  simp only [TV.movA] at e
  exact Y9 (Qz e).1
 | c t v =>
  simp only [TV.movA] at e
  exact Y9 (Qz e).1
 | n us =>
  simp only [TV.movA] at e
  exact Y9 (Qz e).1
 | p a b c =>
  simp only [TV.movA] at e
  exact Y9 (Qz e).1
 | q a b c =>
  simp only [TV.movA] at e
  exact Y9 (Qz e).1
 | bq a b c d f g i =>
  simp only [TV.movA] at e
  exact Y9 (Qz e).1
 | _=>simp [TV.one] at hx
theorem Qx5 {h:Nat→TBlk} {x:TV} (hx:x.one=true):x.emb.killA (fun i=>(h i).emb)=x.killA h:=by
 rw [Qa3 hx]
 cases x with
 | r us idx off l =>
  simp only [TV.emb1,AV.killA,TV.killA]
  cases hd:(h idx).isDp with
  | true =>
   obtain ⟨_,_,_,_,_,_,hh⟩:=QcO.1 hd
   rw [hh]
   rfl
  | false =>
   split
   ·rename_i hh
    rw [QcO.2 ⟨_,_,_,_,_,_,hh⟩] at hd;cases hd
   ·rfl
 | _=>first | rfl | simp [TV.one] at hx
theorem QpJ {id g i:Nat}:∀ (ts:List CT) (x:Tup ts) (j:Nat),(Tup.cellsB id g i j ts x).map TV.emb1=cellsB id g i j (encs ts x)
 | [],x,j=>by rw [encs,Tup.cellsB];rfl
 | t::ts,x,j=>by
  cases t <;> (rw [encs];simp only [Tup.cellsB,enc,cellsB,List.map_cons,QpJ ts,TV.emb1])
theorem Qty {id g i:Nat} {p:Pth}:∀ (ts:List CT) (x:Tup ts) (j:Nat),(Tup.cellsQ id g p i j ts x).map TV.emb1=cellsQ id g p i j (encs ts x)
 | [],x,j=>by rw [encs,Tup.cellsQ];rfl
 | t::ts,x,j=>by
  cases t <;> (rw [encs];simp only [Tup.cellsQ,enc,cellsQ,List.map_cons,Qty ts,TV.emb1])
theorem QEc {m:Mo} {id i:Nat} (ts:List CT) (x:Tup ts):(Tup.cellsM m id i ts x).map TV.emb1=cellsM m id i 0 (encs ts x):=by
 cases m with
 | dp g t H=>exact QpJ ts x 0
 | _=>exact JO ts x
theorem Qr9 {id g i:Nat}:∀ (n j:Nat) (l:List D),(cellsB id g i j l).drop n=cellsB id g i (j+n) (l.drop n)
 | 0,j,l=>rfl
 | n+1,j,[]=>by simp [cellsB]
 | n+1,j,d::l=>by simp only [cellsB,List.drop_succ_cons];rw [Qr9 n (j+1) l];congr 1;omega
theorem Qq8 {id g i:Nat}:∀ (n j:Nat) (l:List D),(cellsB id g i j l).take n=cellsB id g i j (l.take n)
 | 0,j,l=>by simp [cellsB]
 | n+1,j,[]=>by simp [cellsB]
 | n+1,j,d::l=>by simp only [cellsB,List.take_succ_cons];rw [Qq8 n (j+1) l]
theorem QtX {id g i:Nat} {p:Pth}:∀ (n j:Nat) (l:List D),(cellsQ id g p i j l).drop n=cellsQ id g p i (j+n) (l.drop n)
 | 0,j,l=>rfl
 | n+1,j,[]=>by simp [cellsQ]
 | n+1,j,d::l=>by simp only [cellsQ,List.drop_succ_cons];rw [QtX n (j+1) l];congr 1;omega
theorem Qs7 {id g i:Nat} {p:Pth}:∀ (n j:Nat) (l:List D),(cellsQ id g p i j l).take n=cellsQ id g p i j (l.take n)
 | 0,j,l=>by simp [cellsQ]
 | n+1,j,[]=>by simp [cellsQ]
 | n+1,j,d::l=>by simp only [cellsQ,List.take_succ_cons];rw [Qs7 n (j+1) l]
theorem Qwr {m:Mo} {id i j n:Nat} {l:List D} {c:List AV} (h:cut (cellsM m id i 0 l) j n=some c):∃ l',cut l j n=some l'∧c=cellsM m id i j l':=by
 unfold cut at h
 split at h
 rotate_left
 ·cases h
 rename_i hle
 cases h
 rw [Qs0] at hle
 refine ⟨_,if_pos hle,?_⟩
 cases m with
 | dp g t H=>simp only [cellsM];rw [Qr9,Qq8,Nat.zero_add]
 | _=>simp only [cellsM,List.map_take,List.map_drop]
theorem QJc {id g i j n:Nat} {p:Pth} {l:List D} {c:List AV} (h:cut (cellsQ id g p i 0 l) j n=some c):∃ l',cut l j n=some l'∧c=cellsQ id g p i j l':=by
 unfold cut at h
 split at h
 rotate_left
 ·cases h
 rename_i hle
 cases h
 rw [Qkh] at hle
 exact ⟨_,if_pos hle,by rw [QtX,Qs7,Nat.zero_add]⟩
end Go.Proofs.YtdplaepmjogjjaaGreat.Am
namespace Go.Proofs.YtdplaepmjogjjaaGreat.Am
open Go Go.RowKit
structure TabSim (Γ:TTab) (ΓA:Tab):Prop where
 md:∀ f row,Yk Γ.rows f=some row→ΓA.md f=mdOf row.sg
 fn:∀ f row vs pre r,Yk Γ.rows f=some row→Zi row.sg vs=true→row.fn vs=some (pre,r)→holds pre→ΓA f (vs.map TV.emb)=some r.emb
 dp:ΓA.dp=Γ.dp
theorem Qbx {ts:List CT} {l:List (Tup ts)} {i:Nat} (h:i<l.length):l[i]? = some (gt ts l i):=by
 unfold gt
 rw [List.getElem?_eq_getElem h,List.getD_eq_getElem?_getD,List.getElem?_eq_getElem h]
 rfl
theorem Qk4 {x:TV} (h:x.st=true):x.emb2=x.emb:=by cases x <;> first | rfl | simp [TV.st,TV.one] at h
theorem Qg8 {h:Nat→Blk}:∀ (xs ys:List AV) (ds:List D),AV.ds h (xs++ys)=some ds→∃ d1 d2,AV.ds h xs=some d1∧AV.ds h ys=some d2∧ds=d1++d2
 | [],ys,ds,e=>⟨[],ds,rfl,e,rfl⟩
 | x::xs,ys,ds,e=>by
  simp only [List.cons_append,AV.ds] at e
  split at e
  rotate_left
  ·cases e
  rename_i a b ha hb
  simp only [Option.some.injEq] at e
  subst e
  obtain ⟨d1,d2,h1,h2,h3⟩:=Qg8 xs ys b hb
  exact ⟨a::d1,d2,by simp only [AV.ds,ha,h1],h2,by rw [h3];rfl⟩
theorem QpM {h:Nat→Blk}:∀ (ds:List D),AV.ds h (ds.map AV.c)=some ds
 | []=>rfl
 | d::ds=>by simp only [List.map_cons,AV.ds,AV.d,QpM ds]
theorem QhC {h:Nat→Blk} {l:List D} {j:Nat} {xs:List AV} {r:List D} (e:AV.ds h (splice (l.map AV.c) j xs)=some r) (_hj:j+xs.length≤l.length) :
  ∃ ds,AV.ds h xs=some ds∧r=splice l j ds:=by
 unfold splice at e
 rw [← List.map_take,← List.map_drop] at e
 obtain ⟨d1,d2,h1,h2,rfl⟩:=Qg8 _ _ _ e
 obtain ⟨d3,d4,h3,h4,rfl⟩:=Qg8 _ _ _ h1
 rw [QpM] at h2 h3
 cases h2
 cases h3
 refine ⟨d4,h4,?_⟩
 unfold splice
 rw [(AV.ds_get h4).1]
section
variable {Γ:TTab} {ΓA:Tab} (hΓ:TabSim Γ ΓA) {T:Nat→TV} {h:Nat→TBlk} {b:Nat}
def TE.emb (e:TE):Eff:=⟨e.val.emb,e.blks.map embP⟩
theorem QF3 {m:Mo} {id i j n:Nat} {ts:List CT} {x:Tup ts} {l:List TV} (h:tcut (Tup.cellsM m id i ts x) j n=some l):∃ l',cut (encs ts x) j n=some l'∧l.map TV.emb1=cellsM m id i j l':=by
 have h2:=Qc4 h
 rw [QEc] at h2
 exact Qwr h2
theorem QzU {id g i j n:Nat} {p:Pth} {ts:List CT} {x:Tup ts} {l:List TV} (h:tcut (Tup.cellsQ id g p i 0 ts x) j n=some l):∃ l',cut (encs ts x) j n=some l'∧l.map TV.emb1=cellsQ id g p i j l':=by
 have h2:=Qc4 h
 rw [Qty] at h2
 exact QJc h2
theorem Qlm {x:TOpd} {n:Nat} {agg:Bool} {e:TE} (he:QJ Γ T h b (.load x n agg)=some e) (hp:holds e.pre):Qh ΓA (Opd.ev fun s=>(T s).emb) (fun i=>(h i).emb) b (TOp.er (.load x n agg))=some e.emb:=by
 simp only [QJ] at he
 simp only [TOp.er,Qh,QQ]
 split at he
 ·rename_i id i j hx
  rw [hx]
  show (match (h id).emb with
   | .box cs=>_
   | .sl _ _ m es=>_
   | _=>_)=_
  split at he
  ·rename_i cs hh
   rw [hh]
   split at he
   ·split at he
    ·rename_i l hl
     split at he
     ·rename_i v hv
      cases he
      have:=Qce hv
      simp only [TBlk.emb_sl,TBlk.emb_box,if_true,Qc4 hl,this]
      rfl
     ·cases he
    ·cases he
   ·cases he
  ·rename_i e' ts m es hh
   rw [hh]
   obtain ⟨hf,he⟩:=Qz he
   split at he
   ·rename_i l hl
    split at he
    ·rename_i v hv
     cases he
     simp only [holds] at hp
     have h1:=Qbx hp
     have:=Qce hv
     obtain ⟨l',k1,k2⟩:=QF3 hl
     rw [k2] at this
     simp only [TBlk.emb_sl,TBlk.emb_box,List.getElem?_map,h1,Option.map_some,k1,this,hf,if_true]
     rfl
    ·cases he
   ·cases he
  ·cases he
 ·rename_i ts x' j id g p i hx
  rw [hx]
  obtain ⟨hver,he⟩:=Qz he
  split at he
  ·rename_i l hl
   split at he
   ·rename_i v hv
    cases he
    have:=Qce hv
    obtain ⟨l',k1,k2⟩:=QzU hl
    rw [k2] at this
    simp only [TV.emb,TV.emb2,TV.emb1,QaK hver,if_true,k1,this]
    rfl
   ·cases he
  ·cases he
 ·rename_i ts x' j hx
  rw [hx]
  split at he
  ·rename_i l hl
   split at he
   ·rename_i v hv
    cases he
    have:=Qce hv
    have h2:=Qc4 hl
    rw [JO] at h2
    unfold cut at h2
    split at h2
    rotate_left
    ·cases h2
    rename_i hle
    simp only [Option.some.injEq] at h2
    simp only [List.length_map] at hle
    simp only [TV.emb,TV.emb2,TV.emb1,cut,hle,if_true]
    rw [← h2] at this
    simp only [List.map_drop,List.map_take]
    rw [this]
    rfl
   ·cases he
  ·cases he
 ·cases he
theorem QHu {x v:TOpd} {n:Nat} {e:TE} (he:QJ Γ T h b (.store x v n)=some e) (hp:holds e.pre) :
  Qh ΓA (Opd.ev fun s=>(T s).emb) (fun i=>(h i).emb) b (TOp.er (.store x v n))=some e.emb:=by
 simp only [QJ] at he
 obtain ⟨q,he⟩:=Qz he
 simp only [Bool.and_eq_true] at q
 obtain ⟨q1,q2⟩:=q
 have q1:=Nat.eq_of_beq_eq_true q1
 simp only [TOp.er,Qh,QQ,Qcl q2,List.length_map,q1,Qjo q2,and_self,if_true]
 split at he
 rotate_left
 ·cases he
 rename_i id i j hx
 rw [hx]
 show (match (h id).emb with
  | .box cs=>_
  | .sl e sz .ow es=>_
  | .sl e sz (.dp g t []) es=>_
  | _=>_)=_
 split at he
 ·rename_i cs hh
  rw [hh]
  split at he
  ·obtain ⟨q3,he⟩:=Qz he
   cases he
   have q3:=Nat.le_of_ble_eq_true q3
   simp only [TBlk.emb_sl,TBlk.emb_box,List.length_map,q3,and_self,if_true,← QcD]
   rfl
  ·cases he
 ·rename_i e' ts es hh
  rw [hh]
  split at he
  rotate_left
  ·cases he
  rename_i y hy
  obtain ⟨q3,he⟩:=Qz he
  cases he
  simp only [Bool.and_eq_true,Bool.not_eq_true'] at q3
  obtain ⟨q3,q4⟩:=q3
  have q3:=Nat.le_of_ble_eq_true q3
  have q4:id∉(v.ev T).refs:=by simpa using q4
  simp only [holds] at hp
  have h1:=Qbx hp
  obtain ⟨h2,h3⟩:=QbD ts _ y hy
  rw [QcD,JO] at h2
  obtain ⟨ds,h5,h6⟩:=QhC h2 (by simp [Qaf,q1,q3])
  simp only [TBlk.emb_sl,TBlk.emb_box,List.getElem?_map,h1,Option.map_some,h5,Qaf,q3,QeD,q4,not_false_eq_true,and_self,if_true]
  simp only [TE.emb,List.map_cons,embP,QeA,TBlk.emb_sl,TBlk.emb_box,h6,List.map_set]
  rfl
 ·rename_i e' ts g t es hh
  rw [hh]
  split at he
  rotate_left
  ·cases he
  rename_i y hy
  split at he
  rotate_left
  ·cases he
  rename_i q hq
  obtain ⟨q3,he⟩:=Qz he
  cases he
  simp only [Bool.and_eq_true] at q3
  obtain ⟨q3,q4⟩:=q3
  have q3:=Nat.le_of_ble_eq_true q3
  have q4:=QcW q4
  obtain ⟨hp1,hp2⟩:=Y7 hp
  simp only [holds] at hp1
  have h1:=Qbx hp1
  obtain ⟨h2,h3⟩:=QbD ts _ y hy
  rw [QcD,JO] at h2
  obtain ⟨ds,h5,h6⟩:=QhC h2 (by simp [Qaf,q1,q3])
  simp only [TBlk.emb_sl,TBlk.emb_box,List.getElem?_map,h1,Option.map_some,h5,Qaf,q3,Qiz hq hp2,Qh7,q4,and_self,if_true]
  simp only [TE.emb,List.map_cons,embP,QcC,TBlk.emb_sl,TBlk.emb_box,h6,List.map_set]
  rfl
 ·cases he
theorem QIs {x i:TOpd} {ts:List CT} {e:TE} (he:QJ Γ T h b (.iad x i ts)=some e) (hp:holds e.pre) :
  Qh ΓA (Opd.ev fun s=>(T s).emb) (fun i=>(h i).emb) b (TOp.er (.iad x i ts))=some e.emb:=by
 simp only [QJ] at he
 simp only [TOp.er,Qh,QQ]
 split at he
 rotate_left
 ·cases he
 rename_i k n hi
 rw [hi]
 split at he
 ·rename_i ts' l hx
  obtain ⟨q,he2⟩:=Qz he
  clear he
  obtain rfl:=CT.beqL_eq _ _ q
  cases he2
  simp only [holds] at hp
  rw [hx]
  have h1:=Qbx (ts:=ts') (l:=l) hp.2
  show (if (0:Int)≤n then (if ts'.length=ts'.length then (match (List.map (encs ts') l)[n.toNat]? with | some e=>some (⟨AV.q e 0,[]⟩:Eff) | none=>none) else none) else none)=_
  rw [if_pos hp.1,if_pos rfl,List.getElem?_map,h1]
  rfl
 ·rename_i ts' id off len hx
  obtain ⟨q,he2⟩:=Qz he
  clear he
  simp only [Bool.and_eq_true] at q
  obtain rfl:=CT.beqL_eq _ _ q.1
  cases he2
  simp only [holds] at hp
  rw [hx]
  show (if (0:Int)≤n then (if ts'.length=ts'.length∧n.toNat<len∧((h id).emb).alive=true then some (⟨AV.p id (off+n.toNat) 0,[]⟩:Eff) else none) else none)=_
  rw [if_pos hp.1,QcB,if_pos ⟨rfl,hp.2,q.2⟩]
  rfl
 ·rename_i ts' l id g p hx
  obtain ⟨q,he2⟩:=Qz he
  clear he
  simp only [Bool.and_eq_true] at q
  obtain rfl:=CT.beqL_eq _ _ q.1
  cases he2
  simp only [holds] at hp
  rw [hx]
  have h1:=Qbx (ts:=ts') (l:=l) hp.2
  show (if (0:Int)≤n then (if ts'.length=ts'.length∧((h id).emb).genf=some g then (match (List.map (encs ts') l)[n.toNat]? with | some e=>some (⟨AV.bq e 0 id g p n.toNat,[]⟩:Eff) | none=>none) else none) else none)=_
  rw [if_pos hp.1,if_pos ⟨rfl,QaK q.2⟩,List.getElem?_map,h1]
  rfl
 ·cases he
theorem QvW {x:TOpd} {lo hi:Option TOpd} {ts:List CT} {e:TE} (he:QJ Γ T h b (.slc x lo hi ts)=some e) (hp:holds e.pre) :
  Qh ΓA (Opd.ev fun s=>(T s).emb) (fun i=>(h i).emb) b (TOp.er (.slc x lo hi ts))=some e.emb:=by
 simp only [QJ] at he
 simp only [TOp.er,Qh,QQ]
 split at he
 rotate_left
 ·cases he
 rename_i l0 hlo
 rw [QfQ hlo]
 split at he
 ·rename_i ts' l hx
  split at he
  rotate_left
  ·cases he
  rename_i h0 hhi
  obtain ⟨q,he2⟩:=Qz he
  clear he
  obtain rfl:=CT.beqL_eq _ _ q
  cases he2
  simp only [holds] at hp
  rw [hx]
  have hhi:=QfQ hhi
  show (match Zt (Opd.ev fun s=>(T s).emb) ((List.map (encs ts') l).length:Int) (erO hi) with
   | some hi=>if ts'.length=ts'.length∧0≤l0∧l0≤hi∧hi≤(List.map (encs ts') l).length then some (⟨AV.c (.sl ts'.length (((List.map (encs ts') l).drop l0.toNat).take (hi.toNat-l0.toNat))),[]⟩:Eff) else none
   | none=>none)=_
  rw [List.length_map,hhi]
  simp only
  rw [if_pos ⟨trivial,hp.1,hp.2.1,hp.2.2⟩,← List.map_drop,← List.map_take]
  rfl
 ·rename_i ts' id off len hx
  split at he
  rotate_left
  ·cases he
  rename_i h0 hhi
  obtain ⟨q,he2⟩:=Qz he
  clear he
  simp only [Bool.and_eq_true] at q
  obtain rfl:=CT.beqL_eq _ _ q.1
  cases he2
  simp only [holds] at hp
  rw [hx]
  have hhi:=QfQ hhi
  show (match Zt (Opd.ev fun s=>(T s).emb) (len:Int) (erO hi) with
   | some hi=>if ts'.length=ts'.length∧0≤l0∧l0≤hi∧hi≤len∧((h id).emb).alive=true then some (⟨AV.r ts'.length id (off+l0.toNat) (hi.toNat-l0.toNat),[]⟩:Eff) else none
   | none=>none)=_
  rw [hhi]
  simp only
  rw [QcB,if_pos ⟨trivial,hp.1,hp.2.1,hp.2.2,q.2⟩]
  rfl
 ·rename_i ts' hx
  split at he
  rotate_left
  ·cases he
  rename_i h0 hhi
  cases he
  simp only [holds] at hp
  rw [hx]
  have hhi:=QfQ hhi
  show (match Zt (Opd.ev fun s=>(T s).emb) 0 (erO hi) with
   | some hi=>if l0=0∧hi=0 then some (⟨AV.n ts.length,[]⟩:Eff) else none
   | none=>none)=_
  rw [hhi]
  simp only
  rw [if_pos hp]
  rfl
 ·cases he
include hΓ in
theorem QwV {s x:TOpd} {e0:TypeId} {ts:List CT} {e:TE} (he:QJ Γ T h b (.app s x e0 ts)=some e) (hp:holds e.pre) :
  Qh ΓA (Opd.ev fun s=>(T s).emb) (fun i=>(h i).emb) b (TOp.er (.app s x e0 ts))=some e.emb:=by
 simp only [QJ] at he
 simp only [TOp.er,Qh,QQ,hΓ.dp]
 split at he
 rotate_left
 ·cases he
 rename_i xs hx
 have h3:=QCu (t:=.sl ts) hx
 have h1:(x.ev T).emb.els (fun i=>(h i).emb) ts.length=some (xs.map (encs ts)):=by
  have h2:=QuS (t:=.sl ts) hx
  rw [Qa3 h3]
  cases hv:x.ev T with
  | c t y =>
   rw [hv] at h2
   simp only [TV.emb1,AV.d,Option.some.injEq] at h2
   simp only [TV.emb1,AV.els,h2,enc,if_true]
  | n ts' =>
   rw [hv] at h2
   simp only [TV.emb1,AV.d,Option.some.injEq,enc,D.sl.injEq] at h2
   simp only [TV.emb1,AV.els,← h2.2]
  | r ts' id off len =>
   rw [hv] at h2 hx
   simp only [TV.emb1,AV.d] at h2
   simp only [TV.emb1,AV.els]
   cases hh:h id with
   | sl e ts2 m es =>
    rw [hh] at h2
    simp only [TBlk.emb_sl] at h2
    split at h2
    rotate_left
    ·cases h2
    rename_i hf
    simp only [Option.some.injEq,enc,D.sl.injEq] at h2
    simp only [TBlk.emb_sl,h2.1,h2.2,hf,and_self,if_true]
   | none=>rw [hh] at h2;cases h2
   | dead=>rw [hh] at h2;cases h2
   | box cs=>rw [hh] at h2;cases h2
  | bs ts' l id g p =>
   rw [hv] at h2
   simp only [TV.emb1,AV.d] at h2
   split at h2
   rotate_left
   ·cases h2
   rename_i hf
   simp only [Option.some.injEq,enc,D.sl.injEq] at h2
   simp only [TV.emb1,AV.els,h2.1,h2.2,hf,and_self,if_true]
  | _=>rw [hv] at h3;simp [TV.one] at h3 <;> (rw [hv] at hx;simp [TV.dat] at hx)
 rw [h1]
 simp only
 have hkill:=Qx5 (h:=h) h3
 split at he
 ·rename_i ts' hs
  rw [hs]
  split at he
  ·rename_i hdp
   split at he
   rotate_left
   ·cases he
   rename_i q hq
   cases he
   obtain ⟨hp1,hp2⟩:=Y7 hp
   simp only [holds] at hp1
   show (if (xs.map (encs ts)).length≤big then (if Γ.dp=true then (if ((x.ev T).emb.movA (fun i=>(h i).emb) b 0 (xs.map (encs ts)))=true then some (⟨.r ts.length b 0 (xs.map (encs ts)).length,kil ((x.ev T).emb.killA (fun i=>(h i).emb))++[(b,.sl e0 ts.length (.dp 0 true []) (xs.map (encs ts)))]⟩:Eff) else none) else _) else none)=_
   rw [List.length_map,if_pos hp1,if_pos hdp,if_pos (Qlt h3 hq hp2),hkill]
   simp only [TE.emb,List.map_append,QcC]
   rfl
  ·rename_i hdp
   obtain ⟨hok,he⟩:=Qz he
   cases he
   simp only [holds] at hp
   show (if (xs.map (encs ts)).length≤big then (if Γ.dp=true then _ else if ((x.ev T).emb.okA (fun i=>(h i).emb) (xs.map (encs ts)))=true then some (⟨.r ts.length b 0 (xs.map (encs ts)).length,[(b,.sl e0 ts.length .ow (xs.map (encs ts)))]⟩:Eff) else none) else none)=_
   rw [List.length_map,if_pos hp,if_neg (by rw [hdp];simp),if_pos (Qs8 h3 hok)]
   rfl
 ·rename_i ts' id len hs
  rw [hs]
  split at he
  ·rename_i e' ts2 es hh
   split at he
   rotate_left
   ·cases he
   rename_i q
   obtain rfl:=CT.beqL_eq _ _ q
   obtain ⟨q2,he⟩:=Qz he
   simp only [Bool.and_eq_true] at q2
   obtain ⟨q2,q3⟩:=q2
   have q2:=Nat.eq_of_beq_eq_true q2
   subst q2
   cases he
   simp only [holds] at hp
   show (match (h id).emb with
    | .sl e2 sz' .ow es=>if e2=e'∧sz'=ts2.length∧(len=es.length∨len+(xs.map (encs ts2)).length≤es.length)∧len+(xs.map (encs ts2)).length≤big∧((x.ev T).emb.okA (fun i=>(h i).emb) (xs.map (encs ts2)))=true then
      some (⟨.r ts2.length b 0 (len+(xs.map (encs ts2)).length),[(id,.dead),(b,.sl e' ts2.length .ow (es.take len++xs.map (encs ts2)))]⟩:Eff) else none
    | .sl e2 sz' (.dp _ true []) es=>_
    | _=>none)=_
   rw [hh]
   simp only [TBlk.emb_sl]
   rw [if_pos ⟨trivial,trivial,by simpa using hp.1,by simpa using hp.2,Qs8 h3 q3⟩,← List.map_take,← List.map_append,List.length_map]
   rfl
  ·rename_i e' ts2 g es hh
   split at he
   rotate_left
   ·cases he
   rename_i q
   obtain rfl:=CT.beqL_eq _ _ q
   obtain ⟨q2,he⟩:=Qz he
   have q2:=Nat.eq_of_beq_eq_true q2
   subst q2
   split at he
   rotate_left
   ·cases he
   rename_i q3 hq3
   cases he
   obtain ⟨hp1,hp2⟩:=Y7 hp
   simp only [holds] at hp1
   show (match (h id).emb with
    | .sl e2 sz' .ow es=>_
    | .sl e2 sz' (.dp _ true []) es=>if e2=e'∧sz'=ts2.length∧(len=es.length∨len+(xs.map (encs ts2)).length≤es.length)∧len+(xs.map (encs ts2)).length≤big∧((x.ev T).emb.movA (fun i=>(h i).emb) id len (xs.map (encs ts2)))=true then
      some (⟨.r ts2.length b 0 (len+(xs.map (encs ts2)).length),(id,Blk.dead)::kil ((x.ev T).emb.killA (fun i=>(h i).emb))++[(b,Blk.sl e' ts2.length (.dp 0 true []) (es.take len++xs.map (encs ts2)))]⟩:Eff) else none
    | _=>none)=_
   rw [hh]
   simp only [TBlk.emb_sl]
   rw [if_pos ⟨trivial,trivial,by simpa using hp1.1,by simpa using hp1.2,Qlt h3 hq3 hp2⟩,← List.map_take,← List.map_append,List.length_map,hkill]
   simp only [TE.emb,List.map_append,List.map_cons,List.map_nil,List.cons_append,QcC,embP,TBlk.emb_dead,TBlk.emb_sl,TV.emb,TV.emb2,TV.emb1,QgW]
  ·cases he
 ·cases he
theorem QJh {x:TV} (h:isPT x=true):isPV x.emb=true∧x.emb=x.emb1:=by
 cases x with
 | c t v =>
  obtain ⟨v',hv'⟩:=Qci (x:=v) h
  refine ⟨?_,rfl⟩
  simp only [TV.emb,TV.emb2,TV.emb1,hv',isPV]
 | _=>simp [isPT] at h
theorem QAg {ms:List AM} {xs:List TV} {id g i j:Nat} {r:List TV} (h:QhL ms xs=some (id,g,i,j,r)):Qax ms (xs.map TV.emb)=some (id,g,i,j,r.map TV.emb)∧∃ ts l,xs = .bs ts l id g [(i,j)]::r:=by
 unfold QhL at h
 split at h
 rotate_left
 ·cases h
 split at h
 ·rename_i hall
  cases h
  refine ⟨?_,_,_,rfl⟩
  simp only [List.map_cons,TV.emb,TV.emb2,TV.emb1,Qax,hall,if_true]
 ·cases h
theorem QC2 {h:Nat→TBlk} {ms:List AM} {xs ys:List TV} {p:Option Prop} (hm:JG h ms xs=some (p,ys)):Qax ms (xs.map TV.emb)=none:=by
 cases ms with
 | nil=>rfl
 | cons m ms =>
  cases xs with
  | nil=>cases m <;> rfl
  | cons x xs =>
   cases m with
   | p =>
    simp only [JG,Qd8] at hm
    split at hm
    rotate_left
    ·cases hm
    rename_i p1 d q ds h1 h2
    unfold Qdi at h1
    split at h1
    ·rfl
    ·rfl
    ·cases h1
   | _=>rfl
theorem Qyz {α:Type} {l:List α} {j:Nat} {a:α} (h:j<l.length):splice l j [a]=l.set j a:=by
 have hg:=Jf (l:=l) (xs:=[a]) (j:=j) (by simp;omega)
 apply List.ext_getElem?
 intro k
 rw [hg k,List.getElem?_set]
 by_cases h1:k<j
 ·rw [if_pos h1,if_neg (by omega)]
 ·rw [if_neg h1]
  by_cases h2:j=k
  ·subst h2
   simp [h]
  ·rw [if_neg (by simp;omega),if_neg h2]
include hΓ in
theorem QzZ {f:FuncId} {X:List TV} {row:TRow} (hrow:Yk Γ.rows f=some row) {e:TE} (he:Qjy Γ h b f X row=some e) (hp:holds e.pre) :
  Qax (mdOf row.sg) (X.map TV.emb)=none∧Qdd ΓA (fun i=>(h i).emb) b f (X.map TV.emb)=some e.emb:=by
 unfold Qjy at he
 split at he
 rotate_left
 ·cases he
 rename_i p0 vs hvs
 refine ⟨QC2 hvs,?_⟩
 obtain ⟨q,he⟩:=Qz he
 split at he
 rotate_left
 ·cases he
 rename_i pre r hr
 obtain ⟨q2,he⟩:=Qz he
 cases he
 obtain ⟨hp0,hp⟩:=Y7 hp
 simp only [Bool.and_eq_true] at q2
 obtain ⟨⟨⟨⟨q3,q4⟩,q5⟩,q6⟩,q7⟩:=q2
 have q3:=Nat.le_of_ble_eq_true q3
 have h0:=hΓ.md f row hrow
 have h1:=QtG hvs hp0
 have h2:=hΓ.fn f row vs pre r hrow q hr hp
 unfold Qdd
 simp only [h0,QlB,Qr3,QE6,Qvb]
 simp only [h1,h2,TRes.emb]
 have q4':(((r.bx.map (·.map TV.emb1)).isEmpty&&(r.gv.map TBlk.emb).isEmpty)||r.al)=true:=by rw [List.isEmpty_map,List.isEmpty_map];exact q4
 rw [if_pos ⟨by rw [List.length_map];exact q3,q4',QcW q5,QcW q6,QoQ q7⟩]
 simp only [TE.emb,List.map_append,Qh6,QnE,QsK,Quj]
 congr 3
 split
 ·exact (QeA h _).symm
 ·rfl
include hΓ in
theorem QF7 {f:FuncId} {id g i j:Nat} {rest:List TV} {e:TE} (he:QjK Γ h b f id g i j rest=some e) (hp:holds e.pre) :
  Qc3 ΓA (fun i=>(h i).emb) b f id g i j (rest.map TV.emb)=some e.emb:=by
 unfold QjK at he
 split at he
 rotate_left
 ·cases he
 rename_i e0 ts g0 t es hh
 split at he
 rotate_left
 ·cases he
 rename_i us l hcell
 split at he
 rotate_left
 ·cases he
 rename_i row hrow
 obtain ⟨q,he⟩:=Qz he
 simp only [Bool.and_eq_true,Bool.not_eq_true'] at q
 obtain ⟨⟨⟨q1,q2⟩,q3⟩,q4⟩:=q
 have q2:=Nat.eq_of_beq_eq_true q2
 subst q2
 split at he
 rotate_left
 ·cases he
 rename_i pre v al e1 us1 g1 t1 es1 hr
 split at he
 rotate_left
 ·cases he
 rename_i x' hx'
 obtain ⟨q5,he2⟩:=Qz he
 clear he
 obtain rfl:=CT.beqL_eq _ _ q5
 cases he2
 obtain ⟨hp1,hp2⟩:=Y7 hp
 have hp1:i<es.length:=hp1
 have h1:=Qbx hp1
 have h2:=hΓ.fn f row _ pre _ hrow q1 hr hp2
 have hjc:(encs ts (gt ts es i))[j]? = some (.sl us1.length (l.map (encs us1))):=by
  have:=congrArg (fun z=>z[j]?) (JO ts (gt ts es i))
  simp only [List.getElem?_map,hcell,Option.map_some,TV.emb1] at this
  cases hx:(encs ts (gt ts es i))[j]? with
  | none=>rw [hx] at this;cases this
  | some d=>rw [hx] at this;simp only [Option.map_some,Option.some.injEq,AV.c.injEq] at this;rw [← this];rw [enc]
 have hjl:j<(encs ts (gt ts es i)).length:=(List.getElem?_eq_some_iff.1 hjc).1
 obtain ⟨h3,_⟩:=QbD ts _ x' hx'
 rw [QcD,JO] at h3
 obtain ⟨ds,h5,h6⟩:=QhC h3 (by simp;omega)
 simp only [List.map_cons,List.map_nil,TV.emb1,AV.ds,AV.d,Option.some.injEq] at h5
 subst h5
 rw [Qyz hjl] at h6
 have hrest:(rest.map TV.emb).all isPV=true:=by
  rw [List.all_map,List.all_eq_true]
  intro y hy
  exact (QJh (List.all_eq_true.1 q3 y hy)).1
 have hus:0<us1.length:=by
  cases us1 with
  | nil=>cases q4
  | cons=>simp
 unfold Qc3
 have hhe:(fun i=>(h i).emb) id = .sl e0 ts.length (.dp g0 t []) (es.map (encs ts)):=by show (h id).emb=_;rw [hh];rfl
 simp only [hhe,List.getElem?_map,h1,Option.map_some,hjc]
 have h2':ΓA f (AV.ow 0 us1.length dw (l.map (encs us1))::rest.map TV.emb)=some ⟨v.emb,[],[],al,[.sl e1 us1.length (.dp g1 t1 []) (es1.map (encs us1))]⟩:=h2
 simp only [h2',hus,hrest,and_self,if_true]
 simp only [TE.emb,Qh6,List.map_cons,List.map_nil,embP,TBlk.emb_sl,List.map_set,h6,enc]
 rfl
include hΓ in
theorem Qz3 {f:FuncId} {args:List TOpd} {e:TE} (he:QJ Γ T h b (.call f args)=some e) (hp:holds e.pre) :
  Qh ΓA (Opd.ev fun s=>(T s).emb) (fun i=>(h i).emb) b (TOp.er (.call f args))=some e.emb:=by
 simp only [QJ] at he
 split at he
 rotate_left
 ·cases he
 rename_i row hrow
 have h0:=hΓ.md f row hrow
 simp only [TOp.er,Qh,QCC,h0]
 split at he
 ·rename_i id g i j r hn
  obtain ⟨k1,_⟩:=QAg hn
  rw [k1]
  exact QF7 hΓ he hp
 ·obtain ⟨k1,k2⟩:=QzZ hΓ hrow he hp
  rw [k1]
  exact k2
include hΓ in
theorem QhF {op:TOp} {e:TE} (he:QJ Γ T h b op=some e) (hp:holds e.pre):Qh ΓA (Opd.ev fun s=>(T s).emb) (fun i=>(h i).emb) b op.er=some e.emb:=by
 cases op with
 | load x n agg=>exact Qlm he hp
 | store x v n=>exact QHu he hp
 | iad x i ts=>exact QIs he hp
 | slc x lo hi ts=>exact QvW he hp
 | app s x e ts=>exact QwV hΓ he hp
 | call f args=>exact Qz3 hΓ he hp
 | mov x=>simp only [QJ] at he;cases he;simp only [TOp.er,Qh,QQ];rfl
 | pick c x y =>
  simp only [QJ] at he
  simp only [TOp.er,Qh,QQ]
  split at he
  ·rename_i cb xb yb hc hx hy
   cases he
   rw [hc,hx,hy]
   cases cb <;> rfl
  ·cases he
 | bin op x y =>
  simp only [QJ] at he
  simp only [TOp.er,Qh,QQ]
  obtain ⟨a,c,v,h1,h2,h3,h4,h5⟩:=Qyi he hp
  rw [h1,h2]
  simp only [h3,TE.emb,h4,h5,List.map_nil]
 | cmpa n g x y =>
  simp only [QJ] at he
  simp only [TOp.er,Qh,QQ]
  split at he
  rotate_left
  ·cases he
  rename_i xs ys hx hy
  split at he
  rotate_left
  ·cases he
  rename_i l m hl hm
  obtain ⟨q,he⟩:=Qz he
  cases he
  simp only [Bool.and_eq_true] at q
  rw [hx,hy]
  simp only [TV.emb,TV.emb2,QjU hl,QjU hm]
  rw [if_pos ⟨Nat.eq_of_beq_eq_true q.1,Nat.eq_of_beq_eq_true q.2⟩]
  cases g <;> rfl
 | eqb g x y =>
  simp only [QJ] at he
  simp only [TOp.er,Qh,QQ]
  split at he
  ·rename_i xb yb hx hy
   cases he
   rw [hx,hy]
   cases g <;> rfl
  ·cases he
 | not x =>
  simp only [QJ] at he
  simp only [TOp.er,Qh,QQ]
  split at he
  ·rename_i xb hx
   cases he
   rw [hx]
   rfl
  ·cases he
 | neg x =>
  simp only [QJ] at he
  simp only [TOp.er,Qh,QQ]
  split at he
  ·rename_i k n hx
   cases he
   rw [hx]
   rfl
  ·cases he
 | new t zs=>simp only [QJ] at he;cases he;rfl
 | box t x n =>
  simp only [QJ] at he
  simp only [TOp.er,Qh,QQ]
  obtain ⟨q,he⟩:=Qz he
  cases he
  simp only [Bool.and_eq_true] at q
  simp only [Qcl q.2,List.length_map,Nat.eq_of_beq_eq_true q.1,Qjo q.2,and_self,if_true]
  rfl
 | fad x off =>
  simp only [QJ] at he
  simp only [TOp.er,Qh,QQ]
  split at he
  ·rename_i id i j hx
   obtain ⟨q,he⟩:=Qz he
   cases he
   rw [hx]
   show (if ((h id).emb).alive=true then some (⟨AV.p id i (j+off),[]⟩:Eff) else none)=_
   rw [QcB,if_pos q]
   rfl
  ·rename_i ts y j hx
   cases he
   rw [hx]
   rfl
  ·rename_i ts y j id g p i hx
   obtain ⟨q,he⟩:=Qz he
   cases he
   rw [hx]
   show (if ((h id).emb).genf=some g then some (⟨.bq (encs ts y) (j+off) id g p i,[]⟩:Eff) else none)=_
   rw [if_pos (QaK q)]
   rfl
  ·cases he
 | fld x off n agg =>
  simp only [QJ] at he
  simp only [TOp.er,Qh,QQ]
  split at he
  rotate_left
  ·cases he
  rename_i cs hx
  split at he
  rotate_left
  ·cases he
  rename_i l hl
  split at he
  rotate_left
  ·cases he
  rename_i v hv
  cases he
  rw [hx]
  simp only [TV.emb,TV.emb2,Qc4 hl,Qce hv]
  rfl
 | build zs ps =>
  simp only [QJ] at he
  simp only [TOp.er,Qh]
  split at he
  ·rename_i cs hcs
   cases he
   rw [Qsi hcs]
   rfl
  ·cases he
 | bsl t ts ps =>
  simp only [QJ] at he
  simp only [TOp.er,Qh,hΓ.dp]
  split at he
  rotate_left
  ·cases he
  rename_i es hes
  rw [QqQ hes]
  split at he
  ·rename_i hdp
   split at he
   rotate_left
   ·cases he
   rename_i q hq
   obtain ⟨q2,he⟩:=Qz he
   cases he
   simp only [hdp,if_true,QIM,Qls hq hp,QcW q2,and_self]
   simp only [TE.emb,List.map_cons,embP,QcC,TBlk.emb_sl,List.length_map]
   rfl
  ·rename_i hdp
   cases he
   simp only [hdp,Bool.false_eq_true,if_false]
   simp only [TE.emb,List.map_cons,embP,QeA,Qx1,TBlk.emb_sl,List.length_map]
   rfl
 | mk t ts zs n =>
  simp only [QJ] at he
  simp only [TOp.er,Qh,QQ,hΓ.dp]
  split at he
  rotate_left
  ·cases he
  rename_i k m z hn hz
  obtain ⟨q,he⟩:=Qz he
  cases he
  simp only [holds] at hp
  obtain ⟨h1,h2⟩:=QbD ts _ _ hz
  have hpl:Γ.dp=true→(encs ts z).all D.pl=true:=by
   intro hd
   rw [hd] at q
   simp only [Bool.not_true,Bool.false_or] at q
   rw [List.all_eq_true]
   intro d hd
   obtain ⟨i,hi⟩:=List.getElem?_of_mem hd
   have hds:=AV.ds_get h1
   have hil:i<(zs.map TV.emb1).length:=by rw [← hds.1];exact (List.getElem?_eq_some_iff.1 hi).1
   obtain ⟨d',h5,h6⟩:=hds.2 i _ (List.getElem?_eq_getElem hil)
   rw [hi] at h5
   cases h5
   have hzi:(zs[i]'(by simpa using hil)).pl=true:=List.all_eq_true.1 q _ (List.getElem_mem _)
   simp only [List.getElem_map] at h6
   generalize zs[i]'(by simpa using hil)=y at hzi h6
   cases y with
   | c t v =>
    obtain ⟨v',hv'⟩:=Qci (x:=v) hzi
    simp only [TV.emb1,AV.d,hv',Option.some.injEq] at h6
    subst h6;rfl
   | n ts =>
    simp only [TV.emb1,AV.d,Option.some.injEq] at h6
    subst h6;rfl
   | _=>simp [TV.pl] at hzi
  rw [hn,h1]
  show (if (0:Int)≤m∧m≤big∧(encs ts z).length=ts.length∧(Γ.dp=true→(encs ts z).all D.pl=true) then some (⟨.r ts.length b 0 m.toNat,[(b,.sl t ts.length (if Γ.dp=true then .dp 0 true [] else .ow) (List.replicate m.toNat (encs ts z)))]⟩:Eff) else none)=_
  rw [if_pos ⟨hp.1,hp.2,Qaf _ _,hpl⟩]
  simp only [TE.emb,List.map_cons,embP,TBlk.emb_sl,List.map_nil,List.map_replicate]
  cases Γ.dp <;> rfl
 | len x =>
  simp only [QJ] at he
  simp only [TOp.er,Qh,QQ]
  split at he
  ·rename_i ts l hx
   cases he
   rw [hx]
   show some (⟨.c (.v (.int .i64 ((List.map (encs ts) l).length:Int))),[]⟩:Eff)=_
   rw [List.length_map]
   rfl
  ·rename_i ts hx
   cases he
   rw [hx]
   rfl
  ·rename_i ts id off len hx
   obtain ⟨q,he⟩:=Qz he
   cases he
   rw [hx]
   show (if ((h id).emb).alive=true then some (⟨.c (.v (.int .i64 (len:Int))),[]⟩:Eff) else none)=_
   rw [QcB,if_pos q]
   rfl
  ·rename_i ts l id g p hx
   obtain ⟨q,he⟩:=Qz he
   cases he
   rw [hx]
   show (if ((h id).emb).genf=some g then some (⟨.c (.v (.int .i64 ((l.map (encs ts)).length:Int))),[]⟩:Eff) else none)=_
   rw [if_pos (QaK q),List.length_map]
   rfl
  ·cases he
 | mm mx x y =>
  simp only [QJ] at he
  simp only [TOp.er,Qh,QQ]
  split at he
  ·rename_i k xb k' yb hx hy
   cases he
   rw [hx,hy]
   cases mx <;> rfl
  ·cases he
 | ext x i =>
  simp only [QJ] at he
  simp only [TOp.er,Qh,QQ]
  split at he
  rotate_left
  ·cases he
  rename_i vs hx
  split at he
  rotate_left
  ·cases he
  rename_i v hv
  obtain ⟨q,he⟩:=Qz he
  cases he
  rw [hx]
  show (match (vs.map TV.emb2)[i]? with | some v=>some (⟨v,[]⟩:Eff) | none=>none)=_
  rw [List.getElem?_map,hv]
  simp only [Option.map_some,TE.emb,Qk4 q,List.map_nil]
 | conv k x =>
  simp only [QJ] at he
  simp only [TOp.er,Qh,QQ]
  split at he
  ·rename_i k' n hx
   cases he
   rw [hx]
   rfl
  ·cases he
 | nilc x =>
  simp only [QJ] at he
  simp only [TOp.er,Qh,QQ]
  split at he
  ·rename_i id i j hx
   obtain ⟨q,he⟩:=Qz he
   cases he
   rw [hx]
   show (if ((h id).emb).alive=true then some (⟨AV.p id i j,[]⟩:Eff) else none)=_
   rw [QcB,if_pos q]
   rfl
  ·rename_i ts y j hx
   cases he
   rw [hx]
   rfl
  ·rename_i ts y j id g p i hx
   obtain ⟨q,he⟩:=Qz he
   cases he
   rw [hx]
   show (if ((h id).emb).genf=some g then some (⟨.bq (encs ts y) j id g p i,[]⟩:Eff) else none)=_
   rw [if_pos (QaK q)]
   rfl
  ·cases he
end
end Go.Proofs.YtdplaepmjogjjaaGreat.Am
namespace Go.Proofs.YtdplaepmjogjjaaGreat.Am
open Go Go.RowKit
inductive TStm where
 | op (d:Option Nat) (o:TOp)
 | grp (s:Nat) (w:Bool) (ss:List TStm) (d:Nat) (x:TOpd)
 | gw (s:Nat) (w:Bool) (ss:List TStm) (d2:Nat) (o:TOp) (d:Nat) (x:TOpd)
mutual
def TStm.len:TStm→Nat
 | .op _ _=>1
 | .grp _ _ ss _ _=>lenL ss+1
 | .gw _ _ ss _ _ _ _=>lenL ss+2
def lenL:List TStm→Nat
 | []=>0
 | x::xs=>x.len+lenL xs
end
def ZD (w:Bool) (s:Nat) (x:TOpd):TOp:=if w then .pick (.s s) x (.k (.c .bool false)) else .pick (.s s) (.k (.c .bool true)) x
mutual
def TStm.er (g:Option (Nat × Bool)) (i:Nat):TStm→List AO
 | .op d o=>[⟨d,o.er,g,16*i⟩]
 | .grp s w ss d x=>erL (some (s,w)) i ss++[⟨some d,(ZD w s x).er,g,16*(i+lenL ss)⟩]
 | .gw s w ss d2 o d x=>erL (some (s,w)) i ss++[⟨some d2,o.er,some (s,w),16*(i+lenL ss)⟩,⟨some d,(ZD w s x).er,g,16*(i+(lenL ss+1))⟩]
def erL (g:Option (Nat × Bool)) (i:Nat):List TStm→List AO
 | []=>[]
 | x::xs=>x.er g i++erL g (i+x.len) xs
end
mutual
def TStm.dsts:TStm→List Nat
 | .op (some d) _=>[d]
 | .op none _=>[]
 | .grp _ _ ss d _=>QF ss++[d]
 | .gw _ _ ss d2 _ d _=>QF ss++[d2]++[d]
def QF:List TStm→List Nat
 | []=>[]
 | x::xs=>x.dsts++QF xs
end
mutual
def TStm.offK:TStm→List Nat→Bool
 | .op (some _) _,_=>true
 | .op none _,_=>false
 | .grp s _ ss _ _,ds=>ds.elem s&&!((QF ss).elem s)&&Jt ss ds
 | .gw _ _ _ _ _ _ _,_=>false
def Jt:List TStm→List Nat→Bool
 | [],_=>true
 | x::r,ds=>x.offK ds&&Jt r (x.dsts++ds)
end
def QaT:Option Prop→Option Prop→Option Prop
 | none,q=>q
 | some p,none=>some p
 | some p,some q=>some (p∧q)
def impO (b:Bool):Option Prop→Option Prop
 | none=>none
 | some p=>some (b=true→p)
def QbF (g:Bool) (t1:Nat→TV):List Nat→List (Nat × TV)→List (Nat × TV)
 | [],t=>t
 | d::ds,t=>(d,.g g (t1 d))::QbF g t1 ds t
abbrev Log:=List (List Nat × List Nat)
mutual
def TStm.runS (Γ:TTab) (h:List (Nat × TBlk)) (nx i:Nat):TStm→List (Nat × TV)→Option (Option Prop × List (Nat × TV) × Log)
 | .op d o,t=>match QJ Γ (lkT t) (lkB h) (nx+16*i) o with
  | some ⟨pre,v,[]⟩=>match d with
   | some d=>some (pre,(d,v)::t,[(acc (Opd.ev fun s=>(lkT t s).emb) o.er,[])])
   | none=>none
  | _=>none
 | .grp s w ss d x,t=>match lkT t s with
  | .c .bool b=>bif Jt ss []&&!((QF ss).elem s) then (match Z4 Γ h nx i ss t with
   | some (p,t1,l)=>match x.ev (lkT t1) with
    | .c .bool v=>some (impO (selB w b (!b)) p,(d,.c .bool (selB w (b&&v) (b||v)))::QbF (selB w b (!b)) (lkT t1) (QF ss) t,l++[([],[])])
    | _=>none
   | none=>none) else none
  | _=>none
 | .gw _ _ _ _ _ _ _,_=>none
def Z4 (Γ:TTab) (h:List (Nat × TBlk)) (nx i:Nat):List TStm→List (Nat × TV)→Option (Option Prop × List (Nat × TV) × Log)
 | [],t=>some (none,t,[])
 | x::xs,t=>match x.runS Γ h nx i t with
  | some (p,t1,l)=>match Z4 Γ h nx (i+x.len) xs t1 with
   | some (q,t2,m)=>some (QaT p q,t2,l++m)
   | none=>none
  | none=>none
end
def TSt.app (σ:TSt) (d:Option Nat) (v:TV) (bl:List (Nat × TBlk)):TSt :=
 ⟨match d with | some d=>(d,v)::σ.t | none=>σ.t,bl.reverse++σ.h,σ.nx⟩
def QcF (g:Bool):TV→TV→Option TV
 | .c t x,.c t' y=>if e:t'.beq t=true then some (.c t (cond g x (Qgr e y))) else none
 | _,_=>none
def Yl (g:Bool):List TV→List TV→Option (List TV)
 | [],[]=>some []
 | x::xs,y::ys=>match QcF g x y with
  | some z=>match Yl g xs ys with
   | some zs=>some (z::zs)
   | none=>none
  | none=>none
 | _,_=>none
def ZT (g:Bool) (h:List (Nat × TBlk)):List (Nat × TBlk)→Option (List (Nat × TBlk))
 | []=>some []
 | (i,.box cs)::r=>match lkB h i with
  | .box cs0=>match Yl g cs cs0 with
   | some zs=>match ZT g h r with
    | some r'=>some ((i,.box zs)::r')
    | none=>none
   | none=>none
  | _=>none
 | _::_=>none
def Qh9 (Γ:TTab) (i s:Nat) (w:Bool) (ss:List TStm) (d2:Nat) (o:TOp) (d:Nat) (x:TOpd) (σ:TSt):Option (Option Prop × TSt × Log) :=
 match lkT σ.t s with
 | .c .bool b=>bif (Jt ss []&&!((QF ss).elem s))&&!(Nat.beq s d2) then (match Z4 Γ σ.h σ.nx i ss σ.t with
  | some (p,t1,l)=>match QJ Γ (lkT t1) (lkB σ.h) (σ.nx+16*(i+lenL ss)) o with
   | some ⟨pre,v,bl⟩=>match ZT (selB w b (!b)) σ.h bl with
    | some bl'=>match x.ev (lkT ((d2,v)::t1)) with
     | .c .bool xv=>some (impO (selB w b (!b)) (QaT p pre),⟨(d,.c .bool (selB w (b&&xv) (b||xv)))::QbF (selB w b (!b)) (lkT ((d2,v)::t1)) (QF ss++[d2]) σ.t,bl'.reverse++σ.h,σ.nx⟩,
       l++[(acc (Opd.ev fun s=>(lkT t1 s).emb) o.er,bl.map Prod.fst),([],[])])
     | _=>none
    | none=>none
   | none=>none
  | none=>none) else none
 | _=>none
def runR (Γ:TTab):Nat→List TStm→TSt→Option (Option Prop × TSt × Log)
 | _,[],σ=>some (none,σ,[])
 | i,.op d o::r,σ=>match QJ Γ σ.T σ.H (σ.nx+16*i) o with
  | some ⟨pre,v,bl⟩=>match runR Γ (i+1) r (σ.app d v bl) with
   | some (q,σ',m)=>some (QaT pre q,σ',(acc (Opd.ev fun s=>(σ.T s).emb) o.er,bl.map Prod.fst)::m)
   | none=>none
  | none=>none
 | i,.grp s w ss d x::r,σ=>match (TStm.grp s w ss d x).runS Γ σ.h σ.nx i σ.t with
  | some (p,t1,l)=>match runR Γ (i+(lenL ss+1)) r ⟨t1,σ.h,σ.nx⟩ with
   | some (q,σ',m)=>some (QaT p q,σ',l++m)
   | none=>none
  | none=>none
 | i,.gw s w ss d2 o d x::r,σ=>match Qh9 Γ i s w ss d2 o d x σ with
  | some (p,σ1,l)=>match runR Γ (i+(lenL ss+2)) r σ1 with
   | some (q,σ',m)=>some (QaT p q,σ',l++m)
   | none=>none
  | none=>none
theorem Qb6 {p q:Option Prop}:holds (QaT p q)↔holds p∧holds q:=by
 cases p <;> cases q <;> simp [QaT,holds]
theorem Qo7 {b:Bool} {p:Option Prop}:holds (impO b p)↔(b=true→holds p):=by
 cases p <;> simp [impO,holds]
theorem Qh4 {j d:Nat} (h:¬ j=d):Nat.beq j d=false:=by
 cases hb:Nat.beq j d with
 | true=>exact absurd (Nat.eq_of_beq_eq_true hb) h
 | false=>rfl
theorem Yd (d:Nat) (v:TV) (t:List (Nat × TV)):lkT ((d,v)::t)=upd (lkT t) d v:=by
 funext j
 simp only [lkT,upd]
 by_cases h:j=d
 ·subst h;simp
 ·rw [if_neg h,Qh4 h];rfl
theorem Qay (d:Nat) (v:TBlk) (t:List (Nat × TBlk)):lkB ((d,v)::t)=upd (lkB t) d v:=by
 funext j
 simp only [lkB,upd]
 by_cases h:j=d
 ·subst h;simp
 ·rw [if_neg h,Qh4 h];rfl
theorem QEa (T:Nat→TV) (d:Nat) (v:TV):(fun s=>(upd T d v s).emb)=upd (fun s=>(T s).emb) d v.emb:=by
 funext s;simp only [upd];split <;> rfl
theorem QBa (T:Nat→TBlk) (d:Nat) (v:TBlk):(fun s=>(upd T d v s).emb)=upd (fun s=>(T s).emb) d v.emb:=by
 funext s;simp only [upd];split <;> rfl
theorem QhO:∀ (bl:List (Nat × TBlk)) (h:List (Nat × TBlk)),(fun i=>(lkB (bl.reverse++h) i).emb)=updL (fun i=>(lkB h i).emb) (bl.map embP)
 | [],h=>rfl
 | (d,v)::bl,h=>by
  rw [List.reverse_cons,List.append_assoc,List.singleton_append,QhO bl ((d,v)::h),List.map_cons,embP,updL,Qay,QBa]
theorem QiT (σ:TSt) (d:Option Nat) (v:TV) (bl:List (Nat × TBlk)):(σ.app d v bl).emb=σ.emb.app d ⟨v.emb,bl.map embP⟩:=by
 unfold TSt.app TSt.emb St.app TSt.T TSt.H
 simp only [QhO,putO]
 cases d with
 | none=>rfl
 | some d=>simp only [Yd,QEa]
theorem QmS (bl:List (Nat × TBlk)):keys (bl.map embP)=bl.map Prod.fst:=by
 simp [keys,embP,List.map_map,Function.comp_def]
theorem Jp {Γ:Tab}:∀ (l m:List AO) (σ:St),QY Γ (l++m) σ=match QY Γ l σ with
  | some (σ',a)=>match QY Γ m σ' with
   | some (σ'',b)=>some (σ'',a++b)
   | none=>none
  | none=>none
 | [],m,σ=>by
  simp only [List.nil_append,QY]
  cases QY Γ m σ with
  | none=>rfl
  | some x=>obtain ⟨a,b⟩:=x;rfl
 | o::l,m,σ=>by
  simp only [List.cons_append,QY]
  cases QP Γ o σ with
  | none=>rfl
  | some x =>
   obtain ⟨σ',a,w⟩:=x
   simp only [Jp l m σ']
   cases QY Γ l σ' with
   | none=>rfl
   | some x =>
    obtain ⟨σ2,b⟩:=x
    simp only
    cases QY Γ m σ2 with
    | none=>rfl
    | some y=>obtain ⟨σ3,c⟩:=y;rfl
def Off (t:Nat→AV) (s:Nat) (w:Bool):Prop:=t s = .t []∨∃ c,t s = .c (.v (.bool c))∧c≠w
def offT (ds:List Nat) (t:Nat→AV):Nat→AV:=fun j=>if j∈ds then .t [] else t j
theorem Qj8 {Γ:Tab} {d:Option Nat} {op:AOp} {s:Nat} {w:Bool} {off:Nat} {σ:St} (h:Off σ.t s w) :
  QP Γ ⟨d,op,some (s,w),off⟩ σ=some (⟨putO σ.t d (.t []),σ.h,σ.nx⟩,[],[]):=by
 unfold QP
 rcases h with h | ⟨c,h,hc⟩
 ·simp only [h]
 ·simp only [h,if_neg hc]
theorem QeX (a b:List Nat) (t:Nat→AV):offT (a++b) t=offT b (offT a t):=by
 funext j
 simp only [offT,List.mem_append]
 by_cases h1:j∈b
 ·simp [h1]
 ·by_cases h2:j∈a <;> simp [h1,h2]
theorem QbZ (d:Nat) (t:Nat→AV):upd t d (.t [])=offT [d] t:=by
 funext j
 simp only [offT,upd,List.mem_singleton]
theorem Off.offT {t:Nat→AV} {s:Nat} {w:Bool} (h:Off t s w) (ds:List Nat) (hs:s∉ds):Off (offT ds t) s w:=by
 have:Am.offT ds t s=t s:=by simp [Am.offT,hs]
 unfold Off
 rw [this]
 exact h
theorem QcQ {Γ:Tab} {h:Nat→Blk} {nx:Nat}:∀ (ss:List TStm) (ds:List Nat) (i s:Nat) (w:Bool) (t:Nat→AV),Jt ss ds=true→(∀ d,d∈ds→t d = .t [])→Off t s w→s∉QF ss →
  ∃ l:Log,QY Γ (erL (some (s,w)) i ss) ⟨t,h,nx⟩=some (⟨offT (QF ss) t,h,nx⟩,l)∧l.length=lenL ss∧∀ x,x∈l→x=([],[])
 | [],ds,i,s,w,t,hk,hds,ho,hs=>by
  refine ⟨[],?_,rfl,by simp⟩
  show some (_,_)=_
  have:offT [] t=t:=by funext j;simp [offT]
  rw [QF,this]
 | .op (some d) o::r,ds,i,s,w,t,hk,hds,ho,hs=>by
  simp only [Jt,TStm.offK,TStm.dsts,List.singleton_append,Bool.true_and] at hk
  simp only [QF,TStm.dsts,List.mem_append,not_or,List.mem_singleton] at hs
  have ho':Off (upd t d (.t [])) s w:=by rw [QbZ];exact ho.offT [d] (by simpa using hs.1)
  obtain ⟨l,h1,h2,h3⟩:=QcQ (Γ:=Γ) (h:=h) (nx:=nx) r (d::ds) (i+1) s w (upd t d (.t [])) hk (fun d' hd'=>by
   simp only [upd]
   split
   ·rfl
   ·rename_i hne
    rcases List.mem_cons.1 hd' with rfl | hd'
    ·exact absurd rfl hne
    ·exact hds d' hd') ho' hs.2
  refine ⟨([],[])::l,?_,by simp [lenL,TStm.len,h2,Nat.add_comm],by simpa using h3⟩
  simp only [erL,TStm.er,TStm.len,List.singleton_append,QY,Qj8 (σ:=⟨t,h,nx⟩) ho,putO,h1,QF,TStm.dsts]
  rw [QbZ,← QeX]
  rfl
 | .grp s2 w2 ss d x::r,ds,i,s,w,t,hk,hds,ho,hs=>by
  simp only [Jt,TStm.offK,TStm.dsts,Bool.and_eq_true,Bool.not_eq_true'] at hk
  obtain ⟨⟨⟨k1,k2⟩,k3⟩,k4⟩:=hk
  have k1:s2∈ds:=by simpa using k1
  have k2:s2∉QF ss:=by simpa using k2
  simp only [QF,TStm.dsts,List.mem_append,not_or,List.mem_singleton] at hs
  obtain ⟨l1,h1,h2,h3⟩:=QcQ (Γ:=Γ) (h:=h) (nx:=nx) ss ds i s2 w2 t k3 hds (.inl (hds s2 k1)) k2
  have ho1:Off (offT (QF ss) t) s w:=ho.offT _ hs.1.1
  have ho2:Off (upd (offT (QF ss) t) d (.t [])) s w:=by rw [QbZ];exact ho1.offT [d] (by simpa using hs.1.2)
  obtain ⟨l2,h4,h5,h6⟩:=QcQ (Γ:=Γ) (h:=h) (nx:=nx) r ((QF ss++[d])++ds) (i+(lenL ss+1)) s w (upd (offT (QF ss) t) d (.t [])) k4 (fun d' hd'=>by
   simp only [upd]
   split
   ·rfl
   ·rename_i hne
    simp only [offT]
    split
    ·rfl
    ·rename_i hn
     simp only [List.mem_append,List.mem_singleton] at hd'
     rcases hd' with (hd' | hd') | hd'
     ·exact absurd hd' hn
     ·exact absurd hd' hne
     ·exact hds d' hd') ho2 hs.2
  refine ⟨l1++[([],[])]++l2,?_,by simp [lenL,TStm.len,h2,h5];omega,fun y hy=>?_⟩
  ·simp only [erL,TStm.er,TStm.len,List.append_assoc,Jp,h1,List.singleton_append,QY,Qj8 (σ:=⟨offT (QF ss) t,h,nx⟩) ho1,putO,h4,QF,TStm.dsts]
   rw [QbZ,← QeX,← QeX]
   rfl
  ·rcases List.mem_append.1 hy with hy | hy
   ·rcases List.mem_append.1 hy with hy | hy
    ·exact h3 y hy
    ·simpa using hy
   ·exact h6 y hy
 | .op none o::r,ds,i,s,w,t,hk,hds,ho,hs=>by simp [Jt,TStm.offK] at hk
 | .gw _ _ _ _ _ _ _::r,ds,i,s,w,t,hk,hds,ho,hs=>by simp [Jt,TStm.offK] at hk
theorem QbN (g:Bool) (t1:Nat→TV):∀ (ds:List Nat) (t:List (Nat × TV)) (j:Nat),lkT (QbF g t1 ds t) j=if j∈ds then .g g (t1 j) else lkT t j
 | [],t,j=>by simp [QbF]
 | d::ds,t,j=>by
  simp only [QbF,Yd,upd]
  by_cases h:j=d
  ·subst h;simp
  ·rw [if_neg h,QbN g t1 ds t j]
   simp [h]
mutual
theorem QuZ {Γ:TTab} {h:List (Nat × TBlk)} {nx:Nat}:∀ (x:TStm) {i:Nat} {t t1:List (Nat × TV)} {p:Option Prop} {l:Log},x.runS Γ h nx i t=some (p,t1,l)→∀ j,j∉x.dsts→lkT t1 j=lkT t j
 | .op d o,i,t,t1,p,l,e,j,hj=>by
  rw [TStm.runS] at e
  split at e
  ·split at e
   ·cases e
    simp only [TStm.dsts,List.mem_singleton] at hj
    rw [Yd]
    simp [upd,hj]
   ·cases e
  ·cases e
 | .grp s w ss d x,i,t,t1,p,l,e,j,hj=>by
  rw [TStm.runS] at e
  split at e
  rotate_left
  ·cases e
  obtain ⟨_,e⟩:=Qz e
  split at e
  rotate_left
  ·cases e
  split at e
  rotate_left
  ·cases e
  cases e
  simp only [TStm.dsts,List.mem_append,List.mem_singleton,not_or] at hj
  rw [Yd]
  simp only [upd,hj.2,if_false]
  rw [QbN,if_neg hj.1]
 | .gw _ _ _ _ _ _ _,i,t,t1,p,l,e,j,hj=>by rw [TStm.runS] at e;cases e
theorem QgI {Γ:TTab} {h:List (Nat × TBlk)} {nx:Nat}:∀ (ss:List TStm) {i:Nat} {t t1:List (Nat × TV)} {p:Option Prop} {l:Log},Z4 Γ h nx i ss t=some (p,t1,l)→∀ j,j∉QF ss→lkT t1 j=lkT t j
 | [],i,t,t1,p,l,e,j,hj=>by rw [Z4] at e;cases e;rfl
 | x::xs,i,t,t1,p,l,e,j,hj=>by
  rw [Z4] at e
  split at e
  rotate_left
  ·cases e
  rename_i h1
  split at e
  rotate_left
  ·cases e
  rename_i h2
  cases e
  simp only [QF,List.mem_append,not_or] at hj
  rw [QgI xs h2 j hj.2,QuZ x h1 j hj.1]
end
def ZJ (l' l:List (List Nat × List Nat)):Prop:=l'.length=l.length∧∀ (k:Nat) (a:List Nat × List Nat),l'[k]? = some a→a=([],[])∨l[k]? = some a
theorem ZJ.refl (l:Log):ZJ l l:=⟨rfl,fun _ _ h=>.inr h⟩
theorem ZJ.off {l' l:Log} (h:l'.length=l.length) (h2:∀ x,x∈l'→x=([],[])):ZJ l' l:=⟨h,fun _ a ha=>.inl (h2 a (List.mem_of_getElem? ha))⟩
theorem ZJ.append {a a' b b':Log} (h:ZJ a' a) (h2:ZJ b' b):ZJ (a'++b') (a++b):=by
 refine ⟨by simp [h.1,h2.1],fun k x hk=>?_⟩
 rw [List.getElem?_append] at hk ⊢
 rw [h.1] at hk
 split at hk
 ·rename_i hlt;rw [if_pos hlt];exact (h.2 k x hk)
 ·rename_i hlt;rw [if_neg hlt];exact (h2.2 _ x hk)
theorem Qxv {l' l:Log} {U:List (Nat × Nat)} (h:ZJ l' l) (hn:QbX l U=true):QbX l' U=true:=by
 unfold QbX at hn ⊢
 rw [List.all_eq_true] at hn ⊢
 rintro ⟨i,j⟩ hij
 have:=hn (i,j) hij
 simp only at this ⊢
 split
 rotate_left
 ·rfl
 rename_i a w a' w' h1 h2
 rcases h.2 i _ h1 with e1 | e1
 ·cases e1
  simp [Yu]
 ·rcases h.2 j _ h2 with e2 | e2
  ·cases e2
   simp [Yu]
  ·rw [e1,e2] at this
   exact this
mutual
theorem Qz9 {Γ:TTab} {h:List (Nat × TBlk)} {nx:Nat}:∀ (x:TStm) {i:Nat} {t t1:List (Nat × TV)} {p:Option Prop} {l:Log},x.runS Γ h nx i t=some (p,t1,l)→l.length=x.len
 | .op d o,i,t,t1,p,l,e=>by
  rw [TStm.runS] at e
  split at e
  ·split at e
   ·cases e;rfl
   ·cases e
  ·cases e
 | .grp s w ss d x,i,t,t1,p,l,e=>by
  rw [TStm.runS] at e
  split at e
  rotate_left
  ·cases e
  obtain ⟨_,e⟩:=Qz e
  split at e
  rotate_left
  ·cases e
  rename_i hr
  split at e
  rotate_left
  ·cases e
  cases e
  simp [TStm.len,Qit ss hr]
 | .gw _ _ _ _ _ _ _,i,t,t1,p,l,e=>by rw [TStm.runS] at e;cases e
theorem Qit {Γ:TTab} {h:List (Nat × TBlk)} {nx:Nat}:∀ (ss:List TStm) {i:Nat} {t t1:List (Nat × TV)} {p:Option Prop} {l:Log},Z4 Γ h nx i ss t=some (p,t1,l)→l.length=lenL ss
 | [],i,t,t1,p,l,e=>by rw [Z4] at e;cases e;rfl
 | x::xs,i,t,t1,p,l,e=>by
  rw [Z4] at e
  split at e
  rotate_left
  ·cases e
  rename_i h1
  split at e
  rotate_left
  ·cases e
  rename_i h2
  cases e
  simp [lenL,Qz9 x h1,Qit xs h2]
end
theorem Qsf {Γ:TTab} {h:List (Nat × TBlk)} {nx:Nat} {ss:List TStm} {i:Nat} {t t1:List (Nat × TV)} {p:Option Prop} {l:Log} (e:Z4 Γ h nx i ss t=some (p,t1,l)):l.length=lenL ss:=Qit ss e
section
variable {Γ:TTab} {ΓA:Tab} (hΓ:TabSim Γ ΓA) {h:List (Nat × TBlk)} {nx:Nat}
def OnG (g:Option (Nat × Bool)) (t:List (Nat × TV)):Prop:=match g with
 | none=>True
 | some (s,w)=>lkT t s = .c .bool w
def outG (g:Option (Nat × Bool)) (ds:List Nat):Prop:=match g with
 | none=>True
 | some (s,_)=>s∉ds
theorem OnG.next {g:Option (Nat × Bool)} {t t1:List (Nat × TV)} {ds:List Nat} (h:OnG g t) (ho:outG g ds) (hk:∀ j,j∉ds→lkT t1 j=lkT t j):OnG g t1:=by
 cases g with
 | none=>trivial
 | some x=>obtain ⟨s,w⟩:=x;exact (hk s ho).trans h
theorem Qdc {op:AOp} {d:Option Nat} {g:Option (Nat × Bool)} {off:Nat} {t:List (Nat × TV)} (hg:OnG g t) :
  QP ΓA ⟨d,op,g,off⟩ (TSt.emb ⟨t,h,nx⟩)=match Qh ΓA (Opd.ev fun s=>(lkT t s).emb) (fun i=>(lkB h i).emb) (nx+off) op with
   | some e=>some ((TSt.emb ⟨t,h,nx⟩).app d e,acc (Opd.ev fun s=>(lkT t s).emb) op,keys e.blks)
   | none=>none:=by
 unfold QP
 cases g with
 | none=>rfl
 | some x =>
  obtain ⟨s,w⟩:=x
  have:(TSt.emb ⟨t,h,nx⟩).t s = .c (.v (.bool w)):=by
   show (lkT t s).emb=_
   rw [show lkT t s = .c .bool w from hg]
   rfl
  simp only [this,if_true]
  rfl
include hΓ in
mutual
theorem QqD:∀ (x:TStm) {i:Nat} {g:Option (Nat × Bool)} {t t1:List (Nat × TV)} {p:Option Prop} {l:Log},x.runS Γ h nx i t=some (p,t1,l)→holds p→OnG g t→outG g x.dsts →
  ∃ l',QY ΓA (x.er g i) (TSt.emb ⟨t,h,nx⟩)=some (TSt.emb ⟨t1,h,nx⟩,l')∧ZJ l' l
 | .op d o,i,g,t,t1,p,l,e,hp,hg,ho=>by
  rw [TStm.runS] at e
  split at e
  rotate_left
  ·cases e
  rename_i pre v he
  split at e
  rotate_left
  ·cases e
  rename_i d
  cases e
  have h1:=QhF hΓ he hp
  refine ⟨[(acc (Opd.ev fun s=>(lkT t s).emb) o.er,[])],?_,.refl _⟩
  simp only [TStm.er,QY,Qdc (ΓA:=ΓA) hg,h1,TE.emb,List.map_nil,keys]
  congr 2
  have:=QiT ⟨t,h,nx⟩ (some d) v []
  simp only [List.map_nil] at this
  exact this.symm
 | .grp s w ss d x,i,g,t,t1,p,l,e,hp,hg,ho=>by
  rw [TStm.runS] at e
  split at e
  rotate_left
  ·cases e
  rename_i b hb
  obtain ⟨q,e⟩:=Qz e
  simp only [Bool.and_eq_true,Bool.not_eq_true'] at q
  have q2:s∉QF ss:=by simpa using q.2
  split at e
  rotate_left
  ·cases e
  rename_i p' t1 l1 hr
  split at e
  rotate_left
  ·cases e
  rename_i v hv
  cases e
  have ho1:outG g (QF ss):=by
   cases g with
   | none=>trivial
   | some y=>obtain ⟨sg,wg⟩:=y;simp only [outG,TStm.dsts,List.mem_append,not_or] at ho ⊢;exact ho.1
  have hout:=QgI ss hr
  rw [Qo7] at hp
  by_cases hon:(selB w b (!b))=true
  ·have hbw:b=w:=by cases b <;> cases w <;> simp [selB] at hon ⊢
   obtain ⟨l',h1,h2⟩:=Qhu ss (g:=some (s,w)) hr (hp hon) (by show lkT t s=_;rw [hb,hbw]) q2
   have hg1:OnG g t1:=hg.next ho1 hout
   have hs1:lkT t1 s = .c .bool b:=by rw [hout s q2,hb]
   refine ⟨l'++[(acc (Opd.ev fun s=>(lkT t1 s).emb) (ZD w s x).er,[])],?_,h2.append ⟨rfl,fun k a ha=>?_⟩⟩
   ·simp only [TStm.er,Jp,h1,QY,Qdc (ΓA:=ΓA) hg1]
    have hd:Qh ΓA (Opd.ev fun s=>(lkT t1 s).emb) (fun i=>(lkB h i).emb) (nx+16*(i+lenL ss)) (ZD w s x).er=some ⟨.c (.v (.bool (selB w (b&&v) (b||v)))),[]⟩:=by
     subst hbw
     have e1:(TOpd.s s).ev (lkT t1) = .c .bool b:=hs1
     cases b
     ·simp only [ZD,Bool.false_eq_true,if_false,TOp.er,Qh,QQ,e1,hv]
      rfl
     ·simp only [ZD,if_true,TOp.er,Qh,QQ,e1,hv]
      rfl
    simp only [hd,keys,List.map_nil]
    congr 2
    rw [hon]
    unfold St.app TSt.emb TSt.T TSt.H
    simp only [putO,updL]
    congr 1
    funext j
    rw [Yd,upd,upd]
    split
    ·rfl
    ·rw [QbN]
     split
     ·rfl
     ·rename_i hj;rw [hout j hj]
   ·cases k with
    | zero =>
     left
     simp only [List.getElem?_cons_zero,Option.some.injEq] at ha
     rw [← ha]
     cases w <;> rfl
    | succ k=>simp at ha
  ·have hon':(selB w b (!b))=false:=by simpa using hon
   have hbw:b≠w:=by rintro rfl;cases b <;> simp [selB] at hon
   obtain ⟨l',h1,h2,h3⟩:=QcQ (Γ:=ΓA) (h:=fun i=>(lkB h i).emb) (nx:=nx) ss [] i s w (fun s=>(lkT t s).emb) q.1 (by simp) (.inr ⟨b,by show (lkT t s).emb=_;rw [hb];rfl,hbw⟩) q2
   have hoff:∀ s',s'∉QF ss→offT (QF ss) (fun s=>(lkT t s).emb) s'=(lkT t s').emb:=fun s' hs'=>by simp [offT,hs']
   have hstep:∀ op,QP ΓA ⟨some d,op,g,16*(i+lenL ss)⟩ ⟨offT (QF ss) (fun s=>(lkT t s).emb),fun i=>(lkB h i).emb,nx⟩=match Qh ΓA (Opd.ev (offT (QF ss) fun s=>(lkT t s).emb)) (fun i=>(lkB h i).emb) (nx+16*(i+lenL ss)) op with
     | some e=>some (St.app ⟨offT (QF ss) (fun s=>(lkT t s).emb),fun i=>(lkB h i).emb,nx⟩ (some d) e,acc (Opd.ev (offT (QF ss) fun s=>(lkT t s).emb)) op,keys e.blks)
     | none=>none:=by
    intro op
    unfold QP
    cases g with
    | none=>rfl
    | some y =>
     obtain ⟨sg,wg⟩:=y
     have:offT (QF ss) (fun s=>(lkT t s).emb) sg = .c (.v (.bool wg)):=by
      rw [hoff sg ho1,show lkT t sg = .c .bool wg from hg];rfl
     simp only [this,if_true]
     rfl
   refine ⟨l'++[([],[])],?_,(ZJ.off (by rw [h2,Qsf hr]) h3).append (.refl _)⟩
   simp only [TStm.er,Jp]
   rw [show TSt.emb ⟨t,h,nx⟩=⟨fun s=>(lkT t s).emb,fun i=>(lkB h i).emb,nx⟩ from rfl,h1]
   simp only [QY,hstep]
   have hd:Qh ΓA (Opd.ev (offT (QF ss) fun s=>(lkT t s).emb)) (fun i=>(lkB h i).emb) (nx+16*(i+lenL ss)) (ZD w s x).er=some ⟨.c (.v (.bool (selB w (b&&v) (b||v)))),[]⟩:=by
    have hs1:offT (QF ss) (fun s=>(lkT t s).emb) s = .c (.v (.bool b)):=by rw [hoff s q2,hb];rfl
    cases w <;> cases b <;> first
     | exact absurd rfl hbw
     | (simp only [ZD,Bool.false_eq_true,if_false,if_true,TOp.er,Qh,TOpd.er,Opd.ev,hs1];rfl)
   simp only [hd,keys,List.map_nil]
   have hacc:acc (Opd.ev (offT (QF ss) fun s=>(lkT t s).emb)) (ZD w s x).er=[]:=by cases w <;> rfl
   rw [hacc,hon']
   congr 2
   unfold St.app TSt.emb TSt.T TSt.H
   simp only [putO,updL]
   congr 1
   funext j
   rw [Yd,upd,upd]
   split
   ·rfl
   ·rw [QbN]
    simp only [offT]
    split
    ·rfl
    ·rfl
 | .gw _ _ _ _ _ _ _,i,g,t,t1,p,l,e,hp,hg,ho=>by rw [TStm.runS] at e;cases e
theorem Qhu:∀ (ss:List TStm) {i:Nat} {g:Option (Nat × Bool)} {t t1:List (Nat × TV)} {p:Option Prop} {l:Log},Z4 Γ h nx i ss t=some (p,t1,l)→holds p→OnG g t→outG g (QF ss) →
  ∃ l',QY ΓA (erL g i ss) (TSt.emb ⟨t,h,nx⟩)=some (TSt.emb ⟨t1,h,nx⟩,l')∧ZJ l' l
 | [],i,g,t,t1,p,l,e,hp,hg,ho=>by rw [Z4] at e;cases e;exact ⟨[],rfl,.refl _⟩
 | x::xs,i,g,t,t1,p,l,e,hp,hg,ho=>by
  rw [Z4] at e
  split at e
  rotate_left
  ·cases e
  rename_i p1 t2 l1 h1
  split at e
  rotate_left
  ·cases e
  rename_i p2 t3 l2 h2
  cases e
  rw [Qb6] at hp
  have ho':outG g x.dsts∧outG g (QF xs):=by
   cases g with
   | none=>exact ⟨trivial,trivial⟩
   | some y=>obtain ⟨sg,wg⟩:=y;simp only [outG,QF,List.mem_append,not_or] at ho ⊢;exact ho
  obtain ⟨l1',h3,h4⟩:=QqD x h1 hp.1 hg ho'.1
  obtain ⟨l2',h5,h6⟩:=Qhu xs h2 hp.2 (hg.next ho'.1 (QuZ x h1)) ho'.2
  exact ⟨l1'++l2',by simp only [erL,Jp,h3,h5],h4.append h6⟩
end
theorem QDP {x y z:TV} (e:QcF true x y=some z):z=x:=by
 unfold QcF at e
 split at e
 ·split at e
  ·cases e;rfl
  ·cases e
 ·cases e
theorem QrK:∀ {x y z:List TV},Yl true x y=some z→z=x
 | [],[],z,e=>by simp only [Yl] at e;cases e;rfl
 | x::xs,y::ys,z,e=>by
  simp only [Yl] at e
  split at e
  rotate_left
  ·cases e
  rename_i h1
  split at e
  rotate_left
  ·cases e
  rename_i h2
  cases e
  rw [QDP h1,QrK h2]
 | [],_::_,z,e=>by simp [Yl] at e
 | _::_,[],z,e=>by simp [Yl] at e
theorem Ql6 {h:List (Nat × TBlk)}:∀ {bl bl':List (Nat × TBlk)},ZT true h bl=some bl'→bl'=bl
 | [],bl',e=>by simp only [ZT] at e;cases e;rfl
 | (i,.box cs)::r,bl',e=>by
  simp only [ZT] at e
  split at e
  rotate_left
  ·cases e
  split at e
  rotate_left
  ·cases e
  rename_i h1
  split at e
  rotate_left
  ·cases e
  rename_i h2
  cases e
  rw [QrK h1,Ql6 h2]
 | (i,.none)::r,bl',e=>by simp [ZT] at e
 | (i,.dead)::r,bl',e=>by simp [ZT] at e
 | (i,.sl _ _ _ _)::r,bl',e=>by simp [ZT] at e
theorem QFh {x y z:TV} (e:QcF false x y=some z):z=y:=by
 unfold QcF at e
 split at e
 ·split at e
  ·rename_i t x t' y h
   cases e
   have:=CT.beq_eq _ _ h
   subst this
   rfl
  ·cases e
 ·cases e
theorem Qn1:∀ {x y z:List TV},Yl false x y=some z→z=y
 | [],[],z,e=>by simp only [Yl] at e;cases e;rfl
 | x::xs,y::ys,z,e=>by
  simp only [Yl] at e
  split at e
  rotate_left
  ·cases e
  rename_i h1
  split at e
  rotate_left
  ·cases e
  rename_i h2
  cases e
  rw [QFh h1,Qn1 h2]
 | [],_::_,z,e=>by simp [Yl] at e
 | _::_,[],z,e=>by simp [Yl] at e
theorem Qus {h:List (Nat × TBlk)}:∀ {bl bl':List (Nat × TBlk)},ZT false h bl=some bl'→updL (fun i=>(lkB h i).emb) (bl'.map embP)=fun i=>(lkB h i).emb
 | [],bl',e=>by simp only [ZT] at e;cases e;rfl
 | (i,.box cs)::r,bl',e=>by
  simp only [ZT] at e
  split at e
  rotate_left
  ·cases e
  rename_i cs0 h0
  split at e
  rotate_left
  ·cases e
  rename_i h1
  split at e
  rotate_left
  ·cases e
  rename_i h2
  cases e
  rw [Qn1 h1,List.map_cons,embP,updL]
  show updL (upd (fun i=>(lkB h i).emb) i (TBlk.emb (.box cs0))) _=_
  have:upd (fun i=>(lkB h i).emb) i (TBlk.emb (.box cs0))=fun i=>(lkB h i).emb:=by
   funext j
   simp only [upd]
   split
   ·rename_i hj;rw [hj,← h0]
   ·rfl
  rw [this]
  exact Qus h2
 | (i,.none)::r,bl',e=>by simp [ZT] at e
 | (i,.dead)::r,bl',e=>by simp [ZT] at e
 | (i,.sl _ _ _ _)::r,bl',e=>by simp [ZT] at e
include hΓ in
theorem Qyd {i s:Nat} {w:Bool} {ss:List TStm} {d2:Nat} {o:TOp} {d:Nat} {x:TOpd} {σ σ':TSt} {p:Option Prop} {l:Log} (e:Qh9 Γ i s w ss d2 o d x σ=some (p,σ',l)) (hp:holds p) :
  ∃ l',QY ΓA ((TStm.gw s w ss d2 o d x).er none i) σ.emb=some (σ'.emb,l')∧ZJ l' l:=by
 obtain ⟨t,h,nx⟩:=σ
 unfold Qh9 at e
 split at e
 rotate_left
 ·cases e
 rename_i b hb
 obtain ⟨q,e⟩:=Qz e
 simp only [Bool.and_eq_true,Bool.not_eq_true'] at q
 obtain ⟨⟨q1,q2⟩,q3⟩:=q
 have q2:s∉QF ss:=by simpa using q2
 have q3:¬ s=d2:=fun h=>by rw [h] at q3;simp at q3
 split at e
 rotate_left
 ·cases e
 rename_i p' t1 l1 hr
 split at e
 rotate_left
 ·cases e
 rename_i pre v bl he
 split at e
 rotate_left
 ·cases e
 rename_i bl' hm
 split at e
 rotate_left
 ·cases e
 rename_i xv hv
 cases e
 simp only at hb hr he hm ⊢
 have hout:=QgI ss hr
 rw [Qo7] at hp
 by_cases hon:(selB w b (!b))=true
 ·have hbw:b=w:=by cases b <;> cases w <;> simp [selB] at hon ⊢
  have hp:=hp hon
  rw [Qb6] at hp
  obtain ⟨l',h1,h2⟩:=Qhu hΓ ss (g:=some (s,w)) hr hp.1 (by show lkT t s=_;rw [hb,hbw]) q2
  have hs1:lkT t1 s = .c .bool b:=by rw [hout s q2,hb]
  have hd1:=QhF hΓ he hp.2
  rw [hon] at hm
  have hbl:=Ql6 hm
  subst hbl
  have hs2:lkT ((d2,v)::t1) s = .c .bool b:=by rw [Yd];simp [upd,q3,hs1]
  have hd:Qh ΓA (Opd.ev fun s=>(lkT ((d2,v)::t1) s).emb) (fun i=>(lkB (bl'.reverse++h) i).emb) (nx+16*(i+(lenL ss+1))) (ZD w s x).er=some ⟨.c (.v (.bool (selB w (b&&xv) (b||xv)))),[]⟩:=by
   subst hbw
   have e1:(TOpd.s s).ev (lkT ((d2,v)::t1)) = .c .bool b:=hs2
   cases b
   ·simp only [ZD,Bool.false_eq_true,if_false,TOp.er,Qh,QQ,e1,hv]
    rfl
   ·simp only [ZD,if_true,TOp.er,Qh,QQ,e1,hv]
    rfl
  refine ⟨l'++[(acc (Opd.ev fun s=>(lkT t1 s).emb) o.er,bl'.map Prod.fst),(acc (Opd.ev fun s=>(lkT ((d2,v)::t1) s).emb) (ZD w s x).er,[])],?_,h2.append ⟨rfl,fun k a ha=>?_⟩⟩
  ·simp only [TStm.er,Jp,h1,QY,Qdc (ΓA:=ΓA) (g:=some (s,w)) (t:=t1) (by show lkT t1 s=_;rw [hs1,hbw]),hd1,TE.emb,← QiT]
   simp only [TSt.app,Qdc (ΓA:=ΓA) (g:=none) trivial,hd,QmS]
   refine congrArg some (Prod.ext ?_ rfl)
   rw [hon]
   unfold St.app TSt.emb TSt.T TSt.H
   simp only [putO,updL]
   congr 1
   funext j
   rw [Yd d,upd,upd]
   split
   ·rfl
   ·rw [QbN]
    split
    ·rfl
    ·rename_i hj
     rw [List.mem_append,List.mem_singleton,not_or] at hj
     rw [Yd,upd,if_neg hj.2,hout j hj.1]
  ·match k,ha with
   | 0,ha=>exact .inr ha
   | 1,ha =>
    left
    simp only [List.getElem?_cons_succ,List.getElem?_cons_zero,Option.some.injEq] at ha
    rw [← ha]
    cases w <;> rfl
   | k+2,ha=>simp at ha
 ·have hon':(selB w b (!b))=false:=by simpa using hon
  have hbw:b≠w:=by rintro rfl;cases b <;> simp [selB] at hon
  have hof:Off (fun s=>(lkT t s).emb) s w:=.inr ⟨b,by show (lkT t s).emb=_;rw [hb];rfl,hbw⟩
  obtain ⟨l',h1,h2,h3⟩:=QcQ (Γ:=ΓA) (h:=fun i=>(lkB h i).emb) (nx:=nx) ss [] i s w (fun s=>(lkT t s).emb) q1 (by simp) hof q2
  have hst:=fun op dd off=>Qj8 (Γ:=ΓA) (d:=dd) (op:=op) (off:=off) (σ:=⟨offT (QF ss) (fun s=>(lkT t s).emb),fun i=>(lkB h i).emb,nx⟩) (hof.offT _ q2)
  rw [hon'] at hm
  have hbl:=Qus hm
  have hs1:offT (QF ss++[d2]) (fun s=>(lkT t s).emb) s = .c (.v (.bool b)):=by
   have:s∉QF ss++[d2]:=by simp [q2,q3]
   simp only [offT,this,if_false,hb];rfl
  refine ⟨l'++[([],[]),([],[])],?_,(ZJ.off (by rw [h2,Qsf hr]) h3).append ⟨rfl,fun k a ha=>.inl ?_⟩⟩
  rotate_left
  ·match k,ha with
   | 0,ha=>simpa using ha.symm
   | 1,ha=>simpa using ha.symm
   | k+2,ha=>simp at ha
  simp only [TStm.er,Jp]
  rw [show TSt.emb ⟨t,h,nx⟩=⟨fun s=>(lkT t s).emb,fun i=>(lkB h i).emb,nx⟩ from rfl,h1]
  simp only [QY,hst,putO]
  rw [QbZ,← QeX]
  have hd:Qh ΓA (Opd.ev (offT (QF ss++[d2]) fun s=>(lkT t s).emb)) (fun i=>(lkB h i).emb) (nx+16*(i+(lenL ss+1))) (ZD w s x).er=some ⟨.c (.v (.bool (selB w (b&&xv) (b||xv)))),[]⟩:=by
   cases w <;> cases b <;> first
    | exact absurd rfl hbw
    | (simp only [ZD,Bool.false_eq_true,if_false,if_true,TOp.er,Qh,TOpd.er,Opd.ev,hs1];rfl)
  have hacc:acc (Opd.ev (offT (QF ss++[d2]) fun s=>(lkT t s).emb)) (ZD w s x).er=[]:=by cases w <;> rfl
  simp only [QP,hd,keys,List.map_nil,hacc,hon']
  congr 2
  unfold St.app TSt.emb TSt.T TSt.H
  simp only [putO,updL,QhO,hbl]
  congr 1
  funext j
  rw [Yd,upd,upd]
  split
  ·rfl
  ·rw [QbN]
   simp only [offT]
   split
   ·rfl
   ·rfl
include hΓ in
theorem Qcw:∀ (ss:List TStm) {i:Nat} {σ σ':TSt} {p:Option Prop} {l:Log},runR Γ i ss σ=some (p,σ',l)→holds p→∃ l',QY ΓA (erL none i ss) σ.emb=some (σ'.emb,l')∧ZJ l' l
 | [],i,σ,σ',p,l,e,hp=>by rw [runR] at e;cases e;exact ⟨[],rfl,.refl _⟩
 | .op d o::r,i,σ,σ',p,l,e,hp=>by
  rw [runR] at e
  split at e
  rotate_left
  ·cases e
  rename_i pre v bl he
  split at e
  rotate_left
  ·cases e
  rename_i q σ2 m h2
  cases e
  rw [Qb6] at hp
  have h1:=QhF hΓ he hp.1
  obtain ⟨l',h3,h4⟩:=Qcw r h2 hp.2
  refine ⟨(acc (Opd.ev fun s=>(σ.T s).emb) o.er,bl.map Prod.fst)::l',?_,(ZJ.refl [(acc (Opd.ev fun s=>(σ.T s).emb) o.er,bl.map Prod.fst)]).append h4⟩
  obtain ⟨t,h,nx⟩:=σ
  simp only [erL,TStm.er,TStm.len,List.singleton_append,QY,Qdc (ΓA:=ΓA) (g:=none) (t:=t) trivial]
  have h1:Qh ΓA (Opd.ev fun s=>(lkT t s).emb) (fun i=>(lkB h i).emb) (nx+16*i) o.er=some (TE.emb ⟨pre,v,bl⟩):=h1
  rw [h1]
  simp only [TE.emb,QmS,← QiT,h3]
  rfl
 | .grp s w ss d x::r,i,σ,σ',p,l,e,hp=>by
  rw [runR] at e
  split at e
  rotate_left
  ·cases e
  rename_i p1 t1 l1 h1
  split at e
  rotate_left
  ·cases e
  rename_i q σ2 m h2
  cases e
  rw [Qb6] at hp
  obtain ⟨t,h,nx⟩:=σ
  obtain ⟨l1',h3,h4⟩:=QqD hΓ _ (g:=none) h1 hp.1 trivial trivial
  obtain ⟨l',h5,h6⟩:=Qcw r h2 hp.2
  refine ⟨l1'++l',?_,h4.append h6⟩
  simp only [erL,Jp,h3]
  rw [show (TStm.grp s w ss d x).len=lenL ss+1 from by rw [TStm.len],h5]
 | .gw s w ss d2 o d x::r,i,σ,σ',p,l,e,hp=>by
  rw [runR] at e
  split at e
  rotate_left
  ·cases e
  rename_i p1 σ1 l1 h1
  split at e
  rotate_left
  ·cases e
  rename_i q σ2 m h2
  cases e
  rw [Qb6] at hp
  obtain ⟨l1',h3,h4⟩:=Qyd hΓ h1 hp.1
  obtain ⟨l',h5,h6⟩:=Qcw r h2 hp.2
  refine ⟨l1'++l',?_,h4.append h6⟩
  simp only [erL,Jp,h3]
  rw [show (TStm.gw s w ss d2 o d x).len=lenL ss+2 from by rw [TStm.len],h5]
end
theorem QrW {Γ:Tab} {K:St→Prop}:∀ (l:List AO) {σ σ':St} {log:Log},QY Γ l σ=some (σ',log)→K σ'→regK Γ l K σ
 | [],σ,σ',log,e,hk=>by simp only [QY,Option.some.injEq,Prod.mk.injEq] at e;rw [e.1];exact hk
 | o::l,σ,σ',log,e,hk=>by
  simp only [QY] at e
  split at e
  rotate_left
  ·cases e
  rename_i σ1 a w h1
  split at e
  rotate_left
  ·cases e
  rename_i σ2 m h2
  cases e
  have ih:=QrW l h2 hk
  unfold QP at h1
  rw [regK]
  clear h2
  split at h1
  ·rename_i hg
   split at h1
   rotate_left
   ·cases h1
   rename_i e he
   cases h1
   exact ih
  ·rename_i s wt hg
   split at h1
   ·rename_i c hc
    split at h1
    ·rename_i hcw
     split at h1
     rotate_left
     ·cases h1
     rename_i e he
     cases h1
     exact ⟨fun _=>ih,fun hn=>absurd hcw hn⟩
    ·rename_i hcw
     cases h1
     exact ⟨fun h=>absurd h hcw,fun _=>ih⟩
   ·rename_i hc
    cases h1
    exact ih
   ·cases h1
end Go.Proofs.YtdplaepmjogjjaaGreat.Am

