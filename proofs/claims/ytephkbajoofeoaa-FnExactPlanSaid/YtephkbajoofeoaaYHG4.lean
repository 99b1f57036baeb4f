/- -/
import Derived.Test.YtephkbajoofeoaaYHG3
set_option linter.all false
namespace Go.Proofs.Ytephkbajoofeoaa.Am
open Go Go.RowKit
inductive CT where
 | int (k:IntKind)
 | bool
 | str
 | nilp
 | sl (ts:List CT)
def Jz (A:Type):List CT→Type→Type
 | [],_=>A
 | _::_,B=>A × B
mutual
@[reducible] def CT.den:CT→Type
 | .int _=>Int
 | .bool=>Bool
 | .str=>ByteArray
 | .nilp=>Unit
 | .sl ts=>List (Tup ts)
@[reducible] def Tup:List CT→Type
 | []=>Unit
 | t::ts=>Jz t.den ts (Tup ts)
end
def hd {A:Type}:(ts:List CT)→{B:Type}→Jz A ts B→A
 | [],_,x=>x
 | _::_,_,x=>x.1
def tl {A:Type}:(ts:List CT)→Jz A ts (Tup ts)→Tup ts
 | [],_=>()
 | _::_,x=>x.2
def mkT {A:Type}:(ts:List CT)→A→Tup ts→Jz A ts (Tup ts)
 | [],a,_=>a
 | _::_,a,b=>(a,b)
mutual
def enc:(t:CT)→t.den→D
 | .int k,x=>.v (.int k x)
 | .bool,b=>.v (.bool b)
 | .str,s=>.v (.string s)
 | .nilp,_=>.v (.pointer none)
 | .sl ts,l=>.sl ts.length (List.map (encs ts) l)
def encs:(ts:List CT)→Tup ts→List D
 | [],_=>[]
 | t::ts,x=>enc t (hd ts x)::encs ts (tl ts x)
end
mutual
def CT.beq:CT→CT→Bool
 | .int k,.int k'=>decide (k=k')
 | .bool,.bool=>true
 | .str,.str=>true
 | .nilp,.nilp=>true
 | .sl a,.sl b=>CT.beqL a b
 | _,_=>false
def CT.beqL:List CT→List CT→Bool
 | [],[]=>true
 | x::xs,y::ys=>x.beq y&&CT.beqL xs ys
 | _,_=>false
end
mutual
def CT.dft:(t:CT)→t.den
 | .int _=>(0:Int)
 | .bool=>false
 | .str=>⟨#[]⟩
 | .nilp=>()
 | .sl ts=>([]:List (Tup ts))
def Tup.dft:(ts:List CT)→Tup ts
 | []=>()
 | t::ts=>mkT ts t.dft (Tup.dft ts)
end
mutual
theorem CT.beq_eq:∀ (a b:CT),a.beq b=true→a=b
 | .int k,.int k',h=>by simp [CT.beq] at h;rw [h]
 | .bool,.bool,_=>rfl
 | .str,.str,_=>rfl
 | .nilp,.nilp,_=>rfl
 | .sl a,.sl b,h=>by simp only [CT.beq] at h;rw [CT.beqL_eq a b h]
 | .int _,.bool,h=>by simp [CT.beq] at h
 | .int _,.str,h=>by simp [CT.beq] at h
 | .int _,.sl _,h=>by simp [CT.beq] at h
 | .bool,.int _,h=>by simp [CT.beq] at h
 | .bool,.str,h=>by simp [CT.beq] at h
 | .bool,.sl _,h=>by simp [CT.beq] at h
 | .str,.int _,h=>by simp [CT.beq] at h
 | .str,.bool,h=>by simp [CT.beq] at h
 | .str,.sl _,h=>by simp [CT.beq] at h
 | .sl _,.int _,h=>by simp [CT.beq] at h
 | .sl _,.bool,h=>by simp [CT.beq] at h
 | .sl _,.str,h=>by simp [CT.beq] at h
 | .int _,.nilp,h=>by simp [CT.beq] at h
 | .nilp,.int _,h=>by simp [CT.beq] at h
 | .bool,.nilp,h=>by simp [CT.beq] at h
 | .nilp,.bool,h=>by simp [CT.beq] at h
 | .str,.nilp,h=>by simp [CT.beq] at h
 | .nilp,.str,h=>by simp [CT.beq] at h
 | .sl _,.nilp,h=>by simp [CT.beq] at h
 | .nilp,.sl _,h=>by simp [CT.beq] at h
theorem CT.beqL_eq:∀ (a b:List CT),CT.beqL a b=true→a=b
 | [],[],_=>rfl
 | x::xs,y::ys,h=>by simp only [CT.beqL,Bool.and_eq_true] at h;rw [CT.beq_eq x y h.1,CT.beqL_eq xs ys h.2]
 | [],_::_,h=>by simp [CT.beqL] at h
 | _::_,[],h=>by simp [CT.beqL] at h
end
inductive TV where
 | u
 | c (t:CT) (x:t.den)
 | n (ts:List CT)
 | r (ts:List CT) (id off len:Nat)
 | p (id i j:Nat)
 | q (ts:List CT) (x:Tup ts) (j:Nat)
 | a (cs:List TV)
 | tp (vs:List TV)
 | bx (cs:List TV)
 | ow (e:TypeId) (ts:List CT) (es:List (Tup ts))
 | g (b:Bool) (v:TV)
inductive TBlk where
 | none
 | dead
 | box (cs:List TV)
 | sl (e:TypeId) (ts:List CT) (m:Bool) (es:List (Tup ts))
def TV.emb1:TV→AV
 | .c t x=>.c (enc t x)
 | .n ts=>.n ts.length
 | .r ts id off len=>.r ts.length id off len
 | .p id i j=>.p id i j
 | .q ts x j=>.q (encs ts x) j
 | .ow e ts es=>.ow e ts.length (es.map (encs ts))
 | _=>.u
def TV.emb2:TV→AV
 | .a cs=>.a (cs.map TV.emb1)
 | x=>x.emb1
def TV.emb:TV→AV
 | .tp vs=>.t (vs.map TV.emb2)
 | .bx cs=>.bx (cs.map TV.emb1)
 | .g b v=>bif b then v.emb else .t []
 | x=>x.emb2
def TBlk.emb:TBlk→Blk
 | .none=>.none
 | .dead=>.dead
 | .box cs=>.box (cs.map TV.emb1)
 | .sl e ts m es=>.sl e ts.length m (es.map (encs ts))
def lkT:List (Nat × TV)→Nat→TV
 | [],_=>.u
 | (j,x)::r,i=>bif Nat.beq i j then x else lkT r i
def lkB:List (Nat × TBlk)→Nat→TBlk
 | [],_=>.none
 | (j,x)::r,i=>bif Nat.beq i j then x else lkB r i
structure TSt where
 t:List (Nat × TV)
 h:List (Nat × TBlk)
 nx:Nat
def TSt.T (σ:TSt):Nat→TV:=lkT σ.t
def TSt.H (σ:TSt):Nat→TBlk:=lkB σ.h
def TSt.emb (σ:TSt):St:=⟨fun s=>(σ.T s).emb,fun i=>(σ.H i).emb,σ.nx⟩
inductive TOpd where
 | s (i:Nat)
 | k (x:TV)
def TOpd.ev (T:Nat→TV):TOpd→TV
 | .s i=>T i
 | .k x=>x
def TOpd.er:TOpd→Opd
 | .s i=>.s i
 | .k x=>.k x.emb
inductive TOp where
 | mov (x:TOpd)
 | pick (c x y:TOpd)
 | bin (op:BinOp) (x y:TOpd)
 | cmpa (n:Nat) (neg:Bool) (x y:TOpd)
 | eqb (neg:Bool) (x y:TOpd)
 | not (x:TOpd)
 | neg (x:TOpd)
 | new (e:TypeId) (zs:List TV)
 | box (e:TypeId) (x:TOpd) (n:Nat)
 | load (x:TOpd) (n:Nat) (agg:Bool)
 | store (x v:TOpd) (n:Nat)
 | fad (x:TOpd) (off:Nat)
 | iad (x i:TOpd) (ts:List CT)
 | fld (x:TOpd) (off n:Nat) (agg:Bool)
 | build (zs:List TV) (ps:List (Nat × Nat × TOpd))
 | bsl (e:TypeId) (ts:List CT) (ps:List TOpd)
 | mk (e:TypeId) (ts:List CT) (zs:List TV) (n:TOpd)
 | slc (x:TOpd) (lo hi:Option TOpd) (ts:List CT)
 | len (x:TOpd)
 | app (s x:TOpd) (e:TypeId) (ts:List CT)
 | mm (mx:Bool) (x y:TOpd)
 | call (f:FuncId) (args:List TOpd)
 | ext (x:TOpd) (i:Nat)
 | conv (k:IntKind) (x:TOpd)
 | nilc (x:TOpd)
def erP (p:Nat × Nat × TOpd):Nat × Nat × Opd:=(p.1,p.2.1,p.2.2.er)
def erO:Option TOpd→Option Opd
 | some x=>some x.er
 | none=>none
def TOp.er:TOp→AOp
 | .mov x=>.mov x.er
 | .pick c x y=>.pick c.er x.er y.er
 | .bin op x y=>.bin op x.er y.er
 | .cmpa n g x y=>.cmpa n g x.er y.er
 | .eqb g x y=>.eqb g x.er y.er
 | .not x=>.not x.er
 | .neg x=>.neg x.er
 | .new e zs=>.new e (zs.map TV.emb1)
 | .box e x n=>.box e x.er n
 | .load x n agg=>.load x.er n agg
 | .store x v n=>.store x.er v.er n
 | .fad x off=>.fad x.er off
 | .iad x i ts=>.iad x.er i.er ts.length
 | .fld x off n agg=>.fld x.er off n agg
 | .build zs ps=>.build (zs.map TV.emb1) (ps.map erP)
 | .bsl e ts ps=>.bsl e ts.length (ps.map TOpd.er)
 | .mk e ts zs n=>.mk e ts.length (zs.map TV.emb1) n.er
 | .slc x lo hi ts=>.slc x.er (erO lo) (erO hi) ts.length
 | .len x=>.len x.er
 | .app s x e ts=>.app s.er x.er e ts.length
 | .mm mx x y=>.mm mx x.er y.er
 | .call f args=>.call f (args.map TOpd.er)
 | .ext x i=>.ext x.er i
 | .conv k x=>.conv k x.er
 | .nilc x=>.nilc x.er
structure TE where
 pre:Option Prop
 val:TV
 blks:List (Nat × TBlk)
def andP:Option Prop→Prop→Prop
 | none,k=>k
 | some p,k=>p∧k
def holds:Option Prop→Prop
 | none=>True
 | some p=>p
inductive Sh where
 | c (t:CT)
 | a (ts:List CT)
 | b (ts:List CT)
 | o (e:TypeId) (ts:List CT)
def Sh.md:Sh→Bool
 | .o _ _=>true
 | _=>false
def mdOf (sg:List Sh):List Bool:=sg.map Sh.md
def ctL:List TV→Option (List CT)
 | []=>some []
 | .c t _::r=>match ctL r with
  | some ts=>some (t::ts)
  | none=>none
 | _=>none
def Sh.fits:Sh→TV→Bool
 | .c t,.c t' _=>t'.beq t
 | .a ts,.a cs=>match ctL cs with
  | some ts'=>CT.beqL ts' ts
  | none=>false
 | .b ts,.bx cs=>match ctL cs with
  | some ts'=>CT.beqL ts' ts
  | none=>false
 | .o e ts,.ow e' ts' _=>Nat.beq e' e&&CT.beqL ts' ts
 | _,_=>false
def Qy:List Sh→List TV→Bool
 | [],[]=>true
 | s::ss,x::xs=>s.fits x&&Qy ss xs
 | _,_=>false
structure TRes where
 v:TV
 hb:List TBlk
 bx:List (List TV)
 al:Bool
 gv:List TBlk
structure TRow where
 f:FuncId
 sg:List Sh
 fn:List TV→Option (Option Prop × TRes)
def Zb:List TRow→FuncId→Option TRow
 | [],_=>none
 | r::rs,f=>bif Nat.beq r.f f then some r else Zb rs f
def YX {ts ts':List CT} (e:CT.beqL ts ts'=true) (l:List (Tup ts)):List (Tup ts'):=CT.beqL_eq ts ts' e ▸ l
def YT {t t':CT} (e:t.beq t'=true) (x:t.den):t'.den:=CT.beq_eq t t' e ▸ x
def TV.dat (h:Nat→TBlk) (t:CT):TV→Option t.den
 | .c t' x=>if e:t'.beq t=true then some (YT e x) else none
 | .n ts=>match t with
  | .sl ts'=>bif CT.beqL ts ts' then some ([]:List (Tup ts')) else none
  | _=>none
 | .r _ id off len=>match t with
  | .sl ts'=>match h id with
   | .sl _ ts _ es=>if e:CT.beqL ts ts'=true then some (((YX e es).drop off).take len) else none
   | _=>none
  | _=>none
 | _=>none
def TV.datC (h:Nat→TBlk):TV→Option TV
 | .c t x=>some (.c t x)
 | .n ts=>some (.c (.sl ts) [])
 | .r _ id off len=>match h id with
  | .sl _ ts _ es=>some (.c (.sl ts) ((es.drop off).take len))
  | _=>none
 | _=>none
def TV.datL (h:Nat→TBlk):List TV→Option (List TV)
 | []=>some []
 | x::xs=>match x.datC h,TV.datL h xs with
  | some d,some ds=>some (d::ds)
  | _,_=>none
def Tup.cells:(ts:List CT)→Tup ts→List TV
 | [],_=>[]
 | t::ts,x=>.c t (hd ts x)::Tup.cells ts (tl ts x)
def Tup.of (h:Nat→TBlk):(ts:List CT)→List TV→Option (Tup ts)
 | [],xs=>match xs with
  | []=>some ()
  | _=>none
 | t::ts,xs=>match xs with
  | x::xs=>match x.dat h t,Tup.of h ts xs with
   | some a,some b=>some (mkT ts a b)
   | _,_=>none
  | []=>none
def TV.cells:TV→List TV
 | .a cs=>cs
 | x=>[x]
def TV.one:TV→Bool
 | .c _ _ | .n _ | .r .. | .p .. | .q ..=>true
 | _=>false
def TV.st:TV→Bool
 | .a _=>true
 | x=>x.one
def TV.ref1:TV→List Nat
 | .r _ id _ _=>[id]
 | _=>[]
def TV.refsL:List TV→List Nat
 | []=>[]
 | x::xs=>x.ref1++TV.refsL xs
def TV.refs:TV→List Nat
 | .a cs=>TV.refsL cs
 | .g b v=>bif b then v.refs else []
 | x=>x.ref1
def TV.lent:TV→List Nat
 | .p id _ _=>[id]
 | .g b v=>bif b then v.lent else []
 | _=>[]
def fzT:TBlk→TBlk
 | .sl e ts _ es=>.sl e ts false es
 | b=>b
def frzT (h:Nat→TBlk):List Nat→List (Nat × TBlk)
 | []=>[]
 | id::ids=>(id,fzT (h id))::frzT h ids
def Yd (agg:Bool) (cs:List TV):Option TV :=
 if agg then some (.a cs) else match cs with
  | [x]=>bif x.one then some x else none
  | _=>none
def TBlk.alive:TBlk→Bool
 | .box _=>true
 | .sl ..=>true
 | _=>false
def Yc:List TV→Option (List Int)
 | []=>some []
 | .c (.int .i64) x::r=>match Yc r with
  | some l=>some (x::l)
  | none=>none
 | _=>none
def Qbd:TV→Option Int
 | .c (.int _) x=>some x
 | _=>none
def ZU (T:Nat→TV) (m:Int):Option TOpd→Option Int
 | some l=>Qbd (l.ev T)
 | none=>some m
def targ (h:Nat→TBlk):TV→Option TV
 | .a cs=>match TV.datL h cs with
  | some ds=>some (.a ds)
  | none=>none
 | .p id 0 0=>match h id with
  | .box cs=>match TV.refsL cs with
   | []=>match TV.datL h cs with
    | some ds=>some (.bx ds)
    | none=>none
   | _=>none
  | _=>none
 | x=>x.datC h
def Yk (h:Nat→TBlk):List TV→Option (List TV)
 | []=>some []
 | x::xs=>match targ h x,Yk h xs with
  | some d,some ds=>some (d::ds)
  | _,_=>none
def mixP:Option Prop→Option Prop→Option Prop
 | none,q=>q
 | some p,none=>some p
 | some p,some q=>some (p∧q)
def Qan (h:Nat→TBlk):TV→Option (Option Prop × TV)
 | .r ts id 0 len=>match h id with
  | .sl e ts' true es=>bif CT.beqL ts' ts then some (some (len=es.length),.ow e ts' es) else none
  | _=>none
 | _=>none
def ZA (h:Nat→TBlk):List Bool→List TV→Option (Option Prop × List TV)
 | [],xs=>match Yk h xs with
  | some ds=>some (none,ds)
  | none=>none
 | m::ms,xs=>match xs with
  | []=>some (none,[])
  | x::xs=>match m with
   | true=>match Qan h x,ZA h ms xs with
    | some (p,d),some (q,ds)=>some (mixP p q,d::ds)
    | _,_=>none
   | false=>match targ h x,ZA h ms xs with
    | some d,some (q,ds)=>some (q,d::ds)
    | _,_=>none
def Zt:List Bool→List TV→List TV
 | [],_=>[]
 | m::ms,xs=>match xs with
  | []=>[]
  | x::xs=>bif m then x::Zt ms xs else Zt ms xs
def Zj:List Bool→List TV→List TV
 | [],xs=>xs
 | m::ms,xs=>match xs with
  | []=>[]
  | x::xs=>bif m then Zj ms xs else x::Zj ms xs
def JC:List Nat→List TBlk→List (Nat × TBlk)
 | id::ids,x::xs=>(id,x)::JC ids xs
 | _,_=>[]
def Jp:List Nat→List Nat→Bool
 | [],_=>true
 | x::xs,ys=>(ys.all fun y=>!Nat.beq x y)&&Jp xs ys
def TV.sh1 (b:Nat):TV→TV
 | .r ts id off len=>.r ts (id+b) off len
 | .p id i j=>.p (id+b) i j
 | .c t x=>.c t x
 | .n ts=>.n ts
 | .q ts x j=>.q ts x j
 | _=>.u
def TV.sh2 (b:Nat):TV→TV
 | .a cs=>.a (cs.map (TV.sh1 b))
 | x=>x.sh1 b
def TV.sh (b:Nat):TV→TV
 | .tp vs=>.tp (vs.map (TV.sh2 b))
 | .g d v=>.g d (v.sh b)
 | x=>x.sh2 b
def TBlk.sh (b:Nat):TBlk→TBlk
 | .box cs=>.box (cs.map (TV.sh1 b))
 | x=>x
def Y1 (b:Nat):List TBlk→List (Nat × TBlk)
 | []=>[]
 | x::xs=>(b,x)::Y1 (b+1) xs
def JB:List Nat→List (List TV)→List (Nat × TBlk)
 | id::ids,cs::css=>(id,.box cs)::JB ids css
 | _,_=>[]
def YM (T:Nat→TV):List TV→List (Nat × Nat × TOpd)→Option (List TV)
 | cs,[]=>some cs
 | cs,(off,n,x)::r =>
  bif Nat.beq (x.ev T).cells.length n&&Nat.ble (off+n) cs.length&&(x.ev T).st then YM T (splice cs off (x.ev T).cells) r else none
def YA (h:Nat→TBlk) (T:Nat→TV) (ts:List CT):List TOpd→Option (List (Tup ts))
 | []=>some []
 | x::r=>match Tup.of h ts (x.ev T).cells,YA h T ts r with
  | some e,some es=>some (e::es)
  | _,_=>none
def Yb:List Nat→Bool
 | []=>true
 | x::xs=>!(xs.elem x)&&Yb xs
def tcut (l:List TV) (j n:Nat):Option (List TV):=bif Nat.ble (j+n) l.length then some ((l.drop j).take n) else none
def tbin (op:BinOp):TV→TV→Option TE
 | .c (.int k) x,.c (.int k') y =>
  match op with
  | .shl=>some ⟨some ((0:Int)≤y),.c (.int k) (k.wrap (x*2 ^ (min (Int.toNat y) k.bits))),[]⟩
  | .shr=>some ⟨some ((0:Int)≤y),.c (.int k) (Int.fdiv x (2 ^ (min (Int.toNat y) k.bits))),[]⟩
  | op=>if k=k' then (match op with
   | .add=>some ⟨none,.c (.int k) (k.wrap (x+y)),[]⟩
   | .sub=>some ⟨none,.c (.int k) (k.wrap (x-y)),[]⟩
   | .mul=>some ⟨none,.c (.int k) (k.wrap (x*y)),[]⟩
   | .quo=>some ⟨some (¬ (y:Int)=0),.c (.int k) (k.wrap (Int.tdiv x y)),[]⟩
   | .rem=>some ⟨some (¬ (y:Int)=0),.c (.int k) (Int.tmod x y),[]⟩
   | .and=>some ⟨none,.c (.int k) (k.wrap ((BitVec.ofInt k.bits x &&& BitVec.ofInt k.bits y).toNat)),[]⟩
   | .or=>some ⟨none,.c (.int k) (k.wrap ((BitVec.ofInt k.bits x ||| BitVec.ofInt k.bits y).toNat)),[]⟩
   | .xor=>some ⟨none,.c (.int k) (k.wrap ((BitVec.ofInt k.bits x ^^^ BitVec.ofInt k.bits y).toNat)),[]⟩
   | .eql=>some ⟨none,.c .bool ((x:Int)==y),[]⟩
   | .neq=>some ⟨none,.c .bool ((x:Int) != y),[]⟩
   | .lss=>some ⟨none,.c .bool (decide ((x:Int)<y)),[]⟩
   | .leq=>some ⟨none,.c .bool (decide ((x:Int)≤y)),[]⟩
   | .gtr=>some ⟨none,.c .bool (decide ((x:Int)>y)),[]⟩
   | .geq=>some ⟨none,.c .bool (decide ((x:Int)≥y)),[]⟩
   | _=>none) else none
 | .c .str x,.c .str y=>match op with
  | .eql=>some ⟨none,.c .bool (ByteArray.toList x==ByteArray.toList y),[]⟩
  | .neq=>some ⟨none,.c .bool (!(ByteArray.toList x==ByteArray.toList y)),[]⟩
  | _=>none
 | _,_=>none
def selB {α:Type} (b:Bool) (x y:α):α:=match b with
 | true=>x
 | false=>y
def gt (ts:List CT) (l:List (Tup ts)) (i:Nat):Tup ts:=l.getD i (Tup.dft ts)
def Qh (Γ:List TRow) (T:Nat→TV) (h:Nat→TBlk) (b:Nat):TOp→Option TE
 | .mov x=>some ⟨none,x.ev T,[]⟩
 | .pick c x y=>match c.ev T,x.ev T,y.ev T with
  | .c .bool c,.c .bool x,.c .bool y=>some ⟨none,.c .bool (bif c then x else y),[]⟩
  | _,_,_=>none
 | .bin op x y=>tbin op (x.ev T) (y.ev T)
 | .cmpa n neg x y=>match x.ev T,y.ev T with
  | .a xs,.a ys=>match Yc xs,Yc ys with
   | some l,some m=>bif Nat.beq l.length n&&Nat.beq m.length n then some ⟨none,.c .bool (selB neg (!decide (l=m)) (decide (l=m))),[]⟩ else none
   | _,_=>none
  | _,_=>none
 | .eqb neg x y=>match x.ev T,y.ev T with
  | .c .bool x,.c .bool y=>some ⟨none,.c .bool (selB neg (!((x:Bool)==y)) ((x:Bool)==y)),[]⟩
  | _,_=>none
 | .not x=>match x.ev T with
  | .c .bool c=>some ⟨none,.c .bool (!c),[]⟩
  | _=>none
 | .neg x=>match x.ev T with
  | .c (.int k) n=>some ⟨none,.c (.int k) (k.wrap (0-n)),[]⟩
  | _=>none
 | .new _ zs=>some ⟨none,.p b 0 0,[(b,.box zs)]⟩
 | .box _ x n=>bif Nat.beq (x.ev T).cells.length n&&(x.ev T).st then some ⟨none,.p b 0 0,[(b,.box (x.ev T).cells)]⟩ else none
 | .load x n agg=>match x.ev T with
  | .p id i j=>match h id with
   | .box cs=>match i with
    | 0=>match tcut cs j n with
     | some l=>match Yd agg l with
      | some v=>some ⟨none,v,[]⟩
      | none=>none
     | none=>none
    | _=>none
   | .sl _ ts _ es=>match tcut (Tup.cells ts (gt ts es i)) j n with
    | some l=>match Yd agg l with
     | some v=>some ⟨some (i<es.length),v,[]⟩
     | none=>none
    | none=>none
   | _=>none
  | .q ts x j=>match tcut (Tup.cells ts x) j n with
   | some l=>match Yd agg l with
    | some v=>some ⟨none,v,[]⟩
    | none=>none
   | none=>none
  | _=>none
 | .store x v n=>bif Nat.beq (v.ev T).cells.length n&&(v.ev T).st then (match x.ev T with
  | .p id i j=>match h id with
   | .box cs=>match i with
    | 0=>bif Nat.ble (j+n) cs.length then some ⟨none,.u,[(id,.box (splice cs j (v.ev T).cells))]⟩ else none
    | _=>none
   | .sl e ts true es=>match Tup.of h ts (splice (Tup.cells ts (gt ts es i)) j (v.ev T).cells) with
    | some x=>bif Nat.ble (j+n) ts.length&&!((v.ev T).refs.elem id) then some ⟨some (i<es.length),.u,(id,.sl e ts true (es.set i x))::frzT h (v.ev T).refs⟩ else none
    | none=>none
   | _=>none
  | _=>none) else none
 | .fad x off=>match x.ev T with
  | .p id i j=>bif (h id).alive then some ⟨none,.p id i (j+off),[]⟩ else none
  | .q ts x j=>some ⟨none,.q ts x (j+off),[]⟩
  | _=>none
 | .iad x i ts=>match i.ev T with
  | .c (.int _) i=>match x.ev T with
   | .c (.sl ts') l=>bif CT.beqL ts' ts then some ⟨some ((0:Int)≤i∧Int.toNat i<List.length l),.q ts' (gt ts' l (Int.toNat i)) 0,[]⟩ else none
   | .r ts' id off len=>bif CT.beqL ts' ts&&(h id).alive then some ⟨some ((0:Int)≤i∧Int.toNat i<len),.p id (off+Int.toNat i) 0,[]⟩ else none
   | _=>none
  | _=>none
 | .fld x off n agg=>match x.ev T with
  | .a cs=>match tcut cs off n with
   | some l=>match Yd agg l with
    | some v=>some ⟨none,v,[]⟩
    | none=>none
   | none=>none
  | _=>none
 | .build zs ps=>match YM T zs ps with
  | some cs=>some ⟨none,.a cs,[]⟩
  | none=>none
 | .bsl e ts ps=>match YA h T ts ps with
  | some es=>some ⟨none,.r ts b 0 es.length,(b,.sl e ts true es)::frzT h (ps.flatMap fun x=>(x.ev T).refs)⟩
  | none=>none
 | .mk e ts zs n=>match n.ev T,Tup.of h ts zs with
  | .c (.int _) n,some z=>some ⟨some ((0:Int)≤n∧n≤big),.r ts b 0 (Int.toNat n),[(b,.sl e ts true (List.replicate (Int.toNat n) z))]⟩
  | _,_=>none
 | .slc x lo hi ts =>
  match ZU T 0 lo with
  | some lo=>match x.ev T with
   | .c (.sl ts') l=>match ZU T (List.length l) hi with
    | some hi=>bif CT.beqL ts' ts then some ⟨some (0≤lo∧lo≤hi∧hi≤List.length l),.c (.sl ts') (List.take (hi.toNat-lo.toNat) (List.drop lo.toNat l)),[]⟩ else none
    | none=>none
   | .r ts' id off len=>match ZU T len hi with
    | some hi=>bif CT.beqL ts' ts&&(h id).alive then some ⟨some (0≤lo∧lo≤hi∧hi≤len),.r ts' id (off+lo.toNat) (hi.toNat-lo.toNat),[]⟩ else none
    | none=>none
   | .n _=>match ZU T 0 hi with
    | some hi=>some ⟨some (lo=0∧hi=0),.n ts,[]⟩
    | none=>none
   | _=>none
  | none=>none
 | .len x=>match x.ev T with
  | .c (.sl _) l=>some ⟨none,.c (.int .i64) (List.length l:Int),[]⟩
  | .n _=>some ⟨none,.c (.int .i64) (0:Int),[]⟩
  | .r _ id _ len=>bif (h id).alive then some ⟨none,.c (.int .i64) (len:Int),[]⟩ else none
  | _=>none
 | .app s x e ts=>match (x.ev T).dat h (.sl ts) with
  | some xs=>match s.ev T with
   | .n _=>some ⟨some (List.length xs≤big),.r ts b 0 (List.length xs),[(b,.sl e ts true xs)]⟩
   | .r _ id 0 len=>match h id with
    | .sl e' ts' true es=>if q:CT.beqL ts' ts=true then (bif Nat.beq e' e then
      some ⟨some ((len=es.length∨len+List.length xs≤es.length)∧len+List.length xs≤big),.r ts b 0 (len+List.length xs),[(id,.dead),(b,.sl e ts true ((YX q es).take len++xs))]⟩ else none) else none
    | _=>none
   | _=>none
  | none=>none
 | .mm mx x y=>match x.ev T,y.ev T with
  | .c (.int k) x,.c (.int _) y=>some ⟨none,.c (.int k) (selB mx (if (x:Int)<y then y else x) (if (y:Int)<x then y else x)),[]⟩
  | _,_=>none
 | .call f args=>match Zb Γ f with
  | some row=>match ZA h (mdOf row.sg) (args.map fun x=>x.ev T) with
   | some (p0,vs)=>bif Qy row.sg vs then (match row.fn vs with
    | some (pre,r)=>bif Nat.ble r.hb.length 16&&((r.bx.isEmpty&&r.gv.isEmpty)||r.al)&&Yb ((Zj (mdOf row.sg) (args.map fun x=>x.ev T)).flatMap TV.lent) &&
       Yb ((Zt (mdOf row.sg) (args.map fun x=>x.ev T)).flatMap TV.refs)&&Jp ((Zt (mdOf row.sg) (args.map fun x=>x.ev T)).flatMap TV.refs) ((Zj (mdOf row.sg) (args.map fun x=>x.ev T)).flatMap TV.refs) then
      some ⟨mixP p0 pre,r.v.sh b,Y1 b (r.hb.map (TBlk.sh b))++JB ((Zj (mdOf row.sg) (args.map fun x=>x.ev T)).flatMap TV.lent) r.bx++JC ((Zt (mdOf row.sg) (args.map fun x=>x.ev T)).flatMap TV.refs) r.gv ++
       (if r.al then frzT h ((Zj (mdOf row.sg) (args.map fun x=>x.ev T)).flatMap TV.refs) else [])⟩ else none
    | none=>none) else none
   | none=>none
  | none=>none
 | .ext x i=>match x.ev T with
  | .tp vs=>match vs[i]? with
   | some v=>bif v.st then some ⟨none,v,[]⟩ else none
   | none=>none
  | _=>none
 | .conv k x=>match x.ev T with
  | .c (.int _) n=>some ⟨none,.c (.int k) (k.wrap n),[]⟩
  | _=>none
 | .nilc x=>match x.ev T with
  | .p id i j=>bif (h id).alive then some ⟨none,.p id i j,[]⟩ else none
  | .q ts x j=>some ⟨none,.q ts x j,[]⟩
  | _=>none
end Go.Proofs.Ytephkbajoofeoaa.Am
namespace Go.Proofs.Ytephkbajoofeoaa.Am
open Go Go.RowKit
@[simp] theorem QeJ {ts:List CT} (e:CT.beqL ts ts=true) (l:List (Tup ts)):YX e l=l:=rfl
@[simp] theorem Qh9 {t:CT} (e:t.beq t=true) (x:t.den):YT e x=x:=rfl
theorem TBlk.emb_sl {e:TypeId} {ts:List CT} {m:Bool} {es:List (Tup ts)}:(TBlk.sl e ts m es).emb = .sl e ts.length m (es.map (encs ts)):=rfl
theorem TBlk.emb_box {cs:List TV}:(TBlk.box cs).emb = .box (cs.map TV.emb1):=rfl
theorem TBlk.emb_dead:TBlk.dead.emb = .dead:=rfl
theorem Qn (T:Nat→TV) (o:TOpd):o.er.ev (fun s=>(T s).emb)=(o.ev T).emb:=by cases o <;> rfl
theorem YY {x:TV} (h:x.one=true):x.emb=x.emb1:=by cases x <;> first | rfl | simp [TV.one] at h
theorem Qa7 {x:TV} (h:x.st=true):x.emb.st=true:=by cases x <;> first | rfl | simp [TV.st,TV.one] at h
theorem JK {x:TV} (h:x.st=true):x.emb.cells=x.cells.map TV.emb1:=by cases x <;> first | rfl | simp [TV.st,TV.one] at h
theorem Qhn {x:TV}:x.emb1.ref1=x.ref1:=by cases x <;> rfl
theorem JO:∀ {xs:List TV},AV.refsL (xs.map TV.emb1)=TV.refsL xs
 | []=>rfl
 | x::xs=>by simp only [List.map_cons,AV.refsL,TV.refsL,Qhn,JO (xs:=xs)]
theorem Jj:∀ {x:TV},x.emb.refs=x.refs
 | .a cs=>JO
 | .g true v=>Jj (x:=v)
 | .g false v=>rfl
 | .u=>rfl
 | .c _ _=>rfl
 | .n _=>rfl
 | .r ..=>rfl
 | .p ..=>rfl
 | .q ..=>rfl
 | .tp _=>rfl
 | .bx _=>rfl
 | .ow ..=>rfl
theorem Qbs:∀ {x:TV},x.emb.lent=x.lent
 | .a cs=>rfl
 | .g true v=>Qbs (x:=v)
 | .g false v=>rfl
 | .u=>rfl
 | .c _ _=>rfl
 | .n _=>rfl
 | .r ..=>rfl
 | .p ..=>rfl
 | .q ..=>rfl
 | .tp _=>rfl
 | .bx _=>rfl
 | .ow ..=>rfl
theorem QeF {h:Nat→TBlk} {t:CT} {x:TV} {d:t.den} (e:x.dat h t=some d):x.one=true:=by
 cases x <;> first | rfl | simp [TV.dat] at e
theorem Qo {α:Type} {b:Bool} {x:Option α} {y:α} (h:(bif b then x else none)=some y):b=true∧x=some y:=by
 cases b with
 | true=>exact ⟨rfl,h⟩
 | false=>cases h
theorem Qdi {h:Nat→TBlk} {t:CT} {x:TV} {d:t.den} (e:x.dat h t=some d):x.emb1.d (fun i=>(h i).emb)=some (enc t d):=by
 cases x with
 | c t' x =>
  simp only [TV.dat] at e
  split at e
  ·rename_i q
   obtain rfl:=CT.beq_eq _ _ q
   cases e
   rfl
  ·cases e
 | n ts =>
  cases t with
  | sl ts' =>
   simp only [TV.dat] at e
   obtain ⟨q,e⟩:=Qo e
   obtain rfl:=CT.beqL_eq _ _ q
   cases e
   simp [TV.emb1,AV.d,enc]
  | _=>simp [TV.dat] at e
 | r ts id off len =>
  cases t with
  | sl ts' =>
   simp only [TV.dat] at e
   split at e
   rotate_left
   ·cases e
   rename_i hh
   split at e
   rotate_left
   ·cases e
   rename_i q
   obtain rfl:=CT.beqL_eq _ _ q
   cases e
   simp only [TV.emb1,AV.d,hh,TBlk.emb,QeJ,enc,List.map_take,List.map_drop]
  | _=>simp [TV.dat] at e
 | _=>simp [TV.dat] at e
theorem Y3 {A:Type} (ts:List CT) (a:A) (b:Tup ts):hd ts (mkT ts a b)=a:=by cases ts <;> rfl
theorem JJ {A:Type} (ts:List CT) (a:A) (b:Tup ts):tl ts (mkT ts a b)=b:=by cases ts <;> rfl
theorem JD {h:Nat→TBlk}:∀ (ts:List CT) (xs:List TV) (d:Tup ts),Tup.of h ts xs=some d→AV.ds (fun i=>(h i).emb) (xs.map TV.emb1)=some (encs ts d)∧xs.length=ts.length
 | [],xs,d,e=>by
  cases xs with
  | nil=>exact ⟨rfl,rfl⟩
  | cons x xs=>cases (show (none:Option (Tup []))=some d from e)
 | t::ts,xs,d,e=>by
  cases xs with
  | nil=>cases (show (none:Option (Tup (t::ts)))=some d from e)
  | cons x xs =>
   have e:(match x.dat h t,Tup.of h ts xs with | some a,some b=>some (mkT ts a b) | _,_=>none)=some d:=e
   split at e
   rotate_left
   ·cases e
   rename_i a b ha hb
   cases e
   have h1:=Qdi (t:=t) ha
   obtain ⟨h2,h3⟩:=JD ts xs b hb
   rw [encs,Y3,JJ]
   simp only [List.map_cons,AV.ds,h1,h2,List.length_cons,h3,and_self]
theorem Yi:∀ (ts:List CT) (x:Tup ts),(encs ts x).length=ts.length
 | [],x=>by rw [encs];rfl
 | t::ts,x=>by rw [encs,List.length_cons,List.length_cons,Yi ts]
theorem Jq:∀ (ts:List CT) (x:Tup ts),(Tup.cells ts x).map TV.emb1=(encs ts x).map AV.c
 | [],x=>by rw [encs,Tup.cells];rfl
 | t::ts,x=>by rw [encs,Tup.cells,List.map_cons,List.map_cons,Jq ts];rfl
theorem J1 {α β:Type} (f:α→β) (l:List α) (j:Nat) (xs:List α):(splice l j xs).map f=splice (l.map f) j (xs.map f):=by
 simp [splice]
theorem Qcn {h:Nat→TBlk} {x y:TV} (e:x.datC h=some y):x.one=true∧∃ t d,y = .c t d∧x.emb1.d (fun i=>(h i).emb)=some (enc t d):=by
 cases x with
 | c t x=>simp only [TV.datC,Option.some.injEq] at e;subst e;exact ⟨rfl,t,x,rfl,rfl⟩
 | n ts=>simp only [TV.datC,Option.some.injEq] at e;subst e;exact ⟨rfl,.sl ts,[],rfl,by simp [TV.emb1,AV.d,enc]⟩
 | r ts id off len =>
  simp only [TV.datC] at e
  split at e
  rotate_left
  ·cases e
  rename_i hh
  simp only [Option.some.injEq] at e
  subst e
  exact ⟨rfl,_,_,rfl,by simp only [TV.emb1,AV.d,hh,TBlk.emb,enc,List.map_take,List.map_drop]⟩
 | _=>simp [TV.datC] at e
theorem Qax {h:Nat→TBlk}:∀ {xs ys:List TV},TV.datL h xs=some ys→∃ ds,AV.ds (fun i=>(h i).emb) (xs.map TV.emb1)=some ds∧ys.map TV.emb1=ds.map AV.c
 | [],ys,e=>by simp only [TV.datL,Option.some.injEq] at e;subst e;exact ⟨[],rfl,rfl⟩
 | x::xs,ys,e=>by
  simp only [TV.datL] at e
  split at e
  rotate_left
  ·cases e
  rename_i a b ha hb
  simp only [Option.some.injEq] at e
  subst e
  obtain ⟨_,t,d,rfl,h2⟩:=Qcn ha
  obtain ⟨ds,h3,h4⟩:=Qax hb
  exact ⟨enc t d::ds,by simp only [List.map_cons,AV.ds,h2,h3],by simp only [List.map_cons,h4,TV.emb1]⟩
theorem QbD {h:Nat→TBlk} {x y:TV} (e:targ h x=some y):x.emb.arg (fun i=>(h i).emb)=some y.emb:=by
 unfold targ at e
 split at e
 ·rename_i cs
  split at e
  rotate_left
  ·cases e
  rename_i ds hds
  simp only [Option.some.injEq] at e
  subst e
  obtain ⟨d,h1,h2⟩:=Qax hds
  simp only [TV.emb,TV.emb2,AV.arg,h1,h2]
 ·rename_i id
  split at e
  rotate_left
  ·cases e
  rename_i cs hh
  split at e
  rotate_left
  ·cases e
  rename_i hr
  split at e
  rotate_left
  ·cases e
  rename_i ds hds
  simp only [Option.some.injEq] at e
  subst e
  obtain ⟨d,h1,h2⟩:=Qax hds
  show (match (h id).emb with
   | .box cs=>if AV.refsL cs=[] then (match AV.ds (fun i=>(h i).emb) cs with
    | some ds=>some (AV.bx (ds.map .c))
    | none=>none) else none
   | _=>none)=some (TV.emb (.bx ds))
  rw [hh]
  show (if AV.refsL (cs.map TV.emb1)=[] then (match AV.ds (fun i=>(h i).emb) (cs.map TV.emb1) with
    | some ds=>some (AV.bx (ds.map .c))
    | none=>none) else none)=some (TV.emb (.bx ds))
  rw [if_pos (by rw [JO,hr]),h1]
  simp only [TV.emb,h2]
 ·obtain ⟨h1,t,d,rfl,h2⟩:=Qcn e
  rw [YY h1]
  cases x with
  | c t' x=>simp only [TV.emb1,AV.d,Option.some.injEq] at h2;simp only [TV.emb1,AV.arg,TV.emb,TV.emb2,h2]
  | n ts=>simp only [TV.emb1,AV.d,Option.some.injEq] at h2;simp only [TV.emb1,AV.arg,TV.emb,TV.emb2,h2]
  | r ts id off len=>simp only [TV.emb1] at h2;simp only [TV.emb1,AV.arg,TV.emb,TV.emb2,h2]
  | _=>simp [TV.datC] at e
theorem Qdc {h:Nat→TBlk}:∀ {xs ys:List TV},Yk h xs=some ys→AV.argL (fun i=>(h i).emb) (xs.map TV.emb)=some (ys.map TV.emb)
 | [],ys,e=>by simp only [Yk,Option.some.injEq] at e;subst e;rfl
 | x::xs,ys,e=>by
  simp only [Yk] at e
  split at e
  rotate_left
  ·cases e
  rename_i a b ha hb
  simp only [Option.some.injEq] at e
  subst e
  simp only [List.map_cons,AV.argL,QbD ha,Qdc hb]
theorem QbE (b:TBlk):(fzT b).emb=fzB b.emb:=by cases b <;> rfl
def embP (p:Nat × TBlk):Nat × Blk:=(p.1,p.2.emb)
theorem Jm (h:Nat→TBlk):∀ (ids:List Nat),(frzT h ids).map embP=frz (fun i=>(h i).emb) ids
 | []=>rfl
 | id::ids=>by simp only [frzT,frz,List.map_cons,embP,QbE,Jm h ids]
theorem YP (b:TBlk):b.emb.alive=b.alive:=by cases b <;> rfl
theorem Ju {l m:List TV} {j n:Nat} (e:tcut l j n=some m):cut (l.map TV.emb1) j n=some (m.map TV.emb1):=by
 unfold tcut at e
 obtain ⟨q,e⟩:=Qo e
 simp only [Option.some.injEq] at e
 subst e
 have q:=Nat.le_of_ble_eq_true q
 unfold cut
 rw [if_pos (by simpa using q)]
 simp [List.map_take,List.map_drop]
theorem Jc {agg:Bool} {cs:List TV} {v:TV} (e:Yd agg cs=some v):Zg agg (cs.map TV.emb1)=some v.emb:=by
 unfold Yd at e
 unfold Zg
 cases agg with
 | true=>simp only [if_true,Option.some.injEq] at e ⊢;subst e;rfl
 | false =>
  simp only [Bool.false_eq_true,if_false] at e ⊢
  split at e
  ·rename_i x
   obtain ⟨q,e⟩:=Qo e
   simp only [Option.some.injEq] at e
   subst e
   simp only [List.map_cons,List.map_nil,YY q]
  ·cases e
theorem Qa6:∀ {xs:List TV} {l:List Int},Yc xs=some l→Zy (xs.map TV.emb1)=some l
 | [],l,e=>by simp only [Yc,Option.some.injEq] at e;subst e;rfl
 | x::xs,l,e=>by
  unfold Yc at e
  split at e
  ·rename_i h;cases h
  ·rename_i n r h
   cases h
   split at e
   rotate_left
   ·cases e
   rename_i l' h'
   simp only [Option.some.injEq] at e
   subst e
   simp only [List.map_cons,TV.emb1,enc,Zy,Qa6 h']
  ·cases e
theorem QgG {x:TV} {n:Int} (e:Qbd x=some n):Z3 x.emb=some n:=by
 unfold Qbd at e
 split at e
 ·cases e;rfl
 ·cases e
theorem Jv {T:Nat→TV} {m:Int} {o:Option TOpd} {n:Int} (e:ZU T m o=some n):Qz (Opd.ev fun s=>(T s).emb) m (erO o)=some n:=by
 cases o with
 | none=>simpa [ZU,Qz,erO] using e
 | some l=>simp only [ZU] at e;simp only [Qz,erO,Qn];exact QgG e
theorem JR (b:Nat) (x:TV):(x.sh1 b).emb1=x.emb1.sh1 b:=by cases x <;> rfl
theorem QgP (b:Nat) (x:TV):(x.sh2 b).emb2=x.emb2.sh2 b:=by
 cases x with
 | a cs=>simp only [TV.sh2,TV.emb2,AV.sh2,List.map_map];congr 2;funext y;exact JR b y
 | _=>rfl
theorem QdB (b:Nat):∀ (x:TV),(x.sh b).emb=x.emb.sh b
 | .tp vs=>by simp only [TV.sh,TV.emb,AV.sh,List.map_map];congr 2;funext y;exact QgP b y
 | .a cs=>by simp only [TV.sh,TV.sh2,TV.emb,TV.emb2,AV.sh,AV.sh2,List.map_map];congr 2;funext y;exact JR b y
 | .g true v=>QdB b v
 | .g false v=>rfl
 | .u=>rfl
 | .c _ _=>rfl
 | .n _=>rfl
 | .r ..=>rfl
 | .p ..=>rfl
 | .q ..=>rfl
 | .bx _=>rfl
 | .ow ..=>rfl
theorem QhK (b:Nat) (x:TBlk):(x.sh b).emb=x.emb.sh b:=by
 cases x with
 | box cs=>simp only [TBlk.sh,TBlk.emb,Blk.sh,List.map_map];congr 2;funext y;exact JR b y
 | _=>rfl
def TRes.emb (r:TRes):Res:=⟨r.v.emb,r.hb.map TBlk.emb,r.bx.map (·.map TV.emb1),r.al,r.gv.map TBlk.emb⟩
theorem Qbn (b:Nat):∀ (l:List TBlk) (k:Nat),(Y1 k (l.map (TBlk.sh b))).map embP=QN k ((l.map TBlk.emb).map (Blk.sh b))
 | [],_=>rfl
 | x::xs,k=>by simp only [List.map_cons,Y1,QN,embP,QhK,Qbn b xs (k+1)]
theorem Qb0:∀ (ids:List Nat) (css:List (List TV)),(JB ids css).map embP=QX ids (css.map (·.map TV.emb1))
 | [],[]=>rfl
 | [],_::_=>rfl
 | _::_,[]=>rfl
 | id::ids,cs::css=>by simp only [JB,QX,List.map_cons,embP,TBlk.emb,Qb0 ids css]
theorem Qca:∀ (ids:List Nat) (css:List TBlk),(JC ids css).map embP=QZ ids (css.map TBlk.emb)
 | [],[]=>rfl
 | [],_::_=>rfl
 | _::_,[]=>rfl
 | id::ids,cs::css=>by simp only [JC,QZ,List.map_cons,embP,Qca ids css]
theorem QbN {p q:Option Prop} (h:holds (mixP p q)):holds p∧holds q:=by
 cases p <;> cases q <;> simp_all [mixP,holds]
theorem QeZ {h:Nat→TBlk} {x y:TV} {p:Option Prop} (e:Qan h x=some (p,y)) (hp:holds p):x.emb.argO (fun i=>(h i).emb)=some y.emb:=by
 unfold Qan at e
 split at e
 ·rename_i ts id len
  split at e
  ·rename_i e0 ts' es hh
   have q:CT.beqL ts' ts=true:=by
    cases hq:CT.beqL ts' ts with
    | true=>rfl
    | false=>rw [hq] at e;cases e
   rw [q] at e
   cases e
   obtain rfl:=CT.beqL_eq _ _ q
   have hp:len=es.length:=hp
   subst hp
   show (AV.r ts'.length id 0 es.length).argO (fun i=>(h i).emb)=some (AV.ow e0 ts'.length (es.map (encs ts')))
   have hh':(fun i=>(h i).emb) id = .sl e0 ts'.length true (es.map (encs ts')):=by show (h id).emb=_;rw [hh];rfl
   have key:∀ (H:Nat→Blk) (e:TypeId) (es:List (List D)) (n:Nat),H id = .sl e n true es→(AV.r n id 0 es.length).argO H=some (.ow e n es):=by
    intro H e es n hH
    simp [AV.argO,hH]
   have:=key (fun i=>(h i).emb) e0 (es.map (encs ts')) ts'.length hh'
   rw [List.length_map] at this
   exact this
  ·cases e
 ·cases e
theorem JQ {h:Nat→TBlk}:∀ {ms:List Bool} {xs ys:List TV} {p:Option Prop},ZA h ms xs=some (p,ys)→holds p→AV.argM (fun i=>(h i).emb) ms (xs.map TV.emb)=some (ys.map TV.emb)
 | [],xs,ys,p,e,hp=>by
  simp only [ZA] at e
  split at e
  ·rename_i ds hds
   simp only [Option.some.injEq,Prod.mk.injEq] at e
   obtain ⟨rfl,rfl⟩:=e
   exact Qdc hds
  ·cases e
 | m::ms,[],ys,p,e,hp=>by
  simp only [ZA,Option.some.injEq,Prod.mk.injEq] at e
  obtain ⟨rfl,rfl⟩:=e
  rfl
 | true::ms,x::xs,ys,p,e,hp=>by
  simp only [ZA] at e
  split at e
  ·rename_i p1 d q ds h1 h2
   simp only [Option.some.injEq,Prod.mk.injEq] at e
   obtain ⟨rfl,rfl⟩:=e
   obtain ⟨hp1,hp2⟩:=QbN hp
   simp only [List.map_cons,AV.argM,if_true,QeZ h1 hp1,JQ h2 hp2]
  ·cases e
 | false::ms,x::xs,ys,p,e,hp=>by
  simp only [ZA] at e
  split at e
  ·rename_i d q ds h1 h2
   simp only [Option.some.injEq,Prod.mk.injEq] at e
   obtain ⟨rfl,rfl⟩:=e
   simp only [List.map_cons,AV.argM,Bool.false_eq_true,if_false,QbD h1,JQ h2 hp]
  ·cases e
theorem QaN:∀ (ms:List Bool) (xs:List TV),owns ms (xs.map TV.emb)=(Zt ms xs).map TV.emb
 | [],_=>rfl
 | _::_,[]=>rfl
 | true::ms,x::xs=>by simp only [List.map_cons,owns,Zt,if_true,cond_true,QaN ms xs]
 | false::ms,x::xs=>by simp only [List.map_cons,owns,Zt,Bool.false_eq_true,if_false,cond_false,QaN ms xs]
theorem J5:∀ (ms:List Bool) (xs:List TV),dats ms (xs.map TV.emb)=(Zj ms xs).map TV.emb
 | [],_=>rfl
 | _::_,[]=>rfl
 | true::ms,x::xs=>by simp only [List.map_cons,dats,Zj,if_true,cond_true,J5 ms xs]
 | false::ms,x::xs=>by simp only [List.map_cons,dats,Zj,Bool.false_eq_true,if_false,cond_false,J5 ms xs]
theorem Qfv (xs:List TV):(xs.map TV.emb).flatMap AV.refs=xs.flatMap TV.refs:=by
 rw [List.flatMap_map];congr 1;funext x;exact Jj
theorem Qf2 (xs:List TV):(xs.map TV.emb).flatMap AV.lent=xs.flatMap TV.lent:=by
 rw [List.flatMap_map];congr 1;funext x;exact Qbs
theorem Qdz:∀ {xs ys:List Nat},Jp xs ys=true→∀ id,id∈xs→id∉ys
 | [],_,_,id,hm=>by simp at hm
 | x::xs,ys,h,id,hm=>by
  simp only [Jp,Bool.and_eq_true] at h
  rcases List.mem_cons.1 hm with rfl | hm
  ·intro hy
   have:=List.all_eq_true.1 h.1 id hy
   rw [Nat.beq_refl] at this
   simp at this
  ·exact Qdz h.2 id hm
theorem QaR:∀ {l:List Nat},Yb l=true→l.Nodup
 | [],_=>List.nodup_nil
 | x::xs,h=>by
  simp only [Yb,Bool.and_eq_true,Bool.not_eq_true'] at h
  exact List.nodup_cons.2 ⟨by simpa using h.1,QaR h.2⟩
theorem Qbu {T:Nat→TV}:∀ {ps:List (Nat × Nat × TOpd)} {zs cs:List TV},YM T zs ps=some cs→Q7 (Opd.ev fun s=>(T s).emb) (zs.map TV.emb1) (ps.map erP)=some (cs.map TV.emb1)
 | [],zs,cs,e=>by simp only [YM,Option.some.injEq] at e;subst e;rfl
 | (off,n,x)::r,zs,cs,e=>by
  simp only [YM] at e
  obtain ⟨q,e⟩:=Qo e
  simp only [Bool.and_eq_true] at q
  obtain ⟨⟨q1,q2⟩,q3⟩:=q
  have q1:=Nat.eq_of_beq_eq_true q1
  have q2:=Nat.le_of_ble_eq_true q2
  have:=Qbu e
  simp only [List.map_cons,erP,Q7,Qn,JK q3,List.length_map,Qa7 q3,q1,q2,and_self,if_true]
  rw [J1] at this
  exact this
theorem YH {h:Nat→TBlk} {ts:List CT} {a:Tup ts} (x:TV) (hx:x.st=false):¬ Tup.of h ts x.cells=some a:=by
 intro e
 have hc:x.cells=[x]:=by cases x <;> first | rfl | simp [TV.st,TV.one] at hx
 rw [hc] at e
 cases ts with
 | nil=>cases (show (none:Option (Tup []))=some a from e)
 | cons t ts =>
  have:x.dat h t=none:=by cases x <;> first | rfl | simp [TV.st,TV.one] at hx
  have e:(match x.dat h t,Tup.of h ts [] with | some a,some b=>some (mkT ts a b) | _,_=>none)=some a:=e
  rw [this] at e
  cases e
theorem QbU {h:Nat→TBlk} {T:Nat→TV} {ts:List CT}:∀ {ps:List TOpd} {es:List (Tup ts)},YA h T ts ps=some es →
  elems (fun i=>(h i).emb) (Opd.ev fun s=>(T s).emb) ts.length (ps.map TOpd.er)=some (es.map (encs ts))
 | [],es,e=>by simp only [YA,Option.some.injEq] at e;subst e;rfl
 | x::r,es,e=>by
  simp only [YA] at e
  split at e
  rotate_left
  ·cases e
  rename_i a b ha hb
  simp only [Option.some.injEq] at e
  subst e
  obtain ⟨h1,h2⟩:=JD ts _ _ ha
  have hst:(x.ev T).st=true:=by
   cases hx:x.ev T with
   | u=>rw [hx] at ha;exact absurd ha (YH _ rfl)
   | tp vs=>rw [hx] at ha;exact absurd ha (YH _ rfl)
   | bx vs=>rw [hx] at ha;exact absurd ha (YH _ rfl)
   | ow e us vs=>rw [hx] at ha;exact absurd ha (YH _ rfl)
   | g c vs=>rw [hx] at ha;exact absurd ha (YH _ rfl)
   | _=>rfl
  simp only [List.map_cons,elems,Qn,JK hst,h1,QbU hb,Yi,if_true]
theorem Qhz {T:Nat→TV} (ps:List TOpd):((ps.map TOpd.er).flatMap fun x=>(Opd.ev (fun s=>(T s).emb) x).refs)=ps.flatMap fun x=>(x.ev T).refs:=by
 induction ps with
 | nil=>rfl
 | cons x ps ih=>simp only [List.map_cons,List.flatMap_cons,ih,Qn,Jj]
theorem QfM {T:Nat→TV} (ps:List TOpd):(ps.map TOpd.er).map (Opd.ev fun s=>(T s).emb)=(ps.map fun x=>x.ev T).map TV.emb:=by
 simp only [List.map_map]
 congr 1
 funext x
 exact Qn T x
theorem Qec {op:BinOp} {x y:TV} {e:TE} (he:tbin op x y=some e) (hp:holds e.pre):∃ a b v,x.emb = .c (.v a)∧y.emb = .c (.v b)∧biv op a b=some v∧e.val.emb = .c (.v v)∧e.blks=[]:=by
 unfold tbin at he
 split at he
 ·rename_i k x k' y
  refine ⟨.int k x,.int k' y,?_⟩
  cases op <;> simp only at he <;> first
   | (cases he;simp only [holds] at hp;exact ⟨_,rfl,rfl,by simp only [biv];rw [if_neg (by omega)],rfl,rfl⟩)
   | (split at he <;> first
    | (cases he;done)
    | (rename_i hk;subst hk;first
     | (cases he;simp only [holds] at hp;exact ⟨_,rfl,rfl,by simp only [biv,if_true];rw [if_neg hp],rfl,rfl⟩)
     | (cases he;exact ⟨_,rfl,rfl,by simp only [biv,if_true],rfl,rfl⟩)
     | cases he))
 ·rename_i x y
  refine ⟨.string x,.string y,?_⟩
  cases op <;> simp only at he <;> first
   | (cases he;exact ⟨_,rfl,rfl,by simp only [biv],rfl,rfl⟩)
   | cases he
 ·cases he
end Go.Proofs.Ytephkbajoofeoaa.Am
namespace Go.Proofs.Ytephkbajoofeoaa.Am
open Go Go.RowKit
def Y0 (Γ:List TRow) (ΓA:Tab):Prop :=
 (∀ f row,Zb Γ f=some row→ΓA.md f=mdOf row.sg)∧∀ f row vs pre r,Zb Γ f=some row→Qy row.sg vs=true→row.fn vs=some (pre,r)→holds pre→ΓA f (vs.map TV.emb)=some r.emb
theorem JX {ts:List CT} {l:List (Tup ts)} {i:Nat} (h:i<l.length):l[i]? = some (gt ts l i):=by
 unfold gt
 rw [List.getElem?_eq_getElem h,List.getD_eq_getElem?_getD,List.getElem?_eq_getElem h]
 rfl
theorem Qd3 {x:TV} (h:x.st=true):x.emb2=x.emb:=by cases x <;> first | rfl | simp [TV.st,TV.one] at h
theorem Qa1 {h:Nat→Blk}:∀ (xs ys:List AV) (ds:List D),AV.ds h (xs++ys)=some ds→∃ d1 d2,AV.ds h xs=some d1∧AV.ds h ys=some d2∧ds=d1++d2
 | [],ys,ds,e=>⟨[],ds,rfl,e,rfl⟩
 | x::xs,ys,ds,e=>by
  simp only [List.cons_append,AV.ds] at e
  split at e
  rotate_left
  ·cases e
  rename_i a b ha hb
  simp only [Option.some.injEq] at e
  subst e
  obtain ⟨d1,d2,h1,h2,h3⟩:=Qa1 xs ys b hb
  exact ⟨a::d1,d2,by simp only [AV.ds,ha,h1],h2,by rw [h3];rfl⟩
theorem QcT {h:Nat→Blk}:∀ (ds:List D),AV.ds h (ds.map AV.c)=some ds
 | []=>rfl
 | d::ds=>by simp only [List.map_cons,AV.ds,AV.d,QcT ds]
theorem QhA {h:Nat→Blk} {l:List D} {j:Nat} {xs:List AV} {r:List D} (e:AV.ds h (splice (l.map AV.c) j xs)=some r) (_hj:j+xs.length≤l.length) :
  ∃ ds,AV.ds h xs=some ds∧r=splice l j ds:=by
 unfold splice at e
 rw [← List.map_take,← List.map_drop] at e
 obtain ⟨d1,d2,h1,h2,rfl⟩:=Qa1 _ _ _ e
 obtain ⟨d3,d4,h3,h4,rfl⟩:=Qa1 _ _ _ h1
 rw [QcT] at h2 h3
 cases h2
 cases h3
 refine ⟨d4,h4,?_⟩
 unfold splice
 rw [(AV.ds_get h4).1]
section
variable {Γ:List TRow} {ΓA:Tab} (hΓ:Y0 Γ ΓA) {T:Nat→TV} {h:Nat→TBlk} {b:Nat}
def TE.emb (e:TE):Eff:=⟨e.val.emb,e.blks.map embP⟩
theorem Qbo {x:TOpd} {n:Nat} {agg:Bool} {e:TE} (he:Qh Γ T h b (.load x n agg)=some e) (hp:holds e.pre):Qc ΓA (Opd.ev fun s=>(T s).emb) (fun i=>(h i).emb) b (TOp.er (.load x n agg))=some e.emb:=by
 simp only [Qh] at he
 simp only [TOp.er,Qc,Qn]
 split at he
 ·rename_i id i j hx
  rw [hx]
  show (match (h id).emb with
   | .box cs=>_
   | .sl _ _ _ es=>_
   | _=>_)=_
  split at he
  ·rename_i cs hh
   rw [hh]
   split at he
   ·split at he
    ·rename_i l hl
     split at he
     ·rename_i v hv
      cases he
      have:=Jc hv
      simp only [TBlk.emb_sl,TBlk.emb_box,if_true,Ju hl,this]
      rfl
     ·cases he
    ·cases he
   ·cases he
  ·rename_i e' ts m es hh
   rw [hh]
   split at he
   ·rename_i l hl
    split at he
    ·rename_i v hv
     cases he
     simp only [holds] at hp
     have h1:=JX hp
     have:=Jc hv
     have h2:=Ju hl
     rw [Jq] at h2
     unfold cut at h2
     split at h2
     rotate_left
     ·cases h2
     rename_i hle
     simp only [Option.some.injEq] at h2
     simp only [List.length_map] at hle
     simp only [TBlk.emb_sl,TBlk.emb_box,List.getElem?_map,h1,Option.map_some,cut,hle,if_true]
     rw [← h2] at this
     simp only [List.map_drop,List.map_take]
     rw [this]
     rfl
    ·cases he
   ·cases he
  ·cases he
 ·rename_i ts x' j hx
  rw [hx]
  split at he
  ·rename_i l hl
   split at he
   ·rename_i v hv
    cases he
    have:=Jc hv
    have h2:=Ju hl
    rw [Jq] at h2
    unfold cut at h2
    split at h2
    rotate_left
    ·cases h2
    rename_i hle
    simp only [Option.some.injEq] at h2
    simp only [List.length_map] at hle
    simp only [TV.emb,TV.emb2,TV.emb1,cut,hle,if_true]
    rw [← h2] at this
    simp only [List.map_drop,List.map_take]
    rw [this]
    rfl
   ·cases he
  ·cases he
 ·cases he
theorem QhS {x v:TOpd} {n:Nat} {e:TE} (he:Qh Γ T h b (.store x v n)=some e) (hp:holds e.pre) :
  Qc ΓA (Opd.ev fun s=>(T s).emb) (fun i=>(h i).emb) b (TOp.er (.store x v n))=some e.emb:=by
 simp only [Qh] at he
 obtain ⟨q,he⟩:=Qo he
 simp only [Bool.and_eq_true] at q
 obtain ⟨q1,q2⟩:=q
 have q1:=Nat.eq_of_beq_eq_true q1
 simp only [TOp.er,Qc,Qn,JK q2,List.length_map,q1,Qa7 q2,and_self,if_true]
 split at he
 rotate_left
 ·cases he
 rename_i id i j hx
 rw [hx]
 show (match (h id).emb with
  | .box cs=>_
  | .sl e sz true es=>_
  | _=>_)=_
 split at he
 ·rename_i cs hh
  rw [hh]
  split at he
  ·obtain ⟨q3,he⟩:=Qo he
   cases he
   have q3:=Nat.le_of_ble_eq_true q3
   simp only [TBlk.emb_sl,TBlk.emb_box,List.length_map,q3,and_self,if_true,← J1]
   rfl
  ·cases he
 ·rename_i e' ts es hh
  rw [hh]
  split at he
  rotate_left
  ·cases he
  rename_i y hy
  obtain ⟨q3,he⟩:=Qo he
  cases he
  simp only [Bool.and_eq_true,Bool.not_eq_true'] at q3
  obtain ⟨q3,q4⟩:=q3
  have q3:=Nat.le_of_ble_eq_true q3
  have q4:id∉(v.ev T).refs:=by simpa using q4
  simp only [holds] at hp
  have h1:=JX hp
  obtain ⟨h2,h3⟩:=JD ts _ y hy
  rw [J1,Jq] at h2
  obtain ⟨ds,h5,h6⟩:=QhA h2 (by simp [Yi,q1,q3])
  simp only [TBlk.emb_sl,TBlk.emb_box,List.getElem?_map,h1,Option.map_some,h5,Yi,q3,Jj,q4,not_false_eq_true,and_self,if_true]
  simp only [TE.emb,List.map_cons,embP,Jm,TBlk.emb_sl,TBlk.emb_box,h6,List.map_set]
  rfl
 ·cases he
theorem Qgx {x i:TOpd} {ts:List CT} {e:TE} (he:Qh Γ T h b (.iad x i ts)=some e) (hp:holds e.pre) :
  Qc ΓA (Opd.ev fun s=>(T s).emb) (fun i=>(h i).emb) b (TOp.er (.iad x i ts))=some e.emb:=by
 simp only [Qh] at he
 simp only [TOp.er,Qc,Qn]
 split at he
 rotate_left
 ·cases he
 rename_i k n hi
 rw [hi]
 split at he
 ·rename_i ts' l hx
  obtain ⟨q,he2⟩:=Qo he
  clear he
  obtain rfl:=CT.beqL_eq _ _ q
  cases he2
  simp only [holds] at hp
  rw [hx]
  have h1:=JX (ts:=ts') (l:=l) hp.2
  show (if (0:Int)≤n then (if ts'.length=ts'.length then (match (List.map (encs ts') l)[n.toNat]? with | some e=>some (⟨AV.q e 0,[]⟩:Eff) | none=>none) else none) else none)=_
  rw [if_pos hp.1,if_pos rfl,List.getElem?_map,h1]
  rfl
 ·rename_i ts' id off len hx
  obtain ⟨q,he2⟩:=Qo he
  clear he
  simp only [Bool.and_eq_true] at q
  obtain rfl:=CT.beqL_eq _ _ q.1
  cases he2
  simp only [holds] at hp
  rw [hx]
  show (if (0:Int)≤n then (if ts'.length=ts'.length∧n.toNat<len∧((h id).emb).alive=true then some (⟨AV.p id (off+n.toNat) 0,[]⟩:Eff) else none) else none)=_
  rw [if_pos hp.1,YP,if_pos ⟨rfl,hp.2,q.2⟩]
  rfl
 ·cases he
theorem Qgm {x:TOpd} {lo hi:Option TOpd} {ts:List CT} {e:TE} (he:Qh Γ T h b (.slc x lo hi ts)=some e) (hp:holds e.pre) :
  Qc ΓA (Opd.ev fun s=>(T s).emb) (fun i=>(h i).emb) b (TOp.er (.slc x lo hi ts))=some e.emb:=by
 simp only [Qh] at he
 simp only [TOp.er,Qc,Qn]
 split at he
 rotate_left
 ·cases he
 rename_i l0 hlo
 rw [Jv hlo]
 split at he
 ·rename_i ts' l hx
  split at he
  rotate_left
  ·cases he
  rename_i h0 hhi
  obtain ⟨q,he2⟩:=Qo he
  clear he
  obtain rfl:=CT.beqL_eq _ _ q
  cases he2
  simp only [holds] at hp
  rw [hx]
  have hhi:=Jv hhi
  show (match Qz (Opd.ev fun s=>(T s).emb) ((List.map (encs ts') l).length:Int) (erO hi) with
   | some hi=>if ts'.length=ts'.length∧0≤l0∧l0≤hi∧hi≤(List.map (encs ts') l).length then some (⟨AV.c (.sl ts'.length (((List.map (encs ts') l).drop l0.toNat).take (hi.toNat-l0.toNat))),[]⟩:Eff) else none
   | none=>none)=_
  rw [List.length_map,hhi]
  simp only
  rw [if_pos ⟨trivial,hp.1,hp.2.1,hp.2.2⟩,← List.map_drop,← List.map_take]
  rfl
 ·rename_i ts' id off len hx
  split at he
  rotate_left
  ·cases he
  rename_i h0 hhi
  obtain ⟨q,he2⟩:=Qo he
  clear he
  simp only [Bool.and_eq_true] at q
  obtain rfl:=CT.beqL_eq _ _ q.1
  cases he2
  simp only [holds] at hp
  rw [hx]
  have hhi:=Jv hhi
  show (match Qz (Opd.ev fun s=>(T s).emb) (len:Int) (erO hi) with
   | some hi=>if ts'.length=ts'.length∧0≤l0∧l0≤hi∧hi≤len∧((h id).emb).alive=true then some (⟨AV.r ts'.length id (off+l0.toNat) (hi.toNat-l0.toNat),[]⟩:Eff) else none
   | none=>none)=_
  rw [hhi]
  simp only
  rw [YP,if_pos ⟨trivial,hp.1,hp.2.1,hp.2.2,q.2⟩]
  rfl
 ·rename_i ts' hx
  split at he
  rotate_left
  ·cases he
  rename_i h0 hhi
  cases he
  simp only [holds] at hp
  rw [hx]
  have hhi:=Jv hhi
  show (match Qz (Opd.ev fun s=>(T s).emb) 0 (erO hi) with
   | some hi=>if l0=0∧hi=0 then some (⟨AV.n ts.length,[]⟩:Eff) else none
   | none=>none)=_
  rw [hhi]
  simp only
  rw [if_pos hp]
  rfl
 ·cases he
theorem Qhq {s x:TOpd} {e0:TypeId} {ts:List CT} {e:TE} (he:Qh Γ T h b (.app s x e0 ts)=some e) (hp:holds e.pre) :
  Qc ΓA (Opd.ev fun s=>(T s).emb) (fun i=>(h i).emb) b (TOp.er (.app s x e0 ts))=some e.emb:=by
 simp only [Qh] at he
 simp only [TOp.er,Qc,Qn]
 split at he
 rotate_left
 ·cases he
 rename_i xs hx
 have h1:(x.ev T).emb.els (fun i=>(h i).emb) ts.length=some (xs.map (encs ts)):=by
  have h2:=Qdi (t:=.sl ts) hx
  have h3:=QeF (t:=.sl ts) hx
  rw [YY h3]
  cases hv:x.ev T with
  | c t y =>
   rw [hv] at h2
   simp only [TV.emb1,AV.d,Option.some.injEq] at h2
   simp only [TV.emb1,AV.els,h2,enc,if_true]
  | n ts' =>
   rw [hv] at h2
   simp only [TV.emb1,AV.d,Option.some.injEq,enc,D.sl.injEq] at h2
   simp only [TV.emb1,AV.els,← h2.2]
  | r ts' id off len =>
   rw [hv] at h2 hx
   simp only [TV.emb1,AV.d] at h2
   simp only [TV.emb1,AV.els]
   cases hh:h id with
   | sl e ts2 m es =>
    rw [hh] at h2
    simp only [TBlk.emb_sl,Option.some.injEq,enc,D.sl.injEq] at h2
    simp only [TBlk.emb_sl,h2.1,h2.2,if_true]
   | none=>rw [hh] at h2;cases h2
   | dead=>rw [hh] at h2;cases h2
   | box cs=>rw [hh] at h2;cases h2
  | _=>rw [hv] at h3;simp [TV.one] at h3 <;> (rw [hv] at hx;simp [TV.dat] at hx)
 rw [h1]
 simp only
 split at he
 ·rename_i ts' hs
  cases he
  simp only [holds] at hp
  rw [hs]
  show (if (xs.map (encs ts)).length≤big then some (⟨.r ts.length b 0 (xs.map (encs ts)).length,[(b,.sl e0 ts.length true (xs.map (encs ts)))]⟩:Eff) else none)=_
  rw [List.length_map,if_pos hp]
  rfl
 ·rename_i ts' id len hs
  split at he
  rotate_left
  ·cases he
  rename_i e' ts2 es hh
  split at he
  rotate_left
  ·cases he
  rename_i q
  obtain rfl:=CT.beqL_eq _ _ q
  obtain ⟨q2,he⟩:=Qo he
  have q2:=Nat.eq_of_beq_eq_true q2
  subst q2
  cases he
  simp only [holds] at hp
  rw [hs]
  show (match (h id).emb with
   | .sl e2 sz' true es=>if e2=e'∧sz'=ts2.length∧(len=es.length∨len+(xs.map (encs ts2)).length≤es.length)∧len+(xs.map (encs ts2)).length≤big then
     some (⟨.r ts2.length b 0 (len+(xs.map (encs ts2)).length),[(id,.dead),(b,.sl e' ts2.length true (es.take len++xs.map (encs ts2)))]⟩:Eff) else none
   | _=>none)=_
  rw [hh]
  simp only [TBlk.emb_sl]
  rw [if_pos ⟨trivial,trivial,by simpa using hp.1,by simpa using hp.2⟩,← List.map_take,← List.map_append,List.length_map]
  rfl
 ·cases he
include hΓ in
theorem Qfq {f:FuncId} {args:List TOpd} {e:TE} (he:Qh Γ T h b (.call f args)=some e) (hp:holds e.pre) :
  Qc ΓA (Opd.ev fun s=>(T s).emb) (fun i=>(h i).emb) b (TOp.er (.call f args))=some e.emb:=by
 simp only [Qh] at he
 split at he
 rotate_left
 ·cases he
 rename_i row hrow
 split at he
 rotate_left
 ·cases he
 rename_i p0 vs hvs
 obtain ⟨q,he⟩:=Qo he
 split at he
 rotate_left
 ·cases he
 rename_i pre r hr
 obtain ⟨q2,he⟩:=Qo he
 cases he
 obtain ⟨hp0,hp⟩:=QbN hp
 simp only [Bool.and_eq_true] at q2
 obtain ⟨⟨⟨⟨q3,q4⟩,q5⟩,q6⟩,q7⟩:=q2
 have q3:=Nat.le_of_ble_eq_true q3
 have h0:=hΓ.1 f row hrow
 have h1:=JQ hvs hp0
 have h2:=hΓ.2 f row vs pre r hrow q hr hp
 simp only [TOp.er,Qc,QfM,h0,QaN,J5,Qfv,Qf2]
 simp only [h1,h2,TRes.emb]
 have q4':(((r.bx.map (·.map TV.emb1)).isEmpty&&(r.gv.map TBlk.emb).isEmpty)||r.al)=true:=by rw [List.isEmpty_map,List.isEmpty_map];exact q4
 rw [if_pos ⟨by rw [List.length_map];exact q3,q4',QaR q5,QaR q6,Qdz q7⟩]
 simp only [TE.emb,List.map_append,QdB,Qbn,Qb0,Qca]
 congr 3
 split
 ·exact (Jm h _).symm
 ·rfl
include hΓ in
theorem Qak {op:TOp} {e:TE} (he:Qh Γ T h b op=some e) (hp:holds e.pre):Qc ΓA (Opd.ev fun s=>(T s).emb) (fun i=>(h i).emb) b op.er=some e.emb:=by
 cases op with
 | load x n agg=>exact Qbo he hp
 | store x v n=>exact QhS he hp
 | iad x i ts=>exact Qgx he hp
 | slc x lo hi ts=>exact Qgm he hp
 | app s x e ts=>exact Qhq he hp
 | call f args=>exact Qfq hΓ he hp
 | mov x=>simp only [Qh] at he;cases he;simp only [TOp.er,Qc,Qn];rfl
 | pick c x y =>
  simp only [Qh] at he
  simp only [TOp.er,Qc,Qn]
  split at he
  ·rename_i cb xb yb hc hx hy
   cases he
   rw [hc,hx,hy]
   cases cb <;> rfl
  ·cases he
 | bin op x y =>
  simp only [Qh] at he
  simp only [TOp.er,Qc,Qn]
  obtain ⟨a,c,v,h1,h2,h3,h4,h5⟩:=Qec he hp
  rw [h1,h2]
  simp only [h3,TE.emb,h4,h5,List.map_nil]
 | cmpa n g x y =>
  simp only [Qh] at he
  simp only [TOp.er,Qc,Qn]
  split at he
  rotate_left
  ·cases he
  rename_i xs ys hx hy
  split at he
  rotate_left
  ·cases he
  rename_i l m hl hm
  obtain ⟨q,he⟩:=Qo he
  cases he
  simp only [Bool.and_eq_true] at q
  rw [hx,hy]
  simp only [TV.emb,TV.emb2,Qa6 hl,Qa6 hm]
  rw [if_pos ⟨Nat.eq_of_beq_eq_true q.1,Nat.eq_of_beq_eq_true q.2⟩]
  cases g <;> rfl
 | eqb g x y =>
  simp only [Qh] at he
  simp only [TOp.er,Qc,Qn]
  split at he
  ·rename_i xb yb hx hy
   cases he
   rw [hx,hy]
   cases g <;> rfl
  ·cases he
 | not x =>
  simp only [Qh] at he
  simp only [TOp.er,Qc,Qn]
  split at he
  ·rename_i xb hx
   cases he
   rw [hx]
   rfl
  ·cases he
 | neg x =>
  simp only [Qh] at he
  simp only [TOp.er,Qc,Qn]
  split at he
  ·rename_i k n hx
   cases he
   rw [hx]
   rfl
  ·cases he
 | new t zs=>simp only [Qh] at he;cases he;rfl
 | box t x n =>
  simp only [Qh] at he
  simp only [TOp.er,Qc,Qn]
  obtain ⟨q,he⟩:=Qo he
  cases he
  simp only [Bool.and_eq_true] at q
  simp only [JK q.2,List.length_map,Nat.eq_of_beq_eq_true q.1,Qa7 q.2,and_self,if_true]
  rfl
 | fad x off =>
  simp only [Qh] at he
  simp only [TOp.er,Qc,Qn]
  split at he
  ·rename_i id i j hx
   obtain ⟨q,he⟩:=Qo he
   cases he
   rw [hx]
   show (if ((h id).emb).alive=true then some (⟨AV.p id i (j+off),[]⟩:Eff) else none)=_
   rw [YP,if_pos q]
   rfl
  ·rename_i ts y j hx
   cases he
   rw [hx]
   rfl
  ·cases he
 | fld x off n agg =>
  simp only [Qh] at he
  simp only [TOp.er,Qc,Qn]
  split at he
  rotate_left
  ·cases he
  rename_i cs hx
  split at he
  rotate_left
  ·cases he
  rename_i l hl
  split at he
  rotate_left
  ·cases he
  rename_i v hv
  cases he
  rw [hx]
  simp only [TV.emb,TV.emb2,Ju hl,Jc hv]
  rfl
 | build zs ps =>
  simp only [Qh] at he
  simp only [TOp.er,Qc]
  split at he
  ·rename_i cs hcs
   cases he
   rw [Qbu hcs]
   rfl
  ·cases he
 | bsl t ts ps =>
  simp only [Qh] at he
  simp only [TOp.er,Qc]
  split at he
  ·rename_i es hes
   cases he
   rw [QbU hes]
   simp only [TE.emb,List.map_cons,embP,Jm,Qhz,TBlk.emb_sl,List.length_map]
   rfl
  ·cases he
 | mk t ts zs n =>
  simp only [Qh] at he
  simp only [TOp.er,Qc,Qn]
  split at he
  ·rename_i k m z hn hz
   cases he
   simp only [holds] at hp
   obtain ⟨h1,h2⟩:=JD ts _ _ hz
   rw [hn,h1]
   show (if (0:Int)≤m∧m≤big∧(encs ts z).length=ts.length then some (⟨.r ts.length b 0 m.toNat,[(b,.sl t ts.length true (List.replicate m.toNat (encs ts z)))]⟩:Eff) else none)=_
   rw [if_pos ⟨hp.1,hp.2,Yi _ _⟩]
   simp only [TE.emb,List.map_cons,embP,TBlk.emb_sl,List.map_nil,List.map_replicate]
   rfl
  ·cases he
 | len x =>
  simp only [Qh] at he
  simp only [TOp.er,Qc,Qn]
  split at he
  ·rename_i ts l hx
   cases he
   rw [hx]
   show some (⟨.c (.v (.int .i64 ((List.map (encs ts) l).length:Int))),[]⟩:Eff)=_
   rw [List.length_map]
   rfl
  ·rename_i ts hx
   cases he
   rw [hx]
   rfl
  ·rename_i ts id off len hx
   obtain ⟨q,he⟩:=Qo he
   cases he
   rw [hx]
   show (if ((h id).emb).alive=true then some (⟨.c (.v (.int .i64 (len:Int))),[]⟩:Eff) else none)=_
   rw [YP,if_pos q]
   rfl
  ·cases he
 | mm mx x y =>
  simp only [Qh] at he
  simp only [TOp.er,Qc,Qn]
  split at he
  ·rename_i k xb k' yb hx hy
   cases he
   rw [hx,hy]
   cases mx <;> rfl
  ·cases he
 | ext x i =>
  simp only [Qh] at he
  simp only [TOp.er,Qc,Qn]
  split at he
  rotate_left
  ·cases he
  rename_i vs hx
  split at he
  rotate_left
  ·cases he
  rename_i v hv
  obtain ⟨q,he⟩:=Qo he
  cases he
  rw [hx]
  show (match (vs.map TV.emb2)[i]? with | some v=>some (⟨v,[]⟩:Eff) | none=>none)=_
  rw [List.getElem?_map,hv]
  simp only [Option.map_some,TE.emb,Qd3 q,List.map_nil]
 | conv k x =>
  simp only [Qh] at he
  simp only [TOp.er,Qc,Qn]
  split at he
  ·rename_i k' n hx
   cases he
   rw [hx]
   rfl
  ·cases he
 | nilc x =>
  simp only [Qh] at he
  simp only [TOp.er,Qc,Qn]
  split at he
  ·rename_i id i j hx
   obtain ⟨q,he⟩:=Qo he
   cases he
   rw [hx]
   show (if ((h id).emb).alive=true then some (⟨AV.p id i j,[]⟩:Eff) else none)=_
   rw [YP,if_pos q]
   rfl
  ·rename_i ts y j hx
   cases he
   rw [hx]
   rfl
  ·cases he
end
end Go.Proofs.Ytephkbajoofeoaa.Am
namespace Go.Proofs.Ytephkbajoofeoaa.Am
open Go Go.RowKit
inductive TStm where
 | op (d:Option Nat) (o:TOp)
 | grp (s:Nat) (w:Bool) (ss:List TStm) (d:Nat) (x:TOpd)
 | gw (s:Nat) (w:Bool) (ss:List TStm) (d2:Nat) (o:TOp) (d:Nat) (x:TOpd)
mutual
def TStm.len:TStm→Nat
 | .op _ _=>1
 | .grp _ _ ss _ _=>lenL ss+1
 | .gw _ _ ss _ _ _ _=>lenL ss+2
def lenL:List TStm→Nat
 | []=>0
 | x::xs=>x.len+lenL xs
end
def QF (w:Bool) (s:Nat) (x:TOpd):TOp:=if w then .pick (.s s) x (.k (.c .bool false)) else .pick (.s s) (.k (.c .bool true)) x
mutual
def TStm.er (g:Option (Nat × Bool)) (i:Nat):TStm→List AO
 | .op d o=>[⟨d,o.er,g,16*i⟩]
 | .grp s w ss d x=>erL (some (s,w)) i ss++[⟨some d,(QF w s x).er,g,16*(i+lenL ss)⟩]
 | .gw s w ss d2 o d x=>erL (some (s,w)) i ss++[⟨some d2,o.er,some (s,w),16*(i+lenL ss)⟩,⟨some d,(QF w s x).er,g,16*(i+(lenL ss+1))⟩]
def erL (g:Option (Nat × Bool)) (i:Nat):List TStm→List AO
 | []=>[]
 | x::xs=>x.er g i++erL g (i+x.len) xs
end
mutual
def TStm.dsts:TStm→List Nat
 | .op (some d) _=>[d]
 | .op none _=>[]
 | .grp _ _ ss d _=>Qf ss++[d]
 | .gw _ _ ss d2 _ d _=>Qf ss++[d2]++[d]
def Qf:List TStm→List Nat
 | []=>[]
 | x::xs=>x.dsts++Qf xs
end
mutual
def TStm.offK:TStm→List Nat→Bool
 | .op (some _) _,_=>true
 | .op none _,_=>false
 | .grp s _ ss _ _,ds=>ds.elem s&&!((Qf ss).elem s)&&Ze ss ds
 | .gw _ _ _ _ _ _ _,_=>false
def Ze:List TStm→List Nat→Bool
 | [],_=>true
 | x::r,ds=>x.offK ds&&Ze r (x.dsts++ds)
end
def ZP:Option Prop→Option Prop→Option Prop
 | none,q=>q
 | some p,none=>some p
 | some p,some q=>some (p∧q)
def impO (b:Bool):Option Prop→Option Prop
 | none=>none
 | some p=>some (b=true→p)
def Z9 (g:Bool) (t1:Nat→TV):List Nat→List (Nat × TV)→List (Nat × TV)
 | [],t=>t
 | d::ds,t=>(d,.g g (t1 d))::Z9 g t1 ds t
abbrev Log:=List (List Nat × List Nat)
mutual
def TStm.runS (Γ:List TRow) (h:List (Nat × TBlk)) (nx i:Nat):TStm→List (Nat × TV)→Option (Option Prop × List (Nat × TV) × Log)
 | .op d o,t=>match Qh Γ (lkT t) (lkB h) (nx+16*i) o with
  | some ⟨pre,v,[]⟩=>match d with
   | some d=>some (pre,(d,v)::t,[(acc (Opd.ev fun s=>(lkT t s).emb) o.er,[])])
   | none=>none
  | _=>none
 | .grp s w ss d x,t=>match lkT t s with
  | .c .bool b=>bif Ze ss []&&!((Qf ss).elem s) then (match QW Γ h nx i ss t with
   | some (p,t1,l)=>match x.ev (lkT t1) with
    | .c .bool v=>some (impO (selB w b (!b)) p,(d,.c .bool (selB w (b&&v) (b||v)))::Z9 (selB w b (!b)) (lkT t1) (Qf ss) t,l++[([],[])])
    | _=>none
   | none=>none) else none
  | _=>none
 | .gw _ _ _ _ _ _ _,_=>none
def QW (Γ:List TRow) (h:List (Nat × TBlk)) (nx i:Nat):List TStm→List (Nat × TV)→Option (Option Prop × List (Nat × TV) × Log)
 | [],t=>some (none,t,[])
 | x::xs,t=>match x.runS Γ h nx i t with
  | some (p,t1,l)=>match QW Γ h nx (i+x.len) xs t1 with
   | some (q,t2,m)=>some (ZP p q,t2,l++m)
   | none=>none
  | none=>none
end
def TSt.app (σ:TSt) (d:Option Nat) (v:TV) (bl:List (Nat × TBlk)):TSt :=
 ⟨match d with | some d=>(d,v)::σ.t | none=>σ.t,bl.reverse++σ.h,σ.nx⟩
def Yp (g:Bool):TV→TV→Option TV
 | .c t x,.c t' y=>if e:t'.beq t=true then some (.c t (cond g x (YT e y))) else none
 | _,_=>none
def QY (g:Bool):List TV→List TV→Option (List TV)
 | [],[]=>some []
 | x::xs,y::ys=>match Yp g x y with
  | some z=>match QY g xs ys with
   | some zs=>some (z::zs)
   | none=>none
  | none=>none
 | _,_=>none
def QK (g:Bool) (h:List (Nat × TBlk)):List (Nat × TBlk)→Option (List (Nat × TBlk))
 | []=>some []
 | (i,.box cs)::r=>match lkB h i with
  | .box cs0=>match QY g cs cs0 with
   | some zs=>match QK g h r with
    | some r'=>some ((i,.box zs)::r')
    | none=>none
   | none=>none
  | _=>none
 | _::_=>none
def QaX (Γ:List TRow) (i s:Nat) (w:Bool) (ss:List TStm) (d2:Nat) (o:TOp) (d:Nat) (x:TOpd) (σ:TSt):Option (Option Prop × TSt × Log) :=
 match lkT σ.t s with
 | .c .bool b=>bif (Ze ss []&&!((Qf ss).elem s))&&!(Nat.beq s d2) then (match QW Γ σ.h σ.nx i ss σ.t with
  | some (p,t1,l)=>match Qh Γ (lkT t1) (lkB σ.h) (σ.nx+16*(i+lenL ss)) o with
   | some ⟨pre,v,bl⟩=>match QK (selB w b (!b)) σ.h bl with
    | some bl'=>match x.ev (lkT ((d2,v)::t1)) with
     | .c .bool xv=>some (impO (selB w b (!b)) (ZP p pre),⟨(d,.c .bool (selB w (b&&xv) (b||xv)))::Z9 (selB w b (!b)) (lkT ((d2,v)::t1)) (Qf ss++[d2]) σ.t,bl'.reverse++σ.h,σ.nx⟩,
       l++[(acc (Opd.ev fun s=>(lkT t1 s).emb) o.er,bl.map Prod.fst),([],[])])
     | _=>none
    | none=>none
   | none=>none
  | none=>none) else none
 | _=>none
def runR (Γ:List TRow):Nat→List TStm→TSt→Option (Option Prop × TSt × Log)
 | _,[],σ=>some (none,σ,[])
 | i,.op d o::r,σ=>match Qh Γ σ.T σ.H (σ.nx+16*i) o with
  | some ⟨pre,v,bl⟩=>match runR Γ (i+1) r (σ.app d v bl) with
   | some (q,σ',m)=>some (ZP pre q,σ',(acc (Opd.ev fun s=>(σ.T s).emb) o.er,bl.map Prod.fst)::m)
   | none=>none
  | none=>none
 | i,.grp s w ss d x::r,σ=>match (TStm.grp s w ss d x).runS Γ σ.h σ.nx i σ.t with
  | some (p,t1,l)=>match runR Γ (i+(lenL ss+1)) r ⟨t1,σ.h,σ.nx⟩ with
   | some (q,σ',m)=>some (ZP p q,σ',l++m)
   | none=>none
  | none=>none
 | i,.gw s w ss d2 o d x::r,σ=>match QaX Γ i s w ss d2 o d x σ with
  | some (p,σ1,l)=>match runR Γ (i+(lenL ss+2)) r σ1 with
   | some (q,σ',m)=>some (ZP p q,σ',l++m)
   | none=>none
  | none=>none
theorem Yg {p q:Option Prop}:holds (ZP p q)↔holds p∧holds q:=by
 cases p <;> cases q <;> simp [ZP,holds]
theorem Qb1 {b:Bool} {p:Option Prop}:holds (impO b p)↔(b=true→holds p):=by
 cases p <;> simp [impO,holds]
theorem Qbm {j d:Nat} (h:¬ j=d):Nat.beq j d=false:=by
 cases hb:Nat.beq j d with
 | true=>exact absurd (Nat.eq_of_beq_eq_true hb) h
 | false=>rfl
theorem Q5 (d:Nat) (v:TV) (t:List (Nat × TV)):lkT ((d,v)::t)=upd (lkT t) d v:=by
 funext j
 simp only [lkT,upd]
 by_cases h:j=d
 ·subst h;simp
 ·rw [if_neg h,Qbm h];rfl
theorem Je (d:Nat) (v:TBlk) (t:List (Nat × TBlk)):lkB ((d,v)::t)=upd (lkB t) d v:=by
 funext j
 simp only [lkB,upd]
 by_cases h:j=d
 ·subst h;simp
 ·rw [if_neg h,Qbm h];rfl
theorem QfS (T:Nat→TV) (d:Nat) (v:TV):(fun s=>(upd T d v s).emb)=upd (fun s=>(T s).emb) d v.emb:=by
 funext s;simp only [upd];split <;> rfl
theorem Qgc (T:Nat→TBlk) (d:Nat) (v:TBlk):(fun s=>(upd T d v s).emb)=upd (fun s=>(T s).emb) d v.emb:=by
 funext s;simp only [upd];split <;> rfl
theorem Qaf:∀ (bl:List (Nat × TBlk)) (h:List (Nat × TBlk)),(fun i=>(lkB (bl.reverse++h) i).emb)=updL (fun i=>(lkB h i).emb) (bl.map embP)
 | [],h=>rfl
 | (d,v)::bl,h=>by
  rw [List.reverse_cons,List.append_assoc,List.singleton_append,Qaf bl ((d,v)::h),List.map_cons,embP,updL,Je,Qgc]
theorem QaJ (σ:TSt) (d:Option Nat) (v:TV) (bl:List (Nat × TBlk)):(σ.app d v bl).emb=σ.emb.app d ⟨v.emb,bl.map embP⟩:=by
 unfold TSt.app TSt.emb St.app TSt.T TSt.H
 simp only [Qaf,putO]
 cases d with
 | none=>rfl
 | some d=>simp only [Q5,QfS]
theorem QcG (bl:List (Nat × TBlk)):keys (bl.map embP)=bl.map Prod.fst:=by
 simp [keys,embP,List.map_map,Function.comp_def]
theorem Zk {Γ:Tab}:∀ (l m:List AO) (σ:St),Qq Γ (l++m) σ=match Qq Γ l σ with
  | some (σ',a)=>match Qq Γ m σ' with
   | some (σ'',b)=>some (σ'',a++b)
   | none=>none
  | none=>none
 | [],m,σ=>by
  simp only [List.nil_append,Qq]
  cases Qq Γ m σ with
  | none=>rfl
  | some x=>obtain ⟨a,b⟩:=x;rfl
 | o::l,m,σ=>by
  simp only [List.cons_append,Qq]
  cases Qj Γ o σ with
  | none=>rfl
  | some x =>
   obtain ⟨σ',a,w⟩:=x
   simp only [Zk l m σ']
   cases Qq Γ l σ' with
   | none=>rfl
   | some x =>
    obtain ⟨σ2,b⟩:=x
    simp only
    cases Qq Γ m σ2 with
    | none=>rfl
    | some y=>obtain ⟨σ3,c⟩:=y;rfl
def Off (t:Nat→AV) (s:Nat) (w:Bool):Prop:=t s = .t []∨∃ c,t s = .c (.v (.bool c))∧c≠w
def offT (ds:List Nat) (t:Nat→AV):Nat→AV:=fun j=>if j∈ds then .t [] else t j
theorem J4 {Γ:Tab} {d:Option Nat} {op:AOp} {s:Nat} {w:Bool} {off:Nat} {σ:St} (h:Off σ.t s w) :
  Qj Γ ⟨d,op,some (s,w),off⟩ σ=some (⟨putO σ.t d (.t []),σ.h,σ.nx⟩,[],[]):=by
 unfold Qj
 rcases h with h | ⟨c,h,hc⟩
 ·simp only [h]
 ·simp only [h,if_neg hc]
theorem Js (a b:List Nat) (t:Nat→AV):offT (a++b) t=offT b (offT a t):=by
 funext j
 simp only [offT,List.mem_append]
 by_cases h1:j∈b
 ·simp [h1]
 ·by_cases h2:j∈a <;> simp [h1,h2]
theorem YF (d:Nat) (t:Nat→AV):upd t d (.t [])=offT [d] t:=by
 funext j
 simp only [offT,upd,List.mem_singleton]
theorem Off.offT {t:Nat→AV} {s:Nat} {w:Bool} (h:Off t s w) (ds:List Nat) (hs:s∉ds):Off (offT ds t) s w:=by
 have:Am.offT ds t s=t s:=by simp [Am.offT,hs]
 unfold Off
 rw [this]
 exact h
theorem YE {Γ:Tab} {h:Nat→Blk} {nx:Nat}:∀ (ss:List TStm) (ds:List Nat) (i s:Nat) (w:Bool) (t:Nat→AV),Ze ss ds=true→(∀ d,d∈ds→t d = .t [])→Off t s w→s∉Qf ss →
  ∃ l:Log,Qq Γ (erL (some (s,w)) i ss) ⟨t,h,nx⟩=some (⟨offT (Qf ss) t,h,nx⟩,l)∧l.length=lenL ss∧∀ x,x∈l→x=([],[])
 | [],ds,i,s,w,t,hk,hds,ho,hs=>by
  refine ⟨[],?_,rfl,by simp⟩
  show some (_,_)=_
  have:offT [] t=t:=by funext j;simp [offT]
  rw [Qf,this]
 | .op (some d) o::r,ds,i,s,w,t,hk,hds,ho,hs=>by
  simp only [Ze,TStm.offK,TStm.dsts,List.singleton_append,Bool.true_and] at hk
  simp only [Qf,TStm.dsts,List.mem_append,not_or,List.mem_singleton] at hs
  have ho':Off (upd t d (.t [])) s w:=by rw [YF];exact ho.offT [d] (by simpa using hs.1)
  obtain ⟨l,h1,h2,h3⟩:=YE (Γ:=Γ) (h:=h) (nx:=nx) r (d::ds) (i+1) s w (upd t d (.t [])) hk (fun d' hd'=>by
   simp only [upd]
   split
   ·rfl
   ·rename_i hne
    rcases List.mem_cons.1 hd' with rfl | hd'
    ·exact absurd rfl hne
    ·exact hds d' hd') ho' hs.2
  refine ⟨([],[])::l,?_,by simp [lenL,TStm.len,h2,Nat.add_comm],by simpa using h3⟩
  simp only [erL,TStm.er,TStm.len,List.singleton_append,Qq,J4 (σ:=⟨t,h,nx⟩) ho,putO,h1,Qf,TStm.dsts]
  rw [YF,← Js]
  rfl
 | .grp s2 w2 ss d x::r,ds,i,s,w,t,hk,hds,ho,hs=>by
  simp only [Ze,TStm.offK,TStm.dsts,Bool.and_eq_true,Bool.not_eq_true'] at hk
  obtain ⟨⟨⟨k1,k2⟩,k3⟩,k4⟩:=hk
  have k1:s2∈ds:=by simpa using k1
  have k2:s2∉Qf ss:=by simpa using k2
  simp only [Qf,TStm.dsts,List.mem_append,not_or,List.mem_singleton] at hs
  obtain ⟨l1,h1,h2,h3⟩:=YE (Γ:=Γ) (h:=h) (nx:=nx) ss ds i s2 w2 t k3 hds (.inl (hds s2 k1)) k2
  have ho1:Off (offT (Qf ss) t) s w:=ho.offT _ hs.1.1
  have ho2:Off (upd (offT (Qf ss) t) d (.t [])) s w:=by rw [YF];exact ho1.offT [d] (by simpa using hs.1.2)
  obtain ⟨l2,h4,h5,h6⟩:=YE (Γ:=Γ) (h:=h) (nx:=nx) r ((Qf ss++[d])++ds) (i+(lenL ss+1)) s w (upd (offT (Qf ss) t) d (.t [])) k4 (fun d' hd'=>by
   simp only [upd]
   split
   ·rfl
   ·rename_i hne
    simp only [offT]
    split
    ·rfl
    ·rename_i hn
     simp only [List.mem_append,List.mem_singleton] at hd'
     rcases hd' with (hd' | hd') | hd'
     ·exact absurd hd' hn
     ·exact absurd hd' hne
     ·exact hds d' hd') ho2 hs.2
  refine ⟨l1++[([],[])]++l2,?_,by simp [lenL,TStm.len,h2,h5];omega,fun y hy=>?_⟩
  ·simp only [erL,TStm.er,TStm.len,List.append_assoc,Zk,h1,List.singleton_append,Qq,J4 (σ:=⟨offT (Qf ss) t,h,nx⟩) ho1,putO,h4,Qf,TStm.dsts]
   rw [YF,← Js,← Js]
   rfl
  ·rcases List.mem_append.1 hy with hy | hy
   ·rcases List.mem_append.1 hy with hy | hy
    ·exact h3 y hy
    ·simpa using hy
   ·exact h6 y hy
 | .op none o::r,ds,i,s,w,t,hk,hds,ho,hs=>by simp [Ze,TStm.offK] at hk
 | .gw _ _ _ _ _ _ _::r,ds,i,s,w,t,hk,hds,ho,hs=>by simp [Ze,TStm.offK] at hk
theorem Z8 (g:Bool) (t1:Nat→TV):∀ (ds:List Nat) (t:List (Nat × TV)) (j:Nat),lkT (Z9 g t1 ds t) j=if j∈ds then .g g (t1 j) else lkT t j
 | [],t,j=>by simp [Z9]
 | d::ds,t,j=>by
  simp only [Z9,Q5,upd]
  by_cases h:j=d
  ·subst h;simp
  ·rw [if_neg h,Z8 g t1 ds t j]
   simp [h]
mutual
theorem QcN {Γ:List TRow} {h:List (Nat × TBlk)} {nx:Nat}:∀ (x:TStm) {i:Nat} {t t1:List (Nat × TV)} {p:Option Prop} {l:Log},x.runS Γ h nx i t=some (p,t1,l)→∀ j,j∉x.dsts→lkT t1 j=lkT t j
 | .op d o,i,t,t1,p,l,e,j,hj=>by
  rw [TStm.runS] at e
  split at e
  ·split at e
   ·cases e
    simp only [TStm.dsts,List.mem_singleton] at hj
    rw [Q5]
    simp [upd,hj]
   ·cases e
  ·cases e
 | .grp s w ss d x,i,t,t1,p,l,e,j,hj=>by
  rw [TStm.runS] at e
  split at e
  rotate_left
  ·cases e
  obtain ⟨_,e⟩:=Qo e
  split at e
  rotate_left
  ·cases e
  split at e
  rotate_left
  ·cases e
  cases e
  simp only [TStm.dsts,List.mem_append,List.mem_singleton,not_or] at hj
  rw [Q5]
  simp only [upd,hj.2,if_false]
  rw [Z8,if_neg hj.1]
 | .gw _ _ _ _ _ _ _,i,t,t1,p,l,e,j,hj=>by rw [TStm.runS] at e;cases e
theorem QaU {Γ:List TRow} {h:List (Nat × TBlk)} {nx:Nat}:∀ (ss:List TStm) {i:Nat} {t t1:List (Nat × TV)} {p:Option Prop} {l:Log},QW Γ h nx i ss t=some (p,t1,l)→∀ j,j∉Qf ss→lkT t1 j=lkT t j
 | [],i,t,t1,p,l,e,j,hj=>by rw [QW] at e;cases e;rfl
 | x::xs,i,t,t1,p,l,e,j,hj=>by
  rw [QW] at e
  split at e
  rotate_left
  ·cases e
  rename_i h1
  split at e
  rotate_left
  ·cases e
  rename_i h2
  cases e
  simp only [Qf,List.mem_append,not_or] at hj
  rw [QaU xs h2 j hj.2,QcN x h1 j hj.1]
end
def QE (l' l:List (List Nat × List Nat)):Prop:=l'.length=l.length∧∀ (k:Nat) (a:List Nat × List Nat),l'[k]? = some a→a=([],[])∨l[k]? = some a
theorem QE.refl (l:Log):QE l l:=⟨rfl,fun _ _ h=>.inr h⟩
theorem QE.off {l' l:Log} (h:l'.length=l.length) (h2:∀ x,x∈l'→x=([],[])):QE l' l:=⟨h,fun _ a ha=>.inl (h2 a (List.mem_of_getElem? ha))⟩
theorem QE.append {a a' b b':Log} (h:QE a' a) (h2:QE b' b):QE (a'++b') (a++b):=by
 refine ⟨by simp [h.1,h2.1],fun k x hk=>?_⟩
 rw [List.getElem?_append] at hk ⊢
 rw [h.1] at hk
 split at hk
 ·rename_i hlt;rw [if_pos hlt];exact (h.2 k x hk)
 ·rename_i hlt;rw [if_neg hlt];exact (h2.2 _ x hk)
theorem Qhe {l' l:Log} {U:List (Nat × Nat)} (h:QE l' l) (hn:ZZ l U=true):ZZ l' U=true:=by
 unfold ZZ at hn ⊢
 rw [List.all_eq_true] at hn ⊢
 rintro ⟨i,j⟩ hij
 have:=hn (i,j) hij
 simp only at this ⊢
 split
 rotate_left
 ·rfl
 rename_i a w a' w' h1 h2
 rcases h.2 i _ h1 with e1 | e1
 ·cases e1
  simp [Q6]
 ·rcases h.2 j _ h2 with e2 | e2
  ·cases e2
   simp [Q6]
  ·rw [e1,e2] at this
   exact this
mutual
theorem Qgy {Γ:List TRow} {h:List (Nat × TBlk)} {nx:Nat}:∀ (x:TStm) {i:Nat} {t t1:List (Nat × TV)} {p:Option Prop} {l:Log},x.runS Γ h nx i t=some (p,t1,l)→l.length=x.len
 | .op d o,i,t,t1,p,l,e=>by
  rw [TStm.runS] at e
  split at e
  ·split at e
   ·cases e;rfl
   ·cases e
  ·cases e
 | .grp s w ss d x,i,t,t1,p,l,e=>by
  rw [TStm.runS] at e
  split at e
  rotate_left
  ·cases e
  obtain ⟨_,e⟩:=Qo e
  split at e
  rotate_left
  ·cases e
  rename_i hr
  split at e
  rotate_left
  ·cases e
  cases e
  simp [TStm.len,Qae ss hr]
 | .gw _ _ _ _ _ _ _,i,t,t1,p,l,e=>by rw [TStm.runS] at e;cases e
theorem Qae {Γ:List TRow} {h:List (Nat × TBlk)} {nx:Nat}:∀ (ss:List TStm) {i:Nat} {t t1:List (Nat × TV)} {p:Option Prop} {l:Log},QW Γ h nx i ss t=some (p,t1,l)→l.length=lenL ss
 | [],i,t,t1,p,l,e=>by rw [QW] at e;cases e;rfl
 | x::xs,i,t,t1,p,l,e=>by
  rw [QW] at e
  split at e
  rotate_left
  ·cases e
  rename_i h1
  split at e
  rotate_left
  ·cases e
  rename_i h2
  cases e
  simp [lenL,Qgy x h1,Qae xs h2]
end
theorem Qb4 {Γ:List TRow} {h:List (Nat × TBlk)} {nx:Nat} {ss:List TStm} {i:Nat} {t t1:List (Nat × TV)} {p:Option Prop} {l:Log} (e:QW Γ h nx i ss t=some (p,t1,l)):l.length=lenL ss:=Qae ss e
section
variable {Γ:List TRow} {ΓA:Tab} (hΓ:Y0 Γ ΓA) {h:List (Nat × TBlk)} {nx:Nat}
def OnG (g:Option (Nat × Bool)) (t:List (Nat × TV)):Prop:=match g with
 | none=>True
 | some (s,w)=>lkT t s = .c .bool w
def outG (g:Option (Nat × Bool)) (ds:List Nat):Prop:=match g with
 | none=>True
 | some (s,_)=>s∉ds
theorem OnG.next {g:Option (Nat × Bool)} {t t1:List (Nat × TV)} {ds:List Nat} (h:OnG g t) (ho:outG g ds) (hk:∀ j,j∉ds→lkT t1 j=lkT t j):OnG g t1:=by
 cases g with
 | none=>trivial
 | some x=>obtain ⟨s,w⟩:=x;exact (hk s ho).trans h
theorem Yo {op:AOp} {d:Option Nat} {g:Option (Nat × Bool)} {off:Nat} {t:List (Nat × TV)} (hg:OnG g t) :
  Qj ΓA ⟨d,op,g,off⟩ (TSt.emb ⟨t,h,nx⟩)=match Qc ΓA (Opd.ev fun s=>(lkT t s).emb) (fun i=>(lkB h i).emb) (nx+off) op with
   | some e=>some ((TSt.emb ⟨t,h,nx⟩).app d e,acc (Opd.ev fun s=>(lkT t s).emb) op,keys e.blks)
   | none=>none:=by
 unfold Qj
 cases g with
 | none=>rfl
 | some x =>
  obtain ⟨s,w⟩:=x
  have:(TSt.emb ⟨t,h,nx⟩).t s = .c (.v (.bool w)):=by
   show (lkT t s).emb=_
   rw [show lkT t s = .c .bool w from hg]
   rfl
  simp only [this,if_true]
  rfl
include hΓ in
mutual
theorem Qc0:∀ (x:TStm) {i:Nat} {g:Option (Nat × Bool)} {t t1:List (Nat × TV)} {p:Option Prop} {l:Log},x.runS Γ h nx i t=some (p,t1,l)→holds p→OnG g t→outG g x.dsts →
  ∃ l',Qq ΓA (x.er g i) (TSt.emb ⟨t,h,nx⟩)=some (TSt.emb ⟨t1,h,nx⟩,l')∧QE l' l
 | .op d o,i,g,t,t1,p,l,e,hp,hg,ho=>by
  rw [TStm.runS] at e
  split at e
  rotate_left
  ·cases e
  rename_i pre v he
  split at e
  rotate_left
  ·cases e
  rename_i d
  cases e
  have h1:=Qak hΓ he hp
  refine ⟨[(acc (Opd.ev fun s=>(lkT t s).emb) o.er,[])],?_,.refl _⟩
  simp only [TStm.er,Qq,Yo (ΓA:=ΓA) hg,h1,TE.emb,List.map_nil,keys]
  congr 2
  have:=QaJ ⟨t,h,nx⟩ (some d) v []
  simp only [List.map_nil] at this
  exact this.symm
 | .grp s w ss d x,i,g,t,t1,p,l,e,hp,hg,ho=>by
  rw [TStm.runS] at e
  split at e
  rotate_left
  ·cases e
  rename_i b hb
  obtain ⟨q,e⟩:=Qo e
  simp only [Bool.and_eq_true,Bool.not_eq_true'] at q
  have q2:s∉Qf ss:=by simpa using q.2
  split at e
  rotate_left
  ·cases e
  rename_i p' t1 l1 hr
  split at e
  rotate_left
  ·cases e
  rename_i v hv
  cases e
  have ho1:outG g (Qf ss):=by
   cases g with
   | none=>trivial
   | some y=>obtain ⟨sg,wg⟩:=y;simp only [outG,TStm.dsts,List.mem_append,not_or] at ho ⊢;exact ho.1
  have hout:=QaU ss hr
  rw [Qb1] at hp
  by_cases hon:(selB w b (!b))=true
  ·have hbw:b=w:=by cases b <;> cases w <;> simp [selB] at hon ⊢
   obtain ⟨l',h1,h2⟩:=QaV ss (g:=some (s,w)) hr (hp hon) (by show lkT t s=_;rw [hb,hbw]) q2
   have hg1:OnG g t1:=hg.next ho1 hout
   have hs1:lkT t1 s = .c .bool b:=by rw [hout s q2,hb]
   refine ⟨l'++[(acc (Opd.ev fun s=>(lkT t1 s).emb) (QF w s x).er,[])],?_,h2.append ⟨rfl,fun k a ha=>?_⟩⟩
   ·simp only [TStm.er,Zk,h1,Qq,Yo (ΓA:=ΓA) hg1]
    have hd:Qc ΓA (Opd.ev fun s=>(lkT t1 s).emb) (fun i=>(lkB h i).emb) (nx+16*(i+lenL ss)) (QF w s x).er=some ⟨.c (.v (.bool (selB w (b&&v) (b||v)))),[]⟩:=by
     subst hbw
     have e1:(TOpd.s s).ev (lkT t1) = .c .bool b:=hs1
     cases b
     ·simp only [QF,Bool.false_eq_true,if_false,TOp.er,Qc,Qn,e1,hv]
      rfl
     ·simp only [QF,if_true,TOp.er,Qc,Qn,e1,hv]
      rfl
    simp only [hd,keys,List.map_nil]
    congr 2
    rw [hon]
    unfold St.app TSt.emb TSt.T TSt.H
    simp only [putO,updL]
    congr 1
    funext j
    rw [Q5,upd,upd]
    split
    ·rfl
    ·rw [Z8]
     split
     ·rfl
     ·rename_i hj;rw [hout j hj]
   ·cases k with
    | zero =>
     left
     simp only [List.getElem?_cons_zero,Option.some.injEq] at ha
     rw [← ha]
     cases w <;> rfl
    | succ k=>simp at ha
  ·have hon':(selB w b (!b))=false:=by simpa using hon
   have hbw:b≠w:=by rintro rfl;cases b <;> simp [selB] at hon
   obtain ⟨l',h1,h2,h3⟩:=YE (Γ:=ΓA) (h:=fun i=>(lkB h i).emb) (nx:=nx) ss [] i s w (fun s=>(lkT t s).emb) q.1 (by simp) (.inr ⟨b,by show (lkT t s).emb=_;rw [hb];rfl,hbw⟩) q2
   have hoff:∀ s',s'∉Qf ss→offT (Qf ss) (fun s=>(lkT t s).emb) s'=(lkT t s').emb:=fun s' hs'=>by simp [offT,hs']
   have hstep:∀ op,Qj ΓA ⟨some d,op,g,16*(i+lenL ss)⟩ ⟨offT (Qf ss) (fun s=>(lkT t s).emb),fun i=>(lkB h i).emb,nx⟩=match Qc ΓA (Opd.ev (offT (Qf ss) fun s=>(lkT t s).emb)) (fun i=>(lkB h i).emb) (nx+16*(i+lenL ss)) op with
     | some e=>some (St.app ⟨offT (Qf ss) (fun s=>(lkT t s).emb),fun i=>(lkB h i).emb,nx⟩ (some d) e,acc (Opd.ev (offT (Qf ss) fun s=>(lkT t s).emb)) op,keys e.blks)
     | none=>none:=by
    intro op
    unfold Qj
    cases g with
    | none=>rfl
    | some y =>
     obtain ⟨sg,wg⟩:=y
     have:offT (Qf ss) (fun s=>(lkT t s).emb) sg = .c (.v (.bool wg)):=by
      rw [hoff sg ho1,show lkT t sg = .c .bool wg from hg];rfl
     simp only [this,if_true]
     rfl
   refine ⟨l'++[([],[])],?_,(QE.off (by rw [h2,Qb4 hr]) h3).append (.refl _)⟩
   simp only [TStm.er,Zk]
   rw [show TSt.emb ⟨t,h,nx⟩=⟨fun s=>(lkT t s).emb,fun i=>(lkB h i).emb,nx⟩ from rfl,h1]
   simp only [Qq,hstep]
   have hd:Qc ΓA (Opd.ev (offT (Qf ss) fun s=>(lkT t s).emb)) (fun i=>(lkB h i).emb) (nx+16*(i+lenL ss)) (QF w s x).er=some ⟨.c (.v (.bool (selB w (b&&v) (b||v)))),[]⟩:=by
    have hs1:offT (Qf ss) (fun s=>(lkT t s).emb) s = .c (.v (.bool b)):=by rw [hoff s q2,hb];rfl
    cases w <;> cases b <;> first
     | exact absurd rfl hbw
     | (simp only [QF,Bool.false_eq_true,if_false,if_true,TOp.er,Qc,TOpd.er,Opd.ev,hs1];rfl)
   simp only [hd,keys,List.map_nil]
   have hacc:acc (Opd.ev (offT (Qf ss) fun s=>(lkT t s).emb)) (QF w s x).er=[]:=by cases w <;> rfl
   rw [hacc,hon']
   congr 2
   unfold St.app TSt.emb TSt.T TSt.H
   simp only [putO,updL]
   congr 1
   funext j
   rw [Q5,upd,upd]
   split
   ·rfl
   ·rw [Z8]
    simp only [offT]
    split
    ·rfl
    ·rfl
 | .gw _ _ _ _ _ _ _,i,g,t,t1,p,l,e,hp,hg,ho=>by rw [TStm.runS] at e;cases e
theorem QaV:∀ (ss:List TStm) {i:Nat} {g:Option (Nat × Bool)} {t t1:List (Nat × TV)} {p:Option Prop} {l:Log},QW Γ h nx i ss t=some (p,t1,l)→holds p→OnG g t→outG g (Qf ss) →
  ∃ l',Qq ΓA (erL g i ss) (TSt.emb ⟨t,h,nx⟩)=some (TSt.emb ⟨t1,h,nx⟩,l')∧QE l' l
 | [],i,g,t,t1,p,l,e,hp,hg,ho=>by rw [QW] at e;cases e;exact ⟨[],rfl,.refl _⟩
 | x::xs,i,g,t,t1,p,l,e,hp,hg,ho=>by
  rw [QW] at e
  split at e
  rotate_left
  ·cases e
  rename_i p1 t2 l1 h1
  split at e
  rotate_left
  ·cases e
  rename_i p2 t3 l2 h2
  cases e
  rw [Yg] at hp
  have ho':outG g x.dsts∧outG g (Qf xs):=by
   cases g with
   | none=>exact ⟨trivial,trivial⟩
   | some y=>obtain ⟨sg,wg⟩:=y;simp only [outG,Qf,List.mem_append,not_or] at ho ⊢;exact ho
  obtain ⟨l1',h3,h4⟩:=Qc0 x h1 hp.1 hg ho'.1
  obtain ⟨l2',h5,h6⟩:=QaV xs h2 hp.2 (hg.next ho'.1 (QcN x h1)) ho'.2
  exact ⟨l1'++l2',by simp only [erL,Zk,h3,h5],h4.append h6⟩
end
theorem QeI {x y z:TV} (e:Yp true x y=some z):z=x:=by
 unfold Yp at e
 split at e
 ·split at e
  ·cases e;rfl
  ·cases e
 ·cases e
theorem QcC:∀ {x y z:List TV},QY true x y=some z→z=x
 | [],[],z,e=>by simp only [QY] at e;cases e;rfl
 | x::xs,y::ys,z,e=>by
  simp only [QY] at e
  split at e
  rotate_left
  ·cases e
  rename_i h1
  split at e
  rotate_left
  ·cases e
  rename_i h2
  cases e
  rw [QeI h1,QcC h2]
 | [],_::_,z,e=>by simp [QY] at e
 | _::_,[],z,e=>by simp [QY] at e
theorem QdM {h:List (Nat × TBlk)}:∀ {bl bl':List (Nat × TBlk)},QK true h bl=some bl'→bl'=bl
 | [],bl',e=>by simp only [QK] at e;cases e;rfl
 | (i,.box cs)::r,bl',e=>by
  simp only [QK] at e
  split at e
  rotate_left
  ·cases e
  split at e
  rotate_left
  ·cases e
  rename_i h1
  split at e
  rotate_left
  ·cases e
  rename_i h2
  cases e
  rw [QcC h1,QdM h2]
 | (i,.none)::r,bl',e=>by simp [QK] at e
 | (i,.dead)::r,bl',e=>by simp [QK] at e
 | (i,.sl _ _ _ _)::r,bl',e=>by simp [QK] at e
theorem Qg3 {x y z:TV} (e:Yp false x y=some z):z=y:=by
 unfold Yp at e
 split at e
 ·split at e
  ·rename_i t x t' y h
   cases e
   have:=CT.beq_eq _ _ h
   subst this
   rfl
  ·cases e
 ·cases e
theorem QbJ:∀ {x y z:List TV},QY false x y=some z→z=y
 | [],[],z,e=>by simp only [QY] at e;cases e;rfl
 | x::xs,y::ys,z,e=>by
  simp only [QY] at e
  split at e
  rotate_left
  ·cases e
  rename_i h1
  split at e
  rotate_left
  ·cases e
  rename_i h2
  cases e
  rw [Qg3 h1,QbJ h2]
 | [],_::_,z,e=>by simp [QY] at e
 | _::_,[],z,e=>by simp [QY] at e
theorem Qd7 {h:List (Nat × TBlk)}:∀ {bl bl':List (Nat × TBlk)},QK false h bl=some bl'→updL (fun i=>(lkB h i).emb) (bl'.map embP)=fun i=>(lkB h i).emb
 | [],bl',e=>by simp only [QK] at e;cases e;rfl
 | (i,.box cs)::r,bl',e=>by
  simp only [QK] at e
  split at e
  rotate_left
  ·cases e
  rename_i cs0 h0
  split at e
  rotate_left
  ·cases e
  rename_i h1
  split at e
  rotate_left
  ·cases e
  rename_i h2
  cases e
  rw [QbJ h1,List.map_cons,embP,updL]
  show updL (upd (fun i=>(lkB h i).emb) i (TBlk.emb (.box cs0))) _=_
  have:upd (fun i=>(lkB h i).emb) i (TBlk.emb (.box cs0))=fun i=>(lkB h i).emb:=by
   funext j
   simp only [upd]
   split
   ·rename_i hj;rw [hj,← h0]
   ·rfl
  rw [this]
  exact Qd7 h2
 | (i,.none)::r,bl',e=>by simp [QK] at e
 | (i,.dead)::r,bl',e=>by simp [QK] at e
 | (i,.sl _ _ _ _)::r,bl',e=>by simp [QK] at e
include hΓ in
theorem Qhw {i s:Nat} {w:Bool} {ss:List TStm} {d2:Nat} {o:TOp} {d:Nat} {x:TOpd} {σ σ':TSt} {p:Option Prop} {l:Log} (e:QaX Γ i s w ss d2 o d x σ=some (p,σ',l)) (hp:holds p) :
  ∃ l',Qq ΓA ((TStm.gw s w ss d2 o d x).er none i) σ.emb=some (σ'.emb,l')∧QE l' l:=by
 obtain ⟨t,h,nx⟩:=σ
 unfold QaX at e
 split at e
 rotate_left
 ·cases e
 rename_i b hb
 obtain ⟨q,e⟩:=Qo e
 simp only [Bool.and_eq_true,Bool.not_eq_true'] at q
 obtain ⟨⟨q1,q2⟩,q3⟩:=q
 have q2:s∉Qf ss:=by simpa using q2
 have q3:¬ s=d2:=fun h=>by rw [h] at q3;simp at q3
 split at e
 rotate_left
 ·cases e
 rename_i p' t1 l1 hr
 split at e
 rotate_left
 ·cases e
 rename_i pre v bl he
 split at e
 rotate_left
 ·cases e
 rename_i bl' hm
 split at e
 rotate_left
 ·cases e
 rename_i xv hv
 cases e
 simp only at hb hr he hm ⊢
 have hout:=QaU ss hr
 rw [Qb1] at hp
 by_cases hon:(selB w b (!b))=true
 ·have hbw:b=w:=by cases b <;> cases w <;> simp [selB] at hon ⊢
  have hp:=hp hon
  rw [Yg] at hp
  obtain ⟨l',h1,h2⟩:=QaV hΓ ss (g:=some (s,w)) hr hp.1 (by show lkT t s=_;rw [hb,hbw]) q2
  have hs1:lkT t1 s = .c .bool b:=by rw [hout s q2,hb]
  have hd1:=Qak hΓ he hp.2
  rw [hon] at hm
  have hbl:=QdM hm
  subst hbl
  have hs2:lkT ((d2,v)::t1) s = .c .bool b:=by rw [Q5];simp [upd,q3,hs1]
  have hd:Qc ΓA (Opd.ev fun s=>(lkT ((d2,v)::t1) s).emb) (fun i=>(lkB (bl'.reverse++h) i).emb) (nx+16*(i+(lenL ss+1))) (QF w s x).er=some ⟨.c (.v (.bool (selB w (b&&xv) (b||xv)))),[]⟩:=by
   subst hbw
   have e1:(TOpd.s s).ev (lkT ((d2,v)::t1)) = .c .bool b:=hs2
   cases b
   ·simp only [QF,Bool.false_eq_true,if_false,TOp.er,Qc,Qn,e1,hv]
    rfl
   ·simp only [QF,if_true,TOp.er,Qc,Qn,e1,hv]
    rfl
  refine ⟨l'++[(acc (Opd.ev fun s=>(lkT t1 s).emb) o.er,bl'.map Prod.fst),(acc (Opd.ev fun s=>(lkT ((d2,v)::t1) s).emb) (QF w s x).er,[])],?_,h2.append ⟨rfl,fun k a ha=>?_⟩⟩
  ·simp only [TStm.er,Zk,h1,Qq,Yo (ΓA:=ΓA) (g:=some (s,w)) (t:=t1) (by show lkT t1 s=_;rw [hs1,hbw]),hd1,TE.emb,← QaJ]
   simp only [TSt.app,Yo (ΓA:=ΓA) (g:=none) trivial,hd,QcG]
   refine congrArg some (Prod.ext ?_ rfl)
   rw [hon]
   unfold St.app TSt.emb TSt.T TSt.H
   simp only [putO,updL]
   congr 1
   funext j
   rw [Q5 d,upd,upd]
   split
   ·rfl
   ·rw [Z8]
    split
    ·rfl
    ·rename_i hj
     rw [List.mem_append,List.mem_singleton,not_or] at hj
     rw [Q5,upd,if_neg hj.2,hout j hj.1]
  ·match k,ha with
   | 0,ha=>exact .inr ha
   | 1,ha =>
    left
    simp only [List.getElem?_cons_succ,List.getElem?_cons_zero,Option.some.injEq] at ha
    rw [← ha]
    cases w <;> rfl
   | k+2,ha=>simp at ha
 ·have hon':(selB w b (!b))=false:=by simpa using hon
  have hbw:b≠w:=by rintro rfl;cases b <;> simp [selB] at hon
  have hof:Off (fun s=>(lkT t s).emb) s w:=.inr ⟨b,by show (lkT t s).emb=_;rw [hb];rfl,hbw⟩
  obtain ⟨l',h1,h2,h3⟩:=YE (Γ:=ΓA) (h:=fun i=>(lkB h i).emb) (nx:=nx) ss [] i s w (fun s=>(lkT t s).emb) q1 (by simp) hof q2
  have hst:=fun op dd off=>J4 (Γ:=ΓA) (d:=dd) (op:=op) (off:=off) (σ:=⟨offT (Qf ss) (fun s=>(lkT t s).emb),fun i=>(lkB h i).emb,nx⟩) (hof.offT _ q2)
  rw [hon'] at hm
  have hbl:=Qd7 hm
  have hs1:offT (Qf ss++[d2]) (fun s=>(lkT t s).emb) s = .c (.v (.bool b)):=by
   have:s∉Qf ss++[d2]:=by simp [q2,q3]
   simp only [offT,this,if_false,hb];rfl
  refine ⟨l'++[([],[]),([],[])],?_,(QE.off (by rw [h2,Qb4 hr]) h3).append ⟨rfl,fun k a ha=>.inl ?_⟩⟩
  rotate_left
  ·match k,ha with
   | 0,ha=>simpa using ha.symm
   | 1,ha=>simpa using ha.symm
   | k+2,ha=>simp at ha
  simp only [TStm.er,Zk]
  rw [show TSt.emb ⟨t,h,nx⟩=⟨fun s=>(lkT t s).emb,fun i=>(lkB h i).emb,nx⟩ from rfl,h1]
  simp only [Qq,hst,putO]
  rw [YF,← Js]
  have hd:Qc ΓA (Opd.ev (offT (Qf ss++[d2]) fun s=>(lkT t s).emb)) (fun i=>(lkB h i).emb) (nx+16*(i+(lenL ss+1))) (QF w s x).er=some ⟨.c (.v (.bool (selB w (b&&xv) (b||xv)))),[]⟩:=by
   cases w <;> cases b <;> first
    | exact absurd rfl hbw
    | (simp only [QF,Bool.false_eq_true,if_false,if_true,TOp.er,Qc,TOpd.er,Opd.ev,hs1];rfl)
  have hacc:acc (Opd.ev (offT (Qf ss++[d2]) fun s=>(lkT t s).emb)) (QF w s x).er=[]:=by cases w <;> rfl
  simp only [Qj,hd,keys,List.map_nil,hacc,hon']
  congr 2
  unfold St.app TSt.emb TSt.T TSt.H
  simp only [putO,updL,Qaf,hbl]
  congr 1
  funext j
  rw [Q5,upd,upd]
  split
  ·rfl
  ·rw [Z8]
   simp only [offT]
   split
   ·rfl
   ·rfl
include hΓ in
theorem YD:∀ (ss:List TStm) {i:Nat} {σ σ':TSt} {p:Option Prop} {l:Log},runR Γ i ss σ=some (p,σ',l)→holds p→∃ l',Qq ΓA (erL none i ss) σ.emb=some (σ'.emb,l')∧QE l' l
 | [],i,σ,σ',p,l,e,hp=>by rw [runR] at e;cases e;exact ⟨[],rfl,.refl _⟩
 | .op d o::r,i,σ,σ',p,l,e,hp=>by
  rw [runR] at e
  split at e
  rotate_left
  ·cases e
  rename_i pre v bl he
  split at e
  rotate_left
  ·cases e
  rename_i q σ2 m h2
  cases e
  rw [Yg] at hp
  have h1:=Qak hΓ he hp.1
  obtain ⟨l',h3,h4⟩:=YD r h2 hp.2
  refine ⟨(acc (Opd.ev fun s=>(σ.T s).emb) o.er,bl.map Prod.fst)::l',?_,(QE.refl [(acc (Opd.ev fun s=>(σ.T s).emb) o.er,bl.map Prod.fst)]).append h4⟩
  obtain ⟨t,h,nx⟩:=σ
  simp only [erL,TStm.er,TStm.len,List.singleton_append,Qq,Yo (ΓA:=ΓA) (g:=none) (t:=t) trivial]
  have h1:Qc ΓA (Opd.ev fun s=>(lkT t s).emb) (fun i=>(lkB h i).emb) (nx+16*i) o.er=some (TE.emb ⟨pre,v,bl⟩):=h1
  rw [h1]
  simp only [TE.emb,QcG,← QaJ,h3]
  rfl
 | .grp s w ss d x::r,i,σ,σ',p,l,e,hp=>by
  rw [runR] at e
  split at e
  rotate_left
  ·cases e
  rename_i p1 t1 l1 h1
  split at e
  rotate_left
  ·cases e
  rename_i q σ2 m h2
  cases e
  rw [Yg] at hp
  obtain ⟨t,h,nx⟩:=σ
  obtain ⟨l1',h3,h4⟩:=Qc0 hΓ _ (g:=none) h1 hp.1 trivial trivial
  obtain ⟨l',h5,h6⟩:=YD r h2 hp.2
  refine ⟨l1'++l',?_,h4.append h6⟩
  simp only [erL,Zk,h3]
  rw [show (TStm.grp s w ss d x).len=lenL ss+1 from by rw [TStm.len],h5]
 | .gw s w ss d2 o d x::r,i,σ,σ',p,l,e,hp=>by
  rw [runR] at e
  split at e
  rotate_left
  ·cases e
  rename_i p1 σ1 l1 h1
  split at e
  rotate_left
  ·cases e
  rename_i q σ2 m h2
  cases e
  rw [Yg] at hp
  obtain ⟨l1',h3,h4⟩:=Qhw hΓ h1 hp.1
  obtain ⟨l',h5,h6⟩:=YD r h2 hp.2
  refine ⟨l1'++l',?_,h4.append h6⟩
  simp only [erL,Zk,h3]
  rw [show (TStm.gw s w ss d2 o d x).len=lenL ss+2 from by rw [TStm.len],h5]
end
theorem Qdt {Γ:Tab} {K:St→Prop}:∀ (l:List AO) {σ σ':St} {log:Log},Qq Γ l σ=some (σ',log)→K σ'→regK Γ l K σ
 | [],σ,σ',log,e,hk=>by simp only [Qq,Option.some.injEq,Prod.mk.injEq] at e;rw [e.1];exact hk
 | o::l,σ,σ',log,e,hk=>by
  simp only [Qq] at e
  split at e
  rotate_left
  ·cases e
  rename_i σ1 a w h1
  split at e
  rotate_left
  ·cases e
  rename_i σ2 m h2
  cases e
  have ih:=Qdt l h2 hk
  unfold Qj at h1
  rw [regK]
  clear h2
  split at h1
  ·rename_i hg
   split at h1
   rotate_left
   ·cases h1
   rename_i e he
   cases h1
   exact ih
  ·rename_i s wt hg
   split at h1
   ·rename_i c hc
    split at h1
    ·rename_i hcw
     split at h1
     rotate_left
     ·cases h1
     rename_i e he
     cases h1
     exact ⟨fun _=>ih,fun hn=>absurd hcw hn⟩
    ·rename_i hcw
     cases h1
     exact ⟨fun h=>absurd h hcw,fun _=>ih⟩
   ·rename_i hc
    cases h1
    exact ih
   ·cases h1
end Go.Proofs.Ytephkbajoofeoaa.Am

