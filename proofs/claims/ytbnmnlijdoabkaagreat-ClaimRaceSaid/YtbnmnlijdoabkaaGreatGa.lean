/-
  The abstract machine of this claim's proofs: values, memory, operations and code in a compact form, and an evaluator with a bound on its depth.
  and what goes with it.
  Conditions: none.
-/
import GoSem.Claims
import Derived.Orders
import Derived.Laws.CopyRow
import Derived.Laws.AppendOwn
import Derived.Below
import Derived.Laws.StructEq
import Derived.WideLaws
import Derived.WalkSpells

set_option linter.unusedSimpArgs false
set_option linter.unusedVariables false

namespace Go.Ab

inductive Tr (α:Type) where
 | nil
 | node (v:Option α) (l r:Tr α)
 deriving Inhabited

def bits (n:Nat):List Bool:=(List.range (n.log2+1)).map n.testBit

def Tr.getL {α:Type}:Tr α→List Bool→Option α
 | .nil,_=>none
 | .node v _ _,[]=>v
 | .node _ l r,b::bs=>if b then r.getL bs else l.getL bs

def Tr.setL {α:Type}:List Bool→α→Tr α→Tr α
 | [],a,.nil=>.node (some a) .nil .nil
 | [],a,.node _ l r=>.node (some a) l r
 | b::bs,a,.nil=>if b then .node none .nil (Tr.setL bs a .nil) else .node none (Tr.setL bs a .nil) .nil
 | b::bs,a,.node v l r=>if b then .node v l (Tr.setL bs a r) else .node v (Tr.setL bs a l) r

def Tr.get {α:Type} (t:Tr α) (n:Nat):Option α:=t.getL (bits n)
def Tr.set {α:Type} (t:Tr α) (n:Nat) (a:α):Tr α:=Tr.setL (bits n) a t

theorem bits_length (n:Nat):(bits n).length=n.log2+1:=by simp[bits]
theorem bits_inj {n m:Nat} (h:bits n=bits m):n=m:=by
 have hl:n.log2+1=m.log2+1:=by rw[← bits_length,← bits_length,h]
 apply Nat.eq_of_testBit_eq
 intro i
 by_cases hi:i<n.log2+1
 ·have h1:(bits n)[i]? = (bits m)[i]?:=by rw[h]
  have hi':i<m.log2+1:=by omega
  simp only[bits,List.getElem?_map] at h1
  rw[List.getElem?_range hi,List.getElem?_range hi'] at h1
  simpa using h1
 ·have e:∀ k:Nat,¬ i<k.log2+1→k.testBit i=false:=by
   intro k hk
   apply Nat.testBit_lt_two_pow
   have:k<2 ^ (k.log2+1):=Nat.lt_log2_self
   exact Nat.lt_of_lt_of_le this (Nat.pow_le_pow_right (by omega) (by omega))
  rw[e n hi,e m (by omega)]

theorem Tr.getL_setL {α:Type} (a:α):∀ (bs cs:List Bool) (t:Tr α),(Tr.setL bs a t).getL cs=if bs=cs then some a else t.getL cs:=by
 intro bs
 induction bs with
 | nil=>
  intro cs t
  cases t<;>cases cs<;>simp[Tr.setL,Tr.getL]
 | cons b bs ih=>
  intro cs t
  cases t<;>cases cs<;>cases b<;>simp[Tr.setL,Tr.getL]
  all_goals rename_i c cs;cases c<;>simp[Tr.getL,ih]

theorem Tr.get_set {α:Type} (t:Tr α) (n m:Nat) (a:α):(t.set n a).get m=if n=m then some a else t.get m:=by
 unfold Tr.get Tr.set
 rw[Tr.getL_setL]
 by_cases h:n=m
 ·simp[h]
 ·have:bits n≠bits m:=fun e=>h (bits_inj e)
  simp[h,this]
theorem Tr.get_set_eq {α:Type} (t:Tr α) (n:Nat) (a:α):(t.set n a).get n=some a:=by rw[Tr.get_set];simp
theorem Tr.get_nil {α:Type} (n:Nat):(Tr.nil:Tr α).get n=none:=by simp[Tr.get,Tr.getL]

inductive AV where
 | bool (b:Bool)
 | int (k:IntKind) (n:Int)
 | str (s:List UInt8)
 | nilp
 | ptr (b o:Nat)
 | nils
 | sl (b o sz len cap:Nat) (ex:Bool)
 | vs (es:List (List AV)) (z:Bool)
 | vp (es:List (List AV)) (i o:Nat)
 | nilm
 | mp (r:Nat)
 | nilf
 | fn (f:Fn) (first cap:List AV)
 | nili
 | ifc (t:TypeId) (v:AV)
 | agg (cs:List AV)
 | tup (vs:List AV)
 | lp (st o:Nat)
 deriving Inhabited

def AV.free:AV→Bool
 | .lp ..=>false
 | _=>true

def AV.one:AV→Bool
 | .agg _|.tup _|.lp ..=>false
 | _=>true

def AV.var:AV→Bool
 | .tup _|.lp ..=>false
 | _=>true

def AV.cells:AV→List AV
 | .agg cs=>cs
 | v=>[v]

inductive AObj where
 | cells (cs:List AV)
 | map (es:List (AV × AV))
 | dead
 deriving Inhabited

structure AH where
 objs:Tr AObj
 next:Nat
 lo:Nat

def AH.get (H:AH) (b:Nat):AObj:=(H.objs.get b).getD .dead
def AH.put (H:AH) (b:Nat) (o:AObj):AH:={ H with objs:=H.objs.set b o,lo:=if b<H.lo then b else H.lo }
def AH.new (H:AH) (o:AObj):AH:={ H with objs:=H.objs.set H.next o,next:=H.next+1 }

structure Env where
 m:Tr AV
 L:Tr (List AV)
 ln:Nat

def Env.get (e:Env) (t:Nat):AV:=(e.m.get t).getD (.tup [])
def Env.set (e:Env) (t:Nat) (v:AV):Env:={ e with m:=e.m.set t v }
def Env.put (e:Env) (t:Option Nat) (v:AV):Env:=match t with|some t=>e.set t v|none=>e
def Env.loc (e:Env) (cs:List AV):Env:={ e with L:=e.L.set e.ln cs,ln:=e.ln+1 }
def Env.putL (e:Env) (st:Nat) (cs:List AV):Env:={ e with L:=e.L.set st cs }

inductive Opd where
 | t (t:Nat)
 | c (v:AV)
 deriving Inhabited

inductive MOp where
 | mv (x:Opd)
 | pick (c a b:Opd)
 | alloc (zero:List AV)
 | allocL (zero:List AV)
 | box (x:Opd)
 | boxL (x:Opd)
 | build (zero:List AV) (parts:List (Nat × Nat × Opd))
 | bsl (sz len:Nat) (zero:List AV) (parts:List (Nat × Opd))
 | ld1 (a:Opd)
 | ldn (n:Nat) (a:Opd)
 | st1 (a v:Opd)
 | stn (n:Nat) (a v:Opd)
 | fld (off:Nat) (a:Opd)
 | idx (sz:Nat) (x i:Opd)
 | idxa (sz len:Nat) (x i:Opd)
 | prj (off n:Nat) (isagg:Bool) (x:Opd)
 | ixa (sz len:Nat) (isagg:Bool) (x i:Opd)
 | bin (op:BinOp) (x y:Opd)
 | eqb (neg:Bool) (x y:Opd)
 | eqg (neg:Bool) (ks:List Bool) (x y:Opd)
 | isn (neg:Bool) (x:Opd)
 | un (op:UnOp) (x:Opd)
 | conv (k:IntKind) (x:Opd)
 | mkfn (f:Fn) (first cap:List Opd)
 | ext (i:Nat) (x:Opd)
 | len (x:Opd)
 | slen (x:Opd)
 | lenc (n:Nat)
 | app (sz bytes:Nat) (q:Bool) (x y:Opd)
 | mksl (sz bytes:Nat) (zero:List AV) (len cap:Opd)
 | slc (sz:Nat) (x:Opd) (lo hi mx:Option Opd)
 | chk (x:Opd)
 | call (q:Bool) (f:Opd) (args:List Opd)
 | mkmap
 | mset (m k v:Opd)
 | mget (z:AV) (m k:Opd)
 | stuck
 | min2 (x y:Opd)
 | capz (x:Opd)
 | sla (n:Nat) (x:Opd)
 deriving Inhabited

structure MOper where
 dst:Option Nat
 guard:Option (Nat × Bool)
 op:MOp
 deriving Inhabited

def Opd.slots:Opd→List Nat
 | .t k=>[k]
 | .c _=>[]

def optSlots:Option Opd→List Nat
 | some x=>x.slots
 | none=>[]

def MOp.slots:MOp→List Nat
 | .mv x|.box x|.boxL x|.ld1 x|.ldn _ x|.fld _ x|.prj _ _ _ x|.isn _ x|.un _ x|.conv _ x|.ext _ x|.len x|.slen x|.capz x|.sla _ x|.chk x=>x.slots
 | .pick c a b|.mset c a b=>c.slots++a.slots++b.slots
 | .alloc _|.allocL _|.lenc _|.mkmap|.stuck=>[]
 | .build _ ps=>ps.flatMap fun p=>p.2.2.slots
 | .bsl _ _ _ ps=>ps.flatMap fun p=>p.2.slots
 | .st1 a v|.stn _ a v=>a.slots++v.slots
 | .idx _ x i|.idxa _ _ x i|.ixa _ _ _ x i|.mget _ x i=>x.slots++i.slots
 | .bin _ x y|.eqb _ x y|.eqg _ _ x y|.app _ _ _ x y|.mksl _ _ _ x y|.min2 x y=>x.slots++y.slots
 | .mkfn _ f c=>f.flatMap Opd.slots++c.flatMap Opd.slots
 | .slc _ x lo hi mx=>x.slots++optSlots lo++optSlots hi++optSlots mx
 | .call _ f as=>f.slots++as.flatMap Opd.slots

def MOper.looks (o:MOper):List Nat:=(match o.guard with|some (t,_)=>[t]|none=>[])++o.op.slots

def MOp.mem:MOp→Bool
 | .alloc _|.allocL _|.box _|.boxL _|.bsl ..|.ld1 _|.ldn ..|.st1 ..|.stn ..|.app ..|.mksl ..|.call ..|.mkmap|.mset ..|.mget ..|.sla ..|.stuck=>true
 | _=>false

def MOp.isSt:MOp→Bool
 | .st1 ..|.stn ..=>true
 | _=>false
def MOp.isApp:MOp→Bool
 | .app _ _ q _ _=>!q
 | _=>false
def MOp.turns (m:MOp):Bool:=m.isSt || m.isApp
def MOp.isLd:MOp→Bool
 | .ld1 ..|.ldn ..=>true
 | _=>false
def MOp.loud:MOp→Bool
 | .st1 ..|.stn ..|.mset ..|.stuck=>true
 | .call q ..|.app _ _ q ..=>!q
 | _=>false

def ldOf:MOp→Option (Opd × Nat)
 | .ld1 a=>some (a,1)
 | .ldn n a=>some (a,n)
 | _=>none

def stOf:MOp→Option (Opd × Nat)
 | .st1 a _=>some (a,1)
 | .stn n a _=>some (a,n)
 | _=>none

inductive MCode where
 | skip
 | ops (l:List MOper)
 | draw (l:List MOper) (chk:List (Nat × Nat))
 | seq (a b:MCode)
 | cond (c:Opd) (a b:MCode)
 | block (id:Nat) (b:MCode)
 | loop (b:MCode)
 | exit (id:Nat)
 | ret
 | ext (k:Nat)
 deriving Inhabited

inductive MRes where
 | t (t:Nat)
 | c1 (t:Nat)
 | cn (t n:Nat)
 deriving Inhabited

structure MFunc where
 nargs:Nat
 res:List MRes
 body:MCode
 pure:Bool:=false
 both:Bool:=false
 deriving Inhabited

def Env.raw (e:Env):Opd→AV
 | .t t=>e.get t
 | .c v=>v

def Env.val (e:Env) (x:Opd):Option AV:=if (e.raw x).free then some (e.raw x) else none

def slice (cs:List AV) (o n:Nat):Option (List AV):=if o+n≤cs.length then some ((cs.drop o).take n) else none

def splice (cs:List AV) (o:Nat) (vs:List AV):List AV:=cs.take o++vs++cs.drop (o+vs.length)

def AH.read (H:AH) (b o n:Nat):Option (List AV):=
 match H.get b with
 | .cells cs=>slice cs o n
 | _=>none

def AH.write (H:AH) (b o:Nat) (vs:List AV):Option AH:=
 match H.get b with
 | .cells cs=>if o+vs.length≤cs.length then some (H.put b (.cells (splice cs o vs))) else none
 | _=>none

def readAt (e:Env) (H:AH) (a:AV) (n:Nat):Option (List AV):=
 match a with
 | .ptr b o=>H.read b o n
 | .vp es i o=>match es[i]? with
  | some cs=>slice cs o n
  | none=>none
 | .lp st o=>match e.L.get st with
  | some cs=>slice cs o n
  | none=>none
 | _=>none

def writeAt (e:Env) (H:AH) (a:AV) (vs:List AV):Option (Env × AH):=
 match a with
 | .ptr b o=>(H.write b o vs).map fun H'=>(e,H')
 | .lp st o=>match e.L.get st with
  | some cs=>if o+vs.length≤cs.length then some (e.putL st (splice cs o vs),H) else none
  | none=>none
 | _=>none

def addOff (off:Nat) (a:AV):Option AV:=
 match a with
 | .ptr b o=>some (.ptr b (o+off))
 | .vp es i o=>some (.vp es i (o+off))
 | .lp st o=>some (.lp st (o+off))
 | _=>none

def fillA (cells:List AV):List (Nat × Nat × AV)→Option (List AV)
 | []=>some cells
 | (off,n,v)::rest=>if v.var=true∧v.cells.length=n∧off+n≤cells.length then fillA (splice cells off v.cells) rest else none

def repl (zero:List AV):Nat→List AV
 | 0=>[]
 | n+1=>zero++repl zero n

def aeqs:List Bool→List AV→List AV→Option Bool
 | [],[],[]=>some true
 | true::ks,.int k a::xs,.int k' b::ys=>if k=k' then (aeqs ks xs ys).map fun r=>(a==b) && r else none
 | false::ks,.bool a::xs,.bool b::ys=>(aeqs ks xs ys).map fun r=>(a==b) && r
 | _,_,_=>none

def abin (op:BinOp) (x y:AV):Option AV:=
 match x,y with
 | .int k a,.int k' b=>
  if k≠k' then none else
  match op with
  | .add=>some (.int k (k.wrap (a+b)))
  | .sub=>some (.int k (k.wrap (a - b)))
  | .mul=>some (.int k (k.wrap (a*b)))
  | .quo=>if b=0 then none else some (.int k (k.wrap (a.tdiv b)))
  | .rem=>if b=0 then none else some (.int k (a.tmod b))
  | .and=>some (.int k (k.wrap (BitVec.ofInt k.bits a &&& BitVec.ofInt k.bits b).toNat))
  | .or=>some (.int k (k.wrap (BitVec.ofInt k.bits a ||| BitVec.ofInt k.bits b).toNat))
  | .xor=>some (.int k (k.wrap (BitVec.ofInt k.bits a ^^^ BitVec.ofInt k.bits b).toNat))
  | .eql=>some (.bool (a==b))
  | .neq=>some (.bool (a != b))
  | .lss=>some (.bool (decide (a<b)))
  | .leq=>some (.bool (decide (a≤b)))
  | .gtr=>some (.bool (decide (a > b)))
  | .geq=>some (.bool (decide (a ≥ b)))
  | .shr=>if b<0 then none else some (.int k (a.fdiv (2 ^ (min b.toNat k.bits))))
  | _=>none
 | .str a,.str b=>
  match op with
  | .eql=>some (.bool (a==b))
  | .neq=>some (.bool (a != b))
  | _=>none
 | _,_=>none

def aun (op:UnOp) (x:AV):Option AV:=
 match op,x with
 | .neg,.int k n=>some (.int k (k.wrap (0 - n)))
 | .not,.bool b=>some (.bool !b)
 | _,_=>none

def elemsOf (H:AH) (sz:Nat):AV→Option (List AV)
 | .nils=>some []
 | .vs es _=>if es.all (·.length==sz) then some es.flatten else none
 | .sl b o sz' len _ _=>if len=0 then some [] else if sz'=sz then H.read b o (len*sz) else none
 | _=>none

def roomB:Nat:=140737488355328

def appA (H:AH) (sz bytes:Nat) (q:Bool) (x y:AV):Option (AV × AH):=
 match elemsOf H sz y with
 | none=>none
 | some new=>
  let m:=new.length / sz
  if m=0 then (match x with|.nils|.vs ..|.sl ..=>some (x,H)|_=>none) else
  let fresh (old:List AV) (H:AH):Option (AV × AH):=
   let len:=old.length / sz+m
   if len*bytes≤roomB then some (.sl H.next 0 sz len len false,H.new (.cells (old++new))) else none
  match x with
  | .nils=>fresh [] H
  | .vs [] true=>fresh [] H
  | .sl b o sz' len cap ex=>
   if ex=true∧cap=0 then fresh [] H else
   if sz'≠sz then none else
   if len+m≤cap then
    if q then none else (H.write b (o+len*sz) new).map fun H'=>(.sl b o sz (len+m) cap ex,H')
   else match H.read b o (len*sz) with
    | none=>none
    | some old=>if ex then fresh old H else if q then none else fresh old (H.put b .dead)
  | _=>none

def natOf:AV→Option Nat
 | .int _ n=>if 0≤n then some n.toNat else none
 | _=>none

def boundOf (e:Env) (o:Option Opd) (dflt:Nat):Option Nat:=
 match o with
 | none=>some dflt
 | some x=>natOf (e.raw x)

def keyGet (k:IntKind) (n:Int):List (AV × AV)→Option (Option AV)
 | []=>some none
 | (.int k' n',v)::es=>if k'=k then (if n'=n then some (some v) else keyGet k n es) else none
 | _::_=>none

def aop (e:Env) (H:AH):MOp→Option (AV × Env × AH)
 | .mv x=>some (e.raw x,e,H)
 | .pick c a b=>match e.raw c with
  | .bool true=>some (e.raw a,e,H)
  | .bool false=>some (e.raw b,e,H)
  | _=>none
 | .alloc zero=>some (.ptr H.next 0,e,H.new (.cells zero))
 | .allocL zero=>some (.lp e.ln 0,e.loc zero,H)
 | .box x=>if (e.raw x).var then some (.ptr H.next 0,e,H.new (.cells (e.raw x).cells)) else none
 | .boxL x=>if (e.raw x).var then some (.lp e.ln 0,e.loc (e.raw x).cells,H) else none
 | .build zero parts=>match parts.mapM fun p=>(e.val p.2.2).map fun v=>(p.1,p.2.1,v) with
  | some ps=>(fillA zero ps).map fun cs=>(.agg cs,e,H)
  | none=>none
 | .bsl sz len zero parts=>match parts.mapM fun p=>(e.val p.2).map fun v=>(p.1*sz,sz,v) with
  | some ps=>(fillA (repl zero len) ps).map fun cs=>(.sl H.next 0 sz len len true,e,H.new (.cells cs))
  | none=>none
 | .ld1 a=>match readAt e H (e.raw a) 1 with
  | some [v]=>some (v,e,H)
  | _=>none
 | .ldn n a=>(readAt e H (e.raw a) n).map fun cs=>(.agg cs,e,H)
 | .st1 a v=>if (e.raw v).one then (writeAt e H (e.raw a) [e.raw v]).map fun r=>(.tup [],r.1,r.2) else none
 | .stn n a v=>if (e.raw v).var=true∧(e.raw v).cells.length=n then (writeAt e H (e.raw a) (e.raw v).cells).map fun r=>(.tup [],r.1,r.2) else none
 | .fld off a=>(addOff off (e.raw a)).map fun v=>(v,e,H)
 | .idx sz x i=>match e.raw x,e.raw i with
  | .sl b o sz' len _ _,.int _ i=>if sz'=sz∧0≤i∧i<len then some (.ptr b (o+i.toNat*sz),e,H) else none
  | .vs es _,.int _ i=>if 0≤i∧i<es.length∧es.all (·.length==sz) then some (.vp es i.toNat 0,e,H) else none
  | _,_=>none
 | .idxa sz len x i=>match e.raw i with
  | .int _ i=>if 0≤i∧i<len then (addOff (i.toNat*sz) (e.raw x)).map fun v=>(v,e,H) else none
  | _=>none
 | .prj off n isagg x=>match e.raw x with
  | .agg cs=>
   if off+n≤cs.length then
    if isagg then some (.agg ((cs.drop off).take n),e,H) else (cs[off]?).map fun v=>(v,e,H)
   else none
  | _=>none
 | .ixa sz len isagg x i=>match e.raw x,e.raw i with
  | .agg cs,.int _ i=>
   if 0≤i∧i<len∧len*sz≤cs.length then
    if isagg then some (.agg ((cs.drop (i.toNat*sz)).take sz),e,H) else (cs[i.toNat*sz]?).map fun v=>(v,e,H)
   else none
  | _,_=>none
 | .bin op x y=>(abin op (e.raw x) (e.raw y)).map fun v=>(v,e,H)
 | .eqb neg x y=>match e.raw x,e.raw y with
  | .bool a,.bool b=>some (.bool (neg ^^ (a==b)),e,H)
  | _,_=>none
 | .eqg neg ks x y=>match e.raw x,e.raw y with
  | .agg xs,.agg ys=>(aeqs ks xs ys).map fun r=>(.bool (neg ^^ r),e,H)
  | _,_=>none
 | .isn neg x=>match e.raw x with
  | .nils=>some (.bool (neg ^^ true),e,H)
  | .sl ..=>some (.bool (neg ^^ false),e,H)
  | .vs (_::_) _=>some (.bool (neg ^^ false),e,H)
  | _=>none
 | .un op x=>(aun op (e.raw x)).map fun v=>(v,e,H)
 | .conv k x=>match e.raw x with
  | .int _ n=>some (.int k (k.wrap n),e,H)
  | _=>none
 | .mkfn f first cap=>match first.mapM e.val,cap.mapM e.val with
  | some a,some b=>some (.fn f a b,e,H)
  | _,_=>none
 | .ext i x=>match e.raw x with
  | .tup vs=>(vs[i]?).map fun v=>(v,e,H)
  | _=>none
 | .slen x=>match e.raw x with
  | .str s=>some (.int .i64 s.length,e,H)
  | _=>none
 | .len x=>match e.raw x with
  | .nils=>some (.int .i64 0,e,H)
  | .sl _ _ _ n _ _=>some (.int .i64 n,e,H)
  | .vs es _=>some (.int .i64 es.length,e,H)
  | _=>none
 | .lenc n=>some (.int .i64 n,e,H)
 | .app sz bytes q x y=>(appA H sz bytes q (e.raw x) (e.raw y)).map fun r=>(r.1,e,r.2)
 | .mksl sz bytes zero l c=>match e.raw l,e.raw c with
  | .int .i64 l,.int .i64 c=>
   if 0≤l∧l≤c∧c*bytes≤roomB∧c≤140737488355328 then some (.sl H.next 0 sz l.toNat c.toNat true,e,H.new (.cells (repl zero c.toNat))) else none
  | _,_=>none
 | .slc sz x lo hi mx=>match e.raw x with
  | .sl b o sz' len cap ex=>match boundOf e mx cap,boundOf e hi len,boundOf e lo 0 with
   | some m,some h,some l=>
    if sz'=sz∧l≤h∧h≤m∧m≤cap then some (.sl b (o+l*sz) sz (h - l) (m - l) (ex || (mx.isSome)),e,H) else none
   | _,_,_=>none
  | .vs es z=>match boundOf e mx 0,boundOf e hi es.length,boundOf e lo 0 with
   | some m,some h,some l=>
    if mx.isSome then (if l=0∧h=0∧m=0 then some (.vs [] true,e,H) else none)
    else if l≤h∧h≤es.length∧(l=0∨es.all (·.length==sz)=true) then some (.vs ((es.drop l).take (h - l)) z,e,H) else none
   | _,_,_=>none
  | .nils=>match boundOf e mx 0,boundOf e hi 0,boundOf e lo 0 with
   | some 0,some 0,some 0=>some (.nils,e,H)
   | _,_,_=>none
  | _=>none
 | .chk x=>match e.raw x with
  | .ptr b o=>some (.ptr b o,e,H)
  | .vp es i o=>some (.vp es i o,e,H)
  | .lp st o=>some (.lp st o,e,H)
  | .fn (.func f) a b=>some (.fn (.func f) a b,e,H)
  | _=>none
 | .mkmap=>some (.mp H.next,e,H.new (.map []))
 | .mset m k v=>match e.raw m,e.raw k,e.val v with
  | .mp r,.int kk n,some x=>match H.get r with
   | .map es=>match keyGet kk n es with
    | some none=>some (.tup [],e,H.put r (.map (es++[(.int kk n,x)])))
    | _=>none
   | _=>none
  | _,_,_=>none
 | .mget z m k=>match e.raw m,e.raw k with
  | .mp r,.int kk n=>match H.get r with
   | .map es=>match keyGet kk n es with
    | some (some v)=>some (.tup [v,.bool true],e,H)
    | some none=>some (.tup [z,.bool false],e,H)
    | none=>none
   | _=>none
  | _,_=>none
 | .stuck=>none
 | .min2 x y=>match e.raw x,e.raw y with
  | .int k a,.int _ b=>some (.int k (if b<a then b else a),e,H)
  | _,_=>none
 | .capz x=>match e.raw x with
  | .nils=>some (.int .i64 0,e,H)
  | _=>none
 | .sla n x=>match e.raw x with
  | .vp es i o=>match es[i]? with
   | some row=>if o+n≤row.length then some (.vs (((row.drop o).take n).map fun c=>[c]) false,e,H) else none
   | none=>none
  | .ptr b o=>match H.get b with
   | .cells cs=>if o+n≤cs.length then some (.sl b o 1 n n true,e,H) else none
   | _=>none
  | _=>none
 | .call ..=>none

abbrev CallF:=FuncId→List AV→AH→Option (AV × AH)

def quietly (H:AH) (r:Option (AV × AH)):Option (AV × AH):=
 match r with
 | some (v,H')=>if H.next≤H'.lo then some (v,{ H' with lo:=H.lo }) else none
 | none=>none

def callA (C:CallF) (e:Env) (H:AH) (q:Bool) (f:Opd) (args:List Opd):Option (AV × AH):=
 match e.val f,args.mapM e.val with
 | some (.fn (.func g) first cap),some as=>
  if q then quietly H (C g (first++as++cap) { H with lo:=H.next }) else C g (first++as++cap) H
 | _,_=>none

def stepOp (C:CallF) (e:Env) (H:AH) (o:MOp):Option (AV × Env × AH):=
 match o with
 | .call q f args=>(callA C e H q f args).map fun r=>(r.1,e,r.2)
 | o=>aop e H o

def wantedA (e:Env) (o:MOper):Bool:=
 match o.guard with
 | none=>true
 | some (t,want)=>match e.get t with
  | .bool b=>b==want
  | _=>false

def stepOper (C:CallF) (e:Env) (H:AH) (o:MOper):Option (Env × AH):=
 if wantedA e o then
  match stepOp C e H o.op with
  | some (v,e',H')=>some (e'.put o.dst v,H')
  | none=>none
 else some (e.put o.dst (.tup []),H)

def runOps (C:CallF):List MOper→Env→AH→Option (Env × AH)
 | [],e,H=>some (e,H)
 | o::l,e,H=>match stepOper C e H o with
  | some (e',H')=>runOps C l e' H'
  | none=>none

def runTr (C:CallF):List MOper→Env→AH→Option (List (Env × AH))
 | [],e,H=>some [(e,H)]
 | o::l,e,H=>match stepOper C e H o with
  | some (e',H')=>(runTr C l e' H').map ((e,H)::·)
  | none=>none

def apartA (a:AV) (n:Nat) (b:AV) (m:Nat):Bool:=
 match a,b with
 | .ptr x o,.ptr y p=>x != y || decide (o+n≤p) || decide (p+m≤o)
 | .lp x o,.lp y p=>x != y || decide (o+n≤p) || decide (p+m≤o)
 | .ptr ..,.lp ..|.lp ..,.ptr ..|.ptr ..,.vp ..|.lp ..,.vp ..=>true
 | _,_=>false

def isLp:AV→Bool
 | .lp ..=>true
 | _=>false

def pairOk (l:List MOper) (S:List (Env × AH)) (p:Nat × Nat):Bool:=
 match l[p.1]?,l[p.2]?,S[p.1]?,S[p.2]? with
 | some os,some oj,some (es,Hs),some (ej,_)=>
  !wantedA ej oj ||
  match stOf os.op,ldOf oj.op with
  | some (a,n),some (b,m)=>apartA (es.raw a) n (ej.raw b) m && (decide (p.2<p.1) || (readAt es Hs (ej.raw b) m).isSome)
  | none,some (b,m)=>isLp (ej.raw b) && (decide (p.2<p.1) || (readAt es Hs (ej.raw b) m).isSome)
  | _,_=>false
 | _,_,_,_=>false

def runDraw (C:CallF) (l:List MOper) (chk:List (Nat × Nat)) (e:Env) (H:AH):Option (Env × AH):=
 match runTr C l e H with
 | some S=>if chk.all (pairOk l S) then S.getLast? else none
 | none=>none

inductive Out where
 | normal
 | exit (id:Nat)
 | ret
 deriving DecidableEq,Inhabited

abbrev Runs:=Env→AH→Option (Out × Env × AH)

def iter (body:Runs):Nat→Runs
 | 0,_,_=>none
 | n+1,e,H=>match body e H with
  | some (.normal,e',H')=>iter body n e' H'
  | r=>r

def numsOf:List AV→Option (List Int)
 | []=>some []
 | .int .i64 n::cs=>(numsOf cs).map (n::·)
 | _::_=>none

def ownRow (H:AH):AV→Option (List Int × AH)
 | .nils=>some ([],H)
 | .vs [] true=>some ([],H)
 | .sl b o sz n cap ex=>if n=0 then (if cap=0∧ex=true then some ([],H) else none) else if sz=1∧n≤cap then
   match H.read b o n with
   | some cs=>(numsOf cs).map fun ns=>(ns,H.put b .dead)
   | none=>none
  else none
 | _=>none

def blkA:AV→Option Nat
 | .sl b ..=>some b
 | _=>none

def layRow (H:AH) (ns:List Int):AV × AH:=(.sl H.next 0 1 ns.length ns.length false,H.new (.cells (ns.map fun n=>.int .i64 n)))

def extA (k:Nat) (a b c:AV) (H:AH):Option (AV × AH):=
 match k with
 | 1=>match ownRow H a,b,c with
  | some (ns,H1),.int .i64 i,.sl vb vo 1 1 _ _=>match H.read vb vo 1 with
   | some [.int .i64 x]=>if 0≤i∧i≤ns.length∧ns.length<1048576∧(ns=[]∨blkA a≠some vb) then some (layRow H1 (ns.take i.toNat++x::ns.drop i.toNat)) else none
   | _=>none
  | _,_,_=>none
 | 2=>match ownRow H a,b,c with
  | some (ns,H1),.int .i64 i,.int .i64 j=>if 0≤i∧i<ns.length∧j=i+1 then some (layRow H1 (ns.take i.toNat++ns.drop (i.toNat+1))) else none
  | _,_,_=>none
 | 3=>match ownRow H a,b with
  | some (ns,_),.int .i64 x=>if ns.Pairwise (·≤·)∧ns.length<1048576 then some (.tup [.int .i64 (ns.countP (· < x):Nat),.bool (ns.contains x)],H) else none
  | _,_=>none
 | 4=>match a,b with
  | .nils,.int .i64 n=>if n=0 then some (.nils,H) else if 0<n∧n≤1048576 then some (layRow H []) else none
  | _,_=>none
 | _=>none

def runCode (C:CallF) (n:Nat):MCode→Runs
 | .skip,e,H=>some (.normal,e,H)
 | .ops l,e,H=>match runOps C l e H with
  | some (e',H')=>some (.normal,e',H')
  | none=>none
 | .draw l chk,e,H=>match runDraw C l chk e H with
  | some (e',H')=>some (.normal,e',H')
  | none=>none
 | .seq a b,e,H=>match runCode C n a e H with
  | some (.normal,e',H')=>runCode C n b e' H'
  | r=>r
 | .cond c a b,e,H=>match e.raw c with
  | .bool true=>runCode C n a e H
  | .bool false=>runCode C n b e H
  | _=>none
 | .block id b,e,H=>match runCode C n b e H with
  | some (.exit id',e',H')=>some (if id'=id then .normal else .exit id',e',H')
  | r=>r
 | .loop b,e,H=>iter (runCode C n b) n e H
 | .exit id,e,H=>some (.exit id,e,H)
 | .ret,e,H=>some (.ret,e,H)
 | .ext k,e,H=>(extA k (e.get 0) (e.get 1) (e.get 2) H).map fun r=>(.normal,e.put (some 3) r.1,r.2)

def initEnv (args:List AV) (i:Nat):Tr AV:=
 match args with
 | []=>.nil
 | v::rest=>(initEnv rest (i+1)).set i v

def resOf (e:Env) (H:AH):MRes→Option AV
 | .t t=>e.val (.t t)
 | .c1 t=>match readAt e H (e.get t) 1 with
  | some [v]=>some v
  | _=>none
 | .cn t n=>(readAt e H (e.get t) n).map .agg

def resultsOf (e:Env) (H:AH) (l:List MRes):Option AV:=
 match l.mapM (resOf e H) with
 | some [v]=>some v
 | some vs=>some (.tup vs)
 | none=>none

def evalF (C:CallF) (n:Nat) (F:MFunc) (args:List AV) (H:AH):Option (AV × AH):=
 if args.length=F.nargs∧args.all AV.free then
  match runCode C n F.body { m:=initEnv args 0,L:=.nil,ln:=0 } H with
  | some (.normal,e,H')=>(resultsOf e H' F.res).map fun v=>(v,H')
  | some (.ret,e,H')=>(resultsOf e H' F.res).map fun v=>(v,H')
  | _=>none
 else none

def mapO {α β:Type} (f:α→Option β):List α→Option (List β)
 | []=>some []
 | x::xs=>match f x,mapO f xs with
  | some y,some ys=>some (y::ys)
  | _,_=>none

def rows (sz:Nat) (ts:List AV) (n:Nat):List (List AV):=(List.range n).map fun i=>(ts.drop (i*sz)).take sz

def freeze (H:AH):Nat→AV→Option AV
 | 0,_=>none
 | d+1,v=>match v with
  | .bool b=>some (.bool b)
  | .int k n=>some (.int k n)
  | .str s=>some (.str s)
  | .nilp=>some .nilp
  | .nilf=>some .nilf
  | .nilm=>some .nilm
  | .nili=>some .nili
  | .nils=>some (.vs [] false)
  | .vs es _=>some (.vs es false)
  | .vp es i o=>some (.vp es i o)
  | .sl b o sz len _ _=>if len=0 then some (.vs [] false) else match H.read b o (len*sz) with
   | some cs=>(mapO (freeze H d) cs).map fun ts=>.vs (rows sz ts len) false
   | none=>none
  | .ptr b o=>match H.get b with
   | .cells cs=>(mapO (freeze H d) cs).map fun ts=>.vp [ts] 0 o
   | _=>none
  | .agg cs=>(mapO (freeze H d) cs).map .agg
  | .tup cs=>(mapO (freeze H d) cs).map .tup
  | .fn f a c=>match mapO (freeze H d) a,mapO (freeze H d) c with
   | some a,some c=>some (.fn f a c)
   | _,_=>none
  | .ifc t v=>(freeze H d v).map (.ifc t)
  | _=>none

abbrev LiftF:=AV→List Nat→AH→Option (AV × List Nat × AH)

def liftL (f:LiftF):List AV→List Nat→AH→Option (List AV × List Nat × AH)
 | [],u,H=>some ([],u,H)
 | v::vs,u,H=>match f v u H with
  | some (r,u1,H1)=>match liftL f vs u1 H1 with
   | some (rs,u2,H2)=>some (r::rs,u2,H2)
   | none=>none
  | none=>none

def lift (H1:AH):Nat→LiftF
 | 0,_,_,_=>none
 | d+1,v,u,H=>match v with
  | .bool b=>some (.bool b,u,H)
  | .int k n=>some (.int k n,u,H)
  | .str s=>some (.str s,u,H)
  | .nilp=>some (.nilp,u,H)
  | .nilf=>some (.nilf,u,H)
  | .nilm=>some (.nilm,u,H)
  | .nili=>some (.nili,u,H)
  | .nils=>some (.vs [] true,u,H)
  | .vs [] z=>some (.vs [] z,u,H)
  | .sl b o sz len cap ex=>
   if len=0 then some (.vs [] (ex && cap==0),u,H)
   else if u.contains b then none
   else match H1.read b o (len*sz) with
    | some cs=>match liftL (lift H1 d) cs (b::u) H with
     | some (rs,u',H')=>some (.sl H'.next 0 sz len len false,u',H'.new (.cells rs))
     | none=>none
    | none=>none
  | .ptr b o=>
   if u.contains b then none
   else match H1.get b with
    | .cells cs=>match liftL (lift H1 d) cs (b::u) H with
     | some (rs,u',H')=>some (.ptr H'.next o,u',H'.new (.cells rs))
     | none=>none
    | _=>none
  | .agg cs=>match liftL (lift H1 d) cs u H with
   | some (rs,u',H')=>some (.agg rs,u',H')
   | none=>none
  | .tup cs=>match liftL (lift H1 d) cs u H with
   | some (rs,u',H')=>some (.tup rs,u',H')
   | none=>none
  | _=>none

def deep:Nat:=12

def pureC (body:List AV→AH→Option (AV × AH)) (args:List AV) (H:AH):Option (AV × AH):=
 match mapO (freeze H deep) args with
 | some ts=>match body ts { objs:=.nil,next:=0,lo:=0 } with
  | some (r,H1)=>(lift H1 deep r [] H).map fun x=>(x.1,x.2.2)
  | none=>none
 | none=>none

def emptyA:AV→Bool
 | .vs [] true=>true
 | _=>false

def bothC (body:List AV→AH→Option (AV × AH)) (args:List AV) (H:AH):Option (AV × AH):=
 match mapO (freeze H deep) args with
 | some [.vs [] _]=>match body [.nils] { objs:=.nil,next:=0,lo:=0 },body [.sl 0 0 1 0 0 false] { objs:=.nil,next:=1,lo:=0 } with
  | some (r1,H1),some (r2,H2)=>match lift H1 deep r1 [] H,lift H2 deep r2 [] H with
   | some (v1,_,_),some (v2,_,_)=>if emptyA v1 && emptyA v2 then some (.vs [] true,H) else none
   | _,_=>none
  | _,_=>none
 | _=>pureC body args H

def pureB (both:Bool) (body:List AV→AH→Option (AV × AH)) (args:List AV) (H:AH):Option (AV × AH):=
 if both then bothC body args H else pureC body args H

def eval (M:FuncId→Option MFunc):Nat→CallF
 | 0,_,_,_=>none
 | n+1,f,args,H=>match M f with
  | some F=>if F.pure then pureB F.both (evalF (eval M n) n F) args H else evalF (eval M n) n F args H
  | none=>none

end Go.Ab

namespace Go.Ab

def ofV:Value→Option AV
 | .bool b=>some (.bool b)
 | .int k n=>some (.int k n)
 | .string s=>some (.str s.data.toList)
 | .pointer none=>some .nilp
 | .slice none 0 0=>some .nils
 | .map none=>some .nilm
 | .nilFunc=>some .nilf
 | .nilIface=>some .nili
 | _=>none

def cst:Value→Option AV
 | .agg cs=>(mapO ofV cs.toList).map .agg
 | v=>ofV v

def cOpd:Operand→Option Opd
 | .tmp t=>some (.t t)
 | .const v=>(cst v).map .c
 | .func f=>some (.c (.fn (.func f) [] []))
 | .global _=>none

def sOf (P:Program) (t:TypeId):Option Nat:=(P.info? t).map (·.size)

def zeroOf (P:Program) (t:TypeId):Option (List AV):=
 match (P.info? t).bind (·.zero) with
 | some v=>mapO ofV v.cells.toList
 | none=>none

def flatFields (P:Program) (g:TypeId→Option (List Bool)):Nat→List Field→Option (List Bool)
 | _,[]=>some []
 | off,f::fs=>
  if f.name ≠ "_" ∧ f.offset = off then
   match g f.type with
   | some ks=>if sOf P f.type=some ks.length then
     match flatFields P g (off+ks.length) fs with
     | some ks'=>some (ks++ks')
     | none=>none
    else none
   | none=>none
  else none

def flat (P:Program):Nat→TypeId→Option (List Bool)
 | 0,_=>none
 | d+1,t=>
  match P.underlying t with
  | some (.int _)=>if sOf P t=some 1 then some [true] else none
  | some .bool=>if sOf P t=some 1 then some [false] else none
  | some (.struct fs)=>if P.stoodInHeld t then none else flatFields P (flat P d) 0 fs.toList
  | _=>none

def cBin (P:Program) (op:BinOp) (t:TypeId) (x y:Opd):Option MOp:=
 match P.underlying t with
 | some (.int _)=>(match op with|.shl|.andNot=>none|_=>some (.bin op x y))
 | some .string=>(match op with|.eql|.neq=>some (.bin op x y)|_=>none)
 | some (.slice _)=>(match op,y with|.eql,.c .nils=>some (.isn false x)|.neq,.c .nils=>some (.isn true x)|_,_=>none)
 | some .bool=>(match op with|.eql=>some (.eqb false x y)|.neq=>some (.eqb true x y)|_=>none)
 | some (.struct _)=>
  if P.eqGuardType P.depth t=false then
   (match flat P 10 t with
   | some ks=>(match op with|.eql=>some (.eqg false ks x y)|.neq=>some (.eqg true ks x y)|_=>none)
   | none=>none) else none
 | _=>none

def cParts (parts:List (Nat × Operand)) (place:Nat→Option (Nat × Nat)):Option (List (Nat × Nat × Opd)):=
 mapO (fun p=>match place p.1,cOpd p.2 with
  | some (off,n),some x=>some (off,n,x)
  | _,_=>none) parts

def structPlace (P:Program) (fs:Array Field) (i:Nat):Option (Nat × Nat):=
 match (fs[i]?:Option Field) with
 | some f=>(sOf P f.type).map fun n=>(f.offset,n)
 | none=>none

def cIns (P:Program) (t:TypeId) (m k x:Operand):Option MOp:=
 match P.underlying t,cOpd m,cOpd k,cOpd x with
 | some (.map kt _),some m,some k,some x=>match P.underlying kt with
  | some (.int _)=>some (.mset m k x)
  | _=>none
 | _,_,_,_=>none

def cOp (P:Program) (loc q:Bool) (op:Op):Option MOp:=
 match op with
 | .move x|.assign x=>(cOpd x).map .mv
 | .pick c a b=>match cOpd c,cOpd a,cOpd b with
  | some c,some a,some b=>some (.pick c a b)
  | _,_,_=>none
 | .alloc t=>(zeroOf P t).map fun z=>if loc then .allocL z else .alloc z
 | .box _ x=>(cOpd x).map fun x=>if loc then .boxL x else .box x
 | .build t ps=>match zeroOf P t,P.underlying t with
  | some z,some (.struct fs)=>
   if fs.toList.all (fun f=>(sOf P f.type).isSome) then
    (cParts ps.toList (structPlace P fs)).map (.build z)
   else none
  | some z,some (.array _ e)=>match sOf P e with
   | some n=>(cParts ps.toList fun i=>some (i*n,n)).map (.build z)
   | none=>none
  | _,_=>none
 | .buildSlice t len ps=>match P.underlying t with
  | some (.slice e)=>match sOf P e,zeroOf P e with
   | some n,some z=>
    if 0<n∧z.length=n∧len*n≤2 ^ 24 then
     (mapO (fun p=>(cOpd p.2).map fun x=>(p.1,x)) ps.toList).map (.bsl n len z)
    else none
   | _,_=>none
  | _=>none
 | .load t a=>match P.underlying t,sOf P t,cOpd a with
  | some (.struct _),some n,some a=>some (.ldn n a)
  | some (.array _ _),some n,some a=>some (.ldn n a)
  | some _,some _,some a=>some (.ld1 a)
  | _,_,_=>none
 | .store t a v=>match P.underlying t,sOf P t,cOpd a,cOpd v with
  | some (.struct _),some n,some a,some v=>some (.stn n a v)
  | some (.array _ _),some n,some a,some v=>some (.stn n a v)
  | some _,some n,some a,some v=>if n=1 then some (.st1 a v) else none
  | _,_,_,_=>none
 | .nilCheck x=>(cOpd x).map .chk
 | .binOp op t x y _=>match cOpd x,cOpd y with
  | some x,some y=>cBin P op t x y
  | _,_=>none
 | .unOp op _ x=>match op with
  | .neg|.not=>(cOpd x).map (.un op)
  | _=>none
 | .convert s d x=>match P.underlying s,P.underlying d with
  | some (.int _),some (.int k)=>(cOpd x).map (.conv k)
  | _,_=>none
 | .makeFunc fn first cap=>match mapO cOpd first.toList,mapO cOpd cap.toList with
  | some a,some b=>some (.mkfn fn a b)
  | _,_=>none
 | .makeSlice t l c=>match P.underlying t with
  | some (.slice e)=>match P.info? e,zeroOf P e,cOpd l,cOpd c with
   | some i,some z,some l,some c=>if 0<i.size∧z.length=i.size∧0<i.bytes then some (.mksl i.size i.bytes z l c) else none
   | _,_,_,_=>none
  | _=>none
 | .slice t x lo hi mx=>match P.underlying t with
  | some (.slice e)=>match sOf P e,cOpd x,mapO cOpd lo.toList,mapO cOpd hi.toList,mapO cOpd mx.toList with
   | some n,some x,some lo,some hi,some mx=>if mx.isEmpty || !hi.isEmpty then some (.slc n x lo.head? hi.head? mx.head?) else none
   | _,_,_,_,_=>none
  | some (.array n e)=>if lo.isNone∧hi.isNone∧mx.isNone∧sOf P e=some 1∧n≤1048576 then (cOpd x).map (.sla n) else some .stuck
  | _=>none
 | .fieldAddr t x f=>match P.underlying t,cOpd x with
  | some (.struct fs),some x=>match fs[f]? with
   | some fd=>match sOf P fd.type with
    | some n=>if n=0 then none else some (.fld fd.offset x)
    | none=>none
   | none=>none
  | _,_=>none
 | .field t x f=>match P.underlying t,cOpd x with
  | some (.struct fs),some x=>match fs[f]? with
   | some fd=>match P.underlying fd.type,sOf P fd.type with
    | some (.struct _),some n=>some (.prj fd.offset n true x)
    | some (.array _ _),some n=>some (.prj fd.offset n true x)
    | some _,some n=>if n=1 then some (.prj fd.offset n false x) else none
    | _,_=>none
   | none=>none
  | _,_=>none
 | .indexAddr t x i=>match P.underlying t,cOpd x,cOpd i with
  | some (.slice e),some x,some i=>match sOf P e with
   | some n=>some (.idx n x i)
   | none=>none
  | some (.array len e),some x,some i=>match sOf P e with
   | some n=>some (.idxa n len x i)
   | none=>none
  | _,_,_=>none
 | .index t x i=>match P.underlying t,cOpd x,cOpd i with
  | some (.array len e),some x,some i=>match P.underlying e,sOf P e with
   | some (.struct _),some n=>some (.ixa n len true x i)
   | some (.array _ _),some n=>some (.ixa n len true x i)
   | some _,some n=>if n=1 then some (.ixa n len false x i) else none
   | _,_=>none
  | _,_,_=>none
 | .extract x i=>(cOpd x).map (.ext i)
 | .makeMap _ none=>some .mkmap
 | .mapUpdate t m k x=>cIns P t m k x
 | .insert t m k x=>cIns P t m k x
 | .lookup t x i true=>match P.underlying t,cOpd x,cOpd i with
  | some (.map kt et),some x,some i=>match P.underlying kt,((P.info? et).bind (·.zero)).bind ofV with
   | some (.int _),some z=>some (.mget z x i)
   | _,_=>none
  | _,_,_=>none
 | .call c=>match c.callee with
  | .value f=>match cOpd f,mapO cOpd c.args.toList with
   | some f,some as=>some (.call q f as)
   | _,_=>none
  | .builtin .len=>match c.argTypes[0]?,mapO cOpd c.args.toList with
   | some t,some [x]=>match P.underlying t with
    | some (.slice _)=>some (.len x)
    | some .string=>some (.slen x)
    | some (.array n _)=>some (.lenc n)
    | _=>none
   | _,_=>none
  | .builtin .append=>match c.argTypes[0]?,c.argTypes[1]?,mapO cOpd c.args.toList with
   | some t,some u,some [x,y]=>match P.underlying t with
    | some (.slice e)=>match P.info? e,zeroOf P e with
     | some i,some z=>if t=u∧c.argTypes.size=2∧0<i.size∧z.length=i.size∧0<i.bytes then some (.app i.size i.bytes q x y) else none
     | _,_=>none
    | _=>none
   | _,_,_=>none
  | .builtin .min=>match mapO cOpd c.args.toList with
   | some [x,y]=>some (.min2 x y)
   | _=>none
  | .builtin .cap=>match c.argTypes[0]?,mapO cOpd c.args.toList with
   | some t,some [x]=>match P.underlying t with
    | some (.slice _)=>some (.capz x)
    | _=>none
   | _,_=>none
  | _=>none
 | .makeInterface ..=>some .stuck
 | .panic _=>some .stuck
 | _=>none

def ordered (b:Array Nat) (i j:Nat):Bool:=(b.getD (max i j) 0).testBit (min i j)

def memOp:Op→Bool
 | .slice _ _ none none none=>true
 | .move _|.assign _|.pick ..|.build ..|.nilCheck _|.binOp ..|.unOp ..|.convert ..|.makeFunc ..|.slice ..|.fieldAddr ..|.field ..|.indexAddr ..|.index ..|.extract ..=>false
 | .call { callee:=.builtin .len,.. }=>false
 | _=>true

def mustBeQuiet (ops:Array Oper) (b:Array Nat) (i:Nat):Bool:=
 !((List.range ops.size).all fun j=>j==i || !(ops.toList[j]?.map fun o=>memOp o.op).getD false || ordered b i j)

def isLocD (loc:List Nat) (d:Option Tmp):Bool:=match d with|some d=>loc.contains d|none=>false
def dstOk (nt:Nat) (d:Option Tmp):Bool:=match d with|some d=>d<nt|none=>true

def cOper (P:Program) (nt:Nat) (loc:List Nat) (ops:Array Oper) (q:Bool) (o:Oper):Option MOper:=
 if dstOk nt o.dst=true then
  match cOp P (isLocD loc o.dst) (q && !isLocD loc o.dst) o.op with
  | none=>none
  | some m=>
   match o.guard with
   | none=>some { dst:=o.dst,guard:=none,op:=m }
   | some (j,want)=>match (ops[j]?).bind (·.dst) with
    | some t=>if t<nt then some { dst:=o.dst,guard:=some (t,want),op:=m } else none
    | none=>none
 else none

def edgesDown (ops:Array Oper):Bool:=
 (List.range ops.size).all fun i=>match ops.toList[i]? with
  | some o=>o.after.all fun e=>!Region.binds .any e || decide (e.on<i)
  | none=>true

def justB (ops:Array Oper) (b:Array Nat):Bool:=
 (List.range ops.size).all fun j=>match ops.toList[j]? with
  | some o=>(List.range j).all fun i=>!(b.getD j 0).testBit i || o.after.any fun e=>Region.binds .any e && (e.on==i || (decide (i<e.on) && decide (e.on<j) && (b.getD e.on 0).testBit i))
  | none=>false

def dstApart (x y:MOper):Bool:=match x.dst with|some d=>y.dst != some d|none=>true
def noLook (x y:MOper):Bool:=match x.dst with|some d=>!y.looks.contains d|none=>true

def statOk (ms:List MOper) (b:Array Nat):Bool:=
 (List.range ms.length).all fun j=>(List.range ms.length).all fun i=>i==j || match ms[i]?,ms[j]? with
  | some x,some y=>dstApart x y && (ordered b i j || (noLook x y && (!(x.op.loud && y.op.mem) || (x.op.turns && y.op.isLd))))
  | _,_=>false

def chkOf (ms:List MOper) (b:Array Nat):List (Nat × Nat):=
 (List.range ms.length).flatMap fun s=>(List.range ms.length).filterMap fun j=>match ms[s]?,ms[j]? with
  | some x,some y=>if s != j && !ordered b s j && x.op.turns && y.op.isLd then some (s,j) else none
  | _,_=>none

def cDraw (P:Program) (nt:Nat) (loc:List Nat) (ops:Array Oper):Option MCode:=
 let b:=Region.before ops
 if edgesDown ops && justB ops b then
  match mapO (fun i=>match ops.toList[i]? with
   | some o=>cOper P nt loc ops (mustBeQuiet ops b i) o
   | none=>none) (List.range ops.size) with
  | some ms=>if statOk ms b then (if (chkOf ms b).isEmpty then some (.ops ms) else some (.draw ms (chkOf ms b))) else none
  | none=>none
 else none

def cCode (P:Program) (nt:Nat) (loc:List Nat):Code→Option MCode
 | .skip=>some .skip
 | .region _ ops draw=>if draw then cDraw P nt loc ops else (mapO (cOper P nt loc ops false) ops.toList).map .ops
 | .seq a b=>match cCode P nt loc a,cCode P nt loc b with
  | some a,some b=>some (.seq a b)
  | _,_=>none
 | .cond c a b=>match cOpd c,cCode P nt loc a,cCode P nt loc b with
  | some c,some a,some b=>some (.cond c a b)
  | _,_,_=>none
 | .block id b=>(cCode P nt loc b).map (.block id)
 | .loop b=>(cCode P nt loc b).map .loop
 | .exit id=>some (.exit id)
 | .ret=>some .ret
 | _=>none

def cRes (P:Program):ResultVar→Option MRes
 | .tmp t=>some (.t t)
 | .cell a t=>match P.underlying t,sOf P t with
  | some (.struct _),some n=>some (.cn a n)
  | some (.array _ _),some n=>some (.cn a n)
  | some _,some _=>some (.c1 a)
  | _,_=>none

def compile (P:Program) (loc:List Nat) (fn:Func):Option MFunc:=
 match fn.body,mapO (cRes P) fn.results.toList with
 | some c,some rs=>match cCode P fn.ntmps loc c with
  | some m => if fn.params.size + fn.nfree ≤ fn.ntmps ∧ (fn.name == "runtime.NumGoroutine") = false then some { nargs := fn.params.size + fn.nfree, res := rs, body := m } else none
  | none=>none
 | _,_=>none

end Go.Ab

namespace Go.Ab
open Go.RowKit

structure Pl where
 blk:Nat
 base:Nat
 tot:Nat

abbrev Io:=Nat→Option (Option Pl)

def noI:Io:=fun _=>none

inductive V (w0:World):Io→AV→Value→Prop where
 | bool {ι:Io} (b:Bool):V w0 ι (.bool b) (.bool b)
 | int {ι:Io} (k:IntKind) (n:Int):V w0 ι (.int k n) (.int k n)
 | str {ι:Io} (c:ByteArray):V w0 ι (.str c.data.toList) (.string c)
 | nilp {ι:Io}:V w0 ι .nilp (.pointer none)
 | ptr {ι:Io} (b o g off:Nat) (x:Option Pl) (hi:ι b=some x) (h:∀ p,x=some p→g=p.blk∧off=p.base+o):V w0 ι (.ptr b o) (.pointer (some ⟨g,off,none⟩))
 | nils {ι:Io}:V w0 ι .nils (.slice none 0 0)
 | sl {ι:Io} (b o sz len cap:Nat) (ex:Bool) (g off cap':Nat) (sp:Option Nat) (x:Option Pl) (hi:ι b=some x) (hl:len≤cap) (hc:cap≤cap'∧cap'≤9223372036854775807) (hx:ex=true→cap'=cap)
   (h:∀ p,x=some p→g=p.blk∧(0<cap'→off=p.base+o)∧p.base+o+cap'*sz≤p.tot) (hsp0:sp=none∨(x=none∧cap=0)):V w0 ι (.sl b o sz len cap ex) (.slice (some ⟨g,off,sp⟩) len cap')
 | vs0 {ι:Io} (z:Bool):V w0 ι (.vs [] z) (.slice none 0 0)
 | vs {ι:Io} (es:List (List AV)) (z:Bool) (a:Addr) (cap sz:Nat) (cf:Nat→Nat→Value) (hsp:es≠[]→a.spot=none) (hl:∀ i (h:i<es.length),es[i].length=sz)
   (hc:∀ i j,i<es.length→j<sz→w0.cell? ⟨a.block,a.off+i*sz+j,none⟩=some (cf i j))
   (hv:∀ i j (hi:i<es.length) (hj:j<es[i].length),V w0 noI es[i][j] (cf i j))
   (h1:∀ i j,i<es.length→j<sz→(cf i j).oneCell'=true) (hz:z=true→cap=0) (hcap:es.length≤cap∧cap≤9223372036854775807):V w0 ι (.vs es z) (.slice (some a) es.length cap)
 | vp {ι:Io} (es:List (List AV)) (i o:Nat) (blk off:Nat) (cf:Nat→Value) (hi:i<es.length)
   (hc:∀ j,j<es[i].length→w0.cell? ⟨blk,off+j,none⟩=some (cf j))
   (hv:∀ j (hj:j<es[i].length),V w0 noI es[i][j] (cf j)) (h1:∀ j,j<es[i].length→(cf j).oneCell'=true):V w0 ι (.vp es i o) (.pointer (some ⟨blk,off+o,none⟩))
 | nilm {ι:Io}:V w0 ι .nilm (.map none)
 | mp {ι:Io} (r g:Nat) (x:Option Pl) (hi:ι r=some x) (h:∀ p,x=some p→g=p.blk):V w0 ι (.mp r) (.map (some g))
 | nilf {ι:Io}:V w0 ι .nilf .nilFunc
 | fn {ι:Io} (f:Fn) (first cap:List AV) (first' cap':Array Value) (h1:first.length=first'.size) (h2:cap.length=cap'.size)
   (hv1:∀ i (h:i<first.length),V w0 ι first[i] first'[i]!) (hv2:∀ i (h:i<cap.length),V w0 ι cap[i] cap'[i]!):V w0 ι (.fn f first cap) (.func f first' cap')
 | nili {ι:Io}:V w0 ι .nili .nilIface
 | ifc {ι:Io} (t:TypeId) (v:AV) (c:Value) (h:V w0 ι v c):V w0 ι (.ifc t v) (.iface t c)
 | agg {ι:Io} (cs:List AV) (c:Array Value) (hl:cs.length=c.size) (hv:∀ i (h:i<cs.length),V w0 ι cs[i] c[i]!) (h1:∀ i,i<cs.length→c[i]!.oneCell'=true):V w0 ι (.agg cs) (.agg c)
 | tup {ι:Io} (cs:List AV) (c:Array Value) (hl:cs.length=c.size) (hv:∀ i (h:i<cs.length),V w0 ι cs[i] c[i]!):V w0 ι (.tup cs) (.tuple c)

def VL (w0:World) (ι:Io) (as:List AV) (cs:List Value):Prop:=as.length=cs.length∧∀ i (h:i<as.length),V w0 ι as[i] cs[i]!

def VC (w0:World) (ι:Io) (as:List AV) (cs:List Value):Prop:=VL w0 ι as cs∧∀ c∈cs,c.oneCell'=true

def Ext (ι ι':Io):Prop:=∀ b x,ι b=some x→ι' b=some x∨ι' b=some none

theorem Ext.refl (ι:Io):Ext ι ι:=fun _ _ h=>.inl h
theorem Ext.trans {a b c:Io} (h:Ext a b) (k:Ext b c):Ext a c:=by
 intro i x hi
 rcases h i x hi with h|h
 ·exact k i x h
 ·rcases k i none h with k|k<;>exact .inr k

theorem V.ext {w0:World} {ι ι':Io} (he:Ext ι ι') {v:AV} {c:Value} (h:V w0 ι v c):V w0 ι' v c:=by
 induction h generalizing ι' with
 | bool b=>exact .bool b
 | int k n=>exact .int k n
 | str c=>exact .str c
 | nilp=>exact .nilp
 | ptr b o g off x hi h=>
  rcases he b x hi with e|e
  ·exact .ptr b o g off x e h
  ·exact .ptr b o g off none e (fun p hp=>by cases hp)
 | nils=>exact .nils
 | sl b o sz len cap ex g off cap' sp x hi hl hc hx h hsp0=>
  rcases he b x hi with e|e
  ·exact .sl b o sz len cap ex g off cap' sp x e hl hc hx h hsp0
  ·exact .sl b o sz len cap ex g off cap' sp none e hl hc hx (fun p hp=>by cases hp) (hsp0.imp id fun h=>⟨rfl,h.2⟩)
 | vs0 z=>exact .vs0 z
 | vs es z a cap sz cf hsp hl hc hv h1 hz hcap ih=>exact .vs es z a cap sz cf hsp hl hc hv h1 hz hcap
 | vp es i o blk off cf hi hc hv h1 ih=>exact .vp es i o blk off cf hi hc hv h1
 | nilm=>exact .nilm
 | mp r g x hi h=>
  rcases he r x hi with e|e
  ·exact .mp r g x e h
  ·exact .mp r g none e (fun p hp=>by cases hp)
 | nilf=>exact .nilf
 | fn f first cap first' cap' h1 h2 hv1 hv2 ih1 ih2=>exact .fn f first cap first' cap' h1 h2 (fun i hi=>ih1 i hi he) (fun i hi=>ih2 i hi he)
 | nili=>exact .nili
 | ifc t v c h ih=>exact .ifc t v c (ih he)
 | agg cs c hl hv h1 ih=>exact .agg cs c hl (fun i hi=>ih i hi he) h1
 | tup cs c hl hv ih=>exact .tup cs c hl (fun i hi=>ih i hi he)

theorem Ext.noI (ι:Io):Ext noI ι:=fun b x h=>by cases h

theorem VL.ext {w0:World} {ι ι':Io} (he:Ext ι ι') {as:List AV} {cs:List Value} (h:VL w0 ι as cs):VL w0 ι' as cs:=
 ⟨h.1,fun i hi=>(h.2 i hi).ext he⟩
theorem VC.ext {w0:World} {ι ι':Io} (he:Ext ι ι') {as:List AV} {cs:List Value} (h:VC w0 ι as cs):VC w0 ι' as cs:=
 ⟨h.1.ext he,h.2⟩

theorem VL.nil {w0:World} {ι:Io}:VL w0 ι [] []:=⟨rfl,fun i h=>by simp at h⟩
theorem VL.cons {w0:World} {ι:Io} {a:AV} {c:Value} {as:List AV} {cs:List Value} (h:V w0 ι a c) (hs:VL w0 ι as cs):VL w0 ι (a::as) (c::cs):=by
 refine⟨by simp[hs.1],fun i hi=>?_⟩
 cases i with
 | zero=>simpa using h
 | succ i=>simpa using hs.2 i (by simpa using hi)
theorem VL.head {w0:World} {ι:Io} {a:AV} {c:Value} {as:List AV} {cs:List Value} (h:VL w0 ι (a::as) (c::cs)):V w0 ι a c:=h.2 0 (Nat.zero_lt_succ _)
theorem VL.tail {w0:World} {ι:Io} {a:AV} {c:Value} {as:List AV} {cs:List Value} (h:VL w0 ι (a::as) (c::cs)):VL w0 ι as cs:=
 ⟨by simpa using h.1,fun i hi=>by have:=h.2 (i+1) (by simpa using hi);simpa only[List.getElem_cons_succ,List.getElem!_eq_getElem?_getD,List.getElem?_cons_succ] using this⟩
theorem VL.inv_cons {w0:World} {ι:Io} {a:AV} {as:List AV} {cs:List Value} (h:VL w0 ι (a::as) cs):∃ c cs',cs=c::cs'∧V w0 ι a c∧VL w0 ι as cs':=by
 cases cs with
 | nil=>simp[VL] at h
 | cons c cs=>exact⟨c,cs,rfl,h.head,h.tail⟩
theorem VL.inv_nil {w0:World} {ι:Io} {cs:List Value} (h:VL w0 ι [] cs):cs=[]:=by
 have:=h.1;cases cs<;>simp_all
theorem VL.append {w0:World} {ι:Io} {as bs:List AV} {cs ds:List Value} (h:VL w0 ι as cs) (k:VL w0 ι bs ds):VL w0 ι (as++bs) (cs++ds):=by
 induction as generalizing cs with
 | nil=>rw[h.inv_nil];simpa using k
 | cons a as ih=>obtain⟨c,cs',rfl,h1,h2⟩:=h.inv_cons;exact VL.cons h1 (ih h2)
theorem VL.drop {w0:World} {ι:Io} {as:List AV} {cs:List Value} (n:Nat) (h:VL w0 ι as cs):VL w0 ι (as.drop n) (cs.drop n):=by
 induction n generalizing as cs with
 | zero=>simpa using h
 | succ n ih=>
  cases as with
  | nil=>rw[h.inv_nil];simpa using VL.nil
  | cons a as=>obtain⟨c,cs',rfl,h1,h2⟩:=h.inv_cons;simpa using ih h2
theorem VL.take {w0:World} {ι:Io} {as:List AV} {cs:List Value} (n:Nat) (h:VL w0 ι as cs):VL w0 ι (as.take n) (cs.take n):=by
 induction n generalizing as cs with
 | zero=>simpa using VL.nil
 | succ n ih=>
  cases as with
  | nil=>rw[h.inv_nil];simpa using VL.nil
  | cons a as=>obtain⟨c,cs',rfl,h1,h2⟩:=h.inv_cons;simpa using VL.cons h1 (ih h2)
theorem VL.get? {w0:World} {ι:Io} {as:List AV} {cs:List Value} (h:VL w0 ι as cs) {i:Nat} {a:AV} (hi:as[i]? = some a):∃ c,cs[i]? = some c∧V w0 ι a c:=by
 obtain⟨hlt,e⟩:=List.getElem?_eq_some_iff.1 hi
 have hl:=h.1
 refine⟨cs[i],List.getElem?_eq_getElem (by omega), ?_⟩
 have:=h.2 i hlt
 rw[e] at this
 rwa [getElem!_pos cs i (by omega)] at this
theorem VL.of_get {w0:World} {ι:Io} {as:List AV} {cs:List Value} (hl:as.length=cs.length) (h:∀ (i:Nat) a c,as[i]? = some a→cs[i]? = some c→V w0 ι a c):VL w0 ι as cs:=
 ⟨hl,fun i hi=>by
  rw[getElem!_pos cs i (by omega)]
  exact h i _ _ (List.getElem?_eq_getElem hi) (List.getElem?_eq_getElem (by omega))⟩
theorem VL.splice {w0:World} {ι:Io} {as bs:List AV} {cs ds:List Value} (o:Nat) (h:VL w0 ι as cs) (k:VL w0 ι bs ds) :
  VL w0 ι (splice as o bs) (cs.take o++ds++cs.drop (o+ds.length)):=by
 unfold Ab.splice
 rw[← k.1]
 exact ((h.take o).append k).append (h.drop _)

theorem VC.nil {w0:World} {ι:Io}:VC w0 ι [] []:=⟨VL.nil,by simp⟩
theorem VC.append {w0:World} {ι:Io} {as bs:List AV} {cs ds:List Value} (h:VC w0 ι as cs) (k:VC w0 ι bs ds):VC w0 ι (as++bs) (cs++ds):=
 ⟨h.1.append k.1,fun c hc=>(List.mem_append.1 hc).elim (h.2 c) (k.2 c)⟩
theorem VC.drop {w0:World} {ι:Io} {as:List AV} {cs:List Value} (n:Nat) (h:VC w0 ι as cs):VC w0 ι (as.drop n) (cs.drop n):=
 ⟨h.1.drop n,fun c hc=>h.2 c (List.mem_of_mem_drop hc)⟩
theorem VC.take {w0:World} {ι:Io} {as:List AV} {cs:List Value} (n:Nat) (h:VC w0 ι as cs):VC w0 ι (as.take n) (cs.take n):=
 ⟨h.1.take n,fun c hc=>h.2 c (List.mem_of_mem_take hc)⟩
theorem VC.splice {w0:World} {ι:Io} {as bs:List AV} {cs ds:List Value} (o:Nat) (h:VC w0 ι as cs) (k:VC w0 ι bs ds) :
  VC w0 ι (Ab.splice as o bs) (cs.take o++ds++cs.drop (o+ds.length)):=by
 refine⟨h.1.splice o k.1, ?_⟩
 intro c hc
 rcases List.mem_append.1 hc with h'|h'
 ·rcases List.mem_append.1 h' with h'|h'
  ·exact h.2 c (List.mem_of_mem_take h')
  ·exact k.2 c h'
 ·exact h.2 c (List.mem_of_mem_drop h')

theorem V.cellsOf {w0:World} {ι:Io} {v:AV} {c:Value} (h:V w0 ι v c) (hvar:v.var=true):VC w0 ι v.cells c.cells.toList:=by
 cases h with
 | agg cs c hl hv h1=>
  refine⟨⟨by simpa [AV.cells,Value.cells] using hl,fun i hi=>?_⟩,fun x hx=>?_⟩
  ·have h2:=hv i (by simpa [AV.cells] using hi)
   have hi':i<c.size:=by simp only[AV.cells] at hi;omega
   have e:(Value.agg c).cells.toList[i]! = c[i]!:=by simp[Value.cells,hi',getElem!_pos]
   rw[e];exact h2
  ·simp only[Value.cells] at hx
   obtain⟨i,hi,rfl⟩:=List.getElem_of_mem hx
   have hi':i<c.size:=by simpa using hi
   have:=h1 i (by omega)
   simpa [hi',getElem!_pos] using this
 | tup=>simp[AV.var] at hvar
 | sl b o sz len cap ex g off cap' sp x hi hl hc hx h hsp0=>exact⟨VL.cons (.sl b o sz len cap ex g off cap' sp x hi hl hc hx h hsp0) VL.nil,by simp[Value.cells,Value.oneCell']⟩
 | ptr b o g off x hi h=>exact⟨VL.cons (.ptr b o g off x hi h) VL.nil,by simp[Value.cells,Value.oneCell']⟩
 | mp r g x hi h=>exact⟨VL.cons (.mp r g x hi h) VL.nil,by simp[Value.cells,Value.oneCell']⟩
 | vs es z a cap sz cf hsp hl hc hv h1 hz hcap=>exact⟨VL.cons (.vs es z a cap sz cf hsp hl hc hv h1 hz hcap) VL.nil,by simp[Value.cells,Value.oneCell']⟩
 | vs0 z=>exact⟨VL.cons (.vs0 z) VL.nil,by simp[Value.cells,Value.oneCell']⟩
 | vp es i o blk off cf hi hc hv h1=>exact⟨VL.cons (.vp es i o blk off cf hi hc hv h1) VL.nil,by simp[Value.cells,Value.oneCell']⟩
 | fn f first cap first' cap' h1 h2 hv1 hv2=>exact⟨VL.cons (.fn f first cap first' cap' h1 h2 hv1 hv2) VL.nil,by simp[Value.cells,Value.oneCell']⟩
 | ifc t v c h=>exact⟨VL.cons (.ifc t v c h) VL.nil,by simp[Value.cells,Value.oneCell']⟩
 | bool b=>exact⟨VL.cons (.bool b) VL.nil,by simp[Value.cells,Value.oneCell']⟩
 | int k n=>exact⟨VL.cons (.int k n) VL.nil,by simp[Value.cells,Value.oneCell']⟩
 | str c=>exact⟨VL.cons (.str c) VL.nil,by simp[Value.cells,Value.oneCell']⟩
 | nilp=>exact⟨VL.cons .nilp VL.nil,by simp[Value.cells,Value.oneCell']⟩
 | nils=>exact⟨VL.cons .nils VL.nil,by simp[Value.cells,Value.oneCell']⟩
 | nilm=>exact⟨VL.cons .nilm VL.nil,by simp[Value.cells,Value.oneCell']⟩
 | nilf=>exact⟨VL.cons .nilf VL.nil,by simp[Value.cells,Value.oneCell']⟩
 | nili=>exact⟨VL.cons .nili VL.nil,by simp[Value.cells,Value.oneCell']⟩

theorem V.one {w0:World} {ι:Io} {v:AV} {c:Value} (h:V w0 ι v c) (hv:v.one=true):c.oneCell'=true:=by
 cases h<;>simp_all [AV.one,Value.oneCell']

theorem V.free {w0:World} {ι:Io} {v:AV} {c:Value} (h:V w0 ι v c):v.free=true:=by cases h<;>rfl

theorem VC.agg {w0:World} {ι:Io} {cs:List AV} {c:List Value} (h:VC w0 ι cs c):V w0 ι (.agg cs) (.agg c.toArray):=by
 refine .agg cs _ (by simpa using h.1.1) (fun i hi=>by simpa using h.1.2 i hi) (fun i hi=>?_)
 have hl:=h.1.1
 have hi':i<c.length:=by omega
 simpa [hi',getElem!_pos] using h.2 c[i] (List.getElem_mem hi')

theorem VL.tupl {w0:World} {ι:Io} {cs:List AV} {c:List Value} (h:VL w0 ι cs c):V w0 ι (.tup cs) (.tuple c.toArray):=
 .tup cs _ (by simpa using h.1) (fun i hi=>by simpa using h.2 i hi)

theorem V.inv_agg {w0:World} {ι:Io} {cs:List AV} {c:Value} (h:V w0 ι (.agg cs) c):∃ a:Array Value,c=.agg a∧VC w0 ι cs a.toList:=by
 cases h with
 | agg _ c hl hv h1=>
  have:=(V.agg cs c hl hv h1).cellsOf rfl
  exact⟨c,rfl,by simpa [AV.cells,Value.cells] using this⟩

theorem V.inv_tup {w0:World} {ι:Io} {cs:List AV} {c:Value} (h:V w0 ι (.tup cs) c):∃ a:Array Value,c=.tuple a∧VL w0 ι cs a.toList:=by
 cases h with
 | tup _ c hl hv=>
  refine⟨c,rfl,⟨by simpa using hl,fun i hi=>?_⟩⟩
  have:=hv i hi
  have hi':i<c.size:=by omega
  simpa [hi',getElem!_pos] using this

end Go.Ab

namespace Go.Ab
open Go.RowKit

abbrev Lo:=Nat→Option Nat

def OR (w0:World) (ι:Io) (x:AObj) (p:Pl) (o:Option Obj):Prop:=
 match x with
 | .cells cs=>∃ cc T,o=some (.cells cc T (0,0))∧cc.size=p.tot∧p.base+cs.length≤cc.size∧VC w0 ι cs ((cc.toList.drop p.base).take cs.length)
 | .map es=>∃ es' clock,o=some (.map es' clock)∧es.length=es'.size∧∀ i (h:i<es.length),V w0 ι es[i].1 es'[i]!.key∧V w0 ι es[i].2 es'[i]!.val
 | .dead=>True

structure MR (w0:World) (ι:Io) (lam:Lo) (L:Tr (List AV)) (ln:Nat) (H:AH) (w:World):Prop where
 size:w0.heap.size≤w.heap.size
 low:∀ c,c<w0.heap.size→w.heap[c]? = w0.heap[c]?
 os:w.os=w0.os
 tape:w.tape=w0.tape
 output:w.output=w0.output
 pl:∀ b p,ι b=some (some p)→w0.heap.size≤p.blk∧p.blk<w.heap.size
 inj:∀ b b' p p',ι b=some (some p)→ι b'=some (some p')→p.blk=p'.blk→b=b'
 obj:∀ b p,b<H.next→ι b=some (some p)→OR w0 ι (H.get b) p w.heap[p.blk]?
 lpl:∀ st c,lam st=some c→w0.heap.size≤c∧c<w.heap.size∧∀ b p,ι b=some (some p)→p.blk≠c
 linj:∀ st st' c,lam st=some c→lam st'=some c→st=st'
 lobj:∀ st c,st<ln→lam st=some c→∃ cs cc T,L.get st=some cs∧w.heap[c]? = some (.cells cc T (0,0))∧VC w0 ι cs cc.toList
 lo:H.lo≤H.next
 top:∀ b,H.next≤b→H.get b=.dead
 ltop:∀ st,ln≤st→L.get st=none
 alive:∀ b,b<H.next→ι b=some none→H.get b=.dead

structure FP (S:Prop) (ι:Io) (lam:Lo) (L:Tr (List AV)) (ln:Nat) (H:AH) (w:World) (ι':Io) (lam':Lo) (L':Tr (List AV)) (ln':Nat) (H':AH) (w':World):Prop where
 ext:Ext ι ι'
 kept:∀ b x,ι b=some x→ι' b≠some x→H'.lo≤b∧b<H.next
 new:∀ b,ι b=none→ι' b≠none→H.next≤b∧b<H'.next
 all:∀ b,H.next≤b→b<H'.next→ι' b≠none
 blk:∀ b p,ι' b=some (some p)→ι b=some (some p)∨(H.next≤b∧b<H'.next∧((∃ b0 p0,ι b0=some (some p0)∧p0.blk=p.blk∧H'.lo≤b0∧b0<H.next)∨w.heap.size≤p.blk))
 frame:∀ c,c<w.heap.size→(S→∀ st,st<ln→lam st≠some c)→(∀ b p,ι b=some (some p)→H'.lo≤b→b<H.next→p.blk≠c)→w'.heap[c]? = w.heap[c]?
 size:w.heap.size≤w'.heap.size
 next:H.next≤H'.next
 lo:H'.lo≤H.lo
 old:∀ b,b<H.next→b<H'.lo→H'.get b=H.get b
 lext:∀ st c,lam st=some c→lam' st=some c
 lnew:∀ st,lam st=none→lam' st≠none→ln≤st∧st<ln'
 lall:∀ st,ln≤st→st<ln'→lam' st≠none
 lblk:∀ st c,lam' st=some c→lam st=some c∨w.heap.size≤c
 lnle:ln≤ln'
 lold:¬ S→∀ st,st<ln→L'.get st=L.get st

theorem FP.refl {S:Prop} (ι:Io) (lam:Lo) (L:Tr (List AV)) (ln:Nat) (H:AH) (w:World):FP S ι lam L ln H w ι lam L ln H w where
 ext:=Ext.refl ι
 kept:=fun b x h k=>absurd h k
 new:=fun b h k=>absurd h k
 all:=fun b h k=>by omega
 blk:=fun b p h=>.inl h
 frame:=fun _ _ _ _=>rfl
 size:=Nat.le_refl _
 next:=Nat.le_refl _
 lo:=Nat.le_refl _
 old:=fun _ _ _=>rfl
 lext:=fun _ _ h=>h
 lnew:=fun st h k=>absurd h k
 lall:=fun st h k=>by omega
 lblk:=fun st c h=>.inl h
 lnle:=Nat.le_refl _
 lold:=fun _ _ _=>rfl

theorem FP.mono {S S':Prop} {ι:Io} {lam:Lo} {L:Tr (List AV)} {ln:Nat} {H:AH} {w:World} {ι':Io} {lam':Lo} {L':Tr (List AV)} {ln':Nat} {H':AH} {w':World}
  (h:FP S ι lam L ln H w ι' lam' L' ln' H' w') (hs:S→S'):FP S' ι lam L ln H w ι' lam' L' ln' H' w':=
 { h with frame:=fun c hc hS hb=>h.frame c hc (fun s=>hS (hs s)) hb,lold:=fun n=>h.lold fun s=>n (hs s) }

def Fresh (ι:Io) (H H':AH):Prop:=∀ b,H.next≤b→b<H'.next→ι b=none
def LFresh (lam:Lo) (ln ln':Nat):Prop:=∀ st,ln≤st→st<ln'→lam st=none

theorem FP.trans {S:Prop} {ι:Io} {lam:Lo} {L:Tr (List AV)} {ln:Nat} {H:AH} {w:World} {ι1:Io} {lam1:Lo} {L1:Tr (List AV)} {ln1:Nat} {H1:AH} {w1:World}
  {ι2:Io} {lam2:Lo} {L2:Tr (List AV)} {ln2:Nat} {H2:AH} {w2:World} (hf:Fresh ι H H2) (hlf:LFresh lam ln ln2)
  (h:FP S ι lam L ln H w ι1 lam1 L1 ln1 H1 w1) (k:FP S ι1 lam1 L1 ln1 H1 w1 ι2 lam2 L2 ln2 H2 w2):FP S ι lam L ln H w ι2 lam2 L2 ln2 H2 w2 where
 ext:=h.ext.trans k.ext
 kept:=fun b x hb hn=>by
  by_cases h1:ι1 b=some x
  ·have:=k.kept b x h1 hn
   refine⟨this.1, ?_⟩
   rcases Nat.lt_or_ge b H.next with g|g
   ·exact g
   ·have:=hf b g (Nat.lt_of_lt_of_le this.2 k.next);rw[this] at hb;cases hb
  ·have:=h.kept b x hb h1
   exact⟨Nat.le_trans k.lo this.1,this.2⟩
 new:=fun b hb hn=>by
  by_cases h1:ι1 b=none
  ·have:=k.new b h1 hn
   exact⟨Nat.le_trans h.next this.1,this.2⟩
  ·have:=h.new b hb h1
   exact⟨this.1,Nat.lt_of_lt_of_le this.2 k.next⟩
 all:=fun b hb hn=>by
  rcases Nat.lt_or_ge b H1.next with g|g
  ·have h1:=h.all b hb g
   cases e:ι1 b with
   | none=>exact absurd e h1
   | some x=>rcases k.ext b x e with e'|e'<;>rw[e']<;>simp
  ·exact k.all b g hn
 blk:=fun b p hb=>by
  rcases k.blk b p hb with h1|⟨h1,h1',h2⟩
  ·rcases h.blk b p h1 with h3|⟨h3,h3',h4⟩
   ·exact .inl h3
   ·refine .inr ⟨h3,Nat.lt_of_lt_of_le h3' k.next, ?_⟩
    rcases h4 with ⟨b0,p0,a1,a2,a3,a4⟩|h4
    ·exact .inl ⟨b0,p0,a1,a2,Nat.le_trans k.lo a3,a4⟩
    ·exact .inr h4
  ·refine .inr ⟨Nat.le_trans h.next h1,h1', ?_⟩
   rcases h2 with ⟨b0,p0,a1,a2,a3,a4⟩|h2
   ·rcases h.blk b0 p0 a1 with h3|⟨h3,h3',h4⟩
    ·rcases Nat.lt_or_ge b0 H.next with g|g
     ·exact .inl ⟨b0,p0,h3,a2,a3,g⟩
     ·have:=hf b0 g (Nat.lt_of_lt_of_le a4 k.next);rw[this] at h3;cases h3
    ·rcases h4 with ⟨b1,p1,c1,c2,c3,c4⟩|h4
     ·exact .inl ⟨b1,p1,c1,by rw[c2,a2],Nat.le_trans k.lo c3,c4⟩
     ·exact .inr (by rw[← a2];exact h4)
   ·exact .inr (Nat.le_trans h.size h2)
 frame:=fun c hc hS hb=>by
  have h1:=h.frame c hc hS fun b p a1 a2 a3=>hb b p a1 (Nat.le_trans k.lo a2) a3
  rw[← h1]
  refine k.frame c (Nat.lt_of_lt_of_le hc h.size) (fun s st hst=>?_) fun b p a1 a2 a3=>?_
  ·intro e
   rcases h.lblk st c e with g|g
   ·have:st<ln:=by
     rcases Nat.lt_or_ge st ln with g'|g'
     ·exact g'
     ·have:=hlf st g' (Nat.lt_of_lt_of_le hst k.lnle);rw[this] at g;cases g
    exact hS s st this g
   ·omega
  ·rcases h.blk b p a1 with h3|⟨h3,h3',h4⟩
   ·rcases Nat.lt_or_ge b H.next with g|g
    ·exact hb b p h3 a2 g
    ·have:=hf b g (Nat.lt_of_lt_of_le a3 k.next);rw[this] at h3;cases h3
   ·rcases h4 with ⟨b0,p0,c1,c2,c3,c4⟩|h4
    ·rw[← c2];exact hb b0 p0 c1 (Nat.le_trans k.lo c3) c4
    ·omega
 size:=Nat.le_trans h.size k.size
 next:=Nat.le_trans h.next k.next
 lo:=Nat.le_trans k.lo h.lo
 old:=fun b hb hl=>by
  rw[k.old b (Nat.lt_of_lt_of_le hb h.next) hl,h.old b hb (Nat.lt_of_lt_of_le hl k.lo)]
 lext:=fun st c hc=>k.lext st c (h.lext st c hc)
 lnew:=fun st hs hn=>by
  by_cases h1:lam1 st=none
  ·have:=k.lnew st h1 hn;exact⟨Nat.le_trans h.lnle this.1,this.2⟩
  ·have:=h.lnew st hs h1;exact⟨this.1,Nat.lt_of_lt_of_le this.2 k.lnle⟩
 lall:=fun st hs hn=>by
  rcases Nat.lt_or_ge st ln1 with g|g
  ·have h1:=h.lall st hs g
   cases e:lam1 st with
   | none=>exact absurd e h1
   | some x=>rw[k.lext st x e];simp
  ·exact k.lall st g hn
 lblk:=fun st c hc=>by
  rcases k.lblk st c hc with h1|h1
  ·exact h.lblk st c h1
  ·exact .inr (Nat.le_trans h.size h1)
 lnle:=Nat.le_trans h.lnle k.lnle
 lold:=fun hS st hst=>by rw[k.lold hS st (Nat.lt_of_lt_of_le hst h.lnle),h.lold hS st hst]

theorem OR.ext {w0:World} {ι ι':Io} (he:Ext ι ι') {x:AObj} {p:Pl} {o:Option Obj} (h:OR w0 ι x p o):OR w0 ι' x p o:=by
 cases x with
 | cells cs=>obtain⟨cc,T,h1,h2,h3,h4⟩:=h;exact⟨cc,T,h1,h2,h3,h4.ext he⟩
 | map es=>obtain⟨es',cl,h1,h2,h3⟩:=h;exact⟨es',cl,h1,h2,fun i hi=>⟨(h3 i hi).1.ext he,(h3 i hi).2.ext he⟩⟩
 | dead=>trivial

theorem AH.get_put (H:AH) (b b':Nat) (o:AObj):(H.put b o).get b'=if b=b' then o else H.get b':=by
 unfold AH.get AH.put
 simp only[Tr.get_set]
 split<;>simp
theorem AH.get_new (H:AH) (b':Nat) (o:AObj):(H.new o).get b'=if H.next=b' then o else H.get b':=by
 unfold AH.get AH.new
 simp only[Tr.get_set]
 split<;>simp
theorem AH.put_next (H:AH) (b:Nat) (o:AObj):(H.put b o).next=H.next:=rfl
theorem AH.put_lo (H:AH) (b:Nat) (o:AObj):(H.put b o).lo=if b<H.lo then b else H.lo:=rfl
theorem AH.new_lo (H:AH) (o:AObj):(H.new o).lo=H.lo:=rfl

def VE (w0:World) (ι:Io) (lam:Lo):AV→Value→Prop
 | .lp st o,c=>∃ b,lam st=some b∧c=.pointer (some ⟨b,o,none⟩)
 | v,c=>V w0 ι v c

theorem VE.of_V {w0:World} {ι:Io} {lam:Lo} {v:AV} {c:Value} (h:V w0 ι v c):VE w0 ι lam v c:=by
 cases h<;>(first|exact .bool _|exact .int _ _|exact .str _|exact .nilp|exact .nils|exact .nilm|exact .nilf|exact .nili|skip)
 ·exact .ptr _ _ _ _ _ ‹_› ‹_›
 ·exact .sl _ _ _ _ _ _ _ _ _ _ _ ‹_› ‹_› ‹_› ‹_› ‹_› ‹_›
 ·exact .vs0 _
 ·exact .vs _ _ _ _ _ _ ‹_› ‹_› ‹_› ‹_› ‹_› ‹_› ‹_›
 ·exact .vp _ _ _ _ _ _ ‹_› ‹_› ‹_› ‹_›
 ·exact .mp _ _ _ ‹_› ‹_›
 ·exact .fn _ _ _ _ _ ‹_› ‹_› ‹_› ‹_›
 ·exact .ifc _ _ _ ‹_›
 ·exact .agg _ _ ‹_› ‹_› ‹_›
 ·exact .tup _ _ ‹_› ‹_›

theorem VE.V {w0:World} {ι:Io} {lam:Lo} {v:AV} {c:Value} (h:VE w0 ι lam v c) (hf:v.free=true):V w0 ι v c:=by
 cases v<;>first|exact h|simp[AV.free] at hf

theorem VE.ext {w0:World} {ι ι':Io} {lam lam':Lo} (he:Ext ι ι') (hl:∀ st c,lam st=some c→lam' st=some c) {v:AV} {c:Value} (h:VE w0 ι lam v c):VE w0 ι' lam' v c:=by
 cases hv:v.free with
 | true=>exact VE.of_V ((h.V hv).ext he)
 | false=>
  cases v<;>simp[AV.free] at hv
  obtain⟨b,h1,h2⟩:=h
  exact⟨b,hl _ _ h1,h2⟩

theorem cell_of_block {w:World} {g:Nat} {cc:Array Value} {T:TypeId} {fr:Nat × Nat} (h:w.heap[g]? = some (.cells cc T fr)) (o:Nat):w.cell? ⟨g,o,none⟩=cc[o]?:=by
 simp[World.cell?,h]

theorem slice_spec {cs:List AV} {o n:Nat} {xs:List AV} (h:slice cs o n=some xs):o+n≤cs.length∧xs=(cs.drop o).take n:=by
 unfold slice at h
 split at h
 ·exact⟨by assumption,by cases h;rfl⟩
 ·cases h

theorem MR.heapLow {w0:World} {ι:Io} {lam:Lo} {L:Tr (List AV)} {ln:Nat} {H:AH} {w:World} (h:MR w0 ι lam L ln H w) {a:Addr} {c:Value} (hc:w0.cell? a=some c):w.cell? a=some c:=by
 have hb:=World.block_lt_of_cell? w0 (a:=a) hc
 rw[← hc]
 exact World.cell?_of_block (w:=w0) (h.low a.block hb)

theorem MR.read {w0:World} {ι:Io} {lam:Lo} {e:Env} {H:AH} {w:World} (h:MR w0 ι lam e.L e.ln H w) {v:AV} {c:Value} {n:Nat} {cs:List AV} (hv:VE w0 ι lam v c) (hr:readAt e H v n=some cs) :
  ∃ g o cl,c=.pointer (some ⟨g,o,none⟩)∧VC w0 ι cs cl∧cs.length=n∧∀ (j:Nat) x,cl[j]? = some x→w.cell? ⟨g,o+j,none⟩=some x:=by
 unfold readAt at hr
 split at hr
 ·rename_i b o
  unfold AH.read at hr
  split at hr
  ·rename_i xs hg
   obtain⟨hle,rfl⟩:=slice_spec hr
   have hlt:b<H.next:=by
    rcases Nat.lt_or_ge b H.next with g|g
    ·exact g
    ·rw[h.top b g] at hg;cases hg
   cases hv with
   | ptr _ _ g off x hi hp=>
    cases x with
    | none=>rw[h.alive b hlt hi] at hg;cases hg
    | some p=>
     have ho:=h.obj b p hlt hi
     rw[hg] at ho
     obtain⟨cc,T,e1,e2,e3,e4⟩:=ho
     obtain⟨rfl,rfl⟩:=hp p rfl
     refine⟨p.blk,p.base+o,((((cc.toList.drop p.base).take xs.length).drop o).take n),rfl,(e4.drop o).take n,by simp;omega,fun j x hj=>?_⟩
     rw[cell_of_block e1]
     rw[List.getElem?_take] at hj
     split at hj
     ·rw[List.getElem?_drop,List.getElem?_take] at hj
      split at hj
      ·rw[List.getElem?_drop] at hj
       rw[← hj,Array.getElem?_toList,Nat.add_assoc]
      ·cases hj
     ·cases hj
  ·cases hr
 ·rename_i es i o
  split at hr
  ·rename_i xs hx
   obtain⟨hle,rfl⟩:=slice_spec hr
   cases hv with
   | vp _ _ _ blk off cf hi hc hv h1=>
    obtain⟨_,rfl⟩:=List.getElem?_eq_some_iff.1 hx
    refine⟨blk,off+o,(List.range n).map fun j=>cf (o+j),rfl,⟨VL.of_get (by simp;omega) fun j a c ha hcc=>?_,fun c hc'=>?_⟩,by simp;omega,fun j x hj=>?_⟩
    ·rw[List.getElem?_take] at ha
     split at ha
     ·rename_i hjn
      rw[List.getElem?_drop] at ha
      obtain⟨hlt,rfl⟩:=List.getElem?_eq_some_iff.1 ha
      simp only[List.getElem?_map,List.getElem?_range hjn,Option.map_some,Option.some.injEq] at hcc
      rw[← hcc]
      exact (hv (o+j) hlt).ext (Ext.noI ι)
     ·cases ha
    ·obtain⟨j,hj,rfl⟩:=List.mem_map.1 hc'
     exact h1 (o+j) (by have:=List.mem_range.1 hj;omega)
    ·simp only[List.getElem?_map] at hj
     by_cases hjn:j<n
     ·rw[List.getElem?_range hjn] at hj
      simp only[Option.map_some,Option.some.injEq] at hj
      rw[← hj,Nat.add_assoc]
      exact h.heapLow (hc (o+j) (by omega))
     ·rw[List.getElem?_eq_none (by simpa using hjn)] at hj;cases hj
  ·cases hr
 ·rename_i st o
  split at hr
  ·rename_i xs hx
   obtain⟨hle,rfl⟩:=slice_spec hr
   obtain⟨b,hb,rfl⟩:=hv
   have hlt:st<e.ln:=by
    rcases Nat.lt_or_ge st e.ln with g|g
    ·exact g
    ·rw[h.ltop st g] at hx;cases hx
   obtain⟨cs,cc,T,e1,e2,e3⟩:=h.lobj st b hlt hb
   rw[hx] at e1
   cases e1
   refine⟨b,o,((cc.toList.drop o).take n),rfl,(e3.drop o).take n,by simp;omega,fun j x hj=>?_⟩
   rw[cell_of_block e2]
   rw[List.getElem?_take] at hj
   split at hj
   ·rw[List.getElem?_drop] at hj
    rw[← hj,Array.getElem?_toList]
   ·cases hj
  ·cases hr
 ·cases hr

theorem MR.putObj {w0:World} {ι:Io} {lam:Lo} {L:Tr (List AV)} {ln:Nat} {H:AH} {w:World} (h:MR w0 ι lam L ln H w) {b:Nat} {p:Pl} (hb:b<H.next) (hi:ι b=some (some p))
  {cs:List AV} {cur new:Array Value} {T:TypeId} (hg:w.heap[p.blk]? = some (.cells cur T (0,0))) (ht:new.size=p.tot) (hle:p.base+cs.length≤new.size) (hv:VC w0 ι cs ((new.toList.drop p.base).take cs.length)) :
  MR w0 ι lam L ln (H.put b (.cells cs)) (w.setRow p.blk new)∧FP False ι lam L ln H w ι lam L ln (H.put b (.cells cs)) (w.setRow p.blk new):=by
 have hpl:=h.pl b p hi
 refine⟨?_, ?_⟩
 ·refine { size:=by simpa using h.size,low:=fun c hc=>?_,os:=h.os,tape:=h.tape,output:=h.output,pl:=fun b p hp=>by simpa using h.pl b p hp,inj:=h.inj,obj:=fun b' p' hb' hi'=>?_,lpl:=fun st c hc=>by simpa using h.lpl st c hc,linj:=h.linj,lobj:=fun st c hst hc=>?_,lo:=?_,top:=fun b' hb'=>?_,ltop:=h.ltop,alive:=fun b' hb' hi'=>?_ }
  ·rw[setRow_other _ _ _ _ (by omega)];exact h.low c hc
  ·rw[AH.get_put]
   by_cases e:b=b'
   ·subst e
    rw[hi] at hi'
    cases hi'
    rw[if_pos rfl,setRow_heap w p.blk cur new T (0,0) hg]
    exact⟨new,T,rfl,ht,hle,hv⟩
   ·rw[if_neg e,setRow_other _ _ _ _ (fun e'=>e (h.inj b b' p p' hi hi' e'.symm))]
    exact h.obj b' p' hb' hi'
  ·obtain⟨xs,cc,T',e1,e2,e3⟩:=h.lobj st c hst hc
   refine⟨xs,cc,T',e1, ?_,e3⟩
   rw[setRow_other _ _ _ _ (fun e=>(h.lpl st c hc).2.2 b p hi e.symm)]
   exact e2
  ·show (if b<H.lo then b else H.lo)≤H.next
   have:=h.lo
   split<;>omega
  ·rw[AH.get_put,if_neg (by have:H.next≤b':=hb';omega)];exact h.top b' hb'
  ·rw[AH.get_put]
   by_cases e:b=b'
   ·subst e;rw[hi] at hi';cases hi'
   ·rw[if_neg e];exact h.alive b' hb' hi'
 ·have hlo:(H.put b (.cells cs)).lo≤b:=by rw[AH.put_lo];split<;>omega
  refine { FP.refl (S:=False) ι lam L ln H w with kept:=fun b x h k=>absurd h k,new:=fun b h k=>absurd h k,all:=fun b' h k=>by have:b'<H.next:=k;omega,blk:=fun b p h=>.inl h,frame:=fun c hc _ hfr=>?_,size:=by simp,lo:=by rw[AH.put_lo];split<;>omega,old:=fun b' hb' hl=>?_ }
  ·exact setRow_other _ _ _ _ (fun e=>hfr b p hi hlo hb e.symm)
  ·rw[AH.get_put,if_neg (by omega)]

theorem MR.putLoc {w0:World} {ι:Io} {lam:Lo} {L:Tr (List AV)} {ln:Nat} {H:AH} {w:World} (h:MR w0 ι lam L ln H w) {st g:Nat} (hst:st<ln) (hi:lam st=some g)
  {cs:List AV} {cur new:Array Value} {T:TypeId} (hg:w.heap[g]? = some (.cells cur T (0,0))) (hv:VC w0 ι cs new.toList) :
  MR w0 ι lam (L.set st cs) ln H (w.setRow g new)∧FP True ι lam L ln H w ι lam (L.set st cs) ln H (w.setRow g new):=by
 have hpl:=h.lpl st g hi
 refine⟨?_, ?_⟩
 ·refine { size:=by simpa using h.size,low:=fun c hc=>?_,os:=h.os,tape:=h.tape,output:=h.output,pl:=fun b p hp=>by simpa using h.pl b p hp,inj:=h.inj,obj:=fun b' p' hb' hi'=>?_,lpl:=fun st c hc=>by simpa using h.lpl st c hc,linj:=h.linj,lobj:=fun st' c hst' hc=>?_,lo:=h.lo,top:=h.top,ltop:=fun st' hst'=>?_,alive:=h.alive }
  ·rw[setRow_other _ _ _ _ (by omega)];exact h.low c hc
  ·rw[setRow_other _ _ _ _ (fun e=>hpl.2.2 b' p' hi' e)]
   exact h.obj b' p' hb' hi'
  ·by_cases e:st=st'
   ·subst e
    rw[hi] at hc
    cases hc
    exact⟨cs,new,T,by rw[Tr.get_set];simp,setRow_heap w g cur new T (0,0) hg,hv⟩
   ·obtain⟨xs,cc,T',e1,e2,e3⟩:=h.lobj st' c hst' hc
    refine⟨xs,cc,T',by rw[Tr.get_set,if_neg e];exact e1, ?_,e3⟩
    rw[setRow_other _ _ _ _ (fun e'=>e (h.linj st st' g hi (by rw[← e'];exact hc)))]
    exact e2
  ·rw[Tr.get_set,if_neg (by omega)];exact h.ltop st' hst'
 ·refine { FP.refl (S:=True) ι lam L ln H w with frame:=fun c hc hS hfr=>?_,size:=by simp,lold:=fun n=>absurd trivial n }
  exact setRow_other _ _ _ _ (fun e=>hS trivial st hst (e ▸ hi))

theorem MR.write {w0:World} {ι:Io} {lam:Lo} {e e':Env} {H H':AH} {w:World} (h:MR w0 ι lam e.L e.ln H w) {v:AV} {c:Value} {vs:List AV} {cl:List Value} (hv:VE w0 ι lam v c) (hvs:VC w0 ι vs cl)
  (hr:writeAt e H v vs=some (e',H')) :
  ∃ g o cur T,c=.pointer (some ⟨g,o,none⟩)∧w.heap[g]? = some (.cells cur T (0,0))∧o+cl.length≤cur.size∧e'.m=e.m∧e'.ln=e.ln ∧
   MR w0 ι lam e'.L e'.ln H' (w.setRow g (cur.toList.take o++cl++cur.toList.drop (o+cl.length)).toArray) ∧
   FP True ι lam e.L e.ln H w ι lam e'.L e'.ln H' (w.setRow g (cur.toList.take o++cl++cur.toList.drop (o+cl.length)).toArray):=by
 unfold writeAt at hr
 split at hr
 ·rename_i b o
  unfold AH.write at hr
  split at hr
  ·rename_i xs hg
   split at hr
   ·rename_i hle
    simp only[Option.map_some,Option.some.injEq,Prod.mk.injEq] at hr
    obtain⟨rfl,rfl⟩:=hr
    have hlt:b<H.next:=by
     rcases Nat.lt_or_ge b H.next with g|g
     ·exact g
     ·rw[h.top b g] at hg;cases hg
    cases hv with
    | ptr _ _ g off x hi hp=>
     cases x with
     | none=>rw[h.alive b hlt hi] at hg;cases hg
     | some p=>
      have ho:=h.obj b p hlt hi
      rw[hg] at ho
      obtain⟨cc,T,e1,e2,e3,e4⟩:=ho
      have hl:=hvs.1.1
      have hlx:(Ab.splice xs o vs).length=xs.length:=by simp[Ab.splice];omega
      have key:=h.putObj (cs:=Ab.splice xs o vs) (new:=(cc.toList.take (p.base+o)++cl++cc.toList.drop (p.base+o+cl.length)).toArray) hlt hi e1 (by simp;omega) (by simp[hlx];omega) (by
       have e5:=e4.splice o hvs
       rw[hlx]
       have:((cc.toList.take (p.base+o)++cl++cc.toList.drop (p.base+o+cl.length)).toArray.toList.drop p.base).take xs.length
         = ((cc.toList.drop p.base).take xs.length).take o++cl++((cc.toList.drop p.base).take xs.length).drop (o+cl.length):=by
        apply List.ext_getElem?
        intro i
        simp only[List.getElem?_take,List.getElem?_drop,List.getElem?_append,List.length_take,List.length_drop,List.length_append,Array.length_toList]
        repeat' split
        all_goals first
         | rfl
         | omega
         | (congr 1;omega)
       rw[this]
       exact e5)
      obtain⟨rfl,rfl⟩:=hp p rfl
      exact⟨p.blk,p.base+o,cc,T,rfl,e1,by omega,rfl,rfl,key.1,key.2.mono (fun f=>f.elim)⟩
   ·cases hr
  ·cases hr
 ·rename_i st o
  split at hr
  ·rename_i xs hx
   split at hr
   ·rename_i hle
    simp only[Option.some.injEq,Prod.mk.injEq] at hr
    obtain⟨rfl,rfl⟩:=hr
    obtain⟨b,hb,rfl⟩:=hv
    have hlt:st<e.ln:=by
     rcases Nat.lt_or_ge st e.ln with g|g
     ·exact g
     ·rw[h.ltop st g] at hx;cases hx
    obtain⟨cs,cc,T,e1,e2,e3⟩:=h.lobj st b hlt hb
    rw[hx] at e1
    cases e1
    have hl:=hvs.1.1
    have hl2:=e3.1.1
    simp only[Array.length_toList] at hl2
    have key:=h.putLoc (cs:=Ab.splice xs o vs) (new:=(cc.toList.take o++cl++cc.toList.drop (o+cl.length)).toArray) hlt hb e2 (by simpa using e3.splice o hvs)
    exact⟨b,o,cc,T,rfl,e2,by omega,rfl,rfl,key.1,key.2⟩
   ·cases hr
  ·cases hr
 ·cases hr

def Io.set (ι:Io) (b:Nat) (x:Option Pl):Io:=fun i=>if i=b then some x else ι i
def Lo.set (lam:Lo) (st c:Nat):Lo:=fun i=>if i=st then some c else lam i

theorem MR.alloc {w0:World} {ι:Io} {lam:Lo} {L:Tr (List AV)} {ln:Nat} {H:AH} {w:World} (h:MR w0 ι lam L ln H w) (hf:ι H.next=none) {cs:List AV} {cc:Array Value} {T:TypeId} (hle:cs.length≤cc.size)
  (hv:VC w0 ι cs (cc.toList.take cs.length)) :
  MR w0 (ι.set H.next (some ⟨w.heap.size,0,cc.size⟩)) lam L ln (H.new (.cells cs)) (w.alloc (.cells cc T)) ∧
   FP False ι lam L ln H w (ι.set H.next (some ⟨w.heap.size,0,cc.size⟩)) lam L ln (H.new (.cells cs)) (w.alloc (.cells cc T)):=by
 have he:Ext ι (ι.set H.next (some ⟨w.heap.size,0,cc.size⟩)):=fun b x hb=>.inl (by
  unfold Io.set;rw[if_neg (fun e=>by rw[e,hf] at hb;cases hb)];exact hb)
 have hs:∀ b p,(ι.set H.next (some ⟨w.heap.size,0,cc.size⟩)) b=some (some p)→(b=H.next∧p=⟨w.heap.size,0,cc.size⟩)∨(b≠H.next∧ι b=some (some p)):=by
  intro b p hp
  unfold Io.set at hp
  split at hp
  ·cases hp;exact .inl ⟨by assumption,rfl⟩
  ·exact .inr ⟨by assumption,hp⟩
 have hold:∀ k,k<w.heap.size→(w.alloc (.cells cc T)).heap[k]? = w.heap[k]?:=fun k hk=>Below.heap_alloc _ _ _ hk
 refine⟨?_, ?_⟩
 ·refine { size:=by simp;have:=h.size;omega,low:=fun c hc=>?_,os:=h.os,tape:=h.tape,output:=h.output,pl:=fun b p hp=>?_,inj:=fun b b' p p' hp hp' e=>?_,obj:=fun b' p' hb' hi'=>?_,lpl:=fun st c hc=>?_,linj:=h.linj,lobj:=fun st c hst hc=>?_,lo:=?_,top:=fun b' hb'=>?_,ltop:=h.ltop,alive:=fun b' hb' hi'=>?_ }
  ·rw[hold c (by have:=h.size;omega)];exact h.low c hc
  ·have:=h.size
   rcases hs b p hp with ⟨rfl,rfl⟩|⟨_,hp⟩
   ·simp;omega
   ·have:=h.pl b p hp;simp;omega
  ·rcases hs b p hp with ⟨rfl,rfl⟩|⟨_,hp⟩<;>rcases hs b' p' hp' with ⟨rfl,rfl⟩|⟨_,hp'⟩
   ·rfl
   ·have:=h.pl b' p' hp';simp at e;omega
   ·have:=h.pl b p hp;simp at e;omega
   ·exact h.inj b b' p p' hp hp' e
  ·rw[AH.get_new]
   rcases hs b' p' hi' with ⟨rfl,rfl⟩|⟨hne,hp⟩
   ·rw[if_pos rfl]
    refine⟨cc,T,heap_alloc_new w _,rfl,by simpa using hle, ?_⟩
    simpa using hv.ext he
   ·rw[if_neg (fun e=>hne e.symm)]
    have hlt:b'<H.next:=by have:b'<H.next+1:=hb';omega
    have:=(h.obj b' p' hlt hp).ext he
    rwa [hold _ (h.pl b' p' hp).2]
  ·have:=h.lpl st c hc
   refine⟨this.1,by simp;omega,fun b p hp=>?_⟩
   rcases hs b p hp with ⟨rfl,rfl⟩|⟨_,hp⟩
   ·simp;omega
   ·exact this.2.2 b p hp
  ·obtain⟨xs,cc',T',e1,e2,e3⟩:=h.lobj st c hst hc
   exact⟨xs,cc',T',e1,by rw[hold _ (h.lpl st c hc).2.1];exact e2,e3.ext he⟩
  ·show H.lo≤H.next+1
   have:=h.lo;omega
  ·have hb'':H.next+1≤b':=hb'
   rw[AH.get_new,if_neg (by omega)];exact h.top b' (by omega)
  ·rw[AH.get_new]
   have hb'':b'<H.next+1:=hb'
   by_cases e:H.next=b'
   ·subst e;unfold Io.set at hi';simp at hi'
   ·rw[if_neg e];unfold Io.set at hi';rw[if_neg (fun x=>e x.symm)] at hi';exact h.alive b' (by omega) hi'
 ·refine { FP.refl (S:=False) ι lam L ln H w with ext:=he,kept:=fun b x hb hn=>?_,new:=fun b hb hn=>?_,all:=fun b h1 h2=>?_,blk:=fun b p hp=>?_,frame:=fun c hc _ _=>hold c hc,size:=by simp,next:=Nat.le_succ _,lo:=Nat.le_refl _,old:=fun b hb _=>?_ }
  ·rcases he b x hb with e|e
   ·exact absurd e hn
   ·unfold Io.set at e;split at e
    ·cases e
    ·rw[hb] at e;cases e;exact absurd (by unfold Io.set;rw[if_neg (by assumption)];exact hb) hn
  ·unfold Io.set at hn
   by_cases e:b=H.next
   ·subst e;exact⟨Nat.le_refl _,Nat.lt_succ_self _⟩
   ·rw[if_neg e] at hn;exact absurd hb hn
  ·have h2':b<H.next+1:=h2
   have:b=H.next:=by omega
   subst this;unfold Io.set;simp
  ·rcases hs b p hp with ⟨rfl,rfl⟩|⟨_,hp⟩
   ·exact .inr ⟨Nat.le_refl _,Nat.lt_succ_self _,.inr (Nat.le_refl _)⟩
   ·exact .inl hp
  ·rw[AH.get_new,if_neg (by omega)]

theorem MR.allocMap {w0:World} {ι:Io} {lam:Lo} {L:Tr (List AV)} {ln:Nat} {H:AH} {w:World} (h:MR w0 ι lam L ln H w) (hf:ι H.next=none) :
  MR w0 (ι.set H.next (some ⟨w.heap.size,0,0⟩)) lam L ln (H.new (.map [])) (w.alloc (.map #[] 0)) ∧
   FP False ι lam L ln H w (ι.set H.next (some ⟨w.heap.size,0,0⟩)) lam L ln (H.new (.map [])) (w.alloc (.map #[] 0)):=by
 have he:Ext ι (ι.set H.next (some ⟨w.heap.size,0,0⟩)):=fun b x hb=>.inl (by
  unfold Io.set;rw[if_neg (fun e=>by rw[e,hf] at hb;cases hb)];exact hb)
 have hs:∀ b p,(ι.set H.next (some ⟨w.heap.size,0,0⟩)) b=some (some p)→(b=H.next∧p=⟨w.heap.size,0,0⟩)∨(b≠H.next∧ι b=some (some p)):=by
  intro b p hp
  unfold Io.set at hp
  split at hp
  ·cases hp;exact .inl ⟨by assumption,rfl⟩
  ·exact .inr ⟨by assumption,hp⟩
 have hold:∀ k,k<w.heap.size→(w.alloc (.map #[] 0)).heap[k]? = w.heap[k]?:=fun k hk=>Below.heap_alloc _ _ _ hk
 refine⟨?_, ?_⟩
 ·refine { size:=by simp;have:=h.size;omega,low:=fun c hc=>?_,os:=h.os,tape:=h.tape,output:=h.output,pl:=fun b p hp=>?_,inj:=fun b b' p p' hp hp' e=>?_,obj:=fun b' p' hb' hi'=>?_,lpl:=fun st c hc=>?_,linj:=h.linj,lobj:=fun st c hst hc=>?_,lo:=?_,top:=fun b' hb'=>?_,ltop:=h.ltop,alive:=fun b' hb' hi'=>?_ }
  ·rw[hold c (by have:=h.size;omega)];exact h.low c hc
  ·have:=h.size
   rcases hs b p hp with ⟨rfl,rfl⟩|⟨_,hp⟩
   ·simp;omega
   ·have:=h.pl b p hp;simp;omega
  ·rcases hs b p hp with ⟨rfl,rfl⟩|⟨_,hp⟩<;>rcases hs b' p' hp' with ⟨rfl,rfl⟩|⟨_,hp'⟩
   ·rfl
   ·have:=h.pl b' p' hp';simp at e;omega
   ·have:=h.pl b p hp;simp at e;omega
   ·exact h.inj b b' p p' hp hp' e
  ·rw[AH.get_new]
   rcases hs b' p' hi' with ⟨rfl,rfl⟩|⟨hne,hp⟩
   ·rw[if_pos rfl]
    exact⟨#[],0,heap_alloc_new w _,rfl,fun i hi=>by simp at hi⟩
   ·rw[if_neg (fun e=>hne e.symm)]
    have hlt:b'<H.next:=by have:b'<H.next+1:=hb';omega
    have:=(h.obj b' p' hlt hp).ext he
    rwa [hold _ (h.pl b' p' hp).2]
  ·have:=h.lpl st c hc
   refine⟨this.1,by simp;omega,fun b p hp=>?_⟩
   rcases hs b p hp with ⟨rfl,rfl⟩|⟨_,hp⟩
   ·simp;omega
   ·exact this.2.2 b p hp
  ·obtain⟨xs,cc',T',e1,e2,e3⟩:=h.lobj st c hst hc
   exact⟨xs,cc',T',e1,by rw[hold _ (h.lpl st c hc).2.1];exact e2,e3.ext he⟩
  ·show H.lo≤H.next+1
   have:=h.lo;omega
  ·have hb'':H.next+1≤b':=hb'
   rw[AH.get_new,if_neg (by omega)];exact h.top b' (by omega)
  ·rw[AH.get_new]
   have hb'':b'<H.next+1:=hb'
   by_cases e:H.next=b'
   ·subst e;unfold Io.set at hi';simp at hi'
   ·rw[if_neg e];unfold Io.set at hi';rw[if_neg (fun x=>e x.symm)] at hi';exact h.alive b' (by omega) hi'
 ·refine { FP.refl (S:=False) ι lam L ln H w with ext:=he,kept:=fun b x hb hn=>?_,new:=fun b hb hn=>?_,all:=fun b h1 h2=>?_,blk:=fun b p hp=>?_,frame:=fun c hc _ _=>hold c hc,size:=by simp,next:=Nat.le_succ _,lo:=Nat.le_refl _,old:=fun b hb _=>?_ }
  ·rcases he b x hb with e|e
   ·exact absurd e hn
   ·unfold Io.set at e;split at e
    ·cases e
    ·rw[hb] at e;cases e;exact absurd (by unfold Io.set;rw[if_neg (by assumption)];exact hb) hn
  ·unfold Io.set at hn
   by_cases e:b=H.next
   ·subst e;exact⟨Nat.le_refl _,Nat.lt_succ_self _⟩
   ·rw[if_neg e] at hn;exact absurd hb hn
  ·have h2':b<H.next+1:=h2
   have:b=H.next:=by omega
   subst this;unfold Io.set;simp
  ·rcases hs b p hp with ⟨rfl,rfl⟩|⟨_,hp⟩
   ·exact .inr ⟨Nat.le_refl _,Nat.lt_succ_self _,.inr (Nat.le_refl _)⟩
   ·exact .inl hp
  ·rw[AH.get_new,if_neg (by omega)]

theorem MR.putMap {w0:World} {ι:Io} {lam:Lo} {L:Tr (List AV)} {ln:Nat} {H:AH} {w:World} (h:MR w0 ι lam L ln H w) {b:Nat} {p:Pl} (hb:b<H.next) (hi:ι b=some (some p))
  {es:List (AV × AV)} {cur new:Array MapEntry} {cl cl':Nat} (hg:w.heap[p.blk]? = some (.map cur cl)) (hl:es.length=new.size) (hv:∀ i (hi:i<es.length),V w0 ι es[i].1 new[i]!.key∧V w0 ι es[i].2 new[i]!.val) :
  MR w0 ι lam L ln (H.put b (.map es)) { w with heap:=w.heap.setIfInBounds p.blk (.map new cl') }∧FP False ι lam L ln H w ι lam L ln (H.put b (.map es)) { w with heap:=w.heap.setIfInBounds p.blk (.map new cl') }:=by
 have soth:∀ c,c≠p.blk→({ w with heap:=w.heap.setIfInBounds p.blk (.map new cl') }:World).heap[c]? = w.heap[c]?:=fun c hc=>by
  show (w.heap.setIfInBounds p.blk (.map new cl'))[c]? = _
  rw[Array.getElem?_setIfInBounds_ne (fun e=>hc e.symm)]
 have sself:({ w with heap:=w.heap.setIfInBounds p.blk (.map new cl') }:World).heap[p.blk]? = some (.map new cl'):=by
  show (w.heap.setIfInBounds p.blk (.map new cl'))[p.blk]? = _
  rw[Array.getElem?_setIfInBounds_self_of_lt (h.pl b p hi).2]
 have ssz:({ w with heap:=w.heap.setIfInBounds p.blk (.map new cl') }:World).heap.size=w.heap.size:=by
  show (w.heap.setIfInBounds p.blk (.map new cl')).size=_
  simp
 have hpl:=h.pl b p hi
 refine⟨?_, ?_⟩
 ·refine { size:=by rw[ssz];exact h.size,low:=fun c hc=>?_,os:=h.os,tape:=h.tape,output:=h.output,pl:=fun b p hp=>by rw[ssz];exact h.pl b p hp,inj:=h.inj,obj:=fun b' p' hb' hi'=>?_,lpl:=fun st c hc=>by rw[ssz];exact h.lpl st c hc,linj:=h.linj,lobj:=fun st c hst hc=>?_,lo:=?_,top:=fun b' hb'=>?_,ltop:=h.ltop,alive:=fun b' hb' hi'=>?_ }
  ·rw[soth c (by omega)];exact h.low c hc
  ·rw[AH.get_put]
   by_cases e:b=b'
   ·subst e
    rw[hi] at hi'
    cases hi'
    rw[if_pos rfl,sself]
    exact⟨new,cl',rfl,hl,hv⟩
   ·rw[if_neg e,soth _ (fun e'=>e (h.inj b b' p p' hi hi' e'.symm))]
    exact h.obj b' p' hb' hi'
  ·obtain⟨xs,cc,T',e1,e2,e3⟩:=h.lobj st c hst hc
   refine⟨xs,cc,T',e1, ?_,e3⟩
   rw[soth _ (fun e=>(h.lpl st c hc).2.2 b p hi e.symm)]
   exact e2
  ·show (if b<H.lo then b else H.lo)≤H.next
   have:=h.lo
   split<;>omega
  ·rw[AH.get_put,if_neg (by have:H.next≤b':=hb';omega)];exact h.top b' hb'
  ·rw[AH.get_put]
   by_cases e:b=b'
   ·subst e;rw[hi] at hi';cases hi'
   ·rw[if_neg e];exact h.alive b' hb' hi'
 ·have hlo:(H.put b (.map es)).lo≤b:=by rw[AH.put_lo];split<;>omega
  refine { FP.refl (S:=False) ι lam L ln H w with kept:=fun b x h k=>absurd h k,new:=fun b h k=>absurd h k,all:=fun b' h k=>by have:b'<H.next:=k;omega,blk:=fun b p h=>.inl h,frame:=fun c hc _ hfr=>?_,size:=by rw[ssz];exact Nat.le_refl _,lo:=by rw[AH.put_lo];split<;>omega,old:=fun b' hb' hl=>?_ }
  ·exact soth _ (fun e=>hfr b p hi hlo hb e.symm)
  ·rw[AH.get_put,if_neg (by omega)]

theorem MR.allocLoc {w0:World} {ι:Io} {lam:Lo} {L:Tr (List AV)} {ln:Nat} {H:AH} {w:World} (h:MR w0 ι lam L ln H w) (hf:lam ln=none) {cs:List AV} {cc:Array Value} {T:TypeId}
  (hv:VC w0 ι cs cc.toList) :
  MR w0 ι (lam.set ln w.heap.size) (L.set ln cs) (ln+1) H (w.alloc (.cells cc T)) ∧
   FP False ι lam L ln H w ι (lam.set ln w.heap.size) (L.set ln cs) (ln+1) H (w.alloc (.cells cc T)):=by
 have hs:∀ st c,(lam.set ln w.heap.size) st=some c→(st=ln∧c=w.heap.size)∨(st≠ln∧lam st=some c):=by
  intro st c hp
  unfold Lo.set at hp
  split at hp
  ·cases hp;exact .inl ⟨by assumption,rfl⟩
  ·exact .inr ⟨by assumption,hp⟩
 have hl:∀ st c,lam st=some c→(lam.set ln w.heap.size) st=some c:=by
  intro st c hc
  unfold Lo.set;rw[if_neg (fun e=>by rw[e,hf] at hc;cases hc)];exact hc
 have hold:∀ k,k<w.heap.size→(w.alloc (.cells cc T)).heap[k]? = w.heap[k]?:=fun k hk=>Below.heap_alloc _ _ _ hk
 refine⟨?_, ?_⟩
 ·refine { size:=by simp;have:=h.size;omega,low:=fun c hc=>?_,os:=h.os,tape:=h.tape,output:=h.output,pl:=fun b p hp=>?_,inj:=h.inj,obj:=fun b' p' hb' hi'=>?_,lpl:=fun st c hc=>?_,linj:=fun st st' c hp hp'=>?_,lobj:=fun st c hst hc=>?_,lo:=h.lo,top:=h.top,ltop:=fun st hst=>?_,alive:=h.alive }
  ·rw[hold c (by have:=h.size;omega)];exact h.low c hc
  ·have:=h.pl b p hp;simp;omega
  ·rw[hold _ (h.pl b' p' hi').2];exact h.obj b' p' hb' hi'
  ·have hz:=h.size
   rcases hs st c hc with ⟨rfl,rfl⟩|⟨_,hc⟩
   ·exact⟨hz,by simp,fun b p hp=>by have:=h.pl b p hp;omega⟩
   ·have:=h.lpl st c hc;exact⟨this.1,by simp;omega,this.2.2⟩
  ·rcases hs st c hp with ⟨e1,e2⟩|⟨_,hp⟩<;>rcases hs st' c hp' with ⟨e3,e4⟩|⟨_,hp'⟩
   ·omega
   ·have:=(h.lpl st' _ hp').2.1;omega
   ·have:=(h.lpl st _ hp).2.1;omega
   ·exact h.linj st st' c hp hp'
  ·rcases hs st c hc with ⟨e1,rfl⟩|⟨hne,hc⟩
   ·subst e1
    exact⟨cs,cc,T,by rw[Tr.get_set];simp,heap_alloc_new w _,hv⟩
   ·obtain⟨xs,cc',T',e1,e2,e3⟩:=h.lobj st c (by omega) hc
    exact⟨xs,cc',T',by rw[Tr.get_set,if_neg (fun e=>hne e.symm)];exact e1,by rw[hold _ (h.lpl st c hc).2.1];exact e2,e3⟩
  ·rw[Tr.get_set,if_neg (by omega)];exact h.ltop st (by omega)
 ·refine { FP.refl (S:=False) ι lam L ln H w with frame:=fun c hc _ _=>hold c hc,size:=by simp,lext:=hl,lnew:=fun st hst hn=>?_,lall:=fun st h1 h2=>?_,lblk:=fun st c hc=>?_,lnle:=Nat.le_succ _,lold:=fun _ st hst=>?_ }
  ·unfold Lo.set at hn
   by_cases e:st=ln
   ·subst e;exact⟨Nat.le_refl _,Nat.lt_succ_self _⟩
   ·rw[if_neg e] at hn;exact absurd hst hn
  ·have:st=ln:=by omega
   subst this;unfold Lo.set;simp
  ·rcases hs st c hc with ⟨rfl,rfl⟩|⟨_,hc⟩
   ·exact .inr (Nat.le_refl _)
   ·exact .inl hc
  ·rw[Tr.get_set,if_neg (by omega)]

theorem MR.drew {w0:World} {ι:Io} {lam:Lo} {L:Tr (List AV)} {ln:Nat} {H:AH} {w:World} (h:MR w0 ι lam L ln H w):MR w0 ι lam L ln H w.drew:=
 { h with }
theorem FP.drew {S:Prop} {ι:Io} {lam:Lo} {L:Tr (List AV)} {ln:Nat} {H:AH} {w:World} {ι':Io} {lam':Lo} {L':Tr (List AV)} {ln':Nat} {H':AH} {w':World}
  (h:FP S ι lam L ln H w.drew ι' lam' L' ln' H' w'):FP S ι lam L ln H w ι' lam' L' ln' H' w':=
 { h with }

end Go.Ab

namespace Go.Ab
open Go.RowKit

structure SR (w0:World) (ι:Io) (lam:Lo) (e:Env) (H:AH) (tmps:Array Value) (w:World):Prop where
 mem:MR w0 ι lam e.L e.ln H w
 slots:∀ t,VE w0 ι lam (e.get t) (tmps.getD t undef)

def Does (P:Program) (o:Oper) (a:Act) (w:World) (cv:Value) (w':World):Prop:=
 (execOp a.eval o).run P w=.ok (.value cv) w'∨((execOp a.eval o).run P w=.ok .skip w'∧cv=undef)

theorem Does.wp {P:Program} {o:Oper} {a:Act} {w w':World} {cv:Value} (h:Does P o a w cv w') {K:Act→World→Prop} {Q:Exit→Act→World→Prop} (hK:K (a.put o.dst cv) w'):o.wp P a w K Q:=by
 unfold Oper.wp
 rcases h with h|⟨h,rfl⟩<;>rw[h]<;>exact hK

theorem ofV_V {w0:World} {ι:Io} {c:Value} {v:AV} (h:ofV c=some v):V w0 ι v c∧c.oneCell'=true:=by
 unfold ofV at h
 split at h<;>cases h<;>refine⟨?_,rfl⟩<;>constructor

theorem mapO_VC {w0:World} {ι:Io}:∀ {l:List Value} {vs:List AV},mapO ofV l=some vs→VC w0 ι vs l
 | [],vs,h=>by simp[mapO] at h;subst h;exact VC.nil
 | c::l,vs,h=>by
  simp only[mapO] at h
  split at h
  ·rename_i y ys h1 h2
   cases h
   have:=ofV_V (w0:=w0) (ι:=ι) h1
   have ih:=mapO_VC (w0:=w0) (ι:=ι) h2
   exact⟨VL.cons this.1 ih.1,by simpa using ⟨this.2,ih.2⟩⟩
  ·cases h

theorem cst_V {w0:World} {ι:Io} {c:Value} {v:AV} (h:cst c=some v):V w0 ι v c:=by
 unfold cst at h
 split at h
 ·rename_i cs
  cases h1:mapO ofV cs.toList with
  | none=>rw[h1] at h;cases h
  | some vs=>
   rw[h1] at h
   cases h
   simpa using (mapO_VC (w0:=w0) (ι:=ι) h1).agg
 ·exact (ofV_V h).1

section
variable {P:Program} {w0:World} {ι:Io} {lam:Lo} {e:Env} {H:AH} {a:Act} {w:World}

theorem SR.opd (h:SR w0 ι lam e H a.tmps w) {x:Operand} {y:Opd} (hc:cOpd x=some y):VE w0 ι lam (e.raw y) (a.eval x):=by
 cases x with
 | tmp t=>simp[cOpd] at hc;subst hc;exact h.slots t
 | const v=>
  simp only[cOpd] at hc
  cases h1:cst v with
  | none=>rw[h1] at hc;cases hc
  | some u=>rw[h1] at hc;cases hc;exact VE.of_V (cst_V h1)
 | global g=>cases hc
 | func f=>
  simp[cOpd] at hc;subst hc
  exact VE.of_V (.fn _ _ _ _ _ rfl rfl (fun i h=>by simp at h) (fun i h=>by simp at h))

theorem mapO_length {α β:Type} {f:α→Option β}:∀ {l:List α} {r:List β},mapO f l=some r→r.length=l.length
 | [],r,h=>by simp[mapO] at h;subst h;rfl
 | x::l,r,h=>by
  simp only[mapO] at h
  split at h
  ·cases h;simp[mapO_length ‹mapO f l=some _›]
  ·cases h

theorem mapO_get {α β:Type} {f:α→Option β}:∀ {l:List α} {r:List β},mapO f l=some r→∀ (i:Nat) x,l[i]? = some x→∃ y,r[i]? = some y∧f x=some y
 | [],r,h,i,x,hi=>by simp at hi
 | z::l,r,h,i,x,hi=>by
  simp only[mapO] at h
  split at h
  ·rename_i y ys h1 h2
   cases h
   cases i with
   | zero=>simp at hi;subst hi;exact⟨y,rfl,h1⟩
   | succ i=>simpa using mapO_get h2 i x (by simpa using hi)
  ·cases h

theorem zeroOf_spec {t:TypeId} {z:List AV} (h:zeroOf P t=some z):∃ i v,P.info? t=some i∧i.zero=some v∧mapO ofV v.cells.toList=some z:=by
 unfold zeroOf at h
 split at h
 ·rename_i v hv
  cases hi:P.info? t with
  | none=>rw[hi] at hv;cases hv
  | some i=>rw[hi] at hv;exact⟨i,v,rfl,hv,h⟩
 ·cases h

theorem sOf_spec {t:TypeId} {n:Nat} (h:sOf P t=some n):∃ i,P.info? t=some i∧i.size=n:=by
 unfold sOf at h
 cases hi:P.info? t with
 | none=>rw[hi] at h;cases h
 | some i=>rw[hi] at h;exact⟨i,rfl,by simpa using h⟩

theorem run_sizeOf' {t:TypeId} {i:TypeInfo} (h:P.info? t=some i) (w:World):(sizeOf t).run P w=.ok i.size w:=by simp[sizeOf,typeInfo,h]
theorem run_zeroValue' {t:TypeId} {i:TypeInfo} {z:Value} (h:P.info? t=some i) (hz:i.zero=some z) (w:World):(zeroValue t).run P w=.ok z w:=by simp[zeroValue,typeInfo,h,hz]
theorem run_newVar' (t:TypeId) (v:Value) (w:World):(newVar t v).run P w=.ok ⟨w.heap.size,0,none⟩ (w.alloc (.cells v.cells t)):=by simp[newVar,newRow]
theorem run_newRow' (t:TypeId) (v:Array Value) (w:World):(newRow t v).run P w=.ok ⟨w.heap.size,0,none⟩ (w.alloc (.cells v t)):=by simp[newRow]

def Step (P:Program) (w0:World) (S:Prop) (o:Oper) (a:Act) (ι:Io) (lam:Lo) (e:Env) (H:AH) (w:World) (v:AV) (e':Env) (H':AH):Prop:=
 ∃ cv ι' lam' w',Does P o a w cv w'∧VE w0 ι' lam' v cv∧MR w0 ι' lam' e'.L e'.ln H' w'∧FP S ι lam e.L e.ln H w ι' lam' e'.L e'.ln H' w'∧e'.m=e.m

theorem Step.same {S:Prop} {o:Oper} (h:SR w0 ι lam e H a.tmps w) {v:AV} {cv:Value} (hd:Does P o a w cv w) (hv:VE w0 ι lam v cv):Step P w0 S o a ι lam e H w v e H:=
 ⟨cv,ι,lam,w,hd,hv,h.mem,FP.refl _ _ _ _ _ _,rfl⟩

theorem VE.inv_bool {v:Value} {b:Bool} (h:VE w0 ι lam (.bool b) v):v=.bool b:=by cases h;rfl
theorem VE.inv_int {v:Value} {k:IntKind} {n:Int} (h:VE w0 ι lam (.int k n) v):v=.int k n:=by cases h;rfl
theorem VE.inv_agg {v:Value} {cs:List AV} (h:VE w0 ι lam (.agg cs) v):∃ c:Array Value,v=.agg c∧VC w0 ι cs c.toList:=V.inv_agg h
theorem VE.inv_tup {v:Value} {cs:List AV} (h:VE w0 ι lam (.tup cs) v):∃ c:Array Value,v=.tuple c∧VL w0 ι cs c.toList:=V.inv_tup h

theorem step_mv {o:Oper} {x:Operand} {y:Opd} (h:SR w0 ι lam e H a.tmps w) (ho:o.op=.move x∨o.op=.assign x) (hc:cOpd x=some y):Step P w0 False o a ι lam e H w (e.raw y) e H:=
 Step.same h (.inl (by rcases ho with ho|ho<;>simp[execOp,ho])) (h.opd hc)

theorem step_pick {o:Oper} {c x y:Operand} {c' x' y':Opd} {b:Bool} (h:SR w0 ι lam e H a.tmps w) (ho:o.op=.pick c x y) (hc:cOpd c=some c') (hx:cOpd x=some x') (hy:cOpd y=some y') (hb:e.raw c'=.bool b) :
  Step P w0 False o a ι lam e H w (if b then e.raw x' else e.raw y') e H:=by
 have h1:=(h.opd hc);rw[hb] at h1
 have h2:=h1.inv_bool
 cases b
 ·exact Step.same h (cv:=a.eval y) (.inl (by simp[execOp,ho,h2,asBool])) (h.opd hy)
 ·exact Step.same h (cv:=a.eval x) (.inl (by simp[execOp,ho,h2,asBool])) (h.opd hx)

theorem VE.new (b:Nat) (tot:Nat) (g:Nat):VE w0 (ι.set b (some ⟨g,0,tot⟩)) lam (.ptr b 0) (.pointer (some ⟨g,0,none⟩)):=
 .ptr b 0 g 0 (some ⟨g,0,tot⟩) (by unfold Io.set;simp) (fun p hp=>by cases hp;exact⟨rfl,rfl⟩)

theorem step_newCells {o:Oper} {cs:List AV} {cc:Array Value} {T:TypeId} (h:SR w0 ι lam e H a.tmps w) (hf:ι H.next=none) (hv:VC w0 ι cs cc.toList) (hd:Does P o a w (.pointer (some ⟨w.heap.size,0,none⟩)) (w.alloc (.cells cc T))) :
  Step P w0 False o a ι lam e H w (.ptr H.next 0) e (H.new (.cells cs)):=by
 have hl:=hv.1.1
 simp only[Array.length_toList] at hl
 have key:=h.mem.alloc (T:=T) hf (cs:=cs) (cc:=cc) (by omega) (by rw[List.take_of_length_le (by simp;omega)];exact hv)
 exact⟨_,_,lam,_,hd,VE.new _ _ _,key.1,key.2,rfl⟩

theorem step_newLoc {o:Oper} {cs:List AV} {cc:Array Value} {T:TypeId} (h:SR w0 ι lam e H a.tmps w) (hf:lam e.ln=none) (hv:VC w0 ι cs cc.toList) (hd:Does P o a w (.pointer (some ⟨w.heap.size,0,none⟩)) (w.alloc (.cells cc T))) :
  Step P w0 False o a ι lam e H w (.lp e.ln 0) (e.loc cs) H:=by
 have key:=h.mem.allocLoc (T:=T) hf hv
 exact⟨_,ι,_,_,hd,⟨w.heap.size,by unfold Lo.set;simp,rfl⟩,key.1,key.2,rfl⟩

theorem does_alloc {o:Oper} {t:TypeId} {i:TypeInfo} {z:Value} (ho:o.op=.alloc t) (hi:P.info? t=some i) (hz:i.zero=some z):Does P o a w (.pointer (some ⟨w.heap.size,0,none⟩)) (w.alloc (.cells z.cells t)):=
 .inl (by simp[execOp,ho,Instr.alloc,run_zeroValue' hi hz,run_newVar'])
theorem does_box {o:Oper} {t:TypeId} {x:Operand} (ho:o.op=.box t x):Does P o a w (.pointer (some ⟨w.heap.size,0,none⟩)) (w.alloc (.cells (a.eval x).cells t)):=
 .inl (by simp[execOp,ho,Instr.box,run_newVar'])

theorem VE.cells {v:AV} {c:Value} (h:VE w0 ι lam v c) (hv:v.var=true):VC w0 ι v.cells c.cells.toList:=by
 refine (h.V ?_).cellsOf hv
 cases v<;>simp_all [AV.var,AV.free]
theorem VE.one {v:AV} {c:Value} (h:VE w0 ι lam v c) (hv:v.one=true):Ab.V w0 ι v c∧c.oneCell'=true:=by
 have:v.free=true:=by cases v<;>simp_all [AV.one,AV.free]
 exact⟨h.V this,(h.V this).one hv⟩

theorem foldl_set (vs:List Value):∀ (k off:Nat) (cs:Array Value),off+k+vs.length≤cs.size →
  (vs.zipIdx k).foldl (fun cs (p:Value × Nat)=>cs.setIfInBounds (off+p.2) p.1) cs=(cs.toList.take (off+k)++vs++cs.toList.drop (off+k+vs.length)).toArray:=by
 induction vs with
 | nil=>intro k off cs h;apply Array.ext';simp
 | cons v vs ih=>
  intro k off cs h
  simp only[List.zipIdx_cons,List.foldl_cons]
  rw[ih (k+1) off _ (by simp at h ⊢;omega)]
  apply Array.ext'
  have e:=list_seg_step cs.toList (off+k) v vs (by simp at h ⊢;omega)
  simpa [Array.toList_setIfInBounds,Nat.add_assoc] using e

theorem fill_rel (place:Nat→Option (Nat × Nat)):∀ (ps:List (Nat × Operand)) (qs:List (Nat × Nat × Opd)) (cells out:List AV) (cc:Array Value),SR w0 ι lam e H a.tmps w→cParts ps place=some qs→VC w0 ι cells cc.toList →
  ∀ vs,(qs.mapM fun p=>(e.val p.2.2).map fun v=>(p.1,p.2.1,v))=some vs→fillA cells vs=some out →
  ∃ cc',Instr.fill place cc (ps.map fun p=>(p.1,a.eval p.2))=some cc'∧VC w0 ι out cc'.toList:=by
 intro ps
 induction ps with
 | nil=>
  intro qs cells out cc hS hq hv vs hvs hf
  simp[cParts,mapO] at hq
  subst hq
  simp at hvs
  subst hvs
  simp[fillA] at hf
  subst hf
  exact⟨cc,rfl,hv⟩
 | cons p ps ih=>
  intro qs cells out cc hS hq hv vs hvs hf
  simp only[cParts,mapO] at hq
  split at hq
  ·rename_i y ys h1 h2
   cases hq
   split at h1
   ·rename_i off n x hpl hx
    cases h1
    simp only[List.mapM_cons,Option.pure_def,Option.bind_eq_bind] at hvs
    unfold Env.val at hvs
    split at hvs
    ·simp only[Option.map_some,Option.bind_some] at hvs
     cases hr:(ys.mapM fun p=>(e.val p.2.2).map fun v=>(p.1,p.2.1,v)) with
     | none=>unfold Env.val at hr;rw[hr] at hvs;cases hvs
     | some us=>
      have hr':=hr
      unfold Env.val at hr'
      rw[hr'] at hvs
      simp only[Option.bind_some,Option.some.injEq] at hvs
      subst hvs
      simp only[fillA] at hf
      split at hf
      ·rename_i hcond
       have hx':=(hS.opd hx).cells hcond.1
       have hl:=hx'.1.1
       have hl2:=hv.1.1
       simp only[Array.length_toList] at hl hl2
       have hfs:=foldl_set (a.eval p.2).cells.toList 0 off cc (by simp;omega)
       obtain⟨cc',hc1,hc2⟩:=ih ys _ out (cc.toList.take off++(a.eval p.2).cells.toList++cc.toList.drop (off+(a.eval p.2).cells.toList.length)).toArray hS h2 (by simpa using hv.splice off hx') us hr hf
       refine⟨cc', ?_,hc2⟩
       simp only[List.map_cons,Instr.fill,hpl]
       rw[if_neg (by simp;omega)]
       rw[← hc1]
       congr 1
       rw[← Array.foldl_toList,Array.toList_zipIdx]
       simpa using hfs
      ·cases hf
    ·simp at hvs
   ·cases h1
  ·cases hq

theorem mapM_val {α β:Type} (f:α→Option β):∀ (l:List α),l.mapM f=mapO f l
 | []=>rfl
 | x::l=>by
  simp only[List.mapM_cons,Option.pure_def,Option.bind_eq_bind,mapO,mapM_val f l]
  cases f x<;>simp
  cases mapO f l<;>simp

theorem does_build_struct {o:Oper} {t:TypeId} {ps:Array (Nat × Operand)} {i:TypeInfo} {z:Value} {fs:Array Field} {cc:Array Value} (ho:o.op=.build t ps) (hi:P.info? t=some i) (hz:i.zero=some z)
  (hu:P.underlying t=some (.struct fs)) (hall:fs.toList.all (fun f=>(sOf P f.type).isSome)=true)
  (hf:Instr.fill (structPlace P fs) z.cells (ps.toList.map fun p=>(p.1,a.eval p.2))=some cc) :
  Does P o a w (.agg cc) w:=by
 left
 have hm:∀ (l:List Field) (acc:Array (Nat × Nat)),l.all (fun f=>(sOf P f.type).isSome)=true →
   (l.foldlM (fun (bs:Array (Nat × Nat)) (f:Field)=>bs.push <$> (do pure (f.offset,← sizeOf f.type):Sem (Nat × Nat))) acc).run P w
    = .ok (acc++(l.map fun (f:Field)=>(f.offset,(sOf P f.type).getD 0)).toArray) w:=by
  intro l
  induction l with
  | nil=>intro acc _;simp
  | cons f l ih=>
   intro acc h
   simp only[List.all_cons,Bool.and_eq_true] at h
   cases hs:sOf P f.type with
   | none=>rw[hs] at h;simp at h
   | some n=>
    obtain⟨i',hi',rfl⟩:=sOf_spec hs
    simp only[List.foldlM_cons,Sem.run_bind,Sem.run_map,run_sizeOf' hi',Result.andThen_ok,Sem.run_pure]
    rw[ih _ h.2]
    simp[hs]
 have hM:(fs.mapM fun (f:Field)=>(do pure (f.offset,← sizeOf f.type):Sem (Nat × Nat))).run P w=.ok (fs.map fun (f:Field)=>(f.offset,(sOf P f.type).getD 0)) w:=by
  rw[Array.mapM_eq_foldlM,← Array.foldlM_toList]
  rw[hm fs.toList #[] hall]
  congr 1
  apply Array.ext'
  simp
 have hplace:(fun (k:Nat)=>(fs.map fun (f:Field)=>(f.offset,(sOf P f.type).getD 0))[k]?)=structPlace P fs:=by
  funext k
  unfold structPlace
  simp only[Array.getElem?_map]
  cases hk:fs[k]? with
  | none=>rfl
  | some f=>
   have hmem:f∈fs.toList:=by
    obtain⟨hlt,rfl⟩:=Array.getElem?_eq_some_iff.1 hk
    simp
   have:=List.all_eq_true.1 hall f hmem
   cases hs:sOf P f.type with
   | none=>rw[hs] at this;simp at this
   | some n=>simp[hs]
 have hps:(ps.map fun (x:Nat × Operand)=>(x.1,a.eval x.2)).toList=ps.toList.map fun p=>(p.1,a.eval p.2):=by simp
 simp only[execOp,ho,Instr.build,Sem.run_bind,run_zeroValue' hi hz,Result.andThen_ok,run_underlying hu,hM,hplace,hps,hf,Sem.run_pure]

theorem does_build_array {o:Oper} {t:TypeId} {ps:Array (Nat × Operand)} {i:TypeInfo} {z:Value} {len n:Nat} {el:TypeId} {cc:Array Value} (ho:o.op=.build t ps) (hi:P.info? t=some i) (hz:i.zero=some z)
  (hu:P.underlying t=some (.array len el)) (hn:sOf P el=some n)
  (hf:Instr.fill (fun k=>some (k*n,n)) z.cells (ps.toList.map fun p=>(p.1,a.eval p.2))=some cc) :
  Does P o a w (.agg cc) w:=by
 left
 obtain⟨i',hi',rfl⟩:=sOf_spec hn
 have hps:(ps.map fun (x:Nat × Operand)=>(x.1,a.eval x.2)).toList=ps.toList.map fun p=>(p.1,a.eval p.2):=by simp
 simp only[execOp,ho,Instr.build,Sem.run_bind,run_zeroValue' hi hz,Result.andThen_ok,run_underlying hu,run_sizeOf' hi',hps,hf,Sem.run_pure]

theorem repl_length (z:List AV):∀ n,(repl z n).length=n*z.length
 | 0=>by simp[repl]
 | n+1=>by simp[repl,repl_length z n,Nat.succ_mul];omega

theorem repl_VC {z:List AV} {c:List Value} (h:VC w0 ι z c):∀ n,VC w0 ι (repl z n) ((List.replicate n c).flatten)
 | 0=>by simpa [repl] using VC.nil
 | n+1=>by simpa [repl,List.replicate_succ] using h.append (repl_VC h n)

theorem range_mod (z:Array Value) (hz:0<z.size):∀ n,((Array.range (n*z.size)).map (z[· % z.size]!)).toList=(List.replicate n z.toList).flatten:=by
 intro n
 have key:∀ n,(List.range (n*z.size)).map (z[· % z.size]!)=(List.replicate n z.toList).flatten:=by
  intro n
  induction n with
  | zero=>simp
  | succ n ih=>
   rw[List.replicate_succ',List.flatten_append,← ih,Nat.succ_mul,List.range_add,List.map_append]
   congr 1
   simp only[List.map_map,List.flatten_cons,List.flatten_nil,List.append_nil]
   apply List.ext_getElem
   ·simp
   ·intro i h1 h2
    simp only[List.length_map,List.length_range] at h1
    have e:(n*z.size+i) % z.size=i:=by rw[Nat.mul_comm,Nat.mul_add_mod,Nat.mod_eq_of_lt h1]
    simp[e,h1,getElem!_pos]
 rw[← key]
 simp

theorem does_bsl {o:Oper} {t:TypeId} {ps:Array (Nat × Operand)} {i:TypeInfo} {z:Value} {len:Nat} {el:TypeId} {cc:Array Value} (ho:o.op=.buildSlice t len ps) (hi:P.info? el=some i) (hz:i.zero=some z)
  (hu:P.underlying t=some (.slice el)) (hpos:0<i.size) (hzs:z.cells.size=i.size) (hle:len*i.size≤2 ^ 24)
  (hf:Instr.fill (fun k=>some (k*i.size,i.size)) ((List.replicate len z.cells.toList).flatten).toArray (ps.toList.map fun p=>(p.1,a.eval p.2))=some cc) :
  Does P o a w (.slice (some ⟨w.heap.size,0,none⟩) len len) (w.alloc (.cells cc el)):=by
 left
 have hps:(ps.map fun (x:Nat × Operand)=>(x.1,a.eval x.2)).toList=ps.toList.map fun p=>(p.1,a.eval p.2):=by simp
 have hle':¬ (2 ^ 24<len*i.size):=by omega
 by_cases h0:len=0
 ·subst h0
  simp only[List.replicate_zero,List.flatten_nil] at hf
  simp only[execOp,ho,Instr.buildSlice,Sem.run_bind,run_underlying hu,Result.andThen_ok,run_sizeOf' hi,Nat.zero_mul,if_true,Sem.run_pure,hps]
  rw[if_neg (by omega)]
  have e0:∀ g:Nat→Value,(Array.range 0).map g=#[]:=fun g=>by simp
  simp only[Sem.run_bind,Sem.run_pure,Result.andThen_ok,e0,hf,run_newRow']
 ·have hne:len*i.size≠0:=Nat.mul_ne_zero h0 (by omega)
  have hr:=range_mod z.cells (by omega) len
  rw[hzs] at hr
  have hr':(Array.range (len*i.size)).map (z.cells[· % z.cells.size]!)=((List.replicate len z.cells.toList).flatten).toArray:=by
   apply Array.ext';rw[hzs];simpa using hr
  simp only[execOp,ho,Instr.buildSlice,Sem.run_bind,run_underlying hu,Result.andThen_ok,run_sizeOf' hi,hps]
  rw[if_neg hle',if_neg hne]
  simp only[Sem.run_bind,run_zeroValue' hi hz,Result.andThen_ok,Sem.run_pure,hr',hf,run_newRow']

def aggD:TypeDesc→Bool
 | .struct _|.array _ _=>true
 | _=>false

theorem does_load1 {o:Oper} {t:TypeId} {x:Operand} {d:TypeDesc} {g off:Nat} {c:Value} (ho:o.op=.load t x) (hu:P.underlying t=some d) (hd:aggD d=false)
  (hx:a.eval x=.pointer (some ⟨g,off,none⟩)) (hc:w.cell? ⟨g,off,none⟩=some c):Does P o a w c w:=by
 left
 have:(isAgg t).run P w=.ok false w:=by
  simp only[isAgg,Sem.run_bind,run_underlying hu,Result.andThen_ok]
  cases d<;>simp_all [aggD]
 simp only[execOp,ho,Instr.loadAt,hx,Instr.sureAddr,Sem.run_bind,Sem.run_pure,Result.andThen_ok,loadVar,this]
 simp[run_load,hc]

theorem does_loadn {o:Oper} {t:TypeId} {x:Operand} {d:TypeDesc} {i:TypeInfo} {g off:Nat} {cl:List Value} (ho:o.op=.load t x) (hu:P.underlying t=some d) (hd:aggD d=true)
  (hi:P.info? t=some i) (hl:cl.length=i.size) (hx:a.eval x=.pointer (some ⟨g,off,none⟩)) (hc:∀ (j:Nat) c,cl[j]? = some c→w.cell? ⟨g,off+j,none⟩=some c):Does P o a w (.agg cl.toArray) w:=by
 left
 have:(isAgg t).run P w=.ok true w:=by
  simp only[isAgg,Sem.run_bind,run_underlying hu,Result.andThen_ok]
  cases d<;>simp_all [aggD]
 have hr:=run_loadCells_list (P:=P) w ⟨g,off,none⟩ cl (fun j c hj=>by rw[Addr.add_lit];exact hc j c hj)
 rw[hl] at hr
 simp only[execOp,ho,Instr.loadAt,hx,Instr.sureAddr,Sem.run_bind,Sem.run_pure,Result.andThen_ok,loadVar,this]
 simp[run_sizeOf' hi,hr]

theorem does_store {o:Oper} {t:TypeId} {x y:Operand} {i:TypeInfo} {g off:Nat} {cur:Array Value} {T:TypeId} (ho:o.op=.store t x y) (hi:P.info? t=some i)
  (hx:a.eval x=.pointer (some ⟨g,off,none⟩)) (hl:(a.eval y).cells.size=i.size) (hg:w.heap[g]? = some (.cells cur T (0,0))) (hle:off+i.size≤cur.size) (h1:∀ v∈(a.eval y).cells.toList,v.oneCell'=true) :
  Does P o a w undef (w.setRow g (cur.toList.take off++(a.eval y).cells.toList++cur.toList.drop (off+(a.eval y).cells.toList.length)).toArray):=by
 right
 have hst:=run_storeCells_at P g off T (a.eval y).cells.toList 0 cur w hg (by simp;omega) h1
 simp only[Nat.add_zero] at hst
 refine⟨?_,rfl⟩
 simp only[execOp,ho,Instr.storeAt,hx,Instr.sureAddr,Sem.run_bind,Sem.run_pure,Result.andThen_ok,storeVar,run_sizeOf' hi]
 rw[if_neg (by simpa using hl)]
 simp[hst]

end
end Go.Ab

namespace Go.Ab
open Go.RowKit

section
variable {P:Program} {w0:World} {ι:Io} {lam:Lo} {e:Env} {H:AH} {a:Act} {w:World}

theorem addOff_VE {off:Nat} {v v':AV} {c:Value} (h:VE w0 ι lam v c) (ha:addOff off v=some v'):∃ g o,c=.pointer (some ⟨g,o,none⟩)∧VE w0 ι lam v' (.pointer (some ⟨g,o+off,none⟩)):=by
 unfold addOff at ha
 split at ha<;>cases ha
 ·cases h with
  | ptr _ _ g off' x hi hp=>exact⟨g,off',rfl,.ptr _ _ g _ x hi (fun p h=>⟨(hp p h).1,by have:=(hp p h).2;omega⟩)⟩
 ·cases h with
  | vp _ _ _ blk off' cf hi hc hv h1=>
   refine⟨blk,_,rfl, ?_⟩
   rw[Nat.add_assoc]
   exact VE.of_V (.vp _ _ _ blk off' cf hi hc hv h1)
 ·obtain⟨b,h1,rfl⟩:=h
  exact⟨b,_,rfl,b,h1,rfl⟩

theorem does_fld {o:Oper} {t:TypeId} {x:Operand} {f:Nat} {fs:Array Field} {fd:Field} {i:TypeInfo} {g off:Nat} (ho:o.op=.fieldAddr t x f) (hu:P.underlying t=some (.struct fs)) (hf:fs[f]? = some fd)
  (hi:P.info? fd.type=some i) (hne:i.size≠0) (hx:a.eval x=.pointer (some ⟨g,off,none⟩)):Does P o a w (.pointer (some ⟨g,off+fd.offset,none⟩)) w:=by
 left
 simp only[execOp,ho,Instr.fieldAt,Sem.run_bind,run_underlying hu,Result.andThen_ok,hf,hx,Instr.sureAddr,Sem.run_pure,fieldPlace,run_sizeOf' hi]
 rw[if_neg hne]
 simp[Addr.add_lit]

theorem does_idx {o:Oper} {t:TypeId} {x y:Operand} {el:TypeId} {i:TypeInfo} {g off len cap:Nat} {k:IntKind} {n:Int} (ho:o.op=.indexAddr t x y) (hu:P.underlying t=some (.slice el)) (hi:P.info? el=some i)
  (hx:a.eval x=.slice (some ⟨g,off,none⟩) len cap) (hy:a.eval y=.int k n) (h0:0≤n) (hlt:n<len):Does P o a w (.pointer (some ⟨g,off+n.toNat*i.size,none⟩)) w:=by
 left
 have hb:(TypeDesc.slice el matches .array ..)=false:=rfl
 simp only[execOp,ho,Instr.indexAt,hy,asIntOf,Sem.run_bind,Sem.run_pure,Result.andThen_ok,run_underlying hu,hx]
 rw[if_pos ⟨h0,hlt⟩]
 simp[run_sizeOf' hi,Addr.add_lit]

theorem does_idxa {o:Oper} {t:TypeId} {x y:Operand} {el:TypeId} {i:TypeInfo} {g off len:Nat} {k:IntKind} {n:Int} (ho:o.op=.indexAddr t x y) (hu:P.underlying t=some (.array len el)) (hi:P.info? el=some i)
  (hx:a.eval x=.pointer (some ⟨g,off,none⟩)) (hy:a.eval y=.int k n) (h0:0≤n) (hlt:n<len):Does P o a w (.pointer (some ⟨g,off+n.toNat*i.size,none⟩)) w:=by
 left
 simp only[execOp,ho,Instr.indexAt,hy,asIntOf,Sem.run_bind,Sem.run_pure,Result.andThen_ok,run_underlying hu,hx,Instr.sureAddr]
 rw[if_pos ⟨h0,hlt⟩]
 simp[run_sizeOf' hi,Addr.add_lit]

theorem run_part_agg {t:TypeId} {d:TypeDesc} {i:TypeInfo} {cs:Array Value} {off:Nat} (hu:P.underlying t=some d) (hd:aggD d=true) (hi:P.info? t=some i):(part t cs off).run P w=.ok (.agg (cs.extract off (off+i.size))) w:=by
 have:(isAgg t).run P w=.ok true w:=by
  simp only[isAgg,Sem.run_bind,run_underlying hu,Result.andThen_ok]
  cases d<;>simp_all [aggD]
 simp[part,this,run_sizeOf' hi]
theorem run_part_one {t:TypeId} {d:TypeDesc} {cs:Array Value} {off:Nat} {c:Value} (hu:P.underlying t=some d) (hd:aggD d=false) (hc:cs[off]? = some c):(part t cs off).run P w=.ok c w:=by
 have:(isAgg t).run P w=.ok false w:=by
  simp only[isAgg,Sem.run_bind,run_underlying hu,Result.andThen_ok]
  cases d<;>simp_all [aggD]
 simp[part,this,hc]

theorem extract_toList (cs:Array Value) (off n:Nat):(cs.extract off (off+n)).toList=(cs.toList.drop off).take n:=by
 simp[List.extract_eq_take_drop]

theorem VC.aggA {cs:List AV} {c:Array Value} (h:VC w0 ι cs c.toList):V w0 ι (.agg cs) (.agg c):=by
 have:=h.agg;simpa using this

theorem mapO_VL {xs:List Operand} {ys:List Opd} {vs:List AV} (h:SR w0 ι lam e H a.tmps w) (hc:mapO cOpd xs=some ys) (hv:ys.mapM e.val=some vs):VL w0 ι vs (xs.map a.eval):=by
 rw[mapM_val] at hv
 have hl1:=mapO_length hc
 have hl2:=mapO_length hv
 refine VL.of_get (by simp;omega) fun i v c hi hci=>?_
 simp only[List.getElem?_map] at hci
 cases hx:xs[i]? with
 | none=>rw[hx] at hci;cases hci
 | some x=>
  rw[hx] at hci
  cases hci
  obtain⟨y,hy,hxy⟩:=mapO_get hc i x hx
  obtain⟨v',hv',hyv⟩:=mapO_get hv i y hy
  rw[hv'] at hi
  cases hi
  unfold Env.val at hyv
  split at hyv
  ·cases hyv;exact (h.opd hxy).V (by assumption)
  ·cases hyv

theorem step_un {o:Oper} {t:TypeId} {op:UnOp} {x:Operand} {y:Opd} {v:AV} (h:SR w0 ι lam e H a.tmps w) (ho:o.op=.unOp op t x) (hc:cOpd x=some y) (hv:aun op (e.raw y)=some v):Step P w0 False o a ι lam e H w v e H:=by
 have h1:=h.opd hc
 unfold aun at hv
 split at hv
 ·rename_i k n he
  cases hv
  rw[he] at h1
  exact Step.same h (.inl (by simp[execOp,ho,h1.inv_int,Op.unary,Op.intArith])) (.int k _)
 ·rename_i b he
  cases hv
  rw[he] at h1
  exact Step.same h (.inl (by simp[execOp,ho,h1.inv_bool,Op.unary])) (.bool _)
 ·cases hv

theorem eqGuard_ok (op:BinOp) (t:TypeId) (x y:Operand) (u v:Value) (h:∀ cs,u≠.agg cs) (h2:u≠.nilIface) (w:World):(eqGuard op t x y u v).run P w=.ok () w:=by
 cases u
 case agg cs=>exact absurd rfl (h cs)
 case nilIface=>exact absurd rfl h2
 all_goals (unfold eqGuard;simp only[Sem.run_bind,Sem.run_pure];cases op<;>simp)

theorem bytes_beq (a b:ByteArray):(a.toList==b.toList)=(a.data.toList==b.data.toList):=by
 rw[ByteArray.toList_eq,ByteArray.toList_eq]<;>rfl

theorem step_bin {o:Oper} {t u:TypeId} {op:BinOp} {x y:Operand} {x' y':Opd} {v:AV} (h:SR w0 ι lam e H a.tmps w) (ho:o.op=.binOp op t x y u) (hx:cOpd x=some x') (hy:cOpd y=some y') (hv:abin op (e.raw x') (e.raw y')=some v):Step P w0 False o a ι lam e H w v e H:=by
 have h1:=h.opd hx
 have h2:=h.opd hy
 unfold abin at hv
 split at hv
 ·rename_i k m k' n e1 e2
  rw[e1] at h1;rw[e2] at h2
  have h1:=h1.inv_int;have h2:=h2.inv_int
  split at hv
  ·cases hv
  ·rename_i hk
   have hk:k=k':=by simpa using hk
   subst hk
   have hg:=eqGuard_ok (P:=P) op t x y (.int k m) (.int k n) (by simp) (by simp) w
   split at hv<;>(first|(cases hv;done)|skip)
   all_goals first
    | (cases hv
       refine Step.same h (.inl ?_) (VE.of_V (by constructor))
       simp only[execOp,ho,h1,h2,Sem.run_bind,hg,Result.andThen_ok,binOp]
       simp[Op.intArith,Op.intBits,Op.intCmp])
    | (split at hv
       ·cases hv
       ·rename_i hb
        cases hv
        refine Step.same h (.inl ?_) (VE.of_V (by constructor))
        simp only[execOp,ho,h1,h2,Sem.run_bind,hg,Result.andThen_ok,binOp]
        simp[Op.intDiv,Op.shift,hb])
 ·rename_i s s' e1 e2
  rw[e1] at h1;rw[e2] at h2
  have h1:=h1.V rfl
  have h2:=h2.V rfl
  generalize hcx:a.eval x=cx at h1
  generalize hcy:a.eval y=cy at h2
  cases h1 with
  | str b1=>
  cases h2 with
  | str b2=>
  have hg:=eqGuard_ok (P:=P) op t x y (.string b1) (.string b2) (by simp) (by simp) w
  split at hv<;>cases hv
  all_goals
   refine Step.same h (.inl ?_) (VE.of_V (.bool _))
   simp only[execOp,ho,hcx,hcy,Sem.run_bind,hg,Result.andThen_ok,binOp,Op.stringOp]
   simp[bytes_beq,bne]
 ·cases hv

theorem step_eqb {o:Oper} {t u:TypeId} {op:BinOp} {neg:Bool} {x y:Operand} {x' y':Opd} {p q:Bool} (h:SR w0 ι lam e H a.tmps w) (ho:o.op=.binOp op t x y u) (hop:op=.eql∧neg=false∨op=.neq∧neg=true) (hu:P.underlying t=some .bool)
  (hx:cOpd x=some x') (hy:cOpd y=some y') (h1:e.raw x'=.bool p) (h2:e.raw y'=.bool q):Step P w0 False o a ι lam e H w (.bool (neg ^^ (p==q))) e H:=by
 have g1:=h.opd hx
 have g2:=h.opd hy
 rw[h1] at g1;rw[h2] at g2
 have g1:=g1.inv_bool;have g2:=g2.inv_bool
 have hg:=eqGuard_ok (P:=P) op t x y (.bool p) (.bool q) (by simp) (by simp) w
 have heq:(Op.equal t (.bool p) (.bool q)).run P w=.ok (p==q) w:=by
  show (Op.equalIn (9999+1) t (.bool p) (.bool q)).run P w=_
  exact run_equalIn_bool w 9999 t p q hu
 refine Step.same h (.inl ?_) (VE.of_V (.bool _))
 rcases hop with ⟨rfl,rfl⟩|⟨rfl,rfl⟩
 ·simp only[execOp,ho,g1,g2,Sem.run_bind,hg,Result.andThen_ok,binOp,heq,Sem.run_pure]
  simp
 ·simp only[execOp,ho,g1,g2,Sem.run_bind,hg,Result.andThen_ok,binOp,heq,Sem.run_pure]
  simp

theorem aeqs_append:∀ (ks ls:List Bool) (xs us:List AV) (r:Bool),aeqs (ks++ls) xs us=some r→∃ p q,aeqs ks (xs.take ks.length) (us.take ks.length)=some p∧aeqs ls (xs.drop ks.length) (us.drop ks.length)=some q∧r=(p && q)
 | [],ls,xs,us,r,h=>⟨true,r,by simp[aeqs],by simpa using h,by simp⟩
 | k::ks,ls,xs,us,r,h=>by
  simp only[List.cons_append] at h
  unfold aeqs at h
  split at h
  ·simp at *
  ·rename_i ks' k a xs' k' b ys' e1
   simp only[List.cons.injEq] at e1
   obtain⟨rfl,rfl⟩:=e1
   split at h
   ·rename_i hk
    cases hr:aeqs (ks++ls) xs' ys' with
    | none=>rw[hr] at h;cases h
    | some r'=>
     rw[hr] at h
     cases h
     obtain⟨p,q,h1,h2,h3⟩:=aeqs_append ks ls xs' ys' r' hr
     exact⟨(a==b) && p,q,by simp[aeqs,hk,h1],by simpa using h2,by rw[h3,Bool.and_assoc]⟩
   ·cases h
  ·rename_i ks' a xs' b ys' e1
   simp only[List.cons.injEq] at e1
   obtain⟨rfl,rfl⟩:=e1
   cases hr:aeqs (ks++ls) xs' ys' with
   | none=>rw[hr] at h;cases h
   | some r'=>
    rw[hr] at h
    cases h
    obtain⟨p,q,h1,h2,h3⟩:=aeqs_append ks ls xs' ys' r' hr
    exact⟨(a==b) && p,q,by simp[aeqs,h1],by simpa using h2,by rw[h3,Bool.and_assoc]⟩
  ·cases h

theorem aeqs_length:∀ (ks:List Bool) (xs us:List AV) (r:Bool),aeqs ks xs us=some r→xs.length=ks.length∧us.length=ks.length
 | [],xs,us,r,h=>by unfold aeqs at h;split at h<;>simp_all
 | k::ks,xs,us,r,h=>by
  unfold aeqs at h
  split at h
  ·simp at *
  ·rename_i ks' k a xs' k' b ys' e1
   simp only[List.cons.injEq] at e1
   obtain⟨rfl,rfl⟩:=e1
   split at h
   ·cases hr:aeqs ks xs' ys' with
    | none=>rw[hr] at h;cases h
    | some r'=>have:=aeqs_length ks xs' ys' r' hr;simp;omega
   ·cases h
  ·rename_i ks' a xs' b ys' e1
   simp only[List.cons.injEq] at e1
   obtain⟨rfl,rfl⟩:=e1
   cases hr:aeqs ks xs' ys' with
   | none=>rw[hr] at h;cases h
   | some r'=>have:=aeqs_length ks xs' ys' r' hr;simp;omega
  ·cases h

def PV (P:Program) (w0:World) (ι:Io) (t:TypeId) (X:Value) (xs:List AV):Prop:=
 ∃ d,P.underlying t=some d∧(aggD d=true→∃ c:Array Value,X=.agg c∧VC w0 ι xs c.toList)∧(aggD d=false→∃ x,xs=[x]∧V w0 ι x X)

theorem part_PV {t:TypeId} {cx:Array Value} {xs:List AV} {off n:Nat} (hv:VC w0 ι xs cx.toList) (hle:off+n≤xs.length) (hn:sOf P t=some n) (hd:∃ d,P.underlying t=some d∧(aggD d=false→n=1)) :
  ∃ X,(part t cx off).run P w=.ok X w∧PV P w0 ι t X ((xs.drop off).take n):=by
 obtain⟨d,hu,hd⟩:=hd
 obtain⟨i,hi,rfl⟩:=sOf_spec hn
 have hl:=hv.1.1
 simp only[Array.length_toList] at hl
 cases hag:aggD d with
 | true=>
  refine⟨_,run_part_agg hu hag hi,d,hu,fun _=>⟨_,rfl, ?_⟩,fun h=>by rw[hag] at h;cases h⟩
  rw[extract_toList]
  exact (hv.drop off).take _
 | false=>
  have h1:=hd hag
  have hlt:off<xs.length:=by omega
  obtain⟨c,hc,hvc⟩:=hv.1.get? (List.getElem?_eq_getElem hlt)
  refine⟨c,run_part_one hu hag (by simpa using hc),d,hu,fun (h:aggD d=true)=>(by rw[hag] at h;cases h),fun _=>⟨xs[off], ?_,hvc⟩⟩
  rw[h1,List.drop_eq_getElem_cons hlt]
  rfl

theorem flat_under (d:Nat) (t:TypeId) (ks:List Bool) (h:flat P d t=some ks):∃ dd,P.underlying t=some dd∧(aggD dd=false→ks.length=1):=by
 cases d with
 | zero=>simp[flat] at h
 | succ d=>
  simp only[flat] at h
  split at h
  ·rename_i hu;refine⟨_,hu,fun _=>?_⟩;split at h<;>cases h;rfl
  ·rename_i hu;refine⟨_,hu,fun _=>?_⟩;split at h<;>cases h;rfl
  ·rename_i hu;exact⟨_,hu,fun h=>by cases h⟩
  ·cases h

theorem flat_eq:∀ (d:Nat) (t:TypeId) (ks:List Bool),flat P d t=some ks→∀ (k:Nat) (X Y:Value) (xs ys:List AV) (r:Bool),PV P w0 ι t X xs→PV P w0 ι t Y ys→aeqs ks xs ys=some r →
  (Op.equalIn (d+k) t X Y).run P w=.ok r w
 | 0,t,ks,h=>by simp[flat] at h
 | d+1,t,ks,h=>by
  intro k X Y xs ys r hX hY hr
  rw[show d+1+k=(d+k)+1 by omega]
  obtain⟨dx,ux,ax,bx⟩:=hX
  obtain⟨dy,uy,ay,by'⟩:=hY
  rw[ux] at uy
  cases uy
  simp only[flat] at h
  split at h
  ·rename_i kk hu
   rw[hu] at ux;cases ux
   obtain⟨x,rfl,vx⟩:=bx rfl
   obtain⟨y,rfl,vy⟩:=by' rfl
   split at h<;>cases h
   cases x<;>cases y<;>simp only[aeqs] at hr<;>(try cases hr)
   split at hr
   ·rename_i hk
    subst hk
    cases vx;cases vy
    simp only[Option.map_some,Bool.and_true,Option.some.injEq] at hr
    rw[← hr]
    exact run_equalIn_int w _ t _ _ _ _ hu
   ·cases hr
  ·rename_i hu
   rw[hu] at ux;cases ux
   obtain⟨x,rfl,vx⟩:=bx rfl
   obtain⟨y,rfl,vy⟩:=by' rfl
   split at h<;>cases h
   cases x<;>cases y<;>simp only[aeqs] at hr<;>(try (simp at hr;done))
   cases vx;cases vy
   simp only[Option.map_some,Bool.and_true,Option.some.injEq] at hr
   rw[← hr]
   exact run_equalIn_bool w _ t _ _ hu
  ·rename_i fs hu
   rw[hu] at ux;cases ux
   obtain⟨cx,rfl,vx⟩:=ax rfl
   obtain⟨cy,rfl,vy⟩:=ay rfl
   split at h
   ·cases h
   ·rename_i hst
    have hfo:P.fieldsOf t=fs:=by simp[Program.fieldsOf,hu]
    rw[run_equalIn_struct w (d+k) t cx cy (by rw[hfo];exact hu) (by simpa using hst),hfo]
    have hlen:=aeqs_length ks xs ys r hr
    have key:∀ (l:List Field) (off:Nat) (ks':List Bool) (r':Bool),flatFields P (flat P d) off l=some ks'→off+ks'.length≤xs.length→xs.length=ys.length→aeqs ks' ((xs.drop off).take ks'.length) ((ys.drop off).take ks'.length)=some r' →
      (Op.eqFields (d+k) cx cy l).run P w=.ok r' w:=by
     intro l
     induction l with
     | nil=>
      intro off ks' r' h1 _ _ h2
      simp only[flatFields,Option.some.injEq] at h1
      subst h1
      simp[aeqs] at h2
      subst h2
      rfl
     | cons f l ih=>
      intro off ks' r' h1 hle hxy h2
      simp only[flatFields] at h1
      split at h1
      ·rename_i hname
       split at h1
       ·rename_i kf hkf
        split at h1
        ·rename_i hsz
         split at h1
         ·rename_i kr hkr
          cases h1
          simp only[List.length_append] at hle h2
          obtain⟨p,q,g1,g2,g3⟩:=aeqs_append kf kr _ _ _ h2
          have hu':=flat_under d f.type kf hkf
          obtain⟨A,hA,pA⟩:=part_PV (w:=w) (off:=off) vx (by omega) hsz hu'
          obtain⟨B,hB,pB⟩:=part_PV (w:=w) (off:=off) vy (by omega) hsz hu'
          have e1:∀ zs:List AV,((zs.drop off).take (kf.length+kr.length)).take kf.length=(zs.drop off).take kf.length:=fun zs=>by rw[List.take_take];congr 1;omega
          have e2:∀ zs:List AV,((zs.drop off).take (kf.length+kr.length)).drop kf.length=(zs.drop (off+kf.length)).take kr.length:=fun zs=>by rw[List.drop_take,List.drop_drop];congr 1;omega
          rw[e1,e1] at g1
          rw[e2,e2] at g2
          have hE:=flat_eq d f.type kf hkf k A B _ _ p pA pB g1
          have hR:=ih (off+kf.length) kr q hkr (by omega) hxy g2
          simp only[Op.eqFields]
          rw[if_pos hname.1,hname.2]
          simp only[Sem.run_bind,hA,hB,hE,Result.andThen_ok]
          cases p
          ·simp[g3]
          ·simp[g3,hR]
         ·cases h1
        ·cases h1
       ·cases h1
      ·cases h1
    refine key fs.toList 0 ks r h (by omega) (by omega) ?_
    rw[List.drop_zero,List.drop_zero,List.take_of_length_le (by omega),List.take_of_length_le (by omega)]
    exact hr
  ·cases h

theorem step_eqg {o:Oper} {t u:TypeId} {op:BinOp} {neg:Bool} {x y:Operand} {x' y':Opd} {xs ys:List AV} {ks:List Bool} {r:Bool} (h:SR w0 ι lam e H a.tmps w) (ho:o.op=.binOp op t x y u) (hop:op=.eql∧neg=false∨op=.neq∧neg=true)
  {fs:Array Field} (hu:P.underlying t=some (.struct fs)) (hf:flat P 10 t=some ks) (hm:P.eqGuardType P.depth t=false)
  (hx:cOpd x=some x') (hy:cOpd y=some y') (h1:e.raw x'=.agg xs) (h2:e.raw y'=.agg ys) (hr:aeqs ks xs ys=some r):Step P w0 False o a ι lam e H w (.bool (neg ^^ r)) e H:=by
 have g1:=h.opd hx
 have g2:=h.opd hy
 rw[h1] at g1;rw[h2] at g2
 obtain⟨cx,ex,vx⟩:=g1.inv_agg
 obtain⟨cy,ey,vy⟩:=g2.inv_agg
 have hE:=flat_eq (w:=w) 10 t ks hf 9990 (.agg cx) (.agg cy) xs ys r ⟨_,hu,fun _=>⟨cx,rfl,vx⟩,fun h=>by cases h⟩ ⟨_,hu,fun _=>⟨cy,rfl,vy⟩,fun h=>by cases h⟩ hr
 refine Step.same h (.inl ?_) (VE.of_V (.bool _))
 rcases hop with ⟨rfl,rfl⟩|⟨rfl,rfl⟩
 ·simp only[execOp,ho,ex,ey,Sem.run_bind,run_eqGuard_agg w _ t x y cx cy hm,Result.andThen_ok,run_eql_struct,hE,Sem.run_pure]
  simp
 ·simp only[execOp,ho,ex,ey,Sem.run_bind,run_eqGuard_agg w _ t x y cx cy hm,Result.andThen_ok,run_neq_struct,hE,Sem.run_pure]
  simp

end
end Go.Ab

namespace Go.Ab
open Go.RowKit

section
variable {P:Program} {w0:World} {ι:Io} {lam:Lo} {e:Env} {H:AH} {a:Act} {w:World}

theorem MR.kill {L:Tr (List AV)} {ln:Nat} (h:MR w0 ι lam L ln H w) {b:Nat} {p:Pl} (hb:b<H.next) (hi:ι b=some (some p)) :
  MR w0 (ι.set b none) lam L ln (H.put b .dead) w∧FP False ι lam L ln H w (ι.set b none) lam L ln (H.put b .dead) w:=by
 have he:Ext ι (ι.set b none):=fun b' x hx=>by
  unfold Io.set
  by_cases e:b'=b
  ·rw[if_pos e];exact .inr rfl
  ·rw[if_neg e];exact .inl hx
 have hs:∀ b' p',(ι.set b none) b'=some (some p')→b'≠b∧ι b'=some (some p'):=by
  intro b' p' hp
  unfold Io.set at hp
  split at hp
  ·cases hp
  ·exact⟨by assumption,hp⟩
 have hlo:(H.put b .dead).lo≤b:=by rw[AH.put_lo];split<;>omega
 refine⟨?_, ?_⟩
 ·refine { h with pl:=fun b' p' hp=>h.pl b' p' (hs b' p' hp).2,inj:=fun b1 b2 p1 p2 h1 h2 e=>h.inj b1 b2 p1 p2 (hs b1 p1 h1).2 (hs b2 p2 h2).2 e,obj:=fun b' p' hb' hi'=>?_,lpl:=fun st c hc=>?_,lobj:=fun st c hst hc=>?_,lo:=?_,top:=fun b' hb'=>?_,alive:=fun b' hb' hi'=>?_ }
  ·have:=hs b' p' hi'
   rw[AH.get_put,if_neg (fun e=>this.1 e.symm)]
   exact (h.obj b' p' hb' this.2).ext he
  ·have:=h.lpl st c hc
   exact⟨this.1,this.2.1,fun b' p' hp=>this.2.2 b' p' (hs b' p' hp).2⟩
  ·obtain⟨xs,cc,T,e1,e2,e3⟩:=h.lobj st c hst hc
   exact⟨xs,cc,T,e1,e2,e3.ext he⟩
  ·show (if b<H.lo then b else H.lo)≤H.next
   have:=h.lo;split<;>omega
  ·have:H.next≤b':=hb'
   rw[AH.get_put];split
   ·rfl
   ·exact h.top b' this
  ·rw[AH.get_put]
   by_cases e:b=b'
   ·rw[if_pos e]
   ·rw[if_neg e];unfold Io.set at hi';rw[if_neg (fun x=>e x.symm)] at hi';exact h.alive b' hb' hi'
 ·refine { FP.refl (S:=False) ι lam L ln H w with ext:=he,kept:=fun b' x hx hn=>?_,new:=fun b' hx hn=>?_,all:=fun b' h1 h2=>by have:b'<H.next:=h2;omega,blk:=fun b' p' hp=>.inl (hs b' p' hp).2,frame:=fun _ _ _ _=>rfl,lo:=by rw[AH.put_lo];split<;>omega,old:=fun b' hb' hl=>?_ }
  ·have e:b'=b:=by
    by_cases e:b'=b
    ·exact e
    ·exfalso;apply hn;unfold Io.set;rw[if_neg e];exact hx
   subst e;exact⟨hlo,hb⟩
  ·exfalso;apply hn;unfold Io.set;rw[if_neg (fun e=>by rw[e,hi] at hx;cases hx)];exact hx
  ·rw[AH.get_put,if_neg (by omega)]

theorem MR.regrow {L:Tr (List AV)} {ln:Nat} (h:MR w0 ι lam L ln H w) (hf:ι H.next=none) {b:Nat} {p:Pl} (hb:b<H.next) (hi:ι b=some (some p)) {cs:List AV} {cur new:Array Value} {T:TypeId} {base:Nat}
  (hg:w.heap[p.blk]? = some (.cells cur T (0,0))) (ht:new.size=p.tot) (hle:base+cs.length≤new.size) (hv:VC w0 ι cs ((new.toList.drop base).take cs.length)) :
  MR w0 ((ι.set b none).set H.next (some ⟨p.blk,base,p.tot⟩)) lam L ln ((H.put b .dead).new (.cells cs)) (w.setRow p.blk new) ∧
   FP False ι lam L ln H w ((ι.set b none).set H.next (some ⟨p.blk,base,p.tot⟩)) lam L ln ((H.put b .dead).new (.cells cs)) (w.setRow p.blk new):=by
 have hne:b≠H.next:=by omega
 have he:Ext ι ((ι.set b none).set H.next (some ⟨p.blk,base,p.tot⟩)):=fun b' x hx=>by
  unfold Io.set
  rw[if_neg (fun e=>by rw[e,hf] at hx;cases hx)]
  by_cases e:b'=b
  ·rw[if_pos e];exact .inr rfl
  ·rw[if_neg e];exact .inl hx
 have hs:∀ b' p',((ι.set b none).set H.next (some ⟨p.blk,base,p.tot⟩)) b'=some (some p')→(b'=H.next∧p'=⟨p.blk,base,p.tot⟩)∨(b'≠H.next∧b'≠b∧ι b'=some (some p')):=by
  intro b' p' hp
  unfold Io.set at hp
  split at hp
  ·cases hp;exact .inl ⟨by assumption,rfl⟩
  ·split at hp
   ·cases hp
   ·exact .inr ⟨by assumption,by assumption,hp⟩
 have hpl:=h.pl b p hi
 have hlo:((H.put b .dead).new (.cells cs)).lo≤b:=by rw[AH.new_lo,AH.put_lo];split<;>omega
 have hnx:((H.put b .dead).new (.cells cs)).next=H.next+1:=rfl
 have hget:∀ b',((H.put b .dead).new (.cells cs)).get b'=if H.next=b' then .cells cs else if b=b' then .dead else H.get b':=by
  intro b';rw[AH.get_new,AH.get_put];rfl
 refine⟨?_, ?_⟩
 ·refine { size:=by simpa using h.size,low:=fun c hc=>?_,os:=h.os,tape:=h.tape,output:=h.output,pl:=fun b' p' hp=>?_,inj:=fun b1 b2 p1 p2 h1 h2 e=>?_,obj:=fun b' p' hb' hi'=>?_,lpl:=fun st c hc=>?_,linj:=h.linj,lobj:=fun st c hst hc=>?_,lo:=?_,top:=fun b' hb'=>?_,ltop:=h.ltop,alive:=fun b' hb' hi'=>?_ }
  ·rw[setRow_other _ _ _ _ (by omega)];exact h.low c hc
  ·rcases hs b' p' hp with ⟨_,rfl⟩|⟨_,_,hp⟩
   ·simpa using hpl
   ·simpa using h.pl b' p' hp
  ·rcases hs b1 p1 h1 with ⟨e1,f1⟩|⟨_,e1,h1⟩<;>rcases hs b2 p2 h2 with ⟨e2,f2⟩|⟨_,e2,h2⟩
   ·omega
   ·exact absurd (h.inj b2 b p2 p h2 hi (by rw[f1] at e;exact e.symm)) e2
   ·exact absurd (h.inj b1 b p1 p h1 hi (by rw[f2] at e;exact e)) e1
   ·exact h.inj b1 b2 p1 p2 h1 h2 e
  ·rw[hget]
   rcases hs b' p' hi' with ⟨e1,rfl⟩|⟨n1,n2,hp⟩
   ·rw[if_pos e1.symm,setRow_heap w p.blk cur new T (0,0) hg]
    exact⟨new,T,rfl,ht,hle,hv.ext he⟩
   ·rw[if_neg (fun e=>n1 e.symm),if_neg (fun e=>n2 e.symm),setRow_other _ _ _ _ (fun e'=>n2 (h.inj b' b p' p hp hi e'))]
    exact (h.obj b' p' (by rw[hnx] at hb';omega) hp).ext he
  ·have:=h.lpl st c hc
   refine⟨this.1,by simpa using this.2.1,fun b' p' hp=>?_⟩
   rcases hs b' p' hp with ⟨_,rfl⟩|⟨_,_,hp⟩
   ·exact this.2.2 b p hi
   ·exact this.2.2 b' p' hp
  ·obtain⟨xs,cc,T',e1,e2,e3⟩:=h.lobj st c hst hc
   refine⟨xs,cc,T',e1, ?_,e3.ext he⟩
   rw[setRow_other _ _ _ _ (fun e=>(h.lpl st c hc).2.2 b p hi e.symm)]
   exact e2
  ·rw[hnx];omega
  ·rw[hnx] at hb'
   rw[hget,if_neg (by omega),if_neg (by omega)];exact h.top b' (by omega)
  ·rw[hget]
   rw[hnx] at hb'
   by_cases e1:H.next=b'
   ·subst e1;unfold Io.set at hi';simp at hi'
   ·rw[if_neg e1]
    by_cases e2:b=b'
    ·rw[if_pos e2]
    ·rw[if_neg e2]
     unfold Io.set at hi'
     rw[if_neg (fun x=>e1 x.symm),if_neg (fun x=>e2 x.symm)] at hi'
     exact h.alive b' (by omega) hi'
 ·refine { FP.refl (S:=False) ι lam L ln H w with ext:=he,kept:=fun b' x hx hn=>?_,new:=fun b' hx hn=>?_,all:=fun b' h1 h2=>?_,blk:=fun b' p' hp=>?_,frame:=fun c hc _ hfr=>?_,size:=by simp,next:=by rw[hnx];omega,lo:=by rw[AH.new_lo,AH.put_lo];split<;>omega,old:=fun b' hb' hl=>?_ }
  ·have e:b'=b:=by
    by_cases e:b'=b
    ·exact e
    ·exfalso;apply hn;unfold Io.set;rw[if_neg (fun e=>by rw[e,hf] at hx;cases hx),if_neg e];exact hx
   subst e;exact⟨hlo,hb⟩
  ·by_cases e:b'=H.next
   ·subst e;exact⟨Nat.le_refl _,by rw[hnx];omega⟩
   ·exfalso;apply hn;unfold Io.set;rw[if_neg e,if_neg (fun e=>by rw[e,hi] at hx;cases hx)];exact hx
  ·rw[hnx] at h2
   have:b'=H.next:=by omega
   subst this;unfold Io.set;simp
  ·rcases hs b' p' hp with ⟨e1,rfl⟩|⟨_,_,hp⟩
   ·exact .inr ⟨by omega,by rw[hnx];omega,.inl ⟨b,p,hi,rfl,hlo,hb⟩⟩
   ·exact .inl hp
  ·exact setRow_other _ _ _ _ (fun e=>hfr b p hi hlo hb e.symm)
  ·rw[hget,if_neg (by omega),if_neg (by omega)]

theorem MR.elems {L:Tr (List AV)} {ln:Nat} (h:MR w0 ι lam L ln H w) {sz:Nat} {v:AV} {c:Value} {xs:List AV} (hv:VE w0 ι lam v c) (hr:elemsOf H sz v=some xs) :
  ∃ ad n cap cl,c=.slice ad n cap∧xs.length=n*sz∧VC w0 ι xs cl∧(∀ A,ad=some A→(n≠0→A.spot=none)∧∀ (j:Nat) u,cl[j]? = some u→w.cell? (A.add j)=some u)∧(ad=none→n=0)∧n≤cap:=by
 unfold elemsOf at hr
 split at hr
 ·cases hr
  cases hv
  exact⟨none,0,0,[],rfl,by simp,VC.nil,by simp,by simp,by simp⟩
 ·rename_i es z
  split at hr
  ·rename_i hall
   cases hr
   cases hv with
   | vs0=>exact⟨none,0,0,[],rfl,by simp,by simpa using VC.nil,by simp,by simp,by simp⟩
   | vs _ _ A cap sz' cf hsp hl hc hv h1 hz hcap=>
    have hall':∀ i (hi:i<es.length),es[i].length=sz:=fun i hi=>by simpa using List.all_eq_true.1 hall es[i] (List.getElem_mem hi)
    have hsz:∀ i,i<es.length→sz'=sz:=fun i hi=>by rw[← hl i hi];exact hall' i hi
    have key:∀ (k:Nat) (l:List (List AV)),(∀ i (hi:i<l.length),∃ hk:k+i<es.length,l[i]=es[k+i]) →
      ∃ cl,VC w0 ι l.flatten cl∧l.flatten.length=l.length*sz∧∀ (j:Nat) u,cl[j]? = some u→w.cell? ⟨A.block,A.off+k*sz+j,none⟩=some u:=by
     intro k l
     induction l generalizing k with
     | nil=>intro _;exact⟨[],VC.nil,by simp,by simp⟩
     | cons x l ih=>
      intro hx
      obtain⟨hk,e0⟩:=hx 0 (by simp)
      simp only[List.getElem_cons_zero,Nat.add_zero] at e0 hk
      subst e0
      obtain⟨cl,g1,g2,g3⟩:=ih (k+1) (fun i hi=>by
       obtain⟨q,e⟩:=hx (i+1) (by simpa using hi)
       exact⟨by omega,by simp only[List.getElem_cons_succ] at e;rw[e];congr 1;omega⟩)
      have hlen:=hall' k hk
      have hzz:=hsz k hk
      refine⟨((List.range sz).map (cf k))++cl,VC.append ⟨VL.of_get (by simp[hlen]) fun j u c hu hcc=>?_,fun c hc'=>?_⟩ g1,by simp[g2,hlen,Nat.succ_mul];omega,fun j u hj=>?_⟩
      ·obtain⟨hlt,rfl⟩:=List.getElem?_eq_some_iff.1 hu
       rw[List.getElem?_map,List.getElem?_range (by omega)] at hcc
       simp only[Option.map_some,Option.some.injEq] at hcc
       rw[← hcc]
       exact (hv k j hk hlt).ext (Ext.noI ι)
      ·obtain⟨j,hj,rfl⟩:=List.mem_map.1 hc'
       exact h1 k j hk (by have:=List.mem_range.1 hj;omega)
      ·rw[List.getElem?_append] at hj
       simp only[List.length_map,List.length_range] at hj
       split at hj
       ·rename_i hjs
        rw[List.getElem?_map,List.getElem?_range hjs] at hj
        simp only[Option.map_some,Option.some.injEq] at hj
        rw[← hj]
        have:=hc k j hk (by omega)
        rw[hzz] at this
        exact h.heapLow this
       ·have:=g3 (j - sz) u hj
        rw[← this]
        congr 2
        rw[Nat.add_mul]
        omega
    obtain⟨cl,g1,g2,g3⟩:=key 0 es (fun i hi=>⟨by omega,by congr 1;omega⟩)
    refine⟨some A,es.length,cap,cl,rfl,g2,g1,fun A' e=>?_,by simp,hcap.1⟩
    cases e
    refine⟨fun hn=>hsp (fun e=>hn (by rw[e];rfl)),fun j u hj=>?_⟩
    have:=g3 j u hj
    simp only[Nat.zero_mul,Nat.add_zero] at this
    have hne:es≠[]:=fun e=>by
     subst e
     have hl0:cl.length=0:=by rw[← g1.1.1];rfl
     rw[List.length_eq_zero_iff] at hl0
     rw[hl0] at hj
     simp at hj
    have hsp:=hsp hne
    obtain⟨blk,off,spot⟩:=A
    simp only at hsp
    subst hsp
    rw[Addr.add_lit]
    exact this
  ·cases hr
 ·rename_i b o sz' len cap ex
  split at hr
  ·rename_i hz
   cases hr
   cases hv with
   | sl _ _ _ _ _ _ g off cap' sp x hi hl hc hx hp hsp0=>
    exact⟨_,len,cap',[],rfl,by simp[hz],VC.nil,fun A _=>⟨fun h=>absurd hz h,fun j u hj=>by simp at hj⟩,by simp,by omega⟩
  split at hr
  ·rename_i hz
   subst hz
   unfold AH.read at hr
   split at hr
   ·rename_i ys hg
    obtain⟨hle,rfl⟩:=slice_spec hr
    have hlt:b<H.next:=by
     rcases Nat.lt_or_ge b H.next with g|g
     ·exact g
     ·rw[h.top b g] at hg;cases hg
    cases hv with
    | sl _ _ _ _ _ _ g off cap' sp x hi hl hc hx hp hsp0=>
     cases x with
     | none=>rw[h.alive b hlt hi] at hg;cases hg
     | some p=>
      have ho:=h.obj b p hlt hi
      rw[hg] at ho
      obtain⟨cc,T,e1,e2,e3,e4⟩:=ho
      obtain⟨rfl,q2,q3⟩:=hp p rfl
      obtain rfl:sp=none:=hsp0.elim id (fun h=>by cases h.1)
      refine⟨some ⟨p.blk,off,none⟩,len,cap',_,rfl,by simp;omega,(e4.drop o).take (len*sz'),fun A e=>?_,by simp,by omega⟩
      cases e
      refine⟨fun _=>rfl,fun j u hj=>?_⟩
      rw[List.getElem?_take] at hj
      split at hj
      ·rename_i hjl
       rw[List.getElem?_drop,List.getElem?_take] at hj
       split at hj
       ·rw[List.getElem?_drop] at hj
        rw[Addr.add_lit,cell_of_block e1,← hj,Array.getElem?_toList]
        have hpos:0<len:=by
         rcases Nat.eq_zero_or_pos len with g|g
         ·subst g;simp at hjl
         ·exact g
        rw[q2 (by omega)]
        congr 1
        omega
       ·cases hj
      ·cases hj
   ·cases hr
  ·cases hr
 ·cases hr

theorem exec_builtin {o:Oper} {c:Call} {b:Builtin} (ho:o.op=.call c) (hc:c.callee=.builtin b) (w:World) :
  ∃ consts,(execOp a.eval o).run P w=(builtin b c.argTypes o.type consts (c.args.map a.eval)).run P w:=by
 simp only[execOp,ho,resolve,hc,Sem.run_bind,Sem.run_pure,Result.andThen_ok,invoke]
 exact⟨_,rfl⟩

theorem does_append {o:Oper} {c:Call} {t:TypeId} {x y:Operand} {cv:Value} {w':World} (ho:o.op=.call c) (hc:c.callee=.builtin .append) (ht:c.argTypes=#[t,t]) (hx:c.args=#[x,y])
  (hr:(Builtin.append_ #[t,t] o.type #[a.eval x,a.eval y]).run P w=.ok cv w'):Does P o a w cv w':=by
 left
 obtain⟨cn,e⟩:=exec_builtin (a:=a) (P:=P) ho hc w
 rw[e,ht,hx]
 simp only[builtin]
 simp[hr]

theorem run_append_none (t ty el:TypeId) (i:TypeInfo) (ht:P.underlying t=some (.slice el)) (hi:P.info? el=some i) (base:Option Addr) (l c:Nat) (hl:l≤c) (ad:Option Addr) (cap:Nat) (w:World) :
  (Builtin.append_ #[t,t] ty #[.slice base l c,.slice ad 0 cap]).run P w=.ok (.slice base l c) w:=by
 have h1:∀ A:Option Addr,(Builtin.firstCells i.size 0 (.slice A 0 cap)).run P w=.ok #[] w:=by
  intro A
  cases A with
  | none=>simp[Builtin.firstCells]
  | some A=>have:=run_loadCells_list (P:=P) w A [] (by simp);simp only[List.length_nil] at this;simp[Builtin.firstCells,this]
 cases base<;>simp[Builtin.append_,run_underlying ht,sizeOf,typeInfo,hi,Builtin.lenOf,hl,h1,storeCells]

theorem run_append_inplace (t ty el:TypeId) (i:TypeInfo) (ht:P.underlying t=some (.slice el)) (hi:P.info? el=some i) (g off sLen sCap:Nat) (cur:Array Value) (T:TypeId) (hg:w.heap[g]? = some (.cells cur T (0,0)))
  (A:Addr) (m c:Nat) (news:List Value) (hl:news.length=m*i.size) (hnews:∀ (j:Nat) u,news[j]? = some u→w.cell? (A.add j)=some u) (h1:∀ u∈news,u.oneCell'=true)
  (hroom:sLen+m≤sCap) (hfit:off+sLen*i.size+news.length≤cur.size) :
  (Builtin.append_ #[t,t] ty #[.slice (some ⟨g,off,none⟩) sLen sCap,.slice (some A) m c]).run P w =
   .ok (.slice (some ⟨g,off,none⟩) (sLen+m) sCap) (w.setRow g (cur.toList.take (off+sLen*i.size)++news++cur.toList.drop (off+sLen*i.size+news.length)).toArray):=by
 have hf:=run_firstCells_some (P:=P) w i.size m A m c news hl hnews
 have hst:=run_storeCells_at P g (off+sLen*i.size) T news 0 cur w hg (by simpa using hfit) h1
 simp only[Nat.add_zero] at hst
 simp[Builtin.append_,run_underlying ht,sizeOf,typeInfo,hi,Builtin.lenOf,hroom,hf,Addr.add_lit,hst]

theorem VE.inv_nils {v:Value} (h:VE w0 ι lam .nils v):v=.slice none 0 0:=by cases h;rfl
theorem div_of_len {n m sz:Nat} (h:n=m*sz) (hp:0<sz):n / sz=m:=by rw[h];exact Nat.mul_div_cancel _ hp

set_option maxHeartbeats 1000000 in
theorem step_append {o:Oper} {c:Call} {t el:TypeId} {x y:Operand} {x' y':Opd} {i:TypeInfo} {z:Value} {q:Bool} {v:AV} {H':AH} (h:SR w0 ι lam e H a.tmps w) (ho:o.op=.call c) (hc:c.callee=.builtin .append) (ht:c.argTypes=#[t,t]) (hxy:c.args=#[x,y])
  (hu:P.underlying t=some (.slice el)) (hi:P.info? el=some i) (hz:i.zero=some z) (hzs:z.cells.size=i.size) (hpos:0<i.size) (hby:0<i.bytes) (hx:cOpd x=some x') (hy:cOpd y=some y') (hr:appA H i.size i.bytes q (e.raw x') (e.raw y')=some (v,H')) (hf:Fresh ι H H') :
  Step P w0 False o a ι lam e H w v e H':=by
 have gx:=h.opd hx
 have gy:=h.opd hy
 unfold appA at hr
 split at hr
 ·cases hr
 ·rename_i new hnew
  obtain⟨ad,n,cap,cl,ey,hlen,hv,hA,hnone,hncap⟩:=h.mem.elems gy hnew
  have hm:new.length / i.size=n:=div_of_len hlen hpos
  simp only[hm] at hr
  have hcl:cl.length=n*i.size:=by rw[← hv.1.1];exact hlen
  split at hr
  ·rename_i hn0
   subst hn0
   have done:∀ base l k,a.eval x=.slice base l k→l≤k→Does P o a w (a.eval x) w:=by
    intro base l k e1 hle
    refine does_append ho hc ht hxy ?_
    rw[e1,ey]
    exact run_append_none t o.type el i hu hi base l k hle ad cap w
   split at hr
   ·rename_i e1
    cases hr
    rw[e1] at gx
    have e2:a.eval x=.slice none 0 0:=gx.inv_nils
    exact Step.same h (done _ _ _ e2 (Nat.le_refl _)) (by rw[e1];exact gx)
   ·rename_i e1
    cases hr
    rw[e1] at gx
    generalize hg:a.eval x=cx at gx
    cases gx with
    | vs0=>exact Step.same h (done _ _ _ hg (Nat.le_refl _)) (by rw[hg,e1];exact .vs0 _)
    | vs _ _ A cap' sz' cf hsp hl hc' hv' h1 hz' hcap'=>
     have:=done _ _ _ hg hcap'.1
     exact Step.same h this (by rw[hg,e1];exact .vs _ _ A cap' sz' cf hsp hl hc' hv' h1 hz' hcap')
   ·rename_i e1
    cases hr
    rw[e1] at gx
    generalize hg:a.eval x=cx at gx
    cases gx with
    | sl _ _ _ _ _ _ g off cap' sp x1 hi1 hl1 hc1 hx1 hp1 hsp0=>
     have:=done _ _ _ hg (by omega)
     exact Step.same h this (by rw[hg,e1];exact .sl _ _ _ _ _ _ g off cap' sp x1 hi1 hl1 hc1 hx1 hp1 hsp0)
   ·cases hr
  ·rename_i hn0
   have hadn:∃ A,ad=some A:=by
    cases ad with
    | none=>exact absurd (hnone rfl) hn0
    | some A=>exact⟨A,rfl⟩
   obtain⟨A,rfl⟩:=hadn
   obtain⟨hsp,hAc⟩:=hA A rfl
   have hsp:=hsp (by assumption)
   have bound:∀ len,len*i.bytes≤roomB→len≤140737488355328:=fun len hle=>by
    have:len*1≤len*i.bytes:=Nat.mul_le_mul_left len hby
    unfold roomB at hle
    omega

   have fresh:∀ (ι1:Io) (H1:AH) (old:List AV) (olds:List Value) (sLen sCap:Nat) (b:Option Addr),MR w0 ι1 lam e.L e.ln H1 w→ι1 H1.next=none→VC w0 ι1 old olds→olds.length=sLen*i.size→sCap<sLen+n→(sLen+n)*i.bytes≤roomB→VC w0 ι1 new cl →
     a.eval x=.slice b sLen sCap→(b=none→sLen=0∧sCap=0)→(∀ B,b=some B→∀ (j:Nat) u,olds[j]? = some u→w.cell? (B.add j)=some u) →
     ∃ cv ι',Does P o a w cv (w.drew.alloc (.cells (olds.toArray++cl.toArray++Builtin.zeroCells z.cells (grownCap w (sLen+n) sCap el - (sLen+n))) el))∧VE w0 ι' lam (.sl H1.next 0 i.size (sLen+n) (sLen+n) false) cv ∧
      MR w0 ι' lam e.L e.ln (H1.new (.cells (old++new))) (w.drew.alloc (.cells (olds.toArray++cl.toArray++Builtin.zeroCells z.cells (grownCap w (sLen+n) sCap el - (sLen+n))) el)) ∧
      FP False ι1 lam e.L e.ln H1 w ι' lam e.L e.ln (H1.new (.cells (old++new))) (w.drew.alloc (.cells (olds.toArray++cl.toArray++Builtin.zeroCells z.cells (grownCap w (sLen+n) sCap el - (sLen+n))) el)):=by
    intro ι1 H1 old olds sLen sCap b hM hfr hov hol hlt hroom hnv eb hb0 hbc
    have hbd:=bound _ hroom
    have hge:=grownCap_ge w (sLen+n) sCap el
    have hol':=hov.1.1
    have hnl:=hnv.1.1
    have key:=hM.drew.alloc (T:=el) (cs:=old++new) (cc:=olds.toArray++cl.toArray++Builtin.zeroCells z.cells (grownCap w (sLen+n) sCap el - (sLen+n))) hfr (by simp;omega) (by
     have:(olds.toArray++cl.toArray++Builtin.zeroCells z.cells (grownCap w (sLen+n) sCap el - (sLen+n))).toList.take (old++new).length=olds++cl:=by
      simp only[Array.toList_append,List.length_append]
      rw[List.take_append_of_le_length (by simp;omega),List.take_of_length_le (by simp;omega)]
     rw[this];exact hov.append hnv)
    refine⟨.slice (some ⟨w.heap.size,0,none⟩) (sLen+n) (grownCap w (sLen+n) sCap el),_,does_append ho hc ht hxy ?_, ?_,key.1,FP.drew key.2⟩
    ·rw[eb,ey]
     cases b with
     | none=>
      obtain⟨rfl,rfl⟩:=hb0 rfl
      have ho0:olds=[]:=by cases olds with|nil=>rfl|cons _ _=>simp at hol
      subst ho0
      simp only[Nat.zero_add]
      rw[run_append_nil w t o.type el i z hu hi hz A n cap cl hcl hAc (by omega) (by omega) (by rw[Nat.zero_add] at hroom;unfold roomB at hroom;omega)]
      simp
     | some B=>
      exact run_append_grow w t o.type el i z hu hi hz B sLen sCap olds hol (hbc B rfl) A n cap cl hcl hAc hlt (by omega) (growslice_fits hlt (by unfold roomB at hroom;exact hroom))
    ·refine VE.of_V (.sl _ _ _ _ _ _ w.heap.size 0 (grownCap w (sLen+n) sCap el) none _ (by unfold Io.set;simp;rfl) (Nat.le_refl _) ⟨hge,by have:=grownCap_le_maxLen w (sLen+n) sCap el (by unfold maxLen;omega);unfold maxLen at this;omega⟩ (fun h=>by cases h) (fun p hp=>?_) (.inl rfl))
     cases hp
     refine⟨rfl,fun _=>rfl, ?_⟩
     simp only[Array.size_append,List.size_toArray,size_zeroCells,hzs,hol,hcl,← Nat.add_mul]
     simp only[Nat.zero_add]
     apply Nat.mul_le_mul_right
     omega
   split at hr
   ·
    rename_i e1
    rw[e1] at gx
    have e2:a.eval x=.slice none 0 0:=gx.inv_nils
    simp only[List.length_nil,Nat.zero_div,Nat.zero_add] at hr
    split at hr
    ·rename_i hroom
     cases hr
     obtain⟨cv,ι',d1,d2,d3,d4⟩:=fresh ι H [] [] 0 0 none h.mem (hf H.next (Nat.le_refl _) (Nat.lt_succ_self _)) VC.nil (by simp) (by omega) (by simpa using hroom) hv e2 (fun _=>⟨rfl,rfl⟩) (by simp)
     exact⟨cv,ι',lam,_,d1,by simpa using d2,d3,d4,rfl⟩
    ·cases hr
   ·
    rename_i e1
    rw[e1] at gx
    simp only[List.length_nil,Nat.zero_div,Nat.zero_add] at hr
    split at hr
    ·rename_i hroom
     cases hr
     generalize hg:a.eval x=cx at gx
     cases gx with
     | vs0=>
      obtain⟨cv,ι',d1,d2,d3,d4⟩:=fresh ι H [] [] 0 0 none h.mem (hf H.next (Nat.le_refl _) (Nat.lt_succ_self _)) VC.nil (by simp) (by omega) (by simpa using hroom) hv hg (by simp) (by simp)
      exact⟨cv,ι',lam,_,d1,by simpa using d2,d3,d4,rfl⟩
     | vs _ _ A' cap' sz' cf hsp' hl hc' hv' h1 hz' hcap'=>
      have hc0:=hz' rfl
      subst hc0
      obtain⟨cv,ι',d1,d2,d3,d4⟩:=fresh ι H [] [] 0 0 (some A') h.mem (hf H.next (Nat.le_refl _) (Nat.lt_succ_self _)) VC.nil (by simp) (by omega) (by simpa using hroom) hv hg (by simp) (by simp)
      exact⟨cv,ι',lam,_,d1,by simpa using d2,d3,d4,rfl⟩
    ·cases hr
   ·rename_i b off0 sz' len cap0 ex e1
    rw[e1] at gx
    split at hr
    ·rename_i hex0
     simp only[List.length_nil,Nat.zero_div,Nat.zero_add] at hr
     split at hr
     ·rename_i hroom
      cases hr
      generalize hg:a.eval x=cx at gx
      cases gx with
      | sl _ _ _ _ _ _ g off cap' sp x1 hi1 hl1 hc1 hx1 hp1 hsp0=>
       have hc0:=hx1 hex0.1
       have hl0:len=0:=by omega
       rw[hc0,hex0.2,hl0] at hg
       obtain⟨cv,ι',d1,d2,d3,d4⟩:=fresh ι H [] [] 0 0 (some _) h.mem (hf H.next (Nat.le_refl _) (Nat.lt_succ_self _)) VC.nil (by simp) (by omega) (by simpa using hroom) hv hg (by simp) (by simp)
       exact⟨cv,ι',lam,_,d1,by simpa using d2,d3,d4,rfl⟩
     ·cases hr
    rename_i hex0
    split at hr
    ·cases hr
    ·rename_i hsz
     have hsz:sz'=i.size:=by simpa using hsz
     subst hsz
     generalize hg:a.eval x=cx at gx
     cases gx with
     | sl _ _ _ _ _ _ g off cap' sp x1 hi1 hl1 hc1 hx1 hp1 hsp0=>

      have alive:∀ xs,H.get b=.cells xs→∃ p cc T,x1=some p∧b<H.next∧w.heap[p.blk]? = some (.cells cc T (0,0))∧cc.size=p.tot∧p.base+xs.length≤cc.size∧VC w0 ι xs ((cc.toList.drop p.base).take xs.length)∧g=p.blk∧(0<cap'→off=p.base+off0)∧p.base+off0+cap'*i.size≤p.tot∧sp=none:=by
       intro xs hgx
       have hlt:b<H.next:=by
        rcases Nat.lt_or_ge b H.next with g|g
        ·exact g
        ·rw[h.mem.top b g] at hgx;cases hgx
       cases x1 with
       | none=>rw[h.mem.alive b hlt hi1] at hgx;cases hgx
       | some p=>
        have hob:=h.mem.obj b p hlt hi1
        rw[hgx] at hob
        obtain⟨cc,T,f1,f2,f3,f4⟩:=hob
        obtain⟨g1,g2,g3⟩:=hp1 p rfl
        exact⟨p,cc,T,rfl,hlt,f1,f2,f3,f4,g1,g2,g3,hsp0.elim id (fun h=>by cases h.1)⟩

      have inplace:∀ (p:Pl) (cc:Array Value) (T:TypeId),sp=none→w.heap[p.blk]? = some (.cells cc T (0,0))→cc.size=p.tot→g=p.blk→(0<cap'→off=p.base+off0)→p.base+off0+cap'*i.size≤p.tot→len+n≤cap' →
        off=p.base+off0∧p.base+off0+(len+n)*i.size≤cc.size∧Does P o a w (.slice (some ⟨g,off,none⟩) (len+n) cap') (w.setRow p.blk (cc.toList.take (p.base+off0+len*i.size)++cl++cc.toList.drop (p.base+off0+len*i.size+cl.length)).toArray):=by
       intro p cc T f0 f1 f2 f3 f4 f5 hle
       have hoff:=f4 (by omega)
       have hmul:(len+n)*i.size≤cap'*i.size:=Nat.mul_le_mul_right _ hle
       have hmul2:(len+n)*i.size=len*i.size+n*i.size:=Nat.add_mul _ _ _
       refine⟨hoff,by omega,does_append ho hc ht hxy ?_⟩
       rw[hg,ey,f3,hoff,f0]
       exact run_append_inplace t o.type el i hu hi p.blk (p.base+off0) len cap' cc T f1 A n cap cl hcl hAc hv.2 hle (by omega)
      split at hr
      ·rename_i hfit
       split at hr
       ·cases hr
       ·unfold AH.write at hr
        split at hr
        ·rename_i xs hgx
         split at hr
         ·rename_i hle
          simp only[Option.map_some,Option.some.injEq,Prod.mk.injEq] at hr
          obtain⟨rfl,rfl⟩:=hr
          obtain⟨p,cc,T,rfl,hlt,f1,f2,f3,f4,f5,f6,f7,f8⟩:=alive xs hgx
          obtain⟨k1,k2,k3⟩:=inplace p cc T f8 f1 f2 f5 f6 f7 (by omega)
          have hnl:=hv.1.1
          have hlx:(Ab.splice xs (off0+len*i.size) new).length=xs.length:=by simp[Ab.splice];omega
          have key:=h.mem.putObj (cs:=Ab.splice xs (off0+len*i.size) new) (new:=(cc.toList.take (p.base+off0+len*i.size)++cl++cc.toList.drop (p.base+off0+len*i.size+cl.length)).toArray) hlt hi1 f1 (by simp;omega) (by simp[hlx];omega) (by
           have e5:=f4.splice (off0+len*i.size) hv
           rw[hlx]
           have:((cc.toList.take (p.base+off0+len*i.size)++cl++cc.toList.drop (p.base+off0+len*i.size+cl.length)).toArray.toList.drop p.base).take xs.length
             = ((cc.toList.drop p.base).take xs.length).take (off0+len*i.size)++cl++((cc.toList.drop p.base).take xs.length).drop (off0+len*i.size+cl.length):=by
            apply List.ext_getElem?
            intro j
            simp only[List.getElem?_take,List.getElem?_drop,List.getElem?_append,List.length_take,List.length_drop,List.length_append,Array.length_toList]
            repeat' split
            all_goals first
             | rfl
             | omega
             | (congr 1;omega)
           rw[this]
           exact e5)
          refine⟨_,ι,lam,_,k3, ?_,key.1,key.2,rfl⟩
          exact VE.of_V (.sl _ _ _ _ _ _ g off cap' none _ hi1 (by omega) hc1 hx1 hp1 (.inl rfl))
         ·cases hr
        ·cases hr
      ·rename_i hfit
       unfold AH.read at hr
       split at hr
       ·cases hr
       ·rename_i old hold
        split at hold
        ·rename_i xs hgx
         obtain⟨hle,rfl⟩:=slice_spec hold
         obtain⟨p,cc,T,rfl,hlt,f1,f2,f3,f4,f5,f6,f7,f8⟩:=alive xs hgx
         rw[f8] at hg
         have hol:((xs.drop off0).take (len*i.size)).length / i.size=len:=by
          rw[List.length_take,List.length_drop,Nat.min_eq_left (by omega)]
          exact Nat.mul_div_cancel _ hpos
         have hov:VC w0 ι ((xs.drop off0).take (len*i.size)) ((((cc.toList.drop p.base).take xs.length).drop off0).take (len*i.size)):=(f4.drop off0).take _
         have hcells:∀ B,some (⟨g,off,none⟩:Addr)=some B→∀ (j:Nat) u,((((cc.toList.drop p.base).take xs.length).drop off0).take (len*i.size))[j]? = some u→w.cell? (B.add j)=some u:=by
          intro B hB j u hj
          cases hB
          rw[List.getElem?_take] at hj
          split at hj
          ·rename_i hjl
           rw[List.getElem?_drop,List.getElem?_take] at hj
           split at hj
           ·rw[List.getElem?_drop] at hj
            have hpos':0<len:=by
             rcases Nat.eq_zero_or_pos len with g|g
             ·subst g;simp at hjl
             ·exact g
            rw[Addr.add_lit,f5,cell_of_block f1,← hj,Array.getElem?_toList,f6 (by omega)]
            congr 1
            omega
           ·cases hj
          ·cases hj
         have holl:((((cc.toList.drop p.base).take xs.length).drop off0).take (len*i.size)).length=len*i.size:=by rw[← hov.1.1];simp;omega
         cases ex with
         | true=>
          have hcc:=hx1 rfl
          simp only[if_true,hol] at hr
          split at hr
          ·rename_i hroom
           cases hr
           obtain⟨cv,ι',d1,d2,d3,d4⟩:=fresh ι H _ _ len cap' (some ⟨g,off,none⟩) h.mem (hf H.next (Nat.le_refl _) (Nat.lt_succ_self _)) hov holl (by omega) hroom hv hg (by simp) hcells
           exact⟨cv,ι',lam,_,d1,d2,d3,d4,rfl⟩
          ·cases hr
         | false=>
          simp only[Bool.false_eq_true,if_false,hol] at hr
          split at hr
          ·cases hr
          ·split at hr
           ·rename_i hroom
            cases hr
            by_cases hin:len+n≤cap'
            ·obtain⟨k1,k2,k3⟩:=inplace p cc T f8 f1 f2 f5 f6 f7 hin
             have hnl:=hv.1.1
             have hmul2:(len+n)*i.size=len*i.size+n*i.size:=Nat.add_mul _ _ _
             have key:=h.mem.regrow (cs:=(xs.drop off0).take (len*i.size)++new) (new:=(cc.toList.take (p.base+off0+len*i.size)++cl++cc.toList.drop (p.base+off0+len*i.size+cl.length)).toArray) (base:=p.base+off0)
              (hf H.next (Nat.le_refl _) (Nat.lt_succ_self _)) hlt hi1 f1 (by simp;omega) (by simp;omega) (by
               have:((cc.toList.take (p.base+off0+len*i.size)++cl++cc.toList.drop (p.base+off0+len*i.size+cl.length)).toArray.toList.drop (p.base+off0)).take ((xs.drop off0).take (len*i.size)++new).length
                 = ((((cc.toList.drop p.base).take xs.length).drop off0).take (len*i.size))++cl:=by
                apply List.ext_getElem?
                intro j
                simp only[List.getElem?_take,List.getElem?_drop,List.getElem?_append,List.length_take,List.length_drop,List.length_append,Array.length_toList]
                repeat' split
                all_goals first
                 | rfl
                 | omega
                 | (congr 1;omega)
                 | (rw[List.getElem?_eq_none (by omega)])
               rw[this]
               exact hov.append hv)
             refine⟨_,_,lam,_,k3, ?_,key.1,key.2,rfl⟩
             refine VE.of_V (.sl _ _ _ _ _ _ g off cap' none (some ⟨p.blk,p.base+off0,p.tot⟩) (by rw[AH.put_next];unfold Io.set;simp) (Nat.le_refl _) ⟨hin,hc1.2⟩ (fun h=>by cases h) (fun p' hp'=>?_) (.inl rfl))
             cases hp'
             exact⟨f5,fun _=>by omega,by omega⟩
            ·have kk:=h.mem.kill hlt hi1
             have hff:(ι.set b none) H.next=none:=by
              unfold Io.set;rw[if_neg (by omega)];exact hf H.next (Nat.le_refl _) (Nat.lt_succ_self _)
             obtain⟨cv,ι',d1,d2,d3,d4⟩:=fresh (ι.set b none) (H.put b .dead) _ _ len cap' (some ⟨g,off,none⟩) kk.1 hff (hov.ext kk.2.ext) holl (by omega) hroom (hv.ext kk.2.ext) hg (by simp) hcells
             refine⟨cv,ι',lam,_,d1,d2,d3,FP.trans hf (fun st h1 h2=>by omega) kk.2 d4,rfl⟩
           ·cases hr
        ·cases hold
   ·cases hr

end
end Go.Ab

namespace Go.Ab
open Go.RowKit

section
variable {P:Program} {w0:World} {ι:Io} {lam:Lo} {e:Env} {H:AH} {a:Act} {w:World}

theorem step_mksl {o:Oper} {t el:TypeId} {l c:Operand} {l' c':Opd} {i:TypeInfo} {z:Value} {zs:List AV} {n m:Int} (h:SR w0 ι lam e H a.tmps w) (ho:o.op=.makeSlice t l c) (hu:P.underlying t=some (.slice el)) (hi:P.info? el=some i) (hz:i.zero=some z) (hzv:mapO ofV z.cells.toList=some zs)
  (hzs:z.cells.size=i.size) (hpos:0<i.size) (hl:cOpd l=some l') (hc:cOpd c=some c') (e1:e.raw l'=.int .i64 n) (e2:e.raw c'=.int .i64 m) (h0:0≤n) (hnm:n≤m) (hroom:m*i.bytes≤roomB) (hcap:m≤140737488355328) (hf:ι H.next=none) :
  Step P w0 False o a ι lam e H w (.sl H.next 0 i.size n.toNat m.toNat true) e (H.new (.cells (repl zs m.toNat))):=by
 have g1:=h.opd hl
 have g2:=h.opd hc
 rw[e1] at g1;rw[e2] at g2
 have g1:=g1.inv_int;have g2:=g2.inv_int
 have hw1:IntKind.i64.wrap n=n:=by unfold IntKind.wrap;simp[IntKind.signed,IntKind.bits];omega
 have hw2:IntKind.i64.wrap m=m:=by unfold IntKind.wrap;simp[IntKind.signed,IntKind.bits];omega
 have hzv':=mapO_VC (w0:=w0) (ι:=ι) hzv
 have hr:=range_mod z.cells (by omega) m.toNat
 rw[hzs] at hr
 have hr':(if m.toNat*i.size=0 then (#[]:Array Value) else (Array.range (m.toNat*i.size)).map (z.cells[· % z.cells.size]!))=((List.replicate m.toNat z.cells.toList).flatten).toArray:=by
  split
  ·rename_i hm0
   have:m.toNat=0:=by rcases Nat.mul_eq_zero.1 hm0 with g|g;exact g;omega
   rw[this];simp
  ·apply Array.ext';rw[hzs];simpa using hr
 have key:=h.mem.alloc (T:=el) hf (cs:=repl zs m.toNat) (cc:=((List.replicate m.toNat z.cells.toList).flatten).toArray) (by have:=(repl_VC hzv' m.toNat).1.1;simp at this ⊢;omega) (by
  have hvv:=repl_VC hzv' m.toNat
  rw[List.take_of_length_le (by have:=hvv.1.1;simp at this ⊢;omega)]
  exact hvv)
 refine⟨.slice (some ⟨w.heap.size,0,none⟩) n.toNat m.toNat,_,lam,_,.inl ?_, ?_,key.1,key.2,rfl⟩
 ·have hbad:¬ ((m<0 || decide (i.bytes*m > 2 ^ 48)) || decide (n<0) || decide (n > m))=true:=by
   have:(i.bytes:Int) * m≤140737488355328:=by unfold roomB at hroom;rw[Int.mul_comm];exact hroom
   simp;omega
  have hask:∀ b:Nat,(askRoom b).run P w=.ok () w:=by intro b;unfold askRoom;split<;>rfl
  simp only[execOp,ho,g1,g2,Instr.makeSlice,Sem.run_bind,run_underlying hu,Result.andThen_ok,asInt,asIntOf,Sem.run_pure,typeInfo,run_program,hi,hw1,hw2]
  rw[if_neg (by simpa using hbad)]
  simp only[Sem.run_bind,Sem.run_pure,Result.andThen_ok,hask,run_sizeOf' hi]
  by_cases hm0:m.toNat*i.size=0
  ·rw[if_pos hm0] at hr'
   have e0:∀ g:Nat→Value,(Array.range 0).map g=#[]:=fun g=>by simp
   simp only[hm0,if_true,Sem.run_pure,Result.andThen_ok,e0,run_newRow',Sem.run_bind]
   rw[← hr']
  ·rw[if_neg hm0] at hr'
   simp only[hm0,if_false,Sem.run_bind,run_zeroValue' hi hz,Sem.run_pure,Result.andThen_ok,hr',run_newRow']
 ·refine VE.of_V (.sl _ _ _ _ _ _ w.heap.size 0 m.toNat none _ (by unfold Io.set;simp;rfl) (by omega) ⟨Nat.le_refl _,by omega⟩ (fun _=>rfl) (fun p hp=>?_) (.inl rfl))
  cases hp
  refine⟨rfl,fun _=>rfl, ?_⟩
  have:=(repl_VC hzv' m.toNat).1.1
  rw[repl_length] at this
  have hl2:=mapO_length hzv
  simp only[Array.length_toList,hzs] at hl2
  rw[hl2] at this
  simp only[List.size_toArray,Nat.zero_add]
  rw[hzs]
  exact Nat.le_refl _

theorem run_bound {u:Operand} {u':Opd} {n y:Nat} (h:SR w0 ι lam e H a.tmps w) (hu:cOpd u=some u') (hb:natOf (e.raw u')=some n) (hle:n≤y) (code:BoundsCode) :
  (Instr.sliceBound (a.eval u) y code).run P w=.ok n w:=by
 have g:=h.opd hu
 simp only[natOf] at hb
 split at hb
 ·rename_i k m e1
  split at hb
  ·rename_i h0
   cases hb
   rw[e1] at g
   have g:=g.inv_int
   simp only[g,Instr.sliceBound,asIntOf,Sem.run_bind,Sem.run_pure,Result.andThen_ok]
   rw[if_pos ⟨h0,by omega⟩]
   rfl
  ·cases hb
 ·cases hb

theorem opt_ops {x:Option Operand} {l:List Opd} (h:mapO cOpd x.toList=some l):(x=none∧l.head? = none)∨∃ u u',x=some u∧l.head? = some u'∧cOpd u=some u':=by
 cases x with
 | none=>simp[mapO] at h;subst h;exact .inl ⟨rfl,rfl⟩
 | some u=>
  simp only[Option.toList_some,mapO] at h
  split at h
  ·rename_i y ys h1 h2
   cases h
   cases h2
   exact .inr ⟨u,y,rfl,rfl,h1⟩
  ·cases h

theorem does_slc {o:Oper} {t el:TypeId} {x:Operand} {lo hi mx:Option Operand} {lo' hi' mx':List Opd} {i:TypeInfo} {b:Option Addr} {len cap l m r:Nat} (h:SR w0 ι lam e H a.tmps w) (ho:o.op=.slice t x lo hi mx) (hu:P.underlying t=some (.slice el)) (hinf:P.info? el=some i)
  (h1:mapO cOpd lo.toList=some lo') (h2:mapO cOpd hi.toList=some hi') (h3:mapO cOpd mx.toList=some mx') (hmh:mx'.isEmpty || !hi'.isEmpty) (hx:a.eval x=.slice b len cap) (hlc:len≤cap)
  (bm:boundOf e mx'.head? cap=some m) (bh:boundOf e hi'.head? len=some r) (bl:boundOf e lo'.head? 0=some l) (h12:l≤r) (h23:r≤m) (h34:m≤cap) :
  Does P o a w (.slice (if m=l then b else b.map (·.add (l*i.size))) (r - l) (m - l)) w:=by
 left
 have B:(Instr.sliceBounds true len cap (lo.map a.eval) (hi.map a.eval) (mx.map a.eval)).run P w=.ok (l,r,m) w:=by
  have c3:=opt_ops h3
  have c2:=opt_ops h2
  have c1:=opt_ops h1
  rcases c3 with ⟨rfl,e3⟩|⟨u3,v3,rfl,e3,g3⟩
  ·rw[e3] at bm
   simp only[boundOf,Option.some.injEq] at bm
   subst bm
   rcases c2 with ⟨rfl,e2⟩|⟨u2,v2,rfl,e2,g2⟩
   ·rw[e2] at bh
    simp only[boundOf,Option.some.injEq] at bh
    subst bh
    rcases c1 with ⟨rfl,e1⟩|⟨u1,v1,rfl,e1,g1⟩
    ·rw[e1] at bl
     simp only[boundOf,Option.some.injEq] at bl
     subst bl
     simp[Instr.sliceBounds]
    ·rw[e1] at bl
     simp[Instr.sliceBounds,run_bound (P:=P) h g1 bl h12]
   ·rw[e2] at bh
    rcases c1 with ⟨rfl,e1⟩|⟨u1,v1,rfl,e1,g1⟩
    ·rw[e1] at bl
     simp only[boundOf,Option.some.injEq] at bl
     subst bl
     simp[Instr.sliceBounds,run_bound (P:=P) h g2 bh h23]
    ·rw[e1] at bl
     simp[Instr.sliceBounds,run_bound (P:=P) h g1 bl h12,run_bound (P:=P) h g2 bh h23]
  ·rw[e3] at bm
   rcases c2 with ⟨rfl,e2⟩|⟨u2,v2,rfl,e2,g2⟩
   ·cases mx' with
    | nil=>cases e3
    | cons _ _=>cases hi' with
     | nil=>simp at hmh
     | cons _ _=>cases e2
   ·rw[e2] at bh
    rcases c1 with ⟨rfl,e1⟩|⟨u1,v1,rfl,e1,g1⟩
    ·rw[e1] at bl
     simp only[boundOf,Option.some.injEq] at bl
     subst bl
     simp[Instr.sliceBounds,run_bound (P:=P) h g2 bh h23,run_bound (P:=P) h g3 bm h34]
    ·rw[e1] at bl
     simp[Instr.sliceBounds,run_bound (P:=P) h g1 bl h12,run_bound (P:=P) h g2 bh h23,run_bound (P:=P) h g3 bm h34]
 simp only[execOp,ho,Instr.sliceAt,Sem.run_bind,run_underlying hu,Result.andThen_ok,Instr.slice,hx,B,run_sizeOf' hinf,Sem.run_pure]

theorem vs_slice {es:List (List AV)} {z:Bool} {A:Addr} {cap sz l r n:Nat} {cf:Nat→Nat→Value} (hsp:es≠[]→A.spot=none) (hl:∀ i (h:i<es.length),es[i].length=sz)
  (hc:∀ i j,i<es.length→j<sz→w0.cell? ⟨A.block,A.off+i*sz+j,none⟩=some (cf i j))
  (hv:∀ i j (hi:i<es.length) (hj:j<es[i].length),V w0 noI es[i][j] (cf i j)) (h1:∀ i j,i<es.length→j<sz→(cf i j).oneCell'=true) (hz:z=true→cap=0) (hcap:es.length≤cap∧cap≤9223372036854775807)
  (hlr:l≤r) (hr:r≤es.length) (hsz:l=0∨es.all (·.length==n)=true) :
  V w0 ι (.vs ((es.drop l).take (r - l)) z) (.slice (if cap=l then some A else (some A).map (·.add (l*n))) (r - l) (cap - l)):=by
 by_cases hes:es=[]
 ·subst hes
  have hr0:r=0:=by simpa using hr
  subst hr0
  have hl0:l=0:=by omega
  subst hl0
  have key:=fun B=>V.vs (w0:=w0) (ι:=ι) [] z B cap 0 cf (fun e=>absurd rfl e) (by simp) (by simp) (by simp) (by simp) hz ⟨Nat.zero_le _,hcap.2⟩
  by_cases hc0:cap=0
  ·rw[if_pos hc0];exact key A
  ·rw[if_neg hc0];exact key _
 have hsp:=hsp hes
 obtain⟨blk,off,spot⟩:=A
 simp only at hsp
 subst hsp
 have hlen:((es.drop l).take (r - l)).length=r - l:=by simp;omega
 have hget:∀ i (hi:i<((es.drop l).take (r - l)).length),∃ hk:l+i<es.length,((es.drop l).take (r - l))[i]=es[l+i]:=by
  intro i hi
  refine⟨by omega,by simp⟩
 have hlz:∀ i,i<((es.drop l).take (r - l)).length→l*n=l*sz:=by
  intro i hi
  rcases hsz with rfl|hall
  ·simp
  ·obtain⟨hk,_⟩:=hget i hi
   have e1:es[l+i].length=n:=by simpa using List.all_eq_true.1 hall es[l+i] (List.getElem_mem hk)
   rw[← e1,hl _ hk]
 have e:(if cap=l then some (⟨blk,off,none⟩:Addr) else (some (⟨blk,off,none⟩:Addr)).map (·.add (l*n)))=some ⟨blk,if cap=l then off else off+l*n,none⟩:=by
  split<;>simp[Addr.add_lit]
 rw[e]
 have key:=V.vs (w0:=w0) (ι:=ι) ((es.drop l).take (r - l)) z ⟨blk,if cap=l then off else off+l*n,none⟩ (cap - l) sz (fun i j=>cf (l+i) j) (fun _=>rfl)
  (fun i hi=>by obtain⟨hk,e⟩:=hget i hi;rw[e];exact hl _ hk)
  (fun i j hi hj=>by
   obtain⟨hk,_⟩:=hget i hi
   have this:=hc (l+i) j hk hj
   have e2:(l+i)*sz=l*sz+i*sz:=Nat.add_mul _ _ _
   rw[e2] at this
   have e3:(if cap=l then off else off+l*n)+i*sz+j=off+(l*sz+i*sz)+j:=by rw[if_neg (by omega),hlz i hi];omega
   rw[e3]
   exact this)
  (fun i j hi hj=>by obtain⟨hk,e⟩:=hget i hi;have:=hv (l+i) j hk (by rw[← e];exact hj);simpa only[e] using this)
  (fun i j hi hj=>by obtain⟨hk,_⟩:=hget i hi;exact h1 _ _ hk hj)
  (fun hh=>by have:=hz hh;omega) (by omega)
 rw[hlen] at key
 exact key

def isStore:Op→Prop
 | .store ..=>True
 | _=>False

theorem Step.mono {S S':Prop} {o:Oper} {v:AV} {e':Env} {H':AH} (h:Step P w0 S o a ι lam e H w v e' H') (hs:S→S'):Step P w0 S' o a ι lam e H w v e' H':=
 let ⟨cv,ι',lam',w',d,hv,hm,hp,hE⟩:=h
 ⟨cv,ι',lam',w',d,hv,hm,hp.mono hs,hE⟩

theorem run_index {o:Oper} {t:TypeId} {x y:Operand} {el:TypeId} {len:Nat} {cc:Array Value} {k:IntKind} {m:Int} {i:TypeInfo} {c:Value} (ho:o.op=.index t x y) (hu:P.underlying t=some (.array len el)) (hi:P.info? el=some i)
  (hx:a.eval x=.agg cc) (hy:a.eval y=.int k m) (h0:0≤m) (hlt:m<len) (hp:(part el cc (m.toNat*i.size)).run P w=.ok c w):Does P o a w c w:=by
 left
 simp only[execOp,ho,Instr.index,hx,hy,asIntOf,Sem.run_bind,Sem.run_pure,Result.andThen_ok,run_underlying hu]
 rw[if_pos ⟨h0,hlt⟩]
 simp only[Sem.run_bind,run_sizeOf' hi,Result.andThen_ok,hp,Sem.run_pure]

theorem step_ixa_agg {S:Prop} {o:Oper} {t:TypeId} {x y:Operand} {x' y':Opd} {el:TypeId} {len n:Nat} {d:TypeDesc} {v:AV} {e':Env} {H':AH} (h:SR w0 ι lam e H a.tmps w) (ho:o.op=.index t x y) (hu:P.underlying t=some (.array len el)) (hd:P.underlying el=some d) (hag:aggD d=true)
  (hn:sOf P el=some n) (hx:cOpd x=some x') (hy:cOpd y=some y') (he:aop e H (.ixa n len true x' y')=some (v,e',H')):Step P w0 S o a ι lam e H w v e' H':=by
 obtain⟨i,hi,rfl⟩:=sOf_spec hn
 have gx:=h.opd hx
 have gy:=h.opd hy
 simp only[aop] at he
 split at he
 ·rename_i cs k m e1 e2
  rw[e1] at gx;rw[e2] at gy
  have gy:=gy.inv_int
  obtain⟨cc,k1,k2⟩:=gx.inv_agg
  split at he
  ·rename_i hcond
   cases he
   exact Step.same h (run_index ho hu hi k1 gy hcond.1 hcond.2.1 (run_part_agg hd hag hi)) (VE.of_V (VC.aggA (c:=cc.extract (m.toNat*i.size) (m.toNat*i.size+i.size)) (by rw[extract_toList];exact (k2.drop _).take _)))
  ·cases he
 ·cases he

theorem step_ixa_one {S:Prop} {o:Oper} {t:TypeId} {x y:Operand} {x' y':Opd} {el:TypeId} {len n:Nat} {d:TypeDesc} {v:AV} {e':Env} {H':AH} (h:SR w0 ι lam e H a.tmps w) (ho:o.op=.index t x y) (hu:P.underlying t=some (.array len el)) (hd:P.underlying el=some d) (hag:aggD d=false)
  (hn:sOf P el=some n) (hx:cOpd x=some x') (hy:cOpd y=some y') (he:aop e H (.ixa n len false x' y')=some (v,e',H')):Step P w0 S o a ι lam e H w v e' H':=by
 obtain⟨i,hi,rfl⟩:=sOf_spec hn
 have gx:=h.opd hx
 have gy:=h.opd hy
 simp only[aop] at he
 split at he
 ·rename_i cs k m e1 e2
  rw[e1] at gx;rw[e2] at gy
  have gy:=gy.inv_int
  obtain⟨cc,k1,k2⟩:=gx.inv_agg
  split at he
  ·rename_i hcond
   simp only[Bool.false_eq_true,if_false] at he
   cases hcv:cs[m.toNat*i.size]? with
   | none=>rw[hcv] at he;cases he
   | some u=>
    rw[hcv] at he
    cases he
    obtain⟨c,k3,k4⟩:=k2.1.get? hcv
    exact Step.same h (run_index ho hu hi k1 gy hcond.1 hcond.2.1 (run_part_one hd hag (by simpa using k3))) (VE.of_V k4)
  ·cases he
 ·cases he

theorem step_isn {S:Prop} {o:Oper} {t u el:TypeId} {op:BinOp} {neg:Bool} {x y:Operand} {x':Opd} {v:AV} {e':Env} {H':AH} (h:SR w0 ι lam e H a.tmps w) (ho:o.op=.binOp op t x y u) (hop:op=.eql∧neg=false∨op=.neq∧neg=true) (hu:P.underlying t=some (.slice el))
  (hx:cOpd x=some x') (hy:cOpd y=some (.c .nils)) (he:aop e H (.isn neg x')=some (v,e',H')):Step P w0 S o a ι lam e H w v e' H':=by
 have g1:=h.opd hx
 have g2:=(h.opd hy).inv_nils
 have fin:∀ (b:Option Addr) l c,a.eval x=.slice b l c→Does P o a w (.bool (neg ^^ b.isNone)) w:=by
  intro b l c hb
  left
  have hg:=eqGuard_ok (P:=P) op t x y (.slice b l c) (.slice none 0 0) (by simp) (by simp) w
  have heq:(Op.equal t (.slice b l c) (.slice none 0 0)).run P w=.ok b.isNone w:=by
   show (Op.equalIn (9999+1) t (.slice b l c) (.slice none 0 0)).run P w=_
   exact Lib.run_equalIn_slice_nil w 9999 t el b l c 0 0 hu
  rcases hop with ⟨rfl,rfl⟩|⟨rfl,rfl⟩
  ·simp only[execOp,ho,hb,g2,Sem.run_bind,hg,Result.andThen_ok,binOp,heq,Sem.run_pure]
   simp
  ·simp only[execOp,ho,hb,g2,Sem.run_bind,hg,Result.andThen_ok,binOp,heq,Sem.run_pure]
   simp
 simp only[aop] at he
 split at he
 ·rename_i e1
  cases he
  rw[e1] at g1
  exact Step.same h (fin _ _ _ g1.inv_nils) (VE.of_V (.bool _))
 ·rename_i e1
  cases he
  rw[e1] at g1
  generalize hgx:a.eval x=cx at g1
  cases g1 with
  | sl _ _ _ _ _ _ gg off cap' sp x1 hi1 hl1 hc1 hx1 hp1 hsp0=>exact Step.same h (fin _ _ _ hgx) (VE.of_V (.bool _))
 ·rename_i e1
  cases he
  rw[e1] at g1
  generalize hgx:a.eval x=cx at g1
  cases g1 with
  | vs _ _ A cap' sz' cf hsp hl hc' hv' hh1 hz' hcap'=>exact Step.same h (fin _ _ _ hgx) (VE.of_V (.bool _))
 ·cases he

theorem args_one {args:Array Operand} {x':Opd} (h:mapO cOpd args.toList=some [x']):∃ x,args=#[x]∧cOpd x=some x':=by
 obtain⟨l⟩:=args
 cases l with
 | nil=>simp[mapO] at h
 | cons x l=>
  simp only[mapO] at h
  split at h
  ·rename_i y ys h1 h2
   cases h
   cases l with
   | nil=>exact⟨x,rfl,h1⟩
   | cons _ _=>have:=mapO_length h2;simp at this
  ·cases h
theorem args_two {args:Array Operand} {x' y':Opd} (h:mapO cOpd args.toList=some [x',y']):∃ x y,args=#[x,y]∧cOpd x=some x'∧cOpd y=some y':=by
 obtain⟨l⟩:=args
 cases l with
 | nil=>simp[mapO] at h
 | cons x l=>
  simp only[mapO] at h
  split at h
  ·rename_i y ys h1 h2
   cases h
   obtain⟨u,e1,e2⟩:=args_one (args:=⟨l⟩) h2
   simp only[Array.mk.injEq] at e1
   subst e1
   exact⟨x,u,rfl,h1,e2⟩
  ·cases h

theorem does_len {o:Oper} {c:Call} {t:TypeId} {x:Operand} {n:Nat} (ho:o.op=.call c) (hb:c.callee=.builtin .len) (ht:c.argTypes[0]? = some t) (hargs:c.args=#[x])
  (hr:(Builtin.len_ c.argTypes o.type #[a.eval x]).run P w=.ok (goInt n) w):Does P o a w (.int .i64 n) w:=by
 left
 obtain⟨cn,e⟩:=exec_builtin (a:=a) (P:=P) ho hb w
 rw[e,hargs]
 simp only[builtin]
 have hr':=hr
 simp[goInt] at hr' ⊢
 simp[hr']

theorem toList_bang (es':Array MapEntry) (i:Nat):es'.toList[i]! = es'[i]!:=by simp[getElem!_def]
theorem run_getMap {r:Nat} {es:Array MapEntry} {clock:Nat} (hb:w.heap[r]? = some (.map es clock)):(getObj r).run P w=.ok (.map es clock) w:=by
 simp[getObj,Sem.run,hb]
theorem run_setMap {r:Nat} {es:Array MapEntry} {clock:Nat} (o:Obj) (hb:w.heap[r]? = some (.map es clock)):(setObj r o).run P w=.ok () { w with heap:=w.heap.setIfInBounds r o }:=by
 simp[setObj,Sem.run,hb]

theorem SR.val (h:SR w0 ι lam e H a.tmps w) {x:Operand} {y:Opd} (hc:cOpd x=some y) {v:AV} (hv:e.val y=some v):Ab.V w0 ι v (a.eval x):=by
 unfold Env.val at hv
 split at hv
 ·rename_i hfr
  cases hv
  exact (h.opd hc).V hfr
 ·cases hv

theorem findNow_rel {kk:IntKind} {n:Int} {ik:IntKind}:∀ (es:List (AV × AV)) (es':List MapEntry),es.length=es'.length→(∀ i (h:i<es.length),V w0 ι es[i].1 es'[i]!.key∧V w0 ι es[i].2 es'[i]!.val) →
  ∀ (r:Option AV),keyGet kk n es=some r→∀ i,(r=none→Instr.findNow (.int ik) (.int kk n) es' i=some none)∧(∀ v,r=some v→∃ j c,Instr.findNow (.int ik) (.int kk n) es' i=some (some (j,c))∧V w0 ι v c):=by
 intro es
 induction es with
 | nil=>
  intro es' hl _ r hr i
  cases es' with
  | nil=>simp only[keyGet,Option.some.injEq] at hr;subst hr;exact⟨fun _=>rfl,fun v hv=>by cases hv⟩
  | cons _ _=>simp at hl
 | cons p es ih=>
  intro es' hl hv r hr i
  cases es' with
  | nil=>simp at hl
  | cons q es'=>
   obtain⟨k0,v0⟩:=p
   have h0:=hv 0 (by simp)
   simp only[List.getElem_cons_zero,List.getElem!_eq_getElem?_getD,List.getElem?_cons_zero,Option.getD_some] at h0
   have ih':=fun r hr=>ih es' (by simpa using hl) (fun i hi=>by have:=hv (i+1) (by simpa using hi);simpa only[List.getElem_cons_succ,List.getElem!_eq_getElem?_getD,List.getElem?_cons_succ] using this) r hr (i+1)
   unfold keyGet at hr
   split at hr
   ·rename_i e;cases e
   ·rename_i k' n' v' es0 e
    cases e
    have hk:q.key=.int k' n':=by have:=h0.1;generalize q.key=x at this;cases this;rfl
    split at hr
    ·rename_i hkk
     subst hkk
     split at hr
     ·rename_i hnn
      subst hnn
      cases hr
      refine⟨fun e=>(by cases e),fun v hv'=>?_⟩
      cases hv'
      exact⟨i,q.val,by simp[Instr.findNow,Instr.sameNow,hk],h0.2⟩
     ·rename_i hnn
      have hnn':¬ n=n':=fun e=>hnn e.symm
      obtain⟨a1,a2⟩:=ih' r hr
      refine⟨fun e=>?_,fun v hv'=>?_⟩
      ·simp only[Instr.findNow,Instr.sameNow,hk,if_true,beq_eq_false_iff_ne.2 hnn'];exact a1 e
      ·obtain⟨j,c,b1,b2⟩:=a2 v hv'
       exact⟨j,c,by simp only[Instr.findNow,Instr.sameNow,hk,if_true,beq_eq_false_iff_ne.2 hnn'];exact b1,b2⟩
    ·cases hr
   ·cases hr

theorem map_of {r:Nat} {es:List (AV × AV)} {c:Value} (h:SR w0 ι lam e H a.tmps w) (hv:VE w0 ι lam (.mp r) c) (hg:H.get r=.map es) :
  ∃ p es' cl,ι r=some (some p)∧r<H.next∧c=.map (some p.blk)∧w.heap[p.blk]? = some (.map es' cl)∧es.length=es'.size∧∀ i (h:i<es.length),V w0 ι es[i].1 es'[i]!.key∧V w0 ι es[i].2 es'[i]!.val:=by
 have hlt:r<H.next:=by
  rcases Nat.lt_or_ge r H.next with g|g
  ·exact g
  ·rw[h.mem.top r g] at hg;cases hg
 cases hv with
 | mp _ g x hi hp=>
  cases x with
  | none=>rw[h.mem.alive r hlt hi] at hg;cases hg
  | some p=>
   have ho:=h.mem.obj r p hlt hi
   rw[hg] at ho
   obtain⟨es',cl,e1,e2,e3⟩:=ho
   exact⟨p,es',cl,hi,hlt,by rw[hp p rfl],e1,e2,e3⟩

theorem run_checkKey {kt:TypeId} {ik:IntKind} (hu:P.underlying kt=some (.int ik)) (b:Bool) (v:Value) (w:World):(Instr.checkKey b 10000 kt v).run P w=.ok () w:=by
 unfold Instr.checkKey
 simp only[Sem.run_bind,run_underlying hu,Result.andThen_ok,Sem.run_pure]

theorem run_findKey {kt:TypeId} {ik:IntKind} (hu:P.underlying kt=some (.int ik)) {k:Value} {es:List MapEntry} {r:Option (Nat × Value)} (h:Instr.findNow (.int ik) k es 0=some r) (w:World):(Instr.findKey kt k es).run P w=.ok r w:=by
 unfold Instr.findKey
 simp only[Sem.run_bind,run_underlying hu,Result.andThen_ok,h,Sem.run_pure]

theorem step_mset {o:Oper} {t:TypeId} {x y z:Operand} {x' y' z':Opd} {v:AV} {e':Env} {H':AH} (h:SR w0 ι lam e H a.tmps w) (hop:o.op=.mapUpdate t x y z∨o.op=.insert t x y z) (hc:cIns P t x y z=some (.mset x' y' z')) (he:aop e H (.mset x' y' z')=some (v,e',H')) :
  Step P w0 False o a ι lam e H w v e' H':=by
 unfold cIns at hc
 split at hc
 ·rename_i kt et m k s hu hm hk hs
  split at hc
  ·rename_i ik hki
   cases hc
   simp only[aop] at he
   split at he
   ·rename_i r kk n u e1 e2 e3
    split at he
    ·rename_i es hg
     split at he
     ·rename_i hkey
      cases he
      have g1:=h.opd hm
      have g2:=h.opd hk
      rw[e1] at g1
      rw[e2] at g2
      have g3:=h.val hs e3
      obtain⟨p,es',cl,hi,hlt,hx,hb,hl,hrel⟩:=map_of h g1 hg
      have hy:=VE.inv_int g2
      have hf:=(findNow_rel (ik:=ik) es es'.toList (by simpa using hl) (fun i hi=>by rw[toList_bang];exact hrel i hi) none hkey 0).1 rfl
      have key:=h.mem.putMap (b:=r) hlt hi (es:=es++[(.int kk n,u)]) (new:=es'.push { key:=.int kk n,val:=a.eval z,born:=cl }) (cl':=cl+1) hb (by simp[hl]) (fun i hi'=>by
       simp only[List.length_append,List.length_singleton] at hi'
       rcases Nat.lt_or_ge i es.length with hh|hh
       ·have:=hrel i hh
        have hi2:i<es'.size:=by omega
        have e4:(es'.push { key:=.int kk n,val:=a.eval z,born:=cl })[i]! = es'[i]!:=by
         simp only[getElem!_def,Array.getElem?_push,if_neg (show ¬ i=es'.size by omega)]
        rw[e4,List.getElem_append_left hh]
        exact this
       ·have hi2:i=es.length:=by omega
        subst hi2
        have e4:(es'.push { key:=.int kk n,val:=a.eval z,born:=cl })[es.length]! = { key:=.int kk n,val:=a.eval z,born:=cl }:=by
         simp only[getElem!_def,Array.getElem?_push,if_pos hl]
        rw[e4,List.getElem_append_right hh]
        simp only[Nat.sub_self,List.getElem_cons_zero]
        exact⟨.int _ _,g3⟩)
      refine⟨undef,ι,lam,_,.inr ⟨?_,rfl⟩,VE.of_V (.tup _ _ rfl (fun i hi=>by simp at hi)),key.1,key.2,rfl⟩
      have hrun:(Instr.mapUpdate t (a.eval x) (a.eval y) (a.eval z)).run P w=.ok () { w with heap:=w.heap.setIfInBounds p.blk (.map (es'.push { key:=.int kk n,val:=a.eval z,born:=cl }) (cl+1)) }:=by
       rw[hx,hy]
       simp only[Instr.mapUpdate,Sem.run_bind,run_underlying hu,Result.andThen_ok,run_getMap hb,run_checkKey hki,run_findKey hki hf]
       exact run_setMap _ hb
      rcases hop with hop|hop<;>simp only[execOp,hop,Sem.run_bind,hrun,Result.andThen_ok,Sem.run_pure]
     ·cases he
    ·cases he
   ·cases he
  ·cases hc
 ·cases hc

theorem sim_aop {loc q:Bool} {o:Oper} {mo:MOp} (hc:cOp P loc q o.op=some mo) (hnc:∀ q f as,mo≠.call q f as) {v:AV} {e':Env} {H':AH} (he:aop e H mo=some (v,e',H')) (h:SR w0 ι lam e H a.tmps w) (hf:Fresh ι H H') (hlf:LFresh lam e.ln e'.ln) :
  Step P w0 (isStore o.op) o a ι lam e H w v e' H':=by
 generalize hop:o.op=op at hc
 cases op
 case move x=>
  simp only[cOp] at hc
  cases hx:cOpd x with
  | none=>rw[hx] at hc;cases hc
  | some y=>rw[hx] at hc;cases hc;simp only[aop] at he;cases he;exact step_mv h (.inl hop) hx
 case assign x=>
  simp only[cOp] at hc
  cases hx:cOpd x with
  | none=>rw[hx] at hc;cases hc
  | some y=>rw[hx] at hc;cases hc;simp only[aop] at he;cases he;exact step_mv h (.inr hop) hx
 case pick c x y=>
  simp only[cOp] at hc
  split at hc
  ·rename_i c' x' y' h1 h2 h3
   cases hc
   simp only[aop] at he
   split at he
   ·rename_i e1;cases he;exact step_pick (b:=true) h hop h1 h2 h3 e1
   ·rename_i e1;cases he;exact step_pick (b:=false) h hop h1 h2 h3 e1
   ·cases he
  ·cases hc
 case alloc t=>
  simp only[cOp] at hc
  cases hz:zeroOf P t with
  | none=>rw[hz] at hc;cases hc
  | some z=>
   rw[hz] at hc
   cases hc
   obtain⟨i,zv,hi,hzz,hm⟩:=zeroOf_spec hz
   have hv:=mapO_VC (w0:=w0) (ι:=ι) hm
   cases loc
   ·simp only[Bool.false_eq_true,if_false,aop] at he;cases he
    exact step_newCells h (hf _ (Nat.le_refl _) (Nat.lt_succ_self _)) hv (does_alloc hop hi hzz)
   ·simp only[if_true,aop] at he;cases he
    exact step_newLoc h (hlf _ (Nat.le_refl _) (Nat.lt_succ_self _)) hv (does_alloc hop hi hzz)
 case box t x=>
  simp only[cOp] at hc
  cases hx:cOpd x with
  | none=>rw[hx] at hc;cases hc
  | some y=>
   rw[hx] at hc
   cases hc
   cases loc
   ·simp only[Bool.false_eq_true,if_false,aop] at he
    split at he
    ·rename_i hvar
     cases he
     exact step_newCells h (hf _ (Nat.le_refl _) (Nat.lt_succ_self _)) ((h.opd hx).cells hvar) (does_box hop)
    ·cases he
   ·simp only[if_true,aop] at he
    split at he
    ·rename_i hvar
     cases he
     exact step_newLoc h (hlf _ (Nat.le_refl _) (Nat.lt_succ_self _)) ((h.opd hx).cells hvar) (does_box hop)
    ·cases he
 case build t ps=>
  simp only[cOp] at hc
  split at hc
  ·rename_i z fs hz hu
   split at hc
   ·rename_i hall
    cases hq:(cParts ps.toList (structPlace P fs)) with
    | none=>rw[hq] at hc;cases hc
    | some qs=>
     rw[hq] at hc
     cases hc
     obtain⟨i,zv,hi,hzz,hm⟩:=zeroOf_spec hz
     simp only[aop] at he
     split at he
     ·rename_i us hus
      cases hfi:fillA z us with
      | none=>rw[hfi] at he;cases he
      | some out=>
       rw[hfi] at he
       cases he
       obtain⟨cc,k1,k2⟩:=fill_rel _ ps.toList qs z out zv.cells h hq (mapO_VC hm) us hus hfi
       exact Step.same h (does_build_struct hop hi hzz hu hall k1) (VE.of_V k2.aggA)
     ·cases he
   ·cases hc
  ·rename_i z len el hz hu
   split at hc
   ·rename_i n hn
    cases hq:(cParts ps.toList fun i=>some (i*n,n)) with
    | none=>rw[hq] at hc;cases hc
    | some qs=>
     rw[hq] at hc
     cases hc
     obtain⟨i,zv,hi,hzz,hm⟩:=zeroOf_spec hz
     simp only[aop] at he
     split at he
     ·rename_i us hus
      cases hfi:fillA z us with
      | none=>rw[hfi] at he;cases he
      | some out=>
       rw[hfi] at he
       cases he
       obtain⟨cc,k1,k2⟩:=fill_rel _ ps.toList qs z out zv.cells h hq (mapO_VC hm) us hus hfi
       exact Step.same h (does_build_array hop hi hzz hu hn k1) (VE.of_V k2.aggA)
     ·cases he
   ·cases hc
  ·cases hc
 case buildSlice t len ps=>
  simp only[cOp] at hc
  split at hc
  ·rename_i el hu
   split at hc
   ·rename_i n z hn hz
    split at hc
    ·rename_i hcond
     cases hq:(mapO (fun p=>(cOpd p.2).map fun x=>(p.1,x)) ps.toList) with
     | none=>rw[hq] at hc;cases hc
     | some qs=>
      rw[hq] at hc
      cases hc
      obtain⟨i,zv,hi,hzz,hm⟩:=zeroOf_spec hz
      obtain⟨i',hi',rfl⟩:=sOf_spec hn
      rw[hi] at hi'
      cases hi'
      have hl:=mapO_length hm
      simp only[Array.length_toList] at hl
      simp only[aop] at he
      split at he
      ·rename_i us hus
       cases hfi:fillA (repl z len) us with
       | none=>rw[hfi] at he;cases he
       | some out=>
        rw[hfi] at he
        cases he
        have hq2:cParts ps.toList (fun k=>some (k*i.size,i.size))=some (qs.map fun p=>(p.1*i.size,i.size,p.2)):=by
         have:∀ (l:List (Nat × Operand)) (r:List (Nat × Opd)),mapO (fun p=>(cOpd p.2).map fun x=>(p.1,x)) l=some r→cParts l (fun k=>some (k*i.size,i.size))=some (r.map fun p=>(p.1*i.size,i.size,p.2)):=by
          intro l
          induction l with
          | nil=>intro r hr;simp[mapO] at hr;subst hr;rfl
          | cons p l ih=>
           intro r hr
           simp only[mapO] at hr
           split at hr
           ·rename_i y ys g1 g2
            cases hr
            cases gx:cOpd p.2 with
            | none=>rw[gx] at g1;cases g1
            | some x=>
             rw[gx] at g1
             cases g1
             have:=ih ys g2
             unfold cParts at this
             simp only[cParts,mapO,gx,this,List.map_cons]
           ·cases hr
         exact this _ _ hq
        have hus2:((qs.map fun p=>(p.1*i.size,i.size,p.2)).mapM fun p=>(e.val p.2.2).map fun v=>(p.1,p.2.1,v))=some us:=by
         rw[mapM_val] at hus ⊢
         rw[← hus]
         have:∀ l:List (Nat × Opd),mapO (fun p:Nat × Nat × Opd=>(e.val p.2.2).map fun v=>(p.1,p.2.1,v)) (l.map fun p=>(p.1*i.size,i.size,p.2))=mapO (fun p=>(e.val p.2).map fun v=>(p.1*i.size,i.size,v)) l:=by
          intro l
          induction l with
          | nil=>rfl
          | cons p l ih=>simp only[List.map_cons,mapO,ih]
         exact this qs
        have hzv:=mapO_VC (w0:=w0) (ι:=ι) hm
        obtain⟨cc,k1,k2⟩:=fill_rel _ ps.toList _ (repl z len) out ((List.replicate len zv.cells.toList).flatten).toArray h hq2 (by simpa using repl_VC hzv len) us hus2 hfi
        have hcl:=k2.1.1
        have hol:∀ (us:List (Nat × Nat × AV)) (c1 c2:List AV),fillA c1 us=some c2→c2.length=c1.length:=by
         intro us
         induction us with
         | nil=>intro c1 c2 hh;simp[fillA] at hh;rw[hh]
         | cons u us ih=>
          intro c1 c2 hh
          simp only[fillA] at hh
          split at hh
          ·rename_i hcnd
           rw[ih _ _ hh]
           simp[Ab.splice]
           omega
          ·cases hh
        have hol':=hol us _ _ hfi
        rw[repl_length] at hol'
        have key:=h.mem.alloc (T:=el) (hf H.next (Nat.le_refl _) (Nat.lt_succ_self _)) (cs:=out) (cc:=cc) (by simp at hcl;omega) (by rw[List.take_of_length_le (by simp at hcl ⊢;omega)];exact k2)
        refine⟨_,_,lam,_,does_bsl hop hi hzz hu hcond.1 (by omega) hcond.2.2 k1, ?_,key.1,key.2,rfl⟩
        refine VE.of_V (.sl _ _ _ _ _ _ w.heap.size 0 len none _ (by unfold Io.set;simp;rfl) (Nat.le_refl _) ⟨Nat.le_refl _,by have:=Nat.le_mul_of_pos_right len hcond.1;omega⟩ (fun _=>rfl) (fun p hp=>?_) (.inl rfl))
        cases hp
        refine⟨rfl,fun _=>rfl, ?_⟩
        simp only[Array.length_toList] at hcl
        simp only[Nat.zero_add]
        rw[← hcl,hol',hcond.2.1]
        exact Nat.le_refl _
      ·cases he
    ·cases hc
   ·cases hc
  ·cases hc
 case load t x=>
  simp only[cOp] at hc
  have agg:∀ d n x',P.underlying t=some d→aggD d=true→sOf P t=some n→cOpd x=some x'→mo=.ldn n x'→Step P w0 (isStore (.load t x)) o a ι lam e H w v e' H':=by
   intro d n x' hu hd hn hx hmo
   subst hmo
   simp only[aop] at he
   cases hr:readAt e H (e.raw x') n with
   | none=>rw[hr] at he;cases he
   | some cs=>
    rw[hr] at he
    cases he
    obtain⟨i,hi,rfl⟩:=sOf_spec hn
    obtain⟨g,off,cl,k1,k2,k3,k4⟩:=h.mem.read (h.opd hx) hr
    exact Step.same h (does_loadn hop hu hd hi (by rw[← k2.1.1];exact k3) k1 k4) (VE.of_V k2.agg)
  split at hc
  ·cases hc;exact agg _ _ _ ‹_› rfl ‹_› ‹_› rfl
  ·cases hc;exact agg _ _ _ ‹_› rfl ‹_› ‹_› rfl
  ·rename_i d n x' hns hna hu hn hx
   cases hc
   have hd:aggD d=false:=by cases d<;>first|rfl|exact (hns _ rfl).elim|exact (hna _ _ rfl).elim
   simp only[aop] at he
   split at he
   ·rename_i u hr
    cases he
    obtain⟨g,off,cl,k1,k2,k3,k4⟩:=h.mem.read (h.opd hx) hr
    obtain⟨c,cl',rfl,hvc,_⟩:=k2.1.inv_cons
    have:=k4 0 c rfl
    exact Step.same h (does_load1 hop hu hd k1 (by simpa using this)) (VE.of_V hvc)
   ·cases he
  ·cases hc
 case store t x y=>
  simp only[cOp] at hc
  have fin:∀ n x' y',sOf P t=some n→cOpd x=some x'→cOpd y=some y'→(e.raw y').var=true→(e.raw y').cells.length=n→∀ r,writeAt e H (e.raw x') (e.raw y').cells=some r→v=.tup []→e'=r.1→H'=r.2→Step P w0 (isStore (.store t x y)) o a ι lam e H w v e' H':=by
   intro n x' y' hn hx hy hvar hlen r hr e1 e2 e3
   subst e1 e2 e3
   obtain⟨i,hi,rfl⟩:=sOf_spec hn
   have hcy:=(h.opd hy).cells hvar
   have hcl:=hcy.1.1
   simp only[Array.length_toList] at hcl
   obtain⟨g,off,cur,T,k1,k2,k3,k4,k5,k6,k7⟩:=h.mem.write (e':=r.1) (H':=r.2) (h.opd hx) hcy hr
   simp only[Array.length_toList] at k3
   refine⟨undef,ι,lam,_,does_store hop hi k1 (by omega) k2 (by omega) hcy.2,VE.of_V (.tup _ _ rfl (fun i hi=>by simp at hi)), ?_,k7.mono (fun _=>trivial),k4⟩
   exact k6
  split at hc
  ·rename_i n x' y' hu hn hx hy
   cases hc
   simp only[aop] at he
   split at he
   ·rename_i hcond
    cases hr:writeAt e H (e.raw x') (e.raw y').cells with
    | none=>rw[hr] at he;cases he
    | some r=>rw[hr] at he;cases he;exact fin n x' y' hn hx hy hcond.1 hcond.2 r hr rfl rfl rfl
   ·cases he
  ·rename_i n x' y' hu hn hx hy
   cases hc
   simp only[aop] at he
   split at he
   ·rename_i hcond
    cases hr:writeAt e H (e.raw x') (e.raw y').cells with
    | none=>rw[hr] at he;cases he
    | some r=>rw[hr] at he;cases he;exact fin n x' y' hn hx hy hcond.1 hcond.2 r hr rfl rfl rfl
   ·cases he
  ·rename_i d n x' y' _ _ hu hn hx hy
   split at hc
   ·rename_i hn1
    cases hc
    simp only[aop] at he
    split at he
    ·rename_i hone
     have hcs:(e.raw y').cells=[e.raw y']:=by cases hh:e.raw y'<;>simp_all [AV.one,AV.cells]
     have hvar:(e.raw y').var=true:=by cases hh:e.raw y'<;>simp_all [AV.one,AV.var]
     cases hr:writeAt e H (e.raw x') [e.raw y'] with
     | none=>rw[hr] at he;cases he
     | some r=>rw[hr] at he;cases he;exact fin n x' y' hn hx hy hvar (by rw[hcs];simp[hn1]) r (by rw[hcs];exact hr) rfl rfl rfl
    ·cases he
   ·cases hc
  ·cases hc
 case nilCheck x=>
  simp only[cOp] at hc
  cases hx:cOpd x with
  | none=>rw[hx] at hc;cases hc
  | some y=>
   rw[hx] at hc
   cases hc
   have g:=h.opd hx
   simp only[aop] at he
   have fin:∀ u,a.eval x=u→(∀ g,u=.pointer g→g≠none)→u≠.nilIface→u≠.nilFunc→(∀ m f c,u≠.func (.method m) f c)→Does P o a w u w:=by
    intro u hu h1 h2 h3 h4
    left
    simp only[execOp,hop,hu]
    cases u with
    | pointer g=>cases g with|none=>exact absurd rfl (h1 none rfl)|some g=>rfl
    | nilIface=>exact absurd rfl h2
    | nilFunc=>exact absurd rfl h3
    | func fn f c=>cases fn with|method m=>exact absurd rfl (h4 m f c)|_=>rfl
    | _=>rfl
   split at he
   ·rename_i b o' e1
    cases he
    rw[e1] at g
    generalize hu:a.eval x=u at g
    cases g with
    | ptr _ _ gg off x1 hi hp=>exact Step.same h (fin _ hu (by simp) (by simp) (by simp) (by simp)) (.ptr _ _ gg off x1 hi hp)
   ·rename_i es k o' e1
    cases he
    rw[e1] at g
    generalize hu:a.eval x=u at g
    cases g with
    | vp _ _ _ blk off cf hi hc hv h1=>exact Step.same h (fin _ hu (by simp) (by simp) (by simp) (by simp)) (VE.of_V (.vp _ _ _ blk off cf hi hc hv h1))
   ·rename_i st o' e1
    cases he
    rw[e1] at g
    obtain⟨b,hb,hu⟩:=g
    exact Step.same h (fin _ hu (by simp) (by simp) (by simp) (by simp)) ⟨b,hb,rfl⟩
   ·rename_i f u1 u2 e1
    cases he
    rw[e1] at g
    generalize hu:a.eval x=u at g
    cases g with
    | fn _ _ _ f' c' h1 h2 h3 h4=>exact Step.same h (fin _ hu (by simp) (by simp) (by simp) (by simp)) (VE.of_V (.fn _ _ _ f' c' h1 h2 h3 h4))
   ·cases he
 case binOp op t x y u=>
  simp only[cOp] at hc
  split at hc
  ·rename_i x' y' hx hy
   unfold cBin at hc
   split at hc
   ·split at hc<;>cases hc
    simp only[aop] at he
    cases hb:abin op (e.raw x') (e.raw y') with
    | none=>rw[hb] at he;cases he
    | some r=>rw[hb] at he;cases he;exact step_bin h hop hx hy hb
   ·split at hc<;>cases hc
    all_goals
     simp only[aop] at he
     cases hb:abin _ (e.raw x') (e.raw y') with
     | none=>rw[hb] at he;cases he
     | some r=>rw[hb] at he;cases he;exact step_bin h hop hx hy hb
   ·rename_i el hu
    split at hc<;>cases hc
    ·exact step_isn (neg:=false) h hop (.inl ⟨rfl,rfl⟩) hu hx hy he
    ·exact step_isn (neg:=true) h hop (.inr ⟨rfl,rfl⟩) hu hx hy he
   ·rename_i hu
    split at hc<;>cases hc
    all_goals
     simp only[aop] at he
     split at he
     ·rename_i e1 e2
      cases he
      first
       | exact step_eqb (neg:=false) h hop (.inl ⟨rfl,rfl⟩) hu hx hy e1 e2
       | exact step_eqb (neg:=true) h hop (.inr ⟨rfl,rfl⟩) hu hx hy e1 e2
     ·cases he
   ·rename_i hu
    split at hc
    ·rename_i hm
     split at hc
     ·rename_i ks hks
      split at hc<;>cases hc
      all_goals
       simp only[aop] at he
       split at he
       ·rename_i xs ys e1 e2
        cases hr:aeqs ks xs ys with
        | none=>rw[hr] at he;cases he
        | some r=>
         rw[hr] at he
         cases he
         first
          | exact step_eqg (neg:=false) h hop (.inl ⟨rfl,rfl⟩) hu hks hm hx hy e1 e2 hr
          | exact step_eqg (neg:=true) h hop (.inr ⟨rfl,rfl⟩) hu hks hm hx hy e1 e2 hr
       ·cases he
     ·cases hc
    ·cases hc
   ·cases hc
  ·cases hc
 case unOp op t x=>
  simp only[cOp] at hc
  split at hc
  all_goals first
   | (cases hc;done)
   | (cases hx:cOpd x with
      | none=>rw[hx] at hc;cases hc
      | some y=>
       rw[hx] at hc
       cases hc
       simp only[aop] at he
       cases hu:aun _ (e.raw y) with
       | none=>rw[hu] at he;cases he
       | some r=>rw[hu] at he;cases he;exact step_un h hop hx hu)
 case convert s d x=>
  simp only[cOp] at hc
  split at hc
  ·rename_i k1 k hs hd
   cases hx:cOpd x with
   | none=>rw[hx] at hc;cases hc
   | some y=>
    rw[hx] at hc
    cases hc
    have g:=h.opd hx
    simp only[aop] at he
    split at he
    ·rename_i k2 n e1
     cases he
     rw[e1] at g
     have g:=g.inv_int
     refine Step.same h (.inl ?_) (VE.of_V (.int k _))
     simp only[execOp,hop,convert,g,Sem.run_bind,run_underlying hs,run_underlying hd,Result.andThen_ok]
     simp[Conv.intToInt]
    ·cases he
  ·cases hc
 case makeFunc fn first cap=>
  simp only[cOp] at hc
  split at hc
  ·rename_i as bs h1 h2
   cases hc
   simp only[aop] at he
   split at he
   ·rename_i us vs g1 g2
    cases he
    have k1:=mapO_VL h h1 g1
    have k2:=mapO_VL h h2 g2
    refine Step.same h (cv:=.func fn (first.map a.eval) (cap.map a.eval)) (.inl (by simp[execOp,hop,Instr.makeFunc])) (VE.of_V ?_)
    have l1:=k1.1
    have l2:=k2.1
    simp only[List.length_map,Array.length_toList] at l1 l2
    refine .fn _ _ _ _ _ (by simpa using l1) (by simpa using l2) (fun i hi=>?_) (fun i hi=>?_)
    ·have:=k1.2 i hi
     have hi':i<first.size:=by omega
     simpa [getElem!_pos,hi'] using this
    ·have:=k2.2 i hi
     have hi':i<cap.size:=by omega
     simpa [getElem!_pos,hi'] using this
   ·cases he
  ·cases hc
 case makeSlice t l c=>
  simp only[cOp] at hc
  split at hc
  ·rename_i el hu
   split at hc
   ·rename_i i z l' c' hi hz hl hcc
    split at hc
    ·rename_i hcond
     cases hc
     obtain⟨i',zv,hi',hzz,hm⟩:=zeroOf_spec hz
     rw[hi] at hi'
     cases hi'
     have hlz:=mapO_length hm
     simp only[Array.length_toList] at hlz
     simp only[aop] at he
     split at he
     ·rename_i n m e1 e2
      split at he
      ·rename_i hb
       cases he
       exact step_mksl h hop hu hi hzz hm (by omega) hcond.1 hl hcc e1 e2 hb.1 hb.2.1 hb.2.2.1 hb.2.2.2 (hf _ (Nat.le_refl _) (Nat.lt_succ_self _))
      ·cases he
     ·cases he
    ·cases hc
   ·cases hc
  ·cases hc
 case slice t x lo hi mx=>
  simp only[cOp] at hc
  split at hc
  ·rename_i el hu
   split at hc
   ·rename_i n x' lo' hi' mx' hn hx h1 h2 h3
    split at hc
    ·rename_i hmh
     cases hc
     obtain⟨i,hinf,rfl⟩:=sOf_spec hn
     have g:=h.opd hx
     simp only[aop] at he
     split at he
     ·rename_i b o' sz' len cap ex e1
      rw[e1] at g
      generalize hgx:a.eval x=cx at g
      cases g with
      | sl _ _ _ _ _ _ gg off cap' sp x1 hi1 hl1 hc1 hx1 hp1 hsp0=>
       split at he
       ·rename_i m r l bm bh bl
        split at he
        ·rename_i hcond
         cases he
         obtain⟨hsz,c1,c2,c3⟩:=hcond
         subst hsz
         cases hmx:mx'.head? with
         | none=>
          rw[hmx] at bm
          simp only[boundOf,Option.some.injEq] at bm
          subst bm
          have:=does_slc (m:=cap') h hop hu hinf h1 h2 h3 hmh hgx (by omega) (by rw[hmx];rfl) bh bl c1 (by omega) (Nat.le_refl _)
          refine Step.same h this ?_
          have hsome:(if cap'=l then (some (⟨gg,off,sp⟩:Addr)) else (some (⟨gg,off,sp⟩:Addr)).map (·.add (l*i.size)))=some ⟨(if cap'=l then (⟨gg,off,sp⟩:Addr) else (⟨gg,off,sp⟩:Addr).add (l*i.size)).block,(if cap'=l then (⟨gg,off,sp⟩:Addr) else (⟨gg,off,sp⟩:Addr).add (l*i.size)).off,(if cap'=l then (⟨gg,off,sp⟩:Addr) else (⟨gg,off,sp⟩:Addr).add (l*i.size)).spot⟩:=by
           split<;>rfl
          have hadd:sp=none→((if cap'=l then (⟨gg,off,sp⟩:Addr) else (⟨gg,off,sp⟩:Addr).add (l*i.size))=⟨gg,if cap'=l then off else off+l*i.size,none⟩):=by
           intro e;subst e;split<;>simp[Addr.add_lit]
          rw[hsome]
          refine VE.of_V (.sl _ _ _ _ _ _ _ _ _ _ x1 hi1 (by omega) (by omega) (fun hh=>by simp at hh;have:=hx1 hh;omega) (fun p hp=>?_) (hsp0.imp (fun e=>by rw[hadd e]) fun e=>⟨e.1,by omega⟩))
          rw[hadd (hsp0.elim id (fun h=>by rw[hp] at h;cases h.1))]
          simp only[]
          obtain⟨q1,q2,q3⟩:=hp1 p hp
          refine⟨q1,fun hpos=>?_, ?_⟩
          ·rw[if_neg (by omega),q2 (by omega)];omega
          ·have:l*i.size+(cap' - l)*i.size=cap'*i.size:=by rw[← Nat.add_mul];congr 1;omega
           omega
         | some um=>
          rw[hmx] at bm
          have:=does_slc (m:=m) h hop hu hinf h1 h2 h3 hmh hgx (by omega) (by rw[hmx];exact bm) bh bl c1 c2 (by omega)
          refine Step.same h this ?_
          have hsome:(if m=l then (some (⟨gg,off,sp⟩:Addr)) else (some (⟨gg,off,sp⟩:Addr)).map (·.add (l*i.size)))=some ⟨(if m=l then (⟨gg,off,sp⟩:Addr) else (⟨gg,off,sp⟩:Addr).add (l*i.size)).block,(if m=l then (⟨gg,off,sp⟩:Addr) else (⟨gg,off,sp⟩:Addr).add (l*i.size)).off,(if m=l then (⟨gg,off,sp⟩:Addr) else (⟨gg,off,sp⟩:Addr).add (l*i.size)).spot⟩:=by
           split<;>rfl
          have hadd:sp=none→((if m=l then (⟨gg,off,sp⟩:Addr) else (⟨gg,off,sp⟩:Addr).add (l*i.size))=⟨gg,if m=l then off else off+l*i.size,none⟩):=by
           intro e;subst e;split<;>simp[Addr.add_lit]
          rw[hsome]
          refine VE.of_V (.sl _ _ _ _ _ _ _ _ _ _ x1 hi1 (by omega) ⟨Nat.le_refl _,by omega⟩ (fun _=>rfl) (fun p hp=>?_) (hsp0.imp (fun e=>by rw[hadd e]) fun e=>⟨e.1,by omega⟩))
          rw[hadd (hsp0.elim id (fun h=>by rw[hp] at h;cases h.1))]
          simp only[]
          obtain⟨q1,q2,q3⟩:=hp1 p hp
          refine⟨q1,fun hpos=>?_, ?_⟩
          ·rw[if_neg (by omega),q2 (by omega)];omega
          ·have:l*i.size+(m - l)*i.size=m*i.size:=by rw[← Nat.add_mul];congr 1;omega
           have:m*i.size≤cap'*i.size:=Nat.mul_le_mul_right _ (by omega)
           omega
        ·cases he
       ·cases he
     ·rename_i es z e1
      rw[e1] at g
      generalize hgx:a.eval x=cx at g
      cases g with
      | vs0=>
       split at he
       ·rename_i m r l bm bh bl
        split at he
        ·rename_i hms
         split at he
         ·rename_i hcond
          cases he
          obtain⟨rfl,rfl,rfl⟩:=hcond
          cases hmx:mx'.head? with
          | none=>rw[hmx] at hms;cases hms
          | some um=>
           rw[hmx] at bm
           have:=does_slc (m:=0) (b:=none) h hop hu hinf h1 h2 h3 hmh hgx (Nat.le_refl _) (by rw[hmx];exact bm) bh bl (Nat.le_refl _) (Nat.le_refl _) (Nat.zero_le _)
           exact Step.same h this (VE.of_V (.vs0 _))
         ·cases he
        ·rename_i hms
         split at he
         ·rename_i hcond
          cases he
          have hr0:r=0:=by simpa using hcond.2.1
          subst hr0
          have hl0:l=0:=by have:=hcond.1;omega
          subst hl0
          cases hmx:mx'.head? with
          | some um=>rw[hmx] at hms;simp at hms
          | none=>
           have:=does_slc (m:=0) (b:=none) h hop hu hinf h1 h2 h3 hmh hgx (Nat.le_refl _) (by rw[hmx];rfl) bh bl (Nat.le_refl _) (Nat.le_refl _) (Nat.le_refl _)
           exact Step.same h this (VE.of_V (.vs0 _))
         ·cases he
       ·cases he
      | vs _ _ A cap' sz' cf hsp hl hc' hv' hh1 hz' hcap'=>
       split at he
       ·rename_i m r l bm bh bl
        split at he
        ·rename_i hms
         split at he
         ·rename_i hcond
          cases he
          obtain⟨rfl,rfl,rfl⟩:=hcond
          cases hmx:mx'.head? with
          | none=>rw[hmx] at hms;cases hms
          | some um=>
           rw[hmx] at bm
           have:=does_slc (m:=0) h hop hu hinf h1 h2 h3 hmh hgx hcap'.1 (by rw[hmx];exact bm) bh bl (Nat.le_refl _) (Nat.le_refl _) (Nat.zero_le _)
           refine Step.same h this ?_
           exact VE.of_V (.vs [] true A 0 sz' cf (fun e=>absurd rfl e) (by simp) (by simp) (by simp) (by simp) (fun _=>rfl) ⟨Nat.le_refl _,by omega⟩)
         ·cases he
        ·rename_i hms
         split at he
         ·rename_i hcond
          cases he
          cases hmx:mx'.head? with
          | some um=>rw[hmx] at hms;simp at hms
          | none=>
           have:=does_slc (m:=cap') h hop hu hinf h1 h2 h3 hmh hgx hcap'.1 (by rw[hmx];rfl) bh bl hcond.1 (by omega) (Nat.le_refl _)
           refine Step.same h this ?_
           exact VE.of_V (vs_slice hsp hl hc' hv' hh1 hz' hcap' hcond.1 hcond.2.1 hcond.2.2)
         ·cases he
       ·cases he
     ·rename_i e1
      rw[e1] at g
      have g:=g.inv_nils
      split at he
      ·rename_i bm bh bl
       cases he
       cases hmx:mx'.head? with
       | none=>
        have:=does_slc (m:=0) (b:=none) h hop hu hinf h1 h2 h3 hmh g (Nat.le_refl _) (by rw[hmx];rfl) bh bl (Nat.le_refl _) (Nat.le_refl _) (Nat.le_refl _)
        exact Step.same h this (VE.of_V .nils)
       | some um=>
        rw[hmx] at bm
        have:=does_slc (m:=0) (b:=none) h hop hu hinf h1 h2 h3 hmh g (Nat.le_refl _) (by rw[hmx];exact bm) bh bl (Nat.le_refl _) (Nat.le_refl _) (Nat.le_refl _)
        exact Step.same h this (VE.of_V .nils)
      ·cases he
     ·cases he
    ·cases hc
   ·cases hc
  ·rename_i n el hu
   split at hc
   ·rename_i hcond
    obtain⟨q1,q2,q3,q4,q5⟩:=hcond
    cases hx:cOpd x with
    | none=>rw[hx] at hc;cases hc
    | some x'=>
     rw[hx] at hc
     cases hc
     obtain⟨i,hinf,hsz⟩:=sOf_spec q4
     have g:=h.opd hx
     simp only[aop] at he
     split at he
     ·rename_i es k o' e1
      split at he
      ·rename_i row hrow
       split at he
       ·rename_i hle
        cases he
        rw[e1] at g
        generalize hgx:a.eval x=cx at g
        cases g with
        | vp _ _ _ blk off cf hlt hc hv hh1=>
         rw[List.getElem?_eq_getElem hlt,Option.some.injEq] at hrow
         subst hrow
         refine Step.same h (cv:=.slice (some ⟨blk,off+o',none⟩) n n) (.inl ?_) (VE.of_V ?_)
         ·have e2:lo=none:=by cases lo<;>simp_all
          have e3:hi=none:=by cases hi<;>simp_all
          have e4:mx=none:=by cases mx<;>simp_all
          subst e2 e3 e4
          simp only[execOp,hop,Instr.sliceAt,Sem.run_bind,run_underlying hu,Result.andThen_ok,hgx,Instr.sureAddr,Sem.run_pure,Instr.sliceBounds,Option.map_none,run_sizeOf' hinf]
          simp[Addr.add_lit]
         ·have hlen:(((es[k].drop o').take n).map fun c=>[c]).length=n:=by simp;omega
          have key:=V.vs (w0:=w0) (ι:=ι) (((es[k].drop o').take n).map fun c=>[c]) false ⟨blk,off+o',none⟩ n 1 (fun i _=>cf (o'+i)) (fun _=>rfl) (fun i hi=>by simp) (fun i j hi hj=>by
           rw[hlen] at hi
           have:=hc (o'+i) (by omega)
           have ej:j=0:=by omega
           subst ej
           simpa [Nat.add_assoc] using this) (fun i j hi hj=>by
           rw[hlen] at hi
           have ej:j=0:=by simp at hj;exact hj
           subst ej
           have:=hv (o'+i) (by omega)
           simpa using this) (fun i j hi hj=>by
           rw[hlen] at hi
           exact hh1 (o'+i) (by omega)) (by simp) ⟨by rw[hlen];exact Nat.le_refl _,by omega⟩
          rw[hlen] at key
          exact key
       ·cases he
      ·cases he
     ·rename_i b o' e1
      split at he
      ·rename_i cs hcs
       split at he
       ·rename_i hle
        cases he
        rw[e1] at g
        generalize hgx:a.eval x=cx at g
        cases g with
        | ptr _ _ g1 off x1 hi1 hp1=>
         have hbn:b<H.next:=by
          refine Nat.lt_of_not_le fun hh=>?_
          rw[h.mem.top b hh] at hcs
          cases hcs
         cases x1 with
         | none=>rw[h.mem.alive b hbn hi1] at hcs;cases hcs
         | some p=>
          obtain⟨rfl,rfl⟩:=hp1 p rfl
          have hor:=h.mem.obj b p hbn hi1
          rw[hcs] at hor
          refine Step.same h (cv:=.slice (some ⟨p.blk,p.base+o',none⟩) n n) (.inl ?_) (VE.of_V ?_)
          ·have e2:lo=none:=by cases lo<;>simp_all
           have e3:hi=none:=by cases hi<;>simp_all
           have e4:mx=none:=by cases mx<;>simp_all
           subst e2 e3 e4
           simp only[execOp,hop,Instr.sliceAt,Sem.run_bind,run_underlying hu,Result.andThen_ok,hgx,Instr.sureAddr,Sem.run_pure,Instr.sliceBounds,Option.map_none,run_sizeOf' hinf]
           simp[Addr.add_lit]
          ·refine .sl _ _ _ _ _ _ p.blk _ n none _ hi1 (Nat.le_refl _) ⟨Nat.le_refl _,by omega⟩ (fun _=>rfl) (fun q hq=>?_) (.inl rfl)
           cases hq
           exact⟨rfl,fun _=>rfl,by obtain⟨cc,T0,_,t2,t3,_⟩:=hor;omega⟩
       ·cases he
      ·cases he
     ·cases he
   ·cases hc;simp only[aop] at he;cases he
  ·cases hc
 case fieldAddr t x f=>
  simp only[cOp] at hc
  split at hc
  ·rename_i fs x' hu hx
   split at hc
   ·rename_i fd hfd
    split at hc
    ·rename_i n hn
     split at hc
     ·cases hc
     ·rename_i hne
      cases hc
      obtain⟨i,hi,rfl⟩:=sOf_spec hn
      simp only[aop] at he
      cases hr:addOff fd.offset (e.raw x') with
      | none=>rw[hr] at he;cases he
      | some r=>
       rw[hr] at he
       cases he
       obtain⟨g,off,k1,k2⟩:=addOff_VE (h.opd hx) hr
       exact Step.same h (does_fld hop hu hfd hi hne k1) k2
    ·cases hc
   ·cases hc
  ·cases hc
 case field t x f=>
  simp only[cOp] at hc
  split at hc
  ·rename_i fs x' hu hx
   split at hc
   ·rename_i fd hfd
    have agg:∀ d n,P.underlying fd.type=some d→aggD d=true→sOf P fd.type=some n→mo=.prj fd.offset n true x'→Step P w0 (isStore (.field t x f)) o a ι lam e H w v e' H':=by
     intro d n hd hag hn hmo
     subst hmo
     obtain⟨i,hi,rfl⟩:=sOf_spec hn
     have g:=h.opd hx
     simp only[aop] at he
     split at he
     ·rename_i cs e1
      split at he
      ·rename_i hle
       cases he
       rw[e1] at g
       obtain⟨cc,k1,k2⟩:=g.inv_agg
       refine Step.same h (.inl ?_) (VE.of_V (VC.aggA (c:=cc.extract fd.offset (fd.offset+i.size)) (by rw[extract_toList];exact (k2.drop _).take _)))
       simp only[execOp,hop,Instr.field,k1,asAgg,Sem.run_bind,Sem.run_pure,run_underlying hu,Result.andThen_ok,hfd,run_part_agg hd hag hi]
      ·cases he
     ·cases he
    split at hc
    ·cases hc;exact agg _ _ ‹_› rfl ‹_› rfl
    ·cases hc;exact agg _ _ ‹_› rfl ‹_› rfl
    ·rename_i d n hns hna hd hn
     split at hc
     ·rename_i hn1
      cases hc
      have hag:aggD d=false:=by cases d<;>first|rfl|exact (hns _ rfl).elim|exact (hna _ _ rfl).elim
      have g:=h.opd hx
      simp only[aop] at he
      split at he
      ·rename_i cs e1
       split at he
       ·rename_i hle
        simp only[Bool.false_eq_true,if_false] at he
        cases hcv:cs[fd.offset]? with
        | none=>rw[hcv] at he;cases he
        | some u=>
         rw[hcv] at he
         cases he
         rw[e1] at g
         obtain⟨cc,k1,k2⟩:=g.inv_agg
         obtain⟨c,k3,k4⟩:=k2.1.get? hcv
         refine Step.same h (.inl ?_) (VE.of_V k4)
         simp only[execOp,hop,Instr.field,k1,asAgg,Sem.run_bind,Sem.run_pure,run_underlying hu,Result.andThen_ok,hfd,run_part_one hd hag (cs:=cc) (by simpa using k3)]
       ·cases he
      ·cases he
     ·cases hc
    ·cases hc
   ·cases hc
  ·cases hc
 case indexAddr t x y=>
  simp only[cOp] at hc
  split at hc
  ·rename_i el x' y' hu hx hy
   split at hc
   ·rename_i n hn
    cases hc
    obtain⟨i,hi,rfl⟩:=sOf_spec hn
    have gx:=h.opd hx
    have gy:=h.opd hy
    simp only[aop] at he
    split at he
    ·rename_i b o' sz' len cap ex k m e1 e2
     split at he
     ·rename_i hcond
      cases he
      obtain⟨rfl,h0,hlt⟩:=hcond
      rw[e1] at gx;rw[e2] at gy
      have gy:=gy.inv_int
      generalize hgx:a.eval x=cx at gx
      cases gx with
      | sl _ _ _ _ _ _ gg off cap' sp x1 hi1 hl1 hc1 hx1 hp1 hsp0=>
       obtain rfl:sp=none:=hsp0.elim id (fun h=>by omega)
       refine Step.same h (does_idx hop hu hi hgx gy h0 hlt) (.ptr _ _ _ _ x1 hi1 (fun p hp=>?_))
       obtain⟨q1,q2,q3⟩:=hp1 p hp
       exact⟨q1,by rw[q2 (by omega)];omega⟩
     ·cases he
    ·rename_i es z k m e1 e2
     split at he
     ·rename_i hcond
      cases he
      obtain⟨h0,hlt,hall⟩:=hcond
      rw[e1] at gx;rw[e2] at gy
      have gy:=gy.inv_int
      generalize hgx:a.eval x=cx at gx
      cases gx with
      | vs0=>simp at hlt;omega
      | vs _ _ A cap' sz' cf hsp hl hc' hv' hh1 hz' hcap'=>
       have hm:m.toNat<es.length:=by omega
       have hsp:=hsp (fun e=>by rw[e] at hm;simp at hm)
       obtain⟨blk,off,spot⟩:=A
       simp only at hsp
       subst hsp
       have hszi:es[m.toNat].length=i.size:=by simpa using List.all_eq_true.1 hall es[m.toNat] (List.getElem_mem hm)
       have hszz:=hl m.toNat hm
       have e3:sz'=i.size:=by omega
       subst e3
       refine Step.same h (does_idx hop hu hi hgx gy h0 hlt) (VE.of_V ?_)
       exact V.vp es m.toNat 0 blk (off+m.toNat*i.size) (cf m.toNat) hm (fun j hj=>hc' m.toNat j hm (by omega)) (fun j hj=>hv' m.toNat j hm hj) (fun j hj=>hh1 m.toNat j hm (by omega))
     ·cases he
    ·cases he
   ·cases hc
  ·rename_i len el x' y' hu hx hy
   split at hc
   ·rename_i n hn
    cases hc
    obtain⟨i,hi,rfl⟩:=sOf_spec hn
    have gy:=h.opd hy
    simp only[aop] at he
    split at he
    ·rename_i k m e2
     split at he
     ·rename_i hcond
      rw[e2] at gy
      have gy:=gy.inv_int
      cases hr:addOff (m.toNat*i.size) (e.raw x') with
      | none=>rw[hr] at he;cases he
      | some r=>
       rw[hr] at he
       cases he
       obtain⟨g,off,k1,k2⟩:=addOff_VE (h.opd hx) hr
       exact Step.same h (does_idxa hop hu hi k1 gy hcond.1 hcond.2) k2
     ·cases he
    ·cases he
   ·cases hc
  ·cases hc
 case index t x y=>
  simp only[cOp] at hc
  split at hc
  ·rename_i len el x' y' hu hx hy
   have gx:=h.opd hx
   have gy:=h.opd hy
   split at hc
   ·cases hc;exact step_ixa_agg h hop hu ‹_› rfl ‹_› hx hy he
   ·cases hc;exact step_ixa_agg h hop hu ‹_› rfl ‹_› hx hy he
   ·rename_i d n hns hna hd hn
    split at hc
    ·cases hc
     have hag:aggD d=false:=by cases d<;>first|rfl|exact (hns _ rfl).elim|exact (hna _ _ rfl).elim
     exact step_ixa_one h hop hu hd hag hn hx hy he
    ·cases hc
   ·cases hc
  ·cases hc
 case extract x k=>
  simp only[cOp] at hc
  cases hx:cOpd x with
  | none=>rw[hx] at hc;cases hc
  | some y=>
   rw[hx] at hc
   cases hc
   have g:=h.opd hx
   simp only[aop] at he
   split at he
   ·rename_i vs e1
    cases hcv:vs[k]? with
    | none=>rw[hcv] at he;cases he
    | some u=>
     rw[hcv] at he
     cases he
     rw[e1] at g
     obtain⟨cc,k1,k2⟩:=g.inv_tup
     obtain⟨c,k3,k4⟩:=k2.get? hcv
     refine Step.same h (.inl ?_) (VE.of_V k4)
     have k3':cc[k]? = some c:=by simpa using k3
     simp[execOp,hop,Instr.extract,k1,k3']
   ·cases he
 case call c=>
  simp only[cOp] at hc
  split at hc
  ·rename_i f hf'
   split at hc
   ·cases hc;exact absurd rfl (hnc _ _ _)
   ·cases hc
  ·rename_i hb
   split at hc
   ·rename_i t x' hu0 hx0
    obtain⟨x,hargs,hx⟩:=args_one hx0
    have g:=h.opd hx
    split at hc
    ·rename_i el hu
     cases hc
     simp only[aop] at he
     split at he
     ·rename_i e1
      cases he
      rw[e1] at g
      have g:=g.inv_nils
      exact Step.same h (does_len (n:=0) hop hb hu0 hargs (by rw[g];simp[Builtin.len_,hu0,run_underlying hu])) (VE.of_V (.int _ _))
     ·rename_i e1
      cases he
      rw[e1] at g
      generalize hgx:a.eval x=cx at g
      cases g with
      | sl _ _ _ _ _ _ gg off cap' sp x1 hi1 hl1 hc1 hx1 hp1 hsp0=>
       exact Step.same h (does_len hop hb hu0 hargs (by rw[hgx];simp[Builtin.len_,hu0,run_underlying hu])) (VE.of_V (.int _ _))
     ·rename_i e1
      cases he
      rw[e1] at g
      generalize hgx:a.eval x=cx at g
      cases g with
      | vs0=>exact Step.same h (does_len (n:=0) hop hb hu0 hargs (by rw[hgx];simp[Builtin.len_,hu0,run_underlying hu])) (VE.of_V (.int _ _))
      | vs _ _ A cap' sz' cf hsp hl hc' hv' hh1 hz' hcap'=>
       exact Step.same h (does_len hop hb hu0 hargs (by rw[hgx];simp[Builtin.len_,hu0,run_underlying hu])) (VE.of_V (.int _ _))
     ·cases he
    ·rename_i hu
     cases hc
     simp only[aop] at he
     split at he
     ·rename_i s e1
      cases he
      rw[e1] at g
      have g:=g.V rfl
      generalize hgx:a.eval x=cx at g
      cases g with
      | str bs=>
       exact Step.same h (does_len (n:=bs.data.toList.length) hop hb hu0 hargs (by rw[hgx];simp[Builtin.len_,hu0,run_underlying hu])) (VE.of_V (.int _ _))
     ·cases he
    ·rename_i n el hu
     cases hc
     simp only[aop] at he
     cases he
     exact Step.same h (does_len hop hb hu0 hargs (by simp[Builtin.len_,hu0,run_underlying hu])) (VE.of_V (.int _ _))
    ·cases hc
   ·cases hc
  ·rename_i hb
   split at hc
   ·rename_i t u x' y' ht0 hu0 hxs
    split at hc
    ·rename_i el hu
     split at hc
     ·rename_i i z hi hz
      split at hc
      ·rename_i hcond
       cases hc
       obtain⟨rfl,hsz,hpos,hzl,hby⟩:=hcond
       obtain⟨i',zv,hi',hzz,hm⟩:=zeroOf_spec hz
       rw[hi] at hi'
       cases hi'
       have hlz:=mapO_length hm
       simp only[Array.length_toList] at hlz
       obtain⟨x,y,hargs,hx,hy⟩:=args_two hxs
       have htt:c.argTypes=#[t,t]:=by
        apply Array.ext_getElem?
        intro k
        match k with
        | 0=>simpa using ht0
        | 1=>simpa using hu0
        | k+2=>rw[Array.getElem?_eq_none (by omega)];simp
       simp only[aop] at he
       cases hr:appA H i.size i.bytes q (e.raw x') (e.raw y') with
       | none=>rw[hr] at he;cases he
       | some r=>
        rw[hr] at he
        cases he
        exact step_append h hop hb htt hargs hu hi hzz (by omega) hpos hby hx hy hr hf
      ·cases hc
     ·cases hc
    ·cases hc
   ·cases hc
  ·rename_i hb
   split at hc
   ·rename_i x' y' hxs
    cases hc
    obtain⟨x,y,hargs,hx,hy⟩:=args_two hxs
    simp only[aop] at he
    split at he
    ·rename_i k m k2 m2 e1 e2
     cases he
     have gx:=h.opd hx
     have gy:=h.opd hy
     rw[e1] at gx;rw[e2] at gy
     have gx:=gx.inv_int
     have gy:=gy.inv_int
     obtain⟨cn,e⟩:=exec_builtin (a:=a) (P:=P) hop hb w
     refine Step.same h (cv:=.int k (if m2<m then m2 else m)) (.inl ?_) (VE.of_V (.int _ _))
     rw[e,hargs]
     simp[builtin,Builtin.min_,Builtin.min2,gx,gy]
    ·cases he
   ·cases hc
  ·rename_i hb
   split at hc
   ·rename_i t x' hu0 hx0
    obtain⟨x,hargs,hx⟩:=args_one hx0
    have g:=h.opd hx
    split at hc
    ·rename_i el hu
     cases hc
     simp only[aop] at he
     split at he
     ·rename_i e1
      cases he
      rw[e1] at g
      have g:=g.inv_nils
      obtain⟨cn,e⟩:=exec_builtin (a:=a) (P:=P) hop hb w
      refine Step.same h (cv:=.int .i64 0) (.inl ?_) (VE.of_V (.int _ _))
      rw[e,hargs]
      simp[builtin,Builtin.cap_,hu0,run_underlying hu,g,goInt]
     ·cases he
    ·cases hc
   ·cases hc
  ·cases hc
 case makeInterface=>
  simp only[cOp] at hc
  cases hc
  simp only[aop] at he
  cases he
 case panic=>
  simp only[cOp] at hc
  cases hc
  simp only[aop] at he
  cases he
 case makeMap t r=>
  cases r with
  | some r=>simp only[cOp] at hc;cases hc
  | none=>
   simp only[cOp] at hc
   cases hc
   simp only[aop] at he
   cases he
   have key:=h.mem.allocMap (hf _ (Nat.le_refl _) (Nat.lt_succ_self _))
   exact⟨_,_,lam,_,.inl (by simp[execOp,hop,Instr.makeMap]),VE.of_V (.mp H.next w.heap.size _ (by simp[Io.set];rfl) (fun p hp=>by cases hp;rfl)),key.1,key.2.mono (fun f=>f.elim),rfl⟩
 case mapUpdate t x y z=>
  simp only[cOp] at hc
  have hc':=hc
  unfold cIns at hc'
  split at hc'
  ·split at hc'
   ·cases hc';exact (step_mset h (.inl hop) hc he).mono (fun f=>f.elim)
   ·cases hc'
  ·cases hc'
 case insert t x y z=>
  simp only[cOp] at hc
  have hc':=hc
  unfold cIns at hc'
  split at hc'
  ·split at hc'
   ·cases hc';exact (step_mset h (.inr hop) hc he).mono (fun f=>f.elim)
   ·cases hc'
  ·cases hc'
 case lookup t x y ok=>
  cases ok with
  | false=>simp only[cOp] at hc;cases hc
  | true=>
   simp only[cOp] at hc
   split at hc
   ·rename_i kt et m k hu hm hk
    split at hc
    ·rename_i ik z hki hz
     cases hc
     simp only[aop] at he
     split at he
     ·rename_i r kk n e1 e2
      split at he
      ·rename_i es hg
       have g1:=h.opd hm
       have g2:=h.opd hk
       rw[e1] at g1
       rw[e2] at g2
       obtain⟨p,es',cl,hi,hlt,hx,hb,hl,hrel⟩:=map_of h g1 hg
       have hy:=VE.inv_int g2
       split at he
       ·rename_i u hkey
        cases he
        obtain⟨j,c,f1,f2⟩:=(findNow_rel (ik:=ik) es es'.toList (by simpa using hl) (fun i hi=>by rw[toList_bang];exact hrel i hi) _ hkey 0).2 u rfl
        refine Step.same h (cv:=.tuple #[c,.bool true]) (.inl ?_) (VE.of_V (.tup _ _ rfl (fun i hi=>?_)))
        ·simp only[execOp,hop,hx,hy,Instr.lookup,Sem.run_bind,run_underlying hu,Result.andThen_ok,run_getMap hb,run_checkKey hki,run_findKey hki f1,Sem.run_pure];rfl
        ·match i,hi with
         | 0,_=>exact f2
         | 1,_=>exact .bool true
       ·rename_i hkey
        cases he
        have f1:=(findNow_rel (ik:=ik) es es'.toList (by simpa using hl) (fun i hi=>by rw[toList_bang];exact hrel i hi) none hkey 0).1 rfl
        cases hin:P.info? et with
        | none=>rw[hin] at hz;cases hz
        | some ti=>
         rw[hin] at hz
         cases hzz:ti.zero with
         | none=>simp only[Option.bind_some,hzz] at hz;cases hz
         | some zv=>
          simp only[Option.bind_some,hzz] at hz
          refine Step.same h (cv:=.tuple #[zv,.bool false]) (.inl ?_) (VE.of_V (.tup _ _ rfl (fun i hi=>?_)))
          ·simp only[execOp,hop,hx,hy,Instr.lookup,Sem.run_bind,run_underlying hu,Result.andThen_ok,run_getMap hb,run_checkKey hki,run_findKey hki f1,run_zeroValue' hin hzz,Sem.run_pure];rfl
          ·match i,hi with
           | 0,_=>exact (ofV_V hz).1
           | 1,_=>exact .bool false
       ·cases he
      ·cases he
     ·cases he
    ·cases hc
   ·cases hc
 all_goals (simp only[cOp] at hc;cases hc)

end
end Go.Ab
