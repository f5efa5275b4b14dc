import GoSem.Core.View
import Derived.Calls
import Derived.Laws.Sem
import Derived.Laws.World
import GoSem.Core.Program
import GoSem.Core.Layout
import GoSem.Op.Equal
import Derived.Laws.Cells
import Derived.Laws.Append
import Derived.Laws.Tables
import Derived.Laws.BytesString
set_option linter.unusedVariables false
set_option linter.unusedSimpArgs false
set_option linter.defProp false
noncomputable section
namespace Go.Vm
set_option maxRecDepth 100000
inductive D where
 | int (k:IntKind) (n:Int)
 | bool (b:Bool)
 | str (s:List UInt8)
 | lst (xs:List (List D))
 deriving Inhabited
inductive AV where
 | junk
 | d (x:D)
 | nl
 | own (p:Bool) (m:Nat) (xs:List (List D))
 | gl (n:Nat)
 | agg (cs:List AV)
 | tup (vs:List AV)
 | nilp
 | ptr (id off:Nat)
 | pel (id i off:Nat)
 | pim (cs:List D) (off:Nat)
 | sl (id off len:Nat)
 | fn (f:FuncId) (first caps:List AV)
 | nilf
 | yield (l:Nat)
 deriving Inhabited
abbrev AV.int (k:IntKind) (n:Int):AV:=.d (.int k n)
abbrev AV.bool (b:Bool):AV:=.d (.bool b)
inductive Rd where
 | s (i:Nat)
 | m (i:Nat)
 | c (v:AV)
 deriving Inhabited
inductive jN where
 | mov (x:Rd)
 | pick (c a b:Rd)
 | alloc (zs:List AV)
 | box (x:Rd)
 | build (zs:List AV) (ps:List (Nat×Nat×Rd))
 | mks (m:Nat) (ps:List Rd)
 | mksv (m:Nat) (ps:List Rd)
 | ld (n:Option Nat) (take:Nat) (p:Rd)
 | st (n:Nat) (p x:Rd)
 | nilck (x:Rd)
 | bin (op:BinOp) (x y:Rd)
 | binb (neg:Bool) (x y:Rd)
 | bina (neg:Bool) (ks:List Bool) (x y:Rd)
 | un (op:UnOp) (x:Rd)
 | conv (k:IntKind) (x:Rd)
 | toStr (x:Rd)
 | mkfn (f:FuncId) (first caps:List Rd)
 | mkslice (z:List D) (len cap:Rd)
 | slice (m:Nat) (x:Rd) (lo hi mx:Option Rd)
 | slarr (n:Nat) (x:Rd) (lo hi mx:Option Rd)
 | fa (off:Nat) (p:Rd)
 | fld (off:Nat) (n:Option Nat) (x:Rd)
 | ia (n:Nat) (x i:Rd)
 | iarr (len n:Nat) (p i:Rd)
 | ix (len n:Nat) (agg:Bool) (x i:Rd)
 | ixs (x i:Rd)
 | idxb (x c:Rd)
 | ext (j:Nat) (mv:Bool) (i:Nat)
 | len (x:Rd)
 | cap (x:Rd)
 | app (m:Nat) (x y:Rd)
 | appz (z:List D) (x n:Rd)
 | cpy (m:Nat) (x y:Rd)
 | clr (z:List D) (x:Rd)
 | minmax (isMax:Bool) (xs:List Rd)
 | call (f:FuncId) (args:List Rd)
 | calli (f:FuncId) (args:List Rd)
 | callv (f:Rd) (args:List Rd)
 | bad
 | kill (is:List Nat)
 | free (i:Nat)
 | wk (i m:Nat)
 | frz (i:Nat)
 | frzC (i:Nat) (offs:List Nat)
 deriving Inhabited
structure VI where
 dst:Option Nat
 guard:Option (Nat×Bool)
 op:jN
 th:List (Nat×Nat):=[]
 deriving Inhabited
inductive VC where
 | skip
 | reg (draw:Bool) (ops:List VI)
 | regP (perm gco nr:List Nat) (ops:List VI)
 | seq (a b:VC)
 | cond (c:Rd) (a b:VC)
 | block (id:Nat) (a:VC)
 | loop (a:VC)
 | rangeF (f:Rd) (params:List Nat) (assign body:VC)
 | exit (id:Nat)
 | scope (a:VC)
 | inScope (a cur:VC)
 | label (l:Nat)
 | goto (l:Nat)
 | ret
 | clone (m:Nat)
 | late (i d f:Nat) (a:VC)
 deriving Inhabited
inductive mr where
 | tmp (t:Nat)
 | cell (t:Nat) (n:Option Nat)
 deriving Inhabited
structure aa where
 nparams:Nat
 results:List mr
 body:VC
 deriving Inhabited
abbrev aq:=List (Nat×AV)
inductive aY where
 | normal
 | exit (id:Nat)
 | goto (l:Nat)
 | ret
 deriving Inhabited,DecidableEq
inductive Obj where
 | cells (cs:List AV)
 | arr (m:Nat) (xs:List (List D))
 | loop (snap:aq) (params:List Nat) (assign body:VC) (busy:Bool) (pend:Option aY)
 deriving Inhabited
abbrev af:=List (Nat×Obj)
structure HS where
 heap:af
 next:Nat
 deriving Inhabited
structure St where
 env:aq
 hs:HS
 deriving Inhabited
abbrev zQ (a b:Nat):Prop:=a<b
abbrev T5 (a b:Nat):Prop:=a≤b
abbrev Xj (a b:Nat):Bool:=Nat.ble a b
theorem akM {a b:Nat}(h:T5 a b):Xj a b=true:=by simp_all
theorem an2 {a b:Nat}(h:¬ T5 a b):Xj a b=false:=by grind [Nat.ble_eq]
def avX {α:Type}:List (Nat×α)→Nat→Option α
 | [],_=>none
 | (k,v)::r,i=>match Nat.beq k i with
  | true=>some v
  | false=>avX r i
def get {α:Type}(l:List (Nat×α)) (i:Nat):Option α :=
 List.rec (motive:=fun _=>Option α) none (fun p _ ih=>Prod.rec (motive:=fun _=>Option α) (fun k v=>Bool.rec (motive:=fun _=>Option α) ih (some v) (Nat.beq k i)) p) l
def awi {α:Type}:List (Nat×α)→Nat→α→List (Nat×α)
 | [],i,x=>[(i,x)]
 | (k,v)::r,i,x=>match Nat.beq k i with
  | true=>(i,x)::r
  | false=>match Xj i k with
   | true=>(i,x)::(k,v)::r
   | false=>(k,v)::awi r i x
def put {α:Type}(l:List (Nat×α)) (i:Nat) (x:α):List (Nat×α) :=
 List.rec (motive:=fun _=>List (Nat×α)) [(i,x)] (fun p r ih=>Prod.rec (motive:=fun _=>List (Nat×α)) (fun k v=>Bool.rec (motive:=fun _=>List (Nat×α)) (Bool.rec (motive:=fun _=>List (Nat×α)) ((k,v)::ih) ((i,x)::(k,v)::r) (Xj i k)) ((i,x)::r) (Nat.beq k i)) p) l
def aqP {α:Type}:List (Nat×α)→Nat→List (Nat×α)
 | [],_=>[]
 | (k,v)::r,i=>match Nat.beq k i with
  | true=>aqP r i
  | false=>(k,v)::aqP r i
def del {α:Type}(l:List (Nat×α)) (i:Nat):List (Nat×α) :=
 List.rec (motive:=fun _=>List (Nat×α)) [] (fun p _ ih=>Prod.rec (motive:=fun _=>List (Nat×α)) (fun k v=>Bool.rec (motive:=fun _=>List (Nat×α)) ((k,v)::ih) ih (Nat.beq k i)) p) l
section
variable {α:Type}
theorem tH (i:Nat):get ([]:List (Nat×α)) i=none:=rfl
theorem Tw (i:Nat) (x:α):put [] i x=[(i,x)]:=rfl
theorem TQ (i:Nat):del ([]:List (Nat×α)) i=[]:=rfl
theorem awU {k i:Nat}(h:k=i):Nat.beq k i=true:=by simp_all
theorem Rj {k i:Nat}(h:¬ k=i):Nat.beq k i=false:=by grind [Nat.beq_eq]
theorem dC (k:Nat) (v:α) (r:List (Nat×α)) (i:Nat):get ((k,v)::r) i=if k=i then some v else get r i:=by
 show Bool.rec (motive:=fun _=>Option α) (get r i) (some v) (Nat.beq k i)=_;by_cases h:k=i
 all_goals simp_all [Rj]
theorem jf (k:Nat) (v:α) (r:List (Nat×α)) (i:Nat):del ((k,v)::r) i=if k=i then del r i else (k,v)::del r i:=by
 show Bool.rec (motive:=fun _=>List (Nat×α)) ((k,v)::del r i) (del r i) (Nat.beq k i)=_;by_cases h:k=i
 all_goals simp_all [Rj]
theorem nk (k:Nat) (v:α) (r:List (Nat×α)) (i:Nat) (x:α) :
  put ((k,v)::r) i x=if k=i then (i,x)::r else if T5 i k then (i,x)::(k,v)::r else (k,v)::put r i x:=by
 show Bool.rec (motive:=fun _=>List (Nat×α)) (Bool.rec (motive:=fun _=>List (Nat×α)) ((k,v)::put r i x) ((i,x)::(k,v)::r) (Xj i k)) ((i,x)::r) (Nat.beq k i)=_;by_cases h:k=i
 ·simp_all
 ·rw[if_neg h,Rj h];by_cases h2:T5 i k
  all_goals simp_all [akM,an2]
end
mutual
def aie:AV→AV
 | .own p _ xs=>match p with
  | false=>.d (.lst xs)
  | true=>.junk
 | .agg cs=>.agg (shareAll cs)
 | .tup cs=>.tup (shareAll cs)
 | v=>v
def shareAll:List AV→List AV
 | []=>[]
 | v::r=>aie v::shareAll r
end
def share (v:AV):AV:=AV.casesOn (motive_1:=fun _=>AV) v .junk (fun x=>.d x) .nl (fun p _ xs=>Bool.casesOn (motive:=fun _=>AV) p (.d (.lst xs)) .junk) (fun n=>.gl n) (fun cs=>.agg (shareAll cs)) (fun cs=>.tup (shareAll cs))
 .nilp (fun a b=>.ptr a b) (fun a b c=>.pel a b c) (fun a b=>.pim a b) (fun a b c=>.sl a b c) (fun a b c=>.fn a b c) .nilf (fun a=>.yield a)
theorem ahH (v:AV):aie v=share v:=by
 cases v<;>try rfl
 rename_i p _ _
 cases p<;>rfl
theorem aaa:shareAll []=[]:=rfl
theorem kE (v:AV) (r:List AV):shareAll (v::r)=share v::shareAll r:=by grind [shareAll,ahH]
def rd (e:aq):Rd→Option (AV×aq)
 | .c v=>some (v,e)
 | .m i=>match get e i with
  | some v=>some (v,del e i)
  | none=>none
 | .s i=>match get e i with
  | some v=>some (share v,e)
  | none=>none
def rdAll (e:aq):List Rd→Option (List AV×aq)
 | []=>some ([],e)
 | x::r=>match rd e x with
  | none=>none
  | some (v,e)=>match rdAll e r with
   | none=>none
   | some (vs,e)=>some (v::vs,e)
def rdOpt (e:aq):Option Rd→Option (Option AV×aq)
 | none=>some (none,e)
 | some x=>match rd e x with
  | some (v,e)=>some (some v,e)
  | none=>none
def sub {α:Type}(xs:List α) (off len:Nat):List α:=(xs.drop off).take len
def ai {α:Type}(cs:List α) (off:Nat) (vs:List α):List α:=cs.take off++vs++cs.drop (off+vs.length)
def Dw:List D→List (List D)
 | []=>[]
 | x::r=>[x]::Dw r
def toD:AV→Option D
 | .d x=>some x
 | .nl=>some (.lst [])
 | .own false _ xs=>some (.lst xs)
 | _=>none
def iy:List AV→Option (List D)
 | []=>some []
 | v::r=>match toD v with
  | some x=>match iy r with
   | some xs=>some (x::xs)
   | none=>none
  | none=>none
def AV.cells:AV→List AV
 | .agg cs=>cs
 | v=>[v]
def objElems (h:af) (id:Nat):Option (List (List D)) :=
 match get h id with
 | some (.arr _ xs)=>some xs
 | some (.cells cs)=>match iy cs with
  | some ds=>some (Dw ds)
  | none=>none
 | _=>none
def elems (h:af):AV→Option (List (List D))
 | .d (.lst xs)=>some xs
 | .nl=>some []
 | .own false _ xs=>some xs
 | .sl id off len=>match objElems h id with
  | some xs=>match Nat.ble (off+len) xs.length with
   | true=>some (sub xs off len)
   | false=>none
  | none=>none
 | _=>none
def lenOf:AV→Option Nat
 | .d (.lst xs)=>some xs.length
 | .nl=>some 0
 | .own _ _ xs=>some xs.length
 | .gl n=>some n
 | .sl _ _ len=>some len
 | _=>none
def viewOne (h:af):AV→Option AV
 | .d x=>some (.d x)
 | .nl=>some .nl
 | .own false _ xs=>some (.d (.lst xs))
 | .sl id off len=>match elems h (.sl id off len) with
  | some xs=>some (.d (.lst xs))
  | none=>none
 | _=>none
def viewAll (h:af):List AV→Option (List AV)
 | []=>some []
 | v::r=>match viewOne h v with
  | none=>none
  | some x=>match viewAll h r with
   | none=>none
   | some xs=>some (x::xs)
def viewArg (h:af):AV→Option AV
 | .agg cs=>match viewAll h cs with
  | some xs=>some (.agg xs)
  | none=>none
 | v=>viewOne h v
def viewArgs (h:af):List AV→Option (List AV)
 | []=>some []
 | v::r=>match viewArg h v with
  | none=>none
  | some x=>match viewArgs h r with
   | none=>none
   | some xs=>some (x::xs)
def oA:AV→Bool
 | .sl ..=>true
 | _=>false
def lM:AV→Bool
 | .agg cs=>cs.any oA
 | v=>oA v
def fD (h:af):AV→Option (AV×af)
 | .d x=>some (.d x,h)
 | .nl=>some (.nl,h)
 | .own p m xs=>some (.own p m xs,h)
 | .sl id off len=>match get h id with
  | some (.arr m xs)=>match Nat.ble (off+len) xs.length with
   | true=>some (.own true m (sub xs off len),del h id)
   | false=>none
  | _=>none
 | _=>none
def mh (h:af):List AV→Option (List AV×af)
 | []=>some ([],h)
 | v::r=>match fD h v with
  | none=>none
  | some (x,h)=>match mh h r with
   | none=>none
   | some (xs,h)=>some (x::xs,h)
def c5 (h:af):AV→Option (AV×af)
 | .agg cs=>match mh h cs with
  | some (xs,h)=>some (.agg xs,h)
  | none=>none
 | v=>fD h v
def mg (h:af):List AV→Option (List AV×af)
 | []=>some ([],h)
 | v::r=>match c5 h v with
  | none=>none
  | some (x,h)=>match mg h r with
   | none=>none
   | some (xs,h)=>some (x::xs,h)
def gD:D→Bool
 | .lst _=>false
 | _=>true
def eK:AV→Bool
 | .d x=>gD x
 | .own _ _ xs=>xs.all fun e=>e.all gD
 | _=>true
def gK:AV→Bool
 | .agg cs=>cs.all eK
 | v=>eK v
def fp:AV→Bool
 | .tup vs=>vs.all gK
 | v=>gK v
def ji:AV→AV
 | .own _ m xs=>.own true m xs
 | v=>v
def kM:AV→AV
 | .agg cs=>.agg (cs.map ji)
 | v=>ji v
def kX:AV→AV
 | .tup vs=>.tup (vs.map kM)
 | v=>kM v
def ed (v:AV):AV :=
 match fp v with
 | true=>kX v
 | false=>v
def dF (h:af):AV→Option AV
 | .tup vs=>match mg h vs with
  | some (xs,_)=>some (ed (.tup xs))
  | none=>none
 | v=>match c5 h v with
  | some (x,_)=>some (ed x)
  | none=>none
def jY (n:Option Nat) (cs:List D) (off:Nat):Option AV :=
 match n with
 | none=>match cs[off]? with
  | some x=>some (.d x)
  | none=>none
 | some n=>match Nat.ble (off+n) cs.length with
  | true=>some (.agg ((sub cs off n).map .d))
  | false=>none
def lH (t:Nat) (v:AV):AV×AV :=
 match t with
 | 1=>(v,.junk)
 | 2=>(v,share v)
 | 3=>(v,match v with | .own _ _ xs=>.gl xs.length | v=>share v)
 | _=>(share v,v)
def cW (t:Nat):List AV→List AV×List AV
 | []=>([],[])
 | v::r=>((lH t v).1::(cW t r).1,(lH t v).2::(cW t r).2)
def loadAt (h:af) (n:Option Nat) (take:Nat):AV→Option (AV×af)
 | .ptr id off=>match get h id with
  | some (.cells cs)=>match n with
   | none=>match cs[off]? with
    | none=>none
    | some v=>match take with
     | 0=>some (share v,h)
     | t=>some ((lH t v).1,put h id (.cells (cs.set off (lH t v).2)))
   | some n=>match Nat.ble (off+n) cs.length with
    | true=>match take with
     | 0=>some (.agg (shareAll (sub cs off n)),h)
     | t=>some (.agg (cW t (sub cs off n)).1,put h id (.cells (ai cs off (cW t (sub cs off n)).2)))
    | false=>none
  | _=>none
 | .pel id i off=>match get h id with
  | some (.arr _ xs)=>match xs[i]? with
   | some x=>match jY n x off with
    | some v=>some (v,h)
    | none=>none
   | none=>none
  | _=>none
 | .pim cs off=>match jY n cs off with
  | some v=>some (v,h)
  | none=>none
 | _=>none
def aV:AV→Bool
 | .junk | .agg _ | .tup _=>false
 | .own p _ _=>!p
 | _=>true
def storeAt (h:af) (n:Nat) (p x:AV):Option af :=
 match Nat.beq x.cells.length n with
 | false=>none
 | true=>match p with
  | .ptr id off=>match get h id with
   | some (.cells cs)=>match Nat.ble (off+n) cs.length && x.cells.all aV with
    | true=>some (put h id (.cells (ai cs off x.cells)))
    | false=>none
   | _=>none
  | .pel id i off=>match iy x.cells with
   | none=>none
   | some ds=>match get h id with
    | some (.arr m xs)=>match xs[i]? with
     | some e=>match Nat.ble (off+n) e.length with
      | true=>some (put h id (.arr m (xs.set i (ai e off ds))))
      | false=>none
     | none=>none
    | _=>none
  | _=>none
def fZ (off:Nat):AV→Option AV
 | .ptr id o=>some (.ptr id (o+off))
 | .pel id i o=>some (.pel id i (o+off))
 | .pim cs o=>some (.pim cs (o+off))
 | _=>none
def kK (lo hi:Int) (k:IntKind) (n:Int):Int :=
 match decide (lo≤n) && decide (n≤hi) with
 | true=>n
 | false=>k.wrap n
def wr (k:IntKind) (n:Int):Int :=
 match k with
 | .i64=>kK (-9223372036854775808) 9223372036854775807 k n
 | .u8=>kK 0 255 k n
 | .u64=>kK 0 18446744073709551615 k n
 | .u16=>kK 0 65535 k n
 | .u32=>kK 0 4294967295 k n
 | k=>k.wrap n
def AI (op:BinOp) (k:IntKind) (x y:Int):Option D :=
 match decide (y<0) with
 | true=>none
 | false=>match op with
  | .shl=>some (.int k (wr k (x*((2 ^ (min y.toNat k.bits):Nat):Int))))
  | .shr=>some (.int k (x.fdiv ((2 ^ (min y.toNat k.bits):Nat):Int)))
  | _=>none
def BZ (op:BinOp) (k:IntKind) (x y:Int):Option D :=
 let slow (f:BitVec k.bits→BitVec k.bits→BitVec k.bits):Option D:=some (.int k (k.wrap (f (BitVec.ofInt k.bits x) (BitVec.ofInt k.bits y)).toNat))
 match op with
 | .and=>slow (·&&& ·)
 | .or=>slow (·||| ·)
 | .xor=>slow (·^^^ ·)
 | .andNot=>slow fun a b=>a &&& ~~~b
 | _=>none
def fH (op:BinOp) (k:IntKind) (x y:Int):Option D :=
 match op with
 | .add=>some (.int k (wr k (x+y)))
 | .sub=>some (.int k (wr k (x-y)))
 | .mul=>some (.int k (wr k (x*y)))
 | .quo=>match decide (y=0) with
  | true=>none
  | false=>some (.int k (wr k (x.tdiv y)))
 | .rem=>match decide (y=0) with
  | true=>none
  | false=>some (.int k (x.tmod y))
 | .eql=>some (.bool (decide (x=y)))
 | .neq=>some (.bool (!decide (x=y)))
 | .lss=>some (.bool (decide (x<y)))
 | .leq=>some (.bool (decide (x≤y)))
 | .gtr=>some (.bool (decide (y<x)))
 | .geq=>some (.bool (decide (y≤x)))
 | .shl=>none
 | .shr=>none
 | op=>BZ op k x y
def jS:IntKind→IntKind→Bool
 | .i8,.i8 | .i16,.i16 | .i32,.i32 | .i64,.i64 | .u8,.u8 | .u16,.u16 | .u32,.u32 | .u64,.u64=>true
 | _,_=>false
def aB:List Bool→List AV→List AV→Option Bool
 | [],[],[]=>some true
 | true::ks,.d (.int k a)::r,.d (.int j b)::s=>match jS k j with
  | true=>match decide (a=b) with
   | true=>aB ks r s
   | false=>some false
  | false=>none
 | false::ks,.d (.bool a)::r,.d (.bool b)::s=>match a == b with
  | true=>aB ks r s
  | false=>some false
 | _,_,_=>none
def oO (op:BinOp) (k:IntKind) (a:Int) (j:IntKind) (b:Int):Option D :=
 match op with
 | .shl=>AI .shl k a b
 | .shr=>AI .shr k a b
 | op=>match jS k j with
  | true=>fH op k a b
  | false=>none
def bH (op:BinOp):AV→AV→Option AV
 | .d (.int k a),.d (.int j b)=>match oO op k a j b with
  | some x=>some (.d x)
  | none=>none
 | .d (.str a),.d (.str b)=>match op with
  | .eql=>some (.bool (a == b))
  | .neq=>some (.bool (!(a == b)))
  | .add=>match Nat.ble (a.length+b.length) 4294967296 with
   | true=>some (.d (.str (a++b)))
   | false=>none
  | _=>none
 | _,_=>none
def aiQ (a b:Int):Int:=Int.casesOn (motive:=fun _=>Int→Int) a (fun m b=>Int.casesOn (motive:=fun _=>Int) b (fun n=>.ofNat (Nat.add m n)) (fun n=>Int.subNatNat m (Nat.succ n)))
 (fun m b=>Int.casesOn (motive:=fun _=>Int) b (fun n=>Int.subNatNat n (Nat.succ m)) (fun n=>.negSucc (Nat.succ (Nat.add m n)))) b
def ajQ (a b:Int):Int:=Int.casesOn (motive:=fun _=>Int→Int) a (fun m b=>Int.casesOn (motive:=fun _=>Int) b (fun n=>Bool.casesOn (motive:=fun _=>Int) (Nat.ble n m) (Int.ofNat m-Int.ofNat n) (.ofNat (Nat.sub m n))) (fun n=>.ofNat (Nat.add m (Nat.succ n))))
 (fun m b=>Int.negSucc m-b) b
def ajh (a b:Int):Int:=Int.casesOn (motive:=fun _=>Int→Int) a (fun m b=>Int.casesOn (motive:=fun _=>Int) b (fun n=>.ofNat (Nat.mul m n)) (fun n=>Int.ofNat m*Int.negSucc n))
 (fun m b=>Int.negSucc m*b) b
def Qv (a b:Int):Bool:=Int.casesOn (motive:=fun _=>Int→Bool) a (fun m b=>Int.casesOn (motive:=fun _=>Bool) b (fun n=>Nat.ble m n) (fun _=>false))
 (fun m b=>Int.casesOn (motive:=fun _=>Bool) b (fun _=>true) (fun n=>Nat.ble n m)) b
def ieq (a b:Int):Bool:=Int.casesOn (motive:=fun _=>Int→Bool) a (fun m b=>Int.casesOn (motive:=fun _=>Bool) b (fun n=>Nat.beq m n) (fun _=>false))
 (fun m b=>Int.casesOn (motive:=fun _=>Bool) b (fun _=>false) (fun n=>Nat.beq m n)) b
def YQ (k:IntKind):Nat:=IntKind.casesOn (motive:=fun _=>Nat) k 127 32767 2147483647 9223372036854775807 255 65535 4294967295 18446744073709551615
def ZN (k:IntKind):Nat:=IntKind.casesOn (motive:=fun _=>Nat) k 128 32768 2147483648 9223372036854775808 0 0 0 0
def knN (k:IntKind):Nat:=IntKind.casesOn (motive:=fun _=>Nat) k 0 1 2 3 4 5 6 7
def wq (n:Int) (k:IntKind):D:=Int.casesOn (motive:=fun _=>D) n (fun m=>Bool.casesOn (motive:=fun _=>D) (Nat.ble m (YQ k)) (.int k (k.wrap (.ofNat m))) (.int k (.ofNat m)))
 (fun m=>Bool.casesOn (motive:=fun _=>D) (Nat.ble (Nat.succ m) (ZN k)) (.int k (k.wrap (.negSucc m))) (.int k (.negSucc m)))
abbrev BF:=BinOp→IntKind→Int→Int→Option AV
def CZ:BF:=fun op k a b=>bH op (.d (.int k a)) (.d (.int k b))
def auN:BF:=fun _ k a b=>some (.d (wq (aiQ a b) k))
def auZ:BF:=fun _ k a b=>some (.d (wq (ajQ a b) k))
def au6:BF:=fun _ k a b=>some (.d (wq (ajh a b) k))
def avZ:BF:=fun _ _ a b=>some (.d (.bool (ieq a b)))
def awu:BF:=fun _ _ a b=>some (.d (.bool (Bool.casesOn (motive:=fun _=>Bool) (ieq a b) true false)))
def avl:BF:=fun _ _ a b=>some (.d (.bool (Bool.casesOn (motive:=fun _=>Bool) (Qv b a) true false)))
def avB:BF:=fun _ _ a b=>some (.d (.bool (Qv a b)))
def auO:BF:=fun _ _ a b=>some (.d (.bool (Bool.casesOn (motive:=fun _=>Bool) (Qv a b) true false)))
def au8:BF:=fun _ _ a b=>some (.d (.bool (Qv b a)))
def aki (op:BinOp):BF:=BinOp.casesOn (motive:=fun _=>BF) op auN auZ au6 CZ CZ CZ CZ CZ CZ CZ CZ avZ awu avl avB auO au8
def avk (k:IntKind) (a:Int) (op:BinOp) (y:D):Option AV:=D.casesOn (motive_1:=fun _=>IntKind→Int→BinOp→Option AV) y
 (fun j b k a op=>Bool.casesOn (motive:=fun _=>Option AV) (Nat.beq (knN k) (knN j)) (bH op (.d (.int k a)) (.d (.int j b))) (aki op op k a b))
 (fun _ _ _ _=>none) (fun _ _ _ _=>none) (fun _ _ _ _=>none) k a op
def asa (x:D) (op:BinOp) (y:AV):Option AV:=D.casesOn (motive_1:=fun _=>BinOp→AV→Option AV) x
 (fun k a op y=>AV.casesOn (motive_1:=fun _=>IntKind→Int→BinOp→Option AV) y (fun _ _ _=>none) (fun d k a op=>avk k a op d) (fun _ _ _=>none) (fun _ _ _ _ _ _=>none) (fun _ _ _ _=>none) (fun _ _ _ _=>none) (fun _ _ _ _=>none) (fun _ _ _=>none) (fun _ _ _ _ _=>none) (fun _ _ _ _ _ _=>none) (fun _ _ _ _ _=>none) (fun _ _ _ _ _ _=>none) (fun _ _ _ _ _ _=>none) (fun _ _ _=>none) (fun _ _ _ _=>none) k a op)
 (fun b op y=>bH op (.d (.bool b)) y) (fun s op y=>bH op (.d (.str s)) y) (fun xs op y=>bH op (.d (.lst xs)) y) op y
def aqF (op:BinOp) (x y:AV):Option AV:=AV.casesOn (motive_1:=fun _=>BinOp→AV→Option AV) x (fun _ _=>none) (fun d op y=>asa d op y) (fun _ _=>none) (fun _ _ _ _ _=>none) (fun _ _ _=>none) (fun _ _ _=>none) (fun _ _ _=>none) (fun _ _=>none) (fun _ _ _ _=>none) (fun _ _ _ _ _=>none) (fun _ _ _ _=>none) (fun _ _ _ _ _=>none) (fun _ _ _ _ _=>none) (fun _ _=>none) (fun _ _ _=>none) op y
theorem aep (k j:IntKind):Nat.beq (knN k) (knN j)=jS k j:=by cases k<;>cases j<;>rfl
theorem aog (a b:Int):aiQ a b=a+b:=by cases a<;>cases b<;>rfl
theorem aoI (a b:Int):ajQ a b=a-b:=by
 cases a with
 | ofNat m =>
  cases b with
  | ofNat n =>
   show Bool.casesOn (motive:=fun _=>Int) (Nat.ble n m) (Int.ofNat m-Int.ofNat n) (.ofNat (Nat.sub m n))=_;by_cases h:n≤m
   ·rw[Nat.ble_eq_true_of_le h]
    grind
   ·rw[show Nat.ble n m=false by grind [Nat.ble_eq]]
  | negSucc n=>rfl
 | negSucc m=>rfl
theorem anQ (a b:Int):ajh a b=a*b:=by cases a<;>cases b<;>rfl
theorem Pa (a b:Int):Qv a b=decide (a≤b):=by
 cases a with
 | ofNat m =>
  cases b with
  | ofNat n =>
   show Nat.ble m n=_
   grind [Nat.ble_eq]
  | negSucc n =>
   show false=_
   grind
 | negSucc m =>
  cases b with
  | ofNat n =>
   show true=_
   grind
  | negSucc n =>
   show Nat.ble n m=_
   grind [Nat.ble_eq]
theorem aid (a b:Int):ieq a b=decide (a=b):=by
 cases a with
 | ofNat m =>
  cases b with
  | ofNat n =>
   show Nat.beq m n=_
   grind [Nat.beq_eq]
  | negSucc n =>
   show false=_
   simp_all
 | negSucc m =>
  cases b with
  | ofNat n =>
   show false=_
   simp_all
  | negSucc n =>
   show Nat.beq m n=_
   grind [Nat.beq_eq]
theorem JV {k:IntKind}{n:Int}(h:-(ZN k:Int)≤n) (h2:n≤YQ k):k.wrap n=n:=by
 cases k<;>simp only[ZN,YQ]at h h2<;>simp only[IntKind.wrap,IntKind.bits,IntKind.signed]<;>simp<;>omega
theorem ab1 (k:IntKind) (n:Int):wr k n=k.wrap n:=by
 have H:∀ lo hi:Int,(lo≤n→n≤hi→k.wrap n=n)→kK lo hi k n=k.wrap n:=by
  grind [kK]
 cases k<;>simp only[wr]
 all_goals grind [JV,ZN,YQ]
theorem adP (k:IntKind) (n:Int):wq n k=.int k (wr k n):=by
 rw[ab1]
 cases n with
 | ofNat m =>
  show Bool.casesOn (motive:=fun _=>D) (Nat.ble m (YQ k)) (.int k (k.wrap (.ofNat m))) (.int k (.ofNat m))=_;by_cases h:m≤YQ k
  ·simp_all [Nat.ble_eq_true_of_le,JV]
  ·rw[show Nat.ble m (YQ k)=false by grind [Nat.ble_eq]]
 | negSucc m =>
  show Bool.casesOn (motive:=fun _=>D) (Nat.ble (Nat.succ m) (ZN k)) (.int k (k.wrap (.negSucc m))) (.int k (.negSucc m))=_;by_cases h:m+1≤ZN k
  ·rw[Nat.ble_eq_true_of_le h,JV]
   all_goals omega
  ·rw[show Nat.ble (Nat.succ m) (ZN k)=false by grind [Nat.ble_eq]]
theorem akE (b:Bool):Bool.casesOn (motive:=fun _=>Bool) b true false=!b:=by cases b<;>rfl
theorem kP (k:IntKind):jS k k=true:=by cases k<;>rfl
theorem amV (op:BinOp) (k:IntKind) (a b:Int):aki op op k a b=bH op (.d (.int k a)) (.d (.int k b)):=by
 cases op
 case add=>show some (AV.d (wq (aiQ a b) k))=_;grind [adP,aog,bH,oO,kP,fH]
 case sub=>show some (AV.d (wq (ajQ a b) k))=_;grind [adP,aoI,bH,oO,kP,fH]
 case mul=>show some (AV.d (wq (ajh a b) k))=_;grind [adP,anQ,bH,oO,kP,fH]
 case eql=>show some (AV.d (.bool (ieq a b)))=_;grind [aid,bH,oO,kP,fH]
 case neq=>show some (AV.d (.bool (Bool.casesOn (motive:=fun _=>Bool) (ieq a b) true false)))=_;grind [akE,aid,bH,oO,kP,fH]
 case lss=>show some (AV.d (.bool (Bool.casesOn (motive:=fun _=>Bool) (Qv b a) true false)))=_;grind [akE,Pa,bH,oO,kP,fH]
 case leq=>show some (AV.d (.bool (Qv a b)))=_;grind [Pa,bH,oO,kP,fH]
 case gtr=>show some (AV.d (.bool (Bool.casesOn (motive:=fun _=>Bool) (Qv a b) true false)))=_;grind [akE,Pa,bH,oO,kP,fH]
 case geq=>show some (AV.d (.bool (Qv b a)))=_;grind [Pa,bH,oO,kP,fH]
 all_goals rfl
theorem Ki (op:BinOp) (x y:AV):aqF op x y=bH op x y:=by
 cases x<;>try rfl
 rename_i d
 cases d<;>try rfl
 rename_i k a
 cases y<;>try rfl
 rename_i e
 cases e<;>try rfl
 rename_i j b;show Bool.casesOn (motive:=fun _=>Option AV) (Nat.beq (knN k) (knN j)) (bH op (.d (.int k a)) (.d (.int j b))) (aki op op k a b)=_;rw[aep]
 cases h:jS k j with
 | false=>rfl
 | true =>
  have:k=j:=by revert h;cases k<;>cases j<;>simp[jS]
  grind [amV]
def S7 (op:UnOp):AV→Option AV
 | .d (.int k n)=>match op with
  | .neg=>some (.int k (wr k (0-n)))
  | .xor=>match BZ .xor k (if k.signed then -1 else k.max) n with
   | some x=>some (.d x)
   | none=>none
  | _=>none
 | .d (.bool b)=>match op with
  | .not=>some (.bool !b)
  | _=>none
 | _=>none
def BW (isMax:Bool):AV→AV→Option AV
 | .d (.int k a),.d (.int j b)=>match jS k j with
  | true=>match (if isMax then decide (a<b) else decide (b<a)) with
   | true=>some (.int k b)
   | false=>some (.int k a)
  | false=>none
 | _,_=>none
def yn (isMax:Bool):AV→List AV→Option AV
 | v,[]=>some v
 | v,x::r=>match BW isMax v x with
  | some v=>yn isMax v r
  | none=>none
def aP:Nat:=4294967296
def cB (v:AV) (top:Nat):Option Nat :=
 match v with
 | .d (.int _ (.ofNat n))=>match Nat.ble n top with
  | true=>some n
  | false=>none
 | _=>none
def qu (lo:Option AV) (h m:Nat):Option (Nat×Nat×Nat) :=
 match lo with
 | none=>some (0,h,m)
 | some v=>match cB v h with
  | some l=>some (l,h,m)
  | none=>none
def sm (len:Nat) (lo hi mx:Option AV):Option (Nat×Nat×Nat) :=
 let m:Option Nat:=match mx with
  | none=>some len
  | some v=>cB v len
 match m with
 | none=>none
 | some m =>
  let h:Option Nat:=match hi with
   | none=>match mx with
    | none=>some len
    | some _=>none
   | some v=>cB v m
  match h with
  | none=>none
  | some h=>qu lo h m
def uq (m:Nat):List (List D)→Bool
 | []=>true
 | e::_=>Nat.beq e.length m
def okSl (h:af) (m:Nat):AV→Bool
 | .sl id _ _=>match get h id with
  | some (.arr k _)=>Nat.beq k m
  | some (.cells _)=>Nat.beq m 1
  | _=>false
 | _=>true
def qq (m:Nat) (x:AV) (lo hi mx:Option AV):Option AV :=
 match lenOf x with
 | none=>none
 | some len=>match sm len lo hi mx with
  | none=>none
  | some (l,h,_)=>match x with
   | .d (.lst xs)=>match uq m xs with
    | true=>some (.d (.lst (sub xs l (h-l))))
    | false=>none
   | .nl=>some .nl
   | .own false k xs=>match Nat.beq k m with
    | true=>match Nat.beq h len with
     | true=>some (.own false k (sub xs l (h-l)))
     | false=>some (.d (.lst (sub xs l (h-l))))
    | false=>none
   | .sl id off _=>some (.sl id (off+l) (h-l))
   | _=>none
def vR:AV→Bool
 | .agg _=>true
 | v=>aV v
def bW:List AV→List (Nat×Nat×AV)→Option (List AV)
 | cs,[]=>some cs
 | cs,(off,n,v)::r=>match Nat.beq v.cells.length n && vR v && Nat.ble (off+n) cs.length with
  | true=>bW (ai cs off v.cells) r
  | false=>none
def nc:List (Nat×Nat×Rd)→List AV→List (Nat×Nat×AV)
 | (a,b,_)::r,v::s=>(a,b,v)::nc r s
 | _,_=>[]
def mw:List (Nat×Nat×Rd)→List Rd
 | []=>[]
 | (_,_,x)::r=>x::mw r
def fw (m:Nat):List AV→Option (List (List D))
 | []=>some []
 | v::r=>match Nat.beq v.cells.length m with
  | true=>match iy v.cells with
   | some e=>match fw m r with
    | some es=>some (e::es)
    | none=>none
   | none=>none
  | false=>none
def dt (n:Nat):List (List D)→Bool
 | []=>true
 | e::r=>match Nat.beq e.length n with
  | true=>dt n r
  | false=>false
def ov:List (List D)→Option (List UInt8)
 | []=>some []
 | [.int .u8 (.ofNat n)]::r=>match ov r with
  | some s=>some (n.toUInt8::s)
  | none=>none
 | _=>none
def xF:List UInt8→Nat→Nat→Int
 | [],_,_=>-1
 | b::l,c,i=>match Nat.beq b.toNat c with
  | true=>.ofNat i
  | false=>xF l c (i+1)
def indexByte (c:Int) (xs:List (List D)) (i:Nat):Option Int :=
 match ov xs with
 | some s=>some (xF s (c.toNat % 256) i)
 | none=>none
structure bI where
 code:VC→St→Option (aY×St)
 call:FuncId→List AV→HS→Option (AV×HS)
def OS (v:AV):AV:=match eK v with
 | true=>ji v
 | false=>match lenOf v with
  | some n=>.gl n
  | none=>.junk
def GL:AV→AV
 | .agg cs=>.agg (cs.map OS)
 | v=>OS v
def Gy:AV→AV
 | .tup vs=>.tup (vs.map GL)
 | v=>GL v
def cy (r:bI) (f:FuncId) (args:List AV) (h:af):Option AV :=
 match viewArgs h args with
 | none=>none
 | some ds=>match r.call f ds ⟨[],0⟩ with
  | none=>none
  | some (v,hs)=>match dF hs.heap v with
   | none=>none
   | some v=>match args.any lM with
    | false=>some v
    | true=>match fp v with
     | true=>some v
     | false=>some (Gy v)
def po:aq→List Nat→List AV→Option aq
 | e,[],[]=>some e
 | e,i::is,v::vs=>po (put e i v) is vs
 | _,_,_=>none
def oh (r:bI) (l:Nat) (args:List AV) (hs:HS):Option (AV×HS) :=
 match get hs.heap l with
 | some (.loop snap params assign body false none) =>
  match po snap params args with
  | none=>none
  | some e=>match r.code assign ⟨e,hs⟩ with
   | some (.normal,st)=>match get st.hs.heap l with
    | some (.loop snap params assign body2 false none) =>
     match r.code body ⟨st.env,⟨put st.hs.heap l (.loop snap params assign body2 true none),st.hs.next⟩⟩ with
     | none=>none
     | some (o,st)=>match get st.hs.heap l with
      | some (.loop snap params assign body true none) =>
       match o with
       | .normal=>some (.bool true,⟨put st.hs.heap l (.loop snap params assign body false none),st.hs.next⟩)
       | o=>some (.bool false,⟨put st.hs.heap l (.loop snap params assign body false (some o)),st.hs.next⟩)
      | _=>none
    | _=>none
   | _=>none
 | _=>none
def bD (r:bI) (f:AV) (args:List AV) (hs:HS):Option (AV×HS) :=
 match f with
 | .fn g first caps=>r.call g (first++(args++caps)) hs
 | .yield l=>oh r l args hs
 | _=>none
def AP (hs:HS) (o:Obj):Nat×HS:=(hs.next,⟨put hs.heap hs.next o,hs.next+1⟩)
def jH (hs:HS):AV→AV×HS
 | .own true m xs=>match Nat.beq m 0 with
  | true=>(.own true m xs,hs)
  | false=>(.sl hs.next 0 xs.length,⟨put hs.heap hs.next (.arr m xs),hs.next+1⟩)
 | v=>(v,hs)
def kU:AV→AV
 | .own _ m xs=>.own false m xs
 | v=>v
def oS:AV→AV
 | .agg cs=>.agg (cs.map kU)
 | v=>kU v
def firm (v:AV):AV:=AV.casesOn (motive_1:=fun _=>AV) v .junk (fun x=>.d x) .nl (fun _ m xs=>.own false m xs) (fun n=>.gl n) (fun cs=>.agg (cs.map kU)) (fun vs=>.tup (vs.map oS))
 .nilp (fun a b=>.ptr a b) (fun a b c=>.pel a b c) (fun a b=>.pim a b) (fun a b c=>.sl a b c) (fun a b c=>.fn a b c) .nilf (fun a=>.yield a)
def jd (hs:HS) (o:Nat):AV→AV×HS
 | .agg cs=>match cs[o]? with
  | some v=>(.agg (cs.set o (jH hs v).1),(jH hs v).2)
  | none=>(.agg cs,hs)
 | v=>jH hs v
def ll (hs:HS) (p:Nat×Nat):AV→AV×HS
 | .tup vs=>match vs[p.1]? with
  | some v=>(.tup (vs.set p.1 (jd hs p.2 v).1),(jd hs p.2 v).2)
  | none=>(.tup vs,hs)
 | v=>jd hs p.2 v
def bS:List (Nat×Nat)→AV→HS→AV×HS
 | [],v,hs=>(v,hs)
 | p::r,v,hs=>bS r (ll hs p v).1 (ll hs p v).2
def so (h:af):AV→AV×af
 | .sl id off len=>match get h id with
  | some (.arr m xs)=>match Nat.ble (off+len) xs.length with
   | true=>(.own false m (sub xs off len),del h id)
   | false=>(.sl id off len,h)
  | _=>(.sl id off len,h)
 | v=>(v,h)
def pM:List Nat→List AV→af→List AV×af
 | [],cs,h=>(cs,h)
 | o::r,cs,h=>match cs[o]? with
  | some v=>pM r (cs.set o (so h v).1) (so h v).2
  | none=>pM r cs h
def cA (m:Nat) (h:af) (a:AV) (ys:List (List D)):Option (AV×af) :=
 match Nat.ble ys.length aP with
 | false=>none
 | true=>match a with
  | .nl=>some ((match ys with | []=>.nl | ys=>.own true m ys),h)
  | .own _ k xs=>match Nat.beq k m && Nat.ble (xs.length+ys.length) aP with
   | true=>some (.own false m (xs++ys),h)
   | false=>none
  | .sl id off len=>match get h id with
   | some (.arr k xs)=>match Nat.beq k m && Nat.ble (off+len) xs.length && Nat.ble (len+ys.length) aP with
    | true=>some (.own true m (sub xs off len++ys),del h id)
    | false=>none
   | _=>none
  | _=>none
def lR:AV→Option Nat
 | .d (.int _ (.ofNat n))=>some n
 | _=>none
def KM (x:Rd) (st:St):Option (AV×St) :=
 match rd st.env x with
 | some (v,e)=>some (v,⟨e,st.hs⟩)
 | none=>none
def gM (c:Rd) (a:Rd) (b:Rd) (st:St):Option (AV×St) :=
 match rd st.env c with
 | some (.d (.bool t),e)=>match rd e (match t with | true=>a | false=>b) with
  | some (v,e)=>some (v,⟨e,st.hs⟩)
  | none=>none
 | _=>none
def Ey (zs:List AV) (st:St):Option (AV×St) :=
 some (.ptr st.hs.next 0,⟨st.env,(AP st.hs (.cells zs)).2⟩)
def Kw (x:Rd) (st:St):Option (AV×St) :=
 match rd st.env x with
 | some (v,e)=>match v.cells.all aV with
  | true=>some (.ptr st.hs.next 0,⟨e,(AP st.hs (.cells v.cells)).2⟩)
  | false=>none
 | none=>none
def wy (zs:List AV) (ps:List (Nat×Nat×Rd)) (st:St):Option (AV×St) :=
 match rdAll st.env (mw ps) with
 | some (vs,e)=>match bW zs (nc ps vs) with
  | some cs=>some (.agg cs,⟨e,st.hs⟩)
  | none=>none
 | none=>none
def Gd (m:Nat) (ps:List Rd) (st:St):Option (AV×St) :=
 match rdAll st.env ps with
 | some (vs,e)=>match fw m vs with
  | some xs=>some (.own true m xs,⟨e,st.hs⟩)
  | none=>none
 | none=>none
def QN (m:Nat) (ps:List Rd) (st:St):Option (AV×St) :=
 match rdAll st.env ps with
 | some (vs,e)=>match vs.all (fun v=>Nat.beq v.cells.length m && v.cells.all aV) with
  | true=>some (.sl st.hs.next 0 vs.length,⟨e,(AP st.hs (.cells (vs.flatMap AV.cells))).2⟩)
  | false=>none
 | none=>none
def xz (n:Option Nat) (take:Nat) (p:Rd) (st:St):Option (AV×St) :=
 match rd st.env p with
 | some (v,e)=>match loadAt st.hs.heap n take v with
  | some (v,h)=>some (v,⟨e,⟨h,st.hs.next⟩⟩)
  | none=>none
 | none=>none
def aen (n:Nat) (p:Rd) (x:Rd) (st:St):Option (AV×St) :=
 match rd st.env p with
 | some (p,e)=>match rd e x with
  | some (v,e)=>match storeAt st.hs.heap n p v with
   | some h=>some (.junk,⟨e,⟨h,st.hs.next⟩⟩)
   | none=>none
  | none=>none
 | none=>none
def AB (x:Rd) (st:St):Option (AV×St) :=
 match rd st.env x with
 | some (v,e)=>match v with
  | .ptr .. | .pel .. | .pim .. | .fn .. | .yield ..=>some (v,⟨e,st.hs⟩)
  | _=>none
 | none=>none
def Fl (op:BinOp) (x:Rd) (y:Rd) (st:St):Option (AV×St) :=
 match rd st.env x with
 | some (a,e)=>match rd e y with
  | some (b,e)=>match aqF op a b with
   | some v=>some (v,⟨e,st.hs⟩)
   | none=>none
  | none=>none
 | none=>none
def Ei (neg:Bool) (x y:Rd) (st:St):Option (AV×St) :=
 match rd st.env x with
 | some (a,e)=>match rd e y with
  | some (b,e)=>match a,b with
   | .d (.bool a),.d (.bool b)=>some (.bool (match neg with | true=>!(a == b) | false=>a == b),⟨e,st.hs⟩)
   | _,_=>none
  | none=>none
 | none=>none
def EY (neg:Bool) (ks:List Bool) (x y:Rd) (st:St):Option (AV×St) :=
 match rd st.env x with
 | some (a,e)=>match rd e y with
  | some (b,e)=>match a,b with
   | .agg a,.agg b=>match aB ks a b with
    | some t=>some (.bool (match neg with | true=>!t | false=>t),⟨e,st.hs⟩)
    | none=>none
   | _,_=>none
  | none=>none
 | none=>none
def Uc (op:UnOp) (x:Rd) (st:St):Option (AV×St) :=
 match rd st.env x with
 | some (a,e)=>match S7 op a with
  | some v=>some (v,⟨e,st.hs⟩)
  | none=>none
 | none=>none
def Cs (k:IntKind) (x:Rd) (st:St):Option (AV×St) :=
 match rd st.env x with
 | some (.d (.int _ n),e)=>some (.int k (wr k n),⟨e,st.hs⟩)
 | _=>none
def Ee (x:Rd) (st:St):Option (AV×St) :=
 match rd st.env x with
 | some (v,e)=>match elems st.hs.heap v with
  | some xs=>match ov xs with
   | some s=>some (.d (.str s),⟨e,st.hs⟩)
   | none=>none
  | none=>none
 | none=>none
def Cj (f:FuncId) (first:List Rd) (caps:List Rd) (st:St):Option (AV×St) :=
 match rdAll st.env first with
 | some (a,e)=>match rdAll e caps with
  | some (c,e)=>some (.fn f (shareAll a) (shareAll c),⟨e,st.hs⟩)
  | none=>none
 | none=>none
def iF (z:List D) (len:Rd) (cap:Rd) (st:St):Option (AV×St) :=
 match rd st.env len with
 | some (n,e)=>match rd e cap with
  | some (c,e)=>match cB c aP with
   | some c=>match cB n c with
    | some n=>some (.own true z.length (List.replicate n z),⟨e,st.hs⟩)
    | none=>none
   | none=>none
  | none=>none
 | none=>none
def Fd (m:Nat) (x:Rd) (lo:Option Rd) (hi:Option Rd) (mx:Option Rd) (st:St):Option (AV×St) :=
 match rd st.env x with
 | some (v,e)=>match rdOpt e lo with
  | some (l,e)=>match rdOpt e hi with
   | some (h,e)=>match rdOpt e mx with
    | some (k,e)=>match okSl st.hs.heap m v with
     | true=>match qq m v l h k with
      | some v=>some (v,⟨e,st.hs⟩)
      | none=>none
     | false=>none
    | none=>none
   | none=>none
  | none=>none
 | none=>none
def J8 (hp:af) (n id off:Nat) (lo hi mx:Option AV):Option AV :=
 match get hp id with
 | some (.cells cs)=>match Nat.ble (off+n) cs.length with
  | true=>match sm n lo hi mx with
   | some (l,h,_)=>some (.sl id (off+l) (h-l))
   | none=>none
  | false=>none
 | _=>none
def Kb (n:Nat) (x:Rd) (lo:Option Rd) (hi:Option Rd) (mx:Option Rd) (st:St):Option (AV×St) :=
 match rd st.env x with
 | some (.ptr id off,e)=>match rdOpt e lo with
  | some (l,e)=>match rdOpt e hi with
   | some (h,e)=>match rdOpt e mx with
    | some (k,e)=>match J8 st.hs.heap n id off l h k with
     | some v=>some (v,⟨e,st.hs⟩)
     | none=>none
    | none=>none
   | none=>none
  | none=>none
 | _=>none
def Sp (off:Nat) (p:Rd) (st:St):Option (AV×St) :=
 match rd st.env p with
 | some (p,e)=>match fZ off p with
  | some v=>some (v,⟨e,st.hs⟩)
  | none=>none
 | none=>none
def yD (n:Option Nat) (cs:List AV) (off:Nat):Option AV :=
 match n with
 | none=>cs[off]?
 | some n=>match Nat.ble (off+n) cs.length with
  | true=>some (.agg (sub cs off n))
  | false=>none
def W5 (agg:Bool) (n:Nat):Option Nat :=
 match agg with
 | true=>some n
 | false=>none
def GU (off:Nat) (n:Option Nat) (x:Rd) (st:St):Option (AV×St) :=
 match rd st.env x with
 | some (.agg cs,e)=>match yD n cs off with
  | some v=>some (v,⟨e,st.hs⟩)
  | none=>none
 | _=>none
def Yx (n:Nat) (x:Rd) (i:Rd) (st:St):Option (AV×St) :=
 match rd st.env x with
 | some (v,e)=>match rd e i with
  | some (i,e)=>match lR i with
   | some i=>match v with
    | .sl id off len=>match Nat.ble len i with
     | true=>none
     | false=>match get st.hs.heap id with
      | some (.arr m _)=>match Nat.beq m n with
       | true=>some (.pel id (off+i) 0,⟨e,st.hs⟩)
       | false=>none
      | some (.cells _)=>match Nat.beq n 1 with
       | true=>some (.ptr id (off+i),⟨e,st.hs⟩)
       | false=>none
      | _=>none
    | v=>match elems st.hs.heap v with
     | some xs=>match xs[i]? with
      | some x=>match Nat.beq x.length n with
       | true=>some (.pim x 0,⟨e,st.hs⟩)
       | false=>none
      | none=>none
     | none=>none
   | none=>none
  | none=>none
 | none=>none
def EO (len:Nat) (n:Nat) (p:Rd) (i:Rd) (st:St):Option (AV×St) :=
 match rd st.env p with
 | some (p,e)=>match rd e i with
  | some (i,e)=>match lR i with
   | some i=>match Nat.ble len i with
    | true=>none
    | false=>match fZ (i*n) p with
     | some v=>some (v,⟨e,st.hs⟩)
     | none=>none
   | none=>none
  | none=>none
 | none=>none
def Nm (len:Nat) (n:Nat) (agg:Bool) (x:Rd) (i:Rd) (st:St):Option (AV×St) :=
 match rd st.env x with
 | some (.agg cs,e)=>match rd e i with
  | some (i,e)=>match lR i with
   | some i=>match Nat.ble len i with
    | true=>none
    | false=>match yD (W5 agg n) cs (i*n) with
     | some v=>some (v,⟨e,st.hs⟩)
     | none=>none
   | none=>none
  | none=>none
 | _=>none
def Fy (x:Rd) (i:Rd) (st:St):Option (AV×St) :=
 match rd st.env x with
 | some (.d (.str s),e)=>match rd e i with
  | some (i,e)=>match lR i with
   | some i=>match s[i]? with
    | some b=>some (.int .u8 (.ofNat b.toNat),⟨e,st.hs⟩)
    | none=>none
   | none=>none
  | none=>none
 | _=>none
def Tk (h:af) (v c:AV):Option AV :=
 match c with
 | .d (.int .u8 n)=>match elems h v with
  | some xs=>match indexByte n xs 0 with
   | some r=>some (.int .i64 r)
   | none=>none
  | none=>none
 | _=>none
def XL (x:Rd) (c:Rd) (st:St):Option (AV×St) :=
 match rd st.env x with
 | some (v,e)=>match rd e c with
  | some (c,e)=>match Tk st.hs.heap v c with
   | some r=>some (r,⟨e,st.hs⟩)
   | none=>none
  | none=>none
 | none=>none
def uF (j:Nat) (mv:Bool) (i:Nat) (st:St):Option (AV×St) :=
 match get st.env j with
 | some (.tup vs)=>match vs[i]? with
  | some v=>match mv with
   | true=>some (v,⟨put st.env j (.tup (vs.set i .junk)),st.hs⟩)
   | false=>some (share v,st)
  | none=>none
 | _=>none
def J7 (x:Rd) (st:St):Option (AV×St) :=
 match rd st.env x with
 | some (v,e)=>match lenOf v with
  | some n=>some (.int .i64 (.ofNat n),⟨e,st.hs⟩)
  | none=>none
 | none=>none
def G5 (x:Rd) (st:St):Option (AV×St) :=
 match rd st.env x with
 | some (.nl,e)=>some (.int .i64 (.ofNat 0),⟨e,st.hs⟩)
 | _=>none
def Ag (m:Nat) (x:Rd) (y:Rd) (st:St):Option (AV×St) :=
 match rd st.env x with
 | some (a,e)=>match rd e y with
  | some (b,e)=>match elems st.hs.heap b with
   | some ys=>match dt m ys with
    | true=>match cA m st.hs.heap a ys with
     | some (v,h)=>some (v,⟨e,⟨h,st.hs.next⟩⟩)
     | none=>none
    | false=>none
   | none=>none
  | none=>none
 | none=>none
def W8 (z:List D) (x:Rd) (n:Rd) (st:St):Option (AV×St) :=
 match rd st.env x with
 | some (a,e)=>match rd e n with
  | some (n,e)=>match cB n aP with
   | some n=>match cA z.length st.hs.heap a (List.replicate n z) with
    | some (v,h)=>some (v,⟨e,⟨h,st.hs.next⟩⟩)
    | none=>none
   | none=>none
  | none=>none
 | none=>none
def QS (m:Nat) (x:Rd) (y:Rd) (st:St):Option (AV×St) :=
 match rd st.env x with
 | some (a,e)=>match rd e y with
  | some (b,e)=>match elems st.hs.heap b with
   | some ys=>match a with
    | .sl id off len=>match get st.hs.heap id with
     | some (.arr k xs)=>match dt m ys && Nat.beq k m && Nat.ble (off+len) xs.length with
      | true=>some (.int .i64 (.ofNat (min len ys.length)),⟨e,⟨put st.hs.heap id (.arr k (ai xs off (ys.take len))),st.hs.next⟩⟩)
      | false=>none
     | _=>none
    | _=>match lenOf a with
     | some 0=>some (.int .i64 (.ofNat 0),⟨e,st.hs⟩)
     | _=>none
   | none=>none
  | none=>none
 | none=>none
def Kn (z:List D) (x:Rd) (st:St):Option (AV×St) :=
 match rd st.env x with
 | some (.sl id off len,e)=>match get st.hs.heap id with
  | some (.arr k xs)=>match Nat.beq k z.length && Nat.ble (off+len) xs.length with
   | true=>some (.tup [],⟨e,⟨put st.hs.heap id (.arr k (ai xs off (List.replicate len z))),st.hs.next⟩⟩)
   | false=>none
  | _=>none
 | _=>none
def tD (isMax:Bool) (xs:List Rd) (st:St):Option (AV×St) :=
 match rdAll st.env xs with
 | some (.d (.int k n)::vs,e)=>match yn isMax (.d (.int k n)) vs with
  | some v=>some (v,⟨e,st.hs⟩)
  | none=>none
 | _=>none
def yj (r:bI) (f:FuncId) (args:List Rd) (st:St):Option (AV×St) :=
 match rdAll st.env args with
 | some (vs,e)=>match cy r f vs st.hs.heap with
  | some v=>some (v,⟨e,st.hs⟩)
  | none=>none
 | none=>none
def wP (r:bI) (f:FuncId) (args:List Rd) (st:St):Option (AV×St) :=
 match rdAll st.env args with
 | some (vs,e)=>match r.call f vs st.hs with
  | some (v,hs)=>some (v,⟨e,hs⟩)
  | none=>none
 | none=>none
def w9 (r:bI) (f:Rd) (args:List Rd) (st:St):Option (AV×St) :=
 match rd st.env f with
 | some (fv,e)=>match rdAll e args with
  | some (vs,e)=>match bD r fv vs st.hs with
   | some (v,hs)=>some (v,⟨e,hs⟩)
   | none=>none
  | none=>none
 | none=>none
def ad7 (st:St):Option (AV×St) :=
 none
def Zw (is:List Nat) (st:St):Option (AV×St) :=
 some (.tup [],⟨is.foldl del st.env,st.hs⟩)
def delAll:af→List Nat→af
 | h,[]=>h
 | h,i::r=>delAll (del h i) r
def Cr:List AV→List Nat
 | []=>[]
 | .ptr id _::r=>id::Cr r
 | _::r=>Cr r
def OX (i:Nat) (st:St):Option (AV×St) :=
 match get st.env i with
 | some (.ptr id _)=>some (.tup [],⟨del st.env i,⟨del st.hs.heap id,st.hs.next⟩⟩)
 | some (.fn _ _ caps)=>some (.tup [],⟨del st.env i,⟨delAll st.hs.heap (Cr caps),st.hs.next⟩⟩)
 | _=>some (.tup [],st)
def ajn (i:Nat) (m:Nat) (st:St):Option (AV×St) :=
 match get st.env i with
 | some .nl=>some (.tup [],⟨put st.env i (.own false m []),st.hs⟩)
 | _=>some (.tup [],st)
def PV (i:Nat) (st:St):Option (AV×St) :=
 match get st.env i with
 | some v=>some (.tup [],⟨put st.env i (so st.hs.heap v).1,⟨(so st.hs.heap v).2,st.hs.next⟩⟩)
 | none=>none
def YT (i:Nat) (offs:List Nat) (st:St):Option (AV×St) :=
 match get st.env i with
 | some (.agg cs)=>some (.tup [],⟨put st.env i (.agg (pM offs cs st.hs.heap).1),⟨(pM offs cs st.hs.heap).2,st.hs.next⟩⟩)
 | _=>none
def bw (o:jN):bI→St→Option (AV×St) :=
 jN.casesOn (motive:=fun _=>bI→St→Option (AV×St)) o
  (fun x=>fun _ st=>KM x st)
  (fun c a b=>fun _ st=>gM c a b st)
  (fun zs=>fun _ st=>Ey zs st)
  (fun x=>fun _ st=>Kw x st)
  (fun zs ps=>fun _ st=>wy zs ps st)
  (fun m ps=>fun _ st=>Gd m ps st)
  (fun m ps=>fun _ st=>QN m ps st)
  (fun n take p=>fun _ st=>xz n take p st)
  (fun n p x=>fun _ st=>aen n p x st)
  (fun x=>fun _ st=>AB x st)
  (fun op x y=>fun _ st=>Fl op x y st)
  (fun neg x y=>fun _ st=>Ei neg x y st)
  (fun neg ks x y=>fun _ st=>EY neg ks x y st)
  (fun op x=>fun _ st=>Uc op x st)
  (fun k x=>fun _ st=>Cs k x st)
  (fun x=>fun _ st=>Ee x st)
  (fun f first caps=>fun _ st=>Cj f first caps st)
  (fun z len cap=>fun _ st=>iF z len cap st)
  (fun m x lo hi mx=>fun _ st=>Fd m x lo hi mx st)
  (fun n x lo hi mx=>fun _ st=>Kb n x lo hi mx st)
  (fun off p=>fun _ st=>Sp off p st)
  (fun off n x=>fun _ st=>GU off n x st)
  (fun n x i=>fun _ st=>Yx n x i st)
  (fun len n p i=>fun _ st=>EO len n p i st)
  (fun len n agg x i=>fun _ st=>Nm len n agg x i st)
  (fun x i=>fun _ st=>Fy x i st)
  (fun x c=>fun _ st=>XL x c st)
  (fun j mv i=>fun _ st=>uF j mv i st)
  (fun x=>fun _ st=>J7 x st)
  (fun x=>fun _ st=>G5 x st)
  (fun m x y=>fun _ st=>Ag m x y st)
  (fun z x n=>fun _ st=>W8 z x n st)
  (fun m x y=>fun _ st=>QS m x y st)
  (fun z x=>fun _ st=>Kn z x st)
  (fun isMax xs=>fun _ st=>tD isMax xs st)
  (fun f args=>fun r st=>yj r f args st)
  (fun f args=>fun r st=>wP r f args st)
  (fun f args=>fun r st=>w9 r f args st)
  (fun _ st=>ad7 st)
  (fun is=>fun _ st=>Zw is st)
  (fun i=>fun _ st=>OX i st)
  (fun i m=>fun _ st=>ajn i m st)
  (fun i=>fun _ st=>PV i st)
  (fun i offs=>fun _ st=>YT i offs st)
def bf (dst:Option Nat) (v:AV) (st:St):St :=
 match dst with
 | some d=>⟨put st.env d v,st.hs⟩
 | none=>st
def df (r:bI) (i:VI) (st:St):Option St :=
 match bw i.op r st with
 | some (v,st)=>match i.th with
  | []=>some (bf i.dst (firm v) st)
  | th=>some (bf i.dst (firm (bS th v st.hs).1) ⟨st.env,(bS th v st.hs).2⟩)
 | none=>none
def bl (r:bI) (i:VI) (st:St):Option St :=
 match i.guard with
 | none=>df r i st
 | some (s,want)=>match get st.env s with
  | some (.d (.bool b))=>match b == want with
   | true=>df r i st
   | false=>some (bf i.dst (.tup []) st)
  | some (.tup [])=>some (bf i.dst (.tup []) st)
  | _=>none
def gz (r:bI):List VI→St→Option St
 | [],st=>some st
 | i::l,st=>match bl r i st with
  | some st=>gz r l st
  | none=>none
def pB (r:bI) (vs:List VI):List Nat→St→Option St
 | [],st=>some st
 | i::l,st=>match vs[i]? with
  | none=>none
  | some v=>match bl r v st with
   | none=>none
   | some st=>pB r vs l st
def ca (k:Nat):List Nat→Bool
 | []=>false
 | a::r=>match Nat.beq a k with
  | true=>true
  | false=>ca k r
mutual
def bq:AV→List Nat
 | .ptr id _=>[id]
 | .pel id _ _=>[id]
 | .sl id _ _=>[id]
 | .fn _ first caps=>idsAll first++idsAll caps
 | .agg cs=>idsAll cs
 | .tup vs=>idsAll vs
 | _=>[]
def idsAll:List AV→List Nat
 | []=>[]
 | v::r=>bq v++idsAll r
end
def KV (e:aq):List Nat→List Nat
 | []=>[]
 | s::r=>match get e s with
  | some v=>bq v++KV e r
  | none=>KV e r
def bU:List Nat→af→af
 | [],_=>[]
 | i::r,h=>match get h i with
  | some o=>put (bU r h) i o
  | none=>bU r h
mutual
def Hn:D→D→Bool
 | .int k n,.int j m=>jS k j && decide (n=m)
 | .bool a,.bool b=>a == b
 | .str s,.str t=>s == t
 | .lst xs,.lst ys=>eqDss xs ys
 | _,_=>false
def In:List D→List D→Bool
 | [],[]=>true
 | a::r,b::s=>Hn a b && In r s
 | _,_=>false
def eqDss:List (List D)→List (List D)→Bool
 | [],[]=>true
 | a::r,b::s=>In a b && eqDss r s
 | _,_=>false
end
mutual
def ek:AV→AV→Bool
 | .junk,.junk=>true
 | .d x,.d y=>Hn x y
 | .nl,.nl=>true
 | .own p m xs,.own q n ys=>p == q && Nat.beq m n && eqDss xs ys
 | .gl n,.gl m=>Nat.beq n m
 | .agg a,.agg b=>eqAVs a b
 | .tup a,.tup b=>eqAVs a b
 | .nilp,.nilp=>true
 | .ptr a b,.ptr c d=>Nat.beq a c && Nat.beq b d
 | .pel a b c,.pel d e f=>Nat.beq a d && Nat.beq b e && Nat.beq c f
 | .pim a b,.pim c d=>In a c && Nat.beq b d
 | .sl a b c,.sl d e f=>Nat.beq a d && Nat.beq b e && Nat.beq c f
 | .fn f a c,.fn g b d=>Nat.beq f g && eqAVs a b && eqAVs c d
 | .nilf,.nilf=>true
 | .yield a,.yield b=>Nat.beq a b
 | _,_=>false
def eqAVs:List AV→List AV→Bool
 | [],[]=>true
 | a::r,b::s=>ek a b && eqAVs r s
 | _,_=>false
end
def Zn:Obj→Obj→Bool
 | .cells a,.cells b=>eqAVs a b
 | .arr m xs,.arr n ys=>Nat.beq m n && eqDss xs ys
 | _,_=>false
def bL:List Nat→af→af→Bool
 | [],_,_=>true
 | i::r,h,h'=>(match get h i with
  | some o=>(match get h' i with | some o'=>Zn o o' | none=>false)
  | none=>true) && bL r h h'
inductive NK where
 | call | take | read
def nB:jN→NK
 | .calli .. | .callv .. | .st ..=>.call
 | .ld none 2 _=>.take
 | _=>.read
def Dy:AV→Bool
 | .own false _ _=>true
 | .nl=>true
 | _=>false
def atk:Rd→List Nat
 | .s i=>[i]
 | .m i=>[i]
 | .c _=>[]
def Jb:List Rd→List Nat
 | []=>[]
 | x::r=>atk x++Jb r
def Kg:jN→List Rd
 | .ld _ _ p=>[p]
 | .ia _ x _=>[x]
 | .slice _ x _ _ _=>[x]
 | .toStr x=>[x]
 | .call _ args=>args
 | _=>[]
def jL (v:VI) (e:aq):List Nat:=KV e (Jb (Kg v.op))
def pK (r:bI) (F:List Nat) (v:VI) (st:St):Option St :=
 match nB v.op with
 | .call=>match bl r v st with
  | some st1=>match bL F st.hs.heap st1.hs.heap with
   | true=>some st1
   | false=>none
  | none=>none
 | .take=>match bl r v st with
  | some st1=>match v.dst with
   | some d=>match get st1.env d with
    | some a=>match Dy a with
     | true=>some st1
     | false=>none
    | none=>none
   | none=>none
  | none=>none
 | .read=>match bl r v ⟨st.env,⟨bU (jL v st.env) st.hs.heap,st.hs.next⟩⟩ with
  | some st1=>some ⟨st1.env,st.hs⟩
  | none=>none
def aQ (r:bI) (a:Bool) (F:List Nat) (v:VI) (st:St):Option St :=
 match a with
 | false=>bl r v st
 | true=>pK r F v st
def fM (a:Bool) (v:VI) (e:aq) (F:List Nat):List Nat :=
 match a with
 | false=>F
 | true=>match nB v.op with
  | .read=>jL v e++F
  | _=>F
def cX (r:bI) (nr:List Nat) (vs:List VI):List Nat→List Nat→St→Option St
 | [],_,st=>some st
 | i::l,F,st=>match vs[i]? with
  | none=>none
  | some v=>match aQ r (ca i nr) F v st with
   | none=>none
   | some st1=>cX r nr vs l (fM (ca i nr) v st.env F) st1
def oP:VC→Nat→Option VC
 | .seq a b,l=>match oP a l with
  | some c=>some (.seq c b)
  | none=>oP b l
 | .label k,l=>match Nat.beq k l with
  | true=>some .skip
  | false=>none
 | _,_=>none
def Kh (r:bI) (ops:List VI) (st:St):Option (aY×St) :=
 match gz r ops st with
 | some st=>some (.normal,st)
 | none=>none
def sS:Rd→Bool
 | .m _=>false
 | _=>true
def dZ (v:VI):Option Nat :=
 match v.op,v.guard,v.th with
 | .alloc _,none,[]=>v.dst
 | .mkslice _ l c,none,_=>match sS l && sS c with
  | true=>v.dst
  | false=>none
 | _,_,_=>none
def og (e:aq):List VI→Bool
 | []=>true
 | v::r=>(match dZ v with
  | some d=>(match get e d with
   | none=>true
   | some _=>false)
  | none=>true) && og e r
def Kj:Nat→List Nat→List VI→Bool
 | _,[],[]=>true
 | i,p::r,_::vs=>match Nat.beq p i with
  | true=>Kj (i+1) r vs
  | false=>false
 | _,_,_=>false
def akm (r:bI) (nr:List Nat) (ops:List VI) (perm:List Nat) (st:St):Option St :=
 match nr with
 | []=>match Kj 0 perm ops with
  | true=>gz r ops st
  | false=>cX r [] ops perm [] st
 | a::n=>cX r (a::n) ops perm [] st
theorem aag {r:bI}{vs:List VI}:∀ (perm:List Nat) (l:List VI) (i:Nat) (F:List Nat) (st:St),vs.drop i=l→Kj i perm l=true→cX r [] vs perm F st=gz r l st
 | [],[],_,_,_,_,_=>rfl
 | [],_::_,_,_,_,_,h=>by simp[Kj]at h
 | _::_,[],_,_,_,_,h=>by simp[Kj]at h
 | p::perm,v::l,i,F,st,hd,h=>by
  simp only[Kj]at h;split at h
  ·rename_i hp;rw[Nat.beq_eq]at hp;subst hp;have hv:vs[p]?=some v:=by
    have:=congrArg (fun l=>l[0]?) hd
    grind
   have hd':vs.drop (p+1)=l:=by
    have:=congrArg (fun l=>l.drop 1) hd
    grind [List.drop_drop]
   simp only[cX,hv,aQ,ca,gz]
   cases bl r v st with
   | none=>rfl
   | some st1=>exact aag perm l (p+1) _ st1 hd' h
  simp_all
theorem E3 {r:bI}{nr:List Nat}{ops:List VI}{perm:List Nat}{st:St}:akm r nr ops perm st=cX r nr ops perm [] st:=by
 unfold akm;split
 ·split
  ·rename_i h;exact(aag perm ops 0 [] st rfl h).symm
  ·rfl
 ·rfl
def EV (r:bI) (perm:List Nat) (nr:List Nat) (ops:List VI) (st:St):Option (aY×St) :=
 match og st.env ops with
 | true=>(match akm r nr ops perm st with
  | some st=>some (.normal,st)
  | none=>none)
 | false=>none
def Gv (r:bI) (a:VC) (b:VC) (st:St):Option (aY×St) :=
 match r.code a st with
 | some (.normal,st)=>r.code b st
 | x=>x
def IC (r:bI) (c:Rd) (a:VC) (b:VC) (st:St):Option (aY×St) :=
 match rd st.env c with
 | some (.d (.bool true),e)=>r.code a ⟨e,st.hs⟩
 | some (.d (.bool false),e)=>r.code b ⟨e,st.hs⟩
 | _=>none
def Eq (r:bI) (id:Nat) (a:VC) (st:St):Option (aY×St) :=
 match r.code a st with
 | some (.exit j,st)=>match Nat.beq j id with
  | true=>some (.normal,st)
  | false=>some (.exit j,st)
 | x=>x
def JF (r:bI) (a:VC) (st:St):Option (aY×St) :=
 match r.code a st with
 | some (.normal,st)=>r.code (.loop a) st
 | x=>x
def xE (r:bI) (f:Rd) (params:List Nat) (assign:VC) (body:VC) (st:St):Option (aY×St) :=
 match rd st.env f with
 | some (.fn g first caps,e) =>
  match r.call g (first++([.yield st.hs.next]++caps)) ⟨put st.hs.heap st.hs.next (.loop (e.map fun kv=>(kv.1,share kv.2)) params assign body false none),st.hs.next+1⟩ with
  | some (_,hs)=>match get hs.heap st.hs.next with
   | some (.loop _ _ _ _ false pend)=>match pend with
    | none=>some (.normal,⟨e,⟨del hs.heap st.hs.next,hs.next⟩⟩)
    | some o=>some (o,⟨e,⟨del hs.heap st.hs.next,hs.next⟩⟩)
   | _=>none
  | none=>none
 | _=>none
def anY (r:bI) (a:VC) (st:St):Option (aY×St) :=
 r.code (.inScope a a) st
def C5 (r:bI) (a:VC) (cur:VC) (st:St):Option (aY×St) :=
 match r.code cur st with
 | some (.goto l,st)=>match oP a l with
  | some rest=>r.code (.inScope a rest) st
  | none=>some (.goto l,st)
 | x=>x
def ET (m:Nat) (st:St):Option (aY×St) :=
 match get st.env 0 with
 | some v=>match elems st.hs.heap v with
  | some xs=>match dt m xs && Nat.ble xs.length aP with
   | true=>some (.ret,⟨[(2,.own true m xs)],st.hs⟩)
   | false=>none
  | none=>none
 | none=>none
def I5 (r:bI) (i d f:Nat) (a:VC) (st:St):Option (aY×St) :=
 match get st.env i with
 | some (.ptr id off)=>match r.code a ⟨put st.env d (.ptr id off),st.hs⟩ with
  | some (.normal,st1)=>match r.call f [.ptr id off] st1.hs with
   | some (_,hs)=>some (.ret,⟨st1.env,hs⟩)
   | none=>none
  | some (.ret,st1)=>match r.call f [.ptr id off] st1.hs with
   | some (_,hs)=>some (.ret,⟨st1.env,hs⟩)
   | none=>none
  | _=>none
 | _=>none
def br (c:VC):bI→St→Option (aY×St) :=
 VC.casesOn (motive:=fun _=>bI→St→Option (aY×St)) c
  (fun _ st=>some (.normal,st))
  (fun _ ops=>fun r st=>Kh r ops st)
  (fun perm _ nr ops=>fun r st=>EV r perm nr ops st)
  (fun a b=>fun r st=>Gv r a b st)
  (fun c a b=>fun r st=>IC r c a b st)
  (fun id a=>fun r st=>Eq r id a st)
  (fun a=>fun r st=>JF r a st)
  (fun f params assign body=>fun r st=>xE r f params assign body st)
  (fun id=>fun _ st=>some (.exit id,st))
  (fun a=>fun r st=>anY r a st)
  (fun a cur=>fun r st=>C5 r a cur st)
  (fun _=>fun _ st=>some (.normal,st))
  (fun l=>fun _ st=>some (.goto l,st))
  (fun _ st=>some (.ret,st))
  (fun m=>fun _ st=>ET m st)
  (fun i d f a=>fun r st=>I5 r i d f a st)
def cV (st:St):List mr→Option (List AV×St)
 | []=>some ([],st)
 | .tmp t::r=>match get st.env t with
  | some v=>match cV ⟨del st.env t,st.hs⟩ r with
   | some (vs,st)=>some (v::vs,st)
   | none=>none
  | none=>none
 | .cell t n::r=>match get st.env t with
  | some (.ptr id 0)=>match loadAt st.hs.heap n 1 (.ptr id 0) with
   | some (v,h)=>match cV ⟨del st.env t,⟨del h id,st.hs.next⟩⟩ r with
    | some (vs,st)=>some (v::vs,st)
    | none=>none
   | none=>none
  | _=>none
def fT:Nat→List AV→aq
 | _,[]=>[]
 | i,v::r=>put (fT (i+1) r) i v
def zw (fn:aa) (st:St):Option (AV×HS) :=
 match cV st fn.results with
 | some ([v],st)=>some (v,st.hs)
 | some (vs,st)=>some (.tup vs,st.hs)
 | none=>none
def oJ (P:Nat→Option aa) (r:bI) (f:FuncId) (args:List AV) (hs:HS):Option (AV×HS) :=
 match P f with
 | none=>none
 | some fn=>match Nat.beq args.length fn.nparams with
  | false=>none
  | true=>match br fn.body r ⟨fT 0 args,hs⟩ with
   | some (.normal,st)=>zw fn st
   | some (.ret,st)=>zw fn st
   | _=>none
def run (P:Nat→Option aa):Nat→bI
 | 0=>⟨fun _ _=>none,fun _ _ _=>none⟩
 | n+1=>⟨fun c st=>br c (run P n) st,fun f a h=>oJ P (run P n) f a h⟩
inductive T where
 | leaf
 | node (k:Nat) (v:aa) (a b:T)
def T.look:T→Nat→Option aa
 | .leaf,_=>none
 | .node k v a b,i=>match Nat.beq k i with
  | true=>some v
  | false=>match Nat.ble i k with
   | true=>a.look i
   | false=>b.look i
structure Gh where
 obj:Nat→Option Nat
 base:Nat→Nat
 esz:Nat→Nat
 bsz:Nat→Nat
 pm:Nat→Nat→Prop
inductive RD (w:World) (pm:Nat→Nat→Prop):D→Value→Prop
 | int (k:IntKind) (n:Int):RD w pm (.int k n) (.int k n)
 | bool (b:Bool):RD w pm (.bool b) (.bool b)
 | str (s:List UInt8):RD w pm (.str s) (.string ⟨s.toArray⟩)
 | nil (a:Option Addr) (cap:Nat):RD w pm (.lst []) (.slice a 0 cap)
 | lst (xs:List (List D)) (b off m cap:Nat) (u:Nat→Value) (hm:0<m) (hcap:xs.length≤cap) (hl:∀ e∈xs,e.length=m)
   (hc:∀ j c,xs.flatten[j]?=some c→w.cell? ⟨b,off+j,none⟩=some (u j)∧pm b (off+j))
   (hr:∀ j c,xs.flatten[j]?=some c→RD w pm c (u j)):RD w pm (.lst xs) (.slice (some ⟨b,off,none⟩) xs.length cap)
def eu (w:World) (pm:Nat→Nat→Prop) (cs:List D) (b off:Nat):Prop :=
 ∀ j c,cs[j]?=some c→∃ u,w.cell? ⟨b,off+j,none⟩=some u∧RD w pm c u
def one (b:Nat):Nat→Nat:=fun x=>if x=b then 1 else 0
@[simp] theorem tq (b:Nat):one b b=1:=by simp[one]
theorem pW {b x:Nat}(h:one b x≠0):x=b:=by grind [one]
def wb (g:Gh) (w:World) (p:Bool) (m:Nat) (xs:List (List D)) (x:Value) (O:Nat→Nat):Prop :=
 (xs=[]∧(∀ b,O b=0)∧∃ a,x=.slice a 0 0)∨
 ∃ b off cap c el,x=.slice (some ⟨b,off,none⟩) xs.length cap∧xs.length≤cap∧0<m∧(∀ e∈xs,e.length=m)∧
  w.heap[b]?=some (.cells c el (0,0))∧off+cap*m≤c.size∧eu w g.pm xs.flatten b off∧
  (∀ o,g.pm b o→p=false∧o<off+xs.length*m)∧(p=false→∀ j,j<xs.length*m→g.pm b (off+j))∧O=one b
mutual
def RV (g:Gh) (w:World):AV→Value→(Nat→Nat)→Prop
 | .junk,_,O=>∀ b,O b=0
 | .d c,x,O=>RD w g.pm c x∧∀ b,O b=0
 | .nl,x,O=>x=.slice none 0 0∧∀ b,O b=0
 | .own p m xs,x,O=>wb g w p m xs x O
 | .gl n,x,O=>(∃ a cap,x=.slice a n cap)∧∀ b,O b=0
 | .agg cs,x,O=>∃ xs:Array Value,x=.agg xs∧RVs g w cs xs.toList O
 | .tup cs,x,O=>∃ xs:Array Value,x=.tuple xs∧RVs g w cs xs.toList O
 | .nilp,x,O=>x=.pointer none∧∀ b,O b=0
 | .ptr id off,x,O=>(∃ b,g.obj id=some b∧x=.pointer (some ⟨b,g.base id+off,none⟩))∧∀ b,O b=0
 | .pel id i off,x,O=>(∃ b,g.obj id=some b∧x=.pointer (some ⟨b,g.base id+(i*g.esz id+off),none⟩))∧∀ b,O b=0
 | .pim cs off,x,O=>(∃ b o,x=.pointer (some ⟨b,o+off,none⟩)∧eu w g.pm cs b o∧∀ j,j<cs.length→g.pm b (o+j))∧∀ b,O b=0
 | .sl id off len,x,O=>((len=0∧∃ a,x=.slice a 0 0)∨
   ∃ b cap,g.obj id=some b∧x=.slice (some ⟨b,g.base id+off*g.esz id,none⟩) len cap∧len≤cap∧g.base id+(off+cap)*g.esz id≤g.bsz id)∧∀ b,O b=0
 | .fn f a c,x,O=>(∃ xs ys:Array Value,x=.func (.func f) xs ys∧RVs g w a xs.toList (fun _=>0)∧RVs g w c ys.toList (fun _=>0))∧∀ b,O b=0
 | .nilf,x,O=>x=.nilFunc∧∀ b,O b=0
 | .yield l,x,O=>(∃ b,g.obj l=some b∧x=.func (.yield b) #[] #[])∧∀ b,O b=0
def RVs (g:Gh) (w:World):List AV→List Value→(Nat→Nat)→Prop
 | [],xs,O=>xs=[]∧∀ b,O b=0
 | v::r,xs,O=>∃ x s O1 O2,xs=x::s∧RV g w v x O1∧RVs g w r s O2∧∀ b,O b=O1 b+O2 b
end
def dx (o:Go.Obj) (off:Nat):Bool :=
 match o with
 | .cells _ _ (lo,hi)=>lo≤off && off<hi
 | _=>false
structure aI (g:Gh) (w:World) (g':Gh) (w':World) (S:Nat→Prop):Prop where
 obj:∀ id b,g.obj id=some b→g'.obj id=some b∧g'.base id=g.base id∧g'.esz id=g.esz id∧g'.bsz id=g.bsz id
 pm:∀ b o,g.pm b o→g'.pm b o∧w'.cell? ⟨b,o,none⟩=w.cell? ⟨b,o,none⟩
 blk:∀ b,b<w.heap.size→¬ S b→w'.heap[b]?=w.heap[b]?∧∀ o,g'.pm b o→g.pm b o
 size:w.heap.size≤w'.heap.size
 lp:∀ (b:Nat) (rc:Go.Loop),w.heap[b]?=some (.loop rc)→∃ rc':Go.Loop,w'.heap[b]?=some (.loop rc')
 same:w'.os=w.os∧w'.output=w.output∧∀ a:Addr,w'.frozen? a=w.frozen? a
theorem aI.refl (g:Gh) (w:World) (S:Nat→Prop):aI g w g w S :=
 ⟨fun _ _ h=>⟨h,rfl,rfl,rfl⟩,fun _ _ h=>⟨h,rfl⟩,fun _ _ _=>⟨rfl,fun _ h=>h⟩,Nat.le_refl _,fun _ rc h=>⟨rc,h⟩,rfl,rfl,fun _=>rfl⟩
theorem aI.trans {g1 g2 g3:Gh}{w1 w2 w3:World}{S T:Nat→Prop}(h1:aI g1 w1 g2 w2 S) (h2:aI g2 w2 g3 w3 T)
  (hT:∀ b,b<w1.heap.size→T b→S b):aI g1 w1 g3 w3 S where
 obj id b h:=by
  obtain⟨a,b1,c,d⟩:=h1.obj id b h
  grind [obj]
 pm b o h:=by
  obtain⟨a,c⟩:=h1.pm b o h
  grind [pm]
 blk b hb hS:=by
  obtain⟨a,c⟩:=h1.blk b hb hS
  grind [blk]
 size:=Nat.le_trans h1.size h2.size
 lp b rc h:=let ⟨rc1,h'⟩:=h1.lp b rc h;h2.lp b rc1 h'
 same:=⟨h2.same.1.trans h1.same.1,h2.same.2.1.trans h1.same.2.1,fun a=>(h2.same.2.2 a).trans (h1.same.2.2 a)⟩
theorem aI.mono {g g':Gh}{w w':World}{S T:Nat→Prop}(h:aI g w g' w' S) (hST:∀ b,b<w.heap.size→S b→T b):aI g w g' w' T :=
 ⟨h.obj,h.pm,fun b hb hT=>h.blk b hb (fun hs=>hT (hST b hb hs)),h.size,h.lp,h.same⟩
theorem RD.ext {g g':Gh}{w w':World}{S:Nat→Prop}(h:aI g w g' w' S) {c:D}{x:Value}(r:RD w g.pm c x):RD w' g'.pm c x:=by
 induction r with
 | int k n=>exact .int k n
 | bool b=>exact .bool b
 | str s=>exact .str s
 | nil a cap=>exact .nil a cap
 | lst xs b off m cap u hm hcap hl hc hr ih =>
  refine .lst xs b off m cap u hm hcap hl (fun j c hj=>?_) (fun j c hj=>ih j c hj)
  grind [aI.pm]
theorem mo {w w':World}{b:Nat}(h:w'.heap[b]?=w.heap[b]?) (o:Nat):w'.cell? ⟨b,o,none⟩=w.cell? ⟨b,o,none⟩:=by
 grind [World.cell?]
theorem eu.ext {g g':Gh}{w w':World}{S:Nat→Prop}(h:aI g w g' w' S) {cs:List D}{b off:Nat}(r:eu w g.pm cs b off)
  (hb:w'.heap[b]?=w.heap[b]?∨∀ j,j<cs.length→g.pm b (off+j)):eu w' g'.pm cs b off:=by
 intro j c hj;obtain⟨u,hu,hr⟩:=r j c hj;refine⟨u,?_,hr.ext h⟩;rcases hb with hb | hb
 ·grind [mo]
 ·have hlt:j<cs.length:=by
   grind
  rw[(h.pm b _ (hb j hlt)).2];exact hu
theorem fj {w:World}{b:Nat}{o:Go.Obj}(h:w.heap[b]?=some o):b<w.heap.size:=by
 grind
theorem wb.ext {g g':Gh}{w w':World}{S:Nat→Prop}(h:aI g w g' w' S) {p:Bool}{m:Nat}{xs:List (List D)}{x:Value}{O:Nat→Nat}
  (r:wb g w p m xs x O) (hO:∀ b,O b≠0→¬ S b):wb g' w' p m xs x O:=by
 rcases r with r | ⟨b,off,cap,c,el,rfl,hcap,hm,hl,hb,hsz,hrc,hpm,hp,rfl⟩
 ·exact .inl r
 ·have hS:¬ S b:=hO b (by simp);obtain⟨e,hn⟩:=h.blk b (fj hb) hS;exact .inr ⟨b,off,cap,c,el,rfl,hcap,hm,hl,e.trans hb,hsz,hrc.ext h (.inl e),fun o ho=>hpm o (hn o ho),fun hf j hj=>(h.pm b _ (hp hf j hj)).1,rfl⟩
mutual
theorem RV.ext {g g':Gh}{w w':World}{S:Nat→Prop}(h:aI g w g' w' S):∀ (v:AV) (x:Value) (O:Nat→Nat),
  RV g w v x O→(∀ b,O b≠0→¬ S b)→RV g' w' v x O
 | .junk,_,_,r,_=>by simpa only[RV] using r
 | .d c,x,O,r,_=>by simp only[RV]at r⊢;exact⟨r.1.ext h,r.2⟩
 | .nl,_,_,r,_=>by simpa only[RV] using r
 | .own p m xs,x,O,r,hO=>by simp only[RV]at r⊢;exact r.ext h hO
 | .gl n,_,_,r,_=>by simpa only[RV] using r
 | .agg cs,x,O,r,hO=>by
  simp only[RV]at r⊢;obtain⟨xs,e,r⟩:=r;exact⟨xs,e,RVs.ext h cs _ O r hO⟩
 | .tup cs,x,O,r,hO=>by
  simp only[RV]at r⊢;obtain⟨xs,e,r⟩:=r;exact⟨xs,e,RVs.ext h cs _ O r hO⟩
 | .nilp,_,_,r,_=>by simpa only[RV] using r
 | .ptr id off,x,O,r,_=>by
  simp only[RV]at r⊢;obtain⟨⟨b,hb,e⟩,hz⟩:=r;obtain⟨a1,a2,_,_⟩:=h.obj id b hb;exact⟨⟨b,a1,by rw[a2];exact e⟩,hz⟩
 | .pel id i off,x,O,r,_=>by
  simp only[RV]at r⊢;obtain⟨⟨b,hb,e⟩,hz⟩:=r;obtain⟨a1,a2,a3,_⟩:=h.obj id b hb;exact⟨⟨b,a1,by rw[a2,a3];exact e⟩,hz⟩
 | .pim cs off,x,O,r,_=>by
  simp only[RV]at r⊢;obtain⟨⟨b,o,e,hrc,hp⟩,hz⟩:=r;exact⟨⟨b,o,e,hrc.ext h (.inr hp),fun j hj=>(h.pm b _ (hp j hj)).1⟩,hz⟩
 | .sl id off len,x,O,r,_=>by
  simp only[RV]at r⊢;obtain⟨r,hz⟩:=r;rcases r with r | ⟨b,cap,hb,e,hl,hs⟩
  ·exact⟨.inl r,hz⟩
  ·obtain⟨a1,a2,a3,a4⟩:=h.obj id b hb;exact⟨.inr ⟨b,cap,a1,by rw[a2,a3];exact e,hl,by rw[a2,a3,a4];exact hs⟩,hz⟩
 | .fn f a c,x,O,r,_=>by
  simp only[RV]at r⊢;obtain⟨⟨xs,ys,e,ra,rc⟩,hz⟩:=r;exact⟨⟨xs,ys,e,RVs.ext h a _ _ ra (by simp),RVs.ext h c _ _ rc (by simp)⟩,hz⟩
 | .nilf,_,_,r,_=>by simpa only[RV] using r
 | .yield l,x,O,r,_=>by
  simp only[RV]at r⊢;obtain⟨⟨b,hb,e⟩,hz⟩:=r;exact⟨⟨b,(h.obj l b hb).1,e⟩,hz⟩
theorem RVs.ext {g g':Gh}{w w':World}{S:Nat→Prop}(h:aI g w g' w' S):∀ (vs:List AV) (xs:List Value) (O:Nat→Nat),
  RVs g w vs xs O→(∀ b,O b≠0→¬ S b)→RVs g' w' vs xs O
 | [],_,_,r,_=>by simpa only[RVs] using r
 | v::vs,xs,O,r,hO=>by
  simp only[RVs]at r⊢;obtain⟨x,s,O1,O2,e,r1,r2,hs⟩:=r;exact⟨x,s,O1,O2,e,RV.ext h v x O1 r1 (fun b hb=>hO b (by rw[hs b];omega)),RVs.ext h vs s O2 r2 (fun b hb=>hO b (by rw[hs b];omega)),hs⟩
end
abbrev zero:Nat→Nat:=fun _=>0
def bj {α:Type}(l:List (Nat×α)):Prop:=l.Pairwise fun a b=>zQ a.1 b.1
theorem zQ.tr {a b c:Nat}(h:zQ a b) (k:zQ b c):zQ a c:=by omega
theorem zQ.ne {a b:Nat}(h:zQ a b):b≠a:=by omega
theorem anJ (a b:Nat):zQ a b∨a=b∨zQ b a:=by omega
theorem zQ.of {i k:Nat}(h:¬ k=i) (l:T5 i k):zQ i k:=by omega
theorem zQ.of' {i k:Nat}(h:¬ k=i) (l:¬ T5 i k):zQ k i:=by omega
section
variable {α:Type}
theorem acs {l:List (Nat×α)}{i:Nat}{p:Nat×α}(h:p∈del l i):p∈l∧p.1≠i:=by
 induction l<;>grind [TQ,jf]
theorem bj.del {l:List (Nat×α)}(h:bj l) (i:Nat):bj (Vm.del l i):=by
 induction l with
 | nil=>grind [TQ]
 | cons a r ih =>
  have hr:=List.pairwise_cons.1 h;rw[jf];split
  ·exact ih hr.2
  ·exact List.pairwise_cons.2 ⟨fun p hp=>hr.1 p (acs hp).1,ih hr.2⟩
theorem mt {l:List (Nat×α)}{i:Nat}(h:∀ p∈l,p.1≠i):del l i=l:=by
 induction l with
 | nil=>rfl
 | cons a r ih =>
  grind [jf]
theorem Sx {l:List (Nat×α)}{i:Nat}{x:α}{p:Nat×α}(h:p∈put l i x):p=(i,x)∨p∈l:=by
 induction l<;>grind [Tw,nk]
theorem bj.put {l:List (Nat×α)}(h:bj l) (i:Nat) (x:α):bj (Vm.put l i x):=by
 induction l with
 | nil=>simp[Tw,bj]
 | cons a r ih =>
  have hr:=List.pairwise_cons.1 h;rw[nk];split
  ·rename_i e;subst e;exact List.pairwise_cons.2 ⟨hr.1,hr.2⟩
  ·split
   ·refine List.pairwise_cons.2 ⟨fun p hp=>?_,h⟩
    grind
   ·refine List.pairwise_cons.2 ⟨fun p hp=>?_,ih hr.2⟩;rcases Sx hp with rfl | hp<;>grind
end
def RL {α:Type}(Q:Nat→α→(Nat→Nat)→Prop):List (Nat×α)→(Nat→Nat)→Prop
 | [],O=>∀ b,O b=0
 | (k,v)::r,O=>∃ O1 O2,Q k v O1∧RL Q r O2∧∀ b,O b=O1 b+O2 b
section
variable {α:Type}{Q Q':Nat→α→(Nat→Nat)→Prop}
theorem RL.imp' {l:List (Nat×α)}{O:Nat→Nat}(r:RL Q l O)
  (h:∀ k v O1,(k,v)∈l→(∀ b,O1 b≤O b)→Q k v O1→Q' k v O1):RL Q' l O:=by
 induction l generalizing O<;>grind [RL]
theorem RL.take {l:List (Nat×α)}{O:Nat→Nat}(r:RL Q l O) {i:Nat}{v:α}(hg:get l i=some v) :
  ∃ O1 O2,Q i v O1∧RL Q (del l i) O2∧∀ b,O1 b+O2 b≤O b:=by
 induction l generalizing O with
 | nil=>grind [tH]
 | cons a r' ih =>
  obtain⟨k,u⟩:=a;obtain⟨O1,O2,q,rr,hs⟩:=r;rw[dC]at hg;rw[jf];by_cases e:k=i
  ·subst e;simp only[if_true]at hg⊢;have:∃ O3,RL Q (del r' k) O3∧∀ b,O3 b≤O2 b:=by
    clear ih hs q
    induction r' generalizing O2 with
    | nil=>exact⟨O2,rr,fun _=>Nat.le_refl _⟩
    | cons a r'' ih2 =>
     obtain⟨P1,P2,q',rr',hs'⟩:=rr;obtain⟨O3,r3,h3⟩:=ih2 P2 rr';rw[jf];split
     ·grind
     ·exact⟨fun b=>P1 b+O3 b,⟨P1,O3,q',r3,fun _=>rfl⟩,fun b=>by simp_all⟩
   grind
  ·simp only[if_neg e]at hg⊢;obtain⟨P1,P2,q',rr',hs'⟩:=ih rr hg;exact⟨P1,fun b=>O1 b+P2 b,q',⟨O1,P2,q,rr',fun _=>rfl⟩,fun b=>by grind⟩
theorem RL.drop {l:List (Nat×α)}{O:Nat→Nat}(r:RL Q l O) (i:Nat):∃ O2,RL Q (del l i) O2∧∀ b,O2 b≤O b:=by
 induction l generalizing O with
 | nil=>exact⟨O,r,fun _=>Nat.le_refl _⟩
 | cons a r' ih =>
  obtain⟨O1,O2,q,rr,hs⟩:=r;obtain⟨O3,r3,h3⟩:=ih rr;rw[jf];split
  ·grind
  ·exact⟨fun b=>O1 b+O3 b,⟨O1,O3,q,r3,fun _=>rfl⟩,fun b=>by simp_all⟩
theorem RL.put {l:List (Nat×α)}(hs:bj l) {i:Nat}{O1 O2:Nat→Nat}(r:RL Q (del l i) O2) {x:α}(q:Q i x O1) :
  ∃ O,RL Q (Vm.put l i x) O∧∀ b,O b=O1 b+O2 b:=by
 induction l generalizing O2 with
 | nil=>exact⟨fun b=>O1 b+O2 b,⟨O1,O2,q,r,fun _=>rfl⟩,fun _=>rfl⟩
 | cons a r' ih =>
  obtain⟨k,u⟩:=a;have hp:=List.pairwise_cons.1 hs;rw[nk];by_cases e:k=i
  ·subst e;simp only[if_true];rw[jf,if_pos rfl,mt fun p hp'=>(hp.1 p hp').ne]at r;exact⟨fun b=>O1 b+O2 b,⟨O1,O2,q,r,fun _=>rfl⟩,fun _=>rfl⟩
  ·simp only[if_neg e];rw[jf,if_neg e]at r;split
   ·rename_i hle;have hlt:zQ i k:=.of e hle;rw[mt fun p hp'=>(hlt.tr (hp.1 p hp')).ne]at r;exact⟨fun b=>O1 b+O2 b,⟨O1,O2,q,r,fun _=>rfl⟩,fun _=>rfl⟩
   ·obtain⟨P1,P2,q',rr',hs'⟩:=r;obtain⟨O,ro,ho⟩:=ih hp.2 rr';exact⟨fun b=>P1 b+O b,⟨P1,O,q',ro,fun _=>rfl⟩,fun b=>by grind⟩
theorem RL.get {l:List (Nat×α)}{O:Nat→Nat}(r:RL Q l O) {i:Nat}{v:α}(hg:Vm.get l i=some v) :
  ∃ O1,Q i v O1∧∀ b,O1 b≤O b:=by
 grind [take]
end
theorem cY {xs:List (List D)}{m:Nat}(h:∀ e∈xs,e.length=m):xs.flatten.length=xs.length*m:=by
 induction xs<;>grind
theorem eu.nil (w:World) (pm:Nat→Nat→Prop) (b off:Nat):eu w pm [] b off:=fun j c h=>by simp at h
theorem eu.rd {w:World}{pm:Nat→Nat→Prop}{xs:List (List D)}{b off m cap:Nat}(hm:0<m) (hcap:xs.length≤cap) (hl:∀ e∈xs,e.length=m)
  (hc:eu w pm xs.flatten b off) (hp:∀ j,j<xs.length*m→pm b (off+j)):RD w pm (.lst xs) (.slice (some ⟨b,off,none⟩) xs.length cap):=by
 refine .lst xs b off m cap (fun j=>(w.cell? ⟨b,off+j,none⟩).getD (.bool false)) hm hcap hl (fun j c hj=>?_) (fun j c hj=>?_)
 ·obtain⟨u,hu,_⟩:=hc j c hj
  grind [cY]
 ·obtain⟨u,hu,hr⟩:=hc j c hj
  simp_all
mutual
theorem RV.share {g:Gh}{w:World}:∀ (v:AV) (x:Value) (O:Nat→Nat),RV g w v x O→RV g w (share v) x zero
 | .own false m xs,x,O,r=>by
  simp only[RV,Vm.share]at r⊢;refine⟨?_,fun _=>by trivial⟩;rcases r with ⟨rfl,_,a,rfl⟩ | ⟨b,off,cap,c,el,rfl,hcap,hm,hl,hb,hsz,hrc,hpm,hp,rfl⟩
  ·exact .nil a 0
  ·exact hrc.rd hm hcap hl (hp rfl)
 | .own true m xs,x,O,r=>by simp[RV,Vm.share]
 | .agg cs,x,O,r=>by
  simp only[RV,Vm.share]at r⊢;obtain⟨xs,e,r⟩:=r;exact⟨xs,e,RVs.share cs _ O r⟩
 | .tup cs,x,O,r=>by
  simp only[RV,Vm.share]at r⊢;obtain⟨xs,e,r⟩:=r;exact⟨xs,e,RVs.share cs _ O r⟩
 | .junk,_,_,r=>by simp[RV,Vm.share]
 | .d c,_,_,r=>by simp only[RV,Vm.share]at r⊢;exact⟨r.1,fun _=>by trivial⟩
 | .nl,_,_,r=>by simp only[RV,Vm.share]at r⊢;exact⟨r.1,fun _=>by trivial⟩
 | .gl n,_,_,r=>by simp only[RV,Vm.share]at r⊢;exact⟨r.1,fun _=>by trivial⟩
 | .nilp,_,_,r=>by simp only[RV,Vm.share]at r⊢;exact⟨r.1,fun _=>by trivial⟩
 | .ptr _ _,_,_,r=>by simp only[RV,Vm.share]at r⊢;exact⟨r.1,fun _=>by trivial⟩
 | .pel _ _ _,_,_,r=>by simp only[RV,Vm.share]at r⊢;exact⟨r.1,fun _=>by trivial⟩
 | .pim _ _,_,_,r=>by simp only[RV,Vm.share]at r⊢;exact⟨r.1,fun _=>by trivial⟩
 | .sl _ _ _,_,_,r=>by simp only[RV,Vm.share]at r⊢;exact⟨r.1,fun _=>by trivial⟩
 | .fn _ _ _,_,_,r=>by simp only[RV,Vm.share]at r⊢;exact⟨r.1,fun _=>by trivial⟩
 | .nilf,_,_,r=>by simp only[RV,Vm.share]at r⊢;exact⟨r.1,fun _=>by trivial⟩
 | .yield _,_,_,r=>by simp only[RV,Vm.share]at r⊢;exact⟨r.1,fun _=>by trivial⟩
theorem RVs.share {g:Gh}{w:World}:∀ (vs:List AV) (xs:List Value) (O:Nat→Nat),RVs g w vs xs O→RVs g w (shareAll vs) xs zero
 | [],_,_,r=>by simp only[RVs,aaa]at r⊢;exact⟨r.1,fun _=>by trivial⟩
 | v::vs,xs,O,r=>by
  simp only[RVs,kE]at r⊢;obtain⟨x,s,O1,O2,e,r1,r2,_⟩:=r;exact⟨x,s,zero,zero,e,RV.share v x O1 r1,RVs.share vs s O2 r2,fun _=>by trivial⟩
end
def okD:D→Value→Bool
 | .int k n,.int j m=>jS k j && decide (n=m)
 | .bool a,.bool b=>a == b
 | .str s,.string t=>s == t.data.toList
 | .lst [],.slice none 0 0=>true
 | _,_=>false
def II:List D→List Value→Bool
 | [],[]=>true
 | d::r,v::s=>okD d v && II r s
 | _,_=>false
def F3:AV→Value→Bool
 | .d (.lst _),_=>false
 | .d x,v=>okD x v
 | .nl,.slice none 0 0=>true
 | .nilp,.pointer none=>true
 | .nilf,.nilFunc=>true
 | _,_=>false
def jT:List AV→List Value→Bool
 | [],[]=>true
 | d::r,v::s=>F3 d v && jT r s
 | _,_=>false
def TB:AV→Value→Bool
 | .agg cs,.agg vs=>jT cs vs.toList
 | v,x=>F3 v x
def be:Rd→Operand→Bool
 | .s i,.tmp t=>Nat.beq i t
 | .m i,.tmp t=>Nat.beq i t
 | .c v,.const x=>TB v x
 | .c (.fn f [] []),.func g=>Nat.beq f g
 | _,_=>false
def b6:List Rd→List Operand→Bool
 | [],[]=>true
 | r::l,o::s=>be r o && b6 l s
 | _,_=>false
def uJ:Option Rd→Option Operand→Bool
 | none,none=>true
 | some r,some o=>be r o
 | _,_=>false
section
variable (P:Program)
def pX (t:TypeId) (n:Nat):Bool:=match P.info? t with
 | some i=>Nat.beq i.size n
 | none=>false
def u5 (t:TypeId):Bool:=match P.underlying t with
 | some (.struct _)=>true
 | some (.array _ _)=>true
 | _=>false
def CQ (t:TypeId):Bool:=match P.underlying t with
 | some (.struct _)=>false
 | some (.array _ _)=>false
 | some _=>true
 | none=>false
def kL (t:TypeId):Option Nat→Bool
 | none=>CQ P t
 | some n=>u5 P t && pX P t n
def dW (t:TypeId) (m:Nat):Bool:=match P.underlying t with
 | some (.slice e)=>pX P e m && Nat.blt 0 m && Nat.ble (P.bytesOf e) 4096
 | _=>false
def ah3 (t:TypeId) (zs:List D):Bool:=match P.info? t with
 | some i=>match i.zero with
  | some z=>II zs z.cells.toList
  | none=>false
 | none=>false
def ur (t:TypeId) (zs:List D):Bool:=match P.underlying t with
 | some (.slice e)=>ah3 P e zs
 | _=>false
def ja (t:TypeId) (m:Nat):Bool:=match P.underlying t with
 | some (.slice e)=>match P.info? e with
  | some i=>match i.zero with
   | some z=>Nat.beq z.cells.size m
   | none=>false
  | none=>false
 | _=>false
def Hc (t:TypeId):Bool:=match P.underlying t with
 | some .string=>true
 | _=>false
def De (t:TypeId):Bool:=match P.underlying t with
 | some (.int _)=>true
 | _=>false
def ER (t:TypeId):Bool:=match P.underlying t with
 | some .bool=>true
 | _=>false
def acY (t:TypeId):Bool:=match P.underlying t with
 | some (.slice e)=>(match P.underlying e with
  | some (.int .u8)=>true
  | _=>false)
 | _=>false
def agi (f:FuncId):Bool:=match P.funcs[f]? with
 | some fn=>fn.name == "internal/bytealg.IndexByte" && fn.origin == "" && fn.body.isNone
 | none=>false
def AS:List Bool→List Field→Nat→Bool
 | [],[],_=>true
 | k::ks,f::r,n=>Nat.beq f.offset n && (f.name != "_") && (match k with | true=>De P f.type | false=>ER P f.type) && CQ P f.type && AS ks r (n+1)
 | _,_,_=>false
def EA:List Bool→List Field→Nat→Bool
 | [],[],_=>true
 | _::_,[],_=>false
 | ks,f::r,n=>Nat.beq f.offset n && (f.name != "_") && (match P.underlying f.type with
  | some (.struct fs)=>Nat.ble fs.size ks.length && AS P (ks.take fs.size) fs.toList 0 && !(P.stoodInHeld f.type) && pX P f.type fs.size && EA (ks.drop fs.size) r (n+fs.size)
  | _=>match ks with
   | k::ks=>(match k with | true=>De P f.type | false=>ER P f.type) && CQ P f.type && EA ks r (n+1)
   | []=>false)
def sY (t:TypeId) (ks:List Bool):Bool:=match P.underlying t with
 | some (.struct fs)=>EA P ks fs.toList 0 && !(P.stoodInHeld t) && !(P.eqGuardType P.depth t)
 | _=>false
def ahv (t:TypeId) (k:IntKind):Bool:=match P.underlying t with
 | some (.int j)=>jS j k
 | _=>false
def Kf (t:TypeId) (len n:Nat):Bool:=match P.underlying t with
 | some (.array l e)=>Nat.beq l len && pX P e n && Nat.blt 0 n
 | _=>false
def acw (t:TypeId) (f off:Nat):Bool:=match P.underlying t with
 | some (.struct fs)=>match fs[f]? with
  | some x=>Nat.beq x.offset off && (match P.info? x.type with | some i=>Nat.blt 0 i.size | none=>false)
  | none=>false
 | _=>false
def Mw (t:TypeId) (f off:Nat) (n:Option Nat):Bool:=match P.underlying t with
 | some (.struct fs)=>match fs[f]? with
  | some x=>Nat.beq x.offset off && kL P x.type n
  | none=>false
 | _=>false
def Qg (t:TypeId) (len n:Nat) (agg:Bool):Bool:=match P.underlying t with
 | some (.array l e)=>Nat.beq l len && pX P e n && (match agg with | true=>u5 P e | false=>CQ P e)
 | _=>false
def iU (places:Nat→Option (Nat×Nat)):List (Nat×Nat×Rd)→List (Nat×Operand)→Bool
 | [],[]=>true
 | (off,n,r)::l,(i,o)::s=>(match places i with | some (a,b)=>Nat.beq a off && Nat.beq b n | none=>false) && be r o && iU places l s
 | _,_=>false
def Bw (fs:Array Field) (i:Nat):Option (Nat×Nat):=match fs[i]? with
 | some f=>match P.info? f.type with
  | some t=>some (f.offset,t.size)
  | none=>none
 | none=>none
def Tn (fs:List Field):Bool:=fs.all fun f=>(P.info? f.type).isSome
def XU (t:TypeId) (zs:List AV) (ps:List (Nat×Nat×Rd)) (parts:List (Nat×Operand)):Bool :=
 (match P.info? t with
  | some i=>match i.zero with
   | some z=>jT zs z.cells.toList
   | none=>false
  | none=>false) &&
 match P.underlying t with
 | some (.struct fs)=>Tn P fs.toList && iU (Bw P fs) ps parts
 | some (.array _ e)=>match P.info? e with
  | some i=>iU (fun k=>some (k*i.size,i.size)) ps parts
  | none=>false
 | _=>false
def c8:Nat→List Rd→List (Nat×Operand)→Bool
 | _,[],[]=>true
 | k,r::l,(i,o)::s=>Nat.beq i k && be r o && c8 (k+1) l s
 | _,_,_=>false
def tC:Callee→Option FuncId
 | .value (.func f)=>some f
 | _=>none
def kD:Callee→Option Builtin
 | .builtin b=>some b
 | _=>none
def Tt (a b:BinOp):Bool:=decide (a=b)
def aqo (a b:UnOp):Bool:=decide (a=b)
def HB (a b:Option Builtin):Bool:=decide (a=b)
def mE (c:Call):TypeId:=c.argTypes.getD 0 0
def Kv (c:Call):Bool:=Nat.beq c.argTypes.size 2
def aE (v:jN) (o:Op):Bool :=
 match v with
 | .mov x=>(match o with
  | .move y=>be x y
  | .assign y=>be x y
  | .call c=>HB (kD c.callee) (some .len) && Nat.blt 0 c.args.size && Nat.blt 0 c.argTypes.size && (match x with
   | .c (.d (.int .i64 n))=>(match P.underlying (mE c) with
    | some (.array l _)=>decide (n=(l:Int))
    | _=>false)
   | _=>false)
  | _=>false)
 | .pick c a b=>(match o with
  | .pick c' a' b'=>be c c' && be a a' && be b b'
  | _=>false)
 | .alloc zs=>(match o with
  | .alloc e=>(match P.info? e with
   | some i=>(match i.zero with
    | some z=>jT zs z.cells.toList
    | none=>false)
   | none=>false)
  | _=>false)
 | .box x=>(match o with
  | .box _ y=>be x y
  | _=>false)
 | .build zs ps=>(match o with
  | .build t parts=>XU P t zs ps parts.toList
  | _=>false)
 | .mks m ps=>(match o with
  | .buildSlice t len parts=>dW P t m && ja P t m && Nat.beq len ps.length && Nat.ble (len*m) 16777216 && c8 0 ps parts.toList
  | _=>false)
 | .mksv m ps=>(match o with
  | .buildSlice t len parts=>Nat.beq m 1 && dW P t m && ja P t m && Nat.beq len ps.length && Nat.ble (len*m) 16777216 && Nat.blt 0 len && c8 0 ps parts.toList
  | _=>false)
 | .ld n _ p=>(match o with
  | .load t a=>kL P t n && be p a
  | _=>false)
 | .st n p x=>(match o with
  | .store t a y=>pX P t n && be p a && be x y
  | _=>false)
 | .nilck x=>(match o with
  | .nilCheck y=>be x y
  | _=>false)
 | .bin op x y=>(match o with
  | .binOp op' _ x' y' _=>Tt op op' && be x x' && be y y'
  | _=>false)
 | .binb neg x y=>(match o with
  | .binOp op' t x' y' _=>Tt (match neg with | true=>.neq | false=>.eql) op' && ER P t && be x x' && be y y'
  | _=>false)
 | .un op x=>(match o with
  | .unOp op' _ x'=>aqo op op' && be x x'
  | _=>false)
 | .conv k x=>(match o with
  | .convert src dst x'=>ahv P dst k && De P src && be x x'
  | _=>false)
 | .toStr x=>(match o with
  | .convert src dst x'=>Hc P dst && acY P src && be x x'
  | _=>false)
 | .bina neg ks x y=>(match o with
  | .binOp op' t x' y' _=>Tt (match neg with | true=>.neq | false=>.eql) op' && sY P t ks && be x x' && be y y'
  | _=>false)
 | .mkfn f first caps=>(match o with
  | .makeFunc (.func g) first' caps'=>Nat.beq f g && b6 first first'.toList && b6 caps caps'.toList
  | _=>false)
 | .mkslice z len cap=>(match o with
  | .makeSlice t l c=>dW P t z.length && ur P t z && be len l && be cap c
  | _=>false)
 | .slice m x lo hi mx=>(match o with
  | .slice t y l h k=>dW P t m && be x y && uJ lo l && uJ hi h && uJ mx k
  | _=>false)
 | .slarr n x lo hi mx=>(match o with
  | .slice t y l h k=>Kf P t n 1 && be x y && uJ lo l && uJ hi h && uJ mx k
  | _=>false)
 | .fa off p=>(match o with
  | .fieldAddr t y f=>acw P t f off && be p y
  | _=>false)
 | .fld off n x=>(match o with
  | .field t y f=>Mw P t f off n && be x y
  | _=>false)
 | .ia n x i=>(match o with
  | .indexAddr t y j=>dW P t n && be x y && be i j
  | _=>false)
 | .iarr len n p i=>(match o with
  | .indexAddr t y j=>Kf P t len n && be p y && be i j
  | _=>false)
 | .ix len n agg x i=>(match o with
  | .index t y j=>Qg P t len n agg && be x y && be i j
  | _=>false)
 | .ixs x i=>(match o with
  | .index t y j=>Hc P t && be x y && be i j
  | _=>false)
 | .ext j _ i=>(match o with
  | .extract (.tmp t) k=>Nat.beq j t && Nat.beq i k
  | _=>false)
 | .len x=>(match o with
  | .call c=>HB (kD c.callee) (some .len) && Nat.blt 0 c.argTypes.size && (match P.underlying (mE c) with | some (.slice _)=>true | _=>false) && b6 [x] c.args.toList
  | _=>false)
 | .cap x=>(match o with
  | .call c=>HB (kD c.callee) (some .cap) && Nat.blt 0 c.argTypes.size && (match P.underlying (mE c) with | some (.slice _)=>true | _=>false) && b6 [x] c.args.toList
  | _=>false)
 | .app m x y=>(match o with
  | .call c=>HB (kD c.callee) (some .append) && Kv c && dW P (mE c) m && ja P (mE c) m &&
    (match P.underlying (c.argTypes.getD 1 0) with | some (.slice _)=>true | _=>false) && b6 [x,y] c.args.toList
  | _=>false)
 | .appz z x n=>(match o with
  | .call c=>HB (kD c.callee) (some .append) && Kv c && dW P (mE c) z.length && ur P (mE c) z && De P (c.argTypes.getD 1 0) && b6 [x,n] c.args.toList
  | _=>false)
 | .cpy m x y=>(match o with
  | .call c=>HB (kD c.callee) (some .copy) && Kv c && dW P (mE c) m && (match P.underlying (c.argTypes.getD 1 0) with | some (.slice _)=>true | _=>false) && b6 [x,y] c.args.toList
  | _=>false)
 | .clr z x=>(match o with
  | .call c=>HB (kD c.callee) (some .clear) && dW P (mE c) z.length && ur P (mE c) z && Nat.blt 0 c.argTypes.size && b6 [x] c.args.toList
  | _=>false)
 | .minmax b xs=>(match o with
  | .call c=>HB (kD c.callee) (some (match b with | true=>.max | false=>.min)) && b6 xs c.args.toList
  | _=>false)
 | .call f args=>(match o with
  | .call c=>(match tC c.callee with | some g=>Nat.beq f g | none=>false) && b6 args c.args.toList
  | _=>false)
 | .calli f args=>(match o with
  | .call c=>(match tC c.callee with | some g=>Nat.beq f g | none=>false) && b6 args c.args.toList
  | _=>false)
 | .callv f args=>(match o with
  | .call c=>(match c.callee with | .value x=>be f x | _=>false) && b6 args c.args.toList
  | _=>false)
 | .idxb x c=>(match o with
  | .call k=>(match tC k.callee with | some f=>agi P f | none=>false) && b6 [x,c] k.args.toList
  | _=>false)
 | .bad=>true
 | _=>false
def E4 (v:VI):Bool :=
 v.dst.isNone && v.guard.isNone && v.th.isEmpty && (match v.op with
  | .kill _=>true
  | .free _=>true
  | .wk _ _=>true
  | .frz _=>true
  | .frzC _ _=>true
  | _=>false)
def wX (ops:Array Oper):Option (Nat×Bool)→Option (Nat×Bool)→Bool
 | none,none=>true
 | some (s,b),some (j,c)=>b == c && (match ops[j]? with
  | some o=>(match o.dst with | some d=>Nat.beq d s | none=>false)
  | none=>false)
 | _,_=>false
def uh (n:Nat) (ops:Array Oper) (v:VI) (o:Oper):Bool :=
 (match v.dst,o.dst with
  | none,none=>true
  | some a,some b=>Nat.beq a b && Nat.blt a n
  | _,_=>false) && wX ops v.guard o.guard && aE P v.op o.op
def Cb (n:Nat) (ops:Array Oper):List VI→List Oper→Bool
 | [],[]=>true
 | v::l,os=>match E4 v with
  | true=>Cb n ops l os
  | false=>match os with
   | o::s=>uh P n ops v o && Cb n ops l s
   | []=>false
 | [],_::_=>false
end
def jP:Rd→List Nat
 | .s i=>[i]
 | .m i=>[i]
 | .c _=>[]
def gj:Rd→List Nat
 | .m i=>[i]
 | _=>[]
def aO (rs:List Rd):List Nat:=rs.flatMap jP
def aC (rs:List Rd):List Nat:=rs.flatMap gj
def wV:jN→Option (List Rd)
 | .mov x=>some [x]
 | .build _ ps=>some (mw ps)
 | .mks _ ps=>some ps
 | .ld _ 0 p=>some [p]
 | .nilck x=>some [x]
 | .bin _ x y=>some [x,y]
 | .binb _ x y=>some [x,y]
 | .bina _ _ x y=>some [x,y]
 | .un _ x=>some [x]
 | .conv _ x=>some [x]
 | .toStr x=>some [x]
 | .mkslice _ l c=>some [l,c]
 | .fa _ p=>some [p]
 | .fld _ _ x=>some [x]
 | .ia _ x i=>some [x,i]
 | .iarr _ _ p i=>some [p,i]
 | .ix _ _ _ x i=>some [x,i]
 | .ixs x i=>some [x,i]
 | .len x=>some [x]
 | .cap x=>some [x]
 | .minmax _ xs=>some xs
 | .mkfn _ first caps=>some (first++caps)
 | .call _ args=>some args
 | _=>none
def Eg:jN→Option (List Nat×List Nat)
 | .pick c a b=>some (aO [c,a,b],aC [c,a,b])
 | .ext j mv _=>some ([j],if mv then [j] else [])
 | .app _ (.c .nl) y=>some (aO [y],aC [y])
 | .slice _ x lo hi mx=>some (aO (x::(lo.toList++(hi.toList++(mx.toList++[])))),aC (x::(lo.toList++(hi.toList++(mx.toList++[])))))
 | v=>match wV v with
  | some rs=>some (aO rs,aC rs)
  | none=>none
def WN (i:VI):Option (List Nat×List Nat) :=
 match i.th with
 | _::_=>none
 | []=>match Eg i.op with
  | none=>none
  | some (R,M)=>some ((match i.guard with | some (s,_)=>s::(R++M) | none=>R++M),(match i.dst with | some d=>d::M | none=>M))
def mu:List Nat→List Nat→Bool
 | [],_=>true
 | a::r,l=>!ca a l && mu r l
def oe (a b:VI):Bool:=match WN a,WN b with
 | some (R1,M1),some (R2,M2)=>mu M1 R2 && mu M1 M2 && mu M2 R1
 | _,_=>false
def qG:Ground→Bool
 | .textOnly _=>false
 | .gcOnly _=>false
 | _=>true
def EE (o:Oper) (j:Nat):Bool:=o.after.toList.any fun e=>Nat.beq e.on j && qG e.ground
def R3 (o:Oper) (v:VI):Nat→List VI→Bool
 | _,[]=>true
 | j,u::us=>(EE o j || oe u v) && R3 o v (j+1) us
def nt (P:Program) (n:Nat) (ops:Array Oper) (prev:List VI):List VI→List Oper→Bool
 | [],[]=>true
 | v::vs,o::os=>uh P n ops v o && R3 o v 0 prev && (o.after.toList.all fun e=>Nat.blt e.on prev.length) && nt P n ops (prev++[v]) vs os
 | _,_=>false
def HI (i:VI) (l:List Nat):List Nat:=match i.guard with | some (s,_)=>s::l | none=>l
def rZ (i:VI) (l:List Nat):List Nat:=match i.dst with | some d=>d::l | none=>l
inductive uD where
 | q | t | a | p
def fG (i:VI):Option (uD×List Nat×List Nat) :=
 match i.th with
 | _::_=>match Eg i.op with
  | some (R,M)=>some (.a,HI i (R++M),rZ i M)
  | none=>none
 | []=>match i.op with
  | .ld _ 2 p=>some (.t,HI i (jP p++gj p),rZ i (gj p))
  | .app _ (.s x) y=>some (.p,HI i (aO [.s x,y]++aC [.s x,y]),rZ i (aC [.s x,y]))
  | .app _ (.m x) y=>some (.p,HI i (aO [.m x,y]++aC [.m x,y]),rZ i (aC [.m x,y]))
  | .alloc _=>some (.a,HI i ([]++[]),rZ i [])
  | .box x=>some (.a,HI i (jP x++gj x),rZ i (gj x))
  | v=>match Eg v with
   | some (R,M)=>some (.q,HI i (R++M),rZ i M)
   | none=>none
def tS:uD→uD→Bool
 | .a,_=>false
 | .t,.t=>false
 | .p,.q=>true
 | .p,_=>false
 | _,.p=>false
 | _,_=>true
def AH (u v:VI):Bool:=match fG u,fG v with
 | some (k1,R1,M1),some (k2,R2,M2)=>tS k1 k2 && mu M1 R2 && mu M1 M2 && mu M2 R1
 | _,_=>false
def I8:List Nat→List Nat→List Nat
 | [],l=>l
 | a::r,l=>match ca a l with
  | true=>I8 r l
  | false=>I8 r (a::l)
def sOp:jN→Bool
 | .mov _=>true
 | .pick ..=>true
 | .build ..=>true
 | .mks ..=>true
 | .nilck _=>true
 | .bin ..=>true
 | .binb ..=>true
 | .bina ..=>true
 | .un ..=>true
 | .conv ..=>true
 | .mkfn ..=>true
 | .mkslice ..=>true
 | .fa ..=>true
 | .fld ..=>true
 | .iarr ..=>true
 | .ix ..=>true
 | .ixs ..=>true
 | .ext ..=>true
 | .len _=>true
 | .cap _=>true
 | .minmax ..=>true
 | _=>false
def ajL:jN→Option (List Rd)
 | .ld _ _ p=>some [p]
 | .st _ p x=>some [p,x]
 | .cpy _ x y=>some [x,y]
 | .clr _ x=>some [x]
 | .calli _ args=>some args
 | .callv f args=>some (f::args)
 | _=>none
def fO (i:VI):Option (List Nat×List Nat) :=
 match fG i with
 | some (_,R,M)=>some (R,M)
 | none=>match ajL i.op with
  | some rs=>some (HI i (aO rs++aC rs),rZ i (aC rs))
  | none=>none
def sZ (a:Bool) (i:VI):Option (List Nat×List Nat) :=
 match fO i with
 | some (R,M)=>match a with
  | false=>some (R,M)
  | true=>some (R++Jb (Kg i.op),M)
 | none=>none
def Ff (a:List (Nat×Nat)):Bool:=match a with | []=>true | _=>false
def kS (a:Bool) (i:VI):Bool:=!a && Ff i.th && sOp i.op
def isQ (i:VI):Bool:=match fG i with | some (.q,_)=>true | _=>false
def Vb (i:VI):Bool:=match fG i with | some (.p,_)=>true | _=>false
def BJ (i:VI):Bool:=match nB i.op with | .read=>true | _=>false
def XM (i:VI):Bool:=match nB i.op with | .take=>true | _=>false
def PE (i:VI):Bool:=match nB i.op with | .call=>true | _=>false
def M4 (a:Bool) (i:VI):Bool:=isQ i && (!a || BJ i)
def Yw (a b:Bool) (u v:VI):Bool:=a && b && isQ u && BJ u && PE v
def yC (a b:Bool) (u v:VI):Bool:=match sZ a u,sZ b v with
 | some (R1,M1),some (R2,M2)=>mu M1 R2 && mu M1 M2 && mu M2 R1
 | _,_=>false
def KF (a b:Bool) (u v:VI):Bool:=yC a b u v && (kS a u || kS b v || (M4 a u && M4 b v) || Yw a b u v)
def um (a:Bool) (i:VI):Bool:=a && XM i && Ff i.th
def RG (a b:Bool) (u v:VI):Bool :=
 (!a || um a u) && (!b || um b v) && (AH u v || (yC a b u v && ((um a u && um b v) || (um a u && Vb v) || (Vb u && um b v))))
def lZ (a b:Bool) (u v:VI):Bool:=!a && !b && Ff u.th && Ff v.th && (match u.op,v.op,u.dst,v.dst,u.guard,v.guard with
 | .ext j _ i,.ext l _ k,some d,some c,none,none=>Nat.beq j l && !Nat.beq i k && !Nat.beq d c && !Nat.beq d j && !Nat.beq c j
 | _,_,_,_,_,_=>false)
def gC (a b:Bool) (u v:VI):Bool:=KF a b u v || lZ a b u v || (!kS b v && RG a b u v)
def Kc (tab:List (Nat×List Nat)):List Edge→List Nat
 | []=>[]
 | e::r=>match qG e.ground with
  | true=>I8 (e.on::(match get tab e.on with | some l=>l | none=>[])) (Kc tab r)
  | false=>Kc tab r
def BG (ops:Array Oper):List Nat→List (Nat×List Nat)→List (Nat×List Nat)
 | [],tab=>tab
 | i::l,tab=>BG ops l ((i,match ops[i]? with | some o=>Kc tab o.after.toList | none=>[])::tab)
def txG:Ground→Bool
 | .gcOnly _=>false
 | _=>true
def P7:Ground→Bool
 | .textOnly _=>false
 | _=>true
def AA (P:Program) (n:Nat) (ops:Array Oper) (k:Nat):Nat→List VI→List Oper→Bool
 | _,[],[]=>true
 | i,v::vs,o::os=>uh P n ops v o && (o.after.toList.all fun e=>Nat.blt e.on k && (!txG e.ground || Nat.blt e.on i)) && AA P n ops k (i+1) vs os
 | _,_,_=>false
def mL (anc:List (Nat×List Nat)) (k i:Nat):Bool:=match get anc k with | some l=>ca i l | none=>false
def QK (anc:List (Nat×List Nat)) (d:Nat) (l:List Nat) (i:Nat):Nat→List VI→Bool
 | _,[]=>true
 | k,v::r=>(Nat.beq k i || mL anc k i || (match fO v with
  | some (_,M)=>!ca d M && (mL anc i k || mu l M)
  | none=>false)) && QK anc d l i (k+1) r
def sO (v:VI):List Nat:=match v.op with
 | .mkslice _ l c=>aO [l,c]
 | _=>[]
def nS (anc:List (Nat×List Nat)) (vs:List VI) (i:Nat):Bool:=match vs[i]? with
 | some v=>(match dZ v with
  | some d=>QK anc d (sO v) i 0 vs && (match get anc i with
   | some l=>l.all (fun j=>match vs[j]? with
    | some u=>(match dZ u with
     | some _=>false
     | none=>true)
    | none=>true)
   | none=>true)
  | none=>false)
 | none=>false
def QO (anc:List (Nat×List Nat)) (i j:Nat):Nat→Bool
 | 0=>true
 | k+1=>(!mL anc k i || mL anc k j) && QO anc i j k
def KS (anc:List (Nat×List Nat)) (nr:List Nat) (vs:List VI) (j:Nat):List Nat→Bool
 | []=>true
 | i::r=>(mL anc i j || (match vs[j]?,vs[i]? with | some u,some v=>gC (ca j nr) (ca i nr) u v | _,_=>false) || (nS anc vs i && QO anc i j vs.length && !mL anc j i)) && KS anc nr vs j r
def YU (ops:Array Oper) (j:Nat) (l:List Nat):Bool:=match ops[j]? with
 | some o=>o.after.toList.all fun e=>!P7 e.ground || !ca e.on l
 | none=>false
def Ka (ops:Array Oper) (anc:List (Nat×List Nat)) (nr:List Nat) (vs:List VI):List Nat→Bool
 | []=>true
 | j::r=>KS anc nr vs j r && !ca j r && Nat.blt j vs.length && Ka ops anc nr vs r
def WA (ops:Array Oper):List Nat→Bool
 | []=>true
 | j::r=>YU ops j (j::r) && WA ops r
def Rt (l:List Nat):Nat→Bool
 | 0=>true
 | n+1=>ca n l && Rt l n
def WD (vs:List VI):List Nat→Bool
 | []=>true
 | i::r=>(match vs[i]? with | some v=>!BJ v || isQ v | none=>true) && WD vs r
def Bx (P:Program) (n:Nat) (ops:Array Oper) (perm gco nr:List Nat) (vs:List VI):Bool :=
 AA P n ops vs.length 0 vs ops.toList && WD vs nr && Rt gco vs.length && WA ops gco && Rt perm vs.length && Ka ops (BG ops perm []) nr vs perm
def pi:VC→Bool
 | .reg _ ops=>ops.all E4
 | .seq a b=>pi a && pi b
 | _=>false
inductive Mt (P:Program) (n:Nat):VC→Code→Prop
 | ghostL {a b:VC}{c:Code}:pi a=true→Mt P n b c→Mt P n (.seq a b) c
 | ghostR {a b:VC}{c:Code}:pi b=true→Mt P n a c→Mt P n (.seq a b) c
 | seq {a b:VC}{c d:Code}:Mt P n a c→Mt P n b d→Mt P n (.seq a b) (.seq c d)
 | skip:Mt P n .skip .skip
 | reg {ops:List VI}{id:Nat}{os:Array Oper}:Cb P n os ops os.toList=true→Mt P n (.reg false ops) (.region id os false)
 | draw {ops:List VI}{id:Nat}{os:Array Oper}:nt P n os [] ops os.toList=true→Mt P n (.reg true ops) (.region id os true)
 | drawP {perm gco nr:List Nat}{ops:List VI}{id:Nat}{os:Array Oper}:Bx P n os perm gco nr ops=true→Mt P n (.regP perm gco nr ops) (.region id os true)
 | cond {r:Rd}{o:Operand}{a b:VC}{c d:Code}:be r o=true→Mt P n a c→Mt P n b d→Mt P n (.cond r a b) (.cond o c d)
 | block {id:Nat}{a:VC}{c:Code}:Mt P n a c→Mt P n (.block id a) (.block id c)
 | loop {a:VC}{c:Code}:Mt P n a c→Mt P n (.loop a) (.loop c)
 | rangeF {r:Rd}{o:Operand}{ps:List Nat}{qs:Array Nat}{a b:VC}{c d:Code}:be r o=true→qs=ps.toArray→(∀ p∈ps,p<n)→Mt P n a c→Mt P n b d→Mt P n (.rangeF r ps a b) (.rangeFunc o qs c d)
 | exit {id:Nat}:Mt P n (.exit id) (.exit id)
 | scope {a:VC}{c:Code}:Mt P n a c→Mt P n (.scope a) (.scope c)
 | label {l:Nat}:Mt P n (.label l) (.label l)
 | goto {l:Nat}:Mt P n (.goto l) (.goto l)
 | ret:Mt P n .ret .ret
def EI:List Nat→List Nat→Bool
 | [],[]=>true
 | a::r,b::s=>Nat.beq a b && EI r s
 | _,_=>false
theorem UY:∀ {a b:List Nat},EI a b=true→a=b
 | [],[],_=>rfl
 | a::r,b::s,h=>by
  simp only[EI,Bool.and_eq_true,Nat.beq_eq]at h;rw[h.1,UY h.2]
 | [],_::_,h=>by simp[EI]at h
 | _::_,[],h=>by simp[EI]at h
def WF (n:Nat):List Nat→Bool
 | []=>true
 | a::r=>Nat.blt a n && WF n r
theorem U1 {n:Nat}:∀ {l:List Nat},WF n l=true→∀ p∈l,p<n
 | [],_,p,hp=>by simp at hp
 | a::r,h,p,hp=>by
  simp only[WF,Bool.and_eq_true,Nat.blt_eq]at h;rcases List.mem_cons.1 hp with rfl | hp
  ·exact h.1
  ·exact U1 h.2 p hp
def fL (P:Program) (n:Nat):VC→Code→Bool
 | .seq a b,c=>(pi a && fL P n b c) || (pi b && fL P n a c) || (match c with
  | .seq x y=>fL P n a x && fL P n b y
  | _=>false)
 | .skip,.skip=>true
 | .reg d ops,.region _ os d'=>(!d && !d' && Cb P n os ops os.toList) || (d && d' && nt P n os [] ops os.toList)
 | .regP perm gco nr ops,.region _ os d'=>d' && Bx P n os perm gco nr ops
 | .cond r a b,.cond o x y=>be r o && fL P n a x && fL P n b y
 | .block i a,.block j x=>Nat.beq i j && fL P n a x
 | .loop a,.loop x=>fL P n a x
 | .rangeF r ps a b,.rangeFunc o qs x y=>be r o && EI ps qs.toList && WF n ps && fL P n a x && fL P n b y
 | .exit i,.exit j=>Nat.beq i j
 | .scope a,.scope x=>fL P n a x
 | .label i,.label j=>Nat.beq i j
 | .goto i,.goto j=>Nat.beq i j
 | .ret,.ret=>true
 | _,_=>false
theorem fA {P:Program}{n:Nat}:∀ (v:VC) (c:Code),fL P n v c=true→Mt P n v c
 | .seq a b,c,h=>by
  simp only[fL,Bool.or_eq_true,Bool.and_eq_true]at h;rcases h with (⟨h1,h2⟩ | ⟨h1,h2⟩) | h
  ·exact .ghostL h1 (fA b c h2)
  ·exact .ghostR h1 (fA a c h2)
  ·cases c<;>simp only[Bool.and_eq_true,Bool.false_eq_true]at h
   exact .seq (fA a _ h.1) (fA b _ h.2)
 | .skip,c,h=>by cases c<;>simp_all [fL];exact .skip
 | .reg d ops,c,h=>by
  cases c<;>simp only[fL,Bool.or_eq_true,Bool.and_eq_true,Bool.not_eq_true',Bool.false_eq_true]at h
  rcases h with ⟨⟨h1,h2⟩,h⟩ | ⟨⟨h1,h2⟩,h⟩
  ·subst h1 h2;exact .reg h
  ·subst h1 h2;exact .draw h
 | .regP perm gco nr ops,c,h=>by
  cases c<;>simp only[fL,Bool.and_eq_true,Bool.false_eq_true]at h
  obtain⟨h1,h⟩:=h;subst h1;exact .drawP h
 | .cond r a b,c,h=>by
  cases c<;>simp[fL]at h
  exact .cond h.1.1 (fA a _ h.1.2) (fA b _ h.2)
 | .block i a,c,h=>by
  cases c<;>simp only[fL,Bool.and_eq_true,Bool.false_eq_true]at h
  obtain⟨h1,h2⟩:=h;rw[Nat.beq_eq]at h1;subst h1;exact .block (fA a _ h2)
 | .loop a,c,h=>by
  cases c<;>simp only[fL,Bool.false_eq_true]at h
  exact .loop (fA a _ h)
 | .exit i,c,h=>by
  cases c<;>simp only[fL,Bool.false_eq_true]at h
  rw[Nat.beq_eq]at h;subst h;exact .exit
 | .scope a,c,h=>by
  cases c<;>simp only[fL,Bool.false_eq_true]at h
  exact .scope (fA a _ h)
 | .label i,c,h=>by
  cases c<;>simp only[fL,Bool.false_eq_true]at h
  rw[Nat.beq_eq]at h;subst h;exact .label
 | .goto i,c,h=>by
  cases c<;>simp only[fL,Bool.false_eq_true]at h
  rw[Nat.beq_eq]at h;subst h;exact .goto
 | .ret,c,h=>by cases c<;>simp[fL]at h;exact .ret
 | .rangeF r ps a b,c,h=>by
  cases c<;>simp only[fL,Bool.and_eq_true,Bool.false_eq_true]at h
  obtain⟨⟨⟨⟨h1,h2⟩,h3⟩,h4⟩,h5⟩:=h;have h2:=UY h2;exact .rangeF h1 (by rw[h2]) (U1 h3) (fA a _ h4) (fA b _ h5)
 | .inScope _ _,c,h=>by grind [fL]
 | .clone _,c,h=>by grind [fL]
 | .late _ _ _ _,c,h=>by grind [fL]
def iA (P:Program):List mr→List ResultVar→Bool
 | [],[]=>true
 | .tmp i::r,.tmp j::s=>Nat.beq i j && iA P r s
 | .cell i n::r,.cell j ty::s=>Nat.beq i j && kL P ty n && iA P r s
 | _,_=>false
def DA (o:Oper) (d:Nat):Bool:=(match o.dst with | some e=>Nat.beq d e | none=>false) && o.guard.isNone
def Ph:Operand→Bool
 | .const (.slice none 0 0)=>true
 | _=>false
def xS (i:Nat):Operand→Bool
 | .tmp j=>Nat.beq i j
 | _=>false
def Pb (d:Nat):List Oper→Bool
 | [o]=>DA o d && (match o.op with | .assign x=>Ph x | _=>false)
 | _=>false
def ZI (P:Program) (m:Nat):List Oper→Bool
 | [a,b]=>DA a 3 && (match a.op with | .move x=>xS 0 x | _=>false) && DA b 4 &&
   (match b.op with | .binOp .eql T x y _=>dW P T m && xS 3 x && Ph y | _=>false)
 | _=>false
def Z6 (P:Program) (m:Nat):List Oper→Bool
 | [a,b,c,d]=>DA a 5 && (match a.op with | .buildSlice T 0 ps=>dW P T m && ps.isEmpty | _=>false) && DA b 6 && (match b.op with | .move x=>xS 0 x | _=>false) && DA c 7 &&
   (match c.op with
    | .call k=>HB (kD k.callee) (some .append) && Kv k && dW P (mE k) m && ja P (mE k) m && (match P.underlying (k.argTypes.getD 1 0) with | some (.slice _)=>true | _=>false) &&
      (match k.args.toList with | [x,y]=>xS 5 x && xS 6 y | _=>false)
    | _=>false) && DA d 2 && (match d.op with | .assign x=>xS 7 x | _=>false)
 | _=>false
def Hb (P:Program) (m:Nat):Code→Bool
 | .seq (.region _ r0 false) (.seq (.seq (.region _ r1 false) (.cond (.tmp 4) (.seq (.region _ r2 false) .ret) .skip)) (.seq (.region _ r3 false) .ret)) =>
  Pb 2 r0.toList && ZI P m r1.toList && Pb 2 r2.toList && Z6 P m r3.toList
 | _=>false
def Pp (P:Program) (m:Nat) (vf:aa) (f:FuncId):Bool:=match P.funcs[f]? with
 | some fn=>match fn.body with
  | some c=>(match vf.body with | .clone k=>Nat.beq k m | _=>false) && (match vf.results with | [.tmp 2]=>true | _=>false) && iA P vf.results fn.results.toList && Nat.beq vf.nparams 1 && Nat.ble 8 fn.ntmps && Hb P m c && (fn.name != "runtime.NumGoroutine")
  | none=>false
 | none=>false
def KU (P:Program) (n i d f:Nat) (a:VC):Code→Bool
 | .seq (.region _ os false) rest=>(match os.toList with
  | [m,k]=>DA m d && (match m.op with | .move x=>xS i x | _=>false) && k.dst.isNone && k.guard.isNone &&
    (match k.op with
     | .defer c=>(match tC c.callee with | some g=>Nat.beq f g | none=>false) && (match c.args.toList with | [x]=>xS d x | _=>false)
     | _=>false)
  | _=>false) && Nat.blt d n && fL P n a rest
 | _=>false
def Uw (P:Program) (i d f:Nat) (a:VC) (vf:aa) (k:FuncId):Bool:=match P.funcs[k]? with
 | some fn=>match fn.body with
  | some c=>KU P fn.ntmps i d f a c && Nat.ble vf.nparams fn.ntmps && iA P vf.results fn.results.toList && (fn.name != "runtime.NumGoroutine")
  | none=>false
 | none=>false
def alb (P:Program) (vf:aa) (f:FuncId):Bool:=match P.funcs[f]? with
 | some fn=>match fn.body with
  | some c=>fL P fn.ntmps vf.body c && Nat.ble vf.nparams fn.ntmps && iA P vf.results fn.results.toList && (fn.name != "runtime.NumGoroutine")
  | none=>false
 | none=>false
def iP:aY→Option Code
 | .normal=>none
 | .exit i=>some (.exit i)
 | .goto l=>some (.goto l)
 | .ret=>some .ret
abbrev gg (g:Gh) (w:World) (e:aq) (t:Array Value) (O:Nat→Nat):Prop :=
 RL (fun k v O=>k<t.size∧RV g w v (t.getD k undef) O) e O
def fK (P:Program) (g:Gh) (w:World) (id:Nat):Obj→(Nat→Nat)→Prop
 | .cells cs,O=>∃ b c el O1,g.obj id=some b∧g.base id=0∧g.esz id=1∧g.bsz id=cs.length∧
   w.heap[b]?=some (.cells c el (0,0))∧RVs g w cs c.toList O1∧(∀ o,¬ g.pm b o)∧∀ x,O x=O1 x+one b x
 | .arr m xs,O=>(xs=[]∧g.bsz id=0∧g.esz id=m∧0<m∧(∃ b,g.obj id=some b)∧∀ b,O b=0)∨
   ∃ b c el,g.obj id=some b∧g.esz id=m∧0<m∧w.heap[b]?=some (.cells c el (0,0))∧g.bsz id≤c.size∧
    g.base id+xs.length*m≤g.bsz id∧(∀ e∈xs,e.length=m)∧eu w g.pm xs.flatten b (g.base id)∧(∀ o,¬ g.pm b o)∧∀ x,O x=one b x
 | .loop snap params assign body busy pend,O=>∃ b,∃ rc:Go.Loop,g.obj id=some b∧w.heap[b]?=some (.loop rc)∧
   rc.state=(if busy then .busy else if pend.isNone then .ready else .done)∧rc.pending=pend.bind iP∧rc.params=params.toArray∧
   Mt P rc.tmps.size assign rc.assign∧Mt P rc.tmps.size body rc.body∧bj snap∧gg g w snap rc.tmps zero∧(∀ p∈params,p<rc.tmps.size)∧
   ∀ x,O x=one b x
abbrev uO (P:Program) (g:Gh) (w:World) (h:af) (O:Nat→Nat):Prop:=RL (fK P g w) h O
structure S (P:Program) (g:Gh) (w:World) (st:St) (t:Array Value) (O:Nat→Nat):Prop where
 se:bj st.env
 sh:bj st.hs.heap
 parts:∃ Oe Oh,gg g w st.env t Oe∧uO P g w st.hs.heap Oh∧∀ b,O b=Oe b+Oh b
 le:∀ b,O b≤1
 hi:∀ b,O b≠0→b<w.heap.size
 fresh:∀ id,st.hs.next≤id→g.obj id=none
 pmlt:∀ b o,g.pm b o→b<w.heap.size
def ev (t:Array Value):Operand→Value
 | .tmp i=>t.getD i undef
 | .const v=>v
 | .global g=>.pointer (some ⟨g,0,none⟩)
 | .func f=>.func (.func f) #[] #[]
theorem yF {a b:IntKind}(h:jS a b=true):a=b:=by
 cases a<;>cases b<;>first | rfl | grind [jS]
theorem RD.const {w:World}{pm:Nat→Nat→Prop}{c:D}{v:Value}(h:okD c v=true):RD w pm c v:=by
 unfold okD at h;split at h
 ·simp only[Bool.and_eq_true,decide_eq_true_eq]at h;obtain⟨h1,rfl⟩:=h;rw[yF h1];exact .int _ _
 ·simp only[beq_iff_eq]at h;subst h;exact .bool _
 ·rename_i s t;simp only[beq_iff_eq]at h;subst h;have:=RD.str (w:=w) (pm:=pm) t.data.toList;omega
 ·exact .nil _ _
 simp_all
theorem RV.const1 {g:Gh}{w:World}{c:AV}{v:Value}(h:F3 c v=true):RV g w c v zero:=by
 unfold F3 at h
 grind [RV,RD.const]
theorem RVs.consts {g:Gh}{w:World}:∀ {cs:List AV}{vs:List Value},jT cs vs=true→RVs g w cs vs zero
 | [],[],_=>by grind [RVs]
 | c::cs,v::vs,h=>by
  simp only[jT,Bool.and_eq_true]at h;exact⟨v,vs,zero,zero,rfl,.const1 h.1,RVs.consts h.2,fun _=>rfl⟩
 | [],_::_,h=>by grind [jT]
 | _::_,[],h=>by grind [jT]
theorem RV.const {g:Gh}{w:World}{c:AV}{v:Value}(h:TB c v=true):RV g w c v zero:=by
 unfold TB at h
 grind [RV,RVs.consts,const1]
section
variable {P:Program}{g:Gh}{w:World}{t:Array Value}{O:Nat→Nat}
theorem S.of_env {st:St}(s:S P g w st t O) {Oe Oh O':Nat→Nat}{e':aq}(re:gg g w e' t Oe) (rh:uO P g w st.hs.heap Oh) (hse:bj e')
  (ho:∀ b,O' b=Oe b+Oh b) (hle:∀ b,O' b≤O b):S P g w ⟨e',st.hs⟩ t O' :=
 ⟨hse,s.sh,⟨Oe,Oh,re,rh,ho⟩,fun b=>Nat.le_trans (hle b) (s.le b),fun b hb=>s.hi b (by grind),s.fresh,s.pmlt⟩
theorem S.rd {st:St}(s:S P g w st t O) {r:Rd}{o:Operand}(hc:be r o=true) {v:AV}{e':aq}(h:rd st.env r=some (v,e')) :
  ∃ Ov O',RV g w v (ev t o) Ov∧S P g w ⟨e',st.hs⟩ t O'∧∀ b,Ov b+O' b≤O b:=by
 obtain⟨Oe,Oh,re,rh,ho⟩:=s.parts
 cases r with
 | c c =>
  simp only[Vm.rd,Option.some.injEq,Prod.mk.injEq]at h;obtain⟨rfl,rfl⟩:=h;refine⟨zero,O,?_,s,fun b=>by simp⟩
  cases o with
  | const x=>exact .const hc
  | func f =>
   cases c<;>try (simp[be]at hc;done)
   rename_i f' a c
   cases a<;>try (simp[be]at hc;done)
   cases c<;>try (simp[be]at hc;done)
   grind [be,Nat.beq_eq,RV,ev,RVs]
  | tmp i=>simp[be]at hc
  | global i=>simp[be]at hc
 | s i =>
  cases o<;>try (simp[be]at hc;done)
  simp only[be,Nat.beq_eq]at hc;subst hc;simp only[Vm.rd]at h
  cases hg:get st.env i with
  | none=>simp_all
  | some u =>
   simp only[hg,Option.some.injEq,Prod.mk.injEq]at h;obtain⟨rfl,rfl⟩:=h;obtain⟨O1,⟨_,q⟩,hq⟩:=RL.get re hg;exact⟨zero,O,RV.share u _ O1 q,s,fun b=>by simp⟩
 | m i =>
  cases o<;>try (simp[be]at hc;done)
  simp only[be,Nat.beq_eq]at hc;subst hc;simp only[Vm.rd]at h
  cases hg:get st.env i with
  | none=>simp_all
  | some u =>
   simp only[hg,Option.some.injEq,Prod.mk.injEq]at h;obtain⟨rfl,rfl⟩:=h;obtain⟨O1,O2,⟨_,q⟩,r2,hs⟩:=RL.take re hg;refine⟨O1,fun b=>O2 b+Oh b,q,s.of_env r2 rh (s.se.del i) (fun _=>rfl) (fun b=>?_),fun b=>?_⟩
   all_goals grind
theorem S.rdAll {st:St}{rs:List Rd}{os:List Operand}(hc:b6 rs os=true) {vs:List AV}{e':aq}(s:S P g w st t O) (h:rdAll st.env rs=some (vs,e')) :
  ∃ Ov O',RVs g w vs (os.map (ev t)) Ov∧S P g w ⟨e',st.hs⟩ t O'∧∀ b,Ov b+O' b≤O b:=by
 induction rs generalizing os vs st O with
 | nil =>
  cases os<;>simp[b6]at hc
  obtain⟨rfl,rfl⟩:=h;exact⟨zero,O,by simp[RVs],s,fun b=>by simp⟩
 | cons r rs ih =>
  cases os with
  | nil=>simp[b6]at hc
  | cons o os =>
   simp only[b6,Bool.and_eq_true]at hc;simp only[Vm.rdAll]at h
   cases h1:Vm.rd st.env r with
   | none=>simp_all
   | some p =>
    obtain⟨v,e1⟩:=p;simp only[h1]at h
    cases h2:Vm.rdAll e1 rs with
    | none=>simp_all
    | some p =>
     simp only[h2,Option.some.injEq,Prod.mk.injEq]at h;obtain⟨rfl,rfl⟩:=h;obtain⟨O1,O2,rv,s2,l2⟩:=s.rd hc.1 h1;obtain⟨O3,O4,rvs,s4,l4⟩:=ih (st:=⟨e1,st.hs⟩) hc.2 s2 h2;refine⟨fun b=>O1 b+O3 b,O4,?_,s4,fun b=>?_⟩
     all_goals grind [RVs]
end
structure apR (P:Program) (g:Gh) (w:World) (t:Array Value) (O:Nat→Nat) (st':St) (a:AV) (res:Result Next) (x:Value) (w':World) (g':Gh) (Oa O':Nat→Nat):Prop where
 run:res=.ok (.value x) w'∨(res=.ok .skip w'∧x=undef)
 val:RV g' w' a x Oa
 st:S P g' w' st' t O'
 ext:aI g w g' w' fun b=>O b≠0
 le:∀ b,Oa b+O' b≤1
 old:∀ b,b<w.heap.size→Oa b+O' b≤O b
 hi:∀ b,Oa b≠0→b<w'.heap.size
def cO (P:Program) (g:Gh) (w:World) (t:Array Value) (O:Nat→Nat) (st':St) (a:AV) (res:Result Next):Prop :=
 ∃ x w' g' Oa O',apR P g w t O st' a res x w' g' Oa O'
section
variable {P:Program}{g:Gh}{w:World}{t:Array Value}{O:Nat→Nat}{st st':St}{a:AV}{o:Oper}
theorem cO.pure {res:Result Next}{x:Value}{Oa O':Nat→Nat}(s0:S P g w st t O) (h:res=.ok (.value x) w) (r:RV g w a x Oa)
  (s:S P g w st' t O') (hle:∀ b,Oa b+O' b≤O b):cO P g w t O st' a res :=
 ⟨x,w,g,Oa,O',.inl h,r,s,.refl _ _ _,fun b=>Nat.le_trans (hle b) (s0.le b),fun b _=>hle b,fun b hb=>s0.hi b (by grind)⟩
theorem cO.flat {res:Result Next}{x:Value}{O':Nat→Nat}(s0:S P g w st t O) (h:res=.ok (.value x) w) (r:RV g w a x zero)
  (s:S P g w st' t O') (hle:∀ b,O' b≤O b):cO P g w t O st' a res :=
 .pure s0 h r s fun b=>by simp_all
theorem S.le_left {O' Ov:Nat→Nat}(h:∀ b,Ov b+O' b≤O b):∀ b,O' b≤O b:=fun b=>by grind
theorem JO {e:aq}{r:Rd}{α:Type}{k:AV→aq→Option α}{y:α}
  (h:(match rd e r with | some (v,e)=>k v e | none=>none)=some y):∃ v e',rd e r=some (v,e')∧k v e'=some y:=by
 grind
theorem aqO {x:Rd}(s:S P g w st t O) (h:KM x st=some (a,st')) (hc:aE P (.mov x) o.op=true) :
  cO P g w t O st' a ((execOp (ev t) o).run P w):=by
 obtain⟨v,e',h1,h2⟩:=JO h;obtain⟨rfl,rfl⟩:=h2;obtain⟨dst,op,ty,pos,aft,gd⟩:=o;simp only[aE]at hc;split at hc
 ·obtain⟨Ov,O',rv,s',l⟩:=s.rd hc h1;exact .pure s (by simp[execOp]) rv s' l
 ·obtain⟨Ov,O',rv,s',l⟩:=s.rd hc h1;exact .pure s (by simp[execOp]) rv s' l
 ·rename_i c;simp only[Bool.and_eq_true]at hc;obtain⟨⟨⟨hb,ha⟩,ht⟩,hx⟩:=hc
  cases x with
  | s i=>simp at hx
  | m i=>simp at hx
  | c y =>
   split at hx
   ·rename_i n hy
    cases hu:P.underlying (mE c) with
    | none=>simp_all
    | some d =>
     cases d<;>simp[hu]at hx
     rename_i l e;injection hy with hy
     subst hy;subst hx;obtain⟨rfl,rfl⟩:=h1;obtain⟨callee,args,argTypes⟩:=c;have hcal:callee=.builtin .len:=by
      cases callee<;>simp[kD,HB]at hb
      simp_all
     subst hcal;have hty:argTypes[0]?=some (mE ⟨.builtin .len,args,argTypes⟩):=by
      simp_all [mE]
     have hargs:∃ z,(args.map (ev t))[0]?=some z:=by
      simp_all
     obtain⟨z,hz⟩:=hargs;refine .flat s (x:=.int .i64 l) ?_ (by simp only[RV];exact⟨.int _ _,fun _=>trivial⟩) s (fun b=>Nat.le_refl _);simp[execOp,resolve,invoke,builtin,Builtin.len_,hty,hz,underlying,hu,goInt]
   simp_all
 simp_all
theorem aow {c x y:Rd}(s:S P g w st t O) (h:gM c x y st=some (a,st')) (hc:aE P (.pick c x y) o.op=true) :
  cO P g w t O st' a ((execOp (ev t) o).run P w):=by
 obtain⟨dst,op,ty,pos,aft,gd⟩:=o;simp only[aE]at hc;split at hc
 ·rename_i c' a' b';simp only[Bool.and_eq_true]at hc;obtain⟨⟨h1,h2⟩,h3⟩:=hc;unfold gM at h
  cases hr:rd st.env c with
  | none=>simp_all
  | some p =>
   obtain⟨v,e1⟩:=p;obtain⟨Ov,O1,rv,s1,l1⟩:=s.rd h1 hr;simp only[hr]at h
   cases v<;>try (simp at h;done)
   rename_i d
   cases d<;>try (simp at h;done)
   rename_i tb;have hev:ev t c'=.bool tb:=by
    obtain⟨rv,_⟩:=rv;generalize ev t c'=z at rv;cases rv;rfl
   obtain⟨v,e2,h4,h5⟩:=JO h;obtain⟨rfl,rfl⟩:=h5
   cases tb with
   | true =>
    obtain⟨Ov2,O2,rv2,s2,l2⟩:=s1.rd h2 h4;exact .pure s (by simp_all [execOp,asBool]) rv2 s2 fun b=>by grind
   | false =>
    obtain⟨Ov2,O2,rv2,s2,l2⟩:=s1.rd h3 h4;exact .pure s (by simp_all [execOp,asBool]) rv2 s2 fun b=>by grind
 simp_all
theorem ak7 {x:Rd}(s:S P g w st t O) (h:AB x st=some (a,st')) (hc:aE P (.nilck x) o.op=true) :
  cO P g w t O st' a ((execOp (ev t) o).run P w):=by
 obtain⟨dst,op,ty,pos,aft,gd⟩:=o;simp only[aE]at hc;split at hc
 ·obtain⟨v,e',h1,h2⟩:=JO h;obtain⟨Ov,O',rv,s',l⟩:=s.rd hc h1
  cases v<;>simp only[Option.some.injEq,Prod.mk.injEq,reduceCtorEq]at h2
  all_goals
   obtain⟨rfl,rfl⟩:=h2;refine .pure s ?_ rv s' l;simp only[RV]at rv
  ·obtain⟨⟨b,_,e⟩,_⟩:=rv;simp[execOp,e]
  ·obtain⟨⟨b,_,e⟩,_⟩:=rv;simp[execOp,e]
  ·obtain⟨⟨b,o,e,_⟩,_⟩:=rv;simp[execOp,e]
  ·obtain⟨⟨xs,ys,e,_⟩,_⟩:=rv;simp[execOp,e]
  ·obtain⟨⟨b,_,e⟩,_⟩:=rv;simp[execOp,e]
 simp_all
theorem ab3 {k:IntKind}{n:Int}(h1:k.min≤n) (h2:n≤k.max):k.wrap n=n:=by
 cases k<;>simp[IntKind.min,IntKind.max,IntKind.signed,IntKind.bits]at h1 h2<;>
  simp[IntKind.wrap,IntKind.bits,IntKind.signed]<;>
  first | omega | (split<;>omega)
theorem Gc (k:IntKind) (n:Int):wr k n=k.wrap n:=by
 have H:∀ lo hi:Int,lo=k.min→hi=k.max→kK lo hi k n=k.wrap n:=by
  grind [kK,ab3]
 cases k<;>first | rfl | exact H _ _ (by decide) (by decide)
theorem r5 {v:AV}{x:Value}{Ov:Nat→Nat}{k:IntKind}{n:Int}(r:RV g w v x Ov) (h:v=.d (.int k n)):x=.int k n:=by
 subst h;cases r.1;rfl
theorem aov {k:IntKind}{x:Rd}(s:S P g w st t O) (h:Cs k x st=some (a,st')) (hc:aE P (.conv k x) o.op=true) :
  cO P g w t O st' a ((execOp (ev t) o).run P w):=by
 obtain⟨dst,op,ty,pos,aft,gd⟩:=o;simp only[aE]at hc;split at hc
 ·rename_i src ds y;simp only[Bool.and_eq_true]at hc;obtain⟨⟨h1,h2⟩,h3⟩:=hc;unfold Cs at h
  cases hr:rd st.env x with
  | none=>simp_all
  | some p =>
   obtain⟨v,e1⟩:=p;obtain⟨Ov,O1,rv,s1,l1⟩:=s.rd h3 hr;simp only[hr]at h
   cases v<;>try (simp at h;done)
   rename_i d
   cases d<;>try (simp at h;done)
   rename_i j n;obtain⟨rfl,rfl⟩:=h;have hx:=r5 rv rfl;simp only[ahv]at h1;simp only[De]at h2
   cases hd:P.underlying ds with
   | none=>simp_all
   | some dd =>
    cases dd<;>simp[hd]at h1
    have:=yF h1
    cases hs:P.underlying src with
    | none=>simp_all
    | some sd =>
     refine .flat s (x:=.int _ (IntKind.wrap _ n)) ?_ (by simp only[RV];exact⟨by rw[Gc];exact .int _ _,fun _=>trivial⟩) s1 (S.le_left l1)
     simp_all [execOp,convert,underlying,Conv.intToInt]
 simp_all
end
section
variable {P:Program}{g:Gh}{w:World}{t:Array Value}{O:Nat→Nat}{st st':St}{a:AV}{o:Oper}
theorem tG {v:AV}{x:Value}{Ov:Nat→Nat}{b:Bool}(r:RV g w v x Ov) (h:v=.d (.bool b)):x=.bool b:=by
 subst h;obtain⟨r,_⟩:=r;cases r;rfl
theorem Xg {v:AV}{x:Value}{Ov:Nat→Nat}{s:List UInt8}(r:RV g w v x Ov) (h:v=.d (.str s)):x=.string ⟨s.toArray⟩:=by
 subst h;obtain⟨r,_⟩:=r;cases r;rfl
theorem n9 (k:IntKind) (n:Int):RV g w (.d (.int k n)) (.int k n) zero:=by simp only[RV];exact⟨.int _ _,fun _=>trivial⟩
theorem AJ (b:Bool):RV g w (.d (.bool b)) (.bool b) zero:=by simp only[RV];exact⟨.bool _,fun _=>trivial⟩
theorem JE {x y:Rd}{x' y':Operand}(s:S P g w st t O) (hx:be x x'=true) (hy:be y y'=true) {β:Type}{k:AV→AV→aq→Option β}{r:β}
  (h:(match rd st.env x with
   | some (a,e)=>(match rd e y with
    | some (b,e)=>k a b e
    | none=>none)
   | none=>none)=some r) :
  ∃ a b e Oa Ob O',RV g w a (ev t x') Oa∧RV g w b (ev t y') Ob∧S P g w ⟨e,st.hs⟩ t O'∧(∀ c,Oa c+Ob c+O' c≤O c)∧k a b e=some r:=by
 grind [S.rd]
theorem RM (op:BinOp) (ty:TypeId) (x y:Operand) (k j:IntKind) (m n:Int):(eqGuard op ty x y (.int k m) (.int j n)).run P w=.ok () w:=by
 simp_all [eqGuard]
theorem NJ (op:BinOp) (ty:TypeId) (x y:Operand) (m n:Bool):(eqGuard op ty x y (.bool m) (.bool n)).run P w=.ok () w:=by
 simp_all [eqGuard]
theorem Pn (op:BinOp) (ty:TypeId) (x y:Operand) (m n:ByteArray):(eqGuard op ty x y (.string m) (.string n)).run P w=.ok () w:=by
 simp_all [eqGuard]
theorem ank (bs:ByteArray):∀ (n i:Nat) (r:List UInt8),bs.size-i=n→ByteArray.toList.loop bs i r=r.reverse++bs.data.toList.drop i:=by
 intro n
 induction n with
 | zero =>
  intro i r h;rw[ByteArray.toList.loop];have hi:¬ i<bs.size:=by omega
  have:bs.data.toList.length≤i:=by simp_all
  grind [List.drop_eq_nil_of_le]
 | succ n ih =>
  intro i r h;have hi:i<bs.size:=by omega
  rw[ByteArray.toList.loop];rw[ih (i+1) _ (by omega)];have hd:bs.data.toList.drop i=bs.get! i::bs.data.toList.drop (i+1):=by
   have hl:i<bs.data.toList.length:=hi;rw[List.drop_eq_getElem_cons hl]
   congr 1
   show _=bs.data.get!Internal i
   simp_all
  simp_all
theorem Ji (s:List UInt8):(⟨s.toArray⟩:ByteArray).toList=s:=by
 unfold ByteArray.toList
 simp_all [ank]
theorem UF {op:BinOp}{k j:IntKind}{m n:Int}{d:D}(h:AI op k m n=some d) :
  ∃ x,(Op.shift op k m j n).run P w=.ok x w∧RD w g.pm d x:=by
 unfold AI at h;split at h
 ·simp at h
 ·have hn':¬ n<0:=by simp_all
  unfold Op.shift
  cases op<;>simp only[reduceCtorEq,Option.some.injEq]at h
  ·subst h;refine⟨.int k (k.wrap (m*2 ^ min n.toNat k.bits)),?_,?_⟩
   ·simp[hn']
   ·rw[Gc];exact .int _ _
  ·subst h;refine⟨.int k (m.fdiv (2 ^ min n.toNat k.bits)),?_,?_⟩
   ·simp[hn']
   ·exact .int _ _
theorem aij {op:BinOp}(hs:op≠.shl) (hs':op≠.shr) {ty:TypeId}{k:IntKind}{m n:Int}{d:D}(h:fH op k m n=some d) :
  ∃ x,(binOp op ty (.int k m) (.int k n)).run P w=.ok x w∧RD w g.pm d x:=by
 cases op<;>simp only[fH,BZ,reduceCtorEq,Option.some.injEq]at h<;>(try exact absurd rfl hs)<;>(try exact absurd rfl hs')
 ·subst h;rw[Gc];exact⟨_,by simp[binOp,Op.intArith],.int _ _⟩
 ·subst h;rw[Gc];exact⟨_,by simp[binOp,Op.intArith],.int _ _⟩
 ·subst h;rw[Gc];exact⟨_,by simp[binOp,Op.intArith],.int _ _⟩
 ·split at h
  ·simp at h
  ·rename_i hn;simp only[Option.some.injEq]at h;subst h;rw[Gc];exact⟨_,by simp_all [binOp,Op.intDiv],.int _ _⟩
 ·split at h
  ·simp at h
  ·rename_i hn;simp only[Option.some.injEq]at h;subst h;exact⟨_,by simp_all [binOp,Op.intDiv],.int _ _⟩
 ·subst h;exact⟨_,by simp[binOp,Op.intBits],.int _ _⟩
 ·subst h;exact⟨_,by simp[binOp,Op.intBits],.int _ _⟩
 ·subst h;exact⟨_,by simp[binOp,Op.intBits],.int _ _⟩
 ·subst h;exact⟨_,by simp[binOp,Op.intBits],.int _ _⟩
 ·subst h;exact⟨_,by simp[binOp,Op.intCmp];rfl,by exact .bool _⟩
 ·subst h;exact⟨_,by simp[binOp,Op.intCmp];rfl,by exact .bool _⟩
 ·subst h;exact⟨_,by simp[binOp,Op.intCmp];rfl,by exact .bool _⟩
 ·subst h;exact⟨_,by simp[binOp,Op.intCmp];rfl,by exact .bool _⟩
 ·subst h;exact⟨_,by simp[binOp,Op.intCmp];rfl,by exact .bool _⟩
 ·subst h;exact⟨_,by simp[binOp,Op.intCmp];rfl,by exact .bool _⟩
theorem amw {op:BinOp}{ty:TypeId}{va vb r:AV}{x y:Value}{Oa Ob:Nat→Nat}(ra:RV g w va x Oa) (rb:RV g w vb y Ob) (h:bH op va vb=some r)
  (x' y':Operand):∃ z,((do eqGuard op ty x' y' x y;binOp op ty x y:Sem Value)).run P w=.ok z w∧RV g w r z zero:=by
 unfold bH at h;split at h
 ·rename_i k m j n;have hx:=r5 ra rfl;have hy:=r5 rb rfl;subst hx hy;simp only[Sem.run_bind,RM,Result.andThen_ok];split at h
  ·rename_i d hd;simp only[Option.some.injEq]at h;subst h;have fin:(∃ z,(binOp op ty (.int k m) (.int j n)).run P w=.ok z w∧RD w g.pm d z)→
     ∃ z,(binOp op ty (.int k m) (.int j n)).run P w=.ok z w∧RV g w (.d d) z zero :=
    fun⟨z,h1,h2⟩=>⟨z,h1,by grind [RV]⟩
   apply fin;unfold oO at hd;split at hd
   ·simp_all [binOp,UF]
   ·simp_all [binOp,UF]
   ·rename_i h1 h2;split at hd
    ·rename_i hk;have:=yF hk
     simp_all [aij]
    simp_all
  simp_all
 ·rename_i s u;have hx:=Xg ra rfl;have hy:=Xg rb rfl;subst hx hy;simp only[Sem.run_bind,Pn,Result.andThen_ok]
  cases op<;>simp only[reduceCtorEq,Option.some.injEq]at h
  ·split at h
   ·rename_i hb;have hb2:s.length+u.length≤4294967296:=Nat.le_of_ble_eq_true hb;injection h with h
    subst h;refine⟨.string (⟨s.toArray⟩++⟨u.toArray⟩),?_,?_⟩
    ·have h1:(⟨s.toArray⟩:ByteArray).size=s.length:=by simp[ByteArray.size]
     have h2:(⟨u.toArray⟩:ByteArray).size=u.length:=by simp[ByteArray.size]
     have hm:¬ (((s.length+u.length:Nat):Int) > IntKind.i64.max):=by
      have:IntKind.i64.max=9223372036854775807:=rfl;omega
     simp_all [binOp,Op.stringOp]
    ·simp only[RV];exact⟨.str _,fun _=>trivial⟩
   simp_all
  ·subst h
   simp_all [binOp,Op.stringOp,Ji,AJ]
  ·subst h
   simp_all [binOp,Op.stringOp,Ji,AJ]
 simp_all
theorem aqk {op:BinOp}{x y:Rd}(s:S P g w st t O) (h:Fl op x y st=some (a,st')) (hc:aE P (.bin op x y) o.op=true) :
  cO P g w t O st' a ((execOp (ev t) o).run P w):=by
 obtain⟨dst,opp,ty,pos,aft,gd⟩:=o;simp only[aE]at hc;split at hc
 ·rename_i op' ty' x' y' yt;simp only[Bool.and_eq_true,Tt,decide_eq_true_eq]at hc;obtain⟨⟨rfl,h1⟩,h2⟩:=hc;simp only[Fl,Ki]at h;obtain⟨va,vb,e,Oa,Ob,O',ra,rb,s',l,hk⟩:=JE s h1 h2 h;split at hk
  ·rename_i r hr;obtain⟨rfl,rfl⟩:=hk;obtain⟨z,hz,rz⟩:=amw (P:=P) (ty:=ty') ra rb hr x' y';refine .flat s (x:=z) ?_ rz s' fun b=>by grind
   simp only[execOp];rw[Sem.run_bind,hz];simp
  simp_all
 simp_all
theorem ar {ty:TypeId}{d:TypeDesc}(h:P.underlying ty=some d):(underlying ty).run P w=.ok d w:=by simp_all [underlying]
theorem BE {ty:TypeId}(hu:P.underlying ty=some .bool) (d:Nat) (m n:Bool):(Op.equalIn (d+1) ty (.bool m) (.bool n)).run P w=.ok (m == n) w:=by
 unfold Op.equalIn;rw[Sem.run_bind,ar hu];simp
theorem Sz {ty:TypeId}(hu:P.underlying ty=some .bool) (neg:Bool) (m n:Bool) :
  (binOp (match neg with | true=>.neq | false=>.eql) ty (.bool m) (.bool n)).run P w=.ok (.bool (match neg with | true=>!(m == n) | false=>m == n)) w:=by
 have h:(Op.equal ty (.bool m) (.bool n)).run P w=.ok (m == n) w:=BE hu 9999 m n
 cases neg
 ·show ((do pure (.bool (←Op.equal ty (.bool m) (.bool n))):Sem Value)).run P w=_
  simp_all
 ·show ((do pure (.bool (!(←Op.equal ty (.bool m) (.bool n)))):Sem Value)).run P w=_
  simp_all
theorem am8 {neg:Bool}{x y:Rd}(s:S P g w st t O) (h:Ei neg x y st=some (a,st')) (hc:aE P (.binb neg x y) o.op=true) :
  cO P g w t O st' a ((execOp (ev t) o).run P w):=by
 obtain⟨dst,opp,ty,pos,aft,gd⟩:=o;simp only[aE]at hc;split at hc
 ·simp only[Bool.and_eq_true,Tt,decide_eq_true_eq]at hc;obtain⟨⟨⟨h0,hb⟩,h1⟩,h2⟩:=hc;obtain⟨va,vb,e,Oa,Ob,O',ra,rb,s',l,hk⟩:=JE s h1 h2 h;split at hk
  ·rename_i m n;obtain⟨rfl,rfl⟩:=hk;have hx:=tG ra rfl;have hy:=tG rb rfl;simp only[ER]at hb;split at hb
   ·rename_i hu;refine .flat s (x:=_) ?_ (AJ _) s' fun b=>by grind
    have h:=Sz (P:=P) (w:=w) hu neg m n;simp only[execOp,hx,hy];rw[Sem.run_bind,Sem.run_bind,NJ]
    cases neg
    all_goals simp_all
   simp_all
  simp_all
 simp_all
theorem arZ {op:UnOp}{x:Rd}(s:S P g w st t O) (h:Uc op x st=some (a,st')) (hc:aE P (.un op x) o.op=true) :
  cO P g w t O st' a ((execOp (ev t) o).run P w):=by
 obtain⟨dst,opp,ty,pos,aft,gd⟩:=o;simp only[aE]at hc;split at hc
 ·rename_i op' ty' x';simp only[Bool.and_eq_true,aqo,decide_eq_true_eq]at hc;obtain⟨rfl,h1⟩:=hc;obtain⟨v,e,hr,hk⟩:=JO h;obtain⟨Ov,O',rv,s',l⟩:=s.rd h1 hr;split at hk
  ·rename_i r hun;simp only[Option.some.injEq,Prod.mk.injEq]at hk;obtain⟨rfl,rfl⟩:=hk;unfold S7 at hun;split at hun
   ·have hx:=r5 rv rfl
    cases op<;>simp only[reduceCtorEq,Option.some.injEq]at hun
    ·subst hun;rw[Gc];exact .flat s (x:=_) (by simp_all [execOp,Op.unary,Op.intArith]) (n9 _ _) s' (S.le_left l)
    ·split at hun
     ·rename_i d hd;simp only[Option.some.injEq]at hun;subst hun;simp only[BZ,Option.some.injEq]at hd;subst hd;exact .flat s (x:=_) (by simp_all [execOp,Op.unary,Op.intBits]) (n9 _ _) s' (S.le_left l)
     simp_all
   ·have hx:=tG rv rfl
    cases op<;>simp only[reduceCtorEq,Option.some.injEq]at hun
    subst hun;exact .flat s (x:=_) (by simp_all [execOp,Op.unary]) (AJ _) s' (S.le_left l)
   simp_all
  simp_all
 simp_all
end
theorem gU (b off n:Nat):(⟨b,off,none⟩:Addr).add n=⟨b,off+n,none⟩:=by
 grind [Addr.add]
section
variable {g:Gh}{w:World}
theorem RVs.length {cs:List AV}{xs:List Value}{O:Nat→Nat}(r:RVs g w cs xs O):xs.length=cs.length:=by
 induction cs generalizing xs O<;>grind [RVs]
theorem RVs.split {a b:List AV}{xs:List Value}{O:Nat→Nat}(r:RVs g w (a++b) xs O) :
  ∃ O1 O2,RVs g w a (xs.take a.length) O1∧RVs g w b (xs.drop a.length) O2∧∀ c,O c=O1 c+O2 c:=by
 induction a generalizing xs O with
 | nil=>exact⟨zero,O,by simp[RVs],by simp_all,fun c=>by simp⟩
 | cons v a ih =>
  obtain⟨x,s,O1,O2,rfl,r1,r2,h⟩:=r;obtain⟨P1,P2,q1,q2,h2⟩:=ih r2;refine⟨fun c=>O1 c+P1 c,P2,?_,by simp_all,fun c=>by grind⟩
  grind [RVs]
theorem RVs.join {a b:List AV}{xs ys:List Value}{O1 O2:Nat→Nat}(r1:RVs g w a xs O1) (r2:RVs g w b ys O2) :
  RVs g w (a++b) (xs++ys) fun c=>O1 c+O2 c:=by
 induction a generalizing xs O1 with
 | nil =>
  simp_all [RVs]
 | cons v a ih =>
  grind [RVs]
theorem RVs.get {cs:List AV}{xs:List Value}{O:Nat→Nat}(r:RVs g w cs xs O) {i:Nat}{v:AV}(h:cs[i]?=some v) :
  ∃ x O1,xs[i]?=some x∧RV g w v x O1∧∀ c,O1 c≤O c:=by
 induction cs generalizing xs O i<;>grind [RVs]
theorem RVs.pull {cs:List AV}{xs:List Value}{O:Nat→Nat}(r:RVs g w cs xs O) {i:Nat}{v:AV}(h:cs[i]?=some v) :
  ∃ x O1 O2,xs[i]?=some x∧RV g w v x O1∧RVs g w (cs.set i .junk) xs O2∧∀ c,O1 c+O2 c=O c:=by
 induction cs generalizing xs O i with
 | nil=>simp at h
 | cons c cs ih =>
  obtain⟨x,s,O1,O2,rfl,r1,r2,hs⟩:=r
  cases i with
  | zero =>
   simp at h;subst h;refine⟨x,O1,O2,rfl,r1,?_,fun c=>(hs c).symm⟩;exact⟨x,s,zero,O2,rfl,by simp[RV],r2,fun c=>by simp⟩
  | succ i =>
   obtain⟨y,P1,P2,h1,h2,h3,h4⟩:=ih r2 h;refine⟨y,P1,fun c=>O1 c+P2 c,by simp_all,h2,?_,fun c=>by grind⟩
   grind [RVs]
theorem RVs.sub {cs:List AV}{xs:List Value}{O:Nat→Nat}(r:RVs g w cs xs O) (off n:Nat) :
  ∃ O1,RVs g w (Vm.sub cs off n) ((xs.drop off).take n) O1∧∀ c,O1 c≤O c:=by
 have hlen:=r.length;have e:cs=cs.take off++(Vm.sub cs off n++(cs.drop off).drop n):=by
  grind [Vm.sub,List.take_append_drop]
 rw[e]at r;obtain⟨O1,O2,r1,r2,h⟩:=r.split;obtain⟨P1,P2,q1,q2,h2⟩:=r2.split;refine⟨P1,?_,fun c=>by grind⟩
 grind [List.length_take,Nat.min_eq_left,Nat.min_eq_right,List.drop_eq_nil_of_le,Vm.sub,List.length_drop,List.take_of_length_le]
theorem IP {v:AV}{n:Nat}{x:Value}{O:Nat→Nat}(h:lenOf v=some n) (r:RV g w v x O):∃ a cap,x=.slice a n cap:=by
 unfold lenOf at h;split at h<;>simp only[Option.some.injEq,reduceCtorEq]at h
 ·obtain⟨r,_⟩:=r
  cases r<;>simp_all
 all_goals grind [RV,wb]
end
section
variable {P:Program}{g:Gh}{w:World}{t:Array Value}{O:Nat→Nat}{st st':St}{a:AV}{o:Oper}
theorem kI {c:Callee}{b:Builtin}(h:HB (kD c) (some b)=true):c=.builtin b:=by
 cases c<;>simp[kD,HB]at h
 simp_all
theorem Uf {c:Call}(h:Nat.blt 0 c.argTypes.size=true):c.argTypes[0]?=some (mE c):=by
 simp_all [mE]
theorem adA {x:Rd}{as:Array Operand}(h:b6 [x] as.toList=true):∃ y,as=#[y]∧be x y=true:=by
 obtain⟨l⟩:=as
 match l,h with
 | [],h=>simp[b6]at h
 | [y],h=>grind [b6]
 | _::_::_,h=>simp[b6]at h
theorem aeD {x x2:Rd}{as:Array Operand}(h:b6 [x,x2] as.toList=true):∃ y y2,as=#[y,y2]∧be x y=true∧be x2 y2=true:=by
 obtain⟨l⟩:=as
 match l,h with
 | [],h=>simp[b6]at h
 | [y],h=>simp[b6]at h
 | [y,y2],h=>grind [b6]
 | _::_::_::_,h=>simp[b6]at h
theorem arn {x:Rd}(s:S P g w st t O) (h:J7 x st=some (a,st')) (hc:aE P (.len x) o.op=true) :
  cO P g w t O st' a ((execOp (ev t) o).run P w):=by
 simp only[aE]at hc;split at hc
 ·simp only[Bool.and_eq_true]at hc;obtain⟨⟨⟨h1,h2⟩,h3⟩,h4⟩:=hc;have:=kI h1;obtain⟨y,e1,hy⟩:=adA h4;obtain⟨v,e',h5,h6⟩:=JO h;obtain⟨Ov,O',rv,s',l⟩:=s.rd hy h5;have hty:=Uf h2;split at h6
  ·rename_i n hn;obtain⟨rfl,rfl⟩:=h6;obtain⟨ad,cap,hx⟩:=IP hn rv;split at h3
   ·refine .flat s (x:=.int .i64 n) ?_ (n9 _ _) s' (S.le_left l)
    simp_all [execOp,resolve,invoke,builtin,Builtin.len_,goInt,ar]
   simp_all
  simp_all
 simp_all
theorem are {x:Rd}(s:S P g w st t O) (h:G5 x st=some (a,st')) (hc:aE P (.cap x) o.op=true) :
  cO P g w t O st' a ((execOp (ev t) o).run P w):=by
 obtain⟨dst,op,ty,pos,aft,gd⟩:=o;simp only[aE]at hc;split at hc
 ·rename_i c;simp only[Bool.and_eq_true]at hc;obtain⟨⟨⟨h1,h2⟩,h3⟩,h4⟩:=hc;obtain⟨callee,args,ats⟩:=c;have:=kI h1;subst this;obtain⟨y,e1,hy⟩:=adA h4;subst e1;unfold G5 at h;split at h
  ·rename_i e' h5;obtain⟨Ov,O',rv,s',l⟩:=s.rd hy h5;have hty:=Uf h2;obtain⟨rfl,rfl⟩:=h;split at h3
   ·rename_i e hu;refine .flat s (x:=.int .i64 0) ?_ (n9 _ _) s' (S.le_left l);simp[execOp,resolve,invoke,builtin,Builtin.cap_,hty,rv.1,ar hu,goInt]
   simp_all
  simp_all
 simp_all
theorem QL {v r:AV}{off:Nat}{x:Value}{Ov:Nat→Nat}(h:fZ off v=some r) (rv:RV g w v x Ov) :
  ∃ b o,x=.pointer (some ⟨b,o,none⟩)∧RV g w r (.pointer (some ⟨b,o+off,none⟩)) zero:=by
 unfold fZ at h
 grind [RV]
theorem ato {off:Nat}{p:Rd}(s:S P g w st t O) (h:Sp off p st=some (a,st')) (hc:aE P (.fa off p) o.op=true) :
  cO P g w t O st' a ((execOp (ev t) o).run P w):=by
 obtain⟨dst,op,ty,pos,aft,gd⟩:=o;simp only[aE]at hc;split at hc
 ·simp only[Bool.and_eq_true]at hc;obtain⟨h1,h2⟩:=hc;obtain⟨v,e',h5,h6⟩:=JO h;obtain⟨Ov,O',rv,s',l⟩:=s.rd h2 h5;split at h6
  ·rename_i r hr;obtain⟨rfl,rfl⟩:=h6;obtain⟨b,k,hx,rr⟩:=QL hr rv;simp only[acw]at h1;split at h1
   ·split at h1
    ·split at h1
     ·rename_i i hi;have hz:¬ i.size=0:=by
       grind [Nat.blt_eq]
      refine .flat s (x:=_) ?_ rr s' (S.le_left l)
      simp_all [execOp,Instr.fieldAt,Instr.sureAddr,fieldPlace,sizeOf,typeInfo,gU,ar]
     simp_all
    simp_all
   simp_all
  simp_all
 simp_all
theorem anM {f:FuncId}{first caps:List Rd}(s:S P g w st t O) (h:Cj f first caps st=some (a,st')) (hc:aE P (.mkfn f first caps) o.op=true) :
  cO P g w t O st' a ((execOp (ev t) o).run P w):=by
 obtain⟨dst,op,ty,pos,aft,gd⟩:=o;simp only[aE]at hc;split at hc
 ·rename_i f' xs ys;simp only[Bool.and_eq_true,Nat.beq_eq]at hc;obtain⟨⟨rfl,h1⟩,h2⟩:=hc;unfold Cj at h;split at h
  ·rename_i va e1 h3;obtain⟨O1,O2,r1,s1,l1⟩:=s.rdAll h1 h3;split at h
   ·rename_i vc e2 h4;obtain⟨O3,O4,r2,s2,l2⟩:=s1.rdAll h2 h4;obtain⟨rfl,rfl⟩:=h;refine .flat s (x:=.func (.func f) (xs.map (ev t)) (ys.map (ev t))) (by simp[execOp,Instr.makeFunc]) ?_ s2 fun b=>by grind
    simp only[RV];exact⟨⟨_,_,rfl,by simpa using RVs.share _ _ _ r1,by simpa using RVs.share _ _ _ r2⟩,fun _=>trivial⟩
   simp_all
  simp_all
 simp_all
end
section
variable {P:Program}{g:Gh}{w:World}{t:Array Value}{O:Nat→Nat}{st st':St}{a:AV}{o:Oper}
theorem CY {v:AV}{n:Nat}{x:Value}{Ov:Nat→Nat}(h:lR v=some n) (r:RV g w v x Ov):∃ k,x=.int k (n:Int):=by
 unfold lR at h;split at h<;>simp only[Option.some.injEq,reduceCtorEq]at h;obtain⟨r,_⟩:=r;cases r;simp_all
theorem xT {v:AV}{n top:Nat}{x:Value}{Ov:Nat→Nat}(h:cB v top=some n) (r:RV g w v x Ov):(∃ k,x=.int k (n:Int))∧n≤top:=by
 unfold cB at h;split at h
 ·split at h<;>simp only[Option.some.injEq,reduceCtorEq]at h;obtain⟨r,_⟩:=r;cases r;simp_all
 simp_all
theorem cm {ty:TypeId}{n:Nat}(h:pX P ty n=true):(sizeOf ty).run P w=.ok n w:=by
 unfold pX at h;split at h<;>simp_all [sizeOf,typeInfo]
theorem qn {ty:TypeId}(h:u5 P ty=true):(isAgg ty).run P w=.ok true w:=by
 unfold u5 at h;split at h<;>simp_all [isAgg,ar]
theorem uE {ty:TypeId}(h:CQ P ty=true):(isAgg ty).run P w=.ok false w:=by
 unfold CQ at h;split at h<;>try (simp at h;done)
 simp_all [isAgg,ar]
theorem Zj {ty:TypeId}{n:Option Nat}(ht:kL P ty n=true) {cs:List AV}{xs:Array Value}{Ov:Nat→Nat}(r:RVs g w cs xs.toList Ov) {off:Nat}{v:AV}
  (h:yD n cs off=some v) :
  ∃ x O1,(part ty xs off).run P w=.ok x w∧RV g w v x O1∧∀ b,O1 b≤Ov b:=by
 cases n with
 | none =>
  simp only[kL]at ht;obtain⟨x,O1,hx,rv,l⟩:=r.get h;refine⟨x,O1,?_,rv,l⟩
  simp_all [part,uE]
 | some n =>
  simp only[kL,Bool.and_eq_true]at ht;simp only[yD]at h;split at h
  ·simp only[Option.some.injEq]at h;subst h;obtain⟨O1,r1,l⟩:=r.sub off n;refine⟨.agg (xs.extract off (off+n)),O1,by simp[part,qn ht.1,cm ht.2],?_,l⟩
   simp_all [RV]
  simp_all
theorem apW {off:Nat}{n:Option Nat}{x:Rd}(s:S P g w st t O) (h:GU off n x st=some (a,st')) (hc:aE P (.fld off n x) o.op=true) :
  cO P g w t O st' a ((execOp (ev t) o).run P w):=by
 simp only[aE]at hc;split at hc
 ·simp only[Bool.and_eq_true]at hc;obtain⟨h1,h2⟩:=hc;unfold GU at h;split at h
  ·rename_i cs e' h5;obtain⟨Ov,O',rv,s',l⟩:=s.rd h2 h5;obtain⟨xs,hx,rv⟩:=rv;simp only[Mw]at h1;split at h1
   ·split at h1
    ·simp only[Bool.and_eq_true,Nat.beq_eq]at h1;obtain⟨rfl,h1⟩:=h1;split at h
     ·rename_i v hv;obtain⟨rfl,rfl⟩:=h;obtain⟨z,O1,hz,rz,l1⟩:=Zj (P:=P) h1 rv hv;refine .pure s (x:=z) ?_ rz s' fun b=>by grind
      simp_all [execOp,Instr.field,asAgg,ar]
     simp_all
    simp_all
   simp_all
  simp_all
 simp_all
theorem aoY {j:Nat}{mv:Bool}{i:Nat}(s:S P g w st t O) (h:uF j mv i st=some (a,st')) (hc:aE P (.ext j mv i) o.op=true) :
  cO P g w t O st' a ((execOp (ev t) o).run P w):=by
 obtain⟨dst,op,ty,pos,aft,gd⟩:=o;simp only[aE]at hc;split at hc
 ·simp only[Bool.and_eq_true,Nat.beq_eq]at hc;obtain⟨rfl,rfl⟩:=hc;unfold uF at h;split at h
  ·rename_i vs hg;split at h
   ·rename_i v hv;obtain⟨Oe,Oh,re,rh,ho⟩:=s.parts;obtain⟨O1,O2,⟨hlt,q⟩,r2,hs⟩:=RL.take re hg;obtain⟨xs,hx,q⟩:=q;obtain⟨x,P1,P2,hx2,rv,rj,hl⟩:=q.pull hv;have hrun:(execOp (ev t) ⟨dst,.extract (.tmp j) i,ty,pos,aft,gd⟩).run P w=.ok (.value x) w:=by
     simp_all [execOp,ev,Instr.extract]
    cases mv with
    | false =>
     grind [cO.flat,RV.share]
    | true =>
     obtain⟨rfl,rfl⟩:=h;obtain⟨O3,r3,h3⟩:=RL.put s.se r2 (i:=j) (x:=AV.tup (vs.set i .junk)) (O1:=P2) ⟨hlt,by grind [RV]⟩;refine .pure s hrun rv (s.of_env (O':=fun b=>O3 b+Oh b) r3 rh (s.se.put _ _) (fun _=>rfl) fun b=>?_) fun b=>?_
     all_goals grind
   simp_all
  simp_all
 simp_all
theorem agO {ty:TypeId}{l e:Nat}(hu:P.underlying ty=some (.array l e)) {xs:Array Value}{k:IntKind}{i n:Nat}(hi:i<l) (hs:pX P e n=true) :
  (Instr.index ty (.agg xs) (.int k (i:Int))).run P w=(part e xs (i*n)).run P w:=by
 simp[Instr.index,asIntOf,ar hu,hi,cm hs]
theorem asf {len n:Nat}{agg:Bool}{x i:Rd}(s:S P g w st t O) (h:Nm len n agg x i st=some (a,st')) (hc:aE P (.ix len n agg x i) o.op=true) :
  cO P g w t O st' a ((execOp (ev t) o).run P w):=by
 obtain⟨dst,op,ty,pos,aft,gd⟩:=o;simp only[aE]at hc;split at hc
 ·simp only[Bool.and_eq_true]at hc;obtain⟨⟨h1,h2⟩,h3⟩:=hc;unfold Nm at h;split at h
  ·rename_i cs e1 h5;obtain⟨Ov,O1,rv,s1,l1⟩:=s.rd h2 h5;obtain⟨xs,hx,rv⟩:=rv;split at h
   ·rename_i vi e2 h6;obtain⟨Oi,O2,ri,s2,l2⟩:=s1.rd h3 h6;split at h
    ·rename_i k hk;obtain⟨kk,hk2⟩:=CY hk ri;split at h
     ·simp at h
     ·have hlt:k<len:=by grind [Nat.ble_eq]
      simp only[Qg]at h1;split at h1
      ·rename_i l el hu;simp only[Bool.and_eq_true,Nat.beq_eq]at h1;obtain⟨⟨rfl,hsz⟩,hag⟩:=h1;split at h
       ·rename_i v hv;obtain⟨rfl,rfl⟩:=h;have hc:kL P el (W5 agg n)=true:=by
         grind [kL,W5]
        obtain⟨z,O3,hz,rz,l3⟩:=Zj (P:=P) hc rv hv;refine .pure s (x:=z) ?_ rz s2 fun b=>by grind
        simp only[execOp,hx,hk2];rw[Sem.run_bind,agO hu hlt hsz,hz];rfl
       simp_all
      simp_all
    simp_all
   simp_all
  simp_all
 simp_all
theorem aqL {x i:Rd}(s:S P g w st t O) (h:Fy x i st=some (a,st')) (hc:aE P (.ixs x i) o.op=true) :
  cO P g w t O st' a ((execOp (ev t) o).run P w):=by
 simp only[aE]at hc;split at hc
 ·simp only[Bool.and_eq_true]at hc;obtain⟨⟨h1,h2⟩,h3⟩:=hc;unfold Fy at h;split at h
  ·rename_i str e1 h5;obtain⟨Ov,O1,rv,s1,l1⟩:=s.rd h2 h5;have hx:=Xg rv rfl;split at h
   ·rename_i vi e2 h6;obtain⟨Oi,O2,ri,s2,l2⟩:=s1.rd h3 h6;split at h
    ·rename_i k hk;obtain⟨kk,hk2⟩:=CY hk ri;split at h
     ·rename_i b hb;obtain⟨rfl,rfl⟩:=h;simp only[Hc]at h1;split at h1
      ·refine .flat s (x:=.int .u8 b.toNat) ?_ (n9 _ _) s2 fun c=>by grind
       have hlen:k<str.length:=by
        grind
       have hg:(⟨str.toArray⟩:ByteArray)[k]?=some b:=by
        have hs:k<(⟨str.toArray⟩:ByteArray).size:=hlen;rw[getElem?_pos (⟨str.toArray⟩:ByteArray) k hs];rw[List.getElem?_eq_getElem hlen]at hb;exact hb
       simp_all [execOp,Instr.index,asIntOf,ar]
      simp_all
     simp_all
    simp_all
   simp_all
  simp_all
 simp_all
theorem aoD {len n:Nat}{p i:Rd}(s:S P g w st t O) (h:EO len n p i st=some (a,st')) (hc:aE P (.iarr len n p i) o.op=true) :
  cO P g w t O st' a ((execOp (ev t) o).run P w):=by
 obtain⟨dst,op,ty,pos,aft,gd⟩:=o;simp only[aE]at hc;split at hc
 ·simp only[Bool.and_eq_true]at hc;obtain⟨⟨h1,h2⟩,h3⟩:=hc;obtain⟨v,vi,e,Ov,Oi,O',rv,ri,s',l,hk⟩:=JE s h2 h3 h;split at hk
  ·rename_i k hk1;obtain⟨kk,hk2⟩:=CY hk1 ri;split at hk
   ·simp at hk
   ·have hlt:k<len:=by grind [Nat.ble_eq]
    split at hk
    ·rename_i r hr;obtain⟨rfl,rfl⟩:=hk;obtain⟨b,off,hx,rr⟩:=QL hr rv;simp only[Kf]at h1;split at h1
     ·rename_i l' el hu;simp only[Bool.and_eq_true,Nat.beq_eq]at h1;obtain⟨⟨rfl,hsz⟩,_⟩:=h1;refine .flat s (x:=_) ?_ rr s' fun c=>by grind
      simp[execOp,hx,hk2,Instr.indexAt,asIntOf,ar hu,Instr.sureAddr,hlt,cm hsz,gU]
     simp_all
    simp_all
  simp_all
 simp_all
end
theorem B0 {xs:List (List D)}{m:Nat}(h:∀ e∈xs,e.length=m) (l:Nat):(xs.drop l).flatten=xs.flatten.drop (l*m):=by
 induction xs generalizing l with
 | nil=>simp
 | cons a r ih =>
  cases l<;>simp_all [Nat.succ_mul,List.drop_append]
theorem Cg {xs:List (List D)}{m:Nat}(h:∀ e∈xs,e.length=m) (l:Nat):(xs.take l).flatten=xs.flatten.take (l*m):=by
 induction xs generalizing l with
 | nil=>simp
 | cons a r ih =>
  cases l<;>simp_all [Nat.succ_mul,List.take_append,List.take_of_length_le]
theorem AK {xs:List (List D)}{m:Nat}(h:∀ e∈xs,e.length=m) (l n:Nat):∀ e∈sub xs l n,e.length=m :=
 fun e he=>h e (List.mem_of_mem_drop (List.mem_of_mem_take he))
theorem jF {xs:List (List D)}{m:Nat}(h:∀ e∈xs,e.length=m) (l n:Nat):(sub xs l n).flatten=sub xs.flatten (l*m) (n*m):=by
 grind [sub,Cg,B0]
theorem ab2 {α:Type}{xs:List α}{l n j:Nat}{c:α}(h:(sub xs l n)[j]?=some c):xs[l+j]?=some c∧j<n:=by
 grind [sub]
theorem fN {α:Type}{xs:List α}{l n:Nat}(h:l+n≤xs.length):(sub xs l n).length=n:=by
 grind [sub]
theorem IJ {xs:List (List D)}{m:Nat}(h:∀ e∈xs,e.length=m) {i j:Nat}{e:List D}{c:D}(hi:xs[i]?=some e) (hj:e[j]?=some c) :
  xs.flatten[i*m+j]?=some c:=by
 rw[←List.getElem?_drop,←B0 h]
 grind [List.drop_eq_getElem_cons]
section
variable {g:Gh}{w:World}
theorem RD.list {pm:Nat→Nat→Prop}{xs:List (List D)}{x:Value}(r:RD w pm (.lst xs) x) :
  (xs=[]∧∃ a cap,x=.slice a 0 cap)∨∃ b off m cap,x=.slice (some ⟨b,off,none⟩) xs.length cap∧0<m∧xs.length≤cap∧(∀ e∈xs,e.length=m)∧
   eu w pm xs.flatten b off∧∀ j,j<xs.length*m→pm b (off+j):=by
 cases r with
 | nil a cap=>simp_all
 | lst xs b off m cap u hm hcap hl hc hr =>
  refine .inr ⟨b,off,m,cap,rfl,hm,hcap,hl,fun j c hj=>⟨u j,(hc j c hj).1,hr j c hj⟩,fun j hj=>?_⟩;have:j<xs.flatten.length:=by grind [cY]
  simp_all
theorem TE {h:af}{v:AV}{xs:List (List D)}{x:Value}{O:Nat→Nat}(he:elems h v=some xs) (hn:oA v=false) (r:RV g w v x O) :
  RD w g.pm (.lst xs) x:=by
 cases v with
 | d c =>
  cases c<;>simp only[elems,reduceCtorEq,Option.some.injEq]at he
  grind [RV]
 | nl=>simp only[elems,Option.some.injEq]at he;subst he;rw[r.1];exact .nil _ _
 | own p m ys =>
  cases p<;>simp only[elems,reduceCtorEq,Option.some.injEq]at he
  have:=RV.share _ _ _ r
  grind [share,RV]
 | sl id off len=>simp[oA]at hn
 | _=>simp[elems]at he
theorem eu.sub {pm:Nat→Nat→Prop}{cs:List D}{b off:Nat}(r:eu w pm cs b off) (l n:Nat):eu w pm (Vm.sub cs l n) b (off+l):=by
 intro j c hj;obtain⟨h1,_⟩:=ab2 hj;obtain⟨u,hu,hr⟩:=r _ c h1
 grind
theorem eu.elem {pm:Nat→Nat→Prop}{xs:List (List D)}{m b off:Nat}(r:eu w pm xs.flatten b off) (hl:∀ e∈xs,e.length=m) {i:Nat}{e:List D}
  (hi:xs[i]?=some e):eu w pm e b (off+i*m):=by
 intro j c hj;obtain⟨u,hu,hr⟩:=r _ c (IJ hl hi hj)
 grind
theorem yc {α:Type}{xs:List α}{i:Nat}{x:α}(h:xs[i]?=some x):i<xs.length:=by
 grind
end
section
variable {P:Program}{g:Gh}{w:World}{t:Array Value}{O:Nat→Nat}{st st':St}{a:AV}{o:Oper}
theorem dR {ty:TypeId}{m:Nat}(h:dW P ty m=true):∃ e,P.underlying ty=some (.slice e)∧pX P e m=true∧0<m∧P.bytesOf e≤4096:=by
 grind [dW,Nat.blt_eq,Nat.ble_eq]
theorem LK {ty:TypeId}{n:Nat}(h:dW P ty n=true) {b off len cap i:Nat}{k:IntKind}(hi:i<len) :
  (Instr.indexAt ty (.slice (some ⟨b,off,none⟩) len cap) (.int k (i:Int))).run P w=.ok (.pointer (some ⟨b,off+i*n,none⟩)) w:=by
 obtain⟨e,hu,hs,_⟩:=dR h;simp[Instr.indexAt,asIntOf,ar hu,hi,cm hs,gU]
theorem aty {n:Nat}{x i:Rd}(s:S P g w st t O) (h:Yx n x i st=some (a,st')) (hc:aE P (.ia n x i) o.op=true) :
  cO P g w t O st' a ((execOp (ev t) o).run P w):=by
 obtain⟨dst,op,ty,pos,aft,gd⟩:=o;simp only[aE]at hc;split at hc
 ·rename_i ty' y j;simp only[Bool.and_eq_true]at hc;obtain⟨⟨h1,h2⟩,h3⟩:=hc;obtain⟨v,vi,e,Ov,Oi,O',rv,ri,s',l,hk⟩:=JE s h2 h3 h;split at hk
  ·rename_i k hk1;obtain⟨kk,hk2⟩:=CY hk1 ri;have fin:∀ {r:AV}{b off:Nat},(∃ len cap bo oo,ev t y=.slice (some ⟨bo,oo,none⟩) len cap∧k<len∧b=bo∧off=oo+k*n)→
     RV g w r (.pointer (some ⟨b,off,none⟩)) zero→cO P g w t O ⟨e,st.hs⟩ r ((execOp (ev t) ⟨dst,.indexAddr ty' y j,ty,pos,aft,gd⟩).run P w):=by
    rintro r b off ⟨len,cap,bo,oo,hx,hlt,rfl,rfl⟩ rr
    refine .flat s (x:=_) ?_ rr s' fun c=>by grind
    simp only[execOp,hx,hk2];rw[Sem.run_bind,LK h1 hlt];rfl
   have hnsl:oA v=false→∀ {xs:List (List D)}{el:List D},elems st.hs.heap v=some xs→xs[k]?=some el→el.length=n→
     cO P g w t O ⟨e,st.hs⟩ (.pim el 0) ((execOp (ev t) ⟨dst,.indexAddr ty' y j,ty,pos,aft,gd⟩).run P w):=by
    intro hn xs el he hxk hlen;have rd:=TE he hn rv;rcases rd.list with ⟨rfl,_⟩ | ⟨b,off,m,cap,hx,hm,hcap,hl,hrc,hp⟩
    ·simp_all
    ·have hmn:m=n:=by grind
     subst hmn;refine fin (b:=b) (off:=off+k*m) ⟨_,cap,b,off,hx,yc hxk,rfl,rfl⟩ ?_;simp only[RV];refine⟨⟨b,off+k*m,by simp,hrc.elem hl hxk,fun q hq=>?_⟩,fun _=>trivial⟩;rw[Nat.add_assoc];refine hp _ ?_;have:=yc hxk;have:(k+1)*m≤xs.length*m:=Nat.mul_le_mul_right _ this
     grind
   split at hk
   ·rename_i id off len;split at hk
    ·simp at hk
    ·have hlt:k<len:=by grind [Nat.ble_eq]
     obtain⟨hsl,_⟩:=rv;rcases hsl with ⟨rfl,_⟩ | ⟨b,cap,hob,hx,_,_⟩
     ·omega
     obtain⟨Oe,Oh,re,rh,ho⟩:=s.parts
     grind [Nat.beq_eq,RL.get,fK,RV]
   ·have hn:oA v=false:=by cases v<;>first | rfl | simp_all
    grind [Nat.beq_eq]
  simp_all
 simp_all
end
section
variable {P:Program}{g:Gh}{w:World}{t:Array Value}{O:Nat→Nat}{st st':St}{a:AV}{o:Oper}
def RO (g:Gh) (w:World):Option AV→Option Value→Prop
 | none,none=>True
 | some v,some x=>∃ Ov,RV g w v x Ov
 | _,_=>False
theorem S.rdOpt {r:Option Rd}{oo:Option Operand}(s:S P g w st t O) (hc:uJ r oo=true) {vo:Option AV}{e':aq}(h:rdOpt st.env r=some (vo,e')) :
  ∃ O',RO g w vo (oo.map (ev t))∧S P g w ⟨e',st.hs⟩ t O'∧∀ b,O' b≤O b:=by
 cases r with
 | none =>
  cases oo<;>simp[uJ]at hc
  obtain⟨rfl,rfl⟩:=h;exact⟨O,trivial,s,fun b=>Nat.le_refl _⟩
 | some r =>
  cases oo with
  | none=>simp[uJ]at hc
  | some o =>
   obtain⟨v,e1,h1,h2⟩:=JO h;obtain⟨rfl,rfl⟩:=h2;obtain⟨Ov,O',rv,s',l⟩:=s.rd hc h1;exact⟨O',⟨Ov,rv⟩,s',S.le_left l⟩
theorem qF {v:AV}{x:Value}{Ov:Nat→Nat}(r:RV g w v x Ov) {n top y:Nat}(h:cB v top=some n) (hy:top≤y) (c:BoundsCode) :
  (Instr.sliceBound x y c).run P w=.ok n w∧n≤top:=by
 obtain⟨⟨k,rfl⟩,hn⟩:=xT h r;refine⟨?_,hn⟩;have:(n:Int)≤y:=by omega
 simp_all [Instr.sliceBound,asIntOf]
theorem Pk {lo hi mx:Option AV}{lo' hi' mx':Option Value}(r1:RO g w lo lo') (r2:RO g w hi hi') (r3:RO g w mx mx') {b:Bool}{len cap l h m:Nat}
  (hcap:len≤cap) (hb:sm len lo hi mx=some (l,h,m)) :
  ∃ m',(Instr.sliceBounds b len cap lo' hi' mx').run P w=.ok (l,h,m') w∧l≤h∧h≤len∧h≤m'∧m'≤cap:=by
 unfold sm at hb;have fin:∀ (h0 m':Nat),h0≤len→h0≤m'→m'≤cap→qu lo h0 m=some (l,h,m)→
   ∃ l',(match (generalizing:=false) lo' with | some v=>Instr.sliceBound v h0 (if mx'.isSome then .slice3C else .sliceB) | none=>pure 0).run P w=.ok l' w∧l'=l∧h0=h∧l≤h:=by
  intro h0 m' e1 e2 e3 e4
  cases lo with
  | none =>
   cases lo' with
   | some x=>exact r1.elim
   | none =>
    simp only[qu,Option.some.injEq,Prod.mk.injEq]at e4;exact⟨0,rfl,e4.1,e4.2.1,by omega⟩
  | some v =>
   cases lo' with
   | none=>exact r1.elim
   | some x =>
    obtain⟨Ov,rv⟩:=r1;simp only[qu]at e4;split at e4
    ·rename_i n hn;obtain⟨h1,h2⟩:=qF (P:=P) rv hn (Nat.le_refl h0) (if mx'.isSome then .slice3C else .sliceB)
     simp_all
    simp_all
 cases mx with
 | none =>
  cases mx' with
  | some x=>exact r3.elim
  | none =>
   simp only at hb
   cases hi with
   | none =>
    cases hi' with
    | some x=>exact r2.elim
    | none =>
     have hm:m=len:=by
      cases lo<;>grind [qu]
     grind [Instr.sliceBounds,Sem.run_bind,Sem.run_pure,Result.andThen_ok]
   | some v =>
    cases hi' with
    | none=>exact r2.elim
    | some x =>
     obtain⟨Ov,rv⟩:=r2;split at hb
     ·simp at hb
     ·rename_i h0 hh;have hm:m=len:=by
       cases lo<;>grind [qu]
      subst hm;obtain⟨h5,h6⟩:=qF (P:=P) rv hh hcap (if b then .sliceAcap else .sliceAlen);obtain⟨l',h1,rfl,rfl,h4⟩:=fin h0 cap h6 (by omega) (Nat.le_refl _) hb;refine⟨cap,?_,h4,h6,by omega,Nat.le_refl _⟩
      grind [Instr.sliceBounds,Sem.run_bind,Sem.run_pure,Result.andThen_ok]
 | some vm =>
  cases mx' with
  | none=>exact r3.elim
  | some xm =>
   obtain⟨Om,rm⟩:=r3;simp only at hb;split at hb
   ·simp at hb
   ·rename_i m0 hm0;obtain⟨h7,h8⟩:=qF (P:=P) rm hm0 hcap (if b then .slice3Acap else .slice3Alen)
    cases hi with
    | none=>simp at hb
    | some v =>
     cases hi' with
     | none=>exact r2.elim
     | some x =>
      obtain⟨Ov,rv⟩:=r2;split at hb
      ·simp at hb
      ·rename_i h0 hh;have hm:m=m0:=by
        cases lo<;>grind [qu]
       subst hm;obtain⟨h5,h6⟩:=qF (P:=P) rv hh (Nat.le_refl m) .slice3B;obtain⟨l',h1,rfl,rfl,h4⟩:=fin h0 m (by omega) h6 (by omega) hb;refine⟨m,?_,h4,by omega,h6,by omega⟩;simp only[Instr.sliceBounds,Sem.run_bind,Result.andThen_ok,h5,h7]
       cases lo'<;>simp_all
theorem afJ {b:Bool}{v u r:AV}{x y:Value}{Ov Ou:Nat→Nat}(rv:RV g w v x Ov) (ru:RV g w u y Ou) (h:BW b v u=some r) :
  ∃ z,(match b with | true=>Builtin.max2 x y | false=>Builtin.min2 x y).run P w=.ok z w∧RV g w r z zero:=by
 unfold BW at h;split at h
 ·rename_i k m j n;have hx:=r5 rv rfl;have hy:=r5 ru rfl;subst hx hy;split at h
  ·cases b
   ·simp only[Bool.false_eq_true,if_false]at h;split at h
    ·simp only[Option.some.injEq]at h;subst h
     simp_all [Builtin.min2,n9]
    ·rename_i hd;simp only[decide_eq_false_iff_not]at hd;simp only[Option.some.injEq]at h;subst h;exact⟨.int k m,by simp[Builtin.min2,hd],n9 _ _⟩
   ·simp only[if_true]at h;split at h
    ·simp only[Option.some.injEq]at h;subst h
     simp_all [Builtin.max2,n9]
    ·rename_i hd;simp only[decide_eq_false_iff_not]at hd;simp only[Option.some.injEq]at h;subst h;exact⟨.int k m,by simp[Builtin.max2,hd],n9 _ _⟩
  simp_all
 simp_all
end
section
variable {P:Program}{g:Gh}{w:World}{t:Array Value}{O:Nat→Nat}{st st':St}{a:AV}{o:Oper}
theorem agS {ty:TypeId}{sz:Nat}(hty:dW P ty sz=true) {ad:Option Addr}{len cap l h m':Nat}{lo hi mx:Option Value}
  (hb:(Instr.sliceBounds true len cap lo hi mx).run P w=.ok (l,h,m') w) :
  (Instr.sliceAt ty (.slice ad len cap) lo hi mx).run P w=.ok (.slice (if m'=l then ad else ad.map (·.add (l*sz))) (h-l) (m'-l)) w:=by
 obtain⟨e,hu,hs,_⟩:=dR hty;simp only[Instr.sliceAt,Sem.run_bind,ar hu,Result.andThen_ok,Instr.slice,hb,cm hs,Sem.run_pure]
theorem RD.slice {w:World}{pm:Nat→Nat→Prop}{xs:List (List D)}{ad:Option Addr}{len cap l h m' sz:Nat}(r:RD w pm (.lst xs) (.slice ad len cap))
  (hk:uq sz xs=true) (h1:l≤h) (h2:h≤len) (h3:h≤m') (h4:m'≤cap) :
  RD w pm (.lst (sub xs l (h-l))) (.slice (if m'=l then ad else ad.map (·.add (l*sz))) (h-l) (m'-l)):=by
 rcases r.list with ⟨rfl,a,c,e⟩ | ⟨b,off,m,c,e,hm,hcap,hl,hrc,hp⟩
 ·injection e with e1 e2 e3
  have hh:h-l=0:=by omega
  rw[hh];exact .nil _ _
 ·injection e with e1 e2 e3
  subst e1 e2 e3;have hlen:(sub xs l (h-l)).length=h-l:=fN (by omega);by_cases hz:h-l=0
  ·have:sub xs l (h-l)=[]:=by simp_all
   rw[this,hz];exact .nil _ _
  ·have hml:m'≠l:=by omega
   have hsz:sz=m:=by
    cases xs<;>grind [uq,Nat.beq_eq]
   subst hsz;simp only[Option.map_some,gU];have hsl:=AK hl l (h-l);have:=eu.rd (w:=w) (pm:=pm) (xs:=sub xs l (h-l)) (b:=b) (off:=off+l*sz) (m:=sz) (cap:=m'-l) hm (by omega) hsl
    (by simp_all [jF,eu.sub]) (fun j hj=>?_)
   ·simp_all
   ·rw[hlen]at hj;rw[Nat.add_assoc];refine hp _ ?_;have:l*sz+(h-l)*sz≤xs.length*sz:=by rw[←Nat.add_mul];simp_all [Nat.mul_le_mul_right]
    omega
theorem aj4 {m:Nat}{x:Rd}{lo hi mx:Option Rd}(s:S P g w st t O) (h:Fd m x lo hi mx st=some (a,st')) (hc:aE P (.slice m x lo hi mx) o.op=true) :
  cO P g w t O st' a ((execOp (ev t) o).run P w):=by
 obtain⟨dst,op,ty,pos,aft,gd⟩:=o;simp only[aE]at hc;split at hc
 ·rename_i ty' y l' h' k';simp only[Bool.and_eq_true]at hc;obtain⟨⟨⟨⟨h1,h2⟩,h3⟩,h4⟩,h5⟩:=hc;obtain⟨v,e1,r1,k1⟩:=JO h;obtain⟨Ov,O1,rv,s1,l1⟩:=s.rd h2 r1;split at k1
  ·rename_i vl e2 r2;obtain⟨O2,q2,s2,l2⟩:=s1.rdOpt h3 r2;split at k1
   ·rename_i vh e3 r3;obtain⟨O3,q3,s3,l3⟩:=s2.rdOpt h4 r3;split at k1
    ·rename_i vm e4 r4;obtain⟨O4,q4,s4,l4⟩:=s3.rdOpt h5 r4;split at k1
     ·rename_i hok;split at k1
      ·rename_i r hr;simp only[Option.some.injEq,Prod.mk.injEq]at k1;obtain⟨rfl,rfl⟩:=k1;have hle:∀ b,Ov b+O4 b≤O b:=fun b=>by grind
       unfold qq at hr;split at hr
       ·simp at hr
       ·rename_i len hlen;obtain⟨ad,cap,hx⟩:=IP hlen rv;split at hr
        ·simp at hr
        ·rename_i l hh mm hb;have fin:∀ {cap:Nat}{r:AV},ev t y=.slice ad len cap→len≤cap→
           (∀ m',l≤hh→hh≤len→hh≤m'→m'≤cap→∃ Oa,(∀ b,Oa b≤Ov b)∧RV g w r (.slice (if m'=l then ad else ad.map (·.add (l*m))) (hh-l) (m'-l)) Oa)→
           cO P g w t O ⟨e4,st.hs⟩ r ((execOp (ev t) ⟨dst,.slice ty' y l' h' k',ty,pos,aft,gd⟩).run P w):=by
          intro cap r hx hcap hr;obtain⟨m',e1,e2,e3,e4,e5⟩:=Pk (P:=P) (w:=w) (b:=true) q2 q3 q4 hcap hb;obtain⟨Oa,hO,hr⟩:=hr m' e2 e3 e4 e5;refine .pure s (x:=_) ?_ hr s4 fun b=>by grind
          simp only[execOp,hx];rw[Sem.run_bind,agS h1 e1];rfl
         split at hr
         ·rename_i xs;simp only[lenOf,Option.some.injEq]at hlen;subst hlen;split at hr
          ·rename_i hk;simp only[Option.some.injEq]at hr;subst hr;simp only[RV]at rv;have hcap:xs.length≤cap:=by
            grind [RD.list]
           refine fin hx hcap fun m' g1 g2 g3 g4=>⟨zero,fun _=>Nat.zero_le _,?_⟩
           grind [RV,RD.slice]
          simp_all
         ·grind [RV]
         ·rename_i k xs;simp only[lenOf,Option.some.injEq]at hlen;subst hlen;split at hr
          ·rename_i hkm;rw[Nat.beq_eq]at hkm;subst hkm;have rv0:=rv;simp only[RV,wb]at rv;have hshare:RD w g.pm (.lst xs) (ev t y):=by
            have:=RV.share _ _ _ rv0
            grind [share,RV]
           have hk:uq k xs=true:=by
            cases xs<;>grind [uq,Nat.beq_eq]
           have hcap:xs.length≤cap:=by
            grind
           split at hr
           ·rename_i hhl;rw[Nat.beq_eq]at hhl;subst hhl;simp only[Option.some.injEq]at hr;subst hr;refine fin hx hcap fun m' g1 g2 g3 g4=>?_
            simp only[RV,wb];by_cases hml:m'=l
            ·refine⟨zero,fun _=>Nat.zero_le _,.inl ⟨?_,fun _=>rfl,?_⟩⟩
             all_goals simp_all [sub]
            ·rcases rv with ⟨rfl,hz,a,e⟩ | ⟨b,off,cap',c,el,e,hc1,hm,hl,hbk,hsz,hrc,hpm,hp,rfl⟩
             ·grind
             ·rw[hx]at e;injection e with e1 e2 e3
              subst e1 e3;have hlen:(sub xs l (xs.length-l)).length=xs.length-l:=fN (by omega);refine⟨one b,fun _=>Nat.le_refl _,.inr ⟨b,off+l*k,m'-l,c,el,?_,by omega,hm,AK hl _ _,hbk,?_,?_,?_,fun _ j hj=>?_,rfl⟩⟩
              ·grind [gU]
              ·have:l*k+(m'-l)*k≤cap*k:=by rw[←Nat.add_mul];exact Nat.mul_le_mul_right _ (by omega)
               omega
              ·simp_all [jF,eu.sub]
              ·intro o ho;obtain⟨h1,h2⟩:=hpm o ho;refine⟨h1,?_⟩;have:l*k+(xs.length-l)*k=xs.length*k:=by rw[←Nat.add_mul];simp_all
               grind
              ·rw[hlen]at hj;rw[Nat.add_assoc];refine hp (by trivial) _ ?_;have:l*k+(xs.length-l)*k=xs.length*k:=by rw[←Nat.add_mul];simp_all
               omega
           ·simp only[Option.some.injEq]at hr;subst hr;refine fin hx hcap fun m' g1 g2 g3 g4=>⟨zero,fun _=>Nat.zero_le _,?_⟩
            simp only[RV];rw[hx]at hshare;exact⟨hshare.slice hk g1 g2 g3 g4,fun _=>trivial⟩
          simp_all
         ·rename_i id off len0;simp only[lenOf,Option.some.injEq]at hlen;subst hlen;simp only[Option.some.injEq]at hr;subst hr;simp only[RV]at rv;obtain⟨rv,_⟩:=rv;rcases rv with ⟨rfl,ad',e⟩ | ⟨b,cap',hob,e,hc1,hsz⟩
          ·rw[hx]at e;injection e with e1 e2 e3
           subst e3;refine fin hx (Nat.le_refl _) fun m' g1 g2 g3 g4=>⟨zero,fun _=>Nat.zero_le _,?_⟩
           simp only[RV];have h0:hh-l=0:=by omega
           have h1:m'-l=0:=by omega
           rw[h0,h1];exact⟨.inl ⟨rfl,_,rfl⟩,fun _=>trivial⟩
          ·rw[hx]at e;injection e with e1 e2 e3
           subst e1 e3;have hesz:g.esz id=m:=by
            simp only[okSl]at hok;obtain⟨Oe,Oh,re,rh,ho⟩:=s.parts;split at hok
            ·rename_i k xs hg;rw[Nat.beq_eq]at hok;subst hok;obtain⟨O1,q,_⟩:=RL.get rh hg;simp only[fK]at q;rcases q with ⟨_,_,h,_⟩ | ⟨_,_,_,_,h,_⟩
             ·exact h
             ·exact h
            ·rename_i cs hg;rw[Nat.beq_eq]at hok;subst hok;obtain⟨O1,q,_⟩:=RL.get rh hg;obtain⟨_,_,_,_,_,_,h,_⟩:=q;exact h
            ·simp at hok
           refine fin hx hc1 fun m' g1 g2 g3 g4=>⟨zero,fun _=>Nat.zero_le _,?_⟩
           simp only[RV];refine⟨?_,fun _=>trivial⟩;by_cases hml:m'=l
           ·have h0:hh-l=0:=by omega
            have h1:m'-l=0:=by omega
            rw[h0,h1];exact .inl ⟨rfl,_,rfl⟩
           ·refine .inr ⟨b,m'-l,hob,?_,by omega,?_⟩
            ·rw[if_neg hml];simp only[Option.map_some,gU];rw[Nat.add_mul,hesz,Nat.add_assoc]
            ·have:(off+l+(m'-l))*g.esz id≤(off+cap)*g.esz id:=Nat.mul_le_mul_right _ (by omega);omega
         simp_all
      simp_all
     simp_all
    simp_all
   simp_all
  simp_all
 simp_all
theorem ZP {b:Bool}:∀ {vs:List AV}{xs:List Value}{Ovs:Nat→Nat}{v r:AV}{x:Value}{Ov:Nat→Nat},RV g w v x Ov→RVs g w vs xs Ovs→yn b v vs=some r→
  (vs=[]→∃ k n,v=.d (.int k n))→
  ∃ z,(xs.foldlM (match b with | true=>Builtin.max2 | false=>Builtin.min2) x).run P w=.ok z w∧RV g w r z zero
 | [],xs,_,v,r,x,Ov,rv,rvs,h,hi=>by
  simp only[RVs]at rvs;simp only[yn,Option.some.injEq]at h;subst h;obtain⟨k,n,rfl⟩:=hi rfl;have hx:=r5 rv rfl
  simp_all [n9]
 | u::us,xs,_,v,r,x,Ov,rv,rvs,h,hi=>by
  obtain⟨y,s,O1,O2,rfl,r1,r2,_⟩:=rvs;simp only[yn]at h;split at h
  ·rename_i v2 hv;obtain⟨z,hz,rz⟩:=afJ (P:=P) rv r1 hv;have hint:∃ k n,v2=.d (.int k n):=by
    unfold BW at hv
    grind
   obtain⟨z2,hz2,rz2⟩:=ZP (b:=b) rz r2 h (fun _=>hint);refine⟨z2,?_,rz2⟩
   cases b
   all_goals simp_all
  simp_all
theorem agD {b:Bool}{xs:List Rd}(s:S P g w st t O) (h:tD b xs st=some (a,st')) (hc:aE P (.minmax b xs) o.op=true) :
  cO P g w t O st' a ((execOp (ev t) o).run P w):=by
 simp only[aE]at hc;split at hc
 ·simp only[Bool.and_eq_true]at hc;obtain⟨h1,h4⟩:=hc;have:=kI h1;unfold tD at h;split at h
  ·rename_i kk nn vs e hr;obtain⟨Ov,O',rvs,s',l⟩:=s.rdAll h4 hr;split at h
   ·rename_i r hf;obtain⟨rfl,rfl⟩:=h;obtain⟨x,ys,O1,O2,he,r1,r2,_⟩:=rvs;obtain⟨z,hz,rz⟩:=ZP (P:=P) (b:=b) r1 r2 hf fun _=>⟨_,_,rfl⟩
    refine .flat s (x:=z) ?_ rz s' (S.le_left l)
    cases b
    all_goals simp_all [Builtin.min_,execOp,resolve,invoke,builtin,Builtin.max_]
   simp_all
  simp_all
 simp_all
end
def Gh.add (g:Gh) (id b base esz bsz:Nat):Gh where
 obj i:=if i=id then some b else g.obj i
 base i:=if i=id then base else g.base i
 esz i:=if i=id then esz else g.esz i
 bsz i:=if i=id then bsz else g.bsz i
 pm:=g.pm
section
variable {P:Program}{g:Gh}{w:World}{t:Array Value}{O:Nat→Nat}{st st':St}{a:AV}{o:Oper}
theorem mB {w:World}{o:Go.Obj}{b:Nat}(h:b<w.heap.size):(w.alloc o).heap[b]?=w.heap[b]?:=by
 show (w.heap.push o)[b]?=_
 grind
theorem fy (w:World) (o:Go.Obj):(w.alloc o).heap[w.heap.size]?=some o:=by
 show (w.heap.push o)[w.heap.size]?=_
 simp_all
theorem aI.alloc (hp:∀ b o,g.pm b o→b<w.heap.size) (o:Go.Obj) (T:Nat→Prop) (hc:∀ off,dx o off=false:=by intro off;simp[dx]):aI g w g (w.alloc o) T where
 obj _ _ h:=⟨h,rfl,rfl,rfl⟩
 pm b o h:=⟨h,mo (mB (hp b o h)) o⟩
 blk b hb _:=⟨mB hb,fun _ h=>h⟩
 size:=by simp
 lp b rc h:=⟨rc,by grind [mB]⟩
 same:=⟨rfl,rfl,fun a=>by
  by_cases h:a.block<w.heap.size
  ·grind [World.frozen?,mB]
  ·have h2:w.heap[a.block]?=none:=Array.getElem?_eq_none (by omega);by_cases e:a.block=w.heap.size
   ·have:=hc a.off;simp only[World.frozen?,e,fy];rw[←e,h2]
    cases o<;>first | rfl | exact this
   ·have h3:(w.alloc o).heap[a.block]?=none:=Array.getElem?_eq_none (by simp;omega)
    grind [World.frozen?]⟩
theorem aI.add {w':World}{T:Nat→Prop}(h:aI g w g w' T) {id:Nat}(hn:g.obj id=none) (b base esz bsz:Nat):aI g w (g.add id b base esz bsz) w' T where
 obj i c hc:=by
  grind [Gh.add]
 pm b o hp:=h.pm b o hp
 blk:=h.blk
 size:=h.size
 lp:=h.lp
 same:=h.same
theorem gg.ext {g':Gh}{w':World}{T:Nat→Prop}(h:aI g w g' w' T) {e:aq}(r:gg g w e t O) (hO:∀ b,O b≠0→¬ T b):gg g' w' e t O :=
 r.imp' fun _ v O1 _ hle q=>⟨q.1,RV.ext h v _ O1 q.2 fun b hb=>hO b (by grind)⟩
theorem fK.ext0 {g':Gh}{w':World}{T:Nat→Prop}(h:aI g w g' w' T) {id:Nat}{o:Obj}(r:fK P g w id o O) (hO:∀ b,O b≠0→¬ T b):fK P g' w' id o O:=by
 cases o with
 | cells cs =>
  obtain⟨b,c,el,O1,h1,h2,h3,h4,h5,h6,h7,h8⟩:=r;obtain⟨a1,a2,a3,a4⟩:=h.obj id b h1;have hb:¬ T b:=hO b (by simp_all);obtain⟨e1,e2⟩:=h.blk b (fj h5) hb;exact⟨b,c,el,O1,a1,a2.trans h2,a3.trans h3,a4.trans h4,e1.trans h5,RVs.ext h _ _ _ h6 (fun x hx=>hO x (by simp_all)),fun o ho=>h7 o (e2 o ho),h8⟩
 | arr m xs =>
  simp only[fK]at r⊢;rcases r with ⟨h1,h2,h3,h4,⟨b,h5⟩,h6⟩ | ⟨b,c,el,h1,h2,h3,h4,h5,h6,h7,h8,h9,h10⟩
  ·obtain⟨a1,a2,a3,a4⟩:=h.obj id b h5
   simp_all
  ·obtain⟨a1,a2,a3,a4⟩:=h.obj id b h1;have hb:¬ T b:=hO b (by simp_all);obtain⟨e1,e2⟩:=h.blk b (fj h4) hb
   grind [eu.ext]
 | loop snap params assign body busy pend =>
  obtain⟨b,rc,h1,h2,h3,h4,h5,h6,h7,h8,h9,h10,h12⟩:=r;obtain⟨a1,_⟩:=h.obj id b h1;have hb:¬ T b:=hO b (by simp_all);obtain⟨e1,e2⟩:=h.blk b (fj h2) hb;exact⟨b,rc,a1,e1.trans h2,h3,h4,h5,h6,h7,h8,gg.ext h h9 (by simp),h10,h12⟩
theorem fK.ext {g':Gh}{w':World}{T:Nat→Prop}(h:aI g w g' w' T) {id:Nat}{o:Obj}(r:fK P g w id o O) (hO:∀ b,O b≠0→¬ T b)
  (_:∀ b ds,w.heap[b]?=some (.deferred ds)→¬ T b):fK P g' w' id o O:=r.ext0 h hO
theorem S.new {st:St}(s:S P g w st t O) {blk:Go.Obj}{o:Obj}{base esz bsz:Nat}{O1:Nat→Nat}
  (r:fK P (g.add st.hs.next w.heap.size base esz bsz) (w.alloc blk) st.hs.next o O1) (hle:∀ b,O1 b+O b≤1) (hhi:∀ b,O1 b≠0→b<w.heap.size+1)
  (hc:∀ off,dx blk off=false:=by intro off;simp[dx]) :
  S P (g.add st.hs.next w.heap.size base esz bsz) (w.alloc blk) ⟨st.env,(AP st.hs o).2⟩ t (fun b=>O1 b+O b)∧
   aI g w (g.add st.hs.next w.heap.size base esz bsz) (w.alloc blk) (fun b=>O b≠0):=by
 have hn:=s.fresh st.hs.next (Nat.le_refl _)
 have hx:aI g w (g.add st.hs.next w.heap.size base esz bsz) (w.alloc blk) (fun _=>False):=(aI.alloc s.pmlt blk _ hc).add hn _ _ _ _;obtain⟨Oe,Oh,re,rh,ho⟩:=s.parts;have re':=gg.ext hx re (by simp);have rh':uO P (g.add st.hs.next w.heap.size base esz bsz) (w.alloc blk) st.hs.heap Oh:=rh.imp' fun k v O1 _ _ q=>q.ext hx (by simp) (by simp)
 have hk:∀ p∈st.hs.heap,p.1≠st.hs.next:=by
  intro p hp e;have:∃ b,g.obj p.1=some b:=by
   clear re re' rh' hx r hle hhi ho;generalize st.hs.heap=l at rh hp
   induction l generalizing Oh with
   | nil=>simp at hp
   | cons q l ih =>
    obtain⟨k,v⟩:=q;obtain⟨Q1,Q2,q1,q2,_⟩:=rh;rcases List.mem_cons.1 hp with rfl | hp
    ·cases v<;>grind [fK]
    simp_all
  simp_all
 rw[←mt hk]at rh';obtain⟨O3,r3,h3⟩:=RL.put s.sh rh' r;refine⟨⟨s.se,s.sh.put _ _,⟨Oe,O3,re',r3,fun b=>?_⟩,hle,fun b hb=>?_,fun i hi=>?_,fun b o hp=>?_⟩,hx.mono (fun _ _ h=>h.elim)⟩
 ·grind
 ·simp only[World.size_alloc];by_cases h1:O1 b=0
  ·have:=s.hi b (by omega);omega
  simp_all
 ·have hi':st.hs.next+1≤i:=hi
  grind [Gh.add,fresh]
 ·simp only[World.size_alloc];have:=s.pmlt b o hp;omega
theorem aiV {zs:List AV}(s:S P g w st t O) (h:Ey zs st=some (a,st')) (hc:aE P (.alloc zs) o.op=true) :
  cO P g w t O st' a ((execOp (ev t) o).run P w):=by
 obtain⟨dst,op,ty,pos,aft,gd⟩:=o;simp only[aE]at hc;split at hc
 ·rename_i e;split at hc
  ·split at hc
   ·rename_i z hz;obtain⟨rfl,rfl⟩:=h;have hO:O w.heap.size=0:=by
     have:=s.hi w.heap.size;omega
    have r:fK P (g.add st.hs.next w.heap.size 0 1 zs.length) (w.alloc (.cells z.cells e)) st.hs.next (.cells zs) (fun x=>zero x+one w.heap.size x):=by
     refine⟨w.heap.size,z.cells,e,zero,by simp[Gh.add],by simp[Gh.add],by simp[Gh.add],by simp[Gh.add],fy _ _,RVs.consts hc,fun o ho=>?_,fun _=>rfl⟩;have:=s.pmlt _ o ho;omega
    obtain⟨s',hx⟩:=s.new r (fun b=>by
     by_cases hb:b=w.heap.size
     ·simp_all
     ·have:=s.le b;grind [one]) (fun b hb=>by
     grind [pW])
    refine⟨.pointer (some ⟨w.heap.size,0,none⟩),_,_,zero,_,.inl ?_,?_,s',hx,fun b=>by have:=s'.le b;simp_all,fun b hb=>?_,by simp⟩
    ·simp_all [execOp,Instr.alloc,zeroValue,typeInfo,newVar,newRow]
    ·simp_all [RV,Gh.add]
    grind [one]
   simp_all
  simp_all
 simp_all
end
section
variable {P:Program}{g:Gh}{w:World}{t:Array Value}{O:Nat→Nat}{st st':St}{a:AV}{o:Oper}
theorem WQ {v:AV}{x:Value}{Ov:Nat→Nat}(h:aV v=true) (r:RV g w v x Ov):x.oneCell'=true:=by
 cases v with
 | junk=>simp[aV]at h
 | agg cs=>simp[aV]at h
 | tup cs=>simp[aV]at h
 | gl n=>obtain⟨⟨_,_,rfl⟩,_⟩:=r;rfl
 | d c=>obtain⟨r,_⟩:=r;cases r<;>rfl
 | nl=>rw[r.1];rfl
 | own p m xs=>rcases r with ⟨_,_,_,rfl⟩ | ⟨_,_,_,_,_,rfl,_⟩<;>rfl
 | nilp=>rw[r.1];rfl
 | ptr id off=>obtain⟨⟨_,_,rfl⟩,_⟩:=r;rfl
 | pel id i off=>obtain⟨⟨_,_,rfl⟩,_⟩:=r;rfl
 | pim cs off=>obtain⟨⟨_,_,rfl,_⟩,_⟩:=r;rfl
 | sl id off len=>rcases r with ⟨⟨_,_,rfl⟩ | ⟨_,_,_,rfl,_⟩,_⟩<;>rfl
 | fn f a c=>obtain⟨⟨_,_,rfl,_⟩,_⟩:=r;rfl
 | nilf=>rw[r.1];rfl
 | yield l=>obtain⟨⟨_,_,rfl⟩,_⟩:=r;rfl
theorem Yv {x:Value}(h:x.oneCell'=true):x.cells=#[x]:=by cases x<;>first | rfl | grind [Value.oneCell']
theorem RV.cells {v:AV}{x:Value}{Ov:Nat→Nat}(h:v.cells.all aV=true) (r:RV g w v x Ov):RVs g w v.cells x.cells.toList Ov:=by
 have one:aV v=true→v.cells=[v]→RVs g w v.cells x.cells.toList Ov:=by
  intro h1 h2;rw[h2,Yv (WQ h1 r)];exact⟨x,[],Ov,zero,rfl,r,⟨rfl,fun _=>rfl⟩,fun _=>rfl⟩
 cases v with
 | agg cs =>
  obtain⟨xs,rfl,r⟩:=r;exact r
 | _=>grind [AV.cells]
theorem RVs.one {vs:List AV}{xs:List Value}{Ov:Nat→Nat}(h:vs.all aV=true) (r:RVs g w vs xs Ov):∀ x∈xs,x.oneCell'=true:=by
 induction vs generalizing xs Ov<;>grind [RVs,WQ]
theorem arc {x:Rd}(s:S P g w st t O) (h:Kw x st=some (a,st')) (hc:aE P (.box x) o.op=true) :
  cO P g w t O st' a ((execOp (ev t) o).run P w):=by
 obtain⟨dst,op,ty,pos,aft,gd⟩:=o;simp only[aE]at hc;split at hc
 ·rename_i e y;obtain⟨v,e1,r1,k1⟩:=JO h;obtain⟨Ov,O1,rv,s1,l1⟩:=s.rd hc r1;split at k1
  ·rename_i hall;obtain⟨rfl,rfl⟩:=k1;have rvs:=rv.cells hall;have hn:=s1.fresh st.hs.next (Nat.le_refl _)
   have hO:∀ b,w.heap.size≤b→O b=0:=by
    intro b hb;by_cases h:O b=0
    ·exact h
    ·have:=s.hi b h;omega
   have hx0:aI g w (g.add st.hs.next w.heap.size 0 1 v.cells.length) (w.alloc (.cells (ev t y).cells e)) (fun _=>False):=(aI.alloc s.pmlt _ _).add hn _ _ _ _;have r:fK P (g.add st.hs.next w.heap.size 0 1 v.cells.length) (w.alloc (.cells (ev t y).cells e)) st.hs.next (.cells v.cells) (fun x=>Ov x+one w.heap.size x):=by
    refine⟨w.heap.size,(ev t y).cells,e,Ov,by simp[Gh.add],by simp[Gh.add],by simp[Gh.add],by simp[Gh.add],fy _ _,RVs.ext hx0 _ _ _ rvs (by simp),fun o ho=>?_,fun _=>rfl⟩;have:=s.pmlt _ o ho;omega
   have key:∀ b,Ov b+one w.heap.size b+O1 b≤1:=by
    intro b;by_cases hb:b=w.heap.size
    ·have:=l1 w.heap.size;simp_all
    ·have:=s.le b;grind [one]
   obtain⟨s',hx⟩:=s1.new r (fun b=>key b) (fun b hb=>by
    grind [pW])
   refine⟨.pointer (some ⟨w.heap.size,0,none⟩),_,_,zero,_,.inl ?_,?_,s',hx.mono fun b _ hb=>by grind,fun b=>by simp_all,fun b hb=>?_,by simp⟩
   ·simp_all [execOp,Instr.box,newVar,newRow]
   ·simp_all [RV,Gh.add]
   grind [one]
  simp_all
 simp_all
theorem C8 {ty:TypeId}(h:CQ P ty=true) {ad:Addr}{x:Value}(hx:w.cell? ad=some x):(loadVar ty ad).run P w=.ok x w:=by
 simp_all [loadVar,uE]
end
section
variable {P:Program}{g:Gh}{w:World}{t:Array Value}{O:Nat→Nat}{st st':St}{a:AV}{o:Oper}
theorem dI {b:Nat}{c:Array Value}{el:TypeId}{fz:Nat×Nat}(h:w.heap[b]?=some (.cells c el fz)) (off:Nat):w.cell? ⟨b,off,none⟩=c[off]?:=by
 simp[World.cell?,h]
theorem RVs.replace {cs:List AV}{xs:List Value}{Ov:Nat→Nat}(r:RVs g w cs xs Ov) {i:Nat}{v:AV}(h:cs[i]?=some v) :
  ∃ x O1,xs[i]?=some x∧RV g w v x O1∧(∀ b,O1 b≤Ov b)∧∀ v2 O2,RV g w v2 x O2→∃ O',RVs g w (cs.set i v2) xs O'∧∀ b,O' b+O1 b=Ov b+O2 b:=by
 induction cs generalizing xs Ov i with
 | nil=>simp at h
 | cons c cs ih =>
  obtain⟨x,s,O1,O2,rfl,r1,r2,hs⟩:=r
  cases i with
  | zero =>
   simp at h;subst h;refine⟨x,O1,rfl,r1,fun b=>by simp_all,fun v2 P2 rv2=>⟨fun b=>P2 b+O2 b,?_,fun b=>by grind⟩⟩
   grind [RVs]
  | succ i =>
   obtain⟨y,P1,h1,h2,h3,h4⟩:=ih r2 h;refine⟨y,P1,by simp_all,h2,fun b=>by grind,fun v2 P2 rv2=>?_⟩;obtain⟨O',r',h'⟩:=h4 v2 P2 rv2;refine⟨fun b=>O1 b+O' b,?_,fun b=>by grind⟩
   grind [RVs]
theorem UQ (n:Nat) {v:AV}{x:Value}{Ov:Nat→Nat}(r:RV g w v x Ov) :
  ∃ O1 O2,RV g w (lH n v).1 x O1∧RV g w (lH n v).2 x O2∧∀ b,O1 b+O2 b=Ov b:=by
 have share:=RV.share _ _ _ r;unfold lH;split
 ·exact⟨Ov,zero,r,by simp[RV],fun _=>rfl⟩
 ·grind
 ·refine⟨Ov,zero,r,?_,fun _=>rfl⟩
  grind [RV,wb]
 grind
theorem JC (n:Nat):∀ {vs:List AV}{xs:List Value}{Ov:Nat→Nat},RVs g w vs xs Ov→
  ∃ O1 O2,RVs g w (cW n vs).1 xs O1∧RVs g w (cW n vs).2 xs O2∧∀ b,O1 b+O2 b=Ov b
 | [],xs,Ov,r=>by grind [RVs,cW]
 | v::vs,xs,Ov,r=>by
  obtain⟨x,s,O1,O2,rfl,r1,r2,hs⟩:=r;obtain⟨A1,A2,a1,a2,ha⟩:=UQ n r1;obtain⟨B1,B2,b1,b2,hb⟩:=JC n r2;refine⟨fun b=>A1 b+B1 b,fun b=>A2 b+B2 b,?_,?_,fun b=>by grind⟩
  all_goals grind [RVs,cW]
theorem S.upd {st:St}(s:S P g w st t O) {id:Nat}{ob:Obj}(hg:get st.hs.heap id=some ob) :
  ∃ O1 Oz:Nat→Nat,fK P g w id ob O1∧(∀ b,O1 b+Oz b≤O b)∧∀ (ob':Obj) (O1':Nat→Nat),fK P g w id ob' O1'→(∀ b,O1' b≤O1 b)→
   S P g w ⟨st.env,⟨put st.hs.heap id ob',st.hs.next⟩⟩ t (fun b=>O1' b+Oz b):=by
 obtain⟨Oe,Oh,re,rh,ho⟩:=s.parts;obtain⟨O1,O2,q,r2,hs⟩:=RL.take rh hg;refine⟨O1,fun b=>Oe b+O2 b,q,fun b=>by grind,fun ob' O1' q' hle=>?_⟩;obtain⟨O3,r3,h3⟩:=RL.put s.sh r2 q';have hall:∀ b,O1' b+(Oe b+O2 b)≤O b:=fun b=>by grind
 exact⟨s.se,s.sh.put _ _,⟨Oe,O3,re,r3,fun b=>by grind⟩,
  fun b=>Nat.le_trans (hall b) (s.le b),fun b hb=>s.hi b (by grind),s.fresh,s.pmlt⟩
theorem eu.vals {pm:Nat→Nat→Prop}{cs:List D}{b off:Nat}(r:eu w pm cs b off) :
  ∃ xs:List Value,xs.length=cs.length∧(∀ (j:Nat) (x:Value),xs[j]?=some x→w.cell? ⟨b,off+j,none⟩=some x)∧∀ (j:Nat) (c:D) (x:Value),cs[j]?=some c→xs[j]?=some x→RD w pm c x:=by
 induction cs generalizing off with
 | nil=>simp_all
 | cons c cs ih =>
  obtain⟨u,hu,hr⟩:=r 0 c rfl;have r':eu w pm cs b (off+1):=by
   intro j d hj;obtain⟨v,hv,hr⟩:=r (j+1) d (by simp_all)
   grind
  obtain⟨xs,h1,h2,h3⟩:=ih r';refine⟨u::xs,by simp[h1],fun j x hj=>?_,fun j d x hd hx=>?_⟩
  all_goals grind
theorem RVs.ds {pm:Nat→Nat→Prop}(hp:g.pm=pm):∀ {cs:List D}{xs:List Value},xs.length=cs.length→(∀ (j:Nat) (c:D) (x:Value),cs[j]?=some c→xs[j]?=some x→RD w pm c x)→
  RVs g w (cs.map .d) xs zero
 | [],[],_,_=>by simp[RVs]
 | c::cs,x::xs,h,hr=>by
  exact⟨x,xs,zero,zero,rfl,by simp only[RV];exact⟨by rw[hp];exact hr 0 c x rfl rfl,fun _=>trivial⟩,
   RVs.ds hp (by simp_all) (fun j d y h1 h2=>hr (j+1) d y (by simp_all) (by simp_all)),fun _=>rfl⟩
 | [],_::_,h,_=>by simp at h
 | _::_,[],h,_=>by simp at h
theorem RX {ty:TypeId}{n:Option Nat}(ht:kL P ty n=true) {cs:List D}{b off k:Nat}(r:eu w g.pm cs b off) {v:AV}(h:jY n cs k=some v) :
  ∃ x,(loadVar ty ⟨b,off+k,none⟩).run P w=.ok x w∧RV g w v x zero:=by
 cases n with
 | none =>
  simp only[jY]at h;split at h
  ·rename_i c hc;simp only[Option.some.injEq]at h;subst h;obtain⟨u,hu,hr⟩:=r k c hc
   simp_all [C8,kL,RV]
  simp_all
 | some n =>
  simp only[kL,Bool.and_eq_true]at ht;simp only[jY]at h;split at h
  ·rename_i hb;rw[Nat.ble_eq]at hb;simp only[Option.some.injEq]at h;subst h;obtain⟨xs,h1,h2,h3⟩:=(r.sub k n).vals;have hlen:(Vm.sub cs k n).length=n:=fN hb;refine⟨.agg xs.toArray,?_,?_⟩
   ·have hl:=run_loadCells_list (P:=P) (w:=w) ⟨b,off+k,none⟩ xs (fun j v hj=>by grind [gU]);rw[h1,hlen]at hl;simp only[loadVar,Sem.run_bind,qn ht.1,Result.andThen_ok,if_true,cm ht.2,hl,Sem.run_pure]
   ·exact⟨xs.toArray,rfl,by simpa using RVs.ds rfl h1 h3⟩
  simp_all
theorem ZS {cs:List AV}{off n:Nat}(h:off+n≤cs.length):cs=cs.take off++(Vm.sub cs off n++cs.drop (off+n)):=by
 grind [sub,List.drop_drop,List.take_append_drop]
theorem Qa {ty:TypeId}{n:Option Nat}{take:Nat}(ht:kL P ty n=true) {st:St}(s:S P g w st t O) {id off:Nat}{b:Nat}(hob:g.obj id=some b)
  {v:AV}{h':af}(h:loadAt st.hs.heap n take (.ptr id off)=some (v,h')) :
  ∃ x O1 O2,(loadVar ty ⟨b,g.base id+off,none⟩).run P w=.ok x w∧RV g w v x O1∧S P g w ⟨st.env,⟨h',st.hs.next⟩⟩ t O2∧∀ c,O1 c+O2 c≤O c:=by
 simp only[loadAt]at h;split at h
 ·rename_i cs hg;obtain⟨O1,Oz,q,hsum,hput⟩:=s.upd hg;have q0:=q;simp only[fK]at q;obtain⟨b',c,el,Oc,h1,h2,h3,h4,h5,h6,h7,h8⟩:=q;rw[hob]at h1;simp only[Option.some.injEq]at h1;subst h1;rw[h2,Nat.zero_add];have hsz:c.size=cs.length:=by rw[←h6.length];simp
  split at h
  ·
   split at h
   ·simp at h
   ·rename_i u hu;obtain⟨x,P1,hx,ru,hle,hrep⟩:=h6.replace hu;have hcell:w.cell? ⟨b,off,none⟩=some x:=by grind [dI]
    have hrun:=C8 (P:=P) (by simpa only[kL] using ht) hcell;split at h
    ·simp only[Option.some.injEq,Prod.mk.injEq]at h;obtain⟨rfl,rfl⟩:=h;exact⟨x,zero,O,hrun,RV.share _ _ _ ru,s,fun c=>by simp⟩
    ·rename_i _;simp only[Option.some.injEq,Prod.mk.injEq]at h;obtain⟨rfl,rfl⟩:=h;obtain⟨A1,A2,a1,a2,ha⟩:=UQ take ru;obtain⟨O',r',h'⟩:=hrep _ A2 a2;have hle2:∀ x,O' x+one b x≤O1 x:=fun x=>by grind
     refine⟨x,A1,_,hrun,a1,hput (.cells (cs.set off (lH take u).2)) (fun x=>O' x+one b x) ?_ hle2,fun c=>?_⟩
     all_goals grind [fK]
  ·
   rename_i n;simp only[kL,Bool.and_eq_true]at ht;split at h
   ·rename_i hb;rw[Nat.ble_eq]at hb;have hcs:=ZS hb;have r6:=h6;rw[hcs]at r6;obtain⟨B1,B2,rb1,rb2,hb12⟩:=r6.split;obtain⟨B3,B4,rb3,rb4,hb34⟩:=rb2.split;have htl:(cs.take off).length=off:=by simp;omega
    have hsl:(Vm.sub cs off n).length=n:=fN hb;rw[htl]at rb1 rb3 rb4;rw[hsl]at rb3 rb4;have hlist:∀ (j:Nat) (v:Value),((c.toList.drop off).take n)[j]?=some v→w.cell? ((⟨b,off,none⟩:Addr).add j)=some v:=by
     grind [gU,dI]
    have hlen:((c.toList.drop off).take n).length=n:=by grind
    have hl:=run_loadCells_list (P:=P) (w:=w) ⟨b,off,none⟩ ((c.toList.drop off).take n) hlist;rw[hlen]at hl;have hrun:(loadVar ty ⟨b,off,none⟩).run P w=.ok (.agg ((c.toList.drop off).take n).toArray) w:=by
     simp only[loadVar,Sem.run_bind,qn ht.1,Result.andThen_ok,if_true,cm ht.2,hl,Sem.run_pure]
    split at h
    ·simp only[Option.some.injEq,Prod.mk.injEq]at h;obtain⟨rfl,rfl⟩:=h;refine⟨_,zero,O,hrun,?_,s,fun c=>by simp⟩
     grind [RV,RVs.share]
    ·rename_i _;simp only[Option.some.injEq,Prod.mk.injEq]at h;obtain⟨rfl,rfl⟩:=h;obtain⟨A1,A2,a1,a2,ha⟩:=JC take rb3;have hjoin:=rb1.join (a2.join rb4);have e1:cs.take off++((cW take (Vm.sub cs off n)).2++cs.drop (off+n))=ai cs off (cW take (Vm.sub cs off n)).2:=by
      have:(cW take (Vm.sub cs off n)).2.length=n:=by
       rw[←a2.length,hlen]
      unfold ai;rw[this,List.append_assoc]
     have e2:c.toList.take off++((c.toList.drop off).take n++(c.toList.drop off).drop n)=c.toList:=by
      rw[List.take_append_drop,List.take_append_drop]
     rw[e1,e2]at hjoin;have hle2:∀ x,(B1 x+(A2 x+B4 x))+one b x≤O1 x:=fun x=>by have:=ha x;have:=h8 x;have:=hb12 x;have:=hb34 x;omega
     refine⟨_,A1,_,hrun,?_,hput (.cells (ai cs off (cW take (Vm.sub cs off n)).2)) (fun x=>(B1 x+(A2 x+B4 x))+one b x) ?_ hle2,fun x=>?_⟩
     ·exact⟨_,rfl,by simpa using a1⟩
     ·refine⟨b,c,el,_,hob,h2,h3,?_,h5,hjoin,h7,fun _=>rfl⟩;rw[h4,←hsz,←hjoin.length];simp
     ·have:=ha x;have:=h8 x;have:=hb12 x;have:=hb34 x;have:=hsum x;omega
   simp_all
 simp_all
theorem as5 {n:Option Nat}{take:Nat}{p:Rd}(s:S P g w st t O) (h:xz n take p st=some (a,st')) (hc:aE P (.ld n take p) o.op=true) :
  cO P g w t O st' a ((execOp (ev t) o).run P w):=by
 obtain⟨dst,op,ty,pos,aft,gd⟩:=o;simp only[aE]at hc;split at hc
 ·rename_i ty' y;simp only[Bool.and_eq_true]at hc;obtain⟨h1,h2⟩:=hc;obtain⟨v,e1,r1,k1⟩:=JO h;obtain⟨Ov,O1,rv,s1,l1⟩:=s.rd h2 r1;split at k1
  ·rename_i r h' hl;simp only[Option.some.injEq,Prod.mk.injEq]at k1;obtain⟨rfl,rfl⟩:=k1;have fin:∀ {ad:Addr}{x:Value},ev t y=.pointer (some ad)→(loadVar ty' ad).run P w=.ok x w→
     (execOp (ev t) ⟨dst,.load ty' y,ty,pos,aft,gd⟩).run P w=.ok (.value x) w:=by
    simp_all [execOp,Instr.loadAt,Instr.sureAddr]
   cases v with
   | ptr id off =>
    simp only[RV]at rv;obtain⟨⟨b,hob,he⟩,_⟩:=rv;obtain⟨x,A1,A2,hrun,ra,sa,la⟩:=Qa h1 s1 hob hl
    grind [cO.pure]
   | pel id i off =>
    simp only[RV]at rv;obtain⟨⟨b,hob,he⟩,_⟩:=rv;simp only[loadAt]at hl;split at hl
    ·rename_i m xs hg;split at hl
     ·rename_i e hx;split at hl
      ·rename_i u hu;obtain⟨rfl,rfl⟩:=hl;obtain⟨Oe,Oh,re,rh,ho⟩:=s1.parts;obtain⟨Q,q,_⟩:=RL.get rh hg;rcases q with ⟨rfl,_⟩ | ⟨b',c,el,g1,g2,g3,g4,g5,g6,g7,g8,g9,g10⟩
       ·simp at hx
       ·have hrc:=g8.elem g7 hx;obtain⟨x,hrun,rx⟩:=RX (P:=P) h1 hrc hu;refine .flat s (fin he (x:=x) ?_) rx s1 (S.le_left l1)
        grind
      simp_all
     simp_all
    simp_all
   | pim cs off =>
    obtain⟨⟨b,k,he,hrc,_⟩,_⟩:=rv;simp only[loadAt]at hl;split at hl
    ·rename_i u hu;obtain⟨rfl,rfl⟩:=hl;obtain⟨x,hrun,rx⟩:=RX (P:=P) h1 hrc hu;exact .flat s (fin he hrun) rx s1 (S.le_left l1)
    simp_all
   | _=>simp[loadAt]at hl
  simp_all
 simp_all
end
section
variable {P:Program}{g:Gh}{w:World}{t:Array Value}{O:Nat→Nat}{st st':St}{a:AV}{o:Oper}
theorem S.grow {st:St}(s:S P g w st t O) {w':World}(h:aI g w g w' fun _=>False):S P g w' st t O:=by
 obtain⟨Oe,Oh,re,rh,ho⟩:=s.parts;exact⟨s.se,s.sh,⟨Oe,Oh,gg.ext h re (by simp),rh.imp' fun k v O1 _ _ q=>q.ext h (by simp) (by simp),ho⟩,s.le,
  fun b hb=>Nat.lt_of_lt_of_le (s.hi b hb) h.size,s.fresh,fun b o hp=>Nat.lt_of_lt_of_le (s.pmlt b o hp) h.size⟩
theorem S.out {st:St}(s:S P g w st t O) {b:Nat}(h:w.heap.size≤b):O b=0:=by
 by_cases h':O b=0
 ·exact h'
 ·have:=s.hi b h';omega
theorem aI.drew (g:Gh) (w:World) (T:Nat→Prop):aI g w g w.drew T:=⟨fun _ _ h=>⟨h,rfl,rfl,rfl⟩,fun _ _ h=>⟨h,rfl⟩,fun _ _ _=>⟨rfl,fun _ h=>h⟩,Nat.le_refl _,fun _ rc h=>⟨rc,h⟩,rfl,rfl,fun _=>rfl⟩
theorem cO.list {res:Result Next}{m cap:Nat}{xs:List (List D)}{c:Array Value}{el:TypeId}{w1:World}{O':Nat→Nat}(s0:S P g w st t O)
  (s:S P g w st' t O') (hle:∀ b,O' b≤O b) (hx1:aI g w g w1 fun _=>False) (hsz1:w1.heap.size=w.heap.size)
  (h:res=.ok (.value (.slice (some ⟨w.heap.size,0,none⟩) xs.length cap)) (w1.alloc (.cells c el)))
  (hm:0<m) (hl:∀ e∈xs,e.length=m) (hcap:xs.length≤cap) (hsz:cap*m≤c.size) (hc:∀ (j:Nat) (d:D),xs.flatten[j]?=some d→∃ u,c[j]?=some u∧RD w g.pm d u) :
  cO P g w t O st' (.own true m xs) res:=by
 have hp1:∀ b o,g.pm b o→b<w1.heap.size:=fun b o hp=>by rw[hsz1];exact s0.pmlt b o hp
 have hx:aI g w g (w1.alloc (.cells c el)) fun _=>False:=hx1.trans (aI.alloc hp1 _ _) fun _ _ h=>h
 have hO:O w.heap.size=0:=s0.out (Nat.le_refl _);refine⟨_,w1.alloc (.cells c el),g,one w.heap.size,O',.inl h,?_,s.grow hx,hx.mono (fun _ _ h=>h.elim),fun b=>?_,fun b hb=>?_,fun b hb=>?_⟩
 ·refine .inr ⟨w.heap.size,0,cap,c,el,rfl,hcap,hm,hl,?_,by omega,fun j d hj=>?_,fun o ho=>?_,fun h=>by simp at h,rfl⟩
  all_goals grind [fy,RD.ext,dI]
 ·by_cases hb:b=w.heap.size
  ·have:=hle w.heap.size;simp_all
  ·have:=s0.le b;grind [one]
 ·grind [one]
 ·have:=pW hb;simp_all
theorem NZ {zs:List D}{vs:List Value}(h:II zs vs=true):zs.length=vs.length∧∀ (j:Nat) (d:D),zs[j]?=some d→∃ u,vs[j]?=some u∧RD w g.pm d u:=by
 induction zs generalizing vs with
 | nil=>grind [II]
 | cons z zs ih =>
  cases vs with
  | nil=>simp[II]at h
  | cons v vs =>
   simp only[II,Bool.and_eq_true]at h;obtain⟨h1,h2⟩:=ih h.2;refine⟨by simp[h1],fun j d hj=>?_⟩
   cases j with
   | zero=>simp_all [RD.const]
   | succ j=>simp_all
theorem Mp {z:List D}{n j:Nat}{d:D}(h:(List.replicate n z).flatten[j]?=some d):z[j % z.length]?=some d∧j<n*z.length:=by
 induction n generalizing j<;>grind [Nat.mod_eq_of_lt,List.getElem?_append_right,Nat.mod_eq_sub_mod]
theorem wY {ty:TypeId}{z:List D}(h:ur P ty z=true):∃ e i zv,P.underlying ty=some (.slice e)∧P.info? e=some i∧i.zero=some zv∧II z zv.cells.toList=true:=by
 grind [ur,ah3]
theorem Gm {n:Nat}(h:n≤4294967296):IntKind.i64.wrap (n:Int)=n:=by
 apply ab3
 ·have:IntKind.min .i64=-9223372036854775808:=by decide
  omega
 ·have:IntKind.max .i64=9223372036854775807:=by decide
  omega
theorem VH {ty el:TypeId}{i:TypeInfo}{zv:Value}{kn kc:IntKind}{n cc:Nat}(hu:P.underlying ty=some (.slice el)) (hi:P.info? el=some i) (hz:i.zero=some zv)
  (hby:i.bytes≤4096) (hnc:n≤cc) (hcm:cc≤4294967296) :
  (Instr.makeSlice ty (.int kn (n:Int)) (.int kc (cc:Int))).run P w =
   .ok (.slice (some ⟨w.heap.size,0,none⟩) n cc) (w.alloc (.cells ((Array.range (cc*i.size)).map (zv.cells[·% zv.cells.size]!)) el)):=by
 have hw1:=Gm (n:=n) (by omega);have hw2:=Gm (n:=cc) hcm;have hprod:i.bytes*cc≤4096*4294967296:=Nat.mul_le_mul hby hcm;have hbig:¬ ((i.bytes:Int)*(cc:Int) > 2 ^ 48):=by
  omega
 have hc0:¬ (cc:Int)<0:=by omega
 have hn0:¬ (n:Int)<0:=by omega
 have hnc':¬ (n:Int) > (cc:Int):=by omega
 simp only[Instr.makeSlice,Sem.run_bind,ar hu,Result.andThen_ok,asInt,asIntOf,Sem.run_pure,typeInfo,run_program,hi,hw1,hw2,hc0,hn0,hnc',hbig,
  decide_false,Bool.or_self,Bool.false_eq_true,if_false,run_askRoom,sizeOf,Int.toNat_natCast]
 by_cases hcz:cc*i.size=0
 ·have h0:Array.range 0=#[]:=by simp_all
  simp[hcz,newRow,h0]
 simp_all [newRow,zeroValue,typeInfo]
theorem PT {z:List D}{len cap:Rd}(s:S P g w st t O) (h:iF z len cap st=some (a,st')) (hc:aE P (.mkslice z len cap) o.op=true) :
  cO P g w t O st' a ((execOp (ev t) o).run P w):=by
 obtain⟨dst,op,ty,pos,aft,gd⟩:=o;simp only[aE]at hc;split at hc
 ·simp only[Bool.and_eq_true]at hc;obtain⟨⟨⟨h1,h2⟩,h3⟩,h4⟩:=hc;obtain⟨vn,vc,e,On,Oc,O',rn,rc,s',hl,hk⟩:=JE s h3 h4 h;split at hk
  ·rename_i cc hcc;split at hk
   ·rename_i n hn;obtain⟨rfl,rfl⟩:=hk;obtain⟨⟨kc,hvc⟩,hcm⟩:=xT hcc rc;obtain⟨⟨kn,hvn⟩,hnc⟩:=xT hn rn;obtain⟨el,hu,hs,hm,hby⟩:=dR h1;obtain⟨el',i,zv,hu',hi,hz,hok⟩:=wY h2;rw[hu]at hu';simp only[Option.some.injEq,TypeDesc.slice.injEq]at hu';subst hu';obtain⟨hzl,hzg⟩:=NZ (w:=w) (g:=g) hok;have hsz:i.size=z.length:=by
     grind [pX,Nat.beq_eq]
    have hbytes:P.bytesOf el=i.bytes:=by grind [Program.bytesOf]
    rw[hbytes]at hby;have hrun:=VH (P:=P) (w:=w) (kn:=kn) (kc:=kc) hu hi hz hby hnc hcm;rw[hsz]at hrun;refine cO.list (cap:=cc) (c:=(Array.range (cc*z.length)).map (zv.cells[·% zv.cells.size]!)) (el:=el) (w1:=w) s s' (fun b=>by grind) (aI.refl _ _ _) rfl ?_ hm
     (fun e he=>by grind) (by grind) (by simp) (fun j d hj=>?_)
    ·simp only[execOp,hvn,hvc];rw[Sem.run_bind,hrun];simp
    ·obtain⟨h5,h6⟩:=Mp hj
     grind [Nat.lt_of_lt_of_le,Nat.mul_le_mul_right]
   simp_all
  simp_all
 simp_all
end
def setBlk (w:World) (b:Nat) (o:Go.Obj):World:={ w with heap:=w.heap.setIfInBounds b o }
@[simp] theorem Dz (w:World) (b:Nat) (o:Go.Obj):(setBlk w b o).heap.size=w.heap.size:=by simp[setBlk]
theorem cq {w:World}{b:Nat}{o:Go.Obj}(h:b<w.heap.size):(setBlk w b o).heap[b]?=some o:=by
 simp[setBlk,h]
theorem dT {w:World}{b b':Nat}{o:Go.Obj}(h:b'≠b):(setBlk w b o).heap[b']?=w.heap[b']?:=by
 grind [setBlk]
theorem V4 (w:World) (b:Nat) (o o':Go.Obj):setBlk (setBlk w b o) b o'=setBlk w b o':=by
 simp[setBlk]
theorem aaj {w:World}{b o:Nat}{c:Array Value}{el:TypeId}{fz:Nat×Nat}{v:Value}(h:w.heap[b]?=some (.cells c el fz)) :
  w.setCell ⟨b,o,none⟩ v=setBlk w b (.cells (c.setIfInBounds o v) el fz):=by
 unfold World.setCell setBlk
 congr 1
 grind
theorem HE {α:Type}{cs:List α}{off:Nat}{v:α}{vs:List α}(h:off+(vs.length+1)≤cs.length) :
  ai (cs.set off v) (off+1) vs=ai cs off (v::vs):=by
 grind [ai,List.take_set,List.take_succ_eq_append_getElem,List.drop_set_of_lt]
theorem l7 {P:Program}{b:Nat}{el:TypeId}:∀ (vs:List Value) (w:World) (c:Array Value) (off i:Nat),
  w.heap[b]?=some (.cells c el (0,0))→(∀ v∈vs,v.oneCell'=true)→off+i+vs.length≤c.size→
  ∃ c':Array Value,(storeCells ⟨b,off,none⟩ vs i).run P w=.ok () (setBlk w b (.cells c' el (0,0)))∧c'.toList=ai c.toList (off+i) vs∧c'.size=c.size
 | [],w,c,off,i,h,_,_=>by
  refine⟨c,?_,by simp[ai],rfl⟩;have:setBlk w b (.cells c el (0,0))=w:=by
   unfold setBlk;have:w.heap.setIfInBounds b (.cells c el (0,0))=w.heap:=by
    grind
   rw[this]
  rw[this];rfl
 | v::vs,w,c,off,i,h,hv,hsz=>by
  have hoff:off+i<c.size:=by grind
  have hcell:w.cell? ⟨b,off+i,none⟩=some c[off+i]:=by rw[dI h];simp_all
  have hfz:w.frozen? ⟨b,off+i,none⟩=false:=by simp[World.frozen?,h]
  have hst:(store (⟨b,off+i,none⟩:Addr) v .plain).run P w=.ok () (setBlk w b (.cells (c.setIfInBounds (off+i) v) el (0,0))):=by
   grind [run_store,aaj]
  have hb:b<w.heap.size:=fj h;obtain⟨c',h1,h2,h3⟩:=l7 (P:=P) vs (setBlk w b (.cells (c.setIfInBounds (off+i) v) el (0,0))) (c.setIfInBounds (off+i) v) off (i+1) (cq hb)
   (fun u hu=>hv u (.tail _ hu)) (by grind)
  grind [storeCells,gU,Sem.run_bind,Result.andThen_ok,V4,HE]
section
variable {P:Program}{g:Gh}{w:World}{t:Array Value}{O:Nat→Nat}{st st':St}{a:AV}{o:Oper}
theorem sr {b:Nat}{o o':Go.Obj}(hb:w.heap[b]?=some o) (ho:∀ off,dx o off=false) (ho':∀ off,dx o' off=false) (a:Addr):(Vm.setBlk w b o').frozen? a=w.frozen? a:=by
 by_cases e:a.block=b
 ·have h1:=ho a.off;have h2:=ho' a.off;have e1:(Vm.setBlk w b o').heap[a.block]?=some o':=by grind [cq]
  have e2:w.heap[a.block]?=some o:=by simp_all
  simp only[World.frozen?,e1,e2]
  cases o<;>cases o'<;>first | rfl | exact h2.trans h1.symm | exact h2 | exact h1.symm
 grind [World.frozen?,dT]
theorem aI.setBlk {b:Nat}{c:Array Value}{el:TypeId}{o':Go.Obj}(hb:w.heap[b]?=some (.cells c el (0,0))) (hp:∀ o,¬ g.pm b o) (hc:∀ off,dx o' off=false:=by intro off;simp[dx]):aI g w g (Vm.setBlk w b o') fun x=>x=b where
 obj _ _ h:=⟨h,rfl,rfl,rfl⟩
 pm b' o h:=⟨h,by
  grind [mo,dT]⟩
 blk b' _ h:=⟨dT h,fun _ h=>h⟩
 size:=by simp
 lp b' rc h:=⟨rc,by grind [dT]⟩
 same:=⟨rfl,rfl,sr hb (by grind [dx]) hc⟩
theorem S.store {st:St}(s:S P g w st t O) {id:Nat}{ob:Obj}(hg:get st.hs.heap id=some ob) :
  ∃ O1 Oz:Nat→Nat,fK P g w id ob O1∧(∀ b,O1 b+Oz b≤O b)∧∀ (w':World) (b:Nat) (c:Array Value) (el:TypeId) (ob':Obj) (O1':Nat→Nat),
   w.heap[b]?=some (.cells c el (0,0))→1≤O1 b→aI g w g w' (fun x=>x=b)→fK P g w' id ob' O1'→(∀ x,O1' x+Oz x≤1)→(∀ x,O1' x≠0→x<w'.heap.size)→
   S P g w' ⟨st.env,⟨put st.hs.heap id ob',st.hs.next⟩⟩ t (fun x=>O1' x+Oz x):=by
 obtain⟨Oe,Oh,re,rh,ho⟩:=s.parts;obtain⟨O1,O2,q,r2,hs⟩:=RL.take rh hg;refine⟨O1,fun b=>Oe b+O2 b,q,fun b=>by grind,fun w' b c el ob' O1' hblk h1 hx q' hle hhi=>?_⟩;have hone:O b≤1:=s.le b;have hfree:Oe b=0∧O2 b=0:=by grind
 have re':=gg.ext hx re (fun y hy e=>by simp_all);have r2':uO P g w' (del st.hs.heap id) O2:=r2.imp' fun k v Q _ hQ q=>q.ext hx (fun y hy e=>by grind) (fun y ds hd e=>by
  simp_all)
 obtain⟨O3,r3,h3⟩:=RL.put s.sh r2' q';refine⟨s.se,s.sh.put _ _,⟨Oe,O3,re',r3,fun x=>by grind⟩,hle,fun x hx0=>?_,s.fresh,
  fun b o hp=>Nat.lt_of_lt_of_le (s.pmlt b o hp) hx.size⟩
 by_cases h:O1' x=0
 ·refine Nat.lt_of_lt_of_le (s.hi x ?_) hx.size
  grind
 simp_all
theorem yQ {α:Type}{cs vs:List α}{off:Nat}:ai cs off vs=cs.take off++(vs++cs.drop (off+vs.length)):=by
 grind [ai]
theorem aaC {ty:TypeId}{n:Nat}(ht:pX P ty n=true) {st:St}(s:S P g w st t O) {id off:Nat}{b:Nat}(hob:g.obj id=some b)
  {v:AV}{x:Value}{Ov:Nat→Nat}(rv:RV g w v x Ov) (hO:∀ c,Ov c+O c≤1) (hOv:∀ c,Ov c≠0→c<w.heap.size) {h':af}
  (h:storeAt st.hs.heap n (.ptr id off) v=some h') :
  ∃ w' O2,(storeVar ty ⟨b,g.base id+off,none⟩ x).run P w=.ok () w'∧S P g w' ⟨st.env,⟨h',st.hs.next⟩⟩ t O2∧aI g w g w' (fun c=>O c≠0)∧(∀ c,O2 c≤Ov c+O c)∧
   w'.heap.size=w.heap.size:=by
 unfold storeAt at h;split at h
 ·simp at h
 ·rename_i hn;rw[Nat.beq_eq]at hn;simp only at h;split at h
  ·rename_i cs hg;split at h
   ·rename_i hb;simp only[Bool.and_eq_true,Nat.ble_eq]at hb;simp only[Option.some.injEq]at h;subst h;obtain⟨O1,Oz,q,hsum,hst⟩:=s.store hg;obtain⟨b',c,el,Oc,h1,h2,h3,h4,h5,h6,h7,h8⟩:=q;rw[hob]at h1;simp only[Option.some.injEq]at h1;subst h1;rw[h2,Nat.zero_add];have hsz:c.size=cs.length:=by rw[←h6.length];simp
    have rvs:=rv.cells hb.2;have hlenx:x.cells.toList.length=n:=by grind [RVs.length]
    obtain⟨c',hrun,hc',hcs⟩:=l7 (P:=P) (b:=b) (el:=el) x.cells.toList w c off 0 h5 (rvs.one hb.2) (by omega);have hrun':(storeVar ty ⟨b,off,none⟩ x).run P w=.ok () (setBlk w b (.cells c' el (0,0))):=by
     have hxs:x.cells.size=n:=by omega
     simp only[storeVar,Sem.run_bind,cm ht,Result.andThen_ok,hxs,ne_eq,not_true,if_false,Sem.run_ite];exact hrun
    have hOb:1≤O1 b:=by simp_all
    have hx:aI g w g (setBlk w b (.cells c' el (0,0))) fun x=>x=b:=aI.setBlk h5 h7
    have hbO:O b=1:=by grind
    have hOvb:Ov b=0:=by grind
    have hOcb:Oc b=0:=by
     grind [tq]
    have r6:=RVs.ext hx _ _ _ h6 (fun y hy e=>by simp_all);have rvs':=RVs.ext hx _ _ _ rvs (fun y hy e=>by simp_all);rw[ZS hb.1]at r6;obtain⟨B1,B2,rb1,rb2,hb12⟩:=r6.split;obtain⟨B3,B4,rb3,rb4,hb34⟩:=rb2.split;have hsl:(Vm.sub cs off n).length=n:=fN hb.1;have hjoin:=rb1.join (rvs'.join rb4);rw[←hn]at hjoin;rw[←yQ]at hjoin;have e2:c.toList.take off++(x.cells.toList++(c.toList.drop off).drop v.cells.length)=c'.toList:=by
     grind [yQ,List.drop_drop]
    have hlen':(ai cs off v.cells).length=cs.length:=by rw[←hjoin.length];grind
    refine⟨_,_,hrun',hst (setBlk w b (.cells c' el (0,0))) b c el (.cells (ai cs off v.cells)) (fun y=>(B1 y+(Ov y+B4 y))+one b y) h5 hOb hx ?_ (fun y=>?_) (fun y hy=>?_),
     hx.mono (fun y _ e=>by simp_all),fun y=>?_,by simp⟩
    all_goals grind [fK,cq,Dz,S.hi]
   simp_all
  simp_all
end
theorem fU {α:Type}{cs vs:List α}{off:Nat}(h:off+vs.length≤cs.length) (j:Nat) :
  (ai cs off vs)[j]?=if off≤j∧j<off+vs.length then vs[j-off]? else cs[j]?:=by
 grind [ai,List.getElem?_append_right]
theorem aaM {xs:List (List D)}{m:Nat}(h:∀ e∈xs,e.length=m) {i off:Nat}{e ds:List D}(hi:xs[i]?=some e) (ho:off+ds.length≤m) :
  (xs.set i (ai e off ds)).flatten=ai xs.flatten (i*m+off) ds:=by
 apply List.ext_getElem?;intro j;have hlt:=yc hi;have hl2:∀ e'∈xs.set i (ai e off ds),e'.length=m:=by
  grind [ai]
 have hmm:(i+1)*m≤xs.length*m:=Nat.mul_le_mul_right _ hlt;rw[fU (by grind [cY])];by_cases hm:m=0
 ·subst hm;have e1:(xs.set i (ai e off ds)).flatten.length=0:=by rw[cY hl2];simp
  have e2:xs.flatten.length=0:=by rw[cY h];simp
  simp_all
 have hpos:0<m:=Nat.pos_of_ne_zero hm;have hdec:j=(j / m)*m+j % m:=by grind [Nat.div_add_mod]
 have hr:j % m<m:=Nat.mod_lt _ hpos;have cell:∀ (ys:List (List D)),(∀ e∈ys,e.length=m)→ys.flatten[j]?=(ys[j / m]?).bind (·[j % m]?):=by
  intro ys hy
  cases hq:ys[j / m]? with
  | none =>
   have:ys.length≤j / m:=by
    grind
   have:ys.flatten.length≤j:=by
    rw[cY hy];exact Nat.le_trans (Nat.mul_le_mul_right m this) (by omega)
   grind
  | some e' =>
   grind [IJ]
 by_cases hk:j / m=i
 ·grind [fU]
 ·have:¬ (i*m+off≤j∧j<i*m+off+ds.length):=by
   rintro ⟨h1,h2⟩
   apply hk;have:j<(i+1)*m:=by grind
   exact Nat.div_eq_of_lt_le (by omega) this
  grind
section
variable {P:Program}{g:Gh}{w:World}{t:Array Value}{O:Nat→Nat}{st st':St}{a:AV}{o:Oper}
theorem amM {v:AV}{d:D}{x:Value}{Ov:Nat→Nat}(h:toD v=some d) (r:RV g w v x Ov):RD w g.pm d x:=by
 cases v with
 | d c=>grind [toD,RV]
 | nl=>simp only[toD,Option.some.injEq]at h;subst h;rw[r.1];exact .nil _ _
 | own p m xs =>
  cases p<;>simp only[toD,Option.some.injEq,reduceCtorEq]at h
  have:=RV.share _ _ _ r
  grind [share,RV]
 | _=>simp[toD]at h
theorem RD.one {pm:Nat→Nat→Prop}{d:D}{x:Value}(r:RD w pm d x):x.oneCell'=true:=by cases r<;>rfl
theorem GZ {vs:List AV}{ds:List D}{xs:List Value}{Ov:Nat→Nat}(h:iy vs=some ds) (r:RVs g w vs xs Ov) :
  xs.length=ds.length∧(∀ (j:Nat) (d:D),ds[j]?=some d→∃ x,xs[j]?=some x∧RD w g.pm d x)∧∀ x∈xs,x.oneCell'=true:=by
 induction vs generalizing ds xs Ov with
 | nil =>
  grind [iy,RVs]
 | cons v vs ih =>
  simp only[iy]at h;split at h
  ·rename_i c hc;split at h
   ·obtain⟨x,s,O1,O2,rfl,r1,r2,_⟩:=r;have hd:=amM hc r1
    grind [RD.one]
   simp_all
  simp_all
end
theorem Wq {v:AV}{d:D}(h:toD v=some d):aV v=true:=by
 cases v with
 | own p m xs=>cases p<;>simp[toD]at h;rfl
 | d c=>rfl
 | nl=>rfl
 | _=>simp[toD]at h
theorem EJ {vs:List AV}{ds:List D}(h:iy vs=some ds):vs.all aV=true:=by
 induction vs generalizing ds<;>grind [iy,Wq]
theorem L7 {vs:List AV}{ds:List D}(h:iy vs=some ds):ds.length=vs.length:=by
 induction vs generalizing ds<;>grind [iy]
section
variable {P:Program}{g:Gh}{w:World}{t:Array Value}{O:Nat→Nat}{st st':St}{a:AV}{o:Oper}
theorem aej {ty:TypeId}{n:Nat}(ht:pX P ty n=true) {st:St}(s:S P g w st t O) {id i off:Nat}{b:Nat}(hob:g.obj id=some b)
  {v:AV}{x:Value}{Ov:Nat→Nat}(rv:RV g w v x Ov) {h':af}
  (h:storeAt st.hs.heap n (.pel id i off) v=some h') :
  ∃ w' O2,(storeVar ty ⟨b,g.base id+(i*g.esz id+off),none⟩ x).run P w=.ok () w'∧S P g w' ⟨st.env,⟨h',st.hs.next⟩⟩ t O2∧aI g w g w' (fun c=>O c≠0)∧(∀ c,O2 c≤O c)∧
   w'.heap.size=w.heap.size:=by
 unfold storeAt at h;split at h
 ·simp at h
 ·rename_i hn;rw[Nat.beq_eq]at hn;simp only at h;split at h
  ·simp at h
  ·rename_i ds hds;split at h
   ·rename_i m xs hg;split at h
    ·rename_i e he;split at h
     ·rename_i hb;rw[Nat.ble_eq]at hb;simp only[Option.some.injEq]at h;subst h;obtain⟨O1,Oz,q,hsum,hst⟩:=s.store hg;rcases q with ⟨rfl,_⟩ | ⟨b',c,el,g1,g2,g3,g4,g5,g6,g7,g8,g9,g10⟩
      ·simp at he
      ·rw[hob]at g1;simp only[Option.some.injEq]at g1;subst g1;have hlt:=yc he;have hem:e.length=m:=g7 e (List.mem_of_getElem? he);have hmm:(i+1)*m≤xs.length*m:=Nat.mul_le_mul_right _ hlt;rw[Nat.succ_mul]at hmm;have rvs:=rv.cells (EJ hds);obtain⟨k1,k2,k3⟩:=GZ hds rvs;have hdl:ds.length=n:=by grind [L7]
       have hlenx:x.cells.toList.length=n:=by omega
       obtain⟨c',hrun,hc',hcs⟩:=l7 (P:=P) (b:=b) (el:=el) x.cells.toList w c (g.base id+(i*g.esz id+off)) 0 g4 k3 (by grind);have hrun':(storeVar ty ⟨b,g.base id+(i*g.esz id+off),none⟩ x).run P w=.ok () (setBlk w b (.cells c' el (0,0))):=by
        have hxs:x.cells.size=n:=by omega
        simp only[storeVar,Sem.run_bind,cm ht,Result.andThen_ok,hxs,ne_eq,not_true,if_false,Sem.run_ite];exact hrun
       have hx:aI g w g (setBlk w b (.cells c' el (0,0))) fun x=>x=b:=aI.setBlk g4 g9
       have hOb:1≤O1 b:=by simp_all
       have hl2:∀ e'∈xs.set i (ai e off ds),e'.length=m:=by
        grind [ai]
       refine⟨_,_,hrun',hst (setBlk w b (.cells c' el (0,0))) b c el (.arr m (xs.set i (ai e off ds))) (one b) g4 hOb hx ?_ (fun y=>?_) (fun y hy=>?_),
        hx.mono (fun y _ e=>by grind),fun y=>?_,by simp⟩
       ·refine .inr ⟨b,c',el,hob,g2,g3,cq (fj g4),by omega,by simp_all,hl2,?_,g9,fun _=>rfl⟩;rw[aaM g7 he (by omega)];have hfl:=cY g7;intro j d hj;rw[fU (by omega)]at hj;have hcell:(setBlk w b (.cells c' el (0,0))).cell? ⟨b,g.base id+j,none⟩=c'.toList[g.base id+j]?:=by
         grind [dI,cq]
        rw[hcell,hc',fU (by grind),hlenx,g2];split at hj
        ·grind [RD.ext]
        ·obtain⟨u,hu,hr⟩:=g8 j d hj
         grind [RD.ext,dI]
       ·have:=s.le y;grind
       ·rw[pW hy];simp_all [fj]
       simp_all
     simp_all
    simp_all
   simp_all
theorem asQ {n:Nat}{p x:Rd}(s:S P g w st t O) (h:aen n p x st=some (a,st')) (hc:aE P (.st n p x) o.op=true) :
  cO P g w t O st' a ((execOp (ev t) o).run P w):=by
 obtain⟨dst,op,ty,pos,aft,gd⟩:=o;simp only[aE]at hc;split at hc
 ·rename_i ty' p' x';simp only[Bool.and_eq_true]at hc;obtain⟨⟨h1,h2⟩,h3⟩:=hc;obtain⟨pv,xv,e,Op,Ox,O',rp,rx,s2,l2,k⟩:=JE s h2 h3 h;split at k
  ·rename_i h' hst;obtain⟨rfl,rfl⟩:=k;have fin:∀ {ad:Addr}{w':World},ev t p'=.pointer (some ad)→(storeVar ty' ad (ev t x')).run P w=.ok () w'→
     (execOp (ev t) ⟨dst,.store ty' p' x',ty,pos,aft,gd⟩).run P w=.ok .skip w':=by
    simp_all [execOp,Instr.storeAt,Instr.sureAddr]
   cases pv with
   | ptr id off =>
    obtain⟨⟨b,hob,he⟩,_⟩:=rp;obtain⟨w',O2,hrun,s3,hx,ho,hsz⟩:=aaC h1 s2 hob rx (fun c=>by have:=l2 c;have:=s.le c;omega) (fun c hc=>s.hi c (by grind)) hst;refine⟨undef,w',g,zero,O2,.inr ⟨fin he hrun,rfl⟩,?_,s3,hx.mono fun c _ h=>by grind,fun c=>by have:=s3.le c;simp_all,fun c _=>?_,by simp⟩
    all_goals grind [RV]
   | pel id i off =>
    obtain⟨⟨b,hob,he⟩,_⟩:=rp;obtain⟨w',O2,hrun,s3,hx,ho,hsz⟩:=aej h1 s2 hob rx hst;refine⟨undef,w',g,zero,O2,.inr ⟨fin he hrun,rfl⟩,?_,s3,hx.mono fun c _ h=>by grind,fun c=>by have:=s3.le c;simp_all,fun c _=>?_,by simp⟩
    all_goals grind [RV]
   | _=>grind [storeAt]
  simp_all
 simp_all
end
section
variable {P:Program}{g:Gh}{w:World}{t:Array Value}{O:Nat→Nat}{st st':St}{a:AV}
def Ep (P:Program) (g:Gh) (w:World) (t:Array Value) (O:Nat→Nat) (st':St):Prop :=
 ∃ g' O',S P g' w st' t O'∧aI g w g' w (fun b=>O b≠0)∧∀ b,O' b≤O b
theorem Ep.same {O':Nat→Nat}(s:S P g w st' t O') (h:∀ b,O' b≤O b):Ep P g w t O st':=⟨g,O',s,.refl _ _ _,h⟩
theorem S.delEnv {st:St}(s:S P g w st t O) (i:Nat):∃ O',S P g w ⟨del st.env i,st.hs⟩ t O'∧∀ b,O' b≤O b:=by
 obtain⟨Oe,Oh,re,rh,ho⟩:=s.parts;obtain⟨O1,r1,h1⟩:=RL.drop re i;have hle:∀ b,O1 b+Oh b≤O b:=fun b=>by simp_all
 exact⟨fun b=>O1 b+Oh b,s.of_env r1 rh (s.se.del i) (fun _=>rfl) hle,hle⟩
theorem S.delHeap {st:St}(s:S P g w st t O) (i:Nat):∃ O',S P g w ⟨st.env,⟨del st.hs.heap i,st.hs.next⟩⟩ t O'∧∀ b,O' b≤O b:=by
 obtain⟨Oe,Oh,re,rh,ho⟩:=s.parts;obtain⟨O1,r1,h1⟩:=RL.drop rh i;have hle:∀ b,Oe b+O1 b≤O b:=fun b=>by simp_all
 exact⟨fun b=>Oe b+O1 b,⟨s.se,s.sh.del i,⟨Oe,O1,re,r1,fun _=>rfl⟩,fun b=>Nat.le_trans (hle b) (s.le b),
  fun b hb=>s.hi b (by grind),s.fresh,s.pmlt⟩,hle⟩
theorem aoz {is:List Nat}(s:S P g w st t O) (h:Zw is st=some (a,st')):Ep P g w t O st':=by
 simp only[Zw,Option.some.injEq,Prod.mk.injEq]at h;have:∃ O',S P g w ⟨is.foldl del st.env,st.hs⟩ t O'∧∀ b,O' b≤O b:=by
  induction is generalizing st O with
  | nil=>exact⟨O,s,fun _=>Nat.le_refl _⟩
  | cons i is ih =>
   obtain⟨O1,s1,h1⟩:=s.delEnv i
   grind
 grind [Ep.same]
theorem S.delAll:∀ {l:List Nat}{st:St}{O:Nat→Nat},S P g w st t O→∃ O',S P g w ⟨st.env,⟨delAll st.hs.heap l,st.hs.next⟩⟩ t O'∧∀ b,O' b≤O b
 | [],_,O,s=>⟨O,s,fun b=>Nat.le_refl _⟩
 | i::r,st,O,s=>by
  obtain⟨O1,s1,h1⟩:=s.delHeap i;obtain⟨O2,s2,h2⟩:=S.delAll (l:=r) s1;exact⟨O2,s2,fun b=>Nat.le_trans (h2 b) (h1 b)⟩
theorem anO {i:Nat}(s:S P g w st t O) (h:OX i st=some (a,st')):Ep P g w t O st':=by
 unfold OX at h;split at h
 ·rename_i id _ _;obtain⟨O1,s1,h1⟩:=s.delEnv i;obtain⟨O2,s2,h2⟩:=s1.delHeap id
  grind [Ep.same]
 ·rename_i caps _;obtain⟨O1,s1,h1⟩:=s.delEnv i;obtain⟨O2,s2,h2⟩:=S.delAll (l:=Cr caps) s1
  grind [Ep.same]
 grind [Ep.same]
theorem atn {i m:Nat}(s:S P g w st t O) (h:ajn i m st=some (a,st')):Ep P g w t O st':=by
 unfold ajn at h;split at h
 ·rename_i hg;obtain⟨_,rfl⟩:=h;obtain⟨Oe,Oh,re,rh,ho⟩:=s.parts;obtain⟨O1,O2,⟨hlt,q⟩,r2,hs⟩:=RL.take re hg;simp only[RV]at q;obtain⟨O3,r3,h3⟩:=RL.put s.se r2 (x:=.own false m []) (O1:=zero) ⟨hlt,by grind [RV,wb]⟩;have hle:∀ b,O3 b+Oh b≤O b:=fun b=>by simp_all
  exact .same (s.of_env r3 rh (s.se.put _ _) (fun _=>rfl) hle) hle
 grind [Ep.same]
end
def Gh.keep (g:Gh) (b:Nat) (K:Nat→Prop):Gh:={ g with pm:=fun b' o=>g.pm b' o∨(b'=b∧K o) }
section
variable {P:Program}{g:Gh}{w:World}{t:Array Value}{O:Nat→Nat}{st st':St}{a:AV}
theorem aI.keep (g:Gh) (w:World) (b:Nat) (K:Nat→Prop):aI g w (g.keep b K) w fun x=>x=b where
 obj _ _ h:=⟨h,rfl,rfl,rfl⟩
 pm _ _ h:=⟨.inl h,rfl⟩
 blk _ _ h:=⟨rfl,fun _ h'=>h'.elim id fun e=>absurd e.1 h⟩
 size:=Nat.le_refl _
 lp _ rc h:=⟨rc,h⟩
 same:=⟨rfl,rfl,fun _=>rfl⟩
theorem S.keep {st:St}(s:S P g w st t O) {b:Nat}(hO:O b=0) {c:Array Value}{el:TypeId}(hb:w.heap[b]?=some (.cells c el (0,0))) (K:Nat→Prop) :
  S P (g.keep b K) w st t O:=by
 obtain⟨Oe,Oh,re,rh,ho⟩:=s.parts;have hx:=aI.keep g w b K;have re':=gg.ext hx re (fun y hy e=>by simp_all);have rh':uO P (g.keep b K) w st.hs.heap Oh:=rh.imp' fun k v Q _ hQ q=>q.ext hx (fun y hy e=>by grind) (fun y ds hd e=>by
  simp_all)
 exact⟨s.se,s.sh,⟨Oe,Oh,re',rh',ho⟩,s.le,s.hi,s.fresh,fun b' o h=>h.elim (s.pmlt b' o) fun e=>by grind⟩
def alU (P:Program) (g:Gh) (w:World) (t:Array Value) (O:Nat→Nat) (st:St) (x:Value) (Ov:Nat→Nat) (r:AV×af):Prop :=
 ∃ g' Ov' O',RV g' w r.1 x Ov'∧S P g' w ⟨st.env,⟨r.2,st.hs.next⟩⟩ t O'∧aI g w g' w (fun b=>Ov b=0∧O b≠0)∧∀ b,Ov' b+O' b≤Ov b+O b
theorem acM {st:St}(s:S P g w st t O) {v:AV}{x:Value}{Ov:Nat→Nat}(rv:RV g w v x Ov) :
  alU P g w t O st x Ov (so st.hs.heap v):=by
 have triv:alU P g w t O st x Ov (v,st.hs.heap):=⟨g,Ov,O,rv,s,.refl _ _ _,fun _=>Nat.le_refl _⟩
 cases v with
 | sl id off len =>
  unfold so;simp only;split
  ·rename_i m xs hg;split
   ·rename_i hb;rw[Nat.ble_eq]at hb;obtain⟨Oe,Oh,re,rh,ho⟩:=s.parts;obtain⟨O1,O2,q,r2,hs⟩:=RL.take rh hg;have hle2:∀ b,Oe b+O2 b≤O b:=fun b=>by grind
    have s2:S P g w ⟨st.env,⟨del st.hs.heap id,st.hs.next⟩⟩ t (fun b=>Oe b+O2 b) :=
     ⟨s.se,s.sh.del id,⟨Oe,O2,re,r2,fun _=>rfl⟩,fun b=>Nat.le_trans (hle2 b) (s.le b),fun b hb=>s.hi b (by grind),s.fresh,s.pmlt⟩
    have hsub:(Vm.sub xs off len).length=len:=fN hb;have emp:len=0→(∃ a,x=.slice a 0 0)→RV g w (.own false m (Vm.sub xs off len)) x zero:=by
     grind [RV,wb]
    rcases rv with ⟨h0,h⟩ | ⟨b,cap,hob,rfl,hlc,hcap⟩
    ·exact⟨g,zero,_,emp h0 h,s2,.refl _ _ _,fun b=>by simp_all⟩
    ·rcases q with ⟨rfl,g1,g2,g3,_⟩ | ⟨b',c,el,g1,g2,g3,g4,g5,g6,g7,g8,g9,g10⟩
     ·have hl0:len=0:=by simp_all
      have hc0:cap=0:=by
       grind [Nat.mul_eq_zero]
      subst hl0 hc0;exact⟨g,zero,_,emp rfl ⟨_,rfl⟩,s2,.refl _ _ _,fun b=>by simp_all⟩
     ·rw[hob]at g1;simp only[Option.some.injEq]at g1;subst g1;have h1:O1 b=1:=by simp_all
      have hO2:Oe b+O2 b=0:=by have:=hs b;have:=ho b;have:=s.le b;omega
      have s3:=s2.keep hO2 g4 (fun o=>g.base id+off*m≤o∧o<g.base id+off*m+len*m);refine⟨_,one b,_,?_,s3,(aI.keep g w b _).mono fun y _ e=>?_,fun y=>?_⟩
      ·refine .inr ⟨b,g.base id+off*m,cap,c,el,by simp_all,by omega,g3,AK g7 off len,g4,?_,?_,fun o ho=>?_,fun _ j hj=>?_,rfl⟩
       ·grind [Nat.add_mul]
       ·rw[jF g7];exact(g8.sub _ _).ext (aI.keep g w b _) (.inl rfl)
       ·rcases ho with h | h<;>simp_all
       ·rw[hsub]at hj;exact .inr ⟨rfl,by omega,by omega⟩
      all_goals grind
   omega
  omega
 | _=>exact triv
end
section
variable {P:Program}{g:Gh}{w:World}{t:Array Value}{O:Nat→Nat}{st st':St}{a:AV}
theorem S.pull {st:St}(s:S P g w st t O) {i:Nat}{v:AV}(hg:get st.env i=some v) :
  ∃ Ov O',i<t.size∧RV g w v (t.getD i undef) Ov∧S P g w ⟨del st.env i,st.hs⟩ t O'∧∀ b,Ov b+O' b≤O b:=by
 obtain⟨Oe,Oh,re,rh,ho⟩:=s.parts;obtain⟨O1,O2,⟨hlt,q⟩,r2,hs⟩:=RL.take re hg;have hle:∀ b,O1 b+(O2 b+Oh b)≤O b:=fun b=>by grind
 exact⟨O1,fun b=>O2 b+Oh b,hlt,q,s.of_env r2 rh (s.se.del i) (fun _=>rfl) (fun b=>by grind),hle⟩
theorem S.setSlot {e:aq}{hs:HS}{i:Nat}(he:bj e) (s:S P g w ⟨del e i,hs⟩ t O) {v:AV}{Ov:Nat→Nat}(hi:i<t.size) (r:RV g w v (t.getD i undef) Ov)
  (hle:∀ b,Ov b+O b≤1) (hhi:∀ b,Ov b≠0→b<w.heap.size):∃ O',S P g w ⟨put e i v,hs⟩ t O'∧∀ b,O' b≤Ov b+O b:=by
 obtain⟨Oe,Oh,re,rh,ho⟩:=s.parts;obtain⟨O3,r3,h3⟩:=RL.put he re (x:=v) (O1:=Ov) ⟨hi,r⟩;have hsum:∀ b,O3 b+Oh b≤Ov b+O b:=fun b=>by grind
 refine⟨fun b=>O3 b+Oh b,⟨he.put _ _,s.sh,⟨O3,Oh,r3,rh,fun _=>rfl⟩,fun b=>Nat.le_trans (hsum b) (hle b),fun b hb=>?_,s.fresh,s.pmlt⟩,hsum⟩
 grind [hi]
theorem ao9 {i:Nat}(s:S P g w st t O) (h:PV i st=some (a,st')):Ep P g w t O st':=by
 unfold PV at h;split at h
 ·rename_i v hg;obtain⟨_,rfl⟩:=h;obtain⟨Ov,O1,hi,rv,s1,l1⟩:=s.pull hg;obtain⟨g',Ov',O2,rv',s2,hx,l2⟩:=acM s1 rv;have hle:∀ b,Ov' b+O2 b≤O b:=fun b=>Nat.le_trans (l2 b) (l1 b)
  obtain⟨O3,s3,l3⟩:=S.setSlot (e:=st.env) s.se s2 hi rv' (fun b=>Nat.le_trans (hle b) (s.le b)) (fun b hb=>s.hi b (by grind));exact⟨g',O3,s3,hx.mono fun b _ h=>by grind,fun b=>Nat.le_trans (l3 b) (hle b)⟩
 simp_all
theorem Ba:∀ (offs:List Nat) {g:Gh}{O:Nat→Nat}{e:aq}{h:af}{n:Nat},S P g w ⟨e,⟨h,n⟩⟩ t O→∀ {cs:List AV}{xs:List Value}{Ov:Nat→Nat},
  RVs g w cs xs Ov→(∀ b,Ov b+O b≤1)→
  ∃ g' Ov' O',RVs g' w (pM offs cs h).1 xs Ov'∧S P g' w ⟨e,⟨(pM offs cs h).2,n⟩⟩ t O'∧aI g w g' w (fun b=>Ov b≠0∨O b≠0)∧∀ b,Ov' b+O' b≤Ov b+O b
 | [],g,O,e,h,n,s,cs,xs,Ov,rv,_=>⟨g,Ov,O,rv,s,.refl _ _ _,fun _=>Nat.le_refl _⟩
 | o::r,g,O,e,h,n,s,cs,xs,Ov,rv,hle=>by
  unfold pM;split
  ·rename_i v hv;obtain⟨x,A1,A2,hx,r1,r2,hs⟩:=rv.pull hv;obtain⟨g1,A1',O1,r1',s1,hx1,l1⟩:=acM s r1;have r2':=RVs.ext hx1 _ _ _ r2 (fun b hb hh=>by grind);have hj:(cs.set o .junk)[o]?=some .junk:=by grind
   obtain⟨y,B1,hy,_,_,rep⟩:=r2'.replace hj;rw[hx]at hy;simp only[Option.some.injEq]at hy;subst hy;obtain⟨B2,r3,h3⟩:=rep _ _ r1';rw[List.set_set]at r3;have hle1:∀ b,B2 b+O1 b≤Ov b+O b:=fun b=>by grind
   obtain⟨g2,Ov2,O2,r4,s4,hx2,l4⟩:=Ba r s1 r3 (fun b=>Nat.le_trans (hle1 b) (hle b));refine⟨g2,Ov2,O2,r4,s4,(hx1.mono fun b _ hh=>.inr hh.2).trans hx2 fun b _ hh=>?_,fun b=>Nat.le_trans (l4 b) (hle1 b)⟩
   grind
  ·exact Ba r s rv hle
theorem amR {i:Nat}{offs:List Nat}(s:S P g w st t O) (h:YT i offs st=some (a,st')):Ep P g w t O st':=by
 unfold YT at h;split at h
 ·rename_i cs hg;obtain⟨_,rfl⟩:=h;obtain⟨Ov,O1,hi,rv,s1,l1⟩:=s.pull hg;obtain⟨xs,hxs,rv⟩:=rv;obtain⟨g',Ov',O2,rv',s2,hx,l2⟩:=Ba offs s1 rv (fun b=>Nat.le_trans (l1 b) (s.le b));have hle:∀ b,Ov' b+O2 b≤O b:=fun b=>Nat.le_trans (l2 b) (l1 b)
  obtain⟨O3,s3,l3⟩:=S.setSlot (e:=st.env) (v:=.agg (pM offs cs st.hs.heap).1) s.se s2 hi (by grind [RV]) (fun b=>Nat.le_trans (hle b) (s.le b))
   (fun b hb=>s.hi b (by grind))
  exact⟨g',O3,s3,hx.mono fun b _ h=>by grind,fun b=>Nat.le_trans (l3 b) (hle b)⟩
 simp_all
end
section
variable {P:Program}{g:Gh}{w:World}{t:Array Value}{O:Nat→Nat}{st st':St}{a:AV}
theorem JM {g:Gh}(s:S P g w st t O) {v:AV}{x:Value}{Ov:Nat→Nat}(rv:RV g w v x Ov) (hle:∀ b,Ov b+O b≤1) :
  ∃ g',RV g' w (kU v) x Ov∧S P g' w st t O∧aI g w g' w (fun b=>Ov b≠0):=by
 have triv:RV g w (kU v) x Ov→∃ g',RV g' w (kU v) x Ov∧S P g' w st t O∧aI g w g' w (fun b=>Ov b≠0):=fun r=>⟨g,r,s,.refl _ _ _⟩
 cases v with
 | own p m xs =>
  cases p with
  | false=>exact triv rv
  | true =>
   rcases rv with h | ⟨b,off,cap,c,el,rfl,hcap,hm,hl,hb,hsz,hrc,hpm,hp,rfl⟩
   ·exact triv (by exact .inl h)
   ·have hO:O b=0:=by grind [tq]
    refine⟨g.keep b fun o=>off≤o∧o<off+xs.length*m,?_,s.keep hO hb _,(aI.keep g w b _).mono fun y _ e=>by simp_all⟩;refine .inr ⟨b,off,cap,c,el,rfl,hcap,hm,hl,hb,hsz,hrc.ext (aI.keep g w b _) (.inl rfl),fun o ho=>?_,fun _ j hj=>.inr ⟨rfl,by omega,by omega⟩,rfl⟩;rcases ho with h | h<;>simp_all
 | _=>exact triv rv
theorem Ir {f:AV→AV}(hf:∀ {g:Gh}{O:Nat→Nat},S P g w st t O→∀ {v:AV}{x:Value}{Ov:Nat→Nat},RV g w v x Ov→(∀ b,Ov b+O b≤1)→
  ∃ g',RV g' w (f v) x Ov∧S P g' w st t O∧aI g w g' w (fun b=>Ov b≠0)):∀ {vs:List AV}{g:Gh}{O:Nat→Nat},S P g w st t O→∀ {xs:List Value}{Ov:Nat→Nat},
  RVs g w vs xs Ov→(∀ b,Ov b+O b≤1)→∃ g',RVs g' w (vs.map f) xs Ov∧S P g' w st t O∧aI g w g' w (fun b=>Ov b≠0)
 | [],g,O,s,xs,Ov,rv,_=>⟨g,by simp_all,s,.refl _ _ _⟩
 | v::vs,g,O,s,xs,Ov,rv,hle=>by
  obtain⟨x,ys,O1,O2,rfl,r1,r2,hs⟩:=rv;obtain⟨g1,q1,s1,hx1⟩:=hf s r1 (fun b=>by grind);have r2':=RVs.ext hx1 _ _ _ r2 (fun b hb hh=>by grind);obtain⟨g2,q2,s2,hx2⟩:=Ir hf s1 r2' (fun b=>by grind);refine⟨g2,?_,s2,(hx1.mono fun b _ h=>by simp_all).trans hx2 fun b _ h=>by simp_all⟩;exact⟨x,ys,O1,O2,rfl,RV.ext hx2 _ _ _ q1 (fun b hb hh=>by grind),q2,hs⟩
theorem UW {g:Gh}{O:Nat→Nat}(s:S P g w st t O) {v:AV}{x:Value}{Ov:Nat→Nat}(rv:RV g w v x Ov) (hle:∀ b,Ov b+O b≤1) :
  ∃ g',RV g' w (oS v) x Ov∧S P g' w st t O∧aI g w g' w (fun b=>Ov b≠0):=by
 cases v with
 | agg cs =>
  obtain⟨xs,rfl,rv⟩:=rv
  simp_all [Ir,JM,oS,RV]
 | _=>exact JM s rv hle
theorem XF {g:Gh}{O:Nat→Nat}(s:S P g w st t O) {v:AV}{x:Value}{Ov:Nat→Nat}(rv:RV g w v x Ov) (hle:∀ b,Ov b+O b≤1) :
  ∃ g',RV g' w (firm v) x Ov∧S P g' w st t O∧aI g w g' w (fun b=>Ov b≠0):=by
 cases v with
 | tup cs =>
  obtain⟨xs,rfl,rv⟩:=rv
  simp_all [Ir,UW,firm,RV]
 | _=>exact UW s rv hle
end
section
variable {P:Program}{w:World}{t:Array Value}{st st':St}{a:AV}
def Zz (P:Program) (g:Gh) (w:World) (t:Array Value) (O:Nat→Nat) (env:aq) (x:Value) (Ov:Nat→Nat) (r:AV×HS):Prop :=
 ∃ g' Ov' O',RV g' w r.1 x Ov'∧S P g' w ⟨env,r.2⟩ t O'∧aI g w g' w (fun _=>False)∧∀ b,Ov' b+O' b≤Ov b+O b
theorem aI.id (g:Gh) (w:World) {id:Nat}(hn:g.obj id=none) (b base esz bsz:Nat):aI g w (g.add id b base esz bsz) w fun _=>False :=
 by grind [aI.add,aI.refl]
theorem akY {g:Gh}{O:Nat→Nat}{hs:HS}{env:aq}(s:S P g w ⟨env,hs⟩ t O) {v:AV}{x:Value}{Ov:Nat→Nat}(rv:RV g w v x Ov) (hle:∀ b,Ov b+O b≤1)
  (hhi:∀ b,Ov b≠0→b<w.heap.size):Zz P g w t O env x Ov (jH hs v):=by
 have triv:Zz P g w t O env x Ov (v,hs):=⟨g,Ov,O,rv,s,.refl _ _ _,fun _=>Nat.le_refl _⟩
 cases v with
 | own p m xs =>
  cases p with
  | false=>exact triv
  | true =>
   unfold jH;simp only;split
   ·exact triv
   ·rename_i hm;have hm:m≠0:=by rintro rfl;simp at hm
    have hn:=s.fresh hs.next (Nat.le_refl _)
    have put1:∀ (b base esz bsz:Nat) (ob:Obj) (O1:Nat→Nat),fK P (g.add hs.next b base esz bsz) w hs.next ob O1→(∀ y,O1 y+O y≤1)→(∀ y,O1 y≠0→y<w.heap.size)→
      ∃ O',S P (g.add hs.next b base esz bsz) w ⟨env,⟨put hs.heap hs.next ob,hs.next+1⟩⟩ t O'∧∀ y,O' y≤O1 y+O y:=by
     intro b base esz bsz ob O1 r h1 h2;have hx:=aI.id g w hn b base esz bsz;obtain⟨Oe,Oh,re,rh,ho⟩:=s.parts;have re':=gg.ext hx re (by simp);have rh':uO P (g.add hs.next b base esz bsz) w hs.heap Oh:=rh.imp' fun k v Q _ hQ q=>q.ext hx (by simp) (by simp)
     obtain⟨O2,r2,h3⟩:=RL.drop rh' hs.next;obtain⟨O3,r3,h4⟩:=RL.put s.sh r2 r;have hl:∀ y,Oe y+O3 y≤O1 y+O y:=fun y=>by grind
     refine⟨fun y=>Oe y+O3 y,⟨s.se,s.sh.put _ _,⟨Oe,O3,re',r3,fun _=>rfl⟩,fun y=>Nat.le_trans (hl y) (h1 y),fun y hy=>?_,fun i hi=>?_,s.pmlt⟩,hl⟩
     all_goals grind [S.hi,Gh.add,S.fresh]
    rcases rv with ⟨rfl,hz,⟨a,rfl⟩⟩ | ⟨b,off,cap,c,el,rfl,hcap,hm',hl,hb,hsz,hrc,hpm,hp,rfl⟩
    ·obtain⟨O',s',hO'⟩:=put1 0 0 m 0 (.arr m []) zero (by
      simp only[fK];exact .inl ⟨trivial,by simp[Gh.add],by simp[Gh.add],by omega,⟨0,by simp[Gh.add]⟩,fun _=>trivial⟩) (fun y=>by simp_all) (fun y h=>absurd rfl h)
     refine⟨_,zero,O',?_,s',aI.id g w hn _ _ _ _,fun y=>by simp_all⟩
     grind [RV]
    ·obtain⟨O',s',hO'⟩:=put1 b off m (off+cap*m) (.arr m xs) (one b) (by
      refine .inr ⟨b,c,el,by simp[Gh.add],by simp[Gh.add],hm',hb,by grind [Gh.add],?_,hl,by grind [Gh.add],fun o ho=>?_,fun _=>rfl⟩
      ·simp_all [Gh.add,Nat.mul_le_mul_right]
      ·have:=(hpm o ho).1;simp_all) hle hhi
     refine⟨_,zero,O',?_,s',aI.id g w hn _ _ _ _,fun y=>by simp_all⟩
     simp_all [RV,Gh.add]
 | _=>exact triv
end
section
variable {P:Program}{w:World}{t:Array Value}
def R7 (P:Program) (w:World) (t:Array Value) (f:HS→AV→AV×HS):Prop :=
 ∀ {g:Gh}{O:Nat→Nat}{hs:HS}{env:aq},S P g w ⟨env,hs⟩ t O→∀ {v:AV}{x:Value}{Ov:Nat→Nat},RV g w v x Ov→(∀ b,Ov b+O b≤1)→
  (∀ b,Ov b≠0→b<w.heap.size)→Zz P g w t O env x Ov (f hs v)
theorem RK {f:HS→AV→AV×HS}(hf:R7 P w t f) {g:Gh}{O:Nat→Nat}{hs:HS}{env:aq}(s:S P g w ⟨env,hs⟩ t O) {cs:List AV}{xs:List Value}{Ov:Nat→Nat}
  (rv:RVs g w cs xs Ov) (hle:∀ b,Ov b+O b≤1) (hhi:∀ b,Ov b≠0→b<w.heap.size) {o:Nat}{v:AV}(hv:cs[o]?=some v) :
  ∃ g' Ov' O',RVs g' w (cs.set o (f hs v).1) xs Ov'∧S P g' w ⟨env,(f hs v).2⟩ t O'∧aI g w g' w (fun _=>False)∧∀ b,Ov' b+O' b≤Ov b+O b:=by
 obtain⟨x,A1,A2,hx,r1,r2,hs'⟩:=rv.pull hv;obtain⟨g1,A1',O1,r1',s1,hx1,l1⟩:=hf s r1 (fun b=>by grind) (fun b h=>hhi b (by grind));have r2':=RVs.ext hx1 _ _ _ r2 (by simp)
 grind [List.getElem?_set_self,RVs.replace,List.set_set]
theorem UZ:R7 P w t jH:=fun s _ _ _ r h1 h2=>akY s r h1 h2
theorem Qo (o:Nat):R7 P w t (fun hs=>jd hs o):=by
 intro g O hs env s v x Ov rv hle hhi
 cases v with
 | agg cs =>
  obtain⟨xs,rfl,rv⟩:=rv;simp only[jd];split
  ·rename_i v hv;obtain⟨g',Ov',O',r',s',hx,l'⟩:=RK UZ s rv hle hhi hv;exact⟨g',Ov',O',by grind [RV],s',hx,l'⟩
  ·exact⟨g,Ov,O,by grind [RV],s,.refl _ _ _,fun _=>Nat.le_refl _⟩
 | _=>exact UZ s rv hle hhi
theorem afp (p:Nat×Nat):R7 P w t (fun hs=>ll hs p):=by
 intro g O hs env s v x Ov rv hle hhi
 cases v with
 | tup cs =>
  obtain⟨xs,rfl,rv⟩:=rv;simp only[ll];split
  ·rename_i v hv;obtain⟨g',Ov',O',r',s',hx,l'⟩:=RK (Qo p.2) s rv hle hhi hv;exact⟨g',Ov',O',by grind [RV],s',hx,l'⟩
  ·exact⟨g,Ov,O,by grind [RV],s,.refl _ _ _,fun _=>Nat.le_refl _⟩
 | _=>exact Qo p.2 s rv hle hhi
theorem D8:∀ th:List (Nat×Nat),R7 P w t (fun hs v=>bS th v hs)
 | []=>fun s _ _ _ rv _ _=>⟨_,_,_,rv,s,.refl _ _ _,fun _=>Nat.le_refl _⟩
 | p::r=>by
  intro s v x Ov rv hle hhi;obtain⟨g1,Ov1,O1,r1,s1,hx1,l1⟩:=afp p s rv hle hhi;obtain⟨g2,Ov2,O2,r2,s2,hx2,l2⟩:=D8 r s1 r1 (fun b=>Nat.le_trans (l1 b) (hle b)) (fun b hb=>by
   grind [S.hi])
  exact⟨g2,Ov2,O2,r2,s2,hx1.trans hx2 (fun _ _ h=>h),fun b=>Nat.le_trans (l2 b) (l1 b)⟩
end
section
variable {P:Program}{g:Gh}{w:World}{t:Array Value}{O:Nat→Nat}
theorem S.setTmp {e:aq}{hs:HS}(s:S P g w ⟨e,hs⟩ t O) {d:Nat}{v:AV}{x:Value}{Ov:Nat→Nat}(hd:d<t.size) (r:RV g w v x Ov)
  (hle:∀ b,Ov b+O b≤1) (hhi:∀ b,Ov b≠0→b<w.heap.size):∃ O',S P g w ⟨put e d v,hs⟩ (t.setIfInBounds d x) O'∧∀ b,O' b≤Ov b+O b:=by
 obtain⟨Oe,Oh,re,rh,ho⟩:=s.parts;obtain⟨O2,r2,h2⟩:=RL.drop re d;have r2':gg g w (del e d) (t.setIfInBounds d x) O2:=r2.imp' fun k v' O1 hm _ q=>by
  have hk:=(acs hm).2;refine⟨by simp_all,?_⟩;have:(t.setIfInBounds d x).getD k undef=t.getD k undef:=by
   simp only[Array.getD_eq_getD_getElem?,Array.getElem?_setIfInBounds]
   grind
  grind
 obtain⟨O3,r3,h3⟩:=RL.put s.se r2' (x:=v) (O1:=Ov) ⟨by simp_all,by
  simp_all⟩
 have hl:∀ b,O3 b+Oh b≤Ov b+O b:=fun b=>by grind
 refine⟨fun b=>O3 b+Oh b,⟨s.se.put _ _,s.sh,⟨O3,Oh,r3,rh,fun _=>rfl⟩,fun b=>Nat.le_trans (hl b) (hle b),fun b hb=>?_,s.fresh,s.pmlt⟩,hl⟩
 grind [hi]
end
section
variable {P:Program}{g:Gh}{w:World}{t:Array Value}{O:Nat→Nat}{st st':St}{a:AV}{o:Oper}
theorem DL {m:Nat}{ys:List (List D)}(h:dt m ys=true):∀ e∈ys,e.length=m:=by
 induction ys<;>grind [dt,Nat.beq_eq]
theorem JQ (ds:List D):(Dw ds).flatten=ds:=by
 induction ds<;>grind [Dw]
theorem ZD (ds:List D):∀ e∈Dw ds,e.length=1:=by
 induction ds<;>grind [Dw]
structure uI (g:Gh) (w:World) (m:Nat) (ys:List (List D)) (a:Option Addr) (news:List Value):Prop where
 nn:a=.none→ys.length=0
 len:news.length=ys.length*m
 rd:∀ (j:Nat) (d:D),ys.flatten[j]?=some d→∃ u,news[j]?=some u∧RD w g.pm d u
 one:∀ u∈news,u.oneCell'=true
 cell:∀ ad,a=some ad→∀ (j:Nat) (u:Value),news[j]?=some u→w.cell? (ad.add j)=some u
theorem uI.nil (g:Gh) (w:World) (m:Nat) (a:Option Addr):uI g w m [] a [] :=
 ⟨fun _=>rfl,by simp,fun j d h=>by simp at h,fun u h=>by simp at h,fun ad _ j u h=>by simp at h⟩
theorem uI.of_cells {m:Nat}{ys:List (List D)}(hl:∀ e∈ys,e.length=m) {b off:Nat}(r:eu w g.pm ys.flatten b off):∃ news,uI g w m ys (some ⟨b,off,.none⟩) news:=by
 obtain⟨xs,h1,h2,h3⟩:=r.vals;refine⟨xs,fun h=>by simp at h,by grind [cY],fun j d hd=>?_,fun u hu=>?_,fun ad e j u hj=>?_⟩
 ·have hj:j<xs.length:=by grind
  exact⟨xs[j],by simp,h3 j d _ hd (by simp)⟩
 ·obtain⟨j,hj,rfl⟩:=List.mem_iff_getElem.1 hu;have hj':j<ys.flatten.length:=by omega
  exact(h3 j _ _ (List.getElem?_eq_getElem hj') (List.getElem?_eq_getElem hj)).one
 grind [gU]
theorem t9 {st:St}(s:S P g w st t O) {v:AV}{ys:List (List D)}{x:Value}{Ov:Nat→Nat}{m:Nat}(he:elems st.hs.heap v=some ys) (hl:∀ e∈ys,e.length=m)
  (rv:RV g w v x Ov):∃ a cap news,x=.slice a ys.length cap∧uI g w m ys a news:=by
 by_cases hn:oA v=false
 ·rcases (TE he hn rv).list with ⟨rfl,a,cap,rfl⟩ | ⟨b,off,m',cap,rfl,_,_,_,hc,_⟩
  ·exact⟨a,cap,[],rfl,uI.nil _ _ _ _⟩
  ·obtain⟨news,h⟩:=uI.of_cells hl hc
   grind
 ·cases v<;>simp only[oA,not_true,Bool.true_eq_false,not_false_eq_true]at hn
  rename_i id off len;simp only[elems]at he;split at he
  ·rename_i xs hx;split at he
   ·rename_i hb;rw[Nat.ble_eq]at hb;simp only[Option.some.injEq]at he;subst he;have hsl:(Vm.sub xs off len).length=len:=fN hb;rcases rv.1 with ⟨rfl,a,rfl⟩ | ⟨b,cap,hob,rfl,hlc,hcap⟩
    ·exact⟨a,0,[],rfl,uI.nil _ _ _ _⟩
    ·obtain⟨Oe,Oh,re,rh,ho⟩:=s.parts;unfold objElems at hx;split at hx
     ·rename_i m' zs hg;obtain⟨O1,q,_⟩:=RL.get rh hg;rcases q with ⟨rfl,_⟩ | ⟨b',c,el,g1,g2,g3,g4,g5,g6,g7,g8,g9,g10⟩
      ·have h0:len=0:=by simp_all
       subst h0;exact⟨_,cap,[],rfl,uI.nil _ _ _ _⟩
      ·have hc:eu w g.pm (Vm.sub zs off len).flatten b (g.base id+off*g.esz id):=by
        simp_all [jF,eu.sub]
       simp_all [uI.of_cells]
     ·rename_i cs hg;split at hx
      ·rename_i ds hds;obtain⟨O1,q,_⟩:=RL.get rh hg;obtain⟨b',c,el,O2,g1,g2,g3,g4,g5,g6,g7,g8⟩:=q;obtain⟨h1,h2,h3⟩:=GZ hds g6;have hc:eu w g.pm (Vm.sub (Dw ds) off len).flatten b (g.base id+off*g.esz id):=by
        rw[jF (ZD ds),JQ,g2,g3,Nat.zero_add];intro j d hj;obtain⟨hj,_⟩:=ab2 hj
        grind [dI]
       simp_all [uI.of_cells]
      simp_all
     simp_all
   simp_all
  simp_all
theorem uI.first {m:Nat}{ys:List (List D)}{ad:Option Addr}{news:List Value}(h:uI g w m ys ad news) {len cap n:Nat}(hn:n≤ys.length) {w1:World}(hw:w1.heap=w.heap) :
  (Builtin.firstCells m n (.slice ad len cap)).run P w1=.ok (news.take (n*m)).toArray w1:=by
 cases ad with
 | none =>
  have:=h.nn rfl
  simp_all [Builtin.firstCells]
 | some ad =>
  have hl:(news.take (n*m)).length=n*m:=by
   grind [len,Nat.mul_le_mul_right]
  refine run_firstCells_some (P:=P) w1 m n ad len cap _ hl fun j v hj=>?_
  have hj':news[j]?=some v:=by
   grind
  have:=h.cell ad rfl j v hj'
  grind [World.cell?]
end
structure Rb (P:Program) (w:World) (t1:TypeId) (x:Value) (e:TypeId) (m n:Nat) (news:List Value):Prop where
 len:news.length=n*m
 one:∀ u∈news,u.oneCell'=true
 src:((∃ e',P.underlying t1=some (.slice e'))∧(∃ a cap,x=.slice a n cap)∧∀ w1:World,w1.heap=w.heap→(Builtin.firstCells m n x).run P w1=.ok news.toArray w1)∨
  ((∃ k,P.underlying t1=some (.int k))∧(∃ k,x=.int k (n:Int))∧∃ i z,P.info? e=some i∧i.zero=some z∧z.cells.size=m∧news.toArray=Builtin.zeroCells z.cells n)
section
variable {P:Program}{w:World}{t0 t1 ty e:TypeId}{m n:Nat}{x:Value}{news:List Value}
theorem nV {i:TypeInfo}{z:Value}(hi:P.info? e=some i) (hz:i.zero=some z):(zeroValue e).run P w=.ok z w:=by
 simp_all [zeroValue,typeInfo]
theorem SK {n b:Nat}(hn:n≤4294967296) (hb:b≤4096):n*b≤17592186044416:=Nat.le_trans (Nat.mul_le_mul hn hb) (by decide)
theorem vS (hu:P.underlying t0=some (.slice e)) {i:TypeInfo}(hi:P.info? e=some i) (hs:i.size=m) (hm:0<m) (hby:i.bytes≤4096) (hn:n≤4294967296)
  (hx:Rb P w t1 x e m n news) {base:Option Addr}{sLen sCap:Nat}(hroom:sLen+n≤sCap) :
  (Builtin.append_ #[t0,t1] ty #[.slice base sLen sCap,x]).run P w =
   match base with
   | some a=>((do storeCells (a.add (sLen*m)) news;pure (.slice (some a) (sLen+n) sCap):Sem Value)).run P w
   | none=>.ok (.slice none (sLen+n) sCap) w:=by
 have hlen:=hx.len;have hroom':sLen+n≤sCap:=hroom;rcases hx.src with ⟨⟨e',h1⟩,⟨ad,cap,rfl⟩,hf⟩ | ⟨⟨k,h1⟩,⟨kk,rfl⟩,i',z,hi',hz,hzs,hzc⟩
 ·have hf':=hf w rfl
  cases base<;>simp[Builtin.append_,ar hu,ar h1,sizeOf,typeInfo,hi,hs,Builtin.lenOf,hroom',hf']
 ·rw[hi]at hi';simp only[Option.some.injEq]at hi';subst hi';have hw1:=Gm hn;have hbytes:=SK hn hby;have hn0:¬ (n:Int)<0:=by omega
  have hzv:=nV (P:=P) (w:=w) hi hz;have hbig':¬ (281474976710656<(n:Int)*(i.bytes:Int)):=by omega
  by_cases hnm:n*m=0
  ·have hnil:news=[]:=List.eq_nil_of_length_eq_zero (by omega);subst hnil
   cases base<;>simp[Builtin.append_,ar hu,ar h1,sizeOf,typeInfo,hi,hs,asInt,asIntOf,hw1,hn0,hbig',hroom',hnm]
  ·cases base<;>simp[Builtin.append_,ar hu,ar h1,sizeOf,typeInfo,hi,hs,asInt,asIntOf,hw1,hn0,hbig',hroom',hnm,hzv,←hzc]
theorem NN (hu:P.underlying t0=some (.slice e)) {i:TypeInfo}{z:Value}(hi:P.info? e=some i) (hz:i.zero=some z) (hzs:z.cells.size=m) (hs:i.size=m) (hm:0<m)
  (hby:i.bytes≤4096) (hn:n≤4294967296) (hx:Rb P w t1 x e m n news) {base:Option Addr}{sLen sCap:Nat}{olds:List Value}(hlo:olds.length=sLen*m)
  (hold:∀ w1:World,w1.heap=w.heap→(Builtin.firstCells m sLen (.slice base sLen sCap)).run P w1=.ok olds.toArray w1)
  (hsum:sLen+n≤4294967296) (hg:sCap<sLen+n) :
  ∃ cap' rest,(Builtin.append_ #[t0,t1] ty #[.slice base sLen sCap,x]).run P w =
    .ok (.slice (some ⟨w.heap.size,0,none⟩) (sLen+n) cap') (w.drew.alloc (.cells (olds++(news++rest)).toArray e))∧
   sLen+n≤cap'∧cap'*m≤(olds++(news++rest)).length:=by
 have hlen:=hx.len;have hng:¬ (sLen+n≤sCap):=by omega
 have h63:¬ (9223372036854775807<((sLen:Int)+(n:Int))):=by omega
 have hfit:Builtin.nextslicecap (sLen+n) sCap*i.bytes≤281474976710656:=growslice_fits hg (Nat.le_trans (SK hsum hby) (by decide));have h48:¬ (281474976710656<Builtin.nextslicecap (sLen+n) sCap*i.bytes):=by omega
 have hcap:sLen+n≤grownCap w (sLen+n) sCap e:=by grind [grownCap,Question.cut]
 have hold':=hold w.drew rfl;have hzv:=fun w1=>nV (P:=P) (w:=w1) hi hz
 refine⟨grownCap w (sLen+n) sCap e,(Builtin.zeroCells z.cells (grownCap w (sLen+n) sCap e-(sLen+n))).toList,?_,hcap,?_⟩
 ·rcases hx.src with ⟨⟨e',h1⟩,⟨ad,cap,rfl⟩,hf⟩ | ⟨⟨k,h1⟩,⟨kk,rfl⟩,i',z',hi',hz',hzs',hzc⟩
  ·have hf':=hf w.drew rfl;simp[Builtin.append_,ar hu,ar h1,sizeOf,typeInfo,hi,hs,hzv,Builtin.lenOf,hng,h63,h48,Question.forced,hf',hold',newRow,grownCap]
   congr 2
   simp_all
  ·rw[hi]at hi';simp only[Option.some.injEq]at hi';subst hi';rw[hz]at hz';simp only[Option.some.injEq]at hz';have hw1:=Gm hn;have hbytes:=SK hn hby;have hbig':¬ (281474976710656<(n:Int)*(i.bytes:Int)):=by omega
   have hn0:¬ (n:Int)<0:=by omega
   by_cases hnm:n*m=0
   ·simp[Builtin.append_,ar hu,ar h1,sizeOf,typeInfo,hi,hs,asInt,asIntOf,hw1,hn0,hbig',hnm,hzv,hng,h63,h48,Question.forced,hold',newRow,grownCap]
    congr 2
    simp_all
   ·simp[Builtin.append_,ar hu,ar h1,sizeOf,typeInfo,hi,hs,asInt,asIntOf,hw1,hn0,hbig',hnm,hzv,hng,h63,h48,Question.forced,←hzc,hold',newRow,grownCap]
    congr 2
    grind
 ·have hz1:(Builtin.zeroCells z.cells (grownCap w (sLen+n) sCap e-(sLen+n))).toList.length=(grownCap w (sLen+n) sCap e-(sLen+n))*m:=by
   grind [Builtin.zeroCells]
  rw[List.length_append,List.length_append,hlo,hlen,hz1,←Nat.add_mul,←Nat.add_mul]
  grind
end
section
variable {P:Program}{g:Gh}{w:World}{t:Array Value}{O:Nat→Nat}{st st':St}{a:AV}{o:Oper}
theorem cO.mono {O2:Nat→Nat}{res:Result Next}(h:cO P g w t O st' a res) (hle:∀ b,O b≤O2 b):cO P g w t O2 st' a res:=by
 obtain⟨x,w',g',Oa,O',k⟩:=h;exact⟨x,w',g',Oa,O',k.run,k.val,k.st,k.ext.mono (fun b _ h=>by grind),k.le,fun b hb=>Nat.le_trans (k.old b hb) (hle b),k.hi⟩
def nz (P:Program) (g:Gh) (w:World) (t:Array Value) (O Oa:Nat→Nat) (st':St) (r:AV) (res:Result Value):Prop :=
 ∃ v w' g' Or O',res=.ok v w'∧RV g' w' r v Or∧S P g' w' st' t O'∧aI g w g' w' (fun b=>Oa b≠0∨O b≠0)∧(∀ b,Or b+O' b≤1)∧
  (∀ b,b<w.heap.size→Or b+O' b≤Oa b+O b)∧∀ b,Or b≠0→b<w'.heap.size
theorem nz.firm {Oa:Nat→Nat}{m:Nat}{xs:List (List D)}{res:Result Value}(h:nz P g w t O Oa st' (.own true m xs) res):nz P g w t O Oa st' (.own false m xs) res:=by
 obtain⟨v,w',g',Or,O',h1,h2,h3,h4,h5,h6,h7⟩:=h;obtain⟨g2,r2,s2,x2⟩:=JM h3 h2 h5;exact⟨v,w',g2,Or,O',h1,r2,s2,h4.trans x2 (fun b hb h=>by grind),h5,h6,h7⟩
theorem aI.write {b pos:Nat}{c c':Array Value}{el:TypeId}{news:List Value}(hb:w.heap[b]?=some (.cells c el (0,0))) (hp:∀ o,g.pm b o→o<pos)
  (hc:c'.toList=ai c.toList pos news) (hsz:pos≤c.size):aI g w g (Vm.setBlk w b (.cells c' el (0,0))) fun x=>x=b where
 obj _ _ h:=⟨h,rfl,rfl,rfl⟩
 pm b' o h:=⟨h,by
  by_cases e:b'=b
  ·subst e;rw[dI (cq (fj hb)),dI hb,←Array.getElem?_toList,hc,←Array.getElem?_toList]
   grind [ai]
  grind [mo,dT]⟩
 blk b' _ h:=⟨dT h,fun _ h=>h⟩
 size:=by simp
 lp b' rc h:=⟨rc,by grind [dT]⟩
 same:=⟨rfl,rfl,sr hb (by grind [dx]) (by grind [dx])⟩
theorem S.other {w':World}{b:Nat}{c:Array Value}{el:TypeId}(s:S P g w st t O) (hb:w.heap[b]?=some (.cells c el (0,0))) (hx:aI g w g w' fun x=>x=b) (hO:O b=0) :
  S P g w' st t O:=by
 obtain⟨Oe,Oh,re,rh,ho⟩:=s.parts;have re':=gg.ext hx re (fun y hy e=>by simp_all);have rh':uO P g w' st.hs.heap Oh:=rh.imp' fun k v Q _ hQ q=>q.ext hx (fun y hy e=>by grind) (fun y ds hd e=>by
  simp_all)
 exact⟨s.se,s.sh,⟨Oe,Oh,re',rh',ho⟩,s.le,fun b hb=>Nat.lt_of_lt_of_le (s.hi b hb) hx.size,s.fresh,fun b o h=>Nat.lt_of_lt_of_le (s.pmlt b o h) hx.size⟩
def DK (g:Gh) (w:World) (ys:List (List D)) (news:List Value):Prop:=∀ (j:Nat) (d:D),ys.flatten[j]?=some d→∃ u,news[j]?=some u∧RD w g.pm d u
theorem abD {b off m cap:Nat}{c c':Array Value}{el:TypeId}{news:List Value}{xs ys:List (List D)}(hb:w.heap[b]?=some (.cells c el (0,0)))
  (hx:aI g w g (Vm.setBlk w b (.cells c' el (0,0))) fun x=>x=b) (hc:c'.toList=ai c.toList (off+xs.length*m) news) (hl:∀ e∈xs,e.length=m)
  (hcap:off+cap*m≤c.size) (hroom:xs.length+ys.length≤cap) (hn:news.length=ys.length*m) (hrc:eu w g.pm xs.flatten b off) (hnew:DK g w ys news) :
  eu (Vm.setBlk w b (.cells c' el (0,0))) g.pm (xs++ys).flatten b off:=by
 have hfl:=cY hl;have hbound:(xs.length+ys.length)*m≤cap*m:=Nat.mul_le_mul_right _ hroom;rw[Nat.add_mul]at hbound;have hcl:c.toList.length=c.size:=Array.length_toList;intro j d hj;rw[List.flatten_append]at hj;rw[dI (cq (fj hb)),←Array.getElem?_toList,hc,fU (by omega)];rcases Nat.lt_or_ge j xs.flatten.length with h | h
 ·rw[List.getElem?_append_left h]at hj;obtain⟨u,hu,hr⟩:=hrc j d hj
  grind [dI,RD.ext]
 ·rw[List.getElem?_append_right h]at hj;obtain⟨u,hu,hr⟩:=hnew _ d hj
  grind [RD.ext]
variable {t0 t1 ty e:TypeId}{m n:Nat}{x:Value}{news:List Value}{xs ys:List (List D)}{i:TypeInfo}{z:Value}
theorem NF {Oa:Nat→Nat}(s:S P g w st t O) (hu:P.underlying t0=some (.slice e)) (hi:P.info? e=some i) (hz:i.zero=some z) (hzs:z.cells.size=m) (hs:i.size=m) (hm:0<m)
  (hby:i.bytes≤4096) (hx:Rb P w t1 x e m ys.length news) (hnew:DK g w ys news) {base:Option Addr}{sCap:Nat}(hl:∀ e∈xs,e.length=m) (hl2:∀ e∈ys,e.length=m)
  {olds:List Value}(hlo:olds.length=xs.length*m) (hod:DK g w xs olds) (hold:∀ w1:World,w1.heap=w.heap→(Builtin.firstCells m xs.length (.slice base xs.length sCap)).run P w1=.ok olds.toArray w1)
  (hsum:xs.length+ys.length≤4294967296) (hg:sCap<xs.length+ys.length) :
  nz P g w t O Oa st (.own true m (xs++ys)) ((Builtin.append_ #[t0,t1] ty #[.slice base xs.length sCap,x]).run P w):=by
 obtain⟨cap',rest,hrun,h1,h2⟩:=NN (P:=P) (ty:=ty) hu hi hz hzs hs hm hby (Nat.le_trans (Nat.le_add_left _ _) hsum) hx hlo hold hsum hg;have hop:cO P g w t O st (.own true m (xs++ys)) (.ok (.value (.slice (some ⟨w.heap.size,0,none⟩) (xs++ys).length cap')) (w.drew.alloc (.cells (olds++(news++rest)).toArray e))):=by
  refine cO.list (w1:=w.drew) s s (fun _=>Nat.le_refl _) (aI.drew g w _) rfl rfl hm (fun e he=>?_) (by simp_all) (by omega) fun j d hj=>?_
  ·grind
  ·rw[List.flatten_append]at hj;have hfl:=cY hl;rcases Nat.lt_or_ge j xs.flatten.length with h | h
   ·rw[List.getElem?_append_left h]at hj;obtain⟨u,hu,hr⟩:=hod j d hj
    grind
   ·rw[List.getElem?_append_right h]at hj;obtain⟨u,hu,hr⟩:=hnew _ d hj
    grind
 obtain⟨v,w',g',Or,O',k⟩:=hop;rcases k.run with hr | hr
 ·exact⟨_,_,g',Or,O',by simp_all,k.val,k.st,k.ext.mono (fun b _ h=>.inr h),k.le,fun b hb=>by grind [apR.old],k.hi⟩
 simp_all
theorem akl (s:S P g w st t O) (hu:P.underlying t0=some (.slice e)) (hi:P.info? e=some i) (hs:i.size=m) (hm:0<m)
  (hby:i.bytes≤4096) (hx:Rb P w t1 x e m ys.length news) (hnew:DK g w ys news) {b off cap:Nat}(hl:∀ e∈xs,e.length=m) (hl2:∀ e∈ys,e.length=m)
  {c:Array Value}{el:TypeId}(hb:w.heap[b]?=some (.cells c el (0,0))) (hcap:off+cap*m≤c.size) (hrc:eu w g.pm xs.flatten b off) (hO:O b=0) (hp:∀ o,g.pm b o→o<off+xs.length*m)
  (hsum:ys.length≤4294967296) (hroom:xs.length+ys.length≤cap) :
  ∃ v w',(Builtin.append_ #[t0,t1] ty #[.slice (some ⟨b,off,none⟩) xs.length cap,x]).run P w=.ok v w'∧S P g w' st t O∧aI g w g w' (fun y=>y=b)∧w'.heap.size=w.heap.size∧
   ((∀ o,¬ g.pm b o)→RV g w' (.own true m (xs++ys)) v (one b))∧
   ∃ g',aI g w g' w' (fun y=>y=b)∧S P g' w' st t O∧RV g' w' (.own false m (xs++ys)) v (one b):=by
 have hbound:(xs.length+ys.length)*m≤cap*m:=Nat.mul_le_mul_right _ hroom;rw[Nat.add_mul]at hbound;have hn:=hx.len;obtain⟨c',h1,h2,h3⟩:=l7 (P:=P) (b:=b) (el:=el) news w c (off+xs.length*m) 0 hb hx.one (by omega);have hrun:=vS (P:=P) (w:=w) (ty:=ty) hu hi hs hm hby hsum hx (base:=some ⟨b,off,none⟩) hroom;have hext:=aI.write hb hp h2 (by omega);have s':=s.other hb hext hO;have hcells:=abD hb hext h2 hl hcap hroom hn hrc hnew;have hla:∀ e∈xs++ys,e.length=m:=fun e he=>by
  grind
 refine⟨.slice (some ⟨b,off,none⟩) (xs.length+ys.length) cap,_,?_,s',hext,by simp,fun hnp=>?_,?_⟩
 ·grind [gU,Sem.run_bind,Result.andThen_ok,Sem.run_pure]
 ·refine .inr ⟨b,off,cap,c',el,by simp,by simp_all,hm,hla,cq (fj hb),by omega,hcells,fun o ho=>absurd ho (hnp o),fun h=>by simp at h,rfl⟩
 ·have hb':(Vm.setBlk w b (.cells c' el (0,0))).heap[b]?=some (.cells c' el (0,0)):=cq (fj hb);refine⟨g.keep b fun o=>off≤o∧o<off+(xs++ys).length*m,hext.trans (aI.keep g _ b _) (fun _ _ h=>h),s'.keep hO hb' _,?_⟩;simp only[RV,wb];refine .inr ⟨b,off,cap,c',el,by simp,by simp_all,hm,hla,hb',by omega,hcells.ext (aI.keep g _ b _) (.inl rfl),fun o ho=>⟨trivial,?_⟩,fun _ j hj=>.inr ⟨rfl,by omega,by omega⟩,rfl⟩;rcases ho with ho | ⟨_,_,ho⟩<;>grind [Nat.add_mul]
end
section
variable {P:Program}{g:Gh}{w:World}{t:Array Value}{O:Nat→Nat}{st st':St}{a:AV}{o:Oper}
variable {t0 t1 ty e:TypeId}{m n:Nat}{x:Value}{news:List Value}{xs ys:List (List D)}{i:TypeInfo}{z:Value}
theorem eu.olds {b off:Nat}(hl:∀ e∈xs,e.length=m) (r:eu w g.pm xs.flatten b off) (len cap:Nat) :
  ∃ olds:List Value,olds.length=xs.length*m∧DK g w xs olds∧∀ w1:World,w1.heap=w.heap→(Builtin.firstCells m xs.length (.slice (some ⟨b,off,none⟩) len cap)).run P w1=.ok olds.toArray w1:=by
 obtain⟨news,h⟩:=uI.of_cells hl r;refine⟨news,h.len,h.rd,fun w1 hw=>?_⟩;have:=h.first (P:=P) (len:=len) (cap:=cap) (Nat.le_refl _) hw
 rw[←h.len,List.take_length]at this;exact this
theorem oD (m:Nat) (a:Option Addr) (len cap:Nat) (w1:World):(Builtin.firstCells m 0 (.slice a len cap)).run P w1=.ok #[] w1:=by
 cases a with
 | none=>simp[Builtin.firstCells]
 | some a =>
  grind [run_firstCells_some]
theorem Qr {Oa:Nat→Nat}{va r:AV}{x0:Value}{h':af}(s:S P g w st t O) (ra:RV g w va x0 Oa) (hle:∀ b,Oa b+O b≤1) (hhi:∀ b,Oa b≠0→b<w.heap.size)
  (hu:P.underlying t0=some (.slice e)) (hi:P.info? e=some i) (hz:i.zero=some z) (hzs:z.cells.size=m) (hs:i.size=m) (hm:0<m)
  (hby:i.bytes≤4096) (hx:Rb P w t1 x e m ys.length news) (hnew:DK g w ys news) (hl2:∀ e∈ys,e.length=m) (h:cA m st.hs.heap va ys=some (r,h')) :
  nz P g w t O Oa ⟨st.env,⟨h',st.hs.next⟩⟩ r ((Builtin.append_ #[t0,t1] ty #[x0,x]).run P w):=by
 unfold cA at h;split at h
 ·simp at h
 ·rename_i hy;rw[Nat.ble_eq]at hy;have hy':ys.length≤4294967296:=hy;have empty:∀ {st1:St}{O1:Nat→Nat},S P g w st1 t O1→(∀ b,O1 b≤Oa b+O b)→∀ ad:Option Addr,ys.length=0→∀ r,RV g w r (.slice ad 0 0) zero→
    nz P g w t O Oa st1 r ((Builtin.append_ #[t0,t1] ty #[.slice ad 0 0,x]).run P w):=by
   intro st1 O1 s1 hO1 ad h0 r hr;have hnil:news=[]:=List.eq_nil_of_length_eq_zero (by grind [Rb.len]);have hrun:=vS (P:=P) (w:=w) (ty:=ty) hu hi hs hm hby hy' hx (base:=ad) (sLen:=0) (sCap:=0) (by omega);refine⟨.slice ad 0 0,w,g,zero,O1,?_,hr,s1,.refl _ _ _,fun b=>by grind,fun b _=>by simp_all,fun b hb=>by simp at hb⟩;rw[hrun,hnil,h0]
   cases ad<;>simp[storeCells]
  have weak:∀ {st1:St}{O1:Nat→Nat}{r:AV}{res:Result Value},(∀ b,O1 b≤Oa b+O b)→nz P g w t O1 zero st1 r res→nz P g w t O Oa st1 r res:=by
   rintro st1 O1 r res hO1 ⟨v,w',g',Or,O',k1,k2,k3,k4,k5,k6,k7⟩
   exact⟨v,w',g',Or,O',k1,k2,k3,k4.mono (fun b _ h=>by grind),k5,fun b hb=>by grind,k7⟩
  have grows0:∀ {st1:St}{O1:Nat→Nat},S P g w st1 t O1→(∀ b,O1 b≤Oa b+O b)→∀ ad:Option Addr,ys.length≠0→
    nz P g w t O Oa st1 (.own true m ys) ((Builtin.append_ #[t0,t1] ty #[.slice ad 0 0,x]).run P w):=by
   intro st1 O1 s1 hO1 ad h0;refine weak hO1 ?_;have:=NF (Oa:=zero) (xs:=[]) (base:=ad) (sCap:=0) (olds:=[]) (ty:=ty) s1 hu hi hz hzs hs hm hby hx hnew (fun e he=>by simp at he) hl2 (by simp)
    (fun j d h=>by simp at h) (fun w1 _=>oD m ad 0 0 w1) (by simp_all) (by omega)
   simp_all
  have block:∀ {st1:St}{O1:Nat→Nat}{zs:List (List D)}{b off cap:Nat}{c:Array Value}{el:TypeId},S P g w st1 t O1→(∀ y,O1 y+one b y≤1)→(∀ y,O1 y+one b y≤Oa y+O y)→(∀ e∈zs,e.length=m)→
    w.heap[b]?=some (.cells c el (0,0))→off+cap*m≤c.size→eu w g.pm zs.flatten b off→(∀ o,g.pm b o→o<off+zs.length*m)→zs.length+ys.length≤4294967296→
    ∀ p:Bool,(p=true→∀ o,¬ g.pm b o)→
    nz P g w t O Oa st1 (.own p m (zs++ys)) ((Builtin.append_ #[t0,t1] ty #[.slice (some ⟨b,off,none⟩) zs.length cap,x]).run P w):=by
   intro st1 O1 zs b off cap c el s1 hO1 hO2 hlz hb hcap hrc hp hsum p hpp;have hOb:O1 b=0:=by grind [tq]
   by_cases hroom:zs.length+ys.length≤cap
   ·obtain⟨v,w',k1,k2,k3,k4,k5,g',k6,k7,k8⟩:=akl (ty:=ty) s1 hu hi hs hm hby hx hnew hlz hl2 hb hcap hrc hOb hp hy' hroom;have hx1:∀ {g1:Gh},aI g w g1 w' (fun y=>y=b)→aI g w g1 w' (fun y=>Oa y≠0∨O y≠0):=fun h=>h.mono fun y _ e=>by
     grind [tq]
    cases p with
    | true=>exact⟨v,w',g,one b,O1,k1,k5 (hpp rfl),k2,hx1 k3,fun y=>by grind,fun y _=>by grind,fun y hy=>by grind [pW]⟩
    | false=>exact⟨v,w',g',one b,O1,k1,k8,k7,hx1 k6,fun y=>by grind,fun y _=>by grind,fun y hy=>by grind [pW]⟩
   ·obtain⟨olds,q1,q2,q3⟩:=eu.olds hlz hrc zs.length cap;have:=NF (Oa:=zero) (base:=some ⟨b,off,none⟩) (sCap:=cap) (ty:=ty) s1 hu hi hz hzs hs hm hby hx hnew hlz hl2 q1 q2 q3 hsum (by omega);have h2:=weak (fun y=>by grind) this
    cases p<;>grind [nz.firm]
  split at h
  ·simp only[Option.some.injEq,Prod.mk.injEq]at h;obtain⟨rfl,rfl⟩:=h;simp only[RV]at ra;obtain⟨rfl,_⟩:=ra
   cases ys with
   | nil=>exact empty s (fun b=>by omega) none rfl _ (by simp[RV])
   | cons y ys=>exact grows0 s (fun b=>by omega) none (by simp)
  ·rename_i p k zs;split at h
   ·rename_i hk;simp only[Bool.and_eq_true,Nat.beq_eq,Nat.ble_eq]at hk;obtain⟨rfl,hsum⟩:=hk;simp only[Option.some.injEq,Prod.mk.injEq]at h;obtain⟨rfl,rfl⟩:=h;simp only[RV]at ra;rcases ra with ⟨rfl,_,ad,rfl⟩ | ⟨b,off,cap,c,el,rfl,hcap,_,hlz,hb,hsz,hrc,hpm,hp,rfl⟩
    ·by_cases h0:ys.length=0
     ·have:ys=[]:=List.eq_nil_of_length_eq_zero h0;subst this;exact empty s (fun b=>by omega) ad rfl _ (by grind [RV,wb])
     ·exact(grows0 s (fun b=>by omega) ad h0).firm
    ·exact block s (fun y=>by grind) (fun y=>by omega) hlz hb hsz hrc (fun o ho=>(hpm o ho).2) hsum false (fun h=>by simp at h)
   simp_all
  ·rename_i id off len;split at h
   ·rename_i k zs hg;split at h
    ·rename_i hk;simp only[Bool.and_eq_true,Nat.beq_eq,Nat.ble_eq]at hk;obtain⟨⟨rfl,hin⟩,hsum⟩:=hk;simp only[Option.some.injEq,Prod.mk.injEq]at h;obtain⟨rfl,rfl⟩:=h;simp only[RV]at ra;obtain⟨ra,hOa⟩:=ra;obtain⟨Oe,Oh,re,rh,ho⟩:=s.parts;obtain⟨O1,O2,q,r2,hsm⟩:=RL.take rh hg;have hle2:∀ b,Oe b+O2 b≤O b:=fun b=>by grind
     have s2:S P g w ⟨st.env,⟨del st.hs.heap id,st.hs.next⟩⟩ t (fun b=>Oe b+O2 b) :=
      ⟨s.se,s.sh.del id,⟨Oe,O2,re,r2,fun _=>rfl⟩,fun b=>Nat.le_trans (hle2 b) (s.le b),fun b hb=>s.hi b (by grind),s.fresh,s.pmlt⟩
     have hsub:(Vm.sub zs off len).length=len:=fN hin;have emp:len=0→∀ ad:Option Addr,nz P g w t O Oa ⟨st.env,⟨del st.hs.heap id,st.hs.next⟩⟩ (.own true k (Vm.sub zs off len++ys)) ((Builtin.append_ #[t0,t1] ty #[.slice ad 0 0,x]).run P w):=by
      grind [RV,wb]
     rcases ra with ⟨h0,ad,rfl⟩ | ⟨b,cap,hob,rfl,hlc,hcap⟩
     ·simp_all
     ·simp only[fK]at q;rcases q with ⟨rfl,g1,g2,g3,_⟩ | ⟨b',c,el,g1,g2,g3,g4,g5,g6,g7,g8,g9,g10⟩
      ·have hc0:cap=0:=by
        grind [Nat.mul_eq_zero]
       simp_all
      ·rw[g2,Nat.add_mul]at hcap;have:=block (zs:=Vm.sub zs off len) (off:=g.base id+off*k) (cap:=cap) s2 (fun y=>by grind)
        (fun y=>by grind) (AK g7 off len) g4 (by omega)
        (by simp_all [jF,eu.sub]) (fun o h=>absurd h (g9 o)) (by rw[hsub];exact hsum) true (fun _=>g9)
       simp_all
    simp_all
   simp_all
  simp_all
end
section
variable {P:Program}{g:Gh}{w:World}{t:Array Value}{O:Nat→Nat}{st st':St}{a:AV}{o:Oper}
theorem nz.op1 {O1 Oa:Nat→Nat}{r:AV}{res:Result Value}(h:nz P g w t O1 Oa st' r res) (hle:∀ b,Oa b+O1 b≤O b) {res':Result Next}
  (hr:∀ v w',res=.ok v w'→res'=.ok (.value v) w'):cO P g w t O st' r res':=by
 obtain⟨v,w',g',Or,O',k1,k2,k3,k4,k5,k6,k7⟩:=h;exact⟨v,w',g',Or,O',.inl (hr v w' k1),k2,k3,k4.mono (fun b _ h=>by grind),k5,fun b hb=>by grind,k7⟩
theorem lG {ty:TypeId}{m:Nat}(h:ja P ty m=true):∃ e i zv,P.underlying ty=some (.slice e)∧P.info? e=some i∧i.zero=some zv∧zv.cells.size=m:=by
 grind [ja,Nat.beq_eq]
theorem Gq {e:TypeId}{i:TypeInfo}{m:Nat}(h:pX P e m=true) (hi:P.info? e=some i):i.size=m:=by
 grind [pX,Nat.beq_eq]
theorem DD {e:TypeId}{i:TypeInfo}(hi:P.info? e=some i):P.bytesOf e=i.bytes:=by grind [Program.bytesOf]
theorem CI {c:Call}(h:Kv c=true):c.argTypes=#[mE c,c.argTypes.getD 1 0]:=by
 simp only[Kv,Nat.beq_eq]at h;apply Array.ext
 ·simp[h]
 ·intro i h1 h2;have h1':i<2:=by omega
  have:i=0∨i=1:=by omega
  rcases this with rfl | rfl<;>simp[mE,Array.getD,h]
theorem apL {m:Nat}{x y:Rd}(s:S P g w st t O) (h:Ag m x y st=some (a,st')) (hc:aE P (.app m x y) o.op=true) :
  cO P g w t O st' a ((execOp (ev t) o).run P w):=by
 obtain⟨dst,op,ty,pos,aft,gd⟩:=o;simp only[aE]at hc;split at hc
 ·rename_i c;simp only[Bool.and_eq_true]at hc;obtain⟨⟨⟨⟨⟨h1,h2⟩,h3⟩,h4⟩,h5⟩,h6⟩:=hc;have hats:=CI h2;obtain⟨callee,args,ats⟩:=c;have:=kI h1;obtain⟨x',y',e1,hx,hy⟩:=aeD h6;subst e1;obtain⟨va,vb,e,Oa,Ob,O',ra,rb,s',hl,hk⟩:=JE s hx hy h;split at hk
  ·rename_i ys hys;split at hk
   ·rename_i hok;split at hk
    ·rename_i r h' hap;obtain⟨rfl,rfl⟩:=hk;obtain⟨el,hu,hsz,hm,hby⟩:=dR h3;obtain⟨el',i,zv,hu',hi,hz,hzs⟩:=lG h4;rw[hu]at hu';simp only[Option.some.injEq,TypeDesc.slice.injEq]at hu';subst hu';rw[DD hi]at hby;have hlen:=DL hok;obtain⟨ad,cap,news,hxv,hels⟩:=t9 (st:=⟨e,st.hs⟩) s' hys hlen rb;split at h5
     ·rename_i e' hu1;generalize hT0:mE ⟨.builtin .append,#[x',y'],ats⟩=T0 at *;generalize hT1:ats.getD 1 0=T1 at *;have hsrc:Rb P w T1 (ev t y') el m ys.length news:=by
       refine⟨hels.len,hels.one,.inl ⟨⟨e',hu1⟩,⟨ad,cap,hxv⟩,fun w1 hw=>?_⟩⟩;have:=hels.first (P:=P) (len:=ys.length) (cap:=cap) (Nat.le_refl _) hw
       rw[←hels.len,List.take_length,←hxv]at this;exact this
      have:=Qr (st:=⟨e,st.hs⟩) (ty:=ty) s' ra (fun b=>by have:=hl b;have:=s.le b;omega) (fun b hb=>s.hi b (by grind)) hu hi hz hzs (Gq hsz hi) hm hby hsrc hels.rd hlen hap;refine this.op1 (fun b=>by grind) fun v w' hr=>?_
      simp_all [execOp,resolve,invoke,builtin]
     grind
    grind
   grind
  grind
 simp_all
theorem UM {zs:List D}{zv:Value}(hok:II zs zv.cells.toList=true) (n:Nat) :
  DK g w (List.replicate n zs) (Builtin.zeroCells zv.cells n).toList∧(Builtin.zeroCells zv.cells n).toList.length=n*zs.length∧∀ u∈(Builtin.zeroCells zv.cells n).toList,u.oneCell'=true:=by
 obtain⟨hl,hg⟩:=NZ (w:=w) (g:=g) hok;have key:∀ j,j<n*zs.length→0<zs.length∧∃ u,(Builtin.zeroCells zv.cells n).toList[j]?=some u∧zv.cells.toList[j % zs.length]?=some u:=by
  intro j hj;have hp:0<zs.length:=by
   grind
  simp_all [Nat.mod_lt,Builtin.zeroCells]
 refine⟨fun j d hj=>?_,by grind [Builtin.zeroCells],fun u hu=>?_⟩
 ·obtain⟨h1,h2⟩:=Mp hj
  grind
 ·obtain⟨j,hj,rfl⟩:=List.mem_iff_getElem.1 hu;have hj':j<n*zs.length:=by grind [Builtin.zeroCells]
  obtain⟨hp,u,hu,hu2⟩:=key j hj';have hjm:j % zs.length<zs.length:=Nat.mod_lt _ hp;obtain⟨u',hu',hr⟩:=hg _ _ (List.getElem?_eq_getElem hjm)
  grind [RD.one]
theorem amh {z:List D}{x y:Rd}(s:S P g w st t O) (h:W8 z x y st=some (a,st')) (hc:aE P (.appz z x y) o.op=true) :
  cO P g w t O st' a ((execOp (ev t) o).run P w):=by
 obtain⟨dst,op,ty,pos,aft,gd⟩:=o;simp only[aE]at hc;split at hc
 ·rename_i c;simp only[Bool.and_eq_true]at hc;obtain⟨⟨⟨⟨⟨h1,h2⟩,h3⟩,h4⟩,h5⟩,h6⟩:=hc;have hats:=CI h2;obtain⟨callee,args,ats⟩:=c;have:=kI h1;obtain⟨x',y',e1,hx,hy⟩:=aeD h6;subst e1;obtain⟨va,vb,e,Oa,Ob,O',ra,rb,s',hl,hk⟩:=JE s hx hy h;split at hk
  ·rename_i n hn;split at hk
   ·rename_i r h' hap;obtain⟨rfl,rfl⟩:=hk;obtain⟨el,hu,hsz,hm,hby⟩:=dR h3;obtain⟨el',i,zv,hu',hi,hz,hok⟩:=wY h4;rw[hu]at hu';simp only[Option.some.injEq,TypeDesc.slice.injEq]at hu';subst hu';rw[DD hi]at hby;obtain⟨⟨kk,hyv⟩,hnm⟩:=xT hn rb;obtain⟨hnew,hnl,hone⟩:=UM (g:=g) (w:=w) hok n;have hzs:zv.cells.size=z.length:=by rw[(NZ (w:=w) (g:=g) hok).1];simp
    simp only[De]at h5;split at h5
    ·rename_i k hu1;generalize hT0:mE ⟨.builtin .append,#[x',y'],ats⟩=T0 at *;generalize hT1:ats.getD 1 0=T1 at *;have hsrc:Rb P w T1 (ev t y') el z.length (List.replicate n z).length (Builtin.zeroCells zv.cells n).toList:=by
      rw[List.length_replicate];exact⟨hnl,hone,.inr ⟨⟨k,hu1⟩,⟨kk,hyv⟩,i,zv,hi,hz,hzs,by simp⟩⟩
     have:=Qr (st:=⟨e,st.hs⟩) (ty:=ty) s' ra (fun b=>by have:=hl b;have:=s.le b;omega) (fun b hb=>s.hi b (by grind)) hu hi hz hzs (Gq hsz hi) hm hby hsrc hnew
      (fun e he=>by simp_all) hap
     refine this.op1 (fun b=>by grind) fun v w' hr=>?_
     simp_all [execOp,resolve,invoke,builtin]
    grind
   grind
  grind
 simp_all
end
section
variable {P:Program}{g:Gh}{w:World}{t:Array Value}{O:Nat→Nat}{st st':St}{a:AV}{o:Oper}
theorem Yt {α:Type}(xs:List α) (off:Nat):ai xs off []=xs:=by simp[ai]
theorem AY {α:Type}{xs zs:List α}{off:Nat}(h:off+zs.length≤xs.length):(ai xs off zs).length=xs.length:=by
 grind [ai]
theorem Ze {α:Type}{xs zs:List α}{off:Nat}{x:α}(h:x∈ai xs off zs):x∈xs∨x∈zs:=by
 grind [ai]
theorem Ne {xs zs:List (List D)}{m off:Nat}(hx:∀ e∈xs,e.length=m) (hz:∀ e∈zs,e.length=m) :
  (ai xs off zs).flatten=ai xs.flatten (off*m) zs.flatten:=by
 simp only[ai,List.flatten_append];rw[Cg hx,B0 hx,cY hz,Nat.add_mul]
theorem P0 {id off len m:Nat}{xs zs:List (List D)}{vals:List Value}{x0:Value}{Ov:Nat→Nat}(s:S P g w st t O) (hg:get st.hs.heap id=some (.arr m xs)) (rv:RV g w (.sl id off len) x0 Ov)
  (hin:off+len≤xs.length) (hz:zs.length≤len) (hl:∀ e∈zs,e.length=m) (hn:DK g w zs vals) (hv:vals.length=zs.length*m) (h1:∀ u∈vals,u.oneCell'=true) :
  ∃ ad cap w' O2,x0=.slice ad len cap∧(match ad with | some a=>(storeCells a vals).run P w | none=>.ok () w)=.ok () w'∧
   S P g w' ⟨st.env,⟨put st.hs.heap id (.arr m (ai xs off zs)),st.hs.next⟩⟩ t O2∧aI g w g w' (fun c=>O c≠0)∧(∀ c,O2 c≤O c)∧w'.heap.size=w.heap.size:=by
 have same:zs=[]→vals=[]∧∃ O2,S P g w ⟨st.env,⟨put st.hs.heap id (.arr m (ai xs off zs)),st.hs.next⟩⟩ t O2∧∀ c,O2 c≤O c:=by
  rintro rfl
  refine⟨List.eq_nil_of_length_eq_zero (by simp_all),?_⟩
  grind [Yt,S.upd]
 have noop:∀ ad:Option Addr,(match ad with | some a=>(storeCells a []).run P w | none=>.ok () w)=.ok () w:=by
  intro ad;cases ad<;>simp[storeCells]
 simp only[RV]at rv;rcases rv.1 with ⟨rfl,ad,rfl⟩ | ⟨b,cap,hob,rfl,hlc,hcap⟩
 ·simp_all [aI.refl]
 ·by_cases h0:zs=[]
  ·simp_all [aI.refl]
  ·have hzl:0<zs.length:=List.length_pos_iff.2 h0;obtain⟨O1,Oz,q,hsum,hst⟩:=s.store hg;rcases q with ⟨rfl,_⟩ | ⟨b',c,el,g1,g2,g3,g4,g5,g6,g7,g8,g9,g10⟩
   ·simp_all
   ·rw[hob]at g1;simp only[Option.some.injEq]at g1;subst g1;rw[g2]at hcap⊢;have e1:off*m+zs.length*m≤xs.length*m:=by rw[←Nat.add_mul];exact Nat.mul_le_mul_right _ (by omega)
    obtain⟨c',hrun,hc',hcs⟩:=l7 (P:=P) (b:=b) (el:=el) vals w c (g.base id+off*m) 0 g4 h1 (by omega);have hx:aI g w g (setBlk w b (.cells c' el (0,0))) fun x=>x=b:=aI.setBlk g4 g9
    have hOb:1≤O1 b:=by simp_all
    have hbO:O b=1:=by have:=hsum b;have:=s.le b;omega
    have hfl:=cY g7;have hcl:c.toList.length=c.size:=Array.length_toList;have hlen':(ai xs off zs).length=xs.length:=AY (by omega);refine⟨_,cap,_,_,rfl,hrun,hst (setBlk w b (.cells c' el (0,0))) b c el (.arr m (ai xs off zs)) O1 g4 hOb hx ?_ (fun y=>by have:=hsum y;have:=s.le y;omega) (fun y hy=>?_),
     hx.mono (fun y _ e=>by simp_all),hsum,by simp⟩
    ·refine .inr ⟨b,c',el,hob,g2,g3,cq (fj g4),by omega,by simp_all,fun e he=>?_,?_,g9,g10⟩
     ·grind [Ze]
     ·rw[Ne g7 hl];intro j d hj;have hzfl:=cY hl;rw[fU (by omega)]at hj;rw[dI (cq (fj g4)),←Array.getElem?_toList,hc',fU (by omega)];split at hj
      ·obtain⟨u,hu,hr⟩:=hn _ d hj
       grind [RD.ext]
      ·obtain⟨u,hu,hr⟩:=g8 j d hj
       grind [dI,RD.ext]
    grind [pW,Dz]
theorem ahe {ys:List (List D)}{m:Nat}(hl:∀ e∈ys,e.length=m) {news:List Value}(hn:DK g w ys news) (n:Nat) :
  DK g w (ys.take n) (news.take ((ys.take n).length*m)):=by
 intro j d hj;have hlt:=yc hj;rw[cY (fun e he=>hl e (List.mem_of_mem_take he))]at hlt;rw[Cg hl]at hj;have hj':ys.flatten[j]?=some d:=by
  grind
 obtain⟨u,hu,hr⟩:=hn j d hj'
 simp_all
theorem abb {h:af}{v:AV}{ys:List (List D)}{x:Value}{Ov:Nat→Nat}(he:elems h v=some ys) (rv:RV g w v x Ov):∃ a n cap,x=.slice a n cap:=by
 by_cases hn:oA v=false
 ·rcases (TE he hn rv).list with ⟨rfl,a,cap,rfl⟩ | ⟨b,off,m',cap,rfl,_⟩<;>simp_all
 ·cases v<;>simp only[oA,not_true,Bool.true_eq_false,not_false_eq_true]at hn
  grind [RV]
theorem apA {m:Nat}{x y:Rd}(s:S P g w st t O) (h:QS m x y st=some (a,st')) (hc:aE P (.cpy m x y) o.op=true) :
  cO P g w t O st' a ((execOp (ev t) o).run P w):=by
 obtain⟨dst,op,ty,pos,aft,gd⟩:=o;simp only[aE]at hc;split at hc
 ·rename_i c;simp only[Bool.and_eq_true]at hc;obtain⟨⟨⟨⟨h1,h2⟩,h3⟩,h5⟩,h6⟩:=hc;have hats:=CI h2;obtain⟨callee,args,ats⟩:=c;have:=kI h1;subst this;obtain⟨x',y',e1,hx,hy⟩:=aeD h6;simp only at e1 hats;subst e1;obtain⟨va,vb,e,Oa,Ob,O',ra,rb,s',hl,hk⟩:=JE s hx hy h;obtain⟨el,hu,hsz,hm,hby⟩:=dR h3;split at hk
  ·rename_i ys hys;split at h5
   ·rename_i e' hu1;generalize hT0:mE ⟨.builtin .copy,#[x',y'],ats⟩=T0 at *;generalize hT1:ats.getD 1 0=T1 at *;subst hats;split at hk
    ·rename_i id off len;split at hk
     ·rename_i k xs hg;split at hk
      ·rename_i hb;simp only[Bool.and_eq_true,Nat.beq_eq,Nat.ble_eq]at hb;obtain⟨⟨hok,rfl⟩,hin⟩:=hb;obtain⟨rfl,rfl⟩:=hk;have hlen:=DL hok;obtain⟨ad,cap,news,hxv,hels⟩:=t9 (st:=⟨e,st.hs⟩) s' hys hlen rb;obtain⟨adx,capx,w',O2,q1,q2,q3,q4,q5,q6⟩:=P0 (st:=⟨e,st.hs⟩) (zs:=ys.take len) s' hg ra hin (by grind) (fun e he=>hlen e (List.mem_of_mem_take he))
        (ahe hlen hels.rd len) (by grind [uI.len,Nat.mul_le_mul_right]) (fun u hu=>hels.one u (List.mem_of_mem_take hu))
       refine⟨.int .i64 (.ofNat (min len ys.length)),w',g,zero,O2,.inl ?_,n9 _ _,q3,q4.mono (fun b _ h=>by grind),fun b=>by have:=s.le b;grind,
        fun b _=>by grind,fun b hb=>by simp at hb⟩
       have hf:=hels.first (P:=P) (len:=ys.length) (cap:=cap) (n:=(ys.take len).length) (by grind) (rfl:w.heap=w.heap)
       rw[List.length_take,←hxv]at hf;rw[List.length_take]at q2;have hmin:Nat.min ys.length len=min len ys.length:=Nat.min_comm _ _;have hlo:(Builtin.lenOf (ev t y')).run P w=.ok ys.length w:=by simp_all [Builtin.lenOf]
       cases adx with
       | none =>
        simp only[Result.ok.injEq,true_and]at q2;subst q2;simp[execOp,resolve,invoke,builtin,Builtin.copy_,ar hu,hlo,cm hsz,hf,goInt,q1,hmin]
       | some adx =>
        simp[execOp,resolve,invoke,builtin,Builtin.copy_,ar hu,hlo,cm hsz,hf,goInt,q1,q2,hmin]
      simp_all
     simp_all
    ·split at hk
     ·rename_i hl0;obtain⟨rfl,rfl⟩:=hk;obtain⟨ada,capa,hxa⟩:=IP hl0 ra;obtain⟨ady,ny,capy,hxy⟩:=abb hys rb;refine .flat s (x:=.int .i64 0) ?_ (n9 _ _) s' fun b=>by grind
      have hf:=oD (P:=P) m ady ny capy w;rw[←hxy]at hf;have hlo:(Builtin.lenOf (ev t y')).run P w=.ok ny w:=by simp_all [Builtin.lenOf]
      cases ada<;>simp[execOp,resolve,invoke,builtin,Builtin.copy_,ar hu,hlo,cm hsz,hf,goInt,hxa,storeCells]
     simp_all
   grind
  grind
 simp_all
theorem aqI {z:List D}{x:Rd}(s:S P g w st t O) (h:Kn z x st=some (a,st')) (hc:aE P (.clr z x) o.op=true) :
  cO P g w t O st' a ((execOp (ev t) o).run P w):=by
 obtain⟨dst,op,ty,pos,aft,gd⟩:=o;simp only[aE]at hc;split at hc
 ·rename_i c;simp only[Bool.and_eq_true]at hc;obtain⟨⟨⟨⟨h1,h3⟩,h4⟩,h2⟩,h6⟩:=hc;obtain⟨callee,args,ats⟩:=c;have:=kI h1;subst this;obtain⟨x',e1,hx⟩:=adA h6;simp only at e1;subst e1;have hty:=Uf h2;obtain⟨el',i,zv,hu',hi,hz,hok⟩:=wY h4;unfold Kn at h;split at h
  ·rename_i id off len e hr;obtain⟨Oa,O',ra,s',hl⟩:=s.rd hx hr;split at h
   ·rename_i k xs hg;split at h
    ·rename_i hb;simp only[Bool.and_eq_true,Nat.beq_eq,Nat.ble_eq]at hb;obtain⟨rfl,hin⟩:=hb;obtain⟨rfl,rfl⟩:=h;obtain⟨hnew,hnl,hone⟩:=UM (g:=g) (w:=w) hok len;obtain⟨adx,capx,w',O2,q1,q2,q3,q4,q5,q6⟩:=P0 (st:=⟨e,st.hs⟩) (zs:=List.replicate len z) s' hg ra hin (by simp) (fun e he=>by simp_all)
      hnew (by simp_all) hone
     refine⟨.tuple #[],w',g,zero,O2,.inl ?_,by simp[RV,RVs],q3,q4.mono (fun b _ h=>by grind),fun b=>by have:=s.le b;grind,
      fun b _=>by grind,fun b hb=>by simp at hb⟩
     have hzv:=nV (P:=P) (w:=w) hi hz
     cases adx with
     | none =>
      simp_all [execOp,resolve,invoke,builtin,Builtin.clear_,ar]
     | some adx =>
      cases len with
      | zero =>
       simp_all [storeCells,execOp,resolve,invoke,builtin,Builtin.clear_,ar]
      | succ len =>
       simp_all [execOp,resolve,invoke,builtin,Builtin.clear_,ar]
    simp_all
   simp_all
  simp_all
 simp_all
end
section
variable {P:Program}{g:Gh}{w:World}{t:Array Value}{O:Nat→Nat}{st st':St}{a:AV}{o:Oper}
theorem akQ (vals:List Value):∀ (cs:Array Value) (off k:Nat),off+k+vals.length≤cs.size→
  ((vals.zipIdx k).foldl (fun(cs:Array Value) (p:Value×Nat)=>cs.setIfInBounds (off+p.2) p.1) cs).toList=ai cs.toList (off+k) vals:=by
 induction vals with
 | nil=>simp_all [ai]
 | cons v vs ih =>
  intro cs off k h;rw[List.zipIdx_cons,List.foldl_cons,ih _ off (k+1) (by grind),Array.toList_setIfInBounds,←Nat.add_assoc,HE (by omega)]
theorem IQ {place:Nat→Option (Nat×Nat)}{xs:Array Value}{i off n:Nat}{v:Value}{rest:List (Nat×Value)}(hp:place i=some (off,n)) (hs:v.cells.size=n) (hb:off+n≤xs.size) :
  ∃ xs',Instr.fill place xs ((i,v)::rest)=Instr.fill place xs' rest∧xs'.toList=ai xs.toList off v.cells.toList:=by
 refine⟨v.cells.zipIdx.foldl (fun cs (c,j)=>cs.setIfInBounds (off+j) c) xs,?_,?_⟩
 ·grind [Instr.fill]
 ·rw[←Array.foldl_toList,Array.toList_zipIdx]
  simp_all [akQ]
theorem Rx {v:AV}{x:Value}{Ov:Nat→Nat}(h:vR v=true) (r:RV g w v x Ov):RVs g w v.cells x.cells.toList Ov:=by
 cases v with
 | agg cs =>
  obtain⟨xs,rfl,r⟩:=r;exact r
 | _=>grind [RV.cells,AV.cells,vR]
theorem RVs.splice {cs vs:List AV}{xs ys:List Value}{O1 O2:Nat→Nat}(r1:RVs g w cs xs O1) (r2:RVs g w vs ys O2) {off:Nat}(h:off+vs.length≤cs.length) :
  ∃ O3,RVs g w (ai cs off vs) (ai xs off ys) O3∧∀ b,O3 b≤O1 b+O2 b:=by
 have hl2:=r2.length;rw[ZS (off:=off) (n:=vs.length) h]at r1;obtain⟨B1,B2,rb1,rb2,hb12⟩:=r1.split;obtain⟨B3,B4,rb3,rb4,hb34⟩:=rb2.split;have hsl:(Vm.sub cs off vs.length).length=vs.length:=fN h;have hjoin:=rb1.join (r2.join rb4)
 grind [yQ,List.drop_drop]
theorem JU {place:Nat→Option (Nat×Nat)}:∀ {ps:List (Nat×Nat×Rd)}{parts:List (Nat×Operand)},iU place ps parts=true→b6 (mw ps) (parts.map (·.2))=true
 | [],[],_=>rfl
 | (off,n,r)::ps,(i,x)::parts,h=>by
  simp only[iU,Bool.and_eq_true]at h;simp only[mw,List.map_cons,b6,Bool.and_eq_true];exact⟨h.1.2,JU h.2⟩
 | [],_::_,h=>by grind [iU]
 | (_,_,_)::_,[],h=>by grind [iU]
theorem Yz {place:Nat→Option (Nat×Nat)}:∀ {ps:List (Nat×Nat×Rd)}{parts:List (Nat×Operand)},iU place ps parts=true→
  ∀ {cs cs' vs:List AV}{xs:Array Value}{O1 O2:Nat→Nat},RVs g w cs xs.toList O1→RVs g w vs (parts.map fun p=>ev t p.2) O2→bW cs (nc ps vs)=some cs'→
  ∃ xs' O3,Instr.fill place xs (parts.map fun p=>(p.1,ev t p.2))=some xs'∧RVs g w cs' xs'.toList O3∧∀ b,O3 b≤O1 b+O2 b
 | [],[],_,cs,cs',vs,xs,O1,O2,r1,r2,h=>by
  grind [nc,bW,Instr.fill]
 | (off,n,r)::ps,(i,x)::parts,hc,cs,cs',vs,xs,O1,O2,r1,r2,h=>by
  simp only[iU,Bool.and_eq_true]at hc;obtain⟨⟨h1,h2⟩,h3⟩:=hc
  cases vs with
  | nil=>grind [RVs]
  | cons v vs =>
   obtain⟨y,ys,P1,P2,e,rv,rvs,hs⟩:=r2;obtain⟨rfl,rfl⟩:=e;simp only[nc,bW]at h;split at h
   ·rename_i hb;simp only[Bool.and_eq_true,Nat.beq_eq,Nat.ble_eq]at hb;obtain⟨⟨hb1,hb2⟩,hb3⟩:=hb;split at h1
    ·rename_i a b hp;simp only[Bool.and_eq_true,Nat.beq_eq]at h1;obtain⟨rfl,rfl⟩:=h1;have rc:=Rx hb2 rv;have hlx:=r1.length;have hlc:=rc.length;simp only[Array.length_toList]at hlx hlc;obtain⟨xs',e1,e2⟩:=IQ (rest:=parts.map fun p=>(p.1,ev t p.2)) hp (v:=ev t x) (by omega) (xs:=xs) (by omega);obtain⟨O3,r3,l3⟩:=r1.splice rc (off:=a) (by omega);rw[←e2]at r3;obtain⟨xs'',O4,q1,q2,q3⟩:=Yz h3 r3 rvs h
     grind
    simp_all
   simp_all
 | [],_::_,hc,_,_,_,_,_,_,_,_,_=>by grind [iU]
 | (_,_,_)::_,[],hc,_,_,_,_,_,_,_,_,_=>by grind [iU]
theorem agv {fs:List Field}(h:Tn P fs=true):∃ places:List (Nat×Nat),fs.mapM (fun f=>(P.info? f.type).map fun i=>(f.offset,i.size))=some places∧
  ∀ i:Nat,places[i]?=(fs[i]?).bind fun f:Field=>(P.info? f.type).map fun i=>(f.offset,i.size):=by
 induction fs with
 | nil=>simp_all
 | cons f fs ih =>
  simp only[Tn,List.all_cons,Bool.and_eq_true]at h;obtain⟨places,h1,h2⟩:=ih h.2;obtain⟨i,hi⟩:=Option.isSome_iff_exists.1 h.1;refine⟨(f.offset,i.size)::places,by simp_all,fun j=>?_⟩
  grind
theorem ak4 {zs:List AV}{ps:List (Nat×Nat×Rd)}(s:S P g w st t O) (h:wy zs ps st=some (a,st')) (hc:aE P (.build zs ps) o.op=true) :
  cO P g w t O st' a ((execOp (ev t) o).run P w):=by
 obtain⟨dst,op,ty,pos,aft,gd⟩:=o;simp only[aE]at hc;split at hc
 ·rename_i T parts;simp only[XU,Bool.and_eq_true]at hc;obtain⟨h1,h2⟩:=hc;split at h1
  ·split at h1
   ·rename_i z hz;have rz:RVs g w zs z.cells.toList zero:=RVs.consts h1;unfold wy at h;split at h
    ·rename_i vs e hr;split at h
     ·rename_i cs hf;have fin:∀ place,iU place ps parts.toList=true→(∀ xs',Instr.fill place z.cells (parts.map fun p=>(p.1,ev t p.2)).toList=some xs'→P.built T (parts.map fun p=>(p.1,ev t p.2)).toList=some xs')→
        cO P g w t O ⟨e,st.hs⟩ (.agg cs) ((execOp (ev t) ⟨dst,.build T parts,ty,pos,aft,gd⟩).run P w):=by
       intro place hp hbuilt;obtain⟨Ov,O',rvs,s',l⟩:=s.rdAll (JU hp) hr;rw[List.map_map]at rvs;obtain⟨xs',O3,q1,q2,q3⟩:=Yz (t:=t) hp rz rvs hf;have hb:=hbuilt xs' (by simp_all);refine .pure s (x:=.agg xs') ?_ (by exact⟨xs',rfl,q2⟩) s' (fun b=>by grind)
       grind [execOp,Sem.run_bind,Result.andThen_ok,Sem.run_pure,run_build]
      split at h2
      ·rename_i fs hu;simp only[Bool.and_eq_true]at h2;obtain⟨places,p1,p2⟩:=agv h2.1;have hpl:(fun i=>Bw P fs i)=fun i=>places.toArray[i]?:=by
        grind [Bw]
       grind [Program.built]
      all_goals grind [Program.built]
     simp_all
    simp_all
   simp_all
  simp_all
 simp_all
end
section
variable {P:Program}{g:Gh}{w:World}{t:Array Value}{O:Nat→Nat}{st st':St}{a:AV}{o:Oper}
theorem wl:∀ {ps:List Rd}{parts:List (Nat×Operand)}{k:Nat},c8 k ps parts=true→b6 ps (parts.map (·.2))=true∧parts.length=ps.length
 | [],[],_,_=>⟨rfl,rfl⟩
 | r::ps,(i,x)::parts,k,h=>by
  simp only[c8,Bool.and_eq_true]at h;obtain⟨h1,h2⟩:=wl h.2
  grind [b6]
 | [],_::_,_,h=>by grind [c8]
 | _::_,[],_,h=>by grind [c8]
theorem Wc {v:AV}{e:List D}{x:Value}{Ov:Nat→Nat}(h:iy v.cells=some e) (r:RV g w v x Ov):RVs g w v.cells x.cells.toList Ov:=by
 apply Rx _ r
 cases v with
 | agg cs=>rfl
 | _ =>
  have:=EJ h
  grind [AV.cells,vR]
theorem MA {m:Nat}:∀ {vs:List AV}{xs:List (List D)},fw m vs=some xs→xs.length=vs.length∧∀ e∈xs,e.length=m
 | [],xs,h=>by grind [fw]
 | v::vs,xs,h=>by
  simp only[fw]at h;split at h
  ·rename_i hb;rw[Nat.beq_eq]at hb;split at h
   ·split at h
    ·rename_i es hes;obtain⟨h1,h2⟩:=MA hes
     grind [L7]
    simp_all
   simp_all
  simp_all
theorem Q6 {m:Nat}:∀ {ps:List Rd}{parts:List (Nat×Operand)}{k:Nat},c8 k ps parts=true→∀ {vs:List AV}{xs:List (List D)}{cs:Array Value}{O2:Nat→Nat},
  RVs g w vs (parts.map fun p=>ev t p.2) O2→fw m vs=some xs→(k+ps.length)*m≤cs.size→
  ∃ xs':Array Value,Instr.fill (fun i=>some (i*m,m)) cs (parts.map fun p=>(p.1,ev t p.2))=some xs'∧xs'.size=cs.size∧(∀ j,j<k*m→xs'.toList[j]?=cs.toList[j]?)∧
   ∀ (j:Nat) (d:D),xs.flatten[j]?=some d→∃ u,xs'.toList[k*m+j]?=some u∧RD w g.pm d u
 | [],[],k,_,vs,xs,cs,O2,r,h,hb=>by
  cases vs<;>grind [fw,Instr.fill,RVs]
 | r::ps,(i,x)::parts,k,hc,vs,xs,cs,O2,rr,h,hb=>by
  simp only[c8,Bool.and_eq_true,Nat.beq_eq]at hc;obtain⟨⟨rfl,h2⟩,h3⟩:=hc
  cases vs with
  | nil=>grind [RVs]
  | cons v vs =>
   obtain⟨y,ys,P1,P2,e,rv,rvs,hs⟩:=rr;obtain⟨rfl,rfl⟩:=e;simp only[fw]at h;split at h
   ·rename_i hbl;rw[Nat.beq_eq]at hbl;split at h
    ·rename_i e he;split at h
     ·rename_i es hes;have rc:=Wc he rv;have hlc:=rc.length;simp only[Array.length_toList]at hlc;simp only[List.length_cons]at hb;have hmul:(i+(ps.length+1))*m=i*m+m+ps.length*m:=by grind
      obtain⟨xs1,e1,e2⟩:=IQ (place:=fun i=>some (i*m,m)) (rest:=parts.map fun p=>(p.1,ev t p.2)) (i:=i) rfl (v:=ev t x) (by omega) (xs:=cs) (by omega);have hcl:cs.toList.length=cs.size:=Array.length_toList;have hxl:(ev t x).cells.toList.length=m:=by simp_all
      have hsz1:xs1.size=cs.size:=by
       grind [AY]
      obtain⟨xs',q1,q2,q3,q4⟩:=Q6 h3 rvs hes (cs:=xs1) (by grind)
      grind [GZ,fU]
     simp_all
    simp_all
   simp_all
 | [],_::_,_,hc,_,_,_,_,_,_,_=>by grind [c8]
 | _::_,[],_,hc,_,_,_,_,_,_,_=>by grind [c8]
theorem aqq {m:Nat}{ps:List Rd}(s:S P g w st t O) (h:Gd m ps st=some (a,st')) (hc:aE P (.mks m ps) o.op=true) :
  cO P g w t O st' a ((execOp (ev t) o).run P w):=by
 obtain⟨dst,op,ty,pos,aft,gd⟩:=o;simp only[aE]at hc;split at hc
 ·simp only[Bool.and_eq_true,Nat.beq_eq,Nat.ble_eq]at hc;obtain⟨⟨⟨⟨h1,h2⟩,h3⟩,h4⟩,h5⟩:=hc;subst h3;obtain⟨el,hu,hsz,hm,hby⟩:=dR h1;obtain⟨el',i,zv,hu',hi,hz,hzs⟩:=lG h2;obtain⟨hrds,hpl⟩:=wl h5;unfold Gd at h;split at h
  ·rename_i vs e hr;split at h
   ·rename_i xs hx;obtain⟨rfl,rfl⟩:=h;obtain⟨Ov,O',rvs,s',l⟩:=s.rdAll hrds hr;rw[List.map_map]at rvs;have hvl:=rvs.length;simp only[List.length_map]at hvl;obtain⟨hxl,hxm⟩:=MA hx;generalize hcs:(Array.range (ps.length*m)).map (fun j=>(if ps.length*m=0 then (#[]:Array Value) else zv.cells)[j % (if ps.length*m=0 then (#[]:Array Value) else zv.cells).size]!)=cs;have hcsz:cs.size=ps.length*m:=by grind
    obtain⟨xs',q1,q2,q3,q4⟩:=Q6 (t:=t) (k:=0) h5 (cs:=cs) rvs hx (by simp_all);have hxp:xs.length=ps.length:=by omega
    refine cO.list (cap:=ps.length) (c:=xs') (el:=el) (w1:=w) s s' (fun b=>by grind) (aI.refl _ _ _) rfl ?_ hm hxm (by omega) (by omega) (fun j d hj=>?_)
    ·rw[hxp];have hbig:¬ (ps.length*m > 2 ^ 24):=by omega
     have hzv:=nV (P:=P) (w:=w) hi hz;by_cases h0:ps.length*m=0
     ·simp only[h0,if_true]at hcs;simp only[execOp,Instr.buildSlice,Sem.run_bind,ar hu,Result.andThen_ok,cm hsz,h0,if_true,Sem.run_pure,Sem.run_ite];rw[hcs];simp[q1,newRow]
     ·simp only[execOp,Instr.buildSlice,Sem.run_bind,ar hu,Result.andThen_ok,cm hsz,h0,if_false,Sem.run_pure,Sem.run_ite,hbig,hzv]
      simp_all [newRow]
    simp_all
   simp_all
  simp_all
 simp_all
end
section
variable {P:Program}{g:Gh}{w:World}{t:Array Value}{O:Nat→Nat}{st st':St}{a:AV}{o:Oper}
theorem BH:∀ {xs:List (List D)}{s:List UInt8},ov xs=some s→∃ ns:List Nat,xs=ns.map (fun(n:Nat)=>[D.int .u8 (Int.ofNat n)])∧s=ns.map Nat.toUInt8
 | [],s,h=>by simp_all [ov]
 | x::xs,s,h=>by
  unfold ov at h;split at h
  ·simp at *
  ·rename_i n r e;obtain⟨rfl,rfl⟩:=e;split at h
   ·rename_i s' hs;simp only[Option.some.injEq]at h;subst h;obtain⟨ns,rfl,rfl⟩:=BH hs;exact⟨n::ns,rfl,rfl⟩
   simp_all
  simp_all
theorem Ut:∀ (ns:List Nat) (A:Array UInt8),(ns.map fun(n:Nat)=>(n:Int)).foldl (fun(r:ByteArray) (n:Int)=>r.push (UInt8.ofNat n.toNat)) ⟨A⟩=⟨A++(ns.map Nat.toUInt8).toArray⟩
 | [],A=>by simp
 | n::ns,A=>by
  simp only[List.map_cons,List.foldl_cons];have:(ByteArray.mk A).push (UInt8.ofNat ((n:Int).toNat))=⟨A.push (Nat.toUInt8 n)⟩:=by simp[ByteArray.push,Nat.toUInt8]
  rw[this,Ut ns]
  simp_all
theorem RT (ns:List Nat):(ns.map (fun(n:Nat)=>[D.int .u8 (Int.ofNat n)])).flatten=ns.map fun(n:Nat)=>D.int .u8 (Int.ofNat n):=by
 induction ns<;>simp_all
theorem ai7 {x:Rd}(s:S P g w st t O) (h:Ee x st=some (a,st')) (hc:aE P (.toStr x) o.op=true) :
  cO P g w t O st' a ((execOp (ev t) o).run P w):=by
 simp only[aE]at hc;split at hc
 ·simp only[Bool.and_eq_true]at hc;obtain⟨⟨h1,h2⟩,h3⟩:=hc;obtain⟨v,e,hr,hk⟩:=JO h;obtain⟨Ov,O',rv,s',l⟩:=s.rd h3 hr;split at hk
  ·rename_i xs hxs;split at hk
   ·rename_i b hb;obtain⟨rfl,rfl⟩:=hk;obtain⟨ns,rfl,rfl⟩:=BH hb;have hl1:∀ e∈ns.map (fun(n:Nat)=>[D.int .u8 (Int.ofNat n)]),e.length=1:=by
     simp_all
    have hfl:(ns.map (fun(n:Nat)=>[D.int .u8 (Int.ofNat n)])).flatten=ns.map fun(n:Nat)=>D.int .u8 (Int.ofNat n):=by
     exact RT ns
    obtain⟨ad,cap,news,hxv,hels⟩:=t9 (st:=⟨e,st.hs⟩) s' hxs hl1 rv;have hnews:news=ns.map fun(n:Nat)=>Value.int .u8 (n:Int):=by
     apply List.ext_getElem?;intro j;rcases Nat.lt_or_ge j ns.length with hj | hj
     ·have hd:(ns.map (fun(n:Nat)=>[D.int .u8 (Int.ofNat n)])).flatten[j]?=some (D.int .u8 (Int.ofNat ns[j])):=by simp_all
      obtain⟨u,hu,hr⟩:=hels.rd j _ hd
      cases hr
      simp_all
     grind [uI.len]
    simp only[Hc]at h1;simp only[acY]at h2;split at h1
    ·split at h2
     ·split at h2
      ·refine .flat s (x:=.string ⟨(ns.map Nat.toUInt8).toArray⟩) ?_ (by simp only[RV];exact⟨.str _,fun _=>trivial⟩) s' (S.le_left l);have hrun:(Conv.bytesToString (.slice ad (ns.map (fun(n:Nat)=>[D.int .u8 (Int.ofNat n)])).length cap)).run P w=.ok (.string ⟨(ns.map Nat.toUInt8).toArray⟩) w:=by
        cases ad with
        | none =>
         have h0:=hels.nn rfl;have:ns=[]:=List.eq_nil_of_length_eq_zero (by simp_all);subst this;rfl
        | some ad =>
         have hcell:=run_loadCells_list (P:=P) w ad news (hels.cell ad rfl);have hlen:news.length=(ns.map (fun(n:Nat)=>[D.int .u8 (Int.ofNat n)])).length:=by simp_all
         rw[hlen]at hcell;have hm:news=(ns.map fun(n:Nat)=>(n:Int)).map (Value.int .u8):=by simp_all
         rw[hm]at hcell;rw[run_bytesToString w ad _ cap (ns.map fun(n:Nat)=>(n:Int)) hcell];have:=Ut ns #[];simp only[Array.empty_append]at this;exact congrArg (fun z=>Result.ok (Value.string z) w) this
       grind [execOp,Sem.run_bind,Result.andThen_ok,Sem.run_pure,run_convert_bytes_string]
      simp_all
     simp_all
    simp_all
   simp_all
  simp_all
 simp_all
theorem vF {ty:TypeId}(h:CQ P ty=true) {cs:Array Value}{off:Nat}{x:Value}(hx:cs.toList[off]?=some x):(part ty cs off).run P w=.ok x w:=by
 simp_all [part,uE]
theorem QM {ty:TypeId}{k:Bool}(hk:(match k with | true=>De P ty | false=>ER P ty)=true) {u v:AV}{x y:Value}{Ou Ov:Nat→Nat}(ru:RV g w u x Ou) (rv:RV g w v y Ov)
  {r s:List AV}{ks:List Bool}{tt:Bool}(h:aB (k::ks) (u::r) (v::s)=some tt) (d:Nat) :
  ∃ b,(Op.equalIn (d+1) ty x y).run P w=.ok b w∧((b=true∧aB ks r s=some tt)∨(b=false∧tt=false)):=by
 cases k with
 | true =>
  cases u<;>try (simp[aB]at h;done)
  rename_i du
  cases du<;>try (simp[aB]at h;done)
  rename_i k a
  cases v<;>try (simp[aB]at h;done)
  rename_i dv
  cases dv<;>try (simp[aB]at h;done)
  rename_i j b;simp only[aB]at h;split at h
  ·rename_i hkj;have:=yF hkj;subst this;have hx:=r5 ru rfl;have hy:=r5 rv rfl;subst hx hy;simp only[De]at hk;split at hk
   ·rename_i kk hu;refine⟨a == b,?_,?_⟩
    ·unfold Op.equalIn;rw[Sem.run_bind,ar hu];simp
    grind
   simp_all
  simp_all
 | false =>
  cases u<;>try (simp[aB]at h;done)
  rename_i du
  cases du<;>try (simp[aB]at h;done)
  rename_i a
  cases v<;>try (simp[aB]at h;done)
  rename_i dv
  cases dv<;>try (simp[aB]at h;done)
  rename_i b;simp only[aB]at h;have hx:=tG ru rfl;have hy:=tG rv rfl;subst hx hy;simp only[ER]at hk;split at hk
  ·rename_i hu;refine⟨a == b,BE hu d a b,?_⟩
   grind
  simp_all
theorem PZ {xs ys:Array Value}{d:Nat}:∀ {fs:List Field}{ks:List Bool}{n:Nat}{r s:List AV}{tt:Bool}{O1 O2:Nat→Nat},AS P ks fs n=true→
  RVs g w r (xs.toList.drop n) O1→RVs g w s (ys.toList.drop n) O2→aB ks r s=some tt→∀ {f:Field→Option Bool×Unit→Sem (ForInStep (Option Bool×Unit))},
  (∀ (fd:Field) (q:Option Bool×Unit),(fd.name != "_")=true→∀ x y b,(part fd.type xs fd.offset).run P w=.ok x w→(part fd.type ys fd.offset).run P w=.ok y w→
   (Op.equalIn (d+1) fd.type x y).run P w=.ok b w→(f fd q).run P w=.ok (if b=true then .yield (none,()) else .done (some false,())) w)→
  (forIn fs ((none,()):Option Bool×Unit) f).run P w=.ok (if tt=true then (none,()) else (some false,())) w
 | [],[],n,r,s,tt,O1,O2,_,r1,r2,h,f,_=>by
  cases r with
  | nil=>cases s<;>simp_all [aB]
  | cons=>grind [aB]
 | fd::fs,k::ks,n,r,s,tt,O1,O2,hf,r1,r2,h,f,hstep=>by
  simp only[AS,Bool.and_eq_true,Nat.beq_eq]at hf;obtain⟨⟨⟨⟨h1,h2⟩,h3⟩,h4⟩,h5⟩:=hf
  cases r with
  | nil=>grind [aB]
  | cons u r =>
   cases s with
   | nil=>grind [aB]
   | cons v s =>
    obtain⟨x,xs',P1,P2,e1,ru,rr,_⟩:=r1;obtain⟨y,ys',Q1,Q2,e2,rv,rs,_⟩:=r2;obtain⟨b,hb,hcase⟩:=QM h3 ru rv h d;have hx:xs.toList[n]?=some x:=by have:=congrArg (fun l=>l[0]?) e1;grind
    have hy:ys.toList[n]?=some y:=by have:=congrArg (fun l=>l[0]?) e2;grind
    have ex:xs.toList.drop (n+1)=xs':=by have:=congrArg (fun l=>l.drop 1) e1;grind [List.drop_drop]
    have ey:ys.toList.drop (n+1)=ys':=by have:=congrArg (fun l=>l.drop 1) e2;grind [List.drop_drop]
    have hs:=hstep fd (none,()) h2 x y b (vF h4 (by simp_all)) (vF h4 (by simp_all)) hb;rw[List.forIn_cons,Sem.run_bind,hs];rcases hcase with ⟨rfl,hc⟩ | ⟨rfl,rfl⟩
    ·exact PZ h5 (by rw[ex];exact rr) (by rw[ey];exact rs) hc hstep
    ·simp
 | [],_::_,_,_,_,_,_,_,hf,_,_,_,_,_=>by simp[AS]at hf
 | _::_,[],_,_,_,_,_,_,hf,_,_,_,_,_=>by simp[AS]at hf
theorem T6 {k:Bool}{ks:List Bool}{r s:List AV}{tt:Bool}(h:aB (k::ks) r s=some tt):∃ u r' v s',r=u::r'∧s=v::s'∧
  (((∀ ks' r'' s'',aB (k::ks') (u::r'') (v::s'')=aB ks' r'' s'')∧aB ks r' s'=some tt)∨((∀ ks' r'' s'',aB (k::ks') (u::r'') (v::s'')=some false)∧tt=false)):=by
 cases r with
 | nil=>grind [aB]
 | cons u r =>
  cases s with
  | nil=>grind [aB]
  | cons v s =>
   refine⟨u,r,v,s,rfl,rfl,?_⟩
   cases k with
   | true =>
    cases u<;>try (simp[aB]at h;done)
    rename_i du
    cases du<;>try (simp[aB]at h;done)
    cases v<;>try (simp[aB]at h;done)
    rename_i dv
    cases dv<;>try (simp[aB]at h;done)
    grind [aB]
   | false =>
    cases u<;>try (simp[aB]at h;done)
    rename_i du
    cases du<;>try (simp[aB]at h;done)
    cases v<;>try (simp[aB]at h;done)
    rename_i dv
    cases dv<;>try (simp[aB]at h;done)
    grind [aB]
theorem CL:∀ (k1:List Bool) {k2:List Bool}{r s:List AV}{tt:Bool},aB (k1++k2) r s=some tt→
  ∃ b,aB k1 (r.take k1.length) (s.take k1.length)=some b∧((b=true∧aB k2 (r.drop k1.length) (s.drop k1.length)=some tt)∨(b=false∧tt=false))
 | [],_,_,_,_,h=>⟨true,by simp[aB],.inl ⟨rfl,by simp_all⟩⟩
 | k::k1,k2,r,s,tt,h=>by
  obtain⟨u,r',v,s',rfl,rfl,hc⟩:=T6 h;rcases hc with ⟨h1,h2⟩ | ⟨h1,h2⟩
  ·obtain⟨b,hb,hc⟩:=CL k1 h2
   simp_all
  simp_all
theorem Tj {ty:TypeId}{ks:List Bool}{fs:Array Field}(hu:P.underlying ty=some (.struct fs)) (h1:AS P ks fs.toList 0=true) (h2:P.stoodInHeld ty=false) {cs ds:List AV}{xs ys:Array Value}{O1 O2:Nat→Nat}(r1:RVs g w cs xs.toList O1) (r2:RVs g w ds ys.toList O2)
  {tt:Bool}(h:aB ks cs ds=some tt) (d:Nat):(Op.equalIn (d+1+1) ty (.agg xs) (.agg ys)).run P w=.ok tt w:=by
 rw[Op.equalIn,Sem.run_bind,ar hu];simp only[Result.andThen_ok,Sem.run_bind,run_program,h2,Bool.false_eq_true,if_false,←Array.forIn_toList];rw[PZ (f:=_) (d:=d) h1 (by simpa using r1) (by simpa using r2) h (fun fd q hn x y b hx hy hb=>by
  have hn':¬ fd.name = "_" := by simp_all
  simp only[ne_eq,hn',not_false_eq_true,if_true,Sem.run_bind,hx,hy,Result.andThen_ok,hb]
  cases b<;>simp)]
 cases tt<;>simp
theorem Jl {ty:TypeId}{fs:Array Field}{n:Nat}(hu:P.underlying ty=some (.struct fs)) (hs:pX P ty n=true) {xs:Array Value}{off:Nat}:(part ty xs off).run P w=.ok (.agg (xs.extract off (off+n))) w:=by
 have:u5 P ty=true:=by simp[u5,hu]
 simp[part,qn this,cm hs]
theorem M8 {xs ys:Array Value}{d:Nat}:∀ {fs:List Field}{ks:List Bool}{n:Nat}{r s:List AV}{tt:Bool}{O1 O2:Nat→Nat},EA P ks fs n=true→
  RVs g w r (xs.toList.drop n) O1→RVs g w s (ys.toList.drop n) O2→aB ks r s=some tt→∀ {f:Field→Option Bool×Unit→Sem (ForInStep (Option Bool×Unit))},
  (∀ (fd:Field) (q:Option Bool×Unit),(fd.name != "_")=true→∀ x y b,(part fd.type xs fd.offset).run P w=.ok x w→(part fd.type ys fd.offset).run P w=.ok y w→
   (Op.equalIn (d+1+1) fd.type x y).run P w=.ok b w→(f fd q).run P w=.ok (if b=true then .yield (none,()) else .done (some false,())) w)→
  (forIn fs ((none,()):Option Bool×Unit) f).run P w=.ok (if tt=true then (none,()) else (some false,())) w
 | [],[],n,r,s,tt,O1,O2,_,r1,r2,h,f,_=>by
  cases r with
  | nil=>cases s<;>simp_all [aB]
  | cons=>grind [aB]
 | [],_::_,_,_,_,_,_,_,hf,_,_,_,_,_=>by simp[EA]at hf
 | fd::fs,ks,n,r,s,tt,O1,O2,hf,r1,r2,h,f,hstep=>by
  unfold EA at hf;simp only[Bool.and_eq_true,Nat.beq_eq]at hf;obtain⟨⟨h1,h2⟩,hf⟩:=hf;split at hf
  ·rename_i f2 hu;simp only[Bool.and_eq_true,Nat.ble_eq,Bool.not_eq_true']at hf;obtain⟨⟨⟨⟨h3,h4⟩,h5⟩,h6⟩,h7⟩:=hf;have hlen:(ks.take f2.size).length=f2.size:=by simp_all
   rw[←List.take_append_drop f2.size ks]at h;obtain⟨b,hb,hcase⟩:=CL _ h;rw[hlen]at hb hcase;obtain⟨P1,ru,_⟩:=r1.sub 0 f2.size;obtain⟨P2,rr,_⟩:=r1.sub f2.size r.length;obtain⟨Q1,rv,_⟩:=r2.sub 0 f2.size;obtain⟨Q2,rs,_⟩:=r2.sub f2.size s.length;have ea:∀ zs:Array Value,(zs.extract n (n+f2.size)).toList=((zs.toList.drop n).drop 0).take f2.size:=fun zs=>by simp_all
   have hs:=hstep fd (none,()) h2 _ _ b (Jl hu h6) (Jl hu h6) (by
    grind [Tj,sub])
   rw[List.forIn_cons,Sem.run_bind,hs];rcases hcase with ⟨rfl,hc⟩ | ⟨rfl,rfl⟩
   ·simp only[if_true,Result.andThen_ok];have l1:r.length=(xs.toList.drop n).length:=r1.length.symm;have l2:s.length=(ys.toList.drop n).length:=r2.length.symm;have er:Vm.sub r f2.size r.length=r.drop f2.size:=by simp_all [sub,List.take_of_length_le]
    have es:Vm.sub s f2.size s.length=s.drop f2.size:=by simp_all [sub,List.take_of_length_le]
    have ex:((xs.toList.drop n).drop f2.size).take r.length=xs.toList.drop (n+f2.size):=by grind [List.take_of_length_le,List.drop_drop]
    have ey:((ys.toList.drop n).drop f2.size).take s.length=ys.toList.drop (n+f2.size):=by grind [List.take_of_length_le,List.drop_drop]
    rw[er,ex]at rr;rw[es,ey]at rs;exact M8 h7 rr rs hc hstep
   ·simp
  ·cases ks with
   | nil=>simp at hf
   | cons k ks =>
    simp only[Bool.and_eq_true]at hf;obtain⟨⟨h3,h4⟩,h5⟩:=hf
    cases r with
    | nil=>grind [aB]
    | cons u r =>
     cases s with
     | nil=>grind [aB]
     | cons v s =>
      obtain⟨x,xs',P1,P2,e1,ru,rr,_⟩:=r1;obtain⟨y,ys',Q1,Q2,e2,rv,rs,_⟩:=r2;obtain⟨b,hb,hcase⟩:=QM h3 ru rv h (d+1);have hx:xs.toList[n]?=some x:=by have:=congrArg (fun l=>l[0]?) e1;grind
      have hy:ys.toList[n]?=some y:=by have:=congrArg (fun l=>l[0]?) e2;grind
      have ex:xs.toList.drop (n+1)=xs':=by have:=congrArg (fun l=>l.drop 1) e1;grind [List.drop_drop]
      have ey:ys.toList.drop (n+1)=ys':=by have:=congrArg (fun l=>l.drop 1) e2;grind [List.drop_drop]
      have hs:=hstep fd (none,()) h2 x y b (vF h4 (by simp_all)) (vF h4 (by simp_all)) hb;rw[List.forIn_cons,Sem.run_bind,hs];rcases hcase with ⟨rfl,hc⟩ | ⟨rfl,rfl⟩
      ·exact M8 h5 (by rw[ex];exact rr) (by rw[ey];exact rs) hc hstep
      ·simp
theorem Na {ty:TypeId}{ks:List Bool}(ht:sY P ty ks=true) {cs ds:List AV}{xs ys:Array Value}{O1 O2:Nat→Nat}(r1:RVs g w cs xs.toList O1) (r2:RVs g w ds ys.toList O2)
  {tt:Bool}(h:aB ks cs ds=some tt):(Op.equal ty (.agg xs) (.agg ys)).run P w=.ok tt w:=by
 unfold sY at ht;split at ht
 ·rename_i fs hu;simp only[Bool.and_eq_true,Bool.not_eq_true']at ht;obtain⟨⟨h1,h2⟩,h3⟩:=ht;show (Op.equalIn (9997+1+1+1) ty (.agg xs) (.agg ys)).run P w=_;rw[Op.equalIn,Sem.run_bind,ar hu];simp only[Result.andThen_ok,Sem.run_bind,run_program,h2,Bool.false_eq_true,if_false,←Array.forIn_toList];rw[M8 (f:=_) (d:=9997) h1 (by simpa using r1) (by simpa using r2) h (fun fd q hn x y b hx hy hb=>by
   have hn':¬ fd.name = "_" := by simp_all
   simp only[ne_eq,hn',not_false_eq_true,if_true,Sem.run_bind,hx,hy,Result.andThen_ok,hb]
   cases b<;>simp)]
  cases tt<;>simp
 simp_all
theorem amI {neg:Bool}{ks:List Bool}{x y:Rd}(s:S P g w st t O) (h:EY neg ks x y st=some (a,st')) (hc:aE P (.bina neg ks x y) o.op=true) :
  cO P g w t O st' a ((execOp (ev t) o).run P w):=by
 obtain⟨dst,opp,ty,pos,aft,gd⟩:=o;simp only[aE]at hc;split at hc
 ·rename_i op' ty' x' y' yt;simp only[Bool.and_eq_true,Tt,decide_eq_true_eq]at hc;obtain⟨⟨⟨h0,hb⟩,h1⟩,h2⟩:=hc;obtain⟨va,vb,e,Oa,Ob,O',ra,rb,s',l,hk⟩:=JE s h1 h2 h;split at hk
  ·split at hk
   ·rename_i tt htt;obtain⟨rfl,rfl⟩:=hk;obtain⟨xs,hx,r1⟩:=ra;obtain⟨ys,hy,r2⟩:=rb;have heq:=Na hb r1 r2 htt;have hgt:P.eqGuardType P.depth ty'=false:=by
     grind [sY]
    refine .flat s (x:=_) ?_ (AJ _) s' fun b=>by grind
    have hg:∀ op,(eqGuard op ty' x' y' (.agg xs) (.agg ys)).run P w=.ok () w:=by
     simp_all [eqGuard]
    have hbin:(binOp (match neg with | true=>.neq | false=>.eql) ty' (.agg xs) (.agg ys)).run P w=.ok (.bool (match neg with | true=>!tt | false=>tt)) w:=by
     cases neg
     ·show ((do pure (.bool (←Op.equal ty' (.agg xs) (.agg ys))):Sem Value)).run P w=_
      simp_all
     ·show ((do pure (.bool (!(←Op.equal ty' (.agg xs) (.agg ys)))):Sem Value)).run P w=_
      simp_all
    simp only[execOp,hx,hy]
    cases neg
    all_goals simp_all
   simp_all
  simp_all
 simp_all
end
end Go.Vm
end
