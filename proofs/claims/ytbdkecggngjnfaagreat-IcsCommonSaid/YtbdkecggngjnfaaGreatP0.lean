import GoSem.Core.View
import Derived.Calls
import Derived.Laws.Sem
import Derived.Laws.World
import GoSem.Core.Program
import GoSem.Core.Layout
import GoSem.Op.Equal
import Derived.Laws.Cells
import Derived.Laws.Append
set_option linter.unusedVariables false
set_option linter.unusedSimpArgs false
noncomputable section
namespace Go.Vm
inductive D where
 | int (k:IntKind) (n:Int)
 | bool (b:Bool)
 | str (s:List UInt8)
 | lst (xs:List (List D))
 deriving Inhabited
inductive AV where
 | junk
 | d (x:D)
 | nl
 | own (p:Bool) (m:Nat) (xs:List (List D))
 | gl (n:Nat)
 | agg (cs:List AV)
 | tup (vs:List AV)
 | nilp
 | ptr (id off:Nat)
 | pel (id i off:Nat)
 | pim (cs:List D) (off:Nat)
 | sl (id off len:Nat)
 | fn (f:FuncId) (first caps:List AV)
 | nilf
 | yield (l:Nat)
 deriving Inhabited
abbrev AV.int (k:IntKind) (n:Int):AV:=.d (.int k n)
abbrev AV.bool (b:Bool):AV:=.d (.bool b)
inductive Rd where
 | s (i:Nat)
 | m (i:Nat)
 | c (v:AV)
 deriving Inhabited
inductive iu where
 | mov (x:Rd)
 | pick (c a b:Rd)
 | alloc (zs:List AV)
 | box (x:Rd)
 | build (zs:List AV) (ps:List (Nat×Nat×Rd))
 | mks (m:Nat) (ps:List Rd)
 | mksv (m:Nat) (ps:List Rd)
 | ld (n:Option Nat) (take:Nat) (p:Rd)
 | st (n:Nat) (p x:Rd)
 | nilck (x:Rd)
 | bin (op:BinOp) (x y:Rd)
 | binb (neg:Bool) (x y:Rd)
 | bina (neg:Bool) (ks:List Bool) (x y:Rd)
 | un (op:UnOp) (x:Rd)
 | conv (k:IntKind) (x:Rd)
 | toStr (x:Rd)
 | mkfn (f:FuncId) (first caps:List Rd)
 | mkslice (z:List D) (len cap:Rd)
 | slice (m:Nat) (x:Rd) (lo hi mx:Option Rd)
 | slarr (n:Nat) (x:Rd) (lo hi mx:Option Rd)
 | fa (off:Nat) (p:Rd)
 | fld (off:Nat) (n:Option Nat) (x:Rd)
 | ia (n:Nat) (x i:Rd)
 | iarr (len n:Nat) (p i:Rd)
 | ix (len n:Nat) (agg:Bool) (x i:Rd)
 | ixs (x i:Rd)
 | idxb (x c:Rd)
 | ext (j:Nat) (mv:Bool) (i:Nat)
 | len (x:Rd)
 | cap (x:Rd)
 | app (m:Nat) (x y:Rd)
 | appz (z:List D) (x n:Rd)
 | cpy (m:Nat) (x y:Rd)
 | clr (z:List D) (x:Rd)
 | minmax (isMax:Bool) (xs:List Rd)
 | call (f:FuncId) (args:List Rd)
 | calli (f:FuncId) (args:List Rd)
 | callv (f:Rd) (args:List Rd)
 | bad
 | kill (is:List Nat)
 | free (i:Nat)
 | wk (i m:Nat)
 | frz (i:Nat)
 | frzC (i:Nat) (bj:List Nat)
 deriving Inhabited
structure VI where
 dst:Option Nat
 guard:Option (Nat×Bool)
 op:iu
 th:List (Nat×Nat):=[]
 deriving Inhabited
inductive VC where
 | skip
 | reg (draw:Bool) (ops:List VI)
 | regP (perm gco nr:List Nat) (ops:List VI)
 | seq (a b:VC)
 | cond (c:Rd) (a b:VC)
 | block (id:Nat) (a:VC)
 | loop (a:VC)
 | rangeF (f:Rd) (params:List Nat) (assign body:VC)
 | exit (id:Nat)
 | scope (a:VC)
 | inScope (a cur:VC)
 | label (l:Nat)
 | goto (l:Nat)
 | ret
 | clone (m:Nat)
 | late (i d f:Nat) (a:VC)
 deriving Inhabited
inductive kj where
 | tmp (t:Nat)
 | cell (t:Nat) (n:Option Nat)
 deriving Inhabited
structure af where
 nparams:Nat
 results:List kj
 body:VC
 deriving Inhabited
abbrev am:=List (Nat×AV)
inductive aT where
 | normal
 | exit (id:Nat)
 | goto (l:Nat)
 | ret
 deriving Inhabited,DecidableEq
inductive Obj where
 | cells (cs:List AV)
 | arr (m:Nat) (xs:List (List D))
 | loop (snap:am) (params:List Nat) (assign body:VC) (busy:Bool) (pend:Option aT)
 deriving Inhabited
abbrev ac:=List (Nat×Obj)
structure HS where
 heap:ac
 next:Nat
 deriving Inhabited
structure St where
 env:am
 hs:HS
 deriving Inhabited
abbrev tj (a b:Nat):Prop:=a<b
abbrev Jo (a b:Nat):Prop:=a≤b
abbrev Qk (a b:Nat):Bool:=Nat.ble a b
theorem aew {a b:Nat}(h:Jo a b):Qk a b=true:=Nat.ble_eq_true_of_le h
theorem agf {a b:Nat}(h:¬ Jo a b):Qk a b=false:=by rw[←Bool.not_eq_true,Qk,Nat.ble_eq];exact h
def amu {α:Type}:List (Nat×α)→Nat→Option α
 | [],_=>none
 | (k,v)::r,i=>match Nat.beq k i with
  | true=>some v
  | false=>amu r i
def get {α:Type}(l:List (Nat×α)) (i:Nat):Option α :=
 List.rec (motive:=fun _=>Option α) none (fun p _ ih=>Prod.rec (motive:=fun _=>Option α) (fun k v=>Bool.rec (motive:=fun _=>Option α) ih (some v) (Nat.beq k i)) p) l
def amV {α:Type}:List (Nat×α)→Nat→α→List (Nat×α)
 | [],i,x=>[(i,x)]
 | (k,v)::r,i,x=>match Nat.beq k i with
  | true=>(i,x)::r
  | false=>match Qk i k with
   | true=>(i,x)::(k,v)::r
   | false=>(k,v)::amV r i x
def put {α:Type}(l:List (Nat×α)) (i:Nat) (x:α):List (Nat×α) :=
 List.rec (motive:=fun _=>List (Nat×α)) [(i,x)] (fun p r ih=>Prod.rec (motive:=fun _=>List (Nat×α)) (fun k v=>Bool.rec (motive:=fun _=>List (Nat×α)) (Bool.rec (motive:=fun _=>List (Nat×α)) ((k,v)::ih) ((i,x)::(k,v)::r) (Qk i k)) ((i,x)::r) (Nat.beq k i)) p) l
def aiX {α:Type}:List (Nat×α)→Nat→List (Nat×α)
 | [],_=>[]
 | (k,v)::r,i=>match Nat.beq k i with
  | true=>aiX r i
  | false=>(k,v)::aiX r i
def del {α:Type}(l:List (Nat×α)) (i:Nat):List (Nat×α) :=
 List.rec (motive:=fun _=>List (Nat×α)) [] (fun p _ ih=>Prod.rec (motive:=fun _=>List (Nat×α)) (fun k v=>Bool.rec (motive:=fun _=>List (Nat×α)) ((k,v)::ih) ih (Nat.beq k i)) p) l
section
variable {α:Type}
theorem mc (i:Nat):get ([]:List (Nat×α)) i=none:=rfl
theorem PV (i:Nat) (x:α):put [] i x=[(i,x)]:=rfl
theorem Rq (i:Nat):del ([]:List (Nat×α)) i=[]:=rfl
theorem SQ {k i:Nat}(h:k=i):Nat.beq k i=true:=by rw[Nat.beq_eq];exact h
theorem WN {k i:Nat}(h:¬ k=i):Nat.beq k i=false:=by rw[←Bool.not_eq_true,Nat.beq_eq];exact h
theorem bq (k:Nat) (v:α) (r:List (Nat×α)) (i:Nat):get ((k,v)::r) i=if k=i then some v else get r i:=by
 show Bool.rec (motive:=fun _=>Option α) (get r i) (some v) (Nat.beq k i)=_
 by_cases h:k=i
 ·rw[if_pos h,SQ h]
 ·rw[if_neg h,WN h]
theorem fY (k:Nat) (v:α) (r:List (Nat×α)) (i:Nat):del ((k,v)::r) i=if k=i then del r i else (k,v)::del r i:=by
 show Bool.rec (motive:=fun _=>List (Nat×α)) ((k,v)::del r i) (del r i) (Nat.beq k i)=_
 by_cases h:k=i
 ·rw[if_pos h,SQ h]
 ·rw[if_neg h,WN h]
theorem jF (k:Nat) (v:α) (r:List (Nat×α)) (i:Nat) (x:α) :
  put ((k,v)::r) i x=if k=i then (i,x)::r else if Jo i k then (i,x)::(k,v)::r else (k,v)::put r i x:=by
 show Bool.rec (motive:=fun _=>List (Nat×α)) (Bool.rec (motive:=fun _=>List (Nat×α)) ((k,v)::put r i x) ((i,x)::(k,v)::r) (Qk i k)) ((i,x)::r) (Nat.beq k i)=_
 by_cases h:k=i
 ·rw[if_pos h,SQ h]
 ·rw[if_neg h,WN h]
  by_cases h2:Jo i k
  ·rw[if_pos h2,aew h2]
  ·rw[if_neg h2,agf h2]
end
mutual
def adi:AV→AV
 | .own p _ xs=>match p with
  | false=>.d (.lst xs)
  | true=>.junk
 | .agg cs=>.agg (aB cs)
 | .tup cs=>.tup (aB cs)
 | v=>v
def aB:List AV→List AV
 | []=>[]
 | v::r=>adi v::aB r
end
def share (v:AV):AV:=AV.casesOn (motive_1:=fun _=>AV) v .junk (fun x=>.d x) .nl (fun p _ xs=>Bool.casesOn (motive:=fun _=>AV) p (.d (.lst xs)) .junk) (fun n=>.gl n) (fun cs=>.agg (aB cs)) (fun cs=>.tup (aB cs))
 .nilp (fun a b=>.ptr a b) (fun a b c=>.pel a b c) (fun a b=>.pim a b) (fun a b c=>.sl a b c) (fun a b c=>.fn a b c) .nilf (fun a=>.yield a)
theorem adk (v:AV):adi v=share v:=by
 cases v<;>try rfl
 rename_i p _ _
 cases p<;>rfl
theorem Xy:aB []=[]:=rfl
theorem iD (v:AV) (r:List AV):aB (v::r)=share v::aB r:=by rw[aB,adk]
def rd (e:am):Rd→Option (AV×am)
 | .c v=>some (v,e)
 | .m i=>match get e i with
  | some v=>some (v,del e i)
  | none=>none
 | .s i=>match get e i with
  | some v=>some (share v,e)
  | none=>none
def rdAll (e:am):List Rd→Option (List AV×am)
 | []=>some ([],e)
 | x::r=>match rd e x with
  | none=>none
  | some (v,e)=>match rdAll e r with
   | none=>none
   | some (vs,e)=>some (v::vs,e)
def rdOpt (e:am):Option Rd→Option (Option AV×am)
 | none=>some (none,e)
 | some x=>match rd e x with
  | some (v,e)=>some (some v,e)
  | none=>none
def sub {α:Type}(xs:List α) (off len:Nat):List α:=(xs.drop off).take len
def aj {α:Type}(cs:List α) (off:Nat) (vs:List α):List α:=cs.take off++vs++cs.drop (off+vs.length)
def Er:List D→List (List D)
 | []=>[]
 | x::r=>[x]::Er r
def sX:AV→Option D
 | .d x=>some x
 | .nl=>some (.lst [])
 | .own false _ xs=>some (.lst xs)
 | _=>none
def ge:List AV→Option (List D)
 | []=>some []
 | v::r=>match sX v with
  | some x=>match ge r with
   | some xs=>some (x::xs)
   | none=>none
  | none=>none
def AV.cells:AV→List AV
 | .agg cs=>cs
 | v=>[v]
def objElems (h:ac) (id:Nat):Option (List (List D)) :=
 match get h id with
 | some (.arr _ xs)=>some xs
 | some (.cells cs)=>match ge cs with
  | some ds=>some (Er ds)
  | none=>none
 | _=>none
def elems (h:ac):AV→Option (List (List D))
 | .d (.lst xs)=>some xs
 | .nl=>some []
 | .own false _ xs=>some xs
 | .sl id off len=>match objElems h id with
  | some xs=>match Nat.ble (off+len) xs.length with
   | true=>some (sub xs off len)
   | false=>none
  | none=>none
 | _=>none
def lenOf:AV→Option Nat
 | .d (.lst xs)=>some xs.length
 | .nl=>some 0
 | .own _ _ xs=>some xs.length
 | .gl n=>some n
 | .sl _ _ len=>some len
 | _=>none
def viewOne (h:ac):AV→Option AV
 | .d x=>some (.d x)
 | .nl=>some .nl
 | .own false _ xs=>some (.d (.lst xs))
 | .sl id off len=>match elems h (.sl id off len) with
  | some xs=>some (.d (.lst xs))
  | none=>none
 | _=>none
def viewAll (h:ac):List AV→Option (List AV)
 | []=>some []
 | v::r=>match viewOne h v with
  | none=>none
  | some x=>match viewAll h r with
   | none=>none
   | some xs=>some (x::xs)
def viewArg (h:ac):AV→Option AV
 | .agg cs=>match viewAll h cs with
  | some xs=>some (.agg xs)
  | none=>none
 | v=>viewOne h v
def viewArgs (h:ac):List AV→Option (List AV)
 | []=>some []
 | v::r=>match viewArg h v with
  | none=>none
  | some x=>match viewArgs h r with
   | none=>none
   | some xs=>some (x::xs)
def nC:AV→Bool
 | .sl ..=>true
 | _=>false
def kA:AV→Bool
 | .agg cs=>cs.any nC
 | v=>nC v
def fe (h:ac):AV→Option (AV×ac)
 | .d x=>some (.d x,h)
 | .nl=>some (.nl,h)
 | .own p m xs=>some (.own p m xs,h)
 | .sl id off len=>match get h id with
  | some (.arr m xs)=>match Nat.ble (off+len) xs.length with
   | true=>some (.own true m (sub xs off len),del h id)
   | false=>none
  | _=>none
 | _=>none
def js (h:ac):List AV→Option (List AV×ac)
 | []=>some ([],h)
 | v::r=>match fe h v with
  | none=>none
  | some (x,h)=>match js h r with
   | none=>none
   | some (xs,h)=>some (x::xs,h)
def d8 (h:ac):AV→Option (AV×ac)
 | .agg cs=>match js h cs with
  | some (xs,h)=>some (.agg xs,h)
  | none=>none
 | v=>fe h v
def jl (h:ac):List AV→Option (List AV×ac)
 | []=>some ([],h)
 | v::r=>match d8 h v with
  | none=>none
  | some (x,h)=>match jl h r with
   | none=>none
   | some (xs,h)=>some (x::xs,h)
def kF:D→Bool
 | .lst _=>false
 | _=>true
def gj:AV→Bool
 | .d x=>kF x
 | .own _ _ xs=>xs.all fun e=>e.all kF
 | _=>true
def jh:AV→Bool
 | .agg cs=>cs.all gj
 | v=>gj v
def eG:AV→Bool
 | .tup vs=>vs.all jh
 | v=>jh v
def gS:AV→AV
 | .own _ m xs=>.own true m xs
 | v=>v
def iI:AV→AV
 | .agg cs=>.agg (cs.map gS)
 | v=>gS v
def iM:AV→AV
 | .tup vs=>.tup (vs.map iI)
 | v=>iI v
def dY (v:AV):AV :=
 match eG v with
 | true=>iM v
 | false=>v
def fC (h:ac):AV→Option AV
 | .tup vs=>match jl h vs with
  | some (xs,_)=>some (dY (.tup xs))
  | none=>none
 | v=>match d8 h v with
  | some (x,_)=>some (dY x)
  | none=>none
def gW (n:Option Nat) (cs:List D) (off:Nat):Option AV :=
 match n with
 | none=>match cs[off]? with
  | some x=>some (.d x)
  | none=>none
 | some n=>match Nat.ble (off+n) cs.length with
  | true=>some (.agg ((sub cs off n).map .d))
  | false=>none
def iW (t:Nat) (v:AV):AV×AV :=
 match t with
 | 1=>(v,.junk)
 | 2=>(v,share v)
 | 3=>(v,match v with | .own _ _ xs=>.gl xs.length | v=>share v)
 | _=>(share v,v)
def bZ (t:Nat):List AV→List AV×List AV
 | []=>([],[])
 | v::r=>((iW t v).1::(bZ t r).1,(iW t v).2::(bZ t r).2)
def loadAt (h:ac) (n:Option Nat) (take:Nat):AV→Option (AV×ac)
 | .ptr id off=>match get h id with
  | some (.cells cs)=>match n with
   | none=>match cs[off]? with
    | none=>none
    | some v=>match take with
     | 0=>some (share v,h)
     | t=>some ((iW t v).1,put h id (.cells (cs.set off (iW t v).2)))
   | some n=>match Nat.ble (off+n) cs.length with
    | true=>match take with
     | 0=>some (.agg (aB (sub cs off n)),h)
     | t=>some (.agg (bZ t (sub cs off n)).1,put h id (.cells (aj cs off (bZ t (sub cs off n)).2)))
    | false=>none
  | _=>none
 | .pel id i off=>match get h id with
  | some (.arr _ xs)=>match xs[i]? with
   | some x=>match gW n x off with
    | some v=>some (v,h)
    | none=>none
   | none=>none
  | _=>none
 | .pim cs off=>match gW n cs off with
  | some v=>some (v,h)
  | none=>none
 | _=>none
def cy:AV→Bool
 | .junk | .agg _ | .tup _=>false
 | .own p _ _=>!p
 | _=>true
def storeAt (h:ac) (n:Nat) (p x:AV):Option ac :=
 match Nat.beq x.cells.length n with
 | false=>none
 | true=>match p with
  | .ptr id off=>match get h id with
   | some (.cells cs)=>match Nat.ble (off+n) cs.length && x.cells.all cy with
    | true=>some (put h id (.cells (aj cs off x.cells)))
    | false=>none
   | _=>none
  | .pel id i off=>match ge x.cells with
   | none=>none
   | some ds=>match get h id with
    | some (.arr m xs)=>match xs[i]? with
     | some e=>match Nat.ble (off+n) e.length with
      | true=>some (put h id (.arr m (xs.set i (aj e off ds))))
      | false=>none
     | none=>none
    | _=>none
  | _=>none
def bM (off:Nat):AV→Option AV
 | .ptr id o=>some (.ptr id (o+off))
 | .pel id i o=>some (.pel id i (o+off))
 | .pim cs o=>some (.pim cs (o+off))
 | _=>none
def gP (lo hi:Int) (k:IntKind) (n:Int):Int :=
 match decide (lo≤n) && decide (n≤hi) with
 | true=>n
 | false=>k.wrap n
def wr (k:IntKind) (n:Int):Int :=
 match k with
 | .i64=>gP (-9223372036854775808) 9223372036854775807 k n
 | .u8=>gP 0 255 k n
 | .u64=>gP 0 18446744073709551615 k n
 | .u16=>gP 0 65535 k n
 | .u32=>gP 0 4294967295 k n
 | k=>k.wrap n
def vk (op:BinOp) (k:IntKind) (x y:Int):Option D :=
 match decide (y<0) with
 | true=>none
 | false=>match op with
  | .shl=>some (.int k (wr k (x*((2 ^ (min y.toNat k.bits):Nat):Int))))
  | .shr=>some (.int k (x.fdiv ((2 ^ (min y.toNat k.bits):Nat):Int)))
  | _=>none
def zP (op:BinOp) (k:IntKind) (x y:Int):Option D :=
 let slow (f:BitVec k.bits→BitVec k.bits→BitVec k.bits):Option D:=some (.int k (k.wrap (f (BitVec.ofInt k.bits x) (BitVec.ofInt k.bits y)).toNat))
 match op with
 | .and=>slow (·&&& ·)
 | .or=>slow (·||| ·)
 | .xor=>slow (·^^^ ·)
 | .andNot=>slow fun a b=>a &&& ~~~b
 | _=>none
def ew (op:BinOp) (k:IntKind) (x y:Int):Option D :=
 match op with
 | .add=>some (.int k (wr k (x+y)))
 | .sub=>some (.int k (wr k (x-y)))
 | .mul=>some (.int k (wr k (x*y)))
 | .quo=>match decide (y=0) with
  | true=>none
  | false=>some (.int k (wr k (x.tdiv y)))
 | .rem=>match decide (y=0) with
  | true=>none
  | false=>some (.int k (x.tmod y))
 | .eql=>some (.bool (decide (x=y)))
 | .neq=>some (.bool (!decide (x=y)))
 | .lss=>some (.bool (decide (x<y)))
 | .leq=>some (.bool (decide (x≤y)))
 | .gtr=>some (.bool (decide (y<x)))
 | .geq=>some (.bool (decide (y≤x)))
 | .shl=>none
 | .shr=>none
 | op=>zP op k x y
def gX:IntKind→IntKind→Bool
 | .i8,.i8 | .i16,.i16 | .i32,.i32 | .i64,.i64 | .u8,.u8 | .u16,.u16 | .u32,.u32 | .u64,.u64=>true
 | _,_=>false
def an:List Bool→List AV→List AV→Option Bool
 | [],[],[]=>some true
 | true::ks,.d (.int k a)::r,.d (.int j b)::s=>match gX k j with
  | true=>match decide (a=b) with
   | true=>an ks r s
   | false=>some false
  | false=>none
 | false::ks,.d (.bool a)::r,.d (.bool b)::s=>match a == b with
  | true=>an ks r s
  | false=>some false
 | _,_,_=>none
def ku (op:BinOp) (k:IntKind) (a:Int) (j:IntKind) (b:Int):Option D :=
 match op with
 | .shl=>vk .shl k a b
 | .shr=>vk .shr k a b
 | op=>match gX k j with
  | true=>ew op k a b
  | false=>none
def bi (op:BinOp):AV→AV→Option AV
 | .d (.int k a),.d (.int j b)=>match ku op k a j b with
  | some x=>some (.d x)
  | none=>none
 | .d (.str a),.d (.str b)=>match op with
  | .eql=>some (.bool (a == b))
  | .neq=>some (.bool (!(a == b)))
  | .add=>match Nat.ble (a.length+b.length) 4294967296 with
   | true=>some (.d (.str (a++b)))
   | false=>none
  | _=>none
 | _,_=>none
def adE (a b:Int):Int:=Int.casesOn (motive:=fun _=>Int→Int) a (fun m b=>Int.casesOn (motive:=fun _=>Int) b (fun n=>.ofNat (Nat.add m n)) (fun n=>Int.subNatNat m (Nat.succ n)))
 (fun m b=>Int.casesOn (motive:=fun _=>Int) b (fun n=>Int.subNatNat n (Nat.succ m)) (fun n=>.negSucc (Nat.succ (Nat.add m n)))) b
def aeP (a b:Int):Int:=Int.casesOn (motive:=fun _=>Int→Int) a (fun m b=>Int.casesOn (motive:=fun _=>Int) b (fun n=>Bool.casesOn (motive:=fun _=>Int) (Nat.ble n m) (Int.ofNat m-Int.ofNat n) (.ofNat (Nat.sub m n))) (fun n=>.ofNat (Nat.add m (Nat.succ n))))
 (fun m b=>Int.negSucc m-b) b
def aeK (a b:Int):Int:=Int.casesOn (motive:=fun _=>Int→Int) a (fun m b=>Int.casesOn (motive:=fun _=>Int) b (fun n=>.ofNat (Nat.mul m n)) (fun n=>Int.ofNat m*Int.negSucc n))
 (fun m b=>Int.negSucc m*b) b
def OD (a b:Int):Bool:=Int.casesOn (motive:=fun _=>Int→Bool) a (fun m b=>Int.casesOn (motive:=fun _=>Bool) b (fun n=>Nat.ble m n) (fun _=>false))
 (fun m b=>Int.casesOn (motive:=fun _=>Bool) b (fun _=>true) (fun n=>Nat.ble n m)) b
def ieq (a b:Int):Bool:=Int.casesOn (motive:=fun _=>Int→Bool) a (fun m b=>Int.casesOn (motive:=fun _=>Bool) b (fun n=>Nat.beq m n) (fun _=>false))
 (fun m b=>Int.casesOn (motive:=fun _=>Bool) b (fun _=>false) (fun n=>Nat.beq m n)) b
def TI (k:IntKind):Nat:=IntKind.casesOn (motive:=fun _=>Nat) k 127 32767 2147483647 9223372036854775807 255 65535 4294967295 18446744073709551615
def Wc (k:IntKind):Nat:=IntKind.casesOn (motive:=fun _=>Nat) k 128 32768 2147483648 9223372036854775808 0 0 0 0
def ZP (k:IntKind):Nat:=IntKind.casesOn (motive:=fun _=>Nat) k 0 1 2 3 4 5 6 7
def wq (n:Int) (k:IntKind):D:=Int.casesOn (motive:=fun _=>D) n (fun m=>Bool.casesOn (motive:=fun _=>D) (Nat.ble m (TI k)) (.int k (k.wrap (.ofNat m))) (.int k (.ofNat m)))
 (fun m=>Bool.casesOn (motive:=fun _=>D) (Nat.ble (Nat.succ m) (Wc k)) (.int k (k.wrap (.negSucc m))) (.int k (.negSucc m)))
abbrev BF:=BinOp→IntKind→Int→Int→Option AV
def xl:BF:=fun op k a b=>bi op (.d (.int k a)) (.d (.int k b))
def amD:BF:=fun _ k a b=>some (.d (wq (adE a b) k))
def alR:BF:=fun _ k a b=>some (.d (wq (aeP a b) k))
def amg:BF:=fun _ k a b=>some (.d (wq (aeK a b) k))
def am7:BF:=fun _ _ a b=>some (.d (.bool (ieq a b)))
def ami:BF:=fun _ _ a b=>some (.d (.bool (Bool.casesOn (motive:=fun _=>Bool) (ieq a b) true false)))
def ame:BF:=fun _ _ a b=>some (.d (.bool (Bool.casesOn (motive:=fun _=>Bool) (OD b a) true false)))
def alT:BF:=fun _ _ a b=>some (.d (.bool (OD a b)))
def alU:BF:=fun _ _ a b=>some (.d (.bool (Bool.casesOn (motive:=fun _=>Bool) (OD a b) true false)))
def al8:BF:=fun _ _ a b=>some (.d (.bool (OD b a)))
def aes (op:BinOp):BF:=BinOp.casesOn (motive:=fun _=>BF) op amD alR amg xl xl xl xl xl xl xl xl am7 ami ame alT alU al8
def amf (k:IntKind) (a:Int) (op:BinOp) (y:D):Option AV:=D.casesOn (motive_1:=fun _=>IntKind→Int→BinOp→Option AV) y
 (fun j b k a op=>Bool.casesOn (motive:=fun _=>Option AV) (Nat.beq (ZP k) (ZP j)) (bi op (.d (.int k a)) (.d (.int j b))) (aes op op k a b))
 (fun _ _ _ _=>none) (fun _ _ _ _=>none) (fun _ _ _ _=>none) k a op
def akL (x:D) (op:BinOp) (y:AV):Option AV:=D.casesOn (motive_1:=fun _=>BinOp→AV→Option AV) x
 (fun k a op y=>AV.casesOn (motive_1:=fun _=>IntKind→Int→BinOp→Option AV) y (fun _ _ _=>none) (fun d k a op=>amf k a op d) (fun _ _ _=>none) (fun _ _ _ _ _ _=>none) (fun _ _ _ _=>none) (fun _ _ _ _=>none) (fun _ _ _ _=>none) (fun _ _ _=>none) (fun _ _ _ _ _=>none) (fun _ _ _ _ _ _=>none) (fun _ _ _ _ _=>none) (fun _ _ _ _ _ _=>none) (fun _ _ _ _ _ _=>none) (fun _ _ _=>none) (fun _ _ _ _=>none) k a op)
 (fun b op y=>bi op (.d (.bool b)) y) (fun s op y=>bi op (.d (.str s)) y) (fun xs op y=>bi op (.d (.lst xs)) y) op y
def aiQ (op:BinOp) (x y:AV):Option AV:=AV.casesOn (motive_1:=fun _=>BinOp→AV→Option AV) x (fun _ _=>none) (fun d op y=>akL d op y) (fun _ _=>none) (fun _ _ _ _ _=>none) (fun _ _ _=>none) (fun _ _ _=>none) (fun _ _ _=>none) (fun _ _=>none) (fun _ _ _ _=>none) (fun _ _ _ _ _=>none) (fun _ _ _ _=>none) (fun _ _ _ _ _=>none) (fun _ _ _ _ _=>none) (fun _ _=>none) (fun _ _ _=>none) op y
theorem abx (k j:IntKind):Nat.beq (ZP k) (ZP j)=gX k j:=by cases k<;>cases j<;>rfl
theorem ahy (a b:Int):adE a b=a+b:=by cases a<;>cases b<;>rfl
theorem af5 (a b:Int):aeP a b=a-b:=by
 cases a with
 | ofNat m =>
  cases b with
  | ofNat n =>
   show Bool.casesOn (motive:=fun _=>Int) (Nat.ble n m) (Int.ofNat m-Int.ofNat n) (.ofNat (Nat.sub m n))=_
   by_cases h:n≤m
   ·rw[Nat.ble_eq_true_of_le h]
    show ((m-n:Nat):Int)=(m:Int)-(n:Int)
    omega
   ·rw[show Nat.ble n m=false by rw[←Bool.not_eq_true,Nat.ble_eq];exact h]
  | negSucc n=>rfl
 | negSucc m=>rfl
theorem ahm (a b:Int):aeK a b=a*b:=by cases a<;>cases b<;>rfl
theorem N2 (a b:Int):OD a b=decide (a≤b):=by
 cases a with
 | ofNat m =>
  cases b with
  | ofNat n =>
   show Nat.ble m n=_
   rw[Bool.eq_iff_iff,Nat.ble_eq,decide_eq_true_eq];(try simp only[Int.ofNat_eq_natCast]);omega
  | negSucc n =>
   show false=_
   symm;rw[decide_eq_false_iff_not];intro h;simp only[Int.ofNat_eq_natCast]at h;omega
 | negSucc m =>
  cases b with
  | ofNat n =>
   show true=_
   symm;rw[decide_eq_true_eq];(try simp only[Int.ofNat_eq_natCast]);omega
  | negSucc n =>
   show Nat.ble n m=_
   rw[Bool.eq_iff_iff,Nat.ble_eq,decide_eq_true_eq];(try simp only[Int.ofNat_eq_natCast]);omega
theorem adh (a b:Int):ieq a b=decide (a=b):=by
 cases a with
 | ofNat m =>
  cases b with
  | ofNat n =>
   show Nat.beq m n=_
   rw[Bool.eq_iff_iff,Nat.beq_eq,decide_eq_true_eq];(try simp only[Int.ofNat_eq_natCast]);omega
  | negSucc n =>
   show false=_
   symm;rw[decide_eq_false_iff_not];intro h;simp only[Int.ofNat_eq_natCast]at h;omega
 | negSucc m =>
  cases b with
  | ofNat n =>
   show false=_
   symm;rw[decide_eq_false_iff_not];intro h;simp only[Int.ofNat_eq_natCast]at h;omega
  | negSucc n =>
   show Nat.beq m n=_
   rw[Bool.eq_iff_iff,Nat.beq_eq,decide_eq_true_eq];(try simp only[Int.ofNat_eq_natCast]);omega
theorem E6 {k:IntKind}{n:Int}(h:-(Wc k:Int)≤n) (h2:n≤TI k):k.wrap n=n:=by
 cases k<;>simp only[Wc,TI]at h h2<;>simp only[IntKind.wrap,IntKind.bits,IntKind.signed]<;>simp<;>omega
theorem age (k:IntKind) (n:Int):wr k n=k.wrap n:=by
 have H:∀ lo hi:Int,(lo≤n→n≤hi→k.wrap n=n)→gP lo hi k n=k.wrap n:=by
  intro lo hi h
  unfold gP
  split
  ·rename_i e
   simp only[Bool.and_eq_true,decide_eq_true_eq]at e
   exact(h e.1 e.2).symm
  ·rfl
 cases k<;>simp only[wr]
 all_goals exact H _ _ fun h1 h2=>E6 (by simpa [Wc] using h1) (by simpa [TI] using h2)
theorem abh (k:IntKind) (n:Int):wq n k=.int k (wr k n):=by
 rw[age]
 cases n with
 | ofNat m =>
  show Bool.casesOn (motive:=fun _=>D) (Nat.ble m (TI k)) (.int k (k.wrap (.ofNat m))) (.int k (.ofNat m))=_
  by_cases h:m≤TI k
  ·rw[Nat.ble_eq_true_of_le h,E6]
   ·have:(0:Int)≤Int.ofNat m:=Int.natCast_nonneg m
    omega
   ·show (m:Int)≤TI k
    omega
  ·rw[show Nat.ble m (TI k)=false by rw[←Bool.not_eq_true,Nat.ble_eq];exact h]
 | negSucc m =>
  show Bool.casesOn (motive:=fun _=>D) (Nat.ble (Nat.succ m) (Wc k)) (.int k (k.wrap (.negSucc m))) (.int k (.negSucc m))=_
  by_cases h:m+1≤Wc k
  ·rw[Nat.ble_eq_true_of_le h,E6]
   ·omega
   ·omega
  ·rw[show Nat.ble (Nat.succ m) (Wc k)=false by rw[←Bool.not_eq_true,Nat.ble_eq];exact h]
theorem ae9 (b:Bool):Bool.casesOn (motive:=fun _=>Bool) b true false=!b:=by cases b<;>rfl
theorem iR (k:IntKind):gX k k=true:=by cases k<;>rfl
theorem agN (op:BinOp) (k:IntKind) (a b:Int):aes op op k a b=bi op (.d (.int k a)) (.d (.int k b)):=by
 cases op
 case add=>show some (AV.d (wq (adE a b) k))=_;rw[abh,ahy];simp only[bi,ku,iR,ew]
 case sub=>show some (AV.d (wq (aeP a b) k))=_;rw[abh,af5];simp only[bi,ku,iR,ew]
 case mul=>show some (AV.d (wq (aeK a b) k))=_;rw[abh,ahm];simp only[bi,ku,iR,ew]
 case eql=>show some (AV.d (.bool (ieq a b)))=_;rw[adh];simp only[bi,ku,iR,ew]
 case neq=>show some (AV.d (.bool (Bool.casesOn (motive:=fun _=>Bool) (ieq a b) true false)))=_;rw[ae9,adh];simp only[bi,ku,iR,ew]
 case lss=>show some (AV.d (.bool (Bool.casesOn (motive:=fun _=>Bool) (OD b a) true false)))=_;rw[ae9,N2];simp only[bi,ku,iR,ew];rw[←decide_not];simp only[Int.not_le]
 case leq=>show some (AV.d (.bool (OD a b)))=_;rw[N2];simp only[bi,ku,iR,ew]
 case gtr=>show some (AV.d (.bool (Bool.casesOn (motive:=fun _=>Bool) (OD a b) true false)))=_;rw[ae9,N2];simp only[bi,ku,iR,ew];rw[←decide_not];simp only[Int.not_le]
 case geq=>show some (AV.d (.bool (OD b a)))=_;rw[N2];simp only[bi,ku,iR,ew]
 all_goals rfl
theorem FI (op:BinOp) (x y:AV):aiQ op x y=bi op x y:=by
 cases x<;>try rfl
 rename_i d
 cases d<;>try rfl
 rename_i k a
 cases y<;>try rfl
 rename_i e
 cases e<;>try rfl
 rename_i j b
 show Bool.casesOn (motive:=fun _=>Option AV) (Nat.beq (ZP k) (ZP j)) (bi op (.d (.int k a)) (.d (.int j b))) (aes op op k a b)=_
 rw[abx]
 cases h:gX k j with
 | false=>rfl
 | true =>
  have:k=j:=by revert h;cases k<;>cases j<;>simp[gX]
  subst this
  exact agN op k a b
def En (op:UnOp):AV→Option AV
 | .d (.int k n)=>match op with
  | .neg=>some (.int k (wr k (0-n)))
  | .xor=>match zP .xor k (if k.signed then -1 else k.max) n with
   | some x=>some (.d x)
   | none=>none
  | _=>none
 | .d (.bool b)=>match op with
  | .not=>some (.bool !b)
  | _=>none
 | _=>none
def vF (isMax:Bool):AV→AV→Option AV
 | .d (.int k a),.d (.int j b)=>match gX k j with
  | true=>match (if isMax then decide (a<b) else decide (b<a)) with
   | true=>some (.int k b)
   | false=>some (.int k a)
  | false=>none
 | _,_=>none
def mF (isMax:Bool):AV→List AV→Option AV
 | v,[]=>some v
 | v,x::r=>match vF isMax v x with
  | some v=>mF isMax v r
  | none=>none
def aD:Nat:=4294967296
def bO (v:AV) (top:Nat):Option Nat :=
 match v with
 | .d (.int _ (.ofNat n))=>match Nat.ble n top with
  | true=>some n
  | false=>none
 | _=>none
def jK (lo:Option AV) (h m:Nat):Option (Nat×Nat×Nat) :=
 match lo with
 | none=>some (0,h,m)
 | some v=>match bO v h with
  | some l=>some (l,h,m)
  | none=>none
def o8 (len:Nat) (lo hi mx:Option AV):Option (Nat×Nat×Nat) :=
 let m:Option Nat:=match mx with
  | none=>some len
  | some v=>bO v len
 match m with
 | none=>none
 | some m =>
  let h:Option Nat:=match hi with
   | none=>match mx with
    | none=>some len
    | some _=>none
   | some v=>bO v m
  match h with
  | none=>none
  | some h=>jK lo h m
def tf (m:Nat):List (List D)→Bool
 | []=>true
 | e::_=>Nat.beq e.length m
def okSl (h:ac) (m:Nat):AV→Bool
 | .sl id _ _=>match get h id with
  | some (.arr k _)=>Nat.beq k m
  | some (.cells _)=>Nat.beq m 1
  | _=>false
 | _=>true
def j8 (m:Nat) (x:AV) (lo hi mx:Option AV):Option AV :=
 match lenOf x with
 | none=>none
 | some len=>match o8 len lo hi mx with
  | none=>none
  | some (l,h,_)=>match x with
   | .d (.lst xs)=>match tf m xs with
    | true=>some (.d (.lst (sub xs l (h-l))))
    | false=>none
   | .nl=>some .nl
   | .own false k xs=>match Nat.beq k m with
    | true=>match Nat.beq h len with
     | true=>some (.own false k (sub xs l (h-l)))
     | false=>some (.d (.lst (sub xs l (h-l))))
    | false=>none
   | .sl id off _=>some (.sl id (off+l) (h-l))
   | _=>none
def tz:AV→Bool
 | .agg _=>true
 | v=>cy v
def dl:List AV→List (Nat×Nat×AV)→Option (List AV)
 | cs,[]=>some cs
 | cs,(off,n,v)::r=>match Nat.beq v.cells.length n && tz v && Nat.ble (off+n) cs.length with
  | true=>dl (aj cs off v.cells) r
  | false=>none
def iY:List (Nat×Nat×Rd)→List AV→List (Nat×Nat×AV)
 | (a,b,_)::r,v::s=>(a,b,v)::iY r s
 | _,_=>[]
def gL:List (Nat×Nat×Rd)→List Rd
 | []=>[]
 | (_,_,x)::r=>x::gL r
def dh (m:Nat):List AV→Option (List (List D))
 | []=>some []
 | v::r=>match Nat.beq v.cells.length m with
  | true=>match ge v.cells with
   | some e=>match dh m r with
    | some es=>some (e::es)
    | none=>none
   | none=>none
  | false=>none
def cX (n:Nat):List (List D)→Bool
 | []=>true
 | e::r=>match Nat.beq e.length n with
  | true=>cX n r
  | false=>false
def iE:List (List D)→Option (List UInt8)
 | []=>some []
 | [.int .u8 (.ofNat n)]::r=>match iE r with
  | some s=>some (n.toUInt8::s)
  | none=>none
 | _=>none
def uO:List UInt8→Nat→Nat→Int
 | [],_,_=>-1
 | b::l,c,i=>match Nat.beq b.toNat c with
  | true=>.ofNat i
  | false=>uO l c (i+1)
def indexByte (c:Int) (xs:List (List D)) (i:Nat):Option Int :=
 match iE xs with
 | some s=>some (uO s (c.toNat % 256) i)
 | none=>none
structure br where
 code:VC→St→Option (aT×St)
 call:FuncId→List AV→HS→Option (AV×HS)
def Pt (v:AV):AV:=match gj v with
 | true=>gS v
 | false=>match lenOf v with
  | some n=>.gl n
  | none=>.junk
def AP:AV→AV
 | .agg cs=>.agg (cs.map Pt)
 | v=>Pt v
def xE:AV→AV
 | .tup vs=>.tup (vs.map AP)
 | v=>AP v
def aU (r:br) (f:FuncId) (args:List AV) (h:ac):Option AV :=
 match viewArgs h args with
 | none=>none
 | some ds=>match r.call f ds ⟨[],0⟩ with
  | none=>none
  | some (v,hs)=>match fC hs.heap v with
   | none=>none
   | some v=>match args.any kA with
    | false=>some v
    | true=>match eG v with
     | true=>some v
     | false=>some (xE v)
def lh:am→List Nat→List AV→Option am
 | e,[],[]=>some e
 | e,i::is,v::vs=>lh (put e i v) is vs
 | _,_,_=>none
def kb (r:br) (l:Nat) (args:List AV) (hs:HS):Option (AV×HS) :=
 match get hs.heap l with
 | some (.loop snap params assign body false none) =>
  match lh snap params args with
  | none=>none
  | some e=>match r.code assign ⟨e,hs⟩ with
   | some (.normal,st)=>match get st.hs.heap l with
    | some (.loop snap params assign body2 false none) =>
     match r.code body ⟨st.env,⟨put st.hs.heap l (.loop snap params assign body2 true none),st.hs.next⟩⟩ with
     | none=>none
     | some (o,st)=>match get st.hs.heap l with
      | some (.loop snap params assign body true none) =>
       match o with
       | .normal=>some (.bool true,⟨put st.hs.heap l (.loop snap params assign body false none),st.hs.next⟩)
       | o=>some (.bool false,⟨put st.hs.heap l (.loop snap params assign body false (some o)),st.hs.next⟩)
      | _=>none
    | _=>none
   | _=>none
 | _=>none
def aM (r:br) (f:AV) (args:List AV) (hs:HS):Option (AV×HS) :=
 match f with
 | .fn g first caps=>r.call g (first++(args++caps)) hs
 | .yield l=>kb r l args hs
 | _=>none
def vy (hs:HS) (o:Obj):Nat×HS:=(hs.next,⟨put hs.heap hs.next o,hs.next+1⟩)
def gK (hs:HS):AV→AV×HS
 | .own true m xs=>match Nat.beq m 0 with
  | true=>(.own true m xs,hs)
  | false=>(.sl hs.next 0 xs.length,⟨put hs.heap hs.next (.arr m xs),hs.next+1⟩)
 | v=>(v,hs)
def gy:AV→AV
 | .own _ m xs=>.own false m xs
 | v=>v
def sP:AV→AV
 | .agg cs=>.agg (cs.map gy)
 | v=>gy v
def firm (v:AV):AV:=AV.casesOn (motive_1:=fun _=>AV) v .junk (fun x=>.d x) .nl (fun _ m xs=>.own false m xs) (fun n=>.gl n) (fun cs=>.agg (cs.map gy)) (fun vs=>.tup (vs.map sP))
 .nilp (fun a b=>.ptr a b) (fun a b c=>.pel a b c) (fun a b=>.pim a b) (fun a b c=>.sl a b c) (fun a b c=>.fn a b c) .nilf (fun a=>.yield a)
def gh (hs:HS) (o:Nat):AV→AV×HS
 | .agg cs=>match cs[o]? with
  | some v=>(.agg (cs.set o (gK hs v).1),(gK hs v).2)
  | none=>(.agg cs,hs)
 | v=>gK hs v
def i7 (hs:HS) (p:Nat×Nat):AV→AV×HS
 | .tup vs=>match vs[p.1]? with
  | some v=>(.tup (vs.set p.1 (gh hs p.2 v).1),(gh hs p.2 v).2)
  | none=>(.tup vs,hs)
 | v=>gh hs p.2 v
def bv:List (Nat×Nat)→AV→HS→AV×HS
 | [],v,hs=>(v,hs)
 | p::r,v,hs=>bv r (i7 hs p v).1 (i7 hs p v).2
def zZ (h:ac):AV→AV×ac
 | .sl id off len=>match get h id with
  | some (.arr m xs)=>match Nat.ble (off+len) xs.length with
   | true=>(.own false m (sub xs off len),del h id)
   | false=>(.sl id off len,h)
  | _=>(.sl id off len,h)
 | v=>(v,h)
def lm:List Nat→List AV→ac→List AV×ac
 | [],cs,h=>(cs,h)
 | o::r,cs,h=>match cs[o]? with
  | some v=>lm r (cs.set o (zZ h v).1) (zZ h v).2
  | none=>lm r cs h
def bK (m:Nat) (h:ac) (a:AV) (ys:List (List D)):Option (AV×ac) :=
 match Nat.ble ys.length aD with
 | false=>none
 | true=>match a with
  | .nl=>some ((match ys with | []=>.nl | ys=>.own true m ys),h)
  | .own _ k xs=>match Nat.beq k m && Nat.ble (xs.length+ys.length) aD with
   | true=>some (.own false m (xs++ys),h)
   | false=>none
  | .sl id off len=>match get h id with
   | some (.arr k xs)=>match Nat.beq k m && Nat.ble (off+len) xs.length && Nat.ble (len+ys.length) aD with
    | true=>some (.own true m (sub xs off len++ys),del h id)
    | false=>none
   | _=>none
  | _=>none
def ej:AV→Option Nat
 | .d (.int _ (.ofNat n))=>some n
 | _=>none
def Ga (x:Rd) (st:St):Option (AV×St) :=
 match rd st.env x with
 | some (v,e)=>some (v,⟨e,st.hs⟩)
 | none=>none
def eH (c:Rd) (a:Rd) (b:Rd) (st:St):Option (AV×St) :=
 match rd st.env c with
 | some (.d (.bool t),e)=>match rd e (match t with | true=>a | false=>b) with
  | some (v,e)=>some (v,⟨e,st.hs⟩)
  | none=>none
 | _=>none
def qW (zs:List AV) (st:St):Option (AV×St) :=
 some (.ptr st.hs.next 0,⟨st.env,(vy st.hs (.cells zs)).2⟩)
def F7 (x:Rd) (st:St):Option (AV×St) :=
 match rd st.env x with
 | some (v,e)=>match v.cells.all cy with
  | true=>some (.ptr st.hs.next 0,⟨e,(vy st.hs (.cells v.cells)).2⟩)
  | false=>none
 | none=>none
def sD (zs:List AV) (ps:List (Nat×Nat×Rd)) (st:St):Option (AV×St) :=
 match rdAll st.env (gL ps) with
 | some (vs,e)=>match dl zs (iY ps vs) with
  | some cs=>some (.agg cs,⟨e,st.hs⟩)
  | none=>none
 | none=>none
def Bu (m:Nat) (ps:List Rd) (st:St):Option (AV×St) :=
 match rdAll st.env ps with
 | some (vs,e)=>match dh m vs with
  | some xs=>some (.own true m xs,⟨e,st.hs⟩)
  | none=>none
 | none=>none
def Pc (m:Nat) (ps:List Rd) (st:St):Option (AV×St) :=
 match rdAll st.env ps with
 | some (vs,e)=>match vs.all (fun v=>Nat.beq v.cells.length m && v.cells.all cy) with
  | true=>some (.sl st.hs.next 0 vs.length,⟨e,(vy st.hs (.cells (vs.flatMap AV.cells))).2⟩)
  | false=>none
 | none=>none
def rS (n:Option Nat) (take:Nat) (p:Rd) (st:St):Option (AV×St) :=
 match rd st.env p with
 | some (v,e)=>match loadAt st.hs.heap n take v with
  | some (v,h)=>some (v,⟨e,⟨h,st.hs.next⟩⟩)
  | none=>none
 | none=>none
def abo (n:Nat) (p:Rd) (x:Rd) (st:St):Option (AV×St) :=
 match rd st.env p with
 | some (p,e)=>match rd e x with
  | some (v,e)=>match storeAt st.hs.heap n p v with
   | some h=>some (.junk,⟨e,⟨h,st.hs.next⟩⟩)
   | none=>none
  | none=>none
 | none=>none
def ve (x:Rd) (st:St):Option (AV×St) :=
 match rd st.env x with
 | some (v,e)=>match v with
  | .ptr .. | .pel .. | .pim .. | .fn .. | .yield ..=>some (v,⟨e,st.hs⟩)
  | _=>none
 | none=>none
def BS (op:BinOp) (x:Rd) (y:Rd) (st:St):Option (AV×St) :=
 match rd st.env x with
 | some (a,e)=>match rd e y with
  | some (b,e)=>match aiQ op a b with
   | some v=>some (v,⟨e,st.hs⟩)
   | none=>none
  | none=>none
 | none=>none
def zL (neg:Bool) (x y:Rd) (st:St):Option (AV×St) :=
 match rd st.env x with
 | some (a,e)=>match rd e y with
  | some (b,e)=>match a,b with
   | .d (.bool a),.d (.bool b)=>some (.bool (match neg with | true=>!(a == b) | false=>a == b),⟨e,st.hs⟩)
   | _,_=>none
  | none=>none
 | none=>none
def Ad (neg:Bool) (ks:List Bool) (x y:Rd) (st:St):Option (AV×St) :=
 match rd st.env x with
 | some (a,e)=>match rd e y with
  | some (b,e)=>match a,b with
   | .agg a,.agg b=>match an ks a b with
    | some t=>some (.bool (match neg with | true=>!t | false=>t),⟨e,st.hs⟩)
    | none=>none
   | _,_=>none
  | none=>none
 | none=>none
def PY (op:UnOp) (x:Rd) (st:St):Option (AV×St) :=
 match rd st.env x with
 | some (a,e)=>match En op a with
  | some v=>some (v,⟨e,st.hs⟩)
  | none=>none
 | none=>none
def wF (k:IntKind) (x:Rd) (st:St):Option (AV×St) :=
 match rd st.env x with
 | some (.d (.int _ n),e)=>some (.int k (wr k n),⟨e,st.hs⟩)
 | _=>none
def zn (x:Rd) (st:St):Option (AV×St) :=
 match rd st.env x with
 | some (v,e)=>match elems st.hs.heap v with
  | some xs=>match iE xs with
   | some s=>some (.d (.str s),⟨e,st.hs⟩)
   | none=>none
  | none=>none
 | none=>none
def wJ (f:FuncId) (first:List Rd) (caps:List Rd) (st:St):Option (AV×St) :=
 match rdAll st.env first with
 | some (a,e)=>match rdAll e caps with
  | some (c,e)=>some (.fn f (aB a) (aB c),⟨e,st.hs⟩)
  | none=>none
 | none=>none
def fB (z:List D) (len:Rd) (cap:Rd) (st:St):Option (AV×St) :=
 match rd st.env len with
 | some (n,e)=>match rd e cap with
  | some (c,e)=>match bO c aD with
   | some c=>match bO n c with
    | some n=>some (.own true z.length (List.replicate n z),⟨e,st.hs⟩)
    | none=>none
   | none=>none
  | none=>none
 | none=>none
def Aa (m:Nat) (x:Rd) (lo:Option Rd) (hi:Option Rd) (mx:Option Rd) (st:St):Option (AV×St) :=
 match rd st.env x with
 | some (v,e)=>match rdOpt e lo with
  | some (l,e)=>match rdOpt e hi with
   | some (h,e)=>match rdOpt e mx with
    | some (k,e)=>match okSl st.hs.heap m v with
     | true=>match j8 m v l h k with
      | some v=>some (v,⟨e,st.hs⟩)
      | none=>none
     | false=>none
    | none=>none
   | none=>none
  | none=>none
 | none=>none
def Av (hp:ac) (n id off:Nat) (lo hi mx:Option AV):Option AV :=
 match get hp id with
 | some (.cells cs)=>match Nat.ble (off+n) cs.length with
  | true=>match o8 n lo hi mx with
   | some (l,h,_)=>some (.sl id (off+l) (h-l))
   | none=>none
  | false=>none
 | _=>none
def FO (n:Nat) (x:Rd) (lo:Option Rd) (hi:Option Rd) (mx:Option Rd) (st:St):Option (AV×St) :=
 match rd st.env x with
 | some (.ptr id off,e)=>match rdOpt e lo with
  | some (l,e)=>match rdOpt e hi with
   | some (h,e)=>match rdOpt e mx with
    | some (k,e)=>match Av st.hs.heap n id off l h k with
     | some v=>some (v,⟨e,st.hs⟩)
     | none=>none
    | none=>none
   | none=>none
  | none=>none
 | _=>none
def QM (off:Nat) (p:Rd) (st:St):Option (AV×St) :=
 match rd st.env p with
 | some (p,e)=>match bM off p with
  | some v=>some (v,⟨e,st.hs⟩)
  | none=>none
 | none=>none
def jj (n:Option Nat) (cs:List AV) (off:Nat):Option AV :=
 match n with
 | none=>cs[off]?
 | some n=>match Nat.ble (off+n) cs.length with
  | true=>some (.agg (sub cs off n))
  | false=>none
def EQ (agg:Bool) (n:Nat):Option Nat :=
 match agg with
 | true=>some n
 | false=>none
def Br (off:Nat) (n:Option Nat) (x:Rd) (st:St):Option (AV×St) :=
 match rd st.env x with
 | some (.agg cs,e)=>match jj n cs off with
  | some v=>some (v,⟨e,st.hs⟩)
  | none=>none
 | _=>none
def V6 (n:Nat) (x:Rd) (i:Rd) (st:St):Option (AV×St) :=
 match rd st.env x with
 | some (v,e)=>match rd e i with
  | some (i,e)=>match ej i with
   | some i=>match v with
    | .sl id off len=>match Nat.ble len i with
     | true=>none
     | false=>match get st.hs.heap id with
      | some (.arr m _)=>match Nat.beq m n with
       | true=>some (.pel id (off+i) 0,⟨e,st.hs⟩)
       | false=>none
      | some (.cells _)=>match Nat.beq n 1 with
       | true=>some (.ptr id (off+i),⟨e,st.hs⟩)
       | false=>none
      | _=>none
    | v=>match elems st.hs.heap v with
     | some xs=>match xs[i]? with
      | some x=>match Nat.beq x.length n with
       | true=>some (.pim x 0,⟨e,st.hs⟩)
       | false=>none
      | none=>none
     | none=>none
   | none=>none
  | none=>none
 | none=>none
def Ah (len:Nat) (n:Nat) (p:Rd) (i:Rd) (st:St):Option (AV×St) :=
 match rd st.env p with
 | some (p,e)=>match rd e i with
  | some (i,e)=>match ej i with
   | some i=>match Nat.ble len i with
    | true=>none
    | false=>match bM (i*n) p with
     | some v=>some (v,⟨e,st.hs⟩)
     | none=>none
   | none=>none
  | none=>none
 | none=>none
def IM (len:Nat) (n:Nat) (agg:Bool) (x:Rd) (i:Rd) (st:St):Option (AV×St) :=
 match rd st.env x with
 | some (.agg cs,e)=>match rd e i with
  | some (i,e)=>match ej i with
   | some i=>match Nat.ble len i with
    | true=>none
    | false=>match jj (EQ agg n) cs (i*n) with
     | some v=>some (v,⟨e,st.hs⟩)
     | none=>none
   | none=>none
  | none=>none
 | _=>none
def Cg (x:Rd) (i:Rd) (st:St):Option (AV×St) :=
 match rd st.env x with
 | some (.d (.str s),e)=>match rd e i with
  | some (i,e)=>match ej i with
   | some i=>match s[i]? with
    | some b=>some (.int .u8 (.ofNat b.toNat),⟨e,st.hs⟩)
    | none=>none
   | none=>none
  | none=>none
 | _=>none
def aai (h:ac) (v c:AV):Option AV :=
 match c with
 | .d (.int .u8 n)=>match elems h v with
  | some xs=>match indexByte n xs 0 with
   | some r=>some (.int .i64 r)
   | none=>none
  | none=>none
 | _=>none
def WY (x:Rd) (c:Rd) (st:St):Option (AV×St) :=
 match rd st.env x with
 | some (v,e)=>match rd e c with
  | some (c,e)=>match aai st.hs.heap v c with
   | some r=>some (r,⟨e,st.hs⟩)
   | none=>none
  | none=>none
 | none=>none
def oW (j:Nat) (mv:Bool) (i:Nat) (st:St):Option (AV×St) :=
 match get st.env j with
 | some (.tup vs)=>match vs[i]? with
  | some v=>match mv with
   | true=>some (v,⟨put st.env j (.tup (vs.set i .junk)),st.hs⟩)
   | false=>some (share v,st)
  | none=>none
 | _=>none
def FB (x:Rd) (st:St):Option (AV×St) :=
 match rd st.env x with
 | some (v,e)=>match lenOf v with
  | some n=>some (.int .i64 (.ofNat n),⟨e,st.hs⟩)
  | none=>none
 | none=>none
def AD (x:Rd) (st:St):Option (AV×St) :=
 match rd st.env x with
 | some (.nl,e)=>some (.int .i64 (.ofNat 0),⟨e,st.hs⟩)
 | _=>none
def uC (m:Nat) (x:Rd) (y:Rd) (st:St):Option (AV×St) :=
 match rd st.env x with
 | some (a,e)=>match rd e y with
  | some (b,e)=>match elems st.hs.heap b with
   | some ys=>match cX m ys with
    | true=>match bK m st.hs.heap a ys with
     | some (v,h)=>some (v,⟨e,⟨h,st.hs.next⟩⟩)
     | none=>none
    | false=>none
   | none=>none
  | none=>none
 | none=>none
def WM (z:List D) (x:Rd) (n:Rd) (st:St):Option (AV×St) :=
 match rd st.env x with
 | some (a,e)=>match rd e n with
  | some (n,e)=>match bO n aD with
   | some n=>match bK z.length st.hs.heap a (List.replicate n z) with
    | some (v,h)=>some (v,⟨e,⟨h,st.hs.next⟩⟩)
    | none=>none
   | none=>none
  | none=>none
 | none=>none
def Pj (m:Nat) (x:Rd) (y:Rd) (st:St):Option (AV×St) :=
 match rd st.env x with
 | some (a,e)=>match rd e y with
  | some (b,e)=>match elems st.hs.heap b with
   | some ys=>match a with
    | .sl id off len=>match get st.hs.heap id with
     | some (.arr k xs)=>match cX m ys && Nat.beq k m && Nat.ble (off+len) xs.length with
      | true=>some (.int .i64 (.ofNat (min len ys.length)),⟨e,⟨put st.hs.heap id (.arr k (aj xs off (ys.take len))),st.hs.next⟩⟩)
      | false=>none
     | _=>none
    | _=>match lenOf a with
     | some 0=>some (.int .i64 (.ofNat 0),⟨e,st.hs⟩)
     | _=>none
   | none=>none
  | none=>none
 | none=>none
def FL (z:List D) (x:Rd) (st:St):Option (AV×St) :=
 match rd st.env x with
 | some (.sl id off len,e)=>match get st.hs.heap id with
  | some (.arr k xs)=>match Nat.beq k z.length && Nat.ble (off+len) xs.length with
   | true=>some (.tup [],⟨e,⟨put st.hs.heap id (.arr k (aj xs off (List.replicate len z))),st.hs.next⟩⟩)
   | false=>none
  | _=>none
 | _=>none
def nk (isMax:Bool) (xs:List Rd) (st:St):Option (AV×St) :=
 match rdAll st.env xs with
 | some (.d (.int k n)::vs,e)=>match mF isMax (.d (.int k n)) vs with
  | some v=>some (v,⟨e,st.hs⟩)
  | none=>none
 | _=>none
def ti (r:br) (f:FuncId) (args:List Rd) (st:St):Option (AV×St) :=
 match rdAll st.env args with
 | some (vs,e)=>match aU r f vs st.hs.heap with
  | some v=>some (v,⟨e,st.hs⟩)
  | none=>none
 | none=>none
def sk (r:br) (f:FuncId) (args:List Rd) (st:St):Option (AV×St) :=
 match rdAll st.env args with
 | some (vs,e)=>match r.call f vs st.hs with
  | some (v,hs)=>some (v,⟨e,hs⟩)
  | none=>none
 | none=>none
def sv (r:br) (f:Rd) (args:List Rd) (st:St):Option (AV×St) :=
 match rd st.env f with
 | some (fv,e)=>match rdAll e args with
  | some (vs,e)=>match aM r fv vs st.hs with
   | some (v,hs)=>some (v,⟨e,hs⟩)
   | none=>none
  | none=>none
 | none=>none
def aaL (st:St):Option (AV×St) :=
 none
def Xx (is:List Nat) (st:St):Option (AV×St) :=
 some (.tup [],⟨is.foldl del st.env,st.hs⟩)
def delAll:ac→List Nat→ac
 | h,[]=>h
 | h,i::r=>delAll (del h i) r
def wP:List AV→List Nat
 | []=>[]
 | .ptr id _::r=>id::wP r
 | _::r=>wP r
def Nb (i:Nat) (st:St):Option (AV×St) :=
 match get st.env i with
 | some (.ptr id _)=>some (.tup [],⟨del st.env i,⟨del st.hs.heap id,st.hs.next⟩⟩)
 | some (.fn _ _ caps)=>some (.tup [],⟨del st.env i,⟨delAll st.hs.heap (wP caps),st.hs.next⟩⟩)
 | _=>some (.tup [],st)
def aeD (i:Nat) (m:Nat) (st:St):Option (AV×St) :=
 match get st.env i with
 | some .nl=>some (.tup [],⟨put st.env i (.own false m []),st.hs⟩)
 | _=>some (.tup [],st)
def aak (i:Nat) (st:St):Option (AV×St) :=
 match get st.env i with
 | some v=>some (.tup [],⟨put st.env i (zZ st.hs.heap v).1,⟨(zZ st.hs.heap v).2,st.hs.next⟩⟩)
 | none=>none
def XL (i:Nat) (bj:List Nat) (st:St):Option (AV×St) :=
 match get st.env i with
 | some (.agg cs)=>some (.tup [],⟨put st.env i (.agg (lm bj cs st.hs.heap).1),⟨(lm bj cs st.hs.heap).2,st.hs.next⟩⟩)
 | _=>none
def aY (o:iu):br→St→Option (AV×St) :=
 iu.casesOn (motive:=fun _=>br→St→Option (AV×St)) o
  (fun x=>fun _ st=>Ga x st)
  (fun c a b=>fun _ st=>eH c a b st)
  (fun zs=>fun _ st=>qW zs st)
  (fun x=>fun _ st=>F7 x st)
  (fun zs ps=>fun _ st=>sD zs ps st)
  (fun m ps=>fun _ st=>Bu m ps st)
  (fun m ps=>fun _ st=>Pc m ps st)
  (fun n take p=>fun _ st=>rS n take p st)
  (fun n p x=>fun _ st=>abo n p x st)
  (fun x=>fun _ st=>ve x st)
  (fun op x y=>fun _ st=>BS op x y st)
  (fun neg x y=>fun _ st=>zL neg x y st)
  (fun neg ks x y=>fun _ st=>Ad neg ks x y st)
  (fun op x=>fun _ st=>PY op x st)
  (fun k x=>fun _ st=>wF k x st)
  (fun x=>fun _ st=>zn x st)
  (fun f first caps=>fun _ st=>wJ f first caps st)
  (fun z len cap=>fun _ st=>fB z len cap st)
  (fun m x lo hi mx=>fun _ st=>Aa m x lo hi mx st)
  (fun n x lo hi mx=>fun _ st=>FO n x lo hi mx st)
  (fun off p=>fun _ st=>QM off p st)
  (fun off n x=>fun _ st=>Br off n x st)
  (fun n x i=>fun _ st=>V6 n x i st)
  (fun len n p i=>fun _ st=>Ah len n p i st)
  (fun len n agg x i=>fun _ st=>IM len n agg x i st)
  (fun x i=>fun _ st=>Cg x i st)
  (fun x c=>fun _ st=>WY x c st)
  (fun j mv i=>fun _ st=>oW j mv i st)
  (fun x=>fun _ st=>FB x st)
  (fun x=>fun _ st=>AD x st)
  (fun m x y=>fun _ st=>uC m x y st)
  (fun z x n=>fun _ st=>WM z x n st)
  (fun m x y=>fun _ st=>Pj m x y st)
  (fun z x=>fun _ st=>FL z x st)
  (fun isMax xs=>fun _ st=>nk isMax xs st)
  (fun f args=>fun r st=>ti r f args st)
  (fun f args=>fun r st=>sk r f args st)
  (fun f args=>fun r st=>sv r f args st)
  (fun _ st=>aaL st)
  (fun is=>fun _ st=>Xx is st)
  (fun i=>fun _ st=>Nb i st)
  (fun i m=>fun _ st=>aeD i m st)
  (fun i=>fun _ st=>aak i st)
  (fun i bj=>fun _ st=>XL i bj st)
def aI (dst:Option Nat) (v:AV) (st:St):St :=
 match dst with
 | some d=>⟨put st.env d v,st.hs⟩
 | none=>st
def cR (r:br) (i:VI) (st:St):Option St :=
 match aY i.op r st with
 | some (v,st)=>match i.th with
  | []=>some (aI i.dst (firm v) st)
  | th=>some (aI i.dst (firm (bv th v st.hs).1) ⟨st.env,(bv th v st.hs).2⟩)
 | none=>none
def aS (r:br) (i:VI) (st:St):Option St :=
 match i.guard with
 | none=>cR r i st
 | some (s,want)=>match get st.env s with
  | some (.d (.bool b))=>match b == want with
   | true=>cR r i st
   | false=>some (aI i.dst (.tup []) st)
  | some (.tup [])=>some (aI i.dst (.tup []) st)
  | _=>none
def eM (r:br):List VI→St→Option St
 | [],st=>some st
 | i::l,st=>match aS r i st with
  | some st=>eM r l st
  | none=>none
def ki (r:br) (vs:List VI):List Nat→St→Option St
 | [],st=>some st
 | i::l,st=>match vs[i]? with
  | none=>none
  | some v=>match aS r v st with
   | none=>none
   | some st=>ki r vs l st
def bJ (k:Nat):List Nat→Bool
 | []=>false
 | a::r=>match Nat.beq a k with
  | true=>true
  | false=>bJ k r
mutual
def qe:AV→List Nat
 | .ptr id _=>[id]
 | .pel id _ _=>[id]
 | .sl id _ _=>[id]
 | .fn _ first caps=>Aq first++Aq caps
 | .agg cs=>Aq cs
 | .tup vs=>Aq vs
 | _=>[]
def Aq:List AV→List Nat
 | []=>[]
 | v::r=>qe v++Aq r
end
def FN (e:am):List Nat→List Nat
 | []=>[]
 | s::r=>match get e s with
  | some v=>qe v++FN e r
  | none=>FN e r
def eh:List Nat→ac→ac
 | [],_=>[]
 | i::r,h=>match get h i with
  | some o=>put (eh r h) i o
  | none=>eh r h
mutual
def CA:D→D→Bool
 | .int k n,.int j m=>gX k j && decide (n=m)
 | .bool a,.bool b=>a == b
 | .str s,.str t=>s == t
 | .lst xs,.lst ys=>uB xs ys
 | _,_=>false
def Eq:List D→List D→Bool
 | [],[]=>true
 | a::r,b::s=>CA a b && Eq r s
 | _,_=>false
def uB:List (List D)→List (List D)→Bool
 | [],[]=>true
 | a::r,b::s=>Eq a b && uB r s
 | _,_=>false
end
mutual
def dF:AV→AV→Bool
 | .junk,.junk=>true
 | .d x,.d y=>CA x y
 | .nl,.nl=>true
 | .own p m xs,.own q n ys=>p == q && Nat.beq m n && uB xs ys
 | .gl n,.gl m=>Nat.beq n m
 | .agg a,.agg b=>mY a b
 | .tup a,.tup b=>mY a b
 | .nilp,.nilp=>true
 | .ptr a b,.ptr c d=>Nat.beq a c && Nat.beq b d
 | .pel a b c,.pel d e f=>Nat.beq a d && Nat.beq b e && Nat.beq c f
 | .pim a b,.pim c d=>Eq a c && Nat.beq b d
 | .sl a b c,.sl d e f=>Nat.beq a d && Nat.beq b e && Nat.beq c f
 | .fn f a c,.fn g b d=>Nat.beq f g && mY a b && mY c d
 | .nilf,.nilf=>true
 | .yield a,.yield b=>Nat.beq a b
 | _,_=>false
def mY:List AV→List AV→Bool
 | [],[]=>true
 | a::r,b::s=>dF a b && mY r s
 | _,_=>false
end
def Wp:Obj→Obj→Bool
 | .cells a,.cells b=>mY a b
 | .arr m xs,.arr n ys=>Nat.beq m n && uB xs ys
 | _,_=>false
def iQ:List Nat→ac→ac→Bool
 | [],_,_=>true
 | i::r,h,h'=>(match get h i with
  | some o=>(match get h' i with | some o'=>Wp o o' | none=>false)
  | none=>true) && iQ r h h'
inductive NK where
 | call | take | read
def iZ:iu→NK
 | .calli .. | .callv .. | .st ..=>.call
 | .ld none 2 _=>.take
 | _=>.read
def xP:AV→Bool
 | .own false _ _=>true
 | .nl=>true
 | _=>false
def akK:Rd→List Nat
 | .s i=>[i]
 | .m i=>[i]
 | .c _=>[]
def D4:List Rd→List Nat
 | []=>[]
 | x::r=>akK x++D4 r
def FV:iu→List Rd
 | .ld _ _ p=>[p]
 | .ia _ x _=>[x]
 | .slice _ x _ _ _=>[x]
 | .toStr x=>[x]
 | .call _ args=>args
 | _=>[]
def fR (v:VI) (e:am):List Nat:=FN e (D4 (FV v.op))
def kM (r:br) (F:List Nat) (v:VI) (st:St):Option St :=
 match iZ v.op with
 | .call=>match aS r v st with
  | some ae=>match iQ F st.hs.heap ae.hs.heap with
   | true=>some ae
   | false=>none
  | none=>none
 | .take=>match aS r v st with
  | some ae=>match v.dst with
   | some d=>match get ae.env d with
    | some a=>match xP a with
     | true=>some ae
     | false=>none
    | none=>none
   | none=>none
  | none=>none
 | .read=>match aS r v ⟨st.env,⟨eh (fR v st.env) st.hs.heap,st.hs.next⟩⟩ with
  | some ae=>some ⟨ae.env,st.hs⟩
  | none=>none
def aF (r:br) (a:Bool) (F:List Nat) (v:VI) (st:St):Option St :=
 match a with
 | false=>aS r v st
 | true=>kM r F v st
def eq (a:Bool) (v:VI) (e:am) (F:List Nat):List Nat :=
 match a with
 | false=>F
 | true=>match iZ v.op with
  | .read=>fR v e++F
  | _=>F
def ct (r:br) (nr:List Nat) (vs:List VI):List Nat→List Nat→St→Option St
 | [],_,st=>some st
 | i::l,F,st=>match vs[i]? with
  | none=>none
  | some v=>match aF r (bJ i nr) F v st with
   | none=>none
   | some ae=>ct r nr vs l (eq (bJ i nr) v st.env F) ae
def ja:VC→Nat→Option VC
 | .seq a b,l=>match ja a l with
  | some c=>some (.seq c b)
  | none=>ja b l
 | .label k,l=>match Nat.beq k l with
  | true=>some .skip
  | false=>none
 | _,_=>none
def F3 (r:br) (ops:List VI) (st:St):Option (aT×St) :=
 match eM r ops st with
 | some st=>some (.normal,st)
 | none=>none
def mM:Rd→Bool
 | .m _=>false
 | _=>true
def dg (v:VI):Option Nat :=
 match v.op,v.guard,v.th with
 | .alloc _,none,[]=>v.dst
 | .mkslice _ l c,none,_=>match mM l && mM c with
  | true=>v.dst
  | false=>none
 | _,_,_=>none
def ke (e:am):List VI→Bool
 | []=>true
 | v::r=>(match dg v with
  | some d=>(match get e d with
   | none=>true
   | some _=>false)
  | none=>true) && ke e r
def FJ:Nat→List Nat→List VI→Bool
 | _,[],[]=>true
 | i,p::r,_::vs=>match Nat.beq p i with
  | true=>FJ (i+1) r vs
  | false=>false
 | _,_,_=>false
def aeb (r:br) (nr:List Nat) (ops:List VI) (perm:List Nat) (st:St):Option St :=
 match nr with
 | []=>match FJ 0 perm ops with
  | true=>eM r ops st
  | false=>ct r [] ops perm [] st
 | a::n=>ct r (a::n) ops perm [] st
theorem XR {r:br}{vs:List VI}:∀ (perm:List Nat) (l:List VI) (i:Nat) (F:List Nat) (st:St),vs.drop i=l→FJ i perm l=true→ct r [] vs perm F st=eM r l st
 | [],[],_,_,_,_,_=>rfl
 | [],_::_,_,_,_,_,h=>by simp[FJ]at h
 | _::_,[],_,_,_,_,h=>by simp[FJ]at h
 | p::perm,v::l,i,F,st,hd,h=>by
  simp only[FJ]at h
  split at h
  ·rename_i hp
   rw[Nat.beq_eq]at hp
   subst hp
   have hv:vs[p]?=some v:=by
    have:=congrArg (fun l=>l[0]?) hd
    simpa using this
   have hd':vs.drop (p+1)=l:=by
    have:=congrArg (fun l=>l.drop 1) hd
    simpa [List.drop_drop] using this
   simp only[ct,hv,aF,bJ,eM]
   cases aS r v st with
   | none=>rfl
   | some ae=>exact XR perm l (p+1) _ ae hd' h
  ·simp at h
theorem zY {r:br}{nr:List Nat}{ops:List VI}{perm:List Nat}{st:St}:aeb r nr ops perm st=ct r nr ops perm [] st:=by
 unfold aeb
 split
 ·split
  ·rename_i h
   exact(XR perm ops 0 [] st rfl h).symm
  ·rfl
 ·rfl
def zB (r:br) (perm:List Nat) (nr:List Nat) (ops:List VI) (st:St):Option (aT×St) :=
 match ke st.env ops with
 | true=>(match aeb r nr ops perm st with
  | some st=>some (.normal,st)
  | none=>none)
 | false=>none
def AZ (r:br) (a:VC) (b:VC) (st:St):Option (aT×St) :=
 match r.code a st with
 | some (.normal,st)=>r.code b st
 | x=>x
def zh (r:br) (c:Rd) (a:VC) (b:VC) (st:St):Option (aT×St) :=
 match rd st.env c with
 | some (.d (.bool true),e)=>r.code a ⟨e,st.hs⟩
 | some (.d (.bool false),e)=>r.code b ⟨e,st.hs⟩
 | _=>none
def zS (r:br) (id:Nat) (a:VC) (st:St):Option (aT×St) :=
 match r.code a st with
 | some (.exit j,st)=>match Nat.beq j id with
  | true=>some (.normal,st)
  | false=>some (.exit j,st)
 | x=>x
def Ek (r:br) (a:VC) (st:St):Option (aT×St) :=
 match r.code a st with
 | some (.normal,st)=>r.code (.loop a) st
 | x=>x
def rB (r:br) (f:Rd) (params:List Nat) (assign:VC) (body:VC) (st:St):Option (aT×St) :=
 match rd st.env f with
 | some (.fn g first caps,e) =>
  match r.call g (first++([.yield st.hs.next]++caps)) ⟨put st.hs.heap st.hs.next (.loop (e.map fun kv=>(kv.1,share kv.2)) params assign body false none),st.hs.next+1⟩ with
  | some (_,hs)=>match get hs.heap st.hs.next with
   | some (.loop _ _ _ _ false pend)=>match pend with
    | none=>some (.normal,⟨e,⟨del hs.heap st.hs.next,hs.next⟩⟩)
    | some o=>some (o,⟨e,⟨del hs.heap st.hs.next,hs.next⟩⟩)
   | _=>none
  | none=>none
 | _=>none
def Z1 (r:br) (a:VC) (st:St):Option (aT×St) :=
 r.code (.inScope a a) st
def xH (r:br) (a:VC) (cur:VC) (st:St):Option (aT×St) :=
 match r.code cur st with
 | some (.goto l,st)=>match ja a l with
  | some rest=>r.code (.inScope a rest) st
  | none=>some (.goto l,st)
 | x=>x
def FC (m:Nat) (st:St):Option (aT×St) :=
 match get st.env 0 with
 | some v=>match elems st.hs.heap v with
  | some xs=>match cX m xs && Nat.ble xs.length aD with
   | true=>some (.ret,⟨[(2,.own true m xs)],st.hs⟩)
   | false=>none
  | none=>none
 | none=>none
def Dd (r:br) (i d f:Nat) (a:VC) (st:St):Option (aT×St) :=
 match get st.env i with
 | some (.ptr id off)=>match r.code a ⟨put st.env d (.ptr id off),st.hs⟩ with
  | some (.normal,ae)=>match r.call f [.ptr id off] ae.hs with
   | some (_,hs)=>some (.ret,⟨ae.env,hs⟩)
   | none=>none
  | some (.ret,ae)=>match r.call f [.ptr id off] ae.hs with
   | some (_,hs)=>some (.ret,⟨ae.env,hs⟩)
   | none=>none
  | _=>none
 | _=>none
def aR (c:VC):br→St→Option (aT×St) :=
 VC.casesOn (motive:=fun _=>br→St→Option (aT×St)) c
  (fun _ st=>some (.normal,st))
  (fun _ ops=>fun r st=>F3 r ops st)
  (fun perm _ nr ops=>fun r st=>zB r perm nr ops st)
  (fun a b=>fun r st=>AZ r a b st)
  (fun c a b=>fun r st=>zh r c a b st)
  (fun id a=>fun r st=>zS r id a st)
  (fun a=>fun r st=>Ek r a st)
  (fun f params assign body=>fun r st=>rB r f params assign body st)
  (fun id=>fun _ st=>some (.exit id,st))
  (fun a=>fun r st=>Z1 r a st)
  (fun a cur=>fun r st=>xH r a cur st)
  (fun _=>fun _ st=>some (.normal,st))
  (fun l=>fun _ st=>some (.goto l,st))
  (fun _ st=>some (.ret,st))
  (fun m=>fun _ st=>FC m st)
  (fun i d f a=>fun r st=>Dd r i d f a st)
def co (st:St):List kj→Option (List AV×St)
 | []=>some ([],st)
 | .tmp t::r=>match get st.env t with
  | some v=>match co ⟨del st.env t,st.hs⟩ r with
   | some (vs,st)=>some (v::vs,st)
   | none=>none
  | none=>none
 | .cell t n::r=>match get st.env t with
  | some (.ptr id 0)=>match loadAt st.hs.heap n 1 (.ptr id 0) with
   | some (v,h)=>match co ⟨del st.env t,⟨del h id,st.hs.next⟩⟩ r with
    | some (vs,st)=>some (v::vs,st)
    | none=>none
   | none=>none
  | _=>none
def dK:Nat→List AV→am
 | _,[]=>[]
 | i,v::r=>put (dK (i+1) r) i v
def uk (fn:af) (st:St):Option (AV×HS) :=
 match co st fn.results with
 | some ([v],st)=>some (v,st.hs)
 | some (vs,st)=>some (.tup vs,st.hs)
 | none=>none
def kt (P:Nat→Option af) (r:br) (f:FuncId) (args:List AV) (hs:HS):Option (AV×HS) :=
 match P f with
 | none=>none
 | some fn=>match Nat.beq args.length fn.nparams with
  | false=>none
  | true=>match aR fn.body r ⟨dK 0 args,hs⟩ with
   | some (.normal,st)=>uk fn st
   | some (.ret,st)=>uk fn st
   | _=>none
def run (P:Nat→Option af):Nat→br
 | 0=>⟨fun _ _=>none,fun _ _ _=>none⟩
 | n+1=>⟨fun c st=>aR c (run P n) st,fun f a h=>kt P (run P n) f a h⟩
inductive T where
 | leaf
 | node (k:Nat) (v:af) (a b:T)
def T.look:T→Nat→Option af
 | .leaf,_=>none
 | .node k v a b,i=>match Nat.beq k i with
  | true=>some v
  | false=>match Nat.ble i k with
   | true=>a.look i
   | false=>b.look i
end Go.Vm
namespace Go.Vm
structure Gh where
 obj:Nat→Option Nat
 base:Nat→Nat
 esz:Nat→Nat
 bsz:Nat→Nat
 pm:Nat→Nat→Prop
inductive RD (w:World) (pm:Nat→Nat→Prop):D→Value→Prop
 | int (k:IntKind) (n:Int):RD w pm (.int k n) (.int k n)
 | bool (b:Bool):RD w pm (.bool b) (.bool b)
 | str (s:List UInt8):RD w pm (.str s) (.string ⟨s.toArray⟩)
 | nil (a:Option Addr) (cap:Nat):RD w pm (.lst []) (.slice a 0 cap)
 | lst (xs:List (List D)) (b off m cap:Nat) (u:Nat→Value) (hm:0<m) (hcap:xs.length≤cap) (hl:∀ e∈xs,e.length=m)
   (hc:∀ j c,xs.flatten[j]?=some c→w.cell? ⟨b,off+j,none⟩=some (u j)∧pm b (off+j))
   (hr:∀ j c,xs.flatten[j]?=some c→RD w pm c (u j)):RD w pm (.lst xs) (.slice (some ⟨b,off,none⟩) xs.length cap)
def eS (w:World) (pm:Nat→Nat→Prop) (cs:List D) (b off:Nat):Prop :=
 ∀ j c,cs[j]?=some c→∃ u,w.cell? ⟨b,off+j,none⟩=some u∧RD w pm c u
def one (b:Nat):Nat→Nat:=fun x=>if x=b then 1 else 0
@[simp] theorem lB (b:Nat):one b b=1:=by simp[one]
theorem lc {b x:Nat}(h:one b x≠0):x=b:=by unfold one at h;split at h<;>simp_all
def li (g:Gh) (w:World) (p:Bool) (m:Nat) (xs:List (List D)) (x:Value) (O:Nat→Nat):Prop :=
 (xs=[]∧(∀ b,O b=0)∧∃ a,x=.slice a 0 0)∨
 ∃ b off cap c el,x=.slice (some ⟨b,off,none⟩) xs.length cap∧xs.length≤cap∧0<m∧(∀ e∈xs,e.length=m)∧
  w.heap[b]?=some (.cells c el (0,0))∧off+cap*m≤c.size∧eS w g.pm xs.flatten b off∧
  (∀ o,g.pm b o→p=false∧o<off+xs.length*m)∧(p=false→∀ j,j<xs.length*m→g.pm b (off+j))∧O=one b
mutual
def RV (g:Gh) (w:World):AV→Value→(Nat→Nat)→Prop
 | .junk,_,O=>∀ b,O b=0
 | .d c,x,O=>RD w g.pm c x∧∀ b,O b=0
 | .nl,x,O=>x=.slice none 0 0∧∀ b,O b=0
 | .own p m xs,x,O=>li g w p m xs x O
 | .gl n,x,O=>(∃ a cap,x=.slice a n cap)∧∀ b,O b=0
 | .agg cs,x,O=>∃ xs:Array Value,x=.agg xs∧ai g w cs xs.toList O
 | .tup cs,x,O=>∃ xs:Array Value,x=.tuple xs∧ai g w cs xs.toList O
 | .nilp,x,O=>x=.pointer none∧∀ b,O b=0
 | .ptr id off,x,O=>(∃ b,g.obj id=some b∧x=.pointer (some ⟨b,g.base id+off,none⟩))∧∀ b,O b=0
 | .pel id i off,x,O=>(∃ b,g.obj id=some b∧x=.pointer (some ⟨b,g.base id+(i*g.esz id+off),none⟩))∧∀ b,O b=0
 | .pim cs off,x,O=>(∃ b o,x=.pointer (some ⟨b,o+off,none⟩)∧eS w g.pm cs b o∧∀ j,j<cs.length→g.pm b (o+j))∧∀ b,O b=0
 | .sl id off len,x,O=>((len=0∧∃ a,x=.slice a 0 0)∨
   ∃ b cap,g.obj id=some b∧x=.slice (some ⟨b,g.base id+off*g.esz id,none⟩) len cap∧len≤cap∧g.base id+(off+cap)*g.esz id≤g.bsz id)∧∀ b,O b=0
 | .fn f a c,x,O=>(∃ xs ys:Array Value,x=.func (.func f) xs ys∧ai g w a xs.toList (fun _=>0)∧ai g w c ys.toList (fun _=>0))∧∀ b,O b=0
 | .nilf,x,O=>x=.nilFunc∧∀ b,O b=0
 | .yield l,x,O=>(∃ b,g.obj l=some b∧x=.func (.yield b) #[] #[])∧∀ b,O b=0
def ai (g:Gh) (w:World):List AV→List Value→(Nat→Nat)→Prop
 | [],xs,O=>xs=[]∧∀ b,O b=0
 | v::r,xs,O=>∃ x s O1 O2,xs=x::s∧RV g w v x O1∧ai g w r s O2∧∀ b,O b=O1 b+O2 b
end
def cY (o:Go.Obj) (off:Nat):Bool :=
 match o with
 | .cells _ _ (lo,hi)=>lo≤off && off<hi
 | _=>false
structure az (g:Gh) (w:World) (g':Gh) (w':World) (S:Nat→Prop):Prop where
 obj:∀ id b,g.obj id=some b→g'.obj id=some b∧g'.base id=g.base id∧g'.esz id=g.esz id∧g'.bsz id=g.bsz id
 pm:∀ b o,g.pm b o→g'.pm b o∧w'.cell? ⟨b,o,none⟩=w.cell? ⟨b,o,none⟩
 blk:∀ b,b<w.heap.size→¬ S b→w'.heap[b]?=w.heap[b]?∧∀ o,g'.pm b o→g.pm b o
 size:w.heap.size≤w'.heap.size
 lp:∀ (b:Nat) (rc:Go.Loop),w.heap[b]?=some (.loop rc)→∃ rc':Go.Loop,w'.heap[b]?=some (.loop rc')
 same:w'.os=w.os∧w'.output=w.output∧∀ a:Addr,w'.frozen? a=w.frozen? a
theorem az.refl (g:Gh) (w:World) (S:Nat→Prop):az g w g w S :=
 ⟨fun _ _ h=>⟨h,rfl,rfl,rfl⟩,fun _ _ h=>⟨h,rfl⟩,fun _ _ _=>⟨rfl,fun _ h=>h⟩,Nat.le_refl _,fun _ rc h=>⟨rc,h⟩,rfl,rfl,fun _=>rfl⟩
theorem az.trans {g1 g2 g3:Gh}{w1 w2 w3:World}{S T:Nat→Prop}(h1:az g1 w1 g2 w2 S) (h2:az g2 w2 g3 w3 T)
  (hT:∀ b,b<w1.heap.size→T b→S b):az g1 w1 g3 w3 S where
 obj id b h:=by
  obtain⟨a,b1,c,d⟩:=h1.obj id b h
  obtain⟨a',b',c',d'⟩:=h2.obj id b a
  exact⟨a',b'.trans b1,c'.trans c,d'.trans d⟩
 pm b o h:=by
  obtain⟨a,c⟩:=h1.pm b o h
  obtain⟨a',c'⟩:=h2.pm b o a
  exact⟨a',c'.trans c⟩
 blk b hb hS:=by
  obtain⟨a,c⟩:=h1.blk b hb hS
  obtain⟨a',c'⟩:=h2.blk b (Nat.lt_of_lt_of_le hb h1.size) (fun h=>hS (hT b hb h))
  exact⟨a'.trans a,fun o h=>c o (c' o h)⟩
 size:=Nat.le_trans h1.size h2.size
 lp b rc h:=let ⟨rc1,h'⟩:=h1.lp b rc h;h2.lp b rc1 h'
 same:=⟨h2.same.1.trans h1.same.1,h2.same.2.1.trans h1.same.2.1,fun a=>(h2.same.2.2 a).trans (h1.same.2.2 a)⟩
theorem az.mono {g g':Gh}{w w':World}{S T:Nat→Prop}(h:az g w g' w' S) (hST:∀ b,b<w.heap.size→S b→T b):az g w g' w' T :=
 ⟨h.obj,h.pm,fun b hb hT=>h.blk b hb (fun hs=>hT (hST b hb hs)),h.size,h.lp,h.same⟩
theorem RD.ext {g g':Gh}{w w':World}{S:Nat→Prop}(h:az g w g' w' S) {c:D}{x:Value}(r:RD w g.pm c x):RD w' g'.pm c x:=by
 induction r with
 | int k n=>exact .int k n
 | bool b=>exact .bool b
 | str s=>exact .str s
 | nil a cap=>exact .nil a cap
 | lst xs b off m cap u hm hcap hl hc hr ih =>
  refine .lst xs b off m cap u hm hcap hl (fun j c hj=>?_) (fun j c hj=>ih j c hj)
  obtain⟨a,p⟩:=hc j c hj
  obtain⟨p',e⟩:=h.pm b _ p
  exact⟨e.trans a,p'⟩
theorem fh {w w':World}{b:Nat}(h:w'.heap[b]?=w.heap[b]?) (o:Nat):w'.cell? ⟨b,o,none⟩=w.cell? ⟨b,o,none⟩:=by
 simp only[World.cell?,h]
theorem eS.ext {g g':Gh}{w w':World}{S:Nat→Prop}(h:az g w g' w' S) {cs:List D}{b off:Nat}(r:eS w g.pm cs b off)
  (hb:w'.heap[b]?=w.heap[b]?∨∀ j,j<cs.length→g.pm b (off+j)):eS w' g'.pm cs b off:=by
 intro j c hj
 obtain⟨u,hu,hr⟩:=r j c hj
 refine⟨u,?_,hr.ext h⟩
 rcases hb with hb | hb
 ·rw[fh hb];exact hu
 ·have hlt:j<cs.length:=by
   rcases Nat.lt_or_ge j cs.length with h | h
   ·exact h
   ·simp[List.getElem?_eq_none h]at hj
  rw[(h.pm b _ (hb j hlt)).2];exact hu
theorem ba {w:World}{b:Nat}{o:Go.Obj}(h:w.heap[b]?=some o):b<w.heap.size:=by
 rcases Nat.lt_or_ge b w.heap.size with h' | h'
 ·exact h'
 ·simp[Array.getElem?_eq_none h']at h
theorem li.ext {g g':Gh}{w w':World}{S:Nat→Prop}(h:az g w g' w' S) {p:Bool}{m:Nat}{xs:List (List D)}{x:Value}{O:Nat→Nat}
  (r:li g w p m xs x O) (hO:∀ b,O b≠0→¬ S b):li g' w' p m xs x O:=by
 rcases r with r | ⟨b,off,cap,c,el,rfl,hcap,hm,hl,hb,hsz,hrc,hpm,hp,rfl⟩
 ·exact .inl r
 ·have hS:¬ S b:=hO b (by simp)
  obtain⟨e,hn⟩:=h.blk b (ba hb) hS
  exact .inr ⟨b,off,cap,c,el,rfl,hcap,hm,hl,e.trans hb,hsz,hrc.ext h (.inl e),fun o ho=>hpm o (hn o ho),fun hf j hj=>(h.pm b _ (hp hf j hj)).1,rfl⟩
mutual
theorem RV.ext {g g':Gh}{w w':World}{S:Nat→Prop}(h:az g w g' w' S):∀ (v:AV) (x:Value) (O:Nat→Nat),
  RV g w v x O→(∀ b,O b≠0→¬ S b)→RV g' w' v x O
 | .junk,_,_,r,_=>by simpa only[RV] using r
 | .d c,x,O,r,_=>by simp only[RV]at r⊢;exact⟨r.1.ext h,r.2⟩
 | .nl,_,_,r,_=>by simpa only[RV] using r
 | .own p m xs,x,O,r,hO=>by simp only[RV]at r⊢;exact r.ext h hO
 | .gl n,_,_,r,_=>by simpa only[RV] using r
 | .agg cs,x,O,r,hO=>by
  simp only[RV]at r⊢
  obtain⟨xs,e,r⟩:=r
  exact⟨xs,e,ai.ext h cs _ O r hO⟩
 | .tup cs,x,O,r,hO=>by
  simp only[RV]at r⊢
  obtain⟨xs,e,r⟩:=r
  exact⟨xs,e,ai.ext h cs _ O r hO⟩
 | .nilp,_,_,r,_=>by simpa only[RV] using r
 | .ptr id off,x,O,r,_=>by
  simp only[RV]at r⊢
  obtain⟨⟨b,hb,e⟩,hz⟩:=r
  obtain⟨a1,a2,_,_⟩:=h.obj id b hb
  exact⟨⟨b,a1,by rw[a2];exact e⟩,hz⟩
 | .pel id i off,x,O,r,_=>by
  simp only[RV]at r⊢
  obtain⟨⟨b,hb,e⟩,hz⟩:=r
  obtain⟨a1,a2,a3,_⟩:=h.obj id b hb
  exact⟨⟨b,a1,by rw[a2,a3];exact e⟩,hz⟩
 | .pim cs off,x,O,r,_=>by
  simp only[RV]at r⊢
  obtain⟨⟨b,o,e,hrc,hp⟩,hz⟩:=r
  exact⟨⟨b,o,e,hrc.ext h (.inr hp),fun j hj=>(h.pm b _ (hp j hj)).1⟩,hz⟩
 | .sl id off len,x,O,r,_=>by
  simp only[RV]at r⊢
  obtain⟨r,hz⟩:=r
  rcases r with r | ⟨b,cap,hb,e,hl,hs⟩
  ·exact⟨.inl r,hz⟩
  ·obtain⟨a1,a2,a3,a4⟩:=h.obj id b hb
   exact⟨.inr ⟨b,cap,a1,by rw[a2,a3];exact e,hl,by rw[a2,a3,a4];exact hs⟩,hz⟩
 | .fn f a c,x,O,r,_=>by
  simp only[RV]at r⊢
  obtain⟨⟨xs,ys,e,ra,rc⟩,hz⟩:=r
  exact⟨⟨xs,ys,e,ai.ext h a _ _ ra (by simp),ai.ext h c _ _ rc (by simp)⟩,hz⟩
 | .nilf,_,_,r,_=>by simpa only[RV] using r
 | .yield l,x,O,r,_=>by
  simp only[RV]at r⊢
  obtain⟨⟨b,hb,e⟩,hz⟩:=r
  exact⟨⟨b,(h.obj l b hb).1,e⟩,hz⟩
theorem ai.ext {g g':Gh}{w w':World}{S:Nat→Prop}(h:az g w g' w' S):∀ (vs:List AV) (xs:List Value) (O:Nat→Nat),
  ai g w vs xs O→(∀ b,O b≠0→¬ S b)→ai g' w' vs xs O
 | [],_,_,r,_=>by simpa only[ai] using r
 | v::vs,xs,O,r,hO=>by
  simp only[ai]at r⊢
  obtain⟨x,s,O1,O2,e,r1,r2,hs⟩:=r
  exact⟨x,s,O1,O2,e,RV.ext h v x O1 r1 (fun b hb=>hO b (by rw[hs b];omega)),ai.ext h vs s O2 r2 (fun b hb=>hO b (by rw[hs b];omega)),hs⟩
end
end Go.Vm
namespace Go.Vm
abbrev zero:Nat→Nat:=fun _=>0
def aX {α:Type}(l:List (Nat×α)):Prop:=l.Pairwise fun a b=>tj a.1 b.1
theorem tj.tr {a b c:Nat}(h:tj a b) (k:tj b c):tj a c:=by omega
theorem tj.ne {a b:Nat}(h:tj a b):b≠a:=by omega
theorem ahz (a b:Nat):tj a b∨a=b∨tj b a:=by omega
theorem tj.of {i k:Nat}(h:¬ k=i) (l:Jo i k):tj i k:=by omega
theorem tj.of' {i k:Nat}(h:¬ k=i) (l:¬ Jo i k):tj k i:=by omega
section
variable {α:Type}
theorem ZW {l:List (Nat×α)}{i:Nat}{p:Nat×α}(h:p∈del l i):p∈l∧p.1≠i:=by
 induction l with
 | nil=>simp[Rq]at h
 | cons a r ih =>
  obtain⟨k,v⟩:=a
  rw[fY]at h
  split at h
  ·exact⟨.tail _ (ih h).1,(ih h).2⟩
  ·rcases List.mem_cons.1 h with h | h
   ·subst h;exact⟨.head _,by simpa using ‹¬ k=i›⟩
   ·exact⟨.tail _ (ih h).1,(ih h).2⟩
theorem aX.del {l:List (Nat×α)}(h:aX l) (i:Nat):aX (Vm.del l i):=by
 induction l with
 | nil=>simpa [Rq] using h
 | cons a r ih =>
  obtain⟨k,v⟩:=a
  have hr:=List.pairwise_cons.1 h
  rw[fY]
  split
  ·exact ih hr.2
  ·exact List.pairwise_cons.2 ⟨fun p hp=>hr.1 p (ZW hp).1,ih hr.2⟩
theorem jr {l:List (Nat×α)}{i:Nat}(h:∀ p∈l,p.1≠i):del l i=l:=by
 induction l with
 | nil=>rfl
 | cons a r ih =>
  obtain⟨k,v⟩:=a
  rw[fY,if_neg (h (k,v) (.head _)),ih fun p hp=>h p (.tail _ hp)]
theorem SM {l:List (Nat×α)}{i:Nat}{x:α}{p:Nat×α}(h:p∈put l i x):p=(i,x)∨p∈l:=by
 induction l with
 | nil=>simp[PV]at h;exact .inl h
 | cons a r ih =>
  obtain⟨k,v⟩:=a
  rw[jF]at h
  split at h
  ·rcases List.mem_cons.1 h with h | h
   ·exact .inl h
   ·exact .inr (.tail _ h)
  ·split at h
   ·rcases List.mem_cons.1 h with h | h
    ·exact .inl h
    ·exact .inr h
   ·rcases List.mem_cons.1 h with h | h
    ·exact .inr (h▸.head _)
    ·rcases ih h with h | h
     ·exact .inl h
     ·exact .inr (.tail _ h)
theorem aX.put {l:List (Nat×α)}(h:aX l) (i:Nat) (x:α):aX (Vm.put l i x):=by
 induction l with
 | nil=>simp[PV,aX]
 | cons a r ih =>
  obtain⟨k,v⟩:=a
  have hr:=List.pairwise_cons.1 h
  rw[jF]
  split
  ·rename_i e;subst e;exact List.pairwise_cons.2 ⟨hr.1,hr.2⟩
  ·split
   ·rename_i ne le
    have hlt:tj i k:=.of ne le
    refine List.pairwise_cons.2 ⟨fun p hp=>?_,h⟩
    rcases List.mem_cons.1 hp with rfl | hp
    ·exact hlt
    ·exact hlt.tr (hr.1 p hp)
   ·rename_i ne le
    refine List.pairwise_cons.2 ⟨fun p hp=>?_,ih hr.2⟩
    rcases SM hp with rfl | hp
    ·exact .of' ne le
    ·exact hr.1 p hp
end
def RL {α:Type}(Q:Nat→α→(Nat→Nat)→Prop):List (Nat×α)→(Nat→Nat)→Prop
 | [],O=>∀ b,O b=0
 | (k,v)::r,O=>∃ O1 O2,Q k v O1∧RL Q r O2∧∀ b,O b=O1 b+O2 b
section
variable {α:Type}{Q Q':Nat→α→(Nat→Nat)→Prop}
theorem RL.imp' {l:List (Nat×α)}{O:Nat→Nat}(r:RL Q l O)
  (h:∀ k v O1,(k,v)∈l→(∀ b,O1 b≤O b)→Q k v O1→Q' k v O1):RL Q' l O:=by
 induction l generalizing O with
 | nil=>simpa [RL] using r
 | cons a r' ih =>
  obtain⟨k,v⟩:=a
  obtain⟨O1,O2,q,rr,hs⟩:=r
  exact⟨O1,O2,h k v O1 (.head _) (fun b=>by rw[hs b];omega) q,
   ih rr fun k v O' hm hle q=>h k v O' (.tail _ hm) (fun b=>by have:=hle b;rw[hs b];omega) q,hs⟩
theorem RL.take {l:List (Nat×α)}{O:Nat→Nat}(r:RL Q l O) {i:Nat}{v:α}(hg:get l i=some v) :
  ∃ O1 O2,Q i v O1∧RL Q (del l i) O2∧∀ b,O1 b+O2 b≤O b:=by
 induction l generalizing O with
 | nil=>simp[mc]at hg
 | cons a r' ih =>
  obtain⟨k,u⟩:=a
  obtain⟨O1,O2,q,rr,hs⟩:=r
  rw[bq]at hg
  rw[fY]
  by_cases e:k=i
  ·subst e
   simp only[if_true]at hg⊢
   injection hg with hg;subst hg
   have:∃ O3,RL Q (del r' k) O3∧∀ b,O3 b≤O2 b:=by
    clear ih hs q
    induction r' generalizing O2 with
    | nil=>exact⟨O2,rr,fun _=>Nat.le_refl _⟩
    | cons a r'' ih2 =>
     obtain⟨k',u'⟩:=a
     obtain⟨P1,P2,q',rr',hs'⟩:=rr
     obtain⟨O3,r3,h3⟩:=ih2 P2 rr'
     rw[fY]
     split
     ·exact⟨O3,r3,fun b=>by have:=h3 b;rw[hs' b];omega⟩
     ·exact⟨fun b=>P1 b+O3 b,⟨P1,O3,q',r3,fun _=>rfl⟩,fun b=>by have:=h3 b;have:=hs' b;show P1 b+O3 b≤O2 b;omega⟩
   obtain⟨O3,r3,h3⟩:=this
   exact⟨O1,O3,q,r3,fun b=>by have:=h3 b;rw[hs b];omega⟩
  ·simp only[if_neg e]at hg⊢
   obtain⟨P1,P2,q',rr',hs'⟩:=ih rr hg
   exact⟨P1,fun b=>O1 b+P2 b,q',⟨O1,P2,q,rr',fun _=>rfl⟩,fun b=>by have:=hs' b;have:=hs b;show P1 b+(O1 b+P2 b)≤O b;omega⟩
theorem RL.drop {l:List (Nat×α)}{O:Nat→Nat}(r:RL Q l O) (i:Nat):∃ O2,RL Q (del l i) O2∧∀ b,O2 b≤O b:=by
 induction l generalizing O with
 | nil=>exact⟨O,r,fun _=>Nat.le_refl _⟩
 | cons a r' ih =>
  obtain⟨k,u⟩:=a
  obtain⟨O1,O2,q,rr,hs⟩:=r
  obtain⟨O3,r3,h3⟩:=ih rr
  rw[fY]
  split
  ·exact⟨O3,r3,fun b=>by have:=h3 b;rw[hs b];omega⟩
  ·exact⟨fun b=>O1 b+O3 b,⟨O1,O3,q,r3,fun _=>rfl⟩,fun b=>by have:=h3 b;have:=hs b;show O1 b+O3 b≤O b;omega⟩
theorem RL.put {l:List (Nat×α)}(hs:aX l) {i:Nat}{O1 O2:Nat→Nat}(r:RL Q (del l i) O2) {x:α}(q:Q i x O1) :
  ∃ O,RL Q (Vm.put l i x) O∧∀ b,O b=O1 b+O2 b:=by
 induction l generalizing O2 with
 | nil=>exact⟨fun b=>O1 b+O2 b,⟨O1,O2,q,r,fun _=>rfl⟩,fun _=>rfl⟩
 | cons a r' ih =>
  obtain⟨k,u⟩:=a
  have hp:=List.pairwise_cons.1 hs
  rw[jF]
  by_cases e:k=i
  ·subst e
   simp only[if_true]
   rw[fY,if_pos rfl,jr fun p hp'=>(hp.1 p hp').ne]at r
   exact⟨fun b=>O1 b+O2 b,⟨O1,O2,q,r,fun _=>rfl⟩,fun _=>rfl⟩
  ·simp only[if_neg e]
   rw[fY,if_neg e]at r
   split
   ·rename_i hle
    have hlt:tj i k:=.of e hle
    rw[jr fun p hp'=>(hlt.tr (hp.1 p hp')).ne]at r
    exact⟨fun b=>O1 b+O2 b,⟨O1,O2,q,r,fun _=>rfl⟩,fun _=>rfl⟩
   ·obtain⟨P1,P2,q',rr',hs'⟩:=r
    obtain⟨O,ro,ho⟩:=ih hp.2 rr'
    exact⟨fun b=>P1 b+O b,⟨P1,O,q',ro,fun _=>rfl⟩,fun b=>by have:=ho b;have:=hs' b;show P1 b+O b=O1 b+O2 b;omega⟩
theorem RL.get {l:List (Nat×α)}{O:Nat→Nat}(r:RL Q l O) {i:Nat}{v:α}(hg:Vm.get l i=some v) :
  ∃ O1,Q i v O1∧∀ b,O1 b≤O b:=by
 obtain⟨O1,O2,q,_,h⟩:=r.take hg
 exact⟨O1,q,fun b=>by have:=h b;omega⟩
end
theorem cD {xs:List (List D)}{m:Nat}(h:∀ e∈xs,e.length=m):xs.flatten.length=xs.length*m:=by
 induction xs with
 | nil=>simp
 | cons a r ih =>
  simp only[List.flatten_cons,List.length_append,List.length_cons]
  rw[ih fun e he=>h e (.tail _ he),h a (.head _),Nat.succ_mul,Nat.add_comm]
theorem eS.nil (w:World) (pm:Nat→Nat→Prop) (b off:Nat):eS w pm [] b off:=fun j c h=>by simp at h
theorem eS.rd {w:World}{pm:Nat→Nat→Prop}{xs:List (List D)}{b off m cap:Nat}(hm:0<m) (hcap:xs.length≤cap) (hl:∀ e∈xs,e.length=m)
  (hc:eS w pm xs.flatten b off) (hp:∀ j,j<xs.length*m→pm b (off+j)):RD w pm (.lst xs) (.slice (some ⟨b,off,none⟩) xs.length cap):=by
 refine .lst xs b off m cap (fun j=>(w.cell? ⟨b,off+j,none⟩).getD (.bool false)) hm hcap hl (fun j c hj=>?_) (fun j c hj=>?_)
 ·obtain⟨u,hu,_⟩:=hc j c hj
  have hlt:j<xs.flatten.length:=by
   rcases Nat.lt_or_ge j xs.flatten.length with h | h
   ·exact h
   ·simp[List.getElem?_eq_none h]at hj
  exact⟨by simp[hu],hp j (by rw[←cD hl];exact hlt)⟩
 ·obtain⟨u,hu,hr⟩:=hc j c hj
  simpa [hu] using hr
mutual
theorem RV.share {g:Gh}{w:World}:∀ (v:AV) (x:Value) (O:Nat→Nat),RV g w v x O→RV g w (share v) x zero
 | .own false m xs,x,O,r=>by
  simp only[RV,Vm.share]at r⊢
  refine⟨?_,fun _=>by trivial⟩
  rcases r with ⟨rfl,_,a,rfl⟩ | ⟨b,off,cap,c,el,rfl,hcap,hm,hl,hb,hsz,hrc,hpm,hp,rfl⟩
  ·exact .nil a 0
  ·exact hrc.rd hm hcap hl (hp rfl)
 | .own true m xs,x,O,r=>by simp[RV,Vm.share]
 | .agg cs,x,O,r=>by
  simp only[RV,Vm.share]at r⊢
  obtain⟨xs,e,r⟩:=r
  exact⟨xs,e,ai.share cs _ O r⟩
 | .tup cs,x,O,r=>by
  simp only[RV,Vm.share]at r⊢
  obtain⟨xs,e,r⟩:=r
  exact⟨xs,e,ai.share cs _ O r⟩
 | .junk,_,_,r=>by simp[RV,Vm.share]
 | .d c,_,_,r=>by simp only[RV,Vm.share]at r⊢;exact⟨r.1,fun _=>by trivial⟩
 | .nl,_,_,r=>by simp only[RV,Vm.share]at r⊢;exact⟨r.1,fun _=>by trivial⟩
 | .gl n,_,_,r=>by simp only[RV,Vm.share]at r⊢;exact⟨r.1,fun _=>by trivial⟩
 | .nilp,_,_,r=>by simp only[RV,Vm.share]at r⊢;exact⟨r.1,fun _=>by trivial⟩
 | .ptr _ _,_,_,r=>by simp only[RV,Vm.share]at r⊢;exact⟨r.1,fun _=>by trivial⟩
 | .pel _ _ _,_,_,r=>by simp only[RV,Vm.share]at r⊢;exact⟨r.1,fun _=>by trivial⟩
 | .pim _ _,_,_,r=>by simp only[RV,Vm.share]at r⊢;exact⟨r.1,fun _=>by trivial⟩
 | .sl _ _ _,_,_,r=>by simp only[RV,Vm.share]at r⊢;exact⟨r.1,fun _=>by trivial⟩
 | .fn _ _ _,_,_,r=>by simp only[RV,Vm.share]at r⊢;exact⟨r.1,fun _=>by trivial⟩
 | .nilf,_,_,r=>by simp only[RV,Vm.share]at r⊢;exact⟨r.1,fun _=>by trivial⟩
 | .yield _,_,_,r=>by simp only[RV,Vm.share]at r⊢;exact⟨r.1,fun _=>by trivial⟩
theorem ai.share {g:Gh}{w:World}:∀ (vs:List AV) (xs:List Value) (O:Nat→Nat),ai g w vs xs O→ai g w (aB vs) xs zero
 | [],_,_,r=>by simp only[ai,Xy]at r⊢;exact⟨r.1,fun _=>by trivial⟩
 | v::vs,xs,O,r=>by
  simp only[ai,iD]at r⊢
  obtain⟨x,s,O1,O2,e,r1,r2,_⟩:=r
  exact⟨x,s,zero,zero,e,RV.share v x O1 r1,ai.share vs s O2 r2,fun _=>by trivial⟩
end
end Go.Vm
namespace Go.Vm
def Ev (P:Nat→Option af) (c:VC) (st:St) (o:aT) (st':St):Prop:=∃ N,∀ n,(run P (N+n)).code c st=some (o,st')
variable {P:Nat→Option af}
theorem abY {n:Int}(h:-9223372036854775808≤n) (h2:n≤9223372036854775807):wr .i64 n=n:=by
 simp only[wr,gP,decide_eq_true h,decide_eq_true h2,Bool.and_self]
instance:Nonempty br:=⟨⟨fun _ _=>none,fun _ _ _=>none⟩⟩
def WP (P:Nat→Option af) (c:VC) (st:St) (Q:aT→St→Prop):Prop:=∃ o st',Ev P c st o st'∧Q o st'
theorem TR {r:br}{vs:List VI}:∀ {l:List Nat}{st:St},(l.all fun i=>decide (i<vs.length))=true→ki r vs l st=eM r (l.filterMap fun i=>vs[i]?) st
 | [],_,_=>rfl
 | i::l,st,h=>by
  simp only[List.all_cons,Bool.and_eq_true,decide_eq_true_eq]at h
  have hi:vs[i]?=some (vs[i]'h.1):=List.getElem?_eq_getElem h.1
  simp only[ki,hi,List.filterMap_cons,eM]
  cases aS r (vs[i]'h.1) st with
  | none=>rfl
  | some ae=>exact TR h.2
theorem VW {r:br}{vs:List VI}:∀ {l F:List Nat}{st:St},ct r [] vs l F st=ki r vs l st
 | [],_,_=>rfl
 | i::l,F,st=>by
  simp only[ct,ki,aF,bJ]
  cases vs[i]? with
  | none=>rfl
  | some v =>
   simp only
   cases aS r v st with
   | none=>rfl
   | some ae=>exact VW
theorem WP.mono {c:VC}{st:St}{Q R:aT→St→Prop}(h:WP P c st Q) (hq:∀ o s,Q o s→R o s):WP P c st R:=by
 obtain⟨o,s,h,k⟩:=h
 exact⟨o,s,h,hq o s k⟩
end Go.Vm
namespace Go.Vm
def okD:D→Value→Bool
 | .int k n,.int j m=>gX k j && decide (n=m)
 | .bool a,.bool b=>a == b
 | .str s,.string t=>s == t.data.toList
 | .lst [],.slice none 0 0=>true
 | _,_=>false
def EW:List D→List Value→Bool
 | [],[]=>true
 | d::r,v::s=>okD d v && EW r s
 | _,_=>false
def BO:AV→Value→Bool
 | .d (.lst _),_=>false
 | .d x,v=>okD x v
 | .nl,.slice none 0 0=>true
 | .nilp,.pointer none=>true
 | .nilf,.nilFunc=>true
 | _,_=>false
def gU:List AV→List Value→Bool
 | [],[]=>true
 | d::r,v::s=>BO d v && gU r s
 | _,_=>false
def QU:AV→Value→Bool
 | .agg cs,.agg vs=>gU cs vs.toList
 | v,x=>BO v x
def aN:Rd→Operand→Bool
 | .s i,.tmp t=>Nat.beq i t
 | .m i,.tmp t=>Nat.beq i t
 | .c v,.const x=>QU v x
 | .c (.fn f [] []),.func g=>Nat.beq f g
 | _,_=>false
def bD:List Rd→List Operand→Bool
 | [],[]=>true
 | r::l,o::s=>aN r o && bD l s
 | _,_=>false
def mH:Option Rd→Option Operand→Bool
 | none,none=>true
 | some r,some o=>aN r o
 | _,_=>false
section
variable (P:Program)
def kW (t:TypeId) (n:Nat):Bool:=match P.info? t with
 | some i=>Nat.beq i.size n
 | none=>false
def oS (t:TypeId):Bool:=match P.underlying t with
 | some (.struct _)=>true
 | some (.array _ _)=>true
 | _=>false
def xx (t:TypeId):Bool:=match P.underlying t with
 | some (.struct _)=>false
 | some (.array _ _)=>false
 | some _=>true
 | none=>false
def gQ (t:TypeId):Option Nat→Bool
 | none=>xx P t
 | some n=>oS P t && kW P t n
def dC (t:TypeId) (m:Nat):Bool:=match P.underlying t with
 | some (.slice e)=>kW P e m && Nat.blt 0 m && Nat.ble (P.bytesOf e) 4096
 | _=>false
def abL (t:TypeId) (zs:List D):Bool:=match P.info? t with
 | some i=>match i.zero with
  | some z=>EW zs z.cells.toList
  | none=>false
 | none=>false
def qc (t:TypeId) (zs:List D):Bool:=match P.underlying t with
 | some (.slice e)=>abL P e zs
 | _=>false
def f6 (t:TypeId) (m:Nat):Bool:=match P.underlying t with
 | some (.slice e)=>match P.info? e with
  | some i=>match i.zero with
   | some z=>Nat.beq z.cells.size m
   | none=>false
  | none=>false
 | _=>false
def Ax (t:TypeId):Bool:=match P.underlying t with
 | some .string=>true
 | _=>false
def xB (t:TypeId):Bool:=match P.underlying t with
 | some (.int _)=>true
 | _=>false
def Ao (t:TypeId):Bool:=match P.underlying t with
 | some .bool=>true
 | _=>false
def Zy (t:TypeId):Bool:=match P.underlying t with
 | some (.slice e)=>(match P.underlying e with
  | some (.int .u8)=>true
  | _=>false)
 | _=>false
def acT (f:FuncId):Bool:=match P.funcs[f]? with
 | some fn=>fn.name == "internal/bytealg.IndexByte" && fn.origin == "" && fn.body.isNone
 | none=>false
def w8:List Bool→List Field→Nat→Bool
 | [],[],_=>true
 | k::ks,f::r,n=>Nat.beq f.offset n && (f.name != "_") && (match k with | true=>xB P f.type | false=>Ao P f.type) && xx P f.type && w8 ks r (n+1)
 | _,_,_=>false
def zU:List Bool→List Field→Nat→Bool
 | [],[],_=>true
 | _::_,[],_=>false
 | ks,f::r,n=>Nat.beq f.offset n && (f.name != "_") && (match P.underlying f.type with
  | some (.struct fs)=>Nat.ble fs.size ks.length && w8 P (ks.take fs.size) fs.toList 0 && !(P.stoodInHeld f.type) && kW P f.type fs.size && zU (ks.drop fs.size) r (n+fs.size)
  | _=>match ks with
   | k::ks=>(match k with | true=>xB P f.type | false=>Ao P f.type) && xx P f.type && zU ks r (n+1)
   | []=>false)
def mL (t:TypeId) (ks:List Bool):Bool:=match P.underlying t with
 | some (.struct fs)=>zU P ks fs.toList 0 && !(P.stoodInHeld t) && !(P.eqGuardType P.depth t)
 | _=>false
def abW (t:TypeId) (k:IntKind):Bool:=match P.underlying t with
 | some (.int j)=>gX j k
 | _=>false
def FT (t:TypeId) (len n:Nat):Bool:=match P.underlying t with
 | some (.array l e)=>Nat.beq l len && kW P e n && Nat.blt 0 n
 | _=>false
def Zf (t:TypeId) (f off:Nat):Bool:=match P.underlying t with
 | some (.struct fs)=>match fs[f]? with
  | some x=>Nat.beq x.offset off && (match P.info? x.type with | some i=>Nat.blt 0 i.size | none=>false)
  | none=>false
 | _=>false
def Ia (t:TypeId) (f off:Nat) (n:Option Nat):Bool:=match P.underlying t with
 | some (.struct fs)=>match fs[f]? with
  | some x=>Nat.beq x.offset off && gQ P x.type n
  | none=>false
 | _=>false
def NB (t:TypeId) (len n:Nat) (agg:Bool):Bool:=match P.underlying t with
 | some (.array l e)=>Nat.beq l len && kW P e n && (match agg with | true=>oS P e | false=>xx P e)
 | _=>false
def fX (places:Nat→Option (Nat×Nat)):List (Nat×Nat×Rd)→List (Nat×Operand)→Bool
 | [],[]=>true
 | (off,n,r)::l,(i,o)::s=>(match places i with | some (a,b)=>Nat.beq a off && Nat.beq b n | none=>false) && aN r o && fX places l s
 | _,_=>false
def kU (fs:Array Field) (i:Nat):Option (Nat×Nat):=match fs[i]? with
 | some f=>match P.info? f.type with
  | some t=>some (f.offset,t.size)
  | none=>none
 | none=>none
def RR (fs:List Field):Bool:=fs.all fun f=>(P.info? f.type).isSome
def WA (t:TypeId) (zs:List AV) (ps:List (Nat×Nat×Rd)) (parts:List (Nat×Operand)):Bool :=
 (match P.info? t with
  | some i=>match i.zero with
   | some z=>gU zs z.cells.toList
   | none=>false
  | none=>false) &&
 match P.underlying t with
 | some (.struct fs)=>RR P fs.toList && fX (kU P fs) ps parts
 | some (.array _ e)=>match P.info? e with
  | some i=>fX (fun k=>some (k*i.size,i.size)) ps parts
  | none=>false
 | _=>false
def cO:Nat→List Rd→List (Nat×Operand)→Bool
 | _,[],[]=>true
 | k,r::l,(i,o)::s=>Nat.beq i k && aN r o && cO (k+1) l s
 | _,_,_=>false
def nL:Callee→Option FuncId
 | .value (.func f)=>some f
 | _=>none
def iA:Callee→Option Builtin
 | .builtin b=>some b
 | _=>none
def QS (a b:BinOp):Bool:=decide (a=b)
def ahH (a b:UnOp):Bool:=decide (a=b)
def Cz (a b:Option Builtin):Bool:=decide (a=b)
def iS (c:Call):TypeId:=c.argTypes.getD 0 0
def F9 (c:Call):Bool:=Nat.beq c.argTypes.size 2
def ar (v:iu) (o:Op):Bool :=
 match v with
 | .mov x=>(match o with
  | .move y=>aN x y
  | .assign y=>aN x y
  | .call c=>Cz (iA c.callee) (some .len) && Nat.blt 0 c.args.size && Nat.blt 0 c.argTypes.size && (match x with
   | .c (.d (.int .i64 n))=>(match P.underlying (iS c) with
    | some (.array l _)=>decide (n=(l:Int))
    | _=>false)
   | _=>false)
  | _=>false)
 | .pick c a b=>(match o with
  | .pick c' a' b'=>aN c c' && aN a a' && aN b b'
  | _=>false)
 | .alloc zs=>(match o with
  | .alloc e=>(match P.info? e with
   | some i=>(match i.zero with
    | some z=>gU zs z.cells.toList
    | none=>false)
   | none=>false)
  | _=>false)
 | .box x=>(match o with
  | .box _ y=>aN x y
  | _=>false)
 | .build zs ps=>(match o with
  | .build t parts=>WA P t zs ps parts.toList
  | _=>false)
 | .mks m ps=>(match o with
  | .buildSlice t len parts=>dC P t m && f6 P t m && Nat.beq len ps.length && Nat.ble (len*m) 16777216 && cO 0 ps parts.toList
  | _=>false)
 | .mksv m ps=>(match o with
  | .buildSlice t len parts=>Nat.beq m 1 && dC P t m && f6 P t m && Nat.beq len ps.length && Nat.ble (len*m) 16777216 && Nat.blt 0 len && cO 0 ps parts.toList
  | _=>false)
 | .ld n _ p=>(match o with
  | .load t a=>gQ P t n && aN p a
  | _=>false)
 | .st n p x=>(match o with
  | .store t a y=>kW P t n && aN p a && aN x y
  | _=>false)
 | .nilck x=>(match o with
  | .nilCheck y=>aN x y
  | _=>false)
 | .bin op x y=>(match o with
  | .binOp op' _ x' y' _=>QS op op' && aN x x' && aN y y'
  | _=>false)
 | .binb neg x y=>(match o with
  | .binOp op' t x' y' _=>QS (match neg with | true=>.neq | false=>.eql) op' && Ao P t && aN x x' && aN y y'
  | _=>false)
 | .un op x=>(match o with
  | .unOp op' _ x'=>ahH op op' && aN x x'
  | _=>false)
 | .conv k x=>(match o with
  | .convert src dst x'=>abW P dst k && xB P src && aN x x'
  | _=>false)
 | .toStr x=>(match o with
  | .convert src dst x'=>Ax P dst && Zy P src && aN x x'
  | _=>false)
 | .bina neg ks x y=>(match o with
  | .binOp op' t x' y' _=>QS (match neg with | true=>.neq | false=>.eql) op' && mL P t ks && aN x x' && aN y y'
  | _=>false)
 | .mkfn f first caps=>(match o with
  | .makeFunc (.func g) first' caps'=>Nat.beq f g && bD first first'.toList && bD caps caps'.toList
  | _=>false)
 | .mkslice z len cap=>(match o with
  | .makeSlice t l c=>dC P t z.length && qc P t z && aN len l && aN cap c
  | _=>false)
 | .slice m x lo hi mx=>(match o with
  | .slice t y l h k=>dC P t m && aN x y && mH lo l && mH hi h && mH mx k
  | _=>false)
 | .slarr n x lo hi mx=>(match o with
  | .slice t y l h k=>FT P t n 1 && aN x y && mH lo l && mH hi h && mH mx k
  | _=>false)
 | .fa off p=>(match o with
  | .fieldAddr t y f=>Zf P t f off && aN p y
  | _=>false)
 | .fld off n x=>(match o with
  | .field t y f=>Ia P t f off n && aN x y
  | _=>false)
 | .ia n x i=>(match o with
  | .indexAddr t y j=>dC P t n && aN x y && aN i j
  | _=>false)
 | .iarr len n p i=>(match o with
  | .indexAddr t y j=>FT P t len n && aN p y && aN i j
  | _=>false)
 | .ix len n agg x i=>(match o with
  | .index t y j=>NB P t len n agg && aN x y && aN i j
  | _=>false)
 | .ixs x i=>(match o with
  | .index t y j=>Ax P t && aN x y && aN i j
  | _=>false)
 | .ext j _ i=>(match o with
  | .extract (.tmp t) k=>Nat.beq j t && Nat.beq i k
  | _=>false)
 | .len x=>(match o with
  | .call c=>Cz (iA c.callee) (some .len) && Nat.blt 0 c.argTypes.size && (match P.underlying (iS c) with | some (.slice _)=>true | _=>false) && bD [x] c.args.toList
  | _=>false)
 | .cap x=>(match o with
  | .call c=>Cz (iA c.callee) (some .cap) && Nat.blt 0 c.argTypes.size && (match P.underlying (iS c) with | some (.slice _)=>true | _=>false) && bD [x] c.args.toList
  | _=>false)
 | .app m x y=>(match o with
  | .call c=>Cz (iA c.callee) (some .append) && F9 c && dC P (iS c) m && f6 P (iS c) m &&
    (match P.underlying (c.argTypes.getD 1 0) with | some (.slice _)=>true | _=>false) && bD [x,y] c.args.toList
  | _=>false)
 | .appz z x n=>(match o with
  | .call c=>Cz (iA c.callee) (some .append) && F9 c && dC P (iS c) z.length && qc P (iS c) z && xB P (c.argTypes.getD 1 0) && bD [x,n] c.args.toList
  | _=>false)
 | .cpy m x y=>(match o with
  | .call c=>Cz (iA c.callee) (some .copy) && F9 c && dC P (iS c) m && (match P.underlying (c.argTypes.getD 1 0) with | some (.slice _)=>true | _=>false) && bD [x,y] c.args.toList
  | _=>false)
 | .clr z x=>(match o with
  | .call c=>Cz (iA c.callee) (some .clear) && dC P (iS c) z.length && qc P (iS c) z && Nat.blt 0 c.argTypes.size && bD [x] c.args.toList
  | _=>false)
 | .minmax b xs=>(match o with
  | .call c=>Cz (iA c.callee) (some (match b with | true=>.max | false=>.min)) && bD xs c.args.toList
  | _=>false)
 | .call f args=>(match o with
  | .call c=>(match nL c.callee with | some g=>Nat.beq f g | none=>false) && bD args c.args.toList
  | _=>false)
 | .calli f args=>(match o with
  | .call c=>(match nL c.callee with | some g=>Nat.beq f g | none=>false) && bD args c.args.toList
  | _=>false)
 | .callv f args=>(match o with
  | .call c=>(match c.callee with | .value x=>aN f x | _=>false) && bD args c.args.toList
  | _=>false)
 | .idxb x c=>(match o with
  | .call k=>(match nL k.callee with | some f=>acT P f | none=>false) && bD [x,c] k.args.toList
  | _=>false)
 | .bad=>true
 | _=>false
def zV (v:VI):Bool :=
 v.dst.isNone && v.guard.isNone && v.th.isEmpty && (match v.op with
  | .kill _=>true
  | .free _=>true
  | .wk _ _=>true
  | .frz _=>true
  | .frzC _ _=>true
  | _=>false)
def sF (ops:Array Oper):Option (Nat×Bool)→Option (Nat×Bool)→Bool
 | none,none=>true
 | some (s,b),some (j,c)=>b == c && (match ops[j]? with
  | some o=>(match o.dst with | some d=>Nat.beq d s | none=>false)
  | none=>false)
 | _,_=>false
def pI (n:Nat) (ops:Array Oper) (v:VI) (o:Oper):Bool :=
 (match v.dst,o.dst with
  | none,none=>true
  | some a,some b=>Nat.beq a b && Nat.blt a n
  | _,_=>false) && sF ops v.guard o.guard && ar P v.op o.op
def vX (n:Nat) (ops:Array Oper):List VI→List Oper→Bool
 | [],[]=>true
 | v::l,os=>match zV v with
  | true=>vX n ops l os
  | false=>match os with
   | o::s=>pI P n ops v o && vX n ops l s
   | []=>false
 | [],_::_=>false
end
def gk:Rd→List Nat
 | .s i=>[i]
 | .m i=>[i]
 | .c _=>[]
def b7:Rd→List Nat
 | .m i=>[i]
 | _=>[]
def aE (rs:List Rd):List Nat:=rs.flatMap gk
def ao (rs:List Rd):List Nat:=rs.flatMap b7
def qX:iu→Option (List Rd)
 | .mov x=>some [x]
 | .build _ ps=>some (gL ps)
 | .mks _ ps=>some ps
 | .ld _ 0 p=>some [p]
 | .nilck x=>some [x]
 | .bin _ x y=>some [x,y]
 | .binb _ x y=>some [x,y]
 | .bina _ _ x y=>some [x,y]
 | .un _ x=>some [x]
 | .conv _ x=>some [x]
 | .toStr x=>some [x]
 | .mkslice _ l c=>some [l,c]
 | .fa _ p=>some [p]
 | .fld _ _ x=>some [x]
 | .ia _ x i=>some [x,i]
 | .iarr _ _ p i=>some [p,i]
 | .ix _ _ _ x i=>some [x,i]
 | .ixs x i=>some [x,i]
 | .len x=>some [x]
 | .cap x=>some [x]
 | .minmax _ xs=>some xs
 | .mkfn _ first caps=>some (first++caps)
 | .call _ args=>some args
 | _=>none
def mD:iu→Option (List Nat×List Nat)
 | .pick c a b=>some (aE [c,a,b],ao [c,a,b])
 | .ext j mv _=>some ([j],if mv then [j] else [])
 | .app _ (.c .nl) y=>some (aE [y],ao [y])
 | .slice _ x lo hi mx=>some (aE (x::(lo.toList++(hi.toList++(mx.toList++[])))),ao (x::(lo.toList++(hi.toList++(mx.toList++[])))))
 | v=>match qX v with
  | some rs=>some (aE rs,ao rs)
  | none=>none
def VO (i:VI):Option (List Nat×List Nat) :=
 match i.th with
 | _::_=>none
 | []=>match mD i.op with
  | none=>none
  | some (R,M)=>some ((match i.guard with | some (s,_)=>s::(R++M) | none=>R++M),(match i.dst with | some d=>d::M | none=>M))
def jv:List Nat→List Nat→Bool
 | [],_=>true
 | a::r,l=>!bJ a l && jv r l
def j5 (a b:VI):Bool:=match VO a,VO b with
 | some (R1,M1),some (R2,M2)=>jv M1 R2 && jv M1 M2 && jv M2 R1
 | _,_=>false
def mf:Ground→Bool
 | .textOnly _=>false
 | .gcOnly _=>false
 | _=>true
def Ab (o:Oper) (j:Nat):Bool:=o.after.toList.any fun e=>Nat.beq e.on j && mf e.ground
def L4 (o:Oper) (v:VI):Nat→List VI→Bool
 | _,[]=>true
 | j,u::us=>(Ab o j || j5 u v) && L4 o v (j+1) us
def jM (P:Program) (n:Nat) (ops:Array Oper) (prev:List VI):List VI→List Oper→Bool
 | [],[]=>true
 | v::vs,o::os=>pI P n ops v o && L4 o v 0 prev && (o.after.toList.all fun e=>Nat.blt e.on prev.length) && jM P n ops (prev++[v]) vs os
 | _,_=>false
def xK (i:VI) (l:List Nat):List Nat:=match i.guard with | some (s,_)=>s::l | none=>l
def mn (i:VI) (l:List Nat):List Nat:=match i.dst with | some d=>d::l | none=>l
inductive pC where
 | q | t | a | p
def ei (i:VI):Option (pC×List Nat×List Nat) :=
 match i.th with
 | _::_=>match mD i.op with
  | some (R,M)=>some (.a,xK i (R++M),mn i M)
  | none=>none
 | []=>match i.op with
  | .ld _ 2 p=>some (.t,xK i (gk p++b7 p),mn i (b7 p))
  | .app _ (.s x) y=>some (.p,xK i (aE [.s x,y]++ao [.s x,y]),mn i (ao [.s x,y]))
  | .app _ (.m x) y=>some (.p,xK i (aE [.m x,y]++ao [.m x,y]),mn i (ao [.m x,y]))
  | .alloc _=>some (.a,xK i ([]++[]),mn i [])
  | .box x=>some (.a,xK i (gk x++b7 x),mn i (b7 x))
  | v=>match mD v with
   | some (R,M)=>some (.q,xK i (R++M),mn i M)
   | none=>none
def ot:pC→pC→Bool
 | .a,_=>false
 | .t,.t=>false
 | .p,.q=>true
 | .p,_=>false
 | _,.p=>false
 | _,_=>true
def u6 (u v:VI):Bool:=match ei u,ei v with
 | some (k1,R1,M1),some (k2,R2,M2)=>ot k1 k2 && jv M1 R2 && jv M1 M2 && jv M2 R1
 | _,_=>false
def DL:List Nat→List Nat→List Nat
 | [],l=>l
 | a::r,l=>match bJ a l with
  | true=>DL r l
  | false=>DL r (a::l)
def sOp:iu→Bool
 | .mov _=>true
 | .pick ..=>true
 | .build ..=>true
 | .mks ..=>true
 | .nilck _=>true
 | .bin ..=>true
 | .binb ..=>true
 | .bina ..=>true
 | .un ..=>true
 | .conv ..=>true
 | .mkfn ..=>true
 | .mkslice ..=>true
 | .fa ..=>true
 | .fld ..=>true
 | .iarr ..=>true
 | .ix ..=>true
 | .ixs ..=>true
 | .ext ..=>true
 | .len _=>true
 | .cap _=>true
 | .minmax ..=>true
 | _=>false
def aep:iu→Option (List Rd)
 | .ld _ _ p=>some [p]
 | .st _ p x=>some [p,x]
 | .cpy _ x y=>some [x,y]
 | .clr _ x=>some [x]
 | .calli _ args=>some args
 | .callv f args=>some (f::args)
 | _=>none
def eN (i:VI):Option (List Nat×List Nat) :=
 match ei i with
 | some (_,R,M)=>some (R,M)
 | none=>match aep i.op with
  | some rs=>some (xK i (aE rs++ao rs),mn i (ao rs))
  | none=>none
def mO (a:Bool) (i:VI):Option (List Nat×List Nat) :=
 match eN i with
 | some (R,M)=>match a with
  | false=>some (R,M)
  | true=>some (R++D4 (FV i.op),M)
 | none=>none
def Au (a:List (Nat×Nat)):Bool:=match a with | []=>true | _=>false
def kS (a:Bool) (i:VI):Bool:=!a && Au i.th && sOp i.op
def ZI (i:VI):Bool:=match ei i with | some (.q,_)=>true | _=>false
def TZ (i:VI):Bool:=match ei i with | some (.p,_)=>true | _=>false
def vV (i:VI):Bool:=match iZ i.op with | .read=>true | _=>false
def XA (i:VI):Bool:=match iZ i.op with | .take=>true | _=>false
def Pm (i:VI):Bool:=match iZ i.op with | .call=>true | _=>false
def Lh (a:Bool) (i:VI):Bool:=ZI i && (!a || vV i)
def W9 (a b:Bool) (u v:VI):Bool:=a && b && ZI u && vV u && Pm v
def tg (a b:Bool) (u v:VI):Bool:=match mO a u,mO b v with
 | some (R1,M1),some (R2,M2)=>jv M1 R2 && jv M1 M2 && jv M2 R1
 | _,_=>false
def FZ (a b:Bool) (u v:VI):Bool:=tg a b u v && (kS a u || kS b v || (Lh a u && Lh b v) || W9 a b u v)
def oP (a:Bool) (i:VI):Bool:=a && XA i && Au i.th
def L7 (a b:Bool) (u v:VI):Bool :=
 (!a || oP a u) && (!b || oP b v) && (u6 u v || (tg a b u v && ((oP a u && oP b v) || (oP a u && TZ v) || (TZ u && oP b v))))
def fN (a b:Bool) (u v:VI):Bool:=!a && !b && Au u.th && Au v.th && (match u.op,v.op,u.dst,v.dst,u.guard,v.guard with
 | .ext j _ i,.ext l _ k,some d,some c,none,none=>Nat.beq j l && !Nat.beq i k && !Nat.beq d c && !Nat.beq d j && !Nat.beq c j
 | _,_,_,_,_,_=>false)
def fb (a b:Bool) (u v:VI):Bool:=FZ a b u v || fN a b u v || (!kS b v && L7 a b u v)
def F6 (tab:List (Nat×List Nat)):List Edge→List Nat
 | []=>[]
 | e::r=>match mf e.ground with
  | true=>DL (e.on::(match get tab e.on with | some l=>l | none=>[])) (F6 tab r)
  | false=>F6 tab r
def wS (ops:Array Oper):List Nat→List (Nat×List Nat)→List (Nat×List Nat)
 | [],tab=>tab
 | i::l,tab=>wS ops l ((i,match ops[i]? with | some o=>F6 tab o.after.toList | none=>[])::tab)
def txG:Ground→Bool
 | .gcOnly _=>false
 | _=>true
def Mu:Ground→Bool
 | .textOnly _=>false
 | _=>true
def vg (P:Program) (n:Nat) (ops:Array Oper) (k:Nat):Nat→List VI→List Oper→Bool
 | _,[],[]=>true
 | i,v::vs,o::os=>pI P n ops v o && (o.after.toList.all fun e=>Nat.blt e.on k && (!txG e.ground || Nat.blt e.on i)) && vg P n ops k (i+1) vs os
 | _,_,_=>false
def jz (anc:List (Nat×List Nat)) (k i:Nat):Bool:=match get anc k with | some l=>bJ i l | none=>false
def Np (anc:List (Nat×List Nat)) (d:Nat) (l:List Nat) (i:Nat):Nat→List VI→Bool
 | _,[]=>true
 | k,v::r=>(Nat.beq k i || jz anc k i || (match eN v with
  | some (_,M)=>!bJ d M && (jz anc i k || jv l M)
  | none=>false)) && Np anc d l i (k+1) r
def mW (v:VI):List Nat:=match v.op with
 | .mkslice _ l c=>aE [l,c]
 | _=>[]
def jX (anc:List (Nat×List Nat)) (vs:List VI) (i:Nat):Bool:=match vs[i]? with
 | some v=>(match dg v with
  | some d=>Np anc d (mW v) i 0 vs && (match get anc i with
   | some l=>l.all (fun j=>match vs[j]? with
    | some u=>(match dg u with
     | some _=>false
     | none=>true)
    | none=>true)
   | none=>true)
  | none=>false)
 | none=>false
def Mr (anc:List (Nat×List Nat)) (i j:Nat):Nat→Bool
 | 0=>true
 | k+1=>(!jz anc k i || jz anc k j) && Mr anc i j k
def FH (anc:List (Nat×List Nat)) (nr:List Nat) (vs:List VI) (j:Nat):List Nat→Bool
 | []=>true
 | i::r=>(jz anc i j || (match vs[j]?,vs[i]? with | some u,some v=>fb (bJ j nr) (bJ i nr) u v | _,_=>false) || (jX anc vs i && Mr anc i j vs.length && !jz anc j i)) && FH anc nr vs j r
def Xn (ops:Array Oper) (j:Nat) (l:List Nat):Bool:=match ops[j]? with
 | some o=>o.after.toList.all fun e=>!Mu e.ground || !bJ e.on l
 | none=>false
def FA (ops:Array Oper) (anc:List (Nat×List Nat)) (nr:List Nat) (vs:List VI):List Nat→Bool
 | []=>true
 | j::r=>FH anc nr vs j r && !bJ j r && Nat.blt j vs.length && FA ops anc nr vs r
def VS (ops:Array Oper):List Nat→Bool
 | []=>true
 | j::r=>Xn ops j (j::r) && VS ops r
def MB (l:List Nat):Nat→Bool
 | 0=>true
 | n+1=>bJ n l && MB l n
def VK (vs:List VI):List Nat→Bool
 | []=>true
 | i::r=>(match vs[i]? with | some v=>!vV v || ZI v | none=>true) && VK vs r
def v4 (P:Program) (n:Nat) (ops:Array Oper) (perm gco nr:List Nat) (vs:List VI):Bool :=
 vg P n ops vs.length 0 vs ops.toList && VK vs nr && MB gco vs.length && VS ops gco && MB perm vs.length && FA ops (wS ops perm []) nr vs perm
def jV:VC→Bool
 | .reg _ ops=>ops.all zV
 | .seq a b=>jV a && jV b
 | _=>false
inductive Mt (P:Program) (n:Nat):VC→Code→Prop
 | ghostL {a b:VC}{c:Code}:jV a=true→Mt P n b c→Mt P n (.seq a b) c
 | ghostR {a b:VC}{c:Code}:jV b=true→Mt P n a c→Mt P n (.seq a b) c
 | seq {a b:VC}{c d:Code}:Mt P n a c→Mt P n b d→Mt P n (.seq a b) (.seq c d)
 | skip:Mt P n .skip .skip
 | reg {ops:List VI}{id:Nat}{os:Array Oper}:vX P n os ops os.toList=true→Mt P n (.reg false ops) (.region id os false)
 | draw {ops:List VI}{id:Nat}{os:Array Oper}:jM P n os [] ops os.toList=true→Mt P n (.reg true ops) (.region id os true)
 | drawP {perm gco nr:List Nat}{ops:List VI}{id:Nat}{os:Array Oper}:v4 P n os perm gco nr ops=true→Mt P n (.regP perm gco nr ops) (.region id os true)
 | cond {r:Rd}{o:Operand}{a b:VC}{c d:Code}:aN r o=true→Mt P n a c→Mt P n b d→Mt P n (.cond r a b) (.cond o c d)
 | block {id:Nat}{a:VC}{c:Code}:Mt P n a c→Mt P n (.block id a) (.block id c)
 | loop {a:VC}{c:Code}:Mt P n a c→Mt P n (.loop a) (.loop c)
 | rangeF {r:Rd}{o:Operand}{ps:List Nat}{qs:Array Nat}{a b:VC}{c d:Code}:aN r o=true→qs=ps.toArray→(∀ p∈ps,p<n)→Mt P n a c→Mt P n b d→Mt P n (.rangeF r ps a b) (.rangeFunc o qs c d)
 | exit {id:Nat}:Mt P n (.exit id) (.exit id)
 | scope {a:VC}{c:Code}:Mt P n a c→Mt P n (.scope a) (.scope c)
 | label {l:Nat}:Mt P n (.label l) (.label l)
 | goto {l:Nat}:Mt P n (.goto l) (.goto l)
 | ret:Mt P n .ret .ret
def zj:List Nat→List Nat→Bool
 | [],[]=>true
 | a::r,b::s=>Nat.beq a b && zj r s
 | _,_=>false
theorem Ts:∀ {a b:List Nat},zj a b=true→a=b
 | [],[],_=>rfl
 | a::r,b::s,h=>by
  simp only[zj,Bool.and_eq_true,Nat.beq_eq]at h
  rw[h.1,Ts h.2]
 | [],_::_,h=>by simp[zj]at h
 | _::_,[],h=>by simp[zj]at h
def VD (n:Nat):List Nat→Bool
 | []=>true
 | a::r=>Nat.blt a n && VD n r
theorem T2 {n:Nat}:∀ {l:List Nat},VD n l=true→∀ p∈l,p<n
 | [],_,p,hp=>by simp at hp
 | a::r,h,p,hp=>by
  simp only[VD,Bool.and_eq_true,Nat.blt_eq]at h
  rcases List.mem_cons.1 hp with rfl | hp
  ·exact h.1
  ·exact T2 h.2 p hp
def ep (P:Program) (n:Nat):VC→Code→Bool
 | .seq a b,c=>(jV a && ep P n b c) || (jV b && ep P n a c) || (match c with
  | .seq x y=>ep P n a x && ep P n b y
  | _=>false)
 | .skip,.skip=>true
 | .reg d ops,.region _ os d'=>(!d && !d' && vX P n os ops os.toList) || (d && d' && jM P n os [] ops os.toList)
 | .regP perm gco nr ops,.region _ os d'=>d' && v4 P n os perm gco nr ops
 | .cond r a b,.cond o x y=>aN r o && ep P n a x && ep P n b y
 | .block i a,.block j x=>Nat.beq i j && ep P n a x
 | .loop a,.loop x=>ep P n a x
 | .rangeF r ps a b,.rangeFunc o qs x y=>aN r o && zj ps qs.toList && VD n ps && ep P n a x && ep P n b y
 | .exit i,.exit j=>Nat.beq i j
 | .scope a,.scope x=>ep P n a x
 | .label i,.label j=>Nat.beq i j
 | .goto i,.goto j=>Nat.beq i j
 | .ret,.ret=>true
 | _,_=>false
theorem ee {P:Program}{n:Nat}:∀ (v:VC) (c:Code),ep P n v c=true→Mt P n v c
 | .seq a b,c,h=>by
  simp only[ep,Bool.or_eq_true,Bool.and_eq_true]at h
  rcases h with (⟨h1,h2⟩ | ⟨h1,h2⟩) | h
  ·exact .ghostL h1 (ee b c h2)
  ·exact .ghostR h1 (ee a c h2)
  ·cases c<;>simp only[Bool.and_eq_true,Bool.false_eq_true]at h
   exact .seq (ee a _ h.1) (ee b _ h.2)
 | .skip,c,h=>by cases c<;>simp_all [ep];exact .skip
 | .reg d ops,c,h=>by
  cases c<;>simp only[ep,Bool.or_eq_true,Bool.and_eq_true,Bool.not_eq_true',Bool.false_eq_true]at h
  rcases h with ⟨⟨h1,h2⟩,h⟩ | ⟨⟨h1,h2⟩,h⟩
  ·subst h1 h2;exact .reg h
  ·subst h1 h2;exact .draw h
 | .regP perm gco nr ops,c,h=>by
  cases c<;>simp only[ep,Bool.and_eq_true,Bool.false_eq_true]at h
  obtain⟨h1,h⟩:=h
  subst h1;exact .drawP h
 | .cond r a b,c,h=>by
  cases c<;>simp[ep]at h
  exact .cond h.1.1 (ee a _ h.1.2) (ee b _ h.2)
 | .block i a,c,h=>by
  cases c<;>simp only[ep,Bool.and_eq_true,Bool.false_eq_true]at h
  obtain⟨h1,h2⟩:=h
  rw[Nat.beq_eq]at h1;subst h1
  exact .block (ee a _ h2)
 | .loop a,c,h=>by
  cases c<;>simp only[ep,Bool.false_eq_true]at h
  exact .loop (ee a _ h)
 | .exit i,c,h=>by
  cases c<;>simp only[ep,Bool.false_eq_true]at h
  rw[Nat.beq_eq]at h;subst h;exact .exit
 | .scope a,c,h=>by
  cases c<;>simp only[ep,Bool.false_eq_true]at h
  exact .scope (ee a _ h)
 | .label i,c,h=>by
  cases c<;>simp only[ep,Bool.false_eq_true]at h
  rw[Nat.beq_eq]at h;subst h;exact .label
 | .goto i,c,h=>by
  cases c<;>simp only[ep,Bool.false_eq_true]at h
  rw[Nat.beq_eq]at h;subst h;exact .goto
 | .ret,c,h=>by cases c<;>simp[ep]at h;exact .ret
 | .rangeF r ps a b,c,h=>by
  cases c<;>simp only[ep,Bool.and_eq_true,Bool.false_eq_true]at h
  obtain⟨⟨⟨⟨h1,h2⟩,h3⟩,h4⟩,h5⟩:=h
  have h2:=Ts h2
  exact .rangeF h1 (by rw[h2]) (T2 h3) (ee a _ h4) (ee b _ h5)
 | .inScope _ _,c,h=>by cases c<;>simp[ep]at h
 | .clone _,c,h=>by cases c<;>simp[ep]at h
 | .late _ _ _ _,c,h=>by cases c<;>simp[ep]at h
def fA (P:Program):List kj→List ResultVar→Bool
 | [],[]=>true
 | .tmp i::r,.tmp j::s=>Nat.beq i j && fA P r s
 | .cell i n::r,.cell j ty::s=>Nat.beq i j && gQ P ty n && fA P r s
 | _,_=>false
def yc (o:Oper) (d:Nat):Bool:=(match o.dst with | some e=>Nat.beq d e | none=>false) && o.guard.isNone
def M6:Operand→Bool
 | .const (.slice none 0 0)=>true
 | _=>false
def sN (i:Nat):Operand→Bool
 | .tmp j=>Nat.beq i j
 | _=>false
def Mb (d:Nat):List Oper→Bool
 | [o]=>yc o d && (match o.op with | .assign x=>M6 x | _=>false)
 | _=>false
def WW (P:Program) (m:Nat):List Oper→Bool
 | [a,b]=>yc a 3 && (match a.op with | .move x=>sN 0 x | _=>false) && yc b 4 &&
   (match b.op with | .binOp .eql T x y _=>dC P T m && sN 3 x && M6 y | _=>false)
 | _=>false
def W1 (P:Program) (m:Nat):List Oper→Bool
 | [a,b,c,d]=>yc a 5 && (match a.op with | .buildSlice T 0 ps=>dC P T m && ps.isEmpty | _=>false) && yc b 6 && (match b.op with | .move x=>sN 0 x | _=>false) && yc c 7 &&
   (match c.op with
    | .call k=>Cz (iA k.callee) (some .append) && F9 k && dC P (iS k) m && f6 P (iS k) m && (match P.underlying (k.argTypes.getD 1 0) with | some (.slice _)=>true | _=>false) &&
      (match k.args.toList with | [x,y]=>sN 5 x && sN 6 y | _=>false)
    | _=>false) && yc d 2 && (match d.op with | .assign x=>sN 7 x | _=>false)
 | _=>false
def Bs (P:Program) (m:Nat):Code→Bool
 | .seq (.region _ r0 false) (.seq (.seq (.region _ r1 false) (.cond (.tmp 4) (.seq (.region _ r2 false) .ret) .skip)) (.seq (.region _ r3 false) .ret)) =>
  Mb 2 r0.toList && WW P m r1.toList && Mb 2 r2.toList && W1 P m r3.toList
 | _=>false
def LU (P:Program) (m:Nat) (vf:af) (f:FuncId):Bool:=match P.funcs[f]? with
 | some fn=>match fn.body with
  | some c=>(match vf.body with | .clone k=>Nat.beq k m | _=>false) && (match vf.results with | [.tmp 2]=>true | _=>false) && fA P vf.results fn.results.toList && Nat.beq vf.nparams 1 && Nat.ble 8 fn.ntmps && Bs P m c && (fn.name != "runtime.NumGoroutine")
  | none=>false
 | none=>false
def Gd (P:Program) (n i d f:Nat) (a:VC):Code→Bool
 | .seq (.region _ os false) rest=>(match os.toList with
  | [m,k]=>yc m d && (match m.op with | .move x=>sN i x | _=>false) && k.dst.isNone && k.guard.isNone &&
    (match k.op with
     | .defer c=>(match nL c.callee with | some g=>Nat.beq f g | none=>false) && (match c.args.toList with | [x]=>sN d x | _=>false)
     | _=>false)
  | _=>false) && Nat.blt d n && ep P n a rest
 | _=>false
def Te (P:Program) (i d f:Nat) (a:VC) (vf:af) (k:FuncId):Bool:=match P.funcs[k]? with
 | some fn=>match fn.body with
  | some c=>Gd P fn.ntmps i d f a c && Nat.ble vf.nparams fn.ntmps && fA P vf.results fn.results.toList && (fn.name != "runtime.NumGoroutine")
  | none=>false
 | none=>false
def afz (P:Program) (vf:af) (f:FuncId):Bool:=match P.funcs[f]? with
 | some fn=>match fn.body with
  | some c=>ep P fn.ntmps vf.body c && Nat.ble vf.nparams fn.ntmps && fA P vf.results fn.results.toList && (fn.name != "runtime.NumGoroutine")
  | none=>false
 | none=>false
end Go.Vm
namespace Go.Vm
def fT:aT→Option Code
 | .normal=>none
 | .exit i=>some (.exit i)
 | .goto l=>some (.goto l)
 | .ret=>some .ret
abbrev eO (g:Gh) (w:World) (e:am) (t:Array Value) (O:Nat→Nat):Prop :=
 RL (fun k v O=>k<t.size∧RV g w v (t.getD k undef) O) e O
def bl (P:Program) (g:Gh) (w:World) (id:Nat):Obj→(Nat→Nat)→Prop
 | .cells cs,O=>∃ b c el O1,g.obj id=some b∧g.base id=0∧g.esz id=1∧g.bsz id=cs.length∧
   w.heap[b]?=some (.cells c el (0,0))∧ai g w cs c.toList O1∧(∀ o,¬ g.pm b o)∧∀ x,O x=O1 x+one b x
 | .arr m xs,O=>(xs=[]∧g.bsz id=0∧g.esz id=m∧0<m∧(∃ b,g.obj id=some b)∧∀ b,O b=0)∨
   ∃ b c el,g.obj id=some b∧g.esz id=m∧0<m∧w.heap[b]?=some (.cells c el (0,0))∧g.bsz id≤c.size∧
    g.base id+xs.length*m≤g.bsz id∧(∀ e∈xs,e.length=m)∧eS w g.pm xs.flatten b (g.base id)∧(∀ o,¬ g.pm b o)∧∀ x,O x=one b x
 | .loop snap params assign body busy pend,O=>∃ b,∃ rc:Go.Loop,g.obj id=some b∧w.heap[b]?=some (.loop rc)∧
   rc.state=(if busy then .busy else if pend.isNone then .ready else .done)∧rc.pending=pend.bind fT∧rc.params=params.toArray∧
   Mt P rc.tmps.size assign rc.assign∧Mt P rc.tmps.size body rc.body∧aX snap∧eO g w snap rc.tmps zero∧(∀ p∈params,p<rc.tmps.size)∧
   ∀ x,O x=one b x
abbrev pY (P:Program) (g:Gh) (w:World) (h:ac) (O:Nat→Nat):Prop:=RL (bl P g w) h O
structure S (P:Program) (g:Gh) (w:World) (st:St) (t:Array Value) (O:Nat→Nat):Prop where
 se:aX st.env
 sh:aX st.hs.heap
 parts:∃ Oe Oh,eO g w st.env t Oe∧pY P g w st.hs.heap Oh∧∀ b,O b=Oe b+Oh b
 le:∀ b,O b≤1
 hi:∀ b,O b≠0→b<w.heap.size
 fresh:∀ id,st.hs.next≤id→g.obj id=none
 pmlt:∀ b o,g.pm b o→b<w.heap.size
def ev (t:Array Value):Operand→Value
 | .tmp i=>t.getD i undef
 | .const v=>v
 | .global g=>.pointer (some ⟨g,0,none⟩)
 | .func f=>.func (.func f) #[] #[]
theorem oi {a b:IntKind}(h:gX a b=true):a=b:=by
 cases a<;>cases b<;>first | rfl | (simp[gX]at h)
theorem RD.const {w:World}{pm:Nat→Nat→Prop}{c:D}{v:Value}(h:okD c v=true):RD w pm c v:=by
 unfold okD at h
 split at h
 ·simp only[Bool.and_eq_true,decide_eq_true_eq]at h
  obtain⟨h1,rfl⟩:=h
  rw[oi h1];exact .int _ _
 ·simp only[beq_iff_eq]at h;subst h;exact .bool _
 ·rename_i s t
  simp only[beq_iff_eq]at h;subst h
  have:=RD.str (w:=w) (pm:=pm) t.data.toList
  simpa using this
 ·exact .nil _ _
 ·simp at h
theorem RV.const1 {g:Gh}{w:World}{c:AV}{v:Value}(h:BO c v=true):RV g w c v zero:=by
 unfold BO at h
 split at h
 ·simp at h
 ·rename_i x y hx
  simp only[RV];exact⟨.const h,fun _=>trivial⟩
 ·simp[RV]
 ·simp[RV]
 ·simp[RV]
 ·simp at h
theorem ai.consts {g:Gh}{w:World}:∀ {cs:List AV}{vs:List Value},gU cs vs=true→ai g w cs vs zero
 | [],[],_=>by simp only[ai];exact⟨trivial,fun _=>trivial⟩
 | c::cs,v::vs,h=>by
  simp only[gU,Bool.and_eq_true]at h
  simp only[ai]
  exact⟨v,vs,zero,zero,rfl,.const1 h.1,ai.consts h.2,fun _=>rfl⟩
 | [],_::_,h=>by simp[gU]at h
 | _::_,[],h=>by simp[gU]at h
theorem RV.const {g:Gh}{w:World}{c:AV}{v:Value}(h:QU c v=true):RV g w c v zero:=by
 unfold QU at h
 split at h
 ·simp only[RV];exact⟨_,rfl,ai.consts h⟩
 ·exact .const1 h
section
variable {P:Program}{g:Gh}{w:World}{t:Array Value}{O:Nat→Nat}
theorem S.of_env {st:St}(s:S P g w st t O) {Oe Oh O':Nat→Nat}{e':am}(re:eO g w e' t Oe) (rh:pY P g w st.hs.heap Oh) (hse:aX e')
  (ho:∀ b,O' b=Oe b+Oh b) (hle:∀ b,O' b≤O b):S P g w ⟨e',st.hs⟩ t O' :=
 ⟨hse,s.sh,⟨Oe,Oh,re,rh,ho⟩,fun b=>Nat.le_trans (hle b) (s.le b),fun b hb=>s.hi b (by have:=hle b;omega),s.fresh,s.pmlt⟩
theorem S.rd {st:St}(s:S P g w st t O) {r:Rd}{o:Operand}(hc:aN r o=true) {v:AV}{e':am}(h:rd st.env r=some (v,e')) :
  ∃ Ov O',RV g w v (ev t o) Ov∧S P g w ⟨e',st.hs⟩ t O'∧∀ b,Ov b+O' b≤O b:=by
 obtain⟨Oe,Oh,re,rh,ho⟩:=s.parts
 cases r with
 | c c =>
  simp only[Vm.rd,Option.some.injEq,Prod.mk.injEq]at h
  obtain⟨rfl,rfl⟩:=h
  refine⟨zero,O,?_,s,fun b=>by simp⟩
  cases o with
  | const x=>simp only[aN]at hc;exact .const hc
  | func f =>
   cases c<;>try (simp[aN]at hc;done)
   rename_i f' a c
   cases a<;>try (simp[aN]at hc;done)
   cases c<;>try (simp[aN]at hc;done)
   simp only[aN,Nat.beq_eq]at hc
   subst hc
   simp only[RV,ev]
   exact⟨⟨#[],#[],rfl,by simp[ai],by simp[ai]⟩,fun _=>trivial⟩
  | tmp i=>simp[aN]at hc
  | global i=>simp[aN]at hc
 | s i =>
  cases o<;>try (simp[aN]at hc;done)
  rename_i j
  simp only[aN,Nat.beq_eq]at hc
  subst hc
  simp only[Vm.rd]at h
  cases hg:get st.env i with
  | none=>simp[hg]at h
  | some u =>
   simp only[hg,Option.some.injEq,Prod.mk.injEq]at h
   obtain⟨rfl,rfl⟩:=h
   obtain⟨O1,⟨_,q⟩,hq⟩:=RL.get re hg
   exact⟨zero,O,RV.share u _ O1 q,s,fun b=>by simp⟩
 | m i =>
  cases o<;>try (simp[aN]at hc;done)
  rename_i j
  simp only[aN,Nat.beq_eq]at hc
  subst hc
  simp only[Vm.rd]at h
  cases hg:get st.env i with
  | none=>simp[hg]at h
  | some u =>
   simp only[hg,Option.some.injEq,Prod.mk.injEq]at h
   obtain⟨rfl,rfl⟩:=h
   obtain⟨O1,O2,⟨_,q⟩,r2,hs⟩:=RL.take re hg
   refine⟨O1,fun b=>O2 b+Oh b,q,s.of_env r2 rh (s.se.del i) (fun _=>rfl) (fun b=>?_),fun b=>?_⟩
   ·have:=hs b;have:=ho b;show O2 b+Oh b≤O b;omega
   ·have:=hs b;have:=ho b;show O1 b+(O2 b+Oh b)≤O b;omega
theorem S.rdAll {st:St}{rs:List Rd}{os:List Operand}(hc:bD rs os=true) {vs:List AV}{e':am}(s:S P g w st t O) (h:rdAll st.env rs=some (vs,e')) :
  ∃ Ov O',ai g w vs (os.map (ev t)) Ov∧S P g w ⟨e',st.hs⟩ t O'∧∀ b,Ov b+O' b≤O b:=by
 induction rs generalizing os vs st O with
 | nil =>
  cases os<;>simp[bD]at hc
  simp only[Vm.rdAll,Option.some.injEq,Prod.mk.injEq]at h
  obtain⟨rfl,rfl⟩:=h
  exact⟨zero,O,by simp[ai],s,fun b=>by simp⟩
 | cons r rs ih =>
  cases os with
  | nil=>simp[bD]at hc
  | cons o os =>
   simp only[bD,Bool.and_eq_true]at hc
   simp only[Vm.rdAll]at h
   cases h1:Vm.rd st.env r with
   | none=>simp[h1]at h
   | some p =>
    obtain⟨v,e1⟩:=p
    simp only[h1]at h
    cases h2:Vm.rdAll e1 rs with
    | none=>simp[h2]at h
    | some p =>
     obtain⟨us,e2⟩:=p
     simp only[h2,Option.some.injEq,Prod.mk.injEq]at h
     obtain⟨rfl,rfl⟩:=h
     obtain⟨O1,O2,rv,s2,l2⟩:=s.rd hc.1 h1
     obtain⟨O3,O4,rvs,s4,l4⟩:=ih (st:=⟨e1,st.hs⟩) hc.2 s2 h2
     refine⟨fun b=>O1 b+O3 b,O4,?_,s4,fun b=>?_⟩
     ·simp only[ai,List.map_cons]
      exact⟨_,_,O1,O3,rfl,rv,rvs,fun _=>rfl⟩
     ·have:=l2 b;have:=l4 b;show O1 b+O3 b+O4 b≤O b;omega
end
end Go.Vm
namespace Go.Vm
structure amj (P:Program) (g:Gh) (w:World) (t:Array Value) (O:Nat→Nat) (st':St) (a:AV) (res:Result Next) (x:Value) (w':World) (g':Gh) (Oa O':Nat→Nat):Prop where
 run:res=.ok (.value x) w'∨(res=.ok .skip w'∧x=undef)
 val:RV g' w' a x Oa
 st:S P g' w' st' t O'
 ext:az g w g' w' fun b=>O b≠0
 le:∀ b,Oa b+O' b≤1
 old:∀ b,b<w.heap.size→Oa b+O' b≤O b
 hi:∀ b,Oa b≠0→b<w'.heap.size
def cA (P:Program) (g:Gh) (w:World) (t:Array Value) (O:Nat→Nat) (st':St) (a:AV) (res:Result Next):Prop :=
 ∃ x w' g' Oa O',amj P g w t O st' a res x w' g' Oa O'
section
variable {P:Program}{g:Gh}{w:World}{t:Array Value}{O:Nat→Nat}{st st':St}{a:AV}{o:Oper}
theorem cA.pure {res:Result Next}{x:Value}{Oa O':Nat→Nat}(s0:S P g w st t O) (h:res=.ok (.value x) w) (r:RV g w a x Oa)
  (s:S P g w st' t O') (hle:∀ b,Oa b+O' b≤O b):cA P g w t O st' a res :=
 ⟨x,w,g,Oa,O',.inl h,r,s,.refl _ _ _,fun b=>Nat.le_trans (hle b) (s0.le b),fun b _=>hle b,fun b hb=>s0.hi b (by have:=hle b;omega)⟩
theorem cA.flat {res:Result Next}{x:Value}{O':Nat→Nat}(s0:S P g w st t O) (h:res=.ok (.value x) w) (r:RV g w a x zero)
  (s:S P g w st' t O') (hle:∀ b,O' b≤O b):cA P g w t O st' a res :=
 .pure s0 h r s fun b=>by have:=hle b;simp;exact this
theorem S.le_left {O' Ov:Nat→Nat}(h:∀ b,Ov b+O' b≤O b):∀ b,O' b≤O b:=fun b=>by have:=h b;omega
theorem zK {e:am}{r:Rd}{α:Type}{k:AV→am→Option α}{y:α}
  (h:(match rd e r with | some (v,e)=>k v e | none=>none)=some y):∃ v e',rd e r=some (v,e')∧k v e'=some y:=by
 cases h1:rd e r with
 | none=>simp[h1]at h
 | some p=>obtain⟨v,e'⟩:=p;exact⟨v,e',rfl,by simpa [h1] using h⟩
theorem ajf {x:Rd}(s:S P g w st t O) (h:Ga x st=some (a,st')) (hc:ar P (.mov x) o.op=true) :
  cA P g w t O st' a ((execOp (ev t) o).run P w):=by
 obtain⟨v,e',h1,h2⟩:=zK h
 simp only[Option.some.injEq,Prod.mk.injEq]at h2
 obtain⟨rfl,rfl⟩:=h2
 obtain⟨dst,op,ty,pos,aft,gd⟩:=o
 simp only[ar]at hc
 split at hc
 ·obtain⟨Ov,O',rv,s',l⟩:=s.rd hc h1
  exact .pure s (by simp[execOp]) rv s' l
 ·obtain⟨Ov,O',rv,s',l⟩:=s.rd hc h1
  exact .pure s (by simp[execOp]) rv s' l
 ·rename_i c
  simp only[Bool.and_eq_true]at hc
  obtain⟨⟨⟨hb,ha⟩,ht⟩,hx⟩:=hc
  cases x with
  | s i=>simp at hx
  | m i=>simp at hx
  | c y =>
   split at hx
   ·rename_i n hy
    cases hu:P.underlying (iS c) with
    | none=>simp[hu]at hx
    | some d =>
     cases d<;>simp[hu]at hx
     rename_i l e
     injection hy with hy
     subst hy
     subst hx
     simp only[Vm.rd,Option.some.injEq,Prod.mk.injEq]at h1
     obtain⟨rfl,rfl⟩:=h1
     obtain⟨callee,args,argTypes⟩:=c
     have hcal:callee=.builtin .len:=by
      cases callee<;>simp[iA,Cz]at hb
      subst hb;rfl
     subst hcal
     have hty:argTypes[0]?=some (iS ⟨.builtin .len,args,argTypes⟩):=by
      simp only[iS]
      have:0<argTypes.size:=by simpa [Nat.blt_eq] using ht
      simp[Array.getD,this]
     have hargs:∃ z,(args.map (ev t))[0]?=some z:=by
      have:0<args.size:=by simpa [Nat.blt_eq] using ha
      exact⟨ev t args[0],by simp[this]⟩
     obtain⟨z,hz⟩:=hargs
     refine .flat s (x:=.int .i64 l) ?_ (by simp only[RV];exact⟨.int _ _,fun _=>trivial⟩) s (fun b=>Nat.le_refl _)
     simp[execOp,resolve,invoke,builtin,Builtin.len_,hty,hz,underlying,hu,goInt]
   ·simp at hx
 ·simp at hc
theorem ahb {c x y:Rd}(s:S P g w st t O) (h:eH c x y st=some (a,st')) (hc:ar P (.pick c x y) o.op=true) :
  cA P g w t O st' a ((execOp (ev t) o).run P w):=by
 obtain⟨dst,op,ty,pos,aft,gd⟩:=o
 simp only[ar]at hc
 split at hc
 ·rename_i c' a' b'
  simp only[Bool.and_eq_true]at hc
  obtain⟨⟨h1,h2⟩,h3⟩:=hc
  unfold eH at h
  cases hr:rd st.env c with
  | none=>simp[hr]at h
  | some p =>
   obtain⟨v,e1⟩:=p
   obtain⟨Ov,O1,rv,s1,l1⟩:=s.rd h1 hr
   simp only[hr]at h
   cases v<;>try (simp at h;done)
   rename_i d
   cases d<;>try (simp at h;done)
   rename_i tb
   simp only at h
   have hev:ev t c'=.bool tb:=by
    simp only[RV]at rv;obtain⟨rv,_⟩:=rv;generalize ev t c'=z at rv;cases rv;rfl
   obtain⟨v,e2,h4,h5⟩:=zK h
   simp only[Option.some.injEq,Prod.mk.injEq]at h5
   obtain⟨rfl,rfl⟩:=h5
   cases tb with
   | true =>
    obtain⟨Ov2,O2,rv2,s2,l2⟩:=s1.rd h2 h4
    exact .pure s (by simp[execOp,hev,asBool]) rv2 s2 fun b=>by have:=l1 b;have:=l2 b;omega
   | false =>
    obtain⟨Ov2,O2,rv2,s2,l2⟩:=s1.rd h3 h4
    exact .pure s (by simp[execOp,hev,asBool]) rv2 s2 fun b=>by have:=l1 b;have:=l2 b;omega
 ·simp at hc
theorem adt {x:Rd}(s:S P g w st t O) (h:ve x st=some (a,st')) (hc:ar P (.nilck x) o.op=true) :
  cA P g w t O st' a ((execOp (ev t) o).run P w):=by
 obtain⟨dst,op,ty,pos,aft,gd⟩:=o
 simp only[ar]at hc
 split at hc
 ·rename_i y
  obtain⟨v,e',h1,h2⟩:=zK h
  obtain⟨Ov,O',rv,s',l⟩:=s.rd hc h1
  cases v<;>simp only[Option.some.injEq,Prod.mk.injEq,reduceCtorEq]at h2
  all_goals
   obtain⟨rfl,rfl⟩:=h2
   refine .pure s ?_ rv s' l
   simp only[RV]at rv
  ·obtain⟨⟨b,_,e⟩,_⟩:=rv;simp[execOp,e]
  ·obtain⟨⟨b,_,e⟩,_⟩:=rv;simp[execOp,e]
  ·obtain⟨⟨b,o,e,_⟩,_⟩:=rv;simp[execOp,e]
  ·obtain⟨⟨xs,ys,e,_⟩,_⟩:=rv;simp[execOp,e]
  ·obtain⟨⟨b,_,e⟩,_⟩:=rv;simp[execOp,e]
 ·simp at hc
theorem Zr {k:IntKind}{n:Int}(h1:k.min≤n) (h2:n≤k.max):k.wrap n=n:=by
 cases k<;>simp[IntKind.min,IntKind.max,IntKind.signed,IntKind.bits]at h1 h2<;>
  simp[IntKind.wrap,IntKind.bits,IntKind.signed]<;>
  first | omega | (split<;>omega)
theorem Cc (k:IntKind) (n:Int):wr k n=k.wrap n:=by
 have H:∀ lo hi:Int,lo=k.min→hi=k.max→gP lo hi k n=k.wrap n:=by
  intro lo hi e1 e2
  unfold gP
  split
  ·rename_i h
   simp only[Bool.and_eq_true,decide_eq_true_eq]at h
   exact(Zr (by omega) (by omega)).symm
  ·rfl
 cases k<;>first | rfl | exact H _ _ (by decide) (by decide)
theorem mB {v:AV}{x:Value}{Ov:Nat→Nat}{k:IntKind}{n:Int}(r:RV g w v x Ov) (h:v=.d (.int k n)):x=.int k n:=by
 subst h;simp only[RV]at r;cases r.1;rfl
theorem agr {k:IntKind}{x:Rd}(s:S P g w st t O) (h:wF k x st=some (a,st')) (hc:ar P (.conv k x) o.op=true) :
  cA P g w t O st' a ((execOp (ev t) o).run P w):=by
 obtain⟨dst,op,ty,pos,aft,gd⟩:=o
 simp only[ar]at hc
 split at hc
 ·rename_i src ds y
  simp only[Bool.and_eq_true]at hc
  obtain⟨⟨h1,h2⟩,h3⟩:=hc
  unfold wF at h
  cases hr:rd st.env x with
  | none=>simp[hr]at h
  | some p =>
   obtain⟨v,e1⟩:=p
   obtain⟨Ov,O1,rv,s1,l1⟩:=s.rd h3 hr
   simp only[hr]at h
   cases v<;>try (simp at h;done)
   rename_i d
   cases d<;>try (simp at h;done)
   rename_i j n
   simp only[Option.some.injEq,Prod.mk.injEq]at h
   obtain⟨rfl,rfl⟩:=h
   have hx:=mB rv rfl
   simp only[abW]at h1
   simp only[xB]at h2
   cases hd:P.underlying ds with
   | none=>simp[hd]at h1
   | some dd =>
    cases dd<;>simp[hd]at h1
    have:=oi h1
    subst this
    cases hs:P.underlying src with
    | none=>simp[hs]at h2
    | some sd =>
     cases sd<;>simp[hs]at h2
     refine .flat s (x:=.int _ (IntKind.wrap _ n)) ?_ (by simp only[RV];exact⟨by rw[Cc];exact .int _ _,fun _=>trivial⟩) s1 (S.le_left l1)
     simp[execOp,convert,hx,underlying,hd,hs,Conv.intToInt]
 ·simp at hc
end
end Go.Vm
namespace Go.Vm
section
variable {P:Program}{g:Gh}{w:World}{t:Array Value}{O:Nat→Nat}{st st':St}{a:AV}{o:Oper}
theorem og {v:AV}{x:Value}{Ov:Nat→Nat}{b:Bool}(r:RV g w v x Ov) (h:v=.d (.bool b)):x=.bool b:=by
 subst h;simp only[RV]at r;obtain⟨r,_⟩:=r;cases r;rfl
theorem Xc {v:AV}{x:Value}{Ov:Nat→Nat}{s:List UInt8}(r:RV g w v x Ov) (h:v=.d (.str s)):x=.string ⟨s.toArray⟩:=by
 subst h;simp only[RV]at r;obtain⟨r,_⟩:=r;cases r;rfl
theorem jZ (k:IntKind) (n:Int):RV g w (.d (.int k n)) (.int k n) zero:=by simp only[RV];exact⟨.int _ _,fun _=>trivial⟩
theorem vd (b:Bool):RV g w (.d (.bool b)) (.bool b) zero:=by simp only[RV];exact⟨.bool _,fun _=>trivial⟩
theorem D3 {x y:Rd}{x' y':Operand}(s:S P g w st t O) (hx:aN x x'=true) (hy:aN y y'=true) {β:Type}{k:AV→AV→am→Option β}{r:β}
  (h:(match rd st.env x with
   | some (a,e)=>(match rd e y with
    | some (b,e)=>k a b e
    | none=>none)
   | none=>none)=some r) :
  ∃ a b e Oa Ob O',RV g w a (ev t x') Oa∧RV g w b (ev t y') Ob∧S P g w ⟨e,st.hs⟩ t O'∧(∀ c,Oa c+Ob c+O' c≤O c)∧k a b e=some r:=by
 obtain⟨a,e1,h1,h2⟩:=zK h
 obtain⟨b,e2,h3,h4⟩:=zK h2
 obtain⟨Oa,O1,ra,s1,l1⟩:=s.rd hx h1
 obtain⟨Ob,O2,rb,s2,l2⟩:=s1.rd hy h3
 exact⟨a,b,e2,Oa,Ob,O2,ra,rb,s2,fun c=>by have:=l1 c;have:=l2 c;omega,h4⟩
theorem Lv (op:BinOp) (ty:TypeId) (x y:Operand) (k j:IntKind) (m n:Int):(eqGuard op ty x y (.int k m) (.int j n)).run P w=.ok () w:=by
 unfold eqGuard;split<;>simp
theorem IW (op:BinOp) (ty:TypeId) (x y:Operand) (m n:Bool):(eqGuard op ty x y (.bool m) (.bool n)).run P w=.ok () w:=by
 unfold eqGuard;split<;>simp
theorem N6 (op:BinOp) (ty:TypeId) (x y:Operand) (m n:ByteArray):(eqGuard op ty x y (.string m) (.string n)).run P w=.ok () w:=by
 unfold eqGuard;split<;>simp
theorem agA (bs:ByteArray):∀ (n i:Nat) (r:List UInt8),bs.size-i=n→ByteArray.toList.loop bs i r=r.reverse++bs.data.toList.drop i:=by
 intro n
 induction n with
 | zero =>
  intro i r h
  rw[ByteArray.toList.loop]
  have hi:¬ i<bs.size:=by omega
  have:bs.data.toList.length≤i:=by show bs.size≤i;omega
  simp[hi,List.drop_eq_nil_of_le this]
 | succ n ih =>
  intro i r h
  have hi:i<bs.size:=by omega
  rw[ByteArray.toList.loop]
  simp only[hi,if_true]
  rw[ih (i+1) _ (by omega)]
  have hd:bs.data.toList.drop i=bs.get! i::bs.data.toList.drop (i+1):=by
   have hl:i<bs.data.toList.length:=hi
   rw[List.drop_eq_getElem_cons hl]
   congr 1
   show _=bs.data.get!Internal i
   have:bs.data.get!Internal i=bs.data[i]!:=rfl
   rw[this,Array.getElem!_eq_getD]
   have hh:i<bs.data.size:=hi
   simp[Array.getD]
   intro hge;exact absurd hh (Nat.not_lt.2 hge)
  rw[hd]
  simp
theorem DH (s:List UInt8):(⟨s.toArray⟩:ByteArray).toList=s:=by
 unfold ByteArray.toList
 rw[agA _ _ 0 [] rfl]
 simp
theorem TS {op:BinOp}{k j:IntKind}{m n:Int}{d:D}(h:vk op k m n=some d) :
  ∃ x,(Op.shift op k m j n).run P w=.ok x w∧RD w g.pm d x:=by
 unfold vk at h
 split at h
 ·simp at h
 ·rename_i hn
  have hn':¬ n<0:=by simpa using hn
  unfold Op.shift
  cases op<;>simp only[reduceCtorEq,Option.some.injEq]at h
  ·subst h
   refine⟨.int k (k.wrap (m*2 ^ min n.toNat k.bits)),?_,?_⟩
   ·simp[hn']
   ·rw[Cc];simp only[Int.natCast_pow,Int.cast_ofNat_Int];exact .int _ _
  ·subst h
   refine⟨.int k (m.fdiv (2 ^ min n.toNat k.bits)),?_,?_⟩
   ·simp[hn']
   ·simp only[Int.natCast_pow,Int.cast_ofNat_Int];exact .int _ _
theorem acf {op:BinOp}(hs:op≠.shl) (hs':op≠.shr) {ty:TypeId}{k:IntKind}{m n:Int}{d:D}(h:ew op k m n=some d) :
  ∃ x,(binOp op ty (.int k m) (.int k n)).run P w=.ok x w∧RD w g.pm d x:=by
 cases op<;>simp only[ew,zP,reduceCtorEq,Option.some.injEq]at h<;>(try exact absurd rfl hs)<;>(try exact absurd rfl hs')
 ·subst h;rw[Cc];exact⟨_,by simp[binOp,Op.intArith],.int _ _⟩
 ·subst h;rw[Cc];exact⟨_,by simp[binOp,Op.intArith],.int _ _⟩
 ·subst h;rw[Cc];exact⟨_,by simp[binOp,Op.intArith],.int _ _⟩
 ·split at h
  ·simp at h
  ·rename_i hn
   simp only[Option.some.injEq]at h
   subst h;rw[Cc];exact⟨_,by simp[binOp,Op.intDiv];simp only[decide_eq_false_iff_not]at hn;simp[hn],.int _ _⟩
 ·split at h
  ·simp at h
  ·rename_i hn
   simp only[Option.some.injEq]at h
   subst h;exact⟨_,by simp[binOp,Op.intDiv];simp only[decide_eq_false_iff_not]at hn;simp[hn],.int _ _⟩
 ·subst h;exact⟨_,by simp[binOp,Op.intBits],.int _ _⟩
 ·subst h;exact⟨_,by simp[binOp,Op.intBits],.int _ _⟩
 ·subst h;exact⟨_,by simp[binOp,Op.intBits],.int _ _⟩
 ·subst h;exact⟨_,by simp[binOp,Op.intBits],.int _ _⟩
 ·subst h;exact⟨_,by simp[binOp,Op.intCmp];rfl,by exact .bool _⟩
 ·subst h;exact⟨_,by simp[binOp,Op.intCmp];rfl,by exact .bool _⟩
 ·subst h;exact⟨_,by simp[binOp,Op.intCmp];rfl,by exact .bool _⟩
 ·subst h;exact⟨_,by simp[binOp,Op.intCmp];rfl,by exact .bool _⟩
 ·subst h;exact⟨_,by simp[binOp,Op.intCmp];rfl,by exact .bool _⟩
 ·subst h;exact⟨_,by simp[binOp,Op.intCmp];rfl,by exact .bool _⟩
theorem agc {op:BinOp}{ty:TypeId}{va vb r:AV}{x y:Value}{Oa Ob:Nat→Nat}(ra:RV g w va x Oa) (rb:RV g w vb y Ob) (h:bi op va vb=some r)
  (x' y':Operand):∃ z,((do eqGuard op ty x' y' x y;binOp op ty x y:Sem Value)).run P w=.ok z w∧RV g w r z zero:=by
 unfold bi at h
 split at h
 ·rename_i k m j n
  have hx:=mB ra rfl
  have hy:=mB rb rfl
  subst hx hy
  simp only[Sem.run_bind,Lv,Result.andThen_ok]
  split at h
  ·rename_i d hd
   simp only[Option.some.injEq]at h
   subst h
   have fin:(∃ z,(binOp op ty (.int k m) (.int j n)).run P w=.ok z w∧RD w g.pm d z)→
     ∃ z,(binOp op ty (.int k m) (.int j n)).run P w=.ok z w∧RV g w (.d d) z zero :=
    fun⟨z,h1,h2⟩=>⟨z,h1,by simp only[RV];exact⟨h2,fun _=>trivial⟩⟩
   apply fin
   unfold ku at hd
   split at hd
   ·simpa [binOp] using TS (P:=P) (g:=g) (w:=w) (j:=j) hd
   ·simpa [binOp] using TS (P:=P) (g:=g) (w:=w) (j:=j) hd
   ·rename_i h1 h2
    split at hd
    ·rename_i hk
     have:=oi hk
     subst this
     exact acf h1 h2 hd
    ·simp at hd
  ·simp at h
 ·rename_i s u
  have hx:=Xc ra rfl
  have hy:=Xc rb rfl
  subst hx hy
  simp only[Sem.run_bind,N6,Result.andThen_ok]
  cases op<;>simp only[reduceCtorEq,Option.some.injEq]at h
  ·split at h
   ·rename_i hb
    have hb2:s.length+u.length≤4294967296:=Nat.le_of_ble_eq_true hb
    injection h with h
    subst h
    have hd:(⟨s.toArray⟩++⟨u.toArray⟩:ByteArray)=⟨(s++u).toArray⟩:=by
     apply ByteArray.ext
     simp
    refine⟨.string (⟨s.toArray⟩++⟨u.toArray⟩),?_,?_⟩
    ·have h1:(⟨s.toArray⟩:ByteArray).size=s.length:=by simp[ByteArray.size]
     have h2:(⟨u.toArray⟩:ByteArray).size=u.length:=by simp[ByteArray.size]
     have hm:¬ (((s.length+u.length:Nat):Int) > IntKind.i64.max):=by
      have:IntKind.i64.max=9223372036854775807:=rfl
      rw[this];omega
     simp only[binOp,Op.stringOp,h1,h2,if_neg hm]
     rfl
    ·rw[hd]
     simp only[RV]
     exact⟨.str _,fun _=>trivial⟩
   ·exact absurd h (by simp)
  ·subst h
   exact⟨.bool (s == u),by simp[binOp,Op.stringOp,DH],vd _⟩
  ·subst h
   exact⟨.bool (!(s == u)),by simp[binOp,Op.stringOp,DH],vd _⟩
 ·simp at h
theorem ajd {op:BinOp}{x y:Rd}(s:S P g w st t O) (h:BS op x y st=some (a,st')) (hc:ar P (.bin op x y) o.op=true) :
  cA P g w t O st' a ((execOp (ev t) o).run P w):=by
 obtain⟨dst,opp,ty,pos,aft,gd⟩:=o
 simp only[ar]at hc
 split at hc
 ·rename_i op' ty' x' y' yt
  simp only[Bool.and_eq_true,QS,decide_eq_true_eq]at hc
  obtain⟨⟨rfl,h1⟩,h2⟩:=hc
  simp only[BS,FI]at h
  obtain⟨va,vb,e,Oa,Ob,O',ra,rb,s',l,hk⟩:=D3 s h1 h2 h
  split at hk
  ·rename_i r hr
   simp only[Option.some.injEq,Prod.mk.injEq]at hk
   obtain⟨rfl,rfl⟩:=hk
   obtain⟨z,hz,rz⟩:=agc (P:=P) (ty:=ty') ra rb hr x' y'
   refine .flat s (x:=z) ?_ rz s' fun b=>by have:=l b;omega
   simp only[execOp]
   rw[Sem.run_bind,hz];simp
  ·simp at hk
 ·simp at hc
theorem ak {ty:TypeId}{d:TypeDesc}(h:P.underlying ty=some d):(underlying ty).run P w=.ok d w:=by simp[underlying,h]
theorem we {ty:TypeId}(hu:P.underlying ty=some .bool) (d:Nat) (m n:Bool):(Op.equalIn (d+1) ty (.bool m) (.bool n)).run P w=.ok (m == n) w:=by
 unfold Op.equalIn
 rw[Sem.run_bind,ak hu]
 simp
theorem PR {ty:TypeId}(hu:P.underlying ty=some .bool) (neg:Bool) (m n:Bool) :
  (binOp (match neg with | true=>.neq | false=>.eql) ty (.bool m) (.bool n)).run P w=.ok (.bool (match neg with | true=>!(m == n) | false=>m == n)) w:=by
 have h:(Op.equal ty (.bool m) (.bool n)).run P w=.ok (m == n) w:=we hu 9999 m n
 cases neg
 ·show ((do pure (.bool (←Op.equal ty (.bool m) (.bool n))):Sem Value)).run P w=_
  rw[Sem.run_bind,h];rfl
 ·show ((do pure (.bool (!(←Op.equal ty (.bool m) (.bool n)))):Sem Value)).run P w=_
  rw[Sem.run_bind,h];rfl
theorem ahr {neg:Bool}{x y:Rd}(s:S P g w st t O) (h:zL neg x y st=some (a,st')) (hc:ar P (.binb neg x y) o.op=true) :
  cA P g w t O st' a ((execOp (ev t) o).run P w):=by
 obtain⟨dst,opp,ty,pos,aft,gd⟩:=o
 simp only[ar]at hc
 split at hc
 ·rename_i op' ty' x' y' yt
  simp only[Bool.and_eq_true,QS,decide_eq_true_eq]at hc
  obtain⟨⟨⟨h0,hb⟩,h1⟩,h2⟩:=hc
  obtain⟨va,vb,e,Oa,Ob,O',ra,rb,s',l,hk⟩:=D3 s h1 h2 h
  split at hk
  ·rename_i m n
   simp only[Option.some.injEq,Prod.mk.injEq]at hk
   obtain⟨rfl,rfl⟩:=hk
   have hx:=og ra rfl
   have hy:=og rb rfl
   simp only[Ao]at hb
   split at hb
   ·rename_i hu
    refine .flat s (x:=_) ?_ (vd _) s' fun b=>by have:=l b;omega
    subst h0
    have h:=PR (P:=P) (w:=w) hu neg m n
    simp only[execOp,hx,hy]
    rw[Sem.run_bind,Sem.run_bind,IW]
    cases neg
    ·exact(congrArg (fun r=>Result.andThen r fun a w'=>(Pure.pure (Next.value a):Sem Next).run P w') h)
    ·exact(congrArg (fun r=>Result.andThen r fun a w'=>(Pure.pure (Next.value a):Sem Next).run P w') h)
   ·simp at hb
  ·simp at hk
 ·simp at hc
theorem aj8 {op:UnOp}{x:Rd}(s:S P g w st t O) (h:PY op x st=some (a,st')) (hc:ar P (.un op x) o.op=true) :
  cA P g w t O st' a ((execOp (ev t) o).run P w):=by
 obtain⟨dst,opp,ty,pos,aft,gd⟩:=o
 simp only[ar]at hc
 split at hc
 ·rename_i op' ty' x'
  simp only[Bool.and_eq_true,ahH,decide_eq_true_eq]at hc
  obtain⟨rfl,h1⟩:=hc
  obtain⟨v,e,hr,hk⟩:=zK h
  obtain⟨Ov,O',rv,s',l⟩:=s.rd h1 hr
  split at hk
  ·rename_i r hun
   simp only[Option.some.injEq,Prod.mk.injEq]at hk
   obtain⟨rfl,rfl⟩:=hk
   unfold En at hun
   split at hun
   ·rename_i k n
    have hx:=mB rv rfl
    cases op<;>simp only[reduceCtorEq,Option.some.injEq]at hun
    ·subst hun
     rw[Cc]
     exact .flat s (x:=_) (by simp[execOp,hx,Op.unary,Op.intArith]) (jZ _ _) s' (S.le_left l)
    ·split at hun
     ·rename_i d hd
      simp only[Option.some.injEq]at hun
      subst hun
      simp only[zP,Option.some.injEq]at hd
      subst hd
      exact .flat s (x:=_) (by simp[execOp,hx,Op.unary,Op.intBits]) (jZ _ _) s' (S.le_left l)
     ·simp at hun
   ·rename_i b
    have hx:=og rv rfl
    cases op<;>simp only[reduceCtorEq,Option.some.injEq]at hun
    subst hun
    exact .flat s (x:=_) (by simp[execOp,hx,Op.unary]) (vd _) s' (S.le_left l)
   ·simp at hun
  ·simp at hk
 ·simp at hc
end
end Go.Vm
namespace Go.Vm
theorem eD (b off n:Nat):(⟨b,off,none⟩:Addr).add n=⟨b,off+n,none⟩:=by
 unfold Addr.add;split
 ·rename_i h;subst h;rfl
 ·rfl
section
variable {g:Gh}{w:World}
theorem ai.length {cs:List AV}{xs:List Value}{O:Nat→Nat}(r:ai g w cs xs O):xs.length=cs.length:=by
 induction cs generalizing xs O with
 | nil=>simp only[ai]at r;simp[r.1]
 | cons c cs ih =>
  simp only[ai]at r
  obtain⟨x,s,O1,O2,rfl,_,r2,_⟩:=r
  simp[ih r2]
theorem ai.split {a b:List AV}{xs:List Value}{O:Nat→Nat}(r:ai g w (a++b) xs O) :
  ∃ O1 O2,ai g w a (xs.take a.length) O1∧ai g w b (xs.drop a.length) O2∧∀ c,O c=O1 c+O2 c:=by
 induction a generalizing xs O with
 | nil=>exact⟨zero,O,by simp[ai],by simpa using r,fun c=>by simp⟩
 | cons v a ih =>
  simp only[List.cons_append,ai]at r
  obtain⟨x,s,O1,O2,rfl,r1,r2,h⟩:=r
  obtain⟨P1,P2,q1,q2,h2⟩:=ih r2
  refine⟨fun c=>O1 c+P1 c,P2,?_,by simpa using q2,fun c=>by have:=h c;have:=h2 c;show O c=O1 c+P1 c+P2 c;omega⟩
  simp only[ai,List.length_cons,List.take_succ_cons]
  exact⟨x,_,O1,P1,rfl,r1,q1,fun _=>rfl⟩
theorem ai.join {a b:List AV}{xs ys:List Value}{O1 O2:Nat→Nat}(r1:ai g w a xs O1) (r2:ai g w b ys O2) :
  ai g w (a++b) (xs++ys) fun c=>O1 c+O2 c:=by
 induction a generalizing xs O1 with
 | nil =>
  simp only[ai]at r1
  obtain⟨rfl,h⟩:=r1
  have:(fun c=>O1 c+O2 c)=O2:=by funext c;simp[h c]
  rw[this];simpa using r2
 | cons v a ih =>
  simp only[ai]at r1
  obtain⟨x,s,P1,P2,rfl,q1,q2,h⟩:=r1
  simp only[List.cons_append,ai]
  exact⟨x,s++ys,P1,fun c=>P2 c+O2 c,rfl,q1,ih q2,fun c=>by have:=h c;show O1 c+O2 c=P1 c+(P2 c+O2 c);omega⟩
theorem ai.get {cs:List AV}{xs:List Value}{O:Nat→Nat}(r:ai g w cs xs O) {i:Nat}{v:AV}(h:cs[i]?=some v) :
  ∃ x O1,xs[i]?=some x∧RV g w v x O1∧∀ c,O1 c≤O c:=by
 induction cs generalizing xs O i with
 | nil=>simp at h
 | cons c cs ih =>
  simp only[ai]at r
  obtain⟨x,s,O1,O2,rfl,r1,r2,hs⟩:=r
  cases i with
  | zero=>simp at h;subst h;exact⟨x,O1,rfl,r1,fun c=>by rw[hs c];omega⟩
  | succ i =>
   simp at h
   obtain⟨y,P1,h1,h2,h3⟩:=ih r2 h
   exact⟨y,P1,by simpa using h1,h2,fun c=>by have:=h3 c;rw[hs c];omega⟩
theorem ai.pull {cs:List AV}{xs:List Value}{O:Nat→Nat}(r:ai g w cs xs O) {i:Nat}{v:AV}(h:cs[i]?=some v) :
  ∃ x O1 O2,xs[i]?=some x∧RV g w v x O1∧ai g w (cs.set i .junk) xs O2∧∀ c,O1 c+O2 c=O c:=by
 induction cs generalizing xs O i with
 | nil=>simp at h
 | cons c cs ih =>
  simp only[ai]at r
  obtain⟨x,s,O1,O2,rfl,r1,r2,hs⟩:=r
  cases i with
  | zero =>
   simp at h;subst h
   refine⟨x,O1,O2,rfl,r1,?_,fun c=>(hs c).symm⟩
   simp only[List.set_cons_zero,ai]
   exact⟨x,s,zero,O2,rfl,by simp[RV],r2,fun c=>by simp⟩
  | succ i =>
   simp at h
   obtain⟨y,P1,P2,h1,h2,h3,h4⟩:=ih r2 h
   refine⟨y,P1,fun c=>O1 c+P2 c,by simpa using h1,h2,?_,fun c=>by have:=h4 c;have:=hs c;show P1 c+(O1 c+P2 c)=O c;omega⟩
   simp only[List.set_cons_succ,ai]
   exact⟨x,s,O1,P2,rfl,r1,h3,fun _=>rfl⟩
theorem ai.sub {cs:List AV}{xs:List Value}{O:Nat→Nat}(r:ai g w cs xs O) (off n:Nat) :
  ∃ O1,ai g w (Vm.sub cs off n) ((xs.drop off).take n) O1∧∀ c,O1 c≤O c:=by
 have hlen:=r.length
 have e:cs=cs.take off++(Vm.sub cs off n++(cs.drop off).drop n):=by
  simp only[Vm.sub,List.take_append_drop]
 rw[e]at r
 obtain⟨O1,O2,r1,r2,h⟩:=r.split
 obtain⟨P1,P2,q1,q2,h2⟩:=r2.split
 refine⟨P1,?_,fun c=>by have:=h c;have:=h2 c;omega⟩
 have e1:xs.drop (cs.take off).length=xs.drop off:=by
  rw[List.length_take]
  rcases Nat.le_total off cs.length with h | h
  ·rw[Nat.min_eq_left h]
  ·rw[Nat.min_eq_right h,List.drop_eq_nil_of_le (by omega),List.drop_eq_nil_of_le (by omega)]
 have e2:(xs.drop off).take (Vm.sub cs off n).length=(xs.drop off).take n:=by
  simp only[Vm.sub,List.length_take,List.length_drop]
  rcases Nat.le_total n (cs.length-off) with h | h
  ·rw[Nat.min_eq_left h]
  ·rw[Nat.min_eq_right h,List.take_of_length_le (by simp;omega),List.take_of_length_le (by simp;omega)]
 rw[e1,e2]at q1
 exact q1
theorem EE {v:AV}{n:Nat}{x:Value}{O:Nat→Nat}(h:lenOf v=some n) (r:RV g w v x O):∃ a cap,x=.slice a n cap:=by
 unfold lenOf at h
 split at h<;>simp only[Option.some.injEq,reduceCtorEq]at h
 ·subst h;simp only[RV]at r;obtain⟨r,_⟩:=r
  cases r with
  | nil a cap=>exact⟨a,cap,rfl⟩
  | lst xs b off m cap u hm hcap hl hc hr=>exact⟨_,cap,rfl⟩
 ·subst h;simp only[RV]at r;exact⟨_,_,r.1⟩
 ·subst h;simp only[RV,li]at r
  rcases r with ⟨rfl,_,a,e⟩ | ⟨b,off,cap,c,el,e,_⟩
  ·exact⟨a,0,e⟩
  ·exact⟨_,cap,e⟩
 ·subst h;simp only[RV]at r;exact r.1
 ·subst h;simp only[RV]at r
  obtain⟨⟨rfl,a,e⟩ | ⟨b,cap,_,e,_⟩,_⟩:=r
  ·exact⟨a,0,e⟩
  ·exact⟨_,cap,e⟩
end
section
variable {P:Program}{g:Gh}{w:World}{t:Array Value}{O:Nat→Nat}{st st':St}{a:AV}{o:Oper}
theorem iL {c:Callee}{b:Builtin}(h:Cz (iA c) (some b)=true):c=.builtin b:=by
 cases c<;>simp[iA,Cz]at h
 subst h;rfl
theorem SP {c:Call}(h:Nat.blt 0 c.argTypes.size=true):c.argTypes[0]?=some (iS c):=by
 have:0<c.argTypes.size:=by simpa [Nat.blt_eq] using h
 simp[iS,Array.getD,this]
theorem abm {x:Rd}{as:Array Operand}(h:bD [x] as.toList=true):∃ y,as=#[y]∧aN x y=true:=by
 obtain⟨l⟩:=as
 match l,h with
 | [],h=>simp[bD]at h
 | [y],h=>simp only[bD,Bool.and_eq_true]at h;exact⟨y,rfl,h.1⟩
 | _::_::_,h=>simp[bD]at h
theorem aa1 {x x2:Rd}{as:Array Operand}(h:bD [x,x2] as.toList=true):∃ y y2,as=#[y,y2]∧aN x y=true∧aN x2 y2=true:=by
 obtain⟨l⟩:=as
 match l,h with
 | [],h=>simp[bD]at h
 | [y],h=>simp[bD]at h
 | [y,y2],h=>simp only[bD,Bool.and_eq_true]at h;exact⟨y,y2,rfl,h.1,h.2.1⟩
 | _::_::_::_,h=>simp[bD]at h
theorem ah2 {x:Rd}(s:S P g w st t O) (h:FB x st=some (a,st')) (hc:ar P (.len x) o.op=true) :
  cA P g w t O st' a ((execOp (ev t) o).run P w):=by
 obtain⟨dst,op,ty,pos,aft,gd⟩:=o
 simp only[ar]at hc
 split at hc
 ·rename_i c
  simp only[Bool.and_eq_true]at hc
  obtain⟨⟨⟨h1,h2⟩,h3⟩,h4⟩:=hc
  obtain⟨callee,args,ats⟩:=c
  have:=iL h1;subst this
  obtain⟨y,e1,hy⟩:=abm h4
  simp only at e1;subst e1
  obtain⟨v,e',h5,h6⟩:=zK h
  obtain⟨Ov,O',rv,s',l⟩:=s.rd hy h5
  have hty:=SP h2
  split at h6
  ·rename_i n hn
   simp only[Option.some.injEq,Prod.mk.injEq]at h6
   obtain⟨rfl,rfl⟩:=h6
   obtain⟨ad,cap,hx⟩:=EE hn rv
   split at h3
   ·rename_i e hu
    refine .flat s (x:=.int .i64 n) ?_ (jZ _ _) s' (S.le_left l)
    generalize iS ⟨.builtin .len,#[y],ats⟩=T at hu hty
    simp[execOp,resolve,invoke,builtin,Builtin.len_,hty,hx,ak hu,goInt]
   ·simp at h3
  ·simp at h6
 ·simp at hc
theorem aiG {x:Rd}(s:S P g w st t O) (h:AD x st=some (a,st')) (hc:ar P (.cap x) o.op=true) :
  cA P g w t O st' a ((execOp (ev t) o).run P w):=by
 obtain⟨dst,op,ty,pos,aft,gd⟩:=o
 simp only[ar]at hc
 split at hc
 ·rename_i c
  simp only[Bool.and_eq_true]at hc
  obtain⟨⟨⟨h1,h2⟩,h3⟩,h4⟩:=hc
  obtain⟨callee,args,ats⟩:=c
  have:=iL h1;subst this
  obtain⟨y,e1,hy⟩:=abm h4
  simp only at e1;subst e1
  unfold AD at h
  split at h
  ·rename_i e' h5
   obtain⟨Ov,O',rv,s',l⟩:=s.rd hy h5
   have hty:=SP h2
   simp only[Option.some.injEq,Prod.mk.injEq]at h
   obtain⟨rfl,rfl⟩:=h
   simp only[RV]at rv
   split at h3
   ·rename_i e hu
    refine .flat s (x:=.int .i64 0) ?_ (jZ _ _) s' (S.le_left l)
    generalize iS ⟨.builtin .cap,#[y],ats⟩=T at hu hty
    simp[execOp,resolve,invoke,builtin,Builtin.cap_,hty,rv.1,ak hu,goInt]
   ·simp at h3
  ·simp at h
 ·simp at hc
theorem Pw {v r:AV}{off:Nat}{x:Value}{Ov:Nat→Nat}(h:bM off v=some r) (rv:RV g w v x Ov) :
  ∃ b o,x=.pointer (some ⟨b,o,none⟩)∧RV g w r (.pointer (some ⟨b,o+off,none⟩)) zero:=by
 unfold bM at h
 split at h<;>simp only[Option.some.injEq,reduceCtorEq]at h
 ·subst h;simp only[RV]at rv⊢
  obtain⟨⟨b,hb,e⟩,_⟩:=rv
  exact⟨b,_,e,⟨b,hb,by simp[Nat.add_assoc]⟩,fun _=>trivial⟩
 ·subst h;simp only[RV]at rv⊢
  obtain⟨⟨b,hb,e⟩,_⟩:=rv
  exact⟨b,_,e,⟨b,hb,by simp[Nat.add_assoc]⟩,fun _=>trivial⟩
 ·subst h;simp only[RV]at rv⊢
  obtain⟨⟨b,k,e,hr,hp⟩,_⟩:=rv
  exact⟨b,_,e,⟨b,k,by simp[Nat.add_assoc],hr,hp⟩,fun _=>trivial⟩
theorem aju {off:Nat}{p:Rd}(s:S P g w st t O) (h:QM off p st=some (a,st')) (hc:ar P (.fa off p) o.op=true) :
  cA P g w t O st' a ((execOp (ev t) o).run P w):=by
 obtain⟨dst,op,ty,pos,aft,gd⟩:=o
 simp only[ar]at hc
 split at hc
 ·rename_i ty' y f
  simp only[Bool.and_eq_true]at hc
  obtain⟨h1,h2⟩:=hc
  obtain⟨v,e',h5,h6⟩:=zK h
  obtain⟨Ov,O',rv,s',l⟩:=s.rd h2 h5
  split at h6
  ·rename_i r hr
   simp only[Option.some.injEq,Prod.mk.injEq]at h6
   obtain⟨rfl,rfl⟩:=h6
   obtain⟨b,k,hx,rr⟩:=Pw hr rv
   simp only[Zf]at h1
   split at h1
   ·rename_i fs hu
    split at h1
    ·rename_i x hf
     simp only[Bool.and_eq_true,Nat.beq_eq]at h1
     obtain⟨rfl,h1⟩:=h1
     split at h1
     ·rename_i i hi
      have hz:¬ i.size=0:=by
       have:0<i.size:=by simpa [Nat.blt_eq] using h1
       omega
      refine .flat s (x:=_) ?_ rr s' (S.le_left l)
      simp[execOp,Instr.fieldAt,ak hu,hf,hx,Instr.sureAddr,fieldPlace,sizeOf,typeInfo,hi,hz,eD]
     ·simp at h1
    ·simp at h1
   ·simp at h1
  ·simp at h6
 ·simp at hc
theorem aga {f:FuncId}{first caps:List Rd}(s:S P g w st t O) (h:wJ f first caps st=some (a,st')) (hc:ar P (.mkfn f first caps) o.op=true) :
  cA P g w t O st' a ((execOp (ev t) o).run P w):=by
 obtain⟨dst,op,ty,pos,aft,gd⟩:=o
 simp only[ar]at hc
 split at hc
 ·rename_i f' xs ys
  simp only[Bool.and_eq_true,Nat.beq_eq]at hc
  obtain⟨⟨rfl,h1⟩,h2⟩:=hc
  unfold wJ at h
  split at h
  ·rename_i va e1 h3
   obtain⟨O1,O2,r1,s1,l1⟩:=s.rdAll h1 h3
   split at h
   ·rename_i vc e2 h4
    obtain⟨O3,O4,r2,s2,l2⟩:=s1.rdAll h2 h4
    simp only[Option.some.injEq,Prod.mk.injEq]at h
    obtain⟨rfl,rfl⟩:=h
    refine .flat s (x:=.func (.func f) (xs.map (ev t)) (ys.map (ev t))) (by simp[execOp,Instr.makeFunc]) ?_ s2 fun b=>by have:=l1 b;have:=l2 b;omega
    simp only[RV]
    exact⟨⟨_,_,rfl,by simpa using ai.share _ _ _ r1,by simpa using ai.share _ _ _ r2⟩,fun _=>trivial⟩
   ·simp at h
  ·simp at h
 ·simp at hc
end
end Go.Vm
namespace Go.Vm
section
variable {P:Program}{g:Gh}{w:World}{t:Array Value}{O:Nat→Nat}{st st':St}{a:AV}{o:Oper}
theorem xM {v:AV}{n:Nat}{x:Value}{Ov:Nat→Nat}(h:ej v=some n) (r:RV g w v x Ov):∃ k,x=.int k (n:Int):=by
 unfold ej at h
 split at h<;>simp only[Option.some.injEq,reduceCtorEq]at h
 subst h;simp only[RV]at r;obtain⟨r,_⟩:=r;cases r;exact⟨_,rfl⟩
theorem sS {v:AV}{n top:Nat}{x:Value}{Ov:Nat→Nat}(h:bO v top=some n) (r:RV g w v x Ov):(∃ k,x=.int k (n:Int))∧n≤top:=by
 unfold bO at h
 split at h
 ·split at h<;>simp only[Option.some.injEq,reduceCtorEq]at h
  rename_i hb
  subst h;simp only[RV]at r;obtain⟨r,_⟩:=r;cases r;exact⟨⟨_,rfl⟩,by simpa [Nat.ble_eq] using hb⟩
 ·simp at h
theorem bT {ty:TypeId}{n:Nat}(h:kW P ty n=true):(sizeOf ty).run P w=.ok n w:=by
 unfold kW at h
 split at h
 ·rename_i i hi
  rw[Nat.beq_eq]at h;subst h
  simp[sizeOf,typeInfo,hi]
 ·simp at h
theorem ma {ty:TypeId}(h:oS P ty=true):(isAgg ty).run P w=.ok true w:=by
 unfold oS at h
 split at h
 ·rename_i hu;simp[isAgg,ak hu]
 ·rename_i hu;simp[isAgg,ak hu]
 ·simp at h
theorem oT {ty:TypeId}(h:xx P ty=true):(isAgg ty).run P w=.ok false w:=by
 unfold xx at h
 split at h<;>try (simp at h;done)
 rename_i d h1 h2 hu
 simp only[isAgg,Sem.run_bind,ak hu,Result.andThen_ok]
 cases d<;>first | rfl | exact absurd rfl (h1 _) | exact absurd rfl (h2 _ _)
theorem Yl {ty:TypeId}{n:Option Nat}(ht:gQ P ty n=true) {cs:List AV}{xs:Array Value}{Ov:Nat→Nat}(r:ai g w cs xs.toList Ov) {off:Nat}{v:AV}
  (h:jj n cs off=some v) :
  ∃ x O1,(part ty xs off).run P w=.ok x w∧RV g w v x O1∧∀ b,O1 b≤Ov b:=by
 cases n with
 | none =>
  simp only[gQ]at ht
  simp only[jj]at h
  obtain⟨x,O1,hx,rv,l⟩:=r.get h
  refine⟨x,O1,?_,rv,l⟩
  have hx':xs[off]?=some x:=by rw[←Array.getElem?_toList];exact hx
  simp[part,oT ht,hx']
 | some n =>
  simp only[gQ,Bool.and_eq_true]at ht
  simp only[jj]at h
  split at h
  ·rename_i hle
   simp only[Option.some.injEq]at h;subst h
   obtain⟨O1,r1,l⟩:=r.sub off n
   refine⟨.agg (xs.extract off (off+n)),O1,by simp[part,ma ht.1,bT ht.2],?_,l⟩
   simp only[RV]
   refine⟨_,rfl,?_⟩
   have:(xs.extract off (off+n)).toList=(xs.toList.drop off).take n:=by
    simp[List.extract_eq_take_drop]
   rw[this];exact r1
  ·simp at h
theorem ah1 {off:Nat}{n:Option Nat}{x:Rd}(s:S P g w st t O) (h:Br off n x st=some (a,st')) (hc:ar P (.fld off n x) o.op=true) :
  cA P g w t O st' a ((execOp (ev t) o).run P w):=by
 obtain⟨dst,op,ty,pos,aft,gd⟩:=o
 simp only[ar]at hc
 split at hc
 ·rename_i ty' y f
  simp only[Bool.and_eq_true]at hc
  obtain⟨h1,h2⟩:=hc
  unfold Br at h
  split at h
  ·rename_i cs e' h5
   obtain⟨Ov,O',rv,s',l⟩:=s.rd h2 h5
   simp only[RV]at rv
   obtain⟨xs,hx,rv⟩:=rv
   simp only[Ia]at h1
   split at h1
   ·rename_i fs hu
    split at h1
    ·rename_i fl hf
     simp only[Bool.and_eq_true,Nat.beq_eq]at h1
     obtain⟨rfl,h1⟩:=h1
     split at h
     ·rename_i v hv
      simp only[Option.some.injEq,Prod.mk.injEq]at h
      obtain⟨rfl,rfl⟩:=h
      obtain⟨z,O1,hz,rz,l1⟩:=Yl (P:=P) h1 rv hv
      refine .pure s (x:=z) ?_ rz s' fun b=>by have:=l b;have:=l1 b;omega
      simp[execOp,Instr.field,ak hu,hf,hx,asAgg,hz]
     ·simp at h
    ·simp at h1
   ·simp at h1
  ·simp at h
 ·simp at hc
theorem ahG {j:Nat}{mv:Bool}{i:Nat}(s:S P g w st t O) (h:oW j mv i st=some (a,st')) (hc:ar P (.ext j mv i) o.op=true) :
  cA P g w t O st' a ((execOp (ev t) o).run P w):=by
 obtain⟨dst,op,ty,pos,aft,gd⟩:=o
 simp only[ar]at hc
 split at hc
 ·rename_i tt k
  simp only[Bool.and_eq_true,Nat.beq_eq]at hc
  obtain⟨rfl,rfl⟩:=hc
  unfold oW at h
  split at h
  ·rename_i vs hg
   split at h
   ·rename_i v hv
    obtain⟨Oe,Oh,re,rh,ho⟩:=s.parts
    obtain⟨O1,O2,⟨hlt,q⟩,r2,hs⟩:=RL.take re hg
    simp only[RV]at q
    obtain⟨xs,hx,q⟩:=q
    obtain⟨x,P1,P2,hx2,rv,rj,hl⟩:=q.pull hv
    have hx3:xs[i]?=some x:=by rw[←Array.getElem?_toList];exact hx2
    have hrun:(execOp (ev t) ⟨dst,.extract (.tmp j) i,ty,pos,aft,gd⟩).run P w=.ok (.value x) w:=by
     simp[execOp,ev,Instr.extract,hx,hx3]
    cases mv with
    | false =>
     simp only[Option.some.injEq,Prod.mk.injEq]at h
     obtain⟨rfl,rfl⟩:=h
     exact .flat s hrun (RV.share _ _ _ rv) s fun b=>Nat.le_refl _
    | true =>
     simp only[Option.some.injEq,Prod.mk.injEq]at h
     obtain⟨rfl,rfl⟩:=h
     obtain⟨O3,r3,h3⟩:=RL.put s.se r2 (i:=j) (x:=AV.tup (vs.set i .junk)) (O1:=P2) ⟨hlt,by simp only[RV];exact⟨xs,hx,rj⟩⟩
     refine .pure s hrun rv (s.of_env (O':=fun b=>O3 b+Oh b) r3 rh (s.se.put _ _) (fun _=>rfl) fun b=>?_) fun b=>?_
     ·have:=h3 b;have:=hs b;have:=ho b;have:=hl b;show O3 b+Oh b≤O b;omega
     ·have:=h3 b;have:=hs b;have:=ho b;have:=hl b;show P1 b+(O3 b+Oh b)≤O b;omega
   ·simp at h
  ·simp at h
 ·simp at hc
theorem abE {ty:TypeId}{l e:Nat}(hu:P.underlying ty=some (.array l e)) {xs:Array Value}{k:IntKind}{i n:Nat}(hi:i<l) (hs:kW P e n=true) :
  (Instr.index ty (.agg xs) (.int k (i:Int))).run P w=(part e xs (i*n)).run P w:=by
 simp[Instr.index,asIntOf,ak hu,hi,bT hs]
theorem ajH {len n:Nat}{agg:Bool}{x i:Rd}(s:S P g w st t O) (h:IM len n agg x i st=some (a,st')) (hc:ar P (.ix len n agg x i) o.op=true) :
  cA P g w t O st' a ((execOp (ev t) o).run P w):=by
 obtain⟨dst,op,ty,pos,aft,gd⟩:=o
 simp only[ar]at hc
 split at hc
 ·rename_i ty' y j
  simp only[Bool.and_eq_true]at hc
  obtain⟨⟨h1,h2⟩,h3⟩:=hc
  unfold IM at h
  split at h
  ·rename_i cs e1 h5
   obtain⟨Ov,O1,rv,s1,l1⟩:=s.rd h2 h5
   simp only[RV]at rv
   obtain⟨xs,hx,rv⟩:=rv
   split at h
   ·rename_i vi e2 h6
    obtain⟨Oi,O2,ri,s2,l2⟩:=s1.rd h3 h6
    split at h
    ·rename_i k hk
     obtain⟨kk,hk2⟩:=xM hk ri
     split at h
     ·simp at h
     ·rename_i hb
      have hlt:k<len:=by rw[←Bool.not_eq_true,Nat.ble_eq]at hb;omega
      simp only[NB]at h1
      split at h1
      ·rename_i l el hu
       simp only[Bool.and_eq_true,Nat.beq_eq]at h1
       obtain⟨⟨rfl,hsz⟩,hag⟩:=h1
       split at h
       ·rename_i v hv
        simp only[Option.some.injEq,Prod.mk.injEq]at h
        obtain⟨rfl,rfl⟩:=h
        have hc:gQ P el (EQ agg n)=true:=by
         cases agg
         ·simpa only[gQ,EQ] using hag
         ·simp only[gQ,EQ,Bool.and_eq_true];exact⟨hag,hsz⟩
        obtain⟨z,O3,hz,rz,l3⟩:=Yl (P:=P) hc rv hv
        refine .pure s (x:=z) ?_ rz s2 fun b=>by have:=l1 b;have:=l2 b;have:=l3 b;omega
        simp only[execOp,hx,hk2]
        rw[Sem.run_bind,abE hu hlt hsz,hz];rfl
       ·simp at h
      ·simp at h1
    ·simp at h
   ·simp at h
  ·simp at h
 ·simp at hc
theorem ahR {x i:Rd}(s:S P g w st t O) (h:Cg x i st=some (a,st')) (hc:ar P (.ixs x i) o.op=true) :
  cA P g w t O st' a ((execOp (ev t) o).run P w):=by
 obtain⟨dst,op,ty,pos,aft,gd⟩:=o
 simp only[ar]at hc
 split at hc
 ·rename_i ty' y j
  simp only[Bool.and_eq_true]at hc
  obtain⟨⟨h1,h2⟩,h3⟩:=hc
  unfold Cg at h
  split at h
  ·rename_i str e1 h5
   obtain⟨Ov,O1,rv,s1,l1⟩:=s.rd h2 h5
   have hx:=Xc rv rfl
   split at h
   ·rename_i vi e2 h6
    obtain⟨Oi,O2,ri,s2,l2⟩:=s1.rd h3 h6
    split at h
    ·rename_i k hk
     obtain⟨kk,hk2⟩:=xM hk ri
     split at h
     ·rename_i b hb
      simp only[Option.some.injEq,Prod.mk.injEq]at h
      obtain⟨rfl,rfl⟩:=h
      simp only[Ax]at h1
      split at h1
      ·rename_i hu
       refine .flat s (x:=.int .u8 b.toNat) ?_ (jZ _ _) s2 fun c=>by have:=l1 c;have:=l2 c;omega
       have hlen:k<str.length:=by
        rcases Nat.lt_or_ge k str.length with h | h
        ·exact h
        ·simp[List.getElem?_eq_none h]at hb
       have hg:(⟨str.toArray⟩:ByteArray)[k]?=some b:=by
        have hs:k<(⟨str.toArray⟩:ByteArray).size:=hlen
        rw[getElem?_pos (⟨str.toArray⟩:ByteArray) k hs]
        rw[List.getElem?_eq_getElem hlen]at hb
        exact hb
       simp[execOp,hx,hk2,Instr.index,asIntOf,ak hu,hg]
      ·simp at h1
     ·simp at h
    ·simp at h
   ·simp at h
  ·simp at h
 ·simp at hc
theorem agV {len n:Nat}{p i:Rd}(s:S P g w st t O) (h:Ah len n p i st=some (a,st')) (hc:ar P (.iarr len n p i) o.op=true) :
  cA P g w t O st' a ((execOp (ev t) o).run P w):=by
 obtain⟨dst,op,ty,pos,aft,gd⟩:=o
 simp only[ar]at hc
 split at hc
 ·rename_i ty' y j
  simp only[Bool.and_eq_true]at hc
  obtain⟨⟨h1,h2⟩,h3⟩:=hc
  obtain⟨v,vi,e,Ov,Oi,O',rv,ri,s',l,hk⟩:=D3 s h2 h3 h
  split at hk
  ·rename_i k hk1
   obtain⟨kk,hk2⟩:=xM hk1 ri
   split at hk
   ·simp at hk
   ·rename_i hb
    have hlt:k<len:=by rw[←Bool.not_eq_true,Nat.ble_eq]at hb;omega
    split at hk
    ·rename_i r hr
     simp only[Option.some.injEq,Prod.mk.injEq]at hk
     obtain⟨rfl,rfl⟩:=hk
     obtain⟨b,off,hx,rr⟩:=Pw hr rv
     simp only[FT]at h1
     split at h1
     ·rename_i l' el hu
      simp only[Bool.and_eq_true,Nat.beq_eq]at h1
      obtain⟨⟨rfl,hsz⟩,_⟩:=h1
      refine .flat s (x:=_) ?_ rr s' fun c=>by have:=l c;omega
      simp[execOp,hx,hk2,Instr.indexAt,asIntOf,ak hu,Instr.sureAddr,hlt,bT hsz,eD]
     ·simp at h1
    ·simp at hk
  ·simp at hk
 ·simp at hc
end
end Go.Vm
namespace Go.Vm
theorem wx {xs:List (List D)}{m:Nat}(h:∀ e∈xs,e.length=m) (l:Nat):(xs.drop l).flatten=xs.flatten.drop (l*m):=by
 induction xs generalizing l with
 | nil=>simp
 | cons a r ih =>
  cases l with
  | zero=>simp
  | succ l =>
   have ha:=h a (.head _)
   simp only[List.drop_succ_cons,List.flatten_cons]
   rw[ih (fun e he=>h e (.tail _ he)),Nat.succ_mul,Nat.add_comm,List.drop_append,ha]
   simp[List.drop_eq_nil_of_le,ha]
theorem wI {xs:List (List D)}{m:Nat}(h:∀ e∈xs,e.length=m) (l:Nat):(xs.take l).flatten=xs.flatten.take (l*m):=by
 induction xs generalizing l with
 | nil=>simp
 | cons a r ih =>
  cases l with
  | zero=>simp
  | succ l =>
   have ha:=h a (.head _)
   simp only[List.take_succ_cons,List.flatten_cons]
   rw[ih (fun e he=>h e (.tail _ he)),Nat.succ_mul,Nat.add_comm,List.take_append,ha]
   congr 1
   ·rw[List.take_of_length_le (by omega)]
   ·congr 1;omega
theorem vj {xs:List (List D)}{m:Nat}(h:∀ e∈xs,e.length=m) (l n:Nat):∀ e∈sub xs l n,e.length=m :=
 fun e he=>h e (List.mem_of_mem_drop (List.mem_of_mem_take he))
theorem gF {xs:List (List D)}{m:Nat}(h:∀ e∈xs,e.length=m) (l n:Nat):(sub xs l n).flatten=sub xs.flatten (l*m) (n*m):=by
 unfold sub
 rw[wI (fun e he=>h e (List.mem_of_mem_drop he)),wx h]
theorem Zs {α:Type}{xs:List α}{l n j:Nat}{c:α}(h:(sub xs l n)[j]?=some c):xs[l+j]?=some c∧j<n:=by
 unfold sub at h
 rw[List.getElem?_take]at h
 split at h
 ·exact⟨by rw[List.getElem?_drop]at h;exact h,by assumption⟩
 ·simp at h
theorem eK {α:Type}{xs:List α}{l n:Nat}(h:l+n≤xs.length):(sub xs l n).length=n:=by
 unfold sub;simp;omega
theorem Eo {xs:List (List D)}{m:Nat}(h:∀ e∈xs,e.length=m) {i j:Nat}{e:List D}{c:D}(hi:xs[i]?=some e) (hj:e[j]?=some c) :
  xs.flatten[i*m+j]?=some c:=by
 have hm:e.length=m:=h e (List.mem_of_getElem? hi)
 have hlt:j<m:=by
  rcases Nat.lt_or_ge j m with h' | h'
  ·exact h'
  ·rw[List.getElem?_eq_none (by omega)]at hj;simp at hj
 rw[←List.getElem?_drop,←wx h]
 have:xs.drop i=e::xs.drop (i+1):=by
  have hl:i<xs.length:=by
   rcases Nat.lt_or_ge i xs.length with h' | h'
   ·exact h'
   ·rw[List.getElem?_eq_none h']at hi;simp at hi
  rw[List.drop_eq_getElem_cons hl]
  rw[List.getElem?_eq_getElem hl]at hi
  simp only[Option.some.injEq]at hi
  rw[hi]
 rw[this,List.flatten_cons,List.getElem?_append_left (by omega)]
 exact hj
section
variable {g:Gh}{w:World}
theorem RD.list {pm:Nat→Nat→Prop}{xs:List (List D)}{x:Value}(r:RD w pm (.lst xs) x) :
  (xs=[]∧∃ a cap,x=.slice a 0 cap)∨∃ b off m cap,x=.slice (some ⟨b,off,none⟩) xs.length cap∧0<m∧xs.length≤cap∧(∀ e∈xs,e.length=m)∧
   eS w pm xs.flatten b off∧∀ j,j<xs.length*m→pm b (off+j):=by
 cases r with
 | nil a cap=>exact .inl ⟨rfl,a,cap,rfl⟩
 | lst xs b off m cap u hm hcap hl hc hr =>
  refine .inr ⟨b,off,m,cap,rfl,hm,hcap,hl,fun j c hj=>⟨u j,(hc j c hj).1,hr j c hj⟩,fun j hj=>?_⟩
  have:j<xs.flatten.length:=by rw[cD hl];exact hj
  exact(hc j xs.flatten[j] (by simp)).2
theorem Sh {h:ac}{v:AV}{xs:List (List D)}{x:Value}{O:Nat→Nat}(he:elems h v=some xs) (hn:nC v=false) (r:RV g w v x O) :
  RD w g.pm (.lst xs) x:=by
 cases v with
 | d c =>
  cases c<;>simp only[elems,reduceCtorEq,Option.some.injEq]at he
  subst he;simp only[RV]at r;exact r.1
 | nl=>simp only[elems,Option.some.injEq]at he;subst he;simp only[RV]at r;rw[r.1];exact .nil _ _
 | own p m ys =>
  cases p<;>simp only[elems,reduceCtorEq,Option.some.injEq]at he
  subst he
  have:=RV.share _ _ _ r
  simp only[share,RV]at this
  exact this.1
 | sl id off len=>simp[nC]at hn
 | _=>simp[elems]at he
theorem eS.sub {pm:Nat→Nat→Prop}{cs:List D}{b off:Nat}(r:eS w pm cs b off) (l n:Nat):eS w pm (Vm.sub cs l n) b (off+l):=by
 intro j c hj
 obtain⟨h1,_⟩:=Zs hj
 obtain⟨u,hu,hr⟩:=r _ c h1
 exact⟨u,by rw[Nat.add_assoc];exact hu,hr⟩
theorem eS.elem {pm:Nat→Nat→Prop}{xs:List (List D)}{m b off:Nat}(r:eS w pm xs.flatten b off) (hl:∀ e∈xs,e.length=m) {i:Nat}{e:List D}
  (hi:xs[i]?=some e):eS w pm e b (off+i*m):=by
 intro j c hj
 obtain⟨u,hu,hr⟩:=r _ c (Eo hl hi hj)
 exact⟨u,by rw[Nat.add_assoc];exact hu,hr⟩
theorem ef {α:Type}{xs:List α}{i:Nat}{x:α}(h:xs[i]?=some x):i<xs.length:=by
 rcases Nat.lt_or_ge i xs.length with h' | h'
 ·exact h'
 ·rw[List.getElem?_eq_none h']at h;simp at h
end
section
variable {P:Program}{g:Gh}{w:World}{t:Array Value}{O:Nat→Nat}{st st':St}{a:AV}{o:Oper}
theorem cQ {ty:TypeId}{m:Nat}(h:dC P ty m=true):∃ e,P.underlying ty=some (.slice e)∧kW P e m=true∧0<m∧P.bytesOf e≤4096:=by
 unfold dC at h
 split at h
 ·rename_i e hu
  simp only[Bool.and_eq_true,Nat.blt_eq,Nat.ble_eq]at h
  exact⟨e,hu,h.1.1,h.1.2,h.2⟩
 ·simp at h
theorem Hl {ty:TypeId}{n:Nat}(h:dC P ty n=true) {b off len cap i:Nat}{k:IntKind}(hi:i<len) :
  (Instr.indexAt ty (.slice (some ⟨b,off,none⟩) len cap) (.int k (i:Int))).run P w=.ok (.pointer (some ⟨b,off+i*n,none⟩)) w:=by
 obtain⟨e,hu,hs,_⟩:=cQ h
 simp[Instr.indexAt,asIntOf,ak hu,hi,bT hs,eD]
theorem ajS {n:Nat}{x i:Rd}(s:S P g w st t O) (h:V6 n x i st=some (a,st')) (hc:ar P (.ia n x i) o.op=true) :
  cA P g w t O st' a ((execOp (ev t) o).run P w):=by
 obtain⟨dst,op,ty,pos,aft,gd⟩:=o
 simp only[ar]at hc
 split at hc
 ·rename_i ty' y j
  simp only[Bool.and_eq_true]at hc
  obtain⟨⟨h1,h2⟩,h3⟩:=hc
  obtain⟨v,vi,e,Ov,Oi,O',rv,ri,s',l,hk⟩:=D3 s h2 h3 h
  split at hk
  ·rename_i k hk1
   obtain⟨kk,hk2⟩:=xM hk1 ri
   have fin:∀ {r:AV}{b off:Nat},(∃ len cap bo oo,ev t y=.slice (some ⟨bo,oo,none⟩) len cap∧k<len∧b=bo∧off=oo+k*n)→
     RV g w r (.pointer (some ⟨b,off,none⟩)) zero→cA P g w t O ⟨e,st.hs⟩ r ((execOp (ev t) ⟨dst,.indexAddr ty' y j,ty,pos,aft,gd⟩).run P w):=by
    rintro r b off ⟨len,cap,bo,oo,hx,hlt,rfl,rfl⟩ rr
    refine .flat s (x:=_) ?_ rr s' fun c=>by have:=l c;omega
    simp only[execOp,hx,hk2]
    rw[Sem.run_bind,Hl h1 hlt];rfl
   have hnsl:nC v=false→∀ {xs:List (List D)}{el:List D},elems st.hs.heap v=some xs→xs[k]?=some el→el.length=n→
     cA P g w t O ⟨e,st.hs⟩ (.pim el 0) ((execOp (ev t) ⟨dst,.indexAddr ty' y j,ty,pos,aft,gd⟩).run P w):=by
    intro hn xs el he hxk hlen
    have rd:=Sh he hn rv
    rcases rd.list with ⟨rfl,_⟩ | ⟨b,off,m,cap,hx,hm,hcap,hl,hrc,hp⟩
    ·simp at hxk
    ·have hmn:m=n:=by rw[←hlen];exact(hl el (List.mem_of_getElem? hxk)).symm
     subst hmn
     refine fin (b:=b) (off:=off+k*m) ⟨_,cap,b,off,hx,ef hxk,rfl,rfl⟩ ?_
     simp only[RV]
     refine⟨⟨b,off+k*m,by simp,hrc.elem hl hxk,fun q hq=>?_⟩,fun _=>trivial⟩
     rw[Nat.add_assoc]
     refine hp _ ?_
     have:=ef hxk
     have:(k+1)*m≤xs.length*m:=Nat.mul_le_mul_right _ this
     rw[Nat.succ_mul]at this
     omega
   split at hk
   ·rename_i id off len
    split at hk
    ·simp at hk
    ·rename_i hb
     have hlt:k<len:=by rw[←Bool.not_eq_true,Nat.ble_eq]at hb;omega
     simp only[RV]at rv
     obtain⟨hsl,_⟩:=rv
     rcases hsl with ⟨rfl,_⟩ | ⟨b,cap,hob,hx,_,_⟩
     ·omega
     obtain⟨Oe,Oh,re,rh,ho⟩:=s.parts
     split at hk
     ·rename_i m xs hg
      split at hk
      ·rename_i hmn
       rw[Nat.beq_eq]at hmn;subst hmn
       simp only[Option.some.injEq,Prod.mk.injEq]at hk
       obtain⟨rfl,rfl⟩:=hk
       obtain⟨O1,q,_⟩:=RL.get rh hg
       have hesz:g.esz id=m:=by
        simp only[bl]at q
        rcases q with ⟨_,_,h,_⟩ | ⟨_,_,_,_,h,_⟩
        ·exact h
        ·exact h
       refine fin (b:=b) (off:=g.base id+off*g.esz id+k*m) ⟨len,cap,b,_,hx,hlt,rfl,rfl⟩ ?_
       simp only[RV]
       exact⟨⟨b,hob,by rw[hesz,Nat.add_mul];simp[Nat.add_assoc]⟩,fun _=>trivial⟩
      ·simp at hk
     ·rename_i cs hg
      split at hk
      ·rename_i hmn
       rw[Nat.beq_eq]at hmn;subst hmn
       simp only[Option.some.injEq,Prod.mk.injEq]at hk
       obtain⟨rfl,rfl⟩:=hk
       obtain⟨O1,q,_⟩:=RL.get rh hg
       simp only[bl]at q
       obtain⟨_,_,_,_,_,hbase,hesz,_⟩:=q
       refine fin (b:=b) (off:=g.base id+off*g.esz id+k*1) ⟨len,cap,b,_,hx,hlt,rfl,rfl⟩ ?_
       simp only[RV]
       exact⟨⟨b,hob,by rw[hesz];simp[Nat.add_assoc]⟩,fun _=>trivial⟩
      ·simp at hk
     ·simp at hk
   ·rename_i hv
    have hn:nC v=false:=by cases v<;>first | rfl | exact absurd rfl (hv _ _ _)
    split at hk
    ·rename_i xs he
     split at hk
     ·rename_i el hel
      split at hk
      ·rename_i hlen
       rw[Nat.beq_eq]at hlen
       simp only[Option.some.injEq,Prod.mk.injEq]at hk
       obtain⟨rfl,rfl⟩:=hk
       exact hnsl hn he hel hlen
      ·simp at hk
     ·simp at hk
    ·simp at hk
  ·simp at hk
 ·simp at hc
end
end Go.Vm
namespace Go.Vm
section
variable {P:Program}{g:Gh}{w:World}{t:Array Value}{O:Nat→Nat}{st st':St}{a:AV}{o:Oper}
def RO (g:Gh) (w:World):Option AV→Option Value→Prop
 | none,none=>True
 | some v,some x=>∃ Ov,RV g w v x Ov
 | _,_=>False
theorem S.rdOpt {r:Option Rd}{oo:Option Operand}(s:S P g w st t O) (hc:mH r oo=true) {vo:Option AV}{e':am}(h:rdOpt st.env r=some (vo,e')) :
  ∃ O',RO g w vo (oo.map (ev t))∧S P g w ⟨e',st.hs⟩ t O'∧∀ b,O' b≤O b:=by
 cases r with
 | none =>
  cases oo<;>simp[mH]at hc
  simp only[Vm.rdOpt,Option.some.injEq,Prod.mk.injEq]at h
  obtain⟨rfl,rfl⟩:=h
  exact⟨O,trivial,s,fun b=>Nat.le_refl _⟩
 | some r =>
  cases oo with
  | none=>simp[mH]at hc
  | some o =>
   simp only[mH]at hc
   simp only[Vm.rdOpt]at h
   obtain⟨v,e1,h1,h2⟩:=zK h
   simp only[Option.some.injEq,Prod.mk.injEq]at h2
   obtain⟨rfl,rfl⟩:=h2
   obtain⟨Ov,O',rv,s',l⟩:=s.rd hc h1
   exact⟨O',⟨Ov,rv⟩,s',S.le_left l⟩
theorem lF {v:AV}{x:Value}{Ov:Nat→Nat}(r:RV g w v x Ov) {n top y:Nat}(h:bO v top=some n) (hy:top≤y) (c:BoundsCode) :
  (Instr.sliceBound x y c).run P w=.ok n w∧n≤top:=by
 obtain⟨⟨k,rfl⟩,hn⟩:=sS h r
 refine⟨?_,hn⟩
 have:(n:Int)≤y:=by omega
 simp[Instr.sliceBound,asIntOf,this]
theorem MU {lo hi mx:Option AV}{lo' hi' mx':Option Value}(r1:RO g w lo lo') (r2:RO g w hi hi') (r3:RO g w mx mx') {b:Bool}{len cap l h m:Nat}
  (hcap:len≤cap) (hb:o8 len lo hi mx=some (l,h,m)) :
  ∃ m',(Instr.sliceBounds b len cap lo' hi' mx').run P w=.ok (l,h,m') w∧l≤h∧h≤len∧h≤m'∧m'≤cap:=by
 unfold o8 at hb
 have fin:∀ (h0 m':Nat),h0≤len→h0≤m'→m'≤cap→jK lo h0 m=some (l,h,m)→
   ∃ l',(match (generalizing:=false) lo' with | some v=>Instr.sliceBound v h0 (if mx'.isSome then .slice3C else .sliceB) | none=>pure 0).run P w=.ok l' w∧l'=l∧h0=h∧l≤h:=by
  intro h0 m' e1 e2 e3 e4
  cases lo with
  | none =>
   cases lo' with
   | some x=>exact r1.elim
   | none =>
    simp only[jK,Option.some.injEq,Prod.mk.injEq]at e4
    exact⟨0,rfl,e4.1,e4.2.1,by omega⟩
  | some v =>
   cases lo' with
   | none=>exact r1.elim
   | some x =>
    obtain⟨Ov,rv⟩:=r1
    simp only[jK]at e4
    split at e4
    ·rename_i n hn
     simp only[Option.some.injEq,Prod.mk.injEq]at e4
     obtain⟨h1,h2⟩:=lF (P:=P) rv hn (Nat.le_refl h0) (if mx'.isSome then .slice3C else .sliceB)
     exact⟨n,h1,e4.1,e4.2.1,by omega⟩
    ·simp at e4
 cases mx with
 | none =>
  cases mx' with
  | some x=>exact r3.elim
  | none =>
   simp only at hb
   cases hi with
   | none =>
    cases hi' with
    | some x=>exact r2.elim
    | none =>
     simp only at hb
     have hm:m=len:=by
      cases lo with
      | none=>simp[jK]at hb;omega
      | some v=>simp only[jK]at hb;split at hb<;>simp at hb;omega
     subst hm
     obtain⟨l',h1,rfl,rfl,h4⟩:=fin m cap (Nat.le_refl _) hcap (Nat.le_refl _) hb
     refine⟨cap,?_,h4,Nat.le_refl _,hcap,Nat.le_refl _⟩
     simp only[Instr.sliceBounds,Sem.run_bind,Sem.run_pure,Result.andThen_ok]
     cases lo'<;>simp_all
   | some v =>
    cases hi' with
    | none=>exact r2.elim
    | some x =>
     obtain⟨Ov,rv⟩:=r2
     simp only at hb
     split at hb
     ·simp at hb
     ·rename_i h0 hh
      have hm:m=len:=by
       cases lo with
       | none=>simp[jK]at hb;omega
       | some v=>simp only[jK]at hb;split at hb<;>simp at hb;omega
      subst hm
      obtain⟨h5,h6⟩:=lF (P:=P) rv hh hcap (if b then .sliceAcap else .sliceAlen)
      obtain⟨l',h1,rfl,rfl,h4⟩:=fin h0 cap h6 (by omega) (Nat.le_refl _) hb
      refine⟨cap,?_,h4,h6,by omega,Nat.le_refl _⟩
      simp only[Instr.sliceBounds,Sem.run_bind,Sem.run_pure,Result.andThen_ok,h5]
      cases lo'<;>simp_all
 | some vm =>
  cases mx' with
  | none=>exact r3.elim
  | some xm =>
   obtain⟨Om,rm⟩:=r3
   simp only at hb
   split at hb
   ·simp at hb
   ·rename_i m0 hm0
    obtain⟨h7,h8⟩:=lF (P:=P) rm hm0 hcap (if b then .slice3Acap else .slice3Alen)
    cases hi with
    | none=>simp at hb
    | some v =>
     cases hi' with
     | none=>exact r2.elim
     | some x =>
      obtain⟨Ov,rv⟩:=r2
      simp only at hb
      split at hb
      ·simp at hb
      ·rename_i h0 hh
       have hm:m=m0:=by
        cases lo with
        | none=>simp[jK]at hb;omega
        | some v=>simp only[jK]at hb;split at hb<;>simp at hb;omega
       subst hm
       obtain⟨h5,h6⟩:=lF (P:=P) rv hh (Nat.le_refl m) .slice3B
       obtain⟨l',h1,rfl,rfl,h4⟩:=fin h0 m (by omega) h6 (by omega) hb
       refine⟨m,?_,h4,by omega,h6,by omega⟩
       simp only[Instr.sliceBounds,Sem.run_bind,Sem.run_pure,Result.andThen_ok,h5,h7]
       cases lo'<;>simp_all
theorem abc {b:Bool}{v u r:AV}{x y:Value}{Ov Ou:Nat→Nat}(rv:RV g w v x Ov) (ru:RV g w u y Ou) (h:vF b v u=some r) :
  ∃ z,(match b with | true=>Builtin.max2 x y | false=>Builtin.min2 x y).run P w=.ok z w∧RV g w r z zero:=by
 unfold vF at h
 split at h
 ·rename_i k m j n
  have hx:=mB rv rfl
  have hy:=mB ru rfl
  subst hx hy
  split at h
  ·rename_i hk
   have:=oi hk
   subst this
   cases b
   ·simp only[Bool.false_eq_true,if_false]at h
    split at h
    ·rename_i hd
     simp only[decide_eq_true_eq]at hd
     simp only[Option.some.injEq]at h;subst h
     exact⟨.int k n,by simp[Builtin.min2,hd],jZ _ _⟩
    ·rename_i hd
     simp only[decide_eq_false_iff_not]at hd
     simp only[Option.some.injEq]at h;subst h
     exact⟨.int k m,by simp[Builtin.min2,hd],jZ _ _⟩
   ·simp only[if_true]at h
    split at h
    ·rename_i hd
     simp only[decide_eq_true_eq]at hd
     simp only[Option.some.injEq]at h;subst h
     exact⟨.int k n,by simp[Builtin.max2,hd],jZ _ _⟩
    ·rename_i hd
     simp only[decide_eq_false_iff_not]at hd
     simp only[Option.some.injEq]at h;subst h
     exact⟨.int k m,by simp[Builtin.max2,hd],jZ _ _⟩
  ·simp at h
 ·simp at h
end
end Go.Vm
namespace Go.Vm
section
variable {P:Program}{g:Gh}{w:World}{t:Array Value}{O:Nat→Nat}{st st':St}{a:AV}{o:Oper}
theorem acK {ty:TypeId}{sz:Nat}(hty:dC P ty sz=true) {ad:Option Addr}{len cap l h m':Nat}{lo hi mx:Option Value}
  (hb:(Instr.sliceBounds true len cap lo hi mx).run P w=.ok (l,h,m') w) :
  (Instr.sliceAt ty (.slice ad len cap) lo hi mx).run P w=.ok (.slice (if m'=l then ad else ad.map (·.add (l*sz))) (h-l) (m'-l)) w:=by
 obtain⟨e,hu,hs,_⟩:=cQ hty
 simp only[Instr.sliceAt,Sem.run_bind,ak hu,Result.andThen_ok,Instr.slice,hb,bT hs,Sem.run_pure]
theorem RD.slice {w:World}{pm:Nat→Nat→Prop}{xs:List (List D)}{ad:Option Addr}{len cap l h m' sz:Nat}(r:RD w pm (.lst xs) (.slice ad len cap))
  (hk:tf sz xs=true) (h1:l≤h) (h2:h≤len) (h3:h≤m') (h4:m'≤cap) :
  RD w pm (.lst (sub xs l (h-l))) (.slice (if m'=l then ad else ad.map (·.add (l*sz))) (h-l) (m'-l)):=by
 rcases r.list with ⟨rfl,a,c,e⟩ | ⟨b,off,m,c,e,hm,hcap,hl,hrc,hp⟩
 ·injection e with e1 e2 e3
  have hh:h-l=0:=by omega
  rw[hh]
  have:sub ([]:List (List D)) l 0=[]:=by simp[sub]
  rw[this]
  exact .nil _ _
 ·injection e with e1 e2 e3
  subst e1 e2 e3
  have hlen:(sub xs l (h-l)).length=h-l:=eK (by omega)
  by_cases hz:h-l=0
  ·have:sub xs l (h-l)=[]:=by rw[hz];simp[sub]
   rw[this,hz]
   exact .nil _ _
  ·have hml:m'≠l:=by omega
   have hsz:sz=m:=by
    cases xs with
    | nil=>simp[sub]at hlen;omega
    | cons e r =>
     simp only[tf,Nat.beq_eq]at hk
     exact hk.symm.trans (hl e (.head _))
   subst hsz
   rw[if_neg hml]
   simp only[Option.map_some,eD]
   have hsl:=vj hl l (h-l)
   have:=eS.rd (w:=w) (pm:=pm) (xs:=sub xs l (h-l)) (b:=b) (off:=off+l*sz) (m:=sz) (cap:=m'-l) hm (by rw[hlen];omega) hsl
    (by rw[gF hl];exact hrc.sub _ _) (fun j hj=>?_)
   ·rw[hlen]at this;exact this
   ·rw[hlen]at hj
    rw[Nat.add_assoc]
    refine hp _ ?_
    have:l*sz+(h-l)*sz≤xs.length*sz:=by rw[←Nat.add_mul];exact Nat.mul_le_mul_right _ (by omega)
    omega
theorem aeX {m:Nat}{x:Rd}{lo hi mx:Option Rd}(s:S P g w st t O) (h:Aa m x lo hi mx st=some (a,st')) (hc:ar P (.slice m x lo hi mx) o.op=true) :
  cA P g w t O st' a ((execOp (ev t) o).run P w):=by
 obtain⟨dst,op,ty,pos,aft,gd⟩:=o
 simp only[ar]at hc
 split at hc
 ·rename_i ty' y l' h' k'
  simp only[Bool.and_eq_true]at hc
  obtain⟨⟨⟨⟨h1,h2⟩,h3⟩,h4⟩,h5⟩:=hc
  obtain⟨v,e1,r1,k1⟩:=zK h
  obtain⟨Ov,O1,rv,s1,l1⟩:=s.rd h2 r1
  split at k1
  ·rename_i vl e2 r2
   obtain⟨O2,q2,s2,l2⟩:=s1.rdOpt h3 r2
   split at k1
   ·rename_i vh e3 r3
    obtain⟨O3,q3,s3,l3⟩:=s2.rdOpt h4 r3
    split at k1
    ·rename_i vm e4 r4
     obtain⟨O4,q4,s4,l4⟩:=s3.rdOpt h5 r4
     split at k1
     ·rename_i hok
      split at k1
      ·rename_i r hr
       simp only[Option.some.injEq,Prod.mk.injEq]at k1
       obtain⟨rfl,rfl⟩:=k1
       have hle:∀ b,Ov b+O4 b≤O b:=fun b=>by have:=l1 b;have:=l2 b;have:=l3 b;have:=l4 b;omega
       unfold j8 at hr
       split at hr
       ·simp at hr
       ·rename_i len hlen
        obtain⟨ad,cap,hx⟩:=EE hlen rv
        split at hr
        ·simp at hr
        ·rename_i l hh mm hb
         have fin:∀ {cap:Nat}{r:AV},ev t y=.slice ad len cap→len≤cap→
           (∀ m',l≤hh→hh≤len→hh≤m'→m'≤cap→∃ Oa,(∀ b,Oa b≤Ov b)∧RV g w r (.slice (if m'=l then ad else ad.map (·.add (l*m))) (hh-l) (m'-l)) Oa)→
           cA P g w t O ⟨e4,st.hs⟩ r ((execOp (ev t) ⟨dst,.slice ty' y l' h' k',ty,pos,aft,gd⟩).run P w):=by
          intro cap r hx hcap hr
          obtain⟨m',e1,e2,e3,e4,e5⟩:=MU (P:=P) (w:=w) (b:=true) q2 q3 q4 hcap hb
          obtain⟨Oa,hO,hr⟩:=hr m' e2 e3 e4 e5
          refine .pure s (x:=_) ?_ hr s4 fun b=>by have:=hle b;have:=hO b;omega
          simp only[execOp,hx]
          rw[Sem.run_bind,acK h1 e1];rfl
         split at hr
         ·rename_i xs
          simp only[lenOf,Option.some.injEq]at hlen
          subst hlen
          split at hr
          ·rename_i hk
           simp only[Option.some.injEq]at hr
           subst hr
           simp only[RV]at rv
           have hcap:xs.length≤cap:=by
            have:=rv.1;rw[hx]at this
            rcases this.list with ⟨rfl,_⟩ | ⟨_,_,_,_,e,_,h,_⟩
            ·simp
            ·injection e with _ _ e;omega
           refine fin hx hcap fun m' g1 g2 g3 g4=>⟨zero,fun _=>Nat.zero_le _,?_⟩
           simp only[RV]
           have:=rv.1;rw[hx]at this
           exact⟨this.slice hk g1 g2 g3 g4,fun _=>trivial⟩
          ·simp at hr
         ·simp only[lenOf,Option.some.injEq]at hlen
          subst hlen
          simp only[Option.some.injEq]at hr
          subst hr
          simp only[RV]at rv
          rw[rv.1]at hx
          injection hx with hx1 hx2 hx3
          subst hx1 hx3
          refine fin (cap:=0) rv.1 (Nat.le_refl _) fun m' g1 g2 g3 g4=>⟨zero,fun _=>Nat.zero_le _,?_⟩
          simp only[RV]
          have:hh-l=0:=by omega
          have h0:m'-l=0:=by omega
          rw[this,h0]
          exact⟨by split<;>rfl,fun _=>trivial⟩
         ·rename_i k xs
          simp only[lenOf,Option.some.injEq]at hlen
          subst hlen
          split at hr
          ·rename_i hkm
           rw[Nat.beq_eq]at hkm;subst hkm
           have rv0:=rv
           simp only[RV,li]at rv
           have hshare:RD w g.pm (.lst xs) (ev t y):=by
            have:=RV.share _ _ _ rv0
            simp only[share,RV]at this
            exact this.1
           have hk:tf k xs=true:=by
            cases xs with
            | nil=>rfl
            | cons e r =>
             rcases rv with ⟨h,_⟩ | ⟨_,_,_,_,_,_,_,_,hl,_⟩
             ·simp at h
             ·simp only[tf,Nat.beq_eq];exact hl e (.head _)
           have hcap:xs.length≤cap:=by
            rw[hx]at hshare
            rcases hshare.list with ⟨rfl,_⟩ | ⟨_,_,_,_,e,_,h,_⟩
            ·simp
            ·injection e with _ _ e;omega
           split at hr
           ·rename_i hhl
            rw[Nat.beq_eq]at hhl;subst hhl
            simp only[Option.some.injEq]at hr
            subst hr
            refine fin hx hcap fun m' g1 g2 g3 g4=>?_
            simp only[RV,li]
            by_cases hml:m'=l
            ·refine⟨zero,fun _=>Nat.zero_le _,.inl ⟨?_,fun _=>rfl,?_⟩⟩
             ·have:xs.length-l=0:=by omega
              rw[this];simp[sub]
             ·have h0:m'-l=0:=by omega
              have h1:xs.length-l=0:=by omega
              rw[h0,h1]
              exact⟨_,rfl⟩
            ·rcases rv with ⟨rfl,hz,a,e⟩ | ⟨b,off,cap',c,el,e,hc1,hm,hl,hbk,hsz,hrc,hpm,hp,rfl⟩
             ·rw[hx]at e
              injection e with e1 e2 e3
              subst e3
              simp at g1 g2;omega
             ·rw[hx]at e
              injection e with e1 e2 e3
              subst e1 e3
              have hlen:(sub xs l (xs.length-l)).length=xs.length-l:=eK (by omega)
              refine⟨one b,fun _=>Nat.le_refl _,.inr ⟨b,off+l*k,m'-l,c,el,?_,by omega,hm,vj hl _ _,hbk,?_,?_,?_,fun _ j hj=>?_,rfl⟩⟩
              ·rw[if_neg hml,hlen];simp[eD]
              ·have:l*k+(m'-l)*k≤cap*k:=by rw[←Nat.add_mul];exact Nat.mul_le_mul_right _ (by omega)
               omega
              ·rw[gF hl];exact hrc.sub _ _
              ·intro o ho
               obtain⟨h1,h2⟩:=hpm o ho
               refine⟨h1,?_⟩
               have:l*k+(xs.length-l)*k=xs.length*k:=by rw[←Nat.add_mul];congr 1;omega
               rw[hlen];omega
              ·rw[hlen]at hj
               rw[Nat.add_assoc]
               refine hp (by trivial) _ ?_
               have:l*k+(xs.length-l)*k=xs.length*k:=by rw[←Nat.add_mul];congr 1;omega
               omega
           ·simp only[Option.some.injEq]at hr
            subst hr
            refine fin hx hcap fun m' g1 g2 g3 g4=>⟨zero,fun _=>Nat.zero_le _,?_⟩
            simp only[RV]
            rw[hx]at hshare
            exact⟨hshare.slice hk g1 g2 g3 g4,fun _=>trivial⟩
          ·simp at hr
         ·rename_i id off len0
          simp only[lenOf,Option.some.injEq]at hlen
          subst hlen
          simp only[Option.some.injEq]at hr
          subst hr
          simp only[RV]at rv
          obtain⟨rv,_⟩:=rv
          rcases rv with ⟨rfl,ad',e⟩ | ⟨b,cap',hob,e,hc1,hsz⟩
          ·rw[hx]at e
           injection e with e1 e2 e3
           subst e3
           refine fin hx (Nat.le_refl _) fun m' g1 g2 g3 g4=>⟨zero,fun _=>Nat.zero_le _,?_⟩
           simp only[RV]
           have h0:hh-l=0:=by omega
           have h1:m'-l=0:=by omega
           rw[h0,h1]
           exact⟨.inl ⟨rfl,_,rfl⟩,fun _=>trivial⟩
          ·rw[hx]at e
           injection e with e1 e2 e3
           subst e1 e3
           have hesz:g.esz id=m:=by
            simp only[okSl]at hok
            obtain⟨Oe,Oh,re,rh,ho⟩:=s.parts
            split at hok
            ·rename_i k xs hg
             rw[Nat.beq_eq]at hok;subst hok
             obtain⟨O1,q,_⟩:=RL.get rh hg
             simp only[bl]at q
             rcases q with ⟨_,_,h,_⟩ | ⟨_,_,_,_,h,_⟩
             ·exact h
             ·exact h
            ·rename_i cs hg
             rw[Nat.beq_eq]at hok;subst hok
             obtain⟨O1,q,_⟩:=RL.get rh hg
             simp only[bl]at q
             obtain⟨_,_,_,_,_,_,h,_⟩:=q
             exact h
            ·simp at hok
           refine fin hx hc1 fun m' g1 g2 g3 g4=>⟨zero,fun _=>Nat.zero_le _,?_⟩
           simp only[RV]
           refine⟨?_,fun _=>trivial⟩
           by_cases hml:m'=l
           ·have h0:hh-l=0:=by omega
            have h1:m'-l=0:=by omega
            rw[h0,h1]
            exact .inl ⟨rfl,_,rfl⟩
           ·refine .inr ⟨b,m'-l,hob,?_,by omega,?_⟩
            ·rw[if_neg hml];simp only[Option.map_some,eD]
             rw[Nat.add_mul,hesz,Nat.add_assoc]
            ·have:(off+l+(m'-l))*g.esz id≤(off+cap)*g.esz id:=Nat.mul_le_mul_right _ (by omega)
             omega
         ·simp at hr
      ·simp at k1
     ·simp at k1
    ·simp at k1
   ·simp at k1
  ·simp at k1
 ·simp at hc
theorem V3 {b:Bool}:∀ {vs:List AV}{xs:List Value}{Ovs:Nat→Nat}{v r:AV}{x:Value}{Ov:Nat→Nat},RV g w v x Ov→ai g w vs xs Ovs→mF b v vs=some r→
  (vs=[]→∃ k n,v=.d (.int k n))→
  ∃ z,(xs.foldlM (match b with | true=>Builtin.max2 | false=>Builtin.min2) x).run P w=.ok z w∧RV g w r z zero
 | [],xs,_,v,r,x,Ov,rv,rvs,h,hi=>by
  simp only[ai]at rvs
  simp only[mF,Option.some.injEq]at h
  obtain⟨rfl,_⟩:=rvs
  subst h
  obtain⟨k,n,rfl⟩:=hi rfl
  have hx:=mB rv rfl
  subst hx
  exact⟨_,rfl,jZ _ _⟩
 | u::us,xs,_,v,r,x,Ov,rv,rvs,h,hi=>by
  simp only[ai]at rvs
  obtain⟨y,s,O1,O2,rfl,r1,r2,_⟩:=rvs
  simp only[mF]at h
  split at h
  ·rename_i v2 hv
   obtain⟨z,hz,rz⟩:=abc (P:=P) rv r1 hv
   have hint:∃ k n,v2=.d (.int k n):=by
    unfold vF at hv
    split at hv
    ·split at hv
     ·split at hv<;>simp only[Option.some.injEq]at hv<;>exact⟨_,_,hv.symm⟩
     ·simp at hv
    ·simp at hv
   obtain⟨z2,hz2,rz2⟩:=V3 (b:=b) rz r2 h (fun _=>hint)
   refine⟨z2,?_,rz2⟩
   rw[List.foldlM_cons,Sem.run_bind]
   cases b
   ·rw[hz];exact hz2
   ·rw[hz];exact hz2
  ·simp at h
theorem abQ {b:Bool}{xs:List Rd}(s:S P g w st t O) (h:nk b xs st=some (a,st')) (hc:ar P (.minmax b xs) o.op=true) :
  cA P g w t O st' a ((execOp (ev t) o).run P w):=by
 obtain⟨dst,op,ty,pos,aft,gd⟩:=o
 simp only[ar]at hc
 split at hc
 ·rename_i c
  simp only[Bool.and_eq_true]at hc
  obtain⟨h1,h4⟩:=hc
  obtain⟨callee,args,ats⟩:=c
  have:=iL h1;subst this
  unfold nk at h
  split at h
  ·rename_i kk nn vs e hr
   obtain⟨Ov,O',rvs,s',l⟩:=s.rdAll h4 hr
   split at h
   ·rename_i r hf
    simp only[Option.some.injEq,Prod.mk.injEq]at h
    obtain⟨rfl,rfl⟩:=h
    simp only[ai]at rvs
    obtain⟨x,ys,O1,O2,he,r1,r2,_⟩:=rvs
    obtain⟨z,hz,rz⟩:=V3 (P:=P) (b:=b) r1 r2 hf fun _=>⟨_,_,rfl⟩
    refine .flat s (x:=z) ?_ rz s' (S.le_left l)
    have ha:(args.map (ev t)).toList=x::ys:=by simpa using he
    cases b
    ·have hrun:(Builtin.min_ ats ty (args.map (ev t))).run P w=.ok z w:=by unfold Builtin.min_;rw[ha];exact hz
     simp only[execOp,resolve,pure_bind,invoke,builtin]
     rw[Sem.run_bind,hrun];rfl
    ·have hrun:(Builtin.max_ ats ty (args.map (ev t))).run P w=.ok z w:=by unfold Builtin.max_;rw[ha];exact hz
     simp only[execOp,resolve,pure_bind,invoke,builtin]
     rw[Sem.run_bind,hrun];rfl
   ·simp at h
  ·simp at h
 ·simp at hc
end
end Go.Vm
namespace Go.Vm
def Gh.add (g:Gh) (id b base esz bsz:Nat):Gh where
 obj i:=if i=id then some b else g.obj i
 base i:=if i=id then base else g.base i
 esz i:=if i=id then esz else g.esz i
 bsz i:=if i=id then bsz else g.bsz i
 pm:=g.pm
section
variable {P:Program}{g:Gh}{w:World}{t:Array Value}{O:Nat→Nat}{st st':St}{a:AV}{o:Oper}
theorem jn {w:World}{o:Go.Obj}{b:Nat}(h:b<w.heap.size):(w.alloc o).heap[b]?=w.heap[b]?:=by
 show (w.heap.push o)[b]?=_
 rw[Array.getElem?_push,if_neg (Nat.ne_of_lt h)]
theorem dA (w:World) (o:Go.Obj):(w.alloc o).heap[w.heap.size]?=some o:=by
 show (w.heap.push o)[w.heap.size]?=_
 rw[Array.getElem?_push,if_pos rfl]
theorem az.alloc (hp:∀ b o,g.pm b o→b<w.heap.size) (o:Go.Obj) (T:Nat→Prop) (hc:∀ off,cY o off=false:=by intro off;simp[cY]):az g w g (w.alloc o) T where
 obj _ _ h:=⟨h,rfl,rfl,rfl⟩
 pm b o h:=⟨h,fh (jn (hp b o h)) o⟩
 blk b hb _:=⟨jn hb,fun _ h=>h⟩
 size:=by simp
 lp b rc h:=⟨rc,by rw[jn (ba h)];exact h⟩
 same:=⟨rfl,rfl,fun a=>by
  by_cases h:a.block<w.heap.size
  ·simp only[World.frozen?,jn h]
  ·have h2:w.heap[a.block]?=none:=Array.getElem?_eq_none (by omega)
   by_cases e:a.block=w.heap.size
   ·have:=hc a.off
    simp only[World.frozen?,e,dA,h2]
    rw[←e,h2]
    cases o<;>first | rfl | exact this
   ·have h3:(w.alloc o).heap[a.block]?=none:=Array.getElem?_eq_none (by simp;omega)
    simp only[World.frozen?,h2,h3]⟩
theorem az.add {w':World}{T:Nat→Prop}(h:az g w g w' T) {id:Nat}(hn:g.obj id=none) (b base esz bsz:Nat):az g w (g.add id b base esz bsz) w' T where
 obj i c hc:=by
  have:i≠id:=by rintro rfl;rw[hn]at hc;simp at hc
  simp[Gh.add,this,hc]
 pm b o hp:=h.pm b o hp
 blk:=h.blk
 size:=h.size
 lp:=h.lp
 same:=h.same
theorem eO.ext {g':Gh}{w':World}{T:Nat→Prop}(h:az g w g' w' T) {e:am}(r:eO g w e t O) (hO:∀ b,O b≠0→¬ T b):eO g' w' e t O :=
 r.imp' fun _ v O1 _ hle q=>⟨q.1,RV.ext h v _ O1 q.2 fun b hb=>hO b (by have:=hle b;omega)⟩
theorem bl.ext0 {g':Gh}{w':World}{T:Nat→Prop}(h:az g w g' w' T) {id:Nat}{o:Obj}(r:bl P g w id o O) (hO:∀ b,O b≠0→¬ T b):bl P g' w' id o O:=by
 cases o with
 | cells cs =>
  simp only[bl]at r⊢
  obtain⟨b,c,el,O1,h1,h2,h3,h4,h5,h6,h7,h8⟩:=r
  obtain⟨a1,a2,a3,a4⟩:=h.obj id b h1
  have hb:¬ T b:=hO b (by rw[h8 b];simp)
  obtain⟨e1,e2⟩:=h.blk b (ba h5) hb
  exact⟨b,c,el,O1,a1,a2.trans h2,a3.trans h3,a4.trans h4,e1.trans h5,ai.ext h _ _ _ h6 (fun x hx=>hO x (by rw[h8 x];omega)),fun o ho=>h7 o (e2 o ho),h8⟩
 | arr m xs =>
  simp only[bl]at r⊢
  rcases r with ⟨h1,h2,h3,h4,⟨b,h5⟩,h6⟩ | ⟨b,c,el,h1,h2,h3,h4,h5,h6,h7,h8,h9,h10⟩
  ·obtain⟨a1,a2,a3,a4⟩:=h.obj id b h5
   exact .inl ⟨h1,a4.trans h2,a3.trans h3,h4,⟨b,a1⟩,h6⟩
  ·obtain⟨a1,a2,a3,a4⟩:=h.obj id b h1
   have hb:¬ T b:=hO b (by rw[h10 b];simp)
   obtain⟨e1,e2⟩:=h.blk b (ba h4) hb
   exact .inr ⟨b,c,el,a1,a3.trans h2,h3,e1.trans h4,by rw[a4];exact h5,by rw[a2,a4];exact h6,h7,by rw[a2];exact h8.ext h (.inl e1),fun o ho=>h9 o (e2 o ho),h10⟩
 | loop snap params assign body busy pend =>
  simp only[bl]at r⊢
  obtain⟨b,rc,h1,h2,h3,h4,h5,h6,h7,h8,h9,h10,h12⟩:=r
  obtain⟨a1,_⟩:=h.obj id b h1
  have hb:¬ T b:=hO b (by rw[h12 b];simp)
  obtain⟨e1,e2⟩:=h.blk b (ba h2) hb
  exact⟨b,rc,a1,e1.trans h2,h3,h4,h5,h6,h7,h8,eO.ext h h9 (by simp),h10,h12⟩
theorem bl.ext {g':Gh}{w':World}{T:Nat→Prop}(h:az g w g' w' T) {id:Nat}{o:Obj}(r:bl P g w id o O) (hO:∀ b,O b≠0→¬ T b)
  (_:∀ b ds,w.heap[b]?=some (.deferred ds)→¬ T b):bl P g' w' id o O:=r.ext0 h hO
theorem S.new {st:St}(s:S P g w st t O) {blk:Go.Obj}{o:Obj}{base esz bsz:Nat}{O1:Nat→Nat}
  (r:bl P (g.add st.hs.next w.heap.size base esz bsz) (w.alloc blk) st.hs.next o O1) (hle:∀ b,O1 b+O b≤1) (hhi:∀ b,O1 b≠0→b<w.heap.size+1)
  (hc:∀ off,cY blk off=false:=by intro off;simp[cY]) :
  S P (g.add st.hs.next w.heap.size base esz bsz) (w.alloc blk) ⟨st.env,(vy st.hs o).2⟩ t (fun b=>O1 b+O b)∧
   az g w (g.add st.hs.next w.heap.size base esz bsz) (w.alloc blk) (fun b=>O b≠0):=by
 have hn:=s.fresh st.hs.next (Nat.le_refl _)
 have hx:az g w (g.add st.hs.next w.heap.size base esz bsz) (w.alloc blk) (fun _=>False):=(az.alloc s.pmlt blk _ hc).add hn _ _ _ _
 obtain⟨Oe,Oh,re,rh,ho⟩:=s.parts
 have re':=eO.ext hx re (by simp)
 have rh':pY P (g.add st.hs.next w.heap.size base esz bsz) (w.alloc blk) st.hs.heap Oh:=rh.imp' fun k v O1 _ _ q=>q.ext hx (by simp) (by simp)
 have hk:∀ p∈st.hs.heap,p.1≠st.hs.next:=by
  intro p hp e
  have:∃ b,g.obj p.1=some b:=by
   clear re re' rh' hx r hle hhi ho
   generalize st.hs.heap=l at rh hp
   induction l generalizing Oh with
   | nil=>simp at hp
   | cons q l ih =>
    obtain⟨k,v⟩:=q
    obtain⟨Q1,Q2,q1,q2,_⟩:=rh
    rcases List.mem_cons.1 hp with rfl | hp
    ·cases v with
     | cells cs=>simp only[bl]at q1;obtain⟨b,_,_,_,h,_⟩:=q1;exact⟨b,h⟩
     | arr m xs =>
      simp only[bl]at q1
      rcases q1 with ⟨_,_,_,_,h,_⟩ | ⟨b,_,_,h,_⟩
      ·exact h
      ·exact⟨b,h⟩
     | loop _ _ _ _ _ _=>simp only[bl]at q1;obtain⟨b,_,h,_⟩:=q1;exact⟨b,h⟩
    ·exact ih Q2 q2 hp
  rw[e,hn]at this
  simp at this
 rw[←jr hk]at rh'
 obtain⟨O3,r3,h3⟩:=RL.put s.sh rh' r
 refine⟨⟨s.se,s.sh.put _ _,⟨Oe,O3,re',r3,fun b=>?_⟩,hle,fun b hb=>?_,fun i hi=>?_,fun b o hp=>?_⟩,hx.mono (fun _ _ h=>h.elim)⟩
 ·have:=h3 b;have:=ho b;show O1 b+O b=Oe b+O3 b;omega
 ·simp only[World.size_alloc]
  by_cases h1:O1 b=0
  ·have:=s.hi b (by simp only[h1]at hb;omega);omega
  ·exact hhi b h1
 ·have hi':st.hs.next+1≤i:=hi
  simp only[Gh.add]
  rw[if_neg (by omega)]
  exact s.fresh i (by omega)
 ·simp only[World.size_alloc];have:=s.pmlt b o hp;omega
theorem aea {zs:List AV}(s:S P g w st t O) (h:qW zs st=some (a,st')) (hc:ar P (.alloc zs) o.op=true) :
  cA P g w t O st' a ((execOp (ev t) o).run P w):=by
 obtain⟨dst,op,ty,pos,aft,gd⟩:=o
 simp only[ar]at hc
 split at hc
 ·rename_i e
  split at hc
  ·rename_i i hi
   split at hc
   ·rename_i z hz
    simp only[qW,Option.some.injEq,Prod.mk.injEq]at h
    obtain⟨rfl,rfl⟩:=h
    have hO:O w.heap.size=0:=by
     have:=s.hi w.heap.size
     by_cases h:O w.heap.size=0
     ·exact h
     ·have:=this h;omega
    have r:bl P (g.add st.hs.next w.heap.size 0 1 zs.length) (w.alloc (.cells z.cells e)) st.hs.next (.cells zs) (fun x=>zero x+one w.heap.size x):=by
     simp only[bl]
     refine⟨w.heap.size,z.cells,e,zero,by simp[Gh.add],by simp[Gh.add],by simp[Gh.add],by simp[Gh.add],dA _ _,ai.consts hc,fun o ho=>?_,fun _=>rfl⟩
     have:=s.pmlt _ o ho;omega
    obtain⟨s',hx⟩:=s.new r (fun b=>by
     by_cases hb:b=w.heap.size
     ·subst hb;simp[hO]
     ·have:=s.le b;simp[one,hb];exact this) (fun b hb=>by
     have:=lc (b:=w.heap.size) (x:=b) (by simpa using hb);omega)
    refine⟨.pointer (some ⟨w.heap.size,0,none⟩),_,_,zero,_,.inl ?_,?_,s',hx,fun b=>by have:=s'.le b;simpa using this,fun b hb=>?_,by simp⟩
    ·simp[execOp,Instr.alloc,zeroValue,typeInfo,hi,hz,newVar,newRow]
    ·simp only[RV]
     exact⟨⟨w.heap.size,by simp[Gh.add],by simp[Gh.add]⟩,fun _=>trivial⟩
    ·have:b≠w.heap.size:=by omega
     simp[one,this]
   ·simp at hc
  ·simp at hc
 ·simp at hc
end
end Go.Vm
namespace Go.Vm
section
variable {P:Program}{g:Gh}{w:World}{t:Array Value}{O:Nat→Nat}{st st':St}{a:AV}{o:Oper}
theorem V4 {v:AV}{x:Value}{Ov:Nat→Nat}(h:cy v=true) (r:RV g w v x Ov):x.oneCell'=true:=by
 cases v with
 | junk=>simp[cy]at h
 | agg cs=>simp[cy]at h
 | tup cs=>simp[cy]at h
 | gl n=>simp only[RV]at r;obtain⟨⟨_,_,rfl⟩,_⟩:=r;rfl
 | d c=>simp only[RV]at r;obtain⟨r,_⟩:=r;cases r<;>rfl
 | nl=>simp only[RV]at r;rw[r.1];rfl
 | own p m xs=>simp only[RV,li]at r;rcases r with ⟨_,_,_,rfl⟩ | ⟨_,_,_,_,_,rfl,_⟩<;>rfl
 | nilp=>simp only[RV]at r;rw[r.1];rfl
 | ptr id off=>simp only[RV]at r;obtain⟨⟨_,_,rfl⟩,_⟩:=r;rfl
 | pel id i off=>simp only[RV]at r;obtain⟨⟨_,_,rfl⟩,_⟩:=r;rfl
 | pim cs off=>simp only[RV]at r;obtain⟨⟨_,_,rfl,_⟩,_⟩:=r;rfl
 | sl id off len=>simp only[RV]at r;rcases r with ⟨⟨_,_,rfl⟩ | ⟨_,_,_,rfl,_⟩,_⟩<;>rfl
 | fn f a c=>simp only[RV]at r;obtain⟨⟨_,_,rfl,_⟩,_⟩:=r;rfl
 | nilf=>simp only[RV]at r;rw[r.1];rfl
 | yield l=>simp only[RV]at r;obtain⟨⟨_,_,rfl⟩,_⟩:=r;rfl
theorem Xo {x:Value}(h:x.oneCell'=true):x.cells=#[x]:=by cases x<;>first | rfl | simp[Value.oneCell']at h
theorem RV.cells {v:AV}{x:Value}{Ov:Nat→Nat}(h:v.cells.all cy=true) (r:RV g w v x Ov):ai g w v.cells x.cells.toList Ov:=by
 have one:cy v=true→v.cells=[v]→ai g w v.cells x.cells.toList Ov:=by
  intro h1 h2
  rw[h2,Xo (V4 h1 r)]
  simp only[ai]
  exact⟨x,[],Ov,zero,rfl,r,⟨rfl,fun _=>rfl⟩,fun _=>rfl⟩
 cases v with
 | agg cs =>
  simp only[RV]at r
  obtain⟨xs,rfl,r⟩:=r
  exact r
 | _=>exact one (by simpa [AV.cells] using h) rfl
theorem ai.one {vs:List AV}{xs:List Value}{Ov:Nat→Nat}(h:vs.all cy=true) (r:ai g w vs xs Ov):∀ x∈xs,x.oneCell'=true:=by
 induction vs generalizing xs Ov with
 | nil=>simp only[ai]at r;rw[r.1];simp
 | cons v vs ih =>
  simp only[ai]at r
  obtain⟨x,s,O1,O2,rfl,r1,r2,_⟩:=r
  simp only[List.all_cons,Bool.and_eq_true]at h
  intro y hy
  rcases List.mem_cons.1 hy with rfl | hy
  ·exact V4 h.1 r1
  ·exact ih h.2 r2 y hy
theorem ahE {x:Rd}(s:S P g w st t O) (h:F7 x st=some (a,st')) (hc:ar P (.box x) o.op=true) :
  cA P g w t O st' a ((execOp (ev t) o).run P w):=by
 obtain⟨dst,op,ty,pos,aft,gd⟩:=o
 simp only[ar]at hc
 split at hc
 ·rename_i e y
  obtain⟨v,e1,r1,k1⟩:=zK h
  obtain⟨Ov,O1,rv,s1,l1⟩:=s.rd hc r1
  split at k1
  ·rename_i hall
   simp only[Option.some.injEq,Prod.mk.injEq]at k1
   obtain⟨rfl,rfl⟩:=k1
   have rvs:=rv.cells hall
   have hn:=s1.fresh st.hs.next (Nat.le_refl _)
   have hO:∀ b,w.heap.size≤b→O b=0:=by
    intro b hb
    by_cases h:O b=0
    ·exact h
    ·have:=s.hi b h;omega
   have hx0:az g w (g.add st.hs.next w.heap.size 0 1 v.cells.length) (w.alloc (.cells (ev t y).cells e)) (fun _=>False):=(az.alloc s.pmlt _ _).add hn _ _ _ _
   have r:bl P (g.add st.hs.next w.heap.size 0 1 v.cells.length) (w.alloc (.cells (ev t y).cells e)) st.hs.next (.cells v.cells) (fun x=>Ov x+one w.heap.size x):=by
    simp only[bl]
    refine⟨w.heap.size,(ev t y).cells,e,Ov,by simp[Gh.add],by simp[Gh.add],by simp[Gh.add],by simp[Gh.add],dA _ _,ai.ext hx0 _ _ _ rvs (by simp),fun o ho=>?_,fun _=>rfl⟩
    have:=s.pmlt _ o ho;omega
   have key:∀ b,Ov b+one w.heap.size b+O1 b≤1:=by
    intro b
    by_cases hb:b=w.heap.size
    ·subst hb
     have:=l1 w.heap.size;have:=hO w.heap.size (Nat.le_refl _)
     simp;omega
    ·have:=l1 b;have:=s.le b;simp[one,hb];omega
   obtain⟨s',hx⟩:=s1.new r (fun b=>key b) (fun b hb=>by
    by_cases h1:Ov b=0
    ·have:=lc (b:=w.heap.size) (x:=b) (by intro h2;exact hb (by show Ov b+one w.heap.size b=0;omega));omega
    ·have:=s.hi b (by have:=l1 b;omega);omega)
   refine⟨.pointer (some ⟨w.heap.size,0,none⟩),_,_,zero,_,.inl ?_,?_,s',hx.mono fun b _ hb=>by have:=l1 b;omega,fun b=>by have:=s'.le b;simpa using this,fun b hb=>?_,by simp⟩
   ·simp[execOp,Instr.box,newVar,newRow]
   ·simp only[RV]
    exact⟨⟨w.heap.size,by simp[Gh.add],by simp[Gh.add]⟩,fun _=>trivial⟩
   ·have:b≠w.heap.size:=by omega
    have:=l1 b
    simp[one, *]
  ·simp at k1
 ·simp at hc
theorem xN {ty:TypeId}(h:xx P ty=true) {ad:Addr}{x:Value}(hx:w.cell? ad=some x):(loadVar ty ad).run P w=.ok x w:=by
 simp[loadVar,oT h,hx]
end
end Go.Vm
namespace Go.Vm
section
variable {P:Program}{g:Gh}{w:World}{t:Array Value}{O:Nat→Nat}{st st':St}{a:AV}{o:Oper}
theorem dc {b:Nat}{c:Array Value}{el:TypeId}{fz:Nat×Nat}(h:w.heap[b]?=some (.cells c el fz)) (off:Nat):w.cell? ⟨b,off,none⟩=c[off]?:=by
 simp[World.cell?,h]
theorem ai.replace {cs:List AV}{xs:List Value}{Ov:Nat→Nat}(r:ai g w cs xs Ov) {i:Nat}{v:AV}(h:cs[i]?=some v) :
  ∃ x O1,xs[i]?=some x∧RV g w v x O1∧(∀ b,O1 b≤Ov b)∧∀ v2 O2,RV g w v2 x O2→∃ O',ai g w (cs.set i v2) xs O'∧∀ b,O' b+O1 b=Ov b+O2 b:=by
 induction cs generalizing xs Ov i with
 | nil=>simp at h
 | cons c cs ih =>
  simp only[ai]at r
  obtain⟨x,s,O1,O2,rfl,r1,r2,hs⟩:=r
  cases i with
  | zero =>
   simp at h;subst h
   refine⟨x,O1,rfl,r1,fun b=>by rw[hs b];omega,fun v2 P2 rv2=>⟨fun b=>P2 b+O2 b,?_,fun b=>by have:=hs b;show P2 b+O2 b+O1 b=Ov b+P2 b;omega⟩⟩
   simp only[List.set_cons_zero,ai]
   exact⟨x,s,P2,O2,rfl,rv2,r2,fun _=>rfl⟩
  | succ i =>
   simp at h
   obtain⟨y,P1,h1,h2,h3,h4⟩:=ih r2 h
   refine⟨y,P1,by simpa using h1,h2,fun b=>by have:=h3 b;rw[hs b];omega,fun v2 P2 rv2=>?_⟩
   obtain⟨O',r',h'⟩:=h4 v2 P2 rv2
   refine⟨fun b=>O1 b+O' b,?_,fun b=>by have:=h' b;have:=hs b;show O1 b+O' b+P1 b=Ov b+P2 b;omega⟩
   simp only[List.set_cons_succ,ai]
   exact⟨x,s,O1,O',rfl,r1,r',fun _=>rfl⟩
theorem TD (n:Nat) {v:AV}{x:Value}{Ov:Nat→Nat}(r:RV g w v x Ov) :
  ∃ O1 O2,RV g w (iW n v).1 x O1∧RV g w (iW n v).2 x O2∧∀ b,O1 b+O2 b=Ov b:=by
 have share:=RV.share _ _ _ r
 unfold iW
 split
 ·exact⟨Ov,zero,r,by simp[RV],fun _=>rfl⟩
 ·exact⟨Ov,zero,r,share,fun _=>rfl⟩
 ·refine⟨Ov,zero,r,?_,fun _=>rfl⟩
  cases v<;>try exact share
  rename_i p m xs
  simp only[RV,li]at r⊢
  rcases r with ⟨rfl,_,ad,e⟩ | ⟨b,off,cap,_,_,e,_⟩
  ·exact⟨⟨ad,0,e⟩,fun _=>trivial⟩
  ·exact⟨⟨_,cap,e⟩,fun _=>trivial⟩
 ·exact⟨zero,Ov,share,r,fun b=>by simp⟩
theorem Fn (n:Nat):∀ {vs:List AV}{xs:List Value}{Ov:Nat→Nat},ai g w vs xs Ov→
  ∃ O1 O2,ai g w (bZ n vs).1 xs O1∧ai g w (bZ n vs).2 xs O2∧∀ b,O1 b+O2 b=Ov b
 | [],xs,Ov,r=>by simp only[ai,bZ]at r⊢;exact⟨zero,zero,⟨r.1,fun _=>rfl⟩,⟨r.1,fun _=>rfl⟩,fun b=>by have:=r.2 b;show 0+0=Ov b;omega⟩
 | v::vs,xs,Ov,r=>by
  simp only[ai]at r
  obtain⟨x,s,O1,O2,rfl,r1,r2,hs⟩:=r
  obtain⟨A1,A2,a1,a2,ha⟩:=TD n r1
  obtain⟨B1,B2,b1,b2,hb⟩:=Fn n r2
  refine⟨fun b=>A1 b+B1 b,fun b=>A2 b+B2 b,?_,?_,fun b=>by have:=ha b;have:=hb b;have:=hs b;show A1 b+B1 b+(A2 b+B2 b)=Ov b;omega⟩
  ·simp only[ai,bZ];exact⟨x,s,A1,B1,rfl,a1,b1,fun _=>rfl⟩
  ·simp only[ai,bZ];exact⟨x,s,A2,B2,rfl,a2,b2,fun _=>rfl⟩
theorem S.upd {st:St}(s:S P g w st t O) {id:Nat}{ob:Obj}(hg:get st.hs.heap id=some ob) :
  ∃ O1 Oz:Nat→Nat,bl P g w id ob O1∧(∀ b,O1 b+Oz b≤O b)∧∀ (ob':Obj) (O1':Nat→Nat),bl P g w id ob' O1'→(∀ b,O1' b≤O1 b)→
   S P g w ⟨st.env,⟨put st.hs.heap id ob',st.hs.next⟩⟩ t (fun b=>O1' b+Oz b):=by
 obtain⟨Oe,Oh,re,rh,ho⟩:=s.parts
 obtain⟨O1,O2,q,r2,hs⟩:=RL.take rh hg
 refine⟨O1,fun b=>Oe b+O2 b,q,fun b=>by have:=hs b;have:=ho b;show O1 b+(Oe b+O2 b)≤O b;omega,fun ob' O1' q' hle=>?_⟩
 obtain⟨O3,r3,h3⟩:=RL.put s.sh r2 q'
 have hall:∀ b,O1' b+(Oe b+O2 b)≤O b:=fun b=>by have:=hs b;have:=ho b;have:=hle b;omega
 exact⟨s.se,s.sh.put _ _,⟨Oe,O3,re,r3,fun b=>by have:=h3 b;show O1' b+(Oe b+O2 b)=Oe b+O3 b;omega⟩,
  fun b=>Nat.le_trans (hall b) (s.le b),fun b hb=>s.hi b (by have:=hall b;change O1' b+(Oe b+O2 b)≠0 at hb;omega),s.fresh,s.pmlt⟩
theorem eS.vals {pm:Nat→Nat→Prop}{cs:List D}{b off:Nat}(r:eS w pm cs b off) :
  ∃ xs:List Value,xs.length=cs.length∧(∀ (j:Nat) (x:Value),xs[j]?=some x→w.cell? ⟨b,off+j,none⟩=some x)∧∀ (j:Nat) (c:D) (x:Value),cs[j]?=some c→xs[j]?=some x→RD w pm c x:=by
 induction cs generalizing off with
 | nil=>exact⟨[],rfl,fun j x h=>by simp at h,fun j c x h=>by simp at h⟩
 | cons c cs ih =>
  obtain⟨u,hu,hr⟩:=r 0 c rfl
  have r':eS w pm cs b (off+1):=by
   intro j d hj
   obtain⟨v,hv,hr⟩:=r (j+1) d (by simpa using hj)
   exact⟨v,by rw[show off+1+j=off+(j+1) by omega];exact hv,hr⟩
  obtain⟨xs,h1,h2,h3⟩:=ih r'
  refine⟨u::xs,by simp[h1],fun j x hj=>?_,fun j d x hd hx=>?_⟩
  ·cases j with
   | zero=>simp at hj;subst hj;simpa using hu
   | succ j=>simp at hj;rw[show off+(j+1)=off+1+j by omega];exact h2 j x hj
  ·cases j with
   | zero=>simp at hd hx;subst hd hx;exact hr
   | succ j=>simp at hd hx;exact h3 j d x hd hx
theorem ai.ds {pm:Nat→Nat→Prop}(hp:g.pm=pm):∀ {cs:List D}{xs:List Value},xs.length=cs.length→(∀ (j:Nat) (c:D) (x:Value),cs[j]?=some c→xs[j]?=some x→RD w pm c x)→
  ai g w (cs.map .d) xs zero
 | [],[],_,_=>by simp[ai]
 | c::cs,x::xs,h,hr=>by
  simp only[List.map_cons,ai]
  exact⟨x,xs,zero,zero,rfl,by simp only[RV];exact⟨by rw[hp];exact hr 0 c x rfl rfl,fun _=>trivial⟩,
   ai.ds hp (by simpa using h) (fun j d y h1 h2=>hr (j+1) d y (by simpa using h1) (by simpa using h2)),fun _=>rfl⟩
 | [],_::_,h,_=>by simp at h
 | _::_,[],h,_=>by simp at h
theorem LF {ty:TypeId}{n:Option Nat}(ht:gQ P ty n=true) {cs:List D}{b off k:Nat}(r:eS w g.pm cs b off) {v:AV}(h:gW n cs k=some v) :
  ∃ x,(loadVar ty ⟨b,off+k,none⟩).run P w=.ok x w∧RV g w v x zero:=by
 cases n with
 | none =>
  simp only[gW]at h
  split at h
  ·rename_i c hc
   simp only[Option.some.injEq]at h;subst h
   obtain⟨u,hu,hr⟩:=r k c hc
   exact⟨u,xN (by simpa only[gQ] using ht) hu,by simp only[RV];exact⟨hr,fun _=>trivial⟩⟩
  ·simp at h
 | some n =>
  simp only[gQ,Bool.and_eq_true]at ht
  simp only[gW]at h
  split at h
  ·rename_i hb
   rw[Nat.ble_eq]at hb
   simp only[Option.some.injEq]at h;subst h
   obtain⟨xs,h1,h2,h3⟩:=(r.sub k n).vals
   have hlen:(Vm.sub cs k n).length=n:=eK hb
   refine⟨.agg xs.toArray,?_,?_⟩
   ·have hl:=run_loadCells_list (P:=P) (w:=w) ⟨b,off+k,none⟩ xs (fun j v hj=>by rw[eD];exact h2 j v hj)
    rw[h1,hlen]at hl
    simp only[loadVar,Sem.run_bind,ma ht.1,Result.andThen_ok,if_true,bT ht.2,hl,Sem.run_pure]
   ·simp only[RV]
    exact⟨xs.toArray,rfl,by simpa using ai.ds rfl h1 h3⟩
  ·simp at h
theorem We {cs:List AV}{off n:Nat}(h:off+n≤cs.length):cs=cs.take off++(Vm.sub cs off n++cs.drop (off+n)):=by
 have:Vm.sub cs off n++cs.drop (off+n)=cs.drop off:=by
  unfold Vm.sub
  rw[←List.drop_drop,List.take_append_drop]
 rw[this,List.take_append_drop]
theorem M7 {ty:TypeId}{n:Option Nat}{take:Nat}(ht:gQ P ty n=true) {st:St}(s:S P g w st t O) {id off:Nat}{b:Nat}(hob:g.obj id=some b)
  {v:AV}{h':ac}(h:loadAt st.hs.heap n take (.ptr id off)=some (v,h')) :
  ∃ x O1 O2,(loadVar ty ⟨b,g.base id+off,none⟩).run P w=.ok x w∧RV g w v x O1∧S P g w ⟨st.env,⟨h',st.hs.next⟩⟩ t O2∧∀ c,O1 c+O2 c≤O c:=by
 simp only[loadAt]at h
 split at h
 ·rename_i cs hg
  obtain⟨O1,Oz,q,hsum,hput⟩:=s.upd hg
  have q0:=q
  simp only[bl]at q
  obtain⟨b',c,el,Oc,h1,h2,h3,h4,h5,h6,h7,h8⟩:=q
  rw[hob]at h1
  simp only[Option.some.injEq]at h1
  subst h1
  rw[h2,Nat.zero_add]
  have hsz:c.size=cs.length:=by rw[←h6.length];simp
  split at h
  ·
   split at h
   ·simp at h
   ·rename_i u hu
    obtain⟨x,P1,hx,ru,hle,hrep⟩:=h6.replace hu
    have hcell:w.cell? ⟨b,off,none⟩=some x:=by rw[dc h5,←Array.getElem?_toList];exact hx
    have hrun:=xN (P:=P) (by simpa only[gQ] using ht) hcell
    split at h
    ·simp only[Option.some.injEq,Prod.mk.injEq]at h
     obtain⟨rfl,rfl⟩:=h
     exact⟨x,zero,O,hrun,RV.share _ _ _ ru,s,fun c=>by simp⟩
    ·rename_i _
     simp only[Option.some.injEq,Prod.mk.injEq]at h
     obtain⟨rfl,rfl⟩:=h
     obtain⟨A1,A2,a1,a2,ha⟩:=TD take ru
     obtain⟨O',r',h'⟩:=hrep _ A2 a2
     have hle2:∀ x,O' x+one b x≤O1 x:=fun x=>by have:=h' x;have:=ha x;have:=h8 x;omega
     refine⟨x,A1,_,hrun,a1,hput (.cells (cs.set off (iW take u).2)) (fun x=>O' x+one b x) ?_ hle2,fun c=>?_⟩
     ·simp only[bl]
      exact⟨b,c,el,O',hob,h2,h3,by rw[List.length_set];exact h4,h5,r',h7,fun _=>rfl⟩
     ·have:=h' c;have:=ha c;have:=h8 c;have:=hsum c
      show A1 c+(O' c+one b c+Oz c)≤O c
      omega
  ·
   rename_i n
   simp only[gQ,Bool.and_eq_true]at ht
   split at h
   ·rename_i hb
    rw[Nat.ble_eq]at hb
    have hcs:=We hb
    have r6:=h6
    rw[hcs]at r6
    obtain⟨B1,B2,rb1,rb2,hb12⟩:=r6.split
    obtain⟨B3,B4,rb3,rb4,hb34⟩:=rb2.split
    have htl:(cs.take off).length=off:=by simp;omega
    have hsl:(Vm.sub cs off n).length=n:=eK hb
    rw[htl]at rb1 rb3 rb4
    rw[hsl]at rb3 rb4
    have hlist:∀ (j:Nat) (v:Value),((c.toList.drop off).take n)[j]?=some v→w.cell? ((⟨b,off,none⟩:Addr).add j)=some v:=by
     intro j v hj
     rw[eD,dc h5,←Array.getElem?_toList]
     rw[List.getElem?_take]at hj
     split at hj
     ·rw[List.getElem?_drop]at hj;exact hj
     ·simp at hj
    have hlen:((c.toList.drop off).take n).length=n:=by simp;omega
    have hl:=run_loadCells_list (P:=P) (w:=w) ⟨b,off,none⟩ ((c.toList.drop off).take n) hlist
    rw[hlen]at hl
    have hrun:(loadVar ty ⟨b,off,none⟩).run P w=.ok (.agg ((c.toList.drop off).take n).toArray) w:=by
     simp only[loadVar,Sem.run_bind,ma ht.1,Result.andThen_ok,if_true,bT ht.2,hl,Sem.run_pure]
    split at h
    ·simp only[Option.some.injEq,Prod.mk.injEq]at h
     obtain⟨rfl,rfl⟩:=h
     refine⟨_,zero,O,hrun,?_,s,fun c=>by simp⟩
     simp only[RV]
     exact⟨_,rfl,by simpa using ai.share _ _ _ rb3⟩
    ·rename_i _
     simp only[Option.some.injEq,Prod.mk.injEq]at h
     obtain⟨rfl,rfl⟩:=h
     obtain⟨A1,A2,a1,a2,ha⟩:=Fn take rb3
     have hjoin:=rb1.join (a2.join rb4)
     have e1:cs.take off++((bZ take (Vm.sub cs off n)).2++cs.drop (off+n))=aj cs off (bZ take (Vm.sub cs off n)).2:=by
      have:(bZ take (Vm.sub cs off n)).2.length=n:=by
       rw[←a2.length,hlen]
      unfold aj;rw[this,List.append_assoc]
     have e2:c.toList.take off++((c.toList.drop off).take n++(c.toList.drop off).drop n)=c.toList:=by
      rw[List.take_append_drop,List.take_append_drop]
     rw[e1,e2]at hjoin
     have hle2:∀ x,(B1 x+(A2 x+B4 x))+one b x≤O1 x:=fun x=>by have:=ha x;have:=h8 x;have:=hb12 x;have:=hb34 x;omega
     refine⟨_,A1,_,hrun,?_,hput (.cells (aj cs off (bZ take (Vm.sub cs off n)).2)) (fun x=>(B1 x+(A2 x+B4 x))+one b x) ?_ hle2,fun x=>?_⟩
     ·simp only[RV];exact⟨_,rfl,by simpa using a1⟩
     ·simp only[bl]
      refine⟨b,c,el,_,hob,h2,h3,?_,h5,hjoin,h7,fun _=>rfl⟩
      rw[h4,←hsz,←hjoin.length];simp
     ·have:=ha x;have:=h8 x;have:=hb12 x;have:=hb34 x;have:=hsum x
      show A1 x+((B1 x+(A2 x+B4 x))+one b x+Oz x)≤O x
      omega
   ·simp at h
 ·simp at h
theorem akj {n:Option Nat}{take:Nat}{p:Rd}(s:S P g w st t O) (h:rS n take p st=some (a,st')) (hc:ar P (.ld n take p) o.op=true) :
  cA P g w t O st' a ((execOp (ev t) o).run P w):=by
 obtain⟨dst,op,ty,pos,aft,gd⟩:=o
 simp only[ar]at hc
 split at hc
 ·rename_i ty' y
  simp only[Bool.and_eq_true]at hc
  obtain⟨h1,h2⟩:=hc
  obtain⟨v,e1,r1,k1⟩:=zK h
  obtain⟨Ov,O1,rv,s1,l1⟩:=s.rd h2 r1
  split at k1
  ·rename_i r h' hl
   simp only[Option.some.injEq,Prod.mk.injEq]at k1
   obtain⟨rfl,rfl⟩:=k1
   have fin:∀ {ad:Addr}{x:Value},ev t y=.pointer (some ad)→(loadVar ty' ad).run P w=.ok x w→
     (execOp (ev t) ⟨dst,.load ty' y,ty,pos,aft,gd⟩).run P w=.ok (.value x) w:=by
    intro ad x he hr
    simp only[execOp,he]
    rw[Sem.run_bind]
    simp only[Instr.loadAt,Instr.sureAddr,pure_bind,hr,Result.andThen_ok,Sem.run_pure]
   cases v with
   | ptr id off =>
    simp only[RV]at rv
    obtain⟨⟨b,hob,he⟩,_⟩:=rv
    obtain⟨x,A1,A2,hrun,ra,sa,la⟩:=M7 h1 s1 hob hl
    exact .pure s (fin he hrun) ra sa fun c=>by have:=la c;have:=l1 c;omega
   | pel id i off =>
    simp only[RV]at rv
    obtain⟨⟨b,hob,he⟩,_⟩:=rv
    simp only[loadAt]at hl
    split at hl
    ·rename_i m xs hg
     split at hl
     ·rename_i e hx
      split at hl
      ·rename_i u hu
       simp only[Option.some.injEq,Prod.mk.injEq]at hl
       obtain⟨rfl,rfl⟩:=hl
       obtain⟨Oe,Oh,re,rh,ho⟩:=s1.parts
       obtain⟨Q,q,_⟩:=RL.get rh hg
       simp only[bl]at q
       rcases q with ⟨rfl,_⟩ | ⟨b',c,el,g1,g2,g3,g4,g5,g6,g7,g8,g9,g10⟩
       ·simp at hx
       ·rw[hob]at g1
        simp only[Option.some.injEq]at g1
        subst g1
        have hrc:=g8.elem g7 hx
        obtain⟨x,hrun,rx⟩:=LF (P:=P) h1 hrc hu
        refine .flat s (fin he (x:=x) ?_) rx s1 (S.le_left l1)
        rw[g2,←Nat.add_assoc];exact hrun
      ·simp at hl
     ·simp at hl
    ·simp at hl
   | pim cs off =>
    simp only[RV]at rv
    obtain⟨⟨b,k,he,hrc,_⟩,_⟩:=rv
    simp only[loadAt]at hl
    split at hl
    ·rename_i u hu
     simp only[Option.some.injEq,Prod.mk.injEq]at hl
     obtain⟨rfl,rfl⟩:=hl
     obtain⟨x,hrun,rx⟩:=LF (P:=P) h1 hrc hu
     exact .flat s (fin he hrun) rx s1 (S.le_left l1)
    ·simp at hl
   | _=>simp[loadAt]at hl
  ·simp at k1
 ·simp at hc
end
end Go.Vm
namespace Go.Vm
section
variable {P:Program}{g:Gh}{w:World}{t:Array Value}{O:Nat→Nat}{st st':St}{a:AV}{o:Oper}
theorem S.grow {st:St}(s:S P g w st t O) {w':World}(h:az g w g w' fun _=>False):S P g w' st t O:=by
 obtain⟨Oe,Oh,re,rh,ho⟩:=s.parts
 exact⟨s.se,s.sh,⟨Oe,Oh,eO.ext h re (by simp),rh.imp' fun k v O1 _ _ q=>q.ext h (by simp) (by simp),ho⟩,s.le,
  fun b hb=>Nat.lt_of_lt_of_le (s.hi b hb) h.size,s.fresh,fun b o hp=>Nat.lt_of_lt_of_le (s.pmlt b o hp) h.size⟩
theorem S.out {st:St}(s:S P g w st t O) {b:Nat}(h:w.heap.size≤b):O b=0:=by
 by_cases h':O b=0
 ·exact h'
 ·have:=s.hi b h';omega
theorem az.drew (g:Gh) (w:World) (T:Nat→Prop):az g w g w.drew T:=⟨fun _ _ h=>⟨h,rfl,rfl,rfl⟩,fun _ _ h=>⟨h,rfl⟩,fun _ _ _=>⟨rfl,fun _ h=>h⟩,Nat.le_refl _,fun _ rc h=>⟨rc,h⟩,rfl,rfl,fun _=>rfl⟩
theorem cA.list {res:Result Next}{m cap:Nat}{xs:List (List D)}{c:Array Value}{el:TypeId}{w1:World}{O':Nat→Nat}(s0:S P g w st t O)
  (s:S P g w st' t O') (hle:∀ b,O' b≤O b) (hx1:az g w g w1 fun _=>False) (hsz1:w1.heap.size=w.heap.size)
  (h:res=.ok (.value (.slice (some ⟨w.heap.size,0,none⟩) xs.length cap)) (w1.alloc (.cells c el)))
  (hm:0<m) (hl:∀ e∈xs,e.length=m) (hcap:xs.length≤cap) (hsz:cap*m≤c.size) (hc:∀ (j:Nat) (d:D),xs.flatten[j]?=some d→∃ u,c[j]?=some u∧RD w g.pm d u) :
  cA P g w t O st' (.own true m xs) res:=by
 have hp1:∀ b o,g.pm b o→b<w1.heap.size:=fun b o hp=>by rw[hsz1];exact s0.pmlt b o hp
 have hx:az g w g (w1.alloc (.cells c el)) fun _=>False:=hx1.trans (az.alloc hp1 _ _) fun _ _ h=>h
 have hO:O w.heap.size=0:=s0.out (Nat.le_refl _)
 refine⟨_,w1.alloc (.cells c el),g,one w.heap.size,O',.inl h,?_,s.grow hx,hx.mono (fun _ _ h=>h.elim),fun b=>?_,fun b hb=>?_,fun b hb=>?_⟩
 ·simp only[RV,li]
  refine .inr ⟨w.heap.size,0,cap,c,el,rfl,hcap,hm,hl,?_,by omega,fun j d hj=>?_,fun o ho=>?_,fun h=>by simp at h,rfl⟩
  ·rw[←hsz1];exact dA _ _
  ·obtain⟨u,hu,hr⟩:=hc j d hj
   refine⟨u,?_,hr.ext hx⟩
   rw[dc (c:=c) (el:=el) (fz:=(0,0)) (by rw[←hsz1];exact dA _ _)]
   rw[Nat.zero_add];exact hu
  ·have:=s0.pmlt _ o ho;omega
 ·by_cases hb:b=w.heap.size
  ·subst hb;have:=hle w.heap.size;simp;omega
  ·have:=hle b;have:=s0.le b;simp[one,hb];omega
 ·have:b≠w.heap.size:=by omega
  have:=hle b
  simp[one, *]
 ·have:=lc hb;subst this;simp[hsz1]
theorem Ld {zs:List D}{vs:List Value}(h:EW zs vs=true):zs.length=vs.length∧∀ (j:Nat) (d:D),zs[j]?=some d→∃ u,vs[j]?=some u∧RD w g.pm d u:=by
 induction zs generalizing vs with
 | nil=>cases vs<;>simp[EW]at h⊢
 | cons z zs ih =>
  cases vs with
  | nil=>simp[EW]at h
  | cons v vs =>
   simp only[EW,Bool.and_eq_true]at h
   obtain⟨h1,h2⟩:=ih h.2
   refine⟨by simp[h1],fun j d hj=>?_⟩
   cases j with
   | zero=>simp at hj;subst hj;exact⟨v,rfl,.const h.1⟩
   | succ j=>simp at hj;obtain⟨u,hu,hr⟩:=h2 j d hj;exact⟨u,by simpa using hu,hr⟩
theorem IE {z:List D}{n j:Nat}{d:D}(h:(List.replicate n z).flatten[j]?=some d):z[j % z.length]?=some d∧j<n*z.length:=by
 induction n generalizing j with
 | zero=>simp at h
 | succ n ih =>
  rw[List.replicate_succ,List.flatten_cons]at h
  rcases Nat.lt_or_ge j z.length with hj | hj
  ·rw[List.getElem?_append_left hj]at h
   rw[Nat.mod_eq_of_lt hj,Nat.succ_mul]
   exact⟨h,by omega⟩
  ·rw[List.getElem?_append_right hj]at h
   obtain⟨h1,h2⟩:=ih h
   rw[Nat.mod_eq_sub_mod hj,Nat.succ_mul]
   exact⟨h1,by omega⟩
theorem rH {ty:TypeId}{z:List D}(h:qc P ty z=true):∃ e i zv,P.underlying ty=some (.slice e)∧P.info? e=some i∧i.zero=some zv∧EW z zv.cells.toList=true:=by
 unfold qc at h
 split at h
 ·rename_i e hu
  unfold abL at h
  split at h
  ·rename_i i hi
   split at h
   ·rename_i zv hz;exact⟨e,i,zv,hu,hi,hz,h⟩
   ·simp at h
  ·simp at h
 ·simp at h
theorem Cn {n:Nat}(h:n≤4294967296):IntKind.i64.wrap (n:Int)=n:=by
 apply Zr
 ·have:IntKind.min .i64=-9223372036854775808:=by decide
  omega
 ·have:IntKind.max .i64=9223372036854775807:=by decide
  omega
theorem UY {ty el:TypeId}{i:TypeInfo}{zv:Value}{kn kc:IntKind}{n cc:Nat}(hu:P.underlying ty=some (.slice el)) (hi:P.info? el=some i) (hz:i.zero=some zv)
  (hby:i.bytes≤4096) (hnc:n≤cc) (hcm:cc≤4294967296) :
  (Instr.makeSlice ty (.int kn (n:Int)) (.int kc (cc:Int))).run P w =
   .ok (.slice (some ⟨w.heap.size,0,none⟩) n cc) (w.alloc (.cells ((Array.range (cc*i.size)).map (zv.cells[·% zv.cells.size]!)) el)):=by
 have hw1:=Cn (n:=n) (by omega)
 have hw2:=Cn (n:=cc) hcm
 have hprod:i.bytes*cc≤4096*4294967296:=Nat.mul_le_mul hby hcm
 have hcast:((i.bytes*cc:Nat):Int)=(i.bytes:Int)*(cc:Int):=Int.natCast_mul _ _
 have hbig:¬ ((i.bytes:Int)*(cc:Int) > 2 ^ 48):=by
  rw[←hcast]
  have:((i.bytes*cc:Nat):Int)≤((4096*4294967296:Nat):Int):=Int.ofNat_le.2 hprod
  omega
 have hc0:¬ (cc:Int)<0:=by omega
 have hn0:¬ (n:Int)<0:=by omega
 have hnc':¬ (n:Int) > (cc:Int):=by omega
 simp only[Instr.makeSlice,Sem.run_bind,ak hu,Result.andThen_ok,asInt,asIntOf,Sem.run_pure,typeInfo,run_program,hi,hw1,hw2,hc0,hn0,hnc',hbig,
  decide_false,Bool.or_self,Bool.false_eq_true,if_false,run_askRoom,sizeOf,Int.toNat_natCast]
 by_cases hcz:cc*i.size=0
 ·have h0:Array.range 0=#[]:=by simp[Array.range]
  simp[hcz,newRow,h0]
 ·simp[hcz,newRow,zeroValue,typeInfo,hi,hz]
theorem OY {z:List D}{len cap:Rd}(s:S P g w st t O) (h:fB z len cap st=some (a,st')) (hc:ar P (.mkslice z len cap) o.op=true) :
  cA P g w t O st' a ((execOp (ev t) o).run P w):=by
 obtain⟨dst,op,ty,pos,aft,gd⟩:=o
 simp only[ar]at hc
 split at hc
 ·rename_i ty' l c
  simp only[Bool.and_eq_true]at hc
  obtain⟨⟨⟨h1,h2⟩,h3⟩,h4⟩:=hc
  obtain⟨vn,vc,e,On,Oc,O',rn,rc,s',hl,hk⟩:=D3 s h3 h4 h
  split at hk
  ·rename_i cc hcc
   split at hk
   ·rename_i n hn
    simp only[Option.some.injEq,Prod.mk.injEq]at hk
    obtain⟨rfl,rfl⟩:=hk
    obtain⟨⟨kc,hvc⟩,hcm⟩:=sS hcc rc
    obtain⟨⟨kn,hvn⟩,hnc⟩:=sS hn rn
    obtain⟨el,hu,hs,hm,hby⟩:=cQ h1
    obtain⟨el',i,zv,hu',hi,hz,hok⟩:=rH h2
    rw[hu]at hu'
    simp only[Option.some.injEq,TypeDesc.slice.injEq]at hu'
    subst hu'
    obtain⟨hzl,hzg⟩:=Ld (w:=w) (g:=g) hok
    have hsz:i.size=z.length:=by
     simp only[kW,hi,Nat.beq_eq]at hs;exact hs
    have hzs:zv.cells.size=z.length:=by rw[hzl];simp
    have hbytes:P.bytesOf el=i.bytes:=by simp[Program.bytesOf,hi]
    rw[hbytes]at hby
    have hrun:=UY (P:=P) (w:=w) (kn:=kn) (kc:=kc) hu hi hz hby hnc hcm
    rw[hsz]at hrun
    have hnz:0<z.length:=hm
    refine cA.list (cap:=cc) (c:=(Array.range (cc*z.length)).map (zv.cells[·% zv.cells.size]!)) (el:=el) (w1:=w) s s' (fun b=>by have:=hl b;omega) (az.refl _ _ _) rfl ?_ hm
     (fun e he=>by rw[List.mem_replicate]at he;rw[he.2]) (by simpa using hnc) (by simp) (fun j d hj=>?_)
    ·simp only[execOp,hvn,hvc]
     rw[Sem.run_bind,hrun]
     simp
    ·obtain⟨h5,h6⟩:=IE hj
     obtain⟨u,hu,hr⟩:=hzg _ d h5
     have hlt:j<cc*z.length:=Nat.lt_of_lt_of_le h6 (Nat.mul_le_mul_right _ hnc)
     refine⟨u,?_,hr⟩
     have hjm:j % z.length<zv.cells.size:=by rw[hzs];exact Nat.mod_lt _ hnz
     have hu2:zv.cells[j % zv.cells.size]! = u:=by
      rw[hzs]
      have:zv.cells[j % z.length]?=some u:=by rw[←Array.getElem?_toList];exact hu
      rw[getElem!_def,this]
     simp only[Array.getElem?_map,Array.getElem?_range,hlt,if_true,Option.map_some,hu2]
   ·simp at hk
  ·simp at hk
 ·simp at hc
end
end Go.Vm
namespace Go.Vm
def setBlk (w:World) (b:Nat) (o:Go.Obj):World:={ w with heap:=w.heap.setIfInBounds b o }
@[simp] theorem yE (w:World) (b:Nat) (o:Go.Obj):(setBlk w b o).heap.size=w.heap.size:=by simp[setBlk]
theorem bX {w:World}{b:Nat}{o:Go.Obj}(h:b<w.heap.size):(setBlk w b o).heap[b]?=some o:=by
 simp[setBlk,h]
theorem dq {w:World}{b b':Nat}{o:Go.Obj}(h:b'≠b):(setBlk w b o).heap[b']?=w.heap[b']?:=by
 simp[setBlk,Array.getElem?_setIfInBounds,Ne.symm h]
theorem Uf (w:World) (b:Nat) (o o':Go.Obj):setBlk (setBlk w b o) b o'=setBlk w b o':=by
 simp[setBlk]
theorem Y1 {w:World}{b o:Nat}{c:Array Value}{el:TypeId}{fz:Nat×Nat}{v:Value}(h:w.heap[b]?=some (.cells c el fz)) :
  w.setCell ⟨b,o,none⟩ v=setBlk w b (.cells (c.setIfInBounds o v) el fz):=by
 unfold World.setCell setBlk
 congr 1
 apply Array.ext_getElem?
 intro j
 rw[Array.getElem?_modify,Array.getElem?_setIfInBounds]
 have hb:=ba h
 by_cases hj:b=j
 ·subst hj
  simp only[if_true,h,Option.map_some,hb,and_self]
  rfl
 ·simp[hj]
theorem Cv {α:Type}{cs:List α}{off:Nat}{v:α}{vs:List α}(h:off+(vs.length+1)≤cs.length) :
  aj (cs.set off v) (off+1) vs=aj cs off (v::vs):=by
 unfold aj
 have h1:(cs.set off v).take (off+1)=cs.take off++[v]:=by
  rw[List.take_set,List.take_succ_eq_append_getElem (by omega)]
  rw[List.set_append_right _ _ (by simp;omega)]
  simp[show min off cs.length=off by omega]
 have h2:(cs.set off v).drop (off+1+vs.length)=cs.drop (off+(vs.length+1)):=by
  rw[List.drop_set_of_lt (by omega)]
  congr 1;omega
 rw[h1,h2]
 simp
theorem jo {P:Program}{b:Nat}{el:TypeId}:∀ (vs:List Value) (w:World) (c:Array Value) (off i:Nat),
  w.heap[b]?=some (.cells c el (0,0))→(∀ v∈vs,v.oneCell'=true)→off+i+vs.length≤c.size→
  ∃ c':Array Value,(storeCells ⟨b,off,none⟩ vs i).run P w=.ok () (setBlk w b (.cells c' el (0,0)))∧c'.toList=aj c.toList (off+i) vs∧c'.size=c.size
 | [],w,c,off,i,h,_,_=>by
  refine⟨c,?_,by simp[aj],rfl⟩
  have:setBlk w b (.cells c el (0,0))=w:=by
   unfold setBlk
   have hb:=ba h
   have:w.heap.setIfInBounds b (.cells c el (0,0))=w.heap:=by
    apply Array.ext_getElem?
    intro j
    rw[Array.getElem?_setIfInBounds]
    split
    ·rename_i hj;subst hj;simp[hb]at h⊢;simp[h]
    ·rfl
   rw[this]
  rw[this];rfl
 | v::vs,w,c,off,i,h,hv,hsz=>by
  have hoff:off+i<c.size:=by simp at hsz;omega
  have hcell:w.cell? ⟨b,off+i,none⟩=some c[off+i]:=by rw[dc h];simp[hoff]
  have hfz:w.frozen? ⟨b,off+i,none⟩=false:=by simp[World.frozen?,h]
  have hst:(store (⟨b,off+i,none⟩:Addr) v .plain).run P w=.ok () (setBlk w b (.cells (c.setIfInBounds (off+i) v) el (0,0))):=by
   rw[run_store P w _ v _ (hv v (.head _)),hcell]
   simp[hfz,Y1 h]
  have hb:b<w.heap.size:=ba h
  obtain⟨c',h1,h2,h3⟩:=jo (P:=P) vs (setBlk w b (.cells (c.setIfInBounds (off+i) v) el (0,0))) (c.setIfInBounds (off+i) v) off (i+1) (bX hb)
   (fun u hu=>hv u (.tail _ hu)) (by simp at hsz⊢;omega)
  refine⟨c',?_,?_,by simpa using h3⟩
  ·unfold storeCells
   rw[eD,Sem.run_bind,hst]
   simp only[Result.andThen_ok]
   rw[h1,Uf]
  ·rw[h2,Array.toList_setIfInBounds,←Nat.add_assoc,Cv (by simp at hsz⊢;omega)]
section
variable {P:Program}{g:Gh}{w:World}{t:Array Value}{O:Nat→Nat}{st st':St}{a:AV}{o:Oper}
theorem mQ {b:Nat}{o o':Go.Obj}(hb:w.heap[b]?=some o) (ho:∀ off,cY o off=false) (ho':∀ off,cY o' off=false) (a:Addr):(Vm.setBlk w b o').frozen? a=w.frozen? a:=by
 by_cases e:a.block=b
 ·have h1:=ho a.off
  have h2:=ho' a.off
  have e1:(Vm.setBlk w b o').heap[a.block]?=some o':=by rw[e];exact bX (ba hb)
  have e2:w.heap[a.block]?=some o:=by rw[e];exact hb
  simp only[World.frozen?,e1,e2]
  cases o<;>cases o'<;>first | rfl | exact h2.trans h1.symm | exact h2 | exact h1.symm
 ·simp only[World.frozen?,dq e]
theorem az.setBlk {b:Nat}{c:Array Value}{el:TypeId}{o':Go.Obj}(hb:w.heap[b]?=some (.cells c el (0,0))) (hp:∀ o,¬ g.pm b o) (hc:∀ off,cY o' off=false:=by intro off;simp[cY]):az g w g (Vm.setBlk w b o') fun x=>x=b where
 obj _ _ h:=⟨h,rfl,rfl,rfl⟩
 pm b' o h:=⟨h,by
  have:b'≠b:=by rintro rfl;exact hp o h
  exact fh (dq this) o⟩
 blk b' _ h:=⟨dq h,fun _ h=>h⟩
 size:=by simp
 lp b' rc h:=⟨rc,by rw[dq (by rintro rfl;rw[hb]at h;simp at h)];exact h⟩
 same:=⟨rfl,rfl,mQ hb (by intro off;simp[cY]) hc⟩
theorem S.store {st:St}(s:S P g w st t O) {id:Nat}{ob:Obj}(hg:get st.hs.heap id=some ob) :
  ∃ O1 Oz:Nat→Nat,bl P g w id ob O1∧(∀ b,O1 b+Oz b≤O b)∧∀ (w':World) (b:Nat) (c:Array Value) (el:TypeId) (ob':Obj) (O1':Nat→Nat),
   w.heap[b]?=some (.cells c el (0,0))→1≤O1 b→az g w g w' (fun x=>x=b)→bl P g w' id ob' O1'→(∀ x,O1' x+Oz x≤1)→(∀ x,O1' x≠0→x<w'.heap.size)→
   S P g w' ⟨st.env,⟨put st.hs.heap id ob',st.hs.next⟩⟩ t (fun x=>O1' x+Oz x):=by
 obtain⟨Oe,Oh,re,rh,ho⟩:=s.parts
 obtain⟨O1,O2,q,r2,hs⟩:=RL.take rh hg
 refine⟨O1,fun b=>Oe b+O2 b,q,fun b=>by have:=hs b;have:=ho b;show O1 b+(Oe b+O2 b)≤O b;omega,fun w' b c el ob' O1' hblk h1 hx q' hle hhi=>?_⟩
 have hone:O b≤1:=s.le b
 have hfree:Oe b=0∧O2 b=0:=by have:=hs b;have:=ho b;omega
 have re':=eO.ext hx re (fun y hy e=>by rw[e]at hy;exact hy hfree.1)
 have r2':pY P g w' (del st.hs.heap id) O2:=r2.imp' fun k v Q _ hQ q=>q.ext hx (fun y hy e=>by rw[e]at hy;have:=hQ b;exact hy (by omega)) (fun y ds hd e=>by
  rw[e,hblk]at hd;simp at hd)
 obtain⟨O3,r3,h3⟩:=RL.put s.sh r2' q'
 refine⟨s.se,s.sh.put _ _,⟨Oe,O3,re',r3,fun x=>by have:=h3 x;show O1' x+(Oe x+O2 x)=Oe x+O3 x;omega⟩,hle,fun x hx0=>?_,s.fresh,
  fun b o hp=>Nat.lt_of_lt_of_le (s.pmlt b o hp) hx.size⟩
 by_cases h:O1' x=0
 ·refine Nat.lt_of_lt_of_le (s.hi x ?_) hx.size
  have:=hs x;have:=ho x
  change O1' x+(Oe x+O2 x)≠0 at hx0
  omega
 ·exact hhi x h
theorem mN {α:Type}{cs vs:List α}{off:Nat}:aj cs off vs=cs.take off++(vs++cs.drop (off+vs.length)):=by
 unfold aj;rw[List.append_assoc]
theorem YF {ty:TypeId}{n:Nat}(ht:kW P ty n=true) {st:St}(s:S P g w st t O) {id off:Nat}{b:Nat}(hob:g.obj id=some b)
  {v:AV}{x:Value}{Ov:Nat→Nat}(rv:RV g w v x Ov) (hO:∀ c,Ov c+O c≤1) (hOv:∀ c,Ov c≠0→c<w.heap.size) {h':ac}
  (h:storeAt st.hs.heap n (.ptr id off) v=some h') :
  ∃ w' O2,(storeVar ty ⟨b,g.base id+off,none⟩ x).run P w=.ok () w'∧S P g w' ⟨st.env,⟨h',st.hs.next⟩⟩ t O2∧az g w g w' (fun c=>O c≠0)∧(∀ c,O2 c≤Ov c+O c)∧
   w'.heap.size=w.heap.size:=by
 unfold storeAt at h
 split at h
 ·simp at h
 ·rename_i hn
  rw[Nat.beq_eq]at hn
  simp only at h
  split at h
  ·rename_i cs hg
   split at h
   ·rename_i hb
    simp only[Bool.and_eq_true,Nat.ble_eq]at hb
    simp only[Option.some.injEq]at h;subst h
    obtain⟨O1,Oz,q,hsum,hst⟩:=s.store hg
    simp only[bl]at q
    obtain⟨b',c,el,Oc,h1,h2,h3,h4,h5,h6,h7,h8⟩:=q
    rw[hob]at h1
    simp only[Option.some.injEq]at h1
    subst h1
    rw[h2,Nat.zero_add]
    have hsz:c.size=cs.length:=by rw[←h6.length];simp
    have rvs:=rv.cells hb.2
    have hlenx:x.cells.toList.length=n:=by rw[rvs.length];exact hn
    obtain⟨c',hrun,hc',hcs⟩:=jo (P:=P) (b:=b) (el:=el) x.cells.toList w c off 0 h5 (rvs.one hb.2) (by rw[hlenx];omega)
    have hrun':(storeVar ty ⟨b,off,none⟩ x).run P w=.ok () (setBlk w b (.cells c' el (0,0))):=by
     have hxs:x.cells.size=n:=by rw[←hlenx];simp
     simp only[storeVar,Sem.run_bind,bT ht,Result.andThen_ok,hxs,ne_eq,not_true,if_false,Sem.run_ite]
     exact hrun
    have hOb:1≤O1 b:=by rw[h8 b];simp
    have hx:az g w g (setBlk w b (.cells c' el (0,0))) fun x=>x=b:=az.setBlk h5 h7
    have hbO:O b=1:=by have:=hsum b;have:=s.le b;omega
    have hOvb:Ov b=0:=by have:=hO b;omega
    have hOcb:Oc b=0:=by
     have e:=h8 b
     rw[lB]at e
     have:=hsum b;have:=s.le b
     omega
    have r6:=ai.ext hx _ _ _ h6 (fun y hy e=>by rw[e]at hy;exact hy hOcb)
    have rvs':=ai.ext hx _ _ _ rvs (fun y hy e=>by rw[e]at hy;exact hy hOvb)
    rw[We hb.1]at r6
    obtain⟨B1,B2,rb1,rb2,hb12⟩:=r6.split
    obtain⟨B3,B4,rb3,rb4,hb34⟩:=rb2.split
    have htl:(cs.take off).length=off:=by simp;omega
    have hsl:(Vm.sub cs off n).length=n:=eK hb.1
    rw[htl]at rb1 rb4
    rw[hsl]at rb4
    have hjoin:=rb1.join (rvs'.join rb4)
    rw[←hn]at hjoin
    rw[←mN]at hjoin
    have e2:c.toList.take off++(x.cells.toList++(c.toList.drop off).drop v.cells.length)=c'.toList:=by
     rw[hc',Nat.add_zero,mN,List.drop_drop,hlenx,hn]
    rw[e2]at hjoin
    have hlen':(aj cs off v.cells).length=cs.length:=by rw[←hjoin.length];simp[hcs,hsz]
    refine⟨_,_,hrun',hst (setBlk w b (.cells c' el (0,0))) b c el (.cells (aj cs off v.cells)) (fun y=>(B1 y+(Ov y+B4 y))+one b y) h5 hOb hx ?_ (fun y=>?_) (fun y hy=>?_),
     hx.mono (fun y _ e=>by rw[e];omega),fun y=>?_,by simp⟩
    ·simp only[bl]
     exact⟨b,c',el,_,hob,h2,h3,by rw[hlen'];exact h4,bX (ba h5),hjoin,h7,fun _=>rfl⟩
    ·have:=h8 y;have:=hb12 y;have:=hb34 y;have:=hsum y;have:=hO y
     show (B1 y+(Ov y+B4 y))+one b y+Oz y≤1
     omega
    ·have:=h8 y;have:=hb12 y;have:=hb34 y;have:=hsum y
     simp only[yE]
     by_cases hv0:Ov y=0
     ·refine s.hi y ?_
      change (B1 y+(Ov y+B4 y))+one b y≠0 at hy
      omega
     ·exact hOv y hv0
    ·have:=h8 y;have:=hb12 y;have:=hb34 y;have:=hsum y
     show (B1 y+(Ov y+B4 y))+one b y+Oz y≤Ov y+O y
     omega
   ·simp at h
  ·simp at h
end
end Go.Vm
namespace Go.Vm
theorem dy {α:Type}{cs vs:List α}{off:Nat}(h:off+vs.length≤cs.length) (j:Nat) :
  (aj cs off vs)[j]?=if off≤j∧j<off+vs.length then vs[j-off]? else cs[j]?:=by
 unfold aj
 rw[List.append_assoc]
 have h1:(cs.take off).length=off:=by simp;omega
 by_cases ha:j<off
 ·rw[List.getElem?_append_left (by omega),List.getElem?_take,if_pos ha,if_neg (by omega)]
 ·rw[List.getElem?_append_right (by omega),h1]
  by_cases hb:j<off+vs.length
  ·rw[List.getElem?_append_left (by omega),if_pos (by omega)]
  ·rw[List.getElem?_append_right (by omega),List.getElem?_drop,if_neg (by omega)]
   congr 1;omega
theorem YO {xs:List (List D)}{m:Nat}(h:∀ e∈xs,e.length=m) {i off:Nat}{e ds:List D}(hi:xs[i]?=some e) (ho:off+ds.length≤m) :
  (xs.set i (aj e off ds)).flatten=aj xs.flatten (i*m+off) ds:=by
 apply List.ext_getElem?
 intro j
 have he:e.length=m:=h e (List.mem_of_getElem? hi)
 have hlt:=ef hi
 have hl2:∀ e'∈xs.set i (aj e off ds),e'.length=m:=by
  intro e' he'
  rcases List.mem_or_eq_of_mem_set he' with h' | h'
  ·exact h e' h'
  ·rw[h'];unfold aj;simp;omega
 have hmm:(i+1)*m≤xs.length*m:=Nat.mul_le_mul_right _ hlt
 rw[Nat.succ_mul]at hmm
 rw[dy (by rw[cD h];omega)]
 by_cases hm:m=0
 ·subst hm
  have e1:(xs.set i (aj e off ds)).flatten.length=0:=by rw[cD hl2];simp
  have e2:xs.flatten.length=0:=by rw[cD h];simp
  have e3:ds.length=0:=by omega
  rw[List.eq_nil_of_length_eq_zero e1,List.eq_nil_of_length_eq_zero e2,List.eq_nil_of_length_eq_zero e3]
  simp
 have hpos:0<m:=Nat.pos_of_ne_zero hm
 have hdec:j=(j / m)*m+j % m:=by rw[Nat.mul_comm];exact(Nat.div_add_mod j m).symm
 have hr:j % m<m:=Nat.mod_lt _ hpos
 have cell:∀ (ys:List (List D)),(∀ e∈ys,e.length=m)→ys.flatten[j]?=(ys[j / m]?).bind (·[j % m]?):=by
  intro ys hy
  cases hq:ys[j / m]? with
  | none =>
   have:ys.length≤j / m:=by
    rcases Nat.lt_or_ge (j / m) ys.length with h' | h'
    ·rw[List.getElem?_eq_getElem h']at hq;simp at hq
    ·exact h'
   have:ys.flatten.length≤j:=by
    rw[cD hy]
    exact Nat.le_trans (Nat.mul_le_mul_right m this) (by rw[Nat.mul_comm];exact Nat.mul_div_le j m)
   rw[List.getElem?_eq_none this];rfl
  | some e' =>
   have hl:=hy e' (List.mem_of_getElem? hq)
   have hc:e'[j % m]?=some e'[j % m]:=by simp[hl,hr]
   have:=Eo hy hq hc
   rw[←hdec]at this
   rw[this];simp[hl,hr]
 rw[cell _ hl2,cell _ h]
 by_cases hk:j / m=i
 ·rw[hk,List.getElem?_set_self (by simpa using hlt),hi]
  simp only[Option.bind_some]
  rw[dy (by omega)]
  have hji:j=i*m+j % m:=by rw[←hk];exact hdec
  by_cases hin:off≤j % m∧j % m<off+ds.length
  ·rw[if_pos hin,if_pos (by omega)]
   congr 1;omega
  ·rw[if_neg hin,if_neg (by omega)]
 ·rw[List.getElem?_set_ne (by omega)]
  have:¬ (i*m+off≤j∧j<i*m+off+ds.length):=by
   rintro ⟨h1,h2⟩
   apply hk
   have:j<(i+1)*m:=by rw[Nat.succ_mul];omega
   exact Nat.div_eq_of_lt_le (by omega) this
  rw[if_neg this]
section
variable {P:Program}{g:Gh}{w:World}{t:Array Value}{O:Nat→Nat}{st st':St}{a:AV}{o:Oper}
theorem agi {v:AV}{d:D}{x:Value}{Ov:Nat→Nat}(h:sX v=some d) (r:RV g w v x Ov):RD w g.pm d x:=by
 cases v with
 | d c=>simp only[sX,Option.some.injEq]at h;subst h;simp only[RV]at r;exact r.1
 | nl=>simp only[sX,Option.some.injEq]at h;subst h;simp only[RV]at r;rw[r.1];exact .nil _ _
 | own p m xs =>
  cases p<;>simp only[sX,Option.some.injEq,reduceCtorEq]at h
  subst h
  have:=RV.share _ _ _ r
  simp only[share,RV]at this
  exact this.1
 | _=>simp[sX]at h
theorem RD.one {pm:Nat→Nat→Prop}{d:D}{x:Value}(r:RD w pm d x):x.oneCell'=true:=by cases r<;>rfl
theorem BR {vs:List AV}{ds:List D}{xs:List Value}{Ov:Nat→Nat}(h:ge vs=some ds) (r:ai g w vs xs Ov) :
  xs.length=ds.length∧(∀ (j:Nat) (d:D),ds[j]?=some d→∃ x,xs[j]?=some x∧RD w g.pm d x)∧∀ x∈xs,x.oneCell'=true:=by
 induction vs generalizing ds xs Ov with
 | nil =>
  simp only[ge,Option.some.injEq]at h;subst h
  simp only[ai]at r;rw[r.1];simp
 | cons v vs ih =>
  simp only[ge]at h
  split at h
  ·rename_i c hc
   split at h
   ·rename_i cs hcs
    simp only[Option.some.injEq]at h;subst h
    simp only[ai]at r
    obtain⟨x,s,O1,O2,rfl,r1,r2,_⟩:=r
    obtain⟨h1,h2,h3⟩:=ih hcs r2
    have hd:=agi hc r1
    refine⟨by simp[h1],fun j d hj=>?_,fun y hy=>?_⟩
    ·cases j with
     | zero=>simp at hj;subst hj;exact⟨x,rfl,hd⟩
     | succ j=>simp at hj;obtain⟨y,hy,hr⟩:=h2 j d hj;exact⟨y,by simpa using hy,hr⟩
    ·rcases List.mem_cons.1 hy with rfl | hy
     ·exact hd.one
     ·exact h3 y hy
   ·simp at h
  ·simp at h
end
end Go.Vm
namespace Go.Vm
theorem UW {v:AV}{d:D}(h:sX v=some d):cy v=true:=by
 cases v with
 | own p m xs=>cases p<;>simp[sX]at h;rfl
 | d c=>rfl
 | nl=>rfl
 | _=>simp[sX]at h
theorem z7 {vs:List AV}{ds:List D}(h:ge vs=some ds):vs.all cy=true:=by
 induction vs generalizing ds with
 | nil=>rfl
 | cons v vs ih =>
  simp only[ge]at h
  split at h
  ·rename_i c hc
   split at h
   ·rename_i cs hcs
    simp only[List.all_cons,Bool.and_eq_true]
    exact⟨UW hc,ih hcs⟩
   ·simp at h
  ·simp at h
theorem xO {vs:List AV}{ds:List D}(h:ge vs=some ds):ds.length=vs.length:=by
 induction vs generalizing ds with
 | nil=>simp only[ge,Option.some.injEq]at h;subst h;rfl
 | cons v vs ih =>
  simp only[ge]at h
  split at h
  ·split at h
   ·rename_i cs hcs
    simp only[Option.some.injEq]at h;subst h
    simp[ih hcs]
   ·simp at h
  ·simp at h
section
variable {P:Program}{g:Gh}{w:World}{t:Array Value}{O:Nat→Nat}{st st':St}{a:AV}{o:Oper}
theorem aa7 {ty:TypeId}{n:Nat}(ht:kW P ty n=true) {st:St}(s:S P g w st t O) {id i off:Nat}{b:Nat}(hob:g.obj id=some b)
  {v:AV}{x:Value}{Ov:Nat→Nat}(rv:RV g w v x Ov) {h':ac}
  (h:storeAt st.hs.heap n (.pel id i off) v=some h') :
  ∃ w' O2,(storeVar ty ⟨b,g.base id+(i*g.esz id+off),none⟩ x).run P w=.ok () w'∧S P g w' ⟨st.env,⟨h',st.hs.next⟩⟩ t O2∧az g w g w' (fun c=>O c≠0)∧(∀ c,O2 c≤O c)∧
   w'.heap.size=w.heap.size:=by
 unfold storeAt at h
 split at h
 ·simp at h
 ·rename_i hn
  rw[Nat.beq_eq]at hn
  simp only at h
  split at h
  ·simp at h
  ·rename_i ds hds
   split at h
   ·rename_i m xs hg
    split at h
    ·rename_i e he
     split at h
     ·rename_i hb
      rw[Nat.ble_eq]at hb
      simp only[Option.some.injEq]at h;subst h
      obtain⟨O1,Oz,q,hsum,hst⟩:=s.store hg
      simp only[bl]at q
      rcases q with ⟨rfl,_⟩ | ⟨b',c,el,g1,g2,g3,g4,g5,g6,g7,g8,g9,g10⟩
      ·simp at he
      ·rw[hob]at g1
       simp only[Option.some.injEq]at g1
       subst g1
       have hlt:=ef he
       have hem:e.length=m:=g7 e (List.mem_of_getElem? he)
       have hmm:(i+1)*m≤xs.length*m:=Nat.mul_le_mul_right _ hlt
       rw[Nat.succ_mul]at hmm
       have rvs:=rv.cells (z7 hds)
       obtain⟨k1,k2,k3⟩:=BR hds rvs
       have hdl:ds.length=n:=by rw[xO hds];exact hn
       have hlenx:x.cells.toList.length=n:=by rw[k1,hdl]
       obtain⟨c',hrun,hc',hcs⟩:=jo (P:=P) (b:=b) (el:=el) x.cells.toList w c (g.base id+(i*g.esz id+off)) 0 g4 k3 (by rw[g2];simp only[Array.length_toList]at hlenx⊢;omega)
       have hrun':(storeVar ty ⟨b,g.base id+(i*g.esz id+off),none⟩ x).run P w=.ok () (setBlk w b (.cells c' el (0,0))):=by
        have hxs:x.cells.size=n:=by rw[←hlenx];simp
        simp only[storeVar,Sem.run_bind,bT ht,Result.andThen_ok,hxs,ne_eq,not_true,if_false,Sem.run_ite]
        exact hrun
       have hx:az g w g (setBlk w b (.cells c' el (0,0))) fun x=>x=b:=az.setBlk g4 g9
       have hOb:1≤O1 b:=by rw[g10 b];simp
       have hl2:∀ e'∈xs.set i (aj e off ds),e'.length=m:=by
        intro e' he'
        rcases List.mem_or_eq_of_mem_set he' with h' | h'
        ·exact g7 e' h'
        ·rw[h'];unfold aj;simp;omega
       refine⟨_,_,hrun',hst (setBlk w b (.cells c' el (0,0))) b c el (.arr m (xs.set i (aj e off ds))) (one b) g4 hOb hx ?_ (fun y=>?_) (fun y hy=>?_),
        hx.mono (fun y _ e=>by rw[e];have:=hsum b;omega),fun y=>?_,by simp⟩
       ·simp only[bl]
        refine .inr ⟨b,c',el,hob,g2,g3,bX (ba g4),by rw[hcs];exact g5,by simpa using g6,hl2,?_,g9,fun _=>rfl⟩
        rw[YO g7 he (by omega)]
        have hfl:=cD g7
        intro j d hj
        rw[dy (by rw[hfl];omega)]at hj
        have hcell:(setBlk w b (.cells c' el (0,0))).cell? ⟨b,g.base id+j,none⟩=c'.toList[g.base id+j]?:=by
         rw[dc (bX (ba g4)),Array.getElem?_toList]
        rw[hcell,hc',dy (by simp only[Array.length_toList]at hlenx⊢;rw[hlenx,g2];omega),hlenx,g2]
        split at hj
        ·rename_i hin
         rw[if_pos (by omega)]
         obtain⟨u,hu,hr⟩:=k2 _ _ hj
         refine⟨u,?_,hr.ext hx⟩
         rw[←hu];congr 1;omega
        ·rename_i hin
         rw[if_neg (by omega)]
         obtain⟨u,hu,hr⟩:=g8 j d hj
         refine⟨u,?_,hr.ext hx⟩
         rw[dc g4]at hu
         simpa using hu
       ·have:=hsum y;have:=s.le y;have:=g10 y
        show one b y+Oz y≤1
        omega
       ·rw[lc hy];simpa using ba g4
       ·have:=hsum y;have:=g10 y
        show one b y+Oz y≤O y
        omega
     ·simp at h
    ·simp at h
   ·simp at h
theorem ake {n:Nat}{p x:Rd}(s:S P g w st t O) (h:abo n p x st=some (a,st')) (hc:ar P (.st n p x) o.op=true) :
  cA P g w t O st' a ((execOp (ev t) o).run P w):=by
 obtain⟨dst,op,ty,pos,aft,gd⟩:=o
 simp only[ar]at hc
 split at hc
 ·rename_i ty' p' x'
  simp only[Bool.and_eq_true]at hc
  obtain⟨⟨h1,h2⟩,h3⟩:=hc
  obtain⟨pv,xv,e,Op,Ox,O',rp,rx,s2,l2,k⟩:=D3 s h2 h3 h
  split at k
  ·rename_i h' hst
   simp only[Option.some.injEq,Prod.mk.injEq]at k
   obtain⟨rfl,rfl⟩:=k
   have fin:∀ {ad:Addr}{w':World},ev t p'=.pointer (some ad)→(storeVar ty' ad (ev t x')).run P w=.ok () w'→
     (execOp (ev t) ⟨dst,.store ty' p' x',ty,pos,aft,gd⟩).run P w=.ok .skip w':=by
    intro ad w' he hr
    simp only[execOp,he]
    rw[Sem.run_bind]
    simp only[Instr.storeAt,Instr.sureAddr,pure_bind,hr,Result.andThen_ok,Sem.run_pure]
   cases pv with
   | ptr id off =>
    simp only[RV]at rp
    obtain⟨⟨b,hob,he⟩,_⟩:=rp
    obtain⟨w',O2,hrun,s3,hx,ho,hsz⟩:=YF h1 s2 hob rx (fun c=>by have:=l2 c;have:=s.le c;omega) (fun c hc=>s.hi c (by have:=l2 c;omega)) hst
    refine⟨undef,w',g,zero,O2,.inr ⟨fin he hrun,rfl⟩,?_,s3,hx.mono fun c _ h=>by have:=l2 c;omega,fun c=>by have:=s3.le c;simpa using this,fun c _=>?_,by simp⟩
    ·simp only[RV];exact fun _=>trivial
    ·have:=ho c;have:=l2 c;simp;omega
   | pel id i off =>
    simp only[RV]at rp
    obtain⟨⟨b,hob,he⟩,_⟩:=rp
    obtain⟨w',O2,hrun,s3,hx,ho,hsz⟩:=aa7 h1 s2 hob rx hst
    refine⟨undef,w',g,zero,O2,.inr ⟨fin he hrun,rfl⟩,?_,s3,hx.mono fun c _ h=>by have:=l2 c;omega,fun c=>by have:=s3.le c;simpa using this,fun c _=>?_,by simp⟩
    ·simp only[RV];exact fun _=>trivial
    ·have:=ho c;have:=l2 c;simp;omega
   | _=>simp only[storeAt]at hst;split at hst<;>simp at hst
  ·simp at k
 ·simp at hc
end
end Go.Vm
namespace Go.Vm
section
variable {P:Program}{g:Gh}{w:World}{t:Array Value}{O:Nat→Nat}{st st':St}{a:AV}
def TX (P:Program) (g:Gh) (w:World) (t:Array Value) (O:Nat→Nat) (st':St):Prop :=
 ∃ g' O',S P g' w st' t O'∧az g w g' w (fun b=>O b≠0)∧∀ b,O' b≤O b
theorem TX.same {O':Nat→Nat}(s:S P g w st' t O') (h:∀ b,O' b≤O b):TX P g w t O st':=⟨g,O',s,.refl _ _ _,h⟩
theorem S.delEnv {st:St}(s:S P g w st t O) (i:Nat):∃ O',S P g w ⟨del st.env i,st.hs⟩ t O'∧∀ b,O' b≤O b:=by
 obtain⟨Oe,Oh,re,rh,ho⟩:=s.parts
 obtain⟨O1,r1,h1⟩:=RL.drop re i
 have hle:∀ b,O1 b+Oh b≤O b:=fun b=>by have:=h1 b;have:=ho b;omega
 exact⟨fun b=>O1 b+Oh b,s.of_env r1 rh (s.se.del i) (fun _=>rfl) hle,hle⟩
theorem S.delHeap {st:St}(s:S P g w st t O) (i:Nat):∃ O',S P g w ⟨st.env,⟨del st.hs.heap i,st.hs.next⟩⟩ t O'∧∀ b,O' b≤O b:=by
 obtain⟨Oe,Oh,re,rh,ho⟩:=s.parts
 obtain⟨O1,r1,h1⟩:=RL.drop rh i
 have hle:∀ b,Oe b+O1 b≤O b:=fun b=>by have:=h1 b;have:=ho b;omega
 exact⟨fun b=>Oe b+O1 b,⟨s.se,s.sh.del i,⟨Oe,O1,re,r1,fun _=>rfl⟩,fun b=>Nat.le_trans (hle b) (s.le b),
  fun b hb=>s.hi b (by have:=hle b;omega),s.fresh,s.pmlt⟩,hle⟩
theorem ag6 {is:List Nat}(s:S P g w st t O) (h:Xx is st=some (a,st')):TX P g w t O st':=by
 simp only[Xx,Option.some.injEq,Prod.mk.injEq]at h
 obtain⟨_,rfl⟩:=h
 have:∃ O',S P g w ⟨is.foldl del st.env,st.hs⟩ t O'∧∀ b,O' b≤O b:=by
  induction is generalizing st O with
  | nil=>exact⟨O,s,fun _=>Nat.le_refl _⟩
  | cons i is ih =>
   obtain⟨O1,s1,h1⟩:=s.delEnv i
   obtain⟨O2,s2,h2⟩:=ih (st:=⟨del st.env i,st.hs⟩) s1
   exact⟨O2,s2,fun b=>Nat.le_trans (h2 b) (h1 b)⟩
 obtain⟨O',s',h'⟩:=this
 exact .same s' h'
theorem S.delAll:∀ {l:List Nat}{st:St}{O:Nat→Nat},S P g w st t O→∃ O',S P g w ⟨st.env,⟨delAll st.hs.heap l,st.hs.next⟩⟩ t O'∧∀ b,O' b≤O b
 | [],_,O,s=>⟨O,s,fun b=>Nat.le_refl _⟩
 | i::r,st,O,s=>by
  obtain⟨O1,s1,h1⟩:=s.delHeap i
  obtain⟨O2,s2,h2⟩:=S.delAll (l:=r) s1
  exact⟨O2,s2,fun b=>Nat.le_trans (h2 b) (h1 b)⟩
theorem aht {i:Nat}(s:S P g w st t O) (h:Nb i st=some (a,st')):TX P g w t O st':=by
 unfold Nb at h
 split at h
 ·rename_i id _ _
  simp only[Option.some.injEq,Prod.mk.injEq]at h
  obtain⟨_,rfl⟩:=h
  obtain⟨O1,s1,h1⟩:=s.delEnv i
  obtain⟨O2,s2,h2⟩:=s1.delHeap id
  exact .same s2 fun b=>Nat.le_trans (h2 b) (h1 b)
 ·rename_i caps _
  simp only[Option.some.injEq,Prod.mk.injEq]at h
  obtain⟨_,rfl⟩:=h
  obtain⟨O1,s1,h1⟩:=s.delEnv i
  obtain⟨O2,s2,h2⟩:=S.delAll (l:=wP caps) s1
  exact .same s2 fun b=>Nat.le_trans (h2 b) (h1 b)
 ·simp only[Option.some.injEq,Prod.mk.injEq]at h
  obtain⟨_,rfl⟩:=h
  exact .same s fun b=>Nat.le_refl _
theorem ajQ {i m:Nat}(s:S P g w st t O) (h:aeD i m st=some (a,st')):TX P g w t O st':=by
 unfold aeD at h
 split at h
 ·rename_i hg
  simp only[Option.some.injEq,Prod.mk.injEq]at h
  obtain⟨_,rfl⟩:=h
  obtain⟨Oe,Oh,re,rh,ho⟩:=s.parts
  obtain⟨O1,O2,⟨hlt,q⟩,r2,hs⟩:=RL.take re hg
  simp only[RV]at q
  obtain⟨O3,r3,h3⟩:=RL.put s.se r2 (x:=.own false m []) (O1:=zero) ⟨hlt,by simp only[RV,li];exact .inl ⟨trivial,fun _=>trivial,none,q.1⟩⟩
  have hle:∀ b,O3 b+Oh b≤O b:=fun b=>by have:=h3 b;have:=hs b;have:=ho b;show O3 b+Oh b≤O b;have:zero b=0:=rfl;omega
  exact .same (s.of_env r3 rh (s.se.put _ _) (fun _=>rfl) hle) hle
 ·simp only[Option.some.injEq,Prod.mk.injEq]at h
  obtain⟨_,rfl⟩:=h
  exact .same s fun b=>Nat.le_refl _
end
end Go.Vm
namespace Go.Vm
def Gh.keep (g:Gh) (b:Nat) (K:Nat→Prop):Gh:={ g with pm:=fun b' o=>g.pm b' o∨(b'=b∧K o) }
section
variable {P:Program}{g:Gh}{w:World}{t:Array Value}{O:Nat→Nat}{st st':St}{a:AV}
theorem az.keep (g:Gh) (w:World) (b:Nat) (K:Nat→Prop):az g w (g.keep b K) w fun x=>x=b where
 obj _ _ h:=⟨h,rfl,rfl,rfl⟩
 pm _ _ h:=⟨.inl h,rfl⟩
 blk _ _ h:=⟨rfl,fun _ h'=>h'.elim id fun e=>absurd e.1 h⟩
 size:=Nat.le_refl _
 lp _ rc h:=⟨rc,h⟩
 same:=⟨rfl,rfl,fun _=>rfl⟩
theorem S.keep {st:St}(s:S P g w st t O) {b:Nat}(hO:O b=0) {c:Array Value}{el:TypeId}(hb:w.heap[b]?=some (.cells c el (0,0))) (K:Nat→Prop) :
  S P (g.keep b K) w st t O:=by
 obtain⟨Oe,Oh,re,rh,ho⟩:=s.parts
 have hx:=az.keep g w b K
 have re':=eO.ext hx re (fun y hy e=>by rw[e]at hy;have:=ho b;omega)
 have rh':pY P (g.keep b K) w st.hs.heap Oh:=rh.imp' fun k v Q _ hQ q=>q.ext hx (fun y hy e=>by rw[e]at hy;have:=hQ b;have:=ho b;omega) (fun y ds hd e=>by
  rw[e,hb]at hd;simp at hd)
 exact⟨s.se,s.sh,⟨Oe,Oh,re',rh',ho⟩,s.le,s.hi,s.fresh,fun b' o h=>h.elim (s.pmlt b' o) fun e=>by rw[e.1];exact ba hb⟩
def afL (P:Program) (g:Gh) (w:World) (t:Array Value) (O:Nat→Nat) (st:St) (x:Value) (Ov:Nat→Nat) (r:AV×ac):Prop :=
 ∃ g' Ov' O',RV g' w r.1 x Ov'∧S P g' w ⟨st.env,⟨r.2,st.hs.next⟩⟩ t O'∧az g w g' w (fun b=>Ov b=0∧O b≠0)∧∀ b,Ov' b+O' b≤Ov b+O b
theorem ZR {st:St}(s:S P g w st t O) {v:AV}{x:Value}{Ov:Nat→Nat}(rv:RV g w v x Ov) :
  afL P g w t O st x Ov (zZ st.hs.heap v):=by
 have triv:afL P g w t O st x Ov (v,st.hs.heap):=⟨g,Ov,O,rv,s,.refl _ _ _,fun _=>Nat.le_refl _⟩
 cases v with
 | sl id off len =>
  unfold zZ
  simp only
  split
  ·rename_i m xs hg
   split
   ·rename_i hb
    clear triv
    rw[Nat.ble_eq]at hb
    simp only[RV]at rv
    obtain⟨rv,hz⟩:=rv
    obtain⟨Oe,Oh,re,rh,ho⟩:=s.parts
    obtain⟨O1,O2,q,r2,hs⟩:=RL.take rh hg
    have hle2:∀ b,Oe b+O2 b≤O b:=fun b=>by have:=hs b;have:=ho b;omega
    have s2:S P g w ⟨st.env,⟨del st.hs.heap id,st.hs.next⟩⟩ t (fun b=>Oe b+O2 b) :=
     ⟨s.se,s.sh.del id,⟨Oe,O2,re,r2,fun _=>rfl⟩,fun b=>Nat.le_trans (hle2 b) (s.le b),fun b hb=>s.hi b (by have:=hle2 b;omega),s.fresh,s.pmlt⟩
    have hsub:(Vm.sub xs off len).length=len:=eK hb
    have emp:len=0→(∃ a,x=.slice a 0 0)→RV g w (.own false m (Vm.sub xs off len)) x zero:=by
     intro h0 h
     simp only[RV,li]
     exact .inl ⟨List.eq_nil_of_length_eq_zero (by omega),fun _=>trivial,h⟩
    rcases rv with ⟨h0,h⟩ | ⟨b,cap,hob,rfl,hlc,hcap⟩
    ·exact⟨g,zero,_,emp h0 h,s2,.refl _ _ _,fun b=>by have:=hle2 b;simp;omega⟩
    ·simp only[bl]at q
     rcases q with ⟨rfl,g1,g2,g3,_⟩ | ⟨b',c,el,g1,g2,g3,g4,g5,g6,g7,g8,g9,g10⟩
     ·have hl0:len=0:=by simp at hb;omega
      have hc0:cap=0:=by
       rw[g1,g2]at hcap
       have:(off+cap)*m=0:=by omega
       rcases Nat.mul_eq_zero.1 this with h | h<;>omega
      subst hl0 hc0
      exact⟨g,zero,_,emp rfl ⟨_,rfl⟩,s2,.refl _ _ _,fun b=>by have:=hle2 b;simp;omega⟩
     ·rw[hob]at g1
      simp only[Option.some.injEq]at g1
      subst g1
      have h1:O1 b=1:=by rw[g10 b];simp
      have hO2:Oe b+O2 b=0:=by have:=hs b;have:=ho b;have:=s.le b;omega
      have s3:=s2.keep hO2 g4 (fun o=>g.base id+off*m≤o∧o<g.base id+off*m+len*m)
      refine⟨_,one b,_,?_,s3,(az.keep g w b _).mono fun y _ e=>?_,fun y=>?_⟩
      ·simp only[RV,li]
       refine .inr ⟨b,g.base id+off*m,cap,c,el,by rw[hsub,g2],by omega,g3,vj g7 off len,g4,?_,?_,fun o ho=>?_,fun _ j hj=>?_,rfl⟩
       ·rw[g2,Nat.add_mul]at hcap;omega
       ·rw[gF g7]
        exact(g8.sub _ _).ext (az.keep g w b _) (.inl rfl)
       ·rcases ho with h | h
        ·exact absurd h (g9 o)
        ·rw[hsub];exact⟨trivial,by have:=h.2.2;omega⟩
       ·rw[hsub]at hj
        exact .inr ⟨rfl,by omega,by omega⟩
      ·subst e
       have:=hs y;have:=ho y;have:=hz y;omega
      ·have:=hs y;have:=ho y;have:=g10 y;have:=hz y
       show one b y+(Oe y+O2 y)≤Ov y+O y
       omega
   ·exact triv
  ·exact triv
 | _=>exact triv
end
end Go.Vm
namespace Go.Vm
section
variable {P:Program}{g:Gh}{w:World}{t:Array Value}{O:Nat→Nat}{st st':St}{a:AV}
theorem S.pull {st:St}(s:S P g w st t O) {i:Nat}{v:AV}(hg:get st.env i=some v) :
  ∃ Ov O',i<t.size∧RV g w v (t.getD i undef) Ov∧S P g w ⟨del st.env i,st.hs⟩ t O'∧∀ b,Ov b+O' b≤O b:=by
 obtain⟨Oe,Oh,re,rh,ho⟩:=s.parts
 obtain⟨O1,O2,⟨hlt,q⟩,r2,hs⟩:=RL.take re hg
 have hle:∀ b,O1 b+(O2 b+Oh b)≤O b:=fun b=>by have:=hs b;have:=ho b;omega
 exact⟨O1,fun b=>O2 b+Oh b,hlt,q,s.of_env r2 rh (s.se.del i) (fun _=>rfl) (fun b=>by have:=hle b;show O2 b+Oh b≤O b;omega),hle⟩
theorem S.setSlot {e:am}{hs:HS}{i:Nat}(he:aX e) (s:S P g w ⟨del e i,hs⟩ t O) {v:AV}{Ov:Nat→Nat}(hi:i<t.size) (r:RV g w v (t.getD i undef) Ov)
  (hle:∀ b,Ov b+O b≤1) (hhi:∀ b,Ov b≠0→b<w.heap.size):∃ O',S P g w ⟨put e i v,hs⟩ t O'∧∀ b,O' b≤Ov b+O b:=by
 obtain⟨Oe,Oh,re,rh,ho⟩:=s.parts
 obtain⟨O3,r3,h3⟩:=RL.put he re (x:=v) (O1:=Ov) ⟨hi,r⟩
 have hsum:∀ b,O3 b+Oh b≤Ov b+O b:=fun b=>by have:=h3 b;have:=ho b;omega
 refine⟨fun b=>O3 b+Oh b,⟨he.put _ _,s.sh,⟨O3,Oh,r3,rh,fun _=>rfl⟩,fun b=>Nat.le_trans (hsum b) (hle b),fun b hb=>?_,s.fresh,s.pmlt⟩,hsum⟩
 by_cases h:Ov b=0
 ·exact s.hi b (by have:=hsum b;omega)
 ·exact hhi b h
theorem ahD {i:Nat}(s:S P g w st t O) (h:aak i st=some (a,st')):TX P g w t O st':=by
 unfold aak at h
 split at h
 ·rename_i v hg
  simp only[Option.some.injEq,Prod.mk.injEq]at h
  obtain⟨_,rfl⟩:=h
  obtain⟨Ov,O1,hi,rv,s1,l1⟩:=s.pull hg
  obtain⟨g',Ov',O2,rv',s2,hx,l2⟩:=ZR s1 rv
  have hle:∀ b,Ov' b+O2 b≤O b:=fun b=>Nat.le_trans (l2 b) (l1 b)
  obtain⟨O3,s3,l3⟩:=S.setSlot (e:=st.env) s.se s2 hi rv' (fun b=>Nat.le_trans (hle b) (s.le b)) (fun b hb=>s.hi b (by have:=hle b;omega))
  exact⟨g',O3,s3,hx.mono fun b _ h=>by have:=l1 b;omega,fun b=>Nat.le_trans (l3 b) (hle b)⟩
 ·simp at h
theorem wh:∀ (bj:List Nat) {g:Gh}{O:Nat→Nat}{e:am}{h:ac}{n:Nat},S P g w ⟨e,⟨h,n⟩⟩ t O→∀ {cs:List AV}{xs:List Value}{Ov:Nat→Nat},
  ai g w cs xs Ov→(∀ b,Ov b+O b≤1)→
  ∃ g' Ov' O',ai g' w (lm bj cs h).1 xs Ov'∧S P g' w ⟨e,⟨(lm bj cs h).2,n⟩⟩ t O'∧az g w g' w (fun b=>Ov b≠0∨O b≠0)∧∀ b,Ov' b+O' b≤Ov b+O b
 | [],g,O,e,h,n,s,cs,xs,Ov,rv,_=>⟨g,Ov,O,rv,s,.refl _ _ _,fun _=>Nat.le_refl _⟩
 | o::r,g,O,e,h,n,s,cs,xs,Ov,rv,hle=>by
  unfold lm
  split
  ·rename_i v hv
   obtain⟨x,A1,A2,hx,r1,r2,hs⟩:=rv.pull hv
   obtain⟨g1,A1',O1,r1',s1,hx1,l1⟩:=ZR s r1
   have r2':=ai.ext hx1 _ _ _ r2 (fun b hb hh=>by have:=hle b;have:=hs b;omega)
   have hj:(cs.set o .junk)[o]?=some .junk:=by rw[List.getElem?_set_self (ef hv)]
   obtain⟨y,B1,hy,_,_,rep⟩:=r2'.replace hj
   rw[hx]at hy
   simp only[Option.some.injEq]at hy
   subst hy
   obtain⟨B2,r3,h3⟩:=rep _ _ r1'
   rw[List.set_set]at r3
   have hle1:∀ b,B2 b+O1 b≤Ov b+O b:=fun b=>by have:=h3 b;have:=hs b;have:=l1 b;omega
   obtain⟨g2,Ov2,O2,r4,s4,hx2,l4⟩:=wh r s1 r3 (fun b=>Nat.le_trans (hle1 b) (hle b))
   refine⟨g2,Ov2,O2,r4,s4,(hx1.mono fun b _ hh=>.inr hh.2).trans hx2 fun b _ hh=>?_,fun b=>Nat.le_trans (l4 b) (hle1 b)⟩
   have:=hle1 b
   omega
  ·exact wh r s rv hle
theorem agC {i:Nat}{bj:List Nat}(s:S P g w st t O) (h:XL i bj st=some (a,st')):TX P g w t O st':=by
 unfold XL at h
 split at h
 ·rename_i cs hg
  simp only[Option.some.injEq,Prod.mk.injEq]at h
  obtain⟨_,rfl⟩:=h
  obtain⟨Ov,O1,hi,rv,s1,l1⟩:=s.pull hg
  simp only[RV]at rv
  obtain⟨xs,hxs,rv⟩:=rv
  obtain⟨g',Ov',O2,rv',s2,hx,l2⟩:=wh bj s1 rv (fun b=>Nat.le_trans (l1 b) (s.le b))
  have hle:∀ b,Ov' b+O2 b≤O b:=fun b=>Nat.le_trans (l2 b) (l1 b)
  obtain⟨O3,s3,l3⟩:=S.setSlot (e:=st.env) (v:=.agg (lm bj cs st.hs.heap).1) s.se s2 hi (by simp only[RV];exact⟨xs,hxs,rv'⟩) (fun b=>Nat.le_trans (hle b) (s.le b))
   (fun b hb=>s.hi b (by have:=hle b;omega))
  exact⟨g',O3,s3,hx.mono fun b _ h=>by have:=l1 b;omega,fun b=>Nat.le_trans (l3 b) (hle b)⟩
 ·simp at h
end
end Go.Vm
namespace Go.Vm
section
variable {P:Program}{g:Gh}{w:World}{t:Array Value}{O:Nat→Nat}{st st':St}{a:AV}
theorem D0 {g:Gh}(s:S P g w st t O) {v:AV}{x:Value}{Ov:Nat→Nat}(rv:RV g w v x Ov) (hle:∀ b,Ov b+O b≤1) :
  ∃ g',RV g' w (gy v) x Ov∧S P g' w st t O∧az g w g' w (fun b=>Ov b≠0):=by
 have triv:RV g w (gy v) x Ov→∃ g',RV g' w (gy v) x Ov∧S P g' w st t O∧az g w g' w (fun b=>Ov b≠0):=fun r=>⟨g,r,s,.refl _ _ _⟩
 cases v with
 | own p m xs =>
  cases p with
  | false=>exact triv rv
  | true =>
   simp only[RV]at rv
   rcases rv with h | ⟨b,off,cap,c,el,rfl,hcap,hm,hl,hb,hsz,hrc,hpm,hp,rfl⟩
   ·exact triv (by simp only[gy,RV];exact .inl h)
   ·have hO:O b=0:=by have:=hle b;rw[lB]at this;omega
    refine⟨g.keep b fun o=>off≤o∧o<off+xs.length*m,?_,s.keep hO hb _,(az.keep g w b _).mono fun y _ e=>by rw[e];simp⟩
    simp only[gy,RV]
    refine .inr ⟨b,off,cap,c,el,rfl,hcap,hm,hl,hb,hsz,hrc.ext (az.keep g w b _) (.inl rfl),fun o ho=>?_,fun _ j hj=>.inr ⟨rfl,by omega,by omega⟩,rfl⟩
    rcases ho with h | h
    ·exact absurd (hpm o h).1 (by simp)
    ·exact⟨rfl,h.2.2⟩
 | _=>exact triv rv
theorem Fw {f:AV→AV}(hf:∀ {g:Gh}{O:Nat→Nat},S P g w st t O→∀ {v:AV}{x:Value}{Ov:Nat→Nat},RV g w v x Ov→(∀ b,Ov b+O b≤1)→
  ∃ g',RV g' w (f v) x Ov∧S P g' w st t O∧az g w g' w (fun b=>Ov b≠0)):∀ {vs:List AV}{g:Gh}{O:Nat→Nat},S P g w st t O→∀ {xs:List Value}{Ov:Nat→Nat},
  ai g w vs xs Ov→(∀ b,Ov b+O b≤1)→∃ g',ai g' w (vs.map f) xs Ov∧S P g' w st t O∧az g w g' w (fun b=>Ov b≠0)
 | [],g,O,s,xs,Ov,rv,_=>⟨g,by simpa only[ai,List.map_nil] using rv,s,.refl _ _ _⟩
 | v::vs,g,O,s,xs,Ov,rv,hle=>by
  simp only[ai]at rv
  obtain⟨x,ys,O1,O2,rfl,r1,r2,hs⟩:=rv
  obtain⟨g1,q1,s1,hx1⟩:=hf s r1 (fun b=>by have:=hle b;have:=hs b;omega)
  have r2':=ai.ext hx1 _ _ _ r2 (fun b hb hh=>by have:=hle b;have:=hs b;omega)
  obtain⟨g2,q2,s2,hx2⟩:=Fw hf s1 r2' (fun b=>by have:=hle b;have:=hs b;omega)
  refine⟨g2,?_,s2,(hx1.mono fun b _ h=>by have:=hs b;omega).trans hx2 fun b _ h=>by have:=hs b;omega⟩
  simp only[ai,List.map_cons]
  exact⟨x,ys,O1,O2,rfl,RV.ext hx2 _ _ _ q1 (fun b hb hh=>by have:=hle b;have:=hs b;omega),q2,hs⟩
theorem TU {g:Gh}{O:Nat→Nat}(s:S P g w st t O) {v:AV}{x:Value}{Ov:Nat→Nat}(rv:RV g w v x Ov) (hle:∀ b,Ov b+O b≤1) :
  ∃ g',RV g' w (sP v) x Ov∧S P g' w st t O∧az g w g' w (fun b=>Ov b≠0):=by
 cases v with
 | agg cs =>
  simp only[RV]at rv
  obtain⟨xs,rfl,rv⟩:=rv
  obtain⟨g',q,s',hx⟩:=Fw (fun s _ _ _ r h=>D0 s r h) s rv hle
  exact⟨g',by simp only[sP,RV];exact⟨xs,rfl,q⟩,s',hx⟩
 | _=>exact D0 s rv hle
theorem Xe {g:Gh}{O:Nat→Nat}(s:S P g w st t O) {v:AV}{x:Value}{Ov:Nat→Nat}(rv:RV g w v x Ov) (hle:∀ b,Ov b+O b≤1) :
  ∃ g',RV g' w (firm v) x Ov∧S P g' w st t O∧az g w g' w (fun b=>Ov b≠0):=by
 cases v with
 | tup cs =>
  simp only[RV]at rv
  obtain⟨xs,rfl,rv⟩:=rv
  obtain⟨g',q,s',hx⟩:=Fw (fun s _ _ _ r h=>TU s r h) s rv hle
  exact⟨g',by simp only[firm,RV];exact⟨xs,rfl,q⟩,s',hx⟩
 | _=>exact TU s rv hle
end
end Go.Vm
namespace Go.Vm
section
variable {P:Program}{w:World}{t:Array Value}{st st':St}{a:AV}
def Xl (P:Program) (g:Gh) (w:World) (t:Array Value) (O:Nat→Nat) (env:am) (x:Value) (Ov:Nat→Nat) (r:AV×HS):Prop :=
 ∃ g' Ov' O',RV g' w r.1 x Ov'∧S P g' w ⟨env,r.2⟩ t O'∧az g w g' w (fun _=>False)∧∀ b,Ov' b+O' b≤Ov b+O b
theorem az.id (g:Gh) (w:World) {id:Nat}(hn:g.obj id=none) (b base esz bsz:Nat):az g w (g.add id b base esz bsz) w fun _=>False :=
 (az.refl g w _).add hn b base esz bsz
theorem aeJ {g:Gh}{O:Nat→Nat}{hs:HS}{env:am}(s:S P g w ⟨env,hs⟩ t O) {v:AV}{x:Value}{Ov:Nat→Nat}(rv:RV g w v x Ov) (hle:∀ b,Ov b+O b≤1)
  (hhi:∀ b,Ov b≠0→b<w.heap.size):Xl P g w t O env x Ov (gK hs v):=by
 have triv:Xl P g w t O env x Ov (v,hs):=⟨g,Ov,O,rv,s,.refl _ _ _,fun _=>Nat.le_refl _⟩
 cases v with
 | own p m xs =>
  cases p with
  | false=>exact triv
  | true =>
   unfold gK
   simp only
   split
   ·exact triv
   ·rename_i hm
    have hm:m≠0:=by rintro rfl;simp at hm
    have hn:=s.fresh hs.next (Nat.le_refl _)
    have X7:∀ (b base esz bsz:Nat) (ob:Obj) (O1:Nat→Nat),bl P (g.add hs.next b base esz bsz) w hs.next ob O1→(∀ y,O1 y+O y≤1)→(∀ y,O1 y≠0→y<w.heap.size)→
      ∃ O',S P (g.add hs.next b base esz bsz) w ⟨env,⟨put hs.heap hs.next ob,hs.next+1⟩⟩ t O'∧∀ y,O' y≤O1 y+O y:=by
     intro b base esz bsz ob O1 r h1 h2
     have hx:=az.id g w hn b base esz bsz
     obtain⟨Oe,Oh,re,rh,ho⟩:=s.parts
     have re':=eO.ext hx re (by simp)
     have rh':pY P (g.add hs.next b base esz bsz) w hs.heap Oh:=rh.imp' fun k v Q _ hQ q=>q.ext hx (by simp) (by simp)
     obtain⟨O2,r2,h3⟩:=RL.drop rh' hs.next
     obtain⟨O3,r3,h4⟩:=RL.put s.sh r2 r
     have hl:∀ y,Oe y+O3 y≤O1 y+O y:=fun y=>by have:=h3 y;have:=h4 y;have:=ho y;omega
     refine⟨fun y=>Oe y+O3 y,⟨s.se,s.sh.put _ _,⟨Oe,O3,re',r3,fun _=>rfl⟩,fun y=>Nat.le_trans (hl y) (h1 y),fun y hy=>?_,fun i hi=>?_,s.pmlt⟩,hl⟩
     ·by_cases h:O1 y=0
      ·exact s.hi y (by have:=hl y;omega)
      ·exact h2 y h
     ·have hi':hs.next+1≤i:=hi
      have:i≠hs.next:=by omega
      simp only[Gh.add,this,if_false]
      exact s.fresh i (by show hs.next≤i;omega)
    simp only[RV]at rv
    rcases rv with ⟨rfl,hz,⟨a,rfl⟩⟩ | ⟨b,off,cap,c,el,rfl,hcap,hm',hl,hb,hsz,hrc,hpm,hp,rfl⟩
    ·obtain⟨O',s',hO'⟩:=X7 0 0 m 0 (.arr m []) zero (by
      simp only[bl]
      exact .inl ⟨trivial,by simp[Gh.add],by simp[Gh.add],by omega,⟨0,by simp[Gh.add]⟩,fun _=>trivial⟩) (fun y=>by have:=s.le y;simpa using this) (fun y h=>absurd rfl h)
     refine⟨_,zero,O',?_,s',az.id g w hn _ _ _ _,fun y=>by have:=hO' y;simp at this⊢;omega⟩
     simp only[RV]
     exact⟨.inl ⟨rfl,a,rfl⟩,fun _=>trivial⟩
    ·obtain⟨O',s',hO'⟩:=X7 b off m (off+cap*m) (.arr m xs) (one b) (by
      simp only[bl]
      refine .inr ⟨b,c,el,by simp[Gh.add],by simp[Gh.add],hm',hb,by simpa [Gh.add] using hsz,?_,hl,by simpa [Gh.add] using hrc,fun o ho=>?_,fun _=>rfl⟩
      ·simp only[Gh.add,if_true]
       have:=Nat.mul_le_mul_right m hcap
       omega
      ·have:=(hpm o ho).1;simp at this) hle hhi
     refine⟨_,zero,O',?_,s',az.id g w hn _ _ _ _,fun y=>by have:=hO' y;show zero y+O' y≤one b y+O y;have:zero y=0:=rfl;omega⟩
     simp only[RV]
     exact⟨.inr ⟨b,cap,by simp[Gh.add],by simp[Gh.add],hcap,by simp[Gh.add]⟩,fun _=>trivial⟩
 | _=>exact triv
end
end Go.Vm
namespace Go.Vm
section
variable {P:Program}{w:World}{t:Array Value}
def NC (P:Program) (w:World) (t:Array Value) (f:HS→AV→AV×HS):Prop :=
 ∀ {g:Gh}{O:Nat→Nat}{hs:HS}{env:am},S P g w ⟨env,hs⟩ t O→∀ {v:AV}{x:Value}{Ov:Nat→Nat},RV g w v x Ov→(∀ b,Ov b+O b≤1)→
  (∀ b,Ov b≠0→b<w.heap.size)→Xl P g w t O env x Ov (f hs v)
theorem Od {f:HS→AV→AV×HS}(hf:NC P w t f) {g:Gh}{O:Nat→Nat}{hs:HS}{env:am}(s:S P g w ⟨env,hs⟩ t O) {cs:List AV}{xs:List Value}{Ov:Nat→Nat}
  (rv:ai g w cs xs Ov) (hle:∀ b,Ov b+O b≤1) (hhi:∀ b,Ov b≠0→b<w.heap.size) {o:Nat}{v:AV}(hv:cs[o]?=some v) :
  ∃ g' Ov' O',ai g' w (cs.set o (f hs v).1) xs Ov'∧S P g' w ⟨env,(f hs v).2⟩ t O'∧az g w g' w (fun _=>False)∧∀ b,Ov' b+O' b≤Ov b+O b:=by
 obtain⟨x,A1,A2,hx,r1,r2,hs'⟩:=rv.pull hv
 obtain⟨g1,A1',O1,r1',s1,hx1,l1⟩:=hf s r1 (fun b=>by have:=hle b;have:=hs' b;omega) (fun b h=>hhi b (by have:=hs' b;omega))
 have r2':=ai.ext hx1 _ _ _ r2 (by simp)
 have hj:(cs.set o .junk)[o]?=some .junk:=by rw[List.getElem?_set_self (ef hv)]
 obtain⟨y,B1,hy,_,_,rep⟩:=r2'.replace hj
 rw[hx]at hy
 simp only[Option.some.injEq]at hy
 subst hy
 obtain⟨B2,r3,h3⟩:=rep _ _ r1'
 rw[List.set_set]at r3
 exact⟨g1,B2,O1,r3,s1,hx1,fun b=>by have:=h3 b;have:=hs' b;have:=l1 b;omega⟩
theorem Tt:NC P w t gK:=fun s _ _ _ r h1 h2=>aeJ s r h1 h2
theorem N4 (o:Nat):NC P w t (fun hs=>gh hs o):=by
 intro g O hs env s v x Ov rv hle hhi
 cases v with
 | agg cs =>
  simp only[RV]at rv
  obtain⟨xs,rfl,rv⟩:=rv
  simp only[gh]
  split
  ·rename_i v hv
   obtain⟨g',Ov',O',r',s',hx,l'⟩:=Od Tt s rv hle hhi hv
   exact⟨g',Ov',O',by simp only[RV];exact⟨xs,rfl,r'⟩,s',hx,l'⟩
  ·exact⟨g,Ov,O,by simp only[RV];exact⟨xs,rfl,rv⟩,s,.refl _ _ _,fun _=>Nat.le_refl _⟩
 | _=>exact Tt s rv hle hhi
theorem aa3 (p:Nat×Nat):NC P w t (fun hs=>i7 hs p):=by
 intro g O hs env s v x Ov rv hle hhi
 cases v with
 | tup cs =>
  simp only[RV]at rv
  obtain⟨xs,rfl,rv⟩:=rv
  simp only[i7]
  split
  ·rename_i v hv
   obtain⟨g',Ov',O',r',s',hx,l'⟩:=Od (N4 p.2) s rv hle hhi hv
   exact⟨g',Ov',O',by simp only[RV];exact⟨xs,rfl,r'⟩,s',hx,l'⟩
  ·exact⟨g,Ov,O,by simp only[RV];exact⟨xs,rfl,rv⟩,s,.refl _ _ _,fun _=>Nat.le_refl _⟩
 | _=>exact N4 p.2 s rv hle hhi
theorem yb:∀ th:List (Nat×Nat),NC P w t (fun hs v=>bv th v hs)
 | []=>fun s _ _ _ rv _ _=>⟨_,_,_,rv,s,.refl _ _ _,fun _=>Nat.le_refl _⟩
 | p::r=>by
  intro s v x Ov rv hle hhi;rename_i g O hs env
  obtain⟨g1,Ov1,O1,r1,s1,hx1,l1⟩:=aa3 p s rv hle hhi
  obtain⟨g2,Ov2,O2,r2,s2,hx2,l2⟩:=yb r s1 r1 (fun b=>Nat.le_trans (l1 b) (hle b)) (fun b hb=>by
   by_cases h:Ov b=0
   ·exact s.hi b (by have:=l1 b;omega)
   ·exact hhi b h)
  exact⟨g2,Ov2,O2,r2,s2,hx1.trans hx2 (fun _ _ h=>h),fun b=>Nat.le_trans (l2 b) (l1 b)⟩
end
end Go.Vm
namespace Go.Vm
section
variable {P:Program}{g:Gh}{w:World}{t:Array Value}{O:Nat→Nat}
theorem S.setTmp {e:am}{hs:HS}(s:S P g w ⟨e,hs⟩ t O) {d:Nat}{v:AV}{x:Value}{Ov:Nat→Nat}(hd:d<t.size) (r:RV g w v x Ov)
  (hle:∀ b,Ov b+O b≤1) (hhi:∀ b,Ov b≠0→b<w.heap.size):∃ O',S P g w ⟨put e d v,hs⟩ (t.setIfInBounds d x) O'∧∀ b,O' b≤Ov b+O b:=by
 obtain⟨Oe,Oh,re,rh,ho⟩:=s.parts
 obtain⟨O2,r2,h2⟩:=RL.drop re d
 have r2':eO g w (del e d) (t.setIfInBounds d x) O2:=r2.imp' fun k v' O1 hm _ q=>by
  have hk:=(ZW hm).2
  refine⟨by simpa using q.1,?_⟩
  have:(t.setIfInBounds d x).getD k undef=t.getD k undef:=by
   simp only[Array.getD_eq_getD_getElem?,Array.getElem?_setIfInBounds]
   rw[if_neg (fun h=>hk h.symm)]
  rw[this];exact q.2
 obtain⟨O3,r3,h3⟩:=RL.put s.se r2' (x:=v) (O1:=Ov) ⟨by simpa using hd,by
  have:(t.setIfInBounds d x).getD d undef=x:=by simp[Array.getD_eq_getD_getElem?,hd]
  rw[this];exact r⟩
 have hl:∀ b,O3 b+Oh b≤Ov b+O b:=fun b=>by have:=h2 b;have:=h3 b;have:=ho b;omega
 refine⟨fun b=>O3 b+Oh b,⟨s.se.put _ _,s.sh,⟨O3,Oh,r3,rh,fun _=>rfl⟩,fun b=>Nat.le_trans (hl b) (hle b),fun b hb=>?_,s.fresh,s.pmlt⟩,hl⟩
 by_cases h:Ov b=0
 ·exact s.hi b (by have:=hl b;omega)
 ·exact hhi b h
end
end Go.Vm
namespace Go.Vm
section
variable {P:Program}{g:Gh}{w:World}{t:Array Value}{O:Nat→Nat}{st st':St}{a:AV}{o:Oper}
theorem yq {m:Nat}{ys:List (List D)}(h:cX m ys=true):∀ e∈ys,e.length=m:=by
 induction ys with
 | nil=>intro e he;simp at he
 | cons y ys ih =>
  simp only[cX]at h
  split at h
  ·rename_i hb
   rw[Nat.beq_eq]at hb
   intro e he
   rcases List.mem_cons.1 he with rfl | he
   ·exact hb
   ·exact ih h e he
  ·simp at h
theorem DC (ds:List D):(Er ds).flatten=ds:=by
 induction ds with
 | nil=>rfl
 | cons d ds ih=>simp[Er,ih]
theorem Xm (ds:List D):∀ e∈Er ds,e.length=1:=by
 induction ds with
 | nil=>intro e he;simp[Er]at he
 | cons d ds ih =>
  intro e he
  rcases List.mem_cons.1 he with rfl | he
  ·rfl
  ·exact ih e he
structure xf (g:Gh) (w:World) (m:Nat) (ys:List (List D)) (a:Option Addr) (news:List Value):Prop where
 nn:a=.none→ys.length=0
 len:news.length=ys.length*m
 rd:∀ (j:Nat) (d:D),ys.flatten[j]?=some d→∃ u,news[j]?=some u∧RD w g.pm d u
 one:∀ u∈news,u.oneCell'=true
 cell:∀ ad,a=some ad→∀ (j:Nat) (u:Value),news[j]?=some u→w.cell? (ad.add j)=some u
theorem xf.nil (g:Gh) (w:World) (m:Nat) (a:Option Addr):xf g w m [] a [] :=
 ⟨fun _=>rfl,by simp,fun j d h=>by simp at h,fun u h=>by simp at h,fun ad _ j u h=>by simp at h⟩
theorem xf.of_cells {m:Nat}{ys:List (List D)}(hl:∀ e∈ys,e.length=m) {b off:Nat}(r:eS w g.pm ys.flatten b off):∃ news,xf g w m ys (some ⟨b,off,.none⟩) news:=by
 obtain⟨xs,h1,h2,h3⟩:=r.vals
 refine⟨xs,fun h=>by simp at h,by rw[h1,cD hl],fun j d hd=>?_,fun u hu=>?_,fun ad e j u hj=>?_⟩
 ·have hj:j<xs.length:=by rw[h1];exact ef hd
  exact⟨xs[j],by simp,h3 j d _ hd (by simp)⟩
 ·obtain⟨j,hj,rfl⟩:=List.mem_iff_getElem.1 hu
  have hj':j<ys.flatten.length:=by omega
  exact(h3 j _ _ (List.getElem?_eq_getElem hj') (List.getElem?_eq_getElem hj)).one
 ·simp only[Option.some.injEq]at e;subst e
  rw[eD];exact h2 j u hj
theorem ox {st:St}(s:S P g w st t O) {v:AV}{ys:List (List D)}{x:Value}{Ov:Nat→Nat}{m:Nat}(he:elems st.hs.heap v=some ys) (hl:∀ e∈ys,e.length=m)
  (rv:RV g w v x Ov):∃ a cap news,x=.slice a ys.length cap∧xf g w m ys a news:=by
 by_cases hn:nC v=false
 ·rcases (Sh he hn rv).list with ⟨rfl,a,cap,rfl⟩ | ⟨b,off,m',cap,rfl,_,_,_,hc,_⟩
  ·exact⟨a,cap,[],rfl,xf.nil _ _ _ _⟩
  ·obtain⟨news,h⟩:=xf.of_cells hl hc
   exact⟨_,cap,news,rfl,h⟩
 ·cases v<;>simp only[nC,not_true,Bool.true_eq_false,not_false_eq_true]at hn
  rename_i id off len
  simp only[elems]at he
  split at he
  ·rename_i xs hx
   split at he
   ·rename_i hb
    rw[Nat.ble_eq]at hb
    simp only[Option.some.injEq]at he
    subst he
    have hsl:(Vm.sub xs off len).length=len:=eK hb
    simp only[RV]at rv
    rcases rv.1 with ⟨rfl,a,rfl⟩ | ⟨b,cap,hob,rfl,hlc,hcap⟩
    ·have:Vm.sub xs off 0=[]:=List.eq_nil_of_length_eq_zero hsl
     rw[this]
     exact⟨a,0,[],rfl,xf.nil _ _ _ _⟩
    ·rw[hsl]
     obtain⟨Oe,Oh,re,rh,ho⟩:=s.parts
     unfold objElems at hx
     split at hx
     ·rename_i m' zs hg
      simp only[Option.some.injEq]at hx;subst hx
      obtain⟨O1,q,_⟩:=RL.get rh hg
      simp only[bl]at q
      rcases q with ⟨rfl,_⟩ | ⟨b',c,el,g1,g2,g3,g4,g5,g6,g7,g8,g9,g10⟩
      ·have h0:len=0:=by simp at hb;omega
       subst h0
       have:Vm.sub ([]:List (List D)) off 0=[]:=List.eq_nil_of_length_eq_zero hsl
       rw[this]
       exact⟨_,cap,[],rfl,xf.nil _ _ _ _⟩
      ·rw[hob]at g1
       simp only[Option.some.injEq]at g1
       subst g1
       have hc:eS w g.pm (Vm.sub zs off len).flatten b (g.base id+off*g.esz id):=by
        rw[gF g7,g2];exact g8.sub _ _
       obtain⟨news,h⟩:=xf.of_cells hl hc
       exact⟨_,cap,news,rfl,h⟩
     ·rename_i cs hg
      split at hx
      ·rename_i ds hds
       simp only[Option.some.injEq]at hx;subst hx
       obtain⟨O1,q,_⟩:=RL.get rh hg
       simp only[bl]at q
       obtain⟨b',c,el,O2,g1,g2,g3,g4,g5,g6,g7,g8⟩:=q
       rw[hob]at g1
       simp only[Option.some.injEq]at g1
       subst g1
       obtain⟨h1,h2,h3⟩:=BR hds g6
       have hc:eS w g.pm (Vm.sub (Er ds) off len).flatten b (g.base id+off*g.esz id):=by
        rw[gF (Xm ds),DC,g2,g3,Nat.zero_add]
        intro j d hj
        obtain⟨hj,_⟩:=Zs hj
        obtain⟨u,hu,hr⟩:=h2 _ d hj
        refine⟨u,?_,hr⟩
        rw[dc g5,←Array.getElem?_toList]
        rw[Nat.mul_one]at hu⊢
        exact hu
       obtain⟨news,h⟩:=xf.of_cells hl hc
       exact⟨_,cap,news,rfl,h⟩
      ·simp at hx
     ·simp at hx
   ·simp at he
  ·simp at he
theorem xf.first {m:Nat}{ys:List (List D)}{ad:Option Addr}{news:List Value}(h:xf g w m ys ad news) {len cap n:Nat}(hn:n≤ys.length) {w1:World}(hw:w1.heap=w.heap) :
  (Builtin.firstCells m n (.slice ad len cap)).run P w1=.ok (news.take (n*m)).toArray w1:=by
 cases ad with
 | none =>
  have:=h.nn rfl
  have:n=0:=by omega
  subst this
  simp[Builtin.firstCells]
 | some ad =>
  have hl:(news.take (n*m)).length=n*m:=by
   rw[List.length_take,h.len];exact Nat.min_eq_left (Nat.mul_le_mul_right _ hn)
  refine run_firstCells_some (P:=P) w1 m n ad len cap _ hl fun j v hj=>?_
  have hj':news[j]?=some v:=by
   rw[List.getElem?_take]at hj
   split at hj
   ·exact hj
   ·simp at hj
  have:=h.cell ad rfl j v hj'
  simpa [World.cell?,hw] using this
end
end Go.Vm
namespace Go.Vm
structure Tk (P:Program) (w:World) (t1:TypeId) (x:Value) (e:TypeId) (m n:Nat) (news:List Value):Prop where
 len:news.length=n*m
 one:∀ u∈news,u.oneCell'=true
 src:((∃ e',P.underlying t1=some (.slice e'))∧(∃ a cap,x=.slice a n cap)∧∀ w1:World,w1.heap=w.heap→(Builtin.firstCells m n x).run P w1=.ok news.toArray w1)∨
  ((∃ k,P.underlying t1=some (.int k))∧(∃ k,x=.int k (n:Int))∧∃ i z,P.info? e=some i∧i.zero=some z∧z.cells.size=m∧news.toArray=Builtin.zeroCells z.cells n)
section
variable {P:Program}{w:World}{t0 t1 ty e:TypeId}{m n:Nat}{x:Value}{news:List Value}
theorem j2 {i:TypeInfo}{z:Value}(hi:P.info? e=some i) (hz:i.zero=some z):(zeroValue e).run P w=.ok z w:=by
 simp[zeroValue,typeInfo,hi,hz]
theorem Q0 {n b:Nat}(hn:n≤4294967296) (hb:b≤4096):n*b≤17592186044416:=Nat.le_trans (Nat.mul_le_mul hn hb) (by decide)
theorem qg (hu:P.underlying t0=some (.slice e)) {i:TypeInfo}(hi:P.info? e=some i) (hs:i.size=m) (hm:0<m) (hby:i.bytes≤4096) (hn:n≤4294967296)
  (hx:Tk P w t1 x e m n news) {base:Option Addr}{sLen sCap:Nat}(hroom:sLen+n≤sCap) :
  (Builtin.append_ #[t0,t1] ty #[.slice base sLen sCap,x]).run P w =
   match base with
   | some a=>((do storeCells (a.add (sLen*m)) news;pure (.slice (some a) (sLen+n) sCap):Sem Value)).run P w
   | none=>.ok (.slice none (sLen+n) sCap) w:=by
 have hlen:=hx.len
 have hroom':sLen+n≤sCap:=hroom
 rcases hx.src with ⟨⟨e',h1⟩,⟨ad,cap,rfl⟩,hf⟩ | ⟨⟨k,h1⟩,⟨kk,rfl⟩,i',z,hi',hz,hzs,hzc⟩
 ·have hf':=hf w rfl
  cases base<;>simp[Builtin.append_,ak hu,ak h1,sizeOf,typeInfo,hi,hs,Builtin.lenOf,hroom',hf']
 ·rw[hi]at hi'
  simp only[Option.some.injEq]at hi'
  subst hi'
  have hw1:=Cn hn
  have hbytes:=Q0 hn hby
  have hcast:((n*i.bytes:Nat):Int)=(n:Int)*(i.bytes:Int):=Int.natCast_mul _ _
  have hbig:¬ ((n:Int)*(i.bytes:Int) > 2 ^ 48):=by rw[←hcast];omega
  have hn0:¬ (n:Int)<0:=by omega
  have hzv:=j2 (P:=P) (w:=w) hi hz
  have hbig':¬ (281474976710656<(n:Int)*(i.bytes:Int)):=by simpa using hbig
  by_cases hnm:n*m=0
  ·have hnil:news=[]:=List.eq_nil_of_length_eq_zero (by rw[hlen];exact hnm)
   subst hnil
   cases base<;>simp[Builtin.append_,ak hu,ak h1,sizeOf,typeInfo,hi,hs,asInt,asIntOf,hw1,hn0,hbig',hroom',hnm]
  ·cases base<;>simp[Builtin.append_,ak hu,ak h1,sizeOf,typeInfo,hi,hs,asInt,asIntOf,hw1,hn0,hbig',hroom',hnm,hzv,←hzc]
theorem Le (hu:P.underlying t0=some (.slice e)) {i:TypeInfo}{z:Value}(hi:P.info? e=some i) (hz:i.zero=some z) (hzs:z.cells.size=m) (hs:i.size=m) (hm:0<m)
  (hby:i.bytes≤4096) (hn:n≤4294967296) (hx:Tk P w t1 x e m n news) {base:Option Addr}{sLen sCap:Nat}{olds:List Value}(hlo:olds.length=sLen*m)
  (hold:∀ w1:World,w1.heap=w.heap→(Builtin.firstCells m sLen (.slice base sLen sCap)).run P w1=.ok olds.toArray w1)
  (hsum:sLen+n≤4294967296) (hg:sCap<sLen+n) :
  ∃ cap' rest,(Builtin.append_ #[t0,t1] ty #[.slice base sLen sCap,x]).run P w =
    .ok (.slice (some ⟨w.heap.size,0,none⟩) (sLen+n) cap') (w.drew.alloc (.cells (olds++(news++rest)).toArray e))∧
   sLen+n≤cap'∧cap'*m≤(olds++(news++rest)).length:=by
 have hlen:=hx.len
 have hng:¬ (sLen+n≤sCap):=by omega
 have h63:¬ (9223372036854775807<((sLen:Int)+(n:Int))):=by omega
 have hfit:Builtin.nextslicecap (sLen+n) sCap*i.bytes≤281474976710656:=growslice_fits hg (Nat.le_trans (Q0 hsum hby) (by decide))
 have h48:¬ (281474976710656<Builtin.nextslicecap (sLen+n) sCap*i.bytes):=by omega
 have hcap:sLen+n≤grownCap w (sLen+n) sCap e:=by simp[grownCap,Question.cut]
 have hold':=hold w.drew rfl
 have hzv:=fun w1=>j2 (P:=P) (w:=w1) hi hz
 refine⟨grownCap w (sLen+n) sCap e,(Builtin.zeroCells z.cells (grownCap w (sLen+n) sCap e-(sLen+n))).toList,?_,hcap,?_⟩
 ·rcases hx.src with ⟨⟨e',h1⟩,⟨ad,cap,rfl⟩,hf⟩ | ⟨⟨k,h1⟩,⟨kk,rfl⟩,i',z',hi',hz',hzs',hzc⟩
  ·have hf':=hf w.drew rfl
   simp[Builtin.append_,ak hu,ak h1,sizeOf,typeInfo,hi,hs,hzv,Builtin.lenOf,hng,h63,h48,Question.forced,hf',hold',newRow,grownCap]
   congr 2
   apply Array.ext'
   simp
  ·rw[hi]at hi'
   simp only[Option.some.injEq]at hi'
   subst hi'
   rw[hz]at hz'
   simp only[Option.some.injEq]at hz'
   subst hz'
   have hw1:=Cn hn
   have hbytes:=Q0 hn hby
   have hcast:((n*i.bytes:Nat):Int)=(n:Int)*(i.bytes:Int):=Int.natCast_mul _ _
   have hbig':¬ (281474976710656<(n:Int)*(i.bytes:Int)):=by rw[←hcast];omega
   have hn0:¬ (n:Int)<0:=by omega
   by_cases hnm:n*m=0
   ·have hnil:news=[]:=List.eq_nil_of_length_eq_zero (by rw[hlen];exact hnm)
    subst hnil
    simp[Builtin.append_,ak hu,ak h1,sizeOf,typeInfo,hi,hs,asInt,asIntOf,hw1,hn0,hbig',hnm,hzv,hng,h63,h48,Question.forced,hold',newRow,grownCap]
    congr 2
    apply Array.ext'
    simp
   ·simp[Builtin.append_,ak hu,ak h1,sizeOf,typeInfo,hi,hs,asInt,asIntOf,hw1,hn0,hbig',hnm,hzv,hng,h63,h48,Question.forced,←hzc,hold',newRow,grownCap]
    congr 2
    apply Array.ext'
    simp
 ·have hz1:(Builtin.zeroCells z.cells (grownCap w (sLen+n) sCap e-(sLen+n))).toList.length=(grownCap w (sLen+n) sCap e-(sLen+n))*m:=by
   simp[Builtin.zeroCells,hzs]
  rw[List.length_append,List.length_append,hlo,hlen,hz1,←Nat.add_mul,←Nat.add_mul]
  apply Nat.mul_le_mul_right
  omega
end
end Go.Vm
namespace Go.Vm
section
variable {P:Program}{g:Gh}{w:World}{t:Array Value}{O:Nat→Nat}{st st':St}{a:AV}{o:Oper}
theorem cA.mono {O2:Nat→Nat}{res:Result Next}(h:cA P g w t O st' a res) (hle:∀ b,O b≤O2 b):cA P g w t O2 st' a res:=by
 obtain⟨x,w',g',Oa,O',k⟩:=h
 exact⟨x,w',g',Oa,O',k.run,k.val,k.st,k.ext.mono (fun b _ h=>by have:=hle b;omega),k.le,fun b hb=>Nat.le_trans (k.old b hb) (hle b),k.hi⟩
def kr (P:Program) (g:Gh) (w:World) (t:Array Value) (O Oa:Nat→Nat) (st':St) (r:AV) (res:Result Value):Prop :=
 ∃ v w' g' Or O',res=.ok v w'∧RV g' w' r v Or∧S P g' w' st' t O'∧az g w g' w' (fun b=>Oa b≠0∨O b≠0)∧(∀ b,Or b+O' b≤1)∧
  (∀ b,b<w.heap.size→Or b+O' b≤Oa b+O b)∧∀ b,Or b≠0→b<w'.heap.size
theorem kr.firm {Oa:Nat→Nat}{m:Nat}{xs:List (List D)}{res:Result Value}(h:kr P g w t O Oa st' (.own true m xs) res):kr P g w t O Oa st' (.own false m xs) res:=by
 obtain⟨v,w',g',Or,O',h1,h2,h3,h4,h5,h6,h7⟩:=h
 obtain⟨g2,r2,s2,x2⟩:=D0 h3 h2 h5
 exact⟨v,w',g2,Or,O',h1,r2,s2,h4.trans x2 (fun b hb h=>by have:=h6 b hb;omega),h5,h6,h7⟩
theorem az.write {b pos:Nat}{c c':Array Value}{el:TypeId}{news:List Value}(hb:w.heap[b]?=some (.cells c el (0,0))) (hp:∀ o,g.pm b o→o<pos)
  (hc:c'.toList=aj c.toList pos news) (hsz:pos≤c.size):az g w g (Vm.setBlk w b (.cells c' el (0,0))) fun x=>x=b where
 obj _ _ h:=⟨h,rfl,rfl,rfl⟩
 pm b' o h:=⟨h,by
  by_cases e:b'=b
  ·subst e
   have:=hp o h
   rw[dc (bX (ba hb)),dc hb,←Array.getElem?_toList,hc,←Array.getElem?_toList]
   unfold aj
   have hlt:o<(c.toList.take pos).length:=by simp;omega
   rw[List.append_assoc,List.getElem?_append_left hlt,List.getElem?_take_of_lt this]
  ·exact fh (dq e) o⟩
 blk b' _ h:=⟨dq h,fun _ h=>h⟩
 size:=by simp
 lp b' rc h:=⟨rc,by rw[dq (by rintro rfl;rw[hb]at h;simp at h)];exact h⟩
 same:=⟨rfl,rfl,mQ hb (by intro off;simp[cY]) (by intro off;simp[cY])⟩
theorem S.other {w':World}{b:Nat}{c:Array Value}{el:TypeId}(s:S P g w st t O) (hb:w.heap[b]?=some (.cells c el (0,0))) (hx:az g w g w' fun x=>x=b) (hO:O b=0) :
  S P g w' st t O:=by
 obtain⟨Oe,Oh,re,rh,ho⟩:=s.parts
 have re':=eO.ext hx re (fun y hy e=>by rw[e]at hy;have:=ho b;omega)
 have rh':pY P g w' st.hs.heap Oh:=rh.imp' fun k v Q _ hQ q=>q.ext hx (fun y hy e=>by rw[e]at hy;have:=hQ b;have:=ho b;omega) (fun y ds hd e=>by
  rw[e,hb]at hd;simp at hd)
 exact⟨s.se,s.sh,⟨Oe,Oh,re',rh',ho⟩,s.le,fun b hb=>Nat.lt_of_lt_of_le (s.hi b hb) hx.size,s.fresh,fun b o h=>Nat.lt_of_lt_of_le (s.pmlt b o h) hx.size⟩
def xX (g:Gh) (w:World) (ys:List (List D)) (news:List Value):Prop:=∀ (j:Nat) (d:D),ys.flatten[j]?=some d→∃ u,news[j]?=some u∧RD w g.pm d u
theorem YB {b off m cap:Nat}{c c':Array Value}{el:TypeId}{news:List Value}{xs ys:List (List D)}(hb:w.heap[b]?=some (.cells c el (0,0)))
  (hx:az g w g (Vm.setBlk w b (.cells c' el (0,0))) fun x=>x=b) (hc:c'.toList=aj c.toList (off+xs.length*m) news) (hl:∀ e∈xs,e.length=m)
  (hcap:off+cap*m≤c.size) (hroom:xs.length+ys.length≤cap) (hn:news.length=ys.length*m) (hrc:eS w g.pm xs.flatten b off) (hnew:xX g w ys news) :
  eS (Vm.setBlk w b (.cells c' el (0,0))) g.pm (xs++ys).flatten b off:=by
 have hfl:=cD hl
 have hbound:(xs.length+ys.length)*m≤cap*m:=Nat.mul_le_mul_right _ hroom
 rw[Nat.add_mul]at hbound
 have hcl:c.toList.length=c.size:=Array.length_toList
 intro j d hj
 rw[List.flatten_append]at hj
 rw[dc (bX (ba hb)),←Array.getElem?_toList,hc,dy (by omega)]
 rcases Nat.lt_or_ge j xs.flatten.length with h | h
 ·rw[List.getElem?_append_left h]at hj
  obtain⟨u,hu,hr⟩:=hrc j d hj
  rw[dc hb,←Array.getElem?_toList]at hu
  have:¬ (off+xs.length*m≤off+j∧off+j<off+xs.length*m+news.length):=by omega
  rw[if_neg this]
  exact⟨u,hu,hr.ext hx⟩
 ·rw[List.getElem?_append_right h]at hj
  obtain⟨u,hu,hr⟩:=hnew _ d hj
  have hlt:=ef hu
  have:off+xs.length*m≤off+j∧off+j<off+xs.length*m+news.length:=by omega
  rw[if_pos this]
  refine⟨u,?_,hr.ext hx⟩
  rw[←hu];congr 1;omega
variable {t0 t1 ty e:TypeId}{m n:Nat}{x:Value}{news:List Value}{xs ys:List (List D)}{i:TypeInfo}{z:Value}
theorem IZ {Oa:Nat→Nat}(s:S P g w st t O) (hu:P.underlying t0=some (.slice e)) (hi:P.info? e=some i) (hz:i.zero=some z) (hzs:z.cells.size=m) (hs:i.size=m) (hm:0<m)
  (hby:i.bytes≤4096) (hx:Tk P w t1 x e m ys.length news) (hnew:xX g w ys news) {base:Option Addr}{sCap:Nat}(hl:∀ e∈xs,e.length=m) (hl2:∀ e∈ys,e.length=m)
  {olds:List Value}(hlo:olds.length=xs.length*m) (hod:xX g w xs olds) (hold:∀ w1:World,w1.heap=w.heap→(Builtin.firstCells m xs.length (.slice base xs.length sCap)).run P w1=.ok olds.toArray w1)
  (hsum:xs.length+ys.length≤4294967296) (hg:sCap<xs.length+ys.length) :
  kr P g w t O Oa st (.own true m (xs++ys)) ((Builtin.append_ #[t0,t1] ty #[.slice base xs.length sCap,x]).run P w):=by
 obtain⟨cap',rest,hrun,h1,h2⟩:=Le (P:=P) (ty:=ty) hu hi hz hzs hs hm hby (Nat.le_trans (Nat.le_add_left _ _) hsum) hx hlo hold hsum hg
 have hop:cA P g w t O st (.own true m (xs++ys)) (.ok (.value (.slice (some ⟨w.heap.size,0,none⟩) (xs++ys).length cap')) (w.drew.alloc (.cells (olds++(news++rest)).toArray e))):=by
  refine cA.list (w1:=w.drew) s s (fun _=>Nat.le_refl _) (az.drew g w _) rfl rfl hm (fun e he=>?_) (by simpa using h1) (by simpa using h2) fun j d hj=>?_
  ·rcases List.mem_append.1 he with he | he
   ·exact hl e he
   ·exact hl2 e he
  ·rw[List.flatten_append]at hj
   have hfl:=cD hl
   rcases Nat.lt_or_ge j xs.flatten.length with h | h
   ·rw[List.getElem?_append_left h]at hj
    obtain⟨u,hu,hr⟩:=hod j d hj
    exact⟨u,by rw[List.getElem?_toArray,List.getElem?_append_left (ef hu)];exact hu,hr⟩
   ·rw[List.getElem?_append_right h]at hj
    obtain⟨u,hu,hr⟩:=hnew _ d hj
    have hlt:=ef hu
    refine⟨u,?_,hr⟩
    rw[List.getElem?_toArray,List.getElem?_append_right (by omega),hlo,←hfl,List.getElem?_append_left hlt]
    exact hu
 obtain⟨v,w',g',Or,O',k⟩:=hop
 rcases k.run with hr | hr
 ·simp only[Result.ok.injEq,Next.value.injEq]at hr
  obtain⟨rfl,rfl⟩:=hr
  exact⟨_,_,g',Or,O',by rw[hrun];simp,k.val,k.st,k.ext.mono (fun b _ h=>.inr h),k.le,fun b hb=>by have:=k.old b hb;omega,k.hi⟩
 ·simp at hr
theorem aeZ (s:S P g w st t O) (hu:P.underlying t0=some (.slice e)) (hi:P.info? e=some i) (hs:i.size=m) (hm:0<m)
  (hby:i.bytes≤4096) (hx:Tk P w t1 x e m ys.length news) (hnew:xX g w ys news) {b off cap:Nat}(hl:∀ e∈xs,e.length=m) (hl2:∀ e∈ys,e.length=m)
  {c:Array Value}{el:TypeId}(hb:w.heap[b]?=some (.cells c el (0,0))) (hcap:off+cap*m≤c.size) (hrc:eS w g.pm xs.flatten b off) (hO:O b=0) (hp:∀ o,g.pm b o→o<off+xs.length*m)
  (hsum:ys.length≤4294967296) (hroom:xs.length+ys.length≤cap) :
  ∃ v w',(Builtin.append_ #[t0,t1] ty #[.slice (some ⟨b,off,none⟩) xs.length cap,x]).run P w=.ok v w'∧S P g w' st t O∧az g w g w' (fun y=>y=b)∧w'.heap.size=w.heap.size∧
   ((∀ o,¬ g.pm b o)→RV g w' (.own true m (xs++ys)) v (one b))∧
   ∃ g',az g w g' w' (fun y=>y=b)∧S P g' w' st t O∧RV g' w' (.own false m (xs++ys)) v (one b):=by
 have hbound:(xs.length+ys.length)*m≤cap*m:=Nat.mul_le_mul_right _ hroom
 rw[Nat.add_mul]at hbound
 have hn:=hx.len
 obtain⟨c',h1,h2,h3⟩:=jo (P:=P) (b:=b) (el:=el) news w c (off+xs.length*m) 0 hb hx.one (by omega)
 rw[Nat.add_zero]at h2
 have hrun:=qg (P:=P) (w:=w) (ty:=ty) hu hi hs hm hby hsum hx (base:=some ⟨b,off,none⟩) hroom
 have hext:=az.write hb hp h2 (by omega)
 have s':=s.other hb hext hO
 have hcells:=YB hb hext h2 hl hcap hroom hn hrc hnew
 have hla:∀ e∈xs++ys,e.length=m:=fun e he=>by
  rcases List.mem_append.1 he with he | he
  ·exact hl e he
  ·exact hl2 e he
 refine⟨.slice (some ⟨b,off,none⟩) (xs.length+ys.length) cap,_,?_,s',hext,by simp,fun hnp=>?_,?_⟩
 ·rw[hrun]
  simp only[eD,Sem.run_bind,h1,Result.andThen_ok,Sem.run_pure]
 ·simp only[RV,li]
  refine .inr ⟨b,off,cap,c',el,by simp,by simpa using hroom,hm,hla,bX (ba hb),by omega,hcells,fun o ho=>absurd ho (hnp o),fun h=>by simp at h,rfl⟩
 ·have hb':(Vm.setBlk w b (.cells c' el (0,0))).heap[b]?=some (.cells c' el (0,0)):=bX (ba hb)
  refine⟨g.keep b fun o=>off≤o∧o<off+(xs++ys).length*m,hext.trans (az.keep g _ b _) (fun _ _ h=>h),s'.keep hO hb' _,?_⟩
  simp only[RV,li]
  refine .inr ⟨b,off,cap,c',el,by simp,by simpa using hroom,hm,hla,hb',by omega,hcells.ext (az.keep g _ b _) (.inl rfl),fun o ho=>⟨trivial,?_⟩,fun _ j hj=>.inr ⟨rfl,by omega,by omega⟩,rfl⟩
  rcases ho with ho | ⟨_,_,ho⟩
  ·have:=hp o ho
   rw[List.length_append,Nat.add_mul];omega
  ·exact ho
end
end Go.Vm
namespace Go.Vm
section
variable {P:Program}{g:Gh}{w:World}{t:Array Value}{O:Nat→Nat}{st st':St}{a:AV}{o:Oper}
variable {t0 t1 ty e:TypeId}{m n:Nat}{x:Value}{news:List Value}{xs ys:List (List D)}{i:TypeInfo}{z:Value}
theorem eS.olds {b off:Nat}(hl:∀ e∈xs,e.length=m) (r:eS w g.pm xs.flatten b off) (len cap:Nat) :
  ∃ olds:List Value,olds.length=xs.length*m∧xX g w xs olds∧∀ w1:World,w1.heap=w.heap→(Builtin.firstCells m xs.length (.slice (some ⟨b,off,none⟩) len cap)).run P w1=.ok olds.toArray w1:=by
 obtain⟨news,h⟩:=xf.of_cells hl r
 refine⟨news,h.len,h.rd,fun w1 hw=>?_⟩
 have:=h.first (P:=P) (len:=len) (cap:=cap) (Nat.le_refl _) hw
 rw[←h.len,List.take_length]at this
 exact this
theorem ko (m:Nat) (a:Option Addr) (len cap:Nat) (w1:World):(Builtin.firstCells m 0 (.slice a len cap)).run P w1=.ok #[] w1:=by
 cases a with
 | none=>simp[Builtin.firstCells]
 | some a =>
  have:=run_firstCells_some (P:=P) w1 m 0 a len cap [] (by simp) (fun j v h=>by simp at h)
  simpa using this
theorem MJ {Oa:Nat→Nat}{va r:AV}{x0:Value}{h':ac}(s:S P g w st t O) (ra:RV g w va x0 Oa) (hle:∀ b,Oa b+O b≤1) (hhi:∀ b,Oa b≠0→b<w.heap.size)
  (hu:P.underlying t0=some (.slice e)) (hi:P.info? e=some i) (hz:i.zero=some z) (hzs:z.cells.size=m) (hs:i.size=m) (hm:0<m)
  (hby:i.bytes≤4096) (hx:Tk P w t1 x e m ys.length news) (hnew:xX g w ys news) (hl2:∀ e∈ys,e.length=m) (h:bK m st.hs.heap va ys=some (r,h')) :
  kr P g w t O Oa ⟨st.env,⟨h',st.hs.next⟩⟩ r ((Builtin.append_ #[t0,t1] ty #[x0,x]).run P w):=by
 unfold bK at h
 split at h
 ·simp at h
 ·rename_i hy
  rw[Nat.ble_eq]at hy
  have hy':ys.length≤4294967296:=hy
  have empty:∀ {ae:St}{O1:Nat→Nat},S P g w ae t O1→(∀ b,O1 b≤Oa b+O b)→∀ ad:Option Addr,ys.length=0→∀ r,RV g w r (.slice ad 0 0) zero→
    kr P g w t O Oa ae r ((Builtin.append_ #[t0,t1] ty #[.slice ad 0 0,x]).run P w):=by
   intro ae O1 s1 hO1 ad h0 r hr
   have hnil:news=[]:=List.eq_nil_of_length_eq_zero (by rw[hx.len,h0];simp)
   have hrun:=qg (P:=P) (w:=w) (ty:=ty) hu hi hs hm hby hy' hx (base:=ad) (sLen:=0) (sCap:=0) (by omega)
   refine⟨.slice ad 0 0,w,g,zero,O1,?_,hr,s1,.refl _ _ _,fun b=>by have:=hle b;have:=hO1 b;simp;omega,fun b _=>by have:=hO1 b;simpa using this,fun b hb=>by simp at hb⟩
   rw[hrun,hnil,h0]
   cases ad<;>simp[storeCells]
  have weak:∀ {ae:St}{O1:Nat→Nat}{r:AV}{res:Result Value},(∀ b,O1 b≤Oa b+O b)→kr P g w t O1 zero ae r res→kr P g w t O Oa ae r res:=by
   rintro ae O1 r res hO1 ⟨v,w',g',Or,O',k1,k2,k3,k4,k5,k6,k7⟩
   exact⟨v,w',g',Or,O',k1,k2,k3,k4.mono (fun b _ h=>by have:=hO1 b;rcases h with h | h;exact absurd rfl h;omega),k5,fun b hb=>by have h6:Or b+O' b≤0+O1 b:=k6 b hb;have:=hO1 b;omega,k7⟩
  have grows0:∀ {ae:St}{O1:Nat→Nat},S P g w ae t O1→(∀ b,O1 b≤Oa b+O b)→∀ ad:Option Addr,ys.length≠0→
    kr P g w t O Oa ae (.own true m ys) ((Builtin.append_ #[t0,t1] ty #[.slice ad 0 0,x]).run P w):=by
   intro ae O1 s1 hO1 ad h0
   refine weak hO1 ?_
   have:=IZ (Oa:=zero) (xs:=[]) (base:=ad) (sCap:=0) (olds:=[]) (ty:=ty) s1 hu hi hz hzs hs hm hby hx hnew (fun e he=>by simp at he) hl2 (by simp)
    (fun j d h=>by simp at h) (fun w1 _=>ko m ad 0 0 w1) (by simpa using hy') (by simp;omega)
   simpa using this
  have block:∀ {ae:St}{O1:Nat→Nat}{zs:List (List D)}{b off cap:Nat}{c:Array Value}{el:TypeId},S P g w ae t O1→(∀ y,O1 y+one b y≤1)→(∀ y,O1 y+one b y≤Oa y+O y)→(∀ e∈zs,e.length=m)→
    w.heap[b]?=some (.cells c el (0,0))→off+cap*m≤c.size→eS w g.pm zs.flatten b off→(∀ o,g.pm b o→o<off+zs.length*m)→zs.length+ys.length≤4294967296→
    ∀ p:Bool,(p=true→∀ o,¬ g.pm b o)→
    kr P g w t O Oa ae (.own p m (zs++ys)) ((Builtin.append_ #[t0,t1] ty #[.slice (some ⟨b,off,none⟩) zs.length cap,x]).run P w):=by
   intro ae O1 zs b off cap c el s1 hO1 hO2 hlz hb hcap hrc hp hsum p hpp
   have hOb:O1 b=0:=by have:=hO1 b;rw[lB]at this;omega
   by_cases hroom:zs.length+ys.length≤cap
   ·obtain⟨v,w',k1,k2,k3,k4,k5,g',k6,k7,k8⟩:=aeZ (ty:=ty) s1 hu hi hs hm hby hx hnew hlz hl2 hb hcap hrc hOb hp hy' hroom
    have hx1:∀ {g1:Gh},az g w g1 w' (fun y=>y=b)→az g w g1 w' (fun y=>Oa y≠0∨O y≠0):=fun h=>h.mono fun y _ e=>by
     have:=hO2 y;rw[e,lB]at this;rw[e];omega
    cases p with
    | true=>exact⟨v,w',g,one b,O1,k1,k5 (hpp rfl),k2,hx1 k3,fun y=>by have:=hO1 y;omega,fun y _=>by have:=hO2 y;omega,fun y hy=>by rw[lc hy,k4];exact ba hb⟩
    | false=>exact⟨v,w',g',one b,O1,k1,k8,k7,hx1 k6,fun y=>by have:=hO1 y;omega,fun y _=>by have:=hO2 y;omega,fun y hy=>by rw[lc hy,k4];exact ba hb⟩
   ·obtain⟨olds,q1,q2,q3⟩:=eS.olds hlz hrc zs.length cap
    have:=IZ (Oa:=zero) (base:=some ⟨b,off,none⟩) (sCap:=cap) (ty:=ty) s1 hu hi hz hzs hs hm hby hx hnew hlz hl2 q1 q2 q3 hsum (by omega)
    have h2:=weak (fun y=>by have:=hO2 y;omega) this
    cases p with
    | true=>exact h2
    | false=>exact h2.firm
  split at h
  ·simp only[Option.some.injEq,Prod.mk.injEq]at h
   obtain⟨rfl,rfl⟩:=h
   simp only[RV]at ra
   obtain⟨rfl,_⟩:=ra
   cases ys with
   | nil=>exact empty s (fun b=>by omega) none rfl _ (by simp[RV])
   | cons y ys=>exact grows0 s (fun b=>by omega) none (by simp)
  ·rename_i p k zs
   split at h
   ·rename_i hk
    simp only[Bool.and_eq_true,Nat.beq_eq,Nat.ble_eq]at hk
    obtain⟨rfl,hsum⟩:=hk
    simp only[Option.some.injEq,Prod.mk.injEq]at h
    obtain⟨rfl,rfl⟩:=h
    simp only[RV]at ra
    rcases ra with ⟨rfl,_,ad,rfl⟩ | ⟨b,off,cap,c,el,rfl,hcap,_,hlz,hb,hsz,hrc,hpm,hp,rfl⟩
    ·by_cases h0:ys.length=0
     ·have:ys=[]:=List.eq_nil_of_length_eq_zero h0
      subst this
      exact empty s (fun b=>by omega) ad rfl _ (by simp only[RV,li];exact .inl ⟨rfl,fun _=>trivial,ad,rfl⟩)
     ·exact(grows0 s (fun b=>by omega) ad h0).firm
    ·exact block s (fun y=>by have:=hle y;omega) (fun y=>by omega) hlz hb hsz hrc (fun o ho=>(hpm o ho).2) hsum false (fun h=>by simp at h)
   ·simp at h
  ·rename_i id off len
   split at h
   ·rename_i k zs hg
    split at h
    ·rename_i hk
     simp only[Bool.and_eq_true,Nat.beq_eq,Nat.ble_eq]at hk
     obtain⟨⟨rfl,hin⟩,hsum⟩:=hk
     simp only[Option.some.injEq,Prod.mk.injEq]at h
     obtain⟨rfl,rfl⟩:=h
     simp only[RV]at ra
     obtain⟨ra,hOa⟩:=ra
     obtain⟨Oe,Oh,re,rh,ho⟩:=s.parts
     obtain⟨O1,O2,q,r2,hsm⟩:=RL.take rh hg
     have hle2:∀ b,Oe b+O2 b≤O b:=fun b=>by have:=hsm b;have:=ho b;omega
     have s2:S P g w ⟨st.env,⟨del st.hs.heap id,st.hs.next⟩⟩ t (fun b=>Oe b+O2 b) :=
      ⟨s.se,s.sh.del id,⟨Oe,O2,re,r2,fun _=>rfl⟩,fun b=>Nat.le_trans (hle2 b) (s.le b),fun b hb=>s.hi b (by have:=hle2 b;omega),s.fresh,s.pmlt⟩
     have hsub:(Vm.sub zs off len).length=len:=eK hin
     have emp:len=0→∀ ad:Option Addr,kr P g w t O Oa ⟨st.env,⟨del st.hs.heap id,st.hs.next⟩⟩ (.own true k (Vm.sub zs off len++ys)) ((Builtin.append_ #[t0,t1] ty #[.slice ad 0 0,x]).run P w):=by
      intro h0 ad
      have:Vm.sub zs off len=[]:=List.eq_nil_of_length_eq_zero (by omega)
      rw[this,List.nil_append]
      by_cases h0:ys.length=0
      ·have:ys=[]:=List.eq_nil_of_length_eq_zero h0
       subst this
       exact empty s2 (fun b=>by have:=hle2 b;omega) ad rfl _ (by simp only[RV,li];exact .inl ⟨by simp,fun _=>trivial,ad,rfl⟩)
      ·exact grows0 s2 (fun b=>by have:=hle2 b;omega) ad h0
     rcases ra with ⟨h0,ad,rfl⟩ | ⟨b,cap,hob,rfl,hlc,hcap⟩
     ·exact emp h0 ad
     ·simp only[bl]at q
      rcases q with ⟨rfl,g1,g2,g3,_⟩ | ⟨b',c,el,g1,g2,g3,g4,g5,g6,g7,g8,g9,g10⟩
      ·have hl0:len=0:=by simp at hin;omega
       have hc0:cap=0:=by
        rw[g1,g2]at hcap
        have:(off+cap)*k=0:=by omega
        rcases Nat.mul_eq_zero.1 this with h | h<;>omega
       rw[hl0,hc0]
       rw[hl0]at emp
       exact emp rfl _
      ·rw[hob]at g1
       simp only[Option.some.injEq]at g1
       subst g1
       rw[g2,Nat.add_mul]at hcap
       rw[g2]
       have:=block (zs:=Vm.sub zs off len) (off:=g.base id+off*k) (cap:=cap) s2 (fun y=>by have:=g10 y;have:=hsm y;have:=ho y;have:=s.le y;omega)
        (fun y=>by have:=g10 y;have:=hsm y;have:=ho y;omega) (vj g7 off len) g4 (by omega)
        (by rw[gF g7];exact g8.sub _ _) (fun o h=>absurd h (g9 o)) (by rw[hsub];exact hsum) true (fun _=>g9)
       rw[hsub]at this
       exact this
    ·simp at h
   ·simp at h
  ·simp at h
end
end Go.Vm
end
