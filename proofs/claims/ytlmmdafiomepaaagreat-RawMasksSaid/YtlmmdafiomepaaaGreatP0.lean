import GoSem.Core.View
import Derived.Calls
import Derived.Laws.Sem
import Derived.Laws.World
import GoSem.Core.Program
import GoSem.Core.Layout
import GoSem.Op.Equal
import Derived.Laws.Cells
import Derived.Laws.Append
set_option linter.unusedVariables false
set_option linter.unusedSimpArgs false
noncomputable section
namespace Go.Vm
inductive D where
 | int (k:IntKind) (n:Int)
 | bool (b:Bool)
 | str (s:List UInt8)
 | lst (xs:List (List D))
 deriving Inhabited
inductive AV where
 | junk
 | d (x:D)
 | nl
 | own (p:Bool) (m:Nat) (xs:List (List D))
 | gl (n:Nat)
 | agg (cs:List AV)
 | tup (vs:List AV)
 | nilp
 | ptr (id off:Nat)
 | pel (id i off:Nat)
 | pim (cs:List D) (off:Nat)
 | sl (id off len:Nat)
 | fn (f:FuncId) (first caps:List AV)
 | nilf
 | yield (l:Nat)
 deriving Inhabited
abbrev AV.int (k:IntKind) (n:Int):AV:=.d (.int k n)
abbrev AV.bool (b:Bool):AV:=.d (.bool b)
inductive Rd where
 | s (i:Nat)
 | m (i:Nat)
 | c (v:AV)
 deriving Inhabited
inductive jq where
 | mov (x:Rd)
 | pick (c a b:Rd)
 | alloc (zs:List AV)
 | box (x:Rd)
 | build (zs:List AV) (ps:List (Nat×Nat×Rd))
 | mks (m:Nat) (ps:List Rd)
 | mksv (m:Nat) (ps:List Rd)
 | ld (n:Option Nat) (take:Nat) (p:Rd)
 | st (n:Nat) (p x:Rd)
 | nilck (x:Rd)
 | bin (op:BinOp) (x y:Rd)
 | binb (neg:Bool) (x y:Rd)
 | bina (neg:Bool) (ks:List Bool) (x y:Rd)
 | un (op:UnOp) (x:Rd)
 | conv (k:IntKind) (x:Rd)
 | toStr (x:Rd)
 | mkfn (f:FuncId) (first caps:List Rd)
 | mkslice (z:List D) (len cap:Rd)
 | slice (m:Nat) (x:Rd) (lo hi mx:Option Rd)
 | slarr (n:Nat) (x:Rd) (lo hi mx:Option Rd)
 | fa (off:Nat) (p:Rd)
 | fld (off:Nat) (n:Option Nat) (x:Rd)
 | ia (n:Nat) (x i:Rd)
 | iarr (len n:Nat) (p i:Rd)
 | ix (len n:Nat) (agg:Bool) (x i:Rd)
 | ixs (x i:Rd)
 | idxb (x c:Rd)
 | ext (j:Nat) (mv:Bool) (i:Nat)
 | len (x:Rd)
 | cap (x:Rd)
 | app (m:Nat) (x y:Rd)
 | appz (z:List D) (x n:Rd)
 | cpy (m:Nat) (x y:Rd)
 | clr (z:List D) (x:Rd)
 | minmax (isMax:Bool) (xs:List Rd)
 | call (f:FuncId) (args:List Rd)
 | calli (f:FuncId) (args:List Rd)
 | callv (f:Rd) (args:List Rd)
 | bad
 | kill (is:List Nat)
 | free (i:Nat)
 | wk (i m:Nat)
 | frz (i:Nat)
 | frzC (i:Nat) (offs:List Nat)
 deriving Inhabited
structure VI where
 dst:Option Nat
 guard:Option (Nat×Bool)
 op:jq
 th:List (Nat×Nat):=[]
 deriving Inhabited
inductive VC where
 | skip
 | reg (draw:Bool) (ops:List VI)
 | regP (perm gco nr:List Nat) (ops:List VI)
 | seq (a b:VC)
 | cond (c:Rd) (a b:VC)
 | block (id:Nat) (a:VC)
 | loop (a:VC)
 | rangeF (f:Rd) (params:List Nat) (assign body:VC)
 | exit (id:Nat)
 | scope (a:VC)
 | inScope (a cur:VC)
 | label (l:Nat)
 | goto (l:Nat)
 | ret
 | clone (m:Nat)
 | late (i d f:Nat) (a:VC)
 deriving Inhabited
inductive lU where
 | tmp (t:Nat)
 | cell (t:Nat) (n:Option Nat)
 deriving Inhabited
structure af where
 nparams:Nat
 results:List lU
 body:VC
 deriving Inhabited
abbrev ak:=List (Nat×AV)
inductive aU where
 | normal
 | exit (id:Nat)
 | goto (l:Nat)
 | ret
 deriving Inhabited,DecidableEq
inductive Obj where
 | cells (cs:List AV)
 | arr (m:Nat) (xs:List (List D))
 | loop (snap:ak) (params:List Nat) (assign body:VC) (busy:Bool) (pend:Option aU)
 deriving Inhabited
abbrev ac:=List (Nat×Obj)
structure HS where
 heap:ac
 next:Nat
 deriving Inhabited
structure St where
 env:ak
 hs:HS
 deriving Inhabited
abbrev vX (a b:Nat):Prop:=a<b
abbrev OG (a b:Nat):Prop:=a≤b
abbrev ZE (a b:Nat):Bool:=Nat.ble a b
theorem al3 {a b:Nat}(h:OG a b):ZE a b=true:=Nat.ble_eq_true_of_le h
theorem aoo {a b:Nat}(h:¬ OG a b):ZE a b=false:=by rw[←Bool.not_eq_true,ZE,Nat.ble_eq];exact h
def auX {α:Type}:List (Nat×α)→Nat→Option α
 | [],_=>none
 | (k,v)::r,i=>match Nat.beq k i with
  | true=>some v
  | false=>auX r i
def get {α:Type}(l:List (Nat×α)) (i:Nat):Option α :=
 List.rec (motive:=fun _=>Option α) none (fun p _ ih=>Prod.rec (motive:=fun _=>Option α) (fun k v=>Bool.rec (motive:=fun _=>Option α) ih (some v) (Nat.beq k i)) p) l
def atV {α:Type}:List (Nat×α)→Nat→α→List (Nat×α)
 | [],i,x=>[(i,x)]
 | (k,v)::r,i,x=>match Nat.beq k i with
  | true=>(i,x)::r
  | false=>match ZE i k with
   | true=>(i,x)::(k,v)::r
   | false=>(k,v)::atV r i x
def put {α:Type}(l:List (Nat×α)) (i:Nat) (x:α):List (Nat×α) :=
 List.rec (motive:=fun _=>List (Nat×α)) [(i,x)] (fun p r ih=>Prod.rec (motive:=fun _=>List (Nat×α)) (fun k v=>Bool.rec (motive:=fun _=>List (Nat×α)) (Bool.rec (motive:=fun _=>List (Nat×α)) ((k,v)::ih) ((i,x)::(k,v)::r) (ZE i k)) ((i,x)::r) (Nat.beq k i)) p) l
def aqW {α:Type}:List (Nat×α)→Nat→List (Nat×α)
 | [],_=>[]
 | (k,v)::r,i=>match Nat.beq k i with
  | true=>aqW r i
  | false=>(k,v)::aqW r i
def del {α:Type}(l:List (Nat×α)) (i:Nat):List (Nat×α) :=
 List.rec (motive:=fun _=>List (Nat×α)) [] (fun p _ ih=>Prod.rec (motive:=fun _=>List (Nat×α)) (fun k v=>Bool.rec (motive:=fun _=>List (Nat×α)) ((k,v)::ih) ih (Nat.beq k i)) p) l
section
variable {α:Type}
theorem nu (i:Nat):get ([]:List (Nat×α)) i=none:=rfl
theorem Zy (i:Nat) (x:α):put [] i x=[(i,x)]:=rfl
theorem YY (i:Nat):del ([]:List (Nat×α)) i=[]:=rfl
theorem Wh {k i:Nat}(h:k=i):Nat.beq k i=true:=by rw[Nat.beq_eq];exact h
theorem adp {k i:Nat}(h:¬ k=i):Nat.beq k i=false:=by rw[←Bool.not_eq_true,Nat.beq_eq];exact h
theorem bm (k:Nat) (v:α) (r:List (Nat×α)) (i:Nat):get ((k,v)::r) i=if k=i then some v else get r i:=by
 show Bool.rec (motive:=fun _=>Option α) (get r i) (some v) (Nat.beq k i)=_
 by_cases h:k=i
 ·rw[if_pos h,Wh h]
 ·rw[if_neg h,adp h]
theorem gZ (k:Nat) (v:α) (r:List (Nat×α)) (i:Nat):del ((k,v)::r) i=if k=i then del r i else (k,v)::del r i:=by
 show Bool.rec (motive:=fun _=>List (Nat×α)) ((k,v)::del r i) (del r i) (Nat.beq k i)=_
 by_cases h:k=i
 ·rw[if_pos h,Wh h]
 ·rw[if_neg h,adp h]
theorem kD (k:Nat) (v:α) (r:List (Nat×α)) (i:Nat) (x:α) :
  put ((k,v)::r) i x=if k=i then (i,x)::r else if OG i k then (i,x)::(k,v)::r else (k,v)::put r i x:=by
 show Bool.rec (motive:=fun _=>List (Nat×α)) (Bool.rec (motive:=fun _=>List (Nat×α)) ((k,v)::put r i x) ((i,x)::(k,v)::r) (ZE i k)) ((i,x)::r) (Nat.beq k i)=_
 by_cases h:k=i
 ·rw[if_pos h,Wh h]
 ·rw[if_neg h,adp h]
  by_cases h2:OG i k
  ·rw[if_pos h2,al3 h2]
  ·rw[if_neg h2,aoo h2]
end
mutual
def ai7:AV→AV
 | .own p _ xs=>match p with
  | false=>.d (.lst xs)
  | true=>.junk
 | .agg cs=>.agg (shareAll cs)
 | .tup cs=>.tup (shareAll cs)
 | v=>v
def shareAll:List AV→List AV
 | []=>[]
 | v::r=>ai7 v::shareAll r
end
def share (v:AV):AV:=AV.casesOn (motive_1:=fun _=>AV) v .junk (fun x=>.d x) .nl (fun p _ xs=>Bool.casesOn (motive:=fun _=>AV) p (.d (.lst xs)) .junk) (fun n=>.gl n) (fun cs=>.agg (shareAll cs)) (fun cs=>.tup (shareAll cs))
 .nilp (fun a b=>.ptr a b) (fun a b c=>.pel a b c) (fun a b=>.pim a b) (fun a b c=>.sl a b c) (fun a b c=>.fn a b c) .nilf (fun a=>.yield a)
theorem ajc (v:AV):ai7 v=share v:=by
 cases v<;>try rfl
 rename_i p _ _
 cases p<;>rfl
theorem ad0:shareAll []=[]:=rfl
theorem jB (v:AV) (r:List AV):shareAll (v::r)=share v::shareAll r:=by rw[shareAll,ajc]
def rd (e:ak):Rd→Option (AV×ak)
 | .c v=>some (v,e)
 | .m i=>match get e i with
  | some v=>some (v,del e i)
  | none=>none
 | .s i=>match get e i with
  | some v=>some (share v,e)
  | none=>none
def rdAll (e:ak):List Rd→Option (List AV×ak)
 | []=>some ([],e)
 | x::r=>match rd e x with
  | none=>none
  | some (v,e)=>match rdAll e r with
   | none=>none
   | some (vs,e)=>some (v::vs,e)
def rdOpt (e:ak):Option Rd→Option (Option AV×ak)
 | none=>some (none,e)
 | some x=>match rd e x with
  | some (v,e)=>some (some v,e)
  | none=>none
def sub {α:Type}(xs:List α) (off len:Nat):List α:=(xs.drop off).take len
def ai {α:Type}(cs:List α) (off:Nat) (vs:List α):List α:=cs.take off++vs++cs.drop (off+vs.length)
def Je:List D→List (List D)
 | []=>[]
 | x::r=>[x]::Je r
def wl:AV→Option D
 | .d x=>some x
 | .nl=>some (.lst [])
 | .own false _ xs=>some (.lst xs)
 | _=>none
def hU:List AV→Option (List D)
 | []=>some []
 | v::r=>match wl v with
  | some x=>match hU r with
   | some xs=>some (x::xs)
   | none=>none
  | none=>none
def AV.cells:AV→List AV
 | .agg cs=>cs
 | v=>[v]
def objElems (h:ac) (id:Nat):Option (List (List D)) :=
 match get h id with
 | some (.arr _ xs)=>some xs
 | some (.cells cs)=>match hU cs with
  | some ds=>some (Je ds)
  | none=>none
 | _=>none
def elems (h:ac):AV→Option (List (List D))
 | .d (.lst xs)=>some xs
 | .nl=>some []
 | .own false _ xs=>some xs
 | .sl id off len=>match objElems h id with
  | some xs=>match Nat.ble (off+len) xs.length with
   | true=>some (sub xs off len)
   | false=>none
  | none=>none
 | _=>none
def lenOf:AV→Option Nat
 | .d (.lst xs)=>some xs.length
 | .nl=>some 0
 | .own _ _ xs=>some xs.length
 | .gl n=>some n
 | .sl _ _ len=>some len
 | _=>none
def viewOne (h:ac):AV→Option AV
 | .d x=>some (.d x)
 | .nl=>some .nl
 | .own false _ xs=>some (.d (.lst xs))
 | .sl id off len=>match elems h (.sl id off len) with
  | some xs=>some (.d (.lst xs))
  | none=>none
 | _=>none
def viewAll (h:ac):List AV→Option (List AV)
 | []=>some []
 | v::r=>match viewOne h v with
  | none=>none
  | some x=>match viewAll h r with
   | none=>none
   | some xs=>some (x::xs)
def viewArg (h:ac):AV→Option AV
 | .agg cs=>match viewAll h cs with
  | some xs=>some (.agg xs)
  | none=>none
 | v=>viewOne h v
def viewArgs (h:ac):List AV→Option (List AV)
 | []=>some []
 | v::r=>match viewArg h v with
  | none=>none
  | some x=>match viewArgs h r with
   | none=>none
   | some xs=>some (x::xs)
def kT:AV→Bool
 | .sl ..=>true
 | _=>false
def kJ:AV→Bool
 | .agg cs=>cs.any kT
 | v=>kT v
def eZ (h:ac):AV→Option (AV×ac)
 | .d x=>some (.d x,h)
 | .nl=>some (.nl,h)
 | .own p m xs=>some (.own p m xs,h)
 | .sl id off len=>match get h id with
  | some (.arr m xs)=>match Nat.ble (off+len) xs.length with
   | true=>some (.own true m (sub xs off len),del h id)
   | false=>none
  | _=>none
 | _=>none
def i5 (h:ac):List AV→Option (List AV×ac)
 | []=>some ([],h)
 | v::r=>match eZ h v with
  | none=>none
  | some (x,h)=>match i5 h r with
   | none=>none
   | some (xs,h)=>some (x::xs,h)
def dB (h:ac):AV→Option (AV×ac)
 | .agg cs=>match i5 h cs with
  | some (xs,h)=>some (.agg xs,h)
  | none=>none
 | v=>eZ h v
def j7 (h:ac):List AV→Option (List AV×ac)
 | []=>some ([],h)
 | v::r=>match dB h v with
  | none=>none
  | some (x,h)=>match j7 h r with
   | none=>none
   | some (xs,h)=>some (x::xs,h)
def jG:D→Bool
 | .lst _=>false
 | _=>true
def io:AV→Bool
 | .d x=>jG x
 | .own _ _ xs=>xs.all fun e=>e.all jG
 | _=>true
def jO:AV→Bool
 | .agg cs=>cs.all io
 | v=>io v
def ee:AV→Bool
 | .tup vs=>vs.all jO
 | v=>jO v
def iq:AV→AV
 | .own _ m xs=>.own true m xs
 | v=>v
def gq:AV→AV
 | .agg cs=>.agg (cs.map iq)
 | v=>iq v
def f9:AV→AV
 | .tup vs=>.tup (vs.map gq)
 | v=>gq v
def df (v:AV):AV :=
 match ee v with
 | true=>f9 v
 | false=>v
def d9 (h:ac):AV→Option AV
 | .tup vs=>match j7 h vs with
  | some (xs,_)=>some (df (.tup xs))
  | none=>none
 | v=>match dB h v with
  | some (x,_)=>some (df x)
  | none=>none
def iR (n:Option Nat) (cs:List D) (off:Nat):Option AV :=
 match n with
 | none=>match cs[off]? with
  | some x=>some (.d x)
  | none=>none
 | some n=>match Nat.ble (off+n) cs.length with
  | true=>some (.agg ((sub cs off n).map .d))
  | false=>none
def jC (t:Nat) (v:AV):AV×AV :=
 match t with
 | 1=>(v,.junk)
 | 2=>(v,share v)
 | 3=>(v,match v with | .own _ _ xs=>.gl xs.length | v=>share v)
 | _=>(share v,v)
def ck (t:Nat):List AV→List AV×List AV
 | []=>([],[])
 | v::r=>((jC t v).1::(ck t r).1,(jC t v).2::(ck t r).2)
def loadAt (h:ac) (n:Option Nat) (take:Nat):AV→Option (AV×ac)
 | .ptr id off=>match get h id with
  | some (.cells cs)=>match n with
   | none=>match cs[off]? with
    | none=>none
    | some v=>match take with
     | 0=>some (share v,h)
     | t=>some ((jC t v).1,put h id (.cells (cs.set off (jC t v).2)))
   | some n=>match Nat.ble (off+n) cs.length with
    | true=>match take with
     | 0=>some (.agg (shareAll (sub cs off n)),h)
     | t=>some (.agg (ck t (sub cs off n)).1,put h id (.cells (ai cs off (ck t (sub cs off n)).2)))
    | false=>none
  | _=>none
 | .pel id i off=>match get h id with
  | some (.arr _ xs)=>match xs[i]? with
   | some x=>match iR n x off with
    | some v=>some (v,h)
    | none=>none
   | none=>none
  | _=>none
 | .pim cs off=>match iR n cs off with
  | some v=>some (v,h)
  | none=>none
 | _=>none
def au:AV→Bool
 | .junk | .agg _ | .tup _=>false
 | .own p _ _=>!p
 | _=>true
def storeAt (h:ac) (n:Nat) (p x:AV):Option ac :=
 match Nat.beq x.cells.length n with
 | false=>none
 | true=>match p with
  | .ptr id off=>match get h id with
   | some (.cells cs)=>match Nat.ble (off+n) cs.length && x.cells.all au with
    | true=>some (put h id (.cells (ai cs off x.cells)))
    | false=>none
   | _=>none
  | .pel id i off=>match hU x.cells with
   | none=>none
   | some ds=>match get h id with
    | some (.arr m xs)=>match xs[i]? with
     | some e=>match Nat.ble (off+n) e.length with
      | true=>some (put h id (.arr m (xs.set i (ai e off ds))))
      | false=>none
     | none=>none
    | _=>none
  | _=>none
def eh (off:Nat):AV→Option AV
 | .ptr id o=>some (.ptr id (o+off))
 | .pel id i o=>some (.pel id i (o+off))
 | .pim cs o=>some (.pim cs (o+off))
 | _=>none
def iV (lo hi:Int) (k:IntKind) (n:Int):Int :=
 match decide (lo≤n) && decide (n≤hi) with
 | true=>n
 | false=>k.wrap n
def wr (k:IntKind) (n:Int):Int :=
 match k with
 | .i64=>iV (-9223372036854775808) 9223372036854775807 k n
 | .u8=>iV 0 255 k n
 | .u64=>iV 0 18446744073709551615 k n
 | .u16=>iV 0 65535 k n
 | .u32=>iV 0 4294967295 k n
 | k=>k.wrap n
def yH (op:BinOp) (k:IntKind) (x y:Int):Option D :=
 match decide (y<0) with
 | true=>none
 | false=>match op with
  | .shl=>some (.int k (wr k (x*((2 ^ (min y.toNat k.bits):Nat):Int))))
  | .shr=>some (.int k (x.fdiv ((2 ^ (min y.toNat k.bits):Nat):Int)))
  | _=>none
def DU (op:BinOp) (k:IntKind) (x y:Int):Option D :=
 let slow (f:BitVec k.bits→BitVec k.bits→BitVec k.bits):Option D:=some (.int k (k.wrap (f (BitVec.ofInt k.bits x) (BitVec.ofInt k.bits y)).toNat))
 match op with
 | .and=>slow (·&&& ·)
 | .or=>slow (·||| ·)
 | .xor=>slow (·^^^ ·)
 | .andNot=>slow fun a b=>a &&& ~~~b
 | _=>none
def eS (op:BinOp) (k:IntKind) (x y:Int):Option D :=
 match op with
 | .add=>some (.int k (wr k (x+y)))
 | .sub=>some (.int k (wr k (x-y)))
 | .mul=>some (.int k (wr k (x*y)))
 | .quo=>match decide (y=0) with
  | true=>none
  | false=>some (.int k (wr k (x.tdiv y)))
 | .rem=>match decide (y=0) with
  | true=>none
  | false=>some (.int k (x.tmod y))
 | .eql=>some (.bool (decide (x=y)))
 | .neq=>some (.bool (!decide (x=y)))
 | .lss=>some (.bool (decide (x<y)))
 | .leq=>some (.bool (decide (x≤y)))
 | .gtr=>some (.bool (decide (y<x)))
 | .geq=>some (.bool (decide (y≤x)))
 | .shl=>none
 | .shr=>none
 | op=>DU op k x y
def iu:IntKind→IntKind→Bool
 | .i8,.i8 | .i16,.i16 | .i32,.i32 | .i64,.i64 | .u8,.u8 | .u16,.u16 | .u32,.u32 | .u64,.u64=>true
 | _,_=>false
def al:List Bool→List AV→List AV→Option Bool
 | [],[],[]=>some true
 | true::ks,.d (.int k a)::r,.d (.int j b)::s=>match iu k j with
  | true=>match decide (a=b) with
   | true=>al ks r s
   | false=>some false
  | false=>none
 | false::ks,.d (.bool a)::r,.d (.bool b)::s=>match a == b with
  | true=>al ks r s
  | false=>some false
 | _,_,_=>none
def md (op:BinOp) (k:IntKind) (a:Int) (j:IntKind) (b:Int):Option D :=
 match op with
 | .shl=>yH .shl k a b
 | .shr=>yH .shr k a b
 | op=>match iu k j with
  | true=>eS op k a b
  | false=>none
def bt (op:BinOp):AV→AV→Option AV
 | .d (.int k a),.d (.int j b)=>match md op k a j b with
  | some x=>some (.d x)
  | none=>none
 | .d (.str a),.d (.str b)=>match op with
  | .eql=>some (.bool (a == b))
  | .neq=>some (.bool (!(a == b)))
  | .add=>match Nat.ble (a.length+b.length) 4294967296 with
   | true=>some (.d (.str (a++b)))
   | false=>none
  | _=>none
 | _,_=>none
def amo (a b:Int):Int:=Int.casesOn (motive:=fun _=>Int→Int) a (fun m b=>Int.casesOn (motive:=fun _=>Int) b (fun n=>.ofNat (Nat.add m n)) (fun n=>Int.subNatNat m (Nat.succ n)))
 (fun m b=>Int.casesOn (motive:=fun _=>Int) b (fun n=>Int.subNatNat n (Nat.succ m)) (fun n=>.negSucc (Nat.succ (Nat.add m n)))) b
def amr (a b:Int):Int:=Int.casesOn (motive:=fun _=>Int→Int) a (fun m b=>Int.casesOn (motive:=fun _=>Int) b (fun n=>Bool.casesOn (motive:=fun _=>Int) (Nat.ble n m) (Int.ofNat m-Int.ofNat n) (.ofNat (Nat.sub m n))) (fun n=>.ofNat (Nat.add m (Nat.succ n))))
 (fun m b=>Int.negSucc m-b) b
def alK (a b:Int):Int:=Int.casesOn (motive:=fun _=>Int→Int) a (fun m b=>Int.casesOn (motive:=fun _=>Int) b (fun n=>.ofNat (Nat.mul m n)) (fun n=>Int.ofNat m*Int.negSucc n))
 (fun m b=>Int.negSucc m*b) b
def Tv (a b:Int):Bool:=Int.casesOn (motive:=fun _=>Int→Bool) a (fun m b=>Int.casesOn (motive:=fun _=>Bool) b (fun n=>Nat.ble m n) (fun _=>false))
 (fun m b=>Int.casesOn (motive:=fun _=>Bool) b (fun _=>true) (fun n=>Nat.ble n m)) b
def ieq (a b:Int):Bool:=Int.casesOn (motive:=fun _=>Int→Bool) a (fun m b=>Int.casesOn (motive:=fun _=>Bool) b (fun n=>Nat.beq m n) (fun _=>false))
 (fun m b=>Int.casesOn (motive:=fun _=>Bool) b (fun _=>false) (fun n=>Nat.beq m n)) b
def ZM (k:IntKind):Nat:=IntKind.casesOn (motive:=fun _=>Nat) k 127 32767 2147483647 9223372036854775807 255 65535 4294967295 18446744073709551615
def loN (k:IntKind):Nat:=IntKind.casesOn (motive:=fun _=>Nat) k 128 32768 2147483648 9223372036854775808 0 0 0 0
def knN (k:IntKind):Nat:=IntKind.casesOn (motive:=fun _=>Nat) k 0 1 2 3 4 5 6 7
def wq (n:Int) (k:IntKind):D:=Int.casesOn (motive:=fun _=>D) n (fun m=>Bool.casesOn (motive:=fun _=>D) (Nat.ble m (ZM k)) (.int k (k.wrap (.ofNat m))) (.int k (.ofNat m)))
 (fun m=>Bool.casesOn (motive:=fun _=>D) (Nat.ble (Nat.succ m) (loN k)) (.int k (k.wrap (.negSucc m))) (.int k (.negSucc m)))
abbrev BF:=BinOp→IntKind→Int→Int→Option AV
def Cd:BF:=fun op k a b=>bt op (.d (.int k a)) (.d (.int k b))
def auf:BF:=fun _ k a b=>some (.d (wq (amo a b) k))
def aug:BF:=fun _ k a b=>some (.d (wq (amr a b) k))
def au6:BF:=fun _ k a b=>some (.d (wq (alK a b) k))
def atT:BF:=fun _ _ a b=>some (.d (.bool (ieq a b)))
def auv:BF:=fun _ _ a b=>some (.d (.bool (Bool.casesOn (motive:=fun _=>Bool) (ieq a b) true false)))
def atQ:BF:=fun _ _ a b=>some (.d (.bool (Bool.casesOn (motive:=fun _=>Bool) (Tv b a) true false)))
def auH:BF:=fun _ _ a b=>some (.d (.bool (Tv a b)))
def atL:BF:=fun _ _ a b=>some (.d (.bool (Bool.casesOn (motive:=fun _=>Bool) (Tv a b) true false)))
def at3:BF:=fun _ _ a b=>some (.d (.bool (Tv b a)))
def alM (op:BinOp):BF:=BinOp.casesOn (motive:=fun _=>BF) op auf aug au6 Cd Cd Cd Cd Cd Cd Cd Cd atT auv atQ auH atL at3
def atU (k:IntKind) (a:Int) (op:BinOp) (y:D):Option AV:=D.casesOn (motive_1:=fun _=>IntKind→Int→BinOp→Option AV) y
 (fun j b k a op=>Bool.casesOn (motive:=fun _=>Option AV) (Nat.beq (knN k) (knN j)) (bt op (.d (.int k a)) (.d (.int j b))) (alM op op k a b))
 (fun _ _ _ _=>none) (fun _ _ _ _=>none) (fun _ _ _ _=>none) k a op
def arW (x:D) (op:BinOp) (y:AV):Option AV:=D.casesOn (motive_1:=fun _=>BinOp→AV→Option AV) x
 (fun k a op y=>AV.casesOn (motive_1:=fun _=>IntKind→Int→BinOp→Option AV) y (fun _ _ _=>none) (fun d k a op=>atU k a op d) (fun _ _ _=>none) (fun _ _ _ _ _ _=>none) (fun _ _ _ _=>none) (fun _ _ _ _=>none) (fun _ _ _ _=>none) (fun _ _ _=>none) (fun _ _ _ _ _=>none) (fun _ _ _ _ _ _=>none) (fun _ _ _ _ _=>none) (fun _ _ _ _ _ _=>none) (fun _ _ _ _ _ _=>none) (fun _ _ _=>none) (fun _ _ _ _=>none) k a op)
 (fun b op y=>bt op (.d (.bool b)) y) (fun s op y=>bt op (.d (.str s)) y) (fun xs op y=>bt op (.d (.lst xs)) y) op y
def aqG (op:BinOp) (x y:AV):Option AV:=AV.casesOn (motive_1:=fun _=>BinOp→AV→Option AV) x (fun _ _=>none) (fun d op y=>arW d op y) (fun _ _=>none) (fun _ _ _ _ _=>none) (fun _ _ _=>none) (fun _ _ _=>none) (fun _ _ _=>none) (fun _ _=>none) (fun _ _ _ _=>none) (fun _ _ _ _ _=>none) (fun _ _ _ _=>none) (fun _ _ _ _ _=>none) (fun _ _ _ _ _=>none) (fun _ _=>none) (fun _ _ _=>none) op y
theorem aiB (k j:IntKind):Nat.beq (knN k) (knN j)=iu k j:=by cases k<;>cases j<;>rfl
theorem an3 (a b:Int):amo a b=a+b:=by cases a<;>cases b<;>rfl
theorem an7 (a b:Int):amr a b=a-b:=by
 cases a with
 | ofNat m =>
  cases b with
  | ofNat n =>
   show Bool.casesOn (motive:=fun _=>Int) (Nat.ble n m) (Int.ofNat m-Int.ofNat n) (.ofNat (Nat.sub m n))=_
   by_cases h:n≤m
   ·rw[Nat.ble_eq_true_of_le h]
    show ((m-n:Nat):Int)=(m:Int)-(n:Int)
    omega
   ·rw[show Nat.ble n m=false by rw[←Bool.not_eq_true,Nat.ble_eq];exact h]
  | negSucc n=>rfl
 | negSucc m=>rfl
theorem aoq (a b:Int):alK a b=a*b:=by cases a<;>cases b<;>rfl
theorem RX (a b:Int):Tv a b=decide (a≤b):=by
 cases a with
 | ofNat m =>
  cases b with
  | ofNat n =>
   show Nat.ble m n=_
   rw[Bool.eq_iff_iff,Nat.ble_eq,decide_eq_true_eq];(try simp only[Int.ofNat_eq_natCast]);omega
  | negSucc n =>
   show false=_
   symm;rw[decide_eq_false_iff_not];intro h;simp only[Int.ofNat_eq_natCast]at h;omega
 | negSucc m =>
  cases b with
  | ofNat n =>
   show true=_
   symm;rw[decide_eq_true_eq];(try simp only[Int.ofNat_eq_natCast]);omega
  | negSucc n =>
   show Nat.ble n m=_
   rw[Bool.eq_iff_iff,Nat.ble_eq,decide_eq_true_eq];(try simp only[Int.ofNat_eq_natCast]);omega
theorem aj1 (a b:Int):ieq a b=decide (a=b):=by
 cases a with
 | ofNat m =>
  cases b with
  | ofNat n =>
   show Nat.beq m n=_
   rw[Bool.eq_iff_iff,Nat.beq_eq,decide_eq_true_eq];(try simp only[Int.ofNat_eq_natCast]);omega
  | negSucc n =>
   show false=_
   symm;rw[decide_eq_false_iff_not];intro h;simp only[Int.ofNat_eq_natCast]at h;omega
 | negSucc m =>
  cases b with
  | ofNat n =>
   show false=_
   symm;rw[decide_eq_false_iff_not];intro h;simp only[Int.ofNat_eq_natCast]at h;omega
  | negSucc n =>
   show Nat.beq m n=_
   rw[Bool.eq_iff_iff,Nat.beq_eq,decide_eq_true_eq];(try simp only[Int.ofNat_eq_natCast]);omega
theorem I9 {k:IntKind}{n:Int}(h:-(loN k:Int)≤n) (h2:n≤ZM k):k.wrap n=n:=by
 cases k<;>simp only[loN,ZM]at h h2<;>simp only[IntKind.wrap,IntKind.bits,IntKind.signed]<;>simp<;>omega
theorem aoV (k:IntKind) (n:Int):wr k n=k.wrap n:=by
 have H:∀ lo hi:Int,(lo≤n→n≤hi→k.wrap n=n)→iV lo hi k n=k.wrap n:=by
  intro lo hi h
  unfold iV
  split
  ·rename_i e
   simp only[Bool.and_eq_true,decide_eq_true_eq]at e
   exact(h e.1 e.2).symm
  ·rfl
 cases k<;>simp only[wr]
 all_goals exact H _ _ fun h1 h2=>I9 (by simpa [loN] using h1) (by simpa [ZM] using h2)
theorem ahK (k:IntKind) (n:Int):wq n k=.int k (wr k n):=by
 rw[aoV]
 cases n with
 | ofNat m =>
  show Bool.casesOn (motive:=fun _=>D) (Nat.ble m (ZM k)) (.int k (k.wrap (.ofNat m))) (.int k (.ofNat m))=_
  by_cases h:m≤ZM k
  ·rw[Nat.ble_eq_true_of_le h,I9]
   ·have:(0:Int)≤Int.ofNat m:=Int.natCast_nonneg m
    omega
   ·show (m:Int)≤ZM k
    omega
  ·rw[show Nat.ble m (ZM k)=false by rw[←Bool.not_eq_true,Nat.ble_eq];exact h]
 | negSucc m =>
  show Bool.casesOn (motive:=fun _=>D) (Nat.ble (Nat.succ m) (loN k)) (.int k (k.wrap (.negSucc m))) (.int k (.negSucc m))=_
  by_cases h:m+1≤loN k
  ·rw[Nat.ble_eq_true_of_le h,I9]
   ·omega
   ·omega
  ·rw[show Nat.ble (Nat.succ m) (loN k)=false by rw[←Bool.not_eq_true,Nat.ble_eq];exact h]
theorem amE (b:Bool):Bool.casesOn (motive:=fun _=>Bool) b true false=!b:=by cases b<;>rfl
theorem jI (k:IntKind):iu k k=true:=by cases k<;>rfl
theorem ao5 (op:BinOp) (k:IntKind) (a b:Int):alM op op k a b=bt op (.d (.int k a)) (.d (.int k b)):=by
 cases op
 case add=>show some (AV.d (wq (amo a b) k))=_;rw[ahK,an3];simp only[bt,md,jI,eS]
 case sub=>show some (AV.d (wq (amr a b) k))=_;rw[ahK,an7];simp only[bt,md,jI,eS]
 case mul=>show some (AV.d (wq (alK a b) k))=_;rw[ahK,aoq];simp only[bt,md,jI,eS]
 case eql=>show some (AV.d (.bool (ieq a b)))=_;rw[aj1];simp only[bt,md,jI,eS]
 case neq=>show some (AV.d (.bool (Bool.casesOn (motive:=fun _=>Bool) (ieq a b) true false)))=_;rw[amE,aj1];simp only[bt,md,jI,eS]
 case lss=>show some (AV.d (.bool (Bool.casesOn (motive:=fun _=>Bool) (Tv b a) true false)))=_;rw[amE,RX];simp only[bt,md,jI,eS];rw[←decide_not];simp only[Int.not_le]
 case leq=>show some (AV.d (.bool (Tv a b)))=_;rw[RX];simp only[bt,md,jI,eS]
 case gtr=>show some (AV.d (.bool (Bool.casesOn (motive:=fun _=>Bool) (Tv a b) true false)))=_;rw[amE,RX];simp only[bt,md,jI,eS];rw[←decide_not];simp only[Int.not_le]
 case geq=>show some (AV.d (.bool (Tv b a)))=_;rw[RX];simp only[bt,md,jI,eS]
 all_goals rfl
theorem K8 (op:BinOp) (x y:AV):aqG op x y=bt op x y:=by
 cases x<;>try rfl
 rename_i d
 cases d<;>try rfl
 rename_i k a
 cases y<;>try rfl
 rename_i e
 cases e<;>try rfl
 rename_i j b
 show Bool.casesOn (motive:=fun _=>Option AV) (Nat.beq (knN k) (knN j)) (bt op (.d (.int k a)) (.d (.int j b))) (alM op op k a b)=_
 rw[aiB]
 cases h:iu k j with
 | false=>rfl
 | true =>
  have:k=j:=by revert h;cases k<;>cases j<;>simp[iu]
  subst this
  exact ao5 op k a b
def Ib (op:UnOp):AV→Option AV
 | .d (.int k n)=>match op with
  | .neg=>some (.int k (wr k (0-n)))
  | .xor=>match DU .xor k (if k.signed then -1 else k.max) n with
   | some x=>some (.d x)
   | none=>none
  | _=>none
 | .d (.bool b)=>match op with
  | .not=>some (.bool !b)
  | _=>none
 | _=>none
def ur (isMax:Bool):AV→AV→Option AV
 | .d (.int k a),.d (.int j b)=>match iu k j with
  | true=>match (if isMax then decide (a<b) else decide (b<a)) with
   | true=>some (.int k b)
   | false=>some (.int k a)
  | false=>none
 | _,_=>none
def nb (isMax:Bool):AV→List AV→Option AV
 | v,[]=>some v
 | v,x::r=>match ur isMax v x with
  | some v=>nb isMax v r
  | none=>none
def aF:Nat:=4294967296
def bz (v:AV) (top:Nat):Option Nat :=
 match v with
 | .d (.int _ (.ofNat n))=>match Nat.ble n top with
  | true=>some n
  | false=>none
 | _=>none
def lY (lo:Option AV) (h m:Nat):Option (Nat×Nat×Nat) :=
 match lo with
 | none=>some (0,h,m)
 | some v=>match bz v h with
  | some l=>some (l,h,m)
  | none=>none
def vY (len:Nat) (lo hi mx:Option AV):Option (Nat×Nat×Nat) :=
 let m:Option Nat:=match mx with
  | none=>some len
  | some v=>bz v len
 match m with
 | none=>none
 | some m =>
  let h:Option Nat:=match hi with
   | none=>match mx with
    | none=>some len
    | some _=>none
   | some v=>bz v m
  match h with
  | none=>none
  | some h=>lY lo h m
def E8 (m:Nat):List (List D)→Bool
 | []=>true
 | e::_=>Nat.beq e.length m
def okSl (h:ac) (m:Nat):AV→Bool
 | .sl id _ _=>match get h id with
  | some (.arr k _)=>Nat.beq k m
  | some (.cells _)=>Nat.beq m 1
  | _=>false
 | _=>true
def nq (m:Nat) (x:AV) (lo hi mx:Option AV):Option AV :=
 match lenOf x with
 | none=>none
 | some len=>match vY len lo hi mx with
  | none=>none
  | some (l,h,_)=>match x with
   | .d (.lst xs)=>match E8 m xs with
    | true=>some (.d (.lst (sub xs l (h-l))))
    | false=>none
   | .nl=>some .nl
   | .own false k xs=>match Nat.beq k m with
    | true=>match Nat.beq h len with
     | true=>some (.own false k (sub xs l (h-l)))
     | false=>some (.d (.lst (sub xs l (h-l))))
    | false=>none
   | .sl id off _=>some (.sl id (off+l) (h-l))
   | _=>none
def qS:AV→Bool
 | .agg _=>true
 | v=>au v
def ez:List AV→List (Nat×Nat×AV)→Option (List AV)
 | cs,[]=>some cs
 | cs,(off,n,v)::r=>match Nat.beq v.cells.length n && qS v && Nat.ble (off+n) cs.length with
  | true=>ez (ai cs off v.cells) r
  | false=>none
def jX:List (Nat×Nat×Rd)→List AV→List (Nat×Nat×AV)
 | (a,b,_)::r,v::s=>(a,b,v)::jX r s
 | _,_=>[]
def iP:List (Nat×Nat×Rd)→List Rd
 | []=>[]
 | (_,_,x)::r=>x::iP r
def dX (m:Nat):List AV→Option (List (List D))
 | []=>some []
 | v::r=>match Nat.beq v.cells.length m with
  | true=>match hU v.cells with
   | some e=>match dX m r with
    | some es=>some (e::es)
    | none=>none
   | none=>none
  | false=>none
def cq (n:Nat):List (List D)→Bool
 | []=>true
 | e::r=>match Nat.beq e.length n with
  | true=>cq n r
  | false=>false
def lH:List (List D)→Option (List UInt8)
 | []=>some []
 | [.int .u8 (.ofNat n)]::r=>match lH r with
  | some s=>some (n.toUInt8::s)
  | none=>none
 | _=>none
def xQ:List UInt8→Nat→Nat→Int
 | [],_,_=>-1
 | b::l,c,i=>match Nat.beq b.toNat c with
  | true=>.ofNat i
  | false=>xQ l c (i+1)
def indexByte (c:Int) (xs:List (List D)) (i:Nat):Option Int :=
 match lH xs with
 | some s=>some (xQ s (c.toNat % 256) i)
 | none=>none
structure bn where
 code:VC→St→Option (aU×St)
 call:FuncId→List AV→HS→Option (AV×HS)
def UM (v:AV):AV:=match io v with
 | true=>iq v
 | false=>match lenOf v with
  | some n=>.gl n
  | none=>.junk
def Fq:AV→AV
 | .agg cs=>.agg (cs.map UM)
 | v=>UM v
def Cp:AV→AV
 | .tup vs=>.tup (vs.map Fq)
 | v=>Fq v
def bN (r:bn) (f:FuncId) (args:List AV) (h:ac):Option AV :=
 match viewArgs h args with
 | none=>none
 | some ds=>match r.call f ds ⟨[],0⟩ with
  | none=>none
  | some (v,hs)=>match d9 hs.heap v with
   | none=>none
   | some v=>match args.any kJ with
    | false=>some v
    | true=>match ee v with
     | true=>some v
     | false=>some (Cp v)
def mL:ak→List Nat→List AV→Option ak
 | e,[],[]=>some e
 | e,i::is,v::vs=>mL (put e i v) is vs
 | _,_,_=>none
def lC (r:bn) (l:Nat) (args:List AV) (hs:HS):Option (AV×HS) :=
 match get hs.heap l with
 | some (.loop snap params assign body false none) =>
  match mL snap params args with
  | none=>none
  | some e=>match r.code assign ⟨e,hs⟩ with
   | some (.normal,st)=>match get st.hs.heap l with
    | some (.loop snap params assign body2 false none) =>
     match r.code body ⟨st.env,⟨put st.hs.heap l (.loop snap params assign body2 true none),st.hs.next⟩⟩ with
     | none=>none
     | some (o,st)=>match get st.hs.heap l with
      | some (.loop snap params assign body true none) =>
       match o with
       | .normal=>some (.bool true,⟨put st.hs.heap l (.loop snap params assign body false none),st.hs.next⟩)
       | o=>some (.bool false,⟨put st.hs.heap l (.loop snap params assign body false (some o)),st.hs.next⟩)
      | _=>none
    | _=>none
   | _=>none
 | _=>none
def aP (r:bn) (f:AV) (args:List AV) (hs:HS):Option (AV×HS) :=
 match f with
 | .fn g first caps=>r.call g (first++(args++caps)) hs
 | .yield l=>lC r l args hs
 | _=>none
def zw (hs:HS) (o:Obj):Nat×HS:=(hs.next,⟨put hs.heap hs.next o,hs.next+1⟩)
def iQ (hs:HS):AV→AV×HS
 | .own true m xs=>match Nat.beq m 0 with
  | true=>(.own true m xs,hs)
  | false=>(.sl hs.next 0 xs.length,⟨put hs.heap hs.next (.arr m xs),hs.next+1⟩)
 | v=>(v,hs)
def eM:AV→AV
 | .own _ m xs=>.own false m xs
 | v=>v
def nJ:AV→AV
 | .agg cs=>.agg (cs.map eM)
 | v=>eM v
def firm (v:AV):AV:=AV.casesOn (motive_1:=fun _=>AV) v .junk (fun x=>.d x) .nl (fun _ m xs=>.own false m xs) (fun n=>.gl n) (fun cs=>.agg (cs.map eM)) (fun vs=>.tup (vs.map nJ))
 .nilp (fun a b=>.ptr a b) (fun a b c=>.pel a b c) (fun a b=>.pim a b) (fun a b c=>.sl a b c) (fun a b c=>.fn a b c) .nilf (fun a=>.yield a)
def ig (hs:HS) (o:Nat):AV→AV×HS
 | .agg cs=>match cs[o]? with
  | some v=>(.agg (cs.set o (iQ hs v).1),(iQ hs v).2)
  | none=>(.agg cs,hs)
 | v=>iQ hs v
def jY (hs:HS) (p:Nat×Nat):AV→AV×HS
 | .tup vs=>match vs[p.1]? with
  | some v=>(.tup (vs.set p.1 (ig hs p.2 v).1),(ig hs p.2 v).2)
  | none=>(.tup vs,hs)
 | v=>ig hs p.2 v
def bE:List (Nat×Nat)→AV→HS→AV×HS
 | [],v,hs=>(v,hs)
 | p::r,v,hs=>bE r (jY hs p v).1 (jY hs p v).2
def D7 (h:ac):AV→AV×ac
 | .sl id off len=>match get h id with
  | some (.arr m xs)=>match Nat.ble (off+len) xs.length with
   | true=>(.own false m (sub xs off len),del h id)
   | false=>(.sl id off len,h)
  | _=>(.sl id off len,h)
 | v=>(v,h)
def mX:List Nat→List AV→ac→List AV×ac
 | [],cs,h=>(cs,h)
 | o::r,cs,h=>match cs[o]? with
  | some v=>mX r (cs.set o (D7 h v).1) (D7 h v).2
  | none=>mX r cs h
def bF (m:Nat) (h:ac) (a:AV) (ys:List (List D)):Option (AV×ac) :=
 match Nat.ble ys.length aF with
 | false=>none
 | true=>match a with
  | .nl=>some ((match ys with | []=>.nl | ys=>.own true m ys),h)
  | .own _ k xs=>match Nat.beq k m && Nat.ble (xs.length+ys.length) aF with
   | true=>some (.own false m (xs++ys),h)
   | false=>none
  | .sl id off len=>match get h id with
   | some (.arr k xs)=>match Nat.beq k m && Nat.ble (off+len) xs.length && Nat.ble (len+ys.length) aF with
    | true=>some (.own true m (sub xs off len++ys),del h id)
    | false=>none
   | _=>none
  | _=>none
def eQ:AV→Option Nat
 | .d (.int _ (.ofNat n))=>some n
 | _=>none
def KL (x:Rd) (st:St):Option (AV×St) :=
 match rd st.env x with
 | some (v,e)=>some (v,⟨e,st.hs⟩)
 | none=>none
def fo (c:Rd) (a:Rd) (b:Rd) (st:St):Option (AV×St) :=
 match rd st.env c with
 | some (.d (.bool t),e)=>match rd e (match t with | true=>a | false=>b) with
  | some (v,e)=>some (v,⟨e,st.hs⟩)
  | none=>none
 | _=>none
def tR (zs:List AV) (st:St):Option (AV×St) :=
 some (.ptr st.hs.next 0,⟨st.env,(zw st.hs (.cells zs)).2⟩)
def KD (x:Rd) (st:St):Option (AV×St) :=
 match rd st.env x with
 | some (v,e)=>match v.cells.all au with
  | true=>some (.ptr st.hs.next 0,⟨e,(zw st.hs (.cells v.cells)).2⟩)
  | false=>none
 | none=>none
def uW (zs:List AV) (ps:List (Nat×Nat×Rd)) (st:St):Option (AV×St) :=
 match rdAll st.env (iP ps) with
 | some (vs,e)=>match ez zs (jX ps vs) with
  | some cs=>some (.agg cs,⟨e,st.hs⟩)
  | none=>none
 | none=>none
def FC (m:Nat) (ps:List Rd) (st:St):Option (AV×St) :=
 match rdAll st.env ps with
 | some (vs,e)=>match dX m vs with
  | some xs=>some (.own true m xs,⟨e,st.hs⟩)
  | none=>none
 | none=>none
def UF (m:Nat) (ps:List Rd) (st:St):Option (AV×St) :=
 match rdAll st.env ps with
 | some (vs,e)=>match vs.all (fun v=>Nat.beq v.cells.length m && v.cells.all au) with
  | true=>some (.sl st.hs.next 0 vs.length,⟨e,(zw st.hs (.cells (vs.flatMap AV.cells))).2⟩)
  | false=>none
 | none=>none
def tP (n:Option Nat) (take:Nat) (p:Rd) (st:St):Option (AV×St) :=
 match rd st.env p with
 | some (v,e)=>match loadAt st.hs.heap n take v with
  | some (v,h)=>some (v,⟨e,⟨h,st.hs.next⟩⟩)
  | none=>none
 | none=>none
def ahN (n:Nat) (p:Rd) (x:Rd) (st:St):Option (AV×St) :=
 match rd st.env p with
 | some (p,e)=>match rd e x with
  | some (v,e)=>match storeAt st.hs.heap n p v with
   | some h=>some (.junk,⟨e,⟨h,st.hs.next⟩⟩)
   | none=>none
  | none=>none
 | none=>none
def yI (x:Rd) (st:St):Option (AV×St) :=
 match rd st.env x with
 | some (v,e)=>match v with
  | .ptr .. | .pel .. | .pim .. | .fn .. | .yield ..=>some (v,⟨e,st.hs⟩)
  | _=>none
 | none=>none
def F8 (op:BinOp) (x:Rd) (y:Rd) (st:St):Option (AV×St) :=
 match rd st.env x with
 | some (a,e)=>match rd e y with
  | some (b,e)=>match aqG op a b with
   | some v=>some (v,⟨e,st.hs⟩)
   | none=>none
  | none=>none
 | none=>none
def E4 (neg:Bool) (x y:Rd) (st:St):Option (AV×St) :=
 match rd st.env x with
 | some (a,e)=>match rd e y with
  | some (b,e)=>match a,b with
   | .d (.bool a),.d (.bool b)=>some (.bool (match neg with | true=>!(a == b) | false=>a == b),⟨e,st.hs⟩)
   | _,_=>none
  | none=>none
 | none=>none
def EV (neg:Bool) (ks:List Bool) (x y:Rd) (st:St):Option (AV×St) :=
 match rd st.env x with
 | some (a,e)=>match rd e y with
  | some (b,e)=>match a,b with
   | .agg a,.agg b=>match al ks a b with
    | some t=>some (.bool (match neg with | true=>!t | false=>t),⟨e,st.hs⟩)
    | none=>none
   | _,_=>none
  | none=>none
 | none=>none
def Xn (op:UnOp) (x:Rd) (st:St):Option (AV×St) :=
 match rd st.env x with
 | some (a,e)=>match Ib op a with
  | some v=>some (v,⟨e,st.hs⟩)
  | none=>none
 | none=>none
def A8 (k:IntKind) (x:Rd) (st:St):Option (AV×St) :=
 match rd st.env x with
 | some (.d (.int _ n),e)=>some (.int k (wr k n),⟨e,st.hs⟩)
 | _=>none
def En (x:Rd) (st:St):Option (AV×St) :=
 match rd st.env x with
 | some (v,e)=>match elems st.hs.heap v with
  | some xs=>match lH xs with
   | some s=>some (.d (.str s),⟨e,st.hs⟩)
   | none=>none
  | none=>none
 | none=>none
def zL (f:FuncId) (first:List Rd) (caps:List Rd) (st:St):Option (AV×St) :=
 match rdAll st.env first with
 | some (a,e)=>match rdAll e caps with
  | some (c,e)=>some (.fn f (shareAll a) (shareAll c),⟨e,st.hs⟩)
  | none=>none
 | none=>none
def gb (z:List D) (len:Rd) (cap:Rd) (st:St):Option (AV×St) :=
 match rd st.env len with
 | some (n,e)=>match rd e cap with
  | some (c,e)=>match bz c aF with
   | some c=>match bz n c with
    | some n=>some (.own true z.length (List.replicate n z),⟨e,st.hs⟩)
    | none=>none
   | none=>none
  | none=>none
 | none=>none
def Ed (m:Nat) (x:Rd) (lo:Option Rd) (hi:Option Rd) (mx:Option Rd) (st:St):Option (AV×St) :=
 match rd st.env x with
 | some (v,e)=>match rdOpt e lo with
  | some (l,e)=>match rdOpt e hi with
   | some (h,e)=>match rdOpt e mx with
    | some (k,e)=>match okSl st.hs.heap m v with
     | true=>match nq m v l h k with
      | some v=>some (v,⟨e,st.hs⟩)
      | none=>none
     | false=>none
    | none=>none
   | none=>none
  | none=>none
 | none=>none
def Ey (hp:ac) (n id off:Nat) (lo hi mx:Option AV):Option AV :=
 match get hp id with
 | some (.cells cs)=>match Nat.ble (off+n) cs.length with
  | true=>match vY n lo hi mx with
   | some (l,h,_)=>some (.sl id (off+l) (h-l))
   | none=>none
  | false=>none
 | _=>none
def KJ (n:Nat) (x:Rd) (lo:Option Rd) (hi:Option Rd) (mx:Option Rd) (st:St):Option (AV×St) :=
 match rd st.env x with
 | some (.ptr id off,e)=>match rdOpt e lo with
  | some (l,e)=>match rdOpt e hi with
   | some (h,e)=>match rdOpt e mx with
    | some (k,e)=>match Ey st.hs.heap n id off l h k with
     | some v=>some (v,⟨e,st.hs⟩)
     | none=>none
    | none=>none
   | none=>none
  | none=>none
 | _=>none
def W0 (off:Nat) (p:Rd) (st:St):Option (AV×St) :=
 match rd st.env p with
 | some (p,e)=>match eh off p with
  | some v=>some (v,⟨e,st.hs⟩)
  | none=>none
 | none=>none
def j9 (n:Option Nat) (cs:List AV) (off:Nat):Option AV :=
 match n with
 | none=>cs[off]?
 | some n=>match Nat.ble (off+n) cs.length with
  | true=>some (.agg (sub cs off n))
  | false=>none
def Jv (agg:Bool) (n:Nat):Option Nat :=
 match agg with
 | true=>some n
 | false=>none
def F5 (off:Nat) (n:Option Nat) (x:Rd) (st:St):Option (AV×St) :=
 match rd st.env x with
 | some (.agg cs,e)=>match j9 n cs off with
  | some v=>some (v,⟨e,st.hs⟩)
  | none=>none
 | _=>none
def acF (n:Nat) (x:Rd) (i:Rd) (st:St):Option (AV×St) :=
 match rd st.env x with
 | some (v,e)=>match rd e i with
  | some (i,e)=>match eQ i with
   | some i=>match v with
    | .sl id off len=>match Nat.ble len i with
     | true=>none
     | false=>match get st.hs.heap id with
      | some (.arr m _)=>match Nat.beq m n with
       | true=>some (.pel id (off+i) 0,⟨e,st.hs⟩)
       | false=>none
      | some (.cells _)=>match Nat.beq n 1 with
       | true=>some (.ptr id (off+i),⟨e,st.hs⟩)
       | false=>none
      | _=>none
    | v=>match elems st.hs.heap v with
     | some xs=>match xs[i]? with
      | some x=>match Nat.beq x.length n with
       | true=>some (.pim x 0,⟨e,st.hs⟩)
       | false=>none
      | none=>none
     | none=>none
   | none=>none
  | none=>none
 | none=>none
def EW (len:Nat) (n:Nat) (p:Rd) (i:Rd) (st:St):Option (AV×St) :=
 match rd st.env p with
 | some (p,e)=>match rd e i with
  | some (i,e)=>match eQ i with
   | some i=>match Nat.ble len i with
    | true=>none
    | false=>match eh (i*n) p with
     | some v=>some (v,⟨e,st.hs⟩)
     | none=>none
   | none=>none
  | none=>none
 | none=>none
def Qt (len:Nat) (n:Nat) (agg:Bool) (x:Rd) (i:Rd) (st:St):Option (AV×St) :=
 match rd st.env x with
 | some (.agg cs,e)=>match rd e i with
  | some (i,e)=>match eQ i with
   | some i=>match Nat.ble len i with
    | true=>none
    | false=>match j9 (Jv agg n) cs (i*n) with
     | some v=>some (v,⟨e,st.hs⟩)
     | none=>none
   | none=>none
  | none=>none
 | _=>none
def FZ (x:Rd) (i:Rd) (st:St):Option (AV×St) :=
 match rd st.env x with
 | some (.d (.str s),e)=>match rd e i with
  | some (i,e)=>match eQ i with
   | some i=>match s[i]? with
    | some b=>some (.int .u8 (.ofNat b.toNat),⟨e,st.hs⟩)
    | none=>none
   | none=>none
  | none=>none
 | _=>none
def aik (h:ac) (v c:AV):Option AV :=
 match c with
 | .d (.int .u8 n)=>match elems h v with
  | some xs=>match indexByte n xs 0 with
   | some r=>some (.int .i64 r)
   | none=>none
  | none=>none
 | _=>none
def adO (x:Rd) (c:Rd) (st:St):Option (AV×St) :=
 match rd st.env x with
 | some (v,e)=>match rd e c with
  | some (c,e)=>match aik st.hs.heap v c with
   | some r=>some (r,⟨e,st.hs⟩)
   | none=>none
  | none=>none
 | none=>none
def qZ (j:Nat) (mv:Bool) (i:Nat) (st:St):Option (AV×St) :=
 match get st.env j with
 | some (.tup vs)=>match vs[i]? with
  | some v=>match mv with
   | true=>some (v,⟨put st.env j (.tup (vs.set i .junk)),st.hs⟩)
   | false=>some (share v,st)
  | none=>none
 | _=>none
def KX (x:Rd) (st:St):Option (AV×St) :=
 match rd st.env x with
 | some (v,e)=>match lenOf v with
  | some n=>some (.int .i64 (.ofNat n),⟨e,st.hs⟩)
  | none=>none
 | none=>none
def GQ (x:Rd) (st:St):Option (AV×St) :=
 match rd st.env x with
 | some (.nl,e)=>some (.int .i64 (.ofNat 0),⟨e,st.hs⟩)
 | _=>none
def xY (m:Nat) (x:Rd) (y:Rd) (st:St):Option (AV×St) :=
 match rd st.env x with
 | some (a,e)=>match rd e y with
  | some (b,e)=>match elems st.hs.heap b with
   | some ys=>match cq m ys with
    | true=>match bF m st.hs.heap a ys with
     | some (v,h)=>some (v,⟨e,⟨h,st.hs.next⟩⟩)
     | none=>none
    | false=>none
   | none=>none
  | none=>none
 | none=>none
def aei (z:List D) (x:Rd) (n:Rd) (st:St):Option (AV×St) :=
 match rd st.env x with
 | some (a,e)=>match rd e n with
  | some (n,e)=>match bz n aF with
   | some n=>match bF z.length st.hs.heap a (List.replicate n z) with
    | some (v,h)=>some (v,⟨e,⟨h,st.hs.next⟩⟩)
    | none=>none
   | none=>none
  | none=>none
 | none=>none
def Ti (m:Nat) (x:Rd) (y:Rd) (st:St):Option (AV×St) :=
 match rd st.env x with
 | some (a,e)=>match rd e y with
  | some (b,e)=>match elems st.hs.heap b with
   | some ys=>match a with
    | .sl id off len=>match get st.hs.heap id with
     | some (.arr k xs)=>match cq m ys && Nat.beq k m && Nat.ble (off+len) xs.length with
      | true=>some (.int .i64 (.ofNat (min len ys.length)),⟨e,⟨put st.hs.heap id (.arr k (ai xs off (ys.take len))),st.hs.next⟩⟩)
      | false=>none
     | _=>none
    | _=>match lenOf a with
     | some 0=>some (.int .i64 (.ofNat 0),⟨e,st.hs⟩)
     | _=>none
   | none=>none
  | none=>none
 | none=>none
def KU (z:List D) (x:Rd) (st:St):Option (AV×St) :=
 match rd st.env x with
 | some (.sl id off len,e)=>match get st.hs.heap id with
  | some (.arr k xs)=>match Nat.beq k z.length && Nat.ble (off+len) xs.length with
   | true=>some (.tup [],⟨e,⟨put st.hs.heap id (.arr k (ai xs off (List.replicate len z))),st.hs.next⟩⟩)
   | false=>none
  | _=>none
 | _=>none
def pU (isMax:Bool) (xs:List Rd) (st:St):Option (AV×St) :=
 match rdAll st.env xs with
 | some (.d (.int k n)::vs,e)=>match nb isMax (.d (.int k n)) vs with
  | some v=>some (v,⟨e,st.hs⟩)
  | none=>none
 | _=>none
def wb (r:bn) (f:FuncId) (args:List Rd) (st:St):Option (AV×St) :=
 match rdAll st.env args with
 | some (vs,e)=>match bN r f vs st.hs.heap with
  | some v=>some (v,⟨e,st.hs⟩)
  | none=>none
 | none=>none
def tQ (r:bn) (f:FuncId) (args:List Rd) (st:St):Option (AV×St) :=
 match rdAll st.env args with
 | some (vs,e)=>match r.call f vs st.hs with
  | some (v,hs)=>some (v,⟨e,hs⟩)
  | none=>none
 | none=>none
def uX (r:bn) (f:Rd) (args:List Rd) (st:St):Option (AV×St) :=
 match rd st.env f with
 | some (fv,e)=>match rdAll e args with
  | some (vs,e)=>match aP r fv vs st.hs with
   | some (v,hs)=>some (v,⟨e,hs⟩)
   | none=>none
  | none=>none
 | none=>none
def ah7 (st:St):Option (AV×St) :=
 none
def aeb (is:List Nat) (st:St):Option (AV×St) :=
 some (.tup [],⟨is.foldl del st.env,st.hs⟩)
def delAll:ac→List Nat→ac
 | h,[]=>h
 | h,i::r=>delAll (del h i) r
def AM:List AV→List Nat
 | []=>[]
 | .ptr id _::r=>id::AM r
 | _::r=>AM r
def R4 (i:Nat) (st:St):Option (AV×St) :=
 match get st.env i with
 | some (.ptr id _)=>some (.tup [],⟨del st.env i,⟨del st.hs.heap id,st.hs.next⟩⟩)
 | some (.fn _ _ caps)=>some (.tup [],⟨del st.env i,⟨delAll st.hs.heap (AM caps),st.hs.next⟩⟩)
 | _=>some (.tup [],st)
def ama (i:Nat) (m:Nat) (st:St):Option (AV×St) :=
 match get st.env i with
 | some .nl=>some (.tup [],⟨put st.env i (.own false m []),st.hs⟩)
 | _=>some (.tup [],st)
def ahl (i:Nat) (st:St):Option (AV×St) :=
 match get st.env i with
 | some v=>some (.tup [],⟨put st.env i (D7 st.hs.heap v).1,⟨(D7 st.hs.heap v).2,st.hs.next⟩⟩)
 | none=>none
def adT (i:Nat) (offs:List Nat) (st:St):Option (AV×St) :=
 match get st.env i with
 | some (.agg cs)=>some (.tup [],⟨put st.env i (.agg (mX offs cs st.hs.heap).1),⟨(mX offs cs st.hs.heap).2,st.hs.next⟩⟩)
 | _=>none
def aY (o:jq):bn→St→Option (AV×St) :=
 jq.casesOn (motive:=fun _=>bn→St→Option (AV×St)) o
  (fun x=>fun _ st=>KL x st)
  (fun c a b=>fun _ st=>fo c a b st)
  (fun zs=>fun _ st=>tR zs st)
  (fun x=>fun _ st=>KD x st)
  (fun zs ps=>fun _ st=>uW zs ps st)
  (fun m ps=>fun _ st=>FC m ps st)
  (fun m ps=>fun _ st=>UF m ps st)
  (fun n take p=>fun _ st=>tP n take p st)
  (fun n p x=>fun _ st=>ahN n p x st)
  (fun x=>fun _ st=>yI x st)
  (fun op x y=>fun _ st=>F8 op x y st)
  (fun neg x y=>fun _ st=>E4 neg x y st)
  (fun neg ks x y=>fun _ st=>EV neg ks x y st)
  (fun op x=>fun _ st=>Xn op x st)
  (fun k x=>fun _ st=>A8 k x st)
  (fun x=>fun _ st=>En x st)
  (fun f first caps=>fun _ st=>zL f first caps st)
  (fun z len cap=>fun _ st=>gb z len cap st)
  (fun m x lo hi mx=>fun _ st=>Ed m x lo hi mx st)
  (fun n x lo hi mx=>fun _ st=>KJ n x lo hi mx st)
  (fun off p=>fun _ st=>W0 off p st)
  (fun off n x=>fun _ st=>F5 off n x st)
  (fun n x i=>fun _ st=>acF n x i st)
  (fun len n p i=>fun _ st=>EW len n p i st)
  (fun len n agg x i=>fun _ st=>Qt len n agg x i st)
  (fun x i=>fun _ st=>FZ x i st)
  (fun x c=>fun _ st=>adO x c st)
  (fun j mv i=>fun _ st=>qZ j mv i st)
  (fun x=>fun _ st=>KX x st)
  (fun x=>fun _ st=>GQ x st)
  (fun m x y=>fun _ st=>xY m x y st)
  (fun z x n=>fun _ st=>aei z x n st)
  (fun m x y=>fun _ st=>Ti m x y st)
  (fun z x=>fun _ st=>KU z x st)
  (fun isMax xs=>fun _ st=>pU isMax xs st)
  (fun f args=>fun r st=>wb r f args st)
  (fun f args=>fun r st=>tQ r f args st)
  (fun f args=>fun r st=>uX r f args st)
  (fun _ st=>ah7 st)
  (fun is=>fun _ st=>aeb is st)
  (fun i=>fun _ st=>R4 i st)
  (fun i m=>fun _ st=>ama i m st)
  (fun i=>fun _ st=>ahl i st)
  (fun i offs=>fun _ st=>adT i offs st)
def aN (dst:Option Nat) (v:AV) (st:St):St :=
 match dst with
 | some d=>⟨put st.env d v,st.hs⟩
 | none=>st
def cZ (r:bn) (i:VI) (st:St):Option St :=
 match aY i.op r st with
 | some (v,st)=>match i.th with
  | []=>some (aN i.dst (firm v) st)
  | th=>some (aN i.dst (firm (bE th v st.hs).1) ⟨st.env,(bE th v st.hs).2⟩)
 | none=>none
def aT (r:bn) (i:VI) (st:St):Option St :=
 match i.guard with
 | none=>cZ r i st
 | some (s,want)=>match get st.env s with
  | some (.d (.bool b))=>match b == want with
   | true=>cZ r i st
   | false=>some (aN i.dst (.tup []) st)
  | some (.tup [])=>some (aN i.dst (.tup []) st)
  | _=>none
def fe (r:bn):List VI→St→Option St
 | [],st=>some st
 | i::l,st=>match aT r i st with
  | some st=>fe r l st
  | none=>none
def lV (r:bn) (vs:List VI):List Nat→St→Option St
 | [],st=>some st
 | i::l,st=>match vs[i]? with
  | none=>none
  | some v=>match aT r v st with
   | none=>none
   | some st=>lV r vs l st
def bR (k:Nat):List Nat→Bool
 | []=>false
 | a::r=>match Nat.beq a k with
  | true=>true
  | false=>bR k r
mutual
def rT:AV→List Nat
 | .ptr id _=>[id]
 | .pel id _ _=>[id]
 | .sl id _ _=>[id]
 | .fn _ first caps=>idsAll first++idsAll caps
 | .agg cs=>idsAll cs
 | .tup vs=>idsAll vs
 | _=>[]
def idsAll:List AV→List Nat
 | []=>[]
 | v::r=>rT v++idsAll r
end
def Ku (e:ak):List Nat→List Nat
 | []=>[]
 | s::r=>match get e s with
  | some v=>rT v++Ku e r
  | none=>Ku e r
def eK:List Nat→ac→ac
 | [],_=>[]
 | i::r,h=>match get h i with
  | some o=>put (eK r h) i o
  | none=>eK r h
mutual
def Hj:D→D→Bool
 | .int k n,.int j m=>iu k j && decide (n=m)
 | .bool a,.bool b=>a == b
 | .str s,.str t=>s == t
 | .lst xs,.lst ys=>eqDss xs ys
 | _,_=>false
def Iz:List D→List D→Bool
 | [],[]=>true
 | a::r,b::s=>Hj a b && Iz r s
 | _,_=>false
def eqDss:List (List D)→List (List D)→Bool
 | [],[]=>true
 | a::r,b::s=>Iz a b && eqDss r s
 | _,_=>false
end
mutual
def dT:AV→AV→Bool
 | .junk,.junk=>true
 | .d x,.d y=>Hj x y
 | .nl,.nl=>true
 | .own p m xs,.own q n ys=>p == q && Nat.beq m n && eqDss xs ys
 | .gl n,.gl m=>Nat.beq n m
 | .agg a,.agg b=>eqAVs a b
 | .tup a,.tup b=>eqAVs a b
 | .nilp,.nilp=>true
 | .ptr a b,.ptr c d=>Nat.beq a c && Nat.beq b d
 | .pel a b c,.pel d e f=>Nat.beq a d && Nat.beq b e && Nat.beq c f
 | .pim a b,.pim c d=>Iz a c && Nat.beq b d
 | .sl a b c,.sl d e f=>Nat.beq a d && Nat.beq b e && Nat.beq c f
 | .fn f a c,.fn g b d=>Nat.beq f g && eqAVs a b && eqAVs c d
 | .nilf,.nilf=>true
 | .yield a,.yield b=>Nat.beq a b
 | _,_=>false
def eqAVs:List AV→List AV→Bool
 | [],[]=>true
 | a::r,b::s=>dT a b && eqAVs r s
 | _,_=>false
end
def eqO:Obj→Obj→Bool
 | .cells a,.cells b=>eqAVs a b
 | .arr m xs,.arr n ys=>Nat.beq m n && eqDss xs ys
 | _,_=>false
def jS:List Nat→ac→ac→Bool
 | [],_,_=>true
 | i::r,h,h'=>(match get h i with
  | some o=>(match get h' i with | some o'=>eqO o o' | none=>false)
  | none=>true) && jS r h h'
inductive NK where
 | call | take | read
def jW:jq→NK
 | .calli .. | .callv .. | .st ..=>.call
 | .ld none 2 _=>.take
 | _=>.read
def DS:AV→Bool
 | .own false _ _=>true
 | .nl=>true
 | _=>false
def asy:Rd→List Nat
 | .s i=>[i]
 | .m i=>[i]
 | .c _=>[]
def J6:List Rd→List Nat
 | []=>[]
 | x::r=>asy x++J6 r
def Kr:jq→List Rd
 | .ld _ _ p=>[p]
 | .ia _ x _=>[x]
 | .slice _ x _ _ _=>[x]
 | .toStr x=>[x]
 | .call _ args=>args
 | _=>[]
def gD (v:VI) (e:ak):List Nat:=Ku e (J6 (Kr v.op))
def mF (r:bn) (F:List Nat) (v:VI) (st:St):Option St :=
 match jW v.op with
 | .call=>match aT r v st with
  | some st1=>match jS F st.hs.heap st1.hs.heap with
   | true=>some st1
   | false=>none
  | none=>none
 | .take=>match aT r v st with
  | some st1=>match v.dst with
   | some d=>match get st1.env d with
    | some a=>match DS a with
     | true=>some st1
     | false=>none
    | none=>none
   | none=>none
  | none=>none
 | .read=>match aT r v ⟨st.env,⟨eK (gD v st.env) st.hs.heap,st.hs.next⟩⟩ with
  | some st1=>some ⟨st1.env,st.hs⟩
  | none=>none
def aM (r:bn) (a:Bool) (F:List Nat) (v:VI) (st:St):Option St :=
 match a with
 | false=>aT r v st
 | true=>mF r F v st
def eV (a:Bool) (v:VI) (e:ak) (F:List Nat):List Nat :=
 match a with
 | false=>F
 | true=>match jW v.op with
  | .read=>gD v e++F
  | _=>F
def cL (r:bn) (nr:List Nat) (vs:List VI):List Nat→List Nat→St→Option St
 | [],_,st=>some st
 | i::l,F,st=>match vs[i]? with
  | none=>none
  | some v=>match aM r (bR i nr) F v st with
   | none=>none
   | some st1=>cL r nr vs l (eV (bR i nr) v st.env F) st1
def j2:VC→Nat→Option VC
 | .seq a b,l=>match j2 a l with
  | some c=>some (.seq c b)
  | none=>j2 b l
 | .label k,l=>match Nat.beq k l with
  | true=>some .skip
  | false=>none
 | _,_=>none
def K9 (r:bn) (ops:List VI) (st:St):Option (aU×St) :=
 match fe r ops st with
 | some st=>some (.normal,st)
 | none=>none
def oR:Rd→Bool
 | .m _=>false
 | _=>true
def dr (v:VI):Option Nat :=
 match v.op,v.guard,v.th with
 | .alloc _,none,[]=>v.dst
 | .mkslice _ l c,none,_=>match oR l && oR c with
  | true=>v.dst
  | false=>none
 | _,_,_=>none
def lM (e:ak):List VI→Bool
 | []=>true
 | v::r=>(match dr v with
  | some d=>(match get e d with
   | none=>true
   | some _=>false)
  | none=>true) && lM e r
def Ks:Nat→List Nat→List VI→Bool
 | _,[],[]=>true
 | i,p::r,_::vs=>match Nat.beq p i with
  | true=>Ks (i+1) r vs
  | false=>false
 | _,_,_=>false
def amv (r:bn) (nr:List Nat) (ops:List VI) (perm:List Nat) (st:St):Option St :=
 match nr with
 | []=>match Ks 0 perm ops with
  | true=>fe r ops st
  | false=>cL r [] ops perm [] st
 | a::n=>cL r (a::n) ops perm [] st
theorem adj {r:bn}{vs:List VI}:∀ (perm:List Nat) (l:List VI) (i:Nat) (F:List Nat) (st:St),vs.drop i=l→Ks i perm l=true→cL r [] vs perm F st=fe r l st
 | [],[],_,_,_,_,_=>rfl
 | [],_::_,_,_,_,_,h=>by simp[Ks]at h
 | _::_,[],_,_,_,_,h=>by simp[Ks]at h
 | p::perm,v::l,i,F,st,hd,h=>by
  simp only[Ks]at h
  split at h
  ·rename_i hp
   rw[Nat.beq_eq]at hp
   subst hp
   have hv:vs[p]?=some v:=by
    have:=congrArg (fun l=>l[0]?) hd
    simpa using this
   have hd':vs.drop (p+1)=l:=by
    have:=congrArg (fun l=>l.drop 1) hd
    simpa [List.drop_drop] using this
   simp only[cL,hv,aM,bR,fe]
   cases aT r v st with
   | none=>rfl
   | some st1=>exact adj perm l (p+1) _ st1 hd' h
  ·simp at h
theorem D1 {r:bn}{nr:List Nat}{ops:List VI}{perm:List Nat}{st:St}:amv r nr ops perm st=cL r nr ops perm [] st:=by
 unfold amv
 split
 ·split
  ·rename_i h
   exact(adj perm ops 0 [] st rfl h).symm
  ·rfl
 ·rfl
def D3 (r:bn) (perm:List Nat) (nr:List Nat) (ops:List VI) (st:St):Option (aU×St) :=
 match lM st.env ops with
 | true=>(match amv r nr ops perm st with
  | some st=>some (.normal,st)
  | none=>none)
 | false=>none
def GL (r:bn) (a:VC) (b:VC) (st:St):Option (aU×St) :=
 match r.code a st with
 | some (.normal,st)=>r.code b st
 | x=>x
def El (r:bn) (c:Rd) (a:VC) (b:VC) (st:St):Option (aU×St) :=
 match rd st.env c with
 | some (.d (.bool true),e)=>r.code a ⟨e,st.hs⟩
 | some (.d (.bool false),e)=>r.code b ⟨e,st.hs⟩
 | _=>none
def D6 (r:bn) (id:Nat) (a:VC) (st:St):Option (aU×St) :=
 match r.code a st with
 | some (.exit j,st)=>match Nat.beq j id with
  | true=>some (.normal,st)
  | false=>some (.exit j,st)
 | x=>x
def JN (r:bn) (a:VC) (st:St):Option (aU×St) :=
 match r.code a st with
 | some (.normal,st)=>r.code (.loop a) st
 | x=>x
def uP (r:bn) (f:Rd) (params:List Nat) (assign:VC) (body:VC) (st:St):Option (aU×St) :=
 match rd st.env f with
 | some (.fn g first caps,e) =>
  match r.call g (first++([.yield st.hs.next]++caps)) ⟨put st.hs.heap st.hs.next (.loop (e.map fun kv=>(kv.1,share kv.2)) params assign body false none),st.hs.next+1⟩ with
  | some (_,hs)=>match get hs.heap st.hs.next with
   | some (.loop _ _ _ _ false pend)=>match pend with
    | none=>some (.normal,⟨e,⟨del hs.heap st.hs.next,hs.next⟩⟩)
    | some o=>some (o,⟨e,⟨del hs.heap st.hs.next,hs.next⟩⟩)
   | _=>none
  | none=>none
 | _=>none
def agn (r:bn) (a:VC) (st:St):Option (aU×St) :=
 r.code (.inScope a a) st
def BQ (r:bn) (a:VC) (cur:VC) (st:St):Option (aU×St) :=
 match r.code cur st with
 | some (.goto l,st)=>match j2 a l with
  | some rest=>r.code (.inScope a rest) st
  | none=>some (.goto l,st)
 | x=>x
def KM (m:Nat) (st:St):Option (aU×St) :=
 match get st.env 0 with
 | some v=>match elems st.hs.heap v with
  | some xs=>match cq m xs && Nat.ble xs.length aF with
   | true=>some (.ret,⟨[(2,.own true m xs)],st.hs⟩)
   | false=>none
  | none=>none
 | none=>none
def HZ (r:bn) (i d f:Nat) (a:VC) (st:St):Option (aU×St) :=
 match get st.env i with
 | some (.ptr id off)=>match r.code a ⟨put st.env d (.ptr id off),st.hs⟩ with
  | some (.normal,st1)=>match r.call f [.ptr id off] st1.hs with
   | some (_,hs)=>some (.ret,⟨st1.env,hs⟩)
   | none=>none
  | some (.ret,st1)=>match r.call f [.ptr id off] st1.hs with
   | some (_,hs)=>some (.ret,⟨st1.env,hs⟩)
   | none=>none
  | _=>none
 | _=>none
def aS (c:VC):bn→St→Option (aU×St) :=
 VC.casesOn (motive:=fun _=>bn→St→Option (aU×St)) c
  (fun _ st=>some (.normal,st))
  (fun _ ops=>fun r st=>K9 r ops st)
  (fun perm _ nr ops=>fun r st=>D3 r perm nr ops st)
  (fun a b=>fun r st=>GL r a b st)
  (fun c a b=>fun r st=>El r c a b st)
  (fun id a=>fun r st=>D6 r id a st)
  (fun a=>fun r st=>JN r a st)
  (fun f params assign body=>fun r st=>uP r f params assign body st)
  (fun id=>fun _ st=>some (.exit id,st))
  (fun a=>fun r st=>agn r a st)
  (fun a cur=>fun r st=>BQ r a cur st)
  (fun _=>fun _ st=>some (.normal,st))
  (fun l=>fun _ st=>some (.goto l,st))
  (fun _ st=>some (.ret,st))
  (fun m=>fun _ st=>KM m st)
  (fun i d f a=>fun r st=>HZ r i d f a st)
def cH (st:St):List lU→Option (List AV×St)
 | []=>some ([],st)
 | .tmp t::r=>match get st.env t with
  | some v=>match cH ⟨del st.env t,st.hs⟩ r with
   | some (vs,st)=>some (v::vs,st)
   | none=>none
  | none=>none
 | .cell t n::r=>match get st.env t with
  | some (.ptr id 0)=>match loadAt st.hs.heap n 1 (.ptr id 0) with
   | some (v,h)=>match cH ⟨del st.env t,⟨del h id,st.hs.next⟩⟩ r with
    | some (vs,st)=>some (v::vs,st)
    | none=>none
   | none=>none
  | _=>none
def dW:Nat→List AV→ak
 | _,[]=>[]
 | i,v::r=>put (dW (i+1) r) i v
def xr (fn:af) (st:St):Option (AV×HS) :=
 match cH st fn.results with
 | some ([v],st)=>some (v,st.hs)
 | some (vs,st)=>some (.tup vs,st.hs)
 | none=>none
def mc (P:Nat→Option af) (r:bn) (f:FuncId) (args:List AV) (hs:HS):Option (AV×HS) :=
 match P f with
 | none=>none
 | some fn=>match Nat.beq args.length fn.nparams with
  | false=>none
  | true=>match aS fn.body r ⟨dW 0 args,hs⟩ with
   | some (.normal,st)=>xr fn st
   | some (.ret,st)=>xr fn st
   | _=>none
def run (P:Nat→Option af):Nat→bn
 | 0=>⟨fun _ _=>none,fun _ _ _=>none⟩
 | n+1=>⟨fun c st=>aS c (run P n) st,fun f a h=>mc P (run P n) f a h⟩
inductive T where
 | leaf
 | node (k:Nat) (v:af) (a b:T)
def T.look:T→Nat→Option af
 | .leaf,_=>none
 | .node k v a b,i=>match Nat.beq k i with
  | true=>some v
  | false=>match Nat.ble i k with
   | true=>a.look i
   | false=>b.look i
end Go.Vm
namespace Go.Vm
structure Gh where
 obj:Nat→Option Nat
 base:Nat→Nat
 esz:Nat→Nat
 bsz:Nat→Nat
 pm:Nat→Nat→Prop
inductive RD (w:World) (pm:Nat→Nat→Prop):D→Value→Prop
 | int (k:IntKind) (n:Int):RD w pm (.int k n) (.int k n)
 | bool (b:Bool):RD w pm (.bool b) (.bool b)
 | str (s:List UInt8):RD w pm (.str s) (.string ⟨s.toArray⟩)
 | nil (a:Option Addr) (cap:Nat):RD w pm (.lst []) (.slice a 0 cap)
 | lst (xs:List (List D)) (b off m cap:Nat) (u:Nat→Value) (hm:0<m) (hcap:xs.length≤cap) (hl:∀ e∈xs,e.length=m)
   (hc:∀ j c,xs.flatten[j]?=some c→w.cell? ⟨b,off+j,none⟩=some (u j)∧pm b (off+j))
   (hr:∀ j c,xs.flatten[j]?=some c→RD w pm c (u j)):RD w pm (.lst xs) (.slice (some ⟨b,off,none⟩) xs.length cap)
def fC (w:World) (pm:Nat→Nat→Prop) (cs:List D) (b off:Nat):Prop :=
 ∀ j c,cs[j]?=some c→∃ u,w.cell? ⟨b,off+j,none⟩=some u∧RD w pm c u
def one (b:Nat):Nat→Nat:=fun x=>if x=b then 1 else 0
@[simp] theorem na (b:Nat):one b b=1:=by simp[one]
theorem mz {b x:Nat}(h:one b x≠0):x=b:=by unfold one at h;split at h<;>simp_all
def mY (g:Gh) (w:World) (p:Bool) (m:Nat) (xs:List (List D)) (x:Value) (O:Nat→Nat):Prop :=
 (xs=[]∧(∀ b,O b=0)∧∃ a,x=.slice a 0 0)∨
 ∃ b off cap c el,x=.slice (some ⟨b,off,none⟩) xs.length cap∧xs.length≤cap∧0<m∧(∀ e∈xs,e.length=m)∧
  w.heap[b]?=some (.cells c el (0,0))∧off+cap*m≤c.size∧fC w g.pm xs.flatten b off∧
  (∀ o,g.pm b o→p=false∧o<off+xs.length*m)∧(p=false→∀ j,j<xs.length*m→g.pm b (off+j))∧O=one b
mutual
def RV (g:Gh) (w:World):AV→Value→(Nat→Nat)→Prop
 | .junk,_,O=>∀ b,O b=0
 | .d c,x,O=>RD w g.pm c x∧∀ b,O b=0
 | .nl,x,O=>x=.slice none 0 0∧∀ b,O b=0
 | .own p m xs,x,O=>mY g w p m xs x O
 | .gl n,x,O=>(∃ a cap,x=.slice a n cap)∧∀ b,O b=0
 | .agg cs,x,O=>∃ xs:Array Value,x=.agg xs∧RVs g w cs xs.toList O
 | .tup cs,x,O=>∃ xs:Array Value,x=.tuple xs∧RVs g w cs xs.toList O
 | .nilp,x,O=>x=.pointer none∧∀ b,O b=0
 | .ptr id off,x,O=>(∃ b,g.obj id=some b∧x=.pointer (some ⟨b,g.base id+off,none⟩))∧∀ b,O b=0
 | .pel id i off,x,O=>(∃ b,g.obj id=some b∧x=.pointer (some ⟨b,g.base id+(i*g.esz id+off),none⟩))∧∀ b,O b=0
 | .pim cs off,x,O=>(∃ b o,x=.pointer (some ⟨b,o+off,none⟩)∧fC w g.pm cs b o∧∀ j,j<cs.length→g.pm b (o+j))∧∀ b,O b=0
 | .sl id off len,x,O=>((len=0∧∃ a,x=.slice a 0 0)∨
   ∃ b cap,g.obj id=some b∧x=.slice (some ⟨b,g.base id+off*g.esz id,none⟩) len cap∧len≤cap∧g.base id+(off+cap)*g.esz id≤g.bsz id)∧∀ b,O b=0
 | .fn f a c,x,O=>(∃ xs ys:Array Value,x=.func (.func f) xs ys∧RVs g w a xs.toList (fun _=>0)∧RVs g w c ys.toList (fun _=>0))∧∀ b,O b=0
 | .nilf,x,O=>x=.nilFunc∧∀ b,O b=0
 | .yield l,x,O=>(∃ b,g.obj l=some b∧x=.func (.yield b) #[] #[])∧∀ b,O b=0
def RVs (g:Gh) (w:World):List AV→List Value→(Nat→Nat)→Prop
 | [],xs,O=>xs=[]∧∀ b,O b=0
 | v::r,xs,O=>∃ x s O1 O2,xs=x::s∧RV g w v x O1∧RVs g w r s O2∧∀ b,O b=O1 b+O2 b
end
def dh (o:Go.Obj) (off:Nat):Bool :=
 match o with
 | .cells _ _ (lo,hi)=>lo≤off && off<hi
 | _=>false
structure aE (g:Gh) (w:World) (g':Gh) (w':World) (S:Nat→Prop):Prop where
 obj:∀ id b,g.obj id=some b→g'.obj id=some b∧g'.base id=g.base id∧g'.esz id=g.esz id∧g'.bsz id=g.bsz id
 pm:∀ b o,g.pm b o→g'.pm b o∧w'.cell? ⟨b,o,none⟩=w.cell? ⟨b,o,none⟩
 blk:∀ b,b<w.heap.size→¬ S b→w'.heap[b]?=w.heap[b]?∧∀ o,g'.pm b o→g.pm b o
 size:w.heap.size≤w'.heap.size
 lp:∀ (b:Nat) (rc:Go.Loop),w.heap[b]?=some (.loop rc)→∃ rc':Go.Loop,w'.heap[b]?=some (.loop rc')
 same:w'.os=w.os∧w'.output=w.output∧∀ a:Addr,w'.frozen? a=w.frozen? a
theorem aE.refl (g:Gh) (w:World) (S:Nat→Prop):aE g w g w S :=
 ⟨fun _ _ h=>⟨h,rfl,rfl,rfl⟩,fun _ _ h=>⟨h,rfl⟩,fun _ _ _=>⟨rfl,fun _ h=>h⟩,Nat.le_refl _,fun _ rc h=>⟨rc,h⟩,rfl,rfl,fun _=>rfl⟩
theorem aE.trans {g1 g2 g3:Gh}{w1 w2 w3:World}{S T:Nat→Prop}(h1:aE g1 w1 g2 w2 S) (h2:aE g2 w2 g3 w3 T)
  (hT:∀ b,b<w1.heap.size→T b→S b):aE g1 w1 g3 w3 S where
 obj id b h:=by
  obtain⟨a,b1,c,d⟩:=h1.obj id b h
  obtain⟨a',b',c',d'⟩:=h2.obj id b a
  exact⟨a',b'.trans b1,c'.trans c,d'.trans d⟩
 pm b o h:=by
  obtain⟨a,c⟩:=h1.pm b o h
  obtain⟨a',c'⟩:=h2.pm b o a
  exact⟨a',c'.trans c⟩
 blk b hb hS:=by
  obtain⟨a,c⟩:=h1.blk b hb hS
  obtain⟨a',c'⟩:=h2.blk b (Nat.lt_of_lt_of_le hb h1.size) (fun h=>hS (hT b hb h))
  exact⟨a'.trans a,fun o h=>c o (c' o h)⟩
 size:=Nat.le_trans h1.size h2.size
 lp b rc h:=let ⟨rc1,h'⟩:=h1.lp b rc h;h2.lp b rc1 h'
 same:=⟨h2.same.1.trans h1.same.1,h2.same.2.1.trans h1.same.2.1,fun a=>(h2.same.2.2 a).trans (h1.same.2.2 a)⟩
theorem aE.mono {g g':Gh}{w w':World}{S T:Nat→Prop}(h:aE g w g' w' S) (hST:∀ b,b<w.heap.size→S b→T b):aE g w g' w' T :=
 ⟨h.obj,h.pm,fun b hb hT=>h.blk b hb (fun hs=>hT (hST b hb hs)),h.size,h.lp,h.same⟩
theorem RD.ext {g g':Gh}{w w':World}{S:Nat→Prop}(h:aE g w g' w' S) {c:D}{x:Value}(r:RD w g.pm c x):RD w' g'.pm c x:=by
 induction r with
 | int k n=>exact .int k n
 | bool b=>exact .bool b
 | str s=>exact .str s
 | nil a cap=>exact .nil a cap
 | lst xs b off m cap u hm hcap hl hc hr ih =>
  refine .lst xs b off m cap u hm hcap hl (fun j c hj=>?_) (fun j c hj=>ih j c hj)
  obtain⟨a,p⟩:=hc j c hj
  obtain⟨p',e⟩:=h.pm b _ p
  exact⟨e.trans a,p'⟩
theorem fU {w w':World}{b:Nat}(h:w'.heap[b]?=w.heap[b]?) (o:Nat):w'.cell? ⟨b,o,none⟩=w.cell? ⟨b,o,none⟩:=by
 simp only[World.cell?,h]
theorem fC.ext {g g':Gh}{w w':World}{S:Nat→Prop}(h:aE g w g' w' S) {cs:List D}{b off:Nat}(r:fC w g.pm cs b off)
  (hb:w'.heap[b]?=w.heap[b]?∨∀ j,j<cs.length→g.pm b (off+j)):fC w' g'.pm cs b off:=by
 intro j c hj
 obtain⟨u,hu,hr⟩:=r j c hj
 refine⟨u,?_,hr.ext h⟩
 rcases hb with hb | hb
 ·rw[fU hb];exact hu
 ·have hlt:j<cs.length:=by
   rcases Nat.lt_or_ge j cs.length with h | h
   ·exact h
   ·simp[List.getElem?_eq_none h]at hj
  rw[(h.pm b _ (hb j hlt)).2];exact hu
theorem ba {w:World}{b:Nat}{o:Go.Obj}(h:w.heap[b]?=some o):b<w.heap.size:=by
 rcases Nat.lt_or_ge b w.heap.size with h' | h'
 ·exact h'
 ·simp[Array.getElem?_eq_none h']at h
theorem mY.ext {g g':Gh}{w w':World}{S:Nat→Prop}(h:aE g w g' w' S) {p:Bool}{m:Nat}{xs:List (List D)}{x:Value}{O:Nat→Nat}
  (r:mY g w p m xs x O) (hO:∀ b,O b≠0→¬ S b):mY g' w' p m xs x O:=by
 rcases r with r | ⟨b,off,cap,c,el,rfl,hcap,hm,hl,hb,hsz,hrc,hpm,hp,rfl⟩
 ·exact .inl r
 ·have hS:¬ S b:=hO b (by simp)
  obtain⟨e,hn⟩:=h.blk b (ba hb) hS
  exact .inr ⟨b,off,cap,c,el,rfl,hcap,hm,hl,e.trans hb,hsz,hrc.ext h (.inl e),fun o ho=>hpm o (hn o ho),fun hf j hj=>(h.pm b _ (hp hf j hj)).1,rfl⟩
mutual
theorem RV.ext {g g':Gh}{w w':World}{S:Nat→Prop}(h:aE g w g' w' S):∀ (v:AV) (x:Value) (O:Nat→Nat),
  RV g w v x O→(∀ b,O b≠0→¬ S b)→RV g' w' v x O
 | .junk,_,_,r,_=>by simpa only[RV] using r
 | .d c,x,O,r,_=>by simp only[RV]at r⊢;exact⟨r.1.ext h,r.2⟩
 | .nl,_,_,r,_=>by simpa only[RV] using r
 | .own p m xs,x,O,r,hO=>by simp only[RV]at r⊢;exact r.ext h hO
 | .gl n,_,_,r,_=>by simpa only[RV] using r
 | .agg cs,x,O,r,hO=>by
  simp only[RV]at r⊢
  obtain⟨xs,e,r⟩:=r
  exact⟨xs,e,RVs.ext h cs _ O r hO⟩
 | .tup cs,x,O,r,hO=>by
  simp only[RV]at r⊢
  obtain⟨xs,e,r⟩:=r
  exact⟨xs,e,RVs.ext h cs _ O r hO⟩
 | .nilp,_,_,r,_=>by simpa only[RV] using r
 | .ptr id off,x,O,r,_=>by
  simp only[RV]at r⊢
  obtain⟨⟨b,hb,e⟩,hz⟩:=r
  obtain⟨a1,a2,_,_⟩:=h.obj id b hb
  exact⟨⟨b,a1,by rw[a2];exact e⟩,hz⟩
 | .pel id i off,x,O,r,_=>by
  simp only[RV]at r⊢
  obtain⟨⟨b,hb,e⟩,hz⟩:=r
  obtain⟨a1,a2,a3,_⟩:=h.obj id b hb
  exact⟨⟨b,a1,by rw[a2,a3];exact e⟩,hz⟩
 | .pim cs off,x,O,r,_=>by
  simp only[RV]at r⊢
  obtain⟨⟨b,o,e,hrc,hp⟩,hz⟩:=r
  exact⟨⟨b,o,e,hrc.ext h (.inr hp),fun j hj=>(h.pm b _ (hp j hj)).1⟩,hz⟩
 | .sl id off len,x,O,r,_=>by
  simp only[RV]at r⊢
  obtain⟨r,hz⟩:=r
  rcases r with r | ⟨b,cap,hb,e,hl,hs⟩
  ·exact⟨.inl r,hz⟩
  ·obtain⟨a1,a2,a3,a4⟩:=h.obj id b hb
   exact⟨.inr ⟨b,cap,a1,by rw[a2,a3];exact e,hl,by rw[a2,a3,a4];exact hs⟩,hz⟩
 | .fn f a c,x,O,r,_=>by
  simp only[RV]at r⊢
  obtain⟨⟨xs,ys,e,ra,rc⟩,hz⟩:=r
  exact⟨⟨xs,ys,e,RVs.ext h a _ _ ra (by simp),RVs.ext h c _ _ rc (by simp)⟩,hz⟩
 | .nilf,_,_,r,_=>by simpa only[RV] using r
 | .yield l,x,O,r,_=>by
  simp only[RV]at r⊢
  obtain⟨⟨b,hb,e⟩,hz⟩:=r
  exact⟨⟨b,(h.obj l b hb).1,e⟩,hz⟩
theorem RVs.ext {g g':Gh}{w w':World}{S:Nat→Prop}(h:aE g w g' w' S):∀ (vs:List AV) (xs:List Value) (O:Nat→Nat),
  RVs g w vs xs O→(∀ b,O b≠0→¬ S b)→RVs g' w' vs xs O
 | [],_,_,r,_=>by simpa only[RVs] using r
 | v::vs,xs,O,r,hO=>by
  simp only[RVs]at r⊢
  obtain⟨x,s,O1,O2,e,r1,r2,hs⟩:=r
  exact⟨x,s,O1,O2,e,RV.ext h v x O1 r1 (fun b hb=>hO b (by rw[hs b];omega)),RVs.ext h vs s O2 r2 (fun b hb=>hO b (by rw[hs b];omega)),hs⟩
end
end Go.Vm
namespace Go.Vm
abbrev zero:Nat→Nat:=fun _=>0
def aX {α:Type}(l:List (Nat×α)):Prop:=l.Pairwise fun a b=>vX a.1 b.1
theorem vX.tr {a b c:Nat}(h:vX a b) (k:vX b c):vX a c:=by omega
theorem vX.ne {a b:Nat}(h:vX a b):b≠a:=by omega
theorem anQ (a b:Nat):vX a b∨a=b∨vX b a:=by omega
theorem vX.of {i k:Nat}(h:¬ k=i) (l:OG i k):vX i k:=by omega
theorem vX.of' {i k:Nat}(h:¬ k=i) (l:¬ OG i k):vX k i:=by omega
section
variable {α:Type}
theorem agt {l:List (Nat×α)}{i:Nat}{p:Nat×α}(h:p∈del l i):p∈l∧p.1≠i:=by
 induction l with
 | nil=>simp[YY]at h
 | cons a r ih =>
  obtain⟨k,v⟩:=a
  rw[gZ]at h
  split at h
  ·exact⟨.tail _ (ih h).1,(ih h).2⟩
  ·rcases List.mem_cons.1 h with h | h
   ·subst h;exact⟨.head _,by simpa using ‹¬ k=i›⟩
   ·exact⟨.tail _ (ih h).1,(ih h).2⟩
theorem aX.del {l:List (Nat×α)}(h:aX l) (i:Nat):aX (Vm.del l i):=by
 induction l with
 | nil=>simpa [YY] using h
 | cons a r ih =>
  obtain⟨k,v⟩:=a
  have hr:=List.pairwise_cons.1 h
  rw[gZ]
  split
  ·exact ih hr.2
  ·exact List.pairwise_cons.2 ⟨fun p hp=>hr.1 p (agt hp).1,ih hr.2⟩
theorem j5 {l:List (Nat×α)}{i:Nat}(h:∀ p∈l,p.1≠i):del l i=l:=by
 induction l with
 | nil=>rfl
 | cons a r ih =>
  obtain⟨k,v⟩:=a
  rw[gZ,if_neg (h (k,v) (.head _)),ih fun p hp=>h p (.tail _ hp)]
theorem Zi {l:List (Nat×α)}{i:Nat}{x:α}{p:Nat×α}(h:p∈put l i x):p=(i,x)∨p∈l:=by
 induction l with
 | nil=>simp[Zy]at h;exact .inl h
 | cons a r ih =>
  obtain⟨k,v⟩:=a
  rw[kD]at h
  split at h
  ·rcases List.mem_cons.1 h with h | h
   ·exact .inl h
   ·exact .inr (.tail _ h)
  ·split at h
   ·rcases List.mem_cons.1 h with h | h
    ·exact .inl h
    ·exact .inr h
   ·rcases List.mem_cons.1 h with h | h
    ·exact .inr (h▸.head _)
    ·rcases ih h with h | h
     ·exact .inl h
     ·exact .inr (.tail _ h)
theorem aX.put {l:List (Nat×α)}(h:aX l) (i:Nat) (x:α):aX (Vm.put l i x):=by
 induction l with
 | nil=>simp[Zy,aX]
 | cons a r ih =>
  obtain⟨k,v⟩:=a
  have hr:=List.pairwise_cons.1 h
  rw[kD]
  split
  ·rename_i e;subst e;exact List.pairwise_cons.2 ⟨hr.1,hr.2⟩
  ·split
   ·rename_i ne le
    have hlt:vX i k:=.of ne le
    refine List.pairwise_cons.2 ⟨fun p hp=>?_,h⟩
    rcases List.mem_cons.1 hp with rfl | hp
    ·exact hlt
    ·exact hlt.tr (hr.1 p hp)
   ·rename_i ne le
    refine List.pairwise_cons.2 ⟨fun p hp=>?_,ih hr.2⟩
    rcases Zi hp with rfl | hp
    ·exact .of' ne le
    ·exact hr.1 p hp
end
def RL {α:Type}(Q:Nat→α→(Nat→Nat)→Prop):List (Nat×α)→(Nat→Nat)→Prop
 | [],O=>∀ b,O b=0
 | (k,v)::r,O=>∃ O1 O2,Q k v O1∧RL Q r O2∧∀ b,O b=O1 b+O2 b
section
variable {α:Type}{Q Q':Nat→α→(Nat→Nat)→Prop}
theorem RL.imp' {l:List (Nat×α)}{O:Nat→Nat}(r:RL Q l O)
  (h:∀ k v O1,(k,v)∈l→(∀ b,O1 b≤O b)→Q k v O1→Q' k v O1):RL Q' l O:=by
 induction l generalizing O with
 | nil=>simpa [RL] using r
 | cons a r' ih =>
  obtain⟨k,v⟩:=a
  obtain⟨O1,O2,q,rr,hs⟩:=r
  exact⟨O1,O2,h k v O1 (.head _) (fun b=>by rw[hs b];omega) q,
   ih rr fun k v O' hm hle q=>h k v O' (.tail _ hm) (fun b=>by have:=hle b;rw[hs b];omega) q,hs⟩
theorem RL.take {l:List (Nat×α)}{O:Nat→Nat}(r:RL Q l O) {i:Nat}{v:α}(hg:get l i=some v) :
  ∃ O1 O2,Q i v O1∧RL Q (del l i) O2∧∀ b,O1 b+O2 b≤O b:=by
 induction l generalizing O with
 | nil=>simp[nu]at hg
 | cons a r' ih =>
  obtain⟨k,u⟩:=a
  obtain⟨O1,O2,q,rr,hs⟩:=r
  rw[bm]at hg
  rw[gZ]
  by_cases e:k=i
  ·subst e
   simp only[if_true]at hg⊢
   injection hg with hg;subst hg
   have:∃ O3,RL Q (del r' k) O3∧∀ b,O3 b≤O2 b:=by
    clear ih hs q
    induction r' generalizing O2 with
    | nil=>exact⟨O2,rr,fun _=>Nat.le_refl _⟩
    | cons a r'' ih2 =>
     obtain⟨k',u'⟩:=a
     obtain⟨P1,P2,q',rr',hs'⟩:=rr
     obtain⟨O3,r3,h3⟩:=ih2 P2 rr'
     rw[gZ]
     split
     ·exact⟨O3,r3,fun b=>by have:=h3 b;rw[hs' b];omega⟩
     ·exact⟨fun b=>P1 b+O3 b,⟨P1,O3,q',r3,fun _=>rfl⟩,fun b=>by have:=h3 b;have:=hs' b;show P1 b+O3 b≤O2 b;omega⟩
   obtain⟨O3,r3,h3⟩:=this
   exact⟨O1,O3,q,r3,fun b=>by have:=h3 b;rw[hs b];omega⟩
  ·simp only[if_neg e]at hg⊢
   obtain⟨P1,P2,q',rr',hs'⟩:=ih rr hg
   exact⟨P1,fun b=>O1 b+P2 b,q',⟨O1,P2,q,rr',fun _=>rfl⟩,fun b=>by have:=hs' b;have:=hs b;show P1 b+(O1 b+P2 b)≤O b;omega⟩
theorem RL.drop {l:List (Nat×α)}{O:Nat→Nat}(r:RL Q l O) (i:Nat):∃ O2,RL Q (del l i) O2∧∀ b,O2 b≤O b:=by
 induction l generalizing O with
 | nil=>exact⟨O,r,fun _=>Nat.le_refl _⟩
 | cons a r' ih =>
  obtain⟨k,u⟩:=a
  obtain⟨O1,O2,q,rr,hs⟩:=r
  obtain⟨O3,r3,h3⟩:=ih rr
  rw[gZ]
  split
  ·exact⟨O3,r3,fun b=>by have:=h3 b;rw[hs b];omega⟩
  ·exact⟨fun b=>O1 b+O3 b,⟨O1,O3,q,r3,fun _=>rfl⟩,fun b=>by have:=h3 b;have:=hs b;show O1 b+O3 b≤O b;omega⟩
theorem RL.put {l:List (Nat×α)}(hs:aX l) {i:Nat}{O1 O2:Nat→Nat}(r:RL Q (del l i) O2) {x:α}(q:Q i x O1) :
  ∃ O,RL Q (Vm.put l i x) O∧∀ b,O b=O1 b+O2 b:=by
 induction l generalizing O2 with
 | nil=>exact⟨fun b=>O1 b+O2 b,⟨O1,O2,q,r,fun _=>rfl⟩,fun _=>rfl⟩
 | cons a r' ih =>
  obtain⟨k,u⟩:=a
  have hp:=List.pairwise_cons.1 hs
  rw[kD]
  by_cases e:k=i
  ·subst e
   simp only[if_true]
   rw[gZ,if_pos rfl,j5 fun p hp'=>(hp.1 p hp').ne]at r
   exact⟨fun b=>O1 b+O2 b,⟨O1,O2,q,r,fun _=>rfl⟩,fun _=>rfl⟩
  ·simp only[if_neg e]
   rw[gZ,if_neg e]at r
   split
   ·rename_i hle
    have hlt:vX i k:=.of e hle
    rw[j5 fun p hp'=>(hlt.tr (hp.1 p hp')).ne]at r
    exact⟨fun b=>O1 b+O2 b,⟨O1,O2,q,r,fun _=>rfl⟩,fun _=>rfl⟩
   ·obtain⟨P1,P2,q',rr',hs'⟩:=r
    obtain⟨O,ro,ho⟩:=ih hp.2 rr'
    exact⟨fun b=>P1 b+O b,⟨P1,O,q',ro,fun _=>rfl⟩,fun b=>by have:=ho b;have:=hs' b;show P1 b+O b=O1 b+O2 b;omega⟩
theorem RL.get {l:List (Nat×α)}{O:Nat→Nat}(r:RL Q l O) {i:Nat}{v:α}(hg:Vm.get l i=some v) :
  ∃ O1,Q i v O1∧∀ b,O1 b≤O b:=by
 obtain⟨O1,O2,q,_,h⟩:=r.take hg
 exact⟨O1,q,fun b=>by have:=h b;omega⟩
end
theorem cP {xs:List (List D)}{m:Nat}(h:∀ e∈xs,e.length=m):xs.flatten.length=xs.length*m:=by
 induction xs with
 | nil=>simp
 | cons a r ih =>
  simp only[List.flatten_cons,List.length_append,List.length_cons]
  rw[ih fun e he=>h e (.tail _ he),h a (.head _),Nat.succ_mul,Nat.add_comm]
theorem fC.nil (w:World) (pm:Nat→Nat→Prop) (b off:Nat):fC w pm [] b off:=fun j c h=>by simp at h
theorem fC.rd {w:World}{pm:Nat→Nat→Prop}{xs:List (List D)}{b off m cap:Nat}(hm:0<m) (hcap:xs.length≤cap) (hl:∀ e∈xs,e.length=m)
  (hc:fC w pm xs.flatten b off) (hp:∀ j,j<xs.length*m→pm b (off+j)):RD w pm (.lst xs) (.slice (some ⟨b,off,none⟩) xs.length cap):=by
 refine .lst xs b off m cap (fun j=>(w.cell? ⟨b,off+j,none⟩).getD (.bool false)) hm hcap hl (fun j c hj=>?_) (fun j c hj=>?_)
 ·obtain⟨u,hu,_⟩:=hc j c hj
  have hlt:j<xs.flatten.length:=by
   rcases Nat.lt_or_ge j xs.flatten.length with h | h
   ·exact h
   ·simp[List.getElem?_eq_none h]at hj
  exact⟨by simp[hu],hp j (by rw[←cP hl];exact hlt)⟩
 ·obtain⟨u,hu,hr⟩:=hc j c hj
  simpa [hu] using hr
mutual
theorem RV.share {g:Gh}{w:World}:∀ (v:AV) (x:Value) (O:Nat→Nat),RV g w v x O→RV g w (share v) x zero
 | .own false m xs,x,O,r=>by
  simp only[RV,Vm.share]at r⊢
  refine⟨?_,fun _=>by trivial⟩
  rcases r with ⟨rfl,_,a,rfl⟩ | ⟨b,off,cap,c,el,rfl,hcap,hm,hl,hb,hsz,hrc,hpm,hp,rfl⟩
  ·exact .nil a 0
  ·exact hrc.rd hm hcap hl (hp rfl)
 | .own true m xs,x,O,r=>by simp[RV,Vm.share]
 | .agg cs,x,O,r=>by
  simp only[RV,Vm.share]at r⊢
  obtain⟨xs,e,r⟩:=r
  exact⟨xs,e,RVs.share cs _ O r⟩
 | .tup cs,x,O,r=>by
  simp only[RV,Vm.share]at r⊢
  obtain⟨xs,e,r⟩:=r
  exact⟨xs,e,RVs.share cs _ O r⟩
 | .junk,_,_,r=>by simp[RV,Vm.share]
 | .d c,_,_,r=>by simp only[RV,Vm.share]at r⊢;exact⟨r.1,fun _=>by trivial⟩
 | .nl,_,_,r=>by simp only[RV,Vm.share]at r⊢;exact⟨r.1,fun _=>by trivial⟩
 | .gl n,_,_,r=>by simp only[RV,Vm.share]at r⊢;exact⟨r.1,fun _=>by trivial⟩
 | .nilp,_,_,r=>by simp only[RV,Vm.share]at r⊢;exact⟨r.1,fun _=>by trivial⟩
 | .ptr _ _,_,_,r=>by simp only[RV,Vm.share]at r⊢;exact⟨r.1,fun _=>by trivial⟩
 | .pel _ _ _,_,_,r=>by simp only[RV,Vm.share]at r⊢;exact⟨r.1,fun _=>by trivial⟩
 | .pim _ _,_,_,r=>by simp only[RV,Vm.share]at r⊢;exact⟨r.1,fun _=>by trivial⟩
 | .sl _ _ _,_,_,r=>by simp only[RV,Vm.share]at r⊢;exact⟨r.1,fun _=>by trivial⟩
 | .fn _ _ _,_,_,r=>by simp only[RV,Vm.share]at r⊢;exact⟨r.1,fun _=>by trivial⟩
 | .nilf,_,_,r=>by simp only[RV,Vm.share]at r⊢;exact⟨r.1,fun _=>by trivial⟩
 | .yield _,_,_,r=>by simp only[RV,Vm.share]at r⊢;exact⟨r.1,fun _=>by trivial⟩
theorem RVs.share {g:Gh}{w:World}:∀ (vs:List AV) (xs:List Value) (O:Nat→Nat),RVs g w vs xs O→RVs g w (shareAll vs) xs zero
 | [],_,_,r=>by simp only[RVs,ad0]at r⊢;exact⟨r.1,fun _=>by trivial⟩
 | v::vs,xs,O,r=>by
  simp only[RVs,jB]at r⊢
  obtain⟨x,s,O1,O2,e,r1,r2,_⟩:=r
  exact⟨x,s,zero,zero,e,RV.share v x O1 r1,RVs.share vs s O2 r2,fun _=>by trivial⟩
end
end Go.Vm
namespace Go.Vm
def Ev (P:Nat→Option af) (c:VC) (st:St) (o:aU) (st':St):Prop:=∃ N,∀ n,(run P (N+n)).code c st=some (o,st')
variable {P:Nat→Option af}
theorem ajK {n:Int}(h:-9223372036854775808≤n) (h2:n≤9223372036854775807):wr .i64 n=n:=by
 simp only[wr,iV,decide_eq_true h,decide_eq_true h2,Bool.and_self]
instance:Nonempty bn:=⟨⟨fun _ _=>none,fun _ _ _=>none⟩⟩
def WP (P:Nat→Option af) (c:VC) (st:St) (Q:aU→St→Prop):Prop:=∃ o st',Ev P c st o st'∧Q o st'
theorem ZW {r:bn}{vs:List VI}:∀ {l:List Nat}{st:St},(l.all fun i=>decide (i<vs.length))=true→lV r vs l st=fe r (l.filterMap fun i=>vs[i]?) st
 | [],_,_=>rfl
 | i::l,st,h=>by
  simp only[List.all_cons,Bool.and_eq_true,decide_eq_true_eq]at h
  have hi:vs[i]?=some (vs[i]'h.1):=List.getElem?_eq_getElem h.1
  simp only[lV,hi,List.filterMap_cons,fe]
  cases aT r (vs[i]'h.1) st with
  | none=>rfl
  | some st1=>exact ZW h.2
theorem ac5 {r:bn}{vs:List VI}:∀ {l F:List Nat}{st:St},cL r [] vs l F st=lV r vs l st
 | [],_,_=>rfl
 | i::l,F,st=>by
  simp only[cL,lV,aM,bR]
  cases vs[i]? with
  | none=>rfl
  | some v =>
   simp only
   cases aT r v st with
   | none=>rfl
   | some st1=>exact ac5
theorem WP.mono {c:VC}{st:St}{Q R:aU→St→Prop}(h:WP P c st Q) (hq:∀ o s,Q o s→R o s):WP P c st R:=by
 obtain⟨o,s,h,k⟩:=h
 exact⟨o,s,h,hq o s k⟩
end Go.Vm
namespace Go.Vm
def okD:D→Value→Bool
 | .int k n,.int j m=>iu k j && decide (n=m)
 | .bool a,.bool b=>a == b
 | .str s,.string t=>s == t.data.toList
 | .lst [],.slice none 0 0=>true
 | _,_=>false
def IN:List D→List Value→Bool
 | [],[]=>true
 | d::r,v::s=>okD d v && IN r s
 | _,_=>false
def Fk:AV→Value→Bool
 | .d (.lst _),_=>false
 | .d x,v=>okD x v
 | .nl,.slice none 0 0=>true
 | .nilp,.pointer none=>true
 | .nilf,.nilFunc=>true
 | _,_=>false
def jc:List AV→List Value→Bool
 | [],[]=>true
 | d::r,v::s=>Fk d v && jc r s
 | _,_=>false
def XU:AV→Value→Bool
 | .agg cs,.agg vs=>jc cs vs.toList
 | v,x=>Fk v x
def aQ:Rd→Operand→Bool
 | .s i,.tmp t=>Nat.beq i t
 | .m i,.tmp t=>Nat.beq i t
 | .c v,.const x=>XU v x
 | .c (.fn f [] []),.func g=>Nat.beq f g
 | _,_=>false
def bJ:List Rd→List Operand→Bool
 | [],[]=>true
 | r::l,o::s=>aQ r o && bJ l s
 | _,_=>false
def oz:Option Rd→Option Operand→Bool
 | none,none=>true
 | some r,some o=>aQ r o
 | _,_=>false
section
variable (P:Program)
def mH (t:TypeId) (n:Nat):Bool:=match P.info? t with
 | some i=>Nat.beq i.size n
 | none=>false
def si (t:TypeId):Bool:=match P.underlying t with
 | some (.struct _)=>true
 | some (.array _ _)=>true
 | _=>false
def Cb (t:TypeId):Bool:=match P.underlying t with
 | some (.struct _)=>false
 | some (.array _ _)=>false
 | some _=>true
 | none=>false
def iU (t:TypeId):Option Nat→Bool
 | none=>Cb P t
 | some n=>si P t && mH P t n
def dL (t:TypeId) (m:Nat):Bool:=match P.underlying t with
 | some (.slice e)=>mH P e m && Nat.blt 0 m && Nat.ble (P.bytesOf e) 4096
 | _=>false
def akE (t:TypeId) (zs:List D):Bool:=match P.info? t with
 | some i=>match i.zero with
  | some z=>IN zs z.cells.toList
  | none=>false
 | none=>false
def rG (t:TypeId) (zs:List D):Bool:=match P.underlying t with
 | some (.slice e)=>akE P e zs
 | _=>false
def il (t:TypeId) (m:Nat):Bool:=match P.underlying t with
 | some (.slice e)=>match P.info? e with
  | some i=>match i.zero with
   | some z=>Nat.beq z.cells.size m
   | none=>false
  | none=>false
 | _=>false
def G8 (t:TypeId):Bool:=match P.underlying t with
 | some .string=>true
 | _=>false
def BR (t:TypeId):Bool:=match P.underlying t with
 | some (.int _)=>true
 | _=>false
def D8 (t:TypeId):Bool:=match P.underlying t with
 | some .bool=>true
 | _=>false
def agp (t:TypeId):Bool:=match P.underlying t with
 | some (.slice e)=>(match P.underlying e with
  | some (.int .u8)=>true
  | _=>false)
 | _=>false
def akR (f:FuncId):Bool:=match P.funcs[f]? with
 | some fn=>fn.name == "internal/bytealg.IndexByte" && fn.origin == "" && fn.body.isNone
 | none=>false
def zi:List Bool→List Field→Nat→Bool
 | [],[],_=>true
 | k::ks,f::r,n=>Nat.beq f.offset n && (f.name != "_") && (match k with | true=>BR P f.type | false=>D8 P f.type) && Cb P f.type && zi ks r (n+1)
 | _,_,_=>false
def EL:List Bool→List Field→Nat→Bool
 | [],[],_=>true
 | _::_,[],_=>false
 | ks,f::r,n=>Nat.beq f.offset n && (f.name != "_") && (match P.underlying f.type with
  | some (.struct fs)=>Nat.ble fs.size ks.length && zi P (ks.take fs.size) fs.toList 0 && !(P.stoodInHeld f.type) && mH P f.type fs.size && EL (ks.drop fs.size) r (n+fs.size)
  | _=>match ks with
   | k::ks=>(match k with | true=>BR P f.type | false=>D8 P f.type) && Cb P f.type && EL ks r (n+1)
   | []=>false)
def o9 (t:TypeId) (ks:List Bool):Bool:=match P.underlying t with
 | some (.struct fs)=>EL P ks fs.toList 0 && !(P.stoodInHeld t) && !(P.eqGuardType P.depth t)
 | _=>false
def ai5 (t:TypeId) (k:IntKind):Bool:=match P.underlying t with
 | some (.int j)=>iu j k
 | _=>false
def KY (t:TypeId) (len n:Nat):Bool:=match P.underlying t with
 | some (.array l e)=>Nat.beq l len && mH P e n && Nat.blt 0 n
 | _=>false
def ahh (t:TypeId) (f off:Nat):Bool:=match P.underlying t with
 | some (.struct fs)=>match fs[f]? with
  | some x=>Nat.beq x.offset off && (match P.info? x.type with | some i=>Nat.blt 0 i.size | none=>false)
  | none=>false
 | _=>false
def NV (t:TypeId) (f off:Nat) (n:Option Nat):Bool:=match P.underlying t with
 | some (.struct fs)=>match fs[f]? with
  | some x=>Nat.beq x.offset off && iU P x.type n
  | none=>false
 | _=>false
def SC (t:TypeId) (len n:Nat) (agg:Bool):Bool:=match P.underlying t with
 | some (.array l e)=>Nat.beq l len && mH P e n && (match agg with | true=>si P e | false=>Cb P e)
 | _=>false
def ik (places:Nat→Option (Nat×Nat)):List (Nat×Nat×Rd)→List (Nat×Operand)→Bool
 | [],[]=>true
 | (off,n,r)::l,(i,o)::s=>(match places i with | some (a,b)=>Nat.beq a off && Nat.beq b n | none=>false) && aQ r o && ik places l s
 | _,_=>false
def mE (fs:Array Field) (i:Nat):Option (Nat×Nat):=match fs[i]? with
 | some f=>match P.info? f.type with
  | some t=>some (f.offset,t.size)
  | none=>none
 | none=>none
def X5 (fs:List Field):Bool:=fs.all fun f=>(P.info? f.type).isSome
def aef (t:TypeId) (zs:List AV) (ps:List (Nat×Nat×Rd)) (parts:List (Nat×Operand)):Bool :=
 (match P.info? t with
  | some i=>match i.zero with
   | some z=>jc zs z.cells.toList
   | none=>false
  | none=>false) &&
 match P.underlying t with
 | some (.struct fs)=>X5 P fs.toList && ik (mE P fs) ps parts
 | some (.array _ e)=>match P.info? e with
  | some i=>ik (fun k=>some (k*i.size,i.size)) ps parts
  | none=>false
 | _=>false
def cV:Nat→List Rd→List (Nat×Operand)→Bool
 | _,[],[]=>true
 | k,r::l,(i,o)::s=>Nat.beq i k && aQ r o && cV (k+1) l s
 | _,_,_=>false
def pI:Callee→Option FuncId
 | .value (.func f)=>some f
 | _=>none
def jA:Callee→Option Builtin
 | .builtin b=>some b
 | _=>none
def Yn (a b:BinOp):Bool:=decide (a=b)
def aqp (a b:UnOp):Bool:=decide (a=b)
def Hb (a b:Option Builtin):Bool:=decide (a=b)
def jT (c:Call):TypeId:=c.argTypes.getD 0 0
def KC (c:Call):Bool:=Nat.beq c.argTypes.size 2
def aw (v:jq) (o:Op):Bool :=
 match v with
 | .mov x=>(match o with
  | .move y=>aQ x y
  | .assign y=>aQ x y
  | .call c=>Hb (jA c.callee) (some .len) && Nat.blt 0 c.args.size && Nat.blt 0 c.argTypes.size && (match x with
   | .c (.d (.int .i64 n))=>(match P.underlying (jT c) with
    | some (.array l _)=>decide (n=(l:Int))
    | _=>false)
   | _=>false)
  | _=>false)
 | .pick c a b=>(match o with
  | .pick c' a' b'=>aQ c c' && aQ a a' && aQ b b'
  | _=>false)
 | .alloc zs=>(match o with
  | .alloc e=>(match P.info? e with
   | some i=>(match i.zero with
    | some z=>jc zs z.cells.toList
    | none=>false)
   | none=>false)
  | _=>false)
 | .box x=>(match o with
  | .box _ y=>aQ x y
  | _=>false)
 | .build zs ps=>(match o with
  | .build t parts=>aef P t zs ps parts.toList
  | _=>false)
 | .mks m ps=>(match o with
  | .buildSlice t len parts=>dL P t m && il P t m && Nat.beq len ps.length && Nat.ble (len*m) 16777216 && cV 0 ps parts.toList
  | _=>false)
 | .mksv m ps=>(match o with
  | .buildSlice t len parts=>Nat.beq m 1 && dL P t m && il P t m && Nat.beq len ps.length && Nat.ble (len*m) 16777216 && Nat.blt 0 len && cV 0 ps parts.toList
  | _=>false)
 | .ld n _ p=>(match o with
  | .load t a=>iU P t n && aQ p a
  | _=>false)
 | .st n p x=>(match o with
  | .store t a y=>mH P t n && aQ p a && aQ x y
  | _=>false)
 | .nilck x=>(match o with
  | .nilCheck y=>aQ x y
  | _=>false)
 | .bin op x y=>(match o with
  | .binOp op' _ x' y' _=>Yn op op' && aQ x x' && aQ y y'
  | _=>false)
 | .binb neg x y=>(match o with
  | .binOp op' t x' y' _=>Yn (match neg with | true=>.neq | false=>.eql) op' && D8 P t && aQ x x' && aQ y y'
  | _=>false)
 | .un op x=>(match o with
  | .unOp op' _ x'=>aqp op op' && aQ x x'
  | _=>false)
 | .conv k x=>(match o with
  | .convert src dst x'=>ai5 P dst k && BR P src && aQ x x'
  | _=>false)
 | .toStr x=>(match o with
  | .convert src dst x'=>G8 P dst && agp P src && aQ x x'
  | _=>false)
 | .bina neg ks x y=>(match o with
  | .binOp op' t x' y' _=>Yn (match neg with | true=>.neq | false=>.eql) op' && o9 P t ks && aQ x x' && aQ y y'
  | _=>false)
 | .mkfn f first caps=>(match o with
  | .makeFunc (.func g) first' caps'=>Nat.beq f g && bJ first first'.toList && bJ caps caps'.toList
  | _=>false)
 | .mkslice z len cap=>(match o with
  | .makeSlice t l c=>dL P t z.length && rG P t z && aQ len l && aQ cap c
  | _=>false)
 | .slice m x lo hi mx=>(match o with
  | .slice t y l h k=>dL P t m && aQ x y && oz lo l && oz hi h && oz mx k
  | _=>false)
 | .slarr n x lo hi mx=>(match o with
  | .slice t y l h k=>KY P t n 1 && aQ x y && oz lo l && oz hi h && oz mx k
  | _=>false)
 | .fa off p=>(match o with
  | .fieldAddr t y f=>ahh P t f off && aQ p y
  | _=>false)
 | .fld off n x=>(match o with
  | .field t y f=>NV P t f off n && aQ x y
  | _=>false)
 | .ia n x i=>(match o with
  | .indexAddr t y j=>dL P t n && aQ x y && aQ i j
  | _=>false)
 | .iarr len n p i=>(match o with
  | .indexAddr t y j=>KY P t len n && aQ p y && aQ i j
  | _=>false)
 | .ix len n agg x i=>(match o with
  | .index t y j=>SC P t len n agg && aQ x y && aQ i j
  | _=>false)
 | .ixs x i=>(match o with
  | .index t y j=>G8 P t && aQ x y && aQ i j
  | _=>false)
 | .ext j _ i=>(match o with
  | .extract (.tmp t) k=>Nat.beq j t && Nat.beq i k
  | _=>false)
 | .len x=>(match o with
  | .call c=>Hb (jA c.callee) (some .len) && Nat.blt 0 c.argTypes.size && (match P.underlying (jT c) with | some (.slice _)=>true | _=>false) && bJ [x] c.args.toList
  | _=>false)
 | .cap x=>(match o with
  | .call c=>Hb (jA c.callee) (some .cap) && Nat.blt 0 c.argTypes.size && (match P.underlying (jT c) with | some (.slice _)=>true | _=>false) && bJ [x] c.args.toList
  | _=>false)
 | .app m x y=>(match o with
  | .call c=>Hb (jA c.callee) (some .append) && KC c && dL P (jT c) m && il P (jT c) m &&
    (match P.underlying (c.argTypes.getD 1 0) with | some (.slice _)=>true | _=>false) && bJ [x,y] c.args.toList
  | _=>false)
 | .appz z x n=>(match o with
  | .call c=>Hb (jA c.callee) (some .append) && KC c && dL P (jT c) z.length && rG P (jT c) z && BR P (c.argTypes.getD 1 0) && bJ [x,n] c.args.toList
  | _=>false)
 | .cpy m x y=>(match o with
  | .call c=>Hb (jA c.callee) (some .copy) && KC c && dL P (jT c) m && (match P.underlying (c.argTypes.getD 1 0) with | some (.slice _)=>true | _=>false) && bJ [x,y] c.args.toList
  | _=>false)
 | .clr z x=>(match o with
  | .call c=>Hb (jA c.callee) (some .clear) && dL P (jT c) z.length && rG P (jT c) z && Nat.blt 0 c.argTypes.size && bJ [x] c.args.toList
  | _=>false)
 | .minmax b xs=>(match o with
  | .call c=>Hb (jA c.callee) (some (match b with | true=>.max | false=>.min)) && bJ xs c.args.toList
  | _=>false)
 | .call f args=>(match o with
  | .call c=>(match pI c.callee with | some g=>Nat.beq f g | none=>false) && bJ args c.args.toList
  | _=>false)
 | .calli f args=>(match o with
  | .call c=>(match pI c.callee with | some g=>Nat.beq f g | none=>false) && bJ args c.args.toList
  | _=>false)
 | .callv f args=>(match o with
  | .call c=>(match c.callee with | .value x=>aQ f x | _=>false) && bJ args c.args.toList
  | _=>false)
 | .idxb x c=>(match o with
  | .call k=>(match pI k.callee with | some f=>akR P f | none=>false) && bJ [x,c] k.args.toList
  | _=>false)
 | .bad=>true
 | _=>false
def EO (v:VI):Bool :=
 v.dst.isNone && v.guard.isNone && v.th.isEmpty && (match v.op with
  | .kill _=>true
  | .free _=>true
  | .wk _ _=>true
  | .frz _=>true
  | .frzC _ _=>true
  | _=>false)
def uF (ops:Array Oper):Option (Nat×Bool)→Option (Nat×Bool)→Bool
 | none,none=>true
 | some (s,b),some (j,c)=>b == c && (match ops[j]? with
  | some o=>(match o.dst with | some d=>Nat.beq d s | none=>false)
  | none=>false)
 | _,_=>false
def rk (n:Nat) (ops:Array Oper) (v:VI) (o:Oper):Bool :=
 (match v.dst,o.dst with
  | none,none=>true
  | some a,some b=>Nat.beq a b && Nat.blt a n
  | _,_=>false) && uF ops v.guard o.guard && aw P v.op o.op
def Aj (n:Nat) (ops:Array Oper):List VI→List Oper→Bool
 | [],[]=>true
 | v::l,os=>match EO v with
  | true=>Aj n ops l os
  | false=>match os with
   | o::s=>rk P n ops v o && Aj n ops l s
   | []=>false
 | [],_::_=>false
end
def ir:Rd→List Nat
 | .s i=>[i]
 | .m i=>[i]
 | .c _=>[]
def co:Rd→List Nat
 | .m i=>[i]
 | _=>[]
def aJ (rs:List Rd):List Nat:=rs.flatMap ir
def ao (rs:List Rd):List Nat:=rs.flatMap co
def uJ:jq→Option (List Rd)
 | .mov x=>some [x]
 | .build _ ps=>some (iP ps)
 | .mks _ ps=>some ps
 | .ld _ 0 p=>some [p]
 | .nilck x=>some [x]
 | .bin _ x y=>some [x,y]
 | .binb _ x y=>some [x,y]
 | .bina _ _ x y=>some [x,y]
 | .un _ x=>some [x]
 | .conv _ x=>some [x]
 | .toStr x=>some [x]
 | .mkslice _ l c=>some [l,c]
 | .fa _ p=>some [p]
 | .fld _ _ x=>some [x]
 | .ia _ x i=>some [x,i]
 | .iarr _ _ p i=>some [p,i]
 | .ix _ _ _ x i=>some [x,i]
 | .ixs x i=>some [x,i]
 | .len x=>some [x]
 | .cap x=>some [x]
 | .minmax _ xs=>some xs
 | .mkfn _ first caps=>some (first++caps)
 | .call _ args=>some args
 | _=>none
def oC:jq→Option (List Nat×List Nat)
 | .pick c a b=>some (aJ [c,a,b],ao [c,a,b])
 | .ext j mv _=>some ([j],if mv then [j] else [])
 | .app _ (.c .nl) y=>some (aJ [y],ao [y])
 | .slice _ x lo hi mx=>some (aJ (x::(lo.toList++(hi.toList++(mx.toList++[])))),ao (x::(lo.toList++(hi.toList++(mx.toList++[])))))
 | v=>match uJ v with
  | some rs=>some (aJ rs,ao rs)
  | none=>none
def acA (i:VI):Option (List Nat×List Nat) :=
 match i.th with
 | _::_=>none
 | []=>match oC i.op with
  | none=>none
  | some (R,M)=>some ((match i.guard with | some (s,_)=>s::(R++M) | none=>R++M),(match i.dst with | some d=>d::M | none=>M))
def ko:List Nat→List Nat→Bool
 | [],_=>true
 | a::r,l=>!bR a l && ko r l
def lL (a b:VI):Bool:=match acA a,acA b with
 | some (R1,M1),some (R2,M2)=>ko M1 R2 && ko M1 M2 && ko M2 R1
 | _,_=>false
def nP:Ground→Bool
 | .textOnly _=>false
 | .gcOnly _=>false
 | _=>true
def EE (o:Oper) (j:Nat):Bool:=o.after.toList.any fun e=>Nat.beq e.on j && nP e.ground
def UQ (o:Oper) (v:VI):Nat→List VI→Bool
 | _,[]=>true
 | j,u::us=>(EE o j || lL u v) && UQ o v (j+1) us
def kN (P:Program) (n:Nat) (ops:Array Oper) (prev:List VI):List VI→List Oper→Bool
 | [],[]=>true
 | v::vs,o::os=>rk P n ops v o && UQ o v 0 prev && (o.after.toList.all fun e=>Nat.blt e.on prev.length) && kN P n ops (prev++[v]) vs os
 | _,_=>false
def Ca (i:VI) (l:List Nat):List Nat:=match i.guard with | some (s,_)=>s::l | none=>l
def nV (i:VI) (l:List Nat):List Nat:=match i.dst with | some d=>d::l | none=>l
inductive rJ where
 | q | t | a | p
def eO (i:VI):Option (rJ×List Nat×List Nat) :=
 match i.th with
 | _::_=>match oC i.op with
  | some (R,M)=>some (.a,Ca i (R++M),nV i M)
  | none=>none
 | []=>match i.op with
  | .ld _ 2 p=>some (.t,Ca i (ir p++co p),nV i (co p))
  | .app _ (.s x) y=>some (.p,Ca i (aJ [.s x,y]++ao [.s x,y]),nV i (ao [.s x,y]))
  | .app _ (.m x) y=>some (.p,Ca i (aJ [.m x,y]++ao [.m x,y]),nV i (ao [.m x,y]))
  | .alloc _=>some (.a,Ca i ([]++[]),nV i [])
  | .box x=>some (.a,Ca i (ir x++co x),nV i (co x))
  | v=>match oC v with
   | some (R,M)=>some (.q,Ca i (R++M),nV i M)
   | none=>none
def qm:rJ→rJ→Bool
 | .a,_=>false
 | .t,.t=>false
 | .p,.q=>true
 | .p,_=>false
 | _,.p=>false
 | _,_=>true
def yL (u v:VI):Bool:=match eO u,eO v with
 | some (k1,R1,M1),some (k2,R2,M2)=>qm k1 k2 && ko M1 R2 && ko M1 M2 && ko M2 R1
 | _,_=>false
def H4:List Nat→List Nat→List Nat
 | [],l=>l
 | a::r,l=>match bR a l with
  | true=>H4 r l
  | false=>H4 r (a::l)
def sOp:jq→Bool
 | .mov _=>true
 | .pick ..=>true
 | .build ..=>true
 | .mks ..=>true
 | .nilck _=>true
 | .bin ..=>true
 | .binb ..=>true
 | .bina ..=>true
 | .un ..=>true
 | .conv ..=>true
 | .mkfn ..=>true
 | .mkslice ..=>true
 | .fa ..=>true
 | .fld ..=>true
 | .iarr ..=>true
 | .ix ..=>true
 | .ixs ..=>true
 | .ext ..=>true
 | .len _=>true
 | .cap _=>true
 | .minmax ..=>true
 | _=>false
def amR:jq→Option (List Rd)
 | .ld _ _ p=>some [p]
 | .st _ p x=>some [p,x]
 | .cpy _ x y=>some [x,y]
 | .clr _ x=>some [x]
 | .calli _ args=>some args
 | .callv f args=>some (f::args)
 | _=>none
def fq (i:VI):Option (List Nat×List Nat) :=
 match eO i with
 | some (_,R,M)=>some (R,M)
 | none=>match amR i.op with
  | some rs=>some (Ca i (aJ rs++ao rs),nV i (ao rs))
  | none=>none
def oX (a:Bool) (i:VI):Option (List Nat×List Nat) :=
 match fq i with
 | some (R,M)=>match a with
  | false=>some (R,M)
  | true=>some (R++J6 (Kr i.op),M)
 | none=>none
def D5 (a:List (Nat×Nat)):Bool:=match a with | []=>true | _=>false
def kS (a:Bool) (i:VI):Bool:=!a && D5 i.th && sOp i.op
def isQ (i:VI):Bool:=match eO i with | some (.q,_)=>true | _=>false
def ZY (i:VI):Bool:=match eO i with | some (.p,_)=>true | _=>false
def Am (i:VI):Bool:=match jW i.op with | .read=>true | _=>false
def afd (i:VI):Bool:=match jW i.op with | .take=>true | _=>false
def S5 (i:VI):Bool:=match jW i.op with | .call=>true | _=>false
def PR (a:Bool) (i:VI):Bool:=isQ i && (!a || Am i)
def acM (a b:Bool) (u v:VI):Bool:=a && b && isQ u && Am u && S5 v
def wn (a b:Bool) (u v:VI):Bool:=match oX a u,oX b v with
 | some (R1,M1),some (R2,M2)=>ko M1 R2 && ko M1 M2 && ko M2 R1
 | _,_=>false
def Kt (a b:Bool) (u v:VI):Bool:=wn a b u v && (kS a u || kS b v || (PR a u && PR b v) || acM a b u v)
def rD (a:Bool) (i:VI):Bool:=a && afd i && D5 i.th
def UP (a b:Bool) (u v:VI):Bool :=
 (!a || rD a u) && (!b || rD b v) && (yL u v || (wn a b u v && ((rD a u && rD b v) || (rD a u && ZY v) || (ZY u && rD b v))))
def gS (a b:Bool) (u v:VI):Bool:=!a && !b && D5 u.th && D5 v.th && (match u.op,v.op,u.dst,v.dst,u.guard,v.guard with
 | .ext j _ i,.ext l _ k,some d,some c,none,none=>Nat.beq j l && !Nat.beq i k && !Nat.beq d c && !Nat.beq d j && !Nat.beq c j
 | _,_,_,_,_,_=>false)
def fK (a b:Bool) (u v:VI):Bool:=Kt a b u v || gS a b u v || (!kS b v && UP a b u v)
def KB (tab:List (Nat×List Nat)):List Edge→List Nat
 | []=>[]
 | e::r=>match nP e.ground with
  | true=>H4 (e.on::(match get tab e.on with | some l=>l | none=>[])) (KB tab r)
  | false=>KB tab r
def zn (ops:Array Oper):List Nat→List (Nat×List Nat)→List (Nat×List Nat)
 | [],tab=>tab
 | i::l,tab=>zn ops l ((i,match ops[i]? with | some o=>KB tab o.after.toList | none=>[])::tab)
def txG:Ground→Bool
 | .gcOnly _=>false
 | _=>true
def RW:Ground→Bool
 | .textOnly _=>false
 | _=>true
def yM (P:Program) (n:Nat) (ops:Array Oper) (k:Nat):Nat→List VI→List Oper→Bool
 | _,[],[]=>true
 | i,v::vs,o::os=>rk P n ops v o && (o.after.toList.all fun e=>Nat.blt e.on k && (!txG e.ground || Nat.blt e.on i)) && yM P n ops k (i+1) vs os
 | _,_,_=>false
def kq (anc:List (Nat×List Nat)) (k i:Nat):Bool:=match get anc k with | some l=>bR i l | none=>false
def SX (anc:List (Nat×List Nat)) (d:Nat) (l:List Nat) (i:Nat):Nat→List VI→Bool
 | _,[]=>true
 | k,v::r=>(Nat.beq k i || kq anc k i || (match fq v with
  | some (_,M)=>!bR d M && (kq anc i k || ko l M)
  | none=>false)) && SX anc d l i (k+1) r
def oM (v:VI):List Nat:=match v.op with
 | .mkslice _ l c=>aJ [l,c]
 | _=>[]
def lk (anc:List (Nat×List Nat)) (vs:List VI) (i:Nat):Bool:=match vs[i]? with
 | some v=>(match dr v with
  | some d=>SX anc d (oM v) i 0 vs && (match get anc i with
   | some l=>l.all (fun j=>match vs[j]? with
    | some u=>(match dr u with
     | some _=>false
     | none=>true)
    | none=>true)
   | none=>true)
  | none=>false)
 | none=>false
def Ua (anc:List (Nat×List Nat)) (i j:Nat):Nat→Bool
 | 0=>true
 | k+1=>(!kq anc k i || kq anc k j) && Ua anc i j k
def K5 (anc:List (Nat×List Nat)) (nr:List Nat) (vs:List VI) (j:Nat):List Nat→Bool
 | []=>true
 | i::r=>(kq anc i j || (match vs[j]?,vs[i]? with | some u,some v=>fK (bR j nr) (bR i nr) u v | _,_=>false) || (lk anc vs i && Ua anc i j vs.length && !kq anc j i)) && K5 anc nr vs j r
def ad9 (ops:Array Oper) (j:Nat) (l:List Nat):Bool:=match ops[j]? with
 | some o=>o.after.toList.all fun e=>!RW e.ground || !bR e.on l
 | none=>false
def KE (ops:Array Oper) (anc:List (Nat×List Nat)) (nr:List Nat) (vs:List VI):List Nat→Bool
 | []=>true
 | j::r=>K5 anc nr vs j r && !bR j r && Nat.blt j vs.length && KE ops anc nr vs r
def acq (ops:Array Oper):List Nat→Bool
 | []=>true
 | j::r=>ad9 ops j (j::r) && acq ops r
def TX (l:List Nat):Nat→Bool
 | 0=>true
 | n+1=>bR n l && TX l n
def acn (vs:List VI):List Nat→Bool
 | []=>true
 | i::r=>(match vs[i]? with | some v=>!Am v || isQ v | none=>true) && acn vs r
def Ab (P:Program) (n:Nat) (ops:Array Oper) (perm gco nr:List Nat) (vs:List VI):Bool :=
 yM P n ops vs.length 0 vs ops.toList && acn vs nr && TX gco vs.length && acq ops gco && TX perm vs.length && KE ops (zn ops perm []) nr vs perm
def lr:VC→Bool
 | .reg _ ops=>ops.all EO
 | .seq a b=>lr a && lr b
 | _=>false
inductive Mt (P:Program) (n:Nat):VC→Code→Prop
 | ghostL {a b:VC}{c:Code}:lr a=true→Mt P n b c→Mt P n (.seq a b) c
 | ghostR {a b:VC}{c:Code}:lr b=true→Mt P n a c→Mt P n (.seq a b) c
 | seq {a b:VC}{c d:Code}:Mt P n a c→Mt P n b d→Mt P n (.seq a b) (.seq c d)
 | skip:Mt P n .skip .skip
 | reg {ops:List VI}{id:Nat}{os:Array Oper}:Aj P n os ops os.toList=true→Mt P n (.reg false ops) (.region id os false)
 | draw {ops:List VI}{id:Nat}{os:Array Oper}:kN P n os [] ops os.toList=true→Mt P n (.reg true ops) (.region id os true)
 | drawP {perm gco nr:List Nat}{ops:List VI}{id:Nat}{os:Array Oper}:Ab P n os perm gco nr ops=true→Mt P n (.regP perm gco nr ops) (.region id os true)
 | cond {r:Rd}{o:Operand}{a b:VC}{c d:Code}:aQ r o=true→Mt P n a c→Mt P n b d→Mt P n (.cond r a b) (.cond o c d)
 | block {id:Nat}{a:VC}{c:Code}:Mt P n a c→Mt P n (.block id a) (.block id c)
 | loop {a:VC}{c:Code}:Mt P n a c→Mt P n (.loop a) (.loop c)
 | rangeF {r:Rd}{o:Operand}{ps:List Nat}{qs:Array Nat}{a b:VC}{c d:Code}:aQ r o=true→qs=ps.toArray→(∀ p∈ps,p<n)→Mt P n a c→Mt P n b d→Mt P n (.rangeF r ps a b) (.rangeFunc o qs c d)
 | exit {id:Nat}:Mt P n (.exit id) (.exit id)
 | scope {a:VC}{c:Code}:Mt P n a c→Mt P n (.scope a) (.scope c)
 | label {l:Nat}:Mt P n (.label l) (.label l)
 | goto {l:Nat}:Mt P n (.goto l) (.goto l)
 | ret:Mt P n .ret .ret
def Ew:List Nat→List Nat→Bool
 | [],[]=>true
 | a::r,b::s=>Nat.beq a b && Ew r s
 | _,_=>false
theorem ZG:∀ {a b:List Nat},Ew a b=true→a=b
 | [],[],_=>rfl
 | a::r,b::s,h=>by
  simp only[Ew,Bool.and_eq_true,Nat.beq_eq]at h
  rw[h.1,ZG h.2]
 | [],_::_,h=>by simp[Ew]at h
 | _::_,[],h=>by simp[Ew]at h
def acw (n:Nat):List Nat→Bool
 | []=>true
 | a::r=>Nat.blt a n && acw n r
theorem aaA {n:Nat}:∀ {l:List Nat},acw n l=true→∀ p∈l,p<n
 | [],_,p,hp=>by simp at hp
 | a::r,h,p,hp=>by
  simp only[acw,Bool.and_eq_true,Nat.blt_eq]at h
  rcases List.mem_cons.1 hp with rfl | hp
  ·exact h.1
  ·exact aaA h.2 p hp
def eU (P:Program) (n:Nat):VC→Code→Bool
 | .seq a b,c=>(lr a && eU P n b c) || (lr b && eU P n a c) || (match c with
  | .seq x y=>eU P n a x && eU P n b y
  | _=>false)
 | .skip,.skip=>true
 | .reg d ops,.region _ os d'=>(!d && !d' && Aj P n os ops os.toList) || (d && d' && kN P n os [] ops os.toList)
 | .regP perm gco nr ops,.region _ os d'=>d' && Ab P n os perm gco nr ops
 | .cond r a b,.cond o x y=>aQ r o && eU P n a x && eU P n b y
 | .block i a,.block j x=>Nat.beq i j && eU P n a x
 | .loop a,.loop x=>eU P n a x
 | .rangeF r ps a b,.rangeFunc o qs x y=>aQ r o && Ew ps qs.toList && acw n ps && eU P n a x && eU P n b y
 | .exit i,.exit j=>Nat.beq i j
 | .scope a,.scope x=>eU P n a x
 | .label i,.label j=>Nat.beq i j
 | .goto i,.goto j=>Nat.beq i j
 | .ret,.ret=>true
 | _,_=>false
theorem eD {P:Program}{n:Nat}:∀ (v:VC) (c:Code),eU P n v c=true→Mt P n v c
 | .seq a b,c,h=>by
  simp only[eU,Bool.or_eq_true,Bool.and_eq_true]at h
  rcases h with (⟨h1,h2⟩ | ⟨h1,h2⟩) | h
  ·exact .ghostL h1 (eD b c h2)
  ·exact .ghostR h1 (eD a c h2)
  ·cases c<;>simp only[Bool.and_eq_true,Bool.false_eq_true]at h
   exact .seq (eD a _ h.1) (eD b _ h.2)
 | .skip,c,h=>by cases c<;>simp_all [eU];exact .skip
 | .reg d ops,c,h=>by
  cases c<;>simp only[eU,Bool.or_eq_true,Bool.and_eq_true,Bool.not_eq_true',Bool.false_eq_true]at h
  rcases h with ⟨⟨h1,h2⟩,h⟩ | ⟨⟨h1,h2⟩,h⟩
  ·subst h1 h2;exact .reg h
  ·subst h1 h2;exact .draw h
 | .regP perm gco nr ops,c,h=>by
  cases c<;>simp only[eU,Bool.and_eq_true,Bool.false_eq_true]at h
  obtain⟨h1,h⟩:=h
  subst h1;exact .drawP h
 | .cond r a b,c,h=>by
  cases c<;>simp[eU]at h
  exact .cond h.1.1 (eD a _ h.1.2) (eD b _ h.2)
 | .block i a,c,h=>by
  cases c<;>simp only[eU,Bool.and_eq_true,Bool.false_eq_true]at h
  obtain⟨h1,h2⟩:=h
  rw[Nat.beq_eq]at h1;subst h1
  exact .block (eD a _ h2)
 | .loop a,c,h=>by
  cases c<;>simp only[eU,Bool.false_eq_true]at h
  exact .loop (eD a _ h)
 | .exit i,c,h=>by
  cases c<;>simp only[eU,Bool.false_eq_true]at h
  rw[Nat.beq_eq]at h;subst h;exact .exit
 | .scope a,c,h=>by
  cases c<;>simp only[eU,Bool.false_eq_true]at h
  exact .scope (eD a _ h)
 | .label i,c,h=>by
  cases c<;>simp only[eU,Bool.false_eq_true]at h
  rw[Nat.beq_eq]at h;subst h;exact .label
 | .goto i,c,h=>by
  cases c<;>simp only[eU,Bool.false_eq_true]at h
  rw[Nat.beq_eq]at h;subst h;exact .goto
 | .ret,c,h=>by cases c<;>simp[eU]at h;exact .ret
 | .rangeF r ps a b,c,h=>by
  cases c<;>simp only[eU,Bool.and_eq_true,Bool.false_eq_true]at h
  obtain⟨⟨⟨⟨h1,h2⟩,h3⟩,h4⟩,h5⟩:=h
  have h2:=ZG h2
  exact .rangeF h1 (by rw[h2]) (aaA h3) (eD a _ h4) (eD b _ h5)
 | .inScope _ _,c,h=>by cases c<;>simp[eU]at h
 | .clone _,c,h=>by cases c<;>simp[eU]at h
 | .late _ _ _ _,c,h=>by cases c<;>simp[eU]at h
def f8 (P:Program):List lU→List ResultVar→Bool
 | [],[]=>true
 | .tmp i::r,.tmp j::s=>Nat.beq i j && f8 P r s
 | .cell i n::r,.cell j ty::s=>Nat.beq i j && iU P ty n && f8 P r s
 | _,_=>false
def Db (o:Oper) (d:Nat):Bool:=(match o.dst with | some e=>Nat.beq d e | none=>false) && o.guard.isNone
def Rt:Operand→Bool
 | .const (.slice none 0 0)=>true
 | _=>false
def vd (i:Nat):Operand→Bool
 | .tmp j=>Nat.beq i j
 | _=>false
def Uj (d:Nat):List Oper→Bool
 | [o]=>Db o d && (match o.op with | .assign x=>Rt x | _=>false)
 | _=>false
def aeM (P:Program) (m:Nat):List Oper→Bool
 | [a,b]=>Db a 3 && (match a.op with | .move x=>vd 0 x | _=>false) && Db b 4 &&
   (match b.op with | .binOp .eql T x y _=>dL P T m && vd 3 x && Rt y | _=>false)
 | _=>false
def ae9 (P:Program) (m:Nat):List Oper→Bool
 | [a,b,c,d]=>Db a 5 && (match a.op with | .buildSlice T 0 ps=>dL P T m && ps.isEmpty | _=>false) && Db b 6 && (match b.op with | .move x=>vd 0 x | _=>false) && Db c 7 &&
   (match c.op with
    | .call k=>Hb (jA k.callee) (some .append) && KC k && dL P (jT k) m && il P (jT k) m && (match P.underlying (k.argTypes.getD 1 0) with | some (.slice _)=>true | _=>false) &&
      (match k.args.toList with | [x,y]=>vd 5 x && vd 6 y | _=>false)
    | _=>false) && Db d 2 && (match d.op with | .assign x=>vd 7 x | _=>false)
 | _=>false
def Ff (P:Program) (m:Nat):Code→Bool
 | .seq (.region _ r0 false) (.seq (.seq (.region _ r1 false) (.cond (.tmp 4) (.seq (.region _ r2 false) .ret) .skip)) (.seq (.region _ r3 false) .ret)) =>
  Uj 2 r0.toList && aeM P m r1.toList && Uj 2 r2.toList && ae9 P m r3.toList
 | _=>false
def Rw (P:Program) (m:Nat) (vf:af) (f:FuncId):Bool:=match P.funcs[f]? with
 | some fn=>match fn.body with
  | some c=>(match vf.body with | .clone k=>Nat.beq k m | _=>false) && (match vf.results with | [.tmp 2]=>true | _=>false) && f8 P vf.results fn.results.toList && Nat.beq vf.nparams 1 && Nat.ble 8 fn.ntmps && Ff P m c && (fn.name != "runtime.NumGoroutine")
  | none=>false
 | none=>false
def K0 (P:Program) (n i d f:Nat) (a:VC):Code→Bool
 | .seq (.region _ os false) rest=>(match os.toList with
  | [m,k]=>Db m d && (match m.op with | .move x=>vd i x | _=>false) && k.dst.isNone && k.guard.isNone &&
    (match k.op with
     | .defer c=>(match pI c.callee with | some g=>Nat.beq f g | none=>false) && (match c.args.toList with | [x]=>vd d x | _=>false)
     | _=>false)
  | _=>false) && Nat.blt d n && eU P n a rest
 | _=>false
def Z6 (P:Program) (i d f:Nat) (a:VC) (vf:af) (k:FuncId):Bool:=match P.funcs[k]? with
 | some fn=>match fn.body with
  | some c=>K0 P fn.ntmps i d f a c && Nat.ble vf.nparams fn.ntmps && f8 P vf.results fn.results.toList && (fn.name != "runtime.NumGoroutine")
  | none=>false
 | none=>false
def am5 (P:Program) (vf:af) (f:FuncId):Bool:=match P.funcs[f]? with
 | some fn=>match fn.body with
  | some c=>eU P fn.ntmps vf.body c && Nat.ble vf.nparams fn.ntmps && f8 P vf.results fn.results.toList && (fn.name != "runtime.NumGoroutine")
  | none=>false
 | none=>false
end Go.Vm
namespace Go.Vm
def gT:aU→Option Code
 | .normal=>none
 | .exit i=>some (.exit i)
 | .goto l=>some (.goto l)
 | .ret=>some .ret
abbrev fj (g:Gh) (w:World) (e:ak) (t:Array Value) (O:Nat→Nat):Prop :=
 RL (fun k v O=>k<t.size∧RV g w v (t.getD k undef) O) e O
def bf (P:Program) (g:Gh) (w:World) (id:Nat):Obj→(Nat→Nat)→Prop
 | .cells cs,O=>∃ b c el O1,g.obj id=some b∧g.base id=0∧g.esz id=1∧g.bsz id=cs.length∧
   w.heap[b]?=some (.cells c el (0,0))∧RVs g w cs c.toList O1∧(∀ o,¬ g.pm b o)∧∀ x,O x=O1 x+one b x
 | .arr m xs,O=>(xs=[]∧g.bsz id=0∧g.esz id=m∧0<m∧(∃ b,g.obj id=some b)∧∀ b,O b=0)∨
   ∃ b c el,g.obj id=some b∧g.esz id=m∧0<m∧w.heap[b]?=some (.cells c el (0,0))∧g.bsz id≤c.size∧
    g.base id+xs.length*m≤g.bsz id∧(∀ e∈xs,e.length=m)∧fC w g.pm xs.flatten b (g.base id)∧(∀ o,¬ g.pm b o)∧∀ x,O x=one b x
 | .loop snap params assign body busy pend,O=>∃ b,∃ rc:Go.Loop,g.obj id=some b∧w.heap[b]?=some (.loop rc)∧
   rc.state=(if busy then .busy else if pend.isNone then .ready else .done)∧rc.pending=pend.bind gT∧rc.params=params.toArray∧
   Mt P rc.tmps.size assign rc.assign∧Mt P rc.tmps.size body rc.body∧aX snap∧fj g w snap rc.tmps zero∧(∀ p∈params,p<rc.tmps.size)∧
   ∀ x,O x=one b x
abbrev rP (P:Program) (g:Gh) (w:World) (h:ac) (O:Nat→Nat):Prop:=RL (bf P g w) h O
structure S (P:Program) (g:Gh) (w:World) (st:St) (t:Array Value) (O:Nat→Nat):Prop where
 se:aX st.env
 sh:aX st.hs.heap
 parts:∃ Oe Oh,fj g w st.env t Oe∧rP P g w st.hs.heap Oh∧∀ b,O b=Oe b+Oh b
 le:∀ b,O b≤1
 hi:∀ b,O b≠0→b<w.heap.size
 fresh:∀ id,st.hs.next≤id→g.obj id=none
 pmlt:∀ b o,g.pm b o→b<w.heap.size
def ev (t:Array Value):Operand→Value
 | .tmp i=>t.getD i undef
 | .const v=>v
 | .global g=>.pointer (some ⟨g,0,none⟩)
 | .func f=>.func (.func f) #[] #[]
theorem qy {a b:IntKind}(h:iu a b=true):a=b:=by
 cases a<;>cases b<;>first | rfl | (simp[iu]at h)
theorem RD.const {w:World}{pm:Nat→Nat→Prop}{c:D}{v:Value}(h:okD c v=true):RD w pm c v:=by
 unfold okD at h
 split at h
 ·simp only[Bool.and_eq_true,decide_eq_true_eq]at h
  obtain⟨h1,rfl⟩:=h
  rw[qy h1];exact .int _ _
 ·simp only[beq_iff_eq]at h;subst h;exact .bool _
 ·rename_i s t
  simp only[beq_iff_eq]at h;subst h
  have:=RD.str (w:=w) (pm:=pm) t.data.toList
  simpa using this
 ·exact .nil _ _
 ·simp at h
theorem RV.const1 {g:Gh}{w:World}{c:AV}{v:Value}(h:Fk c v=true):RV g w c v zero:=by
 unfold Fk at h
 split at h
 ·simp at h
 ·rename_i x y hx
  simp only[RV];exact⟨.const h,fun _=>trivial⟩
 ·simp[RV]
 ·simp[RV]
 ·simp[RV]
 ·simp at h
theorem RVs.consts {g:Gh}{w:World}:∀ {cs:List AV}{vs:List Value},jc cs vs=true→RVs g w cs vs zero
 | [],[],_=>by simp only[RVs];exact⟨trivial,fun _=>trivial⟩
 | c::cs,v::vs,h=>by
  simp only[jc,Bool.and_eq_true]at h
  simp only[RVs]
  exact⟨v,vs,zero,zero,rfl,.const1 h.1,RVs.consts h.2,fun _=>rfl⟩
 | [],_::_,h=>by simp[jc]at h
 | _::_,[],h=>by simp[jc]at h
theorem RV.const {g:Gh}{w:World}{c:AV}{v:Value}(h:XU c v=true):RV g w c v zero:=by
 unfold XU at h
 split at h
 ·simp only[RV];exact⟨_,rfl,RVs.consts h⟩
 ·exact .const1 h
section
variable {P:Program}{g:Gh}{w:World}{t:Array Value}{O:Nat→Nat}
theorem S.of_env {st:St}(s:S P g w st t O) {Oe Oh O':Nat→Nat}{e':ak}(re:fj g w e' t Oe) (rh:rP P g w st.hs.heap Oh) (hse:aX e')
  (ho:∀ b,O' b=Oe b+Oh b) (hle:∀ b,O' b≤O b):S P g w ⟨e',st.hs⟩ t O' :=
 ⟨hse,s.sh,⟨Oe,Oh,re,rh,ho⟩,fun b=>Nat.le_trans (hle b) (s.le b),fun b hb=>s.hi b (by have:=hle b;omega),s.fresh,s.pmlt⟩
theorem S.rd {st:St}(s:S P g w st t O) {r:Rd}{o:Operand}(hc:aQ r o=true) {v:AV}{e':ak}(h:rd st.env r=some (v,e')) :
  ∃ Ov O',RV g w v (ev t o) Ov∧S P g w ⟨e',st.hs⟩ t O'∧∀ b,Ov b+O' b≤O b:=by
 obtain⟨Oe,Oh,re,rh,ho⟩:=s.parts
 cases r with
 | c c =>
  simp only[Vm.rd,Option.some.injEq,Prod.mk.injEq]at h
  obtain⟨rfl,rfl⟩:=h
  refine⟨zero,O,?_,s,fun b=>by simp⟩
  cases o with
  | const x=>simp only[aQ]at hc;exact .const hc
  | func f =>
   cases c<;>try (simp[aQ]at hc;done)
   rename_i f' a c
   cases a<;>try (simp[aQ]at hc;done)
   cases c<;>try (simp[aQ]at hc;done)
   simp only[aQ,Nat.beq_eq]at hc
   subst hc
   simp only[RV,ev]
   exact⟨⟨#[],#[],rfl,by simp[RVs],by simp[RVs]⟩,fun _=>trivial⟩
  | tmp i=>simp[aQ]at hc
  | global i=>simp[aQ]at hc
 | s i =>
  cases o<;>try (simp[aQ]at hc;done)
  rename_i j
  simp only[aQ,Nat.beq_eq]at hc
  subst hc
  simp only[Vm.rd]at h
  cases hg:get st.env i with
  | none=>simp[hg]at h
  | some u =>
   simp only[hg,Option.some.injEq,Prod.mk.injEq]at h
   obtain⟨rfl,rfl⟩:=h
   obtain⟨O1,⟨_,q⟩,hq⟩:=RL.get re hg
   exact⟨zero,O,RV.share u _ O1 q,s,fun b=>by simp⟩
 | m i =>
  cases o<;>try (simp[aQ]at hc;done)
  rename_i j
  simp only[aQ,Nat.beq_eq]at hc
  subst hc
  simp only[Vm.rd]at h
  cases hg:get st.env i with
  | none=>simp[hg]at h
  | some u =>
   simp only[hg,Option.some.injEq,Prod.mk.injEq]at h
   obtain⟨rfl,rfl⟩:=h
   obtain⟨O1,O2,⟨_,q⟩,r2,hs⟩:=RL.take re hg
   refine⟨O1,fun b=>O2 b+Oh b,q,s.of_env r2 rh (s.se.del i) (fun _=>rfl) (fun b=>?_),fun b=>?_⟩
   ·have:=hs b;have:=ho b;show O2 b+Oh b≤O b;omega
   ·have:=hs b;have:=ho b;show O1 b+(O2 b+Oh b)≤O b;omega
theorem S.rdAll {st:St}{rs:List Rd}{os:List Operand}(hc:bJ rs os=true) {vs:List AV}{e':ak}(s:S P g w st t O) (h:rdAll st.env rs=some (vs,e')) :
  ∃ Ov O',RVs g w vs (os.map (ev t)) Ov∧S P g w ⟨e',st.hs⟩ t O'∧∀ b,Ov b+O' b≤O b:=by
 induction rs generalizing os vs st O with
 | nil =>
  cases os<;>simp[bJ]at hc
  simp only[Vm.rdAll,Option.some.injEq,Prod.mk.injEq]at h
  obtain⟨rfl,rfl⟩:=h
  exact⟨zero,O,by simp[RVs],s,fun b=>by simp⟩
 | cons r rs ih =>
  cases os with
  | nil=>simp[bJ]at hc
  | cons o os =>
   simp only[bJ,Bool.and_eq_true]at hc
   simp only[Vm.rdAll]at h
   cases h1:Vm.rd st.env r with
   | none=>simp[h1]at h
   | some p =>
    obtain⟨v,e1⟩:=p
    simp only[h1]at h
    cases h2:Vm.rdAll e1 rs with
    | none=>simp[h2]at h
    | some p =>
     obtain⟨us,e2⟩:=p
     simp only[h2,Option.some.injEq,Prod.mk.injEq]at h
     obtain⟨rfl,rfl⟩:=h
     obtain⟨O1,O2,rv,s2,l2⟩:=s.rd hc.1 h1
     obtain⟨O3,O4,rvs,s4,l4⟩:=ih (st:=⟨e1,st.hs⟩) hc.2 s2 h2
     refine⟨fun b=>O1 b+O3 b,O4,?_,s4,fun b=>?_⟩
     ·simp only[RVs,List.map_cons]
      exact⟨_,_,O1,O3,rfl,rv,rvs,fun _=>rfl⟩
     ·have:=l2 b;have:=l4 b;show O1 b+O3 b+O4 b≤O b;omega
end
end Go.Vm
namespace Go.Vm
structure auk (P:Program) (g:Gh) (w:World) (t:Array Value) (O:Nat→Nat) (st':St) (a:AV) (res:Result Next) (x:Value) (w':World) (g':Gh) (Oa O':Nat→Nat):Prop where
 run:res=.ok (.value x) w'∨(res=.ok .skip w'∧x=undef)
 val:RV g' w' a x Oa
 st:S P g' w' st' t O'
 ext:aE g w g' w' fun b=>O b≠0
 le:∀ b,Oa b+O' b≤1
 old:∀ b,b<w.heap.size→Oa b+O' b≤O b
 hi:∀ b,Oa b≠0→b<w'.heap.size
def cN (P:Program) (g:Gh) (w:World) (t:Array Value) (O:Nat→Nat) (st':St) (a:AV) (res:Result Next):Prop :=
 ∃ x w' g' Oa O',auk P g w t O st' a res x w' g' Oa O'
section
variable {P:Program}{g:Gh}{w:World}{t:Array Value}{O:Nat→Nat}{st st':St}{a:AV}{o:Oper}
theorem cN.pure {res:Result Next}{x:Value}{Oa O':Nat→Nat}(s0:S P g w st t O) (h:res=.ok (.value x) w) (r:RV g w a x Oa)
  (s:S P g w st' t O') (hle:∀ b,Oa b+O' b≤O b):cN P g w t O st' a res :=
 ⟨x,w,g,Oa,O',.inl h,r,s,.refl _ _ _,fun b=>Nat.le_trans (hle b) (s0.le b),fun b _=>hle b,fun b hb=>s0.hi b (by have:=hle b;omega)⟩
theorem cN.flat {res:Result Next}{x:Value}{O':Nat→Nat}(s0:S P g w st t O) (h:res=.ok (.value x) w) (r:RV g w a x zero)
  (s:S P g w st' t O') (hle:∀ b,O' b≤O b):cN P g w t O st' a res :=
 .pure s0 h r s fun b=>by have:=hle b;simp;exact this
theorem S.le_left {O' Ov:Nat→Nat}(h:∀ b,Ov b+O' b≤O b):∀ b,O' b≤O b:=fun b=>by have:=h b;omega
theorem Eg {e:ak}{r:Rd}{α:Type}{k:AV→ak→Option α}{y:α}
  (h:(match rd e r with | some (v,e)=>k v e | none=>none)=some y):∃ v e',rd e r=some (v,e')∧k v e'=some y:=by
 cases h1:rd e r with
 | none=>simp[h1]at h
 | some p=>obtain⟨v,e'⟩:=p;exact⟨v,e',rfl,by simpa [h1] using h⟩
theorem aqz {x:Rd}(s:S P g w st t O) (h:KL x st=some (a,st')) (hc:aw P (.mov x) o.op=true) :
  cN P g w t O st' a ((execOp (ev t) o).run P w):=by
 obtain⟨v,e',h1,h2⟩:=Eg h
 simp only[Option.some.injEq,Prod.mk.injEq]at h2
 obtain⟨rfl,rfl⟩:=h2
 obtain⟨dst,op,ty,pos,aft,gd⟩:=o
 simp only[aw]at hc
 split at hc
 ·obtain⟨Ov,O',rv,s',l⟩:=s.rd hc h1
  exact .pure s (by simp[execOp]) rv s' l
 ·obtain⟨Ov,O',rv,s',l⟩:=s.rd hc h1
  exact .pure s (by simp[execOp]) rv s' l
 ·rename_i c
  simp only[Bool.and_eq_true]at hc
  obtain⟨⟨⟨hb,ha⟩,ht⟩,hx⟩:=hc
  cases x with
  | s i=>simp at hx
  | m i=>simp at hx
  | c y =>
   split at hx
   ·rename_i n hy
    cases hu:P.underlying (jT c) with
    | none=>simp[hu]at hx
    | some d =>
     cases d<;>simp[hu]at hx
     rename_i l e
     injection hy with hy
     subst hy
     subst hx
     simp only[Vm.rd,Option.some.injEq,Prod.mk.injEq]at h1
     obtain⟨rfl,rfl⟩:=h1
     obtain⟨callee,args,argTypes⟩:=c
     have hcal:callee=.builtin .len:=by
      cases callee<;>simp[jA,Hb]at hb
      subst hb;rfl
     subst hcal
     have hty:argTypes[0]?=some (jT ⟨.builtin .len,args,argTypes⟩):=by
      simp only[jT]
      have:0<argTypes.size:=by simpa [Nat.blt_eq] using ht
      simp[Array.getD,this]
     have hargs:∃ z,(args.map (ev t))[0]?=some z:=by
      have:0<args.size:=by simpa [Nat.blt_eq] using ha
      exact⟨ev t args[0],by simp[this]⟩
     obtain⟨z,hz⟩:=hargs
     refine .flat s (x:=.int .i64 l) ?_ (by simp only[RV];exact⟨.int _ _,fun _=>trivial⟩) s (fun b=>Nat.le_refl _)
     simp[execOp,resolve,invoke,builtin,Builtin.len_,hty,hz,underlying,hu,goInt]
   ·simp at hx
 ·simp at hc
theorem anu {c x y:Rd}(s:S P g w st t O) (h:fo c x y st=some (a,st')) (hc:aw P (.pick c x y) o.op=true) :
  cN P g w t O st' a ((execOp (ev t) o).run P w):=by
 obtain⟨dst,op,ty,pos,aft,gd⟩:=o
 simp only[aw]at hc
 split at hc
 ·rename_i c' a' b'
  simp only[Bool.and_eq_true]at hc
  obtain⟨⟨h1,h2⟩,h3⟩:=hc
  unfold fo at h
  cases hr:rd st.env c with
  | none=>simp[hr]at h
  | some p =>
   obtain⟨v,e1⟩:=p
   obtain⟨Ov,O1,rv,s1,l1⟩:=s.rd h1 hr
   simp only[hr]at h
   cases v<;>try (simp at h;done)
   rename_i d
   cases d<;>try (simp at h;done)
   rename_i tb
   simp only at h
   have hev:ev t c'=.bool tb:=by
    simp only[RV]at rv;obtain⟨rv,_⟩:=rv;generalize ev t c'=z at rv;cases rv;rfl
   obtain⟨v,e2,h4,h5⟩:=Eg h
   simp only[Option.some.injEq,Prod.mk.injEq]at h5
   obtain⟨rfl,rfl⟩:=h5
   cases tb with
   | true =>
    obtain⟨Ov2,O2,rv2,s2,l2⟩:=s1.rd h2 h4
    exact .pure s (by simp[execOp,hev,asBool]) rv2 s2 fun b=>by have:=l1 b;have:=l2 b;omega
   | false =>
    obtain⟨Ov2,O2,rv2,s2,l2⟩:=s1.rd h3 h4
    exact .pure s (by simp[execOp,hev,asBool]) rv2 s2 fun b=>by have:=l1 b;have:=l2 b;omega
 ·simp at hc
theorem ams {x:Rd}(s:S P g w st t O) (h:yI x st=some (a,st')) (hc:aw P (.nilck x) o.op=true) :
  cN P g w t O st' a ((execOp (ev t) o).run P w):=by
 obtain⟨dst,op,ty,pos,aft,gd⟩:=o
 simp only[aw]at hc
 split at hc
 ·rename_i y
  obtain⟨v,e',h1,h2⟩:=Eg h
  obtain⟨Ov,O',rv,s',l⟩:=s.rd hc h1
  cases v<;>simp only[Option.some.injEq,Prod.mk.injEq,reduceCtorEq]at h2
  all_goals
   obtain⟨rfl,rfl⟩:=h2
   refine .pure s ?_ rv s' l
   simp only[RV]at rv
  ·obtain⟨⟨b,_,e⟩,_⟩:=rv;simp[execOp,e]
  ·obtain⟨⟨b,_,e⟩,_⟩:=rv;simp[execOp,e]
  ·obtain⟨⟨b,o,e,_⟩,_⟩:=rv;simp[execOp,e]
  ·obtain⟨⟨xs,ys,e,_⟩,_⟩:=rv;simp[execOp,e]
  ·obtain⟨⟨b,_,e⟩,_⟩:=rv;simp[execOp,e]
 ·simp at hc
theorem agE {k:IntKind}{n:Int}(h1:k.min≤n) (h2:n≤k.max):k.wrap n=n:=by
 cases k<;>simp[IntKind.min,IntKind.max,IntKind.signed,IntKind.bits]at h1 h2<;>
  simp[IntKind.wrap,IntKind.bits,IntKind.signed]<;>
  first | omega | (split<;>omega)
theorem Gw (k:IntKind) (n:Int):wr k n=k.wrap n:=by
 have H:∀ lo hi:Int,lo=k.min→hi=k.max→iV lo hi k n=k.wrap n:=by
  intro lo hi e1 e2
  unfold iV
  split
  ·rename_i h
   simp only[Bool.and_eq_true,decide_eq_true_eq]at h
   exact(agE (by omega) (by omega)).symm
  ·rfl
 cases k<;>first | rfl | exact H _ _ (by decide) (by decide)
theorem ox {v:AV}{x:Value}{Ov:Nat→Nat}{k:IntKind}{n:Int}(r:RV g w v x Ov) (h:v=.d (.int k n)):x=.int k n:=by
 subst h;simp only[RV]at r;cases r.1;rfl
theorem api {k:IntKind}{x:Rd}(s:S P g w st t O) (h:A8 k x st=some (a,st')) (hc:aw P (.conv k x) o.op=true) :
  cN P g w t O st' a ((execOp (ev t) o).run P w):=by
 obtain⟨dst,op,ty,pos,aft,gd⟩:=o
 simp only[aw]at hc
 split at hc
 ·rename_i src ds y
  simp only[Bool.and_eq_true]at hc
  obtain⟨⟨h1,h2⟩,h3⟩:=hc
  unfold A8 at h
  cases hr:rd st.env x with
  | none=>simp[hr]at h
  | some p =>
   obtain⟨v,e1⟩:=p
   obtain⟨Ov,O1,rv,s1,l1⟩:=s.rd h3 hr
   simp only[hr]at h
   cases v<;>try (simp at h;done)
   rename_i d
   cases d<;>try (simp at h;done)
   rename_i j n
   simp only[Option.some.injEq,Prod.mk.injEq]at h
   obtain⟨rfl,rfl⟩:=h
   have hx:=ox rv rfl
   simp only[ai5]at h1
   simp only[BR]at h2
   cases hd:P.underlying ds with
   | none=>simp[hd]at h1
   | some dd =>
    cases dd<;>simp[hd]at h1
    have:=qy h1
    subst this
    cases hs:P.underlying src with
    | none=>simp[hs]at h2
    | some sd =>
     cases sd<;>simp[hs]at h2
     refine .flat s (x:=.int _ (IntKind.wrap _ n)) ?_ (by simp only[RV];exact⟨by rw[Gw];exact .int _ _,fun _=>trivial⟩) s1 (S.le_left l1)
     simp[execOp,convert,hx,underlying,hd,hs,Conv.intToInt]
 ·simp at hc
end
end Go.Vm
namespace Go.Vm
section
variable {P:Program}{g:Gh}{w:World}{t:Array Value}{O:Nat→Nat}{st st':St}{a:AV}{o:Oper}
theorem qA {v:AV}{x:Value}{Ov:Nat→Nat}{b:Bool}(r:RV g w v x Ov) (h:v=.d (.bool b)):x=.bool b:=by
 subst h;simp only[RV]at r;obtain⟨r,_⟩:=r;cases r;rfl
theorem aeL {v:AV}{x:Value}{Ov:Nat→Nat}{s:List UInt8}(r:RV g w v x Ov) (h:v=.d (.str s)):x=.string ⟨s.toArray⟩:=by
 subst h;simp only[RV]at r;obtain⟨r,_⟩:=r;cases r;rfl
theorem ln (k:IntKind) (n:Int):RV g w (.d (.int k n)) (.int k n) zero:=by simp only[RV];exact⟨.int _ _,fun _=>trivial⟩
theorem yF (b:Bool):RV g w (.d (.bool b)) (.bool b) zero:=by simp only[RV];exact⟨.bool _,fun _=>trivial⟩
theorem Km {x y:Rd}{x' y':Operand}(s:S P g w st t O) (hx:aQ x x'=true) (hy:aQ y y'=true) {β:Type}{k:AV→AV→ak→Option β}{r:β}
  (h:(match rd st.env x with
   | some (a,e)=>(match rd e y with
    | some (b,e)=>k a b e
    | none=>none)
   | none=>none)=some r) :
  ∃ a b e Oa Ob O',RV g w a (ev t x') Oa∧RV g w b (ev t y') Ob∧S P g w ⟨e,st.hs⟩ t O'∧(∀ c,Oa c+Ob c+O' c≤O c)∧k a b e=some r:=by
 obtain⟨a,e1,h1,h2⟩:=Eg h
 obtain⟨b,e2,h3,h4⟩:=Eg h2
 obtain⟨Oa,O1,ra,s1,l1⟩:=s.rd hx h1
 obtain⟨Ob,O2,rb,s2,l2⟩:=s1.rd hy h3
 exact⟨a,b,e2,Oa,Ob,O2,ra,rb,s2,fun c=>by have:=l1 c;have:=l2 c;omega,h4⟩
theorem SW (op:BinOp) (ty:TypeId) (x y:Operand) (k j:IntKind) (m n:Int):(eqGuard op ty x y (.int k m) (.int j n)).run P w=.ok () w:=by
 unfold eqGuard;split<;>simp
theorem Pc (op:BinOp) (ty:TypeId) (x y:Operand) (m n:Bool):(eqGuard op ty x y (.bool m) (.bool n)).run P w=.ok () w:=by
 unfold eqGuard;split<;>simp
theorem U0 (op:BinOp) (ty:TypeId) (x y:Operand) (m n:ByteArray):(eqGuard op ty x y (.string m) (.string n)).run P w=.ok () w:=by
 unfold eqGuard;split<;>simp
theorem aoD (bs:ByteArray):∀ (n i:Nat) (r:List UInt8),bs.size-i=n→ByteArray.toList.loop bs i r=r.reverse++bs.data.toList.drop i:=by
 intro n
 induction n with
 | zero =>
  intro i r h
  rw[ByteArray.toList.loop]
  have hi:¬ i<bs.size:=by omega
  have:bs.data.toList.length≤i:=by show bs.size≤i;omega
  simp[hi,List.drop_eq_nil_of_le this]
 | succ n ih =>
  intro i r h
  have hi:i<bs.size:=by omega
  rw[ByteArray.toList.loop]
  simp only[hi,if_true]
  rw[ih (i+1) _ (by omega)]
  have hd:bs.data.toList.drop i=bs.get! i::bs.data.toList.drop (i+1):=by
   have hl:i<bs.data.toList.length:=hi
   rw[List.drop_eq_getElem_cons hl]
   congr 1
   show _=bs.data.get!Internal i
   have:bs.data.get!Internal i=bs.data[i]!:=rfl
   rw[this,Array.getElem!_eq_getD]
   have hh:i<bs.data.size:=hi
   simp[Array.getD]
   intro hge;exact absurd hh (Nat.not_lt.2 hge)
  rw[hd]
  simp
theorem Iy (s:List UInt8):(⟨s.toArray⟩:ByteArray).toList=s:=by
 unfold ByteArray.toList
 rw[aoD _ _ 0 [] rfl]
 simp
theorem Z3 {op:BinOp}{k j:IntKind}{m n:Int}{d:D}(h:yH op k m n=some d) :
  ∃ x,(Op.shift op k m j n).run P w=.ok x w∧RD w g.pm d x:=by
 unfold yH at h
 split at h
 ·simp at h
 ·rename_i hn
  have hn':¬ n<0:=by simpa using hn
  unfold Op.shift
  cases op<;>simp only[reduceCtorEq,Option.some.injEq]at h
  ·subst h
   refine⟨.int k (k.wrap (m*2 ^ min n.toNat k.bits)),?_,?_⟩
   ·simp[hn']
   ·rw[Gw];simp only[Int.natCast_pow,Int.cast_ofNat_Int];exact .int _ _
  ·subst h
   refine⟨.int k (m.fdiv (2 ^ min n.toNat k.bits)),?_,?_⟩
   ·simp[hn']
   ·simp only[Int.natCast_pow,Int.cast_ofNat_Int];exact .int _ _
theorem ajX {op:BinOp}(hs:op≠.shl) (hs':op≠.shr) {ty:TypeId}{k:IntKind}{m n:Int}{d:D}(h:eS op k m n=some d) :
  ∃ x,(binOp op ty (.int k m) (.int k n)).run P w=.ok x w∧RD w g.pm d x:=by
 cases op<;>simp only[eS,DU,reduceCtorEq,Option.some.injEq]at h<;>(try exact absurd rfl hs)<;>(try exact absurd rfl hs')
 ·subst h;rw[Gw];exact⟨_,by simp[binOp,Op.intArith],.int _ _⟩
 ·subst h;rw[Gw];exact⟨_,by simp[binOp,Op.intArith],.int _ _⟩
 ·subst h;rw[Gw];exact⟨_,by simp[binOp,Op.intArith],.int _ _⟩
 ·split at h
  ·simp at h
  ·rename_i hn
   simp only[Option.some.injEq]at h
   subst h;rw[Gw];exact⟨_,by simp[binOp,Op.intDiv];simp only[decide_eq_false_iff_not]at hn;simp[hn],.int _ _⟩
 ·split at h
  ·simp at h
  ·rename_i hn
   simp only[Option.some.injEq]at h
   subst h;exact⟨_,by simp[binOp,Op.intDiv];simp only[decide_eq_false_iff_not]at hn;simp[hn],.int _ _⟩
 ·subst h;exact⟨_,by simp[binOp,Op.intBits],.int _ _⟩
 ·subst h;exact⟨_,by simp[binOp,Op.intBits],.int _ _⟩
 ·subst h;exact⟨_,by simp[binOp,Op.intBits],.int _ _⟩
 ·subst h;exact⟨_,by simp[binOp,Op.intBits],.int _ _⟩
 ·subst h;exact⟨_,by simp[binOp,Op.intCmp];rfl,by exact .bool _⟩
 ·subst h;exact⟨_,by simp[binOp,Op.intCmp];rfl,by exact .bool _⟩
 ·subst h;exact⟨_,by simp[binOp,Op.intCmp];rfl,by exact .bool _⟩
 ·subst h;exact⟨_,by simp[binOp,Op.intCmp];rfl,by exact .bool _⟩
 ·subst h;exact⟨_,by simp[binOp,Op.intCmp];rfl,by exact .bool _⟩
 ·subst h;exact⟨_,by simp[binOp,Op.intCmp];rfl,by exact .bool _⟩
theorem aoi {op:BinOp}{ty:TypeId}{va vb r:AV}{x y:Value}{Oa Ob:Nat→Nat}(ra:RV g w va x Oa) (rb:RV g w vb y Ob) (h:bt op va vb=some r)
  (x' y':Operand):∃ z,((do eqGuard op ty x' y' x y;binOp op ty x y:Sem Value)).run P w=.ok z w∧RV g w r z zero:=by
 unfold bt at h
 split at h
 ·rename_i k m j n
  have hx:=ox ra rfl
  have hy:=ox rb rfl
  subst hx hy
  simp only[Sem.run_bind,SW,Result.andThen_ok]
  split at h
  ·rename_i d hd
   simp only[Option.some.injEq]at h
   subst h
   have fin:(∃ z,(binOp op ty (.int k m) (.int j n)).run P w=.ok z w∧RD w g.pm d z)→
     ∃ z,(binOp op ty (.int k m) (.int j n)).run P w=.ok z w∧RV g w (.d d) z zero :=
    fun⟨z,h1,h2⟩=>⟨z,h1,by simp only[RV];exact⟨h2,fun _=>trivial⟩⟩
   apply fin
   unfold md at hd
   split at hd
   ·simpa [binOp] using Z3 (P:=P) (g:=g) (w:=w) (j:=j) hd
   ·simpa [binOp] using Z3 (P:=P) (g:=g) (w:=w) (j:=j) hd
   ·rename_i h1 h2
    split at hd
    ·rename_i hk
     have:=qy hk
     subst this
     exact ajX h1 h2 hd
    ·simp at hd
  ·simp at h
 ·rename_i s u
  have hx:=aeL ra rfl
  have hy:=aeL rb rfl
  subst hx hy
  simp only[Sem.run_bind,U0,Result.andThen_ok]
  cases op<;>simp only[reduceCtorEq,Option.some.injEq]at h
  ·split at h
   ·rename_i hb
    have hb2:s.length+u.length≤4294967296:=Nat.le_of_ble_eq_true hb
    injection h with h
    subst h
    have hd:(⟨s.toArray⟩++⟨u.toArray⟩:ByteArray)=⟨(s++u).toArray⟩:=by
     apply ByteArray.ext
     simp
    refine⟨.string (⟨s.toArray⟩++⟨u.toArray⟩),?_,?_⟩
    ·have h1:(⟨s.toArray⟩:ByteArray).size=s.length:=by simp[ByteArray.size]
     have h2:(⟨u.toArray⟩:ByteArray).size=u.length:=by simp[ByteArray.size]
     have hm:¬ (((s.length+u.length:Nat):Int) > IntKind.i64.max):=by
      have:IntKind.i64.max=9223372036854775807:=rfl
      rw[this];omega
     simp only[binOp,Op.stringOp,h1,h2,if_neg hm]
     rfl
    ·rw[hd]
     simp only[RV]
     exact⟨.str _,fun _=>trivial⟩
   ·exact absurd h (by simp)
  ·subst h
   exact⟨.bool (s == u),by simp[binOp,Op.stringOp,Iy],yF _⟩
  ·subst h
   exact⟨.bool (!(s == u)),by simp[binOp,Op.stringOp,Iy],yF _⟩
 ·simp at h
theorem aqo {op:BinOp}{x y:Rd}(s:S P g w st t O) (h:F8 op x y st=some (a,st')) (hc:aw P (.bin op x y) o.op=true) :
  cN P g w t O st' a ((execOp (ev t) o).run P w):=by
 obtain⟨dst,opp,ty,pos,aft,gd⟩:=o
 simp only[aw]at hc
 split at hc
 ·rename_i op' ty' x' y' yt
  simp only[Bool.and_eq_true,Yn,decide_eq_true_eq]at hc
  obtain⟨⟨rfl,h1⟩,h2⟩:=hc
  simp only[F8,K8]at h
  obtain⟨va,vb,e,Oa,Ob,O',ra,rb,s',l,hk⟩:=Km s h1 h2 h
  split at hk
  ·rename_i r hr
   simp only[Option.some.injEq,Prod.mk.injEq]at hk
   obtain⟨rfl,rfl⟩:=hk
   obtain⟨z,hz,rz⟩:=aoi (P:=P) (ty:=ty') ra rb hr x' y'
   refine .flat s (x:=z) ?_ rz s' fun b=>by have:=l b;omega
   simp only[execOp]
   rw[Sem.run_bind,hz];simp
  ·simp at hk
 ·simp at hc
theorem aj {ty:TypeId}{d:TypeDesc}(h:P.underlying ty=some d):(underlying ty).run P w=.ok d w:=by simp[underlying,h]
theorem zA {ty:TypeId}(hu:P.underlying ty=some .bool) (d:Nat) (m n:Bool):(Op.equalIn (d+1) ty (.bool m) (.bool n)).run P w=.ok (m == n) w:=by
 unfold Op.equalIn
 rw[Sem.run_bind,aj hu]
 simp
theorem Zf {ty:TypeId}(hu:P.underlying ty=some .bool) (neg:Bool) (m n:Bool) :
  (binOp (match neg with | true=>.neq | false=>.eql) ty (.bool m) (.bool n)).run P w=.ok (.bool (match neg with | true=>!(m == n) | false=>m == n)) w:=by
 have h:(Op.equal ty (.bool m) (.bool n)).run P w=.ok (m == n) w:=zA hu 9999 m n
 cases neg
 ·show ((do pure (.bool (←Op.equal ty (.bool m) (.bool n))):Sem Value)).run P w=_
  rw[Sem.run_bind,h];rfl
 ·show ((do pure (.bool (!(←Op.equal ty (.bool m) (.bool n)))):Sem Value)).run P w=_
  rw[Sem.run_bind,h];rfl
theorem aok {neg:Bool}{x y:Rd}(s:S P g w st t O) (h:E4 neg x y st=some (a,st')) (hc:aw P (.binb neg x y) o.op=true) :
  cN P g w t O st' a ((execOp (ev t) o).run P w):=by
 obtain⟨dst,opp,ty,pos,aft,gd⟩:=o
 simp only[aw]at hc
 split at hc
 ·rename_i op' ty' x' y' yt
  simp only[Bool.and_eq_true,Yn,decide_eq_true_eq]at hc
  obtain⟨⟨⟨h0,hb⟩,h1⟩,h2⟩:=hc
  obtain⟨va,vb,e,Oa,Ob,O',ra,rb,s',l,hk⟩:=Km s h1 h2 h
  split at hk
  ·rename_i m n
   simp only[Option.some.injEq,Prod.mk.injEq]at hk
   obtain⟨rfl,rfl⟩:=hk
   have hx:=qA ra rfl
   have hy:=qA rb rfl
   simp only[D8]at hb
   split at hb
   ·rename_i hu
    refine .flat s (x:=_) ?_ (yF _) s' fun b=>by have:=l b;omega
    subst h0
    have h:=Zf (P:=P) (w:=w) hu neg m n
    simp only[execOp,hx,hy]
    rw[Sem.run_bind,Sem.run_bind,Pc]
    cases neg
    ·exact(congrArg (fun r=>Result.andThen r fun a w'=>(Pure.pure (Next.value a):Sem Next).run P w') h)
    ·exact(congrArg (fun r=>Result.andThen r fun a w'=>(Pure.pure (Next.value a):Sem Next).run P w') h)
   ·simp at hb
  ·simp at hk
 ·simp at hc
theorem arE {op:UnOp}{x:Rd}(s:S P g w st t O) (h:Xn op x st=some (a,st')) (hc:aw P (.un op x) o.op=true) :
  cN P g w t O st' a ((execOp (ev t) o).run P w):=by
 obtain⟨dst,opp,ty,pos,aft,gd⟩:=o
 simp only[aw]at hc
 split at hc
 ·rename_i op' ty' x'
  simp only[Bool.and_eq_true,aqp,decide_eq_true_eq]at hc
  obtain⟨rfl,h1⟩:=hc
  obtain⟨v,e,hr,hk⟩:=Eg h
  obtain⟨Ov,O',rv,s',l⟩:=s.rd h1 hr
  split at hk
  ·rename_i r hun
   simp only[Option.some.injEq,Prod.mk.injEq]at hk
   obtain⟨rfl,rfl⟩:=hk
   unfold Ib at hun
   split at hun
   ·rename_i k n
    have hx:=ox rv rfl
    cases op<;>simp only[reduceCtorEq,Option.some.injEq]at hun
    ·subst hun
     rw[Gw]
     exact .flat s (x:=_) (by simp[execOp,hx,Op.unary,Op.intArith]) (ln _ _) s' (S.le_left l)
    ·split at hun
     ·rename_i d hd
      simp only[Option.some.injEq]at hun
      subst hun
      simp only[DU,Option.some.injEq]at hd
      subst hd
      exact .flat s (x:=_) (by simp[execOp,hx,Op.unary,Op.intBits]) (ln _ _) s' (S.le_left l)
     ·simp at hun
   ·rename_i b
    have hx:=qA rv rfl
    cases op<;>simp only[reduceCtorEq,Option.some.injEq]at hun
    subst hun
    exact .flat s (x:=_) (by simp[execOp,hx,Op.unary]) (yF _) s' (S.le_left l)
   ·simp at hun
  ·simp at hk
 ·simp at hc
end
end Go.Vm
namespace Go.Vm
theorem eW (b off n:Nat):(⟨b,off,none⟩:Addr).add n=⟨b,off+n,none⟩:=by
 unfold Addr.add;split
 ·rename_i h;subst h;rfl
 ·rfl
section
variable {g:Gh}{w:World}
theorem RVs.length {cs:List AV}{xs:List Value}{O:Nat→Nat}(r:RVs g w cs xs O):xs.length=cs.length:=by
 induction cs generalizing xs O with
 | nil=>simp only[RVs]at r;simp[r.1]
 | cons c cs ih =>
  simp only[RVs]at r
  obtain⟨x,s,O1,O2,rfl,_,r2,_⟩:=r
  simp[ih r2]
theorem RVs.split {a b:List AV}{xs:List Value}{O:Nat→Nat}(r:RVs g w (a++b) xs O) :
  ∃ O1 O2,RVs g w a (xs.take a.length) O1∧RVs g w b (xs.drop a.length) O2∧∀ c,O c=O1 c+O2 c:=by
 induction a generalizing xs O with
 | nil=>exact⟨zero,O,by simp[RVs],by simpa using r,fun c=>by simp⟩
 | cons v a ih =>
  simp only[List.cons_append,RVs]at r
  obtain⟨x,s,O1,O2,rfl,r1,r2,h⟩:=r
  obtain⟨P1,P2,q1,q2,h2⟩:=ih r2
  refine⟨fun c=>O1 c+P1 c,P2,?_,by simpa using q2,fun c=>by have:=h c;have:=h2 c;show O c=O1 c+P1 c+P2 c;omega⟩
  simp only[RVs,List.length_cons,List.take_succ_cons]
  exact⟨x,_,O1,P1,rfl,r1,q1,fun _=>rfl⟩
theorem RVs.join {a b:List AV}{xs ys:List Value}{O1 O2:Nat→Nat}(r1:RVs g w a xs O1) (r2:RVs g w b ys O2) :
  RVs g w (a++b) (xs++ys) fun c=>O1 c+O2 c:=by
 induction a generalizing xs O1 with
 | nil =>
  simp only[RVs]at r1
  obtain⟨rfl,h⟩:=r1
  have:(fun c=>O1 c+O2 c)=O2:=by funext c;simp[h c]
  rw[this];simpa using r2
 | cons v a ih =>
  simp only[RVs]at r1
  obtain⟨x,s,P1,P2,rfl,q1,q2,h⟩:=r1
  simp only[List.cons_append,RVs]
  exact⟨x,s++ys,P1,fun c=>P2 c+O2 c,rfl,q1,ih q2,fun c=>by have:=h c;show O1 c+O2 c=P1 c+(P2 c+O2 c);omega⟩
theorem RVs.get {cs:List AV}{xs:List Value}{O:Nat→Nat}(r:RVs g w cs xs O) {i:Nat}{v:AV}(h:cs[i]?=some v) :
  ∃ x O1,xs[i]?=some x∧RV g w v x O1∧∀ c,O1 c≤O c:=by
 induction cs generalizing xs O i with
 | nil=>simp at h
 | cons c cs ih =>
  simp only[RVs]at r
  obtain⟨x,s,O1,O2,rfl,r1,r2,hs⟩:=r
  cases i with
  | zero=>simp at h;subst h;exact⟨x,O1,rfl,r1,fun c=>by rw[hs c];omega⟩
  | succ i =>
   simp at h
   obtain⟨y,P1,h1,h2,h3⟩:=ih r2 h
   exact⟨y,P1,by simpa using h1,h2,fun c=>by have:=h3 c;rw[hs c];omega⟩
theorem RVs.pull {cs:List AV}{xs:List Value}{O:Nat→Nat}(r:RVs g w cs xs O) {i:Nat}{v:AV}(h:cs[i]?=some v) :
  ∃ x O1 O2,xs[i]?=some x∧RV g w v x O1∧RVs g w (cs.set i .junk) xs O2∧∀ c,O1 c+O2 c=O c:=by
 induction cs generalizing xs O i with
 | nil=>simp at h
 | cons c cs ih =>
  simp only[RVs]at r
  obtain⟨x,s,O1,O2,rfl,r1,r2,hs⟩:=r
  cases i with
  | zero =>
   simp at h;subst h
   refine⟨x,O1,O2,rfl,r1,?_,fun c=>(hs c).symm⟩
   simp only[List.set_cons_zero,RVs]
   exact⟨x,s,zero,O2,rfl,by simp[RV],r2,fun c=>by simp⟩
  | succ i =>
   simp at h
   obtain⟨y,P1,P2,h1,h2,h3,h4⟩:=ih r2 h
   refine⟨y,P1,fun c=>O1 c+P2 c,by simpa using h1,h2,?_,fun c=>by have:=h4 c;have:=hs c;show P1 c+(O1 c+P2 c)=O c;omega⟩
   simp only[List.set_cons_succ,RVs]
   exact⟨x,s,O1,P2,rfl,r1,h3,fun _=>rfl⟩
theorem RVs.sub {cs:List AV}{xs:List Value}{O:Nat→Nat}(r:RVs g w cs xs O) (off n:Nat) :
  ∃ O1,RVs g w (Vm.sub cs off n) ((xs.drop off).take n) O1∧∀ c,O1 c≤O c:=by
 have hlen:=r.length
 have e:cs=cs.take off++(Vm.sub cs off n++(cs.drop off).drop n):=by
  simp only[Vm.sub,List.take_append_drop]
 rw[e]at r
 obtain⟨O1,O2,r1,r2,h⟩:=r.split
 obtain⟨P1,P2,q1,q2,h2⟩:=r2.split
 refine⟨P1,?_,fun c=>by have:=h c;have:=h2 c;omega⟩
 have e1:xs.drop (cs.take off).length=xs.drop off:=by
  rw[List.length_take]
  rcases Nat.le_total off cs.length with h | h
  ·rw[Nat.min_eq_left h]
  ·rw[Nat.min_eq_right h,List.drop_eq_nil_of_le (by omega),List.drop_eq_nil_of_le (by omega)]
 have e2:(xs.drop off).take (Vm.sub cs off n).length=(xs.drop off).take n:=by
  simp only[Vm.sub,List.length_take,List.length_drop]
  rcases Nat.le_total n (cs.length-off) with h | h
  ·rw[Nat.min_eq_left h]
  ·rw[Nat.min_eq_right h,List.take_of_length_le (by simp;omega),List.take_of_length_le (by simp;omega)]
 rw[e1,e2]at q1
 exact q1
theorem IJ {v:AV}{n:Nat}{x:Value}{O:Nat→Nat}(h:lenOf v=some n) (r:RV g w v x O):∃ a cap,x=.slice a n cap:=by
 unfold lenOf at h
 split at h<;>simp only[Option.some.injEq,reduceCtorEq]at h
 ·subst h;simp only[RV]at r;obtain⟨r,_⟩:=r
  cases r with
  | nil a cap=>exact⟨a,cap,rfl⟩
  | lst xs b off m cap u hm hcap hl hc hr=>exact⟨_,cap,rfl⟩
 ·subst h;simp only[RV]at r;exact⟨_,_,r.1⟩
 ·subst h;simp only[RV,mY]at r
  rcases r with ⟨rfl,_,a,e⟩ | ⟨b,off,cap,c,el,e,_⟩
  ·exact⟨a,0,e⟩
  ·exact⟨_,cap,e⟩
 ·subst h;simp only[RV]at r;exact r.1
 ·subst h;simp only[RV]at r
  obtain⟨⟨rfl,a,e⟩ | ⟨b,cap,_,e,_⟩,_⟩:=r
  ·exact⟨a,0,e⟩
  ·exact⟨_,cap,e⟩
end
section
variable {P:Program}{g:Gh}{w:World}{t:Array Value}{O:Nat→Nat}{st st':St}{a:AV}{o:Oper}
theorem jR {c:Callee}{b:Builtin}(h:Hb (jA c) (some b)=true):c=.builtin b:=by
 cases c<;>simp[jA,Hb]at h
 subst h;rfl
theorem Xt {c:Call}(h:Nat.blt 0 c.argTypes.size=true):c.argTypes[0]?=some (jT c):=by
 have:0<c.argTypes.size:=by simpa [Nat.blt_eq] using h
 simp[jT,Array.getD,this]
theorem ahq {x:Rd}{as:Array Operand}(h:bJ [x] as.toList=true):∃ y,as=#[y]∧aQ x y=true:=by
 obtain⟨l⟩:=as
 match l,h with
 | [],h=>simp[bJ]at h
 | [y],h=>simp only[bJ,Bool.and_eq_true]at h;exact⟨y,rfl,h.1⟩
 | _::_::_,h=>simp[bJ]at h
theorem ahW {x x2:Rd}{as:Array Operand}(h:bJ [x,x2] as.toList=true):∃ y y2,as=#[y,y2]∧aQ x y=true∧aQ x2 y2=true:=by
 obtain⟨l⟩:=as
 match l,h with
 | [],h=>simp[bJ]at h
 | [y],h=>simp[bJ]at h
 | [y,y2],h=>simp only[bJ,Bool.and_eq_true]at h;exact⟨y,y2,rfl,h.1,h.2.1⟩
 | _::_::_::_,h=>simp[bJ]at h
theorem aqU {x:Rd}(s:S P g w st t O) (h:KX x st=some (a,st')) (hc:aw P (.len x) o.op=true) :
  cN P g w t O st' a ((execOp (ev t) o).run P w):=by
 obtain⟨dst,op,ty,pos,aft,gd⟩:=o
 simp only[aw]at hc
 split at hc
 ·rename_i c
  simp only[Bool.and_eq_true]at hc
  obtain⟨⟨⟨h1,h2⟩,h3⟩,h4⟩:=hc
  obtain⟨callee,args,ats⟩:=c
  have:=jR h1;subst this
  obtain⟨y,e1,hy⟩:=ahq h4
  simp only at e1;subst e1
  obtain⟨v,e',h5,h6⟩:=Eg h
  obtain⟨Ov,O',rv,s',l⟩:=s.rd hy h5
  have hty:=Xt h2
  split at h6
  ·rename_i n hn
   simp only[Option.some.injEq,Prod.mk.injEq]at h6
   obtain⟨rfl,rfl⟩:=h6
   obtain⟨ad,cap,hx⟩:=IJ hn rv
   split at h3
   ·rename_i e hu
    refine .flat s (x:=.int .i64 n) ?_ (ln _ _) s' (S.le_left l)
    generalize jT ⟨.builtin .len,#[y],ats⟩=T at hu hty
    simp[execOp,resolve,invoke,builtin,Builtin.len_,hty,hx,aj hu,goInt]
   ·simp at h3
  ·simp at h6
 ·simp at hc
theorem aqK {x:Rd}(s:S P g w st t O) (h:GQ x st=some (a,st')) (hc:aw P (.cap x) o.op=true) :
  cN P g w t O st' a ((execOp (ev t) o).run P w):=by
 obtain⟨dst,op,ty,pos,aft,gd⟩:=o
 simp only[aw]at hc
 split at hc
 ·rename_i c
  simp only[Bool.and_eq_true]at hc
  obtain⟨⟨⟨h1,h2⟩,h3⟩,h4⟩:=hc
  obtain⟨callee,args,ats⟩:=c
  have:=jR h1;subst this
  obtain⟨y,e1,hy⟩:=ahq h4
  simp only at e1;subst e1
  unfold GQ at h
  split at h
  ·rename_i e' h5
   obtain⟨Ov,O',rv,s',l⟩:=s.rd hy h5
   have hty:=Xt h2
   simp only[Option.some.injEq,Prod.mk.injEq]at h
   obtain⟨rfl,rfl⟩:=h
   simp only[RV]at rv
   split at h3
   ·rename_i e hu
    refine .flat s (x:=.int .i64 0) ?_ (ln _ _) s' (S.le_left l)
    generalize jT ⟨.builtin .cap,#[y],ats⟩=T at hu hty
    simp[execOp,resolve,invoke,builtin,Builtin.cap_,hty,rv.1,aj hu,goInt]
   ·simp at h3
  ·simp at h
 ·simp at hc
theorem UW {v r:AV}{off:Nat}{x:Value}{Ov:Nat→Nat}(h:eh off v=some r) (rv:RV g w v x Ov) :
  ∃ b o,x=.pointer (some ⟨b,o,none⟩)∧RV g w r (.pointer (some ⟨b,o+off,none⟩)) zero:=by
 unfold eh at h
 split at h<;>simp only[Option.some.injEq,reduceCtorEq]at h
 ·subst h;simp only[RV]at rv⊢
  obtain⟨⟨b,hb,e⟩,_⟩:=rv
  exact⟨b,_,e,⟨b,hb,by simp[Nat.add_assoc]⟩,fun _=>trivial⟩
 ·subst h;simp only[RV]at rv⊢
  obtain⟨⟨b,hb,e⟩,_⟩:=rv
  exact⟨b,_,e,⟨b,hb,by simp[Nat.add_assoc]⟩,fun _=>trivial⟩
 ·subst h;simp only[RV]at rv⊢
  obtain⟨⟨b,k,e,hr,hp⟩,_⟩:=rv
  exact⟨b,_,e,⟨b,k,by simp[Nat.add_assoc],hr,hp⟩,fun _=>trivial⟩
theorem ask {off:Nat}{p:Rd}(s:S P g w st t O) (h:W0 off p st=some (a,st')) (hc:aw P (.fa off p) o.op=true) :
  cN P g w t O st' a ((execOp (ev t) o).run P w):=by
 obtain⟨dst,op,ty,pos,aft,gd⟩:=o
 simp only[aw]at hc
 split at hc
 ·rename_i ty' y f
  simp only[Bool.and_eq_true]at hc
  obtain⟨h1,h2⟩:=hc
  obtain⟨v,e',h5,h6⟩:=Eg h
  obtain⟨Ov,O',rv,s',l⟩:=s.rd h2 h5
  split at h6
  ·rename_i r hr
   simp only[Option.some.injEq,Prod.mk.injEq]at h6
   obtain⟨rfl,rfl⟩:=h6
   obtain⟨b,k,hx,rr⟩:=UW hr rv
   simp only[ahh]at h1
   split at h1
   ·rename_i fs hu
    split at h1
    ·rename_i x hf
     simp only[Bool.and_eq_true,Nat.beq_eq]at h1
     obtain⟨rfl,h1⟩:=h1
     split at h1
     ·rename_i i hi
      have hz:¬ i.size=0:=by
       have:0<i.size:=by simpa [Nat.blt_eq] using h1
       omega
      refine .flat s (x:=_) ?_ rr s' (S.le_left l)
      simp[execOp,Instr.fieldAt,aj hu,hf,hx,Instr.sureAddr,fieldPlace,sizeOf,typeInfo,hi,hz,eW]
     ·simp at h1
    ·simp at h1
   ·simp at h1
  ·simp at h6
 ·simp at hc
theorem aoH {f:FuncId}{first caps:List Rd}(s:S P g w st t O) (h:zL f first caps st=some (a,st')) (hc:aw P (.mkfn f first caps) o.op=true) :
  cN P g w t O st' a ((execOp (ev t) o).run P w):=by
 obtain⟨dst,op,ty,pos,aft,gd⟩:=o
 simp only[aw]at hc
 split at hc
 ·rename_i f' xs ys
  simp only[Bool.and_eq_true,Nat.beq_eq]at hc
  obtain⟨⟨rfl,h1⟩,h2⟩:=hc
  unfold zL at h
  split at h
  ·rename_i va e1 h3
   obtain⟨O1,O2,r1,s1,l1⟩:=s.rdAll h1 h3
   split at h
   ·rename_i vc e2 h4
    obtain⟨O3,O4,r2,s2,l2⟩:=s1.rdAll h2 h4
    simp only[Option.some.injEq,Prod.mk.injEq]at h
    obtain⟨rfl,rfl⟩:=h
    refine .flat s (x:=.func (.func f) (xs.map (ev t)) (ys.map (ev t))) (by simp[execOp,Instr.makeFunc]) ?_ s2 fun b=>by have:=l1 b;have:=l2 b;omega
    simp only[RV]
    exact⟨⟨_,_,rfl,by simpa using RVs.share _ _ _ r1,by simpa using RVs.share _ _ _ r2⟩,fun _=>trivial⟩
   ·simp at h
  ·simp at h
 ·simp at hc
end
end Go.Vm
namespace Go.Vm
section
variable {P:Program}{g:Gh}{w:World}{t:Array Value}{O:Nat→Nat}{st st':St}{a:AV}{o:Oper}
theorem Ci {v:AV}{n:Nat}{x:Value}{Ov:Nat→Nat}(h:eQ v=some n) (r:RV g w v x Ov):∃ k,x=.int k (n:Int):=by
 unfold eQ at h
 split at h<;>simp only[Option.some.injEq,reduceCtorEq]at h
 subst h;simp only[RV]at r;obtain⟨r,_⟩:=r;cases r;exact⟨_,rfl⟩
theorem vq {v:AV}{n top:Nat}{x:Value}{Ov:Nat→Nat}(h:bz v top=some n) (r:RV g w v x Ov):(∃ k,x=.int k (n:Int))∧n≤top:=by
 unfold bz at h
 split at h
 ·split at h<;>simp only[Option.some.injEq,reduceCtorEq]at h
  rename_i hb
  subst h;simp only[RV]at r;obtain⟨r,_⟩:=r;cases r;exact⟨⟨_,rfl⟩,by simpa [Nat.ble_eq] using hb⟩
 ·simp at h
theorem b6 {ty:TypeId}{n:Nat}(h:mH P ty n=true):(sizeOf ty).run P w=.ok n w:=by
 unfold mH at h
 split at h
 ·rename_i i hi
  rw[Nat.beq_eq]at h;subst h
  simp[sizeOf,typeInfo,hi]
 ·simp at h
theorem np {ty:TypeId}(h:si P ty=true):(isAgg ty).run P w=.ok true w:=by
 unfold si at h
 split at h
 ·rename_i hu;simp[isAgg,aj hu]
 ·rename_i hu;simp[isAgg,aj hu]
 ·simp at h
theorem sf {ty:TypeId}(h:Cb P ty=true):(isAgg ty).run P w=.ok false w:=by
 unfold Cb at h
 split at h<;>try (simp at h;done)
 rename_i d h1 h2 hu
 simp only[isAgg,Sem.run_bind,aj hu,Result.andThen_ok]
 cases d<;>first | rfl | exact absurd rfl (h1 _) | exact absurd rfl (h2 _ _)
theorem aeJ {ty:TypeId}{n:Option Nat}(ht:iU P ty n=true) {cs:List AV}{xs:Array Value}{Ov:Nat→Nat}(r:RVs g w cs xs.toList Ov) {off:Nat}{v:AV}
  (h:j9 n cs off=some v) :
  ∃ x O1,(part ty xs off).run P w=.ok x w∧RV g w v x O1∧∀ b,O1 b≤Ov b:=by
 cases n with
 | none =>
  simp only[iU]at ht
  simp only[j9]at h
  obtain⟨x,O1,hx,rv,l⟩:=r.get h
  refine⟨x,O1,?_,rv,l⟩
  have hx':xs[off]?=some x:=by rw[←Array.getElem?_toList];exact hx
  simp[part,sf ht,hx']
 | some n =>
  simp only[iU,Bool.and_eq_true]at ht
  simp only[j9]at h
  split at h
  ·rename_i hle
   simp only[Option.some.injEq]at h;subst h
   obtain⟨O1,r1,l⟩:=r.sub off n
   refine⟨.agg (xs.extract off (off+n)),O1,by simp[part,np ht.1,b6 ht.2],?_,l⟩
   simp only[RV]
   refine⟨_,rfl,?_⟩
   have:(xs.extract off (off+n)).toList=(xs.toList.drop off).take n:=by
    simp[List.extract_eq_take_drop]
   rw[this];exact r1
  ·simp at h
theorem aqm {off:Nat}{n:Option Nat}{x:Rd}(s:S P g w st t O) (h:F5 off n x st=some (a,st')) (hc:aw P (.fld off n x) o.op=true) :
  cN P g w t O st' a ((execOp (ev t) o).run P w):=by
 obtain⟨dst,op,ty,pos,aft,gd⟩:=o
 simp only[aw]at hc
 split at hc
 ·rename_i ty' y f
  simp only[Bool.and_eq_true]at hc
  obtain⟨h1,h2⟩:=hc
  unfold F5 at h
  split at h
  ·rename_i cs e' h5
   obtain⟨Ov,O',rv,s',l⟩:=s.rd h2 h5
   simp only[RV]at rv
   obtain⟨xs,hx,rv⟩:=rv
   simp only[NV]at h1
   split at h1
   ·rename_i fs hu
    split at h1
    ·rename_i fl hf
     simp only[Bool.and_eq_true,Nat.beq_eq]at h1
     obtain⟨rfl,h1⟩:=h1
     split at h
     ·rename_i v hv
      simp only[Option.some.injEq,Prod.mk.injEq]at h
      obtain⟨rfl,rfl⟩:=h
      obtain⟨z,O1,hz,rz,l1⟩:=aeJ (P:=P) h1 rv hv
      refine .pure s (x:=z) ?_ rz s' fun b=>by have:=l b;have:=l1 b;omega
      simp[execOp,Instr.field,aj hu,hf,hx,asAgg,hz]
     ·simp at h
    ·simp at h1
   ·simp at h1
  ·simp at h
 ·simp at hc
theorem aqt {j:Nat}{mv:Bool}{i:Nat}(s:S P g w st t O) (h:qZ j mv i st=some (a,st')) (hc:aw P (.ext j mv i) o.op=true) :
  cN P g w t O st' a ((execOp (ev t) o).run P w):=by
 obtain⟨dst,op,ty,pos,aft,gd⟩:=o
 simp only[aw]at hc
 split at hc
 ·rename_i tt k
  simp only[Bool.and_eq_true,Nat.beq_eq]at hc
  obtain⟨rfl,rfl⟩:=hc
  unfold qZ at h
  split at h
  ·rename_i vs hg
   split at h
   ·rename_i v hv
    obtain⟨Oe,Oh,re,rh,ho⟩:=s.parts
    obtain⟨O1,O2,⟨hlt,q⟩,r2,hs⟩:=RL.take re hg
    simp only[RV]at q
    obtain⟨xs,hx,q⟩:=q
    obtain⟨x,P1,P2,hx2,rv,rj,hl⟩:=q.pull hv
    have hx3:xs[i]?=some x:=by rw[←Array.getElem?_toList];exact hx2
    have hrun:(execOp (ev t) ⟨dst,.extract (.tmp j) i,ty,pos,aft,gd⟩).run P w=.ok (.value x) w:=by
     simp[execOp,ev,Instr.extract,hx,hx3]
    cases mv with
    | false =>
     simp only[Option.some.injEq,Prod.mk.injEq]at h
     obtain⟨rfl,rfl⟩:=h
     exact .flat s hrun (RV.share _ _ _ rv) s fun b=>Nat.le_refl _
    | true =>
     simp only[Option.some.injEq,Prod.mk.injEq]at h
     obtain⟨rfl,rfl⟩:=h
     obtain⟨O3,r3,h3⟩:=RL.put s.se r2 (i:=j) (x:=AV.tup (vs.set i .junk)) (O1:=P2) ⟨hlt,by simp only[RV];exact⟨xs,hx,rj⟩⟩
     refine .pure s hrun rv (s.of_env (O':=fun b=>O3 b+Oh b) r3 rh (s.se.put _ _) (fun _=>rfl) fun b=>?_) fun b=>?_
     ·have:=h3 b;have:=hs b;have:=ho b;have:=hl b;show O3 b+Oh b≤O b;omega
     ·have:=h3 b;have:=hs b;have:=ho b;have:=hl b;show P1 b+(O3 b+Oh b)≤O b;omega
   ·simp at h
  ·simp at h
 ·simp at hc
theorem aiX {ty:TypeId}{l e:Nat}(hu:P.underlying ty=some (.array l e)) {xs:Array Value}{k:IntKind}{i n:Nat}(hi:i<l) (hs:mH P e n=true) :
  (Instr.index ty (.agg xs) (.int k (i:Int))).run P w=(part e xs (i*n)).run P w:=by
 simp[Instr.index,asIntOf,aj hu,hi,b6 hs]
theorem arV {len n:Nat}{agg:Bool}{x i:Rd}(s:S P g w st t O) (h:Qt len n agg x i st=some (a,st')) (hc:aw P (.ix len n agg x i) o.op=true) :
  cN P g w t O st' a ((execOp (ev t) o).run P w):=by
 obtain⟨dst,op,ty,pos,aft,gd⟩:=o
 simp only[aw]at hc
 split at hc
 ·rename_i ty' y j
  simp only[Bool.and_eq_true]at hc
  obtain⟨⟨h1,h2⟩,h3⟩:=hc
  unfold Qt at h
  split at h
  ·rename_i cs e1 h5
   obtain⟨Ov,O1,rv,s1,l1⟩:=s.rd h2 h5
   simp only[RV]at rv
   obtain⟨xs,hx,rv⟩:=rv
   split at h
   ·rename_i vi e2 h6
    obtain⟨Oi,O2,ri,s2,l2⟩:=s1.rd h3 h6
    split at h
    ·rename_i k hk
     obtain⟨kk,hk2⟩:=Ci hk ri
     split at h
     ·simp at h
     ·rename_i hb
      have hlt:k<len:=by rw[←Bool.not_eq_true,Nat.ble_eq]at hb;omega
      simp only[SC]at h1
      split at h1
      ·rename_i l el hu
       simp only[Bool.and_eq_true,Nat.beq_eq]at h1
       obtain⟨⟨rfl,hsz⟩,hag⟩:=h1
       split at h
       ·rename_i v hv
        simp only[Option.some.injEq,Prod.mk.injEq]at h
        obtain⟨rfl,rfl⟩:=h
        have hc:iU P el (Jv agg n)=true:=by
         cases agg
         ·simpa only[iU,Jv] using hag
         ·simp only[iU,Jv,Bool.and_eq_true];exact⟨hag,hsz⟩
        obtain⟨z,O3,hz,rz,l3⟩:=aeJ (P:=P) hc rv hv
        refine .pure s (x:=z) ?_ rz s2 fun b=>by have:=l1 b;have:=l2 b;have:=l3 b;omega
        simp only[execOp,hx,hk2]
        rw[Sem.run_bind,aiX hu hlt hsz,hz];rfl
       ·simp at h
      ·simp at h1
    ·simp at h
   ·simp at h
  ·simp at h
 ·simp at hc
theorem apB {x i:Rd}(s:S P g w st t O) (h:FZ x i st=some (a,st')) (hc:aw P (.ixs x i) o.op=true) :
  cN P g w t O st' a ((execOp (ev t) o).run P w):=by
 obtain⟨dst,op,ty,pos,aft,gd⟩:=o
 simp only[aw]at hc
 split at hc
 ·rename_i ty' y j
  simp only[Bool.and_eq_true]at hc
  obtain⟨⟨h1,h2⟩,h3⟩:=hc
  unfold FZ at h
  split at h
  ·rename_i str e1 h5
   obtain⟨Ov,O1,rv,s1,l1⟩:=s.rd h2 h5
   have hx:=aeL rv rfl
   split at h
   ·rename_i vi e2 h6
    obtain⟨Oi,O2,ri,s2,l2⟩:=s1.rd h3 h6
    split at h
    ·rename_i k hk
     obtain⟨kk,hk2⟩:=Ci hk ri
     split at h
     ·rename_i b hb
      simp only[Option.some.injEq,Prod.mk.injEq]at h
      obtain⟨rfl,rfl⟩:=h
      simp only[G8]at h1
      split at h1
      ·rename_i hu
       refine .flat s (x:=.int .u8 b.toNat) ?_ (ln _ _) s2 fun c=>by have:=l1 c;have:=l2 c;omega
       have hlen:k<str.length:=by
        rcases Nat.lt_or_ge k str.length with h | h
        ·exact h
        ·simp[List.getElem?_eq_none h]at hb
       have hg:(⟨str.toArray⟩:ByteArray)[k]?=some b:=by
        have hs:k<(⟨str.toArray⟩:ByteArray).size:=hlen
        rw[getElem?_pos (⟨str.toArray⟩:ByteArray) k hs]
        rw[List.getElem?_eq_getElem hlen]at hb
        exact hb
       simp[execOp,hx,hk2,Instr.index,asIntOf,aj hu,hg]
      ·simp at h1
     ·simp at h
    ·simp at h
   ·simp at h
  ·simp at h
 ·simp at hc
theorem anE {len n:Nat}{p i:Rd}(s:S P g w st t O) (h:EW len n p i st=some (a,st')) (hc:aw P (.iarr len n p i) o.op=true) :
  cN P g w t O st' a ((execOp (ev t) o).run P w):=by
 obtain⟨dst,op,ty,pos,aft,gd⟩:=o
 simp only[aw]at hc
 split at hc
 ·rename_i ty' y j
  simp only[Bool.and_eq_true]at hc
  obtain⟨⟨h1,h2⟩,h3⟩:=hc
  obtain⟨v,vi,e,Ov,Oi,O',rv,ri,s',l,hk⟩:=Km s h2 h3 h
  split at hk
  ·rename_i k hk1
   obtain⟨kk,hk2⟩:=Ci hk1 ri
   split at hk
   ·simp at hk
   ·rename_i hb
    have hlt:k<len:=by rw[←Bool.not_eq_true,Nat.ble_eq]at hb;omega
    split at hk
    ·rename_i r hr
     simp only[Option.some.injEq,Prod.mk.injEq]at hk
     obtain⟨rfl,rfl⟩:=hk
     obtain⟨b,off,hx,rr⟩:=UW hr rv
     simp only[KY]at h1
     split at h1
     ·rename_i l' el hu
      simp only[Bool.and_eq_true,Nat.beq_eq]at h1
      obtain⟨⟨rfl,hsz⟩,_⟩:=h1
      refine .flat s (x:=_) ?_ rr s' fun c=>by have:=l c;omega
      simp[execOp,hx,hk2,Instr.indexAt,asIntOf,aj hu,Instr.sureAddr,hlt,b6 hsz,eW]
     ·simp at h1
    ·simp at hk
  ·simp at hk
 ·simp at hc
end
end Go.Vm
namespace Go.Vm
theorem zm {xs:List (List D)}{m:Nat}(h:∀ e∈xs,e.length=m) (l:Nat):(xs.drop l).flatten=xs.flatten.drop (l*m):=by
 induction xs generalizing l with
 | nil=>simp
 | cons a r ih =>
  cases l with
  | zero=>simp
  | succ l =>
   have ha:=h a (.head _)
   simp only[List.drop_succ_cons,List.flatten_cons]
   rw[ih (fun e he=>h e (.tail _ he)),Nat.succ_mul,Nat.add_comm,List.drop_append,ha]
   simp[List.drop_eq_nil_of_le,ha]
theorem zG {xs:List (List D)}{m:Nat}(h:∀ e∈xs,e.length=m) (l:Nat):(xs.take l).flatten=xs.flatten.take (l*m):=by
 induction xs generalizing l with
 | nil=>simp
 | cons a r ih =>
  cases l with
  | zero=>simp
  | succ l =>
   have ha:=h a (.head _)
   simp only[List.take_succ_cons,List.flatten_cons]
   rw[ih (fun e he=>h e (.tail _ he)),Nat.succ_mul,Nat.add_comm,List.take_append,ha]
   congr 1
   ·rw[List.take_of_length_le (by omega)]
   ·congr 1;omega
theorem yK {xs:List (List D)}{m:Nat}(h:∀ e∈xs,e.length=m) (l n:Nat):∀ e∈sub xs l n,e.length=m :=
 fun e he=>h e (List.mem_of_mem_drop (List.mem_of_mem_take he))
theorem iE {xs:List (List D)}{m:Nat}(h:∀ e∈xs,e.length=m) (l n:Nat):(sub xs l n).flatten=sub xs.flatten (l*m) (n*m):=by
 unfold sub
 rw[zG (fun e he=>h e (List.mem_of_mem_drop he)),zm h]
theorem agV {α:Type}{xs:List α}{l n j:Nat}{c:α}(h:(sub xs l n)[j]?=some c):xs[l+j]?=some c∧j<n:=by
 unfold sub at h
 rw[List.getElem?_take]at h
 split at h
 ·exact⟨by rw[List.getElem?_drop]at h;exact h,by assumption⟩
 ·simp at h
theorem eX {α:Type}{xs:List α}{l n:Nat}(h:l+n≤xs.length):(sub xs l n).length=n:=by
 unfold sub;simp;omega
theorem JQ {xs:List (List D)}{m:Nat}(h:∀ e∈xs,e.length=m) {i j:Nat}{e:List D}{c:D}(hi:xs[i]?=some e) (hj:e[j]?=some c) :
  xs.flatten[i*m+j]?=some c:=by
 have hm:e.length=m:=h e (List.mem_of_getElem? hi)
 have hlt:j<m:=by
  rcases Nat.lt_or_ge j m with h' | h'
  ·exact h'
  ·rw[List.getElem?_eq_none (by omega)]at hj;simp at hj
 rw[←List.getElem?_drop,←zm h]
 have:xs.drop i=e::xs.drop (i+1):=by
  have hl:i<xs.length:=by
   rcases Nat.lt_or_ge i xs.length with h' | h'
   ·exact h'
   ·rw[List.getElem?_eq_none h']at hi;simp at hi
  rw[List.drop_eq_getElem_cons hl]
  rw[List.getElem?_eq_getElem hl]at hi
  simp only[Option.some.injEq]at hi
  rw[hi]
 rw[this,List.flatten_cons,List.getElem?_append_left (by omega)]
 exact hj
section
variable {g:Gh}{w:World}
theorem RD.list {pm:Nat→Nat→Prop}{xs:List (List D)}{x:Value}(r:RD w pm (.lst xs) x) :
  (xs=[]∧∃ a cap,x=.slice a 0 cap)∨∃ b off m cap,x=.slice (some ⟨b,off,none⟩) xs.length cap∧0<m∧xs.length≤cap∧(∀ e∈xs,e.length=m)∧
   fC w pm xs.flatten b off∧∀ j,j<xs.length*m→pm b (off+j):=by
 cases r with
 | nil a cap=>exact .inl ⟨rfl,a,cap,rfl⟩
 | lst xs b off m cap u hm hcap hl hc hr =>
  refine .inr ⟨b,off,m,cap,rfl,hm,hcap,hl,fun j c hj=>⟨u j,(hc j c hj).1,hr j c hj⟩,fun j hj=>?_⟩
  have:j<xs.flatten.length:=by rw[cP hl];exact hj
  exact(hc j xs.flatten[j] (by simp)).2
theorem Wl {h:ac}{v:AV}{xs:List (List D)}{x:Value}{O:Nat→Nat}(he:elems h v=some xs) (hn:kT v=false) (r:RV g w v x O) :
  RD w g.pm (.lst xs) x:=by
 cases v with
 | d c =>
  cases c<;>simp only[elems,reduceCtorEq,Option.some.injEq]at he
  subst he;simp only[RV]at r;exact r.1
 | nl=>simp only[elems,Option.some.injEq]at he;subst he;simp only[RV]at r;rw[r.1];exact .nil _ _
 | own p m ys =>
  cases p<;>simp only[elems,reduceCtorEq,Option.some.injEq]at he
  subst he
  have:=RV.share _ _ _ r
  simp only[share,RV]at this
  exact this.1
 | sl id off len=>simp[kT]at hn
 | _=>simp[elems]at he
theorem fC.sub {pm:Nat→Nat→Prop}{cs:List D}{b off:Nat}(r:fC w pm cs b off) (l n:Nat):fC w pm (Vm.sub cs l n) b (off+l):=by
 intro j c hj
 obtain⟨h1,_⟩:=agV hj
 obtain⟨u,hu,hr⟩:=r _ c h1
 exact⟨u,by rw[Nat.add_assoc];exact hu,hr⟩
theorem fC.elem {pm:Nat→Nat→Prop}{xs:List (List D)}{m b off:Nat}(r:fC w pm xs.flatten b off) (hl:∀ e∈xs,e.length=m) {i:Nat}{e:List D}
  (hi:xs[i]?=some e):fC w pm e b (off+i*m):=by
 intro j c hj
 obtain⟨u,hu,hr⟩:=r _ c (JQ hl hi hj)
 exact⟨u,by rw[Nat.add_assoc];exact hu,hr⟩
theorem eI {α:Type}{xs:List α}{i:Nat}{x:α}(h:xs[i]?=some x):i<xs.length:=by
 rcases Nat.lt_or_ge i xs.length with h' | h'
 ·exact h'
 ·rw[List.getElem?_eq_none h']at h;simp at h
end
section
variable {P:Program}{g:Gh}{w:World}{t:Array Value}{O:Nat→Nat}{st st':St}{a:AV}{o:Oper}
theorem c6 {ty:TypeId}{m:Nat}(h:dL P ty m=true):∃ e,P.underlying ty=some (.slice e)∧mH P e m=true∧0<m∧P.bytesOf e≤4096:=by
 unfold dL at h
 split at h
 ·rename_i e hu
  simp only[Bool.and_eq_true,Nat.blt_eq,Nat.ble_eq]at h
  exact⟨e,hu,h.1.1,h.1.2,h.2⟩
 ·simp at h
theorem M9 {ty:TypeId}{n:Nat}(h:dL P ty n=true) {b off len cap i:Nat}{k:IntKind}(hi:i<len) :
  (Instr.indexAt ty (.slice (some ⟨b,off,none⟩) len cap) (.int k (i:Int))).run P w=.ok (.pointer (some ⟨b,off+i*n,none⟩)) w:=by
 obtain⟨e,hu,hs,_⟩:=c6 h
 simp[Instr.indexAt,asIntOf,aj hu,hi,b6 hs,eW]
theorem arU {n:Nat}{x i:Rd}(s:S P g w st t O) (h:acF n x i st=some (a,st')) (hc:aw P (.ia n x i) o.op=true) :
  cN P g w t O st' a ((execOp (ev t) o).run P w):=by
 obtain⟨dst,op,ty,pos,aft,gd⟩:=o
 simp only[aw]at hc
 split at hc
 ·rename_i ty' y j
  simp only[Bool.and_eq_true]at hc
  obtain⟨⟨h1,h2⟩,h3⟩:=hc
  obtain⟨v,vi,e,Ov,Oi,O',rv,ri,s',l,hk⟩:=Km s h2 h3 h
  split at hk
  ·rename_i k hk1
   obtain⟨kk,hk2⟩:=Ci hk1 ri
   have fin:∀ {r:AV}{b off:Nat},(∃ len cap bo oo,ev t y=.slice (some ⟨bo,oo,none⟩) len cap∧k<len∧b=bo∧off=oo+k*n)→
     RV g w r (.pointer (some ⟨b,off,none⟩)) zero→cN P g w t O ⟨e,st.hs⟩ r ((execOp (ev t) ⟨dst,.indexAddr ty' y j,ty,pos,aft,gd⟩).run P w):=by
    rintro r b off ⟨len,cap,bo,oo,hx,hlt,rfl,rfl⟩ rr
    refine .flat s (x:=_) ?_ rr s' fun c=>by have:=l c;omega
    simp only[execOp,hx,hk2]
    rw[Sem.run_bind,M9 h1 hlt];rfl
   have hnsl:kT v=false→∀ {xs:List (List D)}{el:List D},elems st.hs.heap v=some xs→xs[k]?=some el→el.length=n→
     cN P g w t O ⟨e,st.hs⟩ (.pim el 0) ((execOp (ev t) ⟨dst,.indexAddr ty' y j,ty,pos,aft,gd⟩).run P w):=by
    intro hn xs el he hxk hlen
    have rd:=Wl he hn rv
    rcases rd.list with ⟨rfl,_⟩ | ⟨b,off,m,cap,hx,hm,hcap,hl,hrc,hp⟩
    ·simp at hxk
    ·have hmn:m=n:=by rw[←hlen];exact(hl el (List.mem_of_getElem? hxk)).symm
     subst hmn
     refine fin (b:=b) (off:=off+k*m) ⟨_,cap,b,off,hx,eI hxk,rfl,rfl⟩ ?_
     simp only[RV]
     refine⟨⟨b,off+k*m,by simp,hrc.elem hl hxk,fun q hq=>?_⟩,fun _=>trivial⟩
     rw[Nat.add_assoc]
     refine hp _ ?_
     have:=eI hxk
     have:(k+1)*m≤xs.length*m:=Nat.mul_le_mul_right _ this
     rw[Nat.succ_mul]at this
     omega
   split at hk
   ·rename_i id off len
    split at hk
    ·simp at hk
    ·rename_i hb
     have hlt:k<len:=by rw[←Bool.not_eq_true,Nat.ble_eq]at hb;omega
     simp only[RV]at rv
     obtain⟨hsl,_⟩:=rv
     rcases hsl with ⟨rfl,_⟩ | ⟨b,cap,hob,hx,_,_⟩
     ·omega
     obtain⟨Oe,Oh,re,rh,ho⟩:=s.parts
     split at hk
     ·rename_i m xs hg
      split at hk
      ·rename_i hmn
       rw[Nat.beq_eq]at hmn;subst hmn
       simp only[Option.some.injEq,Prod.mk.injEq]at hk
       obtain⟨rfl,rfl⟩:=hk
       obtain⟨O1,q,_⟩:=RL.get rh hg
       have hesz:g.esz id=m:=by
        simp only[bf]at q
        rcases q with ⟨_,_,h,_⟩ | ⟨_,_,_,_,h,_⟩
        ·exact h
        ·exact h
       refine fin (b:=b) (off:=g.base id+off*g.esz id+k*m) ⟨len,cap,b,_,hx,hlt,rfl,rfl⟩ ?_
       simp only[RV]
       exact⟨⟨b,hob,by rw[hesz,Nat.add_mul];simp[Nat.add_assoc]⟩,fun _=>trivial⟩
      ·simp at hk
     ·rename_i cs hg
      split at hk
      ·rename_i hmn
       rw[Nat.beq_eq]at hmn;subst hmn
       simp only[Option.some.injEq,Prod.mk.injEq]at hk
       obtain⟨rfl,rfl⟩:=hk
       obtain⟨O1,q,_⟩:=RL.get rh hg
       simp only[bf]at q
       obtain⟨_,_,_,_,_,hbase,hesz,_⟩:=q
       refine fin (b:=b) (off:=g.base id+off*g.esz id+k*1) ⟨len,cap,b,_,hx,hlt,rfl,rfl⟩ ?_
       simp only[RV]
       exact⟨⟨b,hob,by rw[hesz];simp[Nat.add_assoc]⟩,fun _=>trivial⟩
      ·simp at hk
     ·simp at hk
   ·rename_i hv
    have hn:kT v=false:=by cases v<;>first | rfl | exact absurd rfl (hv _ _ _)
    split at hk
    ·rename_i xs he
     split at hk
     ·rename_i el hel
      split at hk
      ·rename_i hlen
       rw[Nat.beq_eq]at hlen
       simp only[Option.some.injEq,Prod.mk.injEq]at hk
       obtain⟨rfl,rfl⟩:=hk
       exact hnsl hn he hel hlen
      ·simp at hk
     ·simp at hk
    ·simp at hk
  ·simp at hk
 ·simp at hc
end
end Go.Vm
namespace Go.Vm
section
variable {P:Program}{g:Gh}{w:World}{t:Array Value}{O:Nat→Nat}{st st':St}{a:AV}{o:Oper}
def RO (g:Gh) (w:World):Option AV→Option Value→Prop
 | none,none=>True
 | some v,some x=>∃ Ov,RV g w v x Ov
 | _,_=>False
theorem S.rdOpt {r:Option Rd}{oo:Option Operand}(s:S P g w st t O) (hc:oz r oo=true) {vo:Option AV}{e':ak}(h:rdOpt st.env r=some (vo,e')) :
  ∃ O',RO g w vo (oo.map (ev t))∧S P g w ⟨e',st.hs⟩ t O'∧∀ b,O' b≤O b:=by
 cases r with
 | none =>
  cases oo<;>simp[oz]at hc
  simp only[Vm.rdOpt,Option.some.injEq,Prod.mk.injEq]at h
  obtain⟨rfl,rfl⟩:=h
  exact⟨O,trivial,s,fun b=>Nat.le_refl _⟩
 | some r =>
  cases oo with
  | none=>simp[oz]at hc
  | some o =>
   simp only[oz]at hc
   simp only[Vm.rdOpt]at h
   obtain⟨v,e1,h1,h2⟩:=Eg h
   simp only[Option.some.injEq,Prod.mk.injEq]at h2
   obtain⟨rfl,rfl⟩:=h2
   obtain⟨Ov,O',rv,s',l⟩:=s.rd hc h1
   exact⟨O',⟨Ov,rv⟩,s',S.le_left l⟩
theorem nj {v:AV}{x:Value}{Ov:Nat→Nat}(r:RV g w v x Ov) {n top y:Nat}(h:bz v top=some n) (hy:top≤y) (c:BoundsCode) :
  (Instr.sliceBound x y c).run P w=.ok n w∧n≤top:=by
 obtain⟨⟨k,rfl⟩,hn⟩:=vq h r
 refine⟨?_,hn⟩
 have:(n:Int)≤y:=by omega
 simp[Instr.sliceBound,asIntOf,this]
theorem UX {lo hi mx:Option AV}{lo' hi' mx':Option Value}(r1:RO g w lo lo') (r2:RO g w hi hi') (r3:RO g w mx mx') {b:Bool}{len cap l h m:Nat}
  (hcap:len≤cap) (hb:vY len lo hi mx=some (l,h,m)) :
  ∃ m',(Instr.sliceBounds b len cap lo' hi' mx').run P w=.ok (l,h,m') w∧l≤h∧h≤len∧h≤m'∧m'≤cap:=by
 unfold vY at hb
 have fin:∀ (h0 m':Nat),h0≤len→h0≤m'→m'≤cap→lY lo h0 m=some (l,h,m)→
   ∃ l',(match (generalizing:=false) lo' with | some v=>Instr.sliceBound v h0 (if mx'.isSome then .slice3C else .sliceB) | none=>pure 0).run P w=.ok l' w∧l'=l∧h0=h∧l≤h:=by
  intro h0 m' e1 e2 e3 e4
  cases lo with
  | none =>
   cases lo' with
   | some x=>exact r1.elim
   | none =>
    simp only[lY,Option.some.injEq,Prod.mk.injEq]at e4
    exact⟨0,rfl,e4.1,e4.2.1,by omega⟩
  | some v =>
   cases lo' with
   | none=>exact r1.elim
   | some x =>
    obtain⟨Ov,rv⟩:=r1
    simp only[lY]at e4
    split at e4
    ·rename_i n hn
     simp only[Option.some.injEq,Prod.mk.injEq]at e4
     obtain⟨h1,h2⟩:=nj (P:=P) rv hn (Nat.le_refl h0) (if mx'.isSome then .slice3C else .sliceB)
     exact⟨n,h1,e4.1,e4.2.1,by omega⟩
    ·simp at e4
 cases mx with
 | none =>
  cases mx' with
  | some x=>exact r3.elim
  | none =>
   simp only at hb
   cases hi with
   | none =>
    cases hi' with
    | some x=>exact r2.elim
    | none =>
     simp only at hb
     have hm:m=len:=by
      cases lo with
      | none=>simp[lY]at hb;omega
      | some v=>simp only[lY]at hb;split at hb<;>simp at hb;omega
     subst hm
     obtain⟨l',h1,rfl,rfl,h4⟩:=fin m cap (Nat.le_refl _) hcap (Nat.le_refl _) hb
     refine⟨cap,?_,h4,Nat.le_refl _,hcap,Nat.le_refl _⟩
     simp only[Instr.sliceBounds,Sem.run_bind,Sem.run_pure,Result.andThen_ok]
     cases lo'<;>simp_all
   | some v =>
    cases hi' with
    | none=>exact r2.elim
    | some x =>
     obtain⟨Ov,rv⟩:=r2
     simp only at hb
     split at hb
     ·simp at hb
     ·rename_i h0 hh
      have hm:m=len:=by
       cases lo with
       | none=>simp[lY]at hb;omega
       | some v=>simp only[lY]at hb;split at hb<;>simp at hb;omega
      subst hm
      obtain⟨h5,h6⟩:=nj (P:=P) rv hh hcap (if b then .sliceAcap else .sliceAlen)
      obtain⟨l',h1,rfl,rfl,h4⟩:=fin h0 cap h6 (by omega) (Nat.le_refl _) hb
      refine⟨cap,?_,h4,h6,by omega,Nat.le_refl _⟩
      simp only[Instr.sliceBounds,Sem.run_bind,Sem.run_pure,Result.andThen_ok,h5]
      cases lo'<;>simp_all
 | some vm =>
  cases mx' with
  | none=>exact r3.elim
  | some xm =>
   obtain⟨Om,rm⟩:=r3
   simp only at hb
   split at hb
   ·simp at hb
   ·rename_i m0 hm0
    obtain⟨h7,h8⟩:=nj (P:=P) rm hm0 hcap (if b then .slice3Acap else .slice3Alen)
    cases hi with
    | none=>simp at hb
    | some v =>
     cases hi' with
     | none=>exact r2.elim
     | some x =>
      obtain⟨Ov,rv⟩:=r2
      simp only at hb
      split at hb
      ·simp at hb
      ·rename_i h0 hh
       have hm:m=m0:=by
        cases lo with
        | none=>simp[lY]at hb;omega
        | some v=>simp only[lY]at hb;split at hb<;>simp at hb;omega
       subst hm
       obtain⟨h5,h6⟩:=nj (P:=P) rv hh (Nat.le_refl m) .slice3B
       obtain⟨l',h1,rfl,rfl,h4⟩:=fin h0 m (by omega) h6 (by omega) hb
       refine⟨m,?_,h4,by omega,h6,by omega⟩
       simp only[Instr.sliceBounds,Sem.run_bind,Sem.run_pure,Result.andThen_ok,h5,h7]
       cases lo'<;>simp_all
theorem ah3 {b:Bool}{v u r:AV}{x y:Value}{Ov Ou:Nat→Nat}(rv:RV g w v x Ov) (ru:RV g w u y Ou) (h:ur b v u=some r) :
  ∃ z,(match b with | true=>Builtin.max2 x y | false=>Builtin.min2 x y).run P w=.ok z w∧RV g w r z zero:=by
 unfold ur at h
 split at h
 ·rename_i k m j n
  have hx:=ox rv rfl
  have hy:=ox ru rfl
  subst hx hy
  split at h
  ·rename_i hk
   have:=qy hk
   subst this
   cases b
   ·simp only[Bool.false_eq_true,if_false]at h
    split at h
    ·rename_i hd
     simp only[decide_eq_true_eq]at hd
     simp only[Option.some.injEq]at h;subst h
     exact⟨.int k n,by simp[Builtin.min2,hd],ln _ _⟩
    ·rename_i hd
     simp only[decide_eq_false_iff_not]at hd
     simp only[Option.some.injEq]at h;subst h
     exact⟨.int k m,by simp[Builtin.min2,hd],ln _ _⟩
   ·simp only[if_true]at h
    split at h
    ·rename_i hd
     simp only[decide_eq_true_eq]at hd
     simp only[Option.some.injEq]at h;subst h
     exact⟨.int k n,by simp[Builtin.max2,hd],ln _ _⟩
    ·rename_i hd
     simp only[decide_eq_false_iff_not]at hd
     simp only[Option.some.injEq]at h;subst h
     exact⟨.int k m,by simp[Builtin.max2,hd],ln _ _⟩
  ·simp at h
 ·simp at h
end
end Go.Vm
namespace Go.Vm
section
variable {P:Program}{g:Gh}{w:World}{t:Array Value}{O:Nat→Nat}{st st':St}{a:AV}{o:Oper}
theorem akq {ty:TypeId}{sz:Nat}(hty:dL P ty sz=true) {ad:Option Addr}{len cap l h m':Nat}{lo hi mx:Option Value}
  (hb:(Instr.sliceBounds true len cap lo hi mx).run P w=.ok (l,h,m') w) :
  (Instr.sliceAt ty (.slice ad len cap) lo hi mx).run P w=.ok (.slice (if m'=l then ad else ad.map (·.add (l*sz))) (h-l) (m'-l)) w:=by
 obtain⟨e,hu,hs,_⟩:=c6 hty
 simp only[Instr.sliceAt,Sem.run_bind,aj hu,Result.andThen_ok,Instr.slice,hb,b6 hs,Sem.run_pure]
theorem RD.slice {w:World}{pm:Nat→Nat→Prop}{xs:List (List D)}{ad:Option Addr}{len cap l h m' sz:Nat}(r:RD w pm (.lst xs) (.slice ad len cap))
  (hk:E8 sz xs=true) (h1:l≤h) (h2:h≤len) (h3:h≤m') (h4:m'≤cap) :
  RD w pm (.lst (sub xs l (h-l))) (.slice (if m'=l then ad else ad.map (·.add (l*sz))) (h-l) (m'-l)):=by
 rcases r.list with ⟨rfl,a,c,e⟩ | ⟨b,off,m,c,e,hm,hcap,hl,hrc,hp⟩
 ·injection e with e1 e2 e3
  have hh:h-l=0:=by omega
  rw[hh]
  have:sub ([]:List (List D)) l 0=[]:=by simp[sub]
  rw[this]
  exact .nil _ _
 ·injection e with e1 e2 e3
  subst e1 e2 e3
  have hlen:(sub xs l (h-l)).length=h-l:=eX (by omega)
  by_cases hz:h-l=0
  ·have:sub xs l (h-l)=[]:=by rw[hz];simp[sub]
   rw[this,hz]
   exact .nil _ _
  ·have hml:m'≠l:=by omega
   have hsz:sz=m:=by
    cases xs with
    | nil=>simp[sub]at hlen;omega
    | cons e r =>
     simp only[E8,Nat.beq_eq]at hk
     exact hk.symm.trans (hl e (.head _))
   subst hsz
   rw[if_neg hml]
   simp only[Option.map_some,eW]
   have hsl:=yK hl l (h-l)
   have:=fC.rd (w:=w) (pm:=pm) (xs:=sub xs l (h-l)) (b:=b) (off:=off+l*sz) (m:=sz) (cap:=m'-l) hm (by rw[hlen];omega) hsl
    (by rw[iE hl];exact hrc.sub _ _) (fun j hj=>?_)
   ·rw[hlen]at this;exact this
   ·rw[hlen]at hj
    rw[Nat.add_assoc]
    refine hp _ ?_
    have:l*sz+(h-l)*sz≤xs.length*sz:=by rw[←Nat.add_mul];exact Nat.mul_le_mul_right _ (by omega)
    omega
theorem alA {m:Nat}{x:Rd}{lo hi mx:Option Rd}(s:S P g w st t O) (h:Ed m x lo hi mx st=some (a,st')) (hc:aw P (.slice m x lo hi mx) o.op=true) :
  cN P g w t O st' a ((execOp (ev t) o).run P w):=by
 obtain⟨dst,op,ty,pos,aft,gd⟩:=o
 simp only[aw]at hc
 split at hc
 ·rename_i ty' y l' h' k'
  simp only[Bool.and_eq_true]at hc
  obtain⟨⟨⟨⟨h1,h2⟩,h3⟩,h4⟩,h5⟩:=hc
  obtain⟨v,e1,r1,k1⟩:=Eg h
  obtain⟨Ov,O1,rv,s1,l1⟩:=s.rd h2 r1
  split at k1
  ·rename_i vl e2 r2
   obtain⟨O2,q2,s2,l2⟩:=s1.rdOpt h3 r2
   split at k1
   ·rename_i vh e3 r3
    obtain⟨O3,q3,s3,l3⟩:=s2.rdOpt h4 r3
    split at k1
    ·rename_i vm e4 r4
     obtain⟨O4,q4,s4,l4⟩:=s3.rdOpt h5 r4
     split at k1
     ·rename_i hok
      split at k1
      ·rename_i r hr
       simp only[Option.some.injEq,Prod.mk.injEq]at k1
       obtain⟨rfl,rfl⟩:=k1
       have hle:∀ b,Ov b+O4 b≤O b:=fun b=>by have:=l1 b;have:=l2 b;have:=l3 b;have:=l4 b;omega
       unfold nq at hr
       split at hr
       ·simp at hr
       ·rename_i len hlen
        obtain⟨ad,cap,hx⟩:=IJ hlen rv
        split at hr
        ·simp at hr
        ·rename_i l hh mm hb
         have fin:∀ {cap:Nat}{r:AV},ev t y=.slice ad len cap→len≤cap→
           (∀ m',l≤hh→hh≤len→hh≤m'→m'≤cap→∃ Oa,(∀ b,Oa b≤Ov b)∧RV g w r (.slice (if m'=l then ad else ad.map (·.add (l*m))) (hh-l) (m'-l)) Oa)→
           cN P g w t O ⟨e4,st.hs⟩ r ((execOp (ev t) ⟨dst,.slice ty' y l' h' k',ty,pos,aft,gd⟩).run P w):=by
          intro cap r hx hcap hr
          obtain⟨m',e1,e2,e3,e4,e5⟩:=UX (P:=P) (w:=w) (b:=true) q2 q3 q4 hcap hb
          obtain⟨Oa,hO,hr⟩:=hr m' e2 e3 e4 e5
          refine .pure s (x:=_) ?_ hr s4 fun b=>by have:=hle b;have:=hO b;omega
          simp only[execOp,hx]
          rw[Sem.run_bind,akq h1 e1];rfl
         split at hr
         ·rename_i xs
          simp only[lenOf,Option.some.injEq]at hlen
          subst hlen
          split at hr
          ·rename_i hk
           simp only[Option.some.injEq]at hr
           subst hr
           simp only[RV]at rv
           have hcap:xs.length≤cap:=by
            have:=rv.1;rw[hx]at this
            rcases this.list with ⟨rfl,_⟩ | ⟨_,_,_,_,e,_,h,_⟩
            ·simp
            ·injection e with _ _ e;omega
           refine fin hx hcap fun m' g1 g2 g3 g4=>⟨zero,fun _=>Nat.zero_le _,?_⟩
           simp only[RV]
           have:=rv.1;rw[hx]at this
           exact⟨this.slice hk g1 g2 g3 g4,fun _=>trivial⟩
          ·simp at hr
         ·simp only[lenOf,Option.some.injEq]at hlen
          subst hlen
          simp only[Option.some.injEq]at hr
          subst hr
          simp only[RV]at rv
          rw[rv.1]at hx
          injection hx with hx1 hx2 hx3
          subst hx1 hx3
          refine fin (cap:=0) rv.1 (Nat.le_refl _) fun m' g1 g2 g3 g4=>⟨zero,fun _=>Nat.zero_le _,?_⟩
          simp only[RV]
          have:hh-l=0:=by omega
          have h0:m'-l=0:=by omega
          rw[this,h0]
          exact⟨by split<;>rfl,fun _=>trivial⟩
         ·rename_i k xs
          simp only[lenOf,Option.some.injEq]at hlen
          subst hlen
          split at hr
          ·rename_i hkm
           rw[Nat.beq_eq]at hkm;subst hkm
           have rv0:=rv
           simp only[RV,mY]at rv
           have hshare:RD w g.pm (.lst xs) (ev t y):=by
            have:=RV.share _ _ _ rv0
            simp only[share,RV]at this
            exact this.1
           have hk:E8 k xs=true:=by
            cases xs with
            | nil=>rfl
            | cons e r =>
             rcases rv with ⟨h,_⟩ | ⟨_,_,_,_,_,_,_,_,hl,_⟩
             ·simp at h
             ·simp only[E8,Nat.beq_eq];exact hl e (.head _)
           have hcap:xs.length≤cap:=by
            rw[hx]at hshare
            rcases hshare.list with ⟨rfl,_⟩ | ⟨_,_,_,_,e,_,h,_⟩
            ·simp
            ·injection e with _ _ e;omega
           split at hr
           ·rename_i hhl
            rw[Nat.beq_eq]at hhl;subst hhl
            simp only[Option.some.injEq]at hr
            subst hr
            refine fin hx hcap fun m' g1 g2 g3 g4=>?_
            simp only[RV,mY]
            by_cases hml:m'=l
            ·refine⟨zero,fun _=>Nat.zero_le _,.inl ⟨?_,fun _=>rfl,?_⟩⟩
             ·have:xs.length-l=0:=by omega
              rw[this];simp[sub]
             ·have h0:m'-l=0:=by omega
              have h1:xs.length-l=0:=by omega
              rw[h0,h1]
              exact⟨_,rfl⟩
            ·rcases rv with ⟨rfl,hz,a,e⟩ | ⟨b,off,cap',c,el,e,hc1,hm,hl,hbk,hsz,hrc,hpm,hp,rfl⟩
             ·rw[hx]at e
              injection e with e1 e2 e3
              subst e3
              simp at g1 g2;omega
             ·rw[hx]at e
              injection e with e1 e2 e3
              subst e1 e3
              have hlen:(sub xs l (xs.length-l)).length=xs.length-l:=eX (by omega)
              refine⟨one b,fun _=>Nat.le_refl _,.inr ⟨b,off+l*k,m'-l,c,el,?_,by omega,hm,yK hl _ _,hbk,?_,?_,?_,fun _ j hj=>?_,rfl⟩⟩
              ·rw[if_neg hml,hlen];simp[eW]
              ·have:l*k+(m'-l)*k≤cap*k:=by rw[←Nat.add_mul];exact Nat.mul_le_mul_right _ (by omega)
               omega
              ·rw[iE hl];exact hrc.sub _ _
              ·intro o ho
               obtain⟨h1,h2⟩:=hpm o ho
               refine⟨h1,?_⟩
               have:l*k+(xs.length-l)*k=xs.length*k:=by rw[←Nat.add_mul];congr 1;omega
               rw[hlen];omega
              ·rw[hlen]at hj
               rw[Nat.add_assoc]
               refine hp (by trivial) _ ?_
               have:l*k+(xs.length-l)*k=xs.length*k:=by rw[←Nat.add_mul];congr 1;omega
               omega
           ·simp only[Option.some.injEq]at hr
            subst hr
            refine fin hx hcap fun m' g1 g2 g3 g4=>⟨zero,fun _=>Nat.zero_le _,?_⟩
            simp only[RV]
            rw[hx]at hshare
            exact⟨hshare.slice hk g1 g2 g3 g4,fun _=>trivial⟩
          ·simp at hr
         ·rename_i id off len0
          simp only[lenOf,Option.some.injEq]at hlen
          subst hlen
          simp only[Option.some.injEq]at hr
          subst hr
          simp only[RV]at rv
          obtain⟨rv,_⟩:=rv
          rcases rv with ⟨rfl,ad',e⟩ | ⟨b,cap',hob,e,hc1,hsz⟩
          ·rw[hx]at e
           injection e with e1 e2 e3
           subst e3
           refine fin hx (Nat.le_refl _) fun m' g1 g2 g3 g4=>⟨zero,fun _=>Nat.zero_le _,?_⟩
           simp only[RV]
           have h0:hh-l=0:=by omega
           have h1:m'-l=0:=by omega
           rw[h0,h1]
           exact⟨.inl ⟨rfl,_,rfl⟩,fun _=>trivial⟩
          ·rw[hx]at e
           injection e with e1 e2 e3
           subst e1 e3
           have hesz:g.esz id=m:=by
            simp only[okSl]at hok
            obtain⟨Oe,Oh,re,rh,ho⟩:=s.parts
            split at hok
            ·rename_i k xs hg
             rw[Nat.beq_eq]at hok;subst hok
             obtain⟨O1,q,_⟩:=RL.get rh hg
             simp only[bf]at q
             rcases q with ⟨_,_,h,_⟩ | ⟨_,_,_,_,h,_⟩
             ·exact h
             ·exact h
            ·rename_i cs hg
             rw[Nat.beq_eq]at hok;subst hok
             obtain⟨O1,q,_⟩:=RL.get rh hg
             simp only[bf]at q
             obtain⟨_,_,_,_,_,_,h,_⟩:=q
             exact h
            ·simp at hok
           refine fin hx hc1 fun m' g1 g2 g3 g4=>⟨zero,fun _=>Nat.zero_le _,?_⟩
           simp only[RV]
           refine⟨?_,fun _=>trivial⟩
           by_cases hml:m'=l
           ·have h0:hh-l=0:=by omega
            have h1:m'-l=0:=by omega
            rw[h0,h1]
            exact .inl ⟨rfl,_,rfl⟩
           ·refine .inr ⟨b,m'-l,hob,?_,by omega,?_⟩
            ·rw[if_neg hml];simp only[Option.map_some,eW]
             rw[Nat.add_mul,hesz,Nat.add_assoc]
            ·have:(off+l+(m'-l))*g.esz id≤(off+cap)*g.esz id:=Nat.mul_le_mul_right _ (by omega)
             omega
         ·simp at hr
      ·simp at k1
     ·simp at k1
    ·simp at k1
   ·simp at k1
  ·simp at k1
 ·simp at hc
theorem acG {b:Bool}:∀ {vs:List AV}{xs:List Value}{Ovs:Nat→Nat}{v r:AV}{x:Value}{Ov:Nat→Nat},RV g w v x Ov→RVs g w vs xs Ovs→nb b v vs=some r→
  (vs=[]→∃ k n,v=.d (.int k n))→
  ∃ z,(xs.foldlM (match b with | true=>Builtin.max2 | false=>Builtin.min2) x).run P w=.ok z w∧RV g w r z zero
 | [],xs,_,v,r,x,Ov,rv,rvs,h,hi=>by
  simp only[RVs]at rvs
  simp only[nb,Option.some.injEq]at h
  obtain⟨rfl,_⟩:=rvs
  subst h
  obtain⟨k,n,rfl⟩:=hi rfl
  have hx:=ox rv rfl
  subst hx
  exact⟨_,rfl,ln _ _⟩
 | u::us,xs,_,v,r,x,Ov,rv,rvs,h,hi=>by
  simp only[RVs]at rvs
  obtain⟨y,s,O1,O2,rfl,r1,r2,_⟩:=rvs
  simp only[nb]at h
  split at h
  ·rename_i v2 hv
   obtain⟨z,hz,rz⟩:=ah3 (P:=P) rv r1 hv
   have hint:∃ k n,v2=.d (.int k n):=by
    unfold ur at hv
    split at hv
    ·split at hv
     ·split at hv<;>simp only[Option.some.injEq]at hv<;>exact⟨_,_,hv.symm⟩
     ·simp at hv
    ·simp at hv
   obtain⟨z2,hz2,rz2⟩:=acG (b:=b) rz r2 h (fun _=>hint)
   refine⟨z2,?_,rz2⟩
   rw[List.foldlM_cons,Sem.run_bind]
   cases b
   ·rw[hz];exact hz2
   ·rw[hz];exact hz2
  ·simp at h
theorem akl {b:Bool}{xs:List Rd}(s:S P g w st t O) (h:pU b xs st=some (a,st')) (hc:aw P (.minmax b xs) o.op=true) :
  cN P g w t O st' a ((execOp (ev t) o).run P w):=by
 obtain⟨dst,op,ty,pos,aft,gd⟩:=o
 simp only[aw]at hc
 split at hc
 ·rename_i c
  simp only[Bool.and_eq_true]at hc
  obtain⟨h1,h4⟩:=hc
  obtain⟨callee,args,ats⟩:=c
  have:=jR h1;subst this
  unfold pU at h
  split at h
  ·rename_i kk nn vs e hr
   obtain⟨Ov,O',rvs,s',l⟩:=s.rdAll h4 hr
   split at h
   ·rename_i r hf
    simp only[Option.some.injEq,Prod.mk.injEq]at h
    obtain⟨rfl,rfl⟩:=h
    simp only[RVs]at rvs
    obtain⟨x,ys,O1,O2,he,r1,r2,_⟩:=rvs
    obtain⟨z,hz,rz⟩:=acG (P:=P) (b:=b) r1 r2 hf fun _=>⟨_,_,rfl⟩
    refine .flat s (x:=z) ?_ rz s' (S.le_left l)
    have ha:(args.map (ev t)).toList=x::ys:=by simpa using he
    cases b
    ·have hrun:(Builtin.min_ ats ty (args.map (ev t))).run P w=.ok z w:=by unfold Builtin.min_;rw[ha];exact hz
     simp only[execOp,resolve,pure_bind,invoke,builtin]
     rw[Sem.run_bind,hrun];rfl
    ·have hrun:(Builtin.max_ ats ty (args.map (ev t))).run P w=.ok z w:=by unfold Builtin.max_;rw[ha];exact hz
     simp only[execOp,resolve,pure_bind,invoke,builtin]
     rw[Sem.run_bind,hrun];rfl
   ·simp at h
  ·simp at h
 ·simp at hc
end
end Go.Vm
namespace Go.Vm
def Gh.add (g:Gh) (id b base esz bsz:Nat):Gh where
 obj i:=if i=id then some b else g.obj i
 base i:=if i=id then base else g.base i
 esz i:=if i=id then esz else g.esz i
 bsz i:=if i=id then bsz else g.bsz i
 pm:=g.pm
section
variable {P:Program}{g:Gh}{w:World}{t:Array Value}{O:Nat→Nat}{st st':St}{a:AV}{o:Oper}
theorem km {w:World}{o:Go.Obj}{b:Nat}(h:b<w.heap.size):(w.alloc o).heap[b]?=w.heap[b]?:=by
 show (w.heap.push o)[b]?=_
 rw[Array.getElem?_push,if_neg (Nat.ne_of_lt h)]
theorem dJ (w:World) (o:Go.Obj):(w.alloc o).heap[w.heap.size]?=some o:=by
 show (w.heap.push o)[w.heap.size]?=_
 rw[Array.getElem?_push,if_pos rfl]
theorem aE.alloc (hp:∀ b o,g.pm b o→b<w.heap.size) (o:Go.Obj) (T:Nat→Prop) (hc:∀ off,dh o off=false:=by intro off;simp[dh]):aE g w g (w.alloc o) T where
 obj _ _ h:=⟨h,rfl,rfl,rfl⟩
 pm b o h:=⟨h,fU (km (hp b o h)) o⟩
 blk b hb _:=⟨km hb,fun _ h=>h⟩
 size:=by simp
 lp b rc h:=⟨rc,by rw[km (ba h)];exact h⟩
 same:=⟨rfl,rfl,fun a=>by
  by_cases h:a.block<w.heap.size
  ·simp only[World.frozen?,km h]
  ·have h2:w.heap[a.block]?=none:=Array.getElem?_eq_none (by omega)
   by_cases e:a.block=w.heap.size
   ·have:=hc a.off
    simp only[World.frozen?,e,dJ,h2]
    rw[←e,h2]
    cases o<;>first | rfl | exact this
   ·have h3:(w.alloc o).heap[a.block]?=none:=Array.getElem?_eq_none (by simp;omega)
    simp only[World.frozen?,h2,h3]⟩
theorem aE.add {w':World}{T:Nat→Prop}(h:aE g w g w' T) {id:Nat}(hn:g.obj id=none) (b base esz bsz:Nat):aE g w (g.add id b base esz bsz) w' T where
 obj i c hc:=by
  have:i≠id:=by rintro rfl;rw[hn]at hc;simp at hc
  simp[Gh.add,this,hc]
 pm b o hp:=h.pm b o hp
 blk:=h.blk
 size:=h.size
 lp:=h.lp
 same:=h.same
theorem fj.ext {g':Gh}{w':World}{T:Nat→Prop}(h:aE g w g' w' T) {e:ak}(r:fj g w e t O) (hO:∀ b,O b≠0→¬ T b):fj g' w' e t O :=
 r.imp' fun _ v O1 _ hle q=>⟨q.1,RV.ext h v _ O1 q.2 fun b hb=>hO b (by have:=hle b;omega)⟩
theorem bf.ext0 {g':Gh}{w':World}{T:Nat→Prop}(h:aE g w g' w' T) {id:Nat}{o:Obj}(r:bf P g w id o O) (hO:∀ b,O b≠0→¬ T b):bf P g' w' id o O:=by
 cases o with
 | cells cs =>
  simp only[bf]at r⊢
  obtain⟨b,c,el,O1,h1,h2,h3,h4,h5,h6,h7,h8⟩:=r
  obtain⟨a1,a2,a3,a4⟩:=h.obj id b h1
  have hb:¬ T b:=hO b (by rw[h8 b];simp)
  obtain⟨e1,e2⟩:=h.blk b (ba h5) hb
  exact⟨b,c,el,O1,a1,a2.trans h2,a3.trans h3,a4.trans h4,e1.trans h5,RVs.ext h _ _ _ h6 (fun x hx=>hO x (by rw[h8 x];omega)),fun o ho=>h7 o (e2 o ho),h8⟩
 | arr m xs =>
  simp only[bf]at r⊢
  rcases r with ⟨h1,h2,h3,h4,⟨b,h5⟩,h6⟩ | ⟨b,c,el,h1,h2,h3,h4,h5,h6,h7,h8,h9,h10⟩
  ·obtain⟨a1,a2,a3,a4⟩:=h.obj id b h5
   exact .inl ⟨h1,a4.trans h2,a3.trans h3,h4,⟨b,a1⟩,h6⟩
  ·obtain⟨a1,a2,a3,a4⟩:=h.obj id b h1
   have hb:¬ T b:=hO b (by rw[h10 b];simp)
   obtain⟨e1,e2⟩:=h.blk b (ba h4) hb
   exact .inr ⟨b,c,el,a1,a3.trans h2,h3,e1.trans h4,by rw[a4];exact h5,by rw[a2,a4];exact h6,h7,by rw[a2];exact h8.ext h (.inl e1),fun o ho=>h9 o (e2 o ho),h10⟩
 | loop snap params assign body busy pend =>
  simp only[bf]at r⊢
  obtain⟨b,rc,h1,h2,h3,h4,h5,h6,h7,h8,h9,h10,h12⟩:=r
  obtain⟨a1,_⟩:=h.obj id b h1
  have hb:¬ T b:=hO b (by rw[h12 b];simp)
  obtain⟨e1,e2⟩:=h.blk b (ba h2) hb
  exact⟨b,rc,a1,e1.trans h2,h3,h4,h5,h6,h7,h8,fj.ext h h9 (by simp),h10,h12⟩
theorem bf.ext {g':Gh}{w':World}{T:Nat→Prop}(h:aE g w g' w' T) {id:Nat}{o:Obj}(r:bf P g w id o O) (hO:∀ b,O b≠0→¬ T b)
  (_:∀ b ds,w.heap[b]?=some (.deferred ds)→¬ T b):bf P g' w' id o O:=r.ext0 h hO
theorem S.new {st:St}(s:S P g w st t O) {blk:Go.Obj}{o:Obj}{base esz bsz:Nat}{O1:Nat→Nat}
  (r:bf P (g.add st.hs.next w.heap.size base esz bsz) (w.alloc blk) st.hs.next o O1) (hle:∀ b,O1 b+O b≤1) (hhi:∀ b,O1 b≠0→b<w.heap.size+1)
  (hc:∀ off,dh blk off=false:=by intro off;simp[dh]) :
  S P (g.add st.hs.next w.heap.size base esz bsz) (w.alloc blk) ⟨st.env,(zw st.hs o).2⟩ t (fun b=>O1 b+O b)∧
   aE g w (g.add st.hs.next w.heap.size base esz bsz) (w.alloc blk) (fun b=>O b≠0):=by
 have hn:=s.fresh st.hs.next (Nat.le_refl _)
 have hx:aE g w (g.add st.hs.next w.heap.size base esz bsz) (w.alloc blk) (fun _=>False):=(aE.alloc s.pmlt blk _ hc).add hn _ _ _ _
 obtain⟨Oe,Oh,re,rh,ho⟩:=s.parts
 have re':=fj.ext hx re (by simp)
 have rh':rP P (g.add st.hs.next w.heap.size base esz bsz) (w.alloc blk) st.hs.heap Oh:=rh.imp' fun k v O1 _ _ q=>q.ext hx (by simp) (by simp)
 have hk:∀ p∈st.hs.heap,p.1≠st.hs.next:=by
  intro p hp e
  have:∃ b,g.obj p.1=some b:=by
   clear re re' rh' hx r hle hhi ho
   generalize st.hs.heap=l at rh hp
   induction l generalizing Oh with
   | nil=>simp at hp
   | cons q l ih =>
    obtain⟨k,v⟩:=q
    obtain⟨Q1,Q2,q1,q2,_⟩:=rh
    rcases List.mem_cons.1 hp with rfl | hp
    ·cases v with
     | cells cs=>simp only[bf]at q1;obtain⟨b,_,_,_,h,_⟩:=q1;exact⟨b,h⟩
     | arr m xs =>
      simp only[bf]at q1
      rcases q1 with ⟨_,_,_,_,h,_⟩ | ⟨b,_,_,h,_⟩
      ·exact h
      ·exact⟨b,h⟩
     | loop _ _ _ _ _ _=>simp only[bf]at q1;obtain⟨b,_,h,_⟩:=q1;exact⟨b,h⟩
    ·exact ih Q2 q2 hp
  rw[e,hn]at this
  simp at this
 rw[←j5 hk]at rh'
 obtain⟨O3,r3,h3⟩:=RL.put s.sh rh' r
 refine⟨⟨s.se,s.sh.put _ _,⟨Oe,O3,re',r3,fun b=>?_⟩,hle,fun b hb=>?_,fun i hi=>?_,fun b o hp=>?_⟩,hx.mono (fun _ _ h=>h.elim)⟩
 ·have:=h3 b;have:=ho b;show O1 b+O b=Oe b+O3 b;omega
 ·simp only[World.size_alloc]
  by_cases h1:O1 b=0
  ·have:=s.hi b (by simp only[h1]at hb;omega);omega
  ·exact hhi b h1
 ·have hi':st.hs.next+1≤i:=hi
  simp only[Gh.add]
  rw[if_neg (by omega)]
  exact s.fresh i (by omega)
 ·simp only[World.size_alloc];have:=s.pmlt b o hp;omega
theorem alq {zs:List AV}(s:S P g w st t O) (h:tR zs st=some (a,st')) (hc:aw P (.alloc zs) o.op=true) :
  cN P g w t O st' a ((execOp (ev t) o).run P w):=by
 obtain⟨dst,op,ty,pos,aft,gd⟩:=o
 simp only[aw]at hc
 split at hc
 ·rename_i e
  split at hc
  ·rename_i i hi
   split at hc
   ·rename_i z hz
    simp only[tR,Option.some.injEq,Prod.mk.injEq]at h
    obtain⟨rfl,rfl⟩:=h
    have hO:O w.heap.size=0:=by
     have:=s.hi w.heap.size
     by_cases h:O w.heap.size=0
     ·exact h
     ·have:=this h;omega
    have r:bf P (g.add st.hs.next w.heap.size 0 1 zs.length) (w.alloc (.cells z.cells e)) st.hs.next (.cells zs) (fun x=>zero x+one w.heap.size x):=by
     simp only[bf]
     refine⟨w.heap.size,z.cells,e,zero,by simp[Gh.add],by simp[Gh.add],by simp[Gh.add],by simp[Gh.add],dJ _ _,RVs.consts hc,fun o ho=>?_,fun _=>rfl⟩
     have:=s.pmlt _ o ho;omega
    obtain⟨s',hx⟩:=s.new r (fun b=>by
     by_cases hb:b=w.heap.size
     ·subst hb;simp[hO]
     ·have:=s.le b;simp[one,hb];exact this) (fun b hb=>by
     have:=mz (b:=w.heap.size) (x:=b) (by simpa using hb);omega)
    refine⟨.pointer (some ⟨w.heap.size,0,none⟩),_,_,zero,_,.inl ?_,?_,s',hx,fun b=>by have:=s'.le b;simpa using this,fun b hb=>?_,by simp⟩
    ·simp[execOp,Instr.alloc,zeroValue,typeInfo,hi,hz,newVar,newRow]
    ·simp only[RV]
     exact⟨⟨w.heap.size,by simp[Gh.add],by simp[Gh.add]⟩,fun _=>trivial⟩
    ·have:b≠w.heap.size:=by omega
     simp[one,this]
   ·simp at hc
  ·simp at hc
 ·simp at hc
end
end Go.Vm
namespace Go.Vm
section
variable {P:Program}{g:Gh}{w:World}{t:Array Value}{O:Nat→Nat}{st st':St}{a:AV}{o:Oper}
theorem adD {v:AV}{x:Value}{Ov:Nat→Nat}(h:au v=true) (r:RV g w v x Ov):x.oneCell'=true:=by
 cases v with
 | junk=>simp[au]at h
 | agg cs=>simp[au]at h
 | tup cs=>simp[au]at h
 | gl n=>simp only[RV]at r;obtain⟨⟨_,_,rfl⟩,_⟩:=r;rfl
 | d c=>simp only[RV]at r;obtain⟨r,_⟩:=r;cases r<;>rfl
 | nl=>simp only[RV]at r;rw[r.1];rfl
 | own p m xs=>simp only[RV,mY]at r;rcases r with ⟨_,_,_,rfl⟩ | ⟨_,_,_,_,_,rfl,_⟩<;>rfl
 | nilp=>simp only[RV]at r;rw[r.1];rfl
 | ptr id off=>simp only[RV]at r;obtain⟨⟨_,_,rfl⟩,_⟩:=r;rfl
 | pel id i off=>simp only[RV]at r;obtain⟨⟨_,_,rfl⟩,_⟩:=r;rfl
 | pim cs off=>simp only[RV]at r;obtain⟨⟨_,_,rfl,_⟩,_⟩:=r;rfl
 | sl id off len=>simp only[RV]at r;rcases r with ⟨⟨_,_,rfl⟩ | ⟨_,_,_,rfl,_⟩,_⟩<;>rfl
 | fn f a c=>simp only[RV]at r;obtain⟨⟨_,_,rfl,_⟩,_⟩:=r;rfl
 | nilf=>simp only[RV]at r;rw[r.1];rfl
 | yield l=>simp only[RV]at r;obtain⟨⟨_,_,rfl⟩,_⟩:=r;rfl
theorem adB {x:Value}(h:x.oneCell'=true):x.cells=#[x]:=by cases x<;>first | rfl | simp[Value.oneCell']at h
theorem RV.cells {v:AV}{x:Value}{Ov:Nat→Nat}(h:v.cells.all au=true) (r:RV g w v x Ov):RVs g w v.cells x.cells.toList Ov:=by
 have one:au v=true→v.cells=[v]→RVs g w v.cells x.cells.toList Ov:=by
  intro h1 h2
  rw[h2,adB (adD h1 r)]
  simp only[RVs]
  exact⟨x,[],Ov,zero,rfl,r,⟨rfl,fun _=>rfl⟩,fun _=>rfl⟩
 cases v with
 | agg cs =>
  simp only[RV]at r
  obtain⟨xs,rfl,r⟩:=r
  exact r
 | _=>exact one (by simpa [AV.cells] using h) rfl
theorem RVs.one {vs:List AV}{xs:List Value}{Ov:Nat→Nat}(h:vs.all au=true) (r:RVs g w vs xs Ov):∀ x∈xs,x.oneCell'=true:=by
 induction vs generalizing xs Ov with
 | nil=>simp only[RVs]at r;rw[r.1];simp
 | cons v vs ih =>
  simp only[RVs]at r
  obtain⟨x,s,O1,O2,rfl,r1,r2,_⟩:=r
  simp only[List.all_cons,Bool.and_eq_true]at h
  intro y hy
  rcases List.mem_cons.1 hy with rfl | hy
  ·exact adD h.1 r1
  ·exact ih h.2 r2 y hy
theorem apS {x:Rd}(s:S P g w st t O) (h:KD x st=some (a,st')) (hc:aw P (.box x) o.op=true) :
  cN P g w t O st' a ((execOp (ev t) o).run P w):=by
 obtain⟨dst,op,ty,pos,aft,gd⟩:=o
 simp only[aw]at hc
 split at hc
 ·rename_i e y
  obtain⟨v,e1,r1,k1⟩:=Eg h
  obtain⟨Ov,O1,rv,s1,l1⟩:=s.rd hc r1
  split at k1
  ·rename_i hall
   simp only[Option.some.injEq,Prod.mk.injEq]at k1
   obtain⟨rfl,rfl⟩:=k1
   have rvs:=rv.cells hall
   have hn:=s1.fresh st.hs.next (Nat.le_refl _)
   have hO:∀ b,w.heap.size≤b→O b=0:=by
    intro b hb
    by_cases h:O b=0
    ·exact h
    ·have:=s.hi b h;omega
   have hx0:aE g w (g.add st.hs.next w.heap.size 0 1 v.cells.length) (w.alloc (.cells (ev t y).cells e)) (fun _=>False):=(aE.alloc s.pmlt _ _).add hn _ _ _ _
   have r:bf P (g.add st.hs.next w.heap.size 0 1 v.cells.length) (w.alloc (.cells (ev t y).cells e)) st.hs.next (.cells v.cells) (fun x=>Ov x+one w.heap.size x):=by
    simp only[bf]
    refine⟨w.heap.size,(ev t y).cells,e,Ov,by simp[Gh.add],by simp[Gh.add],by simp[Gh.add],by simp[Gh.add],dJ _ _,RVs.ext hx0 _ _ _ rvs (by simp),fun o ho=>?_,fun _=>rfl⟩
    have:=s.pmlt _ o ho;omega
   have key:∀ b,Ov b+one w.heap.size b+O1 b≤1:=by
    intro b
    by_cases hb:b=w.heap.size
    ·subst hb
     have:=l1 w.heap.size;have:=hO w.heap.size (Nat.le_refl _)
     simp;omega
    ·have:=l1 b;have:=s.le b;simp[one,hb];omega
   obtain⟨s',hx⟩:=s1.new r (fun b=>key b) (fun b hb=>by
    by_cases h1:Ov b=0
    ·have:=mz (b:=w.heap.size) (x:=b) (by intro h2;exact hb (by show Ov b+one w.heap.size b=0;omega));omega
    ·have:=s.hi b (by have:=l1 b;omega);omega)
   refine⟨.pointer (some ⟨w.heap.size,0,none⟩),_,_,zero,_,.inl ?_,?_,s',hx.mono fun b _ hb=>by have:=l1 b;omega,fun b=>by have:=s'.le b;simpa using this,fun b hb=>?_,by simp⟩
   ·simp[execOp,Instr.box,newVar,newRow]
   ·simp only[RV]
    exact⟨⟨w.heap.size,by simp[Gh.add],by simp[Gh.add]⟩,fun _=>trivial⟩
   ·have:b≠w.heap.size:=by omega
    have:=l1 b
    simp[one, *]
  ·simp at k1
 ·simp at hc
theorem Ch {ty:TypeId}(h:Cb P ty=true) {ad:Addr}{x:Value}(hx:w.cell? ad=some x):(loadVar ty ad).run P w=.ok x w:=by
 simp[loadVar,sf h,hx]
end
end Go.Vm
namespace Go.Vm
section
variable {P:Program}{g:Gh}{w:World}{t:Array Value}{O:Nat→Nat}{st st':St}{a:AV}{o:Oper}
theorem dn {b:Nat}{c:Array Value}{el:TypeId}{fz:Nat×Nat}(h:w.heap[b]?=some (.cells c el fz)) (off:Nat):w.cell? ⟨b,off,none⟩=c[off]?:=by
 simp[World.cell?,h]
theorem RVs.replace {cs:List AV}{xs:List Value}{Ov:Nat→Nat}(r:RVs g w cs xs Ov) {i:Nat}{v:AV}(h:cs[i]?=some v) :
  ∃ x O1,xs[i]?=some x∧RV g w v x O1∧(∀ b,O1 b≤Ov b)∧∀ v2 O2,RV g w v2 x O2→∃ O',RVs g w (cs.set i v2) xs O'∧∀ b,O' b+O1 b=Ov b+O2 b:=by
 induction cs generalizing xs Ov i with
 | nil=>simp at h
 | cons c cs ih =>
  simp only[RVs]at r
  obtain⟨x,s,O1,O2,rfl,r1,r2,hs⟩:=r
  cases i with
  | zero =>
   simp at h;subst h
   refine⟨x,O1,rfl,r1,fun b=>by rw[hs b];omega,fun v2 P2 rv2=>⟨fun b=>P2 b+O2 b,?_,fun b=>by have:=hs b;show P2 b+O2 b+O1 b=Ov b+P2 b;omega⟩⟩
   simp only[List.set_cons_zero,RVs]
   exact⟨x,s,P2,O2,rfl,rv2,r2,fun _=>rfl⟩
  | succ i =>
   simp at h
   obtain⟨y,P1,h1,h2,h3,h4⟩:=ih r2 h
   refine⟨y,P1,by simpa using h1,h2,fun b=>by have:=h3 b;rw[hs b];omega,fun v2 P2 rv2=>?_⟩
   obtain⟨O',r',h'⟩:=h4 v2 P2 rv2
   refine⟨fun b=>O1 b+O' b,?_,fun b=>by have:=h' b;have:=hs b;show O1 b+O' b+P1 b=Ov b+P2 b;omega⟩
   simp only[List.set_cons_succ,RVs]
   exact⟨x,s,O1,O',rfl,r1,r',fun _=>rfl⟩
theorem aaD (n:Nat) {v:AV}{x:Value}{Ov:Nat→Nat}(r:RV g w v x Ov) :
  ∃ O1 O2,RV g w (jC n v).1 x O1∧RV g w (jC n v).2 x O2∧∀ b,O1 b+O2 b=Ov b:=by
 have share:=RV.share _ _ _ r
 unfold jC
 split
 ·exact⟨Ov,zero,r,by simp[RV],fun _=>rfl⟩
 ·exact⟨Ov,zero,r,share,fun _=>rfl⟩
 ·refine⟨Ov,zero,r,?_,fun _=>rfl⟩
  cases v<;>try exact share
  rename_i p m xs
  simp only[RV,mY]at r⊢
  rcases r with ⟨rfl,_,ad,e⟩ | ⟨b,off,cap,_,_,e,_⟩
  ·exact⟨⟨ad,0,e⟩,fun _=>trivial⟩
  ·exact⟨⟨_,cap,e⟩,fun _=>trivial⟩
 ·exact⟨zero,Ov,share,r,fun b=>by simp⟩
theorem IR (n:Nat):∀ {vs:List AV}{xs:List Value}{Ov:Nat→Nat},RVs g w vs xs Ov→
  ∃ O1 O2,RVs g w (ck n vs).1 xs O1∧RVs g w (ck n vs).2 xs O2∧∀ b,O1 b+O2 b=Ov b
 | [],xs,Ov,r=>by simp only[RVs,ck]at r⊢;exact⟨zero,zero,⟨r.1,fun _=>rfl⟩,⟨r.1,fun _=>rfl⟩,fun b=>by have:=r.2 b;show 0+0=Ov b;omega⟩
 | v::vs,xs,Ov,r=>by
  simp only[RVs]at r
  obtain⟨x,s,O1,O2,rfl,r1,r2,hs⟩:=r
  obtain⟨A1,A2,a1,a2,ha⟩:=aaD n r1
  obtain⟨B1,B2,b1,b2,hb⟩:=IR n r2
  refine⟨fun b=>A1 b+B1 b,fun b=>A2 b+B2 b,?_,?_,fun b=>by have:=ha b;have:=hb b;have:=hs b;show A1 b+B1 b+(A2 b+B2 b)=Ov b;omega⟩
  ·simp only[RVs,ck];exact⟨x,s,A1,B1,rfl,a1,b1,fun _=>rfl⟩
  ·simp only[RVs,ck];exact⟨x,s,A2,B2,rfl,a2,b2,fun _=>rfl⟩
theorem S.upd {st:St}(s:S P g w st t O) {id:Nat}{ob:Obj}(hg:get st.hs.heap id=some ob) :
  ∃ O1 Oz:Nat→Nat,bf P g w id ob O1∧(∀ b,O1 b+Oz b≤O b)∧∀ (ob':Obj) (O1':Nat→Nat),bf P g w id ob' O1'→(∀ b,O1' b≤O1 b)→
   S P g w ⟨st.env,⟨put st.hs.heap id ob',st.hs.next⟩⟩ t (fun b=>O1' b+Oz b):=by
 obtain⟨Oe,Oh,re,rh,ho⟩:=s.parts
 obtain⟨O1,O2,q,r2,hs⟩:=RL.take rh hg
 refine⟨O1,fun b=>Oe b+O2 b,q,fun b=>by have:=hs b;have:=ho b;show O1 b+(Oe b+O2 b)≤O b;omega,fun ob' O1' q' hle=>?_⟩
 obtain⟨O3,r3,h3⟩:=RL.put s.sh r2 q'
 have hall:∀ b,O1' b+(Oe b+O2 b)≤O b:=fun b=>by have:=hs b;have:=ho b;have:=hle b;omega
 exact⟨s.se,s.sh.put _ _,⟨Oe,O3,re,r3,fun b=>by have:=h3 b;show O1' b+(Oe b+O2 b)=Oe b+O3 b;omega⟩,
  fun b=>Nat.le_trans (hall b) (s.le b),fun b hb=>s.hi b (by have:=hall b;change O1' b+(Oe b+O2 b)≠0 at hb;omega),s.fresh,s.pmlt⟩
theorem fC.vals {pm:Nat→Nat→Prop}{cs:List D}{b off:Nat}(r:fC w pm cs b off) :
  ∃ xs:List Value,xs.length=cs.length∧(∀ (j:Nat) (x:Value),xs[j]?=some x→w.cell? ⟨b,off+j,none⟩=some x)∧∀ (j:Nat) (c:D) (x:Value),cs[j]?=some c→xs[j]?=some x→RD w pm c x:=by
 induction cs generalizing off with
 | nil=>exact⟨[],rfl,fun j x h=>by simp at h,fun j c x h=>by simp at h⟩
 | cons c cs ih =>
  obtain⟨u,hu,hr⟩:=r 0 c rfl
  have r':fC w pm cs b (off+1):=by
   intro j d hj
   obtain⟨v,hv,hr⟩:=r (j+1) d (by simpa using hj)
   exact⟨v,by rw[show off+1+j=off+(j+1) by omega];exact hv,hr⟩
  obtain⟨xs,h1,h2,h3⟩:=ih r'
  refine⟨u::xs,by simp[h1],fun j x hj=>?_,fun j d x hd hx=>?_⟩
  ·cases j with
   | zero=>simp at hj;subst hj;simpa using hu
   | succ j=>simp at hj;rw[show off+(j+1)=off+1+j by omega];exact h2 j x hj
  ·cases j with
   | zero=>simp at hd hx;subst hd hx;exact hr
   | succ j=>simp at hd hx;exact h3 j d x hd hx
theorem RVs.ds {pm:Nat→Nat→Prop}(hp:g.pm=pm):∀ {cs:List D}{xs:List Value},xs.length=cs.length→(∀ (j:Nat) (c:D) (x:Value),cs[j]?=some c→xs[j]?=some x→RD w pm c x)→
  RVs g w (cs.map .d) xs zero
 | [],[],_,_=>by simp[RVs]
 | c::cs,x::xs,h,hr=>by
  simp only[List.map_cons,RVs]
  exact⟨x,xs,zero,zero,rfl,by simp only[RV];exact⟨by rw[hp];exact hr 0 c x rfl rfl,fun _=>trivial⟩,
   RVs.ds hp (by simpa using h) (fun j d y h1 h2=>hr (j+1) d y (by simpa using h1) (by simpa using h2)),fun _=>rfl⟩
 | [],_::_,h,_=>by simp at h
 | _::_,[],h,_=>by simp at h
theorem TD {ty:TypeId}{n:Option Nat}(ht:iU P ty n=true) {cs:List D}{b off k:Nat}(r:fC w g.pm cs b off) {v:AV}(h:iR n cs k=some v) :
  ∃ x,(loadVar ty ⟨b,off+k,none⟩).run P w=.ok x w∧RV g w v x zero:=by
 cases n with
 | none =>
  simp only[iR]at h
  split at h
  ·rename_i c hc
   simp only[Option.some.injEq]at h;subst h
   obtain⟨u,hu,hr⟩:=r k c hc
   exact⟨u,Ch (by simpa only[iU] using ht) hu,by simp only[RV];exact⟨hr,fun _=>trivial⟩⟩
  ·simp at h
 | some n =>
  simp only[iU,Bool.and_eq_true]at ht
  simp only[iR]at h
  split at h
  ·rename_i hb
   rw[Nat.ble_eq]at hb
   simp only[Option.some.injEq]at h;subst h
   obtain⟨xs,h1,h2,h3⟩:=(r.sub k n).vals
   have hlen:(Vm.sub cs k n).length=n:=eX hb
   refine⟨.agg xs.toArray,?_,?_⟩
   ·have hl:=run_loadCells_list (P:=P) (w:=w) ⟨b,off+k,none⟩ xs (fun j v hj=>by rw[eW];exact h2 j v hj)
    rw[h1,hlen]at hl
    simp only[loadVar,Sem.run_bind,np ht.1,Result.andThen_ok,if_true,b6 ht.2,hl,Sem.run_pure]
   ·simp only[RV]
    exact⟨xs.toArray,rfl,by simpa using RVs.ds rfl h1 h3⟩
  ·simp at h
theorem ae6 {cs:List AV}{off n:Nat}(h:off+n≤cs.length):cs=cs.take off++(Vm.sub cs off n++cs.drop (off+n)):=by
 have:Vm.sub cs off n++cs.drop (off+n)=cs.drop off:=by
  unfold Vm.sub
  rw[←List.drop_drop,List.take_append_drop]
 rw[this,List.take_append_drop]
theorem S3 {ty:TypeId}{n:Option Nat}{take:Nat}(ht:iU P ty n=true) {st:St}(s:S P g w st t O) {id off:Nat}{b:Nat}(hob:g.obj id=some b)
  {v:AV}{h':ac}(h:loadAt st.hs.heap n take (.ptr id off)=some (v,h')) :
  ∃ x O1 O2,(loadVar ty ⟨b,g.base id+off,none⟩).run P w=.ok x w∧RV g w v x O1∧S P g w ⟨st.env,⟨h',st.hs.next⟩⟩ t O2∧∀ c,O1 c+O2 c≤O c:=by
 simp only[loadAt]at h
 split at h
 ·rename_i cs hg
  obtain⟨O1,Oz,q,hsum,hput⟩:=s.upd hg
  have q0:=q
  simp only[bf]at q
  obtain⟨b',c,el,Oc,h1,h2,h3,h4,h5,h6,h7,h8⟩:=q
  rw[hob]at h1
  simp only[Option.some.injEq]at h1
  subst h1
  rw[h2,Nat.zero_add]
  have hsz:c.size=cs.length:=by rw[←h6.length];simp
  split at h
  ·
   split at h
   ·simp at h
   ·rename_i u hu
    obtain⟨x,P1,hx,ru,hle,hrep⟩:=h6.replace hu
    have hcell:w.cell? ⟨b,off,none⟩=some x:=by rw[dn h5,←Array.getElem?_toList];exact hx
    have hrun:=Ch (P:=P) (by simpa only[iU] using ht) hcell
    split at h
    ·simp only[Option.some.injEq,Prod.mk.injEq]at h
     obtain⟨rfl,rfl⟩:=h
     exact⟨x,zero,O,hrun,RV.share _ _ _ ru,s,fun c=>by simp⟩
    ·rename_i _
     simp only[Option.some.injEq,Prod.mk.injEq]at h
     obtain⟨rfl,rfl⟩:=h
     obtain⟨A1,A2,a1,a2,ha⟩:=aaD take ru
     obtain⟨O',r',h'⟩:=hrep _ A2 a2
     have hle2:∀ x,O' x+one b x≤O1 x:=fun x=>by have:=h' x;have:=ha x;have:=h8 x;omega
     refine⟨x,A1,_,hrun,a1,hput (.cells (cs.set off (jC take u).2)) (fun x=>O' x+one b x) ?_ hle2,fun c=>?_⟩
     ·simp only[bf]
      exact⟨b,c,el,O',hob,h2,h3,by rw[List.length_set];exact h4,h5,r',h7,fun _=>rfl⟩
     ·have:=h' c;have:=ha c;have:=h8 c;have:=hsum c
      show A1 c+(O' c+one b c+Oz c)≤O c
      omega
  ·
   rename_i n
   simp only[iU,Bool.and_eq_true]at ht
   split at h
   ·rename_i hb
    rw[Nat.ble_eq]at hb
    have hcs:=ae6 hb
    have r6:=h6
    rw[hcs]at r6
    obtain⟨B1,B2,rb1,rb2,hb12⟩:=r6.split
    obtain⟨B3,B4,rb3,rb4,hb34⟩:=rb2.split
    have htl:(cs.take off).length=off:=by simp;omega
    have hsl:(Vm.sub cs off n).length=n:=eX hb
    rw[htl]at rb1 rb3 rb4
    rw[hsl]at rb3 rb4
    have hlist:∀ (j:Nat) (v:Value),((c.toList.drop off).take n)[j]?=some v→w.cell? ((⟨b,off,none⟩:Addr).add j)=some v:=by
     intro j v hj
     rw[eW,dn h5,←Array.getElem?_toList]
     rw[List.getElem?_take]at hj
     split at hj
     ·rw[List.getElem?_drop]at hj;exact hj
     ·simp at hj
    have hlen:((c.toList.drop off).take n).length=n:=by simp;omega
    have hl:=run_loadCells_list (P:=P) (w:=w) ⟨b,off,none⟩ ((c.toList.drop off).take n) hlist
    rw[hlen]at hl
    have hrun:(loadVar ty ⟨b,off,none⟩).run P w=.ok (.agg ((c.toList.drop off).take n).toArray) w:=by
     simp only[loadVar,Sem.run_bind,np ht.1,Result.andThen_ok,if_true,b6 ht.2,hl,Sem.run_pure]
    split at h
    ·simp only[Option.some.injEq,Prod.mk.injEq]at h
     obtain⟨rfl,rfl⟩:=h
     refine⟨_,zero,O,hrun,?_,s,fun c=>by simp⟩
     simp only[RV]
     exact⟨_,rfl,by simpa using RVs.share _ _ _ rb3⟩
    ·rename_i _
     simp only[Option.some.injEq,Prod.mk.injEq]at h
     obtain⟨rfl,rfl⟩:=h
     obtain⟨A1,A2,a1,a2,ha⟩:=IR take rb3
     have hjoin:=rb1.join (a2.join rb4)
     have e1:cs.take off++((ck take (Vm.sub cs off n)).2++cs.drop (off+n))=ai cs off (ck take (Vm.sub cs off n)).2:=by
      have:(ck take (Vm.sub cs off n)).2.length=n:=by
       rw[←a2.length,hlen]
      unfold ai;rw[this,List.append_assoc]
     have e2:c.toList.take off++((c.toList.drop off).take n++(c.toList.drop off).drop n)=c.toList:=by
      rw[List.take_append_drop,List.take_append_drop]
     rw[e1,e2]at hjoin
     have hle2:∀ x,(B1 x+(A2 x+B4 x))+one b x≤O1 x:=fun x=>by have:=ha x;have:=h8 x;have:=hb12 x;have:=hb34 x;omega
     refine⟨_,A1,_,hrun,?_,hput (.cells (ai cs off (ck take (Vm.sub cs off n)).2)) (fun x=>(B1 x+(A2 x+B4 x))+one b x) ?_ hle2,fun x=>?_⟩
     ·simp only[RV];exact⟨_,rfl,by simpa using a1⟩
     ·simp only[bf]
      refine⟨b,c,el,_,hob,h2,h3,?_,h5,hjoin,h7,fun _=>rfl⟩
      rw[h4,←hsz,←hjoin.length];simp
     ·have:=ha x;have:=h8 x;have:=hb12 x;have:=hb34 x;have:=hsum x
      show A1 x+((B1 x+(A2 x+B4 x))+one b x+Oz x)≤O x
      omega
   ·simp at h
 ·simp at h
theorem arT {n:Option Nat}{take:Nat}{p:Rd}(s:S P g w st t O) (h:tP n take p st=some (a,st')) (hc:aw P (.ld n take p) o.op=true) :
  cN P g w t O st' a ((execOp (ev t) o).run P w):=by
 obtain⟨dst,op,ty,pos,aft,gd⟩:=o
 simp only[aw]at hc
 split at hc
 ·rename_i ty' y
  simp only[Bool.and_eq_true]at hc
  obtain⟨h1,h2⟩:=hc
  obtain⟨v,e1,r1,k1⟩:=Eg h
  obtain⟨Ov,O1,rv,s1,l1⟩:=s.rd h2 r1
  split at k1
  ·rename_i r h' hl
   simp only[Option.some.injEq,Prod.mk.injEq]at k1
   obtain⟨rfl,rfl⟩:=k1
   have fin:∀ {ad:Addr}{x:Value},ev t y=.pointer (some ad)→(loadVar ty' ad).run P w=.ok x w→
     (execOp (ev t) ⟨dst,.load ty' y,ty,pos,aft,gd⟩).run P w=.ok (.value x) w:=by
    intro ad x he hr
    simp only[execOp,he]
    rw[Sem.run_bind]
    simp only[Instr.loadAt,Instr.sureAddr,pure_bind,hr,Result.andThen_ok,Sem.run_pure]
   cases v with
   | ptr id off =>
    simp only[RV]at rv
    obtain⟨⟨b,hob,he⟩,_⟩:=rv
    obtain⟨x,A1,A2,hrun,ra,sa,la⟩:=S3 h1 s1 hob hl
    exact .pure s (fin he hrun) ra sa fun c=>by have:=la c;have:=l1 c;omega
   | pel id i off =>
    simp only[RV]at rv
    obtain⟨⟨b,hob,he⟩,_⟩:=rv
    simp only[loadAt]at hl
    split at hl
    ·rename_i m xs hg
     split at hl
     ·rename_i e hx
      split at hl
      ·rename_i u hu
       simp only[Option.some.injEq,Prod.mk.injEq]at hl
       obtain⟨rfl,rfl⟩:=hl
       obtain⟨Oe,Oh,re,rh,ho⟩:=s1.parts
       obtain⟨Q,q,_⟩:=RL.get rh hg
       simp only[bf]at q
       rcases q with ⟨rfl,_⟩ | ⟨b',c,el,g1,g2,g3,g4,g5,g6,g7,g8,g9,g10⟩
       ·simp at hx
       ·rw[hob]at g1
        simp only[Option.some.injEq]at g1
        subst g1
        have hrc:=g8.elem g7 hx
        obtain⟨x,hrun,rx⟩:=TD (P:=P) h1 hrc hu
        refine .flat s (fin he (x:=x) ?_) rx s1 (S.le_left l1)
        rw[g2,←Nat.add_assoc];exact hrun
      ·simp at hl
     ·simp at hl
    ·simp at hl
   | pim cs off =>
    simp only[RV]at rv
    obtain⟨⟨b,k,he,hrc,_⟩,_⟩:=rv
    simp only[loadAt]at hl
    split at hl
    ·rename_i u hu
     simp only[Option.some.injEq,Prod.mk.injEq]at hl
     obtain⟨rfl,rfl⟩:=hl
     obtain⟨x,hrun,rx⟩:=TD (P:=P) h1 hrc hu
     exact .flat s (fin he hrun) rx s1 (S.le_left l1)
    ·simp at hl
   | _=>simp[loadAt]at hl
  ·simp at k1
 ·simp at hc
end
end Go.Vm
namespace Go.Vm
section
variable {P:Program}{g:Gh}{w:World}{t:Array Value}{O:Nat→Nat}{st st':St}{a:AV}{o:Oper}
theorem S.grow {st:St}(s:S P g w st t O) {w':World}(h:aE g w g w' fun _=>False):S P g w' st t O:=by
 obtain⟨Oe,Oh,re,rh,ho⟩:=s.parts
 exact⟨s.se,s.sh,⟨Oe,Oh,fj.ext h re (by simp),rh.imp' fun k v O1 _ _ q=>q.ext h (by simp) (by simp),ho⟩,s.le,
  fun b hb=>Nat.lt_of_lt_of_le (s.hi b hb) h.size,s.fresh,fun b o hp=>Nat.lt_of_lt_of_le (s.pmlt b o hp) h.size⟩
theorem S.out {st:St}(s:S P g w st t O) {b:Nat}(h:w.heap.size≤b):O b=0:=by
 by_cases h':O b=0
 ·exact h'
 ·have:=s.hi b h';omega
theorem aE.drew (g:Gh) (w:World) (T:Nat→Prop):aE g w g w.drew T:=⟨fun _ _ h=>⟨h,rfl,rfl,rfl⟩,fun _ _ h=>⟨h,rfl⟩,fun _ _ _=>⟨rfl,fun _ h=>h⟩,Nat.le_refl _,fun _ rc h=>⟨rc,h⟩,rfl,rfl,fun _=>rfl⟩
theorem cN.list {res:Result Next}{m cap:Nat}{xs:List (List D)}{c:Array Value}{el:TypeId}{w1:World}{O':Nat→Nat}(s0:S P g w st t O)
  (s:S P g w st' t O') (hle:∀ b,O' b≤O b) (hx1:aE g w g w1 fun _=>False) (hsz1:w1.heap.size=w.heap.size)
  (h:res=.ok (.value (.slice (some ⟨w.heap.size,0,none⟩) xs.length cap)) (w1.alloc (.cells c el)))
  (hm:0<m) (hl:∀ e∈xs,e.length=m) (hcap:xs.length≤cap) (hsz:cap*m≤c.size) (hc:∀ (j:Nat) (d:D),xs.flatten[j]?=some d→∃ u,c[j]?=some u∧RD w g.pm d u) :
  cN P g w t O st' (.own true m xs) res:=by
 have hp1:∀ b o,g.pm b o→b<w1.heap.size:=fun b o hp=>by rw[hsz1];exact s0.pmlt b o hp
 have hx:aE g w g (w1.alloc (.cells c el)) fun _=>False:=hx1.trans (aE.alloc hp1 _ _) fun _ _ h=>h
 have hO:O w.heap.size=0:=s0.out (Nat.le_refl _)
 refine⟨_,w1.alloc (.cells c el),g,one w.heap.size,O',.inl h,?_,s.grow hx,hx.mono (fun _ _ h=>h.elim),fun b=>?_,fun b hb=>?_,fun b hb=>?_⟩
 ·simp only[RV,mY]
  refine .inr ⟨w.heap.size,0,cap,c,el,rfl,hcap,hm,hl,?_,by omega,fun j d hj=>?_,fun o ho=>?_,fun h=>by simp at h,rfl⟩
  ·rw[←hsz1];exact dJ _ _
  ·obtain⟨u,hu,hr⟩:=hc j d hj
   refine⟨u,?_,hr.ext hx⟩
   rw[dn (c:=c) (el:=el) (fz:=(0,0)) (by rw[←hsz1];exact dJ _ _)]
   rw[Nat.zero_add];exact hu
  ·have:=s0.pmlt _ o ho;omega
 ·by_cases hb:b=w.heap.size
  ·subst hb;have:=hle w.heap.size;simp;omega
  ·have:=hle b;have:=s0.le b;simp[one,hb];omega
 ·have:b≠w.heap.size:=by omega
  have:=hle b
  simp[one, *]
 ·have:=mz hb;subst this;simp[hsz1]
theorem PF {zs:List D}{vs:List Value}(h:IN zs vs=true):zs.length=vs.length∧∀ (j:Nat) (d:D),zs[j]?=some d→∃ u,vs[j]?=some u∧RD w g.pm d u:=by
 induction zs generalizing vs with
 | nil=>cases vs<;>simp[IN]at h⊢
 | cons z zs ih =>
  cases vs with
  | nil=>simp[IN]at h
  | cons v vs =>
   simp only[IN,Bool.and_eq_true]at h
   obtain⟨h1,h2⟩:=ih h.2
   refine⟨by simp[h1],fun j d hj=>?_⟩
   cases j with
   | zero=>simp at hj;subst hj;exact⟨v,rfl,.const h.1⟩
   | succ j=>simp at hj;obtain⟨u,hu,hr⟩:=h2 j d hj;exact⟨u,by simpa using hu,hr⟩
theorem ND {z:List D}{n j:Nat}{d:D}(h:(List.replicate n z).flatten[j]?=some d):z[j % z.length]?=some d∧j<n*z.length:=by
 induction n generalizing j with
 | zero=>simp at h
 | succ n ih =>
  rw[List.replicate_succ,List.flatten_cons]at h
  rcases Nat.lt_or_ge j z.length with hj | hj
  ·rw[List.getElem?_append_left hj]at h
   rw[Nat.mod_eq_of_lt hj,Nat.succ_mul]
   exact⟨h,by omega⟩
  ·rw[List.getElem?_append_right hj]at h
   obtain⟨h1,h2⟩:=ih h
   rw[Nat.mod_eq_sub_mod hj,Nat.succ_mul]
   exact⟨h1,by omega⟩
theorem tI {ty:TypeId}{z:List D}(h:rG P ty z=true):∃ e i zv,P.underlying ty=some (.slice e)∧P.info? e=some i∧i.zero=some zv∧IN z zv.cells.toList=true:=by
 unfold rG at h
 split at h
 ·rename_i e hu
  unfold akE at h
  split at h
  ·rename_i i hi
   split at h
   ·rename_i zv hz;exact⟨e,i,zv,hu,hi,hz,h⟩
   ·simp at h
  ·simp at h
 ·simp at h
theorem FI {n:Nat}(h:n≤4294967296):IntKind.i64.wrap (n:Int)=n:=by
 apply agE
 ·have:IntKind.min .i64=-9223372036854775808:=by decide
  omega
 ·have:IntKind.max .i64=9223372036854775807:=by decide
  omega
theorem abr {ty el:TypeId}{i:TypeInfo}{zv:Value}{kn kc:IntKind}{n cc:Nat}(hu:P.underlying ty=some (.slice el)) (hi:P.info? el=some i) (hz:i.zero=some zv)
  (hby:i.bytes≤4096) (hnc:n≤cc) (hcm:cc≤4294967296) :
  (Instr.makeSlice ty (.int kn (n:Int)) (.int kc (cc:Int))).run P w =
   .ok (.slice (some ⟨w.heap.size,0,none⟩) n cc) (w.alloc (.cells ((Array.range (cc*i.size)).map (zv.cells[·% zv.cells.size]!)) el)):=by
 have hw1:=FI (n:=n) (by omega)
 have hw2:=FI (n:=cc) hcm
 have hprod:i.bytes*cc≤4096*4294967296:=Nat.mul_le_mul hby hcm
 have hcast:((i.bytes*cc:Nat):Int)=(i.bytes:Int)*(cc:Int):=Int.natCast_mul _ _
 have hbig:¬ ((i.bytes:Int)*(cc:Int) > 2 ^ 48):=by
  rw[←hcast]
  have:((i.bytes*cc:Nat):Int)≤((4096*4294967296:Nat):Int):=Int.ofNat_le.2 hprod
  omega
 have hc0:¬ (cc:Int)<0:=by omega
 have hn0:¬ (n:Int)<0:=by omega
 have hnc':¬ (n:Int) > (cc:Int):=by omega
 simp only[Instr.makeSlice,Sem.run_bind,aj hu,Result.andThen_ok,asInt,asIntOf,Sem.run_pure,typeInfo,run_program,hi,hw1,hw2,hc0,hn0,hnc',hbig,
  decide_false,Bool.or_self,Bool.false_eq_true,if_false,run_askRoom,sizeOf,Int.toNat_natCast]
 by_cases hcz:cc*i.size=0
 ·have h0:Array.range 0=#[]:=by simp[Array.range]
  simp[hcz,newRow,h0]
 ·simp[hcz,newRow,zeroValue,typeInfo,hi,hz]
theorem SL {z:List D}{len cap:Rd}(s:S P g w st t O) (h:gb z len cap st=some (a,st')) (hc:aw P (.mkslice z len cap) o.op=true) :
  cN P g w t O st' a ((execOp (ev t) o).run P w):=by
 obtain⟨dst,op,ty,pos,aft,gd⟩:=o
 simp only[aw]at hc
 split at hc
 ·rename_i ty' l c
  simp only[Bool.and_eq_true]at hc
  obtain⟨⟨⟨h1,h2⟩,h3⟩,h4⟩:=hc
  obtain⟨vn,vc,e,On,Oc,O',rn,rc,s',hl,hk⟩:=Km s h3 h4 h
  split at hk
  ·rename_i cc hcc
   split at hk
   ·rename_i n hn
    simp only[Option.some.injEq,Prod.mk.injEq]at hk
    obtain⟨rfl,rfl⟩:=hk
    obtain⟨⟨kc,hvc⟩,hcm⟩:=vq hcc rc
    obtain⟨⟨kn,hvn⟩,hnc⟩:=vq hn rn
    obtain⟨el,hu,hs,hm,hby⟩:=c6 h1
    obtain⟨el',i,zv,hu',hi,hz,hok⟩:=tI h2
    rw[hu]at hu'
    simp only[Option.some.injEq,TypeDesc.slice.injEq]at hu'
    subst hu'
    obtain⟨hzl,hzg⟩:=PF (w:=w) (g:=g) hok
    have hsz:i.size=z.length:=by
     simp only[mH,hi,Nat.beq_eq]at hs;exact hs
    have hzs:zv.cells.size=z.length:=by rw[hzl];simp
    have hbytes:P.bytesOf el=i.bytes:=by simp[Program.bytesOf,hi]
    rw[hbytes]at hby
    have hrun:=abr (P:=P) (w:=w) (kn:=kn) (kc:=kc) hu hi hz hby hnc hcm
    rw[hsz]at hrun
    have hnz:0<z.length:=hm
    refine cN.list (cap:=cc) (c:=(Array.range (cc*z.length)).map (zv.cells[·% zv.cells.size]!)) (el:=el) (w1:=w) s s' (fun b=>by have:=hl b;omega) (aE.refl _ _ _) rfl ?_ hm
     (fun e he=>by rw[List.mem_replicate]at he;rw[he.2]) (by simpa using hnc) (by simp) (fun j d hj=>?_)
    ·simp only[execOp,hvn,hvc]
     rw[Sem.run_bind,hrun]
     simp
    ·obtain⟨h5,h6⟩:=ND hj
     obtain⟨u,hu,hr⟩:=hzg _ d h5
     have hlt:j<cc*z.length:=Nat.lt_of_lt_of_le h6 (Nat.mul_le_mul_right _ hnc)
     refine⟨u,?_,hr⟩
     have hjm:j % z.length<zv.cells.size:=by rw[hzs];exact Nat.mod_lt _ hnz
     have hu2:zv.cells[j % zv.cells.size]! = u:=by
      rw[hzs]
      have:zv.cells[j % z.length]?=some u:=by rw[←Array.getElem?_toList];exact hu
      rw[getElem!_def,this]
     simp only[Array.getElem?_map,Array.getElem?_range,hlt,if_true,Option.map_some,hu2]
   ·simp at hk
  ·simp at hk
 ·simp at hc
end
end Go.Vm
namespace Go.Vm
def setBlk (w:World) (b:Nat) (o:Go.Obj):World:={ w with heap:=w.heap.setIfInBounds b o }
@[simp] theorem Du (w:World) (b:Nat) (o:Go.Obj):(setBlk w b o).heap.size=w.heap.size:=by simp[setBlk]
theorem cg {w:World}{b:Nat}{o:Go.Obj}(h:b<w.heap.size):(setBlk w b o).heap[b]?=some o:=by
 simp[setBlk,h]
theorem dE {w:World}{b b':Nat}{o:Go.Obj}(h:b'≠b):(setBlk w b o).heap[b']?=w.heap[b']?:=by
 simp[setBlk,Array.getElem?_setIfInBounds,Ne.symm h]
theorem abO (w:World) (b:Nat) (o o':Go.Obj):setBlk (setBlk w b o) b o'=setBlk w b o':=by
 simp[setBlk]
theorem afT {w:World}{b o:Nat}{c:Array Value}{el:TypeId}{fz:Nat×Nat}{v:Value}(h:w.heap[b]?=some (.cells c el fz)) :
  w.setCell ⟨b,o,none⟩ v=setBlk w b (.cells (c.setIfInBounds o v) el fz):=by
 unfold World.setCell setBlk
 congr 1
 apply Array.ext_getElem?
 intro j
 rw[Array.getElem?_modify,Array.getElem?_setIfInBounds]
 have hb:=ba h
 by_cases hj:b=j
 ·subst hj
  simp only[if_true,h,Option.map_some,hb,and_self]
  rfl
 ·simp[hj]
theorem Hn {α:Type}{cs:List α}{off:Nat}{v:α}{vs:List α}(h:off+(vs.length+1)≤cs.length) :
  ai (cs.set off v) (off+1) vs=ai cs off (v::vs):=by
 unfold ai
 have h1:(cs.set off v).take (off+1)=cs.take off++[v]:=by
  rw[List.take_set,List.take_succ_eq_append_getElem (by omega)]
  rw[List.set_append_right _ _ (by simp;omega)]
  simp[show min off cs.length=off by omega]
 have h2:(cs.set off v).drop (off+1+vs.length)=cs.drop (off+(vs.length+1)):=by
  rw[List.drop_set_of_lt (by omega)]
  congr 1;omega
 rw[h1,h2]
 simp
theorem kg {P:Program}{b:Nat}{el:TypeId}:∀ (vs:List Value) (w:World) (c:Array Value) (off i:Nat),
  w.heap[b]?=some (.cells c el (0,0))→(∀ v∈vs,v.oneCell'=true)→off+i+vs.length≤c.size→
  ∃ c':Array Value,(storeCells ⟨b,off,none⟩ vs i).run P w=.ok () (setBlk w b (.cells c' el (0,0)))∧c'.toList=ai c.toList (off+i) vs∧c'.size=c.size
 | [],w,c,off,i,h,_,_=>by
  refine⟨c,?_,by simp[ai],rfl⟩
  have:setBlk w b (.cells c el (0,0))=w:=by
   unfold setBlk
   have hb:=ba h
   have:w.heap.setIfInBounds b (.cells c el (0,0))=w.heap:=by
    apply Array.ext_getElem?
    intro j
    rw[Array.getElem?_setIfInBounds]
    split
    ·rename_i hj;subst hj;simp[hb]at h⊢;simp[h]
    ·rfl
   rw[this]
  rw[this];rfl
 | v::vs,w,c,off,i,h,hv,hsz=>by
  have hoff:off+i<c.size:=by simp at hsz;omega
  have hcell:w.cell? ⟨b,off+i,none⟩=some c[off+i]:=by rw[dn h];simp[hoff]
  have hfz:w.frozen? ⟨b,off+i,none⟩=false:=by simp[World.frozen?,h]
  have hst:(store (⟨b,off+i,none⟩:Addr) v .plain).run P w=.ok () (setBlk w b (.cells (c.setIfInBounds (off+i) v) el (0,0))):=by
   rw[run_store P w _ v _ (hv v (.head _)),hcell]
   simp[hfz,afT h]
  have hb:b<w.heap.size:=ba h
  obtain⟨c',h1,h2,h3⟩:=kg (P:=P) vs (setBlk w b (.cells (c.setIfInBounds (off+i) v) el (0,0))) (c.setIfInBounds (off+i) v) off (i+1) (cg hb)
   (fun u hu=>hv u (.tail _ hu)) (by simp at hsz⊢;omega)
  refine⟨c',?_,?_,by simpa using h3⟩
  ·unfold storeCells
   rw[eW,Sem.run_bind,hst]
   simp only[Result.andThen_ok]
   rw[h1,abO]
  ·rw[h2,Array.toList_setIfInBounds,←Nat.add_assoc,Hn (by simp at hsz⊢;omega)]
section
variable {P:Program}{g:Gh}{w:World}{t:Array Value}{O:Nat→Nat}{st st':St}{a:AV}{o:Oper}
theorem oV {b:Nat}{o o':Go.Obj}(hb:w.heap[b]?=some o) (ho:∀ off,dh o off=false) (ho':∀ off,dh o' off=false) (a:Addr):(Vm.setBlk w b o').frozen? a=w.frozen? a:=by
 by_cases e:a.block=b
 ·have h1:=ho a.off
  have h2:=ho' a.off
  have e1:(Vm.setBlk w b o').heap[a.block]?=some o':=by rw[e];exact cg (ba hb)
  have e2:w.heap[a.block]?=some o:=by rw[e];exact hb
  simp only[World.frozen?,e1,e2]
  cases o<;>cases o'<;>first | rfl | exact h2.trans h1.symm | exact h2 | exact h1.symm
 ·simp only[World.frozen?,dE e]
theorem aE.setBlk {b:Nat}{c:Array Value}{el:TypeId}{o':Go.Obj}(hb:w.heap[b]?=some (.cells c el (0,0))) (hp:∀ o,¬ g.pm b o) (hc:∀ off,dh o' off=false:=by intro off;simp[dh]):aE g w g (Vm.setBlk w b o') fun x=>x=b where
 obj _ _ h:=⟨h,rfl,rfl,rfl⟩
 pm b' o h:=⟨h,by
  have:b'≠b:=by rintro rfl;exact hp o h
  exact fU (dE this) o⟩
 blk b' _ h:=⟨dE h,fun _ h=>h⟩
 size:=by simp
 lp b' rc h:=⟨rc,by rw[dE (by rintro rfl;rw[hb]at h;simp at h)];exact h⟩
 same:=⟨rfl,rfl,oV hb (by intro off;simp[dh]) hc⟩
theorem S.store {st:St}(s:S P g w st t O) {id:Nat}{ob:Obj}(hg:get st.hs.heap id=some ob) :
  ∃ O1 Oz:Nat→Nat,bf P g w id ob O1∧(∀ b,O1 b+Oz b≤O b)∧∀ (w':World) (b:Nat) (c:Array Value) (el:TypeId) (ob':Obj) (O1':Nat→Nat),
   w.heap[b]?=some (.cells c el (0,0))→1≤O1 b→aE g w g w' (fun x=>x=b)→bf P g w' id ob' O1'→(∀ x,O1' x+Oz x≤1)→(∀ x,O1' x≠0→x<w'.heap.size)→
   S P g w' ⟨st.env,⟨put st.hs.heap id ob',st.hs.next⟩⟩ t (fun x=>O1' x+Oz x):=by
 obtain⟨Oe,Oh,re,rh,ho⟩:=s.parts
 obtain⟨O1,O2,q,r2,hs⟩:=RL.take rh hg
 refine⟨O1,fun b=>Oe b+O2 b,q,fun b=>by have:=hs b;have:=ho b;show O1 b+(Oe b+O2 b)≤O b;omega,fun w' b c el ob' O1' hblk h1 hx q' hle hhi=>?_⟩
 have hone:O b≤1:=s.le b
 have hfree:Oe b=0∧O2 b=0:=by have:=hs b;have:=ho b;omega
 have re':=fj.ext hx re (fun y hy e=>by rw[e]at hy;exact hy hfree.1)
 have r2':rP P g w' (del st.hs.heap id) O2:=r2.imp' fun k v Q _ hQ q=>q.ext hx (fun y hy e=>by rw[e]at hy;have:=hQ b;exact hy (by omega)) (fun y ds hd e=>by
  rw[e,hblk]at hd;simp at hd)
 obtain⟨O3,r3,h3⟩:=RL.put s.sh r2' q'
 refine⟨s.se,s.sh.put _ _,⟨Oe,O3,re',r3,fun x=>by have:=h3 x;show O1' x+(Oe x+O2 x)=Oe x+O3 x;omega⟩,hle,fun x hx0=>?_,s.fresh,
  fun b o hp=>Nat.lt_of_lt_of_le (s.pmlt b o hp) hx.size⟩
 by_cases h:O1' x=0
 ·refine Nat.lt_of_lt_of_le (s.hi x ?_) hx.size
  have:=hs x;have:=ho x
  change O1' x+(Oe x+O2 x)≠0 at hx0
  omega
 ·exact hhi x h
theorem pb {α:Type}{cs vs:List α}{off:Nat}:ai cs off vs=cs.take off++(vs++cs.drop (off+vs.length)):=by
 unfold ai;rw[List.append_assoc]
theorem af5 {ty:TypeId}{n:Nat}(ht:mH P ty n=true) {st:St}(s:S P g w st t O) {id off:Nat}{b:Nat}(hob:g.obj id=some b)
  {v:AV}{x:Value}{Ov:Nat→Nat}(rv:RV g w v x Ov) (hO:∀ c,Ov c+O c≤1) (hOv:∀ c,Ov c≠0→c<w.heap.size) {h':ac}
  (h:storeAt st.hs.heap n (.ptr id off) v=some h') :
  ∃ w' O2,(storeVar ty ⟨b,g.base id+off,none⟩ x).run P w=.ok () w'∧S P g w' ⟨st.env,⟨h',st.hs.next⟩⟩ t O2∧aE g w g w' (fun c=>O c≠0)∧(∀ c,O2 c≤Ov c+O c)∧
   w'.heap.size=w.heap.size:=by
 unfold storeAt at h
 split at h
 ·simp at h
 ·rename_i hn
  rw[Nat.beq_eq]at hn
  simp only at h
  split at h
  ·rename_i cs hg
   split at h
   ·rename_i hb
    simp only[Bool.and_eq_true,Nat.ble_eq]at hb
    simp only[Option.some.injEq]at h;subst h
    obtain⟨O1,Oz,q,hsum,hst⟩:=s.store hg
    simp only[bf]at q
    obtain⟨b',c,el,Oc,h1,h2,h3,h4,h5,h6,h7,h8⟩:=q
    rw[hob]at h1
    simp only[Option.some.injEq]at h1
    subst h1
    rw[h2,Nat.zero_add]
    have hsz:c.size=cs.length:=by rw[←h6.length];simp
    have rvs:=rv.cells hb.2
    have hlenx:x.cells.toList.length=n:=by rw[rvs.length];exact hn
    obtain⟨c',hrun,hc',hcs⟩:=kg (P:=P) (b:=b) (el:=el) x.cells.toList w c off 0 h5 (rvs.one hb.2) (by rw[hlenx];omega)
    have hrun':(storeVar ty ⟨b,off,none⟩ x).run P w=.ok () (setBlk w b (.cells c' el (0,0))):=by
     have hxs:x.cells.size=n:=by rw[←hlenx];simp
     simp only[storeVar,Sem.run_bind,b6 ht,Result.andThen_ok,hxs,ne_eq,not_true,if_false,Sem.run_ite]
     exact hrun
    have hOb:1≤O1 b:=by rw[h8 b];simp
    have hx:aE g w g (setBlk w b (.cells c' el (0,0))) fun x=>x=b:=aE.setBlk h5 h7
    have hbO:O b=1:=by have:=hsum b;have:=s.le b;omega
    have hOvb:Ov b=0:=by have:=hO b;omega
    have hOcb:Oc b=0:=by
     have e:=h8 b
     rw[na]at e
     have:=hsum b;have:=s.le b
     omega
    have r6:=RVs.ext hx _ _ _ h6 (fun y hy e=>by rw[e]at hy;exact hy hOcb)
    have rvs':=RVs.ext hx _ _ _ rvs (fun y hy e=>by rw[e]at hy;exact hy hOvb)
    rw[ae6 hb.1]at r6
    obtain⟨B1,B2,rb1,rb2,hb12⟩:=r6.split
    obtain⟨B3,B4,rb3,rb4,hb34⟩:=rb2.split
    have htl:(cs.take off).length=off:=by simp;omega
    have hsl:(Vm.sub cs off n).length=n:=eX hb.1
    rw[htl]at rb1 rb4
    rw[hsl]at rb4
    have hjoin:=rb1.join (rvs'.join rb4)
    rw[←hn]at hjoin
    rw[←pb]at hjoin
    have e2:c.toList.take off++(x.cells.toList++(c.toList.drop off).drop v.cells.length)=c'.toList:=by
     rw[hc',Nat.add_zero,pb,List.drop_drop,hlenx,hn]
    rw[e2]at hjoin
    have hlen':(ai cs off v.cells).length=cs.length:=by rw[←hjoin.length];simp[hcs,hsz]
    refine⟨_,_,hrun',hst (setBlk w b (.cells c' el (0,0))) b c el (.cells (ai cs off v.cells)) (fun y=>(B1 y+(Ov y+B4 y))+one b y) h5 hOb hx ?_ (fun y=>?_) (fun y hy=>?_),
     hx.mono (fun y _ e=>by rw[e];omega),fun y=>?_,by simp⟩
    ·simp only[bf]
     exact⟨b,c',el,_,hob,h2,h3,by rw[hlen'];exact h4,cg (ba h5),hjoin,h7,fun _=>rfl⟩
    ·have:=h8 y;have:=hb12 y;have:=hb34 y;have:=hsum y;have:=hO y
     show (B1 y+(Ov y+B4 y))+one b y+Oz y≤1
     omega
    ·have:=h8 y;have:=hb12 y;have:=hb34 y;have:=hsum y
     simp only[Du]
     by_cases hv0:Ov y=0
     ·refine s.hi y ?_
      change (B1 y+(Ov y+B4 y))+one b y≠0 at hy
      omega
     ·exact hOv y hv0
    ·have:=h8 y;have:=hb12 y;have:=hb34 y;have:=hsum y
     show (B1 y+(Ov y+B4 y))+one b y+Oz y≤Ov y+O y
     omega
   ·simp at h
  ·simp at h
end
end Go.Vm
namespace Go.Vm
theorem dF {α:Type}{cs vs:List α}{off:Nat}(h:off+vs.length≤cs.length) (j:Nat) :
  (ai cs off vs)[j]?=if off≤j∧j<off+vs.length then vs[j-off]? else cs[j]?:=by
 unfold ai
 rw[List.append_assoc]
 have h1:(cs.take off).length=off:=by simp;omega
 by_cases ha:j<off
 ·rw[List.getElem?_append_left (by omega),List.getElem?_take,if_pos ha,if_neg (by omega)]
 ·rw[List.getElem?_append_right (by omega),h1]
  by_cases hb:j<off+vs.length
  ·rw[List.getElem?_append_left (by omega),if_pos (by omega)]
  ·rw[List.getElem?_append_right (by omega),List.getElem?_drop,if_neg (by omega)]
   congr 1;omega
theorem aga {xs:List (List D)}{m:Nat}(h:∀ e∈xs,e.length=m) {i off:Nat}{e ds:List D}(hi:xs[i]?=some e) (ho:off+ds.length≤m) :
  (xs.set i (ai e off ds)).flatten=ai xs.flatten (i*m+off) ds:=by
 apply List.ext_getElem?
 intro j
 have he:e.length=m:=h e (List.mem_of_getElem? hi)
 have hlt:=eI hi
 have hl2:∀ e'∈xs.set i (ai e off ds),e'.length=m:=by
  intro e' he'
  rcases List.mem_or_eq_of_mem_set he' with h' | h'
  ·exact h e' h'
  ·rw[h'];unfold ai;simp;omega
 have hmm:(i+1)*m≤xs.length*m:=Nat.mul_le_mul_right _ hlt
 rw[Nat.succ_mul]at hmm
 rw[dF (by rw[cP h];omega)]
 by_cases hm:m=0
 ·subst hm
  have e1:(xs.set i (ai e off ds)).flatten.length=0:=by rw[cP hl2];simp
  have e2:xs.flatten.length=0:=by rw[cP h];simp
  have e3:ds.length=0:=by omega
  rw[List.eq_nil_of_length_eq_zero e1,List.eq_nil_of_length_eq_zero e2,List.eq_nil_of_length_eq_zero e3]
  simp
 have hpos:0<m:=Nat.pos_of_ne_zero hm
 have hdec:j=(j / m)*m+j % m:=by rw[Nat.mul_comm];exact(Nat.div_add_mod j m).symm
 have hr:j % m<m:=Nat.mod_lt _ hpos
 have cell:∀ (ys:List (List D)),(∀ e∈ys,e.length=m)→ys.flatten[j]?=(ys[j / m]?).bind (·[j % m]?):=by
  intro ys hy
  cases hq:ys[j / m]? with
  | none =>
   have:ys.length≤j / m:=by
    rcases Nat.lt_or_ge (j / m) ys.length with h' | h'
    ·rw[List.getElem?_eq_getElem h']at hq;simp at hq
    ·exact h'
   have:ys.flatten.length≤j:=by
    rw[cP hy]
    exact Nat.le_trans (Nat.mul_le_mul_right m this) (by rw[Nat.mul_comm];exact Nat.mul_div_le j m)
   rw[List.getElem?_eq_none this];rfl
  | some e' =>
   have hl:=hy e' (List.mem_of_getElem? hq)
   have hc:e'[j % m]?=some e'[j % m]:=by simp[hl,hr]
   have:=JQ hy hq hc
   rw[←hdec]at this
   rw[this];simp[hl,hr]
 rw[cell _ hl2,cell _ h]
 by_cases hk:j / m=i
 ·rw[hk,List.getElem?_set_self (by simpa using hlt),hi]
  simp only[Option.bind_some]
  rw[dF (by omega)]
  have hji:j=i*m+j % m:=by rw[←hk];exact hdec
  by_cases hin:off≤j % m∧j % m<off+ds.length
  ·rw[if_pos hin,if_pos (by omega)]
   congr 1;omega
  ·rw[if_neg hin,if_neg (by omega)]
 ·rw[List.getElem?_set_ne (by omega)]
  have:¬ (i*m+off≤j∧j<i*m+off+ds.length):=by
   rintro ⟨h1,h2⟩
   apply hk
   have:j<(i+1)*m:=by rw[Nat.succ_mul];omega
   exact Nat.div_eq_of_lt_le (by omega) this
  rw[if_neg this]
section
variable {P:Program}{g:Gh}{w:World}{t:Array Value}{O:Nat→Nat}{st st':St}{a:AV}{o:Oper}
theorem ao9 {v:AV}{d:D}{x:Value}{Ov:Nat→Nat}(h:wl v=some d) (r:RV g w v x Ov):RD w g.pm d x:=by
 cases v with
 | d c=>simp only[wl,Option.some.injEq]at h;subst h;simp only[RV]at r;exact r.1
 | nl=>simp only[wl,Option.some.injEq]at h;subst h;simp only[RV]at r;rw[r.1];exact .nil _ _
 | own p m xs =>
  cases p<;>simp only[wl,Option.some.injEq,reduceCtorEq]at h
  subst h
  have:=RV.share _ _ _ r
  simp only[share,RV]at this
  exact this.1
 | _=>simp[wl]at h
theorem RD.one {pm:Nat→Nat→Prop}{d:D}{x:Value}(r:RD w pm d x):x.oneCell'=true:=by cases r<;>rfl
theorem Fg {vs:List AV}{ds:List D}{xs:List Value}{Ov:Nat→Nat}(h:hU vs=some ds) (r:RVs g w vs xs Ov) :
  xs.length=ds.length∧(∀ (j:Nat) (d:D),ds[j]?=some d→∃ x,xs[j]?=some x∧RD w g.pm d x)∧∀ x∈xs,x.oneCell'=true:=by
 induction vs generalizing ds xs Ov with
 | nil =>
  simp only[hU,Option.some.injEq]at h;subst h
  simp only[RVs]at r;rw[r.1];simp
 | cons v vs ih =>
  simp only[hU]at h
  split at h
  ·rename_i c hc
   split at h
   ·rename_i cs hcs
    simp only[Option.some.injEq]at h;subst h
    simp only[RVs]at r
    obtain⟨x,s,O1,O2,rfl,r1,r2,_⟩:=r
    obtain⟨h1,h2,h3⟩:=ih hcs r2
    have hd:=ao9 hc r1
    refine⟨by simp[h1],fun j d hj=>?_,fun y hy=>?_⟩
    ·cases j with
     | zero=>simp at hj;subst hj;exact⟨x,rfl,hd⟩
     | succ j=>simp at hj;obtain⟨y,hy,hr⟩:=h2 j d hj;exact⟨y,by simpa using hy,hr⟩
    ·rcases List.mem_cons.1 hy with rfl | hy
     ·exact hd.one
     ·exact h3 y hy
   ·simp at h
  ·simp at h
end
end Go.Vm
namespace Go.Vm
theorem abV {v:AV}{d:D}(h:wl v=some d):au v=true:=by
 cases v with
 | own p m xs=>cases p<;>simp[wl]at h;rfl
 | d c=>rfl
 | nl=>rfl
 | _=>simp[wl]at h
theorem EA {vs:List AV}{ds:List D}(h:hU vs=some ds):vs.all au=true:=by
 induction vs generalizing ds with
 | nil=>rfl
 | cons v vs ih =>
  simp only[hU]at h
  split at h
  ·rename_i c hc
   split at h
   ·rename_i cs hcs
    simp only[List.all_cons,Bool.and_eq_true]
    exact⟨abV hc,ih hcs⟩
   ·simp at h
  ·simp at h
theorem CW {vs:List AV}{ds:List D}(h:hU vs=some ds):ds.length=vs.length:=by
 induction vs generalizing ds with
 | nil=>simp only[hU,Option.some.injEq]at h;subst h;rfl
 | cons v vs ih =>
  simp only[hU]at h
  split at h
  ·split at h
   ·rename_i cs hcs
    simp only[Option.some.injEq]at h;subst h
    simp[ih hcs]
   ·simp at h
  ·simp at h
section
variable {P:Program}{g:Gh}{w:World}{t:Array Value}{O:Nat→Nat}{st st':St}{a:AV}{o:Oper}
theorem aiy {ty:TypeId}{n:Nat}(ht:mH P ty n=true) {st:St}(s:S P g w st t O) {id i off:Nat}{b:Nat}(hob:g.obj id=some b)
  {v:AV}{x:Value}{Ov:Nat→Nat}(rv:RV g w v x Ov) {h':ac}
  (h:storeAt st.hs.heap n (.pel id i off) v=some h') :
  ∃ w' O2,(storeVar ty ⟨b,g.base id+(i*g.esz id+off),none⟩ x).run P w=.ok () w'∧S P g w' ⟨st.env,⟨h',st.hs.next⟩⟩ t O2∧aE g w g w' (fun c=>O c≠0)∧(∀ c,O2 c≤O c)∧
   w'.heap.size=w.heap.size:=by
 unfold storeAt at h
 split at h
 ·simp at h
 ·rename_i hn
  rw[Nat.beq_eq]at hn
  simp only at h
  split at h
  ·simp at h
  ·rename_i ds hds
   split at h
   ·rename_i m xs hg
    split at h
    ·rename_i e he
     split at h
     ·rename_i hb
      rw[Nat.ble_eq]at hb
      simp only[Option.some.injEq]at h;subst h
      obtain⟨O1,Oz,q,hsum,hst⟩:=s.store hg
      simp only[bf]at q
      rcases q with ⟨rfl,_⟩ | ⟨b',c,el,g1,g2,g3,g4,g5,g6,g7,g8,g9,g10⟩
      ·simp at he
      ·rw[hob]at g1
       simp only[Option.some.injEq]at g1
       subst g1
       have hlt:=eI he
       have hem:e.length=m:=g7 e (List.mem_of_getElem? he)
       have hmm:(i+1)*m≤xs.length*m:=Nat.mul_le_mul_right _ hlt
       rw[Nat.succ_mul]at hmm
       have rvs:=rv.cells (EA hds)
       obtain⟨k1,k2,k3⟩:=Fg hds rvs
       have hdl:ds.length=n:=by rw[CW hds];exact hn
       have hlenx:x.cells.toList.length=n:=by rw[k1,hdl]
       obtain⟨c',hrun,hc',hcs⟩:=kg (P:=P) (b:=b) (el:=el) x.cells.toList w c (g.base id+(i*g.esz id+off)) 0 g4 k3 (by rw[g2];simp only[Array.length_toList]at hlenx⊢;omega)
       have hrun':(storeVar ty ⟨b,g.base id+(i*g.esz id+off),none⟩ x).run P w=.ok () (setBlk w b (.cells c' el (0,0))):=by
        have hxs:x.cells.size=n:=by rw[←hlenx];simp
        simp only[storeVar,Sem.run_bind,b6 ht,Result.andThen_ok,hxs,ne_eq,not_true,if_false,Sem.run_ite]
        exact hrun
       have hx:aE g w g (setBlk w b (.cells c' el (0,0))) fun x=>x=b:=aE.setBlk g4 g9
       have hOb:1≤O1 b:=by rw[g10 b];simp
       have hl2:∀ e'∈xs.set i (ai e off ds),e'.length=m:=by
        intro e' he'
        rcases List.mem_or_eq_of_mem_set he' with h' | h'
        ·exact g7 e' h'
        ·rw[h'];unfold ai;simp;omega
       refine⟨_,_,hrun',hst (setBlk w b (.cells c' el (0,0))) b c el (.arr m (xs.set i (ai e off ds))) (one b) g4 hOb hx ?_ (fun y=>?_) (fun y hy=>?_),
        hx.mono (fun y _ e=>by rw[e];have:=hsum b;omega),fun y=>?_,by simp⟩
       ·simp only[bf]
        refine .inr ⟨b,c',el,hob,g2,g3,cg (ba g4),by rw[hcs];exact g5,by simpa using g6,hl2,?_,g9,fun _=>rfl⟩
        rw[aga g7 he (by omega)]
        have hfl:=cP g7
        intro j d hj
        rw[dF (by rw[hfl];omega)]at hj
        have hcell:(setBlk w b (.cells c' el (0,0))).cell? ⟨b,g.base id+j,none⟩=c'.toList[g.base id+j]?:=by
         rw[dn (cg (ba g4)),Array.getElem?_toList]
        rw[hcell,hc',dF (by simp only[Array.length_toList]at hlenx⊢;rw[hlenx,g2];omega),hlenx,g2]
        split at hj
        ·rename_i hin
         rw[if_pos (by omega)]
         obtain⟨u,hu,hr⟩:=k2 _ _ hj
         refine⟨u,?_,hr.ext hx⟩
         rw[←hu];congr 1;omega
        ·rename_i hin
         rw[if_neg (by omega)]
         obtain⟨u,hu,hr⟩:=g8 j d hj
         refine⟨u,?_,hr.ext hx⟩
         rw[dn g4]at hu
         simpa using hu
       ·have:=hsum y;have:=s.le y;have:=g10 y
        show one b y+Oz y≤1
        omega
       ·rw[mz hy];simpa using ba g4
       ·have:=hsum y;have:=g10 y
        show one b y+Oz y≤O y
        omega
     ·simp at h
    ·simp at h
   ·simp at h
theorem arC {n:Nat}{p x:Rd}(s:S P g w st t O) (h:ahN n p x st=some (a,st')) (hc:aw P (.st n p x) o.op=true) :
  cN P g w t O st' a ((execOp (ev t) o).run P w):=by
 obtain⟨dst,op,ty,pos,aft,gd⟩:=o
 simp only[aw]at hc
 split at hc
 ·rename_i ty' p' x'
  simp only[Bool.and_eq_true]at hc
  obtain⟨⟨h1,h2⟩,h3⟩:=hc
  obtain⟨pv,xv,e,Op,Ox,O',rp,rx,s2,l2,k⟩:=Km s h2 h3 h
  split at k
  ·rename_i h' hst
   simp only[Option.some.injEq,Prod.mk.injEq]at k
   obtain⟨rfl,rfl⟩:=k
   have fin:∀ {ad:Addr}{w':World},ev t p'=.pointer (some ad)→(storeVar ty' ad (ev t x')).run P w=.ok () w'→
     (execOp (ev t) ⟨dst,.store ty' p' x',ty,pos,aft,gd⟩).run P w=.ok .skip w':=by
    intro ad w' he hr
    simp only[execOp,he]
    rw[Sem.run_bind]
    simp only[Instr.storeAt,Instr.sureAddr,pure_bind,hr,Result.andThen_ok,Sem.run_pure]
   cases pv with
   | ptr id off =>
    simp only[RV]at rp
    obtain⟨⟨b,hob,he⟩,_⟩:=rp
    obtain⟨w',O2,hrun,s3,hx,ho,hsz⟩:=af5 h1 s2 hob rx (fun c=>by have:=l2 c;have:=s.le c;omega) (fun c hc=>s.hi c (by have:=l2 c;omega)) hst
    refine⟨undef,w',g,zero,O2,.inr ⟨fin he hrun,rfl⟩,?_,s3,hx.mono fun c _ h=>by have:=l2 c;omega,fun c=>by have:=s3.le c;simpa using this,fun c _=>?_,by simp⟩
    ·simp only[RV];exact fun _=>trivial
    ·have:=ho c;have:=l2 c;simp;omega
   | pel id i off =>
    simp only[RV]at rp
    obtain⟨⟨b,hob,he⟩,_⟩:=rp
    obtain⟨w',O2,hrun,s3,hx,ho,hsz⟩:=aiy h1 s2 hob rx hst
    refine⟨undef,w',g,zero,O2,.inr ⟨fin he hrun,rfl⟩,?_,s3,hx.mono fun c _ h=>by have:=l2 c;omega,fun c=>by have:=s3.le c;simpa using this,fun c _=>?_,by simp⟩
    ·simp only[RV];exact fun _=>trivial
    ·have:=ho c;have:=l2 c;simp;omega
   | _=>simp only[storeAt]at hst;split at hst<;>simp at hst
  ·simp at k
 ·simp at hc
end
end Go.Vm
namespace Go.Vm
section
variable {P:Program}{g:Gh}{w:World}{t:Array Value}{O:Nat→Nat}{st st':St}{a:AV}
def Op0 (P:Program) (g:Gh) (w:World) (t:Array Value) (O:Nat→Nat) (st':St):Prop :=
 ∃ g' O',S P g' w st' t O'∧aE g w g' w (fun b=>O b≠0)∧∀ b,O' b≤O b
theorem Op0.same {O':Nat→Nat}(s:S P g w st' t O') (h:∀ b,O' b≤O b):Op0 P g w t O st':=⟨g,O',s,.refl _ _ _,h⟩
theorem S.delEnv {st:St}(s:S P g w st t O) (i:Nat):∃ O',S P g w ⟨del st.env i,st.hs⟩ t O'∧∀ b,O' b≤O b:=by
 obtain⟨Oe,Oh,re,rh,ho⟩:=s.parts
 obtain⟨O1,r1,h1⟩:=RL.drop re i
 have hle:∀ b,O1 b+Oh b≤O b:=fun b=>by have:=h1 b;have:=ho b;omega
 exact⟨fun b=>O1 b+Oh b,s.of_env r1 rh (s.se.del i) (fun _=>rfl) hle,hle⟩
theorem S.delHeap {st:St}(s:S P g w st t O) (i:Nat):∃ O',S P g w ⟨st.env,⟨del st.hs.heap i,st.hs.next⟩⟩ t O'∧∀ b,O' b≤O b:=by
 obtain⟨Oe,Oh,re,rh,ho⟩:=s.parts
 obtain⟨O1,r1,h1⟩:=RL.drop rh i
 have hle:∀ b,Oe b+O1 b≤O b:=fun b=>by have:=h1 b;have:=ho b;omega
 exact⟨fun b=>Oe b+O1 b,⟨s.se,s.sh.del i,⟨Oe,O1,re,r1,fun _=>rfl⟩,fun b=>Nat.le_trans (hle b) (s.le b),
  fun b hb=>s.hi b (by have:=hle b;omega),s.fresh,s.pmlt⟩,hle⟩
theorem anJ {is:List Nat}(s:S P g w st t O) (h:aeb is st=some (a,st')):Op0 P g w t O st':=by
 simp only[aeb,Option.some.injEq,Prod.mk.injEq]at h
 obtain⟨_,rfl⟩:=h
 have:∃ O',S P g w ⟨is.foldl del st.env,st.hs⟩ t O'∧∀ b,O' b≤O b:=by
  induction is generalizing st O with
  | nil=>exact⟨O,s,fun _=>Nat.le_refl _⟩
  | cons i is ih =>
   obtain⟨O1,s1,h1⟩:=s.delEnv i
   obtain⟨O2,s2,h2⟩:=ih (st:=⟨del st.env i,st.hs⟩) s1
   exact⟨O2,s2,fun b=>Nat.le_trans (h2 b) (h1 b)⟩
 obtain⟨O',s',h'⟩:=this
 exact .same s' h'
theorem S.delAll:∀ {l:List Nat}{st:St}{O:Nat→Nat},S P g w st t O→∃ O',S P g w ⟨st.env,⟨delAll st.hs.heap l,st.hs.next⟩⟩ t O'∧∀ b,O' b≤O b
 | [],_,O,s=>⟨O,s,fun b=>Nat.le_refl _⟩
 | i::r,st,O,s=>by
  obtain⟨O1,s1,h1⟩:=s.delHeap i
  obtain⟨O2,s2,h2⟩:=S.delAll (l:=r) s1
  exact⟨O2,s2,fun b=>Nat.le_trans (h2 b) (h1 b)⟩
theorem aoK {i:Nat}(s:S P g w st t O) (h:R4 i st=some (a,st')):Op0 P g w t O st':=by
 unfold R4 at h
 split at h
 ·rename_i id _ _
  simp only[Option.some.injEq,Prod.mk.injEq]at h
  obtain⟨_,rfl⟩:=h
  obtain⟨O1,s1,h1⟩:=s.delEnv i
  obtain⟨O2,s2,h2⟩:=s1.delHeap id
  exact .same s2 fun b=>Nat.le_trans (h2 b) (h1 b)
 ·rename_i caps _
  simp only[Option.some.injEq,Prod.mk.injEq]at h
  obtain⟨_,rfl⟩:=h
  obtain⟨O1,s1,h1⟩:=s.delEnv i
  obtain⟨O2,s2,h2⟩:=S.delAll (l:=AM caps) s1
  exact .same s2 fun b=>Nat.le_trans (h2 b) (h1 b)
 ·simp only[Option.some.injEq,Prod.mk.injEq]at h
  obtain⟨_,rfl⟩:=h
  exact .same s fun b=>Nat.le_refl _
theorem asj {i m:Nat}(s:S P g w st t O) (h:ama i m st=some (a,st')):Op0 P g w t O st':=by
 unfold ama at h
 split at h
 ·rename_i hg
  simp only[Option.some.injEq,Prod.mk.injEq]at h
  obtain⟨_,rfl⟩:=h
  obtain⟨Oe,Oh,re,rh,ho⟩:=s.parts
  obtain⟨O1,O2,⟨hlt,q⟩,r2,hs⟩:=RL.take re hg
  simp only[RV]at q
  obtain⟨O3,r3,h3⟩:=RL.put s.se r2 (x:=.own false m []) (O1:=zero) ⟨hlt,by simp only[RV,mY];exact .inl ⟨trivial,fun _=>trivial,none,q.1⟩⟩
  have hle:∀ b,O3 b+Oh b≤O b:=fun b=>by have:=h3 b;have:=hs b;have:=ho b;show O3 b+Oh b≤O b;have:zero b=0:=rfl;omega
  exact .same (s.of_env r3 rh (s.se.put _ _) (fun _=>rfl) hle) hle
 ·simp only[Option.some.injEq,Prod.mk.injEq]at h
  obtain⟨_,rfl⟩:=h
  exact .same s fun b=>Nat.le_refl _
end
end Go.Vm
namespace Go.Vm
def Gh.keep (g:Gh) (b:Nat) (K:Nat→Prop):Gh:={ g with pm:=fun b' o=>g.pm b' o∨(b'=b∧K o) }
section
variable {P:Program}{g:Gh}{w:World}{t:Array Value}{O:Nat→Nat}{st st':St}{a:AV}
theorem aE.keep (g:Gh) (w:World) (b:Nat) (K:Nat→Prop):aE g w (g.keep b K) w fun x=>x=b where
 obj _ _ h:=⟨h,rfl,rfl,rfl⟩
 pm _ _ h:=⟨.inl h,rfl⟩
 blk _ _ h:=⟨rfl,fun _ h'=>h'.elim id fun e=>absurd e.1 h⟩
 size:=Nat.le_refl _
 lp _ rc h:=⟨rc,h⟩
 same:=⟨rfl,rfl,fun _=>rfl⟩
theorem S.keep {st:St}(s:S P g w st t O) {b:Nat}(hO:O b=0) {c:Array Value}{el:TypeId}(hb:w.heap[b]?=some (.cells c el (0,0))) (K:Nat→Prop) :
  S P (g.keep b K) w st t O:=by
 obtain⟨Oe,Oh,re,rh,ho⟩:=s.parts
 have hx:=aE.keep g w b K
 have re':=fj.ext hx re (fun y hy e=>by rw[e]at hy;have:=ho b;omega)
 have rh':rP P (g.keep b K) w st.hs.heap Oh:=rh.imp' fun k v Q _ hQ q=>q.ext hx (fun y hy e=>by rw[e]at hy;have:=hQ b;have:=ho b;omega) (fun y ds hd e=>by
  rw[e,hb]at hd;simp at hd)
 exact⟨s.se,s.sh,⟨Oe,Oh,re',rh',ho⟩,s.le,s.hi,s.fresh,fun b' o h=>h.elim (s.pmlt b' o) fun e=>by rw[e.1];exact ba hb⟩
def am4 (P:Program) (g:Gh) (w:World) (t:Array Value) (O:Nat→Nat) (st:St) (x:Value) (Ov:Nat→Nat) (r:AV×ac):Prop :=
 ∃ g' Ov' O',RV g' w r.1 x Ov'∧S P g' w ⟨st.env,⟨r.2,st.hs.next⟩⟩ t O'∧aE g w g' w (fun b=>Ov b=0∧O b≠0)∧∀ b,Ov' b+O' b≤Ov b+O b
theorem agj {st:St}(s:S P g w st t O) {v:AV}{x:Value}{Ov:Nat→Nat}(rv:RV g w v x Ov) :
  am4 P g w t O st x Ov (D7 st.hs.heap v):=by
 have triv:am4 P g w t O st x Ov (v,st.hs.heap):=⟨g,Ov,O,rv,s,.refl _ _ _,fun _=>Nat.le_refl _⟩
 cases v with
 | sl id off len =>
  unfold D7
  simp only
  split
  ·rename_i m xs hg
   split
   ·rename_i hb
    clear triv
    rw[Nat.ble_eq]at hb
    simp only[RV]at rv
    obtain⟨rv,hz⟩:=rv
    obtain⟨Oe,Oh,re,rh,ho⟩:=s.parts
    obtain⟨O1,O2,q,r2,hs⟩:=RL.take rh hg
    have hle2:∀ b,Oe b+O2 b≤O b:=fun b=>by have:=hs b;have:=ho b;omega
    have s2:S P g w ⟨st.env,⟨del st.hs.heap id,st.hs.next⟩⟩ t (fun b=>Oe b+O2 b) :=
     ⟨s.se,s.sh.del id,⟨Oe,O2,re,r2,fun _=>rfl⟩,fun b=>Nat.le_trans (hle2 b) (s.le b),fun b hb=>s.hi b (by have:=hle2 b;omega),s.fresh,s.pmlt⟩
    have hsub:(Vm.sub xs off len).length=len:=eX hb
    have emp:len=0→(∃ a,x=.slice a 0 0)→RV g w (.own false m (Vm.sub xs off len)) x zero:=by
     intro h0 h
     simp only[RV,mY]
     exact .inl ⟨List.eq_nil_of_length_eq_zero (by omega),fun _=>trivial,h⟩
    rcases rv with ⟨h0,h⟩ | ⟨b,cap,hob,rfl,hlc,hcap⟩
    ·exact⟨g,zero,_,emp h0 h,s2,.refl _ _ _,fun b=>by have:=hle2 b;simp;omega⟩
    ·simp only[bf]at q
     rcases q with ⟨rfl,g1,g2,g3,_⟩ | ⟨b',c,el,g1,g2,g3,g4,g5,g6,g7,g8,g9,g10⟩
     ·have hl0:len=0:=by simp at hb;omega
      have hc0:cap=0:=by
       rw[g1,g2]at hcap
       have:(off+cap)*m=0:=by omega
       rcases Nat.mul_eq_zero.1 this with h | h<;>omega
      subst hl0 hc0
      exact⟨g,zero,_,emp rfl ⟨_,rfl⟩,s2,.refl _ _ _,fun b=>by have:=hle2 b;simp;omega⟩
     ·rw[hob]at g1
      simp only[Option.some.injEq]at g1
      subst g1
      have h1:O1 b=1:=by rw[g10 b];simp
      have hO2:Oe b+O2 b=0:=by have:=hs b;have:=ho b;have:=s.le b;omega
      have s3:=s2.keep hO2 g4 (fun o=>g.base id+off*m≤o∧o<g.base id+off*m+len*m)
      refine⟨_,one b,_,?_,s3,(aE.keep g w b _).mono fun y _ e=>?_,fun y=>?_⟩
      ·simp only[RV,mY]
       refine .inr ⟨b,g.base id+off*m,cap,c,el,by rw[hsub,g2],by omega,g3,yK g7 off len,g4,?_,?_,fun o ho=>?_,fun _ j hj=>?_,rfl⟩
       ·rw[g2,Nat.add_mul]at hcap;omega
       ·rw[iE g7]
        exact(g8.sub _ _).ext (aE.keep g w b _) (.inl rfl)
       ·rcases ho with h | h
        ·exact absurd h (g9 o)
        ·rw[hsub];exact⟨trivial,by have:=h.2.2;omega⟩
       ·rw[hsub]at hj
        exact .inr ⟨rfl,by omega,by omega⟩
      ·subst e
       have:=hs y;have:=ho y;have:=hz y;omega
      ·have:=hs y;have:=ho y;have:=g10 y;have:=hz y
       show one b y+(Oe y+O2 y)≤Ov y+O y
       omega
   ·exact triv
  ·exact triv
 | _=>exact triv
end
end Go.Vm
namespace Go.Vm
section
variable {P:Program}{g:Gh}{w:World}{t:Array Value}{O:Nat→Nat}{st st':St}{a:AV}
theorem S.pull {st:St}(s:S P g w st t O) {i:Nat}{v:AV}(hg:get st.env i=some v) :
  ∃ Ov O',i<t.size∧RV g w v (t.getD i undef) Ov∧S P g w ⟨del st.env i,st.hs⟩ t O'∧∀ b,Ov b+O' b≤O b:=by
 obtain⟨Oe,Oh,re,rh,ho⟩:=s.parts
 obtain⟨O1,O2,⟨hlt,q⟩,r2,hs⟩:=RL.take re hg
 have hle:∀ b,O1 b+(O2 b+Oh b)≤O b:=fun b=>by have:=hs b;have:=ho b;omega
 exact⟨O1,fun b=>O2 b+Oh b,hlt,q,s.of_env r2 rh (s.se.del i) (fun _=>rfl) (fun b=>by have:=hle b;show O2 b+Oh b≤O b;omega),hle⟩
theorem S.setSlot {e:ak}{hs:HS}{i:Nat}(he:aX e) (s:S P g w ⟨del e i,hs⟩ t O) {v:AV}{Ov:Nat→Nat}(hi:i<t.size) (r:RV g w v (t.getD i undef) Ov)
  (hle:∀ b,Ov b+O b≤1) (hhi:∀ b,Ov b≠0→b<w.heap.size):∃ O',S P g w ⟨put e i v,hs⟩ t O'∧∀ b,O' b≤Ov b+O b:=by
 obtain⟨Oe,Oh,re,rh,ho⟩:=s.parts
 obtain⟨O3,r3,h3⟩:=RL.put he re (x:=v) (O1:=Ov) ⟨hi,r⟩
 have hsum:∀ b,O3 b+Oh b≤Ov b+O b:=fun b=>by have:=h3 b;have:=ho b;omega
 refine⟨fun b=>O3 b+Oh b,⟨he.put _ _,s.sh,⟨O3,Oh,r3,rh,fun _=>rfl⟩,fun b=>Nat.le_trans (hsum b) (hle b),fun b hb=>?_,s.fresh,s.pmlt⟩,hsum⟩
 by_cases h:Ov b=0
 ·exact s.hi b (by have:=hsum b;omega)
 ·exact hhi b h
theorem apJ {i:Nat}(s:S P g w st t O) (h:ahl i st=some (a,st')):Op0 P g w t O st':=by
 unfold ahl at h
 split at h
 ·rename_i v hg
  simp only[Option.some.injEq,Prod.mk.injEq]at h
  obtain⟨_,rfl⟩:=h
  obtain⟨Ov,O1,hi,rv,s1,l1⟩:=s.pull hg
  obtain⟨g',Ov',O2,rv',s2,hx,l2⟩:=agj s1 rv
  have hle:∀ b,Ov' b+O2 b≤O b:=fun b=>Nat.le_trans (l2 b) (l1 b)
  obtain⟨O3,s3,l3⟩:=S.setSlot (e:=st.env) s.se s2 hi rv' (fun b=>Nat.le_trans (hle b) (s.le b)) (fun b hb=>s.hi b (by have:=hle b;omega))
  exact⟨g',O3,s3,hx.mono fun b _ h=>by have:=l1 b;omega,fun b=>Nat.le_trans (l3 b) (hle b)⟩
 ·simp at h
theorem Ah:∀ (offs:List Nat) {g:Gh}{O:Nat→Nat}{e:ak}{h:ac}{n:Nat},S P g w ⟨e,⟨h,n⟩⟩ t O→∀ {cs:List AV}{xs:List Value}{Ov:Nat→Nat},
  RVs g w cs xs Ov→(∀ b,Ov b+O b≤1)→
  ∃ g' Ov' O',RVs g' w (mX offs cs h).1 xs Ov'∧S P g' w ⟨e,⟨(mX offs cs h).2,n⟩⟩ t O'∧aE g w g' w (fun b=>Ov b≠0∨O b≠0)∧∀ b,Ov' b+O' b≤Ov b+O b
 | [],g,O,e,h,n,s,cs,xs,Ov,rv,_=>⟨g,Ov,O,rv,s,.refl _ _ _,fun _=>Nat.le_refl _⟩
 | o::r,g,O,e,h,n,s,cs,xs,Ov,rv,hle=>by
  unfold mX
  split
  ·rename_i v hv
   obtain⟨x,A1,A2,hx,r1,r2,hs⟩:=rv.pull hv
   obtain⟨g1,A1',O1,r1',s1,hx1,l1⟩:=agj s r1
   have r2':=RVs.ext hx1 _ _ _ r2 (fun b hb hh=>by have:=hle b;have:=hs b;omega)
   have hj:(cs.set o .junk)[o]?=some .junk:=by rw[List.getElem?_set_self (eI hv)]
   obtain⟨y,B1,hy,_,_,rep⟩:=r2'.replace hj
   rw[hx]at hy
   simp only[Option.some.injEq]at hy
   subst hy
   obtain⟨B2,r3,h3⟩:=rep _ _ r1'
   rw[List.set_set]at r3
   have hle1:∀ b,B2 b+O1 b≤Ov b+O b:=fun b=>by have:=h3 b;have:=hs b;have:=l1 b;omega
   obtain⟨g2,Ov2,O2,r4,s4,hx2,l4⟩:=Ah r s1 r3 (fun b=>Nat.le_trans (hle1 b) (hle b))
   refine⟨g2,Ov2,O2,r4,s4,(hx1.mono fun b _ hh=>.inr hh.2).trans hx2 fun b _ hh=>?_,fun b=>Nat.le_trans (l4 b) (hle1 b)⟩
   have:=hle1 b
   omega
  ·exact Ah r s rv hle
theorem aoG {i:Nat}{offs:List Nat}(s:S P g w st t O) (h:adT i offs st=some (a,st')):Op0 P g w t O st':=by
 unfold adT at h
 split at h
 ·rename_i cs hg
  simp only[Option.some.injEq,Prod.mk.injEq]at h
  obtain⟨_,rfl⟩:=h
  obtain⟨Ov,O1,hi,rv,s1,l1⟩:=s.pull hg
  simp only[RV]at rv
  obtain⟨xs,hxs,rv⟩:=rv
  obtain⟨g',Ov',O2,rv',s2,hx,l2⟩:=Ah offs s1 rv (fun b=>Nat.le_trans (l1 b) (s.le b))
  have hle:∀ b,Ov' b+O2 b≤O b:=fun b=>Nat.le_trans (l2 b) (l1 b)
  obtain⟨O3,s3,l3⟩:=S.setSlot (e:=st.env) (v:=.agg (mX offs cs st.hs.heap).1) s.se s2 hi (by simp only[RV];exact⟨xs,hxs,rv'⟩) (fun b=>Nat.le_trans (hle b) (s.le b))
   (fun b hb=>s.hi b (by have:=hle b;omega))
  exact⟨g',O3,s3,hx.mono fun b _ h=>by have:=l1 b;omega,fun b=>Nat.le_trans (l3 b) (hle b)⟩
 ·simp at h
end
end Go.Vm
namespace Go.Vm
section
variable {P:Program}{g:Gh}{w:World}{t:Array Value}{O:Nat→Nat}{st st':St}{a:AV}
theorem Ka {g:Gh}(s:S P g w st t O) {v:AV}{x:Value}{Ov:Nat→Nat}(rv:RV g w v x Ov) (hle:∀ b,Ov b+O b≤1) :
  ∃ g',RV g' w (eM v) x Ov∧S P g' w st t O∧aE g w g' w (fun b=>Ov b≠0):=by
 have triv:RV g w (eM v) x Ov→∃ g',RV g' w (eM v) x Ov∧S P g' w st t O∧aE g w g' w (fun b=>Ov b≠0):=fun r=>⟨g,r,s,.refl _ _ _⟩
 cases v with
 | own p m xs =>
  cases p with
  | false=>exact triv rv
  | true =>
   simp only[RV]at rv
   rcases rv with h | ⟨b,off,cap,c,el,rfl,hcap,hm,hl,hb,hsz,hrc,hpm,hp,rfl⟩
   ·exact triv (by simp only[eM,RV];exact .inl h)
   ·have hO:O b=0:=by have:=hle b;rw[na]at this;omega
    refine⟨g.keep b fun o=>off≤o∧o<off+xs.length*m,?_,s.keep hO hb _,(aE.keep g w b _).mono fun y _ e=>by rw[e];simp⟩
    simp only[eM,RV]
    refine .inr ⟨b,off,cap,c,el,rfl,hcap,hm,hl,hb,hsz,hrc.ext (aE.keep g w b _) (.inl rfl),fun o ho=>?_,fun _ j hj=>.inr ⟨rfl,by omega,by omega⟩,rfl⟩
    rcases ho with h | h
    ·exact absurd (hpm o h).1 (by simp)
    ·exact⟨rfl,h.2.2⟩
 | _=>exact triv rv
theorem I8 {f:AV→AV}(hf:∀ {g:Gh}{O:Nat→Nat},S P g w st t O→∀ {v:AV}{x:Value}{Ov:Nat→Nat},RV g w v x Ov→(∀ b,Ov b+O b≤1)→
  ∃ g',RV g' w (f v) x Ov∧S P g' w st t O∧aE g w g' w (fun b=>Ov b≠0)):∀ {vs:List AV}{g:Gh}{O:Nat→Nat},S P g w st t O→∀ {xs:List Value}{Ov:Nat→Nat},
  RVs g w vs xs Ov→(∀ b,Ov b+O b≤1)→∃ g',RVs g' w (vs.map f) xs Ov∧S P g' w st t O∧aE g w g' w (fun b=>Ov b≠0)
 | [],g,O,s,xs,Ov,rv,_=>⟨g,by simpa only[RVs,List.map_nil] using rv,s,.refl _ _ _⟩
 | v::vs,g,O,s,xs,Ov,rv,hle=>by
  simp only[RVs]at rv
  obtain⟨x,ys,O1,O2,rfl,r1,r2,hs⟩:=rv
  obtain⟨g1,q1,s1,hx1⟩:=hf s r1 (fun b=>by have:=hle b;have:=hs b;omega)
  have r2':=RVs.ext hx1 _ _ _ r2 (fun b hb hh=>by have:=hle b;have:=hs b;omega)
  obtain⟨g2,q2,s2,hx2⟩:=I8 hf s1 r2' (fun b=>by have:=hle b;have:=hs b;omega)
  refine⟨g2,?_,s2,(hx1.mono fun b _ h=>by have:=hs b;omega).trans hx2 fun b _ h=>by have:=hs b;omega⟩
  simp only[RVs,List.map_cons]
  exact⟨x,ys,O1,O2,rfl,RV.ext hx2 _ _ _ q1 (fun b hb hh=>by have:=hle b;have:=hs b;omega),q2,hs⟩
theorem aao {g:Gh}{O:Nat→Nat}(s:S P g w st t O) {v:AV}{x:Value}{Ov:Nat→Nat}(rv:RV g w v x Ov) (hle:∀ b,Ov b+O b≤1) :
  ∃ g',RV g' w (nJ v) x Ov∧S P g' w st t O∧aE g w g' w (fun b=>Ov b≠0):=by
 cases v with
 | agg cs =>
  simp only[RV]at rv
  obtain⟨xs,rfl,rv⟩:=rv
  obtain⟨g',q,s',hx⟩:=I8 (fun s _ _ _ r h=>Ka s r h) s rv hle
  exact⟨g',by simp only[nJ,RV];exact⟨xs,rfl,q⟩,s',hx⟩
 | _=>exact Ka s rv hle
theorem acX {g:Gh}{O:Nat→Nat}(s:S P g w st t O) {v:AV}{x:Value}{Ov:Nat→Nat}(rv:RV g w v x Ov) (hle:∀ b,Ov b+O b≤1) :
  ∃ g',RV g' w (firm v) x Ov∧S P g' w st t O∧aE g w g' w (fun b=>Ov b≠0):=by
 cases v with
 | tup cs =>
  simp only[RV]at rv
  obtain⟨xs,rfl,rv⟩:=rv
  obtain⟨g',q,s',hx⟩:=I8 (fun s _ _ _ r h=>aao s r h) s rv hle
  exact⟨g',by simp only[firm,RV];exact⟨xs,rfl,q⟩,s',hx⟩
 | _=>exact aao s rv hle
end
end Go.Vm
namespace Go.Vm
section
variable {P:Program}{w:World}{t:Array Value}{st st':St}{a:AV}
def adg (P:Program) (g:Gh) (w:World) (t:Array Value) (O:Nat→Nat) (env:ak) (x:Value) (Ov:Nat→Nat) (r:AV×HS):Prop :=
 ∃ g' Ov' O',RV g' w r.1 x Ov'∧S P g' w ⟨env,r.2⟩ t O'∧aE g w g' w (fun _=>False)∧∀ b,Ov' b+O' b≤Ov b+O b
theorem aE.id (g:Gh) (w:World) {id:Nat}(hn:g.obj id=none) (b base esz bsz:Nat):aE g w (g.add id b base esz bsz) w fun _=>False :=
 (aE.refl g w _).add hn b base esz bsz
theorem amz {g:Gh}{O:Nat→Nat}{hs:HS}{env:ak}(s:S P g w ⟨env,hs⟩ t O) {v:AV}{x:Value}{Ov:Nat→Nat}(rv:RV g w v x Ov) (hle:∀ b,Ov b+O b≤1)
  (hhi:∀ b,Ov b≠0→b<w.heap.size):adg P g w t O env x Ov (iQ hs v):=by
 have triv:adg P g w t O env x Ov (v,hs):=⟨g,Ov,O,rv,s,.refl _ _ _,fun _=>Nat.le_refl _⟩
 cases v with
 | own p m xs =>
  cases p with
  | false=>exact triv
  | true =>
   unfold iQ
   simp only
   split
   ·exact triv
   ·rename_i hm
    have hm:m≠0:=by rintro rfl;simp at hm
    have hn:=s.fresh hs.next (Nat.le_refl _)
    have put1:∀ (b base esz bsz:Nat) (ob:Obj) (O1:Nat→Nat),bf P (g.add hs.next b base esz bsz) w hs.next ob O1→(∀ y,O1 y+O y≤1)→(∀ y,O1 y≠0→y<w.heap.size)→
      ∃ O',S P (g.add hs.next b base esz bsz) w ⟨env,⟨put hs.heap hs.next ob,hs.next+1⟩⟩ t O'∧∀ y,O' y≤O1 y+O y:=by
     intro b base esz bsz ob O1 r h1 h2
     have hx:=aE.id g w hn b base esz bsz
     obtain⟨Oe,Oh,re,rh,ho⟩:=s.parts
     have re':=fj.ext hx re (by simp)
     have rh':rP P (g.add hs.next b base esz bsz) w hs.heap Oh:=rh.imp' fun k v Q _ hQ q=>q.ext hx (by simp) (by simp)
     obtain⟨O2,r2,h3⟩:=RL.drop rh' hs.next
     obtain⟨O3,r3,h4⟩:=RL.put s.sh r2 r
     have hl:∀ y,Oe y+O3 y≤O1 y+O y:=fun y=>by have:=h3 y;have:=h4 y;have:=ho y;omega
     refine⟨fun y=>Oe y+O3 y,⟨s.se,s.sh.put _ _,⟨Oe,O3,re',r3,fun _=>rfl⟩,fun y=>Nat.le_trans (hl y) (h1 y),fun y hy=>?_,fun i hi=>?_,s.pmlt⟩,hl⟩
     ·by_cases h:O1 y=0
      ·exact s.hi y (by have:=hl y;omega)
      ·exact h2 y h
     ·have hi':hs.next+1≤i:=hi
      have:i≠hs.next:=by omega
      simp only[Gh.add,this,if_false]
      exact s.fresh i (by show hs.next≤i;omega)
    simp only[RV]at rv
    rcases rv with ⟨rfl,hz,⟨a,rfl⟩⟩ | ⟨b,off,cap,c,el,rfl,hcap,hm',hl,hb,hsz,hrc,hpm,hp,rfl⟩
    ·obtain⟨O',s',hO'⟩:=put1 0 0 m 0 (.arr m []) zero (by
      simp only[bf]
      exact .inl ⟨trivial,by simp[Gh.add],by simp[Gh.add],by omega,⟨0,by simp[Gh.add]⟩,fun _=>trivial⟩) (fun y=>by have:=s.le y;simpa using this) (fun y h=>absurd rfl h)
     refine⟨_,zero,O',?_,s',aE.id g w hn _ _ _ _,fun y=>by have:=hO' y;simp at this⊢;omega⟩
     simp only[RV]
     exact⟨.inl ⟨rfl,a,rfl⟩,fun _=>trivial⟩
    ·obtain⟨O',s',hO'⟩:=put1 b off m (off+cap*m) (.arr m xs) (one b) (by
      simp only[bf]
      refine .inr ⟨b,c,el,by simp[Gh.add],by simp[Gh.add],hm',hb,by simpa [Gh.add] using hsz,?_,hl,by simpa [Gh.add] using hrc,fun o ho=>?_,fun _=>rfl⟩
      ·simp only[Gh.add,if_true]
       have:=Nat.mul_le_mul_right m hcap
       omega
      ·have:=(hpm o ho).1;simp at this) hle hhi
     refine⟨_,zero,O',?_,s',aE.id g w hn _ _ _ _,fun y=>by have:=hO' y;show zero y+O' y≤one b y+O y;have:zero y=0:=rfl;omega⟩
     simp only[RV]
     exact⟨.inr ⟨b,cap,by simp[Gh.add],by simp[Gh.add],hcap,by simp[Gh.add]⟩,fun _=>trivial⟩
 | _=>exact triv
end
end Go.Vm
namespace Go.Vm
section
variable {P:Program}{w:World}{t:Array Value}
def Vq (P:Program) (w:World) (t:Array Value) (f:HS→AV→AV×HS):Prop :=
 ∀ {g:Gh}{O:Nat→Nat}{hs:HS}{env:ak},S P g w ⟨env,hs⟩ t O→∀ {v:AV}{x:Value}{Ov:Nat→Nat},RV g w v x Ov→(∀ b,Ov b+O b≤1)→
  (∀ b,Ov b≠0→b<w.heap.size)→adg P g w t O env x Ov (f hs v)
theorem SH {f:HS→AV→AV×HS}(hf:Vq P w t f) {g:Gh}{O:Nat→Nat}{hs:HS}{env:ak}(s:S P g w ⟨env,hs⟩ t O) {cs:List AV}{xs:List Value}{Ov:Nat→Nat}
  (rv:RVs g w cs xs Ov) (hle:∀ b,Ov b+O b≤1) (hhi:∀ b,Ov b≠0→b<w.heap.size) {o:Nat}{v:AV}(hv:cs[o]?=some v) :
  ∃ g' Ov' O',RVs g' w (cs.set o (f hs v).1) xs Ov'∧S P g' w ⟨env,(f hs v).2⟩ t O'∧aE g w g' w (fun _=>False)∧∀ b,Ov' b+O' b≤Ov b+O b:=by
 obtain⟨x,A1,A2,hx,r1,r2,hs'⟩:=rv.pull hv
 obtain⟨g1,A1',O1,r1',s1,hx1,l1⟩:=hf s r1 (fun b=>by have:=hle b;have:=hs' b;omega) (fun b h=>hhi b (by have:=hs' b;omega))
 have r2':=RVs.ext hx1 _ _ _ r2 (by simp)
 have hj:(cs.set o .junk)[o]?=some .junk:=by rw[List.getElem?_set_self (eI hv)]
 obtain⟨y,B1,hy,_,_,rep⟩:=r2'.replace hj
 rw[hx]at hy
 simp only[Option.some.injEq]at hy
 subst hy
 obtain⟨B2,r3,h3⟩:=rep _ _ r1'
 rw[List.set_set]at r3
 exact⟨g1,B2,O1,r3,s1,hx1,fun b=>by have:=h3 b;have:=hs' b;have:=l1 b;omega⟩
theorem aaf:Vq P w t iQ:=fun s _ _ _ r h1 h2=>amz s r h1 h2
theorem TE (o:Nat):Vq P w t (fun hs=>ig hs o):=by
 intro g O hs env s v x Ov rv hle hhi
 cases v with
 | agg cs =>
  simp only[RV]at rv
  obtain⟨xs,rfl,rv⟩:=rv
  simp only[ig]
  split
  ·rename_i v hv
   obtain⟨g',Ov',O',r',s',hx,l'⟩:=SH aaf s rv hle hhi hv
   exact⟨g',Ov',O',by simp only[RV];exact⟨xs,rfl,r'⟩,s',hx,l'⟩
  ·exact⟨g,Ov,O,by simp only[RV];exact⟨xs,rfl,rv⟩,s,.refl _ _ _,fun _=>Nat.le_refl _⟩
 | _=>exact aaf s rv hle hhi
theorem aiE (p:Nat×Nat):Vq P w t (fun hs=>jY hs p):=by
 intro g O hs env s v x Ov rv hle hhi
 cases v with
 | tup cs =>
  simp only[RV]at rv
  obtain⟨xs,rfl,rv⟩:=rv
  simp only[jY]
  split
  ·rename_i v hv
   obtain⟨g',Ov',O',r',s',hx,l'⟩:=SH (TE p.2) s rv hle hhi hv
   exact⟨g',Ov',O',by simp only[RV];exact⟨xs,rfl,r'⟩,s',hx,l'⟩
  ·exact⟨g,Ov,O,by simp only[RV];exact⟨xs,rfl,rv⟩,s,.refl _ _ _,fun _=>Nat.le_refl _⟩
 | _=>exact TE p.2 s rv hle hhi
theorem CA:∀ th:List (Nat×Nat),Vq P w t (fun hs v=>bE th v hs)
 | []=>fun s _ _ _ rv _ _=>⟨_,_,_,rv,s,.refl _ _ _,fun _=>Nat.le_refl _⟩
 | p::r=>by
  intro s v x Ov rv hle hhi;rename_i g O hs env
  obtain⟨g1,Ov1,O1,r1,s1,hx1,l1⟩:=aiE p s rv hle hhi
  obtain⟨g2,Ov2,O2,r2,s2,hx2,l2⟩:=CA r s1 r1 (fun b=>Nat.le_trans (l1 b) (hle b)) (fun b hb=>by
   by_cases h:Ov b=0
   ·exact s.hi b (by have:=l1 b;omega)
   ·exact hhi b h)
  exact⟨g2,Ov2,O2,r2,s2,hx1.trans hx2 (fun _ _ h=>h),fun b=>Nat.le_trans (l2 b) (l1 b)⟩
end
end Go.Vm
namespace Go.Vm
section
variable {P:Program}{g:Gh}{w:World}{t:Array Value}{O:Nat→Nat}
theorem S.setTmp {e:ak}{hs:HS}(s:S P g w ⟨e,hs⟩ t O) {d:Nat}{v:AV}{x:Value}{Ov:Nat→Nat}(hd:d<t.size) (r:RV g w v x Ov)
  (hle:∀ b,Ov b+O b≤1) (hhi:∀ b,Ov b≠0→b<w.heap.size):∃ O',S P g w ⟨put e d v,hs⟩ (t.setIfInBounds d x) O'∧∀ b,O' b≤Ov b+O b:=by
 obtain⟨Oe,Oh,re,rh,ho⟩:=s.parts
 obtain⟨O2,r2,h2⟩:=RL.drop re d
 have r2':fj g w (del e d) (t.setIfInBounds d x) O2:=r2.imp' fun k v' O1 hm _ q=>by
  have hk:=(agt hm).2
  refine⟨by simpa using q.1,?_⟩
  have:(t.setIfInBounds d x).getD k undef=t.getD k undef:=by
   simp only[Array.getD_eq_getD_getElem?,Array.getElem?_setIfInBounds]
   rw[if_neg (fun h=>hk h.symm)]
  rw[this];exact q.2
 obtain⟨O3,r3,h3⟩:=RL.put s.se r2' (x:=v) (O1:=Ov) ⟨by simpa using hd,by
  have:(t.setIfInBounds d x).getD d undef=x:=by simp[Array.getD_eq_getD_getElem?,hd]
  rw[this];exact r⟩
 have hl:∀ b,O3 b+Oh b≤Ov b+O b:=fun b=>by have:=h2 b;have:=h3 b;have:=ho b;omega
 refine⟨fun b=>O3 b+Oh b,⟨s.se.put _ _,s.sh,⟨O3,Oh,r3,rh,fun _=>rfl⟩,fun b=>Nat.le_trans (hl b) (hle b),fun b hb=>?_,s.fresh,s.pmlt⟩,hl⟩
 by_cases h:Ov b=0
 ·exact s.hi b (by have:=hl b;omega)
 ·exact hhi b h
end
end Go.Vm
namespace Go.Vm
section
variable {P:Program}{g:Gh}{w:World}{t:Array Value}{O:Nat→Nat}{st st':St}{a:AV}{o:Oper}
theorem Dg {m:Nat}{ys:List (List D)}(h:cq m ys=true):∀ e∈ys,e.length=m:=by
 induction ys with
 | nil=>intro e he;simp at he
 | cons y ys ih =>
  simp only[cq]at h
  split at h
  ·rename_i hb
   rw[Nat.beq_eq]at hb
   intro e he
   rcases List.mem_cons.1 he with rfl | he
   ·exact hb
   ·exact ih h e he
  ·simp at h
theorem JU (ds:List D):(Je ds).flatten=ds:=by
 induction ds with
 | nil=>rfl
 | cons d ds ih=>simp[Je,ih]
theorem acO (ds:List D):∀ e∈Je ds,e.length=1:=by
 induction ds with
 | nil=>intro e he;simp[Je]at he
 | cons d ds ih =>
  intro e he
  rcases List.mem_cons.1 he with rfl | he
  ·rfl
  ·exact ih e he
structure BW (g:Gh) (w:World) (m:Nat) (ys:List (List D)) (a:Option Addr) (news:List Value):Prop where
 nn:a=.none→ys.length=0
 len:news.length=ys.length*m
 rd:∀ (j:Nat) (d:D),ys.flatten[j]?=some d→∃ u,news[j]?=some u∧RD w g.pm d u
 one:∀ u∈news,u.oneCell'=true
 cell:∀ ad,a=some ad→∀ (j:Nat) (u:Value),news[j]?=some u→w.cell? (ad.add j)=some u
theorem BW.nil (g:Gh) (w:World) (m:Nat) (a:Option Addr):BW g w m [] a [] :=
 ⟨fun _=>rfl,by simp,fun j d h=>by simp at h,fun u h=>by simp at h,fun ad _ j u h=>by simp at h⟩
theorem BW.of_cells {m:Nat}{ys:List (List D)}(hl:∀ e∈ys,e.length=m) {b off:Nat}(r:fC w g.pm ys.flatten b off):∃ news,BW g w m ys (some ⟨b,off,.none⟩) news:=by
 obtain⟨xs,h1,h2,h3⟩:=r.vals
 refine⟨xs,fun h=>by simp at h,by rw[h1,cP hl],fun j d hd=>?_,fun u hu=>?_,fun ad e j u hj=>?_⟩
 ·have hj:j<xs.length:=by rw[h1];exact eI hd
  exact⟨xs[j],by simp,h3 j d _ hd (by simp)⟩
 ·obtain⟨j,hj,rfl⟩:=List.mem_iff_getElem.1 hu
  have hj':j<ys.flatten.length:=by omega
  exact(h3 j _ _ (List.getElem?_eq_getElem hj') (List.getElem?_eq_getElem hj)).one
 ·simp only[Option.some.injEq]at e;subst e
  rw[eW];exact h2 j u hj
theorem qF {st:St}(s:S P g w st t O) {v:AV}{ys:List (List D)}{x:Value}{Ov:Nat→Nat}{m:Nat}(he:elems st.hs.heap v=some ys) (hl:∀ e∈ys,e.length=m)
  (rv:RV g w v x Ov):∃ a cap news,x=.slice a ys.length cap∧BW g w m ys a news:=by
 by_cases hn:kT v=false
 ·rcases (Wl he hn rv).list with ⟨rfl,a,cap,rfl⟩ | ⟨b,off,m',cap,rfl,_,_,_,hc,_⟩
  ·exact⟨a,cap,[],rfl,BW.nil _ _ _ _⟩
  ·obtain⟨news,h⟩:=BW.of_cells hl hc
   exact⟨_,cap,news,rfl,h⟩
 ·cases v<;>simp only[kT,not_true,Bool.true_eq_false,not_false_eq_true]at hn
  rename_i id off len
  simp only[elems]at he
  split at he
  ·rename_i xs hx
   split at he
   ·rename_i hb
    rw[Nat.ble_eq]at hb
    simp only[Option.some.injEq]at he
    subst he
    have hsl:(Vm.sub xs off len).length=len:=eX hb
    simp only[RV]at rv
    rcases rv.1 with ⟨rfl,a,rfl⟩ | ⟨b,cap,hob,rfl,hlc,hcap⟩
    ·have:Vm.sub xs off 0=[]:=List.eq_nil_of_length_eq_zero hsl
     rw[this]
     exact⟨a,0,[],rfl,BW.nil _ _ _ _⟩
    ·rw[hsl]
     obtain⟨Oe,Oh,re,rh,ho⟩:=s.parts
     unfold objElems at hx
     split at hx
     ·rename_i m' zs hg
      simp only[Option.some.injEq]at hx;subst hx
      obtain⟨O1,q,_⟩:=RL.get rh hg
      simp only[bf]at q
      rcases q with ⟨rfl,_⟩ | ⟨b',c,el,g1,g2,g3,g4,g5,g6,g7,g8,g9,g10⟩
      ·have h0:len=0:=by simp at hb;omega
       subst h0
       have:Vm.sub ([]:List (List D)) off 0=[]:=List.eq_nil_of_length_eq_zero hsl
       rw[this]
       exact⟨_,cap,[],rfl,BW.nil _ _ _ _⟩
      ·rw[hob]at g1
       simp only[Option.some.injEq]at g1
       subst g1
       have hc:fC w g.pm (Vm.sub zs off len).flatten b (g.base id+off*g.esz id):=by
        rw[iE g7,g2];exact g8.sub _ _
       obtain⟨news,h⟩:=BW.of_cells hl hc
       exact⟨_,cap,news,rfl,h⟩
     ·rename_i cs hg
      split at hx
      ·rename_i ds hds
       simp only[Option.some.injEq]at hx;subst hx
       obtain⟨O1,q,_⟩:=RL.get rh hg
       simp only[bf]at q
       obtain⟨b',c,el,O2,g1,g2,g3,g4,g5,g6,g7,g8⟩:=q
       rw[hob]at g1
       simp only[Option.some.injEq]at g1
       subst g1
       obtain⟨h1,h2,h3⟩:=Fg hds g6
       have hc:fC w g.pm (Vm.sub (Je ds) off len).flatten b (g.base id+off*g.esz id):=by
        rw[iE (acO ds),JU,g2,g3,Nat.zero_add]
        intro j d hj
        obtain⟨hj,_⟩:=agV hj
        obtain⟨u,hu,hr⟩:=h2 _ d hj
        refine⟨u,?_,hr⟩
        rw[dn g5,←Array.getElem?_toList]
        rw[Nat.mul_one]at hu⊢
        exact hu
       obtain⟨news,h⟩:=BW.of_cells hl hc
       exact⟨_,cap,news,rfl,h⟩
      ·simp at hx
     ·simp at hx
   ·simp at he
  ·simp at he
theorem BW.first {m:Nat}{ys:List (List D)}{ad:Option Addr}{news:List Value}(h:BW g w m ys ad news) {len cap n:Nat}(hn:n≤ys.length) {w1:World}(hw:w1.heap=w.heap) :
  (Builtin.firstCells m n (.slice ad len cap)).run P w1=.ok (news.take (n*m)).toArray w1:=by
 cases ad with
 | none =>
  have:=h.nn rfl
  have:n=0:=by omega
  subst this
  simp[Builtin.firstCells]
 | some ad =>
  have hl:(news.take (n*m)).length=n*m:=by
   rw[List.length_take,h.len];exact Nat.min_eq_left (Nat.mul_le_mul_right _ hn)
  refine run_firstCells_some (P:=P) w1 m n ad len cap _ hl fun j v hj=>?_
  have hj':news[j]?=some v:=by
   rw[List.getElem?_take]at hj
   split at hj
   ·exact hj
   ·simp at hj
  have:=h.cell ad rfl j v hj'
  simpa [World.cell?,hw] using this
end
end Go.Vm
namespace Go.Vm
structure Src (P:Program) (w:World) (t1:TypeId) (x:Value) (e:TypeId) (m n:Nat) (news:List Value):Prop where
 len:news.length=n*m
 one:∀ u∈news,u.oneCell'=true
 src:((∃ e',P.underlying t1=some (.slice e'))∧(∃ a cap,x=.slice a n cap)∧∀ w1:World,w1.heap=w.heap→(Builtin.firstCells m n x).run P w1=.ok news.toArray w1)∨
  ((∃ k,P.underlying t1=some (.int k))∧(∃ k,x=.int k (n:Int))∧∃ i z,P.info? e=some i∧i.zero=some z∧z.cells.size=m∧news.toArray=Builtin.zeroCells z.cells n)
section
variable {P:Program}{w:World}{t0 t1 ty e:TypeId}{m n:Nat}{x:Value}{news:List Value}
theorem lv {i:TypeInfo}{z:Value}(hi:P.info? e=some i) (hz:i.zero=some z):(zeroValue e).run P w=.ok z w:=by
 simp[zeroValue,typeInfo,hi,hz]
theorem WU {n b:Nat}(hn:n≤4294967296) (hb:b≤4096):n*b≤17592186044416:=Nat.le_trans (Nat.mul_le_mul hn hb) (by decide)
theorem rL (hu:P.underlying t0=some (.slice e)) {i:TypeInfo}(hi:P.info? e=some i) (hs:i.size=m) (hm:0<m) (hby:i.bytes≤4096) (hn:n≤4294967296)
  (hx:Src P w t1 x e m n news) {base:Option Addr}{sLen sCap:Nat}(hroom:sLen+n≤sCap) :
  (Builtin.append_ #[t0,t1] ty #[.slice base sLen sCap,x]).run P w =
   match base with
   | some a=>((do storeCells (a.add (sLen*m)) news;pure (.slice (some a) (sLen+n) sCap):Sem Value)).run P w
   | none=>.ok (.slice none (sLen+n) sCap) w:=by
 have hlen:=hx.len
 have hroom':sLen+n≤sCap:=hroom
 rcases hx.src with ⟨⟨e',h1⟩,⟨ad,cap,rfl⟩,hf⟩ | ⟨⟨k,h1⟩,⟨kk,rfl⟩,i',z,hi',hz,hzs,hzc⟩
 ·have hf':=hf w rfl
  cases base<;>simp[Builtin.append_,aj hu,aj h1,sizeOf,typeInfo,hi,hs,Builtin.lenOf,hroom',hf']
 ·rw[hi]at hi'
  simp only[Option.some.injEq]at hi'
  subst hi'
  have hw1:=FI hn
  have hbytes:=WU hn hby
  have hcast:((n*i.bytes:Nat):Int)=(n:Int)*(i.bytes:Int):=Int.natCast_mul _ _
  have hbig:¬ ((n:Int)*(i.bytes:Int) > 2 ^ 48):=by rw[←hcast];omega
  have hn0:¬ (n:Int)<0:=by omega
  have hzv:=lv (P:=P) (w:=w) hi hz
  have hbig':¬ (281474976710656<(n:Int)*(i.bytes:Int)):=by simpa using hbig
  by_cases hnm:n*m=0
  ·have hnil:news=[]:=List.eq_nil_of_length_eq_zero (by rw[hlen];exact hnm)
   subst hnil
   cases base<;>simp[Builtin.append_,aj hu,aj h1,sizeOf,typeInfo,hi,hs,asInt,asIntOf,hw1,hn0,hbig',hroom',hnm]
  ·cases base<;>simp[Builtin.append_,aj hu,aj h1,sizeOf,typeInfo,hi,hs,asInt,asIntOf,hw1,hn0,hbig',hroom',hnm,hzv,←hzc]
theorem ON (hu:P.underlying t0=some (.slice e)) {i:TypeInfo}{z:Value}(hi:P.info? e=some i) (hz:i.zero=some z) (hzs:z.cells.size=m) (hs:i.size=m) (hm:0<m)
  (hby:i.bytes≤4096) (hn:n≤4294967296) (hx:Src P w t1 x e m n news) {base:Option Addr}{sLen sCap:Nat}{olds:List Value}(hlo:olds.length=sLen*m)
  (hold:∀ w1:World,w1.heap=w.heap→(Builtin.firstCells m sLen (.slice base sLen sCap)).run P w1=.ok olds.toArray w1)
  (hsum:sLen+n≤4294967296) (hg:sCap<sLen+n) :
  ∃ cap' rest,(Builtin.append_ #[t0,t1] ty #[.slice base sLen sCap,x]).run P w =
    .ok (.slice (some ⟨w.heap.size,0,none⟩) (sLen+n) cap') (w.drew.alloc (.cells (olds++(news++rest)).toArray e))∧
   sLen+n≤cap'∧cap'*m≤(olds++(news++rest)).length:=by
 have hlen:=hx.len
 have hng:¬ (sLen+n≤sCap):=by omega
 have h63:¬ (9223372036854775807<((sLen:Int)+(n:Int))):=by omega
 have hfit:Builtin.nextslicecap (sLen+n) sCap*i.bytes≤281474976710656:=growslice_fits hg (Nat.le_trans (WU hsum hby) (by decide))
 have h48:¬ (281474976710656<Builtin.nextslicecap (sLen+n) sCap*i.bytes):=by omega
 have hcap:sLen+n≤grownCap w (sLen+n) sCap e:=by simp[grownCap,Question.cut]
 have hold':=hold w.drew rfl
 have hzv:=fun w1=>lv (P:=P) (w:=w1) hi hz
 refine⟨grownCap w (sLen+n) sCap e,(Builtin.zeroCells z.cells (grownCap w (sLen+n) sCap e-(sLen+n))).toList,?_,hcap,?_⟩
 ·rcases hx.src with ⟨⟨e',h1⟩,⟨ad,cap,rfl⟩,hf⟩ | ⟨⟨k,h1⟩,⟨kk,rfl⟩,i',z',hi',hz',hzs',hzc⟩
  ·have hf':=hf w.drew rfl
   simp[Builtin.append_,aj hu,aj h1,sizeOf,typeInfo,hi,hs,hzv,Builtin.lenOf,hng,h63,h48,Question.forced,hf',hold',newRow,grownCap]
   congr 2
   apply Array.ext'
   simp
  ·rw[hi]at hi'
   simp only[Option.some.injEq]at hi'
   subst hi'
   rw[hz]at hz'
   simp only[Option.some.injEq]at hz'
   subst hz'
   have hw1:=FI hn
   have hbytes:=WU hn hby
   have hcast:((n*i.bytes:Nat):Int)=(n:Int)*(i.bytes:Int):=Int.natCast_mul _ _
   have hbig':¬ (281474976710656<(n:Int)*(i.bytes:Int)):=by rw[←hcast];omega
   have hn0:¬ (n:Int)<0:=by omega
   by_cases hnm:n*m=0
   ·have hnil:news=[]:=List.eq_nil_of_length_eq_zero (by rw[hlen];exact hnm)
    subst hnil
    simp[Builtin.append_,aj hu,aj h1,sizeOf,typeInfo,hi,hs,asInt,asIntOf,hw1,hn0,hbig',hnm,hzv,hng,h63,h48,Question.forced,hold',newRow,grownCap]
    congr 2
    apply Array.ext'
    simp
   ·simp[Builtin.append_,aj hu,aj h1,sizeOf,typeInfo,hi,hs,asInt,asIntOf,hw1,hn0,hbig',hnm,hzv,hng,h63,h48,Question.forced,←hzc,hold',newRow,grownCap]
    congr 2
    apply Array.ext'
    simp
 ·have hz1:(Builtin.zeroCells z.cells (grownCap w (sLen+n) sCap e-(sLen+n))).toList.length=(grownCap w (sLen+n) sCap e-(sLen+n))*m:=by
   simp[Builtin.zeroCells,hzs]
  rw[List.length_append,List.length_append,hlo,hlen,hz1,←Nat.add_mul,←Nat.add_mul]
  apply Nat.mul_le_mul_right
  omega
end
end Go.Vm
namespace Go.Vm
section
variable {P:Program}{g:Gh}{w:World}{t:Array Value}{O:Nat→Nat}{st st':St}{a:AV}{o:Oper}
theorem cN.mono {O2:Nat→Nat}{res:Result Next}(h:cN P g w t O st' a res) (hle:∀ b,O b≤O2 b):cN P g w t O2 st' a res:=by
 obtain⟨x,w',g',Oa,O',k⟩:=h
 exact⟨x,w',g',Oa,O',k.run,k.val,k.st,k.ext.mono (fun b _ h=>by have:=hle b;omega),k.le,fun b hb=>Nat.le_trans (k.old b hb) (hle b),k.hi⟩
def mf (P:Program) (g:Gh) (w:World) (t:Array Value) (O Oa:Nat→Nat) (st':St) (r:AV) (res:Result Value):Prop :=
 ∃ v w' g' Or O',res=.ok v w'∧RV g' w' r v Or∧S P g' w' st' t O'∧aE g w g' w' (fun b=>Oa b≠0∨O b≠0)∧(∀ b,Or b+O' b≤1)∧
  (∀ b,b<w.heap.size→Or b+O' b≤Oa b+O b)∧∀ b,Or b≠0→b<w'.heap.size
theorem mf.firm {Oa:Nat→Nat}{m:Nat}{xs:List (List D)}{res:Result Value}(h:mf P g w t O Oa st' (.own true m xs) res):mf P g w t O Oa st' (.own false m xs) res:=by
 obtain⟨v,w',g',Or,O',h1,h2,h3,h4,h5,h6,h7⟩:=h
 obtain⟨g2,r2,s2,x2⟩:=Ka h3 h2 h5
 exact⟨v,w',g2,Or,O',h1,r2,s2,h4.trans x2 (fun b hb h=>by have:=h6 b hb;omega),h5,h6,h7⟩
theorem aE.write {b pos:Nat}{c c':Array Value}{el:TypeId}{news:List Value}(hb:w.heap[b]?=some (.cells c el (0,0))) (hp:∀ o,g.pm b o→o<pos)
  (hc:c'.toList=ai c.toList pos news) (hsz:pos≤c.size):aE g w g (Vm.setBlk w b (.cells c' el (0,0))) fun x=>x=b where
 obj _ _ h:=⟨h,rfl,rfl,rfl⟩
 pm b' o h:=⟨h,by
  by_cases e:b'=b
  ·subst e
   have:=hp o h
   rw[dn (cg (ba hb)),dn hb,←Array.getElem?_toList,hc,←Array.getElem?_toList]
   unfold ai
   have hlt:o<(c.toList.take pos).length:=by simp;omega
   rw[List.append_assoc,List.getElem?_append_left hlt,List.getElem?_take_of_lt this]
  ·exact fU (dE e) o⟩
 blk b' _ h:=⟨dE h,fun _ h=>h⟩
 size:=by simp
 lp b' rc h:=⟨rc,by rw[dE (by rintro rfl;rw[hb]at h;simp at h)];exact h⟩
 same:=⟨rfl,rfl,oV hb (by intro off;simp[dh]) (by intro off;simp[dh])⟩
theorem S.other {w':World}{b:Nat}{c:Array Value}{el:TypeId}(s:S P g w st t O) (hb:w.heap[b]?=some (.cells c el (0,0))) (hx:aE g w g w' fun x=>x=b) (hO:O b=0) :
  S P g w' st t O:=by
 obtain⟨Oe,Oh,re,rh,ho⟩:=s.parts
 have re':=fj.ext hx re (fun y hy e=>by rw[e]at hy;have:=ho b;omega)
 have rh':rP P g w' st.hs.heap Oh:=rh.imp' fun k v Q _ hQ q=>q.ext hx (fun y hy e=>by rw[e]at hy;have:=hQ b;have:=ho b;omega) (fun y ds hd e=>by
  rw[e,hb]at hd;simp at hd)
 exact⟨s.se,s.sh,⟨Oe,Oh,re',rh',ho⟩,s.le,fun b hb=>Nat.lt_of_lt_of_le (s.hi b hb) hx.size,s.fresh,fun b o h=>Nat.lt_of_lt_of_le (s.pmlt b o h) hx.size⟩
def CL (g:Gh) (w:World) (ys:List (List D)) (news:List Value):Prop:=∀ (j:Nat) (d:D),ys.flatten[j]?=some d→∃ u,news[j]?=some u∧RD w g.pm d u
theorem afY {b off m cap:Nat}{c c':Array Value}{el:TypeId}{news:List Value}{xs ys:List (List D)}(hb:w.heap[b]?=some (.cells c el (0,0)))
  (hx:aE g w g (Vm.setBlk w b (.cells c' el (0,0))) fun x=>x=b) (hc:c'.toList=ai c.toList (off+xs.length*m) news) (hl:∀ e∈xs,e.length=m)
  (hcap:off+cap*m≤c.size) (hroom:xs.length+ys.length≤cap) (hn:news.length=ys.length*m) (hrc:fC w g.pm xs.flatten b off) (hnew:CL g w ys news) :
  fC (Vm.setBlk w b (.cells c' el (0,0))) g.pm (xs++ys).flatten b off:=by
 have hfl:=cP hl
 have hbound:(xs.length+ys.length)*m≤cap*m:=Nat.mul_le_mul_right _ hroom
 rw[Nat.add_mul]at hbound
 have hcl:c.toList.length=c.size:=Array.length_toList
 intro j d hj
 rw[List.flatten_append]at hj
 rw[dn (cg (ba hb)),←Array.getElem?_toList,hc,dF (by omega)]
 rcases Nat.lt_or_ge j xs.flatten.length with h | h
 ·rw[List.getElem?_append_left h]at hj
  obtain⟨u,hu,hr⟩:=hrc j d hj
  rw[dn hb,←Array.getElem?_toList]at hu
  have:¬ (off+xs.length*m≤off+j∧off+j<off+xs.length*m+news.length):=by omega
  rw[if_neg this]
  exact⟨u,hu,hr.ext hx⟩
 ·rw[List.getElem?_append_right h]at hj
  obtain⟨u,hu,hr⟩:=hnew _ d hj
  have hlt:=eI hu
  have:off+xs.length*m≤off+j∧off+j<off+xs.length*m+news.length:=by omega
  rw[if_pos this]
  refine⟨u,?_,hr.ext hx⟩
  rw[←hu];congr 1;omega
variable {t0 t1 ty e:TypeId}{m n:Nat}{x:Value}{news:List Value}{xs ys:List (List D)}{i:TypeInfo}{z:Value}
theorem Pj {Oa:Nat→Nat}(s:S P g w st t O) (hu:P.underlying t0=some (.slice e)) (hi:P.info? e=some i) (hz:i.zero=some z) (hzs:z.cells.size=m) (hs:i.size=m) (hm:0<m)
  (hby:i.bytes≤4096) (hx:Src P w t1 x e m ys.length news) (hnew:CL g w ys news) {base:Option Addr}{sCap:Nat}(hl:∀ e∈xs,e.length=m) (hl2:∀ e∈ys,e.length=m)
  {olds:List Value}(hlo:olds.length=xs.length*m) (hod:CL g w xs olds) (hold:∀ w1:World,w1.heap=w.heap→(Builtin.firstCells m xs.length (.slice base xs.length sCap)).run P w1=.ok olds.toArray w1)
  (hsum:xs.length+ys.length≤4294967296) (hg:sCap<xs.length+ys.length) :
  mf P g w t O Oa st (.own true m (xs++ys)) ((Builtin.append_ #[t0,t1] ty #[.slice base xs.length sCap,x]).run P w):=by
 obtain⟨cap',rest,hrun,h1,h2⟩:=ON (P:=P) (ty:=ty) hu hi hz hzs hs hm hby (Nat.le_trans (Nat.le_add_left _ _) hsum) hx hlo hold hsum hg
 have hop:cN P g w t O st (.own true m (xs++ys)) (.ok (.value (.slice (some ⟨w.heap.size,0,none⟩) (xs++ys).length cap')) (w.drew.alloc (.cells (olds++(news++rest)).toArray e))):=by
  refine cN.list (w1:=w.drew) s s (fun _=>Nat.le_refl _) (aE.drew g w _) rfl rfl hm (fun e he=>?_) (by simpa using h1) (by simpa using h2) fun j d hj=>?_
  ·rcases List.mem_append.1 he with he | he
   ·exact hl e he
   ·exact hl2 e he
  ·rw[List.flatten_append]at hj
   have hfl:=cP hl
   rcases Nat.lt_or_ge j xs.flatten.length with h | h
   ·rw[List.getElem?_append_left h]at hj
    obtain⟨u,hu,hr⟩:=hod j d hj
    exact⟨u,by rw[List.getElem?_toArray,List.getElem?_append_left (eI hu)];exact hu,hr⟩
   ·rw[List.getElem?_append_right h]at hj
    obtain⟨u,hu,hr⟩:=hnew _ d hj
    have hlt:=eI hu
    refine⟨u,?_,hr⟩
    rw[List.getElem?_toArray,List.getElem?_append_right (by omega),hlo,←hfl,List.getElem?_append_left hlt]
    exact hu
 obtain⟨v,w',g',Or,O',k⟩:=hop
 rcases k.run with hr | hr
 ·simp only[Result.ok.injEq,Next.value.injEq]at hr
  obtain⟨rfl,rfl⟩:=hr
  exact⟨_,_,g',Or,O',by rw[hrun];simp,k.val,k.st,k.ext.mono (fun b _ h=>.inr h),k.le,fun b hb=>by have:=k.old b hb;omega,k.hi⟩
 ·simp at hr
theorem alH (s:S P g w st t O) (hu:P.underlying t0=some (.slice e)) (hi:P.info? e=some i) (hs:i.size=m) (hm:0<m)
  (hby:i.bytes≤4096) (hx:Src P w t1 x e m ys.length news) (hnew:CL g w ys news) {b off cap:Nat}(hl:∀ e∈xs,e.length=m) (hl2:∀ e∈ys,e.length=m)
  {c:Array Value}{el:TypeId}(hb:w.heap[b]?=some (.cells c el (0,0))) (hcap:off+cap*m≤c.size) (hrc:fC w g.pm xs.flatten b off) (hO:O b=0) (hp:∀ o,g.pm b o→o<off+xs.length*m)
  (hsum:ys.length≤4294967296) (hroom:xs.length+ys.length≤cap) :
  ∃ v w',(Builtin.append_ #[t0,t1] ty #[.slice (some ⟨b,off,none⟩) xs.length cap,x]).run P w=.ok v w'∧S P g w' st t O∧aE g w g w' (fun y=>y=b)∧w'.heap.size=w.heap.size∧
   ((∀ o,¬ g.pm b o)→RV g w' (.own true m (xs++ys)) v (one b))∧
   ∃ g',aE g w g' w' (fun y=>y=b)∧S P g' w' st t O∧RV g' w' (.own false m (xs++ys)) v (one b):=by
 have hbound:(xs.length+ys.length)*m≤cap*m:=Nat.mul_le_mul_right _ hroom
 rw[Nat.add_mul]at hbound
 have hn:=hx.len
 obtain⟨c',h1,h2,h3⟩:=kg (P:=P) (b:=b) (el:=el) news w c (off+xs.length*m) 0 hb hx.one (by omega)
 rw[Nat.add_zero]at h2
 have hrun:=rL (P:=P) (w:=w) (ty:=ty) hu hi hs hm hby hsum hx (base:=some ⟨b,off,none⟩) hroom
 have hext:=aE.write hb hp h2 (by omega)
 have s':=s.other hb hext hO
 have hcells:=afY hb hext h2 hl hcap hroom hn hrc hnew
 have hla:∀ e∈xs++ys,e.length=m:=fun e he=>by
  rcases List.mem_append.1 he with he | he
  ·exact hl e he
  ·exact hl2 e he
 refine⟨.slice (some ⟨b,off,none⟩) (xs.length+ys.length) cap,_,?_,s',hext,by simp,fun hnp=>?_,?_⟩
 ·rw[hrun]
  simp only[eW,Sem.run_bind,h1,Result.andThen_ok,Sem.run_pure]
 ·simp only[RV,mY]
  refine .inr ⟨b,off,cap,c',el,by simp,by simpa using hroom,hm,hla,cg (ba hb),by omega,hcells,fun o ho=>absurd ho (hnp o),fun h=>by simp at h,rfl⟩
 ·have hb':(Vm.setBlk w b (.cells c' el (0,0))).heap[b]?=some (.cells c' el (0,0)):=cg (ba hb)
  refine⟨g.keep b fun o=>off≤o∧o<off+(xs++ys).length*m,hext.trans (aE.keep g _ b _) (fun _ _ h=>h),s'.keep hO hb' _,?_⟩
  simp only[RV,mY]
  refine .inr ⟨b,off,cap,c',el,by simp,by simpa using hroom,hm,hla,hb',by omega,hcells.ext (aE.keep g _ b _) (.inl rfl),fun o ho=>⟨trivial,?_⟩,fun _ j hj=>.inr ⟨rfl,by omega,by omega⟩,rfl⟩
  rcases ho with ho | ⟨_,_,ho⟩
  ·have:=hp o ho
   rw[List.length_append,Nat.add_mul];omega
  ·exact ho
end
end Go.Vm
namespace Go.Vm
section
variable {P:Program}{g:Gh}{w:World}{t:Array Value}{O:Nat→Nat}{st st':St}{a:AV}{o:Oper}
variable {t0 t1 ty e:TypeId}{m n:Nat}{x:Value}{news:List Value}{xs ys:List (List D)}{i:TypeInfo}{z:Value}
theorem fC.olds {b off:Nat}(hl:∀ e∈xs,e.length=m) (r:fC w g.pm xs.flatten b off) (len cap:Nat) :
  ∃ olds:List Value,olds.length=xs.length*m∧CL g w xs olds∧∀ w1:World,w1.heap=w.heap→(Builtin.firstCells m xs.length (.slice (some ⟨b,off,none⟩) len cap)).run P w1=.ok olds.toArray w1:=by
 obtain⟨news,h⟩:=BW.of_cells hl r
 refine⟨news,h.len,h.rd,fun w1 hw=>?_⟩
 have:=h.first (P:=P) (len:=len) (cap:=cap) (Nat.le_refl _) hw
 rw[←h.len,List.take_length]at this
 exact this
theorem lN (m:Nat) (a:Option Addr) (len cap:Nat) (w1:World):(Builtin.firstCells m 0 (.slice a len cap)).run P w1=.ok #[] w1:=by
 cases a with
 | none=>simp[Builtin.firstCells]
 | some a =>
  have:=run_firstCells_some (P:=P) w1 m 0 a len cap [] (by simp) (fun j v h=>by simp at h)
  simpa using this
theorem UL {Oa:Nat→Nat}{va r:AV}{x0:Value}{h':ac}(s:S P g w st t O) (ra:RV g w va x0 Oa) (hle:∀ b,Oa b+O b≤1) (hhi:∀ b,Oa b≠0→b<w.heap.size)
  (hu:P.underlying t0=some (.slice e)) (hi:P.info? e=some i) (hz:i.zero=some z) (hzs:z.cells.size=m) (hs:i.size=m) (hm:0<m)
  (hby:i.bytes≤4096) (hx:Src P w t1 x e m ys.length news) (hnew:CL g w ys news) (hl2:∀ e∈ys,e.length=m) (h:bF m st.hs.heap va ys=some (r,h')) :
  mf P g w t O Oa ⟨st.env,⟨h',st.hs.next⟩⟩ r ((Builtin.append_ #[t0,t1] ty #[x0,x]).run P w):=by
 unfold bF at h
 split at h
 ·simp at h
 ·rename_i hy
  rw[Nat.ble_eq]at hy
  have hy':ys.length≤4294967296:=hy
  have empty:∀ {st1:St}{O1:Nat→Nat},S P g w st1 t O1→(∀ b,O1 b≤Oa b+O b)→∀ ad:Option Addr,ys.length=0→∀ r,RV g w r (.slice ad 0 0) zero→
    mf P g w t O Oa st1 r ((Builtin.append_ #[t0,t1] ty #[.slice ad 0 0,x]).run P w):=by
   intro st1 O1 s1 hO1 ad h0 r hr
   have hnil:news=[]:=List.eq_nil_of_length_eq_zero (by rw[hx.len,h0];simp)
   have hrun:=rL (P:=P) (w:=w) (ty:=ty) hu hi hs hm hby hy' hx (base:=ad) (sLen:=0) (sCap:=0) (by omega)
   refine⟨.slice ad 0 0,w,g,zero,O1,?_,hr,s1,.refl _ _ _,fun b=>by have:=hle b;have:=hO1 b;simp;omega,fun b _=>by have:=hO1 b;simpa using this,fun b hb=>by simp at hb⟩
   rw[hrun,hnil,h0]
   cases ad<;>simp[storeCells]
  have weak:∀ {st1:St}{O1:Nat→Nat}{r:AV}{res:Result Value},(∀ b,O1 b≤Oa b+O b)→mf P g w t O1 zero st1 r res→mf P g w t O Oa st1 r res:=by
   rintro st1 O1 r res hO1 ⟨v,w',g',Or,O',k1,k2,k3,k4,k5,k6,k7⟩
   exact⟨v,w',g',Or,O',k1,k2,k3,k4.mono (fun b _ h=>by have:=hO1 b;rcases h with h | h;exact absurd rfl h;omega),k5,fun b hb=>by have h6:Or b+O' b≤0+O1 b:=k6 b hb;have:=hO1 b;omega,k7⟩
  have grows0:∀ {st1:St}{O1:Nat→Nat},S P g w st1 t O1→(∀ b,O1 b≤Oa b+O b)→∀ ad:Option Addr,ys.length≠0→
    mf P g w t O Oa st1 (.own true m ys) ((Builtin.append_ #[t0,t1] ty #[.slice ad 0 0,x]).run P w):=by
   intro st1 O1 s1 hO1 ad h0
   refine weak hO1 ?_
   have:=Pj (Oa:=zero) (xs:=[]) (base:=ad) (sCap:=0) (olds:=[]) (ty:=ty) s1 hu hi hz hzs hs hm hby hx hnew (fun e he=>by simp at he) hl2 (by simp)
    (fun j d h=>by simp at h) (fun w1 _=>lN m ad 0 0 w1) (by simpa using hy') (by simp;omega)
   simpa using this
  have block:∀ {st1:St}{O1:Nat→Nat}{zs:List (List D)}{b off cap:Nat}{c:Array Value}{el:TypeId},S P g w st1 t O1→(∀ y,O1 y+one b y≤1)→(∀ y,O1 y+one b y≤Oa y+O y)→(∀ e∈zs,e.length=m)→
    w.heap[b]?=some (.cells c el (0,0))→off+cap*m≤c.size→fC w g.pm zs.flatten b off→(∀ o,g.pm b o→o<off+zs.length*m)→zs.length+ys.length≤4294967296→
    ∀ p:Bool,(p=true→∀ o,¬ g.pm b o)→
    mf P g w t O Oa st1 (.own p m (zs++ys)) ((Builtin.append_ #[t0,t1] ty #[.slice (some ⟨b,off,none⟩) zs.length cap,x]).run P w):=by
   intro st1 O1 zs b off cap c el s1 hO1 hO2 hlz hb hcap hrc hp hsum p hpp
   have hOb:O1 b=0:=by have:=hO1 b;rw[na]at this;omega
   by_cases hroom:zs.length+ys.length≤cap
   ·obtain⟨v,w',k1,k2,k3,k4,k5,g',k6,k7,k8⟩:=alH (ty:=ty) s1 hu hi hs hm hby hx hnew hlz hl2 hb hcap hrc hOb hp hy' hroom
    have hx1:∀ {g1:Gh},aE g w g1 w' (fun y=>y=b)→aE g w g1 w' (fun y=>Oa y≠0∨O y≠0):=fun h=>h.mono fun y _ e=>by
     have:=hO2 y;rw[e,na]at this;rw[e];omega
    cases p with
    | true=>exact⟨v,w',g,one b,O1,k1,k5 (hpp rfl),k2,hx1 k3,fun y=>by have:=hO1 y;omega,fun y _=>by have:=hO2 y;omega,fun y hy=>by rw[mz hy,k4];exact ba hb⟩
    | false=>exact⟨v,w',g',one b,O1,k1,k8,k7,hx1 k6,fun y=>by have:=hO1 y;omega,fun y _=>by have:=hO2 y;omega,fun y hy=>by rw[mz hy,k4];exact ba hb⟩
   ·obtain⟨olds,q1,q2,q3⟩:=fC.olds hlz hrc zs.length cap
    have:=Pj (Oa:=zero) (base:=some ⟨b,off,none⟩) (sCap:=cap) (ty:=ty) s1 hu hi hz hzs hs hm hby hx hnew hlz hl2 q1 q2 q3 hsum (by omega)
    have h2:=weak (fun y=>by have:=hO2 y;omega) this
    cases p with
    | true=>exact h2
    | false=>exact h2.firm
  split at h
  ·simp only[Option.some.injEq,Prod.mk.injEq]at h
   obtain⟨rfl,rfl⟩:=h
   simp only[RV]at ra
   obtain⟨rfl,_⟩:=ra
   cases ys with
   | nil=>exact empty s (fun b=>by omega) none rfl _ (by simp[RV])
   | cons y ys=>exact grows0 s (fun b=>by omega) none (by simp)
  ·rename_i p k zs
   split at h
   ·rename_i hk
    simp only[Bool.and_eq_true,Nat.beq_eq,Nat.ble_eq]at hk
    obtain⟨rfl,hsum⟩:=hk
    simp only[Option.some.injEq,Prod.mk.injEq]at h
    obtain⟨rfl,rfl⟩:=h
    simp only[RV]at ra
    rcases ra with ⟨rfl,_,ad,rfl⟩ | ⟨b,off,cap,c,el,rfl,hcap,_,hlz,hb,hsz,hrc,hpm,hp,rfl⟩
    ·by_cases h0:ys.length=0
     ·have:ys=[]:=List.eq_nil_of_length_eq_zero h0
      subst this
      exact empty s (fun b=>by omega) ad rfl _ (by simp only[RV,mY];exact .inl ⟨rfl,fun _=>trivial,ad,rfl⟩)
     ·exact(grows0 s (fun b=>by omega) ad h0).firm
    ·exact block s (fun y=>by have:=hle y;omega) (fun y=>by omega) hlz hb hsz hrc (fun o ho=>(hpm o ho).2) hsum false (fun h=>by simp at h)
   ·simp at h
  ·rename_i id off len
   split at h
   ·rename_i k zs hg
    split at h
    ·rename_i hk
     simp only[Bool.and_eq_true,Nat.beq_eq,Nat.ble_eq]at hk
     obtain⟨⟨rfl,hin⟩,hsum⟩:=hk
     simp only[Option.some.injEq,Prod.mk.injEq]at h
     obtain⟨rfl,rfl⟩:=h
     simp only[RV]at ra
     obtain⟨ra,hOa⟩:=ra
     obtain⟨Oe,Oh,re,rh,ho⟩:=s.parts
     obtain⟨O1,O2,q,r2,hsm⟩:=RL.take rh hg
     have hle2:∀ b,Oe b+O2 b≤O b:=fun b=>by have:=hsm b;have:=ho b;omega
     have s2:S P g w ⟨st.env,⟨del st.hs.heap id,st.hs.next⟩⟩ t (fun b=>Oe b+O2 b) :=
      ⟨s.se,s.sh.del id,⟨Oe,O2,re,r2,fun _=>rfl⟩,fun b=>Nat.le_trans (hle2 b) (s.le b),fun b hb=>s.hi b (by have:=hle2 b;omega),s.fresh,s.pmlt⟩
     have hsub:(Vm.sub zs off len).length=len:=eX hin
     have emp:len=0→∀ ad:Option Addr,mf P g w t O Oa ⟨st.env,⟨del st.hs.heap id,st.hs.next⟩⟩ (.own true k (Vm.sub zs off len++ys)) ((Builtin.append_ #[t0,t1] ty #[.slice ad 0 0,x]).run P w):=by
      intro h0 ad
      have:Vm.sub zs off len=[]:=List.eq_nil_of_length_eq_zero (by omega)
      rw[this,List.nil_append]
      by_cases h0:ys.length=0
      ·have:ys=[]:=List.eq_nil_of_length_eq_zero h0
       subst this
       exact empty s2 (fun b=>by have:=hle2 b;omega) ad rfl _ (by simp only[RV,mY];exact .inl ⟨by simp,fun _=>trivial,ad,rfl⟩)
      ·exact grows0 s2 (fun b=>by have:=hle2 b;omega) ad h0
     rcases ra with ⟨h0,ad,rfl⟩ | ⟨b,cap,hob,rfl,hlc,hcap⟩
     ·exact emp h0 ad
     ·simp only[bf]at q
      rcases q with ⟨rfl,g1,g2,g3,_⟩ | ⟨b',c,el,g1,g2,g3,g4,g5,g6,g7,g8,g9,g10⟩
      ·have hl0:len=0:=by simp at hin;omega
       have hc0:cap=0:=by
        rw[g1,g2]at hcap
        have:(off+cap)*k=0:=by omega
        rcases Nat.mul_eq_zero.1 this with h | h<;>omega
       rw[hl0,hc0]
       rw[hl0]at emp
       exact emp rfl _
      ·rw[hob]at g1
       simp only[Option.some.injEq]at g1
       subst g1
       rw[g2,Nat.add_mul]at hcap
       rw[g2]
       have:=block (zs:=Vm.sub zs off len) (off:=g.base id+off*k) (cap:=cap) s2 (fun y=>by have:=g10 y;have:=hsm y;have:=ho y;have:=s.le y;omega)
        (fun y=>by have:=g10 y;have:=hsm y;have:=ho y;omega) (yK g7 off len) g4 (by omega)
        (by rw[iE g7];exact g8.sub _ _) (fun o h=>absurd h (g9 o)) (by rw[hsub];exact hsum) true (fun _=>g9)
       rw[hsub]at this
       exact this
    ·simp at h
   ·simp at h
  ·simp at h
end
end Go.Vm
end
