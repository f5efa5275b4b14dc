import GoSem.Core.View
import GoSem.Core.Program
import GoSem.Core.Layout
import GoSem.Op.Equal
import Derived.Calls
import Derived.Laws.Sem
import Derived.Laws.World
import Derived.Laws.Cells
import Derived.Laws.Append
import Derived.Laws.Tables
import Derived.Laws.BytesString
set_option linter.unusedVariables false
set_option linter.unusedSimpArgs false
set_option linter.defProp false
set_option linter.unusedSectionVars false
noncomputable section
namespace Go.Vm
abbrev C_:=List Nat
abbrev G_:=List Int
abbrev V_:=List Bool
abbrev I_:=Option Nat
abbrev N_:=List Value
abbrev AG_:=List UInt8
abbrev BE_:=Array Bool
abbrev F_:=Array Value
abbrev BD_:=Option Bool
abbrev S_:=List (Nat×Nat)
abbrev K_:=List (List Int)
abbrev AD_:=List (List Nat)
abbrev R_:=List (List Bool)
abbrev BH_:=Option (Nat×Nat)
abbrev BC_:=Option (Nat->Nat)
abbrev P_:=List (Nat×List Nat)
abbrev AH_:=Option (List Nat×List Nat)
set_option maxHeartbeats 4000000
set_option maxRecDepth 100000
theorem o_ {p:Prop}(h:p:=by omega):p:=h
theorem s_ {p:Prop}(h:p:=by simp):p:=h
theorem u_ {p:Prop}(h:p:=by simp_all):p:=h
theorem k_ {p:Prop}(h:p:=by decide):p:=h
theorem d_ {p:Prop}(h:p:=by grind):p:=h
abbrev aa:=@if_neg
abbrev bZ:=@Nat.ble_eq_true_of_le
abbrev aB:=@Nat.beq_eq
abbrev aX:=@congrArg
inductive D where
 |int (k:IntKind) (n:Int)
 |bool (b:Bool)
 |str (s:AG_)
 |lst (xs:List (List D))
 deriving Inhabited
abbrev Y_:=List D
abbrev BF_:=Option D
abbrev E_:=List (Y_)
abbrev AE_:=Option (E_)
inductive AV where
 |junk
 |d (x:D)
 |nl
 |own (p:Bool) (m:Nat) (xs:E_)
 |gl (n:Nat)
 |agg (cs:List AV)
 |tup (vs:List AV)
 |nilp
 |ptr (id off:Nat)
 |pel (id i off:Nat)
 |pim (cs:Y_) (off:Nat)
 |sl (id off len:Nat)
 |fn (f:FuncId) (first caps:List AV)
 |nilf
 |yield (l:Nat)
 deriving Inhabited
abbrev D_:=List AV
abbrev M_:=Option AV
abbrev AV.int (k:IntKind)(n:Int):AV:=.d (.int k n)
abbrev AV.bool (b:Bool):AV:=.d (.bool b)
abbrev A_ (n:Int):AV:=.d (.int .i64 n)
abbrev B_ (b:Bool):AV:=.d (.bool b)
inductive Rd where
 |s (i:Nat)
 |m (i:Nat)
 |c (v:AV)
 deriving Inhabited
abbrev U_:=List Rd
abbrev AB_:=Option Rd
abbrev AC_:=List (Nat×Nat×Rd)
inductive oi where
 |mov (x:Rd)
 |pick (c a b:Rd)
 |alloc (zs:D_)
 |box (x:Rd)
 |build (zs:D_) (ps:AC_)
 |mks (m:Nat) (ps:U_)
 |mksv (m:Nat) (ps:U_)
 |ld (n:I_) (take:Nat) (p:Rd)
 |st (n:Nat) (p x:Rd)
 |nilck (x:Rd)
 |bin (op:BinOp) (x y:Rd)
 |binb (neg:Bool) (x y:Rd)
 |bina (neg:Bool) (ks:V_) (x y:Rd)
 |un (op:UnOp) (x:Rd)
 |conv (k:IntKind) (x:Rd)
 |toStr (x:Rd)
 |mkfn (f:FuncId) (first caps:U_)
 |mkslice (z:Y_) (len cap:Rd)
 |slice (m:Nat) (x:Rd) (lo hi mx:AB_)
 |slarr (n:Nat) (x:Rd) (lo hi mx:AB_)
 |fa (off:Nat) (p:Rd)
 |fld (off:Nat) (n:I_) (x:Rd)
 |ia (n:Nat) (x i:Rd)
 |iarr (len n:Nat) (p i:Rd)
 |ix (len n:Nat) (agg:Bool) (x i:Rd)
 |ixs (x i:Rd)
 |idxb (x c:Rd)
 |ext (j:Nat) (mv:Bool) (i:Nat)
 |len (x:Rd)
 |cap (x:Rd)
 |app (m:Nat) (x y:Rd)
 |appz (z:Y_) (x n:Rd)
 |cpy (m:Nat) (x y:Rd)
 |clr (z:Y_) (x:Rd)
 |minmax (isMax:Bool) (xs:U_)
 |call (f:FuncId) (args:U_)
 |calli (f:FuncId) (args:U_)
 |callv (f:Rd) (args:U_)
 |bad
 |kill (is:C_)
 |free (i:Nat)
 |wk (i m:Nat)
 |frz (i:Nat)
 |frzC (i:Nat) (offs:C_)
 deriving Inhabited
structure VI where
 dst:I_
 guard:Option (Nat×Bool)
 op:oi
 th:S_:=[]
 deriving Inhabited
abbrev T_:=List VI
inductive VC where
 |skip
 |reg (draw:Bool) (ops:T_)
 |regP (perm gco nr:C_) (ops:T_)
 |seq (a b:VC)
 |cond (c:Rd) (a b:VC)
 |block (id:Nat) (a:VC)
 |loop (a:VC)
 |rangeF (f:Rd) (params:C_) (assign body:VC)
 |exit (id:Nat)
 |scope (a:VC)
 |inScope (a cur:VC)
 |label (l:Nat)
 |goto (l:Nat)
 |ret
 |clone (m:Nat)
 |late (i d f:Nat) (a:VC)
 deriving Inhabited
inductive rU where
 |tmp (t:Nat)
 |cell (t:Nat) (n:I_)
 deriving Inhabited
abbrev BA_:=List rU
structure aj where
 nparams:Nat
 results:BA_
 body:VC
 deriving Inhabited
abbrev Z_:=Option aj
abbrev aV:=List (Nat×AV)
inductive cG where
 |normal
 |exit (id:Nat)
 |goto (l:Nat)
 |ret
 deriving Inhabited,DecidableEq
abbrev BG_:=Option cG
inductive Obj where
 |cells (cs:D_)
 |arr (m:Nat) (xs:E_)
 |loop (snap:aV) (params:C_) (assign body:VC) (busy:Bool) (pend:BG_)
 deriving Inhabited
abbrev am:=List (Nat×Obj)
abbrev AF_:=Option (AV×am)
structure HS where
 heap:am
 next:Nat
 deriving Inhabited
abbrev W_:=Option (AV×HS)
structure St where
 env:aV
 hs:HS
 deriving Inhabited
abbrev X_:=Option St
abbrev J_:=Option (cG×St)
abbrev L_:=Option (AV×St)
abbrev He (a b:Nat):Prop:=a<b
abbrev abG (a b:Nat):Prop:=a<=b
abbrev agN (a b:Nat):Bool:=Nat.ble a b
def aua {a b:Nat}(h:abG a b):agN a b=true:=u_
def awk {a b:Nat}(h:¬abG a b):agN a b=false:=by grind [Nat.ble_eq]
def aEZ {α:Type}:List (Nat×α)->Nat->Option α
 |[],_=>none
 |(k,v)::r,i=>match Nat.beq k i with
  |true=>some v
  |false=>aEZ r i
def get {α:Type}(l:List (Nat×α))(i:Nat):Option α :=
 List.rec (motive:=λ_=>Option α) none (λp _ ih=>Prod.rec (motive:=λ_=>Option α) (λk v=>Bool.rec (motive:=λ_=>Option α) ih (some v) (Nat.beq k i)) p) l
def aFP {α:Type}:List (Nat×α)->Nat->α->List (Nat×α)
 |[],i,x=>[(i,x)]
 |(k,v)::r,i,x=>match Nat.beq k i with
  |true=>(i,x)::r
  |false=>match agN i k with
   |true=>(i,x)::(k,v)::r
   |false=>(k,v)::aFP r i x
def put {α:Type}(l:List (Nat×α))(i:Nat)(x:α):List (Nat×α) :=
 List.rec (motive:=λ_=>List (Nat×α)) [(i,x)] (λp r ih=>Prod.rec (motive:=λ_=>List (Nat×α)) (λk v=>Bool.rec (motive:=λ_=>List (Nat×α)) (Bool.rec (motive:=λ_=>List (Nat×α)) ((k,v)::ih) ((i,x)::(k,v)::r) (agN i k)) ((i,x)::r) (Nat.beq k i)) p) l
def ayL {α:Type}:List (Nat×α)->Nat->List (Nat×α)
 |[],_=>[]
 |(k,v)::r,i=>match Nat.beq k i with
  |true=>ayL r i
  |false=>(k,v)::ayL r i
def del {α:Type}(l:List (Nat×α))(i:Nat):List (Nat×α) :=
 List.rec (motive:=λ_=>List (Nat×α)) [] (λp _ ih=>Prod.rec (motive:=λ_=>List (Nat×α)) (λk v=>Bool.rec (motive:=λ_=>List (Nat×α)) ((k,v)::ih) ih (Nat.beq k i)) p) l
section
variable {α:Type}
theorem AS (i:Nat):get ([]:List (Nat×α)) i=none:=rfl
theorem abI (i:Nat)(x:α):put [] i x=[(i,x)]:=rfl
theorem abF (i:Nat):del ([]:List (Nat×α)) i=[]:=rfl
def aGH {k i:Nat}(h:k=i):Nat.beq k i=true:=u_
def aiw {k i:Nat}(h:¬k=i):Nat.beq k i=false:=by grind [Nat.beq_eq]
theorem iU (k:Nat)(v:α)(r:List (Nat×α))(i:Nat):get ((k,v)::r) i=if k=i then some v else get r i:=by
 show Bool.rec (motive:=λ_=>Option α) (get r i) (some v) (Nat.beq k i)=_;by_cases h:k=i
 all_goals simp_all [aiw]
theorem ov (k:Nat)(v:α)(r:List (Nat×α))(i:Nat):del ((k,v)::r) i=if k=i then del r i else (k,v)::del r i:=by
 show Bool.rec (motive:=λ_=>List (Nat×α)) ((k,v)::del r i) (del r i) (Nat.beq k i)=_;by_cases h:k=i
 all_goals simp_all [aiw]
theorem wn (k:Nat)(v:α)(r:List (Nat×α))(i:Nat)(x:α) :
  put ((k,v)::r) i x=if k=i then (i,x)::r else if abG i k then (i,x)::(k,v)::r else (k,v)::put r i x:=by
 show Bool.rec (motive:=λ_=>List (Nat×α)) (Bool.rec (motive:=λ_=>List (Nat×α)) ((k,v)::put r i x) ((i,x)::(k,v)::r) (agN i k)) ((i,x)::r) (Nat.beq k i)=_;by_cases h:k=i
 .simp_all
 .rw[aa h,aiw h];by_cases h2:abG i k
  all_goals simp_all [aua,awk]
end
mutual
def arE:AV->AV
 |.own p _ xs=>match p with
  |false=>.d (.lst xs)
  |true=>.junk
 |.agg cs=>.agg (shareAll cs)
 |.tup cs=>.tup (shareAll cs)
 |v=>v
def shareAll:D_->D_
 |[]=>[]
 |v::r=>arE v::shareAll r
end
def share (v:AV):AV:=AV.casesOn (motive_1:=λ_=>AV) v .junk (λx=>.d x) .nl (λp _ xs=>Bool.casesOn (motive:=λ_=>AV) p (.d (.lst xs)) .junk) (λn=>.gl n) (λcs=>.agg (shareAll cs)) (λcs=>.tup (shareAll cs))
 .nilp (λa b=>.ptr a b) (λa b c=>.pel a b c) (λa b=>.pim a b) (λa b c=>.sl a b c) (λa b c=>.fn a b c) .nilf (λa=>.yield a)
theorem arh (v:AV):arE v=share v:=by
 cases v<;>try rfl
 rename_i p _ _
 cases p<;>rfl
def af5:shareAll []=[]:=rfl
def pw (v:AV)(r:D_):shareAll (v::r)=share v::shareAll r:=by grind [shareAll,arh]
def rd (e:aV):Rd->Option (AV×aV)
 |.c v=>some (v,e)
 |.m i=>match get e i with
  |some v=>some (v,del e i)
  |none=>none
 |.s i=>match get e i with
  |some v=>some (share v,e)
  |none=>none
def rdAll (e:aV):U_->Option (D_×aV)
 |[]=>some ([],e)
 |x::r=>match rd e x with
  |none=>none
  |some (v,e)=>match rdAll e r with
   |none=>none
   |some (vs,e)=>some (v::vs,e)
def rdOpt (e:aV):AB_->Option (M_×aV)
 |none=>some (none,e)
 |some x=>match rd e x with
  |some (v,e)=>some (some v,e)
  |none=>none
def sub {α:Type}(xs:List α)(off len:Nat):List α:=(xs.drop off).take len
def aG {α:Type}(cs:List α)(off:Nat)(vs:List α):List α:=cs.take off++vs++cs.drop (off+vs.length)
def L7:Y_->E_
 |[]=>[]
 |x::r=>[x]::L7 r
def toD:AV->BF_
 |.d x=>some x
 |.nl=>some (.lst [])
 |.own false _ xs=>some (.lst xs)
 |_=>none
def me:D_->Option Y_
 |[]=>some []
 |v::r=>match toD v with
  |some x=>match me r with
   |some xs=>some (x::xs)
   |none=>none
  |none=>none
def AV.cells:AV->D_
 |.agg cs=>cs
 |v=>[v]
def objElems (h:am)(id:Nat):AE_ :=
 match get h id with
 |some (.arr _ xs)=>some xs
 |some (.cells cs)=>match me cs with
  |some ds=>some (L7 ds)
  |none=>none
 |_=>none
def elems (h:am):AV->AE_
 |.d (.lst xs)=>some xs
 |.nl=>some []
 |.own false _ xs=>some xs
 |.sl id off len=>match objElems h id with
  |some xs=>match Nat.ble (off+len) xs.length with
   |true=>some (sub xs off len)
   |false=>none
  |none=>none
 |_=>none
def lenOf:AV->I_
 |.d (.lst xs)=>some xs.length
 |.nl=>some 0
 |.own _ _ xs=>some xs.length
 |.gl n=>some n
 |.sl _ _ len=>some len
 |_=>none
def viewOne (h:am):AV->M_
 |.d x=>some (.d x)
 |.nl=>some .nl
 |.own false _ xs=>some (.d (.lst xs))
 |.sl id off len=>match elems h (.sl id off len) with
  |some xs=>some (.d (.lst xs))
  |none=>none
 |_=>none
def viewAll (h:am):D_->Option D_
 |[]=>some []
 |v::r=>match viewOne h v with
  |none=>none
  |some x=>match viewAll h r with
   |none=>none
   |some xs=>some (x::xs)
def viewArg (h:am):AV->M_
 |.agg cs=>match viewAll h cs with
  |some xs=>some (.agg xs)
  |none=>none
 |v=>viewOne h v
def viewArgs (h:am):D_->Option D_
 |[]=>some []
 |v::r=>match viewArg h v with
  |none=>none
  |some x=>match viewArgs h r with
   |none=>none
   |some xs=>some (x::xs)
def vg:AV->Bool
 |.sl ..=>true
 |_=>false
def tz:AV->Bool
 |.agg cs=>cs.any vg
 |v=>vg v
def jF (h:am):AV->AF_
 |.d x=>some (.d x,h)
 |.nl=>some (.nl,h)
 |.own p m xs=>some (.own p m xs,h)
 |.sl id off len=>match get h id with
  |some (.arr m xs)=>match Nat.ble (off+len) xs.length with
   |true=>some (.own true m (sub xs off len),del h id)
   |false=>none
  |_=>none
 |_=>none
def sO (h:am):D_->Option (D_×am)
 |[]=>some ([],h)
 |v::r=>match jF h v with
  |none=>none
  |some (x,h)=>match sO h r with
   |none=>none
   |some (xs,h)=>some (x::xs,h)
def fU (h:am):AV->AF_
 |.agg cs=>match sO h cs with
  |some (xs,h)=>some (.agg xs,h)
  |none=>none
 |v=>jF h v
def rH (h:am):D_->Option (D_×am)
 |[]=>some ([],h)
 |v::r=>match fU h v with
  |none=>none
  |some (x,h)=>match rH h r with
   |none=>none
   |some (xs,h)=>some (x::xs,h)
def lL:D->Bool
 |.lst _=>false
 |_=>true
def jg:AV->Bool
 |.d x=>lL x
 |.own _ _ xs=>xs.all λe=>e.all lL
 |_=>true
def kU:AV->Bool
 |.agg cs=>cs.all jg
 |v=>jg v
def jB:AV->Bool
 |.tup vs=>vs.all kU
 |v=>kU v
def mT:AV->AV
 |.own _ m xs=>.own true m xs
 |v=>v
def pE:AV->AV
 |.agg cs=>.agg (cs.map mT)
 |v=>mT v
def pW:AV->AV
 |.tup vs=>.tup (vs.map pE)
 |v=>pE v
def iK (v:AV):AV :=
 match jB v with
 |true=>pW v
 |false=>v
def gS (h:am):AV->M_
 |.tup vs=>match rH h vs with
  |some (xs,_)=>some (iK (.tup xs))
  |none=>none
 |v=>match fU h v with
  |some (x,_)=>some (iK x)
  |none=>none
def og (n:I_)(cs:Y_)(off:Nat):M_ :=
 match n with
 |none=>match cs[off]? with
  |some x=>some (.d x)
  |none=>none
 |some n=>match Nat.ble (off+n) cs.length with
  |true=>some (.agg ((sub cs off n).map .d))
  |false=>none
def rl (t:Nat)(v:AV):AV×AV :=
 match t with
 |1=>(v,.junk)
 |2=>(v,share v)
 |3=>(v,match v with|.own _ _ xs=>.gl xs.length|v=>share v)
 |_=>(share v,v)
def fN (t:Nat):D_->D_×D_
 |[]=>([],[])
 |v::r=>((rl t v).1::(fN t r).1,(rl t v).2::(fN t r).2)
def loadAt (h:am)(n:I_)(take:Nat):AV->AF_
 |.ptr id off=>match get h id with
  |some (.cells cs)=>match n with
   |none=>match cs[off]? with
    |none=>none
    |some v=>match take with
     |0=>some (share v,h)
     |t=>some ((rl t v).1,put h id (.cells (cs.set off (rl t v).2)))
   |some n=>match Nat.ble (off+n) cs.length with
    |true=>match take with
     |0=>some (.agg (shareAll (sub cs off n)),h)
     |t=>some (.agg (fN t (sub cs off n)).1,put h id (.cells (aG cs off (fN t (sub cs off n)).2)))
    |false=>none
  |_=>none
 |.pel id i off=>match get h id with
  |some (.arr _ xs)=>match xs[i]? with
   |some x=>match og n x off with
    |some v=>some (v,h)
    |none=>none
   |none=>none
  |_=>none
 |.pim cs off=>match og n cs off with
  |some v=>some (v,h)
  |none=>none
 |_=>none
def bq:AV->Bool
 |.junk|.agg _|.tup _=>false
 |.own p _ _=>!p
 |_=>true
def storeAt (h:am)(n:Nat)(p x:AV):Option am :=
 match Nat.beq x.cells.length n with
 |false=>none
 |true=>match p with
  |.ptr id off=>match get h id with
   |some (.cells cs)=>match Nat.ble (off+n) cs.length && x.cells.all bq with
    |true=>some (put h id (.cells (aG cs off x.cells)))
    |false=>none
   |_=>none
  |.pel id i off=>match me x.cells with
   |none=>none
   |some ds=>match get h id with
    |some (.arr m xs)=>match xs[i]? with
     |some e=>match Nat.ble (off+n) e.length with
      |true=>some (put h id (.arr m (xs.set i (aG e off ds))))
      |false=>none
     |none=>none
    |_=>none
  |_=>none
def iy (off:Nat):AV->M_
 |.ptr id o=>some (.ptr id (o+off))
 |.pel id i o=>some (.pel id i (o+off))
 |.pim cs o=>some (.pim cs (o+off))
 |_=>none
def ot (lo hi:Int)(k:IntKind)(n:Int):Int :=
 match decide (lo<=n) && decide (n<=hi) with
 |true=>n
 |false=>k.wrap n
def wr (k:IntKind)(n:Int):Int :=
 match k with
 |.i64=>ot (-9223372036854775808) 9223372036854775807 k n
 |.u8=>ot 0 255 k n
 |.u64=>ot 0 18446744073709551615 k n
 |.u16=>ot 0 65535 k n
 |.u32=>ot 0 4294967295 k n
 |k=>k.wrap n
def H4 (op:BinOp)(k:IntKind)(x y:Int):BF_ :=
 match decide (y<0) with
 |true=>none
 |false=>match op with
  |.shl=>some (.int k (wr k (x*((2 ^ (min y.toNat k.bits):Nat):Int))))
  |.shr=>some (.int k (x.fdiv ((2 ^ (min y.toNat k.bits):Nat):Int)))
  |_=>none
def F3 (op:BinOp)(k:IntKind)(x y:Int):BF_ :=
 let slow (f:BitVec k.bits->BitVec k.bits->BitVec k.bits):BF_:=some (.int k (k.wrap (f (BitVec.ofInt k.bits x) (BitVec.ofInt k.bits y)).toNat))
 match op with
 |.and=>slow (·&&& ·)
 |.or=>slow (·|||·)
 |.xor=>slow (·^^^ ·)
 |.andNot=>slow λa b=>a &&& ~~~b
 |_=>none
def jq (op:BinOp)(k:IntKind)(x y:Int):BF_ :=
 match op with
 |.add=>some (.int k (wr k (x+y)))
 |.sub=>some (.int k (wr k (x-y)))
 |.mul=>some (.int k (wr k (x*y)))
 |.quo=>match decide (y=0) with
  |true=>none
  |false=>some (.int k (wr k (x.tdiv y)))
 |.rem=>match decide (y=0) with
  |true=>none
  |false=>some (.int k (x.tmod y))
 |.eql=>some (.bool (decide (x=y)))
 |.neq=>some (.bool (!decide (x=y)))
 |.lss=>some (.bool (decide (x<y)))
 |.leq=>some (.bool (decide (x<=y)))
 |.gtr=>some (.bool (decide (y<x)))
 |.geq=>some (.bool (decide (y<=x)))
 |.shl=>none
 |.shr=>none
 |op=>F3 op k x y
def l8:IntKind->IntKind->Bool
 |.i8,.i8|.i16,.i16|.i32,.i32|.i64,.i64|.u8,.u8|.u16,.u16|.u32,.u32|.u64,.u64=>true
 |_,_=>false
def bv:V_->D_->D_->BD_
 |[],[],[]=>some true
 |true::ks,.d (.int k a)::r,.d (.int j b)::s=>match l8 k j with
  |true=>match decide (a=b) with
   |true=>bv ks r s
   |false=>some false
  |false=>none
 |false::ks,.d (.bool a)::r,.d (.bool b)::s=>match a == b with
  |true=>bv ks r s
  |false=>some false
 |_,_,_=>none
def v8 (op:BinOp)(k:IntKind)(a:Int)(j:IntKind)(b:Int):BF_ :=
 match op with
 |.shl=>H4 .shl k a b
 |.shr=>H4 .shr k a b
 |op=>match l8 k j with
  |true=>jq op k a b
  |false=>none
def dw (op:BinOp):AV->AV->M_
 |.d (.int k a),.d (.int j b)=>match v8 op k a j b with
  |some x=>some (.d x)
  |none=>none
 |.d (.str a),.d (.str b)=>match op with
  |.eql=>some (.bool (a == b))
  |.neq=>some (.bool (!(a == b)))
  |.add=>match Nat.ble (a.length+b.length) 4294967296 with
   |true=>some (.d (.str (a++b)))
   |false=>none
  |_=>none
 |_,_=>none
def aum (a b:Int):Int:=Int.casesOn (motive:=λ_=>Int->Int) a (λm b=>Int.casesOn (motive:=λ_=>Int) b (λn=>.ofNat (Nat.add m n)) (λn=>Int.subNatNat m (Nat.succ n)))
 (λm b=>Int.casesOn (motive:=λ_=>Int) b (λn=>Int.subNatNat n (Nat.succ m)) (λn=>.negSucc (Nat.succ (Nat.add m n)))) b
def asT (a b:Int):Int:=Int.casesOn (motive:=λ_=>Int->Int) a (λm b=>Int.casesOn (motive:=λ_=>Int) b (λn=>Bool.casesOn (motive:=λ_=>Int) (Nat.ble n m) (Int.ofNat m-Int.ofNat n) (.ofNat (Nat.sub m n))) (λn=>.ofNat (Nat.add m (Nat.succ n))))
 (λm b=>Int.negSucc m-b) b
def asd (a b:Int):Int:=Int.casesOn (motive:=λ_=>Int->Int) a (λm b=>Int.casesOn (motive:=λ_=>Int) b (λn=>.ofNat (Nat.mul m n)) (λn=>Int.ofNat m*Int.negSucc n))
 (λm b=>Int.negSucc m*b) b
def Zi (a b:Int):Bool:=Int.casesOn (motive:=λ_=>Int->Bool) a (λm b=>Int.casesOn (motive:=λ_=>Bool) b (λn=>Nat.ble m n) (λ_=>false))
 (λm b=>Int.casesOn (motive:=λ_=>Bool) b (λ_=>true) (λn=>Nat.ble n m)) b
def ieq (a b:Int):Bool:=Int.casesOn (motive:=λ_=>Int->Bool) a (λm b=>Int.casesOn (motive:=λ_=>Bool) b (λn=>Nat.beq m n) (λ_=>false))
 (λm b=>Int.casesOn (motive:=λ_=>Bool) b (λ_=>false) (λn=>Nat.beq m n)) b
def hiN (k:IntKind):Nat:=IntKind.casesOn (motive:=λ_=>Nat) k 127 32767 2147483647 9223372036854775807 255 65535 4294967295 18446744073709551615
def loN (k:IntKind):Nat:=IntKind.casesOn (motive:=λ_=>Nat) k 128 32768 2147483648 9223372036854775808 0 0 0 0
def knN (k:IntKind):Nat:=IntKind.casesOn (motive:=λ_=>Nat) k 0 1 2 3 4 5 6 7
def wq (n:Int)(k:IntKind):D:=Int.casesOn (motive:=λ_=>D) n (λm=>Bool.casesOn (motive:=λ_=>D) (Nat.ble m (hiN k)) (.int k (k.wrap (.ofNat m))) (.int k (.ofNat m)))
 (λm=>Bool.casesOn (motive:=λ_=>D) (Nat.ble (Nat.succ m) (loN k)) (.int k (k.wrap (.negSucc m))) (.int k (.negSucc m)))
abbrev BF:=BinOp->IntKind->Int->Int->M_
def KN:BF:=λop k a b=>dw op (.d (.int k a)) (.d (.int k b))
def aEx:BF:=λ_ k a b=>some (.d (wq (aum a b) k))
def aDS:BF:=λ_ k a b=>some (.d (wq (asT a b) k))
def aEb:BF:=λ_ k a b=>some (.d (wq (asd a b) k))
def aEJ:BF:=λ_ _ a b=>some (B_ (ieq a b))
def aDZ:BF:=λ_ _ a b=>some (B_ (Bool.casesOn (motive:=λ_=>Bool) (ieq a b) true false))
def aEi:BF:=λ_ _ a b=>some (B_ (Bool.casesOn (motive:=λ_=>Bool) (Zi b a) true false))
def aEa:BF:=λ_ _ a b=>some (B_ (Zi a b))
def aEz:BF:=λ_ _ a b=>some (B_ (Bool.casesOn (motive:=λ_=>Bool) (Zi a b) true false))
def aEQ:BF:=λ_ _ a b=>some (B_ (Zi b a))
def at3 (op:BinOp):BF:=BinOp.casesOn (motive:=λ_=>BF) op aEx aDS aEb KN KN KN KN KN KN KN KN aEJ aDZ aEi aEa aEz aEQ
def aFL (k:IntKind)(a:Int)(op:BinOp)(y:D):M_:=D.casesOn (motive_1:=λ_=>IntKind->Int->BinOp->M_) y
 (λj b k a op=>Bool.casesOn (motive:=λ_=>M_) (Nat.beq (knN k) (knN j)) (dw op (.d (.int k a)) (.d (.int j b))) (at3 op op k a b))
 (λ_ _ _ _=>none) (λ_ _ _ _=>none) (λ_ _ _ _=>none) k a op
def aBC (x:D)(op:BinOp)(y:AV):M_:=D.casesOn (motive_1:=λ_=>BinOp->AV->M_) x
 (λk a op y=>AV.casesOn (motive_1:=λ_=>IntKind->Int->BinOp->M_) y (λ_ _ _=>none) (λd k a op=>aFL k a op d) (λ_ _ _=>none) (λ_ _ _ _ _ _=>none) (λ_ _ _ _=>none) (λ_ _ _ _=>none) (λ_ _ _ _=>none) (λ_ _ _=>none) (λ_ _ _ _ _=>none) (λ_ _ _ _ _ _=>none) (λ_ _ _ _ _=>none) (λ_ _ _ _ _ _=>none) (λ_ _ _ _ _ _=>none) (λ_ _ _=>none) (λ_ _ _ _=>none) k a op)
 (λb op y=>dw op (B_ b) y) (λs op y=>dw op (.d (.str s)) y) (λxs op y=>dw op (.d (.lst xs)) y) op y
def azF (op:BinOp)(x y:AV):M_:=AV.casesOn (motive_1:=λ_=>BinOp->AV->M_) x (λ_ _=>none) (λd op y=>aBC d op y) (λ_ _=>none) (λ_ _ _ _ _=>none) (λ_ _ _=>none) (λ_ _ _=>none) (λ_ _ _=>none) (λ_ _=>none) (λ_ _ _ _=>none) (λ_ _ _ _ _=>none) (λ_ _ _ _=>none) (λ_ _ _ _ _=>none) (λ_ _ _ _ _=>none) (λ_ _=>none) (λ_ _ _=>none) op y
def amG (k j:IntKind):Nat.beq (knN k) (knN j)=l8 k j:=by cases k<;>cases j<;>rfl
theorem awp (a b:Int):aum a b=a+b:=by cases a<;>cases b<;>rfl
theorem awh (a b:Int):asT a b=a-b:=by
 cases a with
 |ofNat m =>
  cases b with
  |ofNat n =>
   show Bool.casesOn (motive:=λ_=>Int) (Nat.ble n m) (Int.ofNat m-Int.ofNat n) (.ofNat (Nat.sub m n))=_;by_cases h:n<=m
   .rw[bZ h]
    grind
   .rw[show Nat.ble n m=false by grind [Nat.ble_eq]]
  |negSucc n=>rfl
 |negSucc m=>rfl
theorem awn (a b:Int):asd a b=a*b:=by cases a<;>cases b<;>rfl
theorem X5 (a b:Int):Zi a b=decide (a<=b):=by
 cases a with
 |ofNat m =>
  cases b with
  |ofNat n =>
   show Nat.ble m n=_
   grind [Nat.ble_eq]
  |negSucc n =>
   show false=_
   grind
 |negSucc m =>
  cases b with
  |ofNat n =>
   show true=_
   grind
  |negSucc n =>
   show Nat.ble n m=_
   grind [Nat.ble_eq]
theorem aq5 (a b:Int):ieq a b=decide (a=b):=by
 cases a with
 |ofNat m =>
  cases b with
  |ofNat n =>
   show Nat.beq m n=_
   grind [Nat.beq_eq]
  |negSucc n =>
   show false=_
   simp_all
 |negSucc m =>
  cases b with
  |ofNat n =>
   show false=_
   simp_all
  |negSucc n =>
   show Nat.beq m n=_
   grind [Nat.beq_eq]
theorem RP {k:IntKind}{n:Int}(h:-(loN k:Int)<=n)(h2:n<=hiN k):k.wrap n=n:=by
 cases k<;>simp only[loN,hiN]at h h2<;>simp only[IntKind.wrap,IntKind.bits,IntKind.signed]<;>simp<;>omega
def abS (k:IntKind)(n:Int):wr k n=k.wrap n:=by
 have H:∀lo hi:Int,(lo<=n->n<=hi->k.wrap n=n)->ot lo hi k n=k.wrap n:=by
  grind [ot]
 cases k<;>simp only[wr]
 all_goals grind [RP,loN,hiN]
theorem anL (k:IntKind)(n:Int):wq n k=.int k (wr k n):=by
 rw[abS]
 cases n with
 |ofNat m =>
  show Bool.casesOn (motive:=λ_=>D) (Nat.ble m (hiN k)) (.int k (k.wrap (.ofNat m))) (.int k (.ofNat m))=_;by_cases h:m<=hiN k
  .simp_all [bZ,RP]
  .rw[show Nat.ble m (hiN k)=false by grind [Nat.ble_eq]]
 |negSucc m =>
  show Bool.casesOn (motive:=λ_=>D) (Nat.ble (Nat.succ m) (loN k)) (.int k (k.wrap (.negSucc m))) (.int k (.negSucc m))=_;by_cases h:m+1<=loN k
  .rw[bZ h,RP]
   all_goals omega
  .rw[show Nat.ble (Nat.succ m) (loN k)=false by grind [Nat.ble_eq]]
theorem aud (b:Bool):Bool.casesOn (motive:=λ_=>Bool) b true false=!b:=by cases b<;>rfl
theorem qi (k:IntKind):l8 k k=true:=by cases k<;>rfl
theorem axj (op:BinOp)(k:IntKind)(a b:Int):at3 op op k a b=dw op (.d (.int k a)) (.d (.int k b)):=by
 cases op
 case add=>show some (AV.d (wq (aum a b) k))=_;grind [anL,awp,dw,v8,qi,jq]
 case sub=>show some (AV.d (wq (asT a b) k))=_;grind [anL,awh,dw,v8,qi,jq]
 case mul=>show some (AV.d (wq (asd a b) k))=_;grind [anL,awn,dw,v8,qi,jq]
 case eql=>show some (AV.d (.bool (ieq a b)))=_;grind [aq5,dw,v8,qi,jq]
 case neq=>show some (AV.d (.bool (Bool.casesOn (motive:=λ_=>Bool) (ieq a b) true false)))=_;grind [aud,aq5,dw,v8,qi,jq]
 case lss=>show some (AV.d (.bool (Bool.casesOn (motive:=λ_=>Bool) (Zi b a) true false)))=_;grind [aud,X5,dw,v8,qi,jq]
 case leq=>show some (AV.d (.bool (Zi a b)))=_;grind [X5,dw,v8,qi,jq]
 case gtr=>show some (AV.d (.bool (Bool.casesOn (motive:=λ_=>Bool) (Zi a b) true false)))=_;grind [aud,X5,dw,v8,qi,jq]
 case geq=>show some (AV.d (.bool (Zi b a)))=_;grind [X5,dw,v8,qi,jq]
 all_goals rfl
theorem Ui (op:BinOp)(x y:AV):azF op x y=dw op x y:=by
 cases x<;>try rfl
 rename_i d
 cases d<;>try rfl
 rename_i k a
 cases y<;>try rfl
 rename_i e
 cases e<;>try rfl
 rename_i j b;show Bool.casesOn (motive:=λ_=>M_) (Nat.beq (knN k) (knN j)) (dw op (.d (.int k a)) (.d (.int j b))) (at3 op op k a b)=_;rw[amG]
 cases h:l8 k j with
 |false=>rfl
 |true =>
  have:k=j:=by revert h;cases k<;>cases j<;>simp[l8]
  grind [axj]
def abZ (op:UnOp):AV->M_
 |.d (.int k n)=>match op with
  |.neg=>some (.int k (wr k (0-n)))
  |.xor=>match F3 .xor k (if k.signed then -1 else k.max) n with
   |some x=>some (.d x)
   |none=>none
  |_=>none
 |.d (.bool b)=>match op with
  |.not=>some (.bool !b)
  |_=>none
 |_=>none
def DJ (isMax:Bool):AV->AV->M_
 |.d (.int k a),.d (.int j b)=>match l8 k j with
  |true=>match (if isMax then decide (a<b) else decide (b<a)) with
   |true=>some (.int k b)
   |false=>some (.int k a)
  |false=>none
 |_,_=>none
def BM (isMax:Bool):AV->D_->M_
 |v,[]=>some v
 |v,x::r=>match DJ isMax v x with
  |some v=>BM isMax v r
  |none=>none
def aU:Nat:=4294967296
def dW (v:AV)(top:Nat):I_ :=
 match v with
 |.d (.int _ (.ofNat n))=>match Nat.ble n top with
  |true=>some n
  |false=>none
 |_=>none
def vI (lo:M_)(h m:Nat):Option (Nat×Nat×Nat) :=
 match lo with
 |none=>some (0,h,m)
 |some v=>match dW v h with
  |some l=>some (l,h,m)
  |none=>none
def xg (len:Nat)(lo hi mx:M_):Option (Nat×Nat×Nat) :=
 let m:I_:=match mx with
  |none=>some len
  |some v=>dW v len
 match m with
 |none=>none
 |some m =>
  let h:I_:=match hi with
   |none=>match mx with
    |none=>some len
    |some _=>none
   |some v=>dW v m
  match h with
  |none=>none
  |some h=>vI lo h m
def FN (m:Nat):E_->Bool
 |[]=>true
 |e::_=>Nat.beq e.length m
def okSl (h:am)(m:Nat):AV->Bool
 |.sl id _ _=>match get h id with
  |some (.arr k _)=>Nat.beq k m
  |some (.cells _)=>Nat.beq m 1
  |_=>false
 |_=>true
def uU (m:Nat)(x:AV)(lo hi mx:M_):M_ :=
 match lenOf x with
 |none=>none
 |some len=>match xg len lo hi mx with
  |none=>none
  |some (l,h,_)=>match x with
   |.d (.lst xs)=>match FN m xs with
    |true=>some (.d (.lst (sub xs l (h-l))))
    |false=>none
   |.nl=>some .nl
   |.own false k xs=>match Nat.beq k m with
    |true=>match Nat.beq h len with
     |true=>some (.own false k (sub xs l (h-l)))
     |false=>some (.d (.lst (sub xs l (h-l))))
    |false=>none
   |.sl id off _=>some (.sl id (off+l) (h-l))
   |_=>none
def Fq:AV->Bool
 |.agg _=>true
 |v=>bq v
def dY:D_->List (Nat×Nat×AV)->Option D_
 |cs,[]=>some cs
 |cs,(off,n,v)::r=>match Nat.beq v.cells.length n && Fq v && Nat.ble (off+n) cs.length with
  |true=>dY (aG cs off v.cells) r
  |false=>none
def tA:AC_->D_->List (Nat×Nat×AV)
 |(a,b,_)::r,v::s=>(a,b,v)::tA r s
 |_,_=>[]
def pr:AC_->U_
 |[]=>[]
 |(_,_,x)::r=>x::pr r
def jJ (m:Nat):D_->AE_
 |[]=>some []
 |v::r=>match Nat.beq v.cells.length m with
  |true=>match me v.cells with
   |some e=>match jJ m r with
    |some es=>some (e::es)
    |none=>none
   |none=>none
  |false=>none
def fW (n:Nat):E_->Bool
 |[]=>true
 |e::r=>match Nat.beq e.length n with
  |true=>fW n r
  |false=>false
def uQ:E_->Option AG_
 |[]=>some []
 |[.int .u8 (.ofNat n)]::r=>match uQ r with
  |some s=>some (n.toUInt8::s)
  |none=>none
 |_=>none
def Kc:AG_->Nat->Nat->Int
 |[],_,_=>-1
 |b::l,c,i=>match Nat.beq b.toNat c with
  |true=>.ofNat i
  |false=>Kc l c (i+1)
def indexByte (c:Int)(xs:E_)(i:Nat):Option Int :=
 match uQ xs with
 |some s=>some (Kc s (c.toNat % 256) i)
 |none=>none
structure dC where
 code:VC->St->J_
 call:FuncId->D_->HS->W_
def Ya (v:AV):AV:=match jg v with
 |true=>mT v
 |false=>match lenOf v with
  |some n=>.gl n
  |none=>.junk
def Og:AV->AV
 |.agg cs=>.agg (cs.map Ya)
 |v=>Ya v
def PM:AV->AV
 |.tup vs=>.tup (vs.map Og)
 |v=>Og v
def eJ (r:dC)(f:FuncId)(args:D_)(h:am):M_ :=
 match viewArgs h args with
 |none=>none
 |some ds=>match r.call f ds ⟨[],0⟩ with
  |none=>none
  |some (v,hs)=>match gS hs.heap v with
   |none=>none
   |some v=>match args.any tz with
    |false=>some v
    |true=>match jB v with
     |true=>some v
     |false=>some (PM v)
def wN:aV->C_->D_->Option aV
 |e,[],[]=>some e
 |e,i::is,v::vs=>wN (put e i v) is vs
 |_,_,_=>none
def uN (r:dC)(l:Nat)(args:D_)(hs:HS):W_ :=
 match get hs.heap l with
 |some (.loop snap params assign body false none) =>
  match wN snap params args with
  |none=>none
  |some e=>match r.code assign ⟨e,hs⟩ with
   |some (.normal,st)=>match get st.hs.heap l with
    |some (.loop snap params assign body2 false none) =>
     match r.code body ⟨st.env,⟨put st.hs.heap l (.loop snap params assign body2 true none),st.hs.next⟩⟩ with
     |none=>none
     |some (o,st)=>match get st.hs.heap l with
      |some (.loop snap params assign body true none) =>
       match o with
       |.normal=>some (.bool true,⟨put st.hs.heap l (.loop snap params assign body false none),st.hs.next⟩)
       |o=>some (.bool false,⟨put st.hs.heap l (.loop snap params assign body false (some o)),st.hs.next⟩)
      |_=>none
    |_=>none
   |_=>none
 |_=>none
def cq (r:dC)(f:AV)(args:D_)(hs:HS):W_ :=
 match f with
 |.fn g first caps=>r.call g (first++(args++caps)) hs
 |.yield l=>uN r l args hs
 |_=>none
def Jm (hs:HS)(o:Obj):Nat×HS:=(hs.next,⟨put hs.heap hs.next o,hs.next+1⟩)
def nR (hs:HS):AV->AV×HS
 |.own true m xs=>match Nat.beq m 0 with
  |true=>(.own true m xs,hs)
  |false=>(.sl hs.next 0 xs.length,⟨put hs.heap hs.next (.arr m xs),hs.next+1⟩)
 |v=>(v,hs)
def nu:AV->AV
 |.own _ m xs=>.own false m xs
 |v=>v
def BQ:AV->AV
 |.agg cs=>.agg (cs.map nu)
 |v=>nu v
def firm (v:AV):AV:=AV.casesOn (motive_1:=λ_=>AV) v .junk (λx=>.d x) .nl (λ_ m xs=>.own false m xs) (λn=>.gl n) (λcs=>.agg (cs.map nu)) (λvs=>.tup (vs.map BQ))
 .nilp (λa b=>.ptr a b) (λa b c=>.pel a b c) (λa b=>.pim a b) (λa b c=>.sl a b c) (λa b c=>.fn a b c) .nilf (λa=>.yield a)
def mz (hs:HS)(o:Nat):AV->AV×HS
 |.agg cs=>match cs[o]? with
  |some v=>(.agg (cs.set o (nR hs v).1),(nR hs v).2)
  |none=>(.agg cs,hs)
 |v=>nR hs v
def qy (hs:HS)(p:Nat×Nat):AV->AV×HS
 |.tup vs=>match vs[p.1]? with
  |some v=>(.tup (vs.set p.1 (mz hs p.2 v).1),(mz hs p.2 v).2)
  |none=>(.tup vs,hs)
 |v=>mz hs p.2 v
def dS:S_->AV->HS->AV×HS
 |[],v,hs=>(v,hs)
 |p::r,v,hs=>dS r (qy hs p v).1 (qy hs p v).2
def zx (h:am):AV->AV×am
 |.sl id off len=>match get h id with
  |some (.arr m xs)=>match Nat.ble (off+len) xs.length with
   |true=>(.own false m (sub xs off len),del h id)
   |false=>(.sl id off len,h)
  |_=>(.sl id off len,h)
 |v=>(v,h)
def ww:C_->D_->am->D_×am
 |[],cs,h=>(cs,h)
 |o::r,cs,h=>match cs[o]? with
  |some v=>ww r (cs.set o (zx h v).1) (zx h v).2
  |none=>ww r cs h
def dX (m:Nat)(h:am)(a:AV)(ys:E_):AF_ :=
 match Nat.ble ys.length aU with
 |false=>none
 |true=>match a with
  |.nl=>some ((match ys with|[]=>.nl|ys=>.own true m ys),h)
  |.own _ k xs=>match Nat.beq k m && Nat.ble (xs.length+ys.length) aU with
   |true=>some (.own false m (xs++ys),h)
   |false=>none
  |.sl id off len=>match get h id with
   |some (.arr k xs)=>match Nat.beq k m && Nat.ble (off+len) xs.length && Nat.ble (len+ys.length) aU with
    |true=>some (.own true m (sub xs off len++ys),del h id)
    |false=>none
   |_=>none
  |_=>none
def qR:AV->I_
 |.d (.int _ (.ofNat n))=>some n
 |_=>none
def TN (x:Rd)(st:St):L_ :=
 match rd st.env x with
 |some (v,e)=>some (v,⟨e,st.hs⟩)
 |none=>none
def kQ (c:Rd)(a:Rd)(b:Rd)(st:St):L_ :=
 match rd st.env c with
 |some (.d (.bool t),e)=>match rd e (match t with|true=>a|false=>b) with
  |some (v,e)=>some (v,⟨e,st.hs⟩)
  |none=>none
 |_=>none
def MO (zs:D_)(st:St):L_ :=
 some (.ptr st.hs.next 0,⟨st.env,(Jm st.hs (.cells zs)).2⟩)
def T5 (x:Rd)(st:St):L_ :=
 match rd st.env x with
 |some (v,e)=>match v.cells.all bq with
  |true=>some (.ptr st.hs.next 0,⟨e,(Jm st.hs (.cells v.cells)).2⟩)
  |false=>none
 |none=>none
def EQ (zs:D_)(ps:AC_)(st:St):L_ :=
 match rdAll st.env (pr ps) with
 |some (vs,e)=>match dY zs (tA ps vs) with
  |some cs=>some (.agg cs,⟨e,st.hs⟩)
  |none=>none
 |none=>none
def OQ (m:Nat)(ps:U_)(st:St):L_ :=
 match rdAll st.env ps with
 |some (vs,e)=>match jJ m vs with
  |some xs=>some (.own true m xs,⟨e,st.hs⟩)
  |none=>none
 |none=>none
def YI (m:Nat)(ps:U_)(st:St):L_ :=
 match rdAll st.env ps with
 |some (vs,e)=>match vs.all (λv=>Nat.beq v.cells.length m && v.cells.all bq) with
  |true=>some (.sl st.hs.next 0 vs.length,⟨e,(Jm st.hs (.cells (vs.flatMap AV.cells))).2⟩)
  |false=>none
 |none=>none
def EB (n:I_)(take:Nat)(p:Rd)(st:St):L_ :=
 match rd st.env p with
 |some (v,e)=>match loadAt st.hs.heap n take v with
  |some (v,h)=>some (v,⟨e,⟨h,st.hs.next⟩⟩)
  |none=>none
 |none=>none
def an3 (n:Nat)(p:Rd)(x:Rd)(st:St):L_ :=
 match rd st.env p with
 |some (p,e)=>match rd e x with
  |some (v,e)=>match storeAt st.hs.heap n p v with
   |some h=>some (.junk,⟨e,⟨h,st.hs.next⟩⟩)
   |none=>none
  |none=>none
 |none=>none
def HU (x:Rd)(st:St):L_ :=
 match rd st.env x with
 |some (v,e)=>match v with
  |.ptr ..|.pel ..|.pim ..|.fn ..|.yield ..=>some (v,⟨e,st.hs⟩)
  |_=>none
 |none=>none
def NJ (op:BinOp)(x:Rd)(y:Rd)(st:St):L_ :=
 match rd st.env x with
 |some (a,e)=>match rd e y with
  |some (b,e)=>match azF op a b with
   |some v=>some (v,⟨e,st.hs⟩)
   |none=>none
  |none=>none
 |none=>none
def Nx (neg:Bool)(x y:Rd)(st:St):L_ :=
 match rd st.env x with
 |some (a,e)=>match rd e y with
  |some (b,e)=>match a,b with
   |.d (.bool a),.d (.bool b)=>some (.bool (match neg with|true=>!(a == b)|false=>a == b),⟨e,st.hs⟩)
   |_,_=>none
  |none=>none
 |none=>none
def MD (neg:Bool)(ks:V_)(x y:Rd)(st:St):L_ :=
 match rd st.env x with
 |some (a,e)=>match rd e y with
  |some (b,e)=>match a,b with
   |.agg a,.agg b=>match bv ks a b with
    |some t=>some (.bool (match neg with|true=>!t|false=>t),⟨e,st.hs⟩)
    |none=>none
   |_,_=>none
  |none=>none
 |none=>none
def abC (op:UnOp)(x:Rd)(st:St):L_ :=
 match rd st.env x with
 |some (a,e)=>match abZ op a with
  |some v=>some (v,⟨e,st.hs⟩)
  |none=>none
 |none=>none
def If (k:IntKind)(x:Rd)(st:St):L_ :=
 match rd st.env x with
 |some (.d (.int _ n),e)=>some (.int k (wr k n),⟨e,st.hs⟩)
 |_=>none
def Ng (x:Rd)(st:St):L_ :=
 match rd st.env x with
 |some (v,e)=>match elems st.hs.heap v with
  |some xs=>match uQ xs with
   |some s=>some (.d (.str s),⟨e,st.hs⟩)
   |none=>none
  |none=>none
 |none=>none
def I8 (f:FuncId)(first:U_)(caps:U_)(st:St):L_ :=
 match rdAll st.env first with
 |some (a,e)=>match rdAll e caps with
  |some (c,e)=>some (.fn f (shareAll a) (shareAll c),⟨e,st.hs⟩)
  |none=>none
 |none=>none
def md (z:Y_)(len:Rd)(cap:Rd)(st:St):L_ :=
 match rd st.env len with
 |some (n,e)=>match rd e cap with
  |some (c,e)=>match dW c aU with
   |some c=>match dW n c with
    |some n=>some (.own true z.length (List.replicate n z),⟨e,st.hs⟩)
    |none=>none
   |none=>none
  |none=>none
 |none=>none
def Mj (m:Nat)(x:Rd)(lo:AB_)(hi:AB_)(mx:AB_)(st:St):L_ :=
 match rd st.env x with
 |some (v,e)=>match rdOpt e lo with
  |some (l,e)=>match rdOpt e hi with
   |some (h,e)=>match rdOpt e mx with
    |some (k,e)=>match okSl st.hs.heap m v with
     |true=>match uU m v l h k with
      |some v=>some (v,⟨e,st.hs⟩)
      |none=>none
     |false=>none
    |none=>none
   |none=>none
  |none=>none
 |none=>none
def Ue (hp:am)(n id off:Nat)(lo hi mx:M_):M_ :=
 match get hp id with
 |some (.cells cs)=>match Nat.ble (off+n) cs.length with
  |true=>match xg n lo hi mx with
   |some (l,h,_)=>some (.sl id (off+l) (h-l))
   |none=>none
  |false=>none
 |_=>none
def Un (n:Nat)(x:Rd)(lo:AB_)(hi:AB_)(mx:AB_)(st:St):L_ :=
 match rd st.env x with
 |some (.ptr id off,e)=>match rdOpt e lo with
  |some (l,e)=>match rdOpt e hi with
   |some (h,e)=>match rdOpt e mx with
    |some (k,e)=>match Ue st.hs.heap n id off l h k with
     |some v=>some (v,⟨e,st.hs⟩)
     |none=>none
    |none=>none
   |none=>none
  |none=>none
 |_=>none
def aco (off:Nat)(p:Rd)(st:St):L_ :=
 match rd st.env p with
 |some (p,e)=>match iy off p with
  |some v=>some (v,⟨e,st.hs⟩)
  |none=>none
 |none=>none
def FU (n:I_)(cs:D_)(off:Nat):M_ :=
 match n with
 |none=>cs[off]?
 |some n=>match Nat.ble (off+n) cs.length with
  |true=>some (.agg (sub cs off n))
  |false=>none
def agV (agg:Bool)(n:Nat):I_ :=
 match agg with
 |true=>some n
 |false=>none
def OV (off:Nat)(n:I_)(x:Rd)(st:St):L_ :=
 match rd st.env x with
 |some (.agg cs,e)=>match FU n cs off with
  |some v=>some (v,⟨e,st.hs⟩)
  |none=>none
 |_=>none
def ahm (n:Nat)(x:Rd)(i:Rd)(st:St):L_ :=
 match rd st.env x with
 |some (v,e)=>match rd e i with
  |some (i,e)=>match qR i with
   |some i=>match v with
    |.sl id off len=>match Nat.ble len i with
     |true=>none
     |false=>match get st.hs.heap id with
      |some (.arr m _)=>match Nat.beq m n with
       |true=>some (.pel id (off+i) 0,⟨e,st.hs⟩)
       |false=>none
      |some (.cells _)=>match Nat.beq n 1 with
       |true=>some (.ptr id (off+i),⟨e,st.hs⟩)
       |false=>none
      |_=>none
    |v=>match elems st.hs.heap v with
     |some xs=>match xs[i]? with
      |some x=>match Nat.beq x.length n with
       |true=>some (.pim x 0,⟨e,st.hs⟩)
       |false=>none
      |none=>none
     |none=>none
   |none=>none
  |none=>none
 |none=>none
def MM (len:Nat)(n:Nat)(p:Rd)(i:Rd)(st:St):L_ :=
 match rd st.env p with
 |some (p,e)=>match rd e i with
  |some (i,e)=>match qR i with
   |some i=>match Nat.ble len i with
    |true=>none
    |false=>match iy (i*n) p with
     |some v=>some (v,⟨e,st.hs⟩)
     |none=>none
   |none=>none
  |none=>none
 |none=>none
def Xg (len:Nat)(n:Nat)(agg:Bool)(x:Rd)(i:Rd)(st:St):L_ :=
 match rd st.env x with
 |some (.agg cs,e)=>match rd e i with
  |some (i,e)=>match qR i with
   |some i=>match Nat.ble len i with
    |true=>none
    |false=>match FU (agV agg n) cs (i*n) with
     |some v=>some (v,⟨e,st.hs⟩)
     |none=>none
   |none=>none
  |none=>none
 |_=>none
def Pc (x:Rd)(i:Rd)(st:St):L_ :=
 match rd st.env x with
 |some (.d (.str s),e)=>match rd e i with
  |some (i,e)=>match qR i with
   |some i=>match s[i]? with
    |some b=>some (.int .u8 (.ofNat b.toNat),⟨e,st.hs⟩)
    |none=>none
   |none=>none
  |none=>none
 |_=>none
def asU (h:am)(v c:AV):M_ :=
 match c with
 |.d (.int .u8 n)=>match elems h v with
  |some xs=>match indexByte n xs 0 with
   |some r=>some (.int .i64 r)
   |none=>none
  |none=>none
 |_=>none
def ahC (x:Rd)(c:Rd)(st:St):L_ :=
 match rd st.env x with
 |some (v,e)=>match rd e c with
  |some (c,e)=>match asU st.hs.heap v c with
   |some r=>some (r,⟨e,st.hs⟩)
   |none=>none
  |none=>none
 |none=>none
def C0 (j:Nat)(mv:Bool)(i:Nat)(st:St):L_ :=
 match get st.env j with
 |some (.tup vs)=>match vs[i]? with
  |some v=>match mv with
   |true=>some (v,⟨put st.env j (.tup (vs.set i .junk)),st.hs⟩)
   |false=>some (share v,st)
  |none=>none
 |_=>none
def TG (x:Rd)(st:St):L_ :=
 match rd st.env x with
 |some (v,e)=>match lenOf v with
  |some n=>some (.int .i64 (.ofNat n),⟨e,st.hs⟩)
  |none=>none
 |none=>none
def Pk (x:Rd)(st:St):L_ :=
 match rd st.env x with
 |some (.nl,e)=>some (.int .i64 (.ofNat 0),⟨e,st.hs⟩)
 |_=>none
def HQ (m:Nat)(x:Rd)(y:Rd)(st:St):L_ :=
 match rd st.env x with
 |some (a,e)=>match rd e y with
  |some (b,e)=>match elems st.hs.heap b with
   |some ys=>match fW m ys with
    |true=>match dX m st.hs.heap a ys with
     |some (v,h)=>some (v,⟨e,⟨h,st.hs.next⟩⟩)
     |none=>none
    |false=>none
   |none=>none
  |none=>none
 |none=>none
def afL (z:Y_)(x:Rd)(n:Rd)(st:St):L_ :=
 match rd st.env x with
 |some (a,e)=>match rd e n with
  |some (n,e)=>match dW n aU with
   |some n=>match dX z.length st.hs.heap a (List.replicate n z) with
    |some (v,h)=>some (v,⟨e,⟨h,st.hs.next⟩⟩)
    |none=>none
   |none=>none
  |none=>none
 |none=>none
def Y6 (m:Nat)(x:Rd)(y:Rd)(st:St):L_ :=
 match rd st.env x with
 |some (a,e)=>match rd e y with
  |some (b,e)=>match elems st.hs.heap b with
   |some ys=>match a with
    |.sl id off len=>match get st.hs.heap id with
     |some (.arr k xs)=>match fW m ys && Nat.beq k m && Nat.ble (off+len) xs.length with
      |true=>some (.int .i64 (.ofNat (min len ys.length)),⟨e,⟨put st.hs.heap id (.arr k (aG xs off (ys.take len))),st.hs.next⟩⟩)
      |false=>none
     |_=>none
    |_=>match lenOf a with
     |some 0=>some (.int .i64 (.ofNat 0),⟨e,st.hs⟩)
     |_=>none
   |none=>none
  |none=>none
 |none=>none
def TP (z:Y_)(x:Rd)(st:St):L_ :=
 match rd st.env x with
 |some (.sl id off len,e)=>match get st.hs.heap id with
  |some (.arr k xs)=>match Nat.beq k z.length && Nat.ble (off+len) xs.length with
   |true=>some (.tup [],⟨e,⟨put st.hs.heap id (.arr k (aG xs off (List.replicate len z))),st.hs.next⟩⟩)
   |false=>none
  |_=>none
 |_=>none
def Ad (isMax:Bool)(xs:U_)(st:St):L_ :=
 match rdAll st.env xs with
 |some (.d (.int k n)::vs,e)=>match BM isMax (.d (.int k n)) vs with
  |some v=>some (v,⟨e,st.hs⟩)
  |none=>none
 |_=>none
def F5 (r:dC)(f:FuncId)(args:U_)(st:St):L_ :=
 match rdAll st.env args with
 |some (vs,e)=>match eJ r f vs st.hs.heap with
  |some v=>some (v,⟨e,st.hs⟩)
  |none=>none
 |none=>none
def EC (r:dC)(f:FuncId)(args:U_)(st:St):L_ :=
 match rdAll st.env args with
 |some (vs,e)=>match r.call f vs st.hs with
  |some (v,hs)=>some (v,⟨e,hs⟩)
  |none=>none
 |none=>none
def DF (r:dC)(f:Rd)(args:U_)(st:St):L_ :=
 match rd st.env f with
 |some (fv,e)=>match rdAll e args with
  |some (vs,e)=>match cq r fv vs st.hs with
   |some (v,hs)=>some (v,⟨e,hs⟩)
   |none=>none
  |none=>none
 |none=>none
def anb (st:St):L_ :=
 none
def agi (is:C_)(st:St):L_ :=
 some (.tup [],⟨is.foldl del st.env,st.hs⟩)
def delAll:am->C_->am
 |h,[]=>h
 |h,i::r=>delAll (del h i) r
def I7:D_->C_
 |[]=>[]
 |.ptr id _::r=>id::I7 r
 |_::r=>I7 r
def XO (i:Nat)(st:St):L_ :=
 match get st.env i with
 |some (.ptr id _)=>some (.tup [],⟨del st.env i,⟨del st.hs.heap id,st.hs.next⟩⟩)
 |some (.fn _ _ caps)=>some (.tup [],⟨del st.env i,⟨delAll st.hs.heap (I7 caps),st.hs.next⟩⟩)
 |_=>some (.tup [],st)
def auq (i:Nat)(m:Nat)(st:St):L_ :=
 match get st.env i with
 |some .nl=>some (.tup [],⟨put st.env i (.own false m []),st.hs⟩)
 |_=>some (.tup [],st)
def ZX (i:Nat)(st:St):L_ :=
 match get st.env i with
 |some v=>some (.tup [],⟨put st.env i (zx st.hs.heap v).1,⟨(zx st.hs.heap v).2,st.hs.next⟩⟩)
 |none=>none
def ag4 (i:Nat)(offs:C_)(st:St):L_ :=
 match get st.env i with
 |some (.agg cs)=>some (.tup [],⟨put st.env i (.agg (ww offs cs st.hs.heap).1),⟨(ww offs cs st.hs.heap).2,st.hs.next⟩⟩)
 |_=>none
def dk (o:oi):dC->St->L_ :=
 oi.casesOn (motive:=λ_=>dC->St->L_) o
  (λx=>λ_ st=>TN x st)
  (λc a b=>λ_ st=>kQ c a b st)
  (λzs=>λ_ st=>MO zs st)
  (λx=>λ_ st=>T5 x st)
  (λzs ps=>λ_ st=>EQ zs ps st)
  (λm ps=>λ_ st=>OQ m ps st)
  (λm ps=>λ_ st=>YI m ps st)
  (λn take p=>λ_ st=>EB n take p st)
  (λn p x=>λ_ st=>an3 n p x st)
  (λx=>λ_ st=>HU x st)
  (λop x y=>λ_ st=>NJ op x y st)
  (λneg x y=>λ_ st=>Nx neg x y st)
  (λneg ks x y=>λ_ st=>MD neg ks x y st)
  (λop x=>λ_ st=>abC op x st)
  (λk x=>λ_ st=>If k x st)
  (λx=>λ_ st=>Ng x st)
  (λf first caps=>λ_ st=>I8 f first caps st)
  (λz len cap=>λ_ st=>md z len cap st)
  (λm x lo hi mx=>λ_ st=>Mj m x lo hi mx st)
  (λn x lo hi mx=>λ_ st=>Un n x lo hi mx st)
  (λoff p=>λ_ st=>aco off p st)
  (λoff n x=>λ_ st=>OV off n x st)
  (λn x i=>λ_ st=>ahm n x i st)
  (λlen n p i=>λ_ st=>MM len n p i st)
  (λlen n agg x i=>λ_ st=>Xg len n agg x i st)
  (λx i=>λ_ st=>Pc x i st)
  (λx c=>λ_ st=>ahC x c st)
  (λj mv i=>λ_ st=>C0 j mv i st)
  (λx=>λ_ st=>TG x st)
  (λx=>λ_ st=>Pk x st)
  (λm x y=>λ_ st=>HQ m x y st)
  (λz x n=>λ_ st=>afL z x n st)
  (λm x y=>λ_ st=>Y6 m x y st)
  (λz x=>λ_ st=>TP z x st)
  (λisMax xs=>λ_ st=>Ad isMax xs st)
  (λf args=>λr st=>F5 r f args st)
  (λf args=>λr st=>EC r f args st)
  (λf args=>λr st=>DF r f args st)
  (λ_ st=>anb st)
  (λis=>λ_ st=>agi is st)
  (λi=>λ_ st=>XO i st)
  (λi m=>λ_ st=>auq i m st)
  (λi=>λ_ st=>ZX i st)
  (λi offs=>λ_ st=>ag4 i offs st)
def cP (dst:I_)(v:AV)(st:St):St :=
 match dst with
 |some d=>⟨put st.env d v,st.hs⟩
 |none=>st
def gp (r:dC)(i:VI)(st:St):X_ :=
 match dk i.op r st with
 |some (v,st)=>match i.th with
  |[]=>some (cP i.dst (firm v) st)
  |th=>some (cP i.dst (firm (dS th v st.hs).1) ⟨st.env,(dS th v st.hs).2⟩)
 |none=>none
def cV (r:dC)(i:VI)(st:St):X_ :=
 match i.guard with
 |none=>gp r i st
 |some (s,want)=>match get st.env s with
  |some (.d (.bool b))=>match b == want with
   |true=>gp r i st
   |false=>some (cP i.dst (.tup []) st)
  |some (.tup [])=>some (cP i.dst (.tup []) st)
  |_=>none
def kB (r:dC):T_->St->X_
 |[],st=>some st
 |i::l,st=>match cV r i st with
  |some st=>kB r l st
  |none=>none
def wT (r:dC)(vs:T_):C_->St->X_
 |[],st=>some st
 |i::l,st=>match vs[i]? with
  |none=>none
  |some v=>match cV r v st with
   |none=>none
   |some st=>wT r vs l st
def et (k:Nat):C_->Bool
 |[]=>false
 |a::r=>match Nat.beq a k with
  |true=>true
  |false=>et k r
mutual
def cL:AV->C_
 |.ptr id _=>[id]
 |.pel id _ _=>[id]
 |.sl id _ _=>[id]
 |.fn _ first caps=>idsAll first++idsAll caps
 |.agg cs=>idsAll cs
 |.tup vs=>idsAll vs
 |_=>[]
def idsAll:D_->C_
 |[]=>[]
 |v::r=>cL v++idsAll r
end
def TR (e:aV):C_->C_
 |[]=>[]
 |s::r=>match get e s with
  |some v=>cL v++TR e r
  |none=>TR e r
def dM:C_->am->am
 |[],_=>[]
 |i::r,h=>match get h i with
  |some o=>put (dM r h) i o
  |none=>dM r h
mutual
def PW:D->D->Bool
 |.int k n,.int j m=>l8 k j && decide (n=m)
 |.bool a,.bool b=>a == b
 |.str s,.str t=>s == t
 |.lst xs,.lst ys=>eqDss xs ys
 |_,_=>false
def SA:Y_->Y_->Bool
 |[],[]=>true
 |a::r,b::s=>PW a b && SA r s
 |_,_=>false
def eqDss:E_->E_->Bool
 |[],[]=>true
 |a::r,b::s=>SA a b && eqDss r s
 |_,_=>false
end
mutual
def iV:AV->AV->Bool
 |.junk,.junk=>true
 |.d x,.d y=>PW x y
 |.nl,.nl=>true
 |.own p m xs,.own q n ys=>p == q && Nat.beq m n && eqDss xs ys
 |.gl n,.gl m=>Nat.beq n m
 |.agg a,.agg b=>eqAVs a b
 |.tup a,.tup b=>eqAVs a b
 |.nilp,.nilp=>true
 |.ptr a b,.ptr c d=>Nat.beq a c && Nat.beq b d
 |.pel a b c,.pel d e f=>Nat.beq a d && Nat.beq b e && Nat.beq c f
 |.pim a b,.pim c d=>SA a c && Nat.beq b d
 |.sl a b c,.sl d e f=>Nat.beq a d && Nat.beq b e && Nat.beq c f
 |.fn f a c,.fn g b d=>Nat.beq f g && eqAVs a b && eqAVs c d
 |.nilf,.nilf=>true
 |.yield a,.yield b=>Nat.beq a b
 |_,_=>false
def eqAVs:D_->D_->Bool
 |[],[]=>true
 |a::r,b::s=>iV a b && eqAVs r s
 |_,_=>false
end
def eqO:Obj->Obj->Bool
 |.cells a,.cells b=>eqAVs a b
 |.arr m xs,.arr n ys=>Nat.beq m n && eqDss xs ys
 |_,_=>false
def dE:C_->am->am->Bool
 |[],_,_=>true
 |i::r,h,h'=>(match get h i with
  |some o=>(match get h' i with|some o'=>eqO o o'|none=>false)
  |none=>true) && dE r h h'
inductive NK where
 |call|take|read
def tP:oi->NK
 |.calli ..|.callv ..|.st ..=>.call
 |.ld none 2 _=>.take
 |_=>.read
def LC:AV->Bool
 |.own false _ _=>true
 |.nl=>true
 |_=>false
def aBA:Rd->C_
 |.s i=>[i]
 |.m i=>[i]
 |.c _=>[]
def Q9:U_->C_
 |[]=>[]
 |x::r=>aBA x++Q9 r
def TF:oi->U_
 |.ld _ _ p=>[p]
 |.ia _ x _=>[x]
 |.slice _ x _ _ _=>[x]
 |.toStr x=>[x]
 |.call _ args=>args
 |_=>[]
def nT (v:VI)(e:aV):C_:=TR e (Q9 (TF v.op))
def wH (r:dC)(F:C_)(v:VI)(st:St):X_ :=
 match tP v.op with
 |.call=>match cV r v st with
  |some st1=>match dE F st.hs.heap st1.hs.heap with
   |true=>some st1
   |false=>none
  |none=>none
 |.take=>match cV r v st with
  |some st1=>match v.dst with
   |some d=>match get st1.env d with
    |some a=>match LC a with
     |true=>some st1
     |false=>none
    |none=>none
   |none=>none
  |none=>none
 |.read=>match cV r v ⟨st.env,⟨dM (nT v st.env) st.hs.heap,st.hs.next⟩⟩ with
  |some st1=>some ⟨st1.env,st.hs⟩
  |none=>none
def b9 (r:dC)(a:Bool)(F:C_)(v:VI)(st:St):X_ :=
 match a with
 |false=>cV r v st
 |true=>wH r F v st
def jU (a:Bool)(v:VI)(e:aV)(F:C_):C_ :=
 match a with
 |false=>F
 |true=>match tP v.op with
  |.read=>nT v e++F
  |_=>F
def fH (r:dC)(nr:C_)(vs:T_):C_->C_->St->X_
 |[],_,st=>some st
 |i::l,F,st=>match vs[i]? with
  |none=>none
  |some v=>match b9 r (et i nr) F v st with
   |none=>none
   |some st1=>fH r nr vs l (jU (et i nr) v st.env F) st1
def vG:VC->Nat->Option VC
 |.seq a b,l=>match vG a l with
  |some c=>some (.seq c b)
  |none=>vG b l
 |.label k,l=>match Nat.beq k l with
  |true=>some .skip
  |false=>none
 |_,_=>none
def Uf (r:dC)(ops:T_)(st:St):J_ :=
 match kB r ops st with
 |some st=>some (.normal,st)
 |none=>none
def zG:Rd->Bool
 |.m _=>false
 |_=>true
def iL (v:VI):I_ :=
 match v.op,v.guard,v.th with
 |.alloc _,none,[]=>v.dst
 |.mkslice _ l c,none,_=>match zG l && zG c with
  |true=>v.dst
  |false=>none
 |_,_,_=>none
def sv (e:aV):T_->Bool
 |[]=>true
 |v::r=>(match iL v with
  |some d=>(match get e d with
   |none=>true
   |some _=>false)
  |none=>true) && sv e r
def T3:Nat->C_->T_->Bool
 |_,[],[]=>true
 |i,p::r,_::vs=>match Nat.beq p i with
  |true=>T3 (i+1) r vs
  |false=>false
 |_,_,_=>false
def asi (r:dC)(nr:C_)(ops:T_)(perm:C_)(st:St):X_ :=
 match nr with
 |[]=>match T3 0 perm ops with
  |true=>kB r ops st
  |false=>fH r [] ops perm [] st
 |a::n=>fH r (a::n) ops perm [] st
def agS {r:dC}{vs:T_}:∀(perm:C_) (l:T_) (i:Nat) (F:C_) (st:St),vs.drop i=l->T3 i perm l=true->fH r [] vs perm F st=kB r l st
 |[],[],_,_,_,_,_=>rfl
 |[],_::_,_,_,_,_,h=>by simp[T3]at h
 |_::_,[],_,_,_,_,h=>by simp[T3]at h
 |p::perm,v::l,i,F,st,hd,h=>by
  simp only[T3]at h;split at h
  .rename_i hp;rw[aB]at hp;subst hp;have hv:vs[p]?=some v:=by
    have:=aX (λl=>l[0]?) hd
    grind
   have hd':vs.drop (p+1)=l:=by
    have:=aX (λl=>l.drop 1) hd
    grind [List.drop_drop]
   simp only[fH,hv,b9,et,kB]
   cases cV r v st with
   |none=>rfl
   |some st1=>exact agS perm l (p+1) _ st1 hd' h
  simp_all
def Nf {r:dC}{nr:C_}{ops:T_}{perm:C_}{st:St}:asi r nr ops perm st=fH r nr ops perm [] st:=by
 unfold asi;split
 .split
  .rename_i h;exact(agS perm ops 0 [] st rfl h).symm
  .rfl
 .rfl
def Mu (r:dC)(perm:C_)(nr:C_)(ops:T_)(st:St):J_ :=
 match sv st.env ops with
 |true=>(match asi r nr ops perm st with
  |some st=>some (.normal,st)
  |none=>none)
 |false=>none
def NW (r:dC)(a:VC)(b:VC)(st:St):J_ :=
 match r.code a st with
 |some (.normal,st)=>r.code b st
 |x=>x
def MK (r:dC)(c:Rd)(a:VC)(b:VC)(st:St):J_ :=
 match rd st.env c with
 |some (.d (.bool true),e)=>r.code a ⟨e,st.hs⟩
 |some (.d (.bool false),e)=>r.code b ⟨e,st.hs⟩
 |_=>none
def Ni (r:dC)(id:Nat)(a:VC)(st:St):J_ :=
 match r.code a st with
 |some (.exit j,st)=>match Nat.beq j id with
  |true=>some (.normal,st)
  |false=>some (.exit j,st)
 |x=>x
def Sq (r:dC)(a:VC)(st:St):J_ :=
 match r.code a st with
 |some (.normal,st)=>r.code (.loop a) st
 |x=>x
def DN (r:dC)(f:Rd)(params:C_)(assign:VC)(body:VC)(st:St):J_ :=
 match rd st.env f with
 |some (.fn g first caps,e) =>
  match r.call g (first++([.yield st.hs.next]++caps)) ⟨put st.hs.heap st.hs.next (.loop (e.map λkv=>(kv.1,share kv.2)) params assign body false none),st.hs.next+1⟩ with
  |some (_,hs)=>match get hs.heap st.hs.next with
   |some (.loop _ _ _ _ false pend)=>match pend with
    |none=>some (.normal,⟨e,⟨del hs.heap st.hs.next,hs.next⟩⟩)
    |some o=>some (o,⟨e,⟨del hs.heap st.hs.next,hs.next⟩⟩)
   |_=>none
  |none=>none
 |_=>none
def avJ (r:dC)(a:VC)(st:St):J_ :=
 r.code (.inScope a a) st
def Kv (r:dC)(a:VC)(cur:VC)(st:St):J_ :=
 match r.code cur st with
 |some (.goto l,st)=>match vG a l with
  |some rest=>r.code (.inScope a rest) st
  |none=>some (.goto l,st)
 |x=>x
def MN (m:Nat)(st:St):J_ :=
 match get st.env 0 with
 |some v=>match elems st.hs.heap v with
  |some xs=>match fW m xs && Nat.ble xs.length aU with
   |true=>some (.ret,⟨[(2,.own true m xs)],st.hs⟩)
   |false=>none
  |none=>none
 |none=>none
def RC (r:dC)(i d f:Nat)(a:VC)(st:St):J_ :=
 match get st.env i with
 |some (.ptr id off)=>match r.code a ⟨put st.env d (.ptr id off),st.hs⟩ with
  |some (.normal,st1)=>match r.call f [.ptr id off] st1.hs with
   |some (_,hs)=>some (.ret,⟨st1.env,hs⟩)
   |none=>none
  |some (.ret,st1)=>match r.call f [.ptr id off] st1.hs with
   |some (_,hs)=>some (.ret,⟨st1.env,hs⟩)
   |none=>none
  |_=>none
 |_=>none
def da (c:VC):dC->St->J_ :=
 VC.casesOn (motive:=λ_=>dC->St->J_) c
  (λ_ st=>some (.normal,st))
  (λ_ ops=>λr st=>Uf r ops st)
  (λperm _ nr ops=>λr st=>Mu r perm nr ops st)
  (λa b=>λr st=>NW r a b st)
  (λc a b=>λr st=>MK r c a b st)
  (λid a=>λr st=>Ni r id a st)
  (λa=>λr st=>Sq r a st)
  (λf params assign body=>λr st=>DN r f params assign body st)
  (λid=>λ_ st=>some (.exit id,st))
  (λa=>λr st=>avJ r a st)
  (λa cur=>λr st=>Kv r a cur st)
  (λ_=>λ_ st=>some (.normal,st))
  (λl=>λ_ st=>some (.goto l,st))
  (λ_ st=>some (.ret,st))
  (λm=>λ_ st=>MN m st)
  (λi d f a=>λr st=>RC r i d f a st)
def fL (st:St):BA_->Option (D_×St)
 |[]=>some ([],st)
 |.tmp t::r=>match get st.env t with
  |some v=>match fL ⟨del st.env t,st.hs⟩ r with
   |some (vs,st)=>some (v::vs,st)
   |none=>none
  |none=>none
 |.cell t n::r=>match get st.env t with
  |some (.ptr id 0)=>match loadAt st.hs.heap n 1 (.ptr id 0) with
   |some (v,h)=>match fL ⟨del st.env t,⟨del h id,st.hs.next⟩⟩ r with
    |some (vs,st)=>some (v::vs,st)
    |none=>none
   |none=>none
  |_=>none
def kp:Nat->D_->aV
 |_,[]=>[]
 |i,v::r=>put (kp (i+1) r) i v
def Gb (fn:aj)(st:St):W_ :=
 match fL st fn.results with
 |some ([v],st)=>some (v,st.hs)
 |some (vs,st)=>some (.tup vs,st.hs)
 |none=>none
def vY (P:Nat->Z_)(r:dC)(f:FuncId)(args:D_)(hs:HS):W_ :=
 match P f with
 |none=>none
 |some fn=>match Nat.beq args.length fn.nparams with
  |false=>none
  |true=>match da fn.body r ⟨kp 0 args,hs⟩ with
   |some (.normal,st)=>Gb fn st
   |some (.ret,st)=>Gb fn st
   |_=>none
def run (P:Nat->Z_):Nat->dC
 |0=>⟨λ_ _=>none,λ_ _ _=>none⟩
 |n+1=>⟨λc st=>da c (run P n) st,λf a h=>vY P (run P n) f a h⟩
inductive T where
 |leaf
 |node (k:Nat) (v:aj) (a b:T)
def T.look:T->Nat->Z_
 |.leaf,_=>none
 |.node k v a b,i=>match Nat.beq k i with
  |true=>some v
  |false=>match Nat.ble i k with
   |true=>a.look i
   |false=>b.look i
abbrev af:=@Bool.and_eq_true
abbrev aC:=@List.mem_cons
abbrev cZ:=@Bool.or_eq_true
abbrev ao:=@Bool.false_eq_true
abbrev cO:=@Bool.not_eq_true'
def okD:D->Value->Bool
 |.int k n,.int j m=>l8 k j && decide (n=m)
 |.bool a,.bool b=>a == b
 |.str s,.string t=>s == t.data.toList
 |.lst [],.slice none 0 0=>true
 |_,_=>false
def SI:Y_->N_->Bool
 |[],[]=>true
 |d::r,v::s=>okD d v && SI r s
 |_,_=>false
def NL:AV->Value->Bool
 |.d (.lst _),_=>false
 |.d x,v=>okD x v
 |.nl,.slice none 0 0=>true
 |.nilp,.pointer none=>true
 |.nilf,.nilFunc=>true
 |_,_=>false
def nW:D_->N_->Bool
 |[],[]=>true
 |d::r,v::s=>NL d v && nW r s
 |_,_=>false
def ab5:AV->Value->Bool
 |.agg cs,.agg vs=>nW cs vs.toList
 |v,x=>NL v x
def cM:Rd->Operand->Bool
 |.s i,.tmp t=>Nat.beq i t
 |.m i,.tmp t=>Nat.beq i t
 |.c v,.const x=>ab5 v x
 |.c (.fn f [] []),.func g=>Nat.beq f g
 |_,_=>false
def dZ:U_->List Operand->Bool
 |[],[]=>true
 |r::l,o::s=>cM r o && dZ l s
 |_,_=>false
def Bz:AB_->Option Operand->Bool
 |none,none=>true
 |some r,some o=>cM r o
 |_,_=>false
section
variable (P:Program)
def xk (t:TypeId)(n:Nat):Bool:=match P.info? t with
 |some i=>Nat.beq i.size n
 |none=>false
def Cz (t:TypeId):Bool:=match P.underlying t with
 |some (.struct _)=>true
 |some (.array _ _)=>true
 |_=>false
def Kr (t:TypeId):Bool:=match P.underlying t with
 |some (.struct _)=>false
 |some (.array _ _)=>false
 |some _=>true
 |none=>false
def pP (t:TypeId):I_->Bool
 |none=>Kr P t
 |some n=>Cz P t && xk P t n
def iO (t:TypeId)(m:Nat):Bool:=match P.underlying t with
 |some (.slice e)=>xk P e m && Nat.blt 0 m && Nat.ble (P.bytesOf e) 4096
 |_=>false
def apT (t:TypeId)(zs:Y_):Bool:=match P.info? t with
 |some i=>match i.zero with
  |some z=>SI zs z.cells.toList
  |none=>false
 |none=>false
def BP (t:TypeId)(zs:Y_):Bool:=match P.underlying t with
 |some (.slice e)=>apT P e zs
 |_=>false
def mE (t:TypeId)(m:Nat):Bool:=match P.underlying t with
 |some (.slice e)=>match P.info? e with
  |some i=>match i.zero with
   |some z=>Nat.beq z.cells.size m
   |none=>false
  |none=>false
 |_=>false
def O7 (t:TypeId):Bool:=match P.underlying t with
 |some .string=>true
 |_=>false
def KH (t:TypeId):Bool:=match P.underlying t with
 |some (.int _)=>true
 |_=>false
def Mp (t:TypeId):Bool:=match P.underlying t with
 |some .bool=>true
 |_=>false
def ame (t:TypeId):Bool:=match P.underlying t with
 |some (.slice e)=>(match P.underlying e with
  |some (.int .u8)=>true
  |_=>false)
 |_=>false
def arp (f:FuncId):Bool:=match P.funcs[f]? with
 |some fn=>fn.name == "internal/bytealg.IndexByte" && fn.origin == "" && fn.body.isNone
 |none=>false
def Iw:V_->List Field->Nat->Bool
 |[],[],_=>true
 |k::ks,f::r,n=>Nat.beq f.offset n && (f.name != "_") && (match k with|true=>KH P f.type|false=>Mp P f.type) && Kr P f.type && Iw ks r (n+1)
 |_,_,_=>false
def M3:V_->List Field->Nat->Bool
 |[],[],_=>true
 |_::_,[],_=>false
 |ks,f::r,n=>Nat.beq f.offset n && (f.name != "_") && (match P.underlying f.type with
  |some (.struct fs)=>Nat.ble fs.size ks.length && Iw P (ks.take fs.size) fs.toList 0 && !(P.stoodInHeld f.type) && xk P f.type fs.size && M3 (ks.drop fs.size) r (n+fs.size)
  |_=>match ks with
   |k::ks=>(match k with|true=>KH P f.type|false=>Mp P f.type) && Kr P f.type && M3 ks r (n+1)
   |[]=>false)
def z7 (t:TypeId)(ks:V_):Bool:=match P.underlying t with
 |some (.struct fs)=>M3 P ks fs.toList 0 && !(P.stoodInHeld t) && !(P.eqGuardType P.depth t)
 |_=>false
def apr (t:TypeId)(k:IntKind):Bool:=match P.underlying t with
 |some (.int j)=>l8 j k
 |_=>false
def Um (t:TypeId)(len n:Nat):Bool:=match P.underlying t with
 |some (.array l e)=>Nat.beq l len && xk P e n && Nat.blt 0 n
 |_=>false
def alX (t:TypeId)(f off:Nat):Bool:=match P.underlying t with
 |some (.struct fs)=>match fs[f]? with
  |some x=>Nat.beq x.offset off && (match P.info? x.type with|some i=>Nat.blt 0 i.size|none=>false)
  |none=>false
 |_=>false
def UW (t:TypeId)(f off:Nat)(n:I_):Bool:=match P.underlying t with
 |some (.struct fs)=>match fs[f]? with
  |some x=>Nat.beq x.offset off && pP P x.type n
  |none=>false
 |_=>false
def XR (t:TypeId)(len n:Nat)(agg:Bool):Bool:=match P.underlying t with
 |some (.array l e)=>Nat.beq l len && xk P e n && (match agg with|true=>Cz P e|false=>Kr P e)
 |_=>false
def mw (places:Nat->BH_):AC_->List (Nat×Operand)->Bool
 |[],[]=>true
 |(off,n,r)::l,(i,o)::s=>(match places i with|some (a,b)=>Nat.beq a off && Nat.beq b n|none=>false) && cM r o && mw places l s
 |_,_=>false
def JM (fs:Array Field)(i:Nat):BH_:=match fs[i]? with
 |some f=>match P.info? f.type with
  |some t=>some (f.offset,t.size)
  |none=>none
 |none=>none
def aaE (fs:List Field):Bool:=fs.all λf=>(P.info? f.type).isSome
def aii (t:TypeId)(zs:D_)(ps:AC_)(parts:List (Nat×Operand)):Bool :=
 (match P.info? t with
  |some i=>match i.zero with
   |some z=>nW zs z.cells.toList
   |none=>false
  |none=>false) &&
 match P.underlying t with
 |some (.struct fs)=>aaE P fs.toList && mw (JM P fs) ps parts
 |some (.array _ e)=>match P.info? e with
  |some i=>mw (λk=>some (k*i.size,i.size)) ps parts
  |none=>false
 |_=>false
def gb:Nat->U_->List (Nat×Operand)->Bool
 |_,[],[]=>true
 |k,r::l,(i,o)::s=>Nat.beq i k && cM r o && gb (k+1) l s
 |_,_,_=>false
def AB:Callee->Option FuncId
 |.value (.func f)=>some f
 |_=>none
def px:Callee->Option Builtin
 |.builtin b=>some b
 |_=>none
def aca (a b:BinOp):Bool:=decide (a=b)
def ayA (a b:UnOp):Bool:=decide (a=b)
def Qd (a b:Option Builtin):Bool:=decide (a=b)
def sU (c:Call):TypeId:=c.argTypes.getD 0 0
def Uc (c:Call):Bool:=Nat.beq c.argTypes.size 2
def bD (v:oi)(o:Op):Bool :=
 match v with
 |.mov x=>(match o with
  |.move y=>cM x y
  |.assign y=>cM x y
  |.call c=>Qd (px c.callee) (some .len) && Nat.blt 0 c.args.size && Nat.blt 0 c.argTypes.size && (match x with
   |.c (.d (.int .i64 n))=>(match P.underlying (sU c) with
    |some (.array l _)=>decide (n=(l:Int))
    |_=>false)
   |_=>false)
  |_=>false)
 |.pick c a b=>(match o with
  |.pick c' a' b'=>cM c c' && cM a a' && cM b b'
  |_=>false)
 |.alloc zs=>(match o with
  |.alloc e=>(match P.info? e with
   |some i=>(match i.zero with
    |some z=>nW zs z.cells.toList
    |none=>false)
   |none=>false)
  |_=>false)
 |.box x=>(match o with
  |.box _ y=>cM x y
  |_=>false)
 |.build zs ps=>(match o with
  |.build t parts=>aii P t zs ps parts.toList
  |_=>false)
 |.mks m ps=>(match o with
  |.buildSlice t len parts=>iO P t m && mE P t m && Nat.beq len ps.length && Nat.ble (len*m) 16777216 && gb 0 ps parts.toList
  |_=>false)
 |.mksv m ps=>(match o with
  |.buildSlice t len parts=>Nat.beq m 1 && iO P t m && mE P t m && Nat.beq len ps.length && Nat.ble (len*m) 16777216 && Nat.blt 0 len && gb 0 ps parts.toList
  |_=>false)
 |.ld n _ p=>(match o with
  |.load t a=>pP P t n && cM p a
  |_=>false)
 |.st n p x=>(match o with
  |.store t a y=>xk P t n && cM p a && cM x y
  |_=>false)
 |.nilck x=>(match o with
  |.nilCheck y=>cM x y
  |_=>false)
 |.bin op x y=>(match o with
  |.binOp op' _ x' y' _=>aca op op' && cM x x' && cM y y'
  |_=>false)
 |.binb neg x y=>(match o with
  |.binOp op' t x' y' _=>aca (match neg with|true=>.neq|false=>.eql) op' && Mp P t && cM x x' && cM y y'
  |_=>false)
 |.un op x=>(match o with
  |.unOp op' _ x'=>ayA op op' && cM x x'
  |_=>false)
 |.conv k x=>(match o with
  |.convert src dst x'=>apr P dst k && KH P src && cM x x'
  |_=>false)
 |.toStr x=>(match o with
  |.convert src dst x'=>O7 P dst && ame P src && cM x x'
  |_=>false)
 |.bina neg ks x y=>(match o with
  |.binOp op' t x' y' _=>aca (match neg with|true=>.neq|false=>.eql) op' && z7 P t ks && cM x x' && cM y y'
  |_=>false)
 |.mkfn f first caps=>(match o with
  |.makeFunc (.func g) first' caps'=>Nat.beq f g && dZ first first'.toList && dZ caps caps'.toList
  |_=>false)
 |.mkslice z len cap=>(match o with
  |.makeSlice t l c=>iO P t z.length && BP P t z && cM len l && cM cap c
  |_=>false)
 |.slice m x lo hi mx=>(match o with
  |.slice t y l h k=>iO P t m && cM x y && Bz lo l && Bz hi h && Bz mx k
  |_=>false)
 |.slarr n x lo hi mx=>(match o with
  |.slice t y l h k=>Um P t n 1 && cM x y && Bz lo l && Bz hi h && Bz mx k
  |_=>false)
 |.fa off p=>(match o with
  |.fieldAddr t y f=>alX P t f off && cM p y
  |_=>false)
 |.fld off n x=>(match o with
  |.field t y f=>UW P t f off n && cM x y
  |_=>false)
 |.ia n x i=>(match o with
  |.indexAddr t y j=>iO P t n && cM x y && cM i j
  |_=>false)
 |.iarr len n p i=>(match o with
  |.indexAddr t y j=>Um P t len n && cM p y && cM i j
  |_=>false)
 |.ix len n agg x i=>(match o with
  |.index t y j=>XR P t len n agg && cM x y && cM i j
  |_=>false)
 |.ixs x i=>(match o with
  |.index t y j=>O7 P t && cM x y && cM i j
  |_=>false)
 |.ext j _ i=>(match o with
  |.extract (.tmp t) k=>Nat.beq j t && Nat.beq i k
  |_=>false)
 |.len x=>(match o with
  |.call c=>Qd (px c.callee) (some .len) && Nat.blt 0 c.argTypes.size && (match P.underlying (sU c) with|some (.slice _)=>true|_=>false) && dZ [x] c.args.toList
  |_=>false)
 |.cap x=>(match o with
  |.call c=>Qd (px c.callee) (some .cap) && Nat.blt 0 c.argTypes.size && (match P.underlying (sU c) with|some (.slice _)=>true|_=>false) && dZ [x] c.args.toList
  |_=>false)
 |.app m x y=>(match o with
  |.call c=>Qd (px c.callee) (some .append) && Uc c && iO P (sU c) m && mE P (sU c) m &&
    (match P.underlying (c.argTypes.getD 1 0) with|some (.slice _)=>true|_=>false) && dZ [x,y] c.args.toList
  |_=>false)
 |.appz z x n=>(match o with
  |.call c=>Qd (px c.callee) (some .append) && Uc c && iO P (sU c) z.length && BP P (sU c) z && KH P (c.argTypes.getD 1 0) && dZ [x,n] c.args.toList
  |_=>false)
 |.cpy m x y=>(match o with
  |.call c=>Qd (px c.callee) (some .copy) && Uc c && iO P (sU c) m && (match P.underlying (c.argTypes.getD 1 0) with|some (.slice _)=>true|_=>false) && dZ [x,y] c.args.toList
  |_=>false)
 |.clr z x=>(match o with
  |.call c=>Qd (px c.callee) (some .clear) && iO P (sU c) z.length && BP P (sU c) z && Nat.blt 0 c.argTypes.size && dZ [x] c.args.toList
  |_=>false)
 |.minmax b xs=>(match o with
  |.call c=>Qd (px c.callee) (some (match b with|true=>.max|false=>.min)) && dZ xs c.args.toList
  |_=>false)
 |.call f args=>(match o with
  |.call c=>(match AB c.callee with|some g=>Nat.beq f g|none=>false) && dZ args c.args.toList
  |_=>false)
 |.calli f args=>(match o with
  |.call c=>(match AB c.callee with|some g=>Nat.beq f g|none=>false) && dZ args c.args.toList
  |_=>false)
 |.callv f args=>(match o with
  |.call c=>(match c.callee with|.value x=>cM f x|_=>false) && dZ args c.args.toList
  |_=>false)
 |.idxb x c=>(match o with
  |.call k=>(match AB k.callee with|some f=>arp P f|none=>false) && dZ [x,c] k.args.toList
  |_=>false)
 |.bad=>true
 |_=>false
def M5 (v:VI):Bool :=
 v.dst.isNone && v.guard.isNone && v.th.isEmpty && (match v.op with
  |.kill _=>true
  |.free _=>true
  |.wk _ _=>true
  |.frz _=>true
  |.frzC _ _=>true
  |_=>false)
def EV (ops:Array Oper):Option (Nat×Bool)->Option (Nat×Bool)->Bool
 |none,none=>true
 |some (s,b),some (j,c)=>b == c && (match ops[j]? with
  |some o=>(match o.dst with|some d=>Nat.beq d s|none=>false)
  |none=>false)
 |_,_=>false
def C4 (n:Nat)(ops:Array Oper)(v:VI)(o:Oper):Bool :=
 (match v.dst,o.dst with
  |none,none=>true
  |some a,some b=>Nat.beq a b && Nat.blt a n
  |_,_=>false) && EV ops v.guard o.guard && bD P v.op o.op
def Jh (n:Nat)(ops:Array Oper):T_->List Oper->Bool
 |[],[]=>true
 |v::l,os=>match M5 v with
  |true=>Jh n ops l os
  |false=>match os with
   |o::s=>C4 P n ops v o && Jh n ops l s
   |[]=>false
 |[],_::_=>false
end
def oj:Rd->C_
 |.s i=>[i]
 |.m i=>[i]
 |.c _=>[]
def kw:Rd->C_
 |.m i=>[i]
 |_=>[]
def b7 (rs:U_):C_:=rs.flatMap oj
def bx (rs:U_):C_:=rs.flatMap kw
def EP:oi->Option U_
 |.mov x=>some [x]
 |.build _ ps=>some (pr ps)
 |.mks _ ps=>some ps
 |.ld _ 0 p=>some [p]
 |.nilck x=>some [x]
 |.bin _ x y=>some [x,y]
 |.binb _ x y=>some [x,y]
 |.bina _ _ x y=>some [x,y]
 |.un _ x=>some [x]
 |.conv _ x=>some [x]
 |.toStr x=>some [x]
 |.mkslice _ l c=>some [l,c]
 |.fa _ p=>some [p]
 |.fld _ _ x=>some [x]
 |.ia _ x i=>some [x,i]
 |.iarr _ _ p i=>some [p,i]
 |.ix _ _ _ x i=>some [x,i]
 |.ixs x i=>some [x,i]
 |.len x=>some [x]
 |.cap x=>some [x]
 |.minmax _ xs=>some xs
 |.mkfn _ first caps=>some (first++caps)
 |.call _ args=>some args
 |_=>none
def Nj:oi->AH_
 |.pick c a b=>some (b7 [c,a,b],bx [c,a,b])
 |.ext j mv _=>some ([j],if mv then [j] else [])
 |.app _ (.c .nl) y=>some (b7 [y],bx [y])
 |.slice _ x lo hi mx=>some (b7 (x::(lo.toList++(hi.toList++(mx.toList++[])))),bx (x::(lo.toList++(hi.toList++(mx.toList++[])))))
 |v=>match EP v with
  |some rs=>some (b7 rs,bx rs)
  |none=>none
def afo (i:VI):AH_ :=
 match i.th with
 |_::_=>none
 |[]=>match Nj i.op with
  |none=>none
  |some (R,M)=>some ((match i.guard with|some (s,_)=>s::(R++M)|none=>R++M),(match i.dst with|some d=>d::M|none=>M))
def rS:C_->C_->Bool
 |[],_=>true
 |a::r,l=>!et a l && rS r l
def uV (a b:VI):Bool:=match afo a,afo b with
 |some (R1,M1),some (R2,M2)=>rS M1 R2 && rS M1 M2 && rS M2 R1
 |_,_=>false
def xr:Ground->Bool
 |.textOnly _=>false
 |.gcOnly _=>false
 |_=>true
def No (o:Oper)(j:Nat):Bool:=o.after.toList.any λe=>Nat.beq e.on j && xr e.ground
def Y9 (o:Oper)(v:VI):Nat->T_->Bool
 |_,[]=>true
 |j,u::us=>(No o j ||uV u v) && Y9 o v (j+1) us
def tW (P:Program)(n:Nat)(ops:Array Oper)(prev:T_):T_->List Oper->Bool
 |[],[]=>true
 |v::vs,o::os=>C4 P n ops v o && Y9 o v 0 prev && (o.after.toList.all λe=>Nat.blt e.on prev.length) && tW P n ops (prev++[v]) vs os
 |_,_=>false
def P7 (i:VI)(l:C_):C_:=match i.guard with|some (s,_)=>s::l|none=>l
def yW (i:VI)(l:C_):C_:=match i.dst with|some d=>d::l|none=>l
inductive C5 where
 |q|t|a|p
def jR (i:VI):Option (C5×C_×C_) :=
 match i.th with
 |_::_=>match Nj i.op with
  |some (R,M)=>some (.a,P7 i (R++M),yW i M)
  |none=>none
 |[]=>match i.op with
  |.ld _ 2 p=>some (.t,P7 i (oj p++kw p),yW i (kw p))
  |.app _ (.s x) y=>some (.p,P7 i (b7 [.s x,y]++bx [.s x,y]),yW i (bx [.s x,y]))
  |.app _ (.m x) y=>some (.p,P7 i (b7 [.m x,y]++bx [.m x,y]),yW i (bx [.m x,y]))
  |.alloc _=>some (.a,P7 i ([]++[]),yW i [])
  |.box x=>some (.a,P7 i (oj x++kw x),yW i (kw x))
  |v=>match Nj v with
   |some (R,M)=>some (.q,P7 i (R++M),yW i M)
   |none=>none
def Ba:C5->C5->Bool
 |.a,_=>false
 |.t,.t=>false
 |.p,.q=>true
 |.p,_=>false
 |_,.p=>false
 |_,_=>true
def HX (u v:VI):Bool:=match jR u,jR v with
 |some (k1,R1,M1),some (k2,R2,M2)=>Ba k1 k2 && rS M1 R2 && rS M1 M2 && rS M2 R1
 |_,_=>false
def RK:C_->C_->C_
 |[],l=>l
 |a::r,l=>match et a l with
  |true=>RK r l
  |false=>RK r (a::l)
def sOp:oi->Bool
 |.mov _=>true
 |.pick ..=>true
 |.build ..=>true
 |.mks ..=>true
 |.nilck _=>true
 |.bin ..=>true
 |.binb ..=>true
 |.bina ..=>true
 |.un ..=>true
 |.conv ..=>true
 |.mkfn ..=>true
 |.mkslice ..=>true
 |.fa ..=>true
 |.fld ..=>true
 |.iarr ..=>true
 |.ix ..=>true
 |.ixs ..=>true
 |.ext ..=>true
 |.len _=>true
 |.cap _=>true
 |.minmax ..=>true
 |_=>false
def asQ:oi->Option U_
 |.ld _ _ p=>some [p]
 |.st _ p x=>some [p,x]
 |.cpy _ x y=>some [x,y]
 |.clr _ x=>some [x]
 |.calli _ args=>some args
 |.callv f args=>some (f::args)
 |_=>none
def ki (i:VI):AH_ :=
 match jR i with
 |some (_,R,M)=>some (R,M)
 |none=>match asQ i.op with
  |some rs=>some (P7 i (b7 rs++bx rs),yW i (bx rs))
  |none=>none
def zR (a:Bool)(i:VI):AH_ :=
 match ki i with
 |some (R,M)=>match a with
  |false=>some (R,M)
  |true=>some (R++Q9 (TF i.op),M)
 |none=>none
def Ms (a:S_):Bool:=match a with|[]=>true|_=>false
def kS (a:Bool)(i:VI):Bool:=!a && Ms i.th && sOp i.op
def isQ (i:VI):Bool:=match jR i with|some (.q,_)=>true|_=>false
def isP (i:VI):Bool:=match jR i with|some (.p,_)=>true|_=>false
def JO (i:VI):Bool:=match tP i.op with|.read=>true|_=>false
def ahe (i:VI):Bool:=match tP i.op with|.take=>true|_=>false
def ZS (i:VI):Bool:=match tP i.op with|.call=>true|_=>false
def Ws (a:Bool)(i:VI):Bool:=isQ i && (!a ||JO i)
def agO (a b:Bool)(u v:VI):Bool:=a && b && isQ u && JO u && ZS v
def Fp (a b:Bool)(u v:VI):Bool:=match zR a u,zR b v with
 |some (R1,M1),some (R2,M2)=>rS M1 R2 && rS M1 M2 && rS M2 R1
 |_,_=>false
def Uj (a b:Bool)(u v:VI):Bool:=Fp a b u v && (kS a u ||kS b v ||(Ws a u && Ws b v) ||agO a b u v)
def CE (a:Bool)(i:VI):Bool:=a && ahe i && Ms i.th
def aae (a b:Bool)(u v:VI):Bool :=
 (!a ||CE a u) && (!b ||CE b v) && (HX u v ||(Fp a b u v && ((CE a u && CE b v) ||(CE a u && isP v) ||(isP u && CE b v))))
def sy (a b:Bool)(u v:VI):Bool:=!a && !b && Ms u.th && Ms v.th && (match u.op,v.op,u.dst,v.dst,u.guard,v.guard with
 |.ext j _ i,.ext l _ k,some d,some c,none,none=>Nat.beq j l && !Nat.beq i k && !Nat.beq d c && !Nat.beq d j && !Nat.beq c j
 |_,_,_,_,_,_=>false)
def kH (a b:Bool)(u v:VI):Bool:=Uj a b u v ||sy a b u v ||(!kS b v && aae a b u v)
def Up (tab:P_):List Edge->C_
 |[]=>[]
 |e::r=>match xr e.ground with
  |true=>RK (e.on::(match get tab e.on with|some l=>l|none=>[])) (Up tab r)
  |false=>Up tab r
def IY (ops:Array Oper):C_->P_->P_
 |[],tab=>tab
 |i::l,tab=>IY ops l ((i,match ops[i]? with|some o=>Up tab o.after.toList|none=>[])::tab)
def txG:Ground->Bool
 |.gcOnly _=>false
 |_=>true
def Yl:Ground->Bool
 |.textOnly _=>false
 |_=>true
def HY (P:Program)(n:Nat)(ops:Array Oper)(k:Nat):Nat->T_->List Oper->Bool
 |_,[],[]=>true
 |i,v::vs,o::os=>C4 P n ops v o && (o.after.toList.all λe=>Nat.blt e.on k && (!txG e.ground ||Nat.blt e.on i)) && HY P n ops k (i+1) vs os
 |_,_,_=>false
def s9 (anc:P_)(k i:Nat):Bool:=match get anc k with|some l=>et i l|none=>false
def ZO (anc:P_)(d:Nat)(l:C_)(i:Nat):Nat->T_->Bool
 |_,[]=>true
 |k,v::r=>(Nat.beq k i ||s9 anc k i ||(match ki v with
  |some (_,M)=>!et d M && (s9 anc i k ||rS l M)
  |none=>false)) && ZO anc d l i (k+1) r
def zK (v:VI):C_:=match v.op with
 |.mkslice _ l c=>b7 [l,c]
 |_=>[]
def uj (anc:P_)(vs:T_)(i:Nat):Bool:=match vs[i]? with
 |some v=>(match iL v with
  |some d=>ZO anc d (zK v) i 0 vs && (match get anc i with
   |some l=>l.all (λj=>match vs[j]? with
    |some u=>(match iL u with
     |some _=>false
     |none=>true)
    |none=>true)
   |none=>true)
  |none=>false)
 |none=>false
def Zs (anc:P_)(i j:Nat):Nat->Bool
 |0=>true
 |k+1=>(!s9 anc k i ||s9 anc k j) && Zs anc i j k
def TL (anc:P_)(nr:C_)(vs:T_)(j:Nat):C_->Bool
 |[]=>true
 |i::r=>(s9 anc i j ||(match vs[j]?,vs[i]? with|some u,some v=>kH (et j nr) (et i nr) u v|_,_=>false) ||(uj anc vs i && Zs anc i j vs.length && !s9 anc j i)) && TL anc nr vs j r
def agA (ops:Array Oper)(j:Nat)(l:C_):Bool:=match ops[j]? with
 |some o=>o.after.toList.all λe=>!Yl e.ground ||!et e.on l
 |none=>false
def Tq (ops:Array Oper)(anc:P_)(nr:C_)(vs:T_):C_->Bool
 |[]=>true
 |j::r=>TL anc nr vs j r && !et j r && Nat.blt j vs.length && Tq ops anc nr vs r
def afu (ops:Array Oper):C_->Bool
 |[]=>true
 |j::r=>agA ops j (j::r) && afu ops r
def XV (l:C_):Nat->Bool
 |0=>true
 |n+1=>et n l && XV l n
def afv (vs:T_):C_->Bool
 |[]=>true
 |i::r=>(match vs[i]? with|some v=>!JO v ||isQ v|none=>true) && afv vs r
def JP (P:Program)(n:Nat)(ops:Array Oper)(perm gco nr:C_)(vs:T_):Bool :=
 HY P n ops vs.length 0 vs ops.toList && afv vs nr && XV gco vs.length && afu ops gco && XV perm vs.length && Tq ops (IY ops perm []) nr vs perm
def wj:VC->Bool
 |.reg _ ops=>ops.all M5
 |.seq a b=>wj a && wj b
 |_=>false
inductive Mt (P:Program) (n:Nat):VC->Code->Prop
 |ghostL {a b:VC}{c:Code}:wj a=true->Mt P n b c->Mt P n (.seq a b) c
 |ghostR {a b:VC}{c:Code}:wj b=true->Mt P n a c->Mt P n (.seq a b) c
 |seq {a b:VC}{c d:Code}:Mt P n a c->Mt P n b d->Mt P n (.seq a b) (.seq c d)
 |skip:Mt P n .skip .skip
 |reg {ops:T_}{id:Nat}{os:Array Oper}:Jh P n os ops os.toList=true->Mt P n (.reg false ops) (.region id os false)
 |draw {ops:T_}{id:Nat}{os:Array Oper}:tW P n os [] ops os.toList=true->Mt P n (.reg true ops) (.region id os true)
 |drawP {perm gco nr:C_}{ops:T_}{id:Nat}{os:Array Oper}:JP P n os perm gco nr ops=true->Mt P n (.regP perm gco nr ops) (.region id os true)
 |cond {r:Rd}{o:Operand}{a b:VC}{c d:Code}:cM r o=true->Mt P n a c->Mt P n b d->Mt P n (.cond r a b) (.cond o c d)
 |block {id:Nat}{a:VC}{c:Code}:Mt P n a c->Mt P n (.block id a) (.block id c)
 |loop {a:VC}{c:Code}:Mt P n a c->Mt P n (.loop a) (.loop c)
 |rangeF {r:Rd}{o:Operand}{ps:C_}{qs:Array Nat}{a b:VC}{c d:Code}:cM r o=true->qs=ps.toArray->(∀p∈ps,p<n)->Mt P n a c->Mt P n b d->Mt P n (.rangeF r ps a b) (.rangeFunc o qs c d)
 |exit {id:Nat}:Mt P n (.exit id) (.exit id)
 |scope {a:VC}{c:Code}:Mt P n a c->Mt P n (.scope a) (.scope c)
 |label {l:Nat}:Mt P n (.label l) (.label l)
 |goto {l:Nat}:Mt P n (.goto l) (.goto l)
 |ret:Mt P n .ret .ret
def Na:C_->C_->Bool
 |[],[]=>true
 |a::r,b::s=>Nat.beq a b && Na r s
 |_,_=>false
def acL:∀{a b:C_},Na a b=true->a=b
 |[],[],_=>rfl
 |a::r,b::s,h=>by
  simp only[Na,af,aB]at h;rw[h.1,acL h.2]
 |[],_::_,h=>by simp[Na]at h
 |_::_,[],h=>by simp[Na]at h
def afm (n:Nat):C_->Bool
 |[]=>true
 |a::r=>Nat.blt a n && afm n r
def ad0 {n:Nat}:∀{l:C_},afm n l=true->∀p∈l,p<n
 |[],_,p,hp=>by simp at hp
 |a::r,h,p,hp=>by
  simp only[afm,af,Nat.blt_eq]at h;rcases aC.1 hp with rfl|hp
  .exact h.1
  .exact ad0 h.2 p hp
def jY (P:Program)(n:Nat):VC->Code->Bool
 |.seq a b,c=>(wj a && jY P n b c) ||(wj b && jY P n a c) ||(match c with
  |.seq x y=>jY P n a x && jY P n b y
  |_=>false)
 |.skip,.skip=>true
 |.reg d ops,.region _ os d'=>(!d && !d' && Jh P n os ops os.toList) ||(d && d' && tW P n os [] ops os.toList)
 |.regP perm gco nr ops,.region _ os d'=>d' && JP P n os perm gco nr ops
 |.cond r a b,.cond o x y=>cM r o && jY P n a x && jY P n b y
 |.block i a,.block j x=>Nat.beq i j && jY P n a x
 |.loop a,.loop x=>jY P n a x
 |.rangeF r ps a b,.rangeFunc o qs x y=>cM r o && Na ps qs.toList && afm n ps && jY P n a x && jY P n b y
 |.exit i,.exit j=>Nat.beq i j
 |.scope a,.scope x=>jY P n a x
 |.label i,.label j=>Nat.beq i j
 |.goto i,.goto j=>Nat.beq i j
 |.ret,.ret=>true
 |_,_=>false
def jC {P:Program}{n:Nat}:∀(v:VC) (c:Code),jY P n v c=true->Mt P n v c
 |.seq a b,c,h=>by
  simp only[jY,cZ,af]at h;rcases h with (⟨h1,h2⟩|⟨h1,h2⟩)|h
  .exact .ghostL h1 (jC b c h2)
  .exact .ghostR h1 (jC a c h2)
  .cases c<;>simp only[af,ao]at h
   exact .seq (jC a _ h.1) (jC b _ h.2)
 |.skip,c,h=>by cases c<;>simp_all [jY];exact .skip
 |.reg d ops,c,h=>by
  cases c<;>simp only[jY,cZ,af,cO,ao]at h
  rcases h with ⟨⟨h1,h2⟩,h⟩|⟨⟨h1,h2⟩,h⟩
  .subst h1 h2;exact .reg h
  .subst h1 h2;exact .draw h
 |.regP perm gco nr ops,c,h=>by
  cases c<;>simp only[jY,af,ao]at h
  obtain⟨h1,h⟩:=h;subst h1;exact .drawP h
 |.cond r a b,c,h=>by
  cases c<;>simp[jY]at h
  exact .cond h.1.1 (jC a _ h.1.2) (jC b _ h.2)
 |.block i a,c,h=>by
  cases c<;>simp only[jY,af,ao]at h
  obtain⟨h1,h2⟩:=h;rw[aB]at h1;subst h1;exact .block (jC a _ h2)
 |.loop a,c,h=>by
  cases c<;>simp only[jY,ao]at h
  exact .loop (jC a _ h)
 |.exit i,c,h=>by
  cases c<;>simp only[jY,ao]at h
  rw[aB]at h;subst h;exact .exit
 |.scope a,c,h=>by
  cases c<;>simp only[jY,ao]at h
  exact .scope (jC a _ h)
 |.label i,c,h=>by
  cases c<;>simp only[jY,ao]at h
  rw[aB]at h;subst h;exact .label
 |.goto i,c,h=>by
  cases c<;>simp only[jY,ao]at h
  rw[aB]at h;subst h;exact .goto
 |.ret,c,h=>by cases c<;>simp[jY]at h;exact .ret
 |.rangeF r ps a b,c,h=>by
  cases c<;>simp only[jY,af,ao]at h
  obtain⟨⟨⟨⟨h1,h2⟩,h3⟩,h4⟩,h5⟩:=h;have h2:=acL h2;exact .rangeF h1 (by rw[h2]) (ad0 h3) (jC a _ h4) (jC b _ h5)
 |.inScope _ _,c,h=>by grind [jY]
 |.clone _,c,h=>by grind [jY]
 |.late _ _ _ _,c,h=>by grind [jY]
def mb (P:Program):BA_->List ResultVar->Bool
 |[],[]=>true
 |.tmp i::r,.tmp j::s=>Nat.beq i j && mb P r s
 |.cell i n::r,.cell j ty::s=>Nat.beq i j && pP P ty n && mb P r s
 |_,_=>false
def LY (o:Oper)(d:Nat):Bool:=(match o.dst with|some e=>Nat.beq d e|none=>false) && o.guard.isNone
def Z1:Operand->Bool
 |.const (.slice none 0 0)=>true
 |_=>false
def Fe (i:Nat):Operand->Bool
 |.tmp j=>Nat.beq i j
 |_=>false
def Yr (d:Nat):List Oper->Bool
 |[o]=>LY o d && (match o.op with|.assign x=>Z1 x|_=>false)
 |_=>false
def af9 (P:Program)(m:Nat):List Oper->Bool
 |[a,b]=>LY a 3 && (match a.op with|.move x=>Fe 0 x|_=>false) && LY b 4 &&
   (match b.op with|.binOp .eql T x y _=>iO P T m && Fe 3 x && Z1 y|_=>false)
 |_=>false
def ahZ (P:Program)(m:Nat):List Oper->Bool
 |[a,b,c,d]=>LY a 5 && (match a.op with|.buildSlice T 0 ps=>iO P T m && ps.isEmpty|_=>false) && LY b 6 && (match b.op with|.move x=>Fe 0 x|_=>false) && LY c 7 &&
   (match c.op with
    |.call k=>Qd (px k.callee) (some .append) && Uc k && iO P (sU k) m && mE P (sU k) m && (match P.underlying (k.argTypes.getD 1 0) with|some (.slice _)=>true|_=>false) &&
      (match k.args.toList with|[x,y]=>Fe 5 x && Fe 6 y|_=>false)
    |_=>false) && LY d 2 && (match d.op with|.assign x=>Fe 7 x|_=>false)
 |_=>false
def Pi (P:Program)(m:Nat):Code->Bool
 |.seq (.region _ r0 false) (.seq (.seq (.region _ r1 false) (.cond (.tmp 4) (.seq (.region _ r2 false) .ret) .skip)) (.seq (.region _ r3 false) .ret)) =>
  Yr 2 r0.toList && af9 P m r1.toList && Yr 2 r2.toList && ahZ P m r3.toList
 |_=>false
def XG (P:Program)(m:Nat)(vf:aj)(f:FuncId):Bool:=match P.funcs[f]? with
 |some fn=>match fn.body with
  |some c=>(match vf.body with|.clone k=>Nat.beq k m|_=>false) && (match vf.results with|[.tmp 2]=>true|_=>false) && mb P vf.results fn.results.toList && Nat.beq vf.nparams 1 && Nat.ble 8 fn.ntmps && Pi P m c && (fn.name != "runtime.NumGoroutine")
  |none=>false
 |none=>false
def TA (P:Program)(n i d f:Nat)(a:VC):Code->Bool
 |.seq (.region _ os false) rest=>(match os.toList with
  |[m,k]=>LY m d && (match m.op with|.move x=>Fe i x|_=>false) && k.dst.isNone && k.guard.isNone &&
    (match k.op with
     |.defer c=>(match AB c.callee with|some g=>Nat.beq f g|none=>false) && (match c.args.toList with|[x]=>Fe d x|_=>false)
     |_=>false)
  |_=>false) && Nat.blt d n && jY P n a rest
 |_=>false
def adT (P:Program)(i d f:Nat)(a:VC)(vf:aj)(k:FuncId):Bool:=match P.funcs[k]? with
 |some fn=>match fn.body with
  |some c=>TA P fn.ntmps i d f a c && Nat.ble vf.nparams fn.ntmps && mb P vf.results fn.results.toList && (fn.name != "runtime.NumGoroutine")
  |none=>false
 |none=>false
def avt (P:Program)(vf:aj)(f:FuncId):Bool:=match P.funcs[f]? with
 |some fn=>match fn.body with
  |some c=>jY P fn.ntmps vf.body c && Nat.ble vf.nparams fn.ntmps && mb P vf.results fn.results.toList && (fn.name != "runtime.NumGoroutine")
  |none=>false
 |none=>false
abbrev ak:=@Nat.le_refl
abbrev aM:=@Nat.le_trans
structure Gh where
 obj:Nat->I_
 base:Nat->Nat
 esz:Nat->Nat
 bsz:Nat->Nat
 pm:Nat->Nat->Prop
inductive RD (w:World) (pm:Nat->Nat->Prop):D->Value->Prop
 |int (k:IntKind) (n:Int):RD w pm (.int k n) (.int k n)
 |bool (b:Bool):RD w pm (.bool b) (.bool b)
 |str (s:AG_):RD w pm (.str s) (.string ⟨s.toArray⟩)
 |nil (a:Option Addr) (cap:Nat):RD w pm (.lst []) (.slice a 0 cap)
 |lst (xs:E_) (b off m cap:Nat) (u:Nat->Value) (hm:0<m) (hcap:xs.length<=cap) (hl:∀e∈xs,e.length=m)
   (hc:∀j c,xs.flatten[j]?=some c->w.cell? ⟨b,off+j,none⟩=some (u j)∧pm b (off+j))
   (hr:∀j c,xs.flatten[j]?=some c->RD w pm c (u j)):RD w pm (.lst xs) (.slice (some ⟨b,off,none⟩) xs.length cap)
def ja (w:World)(pm:Nat->Nat->Prop)(cs:Y_)(b off:Nat):Prop :=
 ∀j c,cs[j]?=some c->∃u,w.cell? ⟨b,off+j,none⟩=some u∧RD w pm c u
def one (b:Nat):Nat->Nat:=λx=>if x=b then 1 else 0
@[simp] theorem Ak (b:Nat):one b b=1:=by simp[one]
theorem wF {b x:Nat}(h:one b x≠0):x=b:=by grind [one]
def Ds (g:Gh)(w:World)(p:Bool)(m:Nat)(xs:E_)(x:Value)(O:Nat->Nat):Prop :=
 (xs=[]∧(∀b,O b=0)∧∃a,x=.slice a 0 0)∨
 ∃b off cap c el,x=.slice (some ⟨b,off,none⟩) xs.length cap∧xs.length<=cap∧0<m∧(∀e∈xs,e.length=m)∧
  w.heap[b]?=some (.cells c el (0,0))∧off+cap*m<=c.size∧ja w g.pm xs.flatten b off∧
  (∀o,g.pm b o->p=false∧o<off+xs.length*m)∧(p=false->∀j,j<xs.length*m->g.pm b (off+j))∧O=one b
mutual
def RV (g:Gh)(w:World):AV->Value->(Nat->Nat)->Prop
 |.junk,_,O=>∀b,O b=0
 |.d c,x,O=>RD w g.pm c x∧∀b,O b=0
 |.nl,x,O=>x=.slice none 0 0∧∀b,O b=0
 |.own p m xs,x,O=>Ds g w p m xs x O
 |.gl n,x,O=>(∃a cap,x=.slice a n cap)∧∀b,O b=0
 |.agg cs,x,O=>∃xs:F_,x=.agg xs∧RVs g w cs xs.toList O
 |.tup cs,x,O=>∃xs:F_,x=.tuple xs∧RVs g w cs xs.toList O
 |.nilp,x,O=>x=.pointer none∧∀b,O b=0
 |.ptr id off,x,O=>(∃b,g.obj id=some b∧x=.pointer (some ⟨b,g.base id+off,none⟩))∧∀b,O b=0
 |.pel id i off,x,O=>(∃b,g.obj id=some b∧x=.pointer (some ⟨b,g.base id+(i*g.esz id+off),none⟩))∧∀b,O b=0
 |.pim cs off,x,O=>(∃b o,x=.pointer (some ⟨b,o+off,none⟩)∧ja w g.pm cs b o∧∀j,j<cs.length->g.pm b (o+j))∧∀b,O b=0
 |.sl id off len,x,O=>((len=0∧∃a,x=.slice a 0 0)∨
   ∃b cap,g.obj id=some b∧x=.slice (some ⟨b,g.base id+off*g.esz id,none⟩) len cap∧len<=cap∧g.base id+(off+cap)*g.esz id<=g.bsz id)∧∀b,O b=0
 |.fn f a c,x,O=>(∃xs ys:F_,x=.func (.func f) xs ys∧RVs g w a xs.toList (λ_=>0)∧RVs g w c ys.toList (λ_=>0))∧∀b,O b=0
 |.nilf,x,O=>x=.nilFunc∧∀b,O b=0
 |.yield l,x,O=>(∃b,g.obj l=some b∧x=.func (.yield b) #[] #[])∧∀b,O b=0
def RVs (g:Gh)(w:World):D_->N_->(Nat->Nat)->Prop
 |[],xs,O=>xs=[]∧∀b,O b=0
 |v::r,xs,O=>∃x s O1 O2,xs=x::s∧RV g w v x O1∧RVs g w r s O2∧∀b,O b=O1 b+O2 b
end
def gE (o:Go.Obj)(off:Nat):Bool :=
 match o with
 |.cells _ _ (lo,hi)=>lo<=off && off<hi
 |_=>false
structure bL (g:Gh)(w:World)(g':Gh)(w':World)(S:Nat->Prop):Prop where
 obj:∀id b,g.obj id=some b->g'.obj id=some b∧g'.base id=g.base id∧g'.esz id=g.esz id∧g'.bsz id=g.bsz id
 pm:∀b o,g.pm b o->g'.pm b o∧w'.cell? ⟨b,o,none⟩=w.cell? ⟨b,o,none⟩
 blk:∀b,b<w.heap.size->¬S b->w'.heap[b]?=w.heap[b]?∧∀o,g'.pm b o->g.pm b o
 size:w.heap.size<=w'.heap.size
 lp:∀(b:Nat) (rc:Go.Loop),w.heap[b]?=some (.loop rc)->∃rc':Go.Loop,w'.heap[b]?=some (.loop rc')
 same:w'.os=w.os∧w'.output=w.output∧∀a:Addr,w'.frozen? a=w.frozen? a
theorem bL.refl (g:Gh)(w:World)(S:Nat->Prop):bL g w g w S :=
 ⟨λ_ _ h=>⟨h,rfl,rfl,rfl⟩,λ_ _ h=>⟨h,rfl⟩,λ_ _ _=>⟨rfl,λ_ h=>h⟩,ak _,λ_ rc h=>⟨rc,h⟩,rfl,rfl,λ_=>rfl⟩
def bL.trans {g1 g2 g3:Gh}{w1 w2 w3:World}{S T:Nat->Prop}(h1:bL g1 w1 g2 w2 S)(h2:bL g2 w2 g3 w3 T)
  (hT:∀b,b<w1.heap.size->T b->S b):bL g1 w1 g3 w3 S where
 obj id b h:=by
  obtain⟨a,b1,c,d⟩:=h1.obj id b h
  grind [obj]
 pm b o h:=by
  obtain⟨a,c⟩:=h1.pm b o h
  grind [pm]
 blk b hb hS:=by
  obtain⟨a,c⟩:=h1.blk b hb hS
  grind [blk]
 size:=aM h1.size h2.size
 lp b rc h:=let ⟨rc1,h'⟩:=h1.lp b rc h;h2.lp b rc1 h'
 same:=⟨h2.same.1.trans h1.same.1,h2.same.2.1.trans h1.same.2.1,λa=>(h2.same.2.2 a).trans (h1.same.2.2 a)⟩
def bL.mono {g g':Gh}{w w':World}{S T:Nat->Prop}(h:bL g w g' w' S)(hST:∀b,b<w.heap.size->S b->T b):bL g w g' w' T :=
 ⟨h.obj,h.pm,λb hb hT=>h.blk b hb (λhs=>hT (hST b hb hs)),h.size,h.lp,h.same⟩
theorem RD.ext {g g':Gh}{w w':World}{S:Nat->Prop}(h:bL g w g' w' S){c:D}{x:Value}(r:RD w g.pm c x):RD w' g'.pm c x:=by
 induction r with
 |int k n=>exact .int k n
 |bool b=>exact .bool b
 |str s=>exact .str s
 |nil a cap=>exact .nil a cap
 |lst xs b off m cap u hm hcap hl hc hr ih =>
  refine .lst xs b off m cap u hm hcap hl (λj c hj=>?_) (λj c hj=>ih j c hj)
  grind [bL.pm]
theorem sk {w w':World}{b:Nat}(h:w'.heap[b]?=w.heap[b]?)(o:Nat):w'.cell? ⟨b,o,none⟩=w.cell? ⟨b,o,none⟩:=by
 grind [World.cell?]
theorem ja.ext {g g':Gh}{w w':World}{S:Nat->Prop}(h:bL g w g' w' S){cs:Y_}{b off:Nat}(r:ja w g.pm cs b off)
  (hb:w'.heap[b]?=w.heap[b]?∨∀j,j<cs.length->g.pm b (off+j)):ja w' g'.pm cs b off:=by
 intro j c hj;obtain⟨u,hu,hr⟩:=r j c hj;refine⟨u,?_,hr.ext h⟩;rcases hb with hb|hb
 .grind [sk]
 .have hlt:j<cs.length:=by
   grind
  rw[(h.pm b _ (hb j hlt)).2];exact hu
def jw {w:World}{b:Nat}{o:Go.Obj}(h:w.heap[b]?=some o):b<w.heap.size:=by
 grind
def Ds.ext {g g':Gh}{w w':World}{S:Nat->Prop}(h:bL g w g' w' S){p:Bool}{m:Nat}{xs:E_}{x:Value}{O:Nat->Nat}
  (r:Ds g w p m xs x O)(hO:∀b,O b≠0->¬S b):Ds g' w' p m xs x O:=by
 rcases r with r|⟨b,off,cap,c,el,rfl,hcap,hm,hl,hb,hsz,hrc,hpm,hp,rfl⟩
 .exact .inl r
 .have hS:¬S b:=hO b s_;obtain⟨e,hn⟩:=h.blk b (jw hb) hS;exact .inr ⟨b,off,cap,c,el,rfl,hcap,hm,hl,e.trans hb,hsz,hrc.ext h (.inl e),λo ho=>hpm o (hn o ho),λhf j hj=>(h.pm b _ (hp hf j hj)).1,rfl⟩
mutual
theorem RV.ext {g g':Gh}{w w':World}{S:Nat->Prop}(h:bL g w g' w' S):∀(v:AV) (x:Value) (O:Nat->Nat),
  RV g w v x O->(∀b,O b≠0->¬S b)->RV g' w' v x O
 |.junk,_,_,r,_=>by simpa only[RV] using r
 |.d c,x,O,r,_=>by simp only[RV]at r⊢;exact⟨r.1.ext h,r.2⟩
 |.nl,_,_,r,_=>by simpa only[RV] using r
 |.own p m xs,x,O,r,hO=>by simp only[RV]at r⊢;exact r.ext h hO
 |.gl n,_,_,r,_=>by simpa only[RV] using r
 |.agg cs,x,O,r,hO=>by
  simp only[RV]at r⊢;obtain⟨xs,e,r⟩:=r;exact⟨xs,e,RVs.ext h cs _ O r hO⟩
 |.tup cs,x,O,r,hO=>by
  simp only[RV]at r⊢;obtain⟨xs,e,r⟩:=r;exact⟨xs,e,RVs.ext h cs _ O r hO⟩
 |.nilp,_,_,r,_=>by simpa only[RV] using r
 |.ptr id off,x,O,r,_=>by
  simp only[RV]at r⊢;obtain⟨⟨b,hb,e⟩,hz⟩:=r;obtain⟨a1,a2,_,_⟩:=h.obj id b hb;exact⟨⟨b,a1,by rw[a2];exact e⟩,hz⟩
 |.pel id i off,x,O,r,_=>by
  simp only[RV]at r⊢;obtain⟨⟨b,hb,e⟩,hz⟩:=r;obtain⟨a1,a2,a3,_⟩:=h.obj id b hb;exact⟨⟨b,a1,by rw[a2,a3];exact e⟩,hz⟩
 |.pim cs off,x,O,r,_=>by
  simp only[RV]at r⊢;obtain⟨⟨b,o,e,hrc,hp⟩,hz⟩:=r;exact⟨⟨b,o,e,hrc.ext h (.inr hp),λj hj=>(h.pm b _ (hp j hj)).1⟩,hz⟩
 |.sl id off len,x,O,r,_=>by
  simp only[RV]at r⊢;obtain⟨r,hz⟩:=r;rcases r with r|⟨b,cap,hb,e,hl,hs⟩
  .exact⟨.inl r,hz⟩
  .obtain⟨a1,a2,a3,a4⟩:=h.obj id b hb;exact⟨.inr ⟨b,cap,a1,by rw[a2,a3];exact e,hl,by rw[a2,a3,a4];exact hs⟩,hz⟩
 |.fn f a c,x,O,r,_=>by
  simp only[RV]at r⊢;obtain⟨⟨xs,ys,e,ra,rc⟩,hz⟩:=r;exact⟨⟨xs,ys,e,RVs.ext h a _ _ ra s_,RVs.ext h c _ _ rc s_⟩,hz⟩
 |.nilf,_,_,r,_=>by simpa only[RV] using r
 |.yield l,x,O,r,_=>by
  simp only[RV]at r⊢;obtain⟨⟨b,hb,e⟩,hz⟩:=r;exact⟨⟨b,(h.obj l b hb).1,e⟩,hz⟩
theorem RVs.ext {g g':Gh}{w w':World}{S:Nat->Prop}(h:bL g w g' w' S):∀(vs:D_) (xs:N_) (O:Nat->Nat),
  RVs g w vs xs O->(∀b,O b≠0->¬S b)->RVs g' w' vs xs O
 |[],_,_,r,_=>by simpa only[RVs] using r
 |v::vs,xs,O,r,hO=>by
  simp only[RVs]at r⊢;obtain⟨x,s,O1,O2,e,r1,r2,hs⟩:=r;exact⟨x,s,O1,O2,e,RV.ext h v x O1 r1 (λb hb=>hO b (by rw[hs b];omega)),RVs.ext h vs s O2 r2 (λb hb=>hO b (by rw[hs b];omega)),hs⟩
end
abbrev bW:=@List.pairwise_cons
abbrev bn:=@if_true
abbrev ac:=@if_pos
abbrev zero:Nat->Nat:=λ_=>0
def cU {α:Type}(l:List (Nat×α)):Prop:=l.Pairwise λa b=>He a.1 b.1
def He.tr {a b c:Nat}(h:He a b)(k:He b c):He a c:=o_
def He.ne {a b:Nat}(h:He a b):b≠a:=o_
def awT (a b:Nat):He a b∨a=b∨He b a:=o_
def He.of {i k:Nat}(h:¬k=i)(l:abG i k):He i k:=o_
def He.of' {i k:Nat}(h:¬k=i)(l:¬abG i k):He k i:=o_
section
variable {α:Type}
def alq {l:List (Nat×α)}{i:Nat}{p:Nat×α}(h:p∈del l i):p∈l∧p.1≠i:=by
 induction l<;>grind [abF,ov]
theorem cU.del {l:List (Nat×α)}(h:cU l)(i:Nat):cU (Vm.del l i):=by
 induction l with
 |nil=>grind [abF]
 |cons a r ih =>
  have hr:=bW.1 h;rw[ov];split
  .exact ih hr.2
  .exact bW.2 ⟨λp hp=>hr.1 p (alq hp).1,ih hr.2⟩
def rL {l:List (Nat×α)}{i:Nat}(h:∀p∈l,p.1≠i):del l i=l:=by
 induction l with
 |nil=>rfl
 |cons a r ih =>
  grind [ov]
def abu {l:List (Nat×α)}{i:Nat}{x:α}{p:Nat×α}(h:p∈put l i x):p=(i,x)∨p∈l:=by
 induction l<;>grind [abI,wn]
theorem cU.put {l:List (Nat×α)}(h:cU l)(i:Nat)(x:α):cU (Vm.put l i x):=by
 induction l with
 |nil=>simp[abI,cU]
 |cons a r ih =>
  have hr:=bW.1 h;rw[wn];split
  .rename_i e;subst e;exact bW.2 ⟨hr.1,hr.2⟩
  .split
   .refine bW.2 ⟨λp hp=>?_,h⟩
    grind
   .refine bW.2 ⟨λp hp=>?_,ih hr.2⟩;rcases abu hp with rfl|hp<;>grind
end
def RL {α:Type}(Q:Nat->α->(Nat->Nat)->Prop):List (Nat×α)->(Nat->Nat)->Prop
 |[],O=>∀b,O b=0
 |(k,v)::r,O=>∃O1 O2,Q k v O1∧RL Q r O2∧∀b,O b=O1 b+O2 b
section
variable {α:Type}{Q Q':Nat->α->(Nat->Nat)->Prop}
def RL.imp' {l:List (Nat×α)}{O:Nat->Nat}(r:RL Q l O)
  (h:∀k v O1,(k,v)∈l->(∀b,O1 b<=O b)->Q k v O1->Q' k v O1):RL Q' l O:=by
 induction l generalizing O<;>grind [RL]
theorem RL.take {l:List (Nat×α)}{O:Nat->Nat}(r:RL Q l O){i:Nat}{v:α}(hg:get l i=some v) :
  ∃O1 O2,Q i v O1∧RL Q (del l i) O2∧∀b,O1 b+O2 b<=O b:=by
 induction l generalizing O with
 |nil=>grind [AS]
 |cons a r' ih =>
  obtain⟨k,u⟩:=a;obtain⟨O1,O2,q,rr,hs⟩:=r;rw[iU]at hg;rw[ov];by_cases e:k=i
  .subst e;simp only[bn]at hg⊢;have:∃O3,RL Q (del r' k) O3∧∀b,O3 b<=O2 b:=by
    clear ih hs q
    induction r' generalizing O2 with
    |nil=>exact⟨O2,rr,λ_=>ak _⟩
    |cons a r'' ih2 =>
     obtain⟨P1,P2,q',rr',hs'⟩:=rr;obtain⟨O3,r3,h3⟩:=ih2 P2 rr';rw[ov];split
     .grind
     .exact⟨λb=>P1 b+O3 b,⟨P1,O3,q',r3,λ_=>rfl⟩,λb=>by simp_all⟩
   grind
  .simp only[aa e]at hg⊢;obtain⟨P1,P2,q',rr',hs'⟩:=ih rr hg;exact⟨P1,λb=>O1 b+P2 b,q',⟨O1,P2,q,rr',λ_=>rfl⟩,λb=>by grind⟩
def RL.drop {l:List (Nat×α)}{O:Nat->Nat}(r:RL Q l O)(i:Nat):∃O2,RL Q (del l i) O2∧∀b,O2 b<=O b:=by
 induction l generalizing O with
 |nil=>exact⟨O,r,λ_=>ak _⟩
 |cons a r' ih =>
  obtain⟨O1,O2,q,rr,hs⟩:=r;obtain⟨O3,r3,h3⟩:=ih rr;rw[ov];split
  .grind
  .exact⟨λb=>O1 b+O3 b,⟨O1,O3,q,r3,λ_=>rfl⟩,λb=>by simp_all⟩
def RL.put {l:List (Nat×α)}(hs:cU l){i:Nat}{O1 O2:Nat->Nat}(r:RL Q (del l i) O2){x:α}(q:Q i x O1) :
  ∃O,RL Q (Vm.put l i x) O∧∀b,O b=O1 b+O2 b:=by
 induction l generalizing O2 with
 |nil=>exact⟨λb=>O1 b+O2 b,⟨O1,O2,q,r,λ_=>rfl⟩,λ_=>rfl⟩
 |cons a r' ih =>
  obtain⟨k,u⟩:=a;have hp:=bW.1 hs;rw[wn];by_cases e:k=i
  .subst e;simp only[bn];rw[ov,ac rfl,rL λp hp'=>(hp.1 p hp').ne]at r;exact⟨λb=>O1 b+O2 b,⟨O1,O2,q,r,λ_=>rfl⟩,λ_=>rfl⟩
  .simp only[aa e];rw[ov,aa e]at r;split
   .rename_i hle;have hlt:He i k:=.of e hle;rw[rL λp hp'=>(hlt.tr (hp.1 p hp')).ne]at r;exact⟨λb=>O1 b+O2 b,⟨O1,O2,q,r,λ_=>rfl⟩,λ_=>rfl⟩
   .obtain⟨P1,P2,q',rr',hs'⟩:=r;obtain⟨O,ro,ho⟩:=ih hp.2 rr';exact⟨λb=>P1 b+O b,⟨P1,O,q',ro,λ_=>rfl⟩,λb=>by grind⟩
theorem RL.get {l:List (Nat×α)}{O:Nat->Nat}(r:RL Q l O){i:Nat}{v:α}(hg:Vm.get l i=some v) :
  ∃O1,Q i v O1∧∀b,O1 b<=O b:=by
 grind [take]
end
theorem fP {xs:E_}{m:Nat}(h:∀e∈xs,e.length=m):xs.flatten.length=xs.length*m:=by
 induction xs<;>grind
def ja.nil (w:World)(pm:Nat->Nat->Prop)(b off:Nat):ja w pm [] b off:=λj c h=>by simp at h
theorem ja.rd {w:World}{pm:Nat->Nat->Prop}{xs:E_}{b off m cap:Nat}(hm:0<m)(hcap:xs.length<=cap)(hl:∀e∈xs,e.length=m)
  (hc:ja w pm xs.flatten b off)(hp:∀j,j<xs.length*m->pm b (off+j)):RD w pm (.lst xs) (.slice (some ⟨b,off,none⟩) xs.length cap):=by
 refine .lst xs b off m cap (λj=>(w.cell? ⟨b,off+j,none⟩).getD (.bool false)) hm hcap hl (λj c hj=>?_) (λj c hj=>?_)
 .obtain⟨u,hu,_⟩:=hc j c hj
  grind [fP]
 .obtain⟨u,hu,hr⟩:=hc j c hj
  simp_all
mutual
theorem RV.share {g:Gh}{w:World}:∀(v:AV) (x:Value) (O:Nat->Nat),RV g w v x O->RV g w (share v) x zero
 |.own false m xs,x,O,r=>by
  simp only[RV,Vm.share]at r⊢;refine⟨?_,λ_=>by trivial⟩;rcases r with ⟨rfl,_,a,rfl⟩|⟨b,off,cap,c,el,rfl,hcap,hm,hl,hb,hsz,hrc,hpm,hp,rfl⟩
  .exact .nil a 0
  .exact hrc.rd hm hcap hl (hp rfl)
 |.own true m xs,x,O,r=>by simp[RV,Vm.share]
 |.agg cs,x,O,r=>by
  simp only[RV,Vm.share]at r⊢;obtain⟨xs,e,r⟩:=r;exact⟨xs,e,RVs.share cs _ O r⟩
 |.tup cs,x,O,r=>by
  simp only[RV,Vm.share]at r⊢;obtain⟨xs,e,r⟩:=r;exact⟨xs,e,RVs.share cs _ O r⟩
 |.junk,_,_,r=>by simp[RV,Vm.share]
 |.d c,_,_,r=>by simp only[RV,Vm.share]at r⊢;exact⟨r.1,λ_=>by trivial⟩
 |.nl,_,_,r=>by simp only[RV,Vm.share]at r⊢;exact⟨r.1,λ_=>by trivial⟩
 |.gl n,_,_,r=>by simp only[RV,Vm.share]at r⊢;exact⟨r.1,λ_=>by trivial⟩
 |.nilp,_,_,r=>by simp only[RV,Vm.share]at r⊢;exact⟨r.1,λ_=>by trivial⟩
 |.ptr _ _,_,_,r=>by simp only[RV,Vm.share]at r⊢;exact⟨r.1,λ_=>by trivial⟩
 |.pel _ _ _,_,_,r=>by simp only[RV,Vm.share]at r⊢;exact⟨r.1,λ_=>by trivial⟩
 |.pim _ _,_,_,r=>by simp only[RV,Vm.share]at r⊢;exact⟨r.1,λ_=>by trivial⟩
 |.sl _ _ _,_,_,r=>by simp only[RV,Vm.share]at r⊢;exact⟨r.1,λ_=>by trivial⟩
 |.fn _ _ _,_,_,r=>by simp only[RV,Vm.share]at r⊢;exact⟨r.1,λ_=>by trivial⟩
 |.nilf,_,_,r=>by simp only[RV,Vm.share]at r⊢;exact⟨r.1,λ_=>by trivial⟩
 |.yield _,_,_,r=>by simp only[RV,Vm.share]at r⊢;exact⟨r.1,λ_=>by trivial⟩
theorem RVs.share {g:Gh}{w:World}:∀(vs:D_) (xs:N_) (O:Nat->Nat),RVs g w vs xs O->RVs g w (shareAll vs) xs zero
 |[],_,_,r=>by simp only[RVs,af5]at r⊢;exact⟨r.1,λ_=>by trivial⟩
 |v::vs,xs,O,r=>by
  simp only[RVs,pw]at r⊢;obtain⟨x,s,O1,O2,e,r1,r2,_⟩:=r;exact⟨x,s,zero,zero,e,RV.share v x O1 r1,RVs.share vs s O2 r2,λ_=>by trivial⟩
end
abbrev ae:=@Option.some.injEq
abbrev aQ:=@Prod.mk.injEq
def mr:cG->Option Code
 |.normal=>none
 |.exit i=>some (.exit i)
 |.goto l=>some (.goto l)
 |.ret=>some .ret
abbrev kr (g:Gh)(w:World)(e:aV)(t:F_)(O:Nat->Nat):Prop :=
 RL (λk v O=>k<t.size∧RV g w v (t.getD k undef) O) e O
def jT (P:Program)(g:Gh)(w:World)(id:Nat):Obj->(Nat->Nat)->Prop
 |.cells cs,O=>∃b c el O1,g.obj id=some b∧g.base id=0∧g.esz id=1∧g.bsz id=cs.length∧
   w.heap[b]?=some (.cells c el (0,0))∧RVs g w cs c.toList O1∧(∀o,¬g.pm b o)∧∀x,O x=O1 x+one b x
 |.arr m xs,O=>(xs=[]∧g.bsz id=0∧g.esz id=m∧0<m∧(∃b,g.obj id=some b)∧∀b,O b=0)∨
   ∃b c el,g.obj id=some b∧g.esz id=m∧0<m∧w.heap[b]?=some (.cells c el (0,0))∧g.bsz id<=c.size∧
    g.base id+xs.length*m<=g.bsz id∧(∀e∈xs,e.length=m)∧ja w g.pm xs.flatten b (g.base id)∧(∀o,¬g.pm b o)∧∀x,O x=one b x
 |.loop snap params assign body busy pend,O=>∃b,∃rc:Go.Loop,g.obj id=some b∧w.heap[b]?=some (.loop rc)∧
   rc.state=(if busy then .busy else if pend.isNone then .ready else .done)∧rc.pending=pend.bind mr∧rc.params=params.toArray∧
   Mt P rc.tmps.size assign rc.assign∧Mt P rc.tmps.size body rc.body∧cU snap∧kr g w snap rc.tmps zero∧(∀p∈params,p<rc.tmps.size)∧
   ∀x,O x=one b x
abbrev Cd (P:Program)(g:Gh)(w:World)(h:am)(O:Nat->Nat):Prop:=RL (jT P g w) h O
structure S (P:Program)(g:Gh)(w:World)(st:St)(t:F_)(O:Nat->Nat):Prop where
 se:cU st.env
 sh:cU st.hs.heap
 parts:∃Oe Oh,kr g w st.env t Oe∧Cd P g w st.hs.heap Oh∧∀b,O b=Oe b+Oh b
 le:∀b,O b<=1
 hi:∀b,O b≠0->b<w.heap.size
 fresh:∀id,st.hs.next<=id->g.obj id=none
 pmlt:∀b o,g.pm b o->b<w.heap.size
def ev (t:F_):Operand->Value
 |.tmp i=>t.getD i undef
 |.const v=>v
 |.global g=>.pointer (some ⟨g,0,none⟩)
 |.func f=>.func (.func f) #[] #[]
def FI {a b:IntKind}(h:l8 a b=true):a=b:=by
 cases a<;>cases b<;>first|rfl|grind [l8]
theorem RD.const {w:World}{pm:Nat->Nat->Prop}{c:D}{v:Value}(h:okD c v=true):RD w pm c v:=by
 unfold okD at h;split at h
 .simp only[af,decide_eq_true_eq]at h;obtain⟨h1,rfl⟩:=h;rw[FI h1];exact .int _ _
 .simp only[beq_iff_eq]at h;subst h;exact .bool _
 .rename_i s t;simp only[beq_iff_eq]at h;subst h;have:=RD.str (w:=w) (pm:=pm) t.data.toList;omega
 .exact .nil _ _
 simp_all
theorem RV.const1 {g:Gh}{w:World}{c:AV}{v:Value}(h:NL c v=true):RV g w c v zero:=by
 unfold NL at h
 grind [RV,RD.const]
theorem RVs.consts {g:Gh}{w:World}:∀{cs:D_}{vs:N_},nW cs vs=true->RVs g w cs vs zero
 |[],[],_=>by grind [RVs]
 |c::cs,v::vs,h=>by
  simp only[nW,af]at h;exact⟨v,vs,zero,zero,rfl,.const1 h.1,RVs.consts h.2,λ_=>rfl⟩
 |[],_::_,h=>by grind [nW]
 |_::_,[],h=>by grind [nW]
def RV.const {g:Gh}{w:World}{c:AV}{v:Value}(h:ab5 c v=true):RV g w c v zero:=by
 unfold ab5 at h
 grind [RV,RVs.consts,const1]
section
variable {P:Program}{g:Gh}{w:World}{t:F_}{O:Nat->Nat}
def S.of_env {st:St}(s:S P g w st t O){Oe Oh O':Nat->Nat}{e':aV}(re:kr g w e' t Oe)(rh:Cd P g w st.hs.heap Oh)(hse:cU e')
  (ho:∀b,O' b=Oe b+Oh b)(hle:∀b,O' b<=O b):S P g w ⟨e',st.hs⟩ t O' :=
 ⟨hse,s.sh,⟨Oe,Oh,re,rh,ho⟩,λb=>aM (hle b) (s.le b),λb hb=>s.hi b d_,s.fresh,s.pmlt⟩
theorem S.rd {st:St}(s:S P g w st t O){r:Rd}{o:Operand}(hc:cM r o=true){v:AV}{e':aV}(h:rd st.env r=some (v,e')) :
  ∃Ov O',RV g w v (ev t o) Ov∧S P g w ⟨e',st.hs⟩ t O'∧∀b,Ov b+O' b<=O b:=by
 obtain⟨Oe,Oh,re,rh,ho⟩:=s.parts
 cases r with
 |c c =>
  simp only[Vm.rd,ae,aQ]at h;obtain⟨rfl,rfl⟩:=h;refine⟨zero,O,?_,s,λb=>by simp⟩
  cases o with
  |const x=>exact .const hc
  |func f =>
   cases c<;>try (simp[cM]at hc;done)
   rename_i f' a c
   cases a<;>try (simp[cM]at hc;done)
   cases c<;>try (simp[cM]at hc;done)
   grind [cM,Nat.beq_eq,RV,ev,RVs]
  |tmp i=>simp[cM]at hc
  |global i=>simp[cM]at hc
 |s i =>
  cases o<;>try (simp[cM]at hc;done)
  simp only[cM,aB]at hc;subst hc;simp only[Vm.rd]at h
  cases hg:get st.env i with
  |none=>simp_all
  |some u =>
   simp only[hg,ae,aQ]at h;obtain⟨rfl,rfl⟩:=h;obtain⟨O1,⟨_,q⟩,hq⟩:=RL.get re hg;exact⟨zero,O,RV.share u _ O1 q,s,λb=>by simp⟩
 |m i =>
  cases o<;>try (simp[cM]at hc;done)
  simp only[cM,aB]at hc;subst hc;simp only[Vm.rd]at h
  cases hg:get st.env i with
  |none=>simp_all
  |some u =>
   simp only[hg,ae,aQ]at h;obtain⟨rfl,rfl⟩:=h;obtain⟨O1,O2,⟨_,q⟩,r2,hs⟩:=RL.take re hg;refine⟨O1,λb=>O2 b+Oh b,q,s.of_env r2 rh (s.se.del i) (λ_=>rfl) (λb=>?_),λb=>?_⟩
   all_goals grind
theorem S.rdAll {st:St}{rs:U_}{os:List Operand}(hc:dZ rs os=true){vs:D_}{e':aV}(s:S P g w st t O)(h:rdAll st.env rs=some (vs,e')) :
  ∃Ov O',RVs g w vs (os.map (ev t)) Ov∧S P g w ⟨e',st.hs⟩ t O'∧∀b,Ov b+O' b<=O b:=by
 induction rs generalizing os vs st O with
 |nil =>
  cases os<;>simp[dZ]at hc
  obtain⟨rfl,rfl⟩:=h;exact⟨zero,O,by simp[RVs],s,λb=>by simp⟩
 |cons r rs ih =>
  cases os with
  |nil=>simp[dZ]at hc
  |cons o os =>
   simp only[dZ,af]at hc;simp only[Vm.rdAll]at h
   cases h1:Vm.rd st.env r with
   |none=>simp_all
   |some p =>
    obtain⟨v,e1⟩:=p;simp only[h1]at h
    cases h2:Vm.rdAll e1 rs with
    |none=>simp_all
    |some p =>
     simp only[h2,ae,aQ]at h;obtain⟨rfl,rfl⟩:=h;obtain⟨O1,O2,rv,s2,l2⟩:=s.rd hc.1 h1;obtain⟨O3,O4,rvs,s4,l4⟩:=ih (st:=⟨e1,st.hs⟩) hc.2 s2 h2;refine⟨λb=>O1 b+O3 b,O4,?_,s4,λb=>?_⟩
     all_goals grind [RVs]
end
structure aAq (P:Program)(g:Gh)(w:World)(t:F_)(O:Nat->Nat)(st':St)(a:AV)(res:Result Next)(x:Value)(w':World)(g':Gh)(Oa O':Nat->Nat):Prop where
 run:res=.ok (.value x) w'∨(res=.ok .skip w'∧x=undef)
 val:RV g' w' a x Oa
 st:S P g' w' st' t O'
 ext:bL g w g' w' λb=>O b≠0
 le:∀b,Oa b+O' b<=1
 old:∀b,b<w.heap.size->Oa b+O' b<=O b
 hi:∀b,Oa b≠0->b<w'.heap.size
def fE (P:Program)(g:Gh)(w:World)(t:F_)(O:Nat->Nat)(st':St)(a:AV)(res:Result Next):Prop :=
 ∃x w' g' Oa O',aAq P g w t O st' a res x w' g' Oa O'
section
variable {P:Program}{g:Gh}{w:World}{t:F_}{O:Nat->Nat}{st st':St}{a:AV}{o:Oper}
theorem fE.pure {res:Result Next}{x:Value}{Oa O':Nat->Nat}(s0:S P g w st t O)(h:res=.ok (.value x) w)(r:RV g w a x Oa)
  (s:S P g w st' t O')(hle:∀b,Oa b+O' b<=O b):fE P g w t O st' a res :=
 ⟨x,w,g,Oa,O',.inl h,r,s,.refl _ _ _,λb=>aM (hle b) (s0.le b),λb _=>hle b,λb hb=>s0.hi b d_⟩
theorem fE.flat {res:Result Next}{x:Value}{O':Nat->Nat}(s0:S P g w st t O)(h:res=.ok (.value x) w)(r:RV g w a x zero)
  (s:S P g w st' t O')(hle:∀b,O' b<=O b):fE P g w t O st' a res :=
 .pure s0 h r s λb=>by simp_all
def S.le_left {O' Ov:Nat->Nat}(h:∀b,Ov b+O' b<=O b):∀b,O' b<=O b:=λb=>by grind
def Rt {e:aV}{r:Rd}{α:Type}{k:AV->aV->Option α}{y:α}
  (h:(match rd e r with|some (v,e)=>k v e|none=>none)=some y):∃v e',rd e r=some (v,e')∧k v e'=some y:=by
 grind
def ayO {x:Rd}(s:S P g w st t O)(h:TN x st=some (a,st'))(hc:bD P (.mov x) o.op=true) :
  fE P g w t O st' a ((execOp (ev t) o).run P w):=by
 obtain⟨v,e',h1,h2⟩:=Rt h;obtain⟨rfl,rfl⟩:=h2;obtain⟨dst,op,ty,pos,aft,gd⟩:=o;simp only[bD]at hc;split at hc
 .obtain⟨Ov,O',rv,s',l⟩:=s.rd hc h1;exact .pure s (by simp[execOp]) rv s' l
 .obtain⟨Ov,O',rv,s',l⟩:=s.rd hc h1;exact .pure s (by simp[execOp]) rv s' l
 .rename_i c;simp only[af]at hc;obtain⟨⟨⟨hb,ha⟩,ht⟩,hx⟩:=hc
  cases x with
  |s i=>simp at hx
  |m i=>simp at hx
  |c y =>
   split at hx
   .rename_i n hy
    cases hu:P.underlying (sU c) with
    |none=>simp_all
    |some d =>
     cases d<;>simp[hu]at hx
     rename_i l e;injection hy with hy
     subst hy;subst hx;obtain⟨rfl,rfl⟩:=h1;obtain⟨callee,args,argTypes⟩:=c;have hcal:callee=.builtin .len:=by
      cases callee<;>simp[px,Qd]at hb
      simp_all
     subst hcal;have hty:argTypes[0]?=some (sU ⟨.builtin .len,args,argTypes⟩):=by
      simp_all [sU]
     have hargs:∃z,(args.map (ev t))[0]?=some z:=by
      simp_all
     obtain⟨z,hz⟩:=hargs;refine .flat s (x:=.int .i64 l) ?_ (by simp only[RV];exact⟨.int _ _,λ_=>trivial⟩) s (λb=>ak _);simp[execOp,resolve,invoke,builtin,Builtin.len_,hty,hz,underlying,hu,goInt]
   simp_all
 simp_all
def avU {c x y:Rd}(s:S P g w st t O)(h:kQ c x y st=some (a,st'))(hc:bD P (.pick c x y) o.op=true) :
  fE P g w t O st' a ((execOp (ev t) o).run P w):=by
 obtain⟨dst,op,ty,pos,aft,gd⟩:=o;simp only[bD]at hc;split at hc
 .rename_i c' a' b';simp only[af]at hc;obtain⟨⟨h1,h2⟩,h3⟩:=hc;unfold kQ at h
  cases hr:rd st.env c with
  |none=>simp_all
  |some p =>
   obtain⟨v,e1⟩:=p;obtain⟨Ov,O1,rv,s1,l1⟩:=s.rd h1 hr;simp only[hr]at h
   cases v<;>try (simp at h;done)
   rename_i d
   cases d<;>try (simp at h;done)
   rename_i tb;have hev:ev t c'=.bool tb:=by
    obtain⟨rv,_⟩:=rv;generalize ev t c'=z at rv;cases rv;rfl
   obtain⟨v,e2,h4,h5⟩:=Rt h;obtain⟨rfl,rfl⟩:=h5
   cases tb with
   |true =>
    obtain⟨Ov2,O2,rv2,s2,l2⟩:=s1.rd h2 h4;exact .pure s (by simp_all [execOp,asBool]) rv2 s2 λb=>by grind
   |false =>
    obtain⟨Ov2,O2,rv2,s2,l2⟩:=s1.rd h3 h4;exact .pure s (by simp_all [execOp,asBool]) rv2 s2 λb=>by grind
 simp_all
def atF {x:Rd}(s:S P g w st t O)(h:HU x st=some (a,st'))(hc:bD P (.nilck x) o.op=true) :
  fE P g w t O st' a ((execOp (ev t) o).run P w):=by
 obtain⟨dst,op,ty,pos,aft,gd⟩:=o;simp only[bD]at hc;split at hc
 .obtain⟨v,e',h1,h2⟩:=Rt h;obtain⟨Ov,O',rv,s',l⟩:=s.rd hc h1
  cases v<;>simp only[ae,aQ,reduceCtorEq]at h2
  all_goals
   obtain⟨rfl,rfl⟩:=h2;refine .pure s ?_ rv s' l;simp only[RV]at rv
  .obtain⟨⟨b,_,e⟩,_⟩:=rv;simp[execOp,e]
  .obtain⟨⟨b,_,e⟩,_⟩:=rv;simp[execOp,e]
  .obtain⟨⟨b,o,e,_⟩,_⟩:=rv;simp[execOp,e]
  .obtain⟨⟨xs,ys,e,_⟩,_⟩:=rv;simp[execOp,e]
  .obtain⟨⟨b,_,e⟩,_⟩:=rv;simp[execOp,e]
 simp_all
theorem al9 {k:IntKind}{n:Int}(h1:k.min<=n)(h2:n<=k.max):k.wrap n=n:=by
 cases k<;>simp[IntKind.min,IntKind.max,IntKind.signed,IntKind.bits]at h1 h2<;>
  simp[IntKind.wrap,IntKind.bits,IntKind.signed]<;>
  first|omega|(split<;>omega)
def Oj (k:IntKind)(n:Int):wr k n=k.wrap n:=by
 have H:∀lo hi:Int,lo=k.min->hi=k.max->ot lo hi k n=k.wrap n:=by
  grind [ot,al9]
 cases k<;>first|rfl|exact H _ _ k_ (by decide)
def zq {v:AV}{x:Value}{Ov:Nat->Nat}{k:IntKind}{n:Int}(r:RV g w v x Ov)(h:v=.d (.int k n)):x=.int k n:=by
 subst h;cases r.1;rfl
def awO {k:IntKind}{x:Rd}(s:S P g w st t O)(h:If k x st=some (a,st'))(hc:bD P (.conv k x) o.op=true) :
  fE P g w t O st' a ((execOp (ev t) o).run P w):=by
 obtain⟨dst,op,ty,pos,aft,gd⟩:=o;simp only[bD]at hc;split at hc
 .rename_i src ds y;simp only[af]at hc;obtain⟨⟨h1,h2⟩,h3⟩:=hc;unfold If at h
  cases hr:rd st.env x with
  |none=>simp_all
  |some p =>
   obtain⟨v,e1⟩:=p;obtain⟨Ov,O1,rv,s1,l1⟩:=s.rd h3 hr;simp only[hr]at h
   cases v<;>try (simp at h;done)
   rename_i d
   cases d<;>try (simp at h;done)
   rename_i j n;obtain⟨rfl,rfl⟩:=h;have hx:=zq rv rfl;simp only[apr]at h1;simp only[KH]at h2
   cases hd:P.underlying ds with
   |none=>simp_all
   |some dd =>
    cases dd<;>simp[hd]at h1
    have:=FI h1
    cases hs:P.underlying src with
    |none=>simp_all
    |some sd =>
     refine .flat s (x:=.int _ (IntKind.wrap _ n)) ?_ (by simp only[RV];exact⟨by rw[Oj];exact .int _ _,λ_=>trivial⟩) s1 (S.le_left l1)
     simp_all [execOp,convert,underlying,Conv.intToInt]
 simp_all
end
abbrev ee:=@List.drop_eq_getElem_cons
abbrev aS:=@Sem.run_bind
abbrev bp:=@Result.andThen_ok
abbrev vL:=@Nat.le_of_ble_eq_true
section
variable {P:Program}{g:Gh}{w:World}{t:F_}{O:Nat->Nat}{st st':St}{a:AV}{o:Oper}
def Bg {v:AV}{x:Value}{Ov:Nat->Nat}{b:Bool}(r:RV g w v x Ov)(h:v=B_ b):x=.bool b:=by
 subst h;obtain⟨r,_⟩:=r;cases r;rfl
def ahI {v:AV}{x:Value}{Ov:Nat->Nat}{s:AG_}(r:RV g w v x Ov)(h:v=.d (.str s)):x=.string ⟨s.toArray⟩:=by
 subst h;obtain⟨r,_⟩:=r;cases r;rfl
def uE (k:IntKind)(n:Int):RV g w (.d (.int k n)) (.int k n) zero:=by simp only[RV];exact⟨.int _ _,λ_=>trivial⟩
theorem HR (b:Bool):RV g w (B_ b) (.bool b) zero:=by simp only[RV];exact⟨.bool _,λ_=>trivial⟩
def Tc {x y:Rd}{x' y':Operand}(s:S P g w st t O)(hx:cM x x'=true)(hy:cM y y'=true){β:Type}{k:AV->AV->aV->Option β}{r:β}
  (h:(match rd st.env x with
   |some (a,e)=>(match rd e y with
    |some (b,e)=>k a b e
    |none=>none)
   |none=>none)=some r) :
  ∃a b e Oa Ob O',RV g w a (ev t x') Oa∧RV g w b (ev t y') Ob∧S P g w ⟨e,st.hs⟩ t O'∧(∀c,Oa c+Ob c+O' c<=O c)∧k a b e=some r:=by
 grind [S.rd]
def YS (op:BinOp)(ty:TypeId)(x y:Operand)(k j:IntKind)(m n:Int):(eqGuard op ty x y (.int k m) (.int j n)).run P w=.ok () w:=by
 simp_all [eqGuard]
def WZ (op:BinOp)(ty:TypeId)(x y:Operand)(m n:Bool):(eqGuard op ty x y (.bool m) (.bool n)).run P w=.ok () w:=by
 simp_all [eqGuard]
def Zq (op:BinOp)(ty:TypeId)(x y:Operand)(m n:ByteArray):(eqGuard op ty x y (.string m) (.string n)).run P w=.ok () w:=by
 simp_all [eqGuard]
def axU (bs:ByteArray):∀(n i:Nat) (r:AG_),bs.size-i=n->ByteArray.toList.loop bs i r=r.reverse++bs.data.toList.drop i:=by
 intro n
 induction n with
 |zero =>
  intro i r h;rw[ByteArray.toList.loop];have hi:¬i<bs.size:=o_;have:bs.data.toList.length<=i:=u_
  grind [List.drop_eq_nil_of_le]
 |succ n ih =>
  intro i r h;have hi:i<bs.size:=o_;rw[ByteArray.toList.loop];rw[ih (i+1) _ o_];have hd:bs.data.toList.drop i=bs.get! i::bs.data.toList.drop (i+1):=by
   have hl:i<bs.data.toList.length:=hi;rw[ee hl]
   congr 1
   show _=bs.data.get!Internal i
   simp_all
  simp_all
def SB (s:AG_):(⟨s.toArray⟩:ByteArray).toList=s:=by
 unfold ByteArray.toList
 simp_all [axU]
def adY {op:BinOp}{k j:IntKind}{m n:Int}{d:D}(h:H4 op k m n=some d) :
  ∃x,(Op.shift op k m j n).run P w=.ok x w∧RD w g.pm d x:=by
 unfold H4 at h;split at h
 .simp at h
 .have hn':¬n<0:=u_;unfold Op.shift
  cases op<;>simp only[reduceCtorEq,ae]at h
  .subst h;refine⟨.int k (k.wrap (m*2 ^ min n.toNat k.bits)),?_,?_⟩
   .simp[hn']
   .rw[Oj];exact .int _ _
  .subst h;refine⟨.int k (m.fdiv (2 ^ min n.toNat k.bits)),?_,?_⟩
   .simp[hn']
   .exact .int _ _
def ara {op:BinOp}(hs:op≠.shl)(hs':op≠.shr){ty:TypeId}{k:IntKind}{m n:Int}{d:D}(h:jq op k m n=some d) :
  ∃x,(binOp op ty (.int k m) (.int k n)).run P w=.ok x w∧RD w g.pm d x:=by
 cases op<;>simp only[jq,F3,reduceCtorEq,ae]at h<;>(try exact absurd rfl hs)<;>(try exact absurd rfl hs')
 .subst h;rw[Oj];exact⟨_,by simp[binOp,Op.intArith],.int _ _⟩
 .subst h;rw[Oj];exact⟨_,by simp[binOp,Op.intArith],.int _ _⟩
 .subst h;rw[Oj];exact⟨_,by simp[binOp,Op.intArith],.int _ _⟩
 .split at h
  .simp at h
  .rename_i hn;simp only[ae]at h;subst h;rw[Oj];exact⟨_,by simp_all [binOp,Op.intDiv],.int _ _⟩
 .split at h
  .simp at h
  .rename_i hn;simp only[ae]at h;subst h;exact⟨_,by simp_all [binOp,Op.intDiv],.int _ _⟩
 .subst h;exact⟨_,by simp[binOp,Op.intBits],.int _ _⟩
 .subst h;exact⟨_,by simp[binOp,Op.intBits],.int _ _⟩
 .subst h;exact⟨_,by simp[binOp,Op.intBits],.int _ _⟩
 .subst h;exact⟨_,by simp[binOp,Op.intBits],.int _ _⟩
 .subst h;exact⟨_,by simp[binOp,Op.intCmp];rfl,by exact .bool _⟩
 .subst h;exact⟨_,by simp[binOp,Op.intCmp];rfl,by exact .bool _⟩
 .subst h;exact⟨_,by simp[binOp,Op.intCmp];rfl,by exact .bool _⟩
 .subst h;exact⟨_,by simp[binOp,Op.intCmp];rfl,by exact .bool _⟩
 .subst h;exact⟨_,by simp[binOp,Op.intCmp];rfl,by exact .bool _⟩
 .subst h;exact⟨_,by simp[binOp,Op.intCmp];rfl,by exact .bool _⟩
def axo {op:BinOp}{ty:TypeId}{va vb r:AV}{x y:Value}{Oa Ob:Nat->Nat}(ra:RV g w va x Oa)(rb:RV g w vb y Ob)(h:dw op va vb=some r)
  (x' y':Operand):∃z,((do eqGuard op ty x' y' x y;binOp op ty x y:Sem Value)).run P w=.ok z w∧RV g w r z zero:=by
 unfold dw at h;split at h
 .rename_i k m j n;have hx:=zq ra rfl;have hy:=zq rb rfl;subst hx hy;simp only[aS,YS,bp];split at h
  .rename_i d hd;simp only[ae]at h;subst h;have fin:(∃z,(binOp op ty (.int k m) (.int j n)).run P w=.ok z w∧RD w g.pm d z)->
     ∃z,(binOp op ty (.int k m) (.int j n)).run P w=.ok z w∧RV g w (.d d) z zero :=
    λ⟨z,h1,h2⟩=>⟨z,h1,by grind [RV]⟩
   apply fin;unfold v8 at hd;split at hd
   .simp_all [binOp,adY]
   .simp_all [binOp,adY]
   .rename_i h1 h2;split at hd
    .rename_i hk;have:=FI hk
     simp_all [ara]
    simp_all
  simp_all
 .rename_i s u;have hx:=ahI ra rfl;have hy:=ahI rb rfl;subst hx hy;simp only[aS,Zq,bp]
  cases op<;>simp only[reduceCtorEq,ae]at h
  .split at h
   .rename_i hb;have hb2:s.length+u.length<=4294967296:=vL hb;injection h with h
    subst h;refine⟨.string (⟨s.toArray⟩++⟨u.toArray⟩),?_,?_⟩
    .have h1:(⟨s.toArray⟩:ByteArray).size=s.length:=by simp[ByteArray.size]
     have h2:(⟨u.toArray⟩:ByteArray).size=u.length:=by simp[ByteArray.size]
     have hm:¬(((s.length+u.length:Nat):Int) > IntKind.i64.max):=by
      have:IntKind.i64.max=9223372036854775807:=rfl;omega
     simp_all [binOp,Op.stringOp]
    .simp only[RV];exact⟨.str _,λ_=>trivial⟩
   simp_all
  .subst h
   simp_all [binOp,Op.stringOp,SB,HR]
  .subst h
   simp_all [binOp,Op.stringOp,SB,HR]
 simp_all
def ayz {op:BinOp}{x y:Rd}(s:S P g w st t O)(h:NJ op x y st=some (a,st'))(hc:bD P (.bin op x y) o.op=true) :
  fE P g w t O st' a ((execOp (ev t) o).run P w):=by
 obtain⟨dst,opp,ty,pos,aft,gd⟩:=o;simp only[bD]at hc;split at hc
 .rename_i op' ty' x' y' yt;simp only[af,aca,decide_eq_true_eq]at hc;obtain⟨⟨rfl,h1⟩,h2⟩:=hc;simp only[NJ,Ui]at h;obtain⟨va,vb,e,Oa,Ob,O',ra,rb,s',l,hk⟩:=Tc s h1 h2 h;split at hk
  .rename_i r hr;obtain⟨rfl,rfl⟩:=hk;obtain⟨z,hz,rz⟩:=axo (P:=P) (ty:=ty') ra rb hr x' y';refine .flat s (x:=z) ?_ rz s' λb=>by grind
   simp only[execOp];rw[aS,hz];simp
  simp_all
 simp_all
def aY {ty:TypeId}{d:TypeDesc}(h:P.underlying ty=some d):(underlying ty).run P w=.ok d w:=by simp_all [underlying]
def Ju {ty:TypeId}(hu:P.underlying ty=some .bool)(d:Nat)(m n:Bool):(Op.equalIn (d+1) ty (.bool m) (.bool n)).run P w=.ok (m == n) w:=by
 unfold Op.equalIn;rw[aS,aY hu];simp
def abx {ty:TypeId}(hu:P.underlying ty=some .bool)(neg:Bool)(m n:Bool) :
  (binOp (match neg with|true=>.neq|false=>.eql) ty (.bool m) (.bool n)).run P w=.ok (.bool (match neg with|true=>!(m == n)|false=>m == n)) w:=by
 have h:(Op.equal ty (.bool m) (.bool n)).run P w=.ok (m == n) w:=Ju hu 9999 m n
 cases neg
 .show((do pure (.bool (<-Op.equal ty (.bool m) (.bool n))):Sem Value)).run P w=_
  simp_all
 .show((do pure (.bool (!(<-Op.equal ty (.bool m) (.bool n)))):Sem Value)).run P w=_
  simp_all
def axW {neg:Bool}{x y:Rd}(s:S P g w st t O)(h:Nx neg x y st=some (a,st'))(hc:bD P (.binb neg x y) o.op=true) :
  fE P g w t O st' a ((execOp (ev t) o).run P w):=by
 obtain⟨dst,opp,ty,pos,aft,gd⟩:=o;simp only[bD]at hc;split at hc
 .simp only[af,aca,decide_eq_true_eq]at hc;obtain⟨⟨⟨h0,hb⟩,h1⟩,h2⟩:=hc;obtain⟨va,vb,e,Oa,Ob,O',ra,rb,s',l,hk⟩:=Tc s h1 h2 h;split at hk
  .rename_i m n;obtain⟨rfl,rfl⟩:=hk;have hx:=Bg ra rfl;have hy:=Bg rb rfl;simp only[Mp]at hb;split at hb
   .rename_i hu;refine .flat s (x:=_) ?_ (HR _) s' λb=>by grind
    have h:=abx (P:=P) (w:=w) hu neg m n;simp only[execOp,hx,hy];rw[aS,aS,WZ]
    cases neg
    all_goals simp_all
   simp_all
  simp_all
 simp_all
def aBR {op:UnOp}{x:Rd}(s:S P g w st t O)(h:abC op x st=some (a,st'))(hc:bD P (.un op x) o.op=true) :
  fE P g w t O st' a ((execOp (ev t) o).run P w):=by
 obtain⟨dst,opp,ty,pos,aft,gd⟩:=o;simp only[bD]at hc;split at hc
 .rename_i op' ty' x';simp only[af,ayA,decide_eq_true_eq]at hc;obtain⟨rfl,h1⟩:=hc;obtain⟨v,e,hr,hk⟩:=Rt h;obtain⟨Ov,O',rv,s',l⟩:=s.rd h1 hr;split at hk
  .rename_i r hun;simp only[ae,aQ]at hk;obtain⟨rfl,rfl⟩:=hk;unfold abZ at hun;split at hun
   .have hx:=zq rv rfl
    cases op<;>simp only[reduceCtorEq,ae]at hun
    .subst hun;rw[Oj];exact .flat s (x:=_) (by simp_all [execOp,Op.unary,Op.intArith]) (uE _ _) s' (S.le_left l)
    .split at hun
     .rename_i d hd;simp only[ae]at hun;subst hun;simp only[F3,ae]at hd;subst hd;exact .flat s (x:=_) (by simp_all [execOp,Op.unary,Op.intBits]) (uE _ _) s' (S.le_left l)
     simp_all
   .have hx:=Bg rv rfl
    cases op<;>simp only[reduceCtorEq,ae]at hun
    subst hun;exact .flat s (x:=_) (by simp_all [execOp,Op.unary]) (HR _) s' (S.le_left l)
   simp_all
  simp_all
 simp_all
end
theorem lE (b off n:Nat):(⟨b,off,none⟩:Addr).add n=⟨b,off+n,none⟩:=by
 grind [Addr.add]
section
variable {g:Gh}{w:World}
theorem RVs.length {cs:D_}{xs:N_}{O:Nat->Nat}(r:RVs g w cs xs O):xs.length=cs.length:=by
 induction cs generalizing xs O<;>grind [RVs]
def RVs.split {a b:D_}{xs:N_}{O:Nat->Nat}(r:RVs g w (a++b) xs O) :
  ∃O1 O2,RVs g w a (xs.take a.length) O1∧RVs g w b (xs.drop a.length) O2∧∀c,O c=O1 c+O2 c:=by
 induction a generalizing xs O with
 |nil=>exact⟨zero,O,by simp[RVs],u_,λc=>by simp⟩
 |cons v a ih =>
  obtain⟨x,s,O1,O2,rfl,r1,r2,h⟩:=r;obtain⟨P1,P2,q1,q2,h2⟩:=ih r2;refine⟨λc=>O1 c+P1 c,P2,?_,u_,λc=>by grind⟩
  grind [RVs]
theorem RVs.join {a b:D_}{xs ys:N_}{O1 O2:Nat->Nat}(r1:RVs g w a xs O1)(r2:RVs g w b ys O2) :
  RVs g w (a++b) (xs++ys) λc=>O1 c+O2 c:=by
 induction a generalizing xs O1 with
 |nil =>
  simp_all [RVs]
 |cons v a ih =>
  grind [RVs]
def RVs.get {cs:D_}{xs:N_}{O:Nat->Nat}(r:RVs g w cs xs O){i:Nat}{v:AV}(h:cs[i]?=some v) :
  ∃x O1,xs[i]?=some x∧RV g w v x O1∧∀c,O1 c<=O c:=by
 induction cs generalizing xs O i<;>grind [RVs]
def RVs.pull {cs:D_}{xs:N_}{O:Nat->Nat}(r:RVs g w cs xs O){i:Nat}{v:AV}(h:cs[i]?=some v) :
  ∃x O1 O2,xs[i]?=some x∧RV g w v x O1∧RVs g w (cs.set i .junk) xs O2∧∀c,O1 c+O2 c=O c:=by
 induction cs generalizing xs O i with
 |nil=>simp at h
 |cons c cs ih =>
  obtain⟨x,s,O1,O2,rfl,r1,r2,hs⟩:=r
  cases i with
  |zero =>
   simp at h;subst h;refine⟨x,O1,O2,rfl,r1,?_,λc=>(hs c).symm⟩;exact⟨x,s,zero,O2,rfl,by simp[RV],r2,λc=>by simp⟩
  |succ i =>
   obtain⟨y,P1,P2,h1,h2,h3,h4⟩:=ih r2 h;refine⟨y,P1,λc=>O1 c+P2 c,u_,h2,?_,λc=>by grind⟩
   grind [RVs]
theorem RVs.sub {cs:D_}{xs:N_}{O:Nat->Nat}(r:RVs g w cs xs O)(off n:Nat) :
  ∃O1,RVs g w (Vm.sub cs off n) ((xs.drop off).take n) O1∧∀c,O1 c<=O c:=by
 have hlen:=r.length;have e:cs=cs.take off++(Vm.sub cs off n++(cs.drop off).drop n):=by
  grind [Vm.sub,List.take_append_drop]
 rw[e]at r;obtain⟨O1,O2,r1,r2,h⟩:=r.split;obtain⟨P1,P2,q1,q2,h2⟩:=r2.split;refine⟨P1,?_,λc=>by grind⟩
 grind [List.length_take,Nat.min_eq_left,Nat.min_eq_right,List.drop_eq_nil_of_le,Vm.sub,List.length_drop,List.take_of_length_le]
def Rb {v:AV}{n:Nat}{x:Value}{O:Nat->Nat}(h:lenOf v=some n)(r:RV g w v x O):∃a cap,x=.slice a n cap:=by
 unfold lenOf at h;split at h<;>simp only[ae,reduceCtorEq]at h
 .obtain⟨r,_⟩:=r
  cases r<;>simp_all
 all_goals grind [RV,Ds]
end
section
variable {P:Program}{g:Gh}{w:World}{t:F_}{O:Nat->Nat}{st st':St}{a:AV}{o:Oper}
def qh {c:Callee}{b:Builtin}(h:Qd (px c) (some b)=true):c=.builtin b:=by
 cases c<;>simp[px,Qd]at h
 simp_all
def abw {c:Call}(h:Nat.blt 0 c.argTypes.size=true):c.argTypes[0]?=some (sU c):=by
 simp_all [sU]
def aol {x:Rd}{as:Array Operand}(h:dZ [x] as.toList=true):∃y,as=#[y]∧cM x y=true:=by
 obtain⟨l⟩:=as
 match l,h with
 |[],h=>simp[dZ]at h
 |[y],h=>grind [dZ]
 |_::_::_,h=>simp[dZ]at h
def amM {x x2:Rd}{as:Array Operand}(h:dZ [x,x2] as.toList=true):∃y y2,as=#[y,y2]∧cM x y=true∧cM x2 y2=true:=by
 obtain⟨l⟩:=as
 match l,h with
 |[],h=>simp[dZ]at h
 |[y],h=>simp[dZ]at h
 |[y,y2],h=>grind [dZ]
 |_::_::_::_,h=>simp[dZ]at h
def azx {x:Rd}(s:S P g w st t O)(h:TG x st=some (a,st'))(hc:bD P (.len x) o.op=true) :
  fE P g w t O st' a ((execOp (ev t) o).run P w):=by
 simp only[bD]at hc;split at hc
 .simp only[af]at hc;obtain⟨⟨⟨h1,h2⟩,h3⟩,h4⟩:=hc;have:=qh h1;obtain⟨y,e1,hy⟩:=aol h4;obtain⟨v,e',h5,h6⟩:=Rt h;obtain⟨Ov,O',rv,s',l⟩:=s.rd hy h5;have hty:=abw h2;split at h6
  .rename_i n hn;obtain⟨rfl,rfl⟩:=h6;obtain⟨ad,cap,hx⟩:=Rb hn rv;split at h3
   .refine .flat s (x:=.int .i64 n) ?_ (uE _ _) s' (S.le_left l)
    simp_all [execOp,resolve,invoke,builtin,Builtin.len_,goInt,aY]
   simp_all
  simp_all
 simp_all
def ayi {x:Rd}(s:S P g w st t O)(h:Pk x st=some (a,st'))(hc:bD P (.cap x) o.op=true) :
  fE P g w t O st' a ((execOp (ev t) o).run P w):=by
 obtain⟨dst,op,ty,pos,aft,gd⟩:=o;simp only[bD]at hc;split at hc
 .rename_i c;simp only[af]at hc;obtain⟨⟨⟨h1,h2⟩,h3⟩,h4⟩:=hc;obtain⟨callee,args,ats⟩:=c;have:=qh h1;subst this;obtain⟨y,e1,hy⟩:=aol h4;subst e1;unfold Pk at h;split at h
  .rename_i e' h5;obtain⟨Ov,O',rv,s',l⟩:=s.rd hy h5;have hty:=abw h2;obtain⟨rfl,rfl⟩:=h;split at h3
   .rename_i e hu;refine .flat s (x:=.int .i64 0) ?_ (uE _ _) s' (S.le_left l);simp[execOp,resolve,invoke,builtin,Builtin.cap_,hty,rv.1,aY hu,goInt]
   simp_all
  simp_all
 simp_all
def XE {v r:AV}{off:Nat}{x:Value}{Ov:Nat->Nat}(h:iy off v=some r)(rv:RV g w v x Ov) :
  ∃b o,x=.pointer (some ⟨b,o,none⟩)∧RV g w r (.pointer (some ⟨b,o+off,none⟩)) zero:=by
 unfold iy at h
 grind [RV]
def aB7 {off:Nat}{p:Rd}(s:S P g w st t O)(h:aco off p st=some (a,st'))(hc:bD P (.fa off p) o.op=true) :
  fE P g w t O st' a ((execOp (ev t) o).run P w):=by
 obtain⟨dst,op,ty,pos,aft,gd⟩:=o;simp only[bD]at hc;split at hc
 .simp only[af]at hc;obtain⟨h1,h2⟩:=hc;obtain⟨v,e',h5,h6⟩:=Rt h;obtain⟨Ov,O',rv,s',l⟩:=s.rd h2 h5;split at h6
  .rename_i r hr;obtain⟨rfl,rfl⟩:=h6;obtain⟨b,k,hx,rr⟩:=XE hr rv;simp only[alX]at h1;split at h1
   .split at h1
    .split at h1
     .rename_i i hi;have hz:¬i.size=0:=by
       grind [Nat.blt_eq]
      refine .flat s (x:=_) ?_ rr s' (S.le_left l)
      simp_all [execOp,Instr.fieldAt,Instr.sureAddr,fieldPlace,sizeOf,typeInfo,lE,aY]
     simp_all
    simp_all
   simp_all
  simp_all
 simp_all
def av8 {f:FuncId}{first caps:U_}(s:S P g w st t O)(h:I8 f first caps st=some (a,st'))(hc:bD P (.mkfn f first caps) o.op=true) :
  fE P g w t O st' a ((execOp (ev t) o).run P w):=by
 obtain⟨dst,op,ty,pos,aft,gd⟩:=o;simp only[bD]at hc;split at hc
 .rename_i f' xs ys;simp only[af,aB]at hc;obtain⟨⟨rfl,h1⟩,h2⟩:=hc;unfold I8 at h;split at h
  .rename_i va e1 h3;obtain⟨O1,O2,r1,s1,l1⟩:=s.rdAll h1 h3;split at h
   .rename_i vc e2 h4;obtain⟨O3,O4,r2,s2,l2⟩:=s1.rdAll h2 h4;obtain⟨rfl,rfl⟩:=h;refine .flat s (x:=.func (.func f) (xs.map (ev t)) (ys.map (ev t))) (by simp[execOp,Instr.makeFunc]) ?_ s2 λb=>by grind
    simp only[RV];exact⟨⟨_,_,rfl,by simpa using RVs.share _ _ _ r1,by simpa using RVs.share _ _ _ r2⟩,λ_=>trivial⟩
   simp_all
  simp_all
 simp_all
end
abbrev fX:=@getElem?_pos
abbrev bB:=@List.getElem?_eq_getElem
section
variable {P:Program}{g:Gh}{w:World}{t:F_}{O:Nat->Nat}{st st':St}{a:AV}{o:Oper}
def JW {v:AV}{n:Nat}{x:Value}{Ov:Nat->Nat}(h:qR v=some n)(r:RV g w v x Ov):∃k,x=.int k (n:Int):=by
 unfold qR at h;split at h<;>simp only[ae,reduceCtorEq]at h;obtain⟨r,_⟩:=r;cases r;simp_all
def Ff {v:AV}{n top:Nat}{x:Value}{Ov:Nat->Nat}(h:dW v top=some n)(r:RV g w v x Ov):(∃k,x=.int k (n:Int))∧n<=top:=by
 unfold dW at h;split at h
 .split at h<;>simp only[ae,reduceCtorEq]at h;obtain⟨r,_⟩:=r;cases r;simp_all
 simp_all
def eQ {ty:TypeId}{n:Nat}(h:xk P ty n=true):(sizeOf ty).run P w=.ok n w:=by
 unfold xk at h;split at h<;>simp_all [sizeOf,typeInfo]
def xI {ty:TypeId}(h:Cz P ty=true):(isAgg ty).run P w=.ok true w:=by
 unfold Cz at h;split at h<;>simp_all [isAgg,aY]
def Cn {ty:TypeId}(h:Kr P ty=true):(isAgg ty).run P w=.ok false w:=by
 unfold Kr at h;split at h<;>try (simp at h;done)
 simp_all [isAgg,aY]
def agI {ty:TypeId}{n:I_}(ht:pP P ty n=true){cs:D_}{xs:F_}{Ov:Nat->Nat}(r:RVs g w cs xs.toList Ov){off:Nat}{v:AV}
  (h:FU n cs off=some v) :
  ∃x O1,(part ty xs off).run P w=.ok x w∧RV g w v x O1∧∀b,O1 b<=Ov b:=by
 cases n with
 |none =>
  simp only[pP]at ht;obtain⟨x,O1,hx,rv,l⟩:=r.get h;refine⟨x,O1,?_,rv,l⟩
  simp_all [part,Cn]
 |some n =>
  simp only[pP,af]at ht;simp only[FU]at h;split at h
  .simp only[ae]at h;subst h;obtain⟨O1,r1,l⟩:=r.sub off n;refine⟨.agg (xs.extract off (off+n)),O1,by simp[part,xI ht.1,eQ ht.2],?_,l⟩
   simp_all [RV]
  simp_all
def ax4 {off:Nat}{n:I_}{x:Rd}(s:S P g w st t O)(h:OV off n x st=some (a,st'))(hc:bD P (.fld off n x) o.op=true) :
  fE P g w t O st' a ((execOp (ev t) o).run P w):=by
 simp only[bD]at hc;split at hc
 .simp only[af]at hc;obtain⟨h1,h2⟩:=hc;unfold OV at h;split at h
  .rename_i cs e' h5;obtain⟨Ov,O',rv,s',l⟩:=s.rd h2 h5;obtain⟨xs,hx,rv⟩:=rv;simp only[UW]at h1;split at h1
   .split at h1
    .simp only[af,aB]at h1;obtain⟨rfl,h1⟩:=h1;split at h
     .rename_i v hv;obtain⟨rfl,rfl⟩:=h;obtain⟨z,O1,hz,rz,l1⟩:=agI (P:=P) h1 rv hv;refine .pure s (x:=z) ?_ rz s' λb=>by grind
      simp_all [execOp,Instr.field,asAgg,aY]
     simp_all
    simp_all
   simp_all
  simp_all
 simp_all
def ax5 {j:Nat}{mv:Bool}{i:Nat}(s:S P g w st t O)(h:C0 j mv i st=some (a,st'))(hc:bD P (.ext j mv i) o.op=true) :
  fE P g w t O st' a ((execOp (ev t) o).run P w):=by
 obtain⟨dst,op,ty,pos,aft,gd⟩:=o;simp only[bD]at hc;split at hc
 .simp only[af,aB]at hc;obtain⟨rfl,rfl⟩:=hc;unfold C0 at h;split at h
  .rename_i vs hg;split at h
   .rename_i v hv;obtain⟨Oe,Oh,re,rh,ho⟩:=s.parts;obtain⟨O1,O2,⟨hlt,q⟩,r2,hs⟩:=RL.take re hg;obtain⟨xs,hx,q⟩:=q;obtain⟨x,P1,P2,hx2,rv,rj,hl⟩:=q.pull hv;have hrun:(execOp (ev t) ⟨dst,.extract (.tmp j) i,ty,pos,aft,gd⟩).run P w=.ok (.value x) w:=by
     simp_all [execOp,ev,Instr.extract]
    cases mv with
    |false =>
     grind [fE.flat,RV.share]
    |true =>
     obtain⟨rfl,rfl⟩:=h;obtain⟨O3,r3,h3⟩:=RL.put s.se r2 (i:=j) (x:=AV.tup (vs.set i .junk)) (O1:=P2) ⟨hlt,by grind [RV]⟩;refine .pure s hrun rv (s.of_env (O':=λb=>O3 b+Oh b) r3 rh (s.se.put _ _) (λ_=>rfl) λb=>?_) λb=>?_
     all_goals grind
   simp_all
  simp_all
 simp_all
def arb {ty:TypeId}{l e:Nat}(hu:P.underlying ty=some (.array l e)){xs:F_}{k:IntKind}{i n:Nat}(hi:i<l)(hs:xk P e n=true) :
  (Instr.index ty (.agg xs) (.int k (i:Int))).run P w=(part e xs (i*n)).run P w:=by
 simp[Instr.index,asIntOf,aY hu,hi,eQ hs]
def aBl {len n:Nat}{agg:Bool}{x i:Rd}(s:S P g w st t O)(h:Xg len n agg x i st=some (a,st'))(hc:bD P (.ix len n agg x i) o.op=true) :
  fE P g w t O st' a ((execOp (ev t) o).run P w):=by
 obtain⟨dst,op,ty,pos,aft,gd⟩:=o;simp only[bD]at hc;split at hc
 .simp only[af]at hc;obtain⟨⟨h1,h2⟩,h3⟩:=hc;unfold Xg at h;split at h
  .rename_i cs e1 h5;obtain⟨Ov,O1,rv,s1,l1⟩:=s.rd h2 h5;obtain⟨xs,hx,rv⟩:=rv;split at h
   .rename_i vi e2 h6;obtain⟨Oi,O2,ri,s2,l2⟩:=s1.rd h3 h6;split at h
    .rename_i k hk;obtain⟨kk,hk2⟩:=JW hk ri;split at h
     .simp at h
     .have hlt:k<len:=by grind [Nat.ble_eq]
      simp only[XR]at h1;split at h1
      .rename_i l el hu;simp only[af,aB]at h1;obtain⟨⟨rfl,hsz⟩,hag⟩:=h1;split at h
       .rename_i v hv;obtain⟨rfl,rfl⟩:=h;have hc:pP P el (agV agg n)=true:=by
         grind [pP,agV]
        obtain⟨z,O3,hz,rz,l3⟩:=agI (P:=P) hc rv hv;refine .pure s (x:=z) ?_ rz s2 λb=>by grind
        simp only[execOp,hx,hk2];rw[aS,arb hu hlt hsz,hz];rfl
       simp_all
      simp_all
    simp_all
   simp_all
  simp_all
 simp_all
def ayl {x i:Rd}(s:S P g w st t O)(h:Pc x i st=some (a,st'))(hc:bD P (.ixs x i) o.op=true) :
  fE P g w t O st' a ((execOp (ev t) o).run P w):=by
 simp only[bD]at hc;split at hc
 .simp only[af]at hc;obtain⟨⟨h1,h2⟩,h3⟩:=hc;unfold Pc at h;split at h
  .rename_i str e1 h5;obtain⟨Ov,O1,rv,s1,l1⟩:=s.rd h2 h5;have hx:=ahI rv rfl;split at h
   .rename_i vi e2 h6;obtain⟨Oi,O2,ri,s2,l2⟩:=s1.rd h3 h6;split at h
    .rename_i k hk;obtain⟨kk,hk2⟩:=JW hk ri;split at h
     .rename_i b hb;obtain⟨rfl,rfl⟩:=h;simp only[O7]at h1;split at h1
      .refine .flat s (x:=.int .u8 b.toNat) ?_ (uE _ _) s2 λc=>by grind
       have hlen:k<str.length:=by
        grind
       have hg:(⟨str.toArray⟩:ByteArray)[k]?=some b:=by
        have hs:k<(⟨str.toArray⟩:ByteArray).size:=hlen;rw[fX (⟨str.toArray⟩:ByteArray) k hs];rw[bB hlen]at hb;exact hb
       simp_all [execOp,Instr.index,asIntOf,aY]
      simp_all
     simp_all
    simp_all
   simp_all
  simp_all
 simp_all
def awX {len n:Nat}{p i:Rd}(s:S P g w st t O)(h:MM len n p i st=some (a,st'))(hc:bD P (.iarr len n p i) o.op=true) :
  fE P g w t O st' a ((execOp (ev t) o).run P w):=by
 obtain⟨dst,op,ty,pos,aft,gd⟩:=o;simp only[bD]at hc;split at hc
 .simp only[af]at hc;obtain⟨⟨h1,h2⟩,h3⟩:=hc;obtain⟨v,vi,e,Ov,Oi,O',rv,ri,s',l,hk⟩:=Tc s h2 h3 h;split at hk
  .rename_i k hk1;obtain⟨kk,hk2⟩:=JW hk1 ri;split at hk
   .simp at hk
   .have hlt:k<len:=by grind [Nat.ble_eq]
    split at hk
    .rename_i r hr;obtain⟨rfl,rfl⟩:=hk;obtain⟨b,off,hx,rr⟩:=XE hr rv;simp only[Um]at h1;split at h1
     .rename_i l' el hu;simp only[af,aB]at h1;obtain⟨⟨rfl,hsz⟩,_⟩:=h1;refine .flat s (x:=_) ?_ rr s' λc=>by grind
      simp[execOp,hx,hk2,Instr.indexAt,asIntOf,aY hu,Instr.sureAddr,hlt,eQ hsz,lE]
     simp_all
    simp_all
  simp_all
 simp_all
end
abbrev Am:=@Nat.succ_mul
abbrev cx:=@List.take_of_length_le
abbrev bG:=@List.mem_of_mem_drop
abbrev dh:=@List.mem_of_mem_take
abbrev b6:=@List.getElem?_drop
abbrev dB:=@Nat.add_assoc
abbrev b8:=@Nat.mul_le_mul_right
theorem JK {xs:E_}{m:Nat}(h:∀e∈xs,e.length=m)(l:Nat):(xs.drop l).flatten=xs.flatten.drop (l*m):=by
 induction xs generalizing l with
 |nil=>simp
 |cons a r ih =>
  cases l<;>simp_all [Am,List.drop_append]
theorem JB {xs:E_}{m:Nat}(h:∀e∈xs,e.length=m)(l:Nat):(xs.take l).flatten=xs.flatten.take (l*m):=by
 induction xs generalizing l with
 |nil=>simp
 |cons a r ih =>
  cases l<;>simp_all [Am,List.take_append,cx]
def H5 {xs:E_}{m:Nat}(h:∀e∈xs,e.length=m)(l n:Nat):∀e∈sub xs l n,e.length=m :=
 λe he=>h e (bG (dh he))
def nK {xs:E_}{m:Nat}(h:∀e∈xs,e.length=m)(l n:Nat):(sub xs l n).flatten=sub xs.flatten (l*m) (n*m):=by
 grind [sub,JB,JK]
def alm {α:Type}{xs:List α}{l n j:Nat}{c:α}(h:(sub xs l n)[j]?=some c):xs[l+j]?=some c∧j<n:=by
 grind [sub]
def j6 {α:Type}{xs:List α}{l n:Nat}(h:l+n<=xs.length):(sub xs l n).length=n:=by
 grind [sub]
theorem S2 {xs:E_}{m:Nat}(h:∀e∈xs,e.length=m){i j:Nat}{e:Y_}{c:D}(hi:xs[i]?=some e)(hj:e[j]?=some c) :
  xs.flatten[i*m+j]?=some c:=by
 rw[<-b6,<-JK h]
 grind [List.drop_eq_getElem_cons]
section
variable {g:Gh}{w:World}
theorem RD.list {pm:Nat->Nat->Prop}{xs:E_}{x:Value}(r:RD w pm (.lst xs) x) :
  (xs=[]∧∃a cap,x=.slice a 0 cap)∨∃b off m cap,x=.slice (some ⟨b,off,none⟩) xs.length cap∧0<m∧xs.length<=cap∧(∀e∈xs,e.length=m)∧
   ja w pm xs.flatten b off∧∀j,j<xs.length*m->pm b (off+j):=by
 cases r with
 |nil a cap=>simp_all
 |lst xs b off m cap u hm hcap hl hc hr =>
  refine .inr ⟨b,off,m,cap,rfl,hm,hcap,hl,λj c hj=>⟨u j,(hc j c hj).1,hr j c hj⟩,λj hj=>?_⟩;have:j<xs.flatten.length:=by grind [fP]
  simp_all
def abl {h:am}{v:AV}{xs:E_}{x:Value}{O:Nat->Nat}(he:elems h v=some xs)(hn:vg v=false)(r:RV g w v x O) :
  RD w g.pm (.lst xs) x:=by
 cases v with
 |d c =>
  cases c<;>simp only[elems,reduceCtorEq,ae]at he
  grind [RV]
 |nl=>simp only[elems,ae]at he;subst he;rw[r.1];exact .nil _ _
 |own p m ys =>
  cases p<;>simp only[elems,reduceCtorEq,ae]at he
  have:=RV.share _ _ _ r
  grind [share,RV]
 |sl id off len=>simp[vg]at hn
 |_=>simp[elems]at he
theorem ja.sub {pm:Nat->Nat->Prop}{cs:Y_}{b off:Nat}(r:ja w pm cs b off)(l n:Nat):ja w pm (Vm.sub cs l n) b (off+l):=by
 intro j c hj;obtain⟨h1,_⟩:=alm hj;obtain⟨u,hu,hr⟩:=r _ c h1
 grind
def ja.elem {pm:Nat->Nat->Prop}{xs:E_}{m b off:Nat}(r:ja w pm xs.flatten b off)(hl:∀e∈xs,e.length=m){i:Nat}{e:Y_}
  (hi:xs[i]?=some e):ja w pm e b (off+i*m):=by
 intro j c hj;obtain⟨u,hu,hr⟩:=r _ c (S2 hl hi hj)
 grind
def Fy {α:Type}{xs:List α}{i:Nat}{x:α}(h:xs[i]?=some x):i<xs.length:=by
 grind
end
section
variable {P:Program}{g:Gh}{w:World}{t:F_}{O:Nat->Nat}{st st':St}{a:AV}{o:Oper}
def iq {ty:TypeId}{m:Nat}(h:iO P ty m=true):∃e,P.underlying ty=some (.slice e)∧xk P e m=true∧0<m∧P.bytesOf e<=4096:=by
 grind [iO,Nat.blt_eq,Nat.ble_eq]
def UJ {ty:TypeId}{n:Nat}(h:iO P ty n=true){b off len cap i:Nat}{k:IntKind}(hi:i<len) :
  (Instr.indexAt ty (.slice (some ⟨b,off,none⟩) len cap) (.int k (i:Int))).run P w=.ok (.pointer (some ⟨b,off+i*n,none⟩)) w:=by
 obtain⟨e,hu,hs,_⟩:=iq h;simp[Instr.indexAt,asIntOf,aY hu,hi,eQ hs,lE]
def aCh {n:Nat}{x i:Rd}(s:S P g w st t O)(h:ahm n x i st=some (a,st'))(hc:bD P (.ia n x i) o.op=true) :
  fE P g w t O st' a ((execOp (ev t) o).run P w):=by
 obtain⟨dst,op,ty,pos,aft,gd⟩:=o;simp only[bD]at hc;split at hc
 .rename_i ty' y j;simp only[af]at hc;obtain⟨⟨h1,h2⟩,h3⟩:=hc;obtain⟨v,vi,e,Ov,Oi,O',rv,ri,s',l,hk⟩:=Tc s h2 h3 h;split at hk
  .rename_i k hk1;obtain⟨kk,hk2⟩:=JW hk1 ri;have fin:∀{r:AV}{b off:Nat},(∃len cap bo oo,ev t y=.slice (some ⟨bo,oo,none⟩) len cap∧k<len∧b=bo∧off=oo+k*n)->
     RV g w r (.pointer (some ⟨b,off,none⟩)) zero->fE P g w t O ⟨e,st.hs⟩ r ((execOp (ev t) ⟨dst,.indexAddr ty' y j,ty,pos,aft,gd⟩).run P w):=by
    rintro r b off ⟨len,cap,bo,oo,hx,hlt,rfl,rfl⟩ rr
    refine .flat s (x:=_) ?_ rr s' λc=>by grind
    simp only[execOp,hx,hk2];rw[aS,UJ h1 hlt];rfl
   have hnsl:vg v=false->∀{xs:E_}{el:Y_},elems st.hs.heap v=some xs->xs[k]?=some el->el.length=n->
     fE P g w t O ⟨e,st.hs⟩ (.pim el 0) ((execOp (ev t) ⟨dst,.indexAddr ty' y j,ty,pos,aft,gd⟩).run P w):=by
    intro hn xs el he hxk hlen;have rd:=abl he hn rv;rcases rd.list with ⟨rfl,_⟩|⟨b,off,m,cap,hx,hm,hcap,hl,hrc,hp⟩
    .simp_all
    .have hmn:m=n:=d_;subst hmn;refine fin (b:=b) (off:=off+k*m) ⟨_,cap,b,off,hx,Fy hxk,rfl,rfl⟩ ?_;simp only[RV];refine⟨⟨b,off+k*m,s_,hrc.elem hl hxk,λq hq=>?_⟩,λ_=>trivial⟩;rw[dB];refine hp _ ?_;have:=Fy hxk;have:(k+1)*m<=xs.length*m:=b8 _ this
     grind
   split at hk
   .rename_i id off len;split at hk
    .simp at hk
    .have hlt:k<len:=by grind [Nat.ble_eq]
     obtain⟨hsl,_⟩:=rv;rcases hsl with ⟨rfl,_⟩|⟨b,cap,hob,hx,_,_⟩
     .omega
     obtain⟨Oe,Oh,re,rh,ho⟩:=s.parts
     grind [Nat.beq_eq,RL.get,jT,RV]
   .have hn:vg v=false:=by cases v<;>first|rfl|simp_all
    grind [Nat.beq_eq]
  simp_all
 simp_all
end
abbrev bl:=@if_false
section
variable {P:Program}{g:Gh}{w:World}{t:F_}{O:Nat->Nat}{st st':St}{a:AV}{o:Oper}
def RO (g:Gh)(w:World):M_->Option Value->Prop
 |none,none=>True
 |some v,some x=>∃Ov,RV g w v x Ov
 |_,_=>False
theorem S.rdOpt {r:AB_}{oo:Option Operand}(s:S P g w st t O)(hc:Bz r oo=true){vo:M_}{e':aV}(h:rdOpt st.env r=some (vo,e')) :
  ∃O',RO g w vo (oo.map (ev t))∧S P g w ⟨e',st.hs⟩ t O'∧∀b,O' b<=O b:=by
 cases r with
 |none =>
  cases oo<;>simp[Bz]at hc
  obtain⟨rfl,rfl⟩:=h;exact⟨O,trivial,s,λb=>ak _⟩
 |some r =>
  cases oo with
  |none=>simp[Bz]at hc
  |some o =>
   obtain⟨v,e1,h1,h2⟩:=Rt h;obtain⟨rfl,rfl⟩:=h2;obtain⟨Ov,O',rv,s',l⟩:=s.rd hc h1;exact⟨O',⟨Ov,rv⟩,s',S.le_left l⟩
def xZ {v:AV}{x:Value}{Ov:Nat->Nat}(r:RV g w v x Ov){n top y:Nat}(h:dW v top=some n)(hy:top<=y)(c:BoundsCode) :
  (Instr.sliceBound x y c).run P w=.ok n w∧n<=top:=by
 obtain⟨⟨k,rfl⟩,hn⟩:=Ff h r;refine⟨?_,hn⟩;have:(n:Int)<=y:=o_
 simp_all [Instr.sliceBound,asIntOf]
def YV {lo hi mx:M_}{lo' hi' mx':Option Value}(r1:RO g w lo lo')(r2:RO g w hi hi')(r3:RO g w mx mx'){b:Bool}{len cap l h m:Nat}
  (hcap:len<=cap)(hb:xg len lo hi mx=some (l,h,m)) :
  ∃m',(Instr.sliceBounds b len cap lo' hi' mx').run P w=.ok (l,h,m') w∧l<=h∧h<=len∧h<=m'∧m'<=cap:=by
 unfold xg at hb;have fin:∀(h0 m':Nat),h0<=len->h0<=m'->m'<=cap->vI lo h0 m=some (l,h,m)->
   ∃l',(match (generalizing:=false) lo' with|some v=>Instr.sliceBound v h0 (if mx'.isSome then .slice3C else .sliceB)|none=>pure 0).run P w=.ok l' w∧l'=l∧h0=h∧l<=h:=by
  intro h0 m' e1 e2 e3 e4
  cases lo with
  |none =>
   cases lo' with
   |some x=>exact r1.elim
   |none =>
    simp only[vI,ae,aQ]at e4;exact⟨0,rfl,e4.1,e4.2.1,o_⟩
  |some v =>
   cases lo' with
   |none=>exact r1.elim
   |some x =>
    obtain⟨Ov,rv⟩:=r1;simp only[vI]at e4;split at e4
    .rename_i n hn;obtain⟨h1,h2⟩:=xZ (P:=P) rv hn (ak h0) (if mx'.isSome then .slice3C else .sliceB)
     simp_all
    simp_all
 cases mx with
 |none =>
  cases mx' with
  |some x=>exact r3.elim
  |none =>
   simp only at hb
   cases hi with
   |none =>
    cases hi' with
    |some x=>exact r2.elim
    |none =>
     have hm:m=len:=by
      cases lo<;>grind [vI]
     grind [Instr.sliceBounds,Sem.run_bind,Sem.run_pure,Result.andThen_ok]
   |some v =>
    cases hi' with
    |none=>exact r2.elim
    |some x =>
     obtain⟨Ov,rv⟩:=r2;split at hb
     .simp at hb
     .rename_i h0 hh;have hm:m=len:=by
       cases lo<;>grind [vI]
      subst hm;obtain⟨h5,h6⟩:=xZ (P:=P) rv hh hcap (if b then .sliceAcap else .sliceAlen);obtain⟨l',h1,rfl,rfl,h4⟩:=fin h0 cap h6 o_ (ak _) hb;refine⟨cap,?_,h4,h6,o_,ak _⟩
      grind [Instr.sliceBounds,Sem.run_bind,Sem.run_pure,Result.andThen_ok]
 |some vm =>
  cases mx' with
  |none=>exact r3.elim
  |some xm =>
   obtain⟨Om,rm⟩:=r3;simp only at hb;split at hb
   .simp at hb
   .rename_i m0 hm0;obtain⟨h7,h8⟩:=xZ (P:=P) rm hm0 hcap (if b then .slice3Acap else .slice3Alen)
    cases hi with
    |none=>simp at hb
    |some v =>
     cases hi' with
     |none=>exact r2.elim
     |some x =>
      obtain⟨Ov,rv⟩:=r2;split at hb
      .simp at hb
      .rename_i h0 hh;have hm:m=m0:=by
        cases lo<;>grind [vI]
       subst hm;obtain⟨h5,h6⟩:=xZ (P:=P) rv hh (ak m) .slice3B;obtain⟨l',h1,rfl,rfl,h4⟩:=fin h0 m o_ h6 o_ hb;refine⟨m,?_,h4,o_,h6,o_⟩;simp only[Instr.sliceBounds,aS,bp,h5,h7]
       cases lo'<;>simp_all
def aov {b:Bool}{v u r:AV}{x y:Value}{Ov Ou:Nat->Nat}(rv:RV g w v x Ov)(ru:RV g w u y Ou)(h:DJ b v u=some r) :
  ∃z,(match b with|true=>Builtin.max2 x y|false=>Builtin.min2 x y).run P w=.ok z w∧RV g w r z zero:=by
 unfold DJ at h;split at h
 .rename_i k m j n;have hx:=zq rv rfl;have hy:=zq ru rfl;subst hx hy;split at h
  .cases b
   .simp only[ao,bl]at h;split at h
    .simp only[ae]at h;subst h
     simp_all [Builtin.min2,uE]
    .rename_i hd;simp only[decide_eq_false_iff_not]at hd;simp only[ae]at h;subst h;exact⟨.int k m,by simp[Builtin.min2,hd],uE _ _⟩
   .simp only[bn]at h;split at h
    .simp only[ae]at h;subst h
     simp_all [Builtin.max2,uE]
    .rename_i hd;simp only[decide_eq_false_iff_not]at hd;simp only[ae]at h;subst h;exact⟨.int k m,by simp[Builtin.max2,hd],uE _ _⟩
  simp_all
 simp_all
end
abbrev dA:=@Sem.run_pure
abbrev u4:=@Option.map_some
abbrev dc:=@Nat.add_mul
abbrev eG:=@Nat.zero_le
section
variable {P:Program}{g:Gh}{w:World}{t:F_}{O:Nat->Nat}{st st':St}{a:AV}{o:Oper}
def aqS {ty:TypeId}{sz:Nat}(hty:iO P ty sz=true){ad:Option Addr}{len cap l h m':Nat}{lo hi mx:Option Value}
  (hb:(Instr.sliceBounds true len cap lo hi mx).run P w=.ok (l,h,m') w) :
  (Instr.sliceAt ty (.slice ad len cap) lo hi mx).run P w=.ok (.slice (if m'=l then ad else ad.map (·.add (l*sz))) (h-l) (m'-l)) w:=by
 obtain⟨e,hu,hs,_⟩:=iq hty;simp only[Instr.sliceAt,aS,aY hu,bp,Instr.slice,hb,eQ hs,dA]
theorem RD.slice {w:World}{pm:Nat->Nat->Prop}{xs:E_}{ad:Option Addr}{len cap l h m' sz:Nat}(r:RD w pm (.lst xs) (.slice ad len cap))
  (hk:FN sz xs=true)(h1:l<=h)(h2:h<=len)(h3:h<=m')(h4:m'<=cap) :
  RD w pm (.lst (sub xs l (h-l))) (.slice (if m'=l then ad else ad.map (·.add (l*sz))) (h-l) (m'-l)):=by
 rcases r.list with ⟨rfl,a,c,e⟩|⟨b,off,m,c,e,hm,hcap,hl,hrc,hp⟩
 .injection e with e1 e2 e3
  have hh:h-l=0:=o_;rw[hh];exact .nil _ _
 .injection e with e1 e2 e3
  subst e1 e2 e3;have hlen:(sub xs l (h-l)).length=h-l:=j6 o_;by_cases hz:h-l=0
  .have:sub xs l (h-l)=[]:=u_;rw[this,hz];exact .nil _ _
  .have hml:m'≠l:=o_;have hsz:sz=m:=by
    cases xs<;>grind [FN,Nat.beq_eq]
   subst hsz;simp only[u4,lE];have hsl:=H5 hl l (h-l);have:=ja.rd (w:=w) (pm:=pm) (xs:=sub xs l (h-l)) (b:=b) (off:=off+l*sz) (m:=sz) (cap:=m'-l) hm o_ hsl
    (by simp_all [nK,ja.sub]) (λj hj=>?_)
   .simp_all
   .rw[hlen]at hj;rw[dB];refine hp _ ?_;have:l*sz+(h-l)*sz<=xs.length*sz:=by rw[<-dc];simp_all [b8]
    omega
def ar5 {m:Nat}{x:Rd}{lo hi mx:AB_}(s:S P g w st t O)(h:Mj m x lo hi mx st=some (a,st'))(hc:bD P (.slice m x lo hi mx) o.op=true) :
  fE P g w t O st' a ((execOp (ev t) o).run P w):=by
 obtain⟨dst,op,ty,pos,aft,gd⟩:=o;simp only[bD]at hc;split at hc
 .rename_i ty' y l' h' k';simp only[af]at hc;obtain⟨⟨⟨⟨h1,h2⟩,h3⟩,h4⟩,h5⟩:=hc;obtain⟨v,e1,r1,k1⟩:=Rt h;obtain⟨Ov,O1,rv,s1,l1⟩:=s.rd h2 r1;split at k1
  .rename_i vl e2 r2;obtain⟨O2,q2,s2,l2⟩:=s1.rdOpt h3 r2;split at k1
   .rename_i vh e3 r3;obtain⟨O3,q3,s3,l3⟩:=s2.rdOpt h4 r3;split at k1
    .rename_i vm e4 r4;obtain⟨O4,q4,s4,l4⟩:=s3.rdOpt h5 r4;split at k1
     .rename_i hok;split at k1
      .rename_i r hr;simp only[ae,aQ]at k1;obtain⟨rfl,rfl⟩:=k1;have hle:∀b,Ov b+O4 b<=O b:=λb=>by grind
       unfold uU at hr;split at hr
       .simp at hr
       .rename_i len hlen;obtain⟨ad,cap,hx⟩:=Rb hlen rv;split at hr
        .simp at hr
        .rename_i l hh mm hb;have fin:∀{cap:Nat}{r:AV},ev t y=.slice ad len cap->len<=cap->
           (∀m',l<=hh->hh<=len->hh<=m'->m'<=cap->∃Oa,(∀b,Oa b<=Ov b)∧RV g w r (.slice (if m'=l then ad else ad.map (·.add (l*m))) (hh-l) (m'-l)) Oa)->
           fE P g w t O ⟨e4,st.hs⟩ r ((execOp (ev t) ⟨dst,.slice ty' y l' h' k',ty,pos,aft,gd⟩).run P w):=by
          intro cap r hx hcap hr;obtain⟨m',e1,e2,e3,e4,e5⟩:=YV (P:=P) (w:=w) (b:=true) q2 q3 q4 hcap hb;obtain⟨Oa,hO,hr⟩:=hr m' e2 e3 e4 e5;refine .pure s (x:=_) ?_ hr s4 λb=>by grind
          simp only[execOp,hx];rw[aS,aqS h1 e1];rfl
         split at hr
         .rename_i xs;simp only[lenOf,ae]at hlen;subst hlen;split at hr
          .rename_i hk;simp only[ae]at hr;subst hr;simp only[RV]at rv;have hcap:xs.length<=cap:=by
            grind [RD.list]
           refine fin hx hcap λm' g1 g2 g3 g4=>⟨zero,λ_=>eG _,?_⟩
           grind [RV,RD.slice]
          simp_all
         .grind [RV]
         .rename_i k xs;simp only[lenOf,ae]at hlen;subst hlen;split at hr
          .rename_i hkm;rw[aB]at hkm;subst hkm;have rv0:=rv;simp only[RV,Ds]at rv;have hshare:RD w g.pm (.lst xs) (ev t y):=by
            have:=RV.share _ _ _ rv0
            grind [share,RV]
           have hk:FN k xs=true:=by
            cases xs<;>grind [FN,Nat.beq_eq]
           have hcap:xs.length<=cap:=by
            grind
           split at hr
           .rename_i hhl;rw[aB]at hhl;subst hhl;simp only[ae]at hr;subst hr;refine fin hx hcap λm' g1 g2 g3 g4=>?_
            simp only[RV,Ds];by_cases hml:m'=l
            .refine⟨zero,λ_=>eG _,.inl ⟨?_,λ_=>rfl,?_⟩⟩
             all_goals simp_all [sub]
            .rcases rv with ⟨rfl,hz,a,e⟩|⟨b,off,cap',c,el,e,hc1,hm,hl,hbk,hsz,hrc,hpm,hp,rfl⟩
             .grind
             .rw[hx]at e;injection e with e1 e2 e3
              subst e1 e3;have hlen:(sub xs l (xs.length-l)).length=xs.length-l:=j6 o_;refine⟨one b,λ_=>ak _,.inr ⟨b,off+l*k,m'-l,c,el,?_,o_,hm,H5 hl _ _,hbk,?_,?_,?_,λ_ j hj=>?_,rfl⟩⟩
              .grind [lE]
              .have:l*k+(m'-l)*k<=cap*k:=by rw[<-dc];exact b8 _ (by omega)
               omega
              .simp_all [nK,ja.sub]
              .intro o ho;obtain⟨h1,h2⟩:=hpm o ho;refine⟨h1,?_⟩;have:l*k+(xs.length-l)*k=xs.length*k:=by rw[<-dc];simp_all
               grind
              .rw[hlen]at hj;rw[dB];refine hp (by trivial) _ ?_;have:l*k+(xs.length-l)*k=xs.length*k:=by rw[<-dc];simp_all
               omega
           .simp only[ae]at hr;subst hr;refine fin hx hcap λm' g1 g2 g3 g4=>⟨zero,λ_=>eG _,?_⟩
            simp only[RV];rw[hx]at hshare;exact⟨hshare.slice hk g1 g2 g3 g4,λ_=>trivial⟩
          simp_all
         .rename_i id off len0;simp only[lenOf,ae]at hlen;subst hlen;simp only[ae]at hr;subst hr;simp only[RV]at rv;obtain⟨rv,_⟩:=rv;rcases rv with ⟨rfl,ad',e⟩|⟨b,cap',hob,e,hc1,hsz⟩
          .rw[hx]at e;injection e with e1 e2 e3
           subst e3;refine fin hx (ak _) λm' g1 g2 g3 g4=>⟨zero,λ_=>eG _,?_⟩
           simp only[RV];have h0:hh-l=0:=o_;have h1:m'-l=0:=o_;rw[h0,h1];exact⟨.inl ⟨rfl,_,rfl⟩,λ_=>trivial⟩
          .rw[hx]at e;injection e with e1 e2 e3
           subst e1 e3;have hesz:g.esz id=m:=by
            simp only[okSl]at hok;obtain⟨Oe,Oh,re,rh,ho⟩:=s.parts;split at hok
            .rename_i k xs hg;rw[aB]at hok;subst hok;obtain⟨O1,q,_⟩:=RL.get rh hg;simp only[jT]at q;rcases q with ⟨_,_,h,_⟩|⟨_,_,_,_,h,_⟩
             .exact h
             .exact h
            .rename_i cs hg;rw[aB]at hok;subst hok;obtain⟨O1,q,_⟩:=RL.get rh hg;obtain⟨_,_,_,_,_,_,h,_⟩:=q;exact h
            .simp at hok
           refine fin hx hc1 λm' g1 g2 g3 g4=>⟨zero,λ_=>eG _,?_⟩
           simp only[RV];refine⟨?_,λ_=>trivial⟩;by_cases hml:m'=l
           .have h0:hh-l=0:=o_;have h1:m'-l=0:=o_;rw[h0,h1];exact .inl ⟨rfl,_,rfl⟩
           .refine .inr ⟨b,m'-l,hob,?_,o_,?_⟩
            .rw[aa hml];simp only[u4,lE];rw[dc,hesz,dB]
            .have:(off+l+(m'-l))*g.esz id<=(off+cap)*g.esz id:=b8 _ o_;omega
         simp_all
      simp_all
     simp_all
    simp_all
   simp_all
  simp_all
 simp_all
def afR {b:Bool}:∀{vs:D_}{xs:N_}{Ovs:Nat->Nat}{v r:AV}{x:Value}{Ov:Nat->Nat},RV g w v x Ov->RVs g w vs xs Ovs->BM b v vs=some r->
  (vs=[]->∃k n,v=.d (.int k n))->
  ∃z,(xs.foldlM (match b with|true=>Builtin.max2|false=>Builtin.min2) x).run P w=.ok z w∧RV g w r z zero
 |[],xs,_,v,r,x,Ov,rv,rvs,h,hi=>by
  simp only[RVs]at rvs;simp only[BM,ae]at h;subst h;obtain⟨k,n,rfl⟩:=hi rfl;have hx:=zq rv rfl
  simp_all [uE]
 |u::us,xs,_,v,r,x,Ov,rv,rvs,h,hi=>by
  obtain⟨y,s,O1,O2,rfl,r1,r2,_⟩:=rvs;simp only[BM]at h;split at h
  .rename_i v2 hv;obtain⟨z,hz,rz⟩:=aov (P:=P) rv r1 hv;have hint:∃k n,v2=.d (.int k n):=by
    unfold DJ at hv
    grind
   obtain⟨z2,hz2,rz2⟩:=afR (b:=b) rz r2 h (λ_=>hint);refine⟨z2,?_,rz2⟩
   cases b
   all_goals simp_all
  simp_all
def ape {b:Bool}{xs:U_}(s:S P g w st t O)(h:Ad b xs st=some (a,st'))(hc:bD P (.minmax b xs) o.op=true) :
  fE P g w t O st' a ((execOp (ev t) o).run P w):=by
 simp only[bD]at hc;split at hc
 .simp only[af]at hc;obtain⟨h1,h4⟩:=hc;have:=qh h1;unfold Ad at h;split at h
  .rename_i kk nn vs e hr;obtain⟨Ov,O',rvs,s',l⟩:=s.rdAll h4 hr;split at h
   .rename_i r hf;obtain⟨rfl,rfl⟩:=h;obtain⟨x,ys,O1,O2,he,r1,r2,_⟩:=rvs;obtain⟨z,hz,rz⟩:=afR (P:=P) (b:=b) r1 r2 hf λ_=>⟨_,_,rfl⟩
    refine .flat s (x:=z) ?_ rz s' (S.le_left l)
    cases b
    all_goals simp_all [Builtin.min_,execOp,resolve,invoke,builtin,Builtin.max_]
   simp_all
  simp_all
 simp_all
end
abbrev uF:=@Array.getElem?_eq_none
def Gh.add (g:Gh)(id b base esz bsz:Nat):Gh where
 obj i:=if i=id then some b else g.obj i
 base i:=if i=id then base else g.base i
 esz i:=if i=id then esz else g.esz i
 bsz i:=if i=id then bsz else g.bsz i
 pm:=g.pm
section
variable {P:Program}{g:Gh}{w:World}{t:F_}{O:Nat->Nat}{st st':St}{a:AV}{o:Oper}
theorem sQ {w:World}{o:Go.Obj}{b:Nat}(h:b<w.heap.size):(w.alloc o).heap[b]?=w.heap[b]?:=by
 show(w.heap.push o)[b]?=_
 grind
theorem jE (w:World)(o:Go.Obj):(w.alloc o).heap[w.heap.size]?=some o:=by
 show(w.heap.push o)[w.heap.size]?=_
 simp_all
def bL.alloc (hp:∀b o,g.pm b o->b<w.heap.size)(o:Go.Obj)(T:Nat->Prop)(hc:∀off,gE o off=false:=by intro off;simp[gE]):bL g w g (w.alloc o) T where
 obj _ _ h:=⟨h,rfl,rfl,rfl⟩
 pm b o h:=⟨h,sk (sQ (hp b o h)) o⟩
 blk b hb _:=⟨sQ hb,λ_ h=>h⟩
 size:=s_
 lp b rc h:=⟨rc,by grind [sQ]⟩
 same:=⟨rfl,rfl,λa=>by
  by_cases h:a.block<w.heap.size
  .grind [World.frozen?,sQ]
  .have h2:w.heap[a.block]?=none:=uF o_;by_cases e:a.block=w.heap.size
   .have:=hc a.off;simp only[World.frozen?,e,jE];rw[<-e,h2]
    cases o<;>first|rfl|exact this
   .have h3:(w.alloc o).heap[a.block]?=none:=uF (by simp;omega)
    grind [World.frozen?]⟩
theorem bL.add {w':World}{T:Nat->Prop}(h:bL g w g w' T){id:Nat}(hn:g.obj id=none)(b base esz bsz:Nat):bL g w (g.add id b base esz bsz) w' T where
 obj i c hc:=by
  grind [Gh.add]
 pm b o hp:=h.pm b o hp
 blk:=h.blk
 size:=h.size
 lp:=h.lp
 same:=h.same
def kr.ext {g':Gh}{w':World}{T:Nat->Prop}(h:bL g w g' w' T){e:aV}(r:kr g w e t O)(hO:∀b,O b≠0->¬T b):kr g' w' e t O :=
 r.imp' λ_ v O1 _ hle q=>⟨q.1,RV.ext h v _ O1 q.2 λb hb=>hO b d_⟩
def jT.ext0 {g':Gh}{w':World}{T:Nat->Prop}(h:bL g w g' w' T){id:Nat}{o:Obj}(r:jT P g w id o O)(hO:∀b,O b≠0->¬T b):jT P g' w' id o O:=by
 cases o with
 |cells cs =>
  obtain⟨b,c,el,O1,h1,h2,h3,h4,h5,h6,h7,h8⟩:=r;obtain⟨a1,a2,a3,a4⟩:=h.obj id b h1;have hb:¬T b:=hO b u_;obtain⟨e1,e2⟩:=h.blk b (jw h5) hb;exact⟨b,c,el,O1,a1,a2.trans h2,a3.trans h3,a4.trans h4,e1.trans h5,RVs.ext h _ _ _ h6 (λx hx=>hO x u_),λo ho=>h7 o (e2 o ho),h8⟩
 |arr m xs =>
  simp only[jT]at r⊢;rcases r with ⟨h1,h2,h3,h4,⟨b,h5⟩,h6⟩|⟨b,c,el,h1,h2,h3,h4,h5,h6,h7,h8,h9,h10⟩
  .obtain⟨a1,a2,a3,a4⟩:=h.obj id b h5
   simp_all
  .obtain⟨a1,a2,a3,a4⟩:=h.obj id b h1;have hb:¬T b:=hO b u_;obtain⟨e1,e2⟩:=h.blk b (jw h4) hb
   grind [ja.ext]
 |loop snap params assign body busy pend =>
  obtain⟨b,rc,h1,h2,h3,h4,h5,h6,h7,h8,h9,h10,h12⟩:=r;obtain⟨a1,_⟩:=h.obj id b h1;have hb:¬T b:=hO b u_;obtain⟨e1,e2⟩:=h.blk b (jw h2) hb;exact⟨b,rc,a1,e1.trans h2,h3,h4,h5,h6,h7,h8,kr.ext h h9 s_,h10,h12⟩
def jT.ext {g':Gh}{w':World}{T:Nat->Prop}(h:bL g w g' w' T){id:Nat}{o:Obj}(r:jT P g w id o O)(hO:∀b,O b≠0->¬T b)
  (_:∀b ds,w.heap[b]?=some (.deferred ds)->¬T b):jT P g' w' id o O:=r.ext0 h hO
def S.new {st:St}(s:S P g w st t O){blk:Go.Obj}{o:Obj}{base esz bsz:Nat}{O1:Nat->Nat}
  (r:jT P (g.add st.hs.next w.heap.size base esz bsz) (w.alloc blk) st.hs.next o O1)(hle:∀b,O1 b+O b<=1)(hhi:∀b,O1 b≠0->b<w.heap.size+1)
  (hc:∀off,gE blk off=false:=by intro off;simp[gE]) :
  S P (g.add st.hs.next w.heap.size base esz bsz) (w.alloc blk) ⟨st.env,(Jm st.hs o).2⟩ t (λb=>O1 b+O b)∧
   bL g w (g.add st.hs.next w.heap.size base esz bsz) (w.alloc blk) (λb=>O b≠0):=by
 have hn:=s.fresh st.hs.next (ak _)
 have hx:bL g w (g.add st.hs.next w.heap.size base esz bsz) (w.alloc blk) (λ_=>False):=(bL.alloc s.pmlt blk _ hc).add hn _ _ _ _;obtain⟨Oe,Oh,re,rh,ho⟩:=s.parts;have re':=kr.ext hx re s_;have rh':Cd P (g.add st.hs.next w.heap.size base esz bsz) (w.alloc blk) st.hs.heap Oh:=rh.imp' λk v O1 _ _ q=>q.ext hx s_ (by simp)
 have hk:∀p∈st.hs.heap,p.1≠st.hs.next:=by
  intro p hp e;have:∃b,g.obj p.1=some b:=by
   clear re re' rh' hx r hle hhi ho;generalize st.hs.heap=l at rh hp
   induction l generalizing Oh with
   |nil=>simp at hp
   |cons q l ih =>
    obtain⟨k,v⟩:=q;obtain⟨Q1,Q2,q1,q2,_⟩:=rh;rcases aC.1 hp with rfl|hp
    .cases v<;>grind [jT]
    simp_all
  simp_all
 rw[<-rL hk]at rh';obtain⟨O3,r3,h3⟩:=RL.put s.sh rh' r;refine⟨⟨s.se,s.sh.put _ _,⟨Oe,O3,re',r3,λb=>?_⟩,hle,λb hb=>?_,λi hi=>?_,λb o hp=>?_⟩,hx.mono (λ_ _ h=>h.elim)⟩
 .grind
 .simp only[World.size_alloc];by_cases h1:O1 b=0
  .have:=s.hi b o_;omega
  simp_all
 .have hi':st.hs.next+1<=i:=hi
  grind [Gh.add,fresh]
 .simp only[World.size_alloc];have:=s.pmlt b o hp;omega
def ar7 {zs:D_}(s:S P g w st t O)(h:MO zs st=some (a,st'))(hc:bD P (.alloc zs) o.op=true) :
  fE P g w t O st' a ((execOp (ev t) o).run P w):=by
 obtain⟨dst,op,ty,pos,aft,gd⟩:=o;simp only[bD]at hc;split at hc
 .rename_i e;split at hc
  .split at hc
   .rename_i z hz;obtain⟨rfl,rfl⟩:=h;have hO:O w.heap.size=0:=by
     have:=s.hi w.heap.size;omega
    have r:jT P (g.add st.hs.next w.heap.size 0 1 zs.length) (w.alloc (.cells z.cells e)) st.hs.next (.cells zs) (λx=>zero x+one w.heap.size x):=by
     refine⟨w.heap.size,z.cells,e,zero,by simp[Gh.add],by simp[Gh.add],by simp[Gh.add],by simp[Gh.add],jE _ _,RVs.consts hc,λo ho=>?_,λ_=>rfl⟩;have:=s.pmlt _ o ho;omega
    obtain⟨s',hx⟩:=s.new r (λb=>by
     by_cases hb:b=w.heap.size
     .simp_all
     .have:=s.le b;grind [one]) (λb hb=>by
     grind [wF])
    refine⟨.pointer (some ⟨w.heap.size,0,none⟩),_,_,zero,_,.inl ?_,?_,s',hx,λb=>by have:=s'.le b;simp_all,λb hb=>?_,s_⟩
    .simp_all [execOp,Instr.alloc,zeroValue,typeInfo,newVar,newRow]
    .simp_all [RV,Gh.add]
    grind [one]
   simp_all
  simp_all
 simp_all
end
section
variable {P:Program}{g:Gh}{w:World}{t:F_}{O:Nat->Nat}{st st':St}{a:AV}{o:Oper}
theorem ahM {v:AV}{x:Value}{Ov:Nat->Nat}(h:bq v=true)(r:RV g w v x Ov):x.oneCell'=true:=by
 cases v with
 |junk=>simp[bq]at h
 |agg cs=>simp[bq]at h
 |tup cs=>simp[bq]at h
 |gl n=>obtain⟨⟨_,_,rfl⟩,_⟩:=r;rfl
 |d c=>obtain⟨r,_⟩:=r;cases r<;>rfl
 |nl=>rw[r.1];rfl
 |own p m xs=>rcases r with ⟨_,_,_,rfl⟩|⟨_,_,_,_,_,rfl,_⟩<;>rfl
 |nilp=>rw[r.1];rfl
 |ptr id off=>obtain⟨⟨_,_,rfl⟩,_⟩:=r;rfl
 |pel id i off=>obtain⟨⟨_,_,rfl⟩,_⟩:=r;rfl
 |pim cs off=>obtain⟨⟨_,_,rfl,_⟩,_⟩:=r;rfl
 |sl id off len=>rcases r with ⟨⟨_,_,rfl⟩|⟨_,_,_,rfl,_⟩,_⟩<;>rfl
 |fn f a c=>obtain⟨⟨_,_,rfl,_⟩,_⟩:=r;rfl
 |nilf=>rw[r.1];rfl
 |yield l=>obtain⟨⟨_,_,rfl⟩,_⟩:=r;rfl
def agL {x:Value}(h:x.oneCell'=true):x.cells=#[x]:=by cases x<;>first|rfl|grind [Value.oneCell']
theorem RV.cells {v:AV}{x:Value}{Ov:Nat->Nat}(h:v.cells.all bq=true)(r:RV g w v x Ov):RVs g w v.cells x.cells.toList Ov:=by
 have one:bq v=true->v.cells=[v]->RVs g w v.cells x.cells.toList Ov:=by
  intro h1 h2;rw[h2,agL (ahM h1 r)];exact⟨x,[],Ov,zero,rfl,r,⟨rfl,λ_=>rfl⟩,λ_=>rfl⟩
 cases v with
 |agg cs =>
  obtain⟨xs,rfl,r⟩:=r;exact r
 |_=>grind [AV.cells]
theorem RVs.one {vs:D_}{xs:N_}{Ov:Nat->Nat}(h:vs.all bq=true)(r:RVs g w vs xs Ov):∀x∈xs,x.oneCell'=true:=by
 induction vs generalizing xs Ov<;>grind [RVs,ahM]
def aAj {x:Rd}(s:S P g w st t O)(h:T5 x st=some (a,st'))(hc:bD P (.box x) o.op=true) :
  fE P g w t O st' a ((execOp (ev t) o).run P w):=by
 obtain⟨dst,op,ty,pos,aft,gd⟩:=o;simp only[bD]at hc;split at hc
 .rename_i e y;obtain⟨v,e1,r1,k1⟩:=Rt h;obtain⟨Ov,O1,rv,s1,l1⟩:=s.rd hc r1;split at k1
  .rename_i hall;obtain⟨rfl,rfl⟩:=k1;have rvs:=rv.cells hall;have hn:=s1.fresh st.hs.next (ak _)
   have hO:∀b,w.heap.size<=b->O b=0:=by
    intro b hb;by_cases h:O b=0
    .exact h
    .have:=s.hi b h;omega
   have hx0:bL g w (g.add st.hs.next w.heap.size 0 1 v.cells.length) (w.alloc (.cells (ev t y).cells e)) (λ_=>False):=(bL.alloc s.pmlt _ _).add hn _ _ _ _;have r:jT P (g.add st.hs.next w.heap.size 0 1 v.cells.length) (w.alloc (.cells (ev t y).cells e)) st.hs.next (.cells v.cells) (λx=>Ov x+one w.heap.size x):=by
    refine⟨w.heap.size,(ev t y).cells,e,Ov,by simp[Gh.add],by simp[Gh.add],by simp[Gh.add],by simp[Gh.add],jE _ _,RVs.ext hx0 _ _ _ rvs s_,λo ho=>?_,λ_=>rfl⟩;have:=s.pmlt _ o ho;omega
   have key:∀b,Ov b+one w.heap.size b+O1 b<=1:=by
    intro b;by_cases hb:b=w.heap.size
    .have:=l1 w.heap.size;simp_all
    .have:=s.le b;grind [one]
   obtain⟨s',hx⟩:=s1.new r (λb=>key b) (λb hb=>by
    grind [wF])
   refine⟨.pointer (some ⟨w.heap.size,0,none⟩),_,_,zero,_,.inl ?_,?_,s',hx.mono λb _ hb=>by grind,λb=>by simp_all,λb hb=>?_,s_⟩
   .simp_all [execOp,Instr.box,newVar,newRow]
   .simp_all [RV,Gh.add]
   grind [one]
  simp_all
 simp_all
def Kp {ty:TypeId}(h:Kr P ty=true){ad:Addr}{x:Value}(hx:w.cell? ad=some x):(loadVar ty ad).run P w=.ok x w:=by
 simp_all [loadVar,Cn]
end
abbrev bj:=@Nat.ble_eq
abbrev bC:=@Nat.zero_add
abbrev ax:=@List.append_assoc
abbrev aT:=@List.take_append_drop
section
variable {P:Program}{g:Gh}{w:World}{t:F_}{O:Nat->Nat}{st st':St}{a:AV}{o:Oper}
theorem gR {b:Nat}{c:F_}{el:TypeId}{fz:Nat×Nat}(h:w.heap[b]?=some (.cells c el fz))(off:Nat):w.cell? ⟨b,off,none⟩=c[off]?:=by
 simp[World.cell?,h]
theorem RVs.replace {cs:D_}{xs:N_}{Ov:Nat->Nat}(r:RVs g w cs xs Ov){i:Nat}{v:AV}(h:cs[i]?=some v) :
  ∃x O1,xs[i]?=some x∧RV g w v x O1∧(∀b,O1 b<=Ov b)∧∀v2 O2,RV g w v2 x O2->∃O',RVs g w (cs.set i v2) xs O'∧∀b,O' b+O1 b=Ov b+O2 b:=by
 induction cs generalizing xs Ov i with
 |nil=>simp at h
 |cons c cs ih =>
  obtain⟨x,s,O1,O2,rfl,r1,r2,hs⟩:=r
  cases i with
  |zero =>
   simp at h;subst h;refine⟨x,O1,rfl,r1,λb=>by simp_all,λv2 P2 rv2=>⟨λb=>P2 b+O2 b,?_,λb=>by grind⟩⟩
   grind [RVs]
  |succ i =>
   obtain⟨y,P1,h1,h2,h3,h4⟩:=ih r2 h;refine⟨y,P1,u_,h2,λb=>by grind,λv2 P2 rv2=>?_⟩;obtain⟨O',r',h'⟩:=h4 v2 P2 rv2;refine⟨λb=>O1 b+O' b,?_,λb=>by grind⟩
   grind [RVs]
def adL (n:Nat){v:AV}{x:Value}{Ov:Nat->Nat}(r:RV g w v x Ov) :
  ∃O1 O2,RV g w (rl n v).1 x O1∧RV g w (rl n v).2 x O2∧∀b,O1 b+O2 b=Ov b:=by
 have share:=RV.share _ _ _ r;unfold rl;split
 .exact⟨Ov,zero,r,by simp[RV],λ_=>rfl⟩
 .grind
 .refine⟨Ov,zero,r,?_,λ_=>rfl⟩
  grind [RV,Ds]
 grind
def RX (n:Nat):∀{vs:D_}{xs:N_}{Ov:Nat->Nat},RVs g w vs xs Ov->
  ∃O1 O2,RVs g w (fN n vs).1 xs O1∧RVs g w (fN n vs).2 xs O2∧∀b,O1 b+O2 b=Ov b
 |[],xs,Ov,r=>by grind [RVs,fN]
 |v::vs,xs,Ov,r=>by
  obtain⟨x,s,O1,O2,rfl,r1,r2,hs⟩:=r;obtain⟨A1,A2,a1,a2,ha⟩:=adL n r1;obtain⟨B1,B2,b1,b2,hb⟩:=RX n r2;refine⟨λb=>A1 b+B1 b,λb=>A2 b+B2 b,?_,?_,λb=>by grind⟩
  all_goals grind [RVs,fN]
theorem S.upd {st:St}(s:S P g w st t O){id:Nat}{ob:Obj}(hg:get st.hs.heap id=some ob) :
  ∃O1 Oz:Nat->Nat,jT P g w id ob O1∧(∀b,O1 b+Oz b<=O b)∧∀(ob':Obj) (O1':Nat->Nat),jT P g w id ob' O1'->(∀b,O1' b<=O1 b)->
   S P g w ⟨st.env,⟨put st.hs.heap id ob',st.hs.next⟩⟩ t (λb=>O1' b+Oz b):=by
 obtain⟨Oe,Oh,re,rh,ho⟩:=s.parts;obtain⟨O1,O2,q,r2,hs⟩:=RL.take rh hg;refine⟨O1,λb=>Oe b+O2 b,q,λb=>by grind,λob' O1' q' hle=>?_⟩;obtain⟨O3,r3,h3⟩:=RL.put s.sh r2 q';have hall:∀b,O1' b+(Oe b+O2 b)<=O b:=λb=>by grind
 exact⟨s.se,s.sh.put _ _,⟨Oe,O3,re,r3,λb=>by grind⟩,
  λb=>aM (hall b) (s.le b),λb hb=>s.hi b d_,s.fresh,s.pmlt⟩
def ja.vals {pm:Nat->Nat->Prop}{cs:Y_}{b off:Nat}(r:ja w pm cs b off) :
  ∃xs:N_,xs.length=cs.length∧(∀(j:Nat) (x:Value),xs[j]?=some x->w.cell? ⟨b,off+j,none⟩=some x)∧∀(j:Nat) (c:D) (x:Value),cs[j]?=some c->xs[j]?=some x->RD w pm c x:=by
 induction cs generalizing off with
 |nil=>simp_all
 |cons c cs ih =>
  obtain⟨u,hu,hr⟩:=r 0 c rfl;have r':ja w pm cs b (off+1):=by
   intro j d hj;obtain⟨v,hv,hr⟩:=r (j+1) d (by simp_all)
   grind
  obtain⟨xs,h1,h2,h3⟩:=ih r';refine⟨u::xs,by simp[h1],λj x hj=>?_,λj d x hd hx=>?_⟩
  all_goals grind
def RVs.ds {pm:Nat->Nat->Prop}(hp:g.pm=pm):∀{cs:Y_}{xs:N_},xs.length=cs.length->(∀(j:Nat) (c:D) (x:Value),cs[j]?=some c->xs[j]?=some x->RD w pm c x)->
  RVs g w (cs.map .d) xs zero
 |[],[],_,_=>by simp[RVs]
 |c::cs,x::xs,h,hr=>by
  exact⟨x,xs,zero,zero,rfl,by simp only[RV];exact⟨by rw[hp];exact hr 0 c x rfl rfl,λ_=>trivial⟩,
   RVs.ds hp u_ (λj d y h1 h2=>hr (j+1) d y u_ u_),λ_=>rfl⟩
 |[],_::_,h,_=>by simp at h
 |_::_,[],h,_=>by simp at h
def ZM {ty:TypeId}{n:I_}(ht:pP P ty n=true){cs:Y_}{b off k:Nat}(r:ja w g.pm cs b off){v:AV}(h:og n cs k=some v) :
  ∃x,(loadVar ty ⟨b,off+k,none⟩).run P w=.ok x w∧RV g w v x zero:=by
 cases n with
 |none =>
  simp only[og]at h;split at h
  .rename_i c hc;simp only[ae]at h;subst h;obtain⟨u,hu,hr⟩:=r k c hc
   simp_all [Kp,pP,RV]
  simp_all
 |some n =>
  simp only[pP,af]at ht;simp only[og]at h;split at h
  .rename_i hb;rw[bj]at hb;simp only[ae]at h;subst h;obtain⟨xs,h1,h2,h3⟩:=(r.sub k n).vals;have hlen:(Vm.sub cs k n).length=n:=j6 hb;refine⟨.agg xs.toArray,?_,?_⟩
   .have hl:=run_loadCells_list (P:=P) (w:=w) ⟨b,off+k,none⟩ xs (λj v hj=>by grind [lE]);rw[h1,hlen]at hl;simp only[loadVar,aS,xI ht.1,bp,bn,eQ ht.2,hl,dA]
   .exact⟨xs.toArray,rfl,by simpa using RVs.ds rfl h1 h3⟩
  simp_all
def aiN {cs:D_}{off n:Nat}(h:off+n<=cs.length):cs=cs.take off++(Vm.sub cs off n++cs.drop (off+n)):=by
 grind [sub,List.drop_drop,List.take_append_drop]
def Yt {ty:TypeId}{n:I_}{take:Nat}(ht:pP P ty n=true){st:St}(s:S P g w st t O){id off:Nat}{b:Nat}(hob:g.obj id=some b)
  {v:AV}{h':am}(h:loadAt st.hs.heap n take (.ptr id off)=some (v,h')) :
  ∃x O1 O2,(loadVar ty ⟨b,g.base id+off,none⟩).run P w=.ok x w∧RV g w v x O1∧S P g w ⟨st.env,⟨h',st.hs.next⟩⟩ t O2∧∀c,O1 c+O2 c<=O c:=by
 simp only[loadAt]at h;split at h
 .rename_i cs hg;obtain⟨O1,Oz,q,hsum,hput⟩:=s.upd hg;have q0:=q;simp only[jT]at q;obtain⟨b',c,el,Oc,h1,h2,h3,h4,h5,h6,h7,h8⟩:=q;rw[hob]at h1;simp only[ae]at h1;subst h1;rw[h2,bC];have hsz:c.size=cs.length:=by rw[<-h6.length];simp
  split at h
  .
   split at h
   .simp at h
   .rename_i u hu;obtain⟨x,P1,hx,ru,hle,hrep⟩:=h6.replace hu;have hcell:w.cell? ⟨b,off,none⟩=some x:=by grind [gR]
    have hrun:=Kp (P:=P) (by simpa only[pP] using ht) hcell;split at h
    .simp only[ae,aQ]at h;obtain⟨rfl,rfl⟩:=h;exact⟨x,zero,O,hrun,RV.share _ _ _ ru,s,λc=>by simp⟩
    .rename_i _;simp only[ae,aQ]at h;obtain⟨rfl,rfl⟩:=h;obtain⟨A1,A2,a1,a2,ha⟩:=adL take ru;obtain⟨O',r',h'⟩:=hrep _ A2 a2;have hle2:∀x,O' x+one b x<=O1 x:=λx=>by grind
     refine⟨x,A1,_,hrun,a1,hput (.cells (cs.set off (rl take u).2)) (λx=>O' x+one b x) ?_ hle2,λc=>?_⟩
     all_goals grind [jT]
  .
   rename_i n;simp only[pP,af]at ht;split at h
   .rename_i hb;rw[bj]at hb;have hcs:=aiN hb;have r6:=h6;rw[hcs]at r6;obtain⟨B1,B2,rb1,rb2,hb12⟩:=r6.split;obtain⟨B3,B4,rb3,rb4,hb34⟩:=rb2.split;have htl:(cs.take off).length=off:=by simp;omega
    have hsl:(Vm.sub cs off n).length=n:=j6 hb;rw[htl]at rb1 rb3 rb4;rw[hsl]at rb3 rb4;have hlist:∀(j:Nat) (v:Value),((c.toList.drop off).take n)[j]?=some v->w.cell? ((⟨b,off,none⟩:Addr).add j)=some v:=by
     grind [lE,gR]
    have hlen:((c.toList.drop off).take n).length=n:=d_;have hl:=run_loadCells_list (P:=P) (w:=w) ⟨b,off,none⟩ ((c.toList.drop off).take n) hlist;rw[hlen]at hl;have hrun:(loadVar ty ⟨b,off,none⟩).run P w=.ok (.agg ((c.toList.drop off).take n).toArray) w:=by
     simp only[loadVar,aS,xI ht.1,bp,bn,eQ ht.2,hl,dA]
    split at h
    .simp only[ae,aQ]at h;obtain⟨rfl,rfl⟩:=h;refine⟨_,zero,O,hrun,?_,s,λc=>by simp⟩
     grind [RV,RVs.share]
    .rename_i _;simp only[ae,aQ]at h;obtain⟨rfl,rfl⟩:=h;obtain⟨A1,A2,a1,a2,ha⟩:=RX take rb3;have hjoin:=rb1.join (a2.join rb4);have e1:cs.take off++((fN take (Vm.sub cs off n)).2++cs.drop (off+n))=aG cs off (fN take (Vm.sub cs off n)).2:=by
      have:(fN take (Vm.sub cs off n)).2.length=n:=by
       rw[<-a2.length,hlen]
      unfold aG;rw[this,ax]
     have e2:c.toList.take off++((c.toList.drop off).take n++(c.toList.drop off).drop n)=c.toList:=by
      rw[aT,aT]
     rw[e1,e2]at hjoin;have hle2:∀x,(B1 x+(A2 x+B4 x))+one b x<=O1 x:=λx=>by have:=ha x;have:=h8 x;have:=hb12 x;have:=hb34 x;omega
     refine⟨_,A1,_,hrun,?_,hput (.cells (aG cs off (fN take (Vm.sub cs off n)).2)) (λx=>(B1 x+(A2 x+B4 x))+one b x) ?_ hle2,λx=>?_⟩
     .exact⟨_,rfl,by simpa using a1⟩
     .refine⟨b,c,el,_,hob,h2,h3,?_,h5,hjoin,h7,λ_=>rfl⟩;rw[h4,<-hsz,<-hjoin.length];simp
     .have:=ha x;have:=h8 x;have:=hb12 x;have:=hb34 x;have:=hsum x;omega
   simp_all
 simp_all
def aA8 {n:I_}{take:Nat}{p:Rd}(s:S P g w st t O)(h:EB n take p st=some (a,st'))(hc:bD P (.ld n take p) o.op=true) :
  fE P g w t O st' a ((execOp (ev t) o).run P w):=by
 obtain⟨dst,op,ty,pos,aft,gd⟩:=o;simp only[bD]at hc;split at hc
 .rename_i ty' y;simp only[af]at hc;obtain⟨h1,h2⟩:=hc;obtain⟨v,e1,r1,k1⟩:=Rt h;obtain⟨Ov,O1,rv,s1,l1⟩:=s.rd h2 r1;split at k1
  .rename_i r h' hl;simp only[ae,aQ]at k1;obtain⟨rfl,rfl⟩:=k1;have fin:∀{ad:Addr}{x:Value},ev t y=.pointer (some ad)->(loadVar ty' ad).run P w=.ok x w->
     (execOp (ev t) ⟨dst,.load ty' y,ty,pos,aft,gd⟩).run P w=.ok (.value x) w:=by
    simp_all [execOp,Instr.loadAt,Instr.sureAddr]
   cases v with
   |ptr id off =>
    simp only[RV]at rv;obtain⟨⟨b,hob,he⟩,_⟩:=rv;obtain⟨x,A1,A2,hrun,ra,sa,la⟩:=Yt h1 s1 hob hl
    grind [fE.pure]
   |pel id i off =>
    simp only[RV]at rv;obtain⟨⟨b,hob,he⟩,_⟩:=rv;simp only[loadAt]at hl;split at hl
    .rename_i m xs hg;split at hl
     .rename_i e hx;split at hl
      .rename_i u hu;obtain⟨rfl,rfl⟩:=hl;obtain⟨Oe,Oh,re,rh,ho⟩:=s1.parts;obtain⟨Q,q,_⟩:=RL.get rh hg;rcases q with ⟨rfl,_⟩|⟨b',c,el,g1,g2,g3,g4,g5,g6,g7,g8,g9,g10⟩
       .simp at hx
       .have hrc:=g8.elem g7 hx;obtain⟨x,hrun,rx⟩:=ZM (P:=P) h1 hrc hu;refine .flat s (fin he (x:=x) ?_) rx s1 (S.le_left l1)
        grind
      simp_all
     simp_all
    simp_all
   |pim cs off =>
    obtain⟨⟨b,k,he,hrc,_⟩,_⟩:=rv;simp only[loadAt]at hl;split at hl
    .rename_i u hu;obtain⟨rfl,rfl⟩:=hl;obtain⟨x,hrun,rx⟩:=ZM (P:=P) h1 hrc hu;exact .flat s (fin he hrun) rx s1 (S.le_left l1)
    simp_all
   |_=>simp[loadAt]at hl
  simp_all
 simp_all
end
abbrev ba:=@Nat.lt_of_lt_of_le
abbrev pB:=@Nat.mul_le_mul
abbrev au:=@Int.toNat_natCast
abbrev ip:=@TypeDesc.slice.injEq
section
variable {P:Program}{g:Gh}{w:World}{t:F_}{O:Nat->Nat}{st st':St}{a:AV}{o:Oper}
theorem S.grow {st:St}(s:S P g w st t O){w':World}(h:bL g w g w' λ_=>False):S P g w' st t O:=by
 obtain⟨Oe,Oh,re,rh,ho⟩:=s.parts;exact⟨s.se,s.sh,⟨Oe,Oh,kr.ext h re s_,rh.imp' λk v O1 _ _ q=>q.ext h s_ s_,ho⟩,s.le,
  λb hb=>ba (s.hi b hb) h.size,s.fresh,λb o hp=>ba (s.pmlt b o hp) h.size⟩
theorem S.out {st:St}(s:S P g w st t O){b:Nat}(h:w.heap.size<=b):O b=0:=by
 by_cases h':O b=0
 .exact h'
 .have:=s.hi b h';omega
def bL.drew (g:Gh)(w:World)(T:Nat->Prop):bL g w g w.drew T:=⟨λ_ _ h=>⟨h,rfl,rfl,rfl⟩,λ_ _ h=>⟨h,rfl⟩,λ_ _ _=>⟨rfl,λ_ h=>h⟩,ak _,λ_ rc h=>⟨rc,h⟩,rfl,rfl,λ_=>rfl⟩
def fE.list {res:Result Next}{m cap:Nat}{xs:E_}{c:F_}{el:TypeId}{w1:World}{O':Nat->Nat}(s0:S P g w st t O)
  (s:S P g w st' t O')(hle:∀b,O' b<=O b)(hx1:bL g w g w1 λ_=>False)(hsz1:w1.heap.size=w.heap.size)
  (h:res=.ok (.value (.slice (some ⟨w.heap.size,0,none⟩) xs.length cap)) (w1.alloc (.cells c el)))
  (hm:0<m)(hl:∀e∈xs,e.length=m)(hcap:xs.length<=cap)(hsz:cap*m<=c.size)(hc:∀(j:Nat) (d:D),xs.flatten[j]?=some d->∃u,c[j]?=some u∧RD w g.pm d u) :
  fE P g w t O st' (.own true m xs) res:=by
 have hp1:∀b o,g.pm b o->b<w1.heap.size:=λb o hp=>by rw[hsz1];exact s0.pmlt b o hp
 have hx:bL g w g (w1.alloc (.cells c el)) λ_=>False:=hx1.trans (bL.alloc hp1 _ _) λ_ _ h=>h
 have hO:O w.heap.size=0:=s0.out (ak _);refine⟨_,w1.alloc (.cells c el),g,one w.heap.size,O',.inl h,?_,s.grow hx,hx.mono (λ_ _ h=>h.elim),λb=>?_,λb hb=>?_,λb hb=>?_⟩
 .refine .inr ⟨w.heap.size,0,cap,c,el,rfl,hcap,hm,hl,?_,o_,λj d hj=>?_,λo ho=>?_,λh=>by simp at h,rfl⟩
  all_goals grind [jE,RD.ext,gR]
 .by_cases hb:b=w.heap.size
  .have:=hle w.heap.size;simp_all
  .have:=s0.le b;grind [one]
 .grind [one]
 .have:=wF hb;simp_all
def WC {zs:Y_}{vs:N_}(h:SI zs vs=true):zs.length=vs.length∧∀(j:Nat) (d:D),zs[j]?=some d->∃u,vs[j]?=some u∧RD w g.pm d u:=by
 induction zs generalizing vs with
 |nil=>grind [SI]
 |cons z zs ih =>
  cases vs with
  |nil=>simp[SI]at h
  |cons v vs =>
   simp only[SI,af]at h;obtain⟨h1,h2⟩:=ih h.2;refine⟨by simp[h1],λj d hj=>?_⟩
   cases j with
   |zero=>simp_all [RD.const]
   |succ j=>simp_all
def V3 {z:Y_}{n j:Nat}{d:D}(h:(List.replicate n z).flatten[j]?=some d):z[j % z.length]?=some d∧j<n*z.length:=by
 induction n generalizing j<;>grind [Nat.mod_eq_of_lt,List.getElem?_append_right,Nat.mod_eq_sub_mod]
def DC {ty:TypeId}{z:Y_}(h:BP P ty z=true):∃e i zv,P.underlying ty=some (.slice e)∧P.info? e=some i∧i.zero=some zv∧SI z zv.cells.toList=true:=by
 grind [BP,apT]
def N4 {n:Nat}(h:n<=4294967296):IntKind.i64.wrap (n:Int)=n:=by
 apply al9
 .have:IntKind.min .i64=-9223372036854775808:=k_;omega
 .have:IntKind.max .i64=9223372036854775807:=k_;omega
def aeJ {ty el:TypeId}{i:TypeInfo}{zv:Value}{kn kc:IntKind}{n cc:Nat}(hu:P.underlying ty=some (.slice el))(hi:P.info? el=some i)(hz:i.zero=some zv)
  (hby:i.bytes<=4096)(hnc:n<=cc)(hcm:cc<=4294967296) :
  (Instr.makeSlice ty (.int kn (n:Int)) (.int kc (cc:Int))).run P w =
   .ok (.slice (some ⟨w.heap.size,0,none⟩) n cc) (w.alloc (.cells ((Array.range (cc*i.size)).map (zv.cells[·% zv.cells.size]!)) el)):=by
 have hw1:=N4 (n:=n) o_;have hw2:=N4 (n:=cc) hcm;have hprod:i.bytes*cc<=4096*4294967296:=pB hby hcm;have hbig:¬((i.bytes:Int)*(cc:Int) > 2 ^ 48):=by
  omega
 have hc0:¬(cc:Int)<0:=o_;have hn0:¬(n:Int)<0:=o_;have hnc':¬(n:Int) > (cc:Int):=o_;simp only[Instr.makeSlice,aS,aY hu,bp,asInt,asIntOf,dA,typeInfo,run_program,hi,hw1,hw2,hc0,hn0,hnc',hbig,
  decide_false,Bool.or_self,ao,bl,run_askRoom,sizeOf,au]
 by_cases hcz:cc*i.size=0
 .have h0:Array.range 0=#[]:=u_;simp[hcz,newRow,h0]
 simp_all [newRow,zeroValue,typeInfo]
def XY {z:Y_}{len cap:Rd}(s:S P g w st t O)(h:md z len cap st=some (a,st'))(hc:bD P (.mkslice z len cap) o.op=true) :
  fE P g w t O st' a ((execOp (ev t) o).run P w):=by
 obtain⟨dst,op,ty,pos,aft,gd⟩:=o;simp only[bD]at hc;split at hc
 .simp only[af]at hc;obtain⟨⟨⟨h1,h2⟩,h3⟩,h4⟩:=hc;obtain⟨vn,vc,e,On,Oc,O',rn,rc,s',hl,hk⟩:=Tc s h3 h4 h;split at hk
  .rename_i cc hcc;split at hk
   .rename_i n hn;obtain⟨rfl,rfl⟩:=hk;obtain⟨⟨kc,hvc⟩,hcm⟩:=Ff hcc rc;obtain⟨⟨kn,hvn⟩,hnc⟩:=Ff hn rn;obtain⟨el,hu,hs,hm,hby⟩:=iq h1;obtain⟨el',i,zv,hu',hi,hz,hok⟩:=DC h2;rw[hu]at hu';simp only[ae,ip]at hu';subst hu';obtain⟨hzl,hzg⟩:=WC (w:=w) (g:=g) hok;have hsz:i.size=z.length:=by
     grind [xk,Nat.beq_eq]
    have hbytes:P.bytesOf el=i.bytes:=by grind [Program.bytesOf]
    rw[hbytes]at hby;have hrun:=aeJ (P:=P) (w:=w) (kn:=kn) (kc:=kc) hu hi hz hby hnc hcm;rw[hsz]at hrun;refine fE.list (cap:=cc) (c:=(Array.range (cc*z.length)).map (zv.cells[·% zv.cells.size]!)) (el:=el) (w1:=w) s s' (λb=>by grind) (bL.refl _ _ _) rfl ?_ hm
     (λe he=>by grind) d_ s_ (λj d hj=>?_)
    .simp only[execOp,hvn,hvc];rw[aS,hrun];simp
    .obtain⟨h5,h6⟩:=V3 hj
     grind [Nat.lt_of_lt_of_le,Nat.mul_le_mul_right]
   simp_all
  simp_all
 simp_all
end
abbrev mg:=@Sem.run_ite
def setBlk (w:World)(b:Nat)(o:Go.Obj):World:={ w with heap:=w.heap.setIfInBounds b o }
@[simp] theorem K6 (w:World)(b:Nat)(o:Go.Obj):(setBlk w b o).heap.size=w.heap.size:=by simp[setBlk]
theorem eY {w:World}{b:Nat}{o:Go.Obj}(h:b<w.heap.size):(setBlk w b o).heap[b]?=some o:=by
 simp[setBlk,h]
theorem ir {w:World}{b b':Nat}{o:Go.Obj}(h:b'≠b):(setBlk w b o).heap[b']?=w.heap[b']?:=by
 grind [setBlk]
theorem aew (w:World)(b:Nat)(o o':Go.Obj):setBlk (setBlk w b o) b o'=setBlk w b o':=by
 simp[setBlk]
theorem ajG {w:World}{b o:Nat}{c:F_}{el:TypeId}{fz:Nat×Nat}{v:Value}(h:w.heap[b]?=some (.cells c el fz)) :
  w.setCell ⟨b,o,none⟩ v=setBlk w b (.cells (c.setIfInBounds o v) el fz):=by
 unfold World.setCell setBlk
 congr 1
 grind
theorem QG {α:Type}{cs:List α}{off:Nat}{v:α}{vs:List α}(h:off+(vs.length+1)<=cs.length) :
  aG (cs.set off v) (off+1) vs=aG cs off (v::vs):=by
 grind [aG,List.take_set,List.take_succ_eq_append_getElem,List.drop_set_of_lt]
def r9 {P:Program}{b:Nat}{el:TypeId}:∀(vs:N_) (w:World) (c:F_) (off i:Nat),
  w.heap[b]?=some (.cells c el (0,0))->(∀v∈vs,v.oneCell'=true)->off+i+vs.length<=c.size->
  ∃c':F_,(storeCells ⟨b,off,none⟩ vs i).run P w=.ok () (setBlk w b (.cells c' el (0,0)))∧c'.toList=aG c.toList (off+i) vs∧c'.size=c.size
 |[],w,c,off,i,h,_,_=>by
  refine⟨c,?_,by simp[aG],rfl⟩;have:setBlk w b (.cells c el (0,0))=w:=by
   unfold setBlk;have:w.heap.setIfInBounds b (.cells c el (0,0))=w.heap:=by
    grind
   rw[this]
  rw[this];rfl
 |v::vs,w,c,off,i,h,hv,hsz=>by
  have hoff:off+i<c.size:=d_;have hcell:w.cell? ⟨b,off+i,none⟩=some c[off+i]:=by rw[gR h];simp_all
  have hfz:w.frozen? ⟨b,off+i,none⟩=false:=by simp[World.frozen?,h]
  have hst:(store (⟨b,off+i,none⟩:Addr) v .plain).run P w=.ok () (setBlk w b (.cells (c.setIfInBounds (off+i) v) el (0,0))):=by
   grind [run_store,ajG]
  have hb:b<w.heap.size:=jw h;obtain⟨c',h1,h2,h3⟩:=r9 (P:=P) vs (setBlk w b (.cells (c.setIfInBounds (off+i) v) el (0,0))) (c.setIfInBounds (off+i) v) off (i+1) (eY hb)
   (λu hu=>hv u (.tail _ hu)) (by grind)
  grind [storeCells,lE,Sem.run_bind,Result.andThen_ok,aew,QG]
section
variable {P:Program}{g:Gh}{w:World}{t:F_}{O:Nat->Nat}{st st':St}{a:AV}{o:Oper}
def zV {b:Nat}{o o':Go.Obj}(hb:w.heap[b]?=some o)(ho:∀off,gE o off=false)(ho':∀off,gE o' off=false)(a:Addr):(Vm.setBlk w b o').frozen? a=w.frozen? a:=by
 by_cases e:a.block=b
 .have h1:=ho a.off;have h2:=ho' a.off;have e1:(Vm.setBlk w b o').heap[a.block]?=some o':=by grind [eY]
  have e2:w.heap[a.block]?=some o:=u_;simp only[World.frozen?,e1,e2]
  cases o<;>cases o'<;>first|rfl|exact h2.trans h1.symm|exact h2|exact h1.symm
 grind [World.frozen?,ir]
theorem bL.setBlk {b:Nat}{c:F_}{el:TypeId}{o':Go.Obj}(hb:w.heap[b]?=some (.cells c el (0,0)))(hp:∀o,¬g.pm b o)(hc:∀off,gE o' off=false:=by intro off;simp[gE]):bL g w g (Vm.setBlk w b o') λx=>x=b where
 obj _ _ h:=⟨h,rfl,rfl,rfl⟩
 pm b' o h:=⟨h,by
  grind [sk,ir]⟩
 blk b' _ h:=⟨ir h,λ_ h=>h⟩
 size:=s_
 lp b' rc h:=⟨rc,by grind [ir]⟩
 same:=⟨rfl,rfl,zV hb (by grind [gE]) hc⟩
def S.store {st:St}(s:S P g w st t O){id:Nat}{ob:Obj}(hg:get st.hs.heap id=some ob) :
  ∃O1 Oz:Nat->Nat,jT P g w id ob O1∧(∀b,O1 b+Oz b<=O b)∧∀(w':World) (b:Nat) (c:F_) (el:TypeId) (ob':Obj) (O1':Nat->Nat),
   w.heap[b]?=some (.cells c el (0,0))->1<=O1 b->bL g w g w' (λx=>x=b)->jT P g w' id ob' O1'->(∀x,O1' x+Oz x<=1)->(∀x,O1' x≠0->x<w'.heap.size)->
   S P g w' ⟨st.env,⟨put st.hs.heap id ob',st.hs.next⟩⟩ t (λx=>O1' x+Oz x):=by
 obtain⟨Oe,Oh,re,rh,ho⟩:=s.parts;obtain⟨O1,O2,q,r2,hs⟩:=RL.take rh hg;refine⟨O1,λb=>Oe b+O2 b,q,λb=>by grind,λw' b c el ob' O1' hblk h1 hx q' hle hhi=>?_⟩;have hone:O b<=1:=s.le b;have hfree:Oe b=0∧O2 b=0:=d_;have re':=kr.ext hx re (λy hy e=>by simp_all);have r2':Cd P g w' (del st.hs.heap id) O2:=r2.imp' λk v Q _ hQ q=>q.ext hx (λy hy e=>by grind) (λy ds hd e=>by
  simp_all)
 obtain⟨O3,r3,h3⟩:=RL.put s.sh r2' q';refine⟨s.se,s.sh.put _ _,⟨Oe,O3,re',r3,λx=>by grind⟩,hle,λx hx0=>?_,s.fresh,
  λb o hp=>ba (s.pmlt b o hp) hx.size⟩
 by_cases h:O1' x=0
 .refine ba (s.hi x ?_) hx.size
  grind
 simp_all
theorem GP {α:Type}{cs vs:List α}{off:Nat}:aG cs off vs=cs.take off++(vs++cs.drop (off+vs.length)):=by
 grind [aG]
def akU {ty:TypeId}{n:Nat}(ht:xk P ty n=true){st:St}(s:S P g w st t O){id off:Nat}{b:Nat}(hob:g.obj id=some b)
  {v:AV}{x:Value}{Ov:Nat->Nat}(rv:RV g w v x Ov)(hO:∀c,Ov c+O c<=1)(hOv:∀c,Ov c≠0->c<w.heap.size){h':am}
  (h:storeAt st.hs.heap n (.ptr id off) v=some h') :
  ∃w' O2,(storeVar ty ⟨b,g.base id+off,none⟩ x).run P w=.ok () w'∧S P g w' ⟨st.env,⟨h',st.hs.next⟩⟩ t O2∧bL g w g w' (λc=>O c≠0)∧(∀c,O2 c<=Ov c+O c)∧
   w'.heap.size=w.heap.size:=by
 unfold storeAt at h;split at h
 .simp at h
 .rename_i hn;rw[aB]at hn;simp only at h;split at h
  .rename_i cs hg;split at h
   .rename_i hb;simp only[af,bj]at hb;simp only[ae]at h;subst h;obtain⟨O1,Oz,q,hsum,hst⟩:=s.store hg;obtain⟨b',c,el,Oc,h1,h2,h3,h4,h5,h6,h7,h8⟩:=q;rw[hob]at h1;simp only[ae]at h1;subst h1;rw[h2,bC];have hsz:c.size=cs.length:=by rw[<-h6.length];simp
    have rvs:=rv.cells hb.2;have hlenx:x.cells.toList.length=n:=by grind [RVs.length]
    obtain⟨c',hrun,hc',hcs⟩:=r9 (P:=P) (b:=b) (el:=el) x.cells.toList w c off 0 h5 (rvs.one hb.2) o_;have hrun':(storeVar ty ⟨b,off,none⟩ x).run P w=.ok () (setBlk w b (.cells c' el (0,0))):=by
     have hxs:x.cells.size=n:=o_;simp only[storeVar,aS,eQ ht,bp,hxs,ne_eq,not_true,bl,mg];exact hrun
    have hOb:1<=O1 b:=u_;have hx:bL g w g (setBlk w b (.cells c' el (0,0))) λx=>x=b:=bL.setBlk h5 h7
    have hbO:O b=1:=d_;have hOvb:Ov b=0:=d_;have hOcb:Oc b=0:=by
     grind [Ak]
    have r6:=RVs.ext hx _ _ _ h6 (λy hy e=>by simp_all);have rvs':=RVs.ext hx _ _ _ rvs (λy hy e=>by simp_all);rw[aiN hb.1]at r6;obtain⟨B1,B2,rb1,rb2,hb12⟩:=r6.split;obtain⟨B3,B4,rb3,rb4,hb34⟩:=rb2.split;have hsl:(Vm.sub cs off n).length=n:=j6 hb.1;have hjoin:=rb1.join (rvs'.join rb4);rw[<-hn]at hjoin;rw[<-GP]at hjoin;have e2:c.toList.take off++(x.cells.toList++(c.toList.drop off).drop v.cells.length)=c'.toList:=by
     grind [GP,List.drop_drop]
    have hlen':(aG cs off v.cells).length=cs.length:=by rw[<-hjoin.length];grind
    refine⟨_,_,hrun',hst (setBlk w b (.cells c' el (0,0))) b c el (.cells (aG cs off v.cells)) (λy=>(B1 y+(Ov y+B4 y))+one b y) h5 hOb hx ?_ (λy=>?_) (λy hy=>?_),
     hx.mono (λy _ e=>by simp_all),λy=>?_,s_⟩
    all_goals grind [jT,eY,K6,S.hi]
   simp_all
  simp_all
end
abbrev dK:=@List.ext_getElem?
abbrev eC:=@Nat.mod_lt
abbrev pi:=@Nat.div_eq_of_lt_le
theorem kh {α:Type}{cs vs:List α}{off:Nat}(h:off+vs.length<=cs.length)(j:Nat) :
  (aG cs off vs)[j]?=if off<=j∧j<off+vs.length then vs[j-off]? else cs[j]?:=by
 grind [aG,List.getElem?_append_right]
def aku {xs:E_}{m:Nat}(h:∀e∈xs,e.length=m){i off:Nat}{e ds:Y_}(hi:xs[i]?=some e)(ho:off+ds.length<=m) :
  (xs.set i (aG e off ds)).flatten=aG xs.flatten (i*m+off) ds:=by
 apply dK;intro j;have hlt:=Fy hi;have hl2:∀e'∈xs.set i (aG e off ds),e'.length=m:=by
  grind [aG]
 have hmm:(i+1)*m<=xs.length*m:=b8 _ hlt;rw[kh (by grind [fP])];by_cases hm:m=0
 .subst hm;have e1:(xs.set i (aG e off ds)).flatten.length=0:=by rw[fP hl2];simp
  have e2:xs.flatten.length=0:=by rw[fP h];simp
  simp_all
 have hpos:0<m:=Nat.pos_of_ne_zero hm;have hdec:j=(j / m)*m+j % m:=by grind [Nat.div_add_mod]
 have hr:j % m<m:=eC _ hpos;have cell:∀(ys:E_),(∀e∈ys,e.length=m)->ys.flatten[j]?=(ys[j / m]?).bind (·[j % m]?):=by
  intro ys hy
  cases hq:ys[j / m]? with
  |none =>
   have:ys.length<=j / m:=by
    grind
   have:ys.flatten.length<=j:=by
    rw[fP hy];exact aM (b8 m this) (by omega)
   grind
  |some e' =>
   grind [S2]
 by_cases hk:j / m=i
 .grind [kh]
 .have:¬(i*m+off<=j∧j<i*m+off+ds.length):=by
   rintro ⟨h1,h2⟩
   apply hk;have:j<(i+1)*m:=d_;exact pi o_ this
  grind
section
variable {P:Program}{g:Gh}{w:World}{t:F_}{O:Nat->Nat}{st st':St}{a:AV}{o:Oper}
def axE {v:AV}{d:D}{x:Value}{Ov:Nat->Nat}(h:toD v=some d)(r:RV g w v x Ov):RD w g.pm d x:=by
 cases v with
 |d c=>grind [toD,RV]
 |nl=>simp only[toD,ae]at h;subst h;rw[r.1];exact .nil _ _
 |own p m xs =>
  cases p<;>simp only[toD,ae,reduceCtorEq]at h
  have:=RV.share _ _ _ r
  grind [share,RV]
 |_=>simp[toD]at h
theorem RD.one {pm:Nat->Nat->Prop}{d:D}{x:Value}(r:RD w pm d x):x.oneCell'=true:=by cases r<;>rfl
theorem PI {vs:D_}{ds:Y_}{xs:N_}{Ov:Nat->Nat}(h:me vs=some ds)(r:RVs g w vs xs Ov) :
  xs.length=ds.length∧(∀(j:Nat) (d:D),ds[j]?=some d->∃x,xs[j]?=some x∧RD w g.pm d x)∧∀x∈xs,x.oneCell'=true:=by
 induction vs generalizing ds xs Ov with
 |nil =>
  grind [me,RVs]
 |cons v vs ih =>
  simp only[me]at h;split at h
  .rename_i c hc;split at h
   .obtain⟨x,s,O1,O2,rfl,r1,r2,_⟩:=r;have hd:=axE hc r1
    grind [RD.one]
   simp_all
  simp_all
end
abbrev di:=@List.mem_of_getElem?
theorem afh {v:AV}{d:D}(h:toD v=some d):bq v=true:=by
 cases v with
 |own p m xs=>cases p<;>simp[toD]at h;rfl
 |d c=>rfl
 |nl=>rfl
 |_=>simp[toD]at h
def Mf {vs:D_}{ds:Y_}(h:me vs=some ds):vs.all bq=true:=by
 induction vs generalizing ds<;>grind [me,afh]
theorem Vz {vs:D_}{ds:Y_}(h:me vs=some ds):ds.length=vs.length:=by
 induction vs generalizing ds<;>grind [me]
section
variable {P:Program}{g:Gh}{w:World}{t:F_}{O:Nat->Nat}{st st':St}{a:AV}{o:Oper}
def am0 {ty:TypeId}{n:Nat}(ht:xk P ty n=true){st:St}(s:S P g w st t O){id i off:Nat}{b:Nat}(hob:g.obj id=some b)
  {v:AV}{x:Value}{Ov:Nat->Nat}(rv:RV g w v x Ov){h':am}
  (h:storeAt st.hs.heap n (.pel id i off) v=some h') :
  ∃w' O2,(storeVar ty ⟨b,g.base id+(i*g.esz id+off),none⟩ x).run P w=.ok () w'∧S P g w' ⟨st.env,⟨h',st.hs.next⟩⟩ t O2∧bL g w g w' (λc=>O c≠0)∧(∀c,O2 c<=O c)∧
   w'.heap.size=w.heap.size:=by
 unfold storeAt at h;split at h
 .simp at h
 .rename_i hn;rw[aB]at hn;simp only at h;split at h
  .simp at h
  .rename_i ds hds;split at h
   .rename_i m xs hg;split at h
    .rename_i e he;split at h
     .rename_i hb;rw[bj]at hb;simp only[ae]at h;subst h;obtain⟨O1,Oz,q,hsum,hst⟩:=s.store hg;rcases q with ⟨rfl,_⟩|⟨b',c,el,g1,g2,g3,g4,g5,g6,g7,g8,g9,g10⟩
      .simp at he
      .rw[hob]at g1;simp only[ae]at g1;subst g1;have hlt:=Fy he;have hem:e.length=m:=g7 e (di he);have hmm:(i+1)*m<=xs.length*m:=b8 _ hlt;rw[Am]at hmm;have rvs:=rv.cells (Mf hds);obtain⟨k1,k2,k3⟩:=PI hds rvs;have hdl:ds.length=n:=by grind [Vz]
       have hlenx:x.cells.toList.length=n:=o_;obtain⟨c',hrun,hc',hcs⟩:=r9 (P:=P) (b:=b) (el:=el) x.cells.toList w c (g.base id+(i*g.esz id+off)) 0 g4 k3 d_;have hrun':(storeVar ty ⟨b,g.base id+(i*g.esz id+off),none⟩ x).run P w=.ok () (setBlk w b (.cells c' el (0,0))):=by
        have hxs:x.cells.size=n:=o_;simp only[storeVar,aS,eQ ht,bp,hxs,ne_eq,not_true,bl,mg];exact hrun
       have hx:bL g w g (setBlk w b (.cells c' el (0,0))) λx=>x=b:=bL.setBlk g4 g9
       have hOb:1<=O1 b:=u_;have hl2:∀e'∈xs.set i (aG e off ds),e'.length=m:=by
        grind [aG]
       refine⟨_,_,hrun',hst (setBlk w b (.cells c' el (0,0))) b c el (.arr m (xs.set i (aG e off ds))) (one b) g4 hOb hx ?_ (λy=>?_) (λy hy=>?_),
        hx.mono (λy _ e=>by grind),λy=>?_,s_⟩
       .refine .inr ⟨b,c',el,hob,g2,g3,eY (jw g4),o_,u_,hl2,?_,g9,λ_=>rfl⟩;rw[aku g7 he o_];have hfl:=fP g7;intro j d hj;rw[kh o_]at hj;have hcell:(setBlk w b (.cells c' el (0,0))).cell? ⟨b,g.base id+j,none⟩=c'.toList[g.base id+j]?:=by
         grind [gR,eY]
        rw[hcell,hc',kh d_,hlenx,g2];split at hj
        .grind [RD.ext]
        .obtain⟨u,hu,hr⟩:=g8 j d hj
         grind [RD.ext,gR]
       .have:=s.le y;grind
       .rw[wF hy];simp_all [jw]
       simp_all
     simp_all
    simp_all
   simp_all
def aCt {n:Nat}{p x:Rd}(s:S P g w st t O)(h:an3 n p x st=some (a,st'))(hc:bD P (.st n p x) o.op=true) :
  fE P g w t O st' a ((execOp (ev t) o).run P w):=by
 obtain⟨dst,op,ty,pos,aft,gd⟩:=o;simp only[bD]at hc;split at hc
 .rename_i ty' p' x';simp only[af]at hc;obtain⟨⟨h1,h2⟩,h3⟩:=hc;obtain⟨pv,xv,e,Op,Ox,O',rp,rx,s2,l2,k⟩:=Tc s h2 h3 h;split at k
  .rename_i h' hst;obtain⟨rfl,rfl⟩:=k;have fin:∀{ad:Addr}{w':World},ev t p'=.pointer (some ad)->(storeVar ty' ad (ev t x')).run P w=.ok () w'->
     (execOp (ev t) ⟨dst,.store ty' p' x',ty,pos,aft,gd⟩).run P w=.ok .skip w':=by
    simp_all [execOp,Instr.storeAt,Instr.sureAddr]
   cases pv with
   |ptr id off =>
    obtain⟨⟨b,hob,he⟩,_⟩:=rp;obtain⟨w',O2,hrun,s3,hx,ho,hsz⟩:=akU h1 s2 hob rx (λc=>by have:=l2 c;have:=s.le c;omega) (λc hc=>s.hi c d_) hst;refine⟨undef,w',g,zero,O2,.inr ⟨fin he hrun,rfl⟩,?_,s3,hx.mono λc _ h=>by grind,λc=>by have:=s3.le c;simp_all,λc _=>?_,s_⟩
    all_goals grind [RV]
   |pel id i off =>
    obtain⟨⟨b,hob,he⟩,_⟩:=rp;obtain⟨w',O2,hrun,s3,hx,ho,hsz⟩:=am0 h1 s2 hob rx hst;refine⟨undef,w',g,zero,O2,.inr ⟨fin he hrun,rfl⟩,?_,s3,hx.mono λc _ h=>by grind,λc=>by have:=s3.le c;simp_all,λc _=>?_,s_⟩
    all_goals grind [RV]
   |_=>grind [storeAt]
  simp_all
 simp_all
end
section
variable {P:Program}{g:Gh}{w:World}{t:F_}{O:Nat->Nat}{st st':St}{a:AV}
def Np (P:Program)(g:Gh)(w:World)(t:F_)(O:Nat->Nat)(st':St):Prop :=
 ∃g' O',S P g' w st' t O'∧bL g w g' w (λb=>O b≠0)∧∀b,O' b<=O b
theorem Np.same {O':Nat->Nat}(s:S P g w st' t O')(h:∀b,O' b<=O b):Np P g w t O st':=⟨g,O',s,.refl _ _ _,h⟩
def S.delEnv {st:St}(s:S P g w st t O)(i:Nat):∃O',S P g w ⟨del st.env i,st.hs⟩ t O'∧∀b,O' b<=O b:=by
 obtain⟨Oe,Oh,re,rh,ho⟩:=s.parts;obtain⟨O1,r1,h1⟩:=RL.drop re i;have hle:∀b,O1 b+Oh b<=O b:=λb=>by simp_all
 exact⟨λb=>O1 b+Oh b,s.of_env r1 rh (s.se.del i) (λ_=>rfl) hle,hle⟩
def S.delHeap {st:St}(s:S P g w st t O)(i:Nat):∃O',S P g w ⟨st.env,⟨del st.hs.heap i,st.hs.next⟩⟩ t O'∧∀b,O' b<=O b:=by
 obtain⟨Oe,Oh,re,rh,ho⟩:=s.parts;obtain⟨O1,r1,h1⟩:=RL.drop rh i;have hle:∀b,Oe b+O1 b<=O b:=λb=>by simp_all
 exact⟨λb=>Oe b+O1 b,⟨s.se,s.sh.del i,⟨Oe,O1,re,r1,λ_=>rfl⟩,λb=>aM (hle b) (s.le b),
  λb hb=>s.hi b d_,s.fresh,s.pmlt⟩,hle⟩
def awY {is:C_}(s:S P g w st t O)(h:agi is st=some (a,st')):Np P g w t O st':=by
 simp only[agi,ae,aQ]at h;have:∃O',S P g w ⟨is.foldl del st.env,st.hs⟩ t O'∧∀b,O' b<=O b:=by
  induction is generalizing st O with
  |nil=>exact⟨O,s,λ_=>ak _⟩
  |cons i is ih =>
   obtain⟨O1,s1,h1⟩:=s.delEnv i
   grind
 grind [Np.same]
def S.delAll:∀{l:C_}{st:St}{O:Nat->Nat},S P g w st t O->∃O',S P g w ⟨st.env,⟨delAll st.hs.heap l,st.hs.next⟩⟩ t O'∧∀b,O' b<=O b
 |[],_,O,s=>⟨O,s,λb=>ak _⟩
 |i::r,st,O,s=>by
  obtain⟨O1,s1,h1⟩:=s.delHeap i;obtain⟨O2,s2,h2⟩:=S.delAll (l:=r) s1;exact⟨O2,s2,λb=>aM (h2 b) (h1 b)⟩
def awD {i:Nat}(s:S P g w st t O)(h:XO i st=some (a,st')):Np P g w t O st':=by
 unfold XO at h;split at h
 .rename_i id _ _;obtain⟨O1,s1,h1⟩:=s.delEnv i;obtain⟨O2,s2,h2⟩:=s1.delHeap id
  grind [Np.same]
 .rename_i caps _;obtain⟨O1,s1,h1⟩:=s.delEnv i;obtain⟨O2,s2,h2⟩:=S.delAll (l:=I7 caps) s1
  grind [Np.same]
 grind [Np.same]
def aBj {i m:Nat}(s:S P g w st t O)(h:auq i m st=some (a,st')):Np P g w t O st':=by
 unfold auq at h;split at h
 .rename_i hg;obtain⟨_,rfl⟩:=h;obtain⟨Oe,Oh,re,rh,ho⟩:=s.parts;obtain⟨O1,O2,⟨hlt,q⟩,r2,hs⟩:=RL.take re hg;simp only[RV]at q;obtain⟨O3,r3,h3⟩:=RL.put s.se r2 (x:=.own false m []) (O1:=zero) ⟨hlt,by grind [RV,Ds]⟩;have hle:∀b,O3 b+Oh b<=O b:=λb=>by simp_all
  exact .same (s.of_env r3 rh (s.se.put _ _) (λ_=>rfl) hle) hle
 grind [Np.same]
end
def Gh.keep (g:Gh)(b:Nat)(K:Nat->Prop):Gh:={ g with pm:=λb' o=>g.pm b' o∨(b'=b∧K o) }
section
variable {P:Program}{g:Gh}{w:World}{t:F_}{O:Nat->Nat}{st st':St}{a:AV}
def bL.keep (g:Gh)(w:World)(b:Nat)(K:Nat->Prop):bL g w (g.keep b K) w λx=>x=b where
 obj _ _ h:=⟨h,rfl,rfl,rfl⟩
 pm _ _ h:=⟨.inl h,rfl⟩
 blk _ _ h:=⟨rfl,λ_ h'=>h'.elim id λe=>absurd e.1 h⟩
 size:=ak _
 lp _ rc h:=⟨rc,h⟩
 same:=⟨rfl,rfl,λ_=>rfl⟩
def S.keep {st:St}(s:S P g w st t O){b:Nat}(hO:O b=0){c:F_}{el:TypeId}(hb:w.heap[b]?=some (.cells c el (0,0)))(K:Nat->Prop) :
  S P (g.keep b K) w st t O:=by
 obtain⟨Oe,Oh,re,rh,ho⟩:=s.parts;have hx:=bL.keep g w b K;have re':=kr.ext hx re (λy hy e=>by simp_all);have rh':Cd P (g.keep b K) w st.hs.heap Oh:=rh.imp' λk v Q _ hQ q=>q.ext hx (λy hy e=>by grind) (λy ds hd e=>by
  simp_all)
 exact⟨s.se,s.sh,⟨Oe,Oh,re',rh',ho⟩,s.le,s.hi,s.fresh,λb' o h=>h.elim (s.pmlt b' o) λe=>by grind⟩
def avi (P:Program)(g:Gh)(w:World)(t:F_)(O:Nat->Nat)(st:St)(x:Value)(Ov:Nat->Nat)(r:AV×am):Prop :=
 ∃g' Ov' O',RV g' w r.1 x Ov'∧S P g' w ⟨st.env,⟨r.2,st.hs.next⟩⟩ t O'∧bL g w g' w (λb=>Ov b=0∧O b≠0)∧∀b,Ov' b+O' b<=Ov b+O b
def ak6 {st:St}(s:S P g w st t O){v:AV}{x:Value}{Ov:Nat->Nat}(rv:RV g w v x Ov) :
  avi P g w t O st x Ov (zx st.hs.heap v):=by
 have triv:avi P g w t O st x Ov (v,st.hs.heap):=⟨g,Ov,O,rv,s,.refl _ _ _,λ_=>ak _⟩
 cases v with
 |sl id off len =>
  unfold zx;simp only;split
  .rename_i m xs hg;split
   .rename_i hb;rw[bj]at hb;obtain⟨Oe,Oh,re,rh,ho⟩:=s.parts;obtain⟨O1,O2,q,r2,hs⟩:=RL.take rh hg;have hle2:∀b,Oe b+O2 b<=O b:=λb=>by grind
    have s2:S P g w ⟨st.env,⟨del st.hs.heap id,st.hs.next⟩⟩ t (λb=>Oe b+O2 b) :=
     ⟨s.se,s.sh.del id,⟨Oe,O2,re,r2,λ_=>rfl⟩,λb=>aM (hle2 b) (s.le b),λb hb=>s.hi b d_,s.fresh,s.pmlt⟩
    have hsub:(Vm.sub xs off len).length=len:=j6 hb;have emp:len=0->(∃a,x=.slice a 0 0)->RV g w (.own false m (Vm.sub xs off len)) x zero:=by
     grind [RV,Ds]
    rcases rv with ⟨h0,h⟩|⟨b,cap,hob,rfl,hlc,hcap⟩
    .exact⟨g,zero,_,emp h0 h,s2,.refl _ _ _,λb=>by simp_all⟩
    .rcases q with ⟨rfl,g1,g2,g3,_⟩|⟨b',c,el,g1,g2,g3,g4,g5,g6,g7,g8,g9,g10⟩
     .have hl0:len=0:=u_;have hc0:cap=0:=by
       grind [Nat.mul_eq_zero]
      subst hl0 hc0;exact⟨g,zero,_,emp rfl ⟨_,rfl⟩,s2,.refl _ _ _,λb=>by simp_all⟩
     .rw[hob]at g1;simp only[ae]at g1;subst g1;have h1:O1 b=1:=u_;have hO2:Oe b+O2 b=0:=by have:=hs b;have:=ho b;have:=s.le b;omega
      have s3:=s2.keep hO2 g4 (λo=>g.base id+off*m<=o∧o<g.base id+off*m+len*m);refine⟨_,one b,_,?_,s3,(bL.keep g w b _).mono λy _ e=>?_,λy=>?_⟩
      .refine .inr ⟨b,g.base id+off*m,cap,c,el,u_,o_,g3,H5 g7 off len,g4,?_,?_,λo ho=>?_,λ_ j hj=>?_,rfl⟩
       .grind [Nat.add_mul]
       .rw[nK g7];exact(g8.sub _ _).ext (bL.keep g w b _) (.inl rfl)
       .rcases ho with h|h<;>simp_all
       .rw[hsub]at hj;exact .inr ⟨rfl,o_,o_⟩
      all_goals grind
   omega
  omega
 |_=>exact triv
end
section
variable {P:Program}{g:Gh}{w:World}{t:F_}{O:Nat->Nat}{st st':St}{a:AV}
def S.pull {st:St}(s:S P g w st t O){i:Nat}{v:AV}(hg:get st.env i=some v) :
  ∃Ov O',i<t.size∧RV g w v (t.getD i undef) Ov∧S P g w ⟨del st.env i,st.hs⟩ t O'∧∀b,Ov b+O' b<=O b:=by
 obtain⟨Oe,Oh,re,rh,ho⟩:=s.parts;obtain⟨O1,O2,⟨hlt,q⟩,r2,hs⟩:=RL.take re hg;have hle:∀b,O1 b+(O2 b+Oh b)<=O b:=λb=>by grind
 exact⟨O1,λb=>O2 b+Oh b,hlt,q,s.of_env r2 rh (s.se.del i) (λ_=>rfl) (λb=>by grind),hle⟩
def S.setSlot {e:aV}{hs:HS}{i:Nat}(he:cU e)(s:S P g w ⟨del e i,hs⟩ t O){v:AV}{Ov:Nat->Nat}(hi:i<t.size)(r:RV g w v (t.getD i undef) Ov)
  (hle:∀b,Ov b+O b<=1)(hhi:∀b,Ov b≠0->b<w.heap.size):∃O',S P g w ⟨put e i v,hs⟩ t O'∧∀b,O' b<=Ov b+O b:=by
 obtain⟨Oe,Oh,re,rh,ho⟩:=s.parts;obtain⟨O3,r3,h3⟩:=RL.put he re (x:=v) (O1:=Ov) ⟨hi,r⟩;have hsum:∀b,O3 b+Oh b<=Ov b+O b:=λb=>by grind
 refine⟨λb=>O3 b+Oh b,⟨he.put _ _,s.sh,⟨O3,Oh,r3,rh,λ_=>rfl⟩,λb=>aM (hsum b) (hle b),λb hb=>?_,s.fresh,s.pmlt⟩,hsum⟩
 grind [hi]
def ayr {i:Nat}(s:S P g w st t O)(h:ZX i st=some (a,st')):Np P g w t O st':=by
 unfold ZX at h;split at h
 .rename_i v hg;obtain⟨_,rfl⟩:=h;obtain⟨Ov,O1,hi,rv,s1,l1⟩:=s.pull hg;obtain⟨g',Ov',O2,rv',s2,hx,l2⟩:=ak6 s1 rv;have hle:∀b,Ov' b+O2 b<=O b:=λb=>aM (l2 b) (l1 b)
  obtain⟨O3,s3,l3⟩:=S.setSlot (e:=st.env) s.se s2 hi rv' (λb=>aM (hle b) (s.le b)) (λb hb=>s.hi b d_);exact⟨g',O3,s3,hx.mono λb _ h=>by grind,λb=>aM (l3 b) (hle b)⟩
 simp_all
def I0:∀(offs:C_) {g:Gh}{O:Nat->Nat}{e:aV}{h:am}{n:Nat},S P g w ⟨e,⟨h,n⟩⟩ t O->∀{cs:D_}{xs:N_}{Ov:Nat->Nat},
  RVs g w cs xs Ov->(∀b,Ov b+O b<=1)->
  ∃g' Ov' O',RVs g' w (ww offs cs h).1 xs Ov'∧S P g' w ⟨e,⟨(ww offs cs h).2,n⟩⟩ t O'∧bL g w g' w (λb=>Ov b≠0∨O b≠0)∧∀b,Ov' b+O' b<=Ov b+O b
 |[],g,O,e,h,n,s,cs,xs,Ov,rv,_=>⟨g,Ov,O,rv,s,.refl _ _ _,λ_=>ak _⟩
 |o::r,g,O,e,h,n,s,cs,xs,Ov,rv,hle=>by
  unfold ww;split
  .rename_i v hv;obtain⟨x,A1,A2,hx,r1,r2,hs⟩:=rv.pull hv;obtain⟨g1,A1',O1,r1',s1,hx1,l1⟩:=ak6 s r1;have r2':=RVs.ext hx1 _ _ _ r2 (λb hb hh=>by grind);have hj:(cs.set o .junk)[o]?=some .junk:=d_;obtain⟨y,B1,hy,_,_,rep⟩:=r2'.replace hj;rw[hx]at hy;simp only[ae]at hy;subst hy;obtain⟨B2,r3,h3⟩:=rep _ _ r1';rw[List.set_set]at r3;have hle1:∀b,B2 b+O1 b<=Ov b+O b:=λb=>by grind
   obtain⟨g2,Ov2,O2,r4,s4,hx2,l4⟩:=I0 r s1 r3 (λb=>aM (hle1 b) (hle b));refine⟨g2,Ov2,O2,r4,s4,(hx1.mono λb _ hh=>.inr hh.2).trans hx2 λb _ hh=>?_,λb=>aM (l4 b) (hle1 b)⟩
   grind
  .exact I0 r s rv hle
def axn {i:Nat}{offs:C_}(s:S P g w st t O)(h:ag4 i offs st=some (a,st')):Np P g w t O st':=by
 unfold ag4 at h;split at h
 .rename_i cs hg;obtain⟨_,rfl⟩:=h;obtain⟨Ov,O1,hi,rv,s1,l1⟩:=s.pull hg;obtain⟨xs,hxs,rv⟩:=rv;obtain⟨g',Ov',O2,rv',s2,hx,l2⟩:=I0 offs s1 rv (λb=>aM (l1 b) (s.le b));have hle:∀b,Ov' b+O2 b<=O b:=λb=>aM (l2 b) (l1 b)
  obtain⟨O3,s3,l3⟩:=S.setSlot (e:=st.env) (v:=.agg (ww offs cs st.hs.heap).1) s.se s2 hi (by grind [RV]) (λb=>aM (hle b) (s.le b))
   (λb hb=>s.hi b d_)
  exact⟨g',O3,s3,hx.mono λb _ h=>by grind,λb=>aM (l3 b) (hle b)⟩
 simp_all
end
section
variable {P:Program}{g:Gh}{w:World}{t:F_}{O:Nat->Nat}{st st':St}{a:AV}
def SU {g:Gh}(s:S P g w st t O){v:AV}{x:Value}{Ov:Nat->Nat}(rv:RV g w v x Ov)(hle:∀b,Ov b+O b<=1) :
  ∃g',RV g' w (nu v) x Ov∧S P g' w st t O∧bL g w g' w (λb=>Ov b≠0):=by
 have triv:RV g w (nu v) x Ov->∃g',RV g' w (nu v) x Ov∧S P g' w st t O∧bL g w g' w (λb=>Ov b≠0):=λr=>⟨g,r,s,.refl _ _ _⟩
 cases v with
 |own p m xs =>
  cases p with
  |false=>exact triv rv
  |true =>
   rcases rv with h|⟨b,off,cap,c,el,rfl,hcap,hm,hl,hb,hsz,hrc,hpm,hp,rfl⟩
   .exact triv (by exact .inl h)
   .have hO:O b=0:=by grind [Ak]
    refine⟨g.keep b λo=>off<=o∧o<off+xs.length*m,?_,s.keep hO hb _,(bL.keep g w b _).mono λy _ e=>by simp_all⟩;refine .inr ⟨b,off,cap,c,el,rfl,hcap,hm,hl,hb,hsz,hrc.ext (bL.keep g w b _) (.inl rfl),λo ho=>?_,λ_ j hj=>.inr ⟨rfl,o_,o_⟩,rfl⟩;rcases ho with h|h<;>simp_all
 |_=>exact triv rv
def Q4 {f:AV->AV}(hf:∀{g:Gh}{O:Nat->Nat},S P g w st t O->∀{v:AV}{x:Value}{Ov:Nat->Nat},RV g w v x Ov->(∀b,Ov b+O b<=1)->
  ∃g',RV g' w (f v) x Ov∧S P g' w st t O∧bL g w g' w (λb=>Ov b≠0)):∀{vs:D_}{g:Gh}{O:Nat->Nat},S P g w st t O->∀{xs:N_}{Ov:Nat->Nat},
  RVs g w vs xs Ov->(∀b,Ov b+O b<=1)->∃g',RVs g' w (vs.map f) xs Ov∧S P g' w st t O∧bL g w g' w (λb=>Ov b≠0)
 |[],g,O,s,xs,Ov,rv,_=>⟨g,u_,s,.refl _ _ _⟩
 |v::vs,g,O,s,xs,Ov,rv,hle=>by
  obtain⟨x,ys,O1,O2,rfl,r1,r2,hs⟩:=rv;obtain⟨g1,q1,s1,hx1⟩:=hf s r1 (λb=>by grind);have r2':=RVs.ext hx1 _ _ _ r2 (λb hb hh=>by grind);obtain⟨g2,q2,s2,hx2⟩:=Q4 hf s1 r2' (λb=>by grind);refine⟨g2,?_,s2,(hx1.mono λb _ h=>by simp_all).trans hx2 λb _ h=>by simp_all⟩;exact⟨x,ys,O1,O2,rfl,RV.ext hx2 _ _ _ q1 (λb hb hh=>by grind),q2,hs⟩
def acQ {g:Gh}{O:Nat->Nat}(s:S P g w st t O){v:AV}{x:Value}{Ov:Nat->Nat}(rv:RV g w v x Ov)(hle:∀b,Ov b+O b<=1) :
  ∃g',RV g' w (BQ v) x Ov∧S P g' w st t O∧bL g w g' w (λb=>Ov b≠0):=by
 cases v with
 |agg cs =>
  obtain⟨xs,rfl,rv⟩:=rv
  simp_all [Q4,SU,BQ,RV]
 |_=>exact SU s rv hle
def aij {g:Gh}{O:Nat->Nat}(s:S P g w st t O){v:AV}{x:Value}{Ov:Nat->Nat}(rv:RV g w v x Ov)(hle:∀b,Ov b+O b<=1) :
  ∃g',RV g' w (firm v) x Ov∧S P g' w st t O∧bL g w g' w (λb=>Ov b≠0):=by
 cases v with
 |tup cs =>
  obtain⟨xs,rfl,rv⟩:=rv
  simp_all [Q4,acQ,firm,RV]
 |_=>exact acQ s rv hle
end
section
variable {P:Program}{w:World}{t:F_}{st st':St}{a:AV}
def ahR (P:Program)(g:Gh)(w:World)(t:F_)(O:Nat->Nat)(env:aV)(x:Value)(Ov:Nat->Nat)(r:AV×HS):Prop :=
 ∃g' Ov' O',RV g' w r.1 x Ov'∧S P g' w ⟨env,r.2⟩ t O'∧bL g w g' w (λ_=>False)∧∀b,Ov' b+O' b<=Ov b+O b
def bL.id (g:Gh)(w:World){id:Nat}(hn:g.obj id=none)(b base esz bsz:Nat):bL g w (g.add id b base esz bsz) w λ_=>False :=
 by grind [bL.add,bL.refl]
def asv {g:Gh}{O:Nat->Nat}{hs:HS}{env:aV}(s:S P g w ⟨env,hs⟩ t O){v:AV}{x:Value}{Ov:Nat->Nat}(rv:RV g w v x Ov)(hle:∀b,Ov b+O b<=1)
  (hhi:∀b,Ov b≠0->b<w.heap.size):ahR P g w t O env x Ov (nR hs v):=by
 have triv:ahR P g w t O env x Ov (v,hs):=⟨g,Ov,O,rv,s,.refl _ _ _,λ_=>ak _⟩
 cases v with
 |own p m xs =>
  cases p with
  |false=>exact triv
  |true =>
   unfold nR;simp only;split
   .exact triv
   .rename_i hm;have hm:m≠0:=by rintro rfl;simp at hm
    have hn:=s.fresh hs.next (ak _)
    have put1:∀(b base esz bsz:Nat) (ob:Obj) (O1:Nat->Nat),jT P (g.add hs.next b base esz bsz) w hs.next ob O1->(∀y,O1 y+O y<=1)->(∀y,O1 y≠0->y<w.heap.size)->
      ∃O',S P (g.add hs.next b base esz bsz) w ⟨env,⟨put hs.heap hs.next ob,hs.next+1⟩⟩ t O'∧∀y,O' y<=O1 y+O y:=by
     intro b base esz bsz ob O1 r h1 h2;have hx:=bL.id g w hn b base esz bsz;obtain⟨Oe,Oh,re,rh,ho⟩:=s.parts;have re':=kr.ext hx re s_;have rh':Cd P (g.add hs.next b base esz bsz) w hs.heap Oh:=rh.imp' λk v Q _ hQ q=>q.ext hx s_ (by simp)
     obtain⟨O2,r2,h3⟩:=RL.drop rh' hs.next;obtain⟨O3,r3,h4⟩:=RL.put s.sh r2 r;have hl:∀y,Oe y+O3 y<=O1 y+O y:=λy=>by grind
     refine⟨λy=>Oe y+O3 y,⟨s.se,s.sh.put _ _,⟨Oe,O3,re',r3,λ_=>rfl⟩,λy=>aM (hl y) (h1 y),λy hy=>?_,λi hi=>?_,s.pmlt⟩,hl⟩
     all_goals grind [S.hi,Gh.add,S.fresh]
    rcases rv with ⟨rfl,hz,⟨a,rfl⟩⟩|⟨b,off,cap,c,el,rfl,hcap,hm',hl,hb,hsz,hrc,hpm,hp,rfl⟩
    .obtain⟨O',s',hO'⟩:=put1 0 0 m 0 (.arr m []) zero (by
      simp only[jT];exact .inl ⟨trivial,by simp[Gh.add],by simp[Gh.add],o_,⟨0,by simp[Gh.add]⟩,λ_=>trivial⟩) (λy=>by simp_all) (λy h=>absurd rfl h)
     refine⟨_,zero,O',?_,s',bL.id g w hn _ _ _ _,λy=>by simp_all⟩
     grind [RV]
    .obtain⟨O',s',hO'⟩:=put1 b off m (off+cap*m) (.arr m xs) (one b) (by
      refine .inr ⟨b,c,el,by simp[Gh.add],by simp[Gh.add],hm',hb,by grind [Gh.add],?_,hl,by grind [Gh.add],λo ho=>?_,λ_=>rfl⟩
      .simp_all [Gh.add,b8]
      .have:=(hpm o ho).1;simp_all) hle hhi
     refine⟨_,zero,O',?_,s',bL.id g w hn _ _ _ _,λy=>by simp_all⟩
     simp_all [RV,Gh.add]
 |_=>exact triv
end
section
variable {P:Program}{w:World}{t:F_}
def aaj (P:Program)(w:World)(t:F_)(f:HS->AV->AV×HS):Prop :=
 ∀{g:Gh}{O:Nat->Nat}{hs:HS}{env:aV},S P g w ⟨env,hs⟩ t O->∀{v:AV}{x:Value}{Ov:Nat->Nat},RV g w v x Ov->(∀b,Ov b+O b<=1)->
  (∀b,Ov b≠0->b<w.heap.size)->ahR P g w t O env x Ov (f hs v)
def XL {f:HS->AV->AV×HS}(hf:aaj P w t f){g:Gh}{O:Nat->Nat}{hs:HS}{env:aV}(s:S P g w ⟨env,hs⟩ t O){cs:D_}{xs:N_}{Ov:Nat->Nat}
  (rv:RVs g w cs xs Ov)(hle:∀b,Ov b+O b<=1)(hhi:∀b,Ov b≠0->b<w.heap.size){o:Nat}{v:AV}(hv:cs[o]?=some v) :
  ∃g' Ov' O',RVs g' w (cs.set o (f hs v).1) xs Ov'∧S P g' w ⟨env,(f hs v).2⟩ t O'∧bL g w g' w (λ_=>False)∧∀b,Ov' b+O' b<=Ov b+O b:=by
 obtain⟨x,A1,A2,hx,r1,r2,hs'⟩:=rv.pull hv;obtain⟨g1,A1',O1,r1',s1,hx1,l1⟩:=hf s r1 (λb=>by grind) (λb h=>hhi b d_);have r2':=RVs.ext hx1 _ _ _ r2 (by simp)
 grind [List.getElem?_set_self,RVs.replace,List.set_set]
def acO:aaj P w t nR:=λs _ _ _ r h1 h2=>asv s r h1 h2
def ZB (o:Nat):aaj P w t (λhs=>mz hs o):=by
 intro g O hs env s v x Ov rv hle hhi
 cases v with
 |agg cs =>
  obtain⟨xs,rfl,rv⟩:=rv;simp only[mz];split
  .rename_i v hv;obtain⟨g',Ov',O',r',s',hx,l'⟩:=XL acO s rv hle hhi hv;exact⟨g',Ov',O',by grind [RV],s',hx,l'⟩
  .exact⟨g,Ov,O,by grind [RV],s,.refl _ _ _,λ_=>ak _⟩
 |_=>exact acO s rv hle hhi
def aoe (p:Nat×Nat):aaj P w t (λhs=>qy hs p):=by
 intro g O hs env s v x Ov rv hle hhi
 cases v with
 |tup cs =>
  obtain⟨xs,rfl,rv⟩:=rv;simp only[qy];split
  .rename_i v hv;obtain⟨g',Ov',O',r',s',hx,l'⟩:=XL (ZB p.2) s rv hle hhi hv;exact⟨g',Ov',O',by grind [RV],s',hx,l'⟩
  .exact⟨g,Ov,O,by grind [RV],s,.refl _ _ _,λ_=>ak _⟩
 |_=>exact ZB p.2 s rv hle hhi
def Lm:∀th:S_,aaj P w t (λhs v=>dS th v hs)
 |[]=>λs _ _ _ rv _ _=>⟨_,_,_,rv,s,.refl _ _ _,λ_=>ak _⟩
 |p::r=>by
  intro s v x Ov rv hle hhi;obtain⟨g1,Ov1,O1,r1,s1,hx1,l1⟩:=aoe p s rv hle hhi;obtain⟨g2,Ov2,O2,r2,s2,hx2,l2⟩:=Lm r s1 r1 (λb=>aM (l1 b) (hle b)) (λb hb=>by
   grind [S.hi])
  exact⟨g2,Ov2,O2,r2,s2,hx1.trans hx2 (λ_ _ h=>h),λb=>aM (l2 b) (l1 b)⟩
end
abbrev gy:=@Array.getD_eq_getD_getElem?
abbrev f9:=@Array.getElem?_setIfInBounds
section
variable {P:Program}{g:Gh}{w:World}{t:F_}{O:Nat->Nat}
def S.setTmp {e:aV}{hs:HS}(s:S P g w ⟨e,hs⟩ t O){d:Nat}{v:AV}{x:Value}{Ov:Nat->Nat}(hd:d<t.size)(r:RV g w v x Ov)
  (hle:∀b,Ov b+O b<=1)(hhi:∀b,Ov b≠0->b<w.heap.size):∃O',S P g w ⟨put e d v,hs⟩ (t.setIfInBounds d x) O'∧∀b,O' b<=Ov b+O b:=by
 obtain⟨Oe,Oh,re,rh,ho⟩:=s.parts;obtain⟨O2,r2,h2⟩:=RL.drop re d;have r2':kr g w (del e d) (t.setIfInBounds d x) O2:=r2.imp' λk v' O1 hm _ q=>by
  have hk:=(alq hm).2;refine⟨u_,?_⟩;have:(t.setIfInBounds d x).getD k undef=t.getD k undef:=by
   simp only[gy,f9]
   grind
  grind
 obtain⟨O3,r3,h3⟩:=RL.put s.se r2' (x:=v) (O1:=Ov) ⟨u_,by
  simp_all⟩
 have hl:∀b,O3 b+Oh b<=Ov b+O b:=λb=>by grind
 refine⟨λb=>O3 b+Oh b,⟨s.se.put _ _,s.sh,⟨O3,Oh,r3,rh,λ_=>rfl⟩,λb=>aM (hl b) (hle b),λb hb=>?_,s.fresh,s.pmlt⟩,hl⟩
 grind [hi]
end
abbrev il:=@List.mem_iff_getElem
abbrev lO:=@Bool.true_eq_false
section
variable {P:Program}{g:Gh}{w:World}{t:F_}{O:Nat->Nat}{st st':St}{a:AV}{o:Oper}
def LR {m:Nat}{ys:E_}(h:fW m ys=true):∀e∈ys,e.length=m:=by
 induction ys<;>grind [fW,Nat.beq_eq]
def Rj (ds:Y_):(L7 ds).flatten=ds:=by
 induction ds<;>grind [L7]
def aiQ (ds:Y_):∀e∈L7 ds,e.length=1:=by
 induction ds<;>grind [L7]
structure CY (g:Gh)(w:World)(m:Nat)(ys:E_)(a:Option Addr)(news:N_):Prop where
 nn:a=.none->ys.length=0
 len:news.length=ys.length*m
 rd:∀(j:Nat) (d:D),ys.flatten[j]?=some d->∃u,news[j]?=some u∧RD w g.pm d u
 one:∀u∈news,u.oneCell'=true
 cell:∀ad,a=some ad->∀(j:Nat) (u:Value),news[j]?=some u->w.cell? (ad.add j)=some u
def CY.nil (g:Gh)(w:World)(m:Nat)(a:Option Addr):CY g w m [] a [] :=
 ⟨λ_=>rfl,s_,λj d h=>by simp at h,λu h=>by simp at h,λad _ j u h=>by simp at h⟩
def CY.of_cells {m:Nat}{ys:E_}(hl:∀e∈ys,e.length=m){b off:Nat}(r:ja w g.pm ys.flatten b off):∃news,CY g w m ys (some ⟨b,off,.none⟩) news:=by
 obtain⟨xs,h1,h2,h3⟩:=r.vals;refine⟨xs,λh=>by simp at h,by grind [fP],λj d hd=>?_,λu hu=>?_,λad e j u hj=>?_⟩
 .have hj:j<xs.length:=d_;exact⟨xs[j],s_,h3 j d _ hd s_⟩
 .obtain⟨j,hj,rfl⟩:=il.1 hu;have hj':j<ys.flatten.length:=o_;exact(h3 j _ _ (bB hj') (bB hj)).one
 grind [lE]
def AF {st:St}(s:S P g w st t O){v:AV}{ys:E_}{x:Value}{Ov:Nat->Nat}{m:Nat}(he:elems st.hs.heap v=some ys)(hl:∀e∈ys,e.length=m)
  (rv:RV g w v x Ov):∃a cap news,x=.slice a ys.length cap∧CY g w m ys a news:=by
 by_cases hn:vg v=false
 .rcases (abl he hn rv).list with ⟨rfl,a,cap,rfl⟩|⟨b,off,m',cap,rfl,_,_,_,hc,_⟩
  .exact⟨a,cap,[],rfl,CY.nil _ _ _ _⟩
  .obtain⟨news,h⟩:=CY.of_cells hl hc
   grind
 .cases v<;>simp only[vg,not_true,lO,not_false_eq_true]at hn
  rename_i id off len;simp only[elems]at he;split at he
  .rename_i xs hx;split at he
   .rename_i hb;rw[bj]at hb;simp only[ae]at he;subst he;have hsl:(Vm.sub xs off len).length=len:=j6 hb;rcases rv.1 with ⟨rfl,a,rfl⟩|⟨b,cap,hob,rfl,hlc,hcap⟩
    .exact⟨a,0,[],rfl,CY.nil _ _ _ _⟩
    .obtain⟨Oe,Oh,re,rh,ho⟩:=s.parts;unfold objElems at hx;split at hx
     .rename_i m' zs hg;obtain⟨O1,q,_⟩:=RL.get rh hg;rcases q with ⟨rfl,_⟩|⟨b',c,el,g1,g2,g3,g4,g5,g6,g7,g8,g9,g10⟩
      .have h0:len=0:=u_;subst h0;exact⟨_,cap,[],rfl,CY.nil _ _ _ _⟩
      .have hc:ja w g.pm (Vm.sub zs off len).flatten b (g.base id+off*g.esz id):=by
        simp_all [nK,ja.sub]
       simp_all [CY.of_cells]
     .rename_i cs hg;split at hx
      .rename_i ds hds;obtain⟨O1,q,_⟩:=RL.get rh hg;obtain⟨b',c,el,O2,g1,g2,g3,g4,g5,g6,g7,g8⟩:=q;obtain⟨h1,h2,h3⟩:=PI hds g6;have hc:ja w g.pm (Vm.sub (L7 ds) off len).flatten b (g.base id+off*g.esz id):=by
        rw[nK (aiQ ds),Rj,g2,g3,bC];intro j d hj;obtain⟨hj,_⟩:=alm hj
        grind [gR]
       simp_all [CY.of_cells]
      simp_all
     simp_all
   simp_all
  simp_all
def CY.first {m:Nat}{ys:E_}{ad:Option Addr}{news:N_}(h:CY g w m ys ad news){len cap n:Nat}(hn:n<=ys.length){w1:World}(hw:w1.heap=w.heap) :
  (Builtin.firstCells m n (.slice ad len cap)).run P w1=.ok (news.take (n*m)).toArray w1:=by
 cases ad with
 |none =>
  have:=h.nn rfl
  simp_all [Builtin.firstCells]
 |some ad =>
  have hl:(news.take (n*m)).length=n*m:=by
   grind [len,Nat.mul_le_mul_right]
  refine run_firstCells_some (P:=P) w1 m n ad len cap _ hl λj v hj=>?_
  have hj':news[j]?=some v:=by
   grind
  have:=h.cell ad rfl j v hj'
  grind [World.cell?]
end
abbrev ay:=@List.eq_nil_of_length_eq_zero
abbrev al:=@List.length_append
structure Z9 (P:Program)(w:World)(t1:TypeId)(x:Value)(e:TypeId)(m n:Nat)(news:N_):Prop where
 len:news.length=n*m
 one:∀u∈news,u.oneCell'=true
 src:((∃e',P.underlying t1=some (.slice e'))∧(∃a cap,x=.slice a n cap)∧∀w1:World,w1.heap=w.heap->(Builtin.firstCells m n x).run P w1=.ok news.toArray w1)∨
  ((∃k,P.underlying t1=some (.int k))∧(∃k,x=.int k (n:Int))∧∃i z,P.info? e=some i∧i.zero=some z∧z.cells.size=m∧news.toArray=Builtin.zeroCells z.cells n)
section
variable {P:Program}{w:World}{t0 t1 ty e:TypeId}{m n:Nat}{x:Value}{news:N_}
def um {i:TypeInfo}{z:Value}(hi:P.info? e=some i)(hz:i.zero=some z):(zeroValue e).run P w=.ok z w:=by
 simp_all [zeroValue,typeInfo]
def abi {n b:Nat}(hn:n<=4294967296)(hb:b<=4096):n*b<=17592186044416:=aM (pB hn hb) (by decide)
def Cq (hu:P.underlying t0=some (.slice e)){i:TypeInfo}(hi:P.info? e=some i)(hs:i.size=m)(hm:0<m)(hby:i.bytes<=4096)(hn:n<=4294967296)
  (hx:Z9 P w t1 x e m n news){base:Option Addr}{sLen sCap:Nat}(hroom:sLen+n<=sCap) :
  (Builtin.append_ #[t0,t1] ty #[.slice base sLen sCap,x]).run P w =
   match base with
   |some a=>((do storeCells (a.add (sLen*m)) news;pure (.slice (some a) (sLen+n) sCap):Sem Value)).run P w
   |none=>.ok (.slice none (sLen+n) sCap) w:=by
 have hlen:=hx.len;have hroom':sLen+n<=sCap:=hroom;rcases hx.src with ⟨⟨e',h1⟩,⟨ad,cap,rfl⟩,hf⟩|⟨⟨k,h1⟩,⟨kk,rfl⟩,i',z,hi',hz,hzs,hzc⟩
 .have hf':=hf w rfl
  cases base<;>simp[Builtin.append_,aY hu,aY h1,sizeOf,typeInfo,hi,hs,Builtin.lenOf,hroom',hf']
 .rw[hi]at hi';simp only[ae]at hi';subst hi';have hw1:=N4 hn;have hbytes:=abi hn hby;have hn0:¬(n:Int)<0:=o_;have hzv:=um (P:=P) (w:=w) hi hz;have hbig':¬(281474976710656<(n:Int)*(i.bytes:Int)):=o_;by_cases hnm:n*m=0
  .have hnil:news=[]:=ay o_;subst hnil
   cases base<;>simp[Builtin.append_,aY hu,aY h1,sizeOf,typeInfo,hi,hs,asInt,asIntOf,hw1,hn0,hbig',hroom',hnm]
  .cases base<;>simp[Builtin.append_,aY hu,aY h1,sizeOf,typeInfo,hi,hs,asInt,asIntOf,hw1,hn0,hbig',hroom',hnm,hzv,<-hzc]
def WD (hu:P.underlying t0=some (.slice e)){i:TypeInfo}{z:Value}(hi:P.info? e=some i)(hz:i.zero=some z)(hzs:z.cells.size=m)(hs:i.size=m)(hm:0<m)
  (hby:i.bytes<=4096)(hn:n<=4294967296)(hx:Z9 P w t1 x e m n news){base:Option Addr}{sLen sCap:Nat}{olds:N_}(hlo:olds.length=sLen*m)
  (hold:∀w1:World,w1.heap=w.heap->(Builtin.firstCells m sLen (.slice base sLen sCap)).run P w1=.ok olds.toArray w1)
  (hsum:sLen+n<=4294967296)(hg:sCap<sLen+n) :
  ∃cap' rest,(Builtin.append_ #[t0,t1] ty #[.slice base sLen sCap,x]).run P w =
    .ok (.slice (some ⟨w.heap.size,0,none⟩) (sLen+n) cap') (w.drew.alloc (.cells (olds++(news++rest)).toArray e))∧
   sLen+n<=cap'∧cap'*m<=(olds++(news++rest)).length:=by
 have hlen:=hx.len;have hng:¬(sLen+n<=sCap):=o_;have h63:¬(9223372036854775807<((sLen:Int)+(n:Int))):=o_;have hfit:Builtin.nextslicecap (sLen+n) sCap*i.bytes<=281474976710656:=growslice_fits hg (aM (abi hsum hby) k_);have h48:¬(281474976710656<Builtin.nextslicecap (sLen+n) sCap*i.bytes):=o_;have hcap:sLen+n<=grownCap w (sLen+n) sCap e:=by grind [grownCap,Question.cut]
 have hold':=hold w.drew rfl;have hzv:=λw1=>um (P:=P) (w:=w1) hi hz
 refine⟨grownCap w (sLen+n) sCap e,(Builtin.zeroCells z.cells (grownCap w (sLen+n) sCap e-(sLen+n))).toList,?_,hcap,?_⟩
 .rcases hx.src with ⟨⟨e',h1⟩,⟨ad,cap,rfl⟩,hf⟩|⟨⟨k,h1⟩,⟨kk,rfl⟩,i',z',hi',hz',hzs',hzc⟩
  .have hf':=hf w.drew rfl;simp[Builtin.append_,aY hu,aY h1,sizeOf,typeInfo,hi,hs,hzv,Builtin.lenOf,hng,h63,h48,Question.forced,hf',hold',newRow,grownCap]
   congr 2
   simp_all
  .rw[hi]at hi';simp only[ae]at hi';subst hi';rw[hz]at hz';simp only[ae]at hz';have hw1:=N4 hn;have hbytes:=abi hn hby;have hbig':¬(281474976710656<(n:Int)*(i.bytes:Int)):=o_;have hn0:¬(n:Int)<0:=o_;by_cases hnm:n*m=0
   .simp[Builtin.append_,aY hu,aY h1,sizeOf,typeInfo,hi,hs,asInt,asIntOf,hw1,hn0,hbig',hnm,hzv,hng,h63,h48,Question.forced,hold',newRow,grownCap]
    congr 2
    simp_all
   .simp[Builtin.append_,aY hu,aY h1,sizeOf,typeInfo,hi,hs,asInt,asIntOf,hw1,hn0,hbig',hnm,hzv,hng,h63,h48,Question.forced,<-hzc,hold',newRow,grownCap]
    congr 2
    grind
 .have hz1:(Builtin.zeroCells z.cells (grownCap w (sLen+n) sCap e-(sLen+n))).toList.length=(grownCap w (sLen+n) sCap e-(sLen+n))*m:=by
   grind [Builtin.zeroCells]
  rw[al,al,hlo,hlen,hz1,<-dc,<-dc]
  grind
end
abbrev jN:=@Array.getElem?_toList
abbrev iT:=@Array.length_toList
abbrev pe:=@List.flatten_append
abbrev bH:=@Nat.lt_or_ge
abbrev co:=@List.getElem?_append_left
abbrev ca:=@List.getElem?_append_right
abbrev kO:=@Nat.le_add_left
section
variable {P:Program}{g:Gh}{w:World}{t:F_}{O:Nat->Nat}{st st':St}{a:AV}{o:Oper}
def fE.mono {O2:Nat->Nat}{res:Result Next}(h:fE P g w t O st' a res)(hle:∀b,O b<=O2 b):fE P g w t O2 st' a res:=by
 obtain⟨x,w',g',Oa,O',k⟩:=h;exact⟨x,w',g',Oa,O',k.run,k.val,k.st,k.ext.mono (λb _ h=>by grind),k.le,λb hb=>aM (k.old b hb) (hle b),k.hi⟩
def tx (P:Program)(g:Gh)(w:World)(t:F_)(O Oa:Nat->Nat)(st':St)(r:AV)(res:Result Value):Prop :=
 ∃v w' g' Or O',res=.ok v w'∧RV g' w' r v Or∧S P g' w' st' t O'∧bL g w g' w' (λb=>Oa b≠0∨O b≠0)∧(∀b,Or b+O' b<=1)∧
  (∀b,b<w.heap.size->Or b+O' b<=Oa b+O b)∧∀b,Or b≠0->b<w'.heap.size
theorem tx.firm {Oa:Nat->Nat}{m:Nat}{xs:E_}{res:Result Value}(h:tx P g w t O Oa st' (.own true m xs) res):tx P g w t O Oa st' (.own false m xs) res:=by
 obtain⟨v,w',g',Or,O',h1,h2,h3,h4,h5,h6,h7⟩:=h;obtain⟨g2,r2,s2,x2⟩:=SU h3 h2 h5;exact⟨v,w',g2,Or,O',h1,r2,s2,h4.trans x2 (λb hb h=>by grind),h5,h6,h7⟩
def bL.write {b pos:Nat}{c c':F_}{el:TypeId}{news:N_}(hb:w.heap[b]?=some (.cells c el (0,0)))(hp:∀o,g.pm b o->o<pos)
  (hc:c'.toList=aG c.toList pos news)(hsz:pos<=c.size):bL g w g (Vm.setBlk w b (.cells c' el (0,0))) λx=>x=b where
 obj _ _ h:=⟨h,rfl,rfl,rfl⟩
 pm b' o h:=⟨h,by
  by_cases e:b'=b
  .subst e;rw[gR (eY (jw hb)),gR hb,<-jN,hc,<-jN]
   grind [aG]
  grind [sk,ir]⟩
 blk b' _ h:=⟨ir h,λ_ h=>h⟩
 size:=s_
 lp b' rc h:=⟨rc,by grind [ir]⟩
 same:=⟨rfl,rfl,zV hb (by grind [gE]) (by grind [gE])⟩
def S.other {w':World}{b:Nat}{c:F_}{el:TypeId}(s:S P g w st t O)(hb:w.heap[b]?=some (.cells c el (0,0)))(hx:bL g w g w' λx=>x=b)(hO:O b=0) :
  S P g w' st t O:=by
 obtain⟨Oe,Oh,re,rh,ho⟩:=s.parts;have re':=kr.ext hx re (λy hy e=>by simp_all);have rh':Cd P g w' st.hs.heap Oh:=rh.imp' λk v Q _ hQ q=>q.ext hx (λy hy e=>by grind) (λy ds hd e=>by
  simp_all)
 exact⟨s.se,s.sh,⟨Oe,Oh,re',rh',ho⟩,s.le,λb hb=>ba (s.hi b hb) hx.size,s.fresh,λb o h=>ba (s.pmlt b o h) hx.size⟩
def Ll (g:Gh)(w:World)(ys:E_)(news:N_):Prop:=∀(j:Nat) (d:D),ys.flatten[j]?=some d->∃u,news[j]?=some u∧RD w g.pm d u
def aji {b off m cap:Nat}{c c':F_}{el:TypeId}{news:N_}{xs ys:E_}(hb:w.heap[b]?=some (.cells c el (0,0)))
  (hx:bL g w g (Vm.setBlk w b (.cells c' el (0,0))) λx=>x=b)(hc:c'.toList=aG c.toList (off+xs.length*m) news)(hl:∀e∈xs,e.length=m)
  (hcap:off+cap*m<=c.size)(hroom:xs.length+ys.length<=cap)(hn:news.length=ys.length*m)(hrc:ja w g.pm xs.flatten b off)(hnew:Ll g w ys news) :
  ja (Vm.setBlk w b (.cells c' el (0,0))) g.pm (xs++ys).flatten b off:=by
 have hfl:=fP hl;have hbound:(xs.length+ys.length)*m<=cap*m:=b8 _ hroom;rw[dc]at hbound;have hcl:c.toList.length=c.size:=iT;intro j d hj;rw[pe]at hj;rw[gR (eY (jw hb)),<-jN,hc,kh o_];rcases bH j xs.flatten.length with h|h
 .rw[co h]at hj;obtain⟨u,hu,hr⟩:=hrc j d hj
  grind [gR,RD.ext]
 .rw[ca h]at hj;obtain⟨u,hu,hr⟩:=hnew _ d hj
  grind [RD.ext]
variable {t0 t1 ty e:TypeId}{m n:Nat}{x:Value}{news:N_}{xs ys:E_}{i:TypeInfo}{z:Value}
def XB {Oa:Nat->Nat}(s:S P g w st t O)(hu:P.underlying t0=some (.slice e))(hi:P.info? e=some i)(hz:i.zero=some z)(hzs:z.cells.size=m)(hs:i.size=m)(hm:0<m)
  (hby:i.bytes<=4096)(hx:Z9 P w t1 x e m ys.length news)(hnew:Ll g w ys news){base:Option Addr}{sCap:Nat}(hl:∀e∈xs,e.length=m)(hl2:∀e∈ys,e.length=m)
  {olds:N_}(hlo:olds.length=xs.length*m)(hod:Ll g w xs olds)(hold:∀w1:World,w1.heap=w.heap->(Builtin.firstCells m xs.length (.slice base xs.length sCap)).run P w1=.ok olds.toArray w1)
  (hsum:xs.length+ys.length<=4294967296)(hg:sCap<xs.length+ys.length) :
  tx P g w t O Oa st (.own true m (xs++ys)) ((Builtin.append_ #[t0,t1] ty #[.slice base xs.length sCap,x]).run P w):=by
 obtain⟨cap',rest,hrun,h1,h2⟩:=WD (P:=P) (ty:=ty) hu hi hz hzs hs hm hby (aM (kO _ _) hsum) hx hlo hold hsum hg;have hop:fE P g w t O st (.own true m (xs++ys)) (.ok (.value (.slice (some ⟨w.heap.size,0,none⟩) (xs++ys).length cap')) (w.drew.alloc (.cells (olds++(news++rest)).toArray e))):=by
  refine fE.list (w1:=w.drew) s s (λ_=>ak _) (bL.drew g w _) rfl rfl hm (λe he=>?_) u_ o_ λj d hj=>?_
  .grind
  .rw[pe]at hj;have hfl:=fP hl;rcases bH j xs.flatten.length with h|h
   .rw[co h]at hj;obtain⟨u,hu,hr⟩:=hod j d hj
    grind
   .rw[ca h]at hj;obtain⟨u,hu,hr⟩:=hnew _ d hj
    grind
 obtain⟨v,w',g',Or,O',k⟩:=hop;rcases k.run with hr|hr
 .exact⟨_,_,g',Or,O',u_,k.val,k.st,k.ext.mono (λb _ h=>.inr h),k.le,λb hb=>by grind [aAq.old],k.hi⟩
 simp_all
def asG (s:S P g w st t O)(hu:P.underlying t0=some (.slice e))(hi:P.info? e=some i)(hs:i.size=m)(hm:0<m)
  (hby:i.bytes<=4096)(hx:Z9 P w t1 x e m ys.length news)(hnew:Ll g w ys news){b off cap:Nat}(hl:∀e∈xs,e.length=m)(hl2:∀e∈ys,e.length=m)
  {c:F_}{el:TypeId}(hb:w.heap[b]?=some (.cells c el (0,0)))(hcap:off+cap*m<=c.size)(hrc:ja w g.pm xs.flatten b off)(hO:O b=0)(hp:∀o,g.pm b o->o<off+xs.length*m)
  (hsum:ys.length<=4294967296)(hroom:xs.length+ys.length<=cap) :
  ∃v w',(Builtin.append_ #[t0,t1] ty #[.slice (some ⟨b,off,none⟩) xs.length cap,x]).run P w=.ok v w'∧S P g w' st t O∧bL g w g w' (λy=>y=b)∧w'.heap.size=w.heap.size∧
   ((∀o,¬g.pm b o)->RV g w' (.own true m (xs++ys)) v (one b))∧
   ∃g',bL g w g' w' (λy=>y=b)∧S P g' w' st t O∧RV g' w' (.own false m (xs++ys)) v (one b):=by
 have hbound:(xs.length+ys.length)*m<=cap*m:=b8 _ hroom;rw[dc]at hbound;have hn:=hx.len;obtain⟨c',h1,h2,h3⟩:=r9 (P:=P) (b:=b) (el:=el) news w c (off+xs.length*m) 0 hb hx.one o_;have hrun:=Cq (P:=P) (w:=w) (ty:=ty) hu hi hs hm hby hsum hx (base:=some ⟨b,off,none⟩) hroom;have hext:=bL.write hb hp h2 o_;have s':=s.other hb hext hO;have hcells:=aji hb hext h2 hl hcap hroom hn hrc hnew;have hla:∀e∈xs++ys,e.length=m:=λe he=>by
  grind
 refine⟨.slice (some ⟨b,off,none⟩) (xs.length+ys.length) cap,_,?_,s',hext,s_,λhnp=>?_,?_⟩
 .grind [lE,Sem.run_bind,Result.andThen_ok,Sem.run_pure]
 .refine .inr ⟨b,off,cap,c',el,s_,u_,hm,hla,eY (jw hb),o_,hcells,λo ho=>absurd ho (hnp o),λh=>by simp at h,rfl⟩
 .have hb':(Vm.setBlk w b (.cells c' el (0,0))).heap[b]?=some (.cells c' el (0,0)):=eY (jw hb);refine⟨g.keep b λo=>off<=o∧o<off+(xs++ys).length*m,hext.trans (bL.keep g _ b _) (λ_ _ h=>h),s'.keep hO hb' _,?_⟩;simp only[RV,Ds];refine .inr ⟨b,off,cap,c',el,s_,u_,hm,hla,hb',o_,hcells.ext (bL.keep g _ b _) (.inl rfl),λo ho=>⟨trivial,?_⟩,λ_ j hj=>.inr ⟨rfl,o_,o_⟩,rfl⟩;rcases ho with ho|⟨_,_,ho⟩<;>grind [Nat.add_mul]
end
abbrev tO:=@List.take_length
section
variable {P:Program}{g:Gh}{w:World}{t:F_}{O:Nat->Nat}{st st':St}{a:AV}{o:Oper}
variable {t0 t1 ty e:TypeId}{m n:Nat}{x:Value}{news:N_}{xs ys:E_}{i:TypeInfo}{z:Value}
def ja.olds {b off:Nat}(hl:∀e∈xs,e.length=m)(r:ja w g.pm xs.flatten b off)(len cap:Nat) :
  ∃olds:N_,olds.length=xs.length*m∧Ll g w xs olds∧∀w1:World,w1.heap=w.heap->(Builtin.firstCells m xs.length (.slice (some ⟨b,off,none⟩) len cap)).run P w1=.ok olds.toArray w1:=by
 obtain⟨news,h⟩:=CY.of_cells hl r;refine⟨news,h.len,h.rd,λw1 hw=>?_⟩;have:=h.first (P:=P) (len:=len) (cap:=cap) (ak _) hw;rw[<-h.len,tO]at this;exact this
def vd (m:Nat)(a:Option Addr)(len cap:Nat)(w1:World):(Builtin.firstCells m 0 (.slice a len cap)).run P w1=.ok #[] w1:=by
 cases a with
 |none=>simp[Builtin.firstCells]
 |some a =>
  grind [run_firstCells_some]
def Zb {Oa:Nat->Nat}{va r:AV}{x0:Value}{h':am}(s:S P g w st t O)(ra:RV g w va x0 Oa)(hle:∀b,Oa b+O b<=1)(hhi:∀b,Oa b≠0->b<w.heap.size)
  (hu:P.underlying t0=some (.slice e))(hi:P.info? e=some i)(hz:i.zero=some z)(hzs:z.cells.size=m)(hs:i.size=m)(hm:0<m)
  (hby:i.bytes<=4096)(hx:Z9 P w t1 x e m ys.length news)(hnew:Ll g w ys news)(hl2:∀e∈ys,e.length=m)(h:dX m st.hs.heap va ys=some (r,h')) :
  tx P g w t O Oa ⟨st.env,⟨h',st.hs.next⟩⟩ r ((Builtin.append_ #[t0,t1] ty #[x0,x]).run P w):=by
 unfold dX at h;split at h
 .simp at h
 .rename_i hy;rw[bj]at hy;have hy':ys.length<=4294967296:=hy;have empty:∀{st1:St}{O1:Nat->Nat},S P g w st1 t O1->(∀b,O1 b<=Oa b+O b)->∀ad:Option Addr,ys.length=0->∀r,RV g w r (.slice ad 0 0) zero->
    tx P g w t O Oa st1 r ((Builtin.append_ #[t0,t1] ty #[.slice ad 0 0,x]).run P w):=by
   intro st1 O1 s1 hO1 ad h0 r hr;have hnil:news=[]:=ay (by grind [Z9.len]);have hrun:=Cq (P:=P) (w:=w) (ty:=ty) hu hi hs hm hby hy' hx (base:=ad) (sLen:=0) (sCap:=0) o_;refine⟨.slice ad 0 0,w,g,zero,O1,?_,hr,s1,.refl _ _ _,λb=>by grind,λb _=>by simp_all,λb hb=>by simp at hb⟩;rw[hrun,hnil,h0]
   cases ad<;>simp[storeCells]
  have weak:∀{st1:St}{O1:Nat->Nat}{r:AV}{res:Result Value},(∀b,O1 b<=Oa b+O b)->tx P g w t O1 zero st1 r res->tx P g w t O Oa st1 r res:=by
   rintro st1 O1 r res hO1 ⟨v,w',g',Or,O',k1,k2,k3,k4,k5,k6,k7⟩
   exact⟨v,w',g',Or,O',k1,k2,k3,k4.mono (λb _ h=>by grind),k5,λb hb=>by grind,k7⟩
  have grows0:∀{st1:St}{O1:Nat->Nat},S P g w st1 t O1->(∀b,O1 b<=Oa b+O b)->∀ad:Option Addr,ys.length≠0->
    tx P g w t O Oa st1 (.own true m ys) ((Builtin.append_ #[t0,t1] ty #[.slice ad 0 0,x]).run P w):=by
   intro st1 O1 s1 hO1 ad h0;refine weak hO1 ?_;have:=XB (Oa:=zero) (xs:=[]) (base:=ad) (sCap:=0) (olds:=[]) (ty:=ty) s1 hu hi hz hzs hs hm hby hx hnew (λe he=>by simp at he) hl2 (by simp)
    (λj d h=>by simp at h) (λw1 _=>vd m ad 0 0 w1) u_ (by omega)
   simp_all
  have block:∀{st1:St}{O1:Nat->Nat}{zs:E_}{b off cap:Nat}{c:F_}{el:TypeId},S P g w st1 t O1->(∀y,O1 y+one b y<=1)->(∀y,O1 y+one b y<=Oa y+O y)->(∀e∈zs,e.length=m)->
    w.heap[b]?=some (.cells c el (0,0))->off+cap*m<=c.size->ja w g.pm zs.flatten b off->(∀o,g.pm b o->o<off+zs.length*m)->zs.length+ys.length<=4294967296->
    ∀p:Bool,(p=true->∀o,¬g.pm b o)->
    tx P g w t O Oa st1 (.own p m (zs++ys)) ((Builtin.append_ #[t0,t1] ty #[.slice (some ⟨b,off,none⟩) zs.length cap,x]).run P w):=by
   intro st1 O1 zs b off cap c el s1 hO1 hO2 hlz hb hcap hrc hp hsum p hpp;have hOb:O1 b=0:=by grind [Ak]
   by_cases hroom:zs.length+ys.length<=cap
   .obtain⟨v,w',k1,k2,k3,k4,k5,g',k6,k7,k8⟩:=asG (ty:=ty) s1 hu hi hs hm hby hx hnew hlz hl2 hb hcap hrc hOb hp hy' hroom;have hx1:∀{g1:Gh},bL g w g1 w' (λy=>y=b)->bL g w g1 w' (λy=>Oa y≠0∨O y≠0):=λh=>h.mono λy _ e=>by
     grind [Ak]
    cases p with
    |true=>exact⟨v,w',g,one b,O1,k1,k5 (hpp rfl),k2,hx1 k3,λy=>by grind,λy _=>by grind,λy hy=>by grind [wF]⟩
    |false=>exact⟨v,w',g',one b,O1,k1,k8,k7,hx1 k6,λy=>by grind,λy _=>by grind,λy hy=>by grind [wF]⟩
   .obtain⟨olds,q1,q2,q3⟩:=ja.olds hlz hrc zs.length cap;have:=XB (Oa:=zero) (base:=some ⟨b,off,none⟩) (sCap:=cap) (ty:=ty) s1 hu hi hz hzs hs hm hby hx hnew hlz hl2 q1 q2 q3 hsum o_;have h2:=weak (λy=>by grind) this
    cases p<;>grind [tx.firm]
  split at h
  .simp only[ae,aQ]at h;obtain⟨rfl,rfl⟩:=h;simp only[RV]at ra;obtain⟨rfl,_⟩:=ra
   cases ys with
   |nil=>exact empty s (λb=>by omega) none rfl _ (by simp[RV])
   |cons y ys=>exact grows0 s (λb=>by omega) none (by simp)
  .rename_i p k zs;split at h
   .rename_i hk;simp only[af,aB,bj]at hk;obtain⟨rfl,hsum⟩:=hk;simp only[ae,aQ]at h;obtain⟨rfl,rfl⟩:=h;simp only[RV]at ra;rcases ra with ⟨rfl,_,ad,rfl⟩|⟨b,off,cap,c,el,rfl,hcap,_,hlz,hb,hsz,hrc,hpm,hp,rfl⟩
    .by_cases h0:ys.length=0
     .have:ys=[]:=ay h0;subst this;exact empty s (λb=>by omega) ad rfl _ (by grind [RV,Ds])
     .exact(grows0 s (λb=>by omega) ad h0).firm
    .exact block s (λy=>by grind) (λy=>by omega) hlz hb hsz hrc (λo ho=>(hpm o ho).2) hsum false (λh=>by simp at h)
   simp_all
  .rename_i id off len;split at h
   .rename_i k zs hg;split at h
    .rename_i hk;simp only[af,aB,bj]at hk;obtain⟨⟨rfl,hin⟩,hsum⟩:=hk;simp only[ae,aQ]at h;obtain⟨rfl,rfl⟩:=h;simp only[RV]at ra;obtain⟨ra,hOa⟩:=ra;obtain⟨Oe,Oh,re,rh,ho⟩:=s.parts;obtain⟨O1,O2,q,r2,hsm⟩:=RL.take rh hg;have hle2:∀b,Oe b+O2 b<=O b:=λb=>by grind
     have s2:S P g w ⟨st.env,⟨del st.hs.heap id,st.hs.next⟩⟩ t (λb=>Oe b+O2 b) :=
      ⟨s.se,s.sh.del id,⟨Oe,O2,re,r2,λ_=>rfl⟩,λb=>aM (hle2 b) (s.le b),λb hb=>s.hi b d_,s.fresh,s.pmlt⟩
     have hsub:(Vm.sub zs off len).length=len:=j6 hin;have emp:len=0->∀ad:Option Addr,tx P g w t O Oa ⟨st.env,⟨del st.hs.heap id,st.hs.next⟩⟩ (.own true k (Vm.sub zs off len++ys)) ((Builtin.append_ #[t0,t1] ty #[.slice ad 0 0,x]).run P w):=by
      grind [RV,Ds]
     rcases ra with ⟨h0,ad,rfl⟩|⟨b,cap,hob,rfl,hlc,hcap⟩
     .simp_all
     .simp only[jT]at q;rcases q with ⟨rfl,g1,g2,g3,_⟩|⟨b',c,el,g1,g2,g3,g4,g5,g6,g7,g8,g9,g10⟩
      .have hc0:cap=0:=by
        grind [Nat.mul_eq_zero]
       simp_all
      .rw[g2,dc]at hcap;have:=block (zs:=Vm.sub zs off len) (off:=g.base id+off*k) (cap:=cap) s2 (λy=>by grind)
        (λy=>by grind) (H5 g7 off len) g4 (by omega)
        (by simp_all [nK,ja.sub]) (λo h=>absurd h (g9 o)) (by rw[hsub];exact hsum) true (λ_=>g9)
       simp_all
    simp_all
   simp_all
  simp_all
end
abbrev bU:=@List.length_replicate
section
variable {P:Program}{g:Gh}{w:World}{t:F_}{O:Nat->Nat}{st st':St}{a:AV}{o:Oper}
def tx.op1 {O1 Oa:Nat->Nat}{r:AV}{res:Result Value}(h:tx P g w t O1 Oa st' r res)(hle:∀b,Oa b+O1 b<=O b){res':Result Next}
  (hr:∀v w',res=.ok v w'->res'=.ok (.value v) w'):fE P g w t O st' r res':=by
 obtain⟨v,w',g',Or,O',k1,k2,k3,k4,k5,k6,k7⟩:=h;exact⟨v,w',g',Or,O',.inl (hr v w' k1),k2,k3,k4.mono (λb _ h=>by grind),k5,λb hb=>by grind,k7⟩
def qN {ty:TypeId}{m:Nat}(h:mE P ty m=true):∃e i zv,P.underlying ty=some (.slice e)∧P.info? e=some i∧i.zero=some zv∧zv.cells.size=m:=by
 grind [mE,Nat.beq_eq]
def Pd {e:TypeId}{i:TypeInfo}{m:Nat}(h:xk P e m=true)(hi:P.info? e=some i):i.size=m:=by
 grind [xk,Nat.beq_eq]
def K3 {e:TypeId}{i:TypeInfo}(hi:P.info? e=some i):P.bytesOf e=i.bytes:=by grind [Program.bytesOf]
def Kb {c:Call}(h:Uc c=true):c.argTypes=#[sU c,c.argTypes.getD 1 0]:=by
 simp only[Uc,aB]at h;apply Array.ext
 .simp[h]
 .intro i h1 h2;have h1':i<2:=o_;have:i=0∨i=1:=o_;rcases this with rfl|rfl<;>simp[sU,Array.getD,h]
def azy {m:Nat}{x y:Rd}(s:S P g w st t O)(h:HQ m x y st=some (a,st'))(hc:bD P (.app m x y) o.op=true) :
  fE P g w t O st' a ((execOp (ev t) o).run P w):=by
 obtain⟨dst,op,ty,pos,aft,gd⟩:=o;simp only[bD]at hc;split at hc
 .rename_i c;simp only[af]at hc;obtain⟨⟨⟨⟨⟨h1,h2⟩,h3⟩,h4⟩,h5⟩,h6⟩:=hc;have hats:=Kb h2;obtain⟨callee,args,ats⟩:=c;have:=qh h1;obtain⟨x',y',e1,hx,hy⟩:=amM h6;subst e1;obtain⟨va,vb,e,Oa,Ob,O',ra,rb,s',hl,hk⟩:=Tc s hx hy h;split at hk
  .rename_i ys hys;split at hk
   .rename_i hok;split at hk
    .rename_i r h' hap;obtain⟨rfl,rfl⟩:=hk;obtain⟨el,hu,hsz,hm,hby⟩:=iq h3;obtain⟨el',i,zv,hu',hi,hz,hzs⟩:=qN h4;rw[hu]at hu';simp only[ae,ip]at hu';subst hu';rw[K3 hi]at hby;have hlen:=LR hok;obtain⟨ad,cap,news,hxv,hels⟩:=AF (st:=⟨e,st.hs⟩) s' hys hlen rb;split at h5
     .rename_i e' hu1;generalize hT0:sU ⟨.builtin .append,#[x',y'],ats⟩=T0 at *;generalize hT1:ats.getD 1 0=T1 at *;have hsrc:Z9 P w T1 (ev t y') el m ys.length news:=by
       refine⟨hels.len,hels.one,.inl ⟨⟨e',hu1⟩,⟨ad,cap,hxv⟩,λw1 hw=>?_⟩⟩;have:=hels.first (P:=P) (len:=ys.length) (cap:=cap) (ak _) hw
       rw[<-hels.len,tO,<-hxv]at this;exact this
      have:=Zb (st:=⟨e,st.hs⟩) (ty:=ty) s' ra (λb=>by have:=hl b;have:=s.le b;omega) (λb hb=>s.hi b d_) hu hi hz hzs (Pd hsz hi) hm hby hsrc hels.rd hlen hap;refine this.op1 (λb=>by grind) λv w' hr=>?_
      simp_all [execOp,resolve,invoke,builtin]
     grind
    grind
   grind
  grind
 simp_all
def adq {zs:Y_}{zv:Value}(hok:SI zs zv.cells.toList=true)(n:Nat) :
  Ll g w (List.replicate n zs) (Builtin.zeroCells zv.cells n).toList∧(Builtin.zeroCells zv.cells n).toList.length=n*zs.length∧∀u∈(Builtin.zeroCells zv.cells n).toList,u.oneCell'=true:=by
 obtain⟨hl,hg⟩:=WC (w:=w) (g:=g) hok;have key:∀j,j<n*zs.length->0<zs.length∧∃u,(Builtin.zeroCells zv.cells n).toList[j]?=some u∧zv.cells.toList[j % zs.length]?=some u:=by
  intro j hj;have hp:0<zs.length:=by
   grind
  simp_all [eC,Builtin.zeroCells]
 refine⟨λj d hj=>?_,by grind [Builtin.zeroCells],λu hu=>?_⟩
 .obtain⟨h1,h2⟩:=V3 hj
  grind
 .obtain⟨j,hj,rfl⟩:=il.1 hu;have hj':j<n*zs.length:=by grind [Builtin.zeroCells]
  obtain⟨hp,u,hu,hu2⟩:=key j hj';have hjm:j % zs.length<zs.length:=eC _ hp;obtain⟨u',hu',hr⟩:=hg _ _ (bB hjm)
  grind [RD.one]
def avT {z:Y_}{x y:Rd}(s:S P g w st t O)(h:afL z x y st=some (a,st'))(hc:bD P (.appz z x y) o.op=true) :
  fE P g w t O st' a ((execOp (ev t) o).run P w):=by
 obtain⟨dst,op,ty,pos,aft,gd⟩:=o;simp only[bD]at hc;split at hc
 .rename_i c;simp only[af]at hc;obtain⟨⟨⟨⟨⟨h1,h2⟩,h3⟩,h4⟩,h5⟩,h6⟩:=hc;have hats:=Kb h2;obtain⟨callee,args,ats⟩:=c;have:=qh h1;obtain⟨x',y',e1,hx,hy⟩:=amM h6;subst e1;obtain⟨va,vb,e,Oa,Ob,O',ra,rb,s',hl,hk⟩:=Tc s hx hy h;split at hk
  .rename_i n hn;split at hk
   .rename_i r h' hap;obtain⟨rfl,rfl⟩:=hk;obtain⟨el,hu,hsz,hm,hby⟩:=iq h3;obtain⟨el',i,zv,hu',hi,hz,hok⟩:=DC h4;rw[hu]at hu';simp only[ae,ip]at hu';subst hu';rw[K3 hi]at hby;obtain⟨⟨kk,hyv⟩,hnm⟩:=Ff hn rb;obtain⟨hnew,hnl,hone⟩:=adq (g:=g) (w:=w) hok n;have hzs:zv.cells.size=z.length:=by rw[(WC (w:=w) (g:=g) hok).1];simp
    simp only[KH]at h5;split at h5
    .rename_i k hu1;generalize hT0:sU ⟨.builtin .append,#[x',y'],ats⟩=T0 at *;generalize hT1:ats.getD 1 0=T1 at *;have hsrc:Z9 P w T1 (ev t y') el z.length (List.replicate n z).length (Builtin.zeroCells zv.cells n).toList:=by
      rw[bU];exact⟨hnl,hone,.inr ⟨⟨k,hu1⟩,⟨kk,hyv⟩,i,zv,hi,hz,hzs,s_⟩⟩
     have:=Zb (st:=⟨e,st.hs⟩) (ty:=ty) s' ra (λb=>by have:=hl b;have:=s.le b;omega) (λb hb=>s.hi b d_) hu hi hz hzs (Pd hsz hi) hm hby hsrc hnew
      (λe he=>by simp_all) hap
     refine this.op1 (λb=>by grind) λv w' hr=>?_
     simp_all [execOp,resolve,invoke,builtin]
    grind
   grind
  grind
 simp_all
end
abbrev bN:=@List.length_pos_iff
abbrev bI:=@List.length_take
section
variable {P:Program}{g:Gh}{w:World}{t:F_}{O:Nat->Nat}{st st':St}{a:AV}{o:Oper}
theorem ahd {α:Type}(xs:List α)(off:Nat):aG xs off []=xs:=by simp[aG]
theorem Jv {α:Type}{xs zs:List α}{off:Nat}(h:off+zs.length<=xs.length):(aG xs off zs).length=xs.length:=by
 grind [aG]
theorem ahc {α:Type}{xs zs:List α}{off:Nat}{x:α}(h:x∈aG xs off zs):x∈xs∨x∈zs:=by
 grind [aG]
def WN {xs zs:E_}{m off:Nat}(hx:∀e∈xs,e.length=m)(hz:∀e∈zs,e.length=m) :
  (aG xs off zs).flatten=aG xs.flatten (off*m) zs.flatten:=by
 simp only[aG,pe];rw[JB hx,JK hx,fP hz,dc]
def Z5 {id off len m:Nat}{xs zs:E_}{vals:N_}{x0:Value}{Ov:Nat->Nat}(s:S P g w st t O)(hg:get st.hs.heap id=some (.arr m xs))(rv:RV g w (.sl id off len) x0 Ov)
  (hin:off+len<=xs.length)(hz:zs.length<=len)(hl:∀e∈zs,e.length=m)(hn:Ll g w zs vals)(hv:vals.length=zs.length*m)(h1:∀u∈vals,u.oneCell'=true) :
  ∃ad cap w' O2,x0=.slice ad len cap∧(match ad with|some a=>(storeCells a vals).run P w|none=>.ok () w)=.ok () w'∧
   S P g w' ⟨st.env,⟨put st.hs.heap id (.arr m (aG xs off zs)),st.hs.next⟩⟩ t O2∧bL g w g w' (λc=>O c≠0)∧(∀c,O2 c<=O c)∧w'.heap.size=w.heap.size:=by
 have same:zs=[]->vals=[]∧∃O2,S P g w ⟨st.env,⟨put st.hs.heap id (.arr m (aG xs off zs)),st.hs.next⟩⟩ t O2∧∀c,O2 c<=O c:=by
  rintro rfl
  refine⟨ay u_,?_⟩
  grind [ahd,S.upd]
 have noop:∀ad:Option Addr,(match ad with|some a=>(storeCells a []).run P w|none=>.ok () w)=.ok () w:=by
  intro ad;cases ad<;>simp[storeCells]
 simp only[RV]at rv;rcases rv.1 with ⟨rfl,ad,rfl⟩|⟨b,cap,hob,rfl,hlc,hcap⟩
 .simp_all [bL.refl]
 .by_cases h0:zs=[]
  .simp_all [bL.refl]
  .have hzl:0<zs.length:=bN.2 h0;obtain⟨O1,Oz,q,hsum,hst⟩:=s.store hg;rcases q with ⟨rfl,_⟩|⟨b',c,el,g1,g2,g3,g4,g5,g6,g7,g8,g9,g10⟩
   .simp_all
   .rw[hob]at g1;simp only[ae]at g1;subst g1;rw[g2]at hcap⊢;have e1:off*m+zs.length*m<=xs.length*m:=by rw[<-dc];exact b8 _ (by omega)
    obtain⟨c',hrun,hc',hcs⟩:=r9 (P:=P) (b:=b) (el:=el) vals w c (g.base id+off*m) 0 g4 h1 o_;have hx:bL g w g (setBlk w b (.cells c' el (0,0))) λx=>x=b:=bL.setBlk g4 g9
    have hOb:1<=O1 b:=u_;have hbO:O b=1:=by have:=hsum b;have:=s.le b;omega
    have hfl:=fP g7;have hcl:c.toList.length=c.size:=iT;have hlen':(aG xs off zs).length=xs.length:=Jv o_;refine⟨_,cap,_,_,rfl,hrun,hst (setBlk w b (.cells c' el (0,0))) b c el (.arr m (aG xs off zs)) O1 g4 hOb hx ?_ (λy=>by have:=hsum y;have:=s.le y;omega) (λy hy=>?_),
     hx.mono (λy _ e=>by simp_all),hsum,s_⟩
    .refine .inr ⟨b,c',el,hob,g2,g3,eY (jw g4),o_,u_,λe he=>?_,?_,g9,g10⟩
     .grind [ahc]
     .rw[WN g7 hl];intro j d hj;have hzfl:=fP hl;rw[kh o_]at hj;rw[gR (eY (jw g4)),<-jN,hc',kh o_];split at hj
      .obtain⟨u,hu,hr⟩:=hn _ d hj
       grind [RD.ext]
      .obtain⟨u,hu,hr⟩:=g8 j d hj
       grind [gR,RD.ext]
    grind [wF,K6]
def aqf {ys:E_}{m:Nat}(hl:∀e∈ys,e.length=m){news:N_}(hn:Ll g w ys news)(n:Nat) :
  Ll g w (ys.take n) (news.take ((ys.take n).length*m)):=by
 intro j d hj;have hlt:=Fy hj;rw[fP (λe he=>hl e (dh he))]at hlt;rw[JB hl]at hj;have hj':ys.flatten[j]?=some d:=by
  grind
 obtain⟨u,hu,hr⟩:=hn j d hj'
 simp_all
def aj6 {h:am}{v:AV}{ys:E_}{x:Value}{Ov:Nat->Nat}(he:elems h v=some ys)(rv:RV g w v x Ov):∃a n cap,x=.slice a n cap:=by
 by_cases hn:vg v=false
 .rcases (abl he hn rv).list with ⟨rfl,a,cap,rfl⟩|⟨b,off,m',cap,rfl,_⟩<;>simp_all
 .cases v<;>simp only[vg,not_true,lO,not_false_eq_true]at hn
  grind [RV]
def ayE {m:Nat}{x y:Rd}(s:S P g w st t O)(h:Y6 m x y st=some (a,st'))(hc:bD P (.cpy m x y) o.op=true) :
  fE P g w t O st' a ((execOp (ev t) o).run P w):=by
 obtain⟨dst,op,ty,pos,aft,gd⟩:=o;simp only[bD]at hc;split at hc
 .rename_i c;simp only[af]at hc;obtain⟨⟨⟨⟨h1,h2⟩,h3⟩,h5⟩,h6⟩:=hc;have hats:=Kb h2;obtain⟨callee,args,ats⟩:=c;have:=qh h1;subst this;obtain⟨x',y',e1,hx,hy⟩:=amM h6;simp only at e1 hats;subst e1;obtain⟨va,vb,e,Oa,Ob,O',ra,rb,s',hl,hk⟩:=Tc s hx hy h;obtain⟨el,hu,hsz,hm,hby⟩:=iq h3;split at hk
  .rename_i ys hys;split at h5
   .rename_i e' hu1;generalize hT0:sU ⟨.builtin .copy,#[x',y'],ats⟩=T0 at *;generalize hT1:ats.getD 1 0=T1 at *;subst hats;split at hk
    .rename_i id off len;split at hk
     .rename_i k xs hg;split at hk
      .rename_i hb;simp only[af,aB,bj]at hb;obtain⟨⟨hok,rfl⟩,hin⟩:=hb;obtain⟨rfl,rfl⟩:=hk;have hlen:=LR hok;obtain⟨ad,cap,news,hxv,hels⟩:=AF (st:=⟨e,st.hs⟩) s' hys hlen rb;obtain⟨adx,capx,w',O2,q1,q2,q3,q4,q5,q6⟩:=Z5 (st:=⟨e,st.hs⟩) (zs:=ys.take len) s' hg ra hin d_ (λe he=>hlen e (dh he))
        (aqf hlen hels.rd len) (by grind [CY.len,Nat.mul_le_mul_right]) (λu hu=>hels.one u (dh hu))
       refine⟨.int .i64 (.ofNat (min len ys.length)),w',g,zero,O2,.inl ?_,uE _ _,q3,q4.mono (λb _ h=>by grind),λb=>by have:=s.le b;grind,
        λb _=>by grind,λb hb=>by simp at hb⟩
       have hf:=hels.first (P:=P) (len:=ys.length) (cap:=cap) (n:=(ys.take len).length) d_ (rfl:w.heap=w.heap)
       rw[bI,<-hxv]at hf;rw[bI]at q2;have hmin:Nat.min ys.length len=min len ys.length:=Nat.min_comm _ _;have hlo:(Builtin.lenOf (ev t y')).run P w=.ok ys.length w:=by simp_all [Builtin.lenOf]
       cases adx with
       |none =>
        simp only[Result.ok.injEq,true_and]at q2;subst q2;simp[execOp,resolve,invoke,builtin,Builtin.copy_,aY hu,hlo,eQ hsz,hf,goInt,q1,hmin]
       |some adx =>
        simp[execOp,resolve,invoke,builtin,Builtin.copy_,aY hu,hlo,eQ hsz,hf,goInt,q1,q2,hmin]
      simp_all
     simp_all
    .split at hk
     .rename_i hl0;obtain⟨rfl,rfl⟩:=hk;obtain⟨ada,capa,hxa⟩:=Rb hl0 ra;obtain⟨ady,ny,capy,hxy⟩:=aj6 hys rb;refine .flat s (x:=.int .i64 0) ?_ (uE _ _) s' λb=>by grind
      have hf:=vd (P:=P) m ady ny capy w;rw[<-hxy]at hf;have hlo:(Builtin.lenOf (ev t y')).run P w=.ok ny w:=by simp_all [Builtin.lenOf]
      cases ada<;>simp[execOp,resolve,invoke,builtin,Builtin.copy_,aY hu,hlo,eQ hsz,hf,goInt,hxa,storeCells]
     simp_all
   grind
  grind
 simp_all
def ay5 {z:Y_}{x:Rd}(s:S P g w st t O)(h:TP z x st=some (a,st'))(hc:bD P (.clr z x) o.op=true) :
  fE P g w t O st' a ((execOp (ev t) o).run P w):=by
 obtain⟨dst,op,ty,pos,aft,gd⟩:=o;simp only[bD]at hc;split at hc
 .rename_i c;simp only[af]at hc;obtain⟨⟨⟨⟨h1,h3⟩,h4⟩,h2⟩,h6⟩:=hc;obtain⟨callee,args,ats⟩:=c;have:=qh h1;subst this;obtain⟨x',e1,hx⟩:=aol h6;simp only at e1;subst e1;have hty:=abw h2;obtain⟨el',i,zv,hu',hi,hz,hok⟩:=DC h4;unfold TP at h;split at h
  .rename_i id off len e hr;obtain⟨Oa,O',ra,s',hl⟩:=s.rd hx hr;split at h
   .rename_i k xs hg;split at h
    .rename_i hb;simp only[af,aB,bj]at hb;obtain⟨rfl,hin⟩:=hb;obtain⟨rfl,rfl⟩:=h;obtain⟨hnew,hnl,hone⟩:=adq (g:=g) (w:=w) hok len;obtain⟨adx,capx,w',O2,q1,q2,q3,q4,q5,q6⟩:=Z5 (st:=⟨e,st.hs⟩) (zs:=List.replicate len z) s' hg ra hin s_ (λe he=>by simp_all)
      hnew u_ hone
     refine⟨.tuple #[],w',g,zero,O2,.inl ?_,by simp[RV,RVs],q3,q4.mono (λb _ h=>by grind),λb=>by have:=s.le b;grind,
      λb _=>by grind,λb hb=>by simp at hb⟩
     have hzv:=um (P:=P) (w:=w) hi hz
     cases adx with
     |none =>
      simp_all [execOp,resolve,invoke,builtin,Builtin.clear_,aY]
     |some adx =>
      cases len with
      |zero =>
       simp_all [storeCells,execOp,resolve,invoke,builtin,Builtin.clear_,aY]
      |succ len =>
       simp_all [execOp,resolve,invoke,builtin,Builtin.clear_,aY]
    simp_all
   simp_all
  simp_all
 simp_all
end
abbrev jc:=@List.foldl_cons
abbrev ct:=@List.map_cons
abbrev gF:=@List.all_cons
abbrev iM:=@Option.isSome_iff_exists
abbrev tH:=@List.map_map
section
variable {P:Program}{g:Gh}{w:World}{t:F_}{O:Nat->Nat}{st st':St}{a:AV}{o:Oper}
def atH (vals:N_):∀(cs:F_) (off k:Nat),off+k+vals.length<=cs.size->
  ((vals.zipIdx k).foldl (fun(cs:F_) (p:Value×Nat)=>cs.setIfInBounds (off+p.2) p.1) cs).toList=aG cs.toList (off+k) vals:=by
 induction vals with
 |nil=>simp_all [aG]
 |cons v vs ih =>
  intro cs off k h;rw[List.zipIdx_cons,jc,ih _ off (k+1) d_,Array.toList_setIfInBounds,<-dB,QG o_]
def Sc {place:Nat->BH_}{xs:F_}{i off n:Nat}{v:Value}{rest:List (Nat×Value)}(hp:place i=some (off,n))(hs:v.cells.size=n)(hb:off+n<=xs.size) :
  ∃xs',Instr.fill place xs ((i,v)::rest)=Instr.fill place xs' rest∧xs'.toList=aG xs.toList off v.cells.toList:=by
 refine⟨v.cells.zipIdx.foldl (λcs (c,j)=>cs.setIfInBounds (off+j) c) xs,?_,?_⟩
 .grind [Instr.fill]
 .rw[<-Array.foldl_toList,Array.toList_zipIdx]
  simp_all [atH]
def Ze {v:AV}{x:Value}{Ov:Nat->Nat}(h:Fq v=true)(r:RV g w v x Ov):RVs g w v.cells x.cells.toList Ov:=by
 cases v with
 |agg cs =>
  obtain⟨xs,rfl,r⟩:=r;exact r
 |_=>grind [RV.cells,AV.cells,Fq]
def RVs.splice {cs vs:D_}{xs ys:N_}{O1 O2:Nat->Nat}(r1:RVs g w cs xs O1)(r2:RVs g w vs ys O2){off:Nat}(h:off+vs.length<=cs.length) :
  ∃O3,RVs g w (aG cs off vs) (aG xs off ys) O3∧∀b,O3 b<=O1 b+O2 b:=by
 have hl2:=r2.length;rw[aiN (off:=off) (n:=vs.length) h]at r1;obtain⟨B1,B2,rb1,rb2,hb12⟩:=r1.split;obtain⟨B3,B4,rb3,rb4,hb34⟩:=rb2.split;have hsl:(Vm.sub cs off vs.length).length=vs.length:=j6 h;have hjoin:=rb1.join (r2.join rb4)
 grind [GP,List.drop_drop]
def SE {place:Nat->BH_}:∀{ps:AC_}{parts:List (Nat×Operand)},mw place ps parts=true->dZ (pr ps) (parts.map (·.2))=true
 |[],[],_=>rfl
 |(off,n,r)::ps,(i,x)::parts,h=>by
  simp only[mw,af]at h;simp only[pr,ct,dZ,af];exact⟨h.1.2,SE h.2⟩
 |[],_::_,h=>by grind [mw]
 |(_,_,_)::_,[],h=>by grind [mw]
def agl {place:Nat->BH_}:∀{ps:AC_}{parts:List (Nat×Operand)},mw place ps parts=true->
  ∀{cs cs' vs:D_}{xs:F_}{O1 O2:Nat->Nat},RVs g w cs xs.toList O1->RVs g w vs (parts.map λp=>ev t p.2) O2->dY cs (tA ps vs)=some cs'->
  ∃xs' O3,Instr.fill place xs (parts.map λp=>(p.1,ev t p.2))=some xs'∧RVs g w cs' xs'.toList O3∧∀b,O3 b<=O1 b+O2 b
 |[],[],_,cs,cs',vs,xs,O1,O2,r1,r2,h=>by
  grind [tA,dY,Instr.fill]
 |(off,n,r)::ps,(i,x)::parts,hc,cs,cs',vs,xs,O1,O2,r1,r2,h=>by
  simp only[mw,af]at hc;obtain⟨⟨h1,h2⟩,h3⟩:=hc
  cases vs with
  |nil=>grind [RVs]
  |cons v vs =>
   obtain⟨y,ys,P1,P2,e,rv,rvs,hs⟩:=r2;obtain⟨rfl,rfl⟩:=e;simp only[tA,dY]at h;split at h
   .rename_i hb;simp only[af,aB,bj]at hb;obtain⟨⟨hb1,hb2⟩,hb3⟩:=hb;split at h1
    .rename_i a b hp;simp only[af,aB]at h1;obtain⟨rfl,rfl⟩:=h1;have rc:=Ze hb2 rv;have hlx:=r1.length;have hlc:=rc.length;simp only[iT]at hlx hlc;obtain⟨xs',e1,e2⟩:=Sc (rest:=parts.map λp=>(p.1,ev t p.2)) hp (v:=ev t x) o_ (xs:=xs) o_;obtain⟨O3,r3,l3⟩:=r1.splice rc (off:=a) o_;rw[<-e2]at r3;obtain⟨xs'',O4,q1,q2,q3⟩:=agl h3 r3 rvs h
     grind
    simp_all
   simp_all
 |[],_::_,hc,_,_,_,_,_,_,_,_,_=>by grind [mw]
 |(_,_,_)::_,[],hc,_,_,_,_,_,_,_,_,_=>by grind [mw]
def ao8 {fs:List Field}(h:aaE P fs=true):∃places:S_,fs.mapM (λf=>(P.info? f.type).map λi=>(f.offset,i.size))=some places∧
  ∀i:Nat,places[i]?=(fs[i]?).bind λf:Field=>(P.info? f.type).map λi=>(f.offset,i.size):=by
 induction fs with
 |nil=>simp_all
 |cons f fs ih =>
  simp only[aaE,gF,af]at h;obtain⟨places,h1,h2⟩:=ih h.2;obtain⟨i,hi⟩:=iM.1 h.1;refine⟨(f.offset,i.size)::places,u_,λj=>?_⟩
  grind
def as6 {zs:D_}{ps:AC_}(s:S P g w st t O)(h:EQ zs ps st=some (a,st'))(hc:bD P (.build zs ps) o.op=true) :
  fE P g w t O st' a ((execOp (ev t) o).run P w):=by
 obtain⟨dst,op,ty,pos,aft,gd⟩:=o;simp only[bD]at hc;split at hc
 .rename_i T parts;simp only[aii,af]at hc;obtain⟨h1,h2⟩:=hc;split at h1
  .split at h1
   .rename_i z hz;have rz:RVs g w zs z.cells.toList zero:=RVs.consts h1;unfold EQ at h;split at h
    .rename_i vs e hr;split at h
     .rename_i cs hf;have fin:∀place,mw place ps parts.toList=true->(∀xs',Instr.fill place z.cells (parts.map λp=>(p.1,ev t p.2)).toList=some xs'->P.built T (parts.map λp=>(p.1,ev t p.2)).toList=some xs')->
        fE P g w t O ⟨e,st.hs⟩ (.agg cs) ((execOp (ev t) ⟨dst,.build T parts,ty,pos,aft,gd⟩).run P w):=by
       intro place hp hbuilt;obtain⟨Ov,O',rvs,s',l⟩:=s.rdAll (SE hp) hr;rw[tH]at rvs;obtain⟨xs',O3,q1,q2,q3⟩:=agl (t:=t) hp rz rvs hf;have hb:=hbuilt xs' u_;refine .pure s (x:=.agg xs') ?_ (by exact⟨xs',rfl,q2⟩) s' (λb=>by grind)
       grind [execOp,Sem.run_bind,Result.andThen_ok,Sem.run_pure,run_build]
      split at h2
      .rename_i fs hu;simp only[af]at h2;obtain⟨places,p1,p2⟩:=ao8 h2.1;have hpl:(λi=>JM P fs i)=λi=>places.toArray[i]?:=by
        grind [JM]
       grind [Program.built]
      all_goals grind [Program.built]
     simp_all
    simp_all
   simp_all
  simp_all
 simp_all
end
abbrev ar:=@List.length_cons
abbrev gO:=@List.length_map
section
variable {P:Program}{g:Gh}{w:World}{t:F_}{O:Nat->Nat}{st st':St}{a:AV}{o:Oper}
def Ey:∀{ps:U_}{parts:List (Nat×Operand)}{k:Nat},gb k ps parts=true->dZ ps (parts.map (·.2))=true∧parts.length=ps.length
 |[],[],_,_=>⟨rfl,rfl⟩
 |r::ps,(i,x)::parts,k,h=>by
  simp only[gb,af]at h;obtain⟨h1,h2⟩:=Ey h.2
  grind [dZ]
 |[],_::_,_,h=>by grind [gb]
 |_::_,[],_,h=>by grind [gb]
def aea {v:AV}{e:Y_}{x:Value}{Ov:Nat->Nat}(h:me v.cells=some e)(r:RV g w v x Ov):RVs g w v.cells x.cells.toList Ov:=by
 apply Ze _ r
 cases v with
 |agg cs=>rfl
 |_ =>
  have:=Mf h
  grind [AV.cells,Fq]
def VO {m:Nat}:∀{vs:D_}{xs:E_},jJ m vs=some xs->xs.length=vs.length∧∀e∈xs,e.length=m
 |[],xs,h=>by grind [jJ]
 |v::vs,xs,h=>by
  simp only[jJ]at h;split at h
  .rename_i hb;rw[aB]at hb;split at h
   .split at h
    .rename_i es hes;obtain⟨h1,h2⟩:=VO hes
     grind [Vz]
    simp_all
   simp_all
  simp_all
def Z6 {m:Nat}:∀{ps:U_}{parts:List (Nat×Operand)}{k:Nat},gb k ps parts=true->∀{vs:D_}{xs:E_}{cs:F_}{O2:Nat->Nat},
  RVs g w vs (parts.map λp=>ev t p.2) O2->jJ m vs=some xs->(k+ps.length)*m<=cs.size->
  ∃xs':F_,Instr.fill (λi=>some (i*m,m)) cs (parts.map λp=>(p.1,ev t p.2))=some xs'∧xs'.size=cs.size∧(∀j,j<k*m->xs'.toList[j]?=cs.toList[j]?)∧
   ∀(j:Nat) (d:D),xs.flatten[j]?=some d->∃u,xs'.toList[k*m+j]?=some u∧RD w g.pm d u
 |[],[],k,_,vs,xs,cs,O2,r,h,hb=>by
  cases vs<;>grind [jJ,Instr.fill,RVs]
 |r::ps,(i,x)::parts,k,hc,vs,xs,cs,O2,rr,h,hb=>by
  simp only[gb,af,aB]at hc;obtain⟨⟨rfl,h2⟩,h3⟩:=hc
  cases vs with
  |nil=>grind [RVs]
  |cons v vs =>
   obtain⟨y,ys,P1,P2,e,rv,rvs,hs⟩:=rr;obtain⟨rfl,rfl⟩:=e;simp only[jJ]at h;split at h
   .rename_i hbl;rw[aB]at hbl;split at h
    .rename_i e he;split at h
     .rename_i es hes;have rc:=aea he rv;have hlc:=rc.length;simp only[iT]at hlc;simp only[ar]at hb;have hmul:(i+(ps.length+1))*m=i*m+m+ps.length*m:=d_;obtain⟨xs1,e1,e2⟩:=Sc (place:=λi=>some (i*m,m)) (rest:=parts.map λp=>(p.1,ev t p.2)) (i:=i) rfl (v:=ev t x) o_ (xs:=cs) o_;have hcl:cs.toList.length=cs.size:=iT;have hxl:(ev t x).cells.toList.length=m:=u_;have hsz1:xs1.size=cs.size:=by
       grind [Jv]
      obtain⟨xs',q1,q2,q3,q4⟩:=Z6 h3 rvs hes (cs:=xs1) (by grind)
      grind [PI,kh]
     simp_all
    simp_all
   simp_all
 |[],_::_,_,hc,_,_,_,_,_,_,_=>by grind [gb]
 |_::_,[],_,hc,_,_,_,_,_,_,_=>by grind [gb]
def ayt {m:Nat}{ps:U_}(s:S P g w st t O)(h:OQ m ps st=some (a,st'))(hc:bD P (.mks m ps) o.op=true) :
  fE P g w t O st' a ((execOp (ev t) o).run P w):=by
 obtain⟨dst,op,ty,pos,aft,gd⟩:=o;simp only[bD]at hc;split at hc
 .simp only[af,aB,bj]at hc;obtain⟨⟨⟨⟨h1,h2⟩,h3⟩,h4⟩,h5⟩:=hc;subst h3;obtain⟨el,hu,hsz,hm,hby⟩:=iq h1;obtain⟨el',i,zv,hu',hi,hz,hzs⟩:=qN h2;obtain⟨hrds,hpl⟩:=Ey h5;unfold OQ at h;split at h
  .rename_i vs e hr;split at h
   .rename_i xs hx;obtain⟨rfl,rfl⟩:=h;obtain⟨Ov,O',rvs,s',l⟩:=s.rdAll hrds hr;rw[tH]at rvs;have hvl:=rvs.length;simp only[gO]at hvl;obtain⟨hxl,hxm⟩:=VO hx;generalize hcs:(Array.range (ps.length*m)).map (λj=>(if ps.length*m=0 then (#[]:F_) else zv.cells)[j % (if ps.length*m=0 then (#[]:F_) else zv.cells).size]!)=cs;have hcsz:cs.size=ps.length*m:=d_;obtain⟨xs',q1,q2,q3,q4⟩:=Z6 (t:=t) (k:=0) h5 (cs:=cs) rvs hx u_;have hxp:xs.length=ps.length:=o_;refine fE.list (cap:=ps.length) (c:=xs') (el:=el) (w1:=w) s s' (λb=>by grind) (bL.refl _ _ _) rfl ?_ hm hxm o_ o_ (λj d hj=>?_)
    .rw[hxp];have hbig:¬(ps.length*m > 2 ^ 24):=o_;have hzv:=um (P:=P) (w:=w) hi hz;by_cases h0:ps.length*m=0
     .simp only[h0,bn]at hcs;simp only[execOp,Instr.buildSlice,aS,aY hu,bp,eQ hsz,h0,bn,dA,mg];rw[hcs];simp[q1,newRow]
     .simp only[execOp,Instr.buildSlice,aS,aY hu,bp,eQ hsz,h0,bl,dA,mg,hbig,hzv]
      simp_all [newRow]
    simp_all
   simp_all
  simp_all
 simp_all
end
abbrev uY:=@List.forIn_cons
section
variable {P:Program}{g:Gh}{w:World}{t:F_}{O:Nat->Nat}{st st':St}{a:AV}{o:Oper}
def Ii:∀{xs:E_}{s:AG_},uQ xs=some s->∃ns:C_,xs=ns.map (fun(n:Nat)=>[D.int .u8 (Int.ofNat n)])∧s=ns.map Nat.toUInt8
 |[],s,h=>by simp_all [uQ]
 |x::xs,s,h=>by
  unfold uQ at h;split at h
  .simp at *
  .rename_i n r e;obtain⟨rfl,rfl⟩:=e;split at h
   .rename_i s' hs;simp only[ae]at h;subst h;obtain⟨ns,rfl,rfl⟩:=Ii hs;exact⟨n::ns,rfl,rfl⟩
   simp_all
  simp_all
def adI:∀(ns:C_) (A:Array UInt8),(ns.map fun(n:Nat)=>(n:Int)).foldl (fun(r:ByteArray) (n:Int)=>r.push (UInt8.ofNat n.toNat)) ⟨A⟩=⟨A++(ns.map Nat.toUInt8).toArray⟩
 |[],A=>by simp
 |n::ns,A=>by
  simp only[ct,jc];have:(ByteArray.mk A).push (UInt8.ofNat ((n:Int).toNat))=⟨A.push (Nat.toUInt8 n)⟩:=by simp[ByteArray.push,Nat.toUInt8]
  rw[this,adI ns]
  simp_all
theorem Yq (ns:C_):(ns.map (fun(n:Nat)=>[D.int .u8 (Int.ofNat n)])).flatten=ns.map fun(n:Nat)=>D.int .u8 (Int.ofNat n):=by
 induction ns<;>simp_all
def arP {x:Rd}(s:S P g w st t O)(h:Ng x st=some (a,st'))(hc:bD P (.toStr x) o.op=true) :
  fE P g w t O st' a ((execOp (ev t) o).run P w):=by
 simp only[bD]at hc;split at hc
 .simp only[af]at hc;obtain⟨⟨h1,h2⟩,h3⟩:=hc;obtain⟨v,e,hr,hk⟩:=Rt h;obtain⟨Ov,O',rv,s',l⟩:=s.rd h3 hr;split at hk
  .rename_i xs hxs;split at hk
   .rename_i b hb;obtain⟨rfl,rfl⟩:=hk;obtain⟨ns,rfl,rfl⟩:=Ii hb;have hl1:∀e∈ns.map (fun(n:Nat)=>[D.int .u8 (Int.ofNat n)]),e.length=1:=by
     simp_all
    have hfl:(ns.map (fun(n:Nat)=>[D.int .u8 (Int.ofNat n)])).flatten=ns.map fun(n:Nat)=>D.int .u8 (Int.ofNat n):=by
     exact Yq ns
    obtain⟨ad,cap,news,hxv,hels⟩:=AF (st:=⟨e,st.hs⟩) s' hxs hl1 rv;have hnews:news=ns.map fun(n:Nat)=>Value.int .u8 (n:Int):=by
     apply dK;intro j;rcases bH j ns.length with hj|hj
     .have hd:(ns.map (fun(n:Nat)=>[D.int .u8 (Int.ofNat n)])).flatten[j]?=some (D.int .u8 (Int.ofNat ns[j])):=u_;obtain⟨u,hu,hr⟩:=hels.rd j _ hd
      cases hr
      simp_all
     grind [CY.len]
    simp only[O7]at h1;simp only[ame]at h2;split at h1
    .split at h2
     .split at h2
      .refine .flat s (x:=.string ⟨(ns.map Nat.toUInt8).toArray⟩) ?_ (by simp only[RV];exact⟨.str _,λ_=>trivial⟩) s' (S.le_left l);have hrun:(Conv.bytesToString (.slice ad (ns.map (fun(n:Nat)=>[D.int .u8 (Int.ofNat n)])).length cap)).run P w=.ok (.string ⟨(ns.map Nat.toUInt8).toArray⟩) w:=by
        cases ad with
        |none =>
         have h0:=hels.nn rfl;have:ns=[]:=ay u_;subst this;rfl
        |some ad =>
         have hcell:=run_loadCells_list (P:=P) w ad news (hels.cell ad rfl);have hlen:news.length=(ns.map (fun(n:Nat)=>[D.int .u8 (Int.ofNat n)])).length:=u_;rw[hlen]at hcell;have hm:news=(ns.map fun(n:Nat)=>(n:Int)).map (Value.int .u8):=u_;rw[hm]at hcell;rw[run_bytesToString w ad _ cap (ns.map fun(n:Nat)=>(n:Int)) hcell];have:=adI ns #[];simp only[Array.empty_append]at this;exact aX (λz=>Result.ok (Value.string z) w) this
       grind [execOp,Sem.run_bind,Result.andThen_ok,Sem.run_pure,run_convert_bytes_string]
      simp_all
     simp_all
    simp_all
   simp_all
  simp_all
 simp_all
def Cy {ty:TypeId}(h:Kr P ty=true){cs:F_}{off:Nat}{x:Value}(hx:cs.toList[off]?=some x):(part ty cs off).run P w=.ok x w:=by
 simp_all [part,Cn]
def Zp {ty:TypeId}{k:Bool}(hk:(match k with|true=>KH P ty|false=>Mp P ty)=true){u v:AV}{x y:Value}{Ou Ov:Nat->Nat}(ru:RV g w u x Ou)(rv:RV g w v y Ov)
  {r s:D_}{ks:V_}{tt:Bool}(h:bv (k::ks) (u::r) (v::s)=some tt)(d:Nat) :
  ∃b,(Op.equalIn (d+1) ty x y).run P w=.ok b w∧((b=true∧bv ks r s=some tt)∨(b=false∧tt=false)):=by
 cases k with
 |true =>
  cases u<;>try (simp[bv]at h;done)
  rename_i du
  cases du<;>try (simp[bv]at h;done)
  rename_i k a
  cases v<;>try (simp[bv]at h;done)
  rename_i dv
  cases dv<;>try (simp[bv]at h;done)
  rename_i j b;simp only[bv]at h;split at h
  .rename_i hkj;have:=FI hkj;subst this;have hx:=zq ru rfl;have hy:=zq rv rfl;subst hx hy;simp only[KH]at hk;split at hk
   .rename_i kk hu;refine⟨a == b,?_,?_⟩
    .unfold Op.equalIn;rw[aS,aY hu];simp
    grind
   simp_all
  simp_all
 |false =>
  cases u<;>try (simp[bv]at h;done)
  rename_i du
  cases du<;>try (simp[bv]at h;done)
  rename_i a
  cases v<;>try (simp[bv]at h;done)
  rename_i dv
  cases dv<;>try (simp[bv]at h;done)
  rename_i b;simp only[bv]at h;have hx:=Bg ru rfl;have hy:=Bg rv rfl;subst hx hy;simp only[Mp]at hk;split at hk
  .rename_i hu;refine⟨a == b,Ju hu d a b,?_⟩
   grind
  simp_all
def YJ {xs ys:F_}{d:Nat}:∀{fs:List Field}{ks:V_}{n:Nat}{r s:D_}{tt:Bool}{O1 O2:Nat->Nat},Iw P ks fs n=true->
  RVs g w r (xs.toList.drop n) O1->RVs g w s (ys.toList.drop n) O2->bv ks r s=some tt->∀{f:Field->BD_×Unit->Sem (ForInStep (BD_×Unit))},
  (∀(fd:Field) (q:BD_×Unit),(fd.name != "_")=true->∀x y b,(part fd.type xs fd.offset).run P w=.ok x w->(part fd.type ys fd.offset).run P w=.ok y w->
   (Op.equalIn (d+1) fd.type x y).run P w=.ok b w->(f fd q).run P w=.ok (if b=true then .yield (none,()) else .done (some false,())) w)->
  (forIn fs ((none,()):BD_×Unit) f).run P w=.ok (if tt=true then (none,()) else (some false,())) w
 |[],[],n,r,s,tt,O1,O2,_,r1,r2,h,f,_=>by
  cases r with
  |nil=>cases s<;>simp_all [bv]
  |cons=>grind [bv]
 |fd::fs,k::ks,n,r,s,tt,O1,O2,hf,r1,r2,h,f,hstep=>by
  simp only[Iw,af,aB]at hf;obtain⟨⟨⟨⟨h1,h2⟩,h3⟩,h4⟩,h5⟩:=hf
  cases r with
  |nil=>grind [bv]
  |cons u r =>
   cases s with
   |nil=>grind [bv]
   |cons v s =>
    obtain⟨x,xs',P1,P2,e1,ru,rr,_⟩:=r1;obtain⟨y,ys',Q1,Q2,e2,rv,rs,_⟩:=r2;obtain⟨b,hb,hcase⟩:=Zp h3 ru rv h d;have hx:xs.toList[n]?=some x:=by have:=aX (λl=>l[0]?) e1;grind
    have hy:ys.toList[n]?=some y:=by have:=aX (λl=>l[0]?) e2;grind
    have ex:xs.toList.drop (n+1)=xs':=by have:=aX (λl=>l.drop 1) e1;grind [List.drop_drop]
    have ey:ys.toList.drop (n+1)=ys':=by have:=aX (λl=>l.drop 1) e2;grind [List.drop_drop]
    have hs:=hstep fd (none,()) h2 x y b (Cy h4 u_) (Cy h4 u_) hb;rw[uY,aS,hs];rcases hcase with ⟨rfl,hc⟩|⟨rfl,rfl⟩
    .exact YJ h5 (by rw[ex];exact rr) (by rw[ey];exact rs) hc hstep
    .simp
 |[],_::_,_,_,_,_,_,_,hf,_,_,_,_,_=>by simp[Iw]at hf
 |_::_,[],_,_,_,_,_,_,hf,_,_,_,_,_=>by simp[Iw]at hf
def acm {k:Bool}{ks:V_}{r s:D_}{tt:Bool}(h:bv (k::ks) r s=some tt):∃u r' v s',r=u::r'∧s=v::s'∧
  (((∀ks' r'' s'',bv (k::ks') (u::r'') (v::s'')=bv ks' r'' s'')∧bv ks r' s'=some tt)∨((∀ks' r'' s'',bv (k::ks') (u::r'') (v::s'')=some false)∧tt=false)):=by
 cases r with
 |nil=>grind [bv]
 |cons u r =>
  cases s with
  |nil=>grind [bv]
  |cons v s =>
   refine⟨u,r,v,s,rfl,rfl,?_⟩
   cases k with
   |true =>
    cases u<;>try (simp[bv]at h;done)
    rename_i du
    cases du<;>try (simp[bv]at h;done)
    cases v<;>try (simp[bv]at h;done)
    rename_i dv
    cases dv<;>try (simp[bv]at h;done)
    grind [bv]
   |false =>
    cases u<;>try (simp[bv]at h;done)
    rename_i du
    cases du<;>try (simp[bv]at h;done)
    cases v<;>try (simp[bv]at h;done)
    rename_i dv
    cases dv<;>try (simp[bv]at h;done)
    grind [bv]
def Kn:∀(k1:V_) {k2:V_}{r s:D_}{tt:Bool},bv (k1++k2) r s=some tt->
  ∃b,bv k1 (r.take k1.length) (s.take k1.length)=some b∧((b=true∧bv k2 (r.drop k1.length) (s.drop k1.length)=some tt)∨(b=false∧tt=false))
 |[],_,_,_,_,h=>⟨true,by simp[bv],.inl ⟨rfl,u_⟩⟩
 |k::k1,k2,r,s,tt,h=>by
  obtain⟨u,r',v,s',rfl,rfl,hc⟩:=acm h;rcases hc with ⟨h1,h2⟩|⟨h1,h2⟩
  .obtain⟨b,hb,hc⟩:=Kn k1 h2
   simp_all
  simp_all
theorem acv {ty:TypeId}{ks:V_}{fs:Array Field}(hu:P.underlying ty=some (.struct fs))(h1:Iw P ks fs.toList 0=true)(h2:P.stoodInHeld ty=false){cs ds:D_}{xs ys:F_}{O1 O2:Nat->Nat}(r1:RVs g w cs xs.toList O1)(r2:RVs g w ds ys.toList O2)
  {tt:Bool}(h:bv ks cs ds=some tt)(d:Nat):(Op.equalIn (d+1+1) ty (.agg xs) (.agg ys)).run P w=.ok tt w:=by
 rw[Op.equalIn,aS,aY hu];simp only[bp,aS,run_program,h2,ao,bl,<-Array.forIn_toList];rw[YJ (f:=_) (d:=d) h1 (by simpa using r1) (by simpa using r2) h (λfd q hn x y b hx hy hb=>by
  have hn':¬fd.name = "_" := by simp_all
  simp only[ne_eq,hn',not_false_eq_true,bn,aS,hx,hy,bp,hb]
  cases b<;>simp)]
 cases tt<;>simp
def S4 {ty:TypeId}{fs:Array Field}{n:Nat}(hu:P.underlying ty=some (.struct fs))(hs:xk P ty n=true){xs:F_}{off:Nat}:(part ty xs off).run P w=.ok (.agg (xs.extract off (off+n))) w:=by
 have:Cz P ty=true:=by simp[Cz,hu]
 simp[part,xI this,eQ hs]
def WM {xs ys:F_}{d:Nat}:∀{fs:List Field}{ks:V_}{n:Nat}{r s:D_}{tt:Bool}{O1 O2:Nat->Nat},M3 P ks fs n=true->
  RVs g w r (xs.toList.drop n) O1->RVs g w s (ys.toList.drop n) O2->bv ks r s=some tt->∀{f:Field->BD_×Unit->Sem (ForInStep (BD_×Unit))},
  (∀(fd:Field) (q:BD_×Unit),(fd.name != "_")=true->∀x y b,(part fd.type xs fd.offset).run P w=.ok x w->(part fd.type ys fd.offset).run P w=.ok y w->
   (Op.equalIn (d+1+1) fd.type x y).run P w=.ok b w->(f fd q).run P w=.ok (if b=true then .yield (none,()) else .done (some false,())) w)->
  (forIn fs ((none,()):BD_×Unit) f).run P w=.ok (if tt=true then (none,()) else (some false,())) w
 |[],[],n,r,s,tt,O1,O2,_,r1,r2,h,f,_=>by
  cases r with
  |nil=>cases s<;>simp_all [bv]
  |cons=>grind [bv]
 |[],_::_,_,_,_,_,_,_,hf,_,_,_,_,_=>by simp[M3]at hf
 |fd::fs,ks,n,r,s,tt,O1,O2,hf,r1,r2,h,f,hstep=>by
  unfold M3 at hf;simp only[af,aB]at hf;obtain⟨⟨h1,h2⟩,hf⟩:=hf;split at hf
  .rename_i f2 hu;simp only[af,bj,cO]at hf;obtain⟨⟨⟨⟨h3,h4⟩,h5⟩,h6⟩,h7⟩:=hf;have hlen:(ks.take f2.size).length=f2.size:=u_;rw[<-aT f2.size ks]at h;obtain⟨b,hb,hcase⟩:=Kn _ h;rw[hlen]at hb hcase;obtain⟨P1,ru,_⟩:=r1.sub 0 f2.size;obtain⟨P2,rr,_⟩:=r1.sub f2.size r.length;obtain⟨Q1,rv,_⟩:=r2.sub 0 f2.size;obtain⟨Q2,rs,_⟩:=r2.sub f2.size s.length;have ea:∀zs:F_,(zs.extract n (n+f2.size)).toList=((zs.toList.drop n).drop 0).take f2.size:=λzs=>by simp_all
   have hs:=hstep fd (none,()) h2 _ _ b (S4 hu h6) (S4 hu h6) (by
    grind [acv,sub])
   rw[uY,aS,hs];rcases hcase with ⟨rfl,hc⟩|⟨rfl,rfl⟩
   .simp only[bn,bp];have l1:r.length=(xs.toList.drop n).length:=r1.length.symm;have l2:s.length=(ys.toList.drop n).length:=r2.length.symm;have er:Vm.sub r f2.size r.length=r.drop f2.size:=by simp_all [sub,cx]
    have es:Vm.sub s f2.size s.length=s.drop f2.size:=by simp_all [sub,cx]
    have ex:((xs.toList.drop n).drop f2.size).take r.length=xs.toList.drop (n+f2.size):=by grind [List.take_of_length_le,List.drop_drop]
    have ey:((ys.toList.drop n).drop f2.size).take s.length=ys.toList.drop (n+f2.size):=by grind [List.take_of_length_le,List.drop_drop]
    rw[er,ex]at rr;rw[es,ey]at rs;exact WM h7 rr rs hc hstep
   .simp
  .cases ks with
   |nil=>simp at hf
   |cons k ks =>
    simp only[af]at hf;obtain⟨⟨h3,h4⟩,h5⟩:=hf
    cases r with
    |nil=>grind [bv]
    |cons u r =>
     cases s with
     |nil=>grind [bv]
     |cons v s =>
      obtain⟨x,xs',P1,P2,e1,ru,rr,_⟩:=r1;obtain⟨y,ys',Q1,Q2,e2,rv,rs,_⟩:=r2;obtain⟨b,hb,hcase⟩:=Zp h3 ru rv h (d+1);have hx:xs.toList[n]?=some x:=by have:=aX (λl=>l[0]?) e1;grind
      have hy:ys.toList[n]?=some y:=by have:=aX (λl=>l[0]?) e2;grind
      have ex:xs.toList.drop (n+1)=xs':=by have:=aX (λl=>l.drop 1) e1;grind [List.drop_drop]
      have ey:ys.toList.drop (n+1)=ys':=by have:=aX (λl=>l.drop 1) e2;grind [List.drop_drop]
      have hs:=hstep fd (none,()) h2 x y b (Cy h4 u_) (Cy h4 u_) hb;rw[uY,aS,hs];rcases hcase with ⟨rfl,hc⟩|⟨rfl,rfl⟩
      .exact WM h5 (by rw[ex];exact rr) (by rw[ey];exact rs) hc hstep
      .simp
def WY {ty:TypeId}{ks:V_}(ht:z7 P ty ks=true){cs ds:D_}{xs ys:F_}{O1 O2:Nat->Nat}(r1:RVs g w cs xs.toList O1)(r2:RVs g w ds ys.toList O2)
  {tt:Bool}(h:bv ks cs ds=some tt):(Op.equal ty (.agg xs) (.agg ys)).run P w=.ok tt w:=by
 unfold z7 at ht;split at ht
 .rename_i fs hu;simp only[af,cO]at ht;obtain⟨⟨h1,h2⟩,h3⟩:=ht;show(Op.equalIn (9997+1+1+1) ty (.agg xs) (.agg ys)).run P w=_;rw[Op.equalIn,aS,aY hu];simp only[bp,aS,run_program,h2,ao,bl,<-Array.forIn_toList];rw[WM (f:=_) (d:=9997) h1 (by simpa using r1) (by simpa using r2) h (λfd q hn x y b hx hy hb=>by
   have hn':¬fd.name = "_" := by simp_all
   simp only[ne_eq,hn',not_false_eq_true,bn,aS,hx,hy,bp,hb]
   cases b<;>simp)]
  cases tt<;>simp
 simp_all
def axX {neg:Bool}{ks:V_}{x y:Rd}(s:S P g w st t O)(h:MD neg ks x y st=some (a,st'))(hc:bD P (.bina neg ks x y) o.op=true) :
  fE P g w t O st' a ((execOp (ev t) o).run P w):=by
 obtain⟨dst,opp,ty,pos,aft,gd⟩:=o;simp only[bD]at hc;split at hc
 .rename_i op' ty' x' y' yt;simp only[af,aca,decide_eq_true_eq]at hc;obtain⟨⟨⟨h0,hb⟩,h1⟩,h2⟩:=hc;obtain⟨va,vb,e,Oa,Ob,O',ra,rb,s',l,hk⟩:=Tc s h1 h2 h;split at hk
  .split at hk
   .rename_i tt htt;obtain⟨rfl,rfl⟩:=hk;obtain⟨xs,hx,r1⟩:=ra;obtain⟨ys,hy,r2⟩:=rb;have heq:=WY hb r1 r2 htt;have hgt:P.eqGuardType P.depth ty'=false:=by
     grind [z7]
    refine .flat s (x:=_) ?_ (HR _) s' λb=>by grind
    have hg:∀op,(eqGuard op ty' x' y' (.agg xs) (.agg ys)).run P w=.ok () w:=by
     simp_all [eqGuard]
    have hbin:(binOp (match neg with|true=>.neq|false=>.eql) ty' (.agg xs) (.agg ys)).run P w=.ok (.bool (match neg with|true=>!tt|false=>tt)) w:=by
     cases neg
     .show((do pure (.bool (<-Op.equal ty' (.agg xs) (.agg ys))):Sem Value)).run P w=_
      simp_all
     .show((do pure (.bool (!(<-Op.equal ty' (.agg xs) (.agg ys)))):Sem Value)).run P w=_
      simp_all
    simp only[execOp,hx,hy]
    cases neg
    all_goals simp_all
   simp_all
  simp_all
 simp_all
end
abbrev aE:=@List.flatMap_cons
abbrev dz:=@List.mem_map
section
variable {P:Program}{g:Gh}{w:World}{t:F_}{O:Nat->Nat}{st st':St}{a:AV}{o:Oper}
def RVs.flat:∀{vs:D_}{xs:N_}{O1:Nat->Nat},RVs g w vs xs O1->(vs.all λv=>Nat.beq v.cells.length 1 && v.cells.all bq)=true->
  RVs g w (vs.flatMap AV.cells) (xs.flatMap λx=>x.cells.toList) O1∧∀x∈xs,x.cells.toList.length=1
 |[],xs,O1,r,_=>by
  grind [RVs]
 |v::vs,xs,O1,r,h=>by
  obtain⟨x,s,P1,P2,rfl,rv,rvs,hs⟩:=r;simp only[gF,af,aB]at h;obtain⟨h1,h2⟩:=rvs.flat d_;have rc:=rv.cells h.1.2;refine⟨?_,λy hy=>?_⟩
  .have hO:O1=λb=>P1 b+P2 b:=funext hs
   grind [join]
  grind [length]
def au9:∀{ps:U_}{parts:List (Nat×Operand)}{k:Nat},gb k ps parts=true->∀{cs:F_},(∀p∈parts,(ev t p.2).cells.toList.length=1)->k+parts.length<=cs.size->
  ∃xs':F_,Instr.fill (λi=>some (i*1,1)) cs (parts.map λp=>(p.1,ev t p.2))=some xs'∧xs'.size=cs.size∧(∀j,j<k->xs'.toList[j]?=cs.toList[j]?)∧
   ∀j,j<parts.length->xs'.toList[k+j]?=(parts.flatMap λp=>(ev t p.2).cells.toList)[j]?
 |[],[],k,_,cs,_,hb=>⟨cs,by simp[Instr.fill],rfl,λ_ _=>rfl,λj hj=>by simp at hj⟩
 |r::ps,(i,x)::parts,k,hc,cs,h1,hb=>by
  simp only[gb,af,aB]at hc;obtain⟨⟨rfl,h2⟩,h3⟩:=hc;have hb:i+(parts.length+1)<=cs.size:=hb;have hx:(ev t x).cells.toList.length=1:=h1 _ (.head _);obtain⟨xs1,e1,e2⟩:=Sc (place:=λi=>some (i*1,1)) (rest:=parts.map λp=>(p.1,ev t p.2)) (i:=i) rfl (v:=ev t x) o_ (xs:=cs) o_;have hsz1:xs1.size=cs.size:=by
   grind [Jv]
  obtain⟨xs',q1,q2,q3,q4⟩:=au9 h3 (cs:=xs1) (λp hp=>h1 p (.tail _ hp)) (by omega)
  grind [kh]
 |[],_::_,_,hc,_,_,_=>by grind [gb]
 |_::_,[],_,hc,_,_,_=>by grind [gb]
def agM {α β:Type}{f:α->List β}:∀{l:List α},(∀x∈l,(f x).length=1)->(l.flatMap f).length=l.length
 |[],_=>rfl
 |x::l,h=>by
  rw[aE,al,h x (.head _),agM λy hy=>h y (.tail _ hy),ar];omega
def avD {m:Nat}{ps:U_}(s:S P g w st t O)(h:YI m ps st=some (a,st'))(hc:bD P (.mksv m ps) o.op=true) :
  fE P g w t O st' a ((execOp (ev t) o).run P w):=by
 obtain⟨dst,op,ty,pos,aft,gd⟩:=o;simp only[bD]at hc;split at hc
 .rename_i T len parts;simp only[af,aB,bj,Nat.blt_eq]at hc;obtain⟨⟨⟨⟨⟨⟨rfl,h1⟩,h2⟩,h3⟩,h4⟩,h0⟩,h5⟩:=hc;subst h3;obtain⟨el,hu,hsz,hm,hby⟩:=iq h1;obtain⟨el',i,zv,hu',hi,hz,hzs⟩:=qN h2;rw[hu]at hu';simp only[ae,ip]at hu';subst hu';obtain⟨hrds,hpl⟩:=Ey h5;unfold YI at h;split at h
  .rename_i vs e hr;split at h
   .rename_i hall;simp only[ae,aQ]at h;obtain⟨rfl,rfl⟩:=h;obtain⟨Ov,O',rvs,s',l⟩:=s.rdAll hrds hr;rw[tH]at rvs;have hvl:=rvs.length;simp only[gO]at hvl;obtain⟨rf,hone⟩:=rvs.flat hall;have hplt:parts.toList.length=ps.length:=hpl;generalize hcs:(Array.range (ps.length*1)).map (λj=>(if ps.length*1=0 then (#[]:F_) else zv.cells)[j % (if ps.length*1=0 then (#[]:F_) else zv.cells).size]!)=cs;have hcsz:cs.size=ps.length:=d_;have hone':∀p∈parts.toList,(ev t p.2).cells.toList.length=1:=λp hp=>hone _ (dz.2 ⟨p,hp,rfl⟩)
    obtain⟨xs',q1,q2,q3,q4⟩:=au9 (t:=t) (k:=0) h5 (cs:=cs) hone' o_;have hfl:=agM (f:=λp:Nat×Operand=>(ev t p.2).cells.toList) hone';have hxs:xs'.toList=parts.toList.flatMap λp=>(ev t p.2).cells.toList:=by
     refine dK λj=>?_
     grind
    have rvx:RVs g w (vs.flatMap AV.cells) xs'.toList Ov:=by
     grind [List.flatMap_map]
    have hcl:(vs.flatMap AV.cells).length=vs.length:=by grind [RVs.length]
    have hn:=s'.fresh st.hs.next (ak _)
    have hO:∀b,w.heap.size<=b->O b=0:=by
     intro b hb;by_cases h:O b=0
     .exact h
     .have:=s.hi b h;omega
    have hx0:bL g w (g.add st.hs.next w.heap.size 0 1 (vs.flatMap AV.cells).length) (w.alloc (.cells xs' el)) (λ_=>False):=(bL.alloc s.pmlt _ _).add hn _ _ _ _;have r:jT P (g.add st.hs.next w.heap.size 0 1 (vs.flatMap AV.cells).length) (w.alloc (.cells xs' el)) st.hs.next (.cells (vs.flatMap AV.cells)) (λx=>Ov x+one w.heap.size x):=by
     refine⟨w.heap.size,xs',el,Ov,by simp[Gh.add],by simp[Gh.add],by simp[Gh.add],by simp[Gh.add],jE _ _,RVs.ext hx0 _ _ _ rvx s_,λo ho=>?_,λ_=>rfl⟩;have:=s.pmlt _ o ho;omega
    have key:∀b,Ov b+one w.heap.size b+O' b<=1:=by
     intro b;by_cases hb:b=w.heap.size
     .have:=l w.heap.size;simp_all
     .have:=s.le b;grind [one]
    obtain⟨s2,hx⟩:=s'.new r (λb=>key b) (λb hb=>by
     grind [wF])
    refine⟨.slice (some ⟨w.heap.size,0,none⟩) ps.length ps.length,_,_,zero,_,.inl ?_,?_,s2,hx.mono λb _ hb=>by grind,λb=>by simp_all,λb hb=>?_,s_⟩
    .have hbig:¬(ps.length*1 > 2 ^ 24):=o_;have hne:¬(ps.length*1=0):=o_;have hzv:=um (P:=P) (w:=w) hi hz;simp only[execOp,Instr.buildSlice,aS,aY hu,bp,eQ hsz,hne,bl,dA,mg,hbig,hzv]
     simp_all [newRow]
    .simp_all [RV,Gh.add]
    grind [one]
   simp_all
  simp_all
 simp_all
def atT {n:Nat}{x:Rd}{lo hi mx:AB_}(s:S P g w st t O)(h:Un n x lo hi mx st=some (a,st'))(hc:bD P (.slarr n x lo hi mx) o.op=true) :
  fE P g w t O st' a ((execOp (ev t) o).run P w):=by
 obtain⟨dst,op,ty,pos,aft,gd⟩:=o;simp only[bD]at hc;split at hc
 .rename_i ty' y l' h' k';simp only[af]at hc;obtain⟨⟨⟨⟨h1,h2⟩,h3⟩,h4⟩,h5⟩:=hc;have hty:∃el,P.underlying ty'=some (.array n el)∧xk P el 1=true:=by
   grind [Um,Nat.beq_eq]
  obtain⟨el,hu,hsz⟩:=hty;unfold Un at h;split at h
  .rename_i id off e1 r1;obtain⟨Ov,O1,rv,s1,l1⟩:=s.rd h2 r1;split at h
   .rename_i vl e2 r2;obtain⟨O2,q2,s2,l2⟩:=s1.rdOpt h3 r2;split at h
    .rename_i vh e3 r3;obtain⟨O3,q3,s3,l3⟩:=s2.rdOpt h4 r3;split at h
     .rename_i vm e4 r4;obtain⟨O4,q4,s4,l4⟩:=s3.rdOpt h5 r4;split at h
      .rename_i r hr;simp only[ae,aQ]at h;obtain⟨rfl,rfl⟩:=h;have hle:∀b,Ov b+O4 b<=O b:=λb=>by grind
       unfold Ue at hr;split at hr
       .rename_i cs hg;split at hr
        .rename_i hle2;split at hr
         .rename_i l hh mm hb;simp only[ae]at hr;subst hr;have hb1:=vL hle2;obtain⟨Oe,Oh,re,rh,ho⟩:=s.parts;obtain⟨Oq,q,_⟩:=RL.get rh hg;obtain⟨b,c,el2,O5,hob,hbase,hesz,hbsz,_⟩:=q;obtain⟨⟨b',hob',hx⟩,_⟩:=rv;rw[hob]at hob';simp only[ae]at hob';subst hob';obtain⟨m',e1,g1,g2,g3,g4⟩:=YV (P:=P) (w:=w) (b:=false) q2 q3 q4 (ak n) hb;refine .pure s (x:=.slice (some (if m'=l then ⟨b,g.base id+off,none⟩ else (⟨b,g.base id+off,none⟩:Addr).add (l*1))) (hh-l) (m'-l)) (Oa:=zero) ?_ ?_ s4 λx=>by simp_all
          .simp only[execOp,aS,Instr.sliceAt,aY hu,bp,hx,Instr.sureAddr,dA,e1,eQ hsz]
          .simp only[RV];refine⟨?_,λ_=>trivial⟩;by_cases hml:m'=l
           .simp_all
           .refine .inr ⟨b,m'-l,hob,?_,o_,?_⟩
            all_goals grind [lE]
         simp_all
        simp_all
       simp_all
      simp_all
     simp_all
    simp_all
   simp_all
  simp_all
 simp_all
end
end Go.Vm
end
