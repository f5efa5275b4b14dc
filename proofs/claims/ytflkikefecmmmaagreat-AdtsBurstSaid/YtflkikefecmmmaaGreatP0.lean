import GoSem.Core.View
import GoSem.Core.Program
import GoSem.Core.Layout
import GoSem.Op.Equal
import Derived.Calls
import Derived.Laws.Sem
import Derived.Laws.World
import Derived.Laws.Cells
import Derived.Laws.Append
import Derived.Laws.Tables
import Derived.Laws.BytesString
set_option linter.unusedVariables false
set_option linter.unusedSimpArgs false
set_option linter.defProp false
set_option linter.unusedSectionVars false
noncomputable section
namespace Go.Vm
abbrev C_:=List Nat
abbrev G_:=List Int
abbrev V_:=List Bool
abbrev I_:=Option Nat
abbrev N_:=List Value
abbrev BC_:=List UInt8
abbrev BE_:=Array Bool
abbrev F_:=Array Value
abbrev BD_:=Option Bool
abbrev R_:=List (Nat×Nat)
abbrev K_:=List (List Int)
abbrev AD_:=List (List Nat)
abbrev T_:=List (List Bool)
abbrev BB_:=Option (Nat->Nat)
abbrev P_:=List (Nat×List Nat)
abbrev AG_:=Option (List Nat×List Nat)
set_option maxHeartbeats 4000000
set_option maxRecDepth 100000
theorem o_ {p:Prop}(h:p:=by omega):p:=h
theorem s_ {p:Prop}(h:p:=by simp):p:=h
theorem u_ {p:Prop}(h:p:=by simp_all):p:=h
theorem k_ {p:Prop}(h:p:=by decide):p:=h
theorem d_ {p:Prop}(h:p:=by grind):p:=h
abbrev aa:=@if_neg
abbrev dF_:=@decide_eq_false
abbrev dT_:=@decide_eq_true
abbrev cf:=@Nat.ble_eq_true_of_le
abbrev aD:=@Nat.beq_eq
abbrev aP:=@congrArg
inductive D where
 |int (k:IntKind) (n:Int)
 |bool (b:Bool)
 |str (s:BC_)
 |lst (xs:List (List D))
 deriving Inhabited
abbrev W_:=List D
abbrev BF_:=Option D
abbrev E_:=List (W_)
abbrev AE_:=Option (E_)
inductive AV where
 |junk
 |d (x:D)
 |nl
 |own (p:Bool) (m:Nat) (xs:E_)
 |gl (n:Nat)
 |agg (cs:List AV)
 |tup (vs:List AV)
 |nilp
 |ptr (id off:Nat)
 |pel (id i off:Nat)
 |pim (cs:W_) (off:Nat)
 |sl (id off len:Nat)
 |fn (f:FuncId) (first caps:List AV)
 |nilf
 |yield (l:Nat)
 deriving Inhabited
abbrev D_:=List AV
abbrev M_:=Option AV
abbrev AV.int (k:IntKind)(n:Int):AV:=.d (.int k n)
abbrev AV.bool (b:Bool):AV:=.d (.bool b)
abbrev A_ (n:Int):AV:=.d (.int .i64 n)
abbrev B_ (b:Bool):AV:=.d (.bool b)
inductive Rd where
 |s (i:Nat)
 |m (i:Nat)
 |c (v:AV)
 deriving Inhabited
abbrev U_:=List Rd
abbrev AB_:=Option Rd
abbrev AC_:=List (Nat×Nat×Rd)
inductive pk where
 |mov (x:Rd)
 |pick (c a b:Rd)
 |alloc (zs:D_)
 |box (x:Rd)
 |build (zs:D_) (ps:AC_)
 |mks (m:Nat) (ps:U_)
 |mksv (m:Nat) (ps:U_)
 |ld (n:I_) (take:Nat) (p:Rd)
 |st (n:Nat) (p x:Rd)
 |nilck (x:Rd)
 |bin (op:BinOp) (x y:Rd)
 |binb (neg:Bool) (x y:Rd)
 |bina (neg:Bool) (ks:V_) (x y:Rd)
 |un (op:UnOp) (x:Rd)
 |conv (k:IntKind) (x:Rd)
 |toStr (x:Rd)
 |mkfn (f:FuncId) (first caps:U_)
 |mkslice (z:W_) (len cap:Rd)
 |slice (m:Nat) (x:Rd) (lo hi mx:AB_)
 |slarr (n:Nat) (x:Rd) (lo hi mx:AB_)
 |fa (off:Nat) (p:Rd)
 |fld (off:Nat) (n:I_) (x:Rd)
 |ia (n:Nat) (x i:Rd)
 |iarr (len n:Nat) (p i:Rd)
 |ix (len n:Nat) (agg:Bool) (x i:Rd)
 |ixs (x i:Rd)
 |idxb (x c:Rd)
 |ext (j:Nat) (mv:Bool) (i:Nat)
 |len (x:Rd)
 |cap (x:Rd)
 |app (m:Nat) (x y:Rd)
 |appz (z:W_) (x n:Rd)
 |cpy (m:Nat) (x y:Rd)
 |clr (z:W_) (x:Rd)
 |minmax (isMax:Bool) (xs:U_)
 |call (f:FuncId) (args:U_)
 |calli (f:FuncId) (args:U_)
 |callv (f:Rd) (args:U_)
 |bad
 |kill (is:C_)
 |free (i:Nat)
 |wk (i m:Nat)
 |frz (i:Nat)
 |frzC (i:Nat) (offs:C_)
 deriving Inhabited
structure VI where
 dst:I_
 guard:Option (Nat×Bool)
 op:pk
 th:R_:=[]
 deriving Inhabited
abbrev S_:=List VI
inductive VC where
 |skip
 |reg (draw:Bool) (ops:S_)
 |regP (perm gco nr:C_) (ops:S_)
 |seq (a b:VC)
 |cond (c:Rd) (a b:VC)
 |block (id:Nat) (a:VC)
 |loop (a:VC)
 |rangeF (f:Rd) (params:C_) (assign body:VC)
 |exit (id:Nat)
 |scope (a:VC)
 |inScope (a cur:VC)
 |label (l:Nat)
 |goto (l:Nat)
 |ret
 |clone (m:Nat)
 |late (i d f:Nat) (a:VC)
 deriving Inhabited
inductive tv where
 |tmp (t:Nat)
 |cell (t:Nat) (n:I_)
 deriving Inhabited
abbrev AH_:=List tv
structure al where
 nparams:Nat
 results:AH_
 body:VC
 deriving Inhabited
abbrev Z_:=Option al
abbrev aZ:=List (Nat×AV)
inductive cJ where
 |normal
 |exit (id:Nat)
 |goto (l:Nat)
 |ret
 deriving Inhabited,DecidableEq
abbrev BH_:=Option cJ
inductive Obj where
 |cells (cs:D_)
 |arr (m:Nat) (xs:E_)
 |loop (snap:aZ) (params:C_) (assign body:VC) (busy:Bool) (pend:BH_)
 deriving Inhabited
abbrev am:=List (Nat×Obj)
abbrev AF_:=Option (AV×am)
structure HS where
 heap:am
 next:Nat
 deriving Inhabited
abbrev X_:=Option (AV×HS)
structure St where
 env:aZ
 hs:HS
 deriving Inhabited
abbrev Y_:=Option St
abbrev J_:=Option (cJ×St)
abbrev L_:=Option (AV×St)
abbrev HJ (a b:Nat):Prop:=a<b
abbrev acf (a b:Nat):Prop:=a<=b
abbrev ag0 (a b:Nat):Bool:=Nat.ble a b
def asP {a b:Nat}(h:acf a b):ag0 a b=true:=u_
def ayH {a b:Nat}(h:¬acf a b):ag0 a b=false:=by grind [Nat.ble_eq]
def aGA {α:Type}:List (Nat×α)->Nat->Option α
 |[],_=>none
 |(k,v)::r,i=>match Nat.beq k i with
  |true=>some v
  |false=>aGA r i
def get {α:Type}(l:List (Nat×α))(i:Nat):Option α :=
 List.rec (motive:=λ_=>Option α) none (λp _ ih=>Prod.rec (motive:=λ_=>Option α) (λk v=>Bool.rec (motive:=λ_=>Option α) ih (some v) (Nat.beq k i)) p) l
def aGt {α:Type}:List (Nat×α)->Nat->α->List (Nat×α)
 |[],i,x=>[(i,x)]
 |(k,v)::r,i,x=>match Nat.beq k i with
  |true=>(i,x)::r
  |false=>match ag0 i k with
   |true=>(i,x)::(k,v)::r
   |false=>(k,v)::aGt r i x
def put {α:Type}(l:List (Nat×α))(i:Nat)(x:α):List (Nat×α) :=
 List.rec (motive:=λ_=>List (Nat×α)) [(i,x)] (λp r ih=>Prod.rec (motive:=λ_=>List (Nat×α)) (λk v=>Bool.rec (motive:=λ_=>List (Nat×α)) (Bool.rec (motive:=λ_=>List (Nat×α)) ((k,v)::ih) ((i,x)::(k,v)::r) (ag0 i k)) ((i,x)::r) (Nat.beq k i)) p) l
def aAj {α:Type}:List (Nat×α)->Nat->List (Nat×α)
 |[],_=>[]
 |(k,v)::r,i=>match Nat.beq k i with
  |true=>aAj r i
  |false=>(k,v)::aAj r i
def del {α:Type}(l:List (Nat×α))(i:Nat):List (Nat×α) :=
 List.rec (motive:=λ_=>List (Nat×α)) [] (λp _ ih=>Prod.rec (motive:=λ_=>List (Nat×α)) (λk v=>Bool.rec (motive:=λ_=>List (Nat×α)) ((k,v)::ih) ih (Nat.beq k i)) p) l
section
variable {α:Type}
theorem Bj (i:Nat):get ([]:List (Nat×α)) i=none:=rfl
theorem abi (i:Nat)(x:α):put [] i x=[(i,x)]:=rfl
theorem abq (i:Nat):del ([]:List (Nat×α)) i=[]:=rfl
def aHz {k i:Nat}(h:k=i):Nat.beq k i=true:=u_
def ahm {k i:Nat}(h:¬k=i):Nat.beq k i=false:=by grind [Nat.beq_eq]
theorem ju (k:Nat)(v:α)(r:List (Nat×α))(i:Nat):get ((k,v)::r) i=if k=i then some v else get r i:=by
 show Bool.rec (motive:=λ_=>Option α) (get r i) (some v) (Nat.beq k i)=_;by_cases h:k=i
 all_goals simp_all [ahm]
theorem pc (k:Nat)(v:α)(r:List (Nat×α))(i:Nat):del ((k,v)::r) i=if k=i then del r i else (k,v)::del r i:=by
 show Bool.rec (motive:=λ_=>List (Nat×α)) ((k,v)::del r i) (del r i) (Nat.beq k i)=_;by_cases h:k=i
 all_goals simp_all [ahm]
theorem xE (k:Nat)(v:α)(r:List (Nat×α))(i:Nat)(x:α) :
  put ((k,v)::r) i x=if k=i then (i,x)::r else if acf i k then (i,x)::(k,v)::r else (k,v)::put r i x:=by
 show Bool.rec (motive:=λ_=>List (Nat×α)) (Bool.rec (motive:=λ_=>List (Nat×α)) ((k,v)::put r i x) ((i,x)::(k,v)::r) (ag0 i k)) ((i,x)::r) (Nat.beq k i)=_;by_cases h:k=i
 .simp_all
 .rw[aa h,ahm h];by_cases h2:acf i k
  all_goals simp_all [asP,ayH]
end
mutual
def aqE:AV->AV
 |.own p _ xs=>match p with
  |false=>.d (.lst xs)
  |true=>.junk
 |.agg cs=>.agg (shareAll cs)
 |.tup cs=>.tup (shareAll cs)
 |v=>v
def shareAll:D_->D_
 |[]=>[]
 |v::r=>aqE v::shareAll r
end
def share (v:AV):AV:=AV.casesOn (motive_1:=λ_=>AV) v .junk (λx=>.d x) .nl (λp _ xs=>Bool.casesOn (motive:=λ_=>AV) p (.d (.lst xs)) .junk) (λn=>.gl n) (λcs=>.agg (shareAll cs)) (λcs=>.tup (shareAll cs))
 .nilp (λa b=>.ptr a b) (λa b c=>.pel a b c) (λa b=>.pim a b) (λa b c=>.sl a b c) (λa b c=>.fn a b c) .nilf (λa=>.yield a)
theorem apY (v:AV):aqE v=share v:=by
 cases v<;>try rfl
 rename_i p _ _
 cases p<;>rfl
def agA:shareAll []=[]:=rfl
def qi (v:AV)(r:D_):shareAll (v::r)=share v::shareAll r:=by grind [shareAll,apY]
def rd (e:aZ):Rd->Option (AV×aZ)
 |.c v=>some (v,e)
 |.m i=>match get e i with
  |some v=>some (v,del e i)
  |none=>none
 |.s i=>match get e i with
  |some v=>some (share v,e)
  |none=>none
def rdAll (e:aZ):U_->Option (D_×aZ)
 |[]=>some ([],e)
 |x::r=>match rd e x with
  |none=>none
  |some (v,e)=>match rdAll e r with
   |none=>none
   |some (vs,e)=>some (v::vs,e)
def rdOpt (e:aZ):AB_->Option (M_×aZ)
 |none=>some (none,e)
 |some x=>match rd e x with
  |some (v,e)=>some (some v,e)
  |none=>none
def sub {α:Type}(xs:List α)(off len:Nat):List α:=(xs.drop off).take len
def aH {α:Type}(cs:List α)(off:Nat)(vs:List α):List α:=cs.take off++vs++cs.drop (off+vs.length)
def Lw:W_->E_
 |[]=>[]
 |x::r=>[x]::Lw r
def toD:AV->BF_
 |.d x=>some x
 |.nl=>some (.lst [])
 |.own false _ xs=>some (.lst xs)
 |_=>none
def mO:D_->Option W_
 |[]=>some []
 |v::r=>match toD v with
  |some x=>match mO r with
   |some xs=>some (x::xs)
   |none=>none
  |none=>none
def AV.cells:AV->D_
 |.agg cs=>cs
 |v=>[v]
def objElems (h:am)(id:Nat):AE_ :=
 match get h id with
 |some (.arr _ xs)=>some xs
 |some (.cells cs)=>match mO cs with
  |some ds=>some (Lw ds)
  |none=>none
 |_=>none
def elems (h:am):AV->AE_
 |.d (.lst xs)=>some xs
 |.nl=>some []
 |.own false _ xs=>some xs
 |.sl id off len=>match objElems h id with
  |some xs=>match Nat.ble (off+len) xs.length with
   |true=>some (sub xs off len)
   |false=>none
  |none=>none
 |_=>none
def lenOf:AV->I_
 |.d (.lst xs)=>some xs.length
 |.nl=>some 0
 |.own _ _ xs=>some xs.length
 |.gl n=>some n
 |.sl _ _ len=>some len
 |_=>none
def viewOne (h:am):AV->M_
 |.d x=>some (.d x)
 |.nl=>some .nl
 |.own false _ xs=>some (.d (.lst xs))
 |.sl id off len=>match elems h (.sl id off len) with
  |some xs=>some (.d (.lst xs))
  |none=>none
 |_=>none
def viewAll (h:am):D_->Option D_
 |[]=>some []
 |v::r=>match viewOne h v with
  |none=>none
  |some x=>match viewAll h r with
   |none=>none
   |some xs=>some (x::xs)
def viewArg (h:am):AV->M_
 |.agg cs=>match viewAll h cs with
  |some xs=>some (.agg xs)
  |none=>none
 |v=>viewOne h v
def viewArgs (h:am):D_->Option D_
 |[]=>some []
 |v::r=>match viewArg h v with
  |none=>none
  |some x=>match viewArgs h r with
   |none=>none
   |some xs=>some (x::xs)
def ud:AV->Bool
 |.sl ..=>true
 |_=>false
def rE:AV->Bool
 |.agg cs=>cs.any ud
 |v=>ud v
def kj (h:am):AV->AF_
 |.d x=>some (.d x,h)
 |.nl=>some (.nl,h)
 |.own p m xs=>some (.own p m xs,h)
 |.sl id off len=>match get h id with
  |some (.arr m xs)=>match Nat.ble (off+len) xs.length with
   |true=>some (.own true m (sub xs off len),del h id)
   |false=>none
  |_=>none
 |_=>none
def sv (h:am):D_->Option (D_×am)
 |[]=>some ([],h)
 |v::r=>match kj h v with
  |none=>none
  |some (x,h)=>match sv h r with
   |none=>none
   |some (xs,h)=>some (x::xs,h)
def gz (h:am):AV->AF_
 |.agg cs=>match sv h cs with
  |some (xs,h)=>some (.agg xs,h)
  |none=>none
 |v=>kj h v
def sS (h:am):D_->Option (D_×am)
 |[]=>some ([],h)
 |v::r=>match gz h v with
  |none=>none
  |some (x,h)=>match sS h r with
   |none=>none
   |some (xs,h)=>some (x::xs,h)
def mA:D->Bool
 |.lst _=>false
 |_=>true
def jG:AV->Bool
 |.d x=>mA x
 |.own _ _ xs=>xs.all λe=>e.all mA
 |_=>true
def lR:AV->Bool
 |.agg cs=>cs.all jG
 |v=>jG v
def kb:AV->Bool
 |.tup vs=>vs.all lR
 |v=>lR v
def nS:AV->AV
 |.own _ m xs=>.own true m xs
 |v=>v
def qo:AV->AV
 |.agg cs=>.agg (cs.map nS)
 |v=>nS v
def qr:AV->AV
 |.tup vs=>.tup (vs.map qo)
 |v=>qo v
def ji (v:AV):AV :=
 match kb v with
 |true=>qr v
 |false=>v
def iu (h:am):AV->M_
 |.tup vs=>match sS h vs with
  |some (xs,_)=>some (ji (.tup xs))
  |none=>none
 |v=>match gz h v with
  |some (x,_)=>some (ji x)
  |none=>none
def oS (n:I_)(cs:W_)(off:Nat):M_ :=
 match n with
 |none=>match cs[off]? with
  |some x=>some (.d x)
  |none=>none
 |some n=>match Nat.ble (off+n) cs.length with
  |true=>some (.agg ((sub cs off n).map .d))
  |false=>none
def sc (t:Nat)(v:AV):AV×AV :=
 match t with
 |1=>(v,.junk)
 |2=>(v,share v)
 |3=>(v,match v with|.own _ _ xs=>.gl xs.length|v=>share v)
 |_=>(share v,v)
def fY (t:Nat):D_->D_×D_
 |[]=>([],[])
 |v::r=>((sc t v).1::(fY t r).1,(sc t v).2::(fY t r).2)
def loadAt (h:am)(n:I_)(take:Nat):AV->AF_
 |.ptr id off=>match get h id with
  |some (.cells cs)=>match n with
   |none=>match cs[off]? with
    |none=>none
    |some v=>match take with
     |0=>some (share v,h)
     |t=>some ((sc t v).1,put h id (.cells (cs.set off (sc t v).2)))
   |some n=>match Nat.ble (off+n) cs.length with
    |true=>match take with
     |0=>some (.agg (shareAll (sub cs off n)),h)
     |t=>some (.agg (fY t (sub cs off n)).1,put h id (.cells (aH cs off (fY t (sub cs off n)).2)))
    |false=>none
  |_=>none
 |.pel id i off=>match get h id with
  |some (.arr _ xs)=>match xs[i]? with
   |some x=>match oS n x off with
    |some v=>some (v,h)
    |none=>none
   |none=>none
  |_=>none
 |.pim cs off=>match oS n cs off with
  |some v=>some (v,h)
  |none=>none
 |_=>none
def bl:AV->Bool
 |.junk|.agg _|.tup _=>false
 |.own p _ _=>!p
 |_=>true
def storeAt (h:am)(n:Nat)(p x:AV):Option am :=
 match Nat.beq x.cells.length n with
 |false=>none
 |true=>match p with
  |.ptr id off=>match get h id with
   |some (.cells cs)=>match Nat.ble (off+n) cs.length && x.cells.all bl with
    |true=>some (put h id (.cells (aH cs off x.cells)))
    |false=>none
   |_=>none
  |.pel id i off=>match mO x.cells with
   |none=>none
   |some ds=>match get h id with
    |some (.arr m xs)=>match xs[i]? with
     |some e=>match Nat.ble (off+n) e.length with
      |true=>some (put h id (.arr m (xs.set i (aH e off ds))))
      |false=>none
     |none=>none
    |_=>none
  |_=>none
def iQ (off:Nat):AV->M_
 |.ptr id o=>some (.ptr id (o+off))
 |.pel id i o=>some (.pel id i (o+off))
 |.pim cs o=>some (.pim cs (o+off))
 |_=>none
def oW (lo hi:Int)(k:IntKind)(n:Int):Int :=
 match decide (lo<=n) && decide (n<=hi) with
 |true=>n
 |false=>k.wrap n
def wr (k:IntKind)(n:Int):Int :=
 match k with
 |.i64=>oW (-9223372036854775808) 9223372036854775807 k n
 |.u8=>oW 0 255 k n
 |.u64=>oW 0 18446744073709551615 k n
 |.u16=>oW 0 65535 k n
 |.u32=>oW 0 4294967295 k n
 |k=>k.wrap n
def Ib (op:BinOp)(k:IntKind)(x y:Int):BF_ :=
 match decide (y<0) with
 |true=>none
 |false=>match op with
  |.shl=>some (.int k (wr k (x*((2 ^ (min y.toNat k.bits):Nat):Int))))
  |.shr=>some (.int k (x.fdiv ((2 ^ (min y.toNat k.bits):Nat):Int)))
  |_=>none
def Ge (op:BinOp)(k:IntKind)(x y:Int):BF_ :=
 let slow (f:BitVec k.bits->BitVec k.bits->BitVec k.bits):BF_:=some (.int k (k.wrap (f (BitVec.ofInt k.bits x) (BitVec.ofInt k.bits y)).toNat))
 match op with
 |.and=>slow (·&&& ·)
 |.or=>slow (·|||·)
 |.xor=>slow (·^^^ ·)
 |.andNot=>slow λa b=>a &&& ~~~b
 |_=>none
def jR (op:BinOp)(k:IntKind)(x y:Int):BF_ :=
 match op with
 |.add=>some (.int k (wr k (x+y)))
 |.sub=>some (.int k (wr k (x-y)))
 |.mul=>some (.int k (wr k (x*y)))
 |.quo=>match decide (y=0) with
  |true=>none
  |false=>some (.int k (wr k (x.tdiv y)))
 |.rem=>match decide (y=0) with
  |true=>none
  |false=>some (.int k (x.tmod y))
 |.eql=>some (.bool (decide (x=y)))
 |.neq=>some (.bool (!decide (x=y)))
 |.lss=>some (.bool (decide (x<y)))
 |.leq=>some (.bool (decide (x<=y)))
 |.gtr=>some (.bool (decide (y<x)))
 |.geq=>some (.bool (decide (y<=x)))
 |.shl=>none
 |.shr=>none
 |op=>Ge op k x y
def ph:IntKind->IntKind->Bool
 |.i8,.i8|.i16,.i16|.i32,.i32|.i64,.i64|.u8,.u8|.u16,.u16|.u32,.u32|.u64,.u64=>true
 |_,_=>false
def bE:V_->D_->D_->BD_
 |[],[],[]=>some true
 |true::ks,.d (.int k a)::r,.d (.int j b)::s=>match ph k j with
  |true=>match decide (a=b) with
   |true=>bE ks r s
   |false=>some false
  |false=>none
 |false::ks,.d (.bool a)::r,.d (.bool b)::s=>match a == b with
  |true=>bE ks r s
  |false=>some false
 |_,_,_=>none
def wo (op:BinOp)(k:IntKind)(a:Int)(j:IntKind)(b:Int):BF_ :=
 match op with
 |.shl=>Ib .shl k a b
 |.shr=>Ib .shr k a b
 |op=>match ph k j with
  |true=>jR op k a b
  |false=>none
def dL (op:BinOp):AV->AV->M_
 |.d (.int k a),.d (.int j b)=>match wo op k a j b with
  |some x=>some (.d x)
  |none=>none
 |.d (.str a),.d (.str b)=>match op with
  |.eql=>some (.bool (a == b))
  |.neq=>some (.bool (!(a == b)))
  |.add=>match Nat.ble (a.length+b.length) 4294967296 with
   |true=>some (.d (.str (a++b)))
   |false=>none
  |_=>none
 |_,_=>none
def at3 (a b:Int):Int:=Int.casesOn (motive:=λ_=>Int->Int) a (λm b=>Int.casesOn (motive:=λ_=>Int) b (λn=>.ofNat (Nat.add m n)) (λn=>Int.subNatNat m (Nat.succ n)))
 (λm b=>Int.casesOn (motive:=λ_=>Int) b (λn=>Int.subNatNat n (Nat.succ m)) (λn=>.negSucc (Nat.succ (Nat.add m n)))) b
def ath (a b:Int):Int:=Int.casesOn (motive:=λ_=>Int->Int) a (λm b=>Int.casesOn (motive:=λ_=>Int) b (λn=>Bool.casesOn (motive:=λ_=>Int) (Nat.ble n m) (Int.ofNat m-Int.ofNat n) (.ofNat (Nat.sub m n))) (λn=>.ofNat (Nat.add m (Nat.succ n))))
 (λm b=>Int.negSucc m-b) b
def atu (a b:Int):Int:=Int.casesOn (motive:=λ_=>Int->Int) a (λm b=>Int.casesOn (motive:=λ_=>Int) b (λn=>.ofNat (Nat.mul m n)) (λn=>Int.ofNat m*Int.negSucc n))
 (λm b=>Int.negSucc m*b) b
def Yy (a b:Int):Bool:=Int.casesOn (motive:=λ_=>Int->Bool) a (λm b=>Int.casesOn (motive:=λ_=>Bool) b (λn=>Nat.ble m n) (λ_=>false))
 (λm b=>Int.casesOn (motive:=λ_=>Bool) b (λ_=>true) (λn=>Nat.ble n m)) b
def ieq (a b:Int):Bool:=Int.casesOn (motive:=λ_=>Int->Bool) a (λm b=>Int.casesOn (motive:=λ_=>Bool) b (λn=>Nat.beq m n) (λ_=>false))
 (λm b=>Int.casesOn (motive:=λ_=>Bool) b (λ_=>false) (λn=>Nat.beq m n)) b
def hiN (k:IntKind):Nat:=IntKind.casesOn (motive:=λ_=>Nat) k 127 32767 2147483647 9223372036854775807 255 65535 4294967295 18446744073709551615
def loN (k:IntKind):Nat:=IntKind.casesOn (motive:=λ_=>Nat) k 128 32768 2147483648 9223372036854775808 0 0 0 0
def knN (k:IntKind):Nat:=IntKind.casesOn (motive:=λ_=>Nat) k 0 1 2 3 4 5 6 7
def wq (n:Int)(k:IntKind):D:=Int.casesOn (motive:=λ_=>D) n (λm=>Bool.casesOn (motive:=λ_=>D) (Nat.ble m (hiN k)) (.int k (k.wrap (.ofNat m))) (.int k (.ofNat m)))
 (λm=>Bool.casesOn (motive:=λ_=>D) (Nat.ble (Nat.succ m) (loN k)) (.int k (k.wrap (.negSucc m))) (.int k (.negSucc m)))
abbrev BF:=BinOp->IntKind->Int->Int->M_
def KV:BF:=λop k a b=>dL op (.d (.int k a)) (.d (.int k b))
def aGT:BF:=λ_ k a b=>some (.d (wq (at3 a b) k))
def aGB:BF:=λ_ k a b=>some (.d (wq (ath a b) k))
def aGf:BF:=λ_ k a b=>some (.d (wq (atu a b) k))
def aFu:BF:=λ_ _ a b=>some (B_ (ieq a b))
def aGa:BF:=λ_ _ a b=>some (B_ (Bool.casesOn (motive:=λ_=>Bool) (ieq a b) true false))
def aGu:BF:=λ_ _ a b=>some (B_ (Bool.casesOn (motive:=λ_=>Bool) (Yy b a) true false))
def aGp:BF:=λ_ _ a b=>some (B_ (Yy a b))
def aFS:BF:=λ_ _ a b=>some (B_ (Bool.casesOn (motive:=λ_=>Bool) (Yy a b) true false))
def aFj:BF:=λ_ _ a b=>some (B_ (Yy b a))
def atZ (op:BinOp):BF:=BinOp.casesOn (motive:=λ_=>BF) op aGT aGB aGf KV KV KV KV KV KV KV KV aFu aGa aGu aGp aFS aFj
def aGk (k:IntKind)(a:Int)(op:BinOp)(y:D):M_:=D.casesOn (motive_1:=λ_=>IntKind->Int->BinOp->M_) y
 (λj b k a op=>Bool.casesOn (motive:=λ_=>M_) (Nat.beq (knN k) (knN j)) (dL op (.d (.int k a)) (.d (.int j b))) (atZ op op k a b))
 (λ_ _ _ _=>none) (λ_ _ _ _=>none) (λ_ _ _ _=>none) k a op
def aDR (x:D)(op:BinOp)(y:AV):M_:=D.casesOn (motive_1:=λ_=>BinOp->AV->M_) x
 (λk a op y=>AV.casesOn (motive_1:=λ_=>IntKind->Int->BinOp->M_) y (λ_ _ _=>none) (λd k a op=>aGk k a op d) (λ_ _ _=>none) (λ_ _ _ _ _ _=>none) (λ_ _ _ _=>none) (λ_ _ _ _=>none) (λ_ _ _ _=>none) (λ_ _ _=>none) (λ_ _ _ _ _=>none) (λ_ _ _ _ _ _=>none) (λ_ _ _ _ _=>none) (λ_ _ _ _ _ _=>none) (λ_ _ _ _ _ _=>none) (λ_ _ _=>none) (λ_ _ _ _=>none) k a op)
 (λb op y=>dL op (B_ b) y) (λs op y=>dL op (.d (.str s)) y) (λxs op y=>dL op (.d (.lst xs)) y) op y
def aBD (op:BinOp)(x y:AV):M_:=AV.casesOn (motive_1:=λ_=>BinOp->AV->M_) x (λ_ _=>none) (λd op y=>aDR d op y) (λ_ _=>none) (λ_ _ _ _ _=>none) (λ_ _ _=>none) (λ_ _ _=>none) (λ_ _ _=>none) (λ_ _=>none) (λ_ _ _ _=>none) (λ_ _ _ _ _=>none) (λ_ _ _ _=>none) (λ_ _ _ _ _=>none) (λ_ _ _ _ _=>none) (λ_ _=>none) (λ_ _ _=>none) op y
def aob (k j:IntKind):Nat.beq (knN k) (knN j)=ph k j:=by cases k<;>cases j<;>rfl
theorem ayw (a b:Int):at3 a b=a+b:=by cases a<;>cases b<;>rfl
theorem aw4 (a b:Int):ath a b=a-b:=by
 cases a with
 |ofNat m =>
  cases b with
  |ofNat n =>
   show Bool.casesOn (motive:=λ_=>Int) (Nat.ble n m) (Int.ofNat m-Int.ofNat n) (.ofNat (Nat.sub m n))=_;by_cases h:n<=m
   .rw[cf h]
    grind
   .rw[show Nat.ble n m=false by grind [Nat.ble_eq]]
  |negSucc n=>rfl
 |negSucc m=>rfl
theorem ay0 (a b:Int):atu a b=a*b:=by cases a<;>cases b<;>rfl
theorem aaR (a b:Int):Yy a b=decide (a<=b):=by
 cases a with
 |ofNat m =>
  cases b with
  |ofNat n =>
   show Nat.ble m n=_
   grind [Nat.ble_eq]
  |negSucc n =>
   show false=_
   grind
 |negSucc m =>
  cases b with
  |ofNat n =>
   show true=_
   grind
  |negSucc n =>
   show Nat.ble n m=_
   grind [Nat.ble_eq]
theorem ap9 (a b:Int):ieq a b=decide (a=b):=by
 cases a with
 |ofNat m =>
  cases b with
  |ofNat n =>
   show Nat.beq m n=_
   grind [Nat.beq_eq]
  |negSucc n =>
   show false=_
   simp_all
 |negSucc m =>
  cases b with
  |ofNat n =>
   show false=_
   simp_all
  |negSucc n =>
   show Nat.beq m n=_
   grind [Nat.beq_eq]
theorem Td {k:IntKind}{n:Int}(h:-(loN k:Int)<=n)(h2:n<=hiN k):k.wrap n=n:=by
 cases k<;>simp only[loN,hiN]at h h2<;>simp only[IntKind.wrap,IntKind.bits,IntKind.signed]<;>simp<;>omega
def acu (k:IntKind)(n:Int):wr k n=k.wrap n:=by
 have H:∀lo hi:Int,(lo<=n->n<=hi->k.wrap n=n)->oW lo hi k n=k.wrap n:=by
  grind [oW]
 cases k<;>simp only[wr]
 all_goals grind [Td,loN,hiN]
theorem apa (k:IntKind)(n:Int):wq n k=.int k (wr k n):=by
 rw[acu]
 cases n with
 |ofNat m =>
  show Bool.casesOn (motive:=λ_=>D) (Nat.ble m (hiN k)) (.int k (k.wrap (.ofNat m))) (.int k (.ofNat m))=_;by_cases h:m<=hiN k
  .simp_all [cf,Td]
  .rw[show Nat.ble m (hiN k)=false by grind [Nat.ble_eq]]
 |negSucc m =>
  show Bool.casesOn (motive:=λ_=>D) (Nat.ble (Nat.succ m) (loN k)) (.int k (k.wrap (.negSucc m))) (.int k (.negSucc m))=_;by_cases h:m+1<=loN k
  .rw[cf h,Td]
   all_goals omega
  .rw[show Nat.ble (Nat.succ m) (loN k)=false by grind [Nat.ble_eq]]
theorem asO (b:Bool):Bool.casesOn (motive:=λ_=>Bool) b true false=!b:=by cases b<;>rfl
theorem qE (k:IntKind):ph k k=true:=by cases k<;>rfl
theorem aya (op:BinOp)(k:IntKind)(a b:Int):atZ op op k a b=dL op (.d (.int k a)) (.d (.int k b)):=by
 cases op
 case add=>show some (AV.d (wq (at3 a b) k))=_;grind [apa,ayw,dL,wo,qE,jR]
 case sub=>show some (AV.d (wq (ath a b) k))=_;grind [apa,aw4,dL,wo,qE,jR]
 case mul=>show some (AV.d (wq (atu a b) k))=_;grind [apa,ay0,dL,wo,qE,jR]
 case eql=>show some (AV.d (.bool (ieq a b)))=_;grind [ap9,dL,wo,qE,jR]
 case neq=>show some (AV.d (.bool (Bool.casesOn (motive:=λ_=>Bool) (ieq a b) true false)))=_;grind [asO,ap9,dL,wo,qE,jR]
 case lss=>show some (AV.d (.bool (Bool.casesOn (motive:=λ_=>Bool) (Yy b a) true false)))=_;grind [asO,aaR,dL,wo,qE,jR]
 case leq=>show some (AV.d (.bool (Yy a b)))=_;grind [aaR,dL,wo,qE,jR]
 case gtr=>show some (AV.d (.bool (Bool.casesOn (motive:=λ_=>Bool) (Yy a b) true false)))=_;grind [asO,aaR,dL,wo,qE,jR]
 case geq=>show some (AV.d (.bool (Yy b a)))=_;grind [aaR,dL,wo,qE,jR]
 all_goals rfl
theorem Tx (op:BinOp)(x y:AV):aBD op x y=dL op x y:=by
 cases x<;>try rfl
 rename_i d
 cases d<;>try rfl
 rename_i k a
 cases y<;>try rfl
 rename_i e
 cases e<;>try rfl
 rename_i j b;show Bool.casesOn (motive:=λ_=>M_) (Nat.beq (knN k) (knN j)) (dL op (.d (.int k a)) (.d (.int j b))) (atZ op op k a b)=_;rw[aob]
 cases h:ph k j with
 |false=>rfl
 |true =>
  have:k=j:=by revert h;cases k<;>cases j<;>simp[ph]
  grind [aya]
def acb (op:UnOp):AV->M_
 |.d (.int k n)=>match op with
  |.neg=>some (.int k (wr k (0-n)))
  |.xor=>match Ge .xor k (if k.signed then -1 else k.max) n with
   |some x=>some (.d x)
   |none=>none
  |_=>none
 |.d (.bool b)=>match op with
  |.not=>some (.bool !b)
  |_=>none
 |_=>none
def DU (isMax:Bool):AV->AV->M_
 |.d (.int k a),.d (.int j b)=>match ph k j with
  |true=>match (if isMax then decide (a<b) else decide (b<a)) with
   |true=>some (.int k b)
   |false=>some (.int k a)
  |false=>none
 |_,_=>none
def BY (isMax:Bool):AV->D_->M_
 |v,[]=>some v
 |v,x::r=>match DU isMax v x with
  |some v=>BY isMax v r
  |none=>none
def aY:Nat:=4294967296
def eK (v:AV)(top:Nat):I_ :=
 match v with
 |.d (.int _ (.ofNat n))=>match Nat.ble n top with
  |true=>some n
  |false=>none
 |_=>none
def v7 (lo:M_)(h m:Nat):Option (Nat×Nat×Nat) :=
 match lo with
 |none=>some (0,h,m)
 |some v=>match eK v h with
  |some l=>some (l,h,m)
  |none=>none
def xb (len:Nat)(lo hi mx:M_):Option (Nat×Nat×Nat) :=
 let m:I_:=match mx with
  |none=>some len
  |some v=>eK v len
 match m with
 |none=>none
 |some m =>
  let h:I_:=match hi with
   |none=>match mx with
    |none=>some len
    |some _=>none
   |some v=>eK v m
  match h with
  |none=>none
  |some h=>v7 lo h m
def Gp (m:Nat):E_->Bool
 |[]=>true
 |e::_=>Nat.beq e.length m
def okSl (h:am)(m:Nat):AV->Bool
 |.sl id _ _=>match get h id with
  |some (.arr k _)=>Nat.beq k m
  |some (.cells _)=>Nat.beq m 1
  |_=>false
 |_=>true
def vt (m:Nat)(x:AV)(lo hi mx:M_):M_ :=
 match lenOf x with
 |none=>none
 |some len=>match xb len lo hi mx with
  |none=>none
  |some (l,h,_)=>match x with
   |.d (.lst xs)=>match Gp m xs with
    |true=>some (.d (.lst (sub xs l (h-l))))
    |false=>none
   |.nl=>some .nl
   |.own false k xs=>match Nat.beq k m with
    |true=>match Nat.beq h len with
     |true=>some (.own false k (sub xs l (h-l)))
     |false=>some (.d (.lst (sub xs l (h-l))))
    |false=>none
   |.sl id off _=>some (.sl id (off+l) (h-l))
   |_=>none
def F6:AV->Bool
 |.agg _=>true
 |v=>bl v
def eQ:D_->List (Nat×Nat×AV)->Option D_
 |cs,[]=>some cs
 |cs,(off,n,v)::r=>match Nat.beq v.cells.length n && F6 v && Nat.ble (off+n) cs.length with
  |true=>eQ (aH cs off v.cells) r
  |false=>none
def uB:AC_->D_->List (Nat×Nat×AV)
 |(a,b,_)::r,v::s=>(a,b,v)::uB r s
 |_,_=>[]
def qh:AC_->U_
 |[]=>[]
 |(_,_,x)::r=>x::qh r
def j8 (m:Nat):D_->AE_
 |[]=>some []
 |v::r=>match Nat.beq v.cells.length m with
  |true=>match mO v.cells with
   |some e=>match j8 m r with
    |some es=>some (e::es)
    |none=>none
   |none=>none
  |false=>none
def gB (n:Nat):E_->Bool
 |[]=>true
 |e::r=>match Nat.beq e.length n with
  |true=>gB n r
  |false=>false
def vA:E_->Option BC_
 |[]=>some []
 |[.int .u8 (.ofNat n)]::r=>match vA r with
  |some s=>some (n.toUInt8::s)
  |none=>none
 |_=>none
def Kj:BC_->Nat->Nat->Int
 |[],_,_=>-1
 |b::l,c,i=>match Nat.beq b.toNat c with
  |true=>.ofNat i
  |false=>Kj l c (i+1)
def indexByte (c:Int)(xs:E_)(i:Nat):Option Int :=
 match vA xs with
 |some s=>some (Kj s (c.toNat % 256) i)
 |none=>none
structure dQ where
 code:VC->St->J_
 call:FuncId->D_->HS->X_
def FC (v:AV):AV:=match jG v with
 |true=>nS v
 |false=>match lenOf v with
  |some n=>.gl n
  |none=>.junk
def H7:AV->AV
 |.agg cs=>.agg (cs.map FC)
 |v=>FC v
def Cg:AV->AV
 |.tup vs=>.tup (vs.map H7)
 |v=>H7 v
def fw (r:dQ)(f:FuncId)(args:D_)(h:am):M_ :=
 match viewArgs h args with
 |none=>none
 |some ds=>match r.call f ds ⟨[],0⟩ with
  |none=>none
  |some (v,hs)=>match iu hs.heap v with
   |none=>none
   |some v=>match args.any rE with
    |false=>some v
    |true=>match kb v with
     |true=>some v
     |false=>some (Cg v)
def xe:aZ->C_->D_->Option aZ
 |e,[],[]=>some e
 |e,i::is,v::vs=>xe (put e i v) is vs
 |_,_,_=>none
def vF (r:dQ)(l:Nat)(args:D_)(hs:HS):X_ :=
 match get hs.heap l with
 |some (.loop snap params assign body false none) =>
  match xe snap params args with
  |none=>none
  |some e=>match r.code assign ⟨e,hs⟩ with
   |some (.normal,st)=>match get st.hs.heap l with
    |some (.loop snap params assign body2 false none) =>
     match r.code body ⟨st.env,⟨put st.hs.heap l (.loop snap params assign body2 true none),st.hs.next⟩⟩ with
     |none=>none
     |some (o,st)=>match get st.hs.heap l with
      |some (.loop snap params assign body true none) =>
       match o with
       |.normal=>some (.bool true,⟨put st.hs.heap l (.loop snap params assign body false none),st.hs.next⟩)
       |o=>some (.bool false,⟨put st.hs.heap l (.loop snap params assign body false (some o)),st.hs.next⟩)
      |_=>none
    |_=>none
   |_=>none
 |_=>none
def cA (r:dQ)(f:AV)(args:D_)(hs:HS):X_ :=
 match f with
 |.fn g first caps=>r.call g (first++(args++caps)) hs
 |.yield l=>vF r l args hs
 |_=>none
def I3 (hs:HS)(o:Obj):Nat×HS:=(hs.next,⟨put hs.heap hs.next o,hs.next+1⟩)
def oP (hs:HS):AV->AV×HS
 |.own true m xs=>match Nat.beq m 0 with
  |true=>(.own true m xs,hs)
  |false=>(.sl hs.next 0 xs.length,⟨put hs.heap hs.next (.arr m xs),hs.next+1⟩)
 |v=>(v,hs)
def mW:AV->AV
 |.own _ m xs=>.own false m xs
 |v=>v
def Cq:AV->AV
 |.agg cs=>.agg (cs.map mW)
 |v=>mW v
def firm (v:AV):AV:=AV.casesOn (motive_1:=λ_=>AV) v .junk (λx=>.d x) .nl (λ_ m xs=>.own false m xs) (λn=>.gl n) (λcs=>.agg (cs.map mW)) (λvs=>.tup (vs.map Cq))
 .nilp (λa b=>.ptr a b) (λa b c=>.pel a b c) (λa b=>.pim a b) (λa b c=>.sl a b c) (λa b c=>.fn a b c) .nilf (λa=>.yield a)
def nA (hs:HS)(o:Nat):AV->AV×HS
 |.agg cs=>match cs[o]? with
  |some v=>(.agg (cs.set o (oP hs v).1),(oP hs v).2)
  |none=>(.agg cs,hs)
 |v=>oP hs v
def qT (hs:HS)(p:Nat×Nat):AV->AV×HS
 |.tup vs=>match vs[p.1]? with
  |some v=>(.tup (vs.set p.1 (nA hs p.2 v).1),(nA hs p.2 v).2)
  |none=>(.tup vs,hs)
 |v=>nA hs p.2 v
def eC:R_->AV->HS->AV×HS
 |[],v,hs=>(v,hs)
 |p::r,v,hs=>eC r (qT hs p v).1 (qT hs p v).2
def zJ (h:am):AV->AV×am
 |.sl id off len=>match get h id with
  |some (.arr m xs)=>match Nat.ble (off+len) xs.length with
   |true=>(.own false m (sub xs off len),del h id)
   |false=>(.sl id off len,h)
  |_=>(.sl id off len,h)
 |v=>(v,h)
def xd:C_->D_->am->D_×am
 |[],cs,h=>(cs,h)
 |o::r,cs,h=>match cs[o]? with
  |some v=>xd r (cs.set o (zJ h v).1) (zJ h v).2
  |none=>xd r cs h
def eM (m:Nat)(h:am)(a:AV)(ys:E_):AF_ :=
 match Nat.ble ys.length aY with
 |false=>none
 |true=>match a with
  |.nl=>some ((match ys with|[]=>.nl|ys=>.own true m ys),h)
  |.own _ k xs=>match Nat.beq k m && Nat.ble (xs.length+ys.length) aY with
   |true=>some (.own false m (xs++ys),h)
   |false=>none
  |.sl id off len=>match get h id with
   |some (.arr k xs)=>match Nat.beq k m && Nat.ble (off+len) xs.length && Nat.ble (len+ys.length) aY with
    |true=>some (.own true m (sub xs off len++ys),del h id)
    |false=>none
   |_=>none
  |_=>none
def r7:AV->I_
 |.d (.int _ (.ofNat n))=>some n
 |_=>none
def Ui (x:Rd)(st:St):L_ :=
 match rd st.env x with
 |some (v,e)=>some (v,⟨e,st.hs⟩)
 |none=>none
def lM (c:Rd)(a:Rd)(b:Rd)(st:St):L_ :=
 match rd st.env c with
 |some (.d (.bool t),e)=>match rd e (match t with|true=>a|false=>b) with
  |some (v,e)=>some (v,⟨e,st.hs⟩)
  |none=>none
 |_=>none
def Nx (zs:D_)(st:St):L_ :=
 some (.ptr st.hs.next 0,⟨st.env,(I3 st.hs (.cells zs)).2⟩)
def TK (x:Rd)(st:St):L_ :=
 match rd st.env x with
 |some (v,e)=>match v.cells.all bl with
  |true=>some (.ptr st.hs.next 0,⟨e,(I3 st.hs (.cells v.cells)).2⟩)
  |false=>none
 |none=>none
def Ex (zs:D_)(ps:AC_)(st:St):L_ :=
 match rdAll st.env (qh ps) with
 |some (vs,e)=>match eQ zs (uB ps vs) with
  |some cs=>some (.agg cs,⟨e,st.hs⟩)
  |none=>none
 |none=>none
def P5 (m:Nat)(ps:U_)(st:St):L_ :=
 match rdAll st.env ps with
 |some (vs,e)=>match j8 m vs with
  |some xs=>some (.own true m xs,⟨e,st.hs⟩)
  |none=>none
 |none=>none
def YT (m:Nat)(ps:U_)(st:St):L_ :=
 match rdAll st.env ps with
 |some (vs,e)=>match vs.all (λv=>Nat.beq v.cells.length m && v.cells.all bl) with
  |true=>some (.sl st.hs.next 0 vs.length,⟨e,(I3 st.hs (.cells (vs.flatMap AV.cells))).2⟩)
  |false=>none
 |none=>none
def Fa (n:I_)(take:Nat)(p:Rd)(st:St):L_ :=
 match rd st.env p with
 |some (v,e)=>match loadAt st.hs.heap n take v with
  |some (v,h)=>some (v,⟨e,⟨h,st.hs.next⟩⟩)
  |none=>none
 |none=>none
def anu (n:Nat)(p:Rd)(x:Rd)(st:St):L_ :=
 match rd st.env p with
 |some (p,e)=>match rd e x with
  |some (v,e)=>match storeAt st.hs.heap n p v with
   |some h=>some (.junk,⟨e,⟨h,st.hs.next⟩⟩)
   |none=>none
  |none=>none
 |none=>none
def Ia (x:Rd)(st:St):L_ :=
 match rd st.env x with
 |some (v,e)=>match v with
  |.ptr ..|.pel ..|.pim ..|.fn ..|.yield ..=>some (v,⟨e,st.hs⟩)
  |_=>none
 |none=>none
def NX (op:BinOp)(x:Rd)(y:Rd)(st:St):L_ :=
 match rd st.env x with
 |some (a,e)=>match rd e y with
  |some (b,e)=>match aBD op a b with
   |some v=>some (v,⟨e,st.hs⟩)
   |none=>none
  |none=>none
 |none=>none
def MD (neg:Bool)(x y:Rd)(st:St):L_ :=
 match rd st.env x with
 |some (a,e)=>match rd e y with
  |some (b,e)=>match a,b with
   |.d (.bool a),.d (.bool b)=>some (.bool (match neg with|true=>!(a == b)|false=>a == b),⟨e,st.hs⟩)
   |_,_=>none
  |none=>none
 |none=>none
def Nj (neg:Bool)(ks:V_)(x y:Rd)(st:St):L_ :=
 match rd st.env x with
 |some (a,e)=>match rd e y with
  |some (b,e)=>match a,b with
   |.agg a,.agg b=>match bE ks a b with
    |some t=>some (.bool (match neg with|true=>!t|false=>t),⟨e,st.hs⟩)
    |none=>none
   |_,_=>none
  |none=>none
 |none=>none
def abY (op:UnOp)(x:Rd)(st:St):L_ :=
 match rd st.env x with
 |some (a,e)=>match acb op a with
  |some v=>some (v,⟨e,st.hs⟩)
  |none=>none
 |none=>none
def Iu (k:IntKind)(x:Rd)(st:St):L_ :=
 match rd st.env x with
 |some (.d (.int _ n),e)=>some (.int k (wr k n),⟨e,st.hs⟩)
 |_=>none
def Ni (x:Rd)(st:St):L_ :=
 match rd st.env x with
 |some (v,e)=>match elems st.hs.heap v with
  |some xs=>match vA xs with
   |some s=>some (.d (.str s),⟨e,st.hs⟩)
   |none=>none
  |none=>none
 |none=>none
def Ir (f:FuncId)(first:U_)(caps:U_)(st:St):L_ :=
 match rdAll st.env first with
 |some (a,e)=>match rdAll e caps with
  |some (c,e)=>some (.fn f (shareAll a) (shareAll c),⟨e,st.hs⟩)
  |none=>none
 |none=>none
def mM (z:W_)(len:Rd)(cap:Rd)(st:St):L_ :=
 match rd st.env len with
 |some (n,e)=>match rd e cap with
  |some (c,e)=>match eK c aY with
   |some c=>match eK n c with
    |some n=>some (.own true z.length (List.replicate n z),⟨e,st.hs⟩)
    |none=>none
   |none=>none
  |none=>none
 |none=>none
def Nk (m:Nat)(x:Rd)(lo:AB_)(hi:AB_)(mx:AB_)(st:St):L_ :=
 match rd st.env x with
 |some (v,e)=>match rdOpt e lo with
  |some (l,e)=>match rdOpt e hi with
   |some (h,e)=>match rdOpt e mx with
    |some (k,e)=>match okSl st.hs.heap m v with
     |true=>match vt m v l h k with
      |some v=>some (v,⟨e,st.hs⟩)
      |none=>none
     |false=>none
    |none=>none
   |none=>none
  |none=>none
 |none=>none
def T5 (hp:am)(n id off:Nat)(lo hi mx:M_):M_ :=
 match get hp id with
 |some (.cells cs)=>match Nat.ble (off+n) cs.length with
  |true=>match xb n lo hi mx with
   |some (l,h,_)=>some (.sl id (off+l) (h-l))
   |none=>none
  |false=>none
 |_=>none
def UB (n:Nat)(x:Rd)(lo:AB_)(hi:AB_)(mx:AB_)(st:St):L_ :=
 match rd st.env x with
 |some (.ptr id off,e)=>match rdOpt e lo with
  |some (l,e)=>match rdOpt e hi with
   |some (h,e)=>match rdOpt e mx with
    |some (k,e)=>match T5 st.hs.heap n id off l h k with
     |some v=>some (v,⟨e,st.hs⟩)
     |none=>none
    |none=>none
   |none=>none
  |none=>none
 |_=>none
def abz (off:Nat)(p:Rd)(st:St):L_ :=
 match rd st.env p with
 |some (p,e)=>match iQ off p with
  |some v=>some (v,⟨e,st.hs⟩)
  |none=>none
 |none=>none
def FV (n:I_)(cs:D_)(off:Nat):M_ :=
 match n with
 |none=>cs[off]?
 |some n=>match Nat.ble (off+n) cs.length with
  |true=>some (.agg (sub cs off n))
  |false=>none
def aiQ (agg:Bool)(n:Nat):I_ :=
 match agg with
 |true=>some n
 |false=>none
def PW (off:Nat)(n:I_)(x:Rd)(st:St):L_ :=
 match rd st.env x with
 |some (.agg cs,e)=>match FV n cs off with
  |some v=>some (v,⟨e,st.hs⟩)
  |none=>none
 |_=>none
def agK (n:Nat)(x:Rd)(i:Rd)(st:St):L_ :=
 match rd st.env x with
 |some (v,e)=>match rd e i with
  |some (i,e)=>match r7 i with
   |some i=>match v with
    |.sl id off len=>match Nat.ble len i with
     |true=>none
     |false=>match get st.hs.heap id with
      |some (.arr m _)=>match Nat.beq m n with
       |true=>some (.pel id (off+i) 0,⟨e,st.hs⟩)
       |false=>none
      |some (.cells _)=>match Nat.beq n 1 with
       |true=>some (.ptr id (off+i),⟨e,st.hs⟩)
       |false=>none
      |_=>none
    |v=>match elems st.hs.heap v with
     |some xs=>match xs[i]? with
      |some x=>match Nat.beq x.length n with
       |true=>some (.pim x 0,⟨e,st.hs⟩)
       |false=>none
      |none=>none
     |none=>none
   |none=>none
  |none=>none
 |none=>none
def M7 (len:Nat)(n:Nat)(p:Rd)(i:Rd)(st:St):L_ :=
 match rd st.env p with
 |some (p,e)=>match rd e i with
  |some (i,e)=>match r7 i with
   |some i=>match Nat.ble len i with
    |true=>none
    |false=>match iQ (i*n) p with
     |some v=>some (v,⟨e,st.hs⟩)
     |none=>none
   |none=>none
  |none=>none
 |none=>none
def WC (len:Nat)(n:Nat)(agg:Bool)(x:Rd)(i:Rd)(st:St):L_ :=
 match rd st.env x with
 |some (.agg cs,e)=>match rd e i with
  |some (i,e)=>match r7 i with
   |some i=>match Nat.ble len i with
    |true=>none
    |false=>match FV (aiQ agg n) cs (i*n) with
     |some v=>some (v,⟨e,st.hs⟩)
     |none=>none
   |none=>none
  |none=>none
 |_=>none
def Pa (x:Rd)(i:Rd)(st:St):L_ :=
 match rd st.env x with
 |some (.d (.str s),e)=>match rd e i with
  |some (i,e)=>match r7 i with
   |some i=>match s[i]? with
    |some b=>some (.int .u8 (.ofNat b.toNat),⟨e,st.hs⟩)
    |none=>none
   |none=>none
  |none=>none
 |_=>none
def atI (h:am)(v c:AV):M_ :=
 match c with
 |.d (.int .u8 n)=>match elems h v with
  |some xs=>match indexByte n xs 0 with
   |some r=>some (.int .i64 r)
   |none=>none
  |none=>none
 |_=>none
def agT (x:Rd)(c:Rd)(st:St):L_ :=
 match rd st.env x with
 |some (v,e)=>match rd e c with
  |some (c,e)=>match atI st.hs.heap v c with
   |some r=>some (r,⟨e,st.hs⟩)
   |none=>none
  |none=>none
 |none=>none
def CP (j:Nat)(mv:Bool)(i:Nat)(st:St):L_ :=
 match get st.env j with
 |some (.tup vs)=>match vs[i]? with
  |some v=>match mv with
   |true=>some (v,⟨put st.env j (.tup (vs.set i .junk)),st.hs⟩)
   |false=>some (share v,st)
  |none=>none
 |_=>none
def Uh (x:Rd)(st:St):L_ :=
 match rd st.env x with
 |some (v,e)=>match lenOf v with
  |some n=>some (.int .i64 (.ofNat n),⟨e,st.hs⟩)
  |none=>none
 |none=>none
def Pn (x:Rd)(st:St):L_ :=
 match rd st.env x with
 |some (.nl,e)=>some (.int .i64 (.ofNat 0),⟨e,st.hs⟩)
 |_=>none
def H6 (m:Nat)(x:Rd)(y:Rd)(st:St):L_ :=
 match rd st.env x with
 |some (a,e)=>match rd e y with
  |some (b,e)=>match elems st.hs.heap b with
   |some ys=>match gB m ys with
    |true=>match eM m st.hs.heap a ys with
     |some (v,h)=>some (v,⟨e,⟨h,st.hs.next⟩⟩)
     |none=>none
    |false=>none
   |none=>none
  |none=>none
 |none=>none
def ahg (z:W_)(x:Rd)(n:Rd)(st:St):L_ :=
 match rd st.env x with
 |some (a,e)=>match rd e n with
  |some (n,e)=>match eK n aY with
   |some n=>match eM z.length st.hs.heap a (List.replicate n z) with
    |some (v,h)=>some (v,⟨e,⟨h,st.hs.next⟩⟩)
    |none=>none
   |none=>none
  |none=>none
 |none=>none
def Ym (m:Nat)(x:Rd)(y:Rd)(st:St):L_ :=
 match rd st.env x with
 |some (a,e)=>match rd e y with
  |some (b,e)=>match elems st.hs.heap b with
   |some ys=>match a with
    |.sl id off len=>match get st.hs.heap id with
     |some (.arr k xs)=>match gB m ys && Nat.beq k m && Nat.ble (off+len) xs.length with
      |true=>some (.int .i64 (.ofNat (min len ys.length)),⟨e,⟨put st.hs.heap id (.arr k (aH xs off (ys.take len))),st.hs.next⟩⟩)
      |false=>none
     |_=>none
    |_=>match lenOf a with
     |some 0=>some (.int .i64 (.ofNat 0),⟨e,st.hs⟩)
     |_=>none
   |none=>none
  |none=>none
 |none=>none
def T3 (z:W_)(x:Rd)(st:St):L_ :=
 match rd st.env x with
 |some (.sl id off len,e)=>match get st.hs.heap id with
  |some (.arr k xs)=>match Nat.beq k z.length && Nat.ble (off+len) xs.length with
   |true=>some (.tup [],⟨e,⟨put st.hs.heap id (.arr k (aH xs off (List.replicate len z))),st.hs.next⟩⟩)
   |false=>none
  |_=>none
 |_=>none
def AS (isMax:Bool)(xs:U_)(st:St):L_ :=
 match rdAll st.env xs with
 |some (.d (.int k n)::vs,e)=>match BY isMax (.d (.int k n)) vs with
  |some v=>some (v,⟨e,st.hs⟩)
  |none=>none
 |_=>none
def F3 (r:dQ)(f:FuncId)(args:U_)(st:St):L_ :=
 match rdAll st.env args with
 |some (vs,e)=>match fw r f vs st.hs.heap with
  |some v=>some (v,⟨e,st.hs⟩)
  |none=>none
 |none=>none
def D0 (r:dQ)(f:FuncId)(args:U_)(st:St):L_ :=
 match rdAll st.env args with
 |some (vs,e)=>match r.call f vs st.hs with
  |some (v,hs)=>some (v,⟨e,hs⟩)
  |none=>none
 |none=>none
def EH (r:dQ)(f:Rd)(args:U_)(st:St):L_ :=
 match rd st.env f with
 |some (fv,e)=>match rdAll e args with
  |some (vs,e)=>match cA r fv vs st.hs with
   |some (v,hs)=>some (v,⟨e,hs⟩)
   |none=>none
  |none=>none
 |none=>none
def anS (st:St):L_ :=
 none
def aib (is:C_)(st:St):L_ :=
 some (.tup [],⟨is.foldl del st.env,st.hs⟩)
def delAll:am->C_->am
 |h,[]=>h
 |h,i::r=>delAll (del h i) r
def Iw:D_->C_
 |[]=>[]
 |.ptr id _::r=>id::Iw r
 |_::r=>Iw r
def Yl (i:Nat)(st:St):L_ :=
 match get st.env i with
 |some (.ptr id _)=>some (.tup [],⟨del st.env i,⟨del st.hs.heap id,st.hs.next⟩⟩)
 |some (.fn _ _ caps)=>some (.tup [],⟨del st.env i,⟨delAll st.hs.heap (Iw caps),st.hs.next⟩⟩)
 |_=>some (.tup [],st)
def auU (i:Nat)(m:Nat)(st:St):L_ :=
 match get st.env i with
 |some .nl=>some (.tup [],⟨put st.env i (.own false m []),st.hs⟩)
 |_=>some (.tup [],st)
def Yz (i:Nat)(st:St):L_ :=
 match get st.env i with
 |some v=>some (.tup [],⟨put st.env i (zJ st.hs.heap v).1,⟨(zJ st.hs.heap v).2,st.hs.next⟩⟩)
 |none=>none
def agJ (i:Nat)(offs:C_)(st:St):L_ :=
 match get st.env i with
 |some (.agg cs)=>some (.tup [],⟨put st.env i (.agg (xd offs cs st.hs.heap).1),⟨(xd offs cs st.hs.heap).2,st.hs.next⟩⟩)
 |_=>none
def dn (o:pk):dQ->St->L_ :=
 pk.casesOn (motive:=λ_=>dQ->St->L_) o
  (λx=>λ_ st=>Ui x st)
  (λc a b=>λ_ st=>lM c a b st)
  (λzs=>λ_ st=>Nx zs st)
  (λx=>λ_ st=>TK x st)
  (λzs ps=>λ_ st=>Ex zs ps st)
  (λm ps=>λ_ st=>P5 m ps st)
  (λm ps=>λ_ st=>YT m ps st)
  (λn take p=>λ_ st=>Fa n take p st)
  (λn p x=>λ_ st=>anu n p x st)
  (λx=>λ_ st=>Ia x st)
  (λop x y=>λ_ st=>NX op x y st)
  (λneg x y=>λ_ st=>MD neg x y st)
  (λneg ks x y=>λ_ st=>Nj neg ks x y st)
  (λop x=>λ_ st=>abY op x st)
  (λk x=>λ_ st=>Iu k x st)
  (λx=>λ_ st=>Ni x st)
  (λf first caps=>λ_ st=>Ir f first caps st)
  (λz len cap=>λ_ st=>mM z len cap st)
  (λm x lo hi mx=>λ_ st=>Nk m x lo hi mx st)
  (λn x lo hi mx=>λ_ st=>UB n x lo hi mx st)
  (λoff p=>λ_ st=>abz off p st)
  (λoff n x=>λ_ st=>PW off n x st)
  (λn x i=>λ_ st=>agK n x i st)
  (λlen n p i=>λ_ st=>M7 len n p i st)
  (λlen n agg x i=>λ_ st=>WC len n agg x i st)
  (λx i=>λ_ st=>Pa x i st)
  (λx c=>λ_ st=>agT x c st)
  (λj mv i=>λ_ st=>CP j mv i st)
  (λx=>λ_ st=>Uh x st)
  (λx=>λ_ st=>Pn x st)
  (λm x y=>λ_ st=>H6 m x y st)
  (λz x n=>λ_ st=>ahg z x n st)
  (λm x y=>λ_ st=>Ym m x y st)
  (λz x=>λ_ st=>T3 z x st)
  (λisMax xs=>λ_ st=>AS isMax xs st)
  (λf args=>λr st=>F3 r f args st)
  (λf args=>λr st=>D0 r f args st)
  (λf args=>λr st=>EH r f args st)
  (λ_ st=>anS st)
  (λis=>λ_ st=>aib is st)
  (λi=>λ_ st=>Yl i st)
  (λi m=>λ_ st=>auU i m st)
  (λi=>λ_ st=>Yz i st)
  (λi offs=>λ_ st=>agJ i offs st)
def cT (dst:I_)(v:AV)(st:St):St :=
 match dst with
 |some d=>⟨put st.env d v,st.hs⟩
 |none=>st
def gL (r:dQ)(i:VI)(st:St):Y_ :=
 match dn i.op r st with
 |some (v,st)=>match i.th with
  |[]=>some (cT i.dst (firm v) st)
  |th=>some (cT i.dst (firm (eC th v st.hs).1) ⟨st.env,(eC th v st.hs).2⟩)
 |none=>none
def cZ (r:dQ)(i:VI)(st:St):Y_ :=
 match i.guard with
 |none=>gL r i st
 |some (s,want)=>match get st.env s with
  |some (.d (.bool b))=>match b == want with
   |true=>gL r i st
   |false=>some (cT i.dst (.tup []) st)
  |some (.tup [])=>some (cT i.dst (.tup []) st)
  |_=>none
def lx (r:dQ):S_->St->Y_
 |[],st=>some st
 |i::l,st=>match cZ r i st with
  |some st=>lx r l st
  |none=>none
def wU (r:dQ)(vs:S_):C_->St->Y_
 |[],st=>some st
 |i::l,st=>match vs[i]? with
  |none=>none
  |some v=>match cZ r v st with
   |none=>none
   |some st=>wU r vs l st
def fo (k:Nat):C_->Bool
 |[]=>false
 |a::r=>match Nat.beq a k with
  |true=>true
  |false=>fo k r
mutual
def cO:AV->C_
 |.ptr id _=>[id]
 |.pel id _ _=>[id]
 |.sl id _ _=>[id]
 |.fn _ first caps=>idsAll first++idsAll caps
 |.agg cs=>idsAll cs
 |.tup vs=>idsAll vs
 |_=>[]
def idsAll:D_->C_
 |[]=>[]
 |v::r=>cO v++idsAll r
end
def UC (e:aZ):C_->C_
 |[]=>[]
 |s::r=>match get e s with
  |some v=>cO v++UC e r
  |none=>UC e r
def ed:C_->am->am
 |[],_=>[]
 |i::r,h=>match get h i with
  |some o=>put (ed r h) i o
  |none=>ed r h
mutual
def Qr:D->D->Bool
 |.int k n,.int j m=>ph k j && decide (n=m)
 |.bool a,.bool b=>a == b
 |.str s,.str t=>s == t
 |.lst xs,.lst ys=>eqDss xs ys
 |_,_=>false
def Tm:W_->W_->Bool
 |[],[]=>true
 |a::r,b::s=>Qr a b && Tm r s
 |_,_=>false
def eqDss:E_->E_->Bool
 |[],[]=>true
 |a::r,b::s=>Tm a b && eqDss r s
 |_,_=>false
end
mutual
def jt:AV->AV->Bool
 |.junk,.junk=>true
 |.d x,.d y=>Qr x y
 |.nl,.nl=>true
 |.own p m xs,.own q n ys=>p == q && Nat.beq m n && eqDss xs ys
 |.gl n,.gl m=>Nat.beq n m
 |.agg a,.agg b=>eqAVs a b
 |.tup a,.tup b=>eqAVs a b
 |.nilp,.nilp=>true
 |.ptr a b,.ptr c d=>Nat.beq a c && Nat.beq b d
 |.pel a b c,.pel d e f=>Nat.beq a d && Nat.beq b e && Nat.beq c f
 |.pim a b,.pim c d=>Tm a c && Nat.beq b d
 |.sl a b c,.sl d e f=>Nat.beq a d && Nat.beq b e && Nat.beq c f
 |.fn f a c,.fn g b d=>Nat.beq f g && eqAVs a b && eqAVs c d
 |.nilf,.nilf=>true
 |.yield a,.yield b=>Nat.beq a b
 |_,_=>false
def eqAVs:D_->D_->Bool
 |[],[]=>true
 |a::r,b::s=>jt a b && eqAVs r s
 |_,_=>false
end
def eqO:Obj->Obj->Bool
 |.cells a,.cells b=>eqAVs a b
 |.arr m xs,.arr n ys=>Nat.beq m n && eqDss xs ys
 |_,_=>false
def dR:C_->am->am->Bool
 |[],_,_=>true
 |i::r,h,h'=>(match get h i with
  |some o=>(match get h' i with|some o'=>eqO o o'|none=>false)
  |none=>true) && dR r h h'
inductive NK where
 |call|take|read
def ua:pk->NK
 |.calli ..|.callv ..|.st ..=>.call
 |.ld none 2 _=>.take
 |_=>.read
def Lg:AV->Bool
 |.own false _ _=>true
 |.nl=>true
 |_=>false
def aC5:Rd->C_
 |.s i=>[i]
 |.m i=>[i]
 |.c _=>[]
def RT:U_->C_
 |[]=>[]
 |x::r=>aC5 x++RT r
def Ua:pk->U_
 |.ld _ _ p=>[p]
 |.ia _ x _=>[x]
 |.slice _ x _ _ _=>[x]
 |.toStr x=>[x]
 |.call _ args=>args
 |_=>[]
def oN (v:VI)(e:aZ):C_:=UC e (RT (Ua v.op))
def xf (r:dQ)(F:C_)(v:VI)(st:St):Y_ :=
 match ua v.op with
 |.call=>match cZ r v st with
  |some st1=>match dR F st.hs.heap st1.hs.heap with
   |true=>some st1
   |false=>none
  |none=>none
 |.take=>match cZ r v st with
  |some st1=>match v.dst with
   |some d=>match get st1.env d with
    |some a=>match Lg a with
     |true=>some st1
     |false=>none
    |none=>none
   |none=>none
  |none=>none
 |.read=>match cZ r v ⟨st.env,⟨ed (oN v st.env) st.hs.heap,st.hs.next⟩⟩ with
  |some st1=>some ⟨st1.env,st.hs⟩
  |none=>none
def cu (r:dQ)(a:Bool)(F:C_)(v:VI)(st:St):Y_ :=
 match a with
 |false=>cZ r v st
 |true=>xf r F v st
def ku (a:Bool)(v:VI)(e:aZ)(F:C_):C_ :=
 match a with
 |false=>F
 |true=>match ua v.op with
  |.read=>oN v e++F
  |_=>F
def f9 (r:dQ)(nr:C_)(vs:S_):C_->C_->St->Y_
 |[],_,st=>some st
 |i::l,F,st=>match vs[i]? with
  |none=>none
  |some v=>match cu r (fo i nr) F v st with
   |none=>none
   |some st1=>f9 r nr vs l (ku (fo i nr) v st.env F) st1
def wb:VC->Nat->Option VC
 |.seq a b,l=>match wb a l with
  |some c=>some (.seq c b)
  |none=>wb b l
 |.label k,l=>match Nat.beq k l with
  |true=>some .skip
  |false=>none
 |_,_=>none
def Tz (r:dQ)(ops:S_)(st:St):J_ :=
 match lx r ops st with
 |some st=>some (.normal,st)
 |none=>none
def zX:Rd->Bool
 |.m _=>false
 |_=>true
def jo (v:VI):I_ :=
 match v.op,v.guard,v.th with
 |.alloc _,none,[]=>v.dst
 |.mkslice _ l c,none,_=>match zX l && zX c with
  |true=>v.dst
  |false=>none
 |_,_,_=>none
def tE (e:aZ):S_->Bool
 |[]=>true
 |v::r=>(match jo v with
  |some d=>(match get e d with
   |none=>true
   |some _=>false)
  |none=>true) && tE e r
def Ue:Nat->C_->S_->Bool
 |_,[],[]=>true
 |i,p::r,_::vs=>match Nat.beq p i with
  |true=>Ue (i+1) r vs
  |false=>false
 |_,_,_=>false
def atY (r:dQ)(nr:C_)(ops:S_)(perm:C_)(st:St):Y_ :=
 match nr with
 |[]=>match Ue 0 perm ops with
  |true=>lx r ops st
  |false=>f9 r [] ops perm [] st
 |a::n=>f9 r (a::n) ops perm [] st
def ah6 {r:dQ}{vs:S_}:∀(perm:C_) (l:S_) (i:Nat) (F:C_) (st:St),vs.drop i=l->Ue i perm l=true->f9 r [] vs perm F st=lx r l st
 |[],[],_,_,_,_,_=>rfl
 |[],_::_,_,_,_,_,h=>by simp[Ue]at h
 |_::_,[],_,_,_,_,h=>by simp[Ue]at h
 |p::perm,v::l,i,F,st,hd,h=>by
  simp only[Ue]at h;split at h
  .rename_i hp;rw[aD]at hp;subst hp;have hv:vs[p]?=some v:=by
    have:=aP (λl=>l[0]?) hd
    grind
   have hd':vs.drop (p+1)=l:=by
    have:=aP (λl=>l.drop 1) hd
    grind [List.drop_drop]
   simp only[f9,hv,cu,fo,lx]
   cases cZ r v st with
   |none=>rfl
   |some st1=>exact ah6 perm l (p+1) _ st1 hd' h
  simp_all
def NJ {r:dQ}{nr:C_}{ops:S_}{perm:C_}{st:St}:atY r nr ops perm st=f9 r nr ops perm [] st:=by
 unfold atY;split
 .split
  .rename_i h;exact(ah6 perm ops 0 [] st rfl h).symm
  .rfl
 .rfl
def NA (r:dQ)(perm:C_)(nr:C_)(ops:S_)(st:St):J_ :=
 match tE st.env ops with
 |true=>(match atY r nr ops perm st with
  |some st=>some (.normal,st)
  |none=>none)
 |false=>none
def N6 (r:dQ)(a:VC)(b:VC)(st:St):J_ :=
 match r.code a st with
 |some (.normal,st)=>r.code b st
 |x=>x
def Nr (r:dQ)(c:Rd)(a:VC)(b:VC)(st:St):J_ :=
 match rd st.env c with
 |some (.d (.bool true),e)=>r.code a ⟨e,st.hs⟩
 |some (.d (.bool false),e)=>r.code b ⟨e,st.hs⟩
 |_=>none
def NP (r:dQ)(id:Nat)(a:VC)(st:St):J_ :=
 match r.code a st with
 |some (.exit j,st)=>match Nat.beq j id with
  |true=>some (.normal,st)
  |false=>some (.exit j,st)
 |x=>x
def Sz (r:dQ)(a:VC)(st:St):J_ :=
 match r.code a st with
 |some (.normal,st)=>r.code (.loop a) st
 |x=>x
def EX (r:dQ)(f:Rd)(params:C_)(assign:VC)(body:VC)(st:St):J_ :=
 match rd st.env f with
 |some (.fn g first caps,e) =>
  match r.call g (first++([.yield st.hs.next]++caps)) ⟨put st.hs.heap st.hs.next (.loop (e.map λkv=>(kv.1,share kv.2)) params assign body false none),st.hs.next+1⟩ with
  |some (_,hs)=>match get hs.heap st.hs.next with
   |some (.loop _ _ _ _ false pend)=>match pend with
    |none=>some (.normal,⟨e,⟨del hs.heap st.hs.next,hs.next⟩⟩)
    |some o=>some (o,⟨e,⟨del hs.heap st.hs.next,hs.next⟩⟩)
   |_=>none
  |none=>none
 |_=>none
def ayU (r:dQ)(a:VC)(st:St):J_ :=
 r.code (.inScope a a) st
def K5 (r:dQ)(a:VC)(cur:VC)(st:St):J_ :=
 match r.code cur st with
 |some (.goto l,st)=>match wb a l with
  |some rest=>r.code (.inScope a rest) st
  |none=>some (.goto l,st)
 |x=>x
def Nf (m:Nat)(st:St):J_ :=
 match get st.env 0 with
 |some v=>match elems st.hs.heap v with
  |some xs=>match gB m xs && Nat.ble xs.length aY with
   |true=>some (.ret,⟨[(2,.own true m xs)],st.hs⟩)
   |false=>none
  |none=>none
 |none=>none
def Tf (r:dQ)(i d f:Nat)(a:VC)(st:St):J_ :=
 match get st.env i with
 |some (.ptr id off)=>match r.code a ⟨put st.env d (.ptr id off),st.hs⟩ with
  |some (.normal,st1)=>match r.call f [.ptr id off] st1.hs with
   |some (_,hs)=>some (.ret,⟨st1.env,hs⟩)
   |none=>none
  |some (.ret,st1)=>match r.call f [.ptr id off] st1.hs with
   |some (_,hs)=>some (.ret,⟨st1.env,hs⟩)
   |none=>none
  |_=>none
 |_=>none
def df (c:VC):dQ->St->J_ :=
 VC.casesOn (motive:=λ_=>dQ->St->J_) c
  (λ_ st=>some (.normal,st))
  (λ_ ops=>λr st=>Tz r ops st)
  (λperm _ nr ops=>λr st=>NA r perm nr ops st)
  (λa b=>λr st=>N6 r a b st)
  (λc a b=>λr st=>Nr r c a b st)
  (λid a=>λr st=>NP r id a st)
  (λa=>λr st=>Sz r a st)
  (λf params assign body=>λr st=>EX r f params assign body st)
  (λid=>λ_ st=>some (.exit id,st))
  (λa=>λr st=>ayU r a st)
  (λa cur=>λr st=>K5 r a cur st)
  (λ_=>λ_ st=>some (.normal,st))
  (λl=>λ_ st=>some (.goto l,st))
  (λ_ st=>some (.ret,st))
  (λm=>λ_ st=>Nf m st)
  (λi d f a=>λr st=>Tf r i d f a st)
def gg (st:St):AH_->Option (D_×St)
 |[]=>some ([],st)
 |.tmp t::r=>match get st.env t with
  |some v=>match gg ⟨del st.env t,st.hs⟩ r with
   |some (vs,st)=>some (v::vs,st)
   |none=>none
  |none=>none
 |.cell t n::r=>match get st.env t with
  |some (.ptr id 0)=>match loadAt st.hs.heap n 1 (.ptr id 0) with
   |some (v,h)=>match gg ⟨del st.env t,⟨del h id,st.hs.next⟩⟩ r with
    |some (vs,st)=>some (v::vs,st)
    |none=>none
   |none=>none
  |_=>none
def kM:Nat->D_->aZ
 |_,[]=>[]
 |i,v::r=>put (kM (i+1) r) i v
def Hm (fn:al)(st:St):X_ :=
 match gg st fn.results with
 |some ([v],st)=>some (v,st.hs)
 |some (vs,st)=>some (.tup vs,st.hs)
 |none=>none
def wD (P:Nat->Z_)(r:dQ)(f:FuncId)(args:D_)(hs:HS):X_ :=
 match P f with
 |none=>none
 |some fn=>match Nat.beq args.length fn.nparams with
  |false=>none
  |true=>match df fn.body r ⟨kM 0 args,hs⟩ with
   |some (.normal,st)=>Hm fn st
   |some (.ret,st)=>Hm fn st
   |_=>none
def run (P:Nat->Z_):Nat->dQ
 |0=>⟨λ_ _=>none,λ_ _ _=>none⟩
 |n+1=>⟨λc st=>df c (run P n) st,λf a h=>wD P (run P n) f a h⟩
inductive T where
 |leaf
 |node (k:Nat) (v:al) (a b:T)
def T.look:T->Nat->Z_
 |.leaf,_=>none
 |.node k v a b,i=>match Nat.beq k i with
  |true=>some v
  |false=>match Nat.ble i k with
   |true=>a.look i
   |false=>b.look i
abbrev af:=@Bool.and_eq_true
abbrev ay:=@List.mem_cons
abbrev dc:=@Bool.or_eq_true
abbrev ao:=@Bool.false_eq_true
abbrev cS:=@Bool.not_eq_true'
def okD:D->Value->Bool
 |.int k n,.int j m=>ph k j && decide (n=m)
 |.bool a,.bool b=>a == b
 |.str s,.string t=>s == t.data.toList
 |.lst [],.slice none 0 0=>true
 |_,_=>false
def RI:W_->N_->Bool
 |[],[]=>true
 |d::r,v::s=>okD d v && RI r s
 |_,_=>false
def N2:AV->Value->Bool
 |.d (.lst _),_=>false
 |.d x,v=>okD x v
 |.nl,.slice none 0 0=>true
 |.nilp,.pointer none=>true
 |.nilf,.nilFunc=>true
 |_,_=>false
def pi:D_->N_->Bool
 |[],[]=>true
 |d::r,v::s=>N2 d v && pi r s
 |_,_=>false
def abJ:AV->Value->Bool
 |.agg cs,.agg vs=>pi cs vs.toList
 |v,x=>N2 v x
def cR:Rd->Operand->Bool
 |.s i,.tmp t=>Nat.beq i t
 |.m i,.tmp t=>Nat.beq i t
 |.c v,.const x=>abJ v x
 |.c (.fn f [] []),.func g=>Nat.beq f g
 |_,_=>false
def eU:U_->List Operand->Bool
 |[],[]=>true
 |r::l,o::s=>cR r o && eU l s
 |_,_=>false
def Co:AB_->Option Operand->Bool
 |none,none=>true
 |some r,some o=>cR r o
 |_,_=>false
section
variable (P:Program)
def xx (t:TypeId)(n:Nat):Bool:=match P.info? t with
 |some i=>Nat.beq i.size n
 |none=>false
def Du (t:TypeId):Bool:=match P.underlying t with
 |some (.struct _)=>true
 |some (.array _ _)=>true
 |_=>false
def Kr (t:TypeId):Bool:=match P.underlying t with
 |some (.struct _)=>false
 |some (.array _ _)=>false
 |some _=>true
 |none=>false
def qN (t:TypeId):I_->Bool
 |none=>Kr P t
 |some n=>Du P t && xx P t n
def jm (t:TypeId)(m:Nat):Bool:=match P.underlying t with
 |some (.slice e)=>xx P e m && Nat.blt 0 m && Nat.ble (P.bytesOf e) 4096
 |_=>false
def asj (t:TypeId)(zs:W_):Bool:=match P.info? t with
 |some i=>match i.zero with
  |some z=>RI zs z.cells.toList
  |none=>false
 |none=>false
def BX (t:TypeId)(zs:W_):Bool:=match P.underlying t with
 |some (.slice e)=>asj P e zs
 |_=>false
def nC (t:TypeId)(m:Nat):Bool:=match P.underlying t with
 |some (.slice e)=>match P.info? e with
  |some i=>match i.zero with
   |some z=>Nat.beq z.cells.size m
   |none=>false
  |none=>false
 |_=>false
def Pc (t:TypeId):Bool:=match P.underlying t with
 |some .string=>true
 |_=>false
def KS (t:TypeId):Bool:=match P.underlying t with
 |some (.int _)=>true
 |_=>false
def MV (t:TypeId):Bool:=match P.underlying t with
 |some .bool=>true
 |_=>false
def al7 (t:TypeId):Bool:=match P.underlying t with
 |some (.slice e)=>(match P.underlying e with
  |some (.int .u8)=>true
  |_=>false)
 |_=>false
def asx (f:FuncId):Bool:=match P.funcs[f]? with
 |some fn=>fn.name == "internal/bytealg.IndexByte" && fn.origin == "" && fn.body.isNone
 |none=>false
def Jl:V_->List Field->Nat->Bool
 |[],[],_=>true
 |k::ks,f::r,n=>Nat.beq f.offset n && (f.name != "_") && (match k with|true=>KS P f.type|false=>MV P f.type) && Kr P f.type && Jl ks r (n+1)
 |_,_,_=>false
def ME:V_->List Field->Nat->Bool
 |[],[],_=>true
 |_::_,[],_=>false
 |ks,f::r,n=>Nat.beq f.offset n && (f.name != "_") && (match P.underlying f.type with
  |some (.struct fs)=>Nat.ble fs.size ks.length && Jl P (ks.take fs.size) fs.toList 0 && !(P.stoodInHeld f.type) && xx P f.type fs.size && ME (ks.drop fs.size) r (n+fs.size)
  |_=>match ks with
   |k::ks=>(match k with|true=>KS P f.type|false=>MV P f.type) && Kr P f.type && ME ks r (n+1)
   |[]=>false)
def Ar (t:TypeId)(ks:V_):Bool:=match P.underlying t with
 |some (.struct fs)=>ME P ks fs.toList 0 && !(P.stoodInHeld t) && !(P.eqGuardType P.depth t)
 |_=>false
def aqM (t:TypeId)(k:IntKind):Bool:=match P.underlying t with
 |some (.int j)=>ph j k
 |_=>false
def Uz (t:TypeId)(len n:Nat):Bool:=match P.underlying t with
 |some (.array l e)=>Nat.beq l len && xx P e n && Nat.blt 0 n
 |_=>false
def ane (t:TypeId)(f off:Nat):Bool:=match P.underlying t with
 |some (.struct fs)=>match fs[f]? with
  |some x=>Nat.beq x.offset off && (match P.info? x.type with|some i=>Nat.blt 0 i.size|none=>false)
  |none=>false
 |_=>false
def VT (t:TypeId)(f off:Nat)(n:I_):Bool:=match P.underlying t with
 |some (.struct fs)=>match fs[f]? with
  |some x=>Nat.beq x.offset off && qN P x.type n
  |none=>false
 |_=>false
def YL (t:TypeId)(len n:Nat)(agg:Bool):Bool:=match P.underlying t with
 |some (.array l e)=>Nat.beq l len && xx P e n && (match agg with|true=>Du P e|false=>Kr P e)
 |_=>false
def nu (places:Nat->Option (Nat×Nat)):AC_->List (Nat×Operand)->Bool
 |[],[]=>true
 |(off,n,r)::l,(i,o)::s=>(match places i with|some (a,b)=>Nat.beq a off && Nat.beq b n|none=>false) && cR r o && nu places l s
 |_,_=>false
def IU (fs:Array Field)(i:Nat):Option (Nat×Nat):=match fs[i]? with
 |some f=>match P.info? f.type with
  |some t=>some (f.offset,t.size)
  |none=>none
 |none=>none
def acy (fs:List Field):Bool:=fs.all λf=>(P.info? f.type).isSome
def ajf (t:TypeId)(zs:D_)(ps:AC_)(parts:List (Nat×Operand)):Bool :=
 (match P.info? t with
  |some i=>match i.zero with
   |some z=>pi zs z.cells.toList
   |none=>false
  |none=>false) &&
 match P.underlying t with
 |some (.struct fs)=>acy P fs.toList && nu (IU P fs) ps parts
 |some (.array _ e)=>match P.info? e with
  |some i=>nu (λk=>some (k*i.size,i.size)) ps parts
  |none=>false
 |_=>false
def gG:Nat->U_->List (Nat×Operand)->Bool
 |_,[],[]=>true
 |k,r::l,(i,o)::s=>Nat.beq i k && cR r o && gG (k+1) l s
 |_,_,_=>false
def AJ:Callee->Option FuncId
 |.value (.func f)=>some f
 |_=>none
def qk:Callee->Option Builtin
 |.builtin b=>some b
 |_=>none
def ab9 (a b:BinOp):Bool:=decide (a=b)
def azw (a b:UnOp):Bool:=decide (a=b)
def Qa (a b:Option Builtin):Bool:=decide (a=b)
def tI (c:Call):TypeId:=c.argTypes.getD 0 0
def Uf (c:Call):Bool:=Nat.beq c.argTypes.size 2
def bG (v:pk)(o:Op):Bool :=
 match v with
 |.mov x=>(match o with
  |.move y=>cR x y
  |.assign y=>cR x y
  |.call c=>Qa (qk c.callee) (some .len) && Nat.blt 0 c.args.size && Nat.blt 0 c.argTypes.size && (match x with
   |.c (.d (.int .i64 n))=>(match P.underlying (tI c) with
    |some (.array l _)=>decide (n=(l:Int))
    |_=>false)
   |_=>false)
  |_=>false)
 |.pick c a b=>(match o with
  |.pick c' a' b'=>cR c c' && cR a a' && cR b b'
  |_=>false)
 |.alloc zs=>(match o with
  |.alloc e=>(match P.info? e with
   |some i=>(match i.zero with
    |some z=>pi zs z.cells.toList
    |none=>false)
   |none=>false)
  |_=>false)
 |.box x=>(match o with
  |.box _ y=>cR x y
  |_=>false)
 |.build zs ps=>(match o with
  |.build t parts=>ajf P t zs ps parts.toList
  |_=>false)
 |.mks m ps=>(match o with
  |.buildSlice t len parts=>jm P t m && nC P t m && Nat.beq len ps.length && Nat.ble (len*m) 16777216 && gG 0 ps parts.toList
  |_=>false)
 |.mksv m ps=>(match o with
  |.buildSlice t len parts=>Nat.beq m 1 && jm P t m && nC P t m && Nat.beq len ps.length && Nat.ble (len*m) 16777216 && Nat.blt 0 len && gG 0 ps parts.toList
  |_=>false)
 |.ld n _ p=>(match o with
  |.load t a=>qN P t n && cR p a
  |_=>false)
 |.st n p x=>(match o with
  |.store t a y=>xx P t n && cR p a && cR x y
  |_=>false)
 |.nilck x=>(match o with
  |.nilCheck y=>cR x y
  |_=>false)
 |.bin op x y=>(match o with
  |.binOp op' _ x' y' _=>ab9 op op' && cR x x' && cR y y'
  |_=>false)
 |.binb neg x y=>(match o with
  |.binOp op' t x' y' _=>ab9 (match neg with|true=>.neq|false=>.eql) op' && MV P t && cR x x' && cR y y'
  |_=>false)
 |.un op x=>(match o with
  |.unOp op' _ x'=>azw op op' && cR x x'
  |_=>false)
 |.conv k x=>(match o with
  |.convert src dst x'=>aqM P dst k && KS P src && cR x x'
  |_=>false)
 |.toStr x=>(match o with
  |.convert src dst x'=>Pc P dst && al7 P src && cR x x'
  |_=>false)
 |.bina neg ks x y=>(match o with
  |.binOp op' t x' y' _=>ab9 (match neg with|true=>.neq|false=>.eql) op' && Ar P t ks && cR x x' && cR y y'
  |_=>false)
 |.mkfn f first caps=>(match o with
  |.makeFunc (.func g) first' caps'=>Nat.beq f g && eU first first'.toList && eU caps caps'.toList
  |_=>false)
 |.mkslice z len cap=>(match o with
  |.makeSlice t l c=>jm P t z.length && BX P t z && cR len l && cR cap c
  |_=>false)
 |.slice m x lo hi mx=>(match o with
  |.slice t y l h k=>jm P t m && cR x y && Co lo l && Co hi h && Co mx k
  |_=>false)
 |.slarr n x lo hi mx=>(match o with
  |.slice t y l h k=>Uz P t n 1 && cR x y && Co lo l && Co hi h && Co mx k
  |_=>false)
 |.fa off p=>(match o with
  |.fieldAddr t y f=>ane P t f off && cR p y
  |_=>false)
 |.fld off n x=>(match o with
  |.field t y f=>VT P t f off n && cR x y
  |_=>false)
 |.ia n x i=>(match o with
  |.indexAddr t y j=>jm P t n && cR x y && cR i j
  |_=>false)
 |.iarr len n p i=>(match o with
  |.indexAddr t y j=>Uz P t len n && cR p y && cR i j
  |_=>false)
 |.ix len n agg x i=>(match o with
  |.index t y j=>YL P t len n agg && cR x y && cR i j
  |_=>false)
 |.ixs x i=>(match o with
  |.index t y j=>Pc P t && cR x y && cR i j
  |_=>false)
 |.ext j _ i=>(match o with
  |.extract (.tmp t) k=>Nat.beq j t && Nat.beq i k
  |_=>false)
 |.len x=>(match o with
  |.call c=>Qa (qk c.callee) (some .len) && Nat.blt 0 c.argTypes.size && (match P.underlying (tI c) with|some (.slice _)=>true|_=>false) && eU [x] c.args.toList
  |_=>false)
 |.cap x=>(match o with
  |.call c=>Qa (qk c.callee) (some .cap) && Nat.blt 0 c.argTypes.size && (match P.underlying (tI c) with|some (.slice _)=>true|_=>false) && eU [x] c.args.toList
  |_=>false)
 |.app m x y=>(match o with
  |.call c=>Qa (qk c.callee) (some .append) && Uf c && jm P (tI c) m && nC P (tI c) m &&
    (match P.underlying (c.argTypes.getD 1 0) with|some (.slice _)=>true|_=>false) && eU [x,y] c.args.toList
  |_=>false)
 |.appz z x n=>(match o with
  |.call c=>Qa (qk c.callee) (some .append) && Uf c && jm P (tI c) z.length && BX P (tI c) z && KS P (c.argTypes.getD 1 0) && eU [x,n] c.args.toList
  |_=>false)
 |.cpy m x y=>(match o with
  |.call c=>Qa (qk c.callee) (some .copy) && Uf c && jm P (tI c) m && (match P.underlying (c.argTypes.getD 1 0) with|some (.slice _)=>true|_=>false) && eU [x,y] c.args.toList
  |_=>false)
 |.clr z x=>(match o with
  |.call c=>Qa (qk c.callee) (some .clear) && jm P (tI c) z.length && BX P (tI c) z && Nat.blt 0 c.argTypes.size && eU [x] c.args.toList
  |_=>false)
 |.minmax b xs=>(match o with
  |.call c=>Qa (qk c.callee) (some (match b with|true=>.max|false=>.min)) && eU xs c.args.toList
  |_=>false)
 |.call f args=>(match o with
  |.call c=>(match AJ c.callee with|some g=>Nat.beq f g|none=>false) && eU args c.args.toList
  |_=>false)
 |.calli f args=>(match o with
  |.call c=>(match AJ c.callee with|some g=>Nat.beq f g|none=>false) && eU args c.args.toList
  |_=>false)
 |.callv f args=>(match o with
  |.call c=>(match c.callee with|.value x=>cR f x|_=>false) && eU args c.args.toList
  |_=>false)
 |.idxb x c=>(match o with
  |.call k=>(match AJ k.callee with|some f=>asx P f|none=>false) && eU [x,c] k.args.toList
  |_=>false)
 |.bad=>true
 |_=>false
def M3 (v:VI):Bool :=
 v.dst.isNone && v.guard.isNone && v.th.isEmpty && (match v.op with
  |.kill _=>true
  |.free _=>true
  |.wk _ _=>true
  |.frz _=>true
  |.frzC _ _=>true
  |_=>false)
def E8 (ops:Array Oper):Option (Nat×Bool)->Option (Nat×Bool)->Bool
 |none,none=>true
 |some (s,b),some (j,c)=>b == c && (match ops[j]? with
  |some o=>(match o.dst with|some d=>Nat.beq d s|none=>false)
  |none=>false)
 |_,_=>false
def Cz (n:Nat)(ops:Array Oper)(v:VI)(o:Oper):Bool :=
 (match v.dst,o.dst with
  |none,none=>true
  |some a,some b=>Nat.beq a b && Nat.blt a n
  |_,_=>false) && E8 ops v.guard o.guard && bG P v.op o.op
def JP (n:Nat)(ops:Array Oper):S_->List Oper->Bool
 |[],[]=>true
 |v::l,os=>match M3 v with
  |true=>JP n ops l os
  |false=>match os with
   |o::s=>Cz P n ops v o && JP n ops l s
   |[]=>false
 |[],_::_=>false
end
def oU:Rd->C_
 |.s i=>[i]
 |.m i=>[i]
 |.c _=>[]
def lg:Rd->C_
 |.m i=>[i]
 |_=>[]
def cm (rs:U_):C_:=rs.flatMap oU
def bF (rs:U_):C_:=rs.flatMap lg
def Fd:pk->Option U_
 |.mov x=>some [x]
 |.build _ ps=>some (qh ps)
 |.mks _ ps=>some ps
 |.ld _ 0 p=>some [p]
 |.nilck x=>some [x]
 |.bin _ x y=>some [x,y]
 |.binb _ x y=>some [x,y]
 |.bina _ _ x y=>some [x,y]
 |.un _ x=>some [x]
 |.conv _ x=>some [x]
 |.toStr x=>some [x]
 |.mkslice _ l c=>some [l,c]
 |.fa _ p=>some [p]
 |.fld _ _ x=>some [x]
 |.ia _ x i=>some [x,i]
 |.iarr _ _ p i=>some [p,i]
 |.ix _ _ _ x i=>some [x,i]
 |.ixs x i=>some [x,i]
 |.len x=>some [x]
 |.cap x=>some [x]
 |.minmax _ xs=>some xs
 |.mkfn _ first caps=>some (first++caps)
 |.call _ args=>some args
 |_=>none
def MA:pk->AG_
 |.pick c a b=>some (cm [c,a,b],bF [c,a,b])
 |.ext j mv _=>some ([j],if mv then [j] else [])
 |.app _ (.c .nl) y=>some (cm [y],bF [y])
 |.slice _ x lo hi mx=>some (cm (x::(lo.toList++(hi.toList++(mx.toList++[])))),bF (x::(lo.toList++(hi.toList++(mx.toList++[])))))
 |v=>match Fd v with
  |some rs=>some (cm rs,bF rs)
  |none=>none
def afV (i:VI):AG_ :=
 match i.th with
 |_::_=>none
 |[]=>match MA i.op with
  |none=>none
  |some (R,M)=>some ((match i.guard with|some (s,_)=>s::(R++M)|none=>R++M),(match i.dst with|some d=>d::M|none=>M))
def tG:C_->C_->Bool
 |[],_=>true
 |a::r,l=>!fo a l && tG r l
def vE (a b:VI):Bool:=match afV a,afV b with
 |some (R1,M1),some (R2,M2)=>tG M1 R2 && tG M1 M2 && tG M2 R1
 |_,_=>false
def ya:Ground->Bool
 |.textOnly _=>false
 |.gcOnly _=>false
 |_=>true
def Np (o:Oper)(j:Nat):Bool:=o.after.toList.any λe=>Nat.beq e.on j && ya e.ground
def Zz (o:Oper)(v:VI):Nat->S_->Bool
 |_,[]=>true
 |j,u::us=>(Np o j ||vE u v) && Zz o v (j+1) us
def tU (P:Program)(n:Nat)(ops:Array Oper)(prev:S_):S_->List Oper->Bool
 |[],[]=>true
 |v::vs,o::os=>Cz P n ops v o && Zz o v 0 prev && (o.after.toList.all λe=>Nat.blt e.on prev.length) && tU P n ops (prev++[v]) vs os
 |_,_=>false
def P7 (i:VI)(l:C_):C_:=match i.guard with|some (s,_)=>s::l|none=>l
def zp (i:VI)(l:C_):C_:=match i.dst with|some d=>d::l|none=>l
inductive Cr where
 |q|t|a|p
def kp (i:VI):Option (Cr×C_×C_) :=
 match i.th with
 |_::_=>match MA i.op with
  |some (R,M)=>some (.a,P7 i (R++M),zp i M)
  |none=>none
 |[]=>match i.op with
  |.ld _ 2 p=>some (.t,P7 i (oU p++lg p),zp i (lg p))
  |.app _ (.s x) y=>some (.p,P7 i (cm [.s x,y]++bF [.s x,y]),zp i (bF [.s x,y]))
  |.app _ (.m x) y=>some (.p,P7 i (cm [.m x,y]++bF [.m x,y]),zp i (bF [.m x,y]))
  |.alloc _=>some (.a,P7 i ([]++[]),zp i [])
  |.box x=>some (.a,P7 i (oU x++lg x),zp i (lg x))
  |v=>match MA v with
   |some (R,M)=>some (.q,P7 i (R++M),zp i M)
   |none=>none
def By:Cr->Cr->Bool
 |.a,_=>false
 |.t,.t=>false
 |.p,.q=>true
 |.p,_=>false
 |_,.p=>false
 |_,_=>true
def Ic (u v:VI):Bool:=match kp u,kp v with
 |some (k1,R1,M1),some (k2,R2,M2)=>By k1 k2 && tG M1 R2 && tG M1 M2 && tG M2 R1
 |_,_=>false
def Su:C_->C_->C_
 |[],l=>l
 |a::r,l=>match fo a l with
  |true=>Su r l
  |false=>Su r (a::l)
def sOp:pk->Bool
 |.mov _=>true
 |.pick ..=>true
 |.build ..=>true
 |.mks ..=>true
 |.nilck _=>true
 |.bin ..=>true
 |.binb ..=>true
 |.bina ..=>true
 |.un ..=>true
 |.conv ..=>true
 |.mkfn ..=>true
 |.mkslice ..=>true
 |.fa ..=>true
 |.fld ..=>true
 |.iarr ..=>true
 |.ix ..=>true
 |.ixs ..=>true
 |.ext ..=>true
 |.len _=>true
 |.cap _=>true
 |.minmax ..=>true
 |_=>false
def auu:pk->Option U_
 |.ld _ _ p=>some [p]
 |.st _ p x=>some [p,x]
 |.cpy _ x y=>some [x,y]
 |.clr _ x=>some [x]
 |.calli _ args=>some args
 |.callv f args=>some (f::args)
 |_=>none
def kD (i:VI):AG_ :=
 match kp i with
 |some (_,R,M)=>some (R,M)
 |none=>match auu i.op with
  |some rs=>some (P7 i (cm rs++bF rs),zp i (bF rs))
  |none=>none
def Ad (a:Bool)(i:VI):AG_ :=
 match kD i with
 |some (R,M)=>match a with
  |false=>some (R,M)
  |true=>some (R++RT (Ua i.op),M)
 |none=>none
def MO (a:R_):Bool:=match a with|[]=>true|_=>false
def kS (a:Bool)(i:VI):Bool:=!a && MO i.th && sOp i.op
def isQ (i:VI):Bool:=match kp i with|some (.q,_)=>true|_=>false
def isP (i:VI):Bool:=match kp i with|some (.p,_)=>true|_=>false
def IS (i:VI):Bool:=match ua i.op with|.read=>true|_=>false
def aht (i:VI):Bool:=match ua i.op with|.take=>true|_=>false
def YJ (i:VI):Bool:=match ua i.op with|.call=>true|_=>false
def WH (a:Bool)(i:VI):Bool:=isQ i && (!a ||IS i)
def ahn (a b:Bool)(u v:VI):Bool:=a && b && isQ u && IS u && YJ v
def FI (a b:Bool)(u v:VI):Bool:=match Ad a u,Ad b v with
 |some (R1,M1),some (R2,M2)=>tG M1 R2 && tG M1 M2 && tG M2 R1
 |_,_=>false
def UH (a b:Bool)(u v:VI):Bool:=FI a b u v && (kS a u ||kS b v ||(WH a u && WH b v) ||ahn a b u v)
def C5 (a:Bool)(i:VI):Bool:=a && aht i && MO i.th
def aau (a b:Bool)(u v:VI):Bool :=
 (!a ||C5 a u) && (!b ||C5 b v) && (Ic u v ||(FI a b u v && ((C5 a u && C5 b v) ||(C5 a u && isP v) ||(isP u && C5 b v))))
def tp (a b:Bool)(u v:VI):Bool:=!a && !b && MO u.th && MO v.th && (match u.op,v.op,u.dst,v.dst,u.guard,v.guard with
 |.ext j _ i,.ext l _ k,some d,some c,none,none=>Nat.beq j l && !Nat.beq i k && !Nat.beq d c && !Nat.beq d j && !Nat.beq c j
 |_,_,_,_,_,_=>false)
def lI (a b:Bool)(u v:VI):Bool:=UH a b u v ||tp a b u v ||(!kS b v && aau a b u v)
def TN (tab:P_):List Edge->C_
 |[]=>[]
 |e::r=>match ya e.ground with
  |true=>Su (e.on::(match get tab e.on with|some l=>l|none=>[])) (TN tab r)
  |false=>TN tab r
def IN (ops:Array Oper):C_->P_->P_
 |[],tab=>tab
 |i::l,tab=>IN ops l ((i,match ops[i]? with|some o=>TN tab o.after.toList|none=>[])::tab)
def txG:Ground->Bool
 |.gcOnly _=>false
 |_=>true
def Zw:Ground->Bool
 |.textOnly _=>false
 |_=>true
def If (P:Program)(n:Nat)(ops:Array Oper)(k:Nat):Nat->S_->List Oper->Bool
 |_,[],[]=>true
 |i,v::vs,o::os=>Cz P n ops v o && (o.after.toList.all λe=>Nat.blt e.on k && (!txG e.ground ||Nat.blt e.on i)) && If P n ops k (i+1) vs os
 |_,_,_=>false
def tL (anc:P_)(k i:Nat):Bool:=match get anc k with|some l=>fo i l|none=>false
def ZZ (anc:P_)(d:Nat)(l:C_)(i:Nat):Nat->S_->Bool
 |_,[]=>true
 |k,v::r=>(Nat.beq k i ||tL anc k i ||(match kD v with
  |some (_,M)=>!fo d M && (tL anc i k ||tG l M)
  |none=>false)) && ZZ anc d l i (k+1) r
def z7 (v:VI):C_:=match v.op with
 |.mkslice _ l c=>cm [l,c]
 |_=>[]
def u4 (anc:P_)(vs:S_)(i:Nat):Bool:=match vs[i]? with
 |some v=>(match jo v with
  |some d=>ZZ anc d (z7 v) i 0 vs && (match get anc i with
   |some l=>l.all (λj=>match vs[j]? with
    |some u=>(match jo u with
     |some _=>false
     |none=>true)
    |none=>true)
   |none=>true)
  |none=>false)
 |none=>false
def YM (anc:P_)(i j:Nat):Nat->Bool
 |0=>true
 |k+1=>(!tL anc k i ||tL anc k j) && YM anc i j k
def TL (anc:P_)(nr:C_)(vs:S_)(j:Nat):C_->Bool
 |[]=>true
 |i::r=>(tL anc i j ||(match vs[j]?,vs[i]? with|some u,some v=>lI (fo j nr) (fo i nr) u v|_,_=>false) ||(u4 anc vs i && YM anc i j vs.length && !tL anc j i)) && TL anc nr vs j r
def ajb (ops:Array Oper)(j:Nat)(l:C_):Bool:=match ops[j]? with
 |some o=>o.after.toList.all λe=>!Zw e.ground ||!fo e.on l
 |none=>false
def UE (ops:Array Oper)(anc:P_)(nr:C_)(vs:S_):C_->Bool
 |[]=>true
 |j::r=>TL anc nr vs j r && !fo j r && Nat.blt j vs.length && UE ops anc nr vs r
def af4 (ops:Array Oper):C_->Bool
 |[]=>true
 |j::r=>ajb ops j (j::r) && af4 ops r
def Zy (l:C_):Nat->Bool
 |0=>true
 |n+1=>fo n l && Zy l n
def agc (vs:S_):C_->Bool
 |[]=>true
 |i::r=>(match vs[i]? with|some v=>!IS v ||isQ v|none=>true) && agc vs r
def JM (P:Program)(n:Nat)(ops:Array Oper)(perm gco nr:C_)(vs:S_):Bool :=
 If P n ops vs.length 0 vs ops.toList && agc vs nr && Zy gco vs.length && af4 ops gco && Zy perm vs.length && UE ops (IN ops perm []) nr vs perm
def xk:VC->Bool
 |.reg _ ops=>ops.all M3
 |.seq a b=>xk a && xk b
 |_=>false
inductive Mt (P:Program) (n:Nat):VC->Code->Prop
 |ghostL {a b:VC}{c:Code}:xk a=true->Mt P n b c->Mt P n (.seq a b) c
 |ghostR {a b:VC}{c:Code}:xk b=true->Mt P n a c->Mt P n (.seq a b) c
 |seq {a b:VC}{c d:Code}:Mt P n a c->Mt P n b d->Mt P n (.seq a b) (.seq c d)
 |skip:Mt P n .skip .skip
 |reg {ops:S_}{id:Nat}{os:Array Oper}:JP P n os ops os.toList=true->Mt P n (.reg false ops) (.region id os false)
 |draw {ops:S_}{id:Nat}{os:Array Oper}:tU P n os [] ops os.toList=true->Mt P n (.reg true ops) (.region id os true)
 |drawP {perm gco nr:C_}{ops:S_}{id:Nat}{os:Array Oper}:JM P n os perm gco nr ops=true->Mt P n (.regP perm gco nr ops) (.region id os true)
 |cond {r:Rd}{o:Operand}{a b:VC}{c d:Code}:cR r o=true->Mt P n a c->Mt P n b d->Mt P n (.cond r a b) (.cond o c d)
 |block {id:Nat}{a:VC}{c:Code}:Mt P n a c->Mt P n (.block id a) (.block id c)
 |loop {a:VC}{c:Code}:Mt P n a c->Mt P n (.loop a) (.loop c)
 |rangeF {r:Rd}{o:Operand}{ps:C_}{qs:Array Nat}{a b:VC}{c d:Code}:cR r o=true->qs=ps.toArray->(∀p∈ps,p<n)->Mt P n a c->Mt P n b d->Mt P n (.rangeF r ps a b) (.rangeFunc o qs c d)
 |exit {id:Nat}:Mt P n (.exit id) (.exit id)
 |scope {a:VC}{c:Code}:Mt P n a c->Mt P n (.scope a) (.scope c)
 |label {l:Nat}:Mt P n (.label l) (.label l)
 |goto {l:Nat}:Mt P n (.goto l) (.goto l)
 |ret:Mt P n .ret .ret
def No:C_->C_->Bool
 |[],[]=>true
 |a::r,b::s=>Nat.beq a b && No r s
 |_,_=>false
def ad9:∀{a b:C_},No a b=true->a=b
 |[],[],_=>rfl
 |a::r,b::s,h=>by
  simp only[No,af,aD]at h;rw[h.1,ad9 h.2]
 |[],_::_,h=>by simp[No]at h
 |_::_,[],h=>by simp[No]at h
def af7 (n:Nat):C_->Bool
 |[]=>true
 |a::r=>Nat.blt a n && af7 n r
def adC {n:Nat}:∀{l:C_},af7 n l=true->∀p∈l,p<n
 |[],_,p,hp=>by simp at hp
 |a::r,h,p,hp=>by
  simp only[af7,af,Nat.blt_eq]at h;rcases ay.1 hp with rfl|hp
  .exact h.1
  .exact adC h.2 p hp
def ky (P:Program)(n:Nat):VC->Code->Bool
 |.seq a b,c=>(xk a && ky P n b c) ||(xk b && ky P n a c) ||(match c with
  |.seq x y=>ky P n a x && ky P n b y
  |_=>false)
 |.skip,.skip=>true
 |.reg d ops,.region _ os d'=>(!d && !d' && JP P n os ops os.toList) ||(d && d' && tU P n os [] ops os.toList)
 |.regP perm gco nr ops,.region _ os d'=>d' && JM P n os perm gco nr ops
 |.cond r a b,.cond o x y=>cR r o && ky P n a x && ky P n b y
 |.block i a,.block j x=>Nat.beq i j && ky P n a x
 |.loop a,.loop x=>ky P n a x
 |.rangeF r ps a b,.rangeFunc o qs x y=>cR r o && No ps qs.toList && af7 n ps && ky P n a x && ky P n b y
 |.exit i,.exit j=>Nat.beq i j
 |.scope a,.scope x=>ky P n a x
 |.label i,.label j=>Nat.beq i j
 |.goto i,.goto j=>Nat.beq i j
 |.ret,.ret=>true
 |_,_=>false
def kf {P:Program}{n:Nat}:∀(v:VC) (c:Code),ky P n v c=true->Mt P n v c
 |.seq a b,c,h=>by
  simp only[ky,dc,af]at h;rcases h with (⟨h1,h2⟩|⟨h1,h2⟩)|h
  .exact .ghostL h1 (kf b c h2)
  .exact .ghostR h1 (kf a c h2)
  .cases c<;>simp only[af,ao]at h
   exact .seq (kf a _ h.1) (kf b _ h.2)
 |.skip,c,h=>by cases c<;>simp_all [ky];exact .skip
 |.reg d ops,c,h=>by
  cases c<;>simp only[ky,dc,af,cS,ao]at h
  rcases h with ⟨⟨h1,h2⟩,h⟩|⟨⟨h1,h2⟩,h⟩
  .subst h1 h2;exact .reg h
  .subst h1 h2;exact .draw h
 |.regP perm gco nr ops,c,h=>by
  cases c<;>simp only[ky,af,ao]at h
  obtain⟨h1,h⟩:=h;subst h1;exact .drawP h
 |.cond r a b,c,h=>by
  cases c<;>simp[ky]at h
  exact .cond h.1.1 (kf a _ h.1.2) (kf b _ h.2)
 |.block i a,c,h=>by
  cases c<;>simp only[ky,af,ao]at h
  obtain⟨h1,h2⟩:=h;rw[aD]at h1;subst h1;exact .block (kf a _ h2)
 |.loop a,c,h=>by
  cases c<;>simp only[ky,ao]at h
  exact .loop (kf a _ h)
 |.exit i,c,h=>by
  cases c<;>simp only[ky,ao]at h
  rw[aD]at h;subst h;exact .exit
 |.scope a,c,h=>by
  cases c<;>simp only[ky,ao]at h
  exact .scope (kf a _ h)
 |.label i,c,h=>by
  cases c<;>simp only[ky,ao]at h
  rw[aD]at h;subst h;exact .label
 |.goto i,c,h=>by
  cases c<;>simp only[ky,ao]at h
  rw[aD]at h;subst h;exact .goto
 |.ret,c,h=>by cases c<;>simp[ky]at h;exact .ret
 |.rangeF r ps a b,c,h=>by
  cases c<;>simp only[ky,af,ao]at h
  obtain⟨⟨⟨⟨h1,h2⟩,h3⟩,h4⟩,h5⟩:=h;have h2:=ad9 h2;exact .rangeF h1 (by rw[h2]) (adC h3) (kf a _ h4) (kf b _ h5)
 |.inScope _ _,c,h=>by grind [ky]
 |.clone _,c,h=>by grind [ky]
 |.late _ _ _ _,c,h=>by grind [ky]
def mE (P:Program):AH_->List ResultVar->Bool
 |[],[]=>true
 |.tmp i::r,.tmp j::s=>Nat.beq i j && mE P r s
 |.cell i n::r,.cell j ty::s=>Nat.beq i j && qN P ty n && mE P r s
 |_,_=>false
def Md (o:Oper)(d:Nat):Bool:=(match o.dst with|some e=>Nat.beq d e|none=>false) && o.guard.isNone
def aaF:Operand->Bool
 |.const (.slice none 0 0)=>true
 |_=>false
def Fu (i:Nat):Operand->Bool
 |.tmp j=>Nat.beq i j
 |_=>false
def YZ (d:Nat):List Oper->Bool
 |[o]=>Md o d && (match o.op with|.assign x=>aaF x|_=>false)
 |_=>false
def agx (P:Program)(m:Nat):List Oper->Bool
 |[a,b]=>Md a 3 && (match a.op with|.move x=>Fu 0 x|_=>false) && Md b 4 &&
   (match b.op with|.binOp .eql T x y _=>jm P T m && Fu 3 x && aaF y|_=>false)
 |_=>false
def aiv (P:Program)(m:Nat):List Oper->Bool
 |[a,b,c,d]=>Md a 5 && (match a.op with|.buildSlice T 0 ps=>jm P T m && ps.isEmpty|_=>false) && Md b 6 && (match b.op with|.move x=>Fu 0 x|_=>false) && Md c 7 &&
   (match c.op with
    |.call k=>Qa (qk k.callee) (some .append) && Uf k && jm P (tI k) m && nC P (tI k) m && (match P.underlying (k.argTypes.getD 1 0) with|some (.slice _)=>true|_=>false) &&
      (match k.args.toList with|[x,y]=>Fu 5 x && Fu 6 y|_=>false)
    |_=>false) && Md d 2 && (match d.op with|.assign x=>Fu 7 x|_=>false)
 |_=>false
def OK (P:Program)(m:Nat):Code->Bool
 |.seq (.region _ r0 false) (.seq (.seq (.region _ r1 false) (.cond (.tmp 4) (.seq (.region _ r2 false) .ret) .skip)) (.seq (.region _ r3 false) .ret)) =>
  YZ 2 r0.toList && agx P m r1.toList && YZ 2 r2.toList && aiv P m r3.toList
 |_=>false
def ZU (P:Program)(m:Nat)(vf:al)(f:FuncId):Bool:=match P.funcs[f]? with
 |some fn=>match fn.body with
  |some c=>(match vf.body with|.clone k=>Nat.beq k m|_=>false) && (match vf.results with|[.tmp 2]=>true|_=>false) && mE P vf.results fn.results.toList && Nat.beq vf.nparams 1 && Nat.ble 8 fn.ntmps && OK P m c && (fn.name != "runtime.NumGoroutine")
  |none=>false
 |none=>false
def TH (P:Program)(n i d f:Nat)(a:VC):Code->Bool
 |.seq (.region _ os false) rest=>(match os.toList with
  |[m,k]=>Md m d && (match m.op with|.move x=>Fu i x|_=>false) && k.dst.isNone && k.guard.isNone &&
    (match k.op with
     |.defer c=>(match AJ c.callee with|some g=>Nat.beq f g|none=>false) && (match c.args.toList with|[x]=>Fu d x|_=>false)
     |_=>false)
  |_=>false) && Nat.blt d n && ky P n a rest
 |_=>false
def adu (P:Program)(i d f:Nat)(a:VC)(vf:al)(k:FuncId):Bool:=match P.funcs[k]? with
 |some fn=>match fn.body with
  |some c=>TH P fn.ntmps i d f a c && Nat.ble vf.nparams fn.ntmps && mE P vf.results fn.results.toList && (fn.name != "runtime.NumGoroutine")
  |none=>false
 |none=>false
def av9 (P:Program)(vf:al)(f:FuncId):Bool:=match P.funcs[f]? with
 |some fn=>match fn.body with
  |some c=>ky P fn.ntmps vf.body c && Nat.ble vf.nparams fn.ntmps && mE P vf.results fn.results.toList && (fn.name != "runtime.NumGoroutine")
  |none=>false
 |none=>false
abbrev ak:=@Nat.le_refl
abbrev aM:=@Nat.le_trans
structure Gh where
 obj:Nat->I_
 base:Nat->Nat
 esz:Nat->Nat
 bsz:Nat->Nat
 pm:Nat->Nat->Prop
inductive RD (w:World) (pm:Nat->Nat->Prop):D->Value->Prop
 |int (k:IntKind) (n:Int):RD w pm (.int k n) (.int k n)
 |bool (b:Bool):RD w pm (.bool b) (.bool b)
 |str (s:BC_):RD w pm (.str s) (.string ⟨s.toArray⟩)
 |nil (a:Option Addr) (cap:Nat):RD w pm (.lst []) (.slice a 0 cap)
 |lst (xs:E_) (b off m cap:Nat) (u:Nat->Value) (hm:0<m) (hcap:xs.length<=cap) (hl:∀e∈xs,e.length=m)
   (hc:∀j c,xs.flatten[j]?=some c->w.cell? ⟨b,off+j,none⟩=some (u j)∧pm b (off+j))
   (hr:∀j c,xs.flatten[j]?=some c->RD w pm c (u j)):RD w pm (.lst xs) (.slice (some ⟨b,off,none⟩) xs.length cap)
def jw (w:World)(pm:Nat->Nat->Prop)(cs:W_)(b off:Nat):Prop :=
 ∀j c,cs[j]?=some c->∃u,w.cell? ⟨b,off+j,none⟩=some u∧RD w pm c u
def one (b:Nat):Nat->Nat:=λx=>if x=b then 1 else 0
@[simp] theorem AT (b:Nat):one b b=1:=by simp[one]
theorem wV {b x:Nat}(h:one b x≠0):x=b:=by grind [one]
def DJ (g:Gh)(w:World)(p:Bool)(m:Nat)(xs:E_)(x:Value)(O:Nat->Nat):Prop :=
 (xs=[]∧(∀b,O b=0)∧∃a,x=.slice a 0 0)∨
 ∃b off cap c el,x=.slice (some ⟨b,off,none⟩) xs.length cap∧xs.length<=cap∧0<m∧(∀e∈xs,e.length=m)∧
  w.heap[b]?=some (.cells c el (0,0))∧off+cap*m<=c.size∧jw w g.pm xs.flatten b off∧
  (∀o,g.pm b o->p=false∧o<off+xs.length*m)∧(p=false->∀j,j<xs.length*m->g.pm b (off+j))∧O=one b
mutual
def RV (g:Gh)(w:World):AV->Value->(Nat->Nat)->Prop
 |.junk,_,O=>∀b,O b=0
 |.d c,x,O=>RD w g.pm c x∧∀b,O b=0
 |.nl,x,O=>x=.slice none 0 0∧∀b,O b=0
 |.own p m xs,x,O=>DJ g w p m xs x O
 |.gl n,x,O=>(∃a cap,x=.slice a n cap)∧∀b,O b=0
 |.agg cs,x,O=>∃xs:F_,x=.agg xs∧RVs g w cs xs.toList O
 |.tup cs,x,O=>∃xs:F_,x=.tuple xs∧RVs g w cs xs.toList O
 |.nilp,x,O=>x=.pointer none∧∀b,O b=0
 |.ptr id off,x,O=>(∃b,g.obj id=some b∧x=.pointer (some ⟨b,g.base id+off,none⟩))∧∀b,O b=0
 |.pel id i off,x,O=>(∃b,g.obj id=some b∧x=.pointer (some ⟨b,g.base id+(i*g.esz id+off),none⟩))∧∀b,O b=0
 |.pim cs off,x,O=>(∃b o,x=.pointer (some ⟨b,o+off,none⟩)∧jw w g.pm cs b o∧∀j,j<cs.length->g.pm b (o+j))∧∀b,O b=0
 |.sl id off len,x,O=>((len=0∧∃a,x=.slice a 0 0)∨
   ∃b cap,g.obj id=some b∧x=.slice (some ⟨b,g.base id+off*g.esz id,none⟩) len cap∧len<=cap∧g.base id+(off+cap)*g.esz id<=g.bsz id)∧∀b,O b=0
 |.fn f a c,x,O=>(∃xs ys:F_,x=.func (.func f) xs ys∧RVs g w a xs.toList (λ_=>0)∧RVs g w c ys.toList (λ_=>0))∧∀b,O b=0
 |.nilf,x,O=>x=.nilFunc∧∀b,O b=0
 |.yield l,x,O=>(∃b,g.obj l=some b∧x=.func (.yield b) #[] #[])∧∀b,O b=0
def RVs (g:Gh)(w:World):D_->N_->(Nat->Nat)->Prop
 |[],xs,O=>xs=[]∧∀b,O b=0
 |v::r,xs,O=>∃x s O1 O2,xs=x::s∧RV g w v x O1∧RVs g w r s O2∧∀b,O b=O1 b+O2 b
end
def ie (o:Go.Obj)(off:Nat):Bool :=
 match o with
 |.cells _ _ (lo,hi)=>lo<=off && off<hi
 |_=>false
structure bQ (g:Gh)(w:World)(g':Gh)(w':World)(S:Nat->Prop):Prop where
 obj:∀id b,g.obj id=some b->g'.obj id=some b∧g'.base id=g.base id∧g'.esz id=g.esz id∧g'.bsz id=g.bsz id
 pm:∀b o,g.pm b o->g'.pm b o∧w'.cell? ⟨b,o,none⟩=w.cell? ⟨b,o,none⟩
 blk:∀b,b<w.heap.size->¬S b->w'.heap[b]?=w.heap[b]?∧∀o,g'.pm b o->g.pm b o
 size:w.heap.size<=w'.heap.size
 lp:∀(b:Nat) (rc:Go.Loop),w.heap[b]?=some (.loop rc)->∃rc':Go.Loop,w'.heap[b]?=some (.loop rc')
 same:w'.os=w.os∧w'.output=w.output∧∀a:Addr,w'.frozen? a=w.frozen? a
theorem bQ.refl (g:Gh)(w:World)(S:Nat->Prop):bQ g w g w S :=
 ⟨λ_ _ h=>⟨h,rfl,rfl,rfl⟩,λ_ _ h=>⟨h,rfl⟩,λ_ _ _=>⟨rfl,λ_ h=>h⟩,ak _,λ_ rc h=>⟨rc,h⟩,rfl,rfl,λ_=>rfl⟩
def bQ.trans {g1 g2 g3:Gh}{w1 w2 w3:World}{S T:Nat->Prop}(h1:bQ g1 w1 g2 w2 S)(h2:bQ g2 w2 g3 w3 T)
  (hT:∀b,b<w1.heap.size->T b->S b):bQ g1 w1 g3 w3 S where
 obj id b h:=by
  obtain⟨a,b1,c,d⟩:=h1.obj id b h
  grind [obj]
 pm b o h:=by
  obtain⟨a,c⟩:=h1.pm b o h
  grind [pm]
 blk b hb hS:=by
  obtain⟨a,c⟩:=h1.blk b hb hS
  grind [blk]
 size:=aM h1.size h2.size
 lp b rc h:=let ⟨rc1,h'⟩:=h1.lp b rc h;h2.lp b rc1 h'
 same:=⟨h2.same.1.trans h1.same.1,h2.same.2.1.trans h1.same.2.1,λa=>(h2.same.2.2 a).trans (h1.same.2.2 a)⟩
def bQ.mono {g g':Gh}{w w':World}{S T:Nat->Prop}(h:bQ g w g' w' S)(hST:∀b,b<w.heap.size->S b->T b):bQ g w g' w' T :=
 ⟨h.obj,h.pm,λb hb hT=>h.blk b hb (λhs=>hT (hST b hb hs)),h.size,h.lp,h.same⟩
theorem RD.ext {g g':Gh}{w w':World}{S:Nat->Prop}(h:bQ g w g' w' S){c:D}{x:Value}(r:RD w g.pm c x):RD w' g'.pm c x:=by
 induction r with
 |int k n=>exact .int k n
 |bool b=>exact .bool b
 |str s=>exact .str s
 |nil a cap=>exact .nil a cap
 |lst xs b off m cap u hm hcap hl hc hr ih =>
  refine .lst xs b off m cap u hm hcap hl (λj c hj=>?_) (λj c hj=>ih j c hj)
  grind [bQ.pm]
theorem tx {w w':World}{b:Nat}(h:w'.heap[b]?=w.heap[b]?)(o:Nat):w'.cell? ⟨b,o,none⟩=w.cell? ⟨b,o,none⟩:=by
 grind [World.cell?]
theorem jw.ext {g g':Gh}{w w':World}{S:Nat->Prop}(h:bQ g w g' w' S){cs:W_}{b off:Nat}(r:jw w g.pm cs b off)
  (hb:w'.heap[b]?=w.heap[b]?∨∀j,j<cs.length->g.pm b (off+j)):jw w' g'.pm cs b off:=by
 intro j c hj;obtain⟨u,hu,hr⟩:=r j c hj;refine⟨u,?_,hr.ext h⟩;rcases hb with hb|hb
 .grind [tx]
 .have hlt:j<cs.length:=by
   grind
  rw[(h.pm b _ (hb j hlt)).2];exact hu
def jV {w:World}{b:Nat}{o:Go.Obj}(h:w.heap[b]?=some o):b<w.heap.size:=by
 grind
def DJ.ext {g g':Gh}{w w':World}{S:Nat->Prop}(h:bQ g w g' w' S){p:Bool}{m:Nat}{xs:E_}{x:Value}{O:Nat->Nat}
  (r:DJ g w p m xs x O)(hO:∀b,O b≠0->¬S b):DJ g' w' p m xs x O:=by
 rcases r with r|⟨b,off,cap,c,el,rfl,hcap,hm,hl,hb,hsz,hrc,hpm,hp,rfl⟩
 .exact .inl r
 .have hS:¬S b:=hO b s_;obtain⟨e,hn⟩:=h.blk b (jV hb) hS;exact .inr ⟨b,off,cap,c,el,rfl,hcap,hm,hl,e.trans hb,hsz,hrc.ext h (.inl e),λo ho=>hpm o (hn o ho),λhf j hj=>(h.pm b _ (hp hf j hj)).1,rfl⟩
mutual
theorem RV.ext {g g':Gh}{w w':World}{S:Nat->Prop}(h:bQ g w g' w' S):∀(v:AV) (x:Value) (O:Nat->Nat),
  RV g w v x O->(∀b,O b≠0->¬S b)->RV g' w' v x O
 |.junk,_,_,r,_=>by simpa only[RV] using r
 |.d c,x,O,r,_=>by simp only[RV]at r⊢;exact⟨r.1.ext h,r.2⟩
 |.nl,_,_,r,_=>by simpa only[RV] using r
 |.own p m xs,x,O,r,hO=>by simp only[RV]at r⊢;exact r.ext h hO
 |.gl n,_,_,r,_=>by simpa only[RV] using r
 |.agg cs,x,O,r,hO=>by
  simp only[RV]at r⊢;obtain⟨xs,e,r⟩:=r;exact⟨xs,e,RVs.ext h cs _ O r hO⟩
 |.tup cs,x,O,r,hO=>by
  simp only[RV]at r⊢;obtain⟨xs,e,r⟩:=r;exact⟨xs,e,RVs.ext h cs _ O r hO⟩
 |.nilp,_,_,r,_=>by simpa only[RV] using r
 |.ptr id off,x,O,r,_=>by
  simp only[RV]at r⊢;obtain⟨⟨b,hb,e⟩,hz⟩:=r;obtain⟨a1,a2,_,_⟩:=h.obj id b hb;exact⟨⟨b,a1,by rw[a2];exact e⟩,hz⟩
 |.pel id i off,x,O,r,_=>by
  simp only[RV]at r⊢;obtain⟨⟨b,hb,e⟩,hz⟩:=r;obtain⟨a1,a2,a3,_⟩:=h.obj id b hb;exact⟨⟨b,a1,by rw[a2,a3];exact e⟩,hz⟩
 |.pim cs off,x,O,r,_=>by
  simp only[RV]at r⊢;obtain⟨⟨b,o,e,hrc,hp⟩,hz⟩:=r;exact⟨⟨b,o,e,hrc.ext h (.inr hp),λj hj=>(h.pm b _ (hp j hj)).1⟩,hz⟩
 |.sl id off len,x,O,r,_=>by
  simp only[RV]at r⊢;obtain⟨r,hz⟩:=r;rcases r with r|⟨b,cap,hb,e,hl,hs⟩
  .exact⟨.inl r,hz⟩
  .obtain⟨a1,a2,a3,a4⟩:=h.obj id b hb;exact⟨.inr ⟨b,cap,a1,by rw[a2,a3];exact e,hl,by rw[a2,a3,a4];exact hs⟩,hz⟩
 |.fn f a c,x,O,r,_=>by
  simp only[RV]at r⊢;obtain⟨⟨xs,ys,e,ra,rc⟩,hz⟩:=r;exact⟨⟨xs,ys,e,RVs.ext h a _ _ ra s_,RVs.ext h c _ _ rc s_⟩,hz⟩
 |.nilf,_,_,r,_=>by simpa only[RV] using r
 |.yield l,x,O,r,_=>by
  simp only[RV]at r⊢;obtain⟨⟨b,hb,e⟩,hz⟩:=r;exact⟨⟨b,(h.obj l b hb).1,e⟩,hz⟩
theorem RVs.ext {g g':Gh}{w w':World}{S:Nat->Prop}(h:bQ g w g' w' S):∀(vs:D_) (xs:N_) (O:Nat->Nat),
  RVs g w vs xs O->(∀b,O b≠0->¬S b)->RVs g' w' vs xs O
 |[],_,_,r,_=>by simpa only[RVs] using r
 |v::vs,xs,O,r,hO=>by
  simp only[RVs]at r⊢;obtain⟨x,s,O1,O2,e,r1,r2,hs⟩:=r;exact⟨x,s,O1,O2,e,RV.ext h v x O1 r1 (λb hb=>hO b (by rw[hs b];omega)),RVs.ext h vs s O2 r2 (λb hb=>hO b (by rw[hs b];omega)),hs⟩
end
abbrev bZ:=@List.pairwise_cons
abbrev bj:=@if_true
abbrev ac:=@if_pos
abbrev zero:Nat->Nat:=λ_=>0
def cX {α:Type}(l:List (Nat×α)):Prop:=l.Pairwise λa b=>HJ a.1 b.1
def HJ.tr {a b c:Nat}(h:HJ a b)(k:HJ b c):HJ a c:=o_
def HJ.ne {a b:Nat}(h:HJ a b):b≠a:=o_
def aye (a b:Nat):HJ a b∨a=b∨HJ b a:=o_
def HJ.of {i k:Nat}(h:¬k=i)(l:acf i k):HJ i k:=o_
def HJ.of' {i k:Nat}(h:¬k=i)(l:¬acf i k):HJ k i:=o_
section
variable {α:Type}
def am7 {l:List (Nat×α)}{i:Nat}{p:Nat×α}(h:p∈del l i):p∈l∧p.1≠i:=by
 induction l<;>grind [abq,pc]
theorem cX.del {l:List (Nat×α)}(h:cX l)(i:Nat):cX (Vm.del l i):=by
 induction l with
 |nil=>grind [abq]
 |cons a r ih =>
  have hr:=bZ.1 h;rw[pc];split
  .exact ih hr.2
  .exact bZ.2 ⟨λp hp=>hr.1 p (am7 hp).1,ih hr.2⟩
def tA {l:List (Nat×α)}{i:Nat}(h:∀p∈l,p.1≠i):del l i=l:=by
 induction l with
 |nil=>rfl
 |cons a r ih =>
  grind [pc]
def abK {l:List (Nat×α)}{i:Nat}{x:α}{p:Nat×α}(h:p∈put l i x):p=(i,x)∨p∈l:=by
 induction l<;>grind [abi,xE]
theorem cX.put {l:List (Nat×α)}(h:cX l)(i:Nat)(x:α):cX (Vm.put l i x):=by
 induction l with
 |nil=>simp[abi,cX]
 |cons a r ih =>
  have hr:=bZ.1 h;rw[xE];split
  .rename_i e;subst e;exact bZ.2 ⟨hr.1,hr.2⟩
  .split
   .refine bZ.2 ⟨λp hp=>?_,h⟩
    grind
   .refine bZ.2 ⟨λp hp=>?_,ih hr.2⟩;rcases abK hp with rfl|hp<;>grind
end
def RL {α:Type}(Q:Nat->α->(Nat->Nat)->Prop):List (Nat×α)->(Nat->Nat)->Prop
 |[],O=>∀b,O b=0
 |(k,v)::r,O=>∃O1 O2,Q k v O1∧RL Q r O2∧∀b,O b=O1 b+O2 b
section
variable {α:Type}{Q Q':Nat->α->(Nat->Nat)->Prop}
def RL.imp' {l:List (Nat×α)}{O:Nat->Nat}(r:RL Q l O)
  (h:∀k v O1,(k,v)∈l->(∀b,O1 b<=O b)->Q k v O1->Q' k v O1):RL Q' l O:=by
 induction l generalizing O<;>grind [RL]
theorem RL.take {l:List (Nat×α)}{O:Nat->Nat}(r:RL Q l O){i:Nat}{v:α}(hg:get l i=some v) :
  ∃O1 O2,Q i v O1∧RL Q (del l i) O2∧∀b,O1 b+O2 b<=O b:=by
 induction l generalizing O with
 |nil=>grind [Bj]
 |cons a r' ih =>
  obtain⟨k,u⟩:=a;obtain⟨O1,O2,q,rr,hs⟩:=r;rw[ju]at hg;rw[pc];by_cases e:k=i
  .subst e;simp only[bj]at hg⊢;have:∃O3,RL Q (del r' k) O3∧∀b,O3 b<=O2 b:=by
    clear ih hs q
    induction r' generalizing O2 with
    |nil=>exact⟨O2,rr,λ_=>ak _⟩
    |cons a r'' ih2 =>
     obtain⟨P1,P2,q',rr',hs'⟩:=rr;obtain⟨O3,r3,h3⟩:=ih2 P2 rr';rw[pc];split
     .grind
     .exact⟨λb=>P1 b+O3 b,⟨P1,O3,q',r3,λ_=>rfl⟩,λb=>by simp_all⟩
   grind
  .simp only[aa e]at hg⊢;obtain⟨P1,P2,q',rr',hs'⟩:=ih rr hg;exact⟨P1,λb=>O1 b+P2 b,q',⟨O1,P2,q,rr',λ_=>rfl⟩,λb=>by grind⟩
def RL.drop {l:List (Nat×α)}{O:Nat->Nat}(r:RL Q l O)(i:Nat):∃O2,RL Q (del l i) O2∧∀b,O2 b<=O b:=by
 induction l generalizing O with
 |nil=>exact⟨O,r,λ_=>ak _⟩
 |cons a r' ih =>
  obtain⟨O1,O2,q,rr,hs⟩:=r;obtain⟨O3,r3,h3⟩:=ih rr;rw[pc];split
  .grind
  .exact⟨λb=>O1 b+O3 b,⟨O1,O3,q,r3,λ_=>rfl⟩,λb=>by simp_all⟩
def RL.put {l:List (Nat×α)}(hs:cX l){i:Nat}{O1 O2:Nat->Nat}(r:RL Q (del l i) O2){x:α}(q:Q i x O1) :
  ∃O,RL Q (Vm.put l i x) O∧∀b,O b=O1 b+O2 b:=by
 induction l generalizing O2 with
 |nil=>exact⟨λb=>O1 b+O2 b,⟨O1,O2,q,r,λ_=>rfl⟩,λ_=>rfl⟩
 |cons a r' ih =>
  obtain⟨k,u⟩:=a;have hp:=bZ.1 hs;rw[xE];by_cases e:k=i
  .subst e;simp only[bj];rw[pc,ac rfl,tA λp hp'=>(hp.1 p hp').ne]at r;exact⟨λb=>O1 b+O2 b,⟨O1,O2,q,r,λ_=>rfl⟩,λ_=>rfl⟩
  .simp only[aa e];rw[pc,aa e]at r;split
   .rename_i hle;have hlt:HJ i k:=.of e hle;rw[tA λp hp'=>(hlt.tr (hp.1 p hp')).ne]at r;exact⟨λb=>O1 b+O2 b,⟨O1,O2,q,r,λ_=>rfl⟩,λ_=>rfl⟩
   .obtain⟨P1,P2,q',rr',hs'⟩:=r;obtain⟨O,ro,ho⟩:=ih hp.2 rr';exact⟨λb=>P1 b+O b,⟨P1,O,q',ro,λ_=>rfl⟩,λb=>by grind⟩
theorem RL.get {l:List (Nat×α)}{O:Nat->Nat}(r:RL Q l O){i:Nat}{v:α}(hg:Vm.get l i=some v) :
  ∃O1,Q i v O1∧∀b,O1 b<=O b:=by
 grind [take]
end
theorem gn {xs:E_}{m:Nat}(h:∀e∈xs,e.length=m):xs.flatten.length=xs.length*m:=by
 induction xs<;>grind
def jw.nil (w:World)(pm:Nat->Nat->Prop)(b off:Nat):jw w pm [] b off:=λj c h=>by simp at h
theorem jw.rd {w:World}{pm:Nat->Nat->Prop}{xs:E_}{b off m cap:Nat}(hm:0<m)(hcap:xs.length<=cap)(hl:∀e∈xs,e.length=m)
  (hc:jw w pm xs.flatten b off)(hp:∀j,j<xs.length*m->pm b (off+j)):RD w pm (.lst xs) (.slice (some ⟨b,off,none⟩) xs.length cap):=by
 refine .lst xs b off m cap (λj=>(w.cell? ⟨b,off+j,none⟩).getD (.bool false)) hm hcap hl (λj c hj=>?_) (λj c hj=>?_)
 .obtain⟨u,hu,_⟩:=hc j c hj
  grind [gn]
 .obtain⟨u,hu,hr⟩:=hc j c hj
  simp_all
mutual
theorem RV.share {g:Gh}{w:World}:∀(v:AV) (x:Value) (O:Nat->Nat),RV g w v x O->RV g w (share v) x zero
 |.own false m xs,x,O,r=>by
  simp only[RV,Vm.share]at r⊢;refine⟨?_,λ_=>by trivial⟩;rcases r with ⟨rfl,_,a,rfl⟩|⟨b,off,cap,c,el,rfl,hcap,hm,hl,hb,hsz,hrc,hpm,hp,rfl⟩
  .exact .nil a 0
  .exact hrc.rd hm hcap hl (hp rfl)
 |.own true m xs,x,O,r=>by simp[RV,Vm.share]
 |.agg cs,x,O,r=>by
  simp only[RV,Vm.share]at r⊢;obtain⟨xs,e,r⟩:=r;exact⟨xs,e,RVs.share cs _ O r⟩
 |.tup cs,x,O,r=>by
  simp only[RV,Vm.share]at r⊢;obtain⟨xs,e,r⟩:=r;exact⟨xs,e,RVs.share cs _ O r⟩
 |.junk,_,_,r=>by simp[RV,Vm.share]
 |.d c,_,_,r=>by simp only[RV,Vm.share]at r⊢;exact⟨r.1,λ_=>by trivial⟩
 |.nl,_,_,r=>by simp only[RV,Vm.share]at r⊢;exact⟨r.1,λ_=>by trivial⟩
 |.gl n,_,_,r=>by simp only[RV,Vm.share]at r⊢;exact⟨r.1,λ_=>by trivial⟩
 |.nilp,_,_,r=>by simp only[RV,Vm.share]at r⊢;exact⟨r.1,λ_=>by trivial⟩
 |.ptr _ _,_,_,r=>by simp only[RV,Vm.share]at r⊢;exact⟨r.1,λ_=>by trivial⟩
 |.pel _ _ _,_,_,r=>by simp only[RV,Vm.share]at r⊢;exact⟨r.1,λ_=>by trivial⟩
 |.pim _ _,_,_,r=>by simp only[RV,Vm.share]at r⊢;exact⟨r.1,λ_=>by trivial⟩
 |.sl _ _ _,_,_,r=>by simp only[RV,Vm.share]at r⊢;exact⟨r.1,λ_=>by trivial⟩
 |.fn _ _ _,_,_,r=>by simp only[RV,Vm.share]at r⊢;exact⟨r.1,λ_=>by trivial⟩
 |.nilf,_,_,r=>by simp only[RV,Vm.share]at r⊢;exact⟨r.1,λ_=>by trivial⟩
 |.yield _,_,_,r=>by simp only[RV,Vm.share]at r⊢;exact⟨r.1,λ_=>by trivial⟩
theorem RVs.share {g:Gh}{w:World}:∀(vs:D_) (xs:N_) (O:Nat->Nat),RVs g w vs xs O->RVs g w (shareAll vs) xs zero
 |[],_,_,r=>by simp only[RVs,agA]at r⊢;exact⟨r.1,λ_=>by trivial⟩
 |v::vs,xs,O,r=>by
  simp only[RVs,qi]at r⊢;obtain⟨x,s,O1,O2,e,r1,r2,_⟩:=r;exact⟨x,s,zero,zero,e,RV.share v x O1 r1,RVs.share vs s O2 r2,λ_=>by trivial⟩
end
abbrev ae:=@Option.some.injEq
abbrev aR:=@Prod.mk.injEq
def ng:cJ->Option Code
 |.normal=>none
 |.exit i=>some (.exit i)
 |.goto l=>some (.goto l)
 |.ret=>some .ret
abbrev kY (g:Gh)(w:World)(e:aZ)(t:F_)(O:Nat->Nat):Prop :=
 RL (λk v O=>k<t.size∧RV g w v (t.getD k undef) O) e O
def kA (P:Program)(g:Gh)(w:World)(id:Nat):Obj->(Nat->Nat)->Prop
 |.cells cs,O=>∃b c el O1,g.obj id=some b∧g.base id=0∧g.esz id=1∧g.bsz id=cs.length∧
   w.heap[b]?=some (.cells c el (0,0))∧RVs g w cs c.toList O1∧(∀o,¬g.pm b o)∧∀x,O x=O1 x+one b x
 |.arr m xs,O=>(xs=[]∧g.bsz id=0∧g.esz id=m∧0<m∧(∃b,g.obj id=some b)∧∀b,O b=0)∨
   ∃b c el,g.obj id=some b∧g.esz id=m∧0<m∧w.heap[b]?=some (.cells c el (0,0))∧g.bsz id<=c.size∧
    g.base id+xs.length*m<=g.bsz id∧(∀e∈xs,e.length=m)∧jw w g.pm xs.flatten b (g.base id)∧(∀o,¬g.pm b o)∧∀x,O x=one b x
 |.loop snap params assign body busy pend,O=>∃b,∃rc:Go.Loop,g.obj id=some b∧w.heap[b]?=some (.loop rc)∧
   rc.state=(if busy then .busy else if pend.isNone then .ready else .done)∧rc.pending=pend.bind ng∧rc.params=params.toArray∧
   Mt P rc.tmps.size assign rc.assign∧Mt P rc.tmps.size body rc.body∧cX snap∧kY g w snap rc.tmps zero∧(∀p∈params,p<rc.tmps.size)∧
   ∀x,O x=one b x
abbrev CY (P:Program)(g:Gh)(w:World)(h:am)(O:Nat->Nat):Prop:=RL (kA P g w) h O
structure S (P:Program)(g:Gh)(w:World)(st:St)(t:F_)(O:Nat->Nat):Prop where
 se:cX st.env
 sh:cX st.hs.heap
 parts:∃Oe Oh,kY g w st.env t Oe∧CY P g w st.hs.heap Oh∧∀b,O b=Oe b+Oh b
 le:∀b,O b<=1
 hi:∀b,O b≠0->b<w.heap.size
 fresh:∀id,st.hs.next<=id->g.obj id=none
 pmlt:∀b o,g.pm b o->b<w.heap.size
def ev (t:F_):Operand->Value
 |.tmp i=>t.getD i undef
 |.const v=>v
 |.global g=>.pointer (some ⟨g,0,none⟩)
 |.func f=>.func (.func f) #[] #[]
def FE {a b:IntKind}(h:ph a b=true):a=b:=by
 cases a<;>cases b<;>first|rfl|grind [ph]
theorem RD.const {w:World}{pm:Nat->Nat->Prop}{c:D}{v:Value}(h:okD c v=true):RD w pm c v:=by
 unfold okD at h;split at h
 .simp only[af,decide_eq_true_eq]at h;obtain⟨h1,rfl⟩:=h;rw[FE h1];exact .int _ _
 .simp only[beq_iff_eq]at h;subst h;exact .bool _
 .rename_i s t;simp only[beq_iff_eq]at h;subst h;have:=RD.str (w:=w) (pm:=pm) t.data.toList;omega
 .exact .nil _ _
 simp_all
theorem RV.const1 {g:Gh}{w:World}{c:AV}{v:Value}(h:N2 c v=true):RV g w c v zero:=by
 unfold N2 at h
 grind [RV,RD.const]
theorem RVs.consts {g:Gh}{w:World}:∀{cs:D_}{vs:N_},pi cs vs=true->RVs g w cs vs zero
 |[],[],_=>by grind [RVs]
 |c::cs,v::vs,h=>by
  simp only[pi,af]at h;exact⟨v,vs,zero,zero,rfl,.const1 h.1,RVs.consts h.2,λ_=>rfl⟩
 |[],_::_,h=>by grind [pi]
 |_::_,[],h=>by grind [pi]
def RV.const {g:Gh}{w:World}{c:AV}{v:Value}(h:abJ c v=true):RV g w c v zero:=by
 unfold abJ at h
 grind [RV,RVs.consts,const1]
section
variable {P:Program}{g:Gh}{w:World}{t:F_}{O:Nat->Nat}
def S.of_env {st:St}(s:S P g w st t O){Oe Oh O':Nat->Nat}{e':aZ}(re:kY g w e' t Oe)(rh:CY P g w st.hs.heap Oh)(hse:cX e')
  (ho:∀b,O' b=Oe b+Oh b)(hle:∀b,O' b<=O b):S P g w ⟨e',st.hs⟩ t O' :=
 ⟨hse,s.sh,⟨Oe,Oh,re,rh,ho⟩,λb=>aM (hle b) (s.le b),λb hb=>s.hi b d_,s.fresh,s.pmlt⟩
theorem S.rd {st:St}(s:S P g w st t O){r:Rd}{o:Operand}(hc:cR r o=true){v:AV}{e':aZ}(h:rd st.env r=some (v,e')) :
  ∃Ov O',RV g w v (ev t o) Ov∧S P g w ⟨e',st.hs⟩ t O'∧∀b,Ov b+O' b<=O b:=by
 obtain⟨Oe,Oh,re,rh,ho⟩:=s.parts
 cases r with
 |c c =>
  simp only[Vm.rd,ae,aR]at h;obtain⟨rfl,rfl⟩:=h;refine⟨zero,O,?_,s,λb=>by simp⟩
  cases o with
  |const x=>exact .const hc
  |func f =>
   cases c<;>try (simp[cR]at hc;done)
   rename_i f' a c
   cases a<;>try (simp[cR]at hc;done)
   cases c<;>try (simp[cR]at hc;done)
   grind [cR,Nat.beq_eq,RV,ev,RVs]
  |tmp i=>simp[cR]at hc
  |global i=>simp[cR]at hc
 |s i =>
  cases o<;>try (simp[cR]at hc;done)
  simp only[cR,aD]at hc;subst hc;simp only[Vm.rd]at h
  cases hg:get st.env i with
  |none=>simp_all
  |some u =>
   simp only[hg,ae,aR]at h;obtain⟨rfl,rfl⟩:=h;obtain⟨O1,⟨_,q⟩,hq⟩:=RL.get re hg;exact⟨zero,O,RV.share u _ O1 q,s,λb=>by simp⟩
 |m i =>
  cases o<;>try (simp[cR]at hc;done)
  simp only[cR,aD]at hc;subst hc;simp only[Vm.rd]at h
  cases hg:get st.env i with
  |none=>simp_all
  |some u =>
   simp only[hg,ae,aR]at h;obtain⟨rfl,rfl⟩:=h;obtain⟨O1,O2,⟨_,q⟩,r2,hs⟩:=RL.take re hg;refine⟨O1,λb=>O2 b+Oh b,q,s.of_env r2 rh (s.se.del i) (λ_=>rfl) (λb=>?_),λb=>?_⟩
   all_goals grind
theorem S.rdAll {st:St}{rs:U_}{os:List Operand}(hc:eU rs os=true){vs:D_}{e':aZ}(s:S P g w st t O)(h:rdAll st.env rs=some (vs,e')) :
  ∃Ov O',RVs g w vs (os.map (ev t)) Ov∧S P g w ⟨e',st.hs⟩ t O'∧∀b,Ov b+O' b<=O b:=by
 induction rs generalizing os vs st O with
 |nil =>
  cases os<;>simp[eU]at hc
  obtain⟨rfl,rfl⟩:=h;exact⟨zero,O,by simp[RVs],s,λb=>by simp⟩
 |cons r rs ih =>
  cases os with
  |nil=>simp[eU]at hc
  |cons o os =>
   simp only[eU,af]at hc;simp only[Vm.rdAll]at h
   cases h1:Vm.rd st.env r with
   |none=>simp_all
   |some p =>
    obtain⟨v,e1⟩:=p;simp only[h1]at h
    cases h2:Vm.rdAll e1 rs with
    |none=>simp_all
    |some p =>
     simp only[h2,ae,aR]at h;obtain⟨rfl,rfl⟩:=h;obtain⟨O1,O2,rv,s2,l2⟩:=s.rd hc.1 h1;obtain⟨O3,O4,rvs,s4,l4⟩:=ih (st:=⟨e1,st.hs⟩) hc.2 s2 h2;refine⟨λb=>O1 b+O3 b,O4,?_,s4,λb=>?_⟩
     all_goals grind [RVs]
end
structure az4 (P:Program)(g:Gh)(w:World)(t:F_)(O:Nat->Nat)(st':St)(a:AV)(res:Result Next)(x:Value)(w':World)(g':Gh)(Oa O':Nat->Nat):Prop where
 run:res=.ok (.value x) w'∨(res=.ok .skip w'∧x=undef)
 val:RV g' w' a x Oa
 st:S P g' w' st' t O'
 ext:bQ g w g' w' λb=>O b≠0
 le:∀b,Oa b+O' b<=1
 old:∀b,b<w.heap.size->Oa b+O' b<=O b
 hi:∀b,Oa b≠0->b<w'.heap.size
def fS (P:Program)(g:Gh)(w:World)(t:F_)(O:Nat->Nat)(st':St)(a:AV)(res:Result Next):Prop :=
 ∃x w' g' Oa O',az4 P g w t O st' a res x w' g' Oa O'
section
variable {P:Program}{g:Gh}{w:World}{t:F_}{O:Nat->Nat}{st st':St}{a:AV}{o:Oper}
theorem fS.pure {res:Result Next}{x:Value}{Oa O':Nat->Nat}(s0:S P g w st t O)(h:res=.ok (.value x) w)(r:RV g w a x Oa)
  (s:S P g w st' t O')(hle:∀b,Oa b+O' b<=O b):fS P g w t O st' a res :=
 ⟨x,w,g,Oa,O',.inl h,r,s,.refl _ _ _,λb=>aM (hle b) (s0.le b),λb _=>hle b,λb hb=>s0.hi b d_⟩
theorem fS.flat {res:Result Next}{x:Value}{O':Nat->Nat}(s0:S P g w st t O)(h:res=.ok (.value x) w)(r:RV g w a x zero)
  (s:S P g w st' t O')(hle:∀b,O' b<=O b):fS P g w t O st' a res :=
 .pure s0 h r s λb=>by simp_all
def S.le_left {O' Ov:Nat->Nat}(h:∀b,Ov b+O' b<=O b):∀b,O' b<=O b:=λb=>by grind
def Rl {e:aZ}{r:Rd}{α:Type}{k:AV->aZ->Option α}{y:α}
  (h:(match rd e r with|some (v,e)=>k v e|none=>none)=some y):∃v e',rd e r=some (v,e')∧k v e'=some y:=by
 grind
def azC {x:Rd}(s:S P g w st t O)(h:Ui x st=some (a,st'))(hc:bG P (.mov x) o.op=true) :
  fS P g w t O st' a ((execOp (ev t) o).run P w):=by
 obtain⟨v,e',h1,h2⟩:=Rl h;obtain⟨rfl,rfl⟩:=h2;obtain⟨dst,op,ty,pos,aft,gd⟩:=o;simp only[bG]at hc;split at hc
 .obtain⟨Ov,O',rv,s',l⟩:=s.rd hc h1;exact .pure s (by simp[execOp]) rv s' l
 .obtain⟨Ov,O',rv,s',l⟩:=s.rd hc h1;exact .pure s (by simp[execOp]) rv s' l
 .rename_i c;simp only[af]at hc;obtain⟨⟨⟨hb,ha⟩,ht⟩,hx⟩:=hc
  cases x with
  |s i=>simp at hx
  |m i=>simp at hx
  |c y =>
   split at hx
   .rename_i n hy
    cases hu:P.underlying (tI c) with
    |none=>simp_all
    |some d =>
     cases d<;>simp[hu]at hx
     rename_i l e;injection hy with hy
     subst hy;subst hx;obtain⟨rfl,rfl⟩:=h1;obtain⟨callee,args,argTypes⟩:=c;have hcal:callee=.builtin .len:=by
      cases callee<;>simp[qk,Qa]at hb
      simp_all
     subst hcal;have hty:argTypes[0]?=some (tI ⟨.builtin .len,args,argTypes⟩):=by
      simp_all [tI]
     have hargs:∃z,(args.map (ev t))[0]?=some z:=by
      simp_all
     obtain⟨z,hz⟩:=hargs;refine .flat s (x:=.int .i64 l) ?_ (by simp only[RV];exact⟨.int _ _,λ_=>trivial⟩) s (λb=>ak _);simp[execOp,resolve,invoke,builtin,Builtin.len_,hty,hz,underlying,hu,goInt]
   simp_all
 simp_all
def axy {c x y:Rd}(s:S P g w st t O)(h:lM c x y st=some (a,st'))(hc:bG P (.pick c x y) o.op=true) :
  fS P g w t O st' a ((execOp (ev t) o).run P w):=by
 obtain⟨dst,op,ty,pos,aft,gd⟩:=o;simp only[bG]at hc;split at hc
 .rename_i c' a' b';simp only[af]at hc;obtain⟨⟨h1,h2⟩,h3⟩:=hc;unfold lM at h
  cases hr:rd st.env c with
  |none=>simp_all
  |some p =>
   obtain⟨v,e1⟩:=p;obtain⟨Ov,O1,rv,s1,l1⟩:=s.rd h1 hr;simp only[hr]at h
   cases v<;>try (simp at h;done)
   rename_i d
   cases d<;>try (simp at h;done)
   rename_i tb;have hev:ev t c'=.bool tb:=by
    obtain⟨rv,_⟩:=rv;generalize ev t c'=z at rv;cases rv;rfl
   obtain⟨v,e2,h4,h5⟩:=Rl h;obtain⟨rfl,rfl⟩:=h5
   cases tb with
   |true =>
    obtain⟨Ov2,O2,rv2,s2,l2⟩:=s1.rd h2 h4;exact .pure s (by simp_all [execOp,asBool]) rv2 s2 λb=>by grind
   |false =>
    obtain⟨Ov2,O2,rv2,s2,l2⟩:=s1.rd h3 h4;exact .pure s (by simp_all [execOp,asBool]) rv2 s2 λb=>by grind
 simp_all
def atP {x:Rd}(s:S P g w st t O)(h:Ia x st=some (a,st'))(hc:bG P (.nilck x) o.op=true) :
  fS P g w t O st' a ((execOp (ev t) o).run P w):=by
 obtain⟨dst,op,ty,pos,aft,gd⟩:=o;simp only[bG]at hc;split at hc
 .obtain⟨v,e',h1,h2⟩:=Rl h;obtain⟨Ov,O',rv,s',l⟩:=s.rd hc h1
  cases v<;>simp only[ae,aR,reduceCtorEq]at h2
  all_goals
   obtain⟨rfl,rfl⟩:=h2;refine .pure s ?_ rv s' l;simp only[RV]at rv
  .obtain⟨⟨b,_,e⟩,_⟩:=rv;simp[execOp,e]
  .obtain⟨⟨b,_,e⟩,_⟩:=rv;simp[execOp,e]
  .obtain⟨⟨b,o,e,_⟩,_⟩:=rv;simp[execOp,e]
  .obtain⟨⟨xs,ys,e,_⟩,_⟩:=rv;simp[execOp,e]
  .obtain⟨⟨b,_,e⟩,_⟩:=rv;simp[execOp,e]
 simp_all
theorem am4 {k:IntKind}{n:Int}(h1:k.min<=n)(h2:n<=k.max):k.wrap n=n:=by
 cases k<;>simp[IntKind.min,IntKind.max,IntKind.signed,IntKind.bits]at h1 h2<;>
  simp[IntKind.wrap,IntKind.bits,IntKind.signed]<;>
  first|omega|(split<;>omega)
def Pb (k:IntKind)(n:Int):wr k n=k.wrap n:=by
 have H:∀lo hi:Int,lo=k.min->hi=k.max->oW lo hi k n=k.wrap n:=by
  grind [oW,am4]
 cases k<;>first|rfl|exact H _ _ k_ (by decide)
def zH {v:AV}{x:Value}{Ov:Nat->Nat}{k:IntKind}{n:Int}(r:RV g w v x Ov)(h:v=.d (.int k n)):x=.int k n:=by
 subst h;cases r.1;rfl
def awT {k:IntKind}{x:Rd}(s:S P g w st t O)(h:Iu k x st=some (a,st'))(hc:bG P (.conv k x) o.op=true) :
  fS P g w t O st' a ((execOp (ev t) o).run P w):=by
 obtain⟨dst,op,ty,pos,aft,gd⟩:=o;simp only[bG]at hc;split at hc
 .rename_i src ds y;simp only[af]at hc;obtain⟨⟨h1,h2⟩,h3⟩:=hc;unfold Iu at h
  cases hr:rd st.env x with
  |none=>simp_all
  |some p =>
   obtain⟨v,e1⟩:=p;obtain⟨Ov,O1,rv,s1,l1⟩:=s.rd h3 hr;simp only[hr]at h
   cases v<;>try (simp at h;done)
   rename_i d
   cases d<;>try (simp at h;done)
   rename_i j n;obtain⟨rfl,rfl⟩:=h;have hx:=zH rv rfl;simp only[aqM]at h1;simp only[KS]at h2
   cases hd:P.underlying ds with
   |none=>simp_all
   |some dd =>
    cases dd<;>simp[hd]at h1
    have:=FE h1
    cases hs:P.underlying src with
    |none=>simp_all
    |some sd =>
     refine .flat s (x:=.int _ (IntKind.wrap _ n)) ?_ (by simp only[RV];exact⟨by rw[Pb];exact .int _ _,λ_=>trivial⟩) s1 (S.le_left l1)
     simp_all [execOp,convert,underlying,Conv.intToInt]
 simp_all
end
abbrev eY:=@List.drop_eq_getElem_cons
abbrev aT:=@Sem.run_bind
abbrev bw:=@Result.andThen_ok
abbrev wt:=@Nat.le_of_ble_eq_true
section
variable {P:Program}{g:Gh}{w:World}{t:F_}{O:Nat->Nat}{st st':St}{a:AV}{o:Oper}
def Bw {v:AV}{x:Value}{Ov:Nat->Nat}{b:Bool}(r:RV g w v x Ov)(h:v=B_ b):x=.bool b:=by
 subst h;obtain⟨r,_⟩:=r;cases r;rfl
def agj {v:AV}{x:Value}{Ov:Nat->Nat}{s:BC_}(r:RV g w v x Ov)(h:v=.d (.str s)):x=.string ⟨s.toArray⟩:=by
 subst h;obtain⟨r,_⟩:=r;cases r;rfl
def uW (k:IntKind)(n:Int):RV g w (.d (.int k n)) (.int k n) zero:=by simp only[RV];exact⟨.int _ _,λ_=>trivial⟩
theorem H8 (b:Bool):RV g w (B_ b) (.bool b) zero:=by simp only[RV];exact⟨.bool _,λ_=>trivial⟩
def Rr {x y:Rd}{x' y':Operand}(s:S P g w st t O)(hx:cR x x'=true)(hy:cR y y'=true){β:Type}{k:AV->AV->aZ->Option β}{r:β}
  (h:(match rd st.env x with
   |some (a,e)=>(match rd e y with
    |some (b,e)=>k a b e
    |none=>none)
   |none=>none)=some r) :
  ∃a b e Oa Ob O',RV g w a (ev t x') Oa∧RV g w b (ev t y') Ob∧S P g w ⟨e,st.hs⟩ t O'∧(∀c,Oa c+Ob c+O' c<=O c)∧k a b e=some r:=by
 grind [S.rd]
def Y9 (op:BinOp)(ty:TypeId)(x y:Operand)(k j:IntKind)(m n:Int):(eqGuard op ty x y (.int k m) (.int j n)).run P w=.ok () w:=by
 simp_all [eqGuard]
def WI (op:BinOp)(ty:TypeId)(x y:Operand)(m n:Bool):(eqGuard op ty x y (.bool m) (.bool n)).run P w=.ok () w:=by
 simp_all [eqGuard]
def Y8 (op:BinOp)(ty:TypeId)(x y:Operand)(m n:ByteArray):(eqGuard op ty x y (.string m) (.string n)).run P w=.ok () w:=by
 simp_all [eqGuard]
def awQ (bs:ByteArray):∀(n i:Nat) (r:BC_),bs.size-i=n->ByteArray.toList.loop bs i r=r.reverse++bs.data.toList.drop i:=by
 intro n
 induction n with
 |zero =>
  intro i r h;rw[ByteArray.toList.loop];have hi:¬i<bs.size:=o_;have:bs.data.toList.length<=i:=u_
  grind [List.drop_eq_nil_of_le]
 |succ n ih =>
  intro i r h;have hi:i<bs.size:=o_;rw[ByteArray.toList.loop];rw[ih (i+1) _ o_];have hd:bs.data.toList.drop i=bs.get! i::bs.data.toList.drop (i+1):=by
   have hl:i<bs.data.toList.length:=hi;rw[eY hl]
   congr 1
   show _=bs.data.get!Internal i
   simp_all
  simp_all
def Si (s:BC_):(⟨s.toArray⟩:ByteArray).toList=s:=by
 unfold ByteArray.toList
 simp_all [awQ]
def aee {op:BinOp}{k j:IntKind}{m n:Int}{d:D}(h:Ib op k m n=some d) :
  ∃x,(Op.shift op k m j n).run P w=.ok x w∧RD w g.pm d x:=by
 unfold Ib at h;split at h
 .simp at h
 .have hn':¬n<0:=u_;unfold Op.shift
  cases op<;>simp only[reduceCtorEq,ae]at h
  .subst h;refine⟨.int k (k.wrap (m*2 ^ min n.toNat k.bits)),?_,?_⟩
   .simp[hn']
   .rw[Pb];exact .int _ _
  .subst h;refine⟨.int k (m.fdiv (2 ^ min n.toNat k.bits)),?_,?_⟩
   .simp[hn']
   .exact .int _ _
def ar6 {op:BinOp}(hs:op≠.shl)(hs':op≠.shr){ty:TypeId}{k:IntKind}{m n:Int}{d:D}(h:jR op k m n=some d) :
  ∃x,(binOp op ty (.int k m) (.int k n)).run P w=.ok x w∧RD w g.pm d x:=by
 cases op<;>simp only[jR,Ge,reduceCtorEq,ae]at h<;>(try exact absurd rfl hs)<;>(try exact absurd rfl hs')
 .subst h;rw[Pb];exact⟨_,by simp[binOp,Op.intArith],.int _ _⟩
 .subst h;rw[Pb];exact⟨_,by simp[binOp,Op.intArith],.int _ _⟩
 .subst h;rw[Pb];exact⟨_,by simp[binOp,Op.intArith],.int _ _⟩
 .split at h
  .simp at h
  .rename_i hn;simp only[ae]at h;subst h;rw[Pb];exact⟨_,by simp_all [binOp,Op.intDiv],.int _ _⟩
 .split at h
  .simp at h
  .rename_i hn;simp only[ae]at h;subst h;exact⟨_,by simp_all [binOp,Op.intDiv],.int _ _⟩
 .subst h;exact⟨_,by simp[binOp,Op.intBits],.int _ _⟩
 .subst h;exact⟨_,by simp[binOp,Op.intBits],.int _ _⟩
 .subst h;exact⟨_,by simp[binOp,Op.intBits],.int _ _⟩
 .subst h;exact⟨_,by simp[binOp,Op.intBits],.int _ _⟩
 .subst h;exact⟨_,by simp[binOp,Op.intCmp];rfl,by exact .bool _⟩
 .subst h;exact⟨_,by simp[binOp,Op.intCmp];rfl,by exact .bool _⟩
 .subst h;exact⟨_,by simp[binOp,Op.intCmp];rfl,by exact .bool _⟩
 .subst h;exact⟨_,by simp[binOp,Op.intCmp];rfl,by exact .bool _⟩
 .subst h;exact⟨_,by simp[binOp,Op.intCmp];rfl,by exact .bool _⟩
 .subst h;exact⟨_,by simp[binOp,Op.intCmp];rfl,by exact .bool _⟩
def ayM {op:BinOp}{ty:TypeId}{va vb r:AV}{x y:Value}{Oa Ob:Nat->Nat}(ra:RV g w va x Oa)(rb:RV g w vb y Ob)(h:dL op va vb=some r)
  (x' y':Operand):∃z,((do eqGuard op ty x' y' x y;binOp op ty x y:Sem Value)).run P w=.ok z w∧RV g w r z zero:=by
 unfold dL at h;split at h
 .rename_i k m j n;have hx:=zH ra rfl;have hy:=zH rb rfl;subst hx hy;simp only[aT,Y9,bw];split at h
  .rename_i d hd;simp only[ae]at h;subst h;have fin:(∃z,(binOp op ty (.int k m) (.int j n)).run P w=.ok z w∧RD w g.pm d z)->
     ∃z,(binOp op ty (.int k m) (.int j n)).run P w=.ok z w∧RV g w (.d d) z zero :=
    λ⟨z,h1,h2⟩=>⟨z,h1,by grind [RV]⟩
   apply fin;unfold wo at hd;split at hd
   .simp_all [binOp,aee]
   .simp_all [binOp,aee]
   .rename_i h1 h2;split at hd
    .rename_i hk;have:=FE hk
     simp_all [ar6]
    simp_all
  simp_all
 .rename_i s u;have hx:=agj ra rfl;have hy:=agj rb rfl;subst hx hy;simp only[aT,Y8,bw]
  cases op<;>simp only[reduceCtorEq,ae]at h
  .split at h
   .rename_i hb;have hb2:s.length+u.length<=4294967296:=wt hb;injection h with h
    subst h;refine⟨.string (⟨s.toArray⟩++⟨u.toArray⟩),?_,?_⟩
    .have h1:(⟨s.toArray⟩:ByteArray).size=s.length:=by simp[ByteArray.size]
     have h2:(⟨u.toArray⟩:ByteArray).size=u.length:=by simp[ByteArray.size]
     have hm:¬(((s.length+u.length:Nat):Int) > IntKind.i64.max):=by
      have:IntKind.i64.max=9223372036854775807:=rfl;omega
     simp_all [binOp,Op.stringOp]
    .simp only[RV];exact⟨.str _,λ_=>trivial⟩
   simp_all
  .subst h
   simp_all [binOp,Op.stringOp,Si,H8]
  .subst h
   simp_all [binOp,Op.stringOp,Si,H8]
 simp_all
def aBg {op:BinOp}{x y:Rd}(s:S P g w st t O)(h:NX op x y st=some (a,st'))(hc:bG P (.bin op x y) o.op=true) :
  fS P g w t O st' a ((execOp (ev t) o).run P w):=by
 obtain⟨dst,opp,ty,pos,aft,gd⟩:=o;simp only[bG]at hc;split at hc
 .rename_i op' ty' x' y' yt;simp only[af,ab9,decide_eq_true_eq]at hc;obtain⟨⟨rfl,h1⟩,h2⟩:=hc;simp only[NX,Tx]at h;obtain⟨va,vb,e,Oa,Ob,O',ra,rb,s',l,hk⟩:=Rr s h1 h2 h;split at hk
  .rename_i r hr;obtain⟨rfl,rfl⟩:=hk;obtain⟨z,hz,rz⟩:=ayM (P:=P) (ty:=ty') ra rb hr x' y';refine .flat s (x:=z) ?_ rz s' λb=>by grind
   simp only[execOp];rw[aT,hz];simp
  simp_all
 simp_all
def bf {ty:TypeId}{d:TypeDesc}(h:P.underlying ty=some d):(underlying ty).run P w=.ok d w:=by simp_all [underlying]
def II {ty:TypeId}(hu:P.underlying ty=some .bool)(d:Nat)(m n:Bool):(Op.equalIn (d+1) ty (.bool m) (.bool n)).run P w=.ok (m == n) w:=by
 unfold Op.equalIn;rw[aT,bf hu];simp
def acF {ty:TypeId}(hu:P.underlying ty=some .bool)(neg:Bool)(m n:Bool) :
  (binOp (match neg with|true=>.neq|false=>.eql) ty (.bool m) (.bool n)).run P w=.ok (.bool (match neg with|true=>!(m == n)|false=>m == n)) w:=by
 have h:(Op.equal ty (.bool m) (.bool n)).run P w=.ok (m == n) w:=II hu 9999 m n
 cases neg
 .show((do pure (.bool (<-Op.equal ty (.bool m) (.bool n))):Sem Value)).run P w=_
  simp_all
 .show((do pure (.bool (!(<-Op.equal ty (.bool m) (.bool n)))):Sem Value)).run P w=_
  simp_all
def ayu {neg:Bool}{x y:Rd}(s:S P g w st t O)(h:MD neg x y st=some (a,st'))(hc:bG P (.binb neg x y) o.op=true) :
  fS P g w t O st' a ((execOp (ev t) o).run P w):=by
 obtain⟨dst,opp,ty,pos,aft,gd⟩:=o;simp only[bG]at hc;split at hc
 .simp only[af,ab9,decide_eq_true_eq]at hc;obtain⟨⟨⟨h0,hb⟩,h1⟩,h2⟩:=hc;obtain⟨va,vb,e,Oa,Ob,O',ra,rb,s',l,hk⟩:=Rr s h1 h2 h;split at hk
  .rename_i m n;obtain⟨rfl,rfl⟩:=hk;have hx:=Bw ra rfl;have hy:=Bw rb rfl;simp only[MV]at hb;split at hb
   .rename_i hu;refine .flat s (x:=_) ?_ (H8 _) s' λb=>by grind
    have h:=acF (P:=P) (w:=w) hu neg m n;simp only[execOp,hx,hy];rw[aT,aT,WI]
    cases neg
    all_goals simp_all
   simp_all
  simp_all
 simp_all
def aC9 {op:UnOp}{x:Rd}(s:S P g w st t O)(h:abY op x st=some (a,st'))(hc:bG P (.un op x) o.op=true) :
  fS P g w t O st' a ((execOp (ev t) o).run P w):=by
 obtain⟨dst,opp,ty,pos,aft,gd⟩:=o;simp only[bG]at hc;split at hc
 .rename_i op' ty' x';simp only[af,azw,decide_eq_true_eq]at hc;obtain⟨rfl,h1⟩:=hc;obtain⟨v,e,hr,hk⟩:=Rl h;obtain⟨Ov,O',rv,s',l⟩:=s.rd h1 hr;split at hk
  .rename_i r hun;simp only[ae,aR]at hk;obtain⟨rfl,rfl⟩:=hk;unfold acb at hun;split at hun
   .have hx:=zH rv rfl
    cases op<;>simp only[reduceCtorEq,ae]at hun
    .subst hun;rw[Pb];exact .flat s (x:=_) (by simp_all [execOp,Op.unary,Op.intArith]) (uW _ _) s' (S.le_left l)
    .split at hun
     .rename_i d hd;simp only[ae]at hun;subst hun;simp only[Ge,ae]at hd;subst hd;exact .flat s (x:=_) (by simp_all [execOp,Op.unary,Op.intBits]) (uW _ _) s' (S.le_left l)
     simp_all
   .have hx:=Bw rv rfl
    cases op<;>simp only[reduceCtorEq,ae]at hun
    subst hun;exact .flat s (x:=_) (by simp_all [execOp,Op.unary]) (H8 _) s' (S.le_left l)
   simp_all
  simp_all
 simp_all
end
theorem me (b off n:Nat):(⟨b,off,none⟩:Addr).add n=⟨b,off+n,none⟩:=by
 grind [Addr.add]
section
variable {g:Gh}{w:World}
theorem RVs.length {cs:D_}{xs:N_}{O:Nat->Nat}(r:RVs g w cs xs O):xs.length=cs.length:=by
 induction cs generalizing xs O<;>grind [RVs]
def RVs.split {a b:D_}{xs:N_}{O:Nat->Nat}(r:RVs g w (a++b) xs O) :
  ∃O1 O2,RVs g w a (xs.take a.length) O1∧RVs g w b (xs.drop a.length) O2∧∀c,O c=O1 c+O2 c:=by
 induction a generalizing xs O with
 |nil=>exact⟨zero,O,by simp[RVs],u_,λc=>by simp⟩
 |cons v a ih =>
  obtain⟨x,s,O1,O2,rfl,r1,r2,h⟩:=r;obtain⟨P1,P2,q1,q2,h2⟩:=ih r2;refine⟨λc=>O1 c+P1 c,P2,?_,u_,λc=>by grind⟩
  grind [RVs]
theorem RVs.join {a b:D_}{xs ys:N_}{O1 O2:Nat->Nat}(r1:RVs g w a xs O1)(r2:RVs g w b ys O2) :
  RVs g w (a++b) (xs++ys) λc=>O1 c+O2 c:=by
 induction a generalizing xs O1 with
 |nil =>
  simp_all [RVs]
 |cons v a ih =>
  grind [RVs]
def RVs.get {cs:D_}{xs:N_}{O:Nat->Nat}(r:RVs g w cs xs O){i:Nat}{v:AV}(h:cs[i]?=some v) :
  ∃x O1,xs[i]?=some x∧RV g w v x O1∧∀c,O1 c<=O c:=by
 induction cs generalizing xs O i<;>grind [RVs]
def RVs.pull {cs:D_}{xs:N_}{O:Nat->Nat}(r:RVs g w cs xs O){i:Nat}{v:AV}(h:cs[i]?=some v) :
  ∃x O1 O2,xs[i]?=some x∧RV g w v x O1∧RVs g w (cs.set i .junk) xs O2∧∀c,O1 c+O2 c=O c:=by
 induction cs generalizing xs O i with
 |nil=>simp at h
 |cons c cs ih =>
  obtain⟨x,s,O1,O2,rfl,r1,r2,hs⟩:=r
  cases i with
  |zero =>
   simp at h;subst h;refine⟨x,O1,O2,rfl,r1,?_,λc=>(hs c).symm⟩;exact⟨x,s,zero,O2,rfl,by simp[RV],r2,λc=>by simp⟩
  |succ i =>
   obtain⟨y,P1,P2,h1,h2,h3,h4⟩:=ih r2 h;refine⟨y,P1,λc=>O1 c+P2 c,u_,h2,?_,λc=>by grind⟩
   grind [RVs]
theorem RVs.sub {cs:D_}{xs:N_}{O:Nat->Nat}(r:RVs g w cs xs O)(off n:Nat) :
  ∃O1,RVs g w (Vm.sub cs off n) ((xs.drop off).take n) O1∧∀c,O1 c<=O c:=by
 have hlen:=r.length;have e:cs=cs.take off++(Vm.sub cs off n++(cs.drop off).drop n):=by
  grind [Vm.sub,List.take_append_drop]
 rw[e]at r;obtain⟨O1,O2,r1,r2,h⟩:=r.split;obtain⟨P1,P2,q1,q2,h2⟩:=r2.split;refine⟨P1,?_,λc=>by grind⟩
 grind [List.length_take,Nat.min_eq_left,Nat.min_eq_right,List.drop_eq_nil_of_le,Vm.sub,List.length_drop,List.take_of_length_le]
def RJ {v:AV}{n:Nat}{x:Value}{O:Nat->Nat}(h:lenOf v=some n)(r:RV g w v x O):∃a cap,x=.slice a n cap:=by
 unfold lenOf at h;split at h<;>simp only[ae,reduceCtorEq]at h
 .obtain⟨r,_⟩:=r
  cases r<;>simp_all
 all_goals grind [RV,DJ]
end
section
variable {P:Program}{g:Gh}{w:World}{t:F_}{O:Nat->Nat}{st st':St}{a:AV}{o:Oper}
def qu {c:Callee}{b:Builtin}(h:Qa (qk c) (some b)=true):c=.builtin b:=by
 cases c<;>simp[qk,Qa]at h
 simp_all
def ac0 {c:Call}(h:Nat.blt 0 c.argTypes.size=true):c.argTypes[0]?=some (tI c):=by
 simp_all [tI]
def apu {x:Rd}{as:Array Operand}(h:eU [x] as.toList=true):∃y,as=#[y]∧cR x y=true:=by
 obtain⟨l⟩:=as
 match l,h with
 |[],h=>simp[eU]at h
 |[y],h=>grind [eU]
 |_::_::_,h=>simp[eU]at h
def aoy {x x2:Rd}{as:Array Operand}(h:eU [x,x2] as.toList=true):∃y y2,as=#[y,y2]∧cR x y=true∧cR x2 y2=true:=by
 obtain⟨l⟩:=as
 match l,h with
 |[],h=>simp[eU]at h
 |[y],h=>simp[eU]at h
 |[y,y2],h=>grind [eU]
 |_::_::_::_,h=>simp[eU]at h
def aAU {x:Rd}(s:S P g w st t O)(h:Uh x st=some (a,st'))(hc:bG P (.len x) o.op=true) :
  fS P g w t O st' a ((execOp (ev t) o).run P w):=by
 simp only[bG]at hc;split at hc
 .simp only[af]at hc;obtain⟨⟨⟨h1,h2⟩,h3⟩,h4⟩:=hc;have:=qu h1;obtain⟨y,e1,hy⟩:=apu h4;obtain⟨v,e',h5,h6⟩:=Rl h;obtain⟨Ov,O',rv,s',l⟩:=s.rd hy h5;have hty:=ac0 h2;split at h6
  .rename_i n hn;obtain⟨rfl,rfl⟩:=h6;obtain⟨ad,cap,hx⟩:=RJ hn rv;split at h3
   .refine .flat s (x:=.int .i64 n) ?_ (uW _ _) s' (S.le_left l)
    simp_all [execOp,resolve,invoke,builtin,Builtin.len_,goInt,bf]
   simp_all
  simp_all
 simp_all
def azv {x:Rd}(s:S P g w st t O)(h:Pn x st=some (a,st'))(hc:bG P (.cap x) o.op=true) :
  fS P g w t O st' a ((execOp (ev t) o).run P w):=by
 obtain⟨dst,op,ty,pos,aft,gd⟩:=o;simp only[bG]at hc;split at hc
 .rename_i c;simp only[af]at hc;obtain⟨⟨⟨h1,h2⟩,h3⟩,h4⟩:=hc;obtain⟨callee,args,ats⟩:=c;have:=qu h1;subst this;obtain⟨y,e1,hy⟩:=apu h4;subst e1;unfold Pn at h;split at h
  .rename_i e' h5;obtain⟨Ov,O',rv,s',l⟩:=s.rd hy h5;have hty:=ac0 h2;obtain⟨rfl,rfl⟩:=h;split at h3
   .rename_i e hu;refine .flat s (x:=.int .i64 0) ?_ (uW _ _) s' (S.le_left l);simp[execOp,resolve,invoke,builtin,Builtin.cap_,hty,rv.1,bf hu,goInt]
   simp_all
  simp_all
 simp_all
def Zt {v r:AV}{off:Nat}{x:Value}{Ov:Nat->Nat}(h:iQ off v=some r)(rv:RV g w v x Ov) :
  ∃b o,x=.pointer (some ⟨b,o,none⟩)∧RV g w r (.pointer (some ⟨b,o+off,none⟩)) zero:=by
 unfold iQ at h
 grind [RV]
def aCw {off:Nat}{p:Rd}(s:S P g w st t O)(h:abz off p st=some (a,st'))(hc:bG P (.fa off p) o.op=true) :
  fS P g w t O st' a ((execOp (ev t) o).run P w):=by
 obtain⟨dst,op,ty,pos,aft,gd⟩:=o;simp only[bG]at hc;split at hc
 .simp only[af]at hc;obtain⟨h1,h2⟩:=hc;obtain⟨v,e',h5,h6⟩:=Rl h;obtain⟨Ov,O',rv,s',l⟩:=s.rd h2 h5;split at h6
  .rename_i r hr;obtain⟨rfl,rfl⟩:=h6;obtain⟨b,k,hx,rr⟩:=Zt hr rv;simp only[ane]at h1;split at h1
   .split at h1
    .split at h1
     .rename_i i hi;have hz:¬i.size=0:=by
       grind [Nat.blt_eq]
      refine .flat s (x:=_) ?_ rr s' (S.le_left l)
      simp_all [execOp,Instr.fieldAt,Instr.sureAddr,fieldPlace,sizeOf,typeInfo,me,bf]
     simp_all
    simp_all
   simp_all
  simp_all
 simp_all
def axD {f:FuncId}{first caps:U_}(s:S P g w st t O)(h:Ir f first caps st=some (a,st'))(hc:bG P (.mkfn f first caps) o.op=true) :
  fS P g w t O st' a ((execOp (ev t) o).run P w):=by
 obtain⟨dst,op,ty,pos,aft,gd⟩:=o;simp only[bG]at hc;split at hc
 .rename_i f' xs ys;simp only[af,aD]at hc;obtain⟨⟨rfl,h1⟩,h2⟩:=hc;unfold Ir at h;split at h
  .rename_i va e1 h3;obtain⟨O1,O2,r1,s1,l1⟩:=s.rdAll h1 h3;split at h
   .rename_i vc e2 h4;obtain⟨O3,O4,r2,s2,l2⟩:=s1.rdAll h2 h4;obtain⟨rfl,rfl⟩:=h;refine .flat s (x:=.func (.func f) (xs.map (ev t)) (ys.map (ev t))) (by simp[execOp,Instr.makeFunc]) ?_ s2 λb=>by grind
    simp only[RV];exact⟨⟨_,_,rfl,by simpa using RVs.share _ _ _ r1,by simpa using RVs.share _ _ _ r2⟩,λ_=>trivial⟩
   simp_all
  simp_all
 simp_all
end
abbrev po:=@getElem?_pos
abbrev bC:=@List.getElem?_eq_getElem
section
variable {P:Program}{g:Gh}{w:World}{t:F_}{O:Nat->Nat}{st st':St}{a:AV}{o:Oper}
def Ku {v:AV}{n:Nat}{x:Value}{Ov:Nat->Nat}(h:r7 v=some n)(r:RV g w v x Ov):∃k,x=.int k (n:Int):=by
 unfold r7 at h;split at h<;>simp only[ae,reduceCtorEq]at h;obtain⟨r,_⟩:=r;cases r;simp_all
def Fv {v:AV}{n top:Nat}{x:Value}{Ov:Nat->Nat}(h:eK v top=some n)(r:RV g w v x Ov):(∃k,x=.int k (n:Int))∧n<=top:=by
 unfold eK at h;split at h
 .split at h<;>simp only[ae,reduceCtorEq]at h;obtain⟨r,_⟩:=r;cases r;simp_all
 simp_all
def fA {ty:TypeId}{n:Nat}(h:xx P ty n=true):(sizeOf ty).run P w=.ok n w:=by
 unfold xx at h;split at h<;>simp_all [sizeOf,typeInfo]
def yC {ty:TypeId}(h:Du P ty=true):(isAgg ty).run P w=.ok true w:=by
 unfold Du at h;split at h<;>simp_all [isAgg,bf]
def CH {ty:TypeId}(h:Kr P ty=true):(isAgg ty).run P w=.ok false w:=by
 unfold Kr at h;split at h<;>try (simp at h;done)
 simp_all [isAgg,bf]
def ag3 {ty:TypeId}{n:I_}(ht:qN P ty n=true){cs:D_}{xs:F_}{Ov:Nat->Nat}(r:RVs g w cs xs.toList Ov){off:Nat}{v:AV}
  (h:FV n cs off=some v) :
  ∃x O1,(part ty xs off).run P w=.ok x w∧RV g w v x O1∧∀b,O1 b<=Ov b:=by
 cases n with
 |none =>
  simp only[qN]at ht;obtain⟨x,O1,hx,rv,l⟩:=r.get h;refine⟨x,O1,?_,rv,l⟩
  simp_all [part,CH]
 |some n =>
  simp only[qN,af]at ht;simp only[FV]at h;split at h
  .simp only[ae]at h;subst h;obtain⟨O1,r1,l⟩:=r.sub off n;refine⟨.agg (xs.extract off (off+n)),O1,by simp[part,yC ht.1,fA ht.2],?_,l⟩
   simp_all [RV]
  simp_all
def azR {off:Nat}{n:I_}{x:Rd}(s:S P g w st t O)(h:PW off n x st=some (a,st'))(hc:bG P (.fld off n x) o.op=true) :
  fS P g w t O st' a ((execOp (ev t) o).run P w):=by
 simp only[bG]at hc;split at hc
 .simp only[af]at hc;obtain⟨h1,h2⟩:=hc;unfold PW at h;split at h
  .rename_i cs e' h5;obtain⟨Ov,O',rv,s',l⟩:=s.rd h2 h5;obtain⟨xs,hx,rv⟩:=rv;simp only[VT]at h1;split at h1
   .split at h1
    .simp only[af,aD]at h1;obtain⟨rfl,h1⟩:=h1;split at h
     .rename_i v hv;obtain⟨rfl,rfl⟩:=h;obtain⟨z,O1,hz,rz,l1⟩:=ag3 (P:=P) h1 rv hv;refine .pure s (x:=z) ?_ rz s' λb=>by grind
      simp_all [execOp,Instr.field,asAgg,bf]
     simp_all
    simp_all
   simp_all
  simp_all
 simp_all
def aAz {j:Nat}{mv:Bool}{i:Nat}(s:S P g w st t O)(h:CP j mv i st=some (a,st'))(hc:bG P (.ext j mv i) o.op=true) :
  fS P g w t O st' a ((execOp (ev t) o).run P w):=by
 obtain⟨dst,op,ty,pos,aft,gd⟩:=o;simp only[bG]at hc;split at hc
 .simp only[af,aD]at hc;obtain⟨rfl,rfl⟩:=hc;unfold CP at h;split at h
  .rename_i vs hg;split at h
   .rename_i v hv;obtain⟨Oe,Oh,re,rh,ho⟩:=s.parts;obtain⟨O1,O2,⟨hlt,q⟩,r2,hs⟩:=RL.take re hg;obtain⟨xs,hx,q⟩:=q;obtain⟨x,P1,P2,hx2,rv,rj,hl⟩:=q.pull hv;have hrun:(execOp (ev t) ⟨dst,.extract (.tmp j) i,ty,pos,aft,gd⟩).run P w=.ok (.value x) w:=by
     simp_all [execOp,ev,Instr.extract]
    cases mv with
    |false =>
     grind [fS.flat,RV.share]
    |true =>
     obtain⟨rfl,rfl⟩:=h;obtain⟨O3,r3,h3⟩:=RL.put s.se r2 (i:=j) (x:=AV.tup (vs.set i .junk)) (O1:=P2) ⟨hlt,by grind [RV]⟩;refine .pure s hrun rv (s.of_env (O':=λb=>O3 b+Oh b) r3 rh (s.se.put _ _) (λ_=>rfl) λb=>?_) λb=>?_
     all_goals grind
   simp_all
  simp_all
 simp_all
def arc {ty:TypeId}{l e:Nat}(hu:P.underlying ty=some (.array l e)){xs:F_}{k:IntKind}{i n:Nat}(hi:i<l)(hs:xx P e n=true) :
  (Instr.index ty (.agg xs) (.int k (i:Int))).run P w=(part e xs (i*n)).run P w:=by
 simp[Instr.index,asIntOf,bf hu,hi,fA hs]
def aCk {len n:Nat}{agg:Bool}{x i:Rd}(s:S P g w st t O)(h:WC len n agg x i st=some (a,st'))(hc:bG P (.ix len n agg x i) o.op=true) :
  fS P g w t O st' a ((execOp (ev t) o).run P w):=by
 obtain⟨dst,op,ty,pos,aft,gd⟩:=o;simp only[bG]at hc;split at hc
 .simp only[af]at hc;obtain⟨⟨h1,h2⟩,h3⟩:=hc;unfold WC at h;split at h
  .rename_i cs e1 h5;obtain⟨Ov,O1,rv,s1,l1⟩:=s.rd h2 h5;obtain⟨xs,hx,rv⟩:=rv;split at h
   .rename_i vi e2 h6;obtain⟨Oi,O2,ri,s2,l2⟩:=s1.rd h3 h6;split at h
    .rename_i k hk;obtain⟨kk,hk2⟩:=Ku hk ri;split at h
     .simp at h
     .have hlt:k<len:=by grind [Nat.ble_eq]
      simp only[YL]at h1;split at h1
      .rename_i l el hu;simp only[af,aD]at h1;obtain⟨⟨rfl,hsz⟩,hag⟩:=h1;split at h
       .rename_i v hv;obtain⟨rfl,rfl⟩:=h;have hc:qN P el (aiQ agg n)=true:=by
         grind [qN,aiQ]
        obtain⟨z,O3,hz,rz,l3⟩:=ag3 (P:=P) hc rv hv;refine .pure s (x:=z) ?_ rz s2 λb=>by grind
        simp only[execOp,hx,hk2];rw[aT,arc hu hlt hsz,hz];rfl
       simp_all
      simp_all
    simp_all
   simp_all
  simp_all
 simp_all
def aBH {x i:Rd}(s:S P g w st t O)(h:Pa x i st=some (a,st'))(hc:bG P (.ixs x i) o.op=true) :
  fS P g w t O st' a ((execOp (ev t) o).run P w):=by
 simp only[bG]at hc;split at hc
 .simp only[af]at hc;obtain⟨⟨h1,h2⟩,h3⟩:=hc;unfold Pa at h;split at h
  .rename_i str e1 h5;obtain⟨Ov,O1,rv,s1,l1⟩:=s.rd h2 h5;have hx:=agj rv rfl;split at h
   .rename_i vi e2 h6;obtain⟨Oi,O2,ri,s2,l2⟩:=s1.rd h3 h6;split at h
    .rename_i k hk;obtain⟨kk,hk2⟩:=Ku hk ri;split at h
     .rename_i b hb;obtain⟨rfl,rfl⟩:=h;simp only[Pc]at h1;split at h1
      .refine .flat s (x:=.int .u8 b.toNat) ?_ (uW _ _) s2 λc=>by grind
       have hlen:k<str.length:=by
        grind
       have hg:(⟨str.toArray⟩:ByteArray)[k]?=some b:=by
        have hs:k<(⟨str.toArray⟩:ByteArray).size:=hlen;rw[po (⟨str.toArray⟩:ByteArray) k hs];rw[bC hlen]at hb;exact hb
       simp_all [execOp,Instr.index,asIntOf,bf]
      simp_all
     simp_all
    simp_all
   simp_all
  simp_all
 simp_all
def axn {len n:Nat}{p i:Rd}(s:S P g w st t O)(h:M7 len n p i st=some (a,st'))(hc:bG P (.iarr len n p i) o.op=true) :
  fS P g w t O st' a ((execOp (ev t) o).run P w):=by
 obtain⟨dst,op,ty,pos,aft,gd⟩:=o;simp only[bG]at hc;split at hc
 .simp only[af]at hc;obtain⟨⟨h1,h2⟩,h3⟩:=hc;obtain⟨v,vi,e,Ov,Oi,O',rv,ri,s',l,hk⟩:=Rr s h2 h3 h;split at hk
  .rename_i k hk1;obtain⟨kk,hk2⟩:=Ku hk1 ri;split at hk
   .simp at hk
   .have hlt:k<len:=by grind [Nat.ble_eq]
    split at hk
    .rename_i r hr;obtain⟨rfl,rfl⟩:=hk;obtain⟨b,off,hx,rr⟩:=Zt hr rv;simp only[Uz]at h1;split at h1
     .rename_i l' el hu;simp only[af,aD]at h1;obtain⟨⟨rfl,hsz⟩,_⟩:=h1;refine .flat s (x:=_) ?_ rr s' λc=>by grind
      simp[execOp,hx,hk2,Instr.indexAt,asIntOf,bf hu,Instr.sureAddr,hlt,fA hsz,me]
     simp_all
    simp_all
  simp_all
 simp_all
end
abbrev AG:=@Nat.succ_mul
abbrev bH:=@List.take_of_length_le
abbrev c7:=@List.mem_of_mem_drop
abbrev dr:=@List.mem_of_mem_take
abbrev ck:=@List.getElem?_drop
abbrev dP:=@Nat.add_assoc
abbrev cq:=@Nat.mul_le_mul_right
theorem Jo {xs:E_}{m:Nat}(h:∀e∈xs,e.length=m)(l:Nat):(xs.drop l).flatten=xs.flatten.drop (l*m):=by
 induction xs generalizing l with
 |nil=>simp
 |cons a r ih =>
  cases l<;>simp_all [AG,List.drop_append]
theorem Jx {xs:E_}{m:Nat}(h:∀e∈xs,e.length=m)(l:Nat):(xs.take l).flatten=xs.flatten.take (l*m):=by
 induction xs generalizing l with
 |nil=>simp
 |cons a r ih =>
  cases l<;>simp_all [AG,List.take_append,bH]
def Il {xs:E_}{m:Nat}(h:∀e∈xs,e.length=m)(l n:Nat):∀e∈sub xs l n,e.length=m :=
 λe he=>h e (c7 (dr he))
def oL {xs:E_}{m:Nat}(h:∀e∈xs,e.length=m)(l n:Nat):(sub xs l n).flatten=sub xs.flatten (l*m) (n*m):=by
 grind [sub,Jx,Jo]
def al2 {α:Type}{xs:List α}{l n j:Nat}{c:α}(h:(sub xs l n)[j]?=some c):xs[l+j]?=some c∧j<n:=by
 grind [sub]
def kE {α:Type}{xs:List α}{l n:Nat}(h:l+n<=xs.length):(sub xs l n).length=n:=by
 grind [sub]
theorem Tg {xs:E_}{m:Nat}(h:∀e∈xs,e.length=m){i j:Nat}{e:W_}{c:D}(hi:xs[i]?=some e)(hj:e[j]?=some c) :
  xs.flatten[i*m+j]?=some c:=by
 rw[<-ck,<-Jo h]
 grind [List.drop_eq_getElem_cons]
section
variable {g:Gh}{w:World}
theorem RD.list {pm:Nat->Nat->Prop}{xs:E_}{x:Value}(r:RD w pm (.lst xs) x) :
  (xs=[]∧∃a cap,x=.slice a 0 cap)∨∃b off m cap,x=.slice (some ⟨b,off,none⟩) xs.length cap∧0<m∧xs.length<=cap∧(∀e∈xs,e.length=m)∧
   jw w pm xs.flatten b off∧∀j,j<xs.length*m->pm b (off+j):=by
 cases r with
 |nil a cap=>simp_all
 |lst xs b off m cap u hm hcap hl hc hr =>
  refine .inr ⟨b,off,m,cap,rfl,hm,hcap,hl,λj c hj=>⟨u j,(hc j c hj).1,hr j c hj⟩,λj hj=>?_⟩;have:j<xs.flatten.length:=by grind [gn]
  simp_all
def ab1 {h:am}{v:AV}{xs:E_}{x:Value}{O:Nat->Nat}(he:elems h v=some xs)(hn:ud v=false)(r:RV g w v x O) :
  RD w g.pm (.lst xs) x:=by
 cases v with
 |d c =>
  cases c<;>simp only[elems,reduceCtorEq,ae]at he
  grind [RV]
 |nl=>simp only[elems,ae]at he;subst he;rw[r.1];exact .nil _ _
 |own p m ys =>
  cases p<;>simp only[elems,reduceCtorEq,ae]at he
  have:=RV.share _ _ _ r
  grind [share,RV]
 |sl id off len=>simp[ud]at hn
 |_=>simp[elems]at he
theorem jw.sub {pm:Nat->Nat->Prop}{cs:W_}{b off:Nat}(r:jw w pm cs b off)(l n:Nat):jw w pm (Vm.sub cs l n) b (off+l):=by
 intro j c hj;obtain⟨h1,_⟩:=al2 hj;obtain⟨u,hu,hr⟩:=r _ c h1
 grind
def jw.elem {pm:Nat->Nat->Prop}{xs:E_}{m b off:Nat}(r:jw w pm xs.flatten b off)(hl:∀e∈xs,e.length=m){i:Nat}{e:W_}
  (hi:xs[i]?=some e):jw w pm e b (off+i*m):=by
 intro j c hj;obtain⟨u,hu,hr⟩:=r _ c (Tg hl hi hj)
 grind
def Gb {α:Type}{xs:List α}{i:Nat}{x:α}(h:xs[i]?=some x):i<xs.length:=by
 grind
end
section
variable {P:Program}{g:Gh}{w:World}{t:F_}{O:Nat->Nat}{st st':St}{a:AV}{o:Oper}
def jb {ty:TypeId}{m:Nat}(h:jm P ty m=true):∃e,P.underlying ty=some (.slice e)∧xx P e m=true∧0<m∧P.bytesOf e<=4096:=by
 grind [jm,Nat.blt_eq,Nat.ble_eq]
def UR {ty:TypeId}{n:Nat}(h:jm P ty n=true){b off len cap i:Nat}{k:IntKind}(hi:i<len) :
  (Instr.indexAt ty (.slice (some ⟨b,off,none⟩) len cap) (.int k (i:Int))).run P w=.ok (.pointer (some ⟨b,off+i*n,none⟩)) w:=by
 obtain⟨e,hu,hs,_⟩:=jb h;simp[Instr.indexAt,asIntOf,bf hu,hi,fA hs,me]
def aDy {n:Nat}{x i:Rd}(s:S P g w st t O)(h:agK n x i st=some (a,st'))(hc:bG P (.ia n x i) o.op=true) :
  fS P g w t O st' a ((execOp (ev t) o).run P w):=by
 obtain⟨dst,op,ty,pos,aft,gd⟩:=o;simp only[bG]at hc;split at hc
 .rename_i ty' y j;simp only[af]at hc;obtain⟨⟨h1,h2⟩,h3⟩:=hc;obtain⟨v,vi,e,Ov,Oi,O',rv,ri,s',l,hk⟩:=Rr s h2 h3 h;split at hk
  .rename_i k hk1;obtain⟨kk,hk2⟩:=Ku hk1 ri;have fin:∀{r:AV}{b off:Nat},(∃len cap bo oo,ev t y=.slice (some ⟨bo,oo,none⟩) len cap∧k<len∧b=bo∧off=oo+k*n)->
     RV g w r (.pointer (some ⟨b,off,none⟩)) zero->fS P g w t O ⟨e,st.hs⟩ r ((execOp (ev t) ⟨dst,.indexAddr ty' y j,ty,pos,aft,gd⟩).run P w):=by
    rintro r b off ⟨len,cap,bo,oo,hx,hlt,rfl,rfl⟩ rr
    refine .flat s (x:=_) ?_ rr s' λc=>by grind
    simp only[execOp,hx,hk2];rw[aT,UR h1 hlt];rfl
   have hnsl:ud v=false->∀{xs:E_}{el:W_},elems st.hs.heap v=some xs->xs[k]?=some el->el.length=n->
     fS P g w t O ⟨e,st.hs⟩ (.pim el 0) ((execOp (ev t) ⟨dst,.indexAddr ty' y j,ty,pos,aft,gd⟩).run P w):=by
    intro hn xs el he hxk hlen;have rd:=ab1 he hn rv;rcases rd.list with ⟨rfl,_⟩|⟨b,off,m,cap,hx,hm,hcap,hl,hrc,hp⟩
    .simp_all
    .have hmn:m=n:=d_;subst hmn;refine fin (b:=b) (off:=off+k*m) ⟨_,cap,b,off,hx,Gb hxk,rfl,rfl⟩ ?_;simp only[RV];refine⟨⟨b,off+k*m,s_,hrc.elem hl hxk,λq hq=>?_⟩,λ_=>trivial⟩;rw[dP];refine hp _ ?_;have:=Gb hxk;have:(k+1)*m<=xs.length*m:=cq _ this
     grind
   split at hk
   .rename_i id off len;split at hk
    .simp at hk
    .have hlt:k<len:=by grind [Nat.ble_eq]
     obtain⟨hsl,_⟩:=rv;rcases hsl with ⟨rfl,_⟩|⟨b,cap,hob,hx,_,_⟩
     .omega
     obtain⟨Oe,Oh,re,rh,ho⟩:=s.parts
     grind [Nat.beq_eq,RL.get,kA,RV]
   .have hn:ud v=false:=by cases v<;>first|rfl|simp_all
    grind [Nat.beq_eq]
  simp_all
 simp_all
end
abbrev bm:=@if_false
section
variable {P:Program}{g:Gh}{w:World}{t:F_}{O:Nat->Nat}{st st':St}{a:AV}{o:Oper}
def RO (g:Gh)(w:World):M_->Option Value->Prop
 |none,none=>True
 |some v,some x=>∃Ov,RV g w v x Ov
 |_,_=>False
theorem S.rdOpt {r:AB_}{oo:Option Operand}(s:S P g w st t O)(hc:Co r oo=true){vo:M_}{e':aZ}(h:rdOpt st.env r=some (vo,e')) :
  ∃O',RO g w vo (oo.map (ev t))∧S P g w ⟨e',st.hs⟩ t O'∧∀b,O' b<=O b:=by
 cases r with
 |none =>
  cases oo<;>simp[Co]at hc
  obtain⟨rfl,rfl⟩:=h;exact⟨O,trivial,s,λb=>ak _⟩
 |some r =>
  cases oo with
  |none=>simp[Co]at hc
  |some o =>
   obtain⟨v,e1,h1,h2⟩:=Rl h;obtain⟨rfl,rfl⟩:=h2;obtain⟨Ov,O',rv,s',l⟩:=s.rd hc h1;exact⟨O',⟨Ov,rv⟩,s',S.le_left l⟩
def xN {v:AV}{x:Value}{Ov:Nat->Nat}(r:RV g w v x Ov){n top y:Nat}(h:eK v top=some n)(hy:top<=y)(c:BoundsCode) :
  (Instr.sliceBound x y c).run P w=.ok n w∧n<=top:=by
 obtain⟨⟨k,rfl⟩,hn⟩:=Fv h r;refine⟨?_,hn⟩;have:(n:Int)<=y:=o_
 simp_all [Instr.sliceBound,asIntOf]
def Zq {lo hi mx:M_}{lo' hi' mx':Option Value}(r1:RO g w lo lo')(r2:RO g w hi hi')(r3:RO g w mx mx'){b:Bool}{len cap l h m:Nat}
  (hcap:len<=cap)(hb:xb len lo hi mx=some (l,h,m)) :
  ∃m',(Instr.sliceBounds b len cap lo' hi' mx').run P w=.ok (l,h,m') w∧l<=h∧h<=len∧h<=m'∧m'<=cap:=by
 unfold xb at hb;have fin:∀(h0 m':Nat),h0<=len->h0<=m'->m'<=cap->v7 lo h0 m=some (l,h,m)->
   ∃l',(match (generalizing:=false) lo' with|some v=>Instr.sliceBound v h0 (if mx'.isSome then .slice3C else .sliceB)|none=>pure 0).run P w=.ok l' w∧l'=l∧h0=h∧l<=h:=by
  intro h0 m' e1 e2 e3 e4
  cases lo with
  |none =>
   cases lo' with
   |some x=>exact r1.elim
   |none =>
    simp only[v7,ae,aR]at e4;exact⟨0,rfl,e4.1,e4.2.1,o_⟩
  |some v =>
   cases lo' with
   |none=>exact r1.elim
   |some x =>
    obtain⟨Ov,rv⟩:=r1;simp only[v7]at e4;split at e4
    .rename_i n hn;obtain⟨h1,h2⟩:=xN (P:=P) rv hn (ak h0) (if mx'.isSome then .slice3C else .sliceB)
     simp_all
    simp_all
 cases mx with
 |none =>
  cases mx' with
  |some x=>exact r3.elim
  |none =>
   simp only at hb
   cases hi with
   |none =>
    cases hi' with
    |some x=>exact r2.elim
    |none =>
     have hm:m=len:=by
      cases lo<;>grind [v7]
     grind [Instr.sliceBounds,Sem.run_bind,Sem.run_pure,Result.andThen_ok]
   |some v =>
    cases hi' with
    |none=>exact r2.elim
    |some x =>
     obtain⟨Ov,rv⟩:=r2;split at hb
     .simp at hb
     .rename_i h0 hh;have hm:m=len:=by
       cases lo<;>grind [v7]
      subst hm;obtain⟨h5,h6⟩:=xN (P:=P) rv hh hcap (if b then .sliceAcap else .sliceAlen);obtain⟨l',h1,rfl,rfl,h4⟩:=fin h0 cap h6 o_ (ak _) hb;refine⟨cap,?_,h4,h6,o_,ak _⟩
      grind [Instr.sliceBounds,Sem.run_bind,Sem.run_pure,Result.andThen_ok]
 |some vm =>
  cases mx' with
  |none=>exact r3.elim
  |some xm =>
   obtain⟨Om,rm⟩:=r3;simp only at hb;split at hb
   .simp at hb
   .rename_i m0 hm0;obtain⟨h7,h8⟩:=xN (P:=P) rm hm0 hcap (if b then .slice3Acap else .slice3Alen)
    cases hi with
    |none=>simp at hb
    |some v =>
     cases hi' with
     |none=>exact r2.elim
     |some x =>
      obtain⟨Ov,rv⟩:=r2;split at hb
      .simp at hb
      .rename_i h0 hh;have hm:m=m0:=by
        cases lo<;>grind [v7]
       subst hm;obtain⟨h5,h6⟩:=xN (P:=P) rv hh (ak m) .slice3B;obtain⟨l',h1,rfl,rfl,h4⟩:=fin h0 m o_ h6 o_ hb;refine⟨m,?_,h4,o_,h6,o_⟩;simp only[Instr.sliceBounds,aT,bw,h5,h7]
       cases lo'<;>simp_all
def aog {b:Bool}{v u r:AV}{x y:Value}{Ov Ou:Nat->Nat}(rv:RV g w v x Ov)(ru:RV g w u y Ou)(h:DU b v u=some r) :
  ∃z,(match b with|true=>Builtin.max2 x y|false=>Builtin.min2 x y).run P w=.ok z w∧RV g w r z zero:=by
 unfold DU at h;split at h
 .rename_i k m j n;have hx:=zH rv rfl;have hy:=zH ru rfl;subst hx hy;split at h
  .cases b
   .simp only[ao,bm]at h;split at h
    .simp only[ae]at h;subst h
     simp_all [Builtin.min2,uW]
    .rename_i hd;simp only[decide_eq_false_iff_not]at hd;simp only[ae]at h;subst h;exact⟨.int k m,by simp[Builtin.min2,hd],uW _ _⟩
   .simp only[bj]at h;split at h
    .simp only[ae]at h;subst h
     simp_all [Builtin.max2,uW]
    .rename_i hd;simp only[decide_eq_false_iff_not]at hd;simp only[ae]at h;subst h;exact⟨.int k m,by simp[Builtin.max2,hd],uW _ _⟩
  simp_all
 simp_all
end
abbrev dO:=@Sem.run_pure
abbrev vN:=@Option.map_some
abbrev dh:=@Nat.add_mul
abbrev dD:=@Nat.zero_le
section
variable {P:Program}{g:Gh}{w:World}{t:F_}{O:Nat->Nat}{st st':St}{a:AV}{o:Oper}
def aqu {ty:TypeId}{sz:Nat}(hty:jm P ty sz=true){ad:Option Addr}{len cap l h m':Nat}{lo hi mx:Option Value}
  (hb:(Instr.sliceBounds true len cap lo hi mx).run P w=.ok (l,h,m') w) :
  (Instr.sliceAt ty (.slice ad len cap) lo hi mx).run P w=.ok (.slice (if m'=l then ad else ad.map (·.add (l*sz))) (h-l) (m'-l)) w:=by
 obtain⟨e,hu,hs,_⟩:=jb hty;simp only[Instr.sliceAt,aT,bf hu,bw,Instr.slice,hb,fA hs,dO]
theorem RD.slice {w:World}{pm:Nat->Nat->Prop}{xs:E_}{ad:Option Addr}{len cap l h m' sz:Nat}(r:RD w pm (.lst xs) (.slice ad len cap))
  (hk:Gp sz xs=true)(h1:l<=h)(h2:h<=len)(h3:h<=m')(h4:m'<=cap) :
  RD w pm (.lst (sub xs l (h-l))) (.slice (if m'=l then ad else ad.map (·.add (l*sz))) (h-l) (m'-l)):=by
 rcases r.list with ⟨rfl,a,c,e⟩|⟨b,off,m,c,e,hm,hcap,hl,hrc,hp⟩
 .injection e with e1 e2 e3
  have hh:h-l=0:=o_;rw[hh];exact .nil _ _
 .injection e with e1 e2 e3
  subst e1 e2 e3;have hlen:(sub xs l (h-l)).length=h-l:=kE o_;by_cases hz:h-l=0
  .have:sub xs l (h-l)=[]:=u_;rw[this,hz];exact .nil _ _
  .have hml:m'≠l:=o_;have hsz:sz=m:=by
    cases xs<;>grind [Gp,Nat.beq_eq]
   subst hsz;simp only[vN,me];have hsl:=Il hl l (h-l);have:=jw.rd (w:=w) (pm:=pm) (xs:=sub xs l (h-l)) (b:=b) (off:=off+l*sz) (m:=sz) (cap:=m'-l) hm o_ hsl
    (by simp_all [oL,jw.sub]) (λj hj=>?_)
   .simp_all
   .rw[hlen]at hj;rw[dP];refine hp _ ?_;have:l*sz+(h-l)*sz<=xs.length*sz:=by rw[<-dh];simp_all [cq]
    omega
def ato {m:Nat}{x:Rd}{lo hi mx:AB_}(s:S P g w st t O)(h:Nk m x lo hi mx st=some (a,st'))(hc:bG P (.slice m x lo hi mx) o.op=true) :
  fS P g w t O st' a ((execOp (ev t) o).run P w):=by
 obtain⟨dst,op,ty,pos,aft,gd⟩:=o;simp only[bG]at hc;split at hc
 .rename_i ty' y l' h' k';simp only[af]at hc;obtain⟨⟨⟨⟨h1,h2⟩,h3⟩,h4⟩,h5⟩:=hc;obtain⟨v,e1,r1,k1⟩:=Rl h;obtain⟨Ov,O1,rv,s1,l1⟩:=s.rd h2 r1;split at k1
  .rename_i vl e2 r2;obtain⟨O2,q2,s2,l2⟩:=s1.rdOpt h3 r2;split at k1
   .rename_i vh e3 r3;obtain⟨O3,q3,s3,l3⟩:=s2.rdOpt h4 r3;split at k1
    .rename_i vm e4 r4;obtain⟨O4,q4,s4,l4⟩:=s3.rdOpt h5 r4;split at k1
     .rename_i hok;split at k1
      .rename_i r hr;simp only[ae,aR]at k1;obtain⟨rfl,rfl⟩:=k1;have hle:∀b,Ov b+O4 b<=O b:=λb=>by grind
       unfold vt at hr;split at hr
       .simp at hr
       .rename_i len hlen;obtain⟨ad,cap,hx⟩:=RJ hlen rv;split at hr
        .simp at hr
        .rename_i l hh mm hb;have fin:∀{cap:Nat}{r:AV},ev t y=.slice ad len cap->len<=cap->
           (∀m',l<=hh->hh<=len->hh<=m'->m'<=cap->∃Oa,(∀b,Oa b<=Ov b)∧RV g w r (.slice (if m'=l then ad else ad.map (·.add (l*m))) (hh-l) (m'-l)) Oa)->
           fS P g w t O ⟨e4,st.hs⟩ r ((execOp (ev t) ⟨dst,.slice ty' y l' h' k',ty,pos,aft,gd⟩).run P w):=by
          intro cap r hx hcap hr;obtain⟨m',e1,e2,e3,e4,e5⟩:=Zq (P:=P) (w:=w) (b:=true) q2 q3 q4 hcap hb;obtain⟨Oa,hO,hr⟩:=hr m' e2 e3 e4 e5;refine .pure s (x:=_) ?_ hr s4 λb=>by grind
          simp only[execOp,hx];rw[aT,aqu h1 e1];rfl
         split at hr
         .rename_i xs;simp only[lenOf,ae]at hlen;subst hlen;split at hr
          .rename_i hk;simp only[ae]at hr;subst hr;simp only[RV]at rv;have hcap:xs.length<=cap:=by
            grind [RD.list]
           refine fin hx hcap λm' g1 g2 g3 g4=>⟨zero,λ_=>dD _,?_⟩
           grind [RV,RD.slice]
          simp_all
         .grind [RV]
         .rename_i k xs;simp only[lenOf,ae]at hlen;subst hlen;split at hr
          .rename_i hkm;rw[aD]at hkm;subst hkm;have rv0:=rv;simp only[RV,DJ]at rv;have hshare:RD w g.pm (.lst xs) (ev t y):=by
            have:=RV.share _ _ _ rv0
            grind [share,RV]
           have hk:Gp k xs=true:=by
            cases xs<;>grind [Gp,Nat.beq_eq]
           have hcap:xs.length<=cap:=by
            grind
           split at hr
           .rename_i hhl;rw[aD]at hhl;subst hhl;simp only[ae]at hr;subst hr;refine fin hx hcap λm' g1 g2 g3 g4=>?_
            simp only[RV,DJ];by_cases hml:m'=l
            .refine⟨zero,λ_=>dD _,.inl ⟨?_,λ_=>rfl,?_⟩⟩
             all_goals simp_all [sub]
            .rcases rv with ⟨rfl,hz,a,e⟩|⟨b,off,cap',c,el,e,hc1,hm,hl,hbk,hsz,hrc,hpm,hp,rfl⟩
             .grind
             .rw[hx]at e;injection e with e1 e2 e3
              subst e1 e3;have hlen:(sub xs l (xs.length-l)).length=xs.length-l:=kE o_;refine⟨one b,λ_=>ak _,.inr ⟨b,off+l*k,m'-l,c,el,?_,o_,hm,Il hl _ _,hbk,?_,?_,?_,λ_ j hj=>?_,rfl⟩⟩
              .grind [me]
              .have:l*k+(m'-l)*k<=cap*k:=by rw[<-dh];exact cq _ (by omega)
               omega
              .simp_all [oL,jw.sub]
              .intro o ho;obtain⟨h1,h2⟩:=hpm o ho;refine⟨h1,?_⟩;have:l*k+(xs.length-l)*k=xs.length*k:=by rw[<-dh];simp_all
               grind
              .rw[hlen]at hj;rw[dP];refine hp (by trivial) _ ?_;have:l*k+(xs.length-l)*k=xs.length*k:=by rw[<-dh];simp_all
               omega
           .simp only[ae]at hr;subst hr;refine fin hx hcap λm' g1 g2 g3 g4=>⟨zero,λ_=>dD _,?_⟩
            simp only[RV];rw[hx]at hshare;exact⟨hshare.slice hk g1 g2 g3 g4,λ_=>trivial⟩
          simp_all
         .rename_i id off len0;simp only[lenOf,ae]at hlen;subst hlen;simp only[ae]at hr;subst hr;simp only[RV]at rv;obtain⟨rv,_⟩:=rv;rcases rv with ⟨rfl,ad',e⟩|⟨b,cap',hob,e,hc1,hsz⟩
          .rw[hx]at e;injection e with e1 e2 e3
           subst e3;refine fin hx (ak _) λm' g1 g2 g3 g4=>⟨zero,λ_=>dD _,?_⟩
           simp only[RV];have h0:hh-l=0:=o_;have h1:m'-l=0:=o_;rw[h0,h1];exact⟨.inl ⟨rfl,_,rfl⟩,λ_=>trivial⟩
          .rw[hx]at e;injection e with e1 e2 e3
           subst e1 e3;have hesz:g.esz id=m:=by
            simp only[okSl]at hok;obtain⟨Oe,Oh,re,rh,ho⟩:=s.parts;split at hok
            .rename_i k xs hg;rw[aD]at hok;subst hok;obtain⟨O1,q,_⟩:=RL.get rh hg;simp only[kA]at q;rcases q with ⟨_,_,h,_⟩|⟨_,_,_,_,h,_⟩
             .exact h
             .exact h
            .rename_i cs hg;rw[aD]at hok;subst hok;obtain⟨O1,q,_⟩:=RL.get rh hg;obtain⟨_,_,_,_,_,_,h,_⟩:=q;exact h
            .simp at hok
           refine fin hx hc1 λm' g1 g2 g3 g4=>⟨zero,λ_=>dD _,?_⟩
           simp only[RV];refine⟨?_,λ_=>trivial⟩;by_cases hml:m'=l
           .have h0:hh-l=0:=o_;have h1:m'-l=0:=o_;rw[h0,h1];exact .inl ⟨rfl,_,rfl⟩
           .refine .inr ⟨b,m'-l,hob,?_,o_,?_⟩
            .rw[aa hml];simp only[vN,me];rw[dh,hesz,dP]
            .have:(off+l+(m'-l))*g.esz id<=(off+cap)*g.esz id:=cq _ o_;omega
         simp_all
      simp_all
     simp_all
    simp_all
   simp_all
  simp_all
 simp_all
def ajn {b:Bool}:∀{vs:D_}{xs:N_}{Ovs:Nat->Nat}{v r:AV}{x:Value}{Ov:Nat->Nat},RV g w v x Ov->RVs g w vs xs Ovs->BY b v vs=some r->
  (vs=[]->∃k n,v=.d (.int k n))->
  ∃z,(xs.foldlM (match b with|true=>Builtin.max2|false=>Builtin.min2) x).run P w=.ok z w∧RV g w r z zero
 |[],xs,_,v,r,x,Ov,rv,rvs,h,hi=>by
  simp only[RVs]at rvs;simp only[BY,ae]at h;subst h;obtain⟨k,n,rfl⟩:=hi rfl;have hx:=zH rv rfl
  simp_all [uW]
 |u::us,xs,_,v,r,x,Ov,rv,rvs,h,hi=>by
  obtain⟨y,s,O1,O2,rfl,r1,r2,_⟩:=rvs;simp only[BY]at h;split at h
  .rename_i v2 hv;obtain⟨z,hz,rz⟩:=aog (P:=P) rv r1 hv;have hint:∃k n,v2=.d (.int k n):=by
    unfold DU at hv
    grind
   obtain⟨z2,hz2,rz2⟩:=ajn (b:=b) rz r2 h (λ_=>hint);refine⟨z2,?_,rz2⟩
   cases b
   all_goals simp_all
  simp_all
def aqi {b:Bool}{xs:U_}(s:S P g w st t O)(h:AS b xs st=some (a,st'))(hc:bG P (.minmax b xs) o.op=true) :
  fS P g w t O st' a ((execOp (ev t) o).run P w):=by
 simp only[bG]at hc;split at hc
 .simp only[af]at hc;obtain⟨h1,h4⟩:=hc;have:=qu h1;unfold AS at h;split at h
  .rename_i kk nn vs e hr;obtain⟨Ov,O',rvs,s',l⟩:=s.rdAll h4 hr;split at h
   .rename_i r hf;obtain⟨rfl,rfl⟩:=h;obtain⟨x,ys,O1,O2,he,r1,r2,_⟩:=rvs;obtain⟨z,hz,rz⟩:=ajn (P:=P) (b:=b) r1 r2 hf λ_=>⟨_,_,rfl⟩
    refine .flat s (x:=z) ?_ rz s' (S.le_left l)
    cases b
    all_goals simp_all [Builtin.min_,execOp,resolve,invoke,builtin,Builtin.max_]
   simp_all
  simp_all
 simp_all
end
abbrev u6:=@Array.getElem?_eq_none
def Gh.add (g:Gh)(id b base esz bsz:Nat):Gh where
 obj i:=if i=id then some b else g.obj i
 base i:=if i=id then base else g.base i
 esz i:=if i=id then esz else g.esz i
 bsz i:=if i=id then bsz else g.bsz i
 pm:=g.pm
section
variable {P:Program}{g:Gh}{w:World}{t:F_}{O:Nat->Nat}{st st':St}{a:AV}{o:Oper}
theorem ta {w:World}{o:Go.Obj}{b:Nat}(h:b<w.heap.size):(w.alloc o).heap[b]?=w.heap[b]?:=by
 show(w.heap.push o)[b]?=_
 grind
theorem ke (w:World)(o:Go.Obj):(w.alloc o).heap[w.heap.size]?=some o:=by
 show(w.heap.push o)[w.heap.size]?=_
 simp_all
def bQ.alloc (hp:∀b o,g.pm b o->b<w.heap.size)(o:Go.Obj)(T:Nat->Prop)(hc:∀off,ie o off=false:=by intro off;simp[ie]):bQ g w g (w.alloc o) T where
 obj _ _ h:=⟨h,rfl,rfl,rfl⟩
 pm b o h:=⟨h,tx (ta (hp b o h)) o⟩
 blk b hb _:=⟨ta hb,λ_ h=>h⟩
 size:=s_
 lp b rc h:=⟨rc,by grind [ta]⟩
 same:=⟨rfl,rfl,λa=>by
  by_cases h:a.block<w.heap.size
  .grind [World.frozen?,ta]
  .have h2:w.heap[a.block]?=none:=u6 o_;by_cases e:a.block=w.heap.size
   .have:=hc a.off;simp only[World.frozen?,e,ke];rw[<-e,h2]
    cases o<;>first|rfl|exact this
   .have h3:(w.alloc o).heap[a.block]?=none:=u6 (by simp;omega)
    grind [World.frozen?]⟩
theorem bQ.add {w':World}{T:Nat->Prop}(h:bQ g w g w' T){id:Nat}(hn:g.obj id=none)(b base esz bsz:Nat):bQ g w (g.add id b base esz bsz) w' T where
 obj i c hc:=by
  grind [Gh.add]
 pm b o hp:=h.pm b o hp
 blk:=h.blk
 size:=h.size
 lp:=h.lp
 same:=h.same
def kY.ext {g':Gh}{w':World}{T:Nat->Prop}(h:bQ g w g' w' T){e:aZ}(r:kY g w e t O)(hO:∀b,O b≠0->¬T b):kY g' w' e t O :=
 r.imp' λ_ v O1 _ hle q=>⟨q.1,RV.ext h v _ O1 q.2 λb hb=>hO b d_⟩
def kA.ext0 {g':Gh}{w':World}{T:Nat->Prop}(h:bQ g w g' w' T){id:Nat}{o:Obj}(r:kA P g w id o O)(hO:∀b,O b≠0->¬T b):kA P g' w' id o O:=by
 cases o with
 |cells cs =>
  obtain⟨b,c,el,O1,h1,h2,h3,h4,h5,h6,h7,h8⟩:=r;obtain⟨a1,a2,a3,a4⟩:=h.obj id b h1;have hb:¬T b:=hO b u_;obtain⟨e1,e2⟩:=h.blk b (jV h5) hb;exact⟨b,c,el,O1,a1,a2.trans h2,a3.trans h3,a4.trans h4,e1.trans h5,RVs.ext h _ _ _ h6 (λx hx=>hO x u_),λo ho=>h7 o (e2 o ho),h8⟩
 |arr m xs =>
  simp only[kA]at r⊢;rcases r with ⟨h1,h2,h3,h4,⟨b,h5⟩,h6⟩|⟨b,c,el,h1,h2,h3,h4,h5,h6,h7,h8,h9,h10⟩
  .obtain⟨a1,a2,a3,a4⟩:=h.obj id b h5
   simp_all
  .obtain⟨a1,a2,a3,a4⟩:=h.obj id b h1;have hb:¬T b:=hO b u_;obtain⟨e1,e2⟩:=h.blk b (jV h4) hb
   grind [jw.ext]
 |loop snap params assign body busy pend =>
  obtain⟨b,rc,h1,h2,h3,h4,h5,h6,h7,h8,h9,h10,h12⟩:=r;obtain⟨a1,_⟩:=h.obj id b h1;have hb:¬T b:=hO b u_;obtain⟨e1,e2⟩:=h.blk b (jV h2) hb;exact⟨b,rc,a1,e1.trans h2,h3,h4,h5,h6,h7,h8,kY.ext h h9 s_,h10,h12⟩
def kA.ext {g':Gh}{w':World}{T:Nat->Prop}(h:bQ g w g' w' T){id:Nat}{o:Obj}(r:kA P g w id o O)(hO:∀b,O b≠0->¬T b)
  (_:∀b ds,w.heap[b]?=some (.deferred ds)->¬T b):kA P g' w' id o O:=r.ext0 h hO
def S.new {st:St}(s:S P g w st t O){blk:Go.Obj}{o:Obj}{base esz bsz:Nat}{O1:Nat->Nat}
  (r:kA P (g.add st.hs.next w.heap.size base esz bsz) (w.alloc blk) st.hs.next o O1)(hle:∀b,O1 b+O b<=1)(hhi:∀b,O1 b≠0->b<w.heap.size+1)
  (hc:∀off,ie blk off=false:=by intro off;simp[ie]) :
  S P (g.add st.hs.next w.heap.size base esz bsz) (w.alloc blk) ⟨st.env,(I3 st.hs o).2⟩ t (λb=>O1 b+O b)∧
   bQ g w (g.add st.hs.next w.heap.size base esz bsz) (w.alloc blk) (λb=>O b≠0):=by
 have hn:=s.fresh st.hs.next (ak _)
 have hx:bQ g w (g.add st.hs.next w.heap.size base esz bsz) (w.alloc blk) (λ_=>False):=(bQ.alloc s.pmlt blk _ hc).add hn _ _ _ _;obtain⟨Oe,Oh,re,rh,ho⟩:=s.parts;have re':=kY.ext hx re s_;have rh':CY P (g.add st.hs.next w.heap.size base esz bsz) (w.alloc blk) st.hs.heap Oh:=rh.imp' λk v O1 _ _ q=>q.ext hx s_ (by simp)
 have hk:∀p∈st.hs.heap,p.1≠st.hs.next:=by
  intro p hp e;have:∃b,g.obj p.1=some b:=by
   clear re re' rh' hx r hle hhi ho;generalize st.hs.heap=l at rh hp
   induction l generalizing Oh with
   |nil=>simp at hp
   |cons q l ih =>
    obtain⟨k,v⟩:=q;obtain⟨Q1,Q2,q1,q2,_⟩:=rh;rcases ay.1 hp with rfl|hp
    .cases v<;>grind [kA]
    simp_all
  simp_all
 rw[<-tA hk]at rh';obtain⟨O3,r3,h3⟩:=RL.put s.sh rh' r;refine⟨⟨s.se,s.sh.put _ _,⟨Oe,O3,re',r3,λb=>?_⟩,hle,λb hb=>?_,λi hi=>?_,λb o hp=>?_⟩,hx.mono (λ_ _ h=>h.elim)⟩
 .grind
 .simp only[World.size_alloc];by_cases h1:O1 b=0
  .have:=s.hi b o_;omega
  simp_all
 .have hi':st.hs.next+1<=i:=hi
  grind [Gh.add,fresh]
 .simp only[World.size_alloc];have:=s.pmlt b o hp;omega
def auz {zs:D_}(s:S P g w st t O)(h:Nx zs st=some (a,st'))(hc:bG P (.alloc zs) o.op=true) :
  fS P g w t O st' a ((execOp (ev t) o).run P w):=by
 obtain⟨dst,op,ty,pos,aft,gd⟩:=o;simp only[bG]at hc;split at hc
 .rename_i e;split at hc
  .split at hc
   .rename_i z hz;obtain⟨rfl,rfl⟩:=h;have hO:O w.heap.size=0:=by
     have:=s.hi w.heap.size;omega
    have r:kA P (g.add st.hs.next w.heap.size 0 1 zs.length) (w.alloc (.cells z.cells e)) st.hs.next (.cells zs) (λx=>zero x+one w.heap.size x):=by
     refine⟨w.heap.size,z.cells,e,zero,by simp[Gh.add],by simp[Gh.add],by simp[Gh.add],by simp[Gh.add],ke _ _,RVs.consts hc,λo ho=>?_,λ_=>rfl⟩;have:=s.pmlt _ o ho;omega
    obtain⟨s',hx⟩:=s.new r (λb=>by
     by_cases hb:b=w.heap.size
     .simp_all
     .have:=s.le b;grind [one]) (λb hb=>by
     grind [wV])
    refine⟨.pointer (some ⟨w.heap.size,0,none⟩),_,_,zero,_,.inl ?_,?_,s',hx,λb=>by have:=s'.le b;simp_all,λb hb=>?_,s_⟩
    .simp_all [execOp,Instr.alloc,zeroValue,typeInfo,newVar,newRow]
    .simp_all [RV,Gh.add]
    grind [one]
   simp_all
  simp_all
 simp_all
end
section
variable {P:Program}{g:Gh}{w:World}{t:F_}{O:Nat->Nat}{st st':St}{a:AV}{o:Oper}
theorem ahR {v:AV}{x:Value}{Ov:Nat->Nat}(h:bl v=true)(r:RV g w v x Ov):x.oneCell'=true:=by
 cases v with
 |junk=>simp[bl]at h
 |agg cs=>simp[bl]at h
 |tup cs=>simp[bl]at h
 |gl n=>obtain⟨⟨_,_,rfl⟩,_⟩:=r;rfl
 |d c=>obtain⟨r,_⟩:=r;cases r<;>rfl
 |nl=>rw[r.1];rfl
 |own p m xs=>rcases r with ⟨_,_,_,rfl⟩|⟨_,_,_,_,_,rfl,_⟩<;>rfl
 |nilp=>rw[r.1];rfl
 |ptr id off=>obtain⟨⟨_,_,rfl⟩,_⟩:=r;rfl
 |pel id i off=>obtain⟨⟨_,_,rfl⟩,_⟩:=r;rfl
 |pim cs off=>obtain⟨⟨_,_,rfl,_⟩,_⟩:=r;rfl
 |sl id off len=>rcases r with ⟨⟨_,_,rfl⟩|⟨_,_,_,rfl,_⟩,_⟩<;>rfl
 |fn f a c=>obtain⟨⟨_,_,rfl,_⟩,_⟩:=r;rfl
 |nilf=>rw[r.1];rfl
 |yield l=>obtain⟨⟨_,_,rfl⟩,_⟩:=r;rfl
def ahA {x:Value}(h:x.oneCell'=true):x.cells=#[x]:=by cases x<;>first|rfl|grind [Value.oneCell']
theorem RV.cells {v:AV}{x:Value}{Ov:Nat->Nat}(h:v.cells.all bl=true)(r:RV g w v x Ov):RVs g w v.cells x.cells.toList Ov:=by
 have one:bl v=true->v.cells=[v]->RVs g w v.cells x.cells.toList Ov:=by
  intro h1 h2;rw[h2,ahA (ahR h1 r)];exact⟨x,[],Ov,zero,rfl,r,⟨rfl,λ_=>rfl⟩,λ_=>rfl⟩
 cases v with
 |agg cs =>
  obtain⟨xs,rfl,r⟩:=r;exact r
 |_=>grind [AV.cells]
theorem RVs.one {vs:D_}{xs:N_}{Ov:Nat->Nat}(h:vs.all bl=true)(r:RVs g w vs xs Ov):∀x∈xs,x.oneCell'=true:=by
 induction vs generalizing xs Ov<;>grind [RVs,ahR]
def az0 {x:Rd}(s:S P g w st t O)(h:TK x st=some (a,st'))(hc:bG P (.box x) o.op=true) :
  fS P g w t O st' a ((execOp (ev t) o).run P w):=by
 obtain⟨dst,op,ty,pos,aft,gd⟩:=o;simp only[bG]at hc;split at hc
 .rename_i e y;obtain⟨v,e1,r1,k1⟩:=Rl h;obtain⟨Ov,O1,rv,s1,l1⟩:=s.rd hc r1;split at k1
  .rename_i hall;obtain⟨rfl,rfl⟩:=k1;have rvs:=rv.cells hall;have hn:=s1.fresh st.hs.next (ak _)
   have hO:∀b,w.heap.size<=b->O b=0:=by
    intro b hb;by_cases h:O b=0
    .exact h
    .have:=s.hi b h;omega
   have hx0:bQ g w (g.add st.hs.next w.heap.size 0 1 v.cells.length) (w.alloc (.cells (ev t y).cells e)) (λ_=>False):=(bQ.alloc s.pmlt _ _).add hn _ _ _ _;have r:kA P (g.add st.hs.next w.heap.size 0 1 v.cells.length) (w.alloc (.cells (ev t y).cells e)) st.hs.next (.cells v.cells) (λx=>Ov x+one w.heap.size x):=by
    refine⟨w.heap.size,(ev t y).cells,e,Ov,by simp[Gh.add],by simp[Gh.add],by simp[Gh.add],by simp[Gh.add],ke _ _,RVs.ext hx0 _ _ _ rvs s_,λo ho=>?_,λ_=>rfl⟩;have:=s.pmlt _ o ho;omega
   have key:∀b,Ov b+one w.heap.size b+O1 b<=1:=by
    intro b;by_cases hb:b=w.heap.size
    .have:=l1 w.heap.size;simp_all
    .have:=s.le b;grind [one]
   obtain⟨s',hx⟩:=s1.new r (λb=>key b) (λb hb=>by
    grind [wV])
   refine⟨.pointer (some ⟨w.heap.size,0,none⟩),_,_,zero,_,.inl ?_,?_,s',hx.mono λb _ hb=>by grind,λb=>by simp_all,λb hb=>?_,s_⟩
   .simp_all [execOp,Instr.box,newVar,newRow]
   .simp_all [RV,Gh.add]
   grind [one]
  simp_all
 simp_all
def Kp {ty:TypeId}(h:Kr P ty=true){ad:Addr}{x:Value}(hx:w.cell? ad=some x):(loadVar ty ad).run P w=.ok x w:=by
 simp_all [loadVar,CH]
end
abbrev bp:=@Nat.ble_eq
abbrev bn:=@Nat.zero_add
abbrev ax:=@List.append_assoc
abbrev aX:=@List.take_append_drop
section
variable {P:Program}{g:Gh}{w:World}{t:F_}{O:Nat->Nat}{st st':St}{a:AV}{o:Oper}
theorem iw {b:Nat}{c:F_}{el:TypeId}{fz:Nat×Nat}(h:w.heap[b]?=some (.cells c el fz))(off:Nat):w.cell? ⟨b,off,none⟩=c[off]?:=by
 simp[World.cell?,h]
theorem RVs.replace {cs:D_}{xs:N_}{Ov:Nat->Nat}(r:RVs g w cs xs Ov){i:Nat}{v:AV}(h:cs[i]?=some v) :
  ∃x O1,xs[i]?=some x∧RV g w v x O1∧(∀b,O1 b<=Ov b)∧∀v2 O2,RV g w v2 x O2->∃O',RVs g w (cs.set i v2) xs O'∧∀b,O' b+O1 b=Ov b+O2 b:=by
 induction cs generalizing xs Ov i with
 |nil=>simp at h
 |cons c cs ih =>
  obtain⟨x,s,O1,O2,rfl,r1,r2,hs⟩:=r
  cases i with
  |zero =>
   simp at h;subst h;refine⟨x,O1,rfl,r1,λb=>by simp_all,λv2 P2 rv2=>⟨λb=>P2 b+O2 b,?_,λb=>by grind⟩⟩
   grind [RVs]
  |succ i =>
   obtain⟨y,P1,h1,h2,h3,h4⟩:=ih r2 h;refine⟨y,P1,u_,h2,λb=>by grind,λv2 P2 rv2=>?_⟩;obtain⟨O',r',h'⟩:=h4 v2 P2 rv2;refine⟨λb=>O1 b+O' b,?_,λb=>by grind⟩
   grind [RVs]
def aeu (n:Nat){v:AV}{x:Value}{Ov:Nat->Nat}(r:RV g w v x Ov) :
  ∃O1 O2,RV g w (sc n v).1 x O1∧RV g w (sc n v).2 x O2∧∀b,O1 b+O2 b=Ov b:=by
 have share:=RV.share _ _ _ r;unfold sc;split
 .exact⟨Ov,zero,r,by simp[RV],λ_=>rfl⟩
 .grind
 .refine⟨Ov,zero,r,?_,λ_=>rfl⟩
  grind [RV,DJ]
 grind
def S7 (n:Nat):∀{vs:D_}{xs:N_}{Ov:Nat->Nat},RVs g w vs xs Ov->
  ∃O1 O2,RVs g w (fY n vs).1 xs O1∧RVs g w (fY n vs).2 xs O2∧∀b,O1 b+O2 b=Ov b
 |[],xs,Ov,r=>by grind [RVs,fY]
 |v::vs,xs,Ov,r=>by
  obtain⟨x,s,O1,O2,rfl,r1,r2,hs⟩:=r;obtain⟨A1,A2,a1,a2,ha⟩:=aeu n r1;obtain⟨B1,B2,b1,b2,hb⟩:=S7 n r2;refine⟨λb=>A1 b+B1 b,λb=>A2 b+B2 b,?_,?_,λb=>by grind⟩
  all_goals grind [RVs,fY]
theorem S.upd {st:St}(s:S P g w st t O){id:Nat}{ob:Obj}(hg:get st.hs.heap id=some ob) :
  ∃O1 Oz:Nat->Nat,kA P g w id ob O1∧(∀b,O1 b+Oz b<=O b)∧∀(ob':Obj) (O1':Nat->Nat),kA P g w id ob' O1'->(∀b,O1' b<=O1 b)->
   S P g w ⟨st.env,⟨put st.hs.heap id ob',st.hs.next⟩⟩ t (λb=>O1' b+Oz b):=by
 obtain⟨Oe,Oh,re,rh,ho⟩:=s.parts;obtain⟨O1,O2,q,r2,hs⟩:=RL.take rh hg;refine⟨O1,λb=>Oe b+O2 b,q,λb=>by grind,λob' O1' q' hle=>?_⟩;obtain⟨O3,r3,h3⟩:=RL.put s.sh r2 q';have hall:∀b,O1' b+(Oe b+O2 b)<=O b:=λb=>by grind
 exact⟨s.se,s.sh.put _ _,⟨Oe,O3,re,r3,λb=>by grind⟩,
  λb=>aM (hall b) (s.le b),λb hb=>s.hi b d_,s.fresh,s.pmlt⟩
def jw.vals {pm:Nat->Nat->Prop}{cs:W_}{b off:Nat}(r:jw w pm cs b off) :
  ∃xs:N_,xs.length=cs.length∧(∀(j:Nat) (x:Value),xs[j]?=some x->w.cell? ⟨b,off+j,none⟩=some x)∧∀(j:Nat) (c:D) (x:Value),cs[j]?=some c->xs[j]?=some x->RD w pm c x:=by
 induction cs generalizing off with
 |nil=>simp_all
 |cons c cs ih =>
  obtain⟨u,hu,hr⟩:=r 0 c rfl;have r':jw w pm cs b (off+1):=by
   intro j d hj;obtain⟨v,hv,hr⟩:=r (j+1) d (by simp_all)
   grind
  obtain⟨xs,h1,h2,h3⟩:=ih r';refine⟨u::xs,by simp[h1],λj x hj=>?_,λj d x hd hx=>?_⟩
  all_goals grind
def RVs.ds {pm:Nat->Nat->Prop}(hp:g.pm=pm):∀{cs:W_}{xs:N_},xs.length=cs.length->(∀(j:Nat) (c:D) (x:Value),cs[j]?=some c->xs[j]?=some x->RD w pm c x)->
  RVs g w (cs.map .d) xs zero
 |[],[],_,_=>by simp[RVs]
 |c::cs,x::xs,h,hr=>by
  exact⟨x,xs,zero,zero,rfl,by simp only[RV];exact⟨by rw[hp];exact hr 0 c x rfl rfl,λ_=>trivial⟩,
   RVs.ds hp u_ (λj d y h1 h2=>hr (j+1) d y u_ u_),λ_=>rfl⟩
 |[],_::_,h,_=>by simp at h
 |_::_,[],h,_=>by simp at h
def aaQ {ty:TypeId}{n:I_}(ht:qN P ty n=true){cs:W_}{b off k:Nat}(r:jw w g.pm cs b off){v:AV}(h:oS n cs k=some v) :
  ∃x,(loadVar ty ⟨b,off+k,none⟩).run P w=.ok x w∧RV g w v x zero:=by
 cases n with
 |none =>
  simp only[oS]at h;split at h
  .rename_i c hc;simp only[ae]at h;subst h;obtain⟨u,hu,hr⟩:=r k c hc
   simp_all [Kp,qN,RV]
  simp_all
 |some n =>
  simp only[qN,af]at ht;simp only[oS]at h;split at h
  .rename_i hb;rw[bp]at hb;simp only[ae]at h;subst h;obtain⟨xs,h1,h2,h3⟩:=(r.sub k n).vals;have hlen:(Vm.sub cs k n).length=n:=kE hb;refine⟨.agg xs.toArray,?_,?_⟩
   .have hl:=run_loadCells_list (P:=P) (w:=w) ⟨b,off+k,none⟩ xs (λj v hj=>by grind [me]);rw[h1,hlen]at hl;simp only[loadVar,aT,yC ht.1,bw,bj,fA ht.2,hl,dO]
   .exact⟨xs.toArray,rfl,by simpa using RVs.ds rfl h1 h3⟩
  simp_all
def ajp {cs:D_}{off n:Nat}(h:off+n<=cs.length):cs=cs.take off++(Vm.sub cs off n++cs.drop (off+n)):=by
 grind [sub,List.drop_drop,List.take_append_drop]
def Ys {ty:TypeId}{n:I_}{take:Nat}(ht:qN P ty n=true){st:St}(s:S P g w st t O){id off:Nat}{b:Nat}(hob:g.obj id=some b)
  {v:AV}{h':am}(h:loadAt st.hs.heap n take (.ptr id off)=some (v,h')) :
  ∃x O1 O2,(loadVar ty ⟨b,g.base id+off,none⟩).run P w=.ok x w∧RV g w v x O1∧S P g w ⟨st.env,⟨h',st.hs.next⟩⟩ t O2∧∀c,O1 c+O2 c<=O c:=by
 simp only[loadAt]at h;split at h
 .rename_i cs hg;obtain⟨O1,Oz,q,hsum,hput⟩:=s.upd hg;have q0:=q;simp only[kA]at q;obtain⟨b',c,el,Oc,h1,h2,h3,h4,h5,h6,h7,h8⟩:=q;rw[hob]at h1;simp only[ae]at h1;subst h1;rw[h2,bn];have hsz:c.size=cs.length:=by rw[<-h6.length];simp
  split at h
  .
   split at h
   .simp at h
   .rename_i u hu;obtain⟨x,P1,hx,ru,hle,hrep⟩:=h6.replace hu;have hcell:w.cell? ⟨b,off,none⟩=some x:=by grind [iw]
    have hrun:=Kp (P:=P) (by simpa only[qN] using ht) hcell;split at h
    .simp only[ae,aR]at h;obtain⟨rfl,rfl⟩:=h;exact⟨x,zero,O,hrun,RV.share _ _ _ ru,s,λc=>by simp⟩
    .rename_i _;simp only[ae,aR]at h;obtain⟨rfl,rfl⟩:=h;obtain⟨A1,A2,a1,a2,ha⟩:=aeu take ru;obtain⟨O',r',h'⟩:=hrep _ A2 a2;have hle2:∀x,O' x+one b x<=O1 x:=λx=>by grind
     refine⟨x,A1,_,hrun,a1,hput (.cells (cs.set off (sc take u).2)) (λx=>O' x+one b x) ?_ hle2,λc=>?_⟩
     all_goals grind [kA]
  .
   rename_i n;simp only[qN,af]at ht;split at h
   .rename_i hb;rw[bp]at hb;have hcs:=ajp hb;have r6:=h6;rw[hcs]at r6;obtain⟨B1,B2,rb1,rb2,hb12⟩:=r6.split;obtain⟨B3,B4,rb3,rb4,hb34⟩:=rb2.split;have htl:(cs.take off).length=off:=by simp;omega
    have hsl:(Vm.sub cs off n).length=n:=kE hb;rw[htl]at rb1 rb3 rb4;rw[hsl]at rb3 rb4;have hlist:∀(j:Nat) (v:Value),((c.toList.drop off).take n)[j]?=some v->w.cell? ((⟨b,off,none⟩:Addr).add j)=some v:=by
     grind [me,iw]
    have hlen:((c.toList.drop off).take n).length=n:=d_;have hl:=run_loadCells_list (P:=P) (w:=w) ⟨b,off,none⟩ ((c.toList.drop off).take n) hlist;rw[hlen]at hl;have hrun:(loadVar ty ⟨b,off,none⟩).run P w=.ok (.agg ((c.toList.drop off).take n).toArray) w:=by
     simp only[loadVar,aT,yC ht.1,bw,bj,fA ht.2,hl,dO]
    split at h
    .simp only[ae,aR]at h;obtain⟨rfl,rfl⟩:=h;refine⟨_,zero,O,hrun,?_,s,λc=>by simp⟩
     grind [RV,RVs.share]
    .rename_i _;simp only[ae,aR]at h;obtain⟨rfl,rfl⟩:=h;obtain⟨A1,A2,a1,a2,ha⟩:=S7 take rb3;have hjoin:=rb1.join (a2.join rb4);have e1:cs.take off++((fY take (Vm.sub cs off n)).2++cs.drop (off+n))=aH cs off (fY take (Vm.sub cs off n)).2:=by
      have:(fY take (Vm.sub cs off n)).2.length=n:=by
       rw[<-a2.length,hlen]
      unfold aH;rw[this,ax]
     have e2:c.toList.take off++((c.toList.drop off).take n++(c.toList.drop off).drop n)=c.toList:=by
      rw[aX,aX]
     rw[e1,e2]at hjoin;have hle2:∀x,(B1 x+(A2 x+B4 x))+one b x<=O1 x:=λx=>by have:=ha x;have:=h8 x;have:=hb12 x;have:=hb34 x;omega
     refine⟨_,A1,_,hrun,?_,hput (.cells (aH cs off (fY take (Vm.sub cs off n)).2)) (λx=>(B1 x+(A2 x+B4 x))+one b x) ?_ hle2,λx=>?_⟩
     .exact⟨_,rfl,by simpa using a1⟩
     .refine⟨b,c,el,_,hob,h2,h3,?_,h5,hjoin,h7,λ_=>rfl⟩;rw[h4,<-hsz,<-hjoin.length];simp
     .have:=ha x;have:=h8 x;have:=hb12 x;have:=hb34 x;have:=hsum x;omega
   simp_all
 simp_all
def aCK {n:I_}{take:Nat}{p:Rd}(s:S P g w st t O)(h:Fa n take p st=some (a,st'))(hc:bG P (.ld n take p) o.op=true) :
  fS P g w t O st' a ((execOp (ev t) o).run P w):=by
 obtain⟨dst,op,ty,pos,aft,gd⟩:=o;simp only[bG]at hc;split at hc
 .rename_i ty' y;simp only[af]at hc;obtain⟨h1,h2⟩:=hc;obtain⟨v,e1,r1,k1⟩:=Rl h;obtain⟨Ov,O1,rv,s1,l1⟩:=s.rd h2 r1;split at k1
  .rename_i r h' hl;simp only[ae,aR]at k1;obtain⟨rfl,rfl⟩:=k1;have fin:∀{ad:Addr}{x:Value},ev t y=.pointer (some ad)->(loadVar ty' ad).run P w=.ok x w->
     (execOp (ev t) ⟨dst,.load ty' y,ty,pos,aft,gd⟩).run P w=.ok (.value x) w:=by
    simp_all [execOp,Instr.loadAt,Instr.sureAddr]
   cases v with
   |ptr id off =>
    simp only[RV]at rv;obtain⟨⟨b,hob,he⟩,_⟩:=rv;obtain⟨x,A1,A2,hrun,ra,sa,la⟩:=Ys h1 s1 hob hl
    grind [fS.pure]
   |pel id i off =>
    simp only[RV]at rv;obtain⟨⟨b,hob,he⟩,_⟩:=rv;simp only[loadAt]at hl;split at hl
    .rename_i m xs hg;split at hl
     .rename_i e hx;split at hl
      .rename_i u hu;obtain⟨rfl,rfl⟩:=hl;obtain⟨Oe,Oh,re,rh,ho⟩:=s1.parts;obtain⟨Q,q,_⟩:=RL.get rh hg;rcases q with ⟨rfl,_⟩|⟨b',c,el,g1,g2,g3,g4,g5,g6,g7,g8,g9,g10⟩
       .simp at hx
       .have hrc:=g8.elem g7 hx;obtain⟨x,hrun,rx⟩:=aaQ (P:=P) h1 hrc hu;refine .flat s (fin he (x:=x) ?_) rx s1 (S.le_left l1)
        grind
      simp_all
     simp_all
    simp_all
   |pim cs off =>
    obtain⟨⟨b,k,he,hrc,_⟩,_⟩:=rv;simp only[loadAt]at hl;split at hl
    .rename_i u hu;obtain⟨rfl,rfl⟩:=hl;obtain⟨x,hrun,rx⟩:=aaQ (P:=P) h1 hrc hu;exact .flat s (fin he hrun) rx s1 (S.le_left l1)
    simp_all
   |_=>simp[loadAt]at hl
  simp_all
 simp_all
end
abbrev bc:=@Nat.lt_of_lt_of_le
abbrev qB:=@Nat.mul_le_mul
abbrev ar:=@Int.toNat_natCast
abbrev iL:=@TypeDesc.slice.injEq
section
variable {P:Program}{g:Gh}{w:World}{t:F_}{O:Nat->Nat}{st st':St}{a:AV}{o:Oper}
theorem S.grow {st:St}(s:S P g w st t O){w':World}(h:bQ g w g w' λ_=>False):S P g w' st t O:=by
 obtain⟨Oe,Oh,re,rh,ho⟩:=s.parts;exact⟨s.se,s.sh,⟨Oe,Oh,kY.ext h re s_,rh.imp' λk v O1 _ _ q=>q.ext h s_ s_,ho⟩,s.le,
  λb hb=>bc (s.hi b hb) h.size,s.fresh,λb o hp=>bc (s.pmlt b o hp) h.size⟩
theorem S.out {st:St}(s:S P g w st t O){b:Nat}(h:w.heap.size<=b):O b=0:=by
 by_cases h':O b=0
 .exact h'
 .have:=s.hi b h';omega
def bQ.drew (g:Gh)(w:World)(T:Nat->Prop):bQ g w g w.drew T:=⟨λ_ _ h=>⟨h,rfl,rfl,rfl⟩,λ_ _ h=>⟨h,rfl⟩,λ_ _ _=>⟨rfl,λ_ h=>h⟩,ak _,λ_ rc h=>⟨rc,h⟩,rfl,rfl,λ_=>rfl⟩
def fS.list {res:Result Next}{m cap:Nat}{xs:E_}{c:F_}{el:TypeId}{w1:World}{O':Nat->Nat}(s0:S P g w st t O)
  (s:S P g w st' t O')(hle:∀b,O' b<=O b)(hx1:bQ g w g w1 λ_=>False)(hsz1:w1.heap.size=w.heap.size)
  (h:res=.ok (.value (.slice (some ⟨w.heap.size,0,none⟩) xs.length cap)) (w1.alloc (.cells c el)))
  (hm:0<m)(hl:∀e∈xs,e.length=m)(hcap:xs.length<=cap)(hsz:cap*m<=c.size)(hc:∀(j:Nat) (d:D),xs.flatten[j]?=some d->∃u,c[j]?=some u∧RD w g.pm d u) :
  fS P g w t O st' (.own true m xs) res:=by
 have hp1:∀b o,g.pm b o->b<w1.heap.size:=λb o hp=>by rw[hsz1];exact s0.pmlt b o hp
 have hx:bQ g w g (w1.alloc (.cells c el)) λ_=>False:=hx1.trans (bQ.alloc hp1 _ _) λ_ _ h=>h
 have hO:O w.heap.size=0:=s0.out (ak _);refine⟨_,w1.alloc (.cells c el),g,one w.heap.size,O',.inl h,?_,s.grow hx,hx.mono (λ_ _ h=>h.elim),λb=>?_,λb hb=>?_,λb hb=>?_⟩
 .refine .inr ⟨w.heap.size,0,cap,c,el,rfl,hcap,hm,hl,?_,o_,λj d hj=>?_,λo ho=>?_,λh=>by simp at h,rfl⟩
  all_goals grind [ke,RD.ext,iw]
 .by_cases hb:b=w.heap.size
  .have:=hle w.heap.size;simp_all
  .have:=s0.le b;grind [one]
 .grind [one]
 .have:=wV hb;simp_all
def Xq {zs:W_}{vs:N_}(h:RI zs vs=true):zs.length=vs.length∧∀(j:Nat) (d:D),zs[j]?=some d->∃u,vs[j]?=some u∧RD w g.pm d u:=by
 induction zs generalizing vs with
 |nil=>grind [RI]
 |cons z zs ih =>
  cases vs with
  |nil=>simp[RI]at h
  |cons v vs =>
   simp only[RI,af]at h;obtain⟨h1,h2⟩:=ih h.2;refine⟨by simp[h1],λj d hj=>?_⟩
   cases j with
   |zero=>simp_all [RD.const]
   |succ j=>simp_all
def VR {z:W_}{n j:Nat}{d:D}(h:(List.replicate n z).flatten[j]?=some d):z[j % z.length]?=some d∧j<n*z.length:=by
 induction n generalizing j<;>grind [Nat.mod_eq_of_lt,List.getElem?_append_right,Nat.mod_eq_sub_mod]
def Eq {ty:TypeId}{z:W_}(h:BX P ty z=true):∃e i zv,P.underlying ty=some (.slice e)∧P.info? e=some i∧i.zero=some zv∧RI z zv.cells.toList=true:=by
 grind [BX,asj]
def N1 {n:Nat}(h:n<=4294967296):IntKind.i64.wrap (n:Int)=n:=by
 apply am4
 .have:IntKind.min .i64=-9223372036854775808:=k_;omega
 .have:IntKind.max .i64=9223372036854775807:=k_;omega
def aeW {ty el:TypeId}{i:TypeInfo}{zv:Value}{kn kc:IntKind}{n cc:Nat}(hu:P.underlying ty=some (.slice el))(hi:P.info? el=some i)(hz:i.zero=some zv)
  (hby:i.bytes<=4096)(hnc:n<=cc)(hcm:cc<=4294967296) :
  (Instr.makeSlice ty (.int kn (n:Int)) (.int kc (cc:Int))).run P w =
   .ok (.slice (some ⟨w.heap.size,0,none⟩) n cc) (w.alloc (.cells ((Array.range (cc*i.size)).map (zv.cells[·% zv.cells.size]!)) el)):=by
 have hw1:=N1 (n:=n) o_;have hw2:=N1 (n:=cc) hcm;have hprod:i.bytes*cc<=4096*4294967296:=qB hby hcm;have hbig:¬((i.bytes:Int)*(cc:Int) > 2 ^ 48):=by
  omega
 have hc0:¬(cc:Int)<0:=o_;have hn0:¬(n:Int)<0:=o_;have hnc':¬(n:Int) > (cc:Int):=o_;simp only[Instr.makeSlice,aT,bf hu,bw,asInt,asIntOf,dO,typeInfo,run_program,hi,hw1,hw2,hc0,hn0,hnc',hbig,
  decide_false,Bool.or_self,ao,bm,run_askRoom,sizeOf,ar]
 by_cases hcz:cc*i.size=0
 .have h0:Array.range 0=#[]:=u_;simp[hcz,newRow,h0]
 simp_all [newRow,zeroValue,typeInfo]
def ZT {z:W_}{len cap:Rd}(s:S P g w st t O)(h:mM z len cap st=some (a,st'))(hc:bG P (.mkslice z len cap) o.op=true) :
  fS P g w t O st' a ((execOp (ev t) o).run P w):=by
 obtain⟨dst,op,ty,pos,aft,gd⟩:=o;simp only[bG]at hc;split at hc
 .simp only[af]at hc;obtain⟨⟨⟨h1,h2⟩,h3⟩,h4⟩:=hc;obtain⟨vn,vc,e,On,Oc,O',rn,rc,s',hl,hk⟩:=Rr s h3 h4 h;split at hk
  .rename_i cc hcc;split at hk
   .rename_i n hn;obtain⟨rfl,rfl⟩:=hk;obtain⟨⟨kc,hvc⟩,hcm⟩:=Fv hcc rc;obtain⟨⟨kn,hvn⟩,hnc⟩:=Fv hn rn;obtain⟨el,hu,hs,hm,hby⟩:=jb h1;obtain⟨el',i,zv,hu',hi,hz,hok⟩:=Eq h2;rw[hu]at hu';simp only[ae,iL]at hu';subst hu';obtain⟨hzl,hzg⟩:=Xq (w:=w) (g:=g) hok;have hsz:i.size=z.length:=by
     grind [xx,Nat.beq_eq]
    have hbytes:P.bytesOf el=i.bytes:=by grind [Program.bytesOf]
    rw[hbytes]at hby;have hrun:=aeW (P:=P) (w:=w) (kn:=kn) (kc:=kc) hu hi hz hby hnc hcm;rw[hsz]at hrun;refine fS.list (cap:=cc) (c:=(Array.range (cc*z.length)).map (zv.cells[·% zv.cells.size]!)) (el:=el) (w1:=w) s s' (λb=>by grind) (bQ.refl _ _ _) rfl ?_ hm
     (λe he=>by grind) d_ s_ (λj d hj=>?_)
    .simp only[execOp,hvn,hvc];rw[aT,hrun];simp
    .obtain⟨h5,h6⟩:=VR hj
     grind [Nat.lt_of_lt_of_le,Nat.mul_le_mul_right]
   simp_all
  simp_all
 simp_all
end
abbrev nj:=@Sem.run_ite
def setBlk (w:World)(b:Nat)(o:Go.Obj):World:={ w with heap:=w.heap.setIfInBounds b o }
@[simp] theorem L9 (w:World)(b:Nat)(o:Go.Obj):(setBlk w b o).heap.size=w.heap.size:=by simp[setBlk]
theorem fE {w:World}{b:Nat}{o:Go.Obj}(h:b<w.heap.size):(setBlk w b o).heap[b]?=some o:=by
 simp[setBlk,h]
theorem iN {w:World}{b b':Nat}{o:Go.Obj}(h:b'≠b):(setBlk w b o).heap[b']?=w.heap[b']?:=by
 grind [setBlk]
theorem aeD (w:World)(b:Nat)(o o':Go.Obj):setBlk (setBlk w b o) b o'=setBlk w b o':=by
 simp[setBlk]
theorem alq {w:World}{b o:Nat}{c:F_}{el:TypeId}{fz:Nat×Nat}{v:Value}(h:w.heap[b]?=some (.cells c el fz)) :
  w.setCell ⟨b,o,none⟩ v=setBlk w b (.cells (c.setIfInBounds o v) el fz):=by
 unfold World.setCell setBlk
 congr 1
 grind
theorem QS {α:Type}{cs:List α}{off:Nat}{v:α}{vs:List α}(h:off+(vs.length+1)<=cs.length) :
  aH (cs.set off v) (off+1) vs=aH cs off (v::vs):=by
 grind [aH,List.take_set,List.take_succ_eq_append_getElem,List.drop_set_of_lt]
def tF {P:Program}{b:Nat}{el:TypeId}:∀(vs:N_) (w:World) (c:F_) (off i:Nat),
  w.heap[b]?=some (.cells c el (0,0))->(∀v∈vs,v.oneCell'=true)->off+i+vs.length<=c.size->
  ∃c':F_,(storeCells ⟨b,off,none⟩ vs i).run P w=.ok () (setBlk w b (.cells c' el (0,0)))∧c'.toList=aH c.toList (off+i) vs∧c'.size=c.size
 |[],w,c,off,i,h,_,_=>by
  refine⟨c,?_,by simp[aH],rfl⟩;have:setBlk w b (.cells c el (0,0))=w:=by
   unfold setBlk;have:w.heap.setIfInBounds b (.cells c el (0,0))=w.heap:=by
    grind
   rw[this]
  rw[this];rfl
 |v::vs,w,c,off,i,h,hv,hsz=>by
  have hoff:off+i<c.size:=d_;have hcell:w.cell? ⟨b,off+i,none⟩=some c[off+i]:=by rw[iw h];simp_all
  have hfz:w.frozen? ⟨b,off+i,none⟩=false:=by simp[World.frozen?,h]
  have hst:(store (⟨b,off+i,none⟩:Addr) v .plain).run P w=.ok () (setBlk w b (.cells (c.setIfInBounds (off+i) v) el (0,0))):=by
   grind [run_store,alq]
  have hb:b<w.heap.size:=jV h;obtain⟨c',h1,h2,h3⟩:=tF (P:=P) vs (setBlk w b (.cells (c.setIfInBounds (off+i) v) el (0,0))) (c.setIfInBounds (off+i) v) off (i+1) (fE hb)
   (λu hu=>hv u (.tail _ hu)) (by grind)
  grind [storeCells,me,Sem.run_bind,Result.andThen_ok,aeD,QS]
section
variable {P:Program}{g:Gh}{w:World}{t:F_}{O:Nat->Nat}{st st':St}{a:AV}{o:Oper}
def Aw {b:Nat}{o o':Go.Obj}(hb:w.heap[b]?=some o)(ho:∀off,ie o off=false)(ho':∀off,ie o' off=false)(a:Addr):(Vm.setBlk w b o').frozen? a=w.frozen? a:=by
 by_cases e:a.block=b
 .have h1:=ho a.off;have h2:=ho' a.off;have e1:(Vm.setBlk w b o').heap[a.block]?=some o':=by grind [fE]
  have e2:w.heap[a.block]?=some o:=u_;simp only[World.frozen?,e1,e2]
  cases o<;>cases o'<;>first|rfl|exact h2.trans h1.symm|exact h2|exact h1.symm
 grind [World.frozen?,iN]
theorem bQ.setBlk {b:Nat}{c:F_}{el:TypeId}{o':Go.Obj}(hb:w.heap[b]?=some (.cells c el (0,0)))(hp:∀o,¬g.pm b o)(hc:∀off,ie o' off=false:=by intro off;simp[ie]):bQ g w g (Vm.setBlk w b o') λx=>x=b where
 obj _ _ h:=⟨h,rfl,rfl,rfl⟩
 pm b' o h:=⟨h,by
  grind [tx,iN]⟩
 blk b' _ h:=⟨iN h,λ_ h=>h⟩
 size:=s_
 lp b' rc h:=⟨rc,by grind [iN]⟩
 same:=⟨rfl,rfl,Aw hb (by grind [ie]) hc⟩
def S.store {st:St}(s:S P g w st t O){id:Nat}{ob:Obj}(hg:get st.hs.heap id=some ob) :
  ∃O1 Oz:Nat->Nat,kA P g w id ob O1∧(∀b,O1 b+Oz b<=O b)∧∀(w':World) (b:Nat) (c:F_) (el:TypeId) (ob':Obj) (O1':Nat->Nat),
   w.heap[b]?=some (.cells c el (0,0))->1<=O1 b->bQ g w g w' (λx=>x=b)->kA P g w' id ob' O1'->(∀x,O1' x+Oz x<=1)->(∀x,O1' x≠0->x<w'.heap.size)->
   S P g w' ⟨st.env,⟨put st.hs.heap id ob',st.hs.next⟩⟩ t (λx=>O1' x+Oz x):=by
 obtain⟨Oe,Oh,re,rh,ho⟩:=s.parts;obtain⟨O1,O2,q,r2,hs⟩:=RL.take rh hg;refine⟨O1,λb=>Oe b+O2 b,q,λb=>by grind,λw' b c el ob' O1' hblk h1 hx q' hle hhi=>?_⟩;have hone:O b<=1:=s.le b;have hfree:Oe b=0∧O2 b=0:=d_;have re':=kY.ext hx re (λy hy e=>by simp_all);have r2':CY P g w' (del st.hs.heap id) O2:=r2.imp' λk v Q _ hQ q=>q.ext hx (λy hy e=>by grind) (λy ds hd e=>by
  simp_all)
 obtain⟨O3,r3,h3⟩:=RL.put s.sh r2' q';refine⟨s.se,s.sh.put _ _,⟨Oe,O3,re',r3,λx=>by grind⟩,hle,λx hx0=>?_,s.fresh,
  λb o hp=>bc (s.pmlt b o hp) hx.size⟩
 by_cases h:O1' x=0
 .refine bc (s.hi x ?_) hx.size
  grind
 simp_all
theorem Gz {α:Type}{cs vs:List α}{off:Nat}:aH cs off vs=cs.take off++(vs++cs.drop (off+vs.length)):=by
 grind [aH]
def akL {ty:TypeId}{n:Nat}(ht:xx P ty n=true){st:St}(s:S P g w st t O){id off:Nat}{b:Nat}(hob:g.obj id=some b)
  {v:AV}{x:Value}{Ov:Nat->Nat}(rv:RV g w v x Ov)(hO:∀c,Ov c+O c<=1)(hOv:∀c,Ov c≠0->c<w.heap.size){h':am}
  (h:storeAt st.hs.heap n (.ptr id off) v=some h') :
  ∃w' O2,(storeVar ty ⟨b,g.base id+off,none⟩ x).run P w=.ok () w'∧S P g w' ⟨st.env,⟨h',st.hs.next⟩⟩ t O2∧bQ g w g w' (λc=>O c≠0)∧(∀c,O2 c<=Ov c+O c)∧
   w'.heap.size=w.heap.size:=by
 unfold storeAt at h;split at h
 .simp at h
 .rename_i hn;rw[aD]at hn;simp only at h;split at h
  .rename_i cs hg;split at h
   .rename_i hb;simp only[af,bp]at hb;simp only[ae]at h;subst h;obtain⟨O1,Oz,q,hsum,hst⟩:=s.store hg;obtain⟨b',c,el,Oc,h1,h2,h3,h4,h5,h6,h7,h8⟩:=q;rw[hob]at h1;simp only[ae]at h1;subst h1;rw[h2,bn];have hsz:c.size=cs.length:=by rw[<-h6.length];simp
    have rvs:=rv.cells hb.2;have hlenx:x.cells.toList.length=n:=by grind [RVs.length]
    obtain⟨c',hrun,hc',hcs⟩:=tF (P:=P) (b:=b) (el:=el) x.cells.toList w c off 0 h5 (rvs.one hb.2) o_;have hrun':(storeVar ty ⟨b,off,none⟩ x).run P w=.ok () (setBlk w b (.cells c' el (0,0))):=by
     have hxs:x.cells.size=n:=o_;simp only[storeVar,aT,fA ht,bw,hxs,ne_eq,not_true,bm,nj];exact hrun
    have hOb:1<=O1 b:=u_;have hx:bQ g w g (setBlk w b (.cells c' el (0,0))) λx=>x=b:=bQ.setBlk h5 h7
    have hbO:O b=1:=d_;have hOvb:Ov b=0:=d_;have hOcb:Oc b=0:=by
     grind [AT]
    have r6:=RVs.ext hx _ _ _ h6 (λy hy e=>by simp_all);have rvs':=RVs.ext hx _ _ _ rvs (λy hy e=>by simp_all);rw[ajp hb.1]at r6;obtain⟨B1,B2,rb1,rb2,hb12⟩:=r6.split;obtain⟨B3,B4,rb3,rb4,hb34⟩:=rb2.split;have hsl:(Vm.sub cs off n).length=n:=kE hb.1;have hjoin:=rb1.join (rvs'.join rb4);rw[<-hn]at hjoin;rw[<-Gz]at hjoin;have e2:c.toList.take off++(x.cells.toList++(c.toList.drop off).drop v.cells.length)=c'.toList:=by
     grind [Gz,List.drop_drop]
    have hlen':(aH cs off v.cells).length=cs.length:=by rw[<-hjoin.length];grind
    refine⟨_,_,hrun',hst (setBlk w b (.cells c' el (0,0))) b c el (.cells (aH cs off v.cells)) (λy=>(B1 y+(Ov y+B4 y))+one b y) h5 hOb hx ?_ (λy=>?_) (λy hy=>?_),
     hx.mono (λy _ e=>by simp_all),λy=>?_,s_⟩
    all_goals grind [kA,fE,L9,S.hi]
   simp_all
  simp_all
end
abbrev dW:=@List.ext_getElem?
abbrev dl:=@Nat.mod_lt
abbrev qf:=@Nat.div_eq_of_lt_le
theorem kL {α:Type}{cs vs:List α}{off:Nat}(h:off+vs.length<=cs.length)(j:Nat) :
  (aH cs off vs)[j]?=if off<=j∧j<off+vs.length then vs[j-off]? else cs[j]?:=by
 grind [aH,List.getElem?_append_right]
def alg {xs:E_}{m:Nat}(h:∀e∈xs,e.length=m){i off:Nat}{e ds:W_}(hi:xs[i]?=some e)(ho:off+ds.length<=m) :
  (xs.set i (aH e off ds)).flatten=aH xs.flatten (i*m+off) ds:=by
 apply dW;intro j;have hlt:=Gb hi;have hl2:∀e'∈xs.set i (aH e off ds),e'.length=m:=by
  grind [aH]
 have hmm:(i+1)*m<=xs.length*m:=cq _ hlt;rw[kL (by grind [gn])];by_cases hm:m=0
 .subst hm;have e1:(xs.set i (aH e off ds)).flatten.length=0:=by rw[gn hl2];simp
  have e2:xs.flatten.length=0:=by rw[gn h];simp
  simp_all
 have hpos:0<m:=Nat.pos_of_ne_zero hm;have hdec:j=(j / m)*m+j % m:=by grind [Nat.div_add_mod]
 have hr:j % m<m:=dl _ hpos;have cell:∀(ys:E_),(∀e∈ys,e.length=m)->ys.flatten[j]?=(ys[j / m]?).bind (·[j % m]?):=by
  intro ys hy
  cases hq:ys[j / m]? with
  |none =>
   have:ys.length<=j / m:=by
    grind
   have:ys.flatten.length<=j:=by
    rw[gn hy];exact aM (cq m this) (by omega)
   grind
  |some e' =>
   grind [Tg]
 by_cases hk:j / m=i
 .grind [kL]
 .have:¬(i*m+off<=j∧j<i*m+off+ds.length):=by
   rintro ⟨h1,h2⟩
   apply hk;have:j<(i+1)*m:=d_;exact qf o_ this
  grind
section
variable {P:Program}{g:Gh}{w:World}{t:F_}{O:Nat->Nat}{st st':St}{a:AV}{o:Oper}
def ax3 {v:AV}{d:D}{x:Value}{Ov:Nat->Nat}(h:toD v=some d)(r:RV g w v x Ov):RD w g.pm d x:=by
 cases v with
 |d c=>grind [toD,RV]
 |nl=>simp only[toD,ae]at h;subst h;rw[r.1];exact .nil _ _
 |own p m xs =>
  cases p<;>simp only[toD,ae,reduceCtorEq]at h
  have:=RV.share _ _ _ r
  grind [share,RV]
 |_=>simp[toD]at h
theorem RD.one {pm:Nat->Nat->Prop}{d:D}{x:Value}(r:RD w pm d x):x.oneCell'=true:=by cases r<;>rfl
theorem OU {vs:D_}{ds:W_}{xs:N_}{Ov:Nat->Nat}(h:mO vs=some ds)(r:RVs g w vs xs Ov) :
  xs.length=ds.length∧(∀(j:Nat) (d:D),ds[j]?=some d->∃x,xs[j]?=some x∧RD w g.pm d x)∧∀x∈xs,x.oneCell'=true:=by
 induction vs generalizing ds xs Ov with
 |nil =>
  grind [mO,RVs]
 |cons v vs ih =>
  simp only[mO]at h;split at h
  .rename_i c hc;split at h
   .obtain⟨x,s,O1,O2,rfl,r1,r2,_⟩:=r;have hd:=ax3 hc r1
    grind [RD.one]
   simp_all
  simp_all
end
abbrev dt:=@List.mem_of_getElem?
theorem aeU {v:AV}{d:D}(h:toD v=some d):bl v=true:=by
 cases v with
 |own p m xs=>cases p<;>simp[toD]at h;rfl
 |d c=>rfl
 |nl=>rfl
 |_=>simp[toD]at h
def MF {vs:D_}{ds:W_}(h:mO vs=some ds):vs.all bl=true:=by
 induction vs generalizing ds<;>grind [mO,aeU]
theorem Wh {vs:D_}{ds:W_}(h:mO vs=some ds):ds.length=vs.length:=by
 induction vs generalizing ds<;>grind [mO]
section
variable {P:Program}{g:Gh}{w:World}{t:F_}{O:Nat->Nat}{st st':St}{a:AV}{o:Oper}
def an6 {ty:TypeId}{n:Nat}(ht:xx P ty n=true){st:St}(s:S P g w st t O){id i off:Nat}{b:Nat}(hob:g.obj id=some b)
  {v:AV}{x:Value}{Ov:Nat->Nat}(rv:RV g w v x Ov){h':am}
  (h:storeAt st.hs.heap n (.pel id i off) v=some h') :
  ∃w' O2,(storeVar ty ⟨b,g.base id+(i*g.esz id+off),none⟩ x).run P w=.ok () w'∧S P g w' ⟨st.env,⟨h',st.hs.next⟩⟩ t O2∧bQ g w g w' (λc=>O c≠0)∧(∀c,O2 c<=O c)∧
   w'.heap.size=w.heap.size:=by
 unfold storeAt at h;split at h
 .simp at h
 .rename_i hn;rw[aD]at hn;simp only at h;split at h
  .simp at h
  .rename_i ds hds;split at h
   .rename_i m xs hg;split at h
    .rename_i e he;split at h
     .rename_i hb;rw[bp]at hb;simp only[ae]at h;subst h;obtain⟨O1,Oz,q,hsum,hst⟩:=s.store hg;rcases q with ⟨rfl,_⟩|⟨b',c,el,g1,g2,g3,g4,g5,g6,g7,g8,g9,g10⟩
      .simp at he
      .rw[hob]at g1;simp only[ae]at g1;subst g1;have hlt:=Gb he;have hem:e.length=m:=g7 e (dt he);have hmm:(i+1)*m<=xs.length*m:=cq _ hlt;rw[AG]at hmm;have rvs:=rv.cells (MF hds);obtain⟨k1,k2,k3⟩:=OU hds rvs;have hdl:ds.length=n:=by grind [Wh]
       have hlenx:x.cells.toList.length=n:=o_;obtain⟨c',hrun,hc',hcs⟩:=tF (P:=P) (b:=b) (el:=el) x.cells.toList w c (g.base id+(i*g.esz id+off)) 0 g4 k3 d_;have hrun':(storeVar ty ⟨b,g.base id+(i*g.esz id+off),none⟩ x).run P w=.ok () (setBlk w b (.cells c' el (0,0))):=by
        have hxs:x.cells.size=n:=o_;simp only[storeVar,aT,fA ht,bw,hxs,ne_eq,not_true,bm,nj];exact hrun
       have hx:bQ g w g (setBlk w b (.cells c' el (0,0))) λx=>x=b:=bQ.setBlk g4 g9
       have hOb:1<=O1 b:=u_;have hl2:∀e'∈xs.set i (aH e off ds),e'.length=m:=by
        grind [aH]
       refine⟨_,_,hrun',hst (setBlk w b (.cells c' el (0,0))) b c el (.arr m (xs.set i (aH e off ds))) (one b) g4 hOb hx ?_ (λy=>?_) (λy hy=>?_),
        hx.mono (λy _ e=>by grind),λy=>?_,s_⟩
       .refine .inr ⟨b,c',el,hob,g2,g3,fE (jV g4),o_,u_,hl2,?_,g9,λ_=>rfl⟩;rw[alg g7 he o_];have hfl:=gn g7;intro j d hj;rw[kL o_]at hj;have hcell:(setBlk w b (.cells c' el (0,0))).cell? ⟨b,g.base id+j,none⟩=c'.toList[g.base id+j]?:=by
         grind [iw,fE]
        rw[hcell,hc',kL d_,hlenx,g2];split at hj
        .grind [RD.ext]
        .obtain⟨u,hu,hr⟩:=g8 j d hj
         grind [RD.ext,iw]
       .have:=s.le y;grind
       .rw[wV hy];simp_all [jV]
       simp_all
     simp_all
    simp_all
   simp_all
def aDO {n:Nat}{p x:Rd}(s:S P g w st t O)(h:anu n p x st=some (a,st'))(hc:bG P (.st n p x) o.op=true) :
  fS P g w t O st' a ((execOp (ev t) o).run P w):=by
 obtain⟨dst,op,ty,pos,aft,gd⟩:=o;simp only[bG]at hc;split at hc
 .rename_i ty' p' x';simp only[af]at hc;obtain⟨⟨h1,h2⟩,h3⟩:=hc;obtain⟨pv,xv,e,Op,Ox,O',rp,rx,s2,l2,k⟩:=Rr s h2 h3 h;split at k
  .rename_i h' hst;obtain⟨rfl,rfl⟩:=k;have fin:∀{ad:Addr}{w':World},ev t p'=.pointer (some ad)->(storeVar ty' ad (ev t x')).run P w=.ok () w'->
     (execOp (ev t) ⟨dst,.store ty' p' x',ty,pos,aft,gd⟩).run P w=.ok .skip w':=by
    simp_all [execOp,Instr.storeAt,Instr.sureAddr]
   cases pv with
   |ptr id off =>
    obtain⟨⟨b,hob,he⟩,_⟩:=rp;obtain⟨w',O2,hrun,s3,hx,ho,hsz⟩:=akL h1 s2 hob rx (λc=>by have:=l2 c;have:=s.le c;omega) (λc hc=>s.hi c d_) hst;refine⟨undef,w',g,zero,O2,.inr ⟨fin he hrun,rfl⟩,?_,s3,hx.mono λc _ h=>by grind,λc=>by have:=s3.le c;simp_all,λc _=>?_,s_⟩
    all_goals grind [RV]
   |pel id i off =>
    obtain⟨⟨b,hob,he⟩,_⟩:=rp;obtain⟨w',O2,hrun,s3,hx,ho,hsz⟩:=an6 h1 s2 hob rx hst;refine⟨undef,w',g,zero,O2,.inr ⟨fin he hrun,rfl⟩,?_,s3,hx.mono λc _ h=>by grind,λc=>by have:=s3.le c;simp_all,λc _=>?_,s_⟩
    all_goals grind [RV]
   |_=>grind [storeAt]
  simp_all
 simp_all
end
section
variable {P:Program}{g:Gh}{w:World}{t:F_}{O:Nat->Nat}{st st':St}{a:AV}
def M4 (P:Program)(g:Gh)(w:World)(t:F_)(O:Nat->Nat)(st':St):Prop :=
 ∃g' O',S P g' w st' t O'∧bQ g w g' w (λb=>O b≠0)∧∀b,O' b<=O b
theorem M4.same {O':Nat->Nat}(s:S P g w st' t O')(h:∀b,O' b<=O b):M4 P g w t O st':=⟨g,O',s,.refl _ _ _,h⟩
def S.delEnv {st:St}(s:S P g w st t O)(i:Nat):∃O',S P g w ⟨del st.env i,st.hs⟩ t O'∧∀b,O' b<=O b:=by
 obtain⟨Oe,Oh,re,rh,ho⟩:=s.parts;obtain⟨O1,r1,h1⟩:=RL.drop re i;have hle:∀b,O1 b+Oh b<=O b:=λb=>by simp_all
 exact⟨λb=>O1 b+Oh b,s.of_env r1 rh (s.se.del i) (λ_=>rfl) hle,hle⟩
def S.delHeap {st:St}(s:S P g w st t O)(i:Nat):∃O',S P g w ⟨st.env,⟨del st.hs.heap i,st.hs.next⟩⟩ t O'∧∀b,O' b<=O b:=by
 obtain⟨Oe,Oh,re,rh,ho⟩:=s.parts;obtain⟨O1,r1,h1⟩:=RL.drop rh i;have hle:∀b,Oe b+O1 b<=O b:=λb=>by simp_all
 exact⟨λb=>Oe b+O1 b,⟨s.se,s.sh.del i,⟨Oe,O1,re,r1,λ_=>rfl⟩,λb=>aM (hle b) (s.le b),
  λb hb=>s.hi b d_,s.fresh,s.pmlt⟩,hle⟩
def ayl {is:C_}(s:S P g w st t O)(h:aib is st=some (a,st')):M4 P g w t O st':=by
 simp only[aib,ae,aR]at h;have:∃O',S P g w ⟨is.foldl del st.env,st.hs⟩ t O'∧∀b,O' b<=O b:=by
  induction is generalizing st O with
  |nil=>exact⟨O,s,λ_=>ak _⟩
  |cons i is ih =>
   obtain⟨O1,s1,h1⟩:=s.delEnv i
   grind
 grind [M4.same]
def S.delAll:∀{l:C_}{st:St}{O:Nat->Nat},S P g w st t O->∃O',S P g w ⟨st.env,⟨delAll st.hs.heap l,st.hs.next⟩⟩ t O'∧∀b,O' b<=O b
 |[],_,O,s=>⟨O,s,λb=>ak _⟩
 |i::r,st,O,s=>by
  obtain⟨O1,s1,h1⟩:=s.delHeap i;obtain⟨O2,s2,h2⟩:=S.delAll (l:=r) s1;exact⟨O2,s2,λb=>aM (h2 b) (h1 b)⟩
def ayi {i:Nat}(s:S P g w st t O)(h:Yl i st=some (a,st')):M4 P g w t O st':=by
 unfold Yl at h;split at h
 .rename_i id _ _;obtain⟨O1,s1,h1⟩:=s.delEnv i;obtain⟨O2,s2,h2⟩:=s1.delHeap id
  grind [M4.same]
 .rename_i caps _;obtain⟨O1,s1,h1⟩:=s.delEnv i;obtain⟨O2,s2,h2⟩:=S.delAll (l:=Iw caps) s1
  grind [M4.same]
 grind [M4.same]
def aC8 {i m:Nat}(s:S P g w st t O)(h:auU i m st=some (a,st')):M4 P g w t O st':=by
 unfold auU at h;split at h
 .rename_i hg;obtain⟨_,rfl⟩:=h;obtain⟨Oe,Oh,re,rh,ho⟩:=s.parts;obtain⟨O1,O2,⟨hlt,q⟩,r2,hs⟩:=RL.take re hg;simp only[RV]at q;obtain⟨O3,r3,h3⟩:=RL.put s.se r2 (x:=.own false m []) (O1:=zero) ⟨hlt,by grind [RV,DJ]⟩;have hle:∀b,O3 b+Oh b<=O b:=λb=>by simp_all
  exact .same (s.of_env r3 rh (s.se.put _ _) (λ_=>rfl) hle) hle
 grind [M4.same]
end
def Gh.keep (g:Gh)(b:Nat)(K:Nat->Prop):Gh:={ g with pm:=λb' o=>g.pm b' o∨(b'=b∧K o) }
section
variable {P:Program}{g:Gh}{w:World}{t:F_}{O:Nat->Nat}{st st':St}{a:AV}
def bQ.keep (g:Gh)(w:World)(b:Nat)(K:Nat->Prop):bQ g w (g.keep b K) w λx=>x=b where
 obj _ _ h:=⟨h,rfl,rfl,rfl⟩
 pm _ _ h:=⟨.inl h,rfl⟩
 blk _ _ h:=⟨rfl,λ_ h'=>h'.elim id λe=>absurd e.1 h⟩
 size:=ak _
 lp _ rc h:=⟨rc,h⟩
 same:=⟨rfl,rfl,λ_=>rfl⟩
def S.keep {st:St}(s:S P g w st t O){b:Nat}(hO:O b=0){c:F_}{el:TypeId}(hb:w.heap[b]?=some (.cells c el (0,0)))(K:Nat->Prop) :
  S P (g.keep b K) w st t O:=by
 obtain⟨Oe,Oh,re,rh,ho⟩:=s.parts;have hx:=bQ.keep g w b K;have re':=kY.ext hx re (λy hy e=>by simp_all);have rh':CY P (g.keep b K) w st.hs.heap Oh:=rh.imp' λk v Q _ hQ q=>q.ext hx (λy hy e=>by grind) (λy ds hd e=>by
  simp_all)
 exact⟨s.se,s.sh,⟨Oe,Oh,re',rh',ho⟩,s.le,s.hi,s.fresh,λb' o h=>h.elim (s.pmlt b' o) λe=>by grind⟩
def avx (P:Program)(g:Gh)(w:World)(t:F_)(O:Nat->Nat)(st:St)(x:Value)(Ov:Nat->Nat)(r:AV×am):Prop :=
 ∃g' Ov' O',RV g' w r.1 x Ov'∧S P g' w ⟨st.env,⟨r.2,st.hs.next⟩⟩ t O'∧bQ g w g' w (λb=>Ov b=0∧O b≠0)∧∀b,Ov' b+O' b<=Ov b+O b
def anf {st:St}(s:S P g w st t O){v:AV}{x:Value}{Ov:Nat->Nat}(rv:RV g w v x Ov) :
  avx P g w t O st x Ov (zJ st.hs.heap v):=by
 have triv:avx P g w t O st x Ov (v,st.hs.heap):=⟨g,Ov,O,rv,s,.refl _ _ _,λ_=>ak _⟩
 cases v with
 |sl id off len =>
  unfold zJ;simp only;split
  .rename_i m xs hg;split
   .rename_i hb;rw[bp]at hb;obtain⟨Oe,Oh,re,rh,ho⟩:=s.parts;obtain⟨O1,O2,q,r2,hs⟩:=RL.take rh hg;have hle2:∀b,Oe b+O2 b<=O b:=λb=>by grind
    have s2:S P g w ⟨st.env,⟨del st.hs.heap id,st.hs.next⟩⟩ t (λb=>Oe b+O2 b) :=
     ⟨s.se,s.sh.del id,⟨Oe,O2,re,r2,λ_=>rfl⟩,λb=>aM (hle2 b) (s.le b),λb hb=>s.hi b d_,s.fresh,s.pmlt⟩
    have hsub:(Vm.sub xs off len).length=len:=kE hb;have emp:len=0->(∃a,x=.slice a 0 0)->RV g w (.own false m (Vm.sub xs off len)) x zero:=by
     grind [RV,DJ]
    rcases rv with ⟨h0,h⟩|⟨b,cap,hob,rfl,hlc,hcap⟩
    .exact⟨g,zero,_,emp h0 h,s2,.refl _ _ _,λb=>by simp_all⟩
    .rcases q with ⟨rfl,g1,g2,g3,_⟩|⟨b',c,el,g1,g2,g3,g4,g5,g6,g7,g8,g9,g10⟩
     .have hl0:len=0:=u_;have hc0:cap=0:=by
       grind [Nat.mul_eq_zero]
      subst hl0 hc0;exact⟨g,zero,_,emp rfl ⟨_,rfl⟩,s2,.refl _ _ _,λb=>by simp_all⟩
     .rw[hob]at g1;simp only[ae]at g1;subst g1;have h1:O1 b=1:=u_;have hO2:Oe b+O2 b=0:=by have:=hs b;have:=ho b;have:=s.le b;omega
      have s3:=s2.keep hO2 g4 (λo=>g.base id+off*m<=o∧o<g.base id+off*m+len*m);refine⟨_,one b,_,?_,s3,(bQ.keep g w b _).mono λy _ e=>?_,λy=>?_⟩
      .refine .inr ⟨b,g.base id+off*m,cap,c,el,u_,o_,g3,Il g7 off len,g4,?_,?_,λo ho=>?_,λ_ j hj=>?_,rfl⟩
       .grind [Nat.add_mul]
       .rw[oL g7];exact(g8.sub _ _).ext (bQ.keep g w b _) (.inl rfl)
       .rcases ho with h|h<;>simp_all
       .rw[hsub]at hj;exact .inr ⟨rfl,o_,o_⟩
      all_goals grind
   omega
  omega
 |_=>exact triv
end
section
variable {P:Program}{g:Gh}{w:World}{t:F_}{O:Nat->Nat}{st st':St}{a:AV}
def S.pull {st:St}(s:S P g w st t O){i:Nat}{v:AV}(hg:get st.env i=some v) :
  ∃Ov O',i<t.size∧RV g w v (t.getD i undef) Ov∧S P g w ⟨del st.env i,st.hs⟩ t O'∧∀b,Ov b+O' b<=O b:=by
 obtain⟨Oe,Oh,re,rh,ho⟩:=s.parts;obtain⟨O1,O2,⟨hlt,q⟩,r2,hs⟩:=RL.take re hg;have hle:∀b,O1 b+(O2 b+Oh b)<=O b:=λb=>by grind
 exact⟨O1,λb=>O2 b+Oh b,hlt,q,s.of_env r2 rh (s.se.del i) (λ_=>rfl) (λb=>by grind),hle⟩
def S.setSlot {e:aZ}{hs:HS}{i:Nat}(he:cX e)(s:S P g w ⟨del e i,hs⟩ t O){v:AV}{Ov:Nat->Nat}(hi:i<t.size)(r:RV g w v (t.getD i undef) Ov)
  (hle:∀b,Ov b+O b<=1)(hhi:∀b,Ov b≠0->b<w.heap.size):∃O',S P g w ⟨put e i v,hs⟩ t O'∧∀b,O' b<=Ov b+O b:=by
 obtain⟨Oe,Oh,re,rh,ho⟩:=s.parts;obtain⟨O3,r3,h3⟩:=RL.put he re (x:=v) (O1:=Ov) ⟨hi,r⟩;have hsum:∀b,O3 b+Oh b<=Ov b+O b:=λb=>by grind
 refine⟨λb=>O3 b+Oh b,⟨he.put _ _,s.sh,⟨O3,Oh,r3,rh,λ_=>rfl⟩,λb=>aM (hsum b) (hle b),λb hb=>?_,s.fresh,s.pmlt⟩,hsum⟩
 grind [hi]
def aA5 {i:Nat}(s:S P g w st t O)(h:Yz i st=some (a,st')):M4 P g w t O st':=by
 unfold Yz at h;split at h
 .rename_i v hg;obtain⟨_,rfl⟩:=h;obtain⟨Ov,O1,hi,rv,s1,l1⟩:=s.pull hg;obtain⟨g',Ov',O2,rv',s2,hx,l2⟩:=anf s1 rv;have hle:∀b,Ov' b+O2 b<=O b:=λb=>aM (l2 b) (l1 b)
  obtain⟨O3,s3,l3⟩:=S.setSlot (e:=st.env) s.se s2 hi rv' (λb=>aM (hle b) (s.le b)) (λb hb=>s.hi b d_);exact⟨g',O3,s3,hx.mono λb _ h=>by grind,λb=>aM (l3 b) (hle b)⟩
 simp_all
def IY:∀(offs:C_) {g:Gh}{O:Nat->Nat}{e:aZ}{h:am}{n:Nat},S P g w ⟨e,⟨h,n⟩⟩ t O->∀{cs:D_}{xs:N_}{Ov:Nat->Nat},
  RVs g w cs xs Ov->(∀b,Ov b+O b<=1)->
  ∃g' Ov' O',RVs g' w (xd offs cs h).1 xs Ov'∧S P g' w ⟨e,⟨(xd offs cs h).2,n⟩⟩ t O'∧bQ g w g' w (λb=>Ov b≠0∨O b≠0)∧∀b,Ov' b+O' b<=Ov b+O b
 |[],g,O,e,h,n,s,cs,xs,Ov,rv,_=>⟨g,Ov,O,rv,s,.refl _ _ _,λ_=>ak _⟩
 |o::r,g,O,e,h,n,s,cs,xs,Ov,rv,hle=>by
  unfold xd;split
  .rename_i v hv;obtain⟨x,A1,A2,hx,r1,r2,hs⟩:=rv.pull hv;obtain⟨g1,A1',O1,r1',s1,hx1,l1⟩:=anf s r1;have r2':=RVs.ext hx1 _ _ _ r2 (λb hb hh=>by grind);have hj:(cs.set o .junk)[o]?=some .junk:=d_;obtain⟨y,B1,hy,_,_,rep⟩:=r2'.replace hj;rw[hx]at hy;simp only[ae]at hy;subst hy;obtain⟨B2,r3,h3⟩:=rep _ _ r1';rw[List.set_set]at r3;have hle1:∀b,B2 b+O1 b<=Ov b+O b:=λb=>by grind
   obtain⟨g2,Ov2,O2,r4,s4,hx2,l4⟩:=IY r s1 r3 (λb=>aM (hle1 b) (hle b));refine⟨g2,Ov2,O2,r4,s4,(hx1.mono λb _ hh=>.inr hh.2).trans hx2 λb _ hh=>?_,λb=>aM (l4 b) (hle1 b)⟩
   grind
  .exact IY r s rv hle
def ayk {i:Nat}{offs:C_}(s:S P g w st t O)(h:agJ i offs st=some (a,st')):M4 P g w t O st':=by
 unfold agJ at h;split at h
 .rename_i cs hg;obtain⟨_,rfl⟩:=h;obtain⟨Ov,O1,hi,rv,s1,l1⟩:=s.pull hg;obtain⟨xs,hxs,rv⟩:=rv;obtain⟨g',Ov',O2,rv',s2,hx,l2⟩:=IY offs s1 rv (λb=>aM (l1 b) (s.le b));have hle:∀b,Ov' b+O2 b<=O b:=λb=>aM (l2 b) (l1 b)
  obtain⟨O3,s3,l3⟩:=S.setSlot (e:=st.env) (v:=.agg (xd offs cs st.hs.heap).1) s.se s2 hi (by grind [RV]) (λb=>aM (hle b) (s.le b))
   (λb hb=>s.hi b d_)
  exact⟨g',O3,s3,hx.mono λb _ h=>by grind,λb=>aM (l3 b) (hle b)⟩
 simp_all
end
section
variable {P:Program}{g:Gh}{w:World}{t:F_}{O:Nat->Nat}{st st':St}{a:AV}
def RU {g:Gh}(s:S P g w st t O){v:AV}{x:Value}{Ov:Nat->Nat}(rv:RV g w v x Ov)(hle:∀b,Ov b+O b<=1) :
  ∃g',RV g' w (mW v) x Ov∧S P g' w st t O∧bQ g w g' w (λb=>Ov b≠0):=by
 have triv:RV g w (mW v) x Ov->∃g',RV g' w (mW v) x Ov∧S P g' w st t O∧bQ g w g' w (λb=>Ov b≠0):=λr=>⟨g,r,s,.refl _ _ _⟩
 cases v with
 |own p m xs =>
  cases p with
  |false=>exact triv rv
  |true =>
   rcases rv with h|⟨b,off,cap,c,el,rfl,hcap,hm,hl,hb,hsz,hrc,hpm,hp,rfl⟩
   .exact triv (by exact .inl h)
   .have hO:O b=0:=by grind [AT]
    refine⟨g.keep b λo=>off<=o∧o<off+xs.length*m,?_,s.keep hO hb _,(bQ.keep g w b _).mono λy _ e=>by simp_all⟩;refine .inr ⟨b,off,cap,c,el,rfl,hcap,hm,hl,hb,hsz,hrc.ext (bQ.keep g w b _) (.inl rfl),λo ho=>?_,λ_ j hj=>.inr ⟨rfl,o_,o_⟩,rfl⟩;rcases ho with h|h<;>simp_all
 |_=>exact triv rv
def S9 {f:AV->AV}(hf:∀{g:Gh}{O:Nat->Nat},S P g w st t O->∀{v:AV}{x:Value}{Ov:Nat->Nat},RV g w v x Ov->(∀b,Ov b+O b<=1)->
  ∃g',RV g' w (f v) x Ov∧S P g' w st t O∧bQ g w g' w (λb=>Ov b≠0)):∀{vs:D_}{g:Gh}{O:Nat->Nat},S P g w st t O->∀{xs:N_}{Ov:Nat->Nat},
  RVs g w vs xs Ov->(∀b,Ov b+O b<=1)->∃g',RVs g' w (vs.map f) xs Ov∧S P g' w st t O∧bQ g w g' w (λb=>Ov b≠0)
 |[],g,O,s,xs,Ov,rv,_=>⟨g,u_,s,.refl _ _ _⟩
 |v::vs,g,O,s,xs,Ov,rv,hle=>by
  obtain⟨x,ys,O1,O2,rfl,r1,r2,hs⟩:=rv;obtain⟨g1,q1,s1,hx1⟩:=hf s r1 (λb=>by grind);have r2':=RVs.ext hx1 _ _ _ r2 (λb hb hh=>by grind);obtain⟨g2,q2,s2,hx2⟩:=S9 hf s1 r2' (λb=>by grind);refine⟨g2,?_,s2,(hx1.mono λb _ h=>by simp_all).trans hx2 λb _ h=>by simp_all⟩;exact⟨x,ys,O1,O2,rfl,RV.ext hx2 _ _ _ q1 (λb hb hh=>by grind),q2,hs⟩
def adO {g:Gh}{O:Nat->Nat}(s:S P g w st t O){v:AV}{x:Value}{Ov:Nat->Nat}(rv:RV g w v x Ov)(hle:∀b,Ov b+O b<=1) :
  ∃g',RV g' w (Cq v) x Ov∧S P g' w st t O∧bQ g w g' w (λb=>Ov b≠0):=by
 cases v with
 |agg cs =>
  obtain⟨xs,rfl,rv⟩:=rv
  simp_all [S9,RU,Cq,RV]
 |_=>exact RU s rv hle
def ahQ {g:Gh}{O:Nat->Nat}(s:S P g w st t O){v:AV}{x:Value}{Ov:Nat->Nat}(rv:RV g w v x Ov)(hle:∀b,Ov b+O b<=1) :
  ∃g',RV g' w (firm v) x Ov∧S P g' w st t O∧bQ g w g' w (λb=>Ov b≠0):=by
 cases v with
 |tup cs =>
  obtain⟨xs,rfl,rv⟩:=rv
  simp_all [S9,adO,firm,RV]
 |_=>exact adO s rv hle
end
section
variable {P:Program}{w:World}{t:F_}{st st':St}{a:AV}
def agN (P:Program)(g:Gh)(w:World)(t:F_)(O:Nat->Nat)(env:aZ)(x:Value)(Ov:Nat->Nat)(r:AV×HS):Prop :=
 ∃g' Ov' O',RV g' w r.1 x Ov'∧S P g' w ⟨env,r.2⟩ t O'∧bQ g w g' w (λ_=>False)∧∀b,Ov' b+O' b<=Ov b+O b
def bQ.id (g:Gh)(w:World){id:Nat}(hn:g.obj id=none)(b base esz bsz:Nat):bQ g w (g.add id b base esz bsz) w λ_=>False :=
 by grind [bQ.add,bQ.refl]
def atS {g:Gh}{O:Nat->Nat}{hs:HS}{env:aZ}(s:S P g w ⟨env,hs⟩ t O){v:AV}{x:Value}{Ov:Nat->Nat}(rv:RV g w v x Ov)(hle:∀b,Ov b+O b<=1)
  (hhi:∀b,Ov b≠0->b<w.heap.size):agN P g w t O env x Ov (oP hs v):=by
 have triv:agN P g w t O env x Ov (v,hs):=⟨g,Ov,O,rv,s,.refl _ _ _,λ_=>ak _⟩
 cases v with
 |own p m xs =>
  cases p with
  |false=>exact triv
  |true =>
   unfold oP;simp only;split
   .exact triv
   .rename_i hm;have hm:m≠0:=by rintro rfl;simp at hm
    have hn:=s.fresh hs.next (ak _)
    have put1:∀(b base esz bsz:Nat) (ob:Obj) (O1:Nat->Nat),kA P (g.add hs.next b base esz bsz) w hs.next ob O1->(∀y,O1 y+O y<=1)->(∀y,O1 y≠0->y<w.heap.size)->
      ∃O',S P (g.add hs.next b base esz bsz) w ⟨env,⟨put hs.heap hs.next ob,hs.next+1⟩⟩ t O'∧∀y,O' y<=O1 y+O y:=by
     intro b base esz bsz ob O1 r h1 h2;have hx:=bQ.id g w hn b base esz bsz;obtain⟨Oe,Oh,re,rh,ho⟩:=s.parts;have re':=kY.ext hx re s_;have rh':CY P (g.add hs.next b base esz bsz) w hs.heap Oh:=rh.imp' λk v Q _ hQ q=>q.ext hx s_ (by simp)
     obtain⟨O2,r2,h3⟩:=RL.drop rh' hs.next;obtain⟨O3,r3,h4⟩:=RL.put s.sh r2 r;have hl:∀y,Oe y+O3 y<=O1 y+O y:=λy=>by grind
     refine⟨λy=>Oe y+O3 y,⟨s.se,s.sh.put _ _,⟨Oe,O3,re',r3,λ_=>rfl⟩,λy=>aM (hl y) (h1 y),λy hy=>?_,λi hi=>?_,s.pmlt⟩,hl⟩
     all_goals grind [S.hi,Gh.add,S.fresh]
    rcases rv with ⟨rfl,hz,⟨a,rfl⟩⟩|⟨b,off,cap,c,el,rfl,hcap,hm',hl,hb,hsz,hrc,hpm,hp,rfl⟩
    .obtain⟨O',s',hO'⟩:=put1 0 0 m 0 (.arr m []) zero (by
      simp only[kA];exact .inl ⟨trivial,by simp[Gh.add],by simp[Gh.add],o_,⟨0,by simp[Gh.add]⟩,λ_=>trivial⟩) (λy=>by simp_all) (λy h=>absurd rfl h)
     refine⟨_,zero,O',?_,s',bQ.id g w hn _ _ _ _,λy=>by simp_all⟩
     grind [RV]
    .obtain⟨O',s',hO'⟩:=put1 b off m (off+cap*m) (.arr m xs) (one b) (by
      refine .inr ⟨b,c,el,by simp[Gh.add],by simp[Gh.add],hm',hb,by grind [Gh.add],?_,hl,by grind [Gh.add],λo ho=>?_,λ_=>rfl⟩
      .simp_all [Gh.add,cq]
      .have:=(hpm o ho).1;simp_all) hle hhi
     refine⟨_,zero,O',?_,s',bQ.id g w hn _ _ _ _,λy=>by simp_all⟩
     simp_all [RV,Gh.add]
 |_=>exact triv
end
section
variable {P:Program}{w:World}{t:F_}
def YA (P:Program)(w:World)(t:F_)(f:HS->AV->AV×HS):Prop :=
 ∀{g:Gh}{O:Nat->Nat}{hs:HS}{env:aZ},S P g w ⟨env,hs⟩ t O->∀{v:AV}{x:Value}{Ov:Nat->Nat},RV g w v x Ov->(∀b,Ov b+O b<=1)->
  (∀b,Ov b≠0->b<w.heap.size)->agN P g w t O env x Ov (f hs v)
def aam {f:HS->AV->AV×HS}(hf:YA P w t f){g:Gh}{O:Nat->Nat}{hs:HS}{env:aZ}(s:S P g w ⟨env,hs⟩ t O){cs:D_}{xs:N_}{Ov:Nat->Nat}
  (rv:RVs g w cs xs Ov)(hle:∀b,Ov b+O b<=1)(hhi:∀b,Ov b≠0->b<w.heap.size){o:Nat}{v:AV}(hv:cs[o]?=some v) :
  ∃g' Ov' O',RVs g' w (cs.set o (f hs v).1) xs Ov'∧S P g' w ⟨env,(f hs v).2⟩ t O'∧bQ g w g' w (λ_=>False)∧∀b,Ov' b+O' b<=Ov b+O b:=by
 obtain⟨x,A1,A2,hx,r1,r2,hs'⟩:=rv.pull hv;obtain⟨g1,A1',O1,r1',s1,hx1,l1⟩:=hf s r1 (λb=>by grind) (λb h=>hhi b d_);have r2':=RVs.ext hx1 _ _ _ r2 (by simp)
 grind [List.getElem?_set_self,RVs.replace,List.set_set]
def adt:YA P w t oP:=λs _ _ _ r h1 h2=>atS s r h1 h2
def aaz (o:Nat):YA P w t (λhs=>nA hs o):=by
 intro g O hs env s v x Ov rv hle hhi
 cases v with
 |agg cs =>
  obtain⟨xs,rfl,rv⟩:=rv;simp only[nA];split
  .rename_i v hv;obtain⟨g',Ov',O',r',s',hx,l'⟩:=aam adt s rv hle hhi hv;exact⟨g',Ov',O',by grind [RV],s',hx,l'⟩
  .exact⟨g,Ov,O,by grind [RV],s,.refl _ _ _,λ_=>ak _⟩
 |_=>exact adt s rv hle hhi
def anT (p:Nat×Nat):YA P w t (λhs=>qT hs p):=by
 intro g O hs env s v x Ov rv hle hhi
 cases v with
 |tup cs =>
  obtain⟨xs,rfl,rv⟩:=rv;simp only[qT];split
  .rename_i v hv;obtain⟨g',Ov',O',r',s',hx,l'⟩:=aam (aaz p.2) s rv hle hhi hv;exact⟨g',Ov',O',by grind [RV],s',hx,l'⟩
  .exact⟨g,Ov,O,by grind [RV],s,.refl _ _ _,λ_=>ak _⟩
 |_=>exact aaz p.2 s rv hle hhi
def Lh:∀th:R_,YA P w t (λhs v=>eC th v hs)
 |[]=>λs _ _ _ rv _ _=>⟨_,_,_,rv,s,.refl _ _ _,λ_=>ak _⟩
 |p::r=>by
  intro s v x Ov rv hle hhi;obtain⟨g1,Ov1,O1,r1,s1,hx1,l1⟩:=anT p s rv hle hhi;obtain⟨g2,Ov2,O2,r2,s2,hx2,l2⟩:=Lh r s1 r1 (λb=>aM (l1 b) (hle b)) (λb hb=>by
   grind [S.hi])
  exact⟨g2,Ov2,O2,r2,s2,hx1.trans hx2 (λ_ _ h=>h),λb=>aM (l2 b) (l1 b)⟩
end
abbrev gY:=@Array.getD_eq_getD_getElem?
abbrev gD:=@Array.getElem?_setIfInBounds
section
variable {P:Program}{g:Gh}{w:World}{t:F_}{O:Nat->Nat}
def S.setTmp {e:aZ}{hs:HS}(s:S P g w ⟨e,hs⟩ t O){d:Nat}{v:AV}{x:Value}{Ov:Nat->Nat}(hd:d<t.size)(r:RV g w v x Ov)
  (hle:∀b,Ov b+O b<=1)(hhi:∀b,Ov b≠0->b<w.heap.size):∃O',S P g w ⟨put e d v,hs⟩ (t.setIfInBounds d x) O'∧∀b,O' b<=Ov b+O b:=by
 obtain⟨Oe,Oh,re,rh,ho⟩:=s.parts;obtain⟨O2,r2,h2⟩:=RL.drop re d;have r2':kY g w (del e d) (t.setIfInBounds d x) O2:=r2.imp' λk v' O1 hm _ q=>by
  have hk:=(am7 hm).2;refine⟨u_,?_⟩;have:(t.setIfInBounds d x).getD k undef=t.getD k undef:=by
   simp only[gY,gD]
   grind
  grind
 obtain⟨O3,r3,h3⟩:=RL.put s.se r2' (x:=v) (O1:=Ov) ⟨u_,by
  simp_all⟩
 have hl:∀b,O3 b+Oh b<=Ov b+O b:=λb=>by grind
 refine⟨λb=>O3 b+Oh b,⟨s.se.put _ _,s.sh,⟨O3,Oh,r3,rh,λ_=>rfl⟩,λb=>aM (hl b) (hle b),λb hb=>?_,s.fresh,s.pmlt⟩,hl⟩
 grind [hi]
end
abbrev iY:=@List.mem_iff_getElem
abbrev my:=@Bool.true_eq_false
section
variable {P:Program}{g:Gh}{w:World}{t:F_}{O:Nat->Nat}{st st':St}{a:AV}{o:Oper}
def Mh {m:Nat}{ys:E_}(h:gB m ys=true):∀e∈ys,e.length=m:=by
 induction ys<;>grind [gB,Nat.beq_eq]
def SU (ds:W_):(Lw ds).flatten=ds:=by
 induction ds<;>grind [Lw]
def aiz (ds:W_):∀e∈Lw ds,e.length=1:=by
 induction ds<;>grind [Lw]
structure CF (g:Gh)(w:World)(m:Nat)(ys:E_)(a:Option Addr)(news:N_):Prop where
 nn:a=.none->ys.length=0
 len:news.length=ys.length*m
 rd:∀(j:Nat) (d:D),ys.flatten[j]?=some d->∃u,news[j]?=some u∧RD w g.pm d u
 one:∀u∈news,u.oneCell'=true
 cell:∀ad,a=some ad->∀(j:Nat) (u:Value),news[j]?=some u->w.cell? (ad.add j)=some u
def CF.nil (g:Gh)(w:World)(m:Nat)(a:Option Addr):CF g w m [] a [] :=
 ⟨λ_=>rfl,s_,λj d h=>by simp at h,λu h=>by simp at h,λad _ j u h=>by simp at h⟩
def CF.of_cells {m:Nat}{ys:E_}(hl:∀e∈ys,e.length=m){b off:Nat}(r:jw w g.pm ys.flatten b off):∃news,CF g w m ys (some ⟨b,off,.none⟩) news:=by
 obtain⟨xs,h1,h2,h3⟩:=r.vals;refine⟨xs,λh=>by simp at h,by grind [gn],λj d hd=>?_,λu hu=>?_,λad e j u hj=>?_⟩
 .have hj:j<xs.length:=d_;exact⟨xs[j],s_,h3 j d _ hd s_⟩
 .obtain⟨j,hj,rfl⟩:=iY.1 hu;have hj':j<ys.flatten.length:=o_;exact(h3 j _ _ (bC hj') (bC hj)).one
 grind [me]
def BM {st:St}(s:S P g w st t O){v:AV}{ys:E_}{x:Value}{Ov:Nat->Nat}{m:Nat}(he:elems st.hs.heap v=some ys)(hl:∀e∈ys,e.length=m)
  (rv:RV g w v x Ov):∃a cap news,x=.slice a ys.length cap∧CF g w m ys a news:=by
 by_cases hn:ud v=false
 .rcases (ab1 he hn rv).list with ⟨rfl,a,cap,rfl⟩|⟨b,off,m',cap,rfl,_,_,_,hc,_⟩
  .exact⟨a,cap,[],rfl,CF.nil _ _ _ _⟩
  .obtain⟨news,h⟩:=CF.of_cells hl hc
   grind
 .cases v<;>simp only[ud,not_true,my,not_false_eq_true]at hn
  rename_i id off len;simp only[elems]at he;split at he
  .rename_i xs hx;split at he
   .rename_i hb;rw[bp]at hb;simp only[ae]at he;subst he;have hsl:(Vm.sub xs off len).length=len:=kE hb;rcases rv.1 with ⟨rfl,a,rfl⟩|⟨b,cap,hob,rfl,hlc,hcap⟩
    .exact⟨a,0,[],rfl,CF.nil _ _ _ _⟩
    .obtain⟨Oe,Oh,re,rh,ho⟩:=s.parts;unfold objElems at hx;split at hx
     .rename_i m' zs hg;obtain⟨O1,q,_⟩:=RL.get rh hg;rcases q with ⟨rfl,_⟩|⟨b',c,el,g1,g2,g3,g4,g5,g6,g7,g8,g9,g10⟩
      .have h0:len=0:=u_;subst h0;exact⟨_,cap,[],rfl,CF.nil _ _ _ _⟩
      .have hc:jw w g.pm (Vm.sub zs off len).flatten b (g.base id+off*g.esz id):=by
        simp_all [oL,jw.sub]
       simp_all [CF.of_cells]
     .rename_i cs hg;split at hx
      .rename_i ds hds;obtain⟨O1,q,_⟩:=RL.get rh hg;obtain⟨b',c,el,O2,g1,g2,g3,g4,g5,g6,g7,g8⟩:=q;obtain⟨h1,h2,h3⟩:=OU hds g6;have hc:jw w g.pm (Vm.sub (Lw ds) off len).flatten b (g.base id+off*g.esz id):=by
        rw[oL (aiz ds),SU,g2,g3,bn];intro j d hj;obtain⟨hj,_⟩:=al2 hj
        grind [iw]
       simp_all [CF.of_cells]
      simp_all
     simp_all
   simp_all
  simp_all
def CF.first {m:Nat}{ys:E_}{ad:Option Addr}{news:N_}(h:CF g w m ys ad news){len cap n:Nat}(hn:n<=ys.length){w1:World}(hw:w1.heap=w.heap) :
  (Builtin.firstCells m n (.slice ad len cap)).run P w1=.ok (news.take (n*m)).toArray w1:=by
 cases ad with
 |none =>
  have:=h.nn rfl
  simp_all [Builtin.firstCells]
 |some ad =>
  have hl:(news.take (n*m)).length=n*m:=by
   grind [len,Nat.mul_le_mul_right]
  refine run_firstCells_some (P:=P) w1 m n ad len cap _ hl λj v hj=>?_
  have hj':news[j]?=some v:=by
   grind
  have:=h.cell ad rfl j v hj'
  grind [World.cell?]
end
abbrev aB:=@List.eq_nil_of_length_eq_zero
abbrev aj:=@List.length_append
structure X7 (P:Program)(w:World)(t1:TypeId)(x:Value)(e:TypeId)(m n:Nat)(news:N_):Prop where
 len:news.length=n*m
 one:∀u∈news,u.oneCell'=true
 src:((∃e',P.underlying t1=some (.slice e'))∧(∃a cap,x=.slice a n cap)∧∀w1:World,w1.heap=w.heap->(Builtin.firstCells m n x).run P w1=.ok news.toArray w1)∨
  ((∃k,P.underlying t1=some (.int k))∧(∃k,x=.int k (n:Int))∧∃i z,P.info? e=some i∧i.zero=some z∧z.cells.size=m∧news.toArray=Builtin.zeroCells z.cells n)
section
variable {P:Program}{w:World}{t0 t1 ty e:TypeId}{m n:Nat}{x:Value}{news:N_}
def uQ {i:TypeInfo}{z:Value}(hi:P.info? e=some i)(hz:i.zero=some z):(zeroValue e).run P w=.ok z w:=by
 simp_all [zeroValue,typeInfo]
def abV {n b:Nat}(hn:n<=4294967296)(hb:b<=4096):n*b<=17592186044416:=aM (qB hn hb) (by decide)
def CO (hu:P.underlying t0=some (.slice e)){i:TypeInfo}(hi:P.info? e=some i)(hs:i.size=m)(hm:0<m)(hby:i.bytes<=4096)(hn:n<=4294967296)
  (hx:X7 P w t1 x e m n news){base:Option Addr}{sLen sCap:Nat}(hroom:sLen+n<=sCap) :
  (Builtin.append_ #[t0,t1] ty #[.slice base sLen sCap,x]).run P w =
   match base with
   |some a=>((do storeCells (a.add (sLen*m)) news;pure (.slice (some a) (sLen+n) sCap):Sem Value)).run P w
   |none=>.ok (.slice none (sLen+n) sCap) w:=by
 have hlen:=hx.len;have hroom':sLen+n<=sCap:=hroom;rcases hx.src with ⟨⟨e',h1⟩,⟨ad,cap,rfl⟩,hf⟩|⟨⟨k,h1⟩,⟨kk,rfl⟩,i',z,hi',hz,hzs,hzc⟩
 .have hf':=hf w rfl
  cases base<;>simp[Builtin.append_,bf hu,bf h1,sizeOf,typeInfo,hi,hs,Builtin.lenOf,hroom',hf']
 .rw[hi]at hi';simp only[ae]at hi';subst hi';have hw1:=N1 hn;have hbytes:=abV hn hby;have hn0:¬(n:Int)<0:=o_;have hzv:=uQ (P:=P) (w:=w) hi hz;have hbig':¬(281474976710656<(n:Int)*(i.bytes:Int)):=o_;by_cases hnm:n*m=0
  .have hnil:news=[]:=aB o_;subst hnil
   cases base<;>simp[Builtin.append_,bf hu,bf h1,sizeOf,typeInfo,hi,hs,asInt,asIntOf,hw1,hn0,hbig',hroom',hnm]
  .cases base<;>simp[Builtin.append_,bf hu,bf h1,sizeOf,typeInfo,hi,hs,asInt,asIntOf,hw1,hn0,hbig',hroom',hnm,hzv,<-hzc]
def XQ (hu:P.underlying t0=some (.slice e)){i:TypeInfo}{z:Value}(hi:P.info? e=some i)(hz:i.zero=some z)(hzs:z.cells.size=m)(hs:i.size=m)(hm:0<m)
  (hby:i.bytes<=4096)(hn:n<=4294967296)(hx:X7 P w t1 x e m n news){base:Option Addr}{sLen sCap:Nat}{olds:N_}(hlo:olds.length=sLen*m)
  (hold:∀w1:World,w1.heap=w.heap->(Builtin.firstCells m sLen (.slice base sLen sCap)).run P w1=.ok olds.toArray w1)
  (hsum:sLen+n<=4294967296)(hg:sCap<sLen+n) :
  ∃cap' rest,(Builtin.append_ #[t0,t1] ty #[.slice base sLen sCap,x]).run P w =
    .ok (.slice (some ⟨w.heap.size,0,none⟩) (sLen+n) cap') (w.drew.alloc (.cells (olds++(news++rest)).toArray e))∧
   sLen+n<=cap'∧cap'*m<=(olds++(news++rest)).length:=by
 have hlen:=hx.len;have hng:¬(sLen+n<=sCap):=o_;have h63:¬(9223372036854775807<((sLen:Int)+(n:Int))):=o_;have hfit:Builtin.nextslicecap (sLen+n) sCap*i.bytes<=281474976710656:=growslice_fits hg (aM (abV hsum hby) k_);have h48:¬(281474976710656<Builtin.nextslicecap (sLen+n) sCap*i.bytes):=o_;have hcap:sLen+n<=grownCap w (sLen+n) sCap e:=by grind [grownCap,Question.cut]
 have hold':=hold w.drew rfl;have hzv:=λw1=>uQ (P:=P) (w:=w1) hi hz
 refine⟨grownCap w (sLen+n) sCap e,(Builtin.zeroCells z.cells (grownCap w (sLen+n) sCap e-(sLen+n))).toList,?_,hcap,?_⟩
 .rcases hx.src with ⟨⟨e',h1⟩,⟨ad,cap,rfl⟩,hf⟩|⟨⟨k,h1⟩,⟨kk,rfl⟩,i',z',hi',hz',hzs',hzc⟩
  .have hf':=hf w.drew rfl;simp[Builtin.append_,bf hu,bf h1,sizeOf,typeInfo,hi,hs,hzv,Builtin.lenOf,hng,h63,h48,Question.forced,hf',hold',newRow,grownCap]
   congr 2
   simp_all
  .rw[hi]at hi';simp only[ae]at hi';subst hi';rw[hz]at hz';simp only[ae]at hz';have hw1:=N1 hn;have hbytes:=abV hn hby;have hbig':¬(281474976710656<(n:Int)*(i.bytes:Int)):=o_;have hn0:¬(n:Int)<0:=o_;by_cases hnm:n*m=0
   .simp[Builtin.append_,bf hu,bf h1,sizeOf,typeInfo,hi,hs,asInt,asIntOf,hw1,hn0,hbig',hnm,hzv,hng,h63,h48,Question.forced,hold',newRow,grownCap]
    congr 2
    simp_all
   .simp[Builtin.append_,bf hu,bf h1,sizeOf,typeInfo,hi,hs,asInt,asIntOf,hw1,hn0,hbig',hnm,hzv,hng,h63,h48,Question.forced,<-hzc,hold',newRow,grownCap]
    congr 2
    grind
 .have hz1:(Builtin.zeroCells z.cells (grownCap w (sLen+n) sCap e-(sLen+n))).toList.length=(grownCap w (sLen+n) sCap e-(sLen+n))*m:=by
   grind [Builtin.zeroCells]
  rw[aj,aj,hlo,hlen,hz1,<-dh,<-dh]
  grind
end
abbrev kr:=@Array.getElem?_toList
abbrev jr:=@Array.length_toList
abbrev qb:=@List.flatten_append
abbrev bD:=@Nat.lt_or_ge
abbrev bU:=@List.getElem?_append_left
abbrev bg:=@List.getElem?_append_right
abbrev lL:=@Nat.le_add_left
section
variable {P:Program}{g:Gh}{w:World}{t:F_}{O:Nat->Nat}{st st':St}{a:AV}{o:Oper}
def fS.mono {O2:Nat->Nat}{res:Result Next}(h:fS P g w t O st' a res)(hle:∀b,O b<=O2 b):fS P g w t O2 st' a res:=by
 obtain⟨x,w',g',Oa,O',k⟩:=h;exact⟨x,w',g',Oa,O',k.run,k.val,k.st,k.ext.mono (λb _ h=>by grind),k.le,λb hb=>aM (k.old b hb) (hle b),k.hi⟩
def uf (P:Program)(g:Gh)(w:World)(t:F_)(O Oa:Nat->Nat)(st':St)(r:AV)(res:Result Value):Prop :=
 ∃v w' g' Or O',res=.ok v w'∧RV g' w' r v Or∧S P g' w' st' t O'∧bQ g w g' w' (λb=>Oa b≠0∨O b≠0)∧(∀b,Or b+O' b<=1)∧
  (∀b,b<w.heap.size->Or b+O' b<=Oa b+O b)∧∀b,Or b≠0->b<w'.heap.size
theorem uf.firm {Oa:Nat->Nat}{m:Nat}{xs:E_}{res:Result Value}(h:uf P g w t O Oa st' (.own true m xs) res):uf P g w t O Oa st' (.own false m xs) res:=by
 obtain⟨v,w',g',Or,O',h1,h2,h3,h4,h5,h6,h7⟩:=h;obtain⟨g2,r2,s2,x2⟩:=RU h3 h2 h5;exact⟨v,w',g2,Or,O',h1,r2,s2,h4.trans x2 (λb hb h=>by grind),h5,h6,h7⟩
def bQ.write {b pos:Nat}{c c':F_}{el:TypeId}{news:N_}(hb:w.heap[b]?=some (.cells c el (0,0)))(hp:∀o,g.pm b o->o<pos)
  (hc:c'.toList=aH c.toList pos news)(hsz:pos<=c.size):bQ g w g (Vm.setBlk w b (.cells c' el (0,0))) λx=>x=b where
 obj _ _ h:=⟨h,rfl,rfl,rfl⟩
 pm b' o h:=⟨h,by
  by_cases e:b'=b
  .subst e;rw[iw (fE (jV hb)),iw hb,<-kr,hc,<-kr]
   grind [aH]
  grind [tx,iN]⟩
 blk b' _ h:=⟨iN h,λ_ h=>h⟩
 size:=s_
 lp b' rc h:=⟨rc,by grind [iN]⟩
 same:=⟨rfl,rfl,Aw hb (by grind [ie]) (by grind [ie])⟩
def S.other {w':World}{b:Nat}{c:F_}{el:TypeId}(s:S P g w st t O)(hb:w.heap[b]?=some (.cells c el (0,0)))(hx:bQ g w g w' λx=>x=b)(hO:O b=0) :
  S P g w' st t O:=by
 obtain⟨Oe,Oh,re,rh,ho⟩:=s.parts;have re':=kY.ext hx re (λy hy e=>by simp_all);have rh':CY P g w' st.hs.heap Oh:=rh.imp' λk v Q _ hQ q=>q.ext hx (λy hy e=>by grind) (λy ds hd e=>by
  simp_all)
 exact⟨s.se,s.sh,⟨Oe,Oh,re',rh',ho⟩,s.le,λb hb=>bc (s.hi b hb) hx.size,s.fresh,λb o h=>bc (s.pmlt b o h) hx.size⟩
def L4 (g:Gh)(w:World)(ys:E_)(news:N_):Prop:=∀(j:Nat) (d:D),ys.flatten[j]?=some d->∃u,news[j]?=some u∧RD w g.pm d u
def aj1 {b off m cap:Nat}{c c':F_}{el:TypeId}{news:N_}{xs ys:E_}(hb:w.heap[b]?=some (.cells c el (0,0)))
  (hx:bQ g w g (Vm.setBlk w b (.cells c' el (0,0))) λx=>x=b)(hc:c'.toList=aH c.toList (off+xs.length*m) news)(hl:∀e∈xs,e.length=m)
  (hcap:off+cap*m<=c.size)(hroom:xs.length+ys.length<=cap)(hn:news.length=ys.length*m)(hrc:jw w g.pm xs.flatten b off)(hnew:L4 g w ys news) :
  jw (Vm.setBlk w b (.cells c' el (0,0))) g.pm (xs++ys).flatten b off:=by
 have hfl:=gn hl;have hbound:(xs.length+ys.length)*m<=cap*m:=cq _ hroom;rw[dh]at hbound;have hcl:c.toList.length=c.size:=jr;intro j d hj;rw[qb]at hj;rw[iw (fE (jV hb)),<-kr,hc,kL o_];rcases bD j xs.flatten.length with h|h
 .rw[bU h]at hj;obtain⟨u,hu,hr⟩:=hrc j d hj
  grind [iw,RD.ext]
 .rw[bg h]at hj;obtain⟨u,hu,hr⟩:=hnew _ d hj
  grind [RD.ext]
variable {t0 t1 ty e:TypeId}{m n:Nat}{x:Value}{news:N_}{xs ys:E_}{i:TypeInfo}{z:Value}
def XK {Oa:Nat->Nat}(s:S P g w st t O)(hu:P.underlying t0=some (.slice e))(hi:P.info? e=some i)(hz:i.zero=some z)(hzs:z.cells.size=m)(hs:i.size=m)(hm:0<m)
  (hby:i.bytes<=4096)(hx:X7 P w t1 x e m ys.length news)(hnew:L4 g w ys news){base:Option Addr}{sCap:Nat}(hl:∀e∈xs,e.length=m)(hl2:∀e∈ys,e.length=m)
  {olds:N_}(hlo:olds.length=xs.length*m)(hod:L4 g w xs olds)(hold:∀w1:World,w1.heap=w.heap->(Builtin.firstCells m xs.length (.slice base xs.length sCap)).run P w1=.ok olds.toArray w1)
  (hsum:xs.length+ys.length<=4294967296)(hg:sCap<xs.length+ys.length) :
  uf P g w t O Oa st (.own true m (xs++ys)) ((Builtin.append_ #[t0,t1] ty #[.slice base xs.length sCap,x]).run P w):=by
 obtain⟨cap',rest,hrun,h1,h2⟩:=XQ (P:=P) (ty:=ty) hu hi hz hzs hs hm hby (aM (lL _ _) hsum) hx hlo hold hsum hg;have hop:fS P g w t O st (.own true m (xs++ys)) (.ok (.value (.slice (some ⟨w.heap.size,0,none⟩) (xs++ys).length cap')) (w.drew.alloc (.cells (olds++(news++rest)).toArray e))):=by
  refine fS.list (w1:=w.drew) s s (λ_=>ak _) (bQ.drew g w _) rfl rfl hm (λe he=>?_) u_ o_ λj d hj=>?_
  .grind
  .rw[qb]at hj;have hfl:=gn hl;rcases bD j xs.flatten.length with h|h
   .rw[bU h]at hj;obtain⟨u,hu,hr⟩:=hod j d hj
    grind
   .rw[bg h]at hj;obtain⟨u,hu,hr⟩:=hnew _ d hj
    grind
 obtain⟨v,w',g',Or,O',k⟩:=hop;rcases k.run with hr|hr
 .exact⟨_,_,g',Or,O',u_,k.val,k.st,k.ext.mono (λb _ h=>.inr h),k.le,λb hb=>by grind [az4.old],k.hi⟩
 simp_all
def atz (s:S P g w st t O)(hu:P.underlying t0=some (.slice e))(hi:P.info? e=some i)(hs:i.size=m)(hm:0<m)
  (hby:i.bytes<=4096)(hx:X7 P w t1 x e m ys.length news)(hnew:L4 g w ys news){b off cap:Nat}(hl:∀e∈xs,e.length=m)(hl2:∀e∈ys,e.length=m)
  {c:F_}{el:TypeId}(hb:w.heap[b]?=some (.cells c el (0,0)))(hcap:off+cap*m<=c.size)(hrc:jw w g.pm xs.flatten b off)(hO:O b=0)(hp:∀o,g.pm b o->o<off+xs.length*m)
  (hsum:ys.length<=4294967296)(hroom:xs.length+ys.length<=cap) :
  ∃v w',(Builtin.append_ #[t0,t1] ty #[.slice (some ⟨b,off,none⟩) xs.length cap,x]).run P w=.ok v w'∧S P g w' st t O∧bQ g w g w' (λy=>y=b)∧w'.heap.size=w.heap.size∧
   ((∀o,¬g.pm b o)->RV g w' (.own true m (xs++ys)) v (one b))∧
   ∃g',bQ g w g' w' (λy=>y=b)∧S P g' w' st t O∧RV g' w' (.own false m (xs++ys)) v (one b):=by
 have hbound:(xs.length+ys.length)*m<=cap*m:=cq _ hroom;rw[dh]at hbound;have hn:=hx.len;obtain⟨c',h1,h2,h3⟩:=tF (P:=P) (b:=b) (el:=el) news w c (off+xs.length*m) 0 hb hx.one o_;have hrun:=CO (P:=P) (w:=w) (ty:=ty) hu hi hs hm hby hsum hx (base:=some ⟨b,off,none⟩) hroom;have hext:=bQ.write hb hp h2 o_;have s':=s.other hb hext hO;have hcells:=aj1 hb hext h2 hl hcap hroom hn hrc hnew;have hla:∀e∈xs++ys,e.length=m:=λe he=>by
  grind
 refine⟨.slice (some ⟨b,off,none⟩) (xs.length+ys.length) cap,_,?_,s',hext,s_,λhnp=>?_,?_⟩
 .grind [me,Sem.run_bind,Result.andThen_ok,Sem.run_pure]
 .refine .inr ⟨b,off,cap,c',el,s_,u_,hm,hla,fE (jV hb),o_,hcells,λo ho=>absurd ho (hnp o),λh=>by simp at h,rfl⟩
 .have hb':(Vm.setBlk w b (.cells c' el (0,0))).heap[b]?=some (.cells c' el (0,0)):=fE (jV hb);refine⟨g.keep b λo=>off<=o∧o<off+(xs++ys).length*m,hext.trans (bQ.keep g _ b _) (λ_ _ h=>h),s'.keep hO hb' _,?_⟩;simp only[RV,DJ];refine .inr ⟨b,off,cap,c',el,s_,u_,hm,hla,hb',o_,hcells.ext (bQ.keep g _ b _) (.inl rfl),λo ho=>⟨trivial,?_⟩,λ_ j hj=>.inr ⟨rfl,o_,o_⟩,rfl⟩;rcases ho with ho|⟨_,_,ho⟩<;>grind [Nat.add_mul]
end
abbrev uq:=@List.take_length
section
variable {P:Program}{g:Gh}{w:World}{t:F_}{O:Nat->Nat}{st st':St}{a:AV}{o:Oper}
variable {t0 t1 ty e:TypeId}{m n:Nat}{x:Value}{news:N_}{xs ys:E_}{i:TypeInfo}{z:Value}
def jw.olds {b off:Nat}(hl:∀e∈xs,e.length=m)(r:jw w g.pm xs.flatten b off)(len cap:Nat) :
  ∃olds:N_,olds.length=xs.length*m∧L4 g w xs olds∧∀w1:World,w1.heap=w.heap->(Builtin.firstCells m xs.length (.slice (some ⟨b,off,none⟩) len cap)).run P w1=.ok olds.toArray w1:=by
 obtain⟨news,h⟩:=CF.of_cells hl r;refine⟨news,h.len,h.rd,λw1 hw=>?_⟩;have:=h.first (P:=P) (len:=len) (cap:=cap) (ak _) hw;rw[<-h.len,uq]at this;exact this
def vQ (m:Nat)(a:Option Addr)(len cap:Nat)(w1:World):(Builtin.firstCells m 0 (.slice a len cap)).run P w1=.ok #[] w1:=by
 cases a with
 |none=>simp[Builtin.firstCells]
 |some a =>
  grind [run_firstCells_some]
def aax {Oa:Nat->Nat}{va r:AV}{x0:Value}{h':am}(s:S P g w st t O)(ra:RV g w va x0 Oa)(hle:∀b,Oa b+O b<=1)(hhi:∀b,Oa b≠0->b<w.heap.size)
  (hu:P.underlying t0=some (.slice e))(hi:P.info? e=some i)(hz:i.zero=some z)(hzs:z.cells.size=m)(hs:i.size=m)(hm:0<m)
  (hby:i.bytes<=4096)(hx:X7 P w t1 x e m ys.length news)(hnew:L4 g w ys news)(hl2:∀e∈ys,e.length=m)(h:eM m st.hs.heap va ys=some (r,h')) :
  uf P g w t O Oa ⟨st.env,⟨h',st.hs.next⟩⟩ r ((Builtin.append_ #[t0,t1] ty #[x0,x]).run P w):=by
 unfold eM at h;split at h
 .simp at h
 .rename_i hy;rw[bp]at hy;have hy':ys.length<=4294967296:=hy;have empty:∀{st1:St}{O1:Nat->Nat},S P g w st1 t O1->(∀b,O1 b<=Oa b+O b)->∀ad:Option Addr,ys.length=0->∀r,RV g w r (.slice ad 0 0) zero->
    uf P g w t O Oa st1 r ((Builtin.append_ #[t0,t1] ty #[.slice ad 0 0,x]).run P w):=by
   intro st1 O1 s1 hO1 ad h0 r hr;have hnil:news=[]:=aB (by grind [X7.len]);have hrun:=CO (P:=P) (w:=w) (ty:=ty) hu hi hs hm hby hy' hx (base:=ad) (sLen:=0) (sCap:=0) o_;refine⟨.slice ad 0 0,w,g,zero,O1,?_,hr,s1,.refl _ _ _,λb=>by grind,λb _=>by simp_all,λb hb=>by simp at hb⟩;rw[hrun,hnil,h0]
   cases ad<;>simp[storeCells]
  have weak:∀{st1:St}{O1:Nat->Nat}{r:AV}{res:Result Value},(∀b,O1 b<=Oa b+O b)->uf P g w t O1 zero st1 r res->uf P g w t O Oa st1 r res:=by
   rintro st1 O1 r res hO1 ⟨v,w',g',Or,O',k1,k2,k3,k4,k5,k6,k7⟩
   exact⟨v,w',g',Or,O',k1,k2,k3,k4.mono (λb _ h=>by grind),k5,λb hb=>by grind,k7⟩
  have grows0:∀{st1:St}{O1:Nat->Nat},S P g w st1 t O1->(∀b,O1 b<=Oa b+O b)->∀ad:Option Addr,ys.length≠0->
    uf P g w t O Oa st1 (.own true m ys) ((Builtin.append_ #[t0,t1] ty #[.slice ad 0 0,x]).run P w):=by
   intro st1 O1 s1 hO1 ad h0;refine weak hO1 ?_;have:=XK (Oa:=zero) (xs:=[]) (base:=ad) (sCap:=0) (olds:=[]) (ty:=ty) s1 hu hi hz hzs hs hm hby hx hnew (λe he=>by simp at he) hl2 (by simp)
    (λj d h=>by simp at h) (λw1 _=>vQ m ad 0 0 w1) u_ (by omega)
   simp_all
  have block:∀{st1:St}{O1:Nat->Nat}{zs:E_}{b off cap:Nat}{c:F_}{el:TypeId},S P g w st1 t O1->(∀y,O1 y+one b y<=1)->(∀y,O1 y+one b y<=Oa y+O y)->(∀e∈zs,e.length=m)->
    w.heap[b]?=some (.cells c el (0,0))->off+cap*m<=c.size->jw w g.pm zs.flatten b off->(∀o,g.pm b o->o<off+zs.length*m)->zs.length+ys.length<=4294967296->
    ∀p:Bool,(p=true->∀o,¬g.pm b o)->
    uf P g w t O Oa st1 (.own p m (zs++ys)) ((Builtin.append_ #[t0,t1] ty #[.slice (some ⟨b,off,none⟩) zs.length cap,x]).run P w):=by
   intro st1 O1 zs b off cap c el s1 hO1 hO2 hlz hb hcap hrc hp hsum p hpp;have hOb:O1 b=0:=by grind [AT]
   by_cases hroom:zs.length+ys.length<=cap
   .obtain⟨v,w',k1,k2,k3,k4,k5,g',k6,k7,k8⟩:=atz (ty:=ty) s1 hu hi hs hm hby hx hnew hlz hl2 hb hcap hrc hOb hp hy' hroom;have hx1:∀{g1:Gh},bQ g w g1 w' (λy=>y=b)->bQ g w g1 w' (λy=>Oa y≠0∨O y≠0):=λh=>h.mono λy _ e=>by
     grind [AT]
    cases p with
    |true=>exact⟨v,w',g,one b,O1,k1,k5 (hpp rfl),k2,hx1 k3,λy=>by grind,λy _=>by grind,λy hy=>by grind [wV]⟩
    |false=>exact⟨v,w',g',one b,O1,k1,k8,k7,hx1 k6,λy=>by grind,λy _=>by grind,λy hy=>by grind [wV]⟩
   .obtain⟨olds,q1,q2,q3⟩:=jw.olds hlz hrc zs.length cap;have:=XK (Oa:=zero) (base:=some ⟨b,off,none⟩) (sCap:=cap) (ty:=ty) s1 hu hi hz hzs hs hm hby hx hnew hlz hl2 q1 q2 q3 hsum o_;have h2:=weak (λy=>by grind) this
    cases p<;>grind [uf.firm]
  split at h
  .simp only[ae,aR]at h;obtain⟨rfl,rfl⟩:=h;simp only[RV]at ra;obtain⟨rfl,_⟩:=ra
   cases ys with
   |nil=>exact empty s (λb=>by omega) none rfl _ (by simp[RV])
   |cons y ys=>exact grows0 s (λb=>by omega) none (by simp)
  .rename_i p k zs;split at h
   .rename_i hk;simp only[af,aD,bp]at hk;obtain⟨rfl,hsum⟩:=hk;simp only[ae,aR]at h;obtain⟨rfl,rfl⟩:=h;simp only[RV]at ra;rcases ra with ⟨rfl,_,ad,rfl⟩|⟨b,off,cap,c,el,rfl,hcap,_,hlz,hb,hsz,hrc,hpm,hp,rfl⟩
    .by_cases h0:ys.length=0
     .have:ys=[]:=aB h0;subst this;exact empty s (λb=>by omega) ad rfl _ (by grind [RV,DJ])
     .exact(grows0 s (λb=>by omega) ad h0).firm
    .exact block s (λy=>by grind) (λy=>by omega) hlz hb hsz hrc (λo ho=>(hpm o ho).2) hsum false (λh=>by simp at h)
   simp_all
  .rename_i id off len;split at h
   .rename_i k zs hg;split at h
    .rename_i hk;simp only[af,aD,bp]at hk;obtain⟨⟨rfl,hin⟩,hsum⟩:=hk;simp only[ae,aR]at h;obtain⟨rfl,rfl⟩:=h;simp only[RV]at ra;obtain⟨ra,hOa⟩:=ra;obtain⟨Oe,Oh,re,rh,ho⟩:=s.parts;obtain⟨O1,O2,q,r2,hsm⟩:=RL.take rh hg;have hle2:∀b,Oe b+O2 b<=O b:=λb=>by grind
     have s2:S P g w ⟨st.env,⟨del st.hs.heap id,st.hs.next⟩⟩ t (λb=>Oe b+O2 b) :=
      ⟨s.se,s.sh.del id,⟨Oe,O2,re,r2,λ_=>rfl⟩,λb=>aM (hle2 b) (s.le b),λb hb=>s.hi b d_,s.fresh,s.pmlt⟩
     have hsub:(Vm.sub zs off len).length=len:=kE hin;have emp:len=0->∀ad:Option Addr,uf P g w t O Oa ⟨st.env,⟨del st.hs.heap id,st.hs.next⟩⟩ (.own true k (Vm.sub zs off len++ys)) ((Builtin.append_ #[t0,t1] ty #[.slice ad 0 0,x]).run P w):=by
      grind [RV,DJ]
     rcases ra with ⟨h0,ad,rfl⟩|⟨b,cap,hob,rfl,hlc,hcap⟩
     .simp_all
     .simp only[kA]at q;rcases q with ⟨rfl,g1,g2,g3,_⟩|⟨b',c,el,g1,g2,g3,g4,g5,g6,g7,g8,g9,g10⟩
      .have hc0:cap=0:=by
        grind [Nat.mul_eq_zero]
       simp_all
      .rw[g2,dh]at hcap;have:=block (zs:=Vm.sub zs off len) (off:=g.base id+off*k) (cap:=cap) s2 (λy=>by grind)
        (λy=>by grind) (Il g7 off len) g4 (by omega)
        (by simp_all [oL,jw.sub]) (λo h=>absurd h (g9 o)) (by rw[hsub];exact hsum) true (λ_=>g9)
       simp_all
    simp_all
   simp_all
  simp_all
end
abbrev aL:=@List.length_replicate
section
variable {P:Program}{g:Gh}{w:World}{t:F_}{O:Nat->Nat}{st st':St}{a:AV}{o:Oper}
def uf.op1 {O1 Oa:Nat->Nat}{r:AV}{res:Result Value}(h:uf P g w t O1 Oa st' r res)(hle:∀b,Oa b+O1 b<=O b){res':Result Next}
  (hr:∀v w',res=.ok v w'->res'=.ok (.value v) w'):fS P g w t O st' r res':=by
 obtain⟨v,w',g',Or,O',k1,k2,k3,k4,k5,k6,k7⟩:=h;exact⟨v,w',g',Or,O',.inl (hr v w' k1),k2,k3,k4.mono (λb _ h=>by grind),k5,λb hb=>by grind,k7⟩
def rX {ty:TypeId}{m:Nat}(h:nC P ty m=true):∃e i zv,P.underlying ty=some (.slice e)∧P.info? e=some i∧i.zero=some zv∧zv.cells.size=m:=by
 grind [nC,Nat.beq_eq]
def Pl {e:TypeId}{i:TypeInfo}{m:Nat}(h:xx P e m=true)(hi:P.info? e=some i):i.size=m:=by
 grind [xx,Nat.beq_eq]
def Lx {e:TypeId}{i:TypeInfo}(hi:P.info? e=some i):P.bytesOf e=i.bytes:=by grind [Program.bytesOf]
def Kl {c:Call}(h:Uf c=true):c.argTypes=#[tI c,c.argTypes.getD 1 0]:=by
 simp only[Uf,aD]at h;apply Array.ext
 .simp[h]
 .intro i h1 h2;have h1':i<2:=o_;have:i=0∨i=1:=o_;rcases this with rfl|rfl<;>simp[tI,Array.getD,h]
def azm {m:Nat}{x y:Rd}(s:S P g w st t O)(h:H6 m x y st=some (a,st'))(hc:bG P (.app m x y) o.op=true) :
  fS P g w t O st' a ((execOp (ev t) o).run P w):=by
 obtain⟨dst,op,ty,pos,aft,gd⟩:=o;simp only[bG]at hc;split at hc
 .rename_i c;simp only[af]at hc;obtain⟨⟨⟨⟨⟨h1,h2⟩,h3⟩,h4⟩,h5⟩,h6⟩:=hc;have hats:=Kl h2;obtain⟨callee,args,ats⟩:=c;have:=qu h1;obtain⟨x',y',e1,hx,hy⟩:=aoy h6;subst e1;obtain⟨va,vb,e,Oa,Ob,O',ra,rb,s',hl,hk⟩:=Rr s hx hy h;split at hk
  .rename_i ys hys;split at hk
   .rename_i hok;split at hk
    .rename_i r h' hap;obtain⟨rfl,rfl⟩:=hk;obtain⟨el,hu,hsz,hm,hby⟩:=jb h3;obtain⟨el',i,zv,hu',hi,hz,hzs⟩:=rX h4;rw[hu]at hu';simp only[ae,iL]at hu';subst hu';rw[Lx hi]at hby;have hlen:=Mh hok;obtain⟨ad,cap,news,hxv,hels⟩:=BM (st:=⟨e,st.hs⟩) s' hys hlen rb;split at h5
     .rename_i e' hu1;generalize hT0:tI ⟨.builtin .append,#[x',y'],ats⟩=T0 at *;generalize hT1:ats.getD 1 0=T1 at *;have hsrc:X7 P w T1 (ev t y') el m ys.length news:=by
       refine⟨hels.len,hels.one,.inl ⟨⟨e',hu1⟩,⟨ad,cap,hxv⟩,λw1 hw=>?_⟩⟩;have:=hels.first (P:=P) (len:=ys.length) (cap:=cap) (ak _) hw
       rw[<-hels.len,uq,<-hxv]at this;exact this
      have:=aax (st:=⟨e,st.hs⟩) (ty:=ty) s' ra (λb=>by have:=hl b;have:=s.le b;omega) (λb hb=>s.hi b d_) hu hi hz hzs (Pl hsz hi) hm hby hsrc hels.rd hlen hap;refine this.op1 (λb=>by grind) λv w' hr=>?_
      simp_all [execOp,resolve,invoke,builtin]
     grind
    grind
   grind
  grind
 simp_all
def aez {zs:W_}{zv:Value}(hok:RI zs zv.cells.toList=true)(n:Nat) :
  L4 g w (List.replicate n zs) (Builtin.zeroCells zv.cells n).toList∧(Builtin.zeroCells zv.cells n).toList.length=n*zs.length∧∀u∈(Builtin.zeroCells zv.cells n).toList,u.oneCell'=true:=by
 obtain⟨hl,hg⟩:=Xq (w:=w) (g:=g) hok;have key:∀j,j<n*zs.length->0<zs.length∧∃u,(Builtin.zeroCells zv.cells n).toList[j]?=some u∧zv.cells.toList[j % zs.length]?=some u:=by
  intro j hj;have hp:0<zs.length:=by
   grind
  simp_all [dl,Builtin.zeroCells]
 refine⟨λj d hj=>?_,by grind [Builtin.zeroCells],λu hu=>?_⟩
 .obtain⟨h1,h2⟩:=VR hj
  grind
 .obtain⟨j,hj,rfl⟩:=iY.1 hu;have hj':j<n*zs.length:=by grind [Builtin.zeroCells]
  obtain⟨hp,u,hu,hu2⟩:=key j hj';have hjm:j % zs.length<zs.length:=dl _ hp;obtain⟨u',hu',hr⟩:=hg _ _ (bC hjm)
  grind [RD.one]
def axz {z:W_}{x y:Rd}(s:S P g w st t O)(h:ahg z x y st=some (a,st'))(hc:bG P (.appz z x y) o.op=true) :
  fS P g w t O st' a ((execOp (ev t) o).run P w):=by
 obtain⟨dst,op,ty,pos,aft,gd⟩:=o;simp only[bG]at hc;split at hc
 .rename_i c;simp only[af]at hc;obtain⟨⟨⟨⟨⟨h1,h2⟩,h3⟩,h4⟩,h5⟩,h6⟩:=hc;have hats:=Kl h2;obtain⟨callee,args,ats⟩:=c;have:=qu h1;obtain⟨x',y',e1,hx,hy⟩:=aoy h6;subst e1;obtain⟨va,vb,e,Oa,Ob,O',ra,rb,s',hl,hk⟩:=Rr s hx hy h;split at hk
  .rename_i n hn;split at hk
   .rename_i r h' hap;obtain⟨rfl,rfl⟩:=hk;obtain⟨el,hu,hsz,hm,hby⟩:=jb h3;obtain⟨el',i,zv,hu',hi,hz,hok⟩:=Eq h4;rw[hu]at hu';simp only[ae,iL]at hu';subst hu';rw[Lx hi]at hby;obtain⟨⟨kk,hyv⟩,hnm⟩:=Fv hn rb;obtain⟨hnew,hnl,hone⟩:=aez (g:=g) (w:=w) hok n;have hzs:zv.cells.size=z.length:=by rw[(Xq (w:=w) (g:=g) hok).1];simp
    simp only[KS]at h5;split at h5
    .rename_i k hu1;generalize hT0:tI ⟨.builtin .append,#[x',y'],ats⟩=T0 at *;generalize hT1:ats.getD 1 0=T1 at *;have hsrc:X7 P w T1 (ev t y') el z.length (List.replicate n z).length (Builtin.zeroCells zv.cells n).toList:=by
      rw[aL];exact⟨hnl,hone,.inr ⟨⟨k,hu1⟩,⟨kk,hyv⟩,i,zv,hi,hz,hzs,s_⟩⟩
     have:=aax (st:=⟨e,st.hs⟩) (ty:=ty) s' ra (λb=>by have:=hl b;have:=s.le b;omega) (λb hb=>s.hi b d_) hu hi hz hzs (Pl hsz hi) hm hby hsrc hnew
      (λe he=>by simp_all) hap
     refine this.op1 (λb=>by grind) λv w' hr=>?_
     simp_all [execOp,resolve,invoke,builtin]
    grind
   grind
  grind
 simp_all
end
abbrev bS:=@List.length_pos_iff
abbrev b7:=@List.length_take
section
variable {P:Program}{g:Gh}{w:World}{t:F_}{O:Nat->Nat}{st st':St}{a:AV}{o:Oper}
theorem aio {α:Type}(xs:List α)(off:Nat):aH xs off []=xs:=by simp[aH]
theorem JD {α:Type}{xs zs:List α}{off:Nat}(h:off+zs.length<=xs.length):(aH xs off zs).length=xs.length:=by
 grind [aH]
theorem aid {α:Type}{xs zs:List α}{off:Nat}{x:α}(h:x∈aH xs off zs):x∈xs∨x∈zs:=by
 grind [aH]
def W6 {xs zs:E_}{m off:Nat}(hx:∀e∈xs,e.length=m)(hz:∀e∈zs,e.length=m) :
  (aH xs off zs).flatten=aH xs.flatten (off*m) zs.flatten:=by
 simp only[aH,qb];rw[Jx hx,Jo hx,gn hz,dh]
def YD {id off len m:Nat}{xs zs:E_}{vals:N_}{x0:Value}{Ov:Nat->Nat}(s:S P g w st t O)(hg:get st.hs.heap id=some (.arr m xs))(rv:RV g w (.sl id off len) x0 Ov)
  (hin:off+len<=xs.length)(hz:zs.length<=len)(hl:∀e∈zs,e.length=m)(hn:L4 g w zs vals)(hv:vals.length=zs.length*m)(h1:∀u∈vals,u.oneCell'=true) :
  ∃ad cap w' O2,x0=.slice ad len cap∧(match ad with|some a=>(storeCells a vals).run P w|none=>.ok () w)=.ok () w'∧
   S P g w' ⟨st.env,⟨put st.hs.heap id (.arr m (aH xs off zs)),st.hs.next⟩⟩ t O2∧bQ g w g w' (λc=>O c≠0)∧(∀c,O2 c<=O c)∧w'.heap.size=w.heap.size:=by
 have same:zs=[]->vals=[]∧∃O2,S P g w ⟨st.env,⟨put st.hs.heap id (.arr m (aH xs off zs)),st.hs.next⟩⟩ t O2∧∀c,O2 c<=O c:=by
  rintro rfl
  refine⟨aB u_,?_⟩
  grind [aio,S.upd]
 have noop:∀ad:Option Addr,(match ad with|some a=>(storeCells a []).run P w|none=>.ok () w)=.ok () w:=by
  intro ad;cases ad<;>simp[storeCells]
 simp only[RV]at rv;rcases rv.1 with ⟨rfl,ad,rfl⟩|⟨b,cap,hob,rfl,hlc,hcap⟩
 .simp_all [bQ.refl]
 .by_cases h0:zs=[]
  .simp_all [bQ.refl]
  .have hzl:0<zs.length:=bS.2 h0;obtain⟨O1,Oz,q,hsum,hst⟩:=s.store hg;rcases q with ⟨rfl,_⟩|⟨b',c,el,g1,g2,g3,g4,g5,g6,g7,g8,g9,g10⟩
   .simp_all
   .rw[hob]at g1;simp only[ae]at g1;subst g1;rw[g2]at hcap⊢;have e1:off*m+zs.length*m<=xs.length*m:=by rw[<-dh];exact cq _ (by omega)
    obtain⟨c',hrun,hc',hcs⟩:=tF (P:=P) (b:=b) (el:=el) vals w c (g.base id+off*m) 0 g4 h1 o_;have hx:bQ g w g (setBlk w b (.cells c' el (0,0))) λx=>x=b:=bQ.setBlk g4 g9
    have hOb:1<=O1 b:=u_;have hbO:O b=1:=by have:=hsum b;have:=s.le b;omega
    have hfl:=gn g7;have hcl:c.toList.length=c.size:=jr;have hlen':(aH xs off zs).length=xs.length:=JD o_;refine⟨_,cap,_,_,rfl,hrun,hst (setBlk w b (.cells c' el (0,0))) b c el (.arr m (aH xs off zs)) O1 g4 hOb hx ?_ (λy=>by have:=hsum y;have:=s.le y;omega) (λy hy=>?_),
     hx.mono (λy _ e=>by simp_all),hsum,s_⟩
    .refine .inr ⟨b,c',el,hob,g2,g3,fE (jV g4),o_,u_,λe he=>?_,?_,g9,g10⟩
     .grind [aid]
     .rw[W6 g7 hl];intro j d hj;have hzfl:=gn hl;rw[kL o_]at hj;rw[iw (fE (jV g4)),<-kr,hc',kL o_];split at hj
      .obtain⟨u,hu,hr⟩:=hn _ d hj
       grind [RD.ext]
      .obtain⟨u,hu,hr⟩:=g8 j d hj
       grind [iw,RD.ext]
    grind [wV,L9]
def arh {ys:E_}{m:Nat}(hl:∀e∈ys,e.length=m){news:N_}(hn:L4 g w ys news)(n:Nat) :
  L4 g w (ys.take n) (news.take ((ys.take n).length*m)):=by
 intro j d hj;have hlt:=Gb hj;rw[gn (λe he=>hl e (dr he))]at hlt;rw[Jx hl]at hj;have hj':ys.flatten[j]?=some d:=by
  grind
 obtain⟨u,hu,hr⟩:=hn j d hj'
 simp_all
def akn {h:am}{v:AV}{ys:E_}{x:Value}{Ov:Nat->Nat}(he:elems h v=some ys)(rv:RV g w v x Ov):∃a n cap,x=.slice a n cap:=by
 by_cases hn:ud v=false
 .rcases (ab1 he hn rv).list with ⟨rfl,a,cap,rfl⟩|⟨b,off,m',cap,rfl,_⟩<;>simp_all
 .cases v<;>simp only[ud,not_true,my,not_false_eq_true]at hn
  grind [RV]
def az1 {m:Nat}{x y:Rd}(s:S P g w st t O)(h:Ym m x y st=some (a,st'))(hc:bG P (.cpy m x y) o.op=true) :
  fS P g w t O st' a ((execOp (ev t) o).run P w):=by
 obtain⟨dst,op,ty,pos,aft,gd⟩:=o;simp only[bG]at hc;split at hc
 .rename_i c;simp only[af]at hc;obtain⟨⟨⟨⟨h1,h2⟩,h3⟩,h5⟩,h6⟩:=hc;have hats:=Kl h2;obtain⟨callee,args,ats⟩:=c;have:=qu h1;subst this;obtain⟨x',y',e1,hx,hy⟩:=aoy h6;simp only at e1 hats;subst e1;obtain⟨va,vb,e,Oa,Ob,O',ra,rb,s',hl,hk⟩:=Rr s hx hy h;obtain⟨el,hu,hsz,hm,hby⟩:=jb h3;split at hk
  .rename_i ys hys;split at h5
   .rename_i e' hu1;generalize hT0:tI ⟨.builtin .copy,#[x',y'],ats⟩=T0 at *;generalize hT1:ats.getD 1 0=T1 at *;subst hats;split at hk
    .rename_i id off len;split at hk
     .rename_i k xs hg;split at hk
      .rename_i hb;simp only[af,aD,bp]at hb;obtain⟨⟨hok,rfl⟩,hin⟩:=hb;obtain⟨rfl,rfl⟩:=hk;have hlen:=Mh hok;obtain⟨ad,cap,news,hxv,hels⟩:=BM (st:=⟨e,st.hs⟩) s' hys hlen rb;obtain⟨adx,capx,w',O2,q1,q2,q3,q4,q5,q6⟩:=YD (st:=⟨e,st.hs⟩) (zs:=ys.take len) s' hg ra hin d_ (λe he=>hlen e (dr he))
        (arh hlen hels.rd len) (by grind [CF.len,Nat.mul_le_mul_right]) (λu hu=>hels.one u (dr hu))
       refine⟨.int .i64 (.ofNat (min len ys.length)),w',g,zero,O2,.inl ?_,uW _ _,q3,q4.mono (λb _ h=>by grind),λb=>by have:=s.le b;grind,
        λb _=>by grind,λb hb=>by simp at hb⟩
       have hf:=hels.first (P:=P) (len:=ys.length) (cap:=cap) (n:=(ys.take len).length) d_ (rfl:w.heap=w.heap)
       rw[b7,<-hxv]at hf;rw[b7]at q2;have hmin:Nat.min ys.length len=min len ys.length:=Nat.min_comm _ _;have hlo:(Builtin.lenOf (ev t y')).run P w=.ok ys.length w:=by simp_all [Builtin.lenOf]
       cases adx with
       |none =>
        simp only[Result.ok.injEq,true_and]at q2;subst q2;simp[execOp,resolve,invoke,builtin,Builtin.copy_,bf hu,hlo,fA hsz,hf,goInt,q1,hmin]
       |some adx =>
        simp[execOp,resolve,invoke,builtin,Builtin.copy_,bf hu,hlo,fA hsz,hf,goInt,q1,q2,hmin]
      simp_all
     simp_all
    .split at hk
     .rename_i hl0;obtain⟨rfl,rfl⟩:=hk;obtain⟨ada,capa,hxa⟩:=RJ hl0 ra;obtain⟨ady,ny,capy,hxy⟩:=akn hys rb;refine .flat s (x:=.int .i64 0) ?_ (uW _ _) s' λb=>by grind
      have hf:=vQ (P:=P) m ady ny capy w;rw[<-hxy]at hf;have hlo:(Builtin.lenOf (ev t y')).run P w=.ok ny w:=by simp_all [Builtin.lenOf]
      cases ada<;>simp[execOp,resolve,invoke,builtin,Builtin.copy_,bf hu,hlo,fA hsz,hf,goInt,hxa,storeCells]
     simp_all
   grind
  grind
 simp_all
def aAX {z:W_}{x:Rd}(s:S P g w st t O)(h:T3 z x st=some (a,st'))(hc:bG P (.clr z x) o.op=true) :
  fS P g w t O st' a ((execOp (ev t) o).run P w):=by
 obtain⟨dst,op,ty,pos,aft,gd⟩:=o;simp only[bG]at hc;split at hc
 .rename_i c;simp only[af]at hc;obtain⟨⟨⟨⟨h1,h3⟩,h4⟩,h2⟩,h6⟩:=hc;obtain⟨callee,args,ats⟩:=c;have:=qu h1;subst this;obtain⟨x',e1,hx⟩:=apu h6;simp only at e1;subst e1;have hty:=ac0 h2;obtain⟨el',i,zv,hu',hi,hz,hok⟩:=Eq h4;unfold T3 at h;split at h
  .rename_i id off len e hr;obtain⟨Oa,O',ra,s',hl⟩:=s.rd hx hr;split at h
   .rename_i k xs hg;split at h
    .rename_i hb;simp only[af,aD,bp]at hb;obtain⟨rfl,hin⟩:=hb;obtain⟨rfl,rfl⟩:=h;obtain⟨hnew,hnl,hone⟩:=aez (g:=g) (w:=w) hok len;obtain⟨adx,capx,w',O2,q1,q2,q3,q4,q5,q6⟩:=YD (st:=⟨e,st.hs⟩) (zs:=List.replicate len z) s' hg ra hin s_ (λe he=>by simp_all)
      hnew u_ hone
     refine⟨.tuple #[],w',g,zero,O2,.inl ?_,by simp[RV,RVs],q3,q4.mono (λb _ h=>by grind),λb=>by have:=s.le b;grind,
      λb _=>by grind,λb hb=>by simp at hb⟩
     have hzv:=uQ (P:=P) (w:=w) hi hz
     cases adx with
     |none =>
      simp_all [execOp,resolve,invoke,builtin,Builtin.clear_,bf]
     |some adx =>
      cases len with
      |zero =>
       simp_all [storeCells,execOp,resolve,invoke,builtin,Builtin.clear_,bf]
      |succ len =>
       simp_all [execOp,resolve,invoke,builtin,Builtin.clear_,bf]
    simp_all
   simp_all
  simp_all
 simp_all
end
abbrev ef:=@List.foldl_cons
abbrev bL:=@List.map_cons
abbrev ij:=@List.all_cons
abbrev jn:=@Option.isSome_iff_exists
abbrev uh:=@List.map_map
section
variable {P:Program}{g:Gh}{w:World}{t:F_}{O:Nat->Nat}{st st':St}{a:AV}{o:Oper}
def auK (vals:N_):∀(cs:F_) (off k:Nat),off+k+vals.length<=cs.size->
  ((vals.zipIdx k).foldl (fun(cs:F_) (p:Value×Nat)=>cs.setIfInBounds (off+p.2) p.1) cs).toList=aH cs.toList (off+k) vals:=by
 induction vals with
 |nil=>simp_all [aH]
 |cons v vs ih =>
  intro cs off k h;rw[List.zipIdx_cons,ef,ih _ off (k+1) d_,Array.toList_setIfInBounds,<-dP,QS o_]
def Sg {place:Nat->Option (Nat×Nat)}{xs:F_}{i off n:Nat}{v:Value}{rest:List (Nat×Value)}(hp:place i=some (off,n))(hs:v.cells.size=n)(hb:off+n<=xs.size) :
  ∃xs',Instr.fill place xs ((i,v)::rest)=Instr.fill place xs' rest∧xs'.toList=aH xs.toList off v.cells.toList:=by
 refine⟨v.cells.zipIdx.foldl (λcs (c,j)=>cs.setIfInBounds (off+j) c) xs,?_,?_⟩
 .grind [Instr.fill]
 .rw[<-Array.foldl_toList,Array.toList_zipIdx]
  simp_all [auK]
def aaf {v:AV}{x:Value}{Ov:Nat->Nat}(h:F6 v=true)(r:RV g w v x Ov):RVs g w v.cells x.cells.toList Ov:=by
 cases v with
 |agg cs =>
  obtain⟨xs,rfl,r⟩:=r;exact r
 |_=>grind [RV.cells,AV.cells,F6]
def RVs.splice {cs vs:D_}{xs ys:N_}{O1 O2:Nat->Nat}(r1:RVs g w cs xs O1)(r2:RVs g w vs ys O2){off:Nat}(h:off+vs.length<=cs.length) :
  ∃O3,RVs g w (aH cs off vs) (aH xs off ys) O3∧∀b,O3 b<=O1 b+O2 b:=by
 have hl2:=r2.length;rw[ajp (off:=off) (n:=vs.length) h]at r1;obtain⟨B1,B2,rb1,rb2,hb12⟩:=r1.split;obtain⟨B3,B4,rb3,rb4,hb34⟩:=rb2.split;have hsl:(Vm.sub cs off vs.length).length=vs.length:=kE h;have hjoin:=rb1.join (r2.join rb4)
 grind [Gz,List.drop_drop]
def SW {place:Nat->Option (Nat×Nat)}:∀{ps:AC_}{parts:List (Nat×Operand)},nu place ps parts=true->eU (qh ps) (parts.map (·.2))=true
 |[],[],_=>rfl
 |(off,n,r)::ps,(i,x)::parts,h=>by
  simp only[nu,af]at h;simp only[qh,bL,eU,af];exact⟨h.1.2,SW h.2⟩
 |[],_::_,h=>by grind [nu]
 |(_,_,_)::_,[],h=>by grind [nu]
def aiV {place:Nat->Option (Nat×Nat)}:∀{ps:AC_}{parts:List (Nat×Operand)},nu place ps parts=true->
  ∀{cs cs' vs:D_}{xs:F_}{O1 O2:Nat->Nat},RVs g w cs xs.toList O1->RVs g w vs (parts.map λp=>ev t p.2) O2->eQ cs (uB ps vs)=some cs'->
  ∃xs' O3,Instr.fill place xs (parts.map λp=>(p.1,ev t p.2))=some xs'∧RVs g w cs' xs'.toList O3∧∀b,O3 b<=O1 b+O2 b
 |[],[],_,cs,cs',vs,xs,O1,O2,r1,r2,h=>by
  grind [uB,eQ,Instr.fill]
 |(off,n,r)::ps,(i,x)::parts,hc,cs,cs',vs,xs,O1,O2,r1,r2,h=>by
  simp only[nu,af]at hc;obtain⟨⟨h1,h2⟩,h3⟩:=hc
  cases vs with
  |nil=>grind [RVs]
  |cons v vs =>
   obtain⟨y,ys,P1,P2,e,rv,rvs,hs⟩:=r2;obtain⟨rfl,rfl⟩:=e;simp only[uB,eQ]at h;split at h
   .rename_i hb;simp only[af,aD,bp]at hb;obtain⟨⟨hb1,hb2⟩,hb3⟩:=hb;split at h1
    .rename_i a b hp;simp only[af,aD]at h1;obtain⟨rfl,rfl⟩:=h1;have rc:=aaf hb2 rv;have hlx:=r1.length;have hlc:=rc.length;simp only[jr]at hlx hlc;obtain⟨xs',e1,e2⟩:=Sg (rest:=parts.map λp=>(p.1,ev t p.2)) hp (v:=ev t x) o_ (xs:=xs) o_;obtain⟨O3,r3,l3⟩:=r1.splice rc (off:=a) o_;rw[<-e2]at r3;obtain⟨xs'',O4,q1,q2,q3⟩:=aiV h3 r3 rvs h
     grind
    simp_all
   simp_all
 |[],_::_,hc,_,_,_,_,_,_,_,_,_=>by grind [nu]
 |(_,_,_)::_,[],hc,_,_,_,_,_,_,_,_,_=>by grind [nu]
def arf {fs:List Field}(h:acy P fs=true):∃places:R_,fs.mapM (λf=>(P.info? f.type).map λi=>(f.offset,i.size))=some places∧
  ∀i:Nat,places[i]?=(fs[i]?).bind λf:Field=>(P.info? f.type).map λi=>(f.offset,i.size):=by
 induction fs with
 |nil=>simp_all
 |cons f fs ih =>
  simp only[acy,ij,af]at h;obtain⟨places,h1,h2⟩:=ih h.2;obtain⟨i,hi⟩:=jn.1 h.1;refine⟨(f.offset,i.size)::places,u_,λj=>?_⟩
  grind
def avf {zs:D_}{ps:AC_}(s:S P g w st t O)(h:Ex zs ps st=some (a,st'))(hc:bG P (.build zs ps) o.op=true) :
  fS P g w t O st' a ((execOp (ev t) o).run P w):=by
 obtain⟨dst,op,ty,pos,aft,gd⟩:=o;simp only[bG]at hc;split at hc
 .rename_i T parts;simp only[ajf,af]at hc;obtain⟨h1,h2⟩:=hc;split at h1
  .split at h1
   .rename_i z hz;have rz:RVs g w zs z.cells.toList zero:=RVs.consts h1;unfold Ex at h;split at h
    .rename_i vs e hr;split at h
     .rename_i cs hf;have fin:∀place,nu place ps parts.toList=true->(∀xs',Instr.fill place z.cells (parts.map λp=>(p.1,ev t p.2)).toList=some xs'->P.built T (parts.map λp=>(p.1,ev t p.2)).toList=some xs')->
        fS P g w t O ⟨e,st.hs⟩ (.agg cs) ((execOp (ev t) ⟨dst,.build T parts,ty,pos,aft,gd⟩).run P w):=by
       intro place hp hbuilt;obtain⟨Ov,O',rvs,s',l⟩:=s.rdAll (SW hp) hr;rw[uh]at rvs;obtain⟨xs',O3,q1,q2,q3⟩:=aiV (t:=t) hp rz rvs hf;have hb:=hbuilt xs' u_;refine .pure s (x:=.agg xs') ?_ (by exact⟨xs',rfl,q2⟩) s' (λb=>by grind)
       grind [execOp,Sem.run_bind,Result.andThen_ok,Sem.run_pure,run_build]
      split at h2
      .rename_i fs hu;simp only[af]at h2;obtain⟨places,p1,p2⟩:=arf h2.1;have hpl:(λi=>IU P fs i)=λi=>places.toArray[i]?:=by
        grind [IU]
       grind [Program.built]
      all_goals grind [Program.built]
     simp_all
    simp_all
   simp_all
  simp_all
 simp_all
end
abbrev aq:=@List.length_cons
abbrev il:=@List.length_map
section
variable {P:Program}{g:Gh}{w:World}{t:F_}{O:Nat->Nat}{st st':St}{a:AV}{o:Oper}
def Ed:∀{ps:U_}{parts:List (Nat×Operand)}{k:Nat},gG k ps parts=true->eU ps (parts.map (·.2))=true∧parts.length=ps.length
 |[],[],_,_=>⟨rfl,rfl⟩
 |r::ps,(i,x)::parts,k,h=>by
  simp only[gG,af]at h;obtain⟨h1,h2⟩:=Ed h.2
  grind [eU]
 |[],_::_,_,h=>by grind [gG]
 |_::_,[],_,h=>by grind [gG]
def aeV {v:AV}{e:W_}{x:Value}{Ov:Nat->Nat}(h:mO v.cells=some e)(r:RV g w v x Ov):RVs g w v.cells x.cells.toList Ov:=by
 apply aaf _ r
 cases v with
 |agg cs=>rfl
 |_ =>
  have:=MF h
  grind [AV.cells,F6]
def Vy {m:Nat}:∀{vs:D_}{xs:E_},j8 m vs=some xs->xs.length=vs.length∧∀e∈xs,e.length=m
 |[],xs,h=>by grind [j8]
 |v::vs,xs,h=>by
  simp only[j8]at h;split at h
  .rename_i hb;rw[aD]at hb;split at h
   .split at h
    .rename_i es hes;obtain⟨h1,h2⟩:=Vy hes
     grind [Wh]
    simp_all
   simp_all
  simp_all
def ZL {m:Nat}:∀{ps:U_}{parts:List (Nat×Operand)}{k:Nat},gG k ps parts=true->∀{vs:D_}{xs:E_}{cs:F_}{O2:Nat->Nat},
  RVs g w vs (parts.map λp=>ev t p.2) O2->j8 m vs=some xs->(k+ps.length)*m<=cs.size->
  ∃xs':F_,Instr.fill (λi=>some (i*m,m)) cs (parts.map λp=>(p.1,ev t p.2))=some xs'∧xs'.size=cs.size∧(∀j,j<k*m->xs'.toList[j]?=cs.toList[j]?)∧
   ∀(j:Nat) (d:D),xs.flatten[j]?=some d->∃u,xs'.toList[k*m+j]?=some u∧RD w g.pm d u
 |[],[],k,_,vs,xs,cs,O2,r,h,hb=>by
  cases vs<;>grind [j8,Instr.fill,RVs]
 |r::ps,(i,x)::parts,k,hc,vs,xs,cs,O2,rr,h,hb=>by
  simp only[gG,af,aD]at hc;obtain⟨⟨rfl,h2⟩,h3⟩:=hc
  cases vs with
  |nil=>grind [RVs]
  |cons v vs =>
   obtain⟨y,ys,P1,P2,e,rv,rvs,hs⟩:=rr;obtain⟨rfl,rfl⟩:=e;simp only[j8]at h;split at h
   .rename_i hbl;rw[aD]at hbl;split at h
    .rename_i e he;split at h
     .rename_i es hes;have rc:=aeV he rv;have hlc:=rc.length;simp only[jr]at hlc;simp only[aq]at hb;have hmul:(i+(ps.length+1))*m=i*m+m+ps.length*m:=d_;obtain⟨xs1,e1,e2⟩:=Sg (place:=λi=>some (i*m,m)) (rest:=parts.map λp=>(p.1,ev t p.2)) (i:=i) rfl (v:=ev t x) o_ (xs:=cs) o_;have hcl:cs.toList.length=cs.size:=jr;have hxl:(ev t x).cells.toList.length=m:=u_;have hsz1:xs1.size=cs.size:=by
       grind [JD]
      obtain⟨xs',q1,q2,q3,q4⟩:=ZL h3 rvs hes (cs:=xs1) (by grind)
      grind [OU,kL]
     simp_all
    simp_all
   simp_all
 |[],_::_,_,hc,_,_,_,_,_,_,_=>by grind [gG]
 |_::_,[],_,hc,_,_,_,_,_,_,_=>by grind [gG]
def aBk {m:Nat}{ps:U_}(s:S P g w st t O)(h:P5 m ps st=some (a,st'))(hc:bG P (.mks m ps) o.op=true) :
  fS P g w t O st' a ((execOp (ev t) o).run P w):=by
 obtain⟨dst,op,ty,pos,aft,gd⟩:=o;simp only[bG]at hc;split at hc
 .simp only[af,aD,bp]at hc;obtain⟨⟨⟨⟨h1,h2⟩,h3⟩,h4⟩,h5⟩:=hc;subst h3;obtain⟨el,hu,hsz,hm,hby⟩:=jb h1;obtain⟨el',i,zv,hu',hi,hz,hzs⟩:=rX h2;obtain⟨hrds,hpl⟩:=Ed h5;unfold P5 at h;split at h
  .rename_i vs e hr;split at h
   .rename_i xs hx;obtain⟨rfl,rfl⟩:=h;obtain⟨Ov,O',rvs,s',l⟩:=s.rdAll hrds hr;rw[uh]at rvs;have hvl:=rvs.length;simp only[il]at hvl;obtain⟨hxl,hxm⟩:=Vy hx;generalize hcs:(Array.range (ps.length*m)).map (λj=>(if ps.length*m=0 then (#[]:F_) else zv.cells)[j % (if ps.length*m=0 then (#[]:F_) else zv.cells).size]!)=cs;have hcsz:cs.size=ps.length*m:=d_;obtain⟨xs',q1,q2,q3,q4⟩:=ZL (t:=t) (k:=0) h5 (cs:=cs) rvs hx u_;have hxp:xs.length=ps.length:=o_;refine fS.list (cap:=ps.length) (c:=xs') (el:=el) (w1:=w) s s' (λb=>by grind) (bQ.refl _ _ _) rfl ?_ hm hxm o_ o_ (λj d hj=>?_)
    .rw[hxp];have hbig:¬(ps.length*m > 2 ^ 24):=o_;have hzv:=uQ (P:=P) (w:=w) hi hz;by_cases h0:ps.length*m=0
     .simp only[h0,bj]at hcs;simp only[execOp,Instr.buildSlice,aT,bf hu,bw,fA hsz,h0,bj,dO,nj];rw[hcs];simp[q1,newRow]
     .simp only[execOp,Instr.buildSlice,aT,bf hu,bw,fA hsz,h0,bm,dO,nj,hbig,hzv]
      simp_all [newRow]
    simp_all
   simp_all
  simp_all
 simp_all
end
abbrev vW:=@List.forIn_cons
section
variable {P:Program}{g:Gh}{w:World}{t:F_}{O:Nat->Nat}{st st':St}{a:AV}{o:Oper}
def IZ:∀{xs:E_}{s:BC_},vA xs=some s->∃ns:C_,xs=ns.map (fun(n:Nat)=>[D.int .u8 (Int.ofNat n)])∧s=ns.map Nat.toUInt8
 |[],s,h=>by simp_all [vA]
 |x::xs,s,h=>by
  unfold vA at h;split at h
  .simp at *
  .rename_i n r e;obtain⟨rfl,rfl⟩:=e;split at h
   .rename_i s' hs;simp only[ae]at h;subst h;obtain⟨ns,rfl,rfl⟩:=IZ hs;exact⟨n::ns,rfl,rfl⟩
   simp_all
  simp_all
def adg:∀(ns:C_) (A:Array UInt8),(ns.map fun(n:Nat)=>(n:Int)).foldl (fun(r:ByteArray) (n:Int)=>r.push (UInt8.ofNat n.toNat)) ⟨A⟩=⟨A++(ns.map Nat.toUInt8).toArray⟩
 |[],A=>by simp
 |n::ns,A=>by
  simp only[bL,ef];have:(ByteArray.mk A).push (UInt8.ofNat ((n:Int).toNat))=⟨A.push (Nat.toUInt8 n)⟩:=by simp[ByteArray.push,Nat.toUInt8]
  rw[this,adg ns]
  simp_all
theorem Y2 (ns:C_):(ns.map (fun(n:Nat)=>[D.int .u8 (Int.ofNat n)])).flatten=ns.map fun(n:Nat)=>D.int .u8 (Int.ofNat n):=by
 induction ns<;>simp_all
def aut {x:Rd}(s:S P g w st t O)(h:Ni x st=some (a,st'))(hc:bG P (.toStr x) o.op=true) :
  fS P g w t O st' a ((execOp (ev t) o).run P w):=by
 simp only[bG]at hc;split at hc
 .simp only[af]at hc;obtain⟨⟨h1,h2⟩,h3⟩:=hc;obtain⟨v,e,hr,hk⟩:=Rl h;obtain⟨Ov,O',rv,s',l⟩:=s.rd h3 hr;split at hk
  .rename_i xs hxs;split at hk
   .rename_i b hb;obtain⟨rfl,rfl⟩:=hk;obtain⟨ns,rfl,rfl⟩:=IZ hb;have hl1:∀e∈ns.map (fun(n:Nat)=>[D.int .u8 (Int.ofNat n)]),e.length=1:=by
     simp_all
    have hfl:(ns.map (fun(n:Nat)=>[D.int .u8 (Int.ofNat n)])).flatten=ns.map fun(n:Nat)=>D.int .u8 (Int.ofNat n):=by
     exact Y2 ns
    obtain⟨ad,cap,news,hxv,hels⟩:=BM (st:=⟨e,st.hs⟩) s' hxs hl1 rv;have hnews:news=ns.map fun(n:Nat)=>Value.int .u8 (n:Int):=by
     apply dW;intro j;rcases bD j ns.length with hj|hj
     .have hd:(ns.map (fun(n:Nat)=>[D.int .u8 (Int.ofNat n)])).flatten[j]?=some (D.int .u8 (Int.ofNat ns[j])):=u_;obtain⟨u,hu,hr⟩:=hels.rd j _ hd
      cases hr
      simp_all
     grind [CF.len]
    simp only[Pc]at h1;simp only[al7]at h2;split at h1
    .split at h2
     .split at h2
      .refine .flat s (x:=.string ⟨(ns.map Nat.toUInt8).toArray⟩) ?_ (by simp only[RV];exact⟨.str _,λ_=>trivial⟩) s' (S.le_left l);have hrun:(Conv.bytesToString (.slice ad (ns.map (fun(n:Nat)=>[D.int .u8 (Int.ofNat n)])).length cap)).run P w=.ok (.string ⟨(ns.map Nat.toUInt8).toArray⟩) w:=by
        cases ad with
        |none =>
         have h0:=hels.nn rfl;have:ns=[]:=aB u_;subst this;rfl
        |some ad =>
         have hcell:=run_loadCells_list (P:=P) w ad news (hels.cell ad rfl);have hlen:news.length=(ns.map (fun(n:Nat)=>[D.int .u8 (Int.ofNat n)])).length:=u_;rw[hlen]at hcell;have hm:news=(ns.map fun(n:Nat)=>(n:Int)).map (Value.int .u8):=u_;rw[hm]at hcell;rw[run_bytesToString w ad _ cap (ns.map fun(n:Nat)=>(n:Int)) hcell];have:=adg ns #[];simp only[Array.empty_append]at this;exact aP (λz=>Result.ok (Value.string z) w) this
       grind [execOp,Sem.run_bind,Result.andThen_ok,Sem.run_pure,run_convert_bytes_string]
      simp_all
     simp_all
    simp_all
   simp_all
  simp_all
 simp_all
def C4 {ty:TypeId}(h:Kr P ty=true){cs:F_}{off:Nat}{x:Value}(hx:cs.toList[off]?=some x):(part ty cs off).run P w=.ok x w:=by
 simp_all [part,CH]
def Yi {ty:TypeId}{k:Bool}(hk:(match k with|true=>KS P ty|false=>MV P ty)=true){u v:AV}{x y:Value}{Ou Ov:Nat->Nat}(ru:RV g w u x Ou)(rv:RV g w v y Ov)
  {r s:D_}{ks:V_}{tt:Bool}(h:bE (k::ks) (u::r) (v::s)=some tt)(d:Nat) :
  ∃b,(Op.equalIn (d+1) ty x y).run P w=.ok b w∧((b=true∧bE ks r s=some tt)∨(b=false∧tt=false)):=by
 cases k with
 |true =>
  cases u<;>try (simp[bE]at h;done)
  rename_i du
  cases du<;>try (simp[bE]at h;done)
  rename_i k a
  cases v<;>try (simp[bE]at h;done)
  rename_i dv
  cases dv<;>try (simp[bE]at h;done)
  rename_i j b;simp only[bE]at h;split at h
  .rename_i hkj;have:=FE hkj;subst this;have hx:=zH ru rfl;have hy:=zH rv rfl;subst hx hy;simp only[KS]at hk;split at hk
   .rename_i kk hu;refine⟨a == b,?_,?_⟩
    .unfold Op.equalIn;rw[aT,bf hu];simp
    grind
   simp_all
  simp_all
 |false =>
  cases u<;>try (simp[bE]at h;done)
  rename_i du
  cases du<;>try (simp[bE]at h;done)
  rename_i a
  cases v<;>try (simp[bE]at h;done)
  rename_i dv
  cases dv<;>try (simp[bE]at h;done)
  rename_i b;simp only[bE]at h;have hx:=Bw ru rfl;have hy:=Bw rv rfl;subst hx hy;simp only[MV]at hk;split at hk
  .rename_i hu;refine⟨a == b,II hu d a b,?_⟩
   grind
  simp_all
def Yw {xs ys:F_}{d:Nat}:∀{fs:List Field}{ks:V_}{n:Nat}{r s:D_}{tt:Bool}{O1 O2:Nat->Nat},Jl P ks fs n=true->
  RVs g w r (xs.toList.drop n) O1->RVs g w s (ys.toList.drop n) O2->bE ks r s=some tt->∀{f:Field->BD_×Unit->Sem (ForInStep (BD_×Unit))},
  (∀(fd:Field) (q:BD_×Unit),(fd.name != "_")=true->∀x y b,(part fd.type xs fd.offset).run P w=.ok x w->(part fd.type ys fd.offset).run P w=.ok y w->
   (Op.equalIn (d+1) fd.type x y).run P w=.ok b w->(f fd q).run P w=.ok (if b=true then .yield (none,()) else .done (some false,())) w)->
  (forIn fs ((none,()):BD_×Unit) f).run P w=.ok (if tt=true then (none,()) else (some false,())) w
 |[],[],n,r,s,tt,O1,O2,_,r1,r2,h,f,_=>by
  cases r with
  |nil=>cases s<;>simp_all [bE]
  |cons=>grind [bE]
 |fd::fs,k::ks,n,r,s,tt,O1,O2,hf,r1,r2,h,f,hstep=>by
  simp only[Jl,af,aD]at hf;obtain⟨⟨⟨⟨h1,h2⟩,h3⟩,h4⟩,h5⟩:=hf
  cases r with
  |nil=>grind [bE]
  |cons u r =>
   cases s with
   |nil=>grind [bE]
   |cons v s =>
    obtain⟨x,xs',P1,P2,e1,ru,rr,_⟩:=r1;obtain⟨y,ys',Q1,Q2,e2,rv,rs,_⟩:=r2;obtain⟨b,hb,hcase⟩:=Yi h3 ru rv h d;have hx:xs.toList[n]?=some x:=by have:=aP (λl=>l[0]?) e1;grind
    have hy:ys.toList[n]?=some y:=by have:=aP (λl=>l[0]?) e2;grind
    have ex:xs.toList.drop (n+1)=xs':=by have:=aP (λl=>l.drop 1) e1;grind [List.drop_drop]
    have ey:ys.toList.drop (n+1)=ys':=by have:=aP (λl=>l.drop 1) e2;grind [List.drop_drop]
    have hs:=hstep fd (none,()) h2 x y b (C4 h4 u_) (C4 h4 u_) hb;rw[vW,aT,hs];rcases hcase with ⟨rfl,hc⟩|⟨rfl,rfl⟩
    .exact Yw h5 (by rw[ex];exact rr) (by rw[ey];exact rs) hc hstep
    .simp
 |[],_::_,_,_,_,_,_,_,hf,_,_,_,_,_=>by simp[Jl]at hf
 |_::_,[],_,_,_,_,_,_,hf,_,_,_,_,_=>by simp[Jl]at hf
def abk {k:Bool}{ks:V_}{r s:D_}{tt:Bool}(h:bE (k::ks) r s=some tt):∃u r' v s',r=u::r'∧s=v::s'∧
  (((∀ks' r'' s'',bE (k::ks') (u::r'') (v::s'')=bE ks' r'' s'')∧bE ks r' s'=some tt)∨((∀ks' r'' s'',bE (k::ks') (u::r'') (v::s'')=some false)∧tt=false)):=by
 cases r with
 |nil=>grind [bE]
 |cons u r =>
  cases s with
  |nil=>grind [bE]
  |cons v s =>
   refine⟨u,r,v,s,rfl,rfl,?_⟩
   cases k with
   |true =>
    cases u<;>try (simp[bE]at h;done)
    rename_i du
    cases du<;>try (simp[bE]at h;done)
    cases v<;>try (simp[bE]at h;done)
    rename_i dv
    cases dv<;>try (simp[bE]at h;done)
    grind [bE]
   |false =>
    cases u<;>try (simp[bE]at h;done)
    rename_i du
    cases du<;>try (simp[bE]at h;done)
    cases v<;>try (simp[bE]at h;done)
    rename_i dv
    cases dv<;>try (simp[bE]at h;done)
    grind [bE]
def Ki:∀(k1:V_) {k2:V_}{r s:D_}{tt:Bool},bE (k1++k2) r s=some tt->
  ∃b,bE k1 (r.take k1.length) (s.take k1.length)=some b∧((b=true∧bE k2 (r.drop k1.length) (s.drop k1.length)=some tt)∨(b=false∧tt=false))
 |[],_,_,_,_,h=>⟨true,by simp[bE],.inl ⟨rfl,u_⟩⟩
 |k::k1,k2,r,s,tt,h=>by
  obtain⟨u,r',v,s',rfl,rfl,hc⟩:=abk h;rcases hc with ⟨h1,h2⟩|⟨h1,h2⟩
  .obtain⟨b,hb,hc⟩:=Ki k1 h2
   simp_all
  simp_all
theorem abh {ty:TypeId}{ks:V_}{fs:Array Field}(hu:P.underlying ty=some (.struct fs))(h1:Jl P ks fs.toList 0=true)(h2:P.stoodInHeld ty=false){cs ds:D_}{xs ys:F_}{O1 O2:Nat->Nat}(r1:RVs g w cs xs.toList O1)(r2:RVs g w ds ys.toList O2)
  {tt:Bool}(h:bE ks cs ds=some tt)(d:Nat):(Op.equalIn (d+1+1) ty (.agg xs) (.agg ys)).run P w=.ok tt w:=by
 rw[Op.equalIn,aT,bf hu];simp only[bw,aT,run_program,h2,ao,bm,<-Array.forIn_toList];rw[Yw (f:=_) (d:=d) h1 (by simpa using r1) (by simpa using r2) h (λfd q hn x y b hx hy hb=>by
  have hn':¬fd.name = "_" := by simp_all
  simp only[ne_eq,hn',not_false_eq_true,bj,aT,hx,hy,bw,hb]
  cases b<;>simp)]
 cases tt<;>simp
def Se {ty:TypeId}{fs:Array Field}{n:Nat}(hu:P.underlying ty=some (.struct fs))(hs:xx P ty n=true){xs:F_}{off:Nat}:(part ty xs off).run P w=.ok (.agg (xs.extract off (off+n))) w:=by
 have:Du P ty=true:=by simp[Du,hu]
 simp[part,yC this,fA hs]
def XI {xs ys:F_}{d:Nat}:∀{fs:List Field}{ks:V_}{n:Nat}{r s:D_}{tt:Bool}{O1 O2:Nat->Nat},ME P ks fs n=true->
  RVs g w r (xs.toList.drop n) O1->RVs g w s (ys.toList.drop n) O2->bE ks r s=some tt->∀{f:Field->BD_×Unit->Sem (ForInStep (BD_×Unit))},
  (∀(fd:Field) (q:BD_×Unit),(fd.name != "_")=true->∀x y b,(part fd.type xs fd.offset).run P w=.ok x w->(part fd.type ys fd.offset).run P w=.ok y w->
   (Op.equalIn (d+1+1) fd.type x y).run P w=.ok b w->(f fd q).run P w=.ok (if b=true then .yield (none,()) else .done (some false,())) w)->
  (forIn fs ((none,()):BD_×Unit) f).run P w=.ok (if tt=true then (none,()) else (some false,())) w
 |[],[],n,r,s,tt,O1,O2,_,r1,r2,h,f,_=>by
  cases r with
  |nil=>cases s<;>simp_all [bE]
  |cons=>grind [bE]
 |[],_::_,_,_,_,_,_,_,hf,_,_,_,_,_=>by simp[ME]at hf
 |fd::fs,ks,n,r,s,tt,O1,O2,hf,r1,r2,h,f,hstep=>by
  unfold ME at hf;simp only[af,aD]at hf;obtain⟨⟨h1,h2⟩,hf⟩:=hf;split at hf
  .rename_i f2 hu;simp only[af,bp,cS]at hf;obtain⟨⟨⟨⟨h3,h4⟩,h5⟩,h6⟩,h7⟩:=hf;have hlen:(ks.take f2.size).length=f2.size:=u_;rw[<-aX f2.size ks]at h;obtain⟨b,hb,hcase⟩:=Ki _ h;rw[hlen]at hb hcase;obtain⟨P1,ru,_⟩:=r1.sub 0 f2.size;obtain⟨P2,rr,_⟩:=r1.sub f2.size r.length;obtain⟨Q1,rv,_⟩:=r2.sub 0 f2.size;obtain⟨Q2,rs,_⟩:=r2.sub f2.size s.length;have ea:∀zs:F_,(zs.extract n (n+f2.size)).toList=((zs.toList.drop n).drop 0).take f2.size:=λzs=>by simp_all
   have hs:=hstep fd (none,()) h2 _ _ b (Se hu h6) (Se hu h6) (by
    grind [abh,sub])
   rw[vW,aT,hs];rcases hcase with ⟨rfl,hc⟩|⟨rfl,rfl⟩
   .simp only[bj,bw];have l1:r.length=(xs.toList.drop n).length:=r1.length.symm;have l2:s.length=(ys.toList.drop n).length:=r2.length.symm;have er:Vm.sub r f2.size r.length=r.drop f2.size:=by simp_all [sub,bH]
    have es:Vm.sub s f2.size s.length=s.drop f2.size:=by simp_all [sub,bH]
    have ex:((xs.toList.drop n).drop f2.size).take r.length=xs.toList.drop (n+f2.size):=by grind [List.take_of_length_le,List.drop_drop]
    have ey:((ys.toList.drop n).drop f2.size).take s.length=ys.toList.drop (n+f2.size):=by grind [List.take_of_length_le,List.drop_drop]
    rw[er,ex]at rr;rw[es,ey]at rs;exact XI h7 rr rs hc hstep
   .simp
  .cases ks with
   |nil=>simp at hf
   |cons k ks =>
    simp only[af]at hf;obtain⟨⟨h3,h4⟩,h5⟩:=hf
    cases r with
    |nil=>grind [bE]
    |cons u r =>
     cases s with
     |nil=>grind [bE]
     |cons v s =>
      obtain⟨x,xs',P1,P2,e1,ru,rr,_⟩:=r1;obtain⟨y,ys',Q1,Q2,e2,rv,rs,_⟩:=r2;obtain⟨b,hb,hcase⟩:=Yi h3 ru rv h (d+1);have hx:xs.toList[n]?=some x:=by have:=aP (λl=>l[0]?) e1;grind
      have hy:ys.toList[n]?=some y:=by have:=aP (λl=>l[0]?) e2;grind
      have ex:xs.toList.drop (n+1)=xs':=by have:=aP (λl=>l.drop 1) e1;grind [List.drop_drop]
      have ey:ys.toList.drop (n+1)=ys':=by have:=aP (λl=>l.drop 1) e2;grind [List.drop_drop]
      have hs:=hstep fd (none,()) h2 x y b (C4 h4 u_) (C4 h4 u_) hb;rw[vW,aT,hs];rcases hcase with ⟨rfl,hc⟩|⟨rfl,rfl⟩
      .exact XI h5 (by rw[ex];exact rr) (by rw[ey];exact rs) hc hstep
      .simp
def XE {ty:TypeId}{ks:V_}(ht:Ar P ty ks=true){cs ds:D_}{xs ys:F_}{O1 O2:Nat->Nat}(r1:RVs g w cs xs.toList O1)(r2:RVs g w ds ys.toList O2)
  {tt:Bool}(h:bE ks cs ds=some tt):(Op.equal ty (.agg xs) (.agg ys)).run P w=.ok tt w:=by
 unfold Ar at ht;split at ht
 .rename_i fs hu;simp only[af,cS]at ht;obtain⟨⟨h1,h2⟩,h3⟩:=ht;show(Op.equalIn (9997+1+1+1) ty (.agg xs) (.agg ys)).run P w=_;rw[Op.equalIn,aT,bf hu];simp only[bw,aT,run_program,h2,ao,bm,<-Array.forIn_toList];rw[XI (f:=_) (d:=9997) h1 (by simpa using r1) (by simpa using r2) h (λfd q hn x y b hx hy hb=>by
   have hn':¬fd.name = "_" := by simp_all
   simp only[ne_eq,hn',not_false_eq_true,bj,aT,hx,hy,bw,hb]
   cases b<;>simp)]
  cases tt<;>simp
 simp_all
def axw {neg:Bool}{ks:V_}{x y:Rd}(s:S P g w st t O)(h:Nj neg ks x y st=some (a,st'))(hc:bG P (.bina neg ks x y) o.op=true) :
  fS P g w t O st' a ((execOp (ev t) o).run P w):=by
 obtain⟨dst,opp,ty,pos,aft,gd⟩:=o;simp only[bG]at hc;split at hc
 .rename_i op' ty' x' y' yt;simp only[af,ab9,decide_eq_true_eq]at hc;obtain⟨⟨⟨h0,hb⟩,h1⟩,h2⟩:=hc;obtain⟨va,vb,e,Oa,Ob,O',ra,rb,s',l,hk⟩:=Rr s h1 h2 h;split at hk
  .split at hk
   .rename_i tt htt;obtain⟨rfl,rfl⟩:=hk;obtain⟨xs,hx,r1⟩:=ra;obtain⟨ys,hy,r2⟩:=rb;have heq:=XE hb r1 r2 htt;have hgt:P.eqGuardType P.depth ty'=false:=by
     grind [Ar]
    refine .flat s (x:=_) ?_ (H8 _) s' λb=>by grind
    have hg:∀op,(eqGuard op ty' x' y' (.agg xs) (.agg ys)).run P w=.ok () w:=by
     simp_all [eqGuard]
    have hbin:(binOp (match neg with|true=>.neq|false=>.eql) ty' (.agg xs) (.agg ys)).run P w=.ok (.bool (match neg with|true=>!tt|false=>tt)) w:=by
     cases neg
     .show((do pure (.bool (<-Op.equal ty' (.agg xs) (.agg ys))):Sem Value)).run P w=_
      simp_all
     .show((do pure (.bool (!(<-Op.equal ty' (.agg xs) (.agg ys)))):Sem Value)).run P w=_
      simp_all
    simp only[execOp,hx,hy]
    cases neg
    all_goals simp_all
   simp_all
  simp_all
 simp_all
end
abbrev aC:=@List.flatMap_cons
abbrev dC:=@List.mem_map
section
variable {P:Program}{g:Gh}{w:World}{t:F_}{O:Nat->Nat}{st st':St}{a:AV}{o:Oper}
def RVs.flat:∀{vs:D_}{xs:N_}{O1:Nat->Nat},RVs g w vs xs O1->(vs.all λv=>Nat.beq v.cells.length 1 && v.cells.all bl)=true->
  RVs g w (vs.flatMap AV.cells) (xs.flatMap λx=>x.cells.toList) O1∧∀x∈xs,x.cells.toList.length=1
 |[],xs,O1,r,_=>by
  grind [RVs]
 |v::vs,xs,O1,r,h=>by
  obtain⟨x,s,P1,P2,rfl,rv,rvs,hs⟩:=r;simp only[ij,af,aD]at h;obtain⟨h1,h2⟩:=rvs.flat d_;have rc:=rv.cells h.1.2;refine⟨?_,λy hy=>?_⟩
  .have hO:O1=λb=>P1 b+P2 b:=funext hs
   grind [join]
  grind [length]
def av4:∀{ps:U_}{parts:List (Nat×Operand)}{k:Nat},gG k ps parts=true->∀{cs:F_},(∀p∈parts,(ev t p.2).cells.toList.length=1)->k+parts.length<=cs.size->
  ∃xs':F_,Instr.fill (λi=>some (i*1,1)) cs (parts.map λp=>(p.1,ev t p.2))=some xs'∧xs'.size=cs.size∧(∀j,j<k->xs'.toList[j]?=cs.toList[j]?)∧
   ∀j,j<parts.length->xs'.toList[k+j]?=(parts.flatMap λp=>(ev t p.2).cells.toList)[j]?
 |[],[],k,_,cs,_,hb=>⟨cs,by simp[Instr.fill],rfl,λ_ _=>rfl,λj hj=>by simp at hj⟩
 |r::ps,(i,x)::parts,k,hc,cs,h1,hb=>by
  simp only[gG,af,aD]at hc;obtain⟨⟨rfl,h2⟩,h3⟩:=hc;have hb:i+(parts.length+1)<=cs.size:=hb;have hx:(ev t x).cells.toList.length=1:=h1 _ (.head _);obtain⟨xs1,e1,e2⟩:=Sg (place:=λi=>some (i*1,1)) (rest:=parts.map λp=>(p.1,ev t p.2)) (i:=i) rfl (v:=ev t x) o_ (xs:=cs) o_;have hsz1:xs1.size=cs.size:=by
   grind [JD]
  obtain⟨xs',q1,q2,q3,q4⟩:=av4 h3 (cs:=xs1) (λp hp=>h1 p (.tail _ hp)) (by omega)
  grind [kL]
 |[],_::_,_,hc,_,_,_=>by grind [gG]
 |_::_,[],_,hc,_,_,_=>by grind [gG]
def ahf {α β:Type}{f:α->List β}:∀{l:List α},(∀x∈l,(f x).length=1)->(l.flatMap f).length=l.length
 |[],_=>rfl
 |x::l,h=>by
  rw[aC,aj,h x (.head _),ahf λy hy=>h y (.tail _ hy),aq];omega
def axA {m:Nat}{ps:U_}(s:S P g w st t O)(h:YT m ps st=some (a,st'))(hc:bG P (.mksv m ps) o.op=true) :
  fS P g w t O st' a ((execOp (ev t) o).run P w):=by
 obtain⟨dst,op,ty,pos,aft,gd⟩:=o;simp only[bG]at hc;split at hc
 .rename_i T len parts;simp only[af,aD,bp,Nat.blt_eq]at hc;obtain⟨⟨⟨⟨⟨⟨rfl,h1⟩,h2⟩,h3⟩,h4⟩,h0⟩,h5⟩:=hc;subst h3;obtain⟨el,hu,hsz,hm,hby⟩:=jb h1;obtain⟨el',i,zv,hu',hi,hz,hzs⟩:=rX h2;rw[hu]at hu';simp only[ae,iL]at hu';subst hu';obtain⟨hrds,hpl⟩:=Ed h5;unfold YT at h;split at h
  .rename_i vs e hr;split at h
   .rename_i hall;simp only[ae,aR]at h;obtain⟨rfl,rfl⟩:=h;obtain⟨Ov,O',rvs,s',l⟩:=s.rdAll hrds hr;rw[uh]at rvs;have hvl:=rvs.length;simp only[il]at hvl;obtain⟨rf,hone⟩:=rvs.flat hall;have hplt:parts.toList.length=ps.length:=hpl;generalize hcs:(Array.range (ps.length*1)).map (λj=>(if ps.length*1=0 then (#[]:F_) else zv.cells)[j % (if ps.length*1=0 then (#[]:F_) else zv.cells).size]!)=cs;have hcsz:cs.size=ps.length:=d_;have hone':∀p∈parts.toList,(ev t p.2).cells.toList.length=1:=λp hp=>hone _ (dC.2 ⟨p,hp,rfl⟩)
    obtain⟨xs',q1,q2,q3,q4⟩:=av4 (t:=t) (k:=0) h5 (cs:=cs) hone' o_;have hfl:=ahf (f:=λp:Nat×Operand=>(ev t p.2).cells.toList) hone';have hxs:xs'.toList=parts.toList.flatMap λp=>(ev t p.2).cells.toList:=by
     refine dW λj=>?_
     grind
    have rvx:RVs g w (vs.flatMap AV.cells) xs'.toList Ov:=by
     grind [List.flatMap_map]
    have hcl:(vs.flatMap AV.cells).length=vs.length:=by grind [RVs.length]
    have hn:=s'.fresh st.hs.next (ak _)
    have hO:∀b,w.heap.size<=b->O b=0:=by
     intro b hb;by_cases h:O b=0
     .exact h
     .have:=s.hi b h;omega
    have hx0:bQ g w (g.add st.hs.next w.heap.size 0 1 (vs.flatMap AV.cells).length) (w.alloc (.cells xs' el)) (λ_=>False):=(bQ.alloc s.pmlt _ _).add hn _ _ _ _;have r:kA P (g.add st.hs.next w.heap.size 0 1 (vs.flatMap AV.cells).length) (w.alloc (.cells xs' el)) st.hs.next (.cells (vs.flatMap AV.cells)) (λx=>Ov x+one w.heap.size x):=by
     refine⟨w.heap.size,xs',el,Ov,by simp[Gh.add],by simp[Gh.add],by simp[Gh.add],by simp[Gh.add],ke _ _,RVs.ext hx0 _ _ _ rvx s_,λo ho=>?_,λ_=>rfl⟩;have:=s.pmlt _ o ho;omega
    have key:∀b,Ov b+one w.heap.size b+O' b<=1:=by
     intro b;by_cases hb:b=w.heap.size
     .have:=l w.heap.size;simp_all
     .have:=s.le b;grind [one]
    obtain⟨s2,hx⟩:=s'.new r (λb=>key b) (λb hb=>by
     grind [wV])
    refine⟨.slice (some ⟨w.heap.size,0,none⟩) ps.length ps.length,_,_,zero,_,.inl ?_,?_,s2,hx.mono λb _ hb=>by grind,λb=>by simp_all,λb hb=>?_,s_⟩
    .have hbig:¬(ps.length*1 > 2 ^ 24):=o_;have hne:¬(ps.length*1=0):=o_;have hzv:=uQ (P:=P) (w:=w) hi hz;simp only[execOp,Instr.buildSlice,aT,bf hu,bw,fA hsz,hne,bm,dO,nj,hbig,hzv]
     simp_all [newRow]
    .simp_all [RV,Gh.add]
    grind [one]
   simp_all
  simp_all
 simp_all
def asK {n:Nat}{x:Rd}{lo hi mx:AB_}(s:S P g w st t O)(h:UB n x lo hi mx st=some (a,st'))(hc:bG P (.slarr n x lo hi mx) o.op=true) :
  fS P g w t O st' a ((execOp (ev t) o).run P w):=by
 obtain⟨dst,op,ty,pos,aft,gd⟩:=o;simp only[bG]at hc;split at hc
 .rename_i ty' y l' h' k';simp only[af]at hc;obtain⟨⟨⟨⟨h1,h2⟩,h3⟩,h4⟩,h5⟩:=hc;have hty:∃el,P.underlying ty'=some (.array n el)∧xx P el 1=true:=by
   grind [Uz,Nat.beq_eq]
  obtain⟨el,hu,hsz⟩:=hty;unfold UB at h;split at h
  .rename_i id off e1 r1;obtain⟨Ov,O1,rv,s1,l1⟩:=s.rd h2 r1;split at h
   .rename_i vl e2 r2;obtain⟨O2,q2,s2,l2⟩:=s1.rdOpt h3 r2;split at h
    .rename_i vh e3 r3;obtain⟨O3,q3,s3,l3⟩:=s2.rdOpt h4 r3;split at h
     .rename_i vm e4 r4;obtain⟨O4,q4,s4,l4⟩:=s3.rdOpt h5 r4;split at h
      .rename_i r hr;simp only[ae,aR]at h;obtain⟨rfl,rfl⟩:=h;have hle:∀b,Ov b+O4 b<=O b:=λb=>by grind
       unfold T5 at hr;split at hr
       .rename_i cs hg;split at hr
        .rename_i hle2;split at hr
         .rename_i l hh mm hb;simp only[ae]at hr;subst hr;have hb1:=wt hle2;obtain⟨Oe,Oh,re,rh,ho⟩:=s.parts;obtain⟨Oq,q,_⟩:=RL.get rh hg;obtain⟨b,c,el2,O5,hob,hbase,hesz,hbsz,_⟩:=q;obtain⟨⟨b',hob',hx⟩,_⟩:=rv;rw[hob]at hob';simp only[ae]at hob';subst hob';obtain⟨m',e1,g1,g2,g3,g4⟩:=Zq (P:=P) (w:=w) (b:=false) q2 q3 q4 (ak n) hb;refine .pure s (x:=.slice (some (if m'=l then ⟨b,g.base id+off,none⟩ else (⟨b,g.base id+off,none⟩:Addr).add (l*1))) (hh-l) (m'-l)) (Oa:=zero) ?_ ?_ s4 λx=>by simp_all
          .simp only[execOp,aT,Instr.sliceAt,bf hu,bw,hx,Instr.sureAddr,dO,e1,fA hsz]
          .simp only[RV];refine⟨?_,λ_=>trivial⟩;by_cases hml:m'=l
           .simp_all
           .refine .inr ⟨b,m'-l,hob,?_,o_,?_⟩
            all_goals grind [me]
         simp_all
        simp_all
       simp_all
      simp_all
     simp_all
    simp_all
   simp_all
  simp_all
 simp_all
end
end Go.Vm
end
