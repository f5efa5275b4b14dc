import GoSem.Core.View
import GoSem.Core.Program
import GoSem.Core.Layout
import GoSem.Op.Equal
import Derived.Calls
import Derived.Laws.Sem
import Derived.Laws.World
import Derived.Laws.Cells
set_option linter.unusedVariables false
set_option linter.unusedSimpArgs false
set_option linter.defProp false
set_option linter.unusedSectionVars false
noncomputable section
namespace Go.Vm
abbrev C_:=List Nat
abbrev E_:=List Int
abbrev Y_:=List Bool
abbrev J_:=Option Nat
abbrev M_:=List Value
abbrev AF_:=List UInt8
abbrev BD_:=Array Bool
abbrev G_:=Array Value
abbrev BC_:=Option Bool
abbrev Q_:=List (Nat×Nat)
abbrev O_:=List (List Int)
abbrev T_:=List (List Bool)
abbrev BG_:=Option (Nat×Nat)
abbrev BA_:=Option (Nat->Nat)
abbrev P_:=List (Nat×List Nat)
abbrev AG_:=Option (List Nat×List Nat)
set_option maxHeartbeats 4000000
set_option maxRecDepth 100000
theorem o_ {p:Prop}(h:p:=by omega):p:=h
theorem s_ {p:Prop}(h:p:=by simp):p:=h
theorem u_ {p:Prop}(h:p:=by simp_all):p:=h
theorem d_ {p:Prop}(h:p:=by decide):p:=h
theorem e_ {p:Prop}(h:p:=by grind):p:=h
abbrev aa:=@if_neg
abbrev dF_:=@decide_eq_false
abbrev dT_:=@decide_eq_true
abbrev ca:=@Nat.ble_eq_true_of_le
abbrev aC:=@Nat.beq_eq
abbrev aY:=@congrArg
inductive D where
 |int (k:IntKind) (n:Int)
 |bool (b:Bool)
 |str (s:AF_)
 |lst (xs:List (List D))
 deriving Inhabited
abbrev V_:=List D
abbrev BE_:=Option D
abbrev F_:=List (V_)
abbrev AD_:=Option (F_)
inductive AV where
 |junk
 |d (x:D)
 |nl
 |own (p:Bool) (m:Nat) (xs:F_)
 |gl (n:Nat)
 |agg (cs:List AV)
 |tup (vs:List AV)
 |nilp
 |ptr (id off:Nat)
 |pel (id i off:Nat)
 |pim (cs:V_) (off:Nat)
 |sl (id off len:Nat)
 |fn (f:FuncId) (first caps:List AV)
 |nilf
 |yield (l:Nat)
 deriving Inhabited
abbrev D_:=List AV
abbrev L_:=Option AV
abbrev AV.int (k:IntKind)(n:Int):AV:=.d (.int k n)
abbrev AV.bool (b:Bool):AV:=.d (.bool b)
abbrev A_ (n:Int):AV:=.d (.int .i64 n)
abbrev B_ (b:Bool):AV:=.d (.bool b)
inductive Rd where
 |s (i:Nat)
 |m (i:Nat)
 |c (v:AV)
 deriving Inhabited
abbrev S_:=List Rd
abbrev AA_:=Option Rd
abbrev AB_:=List (Nat×Nat×Rd)
inductive pV where
 |mov (x:Rd)
 |pick (c a b:Rd)
 |alloc (zs:D_)
 |box (x:Rd)
 |build (zs:D_) (ps:AB_)
 |mks (m:Nat) (ps:S_)
 |mksv (m:Nat) (ps:S_)
 |ld (n:J_) (take:Nat) (p:Rd)
 |st (n:Nat) (p x:Rd)
 |nilck (x:Rd)
 |bin (op:BinOp) (x y:Rd)
 |binb (neg:Bool) (x y:Rd)
 |bina (neg:Bool) (ks:Y_) (x y:Rd)
 |un (op:UnOp) (x:Rd)
 |conv (k:IntKind) (x:Rd)
 |toStr (x:Rd)
 |mkfn (f:FuncId) (first caps:S_)
 |mkslice (z:V_) (len cap:Rd)
 |slice (m:Nat) (x:Rd) (lo hi mx:AA_)
 |slarr (n:Nat) (x:Rd) (lo hi mx:AA_)
 |fa (off:Nat) (p:Rd)
 |fld (off:Nat) (n:J_) (x:Rd)
 |ia (n:Nat) (x i:Rd)
 |iarr (len n:Nat) (p i:Rd)
 |ix (len n:Nat) (agg:Bool) (x i:Rd)
 |ixs (x i:Rd)
 |idxb (x c:Rd)
 |ext (j:Nat) (mv:Bool) (i:Nat)
 |len (x:Rd)
 |cap (x:Rd)
 |app (m:Nat) (x y:Rd)
 |appz (z:V_) (x n:Rd)
 |cpy (m:Nat) (x y:Rd)
 |clr (z:V_) (x:Rd)
 |minmax (isMax:Bool) (xs:S_)
 |call (f:FuncId) (args:S_)
 |calli (f:FuncId) (args:S_)
 |callv (f:Rd) (args:S_)
 |bad
 |kill (is:C_)
 |free (i:Nat)
 |wk (i m:Nat)
 |frz (i:Nat)
 |frzC (i:Nat) (offs:C_)
 deriving Inhabited
structure VI where
 dst:J_
 guard:Option (Nat×Bool)
 op:pV
 th:Q_:=[]
 deriving Inhabited
abbrev R_:=List VI
inductive VC where
 |skip
 |reg (draw:Bool) (ops:R_)
 |regP (perm gco nr:C_) (ops:R_)
 |seq (a b:VC)
 |cond (c:Rd) (a b:VC)
 |block (id:Nat) (a:VC)
 |loop (a:VC)
 |rangeF (f:Rd) (params:C_) (assign body:VC)
 |exit (id:Nat)
 |scope (a:VC)
 |inScope (a cur:VC)
 |label (l:Nat)
 |goto (l:Nat)
 |ret
 |clone (m:Nat)
 |late (i d f:Nat) (a:VC)
 deriving Inhabited
inductive tX where
 |tmp (t:Nat)
 |cell (t:Nat) (n:J_)
 deriving Inhabited
abbrev AH_:=List tX
structure aj where
 nparams:Nat
 results:AH_
 body:VC
 deriving Inhabited
abbrev X_:=Option aj
abbrev aT:=List (Nat×AV)
inductive bX where
 |normal
 |exit (id:Nat)
 |goto (l:Nat)
 |ret
 deriving Inhabited,DecidableEq
abbrev BF_:=Option bX
inductive Obj where
 |cells (cs:D_)
 |arr (m:Nat) (xs:F_)
 |loop (snap:aT) (params:C_) (assign body:VC) (busy:Bool) (pend:BF_)
 deriving Inhabited
abbrev BH_:=Option Obj
abbrev ak:=List (Nat×Obj)
abbrev AE_:=Option (AV×ak)
structure HS where
 heap:ak
 next:Nat
 deriving Inhabited
abbrev W_:=Option (AV×HS)
structure St where
 env:aT
 hs:HS
 deriving Inhabited
abbrev Z_:=Option St
abbrev I_:=Option (bX×St)
abbrev K_:=Option (AV×St)
abbrev Il (a b:Nat):Prop:=a<b
abbrev abv (a b:Nat):Prop:=a<=b
abbrev ae5 (a b:Nat):Bool:=Nat.ble a b
def ap3 {a b:Nat}(h:abv a b):ae5 a b=true:=u_
def aui {a b:Nat}(h:¬abv a b):ae5 a b=false:=by grind [Nat.ble_eq]
def aCN {α:Type}:List (Nat×α)->Nat->Option α
 |[],_=>none
 |(k,v)::r,i=>match Nat.beq k i with
  |true=>some v
  |false=>aCN r i
def get {α:Type}(l:List (Nat×α))(i:Nat):Option α :=
 List.rec (motive:=λ_=>Option α) none (λp _ ih=>Prod.rec (motive:=λ_=>Option α) (λk v=>Bool.rec (motive:=λ_=>Option α) ih (some v) (Nat.beq k i)) p) l
def aCP {α:Type}:List (Nat×α)->Nat->α->List (Nat×α)
 |[],i,x=>[(i,x)]
 |(k,v)::r,i,x=>match Nat.beq k i with
  |true=>(i,x)::r
  |false=>match ae5 i k with
   |true=>(i,x)::(k,v)::r
   |false=>(k,v)::aCP r i x
def put {α:Type}(l:List (Nat×α))(i:Nat)(x:α):List (Nat×α) :=
 List.rec (motive:=λ_=>List (Nat×α)) [(i,x)] (λp r ih=>Prod.rec (motive:=λ_=>List (Nat×α)) (λk v=>Bool.rec (motive:=λ_=>List (Nat×α)) (Bool.rec (motive:=λ_=>List (Nat×α)) ((k,v)::ih) ((i,x)::(k,v)::r) (ae5 i k)) ((i,x)::r) (Nat.beq k i)) p) l
def ayk {α:Type}:List (Nat×α)->Nat->List (Nat×α)
 |[],_=>[]
 |(k,v)::r,i=>match Nat.beq k i with
  |true=>ayk r i
  |false=>(k,v)::ayk r i
def del {α:Type}(l:List (Nat×α))(i:Nat):List (Nat×α) :=
 List.rec (motive:=λ_=>List (Nat×α)) [] (λp _ ih=>Prod.rec (motive:=λ_=>List (Nat×α)) (λk v=>Bool.rec (motive:=λ_=>List (Nat×α)) ((k,v)::ih) ih (Nat.beq k i)) p) l
section
variable {α:Type}
theorem CI (i:Nat):get ([]:List (Nat×α)) i=none:=rfl
theorem aa2 (i:Nat)(x:α):put [] i x=[(i,x)]:=rfl
theorem aaK (i:Nat):del ([]:List (Nat×α)) i=[]:=rfl
def aDI {k i:Nat}(h:k=i):Nat.beq k i=true:=u_
def ahe {k i:Nat}(h:¬k=i):Nat.beq k i=false:=by grind [Nat.beq_eq]
theorem ja (k:Nat)(v:α)(r:List (Nat×α))(i:Nat):get ((k,v)::r) i=if k=i then some v else get r i:=by
 show Bool.rec (motive:=λ_=>Option α) (get r i) (some v) (Nat.beq k i)=_;by_cases h:k=i
 all_goals simp_all [ahe]
theorem pn (k:Nat)(v:α)(r:List (Nat×α))(i:Nat):del ((k,v)::r) i=if k=i then del r i else (k,v)::del r i:=by
 show Bool.rec (motive:=λ_=>List (Nat×α)) ((k,v)::del r i) (del r i) (Nat.beq k i)=_;by_cases h:k=i
 all_goals simp_all [ahe]
theorem xQ (k:Nat)(v:α)(r:List (Nat×α))(i:Nat)(x:α) :
  put ((k,v)::r) i x=if k=i then (i,x)::r else if abv i k then (i,x)::(k,v)::r else (k,v)::put r i x:=by
 show Bool.rec (motive:=λ_=>List (Nat×α)) (Bool.rec (motive:=λ_=>List (Nat×α)) ((k,v)::put r i x) ((i,x)::(k,v)::r) (ae5 i k)) ((i,x)::r) (Nat.beq k i)=_;by_cases h:k=i
 .simp_all
 .rw[aa h,ahe h];by_cases h2:abv i k
  all_goals simp_all [ap3,aui]
end
mutual
def ano:AV->AV
 |.own p _ xs=>match p with
  |false=>.d (.lst xs)
  |true=>.junk
 |.agg cs=>.agg (shareAll cs)
 |.tup cs=>.tup (shareAll cs)
 |v=>v
def shareAll:D_->D_
 |[]=>[]
 |v::r=>ano v::shareAll r
end
def share (v:AV):AV:=AV.casesOn (motive_1:=λ_=>AV) v .junk (λx=>.d x) .nl (λp _ xs=>Bool.casesOn (motive:=λ_=>AV) p (.d (.lst xs)) .junk) (λn=>.gl n) (λcs=>.agg (shareAll cs)) (λcs=>.tup (shareAll cs))
 .nilp (λa b=>.ptr a b) (λa b c=>.pel a b c) (λa b=>.pim a b) (λa b c=>.sl a b c) (λa b c=>.fn a b c) .nilf (λa=>.yield a)
theorem aoR (v:AV):ano v=share v:=by
 cases v<;>try rfl
 rename_i p _ _
 cases p<;>rfl
def aeA:shareAll []=[]:=rfl
def rD (v:AV)(r:D_):shareAll (v::r)=share v::shareAll r:=by grind [shareAll,aoR]
def rd (e:aT):Rd->Option (AV×aT)
 |.c v=>some (v,e)
 |.m i=>match get e i with
  |some v=>some (v,del e i)
  |none=>none
 |.s i=>match get e i with
  |some v=>some (share v,e)
  |none=>none
def rdAll (e:aT):S_->Option (D_×aT)
 |[]=>some ([],e)
 |x::r=>match rd e x with
  |none=>none
  |some (v,e)=>match rdAll e r with
   |none=>none
   |some (vs,e)=>some (v::vs,e)
def rdOpt (e:aT):AA_->Option (L_×aT)
 |none=>some (none,e)
 |some x=>match rd e x with
  |some (v,e)=>some (some v,e)
  |none=>none
def sub {α:Type}(xs:List α)(off len:Nat):List α:=(xs.drop off).take len
def aF {α:Type}(cs:List α)(off:Nat)(vs:List α):List α:=cs.take off++vs++cs.drop (off+vs.length)
def Lq:V_->F_
 |[]=>[]
 |x::r=>[x]::Lq r
def EK:AV->BE_
 |.d x=>some x
 |.nl=>some (.lst [])
 |.own false _ xs=>some (.lst xs)
 |_=>none
def mP:D_->Option V_
 |[]=>some []
 |v::r=>match EK v with
  |some x=>match mP r with
   |some xs=>some (x::xs)
   |none=>none
  |none=>none
def AV.cells:AV->D_
 |.agg cs=>cs
 |v=>[v]
def objElems (h:ak)(id:Nat):AD_ :=
 match get h id with
 |some (.arr _ xs)=>some xs
 |some (.cells cs)=>match mP cs with
  |some ds=>some (Lq ds)
  |none=>none
 |_=>none
def elems (h:ak):AV->AD_
 |.d (.lst xs)=>some xs
 |.nl=>some []
 |.own false _ xs=>some xs
 |.sl id off len=>match objElems h id with
  |some xs=>match Nat.ble (off+len) xs.length with
   |true=>some (sub xs off len)
   |false=>none
  |none=>none
 |_=>none
def lenOf:AV->J_
 |.d (.lst xs)=>some xs.length
 |.nl=>some 0
 |.own _ _ xs=>some xs.length
 |.gl n=>some n
 |.sl _ _ len=>some len
 |_=>none
def viewOne (h:ak):AV->L_
 |.d x=>some (.d x)
 |.nl=>some .nl
 |.own false _ xs=>some (.d (.lst xs))
 |.sl id off len=>match elems h (.sl id off len) with
  |some xs=>some (.d (.lst xs))
  |none=>none
 |_=>none
def viewAll (h:ak):D_->Option D_
 |[]=>some []
 |v::r=>match viewOne h v with
  |none=>none
  |some x=>match viewAll h r with
   |none=>none
   |some xs=>some (x::xs)
def viewArg (h:ak):AV->L_
 |.agg cs=>match viewAll h cs with
  |some xs=>some (.agg xs)
  |none=>none
 |v=>viewOne h v
def viewArgs (h:ak):D_->Option D_
 |[]=>some []
 |v::r=>match viewArg h v with
  |none=>none
  |some x=>match viewArgs h r with
   |none=>none
   |some xs=>some (x::xs)
def wY:AV->Bool
 |.sl ..=>true
 |_=>false
def ve:AV->Bool
 |.agg cs=>cs.any wY
 |v=>wY v
def kJ (h:ak):AV->AE_
 |.d x=>some (.d x,h)
 |.nl=>some (.nl,h)
 |.own p m xs=>some (.own p m xs,h)
 |.sl id off len=>match get h id with
  |some (.arr m xs)=>match Nat.ble (off+len) xs.length with
   |true=>some (.own true m (sub xs off len),del h id)
   |false=>none
  |_=>none
 |_=>none
def ub (h:ak):D_->Option (D_×ak)
 |[]=>some ([],h)
 |v::r=>match kJ h v with
  |none=>none
  |some (x,h)=>match ub h r with
   |none=>none
   |some (xs,h)=>some (x::xs,h)
def fV (h:ak):AV->AE_
 |.agg cs=>match ub h cs with
  |some (xs,h)=>some (.agg xs,h)
  |none=>none
 |v=>kJ h v
def tv (h:ak):D_->Option (D_×ak)
 |[]=>some ([],h)
 |v::r=>match fV h v with
  |none=>none
  |some (x,h)=>match tv h r with
   |none=>none
   |some (xs,h)=>some (x::xs,h)
def jf:D->Bool
 |.lst _=>false
 |_=>true
def ju:AV->Bool
 |.d x=>jf x
 |.own _ _ xs=>xs.all λe=>e.all jf
 |_=>true
def jQ:AV->Bool
 |.agg cs=>cs.all ju
 |v=>ju v
def iV:AV->Bool
 |.tup vs=>vs.all jQ
 |v=>jQ v
def nQ:AV->AV
 |.own _ m xs=>.own true m xs
 |v=>v
def mR:AV->AV
 |.agg cs=>.agg (cs.map nQ)
 |v=>nQ v
def nG:AV->AV
 |.tup vs=>.tup (vs.map mR)
 |v=>mR v
def et (v:AV):AV :=
 match iV v with
 |true=>nG v
 |false=>v
def eY (h:ak):AV->L_
 |.tup vs=>match tv h vs with
  |some (xs,_)=>some (et (.tup xs))
  |none=>none
 |v=>match fV h v with
  |some (x,_)=>some (et x)
  |none=>none
def pF (n:J_)(cs:V_)(off:Nat):L_ :=
 match n with
 |none=>match cs[off]? with
  |some x=>some (.d x)
  |none=>none
 |some n=>match Nat.ble (off+n) cs.length with
  |true=>some (.agg ((sub cs off n).map .d))
  |false=>none
def sX (t:Nat)(v:AV):AV×AV :=
 match t with
 |1=>(v,.junk)
 |2=>(v,share v)
 |3=>(v,match v with|.own _ _ xs=>.gl xs.length|v=>share v)
 |_=>(share v,v)
def fN (t:Nat):D_->D_×D_
 |[]=>([],[])
 |v::r=>((sX t v).1::(fN t r).1,(sX t v).2::(fN t r).2)
def loadAt (h:ak)(n:J_)(take:Nat):AV->AE_
 |.ptr id off=>match get h id with
  |some (.cells cs)=>match n with
   |none=>match cs[off]? with
    |none=>none
    |some v=>match take with
     |0=>some (share v,h)
     |t=>some ((sX t v).1,put h id (.cells (cs.set off (sX t v).2)))
   |some n=>match Nat.ble (off+n) cs.length with
    |true=>match take with
     |0=>some (.agg (shareAll (sub cs off n)),h)
     |t=>some (.agg (fN t (sub cs off n)).1,put h id (.cells (aF cs off (fN t (sub cs off n)).2)))
    |false=>none
  |_=>none
 |.pel id i off=>match get h id with
  |some (.arr _ xs)=>match xs[i]? with
   |some x=>match pF n x off with
    |some v=>some (v,h)
    |none=>none
   |none=>none
  |_=>none
 |.pim cs off=>match pF n cs off with
  |some v=>some (v,h)
  |none=>none
 |_=>none
def bB:AV->Bool
 |.junk|.agg _|.tup _=>false
 |.own p _ _=>!p
 |_=>true
def storeAt (h:ak)(n:Nat)(p x:AV):Option ak :=
 match Nat.beq x.cells.length n with
 |false=>none
 |true=>match p with
  |.ptr id off=>match get h id with
   |some (.cells cs)=>match Nat.ble (off+n) cs.length && x.cells.all bB with
    |true=>some (put h id (.cells (aF cs off x.cells)))
    |false=>none
   |_=>none
  |.pel id i off=>match mP x.cells with
   |none=>none
   |some ds=>match get h id with
    |some (.arr m xs)=>match xs[i]? with
     |some e=>match Nat.ble (off+n) e.length with
      |true=>some (put h id (.arr m (xs.set i (aF e off ds))))
      |false=>none
     |none=>none
    |_=>none
  |_=>none
def gX (off:Nat):AV->L_
 |.ptr id o=>some (.ptr id (o+off))
 |.pel id i o=>some (.pel id i (o+off))
 |.pim cs o=>some (.pim cs (o+off))
 |_=>none
def rY (lo hi:Int)(k:IntKind)(n:Int):Int :=
 match decide (lo<=n) && decide (n<=hi) with
 |true=>n
 |false=>k.wrap n
def wr (k:IntKind)(n:Int):Int :=
 match k with
 |.i64=>rY (-9223372036854775808) 9223372036854775807 k n
 |.u8=>rY 0 255 k n
 |.u64=>rY 0 18446744073709551615 k n
 |.u16=>rY 0 65535 k n
 |.u32=>rY 0 4294967295 k n
 |k=>k.wrap n
def IL (op:BinOp)(k:IntKind)(x y:Int):BE_ :=
 match decide (y<0) with
 |true=>none
 |false=>match op with
  |.shl=>some (.int k (wr k (x*((2 ^ (min y.toNat k.bits):Nat):Int))))
  |.shr=>some (.int k (x.fdiv ((2 ^ (min y.toNat k.bits):Nat):Int)))
  |_=>none
def Mz (op:BinOp)(k:IntKind)(x y:Int):BE_ :=
 let slow (f:BitVec k.bits->BitVec k.bits->BitVec k.bits):BE_:=some (.int k (k.wrap (f (BitVec.ofInt k.bits x) (BitVec.ofInt k.bits y)).toNat))
 match op with
 |.and=>slow (·&&& ·)
 |.or=>slow (·|||·)
 |.xor=>slow (·^^^ ·)
 |.andNot=>slow λa b=>a &&& ~~~b
 |_=>none
def kG (op:BinOp)(k:IntKind)(x y:Int):BE_ :=
 match op with
 |.add=>some (.int k (wr k (x+y)))
 |.sub=>some (.int k (wr k (x-y)))
 |.mul=>some (.int k (wr k (x*y)))
 |.quo=>match decide (y=0) with
  |true=>none
  |false=>some (.int k (wr k (x.tdiv y)))
 |.rem=>match decide (y=0) with
  |true=>none
  |false=>some (.int k (x.tmod y))
 |.eql=>some (.bool (decide (x=y)))
 |.neq=>some (.bool (!decide (x=y)))
 |.lss=>some (.bool (decide (x<y)))
 |.leq=>some (.bool (decide (x<=y)))
 |.gtr=>some (.bool (decide (y<x)))
 |.geq=>some (.bool (decide (y<=x)))
 |.shl=>none
 |.shr=>none
 |op=>Mz op k x y
def pg:IntKind->IntKind->Bool
 |.i8,.i8|.i16,.i16|.i32,.i32|.i64,.i64|.u8,.u8|.u16,.u16|.u32,.u32|.u64,.u64=>true
 |_,_=>false
def bq:Y_->D_->D_->BC_
 |[],[],[]=>some true
 |true::ks,.d (.int k a)::r,.d (.int j b)::s=>match pg k j with
  |true=>match decide (a=b) with
   |true=>bq ks r s
   |false=>some false
  |false=>none
 |false::ks,.d (.bool a)::r,.d (.bool b)::s=>match a == b with
  |true=>bq ks r s
  |false=>some false
 |_,_,_=>none
def xa (op:BinOp)(k:IntKind)(a:Int)(j:IntKind)(b:Int):BE_ :=
 match op with
 |.shl=>IL .shl k a b
 |.shr=>IL .shr k a b
 |op=>match pg k j with
  |true=>kG op k a b
  |false=>none
def dw (op:BinOp):AV->AV->L_
 |.d (.int k a),.d (.int j b)=>match xa op k a j b with
  |some x=>some (.d x)
  |none=>none
 |.d (.str a),.d (.str b)=>match op with
  |.eql=>some (.bool (a == b))
  |.neq=>some (.bool (!(a == b)))
  |.add=>match Nat.ble (a.length+b.length) 4294967296 with
   |true=>some (.d (.str (a++b)))
   |false=>none
  |_=>none
 |_,_=>none
def aqO (a b:Int):Int:=Int.casesOn (motive:=λ_=>Int->Int) a (λm b=>Int.casesOn (motive:=λ_=>Int) b (λn=>.ofNat (Nat.add m n)) (λn=>Int.subNatNat m (Nat.succ n)))
 (λm b=>Int.casesOn (motive:=λ_=>Int) b (λn=>Int.subNatNat n (Nat.succ m)) (λn=>.negSucc (Nat.succ (Nat.add m n)))) b
def are (a b:Int):Int:=Int.casesOn (motive:=λ_=>Int->Int) a (λm b=>Int.casesOn (motive:=λ_=>Int) b (λn=>Bool.casesOn (motive:=λ_=>Int) (Nat.ble n m) (Int.ofNat m-Int.ofNat n) (.ofNat (Nat.sub m n))) (λn=>.ofNat (Nat.add m (Nat.succ n))))
 (λm b=>Int.negSucc m-b) b
def art (a b:Int):Int:=Int.casesOn (motive:=λ_=>Int->Int) a (λm b=>Int.casesOn (motive:=λ_=>Int) b (λn=>.ofNat (Nat.mul m n)) (λn=>Int.ofNat m*Int.negSucc n))
 (λm b=>Int.negSucc m*b) b
def Zv (a b:Int):Bool:=Int.casesOn (motive:=λ_=>Int->Bool) a (λm b=>Int.casesOn (motive:=λ_=>Bool) b (λn=>Nat.ble m n) (λ_=>false))
 (λm b=>Int.casesOn (motive:=λ_=>Bool) b (λ_=>true) (λn=>Nat.ble n m)) b
def ieq (a b:Int):Bool:=Int.casesOn (motive:=λ_=>Int->Bool) a (λm b=>Int.casesOn (motive:=λ_=>Bool) b (λn=>Nat.beq m n) (λ_=>false))
 (λm b=>Int.casesOn (motive:=λ_=>Bool) b (λ_=>false) (λn=>Nat.beq m n)) b
def hiN (k:IntKind):Nat:=IntKind.casesOn (motive:=λ_=>Nat) k 127 32767 2147483647 9223372036854775807 255 65535 4294967295 18446744073709551615
def loN (k:IntKind):Nat:=IntKind.casesOn (motive:=λ_=>Nat) k 128 32768 2147483648 9223372036854775808 0 0 0 0
def knN (k:IntKind):Nat:=IntKind.casesOn (motive:=λ_=>Nat) k 0 1 2 3 4 5 6 7
def wq (n:Int)(k:IntKind):D:=Int.casesOn (motive:=λ_=>D) n (λm=>Bool.casesOn (motive:=λ_=>D) (Nat.ble m (hiN k)) (.int k (k.wrap (.ofNat m))) (.int k (.ofNat m)))
 (λm=>Bool.casesOn (motive:=λ_=>D) (Nat.ble (Nat.succ m) (loN k)) (.int k (k.wrap (.negSucc m))) (.int k (.negSucc m)))
abbrev BF:=BinOp->IntKind->Int->Int->L_
def KC:BF:=λop k a b=>dw op (.d (.int k a)) (.d (.int k b))
def aCp:BF:=λ_ k a b=>some (.d (wq (aqO a b) k))
def aCK:BF:=λ_ k a b=>some (.d (wq (are a b) k))
def aCr:BF:=λ_ k a b=>some (.d (wq (art a b) k))
def aCS:BF:=λ_ _ a b=>some (B_ (ieq a b))
def aC7:BF:=λ_ _ a b=>some (B_ (Bool.casesOn (motive:=λ_=>Bool) (ieq a b) true false))
def aDs:BF:=λ_ _ a b=>some (B_ (Bool.casesOn (motive:=λ_=>Bool) (Zv b a) true false))
def aCf:BF:=λ_ _ a b=>some (B_ (Zv a b))
def aDp:BF:=λ_ _ a b=>some (B_ (Bool.casesOn (motive:=λ_=>Bool) (Zv a b) true false))
def aDw:BF:=λ_ _ a b=>some (B_ (Zv b a))
def arI (op:BinOp):BF:=BinOp.casesOn (motive:=λ_=>BF) op aCp aCK aCr KC KC KC KC KC KC KC KC aCS aC7 aDs aCf aDp aDw
def aDu (k:IntKind)(a:Int)(op:BinOp)(y:D):L_:=D.casesOn (motive_1:=λ_=>IntKind->Int->BinOp->L_) y
 (λj b k a op=>Bool.casesOn (motive:=λ_=>L_) (Nat.beq (knN k) (knN j)) (dw op (.d (.int k a)) (.d (.int j b))) (arI op op k a b))
 (λ_ _ _ _=>none) (λ_ _ _ _=>none) (λ_ _ _ _=>none) k a op
def azs (x:D)(op:BinOp)(y:AV):L_:=D.casesOn (motive_1:=λ_=>BinOp->AV->L_) x
 (λk a op y=>AV.casesOn (motive_1:=λ_=>IntKind->Int->BinOp->L_) y (λ_ _ _=>none) (λd k a op=>aDu k a op d) (λ_ _ _=>none) (λ_ _ _ _ _ _=>none) (λ_ _ _ _=>none) (λ_ _ _ _=>none) (λ_ _ _ _=>none) (λ_ _ _=>none) (λ_ _ _ _ _=>none) (λ_ _ _ _ _ _=>none) (λ_ _ _ _ _=>none) (λ_ _ _ _ _ _=>none) (λ_ _ _ _ _ _=>none) (λ_ _ _=>none) (λ_ _ _ _=>none) k a op)
 (λb op y=>dw op (B_ b) y) (λs op y=>dw op (.d (.str s)) y) (λxs op y=>dw op (.d (.lst xs)) y) op y
def axh (op:BinOp)(x y:AV):L_:=AV.casesOn (motive_1:=λ_=>BinOp->AV->L_) x (λ_ _=>none) (λd op y=>azs d op y) (λ_ _=>none) (λ_ _ _ _ _=>none) (λ_ _ _=>none) (λ_ _ _=>none) (λ_ _ _=>none) (λ_ _=>none) (λ_ _ _ _=>none) (λ_ _ _ _ _=>none) (λ_ _ _ _=>none) (λ_ _ _ _ _=>none) (λ_ _ _ _ _=>none) (λ_ _=>none) (λ_ _ _=>none) op y
def alQ (k j:IntKind):Nat.beq (knN k) (knN j)=pg k j:=by cases k<;>cases j<;>rfl
theorem at5 (a b:Int):aqO a b=a+b:=by cases a<;>cases b<;>rfl
theorem atJ (a b:Int):are a b=a-b:=by
 cases a with
 |ofNat m =>
  cases b with
  |ofNat n =>
   show Bool.casesOn (motive:=λ_=>Int) (Nat.ble n m) (Int.ofNat m-Int.ofNat n) (.ofNat (Nat.sub m n))=_;by_cases h:n<=m
   .rw[ca h]
    grind
   .rw[show Nat.ble n m=false by grind [Nat.ble_eq]]
  |negSucc n=>rfl
 |negSucc m=>rfl
theorem auB (a b:Int):art a b=a*b:=by cases a<;>cases b<;>rfl
theorem Zy (a b:Int):Zv a b=decide (a<=b):=by
 cases a with
 |ofNat m =>
  cases b with
  |ofNat n =>
   show Nat.ble m n=_
   grind [Nat.ble_eq]
  |negSucc n =>
   show false=_
   grind
 |negSucc m =>
  cases b with
  |ofNat n =>
   show true=_
   grind
  |negSucc n =>
   show Nat.ble n m=_
   grind [Nat.ble_eq]
theorem aox (a b:Int):ieq a b=decide (a=b):=by
 cases a with
 |ofNat m =>
  cases b with
  |ofNat n =>
   show Nat.beq m n=_
   grind [Nat.beq_eq]
  |negSucc n =>
   show false=_
   simp_all
 |negSucc m =>
  cases b with
  |ofNat n =>
   show false=_
   simp_all
  |negSucc n =>
   show Nat.beq m n=_
   grind [Nat.beq_eq]
theorem Sd {k:IntKind}{n:Int}(h:-(loN k:Int)<=n)(h2:n<=hiN k):k.wrap n=n:=by
 cases k<;>simp only[loN,hiN]at h h2<;>simp only[IntKind.wrap,IntKind.bits,IntKind.signed]<;>simp<;>omega
def auY (k:IntKind)(n:Int):wr k n=k.wrap n:=by
 have H:∀lo hi:Int,(lo<=n->n<=hi->k.wrap n=n)->rY lo hi k n=k.wrap n:=by
  grind [rY]
 cases k<;>simp only[wr]
 all_goals grind [Sd,loN,hiN]
theorem alK (k:IntKind)(n:Int):wq n k=.int k (wr k n):=by
 rw[auY]
 cases n with
 |ofNat m =>
  show Bool.casesOn (motive:=λ_=>D) (Nat.ble m (hiN k)) (.int k (k.wrap (.ofNat m))) (.int k (.ofNat m))=_;by_cases h:m<=hiN k
  .simp_all [ca,Sd]
  .rw[show Nat.ble m (hiN k)=false by grind [Nat.ble_eq]]
 |negSucc m =>
  show Bool.casesOn (motive:=λ_=>D) (Nat.ble (Nat.succ m) (loN k)) (.int k (k.wrap (.negSucc m))) (.int k (.negSucc m))=_;by_cases h:m+1<=loN k
  .rw[ca h,Sd]
   all_goals omega
  .rw[show Nat.ble (Nat.succ m) (loN k)=false by grind [Nat.ble_eq]]
theorem ap7 (b:Bool):Bool.casesOn (motive:=λ_=>Bool) b true false=!b:=by cases b<;>rfl
theorem rF (k:IntKind):pg k k=true:=by cases k<;>rfl
theorem auM (op:BinOp)(k:IntKind)(a b:Int):arI op op k a b=dw op (.d (.int k a)) (.d (.int k b)):=by
 cases op
 case add=>show some (AV.d (wq (aqO a b) k))=_;grind [alK,at5,dw,xa,rF,kG]
 case sub=>show some (AV.d (wq (are a b) k))=_;grind [alK,atJ,dw,xa,rF,kG]
 case mul=>show some (AV.d (wq (art a b) k))=_;grind [alK,auB,dw,xa,rF,kG]
 case eql=>show some (AV.d (.bool (ieq a b)))=_;grind [aox,dw,xa,rF,kG]
 case neq=>show some (AV.d (.bool (Bool.casesOn (motive:=λ_=>Bool) (ieq a b) true false)))=_;grind [ap7,aox,dw,xa,rF,kG]
 case lss=>show some (AV.d (.bool (Bool.casesOn (motive:=λ_=>Bool) (Zv b a) true false)))=_;grind [ap7,Zy,dw,xa,rF,kG]
 case leq=>show some (AV.d (.bool (Zv a b)))=_;grind [Zy,dw,xa,rF,kG]
 case gtr=>show some (AV.d (.bool (Bool.casesOn (motive:=λ_=>Bool) (Zv a b) true false)))=_;grind [ap7,Zy,dw,xa,rF,kG]
 case geq=>show some (AV.d (.bool (Zv b a)))=_;grind [Zy,dw,xa,rF,kG]
 all_goals rfl
theorem Uv (op:BinOp)(x y:AV):axh op x y=dw op x y:=by
 cases x<;>try rfl
 rename_i d
 cases d<;>try rfl
 rename_i k a
 cases y<;>try rfl
 rename_i e
 cases e<;>try rfl
 rename_i j b;show Bool.casesOn (motive:=λ_=>L_) (Nat.beq (knN k) (knN j)) (dw op (.d (.int k a)) (.d (.int j b))) (arI op op k a b)=_;rw[alQ]
 cases h:pg k j with
 |false=>rfl
 |true =>
  have:k=j:=by revert h;cases k<;>cases j<;>simp[pg]
  grind [auM]
def aaI (op:UnOp):AV->L_
 |.d (.int k n)=>match op with
  |.neg=>some (.int k (wr k (0-n)))
  |.xor=>match Mz .xor k (if k.signed then -1 else k.max) n with
   |some x=>some (.d x)
   |none=>none
  |_=>none
 |.d (.bool b)=>match op with
  |.not=>some (.bool !b)
  |_=>none
 |_=>none
def Jm (isMax:Bool):AV->AV->L_
 |.d (.int k a),.d (.int j b)=>match pg k j with
  |true=>match (if isMax then decide (a<b) else decide (b<a)) with
   |true=>some (.int k b)
   |false=>some (.int k a)
  |false=>none
 |_,_=>none
def Ha (isMax:Bool):AV->D_->L_
 |v,[]=>some v
 |v,x::r=>match Jm isMax v x with
  |some v=>Ha isMax v r
  |none=>none
def bQ:Nat:=4294967296
def gJ (v:AV)(top:Nat):J_ :=
 match v with
 |.d (.int _ (.ofNat n))=>match Nat.ble n top with
  |true=>some n
  |false=>none
 |_=>none
def Gp (lo:L_)(h m:Nat):Option (Nat×Nat×Nat) :=
 match lo with
 |none=>some (0,h,m)
 |some v=>match gJ v h with
  |some l=>some (l,h,m)
  |none=>none
def I4 (len:Nat)(lo hi mx:L_):Option (Nat×Nat×Nat) :=
 let m:J_:=match mx with
  |none=>some len
  |some v=>gJ v len
 match m with
 |none=>none
 |some m =>
  let h:J_:=match hi with
   |none=>match mx with
    |none=>some len
    |some _=>none
   |some v=>gJ v m
  match h with
  |none=>none
  |some h=>Gp lo h m
def Nh (m:Nat):F_->Bool
 |[]=>true
 |e::_=>Nat.beq e.length m
def okSl (h:ak)(m:Nat):AV->Bool
 |.sl id _ _=>match get h id with
  |some (.arr k _)=>Nat.beq k m
  |some (.cells _)=>Nat.beq m 1
  |_=>false
 |_=>true
def IY (m:Nat)(x:AV)(lo hi mx:L_):L_ :=
 match lenOf x with
 |none=>none
 |some len=>match I4 len lo hi mx with
  |none=>none
  |some (l,h,_)=>match x with
   |.d (.lst xs)=>match Nh m xs with
    |true=>some (.d (.lst (sub xs l (h-l))))
    |false=>none
   |.nl=>some .nl
   |.own false k xs=>match Nat.beq k m with
    |true=>match Nat.beq h len with
     |true=>some (.own false k (sub xs l (h-l)))
     |false=>some (.d (.lst (sub xs l (h-l))))
    |false=>none
   |.sl id off _=>some (.sl id (off+l) (h-l))
   |_=>none
def wl:AV->Bool
 |.agg _=>true
 |v=>bB v
def dM:D_->List (Nat×Nat×AV)->Option D_
 |cs,[]=>some cs
 |cs,(off,n,v)::r=>match Nat.beq v.cells.length n && wl v && Nat.ble (off+n) cs.length with
  |true=>dM (aF cs off v.cells) r
  |false=>none
def vw:AB_->D_->List (Nat×Nat×AV)
 |(a,b,_)::r,v::s=>(a,b,v)::vw r s
 |_,_=>[]
def tq:AB_->S_
 |[]=>[]
 |(_,_,x)::r=>x::tq r
def ji (m:Nat):D_->AD_
 |[]=>some []
 |v::r=>match Nat.beq v.cells.length m with
  |true=>match mP v.cells with
   |some e=>match ji m r with
    |some es=>some (e::es)
    |none=>none
   |none=>none
  |false=>none
def gM (n:Nat):F_->Bool
 |[]=>true
 |e::r=>match Nat.beq e.length n with
  |true=>gM n r
  |false=>false
def wD:F_->Option AF_
 |[]=>some []
 |[.int .u8 (.ofNat n)]::r=>match wD r with
  |some s=>some (n.toUInt8::s)
  |none=>none
 |_=>none
def KY:AF_->Nat->Nat->Int
 |[],_,_=>-1
 |b::l,c,i=>match Nat.beq b.toNat c with
  |true=>.ofNat i
  |false=>KY l c (i+1)
def indexByte (c:Int)(xs:F_)(i:Nat):Option Int :=
 match wD xs with
 |some s=>some (KY s (c.toNat % 256) i)
 |none=>none
structure dF where
 code:VC->St->I_
 call:FuncId->D_->HS->W_
def XW (v:AV):AV:=match ju v with
 |true=>nQ v
 |false=>match lenOf v with
  |some n=>.gl n
  |none=>.junk
def NU:AV->AV
 |.agg cs=>.agg (cs.map XW)
 |v=>XW v
def Px:AV->AV
 |.tup vs=>.tup (vs.map NU)
 |v=>NU v
def fh (r:dF)(f:FuncId)(args:D_)(h:ak):L_ :=
 match viewArgs h args with
 |none=>none
 |some ds=>match r.call f ds ⟨[],0⟩ with
  |none=>none
  |some (v,hs)=>match eY hs.heap v with
   |none=>none
   |some v=>match args.any ve with
    |false=>some v
    |true=>match iV v with
     |true=>some v
     |false=>some (Px v)
def yh:aT->C_->D_->Option aT
 |e,[],[]=>some e
 |e,i::is,v::vs=>yh (put e i v) is vs
 |_,_,_=>none
def wB (r:dF)(l:Nat)(args:D_)(hs:HS):W_ :=
 match get hs.heap l with
 |some (.loop snap params assign body false none) =>
  match yh snap params args with
  |none=>none
  |some e=>match r.code assign ⟨e,hs⟩ with
   |some (.normal,st)=>match get st.hs.heap l with
    |some (.loop snap params assign body2 false none) =>
     match r.code body ⟨st.env,⟨put st.hs.heap l (.loop snap params assign body2 true none),st.hs.next⟩⟩ with
     |none=>none
     |some (o,st)=>match get st.hs.heap l with
      |some (.loop snap params assign body true none) =>
       match o with
       |.normal=>some (.bool true,⟨put st.hs.heap l (.loop snap params assign body false none),st.hs.next⟩)
       |o=>some (.bool false,⟨put st.hs.heap l (.loop snap params assign body false (some o)),st.hs.next⟩)
      |_=>none
    |_=>none
   |_=>none
 |_=>none
def dD (r:dF)(f:AV)(args:D_)(hs:HS):W_ :=
 match f with
 |.fn g first caps=>r.call g (first++(args++caps)) hs
 |.yield l=>wB r l args hs
 |_=>none
def Jf (hs:HS)(o:Obj):Nat×HS:=(hs.next,⟨put hs.heap hs.next o,hs.next+1⟩)
def oO (hs:HS):AV->AV×HS
 |.own true m xs=>match Nat.beq m 0 with
  |true=>(.own true m xs,hs)
  |false=>(.sl hs.next 0 xs.length,⟨put hs.heap hs.next (.arr m xs),hs.next+1⟩)
 |v=>(v,hs)
def jB:AV->AV
 |.own _ m xs=>.own false m xs
 |v=>v
def tf:AV->AV
 |.agg cs=>.agg (cs.map jB)
 |v=>jB v
def firm (v:AV):AV:=AV.casesOn (motive_1:=λ_=>AV) v .junk (λx=>.d x) .nl (λ_ m xs=>.own false m xs) (λn=>.gl n) (λcs=>.agg (cs.map jB)) (λvs=>.tup (vs.map tf))
 .nilp (λa b=>.ptr a b) (λa b c=>.pel a b c) (λa b=>.pim a b) (λa b c=>.sl a b c) (λa b c=>.fn a b c) .nilf (λa=>.yield a)
def nE (hs:HS)(o:Nat):AV->AV×HS
 |.agg cs=>match cs[o]? with
  |some v=>(.agg (cs.set o (oO hs v).1),(oO hs v).2)
  |none=>(.agg cs,hs)
 |v=>oO hs v
def sf (hs:HS)(p:Nat×Nat):AV->AV×HS
 |.tup vs=>match vs[p.1]? with
  |some v=>(.tup (vs.set p.1 (nE hs p.2 v).1),(nE hs p.2 v).2)
  |none=>(.tup vs,hs)
 |v=>nE hs p.2 v
def dO:Q_->AV->HS->AV×HS
 |[],v,hs=>(v,hs)
 |p::r,v,hs=>dO r (sf hs p v).1 (sf hs p v).2
def Bm (h:ak):AV->AV×ak
 |.sl id off len=>match get h id with
  |some (.arr m xs)=>match Nat.ble (off+len) xs.length with
   |true=>(.own false m (sub xs off len),del h id)
   |false=>(.sl id off len,h)
  |_=>(.sl id off len,h)
 |v=>(v,h)
def xG:C_->D_->ak->D_×ak
 |[],cs,h=>(cs,h)
 |o::r,cs,h=>match cs[o]? with
  |some v=>xG r (cs.set o (Bm h v).1) (Bm h v).2
  |none=>xG r cs h
def dR (m:Nat)(h:ak)(a:AV)(ys:F_):AE_ :=
 match Nat.ble ys.length bQ with
 |false=>none
 |true=>match a with
  |.nl=>some ((match ys with|[]=>.nl|ys=>.own true m ys),h)
  |.own _ k xs=>match Nat.beq k m && Nat.ble (xs.length+ys.length) bQ with
   |true=>some (.own false m (xs++ys),h)
   |false=>none
  |.sl id off len=>match get h id with
   |some (.arr k xs)=>match Nat.beq k m && Nat.ble (off+len) xs.length && Nat.ble (len+ys.length) bQ with
    |true=>some (.own true m (sub xs off len++ys),del h id)
    |false=>none
   |_=>none
  |_=>none
def s9:AV->J_
 |.d (.int _ (.ofNat n))=>some n
 |_=>none
def UD (x:Rd)(st:St):K_ :=
 match rd st.env x with
 |some (v,e)=>some (v,⟨e,st.hs⟩)
 |none=>none
def lQ (c:Rd)(a:Rd)(b:Rd)(st:St):K_ :=
 match rd st.env c with
 |some (.d (.bool t),e)=>match rd e (match t with|true=>a|false=>b) with
  |some (v,e)=>some (v,⟨e,st.hs⟩)
  |none=>none
 |_=>none
def MF (zs:D_)(st:St):K_ :=
 some (.ptr st.hs.next 0,⟨st.env,(Jf st.hs (.cells zs)).2⟩)
def UH (x:Rd)(st:St):K_ :=
 match rd st.env x with
 |some (v,e)=>match v.cells.all bB with
  |true=>some (.ptr st.hs.next 0,⟨e,(Jf st.hs (.cells v.cells)).2⟩)
  |false=>none
 |none=>none
def Fa (zs:D_)(ps:AB_)(st:St):K_ :=
 match rdAll st.env (tq ps) with
 |some (vs,e)=>match dM zs (vw ps vs) with
  |some cs=>some (.agg cs,⟨e,st.hs⟩)
  |none=>none
 |none=>none
def Og (m:Nat)(ps:S_)(st:St):K_ :=
 match rdAll st.env ps with
 |some (vs,e)=>match ji m vs with
  |some xs=>some (.own true m xs,⟨e,st.hs⟩)
  |none=>none
 |none=>none
def Zz (m:Nat)(ps:S_)(st:St):K_ :=
 match rdAll st.env ps with
 |some (vs,e)=>match vs.all (λv=>Nat.beq v.cells.length m && v.cells.all bB) with
  |true=>some (.sl st.hs.next 0 vs.length,⟨e,(Jf st.hs (.cells (vs.flatMap AV.cells))).2⟩)
  |false=>none
 |none=>none
def Fz (n:J_)(take:Nat)(p:Rd)(st:St):K_ :=
 match rd st.env p with
 |some (v,e)=>match loadAt st.hs.heap n take v with
  |some (v,h)=>some (v,⟨e,⟨h,st.hs.next⟩⟩)
  |none=>none
 |none=>none
def amR (n:Nat)(p:Rd)(x:Rd)(st:St):K_ :=
 match rd st.env p with
 |some (p,e)=>match rd e x with
  |some (v,e)=>match storeAt st.hs.heap n p v with
   |some h=>some (.junk,⟨e,⟨h,st.hs.next⟩⟩)
   |none=>none
  |none=>none
 |none=>none
def IW (x:Rd)(st:St):K_ :=
 match rd st.env x with
 |some (v,e)=>match v with
  |.ptr ..|.pel ..|.pim ..|.fn ..|.yield ..=>some (v,⟨e,st.hs⟩)
  |_=>none
 |none=>none
def OE (op:BinOp)(x:Rd)(y:Rd)(st:St):K_ :=
 match rd st.env x with
 |some (a,e)=>match rd e y with
  |some (b,e)=>match axh op a b with
   |some v=>some (v,⟨e,st.hs⟩)
   |none=>none
  |none=>none
 |none=>none
def MD (neg:Bool)(x y:Rd)(st:St):K_ :=
 match rd st.env x with
 |some (a,e)=>match rd e y with
  |some (b,e)=>match a,b with
   |.d (.bool a),.d (.bool b)=>some (.bool (match neg with|true=>!(a == b)|false=>a == b),⟨e,st.hs⟩)
   |_,_=>none
  |none=>none
 |none=>none
def Nq (neg:Bool)(ks:Y_)(x y:Rd)(st:St):K_ :=
 match rd st.env x with
 |some (a,e)=>match rd e y with
  |some (b,e)=>match a,b with
   |.agg a,.agg b=>match bq ks a b with
    |some t=>some (.bool (match neg with|true=>!t|false=>t),⟨e,st.hs⟩)
    |none=>none
   |_,_=>none
  |none=>none
 |none=>none
def abf (op:UnOp)(x:Rd)(st:St):K_ :=
 match rd st.env x with
 |some (a,e)=>match aaI op a with
  |some v=>some (v,⟨e,st.hs⟩)
  |none=>none
 |none=>none
def JA (k:IntKind)(x:Rd)(st:St):K_ :=
 match rd st.env x with
 |some (.d (.int _ n),e)=>some (.int k (wr k n),⟨e,st.hs⟩)
 |_=>none
def M5 (x:Rd)(st:St):K_ :=
 match rd st.env x with
 |some (v,e)=>match elems st.hs.heap v with
  |some xs=>match wD xs with
   |some s=>some (.d (.str s),⟨e,st.hs⟩)
   |none=>none
  |none=>none
 |none=>none
def Jl (f:FuncId)(first:S_)(caps:S_)(st:St):K_ :=
 match rdAll st.env first with
 |some (a,e)=>match rdAll e caps with
  |some (c,e)=>some (.fn f (shareAll a) (shareAll c),⟨e,st.hs⟩)
  |none=>none
 |none=>none
def mS (z:V_)(len:Rd)(cap:Rd)(st:St):K_ :=
 match rd st.env len with
 |some (n,e)=>match rd e cap with
  |some (c,e)=>match gJ c bQ with
   |some c=>match gJ n c with
    |some n=>some (.own true z.length (List.replicate n z),⟨e,st.hs⟩)
    |none=>none
   |none=>none
  |none=>none
 |none=>none
def MB (m:Nat)(x:Rd)(lo:AA_)(hi:AA_)(mx:AA_)(st:St):K_ :=
 match rd st.env x with
 |some (v,e)=>match rdOpt e lo with
  |some (l,e)=>match rdOpt e hi with
   |some (h,e)=>match rdOpt e mx with
    |some (k,e)=>match okSl st.hs.heap m v with
     |true=>match IY m v l h k with
      |some v=>some (v,⟨e,st.hs⟩)
      |none=>none
     |false=>none
    |none=>none
   |none=>none
  |none=>none
 |none=>none
def T7 (hp:ak)(n id off:Nat)(lo hi mx:L_):L_ :=
 match get hp id with
 |some (.cells cs)=>match Nat.ble (off+n) cs.length with
  |true=>match I4 n lo hi mx with
   |some (l,h,_)=>some (.sl id (off+l) (h-l))
   |none=>none
  |false=>none
 |_=>none
def Uf (n:Nat)(x:Rd)(lo:AA_)(hi:AA_)(mx:AA_)(st:St):K_ :=
 match rd st.env x with
 |some (.ptr id off,e)=>match rdOpt e lo with
  |some (l,e)=>match rdOpt e hi with
   |some (h,e)=>match rdOpt e mx with
    |some (k,e)=>match T7 st.hs.heap n id off l h k with
     |some v=>some (v,⟨e,st.hs⟩)
     |none=>none
    |none=>none
   |none=>none
  |none=>none
 |_=>none
def abp (off:Nat)(p:Rd)(st:St):K_ :=
 match rd st.env p with
 |some (p,e)=>match gX off p with
  |some v=>some (v,⟨e,st.hs⟩)
  |none=>none
 |none=>none
def GN (n:J_)(cs:D_)(off:Nat):L_ :=
 match n with
 |none=>cs[off]?
 |some n=>match Nat.ble (off+n) cs.length with
  |true=>some (.agg (sub cs off n))
  |false=>none
def aet (agg:Bool)(n:Nat):J_ :=
 match agg with
 |true=>some n
 |false=>none
def OO (off:Nat)(n:J_)(x:Rd)(st:St):K_ :=
 match rd st.env x with
 |some (.agg cs,e)=>match GN n cs off with
  |some v=>some (v,⟨e,st.hs⟩)
  |none=>none
 |_=>none
def aeY (n:Nat)(x:Rd)(i:Rd)(st:St):K_ :=
 match rd st.env x with
 |some (v,e)=>match rd e i with
  |some (i,e)=>match s9 i with
   |some i=>match v with
    |.sl id off len=>match Nat.ble len i with
     |true=>none
     |false=>match get st.hs.heap id with
      |some (.arr m _)=>match Nat.beq m n with
       |true=>some (.pel id (off+i) 0,⟨e,st.hs⟩)
       |false=>none
      |some (.cells _)=>match Nat.beq n 1 with
       |true=>some (.ptr id (off+i),⟨e,st.hs⟩)
       |false=>none
      |_=>none
    |v=>match elems st.hs.heap v with
     |some xs=>match xs[i]? with
      |some x=>match Nat.beq x.length n with
       |true=>some (.pim x 0,⟨e,st.hs⟩)
       |false=>none
      |none=>none
     |none=>none
   |none=>none
  |none=>none
 |none=>none
def Mq (len:Nat)(n:Nat)(p:Rd)(i:Rd)(st:St):K_ :=
 match rd st.env p with
 |some (p,e)=>match rd e i with
  |some (i,e)=>match s9 i with
   |some i=>match Nat.ble len i with
    |true=>none
    |false=>match gX (i*n) p with
     |some v=>some (v,⟨e,st.hs⟩)
     |none=>none
   |none=>none
  |none=>none
 |none=>none
def Xc (len:Nat)(n:Nat)(agg:Bool)(x:Rd)(i:Rd)(st:St):K_ :=
 match rd st.env x with
 |some (.agg cs,e)=>match rd e i with
  |some (i,e)=>match s9 i with
   |some i=>match Nat.ble len i with
    |true=>none
    |false=>match GN (aet agg n) cs (i*n) with
     |some v=>some (v,⟨e,st.hs⟩)
     |none=>none
   |none=>none
  |none=>none
 |_=>none
def PT (x:Rd)(i:Rd)(st:St):K_ :=
 match rd st.env x with
 |some (.d (.str s),e)=>match rd e i with
  |some (i,e)=>match s9 i with
   |some i=>match s[i]? with
    |some b=>some (.int .u8 (.ofNat b.toNat),⟨e,st.hs⟩)
    |none=>none
   |none=>none
  |none=>none
 |_=>none
def aqw (h:ak)(v c:AV):L_ :=
 match c with
 |.d (.int .u8 n)=>match elems h v with
  |some xs=>match indexByte n xs 0 with
   |some r=>some (.int .i64 r)
   |none=>none
  |none=>none
 |_=>none
def aeJ (x:Rd)(c:Rd)(st:St):K_ :=
 match rd st.env x with
 |some (v,e)=>match rd e c with
  |some (c,e)=>match aqw st.hs.heap v c with
   |some r=>some (r,⟨e,st.hs⟩)
   |none=>none
  |none=>none
 |none=>none
def DH (j:Nat)(mv:Bool)(i:Nat)(st:St):K_ :=
 match get st.env j with
 |some (.tup vs)=>match vs[i]? with
  |some v=>match mv with
   |true=>some (v,⟨put st.env j (.tup (vs.set i .junk)),st.hs⟩)
   |false=>some (share v,st)
  |none=>none
 |_=>none
def TM (x:Rd)(st:St):K_ :=
 match rd st.env x with
 |some (v,e)=>match lenOf v with
  |some n=>some (.int .i64 (.ofNat n),⟨e,st.hs⟩)
  |none=>none
 |none=>none
def Pv (x:Rd)(st:St):K_ :=
 match rd st.env x with
 |some (.nl,e)=>some (.int .i64 (.ofNat 0),⟨e,st.hs⟩)
 |_=>none
def Io (m:Nat)(x:Rd)(y:Rd)(st:St):K_ :=
 match rd st.env x with
 |some (a,e)=>match rd e y with
  |some (b,e)=>match elems st.hs.heap b with
   |some ys=>match gM m ys with
    |true=>match dR m st.hs.heap a ys with
     |some (v,h)=>some (v,⟨e,⟨h,st.hs.next⟩⟩)
     |none=>none
    |false=>none
   |none=>none
  |none=>none
 |none=>none
def aes (z:V_)(x:Rd)(n:Rd)(st:St):K_ :=
 match rd st.env x with
 |some (a,e)=>match rd e n with
  |some (n,e)=>match gJ n bQ with
   |some n=>match dR z.length st.hs.heap a (List.replicate n z) with
    |some (v,h)=>some (v,⟨e,⟨h,st.hs.next⟩⟩)
    |none=>none
   |none=>none
  |none=>none
 |none=>none
def XC (m:Nat)(x:Rd)(y:Rd)(st:St):K_ :=
 match rd st.env x with
 |some (a,e)=>match rd e y with
  |some (b,e)=>match elems st.hs.heap b with
   |some ys=>match a with
    |.sl id off len=>match get st.hs.heap id with
     |some (.arr k xs)=>match gM m ys && Nat.beq k m && Nat.ble (off+len) xs.length with
      |true=>some (.int .i64 (.ofNat (min len ys.length)),⟨e,⟨put st.hs.heap id (.arr k (aF xs off (ys.take len))),st.hs.next⟩⟩)
      |false=>none
     |_=>none
    |_=>match lenOf a with
     |some 0=>some (.int .i64 (.ofNat 0),⟨e,st.hs⟩)
     |_=>none
   |none=>none
  |none=>none
 |none=>none
def Uz (z:V_)(x:Rd)(st:St):K_ :=
 match rd st.env x with
 |some (.sl id off len,e)=>match get st.hs.heap id with
  |some (.arr k xs)=>match Nat.beq k z.length && Nat.ble (off+len) xs.length with
   |true=>some (.tup [],⟨e,⟨put st.hs.heap id (.arr k (aF xs off (List.replicate len z))),st.hs.next⟩⟩)
   |false=>none
  |_=>none
 |_=>none
def Ce (isMax:Bool)(xs:S_)(st:St):K_ :=
 match rdAll st.env xs with
 |some (.d (.int k n)::vs,e)=>match Ha isMax (.d (.int k n)) vs with
  |some v=>some (v,⟨e,st.hs⟩)
  |none=>none
 |_=>none
def G5 (r:dF)(f:FuncId)(args:S_)(st:St):K_ :=
 match rdAll st.env args with
 |some (vs,e)=>match fh r f vs st.hs.heap with
  |some v=>some (v,⟨e,st.hs⟩)
  |none=>none
 |none=>none
def Fu (r:dF)(f:FuncId)(args:S_)(st:St):K_ :=
 match rdAll st.env args with
 |some (vs,e)=>match r.call f vs st.hs with
  |some (v,hs)=>some (v,⟨e,hs⟩)
  |none=>none
 |none=>none
def FO (r:dF)(f:Rd)(args:S_)(st:St):K_ :=
 match rd st.env f with
 |some (fv,e)=>match rdAll e args with
  |some (vs,e)=>match dD r fv vs st.hs with
   |some (v,hs)=>some (v,⟨e,hs⟩)
   |none=>none
  |none=>none
 |none=>none
def amG (st:St):K_ :=
 none
def agk (is:C_)(st:St):K_ :=
 some (.tup [],⟨is.foldl del st.env,st.hs⟩)
def delAll:ak->C_->ak
 |h,[]=>h
 |h,i::r=>delAll (del h i) r
def JJ:D_->C_
 |[]=>[]
 |.ptr id _::r=>id::JJ r
 |_::r=>JJ r
def Zk (i:Nat)(st:St):K_ :=
 match get st.env i with
 |some (.ptr id _)=>some (.tup [],⟨del st.env i,⟨del st.hs.heap id,st.hs.next⟩⟩)
 |some (.fn _ _ caps)=>some (.tup [],⟨del st.env i,⟨delAll st.hs.heap (JJ caps),st.hs.next⟩⟩)
 |_=>some (.tup [],st)
def apY (i:Nat)(m:Nat)(st:St):K_ :=
 match get st.env i with
 |some .nl=>some (.tup [],⟨put st.env i (.own false m []),st.hs⟩)
 |_=>some (.tup [],st)
def YH (i:Nat)(st:St):K_ :=
 match get st.env i with
 |some v=>some (.tup [],⟨put st.env i (Bm st.hs.heap v).1,⟨(Bm st.hs.heap v).2,st.hs.next⟩⟩)
 |none=>none
def ag0 (i:Nat)(offs:C_)(st:St):K_ :=
 match get st.env i with
 |some (.agg cs)=>some (.tup [],⟨put st.env i (.agg (xG offs cs st.hs.heap).1),⟨(xG offs cs st.hs.heap).2,st.hs.next⟩⟩)
 |_=>none
def di (o:pV):dF->St->K_ :=
 pV.casesOn (motive:=λ_=>dF->St->K_) o
  (λx=>λ_ st=>UD x st)
  (λc a b=>λ_ st=>lQ c a b st)
  (λzs=>λ_ st=>MF zs st)
  (λx=>λ_ st=>UH x st)
  (λzs ps=>λ_ st=>Fa zs ps st)
  (λm ps=>λ_ st=>Og m ps st)
  (λm ps=>λ_ st=>Zz m ps st)
  (λn take p=>λ_ st=>Fz n take p st)
  (λn p x=>λ_ st=>amR n p x st)
  (λx=>λ_ st=>IW x st)
  (λop x y=>λ_ st=>OE op x y st)
  (λneg x y=>λ_ st=>MD neg x y st)
  (λneg ks x y=>λ_ st=>Nq neg ks x y st)
  (λop x=>λ_ st=>abf op x st)
  (λk x=>λ_ st=>JA k x st)
  (λx=>λ_ st=>M5 x st)
  (λf first caps=>λ_ st=>Jl f first caps st)
  (λz len cap=>λ_ st=>mS z len cap st)
  (λm x lo hi mx=>λ_ st=>MB m x lo hi mx st)
  (λn x lo hi mx=>λ_ st=>Uf n x lo hi mx st)
  (λoff p=>λ_ st=>abp off p st)
  (λoff n x=>λ_ st=>OO off n x st)
  (λn x i=>λ_ st=>aeY n x i st)
  (λlen n p i=>λ_ st=>Mq len n p i st)
  (λlen n agg x i=>λ_ st=>Xc len n agg x i st)
  (λx i=>λ_ st=>PT x i st)
  (λx c=>λ_ st=>aeJ x c st)
  (λj mv i=>λ_ st=>DH j mv i st)
  (λx=>λ_ st=>TM x st)
  (λx=>λ_ st=>Pv x st)
  (λm x y=>λ_ st=>Io m x y st)
  (λz x n=>λ_ st=>aes z x n st)
  (λm x y=>λ_ st=>XC m x y st)
  (λz x=>λ_ st=>Uz z x st)
  (λisMax xs=>λ_ st=>Ce isMax xs st)
  (λf args=>λr st=>G5 r f args st)
  (λf args=>λr st=>Fu r f args st)
  (λf args=>λr st=>FO r f args st)
  (λ_ st=>amG st)
  (λis=>λ_ st=>agk is st)
  (λi=>λ_ st=>Zk i st)
  (λi m=>λ_ st=>apY i m st)
  (λi=>λ_ st=>YH i st)
  (λi offs=>λ_ st=>ag0 i offs st)
def cM (dst:J_)(v:AV)(st:St):St :=
 match dst with
 |some d=>⟨put st.env d v,st.hs⟩
 |none=>st
def gy (r:dF)(i:VI)(st:St):Z_ :=
 match di i.op r st with
 |some (v,st)=>match i.th with
  |[]=>some (cM i.dst (firm v) st)
  |th=>some (cM i.dst (firm (dO th v st.hs).1) ⟨st.env,(dO th v st.hs).2⟩)
 |none=>none
def cV (r:dF)(i:VI)(st:St):Z_ :=
 match i.guard with
 |none=>gy r i st
 |some (s,want)=>match get st.env s with
  |some (.d (.bool b))=>match b == want with
   |true=>gy r i st
   |false=>some (cM i.dst (.tup []) st)
  |some (.tup [])=>some (cM i.dst (.tup []) st)
  |_=>none
def lh (r:dF):R_->St->Z_
 |[],st=>some st
 |i::l,st=>match cV r i st with
  |some st=>lh r l st
  |none=>none
def xF (r:dF)(vs:R_):C_->St->Z_
 |[],st=>some st
 |i::l,st=>match vs[i]? with
  |none=>none
  |some v=>match cV r v st with
   |none=>none
   |some st=>xF r vs l st
def eI (k:Nat):C_->Bool
 |[]=>false
 |a::r=>match Nat.beq a k with
  |true=>true
  |false=>eI k r
mutual
def cN:AV->C_
 |.ptr id _=>[id]
 |.pel id _ _=>[id]
 |.sl id _ _=>[id]
 |.fn _ first caps=>idsAll first++idsAll caps
 |.agg cs=>idsAll cs
 |.tup vs=>idsAll vs
 |_=>[]
def idsAll:D_->C_
 |[]=>[]
 |v::r=>cN v++idsAll r
end
def Tx (e:aT):C_->C_
 |[]=>[]
 |s::r=>match get e s with
  |some v=>cN v++Tx e r
  |none=>Tx e r
def dL:C_->ak->ak
 |[],_=>[]
 |i::r,h=>match get h i with
  |some o=>put (dL r h) i o
  |none=>dL r h
mutual
def Qo:D->D->Bool
 |.int k n,.int j m=>pg k j && decide (n=m)
 |.bool a,.bool b=>a == b
 |.str s,.str t=>s == t
 |.lst xs,.lst ys=>eqDss xs ys
 |_,_=>false
def SN:V_->V_->Bool
 |[],[]=>true
 |a::r,b::s=>Qo a b && SN r s
 |_,_=>false
def eqDss:F_->F_->Bool
 |[],[]=>true
 |a::r,b::s=>SN a b && eqDss r s
 |_,_=>false
end
mutual
def jb:AV->AV->Bool
 |.junk,.junk=>true
 |.d x,.d y=>Qo x y
 |.nl,.nl=>true
 |.own p m xs,.own q n ys=>p == q && Nat.beq m n && eqDss xs ys
 |.gl n,.gl m=>Nat.beq n m
 |.agg a,.agg b=>eqAVs a b
 |.tup a,.tup b=>eqAVs a b
 |.nilp,.nilp=>true
 |.ptr a b,.ptr c d=>Nat.beq a c && Nat.beq b d
 |.pel a b c,.pel d e f=>Nat.beq a d && Nat.beq b e && Nat.beq c f
 |.pim a b,.pim c d=>SN a c && Nat.beq b d
 |.sl a b c,.sl d e f=>Nat.beq a d && Nat.beq b e && Nat.beq c f
 |.fn f a c,.fn g b d=>Nat.beq f g && eqAVs a b && eqAVs c d
 |.nilf,.nilf=>true
 |.yield a,.yield b=>Nat.beq a b
 |_,_=>false
def eqAVs:D_->D_->Bool
 |[],[]=>true
 |a::r,b::s=>jb a b && eqAVs r s
 |_,_=>false
end
def eqO:Obj->Obj->Bool
 |.cells a,.cells b=>eqAVs a b
 |.arr m xs,.arr n ys=>Nat.beq m n && eqDss xs ys
 |_,_=>false
def dt:C_->ak->ak->Bool
 |[],_,_=>true
 |i::r,h,h'=>(match get h i with
  |some o=>(match get h' i with|some o'=>eqO o o'|none=>false)
  |none=>true) && dt r h h'
inductive NK where
 |call|take|read
def uU:pV->NK
 |.calli ..|.callv ..|.st ..=>.call
 |.ld none 2 _=>.take
 |_=>.read
def L3:AV->Bool
 |.own false _ _=>true
 |.nl=>true
 |_=>false
def azE:Rd->C_
 |.s i=>[i]
 |.m i=>[i]
 |.c _=>[]
def SF:S_->C_
 |[]=>[]
 |x::r=>azE x++SF r
def TI:pV->S_
 |.ld _ _ p=>[p]
 |.ia _ x _=>[x]
 |.slice _ x _ _ _=>[x]
 |.toStr x=>[x]
 |.call _ args=>args
 |_=>[]
def oR (v:VI)(e:aT):C_:=Tx e (SF (TI v.op))
def ya (r:dF)(F:C_)(v:VI)(st:St):Z_ :=
 match uU v.op with
 |.call=>match cV r v st with
  |some st1=>match dt F st.hs.heap st1.hs.heap with
   |true=>some st1
   |false=>none
  |none=>none
 |.take=>match cV r v st with
  |some st1=>match v.dst with
   |some d=>match get st1.env d with
    |some a=>match L3 a with
     |true=>some st1
     |false=>none
    |none=>none
   |none=>none
  |none=>none
 |.read=>match cV r v ⟨st.env,⟨dL (oR v st.env) st.hs.heap,st.hs.next⟩⟩ with
  |some st1=>some ⟨st1.env,st.hs⟩
  |none=>none
def bY (r:dF)(a:Bool)(F:C_)(v:VI)(st:St):Z_ :=
 match a with
 |false=>cV r v st
 |true=>ya r F v st
def ke (a:Bool)(v:VI)(e:aT)(F:C_):C_ :=
 match a with
 |false=>F
 |true=>match uU v.op with
  |.read=>oR v e++F
  |_=>F
def fP (r:dF)(nr:C_)(vs:R_):C_->C_->St->Z_
 |[],_,st=>some st
 |i::l,F,st=>match vs[i]? with
  |none=>none
  |some v=>match bY r (eI i nr) F v st with
   |none=>none
   |some st1=>fP r nr vs l (ke (eI i nr) v st.env F) st1
def xr:VC->Nat->Option VC
 |.seq a b,l=>match xr a l with
  |some c=>some (.seq c b)
  |none=>xr b l
 |.label k,l=>match Nat.beq k l with
  |true=>some .skip
  |false=>none
 |_,_=>none
def TL (r:dF)(ops:R_)(st:St):I_ :=
 match lh r ops st with
 |some st=>some (.normal,st)
 |none=>none
def BH:Rd->Bool
 |.m _=>false
 |_=>true
def iI (v:VI):J_ :=
 match v.op,v.guard,v.th with
 |.alloc _,none,[]=>v.dst
 |.mkslice _ l c,none,_=>match BH l && BH c with
  |true=>v.dst
  |false=>none
 |_,_,_=>none
def tz (e:aT):R_->Bool
 |[]=>true
 |v::r=>(match iI v with
  |some d=>(match get e d with
   |none=>true
   |some _=>false)
  |none=>true) && tz e r
def Ua:Nat->C_->R_->Bool
 |_,[],[]=>true
 |i,p::r,_::vs=>match Nat.beq p i with
  |true=>Ua (i+1) r vs
  |false=>false
 |_,_,_=>false
def apM (r:dF)(nr:C_)(ops:R_)(perm:C_)(st:St):Z_ :=
 match nr with
 |[]=>match Ua 0 perm ops with
  |true=>lh r ops st
  |false=>fP r [] ops perm [] st
 |a::n=>fP r (a::n) ops perm [] st
def aeg {r:dF}{vs:R_}:∀(perm:C_) (l:R_) (i:Nat) (F:C_) (st:St),vs.drop i=l->Ua i perm l=true->fP r [] vs perm F st=lh r l st
 |[],[],_,_,_,_,_=>rfl
 |[],_::_,_,_,_,_,h=>by simp[Ua]at h
 |_::_,[],_,_,_,_,h=>by simp[Ua]at h
 |p::perm,v::l,i,F,st,hd,h=>by
  simp only[Ua]at h;split at h
  .rename_i hp;rw[aC]at hp;subst hp;have hv:vs[p]?=some v:=by
    have:=aY (λl=>l[0]?) hd
    grind
   have hd':vs.drop (p+1)=l:=by
    have:=aY (λl=>l.drop 1) hd
    grind [List.drop_drop]
   simp only[fP,hv,bY,eI,lh]
   cases cV r v st with
   |none=>rfl
   |some st1=>exact aeg perm l (p+1) _ st1 hd' h
  simp_all
def MZ {r:dF}{nr:C_}{ops:R_}{perm:C_}{st:St}:apM r nr ops perm st=fP r nr ops perm [] st:=by
 unfold apM;split
 .split
  .rename_i h;exact(aeg perm ops 0 [] st rfl h).symm
  .rfl
 .rfl
def Nk (r:dF)(perm:C_)(nr:C_)(ops:R_)(st:St):I_ :=
 match tz st.env ops with
 |true=>(match apM r nr ops perm st with
  |some st=>some (.normal,st)
  |none=>none)
 |false=>none
def P7 (r:dF)(a:VC)(b:VC)(st:St):I_ :=
 match r.code a st with
 |some (.normal,st)=>r.code b st
 |x=>x
def Ts (r:dF)(c:Rd)(a:VC)(b:VC)(st:St):I_ :=
 match rd st.env c with
 |some (.d (.bool true),e)=>r.code a ⟨e,st.hs⟩
 |some (.d (.bool false),e)=>r.code b ⟨e,st.hs⟩
 |_=>none
def M9 (r:dF)(id:Nat)(a:VC)(st:St):I_ :=
 match r.code a st with
 |some (.exit j,st)=>match Nat.beq j id with
  |true=>some (.normal,st)
  |false=>some (.exit j,st)
 |x=>x
def SC (r:dF)(a:VC)(st:St):I_ :=
 match r.code a st with
 |some (.normal,st)=>r.code (.loop a) st
 |x=>x
def Fy (r:dF)(f:Rd)(params:C_)(assign:VC)(body:VC)(st:St):I_ :=
 match rd st.env f with
 |some (.fn g first caps,e) =>
  match r.call g (first++([.yield st.hs.next]++caps)) ⟨put st.hs.heap st.hs.next (.loop (e.map λkv=>(kv.1,share kv.2)) params assign body false none),st.hs.next+1⟩ with
  |some (_,hs)=>match get hs.heap st.hs.next with
   |some (.loop _ _ _ _ false pend)=>match pend with
    |none=>some (.normal,⟨e,⟨del hs.heap st.hs.next,hs.next⟩⟩)
    |some o=>some (o,⟨e,⟨del hs.heap st.hs.next,hs.next⟩⟩)
   |_=>none
  |none=>none
 |_=>none
def avW (r:dF)(a:VC)(st:St):I_ :=
 r.code (.inScope a a) st
def K7 (r:dF)(a:VC)(cur:VC)(st:St):I_ :=
 match r.code cur st with
 |some (.goto l,st)=>match xr a l with
  |some rest=>r.code (.inScope a rest) st
  |none=>some (.goto l,st)
 |x=>x
def Uj (m:Nat)(st:St):I_ :=
 match get st.env 0 with
 |some v=>match elems st.hs.heap v with
  |some xs=>match gM m xs && Nat.ble xs.length bQ with
   |true=>some (.ret,⟨[(2,.own true m xs)],st.hs⟩)
   |false=>none
  |none=>none
 |none=>none
def RU (r:dF)(i d f:Nat)(a:VC)(st:St):I_ :=
 match get st.env i with
 |some (.ptr id off)=>match r.code a ⟨put st.env d (.ptr id off),st.hs⟩ with
  |some (.normal,st1)=>match r.call f [.ptr id off] st1.hs with
   |some (_,hs)=>some (.ret,⟨st1.env,hs⟩)
   |none=>none
  |some (.ret,st1)=>match r.call f [.ptr id off] st1.hs with
   |some (_,hs)=>some (.ret,⟨st1.env,hs⟩)
   |none=>none
  |_=>none
 |_=>none
def de (c:VC):dF->St->I_ :=
 VC.casesOn (motive:=λ_=>dF->St->I_) c
  (λ_ st=>some (.normal,st))
  (λ_ ops=>λr st=>TL r ops st)
  (λperm _ nr ops=>λr st=>Nk r perm nr ops st)
  (λa b=>λr st=>P7 r a b st)
  (λc a b=>λr st=>Ts r c a b st)
  (λid a=>λr st=>M9 r id a st)
  (λa=>λr st=>SC r a st)
  (λf params assign body=>λr st=>Fy r f params assign body st)
  (λid=>λ_ st=>some (.exit id,st))
  (λa=>λr st=>avW r a st)
  (λa cur=>λr st=>K7 r a cur st)
  (λ_=>λ_ st=>some (.normal,st))
  (λl=>λ_ st=>some (.goto l,st))
  (λ_ st=>some (.ret,st))
  (λm=>λ_ st=>Uj m st)
  (λi d f a=>λr st=>RU r i d f a st)
def fO (st:St):AH_->Option (D_×St)
 |[]=>some ([],st)
 |.tmp t::r=>match get st.env t with
  |some v=>match fO ⟨del st.env t,st.hs⟩ r with
   |some (vs,st)=>some (v::vs,st)
   |none=>none
  |none=>none
 |.cell t n::r=>match get st.env t with
  |some (.ptr id 0)=>match loadAt st.hs.heap n 1 (.ptr id 0) with
   |some (v,h)=>match fO ⟨del st.env t,⟨del h id,st.hs.next⟩⟩ r with
    |some (vs,st)=>some (v::vs,st)
    |none=>none
   |none=>none
  |_=>none
def kK:Nat->D_->aT
 |_,[]=>[]
 |i,v::r=>put (kK (i+1) r) i v
def Hl (fn:aj)(st:St):W_ :=
 match fO st fn.results with
 |some ([v],st)=>some (v,st.hs)
 |some (vs,st)=>some (.tup vs,st.hs)
 |none=>none
def xq (P:Nat->X_)(r:dF)(f:FuncId)(args:D_)(hs:HS):W_ :=
 match P f with
 |none=>none
 |some fn=>match Nat.beq args.length fn.nparams with
  |false=>none
  |true=>match de fn.body r ⟨kK 0 args,hs⟩ with
   |some (.normal,st)=>Hl fn st
   |some (.ret,st)=>Hl fn st
   |_=>none
def run (P:Nat->X_):Nat->dF
 |0=>⟨λ_ _=>none,λ_ _ _=>none⟩
 |n+1=>⟨λc st=>de c (run P n) st,λf a h=>xq P (run P n) f a h⟩
inductive T where
 |leaf
 |node (k:Nat) (v:aj) (a b:T)
def T.look:T->Nat->X_
 |.leaf,_=>none
 |.node k v a b,i=>match Nat.beq k i with
  |true=>some v
  |false=>match Nat.ble i k with
   |true=>a.look i
   |false=>b.look i
abbrev af:=@Bool.and_eq_true
abbrev aD:=@List.mem_cons
abbrev cZ:=@Bool.or_eq_true
abbrev aq:=@Bool.false_eq_true
abbrev cH:=@Bool.not_eq_true'
def okD:D->Value->Bool
 |.int k n,.int j m=>pg k j && decide (n=m)
 |.bool a,.bool b=>a == b
 |.str s,.string t=>s == t.data.toList
 |.lst [],.slice none 0 0=>true
 |_,_=>false
def Sr:V_->M_->Bool
 |[],[]=>true
 |d::r,v::s=>okD d v && Sr r s
 |_,_=>false
def NZ:AV->Value->Bool
 |.d (.lst _),_=>false
 |.d x,v=>okD x v
 |.nl,.slice none 0 0=>true
 |.nilp,.pointer none=>true
 |.nilf,.nilFunc=>true
 |_,_=>false
def pP:D_->M_->Bool
 |[],[]=>true
 |d::r,v::s=>NZ d v && pP r s
 |_,_=>false
def aa3:AV->Value->Bool
 |.agg cs,.agg vs=>pP cs vs.toList
 |v,x=>NZ v x
def cI:Rd->Operand->Bool
 |.s i,.tmp t=>Nat.beq i t
 |.m i,.tmp t=>Nat.beq i t
 |.c v,.const x=>aa3 v x
 |.c (.fn f [] []),.func g=>Nat.beq f g
 |_,_=>false
def ep:S_->List Operand->Bool
 |[],[]=>true
 |r::l,o::s=>cI r o && ep l s
 |_,_=>false
def D9:AA_->Option Operand->Bool
 |none,none=>true
 |some r,some o=>cI r o
 |_,_=>false
section
variable (P:Program)
def xE (t:TypeId)(n:Nat):Bool:=match P.info? t with
 |some i=>Nat.beq i.size n
 |none=>false
def DM (t:TypeId):Bool:=match P.underlying t with
 |some (.struct _)=>true
 |some (.array _ _)=>true
 |_=>false
def KO (t:TypeId):Bool:=match P.underlying t with
 |some (.struct _)=>false
 |some (.array _ _)=>false
 |some _=>true
 |none=>false
def rU (t:TypeId):J_->Bool
 |none=>KO P t
 |some n=>DM P t && xE P t n
def iK (t:TypeId)(m:Nat):Bool:=match P.underlying t with
 |some (.slice e)=>xE P e m && Nat.blt 0 m && Nat.ble (P.bytesOf e) 4096
 |_=>false
def anh (t:TypeId)(zs:V_):Bool:=match P.info? t with
 |some i=>match i.zero with
  |some z=>Sr zs z.cells.toList
  |none=>false
 |none=>false
def DR (t:TypeId)(zs:V_):Bool:=match P.underlying t with
 |some (.slice e)=>anh P e zs
 |_=>false
def nu (t:TypeId)(m:Nat):Bool:=match P.underlying t with
 |some (.slice e)=>match P.info? e with
  |some i=>match i.zero with
   |some z=>Nat.beq z.cells.size m
   |none=>false
  |none=>false
 |_=>false
def NA (t:TypeId):Bool:=match P.underlying t with
 |some .string=>true
 |_=>false
def K3 (t:TypeId):Bool:=match P.underlying t with
 |some (.int _)=>true
 |_=>false
def MW (t:TypeId):Bool:=match P.underlying t with
 |some .bool=>true
 |_=>false
def ajJ (t:TypeId):Bool:=match P.underlying t with
 |some (.slice e)=>(match P.underlying e with
  |some (.int .u8)=>true
  |_=>false)
 |_=>false
def an1 (f:FuncId):Bool:=match P.funcs[f]? with
 |some fn=>fn.name == "internal/bytealg.IndexByte" && fn.origin == "" && fn.body.isNone
 |none=>false
def JY:Y_->List Field->Nat->Bool
 |[],[],_=>true
 |k::ks,f::r,n=>Nat.beq f.offset n && (f.name != "_") && (match k with|true=>K3 P f.type|false=>MW P f.type) && KO P f.type && JY ks r (n+1)
 |_,_,_=>false
def Mo:Y_->List Field->Nat->Bool
 |[],[],_=>true
 |_::_,[],_=>false
 |ks,f::r,n=>Nat.beq f.offset n && (f.name != "_") && (match P.underlying f.type with
  |some (.struct fs)=>Nat.ble fs.size ks.length && JY P (ks.take fs.size) fs.toList 0 && !(P.stoodInHeld f.type) && xE P f.type fs.size && Mo (ks.drop fs.size) r (n+fs.size)
  |_=>match ks with
   |k::ks=>(match k with|true=>K3 P f.type|false=>MW P f.type) && KO P f.type && Mo ks r (n+1)
   |[]=>false)
def BU (t:TypeId)(ks:Y_):Bool:=match P.underlying t with
 |some (.struct fs)=>Mo P ks fs.toList 0 && !(P.stoodInHeld t) && !(P.eqGuardType P.depth t)
 |_=>false
def apf (t:TypeId)(k:IntKind):Bool:=match P.underlying t with
 |some (.int j)=>pg j k
 |_=>false
def TX (t:TypeId)(len n:Nat):Bool:=match P.underlying t with
 |some (.array l e)=>Nat.beq l len && xE P e n && Nat.blt 0 n
 |_=>false
def ajr (t:TypeId)(f off:Nat):Bool:=match P.underlying t with
 |some (.struct fs)=>match fs[f]? with
  |some x=>Nat.beq x.offset off && (match P.info? x.type with|some i=>Nat.blt 0 i.size|none=>false)
  |none=>false
 |_=>false
def Vr (t:TypeId)(f off:Nat)(n:J_):Bool:=match P.underlying t with
 |some (.struct fs)=>match fs[f]? with
  |some x=>Nat.beq x.offset off && rU P x.type n
  |none=>false
 |_=>false
def XP (t:TypeId)(len n:Nat)(agg:Bool):Bool:=match P.underlying t with
 |some (.array l e)=>Nat.beq l len && xE P e n && (match agg with|true=>DM P e|false=>KO P e)
 |_=>false
def nz (places:Nat->BG_):AB_->List (Nat×Operand)->Bool
 |[],[]=>true
 |(off,n,r)::l,(i,o)::s=>(match places i with|some (a,b)=>Nat.beq a off && Nat.beq b n|none=>false) && cI r o && nz places l s
 |_,_=>false
def JQ (fs:Array Field)(i:Nat):BG_:=match fs[i]? with
 |some f=>match P.info? f.type with
  |some t=>some (f.offset,t.size)
  |none=>none
 |none=>none
def abi (fs:List Field):Bool:=fs.all λf=>(P.info? f.type).isSome
def aho (t:TypeId)(zs:D_)(ps:AB_)(parts:List (Nat×Operand)):Bool :=
 (match P.info? t with
  |some i=>match i.zero with
   |some z=>pP zs z.cells.toList
   |none=>false
  |none=>false) &&
 match P.underlying t with
 |some (.struct fs)=>abi P fs.toList && nz (JQ P fs) ps parts
 |some (.array _ e)=>match P.info? e with
  |some i=>nz (λk=>some (k*i.size,i.size)) ps parts
  |none=>false
 |_=>false
def fY:Nat->S_->List (Nat×Operand)->Bool
 |_,[],[]=>true
 |k,r::l,(i,o)::s=>Nat.beq i k && cI r o && fY (k+1) l s
 |_,_,_=>false
def Cc:Callee->Option FuncId
 |.value (.func f)=>some f
 |_=>none
def rB:Callee->Option Builtin
 |.builtin b=>some b
 |_=>none
def abt (a b:BinOp):Bool:=decide (a=b)
def axW (a b:UnOp):Bool:=decide (a=b)
def Qi (a b:Option Builtin):Bool:=decide (a=b)
def um (c:Call):TypeId:=c.argTypes.getD 0 0
def TV (c:Call):Bool:=Nat.beq c.argTypes.size 2
def bw (v:pV)(o:Op):Bool :=
 match v with
 |.mov x=>(match o with
  |.move y=>cI x y
  |.assign y=>cI x y
  |.call c=>Qi (rB c.callee) (some .len) && Nat.blt 0 c.args.size && Nat.blt 0 c.argTypes.size && (match x with
   |.c (.d (.int .i64 n))=>(match P.underlying (um c) with
    |some (.array l _)=>decide (n=(l:Int))
    |_=>false)
   |_=>false)
  |_=>false)
 |.pick c a b=>(match o with
  |.pick c' a' b'=>cI c c' && cI a a' && cI b b'
  |_=>false)
 |.alloc zs=>(match o with
  |.alloc e=>(match P.info? e with
   |some i=>(match i.zero with
    |some z=>pP zs z.cells.toList
    |none=>false)
   |none=>false)
  |_=>false)
 |.box x=>(match o with
  |.box _ y=>cI x y
  |_=>false)
 |.build zs ps=>(match o with
  |.build t parts=>aho P t zs ps parts.toList
  |_=>false)
 |.mks m ps=>(match o with
  |.buildSlice t len parts=>iK P t m && nu P t m && Nat.beq len ps.length && Nat.ble (len*m) 16777216 && fY 0 ps parts.toList
  |_=>false)
 |.mksv m ps=>(match o with
  |.buildSlice t len parts=>Nat.beq m 1 && iK P t m && nu P t m && Nat.beq len ps.length && Nat.ble (len*m) 16777216 && Nat.blt 0 len && fY 0 ps parts.toList
  |_=>false)
 |.ld n _ p=>(match o with
  |.load t a=>rU P t n && cI p a
  |_=>false)
 |.st n p x=>(match o with
  |.store t a y=>xE P t n && cI p a && cI x y
  |_=>false)
 |.nilck x=>(match o with
  |.nilCheck y=>cI x y
  |_=>false)
 |.bin op x y=>(match o with
  |.binOp op' _ x' y' _=>abt op op' && cI x x' && cI y y'
  |_=>false)
 |.binb neg x y=>(match o with
  |.binOp op' t x' y' _=>abt (match neg with|true=>.neq|false=>.eql) op' && MW P t && cI x x' && cI y y'
  |_=>false)
 |.un op x=>(match o with
  |.unOp op' _ x'=>axW op op' && cI x x'
  |_=>false)
 |.conv k x=>(match o with
  |.convert src dst x'=>apf P dst k && K3 P src && cI x x'
  |_=>false)
 |.toStr x=>(match o with
  |.convert src dst x'=>NA P dst && ajJ P src && cI x x'
  |_=>false)
 |.bina neg ks x y=>(match o with
  |.binOp op' t x' y' _=>abt (match neg with|true=>.neq|false=>.eql) op' && BU P t ks && cI x x' && cI y y'
  |_=>false)
 |.mkfn f first caps=>(match o with
  |.makeFunc (.func g) first' caps'=>Nat.beq f g && ep first first'.toList && ep caps caps'.toList
  |_=>false)
 |.mkslice z len cap=>(match o with
  |.makeSlice t l c=>iK P t z.length && DR P t z && cI len l && cI cap c
  |_=>false)
 |.slice m x lo hi mx=>(match o with
  |.slice t y l h k=>iK P t m && cI x y && D9 lo l && D9 hi h && D9 mx k
  |_=>false)
 |.slarr n x lo hi mx=>(match o with
  |.slice t y l h k=>TX P t n 1 && cI x y && D9 lo l && D9 hi h && D9 mx k
  |_=>false)
 |.fa off p=>(match o with
  |.fieldAddr t y f=>ajr P t f off && cI p y
  |_=>false)
 |.fld off n x=>(match o with
  |.field t y f=>Vr P t f off n && cI x y
  |_=>false)
 |.ia n x i=>(match o with
  |.indexAddr t y j=>iK P t n && cI x y && cI i j
  |_=>false)
 |.iarr len n p i=>(match o with
  |.indexAddr t y j=>TX P t len n && cI p y && cI i j
  |_=>false)
 |.ix len n agg x i=>(match o with
  |.index t y j=>XP P t len n agg && cI x y && cI i j
  |_=>false)
 |.ixs x i=>(match o with
  |.index t y j=>NA P t && cI x y && cI i j
  |_=>false)
 |.ext j _ i=>(match o with
  |.extract (.tmp t) k=>Nat.beq j t && Nat.beq i k
  |_=>false)
 |.len x=>(match o with
  |.call c=>Qi (rB c.callee) (some .len) && Nat.blt 0 c.argTypes.size && (match P.underlying (um c) with|some (.slice _)=>true|_=>false) && ep [x] c.args.toList
  |_=>false)
 |.cap x=>(match o with
  |.call c=>Qi (rB c.callee) (some .cap) && Nat.blt 0 c.argTypes.size && (match P.underlying (um c) with|some (.slice _)=>true|_=>false) && ep [x] c.args.toList
  |_=>false)
 |.app m x y=>(match o with
  |.call c=>Qi (rB c.callee) (some .append) && TV c && iK P (um c) m && nu P (um c) m &&
    (match P.underlying (c.argTypes.getD 1 0) with|some (.slice _)=>true|_=>false) && ep [x,y] c.args.toList
  |_=>false)
 |.appz z x n=>(match o with
  |.call c=>Qi (rB c.callee) (some .append) && TV c && iK P (um c) z.length && DR P (um c) z && K3 P (c.argTypes.getD 1 0) && ep [x,n] c.args.toList
  |_=>false)
 |.cpy m x y=>(match o with
  |.call c=>Qi (rB c.callee) (some .copy) && TV c && iK P (um c) m && (match P.underlying (c.argTypes.getD 1 0) with|some (.slice _)=>true|_=>false) && ep [x,y] c.args.toList
  |_=>false)
 |.clr z x=>(match o with
  |.call c=>Qi (rB c.callee) (some .clear) && iK P (um c) z.length && DR P (um c) z && Nat.blt 0 c.argTypes.size && ep [x] c.args.toList
  |_=>false)
 |.minmax b xs=>(match o with
  |.call c=>Qi (rB c.callee) (some (match b with|true=>.max|false=>.min)) && ep xs c.args.toList
  |_=>false)
 |.call f args=>(match o with
  |.call c=>(match Cc c.callee with|some g=>Nat.beq f g|none=>false) && ep args c.args.toList
  |_=>false)
 |.calli f args=>(match o with
  |.call c=>(match Cc c.callee with|some g=>Nat.beq f g|none=>false) && ep args c.args.toList
  |_=>false)
 |.callv f args=>(match o with
  |.call c=>(match c.callee with|.value x=>cI f x|_=>false) && ep args c.args.toList
  |_=>false)
 |.idxb x c=>(match o with
  |.call k=>(match Cc k.callee with|some f=>an1 P f|none=>false) && ep [x,c] k.args.toList
  |_=>false)
 |.bad=>true
 |_=>false
def ML (v:VI):Bool :=
 v.dst.isNone && v.guard.isNone && v.th.isEmpty && (match v.op with
  |.kill _=>true
  |.free _=>true
  |.wk _ _=>true
  |.frz _=>true
  |.frzC _ _=>true
  |_=>false)
def E7 (ops:Array Oper):Option (Nat×Bool)->Option (Nat×Bool)->Bool
 |none,none=>true
 |some (s,b),some (j,c)=>b == c && (match ops[j]? with
  |some o=>(match o.dst with|some d=>Nat.beq d s|none=>false)
  |none=>false)
 |_,_=>false
def DO (n:Nat)(ops:Array Oper)(v:VI)(o:Oper):Bool :=
 (match v.dst,o.dst with
  |none,none=>true
  |some a,some b=>Nat.beq a b && Nat.blt a n
  |_,_=>false) && E7 ops v.guard o.guard && bw P v.op o.op
def JG (n:Nat)(ops:Array Oper):R_->List Oper->Bool
 |[],[]=>true
 |v::l,os=>match ML v with
  |true=>JG n ops l os
  |false=>match os with
   |o::s=>DO P n ops v o && JG n ops l s
   |[]=>false
 |[],_::_=>false
end
def qd:Rd->C_
 |.s i=>[i]
 |.m i=>[i]
 |.c _=>[]
def kV:Rd->C_
 |.m i=>[i]
 |_=>[]
def bW (rs:S_):C_:=rs.flatMap qd
def bu (rs:S_):C_:=rs.flatMap kV
def FH:pV->Option S_
 |.mov x=>some [x]
 |.build _ ps=>some (tq ps)
 |.mks _ ps=>some ps
 |.ld _ 0 p=>some [p]
 |.nilck x=>some [x]
 |.bin _ x y=>some [x,y]
 |.binb _ x y=>some [x,y]
 |.bina _ _ x y=>some [x,y]
 |.un _ x=>some [x]
 |.conv _ x=>some [x]
 |.toStr x=>some [x]
 |.mkslice _ l c=>some [l,c]
 |.fa _ p=>some [p]
 |.fld _ _ x=>some [x]
 |.ia _ x i=>some [x,i]
 |.iarr _ _ p i=>some [p,i]
 |.ix _ _ _ x i=>some [x,i]
 |.ixs x i=>some [x,i]
 |.len x=>some [x]
 |.cap x=>some [x]
 |.minmax _ xs=>some xs
 |.mkfn _ first caps=>some (first++caps)
 |.call _ args=>some args
 |_=>none
def MI:pV->AG_
 |.pick c a b=>some (bW [c,a,b],bu [c,a,b])
 |.ext j mv _=>some ([j],if mv then [j] else [])
 |.app _ (.c .nl) y=>some (bW [y],bu [y])
 |.slice _ x lo hi mx=>some (bW (x::(lo.toList++(hi.toList++(mx.toList++[])))),bu (x::(lo.toList++(hi.toList++(mx.toList++[])))))
 |v=>match FH v with
  |some rs=>some (bW rs,bu rs)
  |none=>none
def adL (i:VI):AG_ :=
 match i.th with
 |_::_=>none
 |[]=>match MI i.op with
  |none=>none
  |some (R,M)=>some ((match i.guard with|some (s,_)=>s::(R++M)|none=>R++M),(match i.dst with|some d=>d::M|none=>M))
def tn:C_->C_->Bool
 |[],_=>true
 |a::r,l=>!eI a l && tn r l
def wC (a b:VI):Bool:=match adL a,adL b with
 |some (R1,M1),some (R2,M2)=>tn M1 R2 && tn M1 M2 && tn M2 R1
 |_,_=>false
def yV:Ground->Bool
 |.textOnly _=>false
 |.gcOnly _=>false
 |_=>true
def Me (o:Oper)(j:Nat):Bool:=o.after.toList.any λe=>Nat.beq e.on j && yV e.ground
def YW (o:Oper)(v:VI):Nat->R_->Bool
 |_,[]=>true
 |j,u::us=>(Me o j ||wC u v) && YW o v (j+1) us
def uZ (P:Program)(n:Nat)(ops:Array Oper)(prev:R_):R_->List Oper->Bool
 |[],[]=>true
 |v::vs,o::os=>DO P n ops v o && YW o v 0 prev && (o.after.toList.all λe=>Nat.blt e.on prev.length) && uZ P n ops (prev++[v]) vs os
 |_,_=>false
def QP (i:VI)(l:C_):C_:=match i.guard with|some (s,_)=>s::l|none=>l
def AY (i:VI)(l:C_):C_:=match i.dst with|some d=>d::l|none=>l
inductive Eq where
 |q|t|a|p
def jY (i:VI):Option (Eq×C_×C_) :=
 match i.th with
 |_::_=>match MI i.op with
  |some (R,M)=>some (.a,QP i (R++M),AY i M)
  |none=>none
 |[]=>match i.op with
  |.ld _ 2 p=>some (.t,QP i (qd p++kV p),AY i (kV p))
  |.app _ (.s x) y=>some (.p,QP i (bW [.s x,y]++bu [.s x,y]),AY i (bu [.s x,y]))
  |.app _ (.m x) y=>some (.p,QP i (bW [.m x,y]++bu [.m x,y]),AY i (bu [.m x,y]))
  |.alloc _=>some (.a,QP i ([]++[]),AY i [])
  |.box x=>some (.a,QP i (qd x++kV x),AY i (kV x))
  |v=>match MI v with
   |some (R,M)=>some (.q,QP i (R++M),AY i M)
   |none=>none
def CK:Eq->Eq->Bool
 |.a,_=>false
 |.t,.t=>false
 |.p,.q=>true
 |.p,_=>false
 |_,.p=>false
 |_,_=>true
def IQ (u v:VI):Bool:=match jY u,jY v with
 |some (k1,R1,M1),some (k2,R2,M2)=>CK k1 k2 && tn M1 R2 && tn M1 M2 && tn M2 R1
 |_,_=>false
def RH:C_->C_->C_
 |[],l=>l
 |a::r,l=>match eI a l with
  |true=>RH r l
  |false=>RH r (a::l)
def sOp:pV->Bool
 |.mov _=>true
 |.pick ..=>true
 |.build ..=>true
 |.mks ..=>true
 |.nilck _=>true
 |.bin ..=>true
 |.binb ..=>true
 |.bina ..=>true
 |.un ..=>true
 |.conv ..=>true
 |.mkfn ..=>true
 |.mkslice ..=>true
 |.fa ..=>true
 |.fld ..=>true
 |.iarr ..=>true
 |.ix ..=>true
 |.ixs ..=>true
 |.ext ..=>true
 |.len _=>true
 |.cap _=>true
 |.minmax ..=>true
 |_=>false
def aqs:pV->Option S_
 |.ld _ _ p=>some [p]
 |.st _ p x=>some [p,x]
 |.cpy _ x y=>some [x,y]
 |.clr _ x=>some [x]
 |.calli _ args=>some args
 |.callv f args=>some (f::args)
 |_=>none
def kO (i:VI):AG_ :=
 match jY i with
 |some (_,R,M)=>some (R,M)
 |none=>match aqs i.op with
  |some rs=>some (QP i (bW rs++bu rs),AY i (bu rs))
  |none=>none
def BY (a:Bool)(i:VI):AG_ :=
 match kO i with
 |some (R,M)=>match a with
  |false=>some (R,M)
  |true=>some (R++SF (TI i.op),M)
 |none=>none
def Nw (a:Q_):Bool:=match a with|[]=>true|_=>false
def kS (a:Bool)(i:VI):Bool:=!a && Nw i.th && sOp i.op
def isQ (i:VI):Bool:=match jY i with|some (.q,_)=>true|_=>false
def isP (i:VI):Bool:=match jY i with|some (.p,_)=>true|_=>false
def JP (i:VI):Bool:=match uU i.op with|.read=>true|_=>false
def agQ (i:VI):Bool:=match uU i.op with|.take=>true|_=>false
def ZE (i:VI):Bool:=match uU i.op with|.call=>true|_=>false
def Xj (a:Bool)(i:VI):Bool:=isQ i && (!a ||JP i)
def agS (a b:Bool)(u v:VI):Bool:=a && b && isQ u && JP u && ZE v
def GC (a b:Bool)(u v:VI):Bool:=match BY a u,BY b v with
 |some (R1,M1),some (R2,M2)=>tn M1 R2 && tn M1 M2 && tn M2 R1
 |_,_=>false
def TS (a b:Bool)(u v:VI):Bool:=GC a b u v && (kS a u ||kS b v ||(Xj a u && Xj b v) ||agS a b u v)
def Ea (a:Bool)(i:VI):Bool:=a && agQ i && Nw i.th
def Y6 (a b:Bool)(u v:VI):Bool :=
 (!a ||Ea a u) && (!b ||Ea b v) && (IQ u v ||(GC a b u v && ((Ea a u && Ea b v) ||(Ea a u && isP v) ||(isP u && Ea b v))))
def tp (a b:Bool)(u v:VI):Bool:=!a && !b && Nw u.th && Nw v.th && (match u.op,v.op,u.dst,v.dst,u.guard,v.guard with
 |.ext j _ i,.ext l _ k,some d,some c,none,none=>Nat.beq j l && !Nat.beq i k && !Nat.beq d c && !Nat.beq d j && !Nat.beq c j
 |_,_,_,_,_,_=>false)
def lE (a b:Bool)(u v:VI):Bool:=TS a b u v ||tp a b u v ||(!kS b v && Y6 a b u v)
def Uk (tab:P_):List Edge->C_
 |[]=>[]
 |e::r=>match yV e.ground with
  |true=>RH (e.on::(match get tab e.on with|some l=>l|none=>[])) (Uk tab r)
  |false=>Uk tab r
def J2 (ops:Array Oper):C_->P_->P_
 |[],tab=>tab
 |i::l,tab=>J2 ops l ((i,match ops[i]? with|some o=>Uk tab o.after.toList|none=>[])::tab)
def txG:Ground->Bool
 |.gcOnly _=>false
 |_=>true
def YO:Ground->Bool
 |.textOnly _=>false
 |_=>true
def IU (P:Program)(n:Nat)(ops:Array Oper)(k:Nat):Nat->R_->List Oper->Bool
 |_,[],[]=>true
 |i,v::vs,o::os=>DO P n ops v o && (o.after.toList.all λe=>Nat.blt e.on k && (!txG e.ground ||Nat.blt e.on i)) && IU P n ops k (i+1) vs os
 |_,_,_=>false
def uD (anc:P_)(k i:Nat):Bool:=match get anc k with|some l=>eI i l|none=>false
def YM (anc:P_)(d:Nat)(l:C_)(i:Nat):Nat->R_->Bool
 |_,[]=>true
 |k,v::r=>(Nat.beq k i ||uD anc k i ||(match kO v with
  |some (_,M)=>!eI d M && (uD anc i k ||tn l M)
  |none=>false)) && YM anc d l i (k+1) r
def BS (v:VI):C_:=match v.op with
 |.mkslice _ l c=>bW [l,c]
 |_=>[]
def we (anc:P_)(vs:R_)(i:Nat):Bool:=match vs[i]? with
 |some v=>(match iI v with
  |some d=>YM anc d (BS v) i 0 vs && (match get anc i with
   |some l=>l.all (λj=>match vs[j]? with
    |some u=>(match iI u with
     |some _=>false
     |none=>true)
    |none=>true)
   |none=>true)
  |none=>false)
 |none=>false
def ZI (anc:P_)(i j:Nat):Nat->Bool
 |0=>true
 |k+1=>(!uD anc k i ||uD anc k j) && ZI anc i j k
def Ug (anc:P_)(nr:C_)(vs:R_)(j:Nat):C_->Bool
 |[]=>true
 |i::r=>(uD anc i j ||(match vs[j]?,vs[i]? with|some u,some v=>lE (eI j nr) (eI i nr) u v|_,_=>false) ||(we anc vs i && ZI anc i j vs.length && !uD anc j i)) && Ug anc nr vs j r
def af0 (ops:Array Oper)(j:Nat)(l:C_):Bool:=match ops[j]? with
 |some o=>o.after.toList.all λe=>!YO e.ground ||!eI e.on l
 |none=>false
def TD (ops:Array Oper)(anc:P_)(nr:C_)(vs:R_):C_->Bool
 |[]=>true
 |j::r=>Ug anc nr vs j r && !eI j r && Nat.blt j vs.length && TD ops anc nr vs r
def adS (ops:Array Oper):C_->Bool
 |[]=>true
 |j::r=>af0 ops j (j::r) && adS ops r
def Xv (l:C_):Nat->Bool
 |0=>true
 |n+1=>eI n l && Xv l n
def adO (vs:R_):C_->Bool
 |[]=>true
 |i::r=>(match vs[i]? with|some v=>!JP v ||isQ v|none=>true) && adO vs r
def Jz (P:Program)(n:Nat)(ops:Array Oper)(perm gco nr:C_)(vs:R_):Bool :=
 IU P n ops vs.length 0 vs ops.toList && adO vs nr && Xv gco vs.length && adS ops gco && Xv perm vs.length && TD ops (J2 ops perm []) nr vs perm
def xX:VC->Bool
 |.reg _ ops=>ops.all ML
 |.seq a b=>xX a && xX b
 |_=>false
inductive Mt (P:Program) (n:Nat):VC->Code->Prop
 |ghostL {a b:VC}{c:Code}:xX a=true->Mt P n b c->Mt P n (.seq a b) c
 |ghostR {a b:VC}{c:Code}:xX b=true->Mt P n a c->Mt P n (.seq a b) c
 |seq {a b:VC}{c d:Code}:Mt P n a c->Mt P n b d->Mt P n (.seq a b) (.seq c d)
 |skip:Mt P n .skip .skip
 |reg {ops:R_}{id:Nat}{os:Array Oper}:JG P n os ops os.toList=true->Mt P n (.reg false ops) (.region id os false)
 |draw {ops:R_}{id:Nat}{os:Array Oper}:uZ P n os [] ops os.toList=true->Mt P n (.reg true ops) (.region id os true)
 |drawP {perm gco nr:C_}{ops:R_}{id:Nat}{os:Array Oper}:Jz P n os perm gco nr ops=true->Mt P n (.regP perm gco nr ops) (.region id os true)
 |cond {r:Rd}{o:Operand}{a b:VC}{c d:Code}:cI r o=true->Mt P n a c->Mt P n b d->Mt P n (.cond r a b) (.cond o c d)
 |block {id:Nat}{a:VC}{c:Code}:Mt P n a c->Mt P n (.block id a) (.block id c)
 |loop {a:VC}{c:Code}:Mt P n a c->Mt P n (.loop a) (.loop c)
 |rangeF {r:Rd}{o:Operand}{ps:C_}{qs:Array Nat}{a b:VC}{c d:Code}:cI r o=true->qs=ps.toArray->(∀p∈ps,p<n)->Mt P n a c->Mt P n b d->Mt P n (.rangeF r ps a b) (.rangeFunc o qs c d)
 |exit {id:Nat}:Mt P n (.exit id) (.exit id)
 |scope {a:VC}{c:Code}:Mt P n a c->Mt P n (.scope a) (.scope c)
 |label {l:Nat}:Mt P n (.label l) (.label l)
 |goto {l:Nat}:Mt P n (.goto l) (.goto l)
 |ret:Mt P n .ret .ret
def Nt:C_->C_->Bool
 |[],[]=>true
 |a::r,b::s=>Nat.beq a b && Nt r s
 |_,_=>false
def abU:∀{a b:C_},Nt a b=true->a=b
 |[],[],_=>rfl
 |a::r,b::s,h=>by
  simp only[Nt,af,aC]at h;rw[h.1,abU h.2]
 |[],_::_,h=>by simp[Nt]at h
 |_::_,[],h=>by simp[Nt]at h
def ad0 (n:Nat):C_->Bool
 |[]=>true
 |a::r=>Nat.blt a n && ad0 n r
def abw {n:Nat}:∀{l:C_},ad0 n l=true->∀p∈l,p<n
 |[],_,p,hp=>by simp at hp
 |a::r,h,p,hp=>by
  simp only[ad0,af,Nat.blt_eq]at h;rcases aD.1 hp with rfl|hp
  .exact h.1
  .exact abw h.2 p hp
def kf (P:Program)(n:Nat):VC->Code->Bool
 |.seq a b,c=>(xX a && kf P n b c) ||(xX b && kf P n a c) ||(match c with
  |.seq x y=>kf P n a x && kf P n b y
  |_=>false)
 |.skip,.skip=>true
 |.reg d ops,.region _ os d'=>(!d && !d' && JG P n os ops os.toList) ||(d && d' && uZ P n os [] ops os.toList)
 |.regP perm gco nr ops,.region _ os d'=>d' && Jz P n os perm gco nr ops
 |.cond r a b,.cond o x y=>cI r o && kf P n a x && kf P n b y
 |.block i a,.block j x=>Nat.beq i j && kf P n a x
 |.loop a,.loop x=>kf P n a x
 |.rangeF r ps a b,.rangeFunc o qs x y=>cI r o && Nt ps qs.toList && ad0 n ps && kf P n a x && kf P n b y
 |.exit i,.exit j=>Nat.beq i j
 |.scope a,.scope x=>kf P n a x
 |.label i,.label j=>Nat.beq i j
 |.goto i,.goto j=>Nat.beq i j
 |.ret,.ret=>true
 |_,_=>false
def jN {P:Program}{n:Nat}:∀(v:VC) (c:Code),kf P n v c=true->Mt P n v c
 |.seq a b,c,h=>by
  simp only[kf,cZ,af]at h;rcases h with (⟨h1,h2⟩|⟨h1,h2⟩)|h
  .exact .ghostL h1 (jN b c h2)
  .exact .ghostR h1 (jN a c h2)
  .cases c<;>simp only[af,aq]at h
   exact .seq (jN a _ h.1) (jN b _ h.2)
 |.skip,c,h=>by cases c<;>simp_all [kf];exact .skip
 |.reg d ops,c,h=>by
  cases c<;>simp only[kf,cZ,af,cH,aq]at h
  rcases h with ⟨⟨h1,h2⟩,h⟩|⟨⟨h1,h2⟩,h⟩
  .subst h1 h2;exact .reg h
  .subst h1 h2;exact .draw h
 |.regP perm gco nr ops,c,h=>by
  cases c<;>simp only[kf,af,aq]at h
  obtain⟨h1,h⟩:=h;subst h1;exact .drawP h
 |.cond r a b,c,h=>by
  cases c<;>simp[kf]at h
  exact .cond h.1.1 (jN a _ h.1.2) (jN b _ h.2)
 |.block i a,c,h=>by
  cases c<;>simp only[kf,af,aq]at h
  obtain⟨h1,h2⟩:=h;rw[aC]at h1;subst h1;exact .block (jN a _ h2)
 |.loop a,c,h=>by
  cases c<;>simp only[kf,aq]at h
  exact .loop (jN a _ h)
 |.exit i,c,h=>by
  cases c<;>simp only[kf,aq]at h
  rw[aC]at h;subst h;exact .exit
 |.scope a,c,h=>by
  cases c<;>simp only[kf,aq]at h
  exact .scope (jN a _ h)
 |.label i,c,h=>by
  cases c<;>simp only[kf,aq]at h
  rw[aC]at h;subst h;exact .label
 |.goto i,c,h=>by
  cases c<;>simp only[kf,aq]at h
  rw[aC]at h;subst h;exact .goto
 |.ret,c,h=>by cases c<;>simp[kf]at h;exact .ret
 |.rangeF r ps a b,c,h=>by
  cases c<;>simp only[kf,af,aq]at h
  obtain⟨⟨⟨⟨h1,h2⟩,h3⟩,h4⟩,h5⟩:=h;have h2:=abU h2;exact .rangeF h1 (by rw[h2]) (abw h3) (jN a _ h4) (jN b _ h5)
 |.inScope _ _,c,h=>by grind [kf]
 |.clone _,c,h=>by grind [kf]
 |.late _ _ _ _,c,h=>by grind [kf]
def mK (P:Program):AH_->List ResultVar->Bool
 |[],[]=>true
 |.tmp i::r,.tmp j::s=>Nat.beq i j && mK P r s
 |.cell i n::r,.cell j ty::s=>Nat.beq i j && rU P ty n && mK P r s
 |_,_=>false
def Lm (o:Oper)(d:Nat):Bool:=(match o.dst with|some e=>Nat.beq d e|none=>false) && o.guard.isNone
def Yp:Operand->Bool
 |.const (.slice none 0 0)=>true
 |_=>false
def Gq (i:Nat):Operand->Bool
 |.tmp j=>Nat.beq i j
 |_=>false
def YN (d:Nat):List Oper->Bool
 |[o]=>Lm o d && (match o.op with|.assign x=>Yp x|_=>false)
 |_=>false
def aeZ (P:Program)(m:Nat):List Oper->Bool
 |[a,b]=>Lm a 3 && (match a.op with|.move x=>Gq 0 x|_=>false) && Lm b 4 &&
   (match b.op with|.binOp .eql T x y _=>iK P T m && Gq 3 x && Yp y|_=>false)
 |_=>false
def afr (P:Program)(m:Nat):List Oper->Bool
 |[a,b,c,d]=>Lm a 5 && (match a.op with|.buildSlice T 0 ps=>iK P T m && ps.isEmpty|_=>false) && Lm b 6 && (match b.op with|.move x=>Gq 0 x|_=>false) && Lm c 7 &&
   (match c.op with
    |.call k=>Qi (rB k.callee) (some .append) && TV k && iK P (um k) m && nu P (um k) m && (match P.underlying (k.argTypes.getD 1 0) with|some (.slice _)=>true|_=>false) &&
      (match k.args.toList with|[x,y]=>Gq 5 x && Gq 6 y|_=>false)
    |_=>false) && Lm d 2 && (match d.op with|.assign x=>Gq 7 x|_=>false)
 |_=>false
def Qc (P:Program)(m:Nat):Code->Bool
 |.seq (.region _ r0 false) (.seq (.seq (.region _ r1 false) (.cond (.tmp 4) (.seq (.region _ r2 false) .ret) .skip)) (.seq (.region _ r3 false) .ret)) =>
  YN 2 r0.toList && aeZ P m r1.toList && YN 2 r2.toList && afr P m r3.toList
 |_=>false
def ZL (P:Program)(m:Nat)(vf:aj)(f:FuncId):Bool:=match P.funcs[f]? with
 |some fn=>match fn.body with
  |some c=>(match vf.body with|.clone k=>Nat.beq k m|_=>false) && (match vf.results with|[.tmp 2]=>true|_=>false) && mK P vf.results fn.results.toList && Nat.beq vf.nparams 1 && Nat.ble 8 fn.ntmps && Qc P m c && (fn.name != "runtime.NumGoroutine")
  |none=>false
 |none=>false
def Ur (P:Program)(n i d f:Nat)(a:VC):Code->Bool
 |.seq (.region _ os false) rest=>(match os.toList with
  |[m,k]=>Lm m d && (match m.op with|.move x=>Gq i x|_=>false) && k.dst.isNone && k.guard.isNone &&
    (match k.op with
     |.defer c=>(match Cc c.callee with|some g=>Nat.beq f g|none=>false) && (match c.args.toList with|[x]=>Gq d x|_=>false)
     |_=>false)
  |_=>false) && Nat.blt d n && kf P n a rest
 |_=>false
def abV (P:Program)(i d f:Nat)(a:VC)(vf:aj)(k:FuncId):Bool:=match P.funcs[k]? with
 |some fn=>match fn.body with
  |some c=>Ur P fn.ntmps i d f a c && Nat.ble vf.nparams fn.ntmps && mK P vf.results fn.results.toList && (fn.name != "runtime.NumGoroutine")
  |none=>false
 |none=>false
def as6 (P:Program)(vf:aj)(f:FuncId):Bool:=match P.funcs[f]? with
 |some fn=>match fn.body with
  |some c=>kf P fn.ntmps vf.body c && Nat.ble vf.nparams fn.ntmps && mK P vf.results fn.results.toList && (fn.name != "runtime.NumGoroutine")
  |none=>false
 |none=>false
abbrev ai:=@Nat.le_refl
abbrev aP:=@Nat.le_trans
structure Gh where
 obj:Nat->J_
 base:Nat->Nat
 esz:Nat->Nat
 bsz:Nat->Nat
 pm:Nat->Nat->Prop
inductive RD (w:World) (pm:Nat->Nat->Prop):D->Value->Prop
 |int (k:IntKind) (n:Int):RD w pm (.int k n) (.int k n)
 |bool (b:Bool):RD w pm (.bool b) (.bool b)
 |str (s:AF_):RD w pm (.str s) (.string ⟨s.toArray⟩)
 |nil (a:Option Addr) (cap:Nat):RD w pm (.lst []) (.slice a 0 cap)
 |lst (xs:F_) (b off m cap:Nat) (u:Nat->Value) (hm:0<m) (hcap:xs.length<=cap) (hl:∀e∈xs,e.length=m)
   (hc:∀j c,xs.flatten[j]?=some c->w.cell? ⟨b,off+j,none⟩=some (u j)∧pm b (off+j))
   (hr:∀j c,xs.flatten[j]?=some c->RD w pm c (u j)):RD w pm (.lst xs) (.slice (some ⟨b,off,none⟩) xs.length cap)
def jd (w:World)(pm:Nat->Nat->Prop)(cs:V_)(b off:Nat):Prop :=
 ∀j c,cs[j]?=some c->∃u,w.cell? ⟨b,off+j,none⟩=some u∧RD w pm c u
def one (b:Nat):Nat->Nat:=λx=>if x=b then 1 else 0
@[simp] theorem B8 (b:Nat):one b b=1:=by simp[one]
theorem xT {b x:Nat}(h:one b x≠0):x=b:=by grind [one]
def EP (g:Gh)(w:World)(p:Bool)(m:Nat)(xs:F_)(x:Value)(O:Nat->Nat):Prop :=
 (xs=[]∧(∀b,O b=0)∧∃a,x=.slice a 0 0)∨
 ∃b off cap c el,x=.slice (some ⟨b,off,none⟩) xs.length cap∧xs.length<=cap∧0<m∧(∀e∈xs,e.length=m)∧
  w.heap[b]?=some (.cells c el (0,0))∧off+cap*m<=c.size∧jd w g.pm xs.flatten b off∧
  (∀o,g.pm b o->p=false∧o<off+xs.length*m)∧(p=false->∀j,j<xs.length*m->g.pm b (off+j))∧O=one b
mutual
def RV (g:Gh)(w:World):AV->Value->(Nat->Nat)->Prop
 |.junk,_,O=>∀b,O b=0
 |.d c,x,O=>RD w g.pm c x∧∀b,O b=0
 |.nl,x,O=>x=.slice none 0 0∧∀b,O b=0
 |.own p m xs,x,O=>EP g w p m xs x O
 |.gl n,x,O=>(∃a cap,x=.slice a n cap)∧∀b,O b=0
 |.agg cs,x,O=>∃xs:G_,x=.agg xs∧RVs g w cs xs.toList O
 |.tup cs,x,O=>∃xs:G_,x=.tuple xs∧RVs g w cs xs.toList O
 |.nilp,x,O=>x=.pointer none∧∀b,O b=0
 |.ptr id off,x,O=>(∃b,g.obj id=some b∧x=.pointer (some ⟨b,g.base id+off,none⟩))∧∀b,O b=0
 |.pel id i off,x,O=>(∃b,g.obj id=some b∧x=.pointer (some ⟨b,g.base id+(i*g.esz id+off),none⟩))∧∀b,O b=0
 |.pim cs off,x,O=>(∃b o,x=.pointer (some ⟨b,o+off,none⟩)∧jd w g.pm cs b o∧∀j,j<cs.length->g.pm b (o+j))∧∀b,O b=0
 |.sl id off len,x,O=>((len=0∧∃a,x=.slice a 0 0)∨
   ∃b cap,g.obj id=some b∧x=.slice (some ⟨b,g.base id+off*g.esz id,none⟩) len cap∧len<=cap∧g.base id+(off+cap)*g.esz id<=g.bsz id)∧∀b,O b=0
 |.fn f a c,x,O=>(∃xs ys:G_,x=.func (.func f) xs ys∧RVs g w a xs.toList (λ_=>0)∧RVs g w c ys.toList (λ_=>0))∧∀b,O b=0
 |.nilf,x,O=>x=.nilFunc∧∀b,O b=0
 |.yield l,x,O=>(∃b,g.obj l=some b∧x=.func (.yield b) #[] #[])∧∀b,O b=0
def RVs (g:Gh)(w:World):D_->M_->(Nat->Nat)->Prop
 |[],xs,O=>xs=[]∧∀b,O b=0
 |v::r,xs,O=>∃x s O1 O2,xs=x::s∧RV g w v x O1∧RVs g w r s O2∧∀b,O b=O1 b+O2 b
end
def gR (o:Go.Obj)(off:Nat):Bool :=
 match o with
 |.cells _ _ (lo,hi)=>lo<=off && off<hi
 |_=>false
structure bI (g:Gh)(w:World)(g':Gh)(w':World)(S:Nat->Prop):Prop where
 obj:∀id b,g.obj id=some b->g'.obj id=some b∧g'.base id=g.base id∧g'.esz id=g.esz id∧g'.bsz id=g.bsz id
 pm:∀b o,g.pm b o->g'.pm b o∧w'.cell? ⟨b,o,none⟩=w.cell? ⟨b,o,none⟩
 blk:∀b,b<w.heap.size->¬S b->w'.heap[b]?=w.heap[b]?∧∀o,g'.pm b o->g.pm b o
 size:w.heap.size<=w'.heap.size
 lp:∀(b:Nat) (rc:Go.Loop),w.heap[b]?=some (.loop rc)->∃rc':Go.Loop,w'.heap[b]?=some (.loop rc')
 same:w'.os=w.os∧w'.output=w.output∧∀a:Addr,w'.frozen? a=w.frozen? a
theorem bI.refl (g:Gh)(w:World)(S:Nat->Prop):bI g w g w S :=
 ⟨λ_ _ h=>⟨h,rfl,rfl,rfl⟩,λ_ _ h=>⟨h,rfl⟩,λ_ _ _=>⟨rfl,λ_ h=>h⟩,ai _,λ_ rc h=>⟨rc,h⟩,rfl,rfl,λ_=>rfl⟩
def bI.trans {g1 g2 g3:Gh}{w1 w2 w3:World}{S T:Nat->Prop}(h1:bI g1 w1 g2 w2 S)(h2:bI g2 w2 g3 w3 T)
  (hT:∀b,b<w1.heap.size->T b->S b):bI g1 w1 g3 w3 S where
 obj id b h:=by
  obtain⟨a,b1,c,d⟩:=h1.obj id b h
  grind [obj]
 pm b o h:=by
  obtain⟨a,c⟩:=h1.pm b o h
  grind [pm]
 blk b hb hS:=by
  obtain⟨a,c⟩:=h1.blk b hb hS
  grind [blk]
 size:=aP h1.size h2.size
 lp b rc h:=let ⟨rc1,h'⟩:=h1.lp b rc h;h2.lp b rc1 h'
 same:=⟨h2.same.1.trans h1.same.1,h2.same.2.1.trans h1.same.2.1,λa=>(h2.same.2.2 a).trans (h1.same.2.2 a)⟩
def bI.mono {g g':Gh}{w w':World}{S T:Nat->Prop}(h:bI g w g' w' S)(hST:∀b,b<w.heap.size->S b->T b):bI g w g' w' T :=
 ⟨h.obj,h.pm,λb hb hT=>h.blk b hb (λhs=>hT (hST b hb hs)),h.size,h.lp,h.same⟩
theorem RD.ext {g g':Gh}{w w':World}{S:Nat->Prop}(h:bI g w g' w' S){c:D}{x:Value}(r:RD w g.pm c x):RD w' g'.pm c x:=by
 induction r with
 |int k n=>exact .int k n
 |bool b=>exact .bool b
 |str s=>exact .str s
 |nil a cap=>exact .nil a cap
 |lst xs b off m cap u hm hcap hl hc hr ih =>
  refine .lst xs b off m cap u hm hcap hl (λj c hj=>?_) (λj c hj=>ih j c hj)
  grind [bI.pm]
theorem tu {w w':World}{b:Nat}(h:w'.heap[b]?=w.heap[b]?)(o:Nat):w'.cell? ⟨b,o,none⟩=w.cell? ⟨b,o,none⟩:=by
 grind [World.cell?]
theorem jd.ext {g g':Gh}{w w':World}{S:Nat->Prop}(h:bI g w g' w' S){cs:V_}{b off:Nat}(r:jd w g.pm cs b off)
  (hb:w'.heap[b]?=w.heap[b]?∨∀j,j<cs.length->g.pm b (off+j)):jd w' g'.pm cs b off:=by
 intro j c hj;obtain⟨u,hu,hr⟩:=r j c hj;refine⟨u,?_,hr.ext h⟩;rcases hb with hb|hb
 .grind [tu]
 .have hlt:j<cs.length:=by
   grind
  rw[(h.pm b _ (hb j hlt)).2];exact hu
def jH {w:World}{b:Nat}{o:Go.Obj}(h:w.heap[b]?=some o):b<w.heap.size:=by
 grind
def EP.ext {g g':Gh}{w w':World}{S:Nat->Prop}(h:bI g w g' w' S){p:Bool}{m:Nat}{xs:F_}{x:Value}{O:Nat->Nat}
  (r:EP g w p m xs x O)(hO:∀b,O b≠0->¬S b):EP g' w' p m xs x O:=by
 rcases r with r|⟨b,off,cap,c,el,rfl,hcap,hm,hl,hb,hsz,hrc,hpm,hp,rfl⟩
 .exact .inl r
 .have hS:¬S b:=hO b s_;obtain⟨e,hn⟩:=h.blk b (jH hb) hS;exact .inr ⟨b,off,cap,c,el,rfl,hcap,hm,hl,e.trans hb,hsz,hrc.ext h (.inl e),λo ho=>hpm o (hn o ho),λhf j hj=>(h.pm b _ (hp hf j hj)).1,rfl⟩
mutual
theorem RV.ext {g g':Gh}{w w':World}{S:Nat->Prop}(h:bI g w g' w' S):∀(v:AV) (x:Value) (O:Nat->Nat),
  RV g w v x O->(∀b,O b≠0->¬S b)->RV g' w' v x O
 |.junk,_,_,r,_=>by simpa only[RV] using r
 |.d c,x,O,r,_=>by simp only[RV]at r⊢;exact⟨r.1.ext h,r.2⟩
 |.nl,_,_,r,_=>by simpa only[RV] using r
 |.own p m xs,x,O,r,hO=>by simp only[RV]at r⊢;exact r.ext h hO
 |.gl n,_,_,r,_=>by simpa only[RV] using r
 |.agg cs,x,O,r,hO=>by
  simp only[RV]at r⊢;obtain⟨xs,e,r⟩:=r;exact⟨xs,e,RVs.ext h cs _ O r hO⟩
 |.tup cs,x,O,r,hO=>by
  simp only[RV]at r⊢;obtain⟨xs,e,r⟩:=r;exact⟨xs,e,RVs.ext h cs _ O r hO⟩
 |.nilp,_,_,r,_=>by simpa only[RV] using r
 |.ptr id off,x,O,r,_=>by
  simp only[RV]at r⊢;obtain⟨⟨b,hb,e⟩,hz⟩:=r;obtain⟨a1,a2,_,_⟩:=h.obj id b hb;exact⟨⟨b,a1,by rw[a2];exact e⟩,hz⟩
 |.pel id i off,x,O,r,_=>by
  simp only[RV]at r⊢;obtain⟨⟨b,hb,e⟩,hz⟩:=r;obtain⟨a1,a2,a3,_⟩:=h.obj id b hb;exact⟨⟨b,a1,by rw[a2,a3];exact e⟩,hz⟩
 |.pim cs off,x,O,r,_=>by
  simp only[RV]at r⊢;obtain⟨⟨b,o,e,hrc,hp⟩,hz⟩:=r;exact⟨⟨b,o,e,hrc.ext h (.inr hp),λj hj=>(h.pm b _ (hp j hj)).1⟩,hz⟩
 |.sl id off len,x,O,r,_=>by
  simp only[RV]at r⊢;obtain⟨r,hz⟩:=r;rcases r with r|⟨b,cap,hb,e,hl,hs⟩
  .exact⟨.inl r,hz⟩
  .obtain⟨a1,a2,a3,a4⟩:=h.obj id b hb;exact⟨.inr ⟨b,cap,a1,by rw[a2,a3];exact e,hl,by rw[a2,a3,a4];exact hs⟩,hz⟩
 |.fn f a c,x,O,r,_=>by
  simp only[RV]at r⊢;obtain⟨⟨xs,ys,e,ra,rc⟩,hz⟩:=r;exact⟨⟨xs,ys,e,RVs.ext h a _ _ ra s_,RVs.ext h c _ _ rc s_⟩,hz⟩
 |.nilf,_,_,r,_=>by simpa only[RV] using r
 |.yield l,x,O,r,_=>by
  simp only[RV]at r⊢;obtain⟨⟨b,hb,e⟩,hz⟩:=r;exact⟨⟨b,(h.obj l b hb).1,e⟩,hz⟩
theorem RVs.ext {g g':Gh}{w w':World}{S:Nat->Prop}(h:bI g w g' w' S):∀(vs:D_) (xs:M_) (O:Nat->Nat),
  RVs g w vs xs O->(∀b,O b≠0->¬S b)->RVs g' w' vs xs O
 |[],_,_,r,_=>by simpa only[RVs] using r
 |v::vs,xs,O,r,hO=>by
  simp only[RVs]at r⊢;obtain⟨x,s,O1,O2,e,r1,r2,hs⟩:=r;exact⟨x,s,O1,O2,e,RV.ext h v x O1 r1 (λb hb=>hO b (by rw[hs b];omega)),RVs.ext h vs s O2 r2 (λb hb=>hO b (by rw[hs b];omega)),hs⟩
end
abbrev bN:=@List.pairwise_cons
abbrev bR:=@if_true
abbrev ac:=@if_pos
abbrev zero:Nat->Nat:=λ_=>0
def cQ {α:Type}(l:List (Nat×α)):Prop:=l.Pairwise λa b=>Il a.1 b.1
def Il.tr {a b c:Nat}(h:Il a b)(k:Il b c):Il a c:=o_
def Il.ne {a b:Nat}(h:Il a b):b≠a:=o_
def au4 (a b:Nat):Il a b∨a=b∨Il b a:=o_
def Il.of {i k:Nat}(h:¬k=i)(l:abv i k):Il i k:=o_
def Il.of' {i k:Nat}(h:¬k=i)(l:¬abv i k):Il k i:=o_
section
variable {α:Type}
def ajL {l:List (Nat×α)}{i:Nat}{p:Nat×α}(h:p∈del l i):p∈l∧p.1≠i:=by
 induction l<;>grind [aaK,pn]
theorem cQ.del {l:List (Nat×α)}(h:cQ l)(i:Nat):cQ (Vm.del l i):=by
 induction l with
 |nil=>grind [aaK]
 |cons a r ih =>
  have hr:=bN.1 h;rw[pn];split
  .exact ih hr.2
  .exact bN.2 ⟨λp hp=>hr.1 p (ajL hp).1,ih hr.2⟩
def ua {l:List (Nat×α)}{i:Nat}(h:∀p∈l,p.1≠i):del l i=l:=by
 induction l with
 |nil=>rfl
 |cons a r ih =>
  grind [pn]
def abd {l:List (Nat×α)}{i:Nat}{x:α}{p:Nat×α}(h:p∈put l i x):p=(i,x)∨p∈l:=by
 induction l<;>grind [aa2,xQ]
theorem cQ.put {l:List (Nat×α)}(h:cQ l)(i:Nat)(x:α):cQ (Vm.put l i x):=by
 induction l with
 |nil=>simp[aa2,cQ]
 |cons a r ih =>
  have hr:=bN.1 h;rw[xQ];split
  .rename_i e;subst e;exact bN.2 ⟨hr.1,hr.2⟩
  .split
   .refine bN.2 ⟨λp hp=>?_,h⟩
    grind
   .refine bN.2 ⟨λp hp=>?_,ih hr.2⟩;rcases abd hp with rfl|hp<;>grind
end
def RL {α:Type}(Q:Nat->α->(Nat->Nat)->Prop):List (Nat×α)->(Nat->Nat)->Prop
 |[],O=>∀b,O b=0
 |(k,v)::r,O=>∃O1 O2,Q k v O1∧RL Q r O2∧∀b,O b=O1 b+O2 b
section
variable {α:Type}{Q Q':Nat->α->(Nat->Nat)->Prop}
def RL.imp' {l:List (Nat×α)}{O:Nat->Nat}(r:RL Q l O)
  (h:∀k v O1,(k,v)∈l->(∀b,O1 b<=O b)->Q k v O1->Q' k v O1):RL Q' l O:=by
 induction l generalizing O<;>grind [RL]
theorem RL.take {l:List (Nat×α)}{O:Nat->Nat}(r:RL Q l O){i:Nat}{v:α}(hg:get l i=some v) :
  ∃O1 O2,Q i v O1∧RL Q (del l i) O2∧∀b,O1 b+O2 b<=O b:=by
 induction l generalizing O with
 |nil=>grind [CI]
 |cons a r' ih =>
  obtain⟨k,u⟩:=a;obtain⟨O1,O2,q,rr,hs⟩:=r;rw[ja]at hg;rw[pn];by_cases e:k=i
  .subst e;simp only[bR]at hg⊢;have:∃O3,RL Q (del r' k) O3∧∀b,O3 b<=O2 b:=by
    clear ih hs q
    induction r' generalizing O2 with
    |nil=>exact⟨O2,rr,λ_=>ai _⟩
    |cons a r'' ih2 =>
     obtain⟨P1,P2,q',rr',hs'⟩:=rr;obtain⟨O3,r3,h3⟩:=ih2 P2 rr';rw[pn];split
     .grind
     .exact⟨λb=>P1 b+O3 b,⟨P1,O3,q',r3,λ_=>rfl⟩,λb=>by simp_all⟩
   grind
  .simp only[aa e]at hg⊢;obtain⟨P1,P2,q',rr',hs'⟩:=ih rr hg;exact⟨P1,λb=>O1 b+P2 b,q',⟨O1,P2,q,rr',λ_=>rfl⟩,λb=>by grind⟩
def RL.drop {l:List (Nat×α)}{O:Nat->Nat}(r:RL Q l O)(i:Nat):∃O2,RL Q (del l i) O2∧∀b,O2 b<=O b:=by
 induction l generalizing O with
 |nil=>exact⟨O,r,λ_=>ai _⟩
 |cons a r' ih =>
  obtain⟨O1,O2,q,rr,hs⟩:=r;obtain⟨O3,r3,h3⟩:=ih rr;rw[pn];split
  .grind
  .exact⟨λb=>O1 b+O3 b,⟨O1,O3,q,r3,λ_=>rfl⟩,λb=>by simp_all⟩
def RL.put {l:List (Nat×α)}(hs:cQ l){i:Nat}{O1 O2:Nat->Nat}(r:RL Q (del l i) O2){x:α}(q:Q i x O1) :
  ∃O,RL Q (Vm.put l i x) O∧∀b,O b=O1 b+O2 b:=by
 induction l generalizing O2 with
 |nil=>exact⟨λb=>O1 b+O2 b,⟨O1,O2,q,r,λ_=>rfl⟩,λ_=>rfl⟩
 |cons a r' ih =>
  obtain⟨k,u⟩:=a;have hp:=bN.1 hs;rw[xQ];by_cases e:k=i
  .subst e;simp only[bR];rw[pn,ac rfl,ua λp hp'=>(hp.1 p hp').ne]at r;exact⟨λb=>O1 b+O2 b,⟨O1,O2,q,r,λ_=>rfl⟩,λ_=>rfl⟩
  .simp only[aa e];rw[pn,aa e]at r;split
   .rename_i hle;have hlt:Il i k:=.of e hle;rw[ua λp hp'=>(hlt.tr (hp.1 p hp')).ne]at r;exact⟨λb=>O1 b+O2 b,⟨O1,O2,q,r,λ_=>rfl⟩,λ_=>rfl⟩
   .obtain⟨P1,P2,q',rr',hs'⟩:=r;obtain⟨O,ro,ho⟩:=ih hp.2 rr';exact⟨λb=>P1 b+O b,⟨P1,O,q',ro,λ_=>rfl⟩,λb=>by grind⟩
theorem RL.get {l:List (Nat×α)}{O:Nat->Nat}(r:RL Q l O){i:Nat}{v:α}(hg:Vm.get l i=some v) :
  ∃O1,Q i v O1∧∀b,O1 b<=O b:=by
 grind [take]
end
theorem fQ {xs:F_}{m:Nat}(h:∀e∈xs,e.length=m):xs.flatten.length=xs.length*m:=by
 induction xs<;>grind
def jd.nil (w:World)(pm:Nat->Nat->Prop)(b off:Nat):jd w pm [] b off:=λj c h=>by simp at h
theorem jd.rd {w:World}{pm:Nat->Nat->Prop}{xs:F_}{b off m cap:Nat}(hm:0<m)(hcap:xs.length<=cap)(hl:∀e∈xs,e.length=m)
  (hc:jd w pm xs.flatten b off)(hp:∀j,j<xs.length*m->pm b (off+j)):RD w pm (.lst xs) (.slice (some ⟨b,off,none⟩) xs.length cap):=by
 refine .lst xs b off m cap (λj=>(w.cell? ⟨b,off+j,none⟩).getD (.bool false)) hm hcap hl (λj c hj=>?_) (λj c hj=>?_)
 .obtain⟨u,hu,_⟩:=hc j c hj
  grind [fQ]
 .obtain⟨u,hu,hr⟩:=hc j c hj
  simp_all
mutual
theorem RV.share {g:Gh}{w:World}:∀(v:AV) (x:Value) (O:Nat->Nat),RV g w v x O->RV g w (share v) x zero
 |.own false m xs,x,O,r=>by
  simp only[RV,Vm.share]at r⊢;refine⟨?_,λ_=>by trivial⟩;rcases r with ⟨rfl,_,a,rfl⟩|⟨b,off,cap,c,el,rfl,hcap,hm,hl,hb,hsz,hrc,hpm,hp,rfl⟩
  .exact .nil a 0
  .exact hrc.rd hm hcap hl (hp rfl)
 |.own true m xs,x,O,r=>by simp[RV,Vm.share]
 |.agg cs,x,O,r=>by
  simp only[RV,Vm.share]at r⊢;obtain⟨xs,e,r⟩:=r;exact⟨xs,e,RVs.share cs _ O r⟩
 |.tup cs,x,O,r=>by
  simp only[RV,Vm.share]at r⊢;obtain⟨xs,e,r⟩:=r;exact⟨xs,e,RVs.share cs _ O r⟩
 |.junk,_,_,r=>by simp[RV,Vm.share]
 |.d c,_,_,r=>by simp only[RV,Vm.share]at r⊢;exact⟨r.1,λ_=>by trivial⟩
 |.nl,_,_,r=>by simp only[RV,Vm.share]at r⊢;exact⟨r.1,λ_=>by trivial⟩
 |.gl n,_,_,r=>by simp only[RV,Vm.share]at r⊢;exact⟨r.1,λ_=>by trivial⟩
 |.nilp,_,_,r=>by simp only[RV,Vm.share]at r⊢;exact⟨r.1,λ_=>by trivial⟩
 |.ptr _ _,_,_,r=>by simp only[RV,Vm.share]at r⊢;exact⟨r.1,λ_=>by trivial⟩
 |.pel _ _ _,_,_,r=>by simp only[RV,Vm.share]at r⊢;exact⟨r.1,λ_=>by trivial⟩
 |.pim _ _,_,_,r=>by simp only[RV,Vm.share]at r⊢;exact⟨r.1,λ_=>by trivial⟩
 |.sl _ _ _,_,_,r=>by simp only[RV,Vm.share]at r⊢;exact⟨r.1,λ_=>by trivial⟩
 |.fn _ _ _,_,_,r=>by simp only[RV,Vm.share]at r⊢;exact⟨r.1,λ_=>by trivial⟩
 |.nilf,_,_,r=>by simp only[RV,Vm.share]at r⊢;exact⟨r.1,λ_=>by trivial⟩
 |.yield _,_,_,r=>by simp only[RV,Vm.share]at r⊢;exact⟨r.1,λ_=>by trivial⟩
theorem RVs.share {g:Gh}{w:World}:∀(vs:D_) (xs:M_) (O:Nat->Nat),RVs g w vs xs O->RVs g w (shareAll vs) xs zero
 |[],_,_,r=>by simp only[RVs,aeA]at r⊢;exact⟨r.1,λ_=>by trivial⟩
 |v::vs,xs,O,r=>by
  simp only[RVs,rD]at r⊢;obtain⟨x,s,O1,O2,e,r1,r2,_⟩:=r;exact⟨x,s,zero,zero,e,RV.share v x O1 r1,RVs.share vs s O2 r2,λ_=>by trivial⟩
end
abbrev ae:=@Option.some.injEq
abbrev aM:=@Prod.mk.injEq
def mX:bX->Option Code
 |.normal=>none
 |.exit i=>some (.exit i)
 |.goto l=>some (.goto l)
 |.ret=>some .ret
abbrev kt (g:Gh)(w:World)(e:aT)(t:G_)(O:Nat->Nat):Prop :=
 RL (λk v O=>k<t.size∧RV g w v (t.getD k undef) O) e O
def kh (P:Program)(g:Gh)(w:World)(id:Nat):Obj->(Nat->Nat)->Prop
 |.cells cs,O=>∃b c el O1,g.obj id=some b∧g.base id=0∧g.esz id=1∧g.bsz id=cs.length∧
   w.heap[b]?=some (.cells c el (0,0))∧RVs g w cs c.toList O1∧(∀o,¬g.pm b o)∧∀x,O x=O1 x+one b x
 |.arr m xs,O=>(xs=[]∧g.bsz id=0∧g.esz id=m∧0<m∧(∃b,g.obj id=some b)∧∀b,O b=0)∨
   ∃b c el,g.obj id=some b∧g.esz id=m∧0<m∧w.heap[b]?=some (.cells c el (0,0))∧g.bsz id<=c.size∧
    g.base id+xs.length*m<=g.bsz id∧(∀e∈xs,e.length=m)∧jd w g.pm xs.flatten b (g.base id)∧(∀o,¬g.pm b o)∧∀x,O x=one b x
 |.loop snap params assign body busy pend,O=>∃b,∃rc:Go.Loop,g.obj id=some b∧w.heap[b]?=some (.loop rc)∧
   rc.state=(if busy then .busy else if pend.isNone then .ready else .done)∧rc.pending=pend.bind mX∧rc.params=params.toArray∧
   Mt P rc.tmps.size assign rc.assign∧Mt P rc.tmps.size body rc.body∧cQ snap∧kt g w snap rc.tmps zero∧(∀p∈params,p<rc.tmps.size)∧
   ∀x,O x=one b x
abbrev Ep (P:Program)(g:Gh)(w:World)(h:ak)(O:Nat->Nat):Prop:=RL (kh P g w) h O
structure S (P:Program)(g:Gh)(w:World)(st:St)(t:G_)(O:Nat->Nat):Prop where
 se:cQ st.env
 sh:cQ st.hs.heap
 parts:∃Oe Oh,kt g w st.env t Oe∧Ep P g w st.hs.heap Oh∧∀b,O b=Oe b+Oh b
 le:∀b,O b<=1
 hi:∀b,O b≠0->b<w.heap.size
 fresh:∀id,st.hs.next<=id->g.obj id=none
 pmlt:∀b o,g.pm b o->b<w.heap.size
def ev (t:G_):Operand->Value
 |.tmp i=>t.getD i undef
 |.const v=>v
 |.global g=>.pointer (some ⟨g,0,none⟩)
 |.func f=>.func (.func f) #[] #[]
def GL {a b:IntKind}(h:pg a b=true):a=b:=by
 cases a<;>cases b<;>first|rfl|grind [pg]
theorem RD.const {w:World}{pm:Nat->Nat->Prop}{c:D}{v:Value}(h:okD c v=true):RD w pm c v:=by
 unfold okD at h;split at h
 .simp only[af,decide_eq_true_eq]at h;obtain⟨h1,rfl⟩:=h;rw[GL h1];exact .int _ _
 .simp only[beq_iff_eq]at h;subst h;exact .bool _
 .rename_i s t;simp only[beq_iff_eq]at h;subst h;have:=RD.str (w:=w) (pm:=pm) t.data.toList;omega
 .exact .nil _ _
 simp_all
theorem RV.const1 {g:Gh}{w:World}{c:AV}{v:Value}(h:NZ c v=true):RV g w c v zero:=by
 unfold NZ at h
 grind [RV,RD.const]
theorem RVs.consts {g:Gh}{w:World}:∀{cs:D_}{vs:M_},pP cs vs=true->RVs g w cs vs zero
 |[],[],_=>by grind [RVs]
 |c::cs,v::vs,h=>by
  simp only[pP,af]at h;exact⟨v,vs,zero,zero,rfl,.const1 h.1,RVs.consts h.2,λ_=>rfl⟩
 |[],_::_,h=>by grind [pP]
 |_::_,[],h=>by grind [pP]
def RV.const {g:Gh}{w:World}{c:AV}{v:Value}(h:aa3 c v=true):RV g w c v zero:=by
 unfold aa3 at h
 grind [RV,RVs.consts,const1]
section
variable {P:Program}{g:Gh}{w:World}{t:G_}{O:Nat->Nat}
def S.of_env {st:St}(s:S P g w st t O){Oe Oh O':Nat->Nat}{e':aT}(re:kt g w e' t Oe)(rh:Ep P g w st.hs.heap Oh)(hse:cQ e')
  (ho:∀b,O' b=Oe b+Oh b)(hle:∀b,O' b<=O b):S P g w ⟨e',st.hs⟩ t O' :=
 ⟨hse,s.sh,⟨Oe,Oh,re,rh,ho⟩,λb=>aP (hle b) (s.le b),λb hb=>s.hi b e_,s.fresh,s.pmlt⟩
theorem S.rd {st:St}(s:S P g w st t O){r:Rd}{o:Operand}(hc:cI r o=true){v:AV}{e':aT}(h:rd st.env r=some (v,e')) :
  ∃Ov O',RV g w v (ev t o) Ov∧S P g w ⟨e',st.hs⟩ t O'∧∀b,Ov b+O' b<=O b:=by
 obtain⟨Oe,Oh,re,rh,ho⟩:=s.parts
 cases r with
 |c c =>
  simp only[Vm.rd,ae,aM]at h;obtain⟨rfl,rfl⟩:=h;refine⟨zero,O,?_,s,λb=>by simp⟩
  cases o with
  |const x=>exact .const hc
  |func f =>
   cases c<;>try (simp[cI]at hc;done)
   rename_i f' a c
   cases a<;>try (simp[cI]at hc;done)
   cases c<;>try (simp[cI]at hc;done)
   grind [cI,Nat.beq_eq,RV,ev,RVs]
  |tmp i=>simp[cI]at hc
  |global i=>simp[cI]at hc
 |s i =>
  cases o<;>try (simp[cI]at hc;done)
  simp only[cI,aC]at hc;subst hc;simp only[Vm.rd]at h
  cases hg:get st.env i with
  |none=>simp_all
  |some u =>
   simp only[hg,ae,aM]at h;obtain⟨rfl,rfl⟩:=h;obtain⟨O1,⟨_,q⟩,hq⟩:=RL.get re hg;exact⟨zero,O,RV.share u _ O1 q,s,λb=>by simp⟩
 |m i =>
  cases o<;>try (simp[cI]at hc;done)
  simp only[cI,aC]at hc;subst hc;simp only[Vm.rd]at h
  cases hg:get st.env i with
  |none=>simp_all
  |some u =>
   simp only[hg,ae,aM]at h;obtain⟨rfl,rfl⟩:=h;obtain⟨O1,O2,⟨_,q⟩,r2,hs⟩:=RL.take re hg;refine⟨O1,λb=>O2 b+Oh b,q,s.of_env r2 rh (s.se.del i) (λ_=>rfl) (λb=>?_),λb=>?_⟩
   all_goals grind
theorem S.rdAll {st:St}{rs:S_}{os:List Operand}(hc:ep rs os=true){vs:D_}{e':aT}(s:S P g w st t O)(h:rdAll st.env rs=some (vs,e')) :
  ∃Ov O',RVs g w vs (os.map (ev t)) Ov∧S P g w ⟨e',st.hs⟩ t O'∧∀b,Ov b+O' b<=O b:=by
 induction rs generalizing os vs st O with
 |nil =>
  cases os<;>simp[ep]at hc
  obtain⟨rfl,rfl⟩:=h;exact⟨zero,O,by simp[RVs],s,λb=>by simp⟩
 |cons r rs ih =>
  cases os with
  |nil=>simp[ep]at hc
  |cons o os =>
   simp only[ep,af]at hc;simp only[Vm.rdAll]at h
   cases h1:Vm.rd st.env r with
   |none=>simp_all
   |some p =>
    obtain⟨v,e1⟩:=p;simp only[h1]at h
    cases h2:Vm.rdAll e1 rs with
    |none=>simp_all
    |some p =>
     simp only[h2,ae,aM]at h;obtain⟨rfl,rfl⟩:=h;obtain⟨O1,O2,rv,s2,l2⟩:=s.rd hc.1 h1;obtain⟨O3,O4,rvs,s4,l4⟩:=ih (st:=⟨e1,st.hs⟩) hc.2 s2 h2;refine⟨λb=>O1 b+O3 b,O4,?_,s4,λb=>?_⟩
     all_goals grind [RVs]
end
structure ayd (P:Program)(g:Gh)(w:World)(t:G_)(O:Nat->Nat)(st':St)(a:AV)(res:Result Next)(x:Value)(w':World)(g':Gh)(Oa O':Nat->Nat):Prop where
 run:res=.ok (.value x) w'∨(res=.ok .skip w'∧x=undef)
 val:RV g' w' a x Oa
 st:S P g' w' st' t O'
 ext:bI g w g' w' λb=>O b≠0
 le:∀b,Oa b+O' b<=1
 old:∀b,b<w.heap.size->Oa b+O' b<=O b
 hi:∀b,Oa b≠0->b<w'.heap.size
def fH (P:Program)(g:Gh)(w:World)(t:G_)(O:Nat->Nat)(st':St)(a:AV)(res:Result Next):Prop :=
 ∃x w' g' Oa O',ayd P g w t O st' a res x w' g' Oa O'
section
variable {P:Program}{g:Gh}{w:World}{t:G_}{O:Nat->Nat}{st st':St}{a:AV}{o:Oper}
theorem fH.pure {res:Result Next}{x:Value}{Oa O':Nat->Nat}(s0:S P g w st t O)(h:res=.ok (.value x) w)(r:RV g w a x Oa)
  (s:S P g w st' t O')(hle:∀b,Oa b+O' b<=O b):fH P g w t O st' a res :=
 ⟨x,w,g,Oa,O',.inl h,r,s,.refl _ _ _,λb=>aP (hle b) (s0.le b),λb _=>hle b,λb hb=>s0.hi b e_⟩
theorem fH.flat {res:Result Next}{x:Value}{O':Nat->Nat}(s0:S P g w st t O)(h:res=.ok (.value x) w)(r:RV g w a x zero)
  (s:S P g w st' t O')(hle:∀b,O' b<=O b):fH P g w t O st' a res :=
 .pure s0 h r s λb=>by simp_all
def S.le_left {O' Ov:Nat->Nat}(h:∀b,Ov b+O' b<=O b):∀b,O' b<=O b:=λb=>by grind
def RE {e:aT}{r:Rd}{α:Type}{k:AV->aT->Option α}{y:α}
  (h:(match rd e r with|some (v,e)=>k v e|none=>none)=some y):∃v e',rd e r=some (v,e')∧k v e'=some y:=by
 grind
def ayi {x:Rd}(s:S P g w st t O)(h:UD x st=some (a,st'))(hc:bw P (.mov x) o.op=true) :
  fH P g w t O st' a ((execOp (ev t) o).run P w):=by
 obtain⟨v,e',h1,h2⟩:=RE h;obtain⟨rfl,rfl⟩:=h2;obtain⟨dst,op,ty,pos,aft,gd⟩:=o;simp only[bw]at hc;split at hc
 .obtain⟨Ov,O',rv,s',l⟩:=s.rd hc h1;exact .pure s (by simp[execOp]) rv s' l
 .obtain⟨Ov,O',rv,s',l⟩:=s.rd hc h1;exact .pure s (by simp[execOp]) rv s' l
 .rename_i c;simp only[af]at hc;obtain⟨⟨⟨hb,ha⟩,ht⟩,hx⟩:=hc
  cases x with
  |s i=>simp at hx
  |m i=>simp at hx
  |c y =>
   split at hx
   .rename_i n hy
    cases hu:P.underlying (um c) with
    |none=>simp_all
    |some d =>
     cases d<;>simp[hu]at hx
     rename_i l e;injection hy with hy
     subst hy;subst hx;obtain⟨rfl,rfl⟩:=h1;obtain⟨callee,args,argTypes⟩:=c;have hcal:callee=.builtin .len:=by
      cases callee<;>simp[rB,Qi]at hb
      simp_all
     subst hcal;have hty:argTypes[0]?=some (um ⟨.builtin .len,args,argTypes⟩):=by
      simp_all [um]
     have hargs:∃z,(args.map (ev t))[0]?=some z:=by
      simp_all
     obtain⟨z,hz⟩:=hargs;refine .flat s (x:=.int .i64 l) ?_ (by simp only[RV];exact⟨.int _ _,λ_=>trivial⟩) s (λb=>ai _);simp[execOp,resolve,invoke,builtin,Builtin.len_,hty,hz,underlying,hu,goInt]
   simp_all
 simp_all
def atA {c x y:Rd}(s:S P g w st t O)(h:lQ c x y st=some (a,st'))(hc:bw P (.pick c x y) o.op=true) :
  fH P g w t O st' a ((execOp (ev t) o).run P w):=by
 obtain⟨dst,op,ty,pos,aft,gd⟩:=o;simp only[bw]at hc;split at hc
 .rename_i c' a' b';simp only[af]at hc;obtain⟨⟨h1,h2⟩,h3⟩:=hc;unfold lQ at h
  cases hr:rd st.env c with
  |none=>simp_all
  |some p =>
   obtain⟨v,e1⟩:=p;obtain⟨Ov,O1,rv,s1,l1⟩:=s.rd h1 hr;simp only[hr]at h
   cases v<;>try (simp at h;done)
   rename_i d
   cases d<;>try (simp at h;done)
   rename_i tb;have hev:ev t c'=.bool tb:=by
    obtain⟨rv,_⟩:=rv;generalize ev t c'=z at rv;cases rv;rfl
   obtain⟨v,e2,h4,h5⟩:=RE h;obtain⟨rfl,rfl⟩:=h5
   cases tb with
   |true =>
    obtain⟨Ov2,O2,rv2,s2,l2⟩:=s1.rd h2 h4;exact .pure s (by simp_all [execOp,asBool]) rv2 s2 λb=>by grind
   |false =>
    obtain⟨Ov2,O2,rv2,s2,l2⟩:=s1.rd h3 h4;exact .pure s (by simp_all [execOp,asBool]) rv2 s2 λb=>by grind
 simp_all
def ar3 {x:Rd}(s:S P g w st t O)(h:IW x st=some (a,st'))(hc:bw P (.nilck x) o.op=true) :
  fH P g w t O st' a ((execOp (ev t) o).run P w):=by
 obtain⟨dst,op,ty,pos,aft,gd⟩:=o;simp only[bw]at hc;split at hc
 .obtain⟨v,e',h1,h2⟩:=RE h;obtain⟨Ov,O',rv,s',l⟩:=s.rd hc h1
  cases v<;>simp only[ae,aM,reduceCtorEq]at h2
  all_goals
   obtain⟨rfl,rfl⟩:=h2;refine .pure s ?_ rv s' l;simp only[RV]at rv
  .obtain⟨⟨b,_,e⟩,_⟩:=rv;simp[execOp,e]
  .obtain⟨⟨b,_,e⟩,_⟩:=rv;simp[execOp,e]
  .obtain⟨⟨b,o,e,_⟩,_⟩:=rv;simp[execOp,e]
  .obtain⟨⟨xs,ys,e,_⟩,_⟩:=rv;simp[execOp,e]
  .obtain⟨⟨b,_,e⟩,_⟩:=rv;simp[execOp,e]
 simp_all
theorem ajk {k:IntKind}{n:Int}(h1:k.min<=n)(h2:n<=k.max):k.wrap n=n:=by
 cases k<;>simp[IntKind.min,IntKind.max,IntKind.signed,IntKind.bits]at h1 h2<;>
  simp[IntKind.wrap,IntKind.bits,IntKind.signed]<;>
  first|omega|(split<;>omega)
def NY (k:IntKind)(n:Int):wr k n=k.wrap n:=by
 have H:∀lo hi:Int,lo=k.min->hi=k.max->rY lo hi k n=k.wrap n:=by
  grind [rY,ajk]
 cases k<;>first|rfl|exact H _ _ d_ (by decide)
def Bw {v:AV}{x:Value}{Ov:Nat->Nat}{k:IntKind}{n:Int}(r:RV g w v x Ov)(h:v=.d (.int k n)):x=.int k n:=by
 subst h;cases r.1;rfl
def avz {k:IntKind}{x:Rd}(s:S P g w st t O)(h:JA k x st=some (a,st'))(hc:bw P (.conv k x) o.op=true) :
  fH P g w t O st' a ((execOp (ev t) o).run P w):=by
 obtain⟨dst,op,ty,pos,aft,gd⟩:=o;simp only[bw]at hc;split at hc
 .rename_i src ds y;simp only[af]at hc;obtain⟨⟨h1,h2⟩,h3⟩:=hc;unfold JA at h
  cases hr:rd st.env x with
  |none=>simp_all
  |some p =>
   obtain⟨v,e1⟩:=p;obtain⟨Ov,O1,rv,s1,l1⟩:=s.rd h3 hr;simp only[hr]at h
   cases v<;>try (simp at h;done)
   rename_i d
   cases d<;>try (simp at h;done)
   rename_i j n;obtain⟨rfl,rfl⟩:=h;have hx:=Bw rv rfl;simp only[apf]at h1;simp only[K3]at h2
   cases hd:P.underlying ds with
   |none=>simp_all
   |some dd =>
    cases dd<;>simp[hd]at h1
    have:=GL h1
    cases hs:P.underlying src with
    |none=>simp_all
    |some sd =>
     refine .flat s (x:=.int _ (IntKind.wrap _ n)) ?_ (by simp only[RV];exact⟨by rw[NY];exact .int _ _,λ_=>trivial⟩) s1 (S.le_left l1)
     simp_all [execOp,convert,underlying,Conv.intToInt]
 simp_all
end
abbrev sO:=@List.drop_eq_getElem_cons
abbrev aO:=@Sem.run_bind
abbrev bg:=@Result.andThen_ok
abbrev dP:=@Nat.le_of_ble_eq_true
section
variable {P:Program}{g:Gh}{w:World}{t:G_}{O:Nat->Nat}{st st':St}{a:AV}{o:Oper}
def C5 {v:AV}{x:Value}{Ov:Nat->Nat}{b:Bool}(r:RV g w v x Ov)(h:v=B_ b):x=.bool b:=by
 subst h;obtain⟨r,_⟩:=r;cases r;rfl
def ahk {v:AV}{x:Value}{Ov:Nat->Nat}{s:AF_}(r:RV g w v x Ov)(h:v=.d (.str s)):x=.string ⟨s.toArray⟩:=by
 subst h;obtain⟨r,_⟩:=r;cases r;rfl
def v9 (k:IntKind)(n:Int):RV g w (.d (.int k n)) (.int k n) zero:=by simp only[RV];exact⟨.int _ _,λ_=>trivial⟩
theorem IR (b:Bool):RV g w (B_ b) (.bool b) zero:=by simp only[RV];exact⟨.bool _,λ_=>trivial⟩
def Tm {x y:Rd}{x' y':Operand}(s:S P g w st t O)(hx:cI x x'=true)(hy:cI y y'=true){β:Type}{k:AV->AV->aT->Option β}{r:β}
  (h:(match rd st.env x with
   |some (a,e)=>(match rd e y with
    |some (b,e)=>k a b e
    |none=>none)
   |none=>none)=some r) :
  ∃a b e Oa Ob O',RV g w a (ev t x') Oa∧RV g w b (ev t y') Ob∧S P g w ⟨e,st.hs⟩ t O'∧(∀c,Oa c+Ob c+O' c<=O c)∧k a b e=some r:=by
 grind [S.rd]
def Ym (op:BinOp)(ty:TypeId)(x y:Operand)(k j:IntKind)(m n:Int):(eqGuard op ty x y (.int k m) (.int j n)).run P w=.ok () w:=by
 simp_all [eqGuard]
def Wh (op:BinOp)(ty:TypeId)(x y:Operand)(m n:Bool):(eqGuard op ty x y (.bool m) (.bool n)).run P w=.ok () w:=by
 simp_all [eqGuard]
def YZ (op:BinOp)(ty:TypeId)(x y:Operand)(m n:ByteArray):(eqGuard op ty x y (.string m) (.string n)).run P w=.ok () w:=by
 simp_all [eqGuard]
def avu (bs:ByteArray):∀(n i:Nat) (r:AF_),bs.size-i=n->ByteArray.toList.loop bs i r=r.reverse++bs.data.toList.drop i:=by
 intro n
 induction n with
 |zero =>
  intro i r h;rw[ByteArray.toList.loop];have hi:¬i<bs.size:=o_;have:bs.data.toList.length<=i:=u_
  grind [List.drop_eq_nil_of_le]
 |succ n ih =>
  intro i r h;have hi:i<bs.size:=o_;rw[ByteArray.toList.loop];rw[ih (i+1) _ o_];have hd:bs.data.toList.drop i=bs.get! i::bs.data.toList.drop (i+1):=by
   have hl:i<bs.data.toList.length:=hi;rw[sO hl]
   congr 1
   show _=bs.data.get!Internal i
   simp_all
  simp_all
def RZ (s:AF_):(⟨s.toArray⟩:ByteArray).toList=s:=by
 unfold ByteArray.toList
 simp_all [avu]
def abI {op:BinOp}{k j:IntKind}{m n:Int}{d:D}(h:IL op k m n=some d) :
  ∃x,(Op.shift op k m j n).run P w=.ok x w∧RD w g.pm d x:=by
 unfold IL at h;split at h
 .simp at h
 .have hn':¬n<0:=u_;unfold Op.shift
  cases op<;>simp only[reduceCtorEq,ae]at h
  .subst h;refine⟨.int k (k.wrap (m*2 ^ min n.toNat k.bits)),?_,?_⟩
   .simp[hn']
   .rw[NY];exact .int _ _
  .subst h;refine⟨.int k (m.fdiv (2 ^ min n.toNat k.bits)),?_,?_⟩
   .simp[hn']
   .exact .int _ _
def ana {op:BinOp}(hs:op≠.shl)(hs':op≠.shr){ty:TypeId}{k:IntKind}{m n:Int}{d:D}(h:kG op k m n=some d) :
  ∃x,(binOp op ty (.int k m) (.int k n)).run P w=.ok x w∧RD w g.pm d x:=by
 cases op<;>simp only[kG,Mz,reduceCtorEq,ae]at h<;>(try exact absurd rfl hs)<;>(try exact absurd rfl hs')
 .subst h;rw[NY];exact⟨_,by simp[binOp,Op.intArith],.int _ _⟩
 .subst h;rw[NY];exact⟨_,by simp[binOp,Op.intArith],.int _ _⟩
 .subst h;rw[NY];exact⟨_,by simp[binOp,Op.intArith],.int _ _⟩
 .split at h
  .simp at h
  .rename_i hn;simp only[ae]at h;subst h;rw[NY];exact⟨_,by simp_all [binOp,Op.intDiv],.int _ _⟩
 .split at h
  .simp at h
  .rename_i hn;simp only[ae]at h;subst h;exact⟨_,by simp_all [binOp,Op.intDiv],.int _ _⟩
 .subst h;exact⟨_,by simp[binOp,Op.intBits],.int _ _⟩
 .subst h;exact⟨_,by simp[binOp,Op.intBits],.int _ _⟩
 .subst h;exact⟨_,by simp[binOp,Op.intBits],.int _ _⟩
 .subst h;exact⟨_,by simp[binOp,Op.intBits],.int _ _⟩
 .subst h;exact⟨_,by simp[binOp,Op.intCmp];rfl,by exact .bool _⟩
 .subst h;exact⟨_,by simp[binOp,Op.intCmp];rfl,by exact .bool _⟩
 .subst h;exact⟨_,by simp[binOp,Op.intCmp];rfl,by exact .bool _⟩
 .subst h;exact⟨_,by simp[binOp,Op.intCmp];rfl,by exact .bool _⟩
 .subst h;exact⟨_,by simp[binOp,Op.intCmp];rfl,by exact .bool _⟩
 .subst h;exact⟨_,by simp[binOp,Op.intCmp];rfl,by exact .bool _⟩
def avH {op:BinOp}{ty:TypeId}{va vb r:AV}{x y:Value}{Oa Ob:Nat->Nat}(ra:RV g w va x Oa)(rb:RV g w vb y Ob)(h:dw op va vb=some r)
  (x' y':Operand):∃z,((do eqGuard op ty x' y' x y;binOp op ty x y:Sem Value)).run P w=.ok z w∧RV g w r z zero:=by
 unfold dw at h;split at h
 .rename_i k m j n;have hx:=Bw ra rfl;have hy:=Bw rb rfl;subst hx hy;simp only[aO,Ym,bg];split at h
  .rename_i d hd;simp only[ae]at h;subst h;have fin:(∃z,(binOp op ty (.int k m) (.int j n)).run P w=.ok z w∧RD w g.pm d z)->
     ∃z,(binOp op ty (.int k m) (.int j n)).run P w=.ok z w∧RV g w (.d d) z zero :=
    λ⟨z,h1,h2⟩=>⟨z,h1,by grind [RV]⟩
   apply fin;unfold xa at hd;split at hd
   .simp_all [binOp,abI]
   .simp_all [binOp,abI]
   .rename_i h1 h2;split at hd
    .rename_i hk;have:=GL hk
     simp_all [ana]
    simp_all
  simp_all
 .rename_i s u;have hx:=ahk ra rfl;have hy:=ahk rb rfl;subst hx hy;simp only[aO,YZ,bg]
  cases op<;>simp only[reduceCtorEq,ae]at h
  .split at h
   .rename_i hb;have hb2:s.length+u.length<=4294967296:=dP hb;injection h with h
    subst h;refine⟨.string (⟨s.toArray⟩++⟨u.toArray⟩),?_,?_⟩
    .have h1:(⟨s.toArray⟩:ByteArray).size=s.length:=by simp[ByteArray.size]
     have h2:(⟨u.toArray⟩:ByteArray).size=u.length:=by simp[ByteArray.size]
     have hm:¬(((s.length+u.length:Nat):Int) > IntKind.i64.max):=by
      have:IntKind.i64.max=9223372036854775807:=rfl;omega
     simp_all [binOp,Op.stringOp]
    .simp only[RV];exact⟨.str _,λ_=>trivial⟩
   simp_all
  .subst h
   simp_all [binOp,Op.stringOp,RZ,IR]
  .subst h
   simp_all [binOp,Op.stringOp,RZ,IR]
 simp_all
def awm {op:BinOp}{x y:Rd}(s:S P g w st t O)(h:OE op x y st=some (a,st'))(hc:bw P (.bin op x y) o.op=true) :
  fH P g w t O st' a ((execOp (ev t) o).run P w):=by
 obtain⟨dst,opp,ty,pos,aft,gd⟩:=o;simp only[bw]at hc;split at hc
 .rename_i op' ty' x' y' yt;simp only[af,abt,decide_eq_true_eq]at hc;obtain⟨⟨rfl,h1⟩,h2⟩:=hc;simp only[OE,Uv]at h;obtain⟨va,vb,e,Oa,Ob,O',ra,rb,s',l,hk⟩:=Tm s h1 h2 h;split at hk
  .rename_i r hr;obtain⟨rfl,rfl⟩:=hk;obtain⟨z,hz,rz⟩:=avH (P:=P) (ty:=ty') ra rb hr x' y';refine .flat s (x:=z) ?_ rz s' λb=>by grind
   simp only[execOp];rw[aO,hz];simp
  simp_all
 simp_all
def ba {ty:TypeId}{d:TypeDesc}(h:P.underlying ty=some d):(underlying ty).run P w=.ok d w:=by simp_all [underlying]
def Jg {ty:TypeId}(hu:P.underlying ty=some .bool)(d:Nat)(m n:Bool):(Op.equalIn (d+1) ty (.bool m) (.bool n)).run P w=.ok (m == n) w:=by
 unfold Op.equalIn;rw[aO,ba hu];simp
def ZY {ty:TypeId}(hu:P.underlying ty=some .bool)(neg:Bool)(m n:Bool) :
  (binOp (match neg with|true=>.neq|false=>.eql) ty (.bool m) (.bool n)).run P w=.ok (.bool (match neg with|true=>!(m == n)|false=>m == n)) w:=by
 have h:(Op.equal ty (.bool m) (.bool n)).run P w=.ok (m == n) w:=Jg hu 9999 m n
 cases neg
 .show((do pure (.bool (<-Op.equal ty (.bool m) (.bool n))):Sem Value)).run P w=_
  simp_all
 .show((do pure (.bool (!(<-Op.equal ty (.bool m) (.bool n)))):Sem Value)).run P w=_
  simp_all
def auF {neg:Bool}{x y:Rd}(s:S P g w st t O)(h:MD neg x y st=some (a,st'))(hc:bw P (.binb neg x y) o.op=true) :
  fH P g w t O st' a ((execOp (ev t) o).run P w):=by
 obtain⟨dst,opp,ty,pos,aft,gd⟩:=o;simp only[bw]at hc;split at hc
 .simp only[af,abt,decide_eq_true_eq]at hc;obtain⟨⟨⟨h0,hb⟩,h1⟩,h2⟩:=hc;obtain⟨va,vb,e,Oa,Ob,O',ra,rb,s',l,hk⟩:=Tm s h1 h2 h;split at hk
  .rename_i m n;obtain⟨rfl,rfl⟩:=hk;have hx:=C5 ra rfl;have hy:=C5 rb rfl;simp only[MW]at hb;split at hb
   .rename_i hu;refine .flat s (x:=_) ?_ (IR _) s' λb=>by grind
    have h:=ZY (P:=P) (w:=w) hu neg m n;simp only[execOp,hx,hy];rw[aO,aO,Wh]
    cases neg
    all_goals simp_all
   simp_all
  simp_all
 simp_all
def aAk {op:UnOp}{x:Rd}(s:S P g w st t O)(h:abf op x st=some (a,st'))(hc:bw P (.un op x) o.op=true) :
  fH P g w t O st' a ((execOp (ev t) o).run P w):=by
 obtain⟨dst,opp,ty,pos,aft,gd⟩:=o;simp only[bw]at hc;split at hc
 .rename_i op' ty' x';simp only[af,axW,decide_eq_true_eq]at hc;obtain⟨rfl,h1⟩:=hc;obtain⟨v,e,hr,hk⟩:=RE h;obtain⟨Ov,O',rv,s',l⟩:=s.rd h1 hr;split at hk
  .rename_i r hun;simp only[ae,aM]at hk;obtain⟨rfl,rfl⟩:=hk;unfold aaI at hun;split at hun
   .have hx:=Bw rv rfl
    cases op<;>simp only[reduceCtorEq,ae]at hun
    .subst hun;rw[NY];exact .flat s (x:=_) (by simp_all [execOp,Op.unary,Op.intArith]) (v9 _ _) s' (S.le_left l)
    .split at hun
     .rename_i d hd;simp only[ae]at hun;subst hun;simp only[Mz,ae]at hd;subst hd;exact .flat s (x:=_) (by simp_all [execOp,Op.unary,Op.intBits]) (v9 _ _) s' (S.le_left l)
     simp_all
   .have hx:=C5 rv rfl
    cases op<;>simp only[reduceCtorEq,ae]at hun
    subst hun;exact .flat s (x:=_) (by simp_all [execOp,Op.unary]) (IR _) s' (S.le_left l)
   simp_all
  simp_all
 simp_all
end
theorem lY (b off n:Nat):(⟨b,off,none⟩:Addr).add n=⟨b,off+n,none⟩:=by
 grind [Addr.add]
section
variable {g:Gh}{w:World}
theorem RVs.length {cs:D_}{xs:M_}{O:Nat->Nat}(r:RVs g w cs xs O):xs.length=cs.length:=by
 induction cs generalizing xs O<;>grind [RVs]
def RVs.split {a b:D_}{xs:M_}{O:Nat->Nat}(r:RVs g w (a++b) xs O) :
  ∃O1 O2,RVs g w a (xs.take a.length) O1∧RVs g w b (xs.drop a.length) O2∧∀c,O c=O1 c+O2 c:=by
 induction a generalizing xs O with
 |nil=>exact⟨zero,O,by simp[RVs],u_,λc=>by simp⟩
 |cons v a ih =>
  obtain⟨x,s,O1,O2,rfl,r1,r2,h⟩:=r;obtain⟨P1,P2,q1,q2,h2⟩:=ih r2;refine⟨λc=>O1 c+P1 c,P2,?_,u_,λc=>by grind⟩
  grind [RVs]
theorem RVs.join {a b:D_}{xs ys:M_}{O1 O2:Nat->Nat}(r1:RVs g w a xs O1)(r2:RVs g w b ys O2) :
  RVs g w (a++b) (xs++ys) λc=>O1 c+O2 c:=by
 induction a generalizing xs O1 with
 |nil =>
  simp_all [RVs]
 |cons v a ih =>
  grind [RVs]
def RVs.get {cs:D_}{xs:M_}{O:Nat->Nat}(r:RVs g w cs xs O){i:Nat}{v:AV}(h:cs[i]?=some v) :
  ∃x O1,xs[i]?=some x∧RV g w v x O1∧∀c,O1 c<=O c:=by
 induction cs generalizing xs O i<;>grind [RVs]
def RVs.pull {cs:D_}{xs:M_}{O:Nat->Nat}(r:RVs g w cs xs O){i:Nat}{v:AV}(h:cs[i]?=some v) :
  ∃x O1 O2,xs[i]?=some x∧RV g w v x O1∧RVs g w (cs.set i .junk) xs O2∧∀c,O1 c+O2 c=O c:=by
 induction cs generalizing xs O i with
 |nil=>simp at h
 |cons c cs ih =>
  obtain⟨x,s,O1,O2,rfl,r1,r2,hs⟩:=r
  cases i with
  |zero =>
   simp at h;subst h;refine⟨x,O1,O2,rfl,r1,?_,λc=>(hs c).symm⟩;exact⟨x,s,zero,O2,rfl,by simp[RV],r2,λc=>by simp⟩
  |succ i =>
   obtain⟨y,P1,P2,h1,h2,h3,h4⟩:=ih r2 h;refine⟨y,P1,λc=>O1 c+P2 c,u_,h2,?_,λc=>by grind⟩
   grind [RVs]
theorem RVs.sub {cs:D_}{xs:M_}{O:Nat->Nat}(r:RVs g w cs xs O)(off n:Nat) :
  ∃O1,RVs g w (Vm.sub cs off n) ((xs.drop off).take n) O1∧∀c,O1 c<=O c:=by
 have hlen:=r.length;have e:cs=cs.take off++(Vm.sub cs off n++(cs.drop off).drop n):=by
  grind [Vm.sub,List.take_append_drop]
 rw[e]at r;obtain⟨O1,O2,r1,r2,h⟩:=r.split;obtain⟨P1,P2,q1,q2,h2⟩:=r2.split;refine⟨P1,?_,λc=>by grind⟩
 grind [List.length_take,Nat.min_eq_left,Nat.min_eq_right,List.drop_eq_nil_of_le,Vm.sub,List.length_drop,List.take_of_length_le]
def R6 {v:AV}{n:Nat}{x:Value}{O:Nat->Nat}(h:lenOf v=some n)(r:RV g w v x O):∃a cap,x=.slice a n cap:=by
 unfold lenOf at h;split at h<;>simp only[ae,reduceCtorEq]at h
 .obtain⟨r,_⟩:=r
  cases r<;>simp_all
 all_goals grind [RV,EP]
end
section
variable {P:Program}{g:Gh}{w:World}{t:G_}{O:Nat->Nat}{st st':St}{a:AV}{o:Oper}
def rT {c:Callee}{b:Builtin}(h:Qi (rB c) (some b)=true):c=.builtin b:=by
 cases c<;>simp[rB,Qi]at h
 simp_all
def aaT {c:Call}(h:Nat.blt 0 c.argTypes.size=true):c.argTypes[0]?=some (um c):=by
 simp_all [um]
def amU {x:Rd}{as:Array Operand}(h:ep [x] as.toList=true):∃y,as=#[y]∧cI x y=true:=by
 obtain⟨l⟩:=as
 match l,h with
 |[],h=>simp[ep]at h
 |[y],h=>grind [ep]
 |_::_::_,h=>simp[ep]at h
def al3 {x x2:Rd}{as:Array Operand}(h:ep [x,x2] as.toList=true):∃y y2,as=#[y,y2]∧cI x y=true∧cI x2 y2=true:=by
 obtain⟨l⟩:=as
 match l,h with
 |[],h=>simp[ep]at h
 |[y],h=>simp[ep]at h
 |[y,y2],h=>grind [ep]
 |_::_::_::_,h=>simp[ep]at h
def ayr {x:Rd}(s:S P g w st t O)(h:TM x st=some (a,st'))(hc:bw P (.len x) o.op=true) :
  fH P g w t O st' a ((execOp (ev t) o).run P w):=by
 simp only[bw]at hc;split at hc
 .simp only[af]at hc;obtain⟨⟨⟨h1,h2⟩,h3⟩,h4⟩:=hc;have:=rT h1;obtain⟨y,e1,hy⟩:=amU h4;obtain⟨v,e',h5,h6⟩:=RE h;obtain⟨Ov,O',rv,s',l⟩:=s.rd hy h5;have hty:=aaT h2;split at h6
  .rename_i n hn;obtain⟨rfl,rfl⟩:=h6;obtain⟨ad,cap,hx⟩:=R6 hn rv;split at h3
   .refine .flat s (x:=.int .i64 n) ?_ (v9 _ _) s' (S.le_left l)
    simp_all [execOp,resolve,invoke,builtin,Builtin.len_,goInt,ba]
   simp_all
  simp_all
 simp_all
def ayj {x:Rd}(s:S P g w st t O)(h:Pv x st=some (a,st'))(hc:bw P (.cap x) o.op=true) :
  fH P g w t O st' a ((execOp (ev t) o).run P w):=by
 obtain⟨dst,op,ty,pos,aft,gd⟩:=o;simp only[bw]at hc;split at hc
 .rename_i c;simp only[af]at hc;obtain⟨⟨⟨h1,h2⟩,h3⟩,h4⟩:=hc;obtain⟨callee,args,ats⟩:=c;have:=rT h1;subst this;obtain⟨y,e1,hy⟩:=amU h4;subst e1;unfold Pv at h;split at h
  .rename_i e' h5;obtain⟨Ov,O',rv,s',l⟩:=s.rd hy h5;have hty:=aaT h2;obtain⟨rfl,rfl⟩:=h;split at h3
   .rename_i e hu;refine .flat s (x:=.int .i64 0) ?_ (v9 _ _) s' (S.le_left l);simp[execOp,resolve,invoke,builtin,Builtin.cap_,hty,rv.1,ba hu,goInt]
   simp_all
  simp_all
 simp_all
def Yk {v r:AV}{off:Nat}{x:Value}{Ov:Nat->Nat}(h:gX off v=some r)(rv:RV g w v x Ov) :
  ∃b o,x=.pointer (some ⟨b,o,none⟩)∧RV g w r (.pointer (some ⟨b,o+off,none⟩)) zero:=by
 unfold gX at h
 grind [RV]
def azO {off:Nat}{p:Rd}(s:S P g w st t O)(h:abp off p st=some (a,st'))(hc:bw P (.fa off p) o.op=true) :
  fH P g w t O st' a ((execOp (ev t) o).run P w):=by
 obtain⟨dst,op,ty,pos,aft,gd⟩:=o;simp only[bw]at hc;split at hc
 .simp only[af]at hc;obtain⟨h1,h2⟩:=hc;obtain⟨v,e',h5,h6⟩:=RE h;obtain⟨Ov,O',rv,s',l⟩:=s.rd h2 h5;split at h6
  .rename_i r hr;obtain⟨rfl,rfl⟩:=h6;obtain⟨b,k,hx,rr⟩:=Yk hr rv;simp only[ajr]at h1;split at h1
   .split at h1
    .split at h1
     .rename_i i hi;have hz:¬i.size=0:=by
       grind [Nat.blt_eq]
      refine .flat s (x:=_) ?_ rr s' (S.le_left l)
      simp_all [execOp,Instr.fieldAt,Instr.sureAddr,fieldPlace,sizeOf,typeInfo,lY,ba]
     simp_all
    simp_all
   simp_all
  simp_all
 simp_all
def atH {f:FuncId}{first caps:S_}(s:S P g w st t O)(h:Jl f first caps st=some (a,st'))(hc:bw P (.mkfn f first caps) o.op=true) :
  fH P g w t O st' a ((execOp (ev t) o).run P w):=by
 obtain⟨dst,op,ty,pos,aft,gd⟩:=o;simp only[bw]at hc;split at hc
 .rename_i f' xs ys;simp only[af,aC]at hc;obtain⟨⟨rfl,h1⟩,h2⟩:=hc;unfold Jl at h;split at h
  .rename_i va e1 h3;obtain⟨O1,O2,r1,s1,l1⟩:=s.rdAll h1 h3;split at h
   .rename_i vc e2 h4;obtain⟨O3,O4,r2,s2,l2⟩:=s1.rdAll h2 h4;obtain⟨rfl,rfl⟩:=h;refine .flat s (x:=.func (.func f) (xs.map (ev t)) (ys.map (ev t))) (by simp[execOp,Instr.makeFunc]) ?_ s2 λb=>by grind
    simp only[RV];exact⟨⟨_,_,rfl,by simpa using RVs.share _ _ _ r1,by simpa using RVs.share _ _ _ r2⟩,λ_=>trivial⟩
   simp_all
  simp_all
 simp_all
end
abbrev br:=@getElem?_pos
abbrev co:=@List.getElem?_eq_getElem
section
variable {P:Program}{g:Gh}{w:World}{t:G_}{O:Nat->Nat}{st st':St}{a:AV}{o:Oper}
def KI {v:AV}{n:Nat}{x:Value}{Ov:Nat->Nat}(h:s9 v=some n)(r:RV g w v x Ov):∃k,x=.int k (n:Int):=by
 unfold s9 at h;split at h<;>simp only[ae,reduceCtorEq]at h;obtain⟨r,_⟩:=r;cases r;simp_all
def Gk {v:AV}{n top:Nat}{x:Value}{Ov:Nat->Nat}(h:gJ v top=some n)(r:RV g w v x Ov):(∃k,x=.int k (n:Int))∧n<=top:=by
 unfold gJ at h;split at h
 .split at h<;>simp only[ae,reduceCtorEq]at h;obtain⟨r,_⟩:=r;cases r;simp_all
 simp_all
def eQ {ty:TypeId}{n:Nat}(h:xE P ty n=true):(sizeOf ty).run P w=.ok n w:=by
 unfold xE at h;split at h<;>simp_all [sizeOf,typeInfo]
def yT {ty:TypeId}(h:DM P ty=true):(isAgg ty).run P w=.ok true w:=by
 unfold DM at h;split at h<;>simp_all [isAgg,ba]
def DX {ty:TypeId}(h:KO P ty=true):(isAgg ty).run P w=.ok false w:=by
 unfold KO at h;split at h<;>try (simp at h;done)
 simp_all [isAgg,ba]
def ahb {ty:TypeId}{n:J_}(ht:rU P ty n=true){cs:D_}{xs:G_}{Ov:Nat->Nat}(r:RVs g w cs xs.toList Ov){off:Nat}{v:AV}
  (h:GN n cs off=some v) :
  ∃x O1,(part ty xs off).run P w=.ok x w∧RV g w v x O1∧∀b,O1 b<=Ov b:=by
 cases n with
 |none =>
  simp only[rU]at ht;obtain⟨x,O1,hx,rv,l⟩:=r.get h;refine⟨x,O1,?_,rv,l⟩
  simp_all [part,DX]
 |some n =>
  simp only[rU,af]at ht;simp only[GN]at h;split at h
  .simp only[ae]at h;subst h;obtain⟨O1,r1,l⟩:=r.sub off n;refine⟨.agg (xs.extract off (off+n)),O1,by simp[part,yT ht.1,eQ ht.2],?_,l⟩
   simp_all [RV]
  simp_all
def axu {off:Nat}{n:J_}{x:Rd}(s:S P g w st t O)(h:OO off n x st=some (a,st'))(hc:bw P (.fld off n x) o.op=true) :
  fH P g w t O st' a ((execOp (ev t) o).run P w):=by
 simp only[bw]at hc;split at hc
 .simp only[af]at hc;obtain⟨h1,h2⟩:=hc;unfold OO at h;split at h
  .rename_i cs e' h5;obtain⟨Ov,O',rv,s',l⟩:=s.rd h2 h5;obtain⟨xs,hx,rv⟩:=rv;simp only[Vr]at h1;split at h1
   .split at h1
    .simp only[af,aC]at h1;obtain⟨rfl,h1⟩:=h1;split at h
     .rename_i v hv;obtain⟨rfl,rfl⟩:=h;obtain⟨z,O1,hz,rz,l1⟩:=ahb (P:=P) h1 rv hv;refine .pure s (x:=z) ?_ rz s' λb=>by grind
      simp_all [execOp,Instr.field,asAgg,ba]
     simp_all
    simp_all
   simp_all
  simp_all
 simp_all
def ayB {j:Nat}{mv:Bool}{i:Nat}(s:S P g w st t O)(h:DH j mv i st=some (a,st'))(hc:bw P (.ext j mv i) o.op=true) :
  fH P g w t O st' a ((execOp (ev t) o).run P w):=by
 obtain⟨dst,op,ty,pos,aft,gd⟩:=o;simp only[bw]at hc;split at hc
 .simp only[af,aC]at hc;obtain⟨rfl,rfl⟩:=hc;unfold DH at h;split at h
  .rename_i vs hg;split at h
   .rename_i v hv;obtain⟨Oe,Oh,re,rh,ho⟩:=s.parts;obtain⟨O1,O2,⟨hlt,q⟩,r2,hs⟩:=RL.take re hg;obtain⟨xs,hx,q⟩:=q;obtain⟨x,P1,P2,hx2,rv,rj,hl⟩:=q.pull hv;have hrun:(execOp (ev t) ⟨dst,.extract (.tmp j) i,ty,pos,aft,gd⟩).run P w=.ok (.value x) w:=by
     simp_all [execOp,ev,Instr.extract]
    cases mv with
    |false =>
     grind [fH.flat,RV.share]
    |true =>
     obtain⟨rfl,rfl⟩:=h;obtain⟨O3,r3,h3⟩:=RL.put s.se r2 (i:=j) (x:=AV.tup (vs.set i .junk)) (O1:=P2) ⟨hlt,by grind [RV]⟩;refine .pure s hrun rv (s.of_env (O':=λb=>O3 b+Oh b) r3 rh (s.se.put _ _) (λ_=>rfl) λb=>?_) λb=>?_
     all_goals grind
   simp_all
  simp_all
 simp_all
def ao3 {ty:TypeId}{l e:Nat}(hu:P.underlying ty=some (.array l e)){xs:G_}{k:IntKind}{i n:Nat}(hi:i<l)(hs:xE P e n=true) :
  (Instr.index ty (.agg xs) (.int k (i:Int))).run P w=(part e xs (i*n)).run P w:=by
 simp[Instr.index,asIntOf,ba hu,hi,eQ hs]
def ayT {len n:Nat}{agg:Bool}{x i:Rd}(s:S P g w st t O)(h:Xc len n agg x i st=some (a,st'))(hc:bw P (.ix len n agg x i) o.op=true) :
  fH P g w t O st' a ((execOp (ev t) o).run P w):=by
 obtain⟨dst,op,ty,pos,aft,gd⟩:=o;simp only[bw]at hc;split at hc
 .simp only[af]at hc;obtain⟨⟨h1,h2⟩,h3⟩:=hc;unfold Xc at h;split at h
  .rename_i cs e1 h5;obtain⟨Ov,O1,rv,s1,l1⟩:=s.rd h2 h5;obtain⟨xs,hx,rv⟩:=rv;split at h
   .rename_i vi e2 h6;obtain⟨Oi,O2,ri,s2,l2⟩:=s1.rd h3 h6;split at h
    .rename_i k hk;obtain⟨kk,hk2⟩:=KI hk ri;split at h
     .simp at h
     .have hlt:k<len:=by grind [Nat.ble_eq]
      simp only[XP]at h1;split at h1
      .rename_i l el hu;simp only[af,aC]at h1;obtain⟨⟨rfl,hsz⟩,hag⟩:=h1;split at h
       .rename_i v hv;obtain⟨rfl,rfl⟩:=h;have hc:rU P el (aet agg n)=true:=by
         grind [rU,aet]
        obtain⟨z,O3,hz,rz,l3⟩:=ahb (P:=P) hc rv hv;refine .pure s (x:=z) ?_ rz s2 λb=>by grind
        simp only[execOp,hx,hk2];rw[aO,ao3 hu hlt hsz,hz];rfl
       simp_all
      simp_all
    simp_all
   simp_all
  simp_all
 simp_all
def ax6 {x i:Rd}(s:S P g w st t O)(h:PT x i st=some (a,st'))(hc:bw P (.ixs x i) o.op=true) :
  fH P g w t O st' a ((execOp (ev t) o).run P w):=by
 simp only[bw]at hc;split at hc
 .simp only[af]at hc;obtain⟨⟨h1,h2⟩,h3⟩:=hc;unfold PT at h;split at h
  .rename_i str e1 h5;obtain⟨Ov,O1,rv,s1,l1⟩:=s.rd h2 h5;have hx:=ahk rv rfl;split at h
   .rename_i vi e2 h6;obtain⟨Oi,O2,ri,s2,l2⟩:=s1.rd h3 h6;split at h
    .rename_i k hk;obtain⟨kk,hk2⟩:=KI hk ri;split at h
     .rename_i b hb;obtain⟨rfl,rfl⟩:=h;simp only[NA]at h1;split at h1
      .refine .flat s (x:=.int .u8 b.toNat) ?_ (v9 _ _) s2 λc=>by grind
       have hlen:k<str.length:=by
        grind
       have hg:(⟨str.toArray⟩:ByteArray)[k]?=some b:=by
        have hs:k<(⟨str.toArray⟩:ByteArray).size:=hlen;rw[br (⟨str.toArray⟩:ByteArray) k hs];rw[co hlen]at hb;exact hb
       simp_all [execOp,Instr.index,asIntOf,ba]
      simp_all
     simp_all
    simp_all
   simp_all
  simp_all
 simp_all
def avP {len n:Nat}{p i:Rd}(s:S P g w st t O)(h:Mq len n p i st=some (a,st'))(hc:bw P (.iarr len n p i) o.op=true) :
  fH P g w t O st' a ((execOp (ev t) o).run P w):=by
 obtain⟨dst,op,ty,pos,aft,gd⟩:=o;simp only[bw]at hc;split at hc
 .simp only[af]at hc;obtain⟨⟨h1,h2⟩,h3⟩:=hc;obtain⟨v,vi,e,Ov,Oi,O',rv,ri,s',l,hk⟩:=Tm s h2 h3 h;split at hk
  .rename_i k hk1;obtain⟨kk,hk2⟩:=KI hk1 ri;split at hk
   .simp at hk
   .have hlt:k<len:=by grind [Nat.ble_eq]
    split at hk
    .rename_i r hr;obtain⟨rfl,rfl⟩:=hk;obtain⟨b,off,hx,rr⟩:=Yk hr rv;simp only[TX]at h1;split at h1
     .rename_i l' el hu;simp only[af,aC]at h1;obtain⟨⟨rfl,hsz⟩,_⟩:=h1;refine .flat s (x:=_) ?_ rr s' λc=>by grind
      simp[execOp,hx,hk2,Instr.indexAt,asIntOf,ba hu,Instr.sureAddr,hlt,eQ hsz,lY]
     simp_all
    simp_all
  simp_all
 simp_all
end
abbrev Cb:=@Nat.succ_mul
abbrev bp:=@List.take_of_length_le
abbrev cU:=@List.mem_of_mem_drop
abbrev iu:=@List.mem_of_mem_take
abbrev bx:=@List.getElem?_drop
abbrev cm:=@Nat.add_assoc
abbrev cJ:=@Nat.mul_le_mul_right
theorem Ju {xs:F_}{m:Nat}(h:∀e∈xs,e.length=m)(l:Nat):(xs.drop l).flatten=xs.flatten.drop (l*m):=by
 induction xs generalizing l with
 |nil=>simp
 |cons a r ih =>
  cases l<;>simp_all [Cb,List.drop_append]
theorem I8 {xs:F_}{m:Nat}(h:∀e∈xs,e.length=m)(l:Nat):(xs.take l).flatten=xs.flatten.take (l*m):=by
 induction xs generalizing l with
 |nil=>simp
 |cons a r ih =>
  cases l<;>simp_all [Cb,List.take_append,bp]
def IV {xs:F_}{m:Nat}(h:∀e∈xs,e.length=m)(l n:Nat):∀e∈sub xs l n,e.length=m :=
 λe he=>h e (cU (iu he))
def oN {xs:F_}{m:Nat}(h:∀e∈xs,e.length=m)(l n:Nat):(sub xs l n).flatten=sub xs.flatten (l*m) (n*m):=by
 grind [sub,I8,Ju]
def ajX {α:Type}{xs:List α}{l n j:Nat}{c:α}(h:(sub xs l n)[j]?=some c):xs[l+j]?=some c∧j<n:=by
 grind [sub]
def kz {α:Type}{xs:List α}{l n:Nat}(h:l+n<=xs.length):(sub xs l n).length=n:=by
 grind [sub]
theorem S9 {xs:F_}{m:Nat}(h:∀e∈xs,e.length=m){i j:Nat}{e:V_}{c:D}(hi:xs[i]?=some e)(hj:e[j]?=some c) :
  xs.flatten[i*m+j]?=some c:=by
 rw[<-bx,<-Ju h]
 grind [List.drop_eq_getElem_cons]
section
variable {g:Gh}{w:World}
theorem RD.list {pm:Nat->Nat->Prop}{xs:F_}{x:Value}(r:RD w pm (.lst xs) x) :
  (xs=[]∧∃a cap,x=.slice a 0 cap)∨∃b off m cap,x=.slice (some ⟨b,off,none⟩) xs.length cap∧0<m∧xs.length<=cap∧(∀e∈xs,e.length=m)∧
   jd w pm xs.flatten b off∧∀j,j<xs.length*m->pm b (off+j):=by
 cases r with
 |nil a cap=>simp_all
 |lst xs b off m cap u hm hcap hl hc hr =>
  refine .inr ⟨b,off,m,cap,rfl,hm,hcap,hl,λj c hj=>⟨u j,(hc j c hj).1,hr j c hj⟩,λj hj=>?_⟩;have:j<xs.flatten.length:=by grind [fQ]
  simp_all
def abu {h:ak}{v:AV}{xs:F_}{x:Value}{O:Nat->Nat}(he:elems h v=some xs)(hn:wY v=false)(r:RV g w v x O) :
  RD w g.pm (.lst xs) x:=by
 cases v with
 |d c =>
  cases c<;>simp only[elems,reduceCtorEq,ae]at he
  grind [RV]
 |nl=>simp only[elems,ae]at he;subst he;rw[r.1];exact .nil _ _
 |own p m ys =>
  cases p<;>simp only[elems,reduceCtorEq,ae]at he
  have:=RV.share _ _ _ r
  grind [share,RV]
 |sl id off len=>simp[wY]at hn
 |_=>simp[elems]at he
theorem jd.sub {pm:Nat->Nat->Prop}{cs:V_}{b off:Nat}(r:jd w pm cs b off)(l n:Nat):jd w pm (Vm.sub cs l n) b (off+l):=by
 intro j c hj;obtain⟨h1,_⟩:=ajX hj;obtain⟨u,hu,hr⟩:=r _ c h1
 grind
def jd.elem {pm:Nat->Nat->Prop}{xs:F_}{m b off:Nat}(r:jd w pm xs.flatten b off)(hl:∀e∈xs,e.length=m){i:Nat}{e:V_}
  (hi:xs[i]?=some e):jd w pm e b (off+i*m):=by
 intro j c hj;obtain⟨u,hu,hr⟩:=r _ c (S9 hl hi hj)
 grind
def G6 {α:Type}{xs:List α}{i:Nat}{x:α}(h:xs[i]?=some x):i<xs.length:=by
 grind
end
section
variable {P:Program}{g:Gh}{w:World}{t:G_}{O:Nat->Nat}{st st':St}{a:AV}{o:Oper}
def iA {ty:TypeId}{m:Nat}(h:iK P ty m=true):∃e,P.underlying ty=some (.slice e)∧xE P e m=true∧0<m∧P.bytesOf e<=4096:=by
 grind [iK,Nat.blt_eq,Nat.ble_eq]
def UU {ty:TypeId}{n:Nat}(h:iK P ty n=true){b off len cap i:Nat}{k:IntKind}(hi:i<len) :
  (Instr.indexAt ty (.slice (some ⟨b,off,none⟩) len cap) (.int k (i:Int))).run P w=.ok (.pointer (some ⟨b,off+i*n,none⟩)) w:=by
 obtain⟨e,hu,hs,_⟩:=iA h;simp[Instr.indexAt,asIntOf,ba hu,hi,eQ hs,lY]
def aAj {n:Nat}{x i:Rd}(s:S P g w st t O)(h:aeY n x i st=some (a,st'))(hc:bw P (.ia n x i) o.op=true) :
  fH P g w t O st' a ((execOp (ev t) o).run P w):=by
 obtain⟨dst,op,ty,pos,aft,gd⟩:=o;simp only[bw]at hc;split at hc
 .rename_i ty' y j;simp only[af]at hc;obtain⟨⟨h1,h2⟩,h3⟩:=hc;obtain⟨v,vi,e,Ov,Oi,O',rv,ri,s',l,hk⟩:=Tm s h2 h3 h;split at hk
  .rename_i k hk1;obtain⟨kk,hk2⟩:=KI hk1 ri;have fin:∀{r:AV}{b off:Nat},(∃len cap bo oo,ev t y=.slice (some ⟨bo,oo,none⟩) len cap∧k<len∧b=bo∧off=oo+k*n)->
     RV g w r (.pointer (some ⟨b,off,none⟩)) zero->fH P g w t O ⟨e,st.hs⟩ r ((execOp (ev t) ⟨dst,.indexAddr ty' y j,ty,pos,aft,gd⟩).run P w):=by
    rintro r b off ⟨len,cap,bo,oo,hx,hlt,rfl,rfl⟩ rr
    refine .flat s (x:=_) ?_ rr s' λc=>by grind
    simp only[execOp,hx,hk2];rw[aO,UU h1 hlt];rfl
   have hnsl:wY v=false->∀{xs:F_}{el:V_},elems st.hs.heap v=some xs->xs[k]?=some el->el.length=n->
     fH P g w t O ⟨e,st.hs⟩ (.pim el 0) ((execOp (ev t) ⟨dst,.indexAddr ty' y j,ty,pos,aft,gd⟩).run P w):=by
    intro hn xs el he hxk hlen;have rd:=abu he hn rv;rcases rd.list with ⟨rfl,_⟩|⟨b,off,m,cap,hx,hm,hcap,hl,hrc,hp⟩
    .simp_all
    .have hmn:m=n:=e_;subst hmn;refine fin (b:=b) (off:=off+k*m) ⟨_,cap,b,off,hx,G6 hxk,rfl,rfl⟩ ?_;simp only[RV];refine⟨⟨b,off+k*m,s_,hrc.elem hl hxk,λq hq=>?_⟩,λ_=>trivial⟩;rw[cm];refine hp _ ?_;have:=G6 hxk;have:(k+1)*m<=xs.length*m:=cJ _ this
     grind
   split at hk
   .rename_i id off len;split at hk
    .simp at hk
    .have hlt:k<len:=by grind [Nat.ble_eq]
     obtain⟨hsl,_⟩:=rv;rcases hsl with ⟨rfl,_⟩|⟨b,cap,hob,hx,_,_⟩
     .omega
     obtain⟨Oe,Oh,re,rh,ho⟩:=s.parts
     grind [Nat.beq_eq,RL.get,kh,RV]
   .have hn:wY v=false:=by cases v<;>first|rfl|simp_all
    grind [Nat.beq_eq]
  simp_all
 simp_all
end
abbrev bS:=@if_false
section
variable {P:Program}{g:Gh}{w:World}{t:G_}{O:Nat->Nat}{st st':St}{a:AV}{o:Oper}
def RO (g:Gh)(w:World):L_->Option Value->Prop
 |none,none=>True
 |some v,some x=>∃Ov,RV g w v x Ov
 |_,_=>False
theorem S.rdOpt {r:AA_}{oo:Option Operand}(s:S P g w st t O)(hc:D9 r oo=true){vo:L_}{e':aT}(h:rdOpt st.env r=some (vo,e')) :
  ∃O',RO g w vo (oo.map (ev t))∧S P g w ⟨e',st.hs⟩ t O'∧∀b,O' b<=O b:=by
 cases r with
 |none =>
  cases oo<;>simp[D9]at hc
  obtain⟨rfl,rfl⟩:=h;exact⟨O,trivial,s,λb=>ai _⟩
 |some r =>
  cases oo with
  |none=>simp[D9]at hc
  |some o =>
   obtain⟨v,e1,h1,h2⟩:=RE h;obtain⟨rfl,rfl⟩:=h2;obtain⟨Ov,O',rv,s',l⟩:=s.rd hc h1;exact⟨O',⟨Ov,rv⟩,s',S.le_left l⟩
def yy {v:AV}{x:Value}{Ov:Nat->Nat}(r:RV g w v x Ov){n top y:Nat}(h:gJ v top=some n)(hy:top<=y)(c:BoundsCode) :
  (Instr.sliceBound x y c).run P w=.ok n w∧n<=top:=by
 obtain⟨⟨k,rfl⟩,hn⟩:=Gk h r;refine⟨?_,hn⟩;have:(n:Int)<=y:=o_
 simp_all [Instr.sliceBound,asIntOf]
def Y0 {lo hi mx:L_}{lo' hi' mx':Option Value}(r1:RO g w lo lo')(r2:RO g w hi hi')(r3:RO g w mx mx'){b:Bool}{len cap l h m:Nat}
  (hcap:len<=cap)(hb:I4 len lo hi mx=some (l,h,m)) :
  ∃m',(Instr.sliceBounds b len cap lo' hi' mx').run P w=.ok (l,h,m') w∧l<=h∧h<=len∧h<=m'∧m'<=cap:=by
 unfold I4 at hb;have fin:∀(h0 m':Nat),h0<=len->h0<=m'->m'<=cap->Gp lo h0 m=some (l,h,m)->
   ∃l',(match (generalizing:=false) lo' with|some v=>Instr.sliceBound v h0 (if mx'.isSome then .slice3C else .sliceB)|none=>pure 0).run P w=.ok l' w∧l'=l∧h0=h∧l<=h:=by
  intro h0 m' e1 e2 e3 e4
  cases lo with
  |none =>
   cases lo' with
   |some x=>exact r1.elim
   |none =>
    simp only[Gp,ae,aM]at e4;exact⟨0,rfl,e4.1,e4.2.1,o_⟩
  |some v =>
   cases lo' with
   |none=>exact r1.elim
   |some x =>
    obtain⟨Ov,rv⟩:=r1;simp only[Gp]at e4;split at e4
    .rename_i n hn;obtain⟨h1,h2⟩:=yy (P:=P) rv hn (ai h0) (if mx'.isSome then .slice3C else .sliceB)
     simp_all
    simp_all
 cases mx with
 |none =>
  cases mx' with
  |some x=>exact r3.elim
  |none =>
   simp only at hb
   cases hi with
   |none =>
    cases hi' with
    |some x=>exact r2.elim
    |none =>
     have hm:m=len:=by
      cases lo<;>grind [Gp]
     grind [Instr.sliceBounds,Sem.run_bind,Sem.run_pure,Result.andThen_ok]
   |some v =>
    cases hi' with
    |none=>exact r2.elim
    |some x =>
     obtain⟨Ov,rv⟩:=r2;split at hb
     .simp at hb
     .rename_i h0 hh;have hm:m=len:=by
       cases lo<;>grind [Gp]
      subst hm;obtain⟨h5,h6⟩:=yy (P:=P) rv hh hcap (if b then .sliceAcap else .sliceAlen);obtain⟨l',h1,rfl,rfl,h4⟩:=fin h0 cap h6 o_ (ai _) hb;refine⟨cap,?_,h4,h6,o_,ai _⟩
      grind [Instr.sliceBounds,Sem.run_bind,Sem.run_pure,Result.andThen_ok]
 |some vm =>
  cases mx' with
  |none=>exact r3.elim
  |some xm =>
   obtain⟨Om,rm⟩:=r3;simp only at hb;split at hb
   .simp at hb
   .rename_i m0 hm0;obtain⟨h7,h8⟩:=yy (P:=P) rm hm0 hcap (if b then .slice3Acap else .slice3Alen)
    cases hi with
    |none=>simp at hb
    |some v =>
     cases hi' with
     |none=>exact r2.elim
     |some x =>
      obtain⟨Ov,rv⟩:=r2;split at hb
      .simp at hb
      .rename_i h0 hh;have hm:m=m0:=by
        cases lo<;>grind [Gp]
       subst hm;obtain⟨h5,h6⟩:=yy (P:=P) rv hh (ai m) .slice3B;obtain⟨l',h1,rfl,rfl,h4⟩:=fin h0 m o_ h6 o_ hb;refine⟨m,?_,h4,o_,h6,o_⟩;simp only[Instr.sliceBounds,aO,bg,h5,h7]
       cases lo'<;>simp_all
def alP {b:Bool}{v u r:AV}{x y:Value}{Ov Ou:Nat->Nat}(rv:RV g w v x Ov)(ru:RV g w u y Ou)(h:Jm b v u=some r) :
  ∃z,(match b with|true=>Builtin.max2 x y|false=>Builtin.min2 x y).run P w=.ok z w∧RV g w r z zero:=by
 unfold Jm at h;split at h
 .rename_i k m j n;have hx:=Bw rv rfl;have hy:=Bw ru rfl;subst hx hy;split at h
  .cases b
   .simp only[aq,bS]at h;split at h
    .simp only[ae]at h;subst h
     simp_all [Builtin.min2,v9]
    .rename_i hd;simp only[decide_eq_false_iff_not]at hd;simp only[ae]at h;subst h;exact⟨.int k m,by simp[Builtin.min2,hd],v9 _ _⟩
   .simp only[bR]at h;split at h
    .simp only[ae]at h;subst h
     simp_all [Builtin.max2,v9]
    .rename_i hd;simp only[decide_eq_false_iff_not]at hd;simp only[ae]at h;subst h;exact⟨.int k m,by simp[Builtin.max2,hd],v9 _ _⟩
  simp_all
 simp_all
end
abbrev dA:=@Sem.run_pure
abbrev wM:=@Option.map_some
abbrev dC:=@Nat.add_mul
abbrev dp:=@Nat.zero_le
section
variable {P:Program}{g:Gh}{w:World}{t:G_}{O:Nat->Nat}{st st':St}{a:AV}{o:Oper}
def an3 {ty:TypeId}{sz:Nat}(hty:iK P ty sz=true){ad:Option Addr}{len cap l h m':Nat}{lo hi mx:Option Value}
  (hb:(Instr.sliceBounds true len cap lo hi mx).run P w=.ok (l,h,m') w) :
  (Instr.sliceAt ty (.slice ad len cap) lo hi mx).run P w=.ok (.slice (if m'=l then ad else ad.map (·.add (l*sz))) (h-l) (m'-l)) w:=by
 obtain⟨e,hu,hs,_⟩:=iA hty;simp only[Instr.sliceAt,aO,ba hu,bg,Instr.slice,hb,eQ hs,dA]
theorem RD.slice {w:World}{pm:Nat->Nat->Prop}{xs:F_}{ad:Option Addr}{len cap l h m' sz:Nat}(r:RD w pm (.lst xs) (.slice ad len cap))
  (hk:Nh sz xs=true)(h1:l<=h)(h2:h<=len)(h3:h<=m')(h4:m'<=cap) :
  RD w pm (.lst (sub xs l (h-l))) (.slice (if m'=l then ad else ad.map (·.add (l*sz))) (h-l) (m'-l)):=by
 rcases r.list with ⟨rfl,a,c,e⟩|⟨b,off,m,c,e,hm,hcap,hl,hrc,hp⟩
 .injection e with e1 e2 e3
  have hh:h-l=0:=o_;rw[hh];exact .nil _ _
 .injection e with e1 e2 e3
  subst e1 e2 e3;have hlen:(sub xs l (h-l)).length=h-l:=kz o_;by_cases hz:h-l=0
  .have:sub xs l (h-l)=[]:=u_;rw[this,hz];exact .nil _ _
  .have hml:m'≠l:=o_;have hsz:sz=m:=by
    cases xs<;>grind [Nh,Nat.beq_eq]
   subst hsz;simp only[wM,lY];have hsl:=IV hl l (h-l);have:=jd.rd (w:=w) (pm:=pm) (xs:=sub xs l (h-l)) (b:=b) (off:=off+l*sz) (m:=sz) (cap:=m'-l) hm o_ hsl
    (by simp_all [oN,jd.sub]) (λj hj=>?_)
   .simp_all
   .rw[hlen]at hj;rw[cm];refine hp _ ?_;have:l*sz+(h-l)*sz<=xs.length*sz:=by rw[<-dC];simp_all [cJ]
    omega
def ap0 {m:Nat}{x:Rd}{lo hi mx:AA_}(s:S P g w st t O)(h:MB m x lo hi mx st=some (a,st'))(hc:bw P (.slice m x lo hi mx) o.op=true) :
  fH P g w t O st' a ((execOp (ev t) o).run P w):=by
 obtain⟨dst,op,ty,pos,aft,gd⟩:=o;simp only[bw]at hc;split at hc
 .rename_i ty' y l' h' k';simp only[af]at hc;obtain⟨⟨⟨⟨h1,h2⟩,h3⟩,h4⟩,h5⟩:=hc;obtain⟨v,e1,r1,k1⟩:=RE h;obtain⟨Ov,O1,rv,s1,l1⟩:=s.rd h2 r1;split at k1
  .rename_i vl e2 r2;obtain⟨O2,q2,s2,l2⟩:=s1.rdOpt h3 r2;split at k1
   .rename_i vh e3 r3;obtain⟨O3,q3,s3,l3⟩:=s2.rdOpt h4 r3;split at k1
    .rename_i vm e4 r4;obtain⟨O4,q4,s4,l4⟩:=s3.rdOpt h5 r4;split at k1
     .rename_i hok;split at k1
      .rename_i r hr;simp only[ae,aM]at k1;obtain⟨rfl,rfl⟩:=k1;have hle:∀b,Ov b+O4 b<=O b:=λb=>by grind
       unfold IY at hr;split at hr
       .simp at hr
       .rename_i len hlen;obtain⟨ad,cap,hx⟩:=R6 hlen rv;split at hr
        .simp at hr
        .rename_i l hh mm hb;have fin:∀{cap:Nat}{r:AV},ev t y=.slice ad len cap->len<=cap->
           (∀m',l<=hh->hh<=len->hh<=m'->m'<=cap->∃Oa,(∀b,Oa b<=Ov b)∧RV g w r (.slice (if m'=l then ad else ad.map (·.add (l*m))) (hh-l) (m'-l)) Oa)->
           fH P g w t O ⟨e4,st.hs⟩ r ((execOp (ev t) ⟨dst,.slice ty' y l' h' k',ty,pos,aft,gd⟩).run P w):=by
          intro cap r hx hcap hr;obtain⟨m',e1,e2,e3,e4,e5⟩:=Y0 (P:=P) (w:=w) (b:=true) q2 q3 q4 hcap hb;obtain⟨Oa,hO,hr⟩:=hr m' e2 e3 e4 e5;refine .pure s (x:=_) ?_ hr s4 λb=>by grind
          simp only[execOp,hx];rw[aO,an3 h1 e1];rfl
         split at hr
         .rename_i xs;simp only[lenOf,ae]at hlen;subst hlen;split at hr
          .rename_i hk;simp only[ae]at hr;subst hr;simp only[RV]at rv;have hcap:xs.length<=cap:=by
            grind [RD.list]
           refine fin hx hcap λm' g1 g2 g3 g4=>⟨zero,λ_=>dp _,?_⟩
           grind [RV,RD.slice]
          simp_all
         .grind [RV]
         .rename_i k xs;simp only[lenOf,ae]at hlen;subst hlen;split at hr
          .rename_i hkm;rw[aC]at hkm;subst hkm;have rv0:=rv;simp only[RV,EP]at rv;have hshare:RD w g.pm (.lst xs) (ev t y):=by
            have:=RV.share _ _ _ rv0
            grind [share,RV]
           have hk:Nh k xs=true:=by
            cases xs<;>grind [Nh,Nat.beq_eq]
           have hcap:xs.length<=cap:=by
            grind
           split at hr
           .rename_i hhl;rw[aC]at hhl;subst hhl;simp only[ae]at hr;subst hr;refine fin hx hcap λm' g1 g2 g3 g4=>?_
            simp only[RV,EP];by_cases hml:m'=l
            .refine⟨zero,λ_=>dp _,.inl ⟨?_,λ_=>rfl,?_⟩⟩
             all_goals simp_all [sub]
            .rcases rv with ⟨rfl,hz,a,e⟩|⟨b,off,cap',c,el,e,hc1,hm,hl,hbk,hsz,hrc,hpm,hp,rfl⟩
             .grind
             .rw[hx]at e;injection e with e1 e2 e3
              subst e1 e3;have hlen:(sub xs l (xs.length-l)).length=xs.length-l:=kz o_;refine⟨one b,λ_=>ai _,.inr ⟨b,off+l*k,m'-l,c,el,?_,o_,hm,IV hl _ _,hbk,?_,?_,?_,λ_ j hj=>?_,rfl⟩⟩
              .grind [lY]
              .have:l*k+(m'-l)*k<=cap*k:=by rw[<-dC];exact cJ _ (by omega)
               omega
              .simp_all [oN,jd.sub]
              .intro o ho;obtain⟨h1,h2⟩:=hpm o ho;refine⟨h1,?_⟩;have:l*k+(xs.length-l)*k=xs.length*k:=by rw[<-dC];simp_all
               grind
              .rw[hlen]at hj;rw[cm];refine hp (by trivial) _ ?_;have:l*k+(xs.length-l)*k=xs.length*k:=by rw[<-dC];simp_all
               omega
           .simp only[ae]at hr;subst hr;refine fin hx hcap λm' g1 g2 g3 g4=>⟨zero,λ_=>dp _,?_⟩
            simp only[RV];rw[hx]at hshare;exact⟨hshare.slice hk g1 g2 g3 g4,λ_=>trivial⟩
          simp_all
         .rename_i id off len0;simp only[lenOf,ae]at hlen;subst hlen;simp only[ae]at hr;subst hr;simp only[RV]at rv;obtain⟨rv,_⟩:=rv;rcases rv with ⟨rfl,ad',e⟩|⟨b,cap',hob,e,hc1,hsz⟩
          .rw[hx]at e;injection e with e1 e2 e3
           subst e3;refine fin hx (ai _) λm' g1 g2 g3 g4=>⟨zero,λ_=>dp _,?_⟩
           simp only[RV];have h0:hh-l=0:=o_;have h1:m'-l=0:=o_;rw[h0,h1];exact⟨.inl ⟨rfl,_,rfl⟩,λ_=>trivial⟩
          .rw[hx]at e;injection e with e1 e2 e3
           subst e1 e3;have hesz:g.esz id=m:=by
            simp only[okSl]at hok;obtain⟨Oe,Oh,re,rh,ho⟩:=s.parts;split at hok
            .rename_i k xs hg;rw[aC]at hok;subst hok;obtain⟨O1,q,_⟩:=RL.get rh hg;simp only[kh]at q;rcases q with ⟨_,_,h,_⟩|⟨_,_,_,_,h,_⟩
             .exact h
             .exact h
            .rename_i cs hg;rw[aC]at hok;subst hok;obtain⟨O1,q,_⟩:=RL.get rh hg;obtain⟨_,_,_,_,_,_,h,_⟩:=q;exact h
            .simp at hok
           refine fin hx hc1 λm' g1 g2 g3 g4=>⟨zero,λ_=>dp _,?_⟩
           simp only[RV];refine⟨?_,λ_=>trivial⟩;by_cases hml:m'=l
           .have h0:hh-l=0:=o_;have h1:m'-l=0:=o_;rw[h0,h1];exact .inl ⟨rfl,_,rfl⟩
           .refine .inr ⟨b,m'-l,hob,?_,o_,?_⟩
            .rw[aa hml];simp only[wM,lY];rw[dC,hesz,cm]
            .have:(off+l+(m'-l))*g.esz id<=(off+cap)*g.esz id:=cJ _ o_;omega
         simp_all
      simp_all
     simp_all
    simp_all
   simp_all
  simp_all
 simp_all
def agY {b:Bool}:∀{vs:D_}{xs:M_}{Ovs:Nat->Nat}{v r:AV}{x:Value}{Ov:Nat->Nat},RV g w v x Ov->RVs g w vs xs Ovs->Ha b v vs=some r->
  (vs=[]->∃k n,v=.d (.int k n))->
  ∃z,(xs.foldlM (match b with|true=>Builtin.max2|false=>Builtin.min2) x).run P w=.ok z w∧RV g w r z zero
 |[],xs,_,v,r,x,Ov,rv,rvs,h,hi=>by
  simp only[RVs]at rvs;simp only[Ha,ae]at h;subst h;obtain⟨k,n,rfl⟩:=hi rfl;have hx:=Bw rv rfl
  simp_all [v9]
 |u::us,xs,_,v,r,x,Ov,rv,rvs,h,hi=>by
  obtain⟨y,s,O1,O2,rfl,r1,r2,_⟩:=rvs;simp only[Ha]at h;split at h
  .rename_i v2 hv;obtain⟨z,hz,rz⟩:=alP (P:=P) rv r1 hv;have hint:∃k n,v2=.d (.int k n):=by
    unfold Jm at hv
    grind
   obtain⟨z2,hz2,rz2⟩:=agY (b:=b) rz r2 h (λ_=>hint);refine⟨z2,?_,rz2⟩
   cases b
   all_goals simp_all
  simp_all
def an8 {b:Bool}{xs:S_}(s:S P g w st t O)(h:Ce b xs st=some (a,st'))(hc:bw P (.minmax b xs) o.op=true) :
  fH P g w t O st' a ((execOp (ev t) o).run P w):=by
 simp only[bw]at hc;split at hc
 .simp only[af]at hc;obtain⟨h1,h4⟩:=hc;have:=rT h1;unfold Ce at h;split at h
  .rename_i kk nn vs e hr;obtain⟨Ov,O',rvs,s',l⟩:=s.rdAll h4 hr;split at h
   .rename_i r hf;obtain⟨rfl,rfl⟩:=h;obtain⟨x,ys,O1,O2,he,r1,r2,_⟩:=rvs;obtain⟨z,hz,rz⟩:=agY (P:=P) (b:=b) r1 r2 hf λ_=>⟨_,_,rfl⟩
    refine .flat s (x:=z) ?_ rz s' (S.le_left l)
    cases b
    all_goals simp_all [Builtin.min_,execOp,resolve,invoke,builtin,Builtin.max_]
   simp_all
  simp_all
 simp_all
end
abbrev wm:=@Array.getElem?_eq_none
def Gh.add (g:Gh)(id b base esz bsz:Nat):Gh where
 obj i:=if i=id then some b else g.obj i
 base i:=if i=id then base else g.base i
 esz i:=if i=id then esz else g.esz i
 bsz i:=if i=id then bsz else g.bsz i
 pm:=g.pm
section
variable {P:Program}{g:Gh}{w:World}{t:G_}{O:Nat->Nat}{st st':St}{a:AV}{o:Oper}
theorem tS {w:World}{o:Go.Obj}{b:Nat}(h:b<w.heap.size):(w.alloc o).heap[b]?=w.heap[b]?:=by
 show(w.heap.push o)[b]?=_
 grind
theorem jR (w:World)(o:Go.Obj):(w.alloc o).heap[w.heap.size]?=some o:=by
 show(w.heap.push o)[w.heap.size]?=_
 simp_all
def bI.alloc (hp:∀b o,g.pm b o->b<w.heap.size)(o:Go.Obj)(T:Nat->Prop)(hc:∀off,gR o off=false:=by intro off;simp[gR]):bI g w g (w.alloc o) T where
 obj _ _ h:=⟨h,rfl,rfl,rfl⟩
 pm b o h:=⟨h,tu (tS (hp b o h)) o⟩
 blk b hb _:=⟨tS hb,λ_ h=>h⟩
 size:=s_
 lp b rc h:=⟨rc,by grind [tS]⟩
 same:=⟨rfl,rfl,λa=>by
  by_cases h:a.block<w.heap.size
  .grind [World.frozen?,tS]
  .have h2:w.heap[a.block]?=none:=wm o_;by_cases e:a.block=w.heap.size
   .have:=hc a.off;simp only[World.frozen?,e,jR];rw[<-e,h2]
    cases o<;>first|rfl|exact this
   .have h3:(w.alloc o).heap[a.block]?=none:=wm (by simp;omega)
    grind [World.frozen?]⟩
theorem bI.add {w':World}{T:Nat->Prop}(h:bI g w g w' T){id:Nat}(hn:g.obj id=none)(b base esz bsz:Nat):bI g w (g.add id b base esz bsz) w' T where
 obj i c hc:=by
  grind [Gh.add]
 pm b o hp:=h.pm b o hp
 blk:=h.blk
 size:=h.size
 lp:=h.lp
 same:=h.same
def kt.ext {g':Gh}{w':World}{T:Nat->Prop}(h:bI g w g' w' T){e:aT}(r:kt g w e t O)(hO:∀b,O b≠0->¬T b):kt g' w' e t O :=
 r.imp' λ_ v O1 _ hle q=>⟨q.1,RV.ext h v _ O1 q.2 λb hb=>hO b e_⟩
def kh.ext0 {g':Gh}{w':World}{T:Nat->Prop}(h:bI g w g' w' T){id:Nat}{o:Obj}(r:kh P g w id o O)(hO:∀b,O b≠0->¬T b):kh P g' w' id o O:=by
 cases o with
 |cells cs =>
  obtain⟨b,c,el,O1,h1,h2,h3,h4,h5,h6,h7,h8⟩:=r;obtain⟨a1,a2,a3,a4⟩:=h.obj id b h1;have hb:¬T b:=hO b u_;obtain⟨e1,e2⟩:=h.blk b (jH h5) hb;exact⟨b,c,el,O1,a1,a2.trans h2,a3.trans h3,a4.trans h4,e1.trans h5,RVs.ext h _ _ _ h6 (λx hx=>hO x u_),λo ho=>h7 o (e2 o ho),h8⟩
 |arr m xs =>
  simp only[kh]at r⊢;rcases r with ⟨h1,h2,h3,h4,⟨b,h5⟩,h6⟩|⟨b,c,el,h1,h2,h3,h4,h5,h6,h7,h8,h9,h10⟩
  .obtain⟨a1,a2,a3,a4⟩:=h.obj id b h5
   simp_all
  .obtain⟨a1,a2,a3,a4⟩:=h.obj id b h1;have hb:¬T b:=hO b u_;obtain⟨e1,e2⟩:=h.blk b (jH h4) hb
   grind [jd.ext]
 |loop snap params assign body busy pend =>
  obtain⟨b,rc,h1,h2,h3,h4,h5,h6,h7,h8,h9,h10,h12⟩:=r;obtain⟨a1,_⟩:=h.obj id b h1;have hb:¬T b:=hO b u_;obtain⟨e1,e2⟩:=h.blk b (jH h2) hb;exact⟨b,rc,a1,e1.trans h2,h3,h4,h5,h6,h7,h8,kt.ext h h9 s_,h10,h12⟩
def kh.ext {g':Gh}{w':World}{T:Nat->Prop}(h:bI g w g' w' T){id:Nat}{o:Obj}(r:kh P g w id o O)(hO:∀b,O b≠0->¬T b)
  (_:∀b ds,w.heap[b]?=some (.deferred ds)->¬T b):kh P g' w' id o O:=r.ext0 h hO
def S.new {st:St}(s:S P g w st t O){blk:Go.Obj}{o:Obj}{base esz bsz:Nat}{O1:Nat->Nat}
  (r:kh P (g.add st.hs.next w.heap.size base esz bsz) (w.alloc blk) st.hs.next o O1)(hle:∀b,O1 b+O b<=1)(hhi:∀b,O1 b≠0->b<w.heap.size+1)
  (hc:∀off,gR blk off=false:=by intro off;simp[gR]) :
  S P (g.add st.hs.next w.heap.size base esz bsz) (w.alloc blk) ⟨st.env,(Jf st.hs o).2⟩ t (λb=>O1 b+O b)∧
   bI g w (g.add st.hs.next w.heap.size base esz bsz) (w.alloc blk) (λb=>O b≠0):=by
 have hn:=s.fresh st.hs.next (ai _)
 have hx:bI g w (g.add st.hs.next w.heap.size base esz bsz) (w.alloc blk) (λ_=>False):=(bI.alloc s.pmlt blk _ hc).add hn _ _ _ _;obtain⟨Oe,Oh,re,rh,ho⟩:=s.parts;have re':=kt.ext hx re s_;have rh':Ep P (g.add st.hs.next w.heap.size base esz bsz) (w.alloc blk) st.hs.heap Oh:=rh.imp' λk v O1 _ _ q=>q.ext hx s_ (by simp)
 have hk:∀p∈st.hs.heap,p.1≠st.hs.next:=by
  intro p hp e;have:∃b,g.obj p.1=some b:=by
   clear re re' rh' hx r hle hhi ho;generalize st.hs.heap=l at rh hp
   induction l generalizing Oh with
   |nil=>simp at hp
   |cons q l ih =>
    obtain⟨k,v⟩:=q;obtain⟨Q1,Q2,q1,q2,_⟩:=rh;rcases aD.1 hp with rfl|hp
    .cases v<;>grind [kh]
    simp_all
  simp_all
 rw[<-ua hk]at rh';obtain⟨O3,r3,h3⟩:=RL.put s.sh rh' r;refine⟨⟨s.se,s.sh.put _ _,⟨Oe,O3,re',r3,λb=>?_⟩,hle,λb hb=>?_,λi hi=>?_,λb o hp=>?_⟩,hx.mono (λ_ _ h=>h.elim)⟩
 .grind
 .simp only[World.size_alloc];by_cases h1:O1 b=0
  .have:=s.hi b o_;omega
  simp_all
 .have hi':st.hs.next+1<=i:=hi
  grind [Gh.add,fresh]
 .simp only[World.size_alloc];have:=s.pmlt b o hp;omega
def aqd {zs:D_}(s:S P g w st t O)(h:MF zs st=some (a,st'))(hc:bw P (.alloc zs) o.op=true) :
  fH P g w t O st' a ((execOp (ev t) o).run P w):=by
 obtain⟨dst,op,ty,pos,aft,gd⟩:=o;simp only[bw]at hc;split at hc
 .rename_i e;split at hc
  .split at hc
   .rename_i z hz;obtain⟨rfl,rfl⟩:=h;have hO:O w.heap.size=0:=by
     have:=s.hi w.heap.size;omega
    have r:kh P (g.add st.hs.next w.heap.size 0 1 zs.length) (w.alloc (.cells z.cells e)) st.hs.next (.cells zs) (λx=>zero x+one w.heap.size x):=by
     refine⟨w.heap.size,z.cells,e,zero,by simp[Gh.add],by simp[Gh.add],by simp[Gh.add],by simp[Gh.add],jR _ _,RVs.consts hc,λo ho=>?_,λ_=>rfl⟩;have:=s.pmlt _ o ho;omega
    obtain⟨s',hx⟩:=s.new r (λb=>by
     by_cases hb:b=w.heap.size
     .simp_all
     .have:=s.le b;grind [one]) (λb hb=>by
     grind [xT])
    refine⟨.pointer (some ⟨w.heap.size,0,none⟩),_,_,zero,_,.inl ?_,?_,s',hx,λb=>by have:=s'.le b;simp_all,λb hb=>?_,s_⟩
    .simp_all [execOp,Instr.alloc,zeroValue,typeInfo,newVar,newRow]
    .simp_all [RV,Gh.add]
    grind [one]
   simp_all
  simp_all
 simp_all
end
section
variable {P:Program}{g:Gh}{w:World}{t:G_}{O:Nat->Nat}{st st':St}{a:AV}{o:Oper}
theorem ael {v:AV}{x:Value}{Ov:Nat->Nat}(h:bB v=true)(r:RV g w v x Ov):x.oneCell'=true:=by
 cases v with
 |junk=>simp[bB]at h
 |agg cs=>simp[bB]at h
 |tup cs=>simp[bB]at h
 |gl n=>obtain⟨⟨_,_,rfl⟩,_⟩:=r;rfl
 |d c=>obtain⟨r,_⟩:=r;cases r<;>rfl
 |nl=>rw[r.1];rfl
 |own p m xs=>rcases r with ⟨_,_,_,rfl⟩|⟨_,_,_,_,_,rfl,_⟩<;>rfl
 |nilp=>rw[r.1];rfl
 |ptr id off=>obtain⟨⟨_,_,rfl⟩,_⟩:=r;rfl
 |pel id i off=>obtain⟨⟨_,_,rfl⟩,_⟩:=r;rfl
 |pim cs off=>obtain⟨⟨_,_,rfl,_⟩,_⟩:=r;rfl
 |sl id off len=>rcases r with ⟨⟨_,_,rfl⟩|⟨_,_,_,rfl,_⟩,_⟩<;>rfl
 |fn f a c=>obtain⟨⟨_,_,rfl,_⟩,_⟩:=r;rfl
 |nilf=>rw[r.1];rfl
 |yield l=>obtain⟨⟨_,_,rfl⟩,_⟩:=r;rfl
def agD {x:Value}(h:x.oneCell'=true):x.cells=#[x]:=by cases x<;>first|rfl|grind [Value.oneCell']
theorem RV.cells {v:AV}{x:Value}{Ov:Nat->Nat}(h:v.cells.all bB=true)(r:RV g w v x Ov):RVs g w v.cells x.cells.toList Ov:=by
 have one:bB v=true->v.cells=[v]->RVs g w v.cells x.cells.toList Ov:=by
  intro h1 h2;rw[h2,agD (ael h1 r)];exact⟨x,[],Ov,zero,rfl,r,⟨rfl,λ_=>rfl⟩,λ_=>rfl⟩
 cases v with
 |agg cs =>
  obtain⟨xs,rfl,r⟩:=r;exact r
 |_=>grind [AV.cells]
theorem RVs.one {vs:D_}{xs:M_}{Ov:Nat->Nat}(h:vs.all bB=true)(r:RVs g w vs xs Ov):∀x∈xs,x.oneCell'=true:=by
 induction vs generalizing xs Ov<;>grind [RVs,ael]
def ax5 {x:Rd}(s:S P g w st t O)(h:UH x st=some (a,st'))(hc:bw P (.box x) o.op=true) :
  fH P g w t O st' a ((execOp (ev t) o).run P w):=by
 obtain⟨dst,op,ty,pos,aft,gd⟩:=o;simp only[bw]at hc;split at hc
 .rename_i e y;obtain⟨v,e1,r1,k1⟩:=RE h;obtain⟨Ov,O1,rv,s1,l1⟩:=s.rd hc r1;split at k1
  .rename_i hall;obtain⟨rfl,rfl⟩:=k1;have rvs:=rv.cells hall;have hn:=s1.fresh st.hs.next (ai _)
   have hO:∀b,w.heap.size<=b->O b=0:=by
    intro b hb;by_cases h:O b=0
    .exact h
    .have:=s.hi b h;omega
   have hx0:bI g w (g.add st.hs.next w.heap.size 0 1 v.cells.length) (w.alloc (.cells (ev t y).cells e)) (λ_=>False):=(bI.alloc s.pmlt _ _).add hn _ _ _ _;have r:kh P (g.add st.hs.next w.heap.size 0 1 v.cells.length) (w.alloc (.cells (ev t y).cells e)) st.hs.next (.cells v.cells) (λx=>Ov x+one w.heap.size x):=by
    refine⟨w.heap.size,(ev t y).cells,e,Ov,by simp[Gh.add],by simp[Gh.add],by simp[Gh.add],by simp[Gh.add],jR _ _,RVs.ext hx0 _ _ _ rvs s_,λo ho=>?_,λ_=>rfl⟩;have:=s.pmlt _ o ho;omega
   have key:∀b,Ov b+one w.heap.size b+O1 b<=1:=by
    intro b;by_cases hb:b=w.heap.size
    .have:=l1 w.heap.size;simp_all
    .have:=s.le b;grind [one]
   obtain⟨s',hx⟩:=s1.new r (λb=>key b) (λb hb=>by
    grind [xT])
   refine⟨.pointer (some ⟨w.heap.size,0,none⟩),_,_,zero,_,.inl ?_,?_,s',hx.mono λb _ hb=>by grind,λb=>by simp_all,λb hb=>?_,s_⟩
   .simp_all [execOp,Instr.box,newVar,newRow]
   .simp_all [RV,Gh.add]
   grind [one]
  simp_all
 simp_all
def KD {ty:TypeId}(h:KO P ty=true){ad:Addr}{x:Value}(hx:w.cell? ad=some x):(loadVar ty ad).run P w=.ok x w:=by
 simp_all [loadVar,DX]
end
abbrev bf:=@Nat.ble_eq
abbrev b7:=@Nat.zero_add
abbrev aw:=@List.append_assoc
abbrev b8:=@List.take_append_drop
section
variable {P:Program}{g:Gh}{w:World}{t:G_}{O:Nat->Nat}{st st':St}{a:AV}{o:Oper}
theorem gZ {b:Nat}{c:G_}{el:TypeId}{fz:Nat×Nat}(h:w.heap[b]?=some (.cells c el fz))(off:Nat):w.cell? ⟨b,off,none⟩=c[off]?:=by
 simp[World.cell?,h]
theorem RVs.replace {cs:D_}{xs:M_}{Ov:Nat->Nat}(r:RVs g w cs xs Ov){i:Nat}{v:AV}(h:cs[i]?=some v) :
  ∃x O1,xs[i]?=some x∧RV g w v x O1∧(∀b,O1 b<=Ov b)∧∀v2 O2,RV g w v2 x O2->∃O',RVs g w (cs.set i v2) xs O'∧∀b,O' b+O1 b=Ov b+O2 b:=by
 induction cs generalizing xs Ov i with
 |nil=>simp at h
 |cons c cs ih =>
  obtain⟨x,s,O1,O2,rfl,r1,r2,hs⟩:=r
  cases i with
  |zero =>
   simp at h;subst h;refine⟨x,O1,rfl,r1,λb=>by simp_all,λv2 P2 rv2=>⟨λb=>P2 b+O2 b,?_,λb=>by grind⟩⟩
   grind [RVs]
  |succ i =>
   obtain⟨y,P1,h1,h2,h3,h4⟩:=ih r2 h;refine⟨y,P1,u_,h2,λb=>by grind,λv2 P2 rv2=>?_⟩;obtain⟨O',r',h'⟩:=h4 v2 P2 rv2;refine⟨λb=>O1 b+O' b,?_,λb=>by grind⟩
   grind [RVs]
def acw (n:Nat){v:AV}{x:Value}{Ov:Nat->Nat}(r:RV g w v x Ov) :
  ∃O1 O2,RV g w (sX n v).1 x O1∧RV g w (sX n v).2 x O2∧∀b,O1 b+O2 b=Ov b:=by
 have share:=RV.share _ _ _ r;unfold sX;split
 .exact⟨Ov,zero,r,by simp[RV],λ_=>rfl⟩
 .grind
 .refine⟨Ov,zero,r,?_,λ_=>rfl⟩
  grind [RV,EP]
 grind
def Sp (n:Nat):∀{vs:D_}{xs:M_}{Ov:Nat->Nat},RVs g w vs xs Ov->
  ∃O1 O2,RVs g w (fN n vs).1 xs O1∧RVs g w (fN n vs).2 xs O2∧∀b,O1 b+O2 b=Ov b
 |[],xs,Ov,r=>by grind [RVs,fN]
 |v::vs,xs,Ov,r=>by
  obtain⟨x,s,O1,O2,rfl,r1,r2,hs⟩:=r;obtain⟨A1,A2,a1,a2,ha⟩:=acw n r1;obtain⟨B1,B2,b1,b2,hb⟩:=Sp n r2;refine⟨λb=>A1 b+B1 b,λb=>A2 b+B2 b,?_,?_,λb=>by grind⟩
  all_goals grind [RVs,fN]
theorem S.upd {st:St}(s:S P g w st t O){id:Nat}{ob:Obj}(hg:get st.hs.heap id=some ob) :
  ∃O1 Oz:Nat->Nat,kh P g w id ob O1∧(∀b,O1 b+Oz b<=O b)∧∀(ob':Obj) (O1':Nat->Nat),kh P g w id ob' O1'->(∀b,O1' b<=O1 b)->
   S P g w ⟨st.env,⟨put st.hs.heap id ob',st.hs.next⟩⟩ t (λb=>O1' b+Oz b):=by
 obtain⟨Oe,Oh,re,rh,ho⟩:=s.parts;obtain⟨O1,O2,q,r2,hs⟩:=RL.take rh hg;refine⟨O1,λb=>Oe b+O2 b,q,λb=>by grind,λob' O1' q' hle=>?_⟩;obtain⟨O3,r3,h3⟩:=RL.put s.sh r2 q';have hall:∀b,O1' b+(Oe b+O2 b)<=O b:=λb=>by grind
 exact⟨s.se,s.sh.put _ _,⟨Oe,O3,re,r3,λb=>by grind⟩,
  λb=>aP (hall b) (s.le b),λb hb=>s.hi b e_,s.fresh,s.pmlt⟩
def jd.vals {pm:Nat->Nat->Prop}{cs:V_}{b off:Nat}(r:jd w pm cs b off) :
  ∃xs:M_,xs.length=cs.length∧(∀(j:Nat) (x:Value),xs[j]?=some x->w.cell? ⟨b,off+j,none⟩=some x)∧∀(j:Nat) (c:D) (x:Value),cs[j]?=some c->xs[j]?=some x->RD w pm c x:=by
 induction cs generalizing off with
 |nil=>simp_all
 |cons c cs ih =>
  obtain⟨u,hu,hr⟩:=r 0 c rfl;have r':jd w pm cs b (off+1):=by
   intro j d hj;obtain⟨v,hv,hr⟩:=r (j+1) d (by simp_all)
   grind
  obtain⟨xs,h1,h2,h3⟩:=ih r';refine⟨u::xs,by simp[h1],λj x hj=>?_,λj d x hd hx=>?_⟩
  all_goals grind
def RVs.ds {pm:Nat->Nat->Prop}(hp:g.pm=pm):∀{cs:V_}{xs:M_},xs.length=cs.length->(∀(j:Nat) (c:D) (x:Value),cs[j]?=some c->xs[j]?=some x->RD w pm c x)->
  RVs g w (cs.map .d) xs zero
 |[],[],_,_=>by simp[RVs]
 |c::cs,x::xs,h,hr=>by
  exact⟨x,xs,zero,zero,rfl,by simp only[RV];exact⟨by rw[hp];exact hr 0 c x rfl rfl,λ_=>trivial⟩,
   RVs.ds hp u_ (λj d y h1 h2=>hr (j+1) d y u_ u_),λ_=>rfl⟩
 |[],_::_,h,_=>by simp at h
 |_::_,[],h,_=>by simp at h
def X7 {ty:TypeId}{n:J_}(ht:rU P ty n=true){cs:V_}{b off k:Nat}(r:jd w g.pm cs b off){v:AV}(h:pF n cs k=some v) :
  ∃x,(loadVar ty ⟨b,off+k,none⟩).run P w=.ok x w∧RV g w v x zero:=by
 cases n with
 |none =>
  simp only[pF]at h;split at h
  .rename_i c hc;simp only[ae]at h;subst h;obtain⟨u,hu,hr⟩:=r k c hc
   simp_all [KD,rU,RV]
  simp_all
 |some n =>
  simp only[rU,af]at ht;simp only[pF]at h;split at h
  .rename_i hb;rw[bf]at hb;simp only[ae]at h;subst h;obtain⟨xs,h1,h2,h3⟩:=(r.sub k n).vals;have hlen:(Vm.sub cs k n).length=n:=kz hb;refine⟨.agg xs.toArray,?_,?_⟩
   .have hl:=run_loadCells_list (P:=P) (w:=w) ⟨b,off+k,none⟩ xs (λj v hj=>by grind [lY]);rw[h1,hlen]at hl;simp only[loadVar,aO,yT ht.1,bg,bR,eQ ht.2,hl,dA]
   .exact⟨xs.toArray,rfl,by simpa using RVs.ds rfl h1 h3⟩
  simp_all
def aen {cs:D_}{off n:Nat}(h:off+n<=cs.length):cs=cs.take off++(Vm.sub cs off n++cs.drop (off+n)):=by
 grind [sub,List.drop_drop,List.take_append_drop]
def X8 {ty:TypeId}{n:J_}{take:Nat}(ht:rU P ty n=true){st:St}(s:S P g w st t O){id off:Nat}{b:Nat}(hob:g.obj id=some b)
  {v:AV}{h':ak}(h:loadAt st.hs.heap n take (.ptr id off)=some (v,h')) :
  ∃x O1 O2,(loadVar ty ⟨b,g.base id+off,none⟩).run P w=.ok x w∧RV g w v x O1∧S P g w ⟨st.env,⟨h',st.hs.next⟩⟩ t O2∧∀c,O1 c+O2 c<=O c:=by
 simp only[loadAt]at h;split at h
 .rename_i cs hg;obtain⟨O1,Oz,q,hsum,hput⟩:=s.upd hg;have q0:=q;simp only[kh]at q;obtain⟨b',c,el,Oc,h1,h2,h3,h4,h5,h6,h7,h8⟩:=q;rw[hob]at h1;simp only[ae]at h1;subst h1;rw[h2,b7];have hsz:c.size=cs.length:=by rw[<-h6.length];simp
  split at h
  .
   split at h
   .simp at h
   .rename_i u hu;obtain⟨x,P1,hx,ru,hle,hrep⟩:=h6.replace hu;have hcell:w.cell? ⟨b,off,none⟩=some x:=by grind [gZ]
    have hrun:=KD (P:=P) (by simpa only[rU] using ht) hcell;split at h
    .simp only[ae,aM]at h;obtain⟨rfl,rfl⟩:=h;exact⟨x,zero,O,hrun,RV.share _ _ _ ru,s,λc=>by simp⟩
    .rename_i _;simp only[ae,aM]at h;obtain⟨rfl,rfl⟩:=h;obtain⟨A1,A2,a1,a2,ha⟩:=acw take ru;obtain⟨O',r',h'⟩:=hrep _ A2 a2;have hle2:∀x,O' x+one b x<=O1 x:=λx=>by grind
     refine⟨x,A1,_,hrun,a1,hput (.cells (cs.set off (sX take u).2)) (λx=>O' x+one b x) ?_ hle2,λc=>?_⟩
     all_goals grind [kh]
  .
   rename_i n;simp only[rU,af]at ht;split at h
   .rename_i hb;rw[bf]at hb;have hcs:=aen hb;have r6:=h6;rw[hcs]at r6;obtain⟨B1,B2,rb1,rb2,hb12⟩:=r6.split;obtain⟨B3,B4,rb3,rb4,hb34⟩:=rb2.split;have htl:(cs.take off).length=off:=by simp;omega
    have hsl:(Vm.sub cs off n).length=n:=kz hb;rw[htl]at rb1 rb3 rb4;rw[hsl]at rb3 rb4;have hlist:∀(j:Nat) (v:Value),((c.toList.drop off).take n)[j]?=some v->w.cell? ((⟨b,off,none⟩:Addr).add j)=some v:=by
     grind [lY,gZ]
    have hlen:((c.toList.drop off).take n).length=n:=e_;have hl:=run_loadCells_list (P:=P) (w:=w) ⟨b,off,none⟩ ((c.toList.drop off).take n) hlist;rw[hlen]at hl;have hrun:(loadVar ty ⟨b,off,none⟩).run P w=.ok (.agg ((c.toList.drop off).take n).toArray) w:=by
     simp only[loadVar,aO,yT ht.1,bg,bR,eQ ht.2,hl,dA]
    split at h
    .simp only[ae,aM]at h;obtain⟨rfl,rfl⟩:=h;refine⟨_,zero,O,hrun,?_,s,λc=>by simp⟩
     grind [RV,RVs.share]
    .rename_i _;simp only[ae,aM]at h;obtain⟨rfl,rfl⟩:=h;obtain⟨A1,A2,a1,a2,ha⟩:=Sp take rb3;have hjoin:=rb1.join (a2.join rb4);have e1:cs.take off++((fN take (Vm.sub cs off n)).2++cs.drop (off+n))=aF cs off (fN take (Vm.sub cs off n)).2:=by
      have:(fN take (Vm.sub cs off n)).2.length=n:=by
       rw[<-a2.length,hlen]
      unfold aF;rw[this,aw]
     have e2:c.toList.take off++((c.toList.drop off).take n++(c.toList.drop off).drop n)=c.toList:=by
      rw[b8,b8]
     rw[e1,e2]at hjoin;have hle2:∀x,(B1 x+(A2 x+B4 x))+one b x<=O1 x:=λx=>by have:=ha x;have:=h8 x;have:=hb12 x;have:=hb34 x;omega
     refine⟨_,A1,_,hrun,?_,hput (.cells (aF cs off (fN take (Vm.sub cs off n)).2)) (λx=>(B1 x+(A2 x+B4 x))+one b x) ?_ hle2,λx=>?_⟩
     .exact⟨_,rfl,by simpa using a1⟩
     .refine⟨b,c,el,_,hob,h2,h3,?_,h5,hjoin,h7,λ_=>rfl⟩;rw[h4,<-hsz,<-hjoin.length];simp
     .have:=ha x;have:=h8 x;have:=hb12 x;have:=hb34 x;have:=hsum x;omega
   simp_all
 simp_all
def aza {n:J_}{take:Nat}{p:Rd}(s:S P g w st t O)(h:Fz n take p st=some (a,st'))(hc:bw P (.ld n take p) o.op=true) :
  fH P g w t O st' a ((execOp (ev t) o).run P w):=by
 obtain⟨dst,op,ty,pos,aft,gd⟩:=o;simp only[bw]at hc;split at hc
 .rename_i ty' y;simp only[af]at hc;obtain⟨h1,h2⟩:=hc;obtain⟨v,e1,r1,k1⟩:=RE h;obtain⟨Ov,O1,rv,s1,l1⟩:=s.rd h2 r1;split at k1
  .rename_i r h' hl;simp only[ae,aM]at k1;obtain⟨rfl,rfl⟩:=k1;have fin:∀{ad:Addr}{x:Value},ev t y=.pointer (some ad)->(loadVar ty' ad).run P w=.ok x w->
     (execOp (ev t) ⟨dst,.load ty' y,ty,pos,aft,gd⟩).run P w=.ok (.value x) w:=by
    simp_all [execOp,Instr.loadAt,Instr.sureAddr]
   cases v with
   |ptr id off =>
    simp only[RV]at rv;obtain⟨⟨b,hob,he⟩,_⟩:=rv;obtain⟨x,A1,A2,hrun,ra,sa,la⟩:=X8 h1 s1 hob hl
    grind [fH.pure]
   |pel id i off =>
    simp only[RV]at rv;obtain⟨⟨b,hob,he⟩,_⟩:=rv;simp only[loadAt]at hl;split at hl
    .rename_i m xs hg;split at hl
     .rename_i e hx;split at hl
      .rename_i u hu;obtain⟨rfl,rfl⟩:=hl;obtain⟨Oe,Oh,re,rh,ho⟩:=s1.parts;obtain⟨Q,q,_⟩:=RL.get rh hg;rcases q with ⟨rfl,_⟩|⟨b',c,el,g1,g2,g3,g4,g5,g6,g7,g8,g9,g10⟩
       .simp at hx
       .have hrc:=g8.elem g7 hx;obtain⟨x,hrun,rx⟩:=X7 (P:=P) h1 hrc hu;refine .flat s (fin he (x:=x) ?_) rx s1 (S.le_left l1)
        grind
      simp_all
     simp_all
    simp_all
   |pim cs off =>
    obtain⟨⟨b,k,he,hrc,_⟩,_⟩:=rv;simp only[loadAt]at hl;split at hl
    .rename_i u hu;obtain⟨rfl,rfl⟩:=hl;obtain⟨x,hrun,rx⟩:=X7 (P:=P) h1 hrc hu;exact .flat s (fin he hrun) rx s1 (S.le_left l1)
    simp_all
   |_=>simp[loadAt]at hl
  simp_all
 simp_all
end
abbrev aW:=@Nat.lt_of_lt_of_le
abbrev xL:=@Nat.mul_le_mul
abbrev au:=@Int.toNat_natCast
abbrev iy:=@TypeDesc.slice.injEq
section
variable {P:Program}{g:Gh}{w:World}{t:G_}{O:Nat->Nat}{st st':St}{a:AV}{o:Oper}
theorem S.grow {st:St}(s:S P g w st t O){w':World}(h:bI g w g w' λ_=>False):S P g w' st t O:=by
 obtain⟨Oe,Oh,re,rh,ho⟩:=s.parts;exact⟨s.se,s.sh,⟨Oe,Oh,kt.ext h re s_,rh.imp' λk v O1 _ _ q=>q.ext h s_ s_,ho⟩,s.le,
  λb hb=>aW (s.hi b hb) h.size,s.fresh,λb o hp=>aW (s.pmlt b o hp) h.size⟩
theorem S.out {st:St}(s:S P g w st t O){b:Nat}(h:w.heap.size<=b):O b=0:=by
 by_cases h':O b=0
 .exact h'
 .have:=s.hi b h';omega
def bI.drew (g:Gh)(w:World)(T:Nat->Prop):bI g w g w.drew T:=⟨λ_ _ h=>⟨h,rfl,rfl,rfl⟩,λ_ _ h=>⟨h,rfl⟩,λ_ _ _=>⟨rfl,λ_ h=>h⟩,ai _,λ_ rc h=>⟨rc,h⟩,rfl,rfl,λ_=>rfl⟩
def fH.list {res:Result Next}{m cap:Nat}{xs:F_}{c:G_}{el:TypeId}{w1:World}{O':Nat->Nat}(s0:S P g w st t O)
  (s:S P g w st' t O')(hle:∀b,O' b<=O b)(hx1:bI g w g w1 λ_=>False)(hsz1:w1.heap.size=w.heap.size)
  (h:res=.ok (.value (.slice (some ⟨w.heap.size,0,none⟩) xs.length cap)) (w1.alloc (.cells c el)))
  (hm:0<m)(hl:∀e∈xs,e.length=m)(hcap:xs.length<=cap)(hsz:cap*m<=c.size)(hc:∀(j:Nat) (d:D),xs.flatten[j]?=some d->∃u,c[j]?=some u∧RD w g.pm d u) :
  fH P g w t O st' (.own true m xs) res:=by
 have hp1:∀b o,g.pm b o->b<w1.heap.size:=λb o hp=>by rw[hsz1];exact s0.pmlt b o hp
 have hx:bI g w g (w1.alloc (.cells c el)) λ_=>False:=hx1.trans (bI.alloc hp1 _ _) λ_ _ h=>h
 have hO:O w.heap.size=0:=s0.out (ai _);refine⟨_,w1.alloc (.cells c el),g,one w.heap.size,O',.inl h,?_,s.grow hx,hx.mono (λ_ _ h=>h.elim),λb=>?_,λb hb=>?_,λb hb=>?_⟩
 .refine .inr ⟨w.heap.size,0,cap,c,el,rfl,hcap,hm,hl,?_,o_,λj d hj=>?_,λo ho=>?_,λh=>by simp at h,rfl⟩
  all_goals grind [jR,RD.ext,gZ]
 .by_cases hb:b=w.heap.size
  .have:=hle w.heap.size;simp_all
  .have:=s0.le b;grind [one]
 .grind [one]
 .have:=xT hb;simp_all
def WY {zs:V_}{vs:M_}(h:Sr zs vs=true):zs.length=vs.length∧∀(j:Nat) (d:D),zs[j]?=some d->∃u,vs[j]?=some u∧RD w g.pm d u:=by
 induction zs generalizing vs with
 |nil=>grind [Sr]
 |cons z zs ih =>
  cases vs with
  |nil=>simp[Sr]at h
  |cons v vs =>
   simp only[Sr,af]at h;obtain⟨h1,h2⟩:=ih h.2;refine⟨by simp[h1],λj d hj=>?_⟩
   cases j with
   |zero=>simp_all [RD.const]
   |succ j=>simp_all
def Ve {z:V_}{n j:Nat}{d:D}(h:(List.replicate n z).flatten[j]?=some d):z[j % z.length]?=some d∧j<n*z.length:=by
 induction n generalizing j<;>grind [Nat.mod_eq_of_lt,List.getElem?_append_right,Nat.mod_eq_sub_mod]
def FQ {ty:TypeId}{z:V_}(h:DR P ty z=true):∃e i zv,P.underlying ty=some (.slice e)∧P.info? e=some i∧i.zero=some zv∧Sr z zv.cells.toList=true:=by
 grind [DR,anh]
def N3 {n:Nat}(h:n<=4294967296):IntKind.i64.wrap (n:Int)=n:=by
 apply ajk
 .have:IntKind.min .i64=-9223372036854775808:=d_;omega
 .have:IntKind.max .i64=9223372036854775807:=d_;omega
def acR {ty el:TypeId}{i:TypeInfo}{zv:Value}{kn kc:IntKind}{n cc:Nat}(hu:P.underlying ty=some (.slice el))(hi:P.info? el=some i)(hz:i.zero=some zv)
  (hby:i.bytes<=4096)(hnc:n<=cc)(hcm:cc<=4294967296) :
  (Instr.makeSlice ty (.int kn (n:Int)) (.int kc (cc:Int))).run P w =
   .ok (.slice (some ⟨w.heap.size,0,none⟩) n cc) (w.alloc (.cells ((Array.range (cc*i.size)).map (zv.cells[·% zv.cells.size]!)) el)):=by
 have hw1:=N3 (n:=n) o_;have hw2:=N3 (n:=cc) hcm;have hprod:i.bytes*cc<=4096*4294967296:=xL hby hcm;have hbig:¬((i.bytes:Int)*(cc:Int) > 2 ^ 48):=by
  omega
 have hc0:¬(cc:Int)<0:=o_;have hn0:¬(n:Int)<0:=o_;have hnc':¬(n:Int) > (cc:Int):=o_;simp only[Instr.makeSlice,aO,ba hu,bg,asInt,asIntOf,dA,typeInfo,run_program,hi,hw1,hw2,hc0,hn0,hnc',hbig,
  decide_false,Bool.or_self,aq,bS,run_askRoom,sizeOf,au]
 by_cases hcz:cc*i.size=0
 .have h0:Array.range 0=#[]:=u_;simp[hcz,newRow,h0]
 simp_all [newRow,zeroValue,typeInfo]
def Xy {z:V_}{len cap:Rd}(s:S P g w st t O)(h:mS z len cap st=some (a,st'))(hc:bw P (.mkslice z len cap) o.op=true) :
  fH P g w t O st' a ((execOp (ev t) o).run P w):=by
 obtain⟨dst,op,ty,pos,aft,gd⟩:=o;simp only[bw]at hc;split at hc
 .simp only[af]at hc;obtain⟨⟨⟨h1,h2⟩,h3⟩,h4⟩:=hc;obtain⟨vn,vc,e,On,Oc,O',rn,rc,s',hl,hk⟩:=Tm s h3 h4 h;split at hk
  .rename_i cc hcc;split at hk
   .rename_i n hn;obtain⟨rfl,rfl⟩:=hk;obtain⟨⟨kc,hvc⟩,hcm⟩:=Gk hcc rc;obtain⟨⟨kn,hvn⟩,hnc⟩:=Gk hn rn;obtain⟨el,hu,hs,hm,hby⟩:=iA h1;obtain⟨el',i,zv,hu',hi,hz,hok⟩:=FQ h2;rw[hu]at hu';simp only[ae,iy]at hu';subst hu';obtain⟨hzl,hzg⟩:=WY (w:=w) (g:=g) hok;have hsz:i.size=z.length:=by
     grind [xE,Nat.beq_eq]
    have hbytes:P.bytesOf el=i.bytes:=by grind [Program.bytesOf]
    rw[hbytes]at hby;have hrun:=acR (P:=P) (w:=w) (kn:=kn) (kc:=kc) hu hi hz hby hnc hcm;rw[hsz]at hrun;refine fH.list (cap:=cc) (c:=(Array.range (cc*z.length)).map (zv.cells[·% zv.cells.size]!)) (el:=el) (w1:=w) s s' (λb=>by grind) (bI.refl _ _ _) rfl ?_ hm
     (λe he=>by grind) e_ s_ (λj d hj=>?_)
    .simp only[execOp,hvn,hvc];rw[aO,hrun];simp
    .obtain⟨h5,h6⟩:=Ve hj
     grind [Nat.lt_of_lt_of_le,Nat.mul_le_mul_right]
   simp_all
  simp_all
 simp_all
end
abbrev mY:=@Sem.run_ite
def setBlk (w:World)(b:Nat)(o:Go.Obj):World:={ w with heap:=w.heap.setIfInBounds b o }
@[simp] theorem Ll (w:World)(b:Nat)(o:Go.Obj):(setBlk w b o).heap.size=w.heap.size:=by simp[setBlk]
theorem eW {w:World}{b:Nat}{o:Go.Obj}(h:b<w.heap.size):(setBlk w b o).heap[b]?=some o:=by
 simp[setBlk,h]
theorem iq {w:World}{b b':Nat}{o:Go.Obj}(h:b'≠b):(setBlk w b o).heap[b']?=w.heap[b']?:=by
 grind [setBlk]
theorem ac5 (w:World)(b:Nat)(o o':Go.Obj):setBlk (setBlk w b o) b o'=setBlk w b o':=by
 simp[setBlk]
theorem ahU {w:World}{b o:Nat}{c:G_}{el:TypeId}{fz:Nat×Nat}{v:Value}(h:w.heap[b]?=some (.cells c el fz)) :
  w.setCell ⟨b,o,none⟩ v=setBlk w b (.cells (c.setIfInBounds o v) el fz):=by
 unfold World.setCell setBlk
 congr 1
 grind
theorem Hn {α:Type}{cs:List α}{off:Nat}{v:α}{vs:List α}(h:off+(vs.length+1)<=cs.length) :
  aF (cs.set off v) (off+1) vs=aF cs off (v::vs):=by
 grind [aF,List.take_set,List.take_succ_eq_append_getElem,List.drop_set_of_lt]
def t8 {P:Program}{b:Nat}{el:TypeId}:∀(vs:M_) (w:World) (c:G_) (off i:Nat),
  w.heap[b]?=some (.cells c el (0,0))->(∀v∈vs,v.oneCell'=true)->off+i+vs.length<=c.size->
  ∃c':G_,(storeCells ⟨b,off,none⟩ vs i).run P w=.ok () (setBlk w b (.cells c' el (0,0)))∧c'.toList=aF c.toList (off+i) vs∧c'.size=c.size
 |[],w,c,off,i,h,_,_=>by
  refine⟨c,?_,by simp[aF],rfl⟩;have:setBlk w b (.cells c el (0,0))=w:=by
   unfold setBlk;have:w.heap.setIfInBounds b (.cells c el (0,0))=w.heap:=by
    grind
   rw[this]
  rw[this];rfl
 |v::vs,w,c,off,i,h,hv,hsz=>by
  have hoff:off+i<c.size:=e_;have hcell:w.cell? ⟨b,off+i,none⟩=some c[off+i]:=by rw[gZ h];simp_all
  have hfz:w.frozen? ⟨b,off+i,none⟩=false:=by simp[World.frozen?,h]
  have hst:(store (⟨b,off+i,none⟩:Addr) v .plain).run P w=.ok () (setBlk w b (.cells (c.setIfInBounds (off+i) v) el (0,0))):=by
   grind [run_store,ahU]
  have hb:b<w.heap.size:=jH h;obtain⟨c',h1,h2,h3⟩:=t8 (P:=P) vs (setBlk w b (.cells (c.setIfInBounds (off+i) v) el (0,0))) (c.setIfInBounds (off+i) v) off (i+1) (eW hb)
   (λu hu=>hv u (.tail _ hu)) (by grind)
  grind [storeCells,lY,Sem.run_bind,Result.andThen_ok,ac5,Hn]
section
variable {P:Program}{g:Gh}{w:World}{t:G_}{O:Nat->Nat}{st st':St}{a:AV}{o:Oper}
def BP {b:Nat}{o o':Go.Obj}(hb:w.heap[b]?=some o)(ho:∀off,gR o off=false)(ho':∀off,gR o' off=false)(a:Addr):(Vm.setBlk w b o').frozen? a=w.frozen? a:=by
 by_cases e:a.block=b
 .have h1:=ho a.off;have h2:=ho' a.off;have e1:(Vm.setBlk w b o').heap[a.block]?=some o':=by grind [eW]
  have e2:w.heap[a.block]?=some o:=u_;simp only[World.frozen?,e1,e2]
  cases o<;>cases o'<;>first|rfl|exact h2.trans h1.symm|exact h2|exact h1.symm
 grind [World.frozen?,iq]
theorem bI.setBlk {b:Nat}{c:G_}{el:TypeId}{o':Go.Obj}(hb:w.heap[b]?=some (.cells c el (0,0)))(hp:∀o,¬g.pm b o)(hc:∀off,gR o' off=false:=by intro off;simp[gR]):bI g w g (Vm.setBlk w b o') λx=>x=b where
 obj _ _ h:=⟨h,rfl,rfl,rfl⟩
 pm b' o h:=⟨h,by
  grind [tu,iq]⟩
 blk b' _ h:=⟨iq h,λ_ h=>h⟩
 size:=s_
 lp b' rc h:=⟨rc,by grind [iq]⟩
 same:=⟨rfl,rfl,BP hb (by grind [gR]) hc⟩
def S.store {st:St}(s:S P g w st t O){id:Nat}{ob:Obj}(hg:get st.hs.heap id=some ob) :
  ∃O1 Oz:Nat->Nat,kh P g w id ob O1∧(∀b,O1 b+Oz b<=O b)∧∀(w':World) (b:Nat) (c:G_) (el:TypeId) (ob':Obj) (O1':Nat->Nat),
   w.heap[b]?=some (.cells c el (0,0))->1<=O1 b->bI g w g w' (λx=>x=b)->kh P g w' id ob' O1'->(∀x,O1' x+Oz x<=1)->(∀x,O1' x≠0->x<w'.heap.size)->
   S P g w' ⟨st.env,⟨put st.hs.heap id ob',st.hs.next⟩⟩ t (λx=>O1' x+Oz x):=by
 obtain⟨Oe,Oh,re,rh,ho⟩:=s.parts;obtain⟨O1,O2,q,r2,hs⟩:=RL.take rh hg;refine⟨O1,λb=>Oe b+O2 b,q,λb=>by grind,λw' b c el ob' O1' hblk h1 hx q' hle hhi=>?_⟩;have hone:O b<=1:=s.le b;have hfree:Oe b=0∧O2 b=0:=e_;have re':=kt.ext hx re (λy hy e=>by simp_all);have r2':Ep P g w' (del st.hs.heap id) O2:=r2.imp' λk v Q _ hQ q=>q.ext hx (λy hy e=>by grind) (λy ds hd e=>by
  simp_all)
 obtain⟨O3,r3,h3⟩:=RL.put s.sh r2' q';refine⟨s.se,s.sh.put _ _,⟨Oe,O3,re',r3,λx=>by grind⟩,hle,λx hx0=>?_,s.fresh,
  λb o hp=>aW (s.pmlt b o hp) hx.size⟩
 by_cases h:O1' x=0
 .refine aW (s.hi x ?_) hx.size
  grind
 simp_all
theorem HA {α:Type}{cs vs:List α}{off:Nat}:aF cs off vs=cs.take off++(vs++cs.drop (off+vs.length)):=by
 grind [aF]
def aiI {ty:TypeId}{n:Nat}(ht:xE P ty n=true){st:St}(s:S P g w st t O){id off:Nat}{b:Nat}(hob:g.obj id=some b)
  {v:AV}{x:Value}{Ov:Nat->Nat}(rv:RV g w v x Ov)(hO:∀c,Ov c+O c<=1)(hOv:∀c,Ov c≠0->c<w.heap.size){h':ak}
  (h:storeAt st.hs.heap n (.ptr id off) v=some h') :
  ∃w' O2,(storeVar ty ⟨b,g.base id+off,none⟩ x).run P w=.ok () w'∧S P g w' ⟨st.env,⟨h',st.hs.next⟩⟩ t O2∧bI g w g w' (λc=>O c≠0)∧(∀c,O2 c<=Ov c+O c)∧
   w'.heap.size=w.heap.size:=by
 unfold storeAt at h;split at h
 .simp at h
 .rename_i hn;rw[aC]at hn;simp only at h;split at h
  .rename_i cs hg;split at h
   .rename_i hb;simp only[af,bf]at hb;simp only[ae]at h;subst h;obtain⟨O1,Oz,q,hsum,hst⟩:=s.store hg;obtain⟨b',c,el,Oc,h1,h2,h3,h4,h5,h6,h7,h8⟩:=q;rw[hob]at h1;simp only[ae]at h1;subst h1;rw[h2,b7];have hsz:c.size=cs.length:=by rw[<-h6.length];simp
    have rvs:=rv.cells hb.2;have hlenx:x.cells.toList.length=n:=by grind [RVs.length]
    obtain⟨c',hrun,hc',hcs⟩:=t8 (P:=P) (b:=b) (el:=el) x.cells.toList w c off 0 h5 (rvs.one hb.2) o_;have hrun':(storeVar ty ⟨b,off,none⟩ x).run P w=.ok () (setBlk w b (.cells c' el (0,0))):=by
     have hxs:x.cells.size=n:=o_;simp only[storeVar,aO,eQ ht,bg,hxs,ne_eq,not_true,bS,mY];exact hrun
    have hOb:1<=O1 b:=u_;have hx:bI g w g (setBlk w b (.cells c' el (0,0))) λx=>x=b:=bI.setBlk h5 h7
    have hbO:O b=1:=e_;have hOvb:Ov b=0:=e_;have hOcb:Oc b=0:=by
     grind [B8]
    have r6:=RVs.ext hx _ _ _ h6 (λy hy e=>by simp_all);have rvs':=RVs.ext hx _ _ _ rvs (λy hy e=>by simp_all);rw[aen hb.1]at r6;obtain⟨B1,B2,rb1,rb2,hb12⟩:=r6.split;obtain⟨B3,B4,rb3,rb4,hb34⟩:=rb2.split;have hsl:(Vm.sub cs off n).length=n:=kz hb.1;have hjoin:=rb1.join (rvs'.join rb4);rw[<-hn]at hjoin;rw[<-HA]at hjoin;have e2:c.toList.take off++(x.cells.toList++(c.toList.drop off).drop v.cells.length)=c'.toList:=by
     grind [HA,List.drop_drop]
    have hlen':(aF cs off v.cells).length=cs.length:=by rw[<-hjoin.length];grind
    refine⟨_,_,hrun',hst (setBlk w b (.cells c' el (0,0))) b c el (.cells (aF cs off v.cells)) (λy=>(B1 y+(Ov y+B4 y))+one b y) h5 hOb hx ?_ (λy=>?_) (λy hy=>?_),
     hx.mono (λy _ e=>by simp_all),λy=>?_,s_⟩
    all_goals grind [kh,eW,Ll,S.hi]
   simp_all
  simp_all
end
abbrev dZ:=@List.ext_getElem?
abbrev gK:=@Nat.mod_lt
abbrev iT:=@Nat.div_eq_of_lt_le
theorem kE {α:Type}{cs vs:List α}{off:Nat}(h:off+vs.length<=cs.length)(j:Nat) :
  (aF cs off vs)[j]?=if off<=j∧j<off+vs.length then vs[j-off]? else cs[j]?:=by
 grind [aF,List.getElem?_append_right]
def ah3 {xs:F_}{m:Nat}(h:∀e∈xs,e.length=m){i off:Nat}{e ds:V_}(hi:xs[i]?=some e)(ho:off+ds.length<=m) :
  (xs.set i (aF e off ds)).flatten=aF xs.flatten (i*m+off) ds:=by
 apply dZ;intro j;have hlt:=G6 hi;have hl2:∀e'∈xs.set i (aF e off ds),e'.length=m:=by
  grind [aF]
 have hmm:(i+1)*m<=xs.length*m:=cJ _ hlt;rw[kE (by grind [fQ])];by_cases hm:m=0
 .subst hm;have e1:(xs.set i (aF e off ds)).flatten.length=0:=by rw[fQ hl2];simp
  have e2:xs.flatten.length=0:=by rw[fQ h];simp
  simp_all
 have hpos:0<m:=Nat.pos_of_ne_zero hm;have hdec:j=(j / m)*m+j % m:=by grind [Nat.div_add_mod]
 have hr:j % m<m:=gK _ hpos;have cell:∀(ys:F_),(∀e∈ys,e.length=m)->ys.flatten[j]?=(ys[j / m]?).bind (·[j % m]?):=by
  intro ys hy
  cases hq:ys[j / m]? with
  |none =>
   have:ys.length<=j / m:=by
    grind
   have:ys.flatten.length<=j:=by
    rw[fQ hy];exact aP (cJ m this) (by omega)
   grind
  |some e' =>
   grind [S9]
 by_cases hk:j / m=i
 .grind [kE]
 .have:¬(i*m+off<=j∧j<i*m+off+ds.length):=by
   rintro ⟨h1,h2⟩
   apply hk;have:j<(i+1)*m:=e_;exact iT o_ this
  grind
section
variable {P:Program}{g:Gh}{w:World}{t:G_}{O:Nat->Nat}{st st':St}{a:AV}{o:Oper}
def atL {v:AV}{d:D}{x:Value}{Ov:Nat->Nat}(h:EK v=some d)(r:RV g w v x Ov):RD w g.pm d x:=by
 cases v with
 |d c=>grind [EK,RV]
 |nl=>simp only[EK,ae]at h;subst h;rw[r.1];exact .nil _ _
 |own p m xs =>
  cases p<;>simp only[EK,ae,reduceCtorEq]at h
  have:=RV.share _ _ _ r
  grind [share,RV]
 |_=>simp[EK]at h
theorem RD.one {pm:Nat->Nat->Prop}{d:D}{x:Value}(r:RD w pm d x):x.oneCell'=true:=by cases r<;>rfl
theorem OG {vs:D_}{ds:V_}{xs:M_}{Ov:Nat->Nat}(h:mP vs=some ds)(r:RVs g w vs xs Ov) :
  xs.length=ds.length∧(∀(j:Nat) (d:D),ds[j]?=some d->∃x,xs[j]?=some x∧RD w g.pm d x)∧∀x∈xs,x.oneCell'=true:=by
 induction vs generalizing ds xs Ov with
 |nil =>
  grind [mP,RVs]
 |cons v vs ih =>
  simp only[mP]at h;split at h
  .rename_i c hc;split at h
   .obtain⟨x,s,O1,O2,rfl,r1,r2,_⟩:=r;have hd:=atL hc r1
    grind [RD.one]
   simp_all
  simp_all
end
abbrev eM:=@List.mem_of_getElem?
theorem acN {v:AV}{d:D}(h:EK v=some d):bB v=true:=by
 cases v with
 |own p m xs=>cases p<;>simp[EK]at h;rfl
 |d c=>rfl
 |nl=>rfl
 |_=>simp[EK]at h
def MK {vs:D_}{ds:V_}(h:mP vs=some ds):vs.all bB=true:=by
 induction vs generalizing ds<;>grind [mP,acN]
theorem U8 {vs:D_}{ds:V_}(h:mP vs=some ds):ds.length=vs.length:=by
 induction vs generalizing ds<;>grind [mP]
section
variable {P:Program}{g:Gh}{w:World}{t:G_}{O:Nat->Nat}{st st':St}{a:AV}{o:Oper}
def alX {ty:TypeId}{n:Nat}(ht:xE P ty n=true){st:St}(s:S P g w st t O){id i off:Nat}{b:Nat}(hob:g.obj id=some b)
  {v:AV}{x:Value}{Ov:Nat->Nat}(rv:RV g w v x Ov){h':ak}
  (h:storeAt st.hs.heap n (.pel id i off) v=some h') :
  ∃w' O2,(storeVar ty ⟨b,g.base id+(i*g.esz id+off),none⟩ x).run P w=.ok () w'∧S P g w' ⟨st.env,⟨h',st.hs.next⟩⟩ t O2∧bI g w g w' (λc=>O c≠0)∧(∀c,O2 c<=O c)∧
   w'.heap.size=w.heap.size:=by
 unfold storeAt at h;split at h
 .simp at h
 .rename_i hn;rw[aC]at hn;simp only at h;split at h
  .simp at h
  .rename_i ds hds;split at h
   .rename_i m xs hg;split at h
    .rename_i e he;split at h
     .rename_i hb;rw[bf]at hb;simp only[ae]at h;subst h;obtain⟨O1,Oz,q,hsum,hst⟩:=s.store hg;rcases q with ⟨rfl,_⟩|⟨b',c,el,g1,g2,g3,g4,g5,g6,g7,g8,g9,g10⟩
      .simp at he
      .rw[hob]at g1;simp only[ae]at g1;subst g1;have hlt:=G6 he;have hem:e.length=m:=g7 e (eM he);have hmm:(i+1)*m<=xs.length*m:=cJ _ hlt;rw[Cb]at hmm;have rvs:=rv.cells (MK hds);obtain⟨k1,k2,k3⟩:=OG hds rvs;have hdl:ds.length=n:=by grind [U8]
       have hlenx:x.cells.toList.length=n:=o_;obtain⟨c',hrun,hc',hcs⟩:=t8 (P:=P) (b:=b) (el:=el) x.cells.toList w c (g.base id+(i*g.esz id+off)) 0 g4 k3 e_;have hrun':(storeVar ty ⟨b,g.base id+(i*g.esz id+off),none⟩ x).run P w=.ok () (setBlk w b (.cells c' el (0,0))):=by
        have hxs:x.cells.size=n:=o_;simp only[storeVar,aO,eQ ht,bg,hxs,ne_eq,not_true,bS,mY];exact hrun
       have hx:bI g w g (setBlk w b (.cells c' el (0,0))) λx=>x=b:=bI.setBlk g4 g9
       have hOb:1<=O1 b:=u_;have hl2:∀e'∈xs.set i (aF e off ds),e'.length=m:=by
        grind [aF]
       refine⟨_,_,hrun',hst (setBlk w b (.cells c' el (0,0))) b c el (.arr m (xs.set i (aF e off ds))) (one b) g4 hOb hx ?_ (λy=>?_) (λy hy=>?_),
        hx.mono (λy _ e=>by grind),λy=>?_,s_⟩
       .refine .inr ⟨b,c',el,hob,g2,g3,eW (jH g4),o_,u_,hl2,?_,g9,λ_=>rfl⟩;rw[ah3 g7 he o_];have hfl:=fQ g7;intro j d hj;rw[kE o_]at hj;have hcell:(setBlk w b (.cells c' el (0,0))).cell? ⟨b,g.base id+j,none⟩=c'.toList[g.base id+j]?:=by
         grind [gZ,eW]
        rw[hcell,hc',kE e_,hlenx,g2];split at hj
        .grind [RD.ext]
        .obtain⟨u,hu,hr⟩:=g8 j d hj
         grind [RD.ext,gZ]
       .have:=s.le y;grind
       .rw[xT hy];simp_all [jH]
       simp_all
     simp_all
    simp_all
   simp_all
def azW {n:Nat}{p x:Rd}(s:S P g w st t O)(h:amR n p x st=some (a,st'))(hc:bw P (.st n p x) o.op=true) :
  fH P g w t O st' a ((execOp (ev t) o).run P w):=by
 obtain⟨dst,op,ty,pos,aft,gd⟩:=o;simp only[bw]at hc;split at hc
 .rename_i ty' p' x';simp only[af]at hc;obtain⟨⟨h1,h2⟩,h3⟩:=hc;obtain⟨pv,xv,e,Op,Ox,O',rp,rx,s2,l2,k⟩:=Tm s h2 h3 h;split at k
  .rename_i h' hst;obtain⟨rfl,rfl⟩:=k;have fin:∀{ad:Addr}{w':World},ev t p'=.pointer (some ad)->(storeVar ty' ad (ev t x')).run P w=.ok () w'->
     (execOp (ev t) ⟨dst,.store ty' p' x',ty,pos,aft,gd⟩).run P w=.ok .skip w':=by
    simp_all [execOp,Instr.storeAt,Instr.sureAddr]
   cases pv with
   |ptr id off =>
    obtain⟨⟨b,hob,he⟩,_⟩:=rp;obtain⟨w',O2,hrun,s3,hx,ho,hsz⟩:=aiI h1 s2 hob rx (λc=>by have:=l2 c;have:=s.le c;omega) (λc hc=>s.hi c e_) hst;refine⟨undef,w',g,zero,O2,.inr ⟨fin he hrun,rfl⟩,?_,s3,hx.mono λc _ h=>by grind,λc=>by have:=s3.le c;simp_all,λc _=>?_,s_⟩
    all_goals grind [RV]
   |pel id i off =>
    obtain⟨⟨b,hob,he⟩,_⟩:=rp;obtain⟨w',O2,hrun,s3,hx,ho,hsz⟩:=alX h1 s2 hob rx hst;refine⟨undef,w',g,zero,O2,.inr ⟨fin he hrun,rfl⟩,?_,s3,hx.mono λc _ h=>by grind,λc=>by have:=s3.le c;simp_all,λc _=>?_,s_⟩
    all_goals grind [RV]
   |_=>grind [storeAt]
  simp_all
 simp_all
end
section
variable {P:Program}{g:Gh}{w:World}{t:G_}{O:Nat->Nat}{st st':St}{a:AV}
def Mr (P:Program)(g:Gh)(w:World)(t:G_)(O:Nat->Nat)(st':St):Prop :=
 ∃g' O',S P g' w st' t O'∧bI g w g' w (λb=>O b≠0)∧∀b,O' b<=O b
theorem Mr.same {O':Nat->Nat}(s:S P g w st' t O')(h:∀b,O' b<=O b):Mr P g w t O st':=⟨g,O',s,.refl _ _ _,h⟩
def S.delEnv {st:St}(s:S P g w st t O)(i:Nat):∃O',S P g w ⟨del st.env i,st.hs⟩ t O'∧∀b,O' b<=O b:=by
 obtain⟨Oe,Oh,re,rh,ho⟩:=s.parts;obtain⟨O1,r1,h1⟩:=RL.drop re i;have hle:∀b,O1 b+Oh b<=O b:=λb=>by simp_all
 exact⟨λb=>O1 b+Oh b,s.of_env r1 rh (s.se.del i) (λ_=>rfl) hle,hle⟩
def S.delHeap {st:St}(s:S P g w st t O)(i:Nat):∃O',S P g w ⟨st.env,⟨del st.hs.heap i,st.hs.next⟩⟩ t O'∧∀b,O' b<=O b:=by
 obtain⟨Oe,Oh,re,rh,ho⟩:=s.parts;obtain⟨O1,r1,h1⟩:=RL.drop rh i;have hle:∀b,Oe b+O1 b<=O b:=λb=>by simp_all
 exact⟨λb=>Oe b+O1 b,⟨s.se,s.sh.del i,⟨Oe,O1,re,r1,λ_=>rfl⟩,λb=>aP (hle b) (s.le b),
  λb hb=>s.hi b e_,s.fresh,s.pmlt⟩,hle⟩
def atP {is:C_}(s:S P g w st t O)(h:agk is st=some (a,st')):Mr P g w t O st':=by
 simp only[agk,ae,aM]at h;have:∃O',S P g w ⟨is.foldl del st.env,st.hs⟩ t O'∧∀b,O' b<=O b:=by
  induction is generalizing st O with
  |nil=>exact⟨O,s,λ_=>ai _⟩
  |cons i is ih =>
   obtain⟨O1,s1,h1⟩:=s.delEnv i
   grind
 grind [Mr.same]
def S.delAll:∀{l:C_}{st:St}{O:Nat->Nat},S P g w st t O->∃O',S P g w ⟨st.env,⟨delAll st.hs.heap l,st.hs.next⟩⟩ t O'∧∀b,O' b<=O b
 |[],_,O,s=>⟨O,s,λb=>ai _⟩
 |i::r,st,O,s=>by
  obtain⟨O1,s1,h1⟩:=s.delHeap i;obtain⟨O2,s2,h2⟩:=S.delAll (l:=r) s1;exact⟨O2,s2,λb=>aP (h2 b) (h1 b)⟩
def at2 {i:Nat}(s:S P g w st t O)(h:Zk i st=some (a,st')):Mr P g w t O st':=by
 unfold Zk at h;split at h
 .rename_i id _ _;obtain⟨O1,s1,h1⟩:=s.delEnv i;obtain⟨O2,s2,h2⟩:=s1.delHeap id
  grind [Mr.same]
 .rename_i caps _;obtain⟨O1,s1,h1⟩:=s.delEnv i;obtain⟨O2,s2,h2⟩:=S.delAll (l:=JJ caps) s1
  grind [Mr.same]
 grind [Mr.same]
def azw {i m:Nat}(s:S P g w st t O)(h:apY i m st=some (a,st')):Mr P g w t O st':=by
 unfold apY at h;split at h
 .rename_i hg;obtain⟨_,rfl⟩:=h;obtain⟨Oe,Oh,re,rh,ho⟩:=s.parts;obtain⟨O1,O2,⟨hlt,q⟩,r2,hs⟩:=RL.take re hg;simp only[RV]at q;obtain⟨O3,r3,h3⟩:=RL.put s.se r2 (x:=.own false m []) (O1:=zero) ⟨hlt,by grind [RV,EP]⟩;have hle:∀b,O3 b+Oh b<=O b:=λb=>by simp_all
  exact .same (s.of_env r3 rh (s.se.put _ _) (λ_=>rfl) hle) hle
 grind [Mr.same]
end
def Gh.keep (g:Gh)(b:Nat)(K:Nat->Prop):Gh:={ g with pm:=λb' o=>g.pm b' o∨(b'=b∧K o) }
section
variable {P:Program}{g:Gh}{w:World}{t:G_}{O:Nat->Nat}{st st':St}{a:AV}
def bI.keep (g:Gh)(w:World)(b:Nat)(K:Nat->Prop):bI g w (g.keep b K) w λx=>x=b where
 obj _ _ h:=⟨h,rfl,rfl,rfl⟩
 pm _ _ h:=⟨.inl h,rfl⟩
 blk _ _ h:=⟨rfl,λ_ h'=>h'.elim id λe=>absurd e.1 h⟩
 size:=ai _
 lp _ rc h:=⟨rc,h⟩
 same:=⟨rfl,rfl,λ_=>rfl⟩
def S.keep {st:St}(s:S P g w st t O){b:Nat}(hO:O b=0){c:G_}{el:TypeId}(hb:w.heap[b]?=some (.cells c el (0,0)))(K:Nat->Prop) :
  S P (g.keep b K) w st t O:=by
 obtain⟨Oe,Oh,re,rh,ho⟩:=s.parts;have hx:=bI.keep g w b K;have re':=kt.ext hx re (λy hy e=>by simp_all);have rh':Ep P (g.keep b K) w st.hs.heap Oh:=rh.imp' λk v Q _ hQ q=>q.ext hx (λy hy e=>by grind) (λy ds hd e=>by
  simp_all)
 exact⟨s.se,s.sh,⟨Oe,Oh,re',rh',ho⟩,s.le,s.hi,s.fresh,λb' o h=>h.elim (s.pmlt b' o) λe=>by grind⟩
def asU (P:Program)(g:Gh)(w:World)(t:G_)(O:Nat->Nat)(st:St)(x:Value)(Ov:Nat->Nat)(r:AV×ak):Prop :=
 ∃g' Ov' O',RV g' w r.1 x Ov'∧S P g' w ⟨st.env,⟨r.2,st.hs.next⟩⟩ t O'∧bI g w g' w (λb=>Ov b=0∧O b≠0)∧∀b,Ov' b+O' b<=Ov b+O b
def aka {st:St}(s:S P g w st t O){v:AV}{x:Value}{Ov:Nat->Nat}(rv:RV g w v x Ov) :
  asU P g w t O st x Ov (Bm st.hs.heap v):=by
 have triv:asU P g w t O st x Ov (v,st.hs.heap):=⟨g,Ov,O,rv,s,.refl _ _ _,λ_=>ai _⟩
 cases v with
 |sl id off len =>
  unfold Bm;simp only;split
  .rename_i m xs hg;split
   .rename_i hb;rw[bf]at hb;obtain⟨Oe,Oh,re,rh,ho⟩:=s.parts;obtain⟨O1,O2,q,r2,hs⟩:=RL.take rh hg;have hle2:∀b,Oe b+O2 b<=O b:=λb=>by grind
    have s2:S P g w ⟨st.env,⟨del st.hs.heap id,st.hs.next⟩⟩ t (λb=>Oe b+O2 b) :=
     ⟨s.se,s.sh.del id,⟨Oe,O2,re,r2,λ_=>rfl⟩,λb=>aP (hle2 b) (s.le b),λb hb=>s.hi b e_,s.fresh,s.pmlt⟩
    have hsub:(Vm.sub xs off len).length=len:=kz hb;have emp:len=0->(∃a,x=.slice a 0 0)->RV g w (.own false m (Vm.sub xs off len)) x zero:=by
     grind [RV,EP]
    rcases rv with ⟨h0,h⟩|⟨b,cap,hob,rfl,hlc,hcap⟩
    .exact⟨g,zero,_,emp h0 h,s2,.refl _ _ _,λb=>by simp_all⟩
    .rcases q with ⟨rfl,g1,g2,g3,_⟩|⟨b',c,el,g1,g2,g3,g4,g5,g6,g7,g8,g9,g10⟩
     .have hl0:len=0:=u_;have hc0:cap=0:=by
       grind [Nat.mul_eq_zero]
      subst hl0 hc0;exact⟨g,zero,_,emp rfl ⟨_,rfl⟩,s2,.refl _ _ _,λb=>by simp_all⟩
     .rw[hob]at g1;simp only[ae]at g1;subst g1;have h1:O1 b=1:=u_;have hO2:Oe b+O2 b=0:=by have:=hs b;have:=ho b;have:=s.le b;omega
      have s3:=s2.keep hO2 g4 (λo=>g.base id+off*m<=o∧o<g.base id+off*m+len*m);refine⟨_,one b,_,?_,s3,(bI.keep g w b _).mono λy _ e=>?_,λy=>?_⟩
      .refine .inr ⟨b,g.base id+off*m,cap,c,el,u_,o_,g3,IV g7 off len,g4,?_,?_,λo ho=>?_,λ_ j hj=>?_,rfl⟩
       .grind [Nat.add_mul]
       .rw[oN g7];exact(g8.sub _ _).ext (bI.keep g w b _) (.inl rfl)
       .rcases ho with h|h<;>simp_all
       .rw[hsub]at hj;exact .inr ⟨rfl,o_,o_⟩
      all_goals grind
   omega
  omega
 |_=>exact triv
end
end Go.Vm
end
