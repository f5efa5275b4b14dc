import GoSem.Core.View
import GoSem.Core.Program
import GoSem.Core.Layout
import GoSem.Op.Equal
import Derived.Calls
import Derived.Laws.Sem
import Derived.Laws.World
import Derived.Laws.Cells
set_option linter.unusedVariables false
set_option linter.unusedSimpArgs false
set_option linter.defProp false
set_option linter.unusedSectionVars false
noncomputable section
namespace Go.Vm
abbrev C_:=List Nat
abbrev G_:=List Int
abbrev AA_:=List Bool
abbrev H_:=Option Nat
abbrev M_:=List Value
abbrev BA_:=List UInt8
abbrev BB_:=Array Bool
abbrev E_:=Array Value
abbrev AH_:=Option Bool
abbrev O_:=List (Nat×Nat)
abbrev R_:=List (List Int)
abbrev BE_:=Option (Nat×Nat)
abbrev AG_:=Option (Nat->Nat)
abbrev N_:=List (Nat×List Nat)
abbrev AE_:=Option (List Nat×List Nat)
set_option maxHeartbeats 4000000
set_option maxRecDepth 100000
theorem o_ {p:Prop}(h:p:=by omega):p:=h
theorem s_ {p:Prop}(h:p:=by simp):p:=h
theorem u_ {p:Prop}(h:p:=by simp_all):p:=h
theorem k_ {p:Prop}(h:p:=by decide):p:=h
theorem d_ {p:Prop}(h:p:=by grind):p:=h
abbrev aa:=@if_neg
abbrev dF_:=@decide_eq_false
abbrev dT_:=@decide_eq_true
abbrev bC:=@Nat.ble_eq_true_of_le
abbrev aq:=@Nat.beq_eq
abbrev aX:=@congrArg
inductive D where
 |int (k:IntKind) (n:Int)
 |bool (b:Bool)
 |str (s:BA_)
 |lst (xs:List (List D))
 deriving Inhabited
abbrev U_:=List D
abbrev BC_:=Option D
abbrev F_:=List (U_)
abbrev AB_:=Option (F_)
inductive AV where
 |junk
 |d (x:D)
 |nl
 |own (p:Bool) (m:Nat) (xs:F_)
 |gl (n:Nat)
 |agg (cs:List AV)
 |tup (vs:List AV)
 |nilp
 |ptr (id off:Nat)
 |pel (id i off:Nat)
 |pim (cs:U_) (off:Nat)
 |sl (id off len:Nat)
 |fn (f:FuncId) (first caps:List AV)
 |nilf
 |yield (l:Nat)
 deriving Inhabited
abbrev D_:=List AV
abbrev L_:=Option AV
abbrev AV.int (k:IntKind)(n:Int):AV:=.d (.int k n)
abbrev AV.bool (b:Bool):AV:=.d (.bool b)
abbrev A_ (n:Int):AV:=.d (.int .i64 n)
abbrev B_ (b:Bool):AV:=.d (.bool b)
inductive Rd where
 |s (i:Nat)
 |m (i:Nat)
 |c (v:AV)
 deriving Inhabited
abbrev S_:=List Rd
abbrev Y_:=Option Rd
abbrev Z_:=List (Nat×Nat×Rd)
inductive lX where
 |mov (x:Rd)
 |pick (c a b:Rd)
 |alloc (zs:D_)
 |box (x:Rd)
 |build (zs:D_) (ps:Z_)
 |mks (m:Nat) (ps:S_)
 |mksv (m:Nat) (ps:S_)
 |ld (n:H_) (take:Nat) (p:Rd)
 |st (n:Nat) (p x:Rd)
 |nilck (x:Rd)
 |bin (op:BinOp) (x y:Rd)
 |binb (neg:Bool) (x y:Rd)
 |bina (neg:Bool) (ks:AA_) (x y:Rd)
 |un (op:UnOp) (x:Rd)
 |conv (k:IntKind) (x:Rd)
 |toStr (x:Rd)
 |mkfn (f:FuncId) (first caps:S_)
 |mkslice (z:U_) (len cap:Rd)
 |slice (m:Nat) (x:Rd) (lo hi mx:Y_)
 |slarr (n:Nat) (x:Rd) (lo hi mx:Y_)
 |fa (off:Nat) (p:Rd)
 |fld (off:Nat) (n:H_) (x:Rd)
 |ia (n:Nat) (x i:Rd)
 |iarr (len n:Nat) (p i:Rd)
 |ix (len n:Nat) (agg:Bool) (x i:Rd)
 |ixs (x i:Rd)
 |idxb (x c:Rd)
 |ext (j:Nat) (mv:Bool) (i:Nat)
 |len (x:Rd)
 |cap (x:Rd)
 |app (m:Nat) (x y:Rd)
 |appz (z:U_) (x n:Rd)
 |cpy (m:Nat) (x y:Rd)
 |clr (z:U_) (x:Rd)
 |minmax (isMax:Bool) (xs:S_)
 |call (f:FuncId) (args:S_)
 |calli (f:FuncId) (args:S_)
 |callv (f:Rd) (args:S_)
 |bad
 |kill (is:C_)
 |free (i:Nat)
 |wk (i m:Nat)
 |frz (i:Nat)
 |frzC (i:Nat) (offs:C_)
 deriving Inhabited
structure VI where
 dst:H_
 guard:Option (Nat×Bool)
 op:lX
 th:O_:=[]
 deriving Inhabited
abbrev Q_:=List VI
inductive VC where
 |skip
 |reg (draw:Bool) (ops:Q_)
 |regP (perm gco nr:C_) (ops:Q_)
 |seq (a b:VC)
 |cond (c:Rd) (a b:VC)
 |block (id:Nat) (a:VC)
 |loop (a:VC)
 |rangeF (f:Rd) (params:C_) (assign body:VC)
 |exit (id:Nat)
 |scope (a:VC)
 |inScope (a cur:VC)
 |label (l:Nat)
 |goto (l:Nat)
 |ret
 |clone (m:Nat)
 |late (i d f:Nat) (a:VC)
 deriving Inhabited
inductive oU where
 |tmp (t:Nat)
 |cell (t:Nat) (n:H_)
 deriving Inhabited
abbrev AF_:=List oU
structure aj where
 nparams:Nat
 results:AF_
 body:VC
 deriving Inhabited
abbrev W_:=Option aj
abbrev aK:=List (Nat×AV)
inductive bD where
 |normal
 |exit (id:Nat)
 |goto (l:Nat)
 |ret
 deriving Inhabited,DecidableEq
abbrev BD_:=Option bD
inductive Obj where
 |cells (cs:D_)
 |arr (m:Nat) (xs:F_)
 |loop (snap:aK) (params:C_) (assign body:VC) (busy:Bool) (pend:BD_)
 deriving Inhabited
abbrev ak:=List (Nat×Obj)
abbrev AD_:=Option (AV×ak)
structure HS where
 heap:ak
 next:Nat
 deriving Inhabited
abbrev T_:=Option (AV×HS)
structure St where
 env:aK
 hs:HS
 deriving Inhabited
abbrev X_:=Option St
abbrev J_:=Option (bD×St)
abbrev K_:=Option (AV×St)
abbrev Cv (a b:Nat):Prop:=a<b
abbrev SF (a b:Nat):Prop:=a<=b
abbrev WU (a b:Nat):Bool:=Nat.ble a b
def agp {a b:Nat}(h:SF a b):WU a b=true:=u_
def akg {a b:Nat}(h:¬SF a b):WU a b=false:=by grind [Nat.ble_eq]
def aqn {α:Type}:List (Nat×α)->Nat->Option α
 |[],_=>none
 |(k,v)::r,i=>match Nat.beq k i with
  |true=>some v
  |false=>aqn r i
def get {α:Type}(l:List (Nat×α))(i:Nat):Option α :=
 List.rec (motive:=λ_=>Option α) none (λp _ ih=>Prod.rec (motive:=λ_=>Option α) (λk v=>Bool.rec (motive:=λ_=>Option α) ih (some v) (Nat.beq k i)) p) l
def aqg {α:Type}:List (Nat×α)->Nat->α->List (Nat×α)
 |[],i,x=>[(i,x)]
 |(k,v)::r,i,x=>match Nat.beq k i with
  |true=>(i,x)::r
  |false=>match WU i k with
   |true=>(i,x)::(k,v)::r
   |false=>(k,v)::aqg r i x
def put {α:Type}(l:List (Nat×α))(i:Nat)(x:α):List (Nat×α) :=
 List.rec (motive:=λ_=>List (Nat×α)) [(i,x)] (λp r ih=>Prod.rec (motive:=λ_=>List (Nat×α)) (λk v=>Bool.rec (motive:=λ_=>List (Nat×α)) (Bool.rec (motive:=λ_=>List (Nat×α)) ((k,v)::ih) ((i,x)::(k,v)::r) (WU i k)) ((i,x)::r) (Nat.beq k i)) p) l
def akQ {α:Type}:List (Nat×α)->Nat->List (Nat×α)
 |[],_=>[]
 |(k,v)::r,i=>match Nat.beq k i with
  |true=>akQ r i
  |false=>(k,v)::akQ r i
def del {α:Type}(l:List (Nat×α))(i:Nat):List (Nat×α) :=
 List.rec (motive:=λ_=>List (Nat×α)) [] (λp _ ih=>Prod.rec (motive:=λ_=>List (Nat×α)) (λk v=>Bool.rec (motive:=λ_=>List (Nat×α)) ((k,v)::ih) ih (Nat.beq k i)) p) l
section
variable {α:Type}
theorem xH (i:Nat):get ([]:List (Nat×α)) i=none:=rfl
theorem Sc (i:Nat)(x:α):put [] i x=[(i,x)]:=rfl
theorem S7 (i:Nat):del ([]:List (Nat×α)) i=[]:=rfl
def ash {k i:Nat}(h:k=i):Nat.beq k i=true:=u_
def Xl {k i:Nat}(h:¬k=i):Nat.beq k i=false:=by grind [Nat.beq_eq]
theorem gv (k:Nat)(v:α)(r:List (Nat×α))(i:Nat):get ((k,v)::r) i=if k=i then some v else get r i:=by
 show Bool.rec (motive:=λ_=>Option α) (get r i) (some v) (Nat.beq k i)=_;by_cases h:k=i
 all_goals simp_all [Xl]
theorem ma (k:Nat)(v:α)(r:List (Nat×α))(i:Nat):del ((k,v)::r) i=if k=i then del r i else (k,v)::del r i:=by
 show Bool.rec (motive:=λ_=>List (Nat×α)) ((k,v)::del r i) (del r i) (Nat.beq k i)=_;by_cases h:k=i
 all_goals simp_all [Xl]
theorem tC (k:Nat)(v:α)(r:List (Nat×α))(i:Nat)(x:α) :
  put ((k,v)::r) i x=if k=i then (i,x)::r else if SF i k then (i,x)::(k,v)::r else (k,v)::put r i x:=by
 show Bool.rec (motive:=λ_=>List (Nat×α)) (Bool.rec (motive:=λ_=>List (Nat×α)) ((k,v)::put r i x) ((i,x)::(k,v)::r) (WU i k)) ((i,x)::r) (Nat.beq k i)=_;by_cases h:k=i
 .simp_all
 .rw[aa h,Xl h];by_cases h2:SF i k
  all_goals simp_all [agp,akg]
end
mutual
def aeb:AV->AV
 |.own p _ xs=>match p with
  |false=>.d (.lst xs)
  |true=>.junk
 |.agg cs=>.agg (shareAll cs)
 |.tup cs=>.tup (shareAll cs)
 |v=>v
def shareAll:D_->D_
 |[]=>[]
 |v::r=>aeb v::shareAll r
end
def share (v:AV):AV:=AV.casesOn (motive_1:=λ_=>AV) v .junk (λx=>.d x) .nl (λp _ xs=>Bool.casesOn (motive:=λ_=>AV) p (.d (.lst xs)) .junk) (λn=>.gl n) (λcs=>.agg (shareAll cs)) (λcs=>.tup (shareAll cs))
 .nilp (λa b=>.ptr a b) (λa b c=>.pel a b c) (λa b=>.pim a b) (λa b c=>.sl a b c) (λa b c=>.fn a b c) .nilf (λa=>.yield a)
theorem adN (v:AV):aeb v=share v:=by
 cases v<;>try rfl
 rename_i p _ _
 cases p<;>rfl
def XJ:shareAll []=[]:=rfl
def nj (v:AV)(r:D_):shareAll (v::r)=share v::shareAll r:=by grind [shareAll,adN]
def rd (e:aK):Rd->Option (AV×aK)
 |.c v=>some (v,e)
 |.m i=>match get e i with
  |some v=>some (v,del e i)
  |none=>none
 |.s i=>match get e i with
  |some v=>some (share v,e)
  |none=>none
def rdAll (e:aK):S_->Option (D_×aK)
 |[]=>some ([],e)
 |x::r=>match rd e x with
  |none=>none
  |some (v,e)=>match rdAll e r with
   |none=>none
   |some (vs,e)=>some (v::vs,e)
def rdOpt (e:aK):Y_->Option (L_×aK)
 |none=>some (none,e)
 |some x=>match rd e x with
  |some (v,e)=>some (some v,e)
  |none=>none
def sub {α:Type}(xs:List α)(off len:Nat):List α:=(xs.drop off).take len
def ar {α:Type}(cs:List α)(off:Nat)(vs:List α):List α:=cs.take off++vs++cs.drop (off+vs.length)
def E6:U_->F_
 |[]=>[]
 |x::r=>[x]::E6 r
def BA:AV->BC_
 |.d x=>some x
 |.nl=>some (.lst [])
 |.own false _ xs=>some (.lst xs)
 |_=>none
def kg:D_->Option U_
 |[]=>some []
 |v::r=>match BA v with
  |some x=>match kg r with
   |some xs=>some (x::xs)
   |none=>none
  |none=>none
def AV.cells:AV->D_
 |.agg cs=>cs
 |v=>[v]
def objElems (h:ak)(id:Nat):AB_ :=
 match get h id with
 |some (.arr _ xs)=>some xs
 |some (.cells cs)=>match kg cs with
  |some ds=>some (E6 ds)
  |none=>none
 |_=>none
def elems (h:ak):AV->AB_
 |.d (.lst xs)=>some xs
 |.nl=>some []
 |.own false _ xs=>some xs
 |.sl id off len=>match objElems h id with
  |some xs=>match Nat.ble (off+len) xs.length with
   |true=>some (sub xs off len)
   |false=>none
  |none=>none
 |_=>none
def lenOf:AV->H_
 |.d (.lst xs)=>some xs.length
 |.nl=>some 0
 |.own _ _ xs=>some xs.length
 |.gl n=>some n
 |.sl _ _ len=>some len
 |_=>none
def viewOne (h:ak):AV->L_
 |.d x=>some (.d x)
 |.nl=>some .nl
 |.own false _ xs=>some (.d (.lst xs))
 |.sl id off len=>match elems h (.sl id off len) with
  |some xs=>some (.d (.lst xs))
  |none=>none
 |_=>none
def viewAll (h:ak):D_->Option D_
 |[]=>some []
 |v::r=>match viewOne h v with
  |none=>none
  |some x=>match viewAll h r with
   |none=>none
   |some xs=>some (x::xs)
def viewArg (h:ak):AV->L_
 |.agg cs=>match viewAll h cs with
  |some xs=>some (.agg xs)
  |none=>none
 |v=>viewOne h v
def viewArgs (h:ak):D_->Option D_
 |[]=>some []
 |v::r=>match viewArg h v with
  |none=>none
  |some x=>match viewArgs h r with
   |none=>none
   |some xs=>some (x::xs)
def te:AV->Bool
 |.sl ..=>true
 |_=>false
def ue:AV->Bool
 |.agg cs=>cs.any te
 |v=>te v
def jF (h:ak):AV->AD_
 |.d x=>some (.d x,h)
 |.nl=>some (.nl,h)
 |.own p m xs=>some (.own p m xs,h)
 |.sl id off len=>match get h id with
  |some (.arr m xs)=>match Nat.ble (off+len) xs.length with
   |true=>some (.own true m (sub xs off len),del h id)
   |false=>none
  |_=>none
 |_=>none
def oN (h:ak):D_->Option (D_×ak)
 |[]=>some ([],h)
 |v::r=>match jF h v with
  |none=>none
  |some (x,h)=>match oN h r with
   |none=>none
   |some (xs,h)=>some (x::xs,h)
def fG (h:ak):AV->AD_
 |.agg cs=>match oN h cs with
  |some (xs,h)=>some (.agg xs,h)
  |none=>none
 |v=>jF h v
def pK (h:ak):D_->Option (D_×ak)
 |[]=>some ([],h)
 |v::r=>match fG h v with
  |none=>none
  |some (x,h)=>match pK h r with
   |none=>none
   |some (xs,h)=>some (x::xs,h)
def jx:D->Bool
 |.lst _=>false
 |_=>true
def iV:AV->Bool
 |.d x=>jx x
 |.own _ _ xs=>xs.all λe=>e.all jx
 |_=>true
def iW:AV->Bool
 |.agg cs=>cs.all iV
 |v=>iV v
def jb:AV->Bool
 |.tup vs=>vs.all iW
 |v=>iW v
def lV:AV->AV
 |.own _ m xs=>.own true m xs
 |v=>v
def kX:AV->AV
 |.agg cs=>.agg (cs.map lV)
 |v=>lV v
def nA:AV->AV
 |.tup vs=>.tup (vs.map kX)
 |v=>kX v
def dZ (v:AV):AV :=
 match jb v with
 |true=>nA v
 |false=>v
def fq (h:ak):AV->L_
 |.tup vs=>match pK h vs with
  |some (xs,_)=>some (dZ (.tup xs))
  |none=>none
 |v=>match fG h v with
  |some (x,_)=>some (dZ x)
  |none=>none
def mi (n:H_)(cs:U_)(off:Nat):L_ :=
 match n with
 |none=>match cs[off]? with
  |some x=>some (.d x)
  |none=>none
 |some n=>match Nat.ble (off+n) cs.length with
  |true=>some (.agg ((sub cs off n).map .d))
  |false=>none
def oy (t:Nat)(v:AV):AV×AV :=
 match t with
 |1=>(v,.junk)
 |2=>(v,share v)
 |3=>(v,match v with|.own _ _ xs=>.gl xs.length|v=>share v)
 |_=>(share v,v)
def eh (t:Nat):D_->D_×D_
 |[]=>([],[])
 |v::r=>((oy t v).1::(eh t r).1,(oy t v).2::(eh t r).2)
def loadAt (h:ak)(n:H_)(take:Nat):AV->AD_
 |.ptr id off=>match get h id with
  |some (.cells cs)=>match n with
   |none=>match cs[off]? with
    |none=>none
    |some v=>match take with
     |0=>some (share v,h)
     |t=>some ((oy t v).1,put h id (.cells (cs.set off (oy t v).2)))
   |some n=>match Nat.ble (off+n) cs.length with
    |true=>match take with
     |0=>some (.agg (shareAll (sub cs off n)),h)
     |t=>some (.agg (eh t (sub cs off n)).1,put h id (.cells (ar cs off (eh t (sub cs off n)).2)))
    |false=>none
  |_=>none
 |.pel id i off=>match get h id with
  |some (.arr _ xs)=>match xs[i]? with
   |some x=>match mi n x off with
    |some v=>some (v,h)
    |none=>none
   |none=>none
  |_=>none
 |.pim cs off=>match mi n cs off with
  |some v=>some (v,h)
  |none=>none
 |_=>none
def b9:AV->Bool
 |.junk|.agg _|.tup _=>false
 |.own p _ _=>!p
 |_=>true
def storeAt (h:ak)(n:Nat)(p x:AV):Option ak :=
 match Nat.beq x.cells.length n with
 |false=>none
 |true=>match p with
  |.ptr id off=>match get h id with
   |some (.cells cs)=>match Nat.ble (off+n) cs.length && x.cells.all b9 with
    |true=>some (put h id (.cells (ar cs off x.cells)))
    |false=>none
   |_=>none
  |.pel id i off=>match kg x.cells with
   |none=>none
   |some ds=>match get h id with
    |some (.arr m xs)=>match xs[i]? with
     |some e=>match Nat.ble (off+n) e.length with
      |true=>some (put h id (.arr m (xs.set i (ar e off ds))))
      |false=>none
     |none=>none
    |_=>none
  |_=>none
def nI (off:Nat):AV->L_
 |.ptr id o=>some (.ptr id (o+off))
 |.pel id i o=>some (.pel id i (o+off))
 |.pim cs o=>some (.pim cs (o+off))
 |_=>none
def nu (lo hi:Int)(k:IntKind)(n:Int):Int :=
 match decide (lo<=n) && decide (n<=hi) with
 |true=>n
 |false=>k.wrap n
def wr (k:IntKind)(n:Int):Int :=
 match k with
 |.i64=>nu (-9223372036854775808) 9223372036854775807 k n
 |.u8=>nu 0 255 k n
 |.u64=>nu 0 18446744073709551615 k n
 |.u16=>nu 0 65535 k n
 |.u32=>nu 0 4294967295 k n
 |k=>k.wrap n
def Dc (op:BinOp)(k:IntKind)(x y:Int):BC_ :=
 match decide (y<0) with
 |true=>none
 |false=>match op with
  |.shl=>some (.int k (wr k (x*((2 ^ (min y.toNat k.bits):Nat):Int))))
  |.shr=>some (.int k (x.fdiv ((2 ^ (min y.toNat k.bits):Nat):Int)))
  |_=>none
def KH (op:BinOp)(k:IntKind)(x y:Int):BC_ :=
 let slow (f:BitVec k.bits->BitVec k.bits->BitVec k.bits):BC_:=some (.int k (k.wrap (f (BitVec.ofInt k.bits x) (BitVec.ofInt k.bits y)).toNat))
 match op with
 |.and=>slow (·&&& ·)
 |.or=>slow (·|||·)
 |.xor=>slow (·^^^ ·)
 |.andNot=>slow λa b=>a &&& ~~~b
 |_=>none
def jo (op:BinOp)(k:IntKind)(x y:Int):BC_ :=
 match op with
 |.add=>some (.int k (wr k (x+y)))
 |.sub=>some (.int k (wr k (x-y)))
 |.mul=>some (.int k (wr k (x*y)))
 |.quo=>match decide (y=0) with
  |true=>none
  |false=>some (.int k (wr k (x.tdiv y)))
 |.rem=>match decide (y=0) with
  |true=>none
  |false=>some (.int k (x.tmod y))
 |.eql=>some (.bool (decide (x=y)))
 |.neq=>some (.bool (!decide (x=y)))
 |.lss=>some (.bool (decide (x<y)))
 |.leq=>some (.bool (decide (x<=y)))
 |.gtr=>some (.bool (decide (y<x)))
 |.geq=>some (.bool (decide (y<=x)))
 |.shl=>none
 |.shr=>none
 |op=>KH op k x y
def me:IntKind->IntKind->Bool
 |.i8,.i8|.i16,.i16|.i32,.i32|.i64,.i64|.u8,.u8|.u16,.u16|.u32,.u32|.u64,.u64=>true
 |_,_=>false
def aW:AA_->D_->D_->AH_
 |[],[],[]=>some true
 |true::ks,.d (.int k a)::r,.d (.int j b)::s=>match me k j with
  |true=>match decide (a=b) with
   |true=>aW ks r s
   |false=>some false
  |false=>none
 |false::ks,.d (.bool a)::r,.d (.bool b)::s=>match a == b with
  |true=>aW ks r s
  |false=>some false
 |_,_,_=>none
def sQ (op:BinOp)(k:IntKind)(a:Int)(j:IntKind)(b:Int):BC_ :=
 match op with
 |.shl=>Dc .shl k a b
 |.shr=>Dc .shr k a b
 |op=>match me k j with
  |true=>jo op k a b
  |false=>none
def cL (op:BinOp):AV->AV->L_
 |.d (.int k a),.d (.int j b)=>match sQ op k a j b with
  |some x=>some (.d x)
  |none=>none
 |.d (.str a),.d (.str b)=>match op with
  |.eql=>some (.bool (a == b))
  |.neq=>some (.bool (!(a == b)))
  |.add=>match Nat.ble (a.length+b.length) 4294967296 with
   |true=>some (.d (.str (a++b)))
   |false=>none
  |_=>none
 |_,_=>none
def ahB (a b:Int):Int:=Int.casesOn (motive:=λ_=>Int->Int) a (λm b=>Int.casesOn (motive:=λ_=>Int) b (λn=>.ofNat (Nat.add m n)) (λn=>Int.subNatNat m (Nat.succ n)))
 (λm b=>Int.casesOn (motive:=λ_=>Int) b (λn=>Int.subNatNat n (Nat.succ m)) (λn=>.negSucc (Nat.succ (Nat.add m n)))) b
def agF (a b:Int):Int:=Int.casesOn (motive:=λ_=>Int->Int) a (λm b=>Int.casesOn (motive:=λ_=>Int) b (λn=>Bool.casesOn (motive:=λ_=>Int) (Nat.ble n m) (Int.ofNat m-Int.ofNat n) (.ofNat (Nat.sub m n))) (λn=>.ofNat (Nat.add m (Nat.succ n))))
 (λm b=>Int.negSucc m-b) b
def agL (a b:Int):Int:=Int.casesOn (motive:=λ_=>Int->Int) a (λm b=>Int.casesOn (motive:=λ_=>Int) b (λn=>.ofNat (Nat.mul m n)) (λn=>Int.ofNat m*Int.negSucc n))
 (λm b=>Int.negSucc m*b) b
def Qg (a b:Int):Bool:=Int.casesOn (motive:=λ_=>Int->Bool) a (λm b=>Int.casesOn (motive:=λ_=>Bool) b (λn=>Nat.ble m n) (λ_=>false))
 (λm b=>Int.casesOn (motive:=λ_=>Bool) b (λ_=>true) (λn=>Nat.ble n m)) b
def ieq (a b:Int):Bool:=Int.casesOn (motive:=λ_=>Int->Bool) a (λm b=>Int.casesOn (motive:=λ_=>Bool) b (λn=>Nat.beq m n) (λ_=>false))
 (λm b=>Int.casesOn (motive:=λ_=>Bool) b (λ_=>false) (λn=>Nat.beq m n)) b
def XX (k:IntKind):Nat:=IntKind.casesOn (motive:=λ_=>Nat) k 127 32767 2147483647 9223372036854775807 255 65535 4294967295 18446744073709551615
def Xh (k:IntKind):Nat:=IntKind.casesOn (motive:=λ_=>Nat) k 128 32768 2147483648 9223372036854775808 0 0 0 0
def Z3 (k:IntKind):Nat:=IntKind.casesOn (motive:=λ_=>Nat) k 0 1 2 3 4 5 6 7
def wq (n:Int)(k:IntKind):D:=Int.casesOn (motive:=λ_=>D) n (λm=>Bool.casesOn (motive:=λ_=>D) (Nat.ble m (XX k)) (.int k (k.wrap (.ofNat m))) (.int k (.ofNat m)))
 (λm=>Bool.casesOn (motive:=λ_=>D) (Nat.ble (Nat.succ m) (Xh k)) (.int k (k.wrap (.negSucc m))) (.int k (.negSucc m)))
abbrev BF:=BinOp->IntKind->Int->Int->L_
def EF:BF:=λop k a b=>cL op (.d (.int k a)) (.d (.int k b))
def aq5:BF:=λ_ k a b=>some (.d (wq (ahB a b) k))
def aqP:BF:=λ_ k a b=>some (.d (wq (agF a b) k))
def arg:BF:=λ_ k a b=>some (.d (wq (agL a b) k))
def aqo:BF:=λ_ _ a b=>some (B_ (ieq a b))
def arz:BF:=λ_ _ a b=>some (B_ (Bool.casesOn (motive:=λ_=>Bool) (ieq a b) true false))
def ary:BF:=λ_ _ a b=>some (B_ (Bool.casesOn (motive:=λ_=>Bool) (Qg b a) true false))
def aqp:BF:=λ_ _ a b=>some (B_ (Qg a b))
def aq9:BF:=λ_ _ a b=>some (B_ (Bool.casesOn (motive:=λ_=>Bool) (Qg a b) true false))
def ap5:BF:=λ_ _ a b=>some (B_ (Qg b a))
def agX (op:BinOp):BF:=BinOp.casesOn (motive:=λ_=>BF) op aq5 aqP arg EF EF EF EF EF EF EF EF aqo arz ary aqp aq9 ap5
def aqR (k:IntKind)(a:Int)(op:BinOp)(y:D):L_:=D.casesOn (motive_1:=λ_=>IntKind->Int->BinOp->L_) y
 (λj b k a op=>Bool.casesOn (motive:=λ_=>L_) (Nat.beq (Z3 k) (Z3 j)) (cL op (.d (.int k a)) (.d (.int j b))) (agX op op k a b))
 (λ_ _ _ _=>none) (λ_ _ _ _=>none) (λ_ _ _ _=>none) k a op
def ana (x:D)(op:BinOp)(y:AV):L_:=D.casesOn (motive_1:=λ_=>BinOp->AV->L_) x
 (λk a op y=>AV.casesOn (motive_1:=λ_=>IntKind->Int->BinOp->L_) y (λ_ _ _=>none) (λd k a op=>aqR k a op d) (λ_ _ _=>none) (λ_ _ _ _ _ _=>none) (λ_ _ _ _=>none) (λ_ _ _ _=>none) (λ_ _ _ _=>none) (λ_ _ _=>none) (λ_ _ _ _ _=>none) (λ_ _ _ _ _ _=>none) (λ_ _ _ _ _=>none) (λ_ _ _ _ _ _=>none) (λ_ _ _ _ _ _=>none) (λ_ _ _=>none) (λ_ _ _ _=>none) k a op)
 (λb op y=>cL op (B_ b) y) (λs op y=>cL op (.d (.str s)) y) (λxs op y=>cL op (.d (.lst xs)) y) op y
def amo (op:BinOp)(x y:AV):L_:=AV.casesOn (motive_1:=λ_=>BinOp->AV->L_) x (λ_ _=>none) (λd op y=>ana d op y) (λ_ _=>none) (λ_ _ _ _ _=>none) (λ_ _ _=>none) (λ_ _ _=>none) (λ_ _ _=>none) (λ_ _=>none) (λ_ _ _ _=>none) (λ_ _ _ _ _=>none) (λ_ _ _ _=>none) (λ_ _ _ _ _=>none) (λ_ _ _ _ _=>none) (λ_ _=>none) (λ_ _ _=>none) op y
def abR (k j:IntKind):Nat.beq (Z3 k) (Z3 j)=me k j:=by cases k<;>cases j<;>rfl
theorem ajx (a b:Int):ahB a b=a+b:=by cases a<;>cases b<;>rfl
theorem ai6 (a b:Int):agF a b=a-b:=by
 cases a with
 |ofNat m =>
  cases b with
  |ofNat n =>
   show Bool.casesOn (motive:=λ_=>Int) (Nat.ble n m) (Int.ofNat m-Int.ofNat n) (.ofNat (Nat.sub m n))=_;by_cases h:n<=m
   .rw[bC h]
    grind
   .rw[show Nat.ble n m=false by grind [Nat.ble_eq]]
  |negSucc n=>rfl
 |negSucc m=>rfl
theorem aiE (a b:Int):agL a b=a*b:=by cases a<;>cases b<;>rfl
theorem PT (a b:Int):Qg a b=decide (a<=b):=by
 cases a with
 |ofNat m =>
  cases b with
  |ofNat n =>
   show Nat.ble m n=_
   grind [Nat.ble_eq]
  |negSucc n =>
   show false=_
   grind
 |negSucc m =>
  cases b with
  |ofNat n =>
   show true=_
   grind
  |negSucc n =>
   show Nat.ble n m=_
   grind [Nat.ble_eq]
theorem adD (a b:Int):ieq a b=decide (a=b):=by
 cases a with
 |ofNat m =>
  cases b with
  |ofNat n =>
   show Nat.beq m n=_
   grind [Nat.beq_eq]
  |negSucc n =>
   show false=_
   simp_all
 |negSucc m =>
  cases b with
  |ofNat n =>
   show false=_
   simp_all
  |negSucc n =>
   show Nat.beq m n=_
   grind [Nat.beq_eq]
theorem LW {k:IntKind}{n:Int}(h:-(Xh k:Int)<=n)(h2:n<=XX k):k.wrap n=n:=by
 cases k<;>simp only[Xh,XX]at h h2<;>simp only[IntKind.wrap,IntKind.bits,IntKind.signed]<;>simp<;>omega
def ajD (k:IntKind)(n:Int):wr k n=k.wrap n:=by
 have H:∀lo hi:Int,(lo<=n->n<=hi->k.wrap n=n)->nu lo hi k n=k.wrap n:=by
  grind [nu]
 cases k<;>simp only[wr]
 all_goals grind [LW,Xh,XX]
theorem ace (k:IntKind)(n:Int):wq n k=.int k (wr k n):=by
 rw[ajD]
 cases n with
 |ofNat m =>
  show Bool.casesOn (motive:=λ_=>D) (Nat.ble m (XX k)) (.int k (k.wrap (.ofNat m))) (.int k (.ofNat m))=_;by_cases h:m<=XX k
  .simp_all [bC,LW]
  .rw[show Nat.ble m (XX k)=false by grind [Nat.ble_eq]]
 |negSucc m =>
  show Bool.casesOn (motive:=λ_=>D) (Nat.ble (Nat.succ m) (Xh k)) (.int k (k.wrap (.negSucc m))) (.int k (.negSucc m))=_;by_cases h:m+1<=Xh k
  .rw[bC h,LW]
   all_goals omega
  .rw[show Nat.ble (Nat.succ m) (Xh k)=false by grind [Nat.ble_eq]]
theorem ahf (b:Bool):Bool.casesOn (motive:=λ_=>Bool) b true false=!b:=by cases b<;>rfl
theorem nv (k:IntKind):me k k=true:=by cases k<;>rfl
theorem ajL (op:BinOp)(k:IntKind)(a b:Int):agX op op k a b=cL op (.d (.int k a)) (.d (.int k b)):=by
 cases op
 case add=>show some (AV.d (wq (ahB a b) k))=_;grind [ace,ajx,cL,sQ,nv,jo]
 case sub=>show some (AV.d (wq (agF a b) k))=_;grind [ace,ai6,cL,sQ,nv,jo]
 case mul=>show some (AV.d (wq (agL a b) k))=_;grind [ace,aiE,cL,sQ,nv,jo]
 case eql=>show some (AV.d (.bool (ieq a b)))=_;grind [adD,cL,sQ,nv,jo]
 case neq=>show some (AV.d (.bool (Bool.casesOn (motive:=λ_=>Bool) (ieq a b) true false)))=_;grind [ahf,adD,cL,sQ,nv,jo]
 case lss=>show some (AV.d (.bool (Bool.casesOn (motive:=λ_=>Bool) (Qg b a) true false)))=_;grind [ahf,PT,cL,sQ,nv,jo]
 case leq=>show some (AV.d (.bool (Qg a b)))=_;grind [PT,cL,sQ,nv,jo]
 case gtr=>show some (AV.d (.bool (Bool.casesOn (motive:=λ_=>Bool) (Qg a b) true false)))=_;grind [ahf,PT,cL,sQ,nv,jo]
 case geq=>show some (AV.d (.bool (Qg b a)))=_;grind [PT,cL,sQ,nv,jo]
 all_goals rfl
theorem Mp (op:BinOp)(x y:AV):amo op x y=cL op x y:=by
 cases x<;>try rfl
 rename_i d
 cases d<;>try rfl
 rename_i k a
 cases y<;>try rfl
 rename_i e
 cases e<;>try rfl
 rename_i j b;show Bool.casesOn (motive:=λ_=>L_) (Nat.beq (Z3 k) (Z3 j)) (cL op (.d (.int k a)) (.d (.int j b))) (agX op op k a b)=_;rw[abR]
 cases h:me k j with
 |false=>rfl
 |true =>
  have:k=j:=by revert h;cases k<;>cases j<;>simp[me]
  grind [ajL]
def SU (op:UnOp):AV->L_
 |.d (.int k n)=>match op with
  |.neg=>some (.int k (wr k (0-n)))
  |.xor=>match KH .xor k (if k.signed then -1 else k.max) n with
   |some x=>some (.d x)
   |none=>none
  |_=>none
 |.d (.bool b)=>match op with
  |.not=>some (.bool !b)
  |_=>none
 |_=>none
def Dw (isMax:Bool):AV->AV->L_
 |.d (.int k a),.d (.int j b)=>match me k j with
  |true=>match (if isMax then decide (a<b) else decide (b<a)) with
   |true=>some (.int k b)
   |false=>some (.int k a)
  |false=>none
 |_,_=>none
def Bh (isMax:Bool):AV->D_->L_
 |v,[]=>some v
 |v,x::r=>match Dw isMax v x with
  |some v=>Bh isMax v r
  |none=>none
def cP:Nat:=4294967296
def gD (v:AV)(top:Nat):H_ :=
 match v with
 |.d (.int _ (.ofNat n))=>match Nat.ble n top with
  |true=>some n
  |false=>none
 |_=>none
def CI (lo:L_)(h m:Nat):Option (Nat×Nat×Nat) :=
 match lo with
 |none=>some (0,h,m)
 |some v=>match gD v h with
  |some l=>some (l,h,m)
  |none=>none
def G5 (len:Nat)(lo hi mx:L_):Option (Nat×Nat×Nat) :=
 let m:H_:=match mx with
  |none=>some len
  |some v=>gD v len
 match m with
 |none=>none
 |some m =>
  let h:H_:=match hi with
   |none=>match mx with
    |none=>some len
    |some _=>none
   |some v=>gD v m
  match h with
  |none=>none
  |some h=>CI lo h m
def Kz (m:Nat):F_->Bool
 |[]=>true
 |e::_=>Nat.beq e.length m
def okSl (h:ak)(m:Nat):AV->Bool
 |.sl id _ _=>match get h id with
  |some (.arr k _)=>Nat.beq k m
  |some (.cells _)=>Nat.beq m 1
  |_=>false
 |_=>true
def Hi (m:Nat)(x:AV)(lo hi mx:L_):L_ :=
 match lenOf x with
 |none=>none
 |some len=>match G5 len lo hi mx with
  |none=>none
  |some (l,h,_)=>match x with
   |.d (.lst xs)=>match Kz m xs with
    |true=>some (.d (.lst (sub xs l (h-l))))
    |false=>none
   |.nl=>some .nl
   |.own false k xs=>match Nat.beq k m with
    |true=>match Nat.beq h len with
     |true=>some (.own false k (sub xs l (h-l)))
     |false=>some (.d (.lst (sub xs l (h-l))))
    |false=>none
   |.sl id off _=>some (.sl id (off+l) (h-l))
   |_=>none
def wx:AV->Bool
 |.agg _=>true
 |v=>b9 v
def dL:D_->List (Nat×Nat×AV)->Option D_
 |cs,[]=>some cs
 |cs,(off,n,v)::r=>match Nat.beq v.cells.length n && wx v && Nat.ble (off+n) cs.length with
  |true=>dL (ar cs off v.cells) r
  |false=>none
def qW:Z_->D_->List (Nat×Nat×AV)
 |(a,b,_)::r,v::s=>(a,b,v)::qW r s
 |_,_=>[]
def pR:Z_->S_
 |[]=>[]
 |(_,_,x)::r=>x::pR r
def ij (m:Nat):D_->AB_
 |[]=>some []
 |v::r=>match Nat.beq v.cells.length m with
  |true=>match kg v.cells with
   |some e=>match ij m r with
    |some es=>some (e::es)
    |none=>none
   |none=>none
  |false=>none
def fA (n:Nat):F_->Bool
 |[]=>true
 |e::r=>match Nat.beq e.length n with
  |true=>fA n r
  |false=>false
def rV:F_->Option BA_
 |[]=>some []
 |[.int .u8 (.ofNat n)]::r=>match rV r with
  |some s=>some (n.toUInt8::s)
  |none=>none
 |_=>none
def E2:BA_->Nat->Nat->Int
 |[],_,_=>-1
 |b::l,c,i=>match Nat.beq b.toNat c with
  |true=>.ofNat i
  |false=>E2 l c (i+1)
def indexByte (c:Int)(xs:F_)(i:Nat):Option Int :=
 match rV xs with
 |some s=>some (E2 s (c.toNat % 256) i)
 |none=>none
structure cH where
 code:VC->St->J_
 call:FuncId->D_->HS->T_
def QM (v:AV):AV:=match iV v with
 |true=>lV v
 |false=>match lenOf v with
  |some n=>.gl n
  |none=>.junk
def I3:AV->AV
 |.agg cs=>.agg (cs.map QM)
 |v=>QM v
def Hx:AV->AV
 |.tup vs=>.tup (vs.map I3)
 |v=>I3 v
def dI (r:cH)(f:FuncId)(args:D_)(h:ak):L_ :=
 match viewArgs h args with
 |none=>none
 |some ds=>match r.call f ds ⟨[],0⟩ with
  |none=>none
  |some (v,hs)=>match fq hs.heap v with
   |none=>none
   |some v=>match args.any ue with
    |false=>some v
    |true=>match jb v with
     |true=>some v
     |false=>some (Hx v)
def s9:aK->C_->D_->Option aK
 |e,[],[]=>some e
 |e,i::is,v::vs=>s9 (put e i v) is vs
 |_,_,_=>none
def rW (r:cH)(l:Nat)(args:D_)(hs:HS):T_ :=
 match get hs.heap l with
 |some (.loop snap params assign body false none) =>
  match s9 snap params args with
  |none=>none
  |some e=>match r.code assign ⟨e,hs⟩ with
   |some (.normal,st)=>match get st.hs.heap l with
    |some (.loop snap params assign body2 false none) =>
     match r.code body ⟨st.env,⟨put st.hs.heap l (.loop snap params assign body2 true none),st.hs.next⟩⟩ with
     |none=>none
     |some (o,st)=>match get st.hs.heap l with
      |some (.loop snap params assign body true none) =>
       match o with
       |.normal=>some (.bool true,⟨put st.hs.heap l (.loop snap params assign body false none),st.hs.next⟩)
       |o=>some (.bool false,⟨put st.hs.heap l (.loop snap params assign body false (some o)),st.hs.next⟩)
      |_=>none
    |_=>none
   |_=>none
 |_=>none
def cW (r:cH)(f:AV)(args:D_)(hs:HS):T_ :=
 match f with
 |.fn g first caps=>r.call g (first++(args++caps)) hs
 |.yield l=>rW r l args hs
 |_=>none
def D2 (hs:HS)(o:Obj):Nat×HS:=(hs.next,⟨put hs.heap hs.next o,hs.next+1⟩)
def lN (hs:HS):AV->AV×HS
 |.own true m xs=>match Nat.beq m 0 with
  |true=>(.own true m xs,hs)
  |false=>(.sl hs.next 0 xs.length,⟨put hs.heap hs.next (.arr m xs),hs.next+1⟩)
 |v=>(v,hs)
def nC:AV->AV
 |.own _ m xs=>.own false m xs
 |v=>v
def oD:AV->AV
 |.agg cs=>.agg (cs.map nC)
 |v=>nC v
def firm (v:AV):AV:=AV.casesOn (motive_1:=λ_=>AV) v .junk (λx=>.d x) .nl (λ_ m xs=>.own false m xs) (λn=>.gl n) (λcs=>.agg (cs.map nC)) (λvs=>.tup (vs.map oD))
 .nilp (λa b=>.ptr a b) (λa b c=>.pel a b c) (λa b=>.pim a b) (λa b c=>.sl a b c) (λa b c=>.fn a b c) .nilf (λa=>.yield a)
def kN (hs:HS)(o:Nat):AV->AV×HS
 |.agg cs=>match cs[o]? with
  |some v=>(.agg (cs.set o (lN hs v).1),(lN hs v).2)
  |none=>(.agg cs,hs)
 |v=>lN hs v
def nU (hs:HS)(p:Nat×Nat):AV->AV×HS
 |.tup vs=>match vs[p.1]? with
  |some v=>(.tup (vs.set p.1 (kN hs p.2 v).1),(kN hs p.2 v).2)
  |none=>(.tup vs,hs)
 |v=>kN hs p.2 v
def cY:O_->AV->HS->AV×HS
 |[],v,hs=>(v,hs)
 |p::r,v,hs=>cY r (nU hs p v).1 (nU hs p v).2
def Gx (h:ak):AV->AV×ak
 |.sl id off len=>match get h id with
  |some (.arr m xs)=>match Nat.ble (off+len) xs.length with
   |true=>(.own false m (sub xs off len),del h id)
   |false=>(.sl id off len,h)
  |_=>(.sl id off len,h)
 |v=>(v,h)
def tz:C_->D_->ak->D_×ak
 |[],cs,h=>(cs,h)
 |o::r,cs,h=>match cs[o]? with
  |some v=>tz r (cs.set o (Gx h v).1) (Gx h v).2
  |none=>tz r cs h
def da (m:Nat)(h:ak)(a:AV)(ys:F_):AD_ :=
 match Nat.ble ys.length cP with
 |false=>none
 |true=>match a with
  |.nl=>some ((match ys with|[]=>.nl|ys=>.own true m ys),h)
  |.own _ k xs=>match Nat.beq k m && Nat.ble (xs.length+ys.length) cP with
   |true=>some (.own false m (xs++ys),h)
   |false=>none
  |.sl id off len=>match get h id with
   |some (.arr k xs)=>match Nat.beq k m && Nat.ble (off+len) xs.length && Nat.ble (len+ys.length) cP with
    |true=>some (.own true m (sub xs off len++ys),del h id)
    |false=>none
   |_=>none
  |_=>none
def oJ:AV->H_
 |.d (.int _ (.ofNat n))=>some n
 |_=>none
def Mb (x:Rd)(st:St):K_ :=
 match rd st.env x with
 |some (v,e)=>some (v,⟨e,st.hs⟩)
 |none=>none
def jG (c:Rd)(a:Rd)(b:Rd)(st:St):K_ :=
 match rd st.env c with
 |some (.d (.bool t),e)=>match rd e (match t with|true=>a|false=>b) with
  |some (v,e)=>some (v,⟨e,st.hs⟩)
  |none=>none
 |_=>none
def GI (zs:D_)(st:St):K_ :=
 some (.ptr st.hs.next 0,⟨st.env,(D2 st.hs (.cells zs)).2⟩)
def L9 (x:Rd)(st:St):K_ :=
 match rd st.env x with
 |some (v,e)=>match v.cells.all b9 with
  |true=>some (.ptr st.hs.next 0,⟨e,(D2 st.hs (.cells v.cells)).2⟩)
  |false=>none
 |none=>none
def Ai (zs:D_)(ps:Z_)(st:St):K_ :=
 match rdAll st.env (pR ps) with
 |some (vs,e)=>match dL zs (qW ps vs) with
  |some cs=>some (.agg cs,⟨e,st.hs⟩)
  |none=>none
 |none=>none
def IW (m:Nat)(ps:S_)(st:St):K_ :=
 match rdAll st.env ps with
 |some (vs,e)=>match ij m vs with
  |some xs=>some (.own true m xs,⟨e,st.hs⟩)
  |none=>none
 |none=>none
def QL (m:Nat)(ps:S_)(st:St):K_ :=
 match rdAll st.env ps with
 |some (vs,e)=>match vs.all (λv=>Nat.beq v.cells.length m && v.cells.all b9) with
  |true=>some (.sl st.hs.next 0 vs.length,⟨e,(D2 st.hs (.cells (vs.flatMap AV.cells))).2⟩)
  |false=>none
 |none=>none
def An (n:H_)(take:Nat)(p:Rd)(st:St):K_ :=
 match rd st.env p with
 |some (v,e)=>match loadAt st.hs.heap n take v with
  |some (v,h)=>some (v,⟨e,⟨h,st.hs.next⟩⟩)
  |none=>none
 |none=>none
def acg (n:Nat)(p:Rd)(x:Rd)(st:St):K_ :=
 match rd st.env p with
 |some (p,e)=>match rd e x with
  |some (v,e)=>match storeAt st.hs.heap n p v with
   |some h=>some (.junk,⟨e,⟨h,st.hs.next⟩⟩)
   |none=>none
  |none=>none
 |none=>none
def C7 (x:Rd)(st:St):K_ :=
 match rd st.env x with
 |some (v,e)=>match v with
  |.ptr ..|.pel ..|.pim ..|.fn ..|.yield ..=>some (v,⟨e,st.hs⟩)
  |_=>none
 |none=>none
def Ia (op:BinOp)(x:Rd)(y:Rd)(st:St):K_ :=
 match rd st.env x with
 |some (a,e)=>match rd e y with
  |some (b,e)=>match amo op a b with
   |some v=>some (v,⟨e,st.hs⟩)
   |none=>none
  |none=>none
 |none=>none
def Gn (neg:Bool)(x y:Rd)(st:St):K_ :=
 match rd st.env x with
 |some (a,e)=>match rd e y with
  |some (b,e)=>match a,b with
   |.d (.bool a),.d (.bool b)=>some (.bool (match neg with|true=>!(a == b)|false=>a == b),⟨e,st.hs⟩)
   |_,_=>none
  |none=>none
 |none=>none
def Gg (neg:Bool)(ks:AA_)(x y:Rd)(st:St):K_ :=
 match rd st.env x with
 |some (a,e)=>match rd e y with
  |some (b,e)=>match a,b with
   |.agg a,.agg b=>match aW ks a b with
    |some t=>some (.bool (match neg with|true=>!t|false=>t),⟨e,st.hs⟩)
    |none=>none
   |_,_=>none
  |none=>none
 |none=>none
def Sd (op:UnOp)(x:Rd)(st:St):K_ :=
 match rd st.env x with
 |some (a,e)=>match SU op a with
  |some v=>some (v,⟨e,st.hs⟩)
  |none=>none
 |none=>none
def Du (k:IntKind)(x:Rd)(st:St):K_ :=
 match rd st.env x with
 |some (.d (.int _ n),e)=>some (.int k (wr k n),⟨e,st.hs⟩)
 |_=>none
def Gv (x:Rd)(st:St):K_ :=
 match rd st.env x with
 |some (v,e)=>match elems st.hs.heap v with
  |some xs=>match rV xs with
   |some s=>some (.d (.str s),⟨e,st.hs⟩)
   |none=>none
  |none=>none
 |none=>none
def Dm (f:FuncId)(first:S_)(caps:S_)(st:St):K_ :=
 match rdAll st.env first with
 |some (a,e)=>match rdAll e caps with
  |some (c,e)=>some (.fn f (shareAll a) (shareAll c),⟨e,st.hs⟩)
  |none=>none
 |none=>none
def ka (z:U_)(len:Rd)(cap:Rd)(st:St):K_ :=
 match rd st.env len with
 |some (n,e)=>match rd e cap with
  |some (c,e)=>match gD c cP with
   |some c=>match gD n c with
    |some n=>some (.own true z.length (List.replicate n z),⟨e,st.hs⟩)
    |none=>none
   |none=>none
  |none=>none
 |none=>none
def Ha (m:Nat)(x:Rd)(lo:Y_)(hi:Y_)(mx:Y_)(st:St):K_ :=
 match rd st.env x with
 |some (v,e)=>match rdOpt e lo with
  |some (l,e)=>match rdOpt e hi with
   |some (h,e)=>match rdOpt e mx with
    |some (k,e)=>match okSl st.hs.heap m v with
     |true=>match Hi m v l h k with
      |some v=>some (v,⟨e,st.hs⟩)
      |none=>none
     |false=>none
    |none=>none
   |none=>none
  |none=>none
 |none=>none
def Mf (hp:ak)(n id off:Nat)(lo hi mx:L_):L_ :=
 match get hp id with
 |some (.cells cs)=>match Nat.ble (off+n) cs.length with
  |true=>match G5 n lo hi mx with
   |some (l,h,_)=>some (.sl id (off+l) (h-l))
   |none=>none
  |false=>none
 |_=>none
def L7 (n:Nat)(x:Rd)(lo:Y_)(hi:Y_)(mx:Y_)(st:St):K_ :=
 match rd st.env x with
 |some (.ptr id off,e)=>match rdOpt e lo with
  |some (l,e)=>match rdOpt e hi with
   |some (h,e)=>match rdOpt e mx with
    |some (k,e)=>match Mf st.hs.heap n id off l h k with
     |some v=>some (v,⟨e,st.hs⟩)
     |none=>none
    |none=>none
   |none=>none
  |none=>none
 |_=>none
def SA (off:Nat)(p:Rd)(st:St):K_ :=
 match rd st.env p with
 |some (p,e)=>match nI off p with
  |some v=>some (v,⟨e,st.hs⟩)
  |none=>none
 |none=>none
def Bx (n:H_)(cs:D_)(off:Nat):L_ :=
 match n with
 |none=>cs[off]?
 |some n=>match Nat.ble (off+n) cs.length with
  |true=>some (.agg (sub cs off n))
  |false=>none
def Xe (agg:Bool)(n:Nat):H_ :=
 match agg with
 |true=>some n
 |false=>none
def IR (off:Nat)(n:H_)(x:Rd)(st:St):K_ :=
 match rd st.env x with
 |some (.agg cs,e)=>match Bx n cs off with
  |some v=>some (v,⟨e,st.hs⟩)
  |none=>none
 |_=>none
def WQ (n:Nat)(x:Rd)(i:Rd)(st:St):K_ :=
 match rd st.env x with
 |some (v,e)=>match rd e i with
  |some (i,e)=>match oJ i with
   |some i=>match v with
    |.sl id off len=>match Nat.ble len i with
     |true=>none
     |false=>match get st.hs.heap id with
      |some (.arr m _)=>match Nat.beq m n with
       |true=>some (.pel id (off+i) 0,⟨e,st.hs⟩)
       |false=>none
      |some (.cells _)=>match Nat.beq n 1 with
       |true=>some (.ptr id (off+i),⟨e,st.hs⟩)
       |false=>none
      |_=>none
    |v=>match elems st.hs.heap v with
     |some xs=>match xs[i]? with
      |some x=>match Nat.beq x.length n with
       |true=>some (.pim x 0,⟨e,st.hs⟩)
       |false=>none
      |none=>none
     |none=>none
   |none=>none
  |none=>none
 |none=>none
def Hl (len:Nat)(n:Nat)(p:Rd)(i:Rd)(st:St):K_ :=
 match rd st.env p with
 |some (p,e)=>match rd e i with
  |some (i,e)=>match oJ i with
   |some i=>match Nat.ble len i with
    |true=>none
    |false=>match nI (i*n) p with
     |some v=>some (v,⟨e,st.hs⟩)
     |none=>none
   |none=>none
  |none=>none
 |none=>none
def OX (len:Nat)(n:Nat)(agg:Bool)(x:Rd)(i:Rd)(st:St):K_ :=
 match rd st.env x with
 |some (.agg cs,e)=>match rd e i with
  |some (i,e)=>match oJ i with
   |some i=>match Nat.ble len i with
    |true=>none
    |false=>match Bx (Xe agg n) cs (i*n) with
     |some v=>some (v,⟨e,st.hs⟩)
     |none=>none
   |none=>none
  |none=>none
 |_=>none
def HW (x:Rd)(i:Rd)(st:St):K_ :=
 match rd st.env x with
 |some (.d (.str s),e)=>match rd e i with
  |some (i,e)=>match oJ i with
   |some i=>match s[i]? with
    |some b=>some (.int .u8 (.ofNat b.toNat),⟨e,st.hs⟩)
    |none=>none
   |none=>none
  |none=>none
 |_=>none
def ago (h:ak)(v c:AV):L_ :=
 match c with
 |.d (.int .u8 n)=>match elems h v with
  |some xs=>match indexByte n xs 0 with
   |some r=>some (.int .i64 r)
   |none=>none
  |none=>none
 |_=>none
def Wp (x:Rd)(c:Rd)(st:St):K_ :=
 match rd st.env x with
 |some (v,e)=>match rd e c with
  |some (c,e)=>match ago st.hs.heap v c with
   |some r=>some (r,⟨e,st.hs⟩)
   |none=>none
  |none=>none
 |none=>none
def zj (j:Nat)(mv:Bool)(i:Nat)(st:St):K_ :=
 match get st.env j with
 |some (.tup vs)=>match vs[i]? with
  |some v=>match mv with
   |true=>some (v,⟨put st.env j (.tup (vs.set i .junk)),st.hs⟩)
   |false=>some (share v,st)
  |none=>none
 |_=>none
def MH (x:Rd)(st:St):K_ :=
 match rd st.env x with
 |some (v,e)=>match lenOf v with
  |some n=>some (.int .i64 (.ofNat n),⟨e,st.hs⟩)
  |none=>none
 |none=>none
def I7 (x:Rd)(st:St):K_ :=
 match rd st.env x with
 |some (.nl,e)=>some (.int .i64 (.ofNat 0),⟨e,st.hs⟩)
 |_=>none
def CU (m:Nat)(x:Rd)(y:Rd)(st:St):K_ :=
 match rd st.env x with
 |some (a,e)=>match rd e y with
  |some (b,e)=>match elems st.hs.heap b with
   |some ys=>match fA m ys with
    |true=>match da m st.hs.heap a ys with
     |some (v,h)=>some (v,⟨e,⟨h,st.hs.next⟩⟩)
     |none=>none
    |false=>none
   |none=>none
  |none=>none
 |none=>none
def Wz (z:U_)(x:Rd)(n:Rd)(st:St):K_ :=
 match rd st.env x with
 |some (a,e)=>match rd e n with
  |some (n,e)=>match gD n cP with
   |some n=>match da z.length st.hs.heap a (List.replicate n z) with
    |some (v,h)=>some (v,⟨e,⟨h,st.hs.next⟩⟩)
    |none=>none
   |none=>none
  |none=>none
 |none=>none
def QS (m:Nat)(x:Rd)(y:Rd)(st:St):K_ :=
 match rd st.env x with
 |some (a,e)=>match rd e y with
  |some (b,e)=>match elems st.hs.heap b with
   |some ys=>match a with
    |.sl id off len=>match get st.hs.heap id with
     |some (.arr k xs)=>match fA m ys && Nat.beq k m && Nat.ble (off+len) xs.length with
      |true=>some (.int .i64 (.ofNat (min len ys.length)),⟨e,⟨put st.hs.heap id (.arr k (ar xs off (ys.take len))),st.hs.next⟩⟩)
      |false=>none
     |_=>none
    |_=>match lenOf a with
     |some 0=>some (.int .i64 (.ofNat 0),⟨e,st.hs⟩)
     |_=>none
   |none=>none
  |none=>none
 |none=>none
def Md (z:U_)(x:Rd)(st:St):K_ :=
 match rd st.env x with
 |some (.sl id off len,e)=>match get st.hs.heap id with
  |some (.arr k xs)=>match Nat.beq k z.length && Nat.ble (off+len) xs.length with
   |true=>some (.tup [],⟨e,⟨put st.hs.heap id (.arr k (ar xs off (List.replicate len z))),st.hs.next⟩⟩)
   |false=>none
  |_=>none
 |_=>none
def w8 (isMax:Bool)(xs:S_)(st:St):K_ :=
 match rdAll st.env xs with
 |some (.d (.int k n)::vs,e)=>match Bh isMax (.d (.int k n)) vs with
  |some v=>some (v,⟨e,st.hs⟩)
  |none=>none
 |_=>none
def Bn (r:cH)(f:FuncId)(args:S_)(st:St):K_ :=
 match rdAll st.env args with
 |some (vs,e)=>match dI r f vs st.hs.heap with
  |some v=>some (v,⟨e,st.hs⟩)
  |none=>none
 |none=>none
def At (r:cH)(f:FuncId)(args:S_)(st:St):K_ :=
 match rdAll st.env args with
 |some (vs,e)=>match r.call f vs st.hs with
  |some (v,hs)=>some (v,⟨e,hs⟩)
  |none=>none
 |none=>none
def AG (r:cH)(f:Rd)(args:S_)(st:St):K_ :=
 match rd st.env f with
 |some (fv,e)=>match rdAll e args with
  |some (vs,e)=>match cW r fv vs st.hs with
   |some (v,hs)=>some (v,⟨e,hs⟩)
   |none=>none
  |none=>none
 |none=>none
def acL (st:St):K_ :=
 none
def Xm (is:C_)(st:St):K_ :=
 some (.tup [],⟨is.foldl del st.env,st.hs⟩)
def delAll:ak->C_->ak
 |h,[]=>h
 |h,i::r=>delAll (del h i) r
def Ds:D_->C_
 |[]=>[]
 |.ptr id _::r=>id::Ds r
 |_::r=>Ds r
def PY (i:Nat)(st:St):K_ :=
 match get st.env i with
 |some (.ptr id _)=>some (.tup [],⟨del st.env i,⟨del st.hs.heap id,st.hs.next⟩⟩)
 |some (.fn _ _ caps)=>some (.tup [],⟨del st.env i,⟨delAll st.hs.heap (Ds caps),st.hs.next⟩⟩)
 |_=>some (.tup [],st)
def ahk (i:Nat)(m:Nat)(st:St):K_ :=
 match get st.env i with
 |some .nl=>some (.tup [],⟨put st.env i (.own false m []),st.hs⟩)
 |_=>some (.tup [],st)
def acA (i:Nat)(st:St):K_ :=
 match get st.env i with
 |some v=>some (.tup [],⟨put st.env i (Gx st.hs.heap v).1,⟨(Gx st.hs.heap v).2,st.hs.next⟩⟩)
 |none=>none
def Yk (i:Nat)(offs:C_)(st:St):K_ :=
 match get st.env i with
 |some (.agg cs)=>some (.tup [],⟨put st.env i (.agg (tz offs cs st.hs.heap).1),⟨(tz offs cs st.hs.heap).2,st.hs.next⟩⟩)
 |_=>none
def cm (o:lX):cH->St->K_ :=
 lX.casesOn (motive:=λ_=>cH->St->K_) o
  (λx=>λ_ st=>Mb x st)
  (λc a b=>λ_ st=>jG c a b st)
  (λzs=>λ_ st=>GI zs st)
  (λx=>λ_ st=>L9 x st)
  (λzs ps=>λ_ st=>Ai zs ps st)
  (λm ps=>λ_ st=>IW m ps st)
  (λm ps=>λ_ st=>QL m ps st)
  (λn take p=>λ_ st=>An n take p st)
  (λn p x=>λ_ st=>acg n p x st)
  (λx=>λ_ st=>C7 x st)
  (λop x y=>λ_ st=>Ia op x y st)
  (λneg x y=>λ_ st=>Gn neg x y st)
  (λneg ks x y=>λ_ st=>Gg neg ks x y st)
  (λop x=>λ_ st=>Sd op x st)
  (λk x=>λ_ st=>Du k x st)
  (λx=>λ_ st=>Gv x st)
  (λf first caps=>λ_ st=>Dm f first caps st)
  (λz len cap=>λ_ st=>ka z len cap st)
  (λm x lo hi mx=>λ_ st=>Ha m x lo hi mx st)
  (λn x lo hi mx=>λ_ st=>L7 n x lo hi mx st)
  (λoff p=>λ_ st=>SA off p st)
  (λoff n x=>λ_ st=>IR off n x st)
  (λn x i=>λ_ st=>WQ n x i st)
  (λlen n p i=>λ_ st=>Hl len n p i st)
  (λlen n agg x i=>λ_ st=>OX len n agg x i st)
  (λx i=>λ_ st=>HW x i st)
  (λx c=>λ_ st=>Wp x c st)
  (λj mv i=>λ_ st=>zj j mv i st)
  (λx=>λ_ st=>MH x st)
  (λx=>λ_ st=>I7 x st)
  (λm x y=>λ_ st=>CU m x y st)
  (λz x n=>λ_ st=>Wz z x n st)
  (λm x y=>λ_ st=>QS m x y st)
  (λz x=>λ_ st=>Md z x st)
  (λisMax xs=>λ_ st=>w8 isMax xs st)
  (λf args=>λr st=>Bn r f args st)
  (λf args=>λr st=>At r f args st)
  (λf args=>λr st=>AG r f args st)
  (λ_ st=>acL st)
  (λis=>λ_ st=>Xm is st)
  (λi=>λ_ st=>PY i st)
  (λi m=>λ_ st=>ahk i m st)
  (λi=>λ_ st=>acA i st)
  (λi offs=>λ_ st=>Yk i offs st)
def bS (dst:H_)(v:AV)(st:St):St :=
 match dst with
 |some d=>⟨put st.env d v,st.hs⟩
 |none=>st
def eE (r:cH)(i:VI)(st:St):X_ :=
 match cm i.op r st with
 |some (v,st)=>match i.th with
  |[]=>some (bS i.dst (firm v) st)
  |th=>some (bS i.dst (firm (cY th v st.hs).1) ⟨st.env,(cY th v st.hs).2⟩)
 |none=>none
def b4 (r:cH)(i:VI)(st:St):X_ :=
 match i.guard with
 |none=>eE r i st
 |some (s,want)=>match get st.env s with
  |some (.d (.bool b))=>match b == want with
   |true=>eE r i st
   |false=>some (bS i.dst (.tup []) st)
  |some (.tup [])=>some (bS i.dst (.tup []) st)
  |_=>none
def ji (r:cH):Q_->St->X_
 |[],st=>some st
 |i::l,st=>match b4 r i st with
  |some st=>ji r l st
  |none=>none
def tY (r:cH)(vs:Q_):C_->St->X_
 |[],st=>some st
 |i::l,st=>match vs[i]? with
  |none=>none
  |some v=>match b4 r v st with
   |none=>none
   |some st=>tY r vs l st
def dl (k:Nat):C_->Bool
 |[]=>false
 |a::r=>match Nat.beq a k with
  |true=>true
  |false=>dl k r
mutual
def cI:AV->C_
 |.ptr id _=>[id]
 |.pel id _ _=>[id]
 |.sl id _ _=>[id]
 |.fn _ first caps=>idsAll first++idsAll caps
 |.agg cs=>idsAll cs
 |.tup vs=>idsAll vs
 |_=>[]
def idsAll:D_->C_
 |[]=>[]
 |v::r=>cI v++idsAll r
end
def Mz (e:aK):C_->C_
 |[]=>[]
 |s::r=>match get e s with
  |some v=>cI v++Mz e r
  |none=>Mz e r
def dG:C_->ak->ak
 |[],_=>[]
 |i::r,h=>match get h i with
  |some o=>put (dG r h) i o
  |none=>dG r h
mutual
def Js:D->D->Bool
 |.int k n,.int j m=>me k j && decide (n=m)
 |.bool a,.bool b=>a == b
 |.str s,.str t=>s == t
 |.lst xs,.lst ys=>eqDss xs ys
 |_,_=>false
def Ly:U_->U_->Bool
 |[],[]=>true
 |a::r,b::s=>Js a b && Ly r s
 |_,_=>false
def eqDss:F_->F_->Bool
 |[],[]=>true
 |a::r,b::s=>Ly a b && eqDss r s
 |_,_=>false
end
mutual
def gq:AV->AV->Bool
 |.junk,.junk=>true
 |.d x,.d y=>Js x y
 |.nl,.nl=>true
 |.own p m xs,.own q n ys=>p == q && Nat.beq m n && eqDss xs ys
 |.gl n,.gl m=>Nat.beq n m
 |.agg a,.agg b=>eqAVs a b
 |.tup a,.tup b=>eqAVs a b
 |.nilp,.nilp=>true
 |.ptr a b,.ptr c d=>Nat.beq a c && Nat.beq b d
 |.pel a b c,.pel d e f=>Nat.beq a d && Nat.beq b e && Nat.beq c f
 |.pim a b,.pim c d=>Ly a c && Nat.beq b d
 |.sl a b c,.sl d e f=>Nat.beq a d && Nat.beq b e && Nat.beq c f
 |.fn f a c,.fn g b d=>Nat.beq f g && eqAVs a b && eqAVs c d
 |.nilf,.nilf=>true
 |.yield a,.yield b=>Nat.beq a b
 |_,_=>false
def eqAVs:D_->D_->Bool
 |[],[]=>true
 |a::r,b::s=>gq a b && eqAVs r s
 |_,_=>false
end
def WR:Obj->Obj->Bool
 |.cells a,.cells b=>eqAVs a b
 |.arr m xs,.arr n ys=>Nat.beq m n && eqDss xs ys
 |_,_=>false
def c4:C_->ak->ak->Bool
 |[],_,_=>true
 |i::r,h,h'=>(match get h i with
  |some o=>(match get h' i with|some o'=>WR o o'|none=>false)
  |none=>true) && c4 r h h'
inductive NK where
 |call|take|read
def qn:lX->NK
 |.calli ..|.callv ..|.st ..=>.call
 |.ld none 2 _=>.take
 |_=>.read
def FK:AV->Bool
 |.own false _ _=>true
 |.nl=>true
 |_=>false
def anp:Rd->C_
 |.s i=>[i]
 |.m i=>[i]
 |.c _=>[]
def Le:S_->C_
 |[]=>[]
 |x::r=>anp x++Le r
def MA:lX->S_
 |.ld _ _ p=>[p]
 |.ia _ x _=>[x]
 |.slice _ x _ _ _=>[x]
 |.toStr x=>[x]
 |.call _ args=>args
 |_=>[]
def lQ (v:VI)(e:aK):C_:=Mz e (Le (MA v.op))
def tN (r:cH)(F:C_)(v:VI)(st:St):X_ :=
 match qn v.op with
 |.call=>match b4 r v st with
  |some st1=>match c4 F st.hs.heap st1.hs.heap with
   |true=>some st1
   |false=>none
  |none=>none
 |.take=>match b4 r v st with
  |some st1=>match v.dst with
   |some d=>match get st1.env d with
    |some a=>match FK a with
     |true=>some st1
     |false=>none
    |none=>none
   |none=>none
  |none=>none
 |.read=>match b4 r v ⟨st.env,⟨dG (lQ v st.env) st.hs.heap,st.hs.next⟩⟩ with
  |some st1=>some ⟨st1.env,st.hs⟩
  |none=>none
def bx (r:cH)(a:Bool)(F:C_)(v:VI)(st:St):X_ :=
 match a with
 |false=>b4 r v st
 |true=>tN r F v st
def iD (a:Bool)(v:VI)(e:aK)(F:C_):C_ :=
 match a with
 |false=>F
 |true=>match qn v.op with
  |.read=>lQ v e++F
  |_=>F
def d9 (r:cH)(nr:C_)(vs:Q_):C_->C_->St->X_
 |[],_,st=>some st
 |i::l,F,st=>match vs[i]? with
  |none=>none
  |some v=>match bx r (dl i nr) F v st with
   |none=>none
   |some st1=>d9 r nr vs l (iD (dl i nr) v st.env F) st1
def sI:VC->Nat->Option VC
 |.seq a b,l=>match sI a l with
  |some c=>some (.seq c b)
  |none=>sI b l
 |.label k,l=>match Nat.beq k l with
  |true=>some .skip
  |false=>none
 |_,_=>none
def Mi (r:cH)(ops:Q_)(st:St):J_ :=
 match ji r ops st with
 |some st=>some (.normal,st)
 |none=>none
def wN:Rd->Bool
 |.m _=>false
 |_=>true
def fW (v:VI):H_ :=
 match v.op,v.guard,v.th with
 |.alloc _,none,[]=>v.dst
 |.mkslice _ l c,none,_=>match wN l && wN c with
  |true=>v.dst
  |false=>none
 |_,_,_=>none
def oM (e:aK):Q_->Bool
 |[]=>true
 |v::r=>(match fW v with
  |some d=>(match get e d with
   |none=>true
   |some _=>false)
  |none=>true) && oM e r
def ME:Nat->C_->Q_->Bool
 |_,[],[]=>true
 |i,p::r,_::vs=>match Nat.beq p i with
  |true=>ME (i+1) r vs
  |false=>false
 |_,_,_=>false
def afZ (r:cH)(nr:C_)(ops:Q_)(perm:C_)(st:St):X_ :=
 match nr with
 |[]=>match ME 0 perm ops with
  |true=>ji r ops st
  |false=>d9 r [] ops perm [] st
 |a::n=>d9 r (a::n) ops perm [] st
def Wd {r:cH}{vs:Q_}:∀(perm:C_) (l:Q_) (i:Nat) (F:C_) (st:St),vs.drop i=l->ME i perm l=true->d9 r [] vs perm F st=ji r l st
 |[],[],_,_,_,_,_=>rfl
 |[],_::_,_,_,_,_,h=>by simp[ME]at h
 |_::_,[],_,_,_,_,h=>by simp[ME]at h
 |p::perm,v::l,i,F,st,hd,h=>by
  simp only[ME]at h;split at h
  .rename_i hp;rw[aq]at hp;subst hp;have hv:vs[p]?=some v:=by
    have:=aX (λl=>l[0]?) hd
    grind
   have hd':vs.drop (p+1)=l:=by
    have:=aX (λl=>l.drop 1) hd
    grind [List.drop_drop]
   simp only[d9,hv,bx,dl,ji]
   cases b4 r v st with
   |none=>rfl
   |some st1=>exact Wd perm l (p+1) _ st1 hd' h
  simp_all
def G0 {r:cH}{nr:C_}{ops:Q_}{perm:C_}{st:St}:afZ r nr ops perm st=d9 r nr ops perm [] st:=by
 unfold afZ;split
 .split
  .rename_i h;exact(Wd perm ops 0 [] st rfl h).symm
  .rfl
 .rfl
def GD (r:cH)(perm:C_)(nr:C_)(ops:Q_)(st:St):J_ :=
 match oM st.env ops with
 |true=>(match afZ r nr ops perm st with
  |some st=>some (.normal,st)
  |none=>none)
 |false=>none
def Id (r:cH)(a:VC)(b:VC)(st:St):J_ :=
 match r.code a st with
 |some (.normal,st)=>r.code b st
 |x=>x
def Lj (r:cH)(c:Rd)(a:VC)(b:VC)(st:St):J_ :=
 match rd st.env c with
 |some (.d (.bool true),e)=>r.code a ⟨e,st.hs⟩
 |some (.d (.bool false),e)=>r.code b ⟨e,st.hs⟩
 |_=>none
def GL (r:cH)(id:Nat)(a:VC)(st:St):J_ :=
 match r.code a st with
 |some (.exit j,st)=>match Nat.beq j id with
  |true=>some (.normal,st)
  |false=>some (.exit j,st)
 |x=>x
def Ll (r:cH)(a:VC)(st:St):J_ :=
 match r.code a st with
 |some (.normal,st)=>r.code (.loop a) st
 |x=>x
def AO (r:cH)(f:Rd)(params:C_)(assign:VC)(body:VC)(st:St):J_ :=
 match rd st.env f with
 |some (.fn g first caps,e) =>
  match r.call g (first++([.yield st.hs.next]++caps)) ⟨put st.hs.heap st.hs.next (.loop (e.map λkv=>(kv.1,share kv.2)) params assign body false none),st.hs.next+1⟩ with
  |some (_,hs)=>match get hs.heap st.hs.next with
   |some (.loop _ _ _ _ false pend)=>match pend with
    |none=>some (.normal,⟨e,⟨del hs.heap st.hs.next,hs.next⟩⟩)
    |some o=>some (o,⟨e,⟨del hs.heap st.hs.next,hs.next⟩⟩)
   |_=>none
  |none=>none
 |_=>none
def ai5 (r:cH)(a:VC)(st:St):J_ :=
 r.code (.inScope a a) st
def E5 (r:cH)(a:VC)(cur:VC)(st:St):J_ :=
 match r.code cur st with
 |some (.goto l,st)=>match sI a l with
  |some rest=>r.code (.inScope a rest) st
  |none=>some (.goto l,st)
 |x=>x
def Mh (m:Nat)(st:St):J_ :=
 match get st.env 0 with
 |some v=>match elems st.hs.heap v with
  |some xs=>match fA m xs && Nat.ble xs.length cP with
   |true=>some (.ret,⟨[(2,.own true m xs)],st.hs⟩)
   |false=>none
  |none=>none
 |none=>none
def LA (r:cH)(i d f:Nat)(a:VC)(st:St):J_ :=
 match get st.env i with
 |some (.ptr id off)=>match r.code a ⟨put st.env d (.ptr id off),st.hs⟩ with
  |some (.normal,st1)=>match r.call f [.ptr id off] st1.hs with
   |some (_,hs)=>some (.ret,⟨st1.env,hs⟩)
   |none=>none
  |some (.ret,st1)=>match r.call f [.ptr id off] st1.hs with
   |some (_,hs)=>some (.ret,⟨st1.env,hs⟩)
   |none=>none
  |_=>none
 |_=>none
def cj (c:VC):cH->St->J_ :=
 VC.casesOn (motive:=λ_=>cH->St->J_) c
  (λ_ st=>some (.normal,st))
  (λ_ ops=>λr st=>Mi r ops st)
  (λperm _ nr ops=>λr st=>GD r perm nr ops st)
  (λa b=>λr st=>Id r a b st)
  (λc a b=>λr st=>Lj r c a b st)
  (λid a=>λr st=>GL r id a st)
  (λa=>λr st=>Ll r a st)
  (λf params assign body=>λr st=>AO r f params assign body st)
  (λid=>λ_ st=>some (.exit id,st))
  (λa=>λr st=>ai5 r a st)
  (λa cur=>λr st=>E5 r a cur st)
  (λ_=>λ_ st=>some (.normal,st))
  (λl=>λ_ st=>some (.goto l,st))
  (λ_ st=>some (.ret,st))
  (λm=>λ_ st=>Mh m st)
  (λi d f a=>λr st=>LA r i d f a st)
def ef (st:St):AF_->Option (D_×St)
 |[]=>some ([],st)
 |.tmp t::r=>match get st.env t with
  |some v=>match ef ⟨del st.env t,st.hs⟩ r with
   |some (vs,st)=>some (v::vs,st)
   |none=>none
  |none=>none
 |.cell t n::r=>match get st.env t with
  |some (.ptr id 0)=>match loadAt st.hs.heap n 1 (.ptr id 0) with
   |some (v,h)=>match ef ⟨del st.env t,⟨del h id,st.hs.next⟩⟩ r with
    |some (vs,st)=>some (v::vs,st)
    |none=>none
   |none=>none
  |_=>none
def iK:Nat->D_->aK
 |_,[]=>[]
 |i,v::r=>put (iK (i+1) r) i v
def Ca (fn:aj)(st:St):T_ :=
 match ef st fn.results with
 |some ([v],st)=>some (v,st.hs)
 |some (vs,st)=>some (.tup vs,st.hs)
 |none=>none
def sT (P:Nat->W_)(r:cH)(f:FuncId)(args:D_)(hs:HS):T_ :=
 match P f with
 |none=>none
 |some fn=>match Nat.beq args.length fn.nparams with
  |false=>none
  |true=>match cj fn.body r ⟨iK 0 args,hs⟩ with
   |some (.normal,st)=>Ca fn st
   |some (.ret,st)=>Ca fn st
   |_=>none
def run (P:Nat->W_):Nat->cH
 |0=>⟨λ_ _=>none,λ_ _ _=>none⟩
 |n+1=>⟨λc st=>cj c (run P n) st,λf a h=>sT P (run P n) f a h⟩
inductive T where
 |leaf
 |node (k:Nat) (v:aj) (a b:T)
def T.look:T->Nat->W_
 |.leaf,_=>none
 |.node k v a b,i=>match Nat.beq k i with
  |true=>some v
  |false=>match Nat.ble i k with
   |true=>a.look i
   |false=>b.look i
abbrev af:=@Bool.and_eq_true
abbrev aQ:=@List.mem_cons
abbrev b6:=@Bool.or_eq_true
abbrev al:=@Bool.false_eq_true
abbrev bQ:=@Bool.not_eq_true'
def okD:D->Value->Bool
 |.int k n,.int j m=>me k j && decide (n=m)
 |.bool a,.bool b=>a == b
 |.str s,.string t=>s == t.data.toList
 |.lst [],.slice none 0 0=>true
 |_,_=>false
def Lq:U_->M_->Bool
 |[],[]=>true
 |d::r,v::s=>okD d v && Lq r s
 |_,_=>false
def Jg:AV->Value->Bool
 |.d (.lst _),_=>false
 |.d x,v=>okD x v
 |.nl,.slice none 0 0=>true
 |.nilp,.pointer none=>true
 |.nilf,.nilFunc=>true
 |_,_=>false
def mc:D_->M_->Bool
 |[],[]=>true
 |d::r,v::s=>Jg d v && mc r s
 |_,_=>false
def SC:AV->Value->Bool
 |.agg cs,.agg vs=>mc cs vs.toList
 |v,x=>Jg v x
def bO:Rd->Operand->Bool
 |.s i,.tmp t=>Nat.beq i t
 |.m i,.tmp t=>Nat.beq i t
 |.c v,.const x=>SC v x
 |.c (.fn f [] []),.func g=>Nat.beq f g
 |_,_=>false
def dc:S_->List Operand->Bool
 |[],[]=>true
 |r::l,o::s=>bO r o && dc l s
 |_,_=>false
def yz:Y_->Option Operand->Bool
 |none,none=>true
 |some r,some o=>bO r o
 |_,_=>false
section
variable (P:Program)
def tw (t:TypeId)(n:Nat):Bool:=match P.info? t with
 |some i=>Nat.beq i.size n
 |none=>false
def yQ (t:TypeId):Bool:=match P.underlying t with
 |some (.struct _)=>true
 |some (.array _ _)=>true
 |_=>false
def EU (t:TypeId):Bool:=match P.underlying t with
 |some (.struct _)=>false
 |some (.array _ _)=>false
 |some _=>true
 |none=>false
def nt (t:TypeId):H_->Bool
 |none=>EU P t
 |some n=>yQ P t && tw P t n
def f7 (t:TypeId)(m:Nat):Bool:=match P.underlying t with
 |some (.slice e)=>tw P e m && Nat.blt 0 m && Nat.ble (P.bytesOf e) 4096
 |_=>false
def aey (t:TypeId)(zs:U_):Bool:=match P.info? t with
 |some i=>match i.zero with
  |some z=>Lq zs z.cells.toList
  |none=>false
 |none=>false
def yq (t:TypeId)(zs:U_):Bool:=match P.underlying t with
 |some (.slice e)=>aey P e zs
 |_=>false
def kC (t:TypeId)(m:Nat):Bool:=match P.underlying t with
 |some (.slice e)=>match P.info? e with
  |some i=>match i.zero with
   |some z=>Nat.beq z.cells.size m
   |none=>false
  |none=>false
 |_=>false
def II (t:TypeId):Bool:=match P.underlying t with
 |some .string=>true
 |_=>false
def EL (t:TypeId):Bool:=match P.underlying t with
 |some (.int _)=>true
 |_=>false
def GB (t:TypeId):Bool:=match P.underlying t with
 |some .bool=>true
 |_=>false
def aaY (t:TypeId):Bool:=match P.underlying t with
 |some (.slice e)=>(match P.underlying e with
  |some (.int .u8)=>true
  |_=>false)
 |_=>false
def aeN (f:FuncId):Bool:=match P.funcs[f]? with
 |some fn=>fn.name == "internal/bytealg.IndexByte" && fn.origin == "" && fn.body.isNone
 |none=>false
def D3:AA_->List Field->Nat->Bool
 |[],[],_=>true
 |k::ks,f::r,n=>Nat.beq f.offset n && (f.name != "_") && (match k with|true=>EL P f.type|false=>GB P f.type) && EU P f.type && D3 ks r (n+1)
 |_,_,_=>false
def Gr:AA_->List Field->Nat->Bool
 |[],[],_=>true
 |_::_,[],_=>false
 |ks,f::r,n=>Nat.beq f.offset n && (f.name != "_") && (match P.underlying f.type with
  |some (.struct fs)=>Nat.ble fs.size ks.length && D3 P (ks.take fs.size) fs.toList 0 && !(P.stoodInHeld f.type) && tw P f.type fs.size && Gr (ks.drop fs.size) r (n+fs.size)
  |_=>match ks with
   |k::ks=>(match k with|true=>EL P f.type|false=>GB P f.type) && EU P f.type && Gr ks r (n+1)
   |[]=>false)
def wF (t:TypeId)(ks:AA_):Bool:=match P.underlying t with
 |some (.struct fs)=>Gr P ks fs.toList 0 && !(P.stoodInHeld t) && !(P.eqGuardType P.depth t)
 |_=>false
def ad5 (t:TypeId)(k:IntKind):Bool:=match P.underlying t with
 |some (.int j)=>me j k
 |_=>false
def MG (t:TypeId)(len n:Nat):Bool:=match P.underlying t with
 |some (.array l e)=>Nat.beq l len && tw P e n && Nat.blt 0 n
 |_=>false
def aan (t:TypeId)(f off:Nat):Bool:=match P.underlying t with
 |some (.struct fs)=>match fs[f]? with
  |some x=>Nat.beq x.offset off && (match P.info? x.type with|some i=>Nat.blt 0 i.size|none=>false)
  |none=>false
 |_=>false
def Ns (t:TypeId)(f off:Nat)(n:H_):Bool:=match P.underlying t with
 |some (.struct fs)=>match fs[f]? with
  |some x=>Nat.beq x.offset off && nt P x.type n
  |none=>false
 |_=>false
def QZ (t:TypeId)(len n:Nat)(agg:Bool):Bool:=match P.underlying t with
 |some (.array l e)=>Nat.beq l len && tw P e n && (match agg with|true=>yQ P e|false=>EU P e)
 |_=>false
def kG (places:Nat->BE_):Z_->List (Nat×Operand)->Bool
 |[],[]=>true
 |(off,n,r)::l,(i,o)::s=>(match places i with|some (a,b)=>Nat.beq a off && Nat.beq b n|none=>false) && bO r o && kG places l s
 |_,_=>false
def DU (fs:Array Field)(i:Nat):BE_:=match fs[i]? with
 |some f=>match P.info? f.type with
  |some t=>some (f.offset,t.size)
  |none=>none
 |none=>none
def S6 (fs:List Field):Bool:=fs.all λf=>(P.info? f.type).isSome
def Wv (t:TypeId)(zs:D_)(ps:Z_)(parts:List (Nat×Operand)):Bool :=
 (match P.info? t with
  |some i=>match i.zero with
   |some z=>mc zs z.cells.toList
   |none=>false
  |none=>false) &&
 match P.underlying t with
 |some (.struct fs)=>S6 P fs.toList && kG (DU P fs) ps parts
 |some (.array _ e)=>match P.info? e with
  |some i=>kG (λk=>some (k*i.size,i.size)) ps parts
  |none=>false
 |_=>false
def eu:Nat->S_->List (Nat×Operand)->Bool
 |_,[],[]=>true
 |k,r::l,(i,o)::s=>Nat.beq i k && bO r o && eu (k+1) l s
 |_,_,_=>false
def w6:Callee->Option FuncId
 |.value (.func f)=>some f
 |_=>none
def nk:Callee->Option Builtin
 |.builtin b=>some b
 |_=>none
def SY (a b:BinOp):Bool:=decide (a=b)
def amr (a b:UnOp):Bool:=decide (a=b)
def Jn (a b:Option Builtin):Bool:=decide (a=b)
def qg (c:Call):TypeId:=c.argTypes.getD 0 0
def Mr (c:Call):Bool:=Nat.beq c.argTypes.size 2
def aZ (v:lX)(o:Op):Bool :=
 match v with
 |.mov x=>(match o with
  |.move y=>bO x y
  |.assign y=>bO x y
  |.call c=>Jn (nk c.callee) (some .len) && Nat.blt 0 c.args.size && Nat.blt 0 c.argTypes.size && (match x with
   |.c (.d (.int .i64 n))=>(match P.underlying (qg c) with
    |some (.array l _)=>decide (n=(l:Int))
    |_=>false)
   |_=>false)
  |_=>false)
 |.pick c a b=>(match o with
  |.pick c' a' b'=>bO c c' && bO a a' && bO b b'
  |_=>false)
 |.alloc zs=>(match o with
  |.alloc e=>(match P.info? e with
   |some i=>(match i.zero with
    |some z=>mc zs z.cells.toList
    |none=>false)
   |none=>false)
  |_=>false)
 |.box x=>(match o with
  |.box _ y=>bO x y
  |_=>false)
 |.build zs ps=>(match o with
  |.build t parts=>Wv P t zs ps parts.toList
  |_=>false)
 |.mks m ps=>(match o with
  |.buildSlice t len parts=>f7 P t m && kC P t m && Nat.beq len ps.length && Nat.ble (len*m) 16777216 && eu 0 ps parts.toList
  |_=>false)
 |.mksv m ps=>(match o with
  |.buildSlice t len parts=>Nat.beq m 1 && f7 P t m && kC P t m && Nat.beq len ps.length && Nat.ble (len*m) 16777216 && Nat.blt 0 len && eu 0 ps parts.toList
  |_=>false)
 |.ld n _ p=>(match o with
  |.load t a=>nt P t n && bO p a
  |_=>false)
 |.st n p x=>(match o with
  |.store t a y=>tw P t n && bO p a && bO x y
  |_=>false)
 |.nilck x=>(match o with
  |.nilCheck y=>bO x y
  |_=>false)
 |.bin op x y=>(match o with
  |.binOp op' _ x' y' _=>SY op op' && bO x x' && bO y y'
  |_=>false)
 |.binb neg x y=>(match o with
  |.binOp op' t x' y' _=>SY (match neg with|true=>.neq|false=>.eql) op' && GB P t && bO x x' && bO y y'
  |_=>false)
 |.un op x=>(match o with
  |.unOp op' _ x'=>amr op op' && bO x x'
  |_=>false)
 |.conv k x=>(match o with
  |.convert src dst x'=>ad5 P dst k && EL P src && bO x x'
  |_=>false)
 |.toStr x=>(match o with
  |.convert src dst x'=>II P dst && aaY P src && bO x x'
  |_=>false)
 |.bina neg ks x y=>(match o with
  |.binOp op' t x' y' _=>SY (match neg with|true=>.neq|false=>.eql) op' && wF P t ks && bO x x' && bO y y'
  |_=>false)
 |.mkfn f first caps=>(match o with
  |.makeFunc (.func g) first' caps'=>Nat.beq f g && dc first first'.toList && dc caps caps'.toList
  |_=>false)
 |.mkslice z len cap=>(match o with
  |.makeSlice t l c=>f7 P t z.length && yq P t z && bO len l && bO cap c
  |_=>false)
 |.slice m x lo hi mx=>(match o with
  |.slice t y l h k=>f7 P t m && bO x y && yz lo l && yz hi h && yz mx k
  |_=>false)
 |.slarr n x lo hi mx=>(match o with
  |.slice t y l h k=>MG P t n 1 && bO x y && yz lo l && yz hi h && yz mx k
  |_=>false)
 |.fa off p=>(match o with
  |.fieldAddr t y f=>aan P t f off && bO p y
  |_=>false)
 |.fld off n x=>(match o with
  |.field t y f=>Ns P t f off n && bO x y
  |_=>false)
 |.ia n x i=>(match o with
  |.indexAddr t y j=>f7 P t n && bO x y && bO i j
  |_=>false)
 |.iarr len n p i=>(match o with
  |.indexAddr t y j=>MG P t len n && bO p y && bO i j
  |_=>false)
 |.ix len n agg x i=>(match o with
  |.index t y j=>QZ P t len n agg && bO x y && bO i j
  |_=>false)
 |.ixs x i=>(match o with
  |.index t y j=>II P t && bO x y && bO i j
  |_=>false)
 |.ext j _ i=>(match o with
  |.extract (.tmp t) k=>Nat.beq j t && Nat.beq i k
  |_=>false)
 |.len x=>(match o with
  |.call c=>Jn (nk c.callee) (some .len) && Nat.blt 0 c.argTypes.size && (match P.underlying (qg c) with|some (.slice _)=>true|_=>false) && dc [x] c.args.toList
  |_=>false)
 |.cap x=>(match o with
  |.call c=>Jn (nk c.callee) (some .cap) && Nat.blt 0 c.argTypes.size && (match P.underlying (qg c) with|some (.slice _)=>true|_=>false) && dc [x] c.args.toList
  |_=>false)
 |.app m x y=>(match o with
  |.call c=>Jn (nk c.callee) (some .append) && Mr c && f7 P (qg c) m && kC P (qg c) m &&
    (match P.underlying (c.argTypes.getD 1 0) with|some (.slice _)=>true|_=>false) && dc [x,y] c.args.toList
  |_=>false)
 |.appz z x n=>(match o with
  |.call c=>Jn (nk c.callee) (some .append) && Mr c && f7 P (qg c) z.length && yq P (qg c) z && EL P (c.argTypes.getD 1 0) && dc [x,n] c.args.toList
  |_=>false)
 |.cpy m x y=>(match o with
  |.call c=>Jn (nk c.callee) (some .copy) && Mr c && f7 P (qg c) m && (match P.underlying (c.argTypes.getD 1 0) with|some (.slice _)=>true|_=>false) && dc [x,y] c.args.toList
  |_=>false)
 |.clr z x=>(match o with
  |.call c=>Jn (nk c.callee) (some .clear) && f7 P (qg c) z.length && yq P (qg c) z && Nat.blt 0 c.argTypes.size && dc [x] c.args.toList
  |_=>false)
 |.minmax b xs=>(match o with
  |.call c=>Jn (nk c.callee) (some (match b with|true=>.max|false=>.min)) && dc xs c.args.toList
  |_=>false)
 |.call f args=>(match o with
  |.call c=>(match w6 c.callee with|some g=>Nat.beq f g|none=>false) && dc args c.args.toList
  |_=>false)
 |.calli f args=>(match o with
  |.call c=>(match w6 c.callee with|some g=>Nat.beq f g|none=>false) && dc args c.args.toList
  |_=>false)
 |.callv f args=>(match o with
  |.call c=>(match c.callee with|.value x=>bO f x|_=>false) && dc args c.args.toList
  |_=>false)
 |.idxb x c=>(match o with
  |.call k=>(match w6 k.callee with|some f=>aeN P f|none=>false) && dc [x,c] k.args.toList
  |_=>false)
 |.bad=>true
 |_=>false
def G7 (v:VI):Bool :=
 v.dst.isNone && v.guard.isNone && v.th.isEmpty && (match v.op with
  |.kill _=>true
  |.free _=>true
  |.wk _ _=>true
  |.frz _=>true
  |.frzC _ _=>true
  |_=>false)
def As (ops:Array Oper):Option (Nat×Bool)->Option (Nat×Bool)->Bool
 |none,none=>true
 |some (s,b),some (j,c)=>b == c && (match ops[j]? with
  |some o=>(match o.dst with|some d=>Nat.beq d s|none=>false)
  |none=>false)
 |_,_=>false
def zk (n:Nat)(ops:Array Oper)(v:VI)(o:Oper):Bool :=
 (match v.dst,o.dst with
  |none,none=>true
  |some a,some b=>Nat.beq a b && Nat.blt a n
  |_,_=>false) && As ops v.guard o.guard && aZ P v.op o.op
def Dg (n:Nat)(ops:Array Oper):Q_->List Oper->Bool
 |[],[]=>true
 |v::l,os=>match G7 v with
  |true=>Dg n ops l os
  |false=>match os with
   |o::s=>zk P n ops v o && Dg n ops l s
   |[]=>false
 |[],_::_=>false
end
def md:Rd->C_
 |.s i=>[i]
 |.m i=>[i]
 |.c _=>[]
def jd:Rd->C_
 |.m i=>[i]
 |_=>[]
def bv (rs:S_):C_:=rs.flatMap md
def aY (rs:S_):C_:=rs.flatMap jd
def z7:lX->Option S_
 |.mov x=>some [x]
 |.build _ ps=>some (pR ps)
 |.mks _ ps=>some ps
 |.ld _ 0 p=>some [p]
 |.nilck x=>some [x]
 |.bin _ x y=>some [x,y]
 |.binb _ x y=>some [x,y]
 |.bina _ _ x y=>some [x,y]
 |.un _ x=>some [x]
 |.conv _ x=>some [x]
 |.toStr x=>some [x]
 |.mkslice _ l c=>some [l,c]
 |.fa _ p=>some [p]
 |.fld _ _ x=>some [x]
 |.ia _ x i=>some [x,i]
 |.iarr _ _ p i=>some [p,i]
 |.ix _ _ _ x i=>some [x,i]
 |.ixs x i=>some [x,i]
 |.len x=>some [x]
 |.cap x=>some [x]
 |.minmax _ xs=>some xs
 |.mkfn _ first caps=>some (first++caps)
 |.call _ args=>some args
 |_=>none
def Gj:lX->AE_
 |.pick c a b=>some (bv [c,a,b],aY [c,a,b])
 |.ext j mv _=>some ([j],if mv then [j] else [])
 |.app _ (.c .nl) y=>some (bv [y],aY [y])
 |.slice _ x lo hi mx=>some (bv (x::(lo.toList++(hi.toList++(mx.toList++[])))),aY (x::(lo.toList++(hi.toList++(mx.toList++[])))))
 |v=>match z7 v with
  |some rs=>some (bv rs,aY rs)
  |none=>none
def Vp (i:VI):AE_ :=
 match i.th with
 |_::_=>none
 |[]=>match Gj i.op with
  |none=>none
  |some (R,M)=>some ((match i.guard with|some (s,_)=>s::(R++M)|none=>R++M),(match i.dst with|some d=>d::M|none=>M))
def pE:C_->C_->Bool
 |[],_=>true
 |a::r,l=>!dl a l && pE r l
def rY (a b:VI):Bool:=match Vp a,Vp b with
 |some (R1,M1),some (R2,M2)=>pE M1 R2 && pE M1 M2 && pE M2 R1
 |_,_=>false
def ui:Ground->Bool
 |.textOnly _=>false
 |.gcOnly _=>false
 |_=>true
def He (o:Oper)(j:Nat):Bool:=o.after.toList.any λe=>Nat.beq e.on j && ui e.ground
def QY (o:Oper)(v:VI):Nat->Q_->Bool
 |_,[]=>true
 |j,u::us=>(He o j ||rY u v) && QY o v (j+1) us
def qO (P:Program)(n:Nat)(ops:Array Oper)(prev:Q_):Q_->List Oper->Bool
 |[],[]=>true
 |v::vs,o::os=>zk P n ops v o && QY o v 0 prev && (o.after.toList.all λe=>Nat.blt e.on prev.length) && qO P n ops (prev++[v]) vs os
 |_,_=>false
def JR (i:VI)(l:C_):C_:=match i.guard with|some (s,_)=>s::l|none=>l
def wt (i:VI)(l:C_):C_:=match i.dst with|some d=>d::l|none=>l
inductive yh where
 |q|t|a|p
def iC (i:VI):Option (yh×C_×C_) :=
 match i.th with
 |_::_=>match Gj i.op with
  |some (R,M)=>some (.a,JR i (R++M),wt i M)
  |none=>none
 |[]=>match i.op with
  |.ld _ 2 p=>some (.t,JR i (md p++jd p),wt i (jd p))
  |.app _ (.s x) y=>some (.p,JR i (bv [.s x,y]++aY [.s x,y]),wt i (aY [.s x,y]))
  |.app _ (.m x) y=>some (.p,JR i (bv [.m x,y]++aY [.m x,y]),wt i (aY [.m x,y]))
  |.alloc _=>some (.a,JR i ([]++[]),wt i [])
  |.box x=>some (.a,JR i (md x++jd x),wt i (jd x))
  |v=>match Gj v with
   |some (R,M)=>some (.q,JR i (R++M),wt i M)
   |none=>none
def xl:yh->yh->Bool
 |.a,_=>false
 |.t,.t=>false
 |.p,.q=>true
 |.p,_=>false
 |_,.p=>false
 |_,_=>true
def Df (u v:VI):Bool:=match iC u,iC v with
 |some (k1,R1,M1),some (k2,R2,M2)=>xl k1 k2 && pE M1 R2 && pE M1 M2 && pE M2 R1
 |_,_=>false
def Lb:C_->C_->C_
 |[],l=>l
 |a::r,l=>match dl a l with
  |true=>Lb r l
  |false=>Lb r (a::l)
def sOp:lX->Bool
 |.mov _=>true
 |.pick ..=>true
 |.build ..=>true
 |.mks ..=>true
 |.nilck _=>true
 |.bin ..=>true
 |.binb ..=>true
 |.bina ..=>true
 |.un ..=>true
 |.conv ..=>true
 |.mkfn ..=>true
 |.mkslice ..=>true
 |.fa ..=>true
 |.fld ..=>true
 |.iarr ..=>true
 |.ix ..=>true
 |.ixs ..=>true
 |.ext ..=>true
 |.len _=>true
 |.cap _=>true
 |.minmax ..=>true
 |_=>false
def af9:lX->Option S_
 |.ld _ _ p=>some [p]
 |.st _ p x=>some [p,x]
 |.cpy _ x y=>some [x,y]
 |.clr _ x=>some [x]
 |.calli _ args=>some args
 |.callv f args=>some (f::args)
 |_=>none
def iS (i:VI):AE_ :=
 match iC i with
 |some (_,R,M)=>some (R,M)
 |none=>match af9 i.op with
  |some rs=>some (JR i (bv rs++aY rs),wt i (aY rs))
  |none=>none
def wG (a:Bool)(i:VI):AE_ :=
 match iS i with
 |some (R,M)=>match a with
  |false=>some (R,M)
  |true=>some (R++Le (MA i.op),M)
 |none=>none
def Hg (a:O_):Bool:=match a with|[]=>true|_=>false
def kS (a:Bool)(i:VI):Bool:=!a && Hg i.th && sOp i.op
def isQ (i:VI):Bool:=match iC i with|some (.q,_)=>true|_=>false
def Ui (i:VI):Bool:=match iC i with|some (.p,_)=>true|_=>false
def DK (i:VI):Bool:=match qn i.op with|.read=>true|_=>false
def WB (i:VI):Bool:=match qn i.op with|.take=>true|_=>false
def Pt (i:VI):Bool:=match qn i.op with|.call=>true|_=>false
def OD (a:Bool)(i:VI):Bool:=isQ i && (!a ||DK i)
def Xv (a b:Bool)(u v:VI):Bool:=a && b && isQ u && DK u && Pt v
def BB (a b:Bool)(u v:VI):Bool:=match wG a u,wG b v with
 |some (R1,M1),some (R2,M2)=>pE M1 R2 && pE M1 M2 && pE M2 R1
 |_,_=>false
def ML (a b:Bool)(u v:VI):Bool:=BB a b u v && (kS a u ||kS b v ||(OD a u && OD b v) ||Xv a b u v)
def yT (a:Bool)(i:VI):Bool:=a && WB i && Hg i.th
def QK (a b:Bool)(u v:VI):Bool :=
 (!a ||yT a u) && (!b ||yT b v) && (Df u v ||(BB a b u v && ((yT a u && yT b v) ||(yT a u && Ui v) ||(Ui u && yT b v))))
def po (a b:Bool)(u v:VI):Bool:=!a && !b && Hg u.th && Hg v.th && (match u.op,v.op,u.dst,v.dst,u.guard,v.guard with
 |.ext j _ i,.ext l _ k,some d,some c,none,none=>Nat.beq j l && !Nat.beq i k && !Nat.beq d c && !Nat.beq d j && !Nat.beq c j
 |_,_,_,_,_,_=>false)
def jB (a b:Bool)(u v:VI):Bool:=ML a b u v ||po a b u v ||(!kS b v && QK a b u v)
def MK (tab:N_):List Edge->C_
 |[]=>[]
 |e::r=>match ui e.ground with
  |true=>Lb (e.on::(match get tab e.on with|some l=>l|none=>[])) (MK tab r)
  |false=>MK tab r
def Eb (ops:Array Oper):C_->N_->N_
 |[],tab=>tab
 |i::l,tab=>Eb ops l ((i,match ops[i]? with|some o=>MK tab o.after.toList|none=>[])::tab)
def txG:Ground->Bool
 |.gcOnly _=>false
 |_=>true
def Re:Ground->Bool
 |.textOnly _=>false
 |_=>true
def C4 (P:Program)(n:Nat)(ops:Array Oper)(k:Nat):Nat->Q_->List Oper->Bool
 |_,[],[]=>true
 |i,v::vs,o::os=>zk P n ops v o && (o.after.toList.all λe=>Nat.blt e.on k && (!txG e.ground ||Nat.blt e.on i)) && C4 P n ops k (i+1) vs os
 |_,_,_=>false
def qb (anc:N_)(k i:Nat):Bool:=match get anc k with|some l=>dl i l|none=>false
def Qd (anc:N_)(d:Nat)(l:C_)(i:Nat):Nat->Q_->Bool
 |_,[]=>true
 |k,v::r=>(Nat.beq k i ||qb anc k i ||(match iS v with
  |some (_,M)=>!dl d M && (qb anc i k ||pE l M)
  |none=>false)) && Qd anc d l i (k+1) r
def wE (v:VI):C_:=match v.op with
 |.mkslice _ l c=>bv [l,c]
 |_=>[]
def rU (anc:N_)(vs:Q_)(i:Nat):Bool:=match vs[i]? with
 |some v=>(match fW v with
  |some d=>Qd anc d (wE v) i 0 vs && (match get anc i with
   |some l=>l.all (λj=>match vs[j]? with
    |some u=>(match fW u with
     |some _=>false
     |none=>true)
    |none=>true)
   |none=>true)
  |none=>false)
 |none=>false
def PE (anc:N_)(i j:Nat):Nat->Bool
 |0=>true
 |k+1=>(!qb anc k i ||qb anc k j) && PE anc i j k
def MM (anc:N_)(nr:C_)(vs:Q_)(j:Nat):C_->Bool
 |[]=>true
 |i::r=>(qb anc i j ||(match vs[j]?,vs[i]? with|some u,some v=>jB (dl j nr) (dl i nr) u v|_,_=>false) ||(rU anc vs i && PE anc i j vs.length && !qb anc j i)) && MM anc nr vs j r
def W1 (ops:Array Oper)(j:Nat)(l:C_):Bool:=match ops[j]? with
 |some o=>o.after.toList.all λe=>!Re e.ground ||!dl e.on l
 |none=>false
def Mg (ops:Array Oper)(anc:N_)(nr:C_)(vs:Q_):C_->Bool
 |[]=>true
 |j::r=>MM anc nr vs j r && !dl j r && Nat.blt j vs.length && Mg ops anc nr vs r
def Vz (ops:Array Oper):C_->Bool
 |[]=>true
 |j::r=>W1 ops j (j::r) && Vz ops r
def Qc (l:C_):Nat->Bool
 |0=>true
 |n+1=>dl n l && Qc l n
def U9 (vs:Q_):C_->Bool
 |[]=>true
 |i::r=>(match vs[i]? with|some v=>!DK v ||isQ v|none=>true) && U9 vs r
def DA (P:Program)(n:Nat)(ops:Array Oper)(perm gco nr:C_)(vs:Q_):Bool :=
 C4 P n ops vs.length 0 vs ops.toList && U9 vs nr && Qc gco vs.length && Vz ops gco && Qc perm vs.length && Mg ops (Eb ops perm []) nr vs perm
def tB:VC->Bool
 |.reg _ ops=>ops.all G7
 |.seq a b=>tB a && tB b
 |_=>false
inductive Mt (P:Program) (n:Nat):VC->Code->Prop
 |ghostL {a b:VC}{c:Code}:tB a=true->Mt P n b c->Mt P n (.seq a b) c
 |ghostR {a b:VC}{c:Code}:tB b=true->Mt P n a c->Mt P n (.seq a b) c
 |seq {a b:VC}{c d:Code}:Mt P n a c->Mt P n b d->Mt P n (.seq a b) (.seq c d)
 |skip:Mt P n .skip .skip
 |reg {ops:Q_}{id:Nat}{os:Array Oper}:Dg P n os ops os.toList=true->Mt P n (.reg false ops) (.region id os false)
 |draw {ops:Q_}{id:Nat}{os:Array Oper}:qO P n os [] ops os.toList=true->Mt P n (.reg true ops) (.region id os true)
 |drawP {perm gco nr:C_}{ops:Q_}{id:Nat}{os:Array Oper}:DA P n os perm gco nr ops=true->Mt P n (.regP perm gco nr ops) (.region id os true)
 |cond {r:Rd}{o:Operand}{a b:VC}{c d:Code}:bO r o=true->Mt P n a c->Mt P n b d->Mt P n (.cond r a b) (.cond o c d)
 |block {id:Nat}{a:VC}{c:Code}:Mt P n a c->Mt P n (.block id a) (.block id c)
 |loop {a:VC}{c:Code}:Mt P n a c->Mt P n (.loop a) (.loop c)
 |rangeF {r:Rd}{o:Operand}{ps:C_}{qs:Array Nat}{a b:VC}{c d:Code}:bO r o=true->qs=ps.toArray->(∀p∈ps,p<n)->Mt P n a c->Mt P n b d->Mt P n (.rangeF r ps a b) (.rangeFunc o qs c d)
 |exit {id:Nat}:Mt P n (.exit id) (.exit id)
 |scope {a:VC}{c:Code}:Mt P n a c->Mt P n (.scope a) (.scope c)
 |label {l:Nat}:Mt P n (.label l) (.label l)
 |goto {l:Nat}:Mt P n (.goto l) (.goto l)
 |ret:Mt P n .ret .ret
def Ga:C_->C_->Bool
 |[],[]=>true
 |a::r,b::s=>Nat.beq a b && Ga r s
 |_,_=>false
def TL:∀{a b:C_},Ga a b=true->a=b
 |[],[],_=>rfl
 |a::r,b::s,h=>by
  simp only[Ga,af,aq]at h;rw[h.1,TL h.2]
 |[],_::_,h=>by simp[Ga]at h
 |_::_,[],h=>by simp[Ga]at h
def Vo (n:Nat):C_->Bool
 |[]=>true
 |a::r=>Nat.blt a n && Vo n r
def TR {n:Nat}:∀{l:C_},Vo n l=true->∀p∈l,p<n
 |[],_,p,hp=>by simp at hp
 |a::r,h,p,hp=>by
  simp only[Vo,af,Nat.blt_eq]at h;rcases aQ.1 hp with rfl|hp
  .exact h.1
  .exact TR h.2 p hp
def iG (P:Program)(n:Nat):VC->Code->Bool
 |.seq a b,c=>(tB a && iG P n b c) ||(tB b && iG P n a c) ||(match c with
  |.seq x y=>iG P n a x && iG P n b y
  |_=>false)
 |.skip,.skip=>true
 |.reg d ops,.region _ os d'=>(!d && !d' && Dg P n os ops os.toList) ||(d && d' && qO P n os [] ops os.toList)
 |.regP perm gco nr ops,.region _ os d'=>d' && DA P n os perm gco nr ops
 |.cond r a b,.cond o x y=>bO r o && iG P n a x && iG P n b y
 |.block i a,.block j x=>Nat.beq i j && iG P n a x
 |.loop a,.loop x=>iG P n a x
 |.rangeF r ps a b,.rangeFunc o qs x y=>bO r o && Ga ps qs.toList && Vo n ps && iG P n a x && iG P n b y
 |.exit i,.exit j=>Nat.beq i j
 |.scope a,.scope x=>iG P n a x
 |.label i,.label j=>Nat.beq i j
 |.goto i,.goto j=>Nat.beq i j
 |.ret,.ret=>true
 |_,_=>false
def ig {P:Program}{n:Nat}:∀(v:VC) (c:Code),iG P n v c=true->Mt P n v c
 |.seq a b,c,h=>by
  simp only[iG,b6,af]at h;rcases h with (⟨h1,h2⟩|⟨h1,h2⟩)|h
  .exact .ghostL h1 (ig b c h2)
  .exact .ghostR h1 (ig a c h2)
  .cases c<;>simp only[af,al]at h
   exact .seq (ig a _ h.1) (ig b _ h.2)
 |.skip,c,h=>by cases c<;>simp_all [iG];exact .skip
 |.reg d ops,c,h=>by
  cases c<;>simp only[iG,b6,af,bQ,al]at h
  rcases h with ⟨⟨h1,h2⟩,h⟩|⟨⟨h1,h2⟩,h⟩
  .subst h1 h2;exact .reg h
  .subst h1 h2;exact .draw h
 |.regP perm gco nr ops,c,h=>by
  cases c<;>simp only[iG,af,al]at h
  obtain⟨h1,h⟩:=h;subst h1;exact .drawP h
 |.cond r a b,c,h=>by
  cases c<;>simp[iG]at h
  exact .cond h.1.1 (ig a _ h.1.2) (ig b _ h.2)
 |.block i a,c,h=>by
  cases c<;>simp only[iG,af,al]at h
  obtain⟨h1,h2⟩:=h;rw[aq]at h1;subst h1;exact .block (ig a _ h2)
 |.loop a,c,h=>by
  cases c<;>simp only[iG,al]at h
  exact .loop (ig a _ h)
 |.exit i,c,h=>by
  cases c<;>simp only[iG,al]at h
  rw[aq]at h;subst h;exact .exit
 |.scope a,c,h=>by
  cases c<;>simp only[iG,al]at h
  exact .scope (ig a _ h)
 |.label i,c,h=>by
  cases c<;>simp only[iG,al]at h
  rw[aq]at h;subst h;exact .label
 |.goto i,c,h=>by
  cases c<;>simp only[iG,al]at h
  rw[aq]at h;subst h;exact .goto
 |.ret,c,h=>by cases c<;>simp[iG]at h;exact .ret
 |.rangeF r ps a b,c,h=>by
  cases c<;>simp only[iG,af,al]at h
  obtain⟨⟨⟨⟨h1,h2⟩,h3⟩,h4⟩,h5⟩:=h;have h2:=TL h2;exact .rangeF h1 (by rw[h2]) (TR h3) (ig a _ h4) (ig b _ h5)
 |.inScope _ _,c,h=>by grind [iG]
 |.clone _,c,h=>by grind [iG]
 |.late _ _ _ _,c,h=>by grind [iG]
def ki (P:Program):AF_->List ResultVar->Bool
 |[],[]=>true
 |.tmp i::r,.tmp j::s=>Nat.beq i j && ki P r s
 |.cell i n::r,.cell j ty::s=>Nat.beq i j && nt P ty n && ki P r s
 |_,_=>false
def Fh (o:Oper)(d:Nat):Bool:=(match o.dst with|some e=>Nat.beq d e|none=>false) && o.guard.isNone
def Rf:Operand->Bool
 |.const (.slice none 0 0)=>true
 |_=>false
def A8 (i:Nat):Operand->Bool
 |.tmp j=>Nat.beq i j
 |_=>false
def PO (d:Nat):List Oper->Bool
 |[o]=>Fh o d && (match o.op with|.assign x=>Rf x|_=>false)
 |_=>false
def Xb (P:Program)(m:Nat):List Oper->Bool
 |[a,b]=>Fh a 3 && (match a.op with|.move x=>A8 0 x|_=>false) && Fh b 4 &&
   (match b.op with|.binOp .eql T x y _=>f7 P T m && A8 3 x && Rf y|_=>false)
 |_=>false
def VN (P:Program)(m:Nat):List Oper->Bool
 |[a,b,c,d]=>Fh a 5 && (match a.op with|.buildSlice T 0 ps=>f7 P T m && ps.isEmpty|_=>false) && Fh b 6 && (match b.op with|.move x=>A8 0 x|_=>false) && Fh c 7 &&
   (match c.op with
    |.call k=>Jn (nk k.callee) (some .append) && Mr k && f7 P (qg k) m && kC P (qg k) m && (match P.underlying (k.argTypes.getD 1 0) with|some (.slice _)=>true|_=>false) &&
      (match k.args.toList with|[x,y]=>A8 5 x && A8 6 y|_=>false)
    |_=>false) && Fh d 2 && (match d.op with|.assign x=>A8 7 x|_=>false)
 |_=>false
def Hw (P:Program)(m:Nat):Code->Bool
 |.seq (.region _ r0 false) (.seq (.seq (.region _ r1 false) (.cond (.tmp 4) (.seq (.region _ r2 false) .ret) .skip)) (.seq (.region _ r3 false) .ret)) =>
  PO 2 r0.toList && Xb P m r1.toList && PO 2 r2.toList && VN P m r3.toList
 |_=>false
def Rc (P:Program)(m:Nat)(vf:aj)(f:FuncId):Bool:=match P.funcs[f]? with
 |some fn=>match fn.body with
  |some c=>(match vf.body with|.clone k=>Nat.beq k m|_=>false) && (match vf.results with|[.tmp 2]=>true|_=>false) && ki P vf.results fn.results.toList && Nat.beq vf.nparams 1 && Nat.ble 8 fn.ntmps && Hw P m c && (fn.name != "runtime.NumGoroutine")
  |none=>false
 |none=>false
def Mo (P:Program)(n i d f:Nat)(a:VC):Code->Bool
 |.seq (.region _ os false) rest=>(match os.toList with
  |[m,k]=>Fh m d && (match m.op with|.move x=>A8 i x|_=>false) && k.dst.isNone && k.guard.isNone &&
    (match k.op with
     |.defer c=>(match w6 c.callee with|some g=>Nat.beq f g|none=>false) && (match c.args.toList with|[x]=>A8 d x|_=>false)
     |_=>false)
  |_=>false) && Nat.blt d n && iG P n a rest
 |_=>false
def TI (P:Program)(i d f:Nat)(a:VC)(vf:aj)(k:FuncId):Bool:=match P.funcs[k]? with
 |some fn=>match fn.body with
  |some c=>Mo P fn.ntmps i d f a c && Nat.ble vf.nparams fn.ntmps && ki P vf.results fn.results.toList && (fn.name != "runtime.NumGoroutine")
  |none=>false
 |none=>false
def aij (P:Program)(vf:aj)(f:FuncId):Bool:=match P.funcs[f]? with
 |some fn=>match fn.body with
  |some c=>iG P fn.ntmps vf.body c && Nat.ble vf.nparams fn.ntmps && ki P vf.results fn.results.toList && (fn.name != "runtime.NumGoroutine")
  |none=>false
 |none=>false
abbrev ai:=@Nat.le_refl
abbrev aC:=@Nat.le_trans
structure Gh where
 obj:Nat->H_
 base:Nat->Nat
 esz:Nat->Nat
 bsz:Nat->Nat
 pm:Nat->Nat->Prop
inductive RD (w:World) (pm:Nat->Nat->Prop):D->Value->Prop
 |int (k:IntKind) (n:Int):RD w pm (.int k n) (.int k n)
 |bool (b:Bool):RD w pm (.bool b) (.bool b)
 |str (s:BA_):RD w pm (.str s) (.string ⟨s.toArray⟩)
 |nil (a:Option Addr) (cap:Nat):RD w pm (.lst []) (.slice a 0 cap)
 |lst (xs:F_) (b off m cap:Nat) (u:Nat->Value) (hm:0<m) (hcap:xs.length<=cap) (hl:∀e∈xs,e.length=m)
   (hc:∀j c,xs.flatten[j]?=some c->w.cell? ⟨b,off+j,none⟩=some (u j)∧pm b (off+j))
   (hr:∀j c,xs.flatten[j]?=some c->RD w pm c (u j)):RD w pm (.lst xs) (.slice (some ⟨b,off,none⟩) xs.length cap)
def gw (w:World)(pm:Nat->Nat->Prop)(cs:U_)(b off:Nat):Prop :=
 ∀j c,cs[j]?=some c->∃u,w.cell? ⟨b,off+j,none⟩=some u∧RD w pm c u
def one (b:Nat):Nat->Nat:=λx=>if x=b then 1 else 0
@[simp] theorem wT (b:Nat):one b b=1:=by simp[one]
theorem tx {b x:Nat}(h:one b x≠0):x=b:=by grind [one]
def zT (g:Gh)(w:World)(p:Bool)(m:Nat)(xs:F_)(x:Value)(O:Nat->Nat):Prop :=
 (xs=[]∧(∀b,O b=0)∧∃a,x=.slice a 0 0)∨
 ∃b off cap c el,x=.slice (some ⟨b,off,none⟩) xs.length cap∧xs.length<=cap∧0<m∧(∀e∈xs,e.length=m)∧
  w.heap[b]?=some (.cells c el (0,0))∧off+cap*m<=c.size∧gw w g.pm xs.flatten b off∧
  (∀o,g.pm b o->p=false∧o<off+xs.length*m)∧(p=false->∀j,j<xs.length*m->g.pm b (off+j))∧O=one b
mutual
def RV (g:Gh)(w:World):AV->Value->(Nat->Nat)->Prop
 |.junk,_,O=>∀b,O b=0
 |.d c,x,O=>RD w g.pm c x∧∀b,O b=0
 |.nl,x,O=>x=.slice none 0 0∧∀b,O b=0
 |.own p m xs,x,O=>zT g w p m xs x O
 |.gl n,x,O=>(∃a cap,x=.slice a n cap)∧∀b,O b=0
 |.agg cs,x,O=>∃xs:E_,x=.agg xs∧RVs g w cs xs.toList O
 |.tup cs,x,O=>∃xs:E_,x=.tuple xs∧RVs g w cs xs.toList O
 |.nilp,x,O=>x=.pointer none∧∀b,O b=0
 |.ptr id off,x,O=>(∃b,g.obj id=some b∧x=.pointer (some ⟨b,g.base id+off,none⟩))∧∀b,O b=0
 |.pel id i off,x,O=>(∃b,g.obj id=some b∧x=.pointer (some ⟨b,g.base id+(i*g.esz id+off),none⟩))∧∀b,O b=0
 |.pim cs off,x,O=>(∃b o,x=.pointer (some ⟨b,o+off,none⟩)∧gw w g.pm cs b o∧∀j,j<cs.length->g.pm b (o+j))∧∀b,O b=0
 |.sl id off len,x,O=>((len=0∧∃a,x=.slice a 0 0)∨
   ∃b cap,g.obj id=some b∧x=.slice (some ⟨b,g.base id+off*g.esz id,none⟩) len cap∧len<=cap∧g.base id+(off+cap)*g.esz id<=g.bsz id)∧∀b,O b=0
 |.fn f a c,x,O=>(∃xs ys:E_,x=.func (.func f) xs ys∧RVs g w a xs.toList (λ_=>0)∧RVs g w c ys.toList (λ_=>0))∧∀b,O b=0
 |.nilf,x,O=>x=.nilFunc∧∀b,O b=0
 |.yield l,x,O=>(∃b,g.obj l=some b∧x=.func (.yield b) #[] #[])∧∀b,O b=0
def RVs (g:Gh)(w:World):D_->M_->(Nat->Nat)->Prop
 |[],xs,O=>xs=[]∧∀b,O b=0
 |v::r,xs,O=>∃x s O1 O2,xs=x::s∧RV g w v x O1∧RVs g w r s O2∧∀b,O b=O1 b+O2 b
end
def fc (o:Go.Obj)(off:Nat):Bool :=
 match o with
 |.cells _ _ (lo,hi)=>lo<=off && off<hi
 |_=>false
structure bg (g:Gh)(w:World)(g':Gh)(w':World)(S:Nat->Prop):Prop where
 obj:∀id b,g.obj id=some b->g'.obj id=some b∧g'.base id=g.base id∧g'.esz id=g.esz id∧g'.bsz id=g.bsz id
 pm:∀b o,g.pm b o->g'.pm b o∧w'.cell? ⟨b,o,none⟩=w.cell? ⟨b,o,none⟩
 blk:∀b,b<w.heap.size->¬S b->w'.heap[b]?=w.heap[b]?∧∀o,g'.pm b o->g.pm b o
 size:w.heap.size<=w'.heap.size
 lp:∀(b:Nat) (rc:Go.Loop),w.heap[b]?=some (.loop rc)->∃rc':Go.Loop,w'.heap[b]?=some (.loop rc')
 same:w'.os=w.os∧w'.output=w.output∧∀a:Addr,w'.frozen? a=w.frozen? a
theorem bg.refl (g:Gh)(w:World)(S:Nat->Prop):bg g w g w S :=
 ⟨λ_ _ h=>⟨h,rfl,rfl,rfl⟩,λ_ _ h=>⟨h,rfl⟩,λ_ _ _=>⟨rfl,λ_ h=>h⟩,ai _,λ_ rc h=>⟨rc,h⟩,rfl,rfl,λ_=>rfl⟩
def bg.trans {g1 g2 g3:Gh}{w1 w2 w3:World}{S T:Nat->Prop}(h1:bg g1 w1 g2 w2 S)(h2:bg g2 w2 g3 w3 T)
  (hT:∀b,b<w1.heap.size->T b->S b):bg g1 w1 g3 w3 S where
 obj id b h:=by
  obtain⟨a,b1,c,d⟩:=h1.obj id b h
  grind [obj]
 pm b o h:=by
  obtain⟨a,c⟩:=h1.pm b o h
  grind [pm]
 blk b hb hS:=by
  obtain⟨a,c⟩:=h1.blk b hb hS
  grind [blk]
 size:=aC h1.size h2.size
 lp b rc h:=let ⟨rc1,h'⟩:=h1.lp b rc h;h2.lp b rc1 h'
 same:=⟨h2.same.1.trans h1.same.1,h2.same.2.1.trans h1.same.2.1,λa=>(h2.same.2.2 a).trans (h1.same.2.2 a)⟩
def bg.mono {g g':Gh}{w w':World}{S T:Nat->Prop}(h:bg g w g' w' S)(hST:∀b,b<w.heap.size->S b->T b):bg g w g' w' T :=
 ⟨h.obj,h.pm,λb hb hT=>h.blk b hb (λhs=>hT (hST b hb hs)),h.size,h.lp,h.same⟩
theorem RD.ext {g g':Gh}{w w':World}{S:Nat->Prop}(h:bg g w g' w' S){c:D}{x:Value}(r:RD w g.pm c x):RD w' g'.pm c x:=by
 induction r with
 |int k n=>exact .int k n
 |bool b=>exact .bool b
 |str s=>exact .str s
 |nil a cap=>exact .nil a cap
 |lst xs b off m cap u hm hcap hl hc hr ih =>
  refine .lst xs b off m cap u hm hcap hl (λj c hj=>?_) (λj c hj=>ih j c hj)
  grind [bg.pm]
theorem oY {w w':World}{b:Nat}(h:w'.heap[b]?=w.heap[b]?)(o:Nat):w'.cell? ⟨b,o,none⟩=w.cell? ⟨b,o,none⟩:=by
 grind [World.cell?]
theorem gw.ext {g g':Gh}{w w':World}{S:Nat->Prop}(h:bg g w g' w' S){cs:U_}{b off:Nat}(r:gw w g.pm cs b off)
  (hb:w'.heap[b]?=w.heap[b]?∨∀j,j<cs.length->g.pm b (off+j)):gw w' g'.pm cs b off:=by
 intro j c hj;obtain⟨u,hu,hr⟩:=r j c hj;refine⟨u,?_,hr.ext h⟩;rcases hb with hb|hb
 .grind [oY]
 .have hlt:j<cs.length:=by
   grind
  rw[(h.pm b _ (hb j hlt)).2];exact hu
def gY {w:World}{b:Nat}{o:Go.Obj}(h:w.heap[b]?=some o):b<w.heap.size:=by
 grind
def zT.ext {g g':Gh}{w w':World}{S:Nat->Prop}(h:bg g w g' w' S){p:Bool}{m:Nat}{xs:F_}{x:Value}{O:Nat->Nat}
  (r:zT g w p m xs x O)(hO:∀b,O b≠0->¬S b):zT g' w' p m xs x O:=by
 rcases r with r|⟨b,off,cap,c,el,rfl,hcap,hm,hl,hb,hsz,hrc,hpm,hp,rfl⟩
 .exact .inl r
 .have hS:¬S b:=hO b s_;obtain⟨e,hn⟩:=h.blk b (gY hb) hS;exact .inr ⟨b,off,cap,c,el,rfl,hcap,hm,hl,e.trans hb,hsz,hrc.ext h (.inl e),λo ho=>hpm o (hn o ho),λhf j hj=>(h.pm b _ (hp hf j hj)).1,rfl⟩
mutual
theorem RV.ext {g g':Gh}{w w':World}{S:Nat->Prop}(h:bg g w g' w' S):∀(v:AV) (x:Value) (O:Nat->Nat),
  RV g w v x O->(∀b,O b≠0->¬S b)->RV g' w' v x O
 |.junk,_,_,r,_=>by simpa only[RV] using r
 |.d c,x,O,r,_=>by simp only[RV]at r⊢;exact⟨r.1.ext h,r.2⟩
 |.nl,_,_,r,_=>by simpa only[RV] using r
 |.own p m xs,x,O,r,hO=>by simp only[RV]at r⊢;exact r.ext h hO
 |.gl n,_,_,r,_=>by simpa only[RV] using r
 |.agg cs,x,O,r,hO=>by
  simp only[RV]at r⊢;obtain⟨xs,e,r⟩:=r;exact⟨xs,e,RVs.ext h cs _ O r hO⟩
 |.tup cs,x,O,r,hO=>by
  simp only[RV]at r⊢;obtain⟨xs,e,r⟩:=r;exact⟨xs,e,RVs.ext h cs _ O r hO⟩
 |.nilp,_,_,r,_=>by simpa only[RV] using r
 |.ptr id off,x,O,r,_=>by
  simp only[RV]at r⊢;obtain⟨⟨b,hb,e⟩,hz⟩:=r;obtain⟨a1,a2,_,_⟩:=h.obj id b hb;exact⟨⟨b,a1,by rw[a2];exact e⟩,hz⟩
 |.pel id i off,x,O,r,_=>by
  simp only[RV]at r⊢;obtain⟨⟨b,hb,e⟩,hz⟩:=r;obtain⟨a1,a2,a3,_⟩:=h.obj id b hb;exact⟨⟨b,a1,by rw[a2,a3];exact e⟩,hz⟩
 |.pim cs off,x,O,r,_=>by
  simp only[RV]at r⊢;obtain⟨⟨b,o,e,hrc,hp⟩,hz⟩:=r;exact⟨⟨b,o,e,hrc.ext h (.inr hp),λj hj=>(h.pm b _ (hp j hj)).1⟩,hz⟩
 |.sl id off len,x,O,r,_=>by
  simp only[RV]at r⊢;obtain⟨r,hz⟩:=r;rcases r with r|⟨b,cap,hb,e,hl,hs⟩
  .exact⟨.inl r,hz⟩
  .obtain⟨a1,a2,a3,a4⟩:=h.obj id b hb;exact⟨.inr ⟨b,cap,a1,by rw[a2,a3];exact e,hl,by rw[a2,a3,a4];exact hs⟩,hz⟩
 |.fn f a c,x,O,r,_=>by
  simp only[RV]at r⊢;obtain⟨⟨xs,ys,e,ra,rc⟩,hz⟩:=r;exact⟨⟨xs,ys,e,RVs.ext h a _ _ ra s_,RVs.ext h c _ _ rc s_⟩,hz⟩
 |.nilf,_,_,r,_=>by simpa only[RV] using r
 |.yield l,x,O,r,_=>by
  simp only[RV]at r⊢;obtain⟨⟨b,hb,e⟩,hz⟩:=r;exact⟨⟨b,(h.obj l b hb).1,e⟩,hz⟩
theorem RVs.ext {g g':Gh}{w w':World}{S:Nat->Prop}(h:bg g w g' w' S):∀(vs:D_) (xs:M_) (O:Nat->Nat),
  RVs g w vs xs O->(∀b,O b≠0->¬S b)->RVs g' w' vs xs O
 |[],_,_,r,_=>by simpa only[RVs] using r
 |v::vs,xs,O,r,hO=>by
  simp only[RVs]at r⊢;obtain⟨x,s,O1,O2,e,r1,r2,hs⟩:=r;exact⟨x,s,O1,O2,e,RV.ext h v x O1 r1 (λb hb=>hO b (by rw[hs b];omega)),RVs.ext h vs s O2 r2 (λb hb=>hO b (by rw[hs b];omega)),hs⟩
end
abbrev bz:=@List.pairwise_cons
abbrev bK:=@if_true
abbrev ac:=@if_pos
abbrev zero:Nat->Nat:=λ_=>0
def bV {α:Type}(l:List (Nat×α)):Prop:=l.Pairwise λa b=>Cv a.1 b.1
def Cv.tr {a b c:Nat}(h:Cv a b)(k:Cv b c):Cv a c:=o_
def Cv.ne {a b:Nat}(h:Cv a b):b≠a:=o_
def ajz (a b:Nat):Cv a b∨a=b∨Cv b a:=o_
def Cv.of {i k:Nat}(h:¬k=i)(l:SF i k):Cv i k:=o_
def Cv.of' {i k:Nat}(h:¬k=i)(l:¬SF i k):Cv k i:=o_
section
variable {α:Type}
def aa2 {l:List (Nat×α)}{i:Nat}{p:Nat×α}(h:p∈del l i):p∈l∧p.1≠i:=by
 induction l<;>grind [S7,ma]
theorem bV.del {l:List (Nat×α)}(h:bV l)(i:Nat):bV (Vm.del l i):=by
 induction l with
 |nil=>grind [S7]
 |cons a r ih =>
  have hr:=bz.1 h;rw[ma];split
  .exact ih hr.2
  .exact bz.2 ⟨λp hp=>hr.1 p (aa2 hp).1,ih hr.2⟩
def oS {l:List (Nat×α)}{i:Nat}(h:∀p∈l,p.1≠i):del l i=l:=by
 induction l with
 |nil=>rfl
 |cons a r ih =>
  grind [ma]
def Sr {l:List (Nat×α)}{i:Nat}{x:α}{p:Nat×α}(h:p∈put l i x):p=(i,x)∨p∈l:=by
 induction l<;>grind [Sc,tC]
theorem bV.put {l:List (Nat×α)}(h:bV l)(i:Nat)(x:α):bV (Vm.put l i x):=by
 induction l with
 |nil=>simp[Sc,bV]
 |cons a r ih =>
  have hr:=bz.1 h;rw[tC];split
  .rename_i e;subst e;exact bz.2 ⟨hr.1,hr.2⟩
  .split
   .refine bz.2 ⟨λp hp=>?_,h⟩
    grind
   .refine bz.2 ⟨λp hp=>?_,ih hr.2⟩;rcases Sr hp with rfl|hp<;>grind
end
def RL {α:Type}(Q:Nat->α->(Nat->Nat)->Prop):List (Nat×α)->(Nat->Nat)->Prop
 |[],O=>∀b,O b=0
 |(k,v)::r,O=>∃O1 O2,Q k v O1∧RL Q r O2∧∀b,O b=O1 b+O2 b
section
variable {α:Type}{Q Q':Nat->α->(Nat->Nat)->Prop}
def RL.imp' {l:List (Nat×α)}{O:Nat->Nat}(r:RL Q l O)
  (h:∀k v O1,(k,v)∈l->(∀b,O1 b<=O b)->Q k v O1->Q' k v O1):RL Q' l O:=by
 induction l generalizing O<;>grind [RL]
theorem RL.take {l:List (Nat×α)}{O:Nat->Nat}(r:RL Q l O){i:Nat}{v:α}(hg:get l i=some v) :
  ∃O1 O2,Q i v O1∧RL Q (del l i) O2∧∀b,O1 b+O2 b<=O b:=by
 induction l generalizing O with
 |nil=>grind [xH]
 |cons a r' ih =>
  obtain⟨k,u⟩:=a;obtain⟨O1,O2,q,rr,hs⟩:=r;rw[gv]at hg;rw[ma];by_cases e:k=i
  .subst e;simp only[bK]at hg⊢;have:∃O3,RL Q (del r' k) O3∧∀b,O3 b<=O2 b:=by
    clear ih hs q
    induction r' generalizing O2 with
    |nil=>exact⟨O2,rr,λ_=>ai _⟩
    |cons a r'' ih2 =>
     obtain⟨P1,P2,q',rr',hs'⟩:=rr;obtain⟨O3,r3,h3⟩:=ih2 P2 rr';rw[ma];split
     .grind
     .exact⟨λb=>P1 b+O3 b,⟨P1,O3,q',r3,λ_=>rfl⟩,λb=>by simp_all⟩
   grind
  .simp only[aa e]at hg⊢;obtain⟨P1,P2,q',rr',hs'⟩:=ih rr hg;exact⟨P1,λb=>O1 b+P2 b,q',⟨O1,P2,q,rr',λ_=>rfl⟩,λb=>by grind⟩
def RL.drop {l:List (Nat×α)}{O:Nat->Nat}(r:RL Q l O)(i:Nat):∃O2,RL Q (del l i) O2∧∀b,O2 b<=O b:=by
 induction l generalizing O with
 |nil=>exact⟨O,r,λ_=>ai _⟩
 |cons a r' ih =>
  obtain⟨O1,O2,q,rr,hs⟩:=r;obtain⟨O3,r3,h3⟩:=ih rr;rw[ma];split
  .grind
  .exact⟨λb=>O1 b+O3 b,⟨O1,O3,q,r3,λ_=>rfl⟩,λb=>by simp_all⟩
def RL.put {l:List (Nat×α)}(hs:bV l){i:Nat}{O1 O2:Nat->Nat}(r:RL Q (del l i) O2){x:α}(q:Q i x O1) :
  ∃O,RL Q (Vm.put l i x) O∧∀b,O b=O1 b+O2 b:=by
 induction l generalizing O2 with
 |nil=>exact⟨λb=>O1 b+O2 b,⟨O1,O2,q,r,λ_=>rfl⟩,λ_=>rfl⟩
 |cons a r' ih =>
  obtain⟨k,u⟩:=a;have hp:=bz.1 hs;rw[tC];by_cases e:k=i
  .subst e;simp only[bK];rw[ma,ac rfl,oS λp hp'=>(hp.1 p hp').ne]at r;exact⟨λb=>O1 b+O2 b,⟨O1,O2,q,r,λ_=>rfl⟩,λ_=>rfl⟩
  .simp only[aa e];rw[ma,aa e]at r;split
   .rename_i hle;have hlt:Cv i k:=.of e hle;rw[oS λp hp'=>(hlt.tr (hp.1 p hp')).ne]at r;exact⟨λb=>O1 b+O2 b,⟨O1,O2,q,r,λ_=>rfl⟩,λ_=>rfl⟩
   .obtain⟨P1,P2,q',rr',hs'⟩:=r;obtain⟨O,ro,ho⟩:=ih hp.2 rr';exact⟨λb=>P1 b+O b,⟨P1,O,q',ro,λ_=>rfl⟩,λb=>by grind⟩
theorem RL.get {l:List (Nat×α)}{O:Nat->Nat}(r:RL Q l O){i:Nat}{v:α}(hg:Vm.get l i=some v) :
  ∃O1,Q i v O1∧∀b,O1 b<=O b:=by
 grind [take]
end
theorem ej {xs:F_}{m:Nat}(h:∀e∈xs,e.length=m):xs.flatten.length=xs.length*m:=by
 induction xs<;>grind
def gw.nil (w:World)(pm:Nat->Nat->Prop)(b off:Nat):gw w pm [] b off:=λj c h=>by simp at h
theorem gw.rd {w:World}{pm:Nat->Nat->Prop}{xs:F_}{b off m cap:Nat}(hm:0<m)(hcap:xs.length<=cap)(hl:∀e∈xs,e.length=m)
  (hc:gw w pm xs.flatten b off)(hp:∀j,j<xs.length*m->pm b (off+j)):RD w pm (.lst xs) (.slice (some ⟨b,off,none⟩) xs.length cap):=by
 refine .lst xs b off m cap (λj=>(w.cell? ⟨b,off+j,none⟩).getD (.bool false)) hm hcap hl (λj c hj=>?_) (λj c hj=>?_)
 .obtain⟨u,hu,_⟩:=hc j c hj
  grind [ej]
 .obtain⟨u,hu,hr⟩:=hc j c hj
  simp_all
mutual
theorem RV.share {g:Gh}{w:World}:∀(v:AV) (x:Value) (O:Nat->Nat),RV g w v x O->RV g w (share v) x zero
 |.own false m xs,x,O,r=>by
  simp only[RV,Vm.share]at r⊢;refine⟨?_,λ_=>by trivial⟩;rcases r with ⟨rfl,_,a,rfl⟩|⟨b,off,cap,c,el,rfl,hcap,hm,hl,hb,hsz,hrc,hpm,hp,rfl⟩
  .exact .nil a 0
  .exact hrc.rd hm hcap hl (hp rfl)
 |.own true m xs,x,O,r=>by simp[RV,Vm.share]
 |.agg cs,x,O,r=>by
  simp only[RV,Vm.share]at r⊢;obtain⟨xs,e,r⟩:=r;exact⟨xs,e,RVs.share cs _ O r⟩
 |.tup cs,x,O,r=>by
  simp only[RV,Vm.share]at r⊢;obtain⟨xs,e,r⟩:=r;exact⟨xs,e,RVs.share cs _ O r⟩
 |.junk,_,_,r=>by simp[RV,Vm.share]
 |.d c,_,_,r=>by simp only[RV,Vm.share]at r⊢;exact⟨r.1,λ_=>by trivial⟩
 |.nl,_,_,r=>by simp only[RV,Vm.share]at r⊢;exact⟨r.1,λ_=>by trivial⟩
 |.gl n,_,_,r=>by simp only[RV,Vm.share]at r⊢;exact⟨r.1,λ_=>by trivial⟩
 |.nilp,_,_,r=>by simp only[RV,Vm.share]at r⊢;exact⟨r.1,λ_=>by trivial⟩
 |.ptr _ _,_,_,r=>by simp only[RV,Vm.share]at r⊢;exact⟨r.1,λ_=>by trivial⟩
 |.pel _ _ _,_,_,r=>by simp only[RV,Vm.share]at r⊢;exact⟨r.1,λ_=>by trivial⟩
 |.pim _ _,_,_,r=>by simp only[RV,Vm.share]at r⊢;exact⟨r.1,λ_=>by trivial⟩
 |.sl _ _ _,_,_,r=>by simp only[RV,Vm.share]at r⊢;exact⟨r.1,λ_=>by trivial⟩
 |.fn _ _ _,_,_,r=>by simp only[RV,Vm.share]at r⊢;exact⟨r.1,λ_=>by trivial⟩
 |.nilf,_,_,r=>by simp only[RV,Vm.share]at r⊢;exact⟨r.1,λ_=>by trivial⟩
 |.yield _,_,_,r=>by simp only[RV,Vm.share]at r⊢;exact⟨r.1,λ_=>by trivial⟩
theorem RVs.share {g:Gh}{w:World}:∀(vs:D_) (xs:M_) (O:Nat->Nat),RVs g w vs xs O->RVs g w (shareAll vs) xs zero
 |[],_,_,r=>by simp only[RVs,XJ]at r⊢;exact⟨r.1,λ_=>by trivial⟩
 |v::vs,xs,O,r=>by
  simp only[RVs,nj]at r⊢;obtain⟨x,s,O1,O2,e,r1,r2,_⟩:=r;exact⟨x,s,zero,zero,e,RV.share v x O1 r1,RVs.share vs s O2 r2,λ_=>by trivial⟩
end
abbrev ae:=@Option.some.injEq
abbrev aJ:=@Prod.mk.injEq
def ko:bD->Option Code
 |.normal=>none
 |.exit i=>some (.exit i)
 |.goto l=>some (.goto l)
 |.ret=>some .ret
abbrev ja (g:Gh)(w:World)(e:aK)(t:E_)(O:Nat->Nat):Prop :=
 RL (λk v O=>k<t.size∧RV g w v (t.getD k undef) O) e O
def iF (P:Program)(g:Gh)(w:World)(id:Nat):Obj->(Nat->Nat)->Prop
 |.cells cs,O=>∃b c el O1,g.obj id=some b∧g.base id=0∧g.esz id=1∧g.bsz id=cs.length∧
   w.heap[b]?=some (.cells c el (0,0))∧RVs g w cs c.toList O1∧(∀o,¬g.pm b o)∧∀x,O x=O1 x+one b x
 |.arr m xs,O=>(xs=[]∧g.bsz id=0∧g.esz id=m∧0<m∧(∃b,g.obj id=some b)∧∀b,O b=0)∨
   ∃b c el,g.obj id=some b∧g.esz id=m∧0<m∧w.heap[b]?=some (.cells c el (0,0))∧g.bsz id<=c.size∧
    g.base id+xs.length*m<=g.bsz id∧(∀e∈xs,e.length=m)∧gw w g.pm xs.flatten b (g.base id)∧(∀o,¬g.pm b o)∧∀x,O x=one b x
 |.loop snap params assign body busy pend,O=>∃b,∃rc:Go.Loop,g.obj id=some b∧w.heap[b]?=some (.loop rc)∧
   rc.state=(if busy then .busy else if pend.isNone then .ready else .done)∧rc.pending=pend.bind ko∧rc.params=params.toArray∧
   Mt P rc.tmps.size assign rc.assign∧Mt P rc.tmps.size body rc.body∧bV snap∧ja g w snap rc.tmps zero∧(∀p∈params,p<rc.tmps.size)∧
   ∀x,O x=one b x
abbrev yk (P:Program)(g:Gh)(w:World)(h:ak)(O:Nat->Nat):Prop:=RL (iF P g w) h O
structure S (P:Program)(g:Gh)(w:World)(st:St)(t:E_)(O:Nat->Nat):Prop where
 se:bV st.env
 sh:bV st.hs.heap
 parts:∃Oe Oh,ja g w st.env t Oe∧yk P g w st.hs.heap Oh∧∀b,O b=Oe b+Oh b
 le:∀b,O b<=1
 hi:∀b,O b≠0->b<w.heap.size
 fresh:∀id,st.hs.next<=id->g.obj id=none
 pmlt:∀b o,g.pm b o->b<w.heap.size
def ev (t:E_):Operand->Value
 |.tmp i=>t.getD i undef
 |.const v=>v
 |.global g=>.pointer (some ⟨g,0,none⟩)
 |.func f=>.func (.func f) #[] #[]
def Bi {a b:IntKind}(h:me a b=true):a=b:=by
 cases a<;>cases b<;>first|rfl|grind [me]
theorem RD.const {w:World}{pm:Nat->Nat->Prop}{c:D}{v:Value}(h:okD c v=true):RD w pm c v:=by
 unfold okD at h;split at h
 .simp only[af,decide_eq_true_eq]at h;obtain⟨h1,rfl⟩:=h;rw[Bi h1];exact .int _ _
 .simp only[beq_iff_eq]at h;subst h;exact .bool _
 .rename_i s t;simp only[beq_iff_eq]at h;subst h;have:=RD.str (w:=w) (pm:=pm) t.data.toList;omega
 .exact .nil _ _
 simp_all
theorem RV.const1 {g:Gh}{w:World}{c:AV}{v:Value}(h:Jg c v=true):RV g w c v zero:=by
 unfold Jg at h
 grind [RV,RD.const]
theorem RVs.consts {g:Gh}{w:World}:∀{cs:D_}{vs:M_},mc cs vs=true->RVs g w cs vs zero
 |[],[],_=>by grind [RVs]
 |c::cs,v::vs,h=>by
  simp only[mc,af]at h;exact⟨v,vs,zero,zero,rfl,.const1 h.1,RVs.consts h.2,λ_=>rfl⟩
 |[],_::_,h=>by grind [mc]
 |_::_,[],h=>by grind [mc]
def RV.const {g:Gh}{w:World}{c:AV}{v:Value}(h:SC c v=true):RV g w c v zero:=by
 unfold SC at h
 grind [RV,RVs.consts,const1]
section
variable {P:Program}{g:Gh}{w:World}{t:E_}{O:Nat->Nat}
def S.of_env {st:St}(s:S P g w st t O){Oe Oh O':Nat->Nat}{e':aK}(re:ja g w e' t Oe)(rh:yk P g w st.hs.heap Oh)(hse:bV e')
  (ho:∀b,O' b=Oe b+Oh b)(hle:∀b,O' b<=O b):S P g w ⟨e',st.hs⟩ t O' :=
 ⟨hse,s.sh,⟨Oe,Oh,re,rh,ho⟩,λb=>aC (hle b) (s.le b),λb hb=>s.hi b d_,s.fresh,s.pmlt⟩
theorem S.rd {st:St}(s:S P g w st t O){r:Rd}{o:Operand}(hc:bO r o=true){v:AV}{e':aK}(h:rd st.env r=some (v,e')) :
  ∃Ov O',RV g w v (ev t o) Ov∧S P g w ⟨e',st.hs⟩ t O'∧∀b,Ov b+O' b<=O b:=by
 obtain⟨Oe,Oh,re,rh,ho⟩:=s.parts
 cases r with
 |c c =>
  simp only[Vm.rd,ae,aJ]at h;obtain⟨rfl,rfl⟩:=h;refine⟨zero,O,?_,s,λb=>by simp⟩
  cases o with
  |const x=>exact .const hc
  |func f =>
   cases c<;>try (simp[bO]at hc;done)
   rename_i f' a c
   cases a<;>try (simp[bO]at hc;done)
   cases c<;>try (simp[bO]at hc;done)
   grind [bO,Nat.beq_eq,RV,ev,RVs]
  |tmp i=>simp[bO]at hc
  |global i=>simp[bO]at hc
 |s i =>
  cases o<;>try (simp[bO]at hc;done)
  simp only[bO,aq]at hc;subst hc;simp only[Vm.rd]at h
  cases hg:get st.env i with
  |none=>simp_all
  |some u =>
   simp only[hg,ae,aJ]at h;obtain⟨rfl,rfl⟩:=h;obtain⟨O1,⟨_,q⟩,hq⟩:=RL.get re hg;exact⟨zero,O,RV.share u _ O1 q,s,λb=>by simp⟩
 |m i =>
  cases o<;>try (simp[bO]at hc;done)
  simp only[bO,aq]at hc;subst hc;simp only[Vm.rd]at h
  cases hg:get st.env i with
  |none=>simp_all
  |some u =>
   simp only[hg,ae,aJ]at h;obtain⟨rfl,rfl⟩:=h;obtain⟨O1,O2,⟨_,q⟩,r2,hs⟩:=RL.take re hg;refine⟨O1,λb=>O2 b+Oh b,q,s.of_env r2 rh (s.se.del i) (λ_=>rfl) (λb=>?_),λb=>?_⟩
   all_goals grind
theorem S.rdAll {st:St}{rs:S_}{os:List Operand}(hc:dc rs os=true){vs:D_}{e':aK}(s:S P g w st t O)(h:rdAll st.env rs=some (vs,e')) :
  ∃Ov O',RVs g w vs (os.map (ev t)) Ov∧S P g w ⟨e',st.hs⟩ t O'∧∀b,Ov b+O' b<=O b:=by
 induction rs generalizing os vs st O with
 |nil =>
  cases os<;>simp[dc]at hc
  obtain⟨rfl,rfl⟩:=h;exact⟨zero,O,by simp[RVs],s,λb=>by simp⟩
 |cons r rs ih =>
  cases os with
  |nil=>simp[dc]at hc
  |cons o os =>
   simp only[dc,af]at hc;simp only[Vm.rdAll]at h
   cases h1:Vm.rd st.env r with
   |none=>simp_all
   |some p =>
    obtain⟨v,e1⟩:=p;simp only[h1]at h
    cases h2:Vm.rdAll e1 rs with
    |none=>simp_all
    |some p =>
     simp only[h2,ae,aJ]at h;obtain⟨rfl,rfl⟩:=h;obtain⟨O1,O2,rv,s2,l2⟩:=s.rd hc.1 h1;obtain⟨O3,O4,rvs,s4,l4⟩:=ih (st:=⟨e1,st.hs⟩) hc.2 s2 h2;refine⟨λb=>O1 b+O3 b,O4,?_,s4,λb=>?_⟩
     all_goals grind [RVs]
end
structure amC (P:Program)(g:Gh)(w:World)(t:E_)(O:Nat->Nat)(st':St)(a:AV)(res:Result Next)(x:Value)(w':World)(g':Gh)(Oa O':Nat->Nat):Prop where
 run:res=.ok (.value x) w'∨(res=.ok .skip w'∧x=undef)
 val:RV g' w' a x Oa
 st:S P g' w' st' t O'
 ext:bg g w g' w' λb=>O b≠0
 le:∀b,Oa b+O' b<=1
 old:∀b,b<w.heap.size->Oa b+O' b<=O b
 hi:∀b,Oa b≠0->b<w'.heap.size
def dV (P:Program)(g:Gh)(w:World)(t:E_)(O:Nat->Nat)(st':St)(a:AV)(res:Result Next):Prop :=
 ∃x w' g' Oa O',amC P g w t O st' a res x w' g' Oa O'
section
variable {P:Program}{g:Gh}{w:World}{t:E_}{O:Nat->Nat}{st st':St}{a:AV}{o:Oper}
theorem dV.pure {res:Result Next}{x:Value}{Oa O':Nat->Nat}(s0:S P g w st t O)(h:res=.ok (.value x) w)(r:RV g w a x Oa)
  (s:S P g w st' t O')(hle:∀b,Oa b+O' b<=O b):dV P g w t O st' a res :=
 ⟨x,w,g,Oa,O',.inl h,r,s,.refl _ _ _,λb=>aC (hle b) (s0.le b),λb _=>hle b,λb hb=>s0.hi b d_⟩
theorem dV.flat {res:Result Next}{x:Value}{O':Nat->Nat}(s0:S P g w st t O)(h:res=.ok (.value x) w)(r:RV g w a x zero)
  (s:S P g w st' t O')(hle:∀b,O' b<=O b):dV P g w t O st' a res :=
 .pure s0 h r s λb=>by simp_all
def S.le_left {O' Ov:Nat->Nat}(h:∀b,Ov b+O' b<=O b):∀b,O' b<=O b:=λb=>by grind
def LC {e:aK}{r:Rd}{α:Type}{k:AV->aK->Option α}{y:α}
  (h:(match rd e r with|some (v,e)=>k v e|none=>none)=some y):∃v e',rd e r=some (v,e')∧k v e'=some y:=by
 grind
def amB {x:Rd}(s:S P g w st t O)(h:Mb x st=some (a,st'))(hc:aZ P (.mov x) o.op=true) :
  dV P g w t O st' a ((execOp (ev t) o).run P w):=by
 obtain⟨v,e',h1,h2⟩:=LC h;obtain⟨rfl,rfl⟩:=h2;obtain⟨dst,op,ty,pos,aft,gd⟩:=o;simp only[aZ]at hc;split at hc
 .obtain⟨Ov,O',rv,s',l⟩:=s.rd hc h1;exact .pure s (by simp[execOp]) rv s' l
 .obtain⟨Ov,O',rv,s',l⟩:=s.rd hc h1;exact .pure s (by simp[execOp]) rv s' l
 .rename_i c;simp only[af]at hc;obtain⟨⟨⟨hb,ha⟩,ht⟩,hx⟩:=hc
  cases x with
  |s i=>simp at hx
  |m i=>simp at hx
  |c y =>
   split at hx
   .rename_i n hy
    cases hu:P.underlying (qg c) with
    |none=>simp_all
    |some d =>
     cases d<;>simp[hu]at hx
     rename_i l e;injection hy with hy
     subst hy;subst hx;obtain⟨rfl,rfl⟩:=h1;obtain⟨callee,args,argTypes⟩:=c;have hcal:callee=.builtin .len:=by
      cases callee<;>simp[nk,Jn]at hb
      simp_all
     subst hcal;have hty:argTypes[0]?=some (qg ⟨.builtin .len,args,argTypes⟩):=by
      simp_all [qg]
     have hargs:∃z,(args.map (ev t))[0]?=some z:=by
      simp_all
     obtain⟨z,hz⟩:=hargs;refine .flat s (x:=.int .i64 l) ?_ (by simp only[RV];exact⟨.int _ _,λ_=>trivial⟩) s (λb=>ai _);simp[execOp,resolve,invoke,builtin,Builtin.len_,hty,hz,underlying,hu,goInt]
   simp_all
 simp_all
def ajq {c x y:Rd}(s:S P g w st t O)(h:jG c x y st=some (a,st'))(hc:aZ P (.pick c x y) o.op=true) :
  dV P g w t O st' a ((execOp (ev t) o).run P w):=by
 obtain⟨dst,op,ty,pos,aft,gd⟩:=o;simp only[aZ]at hc;split at hc
 .rename_i c' a' b';simp only[af]at hc;obtain⟨⟨h1,h2⟩,h3⟩:=hc;unfold jG at h
  cases hr:rd st.env c with
  |none=>simp_all
  |some p =>
   obtain⟨v,e1⟩:=p;obtain⟨Ov,O1,rv,s1,l1⟩:=s.rd h1 hr;simp only[hr]at h
   cases v<;>try (simp at h;done)
   rename_i d
   cases d<;>try (simp at h;done)
   rename_i tb;have hev:ev t c'=.bool tb:=by
    obtain⟨rv,_⟩:=rv;generalize ev t c'=z at rv;cases rv;rfl
   obtain⟨v,e2,h4,h5⟩:=LC h;obtain⟨rfl,rfl⟩:=h5
   cases tb with
   |true =>
    obtain⟨Ov2,O2,rv2,s2,l2⟩:=s1.rd h2 h4;exact .pure s (by simp_all [execOp,asBool]) rv2 s2 λb=>by grind
   |false =>
    obtain⟨Ov2,O2,rv2,s2,l2⟩:=s1.rd h3 h4;exact .pure s (by simp_all [execOp,asBool]) rv2 s2 λb=>by grind
 simp_all
def afK {x:Rd}(s:S P g w st t O)(h:C7 x st=some (a,st'))(hc:aZ P (.nilck x) o.op=true) :
  dV P g w t O st' a ((execOp (ev t) o).run P w):=by
 obtain⟨dst,op,ty,pos,aft,gd⟩:=o;simp only[aZ]at hc;split at hc
 .obtain⟨v,e',h1,h2⟩:=LC h;obtain⟨Ov,O',rv,s',l⟩:=s.rd hc h1
  cases v<;>simp only[ae,aJ,reduceCtorEq]at h2
  all_goals
   obtain⟨rfl,rfl⟩:=h2;refine .pure s ?_ rv s' l;simp only[RV]at rv
  .obtain⟨⟨b,_,e⟩,_⟩:=rv;simp[execOp,e]
  .obtain⟨⟨b,_,e⟩,_⟩:=rv;simp[execOp,e]
  .obtain⟨⟨b,o,e,_⟩,_⟩:=rv;simp[execOp,e]
  .obtain⟨⟨xs,ys,e,_⟩,_⟩:=rv;simp[execOp,e]
  .obtain⟨⟨b,_,e⟩,_⟩:=rv;simp[execOp,e]
 simp_all
theorem ZY {k:IntKind}{n:Int}(h1:k.min<=n)(h2:n<=k.max):k.wrap n=n:=by
 cases k<;>simp[IntKind.min,IntKind.max,IntKind.signed,IntKind.bits]at h1 h2<;>
  simp[IntKind.wrap,IntKind.bits,IntKind.signed]<;>
  first|omega|(split<;>omega)
def HM (k:IntKind)(n:Int):wr k n=k.wrap n:=by
 have H:∀lo hi:Int,lo=k.min->hi=k.max->nu lo hi k n=k.wrap n:=by
  grind [nu,ZY]
 cases k<;>first|rfl|exact H _ _ k_ (by decide)
def wp {v:AV}{x:Value}{Ov:Nat->Nat}{k:IntKind}{n:Int}(r:RV g w v x Ov)(h:v=.d (.int k n)):x=.int k n:=by
 subst h;cases r.1;rfl
def aj6 {k:IntKind}{x:Rd}(s:S P g w st t O)(h:Du k x st=some (a,st'))(hc:aZ P (.conv k x) o.op=true) :
  dV P g w t O st' a ((execOp (ev t) o).run P w):=by
 obtain⟨dst,op,ty,pos,aft,gd⟩:=o;simp only[aZ]at hc;split at hc
 .rename_i src ds y;simp only[af]at hc;obtain⟨⟨h1,h2⟩,h3⟩:=hc;unfold Du at h
  cases hr:rd st.env x with
  |none=>simp_all
  |some p =>
   obtain⟨v,e1⟩:=p;obtain⟨Ov,O1,rv,s1,l1⟩:=s.rd h3 hr;simp only[hr]at h
   cases v<;>try (simp at h;done)
   rename_i d
   cases d<;>try (simp at h;done)
   rename_i j n;obtain⟨rfl,rfl⟩:=h;have hx:=wp rv rfl;simp only[ad5]at h1;simp only[EL]at h2
   cases hd:P.underlying ds with
   |none=>simp_all
   |some dd =>
    cases dd<;>simp[hd]at h1
    have:=Bi h1
    cases hs:P.underlying src with
    |none=>simp_all
    |some sd =>
     refine .flat s (x:=.int _ (IntKind.wrap _ n)) ?_ (by simp only[RV];exact⟨by rw[HM];exact .int _ _,λ_=>trivial⟩) s1 (S.le_left l1)
     simp_all [execOp,convert,underlying,Conv.intToInt]
 simp_all
end
abbrev ou:=@List.drop_eq_getElem_cons
abbrev aB:=@Sem.run_bind
abbrev aS:=@Result.andThen_ok
abbrev cN:=@Nat.le_of_ble_eq_true
section
variable {P:Program}{g:Gh}{w:World}{t:E_}{O:Nat->Nat}{st st':St}{a:AV}{o:Oper}
def xk {v:AV}{x:Value}{Ov:Nat->Nat}{b:Bool}(r:RV g w v x Ov)(h:v=B_ b):x=.bool b:=by
 subst h;obtain⟨r,_⟩:=r;cases r;rfl
def Wr {v:AV}{x:Value}{Ov:Nat->Nat}{s:BA_}(r:RV g w v x Ov)(h:v=.d (.str s)):x=.string ⟨s.toArray⟩:=by
 subst h;obtain⟨r,_⟩:=r;cases r;rfl
def rF (k:IntKind)(n:Int):RV g w (.d (.int k n)) (.int k n) zero:=by simp only[RV];exact⟨.int _ _,λ_=>trivial⟩
theorem C8 (b:Bool):RV g w (B_ b) (.bool b) zero:=by simp only[RV];exact⟨.bool _,λ_=>trivial⟩
def LK {x y:Rd}{x' y':Operand}(s:S P g w st t O)(hx:bO x x'=true)(hy:bO y y'=true){β:Type}{k:AV->AV->aK->Option β}{r:β}
  (h:(match rd st.env x with
   |some (a,e)=>(match rd e y with
    |some (b,e)=>k a b e
    |none=>none)
   |none=>none)=some r) :
  ∃a b e Oa Ob O',RV g w a (ev t x') Oa∧RV g w b (ev t y') Ob∧S P g w ⟨e,st.hs⟩ t O'∧(∀c,Oa c+Ob c+O' c<=O c)∧k a b e=some r:=by
 grind [S.rd]
def Rm (op:BinOp)(ty:TypeId)(x y:Operand)(k j:IntKind)(m n:Int):(eqGuard op ty x y (.int k m) (.int j n)).run P w=.ok () w:=by
 simp_all [eqGuard]
def Pd (op:BinOp)(ty:TypeId)(x y:Operand)(m n:Bool):(eqGuard op ty x y (.bool m) (.bool n)).run P w=.ok () w:=by
 simp_all [eqGuard]
def Qo (op:BinOp)(ty:TypeId)(x y:Operand)(m n:ByteArray):(eqGuard op ty x y (.string m) (.string n)).run P w=.ok () w:=by
 simp_all [eqGuard]
def ajN (bs:ByteArray):∀(n i:Nat) (r:BA_),bs.size-i=n->ByteArray.toList.loop bs i r=r.reverse++bs.data.toList.drop i:=by
 intro n
 induction n with
 |zero =>
  intro i r h;rw[ByteArray.toList.loop];have hi:¬i<bs.size:=o_;have:bs.data.toList.length<=i:=u_
  grind [List.drop_eq_nil_of_le]
 |succ n ih =>
  intro i r h;have hi:i<bs.size:=o_;rw[ByteArray.toList.loop];rw[ih (i+1) _ o_];have hd:bs.data.toList.drop i=bs.get! i::bs.data.toList.drop (i+1):=by
   have hl:i<bs.data.toList.length:=hi;rw[ou hl]
   congr 1
   show _=bs.data.get!Internal i
   simp_all
  simp_all
def LR (s:BA_):(⟨s.toArray⟩:ByteArray).toList=s:=by
 unfold ByteArray.toList
 simp_all [ajN]
def Ub {op:BinOp}{k j:IntKind}{m n:Int}{d:D}(h:Dc op k m n=some d) :
  ∃x,(Op.shift op k m j n).run P w=.ok x w∧RD w g.pm d x:=by
 unfold Dc at h;split at h
 .simp at h
 .have hn':¬n<0:=u_;unfold Op.shift
  cases op<;>simp only[reduceCtorEq,ae]at h
  .subst h;refine⟨.int k (k.wrap (m*2 ^ min n.toNat k.bits)),?_,?_⟩
   .simp[hn']
   .rw[HM];exact .int _ _
  .subst h;refine⟨.int k (m.fdiv (2 ^ min n.toNat k.bits)),?_,?_⟩
   .simp[hn']
   .exact .int _ _
def aeT {op:BinOp}(hs:op≠.shl)(hs':op≠.shr){ty:TypeId}{k:IntKind}{m n:Int}{d:D}(h:jo op k m n=some d) :
  ∃x,(binOp op ty (.int k m) (.int k n)).run P w=.ok x w∧RD w g.pm d x:=by
 cases op<;>simp only[jo,KH,reduceCtorEq,ae]at h<;>(try exact absurd rfl hs)<;>(try exact absurd rfl hs')
 .subst h;rw[HM];exact⟨_,by simp[binOp,Op.intArith],.int _ _⟩
 .subst h;rw[HM];exact⟨_,by simp[binOp,Op.intArith],.int _ _⟩
 .subst h;rw[HM];exact⟨_,by simp[binOp,Op.intArith],.int _ _⟩
 .split at h
  .simp at h
  .rename_i hn;simp only[ae]at h;subst h;rw[HM];exact⟨_,by simp_all [binOp,Op.intDiv],.int _ _⟩
 .split at h
  .simp at h
  .rename_i hn;simp only[ae]at h;subst h;exact⟨_,by simp_all [binOp,Op.intDiv],.int _ _⟩
 .subst h;exact⟨_,by simp[binOp,Op.intBits],.int _ _⟩
 .subst h;exact⟨_,by simp[binOp,Op.intBits],.int _ _⟩
 .subst h;exact⟨_,by simp[binOp,Op.intBits],.int _ _⟩
 .subst h;exact⟨_,by simp[binOp,Op.intBits],.int _ _⟩
 .subst h;exact⟨_,by simp[binOp,Op.intCmp];rfl,by exact .bool _⟩
 .subst h;exact⟨_,by simp[binOp,Op.intCmp];rfl,by exact .bool _⟩
 .subst h;exact⟨_,by simp[binOp,Op.intCmp];rfl,by exact .bool _⟩
 .subst h;exact⟨_,by simp[binOp,Op.intCmp];rfl,by exact .bool _⟩
 .subst h;exact⟨_,by simp[binOp,Op.intCmp];rfl,by exact .bool _⟩
 .subst h;exact⟨_,by simp[binOp,Op.intCmp];rfl,by exact .bool _⟩
def ajd {op:BinOp}{ty:TypeId}{va vb r:AV}{x y:Value}{Oa Ob:Nat->Nat}(ra:RV g w va x Oa)(rb:RV g w vb y Ob)(h:cL op va vb=some r)
  (x' y':Operand):∃z,((do eqGuard op ty x' y' x y;binOp op ty x y:Sem Value)).run P w=.ok z w∧RV g w r z zero:=by
 unfold cL at h;split at h
 .rename_i k m j n;have hx:=wp ra rfl;have hy:=wp rb rfl;subst hx hy;simp only[aB,Rm,aS];split at h
  .rename_i d hd;simp only[ae]at h;subst h;have fin:(∃z,(binOp op ty (.int k m) (.int j n)).run P w=.ok z w∧RD w g.pm d z)->
     ∃z,(binOp op ty (.int k m) (.int j n)).run P w=.ok z w∧RV g w (.d d) z zero :=
    λ⟨z,h1,h2⟩=>⟨z,h1,by grind [RV]⟩
   apply fin;unfold sQ at hd;split at hd
   .simp_all [binOp,Ub]
   .simp_all [binOp,Ub]
   .rename_i h1 h2;split at hd
    .rename_i hk;have:=Bi hk
     simp_all [aeT]
    simp_all
  simp_all
 .rename_i s u;have hx:=Wr ra rfl;have hy:=Wr rb rfl;subst hx hy;simp only[aB,Qo,aS]
  cases op<;>simp only[reduceCtorEq,ae]at h
  .split at h
   .rename_i hb;have hb2:s.length+u.length<=4294967296:=cN hb;injection h with h
    subst h;refine⟨.string (⟨s.toArray⟩++⟨u.toArray⟩),?_,?_⟩
    .have h1:(⟨s.toArray⟩:ByteArray).size=s.length:=by simp[ByteArray.size]
     have h2:(⟨u.toArray⟩:ByteArray).size=u.length:=by simp[ByteArray.size]
     have hm:¬(((s.length+u.length:Nat):Int) > IntKind.i64.max):=by
      have:IntKind.i64.max=9223372036854775807:=rfl;omega
     simp_all [binOp,Op.stringOp]
    .simp only[RV];exact⟨.str _,λ_=>trivial⟩
   simp_all
  .subst h
   simp_all [binOp,Op.stringOp,LR,C8]
  .subst h
   simp_all [binOp,Op.stringOp,LR,C8]
 simp_all
def akO {op:BinOp}{x y:Rd}(s:S P g w st t O)(h:Ia op x y st=some (a,st'))(hc:aZ P (.bin op x y) o.op=true) :
  dV P g w t O st' a ((execOp (ev t) o).run P w):=by
 obtain⟨dst,opp,ty,pos,aft,gd⟩:=o;simp only[aZ]at hc;split at hc
 .rename_i op' ty' x' y' yt;simp only[af,SY,decide_eq_true_eq]at hc;obtain⟨⟨rfl,h1⟩,h2⟩:=hc;simp only[Ia,Mp]at h;obtain⟨va,vb,e,Oa,Ob,O',ra,rb,s',l,hk⟩:=LK s h1 h2 h;split at hk
  .rename_i r hr;obtain⟨rfl,rfl⟩:=hk;obtain⟨z,hz,rz⟩:=ajd (P:=P) (ty:=ty') ra rb hr x' y';refine .flat s (x:=z) ?_ rz s' λb=>by grind
   simp only[execOp];rw[aB,hz];simp
  simp_all
 simp_all
def aL {ty:TypeId}{d:TypeDesc}(h:P.underlying ty=some d):(underlying ty).run P w=.ok d w:=by simp_all [underlying]
def DT {ty:TypeId}(hu:P.underlying ty=some .bool)(d:Nat)(m n:Bool):(Op.equalIn (d+1) ty (.bool m) (.bool n)).run P w=.ok (m == n) w:=by
 unfold Op.equalIn;rw[aB,aL hu];simp
def S5 {ty:TypeId}(hu:P.underlying ty=some .bool)(neg:Bool)(m n:Bool) :
  (binOp (match neg with|true=>.neq|false=>.eql) ty (.bool m) (.bool n)).run P w=.ok (.bool (match neg with|true=>!(m == n)|false=>m == n)) w:=by
 have h:(Op.equal ty (.bool m) (.bool n)).run P w=.ok (m == n) w:=DT hu 9999 m n
 cases neg
 .show((do pure (.bool (<-Op.equal ty (.bool m) (.bool n))):Sem Value)).run P w=_
  simp_all
 .show((do pure (.bool (!(<-Op.equal ty (.bool m) (.bool n)))):Sem Value)).run P w=_
  simp_all
def ajX {neg:Bool}{x y:Rd}(s:S P g w st t O)(h:Gn neg x y st=some (a,st'))(hc:aZ P (.binb neg x y) o.op=true) :
  dV P g w t O st' a ((execOp (ev t) o).run P w):=by
 obtain⟨dst,opp,ty,pos,aft,gd⟩:=o;simp only[aZ]at hc;split at hc
 .simp only[af,SY,decide_eq_true_eq]at hc;obtain⟨⟨⟨h0,hb⟩,h1⟩,h2⟩:=hc;obtain⟨va,vb,e,Oa,Ob,O',ra,rb,s',l,hk⟩:=LK s h1 h2 h;split at hk
  .rename_i m n;obtain⟨rfl,rfl⟩:=hk;have hx:=xk ra rfl;have hy:=xk rb rfl;simp only[GB]at hb;split at hb
   .rename_i hu;refine .flat s (x:=_) ?_ (C8 _) s' λb=>by grind
    have h:=S5 (P:=P) (w:=w) hu neg m n;simp only[execOp,hx,hy];rw[aB,aB,Pd]
    cases neg
    all_goals simp_all
   simp_all
  simp_all
 simp_all
def anE {op:UnOp}{x:Rd}(s:S P g w st t O)(h:Sd op x st=some (a,st'))(hc:aZ P (.un op x) o.op=true) :
  dV P g w t O st' a ((execOp (ev t) o).run P w):=by
 obtain⟨dst,opp,ty,pos,aft,gd⟩:=o;simp only[aZ]at hc;split at hc
 .rename_i op' ty' x';simp only[af,amr,decide_eq_true_eq]at hc;obtain⟨rfl,h1⟩:=hc;obtain⟨v,e,hr,hk⟩:=LC h;obtain⟨Ov,O',rv,s',l⟩:=s.rd h1 hr;split at hk
  .rename_i r hun;simp only[ae,aJ]at hk;obtain⟨rfl,rfl⟩:=hk;unfold SU at hun;split at hun
   .have hx:=wp rv rfl
    cases op<;>simp only[reduceCtorEq,ae]at hun
    .subst hun;rw[HM];exact .flat s (x:=_) (by simp_all [execOp,Op.unary,Op.intArith]) (rF _ _) s' (S.le_left l)
    .split at hun
     .rename_i d hd;simp only[ae]at hun;subst hun;simp only[KH,ae]at hd;subst hd;exact .flat s (x:=_) (by simp_all [execOp,Op.unary,Op.intBits]) (rF _ _) s' (S.le_left l)
     simp_all
   .have hx:=xk rv rfl
    cases op<;>simp only[reduceCtorEq,ae]at hun
    subst hun;exact .flat s (x:=_) (by simp_all [execOp,Op.unary]) (C8 _) s' (S.le_left l)
   simp_all
  simp_all
 simp_all
end
theorem jJ (b off n:Nat):(⟨b,off,none⟩:Addr).add n=⟨b,off+n,none⟩:=by
 grind [Addr.add]
section
variable {g:Gh}{w:World}
theorem RVs.length {cs:D_}{xs:M_}{O:Nat->Nat}(r:RVs g w cs xs O):xs.length=cs.length:=by
 induction cs generalizing xs O<;>grind [RVs]
def RVs.split {a b:D_}{xs:M_}{O:Nat->Nat}(r:RVs g w (a++b) xs O) :
  ∃O1 O2,RVs g w a (xs.take a.length) O1∧RVs g w b (xs.drop a.length) O2∧∀c,O c=O1 c+O2 c:=by
 induction a generalizing xs O with
 |nil=>exact⟨zero,O,by simp[RVs],u_,λc=>by simp⟩
 |cons v a ih =>
  obtain⟨x,s,O1,O2,rfl,r1,r2,h⟩:=r;obtain⟨P1,P2,q1,q2,h2⟩:=ih r2;refine⟨λc=>O1 c+P1 c,P2,?_,u_,λc=>by grind⟩
  grind [RVs]
theorem RVs.join {a b:D_}{xs ys:M_}{O1 O2:Nat->Nat}(r1:RVs g w a xs O1)(r2:RVs g w b ys O2) :
  RVs g w (a++b) (xs++ys) λc=>O1 c+O2 c:=by
 induction a generalizing xs O1 with
 |nil =>
  simp_all [RVs]
 |cons v a ih =>
  grind [RVs]
def RVs.get {cs:D_}{xs:M_}{O:Nat->Nat}(r:RVs g w cs xs O){i:Nat}{v:AV}(h:cs[i]?=some v) :
  ∃x O1,xs[i]?=some x∧RV g w v x O1∧∀c,O1 c<=O c:=by
 induction cs generalizing xs O i<;>grind [RVs]
def RVs.pull {cs:D_}{xs:M_}{O:Nat->Nat}(r:RVs g w cs xs O){i:Nat}{v:AV}(h:cs[i]?=some v) :
  ∃x O1 O2,xs[i]?=some x∧RV g w v x O1∧RVs g w (cs.set i .junk) xs O2∧∀c,O1 c+O2 c=O c:=by
 induction cs generalizing xs O i with
 |nil=>simp at h
 |cons c cs ih =>
  obtain⟨x,s,O1,O2,rfl,r1,r2,hs⟩:=r
  cases i with
  |zero =>
   simp at h;subst h;refine⟨x,O1,O2,rfl,r1,?_,λc=>(hs c).symm⟩;exact⟨x,s,zero,O2,rfl,by simp[RV],r2,λc=>by simp⟩
  |succ i =>
   obtain⟨y,P1,P2,h1,h2,h3,h4⟩:=ih r2 h;refine⟨y,P1,λc=>O1 c+P2 c,u_,h2,?_,λc=>by grind⟩
   grind [RVs]
theorem RVs.sub {cs:D_}{xs:M_}{O:Nat->Nat}(r:RVs g w cs xs O)(off n:Nat) :
  ∃O1,RVs g w (Vm.sub cs off n) ((xs.drop off).take n) O1∧∀c,O1 c<=O c:=by
 have hlen:=r.length;have e:cs=cs.take off++(Vm.sub cs off n++(cs.drop off).drop n):=by
  grind [Vm.sub,List.take_append_drop]
 rw[e]at r;obtain⟨O1,O2,r1,r2,h⟩:=r.split;obtain⟨P1,P2,q1,q2,h2⟩:=r2.split;refine⟨P1,?_,λc=>by grind⟩
 grind [List.length_take,Nat.min_eq_left,Nat.min_eq_right,List.drop_eq_nil_of_le,Vm.sub,List.length_drop,List.take_of_length_le]
def KE {v:AV}{n:Nat}{x:Value}{O:Nat->Nat}(h:lenOf v=some n)(r:RV g w v x O):∃a cap,x=.slice a n cap:=by
 unfold lenOf at h;split at h<;>simp only[ae,reduceCtorEq]at h
 .obtain⟨r,_⟩:=r
  cases r<;>simp_all
 all_goals grind [RV,zT]
end
section
variable {P:Program}{g:Gh}{w:World}{t:E_}{O:Nat->Nat}{st st':St}{a:AV}{o:Oper}
def nG {c:Callee}{b:Builtin}(h:Jn (nk c) (some b)=true):c=.builtin b:=by
 cases c<;>simp[nk,Jn]at h
 simp_all
def RK {c:Call}(h:Nat.blt 0 c.argTypes.size=true):c.argTypes[0]?=some (qg c):=by
 simp_all [qg]
def acb {x:Rd}{as:Array Operand}(h:dc [x] as.toList=true):∃y,as=#[y]∧bO x y=true:=by
 obtain⟨l⟩:=as
 match l,h with
 |[],h=>simp[dc]at h
 |[y],h=>grind [dc]
 |_::_::_,h=>simp[dc]at h
def adb {x x2:Rd}{as:Array Operand}(h:dc [x,x2] as.toList=true):∃y y2,as=#[y,y2]∧bO x y=true∧bO x2 y2=true:=by
 obtain⟨l⟩:=as
 match l,h with
 |[],h=>simp[dc]at h
 |[y],h=>simp[dc]at h
 |[y,y2],h=>grind [dc]
 |_::_::_::_,h=>simp[dc]at h
def amL {x:Rd}(s:S P g w st t O)(h:MH x st=some (a,st'))(hc:aZ P (.len x) o.op=true) :
  dV P g w t O st' a ((execOp (ev t) o).run P w):=by
 simp only[aZ]at hc;split at hc
 .simp only[af]at hc;obtain⟨⟨⟨h1,h2⟩,h3⟩,h4⟩:=hc;have:=nG h1;obtain⟨y,e1,hy⟩:=acb h4;obtain⟨v,e',h5,h6⟩:=LC h;obtain⟨Ov,O',rv,s',l⟩:=s.rd hy h5;have hty:=RK h2;split at h6
  .rename_i n hn;obtain⟨rfl,rfl⟩:=h6;obtain⟨ad,cap,hx⟩:=KE hn rv;split at h3
   .refine .flat s (x:=.int .i64 n) ?_ (rF _ _) s' (S.le_left l)
    simp_all [execOp,resolve,invoke,builtin,Builtin.len_,goInt,aL]
   simp_all
  simp_all
 simp_all
def alQ {x:Rd}(s:S P g w st t O)(h:I7 x st=some (a,st'))(hc:aZ P (.cap x) o.op=true) :
  dV P g w t O st' a ((execOp (ev t) o).run P w):=by
 obtain⟨dst,op,ty,pos,aft,gd⟩:=o;simp only[aZ]at hc;split at hc
 .rename_i c;simp only[af]at hc;obtain⟨⟨⟨h1,h2⟩,h3⟩,h4⟩:=hc;obtain⟨callee,args,ats⟩:=c;have:=nG h1;subst this;obtain⟨y,e1,hy⟩:=acb h4;subst e1;unfold I7 at h;split at h
  .rename_i e' h5;obtain⟨Ov,O',rv,s',l⟩:=s.rd hy h5;have hty:=RK h2;obtain⟨rfl,rfl⟩:=h;split at h3
   .rename_i e hu;refine .flat s (x:=.int .i64 0) ?_ (rF _ _) s' (S.le_left l);simp[execOp,resolve,invoke,builtin,Builtin.cap_,hty,rv.1,aL hu,goInt]
   simp_all
  simp_all
 simp_all
def P8 {v r:AV}{off:Nat}{x:Value}{Ov:Nat->Nat}(h:nI off v=some r)(rv:RV g w v x Ov) :
  ∃b o,x=.pointer (some ⟨b,o,none⟩)∧RV g w r (.pointer (some ⟨b,o+off,none⟩)) zero:=by
 unfold nI at h
 grind [RV]
def anR {off:Nat}{p:Rd}(s:S P g w st t O)(h:SA off p st=some (a,st'))(hc:aZ P (.fa off p) o.op=true) :
  dV P g w t O st' a ((execOp (ev t) o).run P w):=by
 obtain⟨dst,op,ty,pos,aft,gd⟩:=o;simp only[aZ]at hc;split at hc
 .simp only[af]at hc;obtain⟨h1,h2⟩:=hc;obtain⟨v,e',h5,h6⟩:=LC h;obtain⟨Ov,O',rv,s',l⟩:=s.rd h2 h5;split at h6
  .rename_i r hr;obtain⟨rfl,rfl⟩:=h6;obtain⟨b,k,hx,rr⟩:=P8 hr rv;simp only[aan]at h1;split at h1
   .split at h1
    .split at h1
     .rename_i i hi;have hz:¬i.size=0:=by
       grind [Nat.blt_eq]
      refine .flat s (x:=_) ?_ rr s' (S.le_left l)
      simp_all [execOp,Instr.fieldAt,Instr.sureAddr,fieldPlace,sizeOf,typeInfo,jJ,aL]
     simp_all
    simp_all
   simp_all
  simp_all
 simp_all
def ajo {f:FuncId}{first caps:S_}(s:S P g w st t O)(h:Dm f first caps st=some (a,st'))(hc:aZ P (.mkfn f first caps) o.op=true) :
  dV P g w t O st' a ((execOp (ev t) o).run P w):=by
 obtain⟨dst,op,ty,pos,aft,gd⟩:=o;simp only[aZ]at hc;split at hc
 .rename_i f' xs ys;simp only[af,aq]at hc;obtain⟨⟨rfl,h1⟩,h2⟩:=hc;unfold Dm at h;split at h
  .rename_i va e1 h3;obtain⟨O1,O2,r1,s1,l1⟩:=s.rdAll h1 h3;split at h
   .rename_i vc e2 h4;obtain⟨O3,O4,r2,s2,l2⟩:=s1.rdAll h2 h4;obtain⟨rfl,rfl⟩:=h;refine .flat s (x:=.func (.func f) (xs.map (ev t)) (ys.map (ev t))) (by simp[execOp,Instr.makeFunc]) ?_ s2 λb=>by grind
    simp only[RV];exact⟨⟨_,_,rfl,by simpa using RVs.share _ _ _ r1,by simpa using RVs.share _ _ _ r2⟩,λ_=>trivial⟩
   simp_all
  simp_all
 simp_all
end
abbrev bB:=@getElem?_pos
abbrev b7:=@List.getElem?_eq_getElem
section
variable {P:Program}{g:Gh}{w:World}{t:E_}{O:Nat->Nat}{st st':St}{a:AV}{o:Oper}
def EV {v:AV}{n:Nat}{x:Value}{Ov:Nat->Nat}(h:oJ v=some n)(r:RV g w v x Ov):∃k,x=.int k (n:Int):=by
 unfold oJ at h;split at h<;>simp only[ae,reduceCtorEq]at h;obtain⟨r,_⟩:=r;cases r;simp_all
def A9 {v:AV}{n top:Nat}{x:Value}{Ov:Nat->Nat}(h:gD v top=some n)(r:RV g w v x Ov):(∃k,x=.int k (n:Int))∧n<=top:=by
 unfold gD at h;split at h
 .split at h<;>simp only[ae,reduceCtorEq]at h;obtain⟨r,_⟩:=r;cases r;simp_all
 simp_all
def dw {ty:TypeId}{n:Nat}(h:tw P ty n=true):(sizeOf ty).run P w=.ok n w:=by
 unfold tw at h;split at h<;>simp_all [sizeOf,typeInfo]
def ut {ty:TypeId}(h:yQ P ty=true):(isAgg ty).run P w=.ok true w:=by
 unfold yQ at h;split at h<;>simp_all [isAgg,aL]
def zn {ty:TypeId}(h:EU P ty=true):(isAgg ty).run P w=.ok false w:=by
 unfold EU at h;split at h<;>try (simp at h;done)
 simp_all [isAgg,aL]
def XN {ty:TypeId}{n:H_}(ht:nt P ty n=true){cs:D_}{xs:E_}{Ov:Nat->Nat}(r:RVs g w cs xs.toList Ov){off:Nat}{v:AV}
  (h:Bx n cs off=some v) :
  ∃x O1,(part ty xs off).run P w=.ok x w∧RV g w v x O1∧∀b,O1 b<=Ov b:=by
 cases n with
 |none =>
  simp only[nt]at ht;obtain⟨x,O1,hx,rv,l⟩:=r.get h;refine⟨x,O1,?_,rv,l⟩
  simp_all [part,zn]
 |some n =>
  simp only[nt,af]at ht;simp only[Bx]at h;split at h
  .simp only[ae]at h;subst h;obtain⟨O1,r1,l⟩:=r.sub off n;refine⟨.agg (xs.extract off (off+n)),O1,by simp[part,ut ht.1,dw ht.2],?_,l⟩
   simp_all [RV]
  simp_all
def amq {off:Nat}{n:H_}{x:Rd}(s:S P g w st t O)(h:IR off n x st=some (a,st'))(hc:aZ P (.fld off n x) o.op=true) :
  dV P g w t O st' a ((execOp (ev t) o).run P w):=by
 simp only[aZ]at hc;split at hc
 .simp only[af]at hc;obtain⟨h1,h2⟩:=hc;unfold IR at h;split at h
  .rename_i cs e' h5;obtain⟨Ov,O',rv,s',l⟩:=s.rd h2 h5;obtain⟨xs,hx,rv⟩:=rv;simp only[Ns]at h1;split at h1
   .split at h1
    .simp only[af,aq]at h1;obtain⟨rfl,h1⟩:=h1;split at h
     .rename_i v hv;obtain⟨rfl,rfl⟩:=h;obtain⟨z,O1,hz,rz,l1⟩:=XN (P:=P) h1 rv hv;refine .pure s (x:=z) ?_ rz s' λb=>by grind
      simp_all [execOp,Instr.field,asAgg,aL]
     simp_all
    simp_all
   simp_all
  simp_all
 simp_all
def ali {j:Nat}{mv:Bool}{i:Nat}(s:S P g w st t O)(h:zj j mv i st=some (a,st'))(hc:aZ P (.ext j mv i) o.op=true) :
  dV P g w t O st' a ((execOp (ev t) o).run P w):=by
 obtain⟨dst,op,ty,pos,aft,gd⟩:=o;simp only[aZ]at hc;split at hc
 .simp only[af,aq]at hc;obtain⟨rfl,rfl⟩:=hc;unfold zj at h;split at h
  .rename_i vs hg;split at h
   .rename_i v hv;obtain⟨Oe,Oh,re,rh,ho⟩:=s.parts;obtain⟨O1,O2,⟨hlt,q⟩,r2,hs⟩:=RL.take re hg;obtain⟨xs,hx,q⟩:=q;obtain⟨x,P1,P2,hx2,rv,rj,hl⟩:=q.pull hv;have hrun:(execOp (ev t) ⟨dst,.extract (.tmp j) i,ty,pos,aft,gd⟩).run P w=.ok (.value x) w:=by
     simp_all [execOp,ev,Instr.extract]
    cases mv with
    |false =>
     grind [dV.flat,RV.share]
    |true =>
     obtain⟨rfl,rfl⟩:=h;obtain⟨O3,r3,h3⟩:=RL.put s.se r2 (i:=j) (x:=AV.tup (vs.set i .junk)) (O1:=P2) ⟨hlt,by grind [RV]⟩;refine .pure s hrun rv (s.of_env (O':=λb=>O3 b+Oh b) r3 rh (s.se.put _ _) (λ_=>rfl) λb=>?_) λb=>?_
     all_goals grind
   simp_all
  simp_all
 simp_all
def aeW {ty:TypeId}{l e:Nat}(hu:P.underlying ty=some (.array l e)){xs:E_}{k:IntKind}{i n:Nat}(hi:i<l)(hs:tw P e n=true) :
  (Instr.index ty (.agg xs) (.int k (i:Int))).run P w=(part e xs (i*n)).run P w:=by
 simp[Instr.index,asIntOf,aL hu,hi,dw hs]
def aof {len n:Nat}{agg:Bool}{x i:Rd}(s:S P g w st t O)(h:OX len n agg x i st=some (a,st'))(hc:aZ P (.ix len n agg x i) o.op=true) :
  dV P g w t O st' a ((execOp (ev t) o).run P w):=by
 obtain⟨dst,op,ty,pos,aft,gd⟩:=o;simp only[aZ]at hc;split at hc
 .simp only[af]at hc;obtain⟨⟨h1,h2⟩,h3⟩:=hc;unfold OX at h;split at h
  .rename_i cs e1 h5;obtain⟨Ov,O1,rv,s1,l1⟩:=s.rd h2 h5;obtain⟨xs,hx,rv⟩:=rv;split at h
   .rename_i vi e2 h6;obtain⟨Oi,O2,ri,s2,l2⟩:=s1.rd h3 h6;split at h
    .rename_i k hk;obtain⟨kk,hk2⟩:=EV hk ri;split at h
     .simp at h
     .have hlt:k<len:=by grind [Nat.ble_eq]
      simp only[QZ]at h1;split at h1
      .rename_i l el hu;simp only[af,aq]at h1;obtain⟨⟨rfl,hsz⟩,hag⟩:=h1;split at h
       .rename_i v hv;obtain⟨rfl,rfl⟩:=h;have hc:nt P el (Xe agg n)=true:=by
         grind [nt,Xe]
        obtain⟨z,O3,hz,rz,l3⟩:=XN (P:=P) hc rv hv;refine .pure s (x:=z) ?_ rz s2 λb=>by grind
        simp only[execOp,hx,hk2];rw[aB,aeW hu hlt hsz,hz];rfl
       simp_all
      simp_all
    simp_all
   simp_all
  simp_all
 simp_all
def akT {x i:Rd}(s:S P g w st t O)(h:HW x i st=some (a,st'))(hc:aZ P (.ixs x i) o.op=true) :
  dV P g w t O st' a ((execOp (ev t) o).run P w):=by
 simp only[aZ]at hc;split at hc
 .simp only[af]at hc;obtain⟨⟨h1,h2⟩,h3⟩:=hc;unfold HW at h;split at h
  .rename_i str e1 h5;obtain⟨Ov,O1,rv,s1,l1⟩:=s.rd h2 h5;have hx:=Wr rv rfl;split at h
   .rename_i vi e2 h6;obtain⟨Oi,O2,ri,s2,l2⟩:=s1.rd h3 h6;split at h
    .rename_i k hk;obtain⟨kk,hk2⟩:=EV hk ri;split at h
     .rename_i b hb;obtain⟨rfl,rfl⟩:=h;simp only[II]at h1;split at h1
      .refine .flat s (x:=.int .u8 b.toNat) ?_ (rF _ _) s2 λc=>by grind
       have hlen:k<str.length:=by
        grind
       have hg:(⟨str.toArray⟩:ByteArray)[k]?=some b:=by
        have hs:k<(⟨str.toArray⟩:ByteArray).size:=hlen;rw[bB (⟨str.toArray⟩:ByteArray) k hs];rw[b7 hlen]at hb;exact hb
       simp_all [execOp,Instr.index,asIntOf,aL]
      simp_all
     simp_all
    simp_all
   simp_all
  simp_all
 simp_all
def aiH {len n:Nat}{p i:Rd}(s:S P g w st t O)(h:Hl len n p i st=some (a,st'))(hc:aZ P (.iarr len n p i) o.op=true) :
  dV P g w t O st' a ((execOp (ev t) o).run P w):=by
 obtain⟨dst,op,ty,pos,aft,gd⟩:=o;simp only[aZ]at hc;split at hc
 .simp only[af]at hc;obtain⟨⟨h1,h2⟩,h3⟩:=hc;obtain⟨v,vi,e,Ov,Oi,O',rv,ri,s',l,hk⟩:=LK s h2 h3 h;split at hk
  .rename_i k hk1;obtain⟨kk,hk2⟩:=EV hk1 ri;split at hk
   .simp at hk
   .have hlt:k<len:=by grind [Nat.ble_eq]
    split at hk
    .rename_i r hr;obtain⟨rfl,rfl⟩:=hk;obtain⟨b,off,hx,rr⟩:=P8 hr rv;simp only[MG]at h1;split at h1
     .rename_i l' el hu;simp only[af,aq]at h1;obtain⟨⟨rfl,hsz⟩,_⟩:=h1;refine .flat s (x:=_) ?_ rr s' λc=>by grind
      simp[execOp,hx,hk2,Instr.indexAt,asIntOf,aL hu,Instr.sureAddr,hlt,dw hsz,jJ]
     simp_all
    simp_all
  simp_all
 simp_all
end
abbrev xf:=@Nat.succ_mul
abbrev bw:=@List.take_of_length_le
abbrev d8:=@List.mem_of_mem_drop
abbrev fL:=@List.mem_of_mem_take
abbrev cB:=@List.getElem?_drop
abbrev bF:=@Nat.add_assoc
abbrev bY:=@Nat.mul_le_mul_right
theorem DQ {xs:F_}{m:Nat}(h:∀e∈xs,e.length=m)(l:Nat):(xs.drop l).flatten=xs.flatten.drop (l*m):=by
 induction xs generalizing l with
 |nil=>simp
 |cons a r ih =>
  cases l<;>simp_all [xf,List.drop_append]
theorem D8 {xs:F_}{m:Nat}(h:∀e∈xs,e.length=m)(l:Nat):(xs.take l).flatten=xs.flatten.take (l*m):=by
 induction xs generalizing l with
 |nil=>simp
 |cons a r ih =>
  cases l<;>simp_all [xf,List.take_append,bw]
def C6 {xs:F_}{m:Nat}(h:∀e∈xs,e.length=m)(l n:Nat):∀e∈sub xs l n,e.length=m :=
 λe he=>h e (d8 (fL he))
def lJ {xs:F_}{m:Nat}(h:∀e∈xs,e.length=m)(l n:Nat):(sub xs l n).flatten=sub xs.flatten (l*m) (n*m):=by
 grind [sub,D8,DQ]
def aaZ {α:Type}{xs:List α}{l n j:Nat}{c:α}(h:(sub xs l n)[j]?=some c):xs[l+j]?=some c∧j<n:=by
 grind [sub]
def iZ {α:Type}{xs:List α}{l n:Nat}(h:l+n<=xs.length):(sub xs l n).length=n:=by
 grind [sub]
theorem Lr {xs:F_}{m:Nat}(h:∀e∈xs,e.length=m){i j:Nat}{e:U_}{c:D}(hi:xs[i]?=some e)(hj:e[j]?=some c) :
  xs.flatten[i*m+j]?=some c:=by
 rw[<-cB,<-DQ h]
 grind [List.drop_eq_getElem_cons]
section
variable {g:Gh}{w:World}
theorem RD.list {pm:Nat->Nat->Prop}{xs:F_}{x:Value}(r:RD w pm (.lst xs) x) :
  (xs=[]∧∃a cap,x=.slice a 0 cap)∨∃b off m cap,x=.slice (some ⟨b,off,none⟩) xs.length cap∧0<m∧xs.length<=cap∧(∀e∈xs,e.length=m)∧
   gw w pm xs.flatten b off∧∀j,j<xs.length*m->pm b (off+j):=by
 cases r with
 |nil a cap=>simp_all
 |lst xs b off m cap u hm hcap hl hc hr =>
  refine .inr ⟨b,off,m,cap,rfl,hm,hcap,hl,λj c hj=>⟨u j,(hc j c hj).1,hr j c hj⟩,λj hj=>?_⟩;have:j<xs.flatten.length:=by grind [ej]
  simp_all
def S8 {h:ak}{v:AV}{xs:F_}{x:Value}{O:Nat->Nat}(he:elems h v=some xs)(hn:te v=false)(r:RV g w v x O) :
  RD w g.pm (.lst xs) x:=by
 cases v with
 |d c =>
  cases c<;>simp only[elems,reduceCtorEq,ae]at he
  grind [RV]
 |nl=>simp only[elems,ae]at he;subst he;rw[r.1];exact .nil _ _
 |own p m ys =>
  cases p<;>simp only[elems,reduceCtorEq,ae]at he
  have:=RV.share _ _ _ r
  grind [share,RV]
 |sl id off len=>simp[te]at hn
 |_=>simp[elems]at he
theorem gw.sub {pm:Nat->Nat->Prop}{cs:U_}{b off:Nat}(r:gw w pm cs b off)(l n:Nat):gw w pm (Vm.sub cs l n) b (off+l):=by
 intro j c hj;obtain⟨h1,_⟩:=aaZ hj;obtain⟨u,hu,hr⟩:=r _ c h1
 grind
def gw.elem {pm:Nat->Nat->Prop}{xs:F_}{m b off:Nat}(r:gw w pm xs.flatten b off)(hl:∀e∈xs,e.length=m){i:Nat}{e:U_}
  (hi:xs[i]?=some e):gw w pm e b (off+i*m):=by
 intro j c hj;obtain⟨u,hu,hr⟩:=r _ c (Lr hl hi hj)
 grind
def Bs {α:Type}{xs:List α}{i:Nat}{x:α}(h:xs[i]?=some x):i<xs.length:=by
 grind
end
section
variable {P:Program}{g:Gh}{w:World}{t:E_}{O:Nat->Nat}{st st':St}{a:AV}{o:Oper}
def fH {ty:TypeId}{m:Nat}(h:f7 P ty m=true):∃e,P.underlying ty=some (.slice e)∧tw P e m=true∧0<m∧P.bytesOf e<=4096:=by
 grind [f7,Nat.blt_eq,Nat.ble_eq]
def M3 {ty:TypeId}{n:Nat}(h:f7 P ty n=true){b off len cap i:Nat}{k:IntKind}(hi:i<len) :
  (Instr.indexAt ty (.slice (some ⟨b,off,none⟩) len cap) (.int k (i:Int))).run P w=.ok (.pointer (some ⟨b,off+i*n,none⟩)) w:=by
 obtain⟨e,hu,hs,_⟩:=fH h;simp[Instr.indexAt,asIntOf,aL hu,hi,dw hs,jJ]
def aoT {n:Nat}{x i:Rd}(s:S P g w st t O)(h:WQ n x i st=some (a,st'))(hc:aZ P (.ia n x i) o.op=true) :
  dV P g w t O st' a ((execOp (ev t) o).run P w):=by
 obtain⟨dst,op,ty,pos,aft,gd⟩:=o;simp only[aZ]at hc;split at hc
 .rename_i ty' y j;simp only[af]at hc;obtain⟨⟨h1,h2⟩,h3⟩:=hc;obtain⟨v,vi,e,Ov,Oi,O',rv,ri,s',l,hk⟩:=LK s h2 h3 h;split at hk
  .rename_i k hk1;obtain⟨kk,hk2⟩:=EV hk1 ri;have fin:∀{r:AV}{b off:Nat},(∃len cap bo oo,ev t y=.slice (some ⟨bo,oo,none⟩) len cap∧k<len∧b=bo∧off=oo+k*n)->
     RV g w r (.pointer (some ⟨b,off,none⟩)) zero->dV P g w t O ⟨e,st.hs⟩ r ((execOp (ev t) ⟨dst,.indexAddr ty' y j,ty,pos,aft,gd⟩).run P w):=by
    rintro r b off ⟨len,cap,bo,oo,hx,hlt,rfl,rfl⟩ rr
    refine .flat s (x:=_) ?_ rr s' λc=>by grind
    simp only[execOp,hx,hk2];rw[aB,M3 h1 hlt];rfl
   have hnsl:te v=false->∀{xs:F_}{el:U_},elems st.hs.heap v=some xs->xs[k]?=some el->el.length=n->
     dV P g w t O ⟨e,st.hs⟩ (.pim el 0) ((execOp (ev t) ⟨dst,.indexAddr ty' y j,ty,pos,aft,gd⟩).run P w):=by
    intro hn xs el he hxk hlen;have rd:=S8 he hn rv;rcases rd.list with ⟨rfl,_⟩|⟨b,off,m,cap,hx,hm,hcap,hl,hrc,hp⟩
    .simp_all
    .have hmn:m=n:=d_;subst hmn;refine fin (b:=b) (off:=off+k*m) ⟨_,cap,b,off,hx,Bs hxk,rfl,rfl⟩ ?_;simp only[RV];refine⟨⟨b,off+k*m,s_,hrc.elem hl hxk,λq hq=>?_⟩,λ_=>trivial⟩;rw[bF];refine hp _ ?_;have:=Bs hxk;have:(k+1)*m<=xs.length*m:=bY _ this
     grind
   split at hk
   .rename_i id off len;split at hk
    .simp at hk
    .have hlt:k<len:=by grind [Nat.ble_eq]
     obtain⟨hsl,_⟩:=rv;rcases hsl with ⟨rfl,_⟩|⟨b,cap,hob,hx,_,_⟩
     .omega
     obtain⟨Oe,Oh,re,rh,ho⟩:=s.parts
     grind [Nat.beq_eq,RL.get,iF,RV]
   .have hn:te v=false:=by cases v<;>first|rfl|simp_all
    grind [Nat.beq_eq]
  simp_all
 simp_all
end
abbrev bu:=@if_false
section
variable {P:Program}{g:Gh}{w:World}{t:E_}{O:Nat->Nat}{st st':St}{a:AV}{o:Oper}
def RO (g:Gh)(w:World):L_->Option Value->Prop
 |none,none=>True
 |some v,some x=>∃Ov,RV g w v x Ov
 |_,_=>False
theorem S.rdOpt {r:Y_}{oo:Option Operand}(s:S P g w st t O)(hc:yz r oo=true){vo:L_}{e':aK}(h:rdOpt st.env r=some (vo,e')) :
  ∃O',RO g w vo (oo.map (ev t))∧S P g w ⟨e',st.hs⟩ t O'∧∀b,O' b<=O b:=by
 cases r with
 |none =>
  cases oo<;>simp[yz]at hc
  obtain⟨rfl,rfl⟩:=h;exact⟨O,trivial,s,λb=>ai _⟩
 |some r =>
  cases oo with
  |none=>simp[yz]at hc
  |some o =>
   obtain⟨v,e1,h1,h2⟩:=LC h;obtain⟨rfl,rfl⟩:=h2;obtain⟨Ov,O',rv,s',l⟩:=s.rd hc h1;exact⟨O',⟨Ov,rv⟩,s',S.le_left l⟩
def uu {v:AV}{x:Value}{Ov:Nat->Nat}(r:RV g w v x Ov){n top y:Nat}(h:gD v top=some n)(hy:top<=y)(c:BoundsCode) :
  (Instr.sliceBound x y c).run P w=.ok n w∧n<=top:=by
 obtain⟨⟨k,rfl⟩,hn⟩:=A9 h r;refine⟨?_,hn⟩;have:(n:Int)<=y:=o_
 simp_all [Instr.sliceBound,asIntOf]
def Qj {lo hi mx:L_}{lo' hi' mx':Option Value}(r1:RO g w lo lo')(r2:RO g w hi hi')(r3:RO g w mx mx'){b:Bool}{len cap l h m:Nat}
  (hcap:len<=cap)(hb:G5 len lo hi mx=some (l,h,m)) :
  ∃m',(Instr.sliceBounds b len cap lo' hi' mx').run P w=.ok (l,h,m') w∧l<=h∧h<=len∧h<=m'∧m'<=cap:=by
 unfold G5 at hb;have fin:∀(h0 m':Nat),h0<=len->h0<=m'->m'<=cap->CI lo h0 m=some (l,h,m)->
   ∃l',(match (generalizing:=false) lo' with|some v=>Instr.sliceBound v h0 (if mx'.isSome then .slice3C else .sliceB)|none=>pure 0).run P w=.ok l' w∧l'=l∧h0=h∧l<=h:=by
  intro h0 m' e1 e2 e3 e4
  cases lo with
  |none =>
   cases lo' with
   |some x=>exact r1.elim
   |none =>
    simp only[CI,ae,aJ]at e4;exact⟨0,rfl,e4.1,e4.2.1,o_⟩
  |some v =>
   cases lo' with
   |none=>exact r1.elim
   |some x =>
    obtain⟨Ov,rv⟩:=r1;simp only[CI]at e4;split at e4
    .rename_i n hn;obtain⟨h1,h2⟩:=uu (P:=P) rv hn (ai h0) (if mx'.isSome then .slice3C else .sliceB)
     simp_all
    simp_all
 cases mx with
 |none =>
  cases mx' with
  |some x=>exact r3.elim
  |none =>
   simp only at hb
   cases hi with
   |none =>
    cases hi' with
    |some x=>exact r2.elim
    |none =>
     have hm:m=len:=by
      cases lo<;>grind [CI]
     grind [Instr.sliceBounds,Sem.run_bind,Sem.run_pure,Result.andThen_ok]
   |some v =>
    cases hi' with
    |none=>exact r2.elim
    |some x =>
     obtain⟨Ov,rv⟩:=r2;split at hb
     .simp at hb
     .rename_i h0 hh;have hm:m=len:=by
       cases lo<;>grind [CI]
      subst hm;obtain⟨h5,h6⟩:=uu (P:=P) rv hh hcap (if b then .sliceAcap else .sliceAlen);obtain⟨l',h1,rfl,rfl,h4⟩:=fin h0 cap h6 o_ (ai _) hb;refine⟨cap,?_,h4,h6,o_,ai _⟩
      grind [Instr.sliceBounds,Sem.run_bind,Sem.run_pure,Result.andThen_ok]
 |some vm =>
  cases mx' with
  |none=>exact r3.elim
  |some xm =>
   obtain⟨Om,rm⟩:=r3;simp only at hb;split at hb
   .simp at hb
   .rename_i m0 hm0;obtain⟨h7,h8⟩:=uu (P:=P) rm hm0 hcap (if b then .slice3Acap else .slice3Alen)
    cases hi with
    |none=>simp at hb
    |some v =>
     cases hi' with
     |none=>exact r2.elim
     |some x =>
      obtain⟨Ov,rv⟩:=r2;split at hb
      .simp at hb
      .rename_i h0 hh;have hm:m=m0:=by
        cases lo<;>grind [CI]
       subst hm;obtain⟨h5,h6⟩:=uu (P:=P) rv hh (ai m) .slice3B;obtain⟨l',h1,rfl,rfl,h4⟩:=fin h0 m o_ h6 o_ hb;refine⟨m,?_,h4,o_,h6,o_⟩;simp only[Instr.sliceBounds,aB,aS,h5,h7]
       cases lo'<;>simp_all
def act {b:Bool}{v u r:AV}{x y:Value}{Ov Ou:Nat->Nat}(rv:RV g w v x Ov)(ru:RV g w u y Ou)(h:Dw b v u=some r) :
  ∃z,(match b with|true=>Builtin.max2 x y|false=>Builtin.min2 x y).run P w=.ok z w∧RV g w r z zero:=by
 unfold Dw at h;split at h
 .rename_i k m j n;have hx:=wp rv rfl;have hy:=wp ru rfl;subst hx hy;split at h
  .cases b
   .simp only[al,bu]at h;split at h
    .simp only[ae]at h;subst h
     simp_all [Builtin.min2,rF]
    .rename_i hd;simp only[decide_eq_false_iff_not]at hd;simp only[ae]at h;subst h;exact⟨.int k m,by simp[Builtin.min2,hd],rF _ _⟩
   .simp only[bK]at h;split at h
    .simp only[ae]at h;subst h
     simp_all [Builtin.max2,rF]
    .rename_i hd;simp only[decide_eq_false_iff_not]at hd;simp only[ae]at h;subst h;exact⟨.int k m,by simp[Builtin.max2,hd],rF _ _⟩
  simp_all
 simp_all
end
abbrev cD:=@Sem.run_pure
abbrev sA:=@Option.map_some
abbrev dn:=@Nat.add_mul
abbrev dr:=@Nat.zero_le
section
variable {P:Program}{g:Gh}{w:World}{t:E_}{O:Nat->Nat}{st st':St}{a:AV}{o:Oper}
def ad1 {ty:TypeId}{sz:Nat}(hty:f7 P ty sz=true){ad:Option Addr}{len cap l h m':Nat}{lo hi mx:Option Value}
  (hb:(Instr.sliceBounds true len cap lo hi mx).run P w=.ok (l,h,m') w) :
  (Instr.sliceAt ty (.slice ad len cap) lo hi mx).run P w=.ok (.slice (if m'=l then ad else ad.map (·.add (l*sz))) (h-l) (m'-l)) w:=by
 obtain⟨e,hu,hs,_⟩:=fH hty;simp only[Instr.sliceAt,aB,aL hu,aS,Instr.slice,hb,dw hs,cD]
theorem RD.slice {w:World}{pm:Nat->Nat->Prop}{xs:F_}{ad:Option Addr}{len cap l h m' sz:Nat}(r:RD w pm (.lst xs) (.slice ad len cap))
  (hk:Kz sz xs=true)(h1:l<=h)(h2:h<=len)(h3:h<=m')(h4:m'<=cap) :
  RD w pm (.lst (sub xs l (h-l))) (.slice (if m'=l then ad else ad.map (·.add (l*sz))) (h-l) (m'-l)):=by
 rcases r.list with ⟨rfl,a,c,e⟩|⟨b,off,m,c,e,hm,hcap,hl,hrc,hp⟩
 .injection e with e1 e2 e3
  have hh:h-l=0:=o_;rw[hh];exact .nil _ _
 .injection e with e1 e2 e3
  subst e1 e2 e3;have hlen:(sub xs l (h-l)).length=h-l:=iZ o_;by_cases hz:h-l=0
  .have:sub xs l (h-l)=[]:=u_;rw[this,hz];exact .nil _ _
  .have hml:m'≠l:=o_;have hsz:sz=m:=by
    cases xs<;>grind [Kz,Nat.beq_eq]
   subst hsz;simp only[sA,jJ];have hsl:=C6 hl l (h-l);have:=gw.rd (w:=w) (pm:=pm) (xs:=sub xs l (h-l)) (b:=b) (off:=off+l*sz) (m:=sz) (cap:=m'-l) hm o_ hsl
    (by simp_all [lJ,gw.sub]) (λj hj=>?_)
   .simp_all
   .rw[hlen]at hj;rw[bF];refine hp _ ?_;have:l*sz+(h-l)*sz<=xs.length*sz:=by rw[<-dn];simp_all [bY]
    omega
def afI {m:Nat}{x:Rd}{lo hi mx:Y_}(s:S P g w st t O)(h:Ha m x lo hi mx st=some (a,st'))(hc:aZ P (.slice m x lo hi mx) o.op=true) :
  dV P g w t O st' a ((execOp (ev t) o).run P w):=by
 obtain⟨dst,op,ty,pos,aft,gd⟩:=o;simp only[aZ]at hc;split at hc
 .rename_i ty' y l' h' k';simp only[af]at hc;obtain⟨⟨⟨⟨h1,h2⟩,h3⟩,h4⟩,h5⟩:=hc;obtain⟨v,e1,r1,k1⟩:=LC h;obtain⟨Ov,O1,rv,s1,l1⟩:=s.rd h2 r1;split at k1
  .rename_i vl e2 r2;obtain⟨O2,q2,s2,l2⟩:=s1.rdOpt h3 r2;split at k1
   .rename_i vh e3 r3;obtain⟨O3,q3,s3,l3⟩:=s2.rdOpt h4 r3;split at k1
    .rename_i vm e4 r4;obtain⟨O4,q4,s4,l4⟩:=s3.rdOpt h5 r4;split at k1
     .rename_i hok;split at k1
      .rename_i r hr;simp only[ae,aJ]at k1;obtain⟨rfl,rfl⟩:=k1;have hle:∀b,Ov b+O4 b<=O b:=λb=>by grind
       unfold Hi at hr;split at hr
       .simp at hr
       .rename_i len hlen;obtain⟨ad,cap,hx⟩:=KE hlen rv;split at hr
        .simp at hr
        .rename_i l hh mm hb;have fin:∀{cap:Nat}{r:AV},ev t y=.slice ad len cap->len<=cap->
           (∀m',l<=hh->hh<=len->hh<=m'->m'<=cap->∃Oa,(∀b,Oa b<=Ov b)∧RV g w r (.slice (if m'=l then ad else ad.map (·.add (l*m))) (hh-l) (m'-l)) Oa)->
           dV P g w t O ⟨e4,st.hs⟩ r ((execOp (ev t) ⟨dst,.slice ty' y l' h' k',ty,pos,aft,gd⟩).run P w):=by
          intro cap r hx hcap hr;obtain⟨m',e1,e2,e3,e4,e5⟩:=Qj (P:=P) (w:=w) (b:=true) q2 q3 q4 hcap hb;obtain⟨Oa,hO,hr⟩:=hr m' e2 e3 e4 e5;refine .pure s (x:=_) ?_ hr s4 λb=>by grind
          simp only[execOp,hx];rw[aB,ad1 h1 e1];rfl
         split at hr
         .rename_i xs;simp only[lenOf,ae]at hlen;subst hlen;split at hr
          .rename_i hk;simp only[ae]at hr;subst hr;simp only[RV]at rv;have hcap:xs.length<=cap:=by
            grind [RD.list]
           refine fin hx hcap λm' g1 g2 g3 g4=>⟨zero,λ_=>dr _,?_⟩
           grind [RV,RD.slice]
          simp_all
         .grind [RV]
         .rename_i k xs;simp only[lenOf,ae]at hlen;subst hlen;split at hr
          .rename_i hkm;rw[aq]at hkm;subst hkm;have rv0:=rv;simp only[RV,zT]at rv;have hshare:RD w g.pm (.lst xs) (ev t y):=by
            have:=RV.share _ _ _ rv0
            grind [share,RV]
           have hk:Kz k xs=true:=by
            cases xs<;>grind [Kz,Nat.beq_eq]
           have hcap:xs.length<=cap:=by
            grind
           split at hr
           .rename_i hhl;rw[aq]at hhl;subst hhl;simp only[ae]at hr;subst hr;refine fin hx hcap λm' g1 g2 g3 g4=>?_
            simp only[RV,zT];by_cases hml:m'=l
            .refine⟨zero,λ_=>dr _,.inl ⟨?_,λ_=>rfl,?_⟩⟩
             all_goals simp_all [sub]
            .rcases rv with ⟨rfl,hz,a,e⟩|⟨b,off,cap',c,el,e,hc1,hm,hl,hbk,hsz,hrc,hpm,hp,rfl⟩
             .grind
             .rw[hx]at e;injection e with e1 e2 e3
              subst e1 e3;have hlen:(sub xs l (xs.length-l)).length=xs.length-l:=iZ o_;refine⟨one b,λ_=>ai _,.inr ⟨b,off+l*k,m'-l,c,el,?_,o_,hm,C6 hl _ _,hbk,?_,?_,?_,λ_ j hj=>?_,rfl⟩⟩
              .grind [jJ]
              .have:l*k+(m'-l)*k<=cap*k:=by rw[<-dn];exact bY _ (by omega)
               omega
              .simp_all [lJ,gw.sub]
              .intro o ho;obtain⟨h1,h2⟩:=hpm o ho;refine⟨h1,?_⟩;have:l*k+(xs.length-l)*k=xs.length*k:=by rw[<-dn];simp_all
               grind
              .rw[hlen]at hj;rw[bF];refine hp (by trivial) _ ?_;have:l*k+(xs.length-l)*k=xs.length*k:=by rw[<-dn];simp_all
               omega
           .simp only[ae]at hr;subst hr;refine fin hx hcap λm' g1 g2 g3 g4=>⟨zero,λ_=>dr _,?_⟩
            simp only[RV];rw[hx]at hshare;exact⟨hshare.slice hk g1 g2 g3 g4,λ_=>trivial⟩
          simp_all
         .rename_i id off len0;simp only[lenOf,ae]at hlen;subst hlen;simp only[ae]at hr;subst hr;simp only[RV]at rv;obtain⟨rv,_⟩:=rv;rcases rv with ⟨rfl,ad',e⟩|⟨b,cap',hob,e,hc1,hsz⟩
          .rw[hx]at e;injection e with e1 e2 e3
           subst e3;refine fin hx (ai _) λm' g1 g2 g3 g4=>⟨zero,λ_=>dr _,?_⟩
           simp only[RV];have h0:hh-l=0:=o_;have h1:m'-l=0:=o_;rw[h0,h1];exact⟨.inl ⟨rfl,_,rfl⟩,λ_=>trivial⟩
          .rw[hx]at e;injection e with e1 e2 e3
           subst e1 e3;have hesz:g.esz id=m:=by
            simp only[okSl]at hok;obtain⟨Oe,Oh,re,rh,ho⟩:=s.parts;split at hok
            .rename_i k xs hg;rw[aq]at hok;subst hok;obtain⟨O1,q,_⟩:=RL.get rh hg;simp only[iF]at q;rcases q with ⟨_,_,h,_⟩|⟨_,_,_,_,h,_⟩
             .exact h
             .exact h
            .rename_i cs hg;rw[aq]at hok;subst hok;obtain⟨O1,q,_⟩:=RL.get rh hg;obtain⟨_,_,_,_,_,_,h,_⟩:=q;exact h
            .simp at hok
           refine fin hx hc1 λm' g1 g2 g3 g4=>⟨zero,λ_=>dr _,?_⟩
           simp only[RV];refine⟨?_,λ_=>trivial⟩;by_cases hml:m'=l
           .have h0:hh-l=0:=o_;have h1:m'-l=0:=o_;rw[h0,h1];exact .inl ⟨rfl,_,rfl⟩
           .refine .inr ⟨b,m'-l,hob,?_,o_,?_⟩
            .rw[aa hml];simp only[sA,jJ];rw[dn,hesz,bF]
            .have:(off+l+(m'-l))*g.esz id<=(off+cap)*g.esz id:=bY _ o_;omega
         simp_all
      simp_all
     simp_all
    simp_all
   simp_all
  simp_all
 simp_all
def W4 {b:Bool}:∀{vs:D_}{xs:M_}{Ovs:Nat->Nat}{v r:AV}{x:Value}{Ov:Nat->Nat},RV g w v x Ov->RVs g w vs xs Ovs->Bh b v vs=some r->
  (vs=[]->∃k n,v=.d (.int k n))->
  ∃z,(xs.foldlM (match b with|true=>Builtin.max2|false=>Builtin.min2) x).run P w=.ok z w∧RV g w r z zero
 |[],xs,_,v,r,x,Ov,rv,rvs,h,hi=>by
  simp only[RVs]at rvs;simp only[Bh,ae]at h;subst h;obtain⟨k,n,rfl⟩:=hi rfl;have hx:=wp rv rfl
  simp_all [rF]
 |u::us,xs,_,v,r,x,Ov,rv,rvs,h,hi=>by
  obtain⟨y,s,O1,O2,rfl,r1,r2,_⟩:=rvs;simp only[Bh]at h;split at h
  .rename_i v2 hv;obtain⟨z,hz,rz⟩:=act (P:=P) rv r1 hv;have hint:∃k n,v2=.d (.int k n):=by
    unfold Dw at hv
    grind
   obtain⟨z2,hz2,rz2⟩:=W4 (b:=b) rz r2 h (λ_=>hint);refine⟨z2,?_,rz2⟩
   cases b
   all_goals simp_all
  simp_all
def aed {b:Bool}{xs:S_}(s:S P g w st t O)(h:w8 b xs st=some (a,st'))(hc:aZ P (.minmax b xs) o.op=true) :
  dV P g w t O st' a ((execOp (ev t) o).run P w):=by
 simp only[aZ]at hc;split at hc
 .simp only[af]at hc;obtain⟨h1,h4⟩:=hc;have:=nG h1;unfold w8 at h;split at h
  .rename_i kk nn vs e hr;obtain⟨Ov,O',rvs,s',l⟩:=s.rdAll h4 hr;split at h
   .rename_i r hf;obtain⟨rfl,rfl⟩:=h;obtain⟨x,ys,O1,O2,he,r1,r2,_⟩:=rvs;obtain⟨z,hz,rz⟩:=W4 (P:=P) (b:=b) r1 r2 hf λ_=>⟨_,_,rfl⟩
    refine .flat s (x:=z) ?_ rz s' (S.le_left l)
    cases b
    all_goals simp_all [Builtin.min_,execOp,resolve,invoke,builtin,Builtin.max_]
   simp_all
  simp_all
 simp_all
end
abbrev rB:=@Array.getElem?_eq_none
def Gh.add (g:Gh)(id b base esz bsz:Nat):Gh where
 obj i:=if i=id then some b else g.obj i
 base i:=if i=id then base else g.base i
 esz i:=if i=id then esz else g.esz i
 bsz i:=if i=id then bsz else g.bsz i
 pm:=g.pm
section
variable {P:Program}{g:Gh}{w:World}{t:E_}{O:Nat->Nat}{st st':St}{a:AV}{o:Oper}
theorem pg {w:World}{o:Go.Obj}{b:Nat}(h:b<w.heap.size):(w.alloc o).heap[b]?=w.heap[b]?:=by
 show(w.heap.push o)[b]?=_
 grind
theorem im (w:World)(o:Go.Obj):(w.alloc o).heap[w.heap.size]?=some o:=by
 show(w.heap.push o)[w.heap.size]?=_
 simp_all
def bg.alloc (hp:∀b o,g.pm b o->b<w.heap.size)(o:Go.Obj)(T:Nat->Prop)(hc:∀off,fc o off=false:=by intro off;simp[fc]):bg g w g (w.alloc o) T where
 obj _ _ h:=⟨h,rfl,rfl,rfl⟩
 pm b o h:=⟨h,oY (pg (hp b o h)) o⟩
 blk b hb _:=⟨pg hb,λ_ h=>h⟩
 size:=s_
 lp b rc h:=⟨rc,by grind [pg]⟩
 same:=⟨rfl,rfl,λa=>by
  by_cases h:a.block<w.heap.size
  .grind [World.frozen?,pg]
  .have h2:w.heap[a.block]?=none:=rB o_;by_cases e:a.block=w.heap.size
   .have:=hc a.off;simp only[World.frozen?,e,im];rw[<-e,h2]
    cases o<;>first|rfl|exact this
   .have h3:(w.alloc o).heap[a.block]?=none:=rB (by simp;omega)
    grind [World.frozen?]⟩
theorem bg.add {w':World}{T:Nat->Prop}(h:bg g w g w' T){id:Nat}(hn:g.obj id=none)(b base esz bsz:Nat):bg g w (g.add id b base esz bsz) w' T where
 obj i c hc:=by
  grind [Gh.add]
 pm b o hp:=h.pm b o hp
 blk:=h.blk
 size:=h.size
 lp:=h.lp
 same:=h.same
def ja.ext {g':Gh}{w':World}{T:Nat->Prop}(h:bg g w g' w' T){e:aK}(r:ja g w e t O)(hO:∀b,O b≠0->¬T b):ja g' w' e t O :=
 r.imp' λ_ v O1 _ hle q=>⟨q.1,RV.ext h v _ O1 q.2 λb hb=>hO b d_⟩
def iF.ext0 {g':Gh}{w':World}{T:Nat->Prop}(h:bg g w g' w' T){id:Nat}{o:Obj}(r:iF P g w id o O)(hO:∀b,O b≠0->¬T b):iF P g' w' id o O:=by
 cases o with
 |cells cs =>
  obtain⟨b,c,el,O1,h1,h2,h3,h4,h5,h6,h7,h8⟩:=r;obtain⟨a1,a2,a3,a4⟩:=h.obj id b h1;have hb:¬T b:=hO b u_;obtain⟨e1,e2⟩:=h.blk b (gY h5) hb;exact⟨b,c,el,O1,a1,a2.trans h2,a3.trans h3,a4.trans h4,e1.trans h5,RVs.ext h _ _ _ h6 (λx hx=>hO x u_),λo ho=>h7 o (e2 o ho),h8⟩
 |arr m xs =>
  simp only[iF]at r⊢;rcases r with ⟨h1,h2,h3,h4,⟨b,h5⟩,h6⟩|⟨b,c,el,h1,h2,h3,h4,h5,h6,h7,h8,h9,h10⟩
  .obtain⟨a1,a2,a3,a4⟩:=h.obj id b h5
   simp_all
  .obtain⟨a1,a2,a3,a4⟩:=h.obj id b h1;have hb:¬T b:=hO b u_;obtain⟨e1,e2⟩:=h.blk b (gY h4) hb
   grind [gw.ext]
 |loop snap params assign body busy pend =>
  obtain⟨b,rc,h1,h2,h3,h4,h5,h6,h7,h8,h9,h10,h12⟩:=r;obtain⟨a1,_⟩:=h.obj id b h1;have hb:¬T b:=hO b u_;obtain⟨e1,e2⟩:=h.blk b (gY h2) hb;exact⟨b,rc,a1,e1.trans h2,h3,h4,h5,h6,h7,h8,ja.ext h h9 s_,h10,h12⟩
def iF.ext {g':Gh}{w':World}{T:Nat->Prop}(h:bg g w g' w' T){id:Nat}{o:Obj}(r:iF P g w id o O)(hO:∀b,O b≠0->¬T b)
  (_:∀b ds,w.heap[b]?=some (.deferred ds)->¬T b):iF P g' w' id o O:=r.ext0 h hO
def S.new {st:St}(s:S P g w st t O){blk:Go.Obj}{o:Obj}{base esz bsz:Nat}{O1:Nat->Nat}
  (r:iF P (g.add st.hs.next w.heap.size base esz bsz) (w.alloc blk) st.hs.next o O1)(hle:∀b,O1 b+O b<=1)(hhi:∀b,O1 b≠0->b<w.heap.size+1)
  (hc:∀off,fc blk off=false:=by intro off;simp[fc]) :
  S P (g.add st.hs.next w.heap.size base esz bsz) (w.alloc blk) ⟨st.env,(D2 st.hs o).2⟩ t (λb=>O1 b+O b)∧
   bg g w (g.add st.hs.next w.heap.size base esz bsz) (w.alloc blk) (λb=>O b≠0):=by
 have hn:=s.fresh st.hs.next (ai _)
 have hx:bg g w (g.add st.hs.next w.heap.size base esz bsz) (w.alloc blk) (λ_=>False):=(bg.alloc s.pmlt blk _ hc).add hn _ _ _ _;obtain⟨Oe,Oh,re,rh,ho⟩:=s.parts;have re':=ja.ext hx re s_;have rh':yk P (g.add st.hs.next w.heap.size base esz bsz) (w.alloc blk) st.hs.heap Oh:=rh.imp' λk v O1 _ _ q=>q.ext hx s_ (by simp)
 have hk:∀p∈st.hs.heap,p.1≠st.hs.next:=by
  intro p hp e;have:∃b,g.obj p.1=some b:=by
   clear re re' rh' hx r hle hhi ho;generalize st.hs.heap=l at rh hp
   induction l generalizing Oh with
   |nil=>simp at hp
   |cons q l ih =>
    obtain⟨k,v⟩:=q;obtain⟨Q1,Q2,q1,q2,_⟩:=rh;rcases aQ.1 hp with rfl|hp
    .cases v<;>grind [iF]
    simp_all
  simp_all
 rw[<-oS hk]at rh';obtain⟨O3,r3,h3⟩:=RL.put s.sh rh' r;refine⟨⟨s.se,s.sh.put _ _,⟨Oe,O3,re',r3,λb=>?_⟩,hle,λb hb=>?_,λi hi=>?_,λb o hp=>?_⟩,hx.mono (λ_ _ h=>h.elim)⟩
 .grind
 .simp only[World.size_alloc];by_cases h1:O1 b=0
  .have:=s.hi b o_;omega
  simp_all
 .have hi':st.hs.next+1<=i:=hi
  grind [Gh.add,fresh]
 .simp only[World.size_alloc];have:=s.pmlt b o hp;omega
def afD {zs:D_}(s:S P g w st t O)(h:GI zs st=some (a,st'))(hc:aZ P (.alloc zs) o.op=true) :
  dV P g w t O st' a ((execOp (ev t) o).run P w):=by
 obtain⟨dst,op,ty,pos,aft,gd⟩:=o;simp only[aZ]at hc;split at hc
 .rename_i e;split at hc
  .split at hc
   .rename_i z hz;obtain⟨rfl,rfl⟩:=h;have hO:O w.heap.size=0:=by
     have:=s.hi w.heap.size;omega
    have r:iF P (g.add st.hs.next w.heap.size 0 1 zs.length) (w.alloc (.cells z.cells e)) st.hs.next (.cells zs) (λx=>zero x+one w.heap.size x):=by
     refine⟨w.heap.size,z.cells,e,zero,by simp[Gh.add],by simp[Gh.add],by simp[Gh.add],by simp[Gh.add],im _ _,RVs.consts hc,λo ho=>?_,λ_=>rfl⟩;have:=s.pmlt _ o ho;omega
    obtain⟨s',hx⟩:=s.new r (λb=>by
     by_cases hb:b=w.heap.size
     .simp_all
     .have:=s.le b;grind [one]) (λb hb=>by
     grind [tx])
    refine⟨.pointer (some ⟨w.heap.size,0,none⟩),_,_,zero,_,.inl ?_,?_,s',hx,λb=>by have:=s'.le b;simp_all,λb hb=>?_,s_⟩
    .simp_all [execOp,Instr.alloc,zeroValue,typeInfo,newVar,newRow]
    .simp_all [RV,Gh.add]
    grind [one]
   simp_all
  simp_all
 simp_all
end
section
variable {P:Program}{g:Gh}{w:World}{t:E_}{O:Nat->Nat}{st st':St}{a:AV}{o:Oper}
theorem VX {v:AV}{x:Value}{Ov:Nat->Nat}(h:b9 v=true)(r:RV g w v x Ov):x.oneCell'=true:=by
 cases v with
 |junk=>simp[b9]at h
 |agg cs=>simp[b9]at h
 |tup cs=>simp[b9]at h
 |gl n=>obtain⟨⟨_,_,rfl⟩,_⟩:=r;rfl
 |d c=>obtain⟨r,_⟩:=r;cases r<;>rfl
 |nl=>rw[r.1];rfl
 |own p m xs=>rcases r with ⟨_,_,_,rfl⟩|⟨_,_,_,_,_,rfl,_⟩<;>rfl
 |nilp=>rw[r.1];rfl
 |ptr id off=>obtain⟨⟨_,_,rfl⟩,_⟩:=r;rfl
 |pel id i off=>obtain⟨⟨_,_,rfl⟩,_⟩:=r;rfl
 |pim cs off=>obtain⟨⟨_,_,rfl,_⟩,_⟩:=r;rfl
 |sl id off len=>rcases r with ⟨⟨_,_,rfl⟩|⟨_,_,_,rfl,_⟩,_⟩<;>rfl
 |fn f a c=>obtain⟨⟨_,_,rfl,_⟩,_⟩:=r;rfl
 |nilf=>rw[r.1];rfl
 |yield l=>obtain⟨⟨_,_,rfl⟩,_⟩:=r;rfl
def X8 {x:Value}(h:x.oneCell'=true):x.cells=#[x]:=by cases x<;>first|rfl|grind [Value.oneCell']
theorem RV.cells {v:AV}{x:Value}{Ov:Nat->Nat}(h:v.cells.all b9=true)(r:RV g w v x Ov):RVs g w v.cells x.cells.toList Ov:=by
 have one:b9 v=true->v.cells=[v]->RVs g w v.cells x.cells.toList Ov:=by
  intro h1 h2;rw[h2,X8 (VX h1 r)];exact⟨x,[],Ov,zero,rfl,r,⟨rfl,λ_=>rfl⟩,λ_=>rfl⟩
 cases v with
 |agg cs =>
  obtain⟨xs,rfl,r⟩:=r;exact r
 |_=>grind [AV.cells]
theorem RVs.one {vs:D_}{xs:M_}{Ov:Nat->Nat}(h:vs.all b9=true)(r:RVs g w vs xs Ov):∀x∈xs,x.oneCell'=true:=by
 induction vs generalizing xs Ov<;>grind [RVs,VX]
def amA {x:Rd}(s:S P g w st t O)(h:L9 x st=some (a,st'))(hc:aZ P (.box x) o.op=true) :
  dV P g w t O st' a ((execOp (ev t) o).run P w):=by
 obtain⟨dst,op,ty,pos,aft,gd⟩:=o;simp only[aZ]at hc;split at hc
 .rename_i e y;obtain⟨v,e1,r1,k1⟩:=LC h;obtain⟨Ov,O1,rv,s1,l1⟩:=s.rd hc r1;split at k1
  .rename_i hall;obtain⟨rfl,rfl⟩:=k1;have rvs:=rv.cells hall;have hn:=s1.fresh st.hs.next (ai _)
   have hO:∀b,w.heap.size<=b->O b=0:=by
    intro b hb;by_cases h:O b=0
    .exact h
    .have:=s.hi b h;omega
   have hx0:bg g w (g.add st.hs.next w.heap.size 0 1 v.cells.length) (w.alloc (.cells (ev t y).cells e)) (λ_=>False):=(bg.alloc s.pmlt _ _).add hn _ _ _ _;have r:iF P (g.add st.hs.next w.heap.size 0 1 v.cells.length) (w.alloc (.cells (ev t y).cells e)) st.hs.next (.cells v.cells) (λx=>Ov x+one w.heap.size x):=by
    refine⟨w.heap.size,(ev t y).cells,e,Ov,by simp[Gh.add],by simp[Gh.add],by simp[Gh.add],by simp[Gh.add],im _ _,RVs.ext hx0 _ _ _ rvs s_,λo ho=>?_,λ_=>rfl⟩;have:=s.pmlt _ o ho;omega
   have key:∀b,Ov b+one w.heap.size b+O1 b<=1:=by
    intro b;by_cases hb:b=w.heap.size
    .have:=l1 w.heap.size;simp_all
    .have:=s.le b;grind [one]
   obtain⟨s',hx⟩:=s1.new r (λb=>key b) (λb hb=>by
    grind [tx])
   refine⟨.pointer (some ⟨w.heap.size,0,none⟩),_,_,zero,_,.inl ?_,?_,s',hx.mono λb _ hb=>by grind,λb=>by simp_all,λb hb=>?_,s_⟩
   .simp_all [execOp,Instr.box,newVar,newRow]
   .simp_all [RV,Gh.add]
   grind [one]
  simp_all
 simp_all
def EG {ty:TypeId}(h:EU P ty=true){ad:Addr}{x:Value}(hx:w.cell? ad=some x):(loadVar ty ad).run P w=.ok x w:=by
 simp_all [loadVar,zn]
end
abbrev aU:=@Nat.ble_eq
abbrev cQ:=@Nat.zero_add
abbrev aw:=@List.append_assoc
abbrev bM:=@List.take_append_drop
section
variable {P:Program}{g:Gh}{w:World}{t:E_}{O:Nat->Nat}{st st':St}{a:AV}{o:Oper}
theorem fp {b:Nat}{c:E_}{el:TypeId}{fz:Nat×Nat}(h:w.heap[b]?=some (.cells c el fz))(off:Nat):w.cell? ⟨b,off,none⟩=c[off]?:=by
 simp[World.cell?,h]
theorem RVs.replace {cs:D_}{xs:M_}{Ov:Nat->Nat}(r:RVs g w cs xs Ov){i:Nat}{v:AV}(h:cs[i]?=some v) :
  ∃x O1,xs[i]?=some x∧RV g w v x O1∧(∀b,O1 b<=Ov b)∧∀v2 O2,RV g w v2 x O2->∃O',RVs g w (cs.set i v2) xs O'∧∀b,O' b+O1 b=Ov b+O2 b:=by
 induction cs generalizing xs Ov i with
 |nil=>simp at h
 |cons c cs ih =>
  obtain⟨x,s,O1,O2,rfl,r1,r2,hs⟩:=r
  cases i with
  |zero =>
   simp at h;subst h;refine⟨x,O1,rfl,r1,λb=>by simp_all,λv2 P2 rv2=>⟨λb=>P2 b+O2 b,?_,λb=>by grind⟩⟩
   grind [RVs]
  |succ i =>
   obtain⟨y,P1,h1,h2,h3,h4⟩:=ih r2 h;refine⟨y,P1,u_,h2,λb=>by grind,λv2 P2 rv2=>?_⟩;obtain⟨O',r',h'⟩:=h4 v2 P2 rv2;refine⟨λb=>O1 b+O' b,?_,λb=>by grind⟩
   grind [RVs]
def Tx (n:Nat){v:AV}{x:Value}{Ov:Nat->Nat}(r:RV g w v x Ov) :
  ∃O1 O2,RV g w (oy n v).1 x O1∧RV g w (oy n v).2 x O2∧∀b,O1 b+O2 b=Ov b:=by
 have share:=RV.share _ _ _ r;unfold oy;split
 .exact⟨Ov,zero,r,by simp[RV],λ_=>rfl⟩
 .grind
 .refine⟨Ov,zero,r,?_,λ_=>rfl⟩
  grind [RV,zT]
 grind
def LS (n:Nat):∀{vs:D_}{xs:M_}{Ov:Nat->Nat},RVs g w vs xs Ov->
  ∃O1 O2,RVs g w (eh n vs).1 xs O1∧RVs g w (eh n vs).2 xs O2∧∀b,O1 b+O2 b=Ov b
 |[],xs,Ov,r=>by grind [RVs,eh]
 |v::vs,xs,Ov,r=>by
  obtain⟨x,s,O1,O2,rfl,r1,r2,hs⟩:=r;obtain⟨A1,A2,a1,a2,ha⟩:=Tx n r1;obtain⟨B1,B2,b1,b2,hb⟩:=LS n r2;refine⟨λb=>A1 b+B1 b,λb=>A2 b+B2 b,?_,?_,λb=>by grind⟩
  all_goals grind [RVs,eh]
theorem S.upd {st:St}(s:S P g w st t O){id:Nat}{ob:Obj}(hg:get st.hs.heap id=some ob) :
  ∃O1 Oz:Nat->Nat,iF P g w id ob O1∧(∀b,O1 b+Oz b<=O b)∧∀(ob':Obj) (O1':Nat->Nat),iF P g w id ob' O1'->(∀b,O1' b<=O1 b)->
   S P g w ⟨st.env,⟨put st.hs.heap id ob',st.hs.next⟩⟩ t (λb=>O1' b+Oz b):=by
 obtain⟨Oe,Oh,re,rh,ho⟩:=s.parts;obtain⟨O1,O2,q,r2,hs⟩:=RL.take rh hg;refine⟨O1,λb=>Oe b+O2 b,q,λb=>by grind,λob' O1' q' hle=>?_⟩;obtain⟨O3,r3,h3⟩:=RL.put s.sh r2 q';have hall:∀b,O1' b+(Oe b+O2 b)<=O b:=λb=>by grind
 exact⟨s.se,s.sh.put _ _,⟨Oe,O3,re,r3,λb=>by grind⟩,
  λb=>aC (hall b) (s.le b),λb hb=>s.hi b d_,s.fresh,s.pmlt⟩
def gw.vals {pm:Nat->Nat->Prop}{cs:U_}{b off:Nat}(r:gw w pm cs b off) :
  ∃xs:M_,xs.length=cs.length∧(∀(j:Nat) (x:Value),xs[j]?=some x->w.cell? ⟨b,off+j,none⟩=some x)∧∀(j:Nat) (c:D) (x:Value),cs[j]?=some c->xs[j]?=some x->RD w pm c x:=by
 induction cs generalizing off with
 |nil=>simp_all
 |cons c cs ih =>
  obtain⟨u,hu,hr⟩:=r 0 c rfl;have r':gw w pm cs b (off+1):=by
   intro j d hj;obtain⟨v,hv,hr⟩:=r (j+1) d (by simp_all)
   grind
  obtain⟨xs,h1,h2,h3⟩:=ih r';refine⟨u::xs,by simp[h1],λj x hj=>?_,λj d x hd hx=>?_⟩
  all_goals grind
def RVs.ds {pm:Nat->Nat->Prop}(hp:g.pm=pm):∀{cs:U_}{xs:M_},xs.length=cs.length->(∀(j:Nat) (c:D) (x:Value),cs[j]?=some c->xs[j]?=some x->RD w pm c x)->
  RVs g w (cs.map .d) xs zero
 |[],[],_,_=>by simp[RVs]
 |c::cs,x::xs,h,hr=>by
  exact⟨x,xs,zero,zero,rfl,by simp only[RV];exact⟨by rw[hp];exact hr 0 c x rfl rfl,λ_=>trivial⟩,
   RVs.ds hp u_ (λj d y h1 h2=>hr (j+1) d y u_ u_),λ_=>rfl⟩
 |[],_::_,h,_=>by simp at h
 |_::_,[],h,_=>by simp at h
def Ry {ty:TypeId}{n:H_}(ht:nt P ty n=true){cs:U_}{b off k:Nat}(r:gw w g.pm cs b off){v:AV}(h:mi n cs k=some v) :
  ∃x,(loadVar ty ⟨b,off+k,none⟩).run P w=.ok x w∧RV g w v x zero:=by
 cases n with
 |none =>
  simp only[mi]at h;split at h
  .rename_i c hc;simp only[ae]at h;subst h;obtain⟨u,hu,hr⟩:=r k c hc
   simp_all [EG,nt,RV]
  simp_all
 |some n =>
  simp only[nt,af]at ht;simp only[mi]at h;split at h
  .rename_i hb;rw[aU]at hb;simp only[ae]at h;subst h;obtain⟨xs,h1,h2,h3⟩:=(r.sub k n).vals;have hlen:(Vm.sub cs k n).length=n:=iZ hb;refine⟨.agg xs.toArray,?_,?_⟩
   .have hl:=run_loadCells_list (P:=P) (w:=w) ⟨b,off+k,none⟩ xs (λj v hj=>by grind [jJ]);rw[h1,hlen]at hl;simp only[loadVar,aB,ut ht.1,aS,bK,dw ht.2,hl,cD]
   .exact⟨xs.toArray,rfl,by simpa using RVs.ds rfl h1 h3⟩
  simp_all
def Yo {cs:D_}{off n:Nat}(h:off+n<=cs.length):cs=cs.take off++(Vm.sub cs off n++cs.drop (off+n)):=by
 grind [sub,List.drop_drop,List.take_append_drop]
def QB {ty:TypeId}{n:H_}{take:Nat}(ht:nt P ty n=true){st:St}(s:S P g w st t O){id off:Nat}{b:Nat}(hob:g.obj id=some b)
  {v:AV}{h':ak}(h:loadAt st.hs.heap n take (.ptr id off)=some (v,h')) :
  ∃x O1 O2,(loadVar ty ⟨b,g.base id+off,none⟩).run P w=.ok x w∧RV g w v x O1∧S P g w ⟨st.env,⟨h',st.hs.next⟩⟩ t O2∧∀c,O1 c+O2 c<=O c:=by
 simp only[loadAt]at h;split at h
 .rename_i cs hg;obtain⟨O1,Oz,q,hsum,hput⟩:=s.upd hg;have q0:=q;simp only[iF]at q;obtain⟨b',c,el,Oc,h1,h2,h3,h4,h5,h6,h7,h8⟩:=q;rw[hob]at h1;simp only[ae]at h1;subst h1;rw[h2,cQ];have hsz:c.size=cs.length:=by rw[<-h6.length];simp
  split at h
  .
   split at h
   .simp at h
   .rename_i u hu;obtain⟨x,P1,hx,ru,hle,hrep⟩:=h6.replace hu;have hcell:w.cell? ⟨b,off,none⟩=some x:=by grind [fp]
    have hrun:=EG (P:=P) (by simpa only[nt] using ht) hcell;split at h
    .simp only[ae,aJ]at h;obtain⟨rfl,rfl⟩:=h;exact⟨x,zero,O,hrun,RV.share _ _ _ ru,s,λc=>by simp⟩
    .rename_i _;simp only[ae,aJ]at h;obtain⟨rfl,rfl⟩:=h;obtain⟨A1,A2,a1,a2,ha⟩:=Tx take ru;obtain⟨O',r',h'⟩:=hrep _ A2 a2;have hle2:∀x,O' x+one b x<=O1 x:=λx=>by grind
     refine⟨x,A1,_,hrun,a1,hput (.cells (cs.set off (oy take u).2)) (λx=>O' x+one b x) ?_ hle2,λc=>?_⟩
     all_goals grind [iF]
  .
   rename_i n;simp only[nt,af]at ht;split at h
   .rename_i hb;rw[aU]at hb;have hcs:=Yo hb;have r6:=h6;rw[hcs]at r6;obtain⟨B1,B2,rb1,rb2,hb12⟩:=r6.split;obtain⟨B3,B4,rb3,rb4,hb34⟩:=rb2.split;have htl:(cs.take off).length=off:=by simp;omega
    have hsl:(Vm.sub cs off n).length=n:=iZ hb;rw[htl]at rb1 rb3 rb4;rw[hsl]at rb3 rb4;have hlist:∀(j:Nat) (v:Value),((c.toList.drop off).take n)[j]?=some v->w.cell? ((⟨b,off,none⟩:Addr).add j)=some v:=by
     grind [jJ,fp]
    have hlen:((c.toList.drop off).take n).length=n:=d_;have hl:=run_loadCells_list (P:=P) (w:=w) ⟨b,off,none⟩ ((c.toList.drop off).take n) hlist;rw[hlen]at hl;have hrun:(loadVar ty ⟨b,off,none⟩).run P w=.ok (.agg ((c.toList.drop off).take n).toArray) w:=by
     simp only[loadVar,aB,ut ht.1,aS,bK,dw ht.2,hl,cD]
    split at h
    .simp only[ae,aJ]at h;obtain⟨rfl,rfl⟩:=h;refine⟨_,zero,O,hrun,?_,s,λc=>by simp⟩
     grind [RV,RVs.share]
    .rename_i _;simp only[ae,aJ]at h;obtain⟨rfl,rfl⟩:=h;obtain⟨A1,A2,a1,a2,ha⟩:=LS take rb3;have hjoin:=rb1.join (a2.join rb4);have e1:cs.take off++((eh take (Vm.sub cs off n)).2++cs.drop (off+n))=ar cs off (eh take (Vm.sub cs off n)).2:=by
      have:(eh take (Vm.sub cs off n)).2.length=n:=by
       rw[<-a2.length,hlen]
      unfold ar;rw[this,aw]
     have e2:c.toList.take off++((c.toList.drop off).take n++(c.toList.drop off).drop n)=c.toList:=by
      rw[bM,bM]
     rw[e1,e2]at hjoin;have hle2:∀x,(B1 x+(A2 x+B4 x))+one b x<=O1 x:=λx=>by have:=ha x;have:=h8 x;have:=hb12 x;have:=hb34 x;omega
     refine⟨_,A1,_,hrun,?_,hput (.cells (ar cs off (eh take (Vm.sub cs off n)).2)) (λx=>(B1 x+(A2 x+B4 x))+one b x) ?_ hle2,λx=>?_⟩
     .exact⟨_,rfl,by simpa using a1⟩
     .refine⟨b,c,el,_,hob,h2,h3,?_,h5,hjoin,h7,λ_=>rfl⟩;rw[h4,<-hsz,<-hjoin.length];simp
     .have:=ha x;have:=h8 x;have:=hb12 x;have:=hb34 x;have:=hsum x;omega
   simp_all
 simp_all
def anV {n:H_}{take:Nat}{p:Rd}(s:S P g w st t O)(h:An n take p st=some (a,st'))(hc:aZ P (.ld n take p) o.op=true) :
  dV P g w t O st' a ((execOp (ev t) o).run P w):=by
 obtain⟨dst,op,ty,pos,aft,gd⟩:=o;simp only[aZ]at hc;split at hc
 .rename_i ty' y;simp only[af]at hc;obtain⟨h1,h2⟩:=hc;obtain⟨v,e1,r1,k1⟩:=LC h;obtain⟨Ov,O1,rv,s1,l1⟩:=s.rd h2 r1;split at k1
  .rename_i r h' hl;simp only[ae,aJ]at k1;obtain⟨rfl,rfl⟩:=k1;have fin:∀{ad:Addr}{x:Value},ev t y=.pointer (some ad)->(loadVar ty' ad).run P w=.ok x w->
     (execOp (ev t) ⟨dst,.load ty' y,ty,pos,aft,gd⟩).run P w=.ok (.value x) w:=by
    simp_all [execOp,Instr.loadAt,Instr.sureAddr]
   cases v with
   |ptr id off =>
    simp only[RV]at rv;obtain⟨⟨b,hob,he⟩,_⟩:=rv;obtain⟨x,A1,A2,hrun,ra,sa,la⟩:=QB h1 s1 hob hl
    grind [dV.pure]
   |pel id i off =>
    simp only[RV]at rv;obtain⟨⟨b,hob,he⟩,_⟩:=rv;simp only[loadAt]at hl;split at hl
    .rename_i m xs hg;split at hl
     .rename_i e hx;split at hl
      .rename_i u hu;obtain⟨rfl,rfl⟩:=hl;obtain⟨Oe,Oh,re,rh,ho⟩:=s1.parts;obtain⟨Q,q,_⟩:=RL.get rh hg;rcases q with ⟨rfl,_⟩|⟨b',c,el,g1,g2,g3,g4,g5,g6,g7,g8,g9,g10⟩
       .simp at hx
       .have hrc:=g8.elem g7 hx;obtain⟨x,hrun,rx⟩:=Ry (P:=P) h1 hrc hu;refine .flat s (fin he (x:=x) ?_) rx s1 (S.le_left l1)
        grind
      simp_all
     simp_all
    simp_all
   |pim cs off =>
    obtain⟨⟨b,k,he,hrc,_⟩,_⟩:=rv;simp only[loadAt]at hl;split at hl
    .rename_i u hu;obtain⟨rfl,rfl⟩:=hl;obtain⟨x,hrun,rx⟩:=Ry (P:=P) h1 hrc hu;exact .flat s (fin he hrun) rx s1 (S.le_left l1)
    simp_all
   |_=>simp[loadAt]at hl
  simp_all
 simp_all
end
abbrev aH:=@Nat.lt_of_lt_of_le
abbrev tT:=@Nat.mul_le_mul
abbrev ax:=@Int.toNat_natCast
abbrev fM:=@TypeDesc.slice.injEq
section
variable {P:Program}{g:Gh}{w:World}{t:E_}{O:Nat->Nat}{st st':St}{a:AV}{o:Oper}
theorem S.grow {st:St}(s:S P g w st t O){w':World}(h:bg g w g w' λ_=>False):S P g w' st t O:=by
 obtain⟨Oe,Oh,re,rh,ho⟩:=s.parts;exact⟨s.se,s.sh,⟨Oe,Oh,ja.ext h re s_,rh.imp' λk v O1 _ _ q=>q.ext h s_ s_,ho⟩,s.le,
  λb hb=>aH (s.hi b hb) h.size,s.fresh,λb o hp=>aH (s.pmlt b o hp) h.size⟩
theorem S.out {st:St}(s:S P g w st t O){b:Nat}(h:w.heap.size<=b):O b=0:=by
 by_cases h':O b=0
 .exact h'
 .have:=s.hi b h';omega
def bg.drew (g:Gh)(w:World)(T:Nat->Prop):bg g w g w.drew T:=⟨λ_ _ h=>⟨h,rfl,rfl,rfl⟩,λ_ _ h=>⟨h,rfl⟩,λ_ _ _=>⟨rfl,λ_ h=>h⟩,ai _,λ_ rc h=>⟨rc,h⟩,rfl,rfl,λ_=>rfl⟩
def dV.list {res:Result Next}{m cap:Nat}{xs:F_}{c:E_}{el:TypeId}{w1:World}{O':Nat->Nat}(s0:S P g w st t O)
  (s:S P g w st' t O')(hle:∀b,O' b<=O b)(hx1:bg g w g w1 λ_=>False)(hsz1:w1.heap.size=w.heap.size)
  (h:res=.ok (.value (.slice (some ⟨w.heap.size,0,none⟩) xs.length cap)) (w1.alloc (.cells c el)))
  (hm:0<m)(hl:∀e∈xs,e.length=m)(hcap:xs.length<=cap)(hsz:cap*m<=c.size)(hc:∀(j:Nat) (d:D),xs.flatten[j]?=some d->∃u,c[j]?=some u∧RD w g.pm d u) :
  dV P g w t O st' (.own true m xs) res:=by
 have hp1:∀b o,g.pm b o->b<w1.heap.size:=λb o hp=>by rw[hsz1];exact s0.pmlt b o hp
 have hx:bg g w g (w1.alloc (.cells c el)) λ_=>False:=hx1.trans (bg.alloc hp1 _ _) λ_ _ h=>h
 have hO:O w.heap.size=0:=s0.out (ai _);refine⟨_,w1.alloc (.cells c el),g,one w.heap.size,O',.inl h,?_,s.grow hx,hx.mono (λ_ _ h=>h.elim),λb=>?_,λb hb=>?_,λb hb=>?_⟩
 .refine .inr ⟨w.heap.size,0,cap,c,el,rfl,hcap,hm,hl,?_,o_,λj d hj=>?_,λo ho=>?_,λh=>by simp at h,rfl⟩
  all_goals grind [im,RD.ext,fp]
 .by_cases hb:b=w.heap.size
  .have:=hle w.heap.size;simp_all
  .have:=s0.le b;grind [one]
 .grind [one]
 .have:=tx hb;simp_all
def OF {zs:U_}{vs:M_}(h:Lq zs vs=true):zs.length=vs.length∧∀(j:Nat) (d:D),zs[j]?=some d->∃u,vs[j]?=some u∧RD w g.pm d u:=by
 induction zs generalizing vs with
 |nil=>grind [Lq]
 |cons z zs ih =>
  cases vs with
  |nil=>simp[Lq]at h
  |cons v vs =>
   simp only[Lq,af]at h;obtain⟨h1,h2⟩:=ih h.2;refine⟨by simp[h1],λj d hj=>?_⟩
   cases j with
   |zero=>simp_all [RD.const]
   |succ j=>simp_all
def NP {z:U_}{n j:Nat}{d:D}(h:(List.replicate n z).flatten[j]?=some d):z[j % z.length]?=some d∧j<n*z.length:=by
 induction n generalizing j<;>grind [Nat.mod_eq_of_lt,List.getElem?_append_right,Nat.mod_eq_sub_mod]
def AB {ty:TypeId}{z:U_}(h:yq P ty z=true):∃e i zv,P.underlying ty=some (.slice e)∧P.info? e=some i∧i.zero=some zv∧Lq z zv.cells.toList=true:=by
 grind [yq,aey]
def Hy {n:Nat}(h:n<=4294967296):IntKind.i64.wrap (n:Int)=n:=by
 apply ZY
 .have:IntKind.min .i64=-9223372036854775808:=k_;omega
 .have:IntKind.max .i64=9223372036854775807:=k_;omega
def U4 {ty el:TypeId}{i:TypeInfo}{zv:Value}{kn kc:IntKind}{n cc:Nat}(hu:P.underlying ty=some (.slice el))(hi:P.info? el=some i)(hz:i.zero=some zv)
  (hby:i.bytes<=4096)(hnc:n<=cc)(hcm:cc<=4294967296) :
  (Instr.makeSlice ty (.int kn (n:Int)) (.int kc (cc:Int))).run P w =
   .ok (.slice (some ⟨w.heap.size,0,none⟩) n cc) (w.alloc (.cells ((Array.range (cc*i.size)).map (zv.cells[·% zv.cells.size]!)) el)):=by
 have hw1:=Hy (n:=n) o_;have hw2:=Hy (n:=cc) hcm;have hprod:i.bytes*cc<=4096*4294967296:=tT hby hcm;have hbig:¬((i.bytes:Int)*(cc:Int) > 2 ^ 48):=by
  omega
 have hc0:¬(cc:Int)<0:=o_;have hn0:¬(n:Int)<0:=o_;have hnc':¬(n:Int) > (cc:Int):=o_;simp only[Instr.makeSlice,aB,aL hu,aS,asInt,asIntOf,cD,typeInfo,run_program,hi,hw1,hw2,hc0,hn0,hnc',hbig,
  decide_false,Bool.or_self,al,bu,run_askRoom,sizeOf,ax]
 by_cases hcz:cc*i.size=0
 .have h0:Array.range 0=#[]:=u_;simp[hcz,newRow,h0]
 simp_all [newRow,zeroValue,typeInfo]
def QJ {z:U_}{len cap:Rd}(s:S P g w st t O)(h:ka z len cap st=some (a,st'))(hc:aZ P (.mkslice z len cap) o.op=true) :
  dV P g w t O st' a ((execOp (ev t) o).run P w):=by
 obtain⟨dst,op,ty,pos,aft,gd⟩:=o;simp only[aZ]at hc;split at hc
 .simp only[af]at hc;obtain⟨⟨⟨h1,h2⟩,h3⟩,h4⟩:=hc;obtain⟨vn,vc,e,On,Oc,O',rn,rc,s',hl,hk⟩:=LK s h3 h4 h;split at hk
  .rename_i cc hcc;split at hk
   .rename_i n hn;obtain⟨rfl,rfl⟩:=hk;obtain⟨⟨kc,hvc⟩,hcm⟩:=A9 hcc rc;obtain⟨⟨kn,hvn⟩,hnc⟩:=A9 hn rn;obtain⟨el,hu,hs,hm,hby⟩:=fH h1;obtain⟨el',i,zv,hu',hi,hz,hok⟩:=AB h2;rw[hu]at hu';simp only[ae,fM]at hu';subst hu';obtain⟨hzl,hzg⟩:=OF (w:=w) (g:=g) hok;have hsz:i.size=z.length:=by
     grind [tw,Nat.beq_eq]
    have hbytes:P.bytesOf el=i.bytes:=by grind [Program.bytesOf]
    rw[hbytes]at hby;have hrun:=U4 (P:=P) (w:=w) (kn:=kn) (kc:=kc) hu hi hz hby hnc hcm;rw[hsz]at hrun;refine dV.list (cap:=cc) (c:=(Array.range (cc*z.length)).map (zv.cells[·% zv.cells.size]!)) (el:=el) (w1:=w) s s' (λb=>by grind) (bg.refl _ _ _) rfl ?_ hm
     (λe he=>by grind) d_ s_ (λj d hj=>?_)
    .simp only[execOp,hvn,hvc];rw[aB,hrun];simp
    .obtain⟨h5,h6⟩:=NP hj
     grind [Nat.lt_of_lt_of_le,Nat.mul_le_mul_right]
   simp_all
  simp_all
 simp_all
end
abbrev kw:=@Sem.run_ite
def setBlk (w:World)(b:Nat)(o:Go.Obj):World:={ w with heap:=w.heap.setIfInBounds b o }
@[simp] theorem Fv (w:World)(b:Nat)(o:Go.Obj):(setBlk w b o).heap.size=w.heap.size:=by simp[setBlk]
theorem dB {w:World}{b:Nat}{o:Go.Obj}(h:b<w.heap.size):(setBlk w b o).heap[b]?=some o:=by
 simp[setBlk,h]
theorem fN {w:World}{b b':Nat}{o:Go.Obj}(h:b'≠b):(setBlk w b o).heap[b']?=w.heap[b']?:=by
 grind [setBlk]
theorem U6 (w:World)(b:Nat)(o o':Go.Obj):setBlk (setBlk w b o) b o'=setBlk w b o':=by
 simp[setBlk]
theorem ZQ {w:World}{b o:Nat}{c:E_}{el:TypeId}{fz:Nat×Nat}{v:Value}(h:w.heap[b]?=some (.cells c el fz)) :
  w.setCell ⟨b,o,none⟩ v=setBlk w b (.cells (c.setIfInBounds o v) el fz):=by
 unfold World.setCell setBlk
 congr 1
 grind
theorem Cb {α:Type}{cs:List α}{off:Nat}{v:α}{vs:List α}(h:off+(vs.length+1)<=cs.length) :
  ar (cs.set off v) (off+1) vs=ar cs off (v::vs):=by
 grind [ar,List.take_set,List.take_succ_eq_append_getElem,List.drop_set_of_lt]
def oT {P:Program}{b:Nat}{el:TypeId}:∀(vs:M_) (w:World) (c:E_) (off i:Nat),
  w.heap[b]?=some (.cells c el (0,0))->(∀v∈vs,v.oneCell'=true)->off+i+vs.length<=c.size->
  ∃c':E_,(storeCells ⟨b,off,none⟩ vs i).run P w=.ok () (setBlk w b (.cells c' el (0,0)))∧c'.toList=ar c.toList (off+i) vs∧c'.size=c.size
 |[],w,c,off,i,h,_,_=>by
  refine⟨c,?_,by simp[ar],rfl⟩;have:setBlk w b (.cells c el (0,0))=w:=by
   unfold setBlk;have:w.heap.setIfInBounds b (.cells c el (0,0))=w.heap:=by
    grind
   rw[this]
  rw[this];rfl
 |v::vs,w,c,off,i,h,hv,hsz=>by
  have hoff:off+i<c.size:=d_;have hcell:w.cell? ⟨b,off+i,none⟩=some c[off+i]:=by rw[fp h];simp_all
  have hfz:w.frozen? ⟨b,off+i,none⟩=false:=by simp[World.frozen?,h]
  have hst:(store (⟨b,off+i,none⟩:Addr) v .plain).run P w=.ok () (setBlk w b (.cells (c.setIfInBounds (off+i) v) el (0,0))):=by
   grind [run_store,ZQ]
  have hb:b<w.heap.size:=gY h;obtain⟨c',h1,h2,h3⟩:=oT (P:=P) vs (setBlk w b (.cells (c.setIfInBounds (off+i) v) el (0,0))) (c.setIfInBounds (off+i) v) off (i+1) (dB hb)
   (λu hu=>hv u (.tail _ hu)) (by grind)
  grind [storeCells,jJ,Sem.run_bind,Result.andThen_ok,U6,Cb]
section
variable {P:Program}{g:Gh}{w:World}{t:E_}{O:Nat->Nat}{st st':St}{a:AV}{o:Oper}
def wC {b:Nat}{o o':Go.Obj}(hb:w.heap[b]?=some o)(ho:∀off,fc o off=false)(ho':∀off,fc o' off=false)(a:Addr):(Vm.setBlk w b o').frozen? a=w.frozen? a:=by
 by_cases e:a.block=b
 .have h1:=ho a.off;have h2:=ho' a.off;have e1:(Vm.setBlk w b o').heap[a.block]?=some o':=by grind [dB]
  have e2:w.heap[a.block]?=some o:=u_;simp only[World.frozen?,e1,e2]
  cases o<;>cases o'<;>first|rfl|exact h2.trans h1.symm|exact h2|exact h1.symm
 grind [World.frozen?,fN]
theorem bg.setBlk {b:Nat}{c:E_}{el:TypeId}{o':Go.Obj}(hb:w.heap[b]?=some (.cells c el (0,0)))(hp:∀o,¬g.pm b o)(hc:∀off,fc o' off=false:=by intro off;simp[fc]):bg g w g (Vm.setBlk w b o') λx=>x=b where
 obj _ _ h:=⟨h,rfl,rfl,rfl⟩
 pm b' o h:=⟨h,by
  grind [oY,fN]⟩
 blk b' _ h:=⟨fN h,λ_ h=>h⟩
 size:=s_
 lp b' rc h:=⟨rc,by grind [fN]⟩
 same:=⟨rfl,rfl,wC hb (by grind [fc]) hc⟩
def S.store {st:St}(s:S P g w st t O){id:Nat}{ob:Obj}(hg:get st.hs.heap id=some ob) :
  ∃O1 Oz:Nat->Nat,iF P g w id ob O1∧(∀b,O1 b+Oz b<=O b)∧∀(w':World) (b:Nat) (c:E_) (el:TypeId) (ob':Obj) (O1':Nat->Nat),
   w.heap[b]?=some (.cells c el (0,0))->1<=O1 b->bg g w g w' (λx=>x=b)->iF P g w' id ob' O1'->(∀x,O1' x+Oz x<=1)->(∀x,O1' x≠0->x<w'.heap.size)->
   S P g w' ⟨st.env,⟨put st.hs.heap id ob',st.hs.next⟩⟩ t (λx=>O1' x+Oz x):=by
 obtain⟨Oe,Oh,re,rh,ho⟩:=s.parts;obtain⟨O1,O2,q,r2,hs⟩:=RL.take rh hg;refine⟨O1,λb=>Oe b+O2 b,q,λb=>by grind,λw' b c el ob' O1' hblk h1 hx q' hle hhi=>?_⟩;have hone:O b<=1:=s.le b;have hfree:Oe b=0∧O2 b=0:=d_;have re':=ja.ext hx re (λy hy e=>by simp_all);have r2':yk P g w' (del st.hs.heap id) O2:=r2.imp' λk v Q _ hQ q=>q.ext hx (λy hy e=>by grind) (λy ds hd e=>by
  simp_all)
 obtain⟨O3,r3,h3⟩:=RL.put s.sh r2' q';refine⟨s.se,s.sh.put _ _,⟨Oe,O3,re',r3,λx=>by grind⟩,hle,λx hx0=>?_,s.fresh,
  λb o hp=>aH (s.pmlt b o hp) hx.size⟩
 by_cases h:O1' x=0
 .refine aH (s.hi x ?_) hx.size
  grind
 simp_all
theorem BR {α:Type}{cs vs:List α}{off:Nat}:ar cs off vs=cs.take off++(vs++cs.drop (off+vs.length)):=by
 grind [ar]
def Zy {ty:TypeId}{n:Nat}(ht:tw P ty n=true){st:St}(s:S P g w st t O){id off:Nat}{b:Nat}(hob:g.obj id=some b)
  {v:AV}{x:Value}{Ov:Nat->Nat}(rv:RV g w v x Ov)(hO:∀c,Ov c+O c<=1)(hOv:∀c,Ov c≠0->c<w.heap.size){h':ak}
  (h:storeAt st.hs.heap n (.ptr id off) v=some h') :
  ∃w' O2,(storeVar ty ⟨b,g.base id+off,none⟩ x).run P w=.ok () w'∧S P g w' ⟨st.env,⟨h',st.hs.next⟩⟩ t O2∧bg g w g w' (λc=>O c≠0)∧(∀c,O2 c<=Ov c+O c)∧
   w'.heap.size=w.heap.size:=by
 unfold storeAt at h;split at h
 .simp at h
 .rename_i hn;rw[aq]at hn;simp only at h;split at h
  .rename_i cs hg;split at h
   .rename_i hb;simp only[af,aU]at hb;simp only[ae]at h;subst h;obtain⟨O1,Oz,q,hsum,hst⟩:=s.store hg;obtain⟨b',c,el,Oc,h1,h2,h3,h4,h5,h6,h7,h8⟩:=q;rw[hob]at h1;simp only[ae]at h1;subst h1;rw[h2,cQ];have hsz:c.size=cs.length:=by rw[<-h6.length];simp
    have rvs:=rv.cells hb.2;have hlenx:x.cells.toList.length=n:=by grind [RVs.length]
    obtain⟨c',hrun,hc',hcs⟩:=oT (P:=P) (b:=b) (el:=el) x.cells.toList w c off 0 h5 (rvs.one hb.2) o_;have hrun':(storeVar ty ⟨b,off,none⟩ x).run P w=.ok () (setBlk w b (.cells c' el (0,0))):=by
     have hxs:x.cells.size=n:=o_;simp only[storeVar,aB,dw ht,aS,hxs,ne_eq,not_true,bu,kw];exact hrun
    have hOb:1<=O1 b:=u_;have hx:bg g w g (setBlk w b (.cells c' el (0,0))) λx=>x=b:=bg.setBlk h5 h7
    have hbO:O b=1:=d_;have hOvb:Ov b=0:=d_;have hOcb:Oc b=0:=by
     grind [wT]
    have r6:=RVs.ext hx _ _ _ h6 (λy hy e=>by simp_all);have rvs':=RVs.ext hx _ _ _ rvs (λy hy e=>by simp_all);rw[Yo hb.1]at r6;obtain⟨B1,B2,rb1,rb2,hb12⟩:=r6.split;obtain⟨B3,B4,rb3,rb4,hb34⟩:=rb2.split;have hsl:(Vm.sub cs off n).length=n:=iZ hb.1;have hjoin:=rb1.join (rvs'.join rb4);rw[<-hn]at hjoin;rw[<-BR]at hjoin;have e2:c.toList.take off++(x.cells.toList++(c.toList.drop off).drop v.cells.length)=c'.toList:=by
     grind [BR,List.drop_drop]
    have hlen':(ar cs off v.cells).length=cs.length:=by rw[<-hjoin.length];grind
    refine⟨_,_,hrun',hst (setBlk w b (.cells c' el (0,0))) b c el (.cells (ar cs off v.cells)) (λy=>(B1 y+(Ov y+B4 y))+one b y) h5 hOb hx ?_ (λy=>?_) (λy hy=>?_),
     hx.mono (λy _ e=>by simp_all),λy=>?_,s_⟩
    all_goals grind [iF,dB,Fv,S.hi]
   simp_all
  simp_all
end
abbrev dz:=@List.ext_getElem?
abbrev fT:=@Nat.mod_lt
abbrev mM:=@Nat.div_eq_of_lt_le
theorem iY {α:Type}{cs vs:List α}{off:Nat}(h:off+vs.length<=cs.length)(j:Nat) :
  (ar cs off vs)[j]?=if off<=j∧j<off+vs.length then vs[j-off]? else cs[j]?:=by
 grind [ar,List.getElem?_append_right]
def YM {xs:F_}{m:Nat}(h:∀e∈xs,e.length=m){i off:Nat}{e ds:U_}(hi:xs[i]?=some e)(ho:off+ds.length<=m) :
  (xs.set i (ar e off ds)).flatten=ar xs.flatten (i*m+off) ds:=by
 apply dz;intro j;have hlt:=Bs hi;have hl2:∀e'∈xs.set i (ar e off ds),e'.length=m:=by
  grind [ar]
 have hmm:(i+1)*m<=xs.length*m:=bY _ hlt;rw[iY (by grind [ej])];by_cases hm:m=0
 .subst hm;have e1:(xs.set i (ar e off ds)).flatten.length=0:=by rw[ej hl2];simp
  have e2:xs.flatten.length=0:=by rw[ej h];simp
  simp_all
 have hpos:0<m:=Nat.pos_of_ne_zero hm;have hdec:j=(j / m)*m+j % m:=by grind [Nat.div_add_mod]
 have hr:j % m<m:=fT _ hpos;have cell:∀(ys:F_),(∀e∈ys,e.length=m)->ys.flatten[j]?=(ys[j / m]?).bind (·[j % m]?):=by
  intro ys hy
  cases hq:ys[j / m]? with
  |none =>
   have:ys.length<=j / m:=by
    grind
   have:ys.flatten.length<=j:=by
    rw[ej hy];exact aC (bY m this) (by omega)
   grind
  |some e' =>
   grind [Lr]
 by_cases hk:j / m=i
 .grind [iY]
 .have:¬(i*m+off<=j∧j<i*m+off+ds.length):=by
   rintro ⟨h1,h2⟩
   apply hk;have:j<(i+1)*m:=d_;exact mM o_ this
  grind
section
variable {P:Program}{g:Gh}{w:World}{t:E_}{O:Nat->Nat}{st st':St}{a:AV}{o:Oper}
def aiX {v:AV}{d:D}{x:Value}{Ov:Nat->Nat}(h:BA v=some d)(r:RV g w v x Ov):RD w g.pm d x:=by
 cases v with
 |d c=>grind [BA,RV]
 |nl=>simp only[BA,ae]at h;subst h;rw[r.1];exact .nil _ _
 |own p m xs =>
  cases p<;>simp only[BA,ae,reduceCtorEq]at h
  have:=RV.share _ _ _ r
  grind [share,RV]
 |_=>simp[BA]at h
theorem RD.one {pm:Nat->Nat->Prop}{d:D}{x:Value}(r:RD w pm d x):x.oneCell'=true:=by cases r<;>rfl
theorem IU {vs:D_}{ds:U_}{xs:M_}{Ov:Nat->Nat}(h:kg vs=some ds)(r:RVs g w vs xs Ov) :
  xs.length=ds.length∧(∀(j:Nat) (d:D),ds[j]?=some d->∃x,xs[j]?=some x∧RD w g.pm d x)∧∀x∈xs,x.oneCell'=true:=by
 induction vs generalizing ds xs Ov with
 |nil =>
  grind [kg,RVs]
 |cons v vs ih =>
  simp only[kg]at h;split at h
  .rename_i c hc;split at h
   .obtain⟨x,s,O1,O2,rfl,r1,r2,_⟩:=r;have hd:=aiX hc r1
    grind [RD.one]
   simp_all
  simp_all
end
abbrev iO:=@List.mem_of_getElem?
theorem U5 {v:AV}{d:D}(h:BA v=some d):b9 v=true:=by
 cases v with
 |own p m xs=>cases p<;>simp[BA]at h;rfl
 |d c=>rfl
 |nl=>rfl
 |_=>simp[BA]at h
def GF {vs:D_}{ds:U_}(h:kg vs=some ds):vs.all b9=true:=by
 induction vs generalizing ds<;>grind [kg,U5]
theorem Nl {vs:D_}{ds:U_}(h:kg vs=some ds):ds.length=vs.length:=by
 induction vs generalizing ds<;>grind [kg]
section
variable {P:Program}{g:Gh}{w:World}{t:E_}{O:Nat->Nat}{st st':St}{a:AV}{o:Oper}
def acV {ty:TypeId}{n:Nat}(ht:tw P ty n=true){st:St}(s:S P g w st t O){id i off:Nat}{b:Nat}(hob:g.obj id=some b)
  {v:AV}{x:Value}{Ov:Nat->Nat}(rv:RV g w v x Ov){h':ak}
  (h:storeAt st.hs.heap n (.pel id i off) v=some h') :
  ∃w' O2,(storeVar ty ⟨b,g.base id+(i*g.esz id+off),none⟩ x).run P w=.ok () w'∧S P g w' ⟨st.env,⟨h',st.hs.next⟩⟩ t O2∧bg g w g w' (λc=>O c≠0)∧(∀c,O2 c<=O c)∧
   w'.heap.size=w.heap.size:=by
 unfold storeAt at h;split at h
 .simp at h
 .rename_i hn;rw[aq]at hn;simp only at h;split at h
  .simp at h
  .rename_i ds hds;split at h
   .rename_i m xs hg;split at h
    .rename_i e he;split at h
     .rename_i hb;rw[aU]at hb;simp only[ae]at h;subst h;obtain⟨O1,Oz,q,hsum,hst⟩:=s.store hg;rcases q with ⟨rfl,_⟩|⟨b',c,el,g1,g2,g3,g4,g5,g6,g7,g8,g9,g10⟩
      .simp at he
      .rw[hob]at g1;simp only[ae]at g1;subst g1;have hlt:=Bs he;have hem:e.length=m:=g7 e (iO he);have hmm:(i+1)*m<=xs.length*m:=bY _ hlt;rw[xf]at hmm;have rvs:=rv.cells (GF hds);obtain⟨k1,k2,k3⟩:=IU hds rvs;have hdl:ds.length=n:=by grind [Nl]
       have hlenx:x.cells.toList.length=n:=o_;obtain⟨c',hrun,hc',hcs⟩:=oT (P:=P) (b:=b) (el:=el) x.cells.toList w c (g.base id+(i*g.esz id+off)) 0 g4 k3 d_;have hrun':(storeVar ty ⟨b,g.base id+(i*g.esz id+off),none⟩ x).run P w=.ok () (setBlk w b (.cells c' el (0,0))):=by
        have hxs:x.cells.size=n:=o_;simp only[storeVar,aB,dw ht,aS,hxs,ne_eq,not_true,bu,kw];exact hrun
       have hx:bg g w g (setBlk w b (.cells c' el (0,0))) λx=>x=b:=bg.setBlk g4 g9
       have hOb:1<=O1 b:=u_;have hl2:∀e'∈xs.set i (ar e off ds),e'.length=m:=by
        grind [ar]
       refine⟨_,_,hrun',hst (setBlk w b (.cells c' el (0,0))) b c el (.arr m (xs.set i (ar e off ds))) (one b) g4 hOb hx ?_ (λy=>?_) (λy hy=>?_),
        hx.mono (λy _ e=>by grind),λy=>?_,s_⟩
       .refine .inr ⟨b,c',el,hob,g2,g3,dB (gY g4),o_,u_,hl2,?_,g9,λ_=>rfl⟩;rw[YM g7 he o_];have hfl:=ej g7;intro j d hj;rw[iY o_]at hj;have hcell:(setBlk w b (.cells c' el (0,0))).cell? ⟨b,g.base id+j,none⟩=c'.toList[g.base id+j]?:=by
         grind [fp,dB]
        rw[hcell,hc',iY d_,hlenx,g2];split at hj
        .grind [RD.ext]
        .obtain⟨u,hu,hr⟩:=g8 j d hj
         grind [RD.ext,fp]
       .have:=s.le y;grind
       .rw[tx hy];simp_all [gY]
       simp_all
     simp_all
    simp_all
   simp_all
def anL {n:Nat}{p x:Rd}(s:S P g w st t O)(h:acg n p x st=some (a,st'))(hc:aZ P (.st n p x) o.op=true) :
  dV P g w t O st' a ((execOp (ev t) o).run P w):=by
 obtain⟨dst,op,ty,pos,aft,gd⟩:=o;simp only[aZ]at hc;split at hc
 .rename_i ty' p' x';simp only[af]at hc;obtain⟨⟨h1,h2⟩,h3⟩:=hc;obtain⟨pv,xv,e,Op,Ox,O',rp,rx,s2,l2,k⟩:=LK s h2 h3 h;split at k
  .rename_i h' hst;obtain⟨rfl,rfl⟩:=k;have fin:∀{ad:Addr}{w':World},ev t p'=.pointer (some ad)->(storeVar ty' ad (ev t x')).run P w=.ok () w'->
     (execOp (ev t) ⟨dst,.store ty' p' x',ty,pos,aft,gd⟩).run P w=.ok .skip w':=by
    simp_all [execOp,Instr.storeAt,Instr.sureAddr]
   cases pv with
   |ptr id off =>
    obtain⟨⟨b,hob,he⟩,_⟩:=rp;obtain⟨w',O2,hrun,s3,hx,ho,hsz⟩:=Zy h1 s2 hob rx (λc=>by have:=l2 c;have:=s.le c;omega) (λc hc=>s.hi c d_) hst;refine⟨undef,w',g,zero,O2,.inr ⟨fin he hrun,rfl⟩,?_,s3,hx.mono λc _ h=>by grind,λc=>by have:=s3.le c;simp_all,λc _=>?_,s_⟩
    all_goals grind [RV]
   |pel id i off =>
    obtain⟨⟨b,hob,he⟩,_⟩:=rp;obtain⟨w',O2,hrun,s3,hx,ho,hsz⟩:=acV h1 s2 hob rx hst;refine⟨undef,w',g,zero,O2,.inr ⟨fin he hrun,rfl⟩,?_,s3,hx.mono λc _ h=>by grind,λc=>by have:=s3.le c;simp_all,λc _=>?_,s_⟩
    all_goals grind [RV]
   |_=>grind [storeAt]
  simp_all
 simp_all
end
section
variable {P:Program}{g:Gh}{w:World}{t:E_}{O:Nat->Nat}{st st':St}{a:AV}
def GU (P:Program)(g:Gh)(w:World)(t:E_)(O:Nat->Nat)(st':St):Prop :=
 ∃g' O',S P g' w st' t O'∧bg g w g' w (λb=>O b≠0)∧∀b,O' b<=O b
theorem GU.same {O':Nat->Nat}(s:S P g w st' t O')(h:∀b,O' b<=O b):GU P g w t O st':=⟨g,O',s,.refl _ _ _,h⟩
def S.delEnv {st:St}(s:S P g w st t O)(i:Nat):∃O',S P g w ⟨del st.env i,st.hs⟩ t O'∧∀b,O' b<=O b:=by
 obtain⟨Oe,Oh,re,rh,ho⟩:=s.parts;obtain⟨O1,r1,h1⟩:=RL.drop re i;have hle:∀b,O1 b+Oh b<=O b:=λb=>by simp_all
 exact⟨λb=>O1 b+Oh b,s.of_env r1 rh (s.se.del i) (λ_=>rfl) hle,hle⟩
def S.delHeap {st:St}(s:S P g w st t O)(i:Nat):∃O',S P g w ⟨st.env,⟨del st.hs.heap i,st.hs.next⟩⟩ t O'∧∀b,O' b<=O b:=by
 obtain⟨Oe,Oh,re,rh,ho⟩:=s.parts;obtain⟨O1,r1,h1⟩:=RL.drop rh i;have hle:∀b,Oe b+O1 b<=O b:=λb=>by simp_all
 exact⟨λb=>Oe b+O1 b,⟨s.se,s.sh.del i,⟨Oe,O1,re,r1,λ_=>rfl⟩,λb=>aC (hle b) (s.le b),
  λb hb=>s.hi b d_,s.fresh,s.pmlt⟩,hle⟩
def akr {is:C_}(s:S P g w st t O)(h:Xm is st=some (a,st')):GU P g w t O st':=by
 simp only[Xm,ae,aJ]at h;have:∃O',S P g w ⟨is.foldl del st.env,st.hs⟩ t O'∧∀b,O' b<=O b:=by
  induction is generalizing st O with
  |nil=>exact⟨O,s,λ_=>ai _⟩
  |cons i is ih =>
   obtain⟨O1,s1,h1⟩:=s.delEnv i
   grind
 grind [GU.same]
def S.delAll:∀{l:C_}{st:St}{O:Nat->Nat},S P g w st t O->∃O',S P g w ⟨st.env,⟨delAll st.hs.heap l,st.hs.next⟩⟩ t O'∧∀b,O' b<=O b
 |[],_,O,s=>⟨O,s,λb=>ai _⟩
 |i::r,st,O,s=>by
  obtain⟨O1,s1,h1⟩:=s.delHeap i;obtain⟨O2,s2,h2⟩:=S.delAll (l:=r) s1;exact⟨O2,s2,λb=>aC (h2 b) (h1 b)⟩
def aiO {i:Nat}(s:S P g w st t O)(h:PY i st=some (a,st')):GU P g w t O st':=by
 unfold PY at h;split at h
 .rename_i id _ _;obtain⟨O1,s1,h1⟩:=s.delEnv i;obtain⟨O2,s2,h2⟩:=s1.delHeap id
  grind [GU.same]
 .rename_i caps _;obtain⟨O1,s1,h1⟩:=s.delEnv i;obtain⟨O2,s2,h2⟩:=S.delAll (l:=Ds caps) s1
  grind [GU.same]
 grind [GU.same]
def anO {i m:Nat}(s:S P g w st t O)(h:ahk i m st=some (a,st')):GU P g w t O st':=by
 unfold ahk at h;split at h
 .rename_i hg;obtain⟨_,rfl⟩:=h;obtain⟨Oe,Oh,re,rh,ho⟩:=s.parts;obtain⟨O1,O2,⟨hlt,q⟩,r2,hs⟩:=RL.take re hg;simp only[RV]at q;obtain⟨O3,r3,h3⟩:=RL.put s.se r2 (x:=.own false m []) (O1:=zero) ⟨hlt,by grind [RV,zT]⟩;have hle:∀b,O3 b+Oh b<=O b:=λb=>by simp_all
  exact .same (s.of_env r3 rh (s.se.put _ _) (λ_=>rfl) hle) hle
 grind [GU.same]
end
def Gh.keep (g:Gh)(b:Nat)(K:Nat->Prop):Gh:={ g with pm:=λb' o=>g.pm b' o∨(b'=b∧K o) }
section
variable {P:Program}{g:Gh}{w:World}{t:E_}{O:Nat->Nat}{st st':St}{a:AV}
def bg.keep (g:Gh)(w:World)(b:Nat)(K:Nat->Prop):bg g w (g.keep b K) w λx=>x=b where
 obj _ _ h:=⟨h,rfl,rfl,rfl⟩
 pm _ _ h:=⟨.inl h,rfl⟩
 blk _ _ h:=⟨rfl,λ_ h'=>h'.elim id λe=>absurd e.1 h⟩
 size:=ai _
 lp _ rc h:=⟨rc,h⟩
 same:=⟨rfl,rfl,λ_=>rfl⟩
def S.keep {st:St}(s:S P g w st t O){b:Nat}(hO:O b=0){c:E_}{el:TypeId}(hb:w.heap[b]?=some (.cells c el (0,0)))(K:Nat->Prop) :
  S P (g.keep b K) w st t O:=by
 obtain⟨Oe,Oh,re,rh,ho⟩:=s.parts;have hx:=bg.keep g w b K;have re':=ja.ext hx re (λy hy e=>by simp_all);have rh':yk P (g.keep b K) w st.hs.heap Oh:=rh.imp' λk v Q _ hQ q=>q.ext hx (λy hy e=>by grind) (λy ds hd e=>by
  simp_all)
 exact⟨s.se,s.sh,⟨Oe,Oh,re',rh',ho⟩,s.le,s.hi,s.fresh,λb' o h=>h.elim (s.pmlt b' o) λe=>by grind⟩
def ah2 (P:Program)(g:Gh)(w:World)(t:E_)(O:Nat->Nat)(st:St)(x:Value)(Ov:Nat->Nat)(r:AV×ak):Prop :=
 ∃g' Ov' O',RV g' w r.1 x Ov'∧S P g' w ⟨st.env,⟨r.2,st.hs.next⟩⟩ t O'∧bg g w g' w (λb=>Ov b=0∧O b≠0)∧∀b,Ov' b+O' b<=Ov b+O b
def aa8 {st:St}(s:S P g w st t O){v:AV}{x:Value}{Ov:Nat->Nat}(rv:RV g w v x Ov) :
  ah2 P g w t O st x Ov (Gx st.hs.heap v):=by
 have triv:ah2 P g w t O st x Ov (v,st.hs.heap):=⟨g,Ov,O,rv,s,.refl _ _ _,λ_=>ai _⟩
 cases v with
 |sl id off len =>
  unfold Gx;simp only;split
  .rename_i m xs hg;split
   .rename_i hb;rw[aU]at hb;obtain⟨Oe,Oh,re,rh,ho⟩:=s.parts;obtain⟨O1,O2,q,r2,hs⟩:=RL.take rh hg;have hle2:∀b,Oe b+O2 b<=O b:=λb=>by grind
    have s2:S P g w ⟨st.env,⟨del st.hs.heap id,st.hs.next⟩⟩ t (λb=>Oe b+O2 b) :=
     ⟨s.se,s.sh.del id,⟨Oe,O2,re,r2,λ_=>rfl⟩,λb=>aC (hle2 b) (s.le b),λb hb=>s.hi b d_,s.fresh,s.pmlt⟩
    have hsub:(Vm.sub xs off len).length=len:=iZ hb;have emp:len=0->(∃a,x=.slice a 0 0)->RV g w (.own false m (Vm.sub xs off len)) x zero:=by
     grind [RV,zT]
    rcases rv with ⟨h0,h⟩|⟨b,cap,hob,rfl,hlc,hcap⟩
    .exact⟨g,zero,_,emp h0 h,s2,.refl _ _ _,λb=>by simp_all⟩
    .rcases q with ⟨rfl,g1,g2,g3,_⟩|⟨b',c,el,g1,g2,g3,g4,g5,g6,g7,g8,g9,g10⟩
     .have hl0:len=0:=u_;have hc0:cap=0:=by
       grind [Nat.mul_eq_zero]
      subst hl0 hc0;exact⟨g,zero,_,emp rfl ⟨_,rfl⟩,s2,.refl _ _ _,λb=>by simp_all⟩
     .rw[hob]at g1;simp only[ae]at g1;subst g1;have h1:O1 b=1:=u_;have hO2:Oe b+O2 b=0:=by have:=hs b;have:=ho b;have:=s.le b;omega
      have s3:=s2.keep hO2 g4 (λo=>g.base id+off*m<=o∧o<g.base id+off*m+len*m);refine⟨_,one b,_,?_,s3,(bg.keep g w b _).mono λy _ e=>?_,λy=>?_⟩
      .refine .inr ⟨b,g.base id+off*m,cap,c,el,u_,o_,g3,C6 g7 off len,g4,?_,?_,λo ho=>?_,λ_ j hj=>?_,rfl⟩
       .grind [Nat.add_mul]
       .rw[lJ g7];exact(g8.sub _ _).ext (bg.keep g w b _) (.inl rfl)
       .rcases ho with h|h<;>simp_all
       .rw[hsub]at hj;exact .inr ⟨rfl,o_,o_⟩
      all_goals grind
   omega
  omega
 |_=>exact triv
end
end Go.Vm
end
