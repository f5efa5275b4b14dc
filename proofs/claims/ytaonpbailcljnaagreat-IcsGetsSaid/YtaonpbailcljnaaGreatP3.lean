import Derived.Test.YtaonpbailcljnaaGreatP2
set_option linter.unusedVariables false
set_option linter.unusedSimpArgs false
set_option linter.defProp false
set_option linter.unusedSectionVars false
noncomputable section
namespace Go.Vm
set_option maxHeartbeats 4000000
set_option maxRecDepth 100000
variable {P:Nat->W_}
def bA {α β:Type}(x:Option α)(f:α->Option β):Option β :=
 match x with
 |some v=>f v
 |none=>none
def bP {α γ β:Type}(x:Option (α×γ))(f:α->γ->Option β):Option β :=
 match x with
 |some (v,w)=>f v w
 |none=>none
def lA {α β:Type}(x:α)(f:α->β):β:=f x
def lP {α γ β:Type}(x:α×γ)(f:α->γ->β):β:=f x.1 x.2
def cX {β:Type}(c:Bool)(x:Option β):Option β :=
 match c with
 |true=>x
 |false=>none
def gV (g:AV)(w:Bool)(x:L_):L_ :=
 match g with
 |.d (.bool b)=>if b=w then x else some (.tup [])
 |.tup []=>some (.tup [])
 |_=>none
def gH (g:AV)(w:Bool)(hs:HS)(x:T_):T_ :=
 match g with
 |.d (.bool b)=>if b=w then x else some (.tup [],hs)
 |.tup []=>some (.tup [],hs)
 |_=>none
def Mw (c a b:AV):L_ :=
 match c with
 |.d (.bool true)=>some a
 |.d (.bool false)=>some b
 |_=>none
def Qh (neg:Bool)(a b:AV):BC_ :=
 match a,b with
 |.d (.bool a),.d (.bool b)=>some (.bool (match neg with|true=>!(a == b)|false=>a == b))
 |_,_=>none
def PK (neg:Bool)(ks:AA_)(a b:AV):BC_ :=
 match a,b with
 |.agg a,.agg b=>match aW ks a b with
  |some t=>some (.bool (match neg with|true=>!t|false=>t))
  |none=>none
 |_,_=>none
def gr (op:BinOp)(a b:AV):BC_ :=
 match cL op a b with
 |some (.d x)=>some x
 |_=>none
def unD (op:UnOp)(a:AV):BC_ :=
 match SU op a with
 |some (.d x)=>some x
 |_=>none
def Vj (k:IntKind)(a:AV):BC_ :=
 match a with
 |.d (.int _ n)=>some (.int k (wr k n))
 |_=>none
def Ln (h:ak)(a:AV):BC_ :=
 match elems h a with
 |some xs=>match rV xs with
  |some s=>some (.str s)
  |none=>none
 |none=>none
def Dp (z:U_)(l c:AV):L_ :=
 match gD c cP with
 |some c=>match gD l c with
  |some n=>some (.own true z.length (List.replicate n z))
  |none=>none
 |none=>none
def O9 (h:ak)(m:Nat)(x:AV)(lo hi mx:L_):L_ :=
 match okSl h m x with
 |true=>Hi m x lo hi mx
 |false=>none
def K3 (hp:ak)(n:Nat)(x:AV)(lo hi mx:L_):L_ :=
 match x with
 |.ptr id off=>Mf hp n id off lo hi mx
 |_=>none
def akF (off:Nat)(n:H_)(x:AV):L_ :=
 match x with
 |.agg cs=>Bx n cs off
 |_=>none
def Rr (hp:ak)(n:Nat)(x i:AV):L_ :=
 match oJ i with
 |some i=>match x with
  |.sl id off len=>match Nat.ble len i with
   |true=>none
   |false=>match get hp id with
    |some (.arr m _)=>match Nat.beq m n with
     |true=>some (.pel id (off+i) 0)
     |false=>none
    |some (.cells _)=>match Nat.beq n 1 with
     |true=>some (.ptr id (off+i))
     |false=>none
    |_=>none
  |v=>match elems hp v with
   |some xs=>match xs[i]? with
    |some x=>match Nat.beq x.length n with
     |true=>some (.pim x 0)
     |false=>none
    |none=>none
   |none=>none
 |none=>none
def EE (len n:Nat)(p i:AV):L_ :=
 match oJ i with
 |some i=>match Nat.ble len i with
  |true=>none
  |false=>nI (i*n) p
 |none=>none
def ixV (len n:Nat)(agg:Bool)(x i:AV):L_ :=
 match x with
 |.agg cs=>match oJ i with
  |some i=>match Nat.ble len i with
   |true=>none
   |false=>Bx (Xe agg n) cs (i*n)
  |none=>none
 |_=>none
def amT (x i:AV):BC_ :=
 match x with
 |.d (.str s)=>match oJ i with
  |some i=>match s[i]? with
   |some b=>some (.int .u8 (.ofNat b.toNat))
   |none=>none
  |none=>none
 |_=>none
def zY (mv:Bool)(t:AV)(i:Nat):L_ :=
 match t with
 |.tup vs=>match vs[i]? with
  |some v=>match mv with
   |true=>some v
   |false=>some (share v)
  |none=>none
 |_=>none
def Pe (t:AV)(i:Nat):AV :=
 match t with
 |.tup vs=>.tup (vs.set i .junk)
 |v=>v
def akL (x:AV):Bool :=
 match x with
 |.nl=>true
 |_=>false
def SR (m:Nat)(h:ak)(a b:AV):AD_ :=
 match elems h b with
 |some ys=>match fA m ys with
  |true=>da m h a ys
  |false=>none
 |none=>none
def ahO (z:U_)(h:ak)(a n:AV):AD_ :=
 match gD n cP with
 |some n=>da z.length h a (List.replicate n z)
 |none=>none
def Yx (m:Nat)(hp:ak)(a b:AV):Option (D×ak) :=
 match elems hp b with
 |some ys=>match a with
  |.sl id off len=>match get hp id with
   |some (.arr k xs)=>match fA m ys && Nat.beq k m && Nat.ble (off+len) xs.length with
    |true=>some (.int .i64 (.ofNat (min len ys.length)),put hp id (.arr k (ar xs off (ys.take len))))
    |false=>none
   |_=>none
  |_=>match lenOf a with
   |some 0=>some (.int .i64 (.ofNat 0),hp)
   |_=>none
 |none=>none
def amj (z:U_)(hp:ak)(x:AV):Option ak :=
 match x with
 |.sl id off len=>match get hp id with
  |some (.arr k xs)=>match Nat.beq k z.length && Nat.ble (off+len) xs.length with
   |true=>some (put hp id (.arr k (ar xs off (List.replicate len z))))
   |false=>none
  |_=>none
 |_=>none
def Gb (isMax:Bool)(vs:D_):L_ :=
 match vs with
 |.d (.int k n)::vs=>Bh isMax (.d (.int k n)) vs
 |_=>none
def Rt (v:AV):L_ :=
 match v with
 |.ptr ..|.pel ..|.pim ..|.fn ..|.yield ..=>some v
 |_=>none
def fw (h:ak)(n:H_)(p:AV):L_ :=
 match loadAt h n 0 p with
 |some (v,_)=>some v
 |none=>none
def MB (m:Nat)(vs:D_):Bool:=vs.all λv=>Nat.beq v.cells.length m && v.cells.all b9
def bR {β:Type}(e:aK)(x:Rd)(k:AV->aK->Option β):Option β :=
 match rd e x with
 |some (v,e)=>k v e
 |none=>none
def jl {β:Type}:aK->S_->(D_->aK->Option β)->Option β
 |e,[],k=>k [] e
 |e,x::r,k=>match rd e x with
  |some (v,e)=>jl e r λvs e=>k (v::vs) e
  |none=>none
def kD {β:Type}(e:aK)(x:Y_)(k:L_->aK->Option β):Option β :=
 match x with
 |none=>k none e
 |some x=>match rd e x with
  |some (v,e)=>k (some v) e
  |none=>none
def bj:Rd->Bool
 |.m _=>false
 |_=>true
def br {β:Type}(P:Nat->W_)(op:lX)(e:aK)(hs:HS)(k:AV->aK->HS->Option β):Option β :=
 match op with
 |.mov x=>bR e x λv e=>k v e hs
 |.pick c a b=>bR e c λc e=>match bj a && bj b,rd e a,rd e b with
  |true,some (a,_),some (b,_)=>bA (Mw c a b) λv=>k v e hs
  |_,_,_=>bP (jG (.c c) a b ⟨e,hs⟩) λv st=>k v st.env st.hs
 |.alloc zs=>lA (put hs.heap hs.next (.cells zs)) λh=>k (.ptr hs.next 0) e ⟨h,hs.next+1⟩
 |.box x=>bR e x λv e=>cX (v.cells.all b9) (lA (put hs.heap hs.next (.cells v.cells)) λh=>k (.ptr hs.next 0) e ⟨h,hs.next+1⟩)
 |.build zs ps=>jl e (pR ps) λvs e=>bA (dL zs (qW ps vs)) λcs=>k (.agg cs) e hs
 |.mks m ps=>jl e ps λvs e=>bA (ij m vs) λxs=>k (.own true m xs) e hs
 |.mksv m ps=>jl e ps λvs e=>cX (MB m vs) (lA (put hs.heap hs.next (.cells (vs.flatMap AV.cells))) λh=>k (.sl hs.next 0 vs.length) e ⟨h,hs.next+1⟩)
 |.ld n 0 p=>bR e p λp e=>bA (fw hs.heap n p) λv=>k v e hs
 |.ld n (t+1) p=>bR e p λp e=>bP (loadAt hs.heap n (t+1) p) λv h=>k v e ⟨h,hs.next⟩
 |.st n p x=>bR e p λp e=>bR e x λx e=>bA (storeAt hs.heap n p x) λh=>k .junk e ⟨h,hs.next⟩
 |.nilck x=>bR e x λv e=>bA (Rt v) λv=>k v e hs
 |.bin op x y=>bR e x λa e=>bR e y λb e=>bA (gr op a b) λv=>k (.d v) e hs
 |.binb neg x y=>bR e x λa e=>bR e y λb e=>bA (Qh neg a b) λv=>k (.d v) e hs
 |.bina neg ks x y=>bR e x λa e=>bR e y λb e=>bA (PK neg ks a b) λv=>k (.d v) e hs
 |.un op x=>bR e x λa e=>bA (unD op a) λv=>k (.d v) e hs
 |.conv j x=>bR e x λa e=>bA (Vj j a) λv=>k (.d v) e hs
 |.toStr x=>bR e x λa e=>bA (Ln hs.heap a) λv=>k (.d v) e hs
 |.mkfn f a c=>jl e a λa e=>jl e c λc e=>k (.fn f (shareAll a) (shareAll c)) e hs
 |.mkslice z l c=>bR e l λl e=>bR e c λc e=>bA (Dp z l c) λv=>k v e hs
 |.slice m x lo hi mx=>bR e x λx e=>kD e lo λlo e=>kD e hi λhi e=>kD e mx λmx e=>bA (O9 hs.heap m x lo hi mx) λv=>k v e hs
 |.slarr n x lo hi mx=>bR e x λx e=>kD e lo λlo e=>kD e hi λhi e=>kD e mx λmx e=>bA (K3 hs.heap n x lo hi mx) λv=>k v e hs
 |.fa off p=>bR e p λp e=>bA (nI off p) λv=>k v e hs
 |.fld off n x=>bR e x λx e=>bA (akF off n x) λv=>k v e hs
 |.ia n x i=>bR e x λx e=>bR e i λi e=>bA (Rr hs.heap n x i) λv=>k v e hs
 |.iarr l n p i=>bR e p λp e=>bR e i λi e=>bA (EE l n p i) λv=>k v e hs
 |.ix l n a x i=>bR e x λx e=>bR e i λi e=>bA (ixV l n a x i) λv=>k v e hs
 |.ixs x i=>bR e x λx e=>bR e i λi e=>bA (amT x i) λv=>k (.d v) e hs
 |.ext j true i=>match get e j with
  |some t=>bA (zY true t i) λv=>k v (put e j (Pe t i)) hs
  |none=>none
 |.ext j false i=>match get e j with
  |some t=>bA (zY false t i) λv=>k v e hs
  |none=>none
 |.len x=>bR e x λx e=>bA (lenOf x) λn=>k (.int .i64 (.ofNat n)) e hs
 |.cap x=>bR e x λx e=>cX (akL x) (k (.int .i64 (.ofNat 0)) e hs)
 |.app m x y=>bR e x λa e=>bR e y λb e=>bP (SR m hs.heap a b) λv h=>k v e ⟨h,hs.next⟩
 |.appz z x n=>bR e x λa e=>bR e n λn e=>bP (ahO z hs.heap a n) λv h=>k v e ⟨h,hs.next⟩
 |.cpy m x y=>bR e x λa e=>bR e y λb e=>bP (Yx m hs.heap a b) λv h=>k (.d v) e ⟨h,hs.next⟩
 |.clr z x=>bR e x λx e=>bA (amj z hs.heap x) λh=>k (.tup []) e ⟨h,hs.next⟩
 |.minmax b xs=>jl e xs λvs e=>bA (Gb b vs) λv=>k v e hs
 |.call f args=>jl e args λvs e=>bA (dI (Dn P) f vs hs.heap) λv=>k v e hs
 |.calli f args=>jl e args λvs e=>bP ((Dn P).call f vs hs) λv hs=>k v e hs
 |.callv f args=>bR e f λf e=>jl e args λvs e=>bP (cW (Dn P) f vs hs) λv hs=>k v e hs
 |.kill is=>k (.tup []) (is.foldl del e) hs
 |.idxb x c=>bR e x λx e=>bR e c λc e=>bA (ago hs.heap x c) λv=>k v e hs
 |op=>bP (cm op (Dn P) ⟨e,hs⟩) λv st=>k v st.env st.hs
def ik:S_->Bool
 |[]=>true
 |x::r=>bj x && ik r
def QR:Y_->Bool
 |none=>true
 |some x=>bj x
def cV:lX->Bool
 |.mov x=>bj x
 |.ld _ 0 p=>bj p
 |.nilck x=>bj x
 |.bin _ x y=>bj x && bj y
 |.binb _ x y=>bj x && bj y
 |.un _ x=>bj x
 |.conv _ x=>bj x
 |.fa _ p=>bj p
 |.fld _ _ x=>bj x
 |.ia _ x i=>bj x && bj i
 |.iarr _ _ p i=>bj p && bj i
 |.ix _ _ _ x i=>bj x && bj i
 |.ixs x i=>bj x && bj i
 |.ext _ mv _=>!mv
 |.len x=>bj x
 |.call _ args=>ik args
 |.pick c a b=>bj c && bj a && bj b
 |.build _ ps=>ik (pR ps)
 |.toStr x=>bj x
 |.mkfn _ a c=>ik a && ik c
 |.mkslice _ l c=>bj l && bj c
 |.minmax _ xs=>ik xs
 |.slice _ x a b c=>bj x && (QR a && (QR b && QR c))
 |_=>false
def Bp:lX->Bool
 |.calli _ args=>ik args
 |.callv f args=>bj f && ik args
 |_=>false
def TP (P:Nat->W_)(i:VI)(e:aK)(hs:HS)(k:aK->HS->X_):X_ :=
 match i.guard with
 |none=>match i.th with
  |[]=>match i.dst with
   |some d=>br P i.op e hs λv e hs=>k (put e d (firm v)) hs
   |none=>br P i.op e hs λ_ e hs=>k e hs
  |th=>match i.dst with
   |some d=>br P i.op e hs λv e hs=>lP (cY th v hs) λv hs=>k (put e d (firm v)) hs
   |none=>br P i.op e hs λv e hs=>lP (cY th v hs) λ_ hs=>k e hs
 |some (s,w)=>match cV i.op,i.th,i.dst with
  |true,[],some d=>match get e s with
   |some g=>bA (gV g w (br P i.op e hs λv _ _=>some v)) λv=>k (put e d (firm v)) hs
   |none=>none
  |_,_,_=>match Bp i.op,i.th,i.dst with
   |true,[],some d=>match get e s with
    |some g=>bP (gH g w hs (br P i.op e hs λv _ hs=>some (v,hs))) λv hs=>k (put e d (firm v)) hs
    |none=>none
   |_,_,_=>bA (b4 (Dn P) i ⟨e,hs⟩) λst=>k st.env st.hs
def mY (P:Nat->W_):Q_->aK->HS->X_
 |[],e,hs=>some ⟨e,hs⟩
 |i::l,e,hs=>TP P i e hs λe hs=>mY P l e hs
theorem aiz {op:BinOp}{a b v:AV}(h:cL op a b=some v):∃x,v=.d x:=by
 unfold cL at h
 grind
theorem aln {op:UnOp}{a v:AV}(h:SU op a=some v):∃x,v=.d x:=by
 unfold SU at h
 grind
theorem dD {β:Type}{e:aK}{x:Rd}{k:AV->aK->Option β}:bR e x k=match rd e x with|some (v,e)=>k v e|none=>none:=rfl
theorem lO {β:Type}:∀{l:S_}{e:aK}{k:D_->aK->Option β},jl e l k=match rdAll e l with|some (vs,e)=>k vs e|none=>none
 |[],_,_=>rfl
 |x::r,e,k=>by
  simp only[jl,rdAll]
  cases rd e x with
  |none=>rfl
  |some p =>
   simp only;rw[lO]
   grind
theorem aaA {β:Type}{e:aK}{x:Y_}{k:L_->aK->Option β}:kD e x k=match rdOpt e x with|some (v,e)=>k v e|none=>none:=by
 cases x<;>grind [kD,rdOpt]
theorem ahn {h h':ak}{n:H_}{p v:AV}(k:loadAt h n 0 p=some (v,h')):h'=h:=by
 unfold loadAt at k
 grind
def eJ {β:Type}(x:K_)(k:AV->aK->HS->Option β):Option β :=
 match x with
 |some (v,st)=>k v st.env st.hs
 |none=>none
theorem qq {e e1:aK}{x:Rd}{v:AV}(hs:bj x=true)(h:rd e x=some (v,e1)):e1=e:=by
 cases x<;>grind [rd,bj]
theorem H7 {a b:Rd}{st:St}:jG (.c (B_ true)) a b st=match rd st.env a with|some (v,e)=>some (v,⟨e,st.hs⟩)|none=>none:=rfl
theorem IK {a b:Rd}{st:St}:jG (.c (B_ false)) a b st=match rd st.env b with|some (v,e)=>some (v,⟨e,st.hs⟩)|none=>none:=rfl
theorem FY {β:Type}{op:lX}{e:aK}{hs:HS}{k:AV->aK->HS->Option β}:br P op e hs k=eJ (cm op (Dn P) ⟨e,hs⟩) k:=by
 cases op with
 |mov x=>grind [br,cm,Mb,dD,eJ]
 |pick c a b =>
  simp only[br,cm,dD]
  cases hc:rd e c with
  |none=>grind [jG,eJ]
  |some q =>
   obtain⟨v,e1⟩:=q;have h0:jG c a b ⟨e,hs⟩=jG (.c v) a b ⟨e1,hs⟩:=by
    unfold jG;simp only;rw[hc];rfl
   rw[h0];simp only;split
   .rename_i va _ vb _ hst hra hrb;simp only[af]at hst;have ea:=qq hst.1 hra;have eb:=qq hst.2 hrb;subst ea;subst eb;simp only[eJ]
    cases v with
    |d x=>cases x with
     |bool t =>
      cases t
      all_goals grind [IK,Mw,bA,H7]
     |_=>rfl
    |_=>rfl
   .simp only[bP,eJ]
    grind
 |ld n t p =>
  cases t with
  |zero =>
   simp only[br,cm,An,dD,eJ]
   cases rd e p with
   |none=>rfl
   |some q =>
    obtain⟨v,e1⟩:=q;simp only[fw,bA]
    cases hl:loadAt hs.heap n 0 v with
    |none=>rfl
    |some r=>obtain⟨v2,h2⟩:=r;simp only[ahn hl]
  |succ t =>
   grind [br,cm,An,dD,eJ,bP]
 |alloc zs=>rfl
 |box x =>
  grind [br,cm,L9,dD,eJ,cX,lA,D2]
 |build zs ps =>
  grind [br,cm,Ai,lO,eJ,bA]
 |mks m ps =>
  grind [br,cm,IW,lO,eJ,bA]
 |mksv m ps =>
  grind [br,cm,QL,lO,eJ,cX,lA,D2,MB]
 |st n p x =>
  simp only[br,cm,acg,dD,eJ]
  grind [bA]
 |nilck x =>
  grind [br,cm,C7,dD,eJ,bA,Rt]
 |bin op x y =>
  simp only[br,cm,Ia,Mp,dD,eJ]
  grind [bA,gr,aiz]
 |binb neg x y =>
  simp only[br,cm,Gn,dD,eJ]
  grind [bA,Qh]
 |bina neg ks x y =>
  simp only[br,cm,Gg,dD,eJ]
  cases rd e x<;>grind [bA,PK]
 |un op x =>
  grind [br,cm,Sd,dD,eJ,bA,unD,aln]
 |conv j x =>
  simp only[br,cm,Du,dD,eJ]
  cases rd e x with
  |none=>rfl
  |some q =>
   obtain⟨v,e1⟩:=q;simp only[bA,Vj]
   grind
 |toStr x =>
  simp only[br,cm,Gv,dD,eJ]
  grind [bA,Ln]
 |mkfn f a c =>
  grind [br,cm,Dm,lO,eJ]
 |mkslice z l c =>
  simp only[br,cm,ka,dD,eJ]
  cases rd e l<;>grind [bA,Dp]
 |slice m x lo hi mx =>
  simp only[br,cm,Ha,dD,aaA,eJ]
  cases rd e x<;>grind [bA,O9]
 |slarr n x lo hi mx =>
  simp only[br,cm,L7,dD,aaA,eJ]
  cases rd e x with
  |none=>rfl
  |some q =>
   obtain⟨v,e1⟩:=q;simp only
   cases v<;>grind [bA,K3]
 |fa off p =>
  grind [br,cm,SA,dD,eJ,bA]
 |fld off n x =>
  simp only[br,cm,IR,dD,eJ]
  cases rd e x with
  |none=>rfl
  |some q =>
   obtain⟨v,e1⟩:=q;simp only[bA,akF]
   grind
 |ia n x i =>
  simp only[br,cm,WQ,dD,eJ]
  cases rd e x with
  |none=>rfl
  |some q =>
   obtain⟨v,e1⟩:=q;simp only
   cases rd e1 i with
   |none=>rfl
   |some q =>
    obtain⟨w,e2⟩:=q;simp only[bA,Rr]
    cases oJ w with
    |none=>rfl
    |some j =>
     simp only
     cases v<;>grind
 |iarr l n p i =>
  simp only[br,cm,Hl,dD,eJ]
  cases rd e p<;>grind [bA,EE]
 |ix l n a x i =>
  simp only[br,cm,OX,dD,eJ]
  cases rd e x with
  |none=>rfl
  |some q =>
   obtain⟨v,e1⟩:=q;simp only
   cases hi:rd e1 i with
   |none=>grind
   |some q =>
    obtain⟨w,e2⟩:=q;simp only[bA,ixV]
    grind
 |ixs x i =>
  simp only[br,cm,HW,dD,eJ]
  cases rd e x with
  |none=>rfl
  |some q =>
   obtain⟨v,e1⟩:=q;simp only
   cases hi:rd e1 i with
   |none=>grind
   |some q =>
    obtain⟨w,e2⟩:=q;simp only[bA,amT]
    grind
 |ext j mv i =>
  cases mv with
  |true =>
   simp only[br,cm,zj,eJ]
   cases get e j with
   |none=>rfl
   |some t =>
    simp only[bA,zY,Pe]
    grind
  |false =>
   simp only[br,cm,zj,eJ]
   cases get e j with
   |none=>rfl
   |some t =>
    simp only[bA,zY]
    grind
 |len x =>
  grind [br,cm,MH,dD,eJ,bA]
 |cap x =>
  simp only[br,cm,I7,dD,eJ]
  cases rd e x with
  |none=>rfl
  |some q =>
   obtain⟨v,e1⟩:=q;simp only[cX,akL]
   grind
 |app m x y =>
  simp only[br,cm,CU,dD,eJ]
  cases rd e x<;>grind [bP,SR]
 |appz z x n =>
  simp only[br,cm,Wz,dD,eJ]
  grind [bP,ahO]
 |cpy m x y =>
  simp only[br,cm,QS,dD,eJ]
  cases rd e x with
  |none=>rfl
  |some q =>
   obtain⟨v,e1⟩:=q;simp only
   cases rd e1 y with
   |none=>rfl
   |some q =>
    obtain⟨w,e2⟩:=q;simp only[bP,Yx]
    cases elems hs.heap w with
    |none=>rfl
    |some ys =>
     simp only
     cases v with
     |sl id off len =>
      grind
     |_ =>
      simp only;generalize lenOf _=n
      cases n with
      |none=>rfl
      |some n=>cases n<;>rfl
 |clr z x =>
  simp only[br,cm,Md,dD,eJ]
  cases rd e x with
  |none=>rfl
  |some q =>
   simp only[bA,amj]
   grind
 |minmax b xs =>
  simp only[br,cm,w8,lO,eJ]
  cases rdAll e xs with
  |none=>rfl
  |some q =>
   simp only[bA,Gb]
   grind
 |call f args =>
  grind [br,cm,Bn,lO,eJ,bA]
 |calli f args =>
  grind [br,cm,At,lO,eJ,bP]
 |callv f args =>
  simp only[br,cm,AG,dD,lO,eJ]
  grind [bP]
 |kill is=>rfl
 |idxb x c =>
  simp only[br,cm,Wp,dD,eJ]
  grind [bA]
 |_ =>
  simp only[br,bP,eJ]
  grind
theorem JG:∀{l:S_}{e e1:aK}{vs:D_},ik l=true->rdAll e l=some (vs,e1)->e1=e
 |[],e,e1,vs,_,h=>by grind [rdAll]
 |x::r,e,e1,vs,hs,h=>by
  simp only[ik,af]at hs;simp only[rdAll]at h;split at h
  .simp at h
  .rename_i v e2 h1;split at h
   .simp at h
   .rename_i vs2 e3 h2;have a1:=qq hs.1 h1;have a2:=JG hs.2 h2
    simp_all
theorem jf {β:Type}{e:aK}{x:Rd}{k:AV->aK->Option β}(h:bj x=true):bR e x k=bR e x λv _=>k v e:=by
 grind [bR,qq]
theorem uo {β:Type}{e:aK}{l:S_}{k:D_->aK->Option β}(h:ik l=true):jl e l k=jl e l λv _=>k v e:=by
 grind [lO,JG]
theorem It {β:Type}{e:aK}{x:Y_}{k:L_->aK->Option β}(h:QR x=true):kD e x k=kD e x λv _=>k v e:=by
 cases x with
 |none=>rfl
 |some x=>exact jf (k:=λv e=>k (some v) e) h
theorem jW {α β γ:Type}{x:Option α}{f:α->Option β}{g:β->Option γ}:bA (bA x f) g=bA x λv=>bA (f v) g:=by
 cases x<;>rfl
theorem eq {β γ:Type}{e:aK}{x:Rd}{k:AV->aK->Option β}{g:β->Option γ}:bA (bR e x k) g=bR e x λv e=>bA (k v e) g:=by
 simp only[bR];cases rd e x<;>rfl
theorem ES {β γ:Type}{e:aK}{x:S_}{k:D_->aK->Option β}{g:β->Option γ}:bA (jl e x k) g=jl e x λv e=>bA (k v e) g:=by
 simp only[lO];cases rdAll e x<;>rfl
theorem dY {α β:Type}{v:α}{f:α->Option β}:bA (some v) f=f v:=rfl
theorem LN {β:Type}{e:aK}{x y:Rd}{k:AV->AV->aK->Option β}(h:bj x=true)(h2:bj y=true):(bR e x λa e=>bR e y λb e=>k a b e)=bR e x λa _=>bR e y λb _=>k a b e:=by
 grind [bR,qq]
theorem Ir {β:Type}{e:aK}{x y:Rd}{k:AV->AV->Option β}(h:bj x=true)(h2:bj y=true):(bR e x λa e=>bR e y λb _=>k a b)=bR e x λa _=>bR e y λb _=>k a b:=LN (k:=λa b _=>k a b) h h2
theorem aeg {β:Type}{op:lX}{e:aK}{hs:HS}{k:AV->aK->HS->Option β}(h:cV op=true):br P op e hs k=bA (br P op e hs λv _ _=>some v) λv=>k v e hs:=by
 cases op with
 |mov x =>
  grind [cV,br,eq,dY,jf]
 |ld n t p =>
  cases t<;>simp_all [cV,br,eq,jW,dY,jf]
 |nilck x =>
  grind [cV,br,eq,jW,dY,jf]
 |un op x =>
  grind [cV,br,eq,jW,dY,jf]
 |conv op x =>
  grind [cV,br,eq,jW,dY,jf]
 |fa off p =>
  grind [cV,br,eq,jW,dY,jf]
 |fld off n p =>
  grind [cV,br,eq,jW,dY,jf]
 |len x =>
  grind [cV,br,eq,jW,dY,jf]
 |bin op x y =>
  simp only[cV,af]at h;simp only[br,eq,jW,dY];exact(LN h.1 h.2).trans (Ir h.1 h.2).symm
 |binb op x y =>
  simp only[cV,af]at h;simp only[br,eq,jW,dY];exact(LN h.1 h.2).trans (Ir h.1 h.2).symm
 |ia n x y =>
  simp only[cV,af]at h;simp only[br,eq,jW,dY];exact(LN h.1 h.2).trans (Ir h.1 h.2).symm
 |iarr l n x y =>
  simp only[cV,af]at h;simp only[br,eq,jW,dY];exact(LN h.1 h.2).trans (Ir h.1 h.2).symm
 |ix l n a x y =>
  simp only[cV,af]at h;simp only[br,eq,jW,dY];exact(LN h.1 h.2).trans (Ir h.1 h.2).symm
 |ixs x y =>
  simp only[cV,af]at h;simp only[br,eq,jW,dY];exact(LN h.1 h.2).trans (Ir h.1 h.2).symm
 |ext j mv i =>
  cases mv with
  |true=>simp[cV]at h
  |false =>
   simp only[br]
   cases get e j with
   |none=>rfl
   |some t=>grind [jW,dY]
 |call f args =>
  grind [cV,br,ES,jW,dY,uo]
 |build zs ps =>
  grind [cV,br,ES,jW,dY,uo]
 |slice m x lo hi mx =>
  simp only[cV,af]at h;obtain⟨h0,h1,h2,h3⟩:=h;have bd:∀{γ:Type}{x:Y_}{e:aK}{k:L_->aK->L_}{g:AV->Option γ},bA (kD e x k) g=kD e x λv e=>bA (k v e) g:=by
   intro γ x e k g
   cases x with
   |none=>rfl
   |some x=>exact eq
  simp only[br,eq,bd,jW,dY];rw[jf h0,jf (k:=λv e_1=>kD e_1 lo λv_1 e_1=>kD e_1 hi λv_2 e_1=>kD e_1 mx λv_3 _=>bA (O9 hs.heap m v v_1 v_2 v_3) λv=>k v e hs) h0]
  congr 1
  funext v _;rw[It h1,It (k:=λv_1 e_1=>kD e_1 hi λv_2 e_1=>kD e_1 mx λv_3 _=>bA (O9 hs.heap m v v_1 v_2 v_3) λv=>k v e hs) h1]
  grind [It]
 |minmax b ps =>
  grind [cV,br,ES,jW,dY,uo]
 |toStr x =>
  grind [cV,br,eq,jW,dY,jf]
 |mkslice z x y =>
  simp only[cV,af]at h;simp only[br,eq,jW,dY];exact(LN h.1 h.2).trans (Ir h.1 h.2).symm
 |mkfn f a c =>
  simp_all [cV,br,ES,dY,uo]
 |pick c a b =>
  simp only[cV,af]at h;simp only[br,eq];have h2:(bj a && bj b)=true:=u_;simp only[bR]
  cases hc:rd e c with
  |none=>rfl
  |some q =>
   obtain⟨v,e1⟩:=q;have:=qq h.1.1 hc;subst this;simp only[h2]
   cases ha:rd e1 a with
   |none =>
    cases hb:rd e1 b with
    |none =>
     cases v<;>try rfl
     rename_i d;cases d<;>try rfl
     rename_i t;cases t<;>simp only[H7,IK,ha,hb,bP,bA]
    |some q =>
     have:=qq h.2 hb;subst this
     cases v<;>try rfl
     rename_i d;cases d<;>try rfl
     rename_i t;cases t<;>simp only[H7,IK,ha,hb,bP,bA]
   |some q =>
    obtain⟨va,ea⟩:=q;have:=qq h.1.2 ha;subst this
    cases hb:rd ea b with
    |none =>
     cases v<;>try rfl
     rename_i d;cases d<;>try rfl
     rename_i t;cases t<;>simp only[H7,IK,ha,hb,bP,bA]
    |some q=>grind [jW,dY]
 |_=>simp[cV]at h
theorem ahJ {α β γ δ ε:Type}{x:Option (α×β)}{f:α->β->Option (γ×δ)}{g:γ->δ->Option ε}:bP (bP x f) g=bP x λv w=>bP (f v w) g:=by
 cases x<;>rfl
theorem adc {β:Type}{op:lX}{e:aK}{hs:HS}{k:AV->aK->HS->Option β}(h:Bp op=true):br P op e hs k=bP (br P op e hs λv _ hs=>some (v,hs)) λv hs=>k v e hs:=by
 cases op with
 |calli f args =>
  simp only[br];rw[uo h];simp only[lO]
  cases rdAll e args with
  |none=>rfl
  |some q=>simp only[ahJ];rfl
 |callv f args =>
  simp only[Bp,af]at h;simp only[br];simp only[uo h.2];simp only[bR]
  cases hf:rd e f with
  |none=>rfl
  |some q =>
   obtain⟨v,e1⟩:=q;have:=qq h.1 hf;subst this;simp only[lO]
   cases rdAll e1 args with
   |none=>rfl
   |some q=>simp only[ahJ];rfl
 |_=>simp[Bp]at h
theorem TZ:firm (.tup [])=.tup []:=rfl
theorem KJ {i:VI}{e:aK}{hs:HS}{k:aK->HS->X_}:TP P i e hs k=bA (b4 (Dn P) i ⟨e,hs⟩) λst=>k st.env st.hs:=by
 obtain⟨dst,guard,op,th⟩:=i;unfold TP
 cases guard with
 |none =>
  simp only[b4,eE]
  cases th with
  |nil =>
   cases dst with
   |none =>
    simp only[FY,eJ,bS]
    cases cm op (Dn P) ⟨e,hs⟩<;>rfl
   |some d =>
    simp only[FY,eJ,bS]
    cases cm op (Dn P) ⟨e,hs⟩<;>rfl
  |cons p r =>
   cases dst with
   |none =>
    simp only[FY,eJ,bS,lP]
    cases cm op (Dn P) ⟨e,hs⟩<;>rfl
   |some d =>
    simp only[FY,eJ,bS,lP]
    cases cm op (Dn P) ⟨e,hs⟩<;>rfl
 |some g =>
  obtain⟨s,w⟩:=g;simp only;split
  .rename_i d hst;have he:∀{k:AV->aK->HS->X_},eJ (cm op (Dn P) ⟨e,hs⟩) k=bA (br P op e hs λv _ _=>some v) λv=>k v e hs:=by
    intro k;rw[<-FY,aeg hst]
   have hv:∀{k:aK->HS->X_},bA (eE (Dn P) ⟨some d,some (s,w),op,[]⟩ ⟨e,hs⟩) (λst=>k st.env st.hs)=bA (br P op e hs λv _ _=>some v) λv=>k (put e d (firm v)) hs:=by
    intro k;rw[<-he (k:=λv e hs=>k (put e d (firm v)) hs)];simp only[eE,eJ,bS]
    cases cm op (Dn P) ⟨e,hs⟩<;>rfl
   simp only[b4]
   cases get e s with
   |none=>rfl
   |some g =>
    cases g with
    |d x=>cases x with
     |bool b =>
      simp only[gV]
      cases hb:(b == w)<;>simp_all [bA,TZ,bS]
     |_=>rfl
    |tup vs=>cases vs<;>rfl
    |_=>rfl
  .split
   .rename_i d hst _;have he:∀{k:AV->aK->HS->X_},eJ (cm op (Dn P) ⟨e,hs⟩) k=bP (br P op e hs λv _ hs=>some (v,hs)) λv hs=>k v e hs:=by
     intro k;rw[<-FY,adc hst]
    have hv:∀{k:aK->HS->X_},bA (eE (Dn P) ⟨some d,some (s,w),op,[]⟩ ⟨e,hs⟩) (λst=>k st.env st.hs)=bP (br P op e hs λv _ hs=>some (v,hs)) λv hs=>k (put e d (firm v)) hs:=by
     intro k;rw[<-he (k:=λv e hs=>k (put e d (firm v)) hs)];simp only[eE,eJ,bS]
     cases cm op (Dn P) ⟨e,hs⟩<;>rfl
    simp only[b4]
    cases get e s with
    |none=>rfl
    |some g =>
     cases g with
     |d x=>cases x with
      |bool b =>
       simp only[gH]
       cases hb:(b == w)<;>simp_all [bA,bP,TZ,bS]
      |_=>rfl
     |tup vs=>cases vs<;>rfl
     |_=>rfl
   .rfl
theorem Te:∀{l:Q_}{e:aK}{hs:HS},ji (Dn P) l ⟨e,hs⟩=mY P l e hs
 |[],_,_=>rfl
 |i::l,e,hs=>by
  simp only[ji,mY,KJ,bA]
  cases b4 (Dn P) i ⟨e,hs⟩ with
  |none=>rfl
  |some st=>exact Te
theorem BH {d:Bool}{ops:Q_}{e:aK}{hs:HS}{x:X_}(h:mY P ops e hs=x):(Dn P).code (.reg d ops) ⟨e,hs⟩=ew x:=by
 grind [Oo,Te]
theorem abT {perm gco:C_}{ops:Q_}{e:aK}{hs:HS}{x:X_}(ha:oM e ops=true)(hb:(perm.all λi=>decide (i<ops.length))=true)(h:mY P (perm.filterMap λi=>ops[i]?) e hs=x):(Dn P).code (.regP perm gco [] ops) ⟨e,hs⟩=ew x:=by
 grind [aeO,TN,Te]
def al8 (e:aK)(d:H_):Bool :=
 match d with
 |some d=>match get e d with
  |some a=>FK a
  |none=>false
 |none=>false
def afx (P:Nat->W_)(F:C_)(v:VI)(e:aK)(hs:HS)(k:aK->HS->X_):X_ :=
 match qn v.op with
 |.call=>TP P v e hs λe2 s2=>cX (c4 F hs.heap s2.heap) (k e2 s2)
 |.take=>TP P v e hs λe2 s2=>cX (al8 e2 v.dst) (k e2 s2)
 |.read=>TP P v e ⟨dG (lQ v e) hs.heap,hs.next⟩ λe2 _=>k e2 hs
def Qf (P:Nat->W_):List (Bool×VI)->C_->aK->HS->X_
 |[],_,e,hs=>some ⟨e,hs⟩
 |(a,v)::l,F,e,hs=>match a with
  |false=>TP P v e hs λe2 s2=>Qf P l F e2 s2
  |true=>afx P F v e hs λe2 s2=>Qf P l (iD true v e F) e2 s2
theorem aiw {F:C_}{v:VI}{e:aK}{hs:HS}{k:aK->HS->X_}:afx P F v e hs k=bA (tN (Dn P) F v ⟨e,hs⟩) λst=>k st.env st.hs:=by
 unfold afx tN
 cases qn v.op with
 |call =>
  simp only[KJ]
  cases b4 (Dn P) v ⟨e,hs⟩ with
  |none=>rfl
  |some st =>
   simp only[bA]
   cases c4 F hs.heap st.hs.heap<;>rfl
 |take =>
  simp only[KJ]
  cases b4 (Dn P) v ⟨e,hs⟩ with
  |none=>rfl
  |some st =>
   simp only[bA,al8]
   cases v.dst with
   |none=>rfl
   |some d =>
    simp only
    cases get st.env d with
    |none=>rfl
    |some a=>simp only;cases FK a<;>rfl
 |read =>
  simp only[KJ]
  cases b4 (Dn P) v ⟨e,⟨dG (lQ v e) hs.heap,hs.next⟩⟩<;>rfl
def U8 (nr:C_)(ops:Q_)(i:Nat):Option (Bool×VI) :=
 match ops[i]? with
 |some v=>some (dl i nr,v)
 |none=>none
theorem OT {nr:C_}{ops:Q_}:∀{l:C_}{F:C_}{e:aK}{hs:HS},(l.all λi=>decide (i<ops.length))=true->d9 (Dn P) nr ops l F ⟨e,hs⟩=Qf P (l.filterMap (U8 nr ops)) F e hs
 |[],_,_,_,_=>rfl
 |i::l,F,e,hs,hb=>by
  simp only[fg,af,decide_eq_true_eq]at hb;have h1:ops[i]?=some ops[i]:=b7 hb.1;have h2:U8 nr ops i=some (dl i nr,ops[i]):=by grind [U8]
  simp only[d9,h1,List.filterMap_cons,h2,Qf,bx]
  cases dl i nr with
  |false =>
   simp only[KJ,iD]
   cases b4 (Dn P) ops[i] ⟨e,hs⟩ with
   |none=>rfl
   |some st=>exact OT hb.2
  |true =>
   simp only[aiw]
   cases tN (Dn P) F ops[i] ⟨e,hs⟩ with
   |none=>rfl
   |some st=>exact OT hb.2
theorem dX {perm gco nr:C_}{ops:Q_}{e:aK}{hs:HS}{x:X_}(ha:oM e ops=true)(hb:(perm.all λi=>decide (i<ops.length))=true)(h:Qf P (perm.filterMap (U8 nr ops)) [] e hs=x):(Dn P).code (.regP perm gco nr ops) ⟨e,hs⟩=ew x:=by
 rw[ic,<-h,<-OT hb];simp only[cj,GD,G0,ha]
 cases d9 (Dn P) nr ops perm [] ⟨e,hs⟩<;>rfl
abbrev F (i:Nat):VC:=.reg false [⟨none,none,.free i,[]⟩]
def frK (e:aK)(hs:HS)(i:Nat):L_->J_
 |some (.ptr id _)=>some (.normal,⟨del e i,⟨del hs.heap id,hs.next⟩⟩)
 |some (.fn _ _ caps)=>some (.normal,⟨del e i,⟨delAll hs.heap (Ds caps),hs.next⟩⟩)
 |_=>some (.normal,⟨e,hs⟩)
theorem aok {e:aK}{h:ak}{n i id o:Nat}:frK e ⟨h,n⟩ i (some (.ptr id o))=some (.normal,⟨del e i,⟨del h id,n⟩⟩):=rfl
theorem aoO {e:aK}{h:ak}{n i f:Nat}{a c:D_}:frK e ⟨h,n⟩ i (some (.fn f a c))=some (.normal,⟨del e i,⟨delAll h (Ds c),n⟩⟩):=rfl
theorem amD {i:Nat}{e:aK}{hs:HS}:(Dn P).code (F i) ⟨e,hs⟩=frK e hs i (get e i):=by
 rw[Oo];simp only[ji,b4,eE,cm,PY]
 cases get e i with
 |none=>rfl
 |some v=>cases v<;>rfl
abbrev K (l:C_):VC:=.reg false [⟨none,none,.kill l,[]⟩]
theorem ak8 {is:C_}{e:aK}{hs:HS}:(Dn P).code (K is) ⟨e,hs⟩=some (.normal,⟨is.foldl del e,hs⟩):=by rw[Oo];rfl
variable {P:Nat->W_}
attribute [simp ↓] akY alT alX alv alZ ala ak2 al3 amJ alR ald akS amg ak9 akX amN akW akN F6 ai8 ajR aki ajW aky
attribute [simp ↓] aeB aec ahg acM aek agh acC ak8 amD aok aoO aj5 akp adK
attribute [simp] delAll Ds
attribute [simp] aq6 ak7 aqk put1 aqy ak1
attribute [congr] ite_congr ajw ai0 afz ai3 aj9 agI
def Iq (x:Option (D_×St)):T_ :=
 match x with
 |some ([v],st)=>some (v,st.hs)
 |some (vs,st)=>some (.tup vs,st.hs)
 |none=>none
theorem alK {fn:aj}{st:St}:Ca fn st=Iq (ef st fn.results):=(by
 simp only[Ca,Iq]
 cases ef st fn.results with
 |none=>rfl
 |some q =>
  obtain⟨vs,s⟩:=q
  cases vs with
  |nil=>rfl
  |cons v r=>cases r<;>rfl)
@[simp] theorem atn {st:St}:Iq (some ([],st))=some (.tup [],st.hs):=(rfl)
@[simp] theorem as7 {v:AV}{st:St}:Iq (some ([v],st))=some (v,st.hs):=(rfl)
@[simp] theorem atb {v w:AV}{r:D_}{st:St}:Iq (some (v::w::r,st))=some (.tup (v::w::r),st.hs):=(rfl)
def lF (rs:AF_)(x:J_):T_ :=
 match x with
 |some (.normal,st)=>Iq (ef st rs)
 |some (.ret,st)=>Iq (ef st rs)
 |_=>none
@[simp ↓] theorem atD {rs:AF_}{st:St}:lF rs (some (.normal,st))=Iq (ef st rs):=(rfl)
@[simp ↓] theorem asI {rs:AF_}{st:St}:lF rs (some (.ret,st))=Iq (ef st rs):=(rfl)
@[simp ↓] theorem asN {rs:AF_}{c:Prop}[Decidable c]{x y:J_}:lF rs (if c then x else y)=if c then lF rs x else lF rs y:=by split<;>rfl
@[simp ↓] theorem abd {n:Nat}{rs:AF_}{b:VC}{x:J_}:Pi ⟨n,rs,b⟩ x=lF rs x:=by
 simp only[Pi,lF];split<;>simp only[alK]
theorem ajY {rs:AF_}{x y:J_}(h:x=y):lF rs x=lF rs y:=by rw[h]
attribute [congr] ajY
theorem ah {a b:VC}{st:St}(h:a=b):(Dn P).code (.loop a) st=oI P a ((Dn P).code b st):=by rw[<-h];exact aex
theorem aM {f:FuncId}{fn:aj}{n:Nat}{rs:AF_}{b:VC}{args:D_}(hf:P f=some fn)(hd:fn=⟨n,rs,b⟩)(hl:args.length=n):bl P f args=kH (lF rs ((Dn P).code b ⟨iK 0 args,⟨[],0⟩⟩)):=by
 subst hd;rw[ahH hf hl,abd]
theorem bN {f:FuncId}{fn:aj}{n:Nat}{rs:AF_}{b:VC}{args:D_}{hs:HS}(hf:P f=some fn)(hd:fn=⟨n,rs,b⟩)(hl:args.length=n):(Dn P).call f args hs=lF rs ((Dn P).code b ⟨iK 0 args,hs⟩):=by
 subst hd;rw[Tp hf hl,abd]
@[simp ↓] theorem auh {α β:Type}{v:α}{f:α->Option β}:bA (some v) f=f v:=(rfl)
@[simp ↓] theorem aui {α β:Type}{f:α->Option β}:bA none f=none:=(rfl)
@[simp ↓] theorem aue {α β:Type}{c:Prop}[Decidable c]{x y:Option α}{f:α->Option β}:bA (if c then x else y) f=if c then bA x f else bA y f:=by split<;>rfl
@[simp ↓] theorem auk {α γ β:Type}{v:α}{w:γ}{f:α->γ->Option β}:bP (some (v,w)) f=f v w:=(rfl)
@[simp ↓] theorem aur {α γ β:Type}{f:α->γ->Option β}:bP none f=none:=(rfl)
@[simp ↓] theorem aut {α γ β:Type}{c:Prop}[Decidable c]{x y:Option (α×γ)}{f:α->γ->Option β}:bP (if c then x else y) f=if c then bP x f else bP y f:=by split<;>rfl
@[simp ↓] theorem auu {α β:Type}{x:α}{f:α->β}:lA x f=f x:=(rfl)
@[simp ↓] theorem auf {α γ β:Type}{x:α}{y:γ}{f:α->γ->β}:lP (x,y) f=f x y:=(rfl)
@[simp ↓] theorem at8 {β:Type}{x:Option β}:cX true x=x:=(rfl)
@[simp ↓] theorem atP {β:Type}{x:Option β}:cX false x=none:=(rfl)
theorem aoh {α β:Type}{x y:Option α}{f:α->Option β}(h:x=y):bA x f=bA y f:=by rw[h]
theorem aop {α γ β:Type}{x y:Option (α×γ)}{f:α->γ->Option β}(h:x=y):bP x f=bP y f:=by rw[h]
theorem aoj {α β:Type}{x y:α}{f:α->β}(h:x=y):lA x f=lA y f:=by rw[h]
theorem ank {α γ β:Type}{x y:α×γ}{f:α->γ->β}(h:x=y):lP x f=lP y f:=by rw[h]
attribute [congr] aoh aop aoj ank
@[simp ↓] theorem atQ {x:L_}:gV (B_ true) true x=x:=(rfl)
@[simp ↓] theorem atH {x:L_}:gV (B_ false) false x=x:=(rfl)
@[simp ↓] theorem atK {x:L_}:gV (B_ true) false x=some (.tup []):=(rfl)
@[simp ↓] theorem auc {x:L_}:gV (B_ false) true x=some (.tup []):=(rfl)
@[simp ↓] theorem aul {w:Bool}{x:L_}:gV (.tup []) w x=some (.tup []):=(rfl)
@[simp ↓] theorem atT {hs:HS}{x:T_}:gH (B_ true) true hs x=x:=(rfl)
@[simp ↓] theorem at2 {hs:HS}{x:T_}:gH (B_ false) true hs x=some (.tup [],hs):=(rfl)
@[simp ↓] theorem asj {a b:AV}:Mw (B_ true) a b=some a:=(rfl)
@[simp ↓] theorem ast {a b:AV}:Mw (B_ false) a b=some b:=(rfl)
@[simp] theorem asG {x:D}:firm (.d x)=.d x:=(rfl)
@[simp] theorem asn:firm .nl=.nl:=(rfl)
@[simp] theorem ara {p:Bool}{m:Nat}{xs:F_}:firm (.own p m xs)=.own false m xs:=(rfl)
@[simp] theorem aqU {cs:D_}:firm (.agg cs)=.agg (cs.map nC):=(rfl)
@[simp] theorem aqV {cs:D_}:firm (.tup cs)=.tup (cs.map oD):=(rfl)
@[simp] theorem aqH {a b:Nat}:firm (.ptr a b)=.ptr a b:=(rfl)
@[simp] theorem arE {a b c:Nat}:firm (.pel a b c)=.pel a b c:=(rfl)
@[simp] theorem aqQ {a:U_}{b:Nat}:firm (.pim a b)=.pim a b:=(rfl)
@[simp] theorem arX {a b c:Nat}:firm (.sl a b c)=.sl a b c:=(rfl)
@[simp] theorem asv {f:FuncId}{a b:D_}:firm (.fn f a b)=.fn f a b:=(rfl)
@[simp] theorem aoz {n:Nat}:firm (.yield n)=.yield n:=(rfl)
theorem xn {op:BinOp}{a b:AV}{x:D}(h:cL op a b=some (.d x)):gr op a b=some x:=by simp only[gr,h]
theorem AA {op:BinOp}{a b:AV}{c:Prop}[Decidable c]{x y:D}(h:cL op a b=if c then some (.d x) else some (.d y)):gr op a b=if c then some x else some y:=by
 by_cases hc:c<;>simp[gr,h,hc]
@[simp] theorem atz {k:IntKind}{a b:Int}:gr .add (.d (.int k a)) (.d (.int k b))=some (.int k (wr k (a+b))):=xn ajt
@[simp] theorem as5 {k:IntKind}{a b:Int}:gr .sub (.d (.int k a)) (.d (.int k b))=some (.int k (wr k (a-b))):=xn ajr
@[simp] theorem asM {k:IntKind}{a b:Int}:gr .mul (.d (.int k a)) (.d (.int k b))=some (.int k (wr k (a*b))):=xn ajM
@[simp] theorem asB {k:IntKind}{a b:Int}(h:b≠0):gr .quo (.d (.int k a)) (.d (.int k b))=some (.int k (wr k (a.tdiv b))):=xn (ako h)
@[simp] theorem atk {k:IntKind}{a b:Int}(h:b≠0):gr .rem (.d (.int k a)) (.d (.int k b))=some (.int k (a.tmod b)):=xn (ajS h)
@[simp] theorem asK {k:IntKind}{a b:Int}:gr .eql (.d (.int k a)) (.d (.int k b))=if a=b then some (.bool true) else some (.bool false):=AA akc
@[simp] theorem asJ {k:IntKind}{a b:Int}:gr .neq (.d (.int k a)) (.d (.int k b))=if a=b then some (.bool false) else some (.bool true):=AA ait
@[simp] theorem att {k:IntKind}{a b:Int}:gr .lss (.d (.int k a)) (.d (.int k b))=if a<b then some (.bool true) else some (.bool false):=AA ajb
@[simp] theorem atq {k:IntKind}{a b:Int}:gr .leq (.d (.int k a)) (.d (.int k b))=if a<=b then some (.bool true) else some (.bool false):=AA ajQ
@[simp] theorem ato {k:IntKind}{a b:Int}:gr .gtr (.d (.int k a)) (.d (.int k b))=if b<a then some (.bool true) else some (.bool false):=AA ajK
@[simp] theorem asD {k:IntKind}{a b:Int}:gr .geq (.d (.int k a)) (.d (.int k b))=if b<=a then some (.bool true) else some (.bool false):=AA aiV
@[simp] theorem Ei {k j:IntKind}{a b:Int}(h:0<=b):gr .shl (.d (.int k a)) (.d (.int j b))=some (.int k (wr k (a*((2 ^ (min b.toNat k.bits):Nat):Int)))):=xn (aix h)
@[simp] theorem adH {k j:IntKind}{a b:Int}(h:0<=b):gr .shr (.d (.int k a)) (.d (.int j b))=some (.int k (a.fdiv ((2 ^ (min b.toNat k.bits):Nat):Int))):=xn (akx h)
@[simp] theorem asr {a b:BA_}:gr .eql (.d (.str a)) (.d (.str b))=if a=b then some (.bool true) else some (.bool false):=AA ag2
theorem am9 {k:IntKind}{a b:Nat}(h:a<Ea k)(h2:b<Ea k)(h3:a |||b<Ea k):gr .or (.d (.int k (a:Int))) (.d (.int k (b:Int)))=some (.int k ((a |||b:Nat):Int)):=xn (ama h h2 h3)
theorem aej {n b:Nat}(h:b<=1):2*n |||b=2*n+b:=by
 have:=Nat.two_pow_add_eq_or_of_lt (i:=1) (b:=b) o_ n;simpa using this.symm
@[simp] theorem asP {a b:Int}(h:0<=a)(h1:a<4611686018427387904)(h2:a % 2=0)(h3:0<=b)(h4:b<=1):gr .or (A_ a) (A_ b)=some (.int .i64 (a+b)):=by
 obtain⟨n,rfl⟩:∃n:Nat,a=((2*n:Nat):Int):=⟨(a / 2).toNat,o_⟩
 obtain⟨m,rfl⟩:=az h3;have hm:m<=1:=o_;have ht:Ea .i64=9223372036854775808:=rfl;rw[am9 o_ o_ (by rw[aej hm];omega),aej hm];simp
@[simp] theorem asq {b:Bool}:unD .not (B_ b)=some (.bool !b):=(rfl)
@[simp] theorem arP {k:IntKind}{n:Int}:unD .neg (.d (.int k n))=some (.int k (wr k (0-n))):=(rfl)
@[simp] theorem ar9 {k j:IntKind}{n:Int}:Vj k (.d (.int j n))=some (.int k (wr k n)):=(rfl)
attribute [simp] Q0 aoP alD akU aly
attribute [simp] af4 agz aeU ae5 IntKind.bits
@[simp] theorem arH {h:ak}{m:Nat}{xs:F_}{k:IntKind}{i:Int}(h0:0<=i):Rr h m (.d (.lst xs)) (.d (.int k i))=bA xs[i.toNat]? λx=>if x.length=m then some (.pim x 0) else none:=by
 simp only[Rr,MD h0,elems]
 cases xs[i.toNat]? with
 |none=>rfl
 |some x =>
  simp only[bA];by_cases hx:x.length=m
  .simp[hx]
  .simp[hx,SN]
@[simp] theorem asS {h:ak}{m j:Nat}{xs:F_}{k:IntKind}{i:Int}(h0:0<=i):Rr h m (.own false j xs) (.d (.int k i))=bA xs[i.toNat]? λx=>if x.length=m then some (.pim x 0) else none:=by
 simp only[Rr,MD h0,elems]
 cases xs[i.toNat]? with
 |none=>rfl
 |some x =>
  simp only[bA];by_cases hx:x.length=m
  .simp[hx]
  .simp[hx,SN]
attribute [simp] xb afO adj
@[simp] theorem ar1 {h:ak}{n:H_}{cs:U_}{o:Nat}:fw h n (.pim cs o)=mi n cs o:=by
 simp only[fw,loadAt];cases mi n cs o<;>rfl
@[simp] theorem aqO {cs:U_}{o:Nat}:mi none cs o=(cs[o]?).map .d:=by simp only[mi];cases cs[o]?<;>rfl
@[simp] theorem aq8 {cs:U_}{n o:Nat}:mi (some n) cs o=if o+n<=cs.length then some (.agg ((sub cs o n).map .d)) else none:=by
 by_cases h:o+n<=cs.length<;>simp[mi,Sq,h]
@[simp] theorem gq0 {α:Type}{x:α}{r:List α}:(x::r)[0]?=some x:=(rfl)
@[simp] theorem aqZ {f:FuncId}{vs:D_}{h:ak}:dI (Dn P) f vs h=bA (viewArgs h vs) λds=>bA (bl P f ds) λv=>if vs.any ue=false then some v else if jb v=true then some v else some (Hx v):=by
 simp only[dI,bl,kH,bA]
 cases viewArgs h vs with
 |none=>rfl
 |some ds =>
  simp only
  cases (Dn P).call f ds ⟨[],0⟩ with
  |none=>rfl
  |some q =>
   obtain⟨v,h2⟩:=q;simp only
   cases fq h2.heap v with
   |none=>rfl
   |some v =>
    simp only
    cases vs.any ue with
    |false=>rfl
    |true=>simp only;cases jb v<;>rfl
@[simp] theorem arJ {x:D}:share (.d x)=.d x:=(rfl)
@[simp] theorem ari  : share (.nl)=.nl:=(rfl)
@[simp] theorem an5 {m:Nat}{xs:F_}:share (.own false m xs)=.d (.lst xs):=(rfl)
@[simp] theorem apj {cs:D_}:share (.agg cs)=.agg (shareAll cs):=(rfl)
@[simp] theorem apq {cs:D_}:share (.tup cs)=.tup (shareAll cs):=(rfl)
@[simp] theorem apg {a b:Nat}:share (.ptr a b)=.ptr a b:=(rfl)
@[simp] theorem ao3 {a b c:Nat}:share (.pel a b c)=.pel a b c:=(rfl)
@[simp] theorem apZ {cs:U_}{b:Nat}:share (.pim cs b)=.pim cs b:=(rfl)
@[simp] theorem aqu {a b c:Nat}:share (.sl a b c)=.sl a b c:=(rfl)
@[simp] theorem aqa {f:FuncId}{a b:D_}:share (.fn f a b)=.fn f a b:=(rfl)
@[simp] theorem am1 {n:Nat}:share (.yield n)=.yield n:=(rfl)
@[simp] theorem aol  : shareAll []=[]:=(rfl)
@[simp] theorem aoJ {v:AV}{r:D_}:shareAll (v::r)=share v::shareAll r:=(by rw[nj])
@[simp] theorem asw {x:D}:nC (.d x)=.d x:=(rfl)
@[simp] theorem asm {x:D}:oD (.d x)=.d x:=(rfl)
@[simp] theorem arK {x:D}:AV.cells (.d x)=[.d x]:=(rfl)
@[simp] theorem aq7 {x:D}:b9 (.d x)=true:=(rfl)
@[simp] theorem arf {x:D}:wx (.d x)=b9 (.d x):=(rfl)
@[simp] theorem asH {x:D}:te (.d x)=false:=(rfl)
@[simp] theorem arM {x:D}:ue (.d x)=false:=(rfl)
@[simp] theorem aqK {x:D}:lV (.d x)=.d x:=(rfl)
@[simp] theorem aqj {x:D}:kX (.d x)=.d x:=(rfl)
@[simp] theorem aru {x:D}:nA (.d x)=.d x:=(rfl)
@[simp] theorem aq2  : nC (.nl)=.nl:=(rfl)
@[simp] theorem aqY  : oD (.nl)=.nl:=(rfl)
@[simp] theorem art  : AV.cells (.nl)=[.nl]:=(rfl)
@[simp] theorem ao4  : b9 (.nl)=true:=(rfl)
@[simp] theorem arN  : te (.nl)=false:=(rfl)
@[simp] theorem ao1  : iV (.nl)=true:=(rfl)
@[simp] theorem ap0  : iW (.nl)=true:=(rfl)
@[simp] theorem apQ  : lV (.nl)=.nl:=(rfl)
@[simp] theorem apU  : kX (.nl)=.nl:=(rfl)
@[simp] theorem apu {p:Bool}{m:Nat}{xs:F_}:nC (.own p m xs)=.own false m xs:=(rfl)
@[simp] theorem ao2 {p:Bool}{m:Nat}{xs:F_}:oD (.own p m xs)=.own false m xs:=(rfl)
@[simp] theorem ap1 {p:Bool}{m:Nat}{xs:F_}:AV.cells (.own p m xs)=[.own p m xs]:=(rfl)
@[simp] theorem anm {p:Bool}{m:Nat}{xs:F_}:b9 (.own p m xs)=!p:=(rfl)
@[simp] theorem aqI {p:Bool}{m:Nat}{xs:F_}:te (.own p m xs)=false:=(rfl)
@[simp] theorem ao7 {p:Bool}{m:Nat}{xs:F_}:ue (.own p m xs)=false:=(rfl)
@[simp] theorem apH {cs:D_}:oD (.agg cs)=.agg (cs.map nC):=(rfl)
@[simp] theorem aoY {cs:D_}:AV.cells (.agg cs)=cs:=(rfl)
@[simp] theorem aov {cs:D_}:wx (.agg cs)=true:=(rfl)
@[simp] theorem apW {cs:D_}:ue (.agg cs)=cs.any te:=(rfl)
@[simp] theorem aoX {a b:Nat}:AV.cells (.ptr a b)=[.ptr a b]:=(rfl)
@[simp] theorem aoF {a b:Nat}:b9 (.ptr a b)=true:=(rfl)
@[simp] theorem apb {a b:Nat}:Rt (.ptr a b)=some (.ptr a b):=(rfl)
@[simp] theorem aq1 {a b c:Nat}:nC (.sl a b c)=.sl a b c:=(rfl)
@[simp] theorem arw {a b c:Nat}:oD (.sl a b c)=.sl a b c:=(rfl)
@[simp] theorem arl {a b c:Nat}:AV.cells (.sl a b c)=[.sl a b c]:=(rfl)
@[simp] theorem apd {a b c:Nat}:wx (.sl a b c)=b9 (.sl a b c):=(rfl)
@[simp] theorem arW {a b c:Nat}:te (.sl a b c)=true:=(rfl)
@[simp] theorem aqX {f:FuncId}{a b:D_}:AV.cells (.fn f a b)=[.fn f a b]:=(rfl)
@[simp] theorem apP {xs:F_}:lenOf (.d (.lst xs))=some xs.length:=(rfl)
@[simp] theorem arp  : lenOf .nl=some 0:=(rfl)
@[simp] theorem apc {p:Bool}{m:Nat}{xs:F_}:lenOf (.own p m xs)=some xs.length:=(rfl)
@[simp] theorem aqA {a b n:Nat}:lenOf (.sl a b n)=some n:=(rfl)
@[simp] theorem ads {h:ak}{xs:F_}:elems h (.d (.lst xs))=some xs:=(rfl)
@[simp] theorem apJ {h:ak}{m:Nat}{xs:F_}:elems h (.own false m xs)=some xs:=(rfl)
@[simp] theorem aoy {o a b:Nat}:nI o (.ptr a b)=some (.ptr a (b+o)):=(rfl)
@[simp] theorem aor {o b:Nat}{cs:U_}:nI o (.pim cs b)=some (.pim cs (b+o)):=(rfl)
@[simp] theorem ati {cs:D_}{i:Nat}:zY true (.tup cs) i=cs[i]?:=(by simp only[zY];cases cs[i]?<;>rfl)
@[simp] theorem as8 {cs:D_}{i:Nat}:zY false (.tup cs) i=(cs[i]?).map share:=(by simp only[zY];cases cs[i]?<;>rfl)
@[simp] theorem asU {cs:D_}{i:Nat}:Pe (.tup cs) i=.tup (cs.set i .junk):=(rfl)
@[simp] theorem at3 {x:D}:BA (.d x)=some x:=(rfl)
@[simp] theorem atw  : BA .nl=some (.lst []):=(rfl)
@[simp] theorem as0  : kg []=some []:=(rfl)
@[simp] theorem atx {v:AV}{r:D_}:kg (v::r)=bA (BA v) λx=>bA (kg r) λxs=>some (x::xs):=(by
 simp only[kg]
 cases BA v with
 |none=>rfl
 |some q=>simp only[bA];cases kg r<;>rfl)
@[simp] theorem apz {m:Nat}:ij m []=some []:=(rfl)
@[simp] theorem apA {m:Nat}{v:AV}{r:D_}:ij m (v::r)=if v.cells.length=m then bA (kg v.cells) λx=>bA (ij m r) λxs=>some (x::xs) else none:=(by
 by_cases h:v.cells.length=m
 .simp only[ij,SN,h,decide_true,bK]
  cases kg v.cells with
  |none=>rfl
  |some q=>simp only[bA];cases ij m r<;>rfl
 .simp only[ij,SN,h,decide_false,bu])
@[simp] theorem amV {cs:D_}:dL cs []=some cs:=(rfl)
@[simp] theorem am7 {cs:D_}{o n:Nat}{v:AV}{r:List (Nat×Nat×AV)}:dL cs ((o,n,v)::r)=if v.cells.length=n∧wx v=true∧o+n<=cs.length then dL (ar cs o v.cells) r else none:=(by
 simp only[dL,SN,Sq];by_cases h:v.cells.length=n<;>by_cases h2:wx v=true<;>by_cases h3:o+n<=cs.length<;>simp[h,h2,h3])
theorem Je {α:Type}{cs vs:List α}{o:Nat}:ar cs o vs=cs.take o++vs++cs.drop (o+vs.length):=(rfl)
attribute [simp] Je
theorem acP {α:Type}{cs:List α}{o n:Nat}:sub cs o n=(cs.drop o).take n:=(rfl)
attribute [simp] acP
@[simp] theorem apG {h:ak}{x:D}:viewOne h (.d x)=some (.d x):=(rfl)
@[simp] theorem aoa {h:ak}:viewOne h .nl=some .nl:=(rfl)
@[simp] theorem amX {h:ak}{m:Nat}{xs:F_}:viewOne h (.own false m xs)=some (.d (.lst xs)):=(rfl)
@[simp] theorem an0 {h:ak}{a b c:Nat}:viewOne h (.sl a b c)=bA (elems h (.sl a b c)) λxs=>some (.d (.lst xs)):=(by simp only[viewOne];cases elems h (.sl a b c)<;>rfl)
@[simp] theorem apT {h:ak}:viewAll h []=some []:=(rfl)
@[simp] theorem apC {h:ak}{v:AV}{r:D_}:viewAll h (v::r)=bA (viewOne h v) λx=>bA (viewAll h r) λxs=>some (x::xs):=(by
 simp only[viewAll]
 cases viewOne h v with
 |none=>rfl
 |some q=>simp only[bA];cases viewAll h r<;>rfl)
@[simp] theorem apf {h:ak}{x:D}:viewArg h (.d x)=viewOne h (.d x):=(rfl)
@[simp] theorem am2 {h:ak}{p:Bool}{m:Nat}{xs:F_}:viewArg h (.own p m xs)=viewOne h (.own p m xs):=(rfl)
@[simp] theorem amU {h:ak}{cs:D_}:viewArg h (.agg cs)=bA (viewAll h cs) λxs=>some (.agg xs):=(by simp only[viewArg];cases viewAll h cs<;>rfl)
@[simp] theorem aoR {h:ak}:viewArgs h []=some []:=(rfl)
@[simp] theorem anF {h:ak}{v:AV}{r:D_}:viewArgs h (v::r)=bA (viewArg h v) λx=>bA (viewArgs h r) λxs=>some (x::xs):=(by
 simp only[viewArgs]
 cases viewArg h v with
 |none=>rfl
 |some q=>simp only[bA];cases viewArgs h r<;>rfl)
@[simp] theorem aqs {h:ak}{x:D}:jF h (.d x)=some (.d x,h):=(rfl)
@[simp] theorem ap2 {h:ak}:jF h .nl=some (.nl,h):=(rfl)
@[simp] theorem an8 {h:ak}{p:Bool}{m:Nat}{xs:F_}:jF h (.own p m xs)=some (.own p m xs,h):=(rfl)
@[simp] theorem aqE {h:ak}:oN h []=some ([],h):=(rfl)
@[simp] theorem aqJ {h:ak}{v:AV}{r:D_}:oN h (v::r)=bP (jF h v) λx h=>bP (oN h r) λxs h=>some (x::xs,h):=(by simp only[oN];cases jF h v with
 |none=>rfl
 |some q=>simp only[bP];cases oN q.2 r<;>rfl)
@[simp] theorem aon {h:ak}{cs:D_}:fG h (.agg cs)=bP (oN h cs) λxs h=>some (.agg xs,h):=(by simp only[fG];cases oN h cs<;>rfl)
@[simp] theorem arB {h:ak}{x:D}:fG h (.d x)=jF h (.d x):=(rfl)
@[simp] theorem apS {h:ak}  : fG h (.nl)=jF h (.nl):=(rfl)
@[simp] theorem anv {h:ak}{p:Bool}{m:Nat}{xs:F_}:fG h (.own p m xs)=jF h (.own p m xs):=(rfl)
@[simp] theorem apE {h:ak}{a b c:Nat}:fG h (.sl a b c)=jF h (.sl a b c):=(rfl)
@[simp] theorem apw {h:ak}:pK h []=some ([],h):=(rfl)
@[simp] theorem aps {h:ak}{v:AV}{r:D_}:pK h (v::r)=bP (fG h v) λx h=>bP (pK h r) λxs h=>some (x::xs,h):=(by simp only[pK];cases fG h v with
 |none=>rfl
 |some q=>simp only[bP];cases pK q.2 r<;>rfl)
@[simp] theorem um {h:ak}{cs:D_}:fq h (.tup cs)=bP (pK h cs) λxs _=>some (dZ (.tup xs)):=(by simp only[fq];cases pK h cs<;>rfl)
@[simp] theorem aqh {h:ak}{x:D}:fq h (.d x)=bP (fG h (.d x)) λx _=>some (dZ x):=(by simp only[fq];cases fG h (.d x)<;>rfl)
@[simp] theorem anI {h:ak}{p:Bool}{m:Nat}{xs:F_}:fq h (.own p m xs)=bP (fG h (.own p m xs)) λx _=>some (dZ x):=(by simp only[fq];cases fG h (.own p m xs)<;>rfl)
@[simp] theorem aom {h:ak}{cs:D_}:fq h (.agg cs)=bP (fG h (.agg cs)) λx _=>some (dZ x):=(by simp only[fq];cases fG h (.agg cs)<;>rfl)
@[simp] theorem ao5 {h:ak}{a b c:Nat}:fq h (.sl a b c)=bP (fG h (.sl a b c)) λx _=>some (dZ x):=(by simp only[fq];cases fG h (.sl a b c)<;>rfl)
@[simp] theorem aoZ {v:AV}:dZ v=if jb v=true then nA v else v:=(by simp only[dZ];cases jb v<;>rfl)
@[simp] theorem aqi {x:D}:iV (.d x)=jx x:=(rfl)
@[simp] theorem anB {p:Bool}{m:Nat}{xs:F_}:iV (.own p m xs)=xs.all λe=>e.all jx:=(rfl)
@[simp] theorem ape {k:IntKind}{n:Int}:jx (.int k n)=true:=(rfl)
@[simp] theorem anl {b:Bool}:jx (.bool b)=true:=(rfl)
@[simp] theorem apl {xs:F_}:jx (.lst xs)=false:=(rfl)
@[simp] theorem an1 {cs:D_}:iW (.agg cs)=cs.all iV:=(rfl)
@[simp] theorem aqG {x:D}:iW (.d x)=jx x:=(rfl)
@[simp] theorem aoB {p:Bool}{m:Nat}{xs:F_}:iW (.own p m xs)=xs.all λe=>e.all jx:=(rfl)
@[simp] theorem anA {cs:D_}:jb (.agg cs)=cs.all iV:=(rfl)
@[simp] theorem aqw {x:D}:jb (.d x)=jx x:=(rfl)
@[simp] theorem anH {cs:D_}:jb (.tup cs)=cs.all iW:=(rfl)
@[simp] theorem aoi {p:Bool}{m:Nat}{xs:F_}:lV (.own p m xs)=.own true m xs:=(rfl)
@[simp] theorem anD {p:Bool}{m:Nat}{xs:F_}:kX (.own p m xs)=.own true m xs:=(rfl)
@[simp] theorem aoG {p:Bool}{m:Nat}{xs:F_}:nA (.own p m xs)=.own true m xs:=(rfl)
@[simp] theorem ang {cs:D_}:kX (.agg cs)=.agg (cs.map lV):=(rfl)
@[simp] theorem anC {cs:D_}:nA (.agg cs)=.agg (cs.map lV):=(rfl)
@[simp] theorem anJ {cs:D_}:nA (.tup cs)=.tup (cs.map kX):=(rfl)
@[simp] theorem asb {i:Nat}:iK i []=[]:=(rfl)
@[simp] theorem arO {i:Nat}{v:AV}{r:D_}:iK i (v::r)=(i,v)::iK (i+1) r:=by
 have h:∀(i:Nat) (r:D_),put (iK (i+1) r) i v=(i,v)::iK (i+1) r:=λi r=>by
  have:∃q,iK (i+1) r=q∧∀p∈q,Nat.blt i p.1=true:=⟨_,rfl,by
   have aux:∀(r:D_) (j:Nat),i<j->∀p∈iK j r,Nat.blt i p.1=true:=by
    intro r
    induction r with
    |nil=>intro j hj p hp;simp[iK]at hp
    |cons w r ih =>
     intro j hj p hp;simp only[iK]at hp;rcases Sr hp with rfl|hp
     .rw[Nat.blt,aU];exact hj
     .exact ih (j+1) o_ p hp
   exact aux r (i+1) o_⟩
  obtain⟨q,hq,hp⟩:=this;rw[hq]
  cases q with
  |nil=>rfl
  |cons p q =>
   obtain⟨k,u⟩:=p;have hk:i<k:=by have:=hp _ (.head _);rw[Nat.blt,aU]at this;exact this
   rw[tC,aa o_,ac o_]
 exact h i r
@[simp] theorem ao8 {st:St}:ef st []=some ([],st):=(rfl)
def afr (x:L_)(t:Nat)(st:St)(r:AF_):Option (D_×St) :=
 match x with
 |some v=>bP (ef ⟨del st.env t,st.hs⟩ r) λvs st=>some (v::vs,st)
 |none=>none
@[simp] theorem apn {t:Nat}{st:St}{r:AF_}:ef st (.tmp t::r)=afr (get st.env t) t st r:=(by
 simp only[ef,afr]
 cases get st.env t with
 |none=>rfl
 |some v=>simp only;cases ef ⟨del st.env t,st.hs⟩ r<;>rfl)
@[simp] theorem as4 {v:AV}{t:Nat}{e:aK}{hs:HS}{r:AF_}:afr (some v) t ⟨e,hs⟩ r=bP (ef ⟨del e t,hs⟩ r) λvs st=>some (v::vs,st):=(rfl)
def af3 (x:L_)(t:Nat)(n:H_)(st:St)(r:AF_):Option (D_×St) :=
 match x with
 |some (.ptr id 0)=>bP (loadAt st.hs.heap n 1 (.ptr id 0)) λv h=>bP (ef ⟨del st.env t,⟨del h id,st.hs.next⟩⟩ r) λvs st=>some (v::vs,st)
 |_=>none
@[simp] theorem apI {t:Nat}{n:H_}{st:St}{r:AF_}:ef st (.cell t n::r)=af3 (get st.env t) t n st r:=(by
 simp only[ef,af3]
 cases get st.env t with
 |none=>rfl
 |some v =>
  cases v<;>try rfl
  rename_i id off
  cases off with
  |succ k=>rfl
  |zero =>
   simp only
   cases loadAt st.hs.heap n 1 (.ptr id 0) with
   |none=>rfl
   |some q=>simp only[bP];cases ef _ r<;>rfl)
@[simp] theorem asT {id t:Nat}{n:H_}{e:aK}{hs:HS}{r:AF_}:af3 (some (.ptr id 0)) t n ⟨e,hs⟩ r=bP (loadAt hs.heap n 1 (.ptr id 0)) λv h=>bP (ef ⟨del e t,⟨del h id,hs.next⟩⟩ r) λvs st=>some (v::vs,st):=(rfl)
theorem afd {l:G_}:((am l).all λe=>e.all jx)=true:=by simp[am]
theorem ad6 {l:C_}:((aT l).all λe=>e.all jx)=true:=by simp[aT]
theorem ach {l:AA_}:((MN l).all λe=>e.all jx)=true:=by simp[MN]
attribute [simp] afd ad6 ach
attribute [simp] aeX
attribute [simp] alL amv alg alU
variable {P:Nat->W_}{l:Q_}{e:aK}{h:ak}{m d s:Nat}{op:lX}{hs:HS}{β:Type}{k:AV->aK->HS->Option β}
abbrev V (d:Nat)(op:lX):VI:=⟨some d,none,op,[]⟩
abbrev N (op:lX):VI:=⟨none,none,op,[]⟩
abbrev W (s d:Nat)(op:lX):VI:=⟨some d,some (s,true),op,[]⟩
abbrev U (s d:Nat)(op:lX):VI:=⟨some d,some (s,false),op,[]⟩
theorem akj {e e2:aK}{hs hs2:HS}(h:e=e2)(h2:hs=hs2):mY P l e hs=mY P l e2 hs2:=by rw[h,h2]
attribute [congr] akj
@[simp ↓ low] theorem apF {i:VI}:(Dn P).code (.reg false (i::l)) ⟨e,hs⟩=ew (mY P (i::l) e hs):=BH rfl
@[simp ↓ low] theorem apX {i:VI}:(Dn P).code (.reg true (i::l)) ⟨e,hs⟩=ew (mY P (i::l) e hs):=BH rfl
@[simp] theorem asz:mY P [] e hs=some ⟨e,hs⟩:=(rfl)
@[simp] theorem asE:mY P (⟨some d,none,op,[]⟩::l) e hs=br P op e hs λv e hs=>mY P l (put e d (firm v)) hs:=(rfl)
@[simp] theorem asQ:mY P (⟨none,none,op,[]⟩::l) e hs=br P op e hs λ_ e hs=>mY P l e hs:=(rfl)
@[simp] theorem asL {t:Nat×Nat}{th:O_}:mY P (⟨some d,none,op,t::th⟩::l) e hs=br P op e hs λv e hs=>lP (cY (t::th) v hs) λv hs=>mY P l (put e d (firm v)) hs:=(rfl)
def wK {β:Type}(a b:Bool)(x y z:Option β):Option β :=
 match a with
 |true=>x
 |false=>match b with
  |true=>y
  |false=>z
@[simp ↓] theorem auj {b:Bool}{x y z:Option β}:wK true b x y z=x:=(rfl)
@[simp ↓] theorem aum {x y z:Option β}:wK false true x y z=y:=(rfl)
theorem aoN {a a2 b b2:Bool}{x y z:Option β}(h:a=a2)(h2:b=b2):wK a b x y z=wK a2 b2 x y z:=by rw[h,h2]
attribute [congr] aoN
@[simp] theorem atC {w:Bool}:mY P (⟨some d,some (s,w),op,[]⟩::l) e hs=wK (cV op) (Bp op)
  (bA (get e s) λg=>bA (gV g w (br P op e hs λv _ _=>some v)) λv=>mY P l (put e d (firm v)) hs)
  (bA (get e s) λg=>bP (gH g w hs (br P op e hs λv _ hs=>some (v,hs))) λv hs=>mY P l (put e d (firm v)) hs)
  (bA (b4 (Dn P) ⟨some d,some (s,w),op,[]⟩ ⟨e,hs⟩) λst=>mY P l st.env st.hs):=by
 simp only[mY,TP,wK]
 cases cV op<;>cases Bp op<;>(try rfl)<;>(cases get e s<;>rfl)
@[simp] theorem atZ {i:Nat}:bj (.s i)=true:=(rfl)
@[simp] theorem atI {a:AV}:bj (.c a)=true:=(rfl)
@[simp] theorem asY:ik []=true:=(rfl)
@[simp] theorem asZ {x:Rd}{r:S_}:ik (x::r)=(bj x && ik r):=(rfl)
@[simp] theorem asF {x:Rd}:cV (.mov x)=bj x:=(rfl)
@[simp] theorem atV {x:Rd}{n:H_}:cV (.ld n 0 x)=bj x:=(rfl)
@[simp] theorem asR {x:Rd}:cV (.nilck x)=bj x:=(rfl)
@[simp] theorem ate {x y:Rd}{o:BinOp}:cV (.bin o x y)=(bj x && bj y):=(rfl)
@[simp] theorem ar5 {x y:Rd}{o:Bool}:cV (.binb o x y)=(bj x && bj y):=(rfl)
@[simp] theorem atL {x:Rd}{o:UnOp}:cV (.un o x)=bj x:=(rfl)
@[simp] theorem atX {x:Rd}{o:Nat}:cV (.fa o x)=bj x:=(rfl)
@[simp] theorem atS {x y:Rd}{o:Nat}:cV (.ia o x y)=(bj x && bj y):=(rfl)
@[simp] theorem asg {x y:Rd}{o n:Nat}:cV (.iarr o n x y)=(bj x && bj y):=(rfl)
@[simp] theorem asA {x:Rd}:cV (.len x)=bj x:=(rfl)
@[simp] theorem ar4 {f:FuncId}{xs:S_}:cV (.call f xs)=ik xs:=(rfl)
@[simp] theorem arV {c x y:Rd}:cV (.pick c x y)=(bj c && bj x && bj y):=(rfl)
@[simp] theorem ata {x:Rd}:cV (.toStr x)=bj x:=(rfl)
@[simp] theorem aro {f:FuncId}{xs:S_}:cV (.calli f xs)=false:=(rfl)
@[simp] theorem ap7 {x:Rd}{xs:S_}:cV (.callv x xs)=false:=(rfl)
@[simp] theorem are {f:FuncId}{xs:S_}:Bp (.calli f xs)=ik xs:=(rfl)
@[simp] theorem aqt {x:Rd}{xs:S_}:Bp (.callv x xs)=(bj x && ik xs):=(rfl)
attribute [simp] pR qW
def FL {γ:Type}(c:Prop)[Decidable c](a b:γ):γ:=if c then a else b
theorem aiy {γ:Type}{c d:Prop}[Decidable c][i:Decidable d]{a b:γ}(h:c=d):FL c a b=@FL γ d i a b:=by subst h;congr
attribute [congr] aiy
@[simp ↓] theorem atm {γ:Type}{i:Decidable True}{a b:γ}:@FL γ True i a b=a:=by simp only[FL,bK]
@[simp ↓] theorem atB {γ:Type}{i:Decidable False}{a b:γ}:@FL γ False i a b=b:=by simp only[FL,bu]
@[simp high] theorem aug {k i:Nat}{v:AV}{r:aK}:get ((k,v)::r) i=FL (k=i) (some v) (get r i):=ak7
@[simp high] theorem auq {k i:Nat}{v x:AV}{r:aK}:put ((k,v)::r) i x=FL (k=i) ((i,x)::r) (FL (i<=k) ((i,x)::(k,v)::r) ((k,v)::put r i x)):=put1
@[simp high] theorem aun {k i:Nat}{v:AV}{r:aK}:del ((k,v)::r) i=FL (k=i) (del r i) ((k,v)::del r i):=ak1
variable {f:AV->aK->Option β}{x:Rd}
@[simp ↓] theorem atW {i:Nat}:bR e (.s i) f=bA (get e i) λv=>f (share v) e:=by
 simp only[bR,rd,bA];cases get e i<;>rfl
@[simp ↓] theorem atO {i:Nat}:bR e (.m i) f=bA (get e i) λv=>f v (del e i):=by
 simp only[bR,rd,bA];cases get e i<;>rfl
@[simp ↓] theorem atG {a:AV}:bR e (.c a) f=f a e:=(rfl)
@[simp ↓] theorem as9 {f:D_->aK->Option β}:jl e [] f=f [] e:=(rfl)
@[simp ↓] theorem asO {r:S_}{f:D_->aK->Option β}:jl e (x::r) f=bR e x λv e=>jl e r λvs e=>f (v::vs) e:=(rfl)
@[simp ↓] theorem atc {f:L_->aK->Option β}:kD e none f=f none e:=(rfl)
@[simp ↓] theorem atA {f:L_->aK->Option β}:kD e (some x) f=bR e x λv e=>f (some v) e:=(rfl)
@[simp ↓] theorem arI:br P (.mov x) e hs k=bR e x λv e=>k v e hs:=(rfl)
def Gw (e:aK):Rd->L_
 |.c v=>some v
 |.m i=>get e i
 |.s i=>match get e i with
  |some v=>some (share v)
  |none=>none
def pkV {β:Type}(c:AV)(a b:Rd)(x y:L_)(e:aK)(hs:HS)(k:AV->aK->HS->Option β):Option β :=
 match x,y with
 |some a,some b=>bA (Mw c a b) λv=>k v e hs
 |_,_=>bP (jG (.c c) a b ⟨e,hs⟩) λv st=>k v st.env st.hs
@[simp ↓] theorem atM {c v w:AV}{a b:Rd}:pkV c a b (some v) (some w) e hs k=bA (Mw c v w) λv=>k v e hs:=(rfl)
theorem alG {c:AV}{a b:Rd}{x x2 y y2:L_}(h:x=x2)(h2:y=y2):pkV c a b x y e hs k=pkV c a b x2 y2 e hs k:=by rw[h,h2]
attribute [congr] alG
@[simp] theorem atY {v:AV}:Gw e (.c v)=some v:=(rfl)
@[simp] theorem aua {i:Nat}:Gw e (.s i)=bA (get e i) λv=>some (share v):=by
 simp only[Gw,bA];cases get e i<;>rfl
theorem WJ {c a b:Rd}(ha:bj a=true)(hb:bj b=true):br P (.pick c a b) e hs k=bR e c λc e=>pkV c a b (Gw e a) (Gw e b) e hs k:=by
 simp only[br,ha,hb,Bool.and_self]
 congr 1
 funext c e;have h1:∀x,bj x=true->rd e x=(Gw e x).map λv=>(v,e):=by
  intro x hx
  cases x with
  |c=>rfl
  |m=>cases hx
  |s i=>simp only[rd,Gw];cases get e i<;>rfl
 rw[h1 a ha,h1 b hb]
 cases Gw e a<;>cases Gw e b<;>rfl
@[simp ↓] theorem ase {c:Rd}{i:Nat}{y:AV}:br P (.pick c (.s i) (.c y)) e hs k=bR e c λc e=>pkV c (.s i) (.c y) (Gw e (.s i)) (Gw e (.c y)) e hs k:=WJ rfl rfl
@[simp ↓] theorem ar2 {c:Rd}{i:Nat}{y:AV}:br P (.pick c (.c y) (.s i)) e hs k=bR e c λc e=>pkV c (.c y) (.s i) (Gw e (.c y)) (Gw e (.s i)) e hs k:=WJ rfl rfl
@[simp ↓] theorem ao9 {zs:D_}:br P (.alloc zs) e ⟨h,m⟩ k=lA (put h m (.cells zs)) λh=>k (.ptr m 0) e ⟨h,m+1⟩:=(rfl)
@[simp ↓] theorem arR:br P (.box x) e ⟨h,m⟩ k=bR e x λv e=>cX ((AV.cells v).all b9) (lA (put h m (.cells (AV.cells v))) λh=>k (.ptr m 0) e ⟨h,m+1⟩):=(rfl)
@[simp ↓] theorem apm {zs:D_}{ps:Z_}:br P (.build zs ps) e hs k=jl e (pR ps) λvs e=>bA (dL zs (qW ps vs)) λcs=>k (.agg cs) e hs:=(rfl)
@[simp ↓] theorem arU {j:Nat}{ps:S_}:br P (.mks j ps) e hs k=jl e ps λvs e=>bA (ij j vs) λxs=>k (.own true j xs) e hs:=(rfl)
@[simp ↓] theorem aqN {j:Nat}{ps:S_}:br P (.mksv j ps) e ⟨h,m⟩ k=jl e ps λvs e=>cX (MB j vs) (lA (put h m (.cells (vs.flatMap AV.cells))) λh=>k (.sl m 0 vs.length) e ⟨h,m+1⟩):=(rfl)
@[simp ↓] theorem atv {n:H_}:br P (.ld n 0 x) e ⟨h,m⟩ k=bR e x λp e=>bA (fw h n p) λv=>k v e ⟨h,m⟩:=(rfl)
@[simp ↓] theorem arY {n:H_}:br P (.ld n 1 x) e ⟨h,m⟩ k=bR e x λp e=>bP (loadAt h n 1 p) λv h=>k v e ⟨h,m⟩:=(rfl)
@[simp ↓] theorem ass {n:H_}:br P (.ld n 2 x) e ⟨h,m⟩ k=bR e x λp e=>bP (loadAt h n 2 p) λv h=>k v e ⟨h,m⟩:=(rfl)
@[simp ↓] theorem ath {n:Nat}{y:Rd}:br P (.st n x y) e ⟨h,m⟩ k=bR e x λp e=>bR e y λv e=>bA (storeAt h n p v) λh=>k .junk e ⟨h,m⟩:=(rfl)
@[simp ↓] theorem apy:br P (.nilck x) e hs k=bR e x λv e=>bA (Rt v) λv=>k v e hs:=(rfl)
@[simp ↓] theorem ar3 {o:BinOp}{y:Rd}:br P (.bin o x y) e hs k=bR e x λa e=>bR e y λb e=>bA (gr o a b) λv=>k (.d v) e hs:=(rfl)
@[simp ↓] theorem arh {o:Bool}{y:Rd}:br P (.binb o x y) e hs k=bR e x λa e=>bR e y λb e=>bA (Qh o a b) λv=>k (.d v) e hs:=(rfl)
@[simp ↓] theorem arv {o:Bool}{ks:AA_}{y:Rd}:br P (.bina o ks x y) e hs k=bR e x λa e=>bR e y λb e=>bA (PK o ks a b) λv=>k (.d v) e hs:=(rfl)
@[simp ↓] theorem asC {o:UnOp}:br P (.un o x) e hs k=bR e x λa e=>bA (unD o a) λv=>k (.d v) e hs:=(rfl)
@[simp ↓] theorem ard {j:IntKind}:br P (.conv j x) e hs k=bR e x λa e=>bA (Vj j a) λv=>k (.d v) e hs:=(rfl)
@[simp ↓] theorem apL:br P (.toStr x) e ⟨h,m⟩ k=bR e x λa e=>bA (Ln h a) λv=>k (.d v) e ⟨h,m⟩:=(rfl)
@[simp ↓] theorem aqF {f:FuncId}{a c:S_}:br P (.mkfn f a c) e hs k=jl e a λa e=>jl e c λc e=>k (.fn f (shareAll a) (shareAll c)) e hs:=(rfl)
@[simp ↓] theorem am3 {z:U_}{y:Rd}:br P (.mkslice z x y) e hs k=bR e x λa e=>bR e y λc e=>bA (Dp z a c) λv=>k v e hs:=(rfl)
@[simp ↓] theorem apK {j:Nat}{lo hi mx:Y_}:br P (.slice j x lo hi mx) e ⟨h,m⟩ k=bR e x λx e=>kD e lo λlo e=>kD e hi λhi e=>kD e mx λmx e=>bA (O9 h j x lo hi mx) λv=>k v e ⟨h,m⟩:=(rfl)
@[simp ↓] theorem ao6 {j:Nat}{lo hi mx:Y_}:br P (.slarr j x lo hi mx) e ⟨h,m⟩ k=bR e x λx e=>kD e lo λlo e=>kD e hi λhi e=>kD e mx λmx e=>bA (K3 h j x lo hi mx) λv=>k v e ⟨h,m⟩:=(rfl)
@[simp ↓] theorem as3 {o:Nat}:br P (.fa o x) e hs k=bR e x λp e=>bA (nI o p) λv=>k v e hs:=(rfl)
@[simp ↓] theorem asX {n:Nat}{y:Rd}:br P (.ia n x y) e ⟨h,m⟩ k=bR e x λx e=>bR e y λi e=>bA (Rr h n x i) λv=>k v e ⟨h,m⟩:=(rfl)
@[simp ↓] theorem ap3 {a n:Nat}{y:Rd}:br P (.iarr a n x y) e hs k=bR e x λp e=>bR e y λi e=>bA (EE a n p i) λv=>k v e hs:=(rfl)
@[simp ↓] theorem aqM {j i:Nat}:br P (.ext j true i) e hs k=bA (get e j) λt=>bA (zY true t i) λv=>k v (put e j (Pe t i)) hs:=by
 simp only[br,bA];cases get e j<;>(try rfl)
@[simp ↓] theorem ars {j i:Nat}:br P (.ext j false i) e hs k=bA (get e j) λt=>bA (zY false t i) λv=>k v e hs:=by
 simp only[br,bA];cases get e j<;>(try rfl)
@[simp ↓] theorem ask:br P (.len x) e hs k=bR e x λx e=>bA (lenOf x) λn=>k (.int .i64 (.ofNat n)) e hs:=(rfl)
@[simp ↓] theorem asl {j:Nat}{y:Rd}:br P (.app j x y) e ⟨h,m⟩ k=bR e x λa e=>bR e y λb e=>bP (SR j h a b) λv h=>k v e ⟨h,m⟩:=(rfl)
@[simp ↓] theorem asi {j:Nat}{y:Rd}:br P (.cpy j x y) e ⟨h,m⟩ k=bR e x λa e=>bR e y λb e=>bP (Yx j h a b) λv h=>k (.d v) e ⟨h,m⟩:=(rfl)
@[simp ↓] theorem ant {b:Bool}{xs:S_}:br P (.minmax b xs) e hs k=jl e xs λvs e=>bA (Gb b vs) λv=>k v e hs:=(rfl)
@[simp ↓] theorem aq3 {f:FuncId}{as:S_}:br P (.call f as) e ⟨h,m⟩ k=jl e as λvs e=>bA (dI (Dn P) f vs h) λv=>k v e ⟨h,m⟩:=(rfl)
@[simp ↓] theorem apv {f:FuncId}{as:S_}:br P (.calli f as) e hs k=jl e as λvs e=>bP ((Dn P).call f vs hs) λv hs=>k v e hs:=(rfl)
@[simp ↓] theorem apB {as:S_}:br P (.callv x as) e hs k=bR e x λf e=>jl e as λvs e=>bP (cW (Dn P) f vs hs) λv hs=>k v e hs:=(rfl)
@[simp ↓] theorem arD {is:C_}:br P (.kill is) e hs k=k (.tup []) (is.foldl del e) hs:=(rfl)
variable {P:Nat->W_}
inductive R (α:Type) where
 |ok (v:α) (n:Nat)
 |er (e:Nat)
open Classical in
def rK {α γ:Type}(p:α->Nat->Prop)(r:R α)(f:α->Nat->γ)(g:Nat->γ):γ :=
 match r with
 |.ok v n=>if p v n then f v n else g 0
 |.er e=>g e
theorem bL {α γ:Type}{p q:α->Nat->Prop}{r:R α}{f f2:α->Nat->γ}{g g2:Nat->γ}(hp:∀v n,p v n=q v n)(h:∀v n,q v n->f v n=f2 v n)(k:∀e,g e=g2 e):rK p r f g=rK q r f2 g2:=by
 have:p=q:=funext λv=>funext λn=>hp v n
 subst this
 cases r with
 |ok v n =>
  simp only[rK];split
  .exact h _ _ ‹_›
  .exact k 0
 |er e=>exact k e
attribute [congr] bL
theorem tR {α γ δ:Type}{p:α->Nat->Prop}{r:R α}{f:α->Nat->γ}{g:Nat->γ}(k:γ->δ):k (rK p r f g)=rK p r (λv n=>k (f v n)) λe=>k (g e):=by
 cases r with
 |ok v n=>simp only[rK];split<;>rfl
 |er e=>rfl
section
variable {α:Type}{p:α->Nat->Prop}{r:R α}
@[simp ↓] theorem afa {f:α->Nat->J_}{g:Nat->J_}{b:VC}:tO P (rK p r f g) b=rK p r (λv n=>tO P (f v n) b) λe=>tO P (g e) b:=tR λx=>tO P x b
@[simp ↓] theorem ae6 {f:α->Nat->J_}{g:Nat->J_}{i:Nat}:ti i (rK p r f g)=rK p r (λv n=>ti i (f v n)) λe=>ti i (g e):=tR (ti i)
@[simp ↓] theorem L5 {f:α->Nat->J_}{g:Nat->J_}{a:VC}:oI P a (rK p r f g)=rK p r (λv n=>oI P a (f v n)) λe=>oI P a (g e):=tR (oI P a)
@[simp ↓] theorem as6 {f:α->Nat->X_}{g:Nat->X_}:ew (rK p r f g)=rK p r (λv n=>ew (f v n)) λe=>ew (g e):=tR ew
@[simp ↓] theorem Qp {f:α->Nat->J_}{g:Nat->J_}{rs:AF_}:lF rs (rK p r f g)=rK p r (λv n=>lF rs (f v n)) λe=>lF rs (g e):=tR (lF rs)
@[simp ↓] theorem Rk {f:α->Nat->T_}{g:Nat->T_}:kH (rK p r f g)=rK p r (λv n=>kH (f v n)) λe=>kH (g e):=tR kH
@[simp ↓] theorem auo {γ β:Type}{f:α->Nat->Option γ}{g:Nat->Option γ}{k:γ->Option β}:bA (rK p r f g) k=rK p r (λv n=>bA (f v n) k) λe=>bA (g e) k:=tR λx=>bA x k
@[simp ↓] theorem aup {γ δ β:Type}{f:α->Nat->Option (γ×δ)}{g:Nat->Option (γ×δ)}{k:γ->δ->Option β}:bP (rK p r f g) k=rK p r (λv n=>bP (f v n) k) λe=>bP (g e) k:=tR λx=>bP x k
@[simp] theorem dp {γ:Type}{f:α->Nat->γ}{g:Nat->γ}{e:Nat}:rK p (.er e) f g=g e:=(rfl)
theorem bJ {γ:Type}{f:α->Nat->γ}{g:Nat->γ}{v:α}{n:Nat}(h:p v n):rK p (.ok v n) f g=f v n:=by simp only[rK,ac h]
@[simp] theorem aud {γ:Type}{f:α->Nat->γ}{g:Nat->γ}{c:Prop}[Decidable c]{x y:R α}:rK p (if c then x else y) f g=if c then rK p x f g else rK p y f g:=by split<;>rfl
end
@[simp] theorem at1 {e:Nat}:((e:Int)+1=0)=False:=by simp only[eq_iff_iff,iff_false];omega
theorem Vb {α:Type}{a b:Prop}[Decidable a][Decidable b]{x y:α}(h:b↔¬a):(if a then x else y)=if b then y else x:=by
 by_cases ha:a
 .rw[ac ha,aa (λhb=>h.1 hb ha)]
 .rw[aa ha,ac (h.2 ha)]
theorem ahN {α:Type}{a b:Prop}[Decidable a][Decidable b]{x y:α}(h:a↔b):(if a then x else y)=if b then x else y:=by
 by_cases ha:a
 .rw[ac ha,ac (h.1 ha)]
 .rw[aa ha,aa (λhb=>ha (h.2 hb))]
def cellsOf:Obj->Option D_
 |.cells cs=>some cs
 |_=>none
def acT:Obj->AB_
 |.arr _ xs=>some xs
 |_=>none
@[simp ↓] theorem apN {cs:D_}:cellsOf (.cells cs)=some cs:=(rfl)
@[simp ↓] theorem asu {m:Nat}{xs:F_}:acT (.arr m xs)=some xs:=(rfl)
@[simp] theorem ar0 {h:ak}{id off:Nat}:fw h none (.ptr id off)=bA (get h id) λo=>bA (cellsOf o) λcs=>bA cs[off]? λv=>some (share v):=by
 simp only[fw,loadAt]
 cases get h id with
 |none=>rfl
 |some o =>
  cases o<;>try rfl
  rename_i cs;simp only[bA,cellsOf]
  cases cs[off]?<;>rfl
@[simp] theorem aq4 {h:ak}{id off n:Nat}:fw h (some n) (.ptr id off)=bA (get h id) λo=>bA (cellsOf o) λcs=>cX (Nat.ble (off+n) cs.length) (some (.agg (shareAll (sub cs off n)))):=by
 simp only[fw,loadAt]
 cases get h id with
 |none=>rfl
 |some o =>
  cases o<;>try rfl
  rename_i cs;simp only[bA,cellsOf]
  cases Nat.ble (off+n) cs.length<;>rfl
@[simp] theorem anK {h:ak}{id off t:Nat}:loadAt h none (t+1) (.ptr id off)=bA (get h id) λo=>bA (cellsOf o) λcs=>bA cs[off]? λv=>some ((oy (t+1) v).1,put h id (.cells (cs.set off (oy (t+1) v).2))):=by
 simp only[loadAt]
 cases get h id with
 |none=>rfl
 |some o =>
  cases o<;>try rfl
  rename_i cs;simp only[bA,cellsOf]
  cases cs[off]?<;>rfl
@[simp] theorem amW {h:ak}{id off n t:Nat}:loadAt h (some n) (t+1) (.ptr id off)=bA (get h id) λo=>bA (cellsOf o) λcs=>cX (Nat.ble (off+n) cs.length) (some (.agg (eh (t+1) (sub cs off n)).1,put h id (.cells (ar cs off (eh (t+1) (sub cs off n)).2)))):=by
 simp only[loadAt]
 cases get h id with
 |none=>rfl
 |some o =>
  cases o<;>try rfl
@[simp] theorem am5 {h:ak}{id off n:Nat}{x:AV}:storeAt h n (.ptr id off) x=cX (Nat.beq x.cells.length n) (bA (get h id) λo=>bA (cellsOf o) λcs=>cX (Nat.ble (off+n) cs.length && x.cells.all b9) (some (put h id (.cells (ar cs off x.cells))))):=by
 simp only[storeAt]
 cases Nat.beq x.cells.length n with
 |false=>rfl
 |true =>
  simp only[cX]
  cases get h id with
  |none=>rfl
  |some o =>
   cases o<;>try rfl
@[simp ↓] theorem asc {β:Type}{a b:Nat}{x:Option β}:cX (Nat.ble a b) x=if a<=b then x else none:=by
 rw[Sq];by_cases h:a<=b<;>simp[h]
@[simp ↓] theorem arL {β:Type}{a b:Nat}{x:Option β}:cX (Nat.beq a b) x=if a=b then x else none:=by
 rw[SN];by_cases h:a=b<;>simp[h]
@[simp ↓] theorem ar6 {β:Type}{a b:Bool}{x:Option β}:cX (a && b) x=cX a (cX b x):=by
 cases a<;>cases b<;>rfl
attribute [simp] oy eh sub ar b9
def scK (P:Nat->W_)(a:VC)(x:J_):J_ :=
 match x with
 |some (.goto l,st)=>match sI a l with
  |some rest=>(Dn P).code (.inScope a rest) st
  |none=>some (.goto l,st)
 |x=>x
@[simp ↓] theorem anq {a:VC}{st:St}:(Dn P).code (.scope a) st=(Dn P).code (.inScope a a) st:=by rw[ic];rfl
theorem ake {a c:VC}{st:St}:(Dn P).code (.inScope a c) st=scK P a ((Dn P).code c st):=by
 rw[ic];rfl
@[simp ↓] theorem at7 {a:VC}{st:St}:scK P a (some (.ret,st))=some (.ret,st):=(rfl)
theorem al2 {a:VC}{x y:J_}(h:x=y):scK P a x=scK P a y:=by rw[h]
attribute [congr] al2
theorem F9 {f:FuncId}{args:D_}{v:AV}(n:Nat)(h:kH ((run P n).call f args ⟨[],0⟩)=some v):bl P f args=some v:=by
 cases hx:(run P n).call f args ⟨[],0⟩ with
 |none=>rw[hx]at h;simp[kH]at h
 |some q=>rw[hx]at h;rw[bl,N1 hx,h]
theorem kF {α:Type}{f:FuncId}{a:α->D_}{v:α->AV}(n:Nat)(l:List α)(h:(l.map λx=>kH ((run P n).call f (a x) ⟨[],0⟩))=l.map λx=>some (v x))(x:α)(hx:x∈l):bl P f (a x)=some (v x) :=
 F9 n (List.map_inj_left.1 h x hx)
def aF (l:C_):F_:=l.map λn=>[.int .i64 (n:Nat)]
@[simp] theorem t4 {l:C_}:(aF l).length=l.length:=by simp[aF]
@[simp] theorem Ee {l:C_}{i:Nat}(h:i<l.length):(aF l)[i]?=some [.int .i64 (nth l i:Nat)]:=by simp[aF,Au h]
@[simp high] theorem Zp {p:Bool}{m:Nat}{l:C_}:iV (.own p m (aF l))=true:=by simp[iV,aF,jx]
@[simp high] theorem amY {p:Bool}{m:Nat}{l:C_}:iW (.own p m (aF l))=true:=Zp (p:=p) (m:=m)
@[simp high] theorem Nn {p:Bool}{m:Nat}{l:G_}:iV (.own p m (am l))=true:=by simp[iV,am,jx]
@[simp high] theorem amZ {p:Bool}{m:Nat}{l:G_}:iW (.own p m (am l))=true:=Nn (p:=p) (m:=m)
@[simp high] theorem am0 {p:Bool}{m:Nat}{l:G_}:jb (.own p m (am l))=true:=Nn (p:=p) (m:=m)
@[simp] theorem apV {a:G_}{x:Int}:am a++[[.int .i64 x]]=am (a++[x]):=by simp[am]
@[simp] theorem atp {k:IntKind}{a b:Int}:Gb true [.d (.int k a),.d (.int k b)]=if a<b then some (.d (.int k b)) else some (.d (.int k a)):=by
 have:me k k=true:=by cases k<;>rfl
 simp only[Gb,Bh,Dw,this];by_cases h:a<b<;>simp[h]
def iaO (o:Obj)(n id j:Nat):L_ :=
 match o with
 |.arr m _=>cX (Nat.beq m n) (some (.pel id j 0))
 |.cells _=>cX (Nat.beq n 1) (some (.ptr id j))
 |_=>none
@[simp ↓] theorem at5 {m n id j:Nat}{xs:F_}:iaO (.arr m xs) n id j=cX (Nat.beq m n) (some (.pel id j 0)):=(rfl)
@[simp ↓] theorem aub {n id j:Nat}{cs:D_}:iaO (.cells cs) n id j=cX (Nat.beq n 1) (some (.ptr id j)):=(rfl)
@[simp] theorem at0 {h:ak}{n id off len:Nat}{k:IntKind}{i:Int}(h0:0<=i)(h1:i.toNat<len):Rr h n (.sl id off len) (.d (.int k i))=bA (get h id) λo=>iaO o n id (off+i.toNat):=by
 have:Nat.ble len i.toNat=false:=by rw[Sq];simp;omega
 simp only[Rr,MD h0,this]
 cases get h id with
 |none=>rfl
 |some o =>
  cases o with
  |cells cs=>simp only[bA,iaO];cases Nat.beq n 1<;>rfl
  |arr m xs=>simp only[bA,iaO];cases Nat.beq m n<;>rfl
  |loop=>rfl
@[simp] theorem aso {h:ak}{id i off:Nat}{n:H_}:fw h n (.pel id i off)=bA (get h id) λo=>bA (acT o) λxs=>bA xs[i]? λx=>mi n x off:=by
 simp only[fw,loadAt]
 cases get h id with
 |none=>rfl
 |some o =>
  cases o<;>try rfl
  rename_i m xs;simp only[bA,acT]
  cases xs[i]? with
  |none=>rfl
  |some x=>simp only;cases mi n x off<;>rfl
def stO (o:Obj)(h:ak)(n id i off:Nat)(ds:U_):Option ak :=
 match o with
 |.arr m xs=>bA xs[i]? λe=>cX (Nat.ble (off+n) e.length) (some (put h id (.arr m (xs.set i (ar e off ds)))))
 |_=>none
@[simp ↓] theorem atE {h:ak}{m n id i off:Nat}{ds:U_}{xs:F_}:stO (.arr m xs) h n id i off ds=bA xs[i]? λe=>cX (Nat.ble (off+n) e.length) (some (put h id (.arr m (xs.set i (ar e off ds))))):=(rfl)
@[simp] theorem am4 {h:ak}{id i off n:Nat}{x:AV}:storeAt h n (.pel id i off) x=cX (Nat.beq x.cells.length n) (bA (kg x.cells) λds=>bA (get h id) λo=>stO o h n id i off ds):=by
 simp only[storeAt]
 cases Nat.beq x.cells.length n with
 |false=>rfl
 |true =>
  simp only[cX]
  cases kg x.cells with
  |none=>rfl
  |some ds =>
   simp only[bA]
   cases get h id with
   |none=>rfl
   |some o =>
    cases o<;>try rfl
    rename_i m xs;simp only[stO]
    cases xs[i]? with
    |none=>rfl
    |some e=>simp only[bA];cases Nat.ble (off+n) e.length<;>rfl
@[simp] theorem apr {l:G_}{i:Nat}:(am l).take i=am (l.take i):=by simp[am]
@[simp] theorem apO {l:C_}{i:Nat}:(aF l).take i=aF (l.take i):=by simp[aF]
@[simp] theorem Pn {l:G_}{i:Nat}{x:Int}:(am l).set i [.int .i64 x]=am (l.set i x):=by simp[am,lT]
@[simp] theorem agl {l:C_}{i:Nat}{x:Nat}:(aF l).set i [.int .i64 (x:Int)]=aF (l.set i x):=by simp[aF,lT]
def elO (o:Obj):AB_ :=
 match o with
 |.arr _ xs=>some xs
 |.cells cs=>bA (kg cs) λds=>some (E6 ds)
 |_=>none
@[simp ↓] theorem at9 {m:Nat}{xs:F_}:elO (.arr m xs)=some xs:=(rfl)
@[simp] theorem ark {h:ak}{id off len:Nat}:elems h (.sl id off len)=bA (get h id) λo=>bA (elO o) λxs=>cX (Nat.ble (off+len) xs.length) (some (sub xs off len)):=by
 simp only[elems,objElems]
 cases get h id with
 |none=>rfl
 |some o =>
  cases o with
  |cells cs =>
   simp only[bA,elO]
   cases kg cs with
   |none=>rfl
   |some ds=>simp only;cases Nat.ble (off+len) (E6 ds).length<;>rfl
  |arr m xs=>simp only[bA,elO];cases Nat.ble (off+len) xs.length<;>rfl
  |loop=>rfl
attribute [simp] E6
@[simp] theorem atu {m:Nat}{h:ak}{a b:AV}:SR m h a b=bA (elems h b) λys=>cX (fA m ys) (da m h a ys):=by
 simp only[SR]
 cases elems h b with
 |none=>rfl
 |some ys=>simp only[bA];cases fA m ys<;>rfl
@[simp] theorem ar8 {m k:Nat}{p:Bool}{h:ak}{xs ys:F_}:da m h (.own p k xs) ys=cX (Nat.ble ys.length cP) (cX (Nat.beq k m && Nat.ble (xs.length+ys.length) cP) (some (.own false m (xs++ys),h))):=by
 simp only[da]
 cases Nat.ble ys.length cP with
 |false=>rfl
 |true=>simp only[cX];cases Nat.beq k m && Nat.ble (xs.length+ys.length) cP<;>rfl
@[simp] theorem asd {m:Nat}{h:ak}:da m h .nl []=some (.nl,h):=(rfl)
@[simp] theorem arT {m:Nat}{h:ak}{y:U_}{r:F_}:da m h .nl (y::r)=cX (Nat.ble (r.length+1) cP) (some (.own true m (y::r),h)):=by
 simp only[da,aE]
 cases Nat.ble (r.length+1) cP<;>rfl
def ahF (o:Obj)(m:Nat)(h:ak)(id off len:Nat)(ys:F_):AD_ :=
 match o with
 |.arr k xs=>cX (Nat.beq k m && Nat.ble (off+len) xs.length && Nat.ble (len+ys.length) cP) (some (.own true m (sub xs off len++ys),del h id))
 |_=>none
@[simp ↓] theorem atd {k m id off len:Nat}{h:ak}{xs ys:F_}:ahF (.arr k xs) m h id off len ys=cX (Nat.beq k m && Nat.ble (off+len) xs.length && Nat.ble (len+ys.length) cP) (some (.own true m (sub xs off len++ys),del h id)):=(rfl)
@[simp] theorem atg {m id off len:Nat}{h:ak}{ys:F_}:da m h (.sl id off len) ys=cX (Nat.ble ys.length cP) (bA (get h id) λo=>ahF o m h id off len ys):=by
 simp only[da]
 cases Nat.ble ys.length cP with
 |false=>rfl
 |true =>
  simp only[cX]
  cases get h id with
  |none=>rfl
  |some o =>
   cases o with
   |arr k xs=>simp only[bA,ahF];cases Nat.beq k m && Nat.ble (off+len) xs.length && Nat.ble (len+ys.length) cP<;>rfl
   |cells cs=>rfl
   |loop=>rfl
attribute [simp] cP
theorem aap {α:Type}{f:α->D}:∀{l:List α},fA 1 (l.map λx=>[f x])=true
 |[]=>rfl
 |x::r=>by simp only[cT,fA,aE,ck];exact aap
@[simp] theorem WS {l:G_}:fA 1 (am l)=true:=aap
@[simp] theorem atU {m:Nat}:fA m []=true:=(rfl)
@[simp] theorem atJ {m:Nat}{x:U_}{r:F_}:fA m (x::r)=(Nat.beq x.length m && fA m r):=by
 simp only[fA];cases Nat.beq x.length m<;>rfl
mutual
theorem VB:∀d:D,Js d d=true
 |.int k n=>by simp[Js,ND]
 |.bool b=>by simp[Js]
 |.str s=>by simp[Js]
 |.lst xs=>by rw[Js];exact eqDss_self xs
theorem LJ:∀l:U_,Ly l l=true
 |[]=>rfl
 |a::r=>by rw[Ly,VB a,LJ r];rfl
theorem eqDss_self:∀l:F_,eqDss l l=true
 |[]=>rfl
 |a::r=>by rw[eqDss,LJ a,eqDss_self r];rfl
end
mutual
theorem aff:∀v:AV,gq v v=true
 |.junk=>by simp[gq]
 |.d x=>by simp[gq,VB]
 |.nl=>by simp[gq]
 |.own p m xs=>by simp[gq,eqDss_self]
 |.gl n=>by simp[gq]
 |.agg a=>by rw[gq];exact eqAVs_self a
 |.tup a=>by rw[gq];exact eqAVs_self a
 |.nilp=>by simp[gq]
 |.ptr a b=>by simp[gq]
 |.pel a b c=>by simp[gq]
 |.pim a b=>by simp[gq,LJ]
 |.sl a b c=>by simp[gq]
 |.fn f a c=>by rw[gq,eqAVs_self a,eqAVs_self c];simp
 |.nilf=>by simp[gq]
 |.yield a=>by simp[gq]
theorem eqAVs_self:∀l:D_,eqAVs l l=true
 |[]=>by rw[eqAVs]
 |a::r=>by rw[eqAVs,aff a,eqAVs_self r];rfl
end
@[simp] theorem atF {a:D_}:WR (.cells a) (.cells a)=true:=by rw[WR];exact eqAVs_self a
@[simp] theorem arS {h k:ak}:c4 [] h k=true:=(rfl)
@[simp] theorem ar7 {i:Nat}{r:C_}{h k:ak}:c4 (i::r) h k=((match get h i with
  |some o=>(match get k i with|some o'=>WR o o'|none=>false)
  |none=>true) && c4 r h k):=(rfl)
@[simp] theorem arZ {h:ak}:dG [] h=[]:=(rfl)
@[simp] theorem arQ {i:Nat}{r:C_}{h:ak}:dG (i::r) h=match get h i with
  |some o=>put (dG r h) i o
  |none=>dG r h:=(rfl)
attribute [simp] FK cI idsAll
attribute [simp] cY nU kN lN
def Nd (a b:Int):Int:=if a=0 then b else 1
theorem Qw {a b:Int}(h:0<=a)(h1:a<=1)(h2:0<=b)(h3:b<=1):gr .or (A_ a) (A_ b)=some (.int .i64 (Nd a b)):=by
 have ha:a=0∨a=1:=o_;have hb:b=0∨b=1:=o_;rcases ha with rfl|rfl<;>rcases hb with rfl|rfl<;>rfl
@[simp] theorem atr {a:Int}(h:0<=a)(h1:a<=1):Nd a 0=a:=by
 have ha:a=0∨a=1:=o_;rcases ha with rfl|rfl<;>rfl
theorem aeE {a b:Int}:(Nd a b=0)↔a=0∧b=0:=by
 unfold Nd;by_cases h:a=0<;>simp[h]
end Go.Vm
end
