import Derived.Test.YtlkdijocbcbcpaaGreatP2
set_option linter.unusedVariables false
set_option linter.unusedSimpArgs false
set_option linter.defProp false
set_option linter.unusedSectionVars false
noncomputable section
namespace Go.Vm
set_option maxHeartbeats 4000000
set_option maxRecDepth 100000
variable {P:Nat->X_}
def bA {α β:Type}(x:Option α)(f:α->Option β):Option β :=
 match x with
 |some v=>f v
 |none=>none
def bP {α γ β:Type}(x:Option (α×γ))(f:α->γ->Option β):Option β :=
 match x with
 |some (v,w)=>f v w
 |none=>none
def lA {α β:Type}(x:α)(f:α->β):β:=f x
def lP {α γ β:Type}(x:α×γ)(f:α->γ->β):β:=f x.1 x.2
def dE {β:Type}(c:Bool)(x:Option β):Option β :=
 match c with
 |true=>x
 |false=>none
def gV (g:AV)(w:Bool)(x:L_):L_ :=
 match g with
 |.d (.bool b)=>if b=w then x else some (.tup [])
 |.tup []=>some (.tup [])
 |_=>none
def gH (g:AV)(w:Bool)(hs:HS)(x:W_):W_ :=
 match g with
 |.d (.bool b)=>if b=w then x else some (.tup [],hs)
 |.tup []=>some (.tup [],hs)
 |_=>none
def Uw (c a b:AV):L_ :=
 match c with
 |.d (.bool true)=>some a
 |.d (.bool false)=>some b
 |_=>none
def Yg (neg:Bool)(a b:AV):BE_ :=
 match a,b with
 |.d (.bool a),.d (.bool b)=>some (.bool (match neg with|true=>!(a == b)|false=>a == b))
 |_,_=>none
def Yq (neg:Bool)(ks:Y_)(a b:AV):BE_ :=
 match a,b with
 |.agg a,.agg b=>match bq ks a b with
  |some t=>some (.bool (match neg with|true=>!t|false=>t))
  |none=>none
 |_,_=>none
def fT (op:BinOp)(a b:AV):BE_ :=
 match dw op a b with
 |some (.d x)=>some x
 |_=>none
def unD (op:UnOp)(a:AV):BE_ :=
 match aaI op a with
 |some (.d x)=>some x
 |_=>none
def Zf (k:IntKind)(a:AV):BE_ :=
 match a with
 |.d (.int _ n)=>some (.int k (wr k n))
 |_=>none
def Nc (h:ak)(a:AV):BE_ :=
 match elems h a with
 |some xs=>match wD xs with
  |some s=>some (.str s)
  |none=>none
 |none=>none
def Em (z:V_)(l c:AV):L_ :=
 match gJ c bQ with
 |some c=>match gJ l c with
  |some n=>some (.own true z.length (List.replicate n z))
  |none=>none
 |none=>none
def OX (h:ak)(m:Nat)(x:AV)(lo hi mx:L_):L_ :=
 match okSl h m x with
 |true=>IY m x lo hi mx
 |false=>none
def Si (hp:ak)(n:Nat)(x:AV)(lo hi mx:L_):L_ :=
 match x with
 |.ptr id off=>T7 hp n id off lo hi mx
 |_=>none
def ayy (off:Nat)(n:J_)(x:AV):L_ :=
 match x with
 |.agg cs=>GN n cs off
 |_=>none
def ZC (hp:ak)(n:Nat)(x i:AV):L_ :=
 match s9 i with
 |some i=>match x with
  |.sl id off len=>match Nat.ble len i with
   |true=>none
   |false=>match get hp id with
    |some (.arr m _)=>match Nat.beq m n with
     |true=>some (.pel id (off+i) 0)
     |false=>none
    |some (.cells _)=>match Nat.beq n 1 with
     |true=>some (.ptr id (off+i))
     |false=>none
    |_=>none
  |v=>match elems hp v with
   |some xs=>match xs[i]? with
    |some x=>match Nat.beq x.length n with
     |true=>some (.pim x 0)
     |false=>none
    |none=>none
   |none=>none
 |none=>none
def K0 (len n:Nat)(p i:AV):L_ :=
 match s9 i with
 |some i=>match Nat.ble len i with
  |true=>none
  |false=>gX (i*n) p
 |none=>none
def ixV (len n:Nat)(agg:Bool)(x i:AV):L_ :=
 match x with
 |.agg cs=>match s9 i with
  |some i=>match Nat.ble len i with
   |true=>none
   |false=>GN (aet agg n) cs (i*n)
  |none=>none
 |_=>none
def awa (x i:AV):BE_ :=
 match x with
 |.d (.str s)=>match s9 i with
  |some i=>match s[i]? with
   |some b=>some (.int .u8 (.ofNat b.toNat))
   |none=>none
  |none=>none
 |_=>none
def FP (mv:Bool)(t:AV)(i:Nat):L_ :=
 match t with
 |.tup vs=>match vs[i]? with
  |some v=>match mv with
   |true=>some v
   |false=>some (share v)
  |none=>none
 |_=>none
def W5 (t:AV)(i:Nat):AV :=
 match t with
 |.tup vs=>.tup (vs.set i .junk)
 |v=>v
def aww (x:AV):Bool :=
 match x with
 |.nl=>true
 |_=>false
def WO (m:Nat)(h:ak)(a b:AV):AE_ :=
 match elems h b with
 |some ys=>match gM m ys with
  |true=>dR m h a ys
  |false=>none
 |none=>none
def as3 (z:V_)(h:ak)(a n:AV):AE_ :=
 match gJ n bQ with
 |some n=>dR z.length h a (List.replicate n z)
 |none=>none
def ahm (m:Nat)(hp:ak)(a b:AV):Option (D×ak) :=
 match elems hp b with
 |some ys=>match a with
  |.sl id off len=>match get hp id with
   |some (.arr k xs)=>match gM m ys && Nat.beq k m && Nat.ble (off+len) xs.length with
    |true=>some (.int .i64 (.ofNat (min len ys.length)),put hp id (.arr k (aF xs off (ys.take len))))
    |false=>none
   |_=>none
  |_=>match lenOf a with
   |some 0=>some (.int .i64 (.ofNat 0),hp)
   |_=>none
 |none=>none
def awr (z:V_)(hp:ak)(x:AV):Option ak :=
 match x with
 |.sl id off len=>match get hp id with
  |some (.arr k xs)=>match Nat.beq k z.length && Nat.ble (off+len) xs.length with
   |true=>some (put hp id (.arr k (aF xs off (List.replicate len z))))
   |false=>none
  |_=>none
 |_=>none
def MT (isMax:Bool)(vs:D_):L_ :=
 match vs with
 |.d (.int k n)::vs=>Ha isMax (.d (.int k n)) vs
 |_=>none
def AR (v:AV):L_ :=
 match v with
 |.ptr ..|.pel ..|.pim ..|.fn ..|.yield ..=>some v
 |_=>none
def fy (h:ak)(n:J_)(p:AV):L_ :=
 match loadAt h n 0 p with
 |some (v,_)=>some v
 |none=>none
def Ue (m:Nat)(vs:D_):Bool:=vs.all λv=>Nat.beq v.cells.length m && v.cells.all bB
def cL {β:Type}(e:aT)(x:Rd)(k:AV->aT->Option β):Option β :=
 match rd e x with
 |some (v,e)=>k v e
 |none=>none
def li {β:Type}:aT->S_->(D_->aT->Option β)->Option β
 |e,[],k=>k [] e
 |e,x::r,k=>match rd e x with
  |some (v,e)=>li e r λvs e=>k (v::vs) e
  |none=>none
def np {β:Type}(e:aT)(x:AA_)(k:L_->aT->Option β):Option β :=
 match x with
 |none=>k none e
 |some x=>match rd e x with
  |some (v,e)=>k (some v) e
  |none=>none
def bH:Rd->Bool
 |.m _=>false
 |_=>true
def bU {β:Type}(P:Nat->X_)(op:pV)(e:aT)(hs:HS)(k:AV->aT->HS->Option β):Option β :=
 match op with
 |.mov x=>cL e x λv e=>k v e hs
 |.pick c a b=>cL e c λc e=>match bH a && bH b,rd e a,rd e b with
  |true,some (a,_),some (b,_)=>bA (Uw c a b) λv=>k v e hs
  |_,_,_=>bP (lQ (.c c) a b ⟨e,hs⟩) λv st=>k v st.env st.hs
 |.alloc zs=>lA (put hs.heap hs.next (.cells zs)) λh=>k (.ptr hs.next 0) e ⟨h,hs.next+1⟩
 |.box x=>cL e x λv e=>dE (v.cells.all bB) (lA (put hs.heap hs.next (.cells v.cells)) λh=>k (.ptr hs.next 0) e ⟨h,hs.next+1⟩)
 |.build zs ps=>li e (tq ps) λvs e=>bA (dM zs (vw ps vs)) λcs=>k (.agg cs) e hs
 |.mks m ps=>li e ps λvs e=>bA (ji m vs) λxs=>k (.own true m xs) e hs
 |.mksv m ps=>li e ps λvs e=>dE (Ue m vs) (lA (put hs.heap hs.next (.cells (vs.flatMap AV.cells))) λh=>k (.sl hs.next 0 vs.length) e ⟨h,hs.next+1⟩)
 |.ld n 0 p=>cL e p λp e=>bA (fy hs.heap n p) λv=>k v e hs
 |.ld n (t+1) p=>cL e p λp e=>bP (loadAt hs.heap n (t+1) p) λv h=>k v e ⟨h,hs.next⟩
 |.st n p x=>cL e p λp e=>cL e x λx e=>bA (storeAt hs.heap n p x) λh=>k .junk e ⟨h,hs.next⟩
 |.nilck x=>cL e x λv e=>bA (AR v) λv=>k v e hs
 |.bin op x y=>cL e x λa e=>cL e y λb e=>bA (fT op a b) λv=>k (.d v) e hs
 |.binb neg x y=>cL e x λa e=>cL e y λb e=>bA (Yg neg a b) λv=>k (.d v) e hs
 |.bina neg ks x y=>cL e x λa e=>cL e y λb e=>bA (Yq neg ks a b) λv=>k (.d v) e hs
 |.un op x=>cL e x λa e=>bA (unD op a) λv=>k (.d v) e hs
 |.conv j x=>cL e x λa e=>bA (Zf j a) λv=>k (.d v) e hs
 |.toStr x=>cL e x λa e=>bA (Nc hs.heap a) λv=>k (.d v) e hs
 |.mkfn f a c=>li e a λa e=>li e c λc e=>k (.fn f (shareAll a) (shareAll c)) e hs
 |.mkslice z l c=>cL e l λl e=>cL e c λc e=>bA (Em z l c) λv=>k v e hs
 |.slice m x lo hi mx=>cL e x λx e=>np e lo λlo e=>np e hi λhi e=>np e mx λmx e=>bA (OX hs.heap m x lo hi mx) λv=>k v e hs
 |.slarr n x lo hi mx=>cL e x λx e=>np e lo λlo e=>np e hi λhi e=>np e mx λmx e=>bA (Si hs.heap n x lo hi mx) λv=>k v e hs
 |.fa off p=>cL e p λp e=>bA (gX off p) λv=>k v e hs
 |.fld off n x=>cL e x λx e=>bA (ayy off n x) λv=>k v e hs
 |.ia n x i=>cL e x λx e=>cL e i λi e=>bA (ZC hs.heap n x i) λv=>k v e hs
 |.iarr l n p i=>cL e p λp e=>cL e i λi e=>bA (K0 l n p i) λv=>k v e hs
 |.ix l n a x i=>cL e x λx e=>cL e i λi e=>bA (ixV l n a x i) λv=>k v e hs
 |.ixs x i=>cL e x λx e=>cL e i λi e=>bA (awa x i) λv=>k (.d v) e hs
 |.ext j true i=>match get e j with
  |some t=>bA (FP true t i) λv=>k v (put e j (W5 t i)) hs
  |none=>none
 |.ext j false i=>match get e j with
  |some t=>bA (FP false t i) λv=>k v e hs
  |none=>none
 |.len x=>cL e x λx e=>bA (lenOf x) λn=>k (.int .i64 (.ofNat n)) e hs
 |.cap x=>cL e x λx e=>dE (aww x) (k (.int .i64 (.ofNat 0)) e hs)
 |.app m x y=>cL e x λa e=>cL e y λb e=>bP (WO m hs.heap a b) λv h=>k v e ⟨h,hs.next⟩
 |.appz z x n=>cL e x λa e=>cL e n λn e=>bP (as3 z hs.heap a n) λv h=>k v e ⟨h,hs.next⟩
 |.cpy m x y=>cL e x λa e=>cL e y λb e=>bP (ahm m hs.heap a b) λv h=>k (.d v) e ⟨h,hs.next⟩
 |.clr z x=>cL e x λx e=>bA (awr z hs.heap x) λh=>k (.tup []) e ⟨h,hs.next⟩
 |.minmax b xs=>li e xs λvs e=>bA (MT b vs) λv=>k v e hs
 |.call f args=>li e args λvs e=>bA (fh (Dn P) f vs hs.heap) λv=>k v e hs
 |.calli f args=>li e args λvs e=>bP ((Dn P).call f vs hs) λv hs=>k v e hs
 |.callv f args=>cL e f λf e=>li e args λvs e=>bP (dD (Dn P) f vs hs) λv hs=>k v e hs
 |.kill is=>k (.tup []) (is.foldl del e) hs
 |.idxb x c=>cL e x λx e=>cL e c λc e=>bA (aqw hs.heap x c) λv=>k v e hs
 |op=>bP (di op (Dn P) ⟨e,hs⟩) λv st=>k v st.env st.hs
def jO:S_->Bool
 |[]=>true
 |x::r=>bH x && jO r
def D0:AA_->Bool
 |none=>true
 |some x=>bH x
def dJ:pV->Bool
 |.mov x=>bH x
 |.ld _ 0 p=>bH p
 |.nilck x=>bH x
 |.bin _ x y=>bH x && bH y
 |.binb _ x y=>bH x && bH y
 |.un _ x=>bH x
 |.conv _ x=>bH x
 |.fa _ p=>bH p
 |.fld _ _ x=>bH x
 |.ia _ x i=>bH x && bH i
 |.iarr _ _ p i=>bH p && bH i
 |.ix _ _ _ x i=>bH x && bH i
 |.ixs x i=>bH x && bH i
 |.ext _ mv _=>!mv
 |.len x=>bH x
 |.call _ args=>jO args
 |.pick c a b=>bH c && bH a && bH b
 |.build _ ps=>jO (tq ps)
 |.toStr x=>bH x
 |.mkfn _ a c=>jO a && jO c
 |.mkslice _ l c=>bH l && bH c
 |.minmax _ xs=>jO xs
 |.slice _ x a b c=>bH x && (D0 a && (D0 b && D0 c))
 |_=>false
def Hc:pV->Bool
 |.calli _ args=>jO args
 |.callv f args=>bH f && jO args
 |_=>false
def cvi (P:Nat->X_)(i:VI)(e:aT)(hs:HS)(k:aT->HS->Z_):Z_ :=
 match i.guard with
 |none=>match i.th with
  |[]=>match i.dst with
   |some d=>bU P i.op e hs λv e hs=>k (put e d (firm v)) hs
   |none=>bU P i.op e hs λ_ e hs=>k e hs
  |th=>match i.dst with
   |some d=>bU P i.op e hs λv e hs=>lP (dO th v hs) λv hs=>k (put e d (firm v)) hs
   |none=>bU P i.op e hs λv e hs=>lP (dO th v hs) λ_ hs=>k e hs
 |some (s,w)=>match dJ i.op,i.th,i.dst with
  |true,[],some d=>match get e s with
   |some g=>bA (gV g w (bU P i.op e hs λv _ _=>some v)) λv=>k (put e d (firm v)) hs
   |none=>none
  |_,_,_=>match Hc i.op,i.th,i.dst with
   |true,[],some d=>match get e s with
    |some g=>bP (gH g w hs (bU P i.op e hs λv _ hs=>some (v,hs))) λv hs=>k (put e d (firm v)) hs
    |none=>none
   |_,_,_=>bA (cV (Dn P) i ⟨e,hs⟩) λst=>k st.env st.hs
def rk (P:Nat->X_):R_->aT->HS->Z_
 |[],e,hs=>some ⟨e,hs⟩
 |i::l,e,hs=>cvi P i e hs λe hs=>rk P l e hs
theorem atO {op:BinOp}{a b v:AV}(h:dw op a b=some v):∃x,v=.d x:=by
 unfold dw at h
 grind
theorem axx {op:UnOp}{a v:AV}(h:aaI op a=some v):∃x,v=.d x:=by
 unfold aaI at h
 grind
theorem fc {β:Type}{e:aT}{x:Rd}{k:AV->aT->Option β}:cL e x k=match rd e x with|some (v,e)=>k v e|none=>none:=rfl
theorem oP {β:Type}:∀{l:S_}{e:aT}{k:D_->aT->Option β},li e l k=match rdAll e l with|some (vs,e)=>k vs e|none=>none
 |[],_,_=>rfl
 |x::r,e,k=>by
  simp only[li,rdAll]
  cases rd e x with
  |none=>rfl
  |some p =>
   simp only;rw[oP]
   grind
theorem ajQ {β:Type}{e:aT}{x:AA_}{k:L_->aT->Option β}:np e x k=match rdOpt e x with|some (v,e)=>k v e|none=>none:=by
 cases x<;>grind [np,rdOpt]
theorem aq3 {h h':ak}{n:J_}{p v:AV}(k:loadAt h n 0 p=some (v,h')):h'=h:=by
 unfold loadAt at k
 grind
def gr {β:Type}(x:K_)(k:AV->aT->HS->Option β):Option β :=
 match x with
 |some (v,st)=>k v st.env st.hs
 |none=>none
theorem uO {e e1:aT}{x:Rd}{v:AV}(hs:bH x=true)(h:rd e x=some (v,e1)):e1=e:=by
 cases x<;>grind [rd,bH]
theorem OV {a b:Rd}{st:St}:lQ (.c (B_ true)) a b st=match rd st.env a with|some (v,e)=>some (v,⟨e,st.hs⟩)|none=>none:=rfl
theorem NH {a b:Rd}{st:St}:lQ (.c (B_ false)) a b st=match rd st.env b with|some (v,e)=>some (v,⟨e,st.hs⟩)|none=>none:=rfl
theorem Jk {β:Type}{op:pV}{e:aT}{hs:HS}{k:AV->aT->HS->Option β}:bU P op e hs k=gr (di op (Dn P) ⟨e,hs⟩) k:=by
 cases op with
 |mov x=>grind [bU,di,UD,fc,gr]
 |pick c a b =>
  simp only[bU,di,fc]
  cases hc:rd e c with
  |none=>grind [lQ,gr]
  |some q =>
   obtain⟨v,e1⟩:=q;have h0:lQ c a b ⟨e,hs⟩=lQ (.c v) a b ⟨e1,hs⟩:=by
    unfold lQ;simp only;rw[hc];rfl
   rw[h0];simp only;split
   .rename_i va _ vb _ hst hra hrb;simp only[af]at hst;have ea:=uO hst.1 hra;have eb:=uO hst.2 hrb;subst ea;subst eb;simp only[gr]
    cases v with
    |d x=>cases x with
     |bool t =>
      cases t
      all_goals grind [NH,Uw,bA,OV]
     |_=>rfl
    |_=>rfl
   .simp only[bP,gr]
    grind
 |ld n t p =>
  cases t with
  |zero =>
   simp only[bU,di,Fz,fc,gr]
   cases rd e p with
   |none=>rfl
   |some q =>
    obtain⟨v,e1⟩:=q;simp only[fy,bA]
    cases hl:loadAt hs.heap n 0 v with
    |none=>rfl
    |some r=>obtain⟨v2,h2⟩:=r;simp only[aq3 hl]
  |succ t =>
   grind [bU,di,Fz,fc,gr,bP]
 |alloc zs=>rfl
 |box x =>
  grind [bU,di,UH,fc,gr,dE,lA,Jf]
 |build zs ps =>
  grind [bU,di,Fa,oP,gr,bA]
 |mks m ps =>
  grind [bU,di,Og,oP,gr,bA]
 |mksv m ps =>
  grind [bU,di,Zz,oP,gr,dE,lA,Jf,Ue]
 |st n p x =>
  simp only[bU,di,amR,fc,gr]
  grind [bA]
 |nilck x =>
  grind [bU,di,IW,fc,gr,bA,AR]
 |bin op x y =>
  simp only[bU,di,OE,Uv,fc,gr]
  grind [bA,fT,atO]
 |binb neg x y =>
  simp only[bU,di,MD,fc,gr]
  grind [bA,Yg]
 |bina neg ks x y =>
  simp only[bU,di,Nq,fc,gr]
  cases rd e x<;>grind [bA,Yq]
 |un op x =>
  grind [bU,di,abf,fc,gr,bA,unD,axx]
 |conv j x =>
  simp only[bU,di,JA,fc,gr]
  cases rd e x with
  |none=>rfl
  |some q =>
   obtain⟨v,e1⟩:=q;simp only[bA,Zf]
   grind
 |toStr x =>
  simp only[bU,di,M5,fc,gr]
  grind [bA,Nc]
 |mkfn f a c =>
  grind [bU,di,Jl,oP,gr]
 |mkslice z l c =>
  simp only[bU,di,mS,fc,gr]
  cases rd e l<;>grind [bA,Em]
 |slice m x lo hi mx =>
  simp only[bU,di,MB,fc,ajQ,gr]
  cases rd e x<;>grind [bA,OX]
 |slarr n x lo hi mx =>
  simp only[bU,di,Uf,fc,ajQ,gr]
  cases rd e x with
  |none=>rfl
  |some q =>
   obtain⟨v,e1⟩:=q;simp only
   cases v<;>grind [bA,Si]
 |fa off p =>
  grind [bU,di,abp,fc,gr,bA]
 |fld off n x =>
  simp only[bU,di,OO,fc,gr]
  cases rd e x with
  |none=>rfl
  |some q =>
   obtain⟨v,e1⟩:=q;simp only[bA,ayy]
   grind
 |ia n x i =>
  simp only[bU,di,aeY,fc,gr]
  cases rd e x with
  |none=>rfl
  |some q =>
   obtain⟨v,e1⟩:=q;simp only
   cases rd e1 i with
   |none=>rfl
   |some q =>
    obtain⟨w,e2⟩:=q;simp only[bA,ZC]
    cases s9 w with
    |none=>rfl
    |some j =>
     simp only
     cases v<;>grind
 |iarr l n p i =>
  simp only[bU,di,Mq,fc,gr]
  cases rd e p<;>grind [bA,K0]
 |ix l n a x i =>
  simp only[bU,di,Xc,fc,gr]
  cases rd e x with
  |none=>rfl
  |some q =>
   obtain⟨v,e1⟩:=q;simp only
   cases hi:rd e1 i with
   |none=>grind
   |some q =>
    obtain⟨w,e2⟩:=q;simp only[bA,ixV]
    grind
 |ixs x i =>
  simp only[bU,di,PT,fc,gr]
  cases rd e x with
  |none=>rfl
  |some q =>
   obtain⟨v,e1⟩:=q;simp only
   cases hi:rd e1 i with
   |none=>grind
   |some q =>
    obtain⟨w,e2⟩:=q;simp only[bA,awa]
    grind
 |ext j mv i =>
  cases mv with
  |true =>
   simp only[bU,di,DH,gr]
   cases get e j with
   |none=>rfl
   |some t =>
    simp only[bA,FP,W5]
    grind
  |false =>
   simp only[bU,di,DH,gr]
   cases get e j with
   |none=>rfl
   |some t =>
    simp only[bA,FP]
    grind
 |len x =>
  grind [bU,di,TM,fc,gr,bA]
 |cap x =>
  simp only[bU,di,Pv,fc,gr]
  cases rd e x with
  |none=>rfl
  |some q =>
   obtain⟨v,e1⟩:=q;simp only[dE,aww]
   grind
 |app m x y =>
  simp only[bU,di,Io,fc,gr]
  cases rd e x<;>grind [bP,WO]
 |appz z x n =>
  simp only[bU,di,aes,fc,gr]
  grind [bP,as3]
 |cpy m x y =>
  simp only[bU,di,XC,fc,gr]
  cases rd e x with
  |none=>rfl
  |some q =>
   obtain⟨v,e1⟩:=q;simp only
   cases rd e1 y with
   |none=>rfl
   |some q =>
    obtain⟨w,e2⟩:=q;simp only[bP,ahm]
    cases elems hs.heap w with
    |none=>rfl
    |some ys =>
     simp only
     cases v with
     |sl id off len =>
      grind
     |_ =>
      simp only;generalize lenOf _=n
      cases n with
      |none=>rfl
      |some n=>cases n<;>rfl
 |clr z x =>
  simp only[bU,di,Uz,fc,gr]
  cases rd e x with
  |none=>rfl
  |some q =>
   simp only[bA,awr]
   grind
 |minmax b xs =>
  simp only[bU,di,Ce,oP,gr]
  cases rdAll e xs with
  |none=>rfl
  |some q =>
   simp only[bA,MT]
   grind
 |call f args =>
  grind [bU,di,G5,oP,gr,bA]
 |calli f args =>
  grind [bU,di,Fu,oP,gr,bP]
 |callv f args =>
  simp only[bU,di,FO,fc,oP,gr]
  grind [bP]
 |kill is=>rfl
 |idxb x c =>
  simp only[bU,di,aeJ,fc,gr]
  grind [bA]
 |_ =>
  simp only[bU,bP,gr]
  grind
theorem QL:∀{l:S_}{e e1:aT}{vs:D_},jO l=true->rdAll e l=some (vs,e1)->e1=e
 |[],e,e1,vs,_,h=>by grind [rdAll]
 |x::r,e,e1,vs,hs,h=>by
  simp only[jO,af]at hs;simp only[rdAll]at h;split at h
  .simp at h
  .rename_i v e2 h1;split at h
   .simp at h
   .rename_i vs2 e3 h2;have a1:=uO hs.1 h1;have a2:=QL hs.2 h2
    simp_all
theorem kZ {β:Type}{e:aT}{x:Rd}{k:AV->aT->Option β}(h:bH x=true):cL e x k=cL e x λv _=>k v e:=by
 grind [cL,uO]
theorem ze {β:Type}{e:aT}{l:S_}{k:D_->aT->Option β}(h:jO l=true):li e l k=li e l λv _=>k v e:=by
 grind [oP,QL]
theorem PO {β:Type}{e:aT}{x:AA_}{k:L_->aT->Option β}(h:D0 x=true):np e x k=np e x λv _=>k v e:=by
 cases x with
 |none=>rfl
 |some x=>exact kZ (k:=λv e=>k (some v) e) h
theorem mu {α β γ:Type}{x:Option α}{f:α->Option β}{g:β->Option γ}:bA (bA x f) g=bA x λv=>bA (f v) g:=by
 cases x<;>rfl
theorem gg {β γ:Type}{e:aT}{x:Rd}{k:AV->aT->Option β}{g:β->Option γ}:bA (cL e x k) g=cL e x λv e=>bA (k v e) g:=by
 simp only[cL];cases rd e x<;>rfl
theorem La {β γ:Type}{e:aT}{x:S_}{k:D_->aT->Option β}{g:β->Option γ}:bA (li e x k) g=li e x λv e=>bA (k v e) g:=by
 simp only[oP];cases rdAll e x<;>rfl
theorem fM {α β:Type}{v:α}{f:α->Option β}:bA (some v) f=f v:=rfl
theorem Tf {β:Type}{e:aT}{x y:Rd}{k:AV->AV->aT->Option β}(h:bH x=true)(h2:bH y=true):(cL e x λa e=>cL e y λb e=>k a b e)=cL e x λa _=>cL e y λb _=>k a b e:=by
 grind [cL,uO]
theorem PH {β:Type}{e:aT}{x y:Rd}{k:AV->AV->Option β}(h:bH x=true)(h2:bH y=true):(cL e x λa e=>cL e y λb _=>k a b)=cL e x λa _=>cL e y λb _=>k a b:=Tf (k:=λa b _=>k a b) h h2
theorem aor {β:Type}{op:pV}{e:aT}{hs:HS}{k:AV->aT->HS->Option β}(h:dJ op=true):bU P op e hs k=bA (bU P op e hs λv _ _=>some v) λv=>k v e hs:=by
 cases op with
 |mov x =>
  grind [dJ,bU,gg,fM,kZ]
 |ld n t p =>
  cases t<;>simp_all [dJ,bU,gg,mu,fM,kZ]
 |nilck x =>
  grind [dJ,bU,gg,mu,fM,kZ]
 |un op x =>
  grind [dJ,bU,gg,mu,fM,kZ]
 |conv op x =>
  grind [dJ,bU,gg,mu,fM,kZ]
 |fa off p =>
  grind [dJ,bU,gg,mu,fM,kZ]
 |fld off n p =>
  grind [dJ,bU,gg,mu,fM,kZ]
 |len x =>
  grind [dJ,bU,gg,mu,fM,kZ]
 |bin op x y =>
  simp only[dJ,af]at h;simp only[bU,gg,mu,fM];exact(Tf h.1 h.2).trans (PH h.1 h.2).symm
 |binb op x y =>
  simp only[dJ,af]at h;simp only[bU,gg,mu,fM];exact(Tf h.1 h.2).trans (PH h.1 h.2).symm
 |ia n x y =>
  simp only[dJ,af]at h;simp only[bU,gg,mu,fM];exact(Tf h.1 h.2).trans (PH h.1 h.2).symm
 |iarr l n x y =>
  simp only[dJ,af]at h;simp only[bU,gg,mu,fM];exact(Tf h.1 h.2).trans (PH h.1 h.2).symm
 |ix l n a x y =>
  simp only[dJ,af]at h;simp only[bU,gg,mu,fM];exact(Tf h.1 h.2).trans (PH h.1 h.2).symm
 |ixs x y =>
  simp only[dJ,af]at h;simp only[bU,gg,mu,fM];exact(Tf h.1 h.2).trans (PH h.1 h.2).symm
 |ext j mv i =>
  cases mv with
  |true=>simp[dJ]at h
  |false =>
   simp only[bU]
   cases get e j with
   |none=>rfl
   |some t=>grind [mu,fM]
 |call f args =>
  grind [dJ,bU,La,mu,fM,ze]
 |build zs ps =>
  grind [dJ,bU,La,mu,fM,ze]
 |slice m x lo hi mx =>
  simp only[dJ,af]at h;obtain⟨h0,h1,h2,h3⟩:=h;have bd:∀{γ:Type}{x:AA_}{e:aT}{k:L_->aT->L_}{g:AV->Option γ},bA (np e x k) g=np e x λv e=>bA (k v e) g:=by
   intro γ x e k g
   cases x with
   |none=>rfl
   |some x=>exact gg
  simp only[bU,gg,bd,mu,fM];rw[kZ h0,kZ (k:=λv e_1=>np e_1 lo λv_1 e_1=>np e_1 hi λv_2 e_1=>np e_1 mx λv_3 _=>bA (OX hs.heap m v v_1 v_2 v_3) λv=>k v e hs) h0]
  congr 1
  funext v _;rw[PO h1,PO (k:=λv_1 e_1=>np e_1 hi λv_2 e_1=>np e_1 mx λv_3 _=>bA (OX hs.heap m v v_1 v_2 v_3) λv=>k v e hs) h1]
  grind [PO]
 |minmax b ps =>
  grind [dJ,bU,La,mu,fM,ze]
 |toStr x =>
  grind [dJ,bU,gg,mu,fM,kZ]
 |mkslice z x y =>
  simp only[dJ,af]at h;simp only[bU,gg,mu,fM];exact(Tf h.1 h.2).trans (PH h.1 h.2).symm
 |mkfn f a c =>
  simp_all [dJ,bU,La,fM,ze]
 |pick c a b =>
  simp only[dJ,af]at h;simp only[bU,gg];have h2:(bH a && bH b)=true:=u_;simp only[cL]
  cases hc:rd e c with
  |none=>rfl
  |some q =>
   obtain⟨v,e1⟩:=q;have:=uO h.1.1 hc;subst this;simp only[h2]
   cases ha:rd e1 a with
   |none =>
    cases hb:rd e1 b with
    |none =>
     cases v<;>try rfl
     rename_i d;cases d<;>try rfl
     rename_i t;cases t<;>simp only[OV,NH,ha,hb,bP,bA]
    |some q =>
     have:=uO h.2 hb;subst this
     cases v<;>try rfl
     rename_i d;cases d<;>try rfl
     rename_i t;cases t<;>simp only[OV,NH,ha,hb,bP,bA]
   |some q =>
    obtain⟨va,ea⟩:=q;have:=uO h.1.2 ha;subst this
    cases hb:rd ea b with
    |none =>
     cases v<;>try rfl
     rename_i d;cases d<;>try rfl
     rename_i t;cases t<;>simp only[OV,NH,ha,hb,bP,bA]
    |some q=>grind [mu,fM]
 |_=>simp[dJ]at h
theorem atq {α β γ δ ε:Type}{x:Option (α×β)}{f:α->β->Option (γ×δ)}{g:γ->δ->Option ε}:bP (bP x f) g=bP x λv w=>bP (f v w) g:=by
 cases x<;>rfl
theorem al5 {β:Type}{op:pV}{e:aT}{hs:HS}{k:AV->aT->HS->Option β}(h:Hc op=true):bU P op e hs k=bP (bU P op e hs λv _ hs=>some (v,hs)) λv hs=>k v e hs:=by
 cases op with
 |calli f args =>
  simp only[bU];rw[ze h];simp only[oP]
  cases rdAll e args with
  |none=>rfl
  |some q=>simp only[atq];rfl
 |callv f args =>
  simp only[Hc,af]at h;simp only[bU];simp only[ze h.2];simp only[cL]
  cases hf:rd e f with
  |none=>rfl
  |some q =>
   obtain⟨v,e1⟩:=q;have:=uO h.1 hf;subst this;simp only[oP]
   cases rdAll e1 args with
   |none=>rfl
   |some q=>simp only[atq];rfl
 |_=>simp[Hc]at h
theorem abN:firm (.tup [])=.tup []:=rfl
theorem Tv {i:VI}{e:aT}{hs:HS}{k:aT->HS->Z_}:cvi P i e hs k=bA (cV (Dn P) i ⟨e,hs⟩) λst=>k st.env st.hs:=by
 obtain⟨dst,guard,op,th⟩:=i;unfold cvi
 cases guard with
 |none =>
  simp only[cV,gy]
  cases th with
  |nil =>
   cases dst with
   |none =>
    simp only[Jk,gr,cM]
    cases di op (Dn P) ⟨e,hs⟩<;>rfl
   |some d =>
    simp only[Jk,gr,cM]
    cases di op (Dn P) ⟨e,hs⟩<;>rfl
  |cons p r =>
   cases dst with
   |none =>
    simp only[Jk,gr,cM,lP]
    cases di op (Dn P) ⟨e,hs⟩<;>rfl
   |some d =>
    simp only[Jk,gr,cM,lP]
    cases di op (Dn P) ⟨e,hs⟩<;>rfl
 |some g =>
  obtain⟨s,w⟩:=g;simp only;split
  .rename_i d hst;have he:∀{k:AV->aT->HS->Z_},gr (di op (Dn P) ⟨e,hs⟩) k=bA (bU P op e hs λv _ _=>some v) λv=>k v e hs:=by
    intro k;rw[<-Jk,aor hst]
   have hv:∀{k:aT->HS->Z_},bA (gy (Dn P) ⟨some d,some (s,w),op,[]⟩ ⟨e,hs⟩) (λst=>k st.env st.hs)=bA (bU P op e hs λv _ _=>some v) λv=>k (put e d (firm v)) hs:=by
    intro k;rw[<-he (k:=λv e hs=>k (put e d (firm v)) hs)];simp only[gy,gr,cM]
    cases di op (Dn P) ⟨e,hs⟩<;>rfl
   simp only[cV]
   cases get e s with
   |none=>rfl
   |some g =>
    cases g with
    |d x=>cases x with
     |bool b =>
      simp only[gV]
      cases hb:(b == w)<;>simp_all [bA,abN,cM]
     |_=>rfl
    |tup vs=>cases vs<;>rfl
    |_=>rfl
  .split
   .rename_i d hst _;have he:∀{k:AV->aT->HS->Z_},gr (di op (Dn P) ⟨e,hs⟩) k=bP (bU P op e hs λv _ hs=>some (v,hs)) λv hs=>k v e hs:=by
     intro k;rw[<-Jk,al5 hst]
    have hv:∀{k:aT->HS->Z_},bA (gy (Dn P) ⟨some d,some (s,w),op,[]⟩ ⟨e,hs⟩) (λst=>k st.env st.hs)=bP (bU P op e hs λv _ hs=>some (v,hs)) λv hs=>k (put e d (firm v)) hs:=by
     intro k;rw[<-he (k:=λv e hs=>k (put e d (firm v)) hs)];simp only[gy,gr,cM]
     cases di op (Dn P) ⟨e,hs⟩<;>rfl
    simp only[cV]
    cases get e s with
    |none=>rfl
    |some g =>
     cases g with
     |d x=>cases x with
      |bool b =>
       simp only[gH]
       cases hb:(b == w)<;>simp_all [bA,bP,abN,cM]
      |_=>rfl
     |tup vs=>cases vs<;>rfl
     |_=>rfl
   .rfl
theorem aa9:∀{l:R_}{e:aT}{hs:HS},lh (Dn P) l ⟨e,hs⟩=rk P l e hs
 |[],_,_=>rfl
 |i::l,e,hs=>by
  simp only[lh,rk,Tv,bA]
  cases cV (Dn P) i ⟨e,hs⟩ with
  |none=>rfl
  |some st=>exact aa9
theorem GU {d:Bool}{ops:R_}{e:aT}{hs:HS}{x:Z_}(h:rk P ops e hs=x):(Dn P).code (.reg d ops) ⟨e,hs⟩=eJ x:=by
 grind [Wu,aa9]
theorem amw {perm gco:C_}{ops:R_}{e:aT}{hs:HS}{x:Z_}(ha:tz e ops=true)(hb:(perm.all λi=>decide (i<ops.length))=true)(h:rk P (perm.filterMap λi=>ops[i]?) e hs=x):(Dn P).code (.regP perm gco [] ops) ⟨e,hs⟩=eJ x:=by
 grind [apv,acC,aa9]
def ax7 (e:aT)(d:J_):Bool :=
 match d with
 |some d=>match get e d with
  |some a=>L3 a
  |none=>false
 |none=>false
def ara (P:Nat->X_)(F:C_)(v:VI)(e:aT)(hs:HS)(k:aT->HS->Z_):Z_ :=
 match uU v.op with
 |.call=>cvi P v e hs λe2 s2=>dE (dt F hs.heap s2.heap) (k e2 s2)
 |.take=>cvi P v e hs λe2 s2=>dE (ax7 e2 v.dst) (k e2 s2)
 |.read=>cvi P v e ⟨dL (oR v e) hs.heap,hs.next⟩ λe2 _=>k e2 hs
def Y8 (P:Nat->X_):List (Bool×VI)->C_->aT->HS->Z_
 |[],_,e,hs=>some ⟨e,hs⟩
 |(a,v)::l,F,e,hs=>match a with
  |false=>cvi P v e hs λe2 s2=>Y8 P l F e2 s2
  |true=>ara P F v e hs λe2 s2=>Y8 P l (ke true v e F) e2 s2
theorem au1 {F:C_}{v:VI}{e:aT}{hs:HS}{k:aT->HS->Z_}:ara P F v e hs k=bA (ya (Dn P) F v ⟨e,hs⟩) λst=>k st.env st.hs:=by
 unfold ara ya
 cases uU v.op with
 |call =>
  simp only[Tv]
  cases cV (Dn P) v ⟨e,hs⟩ with
  |none=>rfl
  |some st =>
   simp only[bA]
   cases dt F hs.heap st.hs.heap<;>rfl
 |take =>
  simp only[Tv]
  cases cV (Dn P) v ⟨e,hs⟩ with
  |none=>rfl
  |some st =>
   simp only[bA,ax7]
   cases v.dst with
   |none=>rfl
   |some d =>
    simp only
    cases get st.env d with
    |none=>rfl
    |some a=>simp only;cases L3 a<;>rfl
 |read =>
  simp only[Tv]
  cases cV (Dn P) v ⟨e,⟨dL (oR v e) hs.heap,hs.next⟩⟩<;>rfl
def adG (nr:C_)(ops:R_)(i:Nat):Option (Bool×VI) :=
 match ops[i]? with
 |some v=>some (eI i nr,v)
 |none=>none
theorem Wz {nr:C_}{ops:R_}:∀{l:C_}{F:C_}{e:aT}{hs:HS},(l.all λi=>decide (i<ops.length))=true->fP (Dn P) nr ops l F ⟨e,hs⟩=Y8 P (l.filterMap (adG nr ops)) F e hs
 |[],_,_,_,_=>rfl
 |i::l,F,e,hs,hb=>by
  simp only[gP,af,decide_eq_true_eq]at hb;have h1:ops[i]?=some ops[i]:=co hb.1;have h2:adG nr ops i=some (eI i nr,ops[i]):=by grind [adG]
  simp only[fP,h1,List.filterMap_cons,h2,Y8,bY]
  cases eI i nr with
  |false =>
   simp only[Tv,ke]
   cases cV (Dn P) ops[i] ⟨e,hs⟩ with
   |none=>rfl
   |some st=>exact Wz hb.2
  |true =>
   simp only[au1]
   cases ya (Dn P) F ops[i] ⟨e,hs⟩ with
   |none=>rfl
   |some st=>exact Wz hb.2
theorem dr {perm gco nr:C_}{ops:R_}{e:aT}{hs:HS}{x:Z_}(ha:tz e ops=true)(hb:(perm.all λi=>decide (i<ops.length))=true)(h:Y8 P (perm.filterMap (adG nr ops)) [] e hs=x):(Dn P).code (.regP perm gco nr ops) ⟨e,hs⟩=eJ x:=by
 rw[jM,<-h,<-Wz hb];simp only[de,Nk,MZ,ha]
 cases fP (Dn P) nr ops perm [] ⟨e,hs⟩<;>rfl
abbrev F (i:Nat):VC:=.reg false [⟨none,none,.free i,[]⟩]
def frK (e:aT)(hs:HS)(i:Nat):L_->I_
 |some (.ptr id _)=>some (.normal,⟨del e i,⟨del hs.heap id,hs.next⟩⟩)
 |some (.fn _ _ caps)=>some (.normal,⟨del e i,⟨delAll hs.heap (JJ caps),hs.next⟩⟩)
 |_=>some (.normal,⟨e,hs⟩)
theorem az8 {e:aT}{h:ak}{n i id o:Nat}:frK e ⟨h,n⟩ i (some (.ptr id o))=some (.normal,⟨del e i,⟨del h id,n⟩⟩):=rfl
theorem azY {e:aT}{h:ak}{n i f:Nat}{a c:D_}:frK e ⟨h,n⟩ i (some (.fn f a c))=some (.normal,⟨del e i,⟨delAll h (JJ c),n⟩⟩):=rfl
theorem av5 {i:Nat}{e:aT}{hs:HS}:(Dn P).code (F i) ⟨e,hs⟩=frK e hs i (get e i):=by
 rw[Wu];simp only[lh,cV,gy,di,Zk]
 cases get e i with
 |none=>rfl
 |some v=>cases v<;>rfl
abbrev K (l:C_):VC:=.reg false [⟨none,none,.kill l,[]⟩]
theorem awd {is:C_}{e:aT}{hs:HS}:(Dn P).code (K is) ⟨e,hs⟩=some (.normal,⟨is.foldl del e,hs⟩):=by rw[Wu];rfl
variable {P:Nat->X_}
attribute [simp ↓] ayc awD ayh axF aw4 av8 axj awi axE ayp awh aya ayf ayA awy aw2 axc axC Md auR at7 auH aup auT
attribute [simp ↓] aoV am1 aqo amA aon arS alW awd av5 az8 azY auc auf aom
attribute [simp] delAll JJ
attribute [simp] aCd ayv aDx put1 aDh awq
attribute [congr] ite_congr au9 at8 apV avn aug ar0
def Ph (x:Option (D_×St)):W_ :=
 match x with
 |some ([v],st)=>some (v,st.hs)
 |some (vs,st)=>some (.tup vs,st.hs)
 |none=>none
theorem awo {fn:aj}{st:St}:Hl fn st=Ph (fO st fn.results):=(by
 simp only[Hl,Ph]
 cases fO st fn.results with
 |none=>rfl
 |some q =>
  obtain⟨vs,s⟩:=q
  cases vs with
  |nil=>rfl
  |cons v r=>cases r<;>rfl)
@[simp] theorem aFs {st:St}:Ph (some ([],st))=some (.tup [],st.hs):=(rfl)
@[simp] theorem aFg {v:AV}{st:St}:Ph (some ([v],st))=some (v,st.hs):=(rfl)
@[simp] theorem aFl {v w:AV}{r:D_}{st:St}:Ph (some (v::w::r,st))=some (.tup (v::w::r),st.hs):=(rfl)
def nX (rs:AH_)(x:I_):W_ :=
 match x with
 |some (.normal,st)=>Ph (fO st rs)
 |some (.ret,st)=>Ph (fO st rs)
 |_=>none
@[simp ↓] theorem aEI {rs:AH_}{st:St}:nX rs (some (.normal,st))=Ph (fO st rs):=(rfl)
@[simp ↓] theorem aFB {rs:AH_}{st:St}:nX rs (some (.ret,st))=Ph (fO st rs):=(rfl)
@[simp ↓] theorem aFk {rs:AH_}{c:Prop}[Decidable c]{x y:I_}:nX rs (if c then x else y)=if c then nX rs x else nX rs y:=by split<;>rfl
@[simp ↓] theorem ajp {n:Nat}{rs:AH_}{b:VC}{x:I_}:Wx ⟨n,rs,b⟩ x=nX rs x:=by
 simp only[Wx,nX];split<;>simp only[awo]
theorem avg {rs:AH_}{x y:I_}(h:x=y):nX rs x=nX rs y:=by rw[h]
attribute [congr] avg
theorem ah {a b:VC}{st:St}(h:a=b):(Dn P).code (.loop a) st=sW P a ((Dn P).code b st):=by rw[<-h];exact apw
theorem aL {f:FuncId}{fn:aj}{n:Nat}{rs:AH_}{b:VC}{args:D_}(hf:P f=some fn)(hd:fn=⟨n,rs,b⟩)(hl:args.length=n):bn P f args=mO (nX rs ((Dn P).code b ⟨kK 0 args,⟨[],0⟩⟩)):=by
 subst hd;rw[aq5 hf hl,ajp]
theorem bC {f:FuncId}{fn:aj}{n:Nat}{rs:AH_}{b:VC}{args:D_}{hs:HS}(hf:P f=some fn)(hd:fn=⟨n,rs,b⟩)(hl:args.length=n):(Dn P).call f args hs=nX rs ((Dn P).code b ⟨kK 0 args,hs⟩):=by
 subst hd;rw[abz hf hl,ajp]
@[simp ↓] theorem aGt {α β:Type}{v:α}{f:α->Option β}:bA (some v) f=f v:=(rfl)
@[simp ↓] theorem aGs {α β:Type}{f:α->Option β}:bA none f=none:=(rfl)
@[simp ↓] theorem aGp {α β:Type}{c:Prop}[Decidable c]{x y:Option α}{f:α->Option β}:bA (if c then x else y) f=if c then bA x f else bA y f:=by split<;>rfl
@[simp ↓] theorem aGm {α γ β:Type}{v:α}{w:γ}{f:α->γ->Option β}:bP (some (v,w)) f=f v w:=(rfl)
@[simp ↓] theorem aGk {α γ β:Type}{f:α->γ->Option β}:bP none f=none:=(rfl)
@[simp ↓] theorem aGq {α γ β:Type}{c:Prop}[Decidable c]{x y:Option (α×γ)}{f:α->γ->Option β}:bP (if c then x else y) f=if c then bP x f else bP y f:=by split<;>rfl
@[simp ↓] theorem aGj {α β:Type}{x:α}{f:α->β}:lA x f=f x:=(rfl)
@[simp ↓] theorem aGz {α γ β:Type}{x:α}{y:γ}{f:α->γ->β}:lP (x,y) f=f x y:=(rfl)
@[simp ↓] theorem aFX {β:Type}{x:Option β}:dE true x=x:=(rfl)
@[simp ↓] theorem aFU {β:Type}{x:Option β}:dE false x=none:=(rfl)
theorem azm {α β:Type}{x y:Option α}{f:α->Option β}(h:x=y):bA x f=bA y f:=by rw[h]
theorem ay3 {α γ β:Type}{x y:Option (α×γ)}{f:α->γ->Option β}(h:x=y):bP x f=bP y f:=by rw[h]
theorem azQ {α β:Type}{x y:α}{f:α->β}(h:x=y):lA x f=lA y f:=by rw[h]
theorem azh {α γ β:Type}{x y:α×γ}{f:α->γ->β}(h:x=y):lP x f=lP y f:=by rw[h]
attribute [congr] azm ay3 azQ azh
@[simp ↓] theorem aFR {x:L_}:gV (B_ true) true x=x:=(rfl)
@[simp ↓] theorem aF4 {x:L_}:gV (B_ false) false x=x:=(rfl)
@[simp ↓] theorem aF9 {x:L_}:gV (B_ true) false x=some (.tup []):=(rfl)
@[simp ↓] theorem aFS {x:L_}:gV (B_ false) true x=some (.tup []):=(rfl)
@[simp ↓] theorem aGy {w:Bool}{x:L_}:gV (.tup []) w x=some (.tup []):=(rfl)
@[simp ↓] theorem aGd {hs:HS}{x:W_}:gH (B_ true) true hs x=x:=(rfl)
@[simp ↓] theorem aFK {hs:HS}{x:W_}:gH (B_ false) true hs x=some (.tup [],hs):=(rfl)
@[simp ↓] theorem aD5 {a b:AV}:Uw (B_ true) a b=some a:=(rfl)
@[simp ↓] theorem aEg {a b:AV}:Uw (B_ false) a b=some b:=(rfl)
@[simp] theorem aFz {x:D}:firm (.d x)=.d x:=(rfl)
@[simp] theorem aDO:firm .nl=.nl:=(rfl)
@[simp] theorem aC6 {p:Bool}{m:Nat}{xs:F_}:firm (.own p m xs)=.own false m xs:=(rfl)
@[simp] theorem aCe {cs:D_}:firm (.agg cs)=.agg (cs.map jB):=(rfl)
@[simp] theorem aDe {cs:D_}:firm (.tup cs)=.tup (cs.map tf):=(rfl)
@[simp] theorem aBZ {a b:Nat}:firm (.ptr a b)=.ptr a b:=(rfl)
@[simp] theorem aCc {a b c:Nat}:firm (.pel a b c)=.pel a b c:=(rfl)
@[simp] theorem aCW {a:V_}{b:Nat}:firm (.pim a b)=.pim a b:=(rfl)
@[simp] theorem aD2 {a b c:Nat}:firm (.sl a b c)=.sl a b c:=(rfl)
@[simp] theorem aDZ {f:FuncId}{a b:D_}:firm (.fn f a b)=.fn f a b:=(rfl)
@[simp] theorem aAh {n:Nat}:firm (.yield n)=.yield n:=(rfl)
theorem yG {op:BinOp}{a b:AV}{x:D}(h:dw op a b=some (.d x)):fT op a b=some x:=by simp only[fT,h]
theorem CD {op:BinOp}{a b:AV}{c:Prop}[Decidable c]{x y:D}(h:dw op a b=if c then some (.d x) else some (.d y)):fT op a b=if c then some x else some y:=by
 by_cases hc:c<;>simp[fT,h,hc]
@[simp] theorem aFw {k:IntKind}{a b:Int}:fT .add (.d (.int k a)) (.d (.int k b))=some (.int k (wr k (a+b))):=yG atI
@[simp] theorem aFb {k:IntKind}{a b:Int}:fT .sub (.d (.int k a)) (.d (.int k b))=some (.int k (wr k (a-b))):=yG au8
@[simp] theorem aE7 {k:IntKind}{a b:Int}:fT .mul (.d (.int k a)) (.d (.int k b))=some (.int k (wr k (a*b))):=yG atX
@[simp] theorem aEC {k:IntKind}{a b:Int}(h:b≠0):fT .quo (.d (.int k a)) (.d (.int k b))=some (.int k (wr k (a.tdiv b))):=yG (atK h)
@[simp] theorem aFj {k:IntKind}{a b:Int}(h:b≠0):fT .rem (.d (.int k a)) (.d (.int k b))=some (.int k (a.tmod b)):=yG (avI h)
@[simp] theorem aFy {k:IntKind}{a b:Int}:fT .eql (.d (.int k a)) (.d (.int k b))=if a=b then some (.bool true) else some (.bool false):=CD avq
@[simp] theorem aFi {k:IntKind}{a b:Int}:fT .neq (.d (.int k a)) (.d (.int k b))=if a=b then some (.bool false) else some (.bool true):=CD avf
@[simp] theorem aFn {k:IntKind}{a b:Int}:fT .lss (.d (.int k a)) (.d (.int k b))=if a<b then some (.bool true) else some (.bool false):=CD avC
@[simp] theorem aEs {k:IntKind}{a b:Int}:fT .leq (.d (.int k a)) (.d (.int k b))=if a<=b then some (.bool true) else some (.bool false):=CD auC
@[simp] theorem aFf {k:IntKind}{a b:Int}:fT .gtr (.d (.int k a)) (.d (.int k b))=if b<a then some (.bool true) else some (.bool false):=CD avh
@[simp] theorem aFv {k:IntKind}{a b:Int}:fT .geq (.d (.int k a)) (.d (.int k b))=if b<=a then some (.bool true) else some (.bool false):=CD atx
@[simp] theorem I9 {k j:IntKind}{a b:Int}(h:0<=b):fT .shl (.d (.int k a)) (.d (.int j b))=some (.int k (wr k (a*((2 ^ (min b.toNat k.bits):Nat):Int)))):=yG (avx h)
@[simp] theorem aed {k j:IntKind}{a b:Int}(h:0<=b):fT .shr (.d (.int k a)) (.d (.int j b))=some (.int k (a.fdiv ((2 ^ (min b.toNat k.bits):Nat):Int))):=yG (atz h)
@[simp] theorem aDX {a b:AF_}:fT .eql (.d (.str a)) (.d (.str b))=if a=b then some (.bool true) else some (.bool false):=CD apN
@[simp] theorem aDT {a b:AF_}:fT .neq (.d (.str a)) (.d (.str b))=if a=b then some (.bool false) else some (.bool true):=CD asl
theorem ay8 {k:IntKind}{a b:Nat}(h:a<AA k)(h2:b<AA k)(h3:a |||b<AA k):fT .or (.d (.int k (a:Int))) (.d (.int k (b:Int)))=some (.int k ((a |||b:Nat):Int)):=yG (axo h h2 h3)
theorem axv {k:IntKind}{a b:Nat}(h:a<AA k)(h2:b<AA k):fT .and (.d (.int k (a:Int))) (.d (.int k (b:Int)))=some (.int k ((a &&& b:Nat):Int)):=yG (avG h h2)
theorem aoF {n b:Nat}(h:b<=1):2*n |||b=2*n+b:=by
 have:=Nat.two_pow_add_eq_or_of_lt (i:=1) (b:=b) o_ n;simpa using this.symm
@[simp] theorem aFp {a b:Int}(h:0<=a)(h1:a<4611686018427387904)(h2:a % 2=0)(h3:0<=b)(h4:b<=1):fT .or (A_ a) (A_ b)=some (.int .i64 (a+b)):=by
 obtain⟨n,rfl⟩:∃n:Nat,a=((2*n:Nat):Int):=⟨(a / 2).toNat,o_⟩
 obtain⟨m,rfl⟩:=ay h3;have hm:m<=1:=o_;have ht:AA .i64=9223372036854775808:=rfl;rw[ay8 o_ o_ (by rw[aoF hm];omega),aoF hm];simp
@[simp] theorem aD7 {b:Bool}:unD .not (B_ b)=some (.bool !b):=(rfl)
@[simp] theorem aEi {k:IntKind}{n:Int}:unD .neg (.d (.int k n))=some (.int k (wr k (0-n))):=(rfl)
@[simp] theorem aDW {k j:IntKind}{n:Int}:Zf k (.d (.int j n))=some (.int k (wr k n)):=(rfl)
attribute [simp] YU aAl awv axz awH
attribute [simp] apZ aqu ao7 aoa IntKind.bits
@[simp] theorem aD0 {h:ak}{m:Nat}{xs:F_}{k:IntKind}{i:Int}(h0:0<=i):ZC h m (.d (.lst xs)) (.d (.int k i))=bA xs[i.toNat]? λx=>if x.length=m then some (.pim x 0) else none:=by
 simp only[ZC,TQ h0,elems]
 cases xs[i.toNat]? with
 |none=>rfl
 |some x =>
  simp only[bA];by_cases hx:x.length=m
  .simp[hx]
  .simp[hx,abc]
@[simp] theorem aEx {h:ak}{m j:Nat}{xs:F_}{k:IntKind}{i:Int}(h0:0<=i):ZC h m (.own false j xs) (.d (.int k i))=bA xs[i.toNat]? λx=>if x.length=m then some (.pim x 0) else none:=by
 simp only[ZC,TQ h0,elems]
 cases xs[i.toNat]? with
 |none=>rfl
 |some x =>
  simp only[bA];by_cases hx:x.length=m
  .simp[hx]
  .simp[hx,abc]
attribute [simp] B7 arg an9
@[simp] theorem aDQ {h:ak}{n:J_}{cs:V_}{o:Nat}:fy h n (.pim cs o)=pF n cs o:=by
 simp only[fy,loadAt];cases pF n cs o<;>rfl
@[simp] theorem aCB {cs:V_}{o:Nat}:pF none cs o=(cs[o]?).map .d:=by simp only[pF];cases cs[o]?<;>rfl
@[simp] theorem aCT {cs:V_}{n o:Nat}:pF (some n) cs o=if o+n<=cs.length then some (.agg ((sub cs o n).map .d)) else none:=by
 by_cases h:o+n<=cs.length<;>simp[pF,ZZ,h]
@[simp] theorem gq0 {α:Type}{x:α}{r:List α}:(x::r)[0]?=some x:=(rfl)
@[simp] theorem aCt {f:FuncId}{vs:D_}{h:ak}:fh (Dn P) f vs h=bA (viewArgs h vs) λds=>bA (bn P f ds) λv=>if vs.any ve=false then some v else if iV v=true then some v else some (Px v):=by
 simp only[fh,bn,mO,bA]
 cases viewArgs h vs with
 |none=>rfl
 |some ds =>
  simp only
  cases (Dn P).call f ds ⟨[],0⟩ with
  |none=>rfl
  |some q =>
   obtain⟨v,h2⟩:=q;simp only
   cases eY h2.heap v with
   |none=>rfl
   |some v =>
    simp only
    cases vs.any ve with
    |false=>rfl
    |true=>simp only;cases iV v<;>rfl
@[simp] theorem aEa {x:D}:share (.d x)=.d x:=(rfl)
@[simp] theorem aCy  : share (.nl)=.nl:=(rfl)
@[simp] theorem azB {m:Nat}{xs:F_}:share (.own false m xs)=.d (.lst xs):=(rfl)
@[simp] theorem aAJ {cs:D_}:share (.agg cs)=.agg (shareAll cs):=(rfl)
@[simp] theorem aBp {cs:D_}:share (.tup cs)=.tup (shareAll cs):=(rfl)
@[simp] theorem aBD {a b:Nat}:share (.ptr a b)=.ptr a b:=(rfl)
@[simp] theorem aAX {a b c:Nat}:share (.pel a b c)=.pel a b c:=(rfl)
@[simp] theorem aBd {cs:V_}{b:Nat}:share (.pim cs b)=.pim cs b:=(rfl)
@[simp] theorem aCj {a b c:Nat}:share (.sl a b c)=.sl a b c:=(rfl)
@[simp] theorem aDD {f:FuncId}{a b:D_}:share (.fn f a b)=.fn f a b:=(rfl)
@[simp] theorem ayQ {n:Nat}:share (.yield n)=.yield n:=(rfl)
@[simp] theorem azc  : shareAll []=[]:=(rfl)
@[simp] theorem aAm {v:AV}{r:D_}:shareAll (v::r)=share v::shareAll r:=(by rw[rD])
@[simp] theorem aD8 {x:D}:jB (.d x)=.d x:=(rfl)
@[simp] theorem aDJ {x:D}:tf (.d x)=.d x:=(rfl)
@[simp] theorem aD6 {x:D}:AV.cells (.d x)=[.d x]:=(rfl)
@[simp] theorem aCX {x:D}:bB (.d x)=true:=(rfl)
@[simp] theorem aCx {x:D}:wl (.d x)=bB (.d x):=(rfl)
@[simp] theorem aES {x:D}:wY (.d x)=false:=(rfl)
@[simp] theorem aDF {x:D}:ve (.d x)=false:=(rfl)
@[simp] theorem aDt {x:D}:nQ (.d x)=.d x:=(rfl)
@[simp] theorem aCE {x:D}:mR (.d x)=.d x:=(rfl)
@[simp] theorem aCI {x:D}:nG (.d x)=.d x:=(rfl)
@[simp] theorem aB6  : jB (.nl)=.nl:=(rfl)
@[simp] theorem aB3  : tf (.nl)=.nl:=(rfl)
@[simp] theorem aDz  : AV.cells (.nl)=[.nl]:=(rfl)
@[simp] theorem aBB  : bB (.nl)=true:=(rfl)
@[simp] theorem aBN  : wl (.nl)=bB (.nl):=(rfl)
@[simp] theorem aEk  : wY (.nl)=false:=(rfl)
@[simp] theorem aDn  : ve (.nl)=false:=(rfl)
@[simp] theorem aAK  : ju (.nl)=true:=(rfl)
@[simp] theorem aBW  : jQ (.nl)=true:=(rfl)
@[simp] theorem aAQ  : iV (.nl)=true:=(rfl)
@[simp] theorem aBz  : nQ (.nl)=.nl:=(rfl)
@[simp] theorem aBQ  : mR (.nl)=.nl:=(rfl)
@[simp] theorem aBh  : nG (.nl)=.nl:=(rfl)
@[simp] theorem aA5 {p:Bool}{m:Nat}{xs:F_}:jB (.own p m xs)=.own false m xs:=(rfl)
@[simp] theorem aA9 {p:Bool}{m:Nat}{xs:F_}:tf (.own p m xs)=.own false m xs:=(rfl)
@[simp] theorem aBS {p:Bool}{m:Nat}{xs:F_}:AV.cells (.own p m xs)=[.own p m xs]:=(rfl)
@[simp] theorem azi {p:Bool}{m:Nat}{xs:F_}:bB (.own p m xs)=!p:=(rfl)
@[simp] theorem aze {p:Bool}{m:Nat}{xs:F_}:wl (.own p m xs)=bB (.own p m xs):=(rfl)
@[simp] theorem aB7 {p:Bool}{m:Nat}{xs:F_}:wY (.own p m xs)=false:=(rfl)
@[simp] theorem aA6 {p:Bool}{m:Nat}{xs:F_}:ve (.own p m xs)=false:=(rfl)
@[simp] theorem aBn {cs:D_}:tf (.agg cs)=.agg (cs.map jB):=(rfl)
@[simp] theorem aA4 {cs:D_}:AV.cells (.agg cs)=cs:=(rfl)
@[simp] theorem ayZ {cs:D_}:wl (.agg cs)=true:=(rfl)
@[simp] theorem aBb {cs:D_}:ve (.agg cs)=cs.any wY:=(rfl)
@[simp] theorem aBe {a b:Nat}:AV.cells (.ptr a b)=[.ptr a b]:=(rfl)
@[simp] theorem aAE {a b:Nat}:bB (.ptr a b)=true:=(rfl)
@[simp] theorem aBg {a b:Nat}:AR (.ptr a b)=some (.ptr a b):=(rfl)
@[simp] theorem aCQ {a b c:Nat}:jB (.sl a b c)=.sl a b c:=(rfl)
@[simp] theorem aCg {a b c:Nat}:tf (.sl a b c)=.sl a b c:=(rfl)
@[simp] theorem aCU {a b c:Nat}:AV.cells (.sl a b c)=[.sl a b c]:=(rfl)
@[simp] theorem aBv {a b c:Nat}:wl (.sl a b c)=bB (.sl a b c):=(rfl)
@[simp] theorem aEp {a b c:Nat}:wY (.sl a b c)=true:=(rfl)
@[simp] theorem aDc {f:FuncId}{a b:D_}:AV.cells (.fn f a b)=[.fn f a b]:=(rfl)
@[simp] theorem aBk {xs:F_}:lenOf (.d (.lst xs))=some xs.length:=(rfl)
@[simp] theorem aCs  : lenOf .nl=some 0:=(rfl)
@[simp] theorem aAO {p:Bool}{m:Nat}{xs:F_}:lenOf (.own p m xs)=some xs.length:=(rfl)
@[simp] theorem aC0 {a b n:Nat}:lenOf (.sl a b n)=some n:=(rfl)
@[simp] theorem apk {h:ak}{xs:F_}:elems h (.d (.lst xs))=some xs:=(rfl)
@[simp] theorem aBs {h:ak}{m:Nat}{xs:F_}:elems h (.own false m xs)=some xs:=(rfl)
@[simp] theorem aAa {o a b:Nat}:gX o (.ptr a b)=some (.ptr a (b+o)):=(rfl)
@[simp] theorem azX {o b:Nat}{cs:V_}:gX o (.pim cs b)=some (.pim cs (b+o)):=(rfl)
@[simp] theorem aEN {cs:D_}{i:Nat}:FP true (.tup cs) i=cs[i]?:=(by simp only[FP];cases cs[i]?<;>rfl)
@[simp] theorem aED {cs:D_}{i:Nat}:FP false (.tup cs) i=(cs[i]?).map share:=(by simp only[FP];cases cs[i]?<;>rfl)
@[simp] theorem aEJ {cs:D_}{i:Nat}:W5 (.tup cs) i=.tup (cs.set i .junk):=(rfl)
@[simp] theorem aGg {x:D}:EK (.d x)=some x:=(rfl)
@[simp] theorem aFq  : EK .nl=some (.lst []):=(rfl)
@[simp] theorem aEj {m:Nat}{xs:F_}:EK (.own false m xs)=some (.lst xs):=(rfl)
@[simp] theorem aFo  : mP []=some []:=(rfl)
@[simp] theorem aEQ {v:AV}{r:D_}:mP (v::r)=bA (EK v) λx=>bA (mP r) λxs=>some (x::xs):=(by
 simp only[mP]
 cases EK v with
 |none=>rfl
 |some q=>simp only[bA];cases mP r<;>rfl)
@[simp] theorem aBr {m:Nat}:ji m []=some []:=(rfl)
@[simp] theorem aAP {m:Nat}{v:AV}{r:D_}:ji m (v::r)=if v.cells.length=m then bA (mP v.cells) λx=>bA (ji m r) λxs=>some (x::xs) else none:=(by
 by_cases h:v.cells.length=m
 .simp only[ji,abc,h,decide_true,bR]
  cases mP v.cells with
  |none=>rfl
  |some q=>simp only[bA];cases ji m r<;>rfl
 .simp only[ji,abc,h,decide_false,bS])
@[simp] theorem ayD {cs:D_}:dM cs []=some cs:=(rfl)
@[simp] theorem ayN {cs:D_}{o n:Nat}{v:AV}{r:List (Nat×Nat×AV)}:dM cs ((o,n,v)::r)=if v.cells.length=n∧wl v=true∧o+n<=cs.length then dM (aF cs o v.cells) r else none:=(by
 simp only[dM,abc,ZZ];by_cases h:v.cells.length=n<;>by_cases h2:wl v=true<;>by_cases h3:o+n<=cs.length<;>simp[h,h2,h3])
theorem N9 {α:Type}{cs vs:List α}{o:Nat}:aF cs o vs=cs.take o++vs++cs.drop (o+vs.length):=(rfl)
attribute [simp] N9
theorem ami {α:Type}{cs:List α}{o n:Nat}:sub cs o n=(cs.drop o).take n:=(rfl)
attribute [simp] ami
@[simp] theorem aBt {h:ak}{x:D}:viewOne h (.d x)=some (.d x):=(rfl)
@[simp] theorem aAd {h:ak}:viewOne h .nl=some .nl:=(rfl)
@[simp] theorem ayP {h:ak}{m:Nat}{xs:F_}:viewOne h (.own false m xs)=some (.d (.lst xs)):=(rfl)
@[simp] theorem azN {h:ak}{a b c:Nat}:viewOne h (.sl a b c)=bA (elems h (.sl a b c)) λxs=>some (.d (.lst xs)):=(by simp only[viewOne];cases elems h (.sl a b c)<;>rfl)
@[simp] theorem aAT {h:ak}:viewAll h []=some []:=(rfl)
@[simp] theorem aA8 {h:ak}{v:AV}{r:D_}:viewAll h (v::r)=bA (viewOne h v) λx=>bA (viewAll h r) λxs=>some (x::xs):=(by
 simp only[viewAll]
 cases viewOne h v with
 |none=>rfl
 |some q=>simp only[bA];cases viewAll h r<;>rfl)
@[simp] theorem aAR {h:ak}{x:D}:viewArg h (.d x)=viewOne h (.d x):=(rfl)
@[simp] theorem aAi {h:ak}  : viewArg h (.nl)=viewOne h (.nl):=(rfl)
@[simp] theorem ayR {h:ak}{p:Bool}{m:Nat}{xs:F_}:viewArg h (.own p m xs)=viewOne h (.own p m xs):=(rfl)
@[simp] theorem ayE {h:ak}{cs:D_}:viewArg h (.agg cs)=bA (viewAll h cs) λxs=>some (.agg xs):=(by simp only[viewArg];cases viewAll h cs<;>rfl)
@[simp] theorem azb {h:ak}:viewArgs h []=some []:=(rfl)
@[simp] theorem aAz {h:ak}{v:AV}{r:D_}:viewArgs h (v::r)=bA (viewArg h v) λx=>bA (viewArgs h r) λxs=>some (x::xs):=(by
 simp only[viewArgs]
 cases viewArg h v with
 |none=>rfl
 |some q=>simp only[bA];cases viewArgs h r<;>rfl)
@[simp] theorem aC9 {h:ak}{x:D}:kJ h (.d x)=some (.d x,h):=(rfl)
@[simp] theorem aBu {h:ak}:kJ h .nl=some (.nl,h):=(rfl)
@[simp] theorem azL {h:ak}{p:Bool}{m:Nat}{xs:F_}:kJ h (.own p m xs)=some (.own p m xs,h):=(rfl)
@[simp] theorem aC1 {h:ak}:ub h []=some ([],h):=(rfl)
@[simp] theorem aCC {h:ak}{v:AV}{r:D_}:ub h (v::r)=bP (kJ h v) λx h=>bP (ub h r) λxs h=>some (x::xs,h):=(by simp only[ub];cases kJ h v with
 |none=>rfl
 |some q=>simp only[bP];cases ub q.2 r<;>rfl)
@[simp] theorem azR {h:ak}{cs:D_}:fV h (.agg cs)=bP (ub h cs) λxs h=>some (.agg xs,h):=(by simp only[fV];cases ub h cs<;>rfl)
@[simp] theorem aB9 {h:ak}{x:D}:fV h (.d x)=kJ h (.d x):=(rfl)
@[simp] theorem aBK {h:ak}  : fV h (.nl)=kJ h (.nl):=(rfl)
@[simp] theorem ay7 {h:ak}{p:Bool}{m:Nat}{xs:F_}:fV h (.own p m xs)=kJ h (.own p m xs):=(rfl)
@[simp] theorem aBU {h:ak}{a b c:Nat}:fV h (.sl a b c)=kJ h (.sl a b c):=(rfl)
@[simp] theorem aBy {h:ak}:tv h []=some ([],h):=(rfl)
@[simp] theorem aA2 {h:ak}{v:AV}{r:D_}:tv h (v::r)=bP (fV h v) λx h=>bP (tv h r) λxs h=>some (x::xs,h):=(by simp only[tv];cases fV h v with
 |none=>rfl
 |some q=>simp only[bP];cases tv q.2 r<;>rfl)
@[simp] theorem yF {h:ak}{cs:D_}:eY h (.tup cs)=bP (tv h cs) λxs _=>some (et (.tup xs)):=(by simp only[eY];cases tv h cs<;>rfl)
@[simp] theorem aDi {h:ak}{x:D}:eY h (.d x)=bP (fV h (.d x)) λx _=>some (et x):=(by simp only[eY];cases fV h (.d x)<;>rfl)
@[simp] theorem aAS {h:ak}  : eY h (.nl)=bP (fV h (.nl)) λx _=>some (et x):=(by simp only[eY];cases fV h (.nl)<;>rfl)
@[simp] theorem aAG {h:ak}{p:Bool}{m:Nat}{xs:F_}:eY h (.own p m xs)=bP (fV h (.own p m xs)) λx _=>some (et x):=(by simp only[eY];cases fV h (.own p m xs)<;>rfl)
@[simp] theorem aAF {h:ak}{cs:D_}:eY h (.agg cs)=bP (fV h (.agg cs)) λx _=>some (et x):=(by simp only[eY];cases fV h (.agg cs)<;>rfl)
@[simp] theorem aBa {h:ak}{a b c:Nat}:eY h (.sl a b c)=bP (fV h (.sl a b c)) λx _=>some (et x):=(by simp only[eY];cases fV h (.sl a b c)<;>rfl)
@[simp] theorem aBR {v:AV}:et v=if iV v=true then nG v else v:=(by simp only[et];cases iV v<;>rfl)
@[simp] theorem aCz {x:D}:ju (.d x)=jf x:=(rfl)
@[simp] theorem azz {p:Bool}{m:Nat}{xs:F_}:ju (.own p m xs)=xs.all λe=>e.all jf:=(rfl)
@[simp] theorem aBT {k:IntKind}{n:Int}:jf (.int k n)=true:=(rfl)
@[simp] theorem azM {b:Bool}:jf (.bool b)=true:=(rfl)
@[simp] theorem aBF {xs:F_}:jf (.lst xs)=false:=(rfl)
@[simp] theorem aAI {cs:D_}:jQ (.agg cs)=cs.all ju:=(rfl)
@[simp] theorem aCR {x:D}:jQ (.d x)=jf x:=(rfl)
@[simp] theorem az7 {p:Bool}{m:Nat}{xs:F_}:jQ (.own p m xs)=xs.all λe=>e.all jf:=(rfl)
@[simp] theorem azd {cs:D_}:iV (.agg cs)=cs.all ju:=(rfl)
@[simp] theorem aDa {x:D}:iV (.d x)=jf x:=(rfl)
@[simp] theorem ayU {cs:D_}:iV (.tup cs)=cs.all jQ:=(rfl)
@[simp] theorem aAo {p:Bool}{m:Nat}{xs:F_}:nQ (.own p m xs)=.own true m xs:=(rfl)
@[simp] theorem azV {p:Bool}{m:Nat}{xs:F_}:mR (.own p m xs)=.own true m xs:=(rfl)
@[simp] theorem azr {p:Bool}{m:Nat}{xs:F_}:nG (.own p m xs)=.own true m xs:=(rfl)
@[simp] theorem aAg {cs:D_}:mR (.agg cs)=.agg (cs.map nQ):=(rfl)
@[simp] theorem azk {cs:D_}:nG (.agg cs)=.agg (cs.map nQ):=(rfl)
@[simp] theorem aAs {cs:D_}:nG (.tup cs)=.tup (cs.map mR):=(rfl)
@[simp] theorem aEl {i:Nat}:kK i []=[]:=(rfl)
@[simp] theorem aEf {i:Nat}{v:AV}{r:D_}:kK i (v::r)=(i,v)::kK (i+1) r:=by
 have h:∀(i:Nat) (r:D_),put (kK (i+1) r) i v=(i,v)::kK (i+1) r:=λi r=>by
  have:∃q,kK (i+1) r=q∧∀p∈q,Nat.blt i p.1=true:=⟨_,rfl,by
   have aux:∀(r:D_) (j:Nat),i<j->∀p∈kK j r,Nat.blt i p.1=true:=by
    intro r
    induction r with
    |nil=>intro j hj p hp;simp[kK]at hp
    |cons w r ih =>
     intro j hj p hp;simp only[kK]at hp;rcases abd hp with rfl|hp
     .rw[Nat.blt,bf];exact hj
     .exact ih (j+1) o_ p hp
   exact aux r (i+1) o_⟩
  obtain⟨q,hq,hp⟩:=this;rw[hq]
  cases q with
  |nil=>rfl
  |cons p q =>
   obtain⟨k,u⟩:=p;have hk:i<k:=by have:=hp _ (.head _);rw[Nat.blt,bf]at this;exact this
   rw[xQ,aa o_,ac o_]
 exact h i r
@[simp] theorem aAZ {st:St}:fO st []=some ([],st):=(rfl)
def apO (x:L_)(t:Nat)(st:St)(r:AH_):Option (D_×St) :=
 match x with
 |some v=>bP (fO ⟨del st.env t,st.hs⟩ r) λvs st=>some (v::vs,st)
 |none=>none
@[simp] theorem aBO {t:Nat}{st:St}{r:AH_}:fO st (.tmp t::r)=apO (get st.env t) t st r:=(by
 simp only[fO,apO]
 cases get st.env t with
 |none=>rfl
 |some v=>simp only;cases fO ⟨del st.env t,st.hs⟩ r<;>rfl)
@[simp] theorem aER {v:AV}{t:Nat}{e:aT}{hs:HS}{r:AH_}:apO (some v) t ⟨e,hs⟩ r=bP (fO ⟨del e t,hs⟩ r) λvs st=>some (v::vs,st):=(rfl)
def arw (x:L_)(t:Nat)(n:J_)(st:St)(r:AH_):Option (D_×St) :=
 match x with
 |some (.ptr id 0)=>bP (loadAt st.hs.heap n 1 (.ptr id 0)) λv h=>bP (fO ⟨del st.env t,⟨del h id,st.hs.next⟩⟩ r) λvs st=>some (v::vs,st)
 |_=>none
@[simp] theorem aBw {t:Nat}{n:J_}{st:St}{r:AH_}:fO st (.cell t n::r)=arw (get st.env t) t n st r:=(by
 simp only[fO,arw]
 cases get st.env t with
 |none=>rfl
 |some v =>
  cases v<;>try rfl
  rename_i id off
  cases off with
  |succ k=>rfl
  |zero =>
   simp only
   cases loadAt st.hs.heap n 1 (.ptr id 0) with
   |none=>rfl
   |some q=>simp only[bP];cases fO _ r<;>rfl)
@[simp] theorem aE9 {id t:Nat}{n:J_}{e:aT}{hs:HS}{r:AH_}:arw (some (.ptr id 0)) t n ⟨e,hs⟩ r=bP (loadAt hs.heap n 1 (.ptr id 0)) λv h=>bP (fO ⟨del e t,⟨del h id,hs.next⟩⟩ r) λvs st=>some (v::vs,st):=(rfl)
theorem anb {l:E_}:((am l).all λe=>e.all jf)=true:=by simp[am]
theorem aoN {l:C_}:((ax l).all λe=>e.all jf)=true:=by simp[ax]
theorem alC {l:Y_}:((UF l).all λe=>e.all jf)=true:=by simp[UF]
attribute [simp] anb aoN alC
attribute [simp] anB
attribute [simp] awY ayo awk awV
variable {P:Nat->X_}{l:R_}{e:aT}{h:ak}{m d s:Nat}{op:pV}{hs:HS}{β:Type}{k:AV->aT->HS->Option β}
abbrev V (d:Nat)(op:pV):VI:=⟨some d,none,op,[]⟩
abbrev N (op:pV):VI:=⟨none,none,op,[]⟩
abbrev W (s d:Nat)(op:pV):VI:=⟨some d,some (s,true),op,[]⟩
abbrev U (s d:Nat)(op:pV):VI:=⟨some d,some (s,false),op,[]⟩
theorem avF {e e2:aT}{hs hs2:HS}(h:e=e2)(h2:hs=hs2):rk P l e hs=rk P l e2 hs2:=by rw[h,h2]
attribute [congr] avF
@[simp ↓ low] theorem aBH {i:VI}:(Dn P).code (.reg false (i::l)) ⟨e,hs⟩=eJ (rk P (i::l) e hs):=GU rfl
@[simp ↓ low] theorem aBC {i:VI}:(Dn P).code (.reg true (i::l)) ⟨e,hs⟩=eJ (rk P (i::l) e hs):=GU rfl
@[simp] theorem aE1:rk P [] e hs=some ⟨e,hs⟩:=(rfl)
@[simp] theorem aEA:rk P (⟨some d,none,op,[]⟩::l) e hs=bU P op e hs λv e hs=>rk P l (put e d (firm v)) hs:=(rfl)
@[simp] theorem aEH:rk P (⟨none,none,op,[]⟩::l) e hs=bU P op e hs λ_ e hs=>rk P l e hs:=(rfl)
@[simp] theorem aFF {t:Nat×Nat}{th:Q_}:rk P (⟨some d,none,op,t::th⟩::l) e hs=bU P op e hs λv e hs=>lP (dO (t::th) v hs) λv hs=>rk P l (put e d (firm v)) hs:=(rfl)
def wK {β:Type}(a b:Bool)(x y z:Option β):Option β :=
 match a with
 |true=>x
 |false=>match b with
  |true=>y
  |false=>z
@[simp ↓] theorem aGw {b:Bool}{x y z:Option β}:wK true b x y z=x:=(rfl)
@[simp ↓] theorem aGv {x y z:Option β}:wK false true x y z=y:=(rfl)
theorem azf {a a2 b b2:Bool}{x y z:Option β}(h:a=a2)(h2:b=b2):wK a b x y z=wK a2 b2 x y z:=by rw[h,h2]
attribute [congr] azf
@[simp] theorem aFG {w:Bool}:rk P (⟨some d,some (s,w),op,[]⟩::l) e hs=wK (dJ op) (Hc op)
  (bA (get e s) λg=>bA (gV g w (bU P op e hs λv _ _=>some v)) λv=>rk P l (put e d (firm v)) hs)
  (bA (get e s) λg=>bP (gH g w hs (bU P op e hs λv _ hs=>some (v,hs))) λv hs=>rk P l (put e d (firm v)) hs)
  (bA (cV (Dn P) ⟨some d,some (s,w),op,[]⟩ ⟨e,hs⟩) λst=>rk P l st.env st.hs):=by
 simp only[rk,cvi,wK]
 cases dJ op<;>cases Hc op<;>(try rfl)<;>(cases get e s<;>rfl)
@[simp] theorem aFY {i:Nat}:bH (.s i)=true:=(rfl)
@[simp] theorem aFP {a:AV}:bH (.c a)=true:=(rfl)
@[simp] theorem aEX:jO []=true:=(rfl)
@[simp] theorem aFC {x:Rd}{r:S_}:jO (x::r)=(bH x && jO r):=(rfl)
@[simp] theorem aFJ:D0 none=true:=(rfl)
@[simp] theorem aFV {x:Rd}:D0 (some x)=bH x:=(rfl)
@[simp] theorem aEL {x:Rd}:dJ (.mov x)=bH x:=(rfl)
@[simp] theorem aF3 {x:Rd}{n:J_}:dJ (.ld n 0 x)=bH x:=(rfl)
@[simp] theorem aFe {x:Rd}:dJ (.nilck x)=bH x:=(rfl)
@[simp] theorem aEB {x y:Rd}{o:BinOp}:dJ (.bin o x y)=(bH x && bH y):=(rfl)
@[simp] theorem aD9 {x y:Rd}{o:Bool}:dJ (.binb o x y)=(bH x && bH y):=(rfl)
@[simp] theorem aF1 {x:Rd}{o:UnOp}:dJ (.un o x)=bH x:=(rfl)
@[simp] theorem aGe {x:Rd}{o:Nat}:dJ (.fa o x)=bH x:=(rfl)
@[simp] theorem aFM {x y:Rd}{o:Nat}:dJ (.ia o x y)=(bH x && bH y):=(rfl)
@[simp] theorem aEh {x y:Rd}{o n:Nat}:dJ (.iarr o n x y)=(bH x && bH y):=(rfl)
@[simp] theorem aE5 {x:Rd}:dJ (.len x)=bH x:=(rfl)
@[simp] theorem aEr {f:FuncId}{xs:S_}:dJ (.call f xs)=jO xs:=(rfl)
@[simp] theorem aEn {c x y:Rd}:dJ (.pick c x y)=(bH c && bH x && bH y):=(rfl)
@[simp] theorem aE6 {x:Rd}:dJ (.toStr x)=bH x:=(rfl)
@[simp] theorem aEK {m:Nat}{x:Rd}{a b c:AA_}:dJ (.slice m x a b c)=(bH x && (D0 a && (D0 b && D0 c))):=(rfl)
@[simp] theorem aCa {f:FuncId}{xs:S_}:dJ (.calli f xs)=false:=(rfl)
@[simp] theorem aDo {x:Rd}{xs:S_}:dJ (.callv x xs)=false:=(rfl)
@[simp] theorem aCi {f:FuncId}{xs:S_}:Hc (.calli f xs)=jO xs:=(rfl)
@[simp] theorem aDA {x:Rd}{xs:S_}:Hc (.callv x xs)=(bH x && jO xs):=(rfl)
attribute [simp] tq vw
def LC {γ:Type}(c:Prop)[Decidable c](a b:γ):γ:=if c then a else b
theorem avV {γ:Type}{c d:Prop}[Decidable c][i:Decidable d]{a b:γ}(h:c=d):LC c a b=@LC γ d i a b:=by subst h;congr
attribute [congr] avV
@[simp ↓] theorem aEt {γ:Type}{i:Decidable True}{a b:γ}:@LC γ True i a b=a:=by simp only[LC,bR]
@[simp ↓] theorem aET {γ:Type}{i:Decidable False}{a b:γ}:@LC γ False i a b=b:=by simp only[LC,bS]
@[simp high] theorem aGn {k i:Nat}{v:AV}{r:aT}:get ((k,v)::r) i=LC (k=i) (some v) (get r i):=ayv
@[simp high] theorem aGu {k i:Nat}{v x:AV}{r:aT}:put ((k,v)::r) i x=LC (k=i) ((i,x)::r) (LC (i<=k) ((i,x)::(k,v)::r) ((k,v)::put r i x)):=put1
@[simp high] theorem aGo {k i:Nat}{v:AV}{r:aT}:del ((k,v)::r) i=LC (k=i) (del r i) ((k,v)::del r i):=awq
variable {f:AV->aT->Option β}{x:Rd}
@[simp ↓] theorem aFT {i:Nat}:cL e (.s i) f=bA (get e i) λv=>f (share v) e:=by
 simp only[cL,rd,bA];cases get e i<;>rfl
@[simp ↓] theorem aFN {i:Nat}:cL e (.m i) f=bA (get e i) λv=>f v (del e i):=by
 simp only[cL,rd,bA];cases get e i<;>rfl
@[simp ↓] theorem aGc {a:AV}:cL e (.c a) f=f a e:=(rfl)
@[simp ↓] theorem aEW {f:D_->aT->Option β}:li e [] f=f [] e:=(rfl)
@[simp ↓] theorem aEP {r:S_}{f:D_->aT->Option β}:li e (x::r) f=cL e x λv e=>li e r λvs e=>f (v::vs) e:=(rfl)
@[simp ↓] theorem aE8 {f:L_->aT->Option β}:np e none f=f none e:=(rfl)
@[simp ↓] theorem aFh {f:L_->aT->Option β}:np e (some x) f=cL e x λv e=>f (some v) e:=(rfl)
@[simp ↓] theorem aDG:bU P (.mov x) e hs k=cL e x λv e=>k v e hs:=(rfl)
def Mm (e:aT):Rd->L_
 |.c v=>some v
 |.m i=>get e i
 |.s i=>match get e i with
  |some v=>some (share v)
  |none=>none
def pkV {β:Type}(c:AV)(a b:Rd)(x y:L_)(e:aT)(hs:HS)(k:AV->aT->HS->Option β):Option β :=
 match x,y with
 |some a,some b=>bA (Uw c a b) λv=>k v e hs
 |_,_=>bP (lQ (.c c) a b ⟨e,hs⟩) λv st=>k v st.env st.hs
@[simp ↓] theorem aFQ {c v w:AV}{a b:Rd}:pkV c a b (some v) (some w) e hs k=bA (Uw c v w) λv=>k v e hs:=(rfl)
theorem awn {c:AV}{a b:Rd}{x x2 y y2:L_}(h:x=x2)(h2:y=y2):pkV c a b x y e hs k=pkV c a b x2 y2 e hs k:=by rw[h,h2]
attribute [congr] awn
@[simp] theorem aF6 {v:AV}:Mm e (.c v)=some v:=(rfl)
@[simp] theorem aFW {i:Nat}:Mm e (.s i)=bA (get e i) λv=>some (share v):=by
 simp only[Mm,bA];cases get e i<;>rfl
theorem aeF {c a b:Rd}(ha:bH a=true)(hb:bH b=true):bU P (.pick c a b) e hs k=cL e c λc e=>pkV c a b (Mm e a) (Mm e b) e hs k:=by
 simp only[bU,ha,hb,Bool.and_self]
 congr 1
 funext c e;have h1:∀x,bH x=true->rd e x=(Mm e x).map λv=>(v,e):=by
  intro x hx
  cases x with
  |c=>rfl
  |m=>cases hx
  |s i=>simp only[rd,Mm];cases get e i<;>rfl
 rw[h1 a ha,h1 b hb]
 cases Mm e a<;>cases Mm e b<;>rfl
@[simp ↓] theorem aD1 {c:Rd}{i:Nat}{y:AV}:bU P (.pick c (.s i) (.c y)) e hs k=cL e c λc e=>pkV c (.s i) (.c y) (Mm e (.s i)) (Mm e (.c y)) e hs k:=aeF rfl rfl
@[simp ↓] theorem aDP {c:Rd}{i:Nat}{y:AV}:bU P (.pick c (.c y) (.s i)) e hs k=cL e c λc e=>pkV c (.c y) (.s i) (Mm e (.c y)) (Mm e (.s i)) e hs k:=aeF rfl rfl
@[simp ↓] theorem aBI {zs:D_}:bU P (.alloc zs) e ⟨h,m⟩ k=lA (put h m (.cells zs)) λh=>k (.ptr m 0) e ⟨h,m+1⟩:=(rfl)
@[simp ↓] theorem aDS:bU P (.box x) e ⟨h,m⟩ k=cL e x λv e=>dE ((AV.cells v).all bB) (lA (put h m (.cells (AV.cells v))) λh=>k (.ptr m 0) e ⟨h,m+1⟩):=(rfl)
@[simp ↓] theorem aBE {zs:D_}{ps:AB_}:bU P (.build zs ps) e hs k=li e (tq ps) λvs e=>bA (dM zs (vw ps vs)) λcs=>k (.agg cs) e hs:=(rfl)
@[simp ↓] theorem aDK {j:Nat}{ps:S_}:bU P (.mks j ps) e hs k=li e ps λvs e=>bA (ji j vs) λxs=>k (.own true j xs) e hs:=(rfl)
@[simp ↓] theorem aCn {j:Nat}{ps:S_}:bU P (.mksv j ps) e ⟨h,m⟩ k=li e ps λvs e=>dE (Ue j vs) (lA (put h m (.cells (vs.flatMap AV.cells))) λh=>k (.sl m 0 vs.length) e ⟨h,m+1⟩):=(rfl)
@[simp ↓] theorem aFd {n:J_}:bU P (.ld n 0 x) e ⟨h,m⟩ k=cL e x λp e=>bA (fy h n p) λv=>k v e ⟨h,m⟩:=(rfl)
@[simp ↓] theorem aDR {n:J_}:bU P (.ld n 1 x) e ⟨h,m⟩ k=cL e x λp e=>bP (loadAt h n 1 p) λv h=>k v e ⟨h,m⟩:=(rfl)
@[simp ↓] theorem aEd {n:J_}:bU P (.ld n 2 x) e ⟨h,m⟩ k=cL e x λp e=>bP (loadAt h n 2 p) λv h=>k v e ⟨h,m⟩:=(rfl)
@[simp ↓] theorem aEU {n:Nat}{y:Rd}:bU P (.st n x y) e ⟨h,m⟩ k=cL e x λp e=>cL e y λv e=>bA (storeAt h n p v) λh=>k .junk e ⟨h,m⟩:=(rfl)
@[simp ↓] theorem aA0:bU P (.nilck x) e hs k=cL e x λv e=>bA (AR v) λv=>k v e hs:=(rfl)
@[simp ↓] theorem aDM {o:BinOp}{y:Rd}:bU P (.bin o x y) e hs k=cL e x λa e=>cL e y λb e=>bA (fT o a b) λv=>k (.d v) e hs:=(rfl)
@[simp ↓] theorem aDk {o:Bool}{y:Rd}:bU P (.binb o x y) e hs k=cL e x λa e=>cL e y λb e=>bA (Yg o a b) λv=>k (.d v) e hs:=(rfl)
@[simp ↓] theorem aCZ {o:Bool}{ks:Y_}{y:Rd}:bU P (.bina o ks x y) e hs k=cL e x λa e=>cL e y λb e=>bA (Yq o ks a b) λv=>k (.d v) e hs:=(rfl)
@[simp ↓] theorem aEF {o:UnOp}:bU P (.un o x) e hs k=cL e x λa e=>bA (unD o a) λv=>k (.d v) e hs:=(rfl)
@[simp ↓] theorem aCY {j:IntKind}:bU P (.conv j x) e hs k=cL e x λa e=>bA (Zf j a) λv=>k (.d v) e hs:=(rfl)
@[simp ↓] theorem aBi:bU P (.toStr x) e ⟨h,m⟩ k=cL e x λa e=>bA (Nc h a) λv=>k (.d v) e ⟨h,m⟩:=(rfl)
@[simp ↓] theorem aCb {f:FuncId}{a c:S_}:bU P (.mkfn f a c) e hs k=li e a λa e=>li e c λc e=>k (.fn f (shareAll a) (shareAll c)) e hs:=(rfl)
@[simp ↓] theorem ayF {z:V_}{y:Rd}:bU P (.mkslice z x y) e hs k=cL e x λa e=>cL e y λc e=>bA (Em z a c) λv=>k v e hs:=(rfl)
@[simp ↓] theorem aBq {j:Nat}{lo hi mx:AA_}:bU P (.slice j x lo hi mx) e ⟨h,m⟩ k=cL e x λx e=>np e lo λlo e=>np e hi λhi e=>np e mx λmx e=>bA (OX h j x lo hi mx) λv=>k v e ⟨h,m⟩:=(rfl)
@[simp ↓] theorem aBj {j:Nat}{lo hi mx:AA_}:bU P (.slarr j x lo hi mx) e ⟨h,m⟩ k=cL e x λx e=>np e lo λlo e=>np e hi λhi e=>np e mx λmx e=>bA (Si h j x lo hi mx) λv=>k v e ⟨h,m⟩:=(rfl)
@[simp ↓] theorem aEV {o:Nat}:bU P (.fa o x) e hs k=cL e x λp e=>bA (gX o p) λv=>k v e hs:=(rfl)
@[simp ↓] theorem aEY {n:Nat}{y:Rd}:bU P (.ia n x y) e ⟨h,m⟩ k=cL e x λx e=>cL e y λi e=>bA (ZC h n x i) λv=>k v e ⟨h,m⟩:=(rfl)
@[simp ↓] theorem aDB {a n:Nat}{y:Rd}:bU P (.iarr a n x y) e hs k=cL e x λp e=>cL e y λi e=>bA (K0 a n p i) λv=>k v e hs:=(rfl)
@[simp ↓] theorem aDC {j i:Nat}:bU P (.ext j true i) e hs k=bA (get e j) λt=>bA (FP true t i) λv=>k v (put e j (W5 t i)) hs:=by
 simp only[bU,bA];cases get e j<;>(try rfl)
@[simp ↓] theorem aCD {j i:Nat}:bU P (.ext j false i) e hs k=bA (get e j) λt=>bA (FP false t i) λv=>k v e hs:=by
 simp only[bU,bA];cases get e j<;>(try rfl)
@[simp ↓] theorem aEe:bU P (.len x) e hs k=cL e x λx e=>bA (lenOf x) λn=>k (.int .i64 (.ofNat n)) e hs:=(rfl)
@[simp ↓] theorem aEo {j:Nat}{y:Rd}:bU P (.app j x y) e ⟨h,m⟩ k=cL e x λa e=>cL e y λb e=>bP (WO j h a b) λv h=>k v e ⟨h,m⟩:=(rfl)
@[simp ↓] theorem aDN {j:Nat}{y:Rd}:bU P (.cpy j x y) e ⟨h,m⟩ k=cL e x λa e=>cL e y λb e=>bP (ahm j h a b) λv h=>k (.d v) e ⟨h,m⟩:=(rfl)
@[simp ↓] theorem azF {b:Bool}{xs:S_}:bU P (.minmax b xs) e hs k=li e xs λvs e=>bA (MT b vs) λv=>k v e hs:=(rfl)
@[simp ↓] theorem aCo {f:FuncId}{as:S_}:bU P (.call f as) e ⟨h,m⟩ k=li e as λvs e=>bA (fh (Dn P) f vs h) λv=>k v e ⟨h,m⟩:=(rfl)
@[simp ↓] theorem aAL {f:FuncId}{as:S_}:bU P (.calli f as) e hs k=li e as λvs e=>bP ((Dn P).call f vs hs) λv hs=>k v e hs:=(rfl)
@[simp ↓] theorem aBM {as:S_}:bU P (.callv x as) e hs k=cL e x λf e=>li e as λvs e=>bP (dD (Dn P) f vs hs) λv hs=>k v e hs:=(rfl)
@[simp ↓] theorem aCF {is:C_}:bU P (.kill is) e hs k=k (.tup []) (is.foldl del e) hs:=(rfl)
variable {P:Nat->X_}
inductive R (α:Type) where
 |ok (v:α) (n:Nat)
 |er (e:Nat)
open Classical in
def rK {α γ:Type}(p:α->Nat->Prop)(r:R α)(f:α->Nat->γ)(g:Nat->γ):γ :=
 match r with
 |.ok v n=>if p v n then f v n else g 0
 |.er e=>g e
theorem cy {α γ:Type}{p q:α->Nat->Prop}{r:R α}{f f2:α->Nat->γ}{g g2:Nat->γ}(hp:∀v n,p v n=q v n)(h:∀v n,q v n->f v n=f2 v n)(k:∀e,g e=g2 e):rK p r f g=rK q r f2 g2:=by
 have:p=q:=funext λv=>funext λn=>hp v n
 subst this
 cases r with
 |ok v n =>
  simp only[rK];split
  .exact h _ _ ‹_›
  .exact k 0
 |er e=>exact k e
attribute [congr] cy
theorem yv {α γ δ:Type}{p:α->Nat->Prop}{r:R α}{f:α->Nat->γ}{g:Nat->γ}(k:γ->δ):k (rK p r f g)=rK p r (λv n=>k (f v n)) λe=>k (g e):=by
 cases r with
 |ok v n=>simp only[rK];split<;>rfl
 |er e=>rfl
section
variable {α:Type}{p:α->Nat->Prop}{r:R α}
@[simp ↓] theorem anI {f:α->Nat->I_}{g:Nat->I_}{b:VC}:xS P (rK p r f g) b=rK p r (λv n=>xS P (f v n) b) λe=>xS P (g e) b:=yv λx=>xS P x b
@[simp ↓] theorem aoh {f:α->Nat->I_}{g:Nat->I_}{i:Nat}:yi i (rK p r f g)=rK p r (λv n=>yi i (f v n)) λe=>yi i (g e):=yv (yi i)
@[simp ↓] theorem TC {f:α->Nat->I_}{g:Nat->I_}{a:VC}:sW P a (rK p r f g)=rK p r (λv n=>sW P a (f v n)) λe=>sW P a (g e):=yv (sW P a)
@[simp ↓] theorem aFA {f:α->Nat->Z_}{g:Nat->Z_}:eJ (rK p r f g)=rK p r (λv n=>eJ (f v n)) λe=>eJ (g e):=yv eJ
@[simp ↓] theorem Zp {f:α->Nat->I_}{g:Nat->I_}{rs:AH_}:nX rs (rK p r f g)=rK p r (λv n=>nX rs (f v n)) λe=>nX rs (g e):=yv (nX rs)
@[simp ↓] theorem YA {f:α->Nat->W_}{g:Nat->W_}:mO (rK p r f g)=rK p r (λv n=>mO (f v n)) λe=>mO (g e):=yv mO
@[simp ↓] theorem aGl {γ β:Type}{f:α->Nat->Option γ}{g:Nat->Option γ}{k:γ->Option β}:bA (rK p r f g) k=rK p r (λv n=>bA (f v n) k) λe=>bA (g e) k:=yv λx=>bA x k
@[simp ↓] theorem aGx {γ δ β:Type}{f:α->Nat->Option (γ×δ)}{g:Nat->Option (γ×δ)}{k:γ->δ->Option β}:bP (rK p r f g) k=rK p r (λv n=>bP (f v n) k) λe=>bP (g e) k:=yv λx=>bP x k
@[simp] theorem ee {γ:Type}{f:α->Nat->γ}{g:Nat->γ}{e:Nat}:rK p (.er e) f g=g e:=(rfl)
theorem b9 {γ:Type}{f:α->Nat->γ}{g:Nat->γ}{v:α}{n:Nat}(h:p v n):rK p (.ok v n) f g=f v n:=by simp only[rK,ac h]
@[simp] theorem aGa {γ:Type}{f:α->Nat->γ}{g:Nat->γ}{c:Prop}[Decidable c]{x y:R α}:rK p (if c then x else y) f g=if c then rK p x f g else rK p y f g:=by split<;>rfl
end
@[simp] theorem aF8 {e:Nat}:((e:Int)+1=0)=False:=by simp only[eq_iff_iff,iff_false];omega
theorem adH {α:Type}{a b:Prop}[Decidable a][Decidable b]{x y:α}(h:b↔¬a):(if a then x else y)=if b then y else x:=by
 by_cases ha:a
 .rw[ac ha,aa (λhb=>h.1 hb ha)]
 .rw[aa ha,ac (h.2 ha)]
theorem as4 {α:Type}{a b:Prop}[Decidable a][Decidable b]{x y:α}(h:a↔b):(if a then x else y)=if b then x else y:=by
 by_cases ha:a
 .rw[ac ha,ac (h.1 ha)]
 .rw[aa ha,aa (λhb=>ha (h.2 hb))]
def cellsOf:Obj->Option D_
 |.cells cs=>some cs
 |_=>none
def ale:Obj->AD_
 |.arr _ xs=>some xs
 |_=>none
@[simp ↓] theorem aBL {cs:D_}:cellsOf (.cells cs)=some cs:=(rfl)
@[simp ↓] theorem aEb {m:Nat}{xs:F_}:ale (.arr m xs)=some xs:=(rfl)
@[simp] theorem aD4 {h:ak}{id off:Nat}:fy h none (.ptr id off)=bA (get h id) λo=>bA (cellsOf o) λcs=>bA cs[off]? λv=>some (share v):=by
 simp only[fy,loadAt]
 cases get h id with
 |none=>rfl
 |some o =>
  cases o<;>try rfl
  rename_i cs;simp only[bA,cellsOf]
  cases cs[off]?<;>rfl
@[simp] theorem aB2 {h:ak}{id off n:Nat}:fy h (some n) (.ptr id off)=bA (get h id) λo=>bA (cellsOf o) λcs=>dE (Nat.ble (off+n) cs.length) (some (.agg (shareAll (sub cs off n)))):=by
 simp only[fy,loadAt]
 cases get h id with
 |none=>rfl
 |some o =>
  cases o<;>try rfl
  rename_i cs;simp only[bA,cellsOf]
  cases Nat.ble (off+n) cs.length<;>rfl
@[simp] theorem az2 {h:ak}{id off t:Nat}:loadAt h none (t+1) (.ptr id off)=bA (get h id) λo=>bA (cellsOf o) λcs=>bA cs[off]? λv=>some ((sX (t+1) v).1,put h id (.cells (cs.set off (sX (t+1) v).2))):=by
 simp only[loadAt]
 cases get h id with
 |none=>rfl
 |some o =>
  cases o<;>try rfl
  rename_i cs;simp only[bA,cellsOf]
  cases cs[off]?<;>rfl
@[simp] theorem ayS {h:ak}{id off n t:Nat}:loadAt h (some n) (t+1) (.ptr id off)=bA (get h id) λo=>bA (cellsOf o) λcs=>dE (Nat.ble (off+n) cs.length) (some (.agg (fN (t+1) (sub cs off n)).1,put h id (.cells (aF cs off (fN (t+1) (sub cs off n)).2)))):=by
 simp only[loadAt]
 cases get h id with
 |none=>rfl
 |some o =>
  cases o<;>try rfl
@[simp] theorem ayL {h:ak}{id off n:Nat}{x:AV}:storeAt h n (.ptr id off) x=dE (Nat.beq x.cells.length n) (bA (get h id) λo=>bA (cellsOf o) λcs=>dE (Nat.ble (off+n) cs.length && x.cells.all bB) (some (put h id (.cells (aF cs off x.cells))))):=by
 simp only[storeAt]
 cases Nat.beq x.cells.length n with
 |false=>rfl
 |true =>
  simp only[dE]
  cases get h id with
  |none=>rfl
  |some o =>
   cases o<;>try rfl
@[simp ↓] theorem ZT {β:Type}{a b:Nat}{x:Option β}:dE (Nat.ble a b) x=if a<=b then x else none:=by
 rw[ZZ];by_cases h:a<=b<;>simp[h]
@[simp ↓] theorem ajl {β:Type}{a b:Nat}{x:Option β}:dE (Nat.beq a b) x=if a=b then x else none:=by
 rw[abc];by_cases h:a=b<;>simp[h]
@[simp ↓] theorem akm {β:Type}{a b:Bool}{x:Option β}:dE (a && b) x=dE a (dE b x):=by
 cases a<;>cases b<;>rfl
attribute [simp] sX fN sub aF bB
def scK (P:Nat->X_)(a:VC)(x:I_):I_ :=
 match x with
 |some (.goto l,st)=>match xr a l with
  |some rest=>(Dn P).code (.inScope a rest) st
  |none=>some (.goto l,st)
 |x=>x
@[simp ↓] theorem azx {a:VC}{st:St}:(Dn P).code (.scope a) st=(Dn P).code (.inScope a a) st:=by rw[jM];rfl
theorem ave {a c:VC}{st:St}:(Dn P).code (.inScope a c) st=scK P a ((Dn P).code c st):=by
 rw[jM];rfl
@[simp ↓] theorem aF0 {a:VC}{st:St}:scK P a (some (.ret,st))=some (.ret,st):=(rfl)
theorem awf {a:VC}{x y:I_}(h:x=y):scK P a x=scK P a y:=by rw[h]
attribute [congr] awf
theorem Fq {f:FuncId}{args:D_}{v:AV}(n:Nat)(h:mO ((run P n).call f args ⟨[],0⟩)=some v):bn P f args=some v:=by
 cases hx:(run P n).call f args ⟨[],0⟩ with
 |none=>rw[hx]at h;simp[mO]at h
 |some q=>rw[hx]at h;rw[bn,W4 hx,h]
theorem nD {α:Type}{f:FuncId}{a:α->D_}{v:α->AV}(n:Nat)(l:List α)(h:(l.map λx=>mO ((run P n).call f (a x) ⟨[],0⟩))=l.map λx=>some (v x))(x:α)(hx:x∈l):bn P f (a x)=some (v x) :=
 Fq n (List.map_inj_left.1 h x hx)
def aS (l:C_):F_:=l.map λn=>[.int .i64 (n:Nat)]
@[simp] theorem yf {l:C_}:(aS l).length=l.length:=by simp[aS]
@[simp] theorem JD {l:C_}{i:Nat}(h:i<l.length):(aS l)[i]?=some [.int .i64 (nth l i:Nat)]:=by simp[aS,CY h]
@[simp high] theorem ahs {p:Bool}{m:Nat}{l:C_}:ju (.own p m (aS l))=true:=by simp[ju,aS,jf]
@[simp high] theorem ayH {p:Bool}{m:Nat}{l:C_}:jQ (.own p m (aS l))=true:=ahs (p:=p) (m:=m)
@[simp high] theorem Vp {p:Bool}{m:Nat}{l:E_}:ju (.own p m (am l))=true:=by simp[ju,am,jf]
@[simp high] theorem ayJ {p:Bool}{m:Nat}{l:E_}:jQ (.own p m (am l))=true:=Vp (p:=p) (m:=m)
@[simp high] theorem ayK {p:Bool}{m:Nat}{l:E_}:iV (.own p m (am l))=true:=Vp (p:=p) (m:=m)
@[simp high] theorem VK {p:Bool}{m:Nat}{l:C_}:ju (.own p m (ax l))=true:=by simp[ju,ax,jf]
@[simp high] theorem ayO {p:Bool}{m:Nat}{l:C_}:jQ (.own p m (ax l))=true:=VK (p:=p) (m:=m)
@[simp high] theorem ayI {p:Bool}{m:Nat}{l:C_}:iV (.own p m (ax l))=true:=VK (p:=p) (m:=m)
@[simp] theorem aA7 {a:E_}{x:Int}:am a++[[.int .i64 x]]=am (a++[x]):=by simp[am]
@[simp] theorem aBl {a:C_}{x:Nat}:ax a++[[.int .u8 (x:Int)]]=ax (a++[x]):=by simp[ax]
@[simp] theorem aFD {k:IntKind}{a b:Int}:MT true [.d (.int k a),.d (.int k b)]=if a<b then some (.d (.int k b)) else some (.d (.int k a)):=by
 have:pg k k=true:=by cases k<;>rfl
 simp only[MT,Ha,Jm,this];by_cases h:a<b<;>simp[h]
def iaO (o:Obj)(n id j:Nat):L_ :=
 match o with
 |.arr m _=>dE (Nat.beq m n) (some (.pel id j 0))
 |.cells _=>dE (Nat.beq n 1) (some (.ptr id j))
 |_=>none
@[simp ↓] theorem aGi {m n id j:Nat}{xs:F_}:iaO (.arr m xs) n id j=dE (Nat.beq m n) (some (.pel id j 0)):=(rfl)
@[simp ↓] theorem aFI {n id j:Nat}{cs:D_}:iaO (.cells cs) n id j=dE (Nat.beq n 1) (some (.ptr id j)):=(rfl)
@[simp] theorem aFO {h:ak}{n id off len:Nat}{k:IntKind}{i:Int}(h0:0<=i)(h1:i.toNat<len):ZC h n (.sl id off len) (.d (.int k i))=bA (get h id) λo=>iaO o n id (off+i.toNat):=by
 have:Nat.ble len i.toNat=false:=by rw[ZZ];simp;omega
 simp only[ZC,TQ h0,this]
 cases get h id with
 |none=>rfl
 |some o =>
  cases o with
  |cells cs=>simp only[bA,iaO];cases Nat.beq n 1<;>rfl
  |arr m xs=>simp only[bA,iaO];cases Nat.beq m n<;>rfl
  |loop=>rfl
@[simp] theorem aEm {h:ak}{id i off:Nat}{n:J_}:fy h n (.pel id i off)=bA (get h id) λo=>bA (ale o) λxs=>bA xs[i]? λx=>pF n x off:=by
 simp only[fy,loadAt]
 cases get h id with
 |none=>rfl
 |some o =>
  cases o<;>try rfl
  rename_i m xs;simp only[bA,ale]
  cases xs[i]? with
  |none=>rfl
  |some x=>simp only;cases pF n x off<;>rfl
def stO (o:Obj)(h:ak)(n id i off:Nat)(ds:V_):Option ak :=
 match o with
 |.arr m xs=>bA xs[i]? λe=>dE (Nat.ble (off+n) e.length) (some (put h id (.arr m (xs.set i (aF e off ds)))))
 |_=>none
@[simp ↓] theorem aFL {h:ak}{m n id i off:Nat}{ds:V_}{xs:F_}:stO (.arr m xs) h n id i off ds=bA xs[i]? λe=>dE (Nat.ble (off+n) e.length) (some (put h id (.arr m (xs.set i (aF e off ds))))):=(rfl)
@[simp] theorem ayM {h:ak}{id i off n:Nat}{x:AV}:storeAt h n (.pel id i off) x=dE (Nat.beq x.cells.length n) (bA (mP x.cells) λds=>bA (get h id) λo=>stO o h n id i off ds):=by
 simp only[storeAt]
 cases Nat.beq x.cells.length n with
 |false=>rfl
 |true =>
  simp only[dE]
  cases mP x.cells with
  |none=>rfl
  |some ds =>
   simp only[bA]
   cases get h id with
   |none=>rfl
   |some o =>
    cases o<;>try rfl
    rename_i m xs;simp only[stO]
    cases xs[i]? with
    |none=>rfl
    |some e=>simp only[bA];cases Nat.ble (off+n) e.length<;>rfl
@[simp] theorem aBf {l:E_}{i:Nat}:(am l).take i=am (l.take i):=by simp[am]
@[simp] theorem aBx {l:C_}{i:Nat}:(aS l).take i=aS (l.take i):=by simp[aS]
@[simp] theorem V8 {l:E_}{i:Nat}{x:Int}:(am l).set i [.int .i64 x]=am (l.set i x):=by simp[am,mf]
@[simp] theorem apJ {l:C_}{i:Nat}{x:Nat}:(aS l).set i [.int .i64 (x:Int)]=aS (l.set i x):=by simp[aS,mf]
def elO (o:Obj):AD_ :=
 match o with
 |.arr _ xs=>some xs
 |.cells cs=>bA (mP cs) λds=>some (Lq ds)
 |_=>none
@[simp ↓] theorem aGh {m:Nat}{xs:F_}:elO (.arr m xs)=some xs:=(rfl)
@[simp] theorem aCq {h:ak}{id off len:Nat}:elems h (.sl id off len)=bA (get h id) λo=>bA (elO o) λxs=>dE (Nat.ble (off+len) xs.length) (some (sub xs off len)):=by
 simp only[elems,objElems]
 cases get h id with
 |none=>rfl
 |some o =>
  cases o with
  |cells cs =>
   simp only[bA,elO]
   cases mP cs with
   |none=>rfl
   |some ds=>simp only;cases Nat.ble (off+len) (Lq ds).length<;>rfl
  |arr m xs=>simp only[bA,elO];cases Nat.ble (off+len) xs.length<;>rfl
  |loop=>rfl
attribute [simp] Lq
@[simp] theorem aE4 {m:Nat}{h:ak}{a b:AV}:WO m h a b=bA (elems h b) λys=>dE (gM m ys) (dR m h a ys):=by
 simp only[WO]
 cases elems h b with
 |none=>rfl
 |some ys=>simp only[bA];cases gM m ys<;>rfl
@[simp] theorem ajW {m k:Nat}{p:Bool}{h:ak}{xs ys:F_}:dR m h (.own p k xs) ys=dE (Nat.ble ys.length bQ) (dE (Nat.beq k m && Nat.ble (xs.length+ys.length) bQ) (some (.own false m (xs++ys),h))):=by
 simp only[dR]
 cases Nat.ble ys.length bQ with
 |false=>rfl
 |true=>simp only[dE];cases Nat.beq k m && Nat.ble (xs.length+ys.length) bQ<;>rfl
@[simp] theorem aEc {m:Nat}{h:ak}:dR m h .nl []=some (.nl,h):=(rfl)
@[simp] theorem avL {m:Nat}{h:ak}{y:V_}{r:F_}:dR m h .nl (y::r)=dE (Nat.ble (r.length+1) bQ) (some (.own true m (y::r),h)):=by
 simp only[dR,ar]
 cases Nat.ble (r.length+1) bQ<;>rfl
def aqK (o:Obj)(m:Nat)(h:ak)(id off len:Nat)(ys:F_):AE_ :=
 match o with
 |.arr k xs=>dE (Nat.beq k m && Nat.ble (off+len) xs.length && Nat.ble (len+ys.length) bQ) (some (.own true m (sub xs off len++ys),del h id))
 |_=>none
@[simp ↓] theorem aEM {k m id off len:Nat}{h:ak}{xs ys:F_}:aqK (.arr k xs) m h id off len ys=dE (Nat.beq k m && Nat.ble (off+len) xs.length && Nat.ble (len+ys.length) bQ) (some (.own true m (sub xs off len++ys),del h id)):=(rfl)
@[simp] theorem aE3 {m id off len:Nat}{h:ak}{ys:F_}:dR m h (.sl id off len) ys=dE (Nat.ble ys.length bQ) (bA (get h id) λo=>aqK o m h id off len ys):=by
 simp only[dR]
 cases Nat.ble ys.length bQ with
 |false=>rfl
 |true =>
  simp only[dE]
  cases get h id with
  |none=>rfl
  |some o =>
   cases o with
   |arr k xs=>simp only[bA,aqK];cases Nat.beq k m && Nat.ble (off+len) xs.length && Nat.ble (len+ys.length) bQ<;>rfl
   |cells cs=>rfl
   |loop=>rfl
attribute [simp] bQ
theorem aaN {α:Type}{f:α->D}:∀{l:List α},gM 1 (l.map λx=>[f x])=true
 |[]=>rfl
 |x::r=>by simp only[bZ,gM,ar,ck];exact aaN
@[simp] theorem afU {l:E_}:gM 1 (am l)=true:=aaN
@[simp] theorem aDb {l:C_}:gM 1 (ax l)=true:=aaN
@[simp] theorem aF5 {m:Nat}:gM m []=true:=(rfl)
@[simp] theorem aF2 {m:Nat}{x:V_}{r:F_}:gM m (x::r)=(Nat.beq x.length m && gM m r):=by
 simp only[gM];cases Nat.beq x.length m<;>rfl
mutual
theorem ahh:∀d:D,Qo d d=true
 |.int k n=>by simp[Qo,U9]
 |.bool b=>by simp[Qo]
 |.str s=>by simp[Qo]
 |.lst xs=>by rw[Qo];exact eqDss_self xs
theorem Tc:∀l:V_,SN l l=true
 |[]=>rfl
 |a::r=>by rw[SN,ahh a,Tc r];rfl
theorem eqDss_self:∀l:F_,eqDss l l=true
 |[]=>rfl
 |a::r=>by rw[eqDss,Tc a,eqDss_self r];rfl
end
mutual
theorem an7:∀v:AV,jb v v=true
 |.junk=>by simp[jb]
 |.d x=>by simp[jb,ahh]
 |.nl=>by simp[jb]
 |.own p m xs=>by simp[jb,eqDss_self]
 |.gl n=>by simp[jb]
 |.agg a=>by rw[jb];exact eqAVs_self a
 |.tup a=>by rw[jb];exact eqAVs_self a
 |.nilp=>by simp[jb]
 |.ptr a b=>by simp[jb]
 |.pel a b c=>by simp[jb]
 |.pim a b=>by simp[jb,Tc]
 |.sl a b c=>by simp[jb]
 |.fn f a c=>by rw[jb,eqAVs_self a,eqAVs_self c];simp
 |.nilf=>by simp[jb]
 |.yield a=>by simp[jb]
theorem eqAVs_self:∀l:D_,eqAVs l l=true
 |[]=>by rw[eqAVs]
 |a::r=>by rw[eqAVs,an7 a,eqAVs_self r];rfl
end
@[simp] theorem aGf {a:D_}:eqO (.cells a) (.cells a)=true:=by rw[eqO];exact eqAVs_self a
@[simp] theorem aEq {h k:ak}:dt [] h k=true:=(rfl)
@[simp] theorem aD3 {i:Nat}{r:C_}{h k:ak}:dt (i::r) h k=((match get h i with
  |some o=>(match get k i with|some o'=>eqO o o'|none=>false)
  |none=>true) && dt r h k):=(rfl)
@[simp] theorem aDU {h:ak}:dL [] h=[]:=(rfl)
@[simp] theorem aDY {i:Nat}{r:C_}{h:ak}:dL (i::r) h=match get h i with
  |some o=>put (dL r h) i o
  |none=>dL r h:=(rfl)
attribute [simp] L3 cN idsAll
attribute [simp] dO sf nE oO
def Qy (a b:Int):Int:=if a=0 then b else 1
theorem ZN {a b:Int}(h:0<=a)(h1:a<=1)(h2:0<=b)(h3:b<=1):fT .or (A_ a) (A_ b)=some (.int .i64 (Qy a b)):=by
 have ha:a=0∨a=1:=o_;have hb:b=0∨b=1:=o_;rcases ha with rfl|rfl<;>rcases hb with rfl|rfl<;>rfl
@[simp] theorem aEE {a:Int}(h:0<=a)(h1:a<=1):Qy a 0=a:=by
 have ha:a=0∨a=1:=o_;rcases ha with rfl|rfl<;>rfl
theorem anH {a b:Int}:(Qy a b=0)↔a=0∧b=0:=by
 unfold Qy;by_cases h:a=0<;>simp[h]
end Go.Vm
end
