import Derived.KernelRfl
import Derived.Test.YtlmmdafiomepaaaGreatP1
set_option linter.unusedVariables false
set_option linter.unusedSimpArgs false
noncomputable section
namespace Go.Vm
variable {P:Nat→Option af}
def bA {α β:Type}(x:Option α) (f:α→Option β):Option β :=
 match x with
 | some v=>f v
 | none=>none
def bP {α γ β:Type}(x:Option (α×γ)) (f:α→γ→Option β):Option β :=
 match x with
 | some (v,w)=>f v w
 | none=>none
def lA {α β:Type}(x:α) (f:α→β):β:=f x
def lP {α γ β:Type}(x:α×γ) (f:α→γ→β):β:=f x.1 x.2
def dg {β:Type}(c:Bool) (x:Option β):Option β :=
 match c with
 | true=>x
 | false=>none
def gV (g:AV) (w:Bool) (x:Option AV):Option AV :=
 match g with
 | .d (.bool b)=>if b=w then x else some (.tup [])
 | .tup []=>some (.tup [])
 | _=>none
def gH (g:AV) (w:Bool) (hs:HS) (x:Option (AV×HS)):Option (AV×HS) :=
 match g with
 | .d (.bool b)=>if b=w then x else some (.tup [],hs)
 | .tup []=>some (.tup [],hs)
 | _=>none
def GP (c a b:AV):Option AV :=
 match c with
 | .d (.bool true)=>some a
 | .d (.bool false)=>some b
 | _=>none
def TV (neg:Bool) (a b:AV):Option D :=
 match a,b with
 | .d (.bool a),.d (.bool b)=>some (.bool (match neg with | true=>!(a == b) | false=>a == b))
 | _,_=>none
def anj (neg:Bool) (ks:List Bool) (a b:AV):Option D :=
 match a,b with
 | .agg a,.agg b=>match al ks a b with
  | some t=>some (.bool (match neg with | true=>!t | false=>t))
  | none=>none
 | _,_=>none
def fy (op:BinOp) (a b:AV):Option D :=
 match bt op a b with
 | some (.d x)=>some x
 | _=>none
def unD (op:UnOp) (a:AV):Option D :=
 match Ib op a with
 | some (.d x)=>some x
 | _=>none
def TH (k:IntKind) (a:AV):Option D :=
 match a with
 | .d (.int _ n)=>some (.int k (wr k n))
 | _=>none
def aj8 (h:ac) (a:AV):Option D :=
 match elems h a with
 | some xs=>match lH xs with
  | some s=>some (.str s)
  | none=>none
 | none=>none
def zV (z:List D) (l c:AV):Option AV :=
 match bz c aF with
 | some c=>match bz l c with
  | some n=>some (.own true z.length (List.replicate n z))
  | none=>none
 | none=>none
def n6 (h:ac) (m:Nat) (x:AV) (lo hi mx:Option AV):Option AV :=
 match okSl h m x with
 | true=>nq m x lo hi mx
 | false=>none
def JT (hp:ac) (n:Nat) (x:AV) (lo hi mx:Option AV):Option AV :=
 match x with
 | .ptr id off=>Ey hp n id off lo hi mx
 | _=>none
def aqh (off:Nat) (n:Option Nat) (x:AV):Option AV :=
 match x with
 | .agg cs=>j9 n cs off
 | _=>none
def iaV (hp:ac) (n:Nat) (x i:AV):Option AV :=
 match eQ i with
 | some i=>match x with
  | .sl id off len=>match Nat.ble len i with
   | true=>none
   | false=>match get hp id with
    | some (.arr m _)=>match Nat.beq m n with
     | true=>some (.pel id (off+i) 0)
     | false=>none
    | some (.cells _)=>match Nat.beq n 1 with
     | true=>some (.ptr id (off+i))
     | false=>none
    | _=>none
  | v=>match elems hp v with
   | some xs=>match xs[i]? with
    | some x=>match Nat.beq x.length n with
     | true=>some (.pim x 0)
     | false=>none
    | none=>none
   | none=>none
 | none=>none
def KK (len n:Nat) (p i:AV):Option AV :=
 match eQ i with
 | some i=>match Nat.ble len i with
  | true=>none
  | false=>eh (i*n) p
 | none=>none
def ixV (len n:Nat) (agg:Bool) (x i:AV):Option AV :=
 match x with
 | .agg cs=>match eQ i with
  | some i=>match Nat.ble len i with
   | true=>none
   | false=>j9 (Jv agg n) cs (i*n)
  | none=>none
 | _=>none
def aia (x i:AV):Option D :=
 match x with
 | .d (.str s)=>match eQ i with
  | some i=>match s[i]? with
   | some b=>some (.int .u8 (.ofNat b.toNat))
   | none=>none
  | none=>none
 | _=>none
def w9 (mv:Bool) (t:AV) (i:Nat):Option AV :=
 match t with
 | .tup vs=>match vs[i]? with
  | some v=>match mv with
   | true=>some v
   | false=>some (share v)
  | none=>none
 | _=>none
def WW (t:AV) (i:Nat):AV :=
 match t with
 | .tup vs=>.tup (vs.set i .junk)
 | v=>v
def Xj (x:AV):Bool :=
 match x with
 | .nl=>true
 | _=>false
def V4 (m:Nat) (h:ac) (a b:AV):Option (AV×ac) :=
 match elems h b with
 | some ys=>match cq m ys with
  | true=>bF m h a ys
  | false=>none
 | none=>none
def xX (z:List D) (h:ac) (a n:AV):Option (AV×ac) :=
 match bz n aF with
 | some n=>bF z.length h a (List.replicate n z)
 | none=>none
def apq (m:Nat) (hp:ac) (a b:AV):Option (D×ac) :=
 match elems hp b with
 | some ys=>match a with
  | .sl id off len=>match get hp id with
   | some (.arr k xs)=>match cq m ys && Nat.beq k m && Nat.ble (off+len) xs.length with
    | true=>some (.int .i64 (.ofNat (min len ys.length)),put hp id (.arr k (ai xs off (ys.take len))))
    | false=>none
   | _=>none
  | _=>match lenOf a with
   | some 0=>some (.int .i64 (.ofNat 0),hp)
   | _=>none
 | none=>none
def apv (z:List D) (hp:ac) (x:AV):Option ac :=
 match x with
 | .sl id off len=>match get hp id with
  | some (.arr k xs)=>match Nat.beq k z.length && Nat.ble (off+len) xs.length with
   | true=>some (put hp id (.arr k (ai xs off (List.replicate len z))))
   | false=>none
  | _=>none
 | _=>none
def tS (isMax:Bool) (vs:List AV):Option AV :=
 match vs with
 | .d (.int k n)::vs=>nb isMax (.d (.int k n)) vs
 | _=>none
def S2 (v:AV):Option AV :=
 match v with
 | .ptr .. | .pel .. | .pim .. | .fn .. | .yield ..=>some v
 | _=>none
def oc (h:ac) (n:Option Nat) (p:AV):Option AV :=
 match loadAt h n 0 p with
 | some (v,_)=>some v
 | none=>none
def Tr (m:Nat) (vs:List AV):Bool:=vs.all fun v=>Nat.beq v.cells.length m && v.cells.all au
def aR {β:Type}(e:ak) (x:Rd) (k:AV→ak→Option β):Option β :=
 match rd e x with
 | some (v,e)=>k v e
 | none=>none
def fp {β:Type}:ak→List Rd→(List AV→ak→Option β)→Option β
 | e,[],k=>k [] e
 | e,x::r,k=>match rd e x with
  | some (v,e)=>fp e r fun vs e=>k (v::vs) e
  | none=>none
def gy {β:Type}(e:ak) (x:Option Rd) (k:Option AV→ak→Option β):Option β :=
 match x with
 | none=>k none e
 | some x=>match rd e x with
  | some (v,e)=>k (some v) e
  | none=>none
def aG:Rd→Bool
 | .m _=>false
 | _=>true
def aH {β:Type}(P:Nat→Option af) (op:jq) (e:ak) (hs:HS) (k:AV→ak→HS→Option β):Option β :=
 match op with
 | .mov x=>aR e x fun v e=>k v e hs
 | .pick c a b=>aR e c fun c e=>match aG a && aG b,rd e a,rd e b with
  | true,some (a,_),some (b,_)=>bA (GP c a b) fun v=>k v e hs
  | _,_,_=>bP (fo (.c c) a b ⟨e,hs⟩) fun v st=>k v st.env st.hs
 | .alloc zs=>lA (put hs.heap hs.next (.cells zs)) fun h=>k (.ptr hs.next 0) e ⟨h,hs.next+1⟩
 | .box x=>aR e x fun v e=>dg (v.cells.all au) (lA (put hs.heap hs.next (.cells v.cells)) fun h=>k (.ptr hs.next 0) e ⟨h,hs.next+1⟩)
 | .build zs ps=>fp e (iP ps) fun vs e=>bA (ez zs (jX ps vs)) fun cs=>k (.agg cs) e hs
 | .mks m ps=>fp e ps fun vs e=>bA (dX m vs) fun xs=>k (.own true m xs) e hs
 | .mksv m ps=>fp e ps fun vs e=>dg (Tr m vs) (lA (put hs.heap hs.next (.cells (vs.flatMap AV.cells))) fun h=>k (.sl hs.next 0 vs.length) e ⟨h,hs.next+1⟩)
 | .ld n 0 p=>aR e p fun p e=>bA (oc hs.heap n p) fun v=>k v e hs
 | .ld n (t+1) p=>aR e p fun p e=>bP (loadAt hs.heap n (t+1) p) fun v h=>k v e ⟨h,hs.next⟩
 | .st n p x=>aR e p fun p e=>aR e x fun x e=>bA (storeAt hs.heap n p x) fun h=>k .junk e ⟨h,hs.next⟩
 | .nilck x=>aR e x fun v e=>bA (S2 v) fun v=>k v e hs
 | .bin op x y=>aR e x fun a e=>aR e y fun b e=>bA (fy op a b) fun v=>k (.d v) e hs
 | .binb neg x y=>aR e x fun a e=>aR e y fun b e=>bA (TV neg a b) fun v=>k (.d v) e hs
 | .bina neg ks x y=>aR e x fun a e=>aR e y fun b e=>bA (anj neg ks a b) fun v=>k (.d v) e hs
 | .un op x=>aR e x fun a e=>bA (unD op a) fun v=>k (.d v) e hs
 | .conv j x=>aR e x fun a e=>bA (TH j a) fun v=>k (.d v) e hs
 | .toStr x=>aR e x fun a e=>bA (aj8 hs.heap a) fun v=>k (.d v) e hs
 | .mkfn f a c=>fp e a fun a e=>fp e c fun c e=>k (.fn f (shareAll a) (shareAll c)) e hs
 | .mkslice z l c=>aR e l fun l e=>aR e c fun c e=>bA (zV z l c) fun v=>k v e hs
 | .slice m x lo hi mx=>aR e x fun x e=>gy e lo fun lo e=>gy e hi fun hi e=>gy e mx fun mx e=>bA (n6 hs.heap m x lo hi mx) fun v=>k v e hs
 | .slarr n x lo hi mx=>aR e x fun x e=>gy e lo fun lo e=>gy e hi fun hi e=>gy e mx fun mx e=>bA (JT hs.heap n x lo hi mx) fun v=>k v e hs
 | .fa off p=>aR e p fun p e=>bA (eh off p) fun v=>k v e hs
 | .fld off n x=>aR e x fun x e=>bA (aqh off n x) fun v=>k v e hs
 | .ia n x i=>aR e x fun x e=>aR e i fun i e=>bA (iaV hs.heap n x i) fun v=>k v e hs
 | .iarr l n p i=>aR e p fun p e=>aR e i fun i e=>bA (KK l n p i) fun v=>k v e hs
 | .ix l n a x i=>aR e x fun x e=>aR e i fun i e=>bA (ixV l n a x i) fun v=>k v e hs
 | .ixs x i=>aR e x fun x e=>aR e i fun i e=>bA (aia x i) fun v=>k (.d v) e hs
 | .ext j true i=>match get e j with
  | some t=>bA (w9 true t i) fun v=>k v (put e j (WW t i)) hs
  | none=>none
 | .ext j false i=>match get e j with
  | some t=>bA (w9 false t i) fun v=>k v e hs
  | none=>none
 | .len x=>aR e x fun x e=>bA (lenOf x) fun n=>k (.int .i64 (.ofNat n)) e hs
 | .cap x=>aR e x fun x e=>dg (Xj x) (k (.int .i64 (.ofNat 0)) e hs)
 | .app m x y=>aR e x fun a e=>aR e y fun b e=>bP (V4 m hs.heap a b) fun v h=>k v e ⟨h,hs.next⟩
 | .appz z x n=>aR e x fun a e=>aR e n fun n e=>bP (xX z hs.heap a n) fun v h=>k v e ⟨h,hs.next⟩
 | .cpy m x y=>aR e x fun a e=>aR e y fun b e=>bP (apq m hs.heap a b) fun v h=>k (.d v) e ⟨h,hs.next⟩
 | .clr z x=>aR e x fun x e=>bA (apv z hs.heap x) fun h=>k (.tup []) e ⟨h,hs.next⟩
 | .minmax b xs=>fp e xs fun vs e=>bA (tS b vs) fun v=>k v e hs
 | .call f args=>fp e args fun vs e=>bA (bN (Dn P) f vs hs.heap) fun v=>k v e hs
 | .calli f args=>fp e args fun vs e=>bP ((Dn P).call f vs hs) fun v hs=>k v e hs
 | .callv f args=>aR e f fun f e=>fp e args fun vs e=>bP (aP (Dn P) f vs hs) fun v hs=>k v e hs
 | .kill is=>k (.tup []) (is.foldl del e) hs
 | .idxb x c=>aR e x fun x e=>aR e c fun c e=>bA (aik hs.heap x c) fun v=>k v e hs
 | op=>bP (aY op (Dn P) ⟨e,hs⟩) fun v st=>k v st.env st.hs
def dP:List Rd→Bool
 | []=>true
 | x::r=>aG x && dP r
def Tc:Option Rd→Bool
 | none=>true
 | some x=>aG x
def bu:jq→Bool
 | .mov x=>aG x
 | .ld _ 0 p=>aG p
 | .nilck x=>aG x
 | .bin _ x y=>aG x && aG y
 | .binb _ x y=>aG x && aG y
 | .un _ x=>aG x
 | .conv _ x=>aG x
 | .fa _ p=>aG p
 | .fld _ _ x=>aG x
 | .ia _ x i=>aG x && aG i
 | .iarr _ _ p i=>aG p && aG i
 | .ix _ _ _ x i=>aG x && aG i
 | .ixs x i=>aG x && aG i
 | .ext _ mv _=>!mv
 | .len x=>aG x
 | .call _ args=>dP args
 | .pick c a b=>aG c && aG a && aG b
 | .build _ ps=>dP (iP ps)
 | .toStr x=>aG x
 | .mkfn _ a c=>dP a && dP c
 | .mkslice _ l c=>aG l && aG c
 | .minmax _ xs=>dP xs
 | .slice _ x a b c=>aG x && (Tc a && (Tc b && Tc c))
 | _=>false
def qY:jq→Bool
 | .calli _ args=>dP args
 | .callv f args=>aG f && dP args
 | _=>false
def cvi (P:Nat→Option af) (i:VI) (e:ak) (hs:HS) (k:ak→HS→Option St):Option St :=
 match i.guard with
 | none=>match i.th with
  | []=>match i.dst with
   | some d=>aH P i.op e hs fun v e hs=>k (put e d (firm v)) hs
   | none=>aH P i.op e hs fun _ e hs=>k e hs
  | th=>match i.dst with
   | some d=>aH P i.op e hs fun v e hs=>lP (bE th v hs) fun v hs=>k (put e d (firm v)) hs
   | none=>aH P i.op e hs fun v e hs=>lP (bE th v hs) fun _ hs=>k e hs
 | some (s,w)=>match bu i.op,i.th,i.dst with
  | true,[],some d=>match get e s with
   | some g=>bA (gV g w (aH P i.op e hs fun v _ _=>some v)) fun v=>k (put e d (firm v)) hs
   | none=>none
  | _,_,_=>match qY i.op,i.th,i.dst with
   | true,[],some d=>match get e s with
    | some g=>bP (gH g w hs (aH P i.op e hs fun v _ hs=>some (v,hs))) fun v hs=>k (put e d (firm v)) hs
    | none=>none
   | _,_,_=>bA (aT (Dn P) i ⟨e,hs⟩) fun st=>k st.env st.hs
def bT (P:Nat→Option af):List VI→ak→HS→Option St
 | [],e,hs=>some ⟨e,hs⟩
 | i::l,e,hs=>cvi P i e hs fun e hs=>bT P l e hs
theorem anA {op:BinOp}{a b v:AV}(h:bt op a b=some v):∃ x,v=.d x:=by
 unfold bt at h
 split at h
 ·split at h
  ·simp only[Option.some.injEq]at h;exact⟨_,h.symm⟩
  ·simp at h
 ·split at h
  ·simp only[Option.some.injEq]at h;exact⟨_,h.symm⟩
  ·simp only[Option.some.injEq]at h;exact⟨_,h.symm⟩
  ·split at h
   ·simp only[Option.some.injEq]at h;exact⟨_,h.symm⟩
   ·simp at h
  ·simp at h
 ·simp at h
theorem apE {op:UnOp}{a v:AV}(h:Ib op a=some v):∃ x,v=.d x:=by
 unfold Ib at h
 split at h
 ·split at h
  ·simp only[Option.some.injEq]at h;exact⟨_,h.symm⟩
  ·split at h
   ·simp only[Option.some.injEq]at h;exact⟨_,h.symm⟩
   ·simp at h
  ·simp at h
 ·split at h
  ·simp only[Option.some.injEq]at h;exact⟨_,h.symm⟩
  ·simp at h
 ·simp at h
theorem cj {β:Type}{e:ak}{x:Rd}{k:AV→ak→Option β}:aR e x k=match rd e x with | some (v,e)=>k v e | none=>none:=rfl
theorem iJ {β:Type}:∀ {l:List Rd}{e:ak}{k:List AV→ak→Option β},fp e l k=match rdAll e l with | some (vs,e)=>k vs e | none=>none
 | [],_,_=>rfl
 | x::r,e,k=>by
  simp only[fp,rdAll]
  cases rd e x with
  | none=>rfl
  | some p =>
   obtain⟨v,e1⟩:=p
   simp only
   rw[iJ]
   cases rdAll e1 r<;>rfl
theorem agv {β:Type}{e:ak}{x:Option Rd}{k:Option AV→ak→Option β}:gy e x k=match rdOpt e x with | some (v,e)=>k v e | none=>none:=by
 cases x with
 | none=>rfl
 | some x=>simp only[gy,rdOpt];cases rd e x<;>rfl
theorem alP {h h':ac}{n:Option Nat}{p v:AV}(k:loadAt h n 0 p=some (v,h')):h'=h:=by
 unfold loadAt at k
 split at k
 ·split at k
  ·split at k
   ·split at k
    ·simp at k
    ·simp only[Option.some.injEq,Prod.mk.injEq]at k;exact k.2.symm
   ·split at k
    ·simp only[Option.some.injEq,Prod.mk.injEq]at k;exact k.2.symm
    ·simp at k
  ·simp at k
 ·split at k
  ·split at k
   ·split at k
    ·simp only[Option.some.injEq,Prod.mk.injEq]at k;exact k.2.symm
    ·simp at k
   ·simp at k
  ·simp at k
 ·split at k
  ·simp only[Option.some.injEq,Prod.mk.injEq]at k;exact k.2.symm
  ·simp at k
 ·simp at k
def c7 {β:Type}(x:Option (AV×St)) (k:AV→ak→HS→Option β):Option β :=
 match x with
 | some (v,st)=>k v st.env st.hs
 | none=>none
theorem lc {e e1:ak}{x:Rd}{v:AV}(hs:aG x=true) (h:rd e x=some (v,e1)):e1=e:=by
 cases x with
 | s i=>simp only[rd]at h;split at h<;>simp_all
 | m i=>simp[aG]at hs
 | c v=>simp only[rd,Option.some.injEq,Prod.mk.injEq]at h;exact h.2.symm
theorem GJ {a b:Rd}{st:St}:fo (.c (.d (.bool true))) a b st=match rd st.env a with | some (v,e)=>some (v,⟨e,st.hs⟩) | none=>none:=rfl
theorem FW {a b:Rd}{st:St}:fo (.c (.d (.bool false))) a b st=match rd st.env b with | some (v,e)=>some (v,⟨e,st.hs⟩) | none=>none:=rfl
theorem Ek {β:Type}{op:jq}{e:ak}{hs:HS}{k:AV→ak→HS→Option β}:aH P op e hs k=c7 (aY op (Dn P) ⟨e,hs⟩) k:=by
 cases op with
 | mov x=>simp only[aH,aY,KL,cj,c7];cases rd e x<;>rfl
 | pick c a b =>
  simp only[aH,aY,cj]
  cases hc:rd e c with
  | none=>simp only[fo,hc,c7]
  | some q =>
   obtain⟨v,e1⟩:=q
   have h0:fo c a b ⟨e,hs⟩=fo (.c v) a b ⟨e1,hs⟩:=by
    unfold fo
    simp only
    rw[hc]
    rfl
   rw[h0]
   simp only
   split
   ·rename_i va _ vb _ hst hra hrb
    simp only[Bool.and_eq_true]at hst
    have ea:=lc hst.1 hra
    have eb:=lc hst.2 hrb
    subst ea
    subst eb
    simp only[c7]
    cases v with
    | d x=>cases x with
     | bool t =>
      cases t
      ·rw[FW];simp only[hrb,GP,bA]
      ·rw[GJ];simp only[hra,GP,bA]
     | _=>rfl
    | _=>rfl
   ·simp only[bP,c7]
    cases fo (.c v) a b ⟨e1,hs⟩<;>rfl
 | ld n t p =>
  cases t with
  | zero =>
   simp only[aH,aY,tP,cj,c7]
   cases rd e p with
   | none=>rfl
   | some q =>
    obtain⟨v,e1⟩:=q
    simp only[oc,bA]
    cases hl:loadAt hs.heap n 0 v with
    | none=>rfl
    | some r=>obtain⟨v2,h2⟩:=r;simp only[alP hl]
  | succ t =>
   simp only[aH,aY,tP,cj,c7]
   cases rd e p with
   | none=>rfl
   | some q =>
    obtain⟨v,e1⟩:=q
    simp only[bP]
    cases loadAt hs.heap n (t+1) v<;>rfl
 | alloc zs=>rfl
 | box x =>
  simp only[aH,aY,KD,cj,c7]
  cases rd e x with
  | none=>rfl
  | some q =>
   obtain⟨v,e1⟩:=q
   simp only[dg,lA,zw]
   cases v.cells.all au<;>rfl
 | build zs ps =>
  simp only[aH,aY,uW,iJ,c7]
  cases rdAll e (iP ps) with
  | none=>rfl
  | some q =>
   obtain⟨v,e1⟩:=q
   simp only[bA]
   cases ez zs (jX ps v)<;>rfl
 | mks m ps =>
  simp only[aH,aY,FC,iJ,c7]
  cases rdAll e ps with
  | none=>rfl
  | some q =>
   obtain⟨v,e1⟩:=q
   simp only[bA]
   cases dX m v<;>rfl
 | mksv m ps =>
  simp only[aH,aY,UF,iJ,c7]
  cases rdAll e ps with
  | none=>rfl
  | some q =>
   obtain⟨v,e1⟩:=q
   simp only[dg,lA,zw,Tr]
   cases v.all (fun v=>Nat.beq v.cells.length m && v.cells.all au)<;>rfl
 | st n p x =>
  simp only[aH,aY,ahN,cj,c7]
  cases rd e p with
  | none=>rfl
  | some q =>
   obtain⟨v,e1⟩:=q
   simp only
   cases rd e1 x with
   | none=>rfl
   | some q =>
    obtain⟨w,e2⟩:=q
    simp only[bA]
    cases storeAt hs.heap n v w<;>rfl
 | nilck x =>
  simp only[aH,aY,yI,cj,c7]
  cases rd e x with
  | none=>rfl
  | some q =>
   obtain⟨v,e1⟩:=q
   simp only[bA,S2]
   cases v<;>rfl
 | bin op x y =>
  simp only[aH,aY,F8,K8,cj,c7]
  cases rd e x with
  | none=>rfl
  | some q =>
   obtain⟨v,e1⟩:=q
   simp only
   cases rd e1 y with
   | none=>rfl
   | some q =>
    obtain⟨w,e2⟩:=q
    simp only[bA,fy]
    cases hb:bt op v w with
    | none=>rfl
    | some z=>obtain⟨d,rfl⟩:=anA hb;rfl
 | binb neg x y =>
  simp only[aH,aY,E4,cj,c7]
  cases rd e x with
  | none=>rfl
  | some q =>
   obtain⟨v,e1⟩:=q
   simp only
   cases rd e1 y with
   | none=>rfl
   | some q =>
    obtain⟨w,e2⟩:=q
    simp only[bA,TV]
    cases v<;>try rfl
    rename_i x
    cases x<;>try rfl
    cases w<;>try rfl
    rename_i x
    cases x<;>rfl
 | bina neg ks x y =>
  simp only[aH,aY,EV,cj,c7]
  cases rd e x with
  | none=>rfl
  | some q =>
   obtain⟨v,e1⟩:=q
   simp only
   cases rd e1 y with
   | none=>rfl
   | some q =>
    obtain⟨w,e2⟩:=q
    simp only[bA,anj]
    cases v<;>try rfl
    cases w<;>try rfl
    rename_i a b
    simp only
    cases al ks a b<;>rfl
 | un op x =>
  simp only[aH,aY,Xn,cj,c7]
  cases rd e x with
  | none=>rfl
  | some q =>
   obtain⟨v,e1⟩:=q
   simp only[bA,unD]
   cases hb:Ib op v with
   | none=>rfl
   | some z=>obtain⟨d,rfl⟩:=apE hb;rfl
 | conv j x =>
  simp only[aH,aY,A8,cj,c7]
  cases rd e x with
  | none=>rfl
  | some q =>
   obtain⟨v,e1⟩:=q
   simp only[bA,TH]
   cases v<;>try rfl
   rename_i x
   cases x<;>rfl
 | toStr x =>
  simp only[aH,aY,En,cj,c7]
  cases rd e x with
  | none=>rfl
  | some q =>
   obtain⟨v,e1⟩:=q
   simp only[bA,aj8]
   cases elems hs.heap v with
   | none=>rfl
   | some xs=>simp only;cases lH xs<;>rfl
 | mkfn f a c =>
  simp only[aH,aY,zL,iJ,c7]
  cases rdAll e a with
  | none=>rfl
  | some q =>
   obtain⟨v,e1⟩:=q
   simp only
   cases rdAll e1 c<;>rfl
 | mkslice z l c =>
  simp only[aH,aY,gb,cj,c7]
  cases rd e l with
  | none=>rfl
  | some q =>
   obtain⟨v,e1⟩:=q
   simp only
   cases rd e1 c with
   | none=>rfl
   | some q =>
    obtain⟨w,e2⟩:=q
    simp only[bA,zV]
    cases bz w aF with
    | none=>rfl
    | some n=>simp only;cases bz v n<;>rfl
 | slice m x lo hi mx =>
  simp only[aH,aY,Ed,cj,agv,c7]
  cases rd e x with
  | none=>rfl
  | some q =>
   obtain⟨v,e1⟩:=q
   simp only
   cases rdOpt e1 lo with
   | none=>rfl
   | some q =>
    obtain⟨l,e2⟩:=q
    simp only
    cases rdOpt e2 hi with
    | none=>rfl
    | some q =>
     obtain⟨h,e3⟩:=q
     simp only
     cases rdOpt e3 mx with
     | none=>rfl
     | some q =>
      obtain⟨j,e4⟩:=q
      simp only[bA,n6]
      cases okSl hs.heap m v with
      | false=>rfl
      | true=>simp only;cases nq m v l h j<;>rfl
 | slarr n x lo hi mx =>
  simp only[aH,aY,KJ,cj,agv,c7]
  cases rd e x with
  | none=>rfl
  | some q =>
   obtain⟨v,e1⟩:=q
   simp only
   cases v with
   | ptr id off =>
    simp only
    cases rdOpt e1 lo with
    | none=>rfl
    | some q =>
     obtain⟨l,e2⟩:=q
     simp only
     cases rdOpt e2 hi with
     | none=>rfl
     | some q =>
      obtain⟨h,e3⟩:=q
      simp only
      cases rdOpt e3 mx with
      | none=>rfl
      | some q =>
       obtain⟨j,e4⟩:=q
       simp only[bA,JT]
       cases Ey hs.heap n id off l h j<;>rfl
   | _ =>
    simp only
    cases rdOpt e1 lo with
    | none=>rfl
    | some q =>
     obtain⟨l,e2⟩:=q
     simp only
     cases rdOpt e2 hi with
     | none=>rfl
     | some q =>
      obtain⟨h,e3⟩:=q
      simp only
      cases rdOpt e3 mx<;>rfl
 | fa off p =>
  simp only[aH,aY,W0,cj,c7]
  cases rd e p with
  | none=>rfl
  | some q =>
   obtain⟨v,e1⟩:=q
   simp only[bA]
   cases eh off v<;>rfl
 | fld off n x =>
  simp only[aH,aY,F5,cj,c7]
  cases rd e x with
  | none=>rfl
  | some q =>
   obtain⟨v,e1⟩:=q
   simp only[bA,aqh]
   cases v<;>try rfl
   rename_i cs
   simp only
   cases j9 n cs off<;>rfl
 | ia n x i =>
  simp only[aH,aY,acF,cj,c7]
  cases rd e x with
  | none=>rfl
  | some q =>
   obtain⟨v,e1⟩:=q
   simp only
   cases rd e1 i with
   | none=>rfl
   | some q =>
    obtain⟨w,e2⟩:=q
    simp only[bA,iaV]
    cases eQ w with
    | none=>rfl
    | some j =>
     simp only
     cases v with
     | sl id off len =>
      simp only
      cases Nat.ble len j with
      | true=>rfl
      | false =>
       simp only
       cases get hs.heap id with
       | none=>rfl
       | some o =>
        cases o with
        | arr m xs=>simp only;cases Nat.beq m n<;>rfl
        | cells cs=>simp only;cases Nat.beq n 1<;>rfl
        | loop=>rfl
     | _ =>
      simp only
      first
      | rfl
      | (cases elems hs.heap _ with
       | none=>rfl
       | some xs =>
        simp only
        cases xs[j]? with
        | none=>rfl
        | some x=>simp only;cases Nat.beq x.length n<;>rfl)
 | iarr l n p i =>
  simp only[aH,aY,EW,cj,c7]
  cases rd e p with
  | none=>rfl
  | some q =>
   obtain⟨v,e1⟩:=q
   simp only
   cases rd e1 i with
   | none=>rfl
   | some q =>
    obtain⟨w,e2⟩:=q
    simp only[bA,KK]
    cases eQ w with
    | none=>rfl
    | some j =>
     simp only
     cases Nat.ble l j with
     | true=>rfl
     | false=>simp only;cases eh (j*n) v<;>rfl
 | ix l n a x i =>
  simp only[aH,aY,Qt,cj,c7]
  cases rd e x with
  | none=>rfl
  | some q =>
   obtain⟨v,e1⟩:=q
   simp only
   cases hi:rd e1 i with
   | none=>cases v<;>first | rfl | simp only[hi]
   | some q =>
    obtain⟨w,e2⟩:=q
    simp only[bA,ixV]
    cases v<;>try rfl
    rename_i cs
    simp only[hi]
    cases eQ w with
    | none=>rfl
    | some j =>
     simp only
     cases Nat.ble l j with
     | true=>rfl
     | false=>simp only;cases j9 (Jv a n) cs (j*n)<;>rfl
 | ixs x i =>
  simp only[aH,aY,FZ,cj,c7]
  cases rd e x with
  | none=>rfl
  | some q =>
   obtain⟨v,e1⟩:=q
   simp only
   cases hi:rd e1 i with
   | none =>
    cases v<;>try rfl
    rename_i d;cases d<;>first | rfl | simp only[hi]
   | some q =>
    obtain⟨w,e2⟩:=q
    simp only[bA,aia]
    cases v<;>try rfl
    rename_i d
    cases d<;>try rfl
    rename_i s
    simp only[hi]
    cases eQ w with
    | none=>rfl
    | some j=>simp only;cases s[j]?<;>rfl
 | ext j mv i =>
  cases mv with
  | true =>
   simp only[aH,aY,qZ,c7]
   cases get e j with
   | none=>rfl
   | some t =>
    simp only[bA,w9,WW]
    cases t<;>try rfl
    rename_i vs
    simp only
    cases vs[i]?<;>rfl
  | false =>
   simp only[aH,aY,qZ,c7]
   cases get e j with
   | none=>rfl
   | some t =>
    simp only[bA,w9]
    cases t<;>try rfl
    rename_i vs
    simp only
    cases vs[i]?<;>rfl
 | len x =>
  simp only[aH,aY,KX,cj,c7]
  cases rd e x with
  | none=>rfl
  | some q =>
   obtain⟨v,e1⟩:=q
   simp only[bA]
   cases lenOf v<;>rfl
 | cap x =>
  simp only[aH,aY,GQ,cj,c7]
  cases rd e x with
  | none=>rfl
  | some q =>
   obtain⟨v,e1⟩:=q
   simp only[dg,Xj]
   cases v<;>rfl
 | app m x y =>
  simp only[aH,aY,xY,cj,c7]
  cases rd e x with
  | none=>rfl
  | some q =>
   obtain⟨v,e1⟩:=q
   simp only
   cases rd e1 y with
   | none=>rfl
   | some q =>
    obtain⟨w,e2⟩:=q
    simp only[bP,V4]
    cases elems hs.heap w with
    | none=>rfl
    | some ys =>
     simp only
     cases cq m ys with
     | false=>rfl
     | true=>simp only;cases bF m hs.heap v ys<;>rfl
 | appz z x n =>
  simp only[aH,aY,aei,cj,c7]
  cases rd e x with
  | none=>rfl
  | some q =>
   obtain⟨v,e1⟩:=q
   simp only
   cases rd e1 n with
   | none=>rfl
   | some q =>
    obtain⟨w,e2⟩:=q
    simp only[bP,xX]
    cases bz w aF with
    | none=>rfl
    | some n=>simp only;cases bF z.length hs.heap v (List.replicate n z)<;>rfl
 | cpy m x y =>
  simp only[aH,aY,Ti,cj,c7]
  cases rd e x with
  | none=>rfl
  | some q =>
   obtain⟨v,e1⟩:=q
   simp only
   cases rd e1 y with
   | none=>rfl
   | some q =>
    obtain⟨w,e2⟩:=q
    simp only[bP,apq]
    cases elems hs.heap w with
    | none=>rfl
    | some ys =>
     simp only
     cases v with
     | sl id off len =>
      simp only
      cases get hs.heap id with
      | none=>rfl
      | some o =>
       cases o with
       | arr k xs=>simp only;cases (cq m ys && Nat.beq k m && Nat.ble (off+len) xs.length)<;>rfl
       | _=>rfl
     | _ =>
      simp only
      generalize lenOf _=n
      cases n with
      | none=>rfl
      | some n=>cases n<;>rfl
 | clr z x =>
  simp only[aH,aY,KU,cj,c7]
  cases rd e x with
  | none=>rfl
  | some q =>
   obtain⟨v,e1⟩:=q
   simp only[bA,apv]
   cases v<;>try rfl
   rename_i id off len
   simp only
   cases get hs.heap id with
   | none=>rfl
   | some o =>
    cases o with
    | arr k xs=>simp only;cases (Nat.beq k z.length && Nat.ble (off+len) xs.length)<;>rfl
    | _=>rfl
 | minmax b xs =>
  simp only[aH,aY,pU,iJ,c7]
  cases rdAll e xs with
  | none=>rfl
  | some q =>
   obtain⟨vs,e1⟩:=q
   simp only[bA,tS]
   cases vs with
   | nil=>rfl
   | cons v vs =>
    cases v<;>try rfl
    rename_i d
    cases d<;>try rfl
    rename_i k n
    simp only
    cases nb b (.d (.int k n)) vs<;>rfl
 | call f args =>
  simp only[aH,aY,wb,iJ,c7]
  cases rdAll e args with
  | none=>rfl
  | some q =>
   obtain⟨vs,e1⟩:=q
   simp only[bA]
   cases bN (Dn P) f vs hs.heap<;>rfl
 | calli f args =>
  simp only[aH,aY,tQ,iJ,c7]
  cases rdAll e args with
  | none=>rfl
  | some q =>
   obtain⟨vs,e1⟩:=q
   simp only[bP]
   cases (Dn P).call f vs hs<;>rfl
 | callv f args =>
  simp only[aH,aY,uX,cj,iJ,c7]
  cases rd e f with
  | none=>rfl
  | some q =>
   obtain⟨fv,e0⟩:=q
   simp only
   cases rdAll e0 args with
   | none=>rfl
   | some q =>
    obtain⟨vs,e1⟩:=q
    simp only[bP]
    cases aP (Dn P) fv vs hs<;>rfl
 | kill is=>rfl
 | idxb x c =>
  simp only[aH,aY,adO,cj,c7]
  cases rd e x with
  | none=>rfl
  | some q =>
   obtain⟨v,e1⟩:=q
   simp only
   cases rd e1 c with
   | none=>rfl
   | some q =>
    obtain⟨w,e2⟩:=q
    simp only[bA]
    cases aik hs.heap v w<;>rfl
 | _ =>
  simp only[aH,bP,c7]
  generalize aY _ (Dn P) ⟨e,hs⟩=z
  cases z<;>rfl
theorem Hc:∀ {l:List Rd}{e e1:ak}{vs:List AV},dP l=true→rdAll e l=some (vs,e1)→e1=e
 | [],e,e1,vs,_,h=>by simp only[rdAll,Option.some.injEq,Prod.mk.injEq]at h;exact h.2.symm
 | x::r,e,e1,vs,hs,h=>by
  simp only[dP,Bool.and_eq_true]at hs
  simp only[rdAll]at h
  split at h
  ·simp at h
  ·rename_i v e2 h1
   split at h
   ·simp at h
   ·rename_i vs2 e3 h2
    simp only[Option.some.injEq,Prod.mk.injEq]at h
    have a1:=lc hs.1 h1
    have a2:=Hc hs.2 h2
    rw[←h.2,a2,a1]
theorem dD {β:Type}{e:ak}{x:Rd}{k:AV→ak→Option β}(h:aG x=true):aR e x k=aR e x fun v _=>k v e:=by
 simp only[aR]
 cases hx:rd e x with
 | none=>rfl
 | some q=>obtain⟨v,e1⟩:=q;simp only;rw[lc h hx]
theorem jH {β:Type}{e:ak}{l:List Rd}{k:List AV→ak→Option β}(h:dP l=true):fp e l k=fp e l fun v _=>k v e:=by
 simp only[iJ]
 cases hx:rdAll e l with
 | none=>rfl
 | some q=>obtain⟨v,e1⟩:=q;simp only;rw[Hc h hx]
theorem sn {β:Type}{e:ak}{x:Option Rd}{k:Option AV→ak→Option β}(h:Tc x=true):gy e x k=gy e x fun v _=>k v e:=by
 cases x with
 | none=>rfl
 | some x=>exact dD (k:=fun v e=>k (some v) e) h
theorem f6 {α β γ:Type}{x:Option α}{f:α→Option β}{g:β→Option γ}:bA (bA x f) g=bA x fun v=>bA (f v) g:=by
 cases x<;>rfl
theorem cW {β γ:Type}{e:ak}{x:Rd}{k:AV→ak→Option β}{g:β→Option γ}:bA (aR e x k) g=aR e x fun v e=>bA (k v e) g:=by
 simp only[aR];cases rd e x<;>rfl
theorem Cc {β γ:Type}{e:ak}{x:List Rd}{k:List AV→ak→Option β}{g:β→Option γ}:bA (fp e x k) g=fp e x fun v e=>bA (k v e) g:=by
 simp only[iJ];cases rdAll e x<;>rfl
theorem cO {α β:Type}{v:α}{f:α→Option β}:bA (some v) f=f v:=rfl
theorem IS {β:Type}{e:ak}{x y:Rd}{k:AV→AV→ak→Option β}(h:aG x=true) (h2:aG y=true):(aR e x fun a e=>aR e y fun b e=>k a b e)=aR e x fun a _=>aR e y fun b _=>k a b e:=by
 rw[dD h]
 simp only[aR]
 cases rd e x with
 | none=>rfl
 | some q =>
  simp only
  cases hy:rd e y with
  | none=>rfl
  | some r=>obtain⟨w,e2⟩:=r;simp only;rw[lc h2 hy]
theorem GR {β:Type}{e:ak}{x y:Rd}{k:AV→AV→Option β}(h:aG x=true) (h2:aG y=true):(aR e x fun a e=>aR e y fun b _=>k a b)=aR e x fun a _=>aR e y fun b _=>k a b:=IS (k:=fun a b _=>k a b) h h2
theorem ajO {β:Type}{op:jq}{e:ak}{hs:HS}{k:AV→ak→HS→Option β}(h:bu op=true):aH P op e hs k=bA (aH P op e hs fun v _ _=>some v) fun v=>k v e hs:=by
 cases op with
 | mov x =>
  simp only[bu]at h
  simp only[aH,cW,cO]
  rw[dD h]
 | ld n t p =>
  cases t with
  | zero =>
   simp only[bu]at h
   simp only[aH,cW,f6,cO]
   rw[dD h]
  | succ t=>simp[bu]at h
 | nilck x =>
  simp only[bu]at h
  simp only[aH,cW,f6,cO]
  rw[dD h]
 | un op x =>
  simp only[bu]at h
  simp only[aH,cW,f6,cO]
  rw[dD h]
 | conv op x =>
  simp only[bu]at h
  simp only[aH,cW,f6,cO]
  rw[dD h]
 | fa off p =>
  simp only[bu]at h
  simp only[aH,cW,f6,cO]
  rw[dD h]
 | fld off n p =>
  simp only[bu]at h
  simp only[aH,cW,f6,cO]
  rw[dD h]
 | len x =>
  simp only[bu]at h
  simp only[aH,cW,f6,cO]
  rw[dD h]
 | bin op x y =>
  simp only[bu,Bool.and_eq_true]at h
  simp only[aH,cW,f6,cO]
  exact(IS h.1 h.2).trans (GR h.1 h.2).symm
 | binb op x y =>
  simp only[bu,Bool.and_eq_true]at h
  simp only[aH,cW,f6,cO]
  exact(IS h.1 h.2).trans (GR h.1 h.2).symm
 | ia n x y =>
  simp only[bu,Bool.and_eq_true]at h
  simp only[aH,cW,f6,cO]
  exact(IS h.1 h.2).trans (GR h.1 h.2).symm
 | iarr l n x y =>
  simp only[bu,Bool.and_eq_true]at h
  simp only[aH,cW,f6,cO]
  exact(IS h.1 h.2).trans (GR h.1 h.2).symm
 | ix l n a x y =>
  simp only[bu,Bool.and_eq_true]at h
  simp only[aH,cW,f6,cO]
  exact(IS h.1 h.2).trans (GR h.1 h.2).symm
 | ixs x y =>
  simp only[bu,Bool.and_eq_true]at h
  simp only[aH,cW,f6,cO]
  exact(IS h.1 h.2).trans (GR h.1 h.2).symm
 | ext j mv i =>
  cases mv with
  | true=>simp[bu]at h
  | false =>
   simp only[aH]
   cases get e j with
   | none=>rfl
   | some t=>simp only[f6,cO]
 | call f args =>
  simp only[bu]at h
  simp only[aH,Cc,f6,cO]
  rw[jH h]
 | build zs ps =>
  simp only[bu]at h
  simp only[aH,Cc,f6,cO]
  rw[jH h]
 | slice m x lo hi mx =>
  simp only[bu,Bool.and_eq_true]at h
  obtain⟨h0,h1,h2,h3⟩:=h
  have bd:∀ {γ:Type}{x:Option Rd}{e:ak}{k:Option AV→ak→Option AV}{g:AV→Option γ},bA (gy e x k) g=gy e x fun v e=>bA (k v e) g:=by
   intro γ x e k g
   cases x with
   | none=>rfl
   | some x=>exact cW
  simp only[aH,cW,bd,f6,cO]
  rw[dD h0,dD (k:=fun v e_1=>gy e_1 lo fun v_1 e_1=>gy e_1 hi fun v_2 e_1=>gy e_1 mx fun v_3 _=>bA (n6 hs.heap m v v_1 v_2 v_3) fun v=>k v e hs) h0]
  congr 1
  funext v _
  rw[sn h1,sn (k:=fun v_1 e_1=>gy e_1 hi fun v_2 e_1=>gy e_1 mx fun v_3 _=>bA (n6 hs.heap m v v_1 v_2 v_3) fun v=>k v e hs) h1]
  congr 1
  funext v_1 _
  rw[sn h2,sn (k:=fun v_2 e_1=>gy e_1 mx fun v_3 _=>bA (n6 hs.heap m v v_1 v_2 v_3) fun v=>k v e hs) h2]
  congr 1
  funext v_2 _
  rw[sn h3]
 | minmax b ps =>
  simp only[bu]at h
  simp only[aH,Cc,f6,cO]
  rw[jH h]
 | toStr x =>
  simp only[bu]at h
  simp only[aH,cW,f6,cO]
  rw[dD h]
 | mkslice z x y =>
  simp only[bu,Bool.and_eq_true]at h
  simp only[aH,cW,f6,cO]
  exact(IS h.1 h.2).trans (GR h.1 h.2).symm
 | mkfn f a c =>
  simp only[bu,Bool.and_eq_true]at h
  simp only[aH,Cc,cO]
  rw[jH h.1,jH (k:=fun v e_1=>fp e_1 c fun v_1 _=>k (AV.fn f (shareAll v) (shareAll v_1)) e hs) h.1]
  simp only[jH h.2]
 | pick c a b =>
  simp only[bu,Bool.and_eq_true]at h
  simp only[aH,cW]
  rw[dD h.1.1]
  have h2:(aG a && aG b)=true:=by rw[h.1.2,h.2];rfl
  simp only[aR]
  cases hc:rd e c with
  | none=>rfl
  | some q =>
   obtain⟨v,e1⟩:=q
   have:=lc h.1.1 hc
   subst this
   simp only[h2]
   cases ha:rd e1 a with
   | none =>
    cases hb:rd e1 b with
    | none =>
     cases v<;>try rfl
     rename_i d;cases d<;>try rfl
     rename_i t;cases t<;>simp only[GJ,FW,ha,hb,bP,bA]
    | some q =>
     obtain⟨vb,eb⟩:=q
     have:=lc h.2 hb
     subst this
     cases v<;>try rfl
     rename_i d;cases d<;>try rfl
     rename_i t;cases t<;>simp only[GJ,FW,ha,hb,bP,bA]
   | some q =>
    obtain⟨va,ea⟩:=q
    have:=lc h.1.2 ha
    subst this
    cases hb:rd ea b with
    | none =>
     cases v<;>try rfl
     rename_i d;cases d<;>try rfl
     rename_i t;cases t<;>simp only[GJ,FW,ha,hb,bP,bA]
    | some q=>simp only[f6,cO]
 | _=>simp[bu]at h
theorem anh {α β γ δ ε:Type}{x:Option (α×β)}{f:α→β→Option (γ×δ)}{g:γ→δ→Option ε}:bP (bP x f) g=bP x fun v w=>bP (f v w) g:=by
 cases x<;>rfl
theorem aij {β:Type}{op:jq}{e:ak}{hs:HS}{k:AV→ak→HS→Option β}(h:qY op=true):aH P op e hs k=bP (aH P op e hs fun v _ hs=>some (v,hs)) fun v hs=>k v e hs:=by
 cases op with
 | calli f args =>
  simp only[qY]at h
  simp only[aH]
  rw[jH h]
  simp only[iJ]
  cases rdAll e args with
  | none=>rfl
  | some q=>simp only[anh];rfl
 | callv f args =>
  simp only[qY,Bool.and_eq_true]at h
  simp only[aH]
  rw[dD h.1]
  simp only[jH h.2]
  simp only[aR]
  cases hf:rd e f with
  | none=>rfl
  | some q =>
   obtain⟨v,e1⟩:=q
   have:=lc h.1 hf
   subst this
   simp only[iJ]
   cases rdAll e1 args with
   | none=>rfl
   | some q=>simp only[anh];rfl
 | _=>simp[qY]at h
theorem aaz:firm (.tup [])=.tup []:=rfl
theorem Ij {i:VI}{e:ak}{hs:HS}{k:ak→HS→Option St}:cvi P i e hs k=bA (aT (Dn P) i ⟨e,hs⟩) fun st=>k st.env st.hs:=by
 obtain⟨dst,guard,op,th⟩:=i
 unfold cvi
 simp only
 cases guard with
 | none =>
  simp only[aT,cZ]
  cases th with
  | nil =>
   cases dst with
   | none =>
    simp only[Ek,c7,aN]
    cases aY op (Dn P) ⟨e,hs⟩<;>rfl
   | some d =>
    simp only[Ek,c7,aN]
    cases aY op (Dn P) ⟨e,hs⟩<;>rfl
  | cons p r =>
   cases dst with
   | none =>
    simp only[Ek,c7,aN,lP]
    cases aY op (Dn P) ⟨e,hs⟩<;>rfl
   | some d =>
    simp only[Ek,c7,aN,lP]
    cases aY op (Dn P) ⟨e,hs⟩<;>rfl
 | some g =>
  obtain⟨s,w⟩:=g
  simp only
  split
  ·rename_i d hst
   have he:∀ {k:AV→ak→HS→Option St},c7 (aY op (Dn P) ⟨e,hs⟩) k=bA (aH P op e hs fun v _ _=>some v) fun v=>k v e hs:=by
    intro k
    rw[←Ek,ajO hst]
   have hv:∀ {k:ak→HS→Option St},bA (cZ (Dn P) ⟨some d,some (s,w),op,[]⟩ ⟨e,hs⟩) (fun st=>k st.env st.hs)=bA (aH P op e hs fun v _ _=>some v) fun v=>k (put e d (firm v)) hs:=by
    intro k
    rw[←he (k:=fun v e hs=>k (put e d (firm v)) hs)]
    simp only[cZ,c7,aN]
    cases aY op (Dn P) ⟨e,hs⟩<;>rfl
   simp only[aT]
   cases get e s with
   | none=>rfl
   | some g =>
    simp only
    cases g with
    | d x=>cases x with
     | bool b =>
      simp only[gV]
      cases hb:(b == w) with
      | true =>
       have:b=w:=by simpa using hb
       simp only[this,if_true]
       rw[hv]
      | false =>
       have:¬ b=w:=by simpa using hb
       simp only[this,if_false,bA,aaz,aN]
     | _=>rfl
    | tup vs=>cases vs<;>rfl
    | _=>rfl
  ·split
   ·rename_i d hst _
    have he:∀ {k:AV→ak→HS→Option St},c7 (aY op (Dn P) ⟨e,hs⟩) k=bP (aH P op e hs fun v _ hs=>some (v,hs)) fun v hs=>k v e hs:=by
     intro k
     rw[←Ek,aij hst]
    have hv:∀ {k:ak→HS→Option St},bA (cZ (Dn P) ⟨some d,some (s,w),op,[]⟩ ⟨e,hs⟩) (fun st=>k st.env st.hs)=bP (aH P op e hs fun v _ hs=>some (v,hs)) fun v hs=>k (put e d (firm v)) hs:=by
     intro k
     rw[←he (k:=fun v e hs=>k (put e d (firm v)) hs)]
     simp only[cZ,c7,aN]
     cases aY op (Dn P) ⟨e,hs⟩<;>rfl
    simp only[aT]
    cases get e s with
    | none=>rfl
    | some g =>
     simp only
     cases g with
     | d x=>cases x with
      | bool b =>
       simp only[gH]
       cases hb:(b == w) with
       | true =>
        have:b=w:=by simpa using hb
        simp only[this,if_true]
        rw[hv]
       | false =>
        have:¬ b=w:=by simpa using hb
        simp only[this,if_false,bA,bP,aaz,aN]
      | _=>rfl
     | tup vs=>cases vs<;>rfl
     | _=>rfl
   ·rfl
theorem WJ:∀ {l:List VI}{e:ak}{hs:HS},fe (Dn P) l ⟨e,hs⟩=bT P l e hs
 | [],_,_=>rfl
 | i::l,e,hs=>by
  simp only[fe,bT,Ij,bA]
  cases aT (Dn P) i ⟨e,hs⟩ with
  | none=>rfl
  | some st=>exact WJ
theorem vE {d:Bool}{ops:List VI}{e:ak}{hs:HS}{x:Option St}(h:bT P ops e hs=x):(Dn P).code (.reg d ops) ⟨e,hs⟩=ca x:=by
 rw[PT,WJ,h]
theorem aW {perm gco:List Nat}{ops:List VI}{e:ak}{hs:HS}{x:Option St}(ha:lM e ops=true) (hb:(perm.all fun i=>decide (i<ops.length))=true) (h:bT P (perm.filterMap fun i=>ops[i]?) e hs=x):(Dn P).code (.regP perm gco [] ops) ⟨e,hs⟩=ca x:=by
 rw[ai8 ha,ZW hb,WJ,h]
def apP (e:ak) (d:Option Nat):Bool :=
 match d with
 | some d=>match get e d with
  | some a=>DS a
  | none=>false
 | none=>false
def akZ (P:Nat→Option af) (F:List Nat) (v:VI) (e:ak) (hs:HS) (k:ak→HS→Option St):Option St :=
 match jW v.op with
 | .call=>cvi P v e hs fun e2 s2=>dg (jS F hs.heap s2.heap) (k e2 s2)
 | .take=>cvi P v e hs fun e2 s2=>dg (apP e2 v.dst) (k e2 s2)
 | .read=>cvi P v e ⟨eK (gD v e) hs.heap,hs.next⟩ fun e2 _=>k e2 hs
def Sa (P:Nat→Option af):List (Bool×VI)→List Nat→ak→HS→Option St
 | [],_,e,hs=>some ⟨e,hs⟩
 | (a,v)::l,F,e,hs=>match a with
  | false=>cvi P v e hs fun e2 s2=>Sa P l F e2 s2
  | true=>akZ P F v e hs fun e2 s2=>Sa P l (eV true v e F) e2 s2
theorem aoC {F:List Nat}{v:VI}{e:ak}{hs:HS}{k:ak→HS→Option St}:akZ P F v e hs k=bA (mF (Dn P) F v ⟨e,hs⟩) fun st=>k st.env st.hs:=by
 unfold akZ mF
 cases jW v.op with
 | call =>
  simp only[Ij]
  cases aT (Dn P) v ⟨e,hs⟩ with
  | none=>rfl
  | some st =>
   simp only[bA]
   cases jS F hs.heap st.hs.heap<;>rfl
 | take =>
  simp only[Ij]
  cases aT (Dn P) v ⟨e,hs⟩ with
  | none=>rfl
  | some st =>
   simp only[bA,apP]
   cases v.dst with
   | none=>rfl
   | some d =>
    simp only
    cases get st.env d with
    | none=>rfl
    | some a=>simp only;cases DS a<;>rfl
 | read =>
  simp only[Ij]
  cases aT (Dn P) v ⟨e,⟨eK (gD v e) hs.heap,hs.next⟩⟩<;>rfl
def acx (nr:List Nat) (ops:List VI) (i:Nat):Option (Bool×VI) :=
 match ops[i]? with
 | some v=>some (bR i nr,v)
 | none=>none
theorem O9 {nr:List Nat}{ops:List VI}:∀ {l:List Nat}{F:List Nat}{e:ak}{hs:HS},(l.all fun i=>decide (i<ops.length))=true→cL (Dn P) nr ops l F ⟨e,hs⟩=Sa P (l.filterMap (acx nr ops)) F e hs
 | [],_,_,_,_=>rfl
 | i::l,F,e,hs,hb=>by
  simp only[List.all_cons,Bool.and_eq_true,decide_eq_true_eq]at hb
  have h1:ops[i]?=some ops[i]:=List.getElem?_eq_getElem hb.1
  have h2:acx nr ops i=some (bR i nr,ops[i]):=by simp only[acx,h1]
  simp only[cL,h1,List.filterMap_cons,h2,Sa,aM]
  cases bR i nr with
  | false =>
   simp only[Ij,eV]
   cases aT (Dn P) ops[i] ⟨e,hs⟩ with
   | none=>rfl
   | some st=>exact O9 hb.2
  | true =>
   simp only[aoC]
   cases mF (Dn P) F ops[i] ⟨e,hs⟩ with
   | none=>rfl
   | some st=>exact O9 hb.2
theorem ahH {perm gco nr:List Nat}{ops:List VI}{e:ak}{hs:HS}{x:Option St}(ha:lM e ops=true) (hb:(perm.all fun i=>decide (i<ops.length))=true) (h:Sa P (perm.filterMap (acx nr ops)) [] e hs=x):(Dn P).code (.regP perm gco nr ops) ⟨e,hs⟩=ca x:=by
 rw[dZ,←h,←O9 hb]
 simp only[aS,D3,D1,ha]
 cases cL (Dn P) nr ops perm [] ⟨e,hs⟩<;>rfl
abbrev F (i:Nat):VC:=.reg false [⟨none,none,.free i,[]⟩]
def frK (e:ak) (hs:HS) (i:Nat):Option AV→Option (aU×St)
 | some (.ptr id _)=>some (.normal,⟨del e i,⟨del hs.heap id,hs.next⟩⟩)
 | some (.fn _ _ caps)=>some (.normal,⟨del e i,⟨delAll hs.heap (AM caps),hs.next⟩⟩)
 | _=>some (.normal,⟨e,hs⟩)
theorem asm {e:ak}{h:ac}{n i id o:Nat}:frK e ⟨h,n⟩ i (some (.ptr id o))=some (.normal,⟨del e i,⟨del h id,n⟩⟩):=rfl
theorem arZ {e:ak}{h:ac}{n i f:Nat}{a c:List AV}:frK e ⟨h,n⟩ i (some (.fn f a c))=some (.normal,⟨del e i,⟨delAll h (AM c),n⟩⟩):=rfl
theorem apr {i:Nat}{e:ak}{hs:HS}:(Dn P).code (F i) ⟨e,hs⟩=frK e hs i (get e i):=by
 rw[PT]
 simp only[fe,aT,cZ,aY,R4]
 cases get e i with
 | none=>rfl
 | some v=>cases v<;>rfl
abbrev K (l:List Nat):VC:=.reg false [⟨none,none,.kill l,[]⟩]
theorem aqa {is:List Nat}{e:ak}{hs:HS}:(Dn P).code (K is) ⟨e,hs⟩=some (.normal,⟨is.foldl del e,hs⟩):=by rw[PT];rfl
end Go.Vm
namespace Go.Vm
variable {P:Nat→Option af}
attribute [simp ↓] apx aqQ ap0 aqd apA ap6 ap3 aqO aqk apQ aqI apX aqC ap5 apZ ap2 apV aqV YX anS anR anN anx aoj
attribute [simp ↓] akJ ajY amt ahk ajd amk ahI aqa apr asm arZ aoM aow ajt
attribute [simp] delAll AM
attribute [simp] atX apM avg put1 avc apw
attribute [congr] ite_congr anU aoI ak5 ape apk alE
def G0 (x:Option (List AV×St)):Option (AV×HS) :=
 match x with
 | some ([v],st)=>some (v,st.hs)
 | some (vs,st)=>some (.tup vs,st.hs)
 | none=>none
theorem ap8 {fn:af}{st:St}:xr fn st=G0 (cH st fn.results):=(by
 simp only[xr,G0]
 cases cH st fn.results with
 | none=>rfl
 | some q =>
  obtain⟨vs,s⟩:=q
  cases vs with
  | nil=>rfl
  | cons v r=>cases r<;>rfl)
@[simp] theorem awU {st:St}:G0 (some ([],st))=some (.tup [],st.hs):=(rfl)
@[simp] theorem awM {v:AV}{st:St}:G0 (some ([v],st))=some (v,st.hs):=(rfl)
@[simp] theorem axb {v w:AV}{r:List AV}{st:St}:G0 (some (v::w::r,st))=some (.tup (v::w::r),st.hs):=(rfl)
def zy (rs:List lU) (x:Option (aU×St)):Option (AV×HS) :=
 match x with
 | some (.normal,st)=>G0 (cH st rs)
 | some (.ret,st)=>G0 (cH st rs)
 | _=>none
@[simp ↓] theorem axa {rs:List lU}{st:St}:zy rs (some (.normal,st))=G0 (cH st rs):=(rfl)
@[simp ↓] theorem aw6 {rs:List lU}{st:St}:zy rs (some (.ret,st))=G0 (cH st rs):=(rfl)
@[simp ↓] theorem axe {rs:List lU}{c:Prop}[Decidable c] {x y:Option (aU×St)}:zy rs (if c then x else y)=if c then zy rs x else zy rs y:=by split<;>rfl
@[simp ↓] theorem agH {n:Nat}{rs:List lU}{b:VC}{x:Option (aU×St)}:P8 ⟨n,rs,b⟩ x=zy rs x:=by
 simp only[P8,zy]
 split<;>simp only[ap8]
theorem aov {rs:List lU}{x y:Option (aU×St)}(h:x=y):zy rs x=zy rs y:=by rw[h]
attribute [congr] aov
theorem aa {a b:VC}{st:St}(h:a=b):(Dn P).code (.loop a) st=oO P a ((Dn P).code b st):=by rw[←h];exact ajp
theorem am {f:FuncId}{fn:af}{n:Nat}{rs:List lU}{b:VC}{args:List AV}(hf:P f=some fn) (hd:fn=⟨n,rs,b⟩) (hl:args.length=n):aL P f args=tF (zy rs ((Dn P).code b ⟨dW 0 args,⟨[],0⟩⟩)):=by
 subst hd
 rw[amA hf hl,agH]
theorem aA {f:FuncId}{fn:af}{n:Nat}{rs:List lU}{b:VC}{args:List AV}{hs:HS}(hf:P f=some fn) (hd:fn=⟨n,rs,b⟩) (hl:args.length=n):(Dn P).call f args hs=zy rs ((Dn P).code b ⟨dW 0 args,hs⟩):=by
 subst hd
 rw[aah hf hl,agH]
@[simp ↓] theorem axY {α β:Type}{v:α}{f:α→Option β}:bA (some v) f=f v:=(rfl)
@[simp ↓] theorem axV {α β:Type}{f:α→Option β}:bA none f=none:=(rfl)
@[simp ↓] theorem ax0 {α β:Type}{c:Prop}[Decidable c] {x y:Option α}{f:α→Option β}:bA (if c then x else y) f=if c then bA x f else bA y f:=by split<;>rfl
@[simp ↓] theorem axQ {α γ β:Type}{v:α}{w:γ}{f:α→γ→Option β}:bP (some (v,w)) f=f v w:=(rfl)
@[simp ↓] theorem ax2 {α γ β:Type}{f:α→γ→Option β}:bP none f=none:=(rfl)
@[simp ↓] theorem axS {α γ β:Type}{c:Prop}[Decidable c] {x y:Option (α×γ)}{f:α→γ→Option β}:bP (if c then x else y) f=if c then bP x f else bP y f:=by split<;>rfl
@[simp ↓] theorem axP {α β:Type}{x:α}{f:α→β}:lA x f=f x:=(rfl)
@[simp ↓] theorem axT {α γ β:Type}{x:α}{y:γ}{f:α→γ→β}:lP (x,y) f=f x y:=(rfl)
@[simp ↓] theorem axr {β:Type}{x:Option β}:dg true x=x:=(rfl)
@[simp ↓] theorem axu {β:Type}{x:Option β}:dg false x=none:=(rfl)
theorem asi {α β:Type}{x y:Option α}{f:α→Option β}(h:x=y):bA x f=bA y f:=by rw[h]
theorem arw {α γ β:Type}{x y:Option (α×γ)}{f:α→γ→Option β}(h:x=y):bP x f=bP y f:=by rw[h]
theorem ar0 {α β:Type}{x y:α}{f:α→β}(h:x=y):lA x f=lA y f:=by rw[h]
theorem arH {α γ β:Type}{x y:α×γ}{f:α→γ→β}(h:x=y):lP x f=lP y f:=by rw[h]
attribute [congr] asi arw ar0 arH
@[simp ↓] theorem axv {x:Option AV}:gV (.d (.bool true)) true x=x:=(rfl)
@[simp ↓] theorem axg {x:Option AV}:gV (.d (.bool false)) false x=x:=(rfl)
@[simp ↓] theorem axD {x:Option AV}:gV (.d (.bool true)) false x=some (.tup []):=(rfl)
@[simp ↓] theorem axF {x:Option AV}:gV (.d (.bool false)) true x=some (.tup []):=(rfl)
@[simp ↓] theorem axX {w:Bool}{x:Option AV}:gV (.tup []) w x=some (.tup []):=(rfl)
@[simp ↓] theorem axG {hs:HS}{x:Option (AV×HS)}:gH (.d (.bool true)) true hs x=x:=(rfl)
@[simp ↓] theorem axz {hs:HS}{x:Option (AV×HS)}:gH (.d (.bool false)) false hs x=x:=(rfl)
@[simp ↓] theorem axf {hs:HS}{x:Option (AV×HS)}:gH (.d (.bool true)) false hs x=some (.tup [],hs):=(rfl)
@[simp ↓] theorem axk {hs:HS}{x:Option (AV×HS)}:gH (.d (.bool false)) true hs x=some (.tup [],hs):=(rfl)
@[simp ↓] theorem avu {a b:AV}:GP (.d (.bool true)) a b=some a:=(rfl)
@[simp ↓] theorem avA {a b:AV}:GP (.d (.bool false)) a b=some b:=(rfl)
@[simp] theorem awN {x:D}:firm (.d x)=.d x:=(rfl)
@[simp] theorem avY:firm .nl=.nl:=(rfl)
@[simp] theorem auK {p:Bool}{m:Nat}{xs:List (List D)}:firm (.own p m xs)=.own false m xs:=(rfl)
@[simp] theorem auO {cs:List AV}:firm (.agg cs)=.agg (cs.map eM):=(rfl)
@[simp] theorem au1 {cs:List AV}:firm (.tup cs)=.tup (cs.map nJ):=(rfl)
@[simp] theorem at0 {a b:Nat}:firm (.ptr a b)=.ptr a b:=(rfl)
@[simp] theorem atY {a b c:Nat}:firm (.pel a b c)=.pel a b c:=(rfl)
@[simp] theorem ave {a:List D}{b:Nat}:firm (.pim a b)=.pim a b:=(rfl)
@[simp] theorem avN {a b c:Nat}:firm (.sl a b c)=.sl a b c:=(rfl)
@[simp] theorem avD {f:FuncId}{a b:List AV}:firm (.fn f a b)=.fn f a b:=(rfl)
@[simp] theorem ast {n:Nat}:firm (.yield n)=.yield n:=(rfl)
theorem nf {op:BinOp}{a b:AV}{x:D}(h:bt op a b=some (.d x)):fy op a b=some x:=by simp only[fy,h]
theorem yC {op:BinOp}{a b:AV}{c:Prop}[Decidable c] {x y:D}(h:bt op a b=if c then some (.d x) else some (.d y)):fy op a b=if c then some x else some y:=by
 by_cases hc:c<;>simp[fy,h,hc]
@[simp] theorem awO {k:IntKind}{a b:Int}:fy .add (.d (.int k a)) (.d (.int k b))=some (.int k (wr k (a+b))):=nf aom
@[simp] theorem awj {k:IntKind}{a b:Int}:fy .sub (.d (.int k a)) (.d (.int k b))=some (.int k (wr k (a-b))):=nf apa
@[simp] theorem awL {k:IntKind}{a b:Int}:fy .mul (.d (.int k a)) (.d (.int k b))=some (.int k (wr k (a*b))):=nf aoy
@[simp] theorem awl {k:IntKind}{a b:Int}(h:b≠0):fy .quo (.d (.int k a)) (.d (.int k b))=some (.int k (wr k (a.tdiv b))):=nf (an2 h)
@[simp] theorem awm {k:IntKind}{a b:Int}(h:b≠0):fy .rem (.d (.int k a)) (.d (.int k b))=some (.int k (a.tmod b)):=nf (anT h)
@[simp] theorem aw0 {k:IntKind}{a b:Int}:fy .eql (.d (.int k a)) (.d (.int k b))=if a=b then some (.bool true) else some (.bool false):=yC ao6
@[simp] theorem aws {k:IntKind}{a b:Int}:fy .neq (.d (.int k a)) (.d (.int k b))=if a=b then some (.bool false) else some (.bool true):=yC ao3
@[simp] theorem awC {k:IntKind}{a b:Int}:fy .lss (.d (.int k a)) (.d (.int k b))=if a<b then some (.bool true) else some (.bool false):=yC anM
@[simp] theorem aw2 {k:IntKind}{a b:Int}:fy .leq (.d (.int k a)) (.d (.int k b))=if a≤b then some (.bool true) else some (.bool false):=yC anz
@[simp] theorem awy {k:IntKind}{a b:Int}:fy .gtr (.d (.int k a)) (.d (.int k b))=if b<a then some (.bool true) else some (.bool false):=yC an5
@[simp] theorem awI {k:IntKind}{a b:Int}:fy .geq (.d (.int k a)) (.d (.int k b))=if b≤a then some (.bool true) else some (.bool false):=yC aoc
@[simp] theorem EZ {k j:IntKind}{a b:Int}(h:0≤b):fy .shl (.d (.int k a)) (.d (.int j b))=some (.int k (wr k (a*((2 ^ (min b.toNat k.bits):Nat):Int)))):=nf (anF h)
@[simp] theorem gg {k j:IntKind}{a b:Int}(h:0≤b):fy .shr (.d (.int k a)) (.d (.int j b))=some (.int k (a.fdiv ((2 ^ (min b.toNat k.bits):Nat):Int))):=nf (aoW h)
theorem ajZ {k:IntKind}{a b:Nat}(h:a<rZ k) (h2:b<rZ k):fy .and (.d (.int k (a:Int))) (.d (.int k (b:Int)))=some (.int k ((a &&& b:Nat):Int)):=nf (an9 h h2)
@[simp] theorem av0 {b:Bool}:unD .not (.d (.bool b))=some (.bool !b):=(rfl)
@[simp] theorem awa {k:IntKind}{n:Int}:unD .neg (.d (.int k n))=some (.int k (wr k (0-n))):=(rfl)
@[simp] theorem avp {k j:IntKind}{n:Int}:TH k (.d (.int j n))=some (.int k (wr k n)):=(rfl)
attribute [simp] ajK asl aqi aqF apO
attribute [simp] ak3 amD ajH aiW IntKind.bits
@[simp] theorem av4 {h:ac}{m:Nat}{xs:List (List D)}{k:IntKind}{i:Int}(h0:0≤i):iaV h m (.d (.lst xs)) (.d (.int k i))=bA xs[i.toNat]? fun x=>if x.length=m then some (.pim x 0) else none:=by
 simp only[iaV,WB h0,elems]
 cases xs[i.toNat]? with
 | none=>rfl
 | some x =>
  simp only[bA]
  by_cases hx:x.length=m
  ·simp[hx]
  ·simp[hx,adW]
attribute [simp] amh al9 ai9
@[simp] theorem avr {h:ac}{n:Option Nat}{cs:List D}{o:Nat}:oc h n (.pim cs o)=iR n cs o:=by
 simp only[oc,loadAt];cases iR n cs o<;>rfl
@[simp] theorem auF {cs:List D}{o:Nat}:iR none cs o=(cs[o]?).map .d:=by simp only[iR];cases cs[o]?<;>rfl
@[simp] theorem atN {cs:List D}{n o:Nat}:iR (some n) cs o=if o+n≤cs.length then some (.agg ((sub cs o n).map .d)) else none:=by
 by_cases h:o+n≤cs.length<;>simp[iR,VV,h]
@[simp] theorem gq0 {α:Type}{x:α}{r:List α}:(x::r)[0]?=some x:=(rfl)
@[simp] theorem ava {f:FuncId}{vs:List AV}{h:ac}:bN (Dn P) f vs h=bA (viewArgs h vs) fun ds=>bA (aL P f ds) fun v=>if vs.any kJ=false then some v else if ee v=true then some v else some (Cp v):=by
 simp only[bN,aL,tF,bA]
 cases viewArgs h vs with
 | none=>rfl
 | some ds =>
  simp only
  cases (Dn P).call f ds ⟨[],0⟩ with
  | none=>rfl
  | some q =>
   obtain⟨v,h2⟩:=q
   simp only
   cases d9 h2.heap v with
   | none=>rfl
   | some v =>
    simp only
    cases vs.any kJ with
    | false=>rfl
    | true=>simp only;cases ee v<;>rfl
@[simp] theorem avP {x:D}:share (.d x)=.d x:=(rfl)
@[simp] theorem aub  : share (.nl)=.nl:=(rfl)
@[simp] theorem asD {m:Nat}{xs:List (List D)}:share (.own false m xs)=.d (.lst xs):=(rfl)
@[simp] theorem ata {cs:List AV}:share (.agg cs)=.agg (shareAll cs):=(rfl)
@[simp] theorem atw {cs:List AV}:share (.tup cs)=.tup (shareAll cs):=(rfl)
@[simp] theorem atb {a b:Nat}:share (.ptr a b)=.ptr a b:=(rfl)
@[simp] theorem asV {a b c:Nat}:share (.pel a b c)=.pel a b c:=(rfl)
@[simp] theorem atr {cs:List D}{b:Nat}:share (.pim cs b)=.pim cs b:=(rfl)
@[simp] theorem at2 {a b c:Nat}:share (.sl a b c)=.sl a b c:=(rfl)
@[simp] theorem aur {f:FuncId}{a b:List AV}:share (.fn f a b)=.fn f a b:=(rfl)
@[simp] theorem aq3 {n:Nat}:share (.yield n)=.yield n:=(rfl)
@[simp] theorem arq  : shareAll []=[]:=(rfl)
@[simp] theorem arx {v:AV}{r:List AV}:shareAll (v::r)=share v::shareAll r:=(by rw[jB])
@[simp] theorem av3 {x:D}:eM (.d x)=.d x:=(rfl)
@[simp] theorem avw {x:D}:nJ (.d x)=.d x:=(rfl)
@[simp] theorem avX {x:D}:AV.cells (.d x)=[.d x]:=(rfl)
@[simp] theorem aui {x:D}:au (.d x)=true:=(rfl)
@[simp] theorem auo {x:D}:qS (.d x)=au (.d x):=(rfl)
@[simp] theorem awp {x:D}:kT (.d x)=false:=(rfl)
@[simp] theorem av5 {x:D}:kJ (.d x)=false:=(rfl)
@[simp] theorem atM {x:D}:iq (.d x)=.d x:=(rfl)
@[simp] theorem aud {x:D}:gq (.d x)=.d x:=(rfl)
@[simp] theorem at4 {x:D}:f9 (.d x)=.d x:=(rfl)
@[simp] theorem auz  : eM (.nl)=.nl:=(rfl)
@[simp] theorem auu  : nJ (.nl)=.nl:=(rfl)
@[simp] theorem auJ  : AV.cells (.nl)=[.nl]:=(rfl)
@[simp] theorem asY  : au (.nl)=true:=(rfl)
@[simp] theorem avz  : kT (.nl)=false:=(rfl)
@[simp] theorem auG  : kJ (.nl)=false:=(rfl)
@[simp] theorem as5  : jO (.nl)=true:=(rfl)
@[simp] theorem as4  : ee (.nl)=true:=(rfl)
@[simp] theorem as8  : gq (.nl)=.nl:=(rfl)
@[simp] theorem as6  : f9 (.nl)=.nl:=(rfl)
@[simp] theorem atl {p:Bool}{m:Nat}{xs:List (List D)}:eM (.own p m xs)=.own false m xs:=(rfl)
@[simp] theorem atk {p:Bool}{m:Nat}{xs:List (List D)}:nJ (.own p m xs)=.own false m xs:=(rfl)
@[simp] theorem asG {p:Bool}{m:Nat}{xs:List (List D)}:AV.cells (.own p m xs)=[.own p m xs]:=(rfl)
@[simp] theorem arQ {p:Bool}{m:Nat}{xs:List (List D)}:au (.own p m xs)=!p:=(rfl)
@[simp] theorem at1 {p:Bool}{m:Nat}{xs:List (List D)}:kT (.own p m xs)=false:=(rfl)
@[simp] theorem asN {p:Bool}{m:Nat}{xs:List (List D)}:kJ (.own p m xs)=false:=(rfl)
@[simp] theorem atd {cs:List AV}:nJ (.agg cs)=.agg (cs.map eM):=(rfl)
@[simp] theorem asR {cs:List AV}:AV.cells (.agg cs)=cs:=(rfl)
@[simp] theorem ar1 {cs:List AV}:qS (.agg cs)=true:=(rfl)
@[simp] theorem asX {cs:List AV}:kJ (.agg cs)=cs.any kT:=(rfl)
@[simp] theorem atB {a b:Nat}:AV.cells (.ptr a b)=[.ptr a b]:=(rfl)
@[simp] theorem atp {a b:Nat}:S2 (.ptr a b)=some (.ptr a b):=(rfl)
@[simp] theorem au2 {a b c:Nat}:eM (.sl a b c)=.sl a b c:=(rfl)
@[simp] theorem atW {a b c:Nat}:AV.cells (.sl a b c)=[.sl a b c]:=(rfl)
@[simp] theorem ate {a b c:Nat}:qS (.sl a b c)=au (.sl a b c):=(rfl)
@[simp] theorem auU {f:FuncId}{a b:List AV}:AV.cells (.fn f a b)=[.fn f a b]:=(rfl)
@[simp] theorem atF {xs:List (List D)}:lenOf (.d (.lst xs))=some xs.length:=(rfl)
@[simp] theorem au3  : lenOf .nl=some 0:=(rfl)
@[simp] theorem asF {p:Bool}{m:Nat}{xs:List (List D)}:lenOf (.own p m xs)=some xs.length:=(rfl)
@[simp] theorem at9 {a b n:Nat}:lenOf (.sl a b n)=some n:=(rfl)
@[simp] theorem asK {h:ac}{xs:List (List D)}:elems h (.d (.lst xs))=some xs:=(rfl)
@[simp] theorem asO {h:ac}{m:Nat}{xs:List (List D)}:elems h (.own false m xs)=some xs:=(rfl)
@[simp] theorem arA {o a b:Nat}:eh o (.ptr a b)=some (.ptr a (b+o)):=(rfl)
@[simp] theorem asa {o b:Nat}{cs:List D}:eh o (.pim cs b)=some (.pim cs (b+o)):=(rfl)
@[simp] theorem awz {cs:List AV}{i:Nat}:w9 true (.tup cs) i=cs[i]?:=(by simp only[w9];cases cs[i]?<;>rfl)
@[simp] theorem axd {cs:List AV}{i:Nat}:w9 false (.tup cs) i=(cs[i]?).map share:=(by simp only[w9];cases cs[i]?<;>rfl)
@[simp] theorem awk {cs:List AV}{i:Nat}:WW (.tup cs) i=.tup (cs.set i .junk):=(rfl)
@[simp] theorem axJ {x:D}:wl (.d x)=some x:=(rfl)
@[simp] theorem awx  : wl .nl=some (.lst []):=(rfl)
@[simp] theorem avs {m:Nat}{xs:List (List D)}:wl (.own false m xs)=some (.lst xs):=(rfl)
@[simp] theorem awY  : hU []=some []:=(rfl)
@[simp] theorem awP {v:AV}{r:List AV}:hU (v::r)=bA (wl v) fun x=>bA (hU r) fun xs=>some (x::xs):=(by
 simp only[hU]
 cases wl v with
 | none=>rfl
 | some q=>simp only[bA];cases hU r<;>rfl)
@[simp] theorem atz {m:Nat}:dX m []=some []:=(rfl)
@[simp] theorem as7 {m:Nat}{v:AV}{r:List AV}:dX m (v::r)=if v.cells.length=m then bA (hU v.cells) fun x=>bA (dX m r) fun xs=>some (x::xs) else none:=(by
 by_cases h:v.cells.length=m
 ·simp only[dX,adW,h,decide_true,if_true]
  cases hU v.cells with
  | none=>rfl
  | some q=>simp only[bA];cases dX m r<;>rfl
 ·simp only[dX,adW,h,decide_false,if_false])
@[simp] theorem aq6 {cs:List AV}:ez cs []=some cs:=(rfl)
@[simp] theorem aq8 {cs:List AV}{o n:Nat}{v:AV}{r:List (Nat×Nat×AV)}:ez cs ((o,n,v)::r)=if v.cells.length=n∧qS v=true∧o+n≤cs.length then ez (ai cs o v.cells) r else none:=(by
 simp only[ez,adW,VV]
 by_cases h:v.cells.length=n<;>by_cases h2:qS v=true<;>by_cases h3:o+n≤cs.length<;>simp[h,h2,h3])
theorem Gk {α:Type}{cs vs:List α}{o:Nat}:ai cs o vs=cs.take o++vs++cs.drop (o+vs.length):=(rfl)
attribute [simp] Gk
theorem aid {α:Type}{cs:List α}{o n:Nat}:sub cs o n=(cs.drop o).take n:=(rfl)
attribute [simp] aid
@[simp] theorem atu {h:ac}{x:D}:viewOne h (.d x)=some (.d x):=(rfl)
@[simp] theorem arO {h:ac}:viewOne h .nl=some .nl:=(rfl)
@[simp] theorem aq4 {h:ac}{m:Nat}{xs:List (List D)}:viewOne h (.own false m xs)=some (.d (.lst xs)):=(rfl)
@[simp] theorem atv {h:ac}:viewAll h []=some []:=(rfl)
@[simp] theorem atg {h:ac}{v:AV}{r:List AV}:viewAll h (v::r)=bA (viewOne h v) fun x=>bA (viewAll h r) fun xs=>some (x::xs):=(by
 simp only[viewAll]
 cases viewOne h v with
 | none=>rfl
 | some q=>simp only[bA];cases viewAll h r<;>rfl)
@[simp] theorem asW {h:ac}{x:D}:viewArg h (.d x)=viewOne h (.d x):=(rfl)
@[simp] theorem arj {h:ac}  : viewArg h (.nl)=viewOne h (.nl):=(rfl)
@[simp] theorem arb {h:ac}{p:Bool}{m:Nat}{xs:List (List D)}:viewArg h (.own p m xs)=viewOne h (.own p m xs):=(rfl)
@[simp] theorem aq5 {h:ac}{cs:List AV}:viewArg h (.agg cs)=bA (viewAll h cs) fun xs=>some (.agg xs):=(by simp only[viewArg];cases viewAll h cs<;>rfl)
@[simp] theorem ar8 {h:ac}:viewArgs h []=some []:=(rfl)
@[simp] theorem arN {h:ac}{v:AV}{r:List AV}:viewArgs h (v::r)=bA (viewArg h v) fun x=>bA (viewArgs h r) fun xs=>some (x::xs):=(by
 simp only[viewArgs]
 cases viewArg h v with
 | none=>rfl
 | some q=>simp only[bA];cases viewArgs h r<;>rfl)
@[simp] theorem au9 {h:ac}{x:D}:eZ h (.d x)=some (.d x,h):=(rfl)
@[simp] theorem asT {h:ac}:eZ h .nl=some (.nl,h):=(rfl)
@[simp] theorem aro {h:ac}{p:Bool}{m:Nat}{xs:List (List D)}:eZ h (.own p m xs)=some (.own p m xs,h):=(rfl)
@[simp] theorem aua {h:ac}:i5 h []=some ([],h):=(rfl)
@[simp] theorem aul {h:ac}{v:AV}{r:List AV}:i5 h (v::r)=bP (eZ h v) fun x h=>bP (i5 h r) fun xs h=>some (x::xs,h):=(by simp only[i5];cases eZ h v with
 | none=>rfl
 | some q=>simp only[bP];cases i5 q.2 r<;>rfl)
@[simp] theorem arX {h:ac}{cs:List AV}:dB h (.agg cs)=bP (i5 h cs) fun xs h=>some (.agg xs,h):=(by simp only[dB];cases i5 h cs<;>rfl)
@[simp] theorem auY {h:ac}{x:D}:dB h (.d x)=eZ h (.d x):=(rfl)
@[simp] theorem atf {h:ac}  : dB h (.nl)=eZ h (.nl):=(rfl)
@[simp] theorem ar3 {h:ac}{p:Bool}{m:Nat}{xs:List (List D)}:dB h (.own p m xs)=eZ h (.own p m xs):=(rfl)
@[simp] theorem asS {h:ac}:j7 h []=some ([],h):=(rfl)
@[simp] theorem asJ {h:ac}{v:AV}{r:List AV}:j7 h (v::r)=bP (dB h v) fun x h=>bP (j7 h r) fun xs h=>some (x::xs,h):=(by simp only[j7];cases dB h v with
 | none=>rfl
 | some q=>simp only[bP];cases j7 q.2 r<;>rfl)
@[simp] theorem arF {h:ac}{cs:List AV}:d9 h (.tup cs)=bP (j7 h cs) fun xs _=>some (df (.tup xs)):=(by simp only[d9];cases j7 h cs<;>rfl)
@[simp] theorem at7 {h:ac}{x:D}:d9 h (.d x)=bP (dB h (.d x)) fun x _=>some (df x):=(by simp only[d9];cases dB h (.d x)<;>rfl)
@[simp] theorem asU {h:ac}  : d9 h (.nl)=bP (dB h (.nl)) fun x _=>some (df x):=(by simp only[d9];cases dB h (.nl)<;>rfl)
@[simp] theorem asu {h:ac}{p:Bool}{m:Nat}{xs:List (List D)}:d9 h (.own p m xs)=bP (dB h (.own p m xs)) fun x _=>some (df x):=(by simp only[d9];cases dB h (.own p m xs)<;>rfl)
@[simp] theorem asc {h:ac}{cs:List AV}:d9 h (.agg cs)=bP (dB h (.agg cs)) fun x _=>some (df x):=(by simp only[d9];cases dB h (.agg cs)<;>rfl)
@[simp] theorem as9 {v:AV}:df v=if ee v=true then f9 v else v:=(by simp only[df];cases ee v<;>rfl)
@[simp] theorem atK {x:D}:io (.d x)=jG x:=(rfl)
@[simp] theorem asQ {k:IntKind}{n:Int}:jG (.int k n)=true:=(rfl)
@[simp] theorem ar7 {b:Bool}:jG (.bool b)=true:=(rfl)
@[simp] theorem asC {cs:List AV}:jO (.agg cs)=cs.all io:=(rfl)
@[simp] theorem auC {x:D}:jO (.d x)=jG x:=(rfl)
@[simp] theorem asg {p:Bool}{m:Nat}{xs:List (List D)}:jO (.own p m xs)=xs.all fun e=>e.all jG:=(rfl)
@[simp] theorem asx {cs:List AV}:ee (.agg cs)=cs.all io:=(rfl)
@[simp] theorem auD {x:D}:ee (.d x)=jG x:=(rfl)
@[simp] theorem arf {p:Bool}{m:Nat}{xs:List (List D)}:ee (.own p m xs)=xs.all fun e=>e.all jG:=(rfl)
@[simp] theorem arn {cs:List AV}:ee (.tup cs)=cs.all jO:=(rfl)
@[simp] theorem ar4 {p:Bool}{m:Nat}{xs:List (List D)}:iq (.own p m xs)=.own true m xs:=(rfl)
@[simp] theorem arD {p:Bool}{m:Nat}{xs:List (List D)}:gq (.own p m xs)=.own true m xs:=(rfl)
@[simp] theorem arp {p:Bool}{m:Nat}{xs:List (List D)}:f9 (.own p m xs)=.own true m xs:=(rfl)
@[simp] theorem ar2 {cs:List AV}:gq (.agg cs)=.agg (cs.map iq):=(rfl)
@[simp] theorem asq {cs:List AV}:f9 (.agg cs)=.agg (cs.map iq):=(rfl)
@[simp] theorem aru {cs:List AV}:f9 (.tup cs)=.tup (cs.map gq):=(rfl)
@[simp] theorem avQ {i:Nat}:dW i []=[]:=(rfl)
@[simp] theorem avS {i:Nat}{v:AV}{r:List AV}:dW i (v::r)=(i,v)::dW (i+1) r:=by
 have h:∀ (i:Nat) (r:List AV),put (dW (i+1) r) i v=(i,v)::dW (i+1) r:=fun i r=>by
  have:∃ q,dW (i+1) r=q∧∀ p∈q,Nat.blt i p.1=true:=⟨_,rfl,by
   have aux:∀ (r:List AV) (j:Nat),i<j→∀ p∈dW j r,Nat.blt i p.1=true:=by
    intro r
    induction r with
    | nil=>intro j hj p hp;simp[dW]at hp
    | cons w r ih =>
     intro j hj p hp
     simp only[dW]at hp
     rcases Zi hp with rfl | hp
     ·rw[Nat.blt,Nat.ble_eq];exact hj
     ·exact ih (j+1) (by omega) p hp
   exact aux r (i+1) (by omega)⟩
  obtain⟨q,hq,hp⟩:=this
  rw[hq]
  cases q with
  | nil=>rfl
  | cons p q =>
   obtain⟨k,u⟩:=p
   have hk:i<k:=by have:=hp _ (.head _);rw[Nat.blt,Nat.ble_eq]at this;exact this
   rw[kD,if_neg (by omega),if_pos (by omega)]
 exact h i r
@[simp] theorem atj {st:St}:cH st []=some ([],st):=(rfl)
def al0 (x:Option AV) (t:Nat) (st:St) (r:List lU):Option (List AV×St) :=
 match x with
 | some v=>bP (cH ⟨del st.env t,st.hs⟩ r) fun vs st=>some (v::vs,st)
 | none=>none
@[simp] theorem atn {t:Nat}{st:St}{r:List lU}:cH st (.tmp t::r)=al0 (get st.env t) t st r:=(by
 simp only[cH,al0]
 cases get st.env t with
 | none=>rfl
 | some v=>simp only;cases cH ⟨del st.env t,st.hs⟩ r<;>rfl)
@[simp] theorem aw9 {v:AV}{t:Nat}{e:ak}{hs:HS}{r:List lU}:al0 (some v) t ⟨e,hs⟩ r=bP (cH ⟨del e t,hs⟩ r) fun vs st=>some (v::vs,st):=(rfl)
def ala (x:Option AV) (t:Nat) (n:Option Nat) (st:St) (r:List lU):Option (List AV×St) :=
 match x with
 | some (.ptr id 0)=>bP (loadAt st.hs.heap n 1 (.ptr id 0)) fun v h=>bP (cH ⟨del st.env t,⟨del h id,st.hs.next⟩⟩ r) fun vs st=>some (v::vs,st)
 | _=>none
@[simp] theorem atc {t:Nat}{n:Option Nat}{st:St}{r:List lU}:cH st (.cell t n::r)=ala (get st.env t) t n st r:=(by
 simp only[cH,ala]
 cases get st.env t with
 | none=>rfl
 | some v =>
  cases v<;>try rfl
  rename_i id off
  cases off with
  | succ k=>rfl
  | zero =>
   simp only
   cases loadAt st.hs.heap n 1 (.ptr id 0) with
   | none=>rfl
   | some q=>simp only[bP];cases cH _ r<;>rfl)
@[simp] theorem awW {id t:Nat}{n:Option Nat}{e:ak}{hs:HS}{r:List lU}:ala (some (.ptr id 0)) t n ⟨e,hs⟩ r=bP (loadAt hs.heap n 1 (.ptr id 0)) fun v h=>bP (cH ⟨del e t,⟨del h id,hs.next⟩⟩ r) fun vs st=>some (v::vs,st):=(rfl)
theorem akp {l:List Int}:((aI l).all fun e=>e.all jG)=true:=by simp[aI]
theorem akf {l:List Nat}:((ah l).all fun e=>e.all jG)=true:=by simp[ah]
theorem ah4 {l:List Bool}:((KN l).all fun e=>e.all jG)=true:=by simp[KN]
attribute [simp] akp akf ah4
attribute [simp] aj0
attribute [simp] aql apn aqj aqR
end Go.Vm
namespace Go.Vm
variable {P:Nat→Option af}
inductive R (α:Type) where
 | ok (v:α) (n:Nat)
 | er (e:Nat)
open Classical in
def rK {α γ:Type}(p:α→Nat→Prop) (r:R α) (f:α→Nat→γ) (g:Nat→γ):γ :=
 match r with
 | .ok v n=>if p v n then f v n else g 0
 | .er e=>g e
theorem arS {α γ:Type}{p q:α→Nat→Prop}{r:R α}{f f2:α→Nat→γ}{g g2:Nat→γ}(hp:∀ v n,p v n=q v n) (h:∀ v n,q v n→f v n=f2 v n) (k:∀ e,g e=g2 e):rK p r f g=rK q r f2 g2:=by
 have:p=q:=funext fun v=>funext fun n=>hp v n
 subst this
 cases r with
 | ok v n =>
  simp only[rK]
  split
  ·exact h _ _ ‹_›
  ·exact k 0
 | er e=>exact k e
attribute [congr] arS
theorem aiQ {α γ δ:Type}{p:α→Nat→Prop}{r:R α}{f:α→Nat→γ}{g:Nat→γ}(k:γ→δ):k (rK p r f g)=rK p r (fun v n=>k (f v n)) fun e=>k (g e):=by
 cases r with
 | ok v n=>simp only[rK];split<;>rfl
 | er e=>rfl
section
variable {α:Type}{p:α→Nat→Prop}{r:R α}
end
theorem ano {α:Type}{a b:Prop}[Decidable a] [Decidable b] {x y:α}(h:b↔¬ a):(if a then x else y)=if b then y else x:=by
 by_cases ha:a
 ·rw[if_pos ha,if_neg (fun hb=>h.1 hb ha)]
 ·rw[if_neg ha,if_pos (h.2 ha)]
theorem aiH {α:Type}{a b:Prop}[Decidable a] [Decidable b] {x y:α}(h:a↔b):(if a then x else y)=if b then x else y:=by
 by_cases ha:a
 ·rw[if_pos ha,if_pos (h.1 ha)]
 ·rw[if_neg ha,if_neg (fun hb=>ha (h.2 hb))]
def cellsOf:Obj→Option (List AV)
 | .cells cs=>some cs
 | _=>none
def ahz:Obj→Option (List (List D))
 | .arr _ xs=>some xs
 | _=>none
@[simp ↓] theorem atx {cs:List AV}:cellsOf (.cells cs)=some cs:=(rfl)
@[simp ↓] theorem avm {m:Nat}{xs:List (List D)}:ahz (.arr m xs)=some xs:=(rfl)
@[simp] theorem avl {h:ac}{id off:Nat}:oc h none (.ptr id off)=bA (get h id) fun o=>bA (cellsOf o) fun cs=>bA cs[off]? fun v=>some (share v):=by
 simp only[oc,loadAt]
 cases get h id with
 | none=>rfl
 | some o =>
  cases o<;>try rfl
  rename_i cs
  simp only[bA,cellsOf]
  cases cs[off]?<;>rfl
@[simp] theorem avb {h:ac}{id off n:Nat}:oc h (some n) (.ptr id off)=bA (get h id) fun o=>bA (cellsOf o) fun cs=>dg (Nat.ble (off+n) cs.length) (some (.agg (shareAll (sub cs off n)))):=by
 simp only[oc,loadAt]
 cases get h id with
 | none=>rfl
 | some o =>
  cases o<;>try rfl
  rename_i cs
  simp only[bA,cellsOf]
  cases Nat.ble (off+n) cs.length<;>rfl
@[simp] theorem arG {h:ac}{id off t:Nat}:loadAt h none (t+1) (.ptr id off)=bA (get h id) fun o=>bA (cellsOf o) fun cs=>bA cs[off]? fun v=>some ((jC (t+1) v).1,put h id (.cells (cs.set off (jC (t+1) v).2))):=by
 simp only[loadAt]
 cases get h id with
 | none=>rfl
 | some o =>
  cases o<;>try rfl
  rename_i cs
  simp only[bA,cellsOf]
  cases cs[off]?<;>rfl
@[simp] theorem aq1 {h:ac}{id off n t:Nat}:loadAt h (some n) (t+1) (.ptr id off)=bA (get h id) fun o=>bA (cellsOf o) fun cs=>dg (Nat.ble (off+n) cs.length) (some (.agg (ck (t+1) (sub cs off n)).1,put h id (.cells (ai cs off (ck (t+1) (sub cs off n)).2)))):=by
 simp only[loadAt]
 cases get h id with
 | none=>rfl
 | some o =>
  cases o<;>try rfl
@[simp] theorem ara {h:ac}{id off n:Nat}{x:AV}:storeAt h n (.ptr id off) x=dg (Nat.beq x.cells.length n) (bA (get h id) fun o=>bA (cellsOf o) fun cs=>dg (Nat.ble (off+n) cs.length && x.cells.all au) (some (put h id (.cells (ai cs off x.cells))))):=by
 simp only[storeAt]
 cases Nat.beq x.cells.length n with
 | false=>rfl
 | true =>
  simp only[dg]
  cases get h id with
  | none=>rfl
  | some o =>
   cases o<;>try rfl
@[simp ↓] theorem Wx {β:Type}{a b:Nat}{x:Option β}:dg (Nat.ble a b) x=if a≤b then x else none:=by
 rw[VV];by_cases h:a≤b<;>simp[h]
@[simp ↓] theorem agl {β:Type}{a b:Nat}{x:Option β}:dg (Nat.beq a b) x=if a=b then x else none:=by
 rw[adW];by_cases h:a=b<;>simp[h]
@[simp ↓] theorem agf {β:Type}{a b:Bool}{x:Option β}:dg (a && b) x=dg a (dg b x):=by
 cases a<;>cases b<;>rfl
attribute [simp] jC ck sub ai au
def scK (P:Nat→Option af) (a:VC) (x:Option (aU×St)):Option (aU×St) :=
 match x with
 | some (.goto l,st)=>match j2 a l with
  | some rest=>(Dn P).code (.inScope a rest) st
  | none=>some (.goto l,st)
 | x=>x
@[simp ↓] theorem ass {a:VC}{st:St}:(Dn P).code (.scope a) st=(Dn P).code (.inScope a a) st:=by rw[dZ];rfl
theorem anH {a c:VC}{st:St}:(Dn P).code (.inScope a c) st=scK P a ((Dn P).code c st):=by
 rw[dZ];rfl
@[simp ↓] theorem axE {a:VC}{st:St}:scK P a (some (.ret,st))=some (.ret,st):=(rfl)
theorem apz {a:VC}{x y:Option (aU×St)}(h:x=y):scK P a x=scK P a y:=by rw[h]
attribute [congr] apz
theorem EX {f:FuncId}{args:List AV}{v:AV}(n:Nat) (h:tF ((run P n).call f args ⟨[],0⟩)=some v):aL P f args=some v:=by
 cases hx:(run P n).call f args ⟨[],0⟩ with
 | none=>rw[hx]at h;simp[tF]at h
 | some q=>rw[hx]at h;rw[aL,Pu hx,h]
theorem zT {α:Type}{f:FuncId}{a:α→List AV}{v:α→AV}(n:Nat) (l:List α) (h:(l.map fun x=>tF ((run P n).call f (a x) ⟨[],0⟩))=l.map fun x=>some (v x)) (x:α) (hx:x∈l):aL P f (a x)=some (v x) :=
 EX n (List.map_inj_left.1 h x hx)
def bl (l:List Nat):List (List D):=l.map fun n=>[.int .i64 (n:Nat)]
@[simp] theorem auL {l:List Nat}:(bl l).length=l.length:=by simp[bl]
@[simp] theorem Gu {l:List Nat}{i:Nat}(h:i<l.length):(bl l)[i]?=some [.int .i64 (nth l i:Nat)]:=by simp[bl,qD h]
@[simp high] theorem aq7 {p:Bool}{m:Nat}{l:List Nat}:io (.own p m (bl l))=true:=by simp[io,bl,jG]
@[simp high] theorem NE {p:Bool}{m:Nat}{l:List Nat}:io (.own p m (ah l))=true:=by simp[io,ah,jG]
@[simp high] theorem aq2 {p:Bool}{m:Nat}{l:List Nat}:jO (.own p m (ah l))=true:=NE (p:=p) (m:=m)
@[simp high] theorem ard {p:Bool}{m:Nat}{l:List Nat}:ee (.own p m (ah l))=true:=NE (p:=p) (m:=m)
@[simp] theorem as0 {a:List Int}{x:Int}:aI a++[[.int .i64 x]]=aI (a++[x]):=by simp[aI]
@[simp] theorem acD {a b:List Nat}:ah a++ah b=ah (a++b):=by simp[ah]
@[simp] theorem asZ {a:List Nat}{x:Nat}:ah a++[[.int .u8 (x:Int)]]=ah (a++[x]):=by simp[ah]
@[simp] theorem awG {k:IntKind}{a b:Int}:tS true [.d (.int k a),.d (.int k b)]=if a<b then some (.d (.int k b)) else some (.d (.int k a)):=by
 have:iu k k=true:=by cases k<;>rfl
 simp only[tS,nb,ur,this]
 by_cases h:a<b<;>simp[h]
@[simp] theorem awA {k:IntKind}{a b:Int}:tS false [.d (.int k a),.d (.int k b)]=if b<a then some (.d (.int k b)) else some (.d (.int k a)):=by
 have:iu k k=true:=by cases k<;>rfl
 simp only[tS,nb,ur,this]
 by_cases h:b<a<;>simp[h]
def iaO (o:Obj) (n id j:Nat):Option AV :=
 match o with
 | .arr m _=>dg (Nat.beq m n) (some (.pel id j 0))
 | .cells _=>dg (Nat.beq n 1) (some (.ptr id j))
 | _=>none
@[simp ↓] theorem axC {m n id j:Nat}{xs:List (List D)}:iaO (.arr m xs) n id j=dg (Nat.beq m n) (some (.pel id j 0)):=(rfl)
@[simp ↓] theorem axI {n id j:Nat}{cs:List AV}:iaO (.cells cs) n id j=dg (Nat.beq n 1) (some (.ptr id j)):=(rfl)
@[simp] theorem axi {h:ac}{n id off len:Nat}{k:IntKind}{i:Int}(h0:0≤i) (h1:i.toNat<len):iaV h n (.sl id off len) (.d (.int k i))=bA (get h id) fun o=>iaO o n id (off+i.toNat):=by
 have:Nat.ble len i.toNat=false:=by rw[VV];simp;omega
 simp only[iaV,WB h0,this]
 cases get h id with
 | none=>rfl
 | some o =>
  cases o with
  | cells cs=>simp only[bA,iaO];cases Nat.beq n 1<;>rfl
  | arr m xs=>simp only[bA,iaO];cases Nat.beq m n<;>rfl
  | loop=>rfl
@[simp] theorem avF {h:ac}{id i off:Nat}{n:Option Nat}:oc h n (.pel id i off)=bA (get h id) fun o=>bA (ahz o) fun xs=>bA xs[i]? fun x=>iR n x off:=by
 simp only[oc,loadAt]
 cases get h id with
 | none=>rfl
 | some o =>
  cases o<;>try rfl
  rename_i m xs
  simp only[bA,ahz]
  cases xs[i]? with
  | none=>rfl
  | some x=>simp only;cases iR n x off<;>rfl
def stO (o:Obj) (h:ac) (n id i off:Nat) (ds:List D):Option ac :=
 match o with
 | .arr m xs=>bA xs[i]? fun e=>dg (Nat.ble (off+n) e.length) (some (put h id (.arr m (xs.set i (ai e off ds)))))
 | _=>none
@[simp ↓] theorem axL {h:ac}{m n id i off:Nat}{ds:List D}{xs:List (List D)}:stO (.arr m xs) h n id i off ds=bA xs[i]? fun e=>dg (Nat.ble (off+n) e.length) (some (put h id (.arr m (xs.set i (ai e off ds))))):=(rfl)
@[simp] theorem aq9 {h:ac}{id i off n:Nat}{x:AV}:storeAt h n (.pel id i off) x=dg (Nat.beq x.cells.length n) (bA (hU x.cells) fun ds=>bA (get h id) fun o=>stO o h n id i off ds):=by
 simp only[storeAt]
 cases Nat.beq x.cells.length n with
 | false=>rfl
 | true =>
  simp only[dg]
  cases hU x.cells with
  | none=>rfl
  | some ds =>
   simp only[bA]
   cases get h id with
   | none=>rfl
   | some o =>
    cases o<;>try rfl
    rename_i m xs
    simp only[stO]
    cases xs[i]? with
    | none=>rfl
    | some e=>simp only[bA];cases Nat.ble (off+n) e.length<;>rfl
@[simp] theorem aji {l:List Int}{i:Nat}:(aI l).take i=aI (l.take i):=by simp[aI]
@[simp] theorem akd {l:List Int}{i:Nat}:(aI l).drop i=aI (l.drop i):=by simp[aI]
@[simp] theorem atq {l:List Nat}{i:Nat}:(bl l).take i=bl (l.take i):=by simp[bl]
@[simp] theorem auq {l:List Nat}{i:Nat}{x:Nat}:(bl l).set i [.int .i64 (x:Int)]=bl (l.set i x):=by simp[bl,List.map_set]
attribute [simp] Je
@[simp] theorem awD {m:Nat}{h:ac}{a b:AV}:V4 m h a b=bA (elems h b) fun ys=>dg (cq m ys) (bF m h a ys):=by
 simp only[V4]
 cases elems h b with
 | none=>rfl
 | some ys=>simp only[bA];cases cq m ys<;>rfl
@[simp] theorem agQ {m k:Nat}{p:Bool}{h:ac}{xs ys:List (List D)}:bF m h (.own p k xs) ys=dg (Nat.ble ys.length aF) (dg (Nat.beq k m && Nat.ble (xs.length+ys.length) aF) (some (.own false m (xs++ys),h))):=by
 simp only[bF]
 cases Nat.ble ys.length aF with
 | false=>rfl
 | true=>simp only[dg];cases Nat.beq k m && Nat.ble (xs.length+ys.length) aF<;>rfl
@[simp] theorem avE {m:Nat}{h:ac}:bF m h .nl []=some (.nl,h):=(rfl)
@[simp] theorem an8 {m:Nat}{h:ac}{y:List D}{r:List (List D)}:bF m h .nl (y::r)=dg (Nat.ble (r.length+1) aF) (some (.own true m (y::r),h)):=by
 simp only[bF,List.length_cons]
 cases Nat.ble (r.length+1) aF<;>rfl
def ak1 (o:Obj) (m:Nat) (h:ac) (id off len:Nat) (ys:List (List D)):Option (AV×ac) :=
 match o with
 | .arr k xs=>dg (Nat.beq k m && Nat.ble (off+len) xs.length && Nat.ble (len+ys.length) aF) (some (.own true m (sub xs off len++ys),del h id))
 | _=>none
@[simp ↓] theorem awB {k m id off len:Nat}{h:ac}{xs ys:List (List D)}:ak1 (.arr k xs) m h id off len ys=dg (Nat.beq k m && Nat.ble (off+len) xs.length && Nat.ble (len+ys.length) aF) (some (.own true m (sub xs off len++ys),del h id)):=(rfl)
@[simp] theorem awZ {m id off len:Nat}{h:ac}{ys:List (List D)}:bF m h (.sl id off len) ys=dg (Nat.ble ys.length aF) (bA (get h id) fun o=>ak1 o m h id off len ys):=by
 simp only[bF]
 cases Nat.ble ys.length aF with
 | false=>rfl
 | true =>
  simp only[dg]
  cases get h id with
  | none=>rfl
  | some o =>
   cases o with
   | arr k xs=>simp only[bA,ak1];cases Nat.beq k m && Nat.ble (off+len) xs.length && Nat.ble (len+ys.length) aF<;>rfl
   | cells cs=>rfl
   | loop=>rfl
attribute [simp] aF
theorem Kz {α:Type}{f:α→D}:∀ {l:List α},cq 1 (l.map fun x=>[f x])=true
 | []=>rfl
 | x::r=>by simp only[List.map_cons,cq,List.length_cons,List.length_nil];exact Kz
@[simp] theorem aus {l:List Int}:cq 1 (aI l)=true:=Kz
@[simp] theorem auy {l:List Nat}:cq 1 (ah l)=true:=Kz
@[simp] theorem axN {m:Nat}:cq m []=true:=(rfl)
@[simp] theorem axl {m:Nat}{x:List D}{r:List (List D)}:cq m (x::r)=(Nat.beq x.length m && cq m r):=by
 simp only[cq];cases Nat.beq x.length m<;>rfl
mutual
theorem ael:∀ d:D,Hj d d=true
 | .int k n=>by simp[Hj,NP]
 | .bool b=>by simp[Hj]
 | .str s=>by simp[Hj]
 | .lst xs=>by rw[Hj];exact eqDss_self xs
theorem Kp:∀ l:List D,Iz l l=true
 | []=>rfl
 | a::r=>by rw[Iz,ael a,Kp r];rfl
theorem eqDss_self:∀ l:List (List D),eqDss l l=true
 | []=>rfl
 | a::r=>by rw[eqDss,Kp a,eqDss_self r];rfl
end
mutual
theorem ajM:∀ v:AV,dT v v=true
 | .junk=>by simp[dT]
 | .d x=>by simp[dT,ael]
 | .nl=>by simp[dT]
 | .own p m xs=>by simp[dT,eqDss_self]
 | .gl n=>by simp[dT]
 | .agg a=>by rw[dT];exact eqAVs_self a
 | .tup a=>by rw[dT];exact eqAVs_self a
 | .nilp=>by simp[dT]
 | .ptr a b=>by simp[dT]
 | .pel a b c=>by simp[dT]
 | .pim a b=>by simp[dT,Kp]
 | .sl a b c=>by simp[dT]
 | .fn f a c=>by rw[dT,eqAVs_self a,eqAVs_self c];simp
 | .nilf=>by simp[dT]
 | .yield a=>by simp[dT]
theorem eqAVs_self:∀ l:List AV,eqAVs l l=true
 | []=>by rw[eqAVs]
 | a::r=>by rw[eqAVs,ajM a,eqAVs_self r];rfl
end
@[simp] theorem axn {a:List AV}:eqO (.cells a) (.cells a)=true:=by rw[eqO];exact eqAVs_self a
@[simp] theorem avo {h k:ac}:jS [] h k=true:=(rfl)
@[simp] theorem avt {i:Nat}{r:List Nat}{h k:ac}:jS (i::r) h k=((match get h i with
  | some o=>(match get k i with | some o'=>eqO o o' | none=>false)
  | none=>true) && jS r h k):=(rfl)
@[simp] theorem av6 {h:ac}:eK [] h=[]:=(rfl)
@[simp] theorem avG {i:Nat}{r:List Nat}{h:ac}:eK (i::r) h=match get h i with
  | some o=>put (eK r h) i o
  | none=>eK r h:=(rfl)
attribute [simp] DS rT idsAll
attribute [simp] bE jY ig iQ
end Go.Vm
namespace Go.Vm
variable {P:Nat→Option af}{l:List VI}{e:ak}{h:ac}{m d s:Nat}{op:jq}{hs:HS}{β:Type}{k:AV→ak→HS→Option β}
abbrev V (d:Nat) (op:jq):VI:=⟨some d,none,op,[]⟩
abbrev N (op:jq):VI:=⟨none,none,op,[]⟩
abbrev W (s d:Nat) (op:jq):VI:=⟨some d,some (s,true),op,[]⟩
abbrev U (s d:Nat) (op:jq):VI:=⟨some d,some (s,false),op,[]⟩
theorem aoL {e e2:ak}{hs hs2:HS}(h:e=e2) (h2:hs=hs2):bT P l e hs=bT P l e2 hs2:=by rw[h,h2]
attribute [congr] aoL
@[simp ↓ low] theorem asI {i:VI}:(Dn P).code (.reg false (i::l)) ⟨e,hs⟩=ca (bT P (i::l) e hs):=vE rfl
@[simp ↓ low] theorem as3 {i:VI}:(Dn P).code (.reg true (i::l)) ⟨e,hs⟩=ca (bT P (i::l) e hs):=vE rfl
@[simp] theorem awR:bT P [] e hs=some ⟨e,hs⟩:=(rfl)
@[simp] theorem awt:bT P (⟨some d,none,op,[]⟩::l) e hs=aH P op e hs fun v e hs=>bT P l (put e d (firm v)) hs:=(rfl)
@[simp] theorem awQ:bT P (⟨none,none,op,[]⟩::l) e hs=aH P op e hs fun _ e hs=>bT P l e hs:=(rfl)
@[simp] theorem awF {t:Nat×Nat}{th:List (Nat×Nat)}:bT P (⟨some d,none,op,t::th⟩::l) e hs=aH P op e hs fun v e hs=>lP (bE (t::th) v hs) fun v hs=>bT P l (put e d (firm v)) hs:=(rfl)
def wK {β:Type}(a b:Bool) (x y z:Option β):Option β :=
 match a with
 | true=>x
 | false=>match b with
  | true=>y
  | false=>z
@[simp ↓] theorem ax3 {b:Bool}{x y z:Option β}:wK true b x y z=x:=(rfl)
@[simp ↓] theorem axR {x y z:Option β}:wK false true x y z=y:=(rfl)
theorem arR {a a2 b b2:Bool}{x y z:Option β}(h:a=a2) (h2:b=b2):wK a b x y z=wK a2 b2 x y z:=by rw[h,h2]
attribute [congr] arR
@[simp] theorem aw8 {w:Bool}:bT P (⟨some d,some (s,w),op,[]⟩::l) e hs=wK (bu op) (qY op)
  (bA (get e s) fun g=>bA (gV g w (aH P op e hs fun v _ _=>some v)) fun v=>bT P l (put e d (firm v)) hs)
  (bA (get e s) fun g=>bP (gH g w hs (aH P op e hs fun v _ hs=>some (v,hs))) fun v hs=>bT P l (put e d (firm v)) hs)
  (bA (aT (Dn P) ⟨some d,some (s,w),op,[]⟩ ⟨e,hs⟩) fun st=>bT P l st.env st.hs):=by
 simp only[bT,cvi,wK]
 cases bu op<;>cases qY op<;>(try rfl)<;>(cases get e s<;>rfl)
@[simp] theorem axq {i:Nat}:aG (.s i)=true:=(rfl)
@[simp] theorem axB {a:AV}:aG (.c a)=true:=(rfl)
@[simp] theorem awH:dP []=true:=(rfl)
@[simp] theorem awo {x:Rd}{r:List Rd}:dP (x::r)=(aG x && dP r):=(rfl)
@[simp] theorem awX {x:Rd}:bu (.mov x)=aG x:=(rfl)
@[simp] theorem axj {x:Rd}{n:Option Nat}:bu (.ld n 0 x)=aG x:=(rfl)
@[simp] theorem aww {x:Rd}:bu (.nilck x)=aG x:=(rfl)
@[simp] theorem aw7 {x y:Rd}{o:BinOp}:bu (.bin o x y)=(aG x && aG y):=(rfl)
@[simp] theorem avT {x y:Rd}{o:Bool}:bu (.binb o x y)=(aG x && aG y):=(rfl)
@[simp] theorem axs {x:Rd}{o:UnOp}:bu (.un o x)=aG x:=(rfl)
@[simp] theorem axM {x:Rd}{o:Nat}:bu (.fa o x)=aG x:=(rfl)
@[simp] theorem axH {x y:Rd}{o:Nat}:bu (.ia o x y)=(aG x && aG y):=(rfl)
@[simp] theorem av9 {x y:Rd}{o n:Nat}:bu (.iarr o n x y)=(aG x && aG y):=(rfl)
@[simp] theorem awr {x:Rd}:bu (.len x)=aG x:=(rfl)
@[simp] theorem awd {f:FuncId}{xs:List Rd}:bu (.call f xs)=dP xs:=(rfl)
@[simp] theorem avO {c x y:Rd}:bu (.pick c x y)=(aG c && aG x && aG y):=(rfl)
@[simp] theorem awf {f:FuncId}{xs ys:List Rd}:bu (.mkfn f xs ys)=(dP xs && dP ys):=(rfl)
@[simp] theorem avi {f:FuncId}{xs:List Rd}:bu (.calli f xs)=false:=(rfl)
@[simp] theorem auE {x:Rd}{xs:List Rd}:bu (.callv x xs)=false:=(rfl)
@[simp] theorem atO {f:FuncId}{xs:List Rd}:qY (.calli f xs)=dP xs:=(rfl)
@[simp] theorem auI {x:Rd}{xs:List Rd}:qY (.callv x xs)=(aG x && dP xs):=(rfl)
attribute [simp] iP jX
def DM {γ:Type}(c:Prop) [Decidable c] (a b:γ):γ:=if c then a else b
theorem anB {γ:Type}{c d:Prop}[Decidable c] [i:Decidable d] {a b:γ}(h:c=d):DM c a b=@DM γ d i a b:=by subst h;congr
attribute [congr] anB
@[simp ↓] theorem aw1 {γ:Type}{i:Decidable True}{a b:γ}:@DM γ True i a b=a:=by simp only[DM,if_true]
@[simp ↓] theorem awV {γ:Type}{i:Decidable False}{a b:γ}:@DM γ False i a b=b:=by simp only[DM,if_false]
@[simp high] theorem ax1 {k i:Nat}{v:AV}{r:ak}:get ((k,v)::r) i=DM (k=i) (some v) (get r i):=apM
@[simp high] theorem axU {k i:Nat}{v x:AV}{r:ak}:put ((k,v)::r) i x=DM (k=i) ((i,x)::r) (DM (i≤k) ((i,x)::(k,v)::r) ((k,v)::put r i x)):=put1
@[simp high] theorem axZ {k i:Nat}{v:AV}{r:ak}:del ((k,v)::r) i=DM (k=i) (del r i) ((k,v)::del r i):=apw
variable {f:AV→ak→Option β}{x:Rd}
@[simp ↓] theorem axx {i:Nat}:aR e (.s i) f=bA (get e i) fun v=>f (share v) e:=by
 simp only[aR,rd,bA];cases get e i<;>rfl
@[simp ↓] theorem axK {i:Nat}:aR e (.m i) f=bA (get e i) fun v=>f v (del e i):=by
 simp only[aR,rd,bA];cases get e i<;>rfl
@[simp ↓] theorem axh {a:AV}:aR e (.c a) f=f a e:=(rfl)
@[simp ↓] theorem awh {f:List AV→ak→Option β}:fp e [] f=f [] e:=(rfl)
@[simp ↓] theorem aw3 {r:List Rd}{f:List AV→ak→Option β}:fp e (x::r) f=aR e x fun v e=>fp e r fun vs e=>f (v::vs) e:=(rfl)
@[simp ↓] theorem awn {f:Option AV→ak→Option β}:gy e none f=f none e:=(rfl)
@[simp ↓] theorem awE {f:Option AV→ak→Option β}:gy e (some x) f=aR e x fun v e=>f (some v) e:=(rfl)
@[simp ↓] theorem av7:aH P (.mov x) e hs k=aR e x fun v e=>k v e hs:=(rfl)
def Es (e:ak):Rd→Option AV
 | .c v=>some v
 | .m i=>get e i
 | .s i=>match get e i with
  | some v=>some (share v)
  | none=>none
def pkV {β:Type}(c:AV) (a b:Rd) (x y:Option AV) (e:ak) (hs:HS) (k:AV→ak→HS→Option β):Option β :=
 match x,y with
 | some a,some b=>bA (GP c a b) fun v=>k v e hs
 | _,_=>bP (fo (.c c) a b ⟨e,hs⟩) fun v st=>k v st.env st.hs
@[simp ↓] theorem axt {c v w:AV}{a b:Rd}:pkV c a b (some v) (some w) e hs k=bA (GP c v w) fun v=>k v e hs:=(rfl)
theorem aqP {c:AV}{a b:Rd}{x x2 y y2:Option AV}(h:x=x2) (h2:y=y2):pkV c a b x y e hs k=pkV c a b x2 y2 e hs k:=by rw[h,h2]
attribute [congr] aqP
@[simp] theorem axw {v:AV}:Es e (.c v)=some v:=(rfl)
@[simp] theorem axy {i:Nat}:Es e (.s i)=bA (get e i) fun v=>some (share v):=by
 simp only[Es,bA];cases get e i<;>rfl
theorem aer {c a b:Rd}(ha:aG a=true) (hb:aG b=true):aH P (.pick c a b) e hs k=aR e c fun c e=>pkV c a b (Es e a) (Es e b) e hs k:=by
 simp only[aH,ha,hb,Bool.and_self]
 congr 1
 funext c e
 have h1:∀ x,aG x=true→rd e x=(Es e x).map fun v=>(v,e):=by
  intro x hx
  cases x with
  | c=>rfl
  | m=>cases hx
  | s i=>simp only[rd,Es];cases get e i<;>rfl
 rw[h1 a ha,h1 b hb]
 cases Es e a<;>cases Es e b<;>rfl
@[simp ↓] theorem avR {c:Rd}{i:Nat}{y:AV}:aH P (.pick c (.s i) (.c y)) e hs k=aR e c fun c e=>pkV c (.s i) (.c y) (Es e (.s i)) (Es e (.c y)) e hs k:=aer rfl rfl
@[simp ↓] theorem avB {c:Rd}{i:Nat}{y:AV}:aH P (.pick c (.c y) (.s i)) e hs k=aR e c fun c e=>pkV c (.c y) (.s i) (Es e (.c y)) (Es e (.s i)) e hs k:=aer rfl rfl
@[simp ↓] theorem atC {zs:List AV}:aH P (.alloc zs) e ⟨h,m⟩ k=lA (put h m (.cells zs)) fun h=>k (.ptr m 0) e ⟨h,m+1⟩:=(rfl)
@[simp ↓] theorem avW:aH P (.box x) e ⟨h,m⟩ k=aR e x fun v e=>dg ((AV.cells v).all au) (lA (put h m (.cells (AV.cells v))) fun h=>k (.ptr m 0) e ⟨h,m+1⟩):=(rfl)
@[simp ↓] theorem atD {zs:List AV}{ps:List (Nat×Nat×Rd)}:aH P (.build zs ps) e hs k=fp e (iP ps) fun vs e=>bA (ez zs (jX ps vs)) fun cs=>k (.agg cs) e hs:=(rfl)
@[simp ↓] theorem awb {j:Nat}{ps:List Rd}:aH P (.mks j ps) e hs k=fp e ps fun vs e=>bA (dX j vs) fun xs=>k (.own true j xs) e hs:=(rfl)
@[simp ↓] theorem atG {j:Nat}{ps:List Rd}:aH P (.mksv j ps) e ⟨h,m⟩ k=fp e ps fun vs e=>dg (Tr j vs) (lA (put h m (.cells (vs.flatMap AV.cells))) fun h=>k (.sl m 0 vs.length) e ⟨h,m+1⟩):=(rfl)
@[simp ↓] theorem aw5 {n:Option Nat}:aH P (.ld n 0 x) e ⟨h,m⟩ k=aR e x fun p e=>bA (oc h n p) fun v=>k v e ⟨h,m⟩:=(rfl)
@[simp ↓] theorem avM {n:Option Nat}:aH P (.ld n 1 x) e ⟨h,m⟩ k=aR e x fun p e=>bP (loadAt h n 1 p) fun v h=>k v e ⟨h,m⟩:=(rfl)
@[simp ↓] theorem avn {n:Option Nat}:aH P (.ld n 2 x) e ⟨h,m⟩ k=aR e x fun p e=>bP (loadAt h n 2 p) fun v h=>k v e ⟨h,m⟩:=(rfl)
@[simp ↓] theorem awv {n:Nat}{y:Rd}:aH P (.st n x y) e ⟨h,m⟩ k=aR e x fun p e=>aR e y fun v e=>bA (storeAt h n p v) fun h=>k .junk e ⟨h,m⟩:=(rfl)
@[simp ↓] theorem atm:aH P (.nilck x) e hs k=aR e x fun v e=>bA (S2 v) fun v=>k v e hs:=(rfl)
@[simp ↓] theorem avV {o:BinOp}{y:Rd}:aH P (.bin o x y) e hs k=aR e x fun a e=>aR e y fun b e=>bA (fy o a b) fun v=>k (.d v) e hs:=(rfl)
@[simp ↓] theorem au0 {o:Bool}{y:Rd}:aH P (.binb o x y) e hs k=aR e x fun a e=>aR e y fun b e=>bA (TV o a b) fun v=>k (.d v) e hs:=(rfl)
@[simp ↓] theorem awu {o:UnOp}:aH P (.un o x) e hs k=aR e x fun a e=>bA (unD o a) fun v=>k (.d v) e hs:=(rfl)
@[simp ↓] theorem auV {j:IntKind}:aH P (.conv j x) e hs k=aR e x fun a e=>bA (TH j a) fun v=>k (.d v) e hs:=(rfl)
@[simp ↓] theorem auj {f:FuncId}{a c:List Rd}:aH P (.mkfn f a c) e hs k=fp e a fun a e=>fp e c fun c e=>k (.fn f (shareAll a) (shareAll c)) e hs:=(rfl)
@[simp ↓] theorem arc {z:List D}{y:Rd}:aH P (.mkslice z x y) e hs k=aR e x fun a e=>aR e y fun c e=>bA (zV z a c) fun v=>k v e hs:=(rfl)
@[simp ↓] theorem asM {j:Nat}{lo hi mx:Option Rd}:aH P (.slice j x lo hi mx) e ⟨h,m⟩ k=aR e x fun x e=>gy e lo fun lo e=>gy e hi fun hi e=>gy e mx fun mx e=>bA (n6 h j x lo hi mx) fun v=>k v e ⟨h,m⟩:=(rfl)
@[simp ↓] theorem ato {j:Nat}{lo hi mx:Option Rd}:aH P (.slarr j x lo hi mx) e ⟨h,m⟩ k=aR e x fun x e=>gy e lo fun lo e=>gy e hi fun hi e=>gy e mx fun mx e=>bA (JT h j x lo hi mx) fun v=>k v e ⟨h,m⟩:=(rfl)
@[simp ↓] theorem awS {o:Nat}:aH P (.fa o x) e hs k=aR e x fun p e=>bA (eh o p) fun v=>k v e hs:=(rfl)
@[simp ↓] theorem awK {n:Nat}{y:Rd}:aH P (.ia n x y) e ⟨h,m⟩ k=aR e x fun x e=>aR e y fun i e=>bA (iaV h n x i) fun v=>k v e ⟨h,m⟩:=(rfl)
@[simp ↓] theorem auR {a n:Nat}{y:Rd}:aH P (.iarr a n x y) e hs k=aR e x fun p e=>aR e y fun i e=>bA (KK a n p i) fun v=>k v e hs:=(rfl)
@[simp ↓] theorem awi {a n:Nat}{b:Bool}{y:Rd}:aH P (.ix a n b x y) e hs k=aR e x fun x e=>aR e y fun i e=>bA (ixV a n b x i) fun v=>k v e hs:=(rfl)
@[simp ↓] theorem av8 {y:Rd}:aH P (.ixs x y) e hs k=aR e x fun x e=>aR e y fun i e=>bA (aia x i) fun v=>k (.d v) e hs:=(rfl)
@[simp ↓] theorem avj {j i:Nat}:aH P (.ext j true i) e hs k=bA (get e j) fun t=>bA (w9 true t i) fun v=>k v (put e j (WW t i)) hs:=by
 simp only[aH,bA];cases get e j<;>(try rfl)
@[simp ↓] theorem avf {j i:Nat}:aH P (.ext j false i) e hs k=bA (get e j) fun t=>bA (w9 false t i) fun v=>k v e hs:=by
 simp only[aH,bA];cases get e j<;>(try rfl)
@[simp ↓] theorem av2:aH P (.len x) e hs k=aR e x fun x e=>bA (lenOf x) fun n=>k (.int .i64 (.ofNat n)) e hs:=(rfl)
@[simp ↓] theorem avI:aH P (.cap x) e hs k=aR e x fun x e=>dg (Xj x) (k (.int .i64 (.ofNat 0)) e hs):=(rfl)
@[simp ↓] theorem avC {j:Nat}{y:Rd}:aH P (.app j x y) e ⟨h,m⟩ k=aR e x fun a e=>aR e y fun b e=>bP (V4 j h a b) fun v h=>k v e ⟨h,m⟩:=(rfl)
@[simp ↓] theorem aue {z:List D}{y:Rd}:aH P (.appz z x y) e ⟨h,m⟩ k=aR e x fun a e=>aR e y fun n e=>bP (xX z h a n) fun v h=>k v e ⟨h,m⟩:=(rfl)
@[simp ↓] theorem arv {b:Bool}{xs:List Rd}:aH P (.minmax b xs) e hs k=fp e xs fun vs e=>bA (tS b vs) fun v=>k v e hs:=(rfl)
@[simp ↓] theorem atH {f:FuncId}{as:List Rd}:aH P (.call f as) e ⟨h,m⟩ k=fp e as fun vs e=>bA (bN (Dn P) f vs h) fun v=>k v e ⟨h,m⟩:=(rfl)
@[simp ↓] theorem ati {f:FuncId}{as:List Rd}:aH P (.calli f as) e hs k=fp e as fun vs e=>bP ((Dn P).call f vs hs) fun v hs=>k v e hs:=(rfl)
@[simp ↓] theorem atE {as:List Rd}:aH P (.callv x as) e hs k=aR e x fun f e=>fp e as fun vs e=>bP (aP (Dn P) f vs hs) fun v hs=>k v e hs:=(rfl)
@[simp ↓] theorem avd {is:List Nat}:aH P (.kill is) e hs k=k (.tup []) (is.foldl del e) hs:=(rfl)
end Go.Vm
namespace Go.Vm
set_option maxRecDepth 100000
abbrev O:AV:=.d (.int .i64 0)
abbrev O8:AV:=.d (.int .u8 0)
abbrev Q (n:Int):Rd:=.c (.d (I n))
abbrev tt:Rd:=.c (.d (.bool true))
abbrev ff:Rd:=.c (.d (.bool false))
abbrev A (d s:Nat):VI:=V d (.mov (.m s))
abbrev B (d s:Nat):VI:=V d (.mov (.s s))
abbrev C (d:Nat) (s:Rd):VI:=V d (.mov s)
abbrev M (d s:Nat):VI:=V d (.ld none 0 (.m s))
abbrev G (d s:Nat):VI:=V d (.ld none 0 (.s s))
abbrev Z (l:List Nat):VI:=N (.kill l)
abbrev H (d:Nat) (f:FuncId) (l:List Rd):VI:=V d (.call f l)
abbrev L (d:Nat) (o:BinOp) (x y:Nat):VI:=V d (.bin o (.m x) (.m y))
abbrev P (d:Nat) (o:BinOp) (x:Nat) (n:Int):VI:=V d (.bin o (.m x) (Q n))
abbrev J (d:Nat) (o:BinOp) (x y:Nat):VI:=V d (.bin o (.s x) (.s y))
abbrev X (d n s:Nat):VI:=V d (.fa n (.s s))
abbrev E (d s:Nat) (x:Bool) (n:Nat):VI:=V d (.ext s x n)
abbrev Yd (n a b:Nat):VI:=N (.st n (.s a) (.m b))
abbrev Rg (l:List VI):VC:=.reg false l
def unp (q:List Nat) (l:List VI):List VI:=q.filterMap fun i=>l[i]?
def mo:Nat:=3
def mV:Nat:=4
def gF:Nat:=5
def eH:Nat:=6
def fu:Nat:=7
def fk:Nat:=8
def lF:Nat:=9
def tC:Nat:=10
def Dq:Nat:=11
def gQ:Nat:=12
def kA:Nat:=13
def sF:Nat:=14
def vp:Nat:=15
def lj:Nat:=16
def afQ:Nat:=17
def Ns:Nat:=18
def kK:Nat:=19
def gn:Nat:=20
def oY:Nat:=21
def cY:Nat:=22
def Ds:Nat:=23
def fR:Nat:=24
def o8:Nat:=25
def bV:Nat:=26
def dq:Nat:=27
def BZ:Nat:=28
def xW:Nat:=29
def gP:Nat:=30
def qx:Nat:=31
def wF:Nat:=32
def kb:Nat:=33
def fW:Nat:=34
def agc:Nat:=35
def i7:Nat:=36
def nL:Nat:=37
def nv:Nat:=38
def lW:Nat:=39
def nz:Nat:=40
def sj:Nat:=41
def nD:Nat:=42
def nE:Nat:=43
def nN:Nat:=44
def mw:Nat:=45
def ji:Nat:=46
def iC:Nat:=47
def zH:Nat:=48
def jd:Nat:=49
def dK:Nat:=50
def oJ:Nat:=51
def mN:Nat:=52
def nc:Nat:=53
def jo:Nat:=54
def FE:Nat:=55
def CK:Nat:=56
def ui:Nat:=57
def xy:Nat:=58
def Ao:Nat:=59
def xL:Nat:=60
def l0:Nat:=61
def C5:Nat:=62
def tX:Nat:=63
def DJ:Nat:=64
def Hs:Nat:=65
def vj:Nat:=66
def vA:Nat:=67
def bQ:Nat:=68
def fT:Nat:=69
def wL:Nat:=70
def iK:Nat:=71
def Dm:Nat:=72
def ib:Nat:=73
def zM:Nat:=74
def Ap:Nat:=75
def wW:Nat:=76
def xj:Nat:=77
def oZ:Nat:=78
def vu:Nat:=79
def jD:Nat:=80
def fc:Nat:=81
def kV:Nat:=82
def sH:Nat:=83
def gL:Nat:=84
def jK:Nat:=85
def jz:Nat:=86
def nK:Nat:=87
def oP:Nat:=88
def fS:Nat:=89
def BT:Nat:=90
def vk:Nat:=91
def Zu:Nat:=92
def Hg:Nat:=93
def mC:Nat:=94
def lJ:Nat:=95
def eE:Nat:=96
def CX:Nat:=97
def lX:Nat:=98
def qB:Nat:=99
def su:Nat:=100
def gU:Nat:=101
def cm:Nat:=102
def jF:Nat:=103
def zk:Nat:=104
def fm:Nat:=105
def CE:Nat:=106
def fh:Nat:=107
def gk:Nat:=108
def ip:Nat:=109
def rX:Nat:=110
def ma:Nat:=111
def Fj:Nat:=112
def B8:Nat:=113
def oQ:Nat:=114
def Cq:Nat:=115
def kw:Nat:=116
def sD:Nat:=117
def lO:Nat:=118
def Lu:Nat:=119
def od:Nat:=120
def Ry:Nat:=121
def fY:Nat:=122
def di:Nat:=123
def fV:Nat:=124
def sq:Nat:=125
def lQ:Nat:=126
def jy:Nat:=127
def acN:Nat:=128
def Nk:Nat:=129
def MJ:Nat:=130
def gY:Nat:=131
def j3:Nat:=132
def cR:Nat:=133
def ay:Nat:=134
def ie:Nat:=135
def cJ:Nat:=136
abbrev vQ:=Rg [V 3 (.box (.m 0)),V 4 (.box (.m 1)),C 6 ff,Z [6]]
abbrev vW:=Rg [H 15 gF [],A 7 15]
abbrev vM:=Rg [V 16 (.ld (some 5) 0 (.s 4)),H 17 eH [.m 16],A 18 17,U 18 19 (.mov (.s 2)),U 18 20 (.len (.s 19)),U 18 21 (.bin .gtr (.s 20) (Q 1000)),V 22 (.pick (.m 18) tt (.s 21)),A 23 22,U 23 24 (.mov (.s 7)),U 23 25 (.un .not (.s 24)),V 26 (.pick (.m 23) tt (.s 25)),Z [19,20,21,24,25]]
abbrev v4:=Rg [A 27 7,A 6 27]
abbrev wg:=Rg [V 28 (.ld (some 5) 0 (.s 4)),H 29 fu [.m 28],V 8 (.alloc [.nl,.d (.bool false),O,.nl,.nl]),Yd 5 8 29]
abbrev vD:=Rg [X 30 4 8,N (.st 1 (.m 30) (.c (.nl)))]
abbrev wa:=Rg [V 31 (.ld (some 5) 1 (.s 4)),H 32 fu [.m 31],V 9 (.alloc [.nl,.d (.bool false),O,.nl,.nl]),Yd 5 9 32]
abbrev vV:=Rg [B 33 2,X 34 4 9,N (.st 1 (.m 34) (.m 33))]
abbrev vI:=Rg [V 36 (.ld (some 4) 0 (.s 3)),V 37 (.ld (some 5) 1 (.s 8)),H 38 fk [.m 36,.m 37],A 35 38,E 39 35 false 0,E 40 35 false 1,A 10 39,A 11 40,Z [35]]
abbrev vB:=Rg [V 42 (.ld (some 4) 1 (.s 3)),V 43 (.ld (some 5) 1 (.s 9)),H 44 fk [.m 42,.m 43],A 41 44,E 45 41 false 0,E 46 41 false 1,A 12 45,A 13 46,Z [41]]
abbrev tH:=Rg [B 47 11,P 48 .neq 47 0,A 49 48,U 49 50 (.mov (.s 13)),U 49 51 (.bin .neq (.s 50) (Q 0)),V 52 (.pick (.m 49) tt (.s 51)),Z [13,50,51]]
abbrev tJ:=Rg [A 53 11,P 54 .neq 53 0,A 55 54,U 55 56 (.mov (.s 2)),U 55 57 (.len (.s 56)),U 55 58 (.bin .gtr (.s 57) (Q 269)),V 59 (.pick (.m 55) tt (.s 58)),A 6 59,Z [2,56,57,58]]
abbrev uv:=Rg [C 14 (Q 0)]
abbrev tL:=Rg [B 60 2,V 61 (.len (.m 60)),P 62 .gtr 61 0]
abbrev uU:=Rg [B 63 2,V 64 (.len (.m 63)),V 65 (.bin .mul (Q 8) (.m 64)),V 66 (.bin .add (Q 7) (.m 65)),A 14 66]
abbrev uV:=Rg [A 67 2,V 68 (.len (.m 67)),P 69 .geq 68 15]
abbrev uI:=Rg [A 70 14,P 71 .add 70 8,A 14 71]
abbrev tV:=Rg [B 72 12,B 73 10,B 74 14,L 75 .add 73 74,P 76 .sub 75 7,L 77 .geq 72 76,A 78 77,W 78 79 (.mov (.s 12)),W 78 80 (.mov (.s 10)),W 78 81 (.mov (.s 14)),W 78 82 (.bin .add (.s 80) (.s 81)),W 78 83 (.bin .add (.s 82) (Q 7)),W 78 84 (.bin .leq (.s 79) (.s 83)),V 85 (.pick (.m 78) (.s 84) ff),A 86 85,W 86 87 (.mov (.s 12)),W 86 88 (.bin .rem (.s 87) (Q 8)),W 86 89 (.bin .eql (.s 88) (Q 0)),V 90 (.pick (.m 86) (.s 89) ff),A 91 90,W 91 92 (.mov (.s 10)),W 91 93 (.bin .rem (.s 92) (Q 8)),W 91 94 (.bin .eql (.s 93) (Q 0)),V 95 (.pick (.m 91) (.s 94) ff),A 6 95,Z [10,12,14,79,80,81,82,83,84,87,88,89,92,93,94]]
def dG:af:=⟨3,[.tmp 6],
 (.seq vQ
 (.seq vW
 (.seq (.seq vM
 (.cond (.m 26)
 (.seq (.seq (.seq (K [2]) (F 3)) (F 4)) (.seq v4
 .ret))
 (.seq (K [7]) .skip)))
 (.seq wg
 (.seq vD
 (.seq (.seq wa (F 4))
 (.seq vV
 (.seq (.seq vI (F 8))
 (.seq (.seq vB (.seq (F 3) (F 9)))
 (.seq (.seq tH
 (.cond (.m 52)
 (.seq (K [10,12]) (.seq tJ
 .ret))
 (.seq (K [11]) .skip)))
 (.seq uv
 (.seq (.seq tL
 (.cond (.m 62)
 (.seq (K [14]) uU)
 .skip))
 (.seq (.seq uV
 (.cond (.m 69)
 uI
 .skip))
 (.seq tV
 .ret))))))))))))))⟩
abbrev we:=Rg [V 3 (.box (.m 0)),V 4 (.box (.m 1)),C 6 ff,Z [6]]
abbrev wd:=Rg [H 13 gF [],A 7 13]
abbrev wo:=Rg [V 14 (.ld (some 5) 0 (.s 4)),H 15 eH [.m 14],A 16 15,U 16 17 (.ld (some 4) 0 (.s 3)),U 16 18 (.ld (some 5) 0 (.s 4)),U 16 19 (.call lF [.s 17,.s 18]),U 16 20 (.bin .neq (.s 19) (Q 0)),V 21 (.pick (.m 16) tt (.s 20)),A 22 21,U 22 23 (.mov (.s 7)),U 22 24 (.un .not (.s 23)),V 25 (.pick (.m 22) tt (.s 24)),Z [17,18,19,20,23,24]]
abbrev vJ:=Rg [A 26 7,A 6 26]
abbrev wB:=Rg [V 27 (.ld (some 5) 0 (.s 4)),H 28 fu [.m 27],V 8 (.alloc [.nl,.d (.bool false),O,.nl,.nl]),Yd 5 8 28]
abbrev v3:=Rg [A 29 2,V 30 (.conv .i64 (.m 29)),P 31 .rem 30 4,X 32 2 8,N (.st 1 (.m 32) (.m 31))]
abbrev vG:=Rg [X 33 3 8,N (.st 1 (.m 33) (.c (.nl)))]
abbrev wj:=Rg [C 9 (Q 0)]
abbrev wt:=Rg [B 34 9,X 35 0 4,M 36 35,V 37 (.ia 9 (.m 36) (Q 0)),V 38 (.fa 1 (.m 37)),V 39 (.fa 3 (.m 38)),M 40 39,V 41 (.len (.m 40)),L 42 .lss 34 41,A 43 42,W 43 44 (.fa 2 (.s 8)),W 43 45 (.ld none 0 (.s 44)),W 43 46 (.bin .eql (.s 45) (Q 1)),V 47 (.pick (.m 43) (.s 46) ff),Z [44,45,46]]
abbrev lm:=[X 50 3 8,V 51 (.ld none 2 (.m 50)),X 52 0 4,M 53 52,V 54 (.ia 9 (.m 53) (Q 0)),V 55 (.fa 1 (.m 54)),V 56 (.fa 2 (.m 55)),M 57 56,V 58 (.mkslice [.bool false] (.s 57) (.s 57)),V 59 (.mks 1 [.m 58]),V 60 (.app 1 (.m 51) (.m 59)),X 61 3 8,N (.st 1 (.m 61) (.m 60))]
def kt:VC:=.regP (.range 13) (.range 13) [] lm
abbrev uS:=Rg [A 48 9,P 49 .add 48 1,A 9 49]
def b8:VC:=(.seq (.seq wt
 (.cond (.m 47)
 .skip
 (.seq (K [9]) (.exit 0))))
 (.seq (.block 1
 (.seq kt (K [57])))
 uS))
abbrev tU:=Rg [V 63 (.ld (some 4) 1 (.s 3)),V 64 (.ld (some 5) 0 (.s 8)),H 65 fk [.m 63,.m 64],A 62 65,E 66 62 false 0,E 67 62 false 1,A 10 66,A 11 67,Z [10,62]]
abbrev uD:=Rg [X 68 2 8,M 69 68,P 70 .eql 69 0,A 71 70,U 71 72 (.fa 1 (.s 4)),U 71 73 (.ld none 0 (.s 72)),U 71 74 (.mov (.s 73)),W 74 75 (.fa 2 (.s 8)),W 74 76 (.ld none 0 (.s 75)),W 74 77 (.bin .lss (.s 76) (Q 3)),U 71 78 (.pick (.s 74) (.s 77) ff),V 79 (.pick (.m 71) tt (.s 78)),A 12 79,Z [72,73,74,75,76,77,78]]
abbrev tG:=Rg [A 80 11,P 81 .eql 80 0,A 82 12,V 83 (.binb false (.m 81) (.m 82)),A 84 83,W 84 85 (.fa 1 (.s 4)),W 84 86 (.ld none 0 (.s 85)),W 84 87 (.mov (.s 86)),U 87 88 (.fa 2 (.s 4)),U 87 89 (.ld none 0 (.s 88)),U 87 90 (.bin .eql (.s 89) (Q 0)),U 87 91 (.mov (.s 90)),W 91 92 (.fa 3 (.s 4)),W 91 93 (.ld none 0 (.s 92)),W 91 94 (.len (.s 93)),W 91 95 (.bin .eql (.s 94) (Q 0)),U 87 96 (.pick (.s 91) (.s 95) ff),W 84 97 (.pick (.s 87) tt (.s 96)),V 98 (.pick (.m 84) (.s 97) ff),A 6 98,Z [85,86,87,88,89,90,91,92,93,94,95,96,97]]
def dH:af:=⟨3,[.tmp 6],
 (.seq we
 (.seq wd
 (.seq (.seq wo
 (.cond (.m 25)
 (.seq (.seq (.seq (K [2]) (F 3)) (F 4)) (.seq vJ
 .ret))
 (.seq (K [7]) .skip)))
 (.seq wB
 (.seq v3
 (.seq vG
 (.seq (.seq wj
 (.block 0
 (.seq (.loop b8) (K [9]))))
 (.seq (.seq tU (F 3))
 (.seq (.seq uD (F 8))
 (.seq (.seq tG (F 4))
 .ret))))))))))⟩
abbrev zz:=Rg [C 0 ff,Z [0]]
abbrev Bi:=Rg [H 9 tC [],A 8 9,E 10 8 true 0,E 11 8 true 1,E 12 8 false 2,V 1 (.alloc [O,O,.d (.bool false),O]),V 2 (.alloc [.nl,.d (.bool false),O,.nl,.nl]),Yd 4 1 10,Yd 5 2 11,A 3 12,Z [8]]
abbrev zW:=Rg [V 14 (.ld (some 4) 0 (.s 1)),V 15 (.ld (some 5) 0 (.s 2)),H 16 fk [.m 14,.m 15],A 13 16,E 17 13 false 0,E 18 13 false 1,A 4 17,A 5 18,Z [13]]
abbrev z0:=Rg [V 20 (.ld (some 4) 1 (.s 1)),V 21 (.ld (some 5) 1 (.s 2)),H 22 Dq [.m 20,.m 21],A 19 22,E 23 19 true 0,E 24 19 false 1,A 6 23,A 7 24,Z [19]]
abbrev At:=Rg [A 25 3,A 26 25,W 26 27 (.mov (.s 5)),W 26 28 (.bin .eql (.s 27) (Q 0)),V 29 (.pick (.m 26) (.s 28) ff),A 30 29,W 30 31 (.mov (.s 4)),W 30 32 (.bin .eql (.s 31) (Q 32)),V 33 (.pick (.m 30) (.s 32) ff),A 34 33,W 34 35 (.mov (.s 7)),W 34 36 (.bin .eql (.s 35) (Q 0)),V 37 (.pick (.m 34) (.s 36) ff),A 38 37,W 38 39 (.mov (.s 6)),W 38 40 (.len (.s 39)),W 38 41 (.bin .eql (.s 40) (Q 4)),V 42 (.pick (.m 38) (.s 41) ff),A 43 42,W 43 44 (.mov (.s 6)),W 43 45 (.ia 1 (.s 44) (Q 3)),W 43 46 (.ld none 0 (.s 45)),W 43 47 (.bin .eql (.s 46) (.c (.d (.int .u8 7)))),V 48 (.pick (.m 43) (.s 47) ff),A 0 48,Z [4,5,6,7,27,28,31,32,35,36,39,40,41,44,45,46,47]]
def kj:af:=⟨0,[.tmp 0],
 (.seq zz
 (.seq Bi
 (.seq zW
 (.seq (.seq z0 (.seq (F 1) (F 2)))
 (.seq At
 .ret)))))⟩
abbrev Ak:=Rg [V 1 (.box (.m 0)),C 2 ff,Z [2]]
abbrev zg:=Rg [C 3 (Q 0)]
abbrev An:=Rg [B 5 3,X 6 0 1,M 7 6,V 8 (.len (.m 7)),L 9 .lss 5 8,A 10 9,W 10 11 (.mov (.s 3)),W 10 12 (.bin .lss (.s 11) (Q 10)),V 13 (.pick (.m 10) (.s 12) ff),Z [11,12]]
abbrev AD:=Rg [X 16 0 1,M 17 16,B 18 3,V 19 (.ia 9 (.m 17) (.m 18)),V 20 (.ld (some 9) 0 (.m 19)),H 21 gQ [.m 20]]
abbrev AZ:=Rg [C 2 tt]
abbrev yX:=Rg [A 14 3,P 15 .add 14 1,A 3 15]
def bI:VC:=(.seq (.seq An
 (.cond (.m 13)
 .skip
 (.seq (K [3]) (.exit 0))))
 (.seq (.block 1
 (.seq AD
 (.cond (.m 21)
 (.seq (.seq (K [3]) (F 1)) (.seq AZ
 .ret))
 .skip)))
 yX))
abbrev A5:=Rg [C 4 (Q 0)]
abbrev Al:=Rg [B 22 4,X 23 3 1,M 24 23,V 25 (.len (.m 24)),L 26 .lss 22 25,A 27 26,W 27 28 (.mov (.s 4)),W 27 29 (.bin .lss (.s 28) (Q 40)),V 30 (.pick (.m 27) (.s 29) ff),Z [28,29]]
abbrev z6:=Rg [X 33 3 1,M 34 33,B 35 4,V 36 (.ia 1 (.m 34) (.m 35)),M 37 36,V 38 (.len (.m 37)),P 39 .gtr 38 200]
abbrev yV:=Rg [C 2 tt]
abbrev ye:=Rg [A 31 4,P 32 .add 31 1,A 4 32]
def bH:VC:=(.seq (.seq Al
 (.cond (.m 30)
 .skip
 (.seq (K [4]) (.exit 2))))
 (.seq (.block 3
 (.seq z6
 (.cond (.m 39)
 (.seq (.seq (K [4]) (F 1)) (.seq yV
 .ret))
 .skip)))
 ye))
abbrev ym:=Rg [X 40 0 1,M 41 40,V 42 (.len (.m 41)),P 43 .gtr 42 10,A 44 43,U 44 45 (.fa 3 (.s 1)),U 44 46 (.ld none 0 (.s 45)),U 44 47 (.len (.s 46)),U 44 48 (.bin .gtr (.s 47) (Q 40)),V 49 (.pick (.m 44) tt (.s 48)),A 50 49,U 50 51 (.fa 4 (.s 1)),U 50 52 (.ld none 0 (.s 51)),U 50 53 (.len (.s 52)),U 50 54 (.bin .gtr (.s 53) (Q 2000)),V 55 (.pick (.m 50) tt (.s 54)),A 2 55,Z [45,46,47,48,51,52,53,54]]
def kh:af:=⟨1,[.tmp 2],
 (.seq Ak
 (.seq (.seq zg
 (.block 0
 (.seq (.loop bI) (K [3]))))
 (.seq (.seq A5
 (.block 2
 (.seq (.loop bH) (K [4]))))
 (.seq (.seq ym (F 1))
 .ret))))⟩
abbrev BE:=Rg [V 1 (.box (.m 0)),V 2 (.alloc [.nl,.d (.bool false),O,.nl,.nl])]
abbrev Bs:=Rg [X 6 1 1,M 7 6,X 8 2 1,M 9 8,V 10 (.build [.nl,.d (.bool false),O,.nl,.nl] [(1,1,.m 7),(2,1,.m 9)]),V 3 (.alloc [.nl,.d (.bool false),O,.nl,.nl]),Yd 5 3 10]
abbrev BO:=Rg [C 4 (Q 0)]
abbrev BL:=Rg [B 11 4,X 12 0 1,M 13 12,V 14 (.len (.m 13)),L 15 .lss 11 14]
abbrev oA:=[X 18 0 3,V 19 (.ld none 2 (.m 18)),X 20 0 1,M 21 20,B 22 4,V 23 (.ia 9 (.m 21) (.m 22)),V 24 (.ld (some 9) 0 (.m 23)),H 25 kA [.m 24],V 26 (.mks 9 [.m 25]),V 27 (.app 9 (.m 19) (.m 26)),X 28 0 3,N (.st 1 (.m 28) (.m 27))]
def nS:VC:=.regP (.range 12) (.range 12) [] oA
abbrev BP:=Rg [A 16 4,P 17 .add 16 1,A 4 17]
def fJ:VC:=(.seq (.seq BL
 (.cond (.m 15)
 .skip
 (.seq (K [4]) (.exit 0))))
 (.seq (.block 1
 nS)
 BP))
abbrev BD:=Rg [C 5 (Q 0)]
abbrev Bv:=Rg [B 29 5,X 30 3 1,M 31 30,V 32 (.len (.m 31)),L 33 .lss 29 32]
abbrev oG:=[X 36 3 3,V 37 (.ld none 2 (.m 36)),X 38 3 1,M 39 38,B 40 5,V 41 (.ia 1 (.m 39) (.m 40)),M 42 41,V 43 (.app 1 (.c (.nl)) (.m 42)),V 44 (.mks 1 [.m 43]),V 45 (.app 1 (.m 37) (.m 44)),X 46 3 3,N (.st 1 (.m 46) (.m 45))]
def nU:VC:=.regP (.range 12) (.range 12) [] oG
abbrev BA:=Rg [A 34 5,P 35 .add 34 1,A 5 35]
def fN:VC:=(.seq (.seq Bv
 (.cond (.m 33)
 .skip
 (.seq (K [5]) (.exit 2))))
 (.seq (.block 3
 nU)
 BA))
abbrev zS:=Rg [X 47 4 3,V 48 (.ld none 1 (.m 47)),X 49 4 1,M 50 49,V 51 (.app 1 (.m 48) (.m 50)),X 52 4 3,N (.st 1 (.m 52) (.m 51))]
abbrev zX:=Rg [V 53 (.ld (some 5) 1 (.s 3)),Yd 5 2 53]
def kR:af:=⟨1,[.cell 2 (some 5)],
 (.seq BE
 (.seq Bs
 (.seq (.seq BO
 (.block 0
 (.seq (.loop fJ) (K [4]))))
 (.seq (.seq BD
 (.block 2
 (.seq (.loop fN) (K [5]))))
 (.seq (.seq zS (F 1))
 (.seq (.seq zX (F 3))
 .ret))))))⟩
abbrev abU:=Rg [V 2 (.box (.m 0)),V 3 (.box (.m 1)),C 4 (Q 0),C 5 (Q 0),Z [4,5]]
abbrev aaK:=Rg [V 7 (.ld (some 4) 0 (.s 2)),H 8 sF [.m 7],V 9 (.un .not (.m 8)),A 6 9]
abbrev aa2:=Rg [C 4 (Q 0),C 5 (Q 2)]
abbrev abq:=Rg [V 11 (.ld (some 4) 0 (.s 2)),V 12 (.ld (some 5) 0 (.s 3)),H 13 vp [.m 11,.m 12],V 14 (.un .not (.m 13)),A 10 14]
abbrev abB:=Rg [C 4 (Q 0),C 5 (Q 8)]
abbrev abR:=Rg [V 15 (.ld (some 4) 1 (.s 2)),V 16 (.ld (some 5) 1 (.s 3)),H 17 lj [.m 15,.m 16],V 18 (.len (.m 17)),A 4 18,C 5 (Q 0)]
def rI:af:=⟨2,[.tmp 4,.tmp 5],
 (.seq abU
 (.seq (.block 0
 (.seq aaK
 (.cond (.m 6)
 (.seq (.seq (F 2) (F 3)) (.seq aa2
 .ret))
 (.seq abq
 (.cond (.m 10)
 (.seq (.seq (F 2) (F 3)) (.seq abB
 .ret))
 .skip)))))
 (.seq (.seq abR (.seq (F 2) (F 3)))
 .ret)))⟩
abbrev Xp:=Rg [V 2 (.box (.m 0)),V 3 (.box (.m 1)),C 4 (Q 0),Z [4]]
abbrev Wc:=Rg [V 8 (.ld (some 4) 0 (.s 2)),V 9 (.ld (some 5) 1 (.s 3)),H 10 fk [.m 8,.m 9],A 7 10,E 11 7 false 0,E 12 7 false 1,A 5 11,A 6 12,Z [7]]
abbrev Zd:=Rg [B 13 6,P 14 .eql 13 0,A 15 14,W 15 16 (.mov (.s 5)),W 15 17 (.fa 1 (.s 2)),W 15 18 (.ld none 0 (.s 17)),W 15 19 (.bin .mul (Q 1536) (.s 18)),W 15 20 (.bin .gtr (.s 16) (.s 19)),V 21 (.pick (.m 15) (.s 20) ff),Z [5,16,17,18,19,20]]
abbrev Yj:=Rg [C 6 (Q 9)]
abbrev Yf:=Rg [A 22 6,A 4 22]
def CR:af:=⟨2,[.tmp 4],
 (.seq Xp
 (.seq (.seq Wc (F 3))
 (.seq (.seq (.seq Zd (F 2))
 (.cond (.m 21)
 (.seq (K [6]) Yj)
 .skip))
 (.seq Yf
 .ret))))⟩
abbrev DP:=Rg [V 0 (.alloc [O,O,.d (.bool false),O]),V 1 (.alloc [.nl,.d (.bool false),O,.nl,.nl]),C 2 ff,Z [2]]
abbrev DA:=Rg [V 6 (.mks 1 [Q 1]),V 7 (.build [O8,O8,O,.nl] [(3,1,.m 6)]),H 8 afQ [Q 0,.m 7],A 5 8,E 9 5 true 0,E 10 5 false 1,V 3 (.alloc [O,O8,O8,O,.nl,.nl,.nl,.nl,.nl]),Yd 9 3 9,A 4 10,Z [5]]
def CF:VC:=.regP (.range 9) [0,6,1,2,3,7,4,5,8] [1,6] [V 11 (.build [O,O,.d (.bool false),O] [(1,1,Q 1)]),V 12 (.ld (some 9) 0 (.s 3)),V 13 (.mks 9 [.m 12]),V 14 (.build [.nl,.d (.bool false),O,.nl,.nl] [(0,1,.m 13)]),A 15 4,P 16 .eql 15 0,Yd 4 0 11,Yd 5 1 14,A 2 16]
def Hr:af:=⟨0,[.cell 0 (some 4),.cell 1 (some 5),.tmp 2],
 (.seq DP
 (.seq DA
 (.seq (.seq CF (F 3))
 .ret)))⟩
abbrev WG:=Rg [V 2 (.box (.m 0)),V 3 (.box (.m 1)),V 4 (.mov (.c (.nl))),C 5 (Q 0),Z [4,5]]
abbrev XW:=Rg [V 7 (.ld (some 4) 0 (.s 2)),V 8 (.ld (some 5) 0 (.s 3)),H 9 lF [.m 7,.m 8],A 6 9]
abbrev ZA:=Rg [B 10 6,P 11 .neq 10 0]
abbrev Zs:=Rg [A 12 6,V 4 (.mov (.c (.nl))),A 5 12]
abbrev YN:=Rg [V 13 (.ld (some 4) 1 (.s 2)),V 14 (.ld (some 5) 1 (.s 3)),H 15 lj [.m 13,.m 14],H 16 Ns [.m 15],E 17 16 true 0,E 18 16 false 1,A 4 17,A 5 18,Z [16]]
def Dp:af:=⟨2,[.tmp 4,.tmp 5],
 (.seq WG
 (.seq (.seq XW
 (.seq ZA
 (.cond (.m 11)
 (.seq (.seq (F 2) (F 3)) (.seq Zs
 .ret))
 (.seq (K [6]) .skip))))
 (.seq (.seq YN (.seq (F 2) (F 3)))
 .ret)))⟩
abbrev A6:=Rg [V 1 (.box (.m 0)),C 2 ff,Z [2]]
abbrev yZ:=Rg [X 7 1 1,V 8 (.fa 3 (.m 7)),M 9 8,V 10 (.len (.m 9)),P 11 .gtr 10 40,A 12 11,U 12 13 (.fa 5 (.s 1)),U 12 14 (.ld none 0 (.s 13)),U 12 15 (.len (.s 14)),U 12 16 (.bin .gtr (.s 15) (Q 40)),V 17 (.pick (.m 12) tt (.s 16)),A 18 17,U 18 19 (.fa 6 (.s 1)),U 18 20 (.ld none 0 (.s 19)),U 18 21 (.len (.s 20)),U 18 22 (.bin .gtr (.s 21) (Q 40)),V 23 (.pick (.m 18) tt (.s 22)),A 24 23,U 24 25 (.fa 7 (.s 1)),U 24 26 (.ld none 0 (.s 25)),U 24 27 (.len (.s 26)),U 24 28 (.bin .gtr (.s 27) (Q 40)),V 29 (.pick (.m 24) tt (.s 28)),A 30 29,U 30 31 (.fa 8 (.s 1)),U 30 32 (.ld none 0 (.s 31)),U 30 33 (.len (.s 32)),U 30 34 (.bin .gtr (.s 33) (Q 2000)),V 35 (.pick (.m 30) tt (.s 34)),Z [13,14,15,16,19,20,21,22,25,26,27,28,31,32,33,34]]
abbrev AP:=Rg [C 2 tt]
abbrev zj:=Rg [C 3 (Q 0)]
abbrev zU:=Rg [B 36 3,X 37 5 1,M 38 37,V 39 (.len (.m 38)),L 40 .lss 36 39]
abbrev Bp:=Rg [X 43 5 1,M 44 43,B 45 3,V 46 (.ia 1 (.m 44) (.m 45)),M 47 46,V 48 (.len (.m 47)),P 49 .gtr 48 100]
abbrev AT:=Rg [C 2 tt]
abbrev Ae:=Rg [A 41 3,P 42 .add 41 1,A 3 42]
def bX:VC:=(.seq (.seq zU
 (.cond (.m 40)
 .skip
 (.seq (K [3]) (.exit 0))))
 (.seq (.block 1
 (.seq Bp
 (.cond (.m 49)
 (.seq (.seq (K [3]) (F 1)) (.seq AT
 .ret))
 .skip)))
 Ae))
abbrev zp:=Rg [C 4 (Q 0)]
abbrev Ba:=Rg [B 50 4,X 51 6 1,M 52 51,V 53 (.len (.m 52)),L 54 .lss 50 53]
abbrev yo:=Rg [X 57 6 1,M 58 57,B 59 4,V 60 (.ia 1 (.m 58) (.m 59)),M 61 60,V 62 (.len (.m 61)),P 63 .gtr 62 200]
abbrev xI:=Rg [C 2 tt]
abbrev yw:=Rg [A 55 4,P 56 .add 55 1,A 4 56]
def bY:VC:=(.seq (.seq Ba
 (.cond (.m 54)
 .skip
 (.seq (K [4]) (.exit 2))))
 (.seq (.block 3
 (.seq yo
 (.cond (.m 63)
 (.seq (.seq (K [4]) (F 1)) (.seq xI
 .ret))
 .skip)))
 yw))
abbrev yi:=Rg [C 5 (Q 0)]
abbrev xR:=Rg [B 64 5,X 65 7 1,M 66 65,V 67 (.len (.m 66)),L 68 .lss 64 67]
abbrev xH:=Rg [X 71 7 1,M 72 71,B 73 5,V 74 (.ia 1 (.m 72) (.m 73)),M 75 74,V 76 (.len (.m 75)),P 77 .gtr 76 20]
abbrev xV:=Rg [C 2 tt]
abbrev xS:=Rg [C 6 (Q 0)]
abbrev yj:=Rg [B 78 6,X 79 7 1,M 80 79,B 81 5,V 82 (.ia 1 (.m 80) (.m 81)),M 83 82,V 84 (.len (.m 83)),L 85 .lss 78 84]
abbrev yy:=Rg [X 88 7 1,M 89 88,B 90 5,V 91 (.ia 1 (.m 89) (.m 90)),M 92 91,B 93 6,V 94 (.ia 5 (.m 92) (.m 93)),V 95 (.fa 4 (.m 94)),M 96 95,V 97 (.len (.m 96)),P 98 .gtr 97 100]
abbrev yc:=Rg [C 2 tt]
abbrev yb:=Rg [A 86 6,P 87 .add 86 1,A 6 87]
def bZ:VC:=(.seq (.seq yj
 (.cond (.m 85)
 .skip
 (.seq (K [6]) (.exit 6))))
 (.seq (.block 7
 (.seq yy
 (.cond (.m 98)
 (.seq (.seq (K [5,6]) (F 1)) (.seq yc
 .ret))
 .skip)))
 yb))
abbrev yr:=Rg [A 69 5,P 70 .add 69 1,A 5 70]
def bB:VC:=(.seq (.seq xR
 (.cond (.m 68)
 .skip
 (.seq (.seq (K [5]) (F 1)) (.exit 4))))
 (.seq (.block 5
 (.seq (.seq xH
 (.cond (.m 77)
 (.seq (.seq (K [5]) (F 1)) (.seq xV
 .ret))
 .skip))
 (.seq xS
 (.block 6
 (.seq (.loop bZ) (K [6]))))))
 yr))
abbrev xZ:=Rg [C 2 ff]
def bc:af:=⟨1,[.tmp 2],
 (.seq A6
 (.seq (.seq yZ
 (.cond (.m 35)
 (.seq (F 1) (.seq AP
 .ret))
 .skip))
 (.seq (.seq zj
 (.block 0
 (.seq (.loop bX) (K [3]))))
 (.seq (.seq zp
 (.block 2
 (.seq (.loop bY) (K [4]))))
 (.seq (.seq yi
 (.block 4
 (.seq (.loop bB) (.seq (K [5]) (F 1)))))
 (.seq xZ
 .ret))))))⟩
abbrev BK:=Rg [V 1 (.box (.m 0)),V 2 (.alloc [O,O8,O8,O,.nl,.nl,.nl,.nl,.nl])]
abbrev oB:=[X 10 0 1,M 11 10,X 12 1 1,V 13 (.ld (some 4) 0 (.m 12)),H 14 kK [.m 13],V 15 (.build [O,O8,O8,O,.nl,.nl,.nl,.nl,.nl] [(0,1,.m 11),(1,4,.m 14)]),V 3 (.alloc [O,O8,O8,O,.nl,.nl,.nl,.nl,.nl]),Yd 9 3 15]
def nW:VC:=.regP (.range 8) (.range 8) [] oB
abbrev BI:=Rg [X 16 8 3,V 17 (.ld none 1 (.m 16)),X 18 8 1,M 19 18,V 20 (.app 1 (.m 17) (.m 19)),X 21 8 3,N (.st 1 (.m 21) (.m 20))]
abbrev Bx:=Rg [C 4 (Q 0)]
abbrev BN:=Rg [B 22 4,X 23 5 1,M 24 23,V 25 (.len (.m 24)),L 26 .lss 22 25]
abbrev ov:=[X 29 5 3,V 30 (.ld none 2 (.m 29)),X 31 5 1,M 32 31,B 33 4,V 34 (.ia 1 (.m 32) (.m 33)),M 35 34,V 36 (.app 2 (.c (.nl)) (.m 35)),V 37 (.mks 1 [.m 36]),V 38 (.app 1 (.m 30) (.m 37)),X 39 5 3,N (.st 1 (.m 39) (.m 38))]
def nR:VC:=.regP (.range 12) (.range 12) [] ov
abbrev BC:=Rg [A 27 4,P 28 .add 27 1,A 4 28]
def fI:VC:=(.seq (.seq BN
 (.cond (.m 26)
 .skip
 (.seq (K [4]) (.exit 0))))
 (.seq (.block 1
 nR)
 BC))
abbrev BG:=Rg [C 5 (Q 0)]
abbrev Bw:=Rg [B 40 5,X 41 6 1,M 42 41,V 43 (.len (.m 42)),L 44 .lss 40 43]
abbrev oy:=[X 47 6 3,V 48 (.ld none 2 (.m 47)),X 49 6 1,M 50 49,B 51 5,V 52 (.ia 1 (.m 50) (.m 51)),M 53 52,V 54 (.app 1 (.c (.nl)) (.m 53)),V 55 (.mks 1 [.m 54]),V 56 (.app 1 (.m 48) (.m 55)),X 57 6 3,N (.st 1 (.m 57) (.m 56))]
def nQ:VC:=.regP (.range 12) (.range 12) [] oy
abbrev yP:=Rg [A 45 5,P 46 .add 45 1,A 5 46]
def fO:VC:=(.seq (.seq Bw
 (.cond (.m 44)
 .skip
 (.seq (K [5]) (.exit 2))))
 (.seq (.block 3
 nQ)
 yP))
abbrev AS:=Rg [C 6 (Q 0)]
abbrev Ai:=Rg [B 58 6,X 59 7 1,M 60 59,V 61 (.len (.m 60)),L 62 .lss 58 61]
abbrev Au:=Rg [V 7 (.mov (.c (.nl)))]
abbrev AJ:=Rg [C 8 (Q 0)]
abbrev Az:=Rg [B 65 8,X 66 7 1,M 67 66,B 68 6,V 69 (.ia 1 (.m 67) (.m 68)),M 70 69,V 71 (.len (.m 70)),L 72 .lss 65 71]
abbrev y7:=Rg [X 75 7 1,M 76 75,B 77 6,V 78 (.ia 1 (.m 76) (.m 77)),M 79 78,B 80 8,V 81 (.ia 5 (.m 79) (.m 80)),V 82 (.ld (some 5) 0 (.m 81)),V 9 (.alloc [O,O,.d (.bool false),.d (.bool false),.nl]),Yd 5 9 82]
abbrev Ar:=Rg [X 83 4 9,M 84 83,V 85 (.app 1 (.c (.nl)) (.m 84)),X 86 4 9,N (.st 1 (.m 86) (.m 85))]
abbrev zY:=Rg [A 87 7,V 88 (.ld (some 5) 1 (.s 9)),V 89 (.mks 5 [.m 88]),V 90 (.app 5 (.m 87) (.m 89)),A 7 90]
abbrev yN:=Rg [A 73 8,P 74 .add 73 1,A 8 74]
def fL:VC:=(.seq (.seq Az
 (.cond (.m 72)
 .skip
 (.seq (K [8]) (.exit 6))))
 (.seq (.block 7
 (.seq y7
 (.seq Ar
 (.seq zY (F 9)))))
 yN))
abbrev Bn:=Rg [X 91 7 3,V 92 (.ld none 1 (.m 91)),A 93 7,V 94 (.mks 1 [.m 93]),V 95 (.app 1 (.m 92) (.m 94)),X 96 7 3,N (.st 1 (.m 96) (.m 95))]
abbrev yR:=Rg [A 63 6,P 64 .add 63 1,A 6 64]
def fM:VC:=(.seq (.seq Ai
 (.cond (.m 62)
 .skip
 (.seq (.seq (K [6]) (F 1)) (.exit 4))))
 (.seq (.block 5
 (.seq Au
 (.seq (.seq AJ
 (.block 6
 (.seq (.loop fL) (K [8]))))
 Bn)))
 yR))
abbrev zZ:=Rg [V 97 (.ld (some 9) 1 (.s 3)),Yd 9 2 97]
def kI:af:=⟨1,[.cell 2 (some 9)],
 (.seq BK
 (.seq nW
 (.seq BI
 (.seq (.seq Bx
 (.block 0
 (.seq (.loop fI) (K [4]))))
 (.seq (.seq BG
 (.block 2
 (.seq (.loop fO) (K [5]))))
 (.seq (.seq AS
 (.block 4
 (.seq (.loop fM) (.seq (K [6]) (F 1)))))
 (.seq (.seq zZ (F 3))
 .ret)))))))⟩
abbrev Sy:=Rg [V 1 (.box (.m 0)),C 2 ff,Z [2]]
abbrev TL:=Rg [X 3 0 1,M 4 3,P 5 .geq 4 0,A 6 5,W 6 7 (.fa 0 (.s 1)),W 6 8 (.ld none 0 (.s 7)),W 6 9 (.bin .leq (.s 8) (Q 11)),V 10 (.pick (.m 6) (.s 9) ff),A 11 10,W 11 12 (.fa 1 (.s 1)),W 11 13 (.ld none 0 (.s 12)),W 11 14 (.bin .eql (.s 13) (Q 1)),W 11 15 (.mov (.s 14)),U 15 16 (.fa 1 (.s 1)),U 15 17 (.ld none 0 (.s 16)),U 15 18 (.bin .eql (.s 17) (Q 2)),W 11 19 (.pick (.s 15) tt (.s 18)),V 20 (.pick (.m 11) (.s 19) ff),A 2 20,Z [7,8,9,12,13,14,15,16,17,18,19]]
def AC:af:=⟨1,[.tmp 2],
 (.seq Sy
 (.seq (.seq TL (F 1))
 .ret))⟩
abbrev VJ:=Rg [V 2 (.box (.m 0)),V 3 (.box (.m 1)),C 4 ff,Z [4]]
abbrev W1:=Rg [X 6 0 3,M 7 6,V 8 (.len (.m 7)),X 9 1 2,M 10 9,L 11 .neq 8 10,A 12 11,U 12 13 (.fa 4 (.s 3)),U 12 14 (.ld none 0 (.s 13)),U 12 15 (.len (.s 14)),U 12 16 (.bin .gtr (.s 15) (Q 269)),V 17 (.pick (.m 12) tt (.s 16)),A 18 17,U 18 19 (.fa 2 (.s 3)),U 18 20 (.ld none 0 (.s 19)),U 18 21 (.bin .lss (.s 20) (Q 0)),V 22 (.pick (.m 18) tt (.s 21)),A 23 22,U 23 24 (.fa 2 (.s 3)),U 23 25 (.ld none 0 (.s 24)),U 23 26 (.bin .gtr (.s 25) (Q 2)),V 27 (.pick (.m 23) tt (.s 26)),Z [13,14,15,16,19,20,21,24,25,26]]
abbrev YG:=Rg [C 4 ff]
abbrev ZD:=Rg [X 28 0 3,M 29 28,V 30 (.mkfn oY [] [.s 2]),V 31 (.calli gn [.m 29,.m 30])]
abbrev Xe:=Rg [C 4 ff]
abbrev WH:=Rg [X 32 0 3,M 33 32,V 34 (.ia 9 (.m 33) (Q 0)),V 35 (.fa 1 (.m 34)),V 36 (.ld (some 4) 0 (.m 35)),V 5 (.alloc [O8,O8,O,.nl]),Yd 4 5 36]
abbrev Xo:=Rg [X 38 1 3,M 39 38,V 40 (.un .not (.m 39)),A 37 40]
abbrev XZ:=Rg [X 41 2 3,M 42 41,P 43 .eql 42 0,A 44 43,W 44 45 (.fa 3 (.s 3)),W 44 46 (.ld none 0 (.s 45)),W 44 47 (.len (.s 46)),W 44 48 (.bin .eql (.s 47) (Q 0)),V 49 (.pick (.m 44) (.s 48) ff),A 4 49,Z [45,46,47,48]]
abbrev VX:VC:=(.reg true [
 V 51 (.fa 1 (.m 2)),
 M 52 51,
 P 53 .eql 52 1,
 A 54 53,
 U 54 55 (.ld (some 4) 0 (.s 5)),
 U 54 56 (.fa 0 (.s 3)),
 U 54 57 (.ld none 0 (.s 56)),
 U 54 58 (.ia 9 (.s 57) (Q 1)),
 U 54 59 (.fa 1 (.s 58)),
 U 54 60 (.ld (some 4) 0 (.s 59)),
 U 54 61 (.call Ds [.s 55,.s 60]),
 U 54 62 (.un .not (.s 61)),
 V 63 (.pick (.s 54) tt (.s 62)),
 A 50 63])
abbrev XO:=Rg [C 4 ff]
abbrev S0:=Rg [X 65 2 3,M 66 65,P 67 .neq 66 1,A 64 67]
abbrev Uv:=Rg [X 68 3 3,M 69 68,V 70 (.len (.m 69)),P 71 .eql 70 0,A 4 71]
abbrev R7:=Rg [X 72 3 3,M 73 72,V 74 (.len (.m 73)),X 75 3 5,M 76 75,V 77 (.len (.m 76)),L 78 .eql 74 77,A 79 78,W 79 80 (.fa 3 (.s 3)),W 79 81 (.ld none 0 (.s 80)),W 79 82 (.mkfn o8 [] [.s 5]),W 79 83 (.calli fR [.s 81,.s 82]),W 79 84 (.un .not (.s 83)),V 85 (.pick (.m 79) (.s 84) ff),A 4 85,Z [5,80,81,82,83,84]]
def DG:af:=⟨2,[.tmp 4],
 (.seq VJ
 (.seq (.seq W1
 (.cond (.m 27)
 (.seq (.seq (K [2]) (F 3)) (.seq YG
 .ret))
 .skip))
 (.seq (.seq ZD
 (.cond (.m 31)
 (.seq (.seq (K [2]) (F 3)) (.seq Xe
 .ret))
 .skip))
 (.seq WH
 (.seq (.block 0
 (.seq Xo
 (.cond (.m 37)
 (.seq (K [2,5]) (.seq (.seq XZ (F 3))
 .ret))
 (.seq (.seq VX (K [54,55,56,57,58,59,60,61,62]))
 (.cond (.m 50)
 (.seq (.seq (K [5]) (F 3)) (.seq XO
 .ret))
 (.seq S0
 (.cond (.m 64)
 (.seq (K [5]) (.seq (.seq Uv (F 3))
 .ret))
 .skip)))))))
 (.seq (.seq R7 (F 3))
 .ret))))))⟩
abbrev Pg:=Rg [V 2 (.box (.m 0)),V 3 (.box (.m 1)),V 4 (.alloc [.nl])]
abbrev PK:=Rg [V 13 (.mkfn bV [] [.s 4]),A 5 13]
abbrev Pn:=Rg [X 14 1 2,M 15 14]
abbrev QV:=Rg [P 57 .eql 15 1,A 56 57]
abbrev Qj:=Rg [B 58 5,V 59 (.callv (.m 58) [Q 0,Q 3]),Z [59]]
abbrev Pe:=Rg [B 60 5,V 61 (.callv (.m 60) [Q 0,Q 4]),Z [61]]
abbrev Ri:=Rg [B 16 5,V 17 (.callv (.m 16) [Q 1,Q 3]),Z [17]]
abbrev N1:=Rg [B 18 5,V 19 (.callv (.m 18) [Q 0,Q 4]),Z [19]]
abbrev OO:=Rg [B 20 5,X 21 1 3,M 22 21,H 23 BZ [.m 22],V 24 (.callv (.m 20) [.m 23,Q 1]),Z [24]]
abbrev Q3:=Rg [X 25 1 3,M 26 25]
abbrev zo:=[G 28 4,X 29 0 2,M 30 29,X 31 0 3,M 32 31,V 33 (.ia 9 (.m 32) (Q 0)),V 34 (.fa 1 (.m 33)),V 35 (.ld (some 4) 0 (.m 34)),H 36 xW [.m 28,.m 30,.m 35],A 27 36,E 37 27 true 0,E 38 27 false 1,Yd 1 4 37]
def xG:VC:=.regP (.range 13) [0,1,2,3,4,5,6,7,8,9,10,12,11] [] zo
abbrev Lb:=Rg [B 39 5,X 40 2 3,M 41 40,V 42 (.callv (.m 39) [.m 41,Q 2]),Z [42]]
abbrev Lj:=Rg [X 43 3 3,M 44 43,H 45 gP [.m 44],V 46 (.len (.s 45)),C 47 (Q 0)]
abbrev Ld:=Rg [J 48 .lss 47 46]
abbrev L7:=Rg [V 49 (.ia 1 (.s 45) (.s 47)),M 50 49,A 7 50]
abbrev MI:=Rg [B 51 5,A 52 7,H 53 BZ [.m 52],V 54 (.callv (.m 51) [.m 53,Q 1]),Z [54]]
abbrev Lh:=Rg [P 55 .add 47 1,A 47 55]
def kY:VC:=(.seq Ld
 (.seq (.cond (.m 48)
 .skip
 (.seq (K [45,46,47]) (.exit 1)))
 (.seq (.block 2
 (.seq L7
 MI))
 Lh)))
abbrev MC:=Rg [X 62 0 3,M 63 62,V 64 (.len (.s 63)),C 65 (Q 0)]
abbrev Lm:=Rg [J 66 .lss 65 64]
abbrev LF:=Rg [V 67 (.ia 9 (.s 63) (.s 65)),V 68 (.ld (some 9) 0 (.m 67)),V 9 (.alloc [O,O8,O8,O,.nl,.nl,.nl,.nl,.nl]),Yd 9 9 68]
abbrev Lf:=Rg [G 70 4,X 71 0 2,M 72 71,V 73 (.ld (some 9) 1 (.s 9)),X 74 1 3,M 75 74,H 76 qx [.m 70,.m 72,.m 73,.m 75],A 69 76,E 77 69 true 0,E 78 69 false 1,Yd 1 4 77,Z [69,78]]
abbrev Mf:=Rg [P 79 .add 65 1,A 65 79]
def kU:VC:=(.seq Lm
 (.seq (.cond (.m 66)
 .skip
 (.seq (.seq (K [63,64,65]) (F 2)) (.exit 3)))
 (.seq (.block 4
 (.seq LF
 (.seq Lf (F 9))))
 Mf)))
abbrev nZ:=Rg [X 80 4 3,M 81 80,V 82 (.len (.m 81)),A 10 82]
abbrev oe:=Rg [B 83 10,P 84 .gtr 83 0]
abbrev n5:=Rg [B 85 5,V 86 (.callv (.m 85) [Q 6,Q 3]),Z [86]]
abbrev ou:=Rg [B 87 5,B 88 10,V 89 (.minmax false [.m 88,Q 15]),V 90 (.callv (.m 87) [.m 89,Q 4]),Z [90]]
abbrev oa:=Rg [B 91 10,P 92 .geq 91 15]
abbrev oh:=Rg [B 93 5,A 94 10,P 95 .sub 94 14,V 96 (.callv (.m 93) [.m 95,Q 8]),Z [96]]
abbrev n8:=Rg [X 98 4 3,M 99 98,H 100 wF [.m 99],A 97 100,E 101 97 true 0,E 102 97 false 1,A 11 101,A 12 102,Z [12,97]]
abbrev ot:=Rg [V 103 (.ld none 1 (.s 4)),A 104 11,V 105 (.app 1 (.m 103) (.m 104)),Yd 1 4 105]
abbrev om:=Rg [A 106 5,V 107 (.callv (.m 106) [Q 7,Q 3]),Z [107]]
abbrev oi:=Rg [V 108 (.ld none 2 (.s 4)),G 109 4,V 110 (.len (.m 109)),P 111 .rem 110 8,V 112 (.bin .sub (Q 8) (.m 111)),P 113 .rem 112 8,V 114 (.appz [.int .u8 0] (.m 108) (.m 113)),Yd 1 4 114]
def xq:af:=⟨2,[.cell 4 none],
 (.seq Pg
 (.seq PK
 (.seq (.seq Pn
 (.block 0
 (.seq QV
 (.cond (.m 56)
 (.seq Qj
 Pe)
 (.seq Ri
 (.seq N1
 (.seq OO
 (.seq Q3
 (.cond (.m 26)
 (.seq (.seq xG (K [27,38]))
 (.seq Lb
 (.seq Lj
 (.block 1
 (.seq (.loop kY) (K [45,46,47]))))))
 .skip)))))))))
 (.seq (.seq MC
 (.block 3
 (.seq (.loop kU) (.seq (K [63,64,65]) (F 2)))))
 (.seq (.seq nZ
 (.seq oe
 (.cond (.m 84)
 (.seq n5
 (.seq ou
 (.seq (.seq oa
 (.cond (.m 92)
 oh
 (.seq (K [10]) .skip)))
 (.seq (.seq n8 (F 3))
 ot))))
 (.seq (.seq (K [10]) (F 3)) .skip))))
 (.seq om
 (.seq oi
 .ret)))))))⟩
abbrev Wt:=Rg [V 3 (.box (.m 1)),V 4 (.alloc [O,O8,O8,O,.nl,.nl,.nl,.nl,.nl]),C 5 (Q 0),Z [5]]
abbrev Xz:=Rg [A 11 0,V 12 (.ld (some 4) 0 (.s 3)),H 13 kb [.m 11,.m 12],A 6 13]
abbrev X8:=Rg [B 14 6,P 15 .neq 14 0]
abbrev YC:=Rg [V 16 (.build [O,O8,O8,O,.nl,.nl,.nl,.nl,.nl] []),A 17 6,Yd 9 4 16,A 5 17]
abbrev VD:=Rg [V 19 (.ld (some 4) 0 (.s 3)),H 20 fW [.m 19],A 18 20,E 21 18 false 0,E 22 18 false 1,A 7 21,A 8 22,Z [8,18]]
abbrev abo:=[V 23 (.ld (some 4) 0 (.s 3)),H 24 agc [.m 23],A 25 7,V 26 (.mkslice [.lst []] (.s 25) (.s 25)),V 27 (.mkslice [.int .i64 0] (Q 256) (Q 256)),V 28 (.build [O,O8,O8,O,.nl,.nl,.nl,.nl,.nl] [(1,4,.m 24),(7,1,.m 26),(8,1,.m 27)]),V 9 (.alloc [O,O8,O8,O,.nl,.nl,.nl,.nl,.nl]),Yd 9 9 28]
def XP:VC:=.regP (.range 8) (.range 8) [] abo
abbrev Yt:=Rg [X 29 3 3,M 30 29,V 31 (.len (.m 30)),C 32 (Q 0)]
abbrev Zc:=Rg [J 33 .lss 32 31]
abbrev X4:=Rg [V 10 (.mov (.c (.nl)))]
abbrev Zl:=Rg [X 34 2 3,M 35 34,P 36 .gtr 35 0]
abbrev RY:=Rg [X 37 2 3,M 38 37,V 39 (.build [O,O] [(1,1,.m 38)]),V 40 (.mks 2 [.m 39]),A 10 40]
def Rv:VC:=.regP (.range 16) (.range 16) [1,6] [X 41 5 9,V 42 (.ld none 2 (.m 41)),A 43 10,V 44 (.mks 1 [.m 43]),V 45 (.app 1 (.m 42) (.m 44)),X 46 6 9,V 47 (.ld none 2 (.m 46)),X 48 2 3,M 49 48,V 50 (.mkslice [.int .i64 0] (.s 49) (.s 49)),V 51 (.mks 1 [.m 50]),V 52 (.app 1 (.m 47) (.m 51)),X 53 5 9,N (.st 1 (.m 53) (.m 45)),X 54 6 9,N (.st 1 (.m 54) (.m 52))]
abbrev Ru:=Rg [P 55 .add 32 1,A 32 55]
def W4:VC:=(.seq Zc
 (.seq (.cond (.m 33)
 .skip
 (.seq (.seq (K [31,32]) (F 3)) (.exit 0)))
 (.seq (.block 1
 (.seq X4
 (.seq (.seq Zl
 (.cond (.m 36)
 (.seq (K [10]) RY)
 .skip))
 (.seq Rv (K [49])))))
 Ru)))
abbrev Vh:=Rg [V 56 (.ld (some 9) 1 (.s 9)),Yd 9 4 56,C 5 (Q 0)]
def afB:af:=⟨2,[.cell 4 (some 9),.tmp 5],
 (.seq Wt
 (.seq (.seq Xz
 (.seq X8
 (.cond (.m 15)
 (.seq (F 3) (.seq YC
 .ret))
 (.seq (K [6]) .skip))))
 (.seq VD
 (.seq (.seq XP (K [25]))
 (.seq (.seq Yt
 (.block 0
 (.seq (.loop W4) (.seq (K [31,32]) (F 3)))))
 (.seq (.seq Vh (F 9))
 .ret))))))⟩
abbrev YT:=Rg [V 2 (.mov (.c (.nl))),C 3 (Q 0),Z [2,3]]
abbrev Wd:=Rg [B 7 0,V 8 (.len (.m 7)),P 9 .gtr 8 16777216]
abbrev Yp:=Rg [V 2 (.mov (.c (.nl))),C 3 (Q 3)]
abbrev Zt:=Rg [B 10 0,V 11 (.len (.m 10)),P 12 .add 11 7,P 13 .quo 12 8,⟨some 14,none,.mkslice [.int .u8 0] (.s 13) (.s 13),[(0,0)]⟩,A 4 14,Z [13]]
abbrev VF:=Rg [A 15 0,V 16 (.len (.s 15)),C 17 (Q 0)]
abbrev VZ:=Rg [J 18 .lss 17 16]
abbrev Yc:=Rg [B 19 17,V 20 (.ia 1 (.s 15) (.s 17)),M 21 20,A 5 19,A 6 21]
abbrev VS:=Rg [B 22 6,V 23 (.bin .gtr (.m 22) (.c (.d (.int .u8 1))))]
abbrev XG:=Rg [V 2 (.mov (.c (.nl))),C 3 (Q 8)]
abbrev abQ:=[B 24 4,B 25 5,P 26 .quo 25 8,V 27 (.ia 1 (.s 24) (.s 26)),M 28 27,A 29 6,B 30 5,P 31 .rem 30 8,V 32 (.bin .sub (Q 7) (.m 31)),L 33 .shl 29 32,L 34 .or 28 33,V 35 (.ia 1 (.s 24) (.s 26)),N (.st 1 (.m 35) (.m 34))]
def XR:VC:=.regP (.range 13) (.range 13) [] abQ
abbrev Ve:=Rg [P 36 .add 17 1,A 17 36]
def VR:VC:=(.seq VZ
 (.seq (.cond (.m 18)
 .skip
 (.seq (K [15,16,17]) (.exit 0)))
 (.seq (.block 1
 (.seq Yc
 (.seq (.seq VS
 (.cond (.m 23)
 (.seq (K [4,5,6,15,16,17]) (.seq XG
 .ret))
 .skip))
 (.seq XR (K [5,24,26])))))
 Ve)))
abbrev UY:=Rg [A 37 4,A 2 37,C 3 (Q 0)]
def afF:af:=⟨1,[.tmp 2,.tmp 3],
 (.seq YT
 (.seq (.seq Wd
 (.cond (.m 9)
 (.seq (K [0]) (.seq Yp
 .ret))
 .skip))
 (.seq Zt
 (.seq (.seq VF
 (.block 0
 (.seq (.loop VR) (K [15,16,17]))))
 (.seq UY
 .ret)))))⟩
abbrev BH:=Rg [V 1 (.box (.m 0)),V 2 (.alloc [O8,O8,O,.nl])]
abbrev Bt:=Rg [V 3 (.mov (.c (.nl)))]
abbrev Bq:=Rg [A 4 3,X 5 3 1,M 6 5,V 7 (.app 1 (.m 4) (.m 6)),X 8 3 1,N (.st 1 (.m 8) (.m 7))]
abbrev By:=Rg [V 9 (.ld (some 4) 1 (.m 1)),Yd 4 2 9]
def kP:af:=⟨1,[.cell 2 (some 4)],
 (.seq BH
 (.seq Bt
 (.seq Bq
 (.seq By
 .ret))))⟩
abbrev r8:=Rg [C 4 ff,Z [4]]
abbrev rU:=Rg [A 5 0,A 6 1,V 7 (.calli i7 [.m 5,.m 6]),P 8 .geq 7 0,A 4 8]
def gw:af:=⟨2,[.tmp 4],
 (.seq r8
 (.seq rU
 .ret))⟩
abbrev QZ:=Rg [V 2 (.box (.m 0)),C 3 ff,Z [3]]
abbrev QO:=Rg [V 4 (.fa 0 (.m 1)),M 5 4,V 6 (.ld (some 9) 1 (.s 2)),H 7 cY [.m 5,.m 6],P 8 .neq 7 0,A 3 8]
def wQ:af:=⟨2,[.tmp 3],
 (.seq QZ
 (.seq (.seq QO (F 2))
 .ret))⟩
abbrev SV:=Rg [V 2 (.box (.m 0)),V 3 (.box (.m 1)),C 4 (Q 0),Z [4]]
abbrev Un:=Rg [G 10 2,X 11 1 3,V 12 (.ld (some 4) 0 (.m 11)),H 13 kb [.m 10,.m 12],A 5 13]
abbrev RA:=Rg [B 14 5,P 15 .neq 14 0]
abbrev SI:=Rg [A 16 5,A 4 16]
abbrev UA:=Rg [X 18 1 3,V 19 (.ld (some 4) 0 (.m 18)),H 20 fW [.m 19],A 17 20,E 21 17 false 0,E 22 17 false 1,V 6 (.alloc [O]),Yd 1 6 21,A 7 22,Z [7,17]]
abbrev UO:=Rg [V 23 (.mkfn nL [] [.s 3]),V 24 (.mkfn nv [] [.s 3]),V 25 (.mkfn nz [] [.s 3]),V 26 (.mkfn nD [] [.s 3,.s 6]),V 27 (.mkfn nN [] [.m 2,.m 3,.m 6]),V 28 (.mksv 1 [.m 23,.m 24,.m 25,.m 26,.m 27]),V 29 (.len (.s 28)),C 30 (Q 0)]
abbrev SN:=Rg [J 31 .lss 30 29]
abbrev Tn:=Rg [V 32 (.ia 1 (.s 28) (.s 30)),M 33 32,A 9 33]
abbrev Vu:=Rg [A 34 9,V 35 (.callv (.m 34) []),V 36 (.un .not (.m 35))]
abbrev SU:=Rg [C 4 (Q 8)]
abbrev OM:=Rg [P 37 .add 30 1,A 30 37]
def fb:VC:=(.seq SN
 (.seq (.cond (.m 31)
 .skip
 (.seq (K [28,29,30]) (.exit 0)))
 (.seq (.block 1
 (.seq Tn
 (.seq Vu
 (.cond (.m 36)
 (.seq (K [28,29,30]) (.seq SU
 .ret))
 .skip))))
 OM)))
abbrev QW:=Rg [C 4 (Q 0)]
def mp:af:=⟨2,[.tmp 4],
 (.seq SV
 (.seq (.seq Un
 (.seq RA
 (.cond (.m 15)
 (.seq (K [2,3]) (.seq SI
 .ret))
 (.seq (K [5]) .skip))))
 (.seq UA
 (.seq (.seq UO
 (.block 0
 (.seq (.loop fb) (K [28,29,30]))))
 (.seq QW
 .ret)))))⟩
abbrev VB:=Rg [V 2 (.box (.m 0)),V 3 (.box (.m 1)),C 4 ff,Z [4]]
abbrev YA:=Rg [X 5 0 2,M 6 5,X 7 0 3,M 8 7,L 9 .eql 6 8,A 10 9,W 10 11 (.fa 1 (.s 2)),W 10 12 (.ld none 0 (.s 11)),W 10 13 (.fa 1 (.s 3)),W 10 14 (.ld none 0 (.s 13)),W 10 15 (.bin .eql (.s 12) (.s 14)),V 16 (.pick (.m 10) (.s 15) ff),A 17 16,W 17 18 (.fa 2 (.s 2)),W 17 19 (.ld none 0 (.s 18)),W 17 20 (.fa 2 (.s 3)),W 17 21 (.ld none 0 (.s 20)),W 17 22 (.bin .eql (.s 19) (.s 21)),V 23 (.pick (.m 17) (.s 22) ff),A 24 23,W 24 25 (.fa 3 (.s 2)),W 24 26 (.ld none 0 (.s 25)),W 24 27 (.fa 3 (.s 3)),W 24 28 (.ld none 0 (.s 27)),W 24 29 (.call ji [.s 26,.s 28]),V 30 (.pick (.m 24) (.s 29) ff),A 4 30,Z [2,3,11,12,13,14,15,18,19,20,21,22,25,26,27,28,29]]
def CP:af:=⟨2,[.tmp 4],
 (.seq VB
 (.seq YA
 .ret))⟩
abbrev qL:=Rg [C 4 ff,Z [4]]
abbrev qQ:=Rg [A 5 0,A 6 1,V 7 (.calli iC [.m 5,.m 6]),P 8 .geq 7 0,A 4 8]
def fQ:af:=⟨2,[.tmp 4],
 (.seq qL
 (.seq qQ
 .ret))⟩
abbrev NY:=Rg [C 3 ff,Z [3]]
abbrev PD:=Rg [A 4 0,V 5 (.len (.m 4)),V 6 (.fa 2 (.m 1)),M 7 6,L 8 .neq 5 7,A 3 8]
def w6:af:=⟨2,[.tmp 3],
 (.seq NY
 (.seq PD
 .ret))⟩
abbrev IW:=Rg [G 6 2,A 7 0,A 8 1,H 9 dq [.m 6,.m 7,.m 8],A 5 9,E 10 5 true 0,E 11 5 false 1,N (.st 1 (.m 2) (.m 10)),Z [5,11]]
def sL:af:=⟨3,[],
 IW⟩
abbrev ab1:=Rg [V 6 (.mov (.c (.nl))),C 7 (Q 0),Z [6,7]]
abbrev abN:=Rg [B 8 2,H 9 zH [.m 8],V 10 (.un .not (.m 9)),A 11 10,U 11 12 (.mov (.s 1)),U 11 13 (.bin .lss (.s 12) (Q 0)),V 14 (.pick (.m 11) tt (.s 13)),A 15 14,U 15 16 (.mov (.s 1)),U 15 17 (.mov (.s 2)),U 15 18 (.bin .shr (.s 16) (.s 17)),U 15 19 (.bin .neq (.s 18) (Q 0)),V 20 (.pick (.m 15) tt (.s 19)),Z [12,13,16,17,18,19]]
abbrev aa8:=Rg [V 6 (.mov (.c (.nl))),C 7 (Q 2)]
abbrev abE:=Rg [A 21 0,H 22 dK [.m 21],A 23 1,A 24 2,V 25 (.calli oJ [.m 23,.m 24]),V 26 (.calli jd [.m 22,.m 25]),A 6 26,C 7 (Q 0)]
def FB:af:=⟨3,[.tmp 6,.tmp 7],
 (.seq ab1
 (.seq (.seq abN
 (.cond (.m 20)
 (.seq (K [0,1,2]) (.seq aa8
 .ret))
 .skip))
 (.seq abE
 .ret)))⟩
abbrev ae4:=Rg [C 2 (Q 0),Z [2]]
abbrev ac0:=Rg [A 3 0]
abbrev adn:=Rg [C 2 (Q 1)]
abbrev aff:=Rg [C 2 (Q 0)]
def Kc:af:=⟨1,[.tmp 2],
 (.seq ae4
 (.seq (.seq ac0
 (.cond (.m 3)
 (.seq adn
 .ret)
 .skip))
 (.seq aff
 .ret)))⟩
abbrev aaE:=Rg [V 3 (.box (.m 0)),V 5 (.box (.m 2)),V 6 (.mov (.c (.nl))),C 7 (Q 0),Z [6,7]]
abbrev ab2:=Rg [A 15 1,V 16 (.ld (some 4) 0 (.s 5)),H 17 kb [.m 15,.m 16],A 8 17]
abbrev ab6:=Rg [B 18 8,P 19 .neq 18 0]
abbrev aci:=Rg [A 20 8,V 6 (.mov (.c (.nl))),A 7 20]
abbrev aaW:=Rg [V 21 (.mkfn mN [] [.s 3]),A 9 21]
abbrev aa3:=Rg [B 22 9,V 23 (.callv (.m 22) [Q 0,Q 1]),Z [23]]
abbrev acd:=Rg [B 24 9,X 25 0 5,M 26 25,V 27 (.conv .i64 (.m 26)),V 28 (.callv (.m 24) [.m 27,Q 2]),Z [28]]
abbrev ab0:=Rg [B 29 9,X 30 1 5,M 31 30,V 32 (.conv .i64 (.m 31)),V 33 (.callv (.m 29) [.m 32,Q 1]),Z [33]]
abbrev ab3:=Rg [X 34 0 5,M 35 34,V 36 (.bin .neq (.m 35) (.c (.d (.int .u8 2))))]
abbrev aaF:=Rg [B 37 9,V 38 (.fa 2 (.m 5)),M 39 38,V 40 (.callv (.m 37) [.m 39,Q 6]),Z [40]]
abbrev Yw:=Rg [A 41 9,V 42 (.callv (.m 41) [Q 0,Q 1]),Z [42]]
abbrev YO:=Rg [V 43 (.ld none 1 (.m 3)),A 6 43,C 7 (Q 0)]
abbrev XH:=Rg [B 44 9,X 45 2 5,M 46 45,V 47 (.callv (.m 44) [.m 46,Q 4]),Z [47]]
abbrev YF:=Rg [C 10 (Q 1)]
abbrev VA:=Rg [B 48 10,P 49 .lss 48 8]
abbrev WD:=Rg [V 53 (.ld (some 4) 0 (.s 5)),B 54 10,P 55 .sub 54 1,H 56 nc [.m 53,.m 55],A 52 56,E 57 52 false 0,E 58 52 false 1,A 11 57,A 12 58,Z [12,52]]
abbrev Yi:=Rg [V 60 (.ld (some 4) 0 (.s 5)),B 61 10,H 62 nc [.m 60,.m 61],A 59 62,E 63 59 false 0,E 64 59 false 1,A 13 63,A 14 64,Z [14,59]]
abbrev We:=Rg [A 65 11,A 66 13,L 67 .eql 65 66]
abbrev VP:=Rg [B 68 9,V 69 (.callv (.m 68) [Q 1,Q 1]),Z [69]]
abbrev Y1:=Rg [B 70 9,V 71 (.callv (.m 70) [Q 0,Q 1]),Z [71]]
abbrev Xv:=Rg [A 50 10,P 51 .add 50 1,A 10 51]
def oT:VC:=(.seq (.seq VA
 (.cond (.m 49)
 .skip
 (.seq (K [5,9,10]) (.exit 0))))
 (.seq (.block 1
 (.seq WD
 (.seq Yi
 (.seq We
 (.cond (.m 67)
 VP
 Y1)))))
 Xv))
abbrev WR:=Rg [V 72 (.ld none 1 (.m 3)),A 6 72,C 7 (Q 0)]
def Gj:af:=⟨3,[.tmp 6,.tmp 7],
 (.seq aaE
 (.seq (.seq ab2
 (.seq ab6
 (.cond (.m 19)
 (.seq (K [3,5]) (.seq aci
 .ret))
 (.seq (K [8]) .skip))))
 (.seq aaW
 (.seq aa3
 (.seq acd
 (.seq ab0
 (.seq (.seq ab3
 (.cond (.m 36)
 (.seq aaF
 (.seq Yw
 (.seq YO
 .ret)))
 .skip))
 (.seq XH
 (.seq (.seq YF
 (.block 0
 (.seq (.loop oT) (K [5,9,10]))))
 (.seq WR
 .ret))))))))))⟩
abbrev z7:=Rg [V 2 (.mov (.c (.nl))),Z [2]]
abbrev Ag:=Rg [C 3 (Q 0)]
abbrev Af:=Rg [B 9 0,V 10 (.len (.s 9)),C 11 (Q 0)]
abbrev AG:=Rg [J 12 .lss 11 10]
abbrev Bf:=Rg [V 13 (.ia 1 (.s 9) (.s 11)),M 14 13,A 5 14]
abbrev AR:=Rg [A 15 3,A 16 5,V 17 (.len (.m 16)),L 18 .add 15 17,A 3 18]
abbrev AY:=Rg [B 19 3,P 20 .lss 19 0]
abbrev Bm:=Rg [V 21 (.bad ),N (.bad )]
abbrev AE:=Rg [P 22 .add 11 1,A 11 22]
def dI:VC:=(.seq AG
 (.seq (.cond (.m 12)
 .skip
 (.seq (K [9,10,11]) (.exit 0)))
 (.seq (.block 1
 (.seq Bf
 (.seq AR
 (.seq AY
 (.cond (.m 20)
 Bm
 .skip)))))
 AE)))
abbrev AL:=Rg [A 23 3,V 24 (.calli jo [.c (.nl),.m 23]),A 6 24]
abbrev yk:=Rg [A 25 0,V 26 (.len (.s 25)),C 27 (Q 0)]
abbrev xU:=Rg [J 28 .lss 27 26]
abbrev yn:=Rg [V 29 (.ia 1 (.s 25) (.s 27)),M 30 29,A 8 30]
abbrev ya:=Rg [A 31 6,A 32 8,V 33 (.app 1 (.m 31) (.m 32)),A 6 33]
abbrev xP:=Rg [P 34 .add 27 1,A 27 34]
def bh:VC:=(.seq xU
 (.seq (.cond (.m 28)
 .skip
 (.seq (K [25,26,27]) (.exit 2)))
 (.seq (.block 3
 (.seq yn
 ya))
 xP)))
abbrev yq:=Rg [A 35 6,A 2 35]
def gI:af:=⟨1,[.tmp 2],
 (.seq z7
 (.seq Ag
 (.seq (.seq Af
 (.block 0
 (.seq (.loop dI) (K [9,10,11]))))
 (.seq AL
 (.seq (.seq yk
 (.block 2
 (.seq (.loop bh) (K [25,26,27]))))
 (.seq yq
 .ret))))))⟩
abbrev acC:=Rg [V 6 (.box (.m 2)),V 8 (.mov (.c (.nl))),C 9 (Q 0),Z [8,9]]
abbrev acQ:=Rg [B 16 1,V 17 (.ld (some 9) 0 (.s 6)),H 18 cY [.m 16,.m 17],A 10 18]
abbrev adi:=Rg [B 19 10,P 20 .neq 19 0]
abbrev adv:=Rg [A 21 10,V 8 (.mov (.c (.nl))),A 9 21]
abbrev aed:=Rg [A 23 0,X 24 0 6,M 25 24,H 26 dq [.m 23,.m 25,Q 8],A 22 26,E 27 22 true 0,E 28 22 false 1,A 0 27,Z [22,28]]
abbrev aej:=Rg [A 29 3,V 30 (.un .not (.m 29))]
abbrev adm:=Rg [A 32 0,B 33 1,X 34 1 6,V 35 (.ld (some 4) 0 (.m 34)),H 36 xW [.m 32,.m 33,.m 35],A 31 36,E 37 31 true 0,E 38 31 false 1,A 0 37,Z [31,38]]
abbrev adQ:=Rg [A 40 0,X 41 1 6,V 42 (.ld (some 4) 0 (.m 41)),X 43 5 6,M 44 43,H 45 FE [.m 40,.m 42,.m 44],A 39 45,E 46 39 true 0,E 47 39 false 1,A 0 46,Z [39,47]]
abbrev acI:=Rg [A 49 0,X 50 0 6,M 51 50,X 52 5 6,M 53 52,X 54 6 6,M 55 54,H 56 CK [.m 49,.m 51,.m 53,.m 55],A 48 56,E 57 48 true 0,E 58 48 false 1,A 0 57,Z [48,58]]
abbrev adH:=Rg [X 59 7 6,M 60 59,H 61 ui [.m 60]]
abbrev JB:=[A 63 0,V 64 (.mks 1 [.c (.d (.int .u8 0)),.c (.d (.int .u8 1))]),V 65 (.app 1 (.m 63) (.m 64)),X 66 1 6,V 67 (.ld (some 4) 0 (.m 66)),X 68 7 6,M 69 68,H 70 xy [.m 65,.m 67,.m 69],A 62 70,E 71 62 true 0,E 72 62 false 1,A 0 71]
def Hk:VC:=.regP (.range 12) [0,1,2,3,4,5,6,7,8,9,11,10] [] JB
abbrev abj:=Rg [A 73 0,V 74 (.mks 1 [.c (.d (.int .u8 0))]),V 75 (.app 1 (.m 73) (.m 74)),A 0 75]
abbrev abg:=Rg [A 76 0,V 77 (.mks 1 [.c (.d (.int .u8 0)),.c (.d (.int .u8 0)),.c (.d (.int .u8 0))]),V 78 (.app 1 (.m 76) (.m 77)),A 0 78]
abbrev aa9:=Rg [V 79 (.build [O,O,.nl,.nl,O,O,.nl,.nl,O,O,.nl,.nl,O,O,.nl,.nl,O,O,.nl,.nl,O,O,.nl,.nl,O,O,.nl,.nl,O,O,.nl,.nl,O,O,.nl,.nl,O,O,.nl,.nl,O,O,.nl,.nl,O,O,.nl,.nl] []),V 80 (.box (.m 79)),V 11 (.alloc [.nilp]),Yd 1 11 80]
abbrev abZ:=Rg [V 12 (.alloc [.nl])]
abbrev abt:=Rg [A 81 1,X 82 1 6,V 83 (.ld (some 4) 0 (.m 82)),X 84 5 6,M 85 84,V 86 (.calli Ao [.m 81,.m 83,.m 85])]
abbrev abn:=Rg [V 13 (.alloc [O,O,O]),Yd 3 13 87,Z [0,86]]
def Hm:VC:=.regP [0,1,2,4,5,6,7,8,9,10,3,11,12,13,14,15,16] [0,1,2,3,4,5,6,7,8,9,10,11,12,13,15,14,16] [3,5,7,9,10] [G 89 11,X 90 0 13,M 91 90,V 92 (.calli l0 [.m 89,.m 91]),X 93 8 6,M 94 93,X 95 1 13,M 96 95,X 97 2 13,M 98 97,V 99 (.slice 1 (.m 94) (some (.m 96)) (some (.m 98)) none),H 100 xL [.c (.nl),.m 92,.m 99],A 88 100,E 101 88 true 0,E 102 88 false 1,A 14 101,A 15 102]
abbrev ach:=Rg [V 103 (.ld none 1 (.s 12)),A 104 14,V 105 (.app 1 (.m 103) (.m 104)),Yd 1 12 105,Z [12]]
def mG:VC:=abn
def mA:VC:=(.block 1
 (.seq (.seq Hm (.seq (K [6,11,15,88]) (F 13)))
 ach))
abbrev aa5:=Rg [A 106 0,V 107 (.ld none 1 (.s 12)),V 108 (.app 1 (.m 106) (.m 107)),A 8 108,C 9 (Q 0)]
def BX:af:=⟨4,[.tmp 8,.tmp 9],
 (.seq acC
 (.seq (.seq acQ
 (.seq adi
 (.cond (.m 20)
 (.seq (.seq (K [0,1,3]) (F 6)) (.seq adv
 .ret))
 (.seq (K [10]) .skip))))
 (.seq aed
 (.seq (.seq aej
 (.cond (.m 30)
 adm
 .skip))
 (.seq adQ
 (.seq acI
 (.seq (.seq adH
 (.cond (.m 61)
 (.seq (.seq Hk (K [62,72]))
 abj)
 abg))
 (.seq aa9
 (.seq abZ
 (.seq (.seq abt
 (.block 0
 (.seq (.rangeF (.s 86) [87] mG mA) (.seq (.seq (F 6) (F 11)) (F 86)))))
 (.seq (.seq aa5 (F 12))
 .ret)))))))))))⟩
abbrev N3:=Rg [V 2 (.mov (.c (.nl))),C 3 (Q 0),Z [2,3]]
abbrev QP:=Rg [B 8 0,V 9 (.len (.m 8)),P 10 .gtr 9 2097152]
abbrev QE:=Rg [V 2 (.mov (.c (.nl))),C 3 (Q 3)]
abbrev Qy:=Rg [B 11 0,V 12 (.len (.m 11)),V 13 (.bin .mul (Q 8) (.m 12)),V 14 (.mkslice [.int .u8 0] (Q 0) (.m 13)),V 4 (.alloc [.nl]),Yd 1 4 14]
abbrev Q5:=Rg [A 15 0,V 16 (.len (.s 15)),C 17 (Q 0)]
abbrev Qk:=Rg [J 18 .lss 17 16]
abbrev PX:=Rg [V 19 (.ia 1 (.s 15) (.s 17)),M 20 19,A 6 20]
abbrev PH:=Rg [A 21 6,V 22 (.conv .i64 (.m 21)),V 23 (.calli oJ [.m 22,Q 8])]
abbrev Pp:=Rg [A 7 24,Z [15,16,17,23]]
abbrev PJ:=Rg [V 25 (.ld none 1 (.s 4)),A 26 7,V 27 (.mks 1 [.m 26]),V 28 (.app 1 (.m 25) (.m 27)),N (.st 1 (.m 4) (.m 28))]
def pR:VC:=Pp
def pP:VC:=(.block 3
 PJ)
abbrev Ly:=Rg [P 29 .add 17 1,A 17 29]
def iS:VC:=(.seq Qk
 (.seq (.cond (.m 18)
 .skip
 (.seq (K [15,16,17]) (.exit 0)))
 (.seq (.block 1
 (.seq PX
 (.seq PH
 (.block 2
 (.seq (.rangeF (.s 23) [24] pR pP) (F 23))))))
 Ly)))
abbrev Md:=Rg [V 30 (.ld none 1 (.m 4)),A 2 30,C 3 (Q 0)]
def wP:af:=⟨1,[.tmp 2,.tmp 3],
 (.seq N3
 (.seq (.seq QP
 (.cond (.m 10)
 (.seq (K [0]) (.seq QE
 .ret))
 .skip))
 (.seq Qy
 (.seq (.seq Q5
 (.block 0
 (.seq (.loop iS) (K [15,16,17]))))
 (.seq Md
 .ret)))))⟩
abbrev Tz:=Rg [V 3 (.box (.m 1)),C 4 (Q 0),Z [4]]
abbrev Vs:=Rg [A 8 0,X 9 0 3,M 10 9,V 11 (.bin .eql (.m 10) (.c (.d (.int .u8 2)))),H 12 C5 [.m 8,.m 11],A 7 12,E 13 7 false 0,E 14 7 false 1,A 5 13,A 6 14,Z [7]]
abbrev UG:=Rg [B 15 6,P 16 .neq 15 0]
abbrev UB:=Rg [A 17 6,A 4 17]
abbrev UE:=Rg [X 18 0 3,M 19 18,V 20 (.bin .gtr (.m 19) (.c (.d (.int .u8 3)))),A 21 20,U 21 22 (.fa 1 (.s 3)),U 21 23 (.ld none 0 (.s 22)),U 21 24 (.bin .gtr (.s 23) (.c (.d (.int .u8 1)))),V 25 (.pick (.m 21) tt (.s 24)),A 26 25,U 26 27 (.fa 2 (.s 3)),U 26 28 (.ld none 0 (.s 27)),U 26 29 (.bin .lss (.s 28) (Q 0)),V 30 (.pick (.m 26) tt (.s 29)),A 31 30,U 31 32 (.fa 2 (.s 3)),U 31 33 (.ld none 0 (.s 32)),U 31 34 (.mov (.s 5)),U 31 35 (.bin .gtr (.s 33) (.s 34)),V 36 (.pick (.m 31) tt (.s 35)),A 37 36,U 37 38 (.ld (some 4) 0 (.s 3)),U 37 39 (.call tX [.s 38]),U 37 40 (.un .not (.s 39)),V 41 (.pick (.m 37) tt (.s 40)),Z [3,5,22,23,24,27,28,29,32,33,34,35,38,39,40]]
abbrev Ut:=Rg [C 4 (Q 8)]
abbrev RI:=Rg [C 4 (Q 0)]
def Ad:af:=⟨2,[.tmp 4],
 (.seq Tz
 (.seq Vs
 (.seq (.seq UG
 (.cond (.m 16)
 (.seq (K [3,5]) (.seq UB
 .ret))
 (.seq (K [6]) .skip)))
 (.seq (.seq UE
 (.cond (.m 41)
 (.seq Ut
 .ret)
 .skip))
 (.seq RI
 .ret)))))⟩
abbrev MP:=Rg [V 1 (.box (.m 0)),C 2 (Q 0),C 3 (Q 0),Z [2,3]]
abbrev MS:=Rg [V 5 (.ld (some 4) 0 (.s 1)),H 6 DJ [.m 5],V 7 (.un .not (.m 6)),A 4 7]
abbrev MY:=Rg [C 2 (Q 0),C 3 (Q 8)]
abbrev LQ:=Rg [V 9 (.fa 0 (.m 1)),M 10 9,V 11 (.bin .eql (.m 10) (.c (.d (.int .u8 2)))),A 8 11]
abbrev Mx:=Rg [C 2 (Q 8),C 3 (Q 0)]
abbrev L4:=Rg [C 2 (Q 1),C 3 (Q 0)]
def tK:af:=⟨1,[.tmp 2,.tmp 3],
 (.seq MP
 (.seq (.block 0
 (.seq MS
 (.cond (.m 4)
 (.seq (K [1]) (.seq MY
 .ret))
 (.seq LQ
 (.cond (.m 8)
 (.seq Mx
 .ret)
 .skip)))))
 (.seq L4
 .ret)))⟩
abbrev Y6:=Rg [V 1 (.box (.m 0)),V 2 (.alloc [O8,O8,O,.nl])]
abbrev Ys:=Rg [X 3 3 1,M 4 3,H 5 Hs [.m 4],X 6 3 1,N (.st 1 (.m 6) (.m 5))]
abbrev Y4:=Rg [V 7 (.ld (some 4) 1 (.m 1)),Yd 4 2 7]
def afM:af:=⟨1,[.cell 2 (some 4)],
 (.seq Y6
 (.seq Ys
 (.seq Y4
 .ret)))⟩
abbrev wu:=Rg [C 4 (Q 0),Z [4]]
abbrev vK:=Rg [B 6 0,V 7 (.len (.m 6)),C 8 (Q 0)]
abbrev v8:=Rg [J 9 .lss 8 7]
abbrev wA:=Rg [B 10 8,A 5 10]
abbrev wh:=Rg [B 11 1,B 12 0,B 13 5,V 14 (.ia 9 (.m 12) (.m 13)),V 15 (.ld (some 9) 0 (.m 14)),V 16 (.callv (.m 11) [.m 15])]
abbrev wm:=Rg [A 17 5,A 4 17]
abbrev v6:=Rg [P 18 .add 8 1,A 8 18]
def bG:VC:=(.seq v8
 (.seq (.cond (.m 9)
 .skip
 (.seq (K [0,1,7,8]) (.exit 0)))
 (.seq (.block 1
 (.seq wA
 (.seq wh
 (.cond (.m 16)
 (.seq (K [0,1,7,8]) (.seq wm
 .ret))
 (.seq (K [5]) .skip)))))
 v6)))
abbrev wC:=Rg [C 4 (Q (-1))]
def fw:af:=⟨2,[.tmp 4],
 (.seq wu
 (.seq (.seq vK
 (.block 0
 (.seq (.loop bG) (K [0,1,7,8]))))
 (.seq wC
 .ret)))⟩
abbrev Lw:=Rg [C 1 ff,Z [1]]
abbrev MU:=Rg [X 2 0 0,M 3 2,P 4 .geq 3 0,A 5 4,W 5 6 (.fa 0 (.s 0)),W 5 7 (.ld none 0 (.s 6)),W 5 8 (.bin .leq (.s 7) (Q 255)),V 9 (.pick (.m 5) (.s 8) ff),A 1 9,Z [0,6,7,8]]
def u4:af:=⟨1,[.tmp 1],
 (.seq Lw
 (.seq MU
 .ret))⟩
abbrev Mo:=Rg [C 1 ff,Z [1]]
abbrev LJ:=Rg [V 2 (.ld (some 9) 0 (.m 0)),H 3 lW [.m 2],A 1 3]
def uw:af:=⟨1,[.tmp 1],
 (.seq Mo
 (.seq LJ
 .ret))⟩
abbrev IY:=Rg [V 1 (.box (.m 0)),C 2 ff,Z [2]]
abbrev Jn:=Rg [X 8 5 1,M 9 8,V 10 (.len (.m 9)),X 11 1 1,V 12 (.fa 3 (.m 11)),M 13 12,V 14 (.len (.m 13)),L 15 .neq 10 14]
abbrev Id:=Rg [C 2 ff]
abbrev JG:=Rg [X 16 5 1,M 17 16,V 18 (.len (.s 17)),C 19 (Q 0)]
abbrev Jc:=Rg [J 20 .lss 19 18]
abbrev I5:=Rg [V 21 (.ia 1 (.s 17) (.s 19)),M 22 21,A 4 22]
abbrev IH:=Rg [C 5 (Q 0)]
abbrev IL:=Rg [B 23 4,V 24 (.len (.s 23)),C 25 (Q 0)]
abbrev IG:=Rg [J 26 .lss 25 24]
abbrev J9:=Rg [V 27 (.ia 2 (.s 23) (.s 25)),V 28 (.ld (some 2) 0 (.m 27)),V 7 (.alloc [O,O]),Yd 2 7 28]
abbrev HD:=Rg [X 29 1 7,M 30 29,P 31 .lss 30 1,A 32 31,U 32 33 (.fa 1 (.s 7)),U 32 34 (.ld none 0 (.s 33)),U 32 35 (.bin .gtr (.s 34) (Q 40)),V 36 (.pick (.m 32) tt (.s 35)),A 37 36,U 37 38 (.fa 0 (.s 7)),U 37 39 (.ld none 0 (.s 38)),U 37 40 (.bin .lss (.s 39) (Q 0)),V 41 (.pick (.m 37) tt (.s 40)),A 42 41,U 42 43 (.fa 0 (.s 7)),U 42 44 (.ld none 0 (.s 43)),U 42 45 (.bin .gtr (.s 44) (Q 11)),U 42 46 (.mov (.s 45)),W 46 47 (.fa 0 (.s 7)),W 46 48 (.ld none 0 (.s 47)),W 46 49 (.bin .neq (.s 48) (Q 13)),U 42 50 (.pick (.s 46) (.s 49) ff),V 51 (.pick (.m 42) tt (.s 50)),Z [33,34,35,38,39,40,43,44,45,46,47,48,49,50]]
abbrev HH:=Rg [C 2 ff]
abbrev HP:=Rg [A 52 5,X 53 1 7,M 54 53,L 55 .add 52 54,A 5 55]
abbrev HV:=Rg [P 56 .add 25 1,A 25 56]
def gp:VC:=(.seq IG
 (.seq (.cond (.m 26)
 .skip
 (.seq (K [23,24,25]) (.exit 2)))
 (.seq (.block 3
 (.seq J9
 (.seq (.seq HD
 (.cond (.m 51)
 (.seq (.seq (.seq (K [4,5,17,18,19,23,24,25]) (F 1)) (F 7)) (.seq HH
 .ret))
 .skip))
 (.seq HP (F 7)))))
 HV)))
abbrev HE:=Rg [A 57 5,X 58 1 1,V 59 (.fa 2 (.m 58)),M 60 59,L 61 .neq 57 60,A 62 61,U 62 63 (.mov (.s 4)),U 62 64 (.len (.s 63)),U 62 65 (.bin .gtr (.s 64) (Q 40)),V 66 (.pick (.m 62) tt (.s 65)),Z [4,63,64,65]]
abbrev HR:=Rg [C 2 ff]
abbrev HC:=Rg [P 67 .add 19 1,A 19 67]
def eC:VC:=(.seq Jc
 (.seq (.cond (.m 20)
 .skip
 (.seq (.seq (K [17,18,19]) (F 1)) (.exit 0)))
 (.seq (.block 1
 (.seq I5
 (.seq IH
 (.seq (.seq IL
 (.block 2
 (.seq (.loop gp) (K [23,24,25]))))
 (.seq HE
 (.cond (.m 66)
 (.seq (.seq (K [17,18,19]) (F 1)) (.seq HR
 .ret))
 .skip))))))
 HC)))
abbrev HN:=Rg [C 2 tt]
def sv:af:=⟨1,[.tmp 2],
 (.seq IY
 (.seq (.seq Jn
 (.cond (.m 15)
 (.seq (F 1) (.seq Id
 .ret))
 .skip))
 (.seq (.seq JG
 (.block 0
 (.seq (.loop eC) (.seq (K [17,18,19]) (F 1)))))
 (.seq HN
 .ret))))⟩
abbrev MD:=Rg [C 1 ff,Z [1]]
abbrev M6:=Rg [V 2 (.ld (some 9) 0 (.m 0)),H 3 sj [.m 2],A 1 3]
def uK:af:=⟨1,[.tmp 1],
 (.seq MD
 (.seq M6
 .ret))⟩
abbrev Vr:=Rg [V 1 (.box (.m 0)),C 2 ff,Z [2]]
abbrev Uo:=Rg [X 12 6 1,M 13 12,V 14 (.len (.m 13)),X 15 1 1,V 16 (.fa 3 (.m 15)),M 17 16,V 18 (.len (.m 17)),L 19 .neq 14 18]
abbrev Vn:=Rg [C 2 ff]
abbrev Uu:=Rg [X 20 0 1,M 21 20,A 3 21,C 4 (Q 0),C 5 ff]
abbrev Vc:=Rg [X 22 6 1,M 23 22,V 24 (.len (.s 23)),C 25 (Q 0)]
abbrev SO:=Rg [J 26 .lss 25 24]
abbrev Sk:=Rg [B 27 25,V 28 (.ia 1 (.s 23) (.s 25)),M 29 28,A 6 27,A 7 29]
abbrev Su:=Rg [B 30 7,V 31 (.len (.m 30)),X 32 1 1,V 33 (.fa 2 (.m 32)),M 34 33,L 35 .neq 31 34]
abbrev SE:=Rg [C 2 ff]
abbrev R6:=Rg [A 36 7,V 37 (.len (.s 36)),C 38 (Q 0)]
abbrev OZ:=Rg [J 39 .lss 38 37]
abbrev Px:=Rg [B 40 38,V 41 (.ia 1 (.s 36) (.s 38)),M 42 41,A 8 40,A 9 42]
abbrev QX:=Rg [X 44 5 1,M 45 44,B 46 6,A 47 8,H 48 vj [.m 45,.m 46,.m 47],A 43 48,E 49 43 false 0,E 50 43 false 1,A 10 49,A 11 50,Z [11,43]]
abbrev Qo:=Rg [B 52 10,P 53 .eql 52 0,A 54 53,W 54 55 (.mov (.s 9)),W 54 56 (.bin .neq (.s 55) (Q 0)),V 57 (.pick (.m 54) (.s 56) ff),A 51 57,Z [55,56]]
abbrev P5:=Rg [C 2 ff]
abbrev N7:=Rg [B 59 10,P 60 .eql 59 13,A 58 60]
abbrev PI:=Rg [B 61 9,P 62 .lss 61 0,A 63 62,U 63 64 (.mov (.s 9)),U 63 65 (.bin .gtr (.s 64) (Q 511)),V 66 (.pick (.m 63) tt (.s 65)),A 67 66,U 67 68 (.mov (.s 5)),U 67 69 (.mov (.s 68)),W 69 70 (.mov (.s 4)),W 69 71 (.mov (.s 9)),W 69 72 (.call vA [.s 70,.s 71]),W 69 73 (.un .not (.s 72)),U 67 74 (.pick (.s 69) (.s 73) ff),V 75 (.pick (.m 67) tt (.s 74)),Z [4,5,64,65,68,69,70,71,72,73,74]]
abbrev OR:=Rg [C 2 ff]
abbrev Pr:=Rg [A 76 9,A 4 76,C 5 tt]
abbrev Pf:=Rg [A 78 10,P 79 .gtr 78 0,A 77 79]
abbrev OW:=Rg [B 80 9,P 81 .lss 80 0,A 82 81,U 82 83 (.mov (.s 9)),U 82 84 (.bin .gtr (.s 83) (Q 255)),V 85 (.pick (.m 82) tt (.s 84)),A 86 85,U 86 87 (.mov (.s 3)),U 86 88 (.mov (.s 9)),U 86 89 (.call vA [.s 87,.s 88]),U 86 90 (.un .not (.s 89)),V 91 (.pick (.m 86) tt (.s 90)),Z [3,83,84,87,88,89,90]]
abbrev Py:=Rg [C 2 ff]
abbrev OD:=Rg [A 92 9,A 3 92]
abbrev P4:=Rg [P 93 .add 38 1,A 38 93]
def dp:VC:=(.seq OZ
 (.seq (.cond (.m 39)
 .skip
 (.seq (K [6,36,37,38]) (.exit 2)))
 (.seq (.block 3
 (.seq Px
 (.seq QX
 (.block 4
 (.seq Qo
 (.cond (.m 51)
 (.seq (.seq (K [3,4,5,6,9,10,23,24,25,36,37,38]) (F 1)) (.seq P5
 .ret))
 (.seq N7
 (.cond (.m 58)
 (.seq (K [10]) (.seq (.seq PI
 (.cond (.m 75)
 (.seq (.seq (K [3,6,9,23,24,25,36,37,38]) (F 1)) (.seq OR
 .ret))
 .skip))
 Pr))
 (.seq Pf
 (.cond (.m 77)
 (.seq (.seq OW
 (.cond (.m 91)
 (.seq (.seq (K [4,5,6,9,23,24,25,36,37,38]) (F 1)) (.seq Py
 .ret))
 .skip))
 OD)
 (.seq (K [9]) .skip)))))))))))
 P4)))
abbrev Pb:=Rg [P 94 .add 25 1,A 25 94]
def gE:VC:=(.seq SO
 (.seq (.cond (.m 26)
 .skip
 (.seq (.seq (K [3,4,5,23,24,25]) (F 1)) (.exit 0)))
 (.seq (.block 1
 (.seq Sk
 (.seq (.seq Su
 (.cond (.m 35)
 (.seq (.seq (K [3,4,5,6,7,23,24,25]) (F 1)) (.seq SE
 .ret))
 .skip))
 (.seq R6
 (.block 2
 (.seq (.loop dp) (K [6,36,37,38])))))))
 Pb)))
abbrev QD:=Rg [C 2 tt]
def yT:af:=⟨1,[.tmp 2],
 (.seq Vr
 (.seq (.seq Uo
 (.cond (.m 19)
 (.seq (F 1) (.seq Vn
 .ret))
 .skip))
 (.seq Uu
 (.seq (.seq Vc
 (.block 0
 (.seq (.loop gE) (.seq (K [3,4,5,23,24,25]) (F 1)))))
 (.seq QD
 .ret)))))⟩
abbrev LY:=Rg [C 2 ff,Z [2]]
abbrev Mc:=Rg [V 3 (.ld (some 9) 0 (.m 0)),M 4 1,H 5 nE [.m 3,.m 4],A 2 5]
def uR:af:=⟨2,[.tmp 2],
 (.seq LY
 (.seq Mc
 .ret))⟩
abbrev M4:=Rg [V 2 (.box (.m 0)),C 4 ff,Z [4]]
abbrev LV:=Rg [X 9 1 2,V 10 (.fa 0 (.m 9)),M 11 10,V 12 (.bin .eql (.m 11) (.c (.d (.int .u8 2)))),V 5 (.alloc [.d (.bool false)]),Yd 1 5 12]
abbrev Nj:=Rg [C 6 (Q 3)]
abbrev L0:=Rg [G 13 5]
abbrev L6:=Rg [C 6 (Q 1)]
abbrev Ma:=Rg [X 14 7 2,M 15 14,V 16 (.len (.m 15)),A 17 1,L 18 .neq 16 17]
abbrev Lc:=Rg [C 4 ff]
abbrev Mi:=Rg [X 19 7 2,M 20 19,V 21 (.len (.s 20)),C 22 (Q 0)]
abbrev Ln:=Rg [J 23 .lss 22 21]
abbrev MG:=Rg [V 24 (.ia 1 (.s 20) (.s 22)),M 25 24,V 8 (.alloc [.nl]),Yd 1 8 25]
abbrev Jo:=Rg [G 26 8,V 27 (.len (.m 26)),B 28 6,L 29 .gtr 27 28,A 30 29,U 30 31 (.ld none 0 (.s 8)),U 30 32 (.mkfn fT [] [.s 5,.s 8]),U 30 33 (.calli bQ [.s 31,.s 32]),V 34 (.pick (.m 30) tt (.s 33)),Z [8,31,32,33]]
abbrev JM:=Rg [C 4 ff]
abbrev Jx:=Rg [P 35 .add 22 1,A 22 35]
def dk:VC:=(.seq Ln
 (.seq (.cond (.m 23)
 .skip
 (.seq (K [5,6,20,21,22]) (.exit 0)))
 (.seq (.block 1
 (.seq MG
 (.seq Jo
 (.cond (.m 34)
 (.seq (K [5,6,20,21,22]) (.seq JM
 .ret))
 .skip))))
 Jx)))
abbrev Ke:=Rg [C 4 tt]
def ug:af:=⟨2,[.tmp 4],
 (.seq M4
 (.seq LV
 (.seq Nj
 (.seq (.seq L0
 (.cond (.m 13)
 (.seq (K [6]) L6)
 .skip))
 (.seq (.seq Ma
 (.cond (.m 18)
 (.seq (.seq (K [5,6]) (F 2)) (.seq Lc
 .ret))
 .skip))
 (.seq (.seq (.seq Mi (F 2))
 (.block 0
 (.seq (.loop dk) (K [5,6,20,21,22]))))
 (.seq Ke
 .ret)))))))⟩
abbrev Nh:=Rg [C 3 ff,Z [3]]
abbrev MK:=Rg [M 4 0,V 5 (.ld (some 9) 0 (.m 1)),M 6 2,H 7 mw [.m 4,.m 5,.m 6],A 3 7]
def uH:af:=⟨3,[.tmp 3],
 (.seq Nh
 (.seq MK
 .ret))⟩
abbrev SG:=Rg [V 4 (.box (.m 1)),C 6 ff,Z [6]]
abbrev Vj:=Rg [X 18 8 4,M 19 18,V 20 (.len (.m 19)),P 21 .neq 20 256]
abbrev Uf:=Rg [C 6 ff]
abbrev Sf:=Rg [X 22 1 4,V 23 (.fa 0 (.m 22)),M 24 23,V 25 (.bin .eql (.m 24) (.c (.d (.int .u8 2)))),A 7 25]
abbrev T2:=Rg [A 27 0,A 28 7,H 29 iK [.m 27,.m 28],A 26 29,E 30 26 true 0,E 31 26 false 1,A 8 30,A 9 31,Z [9,26]]
abbrev R8:=Rg [B 32 2,V 33 (.bin .quo (Q 256) (.m 32)),A 10 33]
abbrev UC:=Rg [A 34 2,C 35 (Q 0)]
abbrev Um:=Rg [J 36 .lss 35 34]
abbrev Vf:=Rg [B 37 35,A 11 37]
abbrev Sr:=Rg [X 39 1 4,V 40 (.ld (some 4) 0 (.m 39)),B 41 11,H 42 nc [.m 40,.m 41],A 38 42,E 43 38 false 0,E 44 38 false 1,A 12 43,A 13 44,Z [13,38]]
abbrev O7:=Rg [C 14 (Q 0)]
abbrev P0:=Rg [X 45 8 4,M 46 45,B 47 11,B 48 10,L 49 .mul 47 48,A 50 11,P 51 .add 50 1,B 52 10,L 53 .mul 51 52,V 54 (.slice 1 (.m 46) (some (.m 49)) (some (.m 53)) none),V 55 (.len (.s 54)),C 56 (Q 0)]
abbrev PZ:=Rg [J 57 .lss 56 55]
abbrev PN:=Rg [B 58 56,V 59 (.ia 1 (.s 54) (.s 56)),M 60 59,A 15 58,A 16 60]
abbrev Ph:=Rg [B 61 16,P 62 .eql 61 0]
abbrev Q7:=Rg [B 63 15,B 64 8,B 65 14,P 66 .add 65 1,V 67 (.ia 1 (.m 64) (.m 66)),M 68 67,L 69 .geq 63 68]
abbrev Rr:=Rg [A 70 14,P 71 .add 70 1,A 14 71]
def qX:VC:=(.seq (.seq Q7
 (.cond (.m 69)
 .skip
 (.seq (K [15]) (.exit 4))))
 (.block 5
 Rr))
abbrev QH:=Rg [C 17 (Q 0)]
abbrev P7:=Rg [B 72 14,X 73 1 4,V 74 (.fa 2 (.m 73)),M 75 74,L 76 .lss 72 75]
abbrev QK:=Rg [X 78 5 4,M 79 78,B 80 12,B 81 14,H 82 vj [.m 79,.m 80,.m 81],A 77 82,E 83 77 false 0,E 84 77 false 1,A 17 83,Z [77,84]]
abbrev Oo:=Rg [B 85 17,P 86 .lss 85 1,A 87 86,U 87 88 (.mov (.s 17)),U 87 89 (.bin .gtr (.s 88) (Q 11)),V 90 (.pick (.m 87) tt (.s 89)),A 91 90,U 91 92 (.mov (.s 17)),U 91 93 (.mov (.s 16)),U 91 94 (.call Dm [.s 92,.s 93]),U 91 95 (.un .not (.s 94)),V 96 (.pick (.m 91) tt (.s 95)),Z [16,17,88,89,92,93,94,95]]
abbrev Pi:=Rg [C 6 ff]
abbrev Qc:=Rg [P 97 .add 56 1,A 56 97]
def cw:VC:=(.seq PZ
 (.seq (.cond (.m 57)
 .skip
 (.seq (K [12,14,54,55,56]) (.exit 2)))
 (.seq (.block 3
 (.seq PN
 (.seq (.seq Ph
 (.cond (.m 62)
 (.seq (K [15,16]) (.exit 3))
 .skip))
 (.seq (.block 4
 (.seq (.loop qX) (K [15])))
 (.seq QH
 (.seq (.seq P7
 (.cond (.m 76)
 (.seq (K [17]) QK)
 .skip))
 (.seq Oo
 (.cond (.m 96)
 (.seq (.seq (K [8,10,12,14,34,35,54,55,56]) (F 4)) (.seq Pi
 .ret))
 .skip))))))))
 Qc)))
abbrev QB:=Rg [P 98 .add 35 1,A 35 98]
def fg:VC:=(.seq Um
 (.seq (.cond (.m 36)
 .skip
 (.seq (.seq (K [8,10,34,35]) (F 4)) (.exit 0)))
 (.seq (.block 1
 (.seq Vf
 (.seq Sr
 (.seq O7
 (.seq P0
 (.block 2
 (.seq (.loop cw) (K [12,14,54,55,56]))))))))
 QB)))
abbrev Qb:=Rg [C 6 tt]
def A7:af:=⟨3,[.tmp 6],
 (.seq SG
 (.seq (.seq Vj
 (.cond (.m 21)
 (.seq (.seq (K [0,2]) (F 4)) (.seq Uf
 .ret))
 .skip))
 (.seq Sf
 (.seq T2
 (.seq R8
 (.seq (.seq UC
 (.block 0
 (.seq (.loop fg) (.seq (K [8,10,34,35]) (F 4)))))
 (.seq Qb
 .ret)))))))⟩
abbrev DK:=Rg [C 4 ff,Z [4]]
abbrev Df:=Rg [B 6 0,V 7 (.len (.m 6)),B 8 1,V 9 (.len (.m 8)),L 10 .neq 7 9]
abbrev DR:=Rg [C 4 ff]
abbrev CZ:=Rg [B 11 0,V 12 (.len (.m 11)),C 13 (Q 0)]
abbrev Dd:=Rg [J 14 .lss 13 12]
abbrev Do:=Rg [B 15 13,A 5 15]
abbrev DN:VC:=(.reg true [
 B 16 0,
 B 17 5,
 V 18 (.ia 1 (.m 16) (.m 17)),
 M 19 18,
 B 20 1,
 B 21 5,
 V 22 (.ia 1 (.m 20) (.m 21)),
 M 23 22,
 L 24 .neq 19 23])
abbrev C1:=Rg [C 4 ff]
abbrev CD:=Rg [P 25 .add 13 1,A 13 25]
def fZ:VC:=(.seq Dd
 (.seq (.cond (.m 14)
 .skip
 (.seq (K [0,1,12,13]) (.exit 0)))
 (.seq (.block 1
 (.seq Do
 (.seq (.seq DN (K [5]))
 (.cond (.m 24)
 (.seq (K [0,1,12,13]) (.seq C1
 .ret))
 .skip))))
 CD)))
abbrev Dv:=Rg [C 4 tt]
def lR:af:=⟨2,[.tmp 4],
 (.seq DK
 (.seq (.seq Df
 (.cond (.m 10)
 (.seq (K [0,1]) (.seq DR
 .ret))
 .skip))
 (.seq (.seq CZ
 (.block 0
 (.seq (.loop fZ) (K [0,1,12,13]))))
 (.seq Dv
 .ret))))⟩
abbrev uc:=Rg [C 4 (Q 0),Z [4]]
abbrev tY:=Rg [B 6 0,V 7 (.len (.m 6)),C 8 (Q 0)]
abbrev uk:=Rg [J 9 .lss 8 7]
abbrev uE:=Rg [B 10 8,A 5 10]
abbrev uB:=Rg [B 11 1,B 12 0,B 13 5,V 14 (.ia 1 (.m 12) (.m 13)),M 15 14,V 16 (.callv (.m 11) [.m 15])]
abbrev uC:=Rg [A 17 5,A 4 17]
abbrev tW:=Rg [P 18 .add 8 1,A 8 18]
def bx:VC:=(.seq uk
 (.seq (.cond (.m 9)
 .skip
 (.seq (K [0,1,7,8]) (.exit 0)))
 (.seq (.block 1
 (.seq uE
 (.seq uB
 (.cond (.m 16)
 (.seq (K [0,1,7,8]) (.seq uC
 .ret))
 (.seq (K [5]) .skip)))))
 tW)))
abbrev uf:=Rg [C 4 (Q (-1))]
def eN:af:=⟨2,[.tmp 4],
 (.seq uc
 (.seq (.seq tY
 (.block 0
 (.seq (.loop bx) (K [0,1,7,8]))))
 (.seq uf
 .ret)))⟩
abbrev Rs:=Rg [C 2 ff,Z [2]]
abbrev UH:=Rg [B 3 0,P 4 .geq 3 0,A 5 4,W 5 6 (.mov (.s 0)),W 5 7 (.bin .leq (.s 6) (Q 31)),V 8 (.pick (.m 5) (.s 7) ff),A 2 8,Z [0,6,7]]
def zI:af:=⟨1,[.tmp 2],
 (.seq Rs
 (.seq UH
 .ret))⟩
abbrev vF:=Rg [V 2 (.box (.m 0)),V 4 (.mov (.c (.nl))),Z [4]]
abbrev wc:=Rg [A 6 1]
abbrev v9:=Rg [A 5 7]
abbrev v5:=Rg [V 8 (.ld none 1 (.s 2)),A 9 5,V 10 (.mks 1 [.m 9]),V 11 (.app 1 (.m 8) (.m 10)),N (.st 1 (.m 2) (.m 11))]
def gz:VC:=v9
def gx:VC:=(.block 1
 v5)
abbrev vO:=Rg [V 12 (.ld none 1 (.m 2)),A 4 12]
def je:af:=⟨2,[.tmp 4],
 (.seq vF
 (.seq (.seq wc
 (.block 0
 (.seq (.rangeF (.m 6) [7] gz gx) (K [6]))))
 (.seq vO
 .ret)))⟩
def kF:af:=⟨1,[.tmp 2],
 (.clone 1)⟩
abbrev V7:=Rg [V 2 (.box (.m 0)),V 3 (.box (.m 1)),V 4 (.mov (.c (.nilf))),Z [4]]
abbrev W7:=Rg [V 5 (.mkfn ib [] [.m 3,.m 2]),A 4 5]
def ve:af:=⟨2,[.tmp 4],
 (.seq V7
 (.seq W7
 .ret))⟩
abbrev RN:=Rg [G 6 2,A 7 0,A 8 1,H 9 dq [.m 6,.m 7,.m 8],A 5 9,E 10 5 true 0,E 11 5 false 1,N (.st 1 (.m 2) (.m 10)),Z [5,11]]
def Av:af:=⟨3,[],
 RN⟩
abbrev Si:=Rg [V 2 (.box (.m 0)),C 4 (Q 0),C 5 (Q 0),Z [4,5]]
abbrev SR:=Rg [V 11 (.ld (some 4) 0 (.s 2)),H 12 fW [.m 11],A 10 12,E 13 10 false 0,E 14 10 false 1,A 6 13,A 7 14,Z [10]]
abbrev Sh:=Rg [B 15 7,P 16 .neq 15 0]
abbrev Sl:=Rg [A 17 7,C 4 (Q 0),A 5 17]
abbrev TR:=Rg [B 18 1,P 19 .lss 18 0,A 20 19,U 20 21 (.mov (.s 1)),U 20 22 (.mov (.s 6)),U 20 23 (.bin .geq (.s 21) (.s 22)),V 24 (.pick (.m 20) tt (.s 23)),Z [6,21,22,23]]
abbrev Sq:=Rg [C 4 (Q 0),C 5 (Q 2)]
abbrev Tk:=Rg [C 8 (Q 0)]
abbrev U2:=Rg [A 25 1,A 9 25]
abbrev Sp:=Rg [B 26 9,X 27 3 2,M 28 27,B 29 8,V 30 (.ia 1 (.m 28) (.m 29)),M 31 30,L 32 .geq 26 31]
abbrev U3:=Rg [A 35 9,X 36 3 2,M 37 36,B 38 8,V 39 (.ia 1 (.m 37) (.m 38)),M 40 39,L 41 .sub 35 40,A 9 41]
abbrev OY:=Rg [A 33 8,P 34 .add 33 1,A 8 34]
def sN:VC:=(.seq (.seq Sp
 (.cond (.m 32)
 .skip
 (.seq (K [2,9]) (.exit 0))))
 (.seq (.block 1
 U3)
 OY))
abbrev Rj:=Rg [A 42 8,A 4 42,C 5 (Q 0)]
def zQ:af:=⟨2,[.tmp 4,.tmp 5],
 (.seq Si
 (.seq SR
 (.seq (.seq Sh
 (.cond (.m 16)
 (.seq (K [1,2,6]) (.seq Sl
 .ret))
 (.seq (K [7]) .skip)))
 (.seq (.seq TR
 (.cond (.m 24)
 (.seq (K [1,2]) (.seq Sq
 .ret))
 .skip))
 (.seq Tk
 (.seq (.seq U2
 (.block 0
 (.seq (.loop sN) (K [2,9]))))
 (.seq Rj
 .ret)))))))⟩
abbrev CS:=Rg [V 4 (.mov (.c (.nl))),Z [4]]
abbrev DE:=Rg [B 5 1,P 6 .lss 5 0]
abbrev Di:=Rg [V 7 (.bad ),N (.bad )]
abbrev Dx:=Rg [A 8 1,B 9 0,V 10 (.cap (.m 9)),B 11 0,V 12 (.len (.m 11)),L 13 .sub 10 12,L 14 .sub 8 13,A 1 14]
abbrev C0:=Rg [B 15 1,P 16 .gtr 15 0]
abbrev CO:=Rg [B 17 0,B 18 0,V 19 (.cap (.m 18)),V 20 (.slice 1 (.m 17) none (some (.m 19)) none),A 21 1,⟨some 22,none,.appz [.bool false] (.m 20) (.m 21),[(0,0)]⟩,A 23 0,V 24 (.len (.m 23)),V 25 (.slice 1 (.m 22) none (some (.m 24)) none),A 0 25]
abbrev DF:=Rg [A 26 0,A 4 26]
def jp:af:=⟨2,[.tmp 4],
 (.seq CS
 (.seq (.seq DE
 (.cond (.m 6)
 Di
 .skip))
 (.seq (.seq Dx
 (.seq C0
 (.cond (.m 16)
 CO
 (.seq (K [1]) .skip))))
 (.seq DF
 .ret))))⟩
abbrev abz:=Rg [V 3 (.box (.m 0)),V 4 (.box (.m 1)),V 6 (.mov (.c (.nl))),C 7 (Q 0),Z [6,7]]
abbrev acf:=Rg [V 16 (.ld (some 4) 0 (.s 4)),B 17 2,H 18 zM [.m 16,.m 17],A 8 18]
abbrev aa1:=Rg [B 19 8,P 20 .neq 19 0]
abbrev abp:=Rg [A 21 8,V 6 (.mov (.c (.nl))),A 7 21]
abbrev abf:=Rg [V 23 (.ld (some 4) 1 (.m 4)),H 24 Ap [.m 23],A 22 24,E 25 22 false 0,E 26 22 false 1,V 9 (.alloc [O]),Yd 1 9 25,A 10 26,Z [22]]
abbrev abJ:=Rg [G 28 3,H 29 dq [.m 28,Q 0,Q 0],A 27 29,E 30 27 true 0,E 31 27 false 1,Yd 1 3 30,Z [27,31]]
abbrev abM:=Rg [A 32 2,V 33 (.len (.s 32)),C 34 (Q 0)]
abbrev abX:=Rg [J 35 .lss 34 33]
abbrev aby:=Rg [V 36 (.ia 1 (.s 32) (.s 34)),M 37 36,A 12 37]
abbrev ack:=Rg [A 38 12,V 39 (.len (.s 38)),C 40 (Q 0)]
abbrev Ww:=Rg [J 41 .lss 40 39]
abbrev Yl:=Rg [V 42 (.ia 2 (.s 38) (.s 40)),V 43 (.ld (some 2) 0 (.m 42)),V 14 (.alloc [O,O]),Yd 2 14 43]
abbrev VM:=Rg [G 45 3,X 46 0 14,M 47 46,H 48 dq [.m 45,.m 47,Q 4],A 44 48,E 49 44 true 0,E 50 44 false 1,Yd 1 3 49,Z [44,50]]
abbrev Wn:=Rg [X 51 1 14,M 52 51,B 53 10,V 54 (.calli wW [.m 52,.m 53])]
abbrev Zn:=Rg [A 15 55,Z [10,32,33,34,38,39,40,54]]
abbrev XI:=Rg [G 57 3,A 58 15,M 59 9,H 60 dq [.m 57,.m 58,.m 59],A 56 60,E 61 56 true 0,E 62 56 false 1,N (.st 1 (.m 3) (.m 61)),Z [56,62]]
def wZ:VC:=Zn
def wO:VC:=(.block 5
 XI)
abbrev V2:=Rg [P 63 .add 40 1,A 40 63]
def lx:VC:=(.seq Ww
 (.seq (.cond (.m 41)
 .skip
 (.seq (K [38,39,40]) (.exit 2)))
 (.seq (.block 3
 (.seq Yl
 (.seq VM
 (.seq (.seq Wn (F 14))
 (.block 4
 (.seq (.rangeF (.s 54) [55] wZ wO) (F 54)))))))
 V2)))
abbrev Yy:=Rg [P 64 .add 34 1,A 34 64]
def oU:VC:=(.seq abX
 (.seq (.cond (.m 35)
 .skip
 (.seq (K [9,10,32,33,34]) (.exit 0)))
 (.seq (.block 1
 (.seq aby
 (.seq ack
 (.block 2
 (.seq (.loop lx) (K [38,39,40]))))))
 Yy)))
abbrev V3:=Rg [V 65 (.ld none 1 (.m 3)),A 6 65,C 7 (Q 0)]
def Fc:af:=⟨3,[.tmp 6,.tmp 7],
 (.seq abz
 (.seq (.seq acf
 (.seq aa1
 (.cond (.m 20)
 (.seq (K [2,3,4]) (.seq abp
 .ret))
 (.seq (K [8]) .skip))))
 (.seq abf
 (.seq abJ
 (.seq (.seq abM
 (.block 0
 (.seq (.loop oU) (K [9,10,32,33,34]))))
 (.seq V3
 .ret))))))⟩
abbrev Xx:=Rg [V 4 (.box (.m 0)),V 7 (.box (.m 3)),V 8 (.mov (.c (.nl))),C 9 (Q 0),Z [8,9]]
abbrev ZC:=Rg [B 17 1,B 18 2,G 19 7,H 20 xj [.m 17,.m 18,.m 19],A 10 20]
abbrev WE:=Rg [B 21 10,P 22 .neq 21 0]
abbrev Ya:=Rg [A 23 10,V 8 (.mov (.c (.nl))),A 9 23]
abbrev XQ:=Rg [G 25 4,H 26 dq [.m 25,Q 0,Q 0],A 24 26,E 27 24 true 0,E 28 24 false 1,Yd 1 4 27,Z [24,28]]
abbrev YD:=Rg [A 29 1,V 30 (.build [O,O] [(0,1,.m 29),(1,1,Q (-1))]),V 31 (.box (.m 30)),V 11 (.alloc [.nilp]),Yd 1 11 31]
abbrev Zq:=Rg [A 32 2,V 33 (.len (.s 32)),C 34 (Q 0)]
abbrev XK:=Rg [J 35 .lss 34 33]
abbrev VQ:=Rg [B 36 34,V 37 (.ia 1 (.s 32) (.s 34)),M 38 37,V 12 (.alloc [O]),Yd 1 12 36,A 13 38]
abbrev YZ:=Rg [A 39 13,V 40 (.calli oZ [.m 39])]
abbrev Vw:=Rg [A 14 41,Z [32,33,34,40]]
abbrev U4:=Rg [A 15 42]
abbrev Vt:=Rg [G 43 7,G 44 12,V 45 (.ia 1 (.m 43) (.m 44)),M 46 45,A 47 14,V 48 (.ia 1 (.m 46) (.m 47)),M 49 48,A 16 49,Z [7,12]]
abbrev RC:=Rg [B 62 15,P 63 .eql 62 0,A 61 63]
abbrev SP:=Rg [B 65 15,P 66 .eql 65 13,A 67 66,W 67 68 (.ld none 0 (.s 11)),W 67 69 (.nilck (.s 68)),W 67 70 (.fa 1 (.s 69)),W 67 71 (.ld none 0 (.s 70)),W 67 72 (.bin .lss (.s 71) (Q 0)),V 73 (.pick (.m 67) (.s 72) ff),A 64 73,Z [68,69,70,71,72]]
abbrev Tu:=Rg [G 75 4,B 76 16,H 77 dq [.m 75,.m 76,Q 9],A 74 77,E 78 74 true 0,E 79 74 false 1,Yd 1 4 78,Z [4,74,79]]
abbrev Td:=Rg [B 81 15,P 82 .eql 81 13,A 80 82]
abbrev D4:=[G 84 4,B 85 16,G 86 11,V 87 (.nilck (.m 86)),V 88 (.fa 1 (.m 87)),M 89 88,L 90 .sub 85 89,H 91 vu [.m 84,.m 90],A 83 91,E 92 83 true 0,E 93 83 false 1,Yd 1 4 92]
def BU:VC:=.regP (.range 12) [0,1,2,3,4,5,6,7,8,9,11,10] [] D4
abbrev Ej:=[G 51 4,B 52 16,G 53 11,V 54 (.nilck (.m 53)),V 55 (.fa 0 (.m 54)),M 56 55,L 57 .sub 52 56,H 58 vu [.m 51,.m 57],A 50 58,E 59 50 true 0,E 60 50 false 1,Yd 1 4 59]
def Cx:VC:=.regP (.range 12) [0,1,2,3,4,5,6,7,8,9,11,10] [] Ej
abbrev TW:=Rg [G 94 11,A 95 15,A 96 16,V 97 (.calli jD [.m 94,.m 95,.m 96]),Z [11,97]]
def iN:VC:=(.seq Vw
 U4)
def iO:VC:=(.block 3
 (.seq Vt
 (.seq (.block 4
 (.seq RC
 (.cond (.m 61)
 (.seq (K [4,11,15,16]) (.exit 3))
 (.seq SP
 (.cond (.m 64)
 Tu
 (.seq Td
 (.cond (.m 80)
 (.seq BU (K [4,83,93]))
 (.seq Cx (K [4,50,60])))))))))
 TW)))
abbrev Rz:=Rg [P 98 .add 34 1,A 34 98]
def nH:VC:=(.seq XK
 (.seq (.cond (.m 35)
 .skip
 (.seq (.seq (.seq (K [32,33,34]) (F 7)) (F 11)) (.exit 0)))
 (.seq (.block 1
 (.seq VQ
 (.seq YZ
 (.block 2
 (.seq (.rangeF (.s 40) [41,42] iN iO) (.seq (F 12) (F 40)))))))
 Rz)))
abbrev TM:=Rg [V 99 (.ld none 1 (.s 4)),A 8 99,C 9 (Q 0)]
def DO:af:=⟨4,[.tmp 8,.tmp 9],
 (.seq Xx
 (.seq (.seq ZC
 (.seq WE
 (.cond (.m 22)
 (.seq (.seq (.seq (K [1,2]) (F 4)) (F 7)) (.seq Ya
 .ret))
 (.seq (K [10]) .skip))))
 (.seq XQ
 (.seq YD
 (.seq (.seq Zq
 (.block 0
 (.seq (.loop nH) (.seq (.seq (K [32,33,34]) (F 7)) (F 11)))))
 (.seq (.seq TM (F 4))
 .ret))))))⟩
abbrev MR:=Rg [C 2 ff,Z [2]]
abbrev LO:=Rg [A 3 0,V 4 (.calli fc [.m 3,.c (.fn kV [] [])]),A 2 4]
def um:af:=⟨1,[.tmp 2],
 (.seq MR
 (.seq LO
 .ret))⟩
abbrev Qn:=Rg [V 3 (.box (.m 0)),V 4 (.box (.m 1)),V 6 (.mov (.c (.nl))),C 7 (Q 0),Z [6,7]]
abbrev Pm:=Rg [V 19 (.ld (some 4) 0 (.s 4)),B 20 2,H 21 sH [.m 19,.m 20],A 8 21]
abbrev OI:=Rg [B 22 8,P 23 .neq 22 0]
abbrev PV:=Rg [A 24 8,V 6 (.mov (.c (.nl))),A 7 24]
abbrev OH:=Rg [G 25 3,H 26 dK [.m 25],Yd 1 3 26]
abbrev Qz:=Rg [V 27 (.mkfn gL [] [.s 3]),A 9 27]
abbrev OX:=Rg [V 28 (.ld (some 4) 1 (.s 4)),H 29 jK [.m 28],V 10 (.alloc [O,O,O,O,O]),Yd 5 10 29]
abbrev PO:=Rg [A 30 2,V 31 (.len (.s 30)),C 32 (Q 0)]
abbrev P3:=Rg [J 33 .lss 32 31]
abbrev N8:=Rg [V 34 (.ia 1 (.s 30) (.s 32)),M 35 34,A 12 35]
abbrev MZ:=Rg [B 36 9,B 37 12,V 38 (.len (.m 37)),V 39 (.iarr 5 1 (.s 10) (Q 0)),M 40 39,V 41 (.callv (.m 36) [.m 38,.m 40]),Z [41]]
abbrev Na:=Rg [B 42 12,V 43 (.len (.m 42)),P 44 .gtr 43 0]
abbrev Mb:=Rg [B 45 9,B 46 12,V 47 (.ia 5 (.m 46) (Q 0)),V 48 (.fa 3 (.m 47)),M 49 48,H 50 jz [.m 49],V 51 (.callv (.m 45) [.m 50,Q 1]),Z [51]]
abbrev MM:=Rg [A 52 12,V 53 (.len (.s 52)),C 54 (Q 0)]
abbrev MB:=Rg [J 55 .lss 54 53]
abbrev M5:=Rg [V 56 (.ia 5 (.s 52) (.s 54)),V 57 (.ld (some 5) 0 (.m 56)),V 14 (.alloc [O,O,.d (.bool false),.d (.bool false),.nl]),Yd 5 14 57]
abbrev ML:=Rg [B 58 9,X 59 0 14,M 60 59,V 61 (.iarr 5 1 (.s 10) (Q 1)),M 62 61,V 63 (.callv (.m 58) [.m 60,.m 62]),Z [63]]
abbrev MH:=Rg [B 64 9,X 65 1 14,M 66 65,V 67 (.iarr 5 1 (.s 10) (Q 2)),M 68 67,V 69 (.callv (.m 64) [.m 66,.m 68]),Z [69]]
abbrev Mj:=Rg [X 70 1 14,M 71 70,P 72 .eql 71 0]
abbrev MF:=Rg [X 73 3 14,M 74 73,H 75 nK [.m 74],A 15 75]
abbrev Lq:=Rg [X 76 4 14,M 77 76,B 78 15,P 79 .sub 78 1,H 80 oP [.m 77,.m 79],A 16 80]
abbrev LT:=Rg [B 81 9,X 82 2 14,M 83 82,H 84 jz [.m 83],V 85 (.callv (.m 81) [.m 84,Q 1]),Z [85]]
abbrev Nf:=Rg [B 86 9,B 87 16,H 88 jz [.m 87],V 89 (.callv (.m 86) [.m 88,Q 1]),Z [89]]
abbrev LX:=Rg [X 90 4 14,M 91 90,V 92 (.len (.s 91)),C 93 (Q 0)]
abbrev ME:=Rg [J 94 .lss 93 92]
abbrev Ni:=Rg [V 95 (.ia 1 (.s 91) (.s 93)),M 96 95,A 18 96]
abbrev Li:=Rg [B 97 9,A 98 18,B 99 15,B 100 16,H 101 jz [.m 100],L 102 .sub 99 101,V 103 (.callv (.m 97) [.m 98,.m 102]),Z [103]]
abbrev Ll:=Rg [P 104 .add 93 1,A 93 104]
def kG:VC:=(.seq ME
 (.seq (.cond (.m 94)
 .skip
 (.seq (K [15,16,91,92,93]) (.exit 4)))
 (.seq (.block 5
 (.seq Ni
 Li))
 Ll)))
abbrev LU:=Rg [P 105 .add 54 1,A 54 105]
def iZ:VC:=(.seq MB
 (.seq (.cond (.m 55)
 .skip
 (.seq (K [52,53,54]) (.exit 2)))
 (.seq (.block 3
 (.seq M5
 (.seq ML
 (.seq MH
 (.seq (.seq Mj
 (.cond (.m 72)
 (.seq (F 14) (.exit 3))
 .skip))
 (.seq MF
 (.seq Lq
 (.seq LT
 (.seq Nf
 (.seq (.seq LX (F 14))
 (.block 4
 (.seq (.loop kG) (K [15,16,91,92,93])))))))))))))
 LU)))
abbrev Mv:=Rg [P 106 .add 32 1,A 32 106]
def jh:VC:=(.seq P3
 (.seq (.cond (.m 33)
 .skip
 (.seq (.seq (K [9,30,31,32]) (F 10)) (.exit 0)))
 (.seq (.block 1
 (.seq N8
 (.seq MZ
 (.seq (.seq Na
 (.cond (.m 44)
 Mb
 .skip))
 (.seq MM
 (.block 2
 (.seq (.loop iZ) (K [52,53,54]))))))))
 Mv)))
abbrev Lk:=Rg [V 107 (.ld none 1 (.m 3)),A 6 107,C 7 (Q 0)]
def xb:af:=⟨3,[.tmp 6,.tmp 7],
 (.seq Qn
 (.seq (.seq Pm
 (.seq OI
 (.cond (.m 23)
 (.seq (.seq (K [2,3]) (F 4)) (.seq PV
 .ret))
 (.seq (K [8]) .skip))))
 (.seq OH
 (.seq Qz
 (.seq (.seq OX (F 4))
 (.seq (.seq PO
 (.block 0
 (.seq (.loop jh) (.seq (K [9,30,31,32]) (F 10)))))
 (.seq Lk
 .ret)))))))⟩
abbrev Vb:=Rg [V 4 (.box (.m 1)),V 5 (.box (.m 2)),V 6 (.mov (.c (.nilf))),Z [6]]
abbrev Ul:=Rg [A 10 0,X 11 0 4,M 12 11,V 13 (.bin .eql (.m 12) (.c (.d (.int .u8 2)))),H 14 iK [.m 10,.m 13],A 9 14,E 15 9 true 0,E 16 9 false 1,V 7 (.alloc [.nl]),Yd 1 7 15,A 8 16,Z [8,9]]
abbrev T5:=Rg [V 17 (.mkfn fS [] [.m 5,.m 4,.m 7]),A 6 17]
def Aw:af:=⟨3,[.tmp 6],
 (.seq Vb
 (.seq Ul
 (.seq T5
 .ret)))⟩
abbrev aa4:=Rg [V 4 (.box (.m 1)),V 6 (.mov (.c (.nl))),C 7 (Q 0),Z [6,7]]
abbrev abH:=Rg [X 27 0 4,M 28 27,B 29 2,H 30 vk [.m 28,.m 29],A 26 30,E 31 26 false 0,E 32 26 false 1,A 8 31,A 9 32,Z [26]]
abbrev aaH:=Rg [B 33 9,P 34 .neq 33 0,A 35 34,U 35 36 (.mov (.s 8)),U 35 37 (.un .not (.s 36)),V 38 (.pick (.m 35) tt (.s 37)),Z [8,36,37]]
abbrev ab5:=Rg [V 39 (.ld (some 4) 1 (.s 4)),H 40 Zu [.m 39],A 10 40]
abbrev aa6:=Rg [B 41 10,P 42 .neq 41 0]
abbrev aaY:=Rg [A 43 10,V 6 (.mov (.c (.nl))),A 7 43]
abbrev abe:=Rg [A 44 9,V 45 (.minmax true [.m 44,Q 2]),V 6 (.mov (.c (.nl))),A 7 45]
abbrev abk:=Rg [X 46 0 4,M 47 46,H 48 Hg [.m 47]]
abbrev ab4:=Rg [X 50 0 4,M 51 50,A 52 2,H 53 mC [.m 51,.m 52],A 49 53,E 54 49 false 0,E 55 49 false 1,A 11 54,A 12 55,Z [12,49]]
abbrev aa7:=Rg [V 57 (.ld (some 4) 1 (.s 4)),A 58 11,H 59 lJ [.m 57,.m 58],A 56 59,E 60 56 true 0,E 61 56 false 1,A 13 60,A 14 61,Z [56]]
abbrev WK:=Rg [B 62 14,P 63 .neq 62 0]
abbrev Yr:=Rg [A 64 14,V 6 (.mov (.c (.nl))),A 7 64]
abbrev Xq:=Rg [A 65 0,A 66 13,V 67 (.mks 1 [.m 65,.m 66]),H 68 eE [.m 67],A 6 68,C 7 (Q 0)]
abbrev Xa:=Rg [V 15 (.mov (.c (.nl)))]
abbrev Zp:=Rg [V 16 (.mov (.c (.nl))),V 17 (.mov (.c (.nl)))]
abbrev Xk:=Rg [A 69 2,V 70 (.len (.s 69)),C 71 (Q 0)]
abbrev Xw:=Rg [J 72 .lss 71 70]
abbrev Zz:=Rg [V 73 (.ia 1 (.s 69) (.s 71)),M 74 73,A 19 74]
abbrev Vy:=Rg [B 75 19,H 76 CX [.m 75],A 20 76]
abbrev VN:=Rg [B 77 19,P 78 .neq 77 0]
abbrev X9:=Rg [A 79 16,A 80 19,V 81 (.conv .u64 (.m 80)),V 82 (.bin .shr (.m 81) (.c (.d (.int .u64 63)))),V 83 (.conv .u8 (.m 82)),V 84 (.mks 1 [.m 83]),V 85 (.app 1 (.m 79) (.m 84)),A 16 85]
abbrev Yz:=Rg [X 86 0 4,M 87 86,P 88 .eql 87 11,A 89 88,W 89 90 (.mov (.s 20)),W 89 91 (.bin .geq (.s 90) (Q 16)),V 92 (.pick (.m 89) (.s 91) ff),Z [90,91]]
abbrev YI:=Rg [B 93 20,V 94 (.conv .u64 (.m 93)),H 95 lX [.m 94],P 96 .sub 95 5,A 21 96]
abbrev YH:=Rg [A 97 17,V 98 (.mks 1 [.c (.d (.int .u8 1))]),B 99 21,H 100 qB [.m 98,.m 99],V 101 (.app 1 (.m 97) (.m 100)),A 17 101]
abbrev G9:=[A 103 17,V 104 (.mks 1 [.c (.d (.int .u8 0))]),V 105 (.app 1 (.m 103) (.m 104)),A 106 20,B 107 21,P 108 .add 107 4,V 109 (.bin .shl (Q 1) (.m 108)),P 110 .sub 109 1,L 111 .and 106 110,B 112 21,P 113 .add 112 4,H 114 dq [.m 105,.m 111,.m 113],A 102 114,E 115 102 true 0,E 116 102 false 1,A 17 115]
def EI:VC:=.regP (.range 16) [0,1,2,3,4,5,6,7,8,9,10,11,12,13,15,14] [] G9
abbrev Zg:=Rg [C 20 (Q 16)]
abbrev Yk:=Rg [A 117 15,A 118 20,V 119 (.mks 1 [.m 118]),V 120 (.app 1 (.m 117) (.m 119)),A 15 120]
abbrev Xi:=Rg [P 121 .add 71 1,A 71 121]
def ll:VC:=(.seq Xw
 (.seq (.cond (.m 72)
 .skip
 (.seq (K [69,70,71]) (.exit 0)))
 (.seq (.block 1
 (.seq Zz
 (.seq Vy
 (.seq (.seq VN
 (.cond (.m 78)
 X9
 (.seq (K [19]) .skip)))
 (.seq (.seq Yz
 (.cond (.m 92)
 (.seq YI
 (.seq YH
 (.seq (.seq EI (K [21,102,116]))
 Zg)))
 .skip))
 Yk)))))
 Xi)))
abbrev VK:=Rg [X 123 0 4,M 124 123,A 125 15,H 126 mC [.m 124,.m 125],A 122 126,E 127 122 false 0,E 128 122 false 1,A 22 127,A 23 128,Z [23,122]]
abbrev Wr:=Rg [V 130 (.ld (some 4) 1 (.s 4)),A 131 22,H 132 lJ [.m 130,.m 131],A 129 132,E 133 129 true 0,E 134 129 false 1,A 24 133,A 25 134,Z [129]]
abbrev X7:=Rg [B 135 25,P 136 .neq 135 0]
abbrev YR:=Rg [A 137 25,V 6 (.mov (.c (.nl))),A 7 137]
abbrev VT:=Rg [A 138 0,A 139 24,A 140 16,A 141 17,V 142 (.mks 1 [.m 138,.m 139,.m 140,.m 141]),H 143 eE [.m 142],A 6 143,C 7 (Q 0)]
def yp:af:=⟨3,[.tmp 6,.tmp 7],
 (.seq aa4
 (.seq abH
 (.seq (.seq aaH
 (.cond (.m 38)
 (.seq (K [0,2]) (.seq (.seq (.seq ab5 (F 4))
 (.seq aa6
 (.cond (.m 42)
 (.seq (K [9]) (.seq aaY
 .ret))
 (.seq (K [10]) .skip))))
 (.seq abe
 .ret)))
 (.seq (K [9]) .skip)))
 (.seq (.seq abk
 (.cond (.m 48)
 (.seq ab4
 (.seq (.seq aa7 (F 4))
 (.seq (.seq WK
 (.cond (.m 63)
 (.seq (K [0,13]) (.seq Yr
 .ret))
 (.seq (K [14]) .skip)))
 (.seq Xq
 .ret))))
 .skip))
 (.seq Xa
 (.seq Zp
 (.seq (.seq Xk
 (.block 0
 (.seq (.loop ll) (K [69,70,71]))))
 (.seq VK
 (.seq (.seq Wr (F 4))
 (.seq (.seq X7
 (.cond (.m 136)
 (.seq (K [0,16,17,24]) (.seq YR
 .ret))
 (.seq (K [25]) .skip)))
 (.seq VT
 .ret)))))))))))⟩
abbrev Kh:=Rg [V 4 (.alloc [O,O,.nl,.nl])]
abbrev JC:=Rg [B 5 0,B 6 1,V 7 (.nilck (.m 5)),V 8 (.iarr 12 4 (.m 7) (.m 6)),V 9 (.fa 0 (.m 8)),M 10 9,P 11 .eql 10 0]
abbrev xB:=[B 13 0,B 14 1,B 15 1,H 16 su [.m 15],A 12 16,E 17 12 true 0,E 18 12 false 1,V 19 (.nilck (.m 13)),V 20 (.iarr 12 4 (.m 19) (.m 14)),N (.st 4 (.m 20) (.m 17))]
def vN:VC:=.regP (.range 10) [0,1,2,3,4,5,7,8,9,6] [] xB
abbrev JL:=Rg [A 21 0,A 22 1,V 23 (.nilck (.m 21)),V 24 (.iarr 12 4 (.m 23) (.m 22)),V 25 (.ld (some 4) 0 (.m 24)),Yd 4 4 25]
def rM:af:=⟨2,[.cell 4 (some 4)],
 (.seq Kh
 (.seq (.seq JC
 (.cond (.m 11)
 (.seq vN (K [12,18]))
 .skip))
 (.seq JL
 .ret)))⟩
abbrev Zb:=Rg [C 4 (Q 0),C 5 (Q 0),Z [4,5]]
abbrev Zj:=Rg [A 9 0,A 10 1,H 11 iK [.m 9,.m 10],A 8 11,E 12 8 true 0,E 13 8 false 1,A 6 12,A 7 13,Z [8]]
abbrev WS:=Rg [A 14 6,V 15 (.len (.m 14)),P 16 .sub 15 1,V 17 (.minmax true [.m 16,Q 0]),A 18 7,A 4 17,A 5 18]
def Dt:af:=⟨2,[.tmp 4,.tmp 5],
 (.seq Zb
 (.seq Zj
 (.seq WS
 .ret)))⟩
abbrev LM:=Rg [V 1 (.box (.m 0)),C 2 ff,Z [2]]
abbrev Lo:=Rg [X 6 0 1,M 7 6,V 8 (.bin .neq (.m 7) (.c (.d (.int .u8 2))))]
abbrev Mp:=Rg [V 9 (.fa 3 (.m 1)),M 10 9,V 11 (.mks 1 [Q 1]),H 12 ji [.m 10,.m 11],A 2 12]
abbrev MQ:=Rg [C 3 (Q 0)]
abbrev Mg:=Rg [X 13 3 1,M 14 13,V 15 (.len (.s 14)),C 16 (Q 0)]
abbrev Lx:=Rg [J 17 .lss 16 15]
abbrev Nb:=Rg [V 18 (.ia 1 (.s 14) (.s 16)),M 19 18,A 5 19]
abbrev M7:=Rg [B 20 5,P 21 .lss 20 1,A 22 21,U 22 23 (.mov (.s 5)),U 22 24 (.bin .gtr (.s 23) (Q 8)),V 25 (.pick (.m 22) tt (.s 24)),Z [23,24]]
abbrev Mk:=Rg [C 2 ff]
abbrev LH:=Rg [A 26 3,A 27 5,L 28 .add 26 27,A 3 28]
abbrev Kn:=Rg [P 29 .add 16 1,A 16 29]
def j0:VC:=(.seq Lx
 (.seq (.cond (.m 17)
 .skip
 (.seq (K [14,15,16]) (.exit 0)))
 (.seq (.block 1
 (.seq Nb
 (.seq (.seq M7
 (.cond (.m 25)
 (.seq (K [1,3,5,14,15,16]) (.seq Mk
 .ret))
 .skip))
 LH)))
 Kn)))
abbrev Jb:=Rg [A 30 3,P 31 .eql 30 8,A 32 31,W 32 33 (.fa 3 (.s 1)),W 32 34 (.ld none 0 (.s 33)),W 32 35 (.len (.s 34)),W 32 36 (.bin .leq (.s 35) (Q 8)),V 37 (.pick (.m 32) (.s 36) ff),A 2 37,Z [1,33,34,35,36]]
def ud:af:=⟨1,[.tmp 2],
 (.seq LM
 (.seq (.seq Lo
 (.cond (.m 8)
 (.seq Mp
 .ret)
 .skip))
 (.seq MQ
 (.seq (.seq Mg
 (.block 0
 (.seq (.loop j0) (K [14,15,16]))))
 (.seq Jb
 .ret)))))⟩
abbrev W3:=Rg [V 1 (.box (.m 0)),C 2 ff,Z [2]]
abbrev W6:=Rg [V 3 (.ld (some 4) 1 (.m 1)),H 4 kb [Q 11,.m 3],P 5 .eql 4 0,A 2 5]
def Dz:af:=⟨1,[.tmp 2],
 (.seq W3
 (.seq W6
 .ret))⟩
def Hq:af:=⟨1,[.tmp 2],
 (.clone 1)⟩
abbrev Xy:=Rg [C 6 (Q 0),C 7 (Q 0),Z [6,7]]
abbrev Xg:=Rg [B 10 1,P 11 .lss 10 0,A 12 11,U 12 13 (.mov (.s 1)),U 12 14 (.mov (.s 0)),U 12 15 (.len (.s 14)),U 12 16 (.bin .geq (.s 13) (.s 15)),V 17 (.pick (.m 12) tt (.s 16)),A 18 17,U 18 19 (.mov (.s 2)),U 18 20 (.bin .lss (.s 19) (Q 0)),V 21 (.pick (.m 18) tt (.s 20)),Z [13,14,15,16,19,20]]
abbrev XS:=Rg [C 6 (Q 0),C 7 (Q 2)]
abbrev Wq:=Rg [A 22 0,A 23 1,V 24 (.ia 1 (.m 22) (.m 23)),M 25 24,V 26 (.len (.s 25)),C 27 (Q 0)]
abbrev Yo:=Rg [J 28 .lss 27 26]
abbrev Zo:=Rg [V 29 (.ia 2 (.s 25) (.s 27)),V 30 (.ld (some 2) 0 (.m 29)),V 9 (.alloc [O,O]),Yd 2 9 30]
abbrev Zx:=Rg [X 31 1 9,M 32 31,P 33 .lss 32 1]
abbrev Xb:=Rg [B 34 2,X 35 1 9,M 36 35,L 37 .lss 34 36]
abbrev X6:=Rg [X 38 0 9,M 39 38,A 6 39,C 7 (Q 0)]
abbrev Y9:=Rg [A 40 2,X 41 1 9,M 42 41,L 43 .sub 40 42,A 2 43]
abbrev SJ:=Rg [P 44 .add 27 1,A 27 44]
def ni:VC:=(.seq Yo
 (.seq (.cond (.m 28)
 .skip
 (.seq (K [2,25,26,27]) (.exit 0)))
 (.seq (.block 1
 (.seq Zo
 (.seq (.seq Zx
 (.cond (.m 33)
 (.seq (F 9) (.exit 1))
 .skip))
 (.seq (.seq Xb
 (.cond (.m 37)
 (.seq (K [2,25,26,27]) (.seq (.seq X6 (F 9))
 .ret))
 .skip))
 (.seq Y9 (F 9))))))
 SJ)))
abbrev So:=Rg [C 6 (Q 0),C 7 (Q 2)]
def Dj:af:=⟨3,[.tmp 6,.tmp 7],
 (.seq Xy
 (.seq (.seq Xg
 (.cond (.m 21)
 (.seq (K [0,1,2]) (.seq XS
 .ret))
 .skip))
 (.seq (.seq Wq
 (.block 0
 (.seq (.loop ni) (K [2,25,26,27]))))
 (.seq So
 .ret))))⟩
abbrev VU:=Rg [C 4 ff,Z [4]]
abbrev XX:=Rg [B 5 1,B 6 0,P 7 .sub 6 60,L 8 .geq 5 7,A 9 8,W 9 10 (.mov (.s 1)),W 9 11 (.mov (.s 0)),W 9 12 (.bin .add (.s 11) (Q 60)),W 9 13 (.bin .leq (.s 10) (.s 12)),V 14 (.pick (.m 9) (.s 13) ff),A 4 14,Z [0,1,10,11,12,13]]
def CG:af:=⟨2,[.tmp 4],
 (.seq VU
 (.seq XX
 .ret))⟩
abbrev qg:=Rg [C 4 ff,Z [4]]
abbrev qc:=Rg [A 5 0,A 6 1,V 7 (.calli gU [.m 5,.m 6]),P 8 .geq 7 0,A 4 8]
def fF:af:=⟨2,[.tmp 4],
 (.seq qg
 (.seq qc
 .ret))⟩
abbrev HM:=Rg [V 3 (.box (.m 0)),C 4 ff,Z [4]]
abbrev HI:VC:=(.reg true [
 V 5 (.ld (some 5) 0 (.s 3)),
 M 6 1,
 H 7 wL [.m 5,.m 6],
 V 8 (.un .not (.m 7)),
 A 9 8,
 U 9 10 (.fa 3 (.s 3)),
 U 9 11 (.ld none 0 (.s 10)),
 U 9 12 (.ld none 0 (.s 2)),
 U 9 13 (.ia 5 (.s 12) (Q 0)),
 U 9 14 (.fa 3 (.s 13)),
 U 9 15 (.ld none 0 (.s 14)),
 U 9 16 (.binb true (.s 11) (.s 15)),
 V 17 (.pick (.s 9) tt (.s 16)),
 A 4 17])
def po:af:=⟨3,[.tmp 4],
 (.seq HM
 (.seq (.seq HI (.seq (K [2,9,10,11,12,13,14,15,16]) (F 3)))
 .ret))⟩
abbrev Pq:=Rg [V 2 (.box (.m 0)),C 4 ff,Z [4]]
abbrev QS:=Rg [C 5 (Q 63),C 6 (Q 12)]
abbrev OU:=Rg [A 9 1]
abbrev Qh:=Rg [C 5 (Q 15),C 6 (Q 7)]
abbrev QL:=Rg [X 10 0 2,M 11 10,P 12 .lss 11 0,A 13 12,U 13 14 (.fa 0 (.s 2)),U 13 15 (.ld none 0 (.s 14)),U 13 16 (.mov (.s 5)),U 13 17 (.bin .gtr (.s 15) (.s 16)),V 18 (.pick (.m 13) tt (.s 17)),A 19 18,U 19 20 (.fa 1 (.s 2)),U 19 21 (.ld none 0 (.s 20)),U 19 22 (.bin .lss (.s 21) (Q 0)),V 23 (.pick (.m 19) tt (.s 22)),A 24 23,U 24 25 (.fa 1 (.s 2)),U 24 26 (.ld none 0 (.s 25)),U 24 27 (.mov (.s 6)),U 24 28 (.bin .gtr (.s 26) (.s 27)),V 29 (.pick (.m 24) tt (.s 28)),A 30 29,U 30 31 (.fa 4 (.s 2)),U 30 32 (.ld none 0 (.s 31)),U 30 33 (.len (.s 32)),U 30 34 (.fa 1 (.s 2)),U 30 35 (.ld none 0 (.s 34)),U 30 36 (.bin .neq (.s 33) (.s 35)),V 37 (.pick (.m 30) tt (.s 36)),A 38 37,U 38 39 (.fa 1 (.s 2)),U 38 40 (.ld none 0 (.s 39)),U 38 41 (.bin .eql (.s 40) (Q 0)),U 38 42 (.mov (.s 41)),W 42 43 (.fa 2 (.s 2)),W 42 44 (.ld none 0 (.s 43)),U 38 45 (.pick (.s 42) (.s 44) ff),V 46 (.pick (.m 38) tt (.s 45)),Z [5,6,14,15,16,17,20,21,22,25,26,27,28,31,32,33,34,35,36,39,40,41,42,43,44,45]]
abbrev OA:=Rg [C 4 ff]
abbrev Q8:=Rg [V 7 (.alloc [O]),V 8 (.alloc [O]),N (.st 1 (.s 7) (Q (-4))),N (.st 1 (.s 8) (Q 3))]
abbrev QN:=Rg [X 47 3 2,M 48 47]
abbrev PY:=Rg [N (.st 1 (.s 7) (Q (-8))),N (.st 1 (.s 8) (Q 7))]
abbrev P6:=Rg [X 49 4 2,M 50 49,V 51 (.mkfn jF [] [.m 7,.m 8]),V 52 (.calli cm [.m 50,.m 51]),V 53 (.un .not (.m 52)),A 4 53]
def w8:af:=⟨2,[.tmp 4],
 (.seq Pq
 (.seq QS
 (.seq (.seq OU
 (.cond (.m 9)
 (.seq (K [5,6]) Qh)
 .skip))
 (.seq (.seq QL
 (.cond (.m 46)
 (.seq (F 2) (.seq OA
 .ret))
 .skip))
 (.seq Q8
 (.seq (.seq QN
 (.cond (.m 48)
 PY
 .skip))
 (.seq (.seq P6 (F 2))
 .ret)))))))⟩
abbrev Mr:=Rg [V 4 (.mov (.c (.nl))),C 5 (Q 0),Z [4,5]]
abbrev LI:=Rg [B 11 0,P 12 .lss 11 0,A 13 12,U 13 14 (.mov (.s 0)),U 13 15 (.bin .gtr (.s 14) (Q 11)),V 16 (.pick (.m 13) tt (.s 15)),Z [14,15]]
abbrev LR:=Rg [V 4 (.mov (.c (.nl))),C 5 (Q 2)]
abbrev Ls:=Rg [A 17 0,V 18 (.bin .sub (Q 11) (.m 17)),P 19 .quo 18 2,V 20 (.bin .add (Q 3) (.m 19)),A 6 20,C 7 (Q 256),C 8 (Q 256)]
abbrev MV:=Rg [A 21 1]
abbrev LZ:=Rg [C 7 (Q 32),C 8 (Q 64)]
abbrev Mn:=Rg [V 9 (.mov (.c (.nl)))]
abbrev Lz:=Rg [C 10 (Q 0)]
abbrev Ml:=Rg [A 22 9,B 23 10,V 24 (.mks 1 [.m 23]),V 25 (.app 1 (.m 22) (.m 24)),A 9 25]
abbrev L3:=Rg [B 26 10,B 27 7,L 28 .lss 26 27]
abbrev J7:=Rg [B 29 7,B 30 10,P 31 .add 30 4,A 32 10,B 33 6,L 34 .mul 32 33,B 35 8,L 36 .quo 34 35,V 37 (.bin .mul (Q 4) (.m 36)),L 38 .add 31 37,V 39 (.minmax false [.m 29,.m 38]),A 10 39]
abbrev Jk:=Rg [A 40 9,A 4 40,C 5 (Q 0)]
def uQ:af:=⟨2,[.tmp 4,.tmp 5],
 (.seq Mr
 (.scope
 (.seq (.seq LI
 (.cond (.m 16)
 (.seq (K [0,1]) (.seq LR
 .ret))
 .skip))
 (.seq Ls
 (.seq (.seq MV
 (.cond (.m 21)
 (.seq (K [7,8]) LZ)
 .skip))
 (.seq Mn
 (.seq Lz
 (.seq (.label 0)
 (.seq Ml
 (.seq (.seq L3
 (.cond (.m 28)
 (.seq J7
 (.goto 0))
 (.seq (K [6,7,8,10]) .skip)))
 (.seq Jk
 .ret)))))))))))⟩
abbrev VL:=Rg [C 4 ff,Z [4]]
abbrev Wz:=Rg [A 8 1,V 9 (.mks 1 [.m 8,Q 0,Q 0,Q 0]),A 5 9]
abbrev XM:=Rg [B 10 0,P 11 .gtr 10 4]
abbrev YB:=Rg [A 12 5,V 13 (.slice 1 (.m 12) none (some (Q 2)) none),A 5 13]
abbrev Xc:=Rg [A 15 0,A 16 5,H 17 vk [.m 15,.m 16],A 14 17,E 18 14 false 0,E 19 14 false 1,A 6 18,A 7 19,Z [14]]
abbrev XC:=Rg [A 20 7,P 21 .eql 20 0,A 22 21,W 22 23 (.mov (.s 6)),V 24 (.pick (.m 22) (.s 23) ff),A 4 24,Z [6,23]]
def C3:af:=⟨2,[.tmp 4],
 (.seq VL
 (.seq Wz
 (.seq (.seq XM
 (.cond (.m 11)
 YB
 .skip))
 (.seq Xc
 (.seq XC
 .ret)))))⟩
abbrev Po:=Rg [M 5 1,P 6 .sub 5 1,A 4 6]
abbrev Od:=Rg [B 7 4,P 8 .geq 7 0]
abbrev Oy:=Rg [B 11 0,G 12 2,B 13 4,L 14 .shr 12 13,P 15 .and 14 1,V 16 (.conv .u8 (.m 15)),V 17 (.callv (.m 11) [.m 16]),V 18 (.un .not (.m 17))]
abbrev OK:=Rg [A 9 4,P 10 .sub 9 1,A 4 10]
def kz:VC:=(.seq (.seq Od
 (.cond (.m 8)
 .skip
 (.seq (K [0,2,4]) (.exit 0))))
 (.seq (.block 1
 (.seq Oy
 (.cond (.m 18)
 (.seq (K [0,2,4]) .ret)
 .skip)))
 OK))
def xf:af:=⟨3,[],
 (.seq Po
 (.block 0
 (.seq (.loop kz) (K [0,2,4]))))⟩
abbrev Ts:=Rg [V 2 (.box (.m 0)),C 4 (Q 0),Z [4]]
abbrev Tb:=Rg [V 13 (.ld (some 4) 0 (.s 2)),H 14 fW [.m 13],A 12 14,E 15 12 false 0,E 16 12 false 1,A 5 15,A 6 16,Z [5,12]]
abbrev TJ:=Rg [B 17 6,P 18 .neq 17 0]
abbrev TS:=Rg [A 19 6,A 4 19]
abbrev RP:=Rg [B 20 1,V 21 (.len (.m 20)),X 22 3 2,M 23 22,V 24 (.len (.m 23)),L 25 .neq 21 24]
abbrev Vo:=Rg [C 4 (Q 8)]
abbrev RT:=Rg [A 26 1,V 27 (.len (.s 26)),C 28 (Q 0)]
abbrev Tm:=Rg [J 29 .lss 28 27]
abbrev Tp:=Rg [V 30 (.ia 1 (.s 26) (.s 28)),M 31 30,A 8 31]
abbrev Ur:=Rg [X 32 2 2,M 33 32,A 9 33]
abbrev Rn:=Rg [A 34 8,V 35 (.len (.s 34)),C 36 (Q 0)]
abbrev Pd:=Rg [J 37 .lss 36 35]
abbrev OJ:=Rg [V 38 (.ia 2 (.s 34) (.s 36)),V 39 (.ld (some 2) 0 (.m 38)),V 11 (.alloc [O,O]),Yd 2 11 39]
abbrev PS:=Rg [V 40 (.ld (some 2) 0 (.s 11)),B 41 9,H 42 zk [.m 40,.m 41],V 43 (.un .not (.m 42))]
abbrev PG:=Rg [C 4 (Q 8)]
abbrev Rk:=Rg [A 44 9,X 45 1 11,M 46 45,L 47 .sub 44 46,A 9 47]
abbrev Ps:=Rg [P 48 .add 36 1,A 36 48]
def jP:VC:=(.seq Pd
 (.seq (.cond (.m 37)
 .skip
 (.seq (K [34,35,36]) (.exit 2)))
 (.seq (.block 3
 (.seq OJ
 (.seq (.seq PS
 (.cond (.m 43)
 (.seq (.seq (K [2,9,26,27,28,34,35,36]) (F 11)) (.seq PG
 .ret))
 .skip))
 (.seq Rk (F 11)))))
 Ps)))
abbrev Qe:=Rg [A 49 9,P 50 .neq 49 0]
abbrev OT:=Rg [C 4 (Q 8)]
abbrev OQ:=Rg [P 51 .add 28 1,A 28 51]
def gR:VC:=(.seq Tm
 (.seq (.cond (.m 29)
 .skip
 (.seq (K [2,26,27,28]) (.exit 0)))
 (.seq (.block 1
 (.seq Tp
 (.seq Ur
 (.seq (.seq Rn
 (.block 2
 (.seq (.loop jP) (K [34,35,36]))))
 (.seq Qe
 (.cond (.m 50)
 (.seq (K [2,26,27,28]) (.seq OT
 .ret))
 .skip))))))
 OQ)))
abbrev Rh:=Rg [C 4 (Q 0)]
def zx:af:=⟨2,[.tmp 4],
 (.seq Ts
 (.seq (.seq Tb
 (.seq TJ
 (.cond (.m 18)
 (.seq (K [1,2]) (.seq TS
 .ret))
 (.seq (K [6]) .skip))))
 (.seq (.seq RP
 (.cond (.m 25)
 (.seq (K [1,2]) (.seq Vo
 .ret))
 .skip))
 (.seq (.seq RT
 (.block 0
 (.seq (.loop gR) (K [2,26,27,28]))))
 (.seq Rh
 .ret)))))⟩
abbrev Up:=Rg [V 1 (.box (.m 0)),C 2 (Q 0),C 3 (Q 0),Z [2,3]]
abbrev TK:=Rg [C 2 (Q 5)]
abbrev Uz:=Rg [V 4 (.fa 0 (.m 1)),M 5 4,V 6 (.bin .eql (.m 5) (.c (.d (.int .u8 2))))]
abbrev RZ:=Rg [C 2 (Q 3)]
abbrev Ub:VC:=(.reg true [
 B 7 2,
 B 8 2,
 V 9 (.bin .shl (Q 1) (.m 8)),
 P 10 .sub 9 1,
 A 2 7,
 A 3 10])
def AQ:af:=⟨1,[.tmp 2,.tmp 3],
 (.seq Up
 (.seq TK
 (.seq (.seq Uz
 (.cond (.m 6)
 (.seq (K [2]) RZ)
 .skip))
 (.seq Ub
 .ret))))⟩
abbrev Rl:=Rg [V 2 (.box (.m 0)),V 3 (.box (.m 1)),V 4 (.mov (.c (.nilf))),Z [4]]
abbrev PQ:=Rg [V 5 (.mkfn fm [] [.m 2,.m 3]),A 4 5]
def wH:af:=⟨2,[.tmp 4],
 (.seq Rl
 (.seq PQ
 .ret))⟩
abbrev Pt:=Rg [V 5 (.box (.m 2)),V 6 (.alloc [O])]
abbrev Q6:=Rg [B 13 0,B 14 1,H 15 CE [.m 13,.m 14],V 16 (.un .not (.m 15)),A 17 16,U 17 18 (.mov (.s 1)),U 17 19 (.len (.s 18)),U 17 20 (.ld none 0 (.s 5)),U 17 21 (.len (.s 20)),U 17 22 (.bin .neq (.s 19) (.s 21)),V 23 (.pick (.m 17) tt (.s 22)),Z [18,19,20,21,22]]
abbrev QY:=Rg [N (.st 1 (.s 6) (Q 8))]
abbrev Rc:=Rg [A 24 0,V 25 (.build [O,O] [(0,1,.m 24),(1,1,Q (-1))]),V 26 (.box (.m 25)),V 7 (.alloc [.nilp]),Yd 1 7 26]
abbrev PM:=Rg [A 27 1,V 28 (.len (.s 27)),C 29 (Q 0)]
abbrev Re:=Rg [J 30 .lss 29 28]
abbrev QG:=Rg [B 31 29,V 32 (.ia 1 (.s 27) (.s 29)),M 33 32,V 8 (.alloc [O]),Yd 1 8 31,A 9 33]
abbrev Pz:=Rg [V 10 (.alloc [O]),N (.st 1 (.s 10) (Q 0))]
abbrev Og:=Rg [A 34 9,V 35 (.calli oZ [.m 34])]
abbrev OC:=Rg [A 11 36,Z [27,28,29,35]]
abbrev My:=Rg [A 12 37]
abbrev Mh:=Rg [G 38 10,P 39 .add 38 1,Yd 1 10 39,Z [10]]
abbrev Bd:=[B 40 11,G 41 5,G 42 8,V 43 (.ia 1 (.m 41) (.m 42)),M 44 43,V 45 (.len (.m 44)),L 46 .geq 40 45,A 47 46,U 47 48 (.mov (.s 12)),U 47 49 (.bin .eql (.s 48) (Q 0)),U 47 50 (.mov (.s 49)),W 50 51 (.ld none 0 (.s 5)),W 50 52 (.ld none 0 (.s 8)),W 50 53 (.ia 1 (.s 51) (.s 52)),W 50 54 (.ld none 0 (.s 53)),W 50 55 (.mov (.s 11)),W 50 56 (.ia 1 (.s 54) (.s 55)),W 50 57 (.ld none 0 (.s 56)),W 50 58 (.bin .neq (.s 57) (Q 0)),U 47 59 (.pick (.s 50) (.s 58) ff),V 60 (.pick (.s 47) tt (.s 59)),A 61 60,U 61 62 (.mov (.s 12)),U 61 63 (.bin .gtr (.s 62) (Q 0)),U 61 64 (.mov (.s 63)),W 64 65 (.ld none 0 (.s 7)),W 64 66 (.mov (.s 12)),W 64 67 (.ld none 0 (.s 5)),W 64 68 (.ld none 0 (.s 8)),W 64 69 (.ia 1 (.s 67) (.s 68)),W 64 70 (.ld none 0 (.s 69)),W 64 71 (.mov (.s 11)),W 64 72 (.ia 1 (.s 70) (.s 71)),W 64 73 (.ld none 0 (.s 72)),W 64 74 (.calli jD [.s 65,.s 66,.s 73]),W 64 75 (.un .not (.s 74)),U 61 76 (.pick (.s 64) (.s 75) ff),V 77 (.pick (.s 61) tt (.s 76))]
def xC:VC:=.regP (.range 38) (.range 38) [] Bd
abbrev M8:=Rg [N (.st 1 (.m 6) (Q 8))]
def et:VC:=(.seq OC
 My)
def eu:VC:=(.block 3
 (.seq Mh
 (.seq (.seq xC (K [5,7,8,11,12,47,48,49,50,51,52,53,54,55,56,57,58,59,61,62,63,64,65,66,67,68,69,70,71,72,73,74,75,76]))
 (.cond (.m 77)
 (.seq M8
 .ret)
 (.seq (K [6]) .skip)))))
abbrev Nl:VC:=(.reg true [
 G 78 10,
 G 79 5,
 G 80 8,
 V 81 (.ia 1 (.m 79) (.m 80)),
 M 82 81,
 V 83 (.len (.m 82)),
 L 84 .neq 78 83])
abbrev LE:=Rg [N (.st 1 (.s 6) (Q 8))]
abbrev Mu:=Rg [P 85 .add 29 1,A 29 85]
def kL:VC:=(.seq Re
 (.seq (.cond (.m 30)
 .skip
 (.seq (.seq (.seq (K [27,28,29]) (F 5)) (F 7)) (.exit 0)))
 (.seq (.block 1
 (.seq QG
 (.seq Pz
 (.seq (.seq Og
 (.block 2
 (.seq (.rangeF (.s 35) [36,37] et eu) (F 35))))
 (.seq (.seq Nl (.seq (F 8) (F 10)))
 (.cond (.m 84)
 (.seq (.seq (.seq (K [27,28,29]) (F 5)) (F 7)) (.seq LE
 .ret))
 .skip))))))
 Mu)))
abbrev Lg:=Rg [N (.st 1 (.s 6) (Q 0))]
def wI:af:=⟨3,[.cell 6 none],
 (.seq Pt
 (.seq (.seq Q6
 (.cond (.m 23)
 (.seq (.seq (K [0,1]) (F 5)) (.seq QY
 .ret))
 .skip))
 (.seq Rc
 (.seq (.seq PM
 (.block 0
 (.seq (.loop kL) (.seq (.seq (K [27,28,29]) (F 5)) (F 7)))))
 (.seq Lg
 .ret)))))⟩
abbrev Rf:=Rg [V 1 (.box (.m 0)),V 2 (.mov (.c (.nilf))),Z [2]]
abbrev PW:=Rg [V 3 (.mkfn fh [] [.m 1]),A 2 3]
def xg:af:=⟨1,[.tmp 2],
 (.seq Rf
 (.seq PW
 .ret))⟩
abbrev Y8:=Rg [V 4 (.mov (.c (.nl))),C 5 (Q 0),Z [4,5]]
abbrev WV:=Rg [A 13 1,V 14 (.mks 1 [.m 13]),H 15 mC [Q 12,.m 14],A 12 15,E 16 12 false 0,E 17 12 false 1,A 6 16,A 7 17,Z [12]]
abbrev XY:=Rg [A 18 7,P 19 .neq 18 0]
abbrev YU:=Rg [V 4 (.mov (.c (.nl))),C 5 (Q 2)]
abbrev Wm:=Rg [H 21 su [Q 12],A 20 21,E 22 20 true 0,E 23 20 false 1,V 8 (.alloc [O,O,.nl,.nl]),Yd 4 8 22,A 9 23,Z [9,20]]
abbrev Zr:=Rg [V 25 (.ld (some 4) 1 (.s 8)),A 26 6,H 27 lJ [.m 25,.m 26],A 24 27,E 28 24 true 0,E 29 24 false 1,A 10 28,A 11 29,Z [11,24]]
abbrev YQ:=Rg [A 30 0,A 31 10,V 32 (.mks 1 [.m 30,.m 31]),H 33 eE [.m 32],A 4 33,C 5 (Q 0)]
def CQ:af:=⟨2,[.tmp 4,.tmp 5],
 (.seq Y8
 (.seq WV
 (.seq (.seq XY
 (.cond (.m 19)
 (.seq (K [0,6]) (.seq YU
 .ret))
 .skip))
 (.seq Wm
 (.seq (.seq Zr (F 8))
 (.seq YQ
 .ret))))))⟩
abbrev ET:=Rg [C 6 ff,Z [6]]
abbrev DW:=Rg [B 10 0,V 11 (.nilck (.m 10)),V 12 (.fa 0 (.m 11)),A 7 12,C 8 (Q 255),C 9 ff]
abbrev E6:=Rg [A 13 1,P 14 .eql 13 13]
abbrev rV:=[B 15 0,V 16 (.nilck (.m 15)),V 17 (.fa 1 (.m 16)),B 18 0,V 19 (.nilck (.m 18)),V 20 (.fa 1 (.m 19)),M 21 20,P 22 .lss 21 0,A 7 17,C 8 (Q 511),A 9 22]
def qn:VC:=.regP (.range 11) [0,1,2,8,9,3,4,5,6,7,10] [] rV
abbrev D0:=Rg [B 23 2,P 24 .lss 23 0,A 25 24,U 25 26 (.mov (.s 2)),U 25 27 (.mov (.s 8)),U 25 28 (.bin .gtr (.s 26) (.s 27)),V 29 (.pick (.m 25) tt (.s 28)),A 30 29,U 30 31 (.mov (.s 9)),U 30 32 (.un .not (.s 31)),U 30 33 (.mov (.s 32)),W 33 34 (.mov (.s 2)),W 33 35 (.mov (.s 7)),W 33 36 (.nilck (.s 35)),W 33 37 (.ld none 0 (.s 36)),W 33 38 (.bin .sub (.s 37) (Q 60)),W 33 39 (.bin .lss (.s 34) (.s 38)),W 33 40 (.mov (.s 39)),U 40 41 (.mov (.s 2)),U 40 42 (.mov (.s 7)),U 40 43 (.nilck (.s 42)),U 40 44 (.ld none 0 (.s 43)),U 40 45 (.bin .add (.s 44) (Q 60)),U 40 46 (.bin .gtr (.s 41) (.s 45)),W 33 47 (.pick (.s 40) tt (.s 46)),U 30 48 (.pick (.s 33) (.s 47) ff),V 49 (.pick (.m 30) tt (.s 48)),Z [8,9,26,27,28,31,32,33,34,35,36,37,38,39,40,41,42,43,44,45,46,47,48]]
abbrev Ef:=Rg [C 6 ff]
abbrev Ea:=Rg [A 50 7,A 51 2,V 52 (.nilck (.m 50)),N (.st 1 (.m 52) (.m 51))]
abbrev ER:=Rg [C 6 tt]
def mT:af:=⟨3,[.tmp 6],
 (.seq ET
 (.seq DW
 (.seq (.seq E6
 (.cond (.m 14)
 (.seq (K [7,8,9]) (.seq qn (K [0])))
 (.seq (K [0]) .skip)))
 (.seq (.seq D0
 (.cond (.m 49)
 (.seq (K [2,7]) (.seq Ef
 .ret))
 .skip))
 (.seq Ea
 (.seq ER
 .ret))))))⟩
abbrev oE:=Rg [C 4 ff,Z [4]]
abbrev oD:=Rg [A 5 0,A 6 1,V 7 (.calli gk [.m 5,.m 6]),P 8 .geq 7 0,A 4 8]
def eY:af:=⟨2,[.tmp 4],
 (.seq oE
 (.seq oD
 .ret))⟩
abbrev Hy:=Rg [C 2 ff,Z [2]]
abbrev HJ:=Rg [A 3 0,V 4 (.len (.m 3)),P 5 .gtr 4 0,A 2 5]
def pH:af:=⟨1,[.tmp 2],
 (.seq Hy
 (.seq HJ
 .ret))⟩
abbrev J5:=Rg [V 2 (.box (.m 0)),C 4 (Q 0),Z [4]]
abbrev IF:=Rg [V 10 (.ld (some 4) 0 (.s 2)),H 11 fW [.m 10],A 9 11,E 12 9 false 0,E 13 9 false 1,A 5 12,A 6 13,Z [9]]
abbrev Jm:=Rg [B 14 6,P 15 .neq 14 0]
abbrev J2:=Rg [A 16 6,A 4 16]
abbrev IZ:=Rg [B 17 1,V 18 (.len (.m 17)),A 19 5,L 20 .neq 18 19]
abbrev Kf:=Rg [C 4 (Q 8)]
abbrev IM:=Rg [A 21 1,V 22 (.len (.s 21)),C 23 (Q 0)]
abbrev Iq:=Rg [J 24 .lss 23 22]
abbrev Ia:=Rg [V 25 (.ia 1 (.s 21) (.s 23)),M 26 25,V 8 (.alloc [.nl]),Yd 1 8 26]
abbrev xz:=[G 27 8,V 28 (.len (.m 27)),V 29 (.ld (some 4) 0 (.s 2)),H 30 jK [.m 29],V 31 (.ix 5 1 false (.m 30) (Q 3)),L 32 .gtr 28 31,A 33 32,U 33 34 (.ld none 0 (.s 8)),U 33 35 (.mkfn ip [] [.s 2,.s 8]),U 33 36 (.calli bQ [.s 34,.s 35]),V 37 (.pick (.s 33) tt (.s 36))]
def ww:VC:=.regP (.range 11) (.range 11) [] xz
abbrev HA:=Rg [C 4 (Q 8)]
abbrev HL:=Rg [P 38 .add 23 1,A 23 38]
def jJ:VC:=(.seq Iq
 (.seq (.cond (.m 24)
 .skip
 (.seq (K [2,21,22,23]) (.exit 0)))
 (.seq (.block 1
 (.seq Ia
 (.seq (.seq ww (K [8,33,34,35,36]))
 (.cond (.m 37)
 (.seq (K [2,21,22,23]) (.seq HA
 .ret))
 .skip))))
 HL)))
abbrev HG:=Rg [C 4 (Q 0)]
def qW:af:=⟨2,[.tmp 4],
 (.seq J5
 (.seq IF
 (.seq (.seq Jm
 (.cond (.m 15)
 (.seq (K [1,2,5]) (.seq J2
 .ret))
 (.seq (K [6]) .skip)))
 (.seq (.seq IZ
 (.cond (.m 20)
 (.seq (K [1,2]) (.seq Kf
 .ret))
 .skip))
 (.seq (.seq IM
 (.block 0
 (.seq (.loop jJ) (K [2,21,22,23]))))
 (.seq HG
 .ret))))))⟩
abbrev xE:=[G 6 2,A 7 0,B 8 1,V 9 (.bin .shl (Q 1) (.m 8)),P 10 .sub 9 1,L 11 .and 7 10,B 12 1,H 13 dq [.m 6,.m 11,.m 12],A 5 13,E 14 5 true 0,E 15 5 false 1,Yd 1 2 14]
def wD:VC:=.regP (.range 12) [0,1,2,3,4,5,6,7,8,9,11,10] [] xE
def rQ:af:=⟨3,[],
 (.seq wD (K [1,2,5,15]))⟩
abbrev Jt:=Rg [V 1 (.box (.m 0)),V 2 (.alloc [O,O,O,O,O])]
abbrev Iw:=Rg [X 3 0 1,M 4 3,V 5 (.bin .eql (.m 4) (.c (.d (.int .u8 2))))]
abbrev In:=Rg [V 6 (.build [O,O,O,O,O] [(0,1,Q 1),(1,1,Q 4),(2,1,Q 3),(3,1,Q 1),(4,1,Q 7)]),Yd 5 2 6]
abbrev II:=Rg [V 7 (.build [O,O,O,O,O] [(0,1,Q 2),(1,1,Q 6),(2,1,Q 5),(3,1,Q 3),(4,1,Q 12)]),Yd 5 2 7]
def so:af:=⟨1,[.cell 2 (some 5)],
 (.seq Jt
 (.seq (.seq (.seq Iw (F 1))
 (.cond (.m 5)
 (.seq In
 .ret)
 .skip))
 (.seq II
 .ret)))⟩
abbrev Pk:=Rg [C 2 (Q 0),Z [2]]
abbrev QC:=Rg [A 3 0]
abbrev OL:=Rg [C 2 (Q 1)]
abbrev Qp:=Rg [C 2 (Q 0)]
def xd:af:=⟨1,[.tmp 2],
 (.seq Pk
 (.seq (.seq QC
 (.cond (.m 3)
 (.seq OL
 .ret)
 .skip))
 (.seq Qp
 .ret)))⟩
abbrev Ng:=Rg [C 2 (Q 0),Z [2]]
abbrev Lv:=Rg [A 3 0]
abbrev MO:=Rg [C 2 (Q 4)]
abbrev Ms:=Rg [C 2 (Q 3)]
def tO:af:=⟨1,[.tmp 2],
 (.seq Ng
 (.seq (.seq Lv
 (.cond (.m 3)
 (.seq MO
 .ret)
 .skip))
 (.seq Ms
 .ret)))⟩
abbrev QR:=Rg [C 4 ff,Z [4]]
abbrev PL:=Rg [A 6 1,P 7 .sub 6 1,V 8 (.bin .shl (Q 1) (.m 7)),V 5 (.alloc [O]),Yd 1 5 8]
abbrev Qg:=Rg [A 9 0,V 10 (.mkfn ma [] [.m 5]),V 11 (.calli cm [.m 9,.m 10]),V 12 (.un .not (.m 11)),A 4 12]
def xi:af:=⟨2,[.tmp 4],
 (.seq QR
 (.seq PL
 (.seq Qg
 .ret)))⟩
abbrev Mq:=Rg [C 5 (Q 0)]
abbrev LW:=Rg [M 14 1,V 15 (.len (.s 14)),C 16 (Q 0)]
abbrev LC:=Rg [J 17 .lss 16 15]
abbrev Mz:=Rg [B 18 16,V 19 (.ia 1 (.s 14) (.s 16)),M 20 19,A 6 18,A 7 20]
abbrev MN:=Rg [C 8 (Q 0)]
abbrev LD:=Rg [A 21 7,V 22 (.len (.s 21)),C 23 (Q 0)]
abbrev L9:=Rg [J 24 .lss 23 22]
abbrev LG:=Rg [V 25 (.ia 2 (.s 21) (.s 23)),V 26 (.ld (some 2) 0 (.m 25)),V 10 (.alloc [O,O]),Yd 2 10 26]
abbrev MA:=Rg [B 27 8,X 28 1 10,M 29 28,L 30 .add 27 29,A 11 30]
abbrev Nd:=Rg [B 31 8,B 32 11,L 33 .lss 31 32]
abbrev Ju:=Rg [X 36 0 10,M 37 36,P 38 .eql 37 0,A 39 38,U 39 40 (.fa 0 (.s 10)),U 39 41 (.ld none 0 (.s 40)),U 39 42 (.bin .eql (.s 41) (Q 13)),V 43 (.pick (.m 39) tt (.s 42)),Z [40,41,42]]
abbrev Iu:=Rg [B 44 5,A 12 44]
abbrev Il:=Rg [B 45 12,B 46 5,X 47 3 2,M 48 47,B 49 6,V 50 (.ia 1 (.m 48) (.m 49)),M 51 50,L 52 .add 46 51,L 53 .lss 45 52]
abbrev H3:=Rg [G 56 3,B 57 8,V 58 (.ia 1 (.m 56) (.m 57)),M 59 58,A 13 59]
abbrev Jz:=Rg [B 60 13,G 61 3,B 62 8,P 63 .add 62 1,V 64 (.ia 1 (.m 61) (.m 63)),M 65 64,L 66 .lss 60 65]
abbrev xA:=[B 72 0,X 73 0 10,M 74 73,B 75 12,P 76 .mul 75 32,B 77 13,L 78 .add 76 77,B 79 12,P 80 .mul 79 32,B 81 13,L 82 .add 80 81,X 83 0 10,M 84 83,H 85 BT [.m 84],L 86 .add 82 85,V 87 (.build [O,O,O] [(0,1,.m 74),(1,1,.m 78),(2,1,.m 86)]),V 88 (.callv (.m 72) [.m 87]),V 89 (.un .not (.m 88))]
def wp:VC:=.regP (.range 18) (.range 18) [] xA
abbrev If:=Rg [A 67 13,X 68 0 10,M 69 68,H 70 BT [.m 69],L 71 .add 67 70,A 13 71]
def dj:VC:=(.seq (.seq Jz
 (.cond (.m 66)
 .skip
 (.seq (K [13]) (.exit 8))))
 (.seq (.block 9
 (.seq wp
 (.cond (.m 89)
 (.seq (.seq (K [0,2,3,5,6,8,11,12,13,14,15,16,21,22,23]) (F 10)) .ret)
 .skip)))
 If))
abbrev I6:=Rg [A 54 12,P 55 .add 54 1,A 12 55]
def dU:VC:=(.seq (.seq Il
 (.cond (.m 53)
 .skip
 (.seq (K [12]) (.exit 6))))
 (.seq (.block 7
 (.seq H3
 (.block 8
 (.seq (.loop dj) (K [13])))))
 I6))
abbrev JH:=Rg [A 34 8,P 35 .add 34 1,A 8 35]
def cM:VC:=(.seq (.seq Nd
 (.cond (.m 33)
 .skip
 (.seq (.seq (K [11]) (F 10)) (.exit 4))))
 (.seq (.block 5
 (.seq (.seq Ju
 (.cond (.m 43)
 (.exit 5)
 .skip))
 (.seq Iu
 (.block 6
 (.seq (.loop dU) (K [12]))))))
 JH))
abbrev JE:=Rg [P 90 .add 23 1,A 23 90]
def dS:VC:=(.seq L9
 (.seq (.cond (.m 24)
 .skip
 (.seq (K [8,21,22,23]) (.exit 2)))
 (.seq (.block 3
 (.seq LG
 (.seq MA
 (.block 4
 (.seq (.loop cM) (.seq (K [11]) (F 10)))))))
 JE)))
abbrev IK:=Rg [A 91 5,X 92 3 2,M 93 92,A 94 6,V 95 (.ia 1 (.m 93) (.m 94)),M 96 95,L 97 .add 91 96,A 5 97]
abbrev Kj:=Rg [P 98 .add 16 1,A 16 98]
def dQ:VC:=(.seq LC
 (.seq (.cond (.m 17)
 .skip
 (.seq (K [0,2,3,5,14,15,16]) (.exit 0)))
 (.seq (.block 1
 (.seq Mz
 (.seq MN
 (.seq (.seq LD
 (.block 2
 (.seq (.loop dS) (K [8,21,22,23]))))
 IK))))
 Kj)))
def uj:af:=⟨4,[],
 (.seq Mq
 (.seq LW
 (.block 0
 (.seq (.loop dQ) (K [0,2,3,5,14,15,16])))))⟩
abbrev acL:=Rg [C 2 (Q 0),Z [2]]
abbrev adz:=Rg [A 3 0,P 4 .lss 3 5]
abbrev aeP:=Rg [C 2 (Q 4)]
abbrev adP:=Rg [C 2 (Q 2)]
def I2:af:=⟨1,[.tmp 2],
 (.seq acL
 (.seq (.seq adz
 (.cond (.m 4)
 (.seq aeP
 .ret)
 .skip))
 (.seq adP
 .ret)))⟩
abbrev Vx:=Rg [C 4 ff,C 5 (Q 0),Z [4,5]]
abbrev WI:=Rg [B 8 0,P 9 .lss 8 1,A 10 9,U 10 11 (.mov (.s 0)),U 10 12 (.bin .gtr (.s 11) (Q 11)),V 13 (.pick (.m 10) tt (.s 12)),A 7 13,Z [11,12]]
abbrev YK:=Rg [C 4 ff,C 5 (Q 2)]
abbrev V8:=Rg [B 15 1,V 16 (.len (.m 15)),B 17 0,H 18 Fj [.m 17],L 19 .neq 16 18,A 14 19]
abbrev Wy:=Rg [C 4 ff,C 5 (Q 4)]
abbrev Xr:=Rg [H 20 B8 [],A 21 0,V 22 (.ix 13 1 false (.m 20) (.m 21)),V 6 (.alloc [O]),Yd 1 6 22]
abbrev Yv:=Rg [A 23 1,V 24 (.mkfn oQ [] [.m 6]),V 25 (.calli cm [.m 23,.m 24]),V 26 (.un .not (.m 25)),A 4 26,C 5 (Q 0)]
def Dr:af:=⟨2,[.tmp 4,.tmp 5],
 (.seq Vx
 (.seq (.block 0
 (.seq WI
 (.cond (.m 7)
 (.seq (K [0,1]) (.seq YK
 .ret))
 (.seq V8
 (.cond (.m 14)
 (.seq (K [0,1]) (.seq Wy
 .ret))
 .skip)))))
 (.seq Xr
 (.seq Yv
 .ret))))⟩
abbrev Nc:=Rg [V 1 (.box (.m 0)),C 2 (Q 0),Z [2]]
abbrev L5:=Rg [V 6 (.ld (some 4) 0 (.s 1)),H 7 lJ [.m 6,Q 0],A 5 7,E 8 5 true 0,E 9 5 false 1,A 3 8,A 4 9,Z [3,5]]
abbrev Me:=Rg [B 10 4,P 11 .neq 10 0]
abbrev Le:=Rg [A 12 4,A 2 12]
abbrev L8:=Rg [X 13 0 1,M 14 13,P 15 .gtr 14 11]
abbrev LA:=Rg [C 2 (Q 2)]
abbrev MW:=Rg [C 2 (Q 0)]
def WQ:af:=⟨1,[.tmp 2],
 (.seq Nc
 (.seq (.seq L5
 (.seq Me
 (.cond (.m 11)
 (.seq (F 1) (.seq Le
 .ret))
 (.seq (K [4]) .skip))))
 (.seq (.seq (.seq L8 (F 1))
 (.cond (.m 15)
 (.seq LA
 .ret)
 .skip))
 (.seq MW
 .ret))))⟩
abbrev Ro:=Rg [C 2 ff,Z [2]]
abbrev Ql:=Rg [B 3 0,P 4 .lss 3 3,A 5 4,U 5 6 (.mov (.s 0)),U 5 7 (.bin .eql (.s 6) (Q 5)),V 8 (.pick (.m 5) tt (.s 7)),A 9 8,U 9 10 (.mov (.s 0)),U 9 11 (.bin .eql (.s 10) (Q 6)),V 12 (.pick (.m 9) tt (.s 11)),A 2 12,Z [0,6,7,10,11]]
def aaJ:af:=⟨1,[.tmp 2],
 (.seq Ro
 (.seq Ql
 .ret))⟩
abbrev Us:=Rg [C 4 (Q 0),C 5 (Q 0),Z [4,5]]
abbrev TF:=Rg [A 12 0,H 13 Cq [.m 12],A 11 13,E 14 11 true 0,E 15 11 false 1,V 6 (.alloc [O,O,O,O]),Yd 4 6 14,A 7 15,Z [11]]
abbrev RJ:=Rg [B 17 7,P 18 .neq 17 0,A 16 18]
abbrev U6:=Rg [A 19 7,C 4 (Q 0),A 5 19]
abbrev Ta:=Rg [B 21 1,V 22 (.len (.m 21)),X 23 0 6,M 24 23,L 25 .neq 22 24,A 20 25]
abbrev Ud:=Rg [C 4 (Q 0),C 5 (Q 4)]
abbrev SD:=Rg [C 8 (Q 0)]
abbrev RK:=Rg [A 26 1,V 27 (.len (.s 26)),C 28 (Q 0)]
abbrev TN:=Rg [J 29 .lss 28 27]
abbrev T3:=Rg [V 30 (.ia 1 (.s 26) (.s 28)),M 31 30,A 10 31]
abbrev N6:=Rg [B 32 10,X 33 1 6,M 34 33,L 35 .lss 32 34,A 36 35,U 36 37 (.mov (.s 10)),U 36 38 (.fa 2 (.s 6)),U 36 39 (.ld none 0 (.s 38)),U 36 40 (.bin .gtr (.s 37) (.s 39)),V 41 (.pick (.m 36) tt (.s 40)),Z [37,38,39,40]]
abbrev Qq:=Rg [C 4 (Q 0),C 5 (Q 2)]
abbrev Rq:VC:=(.reg true [
 A 42 8,
 V 43 (.ld (some 4) 0 (.s 6)),
 H 44 kw [.m 43],
 L 45 .mul 42 44,
 A 46 10,
 L 47 .add 45 46,
 X 48 1 6,
 M 49 48,
 L 50 .sub 47 49,
 A 8 50])
abbrev Qa:=Rg [P 51 .add 28 1,A 28 51]
def mg:VC:=(.seq TN
 (.seq (.cond (.m 29)
 .skip
 (.seq (.seq (K [26,27,28]) (F 6)) (.exit 1)))
 (.seq (.block 2
 (.seq T3
 (.seq (.seq N6
 (.cond (.m 41)
 (.seq (.seq (K [8,10,26,27,28]) (F 6)) (.seq Qq
 .ret))
 .skip))
 Rq)))
 Qa)))
abbrev Qu:=Rg [A 52 8,A 4 52,C 5 (Q 0)]
def Bo:af:=⟨2,[.tmp 4,.tmp 5],
 (.seq Us
 (.seq TF
 (.seq (.block 0
 (.seq RJ
 (.cond (.m 16)
 (.seq (.seq (K [1]) (F 6)) (.seq U6
 .ret))
 (.seq (K [7]) (.seq Ta
 (.cond (.m 20)
 (.seq (.seq (K [1]) (F 6)) (.seq Ud
 .ret))
 .skip))))))
 (.seq SD
 (.seq (.seq RK
 (.block 1
 (.seq (.loop mg) (.seq (K [26,27,28]) (F 6)))))
 (.seq Qu
 .ret))))))⟩
abbrev WF:=Rg [V 2 (.box (.m 0)),V 4 (.mov (.c (.nl))),C 5 (Q 0),Z [4,5]]
abbrev Ws:=Rg [V 11 (.ld (some 4) 0 (.s 2)),H 12 sD [.m 11],V 13 (.un .not (.m 12))]
abbrev ZB:=Rg [V 4 (.mov (.c (.nl))),C 5 (Q 8)]
abbrev Wf:=Rg [B 14 1,P 15 .lss 14 0,A 16 15,U 16 17 (.mov (.s 1)),U 16 18 (.fa 3 (.s 2)),U 16 19 (.ld none 0 (.s 18)),U 16 20 (.len (.s 19)),U 16 21 (.bin .geq (.s 17) (.s 20)),V 22 (.pick (.m 16) tt (.s 21)),Z [17,18,19,20,21]]
abbrev VH:=Rg [V 4 (.mov (.c (.nl))),C 5 (Q 2)]
abbrev Yx:=Rg [X 23 3 2,M 24 23,A 25 1,V 26 (.ia 1 (.m 24) (.m 25)),M 27 26,A 6 27]
abbrev WM:=Rg [B 28 6,X 29 1 2,M 30 29,L 31 .shr 28 30,P 32 .add 31 1,A 7 32]
abbrev Yu:=Rg [B 33 7,V 34 (.conv .u64 (.m 33)),H 35 lX [.m 34],A 8 35]
abbrev Y0:=Rg [A 37 7,A 38 8,V 39 (.bin .mul (Q 2) (.m 38)),P 40 .sub 39 1,H 41 dq [.c (.nl),.m 37,.m 40],A 36 41,E 42 36 true 0,E 43 36 false 1,A 9 42,A 10 43,Z [10,36]]
abbrev Hd:=[A 44 9,A 45 6,X 46 1 2,M 47 46,V 48 (.bin .shl (Q 1) (.m 47)),P 49 .sub 48 1,L 50 .and 45 49,X 51 1 2,M 52 51,H 53 dq [.m 44,.m 50,.m 52],E 54 53 true 0,E 55 53 false 1,A 4 54,A 5 55]
def E1:VC:=.regP (.range 14) (.range 14) [] Hd
def DQ:af:=⟨2,[.tmp 4,.tmp 5],
 (.seq WF
 (.seq (.seq Ws
 (.cond (.m 13)
 (.seq (.seq (K [1]) (F 2)) (.seq ZB
 .ret))
 .skip))
 (.seq (.seq Wf
 (.cond (.m 22)
 (.seq (.seq (K [1]) (F 2)) (.seq VH
 .ret))
 .skip))
 (.seq Yx
 (.seq WM
 (.seq Yu
 (.seq Y0
 (.seq (.seq E1 (.seq (K [53]) (F 2)))
 .ret))))))))⟩
abbrev zF:=Rg [V 2 (.mov (.c (.nl))),Z [2]]
abbrev z8:=Rg [C 3 (Q 0)]
abbrev Bc:=Rg [B 9 0,V 10 (.len (.s 9)),C 11 (Q 0)]
abbrev zC:=Rg [J 12 .lss 11 10]
abbrev AN:=Rg [V 13 (.ia 1 (.s 9) (.s 11)),M 14 13,A 5 14]
abbrev zu:=Rg [A 15 3,A 16 5,V 17 (.len (.m 16)),L 18 .add 15 17,A 3 18]
abbrev Bj:=Rg [B 19 3,P 20 .lss 19 0]
abbrev AF:=Rg [V 21 (.bad ),N (.bad )]
abbrev zR:=Rg [P 22 .add 11 1,A 11 22]
def fB:VC:=(.seq zC
 (.seq (.cond (.m 12)
 .skip
 (.seq (K [9,10,11]) (.exit 0)))
 (.seq (.block 1
 (.seq AN
 (.seq zu
 (.seq Bj
 (.cond (.m 20)
 AF
 .skip)))))
 zR)))
abbrev AU:=Rg [A 23 3,V 24 (.calli lO [.c (.nl),.m 23]),A 6 24]
abbrev xJ:=Rg [A 25 0,V 26 (.len (.s 25)),C 27 (Q 0)]
abbrev xT:=Rg [J 28 .lss 27 26]
abbrev yh:=Rg [V 29 (.ia 1 (.s 25) (.s 27)),M 30 29,A 8 30]
abbrev xO:=Rg [A 31 6,A 32 8,V 33 (.app 1 (.m 31) (.m 32)),A 6 33]
abbrev yv:=Rg [P 34 .add 27 1,A 27 34]
def dC:VC:=(.seq xT
 (.seq (.cond (.m 28)
 .skip
 (.seq (K [25,26,27]) (.exit 2)))
 (.seq (.block 3
 (.seq yh
 xO))
 yv)))
abbrev xM:=Rg [A 35 6,A 2 35]
def j6:af:=⟨1,[.tmp 2],
 (.seq zF
 (.seq z8
 (.seq (.seq Bc
 (.block 0
 (.seq (.loop fB) (K [9,10,11]))))
 (.seq AU
 (.seq (.seq xJ
 (.block 2
 (.seq (.loop dC) (K [25,26,27]))))
 (.seq xM
 .ret))))))⟩
abbrev WT:=Rg [C 2 (Q 0),Z [2]]
abbrev XF:=Rg [B 3 0,A 4 0,V 5 (.un .neg (.m 4)),V 6 (.minmax true [.m 3,.m 5]),A 2 6]
def CU:af:=⟨1,[.tmp 2],
 (.seq WT
 (.seq XF
 .ret))⟩
abbrev Ig:=Rg [C 2 (Q 0),Z [2]]
abbrev J0:=Rg [A 3 0,V 4 (.conv .u32 (.m 3)),H 5 Lu [.m 4],A 2 5]
abbrev JY:=Rg [A 6 0,H 7 od [.m 6],A 2 7]
def qU:af:=⟨1,[.tmp 2],
 (.seq Ig
 (.seq (.cond ff
 (.seq J0
 .ret)
 .skip)
 (.seq JY
 .ret)))⟩
abbrev Ax:=Rg [V 4 (.mov (.c (.nl))),Z [4]]
abbrev zN:=Rg [B 9 1,P 10 .lss 9 0]
abbrev AH:=Rg [V 11 (.bad ),N (.bad )]
abbrev Aq:=Rg [B 13 0,V 14 (.len (.m 13)),V 15 (.conv .u64 (.m 14)),A 16 1,V 17 (.conv .u64 (.m 16)),H 18 Ry [.m 15,.m 17],A 12 18,E 19 12 false 0,E 20 12 false 1,A 5 19,A 6 20,Z [12]]
abbrev AO:=Rg [A 21 5,V 22 (.bin .gtr (.m 21) (.c (.d (.int .u64 0)))),A 23 22,U 23 24 (.mov (.s 6)),U 23 25 (.bin .gtr (.s 24) (.c (.d (.int .u64 9223372036854775807)))),V 26 (.pick (.m 23) tt (.s 25)),Z [24,25]]
abbrev Bl:=Rg [V 27 (.bad ),N (.bad )]
abbrev yS:=Rg [A 28 6,V 29 (.conv .i64 (.m 28)),⟨some 30,none,.mkslice [.int .u8 0] (.s 29) (.s 29),[(0,0)]⟩,A 7 30,Z [29]]
abbrev AI:=Rg [B 31 7,A 32 0,V 33 (.cpy 1 (.m 31) (.m 32)),A 8 33]
abbrev AA:=Rg [B 34 8,B 35 7,V 36 (.len (.m 35)),L 37 .lss 34 36]
abbrev Bu:=[B 38 8,B 39 7,B 40 8,V 41 (.slice 1 (.m 39) (some (.m 40)) none none),B 42 7,B 43 8,V 44 (.slice 1 (.m 42) none (some (.m 43)) none),V 45 (.cpy 1 (.m 41) (.m 44)),L 46 .add 38 45,A 8 46]
def A9:VC:=.regP (.range 10) (.range 10) [] Bu
def Bh:VC:=(.seq (.seq AA
 (.cond (.m 37)
 .skip
 (.seq (K [8]) (.exit 0))))
 (.block 1
 A9))
abbrev yg:=Rg [A 47 7,A 4 47]
def Ec:af:=⟨2,[.tmp 4],
 (.seq Ax
 (.seq (.seq zN
 (.cond (.m 10)
 AH
 .skip))
 (.seq Aq
 (.seq (.seq AO
 (.cond (.m 26)
 Bl
 .skip))
 (.seq yS
 (.seq AI
 (.seq (.block 0
 (.seq (.loop Bh) (K [8])))
 (.seq yg
 .ret))))))))⟩
abbrev abx:=Rg [V 2 (.alloc [O,O,.nl,.nl]),C 3 (Q 0),Z [3]]
abbrev abm:=Rg [B 12 0,H 13 Cq [.m 12],A 11 13,E 14 11 true 0,E 15 11 false 1,V 4 (.alloc [O,O,O,O]),Yd 4 4 14,A 5 15,Z [11]]
abbrev abA:=Rg [B 16 5,P 17 .neq 16 0]
abbrev aca:=Rg [V 18 (.build [O,O,.nl,.nl] []),A 19 5,Yd 4 2 18,A 3 19]
abbrev Jj:=[A 20 0,X 21 3 4,M 22 21,V 23 (.ld (some 4) 0 (.s 4)),H 24 fY [.m 23],V 26 (.ld (some 4) 0 (.s 4)),H 27 fY [.m 26],⟨some 25,none,.mkslice [.int .i64 0] (.s 24) (.s 24),[(0,0)]⟩,⟨some 28,none,.mkslice [.int .i64 0] (.s 27) (.s 27),[(0,0)]⟩,V 29 (.build [O,O,.nl,.nl] [(0,1,.m 20),(1,1,.m 22),(2,1,.m 25),(3,1,.m 28)]),V 6 (.alloc [O,O,.nl,.nl]),Yd 4 6 29]
def Hf:VC:=.regP [0,1,2,3,4,6,7,5,8,9,10,11] (.range 12) [] (unp [0,1,2,3,4,7,5,6,8,9,10,11] Jj)
def wR:=Rg [V 30 (.ld (some 4) 1 (.s 4)),H 31 di [.m 30],V 7 (.alloc [O8,O8,O8,O8,O8,O8,O8,O8,O8,O8,O8,O8,O8,O8,O8,O8,O8,O8,O8,O8,O8,O8,O8,O8,O8,O8,O8,O8,O8,O8,O8,O8,O8,O8,O8,O8,O8,O8,O8,O8,O8,O8,O8,O8,O8,O8,O8,O8,O8,O8,O8,O8,O8,O8,O8,O8,O8,O8,O8,O8,O8,O8,O8,O8,O8,O8,O8,O8,O8,O8,O8,O8,O8,O8,O8,O8,O8,O8,O8,O8,O8,O8,O8,O8,O8,O8,O8,O8,O8,O8,O8,O8,O8,O8,O8,O8,O8,O8,O8,O8,O8,O8,O8,O8,O8,O8,O8,O8,O8,O8,O8,O8,O8,O8,O8,O8,O8,O8,O8,O8,O8,O8,O8,O8,O8,O8,O8,O8,O8,O8,O8,O8,O8,O8,O8,O8,O8,O8,O8,O8,O8,O8,O8,O8,O8,O8,O8,O8,O8,O8,O8,O8,O8,O8,O8,O8,O8,O8,O8,O8,O8,O8,O8,O8,O8,O8,O8,O8,O8,O8,O8,O8,O8,O8,O8,O8,O8,O8,O8,O8,O8,O8,O8,O8,O8,O8,O8,O8,O8,O8,O8,O8,O8,O8,O8,O8,O8,O8,O8,O8,O8,O8,O8,O8,O8,O8,O8,O8,O8,O8,O8,O8,O8,O8,O8,O8,O8,O8,O8,O8,O8,O8,O8,O8,O8,O8,O8,O8,O8,O8,O8,O8,O8,O8,O8,O8,O8,O8,O8,O8,O8,O8,O8,O8,O8,O8,O8,O8,O8,O8,O8,O8,O8,O8,O8,O8,O8,O8,O8,O8,O8,O8,O8,O8,O8,O8,O8,O8,O8,O8,O8,O8,O8,O8,O8,O8,O8,O8,O8,O8,O8,O8,O8,O8,O8,O8,O8,O8,O8]),Yd 289 7 31]
abbrev aaO:=Rg [X 32 2 6,M 33 32,V 34 (.len (.m 33)),C 35 (Q 0)]
abbrev abD:=Rg [J 36 .lss 35 34]
abbrev ace:=Rg [B 37 35,A 8 37]
abbrev abC:=Rg [X 38 2 6,M 39 38,B 40 8,A 41 8,V 42 (.ia 1 (.m 39) (.m 40)),N (.st 1 (.m 42) (.m 41))]
abbrev Wb:=Rg [P 43 .add 35 1,A 35 43]
def oS:VC:=(.seq abD
 (.seq (.cond (.m 36)
 .skip
 (.seq (K [34,35]) (.exit 0)))
 (.seq (.block 1
 (.seq ace
 abC))
 Wb)))
abbrev V5:=Rg [X 44 2 6,M 45 44,V 46 (.mkfn sq [] [.m 7]),V 47 (.calli fV [.m 45,.m 46]),Z [47]]
abbrev ZF:=Rg [X 48 2 6,M 49 48,V 50 (.len (.s 49)),C 51 (Q 0)]
abbrev Zv:=Rg [J 52 .lss 51 50]
abbrev VG:=Rg [B 53 51,V 54 (.ia 1 (.s 49) (.s 51)),M 55 54,A 9 53,A 10 55]
abbrev VE:=Rg [X 56 3 6,M 57 56,A 58 10,A 59 9,V 60 (.ia 1 (.m 57) (.m 58)),N (.st 1 (.m 60) (.m 59))]
abbrev Zh:=Rg [P 61 .add 51 1,A 51 61]
def oL:VC:=(.seq Zv
 (.seq (.cond (.m 52)
 .skip
 (.seq (K [49,50,51]) (.exit 2)))
 (.seq (.block 3
 (.seq VG
 VE))
 Zh)))
abbrev WC:=Rg [V 62 (.ld (some 4) 1 (.s 6)),Yd 4 2 62,C 3 (Q 0)]
def Fs:af:=⟨1,[.cell 2 (some 4),.tmp 3],
 (.seq abx
 (.seq abm
 (.seq (.seq abA
 (.cond (.m 17)
 (.seq (.seq (K [0]) (F 4)) (.seq aca
 .ret))
 (.seq (K [5]) .skip)))
 (.seq (.seq Hf (K [24,27]))
 (.seq (.seq wR (F 4))
 (.seq (.seq aaO
 (.block 0
 (.seq (.loop oS) (K [34,35]))))
 (.seq V5
 (.seq (.seq ZF
 (.block 2
 (.seq (.loop oL) (K [49,50,51]))))
 (.seq (.seq WC (F 6))
 .ret)))))))))⟩
abbrev tc:=Rg [C 4 (Q 0),Z [4]]
abbrev sX:=Rg [B 6 0,V 7 (.len (.m 6)),C 8 (Q 0)]
abbrev tA:=Rg [J 9 .lss 8 7]
abbrev tj:=Rg [B 10 8,A 5 10]
abbrev tu:=Rg [B 11 1,B 12 0,B 13 5,V 14 (.ia 5 (.m 12) (.m 13)),V 15 (.ld (some 5) 0 (.m 14)),V 16 (.callv (.m 11) [.m 15])]
abbrev tB:=Rg [A 17 5,A 4 17]
abbrev tz:=Rg [P 18 .add 8 1,A 8 18]
def br:VC:=(.seq tA
 (.seq (.cond (.m 9)
 .skip
 (.seq (K [0,1,7,8]) (.exit 0)))
 (.seq (.block 1
 (.seq tj
 (.seq tu
 (.cond (.m 16)
 (.seq (K [0,1,7,8]) (.seq tB
 .ret))
 (.seq (K [5]) .skip)))))
 tz)))
abbrev sR:=Rg [C 4 (Q (-1))]
def ej:af:=⟨2,[.tmp 4],
 (.seq tc
 (.seq (.seq sX
 (.block 0
 (.seq (.loop br) (K [0,1,7,8]))))
 (.seq sR
 .ret)))⟩
abbrev te:=Rg [C 4 ff,Z [4]]
abbrev sU:=Rg [A 5 0,A 6 1,V 7 (.calli jy [.m 5,.m 6]),P 8 .geq 7 0,A 4 8]
def ij:af:=⟨2,[.tmp 4],
 (.seq te
 (.seq sU
 .ret))⟩
abbrev Io:=Rg [C 4 ff,Z [4]]
abbrev Ie:=Rg [B 5 0,M 6 1,L 7 .lss 5 6,A 8 7,U 8 9 (.mov (.s 0)),U 8 10 (.ld none 0 (.s 2)),U 8 11 (.bin .gtr (.s 9) (.s 10)),V 12 (.pick (.m 8) tt (.s 11)),A 4 12,Z [0,2,9,10,11]]
def r9:af:=⟨3,[.tmp 4],
 (.seq Io
 (.seq Ie
 .ret))⟩
abbrev T7:=Rg [V 2 (.box (.m 0)),C 4 ff,Z [4]]
abbrev SK:=Rg [X 5 1 2,M 6 5,P 7 .geq 6 1,A 8 7,W 8 9 (.fa 1 (.s 2)),W 8 10 (.ld none 0 (.s 9)),W 8 11 (.mov (.s 1)),W 8 12 (.bin .leq (.s 10) (.s 11)),V 13 (.pick (.m 8) (.s 12) ff),A 14 13,W 14 15 (.fa 0 (.s 2)),W 14 16 (.ld none 0 (.s 15)),W 14 17 (.bin .geq (.s 16) (Q 0)),V 18 (.pick (.m 14) (.s 17) ff),A 19 18,W 19 20 (.fa 0 (.s 2)),W 19 21 (.ld none 0 (.s 20)),W 19 22 (.bin .leq (.s 21) (Q 11)),W 19 23 (.mov (.s 22)),U 23 24 (.fa 0 (.s 2)),U 23 25 (.ld none 0 (.s 24)),U 23 26 (.bin .eql (.s 25) (Q 13)),W 19 27 (.pick (.s 23) tt (.s 26)),V 28 (.pick (.m 19) (.s 27) ff),A 4 28,Z [1,2,9,10,11,12,15,16,17,20,21,22,23,24,25,26,27]]
def zD:af:=⟨2,[.tmp 4],
 (.seq T7
 (.seq SK
 .ret))⟩
abbrev Jr:=Rg [G 4 1,G 5 2,L 6 .geq 4 5]
abbrev I3:=Rg [B 10 0,G 11 2,V 12 (.callv (.m 10) [.m 11]),V 13 (.un .not (.m 12))]
abbrev Jw:=Rg [G 7 1,G 8 2,L 9 .sub 7 8,Yd 1 1 9]
def gu:VC:=(.seq (.seq Jr
 (.cond (.m 6)
 .skip
 (.seq (K [2]) (.exit 0))))
 (.seq (.block 1
 (.seq I3
 (.cond (.m 13)
 (.seq (K [0,1,2]) .ret)
 .skip)))
 Jw))
abbrev IX:=Rg [A 14 0,M 15 1,V 16 (.callv (.m 14) [.m 15]),Z [16]]
def sA:af:=⟨3,[],
 (.seq (.block 0
 (.seq (.loop gu) (K [2])))
 IX)⟩
abbrev WY:=Rg [C 4 ff,Z [4]]
abbrev X2:=Rg [B 10 0,P 11 .lss 10 0,A 12 11,U 12 13 (.mov (.s 0)),U 12 14 (.bin .gtr (.s 13) (Q 255)),V 15 (.pick (.m 12) tt (.s 14)),A 16 15,U 16 17 (.mov (.s 1)),U 16 18 (.len (.s 17)),U 16 19 (.bin .gtr (.s 18) (Q 8)),V 20 (.pick (.m 16) tt (.s 19)),Z [0,13,14,17,18,19]]
abbrev YV:=Rg [C 4 ff]
abbrev Wv:=Rg [A 21 1,V 22 (.len (.s 21)),C 23 (Q 0)]
abbrev Wp:=Rg [J 24 .lss 23 22]
abbrev Y2:=Rg [V 25 (.ia 1 (.s 21) (.s 23)),M 26 25,A 6 26]
abbrev YE:=Rg [C 7 (Q 40)]
abbrev W5:=Rg [A 27 6,V 28 (.len (.s 27)),C 29 (Q 0)]
abbrev YJ:=Rg [J 30 .lss 29 28]
abbrev Za:=Rg [V 31 (.ia 2 (.s 27) (.s 29)),V 32 (.ld (some 2) 0 (.m 31)),V 9 (.alloc [O,O]),Yd 2 9 32]
abbrev TP:=Rg [X 33 1 9,M 34 33,P 35 .lss 34 1,A 36 35,U 36 37 (.fa 1 (.s 9)),U 36 38 (.ld none 0 (.s 37)),U 36 39 (.mov (.s 7)),U 36 40 (.bin .gtr (.s 38) (.s 39)),V 41 (.pick (.m 36) tt (.s 40)),A 42 41,U 42 43 (.fa 0 (.s 9)),U 42 44 (.ld none 0 (.s 43)),U 42 45 (.bin .lss (.s 44) (Q 0)),V 46 (.pick (.m 42) tt (.s 45)),A 47 46,U 47 48 (.fa 0 (.s 9)),U 47 49 (.ld none 0 (.s 48)),U 47 50 (.bin .gtr (.s 49) (Q 11)),U 47 51 (.mov (.s 50)),W 51 52 (.fa 0 (.s 9)),W 51 53 (.ld none 0 (.s 52)),W 51 54 (.bin .neq (.s 53) (Q 13)),U 47 55 (.pick (.s 51) (.s 54) ff),V 56 (.pick (.m 47) tt (.s 55)),Z [37,38,39,40,43,44,45,48,49,50,51,52,53,54,55]]
abbrev Rx:=Rg [C 4 ff]
abbrev Vp:=Rg [A 57 7,X 58 1 9,M 59 58,L 60 .sub 57 59,A 7 60]
abbrev UV:=Rg [P 61 .add 29 1,A 29 61]
def nM:VC:=(.seq YJ
 (.seq (.cond (.m 30)
 .skip
 (.seq (K [7,27,28,29]) (.exit 2)))
 (.seq (.block 3
 (.seq Za
 (.seq (.seq TP
 (.cond (.m 56)
 (.seq (.seq (K [7,21,22,23,27,28,29]) (F 9)) (.seq Rx
 .ret))
 .skip))
 (.seq Vp (F 9)))))
 UV)))
abbrev Te:=Rg [P 62 .add 23 1,A 23 62]
def nx:VC:=(.seq Wp
 (.seq (.cond (.m 24)
 .skip
 (.seq (K [21,22,23]) (.exit 0)))
 (.seq (.block 1
 (.seq Y2
 (.seq YE
 (.seq W5
 (.block 2
 (.seq (.loop nM) (K [7,27,28,29])))))))
 Te)))
abbrev Tw:=Rg [C 4 tt]
def Cz:af:=⟨2,[.tmp 4],
 (.seq WY
 (.seq (.seq X2
 (.cond (.m 20)
 (.seq (K [1]) (.seq YV
 .ret))
 .skip))
 (.seq (.seq Wv
 (.block 0
 (.seq (.loop nx) (K [21,22,23]))))
 (.seq Tw
 .ret))))⟩
abbrev Im:=Rg [C 3 (Q 0)]
abbrev Jh:=Rg [M 6 1,V 7 (.len (.s 6)),C 8 (Q 0)]
abbrev Is:=Rg [J 9 .lss 8 7]
abbrev J8:=Rg [V 10 (.ia 2 (.s 6) (.s 8)),V 11 (.ld (some 2) 0 (.m 10)),V 5 (.alloc [O,O]),Yd 2 5 11]
abbrev Ko:=Rg [X 12 1 5,M 13 12,C 14 (Q 0)]
abbrev JK:=Rg [J 15 .lss 14 13]
abbrev Jf:=Rg [B 16 0,B 17 3,X 18 0 5,M 19 18,V 20 (.callv (.m 16) [.m 17,.m 19]),V 21 (.un .not (.m 20))]
abbrev IU:=Rg [A 22 3,P 23 .add 22 1,A 3 23]
abbrev Ji:=Rg [P 24 .add 14 1,A 14 24]
def eF:VC:=(.seq JK
 (.seq (.cond (.m 15)
 .skip
 (.seq (.seq (K [13,14]) (F 5)) (.exit 2)))
 (.seq (.block 3
 (.seq (.seq Jf
 (.cond (.m 21)
 (.seq (.seq (K [0,3,6,7,8,13,14]) (F 5)) .ret)
 .skip))
 IU))
 Ji)))
abbrev JX:=Rg [P 25 .add 8 1,A 8 25]
def dA:VC:=(.seq Is
 (.seq (.cond (.m 9)
 .skip
 (.seq (K [0,3,6,7,8]) (.exit 0)))
 (.seq (.block 1
 (.seq J8
 (.seq Ko
 (.block 2
 (.seq (.loop eF) (.seq (K [13,14]) (F 5)))))))
 JX)))
def rW:af:=⟨2,[],
 (.seq Im
 (.seq Jh
 (.block 0
 (.seq (.loop dA) (K [0,3,6,7,8])))))⟩
abbrev sk:=Rg [C 4 (Q 0),Z [4]]
abbrev rF:=Rg [B 6 0,V 7 (.len (.m 6)),C 8 (Q 0)]
abbrev sm:=Rg [J 9 .lss 8 7]
abbrev rO:=Rg [B 10 8,A 5 10]
abbrev rq:=Rg [B 11 1,B 12 0,B 13 5,V 14 (.ia 1 (.m 12) (.m 13)),M 15 14,V 16 (.callv (.m 11) [.m 15])]
abbrev rB:=Rg [A 17 5,A 4 17]
abbrev r5:=Rg [P 18 .add 8 1,A 8 18]
def bj:VC:=(.seq sm
 (.seq (.cond (.m 9)
 .skip
 (.seq (K [0,1,7,8]) (.exit 0)))
 (.seq (.block 1
 (.seq rO
 (.seq rq
 (.cond (.m 16)
 (.seq (K [0,1,7,8]) (.seq rB
 .ret))
 (.seq (K [5]) .skip)))))
 r5)))
abbrev rR:=Rg [C 4 (Q (-1))]
def dV:af:=⟨2,[.tmp 4],
 (.seq sk
 (.seq (.seq rF
 (.block 0
 (.seq (.loop bj) (K [0,1,7,8]))))
 (.seq rR
 .ret)))⟩
abbrev Fx:=Rg [V 3 (.box (.m 0)),C 4 ff,Z [4]]
abbrev Fz:VC:=(.reg true [
 V 5 (.ld (some 4) 0 (.m 1)),
 V 6 (.ld (some 5) 0 (.s 3)),
 H 7 rX [.m 5,.m 6],
 V 8 (.un .not (.m 7)),
 A 9 8,
 U 9 10 (.fa 3 (.s 3)),
 U 9 11 (.ld none 0 (.s 10)),
 U 9 12 (.ld none 0 (.s 2)),
 U 9 13 (.ia 5 (.s 12) (Q 0)),
 U 9 14 (.fa 3 (.s 13)),
 U 9 15 (.ld none 0 (.s 14)),
 U 9 16 (.binb true (.s 11) (.s 15)),
 V 17 (.pick (.s 9) tt (.s 16)),
 A 4 17])
def oq:af:=⟨3,[.tmp 4],
 (.seq Fx
 (.seq (.seq Fz (.seq (K [2,9,10,11,12,13,14,15,16]) (F 3)))
 .ret))⟩
abbrev JV:=Rg [V 2 (.box (.m 0)),V 3 (.box (.m 1)),C 4 ff,Z [4]]
abbrev J1:=Rg [V 6 (.ld (some 4) 1 (.s 2)),H 7 jK [.m 6],V 5 (.alloc [O,O,O,O,O]),Yd 5 5 7]
abbrev Iv:VC:=(.reg true [
 X 8 0 3,
 M 9 8,
 P 10 .geq 9 0,
 A 11 10,
 W 11 12 (.fa 0 (.s 3)),
 W 11 13 (.ld none 0 (.s 12)),
 W 11 14 (.iarr 5 1 (.s 5) (Q 1)),
 W 11 15 (.ld none 0 (.s 14)),
 W 11 16 (.bin .shl (Q 1) (.s 15)),
 W 11 17 (.bin .lss (.s 13) (.s 16)),
 V 18 (.pick (.s 11) (.s 17) ff),
 A 19 18,
 W 19 20 (.fa 1 (.s 3)),
 W 19 21 (.ld none 0 (.s 20)),
 W 19 22 (.bin .geq (.s 21) (Q 0)),
 V 23 (.pick (.s 19) (.s 22) ff),
 A 24 23,
 W 24 25 (.fa 1 (.s 3)),
 W 24 26 (.ld none 0 (.s 25)),
 W 24 27 (.iarr 5 1 (.s 5) (Q 4)),
 W 24 28 (.ld none 0 (.s 27)),
 W 24 29 (.bin .leq (.s 26) (.s 28)),
 V 30 (.pick (.s 24) (.s 29) ff),
 A 31 30,
 W 31 32 (.fa 4 (.s 3)),
 W 31 33 (.ld none 0 (.s 32)),
 W 31 34 (.len (.s 33)),
 W 31 35 (.fa 1 (.s 3)),
 W 31 36 (.ld none 0 (.s 35)),
 W 31 37 (.bin .eql (.s 34) (.s 36)),
 V 38 (.pick (.s 31) (.s 37) ff),
 A 39 38,
 W 39 40 (.fa 1 (.s 3)),
 W 39 41 (.ld none 0 (.s 40)),
 W 39 42 (.bin .gtr (.s 41) (Q 0)),
 W 39 43 (.mov (.s 42)),
 U 43 44 (.fa 2 (.s 3)),
 U 43 45 (.ld none 0 (.s 44)),
 U 43 46 (.un .not (.s 45)),
 W 39 47 (.pick (.s 43) tt (.s 46)),
 V 48 (.pick (.s 39) (.s 47) ff),
 A 49 48,
 W 49 50 (.fa 4 (.s 3)),
 W 49 51 (.ld none 0 (.s 50)),
 W 49 52 (.fa 3 (.s 3)),
 W 49 53 (.ld none 0 (.s 52)),
 W 49 54 (.call nK [.s 53]),
 W 49 55 (.call oP [.s 51,.s 54]),
 V 56 (.pick (.s 49) (.s 55) ff),
 A 4 56])
def r7:af:=⟨2,[.tmp 4],
 (.seq JV
 (.seq (.seq J1 (F 2))
 (.seq (.seq Iv (.seq (.seq (K [11,12,13,14,15,16,17,19,20,21,22,24,25,26,27,28,29,31,32,33,34,35,36,37,39,40,41,42,43,44,45,46,47,49,50,51,52,53,54,55]) (F 3)) (F 5)))
 .ret)))⟩
abbrev Ja:=Rg [C 3 ff,Z [3]]
abbrev Ih:=Rg [B 4 0,G 5 1,V 6 (.un .neg (.m 5)),L 7 .lss 4 6,A 8 7,U 8 9 (.mov (.s 0)),U 8 10 (.ld none 0 (.s 1)),U 8 11 (.bin .geq (.s 9) (.s 10)),V 12 (.pick (.m 8) tt (.s 11)),A 3 12,Z [0,1,9,10,11]]
def sy:af:=⟨2,[.tmp 3],
 (.seq Ja
 (.seq Ih
 .ret))⟩
abbrev abl:=Rg [C 2 (Q 0),Z [2]]
abbrev abY:=Rg [A 3 0,P 4 .lss 3 5]
abbrev aaX:=Rg [C 2 (Q 4)]
abbrev aaI:=Rg [C 2 (Q 2)]
def GK:af:=⟨1,[.tmp 2],
 (.seq abl
 (.seq (.seq abY
 (.cond (.m 4)
 (.seq aaX
 .ret)
 .skip))
 (.seq aaI
 .ret)))⟩
abbrev JS:=Rg [V 0 (.alloc [O,O,O,O,O,O,O,O,O,O,O,O,O])]
abbrev I1:=Rg [V 1 (.build [O,O,O,O,O,O,O,O,O,O,O,O,O] [(1,1,Q 1),(2,1,Q 1),(3,1,Q 2),(4,1,Q 2),(5,1,Q 4),(6,1,Q 4),(7,1,Q 7),(8,1,Q 7),(9,1,Q 12),(10,1,Q 12),(11,1,Q 8191)]),Yd 13 0 1]
def T6:af:=⟨0,[.cell 0 (some 13)],
 (.seq JS
 (.seq I1
 .ret))⟩
abbrev Ot:=Rg [C 3 ff,Z [3]]
abbrev QJ:=Rg [B 4 0,G 5 1,L 6 .gtr 4 5,A 7 6,U 7 8 (.mov (.s 0)),U 7 9 (.ld none 0 (.s 1)),U 7 10 (.un .neg (.s 9)),U 7 11 (.bin .lss (.s 8) (.s 10)),V 12 (.pick (.m 7) tt (.s 11)),A 3 12,Z [0,1,8,9,10,11]]
def wY:af:=⟨2,[.tmp 3],
 (.seq Ot
 (.seq QJ
 .ret))⟩
abbrev aeu:=Rg [V 2 (.alloc [O,O,O,O]),C 3 (Q 0),Z [3]]
abbrev adI:=Rg [B 4 0,P 5 .lss 4 1,A 6 5,U 6 7 (.mov (.s 0)),U 6 8 (.bin .gtr (.s 7) (Q 12)),V 9 (.pick (.m 6) tt (.s 8)),Z [7,8]]
abbrev adC:=Rg [V 10 (.build [O,O,O,O] []),Yd 4 2 10,C 3 (Q 2)]
abbrev aeG:=Rg [H 11 acN [],A 12 0,V 13 (.ix 13 4 true (.m 11) (.m 12)),Yd 4 2 13,C 3 (Q 0)]
def aka:af:=⟨1,[.cell 2 (some 4),.tmp 3],
 (.seq aeu
 (.seq (.seq adI
 (.cond (.m 9)
 (.seq (K [0]) (.seq adC
 .ret))
 .skip))
 (.seq aeG
 .ret)))⟩
abbrev HW:=Rg [V 1 (.box (.m 0)),C 2 (Q 0),Z [2]]
abbrev Hw:=Rg [X 3 2 1,M 4 3,X 5 1 1,M 6 5,L 7 .sub 4 6,P 8 .add 7 1,A 2 8]
def pO:af:=⟨1,[.tmp 2],
 (.seq HW
 (.seq (.seq Hw (F 1))
 .ret))⟩
abbrev UD:=Rg [V 1 (.box (.m 0)),C 2 ff,Z [2]]
abbrev RR:=Rg [X 10 0 1,M 11 10,H 12 Cq [.m 11],A 9 12,E 13 9 true 0,E 14 9 false 1,V 3 (.alloc [O,O,O,O]),Yd 4 3 13,A 4 14,Z [9]]
abbrev T8:VC:=(.reg true [
 A 15 4,
 P 16 .neq 15 0,
 A 17 16,
 U 17 18 (.fa 1 (.s 1)),
 U 17 19 (.ld none 0 (.s 18)),
 U 17 20 (.fa 3 (.s 3)),
 U 17 21 (.ld none 0 (.s 20)),
 U 17 22 (.bin .neq (.s 19) (.s 21)),
 V 23 (.pick (.s 17) tt (.s 22)),
 A 24 23,
 U 24 25 (.fa 2 (.s 1)),
 U 24 26 (.ld none 0 (.s 25)),
 U 24 27 (.len (.s 26)),
 U 24 28 (.ld (some 4) 0 (.s 3)),
 U 24 29 (.call fY [.s 28]),
 U 24 30 (.bin .neq (.s 27) (.s 29)),
 V 31 (.pick (.s 24) tt (.s 30)),
 A 32 31,
 U 32 33 (.fa 3 (.s 1)),
 U 32 34 (.ld none 0 (.s 33)),
 U 32 35 (.len (.s 34)),
 U 32 36 (.ld (some 4) 0 (.s 3)),
 U 32 37 (.call fY [.s 36]),
 U 32 38 (.bin .neq (.s 35) (.s 37)),
 V 39 (.pick (.s 32) tt (.s 38))])
abbrev UI:=Rg [C 2 ff]
def rY:=Rg [V 40 (.ld (some 4) 1 (.s 3)),H 41 di [.m 40],V 5 (.alloc [O8,O8,O8,O8,O8,O8,O8,O8,O8,O8,O8,O8,O8,O8,O8,O8,O8,O8,O8,O8,O8,O8,O8,O8,O8,O8,O8,O8,O8,O8,O8,O8,O8,O8,O8,O8,O8,O8,O8,O8,O8,O8,O8,O8,O8,O8,O8,O8,O8,O8,O8,O8,O8,O8,O8,O8,O8,O8,O8,O8,O8,O8,O8,O8,O8,O8,O8,O8,O8,O8,O8,O8,O8,O8,O8,O8,O8,O8,O8,O8,O8,O8,O8,O8,O8,O8,O8,O8,O8,O8,O8,O8,O8,O8,O8,O8,O8,O8,O8,O8,O8,O8,O8,O8,O8,O8,O8,O8,O8,O8,O8,O8,O8,O8,O8,O8,O8,O8,O8,O8,O8,O8,O8,O8,O8,O8,O8,O8,O8,O8,O8,O8,O8,O8,O8,O8,O8,O8,O8,O8,O8,O8,O8,O8,O8,O8,O8,O8,O8,O8,O8,O8,O8,O8,O8,O8,O8,O8,O8,O8,O8,O8,O8,O8,O8,O8,O8,O8,O8,O8,O8,O8,O8,O8,O8,O8,O8,O8,O8,O8,O8,O8,O8,O8,O8,O8,O8,O8,O8,O8,O8,O8,O8,O8,O8,O8,O8,O8,O8,O8,O8,O8,O8,O8,O8,O8,O8,O8,O8,O8,O8,O8,O8,O8,O8,O8,O8,O8,O8,O8,O8,O8,O8,O8,O8,O8,O8,O8,O8,O8,O8,O8,O8,O8,O8,O8,O8,O8,O8,O8,O8,O8,O8,O8,O8,O8,O8,O8,O8,O8,O8,O8,O8,O8,O8,O8,O8,O8,O8,O8,O8,O8,O8,O8,O8,O8,O8,O8,O8,O8,O8,O8,O8,O8,O8,O8,O8,O8,O8,O8,O8,O8,O8,O8,O8,O8,O8,O8,O8]),Yd 289 5 41]
abbrev TA:=Rg [X 42 2 1,M 43 42,V 44 (.len (.s 43)),C 45 (Q 0)]
abbrev U7:=Rg [J 46 .lss 45 44]
abbrev Tj:=Rg [B 47 45,V 48 (.ia 1 (.s 43) (.s 45)),M 49 48,A 6 47,A 7 49]
abbrev S9:=Rg [B 50 7,P 51 .lss 50 0,A 52 51,U 52 53 (.mov (.s 7)),U 52 54 (.fa 3 (.s 1)),U 52 55 (.ld none 0 (.s 54)),U 52 56 (.len (.s 55)),U 52 57 (.bin .geq (.s 53) (.s 56)),V 58 (.pick (.m 52) tt (.s 57)),A 59 58,U 59 60 (.fa 3 (.s 1)),U 59 61 (.ld none 0 (.s 60)),U 59 62 (.mov (.s 7)),U 59 63 (.ia 1 (.s 61) (.s 62)),U 59 64 (.ld none 0 (.s 63)),U 59 65 (.mov (.s 6)),U 59 66 (.bin .neq (.s 64) (.s 65)),V 67 (.pick (.m 59) tt (.s 66)),Z [53,54,55,56,57,60,61,62,63,64,65,66]]
abbrev SM:=Rg [C 2 ff]
abbrev Oj:=Rg [B 68 6,P 69 .eql 68 0]
abbrev Rb:=Rg [X 70 2 1,M 71 70,A 72 6,P 73 .sub 72 1,V 74 (.ia 1 (.m 71) (.m 73)),M 75 74,A 8 75]
abbrev PB:VC:=(.reg true [
 B 76 8,
 V 77 (.iarr 289 1 (.s 5) (.m 76)),
 M 78 77,
 B 79 7,
 V 80 (.iarr 289 1 (.s 5) (.m 79)),
 M 81 80,
 L 82 .gtr 78 81,
 A 83 82,
 U 83 84 (.mov (.s 8)),
 U 83 85 (.iarr 289 1 (.s 5) (.s 84)),
 U 83 86 (.ld none 0 (.s 85)),
 U 83 87 (.mov (.s 7)),
 U 83 88 (.iarr 289 1 (.s 5) (.s 87)),
 U 83 89 (.ld none 0 (.s 88)),
 U 83 90 (.bin .eql (.s 86) (.s 89)),
 U 83 91 (.mov (.s 90)),
 W 91 92 (.mov (.s 8)),
 W 91 93 (.mov (.s 7)),
 W 91 94 (.bin .gtr (.s 92) (.s 93)),
 U 83 95 (.pick (.s 91) (.s 94) ff),
 V 96 (.pick (.s 83) tt (.s 95))])
abbrev Ra:=Rg [C 2 ff]
abbrev QA:=Rg [P 97 .add 45 1,A 45 97]
def mj:VC:=(.seq U7
 (.seq (.cond (.m 46)
 .skip
 (.seq (.seq (.seq (K [43,44,45]) (F 1)) (F 5)) (.exit 0)))
 (.seq (.block 1
 (.seq Tj
 (.seq (.seq S9
 (.cond (.m 67)
 (.seq (.seq (.seq (K [6,7,43,44,45]) (F 1)) (F 5)) (.seq SM
 .ret))
 .skip))
 (.seq (.seq Oj
 (.cond (.m 69)
 (.seq (K [6,7]) (.exit 1))
 .skip))
 (.seq Rb
 (.seq (.seq PB (K [7,8,83,84,85,86,87,88,89,90,91,92,93,94,95]))
 (.cond (.m 96)
 (.seq (.seq (.seq (K [43,44,45]) (F 1)) (F 5)) (.seq Ra
 .ret))
 .skip)))))))
 QA)))
abbrev OV:=Rg [C 2 tt]
def yY:af:=⟨1,[.tmp 2],
 (.seq UD
 (.seq RR
 (.seq (.seq (.seq T8 (K [17,18,19,20,21,22,24,25,26,27,28,29,30,32,33,34,35,36,37,38]))
 (.cond (.m 39)
 (.seq (.seq (F 1) (F 3)) (.seq UI
 .ret))
 .skip))
 (.seq (.seq rY (F 3))
 (.seq (.seq TA
 (.block 0
 (.seq (.loop mj) (.seq (.seq (K [43,44,45]) (F 1)) (F 5)))))
 (.seq OV
 .ret))))))⟩
abbrev Cy:=Rg [V 4 (.mov (.c (.nl))),Z [4]]
abbrev CV:=Rg [B 5 1,P 6 .lss 5 0]
abbrev Da:=Rg [V 7 (.bad ),N (.bad )]
abbrev CM:=Rg [A 8 1,B 9 0,V 10 (.cap (.m 9)),B 11 0,V 12 (.len (.m 11)),L 13 .sub 10 12,L 14 .sub 8 13,A 1 14]
abbrev C8:=Rg [B 15 1,P 16 .gtr 15 0]
abbrev Dw:=Rg [B 17 0,B 18 0,V 19 (.cap (.m 18)),V 20 (.slice 1 (.m 17) none (some (.m 19)) none),A 21 1,⟨some 22,none,.appz [.int .u8 0] (.m 20) (.m 21),[(0,0)]⟩,A 23 0,V 24 (.len (.m 23)),V 25 (.slice 1 (.m 22) none (some (.m 24)) none),A 0 25]
abbrev DI:=Rg [A 26 0,A 4 26]
def lS:af:=⟨2,[.tmp 4],
 (.seq Cy
 (.seq (.seq CV
 (.cond (.m 6)
 Da
 .skip))
 (.seq (.seq CM
 (.seq C8
 (.cond (.m 16)
 Dw
 (.seq (K [1]) .skip))))
 (.seq DI
 .ret))))⟩
abbrev F3:=Rg [C 2 (Q 0)]
abbrev FM:=Rg [B 3 0,V 4 (.bin .geq (.m 3) (.c (.d (.int .u32 65536))))]
abbrev GO:=Rg [A 5 0,V 6 (.bin .shr (.m 5) (.c (.d (.int .u64 16)))),A 0 6]
abbrev Ge:=Rg [C 2 (Q 16)]
abbrev Fd:=Rg [B 7 0,V 8 (.bin .geq (.m 7) (.c (.d (.int .u32 256))))]
abbrev Gc:=Rg [A 9 0,V 10 (.bin .shr (.m 9) (.c (.d (.int .u64 8)))),A 0 10]
abbrev Fm:=Rg [A 11 2,P 12 .add 11 8,A 2 12]
abbrev G5:=Rg [A 13 2,A 14 0,V 15 (.conv .u8 (.m 14)),V 16 (.ixs (.c (.d (.str [0,1,2,2,3,3,3,3,4,4,4,4,4,4,4,4,5,5,5,5,5,5,5,5,5,5,5,5,5,5,5,5,6,6,6,6,6,6,6,6,6,6,6,6,6,6,6,6,6,6,6,6,6,6,6,6,6,6,6,6,6,6,6,6,7,7,7,7,7,7,7,7,7,7,7,7,7,7,7,7,7,7,7,7,7,7,7,7,7,7,7,7,7,7,7,7,7,7,7,7,7,7,7,7,7,7,7,7,7,7,7,7,7,7,7,7,7,7,7,7,7,7,7,7,7,7,7,7,8,8,8,8,8,8,8,8,8,8,8,8,8,8,8,8,8,8,8,8,8,8,8,8,8,8,8,8,8,8,8,8,8,8,8,8,8,8,8,8,8,8,8,8,8,8,8,8,8,8,8,8,8,8,8,8,8,8,8,8,8,8,8,8,8,8,8,8,8,8,8,8,8,8,8,8,8,8,8,8,8,8,8,8,8,8,8,8,8,8,8,8,8,8,8,8,8,8,8,8,8,8,8,8,8,8,8,8,8,8,8,8,8,8,8,8,8,8,8,8,8,8,8,8,8,8,8,8]))) (.m 15)),V 17 (.conv .i64 (.m 16)),L 18 .add 13 17,A 2 18]
def Lp:af:=⟨1,[.tmp 2],
 (.seq F3
 (.seq (.seq FM
 (.cond (.m 4)
 (.seq (K [2]) (.seq GO
 Ge))
 .skip))
 (.seq (.seq Fd
 (.cond (.m 8)
 (.seq Gc
 Fm)
 .skip))
 (.seq G5
 .ret))))⟩
abbrev FT:=Rg [C 2 (Q 0)]
abbrev Gl:=Rg [B 3 0,V 4 (.bin .geq (.m 3) (.c (.d (.int .u64 4294967296))))]
abbrev F7:=Rg [A 5 0,V 6 (.bin .shr (.m 5) (.c (.d (.int .u64 32)))),A 0 6]
abbrev Gq:=Rg [C 2 (Q 32)]
abbrev Fp:=Rg [B 7 0,V 8 (.bin .geq (.m 7) (.c (.d (.int .u64 65536))))]
abbrev Gi:=Rg [A 9 0,V 10 (.bin .shr (.m 9) (.c (.d (.int .u64 16)))),A 0 10]
abbrev FU:=Rg [A 11 2,P 12 .add 11 16,A 2 12]
abbrev Gn:=Rg [B 13 0,V 14 (.bin .geq (.m 13) (.c (.d (.int .u64 256))))]
abbrev Fi:=Rg [A 15 0,V 16 (.bin .shr (.m 15) (.c (.d (.int .u64 8)))),A 0 16]
abbrev Fb:=Rg [A 17 2,P 18 .add 17 8,A 2 18]
abbrev ED:=Rg [A 19 2,A 20 0,V 21 (.conv .u8 (.m 20)),V 22 (.ixs (.c (.d (.str [0,1,2,2,3,3,3,3,4,4,4,4,4,4,4,4,5,5,5,5,5,5,5,5,5,5,5,5,5,5,5,5,6,6,6,6,6,6,6,6,6,6,6,6,6,6,6,6,6,6,6,6,6,6,6,6,6,6,6,6,6,6,6,6,7,7,7,7,7,7,7,7,7,7,7,7,7,7,7,7,7,7,7,7,7,7,7,7,7,7,7,7,7,7,7,7,7,7,7,7,7,7,7,7,7,7,7,7,7,7,7,7,7,7,7,7,7,7,7,7,7,7,7,7,7,7,7,7,8,8,8,8,8,8,8,8,8,8,8,8,8,8,8,8,8,8,8,8,8,8,8,8,8,8,8,8,8,8,8,8,8,8,8,8,8,8,8,8,8,8,8,8,8,8,8,8,8,8,8,8,8,8,8,8,8,8,8,8,8,8,8,8,8,8,8,8,8,8,8,8,8,8,8,8,8,8,8,8,8,8,8,8,8,8,8,8,8,8,8,8,8,8,8,8,8,8,8,8,8,8,8,8,8,8,8,8,8,8,8,8,8,8,8,8,8,8,8,8,8,8,8,8,8,8,8,8]))) (.m 21)),V 23 (.conv .i64 (.m 22)),L 24 .add 19 23,A 2 24]
def og:af:=⟨1,[.tmp 2],
 (.seq FT
 (.seq (.seq Gl
 (.cond (.m 4)
 (.seq (K [2]) (.seq F7
 Gq))
 .skip))
 (.seq (.seq Fp
 (.cond (.m 8)
 (.seq Gi
 FU)
 .skip))
 (.seq (.seq Gn
 (.cond (.m 14)
 (.seq Fi
 Fb)
 .skip))
 (.seq ED
 .ret)))))⟩
abbrev JO:=Rg [V 4 (.mov (.c (.d (.int .u64 0)))),V 5 (.mov (.c (.d (.int .u64 0)))),Z [4,5]]
abbrev Jy:=Rg [A 11 0,V 12 (.conv .u32 (.m 11)),A 13 1,V 14 (.conv .u32 (.m 13)),H 15 Nk [.m 12,.m 14],A 10 15,E 16 10 false 0,E 17 10 false 1,A 6 16,A 7 17,Z [10]]
abbrev JP:=Rg [A 18 6,V 19 (.conv .u64 (.m 18)),A 20 7,V 21 (.conv .u64 (.m 20)),A 4 19,A 5 21]
abbrev H8:=Rg [A 23 0,A 24 1,H 25 MJ [.m 23,.m 24],A 22 25,E 26 22 false 0,E 27 22 false 1,A 8 26,A 9 27,Z [22]]
abbrev IQ:=Rg [A 28 8,A 29 9,A 4 28,A 5 29]
def Tx:af:=⟨2,[.tmp 4,.tmp 5],
 (.seq JO
 (.seq (.cond ff
 (.seq Jy
 (.seq JP
 .ret))
 .skip)
 (.seq H8
 (.seq IQ
 .ret))))⟩
abbrev HT:=Rg [V 1 (.box (.m 0)),C 2 (Q 0),Z [2]]
abbrev HF:=Rg [C 3 (Q 1)]
abbrev Ht:=Rg [X 4 0 1,M 5 4,C 6 (Q 0)]
abbrev HQ:=Rg [J 7 .lss 6 5]
abbrev HU:=Rg [A 8 3,V 9 (.ld (some 4) 0 (.s 1)),H 10 kw [.m 9],L 11 .mul 8 10,A 3 11]
abbrev HO:=Rg [P 12 .add 6 1,A 6 12]
def HB:VC:=(.seq HQ
 (.seq (.cond (.m 7)
 .skip
 (.seq (.seq (K [5,6]) (F 1)) (.exit 0)))
 (.seq (.block 1
 HU)
 HO)))
abbrev Hu:=Rg [A 13 3,A 2 13]
def PE:af:=⟨1,[.tmp 2],
 (.seq HT
 (.seq HF
 (.seq (.seq Ht
 (.block 0
 (.seq (.loop HB) (.seq (K [5,6]) (F 1)))))
 (.seq Hu
 .ret))))⟩
def kX:=Rg [V 1 (.box (.m 0)),V 2 (.alloc [O8,O8,O8,O8,O8,O8,O8,O8,O8,O8,O8,O8,O8,O8,O8,O8,O8,O8,O8,O8,O8,O8,O8,O8,O8,O8,O8,O8,O8,O8,O8,O8,O8,O8,O8,O8,O8,O8,O8,O8,O8,O8,O8,O8,O8,O8,O8,O8,O8,O8,O8,O8,O8,O8,O8,O8,O8,O8,O8,O8,O8,O8,O8,O8,O8,O8,O8,O8,O8,O8,O8,O8,O8,O8,O8,O8,O8,O8,O8,O8,O8,O8,O8,O8,O8,O8,O8,O8,O8,O8,O8,O8,O8,O8,O8,O8,O8,O8,O8,O8,O8,O8,O8,O8,O8,O8,O8,O8,O8,O8,O8,O8,O8,O8,O8,O8,O8,O8,O8,O8,O8,O8,O8,O8,O8,O8,O8,O8,O8,O8,O8,O8,O8,O8,O8,O8,O8,O8,O8,O8,O8,O8,O8,O8,O8,O8,O8,O8,O8,O8,O8,O8,O8,O8,O8,O8,O8,O8,O8,O8,O8,O8,O8,O8,O8,O8,O8,O8,O8,O8,O8,O8,O8,O8,O8,O8,O8,O8,O8,O8,O8,O8,O8,O8,O8,O8,O8,O8,O8,O8,O8,O8,O8,O8,O8,O8,O8,O8,O8,O8,O8,O8,O8,O8,O8,O8,O8,O8,O8,O8,O8,O8,O8,O8,O8,O8,O8,O8,O8,O8,O8,O8,O8,O8,O8,O8,O8,O8,O8,O8,O8,O8,O8,O8,O8,O8,O8,O8,O8,O8,O8,O8,O8,O8,O8,O8,O8,O8,O8,O8,O8,O8,O8,O8,O8,O8,O8,O8,O8,O8,O8,O8,O8,O8,O8,O8,O8,O8,O8,O8,O8,O8,O8,O8,O8,O8,O8,O8,O8,O8,O8,O8,O8,O8,O8,O8,O8,O8,O8])]
abbrev Gy:=Rg [V 3 (.alloc [O,O,O,O])]
abbrev Fe:=Rg [X 10 0 1,M 11 10,C 12 (Q 0)]
abbrev Ga:=Rg [J 13 .lss 12 11]
abbrev GV:=Rg [B 14 12,A 4 14]
abbrev FX:=Rg [A 15 4,X 16 1 1,M 17 16,V 18 (.iarr 4 1 (.s 3) (.m 15)),N (.st 1 (.m 18) (.m 17))]
abbrev FA:=Rg [P 19 .add 12 1,A 12 19]
def iw:VC:=(.seq Ga
 (.seq (.cond (.m 13)
 .skip
 (.seq (K [11,12]) (.exit 0)))
 (.seq (.block 1
 (.seq GV
 FX))
 FA)))
abbrev Fv:=Rg [V 20 (.ld (some 4) 0 (.s 1)),H 21 fY [.m 20],C 22 (Q 0)]
abbrev GS:=Rg [J 23 .lss 22 21]
abbrev F9:=Rg [B 24 22,A 5 24]
abbrev E5:=Rg [C 6 (Q 0)]
abbrev EQ:=Rg [X 25 0 1,M 26 25,V 27 (.slarr 4 (.s 3) none (some (.m 26)) none),V 28 (.len (.s 27)),C 29 (Q 0)]
abbrev EG:=Rg [J 30 .lss 29 28]
abbrev EP:=Rg [V 31 (.ia 1 (.s 27) (.s 29)),M 32 31,A 8 32]
abbrev Ez:=Rg [A 33 6,B 34 8,A 35 8,V 36 (.un .neg (.m 35)),V 37 (.minmax true [.m 34,.m 36]),L 38 .add 33 37,A 6 38]
abbrev Ex:=Rg [P 39 .add 29 1,A 29 39]
def iA:VC:=(.seq EG
 (.seq (.cond (.m 30)
 .skip
 (.seq (K [27,28,29]) (.exit 4)))
 (.seq (.block 5
 (.seq EP
 Ez))
 Ex)))
abbrev Eo:=Rg [A 40 5,A 41 6,V 42 (.conv .u8 (.m 41)),V 43 (.iarr 289 1 (.s 2) (.m 40)),N (.st 1 (.m 43) (.m 42))]
abbrev Ei:=Rg [X 44 0 1,M 45 44,P 46 .sub 45 1,A 9 46]
abbrev DV:=Rg [B 47 9,P 48 .geq 47 0]
abbrev DX:=Rg [B 51 9,V 52 (.iarr 4 1 (.s 3) (.s 51)),M 53 52,P 54 .add 53 1,V 55 (.iarr 4 1 (.s 3) (.m 51)),N (.st 1 (.m 55) (.m 54))]
abbrev Eh:VC:=(.reg true [
 B 56 9,
 V 57 (.iarr 4 1 (.s 3) (.m 56)),
 M 58 57,
 X 59 2 1,
 M 60 59,
 L 61 .leq 58 60])
abbrev EC:=Rg [B 62 9,X 63 1 1,M 64 63,V 65 (.iarr 4 1 (.s 3) (.m 62)),N (.st 1 (.m 65) (.m 64))]
abbrev Eu:=Rg [A 49 9,P 50 .sub 49 1,A 9 50]
def iB:VC:=(.seq (.seq DV
 (.cond (.m 48)
 .skip
 (.seq (K [9]) (.exit 6))))
 (.seq (.block 7
 (.seq (.seq DX
 (.seq Eh
 (.cond (.m 61)
 (.seq (K [9]) (.exit 6))
 .skip)))
 EC))
 Eu))
abbrev EH:=Rg [P 66 .add 22 1,A 22 66]
def iz:VC:=(.seq GS
 (.seq (.cond (.m 23)
 .skip
 (.seq (.seq (K [3,21,22]) (F 1)) (.exit 2)))
 (.seq (.block 3
 (.seq F9
 (.seq E5
 (.seq (.seq EQ
 (.block 4
 (.seq (.loop iA) (K [27,28,29]))))
 (.seq Eo
 (.seq Ei
 (.block 6
 (.seq (.loop iB) (K [9])))))))))
 EH)))
def n7:af:=⟨1,[.cell 2 (some 289)],
 (.seq kX
 (.seq Gy
 (.seq (.seq Fe
 (.block 0
 (.seq (.loop iw) (K [11,12]))))
 (.seq (.seq Fv
 (.block 2
 (.seq (.loop iz) (.seq (K [3,21,22]) (F 1)))))
 .ret))))⟩
abbrev qH:=Rg [B 4 0,A 5 0,⟨some 6,none,.len (.m 5),[(0,0)]⟩,A 7 1,V 8 (.calli gY [.m 4,.m 6,.m 7]),Z [8]]
def fX:af:=⟨2,[],
 qH⟩
abbrev US:=Rg [C 5 (Q 0),Z [5]]
abbrev T9:VC:=(.reg true [
 A 6 0,
 V 7 (.iarr 289 1 (.s 2) (.m 6)),
 M 8 7,
 A 9 1,
 V 10 (.iarr 289 1 (.s 2) (.m 9)),
 M 11 10,
 H 12 lQ [.m 8,.m 11],
 A 5 12])
def Bg:af:=⟨3,[.tmp 5],
 (.seq US
 (.seq (.seq T9 (K [2]))
 .ret))⟩
abbrev CN:=Rg [C 4 (Q 0),Z [4]]
abbrev Dk:=Rg [B 7 0,H 8 j3 [.m 7],A 5 8]
abbrev DD:=Rg [B 9 1,H 10 j3 [.m 9],A 6 10]
abbrev CY:=Rg [A 11 5]
abbrev Dy:=Rg [A 12 6]
abbrev CH:=Rg [C 4 (Q 0)]
abbrev C9:=Rg [C 4 (Q (-1))]
abbrev DB:=Rg [A 13 6]
abbrev Dh:=Rg [C 4 (Q 1)]
abbrev CT:=Rg [B 14 0,B 15 1,L 16 .lss 14 15]
abbrev Br:=Rg [C 4 (Q (-1))]
abbrev Bz:=Rg [A 17 0,A 18 1,L 19 .gtr 17 18]
abbrev BJ:=Rg [C 4 (Q 1)]
abbrev BM:=Rg [C 4 (Q 0)]
def lT:af:=⟨2,[.tmp 4],
 (.seq CN
 (.seq Dk
 (.seq DD
 (.seq (.seq CY
 (.cond (.m 11)
 (.seq (K [0,1]) (.seq (.seq Dy
 (.cond (.m 12)
 (.seq CH
 .ret)
 .skip))
 (.seq C9
 .ret)))
 .skip))
 (.seq (.seq DB
 (.cond (.m 13)
 (.seq (K [0,1]) (.seq Dh
 .ret))
 .skip))
 (.seq (.seq CT
 (.cond (.m 16)
 (.seq (K [0,1]) (.seq Br
 .ret))
 .skip))
 (.seq (.seq Bz
 (.cond (.m 19)
 (.seq BJ
 .ret)
 .skip))
 (.seq BM
 .ret))))))))⟩
abbrev wJ:=Rg [C 4 (Q 0),Z [4]]
abbrev xt:=Rg [B 6 0,V 7 (.len (.m 6)),C 8 (Q 0)]
abbrev xw:=Rg [J 9 .lss 8 7]
abbrev xp:=Rg [B 10 8,A 5 10]
abbrev xe:=Rg [B 11 1,B 12 0,B 13 5,V 14 (.ia 1 (.m 12) (.m 13)),M 15 14,V 16 (.callv (.m 11) [.m 15])]
abbrev xn:=Rg [A 17 5,A 4 17]
abbrev wN:=Rg [P 18 .add 8 1,A 8 18]
def bM:VC:=(.seq xw
 (.seq (.cond (.m 9)
 .skip
 (.seq (K [0,1,7,8]) (.exit 0)))
 (.seq (.block 1
 (.seq xp
 (.seq xe
 (.cond (.m 16)
 (.seq (K [0,1,7,8]) (.seq xn
 .ret))
 (.seq (K [5]) .skip)))))
 wN)))
abbrev wS:=Rg [C 4 (Q (-1))]
def fH:af:=⟨2,[.tmp 4],
 (.seq wJ
 (.seq (.seq xt
 (.block 0
 (.seq (.loop bM) (K [0,1,7,8]))))
 (.seq wS
 .ret)))⟩
abbrev Vl:=Rg [V 0 (.alloc [O,O,O,O,O,O,O,O,O,O,O,O,O,O,O,O,O,O,O,O,O,O,O,O,O,O,O,O,O,O,O,O,O,O,O,O,O,O,O,O,O,O,O,O,O,O,O,O,O,O,O,O])]
abbrev TC:=Rg [V 1 (.build [O,O,O,O] [(0,1,Q 4),(1,1,Q (-1)),(2,1,Q 1),(3,1,Q 0)]),V 2 (.build [O,O,O,O] [(0,1,Q 4),(1,1,Q (-1)),(2,1,Q 1),(3,1,Q 1)]),V 3 (.build [O,O,O,O] [(0,1,Q 4),(1,1,Q 0),(2,1,Q 2),(3,1,Q 0)]),V 4 (.build [O,O,O,O] [(0,1,Q 4),(1,1,Q 0),(2,1,Q 2),(3,1,Q 1)]),V 5 (.build [O,O,O,O] [(0,1,Q 2),(1,1,Q (-4)),(2,1,Q 4),(3,1,Q 0)]),V 6 (.build [O,O,O,O] [(0,1,Q 2),(1,1,Q (-4)),(2,1,Q 4),(3,1,Q 1)]),V 7 (.build [O,O,O,O] [(0,1,Q 2),(1,1,Q 0),(2,1,Q 7),(3,1,Q 1)]),V 8 (.build [O,O,O,O] [(0,1,Q 2),(1,1,Q 0),(2,1,Q 7),(3,1,Q 2)]),V 9 (.build [O,O,O,O] [(0,1,Q 2),(1,1,Q 0),(2,1,Q 12),(3,1,Q 1)]),V 10 (.build [O,O,O,O] [(0,1,Q 2),(1,1,Q 0),(2,1,Q 12),(3,1,Q 2)]),V 11 (.build [O,O,O,O] [(0,1,Q 2),(1,1,Q 0),(2,1,Q 16),(3,1,Q 2)]),V 12 (.build [O,O,O,O] [(0,1,Q 1),(1,1,Q (-60)),(2,1,Q 60),(3,1,Q 0)]),V 13 (.build [O,O,O,O,O,O,O,O,O,O,O,O,O,O,O,O,O,O,O,O,O,O,O,O,O,O,O,O,O,O,O,O,O,O,O,O,O,O,O,O,O,O,O,O,O,O,O,O,O,O,O,O] [(4,4,.m 1),(8,4,.m 2),(12,4,.m 3),(16,4,.m 4),(20,4,.m 5),(24,4,.m 6),(28,4,.m 7),(32,4,.m 8),(36,4,.m 9),(40,4,.m 10),(44,4,.m 11),(48,4,.m 12)]),Yd 52 0 13]
def adA:af:=⟨0,[.cell 0 (some 52)],
 (.seq Vl
 (.seq TC
 .ret))⟩
abbrev FV:=Rg [V 4 (.mov (.c (.d (.int .u32 0)))),V 5 (.mov (.c (.d (.int .u32 0)))),Z [4,5]]
abbrev Gf:=Rg [A 7 0,V 8 (.conv .u64 (.m 7)),A 9 1,V 10 (.conv .u64 (.m 9)),L 11 .mul 8 10,A 6 11]
abbrev GD:=Rg [B 12 6,V 13 (.bin .shr (.m 12) (.c (.d (.int .u64 32)))),V 14 (.conv .u32 (.m 13)),A 15 6,V 16 (.conv .u32 (.m 15)),A 4 14,A 5 16]
def M3:af:=⟨2,[.tmp 4,.tmp 5],
 (.seq FV
 (.seq Gf
 (.seq GD
 .ret)))⟩
abbrev FG:=Rg [V 4 (.mov (.c (.d (.int .u64 0)))),V 5 (.mov (.c (.d (.int .u64 0)))),Z [4,5]]
abbrev GF:=Rg [B 14 0,V 15 (.bin .and (.m 14) (.c (.d (.int .u64 4294967295)))),A 6 15]
abbrev GA:=Rg [B 16 0,V 17 (.bin .shr (.m 16) (.c (.d (.int .u64 32)))),A 7 17]
abbrev FY:=Rg [B 18 1,V 19 (.bin .and (.m 18) (.c (.d (.int .u64 4294967295)))),A 8 19]
abbrev GN:=Rg [B 20 1,V 21 (.bin .shr (.m 20) (.c (.d (.int .u64 32)))),A 9 21]
abbrev Fy:=Rg [B 22 6,B 23 8,L 24 .mul 22 23,A 10 24]
abbrev GC:=Rg [B 25 7,A 26 8,L 27 .mul 25 26,A 28 10,V 29 (.bin .shr (.m 28) (.c (.d (.int .u64 32)))),L 30 .add 27 29,A 11 30]
abbrev Fn:=Rg [B 31 11,V 32 (.bin .and (.m 31) (.c (.d (.int .u64 4294967295)))),A 12 32]
abbrev FD:=Rg [A 33 11,V 34 (.bin .shr (.m 33) (.c (.d (.int .u64 32)))),A 13 34]
abbrev FN:=Rg [A 35 12,A 36 6,B 37 9,L 38 .mul 36 37,L 39 .add 35 38,A 12 39]
abbrev E3:=Rg [A 40 7,A 41 9,L 42 .mul 40 41,A 43 13,L 44 .add 42 43,A 45 12,V 46 (.bin .shr (.m 45) (.c (.d (.int .u64 32)))),L 47 .add 44 46,A 4 47]
abbrev EK:=Rg [A 48 0,A 49 1,L 50 .mul 48 49,A 5 50]
def Mw:af:=⟨2,[.tmp 4,.tmp 5],
 (.seq FG
 (.seq GF
 (.seq GA
 (.seq FY
 (.seq GN
 (.seq Fy
 (.seq GC
 (.seq Fn
 (.seq FD
 (.seq FN
 (.seq E3
 (.seq EK
 .ret))))))))))))⟩
abbrev s8:=Rg [C 6 (Q 20)]
abbrev tf:=Rg [B 10 6,C 7 (Q 0),A 8 10]
abbrev sT:=Rg [B 11 8,B 12 1,L 13 .leq 11 12]
abbrev s7:=Rg [B 14 0,A 15 7,B 16 8,B 17 2,V 18 (.calli cR [.m 14,.m 15,.m 16,.m 17]),Z [18]]
abbrev tx:=Rg [B 19 8,A 7 19]
abbrev tk:=Rg [A 20 8,B 21 6,L 22 .add 20 21,A 8 22]
def dx:VC:=(.seq (.seq sT
 (.cond (.m 13)
 .skip
 (.seq (K [8]) (.exit 0))))
 (.block 1
 (.seq s7
 (.seq tx
 tk))))
abbrev sZ:=Rg [B 23 0,A 24 7,B 25 1,B 26 2,V 27 (.calli cR [.m 23,.m 24,.m 25,.m 26]),Z [27]]
abbrev sV:=Rg [B 28 6,B 29 1,L 30 .lss 28 29]
abbrev td:=Rg [B 31 6,V 32 (.bin .mul (Q 2) (.m 31)),C 7 (Q 0),A 8 32]
abbrev sS:=Rg [B 33 8,B 34 1,L 35 .leq 33 34]
abbrev rg:=Rg [B 36 0,B 37 7,A 38 7,B 39 6,L 40 .add 38 39,B 41 8,B 42 2,V 43 (.calli ay [.m 36,.m 37,.m 40,.m 41,.m 42]),Z [43]]
abbrev qT:=Rg [B 44 8,A 7 44]
abbrev rE:=Rg [A 45 8,B 46 6,V 47 (.bin .mul (Q 2) (.m 46)),L 48 .add 45 47,A 8 48]
def dy:VC:=(.seq (.seq sS
 (.cond (.m 35)
 .skip
 (.seq (K [8]) (.exit 4))))
 (.block 5
 (.seq rg
 (.seq qT
 rE))))
abbrev sB:=Rg [B 49 7,B 50 6,L 51 .add 49 50,A 9 51]
abbrev sC:=Rg [B 52 9,B 53 1,L 54 .lss 52 53]
abbrev rS:=Rg [B 55 0,A 56 7,A 57 9,B 58 1,B 59 2,V 60 (.calli ay [.m 55,.m 56,.m 57,.m 58,.m 59]),Z [60]]
abbrev q7:=Rg [A 61 6,P 62 .mul 61 2,A 6 62]
def dt:VC:=(.seq (.seq sV
 (.cond (.m 30)
 .skip
 (.seq (K [0,1,2,6]) (.exit 2))))
 (.block 3
 (.seq td
 (.seq (.block 4
 (.seq (.loop dy) (K [8])))
 (.seq (.seq sB
 (.seq sC
 (.cond (.m 54)
 rS
 (.seq (K [7,9]) .skip))))
 q7)))))
def ic:af:=⟨3,[],
 (.seq s8
 (.seq tf
 (.seq (.block 0
 (.seq (.loop dx) (K [8])))
 (.seq sZ
 (.block 2
 (.seq (.loop dt) (K [0,1,2,6])))))))⟩
abbrev G7:=Rg [C 2 ff,Z [2]]
abbrev Gv:=Rg [B 3 0,A 4 0,L 5 .neq 3 4,A 2 5]
def n9:af:=⟨1,[.tmp 2],
 (.seq G7
 (.seq Gv
 .ret))⟩
abbrev mQ:=Rg [B 10 1,P 11 .add 10 1,A 8 11]
abbrev mW:=Rg [B 12 8,B 13 2,L 14 .lss 12 13]
abbrev mr:=Rg [B 17 8,A 9 17]
abbrev gK:=[B 18 9,B 19 1,L 20 .gtr 18 19,A 21 20,W 21 22 (.mov (.s 3)),W 21 23 (.mov (.s 0)),W 21 24 (.mov (.s 9)),W 21 25 (.ia 1 (.s 23) (.s 24)),W 21 26 (.ld none 0 (.s 25)),W 21 27 (.mov (.s 0)),W 21 28 (.mov (.s 9)),W 21 29 (.bin .sub (.s 28) (Q 1)),W 21 30 (.ia 1 (.s 27) (.s 29)),W 21 31 (.ld none 0 (.s 30)),W 21 32 (.callv (.s 22) [.s 26,.s 31]),W 21 33 (.bin .lss (.s 32) (Q 0)),V 34 (.pick (.s 21) (.s 33) ff)]
def gB:VC:=.regP (.range 17) (.range 17) [] gK
abbrev gO:=[B 37 0,B 38 9,B 39 0,B 40 9,P 41 .sub 40 1,B 42 0,B 43 9,P 44 .sub 43 1,V 45 (.ia 1 (.m 42) (.m 44)),M 46 45,B 47 0,B 48 9,V 49 (.ia 1 (.m 47) (.m 48)),M 50 49,V 51 (.ia 1 (.m 37) (.m 38)),N (.st 1 (.m 51) (.m 46)),V 52 (.ia 1 (.m 39) (.m 41)),N (.st 1 (.m 52) (.m 50))]
def gh:VC:=.regP (.range 18) [0,1,5,6,7,8,9,10,11,12,13,14,15,2,3,4,16,17] [] gO
abbrev mK:=Rg [A 35 9,P 36 .sub 35 1,A 9 36]
def cB:VC:=(.seq (.seq (.seq gB (K [21,22,23,24,25,26,27,28,29,30,31,32,33]))
 (.cond (.m 34)
 .skip
 (.seq (K [9]) (.exit 2))))
 (.seq (.block 3
 gh)
 mK))
abbrev mM:=Rg [A 15 8,P 16 .add 15 1,A 8 16]
def cy:VC:=(.seq (.seq mW
 (.cond (.m 14)
 .skip
 (.seq (K [0,1,2,3,8]) (.exit 0))))
 (.seq (.block 1
 (.seq mr
 (.block 2
 (.seq (.loop cB) (K [9])))))
 mM))
def ed:af:=⟨4,[],
 (.seq mQ
 (.block 0
 (.seq (.loop cy) (K [0,1,2,3,8]))))⟩
abbrev qJ:=Rg [B 25 2,B 26 1,L 27 .sub 25 26,P 28 .eql 27 1]
abbrev qP:=Rg [A 29 2,A 10 29]
abbrev qG:=Rg [A 30 3,A 11 30]
abbrev qN:=Rg [B 31 10,B 32 11,L 33 .lss 31 32]
abbrev qO:=Rg [B 34 10,B 35 11,L 36 .add 34 35,V 37 (.conv .u64 (.m 36)),V 38 (.bin .shr (.m 37) (.c (.d (.int .u64 1)))),V 39 (.conv .i64 (.m 38)),A 12 39]
abbrev jN:=[B 40 4,B 41 0,B 42 12,V 43 (.ia 1 (.m 41) (.m 42)),M 44 43,B 45 0,B 46 1,V 47 (.ia 1 (.m 45) (.m 46)),M 48 47,V 49 (.callv (.m 40) [.m 44,.m 48]),P 50 .lss 49 0]
def jt:VC:=.regP (.range 11) (.range 11) [] jN
abbrev qK:=Rg [A 51 12,P 52 .add 51 1,A 10 52]
abbrev qM:=Rg [A 53 12,A 11 53]
def da:VC:=(.seq (.seq qN
 (.cond (.m 33)
 .skip
 (.seq (K [4,11]) (.exit 0))))
 (.block 1
 (.seq qO
 (.seq jt
 (.cond (.m 50)
 (.seq (K [10]) qK)
 (.seq (K [11]) qM))))))
abbrev qR:=Rg [A 54 1,A 13 54]
abbrev qI:=Rg [B 55 13,B 56 10,P 57 .sub 56 1,L 58 .lss 55 57]
abbrev jr:=[B 61 0,B 62 13,B 63 0,B 64 13,P 65 .add 64 1,B 66 0,B 67 13,P 68 .add 67 1,V 69 (.ia 1 (.m 66) (.m 68)),M 70 69,B 71 0,B 72 13,V 73 (.ia 1 (.m 71) (.m 72)),M 74 73,V 75 (.ia 1 (.m 61) (.m 62)),N (.st 1 (.m 75) (.m 70)),V 76 (.ia 1 (.m 63) (.m 65)),N (.st 1 (.m 76) (.m 74))]
def iW:VC:=.regP (.range 18) [0,1,5,6,7,8,9,10,11,12,13,14,15,2,3,4,16,17] [] jr
abbrev pi:=Rg [A 59 13,P 60 .add 59 1,A 13 60]
def db:VC:=(.seq (.seq qI
 (.cond (.m 58)
 .skip
 (.seq (K [0,10,13]) (.exit 2))))
 (.seq (.block 3
 iW)
 pi))
abbrev qa:=Rg [B 77 3,B 78 2,L 79 .sub 77 78,P 80 .eql 79 1]
abbrev qh:=Rg [A 81 1,A 14 81]
abbrev pQ:=Rg [B 82 2,A 15 82]
abbrev pW:=Rg [B 83 14,B 84 15,L 85 .lss 83 84]
abbrev qf:=Rg [B 86 14,B 87 15,L 88 .add 86 87,V 89 (.conv .u64 (.m 88)),V 90 (.bin .shr (.m 89) (.c (.d (.int .u64 1)))),V 91 (.conv .i64 (.m 90)),A 16 91]
abbrev ju:=[B 92 4,B 93 0,B 94 2,V 95 (.ia 1 (.m 93) (.m 94)),M 96 95,B 97 0,B 98 16,V 99 (.ia 1 (.m 97) (.m 98)),M 100 99,V 101 (.callv (.m 92) [.m 96,.m 100]),P 102 .lss 101 0,V 103 (.un .not (.m 102))]
def jf:VC:=.regP (.range 12) (.range 12) [] ju
abbrev pw:=Rg [A 104 16,P 105 .add 104 1,A 14 105]
abbrev px:=Rg [A 106 16,A 15 106]
def de:VC:=(.seq (.seq pW
 (.cond (.m 85)
 .skip
 (.seq (K [4,15]) (.exit 4))))
 (.block 5
 (.seq qf
 (.seq jf
 (.cond (.m 103)
 (.seq (K [14]) pw)
 (.seq (K [15]) px))))))
abbrev pK:=Rg [A 107 2,A 17 107]
abbrev qj:=Rg [B 108 17,B 109 14,L 110 .gtr 108 109]
abbrev jw:=[B 113 0,B 114 17,B 115 0,B 116 17,P 117 .sub 116 1,B 118 0,B 119 17,P 120 .sub 119 1,V 121 (.ia 1 (.m 118) (.m 120)),M 122 121,B 123 0,B 124 17,V 125 (.ia 1 (.m 123) (.m 124)),M 126 125,V 127 (.ia 1 (.m 113) (.m 114)),N (.st 1 (.m 127) (.m 122)),V 128 (.ia 1 (.m 115) (.m 117)),N (.st 1 (.m 128) (.m 126))]
def i9:VC:=.regP (.range 18) [0,1,5,6,7,8,9,10,11,12,13,14,15,2,3,4,16,17] [] jw
abbrev pD:=Rg [A 111 17,P 112 .sub 111 1,A 17 112]
def c8:VC:=(.seq (.seq qj
 (.cond (.m 110)
 .skip
 (.seq (K [0,14,17]) (.exit 6))))
 (.seq (.block 7
 i9)
 pD))
abbrev pf:=Rg [B 129 1,B 130 3,L 131 .add 129 130,V 132 (.conv .u64 (.m 131)),V 133 (.bin .shr (.m 132) (.c (.d (.int .u64 1)))),V 134 (.conv .i64 (.m 133)),A 18 134]
abbrev pS:=Rg [B 135 18,B 136 2,L 137 .add 135 136,A 19 137]
abbrev pE:=Rg [C 20 (Q 0),C 21 (Q 0),Z [20,21]]
abbrev pX:=Rg [B 138 2,B 139 18,L 140 .gtr 138 139]
abbrev ph:=Rg [B 141 19,B 142 3,L 143 .sub 141 142,A 20 143]
abbrev pe:=Rg [B 144 18,A 21 144]
abbrev pL:=Rg [B 145 1,A 20 145]
abbrev pB:=Rg [B 146 2,A 21 146]
abbrev pg:=Rg [B 147 19,P 148 .sub 147 1,A 22 148]
abbrev pF:=Rg [B 149 20,B 150 21,L 151 .lss 149 150]
abbrev qb:=Rg [B 152 20,B 153 21,L 154 .add 152 153,V 155 (.conv .u64 (.m 154)),V 156 (.bin .shr (.m 155) (.c (.d (.int .u64 1)))),V 157 (.conv .i64 (.m 156)),A 23 157]
abbrev js:=[B 158 4,B 159 0,B 160 22,B 161 23,L 162 .sub 160 161,V 163 (.ia 1 (.m 159) (.m 162)),M 164 163,B 165 0,B 166 23,V 167 (.ia 1 (.m 165) (.m 166)),M 168 167,V 169 (.callv (.m 158) [.m 164,.m 168]),P 170 .lss 169 0,V 171 (.un .not (.m 170))]
def iX:VC:=.regP (.range 14) (.range 14) [] js
abbrev pz:=Rg [A 172 23,P 173 .add 172 1,A 20 173]
abbrev pC:=Rg [A 174 23,A 21 174]
def dc:VC:=(.seq (.seq pF
 (.cond (.m 151)
 .skip
 (.seq (K [21,22]) (.exit 8))))
 (.block 9
 (.seq qb
 (.seq iX
 (.cond (.m 171)
 (.seq (K [20]) pz)
 (.seq (K [21]) pC))))))
abbrev pq:=Rg [A 175 19,B 176 20,L 177 .sub 175 176,A 24 177]
abbrev pk:=Rg [B 178 20,B 179 2,L 180 .lss 178 179,A 181 180,W 181 182 (.mov (.s 2)),W 181 183 (.mov (.s 24)),W 181 184 (.bin .lss (.s 182) (.s 183)),V 185 (.pick (.m 181) (.s 184) ff),Z [182,183,184]]
abbrev pY:=Rg [B 186 0,B 187 20,A 188 2,B 189 24,B 190 4,V 191 (.calli ie [.m 186,.m 187,.m 188,.m 189,.m 190]),Z [191]]
abbrev pc:=Rg [B 192 1,B 193 20,L 194 .lss 192 193,A 195 194,W 195 196 (.mov (.s 20)),W 195 197 (.mov (.s 18)),W 195 198 (.bin .lss (.s 196) (.s 197)),V 199 (.pick (.m 195) (.s 198) ff),Z [196,197,198]]
abbrev pJ:=Rg [B 200 0,A 201 1,A 202 20,B 203 18,B 204 4,V 205 (.calli ay [.m 200,.m 201,.m 202,.m 203,.m 204]),Z [205]]
abbrev p9:=Rg [B 206 18,B 207 24,L 208 .lss 206 207,A 209 208,W 209 210 (.mov (.s 24)),W 209 211 (.mov (.s 3)),W 209 212 (.bin .lss (.s 210) (.s 211)),V 213 (.pick (.m 209) (.s 212) ff),Z [210,211,212]]
abbrev pZ:=Rg [A 214 0,A 215 18,A 216 24,A 217 3,A 218 4,V 219 (.calli ay [.m 214,.m 215,.m 216,.m 217,.m 218]),Z [219]]
def be:af:=⟨5,[],
 (.seq (.seq qJ
 (.cond (.m 28)
 (.seq qP
 (.seq qG
 (.seq (.block 0
 (.seq (.loop da) (K [4,11])))
 (.seq (.seq qR
 (.block 2
 (.seq (.loop db) (K [0,10,13]))))
 .ret))))
 .skip))
 (.seq (.seq qa
 (.cond (.m 80)
 (.seq (K [3]) (.seq qh
 (.seq pQ
 (.seq (.block 4
 (.seq (.loop de) (K [4,15])))
 (.seq (.seq pK
 (.block 6
 (.seq (.loop c8) (K [0,14,17]))))
 .ret)))))
 .skip))
 (.seq pf
 (.seq pS
 (.seq pE
 (.seq (.seq pX
 (.cond (.m 140)
 (.seq ph
 pe)
 (.seq pL
 pB)))
 (.seq pg
 (.seq (.block 8
 (.seq (.loop dc) (K [21,22])))
 (.seq pq
 (.seq (.seq pk
 (.cond (.m 185)
 pY
 (.seq (K [2]) .skip)))
 (.seq (.seq pc
 (.cond (.m 199)
 pJ
 (.seq (K [1,20]) .skip)))
 (.seq p9
 (.cond (.m 213)
 pZ
 (.seq (K [0,3,4,18,24]) .skip))))))))))))))⟩
abbrev tv:=Rg [B 12 2,A 13 1,L 14 .sub 12 13,A 10 14]
abbrev tq:=Rg [A 15 3,B 16 2,L 17 .sub 15 16,A 11 17]
abbrev tg:=Rg [B 18 10,B 19 11,L 20 .neq 18 19]
abbrev sQ:=Rg [B 21 10,B 22 11,L 23 .gtr 21 22]
abbrev s9:=Rg [B 24 0,B 25 2,B 26 10,L 27 .sub 25 26,B 28 2,B 29 11,B 30 4,V 31 (.calli cJ [.m 24,.m 27,.m 28,.m 29,.m 30]),Z [31]]
abbrev sY:=Rg [A 32 10,B 33 11,L 34 .sub 32 33,A 10 34]
abbrev ta:=Rg [B 35 0,B 36 2,B 37 10,L 38 .sub 36 37,B 39 2,B 40 11,L 41 .add 39 40,B 42 10,L 43 .sub 41 42,B 44 10,B 45 4,V 46 (.calli cJ [.m 35,.m 38,.m 43,.m 44,.m 45]),Z [46]]
abbrev sW:=Rg [A 47 11,B 48 10,L 49 .sub 47 48,A 11 49]
def fE:VC:=(.seq (.seq tg
 (.cond (.m 20)
 .skip
 (.seq (K [11]) (.exit 0))))
 (.block 1
 (.seq sQ
 (.cond (.m 23)
 (.seq s9
 sY)
 (.seq ta
 sW)))))
abbrev ti:=Rg [A 50 0,B 51 2,B 52 10,L 53 .sub 51 52,A 54 2,A 55 10,A 56 4,V 57 (.calli cJ [.m 50,.m 53,.m 54,.m 55,.m 56]),Z [57]]
def gX:af:=⟨5,[],
 (.seq tv
 (.seq tq
 (.seq (.block 0
 (.seq (.loop fE) (K [11])))
 ti)))⟩
abbrev pn:=Rg [C 10 (Q 0)]
abbrev qe:=Rg [B 11 10,B 12 3,L 13 .lss 11 12]
abbrev jv:=[B 16 0,B 17 1,B 18 10,L 19 .add 17 18,B 20 0,B 21 2,B 22 10,L 23 .add 21 22,B 24 0,B 25 2,B 26 10,L 27 .add 25 26,V 28 (.ia 1 (.m 24) (.m 27)),M 29 28,B 30 0,B 31 1,B 32 10,L 33 .add 31 32,V 34 (.ia 1 (.m 30) (.m 33)),M 35 34,V 36 (.ia 1 (.m 16) (.m 19)),N (.st 1 (.m 36) (.m 29)),V 37 (.ia 1 (.m 20) (.m 23)),N (.st 1 (.m 37) (.m 35))]
def iY:VC:=.regP (.range 24) [0,1,2,3,8,9,10,11,12,13,14,15,16,17,18,19,20,21,4,5,6,7,22,23] [] jv
abbrev pr:=Rg [A 14 10,P 15 .add 14 1,A 10 15]
def cU:VC:=(.seq (.seq qe
 (.cond (.m 13)
 .skip
 (.seq (K [0,1,2,3,10]) (.exit 0))))
 (.seq (.block 1
 iY)
 pr))
def fG:af:=⟨5,[],
 (.seq (K [4]) (.seq pn
 (.block 0
 (.seq (.loop cU) (K [0,1,2,3,10])))))⟩
def ahX:T:=(.node 70 w8 (.node 36 fw (.node 19 kP (.node 11 Dp (.node 7 kR (.node 5 kj (.node 4 dH (.node 3 dG .leaf .leaf) .leaf) (.node 6 kh .leaf .leaf)) (.node 9 CR (.node 8 rI .leaf .leaf) (.node 10 Hr .leaf .leaf))) (.node 15 DG (.node 13 kI (.node 12 bc .leaf .leaf) (.node 14 AC .leaf .leaf)) (.node 17 afB (.node 16 xq .leaf .leaf) (.node 18 afF .leaf .leaf)))) (.node 28 Kc (.node 24 fQ (.node 22 mp (.node 21 wQ (.node 20 gw .leaf .leaf) .leaf) (.node 23 CP .leaf .leaf)) (.node 26 sL (.node 25 w6 .leaf .leaf) (.node 27 FB .leaf .leaf))) (.node 32 wP (.node 30 gI (.node 29 Gj .leaf .leaf) (.node 31 BX .leaf .leaf)) (.node 34 tK (.node 33 Ad .leaf .leaf) (.node 35 afM .leaf .leaf))))) (.node 53 zQ (.node 45 A7 (.node 41 yT (.node 39 sv (.node 38 uw (.node 37 u4 .leaf .leaf) .leaf) (.node 40 uK .leaf .leaf)) (.node 43 ug (.node 42 uR .leaf .leaf) (.node 44 uH .leaf .leaf))) (.node 49 je (.node 47 eN (.node 46 lR .leaf .leaf) (.node 48 zI .leaf .leaf)) (.node 51 ve (.node 50 kF .leaf .leaf) (.node 52 Av .leaf .leaf)))) (.node 62 Dt (.node 58 xb (.node 56 DO (.node 55 Fc (.node 54 jp .leaf .leaf) .leaf) (.node 57 um .leaf .leaf)) (.node 60 yp (.node 59 Aw .leaf .leaf) (.node 61 rM .leaf .leaf))) (.node 66 Dj (.node 64 Dz (.node 63 ud .leaf .leaf) (.node 65 Hq .leaf .leaf)) (.node 68 fF (.node 67 CG .leaf .leaf) (.node 69 po .leaf .leaf)))))) (.node 104 zD (.node 87 tO (.node 79 CQ (.node 75 AQ (.node 73 xf (.node 72 C3 (.node 71 uQ .leaf .leaf) .leaf) (.node 74 zx .leaf .leaf)) (.node 77 wI (.node 76 wH .leaf .leaf) (.node 78 xg .leaf .leaf))) (.node 83 qW (.node 81 eY (.node 80 mT .leaf .leaf) (.node 82 pH .leaf .leaf)) (.node 85 so (.node 84 rQ .leaf .leaf) (.node 86 xd .leaf .leaf)))) (.node 96 j6 (.node 92 WQ (.node 90 I2 (.node 89 uj (.node 88 xi .leaf .leaf) .leaf) (.node 91 Dr .leaf .leaf)) (.node 94 Bo (.node 93 aaJ .leaf .leaf) (.node 95 DQ .leaf .leaf))) (.node 100 Fs (.node 98 qU (.node 97 CU .leaf .leaf) (.node 99 Ec .leaf .leaf)) (.node 102 ij (.node 101 ej .leaf .leaf) (.node 103 r9 .leaf .leaf))))) (.node 121 Tx (.node 113 T6 (.node 109 oq (.node 107 rW (.node 106 Cz (.node 105 sA .leaf .leaf) .leaf) (.node 108 dV .leaf .leaf)) (.node 111 sy (.node 110 r7 .leaf .leaf) (.node 112 GK .leaf .leaf))) (.node 117 yY (.node 115 aka (.node 114 wY .leaf .leaf) (.node 116 pO .leaf .leaf)) (.node 119 Lp (.node 118 lS .leaf .leaf) (.node 120 og .leaf .leaf)))) (.node 129 M3 (.node 125 Bg (.node 123 n7 (.node 122 PE .leaf .leaf) (.node 124 fX .leaf .leaf)) (.node 127 fH (.node 126 lT .leaf .leaf) (.node 128 adA .leaf .leaf))) (.node 133 ed (.node 131 ic (.node 130 Mw .leaf .leaf) (.node 132 n9 .leaf .leaf)) (.node 135 gX (.node 134 be .leaf .leaf) (.node 136 fG .leaf .leaf)))))))
def prog:Nat→Option af:=ahX.look
end Go.Vm
namespace Go.Vm
set_option maxRecDepth 100000
@[simp] theorem V6 {x3:AV}{x4:AV}{x8:AV}{y9:D}{h:ac}{n:Nat}:(Dn prog).code kt ⟨[(3,x3),(4,x4),(8,x8),(9,.d y9)],⟨h,n⟩⟩=ca (bT prog lm [(3,x3),(4,x4),(8,x8),(9,.d y9)] ⟨h,n⟩):=aW (by kernel_rfl) (by kernel_rfl) (by kernel_rfl)
@[simp] theorem adR {x1:AV}{x2:AV}{x3:AV}{y4:D}{h:ac}{n:Nat}:(Dn prog).code nS ⟨[(1,x1),(2,x2),(3,x3),(4,.d y4)],⟨h,n⟩⟩=ca (bT prog oA [(1,x1),(2,x2),(3,x3),(4,.d y4)] ⟨h,n⟩):=aW (by kernel_rfl) (by kernel_rfl) (by kernel_rfl)
@[simp] theorem adZ {x1:AV}{x2:AV}{x3:AV}{y5:D}{h:ac}{n:Nat}:(Dn prog).code nU ⟨[(1,x1),(2,x2),(3,x3),(5,.d y5)],⟨h,n⟩⟩=ca (bT prog oG [(1,x1),(2,x2),(3,x3),(5,.d y5)] ⟨h,n⟩):=aW (by kernel_rfl) (by kernel_rfl) (by kernel_rfl)
@[simp] theorem adX {x1:AV}{x2:AV}{h:ac}{n:Nat}:(Dn prog).code nW ⟨[(1,x1),(2,x2)],⟨h,n⟩⟩=ca (bT prog oB [(1,x1),(2,x2)] ⟨h,n⟩):=aW (by kernel_rfl) (by kernel_rfl) (by kernel_rfl)
@[simp] theorem adK {x1:AV}{x2:AV}{x3:AV}{y4:D}{h:ac}{n:Nat}:(Dn prog).code nR ⟨[(1,x1),(2,x2),(3,x3),(4,.d y4)],⟨h,n⟩⟩=ca (bT prog ov [(1,x1),(2,x2),(3,x3),(4,.d y4)] ⟨h,n⟩):=aW (by kernel_rfl) (by kernel_rfl) (by kernel_rfl)
@[simp] theorem aeB {x1:AV}{x2:AV}{x3:AV}{y5:D}{h:ac}{n:Nat}:(Dn prog).code nQ ⟨[(1,x1),(2,x2),(3,x3),(5,.d y5)],⟨h,n⟩⟩=ca (bT prog oy [(1,x1),(2,x2),(3,x3),(5,.d y5)] ⟨h,n⟩):=aW (by kernel_rfl) (by kernel_rfl) (by kernel_rfl)
@[simp] theorem akM {x2:AV}{x3:AV}{x4:AV}{x5:AV}{h:ac}{n:Nat}:(Dn prog).code xG ⟨[(2,x2),(3,x3),(4,x4),(5,x5)],⟨h,n⟩⟩=ca (bT prog zo [(2,x2),(3,x3),(4,x4),(5,x5)] ⟨h,n⟩):=aW (by kernel_rfl) (by kernel_rfl) (by kernel_rfl)
@[simp] theorem anv {x0:AV}{y1:D}{x6:AV}{h:ac}{n:Nat}:(Dn prog).code Hk ⟨[(0,x0),(1,.d y1),(6,x6)],⟨h,n⟩⟩=ca (bT prog JB [(0,x0),(1,.d y1),(6,x6)] ⟨h,n⟩):=aW (by kernel_rfl) (by kernel_rfl) (by kernel_rfl)
@[simp] theorem aog {x6:AV}{x11:AV}{x12:AV}{x13:AV}{h:ac}{n:Nat}:(Dn prog).code Hm ⟨[(6,x6),(11,x11),(12,x12),(13,x13)],⟨h,n⟩⟩=ca (bA (oc h none (share x11)) fun a1=>bA (eh 0 (share x13)) fun a2=>bA (oc h none (firm a2)) fun a3=>bA (eh 8 (share x6)) fun a4=>bA (oc ((eK (rT (firm a4)++[]) h)) none (firm a4)) fun a5=>bA (eh 1 (share x13)) fun a6=>bA (oc ((eK (rT (firm a6)++[]) h)) none (firm a6)) fun a7=>bA (eh 2 (share x13)) fun a8=>bA (oc ((eK (rT (firm a8)++[]) h)) none (firm a8)) fun a9=>bA (n6 ((eK (rT (firm a5)++[]) h)) 1 (firm a5) (some (firm a7)) (some (firm a9)) none) fun a10=>bP ((Dn prog).call l0 [firm a1,firm a3] ⟨h,n⟩) fun a11 s12=>dg (jS (((rT (firm a5)++[])++((rT (firm a8)++[])++((rT (firm a6)++[])++((rT (firm a4)++[])++[]))))) h s12.heap) <| bA (bN (Dn prog) xL [.nl,firm a11,firm a10] s12.heap) fun a13=>bA (w9 true (firm (firm a13)) 0) fun a14=>bA (w9 false (WW (firm (firm a13)) 0) 1) fun a15=>some ⟨[(6,x6),(11,x11),(12,x12),(13,x13),(14,firm (firm a14)),(15,firm (firm a15)),(88,WW (firm (firm a13)) 0)],⟨s12.heap,s12.next⟩⟩):=ahH rfl rfl (by kernel_rfl)
@[simp] theorem al1 {x4:AV}{x11:AV}{y15:D}{y16:D}{h:ac}{n:Nat}:(Dn prog).code BU ⟨[(4,x4),(11,x11),(15,.d y15),(16,.d y16)],⟨h,n⟩⟩=ca (bT prog D4 [(4,x4),(11,x11),(15,.d y15),(16,.d y16)] ⟨h,n⟩):=aW (by kernel_rfl) (by kernel_rfl) (by kernel_rfl)
@[simp] theorem alL {x4:AV}{x11:AV}{y15:D}{y16:D}{h:ac}{n:Nat}:(Dn prog).code Cx ⟨[(4,x4),(11,x11),(15,.d y15),(16,.d y16)],⟨h,n⟩⟩=ca (bT prog Ej [(4,x4),(11,x11),(15,.d y15),(16,.d y16)] ⟨h,n⟩):=aW (by kernel_rfl) (by kernel_rfl) (by kernel_rfl)
@[simp] theorem ant {x0:AV}{x4:AV}{x15:AV}{x16:AV}{x17:AV}{y20:D}{y21:D}{x69:AV}{y70:D}{y71:D}{h:ac}{n:Nat}:(Dn prog).code EI ⟨[(0,x0),(4,x4),(15,x15),(16,x16),(17,x17),(20,.d y20),(21,.d y21),(69,x69),(70,.d y70),(71,.d y71)],⟨h,n⟩⟩=ca (bT prog G9 [(0,x0),(4,x4),(15,x15),(16,x16),(17,x17),(20,.d y20),(21,.d y21),(69,x69),(70,.d y70),(71,.d y71)] ⟨h,n⟩):=aW (by kernel_rfl) (by kernel_rfl) (by kernel_rfl)
@[simp] theorem aiL {x0:AV}{y1:D}{x4:AV}{h:ac}{n:Nat}:(Dn prog).code vN ⟨[(0,x0),(1,.d y1),(4,x4)],⟨h,n⟩⟩=ca (bT prog xB [(0,x0),(1,.d y1),(4,x4)] ⟨h,n⟩):=aW (by kernel_rfl) (by kernel_rfl) (by kernel_rfl)
@[simp] theorem ajP {x5:AV}{x6:AV}{x7:AV}{x8:AV}{y11:D}{y12:D}{h:ac}{n:Nat}:(Dn prog).code xC ⟨[(5,x5),(6,x6),(7,x7),(8,x8),(11,.d y11),(12,.d y12)],⟨h,n⟩⟩=ca (bT prog Bd [(5,x5),(6,x6),(7,x7),(8,x8),(11,.d y11),(12,.d y12)] ⟨h,n⟩):=aW (by kernel_rfl) (by kernel_rfl) (by kernel_rfl)
@[simp] theorem afG {x0:AV}{y2:D}{h:ac}{n:Nat}:(Dn prog).code qn ⟨[(0,x0),(2,.d y2)],⟨h,n⟩⟩=ca (bT prog rV [(0,x0),(2,.d y2)] ⟨h,n⟩):=aW (by kernel_rfl) (by kernel_rfl) (by kernel_rfl)
@[simp] theorem aiN {x2:AV}{x8:AV}{x21:AV}{y22:D}{y23:D}{h:ac}{n:Nat}:(Dn prog).code ww ⟨[(2,x2),(8,x8),(21,x21),(22,.d y22),(23,.d y23)],⟨h,n⟩⟩=ca (bT prog xz [(2,x2),(8,x8),(21,x21),(22,.d y22),(23,.d y23)] ⟨h,n⟩):=aW (by kernel_rfl) (by kernel_rfl) (by kernel_rfl)
@[simp] theorem aiO {y0:D}{y1:D}{x2:AV}{h:ac}{n:Nat}:(Dn prog).code wD ⟨[(0,.d y0),(1,.d y1),(2,x2)],⟨h,n⟩⟩=ca (bT prog xE [(0,.d y0),(1,.d y1),(2,x2)] ⟨h,n⟩):=aW (by kernel_rfl) (by kernel_rfl) (by kernel_rfl)
@[simp] theorem aiM {x0:AV}{x2:AV}{x3:AV}{y5:D}{y6:D}{y8:D}{x10:AV}{y11:D}{y12:D}{y13:D}{x14:AV}{y15:D}{y16:D}{x21:AV}{y22:D}{y23:D}{h:ac}{n:Nat}:(Dn prog).code wp ⟨[(0,x0),(2,x2),(3,x3),(5,.d y5),(6,.d y6),(8,.d y8),(10,x10),(11,.d y11),(12,.d y12),(13,.d y13),(14,x14),(15,.d y15),(16,.d y16),(21,x21),(22,.d y22),(23,.d y23)],⟨h,n⟩⟩=ca (bT prog xA [(0,x0),(2,x2),(3,x3),(5,.d y5),(6,.d y6),(8,.d y8),(10,x10),(11,.d y11),(12,.d y12),(13,.d y13),(14,x14),(15,.d y15),(16,.d y16),(21,x21),(22,.d y22),(23,.d y23)] ⟨h,n⟩):=aW (by kernel_rfl) (by kernel_rfl) (by kernel_rfl)
@[simp] theorem anq {x2:AV}{y6:D}{x9:AV}{h:ac}{n:Nat}:(Dn prog).code E1 ⟨[(2,x2),(6,.d y6),(9,x9)],⟨h,n⟩⟩=ca (bT prog Hd [(2,x2),(6,.d y6),(9,x9)] ⟨h,n⟩):=aW (by kernel_rfl) (by kernel_rfl) (by kernel_rfl)
@[simp] theorem anw {y0:D}{x2:AV}{x4:AV}{h:ac}{n:Nat}:(Dn prog).code Hf ⟨[(0,.d y0),(2,x2),(4,x4)],⟨h,n⟩⟩=ca (bT prog Jj [(0,.d y0),(2,x2),(4,x4)] ⟨h,n⟩):=aW (by kernel_rfl) (by kernel_rfl) (by kernel_rfl)
@[simp] theorem Et {x2:AV}{x4:AV}{x6:AV}{h:ac}{n:Nat}:(Dn prog).code wR ⟨[(2,x2),(4,x4),(6,x6)],⟨h,n⟩⟩=ca (bP (loadAt h (some 4) 1 (share x4)) fun a1 h2=>bA (bN (Dn prog) di [firm a1] h2) fun a3=>lA (put h2 n (.cells [O8,O8,O8,O8,O8,O8,O8,O8,O8,O8,O8,O8,O8,O8,O8,O8,O8,O8,O8,O8,O8,O8,O8,O8,O8,O8,O8,O8,O8,O8,O8,O8,O8,O8,O8,O8,O8,O8,O8,O8,O8,O8,O8,O8,O8,O8,O8,O8,O8,O8,O8,O8,O8,O8,O8,O8,O8,O8,O8,O8,O8,O8,O8,O8,O8,O8,O8,O8,O8,O8,O8,O8,O8,O8,O8,O8,O8,O8,O8,O8,O8,O8,O8,O8,O8,O8,O8,O8,O8,O8,O8,O8,O8,O8,O8,O8,O8,O8,O8,O8,O8,O8,O8,O8,O8,O8,O8,O8,O8,O8,O8,O8,O8,O8,O8,O8,O8,O8,O8,O8,O8,O8,O8,O8,O8,O8,O8,O8,O8,O8,O8,O8,O8,O8,O8,O8,O8,O8,O8,O8,O8,O8,O8,O8,O8,O8,O8,O8,O8,O8,O8,O8,O8,O8,O8,O8,O8,O8,O8,O8,O8,O8,O8,O8,O8,O8,O8,O8,O8,O8,O8,O8,O8,O8,O8,O8,O8,O8,O8,O8,O8,O8,O8,O8,O8,O8,O8,O8,O8,O8,O8,O8,O8,O8,O8,O8,O8,O8,O8,O8,O8,O8,O8,O8,O8,O8,O8,O8,O8,O8,O8,O8,O8,O8,O8,O8,O8,O8,O8,O8,O8,O8,O8,O8,O8,O8,O8,O8,O8,O8,O8,O8,O8,O8,O8,O8,O8,O8,O8,O8,O8,O8,O8,O8,O8,O8,O8,O8,O8,O8,O8,O8,O8,O8,O8,O8,O8,O8,O8,O8,O8,O8,O8,O8,O8,O8,O8,O8,O8,O8,O8,O8,O8,O8,O8,O8,O8,O8,O8,O8,O8,O8,O8,O8,O8,O8,O8,O8,O8])) fun h4=>bA (storeAt h4 289 (.ptr n 0) (firm a3)) fun h5=>some ⟨[(2,x2),(4,x4),(6,x6),(7,.ptr n 0)],⟨h5,n+1⟩⟩):=vE (by kernel_rfl)
@[simp] theorem AW {x1:AV}{x3:AV}{h:ac}{n:Nat}:(Dn prog).code rY ⟨[(1,x1),(3,x3)],⟨h,n⟩⟩=ca (bP (loadAt h (some 4) 1 (share x3)) fun a1 h2=>bA (bN (Dn prog) di [firm a1] h2) fun a3=>lA (put h2 n (.cells [O8,O8,O8,O8,O8,O8,O8,O8,O8,O8,O8,O8,O8,O8,O8,O8,O8,O8,O8,O8,O8,O8,O8,O8,O8,O8,O8,O8,O8,O8,O8,O8,O8,O8,O8,O8,O8,O8,O8,O8,O8,O8,O8,O8,O8,O8,O8,O8,O8,O8,O8,O8,O8,O8,O8,O8,O8,O8,O8,O8,O8,O8,O8,O8,O8,O8,O8,O8,O8,O8,O8,O8,O8,O8,O8,O8,O8,O8,O8,O8,O8,O8,O8,O8,O8,O8,O8,O8,O8,O8,O8,O8,O8,O8,O8,O8,O8,O8,O8,O8,O8,O8,O8,O8,O8,O8,O8,O8,O8,O8,O8,O8,O8,O8,O8,O8,O8,O8,O8,O8,O8,O8,O8,O8,O8,O8,O8,O8,O8,O8,O8,O8,O8,O8,O8,O8,O8,O8,O8,O8,O8,O8,O8,O8,O8,O8,O8,O8,O8,O8,O8,O8,O8,O8,O8,O8,O8,O8,O8,O8,O8,O8,O8,O8,O8,O8,O8,O8,O8,O8,O8,O8,O8,O8,O8,O8,O8,O8,O8,O8,O8,O8,O8,O8,O8,O8,O8,O8,O8,O8,O8,O8,O8,O8,O8,O8,O8,O8,O8,O8,O8,O8,O8,O8,O8,O8,O8,O8,O8,O8,O8,O8,O8,O8,O8,O8,O8,O8,O8,O8,O8,O8,O8,O8,O8,O8,O8,O8,O8,O8,O8,O8,O8,O8,O8,O8,O8,O8,O8,O8,O8,O8,O8,O8,O8,O8,O8,O8,O8,O8,O8,O8,O8,O8,O8,O8,O8,O8,O8,O8,O8,O8,O8,O8,O8,O8,O8,O8,O8,O8,O8,O8,O8,O8,O8,O8,O8,O8,O8,O8,O8,O8,O8,O8,O8,O8,O8,O8,O8])) fun h4=>bA (storeAt h4 289 (.ptr n 0) (firm a3)) fun h5=>some ⟨[(1,x1),(3,x3),(5,.ptr n 0)],⟨h5,n+1⟩⟩):=vE (by kernel_rfl)
@[simp] theorem qC {x0:AV}{h:ac}{n:Nat}:(Dn prog).code kX ⟨[(0,x0)],⟨h,n⟩⟩=ca (dg ((AV.cells x0).all au) <| lA (put h n (.cells (AV.cells x0))) fun h1=>lA (put h1 (n+1) (.cells [O8,O8,O8,O8,O8,O8,O8,O8,O8,O8,O8,O8,O8,O8,O8,O8,O8,O8,O8,O8,O8,O8,O8,O8,O8,O8,O8,O8,O8,O8,O8,O8,O8,O8,O8,O8,O8,O8,O8,O8,O8,O8,O8,O8,O8,O8,O8,O8,O8,O8,O8,O8,O8,O8,O8,O8,O8,O8,O8,O8,O8,O8,O8,O8,O8,O8,O8,O8,O8,O8,O8,O8,O8,O8,O8,O8,O8,O8,O8,O8,O8,O8,O8,O8,O8,O8,O8,O8,O8,O8,O8,O8,O8,O8,O8,O8,O8,O8,O8,O8,O8,O8,O8,O8,O8,O8,O8,O8,O8,O8,O8,O8,O8,O8,O8,O8,O8,O8,O8,O8,O8,O8,O8,O8,O8,O8,O8,O8,O8,O8,O8,O8,O8,O8,O8,O8,O8,O8,O8,O8,O8,O8,O8,O8,O8,O8,O8,O8,O8,O8,O8,O8,O8,O8,O8,O8,O8,O8,O8,O8,O8,O8,O8,O8,O8,O8,O8,O8,O8,O8,O8,O8,O8,O8,O8,O8,O8,O8,O8,O8,O8,O8,O8,O8,O8,O8,O8,O8,O8,O8,O8,O8,O8,O8,O8,O8,O8,O8,O8,O8,O8,O8,O8,O8,O8,O8,O8,O8,O8,O8,O8,O8,O8,O8,O8,O8,O8,O8,O8,O8,O8,O8,O8,O8,O8,O8,O8,O8,O8,O8,O8,O8,O8,O8,O8,O8,O8,O8,O8,O8,O8,O8,O8,O8,O8,O8,O8,O8,O8,O8,O8,O8,O8,O8,O8,O8,O8,O8,O8,O8,O8,O8,O8,O8,O8,O8,O8,O8,O8,O8,O8,O8,O8,O8,O8,O8,O8,O8,O8,O8,O8,O8,O8,O8,O8,O8,O8,O8,O8])) fun h2=>some ⟨[(1,.ptr n 0),(2,.ptr (n+1) 0)],⟨h2,n+1+1⟩⟩):=vE (by kernel_rfl)
@[simp] theorem HX {x0:AV}{y1:D}{y2:D}{x3:AV}{y8:D}{y9:D}{h:ac}{n:Nat}:(Dn prog).code gB ⟨[(0,x0),(1,.d y1),(2,.d y2),(3,x3),(8,.d y8),(9,.d y9)],⟨h,n⟩⟩=ca (bT prog gK [(0,x0),(1,.d y1),(2,.d y2),(3,x3),(8,.d y8),(9,.d y9)] ⟨h,n⟩):=aW (by kernel_rfl) (by kernel_rfl) (by kernel_rfl)
@[simp] theorem HY {x0:AV}{y1:D}{y2:D}{x3:AV}{y8:D}{y9:D}{h:ac}{n:Nat}:(Dn prog).code gh ⟨[(0,x0),(1,.d y1),(2,.d y2),(3,x3),(8,.d y8),(9,.d y9)],⟨h,n⟩⟩=ca (bT prog gO [(0,x0),(1,.d y1),(2,.d y2),(3,x3),(8,.d y8),(9,.d y9)] ⟨h,n⟩):=aW (by kernel_rfl) (by kernel_rfl) (by kernel_rfl)
@[simp] theorem OS {x0:AV}{y1:D}{x4:AV}{y10:D}{y11:D}{y12:D}{h:ac}{n:Nat}:(Dn prog).code jt ⟨[(0,x0),(1,.d y1),(4,x4),(10,.d y10),(11,.d y11),(12,.d y12)],⟨h,n⟩⟩=ca (bT prog jN [(0,x0),(1,.d y1),(4,x4),(10,.d y10),(11,.d y11),(12,.d y12)] ⟨h,n⟩):=aW (by kernel_rfl) (by kernel_rfl) (by kernel_rfl)
@[simp] theorem Nt {x0:AV}{y10:D}{y13:D}{h:ac}{n:Nat}:(Dn prog).code iW ⟨[(0,x0),(10,.d y10),(13,.d y13)],⟨h,n⟩⟩=ca (bT prog jr [(0,x0),(10,.d y10),(13,.d y13)] ⟨h,n⟩):=aW (by kernel_rfl) (by kernel_rfl) (by kernel_rfl)
@[simp] theorem Nz {x0:AV}{y2:D}{x4:AV}{y14:D}{y15:D}{y16:D}{h:ac}{n:Nat}:(Dn prog).code jf ⟨[(0,x0),(2,.d y2),(4,x4),(14,.d y14),(15,.d y15),(16,.d y16)],⟨h,n⟩⟩=ca (bT prog ju [(0,x0),(2,.d y2),(4,x4),(14,.d y14),(15,.d y15),(16,.d y16)] ⟨h,n⟩):=aW (by kernel_rfl) (by kernel_rfl) (by kernel_rfl)
@[simp] theorem No {x0:AV}{y14:D}{y17:D}{h:ac}{n:Nat}:(Dn prog).code i9 ⟨[(0,x0),(14,.d y14),(17,.d y17)],⟨h,n⟩⟩=ca (bT prog jw [(0,x0),(14,.d y14),(17,.d y17)] ⟨h,n⟩):=aW (by kernel_rfl) (by kernel_rfl) (by kernel_rfl)
@[simp] theorem NI {x0:AV}{y1:D}{y2:D}{y3:D}{x4:AV}{y18:D}{y19:D}{y20:D}{y21:D}{y22:D}{y23:D}{h:ac}{n:Nat}:(Dn prog).code iX ⟨[(0,x0),(1,.d y1),(2,.d y2),(3,.d y3),(4,x4),(18,.d y18),(19,.d y19),(20,.d y20),(21,.d y21),(22,.d y22),(23,.d y23)],⟨h,n⟩⟩=ca (bT prog js [(0,x0),(1,.d y1),(2,.d y2),(3,.d y3),(4,x4),(18,.d y18),(19,.d y19),(20,.d y20),(21,.d y21),(22,.d y22),(23,.d y23)] ⟨h,n⟩):=aW (by kernel_rfl) (by kernel_rfl) (by kernel_rfl)
@[simp] theorem NR {x0:AV}{y1:D}{y2:D}{y3:D}{y10:D}{h:ac}{n:Nat}:(Dn prog).code iY ⟨[(0,x0),(1,.d y1),(2,.d y2),(3,.d y3),(10,.d y10)],⟨h,n⟩⟩=ca (bT prog jv [(0,x0),(1,.d y1),(2,.d y2),(3,.d y3),(10,.d y10)] ⟨h,n⟩):=aW (by kernel_rfl) (by kernel_rfl) (by kernel_rfl)
theorem iT:prog mo=some dG:=rfl
theorem jg:prog mV=some dH:=rfl
theorem D2:prog gF=some kj:=rfl
theorem E9:prog eH=some kh:=rfl
theorem Fa:prog fu=some kR:=rfl
theorem Gs:prog fk=some rI:=rfl
theorem afN:prog lF=some CR:=rfl
theorem af1:prog Dq=some Dp:=rfl
theorem bL:prog gQ=some bc:=rfl
theorem Gr:prog kA=some kI:=rfl
theorem adw:prog sF=some AC:=rfl
theorem afO:prog vp=some DG:=rfl
theorem abw:prog lj=some xq:=rfl
theorem F6:prog kK=some kP:=rfl
theorem vT:prog gn=some gw:=rfl
theorem abc:prog oY=some wQ:=rfl
theorem zh:prog cY=some mp:=rfl
theorem afn:prog Ds=some CP:=rfl
theorem uN:prog fR=some fQ:=rfl
theorem abK:prog o8=some w6:=rfl
theorem TZ:prog bV=some sL:=rfl
theorem ais:prog dq=some FB:=rfl
theorem ajF:prog BZ=some Kc:=rfl
theorem ahZ:prog xW=some Gj:=rfl
theorem qk:prog gP=some gI:=rfl
theorem ZZ:prog qx=some BX:=rfl
theorem acb:prog wF=some wP:=rfl
theorem acH:prog kb=some Ad:=rfl
theorem Yg:prog fW=some tK:=rfl
theorem mI:prog i7=some fw:=rfl
theorem Wo:prog nL=some u4:=rfl
theorem Yh:prog nv=some uw:=rfl
theorem RG:prog lW=some sv:=rfl
theorem XA:prog nz=some uK:=rfl
theorem adJ:prog sj=some yT:=rfl
theorem Y3:prog nD=some uR:=rfl
theorem Ze:prog nE=some ug:=rfl
theorem YS:prog nN=some uH:=rfl
theorem ado:prog mw=some A7:=rfl
theorem Hz:prog ji=some lR:=rfl
theorem ml:prog iC=some eN:=rfl
theorem adl:prog zH=some zI:=rfl
theorem Be:prog jd=some je:=rfl
theorem FJ:prog dK=some kF:=rfl
theorem Nm:prog oJ=some ve:=rfl
theorem ae7:prog mN=some Av:=rfl
theorem acT:prog nc=some zQ:=rfl
theorem tE:prog jo=some jp:=rfl
theorem ahu:prog FE=some Fc:=rfl
theorem afC:prog CK=some DO:=rfl
theorem Wa:prog ui=some um:=rfl
theorem abh:prog xy=some xb:=rfl
theorem aeS:prog Ao=some Aw:=rfl
theorem ST:prog xL=some yp:=rfl
theorem R9:prog l0=some rM:=rfl
theorem afr:prog C5=some Dt:=rfl
theorem Ym:prog tX=some ud:=rfl
theorem afq:prog DJ=some Dz:=rfl
theorem afm:prog vj=some Dj:=rfl
theorem age:prog vA=some CG:=rfl
theorem tn:prog bQ=some fF:=rfl
theorem P9:prog fT=some po:=rfl
theorem abS:prog wL=some w8:=rfl
theorem Zm:prog iK=some uQ:=rfl
theorem af6:prog Dm=some C3:=rfl
theorem abi:prog ib=some xf:=rfl
theorem ad7:prog zM=some zx:=rfl
theorem ad6:prog Ap=some AQ:=rfl
theorem acj:prog wW=some wH:=rfl
theorem aaG:prog xj=some wI:=rfl
theorem abv:prog oZ=some xg:=rfl
theorem afU:prog vu=some CQ:=rfl
theorem H5:prog jD=some mT:=rfl
theorem sM:prog fc=some eY:=rfl
theorem Pv:prog kV=some pH:=rfl
theorem RE:prog sH=some qW:=rfl
theorem Vv:prog gL=some rQ:=rfl
theorem Tg:prog jK=some so:=rfl
theorem aaU:prog jz=some xd:=rfl
theorem Xm:prog nK=some tO:=rfl
theorem abd:prog oP=some xi:=rfl
theorem W9:prog fS=some uj:=rfl
theorem akG:prog BT=some I2:=rfl
theorem afg:prog vk=some Dr:=rfl
theorem ae5:prog mC=some Bo:=rfl
theorem afP:prog lJ=some DQ:=rfl
theorem EJ:prog eE=some j6:=rfl
theorem afZ:prog CX=some CU:=rfl
theorem Uc:prog lX=some qU:=rfl
theorem ahP:prog su=some Fs:=rfl
theorem lB:prog gU=some ej:=rfl
theorem wV:prog cm=some ij:=rfl
theorem Vg:prog jF=some r9:=rfl
theorem aec:prog zk=some zD:=rfl
theorem Sx:prog fm=some sA:=rfl
theorem af4:prog CE=some Cz:=rfl
theorem U1:prog fh=some rW:=rfl
theorem kp:prog gk=some dV:=rfl
theorem MT:prog ip=some oq:=rfl
theorem Ue:prog rX=some r7:=rfl
theorem RB:prog ma=some sy:=rfl
theorem ahF:prog Fj=some GK:=rfl
theorem aba:prog oQ=some wY:=rfl
theorem Q0:prog kw=some pO:=rfl
theorem adN:prog sD=some yY:=rfl
theorem Ho:prog lO=some lS:=rfl
theorem Lr:prog od=some og:=rfl
theorem Mm:prog di=some n7:=rfl
theorem t9:prog fV=some fX:=rfl
theorem ac2:prog sq=some Bg:=rfl
theorem Hx:prog lQ=some lT:=rfl
theorem nX:prog jy=some fH:=rfl
theorem xa:prog gY=some ic:=rfl
theorem MX:prog j3=some n9:=rfl
theorem oF:prog cR=some ed:=rfl
theorem bU:prog ay=some be:=rfl
theorem wT:prog ie=some gX:=rfl
theorem tp:prog cJ=some fG:=rfl
end Go.Vm
namespace Go.Vm
set_option maxHeartbeats 2000000
abbrev i64 (n:Int):Prop:=-9223372036854775808≤n∧n≤9223372036854775807
theorem sJ (n:Int):aL prog zH [.d (.int .i64 n)]=if 0≤n∧n≤31 then some (.d (.bool true)) else some (.d (.bool false)):=by
 rw[am adl zI.eq_1 rfl]
 simp
def val:List Nat→Nat→Nat
 | [],n=>n
 | x::r,n=>val r (2*n+x)
abbrev bin (l:List Nat):Prop:=∀ x∈l,x≤1
end Go.Vm
namespace Go.Vm
variable {P:Nat→Option af}
def BV (l:Nat) (e:ak) (x:Option (AV×HS)):Option (aU×St) :=
 match x with
 | some (_,hs)=>match get hs.heap l with
  | some (.loop _ _ _ _ false pend)=>match pend with
   | none=>some (.normal,⟨e,⟨del hs.heap l,hs.next⟩⟩)
   | some o=>some (o,⟨e,⟨del hs.heap l,hs.next⟩⟩)
  | _=>none
 | none=>none
def rgF (P:Nat→Option af) (params:List Nat) (a b:VC) (hs:HS) (x:Option (AV×ak)):Option (aU×St) :=
 match x with
 | some (.fn g first caps,e)=>BV hs.next e ((Dn P).call g (first++([.yield hs.next]++caps)) ⟨put hs.heap hs.next (.loop (e.map fun kv=>(kv.1,share kv.2)) params a b false none),hs.next+1⟩)
 | _=>none
theorem als {f:Rd}{params:List Nat}{a b:VC}{e:ak}{hs:HS}:(Dn P).code (.rangeF f params a b) ⟨e,hs⟩=rgF P params a b hs (rd e f):=by
 rw[dZ]
 simp only[aS,uP,rgF]
 cases rd e f with
 | none=>rfl
 | some p =>
  obtain⟨v,e1⟩:=p
  cases v<;>rfl
theorem aqT {params:List Nat}{a b:VC}{h:ac}{n g:Nat}{first caps:List AV}{e:ak}:rgF P params a b ⟨h,n⟩ (some (.fn g first caps,e))=BV n e ((Dn P).call g (first++([.yield n]++caps)) ⟨put h n (.loop (e.map fun kv=>(kv.1,share kv.2)) params a b false none),n+1⟩):=rfl
def pdO (o:Obj):Option (Option aU) :=
 match o with
 | .loop _ _ _ _ false pend=>some pend
 | _=>none
theorem ars {s:ak}{p:List Nat}{a b:VC}{q:Option aU}:pdO (.loop s p a b false q)=some q:=rfl
def pdE (e:ak) (hs:HS) (l:Nat) (q:Option aU):Option (aU×St):=some (q.getD .normal,⟨e,⟨del hs.heap l,hs.next⟩⟩)
theorem arL {e:ak}{h:ac}{n l:Nat}:pdE e ⟨h,n⟩ l none=some (.normal,⟨e,⟨del h l,n⟩⟩):=rfl
theorem arB {e:ak}{h:ac}{n l:Nat}{o:aU}:pdE e ⟨h,n⟩ l (some o)=some (o,⟨e,⟨del h l,n⟩⟩):=rfl
theorem asv {l n:Nat}{e:ak}{v:AV}{h:ac}:BV l e (some (v,⟨h,n⟩))=bA (get h l) fun o=>bA (pdO o) fun q=>pdE e ⟨h,n⟩ l q:=by
 simp only[BV]
 cases get h l with
 | none=>rfl
 | some o =>
  cases o with
  | loop s p a b busy pend=>cases busy<;>cases pend<;>rfl
  | cells=>rfl
  | arr=>rfl
theorem arz {l:Nat}{e:ak}:BV l e none=none:=rfl
theorem asE {c:Prop}[Decidable c] {l:Nat}{e:ak}{x y:Option (AV×HS)}:BV l e (if c then x else y)=if c then BV l e x else BV l e y:=by split<;>rfl
theorem arP {α:Type}{p:α→Nat→Prop}{r:R α}{l:Nat}{e:ak}{f:α→Nat→Option (AV×HS)}{g:Nat→Option (AV×HS)}:BV l e (rK p r f g)=rK p r (fun v n=>BV l e (f v n)) fun x=>BV l e (g x):=aiQ (BV l e)
theorem ap9 {l:Nat}{e:ak}{x y:Option (AV×HS)}(h:x=y):BV l e x=BV l e y:=by rw[h]
def yB (l:Nat) (x:Option (aU×St)):Option (AV×HS) :=
 match x with
 | none=>none
 | some (o,st)=>match get st.hs.heap l with
  | some (.loop snap params assign body true none) =>
   match o with
   | .normal=>some (.bool true,⟨put st.hs.heap l (.loop snap params assign body false none),st.hs.next⟩)
   | o=>some (.bool false,⟨put st.hs.heap l (.loop snap params assign body false (some o)),st.hs.next⟩)
  | _=>none
def yA (P:Nat→Option af) (l:Nat) (body:VC) (x:Option (aU×St)):Option (AV×HS) :=
 match x with
 | some (.normal,st)=>match get st.hs.heap l with
  | some (.loop snap params assign body2 false none)=>yB l ((Dn P).code body ⟨st.env,⟨put st.hs.heap l (.loop snap params assign body2 true none),st.hs.next⟩⟩)
  | _=>none
 | _=>none
def yO (P:Nat→Option af) (l:Nat) (args:List AV) (hs:HS) (o:Obj):Option (AV×HS) :=
 match o with
 | .loop snap params assign body false none=>bA (mL snap params args) fun e=>yA P l body ((Dn P).code assign ⟨e,hs⟩)
 | _=>none
theorem f7 {l:Nat}{args:List AV}{hs:HS}:aP (Dn P) (.yield l) args hs=bA (get hs.heap l) fun o=>yO P l args hs o:=by
 simp only[aP,lC]
 cases get hs.heap l with
 | none=>rfl
 | some o =>
  cases o with
  | cells=>rfl
  | arr=>rfl
  | loop snap params assign body busy pend =>
   cases busy
   ·cases pend with
    | some q=>rfl
    | none =>
     simp only[bA,yO]
     cases mL snap params args with
     | none=>rfl
     | some e =>
      simp only
      cases (Dn P).code assign ⟨e,hs⟩ with
      | none=>rfl
      | some p =>
       obtain⟨o,st⟩:=p
       cases o<;>rfl
   ·rfl
theorem at5 {l:Nat}{args:List AV}{hs:HS}{s:ak}{p:List Nat}{a b:VC}:yO P l args hs (.loop s p a b false none)=bA (mL s p args) fun e=>yA P l b ((Dn P).code a ⟨e,hs⟩):=rfl
def anf (o:Obj):Option Obj :=
 match o with
 | .loop s p a b false none=>some (.loop s p a b true none)
 | _=>none
theorem aoh {s:ak}{p:List Nat}{a b:VC}:anf (.loop s p a b false none)=some (.loop s p a b true none):=rfl
theorem auc {l:Nat}{b:VC}{e:ak}{h:ac}{n:Nat}:yA P l b (some (.normal,⟨e,⟨h,n⟩⟩))=bA (get h l) fun o=>bA (anf o) fun o=>yB l ((Dn P).code b ⟨e,⟨put h l o,n⟩⟩):=by
 simp only[yA]
 cases get h l with
 | none=>rfl
 | some o =>
  cases o with
  | cells=>rfl
  | arr=>rfl
  | loop s p a b busy pend=>cases busy<;>cases pend<;>rfl
def acy (q:Option aU) (o:Obj):Option Obj :=
 match o with
 | .loop s p a b true none=>some (.loop s p a b false q)
 | _=>none
theorem aoE {q:Option aU}{s:ak}{p:List Nat}{a b:VC}:acy q (.loop s p a b true none)=some (.loop s p a b false q):=rfl
theorem at6 {l:Nat}{e:ak}{h:ac}{n:Nat}:yB l (some (.normal,⟨e,⟨h,n⟩⟩))=bA (get h l) fun o=>bA (acy none o) fun o=>some (.bool true,⟨put h l o,n⟩):=by
 simp only[yB]
 cases get h l with
 | none=>rfl
 | some o =>
  cases o with
  | cells=>rfl
  | arr=>rfl
  | loop s p a b busy pend=>cases busy<;>cases pend<;>rfl
theorem auQ {l:Nat}{e:ak}{h:ac}{n:Nat}:yB l (some (.ret,⟨e,⟨h,n⟩⟩))=bA (get h l) fun o=>bA (acy (some .ret) o) fun o=>some (.bool false,⟨put h l o,n⟩):=by
 simp only[yB]
 cases get h l with
 | none=>rfl
 | some o =>
  cases o with
  | cells=>rfl
  | arr=>rfl
  | loop s p a b busy pend=>cases busy<;>cases pend<;>rfl
theorem atJ {l i:Nat}{e:ak}{h:ac}{n:Nat}:yB l (some (.exit i,⟨e,⟨h,n⟩⟩))=bA (get h l) fun o=>bA (acy (some (.exit i)) o) fun o=>some (.bool false,⟨put h l o,n⟩):=by
 simp only[yB]
 cases get h l with
 | none=>rfl
 | some o =>
  cases o with
  | cells=>rfl
  | arr=>rfl
  | loop s p a b busy pend=>cases busy<;>cases pend<;>rfl
theorem aun {l:Nat}:yB l none=none:=rfl
theorem au7 {c:Prop}[Decidable c] {l:Nat}{x y:Option (aU×St)}:yB l (if c then x else y)=if c then yB l x else yB l y:=by split<;>rfl
theorem auB {α:Type}{p:α→Nat→Prop}{r:R α}{l:Nat}{f:α→Nat→Option (aU×St)}{g:Nat→Option (aU×St)}:yB l (rK p r f g)=rK p r (fun v n=>yB l (f v n)) fun x=>yB l (g x):=aiQ (yB l)
theorem asB {l:Nat}{x y:Option (aU×St)}(h:x=y):yB l x=yB l y:=by rw[h]
theorem asb {l:Nat}{b:VC}{x y:Option (aU×St)}(h:x=y):yA P l b x=yA P l b y:=by rw[h]
attribute [simp ↓] als aqT ars arL arB asv arz asE arP at5 aoh auc aoE at6 auQ atJ aun au7 auB f7
attribute [congr] ap9 asB asb
attribute [simp] mL
end Go.Vm
namespace Go.Vm
set_option maxHeartbeats 2000000
def aB (m:Nat) (xs:List (List D)):AV:=match xs with
 | []=>.nl
 | x::r=>.own false m (x::r)
theorem mU {m:Nat}:aB m []=.nl:=rfl
theorem aag {m:Nat}{x:List D}{r:List (List D)}:aB m (x::r)=.own false m (x::r):=rfl
theorem iM {m:Nat}{xs:List (List D)}(h:xs≠[]):aB m xs=.own false m xs:=by cases xs with | nil=>exact absurd rfl h | cons=>rfl
@[simp] theorem awT {m:Nat}{xs:List (List D)}:firm (aB m xs)=aB m xs:=by cases xs<;>rfl
@[simp] theorem axo {m:Nat}{xs:List (List D)}:wl (aB m xs)=some (.lst xs):=by cases xs<;>rfl
@[simp] theorem awg {m:Nat}{xs:List (List D)}:AV.cells (aB m xs)=[aB m xs]:=by cases xs<;>rfl
@[simp] theorem avy {h:ac}{m:Nat}{xs:List (List D)}:elems h (aB m xs)=some xs:=by cases xs<;>rfl
@[simp] theorem axA {m:Nat}{h:ac}{xs:List (List D)}{y:List D}(hy:y.length=m) (hl:xs.length<1000000000):V4 m h (aB m xs) (.own false m [y])=some (.own (decide (xs=[])) m (xs++[y]),h):=by
 subst hy
 cases xs with
 | nil=>simp[aB,elems,decide_true]
 | cons x r=>simp[aB,elems];simp at hl;omega
@[simp] theorem axm {m:Nat}{h:ac}{xs:List (List D)}{y:List D}(hl:xs.length<1000000000):bF m h (aB m xs) [y]=some (.own (decide (xs=[])) m (xs++[y]),h):=by
 cases xs with
 | nil=>simp[aB,decide_true]
 | cons x r=>simp[aB];simp at hl;omega
def al7 (o:Obj) (h:ac) (id off len:Nat):Option (AV×ac) :=
 match o with
 | .arr m xs=>dg (Nat.ble (off+len) xs.length) (some (.own true m (sub xs off len),del h id))
 | _=>none
@[simp ↓] theorem aw4 {m:Nat}{xs:List (List D)}{h:ac}{id off len:Nat}:al7 (.arr m xs) h id off len=dg (Nat.ble (off+len) xs.length) (some (.own true m (sub xs off len),del h id)):=(rfl)
@[simp] theorem awJ {h:ac}{id off len:Nat}:eZ h (.sl id off len)=bA (get h id) fun o=>al7 o h id off len:=by
 simp only[eZ]
 cases get h id with
 | none=>rfl
 | some o =>
  cases o with
  | arr m xs=>simp only[bA,al7];cases Nat.ble (off+len) xs.length<;>rfl
  | cells cs=>rfl
  | loop=>rfl
end Go.Vm
namespace Go.Vm
set_option maxHeartbeats 2000000
set_option maxRecDepth 100000
def ae (n:Nat):Nat→List Nat
 | 0=>[]
 | k+1=>n / 2 ^ k % 2::ae n k
@[simp] theorem bK {n:Nat}:∀ {k:Nat},(ae n k).length=k
 | 0=>rfl
 | k+1=>by rw[ae,List.length_cons,bK]
theorem amd {n k:Nat}(hk:k≤63):fy .shr (.d (.int .i64 (n:Int))) (.d (.int .i64 (k:Int)))=some (.int .i64 ((n / 2 ^ k:Nat):Int)):=by
 rw[gg (by omega)]
 have:min ((k:Int)).toNat IntKind.i64.bits=k:=by simp only[Int.toNat_natCast,IntKind.bits];omega
 rw[this,Int.fdiv_eq_ediv_of_nonneg _ (Int.natCast_nonneg _),←Int.natCast_ediv]
theorem avh {a:Nat}(h:a<9223372036854775808):fy .and (.d (.int .i64 (a:Int))) (.d (.int .i64 1))=some (.int .i64 ((a % 2:Nat):Int)):=by
 have:=ajZ (k:=.i64) (a:=a) (b:=1) (by simpa [rZ,IntKind.signed] using h) (by decide)
 rw[Nat.and_one_is_mod]at this
 exact this
theorem akV {σ:Type}{hp:σ→ac}{l p N:Nat}{st:σ→Nat→σ}{bg:Nat→σ→Prop}(hI:∀ k s x,bg (k+1) s→bg k (st s x)) (n:Nat) (hn:n≤9223372036854775807) (hg:∀ s,get (hp s) p=some (.cells [.d (.int .i64 n)]))
  (hy:∀ (k:Nat) (s:σ) (x:Nat),bg (k+1) s→x≤1→aP (Dn prog) (.yield l) [.d (.int .u8 (x:Int))] ⟨hp s,N⟩=some (.d (.bool true),⟨hp (st s x),N⟩)):∀ (k:Nat) (I:Int) (s:σ),k≤31→bg k s→I=k-1→
  (Dn prog).code (.loop kz) ⟨[(0,.yield l),(2,.ptr p 0),(4,.d (.int .i64 I))],⟨hp s,N⟩⟩=some (.exit 0,⟨[],⟨hp ((ae n k).foldl st s),N⟩⟩):=by
 intro k
 induction k with
 | zero =>
  intro I s hk hi hI
  subst hI
  rw[aa kz.eq_1]
  simp (maxSteps:=300000) (disch:=omega) [↓if_neg,ae]
 | succ k ih =>
  intro I s hk hi hI
  subst hI
  have c:((k+1:Nat):Int)-1=(k:Int):=by omega
  have h1:n / 2 ^ k≤n:=Nat.div_le_self _ _
  have h2:=amd (n:=n) (k:=k) (by omega)
  have h3:=avh (a:=n / 2 ^ k) (by omega)
  have h4:=hy k s (n / 2 ^ k % 2) hi (by omega)
  have h5:=ih ((k:Int)-1) (st s (n / 2 ^ k % 2)) (by omega) (hI _ _ _ hi) rfl
  rw[c,aa kz.eq_1,ae,List.foldl_cons]
  generalize n / 2 ^ k=Q at *
  have c2:((Q % 2:Nat):Int)=(Q:Int) % 2:=by omega
  rw[c2]at h4
  simp (maxSteps:=300000) (disch:=omega) [↓if_pos,hg,-gg,h2,h3,-f7,h4]
  exact h5
theorem akn {σ:Type}{hp:σ→ac}{l p q N:Nat}{st:σ→Nat→σ}{bg:Nat→σ→Prop}(hI:∀ k s x,bg (k+1) s→bg k (st s x)) (n k:Nat) (hn:n≤9223372036854775807) (hk:k≤31) (hg:∀ s,get (hp s) p=some (.cells [.d (.int .i64 n)])) (hg2:∀ s,get (hp s) q=some (.cells [.d (.int .i64 k)]))
  (hy:∀ (k:Nat) (s:σ) (x:Nat),bg (k+1) s→x≤1→aP (Dn prog) (.yield l) [.d (.int .u8 (x:Int))] ⟨hp s,N⟩=some (.d (.bool true),⟨hp (st s x),N⟩)) (s:σ) (hs:bg k s) :
  (Dn prog).call ib [.yield l,.ptr q 0,.ptr p 0] ⟨hp s,N⟩=some (.tup [],⟨hp ((ae n k).foldl st s),N⟩):=by
 rw[aA abi xf.eq_1 rfl]
 have h:=akV hI n hn hg hy k ((k:Int)-1) s hk hs rfl
 simp (maxSteps:=300000) (disch:=omega) [hg2,h]
abbrev amO (n k:Int) (acc:List Nat):ac:=[(0,.cells [.d (.int .i64 n)]),(1,.cells [.d (.int .i64 k)]),(2,.cells [.own false 1 (ah acc)]),(3,.loop [(2,.ptr 2 0)] [7] gz gx false none)]
theorem aew {l acc:List Nat}:l.foldl (fun(s:List Nat) x=>s++[x]) acc=acc++l:=by
 induction l generalizing acc with
 | nil=>simp
 | cons x r ih=>rw[List.foldl_cons,ih];simp
theorem at8 (n k:Int) (s:List Nat) (x:Nat) (hs:s.length≤990000000):aP (Dn prog) (.yield 3) [.d (.int .u8 (x:Int))] ⟨amO n k s,4⟩=some (.d (.bool true),⟨amO n k (s++[x]),4⟩):=by
 have hl:(ah s).length=s.length:=by simp[ah]
 simp (maxSteps:=300000) (disch:=omega) [gz,gx]
 omega
theorem Xd (acc:List Nat) (n k:Nat) (hn:n≤9223372036854775807) (hk:k≤31) (ha:acc.length≤900000000) :
  (Dn prog).call jd [.own false 1 (ah acc),.fn ib [] [.ptr 1 0,.ptr 0 0]] ⟨[(0,.cells [.d (.int .i64 n)]),(1,.cells [.d (.int .i64 k)])],2⟩ =
  some (.own false 1 (ah (acc++ae n k)),⟨[(0,.cells [.d (.int .i64 n)]),(1,.cells [.d (.int .i64 k)]),(2,.cells [.junk])],4⟩):=by
 have h:=akn (hp:=amO n k) (l:=3) (p:=0) (q:=1) (N:=4) (st:=fun s x=>s++[x]) (bg:=fun k s=>s.length+k≤980000000) (fun k s x h=>by simp only[List.length_append,List.length_cons,List.length_nil];omega) n k hn hk (fun s=>by simp) (fun s=>by simp) (fun j s x h _=>at8 n k s x (by omega)) acc (by omega)
 rw[aew]at h
 rw[aA Be je.eq_1 rfl]
 simp (maxSteps:=300000) (disch:=omega) [rd,h]
theorem akg (n k:Int):(Dn prog).call oJ [.d (.int .i64 n),.d (.int .i64 k)] ⟨[],0⟩=some (.fn ib [] [.ptr 1 0,.ptr 0 0],⟨[(0,.cells [.d (.int .i64 n)]),(1,.cells [.d (.int .i64 k)])],2⟩):=by
 rw[aA Nm ve.eq_1 rfl]
 simp (maxSteps:=300000) (disch:=omega)
abbrev gJ (n s:Int):Prop:=(0≤s∧s≤31)∧0≤n∧n.toNat<2 ^ s.toNat
theorem Er (x:AV) (b:List Nat) (hb:b.length≤1000000000) (hx:elems [] x=some (ah b)):aL prog dK [x]=some (.own true 1 (ah b)):=by
 have hl:(ah b).length=b.length:=by simp[ah]
 rw[am FJ kF.eq_1 rfl]
 have h4:Nat.ble b.length 4294967296=true:=by rw[Nat.ble_eq];omega
 rw[dZ]
 simp (maxSteps:=300000) (disch:=omega) [aS,KM,hx,h4]
theorem im (b:List Nat) (n s:Int) (hb:b.length≤900000000) (hn:i64 n) (x:AV) (hx:x=.d (.lst (ah b))∨x=.nl∧b=[]):aL prog dq [x,.d (.int .i64 n),.d (.int .i64 s)] =
  if gJ n s then some (.tup [.own true 1 (ah (b++ae n.toNat s.toNat)),.d (.int .i64 0)]) else some (.tup [.nl,.d (.int .i64 2)]):=by
 have hc:aL prog dK [x]=some (.own true 1 (ah b)):=by
  refine Er x b (by omega) ?_
  rcases hx with rfl | ⟨rfl,rfl⟩<;>rfl
 rw[am ais FB.eq_1 rfl]
 by_cases h1:0≤s∧s≤31
 ·obtain⟨S,rfl⟩:=Int.eq_ofNat_of_zero_le h1.1
  by_cases h2:n<0
  ·rw[if_neg (by simp only[gJ];omega)]
   simp (maxSteps:=300000) (disch:=omega) [sJ,↓if_pos,↓if_neg]
  ·obtain⟨M,rfl⟩:=Int.eq_ofNat_of_zero_le (Int.not_lt.1 h2)
   have h3:=amd (n:=M) (k:=S) (by omega)
   by_cases h4:M<2 ^ S
   ·rw[if_pos (by simp only[gJ,Int.toNat_natCast];omega)]
    rw[Nat.div_eq_of_lt h4]at h3
    have h5:=Xd b M S (by omega) (by omega) hb
    rcases hx with rfl | ⟨rfl,rfl⟩
    ·simp (maxSteps:=300000) (disch:=omega) [sJ,↓if_pos,↓if_neg,-gg,h3,hc,akg,h5]
    ·simp (maxSteps:=300000) (disch:=omega) [sJ,↓if_pos,↓if_neg,-gg,h3,hc,akg,h5]
   ·rw[if_neg (by simp only[gJ,Int.toNat_natCast];omega)]
    have h6:M / 2 ^ S≠0:=by
     intro h
     rcases Nat.div_eq_zero_iff.1 h with h | h
     ·have:=Nat.two_pow_pos S;omega
     ·exact h4 h
    have h7:¬ (((M / 2 ^ S:Nat):Int)=0):=by omega
    generalize M / 2 ^ S=Q at *
    simp (maxSteps:=300000) (disch:=omega) [sJ,↓if_pos,↓if_neg,-gg,h3]
 ·rw[if_neg (by simp only[gJ];omega)]
  simp (maxSteps:=300000) (disch:=omega) [sJ,↓if_pos,↓if_neg]
end Go.Vm
namespace Go.Vm
set_option maxHeartbeats 2000000
set_option maxRecDepth 100000
def aiC (k lines by_:Nat):Nat→Nat→List Nat
 | 0,at_=>[at_]
 | f+1,at_=>at_::if at_<lines then aiC k lines by_ f (min lines (at_+4+4*(at_*k / by_))) else []
def offs (rate:Nat) (short:Bool):List Nat:=cond short (aiC (3+(11-rate) / 2) 32 64 99 0) (aiC (3+(11-rate) / 2) 256 256 99 0)
def yd:List (Nat×Bool):=(List.range 12).flatMap fun r=>[(r,false),(r,true)]
theorem jV {r:Nat}{s:Bool}(h:r<12):(r,s)∈yd:=by
 simp only[yd,List.mem_flatMap,List.mem_range]
 exact⟨r,h,by cases s<;>simp⟩
theorem aaR:∀ x∈yd,aL prog iK [.d (.int .i64 x.1),.d (.bool x.2)]=some (.tup [.own true 1 (bl (offs x.1 x.2)),.d (.int .i64 0)]):=zT 100 yd (by kernel_rfl)
theorem U9:∀ x∈yd,1≤(offs x.1 x.2).length∧(offs x.1 x.2).length≤64:=by decide +kernel
def rH (rate:Nat) (short:Bool):Nat:=(offs rate short).length-1
theorem Qi {r:Nat}{s:Bool}(h:r<12):rH r s≤63:=by
 have:=U9 _ (jV (s:=s) h);simp only[rH]at *;omega
abbrev ef (r:Int):Prop:=0≤r∧r≤11
end Go.Vm
namespace Go.Vm
set_option maxHeartbeats 2000000
theorem qV (r:Int) (s:Bool):aL prog iK [.d (.int .i64 r),.d (.bool s)]=if ef r then some (.tup [.own true 1 (bl (offs r.toNat s)),.d (.int .i64 0)]) else some (.tup [.nl,.d (.int .i64 2)]):=by
 by_cases h:ef r
 ·obtain⟨R,rfl⟩:=Int.eq_ofNat_of_zero_le h.1
  rw[if_pos h,aaR (R,s) (jV (by omega))];rfl
 ·rw[if_neg h,am Zm uQ.eq_1 rfl]
  simp (maxSteps:=300000) (disch:=omega) [↓if_pos,anH]
theorem Cn (r:Int) (s:Bool):aL prog C5 [.d (.int .i64 r),.d (.bool s)]=if ef r then some (.tup [.d (.int .i64 (rH r.toNat s)),.d (.int .i64 0)]) else some (.tup [.d (.int .i64 0),.d (.int .i64 2)]):=by
 rw[am afr Dt.eq_1 rfl]
 by_cases h:ef r
 ·have h2:=U9 _ (jV (r:=r.toNat) (s:=s) (by omega))
  simp (maxSteps:=300000) (disch:=omega) only at h2
  simp (maxSteps:=300000) (disch:=omega) [qV,if_pos h,rH]
  split<;>simp<;>omega
 ·simp (maxSteps:=300000) (disch:=omega) [qV,if_neg h]
end Go.Vm
namespace Go.Vm
set_option maxHeartbeats 2000000
structure aD where
 seq:Nat
 shape:Nat
 max:Int
 groups:List Int
@[simp] def aD.cells (i:aD):List AV:=[.d (.int .u8 i.seq),.d (.int .u8 i.shape),.d (.int .i64 i.max),.d (.lst (aI i.groups))]
structure aD.Fit (i:aD):Prop where
 seq:i.seq≤255
 shape:i.shape≤255
 max:i64 i.max
 len:i.groups.length≤1000
 groups:∀ n∈i.groups,i64 n
theorem Sd (a b:List Int) (hl:a.length≤1000000) (he:a.length=b.length) (h:ac) (m:Nat):∀ (k i:Nat) (I:Int),I=i→i+k=a.length→
  (Dn prog).code (.loop fZ) ⟨[(0,.d (.lst (aI a))),(1,.d (.lst (aI b))),(12,.d (.int .i64 a.length)),(13,.d (.int .i64 I))],⟨h,m⟩⟩=if a.drop i=b.drop i then some (.exit 0,⟨[],⟨h,m⟩⟩) else some (.ret,⟨[(4,.d (.bool false))],⟨h,m⟩⟩):=by
 intro k
 induction k with
 | zero =>
  intro i I hI hi
  subst hI
  rw[aa fZ.eq_1,List.drop_eq_nil_of_le (by omega),List.drop_eq_nil_of_le (by omega)]
  simp (maxSteps:=300000) (disch:=omega) [↓if_neg]
 | succ k ih =>
  intro i I hI hi
  subst hI
  rw[aa fZ.eq_1,my (l:=a) (by omega),my (l:=b) (by omega)]
  simp (maxSteps:=300000) (disch:=omega) [↓if_pos]
  rw[ih (i+1) _ (by omega) (by omega)]
  by_cases hx:nth a i=nth b i<;>simp[hx]
theorem IP (a b:List Int) (hl:a.length≤1000000) (hb:b.length≤1000000):aL prog ji [.d (.lst (aI a)),.d (.lst (aI b))]=if a=b then some (.d (.bool true)) else some (.d (.bool false)):=by
 rw[am Hz lR.eq_1 rfl]
 by_cases he:a.length=b.length
 ·have:=Sd a b hl he [] 0 a.length 0 0 rfl (by omega)
  simp (maxSteps:=300000) (disch:=omega) [this,↓if_pos]
 ·have:a≠b:=fun h=>he (by rw[h])
  simp (maxSteps:=300000) (disch:=omega) [this,↓if_neg]
def aD.grouped (i:aD):Prop:=if i.seq=2 then (∀ n∈i.groups,1≤n∧n≤8)∧i.groups.sum=8∧(i.groups.length:Int)≤8 else i.groups=[1]
instance {i:aD}:Decidable i.grouped:=by unfold aD.grouped;infer_instance
theorem ahT (i:aD) (hi:i.groups.length≤1000) (m:Nat):∀ (k j:Nat) (J S:Int),J=j→j+k=i.groups.length→0≤S∧S≤8*j→
  (Dn prog).code (.loop j0) ⟨[(1,.ptr 0 0),(3,.d (.int .i64 S)),(14,.d (.lst (aI i.groups))),(15,.d (.int .i64 i.groups.length)),(16,.d (.int .i64 J))],⟨[(0,.cells i.cells)],m⟩⟩ =
   if ∀ n∈i.groups.drop j,1≤n∧n≤8 then some (.exit 0,⟨[(1,.ptr 0 0),(3,.d (.int .i64 (S+(i.groups.drop j).sum)))],⟨[(0,.cells i.cells)],m⟩⟩) else some (.ret,⟨[(2,.d (.bool false))],⟨[(0,.cells i.cells)],m⟩⟩):=by
 simp only[aD.cells]
 intro k
 induction k with
 | zero =>
  intro j J S hJ hj hS
  subst hJ
  rw[aa j0.eq_1,List.drop_eq_nil_of_le (by omega)]
  simp (maxSteps:=300000) (disch:=omega) [↓if_neg]
 | succ k ih =>
  intro j J S hJ hj hS
  subst hJ
  rw[aa j0.eq_1,my (by omega)]
  simp (maxSteps:=300000) (disch:=omega) [↓if_pos]
  by_cases hx:1≤nth i.groups j∧nth i.groups j≤8
  ·rw[if_neg (by omega),ih (j+1) _ _ (by omega) (by omega) (by omega)]
   simp[hx,Int.add_assoc]
  ·rw[if_pos (by omega),if_neg (fun h=>hx ⟨h.1.1,h.1.2⟩)]
theorem acU (i:aD) (hi:i.Fit):aL prog tX [.agg i.cells]=if i.grouped then some (.d (.bool true)) else some (.d (.bool false)):=by
 have hl:=hi.len
 rw[am Ym ud.eq_1 rfl]
 unfold aD.grouped
 by_cases hs:i.seq=2
 ·have:=ahT i hi.len 1 i.groups.length 0 0 0 rfl (by omega) (by omega)
  simp only[aD.cells]at this
  simp (maxSteps:=300000) (disch:=omega) [↓if_pos,↓if_neg,this]
 ·have:=IP i.groups [1] (by omega) (by simp)
  have h1:aI [1]=[[.int .i64 1]]:=rfl
  rw[h1]at this
  simp (maxSteps:=300000) (disch:=omega) [this,↓if_neg,↓if_pos]
def aD.may (r:Nat) (i:aD):Prop:=i.seq≤3∧i.shape≤1∧0≤i.max∧i.max≤rH r (decide (i.seq=2))∧i.grouped
instance {r:Nat}{i:aD}:Decidable (i.may r):=by unfold aD.may;infer_instance
theorem Fh (r:Int) (i:aD) (hi:i.Fit):aL prog kb [.d (.int .i64 r),.agg i.cells]=if ef r then if i.may r.toNat then some (.d (.int .i64 0)) else some (.d (.int .i64 8)) else some (.d (.int .i64 2)):=by
 have hg:=acU i hi
 simp only[aD.cells]at hg
 rw[am acH Ad.eq_1 rfl]
 by_cases hr:ef r
 ·by_cases hs:i.seq=2
  ·simp (config := { maxSteps:=1000000 }) (disch:=omega) [Cn,↓if_pos,↓if_neg,hg]
   refine ano ?_
   by_cases h:i.grouped<;>simp[aD.may,h,hs]
   omega
  ·simp (config := { maxSteps:=1000000 }) (disch:=omega) [Cn,↓if_pos,↓if_neg,hg]
   refine ano ?_
   by_cases h:i.grouped<;>simp[aD.may,h,hs]
   omega
 ·by_cases hs:i.seq=2
  ·simp (config := { maxSteps:=1000000 }) (disch:=omega) [Cn,↓if_pos,↓if_neg]
  ·simp (config := { maxSteps:=1000000 }) (disch:=omega) [Cn,↓if_pos,↓if_neg]
theorem ajJ (i:aD) (hi:i.Fit):aL prog DJ [.agg i.cells]=if i.may 11 then some (.d (.bool true)) else some (.d (.bool false)):=by
 have hg:=Fh 11 i hi
 simp only[aD.cells]at hg
 rw[am afq Dz.eq_1 rfl]
 simp (config := { maxSteps:=1000000 }) (disch:=omega) [hg,↓if_pos]
def aD.many (i:aD):Nat:=if i.seq=2 then 8 else 1
theorem sP (i:aD) (hi:i.Fit):aL prog fW [.agg i.cells]=if i.may 11 then some (.tup [.d (.int .i64 i.many),.d (.int .i64 0)]) else some (.tup [.d (.int .i64 0),.d (.int .i64 8)]):=by
 have hg:=ajJ i hi
 simp only[aD.cells]at hg
 rw[am Yg tK.eq_1 rfl]
 by_cases hs:i.seq=2
 ·simp (config := { maxSteps:=1000000 }) (disch:=omega) [hg,↓if_pos,aD.many]
 ·simp (config := { maxSteps:=1000000 }) (disch:=omega) [hg,↓if_neg,aD.many]
theorem lE:∀ {l:List Int},(∀ n∈l,1≤n)→(l.length:Int)≤l.sum
 | [],_=>by simp
 | x::r,h=>by
  have:=lE (l:=r) (fun n hn=>h n (by simp[hn]))
  have:=h x (by simp)
  simp;omega
end Go.Vm
end
