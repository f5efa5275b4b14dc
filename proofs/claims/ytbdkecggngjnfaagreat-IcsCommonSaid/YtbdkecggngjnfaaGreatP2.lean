import Derived.Test.YtbdkecggngjnfaaGreatP1
set_option linter.unusedVariables false
set_option linter.unusedSimpArgs false
noncomputable section
namespace Go.Vm
variable {P:Nat→Option af}
def bA {α β:Type}(x:Option α) (f:α→Option β):Option β :=
 match x with
 | some v=>f v
 | none=>none
def bP {α γ β:Type}(x:Option (α×γ)) (f:α→γ→Option β):Option β :=
 match x with
 | some (v,w)=>f v w
 | none=>none
def lA {α β:Type}(x:α) (f:α→β):β:=f x
def lP {α γ β:Type}(x:α×γ) (f:α→γ→β):β:=f x.1 x.2
def dt {β:Type}(c:Bool) (x:Option β):Option β :=
 match c with
 | true=>x
 | false=>none
def gV (g:AV) (w:Bool) (x:Option AV):Option AV :=
 match g with
 | .d (.bool b)=>if b=w then x else some (.tup [])
 | .tup []=>some (.tup [])
 | _=>none
def gH (g:AV) (w:Bool) (hs:HS) (x:Option (AV×HS)):Option (AV×HS) :=
 match g with
 | .d (.bool b)=>if b=w then x else some (.tup [],hs)
 | .tup []=>some (.tup [],hs)
 | _=>none
def lN (c a b:AV):Option AV :=
 match c with
 | .d (.bool true)=>some a
 | .d (.bool false)=>some b
 | _=>none
def VP (neg:Bool) (a b:AV):Option D :=
 match a,b with
 | .d (.bool a),.d (.bool b)=>some (.bool (match neg with | true=>!(a == b) | false=>a == b))
 | _,_=>none
def afF (neg:Bool) (ks:List Bool) (a b:AV):Option D :=
 match a,b with
 | .agg a,.agg b=>match an ks a b with
  | some t=>some (.bool (match neg with | true=>!t | false=>t))
  | none=>none
 | _,_=>none
def aV (op:BinOp) (a b:AV):Option D :=
 match bi op a b with
 | some (.d x)=>some x
 | _=>none
def OT (op:UnOp) (a:AV):Option D :=
 match En op a with
 | some (.d x)=>some x
 | _=>none
def Pl (k:IntKind) (a:AV):Option D :=
 match a with
 | .d (.int _ n)=>some (.int k (wr k n))
 | _=>none
def sZ (h:ac) (a:AV):Option D :=
 match elems h a with
 | some xs=>match iE xs with
  | some s=>some (.str s)
  | none=>none
 | none=>none
def tp (z:List D) (l c:AV):Option AV :=
 match bO c aD with
 | some c=>match bO l c with
  | some n=>some (.own true z.length (List.replicate n z))
  | none=>none
 | none=>none
def lg (h:ac) (m:Nat) (x:AV) (lo hi mx:Option AV):Option AV :=
 match okSl h m x with
 | true=>j8 m x lo hi mx
 | false=>none
def Dh (hp:ac) (n:Nat) (x:AV) (lo hi mx:Option AV):Option AV :=
 match x with
 | .ptr id off=>Av hp n id off lo hi mx
 | _=>none
def ait (off:Nat) (n:Option Nat) (x:AV):Option AV :=
 match x with
 | .agg cs=>jj n cs off
 | _=>none
def fo (hp:ac) (n:Nat) (x i:AV):Option AV :=
 match ej i with
 | some i=>match x with
  | .sl id off len=>match Nat.ble len i with
   | true=>none
   | false=>match get hp id with
    | some (.arr m _)=>match Nat.beq m n with
     | true=>some (.pel id (off+i) 0)
     | false=>none
    | some (.cells _)=>match Nat.beq n 1 with
     | true=>some (.ptr id (off+i))
     | false=>none
    | _=>none
  | v=>match elems hp v with
   | some xs=>match xs[i]? with
    | some x=>match Nat.beq x.length n with
     | true=>some (.pim x 0)
     | false=>none
    | none=>none
   | none=>none
 | none=>none
def AA (len n:Nat) (p i:AV):Option AV :=
 match ej i with
 | some i=>match Nat.ble len i with
  | true=>none
  | false=>bM (i*n) p
 | none=>none
def Zt (len n:Nat) (agg:Bool) (x i:AV):Option AV :=
 match x with
 | .agg cs=>match ej i with
  | some i=>match Nat.ble len i with
   | true=>none
   | false=>jj (EQ agg n) cs (i*n)
  | none=>none
 | _=>none
def aaF (x i:AV):Option D :=
 match x with
 | .d (.str s)=>match ej i with
  | some i=>match s[i]? with
   | some b=>some (.int .u8 (.ofNat b.toNat))
   | none=>none
  | none=>none
 | _=>none
def fu (mv:Bool) (t:AV) (i:Nat):Option AV :=
 match t with
 | .tup vs=>match vs[i]? with
  | some v=>match mv with
   | true=>some v
   | false=>some (share v)
  | none=>none
 | _=>none
def jf (t:AV) (i:Nat):AV :=
 match t with
 | .tup vs=>.tup (vs.set i .junk)
 | v=>v
def aaJ (x:AV):Bool :=
 match x with
 | .nl=>true
 | _=>false
def DO (m:Nat) (h:ac) (a b:AV):Option (AV×ac) :=
 match elems h b with
 | some ys=>match cX m ys with
  | true=>bK m h a ys
  | false=>none
 | none=>none
def OJ (z:List D) (h:ac) (a n:AV):Option (AV×ac) :=
 match bO n aD with
 | some n=>bK z.length h a (List.replicate n z)
 | none=>none
def ahJ (m:Nat) (hp:ac) (a b:AV):Option (D×ac) :=
 match elems hp b with
 | some ys=>match a with
  | .sl id off len=>match get hp id with
   | some (.arr k xs)=>match cX m ys && Nat.beq k m && Nat.ble (off+len) xs.length with
    | true=>some (.int .i64 (.ofNat (min len ys.length)),put hp id (.arr k (aj xs off (ys.take len))))
    | false=>none
   | _=>none
  | _=>match lenOf a with
   | some 0=>some (.int .i64 (.ofNat 0),hp)
   | _=>none
 | none=>none
def aiH (z:List D) (hp:ac) (x:AV):Option ac :=
 match x with
 | .sl id off len=>match get hp id with
  | some (.arr k xs)=>match Nat.beq k z.length && Nat.ble (off+len) xs.length with
   | true=>some (put hp id (.arr k (aj xs off (List.replicate len z))))
   | false=>none
  | _=>none
 | _=>none
def At (isMax:Bool) (vs:List AV):Option AV :=
 match vs with
 | .d (.int k n)::vs=>mF isMax (.d (.int k n)) vs
 | _=>none
def oN (v:AV):Option AV :=
 match v with
 | .ptr .. | .pel .. | .pim .. | .fn .. | .yield ..=>some v
 | _=>none
def bc (h:ac) (n:Option Nat) (p:AV):Option AV :=
 match loadAt h n 0 p with
 | some (v,_)=>some v
 | none=>none
def Nt (m:Nat) (vs:List AV):Bool:=vs.all fun v=>Nat.beq v.cells.length m && v.cells.all cy
def aO {β:Type}(e:am) (x:Rd) (k:AV→am→Option β):Option β :=
 match rd e x with
 | some (v,e)=>k v e
 | none=>none
def eA {β:Type}:am→List Rd→(List AV→am→Option β)→Option β
 | e,[],k=>k [] e
 | e,x::r,k=>match rd e x with
  | some (v,e)=>eA e r fun vs e=>k (v::vs) e
  | none=>none
def fL {β:Type}(e:am) (x:Option Rd) (k:Option AV→am→Option β):Option β :=
 match x with
 | none=>k none e
 | some x=>match rd e x with
  | some (v,e)=>k (some v) e
  | none=>none
def ax:Rd→Bool
 | .m _=>false
 | _=>true
def aC {β:Type}(P:Nat→Option af) (op:iu) (e:am) (hs:HS) (k:AV→am→HS→Option β):Option β :=
 match op with
 | .mov x=>aO e x fun v e=>k v e hs
 | .pick c a b=>aO e c fun c e=>match ax a && ax b,rd e a,rd e b with
  | true,some (a,_),some (b,_)=>bA (lN c a b) fun v=>k v e hs
  | _,_,_=>bP (eH (.c c) a b ⟨e,hs⟩) fun v st=>k v st.env st.hs
 | .alloc zs=>lA (put hs.heap hs.next (.cells zs)) fun h=>k (.ptr hs.next 0) e ⟨h,hs.next+1⟩
 | .box x=>aO e x fun v e=>dt (v.cells.all cy) (lA (put hs.heap hs.next (.cells v.cells)) fun h=>k (.ptr hs.next 0) e ⟨h,hs.next+1⟩)
 | .build zs ps=>eA e (gL ps) fun vs e=>bA (dl zs (iY ps vs)) fun cs=>k (.agg cs) e hs
 | .mks m ps=>eA e ps fun vs e=>bA (dh m vs) fun xs=>k (.own true m xs) e hs
 | .mksv m ps=>eA e ps fun vs e=>dt (Nt m vs) (lA (put hs.heap hs.next (.cells (vs.flatMap AV.cells))) fun h=>k (.sl hs.next 0 vs.length) e ⟨h,hs.next+1⟩)
 | .ld n 0 p=>aO e p fun p e=>bA (bc hs.heap n p) fun v=>k v e hs
 | .ld n (t+1) p=>aO e p fun p e=>bP (loadAt hs.heap n (t+1) p) fun v h=>k v e ⟨h,hs.next⟩
 | .st n p x=>aO e p fun p e=>aO e x fun x e=>bA (storeAt hs.heap n p x) fun h=>k .junk e ⟨h,hs.next⟩
 | .nilck x=>aO e x fun v e=>bA (oN v) fun v=>k v e hs
 | .bin op x y=>aO e x fun a e=>aO e y fun b e=>bA (aV op a b) fun v=>k (.d v) e hs
 | .binb neg x y=>aO e x fun a e=>aO e y fun b e=>bA (VP neg a b) fun v=>k (.d v) e hs
 | .bina neg ks x y=>aO e x fun a e=>aO e y fun b e=>bA (afF neg ks a b) fun v=>k (.d v) e hs
 | .un op x=>aO e x fun a e=>bA (OT op a) fun v=>k (.d v) e hs
 | .conv j x=>aO e x fun a e=>bA (Pl j a) fun v=>k (.d v) e hs
 | .toStr x=>aO e x fun a e=>bA (sZ hs.heap a) fun v=>k (.d v) e hs
 | .mkfn f a c=>eA e a fun a e=>eA e c fun c e=>k (.fn f (aB a) (aB c)) e hs
 | .mkslice z l c=>aO e l fun l e=>aO e c fun c e=>bA (tp z l c) fun v=>k v e hs
 | .slice m x lo hi mx=>aO e x fun x e=>fL e lo fun lo e=>fL e hi fun hi e=>fL e mx fun mx e=>bA (lg hs.heap m x lo hi mx) fun v=>k v e hs
 | .slarr n x lo hi mx=>aO e x fun x e=>fL e lo fun lo e=>fL e hi fun hi e=>fL e mx fun mx e=>bA (Dh hs.heap n x lo hi mx) fun v=>k v e hs
 | .fa off p=>aO e p fun p e=>bA (bM off p) fun v=>k v e hs
 | .fld off n x=>aO e x fun x e=>bA (ait off n x) fun v=>k v e hs
 | .ia n x i=>aO e x fun x e=>aO e i fun i e=>bA (fo hs.heap n x i) fun v=>k v e hs
 | .iarr l n p i=>aO e p fun p e=>aO e i fun i e=>bA (AA l n p i) fun v=>k v e hs
 | .ix l n a x i=>aO e x fun x e=>aO e i fun i e=>bA (Zt l n a x i) fun v=>k v e hs
 | .ixs x i=>aO e x fun x e=>aO e i fun i e=>bA (aaF x i) fun v=>k (.d v) e hs
 | .ext j true i=>match get e j with
  | some t=>bA (fu true t i) fun v=>k v (put e j (jf t i)) hs
  | none=>none
 | .ext j false i=>match get e j with
  | some t=>bA (fu false t i) fun v=>k v e hs
  | none=>none
 | .len x=>aO e x fun x e=>bA (lenOf x) fun n=>k (.int .i64 (.ofNat n)) e hs
 | .cap x=>aO e x fun x e=>dt (aaJ x) (k (.int .i64 (.ofNat 0)) e hs)
 | .app m x y=>aO e x fun a e=>aO e y fun b e=>bP (DO m hs.heap a b) fun v h=>k v e ⟨h,hs.next⟩
 | .appz z x n=>aO e x fun a e=>aO e n fun n e=>bP (OJ z hs.heap a n) fun v h=>k v e ⟨h,hs.next⟩
 | .cpy m x y=>aO e x fun a e=>aO e y fun b e=>bP (ahJ m hs.heap a b) fun v h=>k (.d v) e ⟨h,hs.next⟩
 | .clr z x=>aO e x fun x e=>bA (aiH z hs.heap x) fun h=>k (.tup []) e ⟨h,hs.next⟩
 | .minmax b xs=>eA e xs fun vs e=>bA (At b vs) fun v=>k v e hs
 | .call f args=>eA e args fun vs e=>bA (aU (Dn P) f vs hs.heap) fun v=>k v e hs
 | .calli f args=>eA e args fun vs e=>bP ((Dn P).call f vs hs) fun v hs=>k v e hs
 | .callv f args=>aO e f fun f e=>eA e args fun vs e=>bP (aM (Dn P) f vs hs) fun v hs=>k v e hs
 | .kill is=>k (.tup []) (is.foldl del e) hs
 | .idxb x c=>aO e x fun x e=>aO e c fun c e=>bA (aai hs.heap x c) fun v=>k v e hs
 | op=>bP (aY op (Dn P) ⟨e,hs⟩) fun v st=>k v st.env st.hs
def dQ:List Rd→Bool
 | []=>true
 | x::r=>ax x && dQ r
def pr:Option Rd→Bool
 | none=>true
 | some x=>ax x
def bu:iu→Bool
 | .mov x=>ax x
 | .ld _ 0 p=>ax p
 | .nilck x=>ax x
 | .bin _ x y=>ax x && ax y
 | .binb _ x y=>ax x && ax y
 | .un _ x=>ax x
 | .conv _ x=>ax x
 | .fa _ p=>ax p
 | .fld _ _ x=>ax x
 | .ia _ x i=>ax x && ax i
 | .iarr _ _ p i=>ax p && ax i
 | .ix _ _ _ x i=>ax x && ax i
 | .ixs x i=>ax x && ax i
 | .ext _ mv _=>!mv
 | .len x=>ax x
 | .call _ args=>dQ args
 | .pick c a b=>ax c && ax a && ax b
 | .build _ ps=>dQ (gL ps)
 | .toStr x=>ax x
 | .mkfn _ a c=>dQ a && dQ c
 | .mkslice _ l c=>ax l && ax c
 | .minmax _ xs=>dQ xs
 | .slice _ x a b c=>ax x && (pr a && (pr b && pr c))
 | _=>false
def tv:iu→Bool
 | .calli _ args=>dQ args
 | .callv f args=>ax f && dQ args
 | _=>false
def TE (P:Nat→Option af) (i:VI) (e:am) (hs:HS) (k:am→HS→Option St):Option St :=
 match i.guard with
 | none=>match i.th with
  | []=>match i.dst with
   | some d=>aC P i.op e hs fun v e hs=>k (put e d (firm v)) hs
   | none=>aC P i.op e hs fun _ e hs=>k e hs
  | th=>match i.dst with
   | some d=>aC P i.op e hs fun v e hs=>lP (bv th v hs) fun v hs=>k (put e d (firm v)) hs
   | none=>aC P i.op e hs fun v e hs=>lP (bv th v hs) fun _ hs=>k e hs
 | some (s,w)=>match bu i.op,i.th,i.dst with
  | true,[],some d=>match get e s with
   | some g=>bA (gV g w (aC P i.op e hs fun v _ _=>some v)) fun v=>k (put e d (firm v)) hs
   | none=>none
  | _,_,_=>match tv i.op,i.th,i.dst with
   | true,[],some d=>match get e s with
    | some g=>bP (gH g w hs (aC P i.op e hs fun v _ hs=>some (v,hs))) fun v hs=>k (put e d (firm v)) hs
    | none=>none
   | _,_,_=>bA (aS (Dn P) i ⟨e,hs⟩) fun st=>k st.env st.hs
def i5 (P:Nat→Option af):List VI→am→HS→Option St
 | [],e,hs=>some ⟨e,hs⟩
 | i::l,e,hs=>TE P i e hs fun e hs=>i5 P l e hs
theorem agF {op:BinOp}{a b v:AV}(h:bi op a b=some v):∃ x,v=.d x:=by
 unfold bi at h
 split at h
 ·split at h
  ·simp only[Option.some.injEq]at h;exact⟨_,h.symm⟩
  ·simp at h
 ·split at h
  ·simp only[Option.some.injEq]at h;exact⟨_,h.symm⟩
  ·simp only[Option.some.injEq]at h;exact⟨_,h.symm⟩
  ·split at h
   ·simp only[Option.some.injEq]at h;exact⟨_,h.symm⟩
   ·simp at h
  ·simp at h
 ·simp at h
theorem aiv {op:UnOp}{a v:AV}(h:En op a=some v):∃ x,v=.d x:=by
 unfold En at h
 split at h
 ·split at h
  ·simp only[Option.some.injEq]at h;exact⟨_,h.symm⟩
  ·split at h
   ·simp only[Option.some.injEq]at h;exact⟨_,h.symm⟩
   ·simp at h
  ·simp at h
 ·split at h
  ·simp only[Option.some.injEq]at h;exact⟨_,h.symm⟩
  ·simp at h
 ·simp at h
theorem bY {β:Type}{e:am}{x:Rd}{k:AV→am→Option β}:aO e x k=match rd e x with | some (v,e)=>k v e | none=>none:=rfl
theorem gJ {β:Type}:∀ {l:List Rd}{e:am}{k:List AV→am→Option β},eA e l k=match rdAll e l with | some (vs,e)=>k vs e | none=>none
 | [],_,_=>rfl
 | x::r,e,k=>by
  simp only[eA,rdAll]
  cases rd e x with
  | none=>rfl
  | some p =>
   obtain⟨v,e1⟩:=p
   simp only
   rw[gJ]
   cases rdAll e1 r<;>rfl
theorem Z9 {β:Type}{e:am}{x:Option Rd}{k:Option AV→am→Option β}:fL e x k=match rdOpt e x with | some (v,e)=>k v e | none=>none:=by
 cases x with
 | none=>rfl
 | some x=>simp only[fL,rdOpt];cases rd e x<;>rfl
theorem aeG {h h':ac}{n:Option Nat}{p v:AV}(k:loadAt h n 0 p=some (v,h')):h'=h:=by
 unfold loadAt at k
 split at k
 ·split at k
  ·split at k
   ·split at k
    ·simp at k
    ·simp only[Option.some.injEq,Prod.mk.injEq]at k;exact k.2.symm
   ·split at k
    ·simp only[Option.some.injEq,Prod.mk.injEq]at k;exact k.2.symm
    ·simp at k
  ·simp at k
 ·split at k
  ·split at k
   ·split at k
    ·simp only[Option.some.injEq,Prod.mk.injEq]at k;exact k.2.symm
    ·simp at k
   ·simp at k
  ·simp at k
 ·split at k
  ·simp only[Option.some.injEq,Prod.mk.injEq]at k;exact k.2.symm
  ·simp at k
 ·simp at k
def cP {β:Type}(x:Option (AV×St)) (k:AV→am→HS→Option β):Option β :=
 match x with
 | some (v,st)=>k v st.env st.hs
 | none=>none
theorem jE {e e1:am}{x:Rd}{v:AV}(hs:ax x=true) (h:rd e x=some (v,e1)):e1=e:=by
 cases x with
 | s i=>simp only[rd]at h;split at h<;>simp_all
 | m i=>simp[ax]at hs
 | c v=>simp only[rd,Option.some.injEq,Prod.mk.injEq]at h;exact h.2.symm
theorem BK {a b:Rd}{st:St}:eH (.c (.d (.bool true))) a b st=match rd st.env a with | some (v,e)=>some (v,⟨e,st.hs⟩) | none=>none:=rfl
theorem Ba {a b:Rd}{st:St}:eH (.c (.d (.bool false))) a b st=match rd st.env b with | some (v,e)=>some (v,⟨e,st.hs⟩) | none=>none:=rfl
theorem z0 {β:Type}{op:iu}{e:am}{hs:HS}{k:AV→am→HS→Option β}:aC P op e hs k=cP (aY op (Dn P) ⟨e,hs⟩) k:=by
 cases op with
 | mov x=>simp only[aC,aY,Ga,bY,cP];cases rd e x<;>rfl
 | pick c a b =>
  simp only[aC,aY,bY]
  cases hc:rd e c with
  | none=>simp only[eH,hc,cP]
  | some q =>
   obtain⟨v,e1⟩:=q
   have h0:eH c a b ⟨e,hs⟩=eH (.c v) a b ⟨e1,hs⟩:=by
    unfold eH
    simp only
    rw[hc]
    rfl
   rw[h0]
   simp only
   split
   ·rename_i va _ vb _ hst hra hrb
    simp only[Bool.and_eq_true]at hst
    have ea:=jE hst.1 hra
    have eb:=jE hst.2 hrb
    subst ea
    subst eb
    simp only[cP]
    cases v with
    | d x=>cases x with
     | bool t =>
      cases t
      ·rw[Ba];simp only[hrb,lN,bA]
      ·rw[BK];simp only[hra,lN,bA]
     | _=>rfl
    | _=>rfl
   ·simp only[bP,cP]
    cases eH (.c v) a b ⟨e1,hs⟩<;>rfl
 | ld n t p =>
  cases t with
  | zero =>
   simp only[aC,aY,rS,bY,cP]
   cases rd e p with
   | none=>rfl
   | some q =>
    obtain⟨v,e1⟩:=q
    simp only[bc,bA]
    cases hl:loadAt hs.heap n 0 v with
    | none=>rfl
    | some r=>obtain⟨v2,h2⟩:=r;simp only[aeG hl]
  | succ t =>
   simp only[aC,aY,rS,bY,cP]
   cases rd e p with
   | none=>rfl
   | some q =>
    obtain⟨v,e1⟩:=q
    simp only[bP]
    cases loadAt hs.heap n (t+1) v<;>rfl
 | alloc zs=>rfl
 | box x =>
  simp only[aC,aY,F7,bY,cP]
  cases rd e x with
  | none=>rfl
  | some q =>
   obtain⟨v,e1⟩:=q
   simp only[dt,lA,vy]
   cases v.cells.all cy<;>rfl
 | build zs ps =>
  simp only[aC,aY,sD,gJ,cP]
  cases rdAll e (gL ps) with
  | none=>rfl
  | some q =>
   obtain⟨v,e1⟩:=q
   simp only[bA]
   cases dl zs (iY ps v)<;>rfl
 | mks m ps =>
  simp only[aC,aY,Bu,gJ,cP]
  cases rdAll e ps with
  | none=>rfl
  | some q =>
   obtain⟨v,e1⟩:=q
   simp only[bA]
   cases dh m v<;>rfl
 | mksv m ps =>
  simp only[aC,aY,Pc,gJ,cP]
  cases rdAll e ps with
  | none=>rfl
  | some q =>
   obtain⟨v,e1⟩:=q
   simp only[dt,lA,vy,Nt]
   cases v.all (fun v=>Nat.beq v.cells.length m && v.cells.all cy)<;>rfl
 | st n p x =>
  simp only[aC,aY,abo,bY,cP]
  cases rd e p with
  | none=>rfl
  | some q =>
   obtain⟨v,e1⟩:=q
   simp only
   cases rd e1 x with
   | none=>rfl
   | some q =>
    obtain⟨w,e2⟩:=q
    simp only[bA]
    cases storeAt hs.heap n v w<;>rfl
 | nilck x =>
  simp only[aC,aY,ve,bY,cP]
  cases rd e x with
  | none=>rfl
  | some q =>
   obtain⟨v,e1⟩:=q
   simp only[bA,oN]
   cases v<;>rfl
 | bin op x y =>
  simp only[aC,aY,BS,FI,bY,cP]
  cases rd e x with
  | none=>rfl
  | some q =>
   obtain⟨v,e1⟩:=q
   simp only
   cases rd e1 y with
   | none=>rfl
   | some q =>
    obtain⟨w,e2⟩:=q
    simp only[bA,aV]
    cases hb:bi op v w with
    | none=>rfl
    | some z=>obtain⟨d,rfl⟩:=agF hb;rfl
 | binb neg x y =>
  simp only[aC,aY,zL,bY,cP]
  cases rd e x with
  | none=>rfl
  | some q =>
   obtain⟨v,e1⟩:=q
   simp only
   cases rd e1 y with
   | none=>rfl
   | some q =>
    obtain⟨w,e2⟩:=q
    simp only[bA,VP]
    cases v<;>try rfl
    rename_i x
    cases x<;>try rfl
    cases w<;>try rfl
    rename_i x
    cases x<;>rfl
 | bina neg ks x y =>
  simp only[aC,aY,Ad,bY,cP]
  cases rd e x with
  | none=>rfl
  | some q =>
   obtain⟨v,e1⟩:=q
   simp only
   cases rd e1 y with
   | none=>rfl
   | some q =>
    obtain⟨w,e2⟩:=q
    simp only[bA,afF]
    cases v<;>try rfl
    cases w<;>try rfl
    rename_i a b
    simp only
    cases an ks a b<;>rfl
 | un op x =>
  simp only[aC,aY,PY,bY,cP]
  cases rd e x with
  | none=>rfl
  | some q =>
   obtain⟨v,e1⟩:=q
   simp only[bA,OT]
   cases hb:En op v with
   | none=>rfl
   | some z=>obtain⟨d,rfl⟩:=aiv hb;rfl
 | conv j x =>
  simp only[aC,aY,wF,bY,cP]
  cases rd e x with
  | none=>rfl
  | some q =>
   obtain⟨v,e1⟩:=q
   simp only[bA,Pl]
   cases v<;>try rfl
   rename_i x
   cases x<;>rfl
 | toStr x =>
  simp only[aC,aY,zn,bY,cP]
  cases rd e x with
  | none=>rfl
  | some q =>
   obtain⟨v,e1⟩:=q
   simp only[bA,sZ]
   cases elems hs.heap v with
   | none=>rfl
   | some xs=>simp only;cases iE xs<;>rfl
 | mkfn f a c =>
  simp only[aC,aY,wJ,gJ,cP]
  cases rdAll e a with
  | none=>rfl
  | some q =>
   obtain⟨v,e1⟩:=q
   simp only
   cases rdAll e1 c<;>rfl
 | mkslice z l c =>
  simp only[aC,aY,fB,bY,cP]
  cases rd e l with
  | none=>rfl
  | some q =>
   obtain⟨v,e1⟩:=q
   simp only
   cases rd e1 c with
   | none=>rfl
   | some q =>
    obtain⟨w,e2⟩:=q
    simp only[bA,tp]
    cases bO w aD with
    | none=>rfl
    | some n=>simp only;cases bO v n<;>rfl
 | slice m x lo hi mx =>
  simp only[aC,aY,Aa,bY,Z9,cP]
  cases rd e x with
  | none=>rfl
  | some q =>
   obtain⟨v,e1⟩:=q
   simp only
   cases rdOpt e1 lo with
   | none=>rfl
   | some q =>
    obtain⟨l,e2⟩:=q
    simp only
    cases rdOpt e2 hi with
    | none=>rfl
    | some q =>
     obtain⟨h,e3⟩:=q
     simp only
     cases rdOpt e3 mx with
     | none=>rfl
     | some q =>
      obtain⟨j,e4⟩:=q
      simp only[bA,lg]
      cases okSl hs.heap m v with
      | false=>rfl
      | true=>simp only;cases j8 m v l h j<;>rfl
 | slarr n x lo hi mx =>
  simp only[aC,aY,FO,bY,Z9,cP]
  cases rd e x with
  | none=>rfl
  | some q =>
   obtain⟨v,e1⟩:=q
   simp only
   cases v with
   | ptr id off =>
    simp only
    cases rdOpt e1 lo with
    | none=>rfl
    | some q =>
     obtain⟨l,e2⟩:=q
     simp only
     cases rdOpt e2 hi with
     | none=>rfl
     | some q =>
      obtain⟨h,e3⟩:=q
      simp only
      cases rdOpt e3 mx with
      | none=>rfl
      | some q =>
       obtain⟨j,e4⟩:=q
       simp only[bA,Dh]
       cases Av hs.heap n id off l h j<;>rfl
   | _ =>
    simp only
    cases rdOpt e1 lo with
    | none=>rfl
    | some q =>
     obtain⟨l,e2⟩:=q
     simp only
     cases rdOpt e2 hi with
     | none=>rfl
     | some q =>
      obtain⟨h,e3⟩:=q
      simp only
      cases rdOpt e3 mx<;>rfl
 | fa off p =>
  simp only[aC,aY,QM,bY,cP]
  cases rd e p with
  | none=>rfl
  | some q =>
   obtain⟨v,e1⟩:=q
   simp only[bA]
   cases bM off v<;>rfl
 | fld off n x =>
  simp only[aC,aY,Br,bY,cP]
  cases rd e x with
  | none=>rfl
  | some q =>
   obtain⟨v,e1⟩:=q
   simp only[bA,ait]
   cases v<;>try rfl
   rename_i cs
   simp only
   cases jj n cs off<;>rfl
 | ia n x i =>
  simp only[aC,aY,V6,bY,cP]
  cases rd e x with
  | none=>rfl
  | some q =>
   obtain⟨v,e1⟩:=q
   simp only
   cases rd e1 i with
   | none=>rfl
   | some q =>
    obtain⟨w,e2⟩:=q
    simp only[bA,fo]
    cases ej w with
    | none=>rfl
    | some j =>
     simp only
     cases v with
     | sl id off len =>
      simp only
      cases Nat.ble len j with
      | true=>rfl
      | false =>
       simp only
       cases get hs.heap id with
       | none=>rfl
       | some o =>
        cases o with
        | arr m xs=>simp only;cases Nat.beq m n<;>rfl
        | cells cs=>simp only;cases Nat.beq n 1<;>rfl
        | loop=>rfl
     | _ =>
      simp only
      first
      | rfl
      | (cases elems hs.heap _ with
       | none=>rfl
       | some xs =>
        simp only
        cases xs[j]? with
        | none=>rfl
        | some x=>simp only;cases Nat.beq x.length n<;>rfl)
 | iarr l n p i =>
  simp only[aC,aY,Ah,bY,cP]
  cases rd e p with
  | none=>rfl
  | some q =>
   obtain⟨v,e1⟩:=q
   simp only
   cases rd e1 i with
   | none=>rfl
   | some q =>
    obtain⟨w,e2⟩:=q
    simp only[bA,AA]
    cases ej w with
    | none=>rfl
    | some j =>
     simp only
     cases Nat.ble l j with
     | true=>rfl
     | false=>simp only;cases bM (j*n) v<;>rfl
 | ix l n a x i =>
  simp only[aC,aY,IM,bY,cP]
  cases rd e x with
  | none=>rfl
  | some q =>
   obtain⟨v,e1⟩:=q
   simp only
   cases hi:rd e1 i with
   | none=>cases v<;>first | rfl | simp only[hi]
   | some q =>
    obtain⟨w,e2⟩:=q
    simp only[bA,Zt]
    cases v<;>try rfl
    rename_i cs
    simp only[hi]
    cases ej w with
    | none=>rfl
    | some j =>
     simp only
     cases Nat.ble l j with
     | true=>rfl
     | false=>simp only;cases jj (EQ a n) cs (j*n)<;>rfl
 | ixs x i =>
  simp only[aC,aY,Cg,bY,cP]
  cases rd e x with
  | none=>rfl
  | some q =>
   obtain⟨v,e1⟩:=q
   simp only
   cases hi:rd e1 i with
   | none =>
    cases v<;>try rfl
    rename_i d;cases d<;>first | rfl | simp only[hi]
   | some q =>
    obtain⟨w,e2⟩:=q
    simp only[bA,aaF]
    cases v<;>try rfl
    rename_i d
    cases d<;>try rfl
    rename_i s
    simp only[hi]
    cases ej w with
    | none=>rfl
    | some j=>simp only;cases s[j]?<;>rfl
 | ext j mv i =>
  cases mv with
  | true =>
   simp only[aC,aY,oW,cP]
   cases get e j with
   | none=>rfl
   | some t =>
    simp only[bA,fu,jf]
    cases t<;>try rfl
    rename_i vs
    simp only
    cases vs[i]?<;>rfl
  | false =>
   simp only[aC,aY,oW,cP]
   cases get e j with
   | none=>rfl
   | some t =>
    simp only[bA,fu]
    cases t<;>try rfl
    rename_i vs
    simp only
    cases vs[i]?<;>rfl
 | len x =>
  simp only[aC,aY,FB,bY,cP]
  cases rd e x with
  | none=>rfl
  | some q =>
   obtain⟨v,e1⟩:=q
   simp only[bA]
   cases lenOf v<;>rfl
 | cap x =>
  simp only[aC,aY,AD,bY,cP]
  cases rd e x with
  | none=>rfl
  | some q =>
   obtain⟨v,e1⟩:=q
   simp only[dt,aaJ]
   cases v<;>rfl
 | app m x y =>
  simp only[aC,aY,uC,bY,cP]
  cases rd e x with
  | none=>rfl
  | some q =>
   obtain⟨v,e1⟩:=q
   simp only
   cases rd e1 y with
   | none=>rfl
   | some q =>
    obtain⟨w,e2⟩:=q
    simp only[bP,DO]
    cases elems hs.heap w with
    | none=>rfl
    | some ys =>
     simp only
     cases cX m ys with
     | false=>rfl
     | true=>simp only;cases bK m hs.heap v ys<;>rfl
 | appz z x n =>
  simp only[aC,aY,WM,bY,cP]
  cases rd e x with
  | none=>rfl
  | some q =>
   obtain⟨v,e1⟩:=q
   simp only
   cases rd e1 n with
   | none=>rfl
   | some q =>
    obtain⟨w,e2⟩:=q
    simp only[bP,OJ]
    cases bO w aD with
    | none=>rfl
    | some n=>simp only;cases bK z.length hs.heap v (List.replicate n z)<;>rfl
 | cpy m x y =>
  simp only[aC,aY,Pj,bY,cP]
  cases rd e x with
  | none=>rfl
  | some q =>
   obtain⟨v,e1⟩:=q
   simp only
   cases rd e1 y with
   | none=>rfl
   | some q =>
    obtain⟨w,e2⟩:=q
    simp only[bP,ahJ]
    cases elems hs.heap w with
    | none=>rfl
    | some ys =>
     simp only
     cases v with
     | sl id off len =>
      simp only
      cases get hs.heap id with
      | none=>rfl
      | some o =>
       cases o with
       | arr k xs=>simp only;cases (cX m ys && Nat.beq k m && Nat.ble (off+len) xs.length)<;>rfl
       | _=>rfl
     | _ =>
      simp only
      generalize lenOf _=n
      cases n with
      | none=>rfl
      | some n=>cases n<;>rfl
 | clr z x =>
  simp only[aC,aY,FL,bY,cP]
  cases rd e x with
  | none=>rfl
  | some q =>
   obtain⟨v,e1⟩:=q
   simp only[bA,aiH]
   cases v<;>try rfl
   rename_i id off len
   simp only
   cases get hs.heap id with
   | none=>rfl
   | some o =>
    cases o with
    | arr k xs=>simp only;cases (Nat.beq k z.length && Nat.ble (off+len) xs.length)<;>rfl
    | _=>rfl
 | minmax b xs =>
  simp only[aC,aY,nk,gJ,cP]
  cases rdAll e xs with
  | none=>rfl
  | some q =>
   obtain⟨vs,e1⟩:=q
   simp only[bA,At]
   cases vs with
   | nil=>rfl
   | cons v vs =>
    cases v<;>try rfl
    rename_i d
    cases d<;>try rfl
    rename_i k n
    simp only
    cases mF b (.d (.int k n)) vs<;>rfl
 | call f args =>
  simp only[aC,aY,ti,gJ,cP]
  cases rdAll e args with
  | none=>rfl
  | some q =>
   obtain⟨vs,e1⟩:=q
   simp only[bA]
   cases aU (Dn P) f vs hs.heap<;>rfl
 | calli f args =>
  simp only[aC,aY,sk,gJ,cP]
  cases rdAll e args with
  | none=>rfl
  | some q =>
   obtain⟨vs,e1⟩:=q
   simp only[bP]
   cases (Dn P).call f vs hs<;>rfl
 | callv f args =>
  simp only[aC,aY,sv,bY,gJ,cP]
  cases rd e f with
  | none=>rfl
  | some q =>
   obtain⟨fv,e0⟩:=q
   simp only
   cases rdAll e0 args with
   | none=>rfl
   | some q =>
    obtain⟨vs,e1⟩:=q
    simp only[bP]
    cases aM (Dn P) fv vs hs<;>rfl
 | kill is=>rfl
 | idxb x c =>
  simp only[aC,aY,WY,bY,cP]
  cases rd e x with
  | none=>rfl
  | some q =>
   obtain⟨v,e1⟩:=q
   simp only
   cases rd e1 c with
   | none=>rfl
   | some q =>
    obtain⟨w,e2⟩:=q
    simp only[bA]
    cases aai hs.heap v w<;>rfl
 | _ =>
  simp only[aC,bP,cP]
  generalize aY _ (Dn P) ⟨e,hs⟩=z
  cases z<;>rfl
theorem CD:∀ {l:List Rd}{e e1:am}{vs:List AV},dQ l=true→rdAll e l=some (vs,e1)→e1=e
 | [],e,e1,vs,_,h=>by simp only[rdAll,Option.some.injEq,Prod.mk.injEq]at h;exact h.2.symm
 | x::r,e,e1,vs,hs,h=>by
  simp only[dQ,Bool.and_eq_true]at hs
  simp only[rdAll]at h
  split at h
  ·simp at h
  ·rename_i v e2 h1
   split at h
   ·simp at h
   ·rename_i vs2 e3 h2
    simp only[Option.some.injEq,Prod.mk.injEq]at h
    have a1:=jE hs.1 h1
    have a2:=CD hs.2 h2
    rw[←h.2,a2,a1]
theorem dx {β:Type}{e:am}{x:Rd}{k:AV→am→Option β}(h:ax x=true):aO e x k=aO e x fun v _=>k v e:=by
 simp only[aO]
 cases hx:rd e x with
 | none=>rfl
 | some q=>obtain⟨v,e1⟩:=q;simp only;rw[jE h hx]
theorem iP {β:Type}{e:am}{l:List Rd}{k:List AV→am→Option β}(h:dQ l=true):eA e l k=eA e l fun v _=>k v e:=by
 simp only[gJ]
 cases hx:rdAll e l with
 | none=>rfl
 | some q=>obtain⟨v,e1⟩:=q;simp only;rw[CD h hx]
theorem pX {β:Type}{e:am}{x:Option Rd}{k:Option AV→am→Option β}(h:pr x=true):fL e x k=fL e x fun v _=>k v e:=by
 cases x with
 | none=>rfl
 | some x=>exact dx (k:=fun v e=>k (some v) e) h
theorem fp {α β γ:Type}{x:Option α}{f:α→Option β}{g:β→Option γ}:bA (bA x f) g=bA x fun v=>bA (f v) g:=by
 cases x<;>rfl
theorem cL {β γ:Type}{e:am}{x:Rd}{k:AV→am→Option β}{g:β→Option γ}:bA (aO e x k) g=aO e x fun v e=>bA (k v e) g:=by
 simp only[aO];cases rd e x<;>rfl
theorem xh {β γ:Type}{e:am}{x:List Rd}{k:List AV→am→Option β}{g:β→Option γ}:bA (eA e x k) g=eA e x fun v e=>bA (k v e) g:=by
 simp only[gJ];cases rdAll e x<;>rfl
theorem cB {α β:Type}{v:α}{f:α→Option β}:bA (some v) f=f v:=rfl
theorem Dw {β:Type}{e:am}{x y:Rd}{k:AV→AV→am→Option β}(h:ax x=true) (h2:ax y=true):(aO e x fun a e=>aO e y fun b e=>k a b e)=aO e x fun a _=>aO e y fun b _=>k a b e:=by
 rw[dx h]
 simp only[aO]
 cases rd e x with
 | none=>rfl
 | some q =>
  simp only
  cases hy:rd e y with
  | none=>rfl
  | some r=>obtain⟨w,e2⟩:=r;simp only;rw[jE h2 hy]
theorem AI {β:Type}{e:am}{x y:Rd}{k:AV→AV→Option β}(h:ax x=true) (h2:ax y=true):(aO e x fun a e=>aO e y fun b _=>k a b)=aO e x fun a _=>aO e y fun b _=>k a b:=Dw (k:=fun a b _=>k a b) h h2
theorem acm {β:Type}{op:iu}{e:am}{hs:HS}{k:AV→am→HS→Option β}(h:bu op=true):aC P op e hs k=bA (aC P op e hs fun v _ _=>some v) fun v=>k v e hs:=by
 cases op with
 | mov x =>
  simp only[bu]at h
  simp only[aC,cL,cB]
  rw[dx h]
 | ld n t p =>
  cases t with
  | zero =>
   simp only[bu]at h
   simp only[aC,cL,fp,cB]
   rw[dx h]
  | succ t=>simp[bu]at h
 | nilck x =>
  simp only[bu]at h
  simp only[aC,cL,fp,cB]
  rw[dx h]
 | un op x =>
  simp only[bu]at h
  simp only[aC,cL,fp,cB]
  rw[dx h]
 | conv op x =>
  simp only[bu]at h
  simp only[aC,cL,fp,cB]
  rw[dx h]
 | fa off p =>
  simp only[bu]at h
  simp only[aC,cL,fp,cB]
  rw[dx h]
 | fld off n p =>
  simp only[bu]at h
  simp only[aC,cL,fp,cB]
  rw[dx h]
 | len x =>
  simp only[bu]at h
  simp only[aC,cL,fp,cB]
  rw[dx h]
 | bin op x y =>
  simp only[bu,Bool.and_eq_true]at h
  simp only[aC,cL,fp,cB]
  exact(Dw h.1 h.2).trans (AI h.1 h.2).symm
 | binb op x y =>
  simp only[bu,Bool.and_eq_true]at h
  simp only[aC,cL,fp,cB]
  exact(Dw h.1 h.2).trans (AI h.1 h.2).symm
 | ia n x y =>
  simp only[bu,Bool.and_eq_true]at h
  simp only[aC,cL,fp,cB]
  exact(Dw h.1 h.2).trans (AI h.1 h.2).symm
 | iarr l n x y =>
  simp only[bu,Bool.and_eq_true]at h
  simp only[aC,cL,fp,cB]
  exact(Dw h.1 h.2).trans (AI h.1 h.2).symm
 | ix l n a x y =>
  simp only[bu,Bool.and_eq_true]at h
  simp only[aC,cL,fp,cB]
  exact(Dw h.1 h.2).trans (AI h.1 h.2).symm
 | ixs x y =>
  simp only[bu,Bool.and_eq_true]at h
  simp only[aC,cL,fp,cB]
  exact(Dw h.1 h.2).trans (AI h.1 h.2).symm
 | ext j mv i =>
  cases mv with
  | true=>simp[bu]at h
  | false =>
   simp only[aC]
   cases get e j with
   | none=>rfl
   | some t=>simp only[fp,cB]
 | call f args =>
  simp only[bu]at h
  simp only[aC,xh,fp,cB]
  rw[iP h]
 | build zs ps =>
  simp only[bu]at h
  simp only[aC,xh,fp,cB]
  rw[iP h]
 | slice m x lo hi mx =>
  simp only[bu,Bool.and_eq_true]at h
  obtain⟨h0,h1,h2,h3⟩:=h
  have bd:∀ {γ:Type}{x:Option Rd}{e:am}{k:Option AV→am→Option AV}{g:AV→Option γ},bA (fL e x k) g=fL e x fun v e=>bA (k v e) g:=by
   intro γ x e k g
   cases x with
   | none=>rfl
   | some x=>exact cL
  simp only[aC,cL,bd,fp,cB]
  rw[dx h0,dx (k:=fun v e_1=>fL e_1 lo fun v_1 e_1=>fL e_1 hi fun v_2 e_1=>fL e_1 mx fun v_3 _=>bA (lg hs.heap m v v_1 v_2 v_3) fun v=>k v e hs) h0]
  congr 1
  funext v _
  rw[pX h1,pX (k:=fun v_1 e_1=>fL e_1 hi fun v_2 e_1=>fL e_1 mx fun v_3 _=>bA (lg hs.heap m v v_1 v_2 v_3) fun v=>k v e hs) h1]
  congr 1
  funext v_1 _
  rw[pX h2,pX (k:=fun v_2 e_1=>fL e_1 mx fun v_3 _=>bA (lg hs.heap m v v_1 v_2 v_3) fun v=>k v e hs) h2]
  congr 1
  funext v_2 _
  rw[pX h3]
 | minmax b ps =>
  simp only[bu]at h
  simp only[aC,xh,fp,cB]
  rw[iP h]
 | toStr x =>
  simp only[bu]at h
  simp only[aC,cL,fp,cB]
  rw[dx h]
 | mkslice z x y =>
  simp only[bu,Bool.and_eq_true]at h
  simp only[aC,cL,fp,cB]
  exact(Dw h.1 h.2).trans (AI h.1 h.2).symm
 | mkfn f a c =>
  simp only[bu,Bool.and_eq_true]at h
  simp only[aC,xh,cB]
  rw[iP h.1,iP (k:=fun v e_1=>eA e_1 c fun v_1 _=>k (AV.fn f (aB v) (aB v_1)) e hs) h.1]
  simp only[iP h.2]
 | pick c a b =>
  simp only[bu,Bool.and_eq_true]at h
  simp only[aC,cL]
  rw[dx h.1.1]
  have h2:(ax a && ax b)=true:=by rw[h.1.2,h.2];rfl
  simp only[aO]
  cases hc:rd e c with
  | none=>rfl
  | some q =>
   obtain⟨v,e1⟩:=q
   have:=jE h.1.1 hc
   subst this
   simp only[h2]
   cases ha:rd e1 a with
   | none =>
    cases hb:rd e1 b with
    | none =>
     cases v<;>try rfl
     rename_i d;cases d<;>try rfl
     rename_i t;cases t<;>simp only[BK,Ba,ha,hb,bP,bA]
    | some q =>
     obtain⟨vb,eb⟩:=q
     have:=jE h.2 hb
     subst this
     cases v<;>try rfl
     rename_i d;cases d<;>try rfl
     rename_i t;cases t<;>simp only[BK,Ba,ha,hb,bP,bA]
   | some q =>
    obtain⟨va,ea⟩:=q
    have:=jE h.1.2 ha
    subst this
    cases hb:rd ea b with
    | none =>
     cases v<;>try rfl
     rename_i d;cases d<;>try rfl
     rename_i t;cases t<;>simp only[BK,Ba,ha,hb,bP,bA]
    | some q=>simp only[fp,cB]
 | _=>simp[bu]at h
theorem afm {α β γ δ ε:Type}{x:Option (α×β)}{f:α→β→Option (γ×δ)}{g:γ→δ→Option ε}:bP (bP x f) g=bP x fun v w=>bP (f v w) g:=by
 cases x<;>rfl
theorem aao {β:Type}{op:iu}{e:am}{hs:HS}{k:AV→am→HS→Option β}(h:tv op=true):aC P op e hs k=bP (aC P op e hs fun v _ hs=>some (v,hs)) fun v hs=>k v e hs:=by
 cases op with
 | calli f args =>
  simp only[tv]at h
  simp only[aC]
  rw[iP h]
  simp only[gJ]
  cases rdAll e args with
  | none=>rfl
  | some q=>simp only[afm];rfl
 | callv f args =>
  simp only[tv,Bool.and_eq_true]at h
  simp only[aC]
  rw[dx h.1]
  simp only[iP h.2]
  simp only[aO]
  cases hf:rd e f with
  | none=>rfl
  | some q =>
   obtain⟨v,e1⟩:=q
   have:=jE h.1 hf
   subst this
   simp only[gJ]
   cases rdAll e1 args with
   | none=>rfl
   | some q=>simp only[afm];rfl
 | _=>simp[tv]at h
theorem T5:firm (.tup [])=.tup []:=rfl
theorem Di {i:VI}{e:am}{hs:HS}{k:am→HS→Option St}:TE P i e hs k=bA (aS (Dn P) i ⟨e,hs⟩) fun st=>k st.env st.hs:=by
 obtain⟨dst,guard,op,th⟩:=i
 unfold TE
 simp only
 cases guard with
 | none =>
  simp only[aS,cR]
  cases th with
  | nil =>
   cases dst with
   | none =>
    simp only[z0,cP,aI]
    cases aY op (Dn P) ⟨e,hs⟩<;>rfl
   | some d =>
    simp only[z0,cP,aI]
    cases aY op (Dn P) ⟨e,hs⟩<;>rfl
  | cons p r =>
   cases dst with
   | none =>
    simp only[z0,cP,aI,lP]
    cases aY op (Dn P) ⟨e,hs⟩<;>rfl
   | some d =>
    simp only[z0,cP,aI,lP]
    cases aY op (Dn P) ⟨e,hs⟩<;>rfl
 | some g =>
  obtain⟨s,w⟩:=g
  simp only
  split
  ·rename_i d hst
   have he:∀ {k:AV→am→HS→Option St},cP (aY op (Dn P) ⟨e,hs⟩) k=bA (aC P op e hs fun v _ _=>some v) fun v=>k v e hs:=by
    intro k
    rw[←z0,acm hst]
   have hv:∀ {k:am→HS→Option St},bA (cR (Dn P) ⟨some d,some (s,w),op,[]⟩ ⟨e,hs⟩) (fun st=>k st.env st.hs)=bA (aC P op e hs fun v _ _=>some v) fun v=>k (put e d (firm v)) hs:=by
    intro k
    rw[←he (k:=fun v e hs=>k (put e d (firm v)) hs)]
    simp only[cR,cP,aI]
    cases aY op (Dn P) ⟨e,hs⟩<;>rfl
   simp only[aS]
   cases get e s with
   | none=>rfl
   | some g =>
    simp only
    cases g with
    | d x=>cases x with
     | bool b =>
      simp only[gV]
      cases hb:(b == w) with
      | true =>
       have:b=w:=by simpa using hb
       simp only[this,if_true]
       rw[hv]
      | false =>
       have:¬ b=w:=by simpa using hb
       simp only[this,if_false,bA,T5,aI]
     | _=>rfl
    | tup vs=>cases vs<;>rfl
    | _=>rfl
  ·split
   ·rename_i d hst _
    have he:∀ {k:AV→am→HS→Option St},cP (aY op (Dn P) ⟨e,hs⟩) k=bP (aC P op e hs fun v _ hs=>some (v,hs)) fun v hs=>k v e hs:=by
     intro k
     rw[←z0,aao hst]
    have hv:∀ {k:am→HS→Option St},bA (cR (Dn P) ⟨some d,some (s,w),op,[]⟩ ⟨e,hs⟩) (fun st=>k st.env st.hs)=bP (aC P op e hs fun v _ hs=>some (v,hs)) fun v hs=>k (put e d (firm v)) hs:=by
     intro k
     rw[←he (k:=fun v e hs=>k (put e d (firm v)) hs)]
     simp only[cR,cP,aI]
     cases aY op (Dn P) ⟨e,hs⟩<;>rfl
    simp only[aS]
    cases get e s with
    | none=>rfl
    | some g =>
     simp only
     cases g with
     | d x=>cases x with
      | bool b =>
       simp only[gH]
       cases hb:(b == w) with
       | true =>
        have:b=w:=by simpa using hb
        simp only[this,if_true]
        rw[hv]
       | false =>
        have:¬ b=w:=by simpa using hb
        simp only[this,if_false,bA,bP,T5,aI]
      | _=>rfl
     | tup vs=>cases vs<;>rfl
     | _=>rfl
   ·rfl
theorem Sq:∀ {l:List VI}{e:am}{hs:HS},eM (Dn P) l ⟨e,hs⟩=i5 P l e hs
 | [],_,_=>rfl
 | i::l,e,hs=>by
  simp only[eM,i5,Di,bA]
  cases aS (Dn P) i ⟨e,hs⟩ with
  | none=>rfl
  | some st=>exact Sq
theorem te {d:Bool}{ops:List VI}{e:am}{hs:HS}{x:Option St}(h:i5 P ops e hs=x):(Dn P).code (.reg d ops) ⟨e,hs⟩=cM x:=by
 rw[JR,Sq,h]
theorem bF {perm gco:List Nat}{ops:List VI}{e:am}{hs:HS}{x:Option St}(ha:ke e ops=true) (hb:(perm.all fun i=>decide (i<ops.length))=true) (h:i5 P (perm.filterMap fun i=>ops[i]?) e hs=x):(Dn P).code (.regP perm gco [] ops) ⟨e,hs⟩=cM x:=by
 rw[acd ha,TR hb,Sq,h]
def ah8 (e:am) (d:Option Nat):Bool :=
 match d with
 | some d=>match get e d with
  | some a=>xP a
  | none=>false
 | none=>false
def ae0 (P:Nat→Option af) (F:List Nat) (v:VI) (e:am) (hs:HS) (k:am→HS→Option St):Option St :=
 match iZ v.op with
 | .call=>TE P v e hs fun e2 s2=>dt (iQ F hs.heap s2.heap) (k e2 s2)
 | .take=>TE P v e hs fun e2 s2=>dt (ah8 e2 v.dst) (k e2 s2)
 | .read=>TE P v e ⟨eh (fR v e) hs.heap,hs.next⟩ fun e2 _=>k e2 hs
def Lp (P:Nat→Option af):List (Bool×VI)→List Nat→am→HS→Option St
 | [],_,e,hs=>some ⟨e,hs⟩
 | (a,v)::l,F,e,hs=>match a with
  | false=>TE P v e hs fun e2 s2=>Lp P l F e2 s2
  | true=>ae0 P F v e hs fun e2 s2=>Lp P l (eq true v e F) e2 s2
theorem agI {F:List Nat}{v:VI}{e:am}{hs:HS}{k:am→HS→Option St}:ae0 P F v e hs k=bA (kM (Dn P) F v ⟨e,hs⟩) fun st=>k st.env st.hs:=by
 unfold ae0 kM
 cases iZ v.op with
 | call =>
  simp only[Di]
  cases aS (Dn P) v ⟨e,hs⟩ with
  | none=>rfl
  | some st =>
   simp only[bA]
   cases iQ F hs.heap st.hs.heap<;>rfl
 | take =>
  simp only[Di]
  cases aS (Dn P) v ⟨e,hs⟩ with
  | none=>rfl
  | some st =>
   simp only[bA,ah8]
   cases v.dst with
   | none=>rfl
   | some d =>
    simp only
    cases get st.env d with
    | none=>rfl
    | some a=>simp only;cases xP a<;>rfl
 | read =>
  simp only[Di]
  cases aS (Dn P) v ⟨e,⟨eh (fR v e) hs.heap,hs.next⟩⟩<;>rfl
def VL (nr:List Nat) (ops:List VI) (i:Nat):Option (Bool×VI) :=
 match ops[i]? with
 | some v=>some (bJ i nr,v)
 | none=>none
theorem KV {nr:List Nat}{ops:List VI}:∀ {l:List Nat}{F:List Nat}{e:am}{hs:HS},(l.all fun i=>decide (i<ops.length))=true→ct (Dn P) nr ops l F ⟨e,hs⟩=Lp P (l.filterMap (VL nr ops)) F e hs
 | [],_,_,_,_=>rfl
 | i::l,F,e,hs,hb=>by
  simp only[List.all_cons,Bool.and_eq_true,decide_eq_true_eq]at hb
  have h1:ops[i]?=some ops[i]:=List.getElem?_eq_getElem hb.1
  have h2:VL nr ops i=some (bJ i nr,ops[i]):=by simp only[VL,h1]
  simp only[ct,h1,List.filterMap_cons,h2,Lp,aF]
  cases bJ i nr with
  | false =>
   simp only[Di,eq]
   cases aS (Dn P) ops[i] ⟨e,hs⟩ with
   | none=>rfl
   | some st=>exact KV hb.2
  | true =>
   simp only[agI]
   cases kM (Dn P) F ops[i] ⟨e,hs⟩ with
   | none=>rfl
   | some st=>exact KV hb.2
theorem aag {perm gco nr:List Nat}{ops:List VI}{e:am}{hs:HS}{x:Option St}(ha:ke e ops=true) (hb:(perm.all fun i=>decide (i<ops.length))=true) (h:Lp P (perm.filterMap (VL nr ops)) [] e hs=x):(Dn P).code (.regP perm gco nr ops) ⟨e,hs⟩=cM x:=by
 rw[dM,←h,←KV hb]
 simp only[aR,zB,zY,ha]
 cases ct (Dn P) nr ops perm [] ⟨e,hs⟩<;>rfl
abbrev F (i:Nat):VC:=.reg false [⟨none,none,.free i,[]⟩]
def frK (e:am) (hs:HS) (i:Nat):Option AV→Option (aT×St)
 | some (.ptr id _)=>some (.normal,⟨del e i,⟨del hs.heap id,hs.next⟩⟩)
 | some (.fn _ _ caps)=>some (.normal,⟨del e i,⟨delAll hs.heap (wP caps),hs.next⟩⟩)
 | _=>some (.normal,⟨e,hs⟩)
theorem akh {e:am}{h:ac}{n i id o:Nat}:frK e ⟨h,n⟩ i (some (.ptr id o))=some (.normal,⟨del e i,⟨del h id,n⟩⟩):=rfl
theorem akG {e:am}{h:ac}{n i f:Nat}{a c:List AV}:frK e ⟨h,n⟩ i (some (.fn f a c))=some (.normal,⟨del e i,⟨delAll h (wP c),n⟩⟩):=rfl
theorem ah0 {i:Nat}{e:am}{hs:HS}:(Dn P).code (F i) ⟨e,hs⟩=frK e hs i (get e i):=by
 rw[JR]
 simp only[eM,aS,cR,aY,Nb]
 cases get e i with
 | none=>rfl
 | some v=>cases v<;>rfl
abbrev K (l:List Nat):VC:=.reg false [⟨none,none,.kill l,[]⟩]
theorem ai5 {is:List Nat}{e:am}{hs:HS}:(Dn P).code (K is) ⟨e,hs⟩=some (.normal,⟨is.foldl del e,hs⟩):=by rw[JR];rfl
end Go.Vm
namespace Go.Vm
variable {P:Nat→Option af}
attribute [simp ↓] aiO ajc ah4 aia ahM aiM ah5 aiF aiK ahW ahI ahT ah7 aik ahK aiA aii aiI SE aho ag9 agy ahk ag1
attribute [simp ↓] act abN adT abn ab9 aeE aba ai5 ah0 akh akG ahw agm ac0
attribute [simp] delAll wP
attribute [simp] amq aiB amR X7 amk air
attribute [congr] ite_congr ahA ahl aei ahp agz afh
def BM (x:Option (List AV×St)):Option (AV×HS) :=
 match x with
 | some ([v],st)=>some (v,st.hs)
 | some (vs,st)=>some (.tup vs,st.hs)
 | none=>none
theorem aim {fn:af}{st:St}:uk fn st=BM (co st fn.results):=(by
 simp only[uk,BM]
 cases co st fn.results with
 | none=>rfl
 | some q =>
  obtain⟨vs,s⟩:=q
  cases vs with
  | nil=>rfl
  | cons v r=>cases r<;>rfl)
@[simp] theorem aoG {st:St}:BM (some ([],st))=some (.tup [],st.hs):=(rfl)
@[simp] theorem ao4 {v:AV}{st:St}:BM (some ([v],st))=some (v,st.hs):=(rfl)
@[simp] theorem aoh {v w:AV}{r:List AV}{st:St}:BM (some (v::w::r,st))=some (.tup (v::w::r),st.hs):=(rfl)
def vw (rs:List kj) (x:Option (aT×St)):Option (AV×HS) :=
 match x with
 | some (.normal,st)=>BM (co st rs)
 | some (.ret,st)=>BM (co st rs)
 | _=>none
@[simp ↓] theorem aos {rs:List kj}{st:St}:vw rs (some (.normal,st))=BM (co st rs):=(rfl)
@[simp ↓] theorem ao0 {rs:List kj}{st:St}:vw rs (some (.ret,st))=BM (co st rs):=(rfl)
@[simp ↓] theorem aox {rs:List kj}{c:Prop}[Decidable c] {x y:Option (aT×St)}:vw rs (if c then x else y)=if c then vw rs x else vw rs y:=by split<;>rfl
@[simp ↓] theorem Zb {n:Nat}{rs:List kj}{b:VC}{x:Option (aT×St)}:JS ⟨n,rs,b⟩ x=vw rs x:=by
 simp only[JS,vw]
 split<;>simp only[aim]
theorem agl {rs:List kj}{x y:Option (aT×St)}(h:x=y):vw rs x=vw rs y:=by rw[h]
attribute [congr] agl
theorem aa {a b:VC}{st:St}(h:a=b):(Dn P).code (.loop a) st=mP P a ((Dn P).code b st):=by rw[←h];exact ac1
theorem au {f:FuncId}{fn:af}{n:Nat}{rs:List kj}{b:VC}{args:List AV}(hf:P f=some fn) (hd:fn=⟨n,rs,b⟩) (hl:args.length=n):aW P f args=r7 (vw rs ((Dn P).code b ⟨dK 0 args,⟨[],0⟩⟩)):=by
 subst hd
 rw[aeW hf hl,Zb]
theorem aJ {f:FuncId}{fn:af}{n:Nat}{rs:List kj}{b:VC}{args:List AV}{hs:HS}(hf:P f=some fn) (hd:fn=⟨n,rs,b⟩) (hl:args.length=n):(Dn P).call f args hs=vw rs ((Dn P).code b ⟨dK 0 args,hs⟩):=by
 subst hd
 rw[Tw hf hl,Zb]
@[simp ↓] theorem apV {α β:Type}{v:α}{f:α→Option β}:bA (some v) f=f v:=(rfl)
@[simp ↓] theorem apQ {α β:Type}{f:α→Option β}:bA none f=none:=(rfl)
@[simp ↓] theorem apX {α β:Type}{c:Prop}[Decidable c] {x y:Option α}{f:α→Option β}:bA (if c then x else y) f=if c then bA x f else bA y f:=by split<;>rfl
@[simp ↓] theorem ap3 {α γ β:Type}{v:α}{w:γ}{f:α→γ→Option β}:bP (some (v,w)) f=f v w:=(rfl)
@[simp ↓] theorem apP {α γ β:Type}{f:α→γ→Option β}:bP none f=none:=(rfl)
@[simp ↓] theorem apU {α γ β:Type}{c:Prop}[Decidable c] {x y:Option (α×γ)}{f:α→γ→Option β}:bP (if c then x else y) f=if c then bP x f else bP y f:=by split<;>rfl
@[simp ↓] theorem apR {α β:Type}{x:α}{f:α→β}:lA x f=f x:=(rfl)
@[simp ↓] theorem ap0 {α γ β:Type}{x:α}{y:γ}{f:α→γ→β}:lP (x,y) f=f x y:=(rfl)
@[simp ↓] theorem apH {β:Type}{x:Option β}:dt true x=x:=(rfl)
@[simp ↓] theorem apo {β:Type}{x:Option β}:dt false x=none:=(rfl)
theorem akw {α β:Type}{x y:Option α}{f:α→Option β}(h:x=y):bA x f=bA y f:=by rw[h]
theorem ajO {α γ β:Type}{x y:Option (α×γ)}{f:α→γ→Option β}(h:x=y):bP x f=bP y f:=by rw[h]
theorem ajz {α β:Type}{x y:α}{f:α→β}(h:x=y):lA x f=lA y f:=by rw[h]
theorem ajW {α γ β:Type}{x y:α×γ}{f:α→γ→β}(h:x=y):lP x f=lP y f:=by rw[h]
attribute [congr] akw ajO ajz ajW
@[simp ↓] theorem apK {x:Option AV}:gV (.d (.bool true)) true x=x:=(rfl)
@[simp ↓] theorem apE {x:Option AV}:gV (.d (.bool false)) false x=x:=(rfl)
@[simp ↓] theorem apJ {x:Option AV}:gV (.d (.bool true)) false x=some (.tup []):=(rfl)
@[simp ↓] theorem apw {x:Option AV}:gV (.d (.bool false)) true x=some (.tup []):=(rfl)
@[simp ↓] theorem ap2 {w:Bool}{x:Option AV}:gV (.tup []) w x=some (.tup []):=(rfl)
@[simp ↓] theorem apr {hs:HS}{x:Option (AV×HS)}:gH (.d (.bool true)) true hs x=x:=(rfl)
@[simp ↓] theorem apz {hs:HS}{x:Option (AV×HS)}:gH (.d (.bool false)) false hs x=x:=(rfl)
@[simp ↓] theorem apO {hs:HS}{x:Option (AV×HS)}:gH (.d (.bool true)) false hs x=some (.tup [],hs):=(rfl)
@[simp ↓] theorem apC {hs:HS}{x:Option (AV×HS)}:gH (.d (.bool false)) true hs x=some (.tup [],hs):=(rfl)
@[simp ↓] theorem aoa {a b:AV}:lN (.d (.bool true)) a b=some a:=(rfl)
@[simp ↓] theorem anP {a b:AV}:lN (.d (.bool false)) a b=some b:=(rfl)
@[simp] theorem aoV {x:D}:firm (.d x)=.d x:=(rfl)
@[simp] theorem an8:firm .nl=.nl:=(rfl)
@[simp] theorem amx {p:Bool}{m:Nat}{xs:List (List D)}:firm (.own p m xs)=.own false m xs:=(rfl)
@[simp] theorem amX {cs:List AV}:firm (.agg cs)=.agg (cs.map gy):=(rfl)
@[simp] theorem ann {cs:List AV}:firm (.tup cs)=.tup (cs.map sP):=(rfl)
@[simp] theorem alY {a b:Nat}:firm (.ptr a b)=.ptr a b:=(rfl)
@[simp] theorem ama {a b c:Nat}:firm (.pel a b c)=.pel a b c:=(rfl)
@[simp] theorem amO {a:List D}{b:Nat}:firm (.pim a b)=.pim a b:=(rfl)
@[simp] theorem an5 {a b c:Nat}:firm (.sl a b c)=.sl a b c:=(rfl)
@[simp] theorem anE {f:FuncId}{a b:List AV}:firm (.fn f a b)=.fn f a b:=(rfl)
@[simp] theorem akH {n:Nat}:firm (.yield n)=.yield n:=(rfl)
theorem lR {op:BinOp}{a b:AV}{x:D}(h:bi op a b=some (.d x)):aV op a b=some x:=by simp only[aV,h]
theorem sG {op:BinOp}{a b:AV}{c:Prop}[Decidable c] {x y:D}(h:bi op a b=if c then some (.d x) else some (.d y)):aV op a b=if c then some x else some y:=by
 by_cases hc:c<;>simp[aV,h,hc]
@[simp] theorem aoU {k:IntKind}{a b:Int}:aV .add (.d (.int k a)) (.d (.int k b))=some (.int k (wr k (a+b))):=lR agX
@[simp] theorem aoJ {k:IntKind}{a b:Int}:aV .sub (.d (.int k a)) (.d (.int k b))=some (.int k (wr k (a-b))):=lR af1
@[simp] theorem aoo {k:IntKind}{a b:Int}:aV .mul (.d (.int k a)) (.d (.int k b))=some (.int k (wr k (a*b))):=lR af8
@[simp] theorem aoZ {k:IntKind}{a b:Int}(h:b≠0):aV .quo (.d (.int k a)) (.d (.int k b))=some (.int k (wr k (a.tdiv b))):=lR (afY h)
@[simp] theorem aoq {k:IntKind}{a b:Int}:aV .eql (.d (.int k a)) (.d (.int k b))=if a=b then some (.bool true) else some (.bool false):=sG agZ
@[simp] theorem aon {k:IntKind}{a b:Int}:aV .neq (.d (.int k a)) (.d (.int k b))=if a=b then some (.bool false) else some (.bool true):=sG afZ
@[simp] theorem aoD {k:IntKind}{a b:Int}:aV .lss (.d (.int k a)) (.d (.int k b))=if a<b then some (.bool true) else some (.bool false):=sG ahq
@[simp] theorem aoP {k:IntKind}{a b:Int}:aV .leq (.d (.int k a)) (.d (.int k b))=if a≤b then some (.bool true) else some (.bool false):=sG afX
@[simp] theorem aoX {k:IntKind}{a b:Int}:aV .gtr (.d (.int k a)) (.d (.int k b))=if b<a then some (.bool true) else some (.bool false):=sG agn
@[simp] theorem aor {k:IntKind}{a b:Int}:aV .geq (.d (.int k a)) (.d (.int k b))=if b≤a then some (.bool true) else some (.bool false):=sG ahC
@[simp] theorem zg {k j:IntKind}{a b:Int}(h:0≤b):aV .shl (.d (.int k a)) (.d (.int j b))=some (.int k (wr k (a*((2 ^ (min b.toNat k.bits):Nat):Int)))):=lR (ahn h)
@[simp] theorem fJ {k j:IntKind}{a b:Int}(h:0≤b):aV .shr (.d (.int k a)) (.d (.int j b))=some (.int k (a.fdiv ((2 ^ (min b.toNat k.bits):Nat):Int))):=lR (agT h)
@[simp] theorem anu {a b:List UInt8}:aV .eql (.d (.str a)) (.d (.str b))=if a=b then some (.bool true) else some (.bool false):=sG aed
@[simp] theorem Zz {a b:List UInt8}(h:a.length+b.length≤4294967296):aV .add (.d (.str a)) (.d (.str b))=some (.str (a++b)):=lR (ae5 h)
theorem acn {k:IntKind}{a b:Nat}(h:a<pq k) (h2:b<pq k):aV .and (.d (.int k (a:Int))) (.d (.int k (b:Int)))=some (.int k ((a &&& b:Nat):Int)):=lR (af7 h h2)
@[simp] theorem aoe {b:Bool}:OT .not (.d (.bool b))=some (.bool !b):=(rfl)
@[simp] theorem aoc {k:IntKind}{n:Int}:OT .neg (.d (.int k n))=some (.int k (wr k (0-n))):=(rfl)
@[simp] theorem anF {k j:IntKind}{n:Int}:Pl k (.d (.int j n))=some (.int k (wr k n)):=(rfl)
attribute [simp] abY aj9 ahY aiw ajb
attribute [simp] aek ad5 acY ac8 IntKind.bits
@[simp] theorem anD {h:ac}{m:Nat}{xs:List (List D)}{k:IntKind}{i:Int}(h0:0≤i):fo h m (.d (.lst xs)) (.d (.int k i))=bA xs[i.toNat]? fun x=>if x.length=m then some (.pim x 0) else none:=by
 simp only[fo,Se h0,elems]
 cases xs[i.toNat]? with
 | none=>rfl
 | some x =>
  simp only[bA]
  by_cases hx:x.length=m
  ·simp[hx]
  ·simp[hx,X4]
attribute [simp] aen aeR acH
@[simp] theorem anJ {h:ac}{n:Option Nat}{cs:List D}{o:Nat}:bc h n (.pim cs o)=gW n cs o:=by
 simp only[bc,loadAt];cases gW n cs o<;>rfl
@[simp] theorem am3 {cs:List D}{o:Nat}:gW none cs o=(cs[o]?).map .d:=by simp only[gW];cases cs[o]?<;>rfl
@[simp] theorem amB {cs:List D}{n o:Nat}:gW (some n) cs o=if o+n≤cs.length then some (.agg ((sub cs o n).map .d)) else none:=by
 by_cases h:o+n≤cs.length<;>simp[gW,SG,h]
@[simp] theorem gq0 {α:Type}{x:α}{r:List α}:(x::r)[0]?=some x:=(rfl)
@[simp] theorem alX {f:FuncId}{vs:List AV}{h:ac}:aU (Dn P) f vs h=bA (viewArgs h vs) fun ds=>bA (aW P f ds) fun v=>if vs.any kA=false then some v else if eG v=true then some v else some (xE v):=by
 simp only[aU,aW,r7,bA]
 cases viewArgs h vs with
 | none=>rfl
 | some ds =>
  simp only
  cases (Dn P).call f ds ⟨[],0⟩ with
  | none=>rfl
  | some q =>
   obtain⟨v,h2⟩:=q
   simp only
   cases fC h2.heap v with
   | none=>rfl
   | some v =>
    simp only
    cases vs.any kA with
    | false=>rfl
    | true=>simp only;cases eG v<;>rfl
@[simp] theorem anv {x:D}:share (.d x)=.d x:=(rfl)
@[simp] theorem amA  : share (.nl)=.nl:=(rfl)
@[simp] theorem aj4 {m:Nat}{xs:List (List D)}:share (.own false m xs)=.d (.lst xs):=(rfl)
@[simp] theorem akY {cs:List AV}:share (.agg cs)=.agg (aB cs):=(rfl)
@[simp] theorem alq {cs:List AV}:share (.tup cs)=.tup (aB cs):=(rfl)
@[simp] theorem alj {a b:Nat}:share (.ptr a b)=.ptr a b:=(rfl)
@[simp] theorem akZ {a b c:Nat}:share (.pel a b c)=.pel a b c:=(rfl)
@[simp] theorem alo {cs:List D}{b:Nat}:share (.pim cs b)=.pim cs b:=(rfl)
@[simp] theorem amF {a b c:Nat}:share (.sl a b c)=.sl a b c:=(rfl)
@[simp] theorem am4 {f:FuncId}{a b:List AV}:share (.fn f a b)=.fn f a b:=(rfl)
@[simp] theorem ajn {n:Nat}:share (.yield n)=.yield n:=(rfl)
@[simp] theorem ajP  : aB []=[]:=(rfl)
@[simp] theorem akz {v:AV}{r:List AV}:aB (v::r)=share v::aB r:=(by rw[iD])
@[simp] theorem anX {x:D}:gy (.d x)=.d x:=(rfl)
@[simp] theorem an4 {x:D}:sP (.d x)=.d x:=(rfl)
@[simp] theorem anq {x:D}:AV.cells (.d x)=[.d x]:=(rfl)
@[simp] theorem amy {x:D}:tz (.d x)=cy (.d x):=(rfl)
@[simp] theorem aoS {x:D}:nC (.d x)=false:=(rfl)
@[simp] theorem anL {x:D}:kA (.d x)=false:=(rfl)
@[simp] theorem ank {x:D}:gS (.d x)=.d x:=(rfl)
@[simp] theorem amp {x:D}:iI (.d x)=.d x:=(rfl)
@[simp] theorem amL {x:D}:iM (.d x)=.d x:=(rfl)
@[simp] theorem anj  : gy (.nl)=.nl:=(rfl)
@[simp] theorem amZ  : sP (.nl)=.nl:=(rfl)
@[simp] theorem amt  : AV.cells (.nl)=[.nl]:=(rfl)
@[simp] theorem al2  : kA (.nl)=false:=(rfl)
@[simp] theorem akX  : jh (.nl)=true:=(rfl)
@[simp] theorem alk  : iI (.nl)=.nl:=(rfl)
@[simp] theorem akV {p:Bool}{m:Nat}{xs:List (List D)}:gy (.own p m xs)=.own false m xs:=(rfl)
@[simp] theorem aly {p:Bool}{m:Nat}{xs:List (List D)}:sP (.own p m xs)=.own false m xs:=(rfl)
@[simp] theorem alx {p:Bool}{m:Nat}{xs:List (List D)}:AV.cells (.own p m xs)=[.own p m xs]:=(rfl)
@[simp] theorem amW {p:Bool}{m:Nat}{xs:List (List D)}:nC (.own p m xs)=false:=(rfl)
@[simp] theorem alI {p:Bool}{m:Nat}{xs:List (List D)}:kA (.own p m xs)=false:=(rfl)
@[simp] theorem alK {cs:List AV}:sP (.agg cs)=.agg (cs.map gy):=(rfl)
@[simp] theorem alP {cs:List AV}:AV.cells (.agg cs)=cs:=(rfl)
@[simp] theorem alt {cs:List AV}:kA (.agg cs)=cs.any nC:=(rfl)
@[simp] theorem akU {a b:Nat}:AV.cells (.ptr a b)=[.ptr a b]:=(rfl)
@[simp] theorem alO {a b:Nat}:oN (.ptr a b)=some (.ptr a b):=(rfl)
@[simp] theorem anl {a b c:Nat}:gy (.sl a b c)=.sl a b c:=(rfl)
@[simp] theorem amh {a b c:Nat}:AV.cells (.sl a b c)=[.sl a b c]:=(rfl)
@[simp] theorem ak6 {a b c:Nat}:tz (.sl a b c)=cy (.sl a b c):=(rfl)
@[simp] theorem amc {f:FuncId}{a b:List AV}:AV.cells (.fn f a b)=[.fn f a b]:=(rfl)
@[simp] theorem ak2 {xs:List (List D)}:lenOf (.d (.lst xs))=some xs.length:=(rfl)
@[simp] theorem ams  : lenOf .nl=some 0:=(rfl)
@[simp] theorem alF {p:Bool}{m:Nat}{xs:List (List D)}:lenOf (.own p m xs)=some xs.length:=(rfl)
@[simp] theorem anf {a b n:Nat}:lenOf (.sl a b n)=some n:=(rfl)
@[simp] theorem ac4 {h:ac}{xs:List (List D)}:elems h (.d (.lst xs))=some xs:=(rfl)
@[simp] theorem ak7 {h:ac}{m:Nat}{xs:List (List D)}:elems h (.own false m xs)=some xs:=(rfl)
@[simp] theorem akN {o a b:Nat}:bM o (.ptr a b)=some (.ptr a (b+o)):=(rfl)
@[simp] theorem ajN {o b:Nat}{cs:List D}:bM o (.pim cs b)=some (.pim cs (b+o)):=(rfl)
@[simp] theorem apc {cs:List AV}{i:Nat}:fu true (.tup cs) i=cs[i]?:=(by simp only[fu];cases cs[i]?<;>rfl)
@[simp] theorem aoB {cs:List AV}{i:Nat}:fu false (.tup cs) i=(cs[i]?).map share:=(by simp only[fu];cases cs[i]?<;>rfl)
@[simp] theorem ao3 {cs:List AV}{i:Nat}:jf (.tup cs) i=.tup (cs.set i .junk):=(rfl)
@[simp] theorem apA {x:D}:sX (.d x)=some x:=(rfl)
@[simp] theorem aok  : sX .nl=some (.lst []):=(rfl)
@[simp] theorem anI {m:Nat}{xs:List (List D)}:sX (.own false m xs)=some (.lst xs):=(rfl)
@[simp] theorem aoC  : ge []=some []:=(rfl)
@[simp] theorem aoK {v:AV}{r:List AV}:ge (v::r)=bA (sX v) fun x=>bA (ge r) fun xs=>some (x::xs):=(by
 simp only[ge]
 cases sX v with
 | none=>rfl
 | some q=>simp only[bA];cases ge r<;>rfl)
@[simp] theorem ak8 {m:Nat}:dh m []=some []:=(rfl)
@[simp] theorem alp {m:Nat}{v:AV}{r:List AV}:dh m (v::r)=if v.cells.length=m then bA (ge v.cells) fun x=>bA (dh m r) fun xs=>some (x::xs) else none:=(by
 by_cases h:v.cells.length=m
 ·simp only[dh,X4,h,decide_true,if_true]
  cases ge v.cells with
  | none=>rfl
  | some q=>simp only[bA];cases dh m r<;>rfl
 ·simp only[dh,X4,h,decide_false,if_false])
@[simp] theorem ajl {cs:List AV}:dl cs []=some cs:=(rfl)
@[simp] theorem ajg {cs:List AV}{o n:Nat}{v:AV}{r:List (Nat×Nat×AV)}:dl cs ((o,n,v)::r)=if v.cells.length=n∧tz v=true∧o+n≤cs.length then dl (aj cs o v.cells) r else none:=(by
 simp only[dl,X4,SG]
 by_cases h:v.cells.length=n<;>by_cases h2:tz v=true<;>by_cases h3:o+n≤cs.length<;>simp[h,h2,h3])
theorem B8 {α:Type}{cs vs:List α}{o:Nat}:aj cs o vs=cs.take o++vs++cs.drop (o+vs.length):=(rfl)
attribute [simp] B8
theorem aal {α:Type}{cs:List α}{o n:Nat}:sub cs o n=(cs.drop o).take n:=(rfl)
attribute [simp] aal
@[simp] theorem ald {h:ac}{x:D}:viewOne h (.d x)=some (.d x):=(rfl)
@[simp] theorem akP {h:ac}:viewOne h .nl=some .nl:=(rfl)
@[simp] theorem ajk {h:ac}{m:Nat}{xs:List (List D)}:viewOne h (.own false m xs)=some (.d (.lst xs)):=(rfl)
@[simp] theorem alv {h:ac}:viewAll h []=some []:=(rfl)
@[simp] theorem alN {h:ac}{v:AV}{r:List AV}:viewAll h (v::r)=bA (viewOne h v) fun x=>bA (viewAll h r) fun xs=>some (x::xs):=(by
 simp only[viewAll]
 cases viewOne h v with
 | none=>rfl
 | some q=>simp only[bA];cases viewAll h r<;>rfl)
@[simp] theorem alw {h:ac}{x:D}:viewArg h (.d x)=viewOne h (.d x):=(rfl)
@[simp] theorem akp {h:ac}  : viewArg h (.nl)=viewOne h (.nl):=(rfl)
@[simp] theorem ajj {h:ac}{p:Bool}{m:Nat}{xs:List (List D)}:viewArg h (.own p m xs)=viewOne h (.own p m xs):=(rfl)
@[simp] theorem ajo {h:ac}{cs:List AV}:viewArg h (.agg cs)=bA (viewAll h cs) fun xs=>some (.agg xs):=(by simp only[viewArg];cases viewAll h cs<;>rfl)
@[simp] theorem akq {h:ac}:viewArgs h []=some []:=(rfl)
@[simp] theorem ajR {h:ac}{v:AV}{r:List AV}:viewArgs h (v::r)=bA (viewArg h v) fun x=>bA (viewArgs h r) fun xs=>some (x::xs):=(by
 simp only[viewArgs]
 cases viewArg h v with
 | none=>rfl
 | some q=>simp only[bA];cases viewArgs h r<;>rfl)
@[simp] theorem amP {h:ac}{x:D}:fe h (.d x)=some (.d x,h):=(rfl)
@[simp] theorem alr {h:ac}:fe h .nl=some (.nl,h):=(rfl)
@[simp] theorem aj0 {h:ac}{p:Bool}{m:Nat}{xs:List (List D)}:fe h (.own p m xs)=some (.own p m xs,h):=(rfl)
@[simp] theorem al9 {h:ac}:js h []=some ([],h):=(rfl)
@[simp] theorem amS {h:ac}{v:AV}{r:List AV}:js h (v::r)=bP (fe h v) fun x h=>bP (js h r) fun xs h=>some (x::xs,h):=(by simp only[js];cases fe h v with
 | none=>rfl
 | some q=>simp only[bP];cases js q.2 r<;>rfl)
@[simp] theorem aku {h:ac}{cs:List AV}:d8 h (.agg cs)=bP (js h cs) fun xs h=>some (.agg xs,h):=(by simp only[d8];cases js h cs<;>rfl)
@[simp] theorem amI {h:ac}{x:D}:d8 h (.d x)=fe h (.d x):=(rfl)
@[simp] theorem akW {h:ac}  : d8 h (.nl)=fe h (.nl):=(rfl)
@[simp] theorem ajy {h:ac}{p:Bool}{m:Nat}{xs:List (List D)}:d8 h (.own p m xs)=fe h (.own p m xs):=(rfl)
@[simp] theorem ak1 {h:ac}:jl h []=some ([],h):=(rfl)
@[simp] theorem alM {h:ac}{v:AV}{r:List AV}:jl h (v::r)=bP (d8 h v) fun x h=>bP (jl h r) fun xs h=>some (x::xs,h):=(by simp only[jl];cases d8 h v with
 | none=>rfl
 | some q=>simp only[bP];cases jl q.2 r<;>rfl)
@[simp] theorem akR {h:ac}{cs:List AV}:fC h (.tup cs)=bP (jl h cs) fun xs _=>some (dY (.tup xs)):=(by simp only[fC];cases jl h cs<;>rfl)
@[simp] theorem amN {h:ac}{x:D}:fC h (.d x)=bP (d8 h (.d x)) fun x _=>some (dY x):=(by simp only[fC];cases d8 h (.d x)<;>rfl)
@[simp] theorem ajE {h:ac}{p:Bool}{m:Nat}{xs:List (List D)}:fC h (.own p m xs)=bP (d8 h (.own p m xs)) fun x _=>some (dY x):=(by simp only[fC];cases d8 h (.own p m xs)<;>rfl)
@[simp] theorem ajt {h:ac}{cs:List AV}:fC h (.agg cs)=bP (d8 h (.agg cs)) fun x _=>some (dY x):=(by simp only[fC];cases d8 h (.agg cs)<;>rfl)
@[simp] theorem alE {v:AV}:dY v=if eG v=true then iM v else v:=(by simp only[dY];cases eG v<;>rfl)
@[simp] theorem al3 {x:D}:gj (.d x)=kF x:=(rfl)
@[simp] theorem aln {k:IntKind}{n:Int}:kF (.int k n)=true:=(rfl)
@[simp] theorem akd {b:Bool}:kF (.bool b)=true:=(rfl)
@[simp] theorem ajT {cs:List AV}:jh (.agg cs)=cs.all gj:=(rfl)
@[simp] theorem am9 {x:D}:jh (.d x)=kF x:=(rfl)
@[simp] theorem ajK {cs:List AV}:eG (.agg cs)=cs.all gj:=(rfl)
@[simp] theorem ano {x:D}:eG (.d x)=kF x:=(rfl)
@[simp] theorem akO {cs:List AV}:eG (.tup cs)=cs.all jh:=(rfl)
@[simp] theorem aj7 {p:Bool}{m:Nat}{xs:List (List D)}:gS (.own p m xs)=.own true m xs:=(rfl)
@[simp] theorem aka {p:Bool}{m:Nat}{xs:List (List D)}:iI (.own p m xs)=.own true m xs:=(rfl)
@[simp] theorem ajA {p:Bool}{m:Nat}{xs:List (List D)}:iM (.own p m xs)=.own true m xs:=(rfl)
@[simp] theorem ajB {cs:List AV}:iI (.agg cs)=.agg (cs.map gS):=(rfl)
@[simp] theorem akv {cs:List AV}:iM (.agg cs)=.agg (cs.map gS):=(rfl)
@[simp] theorem aj5 {cs:List AV}:iM (.tup cs)=.tup (cs.map iI):=(rfl)
@[simp] theorem anS {i:Nat}:dK i []=[]:=(rfl)
@[simp] theorem aob {i:Nat}{v:AV}{r:List AV}:dK i (v::r)=(i,v)::dK (i+1) r:=by
 have h:∀ (i:Nat) (r:List AV),put (dK (i+1) r) i v=(i,v)::dK (i+1) r:=fun i r=>by
  have:∃ q,dK (i+1) r=q∧∀ p∈q,Nat.blt i p.1=true:=⟨_,rfl,by
   have aux:∀ (r:List AV) (j:Nat),i<j→∀ p∈dK j r,Nat.blt i p.1=true:=by
    intro r
    induction r with
    | nil=>intro j hj p hp;simp[dK]at hp
    | cons w r ih =>
     intro j hj p hp
     simp only[dK]at hp
     rcases SM hp with rfl | hp
     ·rw[Nat.blt,Nat.ble_eq];exact hj
     ·exact ih (j+1) (by omega) p hp
   exact aux r (i+1) (by omega)⟩
  obtain⟨q,hq,hp⟩:=this
  rw[hq]
  cases q with
  | nil=>rfl
  | cons p q =>
   obtain⟨k,u⟩:=p
   have hk:i<k:=by have:=hp _ (.head _);rw[Nat.blt,Nat.ble_eq]at this;exact this
   rw[jF,if_neg (by omega),if_pos (by omega)]
 exact h i r
@[simp] theorem ala {st:St}:co st []=some ([],st):=(rfl)
def adS (x:Option AV) (t:Nat) (st:St) (r:List kj):Option (List AV×St) :=
 match x with
 | some v=>bP (co ⟨del st.env t,st.hs⟩ r) fun vs st=>some (v::vs,st)
 | none=>none
@[simp] theorem ak9 {t:Nat}{st:St}{r:List kj}:co st (.tmp t::r)=adS (get st.env t) t st r:=(by
 simp only[co,adS]
 cases get st.env t with
 | none=>rfl
 | some v=>simp only;cases co ⟨del st.env t,st.hs⟩ r<;>rfl)
@[simp] theorem ao6 {v:AV}{t:Nat}{e:am}{hs:HS}{r:List kj}:adS (some v) t ⟨e,hs⟩ r=bP (co ⟨del e t,hs⟩ r) fun vs st=>some (v::vs,st):=(rfl)
def aet (x:Option AV) (t:Nat) (n:Option Nat) (st:St) (r:List kj):Option (List AV×St) :=
 match x with
 | some (.ptr id 0)=>bP (loadAt st.hs.heap n 1 (.ptr id 0)) fun v h=>bP (co ⟨del st.env t,⟨del h id,st.hs.next⟩⟩ r) fun vs st=>some (v::vs,st)
 | _=>none
@[simp] theorem alD {t:Nat}{n:Option Nat}{st:St}{r:List kj}:co st (.cell t n::r)=aet (get st.env t) t n st r:=(by
 simp only[co,aet]
 cases get st.env t with
 | none=>rfl
 | some v =>
  cases v<;>try rfl
  rename_i id off
  cases off with
  | succ k=>rfl
  | zero =>
   simp only
   cases loadAt st.hs.heap n 1 (.ptr id 0) with
   | none=>rfl
   | some q=>simp only[bP];cases co _ r<;>rfl)
@[simp] theorem apd {id t:Nat}{n:Option Nat}{e:am}{hs:HS}{r:List kj}:aet (some (.ptr id 0)) t n ⟨e,hs⟩ r=bP (loadAt hs.heap n 1 (.ptr id 0)) fun v h=>bP (co ⟨del e t,⟨del h id,hs.next⟩⟩ r) fun vs st=>some (v::vs,st):=(rfl)
theorem adj {l:List Int}:((aP l).all fun e=>e.all kF)=true:=by simp[aP]
theorem abZ {l:List Nat}:((ah l).all fun e=>e.all kF)=true:=by simp[ah]
theorem aaj {l:List Bool}:((F1 l).all fun e=>e.all kF)=true:=by simp[F1]
attribute [simp] adj abZ aaj
attribute [simp] ack
attribute [simp] ai2 aij ahU aif
end Go.Vm
namespace Go.Vm
variable {P:Nat→Option af}
inductive R (α:Type) where
 | ok (v:α) (n:Nat)
 | er (e:Nat)
open Classical in
def rK {α γ:Type}(p:α→Nat→Prop) (r:R α) (f:α→Nat→γ) (g:Nat→γ):γ :=
 match r with
 | .ok v n=>if p v n then f v n else g 0
 | .er e=>g e
theorem akf {α γ:Type}{p q:α→Nat→Prop}{r:R α}{f f2:α→Nat→γ}{g g2:Nat→γ}(hp:∀ v n,p v n=q v n) (h:∀ v n,q v n→f v n=f2 v n) (k:∀ e,g e=g2 e):rK p r f g=rK q r f2 g2:=by
 have:p=q:=funext fun v=>funext fun n=>hp v n
 subst this
 cases r with
 | ok v n =>
  simp only[rK]
  split
  ·exact h _ _ ‹_›
  ·exact k 0
 | er e=>exact k e
attribute [congr] akf
theorem ab2 {α γ δ:Type}{p:α→Nat→Prop}{r:R α}{f:α→Nat→γ}{g:Nat→γ}(k:γ→δ):k (rK p r f g)=rK p r (fun v n=>k (f v n)) fun e=>k (g e):=by
 cases r with
 | ok v n=>simp only[rK];split<;>rfl
 | er e=>rfl
section
variable {α:Type}{p:α→Nat→Prop}{r:R α}
end
theorem afC {α:Type}{a b:Prop}[Decidable a] [Decidable b] {x y:α}(h:b↔¬ a):(if a then x else y)=if b then y else x:=by
 by_cases ha:a
 ·rw[if_pos ha,if_neg (fun hb=>h.1 hb ha)]
 ·rw[if_neg ha,if_pos (h.2 ha)]
theorem abu {α:Type}{a b:Prop}[Decidable a] [Decidable b] {x y:α}(h:a↔b):(if a then x else y)=if b then x else y:=by
 by_cases ha:a
 ·rw[if_pos ha,if_pos (h.1 ha)]
 ·rw[if_neg ha,if_neg (fun hb=>ha (h.2 hb))]
def cellsOf:Obj→Option (List AV)
 | .cells cs=>some cs
 | _=>none
def aa8:Obj→Option (List (List D))
 | .arr _ xs=>some xs
 | _=>none
@[simp ↓] theorem alB {cs:List AV}:cellsOf (.cells cs)=some cs:=(rfl)
@[simp ↓] theorem aog {m:Nat}{xs:List (List D)}:aa8 (.arr m xs)=some xs:=(rfl)
@[simp] theorem an0 {h:ac}{id off:Nat}:bc h none (.ptr id off)=bA (get h id) fun o=>bA (cellsOf o) fun cs=>bA cs[off]? fun v=>some (share v):=by
 simp only[bc,loadAt]
 cases get h id with
 | none=>rfl
 | some o =>
  cases o<;>try rfl
  rename_i cs
  simp only[bA,cellsOf]
  cases cs[off]?<;>rfl
@[simp] theorem alZ {h:ac}{id off n:Nat}:bc h (some n) (.ptr id off)=bA (get h id) fun o=>bA (cellsOf o) fun cs=>dt (Nat.ble (off+n) cs.length) (some (.agg (aB (sub cs off n)))):=by
 simp only[bc,loadAt]
 cases get h id with
 | none=>rfl
 | some o =>
  cases o<;>try rfl
  rename_i cs
  simp only[bA,cellsOf]
  cases Nat.ble (off+n) cs.length<;>rfl
@[simp] theorem ajC {h:ac}{id off t:Nat}:loadAt h none (t+1) (.ptr id off)=bA (get h id) fun o=>bA (cellsOf o) fun cs=>bA cs[off]? fun v=>some ((iW (t+1) v).1,put h id (.cells (cs.set off (iW (t+1) v).2))):=by
 simp only[loadAt]
 cases get h id with
 | none=>rfl
 | some o =>
  cases o<;>try rfl
  rename_i cs
  simp only[bA,cellsOf]
  cases cs[off]?<;>rfl
@[simp] theorem ajq {h:ac}{id off n t:Nat}:loadAt h (some n) (t+1) (.ptr id off)=bA (get h id) fun o=>bA (cellsOf o) fun cs=>dt (Nat.ble (off+n) cs.length) (some (.agg (bZ (t+1) (sub cs off n)).1,put h id (.cells (aj cs off (bZ (t+1) (sub cs off n)).2)))):=by
 simp only[loadAt]
 cases get h id with
 | none=>rfl
 | some o =>
  cases o<;>try rfl
@[simp] theorem ajh {h:ac}{id off n:Nat}{x:AV}:storeAt h n (.ptr id off) x=dt (Nat.beq x.cells.length n) (bA (get h id) fun o=>bA (cellsOf o) fun cs=>dt (Nat.ble (off+n) cs.length && x.cells.all cy) (some (put h id (.cells (aj cs off x.cells))))):=by
 simp only[storeAt]
 cases Nat.beq x.cells.length n with
 | false=>rfl
 | true =>
  simp only[dt]
  cases get h id with
  | none=>rfl
  | some o =>
   cases o<;>try rfl
@[simp ↓] theorem QR {β:Type}{a b:Nat}{x:Option β}:dt (Nat.ble a b) x=if a≤b then x else none:=by
 rw[SG];by_cases h:a≤b<;>simp[h]
@[simp ↓] theorem ZE {β:Type}{a b:Nat}{x:Option β}:dt (Nat.beq a b) x=if a=b then x else none:=by
 rw[X4];by_cases h:a=b<;>simp[h]
@[simp ↓] theorem Zx {β:Type}{a b:Bool}{x:Option β}:dt (a && b) x=dt a (dt b x):=by
 cases a<;>cases b<;>rfl
attribute [simp] iW bZ sub aj cy
def scK (P:Nat→Option af) (a:VC) (x:Option (aT×St)):Option (aT×St) :=
 match x with
 | some (.goto l,st)=>match ja a l with
  | some rest=>(Dn P).code (.inScope a rest) st
  | none=>some (.goto l,st)
 | x=>x
@[simp ↓] theorem akC {a:VC}{st:St}:(Dn P).code (.scope a) st=(Dn P).code (.inScope a a) st:=by rw[dM];rfl
theorem af4 {a c:VC}{st:St}:(Dn P).code (.inScope a c) st=scK P a ((Dn P).code c st):=by
 rw[dM];rfl
@[simp ↓] theorem apF {a:VC}{st:St}:scK P a (some (.ret,st))=some (.ret,st):=(rfl)
theorem ahN {a:VC}{x y:Option (aT×St)}(h:x=y):scK P a x=scK P a y:=by rw[h]
attribute [congr] ahN
theorem z6 {f:FuncId}{args:List AV}{v:AV}(n:Nat) (h:r7 ((run P n).call f args ⟨[],0⟩)=some v):aW P f args=some v:=by
 cases hx:(run P n).call f args ⟨[],0⟩ with
 | none=>rw[hx]at h;simp[r7]at h
 | some q=>rw[hx]at h;rw[aW,Jm hx,h]
theorem wj {α:Type}{f:FuncId}{a:α→List AV}{v:α→AV}(n:Nat) (l:List α) (h:(l.map fun x=>r7 ((run P n).call f (a x) ⟨[],0⟩))=l.map fun x=>some (v x)) (x:α) (hx:x∈l):aW P f (a x)=some (v x) :=
 z6 n (List.map_inj_left.1 h x hx)
def bm (l:List Nat):List (List D):=l.map fun n=>[.int .i64 (n:Nat)]
@[simp] theorem amn {l:List Nat}:(bm l).length=l.length:=by simp[bm]
@[simp] theorem BZ {l:List Nat}{i:Nat}(h:i<l.length):(bm l)[i]?=some [.int .i64 (nth l i:Nat)]:=by simp[bm,oA h]
@[simp high] theorem ajr {p:Bool}{m:Nat}{l:List Nat}:gj (.own p m (bm l))=true:=by simp[gj,bm,kF]
@[simp high] theorem Id {p:Bool}{m:Nat}{l:List Nat}:gj (.own p m (ah l))=true:=by simp[gj,ah,kF]
@[simp high] theorem ajp {p:Bool}{m:Nat}{l:List Nat}:jh (.own p m (ah l))=true:=Id (p:=p) (m:=m)
@[simp high] theorem ajs {p:Bool}{m:Nat}{l:List Nat}:eG (.own p m (ah l))=true:=Id (p:=p) (m:=m)
@[simp] theorem alf {a:List Int}{x:Int}:aP a++[[.int .i64 x]]=aP (a++[x]):=by simp[aP]
@[simp] theorem Xu {a b:List Nat}:ah a++ah b=ah (a++b):=by simp[ah]
@[simp] theorem alJ {a:List Nat}{x:Nat}:ah a++[[.int .u8 (x:Int)]]=ah (a++[x]):=by simp[ah]
@[simp] theorem aoR {k:IntKind}{a b:Int}:At true [.d (.int k a),.d (.int k b)]=if a<b then some (.d (.int k b)) else some (.d (.int k a)):=by
 have:gX k k=true:=by cases k<;>rfl
 simp only[At,mF,vF,this]
 by_cases h:a<b<;>simp[h]
def iaO (o:Obj) (n id j:Nat):Option AV :=
 match o with
 | .arr m _=>dt (Nat.beq m n) (some (.pel id j 0))
 | .cells _=>dt (Nat.beq n 1) (some (.ptr id j))
 | _=>none
@[simp ↓] theorem apq {m n id j:Nat}{xs:List (List D)}:iaO (.arr m xs) n id j=dt (Nat.beq m n) (some (.pel id j 0)):=(rfl)
@[simp ↓] theorem apI {n id j:Nat}{cs:List AV}:iaO (.cells cs) n id j=dt (Nat.beq n 1) (some (.ptr id j)):=(rfl)
@[simp] theorem apu {h:ac}{n id off len:Nat}{k:IntKind}{i:Int}(h0:0≤i) (h1:i.toNat<len):fo h n (.sl id off len) (.d (.int k i))=bA (get h id) fun o=>iaO o n id (off+i.toNat):=by
 have:Nat.ble len i.toNat=false:=by rw[SG];simp;omega
 simp only[fo,Se h0,this]
 cases get h id with
 | none=>rfl
 | some o =>
  cases o with
  | cells cs=>simp only[bA,iaO];cases Nat.beq n 1<;>rfl
  | arr m xs=>simp only[bA,iaO];cases Nat.beq m n<;>rfl
  | loop=>rfl
@[simp] theorem an3 {h:ac}{id i off:Nat}{n:Option Nat}:bc h n (.pel id i off)=bA (get h id) fun o=>bA (aa8 o) fun xs=>bA xs[i]? fun x=>gW n x off:=by
 simp only[bc,loadAt]
 cases get h id with
 | none=>rfl
 | some o =>
  cases o<;>try rfl
  rename_i m xs
  simp only[bA,aa8]
  cases xs[i]? with
  | none=>rfl
  | some x=>simp only;cases gW n x off<;>rfl
def stO (o:Obj) (h:ac) (n id i off:Nat) (ds:List D):Option ac :=
 match o with
 | .arr m xs=>bA xs[i]? fun e=>dt (Nat.ble (off+n) e.length) (some (put h id (.arr m (xs.set i (aj e off ds)))))
 | _=>none
@[simp ↓] theorem ape {h:ac}{m n id i off:Nat}{ds:List D}{xs:List (List D)}:stO (.arr m xs) h n id i off ds=bA xs[i]? fun e=>dt (Nat.ble (off+n) e.length) (some (put h id (.arr m (xs.set i (aj e off ds))))):=(rfl)
@[simp] theorem ajm {h:ac}{id i off n:Nat}{x:AV}:storeAt h n (.pel id i off) x=dt (Nat.beq x.cells.length n) (bA (ge x.cells) fun ds=>bA (get h id) fun o=>stO o h n id i off ds):=by
 simp only[storeAt]
 cases Nat.beq x.cells.length n with
 | false=>rfl
 | true =>
  simp only[dt]
  cases ge x.cells with
  | none=>rfl
  | some ds =>
   simp only[bA]
   cases get h id with
   | none=>rfl
   | some o =>
    cases o<;>try rfl
    rename_i m xs
    simp only[stO]
    cases xs[i]? with
    | none=>rfl
    | some e=>simp only[bA];cases Nat.ble (off+n) e.length<;>rfl
@[simp] theorem adg {l:List Int}{i:Nat}:(aP l).take i=aP (l.take i):=by simp[aP]
@[simp] theorem acS {l:List Int}{i:Nat}:(aP l).drop i=aP (l.drop i):=by simp[aP]
@[simp] theorem alG {l:List Nat}{i:Nat}:(bm l).take i=bm (l.take i):=by simp[bm]
@[simp] theorem ak3 {l:List Nat}{i:Nat}:(ah l).drop i=ah (l.drop i):=by simp[ah]
@[simp] theorem amd {l:List Nat}{i:Nat}{x:Nat}:(bm l).set i [.int .i64 (x:Int)]=bm (l.set i x):=by simp[bm,List.map_set]
attribute [simp] Er
@[simp] theorem aoI {m:Nat}{h:ac}{a b:AV}:DO m h a b=bA (elems h b) fun ys=>dt (cX m ys) (bK m h a ys):=by
 simp only[DO]
 cases elems h b with
 | none=>rfl
 | some ys=>simp only[bA];cases cX m ys<;>rfl
@[simp] theorem ZG {m k:Nat}{p:Bool}{h:ac}{xs ys:List (List D)}:bK m h (.own p k xs) ys=dt (Nat.ble ys.length aD) (dt (Nat.beq k m && Nat.ble (xs.length+ys.length) aD) (some (.own false m (xs++ys),h))):=by
 simp only[bK]
 cases Nat.ble ys.length aD with
 | false=>rfl
 | true=>simp only[dt];cases Nat.beq k m && Nat.ble (xs.length+ys.length) aD<;>rfl
@[simp] theorem ag3 {m:Nat}{h:ac}{y:List D}{r:List (List D)}:bK m h .nl (y::r)=dt (Nat.ble (r.length+1) aD) (some (.own true m (y::r),h)):=by
 simp only[bK,List.length_cons]
 cases Nat.ble (r.length+1) aD<;>rfl
def aev (o:Obj) (m:Nat) (h:ac) (id off len:Nat) (ys:List (List D)):Option (AV×ac) :=
 match o with
 | .arr k xs=>dt (Nat.beq k m && Nat.ble (off+len) xs.length && Nat.ble (len+ys.length) aD) (some (.own true m (sub xs off len++ys),del h id))
 | _=>none
@[simp ↓] theorem apa {k m id off len:Nat}{h:ac}{xs ys:List (List D)}:aev (.arr k xs) m h id off len ys=dt (Nat.beq k m && Nat.ble (off+len) xs.length && Nat.ble (len+ys.length) aD) (some (.own true m (sub xs off len++ys),del h id)):=(rfl)
@[simp] theorem aol {m id off len:Nat}{h:ac}{ys:List (List D)}:bK m h (.sl id off len) ys=dt (Nat.ble ys.length aD) (bA (get h id) fun o=>aev o m h id off len ys):=by
 simp only[bK]
 cases Nat.ble ys.length aD with
 | false=>rfl
 | true =>
  simp only[dt]
  cases get h id with
  | none=>rfl
  | some o =>
   cases o with
   | arr k xs=>simp only[bA,aev];cases Nat.beq k m && Nat.ble (off+len) xs.length && Nat.ble (len+ys.length) aD<;>rfl
   | cells cs=>rfl
   | loop=>rfl
attribute [simp] aD
theorem ZO {α:Type}{f:α→D}:∀ {l:List α},cX 1 (l.map fun x=>[f x])=true
 | []=>rfl
 | x::r=>by simp only[List.map_cons,cX,List.length_cons,List.length_nil];exact ZO
@[simp] theorem alW {l:List Nat}:cX 1 (ah l)=true:=ZO
@[simp] theorem apy {m:Nat}:cX m []=true:=(rfl)
@[simp] theorem apf {m:Nat}{x:List D}{r:List (List D)}:cX m (x::r)=(Nat.beq x.length m && cX m r):=by
 simp only[cX];cases Nat.beq x.length m<;>rfl
mutual
theorem XY:∀ d:D,CA d d=true
 | .int k n=>by simp[CA,Ij]
 | .bool b=>by simp[CA]
 | .str s=>by simp[CA]
 | .lst xs=>by rw[CA];exact B0 xs
theorem D7:∀ l:List D,Eq l l=true
 | []=>rfl
 | a::r=>by rw[Eq,XY a,D7 r];rfl
theorem B0:∀ l:List (List D),uB l l=true
 | []=>rfl
 | a::r=>by rw[uB,D7 a,B0 r];rfl
end
mutual
theorem adm:∀ v:AV,dF v v=true
 | .junk=>by simp[dF]
 | .d x=>by simp[dF,XY]
 | .nl=>by simp[dF]
 | .own p m xs=>by simp[dF,B0]
 | .gl n=>by simp[dF]
 | .agg a=>by rw[dF];exact lU a
 | .tup a=>by rw[dF];exact lU a
 | .nilp=>by simp[dF]
 | .ptr a b=>by simp[dF]
 | .pel a b c=>by simp[dF]
 | .pim a b=>by simp[dF,D7]
 | .sl a b c=>by simp[dF]
 | .fn f a c=>by rw[dF,lU a,lU c];simp
 | .nilf=>by simp[dF]
 | .yield a=>by simp[dF]
theorem lU:∀ l:List AV,mY l l=true
 | []=>by rw[mY]
 | a::r=>by rw[mY,adm a,lU r];rfl
end
@[simp] theorem apt {a:List AV}:Wp (.cells a) (.cells a)=true:=by rw[Wp];exact lU a
@[simp] theorem aod {h k:ac}:iQ [] h k=true:=(rfl)
@[simp] theorem an6 {i:Nat}{r:List Nat}{h k:ac}:iQ (i::r) h k=((match get h i with
  | some o=>(match get k i with | some o'=>Wp o o' | none=>false)
  | none=>true) && iQ r h k):=(rfl)
@[simp] theorem anH {h:ac}:eh [] h=[]:=(rfl)
@[simp] theorem anQ {i:Nat}{r:List Nat}{h:ac}:eh (i::r) h=match get h i with
  | some o=>put (eh r h) i o
  | none=>eh r h:=(rfl)
attribute [simp] xP qe Aq
attribute [simp] bv i7 gh gK
end Go.Vm
namespace Go.Vm
variable {P:Nat→Option af}{l:List VI}{e:am}{h:ac}{m d s:Nat}{op:iu}{hs:HS}{β:Type}{k:AV→am→HS→Option β}
abbrev V (d:Nat) (op:iu):VI:=⟨some d,none,op,[]⟩
abbrev N (op:iu):VI:=⟨none,none,op,[]⟩
abbrev W (s d:Nat) (op:iu):VI:=⟨some d,some (s,true),op,[]⟩
abbrev U (s d:Nat) (op:iu):VI:=⟨some d,some (s,false),op,[]⟩
theorem agw {e e2:am}{hs hs2:HS}(h:e=e2) (h2:hs=hs2):i5 P l e hs=i5 P l e2 hs2:=by rw[h,h2]
attribute [congr] agw
@[simp ↓ low] theorem alg {i:VI}:(Dn P).code (.reg false (i::l)) ⟨e,hs⟩=cM (i5 P (i::l) e hs):=te rfl
@[simp ↓ low] theorem alu {i:VI}:(Dn P).code (.reg true (i::l)) ⟨e,hs⟩=cM (i5 P (i::l) e hs):=te rfl
@[simp] theorem aov:i5 P [] e hs=some ⟨e,hs⟩:=(rfl)
@[simp] theorem aoO:i5 P (⟨some d,none,op,[]⟩::l) e hs=aC P op e hs fun v e hs=>i5 P l (put e d (firm v)) hs:=(rfl)
@[simp] theorem aoi:i5 P (⟨none,none,op,[]⟩::l) e hs=aC P op e hs fun _ e hs=>i5 P l e hs:=(rfl)
@[simp] theorem aoA {t:Nat×Nat}{th:List (Nat×Nat)}:i5 P (⟨some d,none,op,t::th⟩::l) e hs=aC P op e hs fun v e hs=>lP (bv (t::th) v hs) fun v hs=>i5 P l (put e d (firm v)) hs:=(rfl)
def wK {β:Type}(a b:Bool) (x y z:Option β):Option β :=
 match a with
 | true=>x
 | false=>match b with
  | true=>y
  | false=>z
@[simp ↓] theorem ap1 {b:Bool}{x y z:Option β}:wK true b x y z=x:=(rfl)
@[simp ↓] theorem apW {x y z:Option β}:wK false true x y z=y:=(rfl)
theorem ajL {a a2 b b2:Bool}{x y z:Option β}(h:a=a2) (h2:b=b2):wK a b x y z=wK a2 b2 x y z:=by rw[h,h2]
attribute [congr] ajL
@[simp] theorem aoH {w:Bool}:i5 P (⟨some d,some (s,w),op,[]⟩::l) e hs=wK (bu op) (tv op)
  (bA (get e s) fun g=>bA (gV g w (aC P op e hs fun v _ _=>some v)) fun v=>i5 P l (put e d (firm v)) hs)
  (bA (get e s) fun g=>bP (gH g w hs (aC P op e hs fun v _ hs=>some (v,hs))) fun v hs=>i5 P l (put e d (firm v)) hs)
  (bA (aS (Dn P) ⟨some d,some (s,w),op,[]⟩ ⟨e,hs⟩) fun st=>i5 P l st.env st.hs):=by
 simp only[i5,TE,wK]
 cases bu op<;>cases tv op<;>(try rfl)<;>(cases get e s<;>rfl)
@[simp] theorem apB {i:Nat}:ax (.s i)=true:=(rfl)
@[simp] theorem apL {a:AV}:ax (.c a)=true:=(rfl)
@[simp] theorem aow:dQ []=true:=(rfl)
@[simp] theorem aoY {x:Rd}{r:List Rd}:dQ (x::r)=(ax x && dQ r):=(rfl)
@[simp] theorem apG:pr none=true:=(rfl)
@[simp] theorem apv {x:Rd}:pr (some x)=ax x:=(rfl)
@[simp] theorem aoT {x:Rd}:bu (.mov x)=ax x:=(rfl)
@[simp] theorem apj {x:Rd}{n:Option Nat}:bu (.ld n 0 x)=ax x:=(rfl)
@[simp] theorem aop {x:Rd}:bu (.nilck x)=ax x:=(rfl)
@[simp] theorem ao1 {x y:Rd}{o:BinOp}:bu (.bin o x y)=(ax x && ax y):=(rfl)
@[simp] theorem an7 {x y:Rd}{o:Bool}:bu (.binb o x y)=(ax x && ax y):=(rfl)
@[simp] theorem apN {x:Rd}{o:UnOp}:bu (.un o x)=ax x:=(rfl)
@[simp] theorem apM {x:Rd}{o:Nat}:bu (.fa o x)=ax x:=(rfl)
@[simp] theorem api {x y:Rd}{o:Nat}:bu (.ia o x y)=(ax x && ax y):=(rfl)
@[simp] theorem anM {x y:Rd}{o n:Nat}:bu (.iarr o n x y)=(ax x && ax y):=(rfl)
@[simp] theorem aoW {x:Rd}:bu (.len x)=ax x:=(rfl)
@[simp] theorem anB {f:FuncId}{xs:List Rd}:bu (.call f xs)=dQ xs:=(rfl)
@[simp] theorem an9 {c x y:Rd}:bu (.pick c x y)=(ax c && ax x && ax y):=(rfl)
@[simp] theorem aom {x:Rd}:bu (.toStr x)=ax x:=(rfl)
@[simp] theorem ant {f:FuncId}{xs ys:List Rd}:bu (.mkfn f xs ys)=(dQ xs && dQ ys):=(rfl)
@[simp] theorem anw {z:List D}{x y:Rd}:bu (.mkslice z x y)=(ax x && ax y):=(rfl)
@[simp] theorem ao5 {m:Nat}{x:Rd}{a b c:Option Rd}:bu (.slice m x a b c)=(ax x && (pr a && (pr b && pr c))):=(rfl)
@[simp] theorem amQ {f:FuncId}{xs:List Rd}:bu (.calli f xs)=false:=(rfl)
@[simp] theorem amK {f:FuncId}{xs:List Rd}:tv (.calli f xs)=dQ xs:=(rfl)
attribute [simp] gL iY
def yr {γ:Type}(c:Prop) [Decidable c] (a b:γ):γ:=if c then a else b
theorem agE {γ:Type}{c d:Prop}[Decidable c] [i:Decidable d] {a b:γ}(h:c=d):yr c a b=@yr γ d i a b:=by subst h;congr
attribute [congr] agE
@[simp ↓] theorem aoE {γ:Type}{i:Decidable True}{a b:γ}:@yr γ True i a b=a:=by simp only[yr,if_true]
@[simp ↓] theorem aoL {γ:Type}{i:Decidable False}{a b:γ}:@yr γ False i a b=b:=by simp only[yr,if_false]
@[simp high] theorem apS {k i:Nat}{v:AV}{r:am}:get ((k,v)::r) i=yr (k=i) (some v) (get r i):=aiB
@[simp high] theorem apY {k i:Nat}{v x:AV}{r:am}:put ((k,v)::r) i x=yr (k=i) ((i,x)::r) (yr (i≤k) ((i,x)::(k,v)::r) ((k,v)::put r i x)):=X7
@[simp high] theorem apZ {k i:Nat}{v:AV}{r:am}:del ((k,v)::r) i=yr (k=i) (del r i) ((k,v)::del r i):=air
variable {f:AV→am→Option β}{x:Rd}
@[simp ↓] theorem apm {i:Nat}:aO e (.s i) f=bA (get e i) fun v=>f (share v) e:=by
 simp only[aO,rd,bA];cases get e i<;>rfl
@[simp ↓] theorem apx {i:Nat}:aO e (.m i) f=bA (get e i) fun v=>f v (del e i):=by
 simp only[aO,rd,bA];cases get e i<;>rfl
@[simp ↓] theorem apk {a:AV}:aO e (.c a) f=f a e:=(rfl)
@[simp ↓] theorem ao7 {f:List AV→am→Option β}:eA e [] f=f [] e:=(rfl)
@[simp ↓] theorem aot {r:List Rd}{f:List AV→am→Option β}:eA e (x::r) f=aO e x fun v e=>eA e r fun vs e=>f (v::vs) e:=(rfl)
@[simp ↓] theorem ao2 {f:Option AV→am→Option β}:fL e none f=f none e:=(rfl)
@[simp ↓] theorem aoz {f:Option AV→am→Option β}:fL e (some x) f=aO e x fun v e=>f (some v) e:=(rfl)
@[simp ↓] theorem an2:aC P (.mov x) e hs k=aO e x fun v e=>k v e hs:=(rfl)
def Ac (e:am):Rd→Option AV
 | .c v=>some v
 | .m i=>get e i
 | .s i=>match get e i with
  | some v=>some (share v)
  | none=>none
def ZF {β:Type}(c:AV) (a b:Rd) (x y:Option AV) (e:am) (hs:HS) (k:AV→am→HS→Option β):Option β :=
 match x,y with
 | some a,some b=>bA (lN c a b) fun v=>k v e hs
 | _,_=>bP (eH (.c c) a b ⟨e,hs⟩) fun v st=>k v st.env st.hs
@[simp ↓] theorem apl {c v w:AV}{a b:Rd}:ZF c a b (some v) (some w) e hs k=bA (lN c v w) fun v=>k v e hs:=(rfl)
theorem ahX {c:AV}{a b:Rd}{x x2 y y2:Option AV}(h:x=x2) (h2:y=y2):ZF c a b x y e hs k=ZF c a b x2 y2 e hs k:=by rw[h,h2]
attribute [congr] ahX
@[simp] theorem aps {v:AV}:Ac e (.c v)=some v:=(rfl)
@[simp] theorem apg {i:Nat}:Ac e (.s i)=bA (get e i) fun v=>some (share v):=by
 simp only[Ac,bA];cases get e i<;>rfl
theorem Xd {c a b:Rd}(ha:ax a=true) (hb:ax b=true):aC P (.pick c a b) e hs k=aO e c fun c e=>ZF c a b (Ac e a) (Ac e b) e hs k:=by
 simp only[aC,ha,hb,Bool.and_self]
 congr 1
 funext c e
 have h1:∀ x,ax x=true→rd e x=(Ac e x).map fun v=>(v,e):=by
  intro x hx
  cases x with
  | c=>rfl
  | m=>cases hx
  | s i=>simp only[rd,Ac];cases get e i<;>rfl
 rw[h1 a ha,h1 b hb]
 cases Ac e a<;>cases Ac e b<;>rfl
@[simp ↓] theorem anA {c:Rd}{i:Nat}{y:AV}:aC P (.pick c (.s i) (.c y)) e hs k=aO e c fun c e=>ZF c (.s i) (.c y) (Ac e (.s i)) (Ac e (.c y)) e hs k:=Xd rfl rfl
@[simp ↓] theorem anT {c:Rd}{i:Nat}{y:AV}:aC P (.pick c (.c y) (.s i)) e hs k=aO e c fun c e=>ZF c (.c y) (.s i) (Ac e (.c y)) (Ac e (.s i)) e hs k:=Xd rfl rfl
@[simp ↓] theorem ak0 {zs:List AV}:aC P (.alloc zs) e ⟨h,m⟩ k=lA (put h m (.cells zs)) fun h=>k (.ptr m 0) e ⟨h,m+1⟩:=(rfl)
@[simp ↓] theorem anO:aC P (.box x) e ⟨h,m⟩ k=aO e x fun v e=>dt ((AV.cells v).all cy) (lA (put h m (.cells (AV.cells v))) fun h=>k (.ptr m 0) e ⟨h,m+1⟩):=(rfl)
@[simp ↓] theorem akS {zs:List AV}{ps:List (Nat×Nat×Rd)}:aC P (.build zs ps) e hs k=eA e (gL ps) fun vs e=>bA (dl zs (iY ps vs)) fun cs=>k (.agg cs) e hs:=(rfl)
@[simp ↓] theorem anU {j:Nat}{ps:List Rd}:aC P (.mks j ps) e hs k=eA e ps fun vs e=>bA (dh j vs) fun xs=>k (.own true j xs) e hs:=(rfl)
@[simp ↓] theorem al6 {j:Nat}{ps:List Rd}:aC P (.mksv j ps) e ⟨h,m⟩ k=eA e ps fun vs e=>dt (Nt j vs) (lA (put h m (.cells (vs.flatMap AV.cells))) fun h=>k (.sl m 0 vs.length) e ⟨h,m+1⟩):=(rfl)
@[simp ↓] theorem aou {n:Option Nat}:aC P (.ld n 0 x) e ⟨h,m⟩ k=aO e x fun p e=>bA (bc h n p) fun v=>k v e ⟨h,m⟩:=(rfl)
@[simp ↓] theorem anx {n:Option Nat}:aC P (.ld n 1 x) e ⟨h,m⟩ k=aO e x fun p e=>bP (loadAt h n 1 p) fun v h=>k v e ⟨h,m⟩:=(rfl)
@[simp ↓] theorem aoQ {n:Nat}{y:Rd}:aC P (.st n x y) e ⟨h,m⟩ k=aO e x fun p e=>aO e y fun v e=>bA (storeAt h n p v) fun h=>k .junk e ⟨h,m⟩:=(rfl)
@[simp ↓] theorem alH:aC P (.nilck x) e hs k=aO e x fun v e=>bA (oN v) fun v=>k v e hs:=(rfl)
@[simp ↓] theorem anZ {o:BinOp}{y:Rd}:aC P (.bin o x y) e hs k=aO e x fun a e=>aO e y fun b e=>bA (aV o a b) fun v=>k (.d v) e hs:=(rfl)
@[simp ↓] theorem al4 {o:Bool}{y:Rd}:aC P (.binb o x y) e hs k=aO e x fun a e=>aO e y fun b e=>bA (VP o a b) fun v=>k (.d v) e hs:=(rfl)
@[simp ↓] theorem aoM {o:UnOp}:aC P (.un o x) e hs k=aO e x fun a e=>bA (OT o a) fun v=>k (.d v) e hs:=(rfl)
@[simp ↓] theorem anb {j:IntKind}:aC P (.conv j x) e hs k=aO e x fun a e=>bA (Pl j a) fun v=>k (.d v) e hs:=(rfl)
@[simp ↓] theorem alb:aC P (.toStr x) e ⟨h,m⟩ k=aO e x fun a e=>bA (sZ h a) fun v=>k (.d v) e ⟨h,m⟩:=(rfl)
@[simp ↓] theorem amY {f:FuncId}{a c:List Rd}:aC P (.mkfn f a c) e hs k=eA e a fun a e=>eA e c fun c e=>k (.fn f (aB a) (aB c)) e hs:=(rfl)
@[simp ↓] theorem aji {z:List D}{y:Rd}:aC P (.mkslice z x y) e hs k=aO e x fun a e=>aO e y fun c e=>bA (tp z a c) fun v=>k v e hs:=(rfl)
@[simp ↓] theorem alC {j:Nat}{lo hi mx:Option Rd}:aC P (.slice j x lo hi mx) e ⟨h,m⟩ k=aO e x fun x e=>fL e lo fun lo e=>fL e hi fun hi e=>fL e mx fun mx e=>bA (lg h j x lo hi mx) fun v=>k v e ⟨h,m⟩:=(rfl)
@[simp ↓] theorem alQ {j:Nat}{lo hi mx:Option Rd}:aC P (.slarr j x lo hi mx) e ⟨h,m⟩ k=aO e x fun x e=>fL e lo fun lo e=>fL e hi fun hi e=>fL e mx fun mx e=>bA (Dh h j x lo hi mx) fun v=>k v e ⟨h,m⟩:=(rfl)
@[simp ↓] theorem ao8 {o:Nat}:aC P (.fa o x) e hs k=aO e x fun p e=>bA (bM o p) fun v=>k v e hs:=(rfl)
@[simp ↓] theorem aoy {n:Nat}{y:Rd}:aC P (.ia n x y) e ⟨h,m⟩ k=aO e x fun x e=>aO e y fun i e=>bA (fo h n x i) fun v=>k v e ⟨h,m⟩:=(rfl)
@[simp ↓] theorem al0 {a n:Nat}{y:Rd}:aC P (.iarr a n x y) e hs k=aO e x fun p e=>aO e y fun i e=>bA (AA a n p i) fun v=>k v e hs:=(rfl)
@[simp ↓] theorem aoj {a n:Nat}{b:Bool}{y:Rd}:aC P (.ix a n b x y) e hs k=aO e x fun x e=>aO e y fun i e=>bA (Zt a n b x i) fun v=>k v e hs:=(rfl)
@[simp ↓] theorem anV {y:Rd}:aC P (.ixs x y) e hs k=aO e x fun x e=>aO e y fun i e=>bA (aaF x i) fun v=>k (.d v) e hs:=(rfl)
@[simp ↓] theorem al5 {j i:Nat}:aC P (.ext j true i) e hs k=bA (get e j) fun t=>bA (fu true t i) fun v=>k v (put e j (jf t i)) hs:=by
 simp only[aC,bA];cases get e j<;>(try rfl)
@[simp ↓] theorem amw {j i:Nat}:aC P (.ext j false i) e hs k=bA (get e j) fun t=>bA (fu false t i) fun v=>k v e hs:=by
 simp only[aC,bA];cases get e j<;>(try rfl)
@[simp ↓] theorem aof:aC P (.len x) e hs k=aO e x fun x e=>bA (lenOf x) fun n=>k (.int .i64 (.ofNat n)) e hs:=(rfl)
@[simp ↓] theorem anG:aC P (.cap x) e hs k=aO e x fun x e=>dt (aaJ x) (k (.int .i64 (.ofNat 0)) e hs):=(rfl)
@[simp ↓] theorem anW {j:Nat}{y:Rd}:aC P (.app j x y) e ⟨h,m⟩ k=aO e x fun a e=>aO e y fun b e=>bP (DO j h a b) fun v h=>k v e ⟨h,m⟩:=(rfl)
@[simp ↓] theorem anp {z:List D}{y:Rd}:aC P (.appz z x y) e ⟨h,m⟩ k=aO e x fun a e=>aO e y fun n e=>bP (OJ z h a n) fun v h=>k v e ⟨h,m⟩:=(rfl)
@[simp ↓] theorem akt {b:Bool}{xs:List Rd}:aC P (.minmax b xs) e hs k=eA e xs fun vs e=>bA (At b vs) fun v=>k v e hs:=(rfl)
@[simp ↓] theorem amv {f:FuncId}{as:List Rd}:aC P (.call f as) e ⟨h,m⟩ k=eA e as fun vs e=>bA (aU (Dn P) f vs h) fun v=>k v e ⟨h,m⟩:=(rfl)
@[simp ↓] theorem alA {f:FuncId}{as:List Rd}:aC P (.calli f as) e hs k=eA e as fun vs e=>bP ((Dn P).call f vs hs) fun v hs=>k v e hs:=(rfl)
@[simp ↓] theorem als {as:List Rd}:aC P (.callv x as) e hs k=aO e x fun f e=>eA e as fun vs e=>bP (aM (Dn P) f vs hs) fun v hs=>k v e hs:=(rfl)
@[simp ↓] theorem amE {is:List Nat}:aC P (.kill is) e hs k=k (.tup []) (is.foldl del e) hs:=(rfl)
end Go.Vm
end
