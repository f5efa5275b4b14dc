import Derived.Test.YtkegdjhjceaaoaaGreatP1
set_option linter.unusedVariables false
set_option linter.unusedSimpArgs false
set_option linter.defProp false
set_option linter.unusedSectionVars false
noncomputable section
namespace Go.Vm
set_option maxHeartbeats 4000000
set_option maxRecDepth 100000
structure xH (r q:dL):Prop where
 code:∀c st x,r.code c st=some x->q.code c st=some x
 call:∀f a h x,r.call f a h=some x->q.call f a h=some x
section
variable {r q:dL}
def agr (le:xH r q){f:FuncId}{vs:D_}{h:am}{x:AV}(e:fj r f vs h=some x):fj q f vs h=some x:=by
 unfold fj at e⊢
 cases hd:viewArgs h vs with
 |none=>rw[hd]at e;simp at e
 |some ds =>
  rw[hd]at e;simp only at e⊢
  cases hc:r.call f ds ⟨[],0⟩ with
  |none=>rw[hc]at e;simp at e
  |some p =>
   obtain⟨v,hs⟩:=p;rw[hc]at e;rw[le.call _ _ _ _ hc];exact e
def ag7 (le:xH r q){l:Nat}{vs:D_}{hs:HS}{x:AV×HS}(e:vX r l vs hs=some x):vX q l vs hs=some x:=by
 unfold vX at e⊢;split at e
 .rename_i snap params assign body hg;split at e
  .simp at e
  .rename_i e1 he1
   try simp only[he1]
   split at e
   .rename_i st1 hc;simp only[le.code _ _ _ hc];split at e
    .rename_i snap2 params2 assign2 body2 hg2;split at e
     .simp at e
     .rename_i o st2 hc2;simp only[le.code _ _ _ hc2];exact e
    .simp at e
   .simp at e
 .simp at e
def agT (le:xH r q){f:AV}{vs:D_}{hs:HS}{x:AV×HS}(e:cy r f vs hs=some x):cy q f vs hs=some x:=by
 cases f<;>simp only[cy,reduceCtorEq]at e⊢
 .exact le.call _ _ _ _ e
 .exact ag7 le e
def avj (le:xH r q){o:pk}{st:St}{x:AV×St}(e:dl o r st=some x):dl o q st=some x:=by
 cases o<;>try exact e
 .rename_i f args;simp only[dl,GV]at e⊢
  cases hr:rdAll st.env args with
  |none=>rw[hr]at e;simp at e
  |some p =>
   obtain⟨vs,e1⟩:=p;rw[hr]at e;simp only at e⊢
   cases hc:fj r f vs st.hs.heap with
   |none=>rw[hc]at e;simp at e
   |some v=>rw[hc]at e;rw[agr le hc];exact e
 .rename_i f args;simp only[dl,EW]at e⊢
  cases hr:rdAll st.env args with
  |none=>rw[hr]at e;simp at e
  |some p =>
   obtain⟨vs,e1⟩:=p;rw[hr]at e;simp only at e⊢
   cases hc:r.call f vs st.hs with
   |none=>rw[hc]at e;simp at e
   |some v=>rw[hc]at e;rw[le.call _ _ _ _ hc];exact e
 .rename_i f args;simp only[dl,FV]at e⊢
  cases hf:rd st.env f with
  |none=>rw[hf]at e;simp at e
  |some p =>
   obtain⟨fv,e0⟩:=p;rw[hf]at e;simp only at e⊢
   cases hr:rdAll e0 args with
   |none=>rw[hr]at e;simp at e
   |some p =>
    obtain⟨vs,e1⟩:=p;rw[hr]at e;simp only at e⊢
    cases hc:cy r fv vs st.hs with
    |none=>rw[hc]at e;simp at e
    |some v=>rw[hc]at e;rw[agT le hc];exact e
def El (le:xH r q){i:VI}{st x:St}(e:cX r i st=some x):cX q i st=some x:=by
 have go:∀x,gD r i st=some x->gD q i st=some x:=λx e=>by
  unfold gD at e⊢
  cases ho:dl i.op r st with
  |none=>rw[ho]at e;simp at e
  |some p=>rw[ho]at e;rw[avj le ho];exact e
 unfold cX at e⊢;split at e
 .exact go _ e
 .split at e
  .split at e
   .simp_all
   .simp_all
  .exact e
  .simp at e
def Ud (le:xH r q):∀{l:T_}{st x:St},lk r l st=some x->lk q l st=some x
 |[],_,_,e=>e
 |i::l,st,x,e=>by
  simp only[lk]at e⊢
  cases hv:cX r i st with
  |none=>rw[hv]at e;simp at e
  |some st1=>rw[hv]at e;rw[El le hv];exact Ud le e
def atP (le:xH r q){F:C_}{i:VI}{st x:St}(e:xG r F i st=some x):xG q F i st=some x:=by
 unfold xG at e⊢;split at e
 .cases hv:cX r i st with
  |none=>rw[hv]at e;simp at e
  |some st1=>rw[hv]at e;rw[El le hv];exact e
 .cases hv:cX r i st with
  |none=>rw[hv]at e;simp at e
  |some st1=>rw[hv]at e;rw[El le hv];exact e
 .cases hv:cX r i ⟨st.env,⟨dT (oT i st.env) st.hs.heap,st.hs.next⟩⟩ with
  |none=>rw[hv]at e;simp at e
  |some st1=>rw[hv]at e;rw[El le hv];exact e
def abD (le:xH r q){a:Bool}{F:C_}{i:VI}{st x:St}(e:cq r a F i st=some x):cq q a F i st=some x:=by
 cases a
 .exact El le e
 .exact atP le e
def Ta (le:xH r q){nr:C_}{vs:T_}:∀{l F:C_}{st x:St},fW r nr vs l F st=some x->fW q nr vs l F st=some x
 |[],_,_,_,e=>e
 |i::l,F,st,x,e=>by
  simp only[fW]at e⊢
  cases hi:vs[i]? with
  |none=>rw[hi]at e;simp at e
  |some v =>
   rw[hi]at e;simp only at e⊢
   cases hv:cq r (fb i nr) F v st with
   |none=>rw[hv]at e;simp at e
   |some st1=>rw[hv]at e;rw[abD le hv];exact Ta le e
theorem Pf (le:xH r q){c:VC}{st:St}{x:cH×St}(e:db c r st=some x):db c q st=some x:=by
 cases c<;>try exact e
 .rename_i d ops;simp only[db,Ve]at e⊢
  cases hv:lk r ops st with
  |none=>rw[hv]at e;simp at e
  |some st1=>rw[hv]at e;rw[Ud le hv];exact e
 .rename_i perm gco nr ops;simp only[db,OM,OG]at e⊢
  cases ha:tq st.env ops with
  |false=>rw[ha]at e;simp at e
  |true =>
  rw[ha]at e;simp only at e⊢
  cases hv:fW r nr ops perm [] st with
  |none=>rw[hv]at e;simp at e
  |some st1=>rw[hv]at e;rw[Ta le hv];exact e
 .rename_i a b;simp only[db,QD]at e⊢
  cases hv:r.code a st with
  |none=>rw[hv]at e;simp at e
  |some p =>
   obtain⟨o,st1⟩:=p;rw[hv]at e;rw[le.code _ _ _ hv]
   cases o<;>simp only at e⊢
   .exact le.code _ _ _ e
   all_goals exact e
 .rename_i cr a b;simp only[db,Nj]at e⊢;split at e
  .exact le.code _ _ _ e
  .exact le.code _ _ _ e
  .simp at e
 .rename_i id a;simp only[db,Ns]at e⊢
  cases hv:r.code a st with
  |none=>rw[hv]at e;simp at e
  |some p=>rw[hv]at e;rw[le.code _ _ _ hv];exact e
 .rename_i a;simp only[db,TD]at e⊢
  cases hv:r.code a st with
  |none=>rw[hv]at e;simp at e
  |some p =>
   obtain⟨o,st1⟩:=p;rw[hv]at e;rw[le.code _ _ _ hv]
   cases o<;>simp only at e⊢
   .exact le.code _ _ _ e
   all_goals exact e
 .rename_i f params assign body;simp only[db,E6]at e⊢;split at e
  .rename_i g first caps e1 h1
   split at e
   .rename_i v hs hc;rw[le.call _ _ _ _ hc];exact e
   .simp at e
  .simp at e
 .exact le.code _ _ _ e
 .rename_i a cur;simp only[db,LM]at e⊢
  cases hv:r.code cur st with
  |none=>rw[hv]at e;simp at e
  |some p =>
   obtain⟨o,st1⟩:=p;rw[hv]at e;rw[le.code _ _ _ hv]
   cases o<;>simp only at e⊢
   .exact e
   .exact e
   .split at e
    .exact le.code _ _ _ e
    .exact e
   .exact e
 .rename_i i d f a;simp only[db,TV]at e⊢
  cases hg:get st.env i with
  |none=>rw[hg]at e;simp at e
  |some p =>
   rw[hg]at e
   cases p<;>simp only at e⊢<;>try exact absurd e (by simp)
   rename_i id off
   cases hv:r.code a ⟨put st.env d (.ptr id off),st.hs⟩ with
   |none=>rw[hv]at e;simp at e
   |some p =>
    obtain⟨o,st1⟩:=p;rw[hv]at e;rw[le.code _ _ _ hv]
    cases o<;>simp only at e⊢<;>try exact absurd e (by simp)
    all_goals
     cases hc:r.call f [.ptr id off] st1.hs with
     |none=>rw[hc]at e;simp at e
     |some q=>rw[hc]at e;rw[le.call _ _ _ _ hc];exact e
theorem aao (le:xH r q){P:Nat->Z_}{f:FuncId}{a:D_}{h:HS}{x:AV×HS}(e:wN P r f a h=some x):wN P q f a h=some x:=by
 unfold wN at e⊢;split at e
 .simp at e
 .rename_i fn hf;split at e
  .simp at e
  .rename_i hn
   cases hv:db fn.body r ⟨kR 0 a,h⟩ with
   |none=>rw[hv]at e;simp at e
   |some p=>rw[hv]at e;simp only[hn,Pf le hv];exact e
end
variable {P:Nat->Z_}
abbrev uR:=@Nat.le_add_right
def lim {α:Type}(f:Nat->Option α):Option α :=
 open Classical in if h:∃x,∃n,f n=some x then some (Classical.choose h) else none
def ag3 {α:Type}{f:Nat->Option α}(mono:∀n m x,f n=some x->f (n+m)=some x){n:Nat}{x:α}(h:f n=some x):lim f=some x:=by
 have he:∃x,∃n,f n=some x:=⟨x,n,h⟩
 unfold lim;obtain⟨m,hm⟩:=Classical.choose_spec he;have h2:=mono m n _ hm
 grind
def ahY {α:Type}{f:Nat->Option α}{x:α}(h:lim f=some x):∃n,f n=some x:=by
 unfold lim at h;split at h<;>grind
variable {P:Nat->Z_}
def xH.rfl' {r:dL}:xH r r:=⟨λ_ _ _ h=>h,λ_ _ _ _ h=>h⟩
def xH.trans' {r q s:dL}(h:xH r q)(k:xH q s):xH r s:=⟨λc st x e=>k.code c st x (h.code c st x e),λf a hs x e=>k.call f a hs x (h.call f a hs x e)⟩
def adQ:∀n:Nat,xH (run P n) (run P (n+1))
 |0=>⟨λ_ _ _ h=>by simp[run]at h,λ_ _ _ _ h=>by simp[run]at h⟩
 |n+1=>⟨λc st x h=>Pf (adQ n) h,λf a hs x h=>aao (adQ n) h⟩
theorem Sj (n:Nat):∀m:Nat,xH (run P n) (run P (n+m))
 |0=>xH.rfl'
 |m+1=>(Sj n m).trans' (adQ (n+m))
def Dn (P:Nat->Z_):dL:=⟨λc st=>lim λn=>(run P n).code c st,λf a h=>lim λn=>(run P n).call f a h⟩
def ah0 {c:VC}{st:St}{x:cH×St}{n:Nat}(h:(run P n).code c st=some x):(Dn P).code c st=some x :=
 ag3 (λn m x h=>(Sj n m).code _ _ _ h) h
def Ym {f:FuncId}{a:D_}{hs:HS}{x:AV×HS}{n:Nat}(h:(run P n).call f a hs=some x):(Dn P).call f a hs=some x :=
 ag3 (λn m x h=>(Sj n m).call _ _ _ _ h) h
theorem ani (n:Nat):xH (run P n) (Dn P):=⟨λ_ _ _ h=>ah0 h,λ_ _ _ _ h=>Ym h⟩
theorem NC {n m:Nat}{c:VC}{st:St}{x:cH×St}(h:(run P n).code c st=some x)(le:n<=m):(run P m).code c st=some x:=by
 grind [xH.code,Sj,Nat.add_sub_cancel']
def up {n m:Nat}(le:n<=m):xH (run P n) (run P m):=by
 grind [Sj,Nat.add_sub_cancel']
theorem yR {c:VC}{st:St}{x:cH×St}(h:(Dn P).code c st=some x):∃n,(run P n).code c st=some x:=ahY h
theorem Fr {f:FuncId}{a:D_}{hs:HS}{x:AV×HS}(h:(Dn P).call f a hs=some x):∃n,(run P n).call f a hs=some x:=ahY h
theorem aku {f:FuncId}{vs:D_}{h:am}{x:AV}(e:fj (Dn P) f vs h=some x):∃n,fj (run P n) f vs h=some x:=by
 grind [fj,Fr]
theorem ao8 {l:Nat}{vs:D_}{hs:HS}{x:AV×HS}(e:vX (Dn P) l vs hs=some x):∃n,vX (run P n) l vs hs=some x:=by
 unfold vX at e⊢;split at e
 .split at e
  .simp at e
  .split at e<;>grind [yR,NC]
 simp_all
theorem aol {f:AV}{vs:D_}{hs:HS}{x:AV×HS}(e:cy (Dn P) f vs hs=some x):∃n,cy (run P n) f vs hs=some x:=by
 cases f<;>simp only[cy,reduceCtorEq]at e⊢
 all_goals grind [Fr,ao8]
theorem aB4 {o:pk}{st:St}{x:AV×St}(e:dl o (Dn P) st=some x):∃n,dl o (run P n) st=some x:=by
 cases o<;>try exact⟨0,e⟩
 .rename_i f args;simp only[dl,GV]at e⊢
  cases hr:rdAll st.env args<;>grind [aku]
 .rename_i f args;simp only[dl,EW]at e⊢
  cases hr:rdAll st.env args<;>grind [Fr]
 .rename_i f args;simp only[dl,FV]at e⊢
  cases hf:rd st.env f with
  |none=>simp_all
  |some p =>
   obtain⟨fv,e0⟩:=p;simp only at e⊢
   cases hr:rdAll e0 args<;>grind [aol]
theorem ahc {i:VI}{st x:St}(e:cX (Dn P) i st=some x):∃n,cX (run P n) i st=some x:=by
 have go:∀x,gD (Dn P) i st=some x->∃n,gD (run P n) i st=some x:=λx e=>by
  grind [gD,aB4]
 unfold cX at e⊢;split at e
 .simp_all
 .split at e
  .split at e<;>simp_all
  all_goals simp_all
theorem amo:∀{l:T_}{st x:St},lk (Dn P) l st=some x->∃n,lk (run P n) l st=some x
 |[],_,_,e=>⟨0,e⟩
 |i::l,st,x,e=>by
  simp only[lk]at e⊢
  cases hv:cX (Dn P) i st with
  |none=>simp_all
  |some st1 =>
   rw[hv]at e;obtain⟨n1,h1⟩:=ahc hv;obtain⟨n2,h2⟩:=amo e;refine⟨n1+n2,?_⟩;rw[El (up (uR n1 n2)) h1];exact Ud (up (lR n2 n1)) h2
def aAz {F:C_}{i:VI}{st x:St}(e:xG (Dn P) F i st=some x):∃n,xG (run P n) F i st=some x:=by
 grind [xG,ahc]
def avB {a:Bool}{F:C_}{i:VI}{st x:St}(e:cq (Dn P) a F i st=some x):∃n,cq (run P n) a F i st=some x:=by
 cases a
 .exact ahc e
 .exact aAz e
theorem amB {nr:C_}{vs:T_}:∀{l F:C_}{st x:St},fW (Dn P) nr vs l F st=some x->∃n,fW (run P n) nr vs l F st=some x
 |[],_,_,_,e=>⟨0,e⟩
 |i::l,F,st,x,e=>by
  simp only[fW]at e⊢
  cases hi:vs[i]? with
  |none=>simp_all
  |some v =>
   rw[hi]at e;simp only at e⊢
   cases hv:cq (Dn P) (fb i nr) F v st with
   |none=>simp_all
   |some st1 =>
    rw[hv]at e;obtain⟨n1,h1⟩:=avB hv;obtain⟨n2,h2⟩:=amB e;refine⟨n1+n2,?_⟩;rw[abD (up (uR n1 n2)) h1];exact Ta (up (lR n2 n1)) h2
theorem aiN {c:VC}{st:St}{x:cH×St}(e:db c (Dn P) st=some x):∃n,db c (run P n) st=some x:=by
 cases c<;>try exact⟨0,e⟩
 .grind [db,Ve,amo]
 .rename_i perm gco nr ops;simp only[db,OM,OG]at e⊢
  cases ha:tq st.env ops<;>grind [amB]
 .rename_i a b;simp only[db,QD]at e⊢
  grind [yR,NC]
 .rename_i cr a b;simp only[db,Nj]at e⊢;split at e<;>grind [yR]
 .grind [db,Ns,yR]
 .rename_i a;simp only[db,TD]at e⊢
  grind [yR,NC]
 .rename_i f params assign body;simp only[db,E6]at e⊢;split at e<;>grind [Fr]
 .exact yR e
 .rename_i a cur;simp only[db,LM]at e⊢
  grind [yR,NC]
 .rename_i i d f a;simp only[db,TV]at e⊢
  cases hg:get st.env i with
  |none=>simp_all
  |some p =>
   rw[hg]at e
   cases p<;>simp only at e⊢<;>try exact absurd e (by simp)
   rename_i id off
   cases hv:(Dn P).code a ⟨put st.env d (.ptr id off),st.hs⟩ with
   |none=>simp_all
   |some p =>
    obtain⟨o,st1⟩:=p;obtain⟨n1,h1⟩:=yR hv;rw[hv]at e
    cases o<;>simp only at e⊢<;>try exact absurd e (by simp)
    all_goals
     cases hc:(Dn P).call f [.ptr id off] st1.hs with
     |none=>simp_all
     |some q =>
      obtain⟨n2,h2⟩:=Fr hc;rw[hc]at e;refine⟨n1+n2,?_⟩;rw[NC h1 (uR n1 n2)];simp only[(up (lR n2 n1)).call _ _ _ _ h2];exact e
def atE {f:FuncId}{a:D_}{h:HS}{x:AV×HS}(e:wN P (Dn P) f a h=some x):∃n,wN P (run P n) f a h=some x:=by
 unfold wN at e⊢;split at e
 .simp at e
 .split at e<;>grind [aiN]
theorem ji (c:VC)(st:St):(Dn P).code c st=db c (Dn P) st:=by
 cases h:db c (Dn P) st with
 |some x =>
  obtain⟨n,hn⟩:=aiN h;exact ah0 (n:=n+1) hn
 |none =>
  cases k:(Dn P).code c st with
  |none=>rfl
  |some x =>
   obtain⟨n,hn⟩:=yR k
   cases n<;>grind [run,Pf,ani]
theorem aye (f:FuncId)(a:D_)(hs:HS):(Dn P).call f a hs=wN P (Dn P) f a hs:=by
 cases h:wN P (Dn P) f a hs with
 |some x =>
  obtain⟨n,hn⟩:=atE h;exact Ym (n:=n+1) hn
 |none =>
  cases k:(Dn P).call f a hs with
  |none=>rfl
  |some x =>
   obtain⟨n,hn⟩:=Fr k
   cases n<;>grind [run,aao,ani]
abbrev aB:=@Int.eq_ofNat_of_zero_le
variable {P:Nat->Z_}
def Br (P:Nat->Z_)(x:K_)(b:VC):K_ :=
 match x with
 |some (.normal,st)=>(Dn P).code b st
 |x=>x
def zB (id:Nat)(x:K_):K_ :=
 match x with
 |some (.exit j,st)=>if j=id then some (.normal,st) else some (.exit j,st)
 |x=>x
def fy (x:Y_):K_ :=
 match x with
 |some st=>some (.normal,st)
 |none=>none
def r8 (P:Nat->Z_)(a:VC)(x:K_):K_ :=
 match x with
 |some (.normal,st)=>(Dn P).code (.loop a) st
 |x=>x
def XR (fn:ak)(x:K_):X_ :=
 match x with
 |some (.normal,st)=>HU fn st
 |some (.ret,st)=>HU fn st
 |_=>none
def uL (x:X_):M_ :=
 match x with
 |some (v,hs)=>io hs.heap v
 |none=>none
def aCg {st:St}{b:VC}:Br P (some (.normal,st)) b=(Dn P).code b st:=(rfl)
def aAv {st:St}{b:VC}:Br P (some (.ret,st)) b=some (.ret,st):=(rfl)
def aAa {st:St}{b:VC}{j:Nat}:Br P (some (.exit j,st)) b=some (.exit j,st):=(rfl)
def aBg {st:St}{b:VC}{j:Nat}:Br P (some (.goto j,st)) b=some (.goto j,st):=(rfl)
def aBo {b:VC}:Br P none b=none:=(rfl)
def aBT {c:Prop}[Decidable c]{x y:K_}{b:VC}:Br P (if c then x else y) b=if c then Br P x b else Br P y b:=d_
def azH {st:St}{i:Nat}:zB i (some (.normal,st))=some (.normal,st):=(rfl)
def aCd {st:St}{i:Nat}:zB i (some (.ret,st))=some (.ret,st):=(rfl)
def aAu {st:St}{i j:Nat}:zB i (some (.exit j,st))=if j=i then some (.normal,st) else some (.exit j,st):=(rfl)
def aAd {st:St}{i j:Nat}:zB i (some (.goto j,st))=some (.goto j,st):=(rfl)
def aA8 {i:Nat}:zB i none=none:=(rfl)
def aA6 {c:Prop}[Decidable c]{x y:K_}{i:Nat}:zB i (if c then x else y)=if c then zB i x else zB i y:=d_
theorem OI {st:St}{a:VC}:r8 P a (some (.normal,st))=(Dn P).code (.loop a) st:=(rfl)
def ay9 {st:St}{a:VC}:r8 P a (some (.ret,st))=some (.ret,st):=(rfl)
def azg {st:St}{a:VC}{j:Nat}:r8 P a (some (.exit j,st))=some (.exit j,st):=(rfl)
def ayq {st:St}{a:VC}{j:Nat}:r8 P a (some (.goto j,st))=some (.goto j,st):=(rfl)
def azc {a:VC}:r8 P a none=none:=(rfl)
def ayn {c:Prop}[Decidable c]{x y:K_}{a:VC}:r8 P a (if c then x else y)=if c then r8 P a x else r8 P a y:=d_
def azJ {st:St}:fy (some st)=some (.normal,st):=(rfl)
def aCa:fy none=none:=(rfl)
def aBp {c:Prop}[Decidable c]{x y:Y_}:fy (if c then x else y)=if c then fy x else fy y:=d_
def aBy {v:AV}{hs:HS}:uL (some (v,hs))=io hs.heap v:=(rfl)
def aAt:uL none=none:=(rfl)
def aBE {c:Prop}[Decidable c]{x y:X_}:uL (if c then x else y)=if c then uL x else uL y:=d_
def arR {st:St}:(Dn P).code .skip st=some (.normal,st):=by rw[ji];rfl
def aqH {st:St}{i:Nat}:(Dn P).code (.exit i) st=some (.exit i,st):=by rw[ji];rfl
def avI {st:St}:(Dn P).code .ret st=some (.ret,st):=by rw[ji];rfl
def anT {st:St}{i:Nat}:(Dn P).code (.label i) st=some (.normal,st):=by rw[ji];rfl
def aqk {st:St}{i:Nat}:(Dn P).code (.goto i) st=some (.goto i,st):=by rw[ji];rfl
def atJ {st:St}{a b:VC}:(Dn P).code (.seq a b) st=Br P ((Dn P).code a st) b:=by rw[ji];rfl
def aph {st:St}{i:Nat}{a:VC}:(Dn P).code (.block i a) st=zB i ((Dn P).code a st):=by
 grind [ji,db,Ns,zB,Nat.eq_of_beq_eq_true,Nat.ne_of_beq_eq_false]
def arn {st:St}{a:VC}:(Dn P).code (.loop a) st=r8 P a ((Dn P).code a st):=by rw[ji];rfl
theorem Xl {st:St}{d:Bool}{ops:T_}:(Dn P).code (.reg d ops) st=fy (lk (Dn P) ops st):=by rw[ji];rfl
theorem aqR {st:St}{perm gco:C_}{ops:T_}(ha:tq st.env ops=true):(Dn P).code (.regP perm gco [] ops) st=fy (xd (Dn P) ops perm st):=by
 rw[ji];simp only[db,OM,OG,aiz,ha];rfl
def ao9 {e:aW}{hs:HS}{a b:VC}{t:Bool}:(Dn P).code (.cond (.c (B_ t)) a b) ⟨e,hs⟩=if t=true then (Dn P).code a ⟨e,hs⟩ else (Dn P).code b ⟨e,hs⟩:=by
 grind [ji,db,Nj,rd]
def Vq (P:Nat->Z_)(v:M_)(a b:VC)(st:St):K_ :=
 match v with
 |some (.d (.bool true))=>(Dn P).code a st
 |some (.d (.bool false))=>(Dn P).code b st
 |_=>none
def asY {e:aW}{hs:HS}{i:Nat}{a b:VC}:(Dn P).code (.cond (.m i) a b) ⟨e,hs⟩=Vq P (get e i) a b ⟨del e i,hs⟩:=by
 rw[ji];simp only[db,Nj,rd,Vq]
 grind
def ayb {a b:VC}{st:St}:Vq P (some (B_ true)) a b st=(Dn P).code a st:=(rfl)
def ayI {a b:VC}{st:St}:Vq P (some (B_ false)) a b st=(Dn P).code b st:=(rfl)
def aKF (P:Nat->Z_)(v:M_)(w:Bool)(d:I_)(op:pk)(th:R_)(st:St):Y_ :=
 match v with
 |some (.d (.bool b))=>match b == w with
  |true=>cX (Dn P) ⟨d,none,op,th⟩ st
  |false=>some (cS d (.tup []) st)
 |some (.tup [])=>some (cS d (.tup []) st)
 |_=>none
def aGW {α:Type}{i:Nat}:get ([]:List (Nat×α)) i=none:=(rfl)
def aAS {α:Type}{k i:Nat}{v:α}{r:List (Nat×α)}:get ((k,v)::r) i=if k=i then some v else get r i:=jo ..
def aFD {α:Type}{i:Nat}{x:α}:put [] i x=[(i,x)]:=(rfl)
def put1 {α:Type}{k i:Nat}{v x:α}{r:List (Nat×α)}:put ((k,v)::r) i x=if k=i then (i,x)::r else if i<=k then (i,x)::(k,v)::r else (k,v)::put r i x:=xV ..
def aGF {α:Type}{i:Nat}:del ([]:List (Nat×α)) i=[]:=(rfl)
def aBH {α:Type}{k i:Nat}{v:α}{r:List (Nat×α)}:del ((k,v)::r) i=if k=i then del r i else (k,v)::del r i:=pf ..
theorem W6 {k:IntKind}:mV k k=true:=by cases k<;>rfl
theorem lU {op:BinOp}{k:IntKind}{a b:Int}(h1:op≠.shl)(h2:op≠.shr):dD op (.d (.int k a)) (.d (.int k b))=match jJ op k a b with|some x=>some (.d x)|none=>none:=by
 grind [dD,wY,W6]
def axq {k:IntKind}{a b:Int}:dD .add (.d (.int k a)) (.d (.int k b))=some (.d (.int k (wr k (a+b)))):=by rw[lU s_ s_];rfl
def azh {k:IntKind}{a b:Int}:dD .sub (.d (.int k a)) (.d (.int k b))=some (.d (.int k (wr k (a-b)))):=by rw[lU s_ s_];rfl
def axR {k:IntKind}{a b:Int}:dD .mul (.d (.int k a)) (.d (.int k b))=some (.d (.int k (wr k (a*b)))):=by rw[lU s_ s_];rfl
def ayG {k:IntKind}{a b:Int}(h:b≠0):dD .quo (.d (.int k a)) (.d (.int k b))=some (.d (.int k (wr k (a.tdiv b)))):=by grind [lU,jJ]
def ay3 {k:IntKind}{a b:Int}(h:b≠0):dD .rem (.d (.int k a)) (.d (.int k b))=some (.d (.int k (a.tmod b))):=by grind [lU,jJ]
def aze {k:IntKind}{a b:Int}:dD .eql (.d (.int k a)) (.d (.int k b))=if a=b then some (B_ true) else some (B_ false):=by grind [lU,jJ]
def azC {k:IntKind}{a b:Int}:dD .neq (.d (.int k a)) (.d (.int k b))=if a=b then some (B_ false) else some (B_ true):=by grind [lU,jJ]
def axi {k:IntKind}{a b:Int}:dD .lss (.d (.int k a)) (.d (.int k b))=if a<b then some (B_ true) else some (B_ false):=by grind [lU,jJ]
def aw5 {k:IntKind}{a b:Int}:dD .leq (.d (.int k a)) (.d (.int k b))=if a<=b then some (B_ true) else some (B_ false):=by grind [lU,jJ]
def axg {k:IntKind}{a b:Int}:dD .gtr (.d (.int k a)) (.d (.int k b))=if b<a then some (B_ true) else some (B_ false):=by grind [lU,jJ]
def axL {k:IntKind}{a b:Int}:dD .geq (.d (.int k a)) (.d (.int k b))=if b<=a then some (B_ true) else some (B_ false):=by grind [lU,jJ]
def ay6 {k j:IntKind}{a b:Int}(h:0<=b):dD .shl (.d (.int k a)) (.d (.int j b))=some (.d (.int k (wr k (a*((2 ^ (min b.toNat k.bits):Nat):Int))))):=by
 grind [dD,wY,IV]
def ay2 {k j:IntKind}{a b:Int}(h:0<=b):dD .shr (.d (.int k a)) (.d (.int j b))=some (.d (.int k (a.fdiv ((2 ^ (min b.toNat k.bits):Nat):Int)))):=by
 grind [dD,wY,IV]
def avE {a b:AG_}:dD .eql (.d (.str a)) (.d (.str b))=if a=b then some (B_ true) else some (B_ false):=by
 grind [dD]
def atx {a b:AG_}:dD .neq (.d (.str a)) (.d (.str b))=if a=b then some (B_ false) else some (B_ true):=by
 grind [dD]
def aDr {n:Int}(h:0<=n)(h2:n<=255):wr .u8 n=n:=by
 grind [wr,py]
def aAl {n:Int}(h:0<=n)(h2:n<=65535):wr .u16 n=n:=by
 grind [wr,py]
def aAJ {n:Int}(h:0<=n)(h2:n<=4294967295):wr .u32 n=n:=by
 grind [wr,py]
def azP {n:Int}(h:0<=n)(h2:n<=18446744073709551615):wr .u64 n=n:=by
 grind [wr,py]
theorem yK {k:IntKind}{i:Int}{t:Nat}(h:0<=i)(h2:i<=t):ej (.d (.int k i)) t=some i.toNat:=by
 obtain⟨n,rfl⟩:=aB h;have:Nat.ble n t=true:=ca o_;show(match Nat.ble n t with|true=>some n|false=>none)=_
 grind
theorem UW {k:IntKind}{i:Int}(h:0<=i):sf (.d (.int k i))=some i.toNat:=by
 obtain⟨n,rfl⟩:=aB h;rfl
def kr (k:IntKind):Nat:=if k.signed then 2 ^ (k.bits-1) else 2 ^ k.bits
theorem ayY (k:IntKind):kr k<=2 ^ k.bits:=by cases k<;>decide
theorem agK {k:IntKind}{n:Nat}(h:n<kr k):k.wrap (n:Int)=n:=by
 cases k<;>simp only[kr,IntKind.wrap,IntKind.signed,IntKind.bits]at h⊢<;>simp at h⊢<;>omega
theorem F9 {k:IntKind}{n:Nat}(h:n<kr k):(BitVec.ofInt k.bits (n:Int)).toNat=n:=by
 grind [ayY]
def aA7 {k:IntKind}{a b:Nat}(h:a<kr k)(h2:b<kr k)(h3:a |||b<kr k):dD .or (.d (.int k (a:Int))) (.d (.int k (b:Int)))=some (.d (.int k ((a |||b:Nat):Int))):=by
 grind [lU,jJ,Gu,F9,agK]
theorem axy {a b t:Nat}(h:a<t):a &&& b<t:=by grind [Nat.and_le_left]
def azt {k:IntKind}{a b:Nat}(h:a<kr k)(h2:b<kr k):dD .and (.d (.int k (a:Int))) (.d (.int k (b:Int)))=some (.d (.int k ((a &&& b:Nat):Int))):=by
 grind [lU,jJ,Gu,F9,agK,axy]
def aw6 {k:IntKind}{a b:Nat}(h:a<kr k)(h2:b<kr k)(h3:a ^^^ b<kr k):dD .xor (.d (.int k (a:Int))) (.d (.int k (b:Int)))=some (.d (.int k ((a ^^^ b:Nat):Int))):=by
 grind [lU,jJ,Gu,F9,agK]
def bh (P:Nat->Z_)(f:FuncId)(ds:D_):M_:=uL ((Dn P).call f ds ⟨[],0⟩)
theorem aet {f:FuncId}{fn:ak}{args:D_}{hs:HS}(hf:P f=some fn)(hl:args.length=fn.nparams):(Dn P).call f args hs=XR fn ((Dn P).code fn.body ⟨kR 0 args,hs⟩):=by
 grind [aye,Nat.beq_refl,wN,XR,ji]
def atw {f:FuncId}{fn:ak}{args:D_}(hf:P f=some fn)(hl:args.length=fn.nparams):bh P f args=uL (XR fn ((Dn P).code fn.body ⟨kR 0 args,⟨[],0⟩⟩)):=by
 grind [bh,aet]
def arc {g:FuncId}{first caps args:D_}{hs:HS}:cy (Dn P) (.fn g first caps) args hs=(Dn P).call g (first++(args++caps)) hs:=(rfl)
def azY {α:Type}{a b:Prop}[Decidable a][Decidable b]{x y:α}:(if a then (if b then x else y) else y)=if a∧b then x else y:=by
 grind
def az7 {α:Type}{a b:Prop}[Decidable a][Decidable b]{x y:α}:(if a then x else (if b then x else y))=if a∨b then x else y:=by
 grind
def aBD {α:Type}{a b:Prop}[Decidable a][Decidable b]{x y:α}:(if a then (if b then y else x) else y)=if a∧¬b then x else y:=by
 grind
def aBW {α:Type}{a b:Prop}[Decidable a][Decidable b]{x y:α}:(if a then x else (if b then y else x))=if a∨¬b then x else y:=by
 grind
def nth {α:Type}[Inhabited α](l:List α)(i:Nat):α:=l.getD i default
theorem ag8 {α:Type}[Inhabited α]{l:List α}{i:Nat}(h:i<l.length):nth l i=l[i]:=by simp[nth,h]
theorem Co {α:Type}[Inhabited α]{l:List α}{i:Nat}(h:i<l.length):l[i]?=some (nth l i):=by simp[nth,h]
theorem q9 {α:Type}[Inhabited α]{l:List α}{i:Nat}(h:i<l.length):l.drop i=nth l i::l.drop (i+1):=by grind [List.drop_eq_getElem_cons,ag8]
theorem jy {α:Type}[Inhabited α]{l:List α}{i:Nat}(h:i<l.length):nth l i∈l:=by grind [ag8]
abbrev I (n:Int):D:=.int .i64 n
abbrev Y (n:Int):D:=.int .u8 n
def aH (l:G_):E_:=l.map fun(n:Int)=>[D.int .i64 n]
def ai (l:C_):E_:=l.map fun(n:Nat)=>[D.int .u8 (n:Int)]
def Vr (l:U_):E_:=l.map fun(n:Bool)=>[D.bool n]
def au4 {l:G_}:(aH l).length=l.length:=by simp[aH]
def avo {l:C_}:(ai l).length=l.length:=by simp[ai]
def aqs {l:U_}:(Vr l).length=l.length:=by simp[Vr]
def Km {l:G_}{i:Nat}(h:i<l.length):(aH l)[i]?=some [.int .i64 (nth l i)]:=by grind [aH,Co]
def avA {l:C_}{i:Nat}(h:i<l.length):(ai l)[i]?=some [.int .u8 (nth l i:Nat)]:=by grind [ai,Co]
def arq {l:U_}{i:Nat}(h:i<l.length):(Vr l)[i]?=some [.bool (nth l i)]:=by grind [Vr,Co]
def arQ {a b:Nat}:((a:Int)+(b:Int)).toNat=a+b:=o_
def acT {a b:Nat}:Nat.beq a b=decide (a=b):=by
 grind [Nat.eq_of_beq_eq_true,Nat.ne_of_beq_eq_false]
theorem abW {a b:Nat}:Nat.ble a b=decide (a<=b):=by
 grind [Nat.le_of_ble_eq_true,Nat.ble_eq_true_of_le]
def axa {x y:K_}{b:VC}(h:x=y):Br P x b=Br P y b:=by rw[h]
def axH {x y:K_}{b:Nat}(h:x=y):zB b x=zB b y:=by rw[h]
def avW {x y:K_}{b:VC}(h:x=y):r8 P b x=r8 P b y:=by rw[h]
def azq {x y:K_}{b:ak}(h:x=y):XR b x=XR b y:=by rw[h]
def ax7 {r:dL}{c:VC}{x y:St}(h:x=y):r.code c x=r.code c y:=by rw[h]
def auR {v w:M_}{a b:VC}{x y:St}(h:v=w)(k:x=y):Vq P v a b x=Vq P w a b y:=by rw[h,k]
variable {P:Nat->Z_}
def bA {α β:Type}(x:Option α)(f:α->Option β):Option β :=
 match x with
 |some v=>f v
 |none=>none
def bP {α γ β:Type}(x:Option (α×γ))(f:α->γ->Option β):Option β :=
 match x with
 |some (v,w)=>f v w
 |none=>none
def lA {α β:Type}(x:α)(f:α->β):β:=f x
def lP {α γ β:Type}(x:α×γ)(f:α->γ->β):β:=f x.1 x.2
def dQ {β:Type}(c:Bool)(x:Option β):Option β :=
 match c with
 |true=>x
 |false=>none
def gV (g:AV)(w:Bool)(x:M_):M_ :=
 match g with
 |.d (.bool b)=>if b=w then x else some (.tup [])
 |.tup []=>some (.tup [])
 |_=>none
def gH (g:AV)(w:Bool)(hs:HS)(x:X_):X_ :=
 match g with
 |.d (.bool b)=>if b=w then x else some (.tup [],hs)
 |.tup []=>some (.tup [],hs)
 |_=>none
def UL (c a b:AV):M_ :=
 match c with
 |.d (.bool true)=>some a
 |.d (.bool false)=>some b
 |_=>none
def abv (neg:Bool)(a b:AV):BF_ :=
 match a,b with
 |.d (.bool a),.d (.bool b)=>some (.bool (match neg with|true=>!(a == b)|false=>a == b))
 |_,_=>none
def Lp (neg:Bool)(ks:U_)(a b:AV):BF_ :=
 match a,b with
 |.agg a,.agg b=>match bB ks a b with
  |some t=>some (.bool (match neg with|true=>!t|false=>t))
  |none=>none
 |_,_=>none
def fo (op:BinOp)(a b:AV):BF_ :=
 match dD op a b with
 |some (.d x)=>some x
 |_=>none
def unD (op:UnOp)(a:AV):BF_ :=
 match ab6 op a with
 |some (.d x)=>some x
 |_=>none
def YO (k:IntKind)(a:AV):BF_ :=
 match a with
 |.d (.int _ n)=>some (.int k (wr k n))
 |_=>none
def Ot (h:am)(a:AV):BF_ :=
 match elems h a with
 |some xs=>match vZ xs with
  |some s=>some (.str s)
  |none=>none
 |none=>none
def Gn (z:W_)(l c:AV):M_ :=
 match ej c aX with
 |some c=>match ej l c with
  |some n=>some (.own true z.length (List.replicate n z))
  |none=>none
 |none=>none
def mR (h:am)(m:Nat)(x:AV)(lo hi mx:M_):M_ :=
 match okSl h m x with
 |true=>vR m x lo hi mx
 |false=>none
def TL (hp:am)(n:Nat)(x:AV)(lo hi mx:M_):M_ :=
 match x with
 |.ptr id off=>UA hp n id off lo hi mx
 |_=>none
def aBU (off:Nat)(n:I_)(x:AV):M_ :=
 match x with
 |.agg cs=>GR n cs off
 |_=>none
def ZP (hp:am)(n:Nat)(x i:AV):M_ :=
 match sf i with
 |some i=>match x with
  |.sl id off len=>match Nat.ble len i with
   |true=>none
   |false=>match get hp id with
    |some (.arr m _)=>match Nat.beq m n with
     |true=>some (.pel id (off+i) 0)
     |false=>none
    |some (.cells _)=>match Nat.beq n 1 with
     |true=>some (.ptr id (off+i))
     |false=>none
    |_=>none
  |v=>match elems hp v with
   |some xs=>match xs[i]? with
    |some x=>match Nat.beq x.length n with
     |true=>some (.pim x 0)
     |false=>none
    |none=>none
   |none=>none
 |none=>none
def Ly (len n:Nat)(p i:AV):M_ :=
 match sf i with
 |some i=>match Nat.ble len i with
  |true=>none
  |false=>iE (i*n) p
 |none=>none
def ixV (len n:Nat)(agg:Bool)(x i:AV):M_ :=
 match x with
 |.agg cs=>match sf i with
  |some i=>match Nat.ble len i with
   |true=>none
   |false=>GR (ahy agg n) cs (i*n)
  |none=>none
 |_=>none
def ape (x i:AV):BF_ :=
 match x with
 |.d (.str s)=>match sf i with
  |some i=>match s[i]? with
   |some b=>some (.int .u8 (.ofNat b.toNat))
   |none=>none
  |none=>none
 |_=>none
def Bo (mv:Bool)(t:AV)(i:Nat):M_ :=
 match t with
 |.tup vs=>match vs[i]? with
  |some v=>match mv with
   |true=>some v
   |false=>some (share v)
  |none=>none
 |_=>none
def PO (t:AV)(i:Nat):AV :=
 match t with
 |.tup vs=>.tup (vs.set i .junk)
 |v=>v
def acK (x:AV):Bool :=
 match x with
 |.nl=>true
 |_=>false
def aci (m:Nat)(h:am)(a b:AV):AF_ :=
 match elems h b with
 |some ys=>match gk m ys with
  |true=>et m h a ys
  |false=>none
 |none=>none
def It (z:W_)(h:am)(a n:AV):AF_ :=
 match ej n aX with
 |some n=>et z.length h a (List.replicate n z)
 |none=>none
def ag4 (m:Nat)(hp:am)(a b:AV):Option (D×am) :=
 match elems hp b with
 |some ys=>match a with
  |.sl id off len=>match get hp id with
   |some (.arr k xs)=>match gk m ys && Nat.beq k m && Nat.ble (off+len) xs.length with
    |true=>some (.int .i64 (.ofNat (min len ys.length)),put hp id (.arr k (aI xs off (ys.take len))))
    |false=>none
   |_=>none
  |_=>match lenOf a with
   |some 0=>some (.int .i64 (.ofNat 0),hp)
   |_=>none
 |none=>none
def aBS (z:W_)(hp:am)(x:AV):Option am :=
 match x with
 |.sl id off len=>match get hp id with
  |some (.arr k xs)=>match Nat.beq k z.length && Nat.ble (off+len) xs.length with
   |true=>some (put hp id (.arr k (aI xs off (List.replicate len z))))
   |false=>none
  |_=>none
 |_=>none
def FZ (isMax:Bool)(vs:D_):M_ :=
 match vs with
 |.d (.int k n)::vs=>DV isMax (.d (.int k n)) vs
 |_=>none
def GG (v:AV):M_ :=
 match v with
 |.ptr ..|.pel ..|.pim ..|.fn ..|.yield ..=>some v
 |_=>none
def fh (h:am)(n:I_)(p:AV):M_ :=
 match loadAt h n 0 p with
 |some (v,_)=>some v
 |none=>none
def LW (m:Nat)(vs:D_):Bool:=vs.all λv=>Nat.beq v.cells.length m && v.cells.all bn
def cG {β:Type}(e:aW)(x:Rd)(k:AV->aW->Option β):Option β :=
 match rd e x with
 |some (v,e)=>k v e
 |none=>none
def lm {β:Type}:aW->V_->(D_->aW->Option β)->Option β
 |e,[],k=>k [] e
 |e,x::r,k=>match rd e x with
  |some (v,e)=>lm e r λvs e=>k (v::vs) e
  |none=>none
def nD {β:Type}(e:aW)(x:AB_)(k:M_->aW->Option β):Option β :=
 match x with
 |none=>k none e
 |some x=>match rd e x with
  |some (v,e)=>k (some v) e
  |none=>none
def bL:Rd->Bool
 |.m _=>false
 |_=>true
def bR {β:Type}(P:Nat->Z_)(op:pk)(e:aW)(hs:HS)(k:AV->aW->HS->Option β):Option β :=
 match op with
 |.mov x=>cG e x λv e=>k v e hs
 |.pick c a b=>cG e c λc e=>match bL a && bL b,rd e a,rd e b with
  |true,some (a,_),some (b,_)=>bA (UL c a b) λv=>k v e hs
  |_,_,_=>bP (lO (.c c) a b ⟨e,hs⟩) λv st=>k v st.env st.hs
 |.alloc zs=>lA (put hs.heap hs.next (.cells zs)) λh=>k (.ptr hs.next 0) e ⟨h,hs.next+1⟩
 |.box x=>cG e x λv e=>dQ (v.cells.all bn) (lA (put hs.heap hs.next (.cells v.cells)) λh=>k (.ptr hs.next 0) e ⟨h,hs.next+1⟩)
 |.build zs ps=>lm e (qp ps) λvs e=>bA (eu zs (uu ps vs)) λcs=>k (.agg cs) e hs
 |.mks m ps=>lm e ps λvs e=>bA (j8 m vs) λxs=>k (.own true m xs) e hs
 |.mksv m ps=>lm e ps λvs e=>dQ (LW m vs) (lA (put hs.heap hs.next (.cells (vs.flatMap AV.cells))) λh=>k (.sl hs.next 0 vs.length) e ⟨h,hs.next+1⟩)
 |.ld n 0 p=>cG e p λp e=>bA (fh hs.heap n p) λv=>k v e hs
 |.ld n (t+1) p=>cG e p λp e=>bP (loadAt hs.heap n (t+1) p) λv h=>k v e ⟨h,hs.next⟩
 |.st n p x=>cG e p λp e=>cG e x λx e=>bA (storeAt hs.heap n p x) λh=>k .junk e ⟨h,hs.next⟩
 |.nilck x=>cG e x λv e=>bA (GG v) λv=>k v e hs
 |.bin op x y=>cG e x λa e=>cG e y λb e=>bA (fo op a b) λv=>k (.d v) e hs
 |.binb neg x y=>cG e x λa e=>cG e y λb e=>bA (abv neg a b) λv=>k (.d v) e hs
 |.bina neg ks x y=>cG e x λa e=>cG e y λb e=>bA (Lp neg ks a b) λv=>k (.d v) e hs
 |.un op x=>cG e x λa e=>bA (unD op a) λv=>k (.d v) e hs
 |.conv j x=>cG e x λa e=>bA (YO j a) λv=>k (.d v) e hs
 |.toStr x=>cG e x λa e=>bA (Ot hs.heap a) λv=>k (.d v) e hs
 |.mkfn f a c=>lm e a λa e=>lm e c λc e=>k (.fn f (shareAll a) (shareAll c)) e hs
 |.mkslice z l c=>cG e l λl e=>cG e c λc e=>bA (Gn z l c) λv=>k v e hs
 |.slice m x lo hi mx=>cG e x λx e=>nD e lo λlo e=>nD e hi λhi e=>nD e mx λmx e=>bA (mR hs.heap m x lo hi mx) λv=>k v e hs
 |.slarr n x lo hi mx=>cG e x λx e=>nD e lo λlo e=>nD e hi λhi e=>nD e mx λmx e=>bA (TL hs.heap n x lo hi mx) λv=>k v e hs
 |.fa off p=>cG e p λp e=>bA (iE off p) λv=>k v e hs
 |.fld off n x=>cG e x λx e=>bA (aBU off n x) λv=>k v e hs
 |.ia n x i=>cG e x λx e=>cG e i λi e=>bA (ZP hs.heap n x i) λv=>k v e hs
 |.iarr l n p i=>cG e p λp e=>cG e i λi e=>bA (Ly l n p i) λv=>k v e hs
 |.ix l n a x i=>cG e x λx e=>cG e i λi e=>bA (ixV l n a x i) λv=>k v e hs
 |.ixs x i=>cG e x λx e=>cG e i λi e=>bA (ape x i) λv=>k (.d v) e hs
 |.ext j true i=>match get e j with
  |some t=>bA (Bo true t i) λv=>k v (put e j (PO t i)) hs
  |none=>none
 |.ext j false i=>match get e j with
  |some t=>bA (Bo false t i) λv=>k v e hs
  |none=>none
 |.len x=>cG e x λx e=>bA (lenOf x) λn=>k (.int .i64 (.ofNat n)) e hs
 |.cap x=>cG e x λx e=>dQ (acK x) (k (.int .i64 (.ofNat 0)) e hs)
 |.app m x y=>cG e x λa e=>cG e y λb e=>bP (aci m hs.heap a b) λv h=>k v e ⟨h,hs.next⟩
 |.appz z x n=>cG e x λa e=>cG e n λn e=>bP (It z hs.heap a n) λv h=>k v e ⟨h,hs.next⟩
 |.cpy m x y=>cG e x λa e=>cG e y λb e=>bP (ag4 m hs.heap a b) λv h=>k (.d v) e ⟨h,hs.next⟩
 |.clr z x=>cG e x λx e=>bA (aBS z hs.heap x) λh=>k (.tup []) e ⟨h,hs.next⟩
 |.minmax b xs=>lm e xs λvs e=>bA (FZ b vs) λv=>k v e hs
 |.call f args=>lm e args λvs e=>bA (fj (Dn P) f vs hs.heap) λv=>k v e hs
 |.calli f args=>lm e args λvs e=>bP ((Dn P).call f vs hs) λv hs=>k v e hs
 |.callv f args=>cG e f λf e=>lm e args λvs e=>bP (cy (Dn P) f vs hs) λv hs=>k v e hs
 |.kill is=>k (.tup []) (is.foldl del e) hs
 |.idxb x c=>cG e x λx e=>cG e c λc e=>bA (avl hs.heap x c) λv=>k v e hs
 |op=>bP (dl op (Dn P) ⟨e,hs⟩) λv st=>k v st.env st.hs
def iq:V_->Bool
 |[]=>true
 |x::r=>bL x && iq r
def C5:AB_->Bool
 |none=>true
 |some x=>bL x
def dE:pk->Bool
 |.mov x=>bL x
 |.ld _ 0 p=>bL p
 |.nilck x=>bL x
 |.bin _ x y=>bL x && bL y
 |.binb _ x y=>bL x && bL y
 |.un _ x=>bL x
 |.conv _ x=>bL x
 |.fa _ p=>bL p
 |.fld _ _ x=>bL x
 |.ia _ x i=>bL x && bL i
 |.iarr _ _ p i=>bL p && bL i
 |.ix _ _ _ x i=>bL x && bL i
 |.ixs x i=>bL x && bL i
 |.ext _ mv _=>!mv
 |.len x=>bL x
 |.call _ args=>iq args
 |.pick c a b=>bL c && bL a && bL b
 |.build _ ps=>iq (qp ps)
 |.toStr x=>bL x
 |.mkfn _ a c=>iq a && iq c
 |.mkslice _ l c=>bL l && bL c
 |.minmax _ xs=>iq xs
 |.slice _ x a b c=>bL x && (C5 a && (C5 b && C5 c))
 |_=>false
def Af:pk->Bool
 |.calli _ args=>iq args
 |.callv f args=>bL f && iq args
 |_=>false
def Xb (P:Nat->Z_)(i:VI)(e:aW)(hs:HS)(k:aW->HS->Y_):Y_ :=
 match i.guard with
 |none=>match i.th with
  |[]=>match i.dst with
   |some d=>bR P i.op e hs λv e hs=>k (put e d (firm v)) hs
   |none=>bR P i.op e hs λ_ e hs=>k e hs
  |th=>match i.dst with
   |some d=>bR P i.op e hs λv e hs=>lP (ed th v hs) λv hs=>k (put e d (firm v)) hs
   |none=>bR P i.op e hs λv e hs=>lP (ed th v hs) λ_ hs=>k e hs
 |some (s,w)=>match dE i.op,i.th,i.dst with
  |true,[],some d=>match get e s with
   |some g=>bA (gV g w (bR P i.op e hs λv _ _=>some v)) λv=>k (put e d (firm v)) hs
   |none=>none
  |_,_,_=>match Af i.op,i.th,i.dst with
   |true,[],some d=>match get e s with
    |some g=>bP (gH g w hs (bR P i.op e hs λv _ hs=>some (v,hs))) λv hs=>k (put e d (firm v)) hs
    |none=>none
   |_,_,_=>bA (cX (Dn P) i ⟨e,hs⟩) λst=>k st.env st.hs
def qj (P:Nat->Z_):T_->aW->HS->Y_
 |[],e,hs=>some ⟨e,hs⟩
 |i::l,e,hs=>Xb P i e hs λe hs=>qj P l e hs
theorem axj {op:BinOp}{a b v:AV}(h:dD op a b=some v):∃x,v=.d x:=by
 unfold dD at h
 grind
theorem azS {op:UnOp}{a v:AV}(h:ab6 op a=some v):∃x,v=.d x:=by
 unfold ab6 at h
 grind
theorem ft {β:Type}{e:aW}{x:Rd}{k:AV->aW->Option β}:cG e x k=match rd e x with|some (v,e)=>k v e|none=>none:=rfl
theorem oR {β:Type}:∀{l:V_}{e:aW}{k:D_->aW->Option β},lm e l k=match rdAll e l with|some (vs,e)=>k vs e|none=>none
 |[],_,_=>rfl
 |x::r,e,k=>by
  simp only[lm,rdAll]
  cases rd e x with
  |none=>rfl
  |some p =>
   simp only;rw[oR]
   grind
def aml {β:Type}{e:aW}{x:AB_}{k:M_->aW->Option β}:nD e x k=match rdOpt e x with|some (v,e)=>k v e|none=>none:=by
 cases x<;>grind [nD,rdOpt]
def avx {h h':am}{n:I_}{p v:AV}(k:loadAt h n 0 p=some (v,h')):h'=h:=by
 unfold loadAt at k
 grind
def gz {β:Type}(x:L_)(k:AV->aW->HS->Option β):Option β :=
 match x with
 |some (v,st)=>k v st.env st.hs
 |none=>none
theorem uf {e e1:aW}{x:Rd}{v:AV}(hs:bL x=true)(h:rd e x=some (v,e1)):e1=e:=by
 cases x<;>grind [rd,bL]
theorem PR {a b:Rd}{st:St}:lO (.c (B_ true)) a b st=match rd st.env a with|some (v,e)=>some (v,⟨e,st.hs⟩)|none=>none:=rfl
theorem P5 {a b:Rd}{st:St}:lO (.c (B_ false)) a b st=match rd st.env b with|some (v,e)=>some (v,⟨e,st.hs⟩)|none=>none:=rfl
def Kq {β:Type}{op:pk}{e:aW}{hs:HS}{k:AV->aW->HS->Option β}:bR P op e hs k=gz (dl op (Dn P) ⟨e,hs⟩) k:=by
 cases op with
 |mov x=>grind [bR,dl,UG,ft,gz]
 |pick c a b =>
  simp only[bR,dl,ft]
  cases hc:rd e c with
  |none=>grind [lO,gz]
  |some q =>
   obtain⟨v,e1⟩:=q;have h0:lO c a b ⟨e,hs⟩=lO (.c v) a b ⟨e1,hs⟩:=by
    unfold lO;simp only;rw[hc];rfl
   rw[h0];simp only;split
   .rename_i va _ vb _ hst hra hrb;simp only[af]at hst;have ea:=uf hst.1 hra;have eb:=uf hst.2 hrb;subst ea;subst eb;simp only[gz]
    cases v with
    |d x=>cases x with
     |bool t =>
      cases t
      all_goals grind [P5,UL,bA,PR]
     |_=>rfl
    |_=>rfl
   .simp only[bP,gz]
    grind
 |ld n t p =>
  cases t with
  |zero =>
   simp only[bR,dl,FB,ft,gz]
   cases rd e p with
   |none=>rfl
   |some q =>
    obtain⟨v,e1⟩:=q;simp only[fh,bA]
    cases hl:loadAt hs.heap n 0 v with
    |none=>rfl
    |some r=>obtain⟨v2,h2⟩:=r;simp only[avx hl]
  |succ t =>
   grind [bR,dl,FB,ft,gz,bP]
 |alloc zs=>rfl
 |box x =>
  grind [bR,dl,Vh,ft,gz,dQ,lA,Kg]
 |build zs ps =>
  grind [bR,dl,FJ,oR,gz,bA]
 |mks m ps =>
  grind [bR,dl,Pl,oR,gz,bA]
 |mksv m ps =>
  grind [bR,dl,abo,oR,gz,dQ,lA,Kg,LW]
 |st n p x =>
  simp only[bR,dl,aob,ft,gz]
  grind [bA]
 |nilck x =>
  grind [bR,dl,IP,ft,gz,bA,GG]
 |bin op x y =>
  simp only[bR,dl,Pe,UN,ft,gz]
  grind [bA,fo,axj]
 |binb neg x y =>
  simp only[bR,dl,N5,ft,gz]
  grind [bA,abv]
 |bina neg ks x y =>
  simp only[bR,dl,NO,ft,gz]
  cases rd e x<;>grind [bA,Lp]
 |un op x =>
  grind [bR,dl,adM,ft,gz,bA,unD,azS]
 |conv j x =>
  simp only[bR,dl,JQ,ft,gz]
  cases rd e x with
  |none=>rfl
  |some q =>
   obtain⟨v,e1⟩:=q;simp only[bA,YO]
   grind
 |toStr x =>
  simp only[bR,dl,Nu,ft,gz]
  grind [bA,Ot]
 |mkfn f a c =>
  grind [bR,dl,I1,oR,gz]
 |mkslice z l c =>
  simp only[bR,dl,mS,ft,gz]
  cases rd e l<;>grind [bA,Gn]
 |slice m x lo hi mx =>
  simp only[bR,dl,N9,ft,aml,gz]
  cases rd e x<;>grind [bA,mR]
 |slarr n x lo hi mx =>
  simp only[bR,dl,Vb,ft,aml,gz]
  cases rd e x with
  |none=>rfl
  |some q =>
   obtain⟨v,e1⟩:=q;simp only
   cases v<;>grind [bA,TL]
 |fa off p =>
  grind [bR,dl,acf,ft,gz,bA]
 |fld off n x =>
  simp only[bR,dl,Pp,ft,gz]
  cases rd e x with
  |none=>rfl
  |some q =>
   obtain⟨v,e1⟩:=q;simp only[bA,aBU]
   grind
 |ia n x i =>
  simp only[bR,dl,ahC,ft,gz]
  cases rd e x with
  |none=>rfl
  |some q =>
   obtain⟨v,e1⟩:=q;simp only
   cases rd e1 i with
   |none=>rfl
   |some q =>
    obtain⟨w,e2⟩:=q;simp only[bA,ZP]
    cases sf w with
    |none=>rfl
    |some j =>
     simp only
     cases v<;>grind
 |iarr l n p i =>
  simp only[bR,dl,Og,ft,gz]
  cases rd e p<;>grind [bA,Ly]
 |ix l n a x i =>
  simp only[bR,dl,XW,ft,gz]
  cases rd e x with
  |none=>rfl
  |some q =>
   obtain⟨v,e1⟩:=q;simp only
   cases hi:rd e1 i with
   |none=>grind
   |some q =>
    obtain⟨w,e2⟩:=q;simp only[bA,ixV]
    grind
 |ixs x i =>
  simp only[bR,dl,Pt,ft,gz]
  cases rd e x with
  |none=>rfl
  |some q =>
   obtain⟨v,e1⟩:=q;simp only
   cases hi:rd e1 i with
   |none=>grind
   |some q =>
    obtain⟨w,e2⟩:=q;simp only[bA,ape]
    grind
 |ext j mv i =>
  cases mv with
  |true =>
   simp only[bR,dl,CU,gz]
   cases get e j with
   |none=>rfl
   |some t =>
    simp only[bA,Bo,PO]
    grind
  |false =>
   simp only[bR,dl,CU,gz]
   cases get e j with
   |none=>rfl
   |some t =>
    simp only[bA,Bo]
    grind
 |len x =>
  grind [bR,dl,U0,ft,gz,bA]
 |cap x =>
  simp only[bR,dl,Qh,ft,gz]
  cases rd e x with
  |none=>rfl
  |some q =>
   obtain⟨v,e1⟩:=q;simp only[dQ,acK]
   grind
 |app m x y =>
  simp only[bR,dl,Iw,ft,gz]
  cases rd e x<;>grind [bP,aci]
 |appz z x n =>
  simp only[bR,dl,aia,ft,gz]
  grind [bP,It]
 |cpy m x y =>
  simp only[bR,dl,YP,ft,gz]
  cases rd e x with
  |none=>rfl
  |some q =>
   obtain⟨v,e1⟩:=q;simp only
   cases rd e1 y with
   |none=>rfl
   |some q =>
    obtain⟨w,e2⟩:=q;simp only[bP,ag4]
    cases elems hs.heap w with
    |none=>rfl
    |some ys =>
     simp only
     cases v with
     |sl id off len =>
      grind
     |_ =>
      simp only;generalize lenOf _=n
      cases n with
      |none=>rfl
      |some n=>cases n<;>rfl
 |clr z x =>
  simp only[bR,dl,Up,ft,gz]
  cases rd e x with
  |none=>rfl
  |some q =>
   simp only[bA,aBS]
   grind
 |minmax b xs =>
  simp only[bR,dl,AU,oR,gz]
  cases rdAll e xs with
  |none=>rfl
  |some q =>
   simp only[bA,FZ]
   grind
 |call f args =>
  grind [bR,dl,GV,oR,gz,bA]
 |calli f args =>
  grind [bR,dl,EW,oR,gz,bP]
 |callv f args =>
  simp only[bR,dl,FV,ft,oR,gz]
  grind [bP]
 |kill is=>rfl
 |idxb x c =>
  simp only[bR,dl,ajQ,ft,gz]
  grind [bA]
 |_ =>
  simp only[bR,bP,gz]
  grind
theorem Q9:∀{l:V_}{e e1:aW}{vs:D_},iq l=true->rdAll e l=some (vs,e1)->e1=e
 |[],e,e1,vs,_,h=>by grind [rdAll]
 |x::r,e,e1,vs,hs,h=>by
  simp only[iq,af]at hs;simp only[rdAll]at h;split at h
  .simp at h
  .rename_i v e2 h1;split at h
   .simp at h
   .rename_i vs2 e3 h2;have a1:=uf hs.1 h1;have a2:=Q9 hs.2 h2
    simp_all
theorem lg {β:Type}{e:aW}{x:Rd}{k:AV->aW->Option β}(h:bL x=true):cG e x k=cG e x λv _=>k v e:=by
 grind [cG,uf]
theorem yG {β:Type}{e:aW}{l:V_}{k:D_->aW->Option β}(h:iq l=true):lm e l k=lm e l λv _=>k v e:=by
 grind [oR,Q9]
theorem QK {β:Type}{e:aW}{x:AB_}{k:M_->aW->Option β}(h:C5 x=true):nD e x k=nD e x λv _=>k v e:=by
 cases x with
 |none=>rfl
 |some x=>exact lg (k:=λv e=>k (some v) e) h
theorem mw {α β γ:Type}{x:Option α}{f:α->Option β}{g:β->Option γ}:bA (bA x f) g=bA x λv=>bA (f v) g:=by
 cases x<;>rfl
theorem gn {β γ:Type}{e:aW}{x:Rd}{k:AV->aW->Option β}{g:β->Option γ}:bA (cG e x k) g=cG e x λv e=>bA (k v e) g:=by
 simp only[cG];cases rd e x<;>rfl
theorem LF {β γ:Type}{e:aW}{x:V_}{k:D_->aW->Option β}{g:β->Option γ}:bA (lm e x k) g=lm e x λv e=>bA (k v e) g:=by
 simp only[oR];cases rdAll e x<;>rfl
theorem fU {α β:Type}{v:α}{f:α->Option β}:bA (some v) f=f v:=rfl
def SF {β:Type}{e:aW}{x y:Rd}{k:AV->AV->aW->Option β}(h:bL x=true)(h2:bL y=true):(cG e x λa e=>cG e y λb e=>k a b e)=cG e x λa _=>cG e y λb _=>k a b e:=by
 grind [cG,uf]
def PG {β:Type}{e:aW}{x y:Rd}{k:AV->AV->Option β}(h:bL x=true)(h2:bL y=true):(cG e x λa e=>cG e y λb _=>k a b)=cG e x λa _=>cG e y λb _=>k a b:=SF (k:=λa b _=>k a b) h h2
def asF {β:Type}{op:pk}{e:aW}{hs:HS}{k:AV->aW->HS->Option β}(h:dE op=true):bR P op e hs k=bA (bR P op e hs λv _ _=>some v) λv=>k v e hs:=by
 cases op with
 |mov x =>
  grind [dE,bR,gn,fU,lg]
 |ld n t p =>
  cases t<;>simp_all [dE,bR,gn,mw,fU,lg]
 |nilck x =>
  grind [dE,bR,gn,mw,fU,lg]
 |un op x =>
  grind [dE,bR,gn,mw,fU,lg]
 |conv op x =>
  grind [dE,bR,gn,mw,fU,lg]
 |fa off p =>
  grind [dE,bR,gn,mw,fU,lg]
 |fld off n p =>
  grind [dE,bR,gn,mw,fU,lg]
 |len x =>
  grind [dE,bR,gn,mw,fU,lg]
 |bin op x y =>
  simp only[dE,af]at h;simp only[bR,gn,mw,fU];exact(SF h.1 h.2).trans (PG h.1 h.2).symm
 |binb op x y =>
  simp only[dE,af]at h;simp only[bR,gn,mw,fU];exact(SF h.1 h.2).trans (PG h.1 h.2).symm
 |ia n x y =>
  simp only[dE,af]at h;simp only[bR,gn,mw,fU];exact(SF h.1 h.2).trans (PG h.1 h.2).symm
 |iarr l n x y =>
  simp only[dE,af]at h;simp only[bR,gn,mw,fU];exact(SF h.1 h.2).trans (PG h.1 h.2).symm
 |ix l n a x y =>
  simp only[dE,af]at h;simp only[bR,gn,mw,fU];exact(SF h.1 h.2).trans (PG h.1 h.2).symm
 |ixs x y =>
  simp only[dE,af]at h;simp only[bR,gn,mw,fU];exact(SF h.1 h.2).trans (PG h.1 h.2).symm
 |ext j mv i =>
  cases mv with
  |true=>simp[dE]at h
  |false =>
   simp only[bR]
   cases get e j with
   |none=>rfl
   |some t=>grind [mw,fU]
 |call f args =>
  grind [dE,bR,LF,mw,fU,yG]
 |build zs ps =>
  grind [dE,bR,LF,mw,fU,yG]
 |slice m x lo hi mx =>
  simp only[dE,af]at h;obtain⟨h0,h1,h2,h3⟩:=h;have bd:∀{γ:Type}{x:AB_}{e:aW}{k:M_->aW->M_}{g:AV->Option γ},bA (nD e x k) g=nD e x λv e=>bA (k v e) g:=by
   intro γ x e k g
   cases x with
   |none=>rfl
   |some x=>exact gn
  simp only[bR,gn,bd,mw,fU];rw[lg h0,lg (k:=λv e_1=>nD e_1 lo λv_1 e_1=>nD e_1 hi λv_2 e_1=>nD e_1 mx λv_3 _=>bA (mR hs.heap m v v_1 v_2 v_3) λv=>k v e hs) h0]
  congr 1
  funext v _;rw[QK h1,QK (k:=λv_1 e_1=>nD e_1 hi λv_2 e_1=>nD e_1 mx λv_3 _=>bA (mR hs.heap m v v_1 v_2 v_3) λv=>k v e hs) h1]
  grind [QK]
 |minmax b ps =>
  grind [dE,bR,LF,mw,fU,yG]
 |toStr x =>
  grind [dE,bR,gn,mw,fU,lg]
 |mkslice z x y =>
  simp only[dE,af]at h;simp only[bR,gn,mw,fU];exact(SF h.1 h.2).trans (PG h.1 h.2).symm
 |mkfn f a c =>
  simp_all [dE,bR,LF,fU,yG]
 |pick c a b =>
  simp only[dE,af]at h;simp only[bR,gn];have h2:(bL a && bL b)=true:=u_;simp only[cG]
  cases hc:rd e c with
  |none=>rfl
  |some q =>
   obtain⟨v,e1⟩:=q;have:=uf h.1.1 hc;subst this;simp only[h2]
   cases ha:rd e1 a with
   |none =>
    cases hb:rd e1 b with
    |none =>
     cases v<;>try rfl
     rename_i d;cases d<;>try rfl
     rename_i t;cases t<;>simp only[PR,P5,ha,hb,bP,bA]
    |some q =>
     have:=uf h.2 hb;subst this
     cases v<;>try rfl
     rename_i d;cases d<;>try rfl
     rename_i t;cases t<;>simp only[PR,P5,ha,hb,bP,bA]
   |some q =>
    obtain⟨va,ea⟩:=q;have:=uf h.1.2 ha;subst this
    cases hb:rd ea b with
    |none =>
     cases v<;>try rfl
     rename_i d;cases d<;>try rfl
     rename_i t;cases t<;>simp only[PR,P5,ha,hb,bP,bA]
    |some q=>grind [mw,fU]
 |_=>simp[dE]at h
def awX {α β γ δ ε:Type}{x:Option (α×β)}{f:α->β->Option (γ×δ)}{g:γ->δ->Option ε}:bP (bP x f) g=bP x λv w=>bP (f v w) g:=by
 cases x<;>rfl
def apP {β:Type}{op:pk}{e:aW}{hs:HS}{k:AV->aW->HS->Option β}(h:Af op=true):bR P op e hs k=bP (bR P op e hs λv _ hs=>some (v,hs)) λv hs=>k v e hs:=by
 cases op with
 |calli f args =>
  simp only[bR];rw[yG h];simp only[oR]
  cases rdAll e args with
  |none=>rfl
  |some q=>simp only[awX];rfl
 |callv f args =>
  simp only[Af,af]at h;simp only[bR];simp only[yG h.2];simp only[cG]
  cases hf:rd e f with
  |none=>rfl
  |some q =>
   obtain⟨v,e1⟩:=q;have:=uf h.1 hf;subst this;simp only[oR]
   cases rdAll e1 args with
   |none=>rfl
   |some q=>simp only[awX];rfl
 |_=>simp[Af]at h
def afc:firm (.tup [])=.tup []:=rfl
def Ky {i:VI}{e:aW}{hs:HS}{k:aW->HS->Y_}:Xb P i e hs k=bA (cX (Dn P) i ⟨e,hs⟩) λst=>k st.env st.hs:=by
 obtain⟨dst,guard,op,th⟩:=i;unfold Xb
 cases guard with
 |none =>
  simp only[cX,gD]
  cases th with
  |nil =>
   cases dst with
   |none =>
    simp only[Kq,gz,cS]
    cases dl op (Dn P) ⟨e,hs⟩<;>rfl
   |some d =>
    simp only[Kq,gz,cS]
    cases dl op (Dn P) ⟨e,hs⟩<;>rfl
  |cons p r =>
   cases dst with
   |none =>
    simp only[Kq,gz,cS,lP]
    cases dl op (Dn P) ⟨e,hs⟩<;>rfl
   |some d =>
    simp only[Kq,gz,cS,lP]
    cases dl op (Dn P) ⟨e,hs⟩<;>rfl
 |some g =>
  obtain⟨s,w⟩:=g;simp only;split
  .rename_i d hst;have he:∀{k:AV->aW->HS->Y_},gz (dl op (Dn P) ⟨e,hs⟩) k=bA (bR P op e hs λv _ _=>some v) λv=>k v e hs:=by
    intro k;rw[<-Kq,asF hst]
   have hv:∀{k:aW->HS->Y_},bA (gD (Dn P) ⟨some d,some (s,w),op,[]⟩ ⟨e,hs⟩) (λst=>k st.env st.hs)=bA (bR P op e hs λv _ _=>some v) λv=>k (put e d (firm v)) hs:=by
    intro k;rw[<-he (k:=λv e hs=>k (put e d (firm v)) hs)];simp only[gD,gz,cS]
    cases dl op (Dn P) ⟨e,hs⟩<;>rfl
   simp only[cX]
   cases get e s with
   |none=>rfl
   |some g =>
    cases g with
    |d x=>cases x with
     |bool b =>
      simp only[gV]
      cases hb:(b == w)<;>simp_all [bA,afc,cS]
     |_=>rfl
    |tup vs=>cases vs<;>rfl
    |_=>rfl
  .split
   .rename_i d hst _;have he:∀{k:AV->aW->HS->Y_},gz (dl op (Dn P) ⟨e,hs⟩) k=bP (bR P op e hs λv _ hs=>some (v,hs)) λv hs=>k v e hs:=by
     intro k;rw[<-Kq,apP hst]
    have hv:∀{k:aW->HS->Y_},bA (gD (Dn P) ⟨some d,some (s,w),op,[]⟩ ⟨e,hs⟩) (λst=>k st.env st.hs)=bP (bR P op e hs λv _ hs=>some (v,hs)) λv hs=>k (put e d (firm v)) hs:=by
     intro k;rw[<-he (k:=λv e hs=>k (put e d (firm v)) hs)];simp only[gD,gz,cS]
     cases dl op (Dn P) ⟨e,hs⟩<;>rfl
    simp only[cX]
    cases get e s with
    |none=>rfl
    |some g =>
     cases g with
     |d x=>cases x with
      |bool b =>
       simp only[gH]
       cases hb:(b == w)<;>simp_all [bA,bP,afc,cS]
      |_=>rfl
     |tup vs=>cases vs<;>rfl
     |_=>rfl
   .rfl
theorem acd:∀{l:T_}{e:aW}{hs:HS},lk (Dn P) l ⟨e,hs⟩=qj P l e hs
 |[],_,_=>rfl
 |i::l,e,hs=>by
  simp only[lk,qj,Ky,bA]
  cases cX (Dn P) i ⟨e,hs⟩ with
  |none=>rfl
  |some st=>exact acd
def GU {d:Bool}{ops:T_}{e:aW}{hs:HS}{x:Y_}(h:qj P ops e hs=x):(Dn P).code (.reg d ops) ⟨e,hs⟩=fy x:=by
 grind [Xl,acd]
def aoy {perm gco:C_}{ops:T_}{e:aW}{hs:HS}{x:Y_}(ha:tq e ops=true)(hb:(perm.all λi=>decide (i<ops.length))=true)(h:qj P (perm.filterMap λi=>ops[i]?) e hs=x):(Dn P).code (.regP perm gco [] ops) ⟨e,hs⟩=fy x:=by
 grind [aqR,aeb,acd]
def az4 (e:aW)(d:I_):Bool :=
 match d with
 |some d=>match get e d with
  |some a=>Mr a
  |none=>false
 |none=>false
def auP (P:Nat->Z_)(F:C_)(v:VI)(e:aW)(hs:HS)(k:aW->HS->Y_):Y_ :=
 match uW v.op with
 |.call=>Xb P v e hs λe2 s2=>dQ (dO F hs.heap s2.heap) (k e2 s2)
 |.take=>Xb P v e hs λe2 s2=>dQ (az4 e2 v.dst) (k e2 s2)
 |.read=>Xb P v e ⟨dT (oT v e) hs.heap,hs.next⟩ λe2 _=>k e2 hs
def aaZ (P:Nat->Z_):List (Bool×VI)->C_->aW->HS->Y_
 |[],_,e,hs=>some ⟨e,hs⟩
 |(a,v)::l,F,e,hs=>match a with
  |false=>Xb P v e hs λe2 s2=>aaZ P l F e2 s2
  |true=>auP P F v e hs λe2 s2=>aaZ P l (ko true v e F) e2 s2
def ayD {F:C_}{v:VI}{e:aW}{hs:HS}{k:aW->HS->Y_}:auP P F v e hs k=bA (xG (Dn P) F v ⟨e,hs⟩) λst=>k st.env st.hs:=by
 unfold auP xG
 cases uW v.op with
 |call =>
  simp only[Ky]
  cases cX (Dn P) v ⟨e,hs⟩ with
  |none=>rfl
  |some st =>
   simp only[bA]
   cases dO F hs.heap st.hs.heap<;>rfl
 |take =>
  simp only[Ky]
  cases cX (Dn P) v ⟨e,hs⟩ with
  |none=>rfl
  |some st =>
   simp only[bA,az4]
   cases v.dst with
   |none=>rfl
   |some d =>
    simp only
    cases get st.env d with
    |none=>rfl
    |some a=>simp only;cases Mr a<;>rfl
 |read =>
  simp only[Ky]
  cases cX (Dn P) v ⟨e,⟨dT (oT v e) hs.heap,hs.next⟩⟩<;>rfl
def agC (nr:C_)(ops:T_)(i:Nat):Option (Bool×VI) :=
 match ops[i]? with
 |some v=>some (fb i nr,v)
 |none=>none
def Yi {nr:C_}{ops:T_}:∀{l:C_}{F:C_}{e:aW}{hs:HS},(l.all λi=>decide (i<ops.length))=true->fW (Dn P) nr ops l F ⟨e,hs⟩=aaZ P (l.filterMap (agC nr ops)) F e hs
 |[],_,_,_,_=>rfl
 |i::l,F,e,hs,hb=>by
  simp only[gU,af,decide_eq_true_eq]at hb;have h1:ops[i]?=some ops[i]:=bC hb.1;have h2:agC nr ops i=some (fb i nr,ops[i]):=by grind [agC]
  simp only[fW,h1,List.filterMap_cons,h2,aaZ,cq]
  cases fb i nr with
  |false =>
   simp only[Ky,ko]
   cases cX (Dn P) ops[i] ⟨e,hs⟩ with
   |none=>rfl
   |some st=>exact Yi hb.2
  |true =>
   simp only[ayD]
   cases xG (Dn P) F ops[i] ⟨e,hs⟩ with
   |none=>rfl
   |some st=>exact Yi hb.2
def dU {perm gco nr:C_}{ops:T_}{e:aW}{hs:HS}{x:Y_}(ha:tq e ops=true)(hb:(perm.all λi=>decide (i<ops.length))=true)(h:aaZ P (perm.filterMap (agC nr ops)) [] e hs=x):(Dn P).code (.regP perm gco nr ops) ⟨e,hs⟩=fy x:=by
 rw[ji,<-h,<-Yi hb];simp only[db,OM,OG,ha]
 cases fW (Dn P) nr ops perm [] ⟨e,hs⟩<;>rfl
abbrev F (i:Nat):VC:=.reg false [⟨none,none,.free i,[]⟩]
def frK (e:aW)(hs:HS)(i:Nat):M_->K_
 |some (.ptr id _)=>some (.normal,⟨del e i,⟨del hs.heap id,hs.next⟩⟩)
 |some (.fn _ _ caps)=>some (.normal,⟨del e i,⟨delAll hs.heap (JY caps),hs.next⟩⟩)
 |_=>some (.normal,⟨e,hs⟩)
def aEk {e:aW}{h:am}{n i id o:Nat}:frK e ⟨h,n⟩ i (some (.ptr id o))=some (.normal,⟨del e i,⟨del h id,n⟩⟩):=rfl
def aD8 {e:aW}{h:am}{n i f:Nat}{a c:D_}:frK e ⟨h,n⟩ i (some (.fn f a c))=some (.normal,⟨del e i,⟨delAll h (JY c),n⟩⟩):=rfl
def aAc {i:Nat}{e:aW}{hs:HS}:(Dn P).code (F i) ⟨e,hs⟩=frK e hs i (get e i):=by
 rw[Xl];simp only[lk,cX,gD,dl,ZU]
 cases get e i with
 |none=>rfl
 |some v=>cases v<;>rfl
abbrev K (l:C_):VC:=.reg false [⟨none,none,.kill l,[]⟩]
def aBG {is:C_}{e:aW}{hs:HS}:(Dn P).code (K is) ⟨e,hs⟩=some (.normal,⟨is.foldl del e,hs⟩):=by rw[Xl];rfl
abbrev kp:=@Nat.two_pow_add_eq_or_of_lt
variable {P:Nat->Z_}
attribute [simp ↓] aCg aAv aAa aBg aBo aBT azH aCd aAu aAd aA8 aA6 azJ aCa aBp aBy aAt aBE OI ay9 azg ayq azc ayn
attribute [simp ↓] arR aqH avI anT aqk atJ aph aBG aAc aEk aD8 ayb ayI asY
attribute [simp] delAll JY
attribute [simp] aGW aAS aFD put1 aGF aBH
attribute [congr] ite_congr axa axH avW azq ax7 auR
def PW (x:Option (D_×St)):X_ :=
 match x with
 |some ([v],st)=>some (v,st.hs)
 |some (vs,st)=>some (.tup vs,st.hs)
 |none=>none
def aBX {fn:ak}{st:St}:HU fn st=PW (fV st fn.results):=(by
 simp only[HU,PW]
 cases fV st fn.results with
 |none=>rfl
 |some q =>
  obtain⟨vs,s⟩:=q
  cases vs with
  |nil=>rfl
  |cons v r=>cases r<;>rfl)
@[simp] def aIS {st:St}:PW (some ([],st))=some (.tup [],st.hs):=(rfl)
@[simp] def aIR {v:AV}{st:St}:PW (some ([v],st))=some (v,st.hs):=(rfl)
@[simp] def aJJ {v w:AV}{r:D_}{st:St}:PW (some (v::w::r,st))=some (.tup (v::w::r),st.hs):=(rfl)
def xk (rs:BB_)(x:K_):X_ :=
 match x with
 |some (.normal,st)=>PW (fV st rs)
 |some (.ret,st)=>PW (fV st rs)
 |_=>none
@[simp ↓] def aJl {rs:BB_}{st:St}:xk rs (some (.normal,st))=PW (fV st rs):=(rfl)
@[simp ↓] def aIQ {rs:BB_}{st:St}:xk rs (some (.ret,st))=PW (fV st rs):=(rfl)
@[simp ↓] def aIF {rs:BB_}{c:Prop}[Decidable c]{x y:K_}:xk rs (if c then x else y)=if c then xk rs x else xk rs y:=by split<;>rfl
@[simp ↓] def anH {n:Nat}{rs:BB_}{b:VC}{x:K_}:XR ⟨n,rs,b⟩ x=xk rs x:=by
 simp only[XR,xk];split<;>simp only[aBX]
def azs {rs:BB_}{x y:K_}(h:x=y):xk rs x=xk rs y:=by rw[h]
attribute [congr] azs
theorem ah {a b:VC}{st:St}(h:a=b):(Dn P).code (.loop a) st=r8 P a ((Dn P).code b st):=by rw[<-h];exact arn
def aD {f:FuncId}{fn:ak}{n:Nat}{rs:BB_}{b:VC}{args:D_}(hf:P f=some fn)(hd:fn=⟨n,rs,b⟩)(hl:args.length=n):bh P f args=uL (xk rs ((Dn P).code b ⟨kR 0 args,⟨[],0⟩⟩)):=by
 subst hd;rw[atw hf hl,anH]
def bb {f:FuncId}{fn:ak}{n:Nat}{rs:BB_}{b:VC}{args:D_}{hs:HS}(hf:P f=some fn)(hd:fn=⟨n,rs,b⟩)(hl:args.length=n):(Dn P).call f args hs=xk rs ((Dn P).code b ⟨kR 0 args,hs⟩):=by
 subst hd;rw[aet hf hl,anH]
@[simp ↓] def aKE {α β:Type}{v:α}{f:α->Option β}:bA (some v) f=f v:=(rfl)
@[simp ↓] def aKy {α β:Type}{f:α->Option β}:bA none f=none:=(rfl)
@[simp ↓] def aKG {α β:Type}{c:Prop}[Decidable c]{x y:Option α}{f:α->Option β}:bA (if c then x else y) f=if c then bA x f else bA y f:=by split<;>rfl
@[simp ↓] def aKD {α γ β:Type}{v:α}{w:γ}{f:α->γ->Option β}:bP (some (v,w)) f=f v w:=(rfl)
@[simp ↓] def aKt {α γ β:Type}{f:α->γ->Option β}:bP none f=none:=(rfl)
@[simp ↓] def aKx {α γ β:Type}{c:Prop}[Decidable c]{x y:Option (α×γ)}{f:α->γ->Option β}:bP (if c then x else y) f=if c then bP x f else bP y f:=by split<;>rfl
@[simp ↓] def aKH {α β:Type}{x:α}{f:α->β}:lA x f=f x:=(rfl)
@[simp ↓] def aKL {α γ β:Type}{x:α}{y:γ}{f:α->γ->β}:lP (x,y) f=f x y:=(rfl)
@[simp ↓] def aKa {β:Type}{x:Option β}:dQ true x=x:=(rfl)
@[simp ↓] def aKg {β:Type}{x:Option β}:dQ false x=none:=(rfl)
def aEm {α β:Type}{x y:Option α}{f:α->Option β}(h:x=y):bA x f=bA y f:=by rw[h]
def aCY {α γ β:Type}{x y:Option (α×γ)}{f:α->γ->Option β}(h:x=y):bP x f=bP y f:=by rw[h]
def aDx {α β:Type}{x y:α}{f:α->β}(h:x=y):lA x f=lA y f:=by rw[h]
def aCB {α γ β:Type}{x y:α×γ}{f:α->γ->β}(h:x=y):lP x f=lP y f:=by rw[h]
attribute [congr] aEm aCY aDx aCB
@[simp ↓] def aKd {x:M_}:gV (B_ true) true x=x:=(rfl)
@[simp ↓] def aKh {x:M_}:gV (B_ false) false x=x:=(rfl)
@[simp ↓] def aJ6 {x:M_}:gV (B_ true) false x=some (.tup []):=(rfl)
@[simp ↓] def aKk {x:M_}:gV (B_ false) true x=some (.tup []):=(rfl)
@[simp ↓] def aKB {w:Bool}{x:M_}:gV (.tup []) w x=some (.tup []):=(rfl)
@[simp ↓] def aJ0 {hs:HS}{x:X_}:gH (B_ true) true hs x=x:=(rfl)
@[simp ↓] def aKp {hs:HS}{x:X_}:gH (B_ false) false hs x=x:=(rfl)
@[simp ↓] def aJW {hs:HS}{x:X_}:gH (B_ true) false hs x=some (.tup [],hs):=(rfl)
@[simp ↓] def aKf {hs:HS}{x:X_}:gH (B_ false) true hs x=some (.tup [],hs):=(rfl)
@[simp ↓] def aKA {w:Bool}{hs:HS}{x:X_}:gH (.tup []) w hs x=some (.tup [],hs):=(rfl)
@[simp ↓] def aHL {a b:AV}:UL (B_ true) a b=some a:=(rfl)
@[simp ↓] def aH1 {a b:AV}:UL (B_ false) a b=some b:=(rfl)
@[simp] def aJh {x:D}:firm (.d x)=.d x:=(rfl)
@[simp] def aIa:firm .nl=.nl:=(rfl)
@[simp] def aGe {p:Bool}{m:Nat}{xs:E_}:firm (.own p m xs)=.own false m xs:=(rfl)
@[simp] def aGN {cs:D_}:firm (.agg cs)=.agg (cs.map oE):=(rfl)
@[simp] def aGn {cs:D_}:firm (.tup cs)=.tup (cs.map CO):=(rfl)
@[simp] def aGP {a b:Nat}:firm (.ptr a b)=.ptr a b:=(rfl)
@[simp] def aHl {a b c:Nat}:firm (.pel a b c)=.pel a b c:=(rfl)
@[simp] def aGv {a:W_}{b:Nat}:firm (.pim a b)=.pim a b:=(rfl)
@[simp] def aHz {a b c:Nat}:firm (.sl a b c)=.sl a b c:=(rfl)
@[simp] def aIs {f:FuncId}{a b:D_}:firm (.fn f a b)=.fn f a b:=(rfl)
@[simp] def aDO {n:Nat}:firm (.yield n)=.yield n:=(rfl)
def sJ {op:BinOp}{a b:AV}{x:D}(h:dD op a b=some (.d x)):fo op a b=some x:=by simp only[fo,h]
def BS {op:BinOp}{a b:AV}{c:Prop}[Decidable c]{x y:D}(h:dD op a b=if c then some (.d x) else some (.d y)):fo op a b=if c then some x else some y:=by
 by_cases hc:c<;>simp[fo,h,hc]
@[simp] def aIV {k:IntKind}{a b:Int}:fo .add (.d (.int k a)) (.d (.int k b))=some (.int k (wr k (a+b))):=sJ axq
@[simp] def aII {k:IntKind}{a b:Int}:fo .sub (.d (.int k a)) (.d (.int k b))=some (.int k (wr k (a-b))):=sJ azh
@[simp] def aI2 {k:IntKind}{a b:Int}:fo .mul (.d (.int k a)) (.d (.int k b))=some (.int k (wr k (a*b))):=sJ axR
@[simp] def aJA {k:IntKind}{a b:Int}(h:b≠0):fo .quo (.d (.int k a)) (.d (.int k b))=some (.int k (wr k (a.tdiv b))):=sJ (ayG h)
@[simp] def aID {k:IntKind}{a b:Int}(h:b≠0):fo .rem (.d (.int k a)) (.d (.int k b))=some (.int k (a.tmod b)):=sJ (ay3 h)
@[simp] def aIU {k:IntKind}{a b:Int}:fo .eql (.d (.int k a)) (.d (.int k b))=if a=b then some (.bool true) else some (.bool false):=BS aze
@[simp] def aI3 {k:IntKind}{a b:Int}:fo .neq (.d (.int k a)) (.d (.int k b))=if a=b then some (.bool false) else some (.bool true):=BS azC
@[simp] def aJH {k:IntKind}{a b:Int}:fo .lss (.d (.int k a)) (.d (.int k b))=if a<b then some (.bool true) else some (.bool false):=BS axi
@[simp] def aIN {k:IntKind}{a b:Int}:fo .leq (.d (.int k a)) (.d (.int k b))=if a<=b then some (.bool true) else some (.bool false):=BS aw5
@[simp] def aIO {k:IntKind}{a b:Int}:fo .gtr (.d (.int k a)) (.d (.int k b))=if b<a then some (.bool true) else some (.bool false):=BS axg
@[simp] def aJF {k:IntKind}{a b:Int}:fo .geq (.d (.int k a)) (.d (.int k b))=if b<=a then some (.bool true) else some (.bool false):=BS axL
@[simp] def tJ {k j:IntKind}{a b:Int}(h:0<=b):fo .shl (.d (.int k a)) (.d (.int j b))=some (.int k (wr k (a*((2 ^ (min b.toNat k.bits):Nat):Int)))):=sJ (ay6 h)
@[simp] def lT {k j:IntKind}{a b:Int}(h:0<=b):fo .shr (.d (.int k a)) (.d (.int j b))=some (.int k (a.fdiv ((2 ^ (min b.toNat k.bits):Nat):Int))):=sJ (ay2 h)
@[simp] def aIe {a b:AG_}:fo .eql (.d (.str a)) (.d (.str b))=if a=b then some (.bool true) else some (.bool false):=BS avE
@[simp] def aHX {a b:AG_}:fo .neq (.d (.str a)) (.d (.str b))=if a=b then some (.bool false) else some (.bool true):=BS atx
def apw {k:IntKind}{a b:Nat}(h:a<kr k)(h2:b<kr k)(h3:a |||b<kr k):fo .or (.d (.int k (a:Int))) (.d (.int k (b:Int)))=some (.int k ((a |||b:Nat):Int)):=sJ (aA7 h h2 h3)
def aqD {k:IntKind}{a b:Nat}(h:a<kr k)(h2:b<kr k):fo .and (.d (.int k (a:Int))) (.d (.int k (b:Int)))=some (.int k ((a &&& b:Nat):Int)):=sJ (azt h h2)
def aAq {k:IntKind}{a b:Nat}(h:a<kr k)(h2:b<kr k)(h3:a ^^^ b<kr k):fo .xor (.d (.int k (a:Int))) (.d (.int k (b:Int)))=some (.int k ((a ^^^ b:Nat):Int)):=sJ (aw6 h h2 h3)
def aqt {n b:Nat}(h:b<=1):2*n |||b=2*n+b:=by
 have:=kp (i:=1) (b:=b) o_ n;simpa using this.symm
@[simp] def aJg {a b:Int}(h:0<=a)(h1:a<4611686018427387904)(h2:a % 2=0)(h3:0<=b)(h4:b<=1):fo .or (A_ a) (A_ b)=some (.int .i64 (a+b)):=by
 obtain⟨n,rfl⟩:∃n:Nat,a=((2*n:Nat):Int):=⟨(a / 2).toNat,o_⟩
 obtain⟨m,rfl⟩:=aB h3;have hm:m<=1:=o_;have ht:kr .i64=9223372036854775808:=rfl;rw[apw o_ o_ (by rw[aqt hm];omega),aqt hm];simp
@[simp] def aH3 {b:Bool}:unD .not (B_ b)=some (.bool !b):=(rfl)
@[simp] def aHZ {k:IntKind}{n:Int}:unD .neg (.d (.int k n))=some (.int k (wr k (0-n))):=(rfl)
@[simp] def aHD {k j:IntKind}{n:Int}:YO k (.d (.int j n))=some (.int k (wr k n)):=(rfl)
attribute [simp] ahK aDr aAl aAJ azP
attribute [simp] au4 avo aqs arQ IntKind.bits
@[simp] def aHP {h:am}{m:Nat}{xs:E_}{k:IntKind}{i:Int}(h0:0<=i):ZP h m (.d (.lst xs)) (.d (.int k i))=bA xs[i.toNat]? λx=>if x.length=m then some (.pim x 0) else none:=by
 simp only[ZP,UW h0,elems]
 cases xs[i.toNat]? with
 |none=>rfl
 |some x =>
  simp only[bA];by_cases hx:x.length=m
  .simp[hx]
  .simp[hx,acT]
@[simp] def aJp {h:am}{m j:Nat}{xs:E_}{k:IntKind}{i:Int}(h0:0<=i):ZP h m (.own false j xs) (.d (.int k i))=bA xs[i.toNat]? λx=>if x.length=m then some (.pim x 0) else none:=by
 simp only[ZP,UW h0,elems]
 cases xs[i.toNat]? with
 |none=>rfl
 |some x =>
  simp only[bA];by_cases hx:x.length=m
  .simp[hx]
  .simp[hx,acT]
attribute [simp] Km avA arq
@[simp] def aHU {h:am}{n:I_}{cs:W_}{o:Nat}:fh h n (.pim cs o)=po n cs o:=by
 simp only[fh,loadAt];cases po n cs o<;>rfl
@[simp] def aGr {cs:W_}{o:Nat}:po none cs o=(cs[o]?).map .d:=by simp only[po];cases cs[o]?<;>rfl
@[simp] def aHm {cs:W_}{n o:Nat}:po (some n) cs o=if o+n<=cs.length then some (.agg ((sub cs o n).map .d)) else none:=by
 by_cases h:o+n<=cs.length<;>simp[po,abW,h]
@[simp] def gq0 {α:Type}{x:α}{r:List α}:(x::r)[0]?=some x:=(rfl)
@[simp] def aGG {f:FuncId}{vs:D_}{h:am}:fj (Dn P) f vs h=bA (viewArgs h vs) λds=>bA (bh P f ds) λv=>if vs.any uc=false then some v else if jX v=true then some v else some (P0 v):=by
 simp only[fj,bh,uL,bA]
 cases viewArgs h vs with
 |none=>rfl
 |some ds =>
  simp only
  cases (Dn P).call f ds ⟨[],0⟩ with
  |none=>rfl
  |some q =>
   obtain⟨v,h2⟩:=q;simp only
   cases io h2.heap v with
   |none=>rfl
   |some v =>
    simp only
    cases vs.any uc with
    |false=>rfl
    |true=>simp only;cases jX v<;>rfl
@[simp] def aIt {x:D}:share (.d x)=.d x:=(rfl)
@[simp] def aFB  : share (.nl)=.nl:=(rfl)
@[simp] def aCA {m:Nat}{xs:E_}:share (.own false m xs)=.d (.lst xs):=(rfl)
@[simp] def aFk {cs:D_}:share (.agg cs)=.agg (shareAll cs):=(rfl)
@[simp] def aEC {cs:D_}:share (.tup cs)=.tup (shareAll cs):=(rfl)
@[simp] def aEB {a b:Nat}:share (.ptr a b)=.ptr a b:=(rfl)
@[simp] def aFi {a b c:Nat}:share (.pel a b c)=.pel a b c:=(rfl)
@[simp] def aEP {cs:W_}{b:Nat}:share (.pim cs b)=.pim cs b:=(rfl)
@[simp] def aFR {a b c:Nat}:share (.sl a b c)=.sl a b c:=(rfl)
@[simp] def aGZ {f:FuncId}{a b:D_}:share (.fn f a b)=.fn f a b:=(rfl)
@[simp] def aCw {n:Nat}:share (.yield n)=.yield n:=(rfl)
@[simp] def aEo  : shareAll []=[]:=(rfl)
@[simp] def aDq {v:AV}{r:D_}:shareAll (v::r)=share v::shareAll r:=(by rw[qo])
@[simp] def aIh {x:D}:oE (.d x)=.d x:=(rfl)
@[simp] def aIl {x:D}:CO (.d x)=.d x:=(rfl)
@[simp] def aIj {x:D}:AV.cells (.d x)=[.d x]:=(rfl)
@[simp] def aGc {x:D}:bn (.d x)=true:=(rfl)
@[simp] def aG5 {x:D}:Gv (.d x)=bn (.d x):=(rfl)
@[simp] def aIH {x:D}:wg (.d x)=false:=(rfl)
@[simp] def aHA {x:D}:uc (.d x)=false:=(rfl)
@[simp] def aHp {x:D}:og (.d x)=.d x:=(rfl)
@[simp] def aGg {x:D}:q7 (.d x)=.d x:=(rfl)
@[simp] def aFX {x:D}:qJ (.d x)=.d x:=(rfl)
@[simp] def aGL  : oE (.nl)=.nl:=(rfl)
@[simp] def aFM  : CO (.nl)=.nl:=(rfl)
@[simp] def aFE  : AV.cells (.nl)=[.nl]:=(rfl)
@[simp] def aFu  : bn (.nl)=true:=(rfl)
@[simp] def aIk  : wg (.nl)=false:=(rfl)
@[simp] def aGa  : uc (.nl)=false:=(rfl)
@[simp] def aE2  : jG (.nl)=true:=(rfl)
@[simp] def aES  : lS (.nl)=true:=(rfl)
@[simp] def aEv  : jX (.nl)=true:=(rfl)
@[simp] def aE1  : og (.nl)=.nl:=(rfl)
@[simp] def aE9  : q7 (.nl)=.nl:=(rfl)
@[simp] def aFo  : qJ (.nl)=.nl:=(rfl)
@[simp] def aEJ {p:Bool}{m:Nat}{xs:E_}:oE (.own p m xs)=.own false m xs:=(rfl)
@[simp] def aFc {p:Bool}{m:Nat}{xs:E_}:CO (.own p m xs)=.own false m xs:=(rfl)
@[simp] def aFx {p:Bool}{m:Nat}{xs:E_}:AV.cells (.own p m xs)=[.own p m xs]:=(rfl)
@[simp] def aDm {p:Bool}{m:Nat}{xs:E_}:bn (.own p m xs)=!p:=(rfl)
@[simp] def aHe {p:Bool}{m:Nat}{xs:E_}:wg (.own p m xs)=false:=(rfl)
@[simp] def aEw {p:Bool}{m:Nat}{xs:E_}:uc (.own p m xs)=false:=(rfl)
@[simp] def aEU {cs:D_}:CO (.agg cs)=.agg (cs.map oE):=(rfl)
@[simp] def aFq {cs:D_}:AV.cells (.agg cs)=cs:=(rfl)
@[simp] def aEx {cs:D_}:uc (.agg cs)=cs.any wg:=(rfl)
@[simp] def aEL {cs:D_}:AV.cells (.tup cs)=[.tup cs]:=(rfl)
@[simp] def aEE {a b:Nat}:AV.cells (.ptr a b)=[.ptr a b]:=(rfl)
@[simp] def aDv {a b:Nat}:bn (.ptr a b)=true:=(rfl)
@[simp] def aFn {a b:Nat}:GG (.ptr a b)=some (.ptr a b):=(rfl)
@[simp] def aGI {a b c:Nat}:oE (.sl a b c)=.sl a b c:=(rfl)
@[simp] def aG9 {a b c:Nat}:CO (.sl a b c)=.sl a b c:=(rfl)
@[simp] def aGf {a b c:Nat}:AV.cells (.sl a b c)=[.sl a b c]:=(rfl)
@[simp] def aFs {a b c:Nat}:Gv (.sl a b c)=bn (.sl a b c):=(rfl)
@[simp] def aIr {a b c:Nat}:wg (.sl a b c)=true:=(rfl)
@[simp] def aGz {f:FuncId}{a b:D_}:AV.cells (.fn f a b)=[.fn f a b]:=(rfl)
@[simp] def aFm {xs:E_}:lenOf (.d (.lst xs))=some xs.length:=(rfl)
@[simp] def aFT  : lenOf .nl=some 0:=(rfl)
@[simp] def aEs {p:Bool}{m:Nat}{xs:E_}:lenOf (.own p m xs)=some xs.length:=(rfl)
@[simp] def aF1 {a b n:Nat}:lenOf (.sl a b n)=some n:=(rfl)
@[simp] def aqp {h:am}{xs:E_}:elems h (.d (.lst xs))=some xs:=(rfl)
@[simp] def aEI {h:am}{m:Nat}{xs:E_}:elems h (.own false m xs)=some xs:=(rfl)
@[simp] def aEf {o a b:Nat}:iE o (.ptr a b)=some (.ptr a (b+o)):=(rfl)
@[simp] def aCI {o b:Nat}{cs:W_}:iE o (.pim cs b)=some (.pim cs (b+o)):=(rfl)
@[simp] def aJf {cs:D_}{i:Nat}:Bo true (.tup cs) i=cs[i]?:=(by simp only[Bo];cases cs[i]?<;>rfl)
@[simp] def aJm {cs:D_}{i:Nat}:Bo false (.tup cs) i=(cs[i]?).map share:=(by simp only[Bo];cases cs[i]?<;>rfl)
@[simp] def aIZ {cs:D_}{i:Nat}:PO (.tup cs) i=.tup (cs.set i .junk):=(rfl)
@[simp] def aJ7 {x:D}:toD (.d x)=some x:=(rfl)
@[simp] def aJk  : toD .nl=some (.lst []):=(rfl)
@[simp] def aId {m:Nat}{xs:E_}:toD (.own false m xs)=some (.lst xs):=(rfl)
@[simp] def aJr  : mK []=some []:=(rfl)
@[simp] def aJs {v:AV}{r:D_}:mK (v::r)=bA (toD v) λx=>bA (mK r) λxs=>some (x::xs):=(by
 simp only[mK]
 cases toD v with
 |none=>rfl
 |some q=>simp only[bA];cases mK r<;>rfl)
@[simp] def aEW {m:Nat}:j8 m []=some []:=(rfl)
@[simp] def aEy {m:Nat}{v:AV}{r:D_}:j8 m (v::r)=if v.cells.length=m then bA (mK v.cells) λx=>bA (j8 m r) λxs=>some (x::xs) else none:=(by
 by_cases h:v.cells.length=m
 .simp only[j8,acT,h,decide_true,bi]
  cases mK v.cells with
  |none=>rfl
  |some q=>simp only[bA];cases j8 m r<;>rfl
 .simp only[j8,acT,h,decide_false,bl])
@[simp] def aCk {cs:D_}:eu cs []=some cs:=(rfl)
@[simp] def aCh {cs:D_}{o n:Nat}{v:AV}{r:List (Nat×Nat×AV)}:eu cs ((o,n,v)::r)=if v.cells.length=n∧Gv v=true∧o+n<=cs.length then eu (aI cs o v.cells) r else none:=(by
 simp only[eu,acT,abW];by_cases h:v.cells.length=n<;>by_cases h2:Gv v=true<;>by_cases h3:o+n<=cs.length<;>simp[h,h2,h3])
def Pq {α:Type}{cs vs:List α}{o:Nat}:aI cs o vs=cs.take o++vs++cs.drop (o+vs.length):=(rfl)
attribute [simp] Pq
def apx {α:Type}{cs:List α}{o n:Nat}:sub cs o n=(cs.drop o).take n:=(rfl)
attribute [simp] apx
@[simp] def aFg {h:am}{x:D}:viewOne h (.d x)=some (.d x):=(rfl)
@[simp] def aCE {h:am}:viewOne h .nl=some .nl:=(rfl)
@[simp] def aCx {h:am}{m:Nat}{xs:E_}:viewOne h (.own false m xs)=some (.d (.lst xs)):=(rfl)
@[simp] def aDQ {h:am}{a b c:Nat}:viewOne h (.sl a b c)=bA (elems h (.sl a b c)) λxs=>some (.d (.lst xs)):=(by simp only[viewOne];cases elems h (.sl a b c)<;>rfl)
@[simp] def aED {h:am}:viewAll h []=some []:=(rfl)
@[simp] def aFy {h:am}{v:AV}{r:D_}:viewAll h (v::r)=bA (viewOne h v) λx=>bA (viewAll h r) λxs=>some (x::xs):=(by
 simp only[viewAll]
 cases viewOne h v with
 |none=>rfl
 |some q=>simp only[bA];cases viewAll h r<;>rfl)
@[simp] def aET {h:am}{x:D}:viewArg h (.d x)=viewOne h (.d x):=(rfl)
@[simp] def aC9 {h:am}  : viewArg h (.nl)=viewOne h (.nl):=(rfl)
@[simp] def aCi {h:am}{p:Bool}{m:Nat}{xs:E_}:viewArg h (.own p m xs)=viewOne h (.own p m xs):=(rfl)
@[simp] def aCv {h:am}{cs:D_}:viewArg h (.agg cs)=bA (viewAll h cs) λxs=>some (.agg xs):=(by simp only[viewArg];cases viewAll h cs<;>rfl)
@[simp] def aC2 {h:am}:viewArgs h []=some []:=(rfl)
@[simp] def aCD {h:am}{v:AV}{r:D_}:viewArgs h (v::r)=bA (viewArg h v) λx=>bA (viewArgs h r) λxs=>some (x::xs):=(by
 simp only[viewArgs]
 cases viewArg h v with
 |none=>rfl
 |some q=>simp only[bA];cases viewArgs h r<;>rfl)
@[simp] def aHy {h:am}{x:D}:j6 h (.d x)=some (.d x,h):=(rfl)
@[simp] def aEX {h:am}:j6 h .nl=some (.nl,h):=(rfl)
@[simp] def aC8 {h:am}{p:Bool}{m:Nat}{xs:E_}:j6 h (.own p m xs)=some (.own p m xs,h):=(rfl)
@[simp] def aFF {h:am}:tB h []=some ([],h):=(rfl)
@[simp] def aHu {h:am}{v:AV}{r:D_}:tB h (v::r)=bP (j6 h v) λx h=>bP (tB h r) λxs h=>some (x::xs,h):=(by simp only[tB];cases j6 h v with
 |none=>rfl
 |some q=>simp only[bP];cases tB q.2 r<;>rfl)
@[simp] def aC0 {h:am}{cs:D_}:ge h (.agg cs)=bP (tB h cs) λxs h=>some (.agg xs,h):=(by simp only[ge];cases tB h cs<;>rfl)
@[simp] def aFL {h:am}{x:D}:ge h (.d x)=j6 h (.d x):=(rfl)
@[simp] def aFt {h:am}  : ge h (.nl)=j6 h (.nl):=(rfl)
@[simp] def aEc {h:am}{p:Bool}{m:Nat}{xs:E_}:ge h (.own p m xs)=j6 h (.own p m xs):=(rfl)
@[simp] def aE7 {h:am}{a b c:Nat}:ge h (.sl a b c)=j6 h (.sl a b c):=(rfl)
@[simp] def aEF {h:am}:tF h []=some ([],h):=(rfl)
@[simp] def aEM {h:am}{v:AV}{r:D_}:tF h (v::r)=bP (ge h v) λx h=>bP (tF h r) λxs h=>some (x::xs,h):=(by simp only[tF];cases ge h v with
 |none=>rfl
 |some q=>simp only[bP];cases tF q.2 r<;>rfl)
@[simp] def Zl {h:am}{cs:D_}:io h (.tup cs)=bP (tF h cs) λxs _=>some (iY (.tup xs)):=(by simp only[io];cases tF h cs<;>rfl)
@[simp] def aGw {h:am}{x:D}:io h (.d x)=bP (ge h (.d x)) λx _=>some (iY x):=(by simp only[io];cases ge h (.d x)<;>rfl)
@[simp] def aEz {h:am}  : io h (.nl)=bP (ge h (.nl)) λx _=>some (iY x):=(by simp only[io];cases ge h (.nl)<;>rfl)
@[simp] def aCL {h:am}{p:Bool}{m:Nat}{xs:E_}:io h (.own p m xs)=bP (ge h (.own p m xs)) λx _=>some (iY x):=(by simp only[io];cases ge h (.own p m xs)<;>rfl)
@[simp] def aCS {h:am}{cs:D_}:io h (.agg cs)=bP (ge h (.agg cs)) λx _=>some (iY x):=(by simp only[io];cases ge h (.agg cs)<;>rfl)
@[simp] def aFj {h:am}{a b c:Nat}:io h (.sl a b c)=bP (ge h (.sl a b c)) λx _=>some (iY x):=(by simp only[io];cases ge h (.sl a b c)<;>rfl)
@[simp] def aEt {v:AV}:iY v=if jX v=true then qJ v else v:=(by simp only[iY];cases jX v<;>rfl)
@[simp] def aG1 {x:D}:jG (.d x)=mC x:=(rfl)
@[simp] def aEe {p:Bool}{m:Nat}{xs:E_}:jG (.own p m xs)=xs.all λe=>e.all mC:=(rfl)
@[simp] def aFh {k:IntKind}{n:Int}:mC (.int k n)=true:=(rfl)
@[simp] def aDo {b:Bool}:mC (.bool b)=true:=(rfl)
@[simp] def aFb {xs:E_}:mC (.lst xs)=false:=(rfl)
@[simp] def aC3 {cs:D_}:lS (.agg cs)=cs.all jG:=(rfl)
@[simp] def aGO {x:D}:lS (.d x)=mC x:=(rfl)
@[simp] def aDX {p:Bool}{m:Nat}{xs:E_}:lS (.own p m xs)=xs.all λe=>e.all mC:=(rfl)
@[simp] def aEi {cs:D_}:jX (.agg cs)=cs.all jG:=(rfl)
@[simp] def aGt {x:D}:jX (.d x)=mC x:=(rfl)
@[simp] def aDC {p:Bool}{m:Nat}{xs:E_}:jX (.own p m xs)=xs.all λe=>e.all mC:=(rfl)
@[simp] def aCF {cs:D_}:jX (.tup cs)=cs.all lS:=(rfl)
@[simp] def aDS {p:Bool}{m:Nat}{xs:E_}:og (.own p m xs)=.own true m xs:=(rfl)
@[simp] def aDw {p:Bool}{m:Nat}{xs:E_}:q7 (.own p m xs)=.own true m xs:=(rfl)
@[simp] def aD4 {p:Bool}{m:Nat}{xs:E_}:qJ (.own p m xs)=.own true m xs:=(rfl)
@[simp] def aDH {cs:D_}:q7 (.agg cs)=.agg (cs.map og):=(rfl)
@[simp] def aC4 {cs:D_}:qJ (.agg cs)=.agg (cs.map og):=(rfl)
@[simp] def aCN {cs:D_}:qJ (.tup cs)=.tup (cs.map q7):=(rfl)
@[simp] def aHO {i:Nat}:kR i []=[]:=(rfl)
@[simp] def aHF {i:Nat}{v:AV}{r:D_}:kR i (v::r)=(i,v)::kR (i+1) r:=by
 have h:∀(i:Nat) (r:D_),put (kR (i+1) r) i v=(i,v)::kR (i+1) r:=λi r=>by
  have:∃q,kR (i+1) r=q∧∀p∈q,Nat.blt i p.1=true:=⟨_,rfl,by
   have aux:∀(r:D_) (j:Nat),i<j->∀p∈kR j r,Nat.blt i p.1=true:=by
    intro r
    induction r with
    |nil=>intro j hj p hp;simp[kR]at hp
    |cons w r ih =>
     intro j hj p hp;simp only[kR]at hp;rcases ac1 hp with rfl|hp
     .rw[Nat.blt,bp];exact hj
     .exact ih (j+1) o_ p hp
   exact aux r (i+1) o_⟩
  obtain⟨q,hq,hp⟩:=this;rw[hq]
  cases q with
  |nil=>rfl
  |cons p q =>
   obtain⟨k,u⟩:=p;have hk:i<k:=by have:=hp _ (.head _);rw[Nat.blt,bp]at this;exact this
   rw[xV,aa o_,ac o_]
 exact h i r
@[simp] def aEQ {st:St}:fV st []=some ([],st):=(rfl)
def atj (x:M_)(t:Nat)(st:St)(r:BB_):Option (D_×St) :=
 match x with
 |some v=>bP (fV ⟨del st.env t,st.hs⟩ r) λvs st=>some (v::vs,st)
 |none=>none
@[simp] def aEZ {t:Nat}{st:St}{r:BB_}:fV st (.tmp t::r)=atj (get st.env t) t st r:=(by
 simp only[fV,atj]
 cases get st.env t with
 |none=>rfl
 |some v=>simp only;cases fV ⟨del st.env t,st.hs⟩ r<;>rfl)
@[simp] def aIL {v:AV}{t:Nat}{e:aW}{hs:HS}{r:BB_}:atj (some v) t ⟨e,hs⟩ r=bP (fV ⟨del e t,hs⟩ r) λvs st=>some (v::vs,st):=(rfl)
def aud (x:M_)(t:Nat)(n:I_)(st:St)(r:BB_):Option (D_×St) :=
 match x with
 |some (.ptr id 0)=>bP (loadAt st.hs.heap n 1 (.ptr id 0)) λv h=>bP (fV ⟨del st.env t,⟨del h id,st.hs.next⟩⟩ r) λvs st=>some (v::vs,st)
 |_=>none
@[simp] def aEY {t:Nat}{n:I_}{st:St}{r:BB_}:fV st (.cell t n::r)=aud (get st.env t) t n st r:=(by
 simp only[fV,aud]
 cases get st.env t with
 |none=>rfl
 |some v =>
  cases v<;>try rfl
  rename_i id off
  cases off with
  |succ k=>rfl
  |zero =>
   simp only
   cases loadAt st.hs.heap n 1 (.ptr id 0) with
   |none=>rfl
   |some q=>simp only[bP];cases fV _ r<;>rfl)
@[simp] def aIJ {id t:Nat}{n:I_}{e:aW}{hs:HS}{r:BB_}:aud (some (.ptr id 0)) t n ⟨e,hs⟩ r=bP (loadAt hs.heap n 1 (.ptr id 0)) λv h=>bP (fV ⟨del e t,⟨del h id,hs.next⟩⟩ r) λvs st=>some (v::vs,st):=(rfl)
def asT {l:G_}:((aH l).all λe=>e.all mC)=true:=by simp[aH]
def asu {l:C_}:((ai l).all λe=>e.all mC)=true:=by simp[ai]
def apF {l:U_}:((Vr l).all λe=>e.all mC)=true:=by simp[Vr]
attribute [simp] asT asu apF
attribute [simp] arc
attribute [simp] azY az7 aBD aBW
variable {P:Nat->Z_}{l:T_}{e:aW}{h:am}{m d s:Nat}{op:pk}{hs:HS}{β:Type}{k:AV->aW->HS->Option β}
abbrev V (d:Nat)(op:pk):VI:=⟨some d,none,op,[]⟩
abbrev N (op:pk):VI:=⟨none,none,op,[]⟩
abbrev W (s d:Nat)(op:pk):VI:=⟨some d,some (s,true),op,[]⟩
abbrev U (s d:Nat)(op:pk):VI:=⟨some d,some (s,false),op,[]⟩
def ayJ {e e2:aW}{hs hs2:HS}(h:e=e2)(h2:hs=hs2):qj P l e hs=qj P l e2 hs2:=by rw[h,h2]
attribute [congr] ayJ
@[simp ↓ low] def aEO {i:VI}:(Dn P).code (.reg false (i::l)) ⟨e,hs⟩=fy (qj P (i::l) e hs):=GU rfl
@[simp ↓ low] def aEG {i:VI}:(Dn P).code (.reg true (i::l)) ⟨e,hs⟩=fy (qj P (i::l) e hs):=GU rfl
@[simp] def aI4:qj P [] e hs=some ⟨e,hs⟩:=(rfl)
@[simp] def aJG:qj P (⟨some d,none,op,[]⟩::l) e hs=bR P op e hs λv e hs=>qj P l (put e d (firm v)) hs:=(rfl)
@[simp] def aJz:qj P (⟨none,none,op,[]⟩::l) e hs=bR P op e hs λ_ e hs=>qj P l e hs:=(rfl)
@[simp] def aJK {t:Nat×Nat}{th:R_}:qj P (⟨some d,none,op,t::th⟩::l) e hs=bR P op e hs λv e hs=>lP (ed (t::th) v hs) λv hs=>qj P l (put e d (firm v)) hs:=(rfl)
def wK {β:Type}(a b:Bool)(x y z:Option β):Option β :=
 match a with
 |true=>x
 |false=>match b with
  |true=>y
  |false=>z
@[simp ↓] def aKw {b:Bool}{x y z:Option β}:wK true b x y z=x:=(rfl)
@[simp ↓] def aKz {x y z:Option β}:wK false true x y z=y:=(rfl)
@[simp ↓] def aKK {x y z:Option β}:wK false false x y z=z:=(rfl)
def aEn {a a2 b b2:Bool}{x y z:Option β}(h:a=a2)(h2:b=b2):wK a b x y z=wK a2 b2 x y z:=by rw[h,h2]
attribute [congr] aEn
@[simp] def aI7 {w:Bool}:qj P (⟨some d,some (s,w),op,[]⟩::l) e hs=wK (dE op) (Af op)
  (bA (get e s) λg=>bA (gV g w (bR P op e hs λv _ _=>some v)) λv=>qj P l (put e d (firm v)) hs)
  (bA (get e s) λg=>bP (gH g w hs (bR P op e hs λv _ hs=>some (v,hs))) λv hs=>qj P l (put e d (firm v)) hs)
  (bA (cX (Dn P) ⟨some d,some (s,w),op,[]⟩ ⟨e,hs⟩) λst=>qj P l st.env st.hs):=by
 simp only[qj,Xb,wK]
 cases dE op<;>cases Af op<;>(try rfl)<;>(cases get e s<;>rfl)
@[simp] def aKi {i:Nat}:bL (.s i)=true:=(rfl)
@[simp] def aJ2 {a:AV}:bL (.c a)=true:=(rfl)
@[simp] def aJt:iq []=true:=(rfl)
@[simp] def aJd {x:Rd}{r:V_}:iq (x::r)=(bL x && iq r):=(rfl)
@[simp] def aJX:C5 none=true:=(rfl)
@[simp] def aJ1 {x:Rd}:C5 (some x)=bL x:=(rfl)
@[simp] def aIK {x:Rd}:dE (.mov x)=bL x:=(rfl)
@[simp] def aJZ {x:Rd}{n:I_}:dE (.ld n 0 x)=bL x:=(rfl)
@[simp] def aJC {x:Rd}:dE (.nilck x)=bL x:=(rfl)
@[simp] def aIX {x y:Rd}{o:BinOp}:dE (.bin o x y)=(bL x && bL y):=(rfl)
@[simp] def aHN {x y:Rd}{o:Bool}:dE (.binb o x y)=(bL x && bL y):=(rfl)
@[simp] def aKn {x:Rd}{o:UnOp}:dE (.un o x)=bL x:=(rfl)
@[simp] def aIq {x:Rd}{o:IntKind}:dE (.conv o x)=bL x:=(rfl)
@[simp] def aJM {x:Rd}{o:Nat}:dE (.fa o x)=bL x:=(rfl)
@[simp] def aJQ {x y:Rd}{o:Nat}:dE (.ia o x y)=(bL x && bL y):=(rfl)
@[simp] def aH8 {x y:Rd}{o n:Nat}:dE (.iarr o n x y)=(bL x && bL y):=(rfl)
@[simp] def aJo {x:Rd}:dE (.len x)=bL x:=(rfl)
@[simp] def aIc {f:FuncId}{xs:V_}:dE (.call f xs)=iq xs:=(rfl)
@[simp] def aIi {c x y:Rd}:dE (.pick c x y)=(bL c && bL x && bL y):=(rfl)
@[simp] def aGq {z:D_}{ps:AC_}:dE (.build z ps)=iq (qp ps):=(rfl)
@[simp] def aI0 {x:Rd}:dE (.toStr x)=bL x:=(rfl)
@[simp] def aH0 {f:FuncId}{xs ys:V_}:dE (.mkfn f xs ys)=(iq xs && iq ys):=(rfl)
@[simp] def aJy {m:Nat}{x:Rd}{a b c:AB_}:dE (.slice m x a b c)=(bL x && (C5 a && (C5 b && C5 c))):=(rfl)
@[simp] def aHx {f:FuncId}{xs:V_}:dE (.calli f xs)=false:=(rfl)
@[simp] def aFK {x:Rd}{xs:V_}:dE (.callv x xs)=false:=(rfl)
@[simp] def aIB {n:Nat}{xs:V_}:dE (.mks n xs)=false:=(rfl)
@[simp] def aFS {f:FuncId}{xs:V_}:Af (.calli f xs)=iq xs:=(rfl)
@[simp] def aGx {x:Rd}{xs:V_}:Af (.callv x xs)=(bL x && iq xs):=(rfl)
@[simp] def aJi {n:Nat}{xs:V_}:Af (.mks n xs)=false:=(rfl)
attribute [simp] qp uu
def Mp {γ:Type}(c:Prop)[Decidable c](a b:γ):γ:=if c then a else b
def ayK {γ:Type}{c d:Prop}[Decidable c][i:Decidable d]{a b:γ}(h:c=d):Mp c a b=@Mp γ d i a b:=by subst h;congr
attribute [congr] ayK
@[simp ↓] def aJB {γ:Type}{i:Decidable True}{a b:γ}:@Mp γ True i a b=a:=by simp only[Mp,bi]
@[simp ↓] def aIP {γ:Type}{i:Decidable False}{a b:γ}:@Mp γ False i a b=b:=by simp only[Mp,bl]
@[simp high] def aKv {k i:Nat}{v:AV}{r:aW}:get ((k,v)::r) i=Mp (k=i) (some v) (get r i):=aAS
@[simp high] def aKu {k i:Nat}{v x:AV}{r:aW}:put ((k,v)::r) i x=Mp (k=i) ((i,x)::r) (Mp (i<=k) ((i,x)::(k,v)::r) ((k,v)::put r i x)):=put1
@[simp high] def aKJ {k i:Nat}{v:AV}{r:aW}:del ((k,v)::r) i=Mp (k=i) (del r i) ((k,v)::del r i):=aBH
variable {f:AV->aW->Option β}{x:Rd}
@[simp ↓] def aJS {i:Nat}:cG e (.s i) f=bA (get e i) λv=>f (share v) e:=by
 simp only[cG,rd,bA];cases get e i<;>rfl
@[simp ↓] def aJ8 {i:Nat}:cG e (.m i) f=bA (get e i) λv=>f v (del e i):=by
 simp only[cG,rd,bA];cases get e i<;>rfl
@[simp ↓] def aJ9 {a:AV}:cG e (.c a) f=f a e:=(rfl)
@[simp ↓] def aJb {f:D_->aW->Option β}:lm e [] f=f [] e:=(rfl)
@[simp ↓] def aJE {r:V_}{f:D_->aW->Option β}:lm e (x::r) f=cG e x λv e=>lm e r λvs e=>f (v::vs) e:=(rfl)
@[simp ↓] def aJe {f:M_->aW->Option β}:nD e none f=f none e:=(rfl)
@[simp ↓] def aIz {f:M_->aW->Option β}:nD e (some x) f=cG e x λv e=>f (some v) e:=(rfl)
@[simp ↓] def aHC:bR P (.mov x) e hs k=cG e x λv e=>k v e hs:=(rfl)
def N8 (e:aW):Rd->M_
 |.c v=>some v
 |.m i=>get e i
 |.s i=>match get e i with
  |some v=>some (share v)
  |none=>none
def pkV {β:Type}(c:AV)(a b:Rd)(x y:M_)(e:aW)(hs:HS)(k:AV->aW->HS->Option β):Option β :=
 match x,y with
 |some a,some b=>bA (UL c a b) λv=>k v e hs
 |_,_=>bP (lO (.c c) a b ⟨e,hs⟩) λv st=>k v st.env st.hs
@[simp ↓] def aKj {c v w:AV}{a b:Rd}:pkV c a b (some v) (some w) e hs k=bA (UL c v w) λv=>k v e hs:=(rfl)
def az9 {c:AV}{a b:Rd}{x x2 y y2:M_}(h:x=x2)(h2:y=y2):pkV c a b x y e hs k=pkV c a b x2 y2 e hs k:=by rw[h,h2]
attribute [congr] az9
@[simp] def aKq {v:AV}:N8 e (.c v)=some v:=(rfl)
@[simp] def aKl {i:Nat}:N8 e (.s i)=bA (get e i) λv=>some (share v):=by
 simp only[N8,bA];cases get e i<;>rfl
def ai2 {c a b:Rd}(ha:bL a=true)(hb:bL b=true):bR P (.pick c a b) e hs k=cG e c λc e=>pkV c a b (N8 e a) (N8 e b) e hs k:=by
 simp only[bR,ha,hb,Bool.and_self]
 congr 1
 funext c e;have h1:∀x,bL x=true->rd e x=(N8 e x).map λv=>(v,e):=by
  intro x hx
  cases x with
  |c=>rfl
  |m=>cases hx
  |s i=>simp only[rd,N8];cases get e i<;>rfl
 rw[h1 a ha,h1 b hb]
 cases N8 e a<;>cases N8 e b<;>rfl
@[simp ↓] def aIf {c:Rd}{i:Nat}{y:AV}:bR P (.pick c (.s i) (.c y)) e hs k=cG e c λc e=>pkV c (.s i) (.c y) (N8 e (.s i)) (N8 e (.c y)) e hs k:=ai2 rfl rfl
@[simp ↓] def aH7 {c:Rd}{i:Nat}{y:AV}:bR P (.pick c (.c y) (.s i)) e hs k=cG e c λc e=>pkV c (.c y) (.s i) (N8 e (.c y)) (N8 e (.s i)) e hs k:=ai2 rfl rfl
@[simp ↓] def aEV {zs:D_}:bR P (.alloc zs) e ⟨h,m⟩ k=lA (put h m (.cells zs)) λh=>k (.ptr m 0) e ⟨h,m+1⟩:=(rfl)
@[simp ↓] def aIx:bR P (.box x) e ⟨h,m⟩ k=cG e x λv e=>dQ ((AV.cells v).all bn) (lA (put h m (.cells (AV.cells v))) λh=>k (.ptr m 0) e ⟨h,m+1⟩):=(rfl)
@[simp ↓] def aE5 {zs:D_}{ps:AC_}:bR P (.build zs ps) e hs k=lm e (qp ps) λvs e=>bA (eu zs (uu ps vs)) λcs=>k (.agg cs) e hs:=(rfl)
@[simp ↓] def aHT {j:Nat}{ps:V_}:bR P (.mks j ps) e hs k=lm e ps λvs e=>bA (j8 j vs) λxs=>k (.own true j xs) e hs:=(rfl)
@[simp ↓] def aGX {j:Nat}{ps:V_}:bR P (.mksv j ps) e ⟨h,m⟩ k=lm e ps λvs e=>dQ (LW j vs) (lA (put h m (.cells (vs.flatMap AV.cells))) λh=>k (.sl m 0 vs.length) e ⟨h,m+1⟩):=(rfl)
@[simp ↓] def aJn {n:I_}:bR P (.ld n 0 x) e ⟨h,m⟩ k=cG e x λp e=>bA (fh h n p) λv=>k v e ⟨h,m⟩:=(rfl)
@[simp ↓] def aHI {n:I_}:bR P (.ld n 1 x) e ⟨h,m⟩ k=cG e x λp e=>bP (loadAt h n 1 p) λv h=>k v e ⟨h,m⟩:=(rfl)
@[simp ↓] def aHY {n:I_}:bR P (.ld n 2 x) e ⟨h,m⟩ k=cG e x λp e=>bP (loadAt h n 2 p) λv h=>k v e ⟨h,m⟩:=(rfl)
@[simp ↓] def aI8 {n:Nat}{y:Rd}:bR P (.st n x y) e ⟨h,m⟩ k=cG e x λp e=>cG e y λv e=>bA (storeAt h n p v) λh=>k .junk e ⟨h,m⟩:=(rfl)
@[simp ↓] def aEA:bR P (.nilck x) e hs k=cG e x λv e=>bA (GG v) λv=>k v e hs:=(rfl)
@[simp ↓] def aHK {o:BinOp}{y:Rd}:bR P (.bin o x y) e hs k=cG e x λa e=>cG e y λb e=>bA (fo o a b) λv=>k (.d v) e hs:=(rfl)
@[simp ↓] def aHc {o:Bool}{y:Rd}:bR P (.binb o x y) e hs k=cG e x λa e=>cG e y λb e=>bA (abv o a b) λv=>k (.d v) e hs:=(rfl)
@[simp ↓] def aGm {o:Bool}{ks:U_}{y:Rd}:bR P (.bina o ks x y) e hs k=cG e x λa e=>cG e y λb e=>bA (Lp o ks a b) λv=>k (.d v) e hs:=(rfl)
@[simp ↓] def aJa {o:UnOp}:bR P (.un o x) e hs k=cG e x λa e=>bA (unD o a) λv=>k (.d v) e hs:=(rfl)
@[simp ↓] def aHt {j:IntKind}:bR P (.conv j x) e hs k=cG e x λa e=>bA (YO j a) λv=>k (.d v) e hs:=(rfl)
@[simp ↓] def aFz:bR P (.toStr x) e ⟨h,m⟩ k=cG e x λa e=>bA (Ot h a) λv=>k (.d v) e ⟨h,m⟩:=(rfl)
@[simp ↓] def aHs {f:FuncId}{a c:V_}:bR P (.mkfn f a c) e hs k=lm e a λa e=>lm e c λc e=>k (.fn f (shareAll a) (shareAll c)) e hs:=(rfl)
@[simp ↓] def aCm {z:W_}{y:Rd}:bR P (.mkslice z x y) e hs k=cG e x λa e=>cG e y λc e=>bA (Gn z a c) λv=>k v e hs:=(rfl)
@[simp ↓] def aEu {j:Nat}{lo hi mx:AB_}:bR P (.slice j x lo hi mx) e ⟨h,m⟩ k=cG e x λx e=>nD e lo λlo e=>nD e hi λhi e=>nD e mx λmx e=>bA (mR h j x lo hi mx) λv=>k v e ⟨h,m⟩:=(rfl)
@[simp ↓] def aER {j:Nat}{lo hi mx:AB_}:bR P (.slarr j x lo hi mx) e ⟨h,m⟩ k=cG e x λx e=>nD e lo λlo e=>nD e hi λhi e=>nD e mx λmx e=>bA (TL h j x lo hi mx) λv=>k v e ⟨h,m⟩:=(rfl)
@[simp ↓] def aIT {o:Nat}:bR P (.fa o x) e hs k=cG e x λp e=>bA (iE o p) λv=>k v e hs:=(rfl)
@[simp ↓] def aI1 {n:Nat}{y:Rd}:bR P (.ia n x y) e ⟨h,m⟩ k=cG e x λx e=>cG e y λi e=>bA (ZP h n x i) λv=>k v e ⟨h,m⟩:=(rfl)
@[simp ↓] def aF5 {a n:Nat}{y:Rd}:bR P (.iarr a n x y) e hs k=cG e x λp e=>cG e y λi e=>bA (Ly a n p i) λv=>k v e hs:=(rfl)
@[simp ↓] def aIC {a n:Nat}{b:Bool}{y:Rd}:bR P (.ix a n b x y) e hs k=cG e x λx e=>cG e y λi e=>bA (ixV a n b x i) λv=>k v e hs:=(rfl)
@[simp ↓] def aH6 {y:Rd}:bR P (.ixs x y) e hs k=cG e x λx e=>cG e y λi e=>bA (ape x i) λv=>k (.d v) e hs:=(rfl)
@[simp ↓] def aF7 {j i:Nat}:bR P (.ext j true i) e hs k=bA (get e j) λt=>bA (Bo true t i) λv=>k v (put e j (PO t i)) hs:=by
 simp only[bR,bA];cases get e j<;>(try rfl)
@[simp ↓] def aFN {j i:Nat}:bR P (.ext j false i) e hs k=bA (get e j) λt=>bA (Bo false t i) λv=>k v e hs:=by
 simp only[bR,bA];cases get e j<;>(try rfl)
@[simp ↓] def aIm:bR P (.len x) e hs k=cG e x λx e=>bA (lenOf x) λn=>k (.int .i64 (.ofNat n)) e hs:=(rfl)
@[simp ↓] def aHB:bR P (.cap x) e hs k=cG e x λx e=>dQ (acK x) (k (.int .i64 (.ofNat 0)) e hs):=(rfl)
@[simp ↓] def aHR {j:Nat}{y:Rd}:bR P (.app j x y) e ⟨h,m⟩ k=cG e x λa e=>cG e y λb e=>bP (aci j h a b) λv h=>k v e ⟨h,m⟩:=(rfl)
@[simp ↓] def aGD {z:W_}{y:Rd}:bR P (.appz z x y) e ⟨h,m⟩ k=cG e x λa e=>cG e y λn e=>bP (It z h a n) λv h=>k v e ⟨h,m⟩:=(rfl)
@[simp ↓] def aHE {j:Nat}{y:Rd}:bR P (.cpy j x y) e ⟨h,m⟩ k=cG e x λa e=>cG e y λb e=>bP (ag4 j h a b) λv h=>k (.d v) e ⟨h,m⟩:=(rfl)
@[simp ↓] def aDZ {b:Bool}{xs:V_}:bR P (.minmax b xs) e hs k=lm e xs λvs e=>bA (FZ b vs) λv=>k v e hs:=(rfl)
@[simp ↓] def aHh {f:FuncId}{as:V_}:bR P (.call f as) e ⟨h,m⟩ k=lm e as λvs e=>bA (fj (Dn P) f vs h) λv=>k v e ⟨h,m⟩:=(rfl)
@[simp ↓] def aE0 {f:FuncId}{as:V_}:bR P (.calli f as) e hs k=lm e as λvs e=>bP ((Dn P).call f vs hs) λv hs=>k v e hs:=(rfl)
@[simp ↓] def aFd {as:V_}:bR P (.callv x as) e hs k=cG e x λf e=>lm e as λvs e=>bP (cy (Dn P) f vs hs) λv hs=>k v e hs:=(rfl)
@[simp ↓] def aGJ {is:C_}:bR P (.kill is) e hs k=k (.tup []) (is.foldl del e) hs:=(rfl)
end Go.Vm
end
