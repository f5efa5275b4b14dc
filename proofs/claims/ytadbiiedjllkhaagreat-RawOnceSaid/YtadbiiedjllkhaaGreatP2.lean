import Derived.Test.YtadbiiedjllkhaaGreatP1
set_option linter.unusedVariables false
set_option linter.unusedSimpArgs false
set_option linter.defProp false
noncomputable section
namespace Go.Vm
set_option maxHeartbeats 4000000
set_option maxRecDepth 100000
structure uY (r q:dt):Prop where
 code:∀c st x,r.code c st=some x->q.code c st=some x
 call:∀f a h x,r.call f a h=some x->q.call f a h=some x
section
variable {r q:dt}
def abJ (le:uY r q){f:FuncId}{vs:D_}{h:am}{x:AV}(e:ep r f vs h=some x):ep q f vs h=some x:=by
 unfold ep at e⊢
 cases hd:viewArgs h vs with
 |none=>rw[hd]at e;simp at e
 |some ds =>
  rw[hd]at e;simp only at e⊢
  cases hc:r.call f ds ⟨[],0⟩ with
  |none=>rw[hc]at e;simp at e
  |some p =>
   obtain⟨v,hs⟩:=p;rw[hc]at e;rw[le.call _ _ _ _ hc];exact e
def afl (le:uY r q){l:Nat}{vs:D_}{hs:HS}{x:AV×HS}(e:tV r l vs hs=some x):tV q l vs hs=some x:=by
 unfold tV at e⊢;split at e
 .rename_i snap params assign body hg;split at e
  .simp at e
  .rename_i e1 he1
   try simp only[he1]
   split at e
   .rename_i st1 hc;simp only[le.code _ _ _ hc];split at e
    .rename_i snap2 params2 assign2 body2 hg2;split at e
     .simp at e
     .rename_i o st2 hc2;simp only[le.code _ _ _ hc2];exact e
    .simp at e
   .simp at e
 .simp at e
def adw (le:uY r q){f:AV}{vs:D_}{hs:HS}{x:AV×HS}(e:b7 r f vs hs=some x):b7 q f vs hs=some x:=by
 cases f<;>simp only[b7,reduceCtorEq]at e⊢
 .exact le.call _ _ _ _ e
 .exact afl le e
def apc (le:uY r q){o:nD}{st:St}{x:AV×St}(e:db o r st=some x):db o q st=some x:=by
 cases o<;>try exact e
 .rename_i f args;simp only[db,DN]at e⊢
  cases hr:rdAll st.env args with
  |none=>rw[hr]at e;simp at e
  |some p =>
   obtain⟨vs,e1⟩:=p;rw[hr]at e;simp only at e⊢
   cases hc:ep r f vs st.hs.heap with
   |none=>rw[hc]at e;simp at e
   |some v=>rw[hc]at e;rw[abJ le hc];exact e
 .rename_i f args;simp only[db,Co]at e⊢
  cases hr:rdAll st.env args with
  |none=>rw[hr]at e;simp at e
  |some p =>
   obtain⟨vs,e1⟩:=p;rw[hr]at e;simp only at e⊢
   cases hc:r.call f vs st.hs with
   |none=>rw[hc]at e;simp at e
   |some v=>rw[hc]at e;rw[le.call _ _ _ _ hc];exact e
 .rename_i f args;simp only[db,CX]at e⊢
  cases hf:rd st.env f with
  |none=>rw[hf]at e;simp at e
  |some p =>
   obtain⟨fv,e0⟩:=p;rw[hf]at e;simp only at e⊢
   cases hr:rdAll e0 args with
   |none=>rw[hr]at e;simp at e
   |some p =>
    obtain⟨vs,e1⟩:=p;rw[hr]at e;simp only at e⊢
    cases hc:b7 r fv vs st.hs with
    |none=>rw[hc]at e;simp at e
    |some v=>rw[hc]at e;rw[adw le hc];exact e
def Df (le:uY r q){i:VI}{st x:St}(e:cQ r i st=some x):cQ q i st=some x:=by
 have go:∀x,gb r i st=some x->gb q i st=some x:=λx e=>by
  unfold gb at e⊢
  cases ho:db i.op r st with
  |none=>rw[ho]at e;simp at e
  |some p=>rw[ho]at e;rw[apc le ho];exact e
 unfold cQ at e⊢;split at e
 .exact go _ e
 .split at e
  .split at e
   .simp_all
   .simp_all
  .exact e
  .simp at e
def PD (le:uY r q):∀{l:S_}{st x:St},kj r l st=some x->kj q l st=some x
 |[],_,_,e=>e
 |i::l,st,x,e=>by
  simp only[kj]at e⊢
  cases hv:cQ r i st with
  |none=>rw[hv]at e;simp at e
  |some st1=>rw[hv]at e;rw[Df le hv];exact PD le e
def apz (le:uY r q){F:C_}{i:VI}{st x:St}(e:vj r F i st=some x):vj q F i st=some x:=by
 unfold vj at e⊢;split at e
 .cases hv:cQ r i st with
  |none=>rw[hv]at e;simp at e
  |some st1=>rw[hv]at e;rw[Df le hv];exact e
 .cases hv:cQ r i st with
  |none=>rw[hv]at e;simp at e
  |some st1=>rw[hv]at e;rw[Df le hv];exact e
 .cases hv:cQ r i ⟨st.env,⟨dG (nh i st.env) st.hs.heap,st.hs.next⟩⟩ with
  |none=>rw[hv]at e;simp at e
  |some st1=>rw[hv]at e;rw[Df le hv];exact e
def Xx (le:uY r q){a:Bool}{F:C_}{i:VI}{st x:St}(e:bV r a F i st=some x):bV q a F i st=some x:=by
 cases a
 .exact Df le e
 .exact apz le e
def PT (le:uY r q){nr:C_}{vs:S_}:∀{l F:C_}{st x:St},fH r nr vs l F st=some x->fH q nr vs l F st=some x
 |[],_,_,_,e=>e
 |i::l,F,st,x,e=>by
  simp only[fH]at e⊢
  cases hi:vs[i]? with
  |none=>rw[hi]at e;simp at e
  |some v =>
   rw[hi]at e;simp only at e⊢
   cases hv:bV r (ee i nr) F v st with
   |none=>rw[hv]at e;simp at e
   |some st1=>rw[hv]at e;rw[Xx le hv];exact PT le e
theorem ML (le:uY r q){c:VC}{st:St}{x:cq×St}(e:cT c r st=some x):cT c q st=some x:=by
 cases c<;>try exact e
 .rename_i d ops;simp only[cT,Sb]at e⊢
  cases hv:kj r ops st with
  |none=>rw[hv]at e;simp at e
  |some st1=>rw[hv]at e;rw[PD le hv];exact e
 .rename_i perm gco nr ops;simp only[cT,LJ,K7]at e⊢
  cases ha:rI st.env ops with
  |false=>rw[ha]at e;simp at e
  |true =>
  rw[ha]at e;simp only at e⊢
  cases hv:fH r nr ops perm [] st with
  |none=>rw[hv]at e;simp at e
  |some st1=>rw[hv]at e;rw[PT le hv];exact e
 .rename_i a b;simp only[cT,LU]at e⊢
  cases hv:r.code a st with
  |none=>rw[hv]at e;simp at e
  |some p =>
   obtain⟨o,st1⟩:=p;rw[hv]at e;rw[le.code _ _ _ hv]
   cases o<;>simp only at e⊢
   .exact le.code _ _ _ e
   all_goals exact e
 .rename_i cr a b;simp only[cT,Lh]at e⊢;split at e
  .exact le.code _ _ _ e
  .exact le.code _ _ _ e
  .simp at e
 .rename_i id a;simp only[cT,Lq]at e⊢
  cases hv:r.code a st with
  |none=>rw[hv]at e;simp at e
  |some p=>rw[hv]at e;rw[le.code _ _ _ hv];exact e
 .rename_i a;simp only[cT,Qt]at e⊢
  cases hv:r.code a st with
  |none=>rw[hv]at e;simp at e
  |some p =>
   obtain⟨o,st1⟩:=p;rw[hv]at e;rw[le.code _ _ _ hv]
   cases o<;>simp only at e⊢
   .exact le.code _ _ _ e
   all_goals exact e
 .rename_i f params assign body;simp only[cT,CH]at e⊢;split at e
  .rename_i g first caps e1 h1
   split at e
   .rename_i v hs hc;rw[le.call _ _ _ _ hc];exact e
   .simp at e
  .simp at e
 .exact le.code _ _ _ e
 .rename_i a cur;simp only[cT,ID]at e⊢
  cases hv:r.code cur st with
  |none=>rw[hv]at e;simp at e
  |some p =>
   obtain⟨o,st1⟩:=p;rw[hv]at e;rw[le.code _ _ _ hv]
   cases o<;>simp only at e⊢
   .exact e
   .exact e
   .split at e
    .exact le.code _ _ _ e
    .exact e
   .exact e
 .rename_i i d f a;simp only[cT,Qh]at e⊢
  cases hg:get st.env i with
  |none=>rw[hg]at e;simp at e
  |some p =>
   rw[hg]at e
   cases p<;>simp only at e⊢<;>try exact absurd e (by simp)
   rename_i id off
   cases hv:r.code a ⟨put st.env d (.ptr id off),st.hs⟩ with
   |none=>rw[hv]at e;simp at e
   |some p =>
    obtain⟨o,st1⟩:=p;rw[hv]at e;rw[le.code _ _ _ hv]
    cases o<;>simp only at e⊢<;>try exact absurd e (by simp)
    all_goals
     cases hc:r.call f [.ptr id off] st1.hs with
     |none=>rw[hc]at e;simp at e
     |some q=>rw[hc]at e;rw[le.call _ _ _ _ hc];exact e
theorem WH (le:uY r q){P:Nat->Y_}{f:FuncId}{a:D_}{h:HS}{x:AV×HS}(e:uQ P r f a h=some x):uQ P q f a h=some x:=by
 unfold uQ at e⊢;split at e
 .simp at e
 .rename_i fn hf;split at e
  .simp at e
  .rename_i hn
   cases hv:cT fn.body r ⟨jU 0 a,h⟩ with
   |none=>rw[hv]at e;simp at e
   |some p=>rw[hv]at e;simp only[hn,ML le hv];exact e
end
variable {P:Nat->Y_}
abbrev ta:=@Nat.le_add_right
def lim {α:Type}(f:Nat->Option α):Option α :=
 open Classical in if h:∃x,∃n,f n=some x then some (Classical.choose h) else none
def adE {α:Type}{f:Nat->Option α}(mono:∀n m x,f n=some x->f (n+m)=some x){n:Nat}{x:α}(h:f n=some x):lim f=some x:=by
 have he:∃x,∃n,f n=some x:=⟨x,n,h⟩
 unfold lim;obtain⟨m,hm⟩:=Classical.choose_spec he;have h2:=mono m n _ hm
 grind
def ad9 {α:Type}{f:Nat->Option α}{x:α}(h:lim f=some x):∃n,f n=some x:=by
 unfold lim at h;split at h<;>grind
variable {P:Nat->Y_}
def uY.rfl' {r:dt}:uY r r:=⟨λ_ _ _ h=>h,λ_ _ _ _ h=>h⟩
def uY.trans' {r q s:dt}(h:uY r q)(k:uY q s):uY r s:=⟨λc st x e=>k.code c st x (h.code c st x e),λf a hs x e=>k.call f a hs x (h.call f a hs x e)⟩
def ZD:∀n:Nat,uY (run P n) (run P (n+1))
 |0=>⟨λ_ _ _ h=>by simp[run]at h,λ_ _ _ _ h=>by simp[run]at h⟩
 |n+1=>⟨λc st x h=>ML (ZD n) h,λf a hs x h=>WH (ZD n) h⟩
theorem PF (n:Nat):∀m:Nat,uY (run P n) (run P (n+m))
 |0=>uY.rfl'
 |m+1=>(PF n m).trans' (ZD (n+m))
def Dn (P:Nat->Y_):dt:=⟨λc st=>lim λn=>(run P n).code c st,λf a h=>lim λn=>(run P n).call f a h⟩
def adT {c:VC}{st:St}{x:cq×St}{n:Nat}(h:(run P n).code c st=some x):(Dn P).code c st=some x :=
 adE (λn m x h=>(PF n m).code _ _ _ h) h
def Ug {f:FuncId}{a:D_}{hs:HS}{x:AV×HS}{n:Nat}(h:(run P n).call f a hs=some x):(Dn P).call f a hs=some x :=
 adE (λn m x h=>(PF n m).call _ _ _ _ h) h
theorem aiO (n:Nat):uY (run P n) (Dn P):=⟨λ_ _ _ h=>adT h,λ_ _ _ _ h=>Ug h⟩
theorem LG {n m:Nat}{c:VC}{st:St}{x:cq×St}(h:(run P n).code c st=some x)(le:n<=m):(run P m).code c st=some x:=by
 grind [uY.code,PF,Nat.add_sub_cancel']
def up {n m:Nat}(le:n<=m):uY (run P n) (run P m):=by
 grind [PF,Nat.add_sub_cancel']
theorem wO {c:VC}{st:St}{x:cq×St}(h:(Dn P).code c st=some x):∃n,(run P n).code c st=some x:=ad9 h
theorem Ch {f:FuncId}{a:D_}{hs:HS}{x:AV×HS}(h:(Dn P).call f a hs=some x):∃n,(run P n).call f a hs=some x:=ad9 h
theorem agL {f:FuncId}{vs:D_}{h:am}{x:AV}(e:ep (Dn P) f vs h=some x):∃n,ep (run P n) f vs h=some x:=by
 grind [ep,Ch]
theorem alj {l:Nat}{vs:D_}{hs:HS}{x:AV×HS}(e:tV (Dn P) l vs hs=some x):∃n,tV (run P n) l vs hs=some x:=by
 unfold tV at e⊢;split at e
 .split at e
  .simp at e
  .split at e<;>grind [wO,LG]
 simp_all
theorem al1 {f:AV}{vs:D_}{hs:HS}{x:AV×HS}(e:b7 (Dn P) f vs hs=some x):∃n,b7 (run P n) f vs hs=some x:=by
 cases f<;>simp only[b7,reduceCtorEq]at e⊢
 all_goals grind [Ch,alj]
theorem awy {o:nD}{st:St}{x:AV×St}(e:db o (Dn P) st=some x):∃n,db o (run P n) st=some x:=by
 cases o<;>try exact⟨0,e⟩
 .rename_i f args;simp only[db,DN]at e⊢
  cases hr:rdAll st.env args<;>grind [agL]
 .rename_i f args;simp only[db,Co]at e⊢
  cases hr:rdAll st.env args<;>grind [Ch]
 .rename_i f args;simp only[db,CX]at e⊢
  cases hf:rd st.env f with
  |none=>simp_all
  |some p =>
   obtain⟨fv,e0⟩:=p;simp only at e⊢
   cases hr:rdAll e0 args<;>grind [al1]
theorem aed {i:VI}{st x:St}(e:cQ (Dn P) i st=some x):∃n,cQ (run P n) i st=some x:=by
 have go:∀x,gb (Dn P) i st=some x->∃n,gb (run P n) i st=some x:=λx e=>by
  grind [gb,awy]
 unfold cQ at e⊢;split at e
 .simp_all
 .split at e
  .split at e<;>simp_all
  all_goals simp_all
theorem ajH:∀{l:S_}{st x:St},kj (Dn P) l st=some x->∃n,kj (run P n) l st=some x
 |[],_,_,e=>⟨0,e⟩
 |i::l,st,x,e=>by
  simp only[kj]at e⊢
  cases hv:cQ (Dn P) i st with
  |none=>simp_all
  |some st1 =>
   rw[hv]at e;obtain⟨n1,h1⟩:=aed hv;obtain⟨n2,h2⟩:=ajH e;refine⟨n1+n2,?_⟩;rw[Df (up (ta n1 n2)) h1];exact PD (up (kD n2 n1)) h2
def axD {F:C_}{i:VI}{st x:St}(e:vj (Dn P) F i st=some x):∃n,vj (run P n) F i st=some x:=by
 grind [vj,aed]
def apO {a:Bool}{F:C_}{i:VI}{st x:St}(e:bV (Dn P) a F i st=some x):∃n,bV (run P n) a F i st=some x:=by
 cases a
 .exact aed e
 .exact axD e
theorem ajt {nr:C_}{vs:S_}:∀{l F:C_}{st x:St},fH (Dn P) nr vs l F st=some x->∃n,fH (run P n) nr vs l F st=some x
 |[],_,_,_,e=>⟨0,e⟩
 |i::l,F,st,x,e=>by
  simp only[fH]at e⊢
  cases hi:vs[i]? with
  |none=>simp_all
  |some v =>
   rw[hi]at e;simp only at e⊢
   cases hv:bV (Dn P) (ee i nr) F v st with
   |none=>simp_all
   |some st1 =>
    rw[hv]at e;obtain⟨n1,h1⟩:=apO hv;obtain⟨n2,h2⟩:=ajt e;refine⟨n1+n2,?_⟩;rw[Xx (up (ta n1 n2)) h1];exact PT (up (kD n2 n1)) h2
theorem afm {c:VC}{st:St}{x:cq×St}(e:cT c (Dn P) st=some x):∃n,cT c (run P n) st=some x:=by
 cases c<;>try exact⟨0,e⟩
 .grind [cT,Sb,ajH]
 .rename_i perm gco nr ops;simp only[cT,LJ,K7]at e⊢
  cases ha:rI st.env ops<;>grind [ajt]
 .rename_i a b;simp only[cT,LU]at e⊢
  grind [wO,LG]
 .rename_i cr a b;simp only[cT,Lh]at e⊢;split at e<;>grind [wO]
 .grind [cT,Lq,wO]
 .rename_i a;simp only[cT,Qt]at e⊢
  grind [wO,LG]
 .rename_i f params assign body;simp only[cT,CH]at e⊢;split at e<;>grind [Ch]
 .exact wO e
 .rename_i a cur;simp only[cT,ID]at e⊢
  grind [wO,LG]
 .rename_i i d f a;simp only[cT,Qh]at e⊢
  cases hg:get st.env i with
  |none=>simp_all
  |some p =>
   rw[hg]at e
   cases p<;>simp only at e⊢<;>try exact absurd e (by simp)
   rename_i id off
   cases hv:(Dn P).code a ⟨put st.env d (.ptr id off),st.hs⟩ with
   |none=>simp_all
   |some p =>
    obtain⟨o,st1⟩:=p;obtain⟨n1,h1⟩:=wO hv;rw[hv]at e
    cases o<;>simp only at e⊢<;>try exact absurd e (by simp)
    all_goals
     cases hc:(Dn P).call f [.ptr id off] st1.hs with
     |none=>simp_all
     |some q =>
      obtain⟨n2,h2⟩:=Ch hc;rw[hc]at e;refine⟨n1+n2,?_⟩;rw[LG h1 (ta n1 n2)];simp only[(up (kD n2 n1)).call _ _ _ _ h2];exact e
def arv {f:FuncId}{a:D_}{h:HS}{x:AV×HS}(e:uQ P (Dn P) f a h=some x):∃n,uQ P (run P n) f a h=some x:=by
 unfold uQ at e⊢;split at e
 .simp at e
 .split at e<;>grind [afm]
theorem im (c:VC)(st:St):(Dn P).code c st=cT c (Dn P) st:=by
 cases h:cT c (Dn P) st with
 |some x =>
  obtain⟨n,hn⟩:=afm h;exact adT (n:=n+1) hn
 |none =>
  cases k:(Dn P).code c st with
  |none=>rfl
  |some x =>
   obtain⟨n,hn⟩:=wO k
   cases n<;>grind [run,ML,aiO]
theorem atK (f:FuncId)(a:D_)(hs:HS):(Dn P).call f a hs=uQ P (Dn P) f a hs:=by
 cases h:uQ P (Dn P) f a hs with
 |some x =>
  obtain⟨n,hn⟩:=arv h;exact Ug (n:=n+1) hn
 |none =>
  cases k:(Dn P).call f a hs with
  |none=>rfl
  |some x =>
   obtain⟨n,hn⟩:=Ch k
   cases n<;>grind [run,WH,aiO]
abbrev aA:=@Int.eq_ofNat_of_zero_le
variable {P:Nat->Y_}
def za (P:Nat->Y_)(x:J_)(b:VC):J_ :=
 match x with
 |some (.normal,st)=>(Dn P).code b st
 |x=>x
def xr (id:Nat)(x:J_):J_ :=
 match x with
 |some (.exit j,st)=>if j=id then some (.normal,st) else some (.exit j,st)
 |x=>x
def fc (x:Z_):J_ :=
 match x with
 |some st=>some (.normal,st)
 |none=>none
def qB (P:Nat->Y_)(a:VC)(x:J_):J_ :=
 match x with
 |some (.normal,st)=>(Dn P).code (.loop a) st
 |x=>x
def U8 (fn:aj)(x:J_):V_ :=
 match x with
 |some (.normal,st)=>E8 fn st
 |some (.ret,st)=>E8 fn st
 |_=>none
def sf (x:V_):M_ :=
 match x with
 |some (v,hs)=>gy hs.heap v
 |none=>none
def awx {st:St}{b:VC}:za P (some (.normal,st)) b=(Dn P).code b st:=(rfl)
def axG {st:St}{b:VC}:za P (some (.ret,st)) b=some (.ret,st):=(rfl)
def avV {st:St}{b:VC}{j:Nat}:za P (some (.exit j,st)) b=some (.exit j,st):=(rfl)
def awS {st:St}{b:VC}{j:Nat}:za P (some (.goto j,st)) b=some (.goto j,st):=(rfl)
def axr {b:VC}:za P none b=none:=(rfl)
def awz {c:Prop}[Decidable c]{x y:J_}{b:VC}:za P (if c then x else y) b=if c then za P x b else za P y b:=d_
def awN {st:St}{i:Nat}:xr i (some (.normal,st))=some (.normal,st):=(rfl)
def axh {st:St}{i:Nat}:xr i (some (.ret,st))=some (.ret,st):=(rfl)
def avy {st:St}{i j:Nat}:xr i (some (.exit j,st))=if j=i then some (.normal,st) else some (.exit j,st):=(rfl)
def axF {st:St}{i j:Nat}:xr i (some (.goto j,st))=some (.goto j,st):=(rfl)
def aw1 {i:Nat}:xr i none=none:=(rfl)
def avo {c:Prop}[Decidable c]{x y:J_}{i:Nat}:xr i (if c then x else y)=if c then xr i x else xr i y:=d_
theorem La {st:St}{a:VC}:qB P a (some (.normal,st))=(Dn P).code (.loop a) st:=(rfl)
def atl {st:St}{a:VC}:qB P a (some (.ret,st))=some (.ret,st):=(rfl)
def auH {st:St}{a:VC}{j:Nat}:qB P a (some (.exit j,st))=some (.exit j,st):=(rfl)
def aud {st:St}{a:VC}{j:Nat}:qB P a (some (.goto j,st))=some (.goto j,st):=(rfl)
def aur {a:VC}:qB P a none=none:=(rfl)
def atG {c:Prop}[Decidable c]{x y:J_}{a:VC}:qB P a (if c then x else y)=if c then qB P a x else qB P a y:=d_
def avZ {st:St}:fc (some st)=some (.normal,st):=(rfl)
def avJ:fc none=none:=(rfl)
def aw8 {c:Prop}[Decidable c]{x y:Z_}:fc (if c then x else y)=if c then fc x else fc y:=d_
def awT {v:AV}{hs:HS}:sf (some (v,hs))=gy hs.heap v:=(rfl)
def awl:sf none=none:=(rfl)
def avF {c:Prop}[Decidable c]{x y:V_}:sf (if c then x else y)=if c then sf x else sf y:=d_
def amK {st:St}:(Dn P).code .skip st=some (.normal,st):=by rw[im];rfl
def anE {st:St}{i:Nat}:(Dn P).code (.exit i) st=some (.exit i,st):=by rw[im];rfl
def aqe {st:St}:(Dn P).code .ret st=some (.ret,st):=by rw[im];rfl
def al0 {st:St}{i:Nat}:(Dn P).code (.label i) st=some (.normal,st):=by rw[im];rfl
def anw {st:St}{i:Nat}:(Dn P).code (.goto i) st=some (.goto i,st):=by rw[im];rfl
def aqg {st:St}{a b:VC}:(Dn P).code (.seq a b) st=za P ((Dn P).code a st) b:=by rw[im];rfl
def alg {st:St}{i:Nat}{a:VC}:(Dn P).code (.block i a) st=xr i ((Dn P).code a st):=by
 grind [im,cT,Lq,xr,Nat.eq_of_beq_eq_true,Nat.ne_of_beq_eq_false]
def am7 {st:St}{a:VC}:(Dn P).code (.loop a) st=qB P a ((Dn P).code a st):=by rw[im];rfl
theorem Uu {st:St}{d:Bool}{ops:S_}:(Dn P).code (.reg d ops) st=fc (kj (Dn P) ops st):=by rw[im];rfl
theorem amD {st:St}{perm gco:C_}{ops:S_}(ha:rI st.env ops=true):(Dn P).code (.regP perm gco [] ops) st=fc (uX (Dn P) ops perm st):=by
 rw[im];simp only[cT,LJ,K7,aeo,ha];rfl
def ak2 {e:aV}{hs:HS}{a b:VC}{t:Bool}:(Dn P).code (.cond (.c (B_ t)) a b) ⟨e,hs⟩=if t=true then (Dn P).code a ⟨e,hs⟩ else (Dn P).code b ⟨e,hs⟩:=by
 grind [im,cT,Lh,rd]
def RH (P:Nat->Y_)(v:M_)(a b:VC)(st:St):J_ :=
 match v with
 |some (.d (.bool true))=>(Dn P).code a st
 |some (.d (.bool false))=>(Dn P).code b st
 |_=>none
def amC {e:aV}{hs:HS}{i:Nat}{a b:VC}:(Dn P).code (.cond (.m i) a b) ⟨e,hs⟩=RH P (get e i) a b ⟨del e i,hs⟩:=by
 rw[im];simp only[cT,Lh,rd,RH]
 grind
def auC {a b:VC}{st:St}:RH P (some (B_ true)) a b st=(Dn P).code a st:=(rfl)
def auW {a b:VC}{st:St}:RH P (some (B_ false)) a b st=(Dn P).code b st:=(rfl)
def aFx (P:Nat->Y_)(v:M_)(w:Bool)(d:I_)(op:nD)(th:R_)(st:St):Z_ :=
 match v with
 |some (.d (.bool b))=>match b == w with
  |true=>cQ (Dn P) ⟨d,none,op,th⟩ st
  |false=>some (cD d (.tup []) st)
 |some (.tup [])=>some (cD d (.tup []) st)
 |_=>none
def aBW {α:Type}{i:Nat}:get ([]:List (Nat×α)) i=none:=(rfl)
def axp {α:Type}{k i:Nat}{v:α}{r:List (Nat×α)}:get ((k,v)::r) i=if k=i then some v else get r i:=iG ..
def aBD {α:Type}{i:Nat}{x:α}:put [] i x=[(i,x)]:=(rfl)
def put1 {α:Type}{k i:Nat}{v x:α}{r:List (Nat×α)}:put ((k,v)::r) i x=if k=i then (i,x)::r else if i<=k then (i,x)::(k,v)::r else (k,v)::put r i x:=u9 ..
def aB9 {α:Type}{i:Nat}:del ([]:List (Nat×α)) i=[]:=(rfl)
def avO {α:Type}{k i:Nat}{v:α}{r:List (Nat×α)}:del ((k,v)::r) i=if k=i then del r i else (k,v)::del r i:=nt ..
theorem TN {k:IntKind}:nL k k=true:=by cases k<;>rfl
theorem l7 {op:BinOp}{k:IntKind}{a b:Int}(h1:op≠.shl)(h2:op≠.shr):dx op (.d (.int k a)) (.d (.int k b))=match js op k a b with|some x=>some (.d x)|none=>none:=by
 grind [dx,uF,TN]
def aun {k:IntKind}{a b:Int}:dx .add (.d (.int k a)) (.d (.int k b))=some (.d (.int k (wr k (a+b)))):=by rw[l7 s_ s_];rfl
def auF {k:IntKind}{a b:Int}:dx .sub (.d (.int k a)) (.d (.int k b))=some (.d (.int k (wr k (a-b)))):=by rw[l7 s_ s_];rfl
def at8 {k:IntKind}{a b:Int}:dx .mul (.d (.int k a)) (.d (.int k b))=some (.d (.int k (wr k (a*b)))):=by rw[l7 s_ s_];rfl
def asX {k:IntKind}{a b:Int}(h:b≠0):dx .quo (.d (.int k a)) (.d (.int k b))=some (.d (.int k (wr k (a.tdiv b)))):=by grind [l7,js]
def as6 {k:IntKind}{a b:Int}(h:b≠0):dx .rem (.d (.int k a)) (.d (.int k b))=some (.d (.int k (a.tmod b))):=by grind [l7,js]
def avg {k:IntKind}{a b:Int}:dx .eql (.d (.int k a)) (.d (.int k b))=if a=b then some (B_ true) else some (B_ false):=by grind [l7,js]
def asR {k:IntKind}{a b:Int}:dx .neq (.d (.int k a)) (.d (.int k b))=if a=b then some (B_ false) else some (B_ true):=by grind [l7,js]
def au0 {k:IntKind}{a b:Int}:dx .lss (.d (.int k a)) (.d (.int k b))=if a<b then some (B_ true) else some (B_ false):=by grind [l7,js]
def auE {k:IntKind}{a b:Int}:dx .leq (.d (.int k a)) (.d (.int k b))=if a<=b then some (B_ true) else some (B_ false):=by grind [l7,js]
def atY {k:IntKind}{a b:Int}:dx .gtr (.d (.int k a)) (.d (.int k b))=if b<a then some (B_ true) else some (B_ false):=by grind [l7,js]
def auU {k:IntKind}{a b:Int}:dx .geq (.d (.int k a)) (.d (.int k b))=if b<=a then some (B_ true) else some (B_ false):=by grind [l7,js]
def auG {k j:IntKind}{a b:Int}(h:0<=b):dx .shl (.d (.int k a)) (.d (.int j b))=some (.d (.int k (wr k (a*((2 ^ (min b.toNat k.bits):Nat):Int))))):=by
 grind [dx,uF,Gl]
def auN {k j:IntKind}{a b:Int}(h:0<=b):dx .shr (.d (.int k a)) (.d (.int j b))=some (.d (.int k (a.fdiv ((2 ^ (min b.toNat k.bits):Nat):Int)))):=by
 grind [dx,uF,Gl]
def apP {a b:BC_}:dx .eql (.d (.str a)) (.d (.str b))=if a=b then some (B_ true) else some (B_ false):=by
 grind [dx]
def ayl {n:Int}(h:0<=n)(h2:n<=255):wr .u8 n=n:=by
 grind [wr,nu]
def aw5 {n:Int}(h:0<=n)(h2:n<=65535):wr .u16 n=n:=by
 grind [wr,nu]
def awd {n:Int}(h:0<=n)(h2:n<=4294967295):wr .u32 n=n:=by
 grind [wr,nu]
def avu {n:Int}(h:0<=n)(h2:n<=18446744073709551615):wr .u64 n=n:=by
 grind [wr,nu]
theorem wD {k:IntKind}{i:Int}{t:Nat}(h:0<=i)(h2:i<=t):dM (.d (.int k i)) t=some i.toNat:=by
 obtain⟨n,rfl⟩:=aA h;have:Nat.ble n t=true:=cO o_;show(match Nat.ble n t with|true=>some n|false=>none)=_
 grind
theorem RT {k:IntKind}{i:Int}(h:0<=i):qp (.d (.int k i))=some i.toNat:=by
 obtain⟨n,rfl⟩:=aA h;rfl
def oF (k:IntKind):Nat:=if k.signed then 2 ^ (k.bits-1) else 2 ^ k.bits
theorem as5 (k:IntKind):oF k<=2 ^ k.bits:=by cases k<;>decide
theorem alD {k:IntKind}{n:Nat}(h:n<oF k):k.wrap (n:Int)=n:=by
 cases k<;>simp only[oF,IntKind.wrap,IntKind.signed,IntKind.bits]at h⊢<;>simp at h⊢<;>omega
theorem Kd {k:IntKind}{n:Nat}(h:n<oF k):(BitVec.ofInt k.bits (n:Int)).toNat=n:=by
 grind [as5]
def avv {k:IntKind}{a b:Nat}(h:a<oF k)(h2:b<oF k)(h3:a |||b<oF k):dx .or (.d (.int k (a:Int))) (.d (.int k (b:Int)))=some (.d (.int k ((a |||b:Nat):Int))):=by
 grind [l7,js,GA,Kd,alD]
theorem at9 {a b t:Nat}(h:a<t):a &&& b<t:=by grind [Nat.and_le_left]
def avc {k:IntKind}{a b:Nat}(h:a<oF k)(h2:b<oF k):dx .and (.d (.int k (a:Int))) (.d (.int k (b:Int)))=some (.d (.int k ((a &&& b:Nat):Int))):=by
 grind [l7,js,GA,Kd,alD,at9]
def bq (P:Nat->Y_)(f:FuncId)(ds:D_):M_:=sf ((Dn P).call f ds ⟨[],0⟩)
theorem abA {f:FuncId}{fn:aj}{args:D_}{hs:HS}(hf:P f=some fn)(hl:args.length=fn.nparams):(Dn P).call f args hs=U8 fn ((Dn P).code fn.body ⟨jU 0 args,hs⟩):=by
 grind [atK,Nat.beq_refl,uQ,U8,im]
def arb {f:FuncId}{fn:aj}{args:D_}(hf:P f=some fn)(hl:args.length=fn.nparams):bq P f args=sf (U8 fn ((Dn P).code fn.body ⟨jU 0 args,⟨[],0⟩⟩)):=by
 grind [bq,abA]
def aoa {g:FuncId}{first caps args:D_}{hs:HS}:b7 (Dn P) (.fn g first caps) args hs=(Dn P).call g (first++(args++caps)) hs:=(rfl)
def aw3 {α:Type}{a b:Prop}[Decidable a][Decidable b]{x y:α}:(if a then (if b then x else y) else y)=if a∧b then x else y:=by
 grind
def axn {α:Type}{a b:Prop}[Decidable a][Decidable b]{x y:α}:(if a then x else (if b then x else y))=if a∨b then x else y:=by
 grind
def axi {α:Type}{a b:Prop}[Decidable a][Decidable b]{x y:α}:(if a then (if b then y else x) else y)=if a∧¬b then x else y:=by
 grind
def awn {α:Type}{a b:Prop}[Decidable a][Decidable b]{x y:α}:(if a then x else (if b then y else x))=if a∨¬b then x else y:=by
 grind
def nth {α:Type}[Inhabited α](l:List α)(i:Nat):α:=l.getD i default
theorem afF {α:Type}[Inhabited α]{l:List α}{i:Nat}(h:i<l.length):nth l i=l[i]:=by simp[nth,h]
theorem zk {α:Type}[Inhabited α]{l:List α}{i:Nat}(h:i<l.length):l[i]?=some (nth l i):=by simp[nth,h]
theorem pP {α:Type}[Inhabited α]{l:List α}{i:Nat}(h:i<l.length):l.drop i=nth l i::l.drop (i+1):=by grind [List.drop_eq_getElem_cons,afF]
theorem iP {α:Type}[Inhabited α]{l:List α}{i:Nat}(h:i<l.length):nth l i∈l:=by grind [afF]
abbrev I (n:Int):D:=.int .i64 n
abbrev Y (n:Int):D:=.int .u8 n
def aF (l:G_):E_:=l.map fun(n:Int)=>[D.int .i64 n]
def ak (l:C_):E_:=l.map fun(n:Nat)=>[D.int .u8 (n:Int)]
def Q9 (l:X_):E_:=l.map fun(n:Bool)=>[D.bool n]
def arE {l:G_}:(aF l).length=l.length:=by simp[aF]
def aqm {l:C_}:(ak l).length=l.length:=by simp[ak]
def aoG {l:X_}:(Q9 l).length=l.length:=by simp[Q9]
def HA {l:G_}{i:Nat}(h:i<l.length):(aF l)[i]?=some [.int .i64 (nth l i)]:=by grind [aF,zk]
def apt {l:C_}{i:Nat}(h:i<l.length):(ak l)[i]?=some [.int .u8 (nth l i:Nat)]:=by grind [ak,zk]
def aoh {l:X_}{i:Nat}(h:i<l.length):(Q9 l)[i]?=some [.bool (nth l i)]:=by grind [Q9,zk]
def ani {a b:Nat}:((a:Int)+(b:Int)).toNat=a+b:=o_
def Z1 {a b:Nat}:Nat.beq a b=decide (a=b):=by
 grind [Nat.eq_of_beq_eq_true,Nat.ne_of_beq_eq_false]
theorem ZT {a b:Nat}:Nat.ble a b=decide (a<=b):=by
 grind [Nat.le_of_ble_eq_true,Nat.ble_eq_true_of_le]
def asV {x y:J_}{b:VC}(h:x=y):za P x b=za P y b:=by rw[h]
def ave {x y:J_}{b:Nat}(h:x=y):xr b x=xr b y:=by rw[h]
def apr {x y:J_}{b:VC}(h:x=y):qB P b x=qB P b y:=by rw[h]
def atw {x y:J_}{b:aj}(h:x=y):U8 b x=U8 b y:=by rw[h]
def atC {r:dt}{c:VC}{x y:St}(h:x=y):r.code c x=r.code c y:=by rw[h]
def aqq {v w:M_}{a b:VC}{x y:St}(h:v=w)(k:x=y):RH P v a b x=RH P w a b y:=by rw[h,k]
variable {P:Nat->Y_}
def bA {α β:Type}(x:Option α)(f:α->Option β):Option β :=
 match x with
 |some v=>f v
 |none=>none
def bP {α γ β:Type}(x:Option (α×γ))(f:α->γ->Option β):Option β :=
 match x with
 |some (v,w)=>f v w
 |none=>none
def lA {α β:Type}(x:α)(f:α->β):β:=f x
def lP {α γ β:Type}(x:α×γ)(f:α->γ->β):β:=f x.1 x.2
def dB {β:Type}(c:Bool)(x:Option β):Option β :=
 match c with
 |true=>x
 |false=>none
def gV (g:AV)(w:Bool)(x:M_):M_ :=
 match g with
 |.d (.bool b)=>if b=w then x else some (.tup [])
 |.tup []=>some (.tup [])
 |_=>none
def gH (g:AV)(w:Bool)(hs:HS)(x:V_):V_ :=
 match g with
 |.d (.bool b)=>if b=w then x else some (.tup [],hs)
 |.tup []=>some (.tup [],hs)
 |_=>none
def Rq (c a b:AV):M_ :=
 match c with
 |.d (.bool true)=>some a
 |.d (.bool false)=>some b
 |_=>none
def adi (neg:Bool)(a b:AV):BF_ :=
 match a,b with
 |.d (.bool a),.d (.bool b)=>some (.bool (match neg with|true=>!(a == b)|false=>a == b))
 |_,_=>none
def asJ (neg:Bool)(ks:X_)(a b:AV):BF_ :=
 match a,b with
 |.agg a,.agg b=>match bv ks a b with
  |some t=>some (.bool (match neg with|true=>!t|false=>t))
  |none=>none
 |_,_=>none
def fg (op:BinOp)(a b:AV):BF_ :=
 match dx op a b with
 |some (.d x)=>some x
 |_=>none
def unD (op:UnOp)(a:AV):BF_ :=
 match YC op a with
 |some (.d x)=>some x
 |_=>none
def WV (k:IntKind)(a:AV):BF_ :=
 match a with
 |.d (.int _ n)=>some (.int k (wr k n))
 |_=>none
def PO (h:am)(a:AV):BF_ :=
 match elems h a with
 |some xs=>match tO xs with
  |some s=>some (.str s)
  |none=>none
 |none=>none
def Eh (z:W_)(l c:AV):M_ :=
 match dM c aW with
 |some c=>match dM l c with
  |some n=>some (.own true z.length (List.replicate n z))
  |none=>none
 |none=>none
def pU (h:am)(m:Nat)(x:AV)(lo hi mx:M_):M_ :=
 match okSl h m x with
 |true=>tU m x lo hi mx
 |false=>none
def Pu (hp:am)(n:Nat)(x:AV)(lo hi mx:M_):M_ :=
 match x with
 |.ptr id off=>Rx hp n id off lo hi mx
 |_=>none
def avI (off:Nat)(n:I_)(x:AV):M_ :=
 match x with
 |.agg cs=>DX n cs off
 |_=>none
def Vt (hp:am)(n:Nat)(x i:AV):M_ :=
 match qp i with
 |some i=>match x with
  |.sl id off len=>match Nat.ble len i with
   |true=>none
   |false=>match get hp id with
    |some (.arr m _)=>match Nat.beq m n with
     |true=>some (.pel id (off+i) 0)
     |false=>none
    |some (.cells _)=>match Nat.beq n 1 with
     |true=>some (.ptr id (off+i))
     |false=>none
    |_=>none
  |v=>match elems hp v with
   |some xs=>match xs[i]? with
    |some x=>match Nat.beq x.length n with
     |true=>some (.pim x 0)
     |false=>none
    |none=>none
   |none=>none
 |none=>none
def IU (len n:Nat)(p i:AV):M_ :=
 match qp i with
 |some i=>match Nat.ble len i with
  |true=>none
  |false=>gP (i*n) p
 |none=>none
def ixV (len n:Nat)(agg:Bool)(x i:AV):M_ :=
 match x with
 |.agg cs=>match qp i with
  |some i=>match Nat.ble len i with
   |true=>none
   |false=>DX (aev agg n) cs (i*n)
  |none=>none
 |_=>none
def alA (x i:AV):BF_ :=
 match x with
 |.d (.str s)=>match qp i with
  |some i=>match s[i]? with
   |some b=>some (.int .u8 (.ofNat b.toNat))
   |none=>none
  |none=>none
 |_=>none
def yz (mv:Bool)(t:AV)(i:Nat):M_ :=
 match t with
 |.tup vs=>match vs[i]? with
  |some v=>match mv with
   |true=>some v
   |false=>some (share v)
  |none=>none
 |_=>none
def LW (t:AV)(i:Nat):AV :=
 match t with
 |.tup vs=>.tup (vs.set i .junk)
 |v=>v
def YT (x:AV):Bool :=
 match x with
 |.nl=>true
 |_=>false
def Yw (m:Nat)(h:am)(a b:AV):AF_ :=
 match elems h b with
 |some ys=>match fB m ys with
  |true=>et m h a ys
  |false=>none
 |none=>none
def FN (z:W_)(h:am)(a n:AV):AF_ :=
 match dM n aW with
 |some n=>et z.length h a (List.replicate n z)
 |none=>none
def agt (m:Nat)(hp:am)(a b:AV):Option (D×am) :=
 match elems hp b with
 |some ys=>match a with
  |.sl id off len=>match get hp id with
   |some (.arr k xs)=>match fB m ys && Nat.beq k m && Nat.ble (off+len) xs.length with
    |true=>some (.int .i64 (.ofNat (min len ys.length)),put hp id (.arr k (aE xs off (ys.take len))))
    |false=>none
   |_=>none
  |_=>match lenOf a with
   |some 0=>some (.int .i64 (.ofNat 0),hp)
   |_=>none
 |none=>none
def awC (z:W_)(hp:am)(x:AV):Option am :=
 match x with
 |.sl id off len=>match get hp id with
  |some (.arr k xs)=>match Nat.beq k z.length && Nat.ble (off+len) xs.length with
   |true=>some (put hp id (.arr k (aE xs off (List.replicate len z))))
   |false=>none
  |_=>none
 |_=>none
def Cp (isMax:Bool)(vs:D_):M_ :=
 match vs with
 |.d (.int k n)::vs=>Aw isMax (.d (.int k n)) vs
 |_=>none
def DQ (v:AV):M_ :=
 match v with
 |.ptr ..|.pel ..|.pim ..|.fn ..|.yield ..=>some v
 |_=>none
def eM (h:am)(n:I_)(p:AV):M_ :=
 match loadAt h n 0 p with
 |some (v,_)=>some v
 |none=>none
def IY (m:Nat)(vs:D_):Bool:=vs.all λv=>Nat.beq v.cells.length m && v.cells.all bu
def cw {β:Type}(e:aV)(x:Rd)(k:AV->aV->Option β):Option β :=
 match rd e x with
 |some (v,e)=>k v e
 |none=>none
def ki {β:Type}:aV->U_->(D_->aV->Option β)->Option β
 |e,[],k=>k [] e
 |e,x::r,k=>match rd e x with
  |some (v,e)=>ki e r λvs e=>k (v::vs) e
  |none=>none
def ml {β:Type}(e:aV)(x:AB_)(k:M_->aV->Option β):Option β :=
 match x with
 |none=>k none e
 |some x=>match rd e x with
  |some (v,e)=>k (some v) e
  |none=>none
def bJ:Rd->Bool
 |.m _=>false
 |_=>true
def bR {β:Type}(P:Nat->Y_)(op:nD)(e:aV)(hs:HS)(k:AV->aV->HS->Option β):Option β :=
 match op with
 |.mov x=>cw e x λv e=>k v e hs
 |.pick c a b=>cw e c λc e=>match bJ a && bJ b,rd e a,rd e b with
  |true,some (a,_),some (b,_)=>bA (Rq c a b) λv=>k v e hs
  |_,_,_=>bP (kw (.c c) a b ⟨e,hs⟩) λv st=>k v st.env st.hs
 |.alloc zs=>lA (put hs.heap hs.next (.cells zs)) λh=>k (.ptr hs.next 0) e ⟨h,hs.next+1⟩
 |.box x=>cw e x λv e=>dB (v.cells.all bu) (lA (put hs.heap hs.next (.cells v.cells)) λh=>k (.ptr hs.next 0) e ⟨h,hs.next+1⟩)
 |.build zs ps=>ki e (qP ps) λvs e=>bA (dS zs (sK ps vs)) λcs=>k (.agg cs) e hs
 |.mks m ps=>ki e ps λvs e=>bA (jl m vs) λxs=>k (.own true m xs) e hs
 |.mksv m ps=>ki e ps λvs e=>dB (IY m vs) (lA (put hs.heap hs.next (.cells (vs.flatMap AV.cells))) λh=>k (.sl hs.next 0 vs.length) e ⟨h,hs.next+1⟩)
 |.ld n 0 p=>cw e p λp e=>bA (eM hs.heap n p) λv=>k v e hs
 |.ld n (t+1) p=>cw e p λp e=>bP (loadAt hs.heap n (t+1) p) λv h=>k v e ⟨h,hs.next⟩
 |.st n p x=>cw e p λp e=>cw e x λx e=>bA (storeAt hs.heap n p x) λh=>k .junk e ⟨h,hs.next⟩
 |.nilck x=>cw e x λv e=>bA (DQ v) λv=>k v e hs
 |.bin op x y=>cw e x λa e=>cw e y λb e=>bA (fg op a b) λv=>k (.d v) e hs
 |.binb neg x y=>cw e x λa e=>cw e y λb e=>bA (adi neg a b) λv=>k (.d v) e hs
 |.bina neg ks x y=>cw e x λa e=>cw e y λb e=>bA (asJ neg ks a b) λv=>k (.d v) e hs
 |.un op x=>cw e x λa e=>bA (unD op a) λv=>k (.d v) e hs
 |.conv j x=>cw e x λa e=>bA (WV j a) λv=>k (.d v) e hs
 |.toStr x=>cw e x λa e=>bA (PO hs.heap a) λv=>k (.d v) e hs
 |.mkfn f a c=>ki e a λa e=>ki e c λc e=>k (.fn f (shareAll a) (shareAll c)) e hs
 |.mkslice z l c=>cw e l λl e=>cw e c λc e=>bA (Eh z l c) λv=>k v e hs
 |.slice m x lo hi mx=>cw e x λx e=>ml e lo λlo e=>ml e hi λhi e=>ml e mx λmx e=>bA (pU hs.heap m x lo hi mx) λv=>k v e hs
 |.slarr n x lo hi mx=>cw e x λx e=>ml e lo λlo e=>ml e hi λhi e=>ml e mx λmx e=>bA (Pu hs.heap n x lo hi mx) λv=>k v e hs
 |.fa off p=>cw e p λp e=>bA (gP off p) λv=>k v e hs
 |.fld off n x=>cw e x λx e=>bA (avI off n x) λv=>k v e hs
 |.ia n x i=>cw e x λx e=>cw e i λi e=>bA (Vt hs.heap n x i) λv=>k v e hs
 |.iarr l n p i=>cw e p λp e=>cw e i λi e=>bA (IU l n p i) λv=>k v e hs
 |.ix l n a x i=>cw e x λx e=>cw e i λi e=>bA (ixV l n a x i) λv=>k v e hs
 |.ixs x i=>cw e x λx e=>cw e i λi e=>bA (alA x i) λv=>k (.d v) e hs
 |.ext j true i=>match get e j with
  |some t=>bA (yz true t i) λv=>k v (put e j (LW t i)) hs
  |none=>none
 |.ext j false i=>match get e j with
  |some t=>bA (yz false t i) λv=>k v e hs
  |none=>none
 |.len x=>cw e x λx e=>bA (lenOf x) λn=>k (.int .i64 (.ofNat n)) e hs
 |.cap x=>cw e x λx e=>dB (YT x) (k (.int .i64 (.ofNat 0)) e hs)
 |.app m x y=>cw e x λa e=>cw e y λb e=>bP (Yw m hs.heap a b) λv h=>k v e ⟨h,hs.next⟩
 |.appz z x n=>cw e x λa e=>cw e n λn e=>bP (FN z hs.heap a n) λv h=>k v e ⟨h,hs.next⟩
 |.cpy m x y=>cw e x λa e=>cw e y λb e=>bP (agt m hs.heap a b) λv h=>k (.d v) e ⟨h,hs.next⟩
 |.clr z x=>cw e x λx e=>bA (awC z hs.heap x) λh=>k (.tup []) e ⟨h,hs.next⟩
 |.minmax b xs=>ki e xs λvs e=>bA (Cp b vs) λv=>k v e hs
 |.call f args=>ki e args λvs e=>bA (ep (Dn P) f vs hs.heap) λv=>k v e hs
 |.calli f args=>ki e args λvs e=>bP ((Dn P).call f vs hs) λv hs=>k v e hs
 |.callv f args=>cw e f λf e=>ki e args λvs e=>bP (b7 (Dn P) f vs hs) λv hs=>k v e hs
 |.kill is=>k (.tup []) (is.foldl del e) hs
 |.idxb x c=>cw e x λx e=>cw e c λc e=>bA (aqG hs.heap x c) λv=>k v e hs
 |op=>bP (db op (Dn P) ⟨e,hs⟩) λv st=>k v st.env st.hs
def ij:U_->Bool
 |[]=>true
 |x::r=>bJ x && ij r
def Bm:AB_->Bool
 |none=>true
 |some x=>bJ x
def dD:nD->Bool
 |.mov x=>bJ x
 |.ld _ 0 p=>bJ p
 |.nilck x=>bJ x
 |.bin _ x y=>bJ x && bJ y
 |.binb _ x y=>bJ x && bJ y
 |.un _ x=>bJ x
 |.conv _ x=>bJ x
 |.fa _ p=>bJ p
 |.fld _ _ x=>bJ x
 |.ia _ x i=>bJ x && bJ i
 |.iarr _ _ p i=>bJ p && bJ i
 |.ix _ _ _ x i=>bJ x && bJ i
 |.ixs x i=>bJ x && bJ i
 |.ext _ mv _=>!mv
 |.len x=>bJ x
 |.call _ args=>ij args
 |.pick c a b=>bJ c && bJ a && bJ b
 |.build _ ps=>ij (qP ps)
 |.toStr x=>bJ x
 |.mkfn _ a c=>ij a && ij c
 |.mkslice _ l c=>bJ l && bJ c
 |.minmax _ xs=>ij xs
 |.slice _ x a b c=>bJ x && (Bm a && (Bm b && Bm c))
 |_=>false
def DV:nD->Bool
 |.calli _ args=>ij args
 |.callv f args=>bJ f && ij args
 |_=>false
def cvi (P:Nat->Y_)(i:VI)(e:aV)(hs:HS)(k:aV->HS->Z_):Z_ :=
 match i.guard with
 |none=>match i.th with
  |[]=>match i.dst with
   |some d=>bR P i.op e hs λv e hs=>k (put e d (firm v)) hs
   |none=>bR P i.op e hs λ_ e hs=>k e hs
  |th=>match i.dst with
   |some d=>bR P i.op e hs λv e hs=>lP (dK th v hs) λv hs=>k (put e d (firm v)) hs
   |none=>bR P i.op e hs λv e hs=>lP (dK th v hs) λ_ hs=>k e hs
 |some (s,w)=>match dD i.op,i.th,i.dst with
  |true,[],some d=>match get e s with
   |some g=>bA (gV g w (bR P i.op e hs λv _ _=>some v)) λv=>k (put e d (firm v)) hs
   |none=>none
  |_,_,_=>match DV i.op,i.th,i.dst with
   |true,[],some d=>match get e s with
    |some g=>bP (gH g w hs (bR P i.op e hs λv _ hs=>some (v,hs))) λv hs=>k (put e d (firm v)) hs
    |none=>none
   |_,_,_=>bA (cQ (Dn P) i ⟨e,hs⟩) λst=>k st.env st.hs
def oA (P:Nat->Y_):S_->aV->HS->Z_
 |[],e,hs=>some ⟨e,hs⟩
 |i::l,e,hs=>cvi P i e hs λe hs=>oA P l e hs
theorem atb {op:BinOp}{a b v:AV}(h:dx op a b=some v):∃x,v=.d x:=by
 unfold dx at h
 grind
theorem axy {op:UnOp}{a v:AV}(h:YC op a=some v):∃x,v=.d x:=by
 unfold YC at h
 grind
theorem eJ {β:Type}{e:aV}{x:Rd}{k:AV->aV->Option β}:cw e x k=match rd e x with|some (v,e)=>k v e|none=>none:=rfl
theorem ni {β:Type}:∀{l:U_}{e:aV}{k:D_->aV->Option β},ki e l k=match rdAll e l with|some (vs,e)=>k vs e|none=>none
 |[],_,_=>rfl
 |x::r,e,k=>by
  simp only[ki,rdAll]
  cases rd e x with
  |none=>rfl
  |some p =>
   simp only;rw[ni]
   grind
def ajS {β:Type}{e:aV}{x:AB_}{k:M_->aV->Option β}:ml e x k=match rdOpt e x with|some (v,e)=>k v e|none=>none:=by
 cases x<;>grind [ml,rdOpt]
def apo {h h':am}{n:I_}{p v:AV}(k:loadAt h n 0 p=some (v,h')):h'=h:=by
 unfold loadAt at k
 grind
def fX {β:Type}(x:K_)(k:AV->aV->HS->Option β):Option β :=
 match x with
 |some (v,st)=>k v st.env st.hs
 |none=>none
theorem te {e e1:aV}{x:Rd}{v:AV}(hs:bJ x=true)(h:rd e x=some (v,e1)):e1=e:=by
 cases x<;>grind [rd,bJ]
theorem MC {a b:Rd}{st:St}:kw (.c (B_ true)) a b st=match rd st.env a with|some (v,e)=>some (v,⟨e,st.hs⟩)|none=>none:=rfl
theorem ME {a b:Rd}{st:St}:kw (.c (B_ false)) a b st=match rd st.env b with|some (v,e)=>some (v,⟨e,st.hs⟩)|none=>none:=rfl
def HF {β:Type}{op:nD}{e:aV}{hs:HS}{k:AV->aV->HS->Option β}:bR P op e hs k=fX (db op (Dn P) ⟨e,hs⟩) k:=by
 cases op with
 |mov x=>grind [bR,db,RU,eJ,fX]
 |pick c a b =>
  simp only[bR,db,eJ]
  cases hc:rd e c with
  |none=>grind [kw,fX]
  |some q =>
   obtain⟨v,e1⟩:=q;have h0:kw c a b ⟨e,hs⟩=kw (.c v) a b ⟨e1,hs⟩:=by
    unfold kw;simp only;rw[hc];rfl
   rw[h0];simp only;split
   .rename_i va _ vb _ hst hra hrb;simp only[af]at hst;have ea:=te hst.1 hra;have eb:=te hst.2 hrb;subst ea;subst eb;simp only[fX]
    cases v with
    |d x=>cases x with
     |bool t =>
      cases t
      all_goals grind [ME,Rq,bA,MC]
     |_=>rfl
    |_=>rfl
   .simp only[bP,fX]
    grind
 |ld n t p =>
  cases t with
  |zero =>
   simp only[bR,db,C6,eJ,fX]
   cases rd e p with
   |none=>rfl
   |some q =>
    obtain⟨v,e1⟩:=q;simp only[eM,bA]
    cases hl:loadAt hs.heap n 0 v with
    |none=>rfl
    |some r=>obtain⟨v2,h2⟩:=r;simp only[apo hl]
  |succ t =>
   grind [bR,db,C6,eJ,fX,bP]
 |alloc zs=>rfl
 |box x =>
  grind [bR,db,Rh,eJ,fX,dB,lA,HQ]
 |build zs ps =>
  grind [bR,db,Ce,ni,fX,bA]
 |mks m ps =>
  grind [bR,db,MU,ni,fX,bA]
 |mksv m ps =>
  grind [bR,db,VJ,ni,fX,dB,lA,HQ,IY]
 |st n p x =>
  simp only[bR,db,aj5,eJ,fX]
  grind [bA]
 |nilck x =>
  grind [bR,db,Gc,eJ,fX,bA,DQ]
 |bin op x y =>
  simp only[bR,db,Mv,RI,eJ,fX]
  grind [bA,fg,atb]
 |binb neg x y =>
  simp only[bR,db,K6,eJ,fX]
  grind [bA,adi]
 |bina neg ks x y =>
  simp only[bR,db,KR,eJ,fX]
  cases rd e x<;>grind [bA,asJ]
 |un op x =>
  grind [bR,db,Yr,eJ,fX,bA,unD,axy]
 |conv j x =>
  simp only[bR,db,Gp,eJ,fX]
  cases rd e x with
  |none=>rfl
  |some q =>
   obtain⟨v,e1⟩:=q;simp only[bA,WV]
   grind
 |toStr x =>
  simp only[bR,db,LF,eJ,fX]
  grind [bA,PO]
 |mkfn f a c =>
  grind [bR,db,GS,ni,fX]
 |mkslice z l c =>
  simp only[bR,db,lv,eJ,fX]
  cases rd e l<;>grind [bA,Eh]
 |slice m x lo hi mx =>
  simp only[bR,db,KK,eJ,ajS,fX]
  cases rd e x<;>grind [bA,pU]
 |slarr n x lo hi mx =>
  simp only[bR,db,Se,eJ,ajS,fX]
  cases rd e x with
  |none=>rfl
  |some q =>
   obtain⟨v,e1⟩:=q;simp only
   cases v<;>grind [bA,Pu]
 |fa off p =>
  grind [bR,db,ZP,eJ,fX,bA]
 |fld off n x =>
  simp only[bR,db,MA,eJ,fX]
  cases rd e x with
  |none=>rfl
  |some q =>
   obtain⟨v,e1⟩:=q;simp only[bA,avI]
   grind
 |ia n x i =>
  simp only[bR,db,agq,eJ,fX]
  cases rd e x with
  |none=>rfl
  |some q =>
   obtain⟨v,e1⟩:=q;simp only
   cases rd e1 i with
   |none=>rfl
   |some q =>
    obtain⟨w,e2⟩:=q;simp only[bA,Vt]
    cases qp w with
    |none=>rfl
    |some j =>
     simp only
     cases v<;>grind
 |iarr l n p i =>
  simp only[bR,db,KY,eJ,fX]
  cases rd e p<;>grind [bA,IU]
 |ix l n a x i =>
  simp only[bR,db,Uj,eJ,fX]
  cases rd e x with
  |none=>rfl
  |some q =>
   obtain⟨v,e1⟩:=q;simp only
   cases hi:rd e1 i with
   |none=>grind
   |some q =>
    obtain⟨w,e2⟩:=q;simp only[bA,ixV]
    grind
 |ixs x i =>
  simp only[bR,db,Nw,eJ,fX]
  cases rd e x with
  |none=>rfl
  |some q =>
   obtain⟨v,e1⟩:=q;simp only
   cases hi:rd e1 i with
   |none=>grind
   |some q =>
    obtain⟨w,e2⟩:=q;simp only[bA,alA]
    grind
 |ext j mv i =>
  cases mv with
  |true =>
   simp only[bR,db,Bp,fX]
   cases get e j with
   |none=>rfl
   |some t =>
    simp only[bA,yz,LW]
    grind
  |false =>
   simp only[bR,db,Bp,fX]
   cases get e j with
   |none=>rfl
   |some t =>
    simp only[bA,yz]
    grind
 |len x =>
  grind [bR,db,Sa,eJ,fX,bA]
 |cap x =>
  simp only[bR,db,Nv,eJ,fX]
  cases rd e x with
  |none=>rfl
  |some q =>
   obtain⟨v,e1⟩:=q;simp only[dB,YT]
   grind
 |app m x y =>
  simp only[bR,db,F4,eJ,fX]
  cases rd e x<;>grind [bP,Yw]
 |appz z x n =>
  simp only[bR,db,adJ,eJ,fX]
  grind [bP,FN]
 |cpy m x y =>
  simp only[bR,db,Wa,eJ,fX]
  cases rd e x with
  |none=>rfl
  |some q =>
   obtain⟨v,e1⟩:=q;simp only
   cases rd e1 y with
   |none=>rfl
   |some q =>
    obtain⟨w,e2⟩:=q;simp only[bP,agt]
    cases elems hs.heap w with
    |none=>rfl
    |some ys =>
     simp only
     cases v with
     |sl id off len =>
      grind
     |_ =>
      simp only;generalize lenOf _=n
      cases n with
      |none=>rfl
      |some n=>cases n<;>rfl
 |clr z x =>
  simp only[bR,db,RK,eJ,fX]
  cases rd e x with
  |none=>rfl
  |some q =>
   simp only[bA,awC]
   grind
 |minmax b xs =>
  simp only[bR,db,yH,ni,fX]
  cases rdAll e xs with
  |none=>rfl
  |some q =>
   simp only[bA,Cp]
   grind
 |call f args =>
  grind [bR,db,DN,ni,fX,bA]
 |calli f args =>
  grind [bR,db,Co,ni,fX,bP]
 |callv f args =>
  simp only[bR,db,CX,eJ,ni,fX]
  grind [bP]
 |kill is=>rfl
 |idxb x c =>
  simp only[bR,db,adU,eJ,fX]
  grind [bA]
 |_ =>
  simp only[bR,bP,fX]
  grind
theorem N7:∀{l:U_}{e e1:aV}{vs:D_},ij l=true->rdAll e l=some (vs,e1)->e1=e
 |[],e,e1,vs,_,h=>by grind [rdAll]
 |x::r,e,e1,vs,hs,h=>by
  simp only[ij,af]at hs;simp only[rdAll]at h;split at h
  .simp at h
  .rename_i v e2 h1;split at h
   .simp at h
   .rename_i vs2 e3 h2;have a1:=te hs.1 h1;have a2:=N7 hs.2 h2
    simp_all
theorem kb {β:Type}{e:aV}{x:Rd}{k:AV->aV->Option β}(h:bJ x=true):cw e x k=cw e x λv _=>k v e:=by
 grind [cw,te]
theorem wo {β:Type}{e:aV}{l:U_}{k:D_->aV->Option β}(h:ij l=true):ki e l k=ki e l λv _=>k v e:=by
 grind [ni,N7]
theorem Ng {β:Type}{e:aV}{x:AB_}{k:M_->aV->Option β}(h:Bm x=true):ml e x k=ml e x λv _=>k v e:=by
 cases x with
 |none=>rfl
 |some x=>exact kb (k:=λv e=>k (some v) e) h
theorem lk {α β γ:Type}{x:Option α}{f:α->Option β}{g:β->Option γ}:bA (bA x f) g=bA x λv=>bA (f v) g:=by
 cases x<;>rfl
theorem fU {β γ:Type}{e:aV}{x:Rd}{k:AV->aV->Option β}{g:β->Option γ}:bA (cw e x k) g=cw e x λv e=>bA (k v e) g:=by
 simp only[cw];cases rd e x<;>rfl
theorem IN {β γ:Type}{e:aV}{x:U_}{k:D_->aV->Option β}{g:β->Option γ}:bA (ki e x k) g=ki e x λv e=>bA (k v e) g:=by
 simp only[ni];cases rdAll e x<;>rfl
theorem fE {α β:Type}{v:α}{f:α->Option β}:bA (some v) f=f v:=rfl
def PS {β:Type}{e:aV}{x y:Rd}{k:AV->AV->aV->Option β}(h:bJ x=true)(h2:bJ y=true):(cw e x λa e=>cw e y λb e=>k a b e)=cw e x λa _=>cw e y λb _=>k a b e:=by
 grind [cw,te]
def Mu {β:Type}{e:aV}{x y:Rd}{k:AV->AV->Option β}(h:bJ x=true)(h2:bJ y=true):(cw e x λa e=>cw e y λb _=>k a b)=cw e x λa _=>cw e y λb _=>k a b:=PS (k:=λa b _=>k a b) h h2
def ams {β:Type}{op:nD}{e:aV}{hs:HS}{k:AV->aV->HS->Option β}(h:dD op=true):bR P op e hs k=bA (bR P op e hs λv _ _=>some v) λv=>k v e hs:=by
 cases op with
 |mov x =>
  grind [dD,bR,fU,fE,kb]
 |ld n t p =>
  cases t<;>simp_all [dD,bR,fU,lk,fE,kb]
 |nilck x =>
  grind [dD,bR,fU,lk,fE,kb]
 |un op x =>
  grind [dD,bR,fU,lk,fE,kb]
 |conv op x =>
  grind [dD,bR,fU,lk,fE,kb]
 |fa off p =>
  grind [dD,bR,fU,lk,fE,kb]
 |fld off n p =>
  grind [dD,bR,fU,lk,fE,kb]
 |len x =>
  grind [dD,bR,fU,lk,fE,kb]
 |bin op x y =>
  simp only[dD,af]at h;simp only[bR,fU,lk,fE];exact(PS h.1 h.2).trans (Mu h.1 h.2).symm
 |binb op x y =>
  simp only[dD,af]at h;simp only[bR,fU,lk,fE];exact(PS h.1 h.2).trans (Mu h.1 h.2).symm
 |ia n x y =>
  simp only[dD,af]at h;simp only[bR,fU,lk,fE];exact(PS h.1 h.2).trans (Mu h.1 h.2).symm
 |iarr l n x y =>
  simp only[dD,af]at h;simp only[bR,fU,lk,fE];exact(PS h.1 h.2).trans (Mu h.1 h.2).symm
 |ix l n a x y =>
  simp only[dD,af]at h;simp only[bR,fU,lk,fE];exact(PS h.1 h.2).trans (Mu h.1 h.2).symm
 |ixs x y =>
  simp only[dD,af]at h;simp only[bR,fU,lk,fE];exact(PS h.1 h.2).trans (Mu h.1 h.2).symm
 |ext j mv i =>
  cases mv with
  |true=>simp[dD]at h
  |false =>
   simp only[bR]
   cases get e j with
   |none=>rfl
   |some t=>grind [lk,fE]
 |call f args =>
  grind [dD,bR,IN,lk,fE,wo]
 |build zs ps =>
  grind [dD,bR,IN,lk,fE,wo]
 |slice m x lo hi mx =>
  simp only[dD,af]at h;obtain⟨h0,h1,h2,h3⟩:=h;have bd:∀{γ:Type}{x:AB_}{e:aV}{k:M_->aV->M_}{g:AV->Option γ},bA (ml e x k) g=ml e x λv e=>bA (k v e) g:=by
   intro γ x e k g
   cases x with
   |none=>rfl
   |some x=>exact fU
  simp only[bR,fU,bd,lk,fE];rw[kb h0,kb (k:=λv e_1=>ml e_1 lo λv_1 e_1=>ml e_1 hi λv_2 e_1=>ml e_1 mx λv_3 _=>bA (pU hs.heap m v v_1 v_2 v_3) λv=>k v e hs) h0]
  congr 1
  funext v _;rw[Ng h1,Ng (k:=λv_1 e_1=>ml e_1 hi λv_2 e_1=>ml e_1 mx λv_3 _=>bA (pU hs.heap m v v_1 v_2 v_3) λv=>k v e hs) h1]
  grind [Ng]
 |minmax b ps =>
  grind [dD,bR,IN,lk,fE,wo]
 |toStr x =>
  grind [dD,bR,fU,lk,fE,kb]
 |mkslice z x y =>
  simp only[dD,af]at h;simp only[bR,fU,lk,fE];exact(PS h.1 h.2).trans (Mu h.1 h.2).symm
 |mkfn f a c =>
  simp_all [dD,bR,IN,fE,wo]
 |pick c a b =>
  simp only[dD,af]at h;simp only[bR,fU];have h2:(bJ a && bJ b)=true:=u_;simp only[cw]
  cases hc:rd e c with
  |none=>rfl
  |some q =>
   obtain⟨v,e1⟩:=q;have:=te h.1.1 hc;subst this;simp only[h2]
   cases ha:rd e1 a with
   |none =>
    cases hb:rd e1 b with
    |none =>
     cases v<;>try rfl
     rename_i d;cases d<;>try rfl
     rename_i t;cases t<;>simp only[MC,ME,ha,hb,bP,bA]
    |some q =>
     have:=te h.2 hb;subst this
     cases v<;>try rfl
     rename_i d;cases d<;>try rfl
     rename_i t;cases t<;>simp only[MC,ME,ha,hb,bP,bA]
   |some q =>
    obtain⟨va,ea⟩:=q;have:=te h.1.2 ha;subst this
    cases hb:rd ea b with
    |none =>
     cases v<;>try rfl
     rename_i d;cases d<;>try rfl
     rename_i t;cases t<;>simp only[MC,ME,ha,hb,bP,bA]
    |some q=>grind [lk,fE]
 |_=>simp[dD]at h
def ar5 {α β γ δ ε:Type}{x:Option (α×β)}{f:α->β->Option (γ×δ)}{g:γ->δ->Option ε}:bP (bP x f) g=bP x λv w=>bP (f v w) g:=by
 cases x<;>rfl
def alW {β:Type}{op:nD}{e:aV}{hs:HS}{k:AV->aV->HS->Option β}(h:DV op=true):bR P op e hs k=bP (bR P op e hs λv _ hs=>some (v,hs)) λv hs=>k v e hs:=by
 cases op with
 |calli f args =>
  simp only[bR];rw[wo h];simp only[ni]
  cases rdAll e args with
  |none=>rfl
  |some q=>simp only[ar5];rfl
 |callv f args =>
  simp only[DV,af]at h;simp only[bR];simp only[wo h.2];simp only[cw]
  cases hf:rd e f with
  |none=>rfl
  |some q =>
   obtain⟨v,e1⟩:=q;have:=te h.1 hf;subst this;simp only[ni]
   cases rdAll e1 args with
   |none=>rfl
   |some q=>simp only[ar5];rfl
 |_=>simp[DV]at h
def aaV:firm (.tup [])=.tup []:=rfl
def PU {i:VI}{e:aV}{hs:HS}{k:aV->HS->Z_}:cvi P i e hs k=bA (cQ (Dn P) i ⟨e,hs⟩) λst=>k st.env st.hs:=by
 obtain⟨dst,guard,op,th⟩:=i;unfold cvi
 cases guard with
 |none =>
  simp only[cQ,gb]
  cases th with
  |nil =>
   cases dst with
   |none =>
    simp only[HF,fX,cD]
    cases db op (Dn P) ⟨e,hs⟩<;>rfl
   |some d =>
    simp only[HF,fX,cD]
    cases db op (Dn P) ⟨e,hs⟩<;>rfl
  |cons p r =>
   cases dst with
   |none =>
    simp only[HF,fX,cD,lP]
    cases db op (Dn P) ⟨e,hs⟩<;>rfl
   |some d =>
    simp only[HF,fX,cD,lP]
    cases db op (Dn P) ⟨e,hs⟩<;>rfl
 |some g =>
  obtain⟨s,w⟩:=g;simp only;split
  .rename_i d hst;have he:∀{k:AV->aV->HS->Z_},fX (db op (Dn P) ⟨e,hs⟩) k=bA (bR P op e hs λv _ _=>some v) λv=>k v e hs:=by
    intro k;rw[<-HF,ams hst]
   have hv:∀{k:aV->HS->Z_},bA (gb (Dn P) ⟨some d,some (s,w),op,[]⟩ ⟨e,hs⟩) (λst=>k st.env st.hs)=bA (bR P op e hs λv _ _=>some v) λv=>k (put e d (firm v)) hs:=by
    intro k;rw[<-he (k:=λv e hs=>k (put e d (firm v)) hs)];simp only[gb,fX,cD]
    cases db op (Dn P) ⟨e,hs⟩<;>rfl
   simp only[cQ]
   cases get e s with
   |none=>rfl
   |some g =>
    cases g with
    |d x=>cases x with
     |bool b =>
      simp only[gV]
      cases hb:(b == w)<;>simp_all [bA,aaV,cD]
     |_=>rfl
    |tup vs=>cases vs<;>rfl
    |_=>rfl
  .split
   .rename_i d hst _;have he:∀{k:AV->aV->HS->Z_},fX (db op (Dn P) ⟨e,hs⟩) k=bP (bR P op e hs λv _ hs=>some (v,hs)) λv hs=>k v e hs:=by
     intro k;rw[<-HF,alW hst]
    have hv:∀{k:aV->HS->Z_},bA (gb (Dn P) ⟨some d,some (s,w),op,[]⟩ ⟨e,hs⟩) (λst=>k st.env st.hs)=bP (bR P op e hs λv _ hs=>some (v,hs)) λv hs=>k (put e d (firm v)) hs:=by
     intro k;rw[<-he (k:=λv e hs=>k (put e d (firm v)) hs)];simp only[gb,fX,cD]
     cases db op (Dn P) ⟨e,hs⟩<;>rfl
    simp only[cQ]
    cases get e s with
    |none=>rfl
    |some g =>
     cases g with
     |d x=>cases x with
      |bool b =>
       simp only[gH]
       cases hb:(b == w)<;>simp_all [bA,bP,aaV,cD]
      |_=>rfl
     |tup vs=>cases vs<;>rfl
     |_=>rfl
   .rfl
theorem YE:∀{l:S_}{e:aV}{hs:HS},kj (Dn P) l ⟨e,hs⟩=oA P l e hs
 |[],_,_=>rfl
 |i::l,e,hs=>by
  simp only[kj,oA,PU,bA]
  cases cQ (Dn P) i ⟨e,hs⟩ with
  |none=>rfl
  |some st=>exact YE
def D9 {d:Bool}{ops:S_}{e:aV}{hs:HS}{x:Z_}(h:oA P ops e hs=x):(Dn P).code (.reg d ops) ⟨e,hs⟩=fc x:=by
 grind [Uu,YE]
def akc {perm gco:C_}{ops:S_}{e:aV}{hs:HS}{x:Z_}(ha:rI e ops=true)(hb:(perm.all λi=>decide (i<ops.length))=true)(h:oA P (perm.filterMap λi=>ops[i]?) e hs=x):(Dn P).code (.regP perm gco [] ops) ⟨e,hs⟩=fc x:=by
 grind [amD,aax,YE]
def awY (e:aV)(d:I_):Bool :=
 match d with
 |some d=>match get e d with
  |some a=>Jp a
  |none=>false
 |none=>false
def aqZ (P:Nat->Y_)(F:C_)(v:VI)(e:aV)(hs:HS)(k:aV->HS->Z_):Z_ :=
 match sk v.op with
 |.call=>cvi P v e hs λe2 s2=>dB (dE F hs.heap s2.heap) (k e2 s2)
 |.take=>cvi P v e hs λe2 s2=>dB (awY e2 v.dst) (k e2 s2)
 |.read=>cvi P v e ⟨dG (nh v e) hs.heap,hs.next⟩ λe2 _=>k e2 hs
def W9 (P:Nat->Y_):List (Bool×VI)->C_->aV->HS->Z_
 |[],_,e,hs=>some ⟨e,hs⟩
 |(a,v)::l,F,e,hs=>match a with
  |false=>cvi P v e hs λe2 s2=>W9 P l F e2 s2
  |true=>aqZ P F v e hs λe2 s2=>W9 P l (jB true v e F) e2 s2
def auX {F:C_}{v:VI}{e:aV}{hs:HS}{k:aV->HS->Z_}:aqZ P F v e hs k=bA (vj (Dn P) F v ⟨e,hs⟩) λst=>k st.env st.hs:=by
 unfold aqZ vj
 cases sk v.op with
 |call =>
  simp only[PU]
  cases cQ (Dn P) v ⟨e,hs⟩ with
  |none=>rfl
  |some st =>
   simp only[bA]
   cases dE F hs.heap st.hs.heap<;>rfl
 |take =>
  simp only[PU]
  cases cQ (Dn P) v ⟨e,hs⟩ with
  |none=>rfl
  |some st =>
   simp only[bA,awY]
   cases v.dst with
   |none=>rfl
   |some d =>
    simp only
    cases get st.env d with
    |none=>rfl
    |some a=>simp only;cases Jp a<;>rfl
 |read =>
  simp only[PU]
  cases cQ (Dn P) v ⟨e,⟨dG (nh v e) hs.heap,hs.next⟩⟩<;>rfl
def adb (nr:C_)(ops:S_)(i:Nat):Option (Bool×VI) :=
 match ops[i]? with
 |some v=>some (ee i nr,v)
 |none=>none
def UU {nr:C_}{ops:S_}:∀{l:C_}{F:C_}{e:aV}{hs:HS},(l.all λi=>decide (i<ops.length))=true->fH (Dn P) nr ops l F ⟨e,hs⟩=W9 P (l.filterMap (adb nr ops)) F e hs
 |[],_,_,_,_=>rfl
 |i::l,F,e,hs,hb=>by
  simp only[gp,af,decide_eq_true_eq]at hb;have h1:ops[i]?=some ops[i]:=bx hb.1;have h2:adb nr ops i=some (ee i nr,ops[i]):=by grind [adb]
  simp only[fH,h1,List.filterMap_cons,h2,W9,bV]
  cases ee i nr with
  |false =>
   simp only[PU,jB]
   cases cQ (Dn P) ops[i] ⟨e,hs⟩ with
   |none=>rfl
   |some st=>exact UU hb.2
  |true =>
   simp only[auX]
   cases vj (Dn P) F ops[i] ⟨e,hs⟩ with
   |none=>rfl
   |some st=>exact UU hb.2
def dH {perm gco nr:C_}{ops:S_}{e:aV}{hs:HS}{x:Z_}(ha:rI e ops=true)(hb:(perm.all λi=>decide (i<ops.length))=true)(h:W9 P (perm.filterMap (adb nr ops)) [] e hs=x):(Dn P).code (.regP perm gco nr ops) ⟨e,hs⟩=fc x:=by
 rw[im,<-h,<-UU hb];simp only[cT,LJ,K7,ha]
 cases fH (Dn P) nr ops perm [] ⟨e,hs⟩<;>rfl
abbrev F (i:Nat):VC:=.reg false [⟨none,none,.free i,[]⟩]
def frK (e:aV)(hs:HS)(i:Nat):M_->J_
 |some (.ptr id _)=>some (.normal,⟨del e i,⟨del hs.heap id,hs.next⟩⟩)
 |some (.fn _ _ caps)=>some (.normal,⟨del e i,⟨delAll hs.heap (HH caps),hs.next⟩⟩)
 |_=>some (.normal,⟨e,hs⟩)
def ayG {e:aV}{h:am}{n i id o:Nat}:frK e ⟨h,n⟩ i (some (.ptr id o))=some (.normal,⟨del e i,⟨del h id,n⟩⟩):=rfl
def aze {e:aV}{h:am}{n i f:Nat}{a c:D_}:frK e ⟨h,n⟩ i (some (.fn f a c))=some (.normal,⟨del e i,⟨delAll h (HH c),n⟩⟩):=rfl
def awW {i:Nat}{e:aV}{hs:HS}:(Dn P).code (F i) ⟨e,hs⟩=frK e hs i (get e i):=by
 rw[Uu];simp only[kj,cQ,gb,db,Vu]
 cases get e i with
 |none=>rfl
 |some v=>cases v<;>rfl
abbrev K (l:C_):VC:=.reg false [⟨none,none,.kill l,[]⟩]
def aww {is:C_}{e:aV}{hs:HS}:(Dn P).code (K is) ⟨e,hs⟩=some (.normal,⟨is.foldl del e,hs⟩):=by rw[Uu];rfl
abbrev oj:=@Nat.two_pow_add_eq_or_of_lt
variable {P:Nat->Y_}
attribute [simp ↓] awx axG avV awS axr awz awN axh avy axF aw1 avo avZ avJ aw8 awT awl avF La atl auH aud aur atG
attribute [simp ↓] amK anE aqe al0 anw aqg alg aww awW ayG aze auC auW amC
attribute [simp] delAll HH
attribute [simp] aBW axp aBD put1 aB9 avO
attribute [congr] ite_congr asV ave apr atw atC aqq
def M6 (x:Option (D_×St)):V_ :=
 match x with
 |some ([v],st)=>some (v,st.hs)
 |some (vs,st)=>some (.tup vs,st.hs)
 |none=>none
def awo {fn:aj}{st:St}:E8 fn st=M6 (fw st fn.results):=(by
 simp only[E8,M6]
 cases fw st fn.results with
 |none=>rfl
 |some q =>
  obtain⟨vs,s⟩:=q
  cases vs with
  |nil=>rfl
  |cons v r=>cases r<;>rfl)
@[simp] def aD5 {st:St}:M6 (some ([],st))=some (.tup [],st.hs):=(rfl)
@[simp] def aEw {v:AV}{st:St}:M6 (some ([v],st))=some (v,st.hs):=(rfl)
@[simp] def aEx {v w:AV}{r:D_}{st:St}:M6 (some (v::w::r,st))=some (.tup (v::w::r),st.hs):=(rfl)
def vD (rs:AH_)(x:J_):V_ :=
 match x with
 |some (.normal,st)=>M6 (fw st rs)
 |some (.ret,st)=>M6 (fw st rs)
 |_=>none
@[simp ↓] def aD1 {rs:AH_}{st:St}:vD rs (some (.normal,st))=M6 (fw st rs):=(rfl)
@[simp ↓] def aDJ {rs:AH_}{st:St}:vD rs (some (.ret,st))=M6 (fw st rs):=(rfl)
@[simp ↓] def aEa {rs:AH_}{c:Prop}[Decidable c]{x y:J_}:vD rs (if c then x else y)=if c then vD rs x else vD rs y:=by split<;>rfl
@[simp ↓] def aj4 {n:Nat}{rs:AH_}{b:VC}{x:J_}:U8 ⟨n,rs,b⟩ x=vD rs x:=by
 simp only[U8,vD];split<;>simp only[awo]
def auy {rs:AH_}{x y:J_}(h:x=y):vD rs x=vD rs y:=by rw[h]
attribute [congr] auy
theorem ah {a b:VC}{st:St}(h:a=b):(Dn P).code (.loop a) st=qB P a ((Dn P).code b st):=by rw[<-h];exact am7
def aU {f:FuncId}{fn:aj}{n:Nat}{rs:AH_}{b:VC}{args:D_}(hf:P f=some fn)(hd:fn=⟨n,rs,b⟩)(hl:args.length=n):bq P f args=sf (vD rs ((Dn P).code b ⟨jU 0 args,⟨[],0⟩⟩)):=by
 subst hd;rw[arb hf hl,aj4]
def ba {f:FuncId}{fn:aj}{n:Nat}{rs:AH_}{b:VC}{args:D_}{hs:HS}(hf:P f=some fn)(hd:fn=⟨n,rs,b⟩)(hl:args.length=n):(Dn P).call f args hs=vD rs ((Dn P).code b ⟨jU 0 args,hs⟩):=by
 subst hd;rw[abA hf hl,aj4]
@[simp ↓] def aFA {α β:Type}{v:α}{f:α->Option β}:bA (some v) f=f v:=(rfl)
@[simp ↓] def aFs {α β:Type}{f:α->Option β}:bA none f=none:=(rfl)
@[simp ↓] def aFI {α β:Type}{c:Prop}[Decidable c]{x y:Option α}{f:α->Option β}:bA (if c then x else y) f=if c then bA x f else bA y f:=by split<;>rfl
@[simp ↓] def aFE {α γ β:Type}{v:α}{w:γ}{f:α->γ->Option β}:bP (some (v,w)) f=f v w:=(rfl)
@[simp ↓] def aFz {α γ β:Type}{f:α->γ->Option β}:bP none f=none:=(rfl)
@[simp ↓] def aFt {α γ β:Type}{c:Prop}[Decidable c]{x y:Option (α×γ)}{f:α->γ->Option β}:bP (if c then x else y) f=if c then bP x f else bP y f:=by split<;>rfl
@[simp ↓] def aFD {α β:Type}{x:α}{f:α->β}:lA x f=f x:=(rfl)
@[simp ↓] def aFC {α γ β:Type}{x:α}{y:γ}{f:α->γ->β}:lP (x,y) f=f x y:=(rfl)
@[simp ↓] def aFg {β:Type}{x:Option β}:dB true x=x:=(rfl)
@[simp ↓] def aFh {β:Type}{x:Option β}:dB false x=none:=(rfl)
def ayj {α β:Type}{x y:Option α}{f:α->Option β}(h:x=y):bA x f=bA y f:=by rw[h]
def azo {α γ β:Type}{x y:Option (α×γ)}{f:α->γ->Option β}(h:x=y):bP x f=bP y f:=by rw[h]
def ayy {α β:Type}{x y:α}{f:α->β}(h:x=y):lA x f=lA y f:=by rw[h]
def azy {α γ β:Type}{x y:α×γ}{f:α->γ->β}(h:x=y):lP x f=lP y f:=by rw[h]
attribute [congr] ayj azo ayy azy
@[simp ↓] def aFa {x:M_}:gV (B_ true) true x=x:=(rfl)
@[simp ↓] def aFn {x:M_}:gV (B_ false) false x=x:=(rfl)
@[simp ↓] def aFf {x:M_}:gV (B_ true) false x=some (.tup []):=(rfl)
@[simp ↓] def aFr {x:M_}:gV (B_ false) true x=some (.tup []):=(rfl)
@[simp ↓] def aFH {w:Bool}{x:M_}:gV (.tup []) w x=some (.tup []):=(rfl)
@[simp ↓] def aEX {hs:HS}{x:V_}:gH (B_ true) true hs x=x:=(rfl)
@[simp ↓] def aE8 {hs:HS}{x:V_}:gH (B_ false) false hs x=x:=(rfl)
@[simp ↓] def aE2 {hs:HS}{x:V_}:gH (B_ true) false hs x=some (.tup [],hs):=(rfl)
@[simp ↓] def aFe {hs:HS}{x:V_}:gH (B_ false) true hs x=some (.tup [],hs):=(rfl)
@[simp ↓] def aC9 {a b:AV}:Rq (B_ true) a b=some a:=(rfl)
@[simp ↓] def aDy {a b:AV}:Rq (B_ false) a b=some b:=(rfl)
@[simp] def aEM {x:D}:firm (.d x)=.d x:=(rfl)
@[simp] def aCR:firm .nl=.nl:=(rfl)
@[simp] def aCq {p:Bool}{m:Nat}{xs:E_}:firm (.own p m xs)=.own false m xs:=(rfl)
@[simp] def aBF {cs:D_}:firm (.agg cs)=.agg (cs.map nU):=(rfl)
@[simp] def aCe {cs:D_}:firm (.tup cs)=.tup (cs.map AK):=(rfl)
@[simp] def aBm {a b:Nat}:firm (.ptr a b)=.ptr a b:=(rfl)
@[simp] def aAV {a b c:Nat}:firm (.pel a b c)=.pel a b c:=(rfl)
@[simp] def aA5 {a:W_}{b:Nat}:firm (.pim a b)=.pim a b:=(rfl)
@[simp] def aDw {a b c:Nat}:firm (.sl a b c)=.sl a b c:=(rfl)
@[simp] def aCV {f:FuncId}{a b:D_}:firm (.fn f a b)=.fn f a b:=(rfl)
@[simp] def ayR {n:Nat}:firm (.yield n)=.yield n:=(rfl)
def tQ {op:BinOp}{a b:AV}{x:D}(h:dx op a b=some (.d x)):fg op a b=some x:=by simp only[fg,h]
def C0 {op:BinOp}{a b:AV}{c:Prop}[Decidable c]{x y:D}(h:dx op a b=if c then some (.d x) else some (.d y)):fg op a b=if c then some x else some y:=by
 by_cases hc:c<;>simp[fg,h,hc]
@[simp] def aDO {k:IntKind}{a b:Int}:fg .add (.d (.int k a)) (.d (.int k b))=some (.int k (wr k (a+b))):=tQ aun
@[simp] def aDX {k:IntKind}{a b:Int}:fg .sub (.d (.int k a)) (.d (.int k b))=some (.int k (wr k (a-b))):=tQ auF
@[simp] def aDW {k:IntKind}{a b:Int}:fg .mul (.d (.int k a)) (.d (.int k b))=some (.int k (wr k (a*b))):=tQ at8
@[simp] def aDQ {k:IntKind}{a b:Int}(h:b≠0):fg .quo (.d (.int k a)) (.d (.int k b))=some (.int k (wr k (a.tdiv b))):=tQ (asX h)
@[simp] def aEm {k:IntKind}{a b:Int}(h:b≠0):fg .rem (.d (.int k a)) (.d (.int k b))=some (.int k (a.tmod b)):=tQ (as6 h)
@[simp] def aDI {k:IntKind}{a b:Int}:fg .eql (.d (.int k a)) (.d (.int k b))=if a=b then some (.bool true) else some (.bool false):=C0 avg
@[simp] def aEv {k:IntKind}{a b:Int}:fg .neq (.d (.int k a)) (.d (.int k b))=if a=b then some (.bool false) else some (.bool true):=C0 asR
@[simp] def aDM {k:IntKind}{a b:Int}:fg .lss (.d (.int k a)) (.d (.int k b))=if a<b then some (.bool true) else some (.bool false):=C0 au0
@[simp] def aEd {k:IntKind}{a b:Int}:fg .leq (.d (.int k a)) (.d (.int k b))=if a<=b then some (.bool true) else some (.bool false):=C0 auE
@[simp] def aD3 {k:IntKind}{a b:Int}:fg .gtr (.d (.int k a)) (.d (.int k b))=if b<a then some (.bool true) else some (.bool false):=C0 atY
@[simp] def aDV {k:IntKind}{a b:Int}:fg .geq (.d (.int k a)) (.d (.int k b))=if b<=a then some (.bool true) else some (.bool false):=C0 auU
@[simp] def qZ {k j:IntKind}{a b:Int}(h:0<=b):fg .shl (.d (.int k a)) (.d (.int j b))=some (.int k (wr k (a*((2 ^ (min b.toNat k.bits):Nat):Int)))):=tQ (auG h)
@[simp] def ku {k j:IntKind}{a b:Int}(h:0<=b):fg .shr (.d (.int k a)) (.d (.int j b))=some (.int k (a.fdiv ((2 ^ (min b.toNat k.bits):Nat):Int))):=tQ (auN h)
@[simp] def aCQ {a b:BC_}:fg .eql (.d (.str a)) (.d (.str b))=if a=b then some (.bool true) else some (.bool false):=C0 apP
def arO {k:IntKind}{a b:Nat}(h:a<oF k)(h2:b<oF k)(h3:a |||b<oF k):fg .or (.d (.int k (a:Int))) (.d (.int k (b:Int)))=some (.int k ((a |||b:Nat):Int)):=tQ (avv h h2 h3)
def an2 {k:IntKind}{a b:Nat}(h:a<oF k)(h2:b<oF k):fg .and (.d (.int k (a:Int))) (.d (.int k (b:Int)))=some (.int k ((a &&& b:Nat):Int)):=tQ (avc h h2)
def amF {n b:Nat}(h:b<=1):2*n |||b=2*n+b:=by
 have:=oj (i:=1) (b:=b) o_ n;simpa using this.symm
@[simp] def aEE {a b:Int}(h:0<=a)(h1:a<4611686018427387904)(h2:a % 2=0)(h3:0<=b)(h4:b<=1):fg .or (A_ a) (A_ b)=some (.int .i64 (a+b)):=by
 obtain⟨n,rfl⟩:∃n:Nat,a=((2*n:Nat):Int):=⟨(a / 2).toNat,o_⟩
 obtain⟨m,rfl⟩:=aA h3;have hm:m<=1:=o_;have ht:oF .i64=9223372036854775808:=rfl;rw[arO o_ o_ (by rw[amF hm];omega),amF hm];simp
@[simp] def aDC {b:Bool}:unD .not (B_ b)=some (.bool !b):=(rfl)
@[simp] def aDp {k:IntKind}{n:Int}:unD .neg (.d (.int k n))=some (.int k (wr k (0-n))):=(rfl)
@[simp] def aCZ {k j:IntKind}{n:Int}:WV k (.d (.int j n))=some (.int k (wr k n)):=(rfl)
attribute [simp] ae6 ayl aw5 awd avu
attribute [simp] arE aqm aoG ani IntKind.bits
@[simp] def aDi {h:am}{m:Nat}{xs:E_}{k:IntKind}{i:Int}(h0:0<=i):Vt h m (.d (.lst xs)) (.d (.int k i))=bA xs[i.toNat]? λx=>if x.length=m then some (.pim x 0) else none:=by
 simp only[Vt,RT h0,elems]
 cases xs[i.toNat]? with
 |none=>rfl
 |some x =>
  simp only[bA];by_cases hx:x.length=m
  .simp[hx]
  .simp[hx,Z1]
@[simp] def aEH {h:am}{m j:Nat}{xs:E_}{k:IntKind}{i:Int}(h0:0<=i):Vt h m (.own false j xs) (.d (.int k i))=bA xs[i.toNat]? λx=>if x.length=m then some (.pim x 0) else none:=by
 simp only[Vt,RT h0,elems]
 cases xs[i.toNat]? with
 |none=>rfl
 |some x =>
  simp only[bA];by_cases hx:x.length=m
  .simp[hx]
  .simp[hx,Z1]
attribute [simp] HA apt aoh
@[simp] def aDl {h:am}{n:I_}{cs:W_}{o:Nat}:eM h n (.pim cs o)=nN n cs o:=by
 simp only[eM,loadAt];cases nN n cs o<;>rfl
@[simp] def aCz {cs:W_}{o:Nat}:nN none cs o=(cs[o]?).map .d:=by simp only[nN];cases cs[o]?<;>rfl
@[simp] def aAQ {cs:W_}{n o:Nat}:nN (some n) cs o=if o+n<=cs.length then some (.agg ((sub cs o n).map .d)) else none:=by
 by_cases h:o+n<=cs.length<;>simp[nN,ZT,h]
@[simp] def gq0 {α:Type}{x:α}{r:List α}:(x::r)[0]?=some x:=(rfl)
@[simp] def aBP {f:FuncId}{vs:D_}{h:am}:ep (Dn P) f vs h=bA (viewArgs h vs) λds=>bA (bq P f ds) λv=>if vs.any sU=false then some v else if jo v=true then some v else some (MR v):=by
 simp only[ep,bq,sf,bA]
 cases viewArgs h vs with
 |none=>rfl
 |some ds =>
  simp only
  cases (Dn P).call f ds ⟨[],0⟩ with
  |none=>rfl
  |some q =>
   obtain⟨v,h2⟩:=q;simp only
   cases gy h2.heap v with
   |none=>rfl
   |some v =>
    simp only
    cases vs.any sU with
    |false=>rfl
    |true=>simp only;cases jo v<;>rfl
@[simp] def aDq {x:D}:share (.d x)=.d x:=(rfl)
@[simp] def aCH  : share (.nl)=.nl:=(rfl)
@[simp] def azi {m:Nat}{xs:E_}:share (.own false m xs)=.d (.lst xs):=(rfl)
@[simp] def aAI {cs:D_}:share (.agg cs)=.agg (shareAll cs):=(rfl)
@[simp] def aAc {cs:D_}:share (.tup cs)=.tup (shareAll cs):=(rfl)
@[simp] def aAG {a b:Nat}:share (.ptr a b)=.ptr a b:=(rfl)
@[simp] def aAr {a b c:Nat}:share (.pel a b c)=.pel a b c:=(rfl)
@[simp] def aAa {cs:W_}{b:Nat}:share (.pim cs b)=.pim cs b:=(rfl)
@[simp] def aBZ {a b c:Nat}:share (.sl a b c)=.sl a b c:=(rfl)
@[simp] def aCA {f:FuncId}{a b:D_}:share (.fn f a b)=.fn f a b:=(rfl)
@[simp] def axP {n:Nat}:share (.yield n)=.yield n:=(rfl)
@[simp] def azj  : shareAll []=[]:=(rfl)
@[simp] def ay8 {v:AV}{r:D_}:shareAll (v::r)=share v::shareAll r:=(by rw[oK])
@[simp] def aCS {x:D}:nU (.d x)=.d x:=(rfl)
@[simp] def aDr {x:D}:AK (.d x)=.d x:=(rfl)
@[simp] def aDa {x:D}:AV.cells (.d x)=[.d x]:=(rfl)
@[simp] def aBn {x:D}:bu (.d x)=true:=(rfl)
@[simp] def aCs {x:D}:Eg (.d x)=bu (.d x):=(rfl)
@[simp] def aEK {x:D}:ue (.d x)=false:=(rfl)
@[simp] def aC7 {x:D}:sU (.d x)=false:=(rfl)
@[simp] def aB2 {x:D}:nB (.d x)=.d x:=(rfl)
@[simp] def aBJ {x:D}:ph (.d x)=.d x:=(rfl)
@[simp] def aCx {x:D}:oV (.d x)=.d x:=(rfl)
@[simp] def aCb  : nU (.nl)=.nl:=(rfl)
@[simp] def aAX  : AK (.nl)=.nl:=(rfl)
@[simp] def aCG  : AV.cells (.nl)=[.nl]:=(rfl)
@[simp] def aAA  : bu (.nl)=true:=(rfl)
@[simp] def aDt  : ue (.nl)=false:=(rfl)
@[simp] def aB8  : sU (.nl)=false:=(rfl)
@[simp] def azH  : iW (.nl)=true:=(rfl)
@[simp] def aAH  : kB (.nl)=true:=(rfl)
@[simp] def aAO  : jo (.nl)=true:=(rfl)
@[simp] def azL  : nB (.nl)=.nl:=(rfl)
@[simp] def aAz  : ph (.nl)=.nl:=(rfl)
@[simp] def azO  : oV (.nl)=.nl:=(rfl)
@[simp] def az9 {p:Bool}{m:Nat}{xs:E_}:nU (.own p m xs)=.own false m xs:=(rfl)
@[simp] def aAf {p:Bool}{m:Nat}{xs:E_}:AK (.own p m xs)=.own false m xs:=(rfl)
@[simp] def aAy {p:Bool}{m:Nat}{xs:E_}:AV.cells (.own p m xs)=[.own p m xs]:=(rfl)
@[simp] def ax7 {p:Bool}{m:Nat}{xs:E_}:bu (.own p m xs)=!p:=(rfl)
@[simp] def aCo {p:Bool}{m:Nat}{xs:E_}:ue (.own p m xs)=false:=(rfl)
@[simp] def aAl {p:Bool}{m:Nat}{xs:E_}:sU (.own p m xs)=false:=(rfl)
@[simp] def aAx {cs:D_}:AK (.agg cs)=.agg (cs.map nU):=(rfl)
@[simp] def aAt {cs:D_}:AV.cells (.agg cs)=cs:=(rfl)
@[simp] def aAM {cs:D_}:sU (.agg cs)=cs.any ue:=(rfl)
@[simp] def aAk {a b:Nat}:AV.cells (.ptr a b)=[.ptr a b]:=(rfl)
@[simp] def ayk {a b:Nat}:bu (.ptr a b)=true:=(rfl)
@[simp] def azN {a b:Nat}:DQ (.ptr a b)=some (.ptr a b):=(rfl)
@[simp] def aBU {a b c:Nat}:nU (.sl a b c)=.sl a b c:=(rfl)
@[simp] def aAW {a b c:Nat}:AK (.sl a b c)=.sl a b c:=(rfl)
@[simp] def aCk {a b c:Nat}:AV.cells (.sl a b c)=[.sl a b c]:=(rfl)
@[simp] def az8 {a b c:Nat}:Eg (.sl a b c)=bu (.sl a b c):=(rfl)
@[simp] def aDA {a b c:Nat}:ue (.sl a b c)=true:=(rfl)
@[simp] def aBu {f:FuncId}{a b:D_}:AV.cells (.fn f a b)=[.fn f a b]:=(rfl)
@[simp] def aAP {xs:E_}:lenOf (.d (.lst xs))=some xs.length:=(rfl)
@[simp] def aBV  : lenOf .nl=some 0:=(rfl)
@[simp] def aAL {p:Bool}{m:Nat}{xs:E_}:lenOf (.own p m xs)=some xs.length:=(rfl)
@[simp] def aCC {a b n:Nat}:lenOf (.sl a b n)=some n:=(rfl)
@[simp] def aoy {h:am}{xs:E_}:elems h (.d (.lst xs))=some xs:=(rfl)
@[simp] def azZ {h:am}{m:Nat}{xs:E_}:elems h (.own false m xs)=some xs:=(rfl)
@[simp] def ayh {o a b:Nat}:gP o (.ptr a b)=some (.ptr a (b+o)):=(rfl)
@[simp] def ayM {o b:Nat}{cs:W_}:gP o (.pim cs b)=some (.pim cs (b+o)):=(rfl)
@[simp] def aD8 {cs:D_}{i:Nat}:yz true (.tup cs) i=cs[i]?:=(by simp only[yz];cases cs[i]?<;>rfl)
@[simp] def aEC {cs:D_}{i:Nat}:yz false (.tup cs) i=(cs[i]?).map share:=(by simp only[yz];cases cs[i]?<;>rfl)
@[simp] def aDY {cs:D_}{i:Nat}:LW (.tup cs) i=.tup (cs.set i .junk):=(rfl)
@[simp] def aEW {x:D}:Ea (.d x)=some x:=(rfl)
@[simp] def aEN  : Ea .nl=some (.lst []):=(rfl)
@[simp] def aDv {m:Nat}{xs:E_}:Ea (.own false m xs)=some (.lst xs):=(rfl)
@[simp] def aEi  : lD []=some []:=(rfl)
@[simp] def aEL {v:AV}{r:D_}:lD (v::r)=bA (Ea v) λx=>bA (lD r) λxs=>some (x::xs):=(by
 simp only[lD]
 cases Ea v with
 |none=>rfl
 |some q=>simp only[bA];cases lD r<;>rfl)
@[simp] def azU {m:Nat}:jl m []=some []:=(rfl)
@[simp] def azI {m:Nat}{v:AV}{r:D_}:jl m (v::r)=if v.cells.length=m then bA (lD v.cells) λx=>bA (jl m r) λxs=>some (x::xs) else none:=(by
 by_cases h:v.cells.length=m
 .simp only[jl,Z1,h,decide_true,bc]
  cases lD v.cells with
  |none=>rfl
  |some q=>simp only[bA];cases jl m r<;>rfl
 .simp only[jl,Z1,h,decide_false,bf])
@[simp] def axQ {cs:D_}:dS cs []=some cs:=(rfl)
@[simp] def axU {cs:D_}{o n:Nat}{v:AV}{r:List (Nat×Nat×AV)}:dS cs ((o,n,v)::r)=if v.cells.length=n∧Eg v=true∧o+n<=cs.length then dS (aE cs o v.cells) r else none:=(by
 simp only[dS,Z1,ZT];by_cases h:v.cells.length=n<;>by_cases h2:Eg v=true<;>by_cases h3:o+n<=cs.length<;>simp[h,h2,h3])
def MJ {α:Type}{cs vs:List α}{o:Nat}:aE cs o vs=cs.take o++vs++cs.drop (o+vs.length):=(rfl)
attribute [simp] MJ
def alq {α:Type}{cs:List α}{o n:Nat}:sub cs o n=(cs.drop o).take n:=(rfl)
attribute [simp] alq
@[simp] def azX {h:am}{x:D}:viewOne h (.d x)=some (.d x):=(rfl)
@[simp] def ax3 {h:am}:viewOne h .nl=some .nl:=(rfl)
@[simp] def axT {h:am}{m:Nat}{xs:E_}:viewOne h (.own false m xs)=some (.d (.lst xs)):=(rfl)
@[simp] def azt {h:am}{a b c:Nat}:viewOne h (.sl a b c)=bA (elems h (.sl a b c)) λxs=>some (.d (.lst xs)):=(by simp only[viewOne];cases elems h (.sl a b c)<;>rfl)
@[simp] def aAp {h:am}:viewAll h []=some []:=(rfl)
@[simp] def aAD {h:am}{v:AV}{r:D_}:viewAll h (v::r)=bA (viewOne h v) λx=>bA (viewAll h r) λxs=>some (x::xs):=(by
 simp only[viewAll]
 cases viewOne h v with
 |none=>rfl
 |some q=>simp only[bA];cases viewAll h r<;>rfl)
@[simp] def az7 {h:am}{x:D}:viewArg h (.d x)=viewOne h (.d x):=(rfl)
@[simp] def azD {h:am}  : viewArg h (.nl)=viewOne h (.nl):=(rfl)
@[simp] def axJ {h:am}{p:Bool}{m:Nat}{xs:E_}:viewArg h (.own p m xs)=viewOne h (.own p m xs):=(rfl)
@[simp] def axK {h:am}{cs:D_}:viewArg h (.agg cs)=bA (viewAll h cs) λxs=>some (.agg xs):=(by simp only[viewArg];cases viewAll h cs<;>rfl)
@[simp] def azE {h:am}:viewArgs h []=some []:=(rfl)
@[simp] def ay6 {h:am}{v:AV}{r:D_}:viewArgs h (v::r)=bA (viewArg h v) λx=>bA (viewArgs h r) λxs=>some (x::xs):=(by
 simp only[viewArgs]
 cases viewArg h v with
 |none=>rfl
 |some q=>simp only[bA];cases viewArgs h r<;>rfl)
@[simp] def aAT {h:am}{x:D}:jT h (.d x)=some (.d x,h):=(rfl)
@[simp] def azK {h:am}:jT h .nl=some (.nl,h):=(rfl)
@[simp] def azF {h:am}{p:Bool}{m:Nat}{xs:E_}:jT h (.own p m xs)=some (.own p m xs,h):=(rfl)
@[simp] def aBv {h:am}:qI h []=some ([],h):=(rfl)
@[simp] def aBB {h:am}{v:AV}{r:D_}:qI h (v::r)=bP (jT h v) λx h=>bP (qI h r) λxs h=>some (x::xs,h):=(by simp only[qI];cases jT h v with
 |none=>rfl
 |some q=>simp only[bP];cases qI q.2 r<;>rfl)
@[simp] def ayW {h:am}{cs:D_}:fO h (.agg cs)=bP (qI h cs) λxs h=>some (.agg xs,h):=(by simp only[fO];cases qI h cs<;>rfl)
@[simp] def aCt {h:am}{x:D}:fO h (.d x)=jT h (.d x):=(rfl)
@[simp] def azR {h:am}  : fO h (.nl)=jT h (.nl):=(rfl)
@[simp] def azu {h:am}{p:Bool}{m:Nat}{xs:E_}:fO h (.own p m xs)=jT h (.own p m xs):=(rfl)
@[simp] def aAJ {h:am}{a b c:Nat}:fO h (.sl a b c)=jT h (.sl a b c):=(rfl)
@[simp] def aAK {h:am}:qH h []=some ([],h):=(rfl)
@[simp] def aAE {h:am}{v:AV}{r:D_}:qH h (v::r)=bP (fO h v) λx h=>bP (qH h r) λxs h=>some (x::xs,h):=(by simp only[qH];cases fO h v with
 |none=>rfl
 |some q=>simp only[bP];cases qH q.2 r<;>rfl)
@[simp] def W8 {h:am}{cs:D_}:gy h (.tup cs)=bP (qH h cs) λxs _=>some (il (.tup xs)):=(by simp only[gy];cases qH h cs<;>rfl)
@[simp] def aB5 {h:am}{x:D}:gy h (.d x)=bP (fO h (.d x)) λx _=>some (il x):=(by simp only[gy];cases fO h (.d x)<;>rfl)
@[simp] def aAB {h:am}  : gy h (.nl)=bP (fO h (.nl)) λx _=>some (il x):=(by simp only[gy];cases fO h (.nl)<;>rfl)
@[simp] def azA {h:am}{p:Bool}{m:Nat}{xs:E_}:gy h (.own p m xs)=bP (fO h (.own p m xs)) λx _=>some (il x):=(by simp only[gy];cases fO h (.own p m xs)<;>rfl)
@[simp] def ayN {h:am}{cs:D_}:gy h (.agg cs)=bP (fO h (.agg cs)) λx _=>some (il x):=(by simp only[gy];cases fO h (.agg cs)<;>rfl)
@[simp] def aAF {h:am}{a b c:Nat}:gy h (.sl a b c)=bP (fO h (.sl a b c)) λx _=>some (il x):=(by simp only[gy];cases fO h (.sl a b c)<;>rfl)
@[simp] def aAo {v:AV}:il v=if jo v=true then oV v else v:=(by simp only[il];cases jo v<;>rfl)
@[simp] def aCp {x:D}:iW (.d x)=kZ x:=(rfl)
@[simp] def azf {p:Bool}{m:Nat}{xs:E_}:iW (.own p m xs)=xs.all λe=>e.all kZ:=(rfl)
@[simp] def az1 {k:IntKind}{n:Int}:kZ (.int k n)=true:=(rfl)
@[simp] def ayK {b:Bool}:kZ (.bool b)=true:=(rfl)
@[simp] def azJ {xs:E_}:kZ (.lst xs)=false:=(rfl)
@[simp] def azC {cs:D_}:kB (.agg cs)=cs.all iW:=(rfl)
@[simp] def aBs {x:D}:kB (.d x)=kZ x:=(rfl)
@[simp] def azx {p:Bool}{m:Nat}{xs:E_}:kB (.own p m xs)=xs.all λe=>e.all kZ:=(rfl)
@[simp] def axY {cs:D_}:jo (.agg cs)=cs.all iW:=(rfl)
@[simp] def aCi {x:D}:jo (.d x)=kZ x:=(rfl)
@[simp] def ayY {p:Bool}{m:Nat}{xs:E_}:jo (.own p m xs)=xs.all λe=>e.all kZ:=(rfl)
@[simp] def axZ {cs:D_}:jo (.tup cs)=cs.all kB:=(rfl)
@[simp] def ayV {p:Bool}{m:Nat}{xs:E_}:nB (.own p m xs)=.own true m xs:=(rfl)
@[simp] def ayg {p:Bool}{m:Nat}{xs:E_}:ph (.own p m xs)=.own true m xs:=(rfl)
@[simp] def ax6 {p:Bool}{m:Nat}{xs:E_}:oV (.own p m xs)=.own true m xs:=(rfl)
@[simp] def ay3 {cs:D_}:ph (.agg cs)=.agg (cs.map nB):=(rfl)
@[simp] def ay0 {cs:D_}:oV (.agg cs)=.agg (cs.map nB):=(rfl)
@[simp] def ayx {cs:D_}:oV (.tup cs)=.tup (cs.map ph):=(rfl)
@[simp] def aCY {i:Nat}:jU i []=[]:=(rfl)
@[simp] def aC3 {i:Nat}{v:AV}{r:D_}:jU i (v::r)=(i,v)::jU (i+1) r:=by
 have h:∀(i:Nat) (r:D_),put (jU (i+1) r) i v=(i,v)::jU (i+1) r:=λi r=>by
  have:∃q,jU (i+1) r=q∧∀p∈q,Nat.blt i p.1=true:=⟨_,rfl,by
   have aux:∀(r:D_) (j:Nat),i<j->∀p∈jU j r,Nat.blt i p.1=true:=by
    intro r
    induction r with
    |nil=>intro j hj p hp;simp[jU]at hp
    |cons w r ih =>
     intro j hj p hp;simp only[jU]at hp;rcases aan hp with rfl|hp
     .rw[Nat.blt,bg];exact hj
     .exact ih (j+1) o_ p hp
   exact aux r (i+1) o_⟩
  obtain⟨q,hq,hp⟩:=this;rw[hq]
  cases q with
  |nil=>rfl
  |cons p q =>
   obtain⟨k,u⟩:=p;have hk:i<k:=by have:=hp _ (.head _);rw[Nat.blt,bg]at this;exact this
   rw[u9,aa o_,ac o_]
 exact h i r
@[simp] def az0 {st:St}:fw st []=some ([],st):=(rfl)
def aqN (x:M_)(t:Nat)(st:St)(r:AH_):Option (D_×St) :=
 match x with
 |some v=>bP (fw ⟨del st.env t,st.hs⟩ r) λvs st=>some (v::vs,st)
 |none=>none
@[simp] def azY {t:Nat}{st:St}{r:AH_}:fw st (.tmp t::r)=aqN (get st.env t) t st r:=(by
 simp only[fw,aqN]
 cases get st.env t with
 |none=>rfl
 |some v=>simp only;cases fw ⟨del st.env t,st.hs⟩ r<;>rfl)
@[simp] def aEI {v:AV}{t:Nat}{e:aV}{hs:HS}{r:AH_}:aqN (some v) t ⟨e,hs⟩ r=bP (fw ⟨del e t,hs⟩ r) λvs st=>some (v::vs,st):=(rfl)
def apk (x:M_)(t:Nat)(n:I_)(st:St)(r:AH_):Option (D_×St) :=
 match x with
 |some (.ptr id 0)=>bP (loadAt st.hs.heap n 1 (.ptr id 0)) λv h=>bP (fw ⟨del st.env t,⟨del h id,st.hs.next⟩⟩ r) λvs st=>some (v::vs,st)
 |_=>none
@[simp] def aAj {t:Nat}{n:I_}{st:St}{r:AH_}:fw st (.cell t n::r)=apk (get st.env t) t n st r:=(by
 simp only[fw,apk]
 cases get st.env t with
 |none=>rfl
 |some v =>
  cases v<;>try rfl
  rename_i id off
  cases off with
  |succ k=>rfl
  |zero =>
   simp only
   cases loadAt st.hs.heap n 1 (.ptr id 0) with
   |none=>rfl
   |some q=>simp only[bP];cases fw _ r<;>rfl)
@[simp] def aEk {id t:Nat}{n:I_}{e:aV}{hs:HS}{r:AH_}:apk (some (.ptr id 0)) t n ⟨e,hs⟩ r=bP (loadAt hs.heap n 1 (.ptr id 0)) λv h=>bP (fw ⟨del e t,⟨del h id,hs.next⟩⟩ r) λvs st=>some (v::vs,st):=(rfl)
def anq {l:G_}:((aF l).all λe=>e.all kZ)=true:=by simp[aF]
def anr {l:C_}:((ak l).all λe=>e.all kZ)=true:=by simp[ak]
def akb {l:X_}:((Q9 l).all λe=>e.all kZ)=true:=by simp[Q9]
attribute [simp] anq anr akb
attribute [simp] aoa
attribute [simp] aw3 axn axi awn
variable {P:Nat->Y_}{l:S_}{e:aV}{h:am}{m d s:Nat}{op:nD}{hs:HS}{β:Type}{k:AV->aV->HS->Option β}
abbrev V (d:Nat)(op:nD):VI:=⟨some d,none,op,[]⟩
abbrev N (op:nD):VI:=⟨none,none,op,[]⟩
abbrev W (s d:Nat)(op:nD):VI:=⟨some d,some (s,true),op,[]⟩
abbrev U (s d:Nat)(op:nD):VI:=⟨some d,some (s,false),op,[]⟩
def au6 {e e2:aV}{hs hs2:HS}(h:e=e2)(h2:hs=hs2):oA P l e hs=oA P l e2 hs2:=by rw[h,h2]
attribute [congr] au6
@[simp ↓ low] def aAq {i:VI}:(Dn P).code (.reg false (i::l)) ⟨e,hs⟩=fc (oA P (i::l) e hs):=D9 rfl
@[simp ↓ low] def azS {i:VI}:(Dn P).code (.reg true (i::l)) ⟨e,hs⟩=fc (oA P (i::l) e hs):=D9 rfl
@[simp] def aEo:oA P [] e hs=some ⟨e,hs⟩:=(rfl)
@[simp] def aEr:oA P (⟨some d,none,op,[]⟩::l) e hs=bR P op e hs λv e hs=>oA P l (put e d (firm v)) hs:=(rfl)
@[simp] def aEy:oA P (⟨none,none,op,[]⟩::l) e hs=bR P op e hs λ_ e hs=>oA P l e hs:=(rfl)
@[simp] def aEF {t:Nat×Nat}{th:R_}:oA P (⟨some d,none,op,t::th⟩::l) e hs=bR P op e hs λv e hs=>lP (dK (t::th) v hs) λv hs=>oA P l (put e d (firm v)) hs:=(rfl)
def wK {β:Type}(a b:Bool)(x y z:Option β):Option β :=
 match a with
 |true=>x
 |false=>match b with
  |true=>y
  |false=>z
@[simp ↓] def aFG {b:Bool}{x y z:Option β}:wK true b x y z=x:=(rfl)
@[simp ↓] def aFw {x y z:Option β}:wK false true x y z=y:=(rfl)
def ax1 {a a2 b b2:Bool}{x y z:Option β}(h:a=a2)(h2:b=b2):wK a b x y z=wK a2 b2 x y z:=by rw[h,h2]
attribute [congr] ax1
@[simp] def aEn {w:Bool}:oA P (⟨some d,some (s,w),op,[]⟩::l) e hs=wK (dD op) (DV op)
  (bA (get e s) λg=>bA (gV g w (bR P op e hs λv _ _=>some v)) λv=>oA P l (put e d (firm v)) hs)
  (bA (get e s) λg=>bP (gH g w hs (bR P op e hs λv _ hs=>some (v,hs))) λv hs=>oA P l (put e d (firm v)) hs)
  (bA (cQ (Dn P) ⟨some d,some (s,w),op,[]⟩ ⟨e,hs⟩) λst=>oA P l st.env st.hs):=by
 simp only[oA,cvi,wK]
 cases dD op<;>cases DV op<;>(try rfl)<;>(cases get e s<;>rfl)
@[simp] def aEP {i:Nat}:bJ (.s i)=true:=(rfl)
@[simp] def aES {a:AV}:bJ (.c a)=true:=(rfl)
@[simp] def aEg:ij []=true:=(rfl)
@[simp] def aD7 {x:Rd}{r:U_}:ij (x::r)=(bJ x && ij r):=(rfl)
@[simp] def aE4:Bm none=true:=(rfl)
@[simp] def aEQ {x:Rd}:Bm (some x)=bJ x:=(rfl)
@[simp] def aDH {x:Rd}:dD (.mov x)=bJ x:=(rfl)
@[simp] def aE6 {x:Rd}{n:I_}:dD (.ld n 0 x)=bJ x:=(rfl)
@[simp] def aEA {x:Rd}:dD (.nilck x)=bJ x:=(rfl)
@[simp] def aDS {x y:Rd}{o:BinOp}:dD (.bin o x y)=(bJ x && bJ y):=(rfl)
@[simp] def aDE {x y:Rd}{o:Bool}:dD (.binb o x y)=(bJ x && bJ y):=(rfl)
@[simp] def aFi {x:Rd}{o:UnOp}:dD (.un o x)=bJ x:=(rfl)
@[simp] def aFk {x:Rd}{o:Nat}:dD (.fa o x)=bJ x:=(rfl)
@[simp] def aE1 {x y:Rd}{o:Nat}:dD (.ia o x y)=(bJ x && bJ y):=(rfl)
@[simp] def aDg {x y:Rd}{o n:Nat}:dD (.iarr o n x y)=(bJ x && bJ y):=(rfl)
@[simp] def aDP {x:Rd}:dD (.len x)=bJ x:=(rfl)
@[simp] def aDh {f:FuncId}{xs:U_}:dD (.call f xs)=ij xs:=(rfl)
@[simp] def aDe {c x y:Rd}:dD (.pick c x y)=(bJ c && bJ x && bJ y):=(rfl)
@[simp] def aEe {x:Rd}:dD (.toStr x)=bJ x:=(rfl)
@[simp] def aC4 {f:FuncId}{xs ys:U_}:dD (.mkfn f xs ys)=(ij xs && ij ys):=(rfl)
@[simp] def aEu {m:Nat}{x:Rd}{a b c:AB_}:dD (.slice m x a b c)=(bJ x && (Bm a && (Bm b && Bm c))):=(rfl)
@[simp] def aBt {f:FuncId}{xs:U_}:dD (.calli f xs)=false:=(rfl)
@[simp] def aCI {x:Rd}{xs:U_}:dD (.callv x xs)=false:=(rfl)
@[simp] def aBl {f:FuncId}{xs:U_}:DV (.calli f xs)=ij xs:=(rfl)
@[simp] def aCm {x:Rd}{xs:U_}:DV (.callv x xs)=(bJ x && ij xs):=(rfl)
attribute [simp] qP sK
def J6 {γ:Type}(c:Prop)[Decidable c](a b:γ):γ:=if c then a else b
def atW {γ:Type}{c d:Prop}[Decidable c][i:Decidable d]{a b:γ}(h:c=d):J6 c a b=@J6 γ d i a b:=by subst h;congr
attribute [congr] atW
@[simp ↓] def aEb {γ:Type}{i:Decidable True}{a b:γ}:@J6 γ True i a b=a:=by simp only[J6,bc]
@[simp ↓] def aEc {γ:Type}{i:Decidable False}{a b:γ}:@J6 γ False i a b=b:=by simp only[J6,bf]
@[simp high] def aFF {k i:Nat}{v:AV}{r:aV}:get ((k,v)::r) i=J6 (k=i) (some v) (get r i):=axp
@[simp high] def aFy {k i:Nat}{v x:AV}{r:aV}:put ((k,v)::r) i x=J6 (k=i) ((i,x)::r) (J6 (i<=k) ((i,x)::(k,v)::r) ((k,v)::put r i x)):=put1
@[simp high] def aFu {k i:Nat}{v:AV}{r:aV}:del ((k,v)::r) i=J6 (k=i) (del r i) ((k,v)::del r i):=avO
variable {f:AV->aV->Option β}{x:Rd}
@[simp ↓] def aE3 {i:Nat}:cw e (.s i) f=bA (get e i) λv=>f (share v) e:=by
 simp only[cw,rd,bA];cases get e i<;>rfl
@[simp ↓] def aFq {i:Nat}:cw e (.m i) f=bA (get e i) λv=>f v (del e i):=by
 simp only[cw,rd,bA];cases get e i<;>rfl
@[simp ↓] def aFd {a:AV}:cw e (.c a) f=f a e:=(rfl)
@[simp ↓] def aEO {f:D_->aV->Option β}:ki e [] f=f [] e:=(rfl)
@[simp ↓] def aEp {r:U_}{f:D_->aV->Option β}:ki e (x::r) f=cw e x λv e=>ki e r λvs e=>f (v::vs) e:=(rfl)
@[simp ↓] def aDT {f:M_->aV->Option β}:ml e none f=f none e:=(rfl)
@[simp ↓] def aEf {f:M_->aV->Option β}:ml e (some x) f=cw e x λv e=>f (some v) e:=(rfl)
@[simp ↓] def aDj:bR P (.mov x) e hs k=cw e x λv e=>k v e hs:=(rfl)
def KE (e:aV):Rd->M_
 |.c v=>some v
 |.m i=>get e i
 |.s i=>match get e i with
  |some v=>some (share v)
  |none=>none
def pkV {β:Type}(c:AV)(a b:Rd)(x y:M_)(e:aV)(hs:HS)(k:AV->aV->HS->Option β):Option β :=
 match x,y with
 |some a,some b=>bA (Rq c a b) λv=>k v e hs
 |_,_=>bP (kw (.c c) a b ⟨e,hs⟩) λv st=>k v st.env st.hs
@[simp ↓] def aE7 {c v w:AV}{a b:Rd}:pkV c a b (some v) (some w) e hs k=bA (Rq c v w) λv=>k v e hs:=(rfl)
def awF {c:AV}{a b:Rd}{x x2 y y2:M_}(h:x=x2)(h2:y=y2):pkV c a b x y e hs k=pkV c a b x2 y2 e hs k:=by rw[h,h2]
attribute [congr] awF
@[simp] def aEZ {v:AV}:KE e (.c v)=some v:=(rfl)
@[simp] def aFc {i:Nat}:KE e (.s i)=bA (get e i) λv=>some (share v):=by
 simp only[KE,bA];cases get e i<;>rfl
def afD {c a b:Rd}(ha:bJ a=true)(hb:bJ b=true):bR P (.pick c a b) e hs k=cw e c λc e=>pkV c a b (KE e a) (KE e b) e hs k:=by
 simp only[bR,ha,hb,Bool.and_self]
 congr 1
 funext c e;have h1:∀x,bJ x=true->rd e x=(KE e x).map λv=>(v,e):=by
  intro x hx
  cases x with
  |c=>rfl
  |m=>cases hx
  |s i=>simp only[rd,KE];cases get e i<;>rfl
 rw[h1 a ha,h1 b hb]
 cases KE e a<;>cases KE e b<;>rfl
@[simp ↓] def aDz {c:Rd}{i:Nat}{y:AV}:bR P (.pick c (.s i) (.c y)) e hs k=cw e c λc e=>pkV c (.s i) (.c y) (KE e (.s i)) (KE e (.c y)) e hs k:=afD rfl rfl
@[simp ↓] def aCN {c:Rd}{i:Nat}{y:AV}:bR P (.pick c (.c y) (.s i)) e hs k=cw e c λc e=>pkV c (.c y) (.s i) (KE e (.c y)) (KE e (.s i)) e hs k:=afD rfl rfl
@[simp ↓] def azM {zs:D_}:bR P (.alloc zs) e ⟨h,m⟩ k=lA (put h m (.cells zs)) λh=>k (.ptr m 0) e ⟨h,m+1⟩:=(rfl)
@[simp ↓] def aC1:bR P (.box x) e ⟨h,m⟩ k=cw e x λv e=>dB ((AV.cells v).all bu) (lA (put h m (.cells (AV.cells v))) λh=>k (.ptr m 0) e ⟨h,m+1⟩):=(rfl)
@[simp ↓] def azP {zs:D_}{ps:AC_}:bR P (.build zs ps) e hs k=ki e (qP ps) λvs e=>bA (dS zs (sK ps vs)) λcs=>k (.agg cs) e hs:=(rfl)
@[simp ↓] def aDx {j:Nat}{ps:U_}:bR P (.mks j ps) e hs k=ki e ps λvs e=>bA (jl j vs) λxs=>k (.own true j xs) e hs:=(rfl)
@[simp ↓] def aCu {j:Nat}{ps:U_}:bR P (.mksv j ps) e ⟨h,m⟩ k=ki e ps λvs e=>dB (IY j vs) (lA (put h m (.cells (vs.flatMap AV.cells))) λh=>k (.sl m 0 vs.length) e ⟨h,m+1⟩):=(rfl)
@[simp ↓] def aEB {n:I_}:bR P (.ld n 0 x) e ⟨h,m⟩ k=cw e x λp e=>bA (eM h n p) λv=>k v e ⟨h,m⟩:=(rfl)
@[simp ↓] def aDd {n:I_}:bR P (.ld n 1 x) e ⟨h,m⟩ k=cw e x λp e=>bP (loadAt h n 1 p) λv h=>k v e ⟨h,m⟩:=(rfl)
@[simp ↓] def aCW {n:I_}:bR P (.ld n 2 x) e ⟨h,m⟩ k=cw e x λp e=>bP (loadAt h n 2 p) λv h=>k v e ⟨h,m⟩:=(rfl)
@[simp ↓] def aDU {n:Nat}{y:Rd}:bR P (.st n x y) e ⟨h,m⟩ k=cw e x λp e=>cw e y λv e=>bA (storeAt h n p v) λh=>k .junk e ⟨h,m⟩:=(rfl)
@[simp ↓] def aAn:bR P (.nilck x) e hs k=cw e x λv e=>bA (DQ v) λv=>k v e hs:=(rfl)
@[simp ↓] def aC8 {o:BinOp}{y:Rd}:bR P (.bin o x y) e hs k=cw e x λa e=>cw e y λb e=>bA (fg o a b) λv=>k (.d v) e hs:=(rfl)
@[simp ↓] def aA9 {o:Bool}{y:Rd}:bR P (.binb o x y) e hs k=cw e x λa e=>cw e y λb e=>bA (adi o a b) λv=>k (.d v) e hs:=(rfl)
@[simp ↓] def aEh {o:UnOp}:bR P (.un o x) e hs k=cw e x λa e=>bA (unD o a) λv=>k (.d v) e hs:=(rfl)
@[simp ↓] def aB7 {j:IntKind}:bR P (.conv j x) e hs k=cw e x λa e=>bA (WV j a) λv=>k (.d v) e hs:=(rfl)
@[simp ↓] def aAb:bR P (.toStr x) e ⟨h,m⟩ k=cw e x λa e=>bA (PO h a) λv=>k (.d v) e ⟨h,m⟩:=(rfl)
@[simp ↓] def aCv {f:FuncId}{a c:U_}:bR P (.mkfn f a c) e hs k=ki e a λa e=>ki e c λc e=>k (.fn f (shareAll a) (shareAll c)) e hs:=(rfl)
@[simp ↓] def axI {z:W_}{y:Rd}:bR P (.mkslice z x y) e hs k=cw e x λa e=>cw e y λc e=>bA (Eh z a c) λv=>k v e hs:=(rfl)
@[simp ↓] def aAs {j:Nat}{lo hi mx:AB_}:bR P (.slice j x lo hi mx) e ⟨h,m⟩ k=cw e x λx e=>ml e lo λlo e=>ml e hi λhi e=>ml e mx λmx e=>bA (pU h j x lo hi mx) λv=>k v e ⟨h,m⟩:=(rfl)
@[simp ↓] def aAe {j:Nat}{lo hi mx:AB_}:bR P (.slarr j x lo hi mx) e ⟨h,m⟩ k=cw e x λx e=>ml e lo λlo e=>ml e hi λhi e=>ml e mx λmx e=>bA (Pu h j x lo hi mx) λv=>k v e ⟨h,m⟩:=(rfl)
@[simp ↓] def aEz {o:Nat}:bR P (.fa o x) e hs k=cw e x λp e=>bA (gP o p) λv=>k v e hs:=(rfl)
@[simp ↓] def aDG {n:Nat}{y:Rd}:bR P (.ia n x y) e ⟨h,m⟩ k=cw e x λx e=>cw e y λi e=>bA (Vt h n x i) λv=>k v e ⟨h,m⟩:=(rfl)
@[simp ↓] def aBO {a n:Nat}{y:Rd}:bR P (.iarr a n x y) e hs k=cw e x λp e=>cw e y λi e=>bA (IU a n p i) λv=>k v e hs:=(rfl)
@[simp ↓] def aD2 {a n:Nat}{b:Bool}{y:Rd}:bR P (.ix a n b x y) e hs k=cw e x λx e=>cw e y λi e=>bA (ixV a n b x i) λv=>k v e hs:=(rfl)
@[simp ↓] def aDs {y:Rd}:bR P (.ixs x y) e hs k=cw e x λx e=>cw e y λi e=>bA (alA x i) λv=>k (.d v) e hs:=(rfl)
@[simp ↓] def aBy {j i:Nat}:bR P (.ext j true i) e hs k=bA (get e j) λt=>bA (yz true t i) λv=>k v (put e j (LW t i)) hs:=by
 simp only[bR,bA];cases get e j<;>(try rfl)
@[simp ↓] def aBi {j i:Nat}:bR P (.ext j false i) e hs k=bA (get e j) λt=>bA (yz false t i) λv=>k v e hs:=by
 simp only[bR,bA];cases get e j<;>(try rfl)
@[simp ↓] def aCP:bR P (.len x) e hs k=cw e x λx e=>bA (lenOf x) λn=>k (.int .i64 (.ofNat n)) e hs:=(rfl)
@[simp ↓] def aDo:bR P (.cap x) e hs k=cw e x λx e=>dB (YT x) (k (.int .i64 (.ofNat 0)) e hs):=(rfl)
@[simp ↓] def aDc {j:Nat}{y:Rd}:bR P (.app j x y) e ⟨h,m⟩ k=cw e x λa e=>cw e y λb e=>bP (Yw j h a b) λv h=>k v e ⟨h,m⟩:=(rfl)
@[simp ↓] def aCn {z:W_}{y:Rd}:bR P (.appz z x y) e ⟨h,m⟩ k=cw e x λa e=>cw e y λn e=>bP (FN z h a n) λv h=>k v e ⟨h,m⟩:=(rfl)
@[simp ↓] def aDD {j:Nat}{y:Rd}:bR P (.cpy j x y) e ⟨h,m⟩ k=cw e x λa e=>cw e y λb e=>bP (agt j h a b) λv h=>k (.d v) e ⟨h,m⟩:=(rfl)
@[simp ↓] def ayI {b:Bool}{xs:U_}:bR P (.minmax b xs) e hs k=ki e xs λvs e=>bA (Cp b vs) λv=>k v e hs:=(rfl)
@[simp ↓] def aB3 {f:FuncId}{as:U_}:bR P (.call f as) e ⟨h,m⟩ k=ki e as λvs e=>bA (ep (Dn P) f vs h) λv=>k v e ⟨h,m⟩:=(rfl)
@[simp ↓] def az6 {f:FuncId}{as:U_}:bR P (.calli f as) e hs k=ki e as λvs e=>bP ((Dn P).call f vs hs) λv hs=>k v e hs:=(rfl)
@[simp ↓] def azW {as:U_}:bR P (.callv x as) e hs k=cw e x λf e=>ki e as λvs e=>bP (b7 (Dn P) f vs hs) λv hs=>k v e hs:=(rfl)
@[simp ↓] def aBj {is:C_}:bR P (.kill is) e hs k=k (.tup []) (is.foldl del e) hs:=(rfl)
end Go.Vm
end
