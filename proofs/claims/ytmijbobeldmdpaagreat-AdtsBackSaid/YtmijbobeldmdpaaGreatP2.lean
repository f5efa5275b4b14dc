import Derived.Test.YtmijbobeldmdpaaGreatP1
set_option linter.unusedVariables false
set_option linter.unusedSimpArgs false
set_option linter.defProp false
set_option linter.unusedSectionVars false
noncomputable section
namespace Go.Vm
set_option maxHeartbeats 4000000
set_option maxRecDepth 100000
structure xA (r q:dJ):Prop where
 code:∀c st x,r.code c st=some x->q.code c st=some x
 call:∀f a h x,r.call f a h=some x->q.call f a h=some x
section
variable {r q:dJ}
def aeY (le:xA r q){f:FuncId}{vs:D_}{h:am}{x:AV}(e:fc r f vs h=some x):fc q f vs h=some x:=by
 unfold fc at e⊢
 cases hd:viewArgs h vs with
 |none=>rw[hd]at e;simp at e
 |some ds =>
  rw[hd]at e;simp only at e⊢
  cases hc:r.call f ds ⟨[],0⟩ with
  |none=>rw[hc]at e;simp at e
  |some p =>
   obtain⟨v,hs⟩:=p;rw[hc]at e;rw[le.call _ _ _ _ hc];exact e
def agM (le:xA r q){l:Nat}{vs:D_}{hs:HS}{x:AV×HS}(e:vL r l vs hs=some x):vL q l vs hs=some x:=by
 unfold vL at e⊢;split at e
 .rename_i snap params assign body hg;split at e
  .simp at e
  .rename_i e1 he1
   try simp only[he1]
   split at e
   .rename_i st1 hc;simp only[le.code _ _ _ hc];split at e
    .rename_i snap2 params2 assign2 body2 hg2;split at e
     .simp at e
     .rename_i o st2 hc2;simp only[le.code _ _ _ hc2];exact e
    .simp at e
   .simp at e
 .simp at e
def ahL (le:xA r q){f:AV}{vs:D_}{hs:HS}{x:AV×HS}(e:cy r f vs hs=some x):cy q f vs hs=some x:=by
 cases f<;>simp only[cy,reduceCtorEq]at e⊢
 .exact le.call _ _ _ _ e
 .exact agM le e
def as6 (le:xA r q){o:oP}{st:St}{x:AV×St}(e:dp o r st=some x):dp o q st=some x:=by
 cases o<;>try exact e
 .rename_i f args;simp only[dp,Gv]at e⊢
  cases hr:rdAll st.env args with
  |none=>rw[hr]at e;simp at e
  |some p =>
   obtain⟨vs,e1⟩:=p;rw[hr]at e;simp only at e⊢
   cases hc:fc r f vs st.hs.heap with
   |none=>rw[hc]at e;simp at e
   |some v=>rw[hc]at e;rw[aeY le hc];exact e
 .rename_i f args;simp only[dp,EV]at e⊢
  cases hr:rdAll st.env args with
  |none=>rw[hr]at e;simp at e
  |some p =>
   obtain⟨vs,e1⟩:=p;rw[hr]at e;simp only at e⊢
   cases hc:r.call f vs st.hs with
   |none=>rw[hc]at e;simp at e
   |some v=>rw[hc]at e;rw[le.call _ _ _ _ hc];exact e
 .rename_i f args;simp only[dp,Fq]at e⊢
  cases hf:rd st.env f with
  |none=>rw[hf]at e;simp at e
  |some p =>
   obtain⟨fv,e0⟩:=p;rw[hf]at e;simp only at e⊢
   cases hr:rdAll e0 args with
   |none=>rw[hr]at e;simp at e
   |some p =>
    obtain⟨vs,e1⟩:=p;rw[hr]at e;simp only at e⊢
    cases hc:cy r fv vs st.hs with
    |none=>rw[hc]at e;simp at e
    |some v=>rw[hc]at e;rw[ahL le hc];exact e
def Fp (le:xA r q){i:VI}{st x:St}(e:cY r i st=some x):cY q i st=some x:=by
 have go:∀x,gC r i st=some x->gC q i st=some x:=λx e=>by
  unfold gC at e⊢
  cases ho:dp i.op r st with
  |none=>rw[ho]at e;simp at e
  |some p=>rw[ho]at e;rw[as6 le ho];exact e
 unfold cY at e⊢;split at e
 .exact go _ e
 .split at e
  .split at e
   .simp_all
   .simp_all
  .exact e
  .simp at e
def So (le:xA r q):∀{l:T_}{st x:St},lg r l st=some x->lg q l st=some x
 |[],_,_,e=>e
 |i::l,st,x,e=>by
  simp only[lg]at e⊢
  cases hv:cY r i st with
  |none=>rw[hv]at e;simp at e
  |some st1=>rw[hv]at e;rw[Fp le hv];exact So le e
def auy (le:xA r q){F:C_}{i:VI}{st x:St}(e:xg r F i st=some x):xg q F i st=some x:=by
 unfold xg at e⊢;split at e
 .cases hv:cY r i st with
  |none=>rw[hv]at e;simp at e
  |some st1=>rw[hv]at e;rw[Fp le hv];exact e
 .cases hv:cY r i st with
  |none=>rw[hv]at e;simp at e
  |some st1=>rw[hv]at e;rw[Fp le hv];exact e
 .cases hv:cY r i ⟨st.env,⟨dT (oM i st.env) st.hs.heap,st.hs.next⟩⟩ with
  |none=>rw[hv]at e;simp at e
  |some st1=>rw[hv]at e;rw[Fp le hv];exact e
def YD (le:xA r q){a:Bool}{F:C_}{i:VI}{st x:St}(e:co r a F i st=some x):co q a F i st=some x:=by
 cases a
 .exact Fp le e
 .exact auy le e
def SN (le:xA r q){nr:C_}{vs:T_}:∀{l F:C_}{st x:St},fS r nr vs l F st=some x->fS q nr vs l F st=some x
 |[],_,_,_,e=>e
 |i::l,F,st,x,e=>by
  simp only[fS]at e⊢
  cases hi:vs[i]? with
  |none=>rw[hi]at e;simp at e
  |some v =>
   rw[hi]at e;simp only at e⊢
   cases hv:co r (eQ i nr) F v st with
   |none=>rw[hv]at e;simp at e
   |some st1=>rw[hv]at e;rw[YD le hv];exact SN le e
theorem Pe (le:xA r q){c:VC}{st:St}{x:cH×St}(e:db c r st=some x):db c q st=some x:=by
 cases c<;>try exact e
 .rename_i d ops;simp only[db,UK]at e⊢
  cases hv:lg r ops st with
  |none=>rw[hv]at e;simp at e
  |some st1=>rw[hv]at e;rw[So le hv];exact e
 .rename_i perm gco nr ops;simp only[db,NZ,Nb]at e⊢
  cases ha:tK st.env ops with
  |false=>rw[ha]at e;simp at e
  |true =>
  rw[ha]at e;simp only at e⊢
  cases hv:fS r nr ops perm [] st with
  |none=>rw[hv]at e;simp at e
  |some st1=>rw[hv]at e;rw[SN le hv];exact e
 .rename_i a b;simp only[db,OP]at e⊢
  cases hv:r.code a st with
  |none=>rw[hv]at e;simp at e
  |some p =>
   obtain⟨o,st1⟩:=p;rw[hv]at e;rw[le.code _ _ _ hv]
   cases o<;>simp only at e⊢
   .exact le.code _ _ _ e
   all_goals exact e
 .rename_i cr a b;simp only[db,MQ]at e⊢;split at e
  .exact le.code _ _ _ e
  .exact le.code _ _ _ e
  .simp at e
 .rename_i id a;simp only[db,Nm]at e⊢
  cases hv:r.code a st with
  |none=>rw[hv]at e;simp at e
  |some p=>rw[hv]at e;rw[le.code _ _ _ hv];exact e
 .rename_i a;simp only[db,Ti]at e⊢
  cases hv:r.code a st with
  |none=>rw[hv]at e;simp at e
  |some p =>
   obtain⟨o,st1⟩:=p;rw[hv]at e;rw[le.code _ _ _ hv]
   cases o<;>simp only at e⊢
   .exact le.code _ _ _ e
   all_goals exact e
 .rename_i f params assign body;simp only[db,Fb]at e⊢;split at e
  .rename_i g first caps e1 h1
   split at e
   .rename_i v hs hc;rw[le.call _ _ _ _ hc];exact e
   .simp at e
  .simp at e
 .exact le.code _ _ _ e
 .rename_i a cur;simp only[db,LD]at e⊢
  cases hv:r.code cur st with
  |none=>rw[hv]at e;simp at e
  |some p =>
   obtain⟨o,st1⟩:=p;rw[hv]at e;rw[le.code _ _ _ hv]
   cases o<;>simp only at e⊢
   .exact e
   .exact e
   .split at e
    .exact le.code _ _ _ e
    .exact e
   .exact e
 .rename_i i d f a;simp only[db,TN]at e⊢
  cases hg:get st.env i with
  |none=>rw[hg]at e;simp at e
  |some p =>
   rw[hg]at e
   cases p<;>simp only at e⊢<;>try exact absurd e (by simp)
   rename_i id off
   cases hv:r.code a ⟨put st.env d (.ptr id off),st.hs⟩ with
   |none=>rw[hv]at e;simp at e
   |some p =>
    obtain⟨o,st1⟩:=p;rw[hv]at e;rw[le.code _ _ _ hv]
    cases o<;>simp only at e⊢<;>try exact absurd e (by simp)
    all_goals
     cases hc:r.call f [.ptr id off] st1.hs with
     |none=>rw[hc]at e;simp at e
     |some q=>rw[hc]at e;rw[le.call _ _ _ _ hc];exact e
theorem aal (le:xA r q){P:Nat->Z_}{f:FuncId}{a:D_}{h:HS}{x:AV×HS}(e:wS P r f a h=some x):wS P q f a h=some x:=by
 unfold wS at e⊢;split at e
 .simp at e
 .rename_i fn hf;split at e
  .simp at e
  .rename_i hn
   cases hv:db fn.body r ⟨kp 0 a,h⟩ with
   |none=>rw[hv]at e;simp at e
   |some p=>rw[hv]at e;simp only[hn,Pe le hv];exact e
end
variable {P:Nat->Z_}
abbrev uc:=@Nat.le_add_right
def lim {α:Type}(f:Nat->Option α):Option α :=
 open Classical in if h:∃x,∃n,f n=some x then some (Classical.choose h) else none
def aij {α:Type}{f:Nat->Option α}(mono:∀n m x,f n=some x->f (n+m)=some x){n:Nat}{x:α}(h:f n=some x):lim f=some x:=by
 have he:∃x,∃n,f n=some x:=⟨x,n,h⟩
 unfold lim;obtain⟨m,hm⟩:=Classical.choose_spec he;have h2:=mono m n _ hm
 grind
def aiL {α:Type}{f:Nat->Option α}{x:α}(h:lim f=some x):∃n,f n=some x:=by
 unfold lim at h;split at h<;>grind
variable {P:Nat->Z_}
def xA.rfl' {r:dJ}:xA r r:=⟨λ_ _ _ h=>h,λ_ _ _ _ h=>h⟩
def xA.trans' {r q s:dJ}(h:xA r q)(k:xA q s):xA r s:=⟨λc st x e=>k.code c st x (h.code c st x e),λf a hs x e=>k.call f a hs x (h.call f a hs x e)⟩
def adv:∀n:Nat,xA (run P n) (run P (n+1))
 |0=>⟨λ_ _ _ h=>by simp[run]at h,λ_ _ _ _ h=>by simp[run]at h⟩
 |n+1=>⟨λc st x h=>Pe (adv n) h,λf a hs x h=>aal (adv n) h⟩
theorem R6 (n:Nat):∀m:Nat,xA (run P n) (run P (n+m))
 |0=>xA.rfl'
 |m+1=>(R6 n m).trans' (adv (n+m))
def Dn (P:Nat->Z_):dJ:=⟨λc st=>lim λn=>(run P n).code c st,λf a h=>lim λn=>(run P n).call f a h⟩
def agO {c:VC}{st:St}{x:cH×St}{n:Nat}(h:(run P n).code c st=some x):(Dn P).code c st=some x :=
 aij (λn m x h=>(R6 n m).code _ _ _ h) h
def Xn {f:FuncId}{a:D_}{hs:HS}{x:AV×HS}{n:Nat}(h:(run P n).call f a hs=some x):(Dn P).call f a hs=some x :=
 aij (λn m x h=>(R6 n m).call _ _ _ _ h) h
theorem am2 (n:Nat):xA (run P n) (Dn P):=⟨λ_ _ _ h=>agO h,λ_ _ _ _ h=>Xn h⟩
theorem Ne {n m:Nat}{c:VC}{st:St}{x:cH×St}(h:(run P n).code c st=some x)(le:n<=m):(run P m).code c st=some x:=by
 grind [xA.code,R6,Nat.add_sub_cancel']
def up {n m:Nat}(le:n<=m):xA (run P n) (run P m):=by
 grind [R6,Nat.add_sub_cancel']
theorem yi {c:VC}{st:St}{x:cH×St}(h:(Dn P).code c st=some x):∃n,(run P n).code c st=some x:=aiL h
theorem Em {f:FuncId}{a:D_}{hs:HS}{x:AV×HS}(h:(Dn P).call f a hs=some x):∃n,(run P n).call f a hs=some x:=aiL h
theorem akM {f:FuncId}{vs:D_}{h:am}{x:AV}(e:fc (Dn P) f vs h=some x):∃n,fc (run P n) f vs h=some x:=by
 grind [fc,Em]
theorem apl {l:Nat}{vs:D_}{hs:HS}{x:AV×HS}(e:vL (Dn P) l vs hs=some x):∃n,vL (run P n) l vs hs=some x:=by
 unfold vL at e⊢;split at e
 .split at e
  .simp at e
  .split at e<;>grind [yi,Ne]
 simp_all
theorem apU {f:AV}{vs:D_}{hs:HS}{x:AV×HS}(e:cy (Dn P) f vs hs=some x):∃n,cy (run P n) f vs hs=some x:=by
 cases f<;>simp only[cy,reduceCtorEq]at e⊢
 all_goals grind [Em,apl]
theorem aBo {o:oP}{st:St}{x:AV×St}(e:dp o (Dn P) st=some x):∃n,dp o (run P n) st=some x:=by
 cases o<;>try exact⟨0,e⟩
 .rename_i f args;simp only[dp,Gv]at e⊢
  cases hr:rdAll st.env args<;>grind [akM]
 .rename_i f args;simp only[dp,EV]at e⊢
  cases hr:rdAll st.env args<;>grind [Em]
 .rename_i f args;simp only[dp,Fq]at e⊢
  cases hf:rd st.env f with
  |none=>simp_all
  |some p =>
   obtain⟨fv,e0⟩:=p;simp only at e⊢
   cases hr:rdAll e0 args<;>grind [apU]
theorem ahY {i:VI}{st x:St}(e:cY (Dn P) i st=some x):∃n,cY (run P n) i st=some x:=by
 have go:∀x,gC (Dn P) i st=some x->∃n,gC (run P n) i st=some x:=λx e=>by
  grind [gC,aBo]
 unfold cY at e⊢;split at e
 .simp_all
 .split at e
  .split at e<;>simp_all
  all_goals simp_all
theorem amw:∀{l:T_}{st x:St},lg (Dn P) l st=some x->∃n,lg (run P n) l st=some x
 |[],_,_,e=>⟨0,e⟩
 |i::l,st,x,e=>by
  simp only[lg]at e⊢
  cases hv:cY (Dn P) i st with
  |none=>simp_all
  |some st1 =>
   rw[hv]at e;obtain⟨n1,h1⟩:=ahY hv;obtain⟨n2,h2⟩:=amw e;refine⟨n1+n2,?_⟩;rw[Fp (up (uc n1 n2)) h1];exact So (up (lK n2 n1)) h2
def aAZ {F:C_}{i:VI}{st x:St}(e:xg (Dn P) F i st=some x):∃n,xg (run P n) F i st=some x:=by
 grind [xg,ahY]
def avk {a:Bool}{F:C_}{i:VI}{st x:St}(e:co (Dn P) a F i st=some x):∃n,co (run P n) a F i st=some x:=by
 cases a
 .exact ahY e
 .exact aAZ e
theorem amf {nr:C_}{vs:T_}:∀{l F:C_}{st x:St},fS (Dn P) nr vs l F st=some x->∃n,fS (run P n) nr vs l F st=some x
 |[],_,_,_,e=>⟨0,e⟩
 |i::l,F,st,x,e=>by
  simp only[fS]at e⊢
  cases hi:vs[i]? with
  |none=>simp_all
  |some v =>
   rw[hi]at e;simp only at e⊢
   cases hv:co (Dn P) (eQ i nr) F v st with
   |none=>simp_all
   |some st1 =>
    rw[hv]at e;obtain⟨n1,h1⟩:=avk hv;obtain⟨n2,h2⟩:=amf e;refine⟨n1+n2,?_⟩;rw[YD (up (uc n1 n2)) h1];exact SN (up (lK n2 n1)) h2
theorem agA {c:VC}{st:St}{x:cH×St}(e:db c (Dn P) st=some x):∃n,db c (run P n) st=some x:=by
 cases c<;>try exact⟨0,e⟩
 .grind [db,UK,amw]
 .rename_i perm gco nr ops;simp only[db,NZ,Nb]at e⊢
  cases ha:tK st.env ops<;>grind [amf]
 .rename_i a b;simp only[db,OP]at e⊢
  grind [yi,Ne]
 .rename_i cr a b;simp only[db,MQ]at e⊢;split at e<;>grind [yi]
 .grind [db,Nm,yi]
 .rename_i a;simp only[db,Ti]at e⊢
  grind [yi,Ne]
 .rename_i f params assign body;simp only[db,Fb]at e⊢;split at e<;>grind [Em]
 .exact yi e
 .rename_i a cur;simp only[db,LD]at e⊢
  grind [yi,Ne]
 .rename_i i d f a;simp only[db,TN]at e⊢
  cases hg:get st.env i with
  |none=>simp_all
  |some p =>
   rw[hg]at e
   cases p<;>simp only at e⊢<;>try exact absurd e (by simp)
   rename_i id off
   cases hv:(Dn P).code a ⟨put st.env d (.ptr id off),st.hs⟩ with
   |none=>simp_all
   |some p =>
    obtain⟨o,st1⟩:=p;obtain⟨n1,h1⟩:=yi hv;rw[hv]at e
    cases o<;>simp only at e⊢<;>try exact absurd e (by simp)
    all_goals
     cases hc:(Dn P).call f [.ptr id off] st1.hs with
     |none=>simp_all
     |some q =>
      obtain⟨n2,h2⟩:=Em hc;rw[hc]at e;refine⟨n1+n2,?_⟩;rw[Ne h1 (uc n1 n2)];simp only[(up (lK n2 n1)).call _ _ _ _ h2];exact e
def auz {f:FuncId}{a:D_}{h:HS}{x:AV×HS}(e:wS P (Dn P) f a h=some x):∃n,wS P (run P n) f a h=some x:=by
 unfold wS at e⊢;split at e
 .simp at e
 .split at e<;>grind [agA]
theorem iW (c:VC)(st:St):(Dn P).code c st=db c (Dn P) st:=by
 cases h:db c (Dn P) st with
 |some x =>
  obtain⟨n,hn⟩:=agA h;exact agO (n:=n+1) hn
 |none =>
  cases k:(Dn P).code c st with
  |none=>rfl
  |some x =>
   obtain⟨n,hn⟩:=yi k
   cases n<;>grind [run,Pe,am2]
theorem axS (f:FuncId)(a:D_)(hs:HS):(Dn P).call f a hs=wS P (Dn P) f a hs:=by
 cases h:wS P (Dn P) f a hs with
 |some x =>
  obtain⟨n,hn⟩:=auz h;exact Xn (n:=n+1) hn
 |none =>
  cases k:(Dn P).call f a hs with
  |none=>rfl
  |some x =>
   obtain⟨n,hn⟩:=Em k
   cases n<;>grind [run,aal,am2]
abbrev aB:=@Int.eq_ofNat_of_zero_le
variable {P:Nat->Z_}
def AY (P:Nat->Z_)(x:K_)(b:VC):K_ :=
 match x with
 |some (.normal,st)=>(Dn P).code b st
 |x=>x
def zD (id:Nat)(x:K_):K_ :=
 match x with
 |some (.exit j,st)=>if j=id then some (.normal,st) else some (.exit j,st)
 |x=>x
def ft (x:Y_):K_ :=
 match x with
 |some st=>some (.normal,st)
 |none=>none
def sf (P:Nat->Z_)(a:VC)(x:K_):K_ :=
 match x with
 |some (.normal,st)=>(Dn P).code (.loop a) st
 |x=>x
def W4 (fn:ak)(x:K_):X_ :=
 match x with
 |some (.normal,st)=>GS fn st
 |some (.ret,st)=>GS fn st
 |_=>none
def uA (x:X_):M_ :=
 match x with
 |some (v,hs)=>ig hs.heap v
 |none=>none
def aAM {st:St}{b:VC}:AY P (some (.normal,st)) b=(Dn P).code b st:=(rfl)
def aAz {st:St}{b:VC}:AY P (some (.ret,st)) b=some (.ret,st):=(rfl)
def aBq {st:St}{b:VC}{j:Nat}:AY P (some (.exit j,st)) b=some (.exit j,st):=(rfl)
def aAU {st:St}{b:VC}{j:Nat}:AY P (some (.goto j,st)) b=some (.goto j,st):=(rfl)
def azv {b:VC}:AY P none b=none:=(rfl)
def az1 {c:Prop}[Decidable c]{x y:K_}{b:VC}:AY P (if c then x else y) b=if c then AY P x b else AY P y b:=d_
def azM {st:St}{i:Nat}:zD i (some (.normal,st))=some (.normal,st):=(rfl)
def aAa {st:St}{i:Nat}:zD i (some (.ret,st))=some (.ret,st):=(rfl)
def aBg {st:St}{i j:Nat}:zD i (some (.exit j,st))=if j=i then some (.normal,st) else some (.exit j,st):=(rfl)
def azT {st:St}{i j:Nat}:zD i (some (.goto j,st))=some (.goto j,st):=(rfl)
def aBB {i:Nat}:zD i none=none:=(rfl)
def aAb {c:Prop}[Decidable c]{x y:K_}{i:Nat}:zD i (if c then x else y)=if c then zD i x else zD i y:=d_
theorem Nx {st:St}{a:VC}:sf P a (some (.normal,st))=(Dn P).code (.loop a) st:=(rfl)
def axJ {st:St}{a:VC}:sf P a (some (.ret,st))=some (.ret,st):=(rfl)
def ax6 {st:St}{a:VC}{j:Nat}:sf P a (some (.exit j,st))=some (.exit j,st):=(rfl)
def axM {st:St}{a:VC}{j:Nat}:sf P a (some (.goto j,st))=some (.goto j,st):=(rfl)
def axq {a:VC}:sf P a none=none:=(rfl)
def ayr {c:Prop}[Decidable c]{x y:K_}{a:VC}:sf P a (if c then x else y)=if c then sf P a x else sf P a y:=d_
def aA8 {st:St}:ft (some st)=some (.normal,st):=(rfl)
def aAY:ft none=none:=(rfl)
def azn {c:Prop}[Decidable c]{x y:Y_}:ft (if c then x else y)=if c then ft x else ft y:=d_
def azy {v:AV}{hs:HS}:uA (some (v,hs))=ig hs.heap v:=(rfl)
def az9:uA none=none:=(rfl)
def aBJ {c:Prop}[Decidable c]{x y:X_}:uA (if c then x else y)=if c then uA x else uA y:=d_
def arf {st:St}:(Dn P).code .skip st=some (.normal,st):=by rw[iW];rfl
def aql {st:St}{i:Nat}:(Dn P).code (.exit i) st=some (.exit i,st):=by rw[iW];rfl
def atD {st:St}:(Dn P).code .ret st=some (.ret,st):=by rw[iW];rfl
def anQ {st:St}{i:Nat}:(Dn P).code (.label i) st=some (.normal,st):=by rw[iW];rfl
def aqu {st:St}{i:Nat}:(Dn P).code (.goto i) st=some (.goto i,st):=by rw[iW];rfl
def as8 {st:St}{a b:VC}:(Dn P).code (.seq a b) st=AY P ((Dn P).code a st) b:=by rw[iW];rfl
def aoo {st:St}{i:Nat}{a:VC}:(Dn P).code (.block i a) st=zD i ((Dn P).code a st):=by
 grind [iW,db,Nm,zD,Nat.eq_of_beq_eq_true,Nat.ne_of_beq_eq_false]
def arG {st:St}{a:VC}:(Dn P).code (.loop a) st=sf P a ((Dn P).code a st):=by rw[iW];rfl
theorem Xj {st:St}{d:Bool}{ops:T_}:(Dn P).code (.reg d ops) st=ft (lg (Dn P) ops st):=by rw[iW];rfl
theorem aqD {st:St}{perm gco:C_}{ops:T_}(ha:tK st.env ops=true):(Dn P).code (.regP perm gco [] ops) st=ft (xr (Dn P) ops perm st):=by
 rw[iW];simp only[db,NZ,Nb,ajO,ha];rfl
def anJ {e:aW}{hs:HS}{a b:VC}{t:Bool}:(Dn P).code (.cond (.c (B_ t)) a b) ⟨e,hs⟩=if t=true then (Dn P).code a ⟨e,hs⟩ else (Dn P).code b ⟨e,hs⟩:=by
 grind [iW,db,MQ,rd]
def UR (P:Nat->Z_)(v:M_)(a b:VC)(st:St):K_ :=
 match v with
 |some (.d (.bool true))=>(Dn P).code a st
 |some (.d (.bool false))=>(Dn P).code b st
 |_=>none
def arx {e:aW}{hs:HS}{i:Nat}{a b:VC}:(Dn P).code (.cond (.m i) a b) ⟨e,hs⟩=UR P (get e i) a b ⟨del e i,hs⟩:=by
 rw[iW];simp only[db,MQ,rd,UR]
 grind
def ax0 {a b:VC}{st:St}:UR P (some (B_ true)) a b st=(Dn P).code a st:=(rfl)
def axn {a b:VC}{st:St}:UR P (some (B_ false)) a b st=(Dn P).code b st:=(rfl)
def aKg (P:Nat->Z_)(v:M_)(w:Bool)(d:I_)(op:oP)(th:R_)(st:St):Y_ :=
 match v with
 |some (.d (.bool b))=>match b == w with
  |true=>cY (Dn P) ⟨d,none,op,th⟩ st
  |false=>some (cR d (.tup []) st)
 |some (.tup [])=>some (cR d (.tup []) st)
 |_=>none
def aFU {α:Type}{i:Nat}:get ([]:List (Nat×α)) i=none:=(rfl)
def aBl {α:Type}{k i:Nat}{v:α}{r:List (Nat×α)}:get ((k,v)::r) i=if k=i then some v else get r i:=jl ..
def aFR {α:Type}{i:Nat}{x:α}:put [] i x=[(i,x)]:=(rfl)
def put1 {α:Type}{k i:Nat}{v x:α}{r:List (Nat×α)}:put ((k,v)::r) i x=if k=i then (i,x)::r else if i<=k then (i,x)::(k,v)::r else (k,v)::put r i x:=xV ..
def aFK {α:Type}{i:Nat}:del ([]:List (Nat×α)) i=[]:=(rfl)
def azp {α:Type}{k i:Nat}{v:α}{r:List (Nat×α)}:del ((k,v)::r) i=if k=i then del r i else (k,v)::del r i:=oY ..
theorem Wz {k:IntKind}:mD k k=true:=by cases k<;>rfl
theorem lY {op:BinOp}{k:IntKind}{a b:Int}(h1:op≠.shl)(h2:op≠.shr):dD op (.d (.int k a)) (.d (.int k b))=match jF op k a b with|some x=>some (.d x)|none=>none:=by
 grind [dD,wu,Wz]
def ayJ {k:IntKind}{a b:Int}:dD .add (.d (.int k a)) (.d (.int k b))=some (.d (.int k (wr k (a+b)))):=by rw[lY s_ s_];rfl
def ay6 {k:IntKind}{a b:Int}:dD .sub (.d (.int k a)) (.d (.int k b))=some (.d (.int k (wr k (a-b)))):=by rw[lY s_ s_];rfl
def axg {k:IntKind}{a b:Int}:dD .mul (.d (.int k a)) (.d (.int k b))=some (.d (.int k (wr k (a*b)))):=by rw[lY s_ s_];rfl
def awS {k:IntKind}{a b:Int}(h:b≠0):dD .quo (.d (.int k a)) (.d (.int k b))=some (.d (.int k (wr k (a.tdiv b)))):=by grind [lY,jF]
def axQ {k:IntKind}{a b:Int}(h:b≠0):dD .rem (.d (.int k a)) (.d (.int k b))=some (.d (.int k (a.tmod b))):=by grind [lY,jF]
def awU {k:IntKind}{a b:Int}:dD .eql (.d (.int k a)) (.d (.int k b))=if a=b then some (B_ true) else some (B_ false):=by grind [lY,jF]
def ay3 {k:IntKind}{a b:Int}:dD .neq (.d (.int k a)) (.d (.int k b))=if a=b then some (B_ false) else some (B_ true):=by grind [lY,jF]
def awT {k:IntKind}{a b:Int}:dD .lss (.d (.int k a)) (.d (.int k b))=if a<b then some (B_ true) else some (B_ false):=by grind [lY,jF]
def azd {k:IntKind}{a b:Int}:dD .leq (.d (.int k a)) (.d (.int k b))=if a<=b then some (B_ true) else some (B_ false):=by grind [lY,jF]
def ayp {k:IntKind}{a b:Int}:dD .gtr (.d (.int k a)) (.d (.int k b))=if b<a then some (B_ true) else some (B_ false):=by grind [lY,jF]
def ax7 {k:IntKind}{a b:Int}:dD .geq (.d (.int k a)) (.d (.int k b))=if b<=a then some (B_ true) else some (B_ false):=by grind [lY,jF]
def aze {k j:IntKind}{a b:Int}(h:0<=b):dD .shl (.d (.int k a)) (.d (.int j b))=some (.d (.int k (wr k (a*((2 ^ (min b.toNat k.bits):Nat):Int))))):=by
 grind [dD,wu,It]
def azi {k j:IntKind}{a b:Int}(h:0<=b):dD .shr (.d (.int k a)) (.d (.int j b))=some (.d (.int k (a.fdiv ((2 ^ (min b.toNat k.bits):Nat):Int)))):=by
 grind [dD,wu,It]
def atp {a b:AG_}:dD .eql (.d (.str a)) (.d (.str b))=if a=b then some (B_ true) else some (B_ false):=by
 grind [dD]
def asU {a b:AG_}:dD .neq (.d (.str a)) (.d (.str b))=if a=b then some (B_ false) else some (B_ true):=by
 grind [dD]
def aCj {n:Int}(h:0<=n)(h2:n<=255):wr .u8 n=n:=by
 grind [wr,pg]
def aBI {n:Int}(h:0<=n)(h2:n<=65535):wr .u16 n=n:=by
 grind [wr,pg]
def aAG {n:Int}(h:0<=n)(h2:n<=4294967295):wr .u32 n=n:=by
 grind [wr,pg]
def azY {n:Int}(h:0<=n)(h2:n<=18446744073709551615):wr .u64 n=n:=by
 grind [wr,pg]
theorem yk {k:IntKind}{i:Int}{t:Nat}(h:0<=i)(h2:i<=t):eh (.d (.int k i)) t=some i.toNat:=by
 obtain⟨n,rfl⟩:=aB h;have:Nat.ble n t=true:=b9 o_;show(match Nat.ble n t with|true=>some n|false=>none)=_
 grind
theorem UN {k:IntKind}{i:Int}(h:0<=i):rO (.d (.int k i))=some i.toNat:=by
 obtain⟨n,rfl⟩:=aB h;rfl
def km (k:IntKind):Nat:=if k.signed then 2 ^ (k.bits-1) else 2 ^ k.bits
theorem axT (k:IntKind):km k<=2 ^ k.bits:=by cases k<;>decide
theorem agf {k:IntKind}{n:Nat}(h:n<km k):k.wrap (n:Int)=n:=by
 cases k<;>simp only[km,IntKind.wrap,IntKind.signed,IntKind.bits]at h⊢<;>simp at h⊢<;>omega
theorem FI {k:IntKind}{n:Nat}(h:n<km k):(BitVec.ofInt k.bits (n:Int)).toNat=n:=by
 grind [axT]
def aBL {k:IntKind}{a b:Nat}(h:a<km k)(h2:b<km k)(h3:a |||b<km k):dD .or (.d (.int k (a:Int))) (.d (.int k (b:Int)))=some (.d (.int k ((a |||b:Nat):Int))):=by
 grind [lY,jF,Gj,FI,agf]
theorem ax9 {a b t:Nat}(h:a<t):a &&& b<t:=by grind [Nat.and_le_left]
def axU {k:IntKind}{a b:Nat}(h:a<km k)(h2:b<km k):dD .and (.d (.int k (a:Int))) (.d (.int k (b:Int)))=some (.d (.int k ((a &&& b:Nat):Int))):=by
 grind [lY,jF,Gj,FI,agf,ax9]
def axH {k:IntKind}{a b:Nat}(h:a<km k)(h2:b<km k)(h3:a ^^^ b<km k):dD .xor (.d (.int k (a:Int))) (.d (.int k (b:Int)))=some (.d (.int k ((a ^^^ b:Nat):Int))):=by
 grind [lY,jF,Gj,FI,agf]
def bj (P:Nat->Z_)(f:FuncId)(ds:D_):M_:=uA ((Dn P).call f ds ⟨[],0⟩)
theorem adK {f:FuncId}{fn:ak}{args:D_}{hs:HS}(hf:P f=some fn)(hl:args.length=fn.nparams):(Dn P).call f args hs=W4 fn ((Dn P).code fn.body ⟨kp 0 args,hs⟩):=by
 grind [axS,Nat.beq_refl,wS,W4,iW]
def atf {f:FuncId}{fn:ak}{args:D_}(hf:P f=some fn)(hl:args.length=fn.nparams):bj P f args=uA (W4 fn ((Dn P).code fn.body ⟨kp 0 args,⟨[],0⟩⟩)):=by
 grind [bj,adK]
def are {g:FuncId}{first caps args:D_}{hs:HS}:cy (Dn P) (.fn g first caps) args hs=(Dn P).call g (first++(args++caps)) hs:=(rfl)
def azL {α:Type}{a b:Prop}[Decidable a][Decidable b]{x y:α}:(if a then (if b then x else y) else y)=if a∧b then x else y:=by
 grind
def azs {α:Type}{a b:Prop}[Decidable a][Decidable b]{x y:α}:(if a then x else (if b then x else y))=if a∨b then x else y:=by
 grind
def az0 {α:Type}{a b:Prop}[Decidable a][Decidable b]{x y:α}:(if a then (if b then y else x) else y)=if a∧¬b then x else y:=by
 grind
def aBs {α:Type}{a b:Prop}[Decidable a][Decidable b]{x y:α}:(if a then x else (if b then y else x))=if a∨¬b then x else y:=by
 grind
def nth {α:Type}[Inhabited α](l:List α)(i:Nat):α:=l.getD i default
theorem agT {α:Type}[Inhabited α]{l:List α}{i:Nat}(h:i<l.length):nth l i=l[i]:=by simp[nth,h]
theorem Br {α:Type}[Inhabited α]{l:List α}{i:Nat}(h:i<l.length):l[i]?=some (nth l i):=by simp[nth,h]
theorem rk {α:Type}[Inhabited α]{l:List α}{i:Nat}(h:i<l.length):l.drop i=nth l i::l.drop (i+1):=by grind [List.drop_eq_getElem_cons,agT]
theorem jv {α:Type}[Inhabited α]{l:List α}{i:Nat}(h:i<l.length):nth l i∈l:=by grind [agT]
abbrev I (n:Int):D:=.int .i64 n
abbrev Y (n:Int):D:=.int .u8 n
def aH (l:G_):E_:=l.map fun(n:Int)=>[D.int .i64 n]
def ai (l:C_):E_:=l.map fun(n:Nat)=>[D.int .u8 (n:Int)]
def UO (l:U_):E_:=l.map fun(n:Bool)=>[D.bool n]
def as9 {l:G_}:(aH l).length=l.length:=by simp[aH]
def atG {l:C_}:(ai l).length=l.length:=by simp[ai]
def asM {l:U_}:(UO l).length=l.length:=by simp[UO]
def IX {l:G_}{i:Nat}(h:i<l.length):(aH l)[i]?=some [.int .i64 (nth l i)]:=by grind [aH,Br]
def avr {l:C_}{i:Nat}(h:i<l.length):(ai l)[i]?=some [.int .u8 (nth l i:Nat)]:=by grind [ai,Br]
def aqX {l:U_}{i:Nat}(h:i<l.length):(UO l)[i]?=some [.bool (nth l i)]:=by grind [UO,Br]
def arl {a b:Nat}:((a:Int)+(b:Int)).toNat=a+b:=o_
def abz {a b:Nat}:Nat.beq a b=decide (a=b):=by
 grind [Nat.eq_of_beq_eq_true,Nat.ne_of_beq_eq_false]
theorem acF {a b:Nat}:Nat.ble a b=decide (a<=b):=by
 grind [Nat.le_of_ble_eq_true,Nat.ble_eq_true_of_le]
def axB {x y:K_}{b:VC}(h:x=y):AY P x b=AY P y b:=by rw[h]
def aye {x y:K_}{b:Nat}(h:x=y):zD b x=zD b y:=by rw[h]
def avb {x y:K_}{b:VC}(h:x=y):sf P b x=sf P b y:=by rw[h]
def axj {x y:K_}{b:ak}(h:x=y):W4 b x=W4 b y:=by rw[h]
def ayM {r:dJ}{c:VC}{x y:St}(h:x=y):r.code c x=r.code c y:=by rw[h]
def auA {v w:M_}{a b:VC}{x y:St}(h:v=w)(k:x=y):UR P v a b x=UR P w a b y:=by rw[h,k]
variable {P:Nat->Z_}
def bA {α β:Type}(x:Option α)(f:α->Option β):Option β :=
 match x with
 |some v=>f v
 |none=>none
def bP {α γ β:Type}(x:Option (α×γ))(f:α->γ->Option β):Option β :=
 match x with
 |some (v,w)=>f v w
 |none=>none
def lA {α β:Type}(x:α)(f:α->β):β:=f x
def lP {α γ β:Type}(x:α×γ)(f:α->γ->β):β:=f x.1 x.2
def dO {β:Type}(c:Bool)(x:Option β):Option β :=
 match c with
 |true=>x
 |false=>none
def gV (g:AV)(w:Bool)(x:M_):M_ :=
 match g with
 |.d (.bool b)=>if b=w then x else some (.tup [])
 |.tup []=>some (.tup [])
 |_=>none
def gH (g:AV)(w:Bool)(hs:HS)(x:X_):X_ :=
 match g with
 |.d (.bool b)=>if b=w then x else some (.tup [],hs)
 |.tup []=>some (.tup [],hs)
 |_=>none
def Uq (c a b:AV):M_ :=
 match c with
 |.d (.bool true)=>some a
 |.d (.bool false)=>some b
 |_=>none
def agi (neg:Bool)(a b:AV):BF_ :=
 match a,b with
 |.d (.bool a),.d (.bool b)=>some (.bool (match neg with|true=>!(a == b)|false=>a == b))
 |_,_=>none
def K5 (neg:Bool)(ks:U_)(a b:AV):BF_ :=
 match a,b with
 |.agg a,.agg b=>match bz ks a b with
  |some t=>some (.bool (match neg with|true=>!t|false=>t))
  |none=>none
 |_,_=>none
def fk (op:BinOp)(a b:AV):BF_ :=
 match dD op a b with
 |some (.d x)=>some x
 |_=>none
def unD (op:UnOp)(a:AV):BF_ :=
 match adi op a with
 |some (.d x)=>some x
 |_=>none
def Zg (k:IntKind)(a:AV):BF_ :=
 match a with
 |.d (.int _ n)=>some (.int k (wr k n))
 |_=>none
def Nc (h:am)(a:AV):BF_ :=
 match elems h a with
 |some xs=>match vQ xs with
  |some s=>some (.str s)
  |none=>none
 |none=>none
def GB (z:W_)(l c:AV):M_ :=
 match eh c aX with
 |some c=>match eh l c with
  |some n=>some (.own true z.length (List.replicate n z))
  |none=>none
 |none=>none
def mQ (h:am)(m:Nat)(x:AV)(lo hi mx:M_):M_ :=
 match okSl h m x with
 |true=>vT m x lo hi mx
 |false=>none
def TY (hp:am)(n:Nat)(x:AV)(lo hi mx:M_):M_ :=
 match x with
 |.ptr id off=>UE hp n id off lo hi mx
 |_=>none
def aA1 (off:Nat)(n:I_)(x:AV):M_ :=
 match x with
 |.agg cs=>Gu n cs off
 |_=>none
def iaV (hp:am)(n:Nat)(x i:AV):M_ :=
 match rO i with
 |some i=>match x with
  |.sl id off len=>match Nat.ble len i with
   |true=>none
   |false=>match get hp id with
    |some (.arr m _)=>match Nat.beq m n with
     |true=>some (.pel id (off+i) 0)
     |false=>none
    |some (.cells _)=>match Nat.beq n 1 with
     |true=>some (.ptr id (off+i))
     |false=>none
    |_=>none
  |v=>match elems hp v with
   |some xs=>match xs[i]? with
    |some x=>match Nat.beq x.length n with
     |true=>some (.pim x 0)
     |false=>none
    |none=>none
   |none=>none
 |none=>none
def K7 (len n:Nat)(p i:AV):M_ :=
 match rO i with
 |some i=>match Nat.ble len i with
  |true=>none
  |false=>iA (i*n) p
 |none=>none
def ixV (len n:Nat)(agg:Bool)(x i:AV):M_ :=
 match x with
 |.agg cs=>match rO i with
  |some i=>match Nat.ble len i with
   |true=>none
   |false=>Gu (ajd agg n) cs (i*n)
  |none=>none
 |_=>none
def aog (x i:AV):BF_ :=
 match x with
 |.d (.str s)=>match rO i with
  |some i=>match s[i]? with
   |some b=>some (.int .u8 (.ofNat b.toNat))
   |none=>none
  |none=>none
 |_=>none
def A9 (mv:Bool)(t:AV)(i:Nat):M_ :=
 match t with
 |.tup vs=>match vs[i]? with
  |some v=>match mv with
   |true=>some v
   |false=>some (share v)
  |none=>none
 |_=>none
def OA (t:AV)(i:Nat):AV :=
 match t with
 |.tup vs=>.tup (vs.set i .junk)
 |v=>v
def ab4 (x:AV):Bool :=
 match x with
 |.nl=>true
 |_=>false
def acr (m:Nat)(h:am)(a b:AV):AF_ :=
 match elems h b with
 |some ys=>match gh m ys with
  |true=>et m h a ys
  |false=>none
 |none=>none
def Ie (z:W_)(h:am)(a n:AV):AF_ :=
 match eh n aX with
 |some n=>et z.length h a (List.replicate n z)
 |none=>none
def aiQ (m:Nat)(hp:am)(a b:AV):Option (D×am) :=
 match elems hp b with
 |some ys=>match a with
  |.sl id off len=>match get hp id with
   |some (.arr k xs)=>match gh m ys && Nat.beq k m && Nat.ble (off+len) xs.length with
    |true=>some (.int .i64 (.ofNat (min len ys.length)),put hp id (.arr k (aI xs off (ys.take len))))
    |false=>none
   |_=>none
  |_=>match lenOf a with
   |some 0=>some (.int .i64 (.ofNat 0),hp)
   |_=>none
 |none=>none
def aAr (z:W_)(hp:am)(x:AV):Option am :=
 match x with
 |.sl id off len=>match get hp id with
  |some (.arr k xs)=>match Nat.beq k z.length && Nat.ble (off+len) xs.length with
   |true=>some (put hp id (.arr k (aI xs off (List.replicate len z))))
   |false=>none
  |_=>none
 |_=>none
def FE (isMax:Bool)(vs:D_):M_ :=
 match vs with
 |.d (.int k n)::vs=>CD isMax (.d (.int k n)) vs
 |_=>none
def GE (v:AV):M_ :=
 match v with
 |.ptr ..|.pel ..|.pim ..|.fn ..|.yield ..=>some v
 |_=>none
def fg (h:am)(n:I_)(p:AV):M_ :=
 match loadAt h n 0 p with
 |some (v,_)=>some v
 |none=>none
def Ll (m:Nat)(vs:D_):Bool:=vs.all λv=>Nat.beq v.cells.length m && v.cells.all br
def cG {β:Type}(e:aW)(x:Rd)(k:AV->aW->Option β):Option β :=
 match rd e x with
 |some (v,e)=>k v e
 |none=>none
def lh {β:Type}:aW->V_->(D_->aW->Option β)->Option β
 |e,[],k=>k [] e
 |e,x::r,k=>match rd e x with
  |some (v,e)=>lh e r λvs e=>k (v::vs) e
  |none=>none
def nA {β:Type}(e:aW)(x:AB_)(k:M_->aW->Option β):Option β :=
 match x with
 |none=>k none e
 |some x=>match rd e x with
  |some (v,e)=>k (some v) e
  |none=>none
def bK:Rd->Bool
 |.m _=>false
 |_=>true
def bQ {β:Type}(P:Nat->Z_)(op:oP)(e:aW)(hs:HS)(k:AV->aW->HS->Option β):Option β :=
 match op with
 |.mov x=>cG e x λv e=>k v e hs
 |.pick c a b=>cG e c λc e=>match bK a && bK b,rd e a,rd e b with
  |true,some (a,_),some (b,_)=>bA (Uq c a b) λv=>k v e hs
  |_,_,_=>bP (lH (.c c) a b ⟨e,hs⟩) λv st=>k v st.env st.hs
 |.alloc zs=>lA (put hs.heap hs.next (.cells zs)) λh=>k (.ptr hs.next 0) e ⟨h,hs.next+1⟩
 |.box x=>cG e x λv e=>dO (v.cells.all br) (lA (put hs.heap hs.next (.cells v.cells)) λh=>k (.ptr hs.next 0) e ⟨h,hs.next+1⟩)
 |.build zs ps=>lh e (qo ps) λvs e=>bA (eu zs (uB ps vs)) λcs=>k (.agg cs) e hs
 |.mks m ps=>lh e ps λvs e=>bA (j7 m vs) λxs=>k (.own true m xs) e hs
 |.mksv m ps=>lh e ps λvs e=>dO (Ll m vs) (lA (put hs.heap hs.next (.cells (vs.flatMap AV.cells))) λh=>k (.sl hs.next 0 vs.length) e ⟨h,hs.next+1⟩)
 |.ld n 0 p=>cG e p λp e=>bA (fg hs.heap n p) λv=>k v e hs
 |.ld n (t+1) p=>cG e p λp e=>bP (loadAt hs.heap n (t+1) p) λv h=>k v e ⟨h,hs.next⟩
 |.st n p x=>cG e p λp e=>cG e x λx e=>bA (storeAt hs.heap n p x) λh=>k .junk e ⟨h,hs.next⟩
 |.nilck x=>cG e x λv e=>bA (GE v) λv=>k v e hs
 |.bin op x y=>cG e x λa e=>cG e y λb e=>bA (fk op a b) λv=>k (.d v) e hs
 |.binb neg x y=>cG e x λa e=>cG e y λb e=>bA (agi neg a b) λv=>k (.d v) e hs
 |.bina neg ks x y=>cG e x λa e=>cG e y λb e=>bA (K5 neg ks a b) λv=>k (.d v) e hs
 |.un op x=>cG e x λa e=>bA (unD op a) λv=>k (.d v) e hs
 |.conv j x=>cG e x λa e=>bA (Zg j a) λv=>k (.d v) e hs
 |.toStr x=>cG e x λa e=>bA (Nc hs.heap a) λv=>k (.d v) e hs
 |.mkfn f a c=>lh e a λa e=>lh e c λc e=>k (.fn f (shareAll a) (shareAll c)) e hs
 |.mkslice z l c=>cG e l λl e=>cG e c λc e=>bA (GB z l c) λv=>k v e hs
 |.slice m x lo hi mx=>cG e x λx e=>nA e lo λlo e=>nA e hi λhi e=>nA e mx λmx e=>bA (mQ hs.heap m x lo hi mx) λv=>k v e hs
 |.slarr n x lo hi mx=>cG e x λx e=>nA e lo λlo e=>nA e hi λhi e=>nA e mx λmx e=>bA (TY hs.heap n x lo hi mx) λv=>k v e hs
 |.fa off p=>cG e p λp e=>bA (iA off p) λv=>k v e hs
 |.fld off n x=>cG e x λx e=>bA (aA1 off n x) λv=>k v e hs
 |.ia n x i=>cG e x λx e=>cG e i λi e=>bA (iaV hs.heap n x i) λv=>k v e hs
 |.iarr l n p i=>cG e p λp e=>cG e i λi e=>bA (K7 l n p i) λv=>k v e hs
 |.ix l n a x i=>cG e x λx e=>cG e i λi e=>bA (ixV l n a x i) λv=>k v e hs
 |.ixs x i=>cG e x λx e=>cG e i λi e=>bA (aog x i) λv=>k (.d v) e hs
 |.ext j true i=>match get e j with
  |some t=>bA (A9 true t i) λv=>k v (put e j (OA t i)) hs
  |none=>none
 |.ext j false i=>match get e j with
  |some t=>bA (A9 false t i) λv=>k v e hs
  |none=>none
 |.len x=>cG e x λx e=>bA (lenOf x) λn=>k (.int .i64 (.ofNat n)) e hs
 |.cap x=>cG e x λx e=>dO (ab4 x) (k (.int .i64 (.ofNat 0)) e hs)
 |.app m x y=>cG e x λa e=>cG e y λb e=>bP (acr m hs.heap a b) λv h=>k v e ⟨h,hs.next⟩
 |.appz z x n=>cG e x λa e=>cG e n λn e=>bP (Ie z hs.heap a n) λv h=>k v e ⟨h,hs.next⟩
 |.cpy m x y=>cG e x λa e=>cG e y λb e=>bP (aiQ m hs.heap a b) λv h=>k (.d v) e ⟨h,hs.next⟩
 |.clr z x=>cG e x λx e=>bA (aAr z hs.heap x) λh=>k (.tup []) e ⟨h,hs.next⟩
 |.minmax b xs=>lh e xs λvs e=>bA (FE b vs) λv=>k v e hs
 |.call f args=>lh e args λvs e=>bA (fc (Dn P) f vs hs.heap) λv=>k v e hs
 |.calli f args=>lh e args λvs e=>bP ((Dn P).call f vs hs) λv hs=>k v e hs
 |.callv f args=>cG e f λf e=>lh e args λvs e=>bP (cy (Dn P) f vs hs) λv hs=>k v e hs
 |.kill is=>k (.tup []) (is.foldl del e) hs
 |.idxb x c=>cG e x λx e=>cG e c λc e=>bA (avy hs.heap x c) λv=>k v e hs
 |op=>bP (dp op (Dn P) ⟨e,hs⟩) λv st=>k v st.env st.hs
def im:V_->Bool
 |[]=>true
 |x::r=>bK x && im r
def DD:AB_->Bool
 |none=>true
 |some x=>bK x
def dE:oP->Bool
 |.mov x=>bK x
 |.ld _ 0 p=>bK p
 |.nilck x=>bK x
 |.bin _ x y=>bK x && bK y
 |.binb _ x y=>bK x && bK y
 |.un _ x=>bK x
 |.conv _ x=>bK x
 |.fa _ p=>bK p
 |.fld _ _ x=>bK x
 |.ia _ x i=>bK x && bK i
 |.iarr _ _ p i=>bK p && bK i
 |.ix _ _ _ x i=>bK x && bK i
 |.ixs x i=>bK x && bK i
 |.ext _ mv _=>!mv
 |.len x=>bK x
 |.call _ args=>im args
 |.pick c a b=>bK c && bK a && bK b
 |.build _ ps=>im (qo ps)
 |.toStr x=>bK x
 |.mkfn _ a c=>im a && im c
 |.mkslice _ l c=>bK l && bK c
 |.minmax _ xs=>im xs
 |.slice _ x a b c=>bK x && (DD a && (DD b && DD c))
 |_=>false
def zW:oP->Bool
 |.calli _ args=>im args
 |.callv f args=>bK f && im args
 |_=>false
def VZ (P:Nat->Z_)(i:VI)(e:aW)(hs:HS)(k:aW->HS->Y_):Y_ :=
 match i.guard with
 |none=>match i.th with
  |[]=>match i.dst with
   |some d=>bQ P i.op e hs λv e hs=>k (put e d (firm v)) hs
   |none=>bQ P i.op e hs λ_ e hs=>k e hs
  |th=>match i.dst with
   |some d=>bQ P i.op e hs λv e hs=>lP (d8 th v hs) λv hs=>k (put e d (firm v)) hs
   |none=>bQ P i.op e hs λv e hs=>lP (d8 th v hs) λ_ hs=>k e hs
 |some (s,w)=>match dE i.op,i.th,i.dst with
  |true,[],some d=>match get e s with
   |some g=>bA (gV g w (bQ P i.op e hs λv _ _=>some v)) λv=>k (put e d (firm v)) hs
   |none=>none
  |_,_,_=>match zW i.op,i.th,i.dst with
   |true,[],some d=>match get e s with
    |some g=>bP (gH g w hs (bQ P i.op e hs λv _ hs=>some (v,hs))) λv hs=>k (put e d (firm v)) hs
    |none=>none
   |_,_,_=>bA (cY (Dn P) i ⟨e,hs⟩) λst=>k st.env st.hs
def qi (P:Nat->Z_):T_->aW->HS->Y_
 |[],e,hs=>some ⟨e,hs⟩
 |i::l,e,hs=>VZ P i e hs λe hs=>qi P l e hs
theorem azg {op:BinOp}{a b v:AV}(h:dD op a b=some v):∃x,v=.d x:=by
 unfold dD at h
 grind
theorem aBz {op:UnOp}{a v:AV}(h:adi op a=some v):∃x,v=.d x:=by
 unfold adi at h
 grind
theorem fp {β:Type}{e:aW}{x:Rd}{k:AV->aW->Option β}:cG e x k=match rd e x with|some (v,e)=>k v e|none=>none:=rfl
theorem oO {β:Type}:∀{l:V_}{e:aW}{k:D_->aW->Option β},lh e l k=match rdAll e l with|some (vs,e)=>k vs e|none=>none
 |[],_,_=>rfl
 |x::r,e,k=>by
  simp only[lh,rdAll]
  cases rd e x with
  |none=>rfl
  |some p =>
   simp only;rw[oO]
   grind
def amc {β:Type}{e:aW}{x:AB_}{k:M_->aW->Option β}:nA e x k=match rdOpt e x with|some (v,e)=>k v e|none=>none:=by
 cases x<;>grind [nA,rdOpt]
def atq {h h':am}{n:I_}{p v:AV}(k:loadAt h n 0 p=some (v,h')):h'=h:=by
 unfold loadAt at k
 grind
def gx {β:Type}(x:L_)(k:AV->aW->HS->Option β):Option β :=
 match x with
 |some (v,st)=>k v st.env st.hs
 |none=>none
theorem ui {e e1:aW}{x:Rd}{v:AV}(hs:bK x=true)(h:rd e x=some (v,e1)):e1=e:=by
 cases x<;>grind [rd,bK]
theorem P6 {a b:Rd}{st:St}:lH (.c (B_ true)) a b st=match rd st.env a with|some (v,e)=>some (v,⟨e,st.hs⟩)|none=>none:=rfl
theorem Py {a b:Rd}{st:St}:lH (.c (B_ false)) a b st=match rd st.env b with|some (v,e)=>some (v,⟨e,st.hs⟩)|none=>none:=rfl
def Jr {β:Type}{op:oP}{e:aW}{hs:HS}{k:AV->aW->HS->Option β}:bQ P op e hs k=gx (dp op (Dn P) ⟨e,hs⟩) k:=by
 cases op with
 |mov x=>grind [bQ,dp,UC,fp,gx]
 |pick c a b =>
  simp only[bQ,dp,fp]
  cases hc:rd e c with
  |none=>grind [lH,gx]
  |some q =>
   obtain⟨v,e1⟩:=q;have h0:lH c a b ⟨e,hs⟩=lH (.c v) a b ⟨e1,hs⟩:=by
    unfold lH;simp only;rw[hc];rfl
   rw[h0];simp only;split
   .rename_i va _ vb _ hst hra hrb;simp only[af]at hst;have ea:=ui hst.1 hra;have eb:=ui hst.2 hrb;subst ea;subst eb;simp only[gx]
    cases v with
    |d x=>cases x with
     |bool t =>
      cases t
      all_goals grind [Py,Uq,bA,P6]
     |_=>rfl
    |_=>rfl
   .simp only[bP,gx]
    grind
 |ld n t p =>
  cases t with
  |zero =>
   simp only[bQ,dp,ET,fp,gx]
   cases rd e p with
   |none=>rfl
   |some q =>
    obtain⟨v,e1⟩:=q;simp only[fg,bA]
    cases hl:loadAt hs.heap n 0 v with
    |none=>rfl
    |some r=>obtain⟨v2,h2⟩:=r;simp only[atq hl]
  |succ t =>
   grind [bQ,dp,ET,fp,gx,bP]
 |alloc zs=>rfl
 |box x =>
  grind [bQ,dp,Uz,fp,gx,dO,lA,JD]
 |build zs ps =>
  grind [bQ,dp,E7,oO,gx,bA]
 |mks m ps =>
  grind [bQ,dp,PQ,oO,gx,bA]
 |mksv m ps =>
  grind [bQ,dp,YH,oO,gx,dO,lA,JD,Ll]
 |st n p x =>
  simp only[bQ,dp,aom,fp,gx]
  grind [bA]
 |nilck x =>
  grind [bQ,dp,IH,fp,gx,bA,GE]
 |bin op x y =>
  simp only[bQ,dp,PW,Vb,fp,gx]
  grind [bA,fk,azg]
 |binb neg x y =>
  simp only[bQ,dp,Nf,fp,gx]
  grind [bA,agi]
 |bina neg ks x y =>
  simp only[bQ,dp,NG,fp,gx]
  cases rd e x<;>grind [bA,K5]
 |un op x =>
  grind [bQ,dp,acg,fp,gx,bA,unD,aBz]
 |conv j x =>
  simp only[bQ,dp,JP,fp,gx]
  cases rd e x with
  |none=>rfl
  |some q =>
   obtain⟨v,e1⟩:=q;simp only[bA,Zg]
   grind
 |toStr x =>
  simp only[bQ,dp,ND,fp,gx]
  grind [bA,Nc]
 |mkfn f a c =>
  grind [bQ,dp,J3,oO,gx]
 |mkslice z l c =>
  simp only[bQ,dp,mN,fp,gx]
  cases rd e l<;>grind [bA,GB]
 |slice m x lo hi mx =>
  simp only[bQ,dp,Ot,fp,amc,gx]
  cases rd e x<;>grind [bA,mQ]
 |slarr n x lo hi mx =>
  simp only[bQ,dp,UA,fp,amc,gx]
  cases rd e x with
  |none=>rfl
  |some q =>
   obtain⟨v,e1⟩:=q;simp only
   cases v<;>grind [bA,TY]
 |fa off p =>
  grind [bQ,dp,ab3,fp,gx,bA]
 |fld off n x =>
  simp only[bQ,dp,Pr,fp,gx]
  cases rd e x with
  |none=>rfl
  |some q =>
   obtain⟨v,e1⟩:=q;simp only[bA,aA1]
   grind
 |ia n x i =>
  simp only[bQ,dp,aiJ,fp,gx]
  cases rd e x with
  |none=>rfl
  |some q =>
   obtain⟨v,e1⟩:=q;simp only
   cases rd e1 i with
   |none=>rfl
   |some q =>
    obtain⟨w,e2⟩:=q;simp only[bA,iaV]
    cases rO w with
    |none=>rfl
    |some j =>
     simp only
     cases v<;>grind
 |iarr l n p i =>
  simp only[bQ,dp,MZ,fp,gx]
  cases rd e p<;>grind [bA,K7]
 |ix l n a x i =>
  simp only[bQ,dp,W3,fp,gx]
  cases rd e x with
  |none=>rfl
  |some q =>
   obtain⟨v,e1⟩:=q;simp only
   cases hi:rd e1 i with
   |none=>grind
   |some q =>
    obtain⟨w,e2⟩:=q;simp only[bA,ixV]
    grind
 |ixs x i =>
  simp only[bQ,dp,OC,fp,gx]
  cases rd e x with
  |none=>rfl
  |some q =>
   obtain⟨v,e1⟩:=q;simp only
   cases hi:rd e1 i with
   |none=>grind
   |some q =>
    obtain⟨w,e2⟩:=q;simp only[bA,aog]
    grind
 |ext j mv i =>
  cases mv with
  |true =>
   simp only[bQ,dp,CI,gx]
   cases get e j with
   |none=>rfl
   |some t =>
    simp only[bA,A9,OA]
    grind
  |false =>
   simp only[bQ,dp,CI,gx]
   cases get e j with
   |none=>rfl
   |some t =>
    simp only[bA,A9]
    grind
 |len x =>
  grind [bQ,dp,Ud,fp,gx,bA]
 |cap x =>
  simp only[bQ,dp,Qb,fp,gx]
  cases rd e x with
  |none=>rfl
  |some q =>
   obtain⟨v,e1⟩:=q;simp only[dO,ab4]
   grind
 |app m x y =>
  simp only[bQ,dp,Ih,fp,gx]
  cases rd e x<;>grind [bP,acr]
 |appz z x n =>
  simp only[bQ,dp,ajj,fp,gx]
  grind [bP,Ie]
 |cpy m x y =>
  simp only[bQ,dp,aaB,fp,gx]
  cases rd e x with
  |none=>rfl
  |some q =>
   obtain⟨v,e1⟩:=q;simp only
   cases rd e1 y with
   |none=>rfl
   |some q =>
    obtain⟨w,e2⟩:=q;simp only[bP,aiQ]
    cases elems hs.heap w with
    |none=>rfl
    |some ys =>
     simp only
     cases v with
     |sl id off len =>
      grind
     |_ =>
      simp only;generalize lenOf _=n
      cases n with
      |none=>rfl
      |some n=>cases n<;>rfl
 |clr z x =>
  simp only[bQ,dp,T9,fp,gx]
  cases rd e x with
  |none=>rfl
  |some q =>
   simp only[bA,aAr]
   grind
 |minmax b xs =>
  simp only[bQ,dp,A7,oO,gx]
  cases rdAll e xs with
  |none=>rfl
  |some q =>
   simp only[bA,FE]
   grind
 |call f args =>
  grind [bQ,dp,Gv,oO,gx,bA]
 |calli f args =>
  grind [bQ,dp,EV,oO,gx,bP]
 |callv f args =>
  simp only[bQ,dp,Fq,fp,oO,gx]
  grind [bP]
 |kill is=>rfl
 |idxb x c =>
  simp only[bQ,dp,agG,fp,gx]
  grind [bA]
 |_ =>
  simp only[bQ,bP,gx]
  grind
theorem Rb:∀{l:V_}{e e1:aW}{vs:D_},im l=true->rdAll e l=some (vs,e1)->e1=e
 |[],e,e1,vs,_,h=>by grind [rdAll]
 |x::r,e,e1,vs,hs,h=>by
  simp only[im,af]at hs;simp only[rdAll]at h;split at h
  .simp at h
  .rename_i v e2 h1;split at h
   .simp at h
   .rename_i vs2 e3 h2;have a1:=ui hs.1 h1;have a2:=Rb hs.2 h2
    simp_all
theorem kX {β:Type}{e:aW}{x:Rd}{k:AV->aW->Option β}(h:bK x=true):cG e x k=cG e x λv _=>k v e:=by
 grind [cG,ui]
theorem yx {β:Type}{e:aW}{l:V_}{k:D_->aW->Option β}(h:im l=true):lh e l k=lh e l λv _=>k v e:=by
 grind [oO,Rb]
theorem Qi {β:Type}{e:aW}{x:AB_}{k:M_->aW->Option β}(h:DD x=true):nA e x k=nA e x λv _=>k v e:=by
 cases x with
 |none=>rfl
 |some x=>exact kX (k:=λv e=>k (some v) e) h
theorem mu {α β γ:Type}{x:Option α}{f:α->Option β}{g:β->Option γ}:bA (bA x f) g=bA x λv=>bA (f v) g:=by
 cases x<;>rfl
theorem gq {β γ:Type}{e:aW}{x:Rd}{k:AV->aW->Option β}{g:β->Option γ}:bA (cG e x k) g=cG e x λv e=>bA (k v e) g:=by
 simp only[cG];cases rd e x<;>rfl
theorem KV {β γ:Type}{e:aW}{x:V_}{k:D_->aW->Option β}{g:β->Option γ}:bA (lh e x k) g=lh e x λv e=>bA (k v e) g:=by
 simp only[oO];cases rdAll e x<;>rfl
theorem fU {α β:Type}{v:α}{f:α->Option β}:bA (some v) f=f v:=rfl
def Se {β:Type}{e:aW}{x y:Rd}{k:AV->AV->aW->Option β}(h:bK x=true)(h2:bK y=true):(cG e x λa e=>cG e y λb e=>k a b e)=cG e x λa _=>cG e y λb _=>k a b e:=by
 grind [cG,ui]
def Qm {β:Type}{e:aW}{x y:Rd}{k:AV->AV->Option β}(h:bK x=true)(h2:bK y=true):(cG e x λa e=>cG e y λb _=>k a b)=cG e x λa _=>cG e y λb _=>k a b:=Se (k:=λa b _=>k a b) h h2
def ar3 {β:Type}{op:oP}{e:aW}{hs:HS}{k:AV->aW->HS->Option β}(h:dE op=true):bQ P op e hs k=bA (bQ P op e hs λv _ _=>some v) λv=>k v e hs:=by
 cases op with
 |mov x =>
  grind [dE,bQ,gq,fU,kX]
 |ld n t p =>
  cases t<;>simp_all [dE,bQ,gq,mu,fU,kX]
 |nilck x =>
  grind [dE,bQ,gq,mu,fU,kX]
 |un op x =>
  grind [dE,bQ,gq,mu,fU,kX]
 |conv op x =>
  grind [dE,bQ,gq,mu,fU,kX]
 |fa off p =>
  grind [dE,bQ,gq,mu,fU,kX]
 |fld off n p =>
  grind [dE,bQ,gq,mu,fU,kX]
 |len x =>
  grind [dE,bQ,gq,mu,fU,kX]
 |bin op x y =>
  simp only[dE,af]at h;simp only[bQ,gq,mu,fU];exact(Se h.1 h.2).trans (Qm h.1 h.2).symm
 |binb op x y =>
  simp only[dE,af]at h;simp only[bQ,gq,mu,fU];exact(Se h.1 h.2).trans (Qm h.1 h.2).symm
 |ia n x y =>
  simp only[dE,af]at h;simp only[bQ,gq,mu,fU];exact(Se h.1 h.2).trans (Qm h.1 h.2).symm
 |iarr l n x y =>
  simp only[dE,af]at h;simp only[bQ,gq,mu,fU];exact(Se h.1 h.2).trans (Qm h.1 h.2).symm
 |ix l n a x y =>
  simp only[dE,af]at h;simp only[bQ,gq,mu,fU];exact(Se h.1 h.2).trans (Qm h.1 h.2).symm
 |ixs x y =>
  simp only[dE,af]at h;simp only[bQ,gq,mu,fU];exact(Se h.1 h.2).trans (Qm h.1 h.2).symm
 |ext j mv i =>
  cases mv with
  |true=>simp[dE]at h
  |false =>
   simp only[bQ]
   cases get e j with
   |none=>rfl
   |some t=>grind [mu,fU]
 |call f args =>
  grind [dE,bQ,KV,mu,fU,yx]
 |build zs ps =>
  grind [dE,bQ,KV,mu,fU,yx]
 |slice m x lo hi mx =>
  simp only[dE,af]at h;obtain⟨h0,h1,h2,h3⟩:=h;have bd:∀{γ:Type}{x:AB_}{e:aW}{k:M_->aW->M_}{g:AV->Option γ},bA (nA e x k) g=nA e x λv e=>bA (k v e) g:=by
   intro γ x e k g
   cases x with
   |none=>rfl
   |some x=>exact gq
  simp only[bQ,gq,bd,mu,fU];rw[kX h0,kX (k:=λv e_1=>nA e_1 lo λv_1 e_1=>nA e_1 hi λv_2 e_1=>nA e_1 mx λv_3 _=>bA (mQ hs.heap m v v_1 v_2 v_3) λv=>k v e hs) h0]
  congr 1
  funext v _;rw[Qi h1,Qi (k:=λv_1 e_1=>nA e_1 hi λv_2 e_1=>nA e_1 mx λv_3 _=>bA (mQ hs.heap m v v_1 v_2 v_3) λv=>k v e hs) h1]
  grind [Qi]
 |minmax b ps =>
  grind [dE,bQ,KV,mu,fU,yx]
 |toStr x =>
  grind [dE,bQ,gq,mu,fU,kX]
 |mkslice z x y =>
  simp only[dE,af]at h;simp only[bQ,gq,mu,fU];exact(Se h.1 h.2).trans (Qm h.1 h.2).symm
 |mkfn f a c =>
  simp_all [dE,bQ,KV,fU,yx]
 |pick c a b =>
  simp only[dE,af]at h;simp only[bQ,gq];have h2:(bK a && bK b)=true:=u_;simp only[cG]
  cases hc:rd e c with
  |none=>rfl
  |some q =>
   obtain⟨v,e1⟩:=q;have:=ui h.1.1 hc;subst this;simp only[h2]
   cases ha:rd e1 a with
   |none =>
    cases hb:rd e1 b with
    |none =>
     cases v<;>try rfl
     rename_i d;cases d<;>try rfl
     rename_i t;cases t<;>simp only[P6,Py,ha,hb,bP,bA]
    |some q =>
     have:=ui h.2 hb;subst this
     cases v<;>try rfl
     rename_i d;cases d<;>try rfl
     rename_i t;cases t<;>simp only[P6,Py,ha,hb,bP,bA]
   |some q =>
    obtain⟨va,ea⟩:=q;have:=ui h.1.2 ha;subst this
    cases hb:rd ea b with
    |none =>
     cases v<;>try rfl
     rename_i d;cases d<;>try rfl
     rename_i t;cases t<;>simp only[P6,Py,ha,hb,bP,bA]
    |some q=>grind [mu,fU]
 |_=>simp[dE]at h
def av3 {α β γ δ ε:Type}{x:Option (α×β)}{f:α->β->Option (γ×δ)}{g:γ->δ->Option ε}:bP (bP x f) g=bP x λv w=>bP (f v w) g:=by
 cases x<;>rfl
def apc {β:Type}{op:oP}{e:aW}{hs:HS}{k:AV->aW->HS->Option β}(h:zW op=true):bQ P op e hs k=bP (bQ P op e hs λv _ hs=>some (v,hs)) λv hs=>k v e hs:=by
 cases op with
 |calli f args =>
  simp only[bQ];rw[yx h];simp only[oO]
  cases rdAll e args with
  |none=>rfl
  |some q=>simp only[av3];rfl
 |callv f args =>
  simp only[zW,af]at h;simp only[bQ];simp only[yx h.2];simp only[cG]
  cases hf:rd e f with
  |none=>rfl
  |some q =>
   obtain⟨v,e1⟩:=q;have:=ui h.1 hf;subst this;simp only[oO]
   cases rdAll e1 args with
   |none=>rfl
   |some q=>simp only[av3];rfl
 |_=>simp[zW]at h
def aeE:firm (.tup [])=.tup []:=rfl
def J1 {i:VI}{e:aW}{hs:HS}{k:aW->HS->Y_}:VZ P i e hs k=bA (cY (Dn P) i ⟨e,hs⟩) λst=>k st.env st.hs:=by
 obtain⟨dst,guard,op,th⟩:=i;unfold VZ
 cases guard with
 |none =>
  simp only[cY,gC]
  cases th with
  |nil =>
   cases dst with
   |none =>
    simp only[Jr,gx,cR]
    cases dp op (Dn P) ⟨e,hs⟩<;>rfl
   |some d =>
    simp only[Jr,gx,cR]
    cases dp op (Dn P) ⟨e,hs⟩<;>rfl
  |cons p r =>
   cases dst with
   |none =>
    simp only[Jr,gx,cR,lP]
    cases dp op (Dn P) ⟨e,hs⟩<;>rfl
   |some d =>
    simp only[Jr,gx,cR,lP]
    cases dp op (Dn P) ⟨e,hs⟩<;>rfl
 |some g =>
  obtain⟨s,w⟩:=g;simp only;split
  .rename_i d hst;have he:∀{k:AV->aW->HS->Y_},gx (dp op (Dn P) ⟨e,hs⟩) k=bA (bQ P op e hs λv _ _=>some v) λv=>k v e hs:=by
    intro k;rw[<-Jr,ar3 hst]
   have hv:∀{k:aW->HS->Y_},bA (gC (Dn P) ⟨some d,some (s,w),op,[]⟩ ⟨e,hs⟩) (λst=>k st.env st.hs)=bA (bQ P op e hs λv _ _=>some v) λv=>k (put e d (firm v)) hs:=by
    intro k;rw[<-he (k:=λv e hs=>k (put e d (firm v)) hs)];simp only[gC,gx,cR]
    cases dp op (Dn P) ⟨e,hs⟩<;>rfl
   simp only[cY]
   cases get e s with
   |none=>rfl
   |some g =>
    cases g with
    |d x=>cases x with
     |bool b =>
      simp only[gV]
      cases hb:(b == w)<;>simp_all [bA,aeE,cR]
     |_=>rfl
    |tup vs=>cases vs<;>rfl
    |_=>rfl
  .split
   .rename_i d hst _;have he:∀{k:AV->aW->HS->Y_},gx (dp op (Dn P) ⟨e,hs⟩) k=bP (bQ P op e hs λv _ hs=>some (v,hs)) λv hs=>k v e hs:=by
     intro k;rw[<-Jr,apc hst]
    have hv:∀{k:aW->HS->Y_},bA (gC (Dn P) ⟨some d,some (s,w),op,[]⟩ ⟨e,hs⟩) (λst=>k st.env st.hs)=bP (bQ P op e hs λv _ hs=>some (v,hs)) λv hs=>k (put e d (firm v)) hs:=by
     intro k;rw[<-he (k:=λv e hs=>k (put e d (firm v)) hs)];simp only[gC,gx,cR]
     cases dp op (Dn P) ⟨e,hs⟩<;>rfl
    simp only[cY]
    cases get e s with
    |none=>rfl
    |some g =>
     cases g with
     |d x=>cases x with
      |bool b =>
       simp only[gH]
       cases hb:(b == w)<;>simp_all [bA,bP,aeE,cR]
      |_=>rfl
     |tup vs=>cases vs<;>rfl
     |_=>rfl
   .rfl
theorem abC:∀{l:T_}{e:aW}{hs:HS},lg (Dn P) l ⟨e,hs⟩=qi P l e hs
 |[],_,_=>rfl
 |i::l,e,hs=>by
  simp only[lg,qi,J1,bA]
  cases cY (Dn P) i ⟨e,hs⟩ with
  |none=>rfl
  |some st=>exact abC
def Gk {d:Bool}{ops:T_}{e:aW}{hs:HS}{x:Y_}(h:qi P ops e hs=x):(Dn P).code (.reg d ops) ⟨e,hs⟩=ft x:=by
 grind [Xj,abC]
def apq {perm gco:C_}{ops:T_}{e:aW}{hs:HS}{x:Y_}(ha:tK e ops=true)(hb:(perm.all λi=>decide (i<ops.length))=true)(h:qi P (perm.filterMap λi=>ops[i]?) e hs=x):(Dn P).code (.regP perm gco [] ops) ⟨e,hs⟩=ft x:=by
 grind [aqD,aef,abC]
def aAL (e:aW)(d:I_):Bool :=
 match d with
 |some d=>match get e d with
  |some a=>L9 a
  |none=>false
 |none=>false
def auX (P:Nat->Z_)(F:C_)(v:VI)(e:aW)(hs:HS)(k:aW->HS->Y_):Y_ :=
 match ut v.op with
 |.call=>VZ P v e hs λe2 s2=>dO (dK F hs.heap s2.heap) (k e2 s2)
 |.take=>VZ P v e hs λe2 s2=>dO (aAL e2 v.dst) (k e2 s2)
 |.read=>VZ P v e ⟨dT (oM v e) hs.heap,hs.next⟩ λe2 _=>k e2 hs
def YE (P:Nat->Z_):List (Bool×VI)->C_->aW->HS->Y_
 |[],_,e,hs=>some ⟨e,hs⟩
 |(a,v)::l,F,e,hs=>match a with
  |false=>VZ P v e hs λe2 s2=>YE P l F e2 s2
  |true=>auX P F v e hs λe2 s2=>YE P l (kj true v e F) e2 s2
def ayI {F:C_}{v:VI}{e:aW}{hs:HS}{k:aW->HS->Y_}:auX P F v e hs k=bA (xg (Dn P) F v ⟨e,hs⟩) λst=>k st.env st.hs:=by
 unfold auX xg
 cases ut v.op with
 |call =>
  simp only[J1]
  cases cY (Dn P) v ⟨e,hs⟩ with
  |none=>rfl
  |some st =>
   simp only[bA]
   cases dK F hs.heap st.hs.heap<;>rfl
 |take =>
  simp only[J1]
  cases cY (Dn P) v ⟨e,hs⟩ with
  |none=>rfl
  |some st =>
   simp only[bA,aAL]
   cases v.dst with
   |none=>rfl
   |some d =>
    simp only
    cases get st.env d with
    |none=>rfl
    |some a=>simp only;cases L9 a<;>rfl
 |read =>
  simp only[J1]
  cases cY (Dn P) v ⟨e,⟨dT (oM v e) hs.heap,hs.next⟩⟩<;>rfl
def agx (nr:C_)(ops:T_)(i:Nat):Option (Bool×VI) :=
 match ops[i]? with
 |some v=>some (eQ i nr,v)
 |none=>none
def XF {nr:C_}{ops:T_}:∀{l:C_}{F:C_}{e:aW}{hs:HS},(l.all λi=>decide (i<ops.length))=true->fS (Dn P) nr ops l F ⟨e,hs⟩=YE P (l.filterMap (agx nr ops)) F e hs
 |[],_,_,_,_=>rfl
 |i::l,F,e,hs,hb=>by
  simp only[gQ,af,decide_eq_true_eq]at hb;have h1:ops[i]?=some ops[i]:=bB hb.1;have h2:agx nr ops i=some (eQ i nr,ops[i]):=by grind [agx]
  simp only[fS,h1,List.filterMap_cons,h2,YE,co]
  cases eQ i nr with
  |false =>
   simp only[J1,kj]
   cases cY (Dn P) ops[i] ⟨e,hs⟩ with
   |none=>rfl
   |some st=>exact XF hb.2
  |true =>
   simp only[ayI]
   cases xg (Dn P) F ops[i] ⟨e,hs⟩ with
   |none=>rfl
   |some st=>exact XF hb.2
def dU {perm gco nr:C_}{ops:T_}{e:aW}{hs:HS}{x:Y_}(ha:tK e ops=true)(hb:(perm.all λi=>decide (i<ops.length))=true)(h:YE P (perm.filterMap (agx nr ops)) [] e hs=x):(Dn P).code (.regP perm gco nr ops) ⟨e,hs⟩=ft x:=by
 rw[iW,<-h,<-XF hb];simp only[db,NZ,Nb,ha]
 cases fS (Dn P) nr ops perm [] ⟨e,hs⟩<;>rfl
abbrev F (i:Nat):VC:=.reg false [⟨none,none,.free i,[]⟩]
def frK (e:aW)(hs:HS)(i:Nat):M_->K_
 |some (.ptr id _)=>some (.normal,⟨del e i,⟨del hs.heap id,hs.next⟩⟩)
 |some (.fn _ _ caps)=>some (.normal,⟨del e i,⟨delAll hs.heap (Ji caps),hs.next⟩⟩)
 |_=>some (.normal,⟨e,hs⟩)
def aDH {e:aW}{h:am}{n i id o:Nat}:frK e ⟨h,n⟩ i (some (.ptr id o))=some (.normal,⟨del e i,⟨del h id,n⟩⟩):=rfl
def aDY {e:aW}{h:am}{n i f:Nat}{a c:D_}:frK e ⟨h,n⟩ i (some (.fn f a c))=some (.normal,⟨del e i,⟨delAll h (Ji c),n⟩⟩):=rfl
def azX {i:Nat}{e:aW}{hs:HS}:(Dn P).code (F i) ⟨e,hs⟩=frK e hs i (get e i):=by
 rw[Xj];simp only[lg,cY,gC,dp,Zx]
 cases get e i with
 |none=>rfl
 |some v=>cases v<;>rfl
abbrev K (l:C_):VC:=.reg false [⟨none,none,.kill l,[]⟩]
def aAl {is:C_}{e:aW}{hs:HS}:(Dn P).code (K is) ⟨e,hs⟩=some (.normal,⟨is.foldl del e,hs⟩):=by rw[Xj];rfl
abbrev ki:=@Nat.two_pow_add_eq_or_of_lt
variable {P:Nat->Z_}
attribute [simp ↓] aAM aAz aBq aAU azv az1 azM aAa aBg azT aBB aAb aA8 aAY azn azy az9 aBJ Nx axJ ax6 axM axq ayr
attribute [simp ↓] arf aql atD anQ aqu as8 aoo aAl azX aDH aDY ax0 axn arx
attribute [simp] delAll Ji
attribute [simp] aFU aBl aFR put1 aFK azp
attribute [congr] ite_congr axB aye avb axj ayM auA
def Pc (x:Option (D_×St)):X_ :=
 match x with
 |some ([v],st)=>some (v,st.hs)
 |some (vs,st)=>some (.tup vs,st.hs)
 |none=>none
def aAj {fn:ak}{st:St}:GS fn st=Pc (fT st fn.results):=(by
 simp only[GS,Pc]
 cases fT st fn.results with
 |none=>rfl
 |some q =>
  obtain⟨vs,s⟩:=q
  cases vs with
  |nil=>rfl
  |cons v r=>cases r<;>rfl)
@[simp] def aIl {st:St}:Pc (some ([],st))=some (.tup [],st.hs):=(rfl)
@[simp] def aIL {v:AV}{st:St}:Pc (some ([v],st))=some (v,st.hs):=(rfl)
@[simp] def aJj {v w:AV}{r:D_}{st:St}:Pc (some (v::w::r,st))=some (.tup (v::w::r),st.hs):=(rfl)
def xc (rs:BB_)(x:K_):X_ :=
 match x with
 |some (.normal,st)=>Pc (fT st rs)
 |some (.ret,st)=>Pc (fT st rs)
 |_=>none
@[simp ↓] def aIZ {rs:BB_}{st:St}:xc rs (some (.normal,st))=Pc (fT st rs):=(rfl)
@[simp ↓] def aJh {rs:BB_}{st:St}:xc rs (some (.ret,st))=Pc (fT st rs):=(rfl)
@[simp ↓] def aIU {rs:BB_}{c:Prop}[Decidable c]{x y:K_}:xc rs (if c then x else y)=if c then xc rs x else xc rs y:=by split<;>rfl
@[simp ↓] def al7 {n:Nat}{rs:BB_}{b:VC}{x:K_}:W4 ⟨n,rs,b⟩ x=xc rs x:=by
 simp only[W4,xc];split<;>simp only[aAj]
def axC {rs:BB_}{x y:K_}(h:x=y):xc rs x=xc rs y:=by rw[h]
attribute [congr] axC
theorem ah {a b:VC}{st:St}(h:a=b):(Dn P).code (.loop a) st=sf P a ((Dn P).code b st):=by rw[<-h];exact arG
def aE {f:FuncId}{fn:ak}{n:Nat}{rs:BB_}{b:VC}{args:D_}(hf:P f=some fn)(hd:fn=⟨n,rs,b⟩)(hl:args.length=n):bj P f args=uA (xc rs ((Dn P).code b ⟨kp 0 args,⟨[],0⟩⟩)):=by
 subst hd;rw[atf hf hl,al7]
def ba {f:FuncId}{fn:ak}{n:Nat}{rs:BB_}{b:VC}{args:D_}{hs:HS}(hf:P f=some fn)(hd:fn=⟨n,rs,b⟩)(hl:args.length=n):(Dn P).call f args hs=xc rs ((Dn P).code b ⟨kp 0 args,hs⟩):=by
 subst hd;rw[adK hf hl,al7]
@[simp ↓] def aKl {α β:Type}{v:α}{f:α->Option β}:bA (some v) f=f v:=(rfl)
@[simp ↓] def aKe {α β:Type}{f:α->Option β}:bA none f=none:=(rfl)
@[simp ↓] def aJ6 {α β:Type}{c:Prop}[Decidable c]{x y:Option α}{f:α->Option β}:bA (if c then x else y) f=if c then bA x f else bA y f:=by split<;>rfl
@[simp ↓] def aJ8 {α γ β:Type}{v:α}{w:γ}{f:α->γ->Option β}:bP (some (v,w)) f=f v w:=(rfl)
@[simp ↓] def aKh {α γ β:Type}{f:α->γ->Option β}:bP none f=none:=(rfl)
@[simp ↓] def aKf {α γ β:Type}{c:Prop}[Decidable c]{x y:Option (α×γ)}{f:α->γ->Option β}:bP (if c then x else y) f=if c then bP x f else bP y f:=by split<;>rfl
@[simp ↓] def aKc {α β:Type}{x:α}{f:α->β}:lA x f=f x:=(rfl)
@[simp ↓] def aKk {α γ β:Type}{x:α}{y:γ}{f:α->γ->β}:lP (x,y) f=f x y:=(rfl)
@[simp ↓] def aJF {β:Type}{x:Option β}:dO true x=x:=(rfl)
@[simp ↓] def aJC {β:Type}{x:Option β}:dO false x=none:=(rfl)
def aCi {α β:Type}{x y:Option α}{f:α->Option β}(h:x=y):bA x f=bA y f:=by rw[h]
def aDz {α γ β:Type}{x y:Option (α×γ)}{f:α->γ->Option β}(h:x=y):bP x f=bP y f:=by rw[h]
def aDv {α β:Type}{x y:α}{f:α->β}(h:x=y):lA x f=lA y f:=by rw[h]
def aDT {α γ β:Type}{x y:α×γ}{f:α->γ->β}(h:x=y):lP x f=lP y f:=by rw[h]
attribute [congr] aCi aDz aDv aDT
@[simp ↓] def aJz {x:M_}:gV (B_ true) true x=x:=(rfl)
@[simp ↓] def aJu {x:M_}:gV (B_ false) false x=x:=(rfl)
@[simp ↓] def aJB {x:M_}:gV (B_ true) false x=some (.tup []):=(rfl)
@[simp ↓] def aJS {x:M_}:gV (B_ false) true x=some (.tup []):=(rfl)
@[simp ↓] def aJ9 {w:Bool}{x:M_}:gV (.tup []) w x=some (.tup []):=(rfl)
@[simp ↓] def aJV {hs:HS}{x:X_}:gH (B_ true) true hs x=x:=(rfl)
@[simp ↓] def aJJ {hs:HS}{x:X_}:gH (B_ false) false hs x=x:=(rfl)
@[simp ↓] def aJG {hs:HS}{x:X_}:gH (B_ true) false hs x=some (.tup [],hs):=(rfl)
@[simp ↓] def aJE {hs:HS}{x:X_}:gH (B_ false) true hs x=some (.tup [],hs):=(rfl)
@[simp ↓] def aHg {a b:AV}:Uq (B_ true) a b=some a:=(rfl)
@[simp ↓] def aHA {a b:AV}:Uq (B_ false) a b=some b:=(rfl)
@[simp] def aIj {x:D}:firm (.d x)=.d x:=(rfl)
@[simp] def aHV:firm .nl=.nl:=(rfl)
@[simp] def aFo {p:Bool}{m:Nat}{xs:E_}:firm (.own p m xs)=.own false m xs:=(rfl)
@[simp] def aGl {cs:D_}:firm (.agg cs)=.agg (cs.map ot):=(rfl)
@[simp] def aFm {cs:D_}:firm (.tup cs)=.tup (cs.map CA):=(rfl)
@[simp] def aHa {a b:Nat}:firm (.ptr a b)=.ptr a b:=(rfl)
@[simp] def aGQ {a b c:Nat}:firm (.pel a b c)=.pel a b c:=(rfl)
@[simp] def aGz {a:W_}{b:Nat}:firm (.pim a b)=.pim a b:=(rfl)
@[simp] def aH8 {a b c:Nat}:firm (.sl a b c)=.sl a b c:=(rfl)
@[simp] def aHZ {f:FuncId}{a b:D_}:firm (.fn f a b)=.fn f a b:=(rfl)
@[simp] def aCB {n:Nat}:firm (.yield n)=.yield n:=(rfl)
def sD {op:BinOp}{a b:AV}{x:D}(h:dD op a b=some (.d x)):fk op a b=some x:=by simp only[fk,h]
def BG {op:BinOp}{a b:AV}{c:Prop}[Decidable c]{x y:D}(h:dD op a b=if c then some (.d x) else some (.d y)):fk op a b=if c then some x else some y:=by
 by_cases hc:c<;>simp[fk,h,hc]
@[simp] def aIs {k:IntKind}{a b:Int}:fk .add (.d (.int k a)) (.d (.int k b))=some (.int k (wr k (a+b))):=sD ayJ
@[simp] def aIq {k:IntKind}{a b:Int}:fk .sub (.d (.int k a)) (.d (.int k b))=some (.int k (wr k (a-b))):=sD ay6
@[simp] def aJk {k:IntKind}{a b:Int}:fk .mul (.d (.int k a)) (.d (.int k b))=some (.int k (wr k (a*b))):=sD axg
@[simp] def aIR {k:IntKind}{a b:Int}(h:b≠0):fk .quo (.d (.int k a)) (.d (.int k b))=some (.int k (wr k (a.tdiv b))):=sD (awS h)
@[simp] def aIu {k:IntKind}{a b:Int}(h:b≠0):fk .rem (.d (.int k a)) (.d (.int k b))=some (.int k (a.tmod b)):=sD (axQ h)
@[simp] def aI5 {k:IntKind}{a b:Int}:fk .eql (.d (.int k a)) (.d (.int k b))=if a=b then some (.bool true) else some (.bool false):=BG awU
@[simp] def aIo {k:IntKind}{a b:Int}:fk .neq (.d (.int k a)) (.d (.int k b))=if a=b then some (.bool false) else some (.bool true):=BG ay3
@[simp] def aIS {k:IntKind}{a b:Int}:fk .lss (.d (.int k a)) (.d (.int k b))=if a<b then some (.bool true) else some (.bool false):=BG awT
@[simp] def aJf {k:IntKind}{a b:Int}:fk .leq (.d (.int k a)) (.d (.int k b))=if a<=b then some (.bool true) else some (.bool false):=BG azd
@[simp] def aIH {k:IntKind}{a b:Int}:fk .gtr (.d (.int k a)) (.d (.int k b))=if b<a then some (.bool true) else some (.bool false):=BG ayp
@[simp] def aJc {k:IntKind}{a b:Int}:fk .geq (.d (.int k a)) (.d (.int k b))=if b<=a then some (.bool true) else some (.bool false):=BG ax7
@[simp] def sP {k j:IntKind}{a b:Int}(h:0<=b):fk .shl (.d (.int k a)) (.d (.int j b))=some (.int k (wr k (a*((2 ^ (min b.toNat k.bits):Nat):Int)))):=sD (aze h)
@[simp] def lN {k j:IntKind}{a b:Int}(h:0<=b):fk .shr (.d (.int k a)) (.d (.int j b))=some (.int k (a.fdiv ((2 ^ (min b.toNat k.bits):Nat):Int))):=sD (azi h)
@[simp] def aHS {a b:AG_}:fk .eql (.d (.str a)) (.d (.str b))=if a=b then some (.bool true) else some (.bool false):=BG atp
@[simp] def aHO {a b:AG_}:fk .neq (.d (.str a)) (.d (.str b))=if a=b then some (.bool false) else some (.bool true):=BG asU
def anF {k:IntKind}{a b:Nat}(h:a<km k)(h2:b<km k)(h3:a |||b<km k):fk .or (.d (.int k (a:Int))) (.d (.int k (b:Int)))=some (.int k ((a |||b:Nat):Int)):=sD (aBL h h2 h3)
def ary {k:IntKind}{a b:Nat}(h:a<km k)(h2:b<km k):fk .and (.d (.int k (a:Int))) (.d (.int k (b:Int)))=some (.int k ((a &&& b:Nat):Int)):=sD (axU h h2)
def aBt {k:IntKind}{a b:Nat}(h:a<km k)(h2:b<km k)(h3:a ^^^ b<km k):fk .xor (.d (.int k (a:Int))) (.d (.int k (b:Int)))=some (.int k ((a ^^^ b:Nat):Int)):=sD (axH h h2 h3)
def aqm {n b:Nat}(h:b<=1):2*n |||b=2*n+b:=by
 have:=ki (i:=1) (b:=b) o_ n;simpa using this.symm
@[simp] def aI8 {a b:Int}(h:0<=a)(h1:a<4611686018427387904)(h2:a % 2=0)(h3:0<=b)(h4:b<=1):fk .or (A_ a) (A_ b)=some (.int .i64 (a+b)):=by
 obtain⟨n,rfl⟩:∃n:Nat,a=((2*n:Nat):Int):=⟨(a / 2).toNat,o_⟩
 obtain⟨m,rfl⟩:=aB h3;have hm:m<=1:=o_;have ht:km .i64=9223372036854775808:=rfl;rw[anF o_ o_ (by rw[aqm hm];omega),aqm hm];simp
@[simp] def aHM {b:Bool}:unD .not (B_ b)=some (.bool !b):=(rfl)
@[simp] def aHU {k:IntKind}{n:Int}:unD .neg (.d (.int k n))=some (.int k (wr k (0-n))):=(rfl)
@[simp] def aHF {k j:IntKind}{n:Int}:Zg k (.d (.int j n))=some (.int k (wr k n)):=(rfl)
attribute [simp] ahT aCj aBI aAG azY
attribute [simp] as9 atG asM arl IntKind.bits
@[simp] def aHR {h:am}{m:Nat}{xs:E_}{k:IntKind}{i:Int}(h0:0<=i):iaV h m (.d (.lst xs)) (.d (.int k i))=bA xs[i.toNat]? λx=>if x.length=m then some (.pim x 0) else none:=by
 simp only[iaV,UN h0,elems]
 cases xs[i.toNat]? with
 |none=>rfl
 |some x =>
  simp only[bA];by_cases hx:x.length=m
  .simp[hx]
  .simp[hx,abz]
@[simp] def aIy {h:am}{m j:Nat}{xs:E_}{k:IntKind}{i:Int}(h0:0<=i):iaV h m (.own false j xs) (.d (.int k i))=bA xs[i.toNat]? λx=>if x.length=m then some (.pim x 0) else none:=by
 simp only[iaV,UN h0,elems]
 cases xs[i.toNat]? with
 |none=>rfl
 |some x =>
  simp only[bA];by_cases hx:x.length=m
  .simp[hx]
  .simp[hx,abz]
attribute [simp] IX avr aqX
@[simp] def aIa {h:am}{n:I_}{cs:W_}{o:Nat}:fg h n (.pim cs o)=pe n cs o:=by
 simp only[fg,loadAt];cases pe n cs o<;>rfl
@[simp] def aGm {cs:W_}{o:Nat}:pe none cs o=(cs[o]?).map .d:=by simp only[pe];cases cs[o]?<;>rfl
@[simp] def aGf {cs:W_}{n o:Nat}:pe (some n) cs o=if o+n<=cs.length then some (.agg ((sub cs o n).map .d)) else none:=by
 by_cases h:o+n<=cs.length<;>simp[pe,acF,h]
@[simp] def gq0 {α:Type}{x:α}{r:List α}:(x::r)[0]?=some x:=(rfl)
@[simp] def aGD {f:FuncId}{vs:D_}{h:am}:fc (Dn P) f vs h=bA (viewArgs h vs) λds=>bA (bj P f ds) λv=>if vs.any ug=false then some v else if jX v=true then some v else some (OT v):=by
 simp only[fc,bj,uA,bA]
 cases viewArgs h vs with
 |none=>rfl
 |some ds =>
  simp only
  cases (Dn P).call f ds ⟨[],0⟩ with
  |none=>rfl
  |some q =>
   obtain⟨v,h2⟩:=q;simp only
   cases ig h2.heap v with
   |none=>rfl
   |some v =>
    simp only
    cases vs.any ug with
    |false=>rfl
    |true=>simp only;cases jX v<;>rfl
@[simp] def aHK {x:D}:share (.d x)=.d x:=(rfl)
@[simp] def aFL  : share (.nl)=.nl:=(rfl)
@[simp] def aD1 {m:Nat}{xs:E_}:share (.own false m xs)=.d (.lst xs):=(rfl)
@[simp] def aEJ {cs:D_}:share (.agg cs)=.agg (shareAll cs):=(rfl)
@[simp] def aFa {cs:D_}:share (.tup cs)=.tup (shareAll cs):=(rfl)
@[simp] def aE7 {a b:Nat}:share (.ptr a b)=.ptr a b:=(rfl)
@[simp] def aD7 {a b c:Nat}:share (.pel a b c)=.pel a b c:=(rfl)
@[simp] def aEC {cs:W_}{b:Nat}:share (.pim cs b)=.pim cs b:=(rfl)
@[simp] def aFS {a b c:Nat}:share (.sl a b c)=.sl a b c:=(rfl)
@[simp] def aG6 {f:FuncId}{a b:D_}:share (.fn f a b)=.fn f a b:=(rfl)
@[simp] def aCd {n:Nat}:share (.yield n)=.yield n:=(rfl)
@[simp] def aCO  : shareAll []=[]:=(rfl)
@[simp] def aCn {v:AV}{r:D_}:shareAll (v::r)=share v::shareAll r:=(by rw[qn])
@[simp] def aH4 {x:D}:ot (.d x)=.d x:=(rfl)
@[simp] def aHw {x:D}:CA (.d x)=.d x:=(rfl)
@[simp] def aHN {x:D}:AV.cells (.d x)=[.d x]:=(rfl)
@[simp] def aGY {x:D}:br (.d x)=true:=(rfl)
@[simp] def aGu {x:D}:Gc (.d x)=br (.d x):=(rfl)
@[simp] def aI2 {x:D}:wd (.d x)=false:=(rfl)
@[simp] def aHL {x:D}:ug (.d x)=false:=(rfl)
@[simp] def aGn {x:D}:n9 (.d x)=.d x:=(rfl)
@[simp] def aFl {x:D}:qL (.d x)=.d x:=(rfl)
@[simp] def aF7 {x:D}:qD (.d x)=.d x:=(rfl)
@[simp] def aHc  : ot (.nl)=.nl:=(rfl)
@[simp] def aGr  : CA (.nl)=.nl:=(rfl)
@[simp] def aGa  : AV.cells (.nl)=[.nl]:=(rfl)
@[simp] def aE4  : br (.nl)=true:=(rfl)
@[simp] def aH5  : wd (.nl)=false:=(rfl)
@[simp] def aFt  : ug (.nl)=false:=(rfl)
@[simp] def aEr  : jC (.nl)=true:=(rfl)
@[simp] def aD9  : lM (.nl)=true:=(rfl)
@[simp] def aEF  : jX (.nl)=true:=(rfl)
@[simp] def aEN  : n9 (.nl)=.nl:=(rfl)
@[simp] def aFb  : qL (.nl)=.nl:=(rfl)
@[simp] def aEj  : qD (.nl)=.nl:=(rfl)
@[simp] def aEU {p:Bool}{m:Nat}{xs:E_}:ot (.own p m xs)=.own false m xs:=(rfl)
@[simp] def aEV {p:Bool}{m:Nat}{xs:E_}:CA (.own p m xs)=.own false m xs:=(rfl)
@[simp] def aEh {p:Bool}{m:Nat}{xs:E_}:AV.cells (.own p m xs)=[.own p m xs]:=(rfl)
@[simp] def aDu {p:Bool}{m:Nat}{xs:E_}:br (.own p m xs)=!p:=(rfl)
@[simp] def aGE {p:Bool}{m:Nat}{xs:E_}:wd (.own p m xs)=false:=(rfl)
@[simp] def aE3 {p:Bool}{m:Nat}{xs:E_}:ug (.own p m xs)=false:=(rfl)
@[simp] def aEv {cs:D_}:CA (.agg cs)=.agg (cs.map ot):=(rfl)
@[simp] def aEp {cs:D_}:AV.cells (.agg cs)=cs:=(rfl)
@[simp] def aE1 {cs:D_}:ug (.agg cs)=cs.any wd:=(rfl)
@[simp] def aEt {cs:D_}:AV.cells (.tup cs)=[.tup cs]:=(rfl)
@[simp] def aET {a b:Nat}:AV.cells (.ptr a b)=[.ptr a b]:=(rfl)
@[simp] def aDn {a b:Nat}:br (.ptr a b)=true:=(rfl)
@[simp] def aEw {a b:Nat}:GE (.ptr a b)=some (.ptr a b):=(rfl)
@[simp] def aFZ {a b c:Nat}:ot (.sl a b c)=.sl a b c:=(rfl)
@[simp] def aGF {a b c:Nat}:CA (.sl a b c)=.sl a b c:=(rfl)
@[simp] def aGc {a b c:Nat}:AV.cells (.sl a b c)=[.sl a b c]:=(rfl)
@[simp] def aEA {a b c:Nat}:Gc (.sl a b c)=br (.sl a b c):=(rfl)
@[simp] def aHB {a b c:Nat}:wd (.sl a b c)=true:=(rfl)
@[simp] def aF8 {f:FuncId}{a b:D_}:AV.cells (.fn f a b)=[.fn f a b]:=(rfl)
@[simp] def aEo {xs:E_}:lenOf (.d (.lst xs))=some xs.length:=(rfl)
@[simp] def aGk  : lenOf .nl=some 0:=(rfl)
@[simp] def aEQ {p:Bool}{m:Nat}{xs:E_}:lenOf (.own p m xs)=some xs.length:=(rfl)
@[simp] def aFD {a b n:Nat}:lenOf (.sl a b n)=some n:=(rfl)
@[simp] def arH {h:am}{xs:E_}:elems h (.d (.lst xs))=some xs:=(rfl)
@[simp] def aEX {h:am}{m:Nat}{xs:E_}:elems h (.own false m xs)=some xs:=(rfl)
@[simp] def aDf {o a b:Nat}:iA o (.ptr a b)=some (.ptr a (b+o)):=(rfl)
@[simp] def aCD {o b:Nat}{cs:W_}:iA o (.pim cs b)=some (.pim cs (b+o)):=(rfl)
@[simp] def aIK {cs:D_}{i:Nat}:A9 true (.tup cs) i=cs[i]?:=(by simp only[A9];cases cs[i]?<;>rfl)
@[simp] def aIz {cs:D_}{i:Nat}:A9 false (.tup cs) i=(cs[i]?).map share:=(by simp only[A9];cases cs[i]?<;>rfl)
@[simp] def aJl {cs:D_}{i:Nat}:OA (.tup cs) i=.tup (cs.set i .junk):=(rfl)
@[simp] def aJT {x:D}:toD (.d x)=some x:=(rfl)
@[simp] def aI9  : toD .nl=some (.lst []):=(rfl)
@[simp] def aHl {m:Nat}{xs:E_}:toD (.own false m xs)=some (.lst xs):=(rfl)
@[simp] def aIF  : mI []=some []:=(rfl)
@[simp] def aId {v:AV}{r:D_}:mI (v::r)=bA (toD v) λx=>bA (mI r) λxs=>some (x::xs):=(by
 simp only[mI]
 cases toD v with
 |none=>rfl
 |some q=>simp only[bA];cases mI r<;>rfl)
@[simp] def aD5 {m:Nat}:j7 m []=some []:=(rfl)
@[simp] def aEK {m:Nat}{v:AV}{r:D_}:j7 m (v::r)=if v.cells.length=m then bA (mI v.cells) λx=>bA (j7 m r) λxs=>some (x::xs) else none:=(by
 by_cases h:v.cells.length=m
 .simp only[j7,abz,h,decide_true,bh]
  cases mI v.cells with
  |none=>rfl
  |some q=>simp only[bA];cases j7 m r<;>rfl
 .simp only[j7,abz,h,decide_false,bl])
@[simp] def aCc {cs:D_}:eu cs []=some cs:=(rfl)
@[simp] def aB3 {cs:D_}{o n:Nat}{v:AV}{r:List (Nat×Nat×AV)}:eu cs ((o,n,v)::r)=if v.cells.length=n∧Gc v=true∧o+n<=cs.length then eu (aI cs o v.cells) r else none:=(by
 simp only[eu,abz,acF];by_cases h:v.cells.length=n<;>by_cases h2:Gc v=true<;>by_cases h3:o+n<=cs.length<;>simp[h,h2,h3])
def Pv {α:Type}{cs vs:List α}{o:Nat}:aI cs o vs=cs.take o++vs++cs.drop (o+vs.length):=(rfl)
attribute [simp] Pv
def apa {α:Type}{cs:List α}{o n:Nat}:sub cs o n=(cs.drop o).take n:=(rfl)
attribute [simp] apa
@[simp] def aEO {h:am}{x:D}:viewOne h (.d x)=some (.d x):=(rfl)
@[simp] def aDM {h:am}:viewOne h .nl=some .nl:=(rfl)
@[simp] def aB7 {h:am}{m:Nat}{xs:E_}:viewOne h (.own false m xs)=some (.d (.lst xs)):=(rfl)
@[simp] def aCM {h:am}{a b c:Nat}:viewOne h (.sl a b c)=bA (elems h (.sl a b c)) λxs=>some (.d (.lst xs)):=(by simp only[viewOne];cases elems h (.sl a b c)<;>rfl)
@[simp] def aEM {h:am}:viewAll h []=some []:=(rfl)
@[simp] def aES {h:am}{v:AV}{r:D_}:viewAll h (v::r)=bA (viewOne h v) λx=>bA (viewAll h r) λxs=>some (x::xs):=(by
 simp only[viewAll]
 cases viewOne h v with
 |none=>rfl
 |some q=>simp only[bA];cases viewAll h r<;>rfl)
@[simp] def aFc {h:am}{x:D}:viewArg h (.d x)=viewOne h (.d x):=(rfl)
@[simp] def aDx {h:am}  : viewArg h (.nl)=viewOne h (.nl):=(rfl)
@[simp] def aCb {h:am}{p:Bool}{m:Nat}{xs:E_}:viewArg h (.own p m xs)=viewOne h (.own p m xs):=(rfl)
@[simp] def aB9 {h:am}{cs:D_}:viewArg h (.agg cs)=bA (viewAll h cs) λxs=>some (.agg xs):=(by simp only[viewArg];cases viewAll h cs<;>rfl)
@[simp] def aDR {h:am}:viewArgs h []=some []:=(rfl)
@[simp] def aC0 {h:am}{v:AV}{r:D_}:viewArgs h (v::r)=bA (viewArg h v) λx=>bA (viewArgs h r) λxs=>some (x::xs):=(by
 simp only[viewArgs]
 cases viewArg h v with
 |none=>rfl
 |some q=>simp only[bA];cases viewArgs h r<;>rfl)
@[simp] def aGb {h:am}{x:D}:jU h (.d x)=some (.d x,h):=(rfl)
@[simp] def aEm {h:am}:jU h .nl=some (.nl,h):=(rfl)
@[simp] def aDP {h:am}{p:Bool}{m:Nat}{xs:E_}:jU h (.own p m xs)=some (.own p m xs,h):=(rfl)
@[simp] def aGP {h:am}:sF h []=some ([],h):=(rfl)
@[simp] def aGT {h:am}{v:AV}{r:D_}:sF h (v::r)=bP (jU h v) λx h=>bP (sF h r) λxs h=>some (x::xs,h):=(by simp only[sF];cases jU h v with
 |none=>rfl
 |some q=>simp only[bP];cases sF q.2 r<;>rfl)
@[simp] def aCo {h:am}{cs:D_}:gg h (.agg cs)=bP (sF h cs) λxs h=>some (.agg xs,h):=(by simp only[gg];cases sF h cs<;>rfl)
@[simp] def aG9 {h:am}{x:D}:gg h (.d x)=jU h (.d x):=(rfl)
@[simp] def aER {h:am}  : gg h (.nl)=jU h (.nl):=(rfl)
@[simp] def aDg {h:am}{p:Bool}{m:Nat}{xs:E_}:gg h (.own p m xs)=jU h (.own p m xs):=(rfl)
@[simp] def aE6 {h:am}{a b c:Nat}:gg h (.sl a b c)=jU h (.sl a b c):=(rfl)
@[simp] def aE9 {h:am}:tJ h []=some ([],h):=(rfl)
@[simp] def aEL {h:am}{v:AV}{r:D_}:tJ h (v::r)=bP (gg h v) λx h=>bP (tJ h r) λxs h=>some (x::xs,h):=(by simp only[tJ];cases gg h v with
 |none=>rfl
 |some q=>simp only[bP];cases tJ q.2 r<;>rfl)
@[simp] def aaG {h:am}{cs:D_}:ig h (.tup cs)=bP (tJ h cs) λxs _=>some (iU (.tup xs)):=(by simp only[ig];cases tJ h cs<;>rfl)
@[simp] def aGB {h:am}{x:D}:ig h (.d x)=bP (gg h (.d x)) λx _=>some (iU x):=(by simp only[ig];cases gg h (.d x)<;>rfl)
@[simp] def aEH {h:am}  : ig h (.nl)=bP (gg h (.nl)) λx _=>some (iU x):=(by simp only[ig];cases gg h (.nl)<;>rfl)
@[simp] def aCk {h:am}{p:Bool}{m:Nat}{xs:E_}:ig h (.own p m xs)=bP (gg h (.own p m xs)) λx _=>some (iU x):=(by simp only[ig];cases gg h (.own p m xs)<;>rfl)
@[simp] def aDO {h:am}{cs:D_}:ig h (.agg cs)=bP (gg h (.agg cs)) λx _=>some (iU x):=(by simp only[ig];cases gg h (.agg cs)<;>rfl)
@[simp] def aEi {h:am}{a b c:Nat}:ig h (.sl a b c)=bP (gg h (.sl a b c)) λx _=>some (iU x):=(by simp only[ig];cases gg h (.sl a b c)<;>rfl)
@[simp] def aEg {v:AV}:iU v=if jX v=true then qD v else v:=(by simp only[iU];cases jX v<;>rfl)
@[simp] def aGe {x:D}:jC (.d x)=mw x:=(rfl)
@[simp] def aDs {p:Bool}{m:Nat}{xs:E_}:jC (.own p m xs)=xs.all λe=>e.all mw:=(rfl)
@[simp] def aEd {k:IntKind}{n:Int}:mw (.int k n)=true:=(rfl)
@[simp] def aDJ {b:Bool}:mw (.bool b)=true:=(rfl)
@[simp] def aEn {xs:E_}:mw (.lst xs)=false:=(rfl)
@[simp] def aDZ {cs:D_}:lM (.agg cs)=cs.all jC:=(rfl)
@[simp] def aGS {x:D}:lM (.d x)=mw x:=(rfl)
@[simp] def aCY {p:Bool}{m:Nat}{xs:E_}:lM (.own p m xs)=xs.all λe=>e.all mw:=(rfl)
@[simp] def aDA {cs:D_}:jX (.agg cs)=cs.all jC:=(rfl)
@[simp] def aGW {x:D}:jX (.d x)=mw x:=(rfl)
@[simp] def aCF {p:Bool}{m:Nat}{xs:E_}:jX (.own p m xs)=xs.all λe=>e.all mw:=(rfl)
@[simp] def aCJ {cs:D_}:jX (.tup cs)=cs.all lM:=(rfl)
@[simp] def aDU {p:Bool}{m:Nat}{xs:E_}:n9 (.own p m xs)=.own true m xs:=(rfl)
@[simp] def aDN {p:Bool}{m:Nat}{xs:E_}:qL (.own p m xs)=.own true m xs:=(rfl)
@[simp] def aCN {p:Bool}{m:Nat}{xs:E_}:qD (.own p m xs)=.own true m xs:=(rfl)
@[simp] def aDl {cs:D_}:qL (.agg cs)=.agg (cs.map n9):=(rfl)
@[simp] def aCf {cs:D_}:qD (.agg cs)=.agg (cs.map n9):=(rfl)
@[simp] def aDm {cs:D_}:qD (.tup cs)=.tup (cs.map qL):=(rfl)
@[simp] def aH9 {i:Nat}:kp i []=[]:=(rfl)
@[simp] def aHP {i:Nat}{v:AV}{r:D_}:kp i (v::r)=(i,v)::kp (i+1) r:=by
 have h:∀(i:Nat) (r:D_),put (kp (i+1) r) i v=(i,v)::kp (i+1) r:=λi r=>by
  have:∃q,kp (i+1) r=q∧∀p∈q,Nat.blt i p.1=true:=⟨_,rfl,by
   have aux:∀(r:D_) (j:Nat),i<j->∀p∈kp j r,Nat.blt i p.1=true:=by
    intro r
    induction r with
    |nil=>intro j hj p hp;simp[kp]at hp
    |cons w r ih =>
     intro j hj p hp;simp only[kp]at hp;rcases aby hp with rfl|hp
     .rw[Nat.blt,bn];exact hj
     .exact ih (j+1) o_ p hp
   exact aux r (i+1) o_⟩
  obtain⟨q,hq,hp⟩:=this;rw[hq]
  cases q with
  |nil=>rfl
  |cons p q =>
   obtain⟨k,u⟩:=p;have hk:i<k:=by have:=hp _ (.head _);rw[Nat.blt,bn]at this;exact this
   rw[xV,aa o_,ac o_]
 exact h i r
@[simp] def aE8 {st:St}:fT st []=some ([],st):=(rfl)
def ava (x:M_)(t:Nat)(st:St)(r:BB_):Option (D_×St) :=
 match x with
 |some v=>bP (fT ⟨del st.env t,st.hs⟩ r) λvs st=>some (v::vs,st)
 |none=>none
@[simp] def aEW {t:Nat}{st:St}{r:BB_}:fT st (.tmp t::r)=ava (get st.env t) t st r:=(by
 simp only[fT,ava]
 cases get st.env t with
 |none=>rfl
 |some v=>simp only;cases fT ⟨del st.env t,st.hs⟩ r<;>rfl)
@[simp] def aJm {v:AV}{t:Nat}{e:aW}{hs:HS}{r:BB_}:ava (some v) t ⟨e,hs⟩ r=bP (fT ⟨del e t,hs⟩ r) λvs st=>some (v::vs,st):=(rfl)
def ato (x:M_)(t:Nat)(n:I_)(st:St)(r:BB_):Option (D_×St) :=
 match x with
 |some (.ptr id 0)=>bP (loadAt st.hs.heap n 1 (.ptr id 0)) λv h=>bP (fT ⟨del st.env t,⟨del h id,st.hs.next⟩⟩ r) λvs st=>some (v::vs,st)
 |_=>none
@[simp] def aD8 {t:Nat}{n:I_}{st:St}{r:BB_}:fT st (.cell t n::r)=ato (get st.env t) t n st r:=(by
 simp only[fT,ato]
 cases get st.env t with
 |none=>rfl
 |some v =>
  cases v<;>try rfl
  rename_i id off
  cases off with
  |succ k=>rfl
  |zero =>
   simp only
   cases loadAt st.hs.heap n 1 (.ptr id 0) with
   |none=>rfl
   |some q=>simp only[bP];cases fT _ r<;>rfl)
@[simp] def aJb {id t:Nat}{n:I_}{e:aW}{hs:HS}{r:BB_}:ato (some (.ptr id 0)) t n ⟨e,hs⟩ r=bP (loadAt hs.heap n 1 (.ptr id 0)) λv h=>bP (fT ⟨del e t,⟨del h id,hs.next⟩⟩ r) λvs st=>some (v::vs,st):=(rfl)
def arn {l:G_}:((aH l).all λe=>e.all mw)=true:=by simp[aH]
def aro {l:C_}:((ai l).all λe=>e.all mw)=true:=by simp[ai]
def apL {l:U_}:((UO l).all λe=>e.all mw)=true:=by simp[UO]
attribute [simp] arn aro apL
attribute [simp] are
attribute [simp] azL azs az0 aBs
variable {P:Nat->Z_}{l:T_}{e:aW}{h:am}{m d s:Nat}{op:oP}{hs:HS}{β:Type}{k:AV->aW->HS->Option β}
abbrev V (d:Nat)(op:oP):VI:=⟨some d,none,op,[]⟩
abbrev N (op:oP):VI:=⟨none,none,op,[]⟩
abbrev W (s d:Nat)(op:oP):VI:=⟨some d,some (s,true),op,[]⟩
abbrev U (s d:Nat)(op:oP):VI:=⟨some d,some (s,false),op,[]⟩
def ayZ {e e2:aW}{hs hs2:HS}(h:e=e2)(h2:hs=hs2):qi P l e hs=qi P l e2 hs2:=by rw[h,h2]
attribute [congr] ayZ
@[simp ↓ low] def aEy {i:VI}:(Dn P).code (.reg false (i::l)) ⟨e,hs⟩=ft (qi P (i::l) e hs):=Gk rfl
@[simp ↓ low] def aD4 {i:VI}:(Dn P).code (.reg true (i::l)) ⟨e,hs⟩=ft (qi P (i::l) e hs):=Gk rfl
@[simp] def aIc:qi P [] e hs=some ⟨e,hs⟩:=(rfl)
@[simp] def aIQ:qi P (⟨some d,none,op,[]⟩::l) e hs=bQ P op e hs λv e hs=>qi P l (put e d (firm v)) hs:=(rfl)
@[simp] def aIg:qi P (⟨none,none,op,[]⟩::l) e hs=bQ P op e hs λ_ e hs=>qi P l e hs:=(rfl)
@[simp] def aII {t:Nat×Nat}{th:R_}:qi P (⟨some d,none,op,t::th⟩::l) e hs=bQ P op e hs λv e hs=>lP (d8 (t::th) v hs) λv hs=>qi P l (put e d (firm v)) hs:=(rfl)
def wK {β:Type}(a b:Bool)(x y z:Option β):Option β :=
 match a with
 |true=>x
 |false=>match b with
  |true=>y
  |false=>z
@[simp ↓] def aKd {b:Bool}{x y z:Option β}:wK true b x y z=x:=(rfl)
@[simp ↓] def aKn {x y z:Option β}:wK false true x y z=y:=(rfl)
@[simp ↓] def aKi {x y z:Option β}:wK false false x y z=z:=(rfl)
def aC5 {a a2 b b2:Bool}{x y z:Option β}(h:a=a2)(h2:b=b2):wK a b x y z=wK a2 b2 x y z:=by rw[h,h2]
attribute [congr] aC5
@[simp] def aIb {w:Bool}:qi P (⟨some d,some (s,w),op,[]⟩::l) e hs=wK (dE op) (zW op)
  (bA (get e s) λg=>bA (gV g w (bQ P op e hs λv _ _=>some v)) λv=>qi P l (put e d (firm v)) hs)
  (bA (get e s) λg=>bP (gH g w hs (bQ P op e hs λv _ hs=>some (v,hs))) λv hs=>qi P l (put e d (firm v)) hs)
  (bA (cY (Dn P) ⟨some d,some (s,w),op,[]⟩ ⟨e,hs⟩) λst=>qi P l st.env st.hs):=by
 simp only[qi,VZ,wK]
 cases dE op<;>cases zW op<;>(try rfl)<;>(cases get e s<;>rfl)
@[simp] def aJI {i:Nat}:bK (.s i)=true:=(rfl)
@[simp] def aJK {a:AV}:bK (.c a)=true:=(rfl)
@[simp] def aI4:im []=true:=(rfl)
@[simp] def aIO {x:Rd}{r:V_}:im (x::r)=(bK x && im r):=(rfl)
@[simp] def aJA:DD none=true:=(rfl)
@[simp] def aJ1 {x:Rd}:DD (some x)=bK x:=(rfl)
@[simp] def aIt {x:Rd}:dE (.mov x)=bK x:=(rfl)
@[simp] def aJt {x:Rd}{n:I_}:dE (.ld n 0 x)=bK x:=(rfl)
@[simp] def aIB {x:Rd}:dE (.nilck x)=bK x:=(rfl)
@[simp] def aJe {x y:Rd}{o:BinOp}:dE (.bin o x y)=(bK x && bK y):=(rfl)
@[simp] def aHj {x y:Rd}{o:Bool}:dE (.binb o x y)=(bK x && bK y):=(rfl)
@[simp] def aJQ {x:Rd}{o:UnOp}:dE (.un o x)=bK x:=(rfl)
@[simp] def aHf {x:Rd}{o:IntKind}:dE (.conv o x)=bK x:=(rfl)
@[simp] def aJD {x:Rd}{o:Nat}:dE (.fa o x)=bK x:=(rfl)
@[simp] def aJx {x y:Rd}{o:Nat}:dE (.ia o x y)=(bK x && bK y):=(rfl)
@[simp] def aHD {x y:Rd}{o n:Nat}:dE (.iarr o n x y)=(bK x && bK y):=(rfl)
@[simp] def aIe {x:Rd}:dE (.len x)=bK x:=(rfl)
@[simp] def aHr {f:FuncId}{xs:V_}:dE (.call f xs)=im xs:=(rfl)
@[simp] def aH0 {c x y:Rd}:dE (.pick c x y)=(bK c && bK x && bK y):=(rfl)
@[simp] def aFk {z:D_}{ps:AC_}:dE (.build z ps)=im (qo ps):=(rfl)
@[simp] def aJg {x:Rd}:dE (.toStr x)=bK x:=(rfl)
@[simp] def aHQ {f:FuncId}{xs ys:V_}:dE (.mkfn f xs ys)=(im xs && im ys):=(rfl)
@[simp] def aI0 {m:Nat}{x:Rd}{a b c:AB_}:dE (.slice m x a b c)=(bK x && (DD a && (DD b && DD c))):=(rfl)
@[simp] def aGU {f:FuncId}{xs:V_}:dE (.calli f xs)=false:=(rfl)
@[simp] def aG3 {x:Rd}{xs:V_}:dE (.callv x xs)=false:=(rfl)
@[simp] def aI6 {n:Nat}{xs:V_}:dE (.mks n xs)=false:=(rfl)
@[simp] def aFJ {f:FuncId}{xs:V_}:zW (.calli f xs)=im xs:=(rfl)
@[simp] def aGL {x:Rd}{xs:V_}:zW (.callv x xs)=(bK x && im xs):=(rfl)
@[simp] def aIE {n:Nat}{xs:V_}:zW (.mks n xs)=false:=(rfl)
attribute [simp] qo uB
def LG {γ:Type}(c:Prop)[Decidable c](a b:γ):γ:=if c then a else b
def ay1 {γ:Type}{c d:Prop}[Decidable c][i:Decidable d]{a b:γ}(h:c=d):LG c a b=@LG γ d i a b:=by subst h;congr
attribute [congr] ay1
@[simp ↓] def aJi {γ:Type}{i:Decidable True}{a b:γ}:@LG γ True i a b=a:=by simp only[LG,bh]
@[simp ↓] def aI3 {γ:Type}{i:Decidable False}{a b:γ}:@LG γ False i a b=b:=by simp only[LG,bl]
@[simp high] def aJ7 {k i:Nat}{v:AV}{r:aW}:get ((k,v)::r) i=LG (k=i) (some v) (get r i):=aBl
@[simp high] def aKb {k i:Nat}{v x:AV}{r:aW}:put ((k,v)::r) i x=LG (k=i) ((i,x)::r) (LG (i<=k) ((i,x)::(k,v)::r) ((k,v)::put r i x)):=put1
@[simp high] def aKa {k i:Nat}{v:AV}{r:aW}:del ((k,v)::r) i=LG (k=i) (del r i) ((k,v)::del r i):=azp
variable {f:AV->aW->Option β}{x:Rd}
@[simp ↓] def aJ0 {i:Nat}:cG e (.s i) f=bA (get e i) λv=>f (share v) e:=by
 simp only[cG,rd,bA];cases get e i<;>rfl
@[simp ↓] def aJo {i:Nat}:cG e (.m i) f=bA (get e i) λv=>f v (del e i):=by
 simp only[cG,rd,bA];cases get e i<;>rfl
@[simp ↓] def aJs {a:AV}:cG e (.c a) f=f a e:=(rfl)
@[simp ↓] def aIC {f:D_->aW->Option β}:lh e [] f=f [] e:=(rfl)
@[simp ↓] def aIr {r:V_}{f:D_->aW->Option β}:lh e (x::r) f=cG e x λv e=>lh e r λvs e=>f (v::vs) e:=(rfl)
@[simp ↓] def aIk {f:M_->aW->Option β}:nA e none f=f none e:=(rfl)
@[simp ↓] def aJn {f:M_->aW->Option β}:nA e (some x) f=cG e x λv e=>f (some v) e:=(rfl)
@[simp ↓] def aHm:bQ P (.mov x) e hs k=cG e x λv e=>k v e hs:=(rfl)
def Nr (e:aW):Rd->M_
 |.c v=>some v
 |.m i=>get e i
 |.s i=>match get e i with
  |some v=>some (share v)
  |none=>none
def pkV {β:Type}(c:AV)(a b:Rd)(x y:M_)(e:aW)(hs:HS)(k:AV->aW->HS->Option β):Option β :=
 match x,y with
 |some a,some b=>bA (Uq c a b) λv=>k v e hs
 |_,_=>bP (lH (.c c) a b ⟨e,hs⟩) λv st=>k v st.env st.hs
@[simp ↓] def aJN {c v w:AV}{a b:Rd}:pkV c a b (some v) (some w) e hs k=bA (Uq c v w) λv=>k v e hs:=(rfl)
def azF {c:AV}{a b:Rd}{x x2 y y2:M_}(h:x=x2)(h2:y=y2):pkV c a b x y e hs k=pkV c a b x2 y2 e hs k:=by rw[h,h2]
attribute [congr] azF
@[simp] def aJW {v:AV}:Nr e (.c v)=some v:=(rfl)
@[simp] def aJU {i:Nat}:Nr e (.s i)=bA (get e i) λv=>some (share v):=by
 simp only[Nr,bA];cases get e i<;>rfl
def aiR {c a b:Rd}(ha:bK a=true)(hb:bK b=true):bQ P (.pick c a b) e hs k=cG e c λc e=>pkV c a b (Nr e a) (Nr e b) e hs k:=by
 simp only[bQ,ha,hb,Bool.and_self]
 congr 1
 funext c e;have h1:∀x,bK x=true->rd e x=(Nr e x).map λv=>(v,e):=by
  intro x hx
  cases x with
  |c=>rfl
  |m=>cases hx
  |s i=>simp only[rd,Nr];cases get e i<;>rfl
 rw[h1 a ha,h1 b hb]
 cases Nr e a<;>cases Nr e b<;>rfl
@[simp ↓] def aHX {c:Rd}{i:Nat}{y:AV}:bQ P (.pick c (.s i) (.c y)) e hs k=cG e c λc e=>pkV c (.s i) (.c y) (Nr e (.s i)) (Nr e (.c y)) e hs k:=aiR rfl rfl
@[simp ↓] def aHt {c:Rd}{i:Nat}{y:AV}:bQ P (.pick c (.c y) (.s i)) e hs k=cG e c λc e=>pkV c (.c y) (.s i) (Nr e (.c y)) (Nr e (.s i)) e hs k:=aiR rfl rfl
@[simp ↓] def aE5 {zs:D_}:bQ P (.alloc zs) e ⟨h,m⟩ k=lA (put h m (.cells zs)) λh=>k (.ptr m 0) e ⟨h,m+1⟩:=(rfl)
@[simp ↓] def aHd:bQ P (.box x) e ⟨h,m⟩ k=cG e x λv e=>dO ((AV.cells v).all br) (lA (put h m (.cells (AV.cells v))) λh=>k (.ptr m 0) e ⟨h,m+1⟩):=(rfl)
@[simp ↓] def aEE {zs:D_}{ps:AC_}:bQ P (.build zs ps) e hs k=lh e (qo ps) λvs e=>bA (eu zs (uB ps vs)) λcs=>k (.agg cs) e hs:=(rfl)
@[simp ↓] def aH6 {j:Nat}{ps:V_}:bQ P (.mks j ps) e hs k=lh e ps λvs e=>bA (j7 j vs) λxs=>k (.own true j xs) e hs:=(rfl)
@[simp ↓] def aFj {j:Nat}{ps:V_}:bQ P (.mksv j ps) e ⟨h,m⟩ k=lh e ps λvs e=>dO (Ll j vs) (lA (put h m (.cells (vs.flatMap AV.cells))) λh=>k (.sl m 0 vs.length) e ⟨h,m+1⟩):=(rfl)
@[simp ↓] def aIN {n:I_}:bQ P (.ld n 0 x) e ⟨h,m⟩ k=cG e x λp e=>bA (fg h n p) λv=>k v e ⟨h,m⟩:=(rfl)
@[simp ↓] def aHy {n:I_}:bQ P (.ld n 1 x) e ⟨h,m⟩ k=cG e x λp e=>bP (loadAt h n 1 p) λv h=>k v e ⟨h,m⟩:=(rfl)
@[simp ↓] def aHq {n:I_}:bQ P (.ld n 2 x) e ⟨h,m⟩ k=cG e x λp e=>bP (loadAt h n 2 p) λv h=>k v e ⟨h,m⟩:=(rfl)
@[simp ↓] def aIM {n:Nat}{y:Rd}:bQ P (.st n x y) e ⟨h,m⟩ k=cG e x λp e=>cG e y λv e=>bA (storeAt h n p v) λh=>k .junk e ⟨h,m⟩:=(rfl)
@[simp ↓] def aD6:bQ P (.nilck x) e hs k=cG e x λv e=>bA (GE v) λv=>k v e hs:=(rfl)
@[simp ↓] def aHn {o:BinOp}{y:Rd}:bQ P (.bin o x y) e hs k=cG e x λa e=>cG e y λb e=>bA (fk o a b) λv=>k (.d v) e hs:=(rfl)
@[simp ↓] def aGA {o:Bool}{y:Rd}:bQ P (.binb o x y) e hs k=cG e x λa e=>cG e y λb e=>bA (agi o a b) λv=>k (.d v) e hs:=(rfl)
@[simp ↓] def aFi {o:Bool}{ks:U_}{y:Rd}:bQ P (.bina o ks x y) e hs k=cG e x λa e=>cG e y λb e=>bA (K5 o ks a b) λv=>k (.d v) e hs:=(rfl)
@[simp ↓] def aIh {o:UnOp}:bQ P (.un o x) e hs k=cG e x λa e=>bA (unD o a) λv=>k (.d v) e hs:=(rfl)
@[simp ↓] def aGI {j:IntKind}:bQ P (.conv j x) e hs k=cG e x λa e=>bA (Zg j a) λv=>k (.d v) e hs:=(rfl)
@[simp ↓] def aEl:bQ P (.toStr x) e ⟨h,m⟩ k=cG e x λa e=>bA (Nc h a) λv=>k (.d v) e ⟨h,m⟩:=(rfl)
@[simp ↓] def aGH {f:FuncId}{a c:V_}:bQ P (.mkfn f a c) e hs k=lh e a λa e=>lh e c λc e=>k (.fn f (shareAll a) (shareAll c)) e hs:=(rfl)
@[simp ↓] def aB8 {z:W_}{y:Rd}:bQ P (.mkslice z x y) e hs k=cG e x λa e=>cG e y λc e=>bA (GB z a c) λv=>k v e hs:=(rfl)
@[simp ↓] def aEB {j:Nat}{lo hi mx:AB_}:bQ P (.slice j x lo hi mx) e ⟨h,m⟩ k=cG e x λx e=>nA e lo λlo e=>nA e hi λhi e=>nA e mx λmx e=>bA (mQ h j x lo hi mx) λv=>k v e ⟨h,m⟩:=(rfl)
@[simp ↓] def aEb {j:Nat}{lo hi mx:AB_}:bQ P (.slarr j x lo hi mx) e ⟨h,m⟩ k=cG e x λx e=>nA e lo λlo e=>nA e hi λhi e=>nA e mx λmx e=>bA (TY h j x lo hi mx) λv=>k v e ⟨h,m⟩:=(rfl)
@[simp ↓] def aIV {o:Nat}:bQ P (.fa o x) e hs k=cG e x λp e=>bA (iA o p) λv=>k v e hs:=(rfl)
@[simp ↓] def aIx {n:Nat}{y:Rd}:bQ P (.ia n x y) e ⟨h,m⟩ k=cG e x λx e=>cG e y λi e=>bA (iaV h n x i) λv=>k v e ⟨h,m⟩:=(rfl)
@[simp ↓] def aGq {a n:Nat}{y:Rd}:bQ P (.iarr a n x y) e hs k=cG e x λp e=>cG e y λi e=>bA (K7 a n p i) λv=>k v e hs:=(rfl)
@[simp ↓] def aJa {a n:Nat}{b:Bool}{y:Rd}:bQ P (.ix a n b x y) e hs k=cG e x λx e=>cG e y λi e=>bA (ixV a n b x i) λv=>k v e hs:=(rfl)
@[simp ↓] def aH3 {y:Rd}:bQ P (.ixs x y) e hs k=cG e x λx e=>cG e y λi e=>bA (aog x i) λv=>k (.d v) e hs:=(rfl)
@[simp ↓] def aGV {j i:Nat}:bQ P (.ext j true i) e hs k=bA (get e j) λt=>bA (A9 true t i) λv=>k v (put e j (OA t i)) hs:=by
 simp only[bQ,bA];cases get e j<;>(try rfl)
@[simp ↓] def aGM {j i:Nat}:bQ P (.ext j false i) e hs k=bA (get e j) λt=>bA (A9 false t i) λv=>k v e hs:=by
 simp only[bQ,bA];cases get e j<;>(try rfl)
@[simp ↓] def aHi:bQ P (.len x) e hs k=cG e x λx e=>bA (lenOf x) λn=>k (.int .i64 (.ofNat n)) e hs:=(rfl)
@[simp ↓] def aHv:bQ P (.cap x) e hs k=cG e x λx e=>dO (ab4 x) (k (.int .i64 (.ofNat 0)) e hs):=(rfl)
@[simp ↓] def aHJ {j:Nat}{y:Rd}:bQ P (.app j x y) e ⟨h,m⟩ k=cG e x λa e=>cG e y λb e=>bP (acr j h a b) λv h=>k v e ⟨h,m⟩:=(rfl)
@[simp ↓] def aG7 {z:W_}{y:Rd}:bQ P (.appz z x y) e ⟨h,m⟩ k=cG e x λa e=>cG e y λn e=>bP (Ie z h a n) λv h=>k v e ⟨h,m⟩:=(rfl)
@[simp ↓] def aHT {j:Nat}{y:Rd}:bQ P (.cpy j x y) e ⟨h,m⟩ k=cG e x λa e=>cG e y λb e=>bP (aiQ j h a b) λv h=>k (.d v) e ⟨h,m⟩:=(rfl)
@[simp ↓] def aDd {b:Bool}{xs:V_}:bQ P (.minmax b xs) e hs k=lh e xs λvs e=>bA (FE b vs) λv=>k v e hs:=(rfl)
@[simp ↓] def aFw {f:FuncId}{as:V_}:bQ P (.call f as) e ⟨h,m⟩ k=lh e as λvs e=>bA (fc (Dn P) f vs h) λv=>k v e ⟨h,m⟩:=(rfl)
@[simp ↓] def aEz {f:FuncId}{as:V_}:bQ P (.calli f as) e hs k=lh e as λvs e=>bP ((Dn P).call f vs hs) λv hs=>k v e hs:=(rfl)
@[simp ↓] def aE2 {as:V_}:bQ P (.callv x as) e hs k=cG e x λf e=>lh e as λvs e=>bP (cy (Dn P) f vs hs) λv hs=>k v e hs:=(rfl)
@[simp ↓] def aGv {is:C_}:bQ P (.kill is) e hs k=k (.tup []) (is.foldl del e) hs:=(rfl)
end Go.Vm
end
