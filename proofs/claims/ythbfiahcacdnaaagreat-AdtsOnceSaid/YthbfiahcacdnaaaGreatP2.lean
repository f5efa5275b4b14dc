import Derived.Test.YthbfiahcacdnaaaGreatP1
set_option linter.unusedVariables false
set_option linter.unusedSimpArgs false
set_option linter.defProp false
set_option linter.unusedSectionVars false
noncomputable section
namespace Go.Vm
set_option maxHeartbeats 4000000
set_option maxRecDepth 100000
structure wt (r q:dC):Prop where
 code:∀c st x,r.code c st=some x->q.code c st=some x
 call:∀f a h x,r.call f a h=some x->q.call f a h=some x
section
variable {r q:dC}
def ae1 (le:wt r q){f:FuncId}{vs:D_}{h:am}{x:AV}(e:eJ r f vs h=some x):eJ q f vs h=some x:=by
 unfold eJ at e⊢
 cases hd:viewArgs h vs with
 |none=>rw[hd]at e;simp at e
 |some ds =>
  rw[hd]at e;simp only at e⊢
  cases hc:r.call f ds ⟨[],0⟩ with
  |none=>rw[hc]at e;simp at e
  |some p =>
   obtain⟨v,hs⟩:=p;rw[hc]at e;rw[le.call _ _ _ _ hc];exact e
def aif (le:wt r q){l:Nat}{vs:D_}{hs:HS}{x:AV×HS}(e:uN r l vs hs=some x):uN q l vs hs=some x:=by
 unfold uN at e⊢;split at e
 .rename_i snap params assign body hg;split at e
  .simp at e
  .rename_i e1 he1
   try simp only[he1]
   split at e
   .rename_i st1 hc;simp only[le.code _ _ _ hc];split at e
    .rename_i snap2 params2 assign2 body2 hg2;split at e
     .simp at e
     .rename_i o st2 hc2;simp only[le.code _ _ _ hc2];exact e
    .simp at e
   .simp at e
 .simp at e
def ahl (le:wt r q){f:AV}{vs:D_}{hs:HS}{x:AV×HS}(e:cq r f vs hs=some x):cq q f vs hs=some x:=by
 cases f<;>simp only[cq,reduceCtorEq]at e⊢
 .exact le.call _ _ _ _ e
 .exact aif le e
def atm (le:wt r q){o:oi}{st:St}{x:AV×St}(e:dk o r st=some x):dk o q st=some x:=by
 cases o<;>try exact e
 .rename_i f args;simp only[dk,F5]at e⊢
  cases hr:rdAll st.env args with
  |none=>rw[hr]at e;simp at e
  |some p =>
   obtain⟨vs,e1⟩:=p;rw[hr]at e;simp only at e⊢
   cases hc:eJ r f vs st.hs.heap with
   |none=>rw[hc]at e;simp at e
   |some v=>rw[hc]at e;rw[ae1 le hc];exact e
 .rename_i f args;simp only[dk,EC]at e⊢
  cases hr:rdAll st.env args with
  |none=>rw[hr]at e;simp at e
  |some p =>
   obtain⟨vs,e1⟩:=p;rw[hr]at e;simp only at e⊢
   cases hc:r.call f vs st.hs with
   |none=>rw[hc]at e;simp at e
   |some v=>rw[hc]at e;rw[le.call _ _ _ _ hc];exact e
 .rename_i f args;simp only[dk,DF]at e⊢
  cases hf:rd st.env f with
  |none=>rw[hf]at e;simp at e
  |some p =>
   obtain⟨fv,e0⟩:=p;rw[hf]at e;simp only at e⊢
   cases hr:rdAll e0 args with
   |none=>rw[hr]at e;simp at e
   |some p =>
    obtain⟨vs,e1⟩:=p;rw[hr]at e;simp only at e⊢
    cases hc:cq r fv vs st.hs with
    |none=>rw[hc]at e;simp at e
    |some v=>rw[hc]at e;rw[ahl le hc];exact e
def Er (le:wt r q){i:VI}{st x:St}(e:cV r i st=some x):cV q i st=some x:=by
 have go:∀x,gp r i st=some x->gp q i st=some x:=λx e=>by
  unfold gp at e⊢
  cases ho:dk i.op r st with
  |none=>rw[ho]at e;simp at e
  |some p=>rw[ho]at e;rw[atm le ho];exact e
 unfold cV at e⊢;split at e
 .exact go _ e
 .split at e
  .split at e
   .simp_all
   .simp_all
  .exact e
  .simp at e
def S6 (le:wt r q):∀{l:T_}{st x:St},kB r l st=some x->kB q l st=some x
 |[],_,_,e=>e
 |i::l,st,x,e=>by
  simp only[kB]at e⊢
  cases hv:cV r i st with
  |none=>rw[hv]at e;simp at e
  |some st1=>rw[hv]at e;rw[Er le hv];exact S6 le e
def aty (le:wt r q){F:C_}{i:VI}{st x:St}(e:wH r F i st=some x):wH q F i st=some x:=by
 unfold wH at e⊢;split at e
 .cases hv:cV r i st with
  |none=>rw[hv]at e;simp at e
  |some st1=>rw[hv]at e;rw[Er le hv];exact e
 .cases hv:cV r i st with
  |none=>rw[hv]at e;simp at e
  |some st1=>rw[hv]at e;rw[Er le hv];exact e
 .cases hv:cV r i ⟨st.env,⟨dM (nT i st.env) st.hs.heap,st.hs.next⟩⟩ with
  |none=>rw[hv]at e;simp at e
  |some st1=>rw[hv]at e;rw[Er le hv];exact e
def Yj (le:wt r q){a:Bool}{F:C_}{i:VI}{st x:St}(e:b9 r a F i st=some x):b9 q a F i st=some x:=by
 cases a
 .exact Er le e
 .exact aty le e
def Q3 (le:wt r q){nr:C_}{vs:T_}:∀{l F:C_}{st x:St},fH r nr vs l F st=some x->fH q nr vs l F st=some x
 |[],_,_,_,e=>e
 |i::l,F,st,x,e=>by
  simp only[fH]at e⊢
  cases hi:vs[i]? with
  |none=>rw[hi]at e;simp at e
  |some v =>
   rw[hi]at e;simp only at e⊢
   cases hv:b9 r (et i nr) F v st with
   |none=>rw[hv]at e;simp at e
   |some st1=>rw[hv]at e;rw[Yj le hv];exact Q3 le e
theorem OF (le:wt r q){c:VC}{st:St}{x:cG×St}(e:da c r st=some x):da c q st=some x:=by
 cases c<;>try exact e
 .rename_i d ops;simp only[da,Uf]at e⊢
  cases hv:kB r ops st with
  |none=>rw[hv]at e;simp at e
  |some st1=>rw[hv]at e;rw[S6 le hv];exact e
 .rename_i perm gco nr ops;simp only[da,Mu,Nf]at e⊢
  cases ha:sv st.env ops with
  |false=>rw[ha]at e;simp at e
  |true =>
  rw[ha]at e;simp only at e⊢
  cases hv:fH r nr ops perm [] st with
  |none=>rw[hv]at e;simp at e
  |some st1=>rw[hv]at e;rw[Q3 le hv];exact e
 .rename_i a b;simp only[da,NW]at e⊢
  cases hv:r.code a st with
  |none=>rw[hv]at e;simp at e
  |some p =>
   obtain⟨o,st1⟩:=p;rw[hv]at e;rw[le.code _ _ _ hv]
   cases o<;>simp only at e⊢
   .exact le.code _ _ _ e
   all_goals exact e
 .rename_i cr a b;simp only[da,MK]at e⊢;split at e
  .exact le.code _ _ _ e
  .exact le.code _ _ _ e
  .simp at e
 .rename_i id a;simp only[da,Ni]at e⊢
  cases hv:r.code a st with
  |none=>rw[hv]at e;simp at e
  |some p=>rw[hv]at e;rw[le.code _ _ _ hv];exact e
 .rename_i a;simp only[da,Sq]at e⊢
  cases hv:r.code a st with
  |none=>rw[hv]at e;simp at e
  |some p =>
   obtain⟨o,st1⟩:=p;rw[hv]at e;rw[le.code _ _ _ hv]
   cases o<;>simp only at e⊢
   .exact le.code _ _ _ e
   all_goals exact e
 .rename_i f params assign body;simp only[da,DN]at e⊢;split at e
  .rename_i g first caps e1 h1
   split at e
   .rename_i v hs hc;rw[le.call _ _ _ _ hc];exact e
   .simp at e
  .simp at e
 .exact le.code _ _ _ e
 .rename_i a cur;simp only[da,Kv]at e⊢
  cases hv:r.code cur st with
  |none=>rw[hv]at e;simp at e
  |some p =>
   obtain⟨o,st1⟩:=p;rw[hv]at e;rw[le.code _ _ _ hv]
   cases o<;>simp only at e⊢
   .exact e
   .exact e
   .split at e
    .exact le.code _ _ _ e
    .exact e
   .exact e
 .rename_i i d f a;simp only[da,RC]at e⊢
  cases hg:get st.env i with
  |none=>rw[hg]at e;simp at e
  |some p =>
   rw[hg]at e
   cases p<;>simp only at e⊢<;>try exact absurd e (by simp)
   rename_i id off
   cases hv:r.code a ⟨put st.env d (.ptr id off),st.hs⟩ with
   |none=>rw[hv]at e;simp at e
   |some p =>
    obtain⟨o,st1⟩:=p;rw[hv]at e;rw[le.code _ _ _ hv]
    cases o<;>simp only at e⊢<;>try exact absurd e (by simp)
    all_goals
     cases hc:r.call f [.ptr id off] st1.hs with
     |none=>rw[hc]at e;simp at e
     |some q=>rw[hc]at e;rw[le.call _ _ _ _ hc];exact e
theorem aak (le:wt r q){P:Nat->Z_}{f:FuncId}{a:D_}{h:HS}{x:AV×HS}(e:vY P r f a h=some x):vY P q f a h=some x:=by
 unfold vY at e⊢;split at e
 .simp at e
 .rename_i fn hf;split at e
  .simp at e
  .rename_i hn
   cases hv:da fn.body r ⟨kp 0 a,h⟩ with
   |none=>rw[hv]at e;simp at e
   |some p=>rw[hv]at e;simp only[hn,OF le hv];exact e
end
variable {P:Nat->Z_}
abbrev tX:=@Nat.le_add_right
def lim {α:Type}(f:Nat->Option α):Option α :=
 open Classical in if h:∃x,∃n,f n=some x then some (Classical.choose h) else none
def agQ {α:Type}{f:Nat->Option α}(mono:∀n m x,f n=some x->f (n+m)=some x){n:Nat}{x:α}(h:f n=some x):lim f=some x:=by
 have he:∃x,∃n,f n=some x:=⟨x,n,h⟩
 unfold lim;obtain⟨m,hm⟩:=Classical.choose_spec he;have h2:=mono m n _ hm
 grind
def ahT {α:Type}{f:Nat->Option α}{x:α}(h:lim f=some x):∃n,f n=some x:=by
 unfold lim at h;split at h<;>grind
variable {P:Nat->Z_}
def wt.rfl' {r:dC}:wt r r:=⟨λ_ _ _ h=>h,λ_ _ _ _ h=>h⟩
def wt.trans' {r q s:dC}(h:wt r q)(k:wt q s):wt r s:=⟨λc st x e=>k.code c st x (h.code c st x e),λf a hs x e=>k.call f a hs x (h.call f a hs x e)⟩
def aa3:∀n:Nat,wt (run P n) (run P (n+1))
 |0=>⟨λ_ _ _ h=>by simp[run]at h,λ_ _ _ _ h=>by simp[run]at h⟩
 |n+1=>⟨λc st x h=>OF (aa3 n) h,λf a hs x h=>aak (aa3 n) h⟩
theorem SH (n:Nat):∀m:Nat,wt (run P n) (run P (n+m))
 |0=>wt.rfl'
 |m+1=>(SH n m).trans' (aa3 (n+m))
def Dn (P:Nat->Z_):dC:=⟨λc st=>lim λn=>(run P n).code c st,λf a h=>lim λn=>(run P n).call f a h⟩
def ahP {c:VC}{st:St}{x:cG×St}{n:Nat}(h:(run P n).code c st=some x):(Dn P).code c st=some x :=
 agQ (λn m x h=>(SH n m).code _ _ _ h) h
def We {f:FuncId}{a:D_}{hs:HS}{x:AV×HS}{n:Nat}(h:(run P n).call f a hs=some x):(Dn P).call f a hs=some x :=
 agQ (λn m x h=>(SH n m).call _ _ _ _ h) h
theorem alQ (n:Nat):wt (run P n) (Dn P):=⟨λ_ _ _ h=>ahP h,λ_ _ _ _ h=>We h⟩
theorem MX {n m:Nat}{c:VC}{st:St}{x:cG×St}(h:(run P n).code c st=some x)(le:n<=m):(run P m).code c st=some x:=by
 grind [wt.code,SH,Nat.add_sub_cancel']
def up {n m:Nat}(le:n<=m):wt (run P n) (run P m):=by
 grind [SH,Nat.add_sub_cancel']
theorem xY {c:VC}{st:St}{x:cG×St}(h:(Dn P).code c st=some x):∃n,(run P n).code c st=some x:=ahT h
theorem Eu {f:FuncId}{a:D_}{hs:HS}{x:AV×HS}(h:(Dn P).call f a hs=some x):∃n,(run P n).call f a hs=some x:=ahT h
theorem akv {f:FuncId}{vs:D_}{h:am}{x:AV}(e:eJ (Dn P) f vs h=some x):∃n,eJ (run P n) f vs h=some x:=by
 grind [eJ,Eu]
theorem aoA {l:Nat}{vs:D_}{hs:HS}{x:AV×HS}(e:uN (Dn P) l vs hs=some x):∃n,uN (run P n) l vs hs=some x:=by
 unfold uN at e⊢;split at e
 .split at e
  .simp at e
  .split at e<;>grind [xY,MX]
 simp_all
theorem anQ {f:AV}{vs:D_}{hs:HS}{x:AV×HS}(e:cq (Dn P) f vs hs=some x):∃n,cq (run P n) f vs hs=some x:=by
 cases f<;>simp only[cq,reduceCtorEq]at e⊢
 all_goals grind [Eu,aoA]
theorem ayc {o:oi}{st:St}{x:AV×St}(e:dk o (Dn P) st=some x):∃n,dk o (run P n) st=some x:=by
 cases o<;>try exact⟨0,e⟩
 .rename_i f args;simp only[dk,F5]at e⊢
  cases hr:rdAll st.env args<;>grind [akv]
 .rename_i f args;simp only[dk,EC]at e⊢
  cases hr:rdAll st.env args<;>grind [Eu]
 .rename_i f args;simp only[dk,DF]at e⊢
  cases hf:rd st.env f with
  |none=>simp_all
  |some p =>
   obtain⟨fv,e0⟩:=p;simp only at e⊢
   cases hr:rdAll e0 args<;>grind [anQ]
theorem ah7 {i:VI}{st x:St}(e:cV (Dn P) i st=some x):∃n,cV (run P n) i st=some x:=by
 have go:∀x,gp (Dn P) i st=some x->∃n,gp (run P n) i st=some x:=λx e=>by
  grind [gp,ayc]
 unfold cV at e⊢;split at e
 .simp_all
 .split at e
  .split at e<;>simp_all
  all_goals simp_all
theorem alz:∀{l:T_}{st x:St},kB (Dn P) l st=some x->∃n,kB (run P n) l st=some x
 |[],_,_,e=>⟨0,e⟩
 |i::l,st,x,e=>by
  simp only[kB]at e⊢
  cases hv:cV (Dn P) i st with
  |none=>simp_all
  |some st1 =>
   rw[hv]at e;obtain⟨n1,h1⟩:=ah7 hv;obtain⟨n2,h2⟩:=alz e;refine⟨n1+n2,?_⟩;rw[Er (up (tX n1 n2)) h1];exact S6 (up (kO n2 n1)) h2
def azl {F:C_}{i:VI}{st x:St}(e:wH (Dn P) F i st=some x):∃n,wH (run P n) F i st=some x:=by
 grind [wH,ah7]
def auk {a:Bool}{F:C_}{i:VI}{st x:St}(e:b9 (Dn P) a F i st=some x):∃n,b9 (run P n) a F i st=some x:=by
 cases a
 .exact ah7 e
 .exact azl e
theorem alg {nr:C_}{vs:T_}:∀{l F:C_}{st x:St},fH (Dn P) nr vs l F st=some x->∃n,fH (run P n) nr vs l F st=some x
 |[],_,_,_,e=>⟨0,e⟩
 |i::l,F,st,x,e=>by
  simp only[fH]at e⊢
  cases hi:vs[i]? with
  |none=>simp_all
  |some v =>
   rw[hi]at e;simp only at e⊢
   cases hv:b9 (Dn P) (et i nr) F v st with
   |none=>simp_all
   |some st1 =>
    rw[hv]at e;obtain⟨n1,h1⟩:=auk hv;obtain⟨n2,h2⟩:=alg e;refine⟨n1+n2,?_⟩;rw[Yj (up (tX n1 n2)) h1];exact Q3 (up (kO n2 n1)) h2
theorem ain {c:VC}{st:St}{x:cG×St}(e:da c (Dn P) st=some x):∃n,da c (run P n) st=some x:=by
 cases c<;>try exact⟨0,e⟩
 .grind [da,Uf,alz]
 .rename_i perm gco nr ops;simp only[da,Mu,Nf]at e⊢
  cases ha:sv st.env ops<;>grind [alg]
 .rename_i a b;simp only[da,NW]at e⊢
  grind [xY,MX]
 .rename_i cr a b;simp only[da,MK]at e⊢;split at e<;>grind [xY]
 .grind [da,Ni,xY]
 .rename_i a;simp only[da,Sq]at e⊢
  grind [xY,MX]
 .rename_i f params assign body;simp only[da,DN]at e⊢;split at e<;>grind [Eu]
 .exact xY e
 .rename_i a cur;simp only[da,Kv]at e⊢
  grind [xY,MX]
 .rename_i i d f a;simp only[da,RC]at e⊢
  cases hg:get st.env i with
  |none=>simp_all
  |some p =>
   rw[hg]at e
   cases p<;>simp only at e⊢<;>try exact absurd e (by simp)
   rename_i id off
   cases hv:(Dn P).code a ⟨put st.env d (.ptr id off),st.hs⟩ with
   |none=>simp_all
   |some p =>
    obtain⟨o,st1⟩:=p;obtain⟨n1,h1⟩:=xY hv;rw[hv]at e
    cases o<;>simp only at e⊢<;>try exact absurd e (by simp)
    all_goals
     cases hc:(Dn P).call f [.ptr id off] st1.hs with
     |none=>simp_all
     |some q =>
      obtain⟨n2,h2⟩:=Eu hc;rw[hc]at e;refine⟨n1+n2,?_⟩;rw[MX h1 (tX n1 n2)];simp only[(up (kO n2 n1)).call _ _ _ _ h2];exact e
def as0 {f:FuncId}{a:D_}{h:HS}{x:AV×HS}(e:vY P (Dn P) f a h=some x):∃n,vY P (run P n) f a h=some x:=by
 unfold vY at e⊢;split at e
 .simp at e
 .split at e<;>grind [ain]
theorem iJ (c:VC)(st:St):(Dn P).code c st=da c (Dn P) st:=by
 cases h:da c (Dn P) st with
 |some x =>
  obtain⟨n,hn⟩:=ain h;exact ahP (n:=n+1) hn
 |none =>
  cases k:(Dn P).code c st with
  |none=>rfl
  |some x =>
   obtain⟨n,hn⟩:=xY k
   cases n<;>grind [run,OF,alQ]
theorem axA (f:FuncId)(a:D_)(hs:HS):(Dn P).call f a hs=vY P (Dn P) f a hs:=by
 cases h:vY P (Dn P) f a hs with
 |some x =>
  obtain⟨n,hn⟩:=as0 h;exact We (n:=n+1) hn
 |none =>
  cases k:(Dn P).call f a hs with
  |none=>rfl
  |some x =>
   obtain⟨n,hn⟩:=Eu k
   cases n<;>grind [run,aak,alQ]
abbrev az:=@Int.eq_ofNat_of_zero_le
variable {P:Nat->Z_}
def Ax (P:Nat->Z_)(x:J_)(b:VC):J_ :=
 match x with
 |some (.normal,st)=>(Dn P).code b st
 |x=>x
def yC (id:Nat)(x:J_):J_ :=
 match x with
 |some (.exit j,st)=>if j=id then some (.normal,st) else some (.exit j,st)
 |x=>x
def fg (x:X_):J_ :=
 match x with
 |some st=>some (.normal,st)
 |none=>none
def qV (P:Nat->Z_)(a:VC)(x:J_):J_ :=
 match x with
 |some (.normal,st)=>(Dn P).code (.loop a) st
 |x=>x
def Xt (fn:aj)(x:J_):W_ :=
 match x with
 |some (.normal,st)=>Gb fn st
 |some (.ret,st)=>Gb fn st
 |_=>none
def tj (x:W_):M_ :=
 match x with
 |some (v,hs)=>gS hs.heap v
 |none=>none
def aAv {st:St}{b:VC}:Ax P (some (.normal,st)) b=(Dn P).code b st:=(rfl)
def az6 {st:St}{b:VC}:Ax P (some (.ret,st)) b=some (.ret,st):=(rfl)
def aAB {st:St}{b:VC}{j:Nat}:Ax P (some (.exit j,st)) b=some (.exit j,st):=(rfl)
def azV {st:St}{b:VC}{j:Nat}:Ax P (some (.goto j,st)) b=some (.goto j,st):=(rfl)
def ay2 {b:VC}:Ax P none b=none:=(rfl)
def ax6 {c:Prop}[Decidable c]{x y:J_}{b:VC}:Ax P (if c then x else y) b=if c then Ax P x b else Ax P y b:=d_
def ayZ {st:St}{i:Nat}:yC i (some (.normal,st))=some (.normal,st):=(rfl)
def azL {st:St}{i:Nat}:yC i (some (.ret,st))=some (.ret,st):=(rfl)
def azk {st:St}{i j:Nat}:yC i (some (.exit j,st))=if j=i then some (.normal,st) else some (.exit j,st):=(rfl)
def azX {st:St}{i j:Nat}:yC i (some (.goto j,st))=some (.goto j,st):=(rfl)
def ayB {i:Nat}:yC i none=none:=(rfl)
def ayq {c:Prop}[Decidable c]{x y:J_}{i:Nat}:yC i (if c then x else y)=if c then yC i x else yC i y:=d_
theorem Mc {st:St}{a:VC}:qV P a (some (.normal,st))=(Dn P).code (.loop a) st:=(rfl)
def avW {st:St}{a:VC}:qV P a (some (.ret,st))=some (.ret,st):=(rfl)
def awl {st:St}{a:VC}{j:Nat}:qV P a (some (.exit j,st))=some (.exit j,st):=(rfl)
def awB {st:St}{a:VC}{j:Nat}:qV P a (some (.goto j,st))=some (.goto j,st):=(rfl)
def awz {a:VC}:qV P a none=none:=(rfl)
def awt {c:Prop}[Decidable c]{x y:J_}{a:VC}:qV P a (if c then x else y)=if c then qV P a x else qV P a y:=d_
def azj {st:St}:fg (some st)=some (.normal,st):=(rfl)
def aAy:fg none=none:=(rfl)
def azq {c:Prop}[Decidable c]{x y:X_}:fg (if c then x else y)=if c then fg x else fg y:=d_
def aye {v:AV}{hs:HS}:tj (some (v,hs))=gS hs.heap v:=(rfl)
def ay3:tj none=none:=(rfl)
def aAp {c:Prop}[Decidable c]{x y:W_}:tj (if c then x else y)=if c then tj x else tj y:=d_
def ap8 {st:St}:(Dn P).code .skip st=some (.normal,st):=by rw[iJ];rfl
def aps {st:St}{i:Nat}:(Dn P).code (.exit i) st=some (.exit i,st):=by rw[iJ];rfl
def atj {st:St}:(Dn P).code .ret st=some (.ret,st):=by rw[iJ];rfl
def amZ {st:St}{i:Nat}:(Dn P).code (.label i) st=some (.normal,st):=by rw[iJ];rfl
def apU {st:St}{i:Nat}:(Dn P).code (.goto i) st=some (.goto i,st):=by rw[iJ];rfl
def atW {st:St}{a b:VC}:(Dn P).code (.seq a b) st=Ax P ((Dn P).code a st) b:=by rw[iJ];rfl
def am9 {st:St}{i:Nat}{a:VC}:(Dn P).code (.block i a) st=yC i ((Dn P).code a st):=by
 grind [iJ,da,Ni,yC,Nat.eq_of_beq_eq_true,Nat.ne_of_beq_eq_false]
def aqG {st:St}{a:VC}:(Dn P).code (.loop a) st=qV P a ((Dn P).code a st):=by rw[iJ];rfl
theorem W4 {st:St}{d:Bool}{ops:T_}:(Dn P).code (.reg d ops) st=fg (kB (Dn P) ops st):=by rw[iJ];rfl
theorem arq {st:St}{perm gco:C_}{ops:T_}(ha:sv st.env ops=true):(Dn P).code (.regP perm gco [] ops) st=fg (wT (Dn P) ops perm st):=by
 rw[iJ];simp only[da,Mu,Nf,ail,ha];rfl
def an0 {e:aV}{hs:HS}{a b:VC}{t:Bool}:(Dn P).code (.cond (.c (B_ t)) a b) ⟨e,hs⟩=if t=true then (Dn P).code a ⟨e,hs⟩ else (Dn P).code b ⟨e,hs⟩:=by
 grind [iJ,da,MK,rd]
def TB (P:Nat->Z_)(v:M_)(a b:VC)(st:St):J_ :=
 match v with
 |some (.d (.bool true))=>(Dn P).code a st
 |some (.d (.bool false))=>(Dn P).code b st
 |_=>none
def apG {e:aV}{hs:HS}{i:Nat}{a b:VC}:(Dn P).code (.cond (.m i) a b) ⟨e,hs⟩=TB P (get e i) a b ⟨del e i,hs⟩:=by
 rw[iJ];simp only[da,MK,rd,TB]
 grind
def avY {a b:VC}{st:St}:TB P (some (B_ true)) a b st=(Dn P).code a st:=(rfl)
def avS {a b:VC}{st:St}:TB P (some (B_ false)) a b st=(Dn P).code b st:=(rfl)
def aIX (P:Nat->Z_)(v:M_)(w:Bool)(d:I_)(op:oi)(th:S_)(st:St):X_ :=
 match v with
 |some (.d (.bool b))=>match b == w with
  |true=>cV (Dn P) ⟨d,none,op,th⟩ st
  |false=>some (cP d (.tup []) st)
 |some (.tup [])=>some (cP d (.tup []) st)
 |_=>none
def aFH {α:Type}{i:Nat}:get ([]:List (Nat×α)) i=none:=(rfl)
def ayo {α:Type}{k i:Nat}{v:α}{r:List (Nat×α)}:get ((k,v)::r) i=if k=i then some v else get r i:=iU ..
def aFg {α:Type}{i:Nat}{x:α}:put [] i x=[(i,x)]:=(rfl)
def put1 {α:Type}{k i:Nat}{v x:α}{r:List (Nat×α)}:put ((k,v)::r) i x=if k=i then (i,x)::r else if i<=k then (i,x)::(k,v)::r else (k,v)::put r i x:=wn ..
def aFc {α:Type}{i:Nat}:del ([]:List (Nat×α)) i=[]:=(rfl)
def ayf {α:Type}{k i:Nat}{v:α}{r:List (Nat×α)}:del ((k,v)::r) i=if k=i then del r i else (k,v)::del r i:=ov ..
theorem V4 {k:IntKind}:l8 k k=true:=by cases k<;>rfl
theorem lh {op:BinOp}{k:IntKind}{a b:Int}(h1:op≠.shl)(h2:op≠.shr):dw op (.d (.int k a)) (.d (.int k b))=match jq op k a b with|some x=>some (.d x)|none=>none:=by
 grind [dw,v8,V4]
def awe {k:IntKind}{a b:Int}:dw .add (.d (.int k a)) (.d (.int k b))=some (.d (.int k (wr k (a+b)))):=by rw[lh s_ s_];rfl
def aw6 {k:IntKind}{a b:Int}:dw .sub (.d (.int k a)) (.d (.int k b))=some (.d (.int k (wr k (a-b)))):=by rw[lh s_ s_];rfl
def axG {k:IntKind}{a b:Int}:dw .mul (.d (.int k a)) (.d (.int k b))=some (.d (.int k (wr k (a*b)))):=by rw[lh s_ s_];rfl
def ax0 {k:IntKind}{a b:Int}(h:b≠0):dw .quo (.d (.int k a)) (.d (.int k b))=some (.d (.int k (wr k (a.tdiv b)))):=by grind [lh,jq]
def axM {k:IntKind}{a b:Int}(h:b≠0):dw .rem (.d (.int k a)) (.d (.int k b))=some (.d (.int k (a.tmod b))):=by grind [lh,jq]
def axy {k:IntKind}{a b:Int}:dw .eql (.d (.int k a)) (.d (.int k b))=if a=b then some (B_ true) else some (B_ false):=by grind [lh,jq]
def axh {k:IntKind}{a b:Int}:dw .neq (.d (.int k a)) (.d (.int k b))=if a=b then some (B_ false) else some (B_ true):=by grind [lh,jq]
def axa {k:IntKind}{a b:Int}:dw .lss (.d (.int k a)) (.d (.int k b))=if a<b then some (B_ true) else some (B_ false):=by grind [lh,jq]
def awd {k:IntKind}{a b:Int}:dw .leq (.d (.int k a)) (.d (.int k b))=if a<=b then some (B_ true) else some (B_ false):=by grind [lh,jq]
def aw7 {k:IntKind}{a b:Int}:dw .gtr (.d (.int k a)) (.d (.int k b))=if b<a then some (B_ true) else some (B_ false):=by grind [lh,jq]
def aw0 {k:IntKind}{a b:Int}:dw .geq (.d (.int k a)) (.d (.int k b))=if b<=a then some (B_ true) else some (B_ false):=by grind [lh,jq]
def awE {k j:IntKind}{a b:Int}(h:0<=b):dw .shl (.d (.int k a)) (.d (.int j b))=some (.d (.int k (wr k (a*((2 ^ (min b.toNat k.bits):Nat):Int))))):=by
 grind [dw,v8,H4]
def aw5 {k j:IntKind}{a b:Int}(h:0<=b):dw .shr (.d (.int k a)) (.d (.int j b))=some (.d (.int k (a.fdiv ((2 ^ (min b.toNat k.bits):Nat):Int)))):=by
 grind [dw,v8,H4]
def atJ {a b:AG_}:dw .eql (.d (.str a)) (.d (.str b))=if a=b then some (B_ true) else some (B_ false):=by
 grind [dw]
def att {a b:AG_}:dw .neq (.d (.str a)) (.d (.str b))=if a=b then some (B_ false) else some (B_ true):=by
 grind [dw]
def aBZ {n:Int}(h:0<=n)(h2:n<=255):wr .u8 n=n:=by
 grind [wr,ot]
def ax9 {n:Int}(h:0<=n)(h2:n<=65535):wr .u16 n=n:=by
 grind [wr,ot]
def ayR {n:Int}(h:0<=n)(h2:n<=4294967295):wr .u32 n=n:=by
 grind [wr,ot]
def aAh {n:Int}(h:0<=n)(h2:n<=18446744073709551615):wr .u64 n=n:=by
 grind [wr,ot]
theorem xy {k:IntKind}{i:Int}{t:Nat}(h:0<=i)(h2:i<=t):dW (.d (.int k i)) t=some i.toNat:=by
 obtain⟨n,rfl⟩:=az h;have:Nat.ble n t=true:=bZ o_;show(match Nat.ble n t with|true=>some n|false=>none)=_
 grind
theorem Ts {k:IntKind}{i:Int}(h:0<=i):qR (.d (.int k i))=some i.toNat:=by
 obtain⟨n,rfl⟩:=az h;rfl
def jW (k:IntKind):Nat:=if k.signed then 2 ^ (k.bits-1) else 2 ^ k.bits
theorem aw2 (k:IntKind):jW k<=2 ^ k.bits:=by cases k<;>decide
theorem afn {k:IntKind}{n:Nat}(h:n<jW k):k.wrap (n:Int)=n:=by
 cases k<;>simp only[jW,IntKind.wrap,IntKind.signed,IntKind.bits]at h⊢<;>simp at h⊢<;>omega
theorem Fj {k:IntKind}{n:Nat}(h:n<jW k):(BitVec.ofInt k.bits (n:Int)).toNat=n:=by
 grind [aw2]
def azT {k:IntKind}{a b:Nat}(h:a<jW k)(h2:b<jW k)(h3:a |||b<jW k):dw .or (.d (.int k (a:Int))) (.d (.int k (b:Int)))=some (.d (.int k ((a |||b:Nat):Int))):=by
 grind [lh,jq,F3,Fj,afn]
theorem axu {a b t:Nat}(h:a<t):a &&& b<t:=by grind [Nat.and_le_left]
def axm {k:IntKind}{a b:Nat}(h:a<jW k)(h2:b<jW k):dw .and (.d (.int k (a:Int))) (.d (.int k (b:Int)))=some (.d (.int k ((a &&& b:Nat):Int))):=by
 grind [lh,jq,F3,Fj,afn,axu]
def awK {k:IntKind}{a b:Nat}(h:a<jW k)(h2:b<jW k)(h3:a ^^^ b<jW k):dw .xor (.d (.int k (a:Int))) (.d (.int k (b:Int)))=some (.d (.int k ((a ^^^ b:Nat):Int))):=by
 grind [lh,jq,F3,Fj,afn]
def bi (P:Nat->Z_)(f:FuncId)(ds:D_):M_:=tj ((Dn P).call f ds ⟨[],0⟩)
theorem adh {f:FuncId}{fn:aj}{args:D_}{hs:HS}(hf:P f=some fn)(hl:args.length=fn.nparams):(Dn P).call f args hs=Xt fn ((Dn P).code fn.body ⟨kp 0 args,hs⟩):=by
 grind [axA,Nat.beq_refl,vY,Xt,iJ]
def arO {f:FuncId}{fn:aj}{args:D_}(hf:P f=some fn)(hl:args.length=fn.nparams):bi P f args=tj (Xt fn ((Dn P).code fn.body ⟨kp 0 args,⟨[],0⟩⟩)):=by
 grind [bi,adh]
def arG {g:FuncId}{first caps args:D_}{hs:HS}:cq (Dn P) (.fn g first caps) args hs=(Dn P).call g (first++(args++caps)) hs:=(rfl)
def ayQ {α:Type}{a b:Prop}[Decidable a][Decidable b]{x y:α}:(if a then (if b then x else y) else y)=if a∧b then x else y:=by
 grind
def azQ {α:Type}{a b:Prop}[Decidable a][Decidable b]{x y:α}:(if a then x else (if b then x else y))=if a∨b then x else y:=by
 grind
def ay7 {α:Type}{a b:Prop}[Decidable a][Decidable b]{x y:α}:(if a then (if b then y else x) else y)=if a∧¬b then x else y:=by
 grind
def azg {α:Type}{a b:Prop}[Decidable a][Decidable b]{x y:α}:(if a then x else (if b then y else x))=if a∨¬b then x else y:=by
 grind
def nth {α:Type}[Inhabited α](l:List α)(i:Nat):α:=l.getD i default
theorem afI {α:Type}[Inhabited α]{l:List α}{i:Nat}(h:i<l.length):nth l i=l[i]:=by simp[nth,h]
theorem AO {α:Type}[Inhabited α]{l:List α}{i:Nat}(h:i<l.length):l[i]?=some (nth l i):=by simp[nth,h]
theorem qr {α:Type}[Inhabited α]{l:List α}{i:Nat}(h:i<l.length):l.drop i=nth l i::l.drop (i+1):=by grind [List.drop_eq_getElem_cons,afI]
theorem jM {α:Type}[Inhabited α]{l:List α}{i:Nat}(h:i<l.length):nth l i∈l:=by grind [afI]
abbrev I (n:Int):D:=.int .i64 n
abbrev Y (n:Int):D:=.int .u8 n
def aF (l:G_):E_:=l.map fun(n:Int)=>[D.int .i64 n]
def ai (l:C_):E_:=l.map fun(n:Nat)=>[D.int .u8 (n:Int)]
def T9 (l:V_):E_:=l.map fun(n:Bool)=>[D.bool n]
def atU {l:G_}:(aF l).length=l.length:=by simp[aF]
def atO {l:C_}:(ai l).length=l.length:=by simp[ai]
def aqY {l:V_}:(T9 l).length=l.length:=by simp[T9]
def JC {l:G_}{i:Nat}(h:i<l.length):(aF l)[i]?=some [.int .i64 (nth l i)]:=by grind [aF,AO]
def ask {l:C_}{i:Nat}(h:i<l.length):(ai l)[i]?=some [.int .u8 (nth l i:Nat)]:=by grind [ai,AO]
def apI {l:V_}{i:Nat}(h:i<l.length):(T9 l)[i]?=some [.bool (nth l i)]:=by grind [T9,AO]
def ard {a b:Nat}:((a:Int)+(b:Int)).toNat=a+b:=o_
def aa6 {a b:Nat}:Nat.beq a b=decide (a=b):=by
 grind [Nat.eq_of_beq_eq_true,Nat.ne_of_beq_eq_false]
theorem ack {a b:Nat}:Nat.ble a b=decide (a<=b):=by
 grind [Nat.le_of_ble_eq_true,Nat.ble_eq_true_of_le]
def awS {x y:J_}{b:VC}(h:x=y):Ax P x b=Ax P y b:=by rw[h]
def axI {x y:J_}{b:Nat}(h:x=y):yC b x=yC b y:=by rw[h]
def asJ {x y:J_}{b:VC}(h:x=y):qV P b x=qV P b y:=by rw[h]
def av7 {x y:J_}{b:aj}(h:x=y):Xt b x=Xt b y:=by rw[h]
def aww {r:dC}{c:VC}{x y:St}(h:x=y):r.code c x=r.code c y:=by rw[h]
def asu {v w:M_}{a b:VC}{x y:St}(h:v=w)(k:x=y):TB P v a b x=TB P w a b y:=by rw[h,k]
variable {P:Nat->Z_}
def bA {α β:Type}(x:Option α)(f:α->Option β):Option β :=
 match x with
 |some v=>f v
 |none=>none
def bP {α γ β:Type}(x:Option (α×γ))(f:α->γ->Option β):Option β :=
 match x with
 |some (v,w)=>f v w
 |none=>none
def lA {α β:Type}(x:α)(f:α->β):β:=f x
def lP {α γ β:Type}(x:α×γ)(f:α->γ->β):β:=f x.1 x.2
def dG {β:Type}(c:Bool)(x:Option β):Option β :=
 match c with
 |true=>x
 |false=>none
def gV (g:AV)(w:Bool)(x:M_):M_ :=
 match g with
 |.d (.bool b)=>if b=w then x else some (.tup [])
 |.tup []=>some (.tup [])
 |_=>none
def gH (g:AV)(w:Bool)(hs:HS)(x:W_):W_ :=
 match g with
 |.d (.bool b)=>if b=w then x else some (.tup [],hs)
 |.tup []=>some (.tup [],hs)
 |_=>none
def Uh (c a b:AV):M_ :=
 match c with
 |.d (.bool true)=>some a
 |.d (.bool false)=>some b
 |_=>none
def afw (neg:Bool)(a b:AV):BF_ :=
 match a,b with
 |.d (.bool a),.d (.bool b)=>some (.bool (match neg with|true=>!(a == b)|false=>a == b))
 |_,_=>none
def J1 (neg:Bool)(ks:V_)(a b:AV):BF_ :=
 match a,b with
 |.agg a,.agg b=>match bv ks a b with
  |some t=>some (.bool (match neg with|true=>!t|false=>t))
  |none=>none
 |_,_=>none
def eW (op:BinOp)(a b:AV):BF_ :=
 match dw op a b with
 |some (.d x)=>some x
 |_=>none
def unD (op:UnOp)(a:AV):BF_ :=
 match abZ op a with
 |some (.d x)=>some x
 |_=>none
def aau (k:IntKind)(a:AV):BF_ :=
 match a with
 |.d (.int _ n)=>some (.int k (wr k n))
 |_=>none
def MR (h:am)(a:AV):BF_ :=
 match elems h a with
 |some xs=>match uQ xs with
  |some s=>some (.str s)
  |none=>none
 |none=>none
def Fn (z:Y_)(l c:AV):M_ :=
 match dW c aU with
 |some c=>match dW l c with
  |some n=>some (.own true z.length (List.replicate n z))
  |none=>none
 |none=>none
def l7 (h:am)(m:Nat)(x:AV)(lo hi mx:M_):M_ :=
 match okSl h m x with
 |true=>uU m x lo hi mx
 |false=>none
def SN (hp:am)(n:Nat)(x:AV)(lo hi mx:M_):M_ :=
 match x with
 |.ptr id off=>Ue hp n id off lo hi mx
 |_=>none
def ayU (off:Nat)(n:I_)(x:AV):M_ :=
 match x with
 |.agg cs=>FU n cs off
 |_=>none
def ZW (hp:am)(n:Nat)(x i:AV):M_ :=
 match qR i with
 |some i=>match x with
  |.sl id off len=>match Nat.ble len i with
   |true=>none
   |false=>match get hp id with
    |some (.arr m _)=>match Nat.beq m n with
     |true=>some (.pel id (off+i) 0)
     |false=>none
    |some (.cells _)=>match Nat.beq n 1 with
     |true=>some (.ptr id (off+i))
     |false=>none
    |_=>none
  |v=>match elems hp v with
   |some xs=>match xs[i]? with
    |some x=>match Nat.beq x.length n with
     |true=>some (.pim x 0)
     |false=>none
    |none=>none
   |none=>none
 |none=>none
def KY (len n:Nat)(p i:AV):M_ :=
 match qR i with
 |some i=>match Nat.ble len i with
  |true=>none
  |false=>iy (i*n) p
 |none=>none
def ixV (len n:Nat)(agg:Bool)(x i:AV):M_ :=
 match x with
 |.agg cs=>match qR i with
  |some i=>match Nat.ble len i with
   |true=>none
   |false=>FU (agV agg n) cs (i*n)
  |none=>none
 |_=>none
def anZ (x i:AV):BF_ :=
 match x with
 |.d (.str s)=>match qR i with
  |some i=>match s[i]? with
   |some b=>some (.int .u8 (.ofNat b.toNat))
   |none=>none
  |none=>none
 |_=>none
def AC (mv:Bool)(t:AV)(i:Nat):M_ :=
 match t with
 |.tup vs=>match vs[i]? with
  |some v=>match mv with
   |true=>some v
   |false=>some (share v)
  |none=>none
 |_=>none
def NX (t:AV)(i:Nat):AV :=
 match t with
 |.tup vs=>.tup (vs.set i .junk)
 |v=>v
def abP (x:AV):Bool :=
 match x with
 |.nl=>true
 |_=>false
def abA (m:Nat)(h:am)(a b:AV):AF_ :=
 match elems h b with
 |some ys=>match fW m ys with
  |true=>dX m h a ys
  |false=>none
 |none=>none
def Hx (z:Y_)(h:am)(a n:AV):AF_ :=
 match dW n aU with
 |some n=>dX z.length h a (List.replicate n z)
 |none=>none
def afN (m:Nat)(hp:am)(a b:AV):Option (D×am) :=
 match elems hp b with
 |some ys=>match a with
  |.sl id off len=>match get hp id with
   |some (.arr k xs)=>match fW m ys && Nat.beq k m && Nat.ble (off+len) xs.length with
    |true=>some (.int .i64 (.ofNat (min len ys.length)),put hp id (.arr k (aG xs off (ys.take len))))
    |false=>none
   |_=>none
  |_=>match lenOf a with
   |some 0=>some (.int .i64 (.ofNat 0),hp)
   |_=>none
 |none=>none
def aze (z:Y_)(hp:am)(x:AV):Option am :=
 match x with
 |.sl id off len=>match get hp id with
  |some (.arr k xs)=>match Nat.beq k z.length && Nat.ble (off+len) xs.length with
   |true=>some (put hp id (.arr k (aG xs off (List.replicate len z))))
   |false=>none
  |_=>none
 |_=>none
def DP (isMax:Bool)(vs:D_):M_ :=
 match vs with
 |.d (.int k n)::vs=>BM isMax (.d (.int k n)) vs
 |_=>none
def Fm (v:AV):M_ :=
 match v with
 |.ptr ..|.pel ..|.pim ..|.fn ..|.yield ..=>some v
 |_=>none
def eM (h:am)(n:I_)(p:AV):M_ :=
 match loadAt h n 0 p with
 |some (v,_)=>some v
 |none=>none
def JY (m:Nat)(vs:D_):Bool:=vs.all λv=>Nat.beq v.cells.length m && v.cells.all bq
def cD {β:Type}(e:aV)(x:Rd)(k:AV->aV->Option β):Option β :=
 match rd e x with
 |some (v,e)=>k v e
 |none=>none
def kC {β:Type}:aV->U_->(D_->aV->Option β)->Option β
 |e,[],k=>k [] e
 |e,x::r,k=>match rd e x with
  |some (v,e)=>kC e r λvs e=>k (v::vs) e
  |none=>none
def my {β:Type}(e:aV)(x:AB_)(k:M_->aV->Option β):Option β :=
 match x with
 |none=>k none e
 |some x=>match rd e x with
  |some (v,e)=>k (some v) e
  |none=>none
def bK:Rd->Bool
 |.m _=>false
 |_=>true
def bR {β:Type}(P:Nat->Z_)(op:oi)(e:aV)(hs:HS)(k:AV->aV->HS->Option β):Option β :=
 match op with
 |.mov x=>cD e x λv e=>k v e hs
 |.pick c a b=>cD e c λc e=>match bK a && bK b,rd e a,rd e b with
  |true,some (a,_),some (b,_)=>bA (Uh c a b) λv=>k v e hs
  |_,_,_=>bP (kQ (.c c) a b ⟨e,hs⟩) λv st=>k v st.env st.hs
 |.alloc zs=>lA (put hs.heap hs.next (.cells zs)) λh=>k (.ptr hs.next 0) e ⟨h,hs.next+1⟩
 |.box x=>cD e x λv e=>dG (v.cells.all bq) (lA (put hs.heap hs.next (.cells v.cells)) λh=>k (.ptr hs.next 0) e ⟨h,hs.next+1⟩)
 |.build zs ps=>kC e (pr ps) λvs e=>bA (dY zs (tA ps vs)) λcs=>k (.agg cs) e hs
 |.mks m ps=>kC e ps λvs e=>bA (jJ m vs) λxs=>k (.own true m xs) e hs
 |.mksv m ps=>kC e ps λvs e=>dG (JY m vs) (lA (put hs.heap hs.next (.cells (vs.flatMap AV.cells))) λh=>k (.sl hs.next 0 vs.length) e ⟨h,hs.next+1⟩)
 |.ld n 0 p=>cD e p λp e=>bA (eM hs.heap n p) λv=>k v e hs
 |.ld n (t+1) p=>cD e p λp e=>bP (loadAt hs.heap n (t+1) p) λv h=>k v e ⟨h,hs.next⟩
 |.st n p x=>cD e p λp e=>cD e x λx e=>bA (storeAt hs.heap n p x) λh=>k .junk e ⟨h,hs.next⟩
 |.nilck x=>cD e x λv e=>bA (Fm v) λv=>k v e hs
 |.bin op x y=>cD e x λa e=>cD e y λb e=>bA (eW op a b) λv=>k (.d v) e hs
 |.binb neg x y=>cD e x λa e=>cD e y λb e=>bA (afw neg a b) λv=>k (.d v) e hs
 |.bina neg ks x y=>cD e x λa e=>cD e y λb e=>bA (J1 neg ks a b) λv=>k (.d v) e hs
 |.un op x=>cD e x λa e=>bA (unD op a) λv=>k (.d v) e hs
 |.conv j x=>cD e x λa e=>bA (aau j a) λv=>k (.d v) e hs
 |.toStr x=>cD e x λa e=>bA (MR hs.heap a) λv=>k (.d v) e hs
 |.mkfn f a c=>kC e a λa e=>kC e c λc e=>k (.fn f (shareAll a) (shareAll c)) e hs
 |.mkslice z l c=>cD e l λl e=>cD e c λc e=>bA (Fn z l c) λv=>k v e hs
 |.slice m x lo hi mx=>cD e x λx e=>my e lo λlo e=>my e hi λhi e=>my e mx λmx e=>bA (l7 hs.heap m x lo hi mx) λv=>k v e hs
 |.slarr n x lo hi mx=>cD e x λx e=>my e lo λlo e=>my e hi λhi e=>my e mx λmx e=>bA (SN hs.heap n x lo hi mx) λv=>k v e hs
 |.fa off p=>cD e p λp e=>bA (iy off p) λv=>k v e hs
 |.fld off n x=>cD e x λx e=>bA (ayU off n x) λv=>k v e hs
 |.ia n x i=>cD e x λx e=>cD e i λi e=>bA (ZW hs.heap n x i) λv=>k v e hs
 |.iarr l n p i=>cD e p λp e=>cD e i λi e=>bA (KY l n p i) λv=>k v e hs
 |.ix l n a x i=>cD e x λx e=>cD e i λi e=>bA (ixV l n a x i) λv=>k v e hs
 |.ixs x i=>cD e x λx e=>cD e i λi e=>bA (anZ x i) λv=>k (.d v) e hs
 |.ext j true i=>match get e j with
  |some t=>bA (AC true t i) λv=>k v (put e j (NX t i)) hs
  |none=>none
 |.ext j false i=>match get e j with
  |some t=>bA (AC false t i) λv=>k v e hs
  |none=>none
 |.len x=>cD e x λx e=>bA (lenOf x) λn=>k (.int .i64 (.ofNat n)) e hs
 |.cap x=>cD e x λx e=>dG (abP x) (k (.int .i64 (.ofNat 0)) e hs)
 |.app m x y=>cD e x λa e=>cD e y λb e=>bP (abA m hs.heap a b) λv h=>k v e ⟨h,hs.next⟩
 |.appz z x n=>cD e x λa e=>cD e n λn e=>bP (Hx z hs.heap a n) λv h=>k v e ⟨h,hs.next⟩
 |.cpy m x y=>cD e x λa e=>cD e y λb e=>bP (afN m hs.heap a b) λv h=>k (.d v) e ⟨h,hs.next⟩
 |.clr z x=>cD e x λx e=>bA (aze z hs.heap x) λh=>k (.tup []) e ⟨h,hs.next⟩
 |.minmax b xs=>kC e xs λvs e=>bA (DP b vs) λv=>k v e hs
 |.call f args=>kC e args λvs e=>bA (eJ (Dn P) f vs hs.heap) λv=>k v e hs
 |.calli f args=>kC e args λvs e=>bP ((Dn P).call f vs hs) λv hs=>k v e hs
 |.callv f args=>cD e f λf e=>kC e args λvs e=>bP (cq (Dn P) f vs hs) λv hs=>k v e hs
 |.kill is=>k (.tup []) (is.foldl del e) hs
 |.idxb x c=>cD e x λx e=>cD e c λc e=>bA (asU hs.heap x c) λv=>k v e hs
 |op=>bP (dk op (Dn P) ⟨e,hs⟩) λv st=>k v st.env st.hs
def gX:U_->Bool
 |[]=>true
 |x::r=>bK x && gX r
def Cw:AB_->Bool
 |none=>true
 |some x=>bK x
def dx:oi->Bool
 |.mov x=>bK x
 |.ld _ 0 p=>bK p
 |.nilck x=>bK x
 |.bin _ x y=>bK x && bK y
 |.binb _ x y=>bK x && bK y
 |.un _ x=>bK x
 |.conv _ x=>bK x
 |.fa _ p=>bK p
 |.fld _ _ x=>bK x
 |.ia _ x i=>bK x && bK i
 |.iarr _ _ p i=>bK p && bK i
 |.ix _ _ _ x i=>bK x && bK i
 |.ixs x i=>bK x && bK i
 |.ext _ mv _=>!mv
 |.len x=>bK x
 |.call _ args=>gX args
 |.pick c a b=>bK c && bK a && bK b
 |.build _ ps=>gX (pr ps)
 |.toStr x=>bK x
 |.mkfn _ a c=>gX a && gX c
 |.mkslice _ l c=>bK l && bK c
 |.minmax _ xs=>gX xs
 |.slice _ x a b c=>bK x && (Cw a && (Cw b && Cw c))
 |_=>false
def zu:oi->Bool
 |.calli _ args=>gX args
 |.callv f args=>bK f && gX args
 |_=>false
def Vw (P:Nat->Z_)(i:VI)(e:aV)(hs:HS)(k:aV->HS->X_):X_ :=
 match i.guard with
 |none=>match i.th with
  |[]=>match i.dst with
   |some d=>bR P i.op e hs λv e hs=>k (put e d (firm v)) hs
   |none=>bR P i.op e hs λ_ e hs=>k e hs
  |th=>match i.dst with
   |some d=>bR P i.op e hs λv e hs=>lP (dS th v hs) λv hs=>k (put e d (firm v)) hs
   |none=>bR P i.op e hs λv e hs=>lP (dS th v hs) λ_ hs=>k e hs
 |some (s,w)=>match dx i.op,i.th,i.dst with
  |true,[],some d=>match get e s with
   |some g=>bA (gV g w (bR P i.op e hs λv _ _=>some v)) λv=>k (put e d (firm v)) hs
   |none=>none
  |_,_,_=>match zu i.op,i.th,i.dst with
   |true,[],some d=>match get e s with
    |some g=>bP (gH g w hs (bR P i.op e hs λv _ hs=>some (v,hs))) λv hs=>k (put e d (firm v)) hs
    |none=>none
   |_,_,_=>bA (cV (Dn P) i ⟨e,hs⟩) λst=>k st.env st.hs
def pn (P:Nat->Z_):T_->aV->HS->X_
 |[],e,hs=>some ⟨e,hs⟩
 |i::l,e,hs=>Vw P i e hs λe hs=>pn P l e hs
theorem avz {op:BinOp}{a b v:AV}(h:dw op a b=some v):∃x,v=.d x:=by
 unfold dw at h
 grind
theorem ay8 {op:UnOp}{a v:AV}(h:abZ op a=some v):∃x,v=.d x:=by
 unfold abZ at h
 grind
theorem fc {β:Type}{e:aV}{x:Rd}{k:AV->aV->Option β}:cD e x k=match rd e x with|some (v,e)=>k v e|none=>none:=rfl
theorem nS {β:Type}:∀{l:U_}{e:aV}{k:D_->aV->Option β},kC e l k=match rdAll e l with|some (vs,e)=>k vs e|none=>none
 |[],_,_=>rfl
 |x::r,e,k=>by
  simp only[kC,rdAll]
  cases rd e x with
  |none=>rfl
  |some p =>
   simp only;rw[nS]
   grind
def amd {β:Type}{e:aV}{x:AB_}{k:M_->aV->Option β}:my e x k=match rdOpt e x with|some (v,e)=>k v e|none=>none:=by
 cases x<;>grind [my,rdOpt]
def aul {h h':am}{n:I_}{p v:AV}(k:loadAt h n 0 p=some (v,h')):h'=h:=by
 unfold loadAt at k
 grind
def gj {β:Type}(x:L_)(k:AV->aV->HS->Option β):Option β :=
 match x with
 |some (v,st)=>k v st.env st.hs
 |none=>none
theorem ub {e e1:aV}{x:Rd}{v:AV}(hs:bK x=true)(h:rd e x=some (v,e1)):e1=e:=by
 cases x<;>grind [rd,bK]
theorem NC {a b:Rd}{st:St}:kQ (.c (B_ true)) a b st=match rd st.env a with|some (v,e)=>some (v,⟨e,st.hs⟩)|none=>none:=rfl
theorem Pv {a b:Rd}{st:St}:kQ (.c (B_ false)) a b st=match rd st.env b with|some (v,e)=>some (v,⟨e,st.hs⟩)|none=>none:=rfl
def JG {β:Type}{op:oi}{e:aV}{hs:HS}{k:AV->aV->HS->Option β}:bR P op e hs k=gj (dk op (Dn P) ⟨e,hs⟩) k:=by
 cases op with
 |mov x=>grind [bR,dk,TN,fc,gj]
 |pick c a b =>
  simp only[bR,dk,fc]
  cases hc:rd e c with
  |none=>grind [kQ,gj]
  |some q =>
   obtain⟨v,e1⟩:=q;have h0:kQ c a b ⟨e,hs⟩=kQ (.c v) a b ⟨e1,hs⟩:=by
    unfold kQ;simp only;rw[hc];rfl
   rw[h0];simp only;split
   .rename_i va _ vb _ hst hra hrb;simp only[af]at hst;have ea:=ub hst.1 hra;have eb:=ub hst.2 hrb;subst ea;subst eb;simp only[gj]
    cases v with
    |d x=>cases x with
     |bool t =>
      cases t
      all_goals grind [Pv,Uh,bA,NC]
     |_=>rfl
    |_=>rfl
   .simp only[bP,gj]
    grind
 |ld n t p =>
  cases t with
  |zero =>
   simp only[bR,dk,EB,fc,gj]
   cases rd e p with
   |none=>rfl
   |some q =>
    obtain⟨v,e1⟩:=q;simp only[eM,bA]
    cases hl:loadAt hs.heap n 0 v with
    |none=>rfl
    |some r=>obtain⟨v2,h2⟩:=r;simp only[aul hl]
  |succ t =>
   grind [bR,dk,EB,fc,gj,bP]
 |alloc zs=>rfl
 |box x =>
  grind [bR,dk,T5,fc,gj,dG,lA,Jm]
 |build zs ps =>
  grind [bR,dk,EQ,nS,gj,bA]
 |mks m ps =>
  grind [bR,dk,OQ,nS,gj,bA]
 |mksv m ps =>
  grind [bR,dk,YI,nS,gj,dG,lA,Jm,JY]
 |st n p x =>
  simp only[bR,dk,an3,fc,gj]
  grind [bA]
 |nilck x =>
  grind [bR,dk,HU,fc,gj,bA,Fm]
 |bin op x y =>
  simp only[bR,dk,NJ,Ui,fc,gj]
  grind [bA,eW,avz]
 |binb neg x y =>
  simp only[bR,dk,Nx,fc,gj]
  grind [bA,afw]
 |bina neg ks x y =>
  simp only[bR,dk,MD,fc,gj]
  cases rd e x<;>grind [bA,J1]
 |un op x =>
  grind [bR,dk,abC,fc,gj,bA,unD,ay8]
 |conv j x =>
  simp only[bR,dk,If,fc,gj]
  cases rd e x with
  |none=>rfl
  |some q =>
   obtain⟨v,e1⟩:=q;simp only[bA,aau]
   grind
 |toStr x =>
  simp only[bR,dk,Ng,fc,gj]
  grind [bA,MR]
 |mkfn f a c =>
  grind [bR,dk,I8,nS,gj]
 |mkslice z l c =>
  simp only[bR,dk,md,fc,gj]
  cases rd e l<;>grind [bA,Fn]
 |slice m x lo hi mx =>
  simp only[bR,dk,Mj,fc,amd,gj]
  cases rd e x<;>grind [bA,l7]
 |slarr n x lo hi mx =>
  simp only[bR,dk,Un,fc,amd,gj]
  cases rd e x with
  |none=>rfl
  |some q =>
   obtain⟨v,e1⟩:=q;simp only
   cases v<;>grind [bA,SN]
 |fa off p =>
  grind [bR,dk,aco,fc,gj,bA]
 |fld off n x =>
  simp only[bR,dk,OV,fc,gj]
  cases rd e x with
  |none=>rfl
  |some q =>
   obtain⟨v,e1⟩:=q;simp only[bA,ayU]
   grind
 |ia n x i =>
  simp only[bR,dk,ahm,fc,gj]
  cases rd e x with
  |none=>rfl
  |some q =>
   obtain⟨v,e1⟩:=q;simp only
   cases rd e1 i with
   |none=>rfl
   |some q =>
    obtain⟨w,e2⟩:=q;simp only[bA,ZW]
    cases qR w with
    |none=>rfl
    |some j =>
     simp only
     cases v<;>grind
 |iarr l n p i =>
  simp only[bR,dk,MM,fc,gj]
  cases rd e p<;>grind [bA,KY]
 |ix l n a x i =>
  simp only[bR,dk,Xg,fc,gj]
  cases rd e x with
  |none=>rfl
  |some q =>
   obtain⟨v,e1⟩:=q;simp only
   cases hi:rd e1 i with
   |none=>grind
   |some q =>
    obtain⟨w,e2⟩:=q;simp only[bA,ixV]
    grind
 |ixs x i =>
  simp only[bR,dk,Pc,fc,gj]
  cases rd e x with
  |none=>rfl
  |some q =>
   obtain⟨v,e1⟩:=q;simp only
   cases hi:rd e1 i with
   |none=>grind
   |some q =>
    obtain⟨w,e2⟩:=q;simp only[bA,anZ]
    grind
 |ext j mv i =>
  cases mv with
  |true =>
   simp only[bR,dk,C0,gj]
   cases get e j with
   |none=>rfl
   |some t =>
    simp only[bA,AC,NX]
    grind
  |false =>
   simp only[bR,dk,C0,gj]
   cases get e j with
   |none=>rfl
   |some t =>
    simp only[bA,AC]
    grind
 |len x =>
  grind [bR,dk,TG,fc,gj,bA]
 |cap x =>
  simp only[bR,dk,Pk,fc,gj]
  cases rd e x with
  |none=>rfl
  |some q =>
   obtain⟨v,e1⟩:=q;simp only[dG,abP]
   grind
 |app m x y =>
  simp only[bR,dk,HQ,fc,gj]
  cases rd e x<;>grind [bP,abA]
 |appz z x n =>
  simp only[bR,dk,afL,fc,gj]
  grind [bP,Hx]
 |cpy m x y =>
  simp only[bR,dk,Y6,fc,gj]
  cases rd e x with
  |none=>rfl
  |some q =>
   obtain⟨v,e1⟩:=q;simp only
   cases rd e1 y with
   |none=>rfl
   |some q =>
    obtain⟨w,e2⟩:=q;simp only[bP,afN]
    cases elems hs.heap w with
    |none=>rfl
    |some ys =>
     simp only
     cases v with
     |sl id off len =>
      grind
     |_ =>
      simp only;generalize lenOf _=n
      cases n with
      |none=>rfl
      |some n=>cases n<;>rfl
 |clr z x =>
  simp only[bR,dk,TP,fc,gj]
  cases rd e x with
  |none=>rfl
  |some q =>
   simp only[bA,aze]
   grind
 |minmax b xs =>
  simp only[bR,dk,Ad,nS,gj]
  cases rdAll e xs with
  |none=>rfl
  |some q =>
   simp only[bA,DP]
   grind
 |call f args =>
  grind [bR,dk,F5,nS,gj,bA]
 |calli f args =>
  grind [bR,dk,EC,nS,gj,bP]
 |callv f args =>
  simp only[bR,dk,DF,fc,nS,gj]
  grind [bP]
 |kill is=>rfl
 |idxb x c =>
  simp only[bR,dk,ahC,fc,gj]
  grind [bA]
 |_ =>
  simp only[bR,bP,gj]
  grind
theorem P9:∀{l:U_}{e e1:aV}{vs:D_},gX l=true->rdAll e l=some (vs,e1)->e1=e
 |[],e,e1,vs,_,h=>by grind [rdAll]
 |x::r,e,e1,vs,hs,h=>by
  simp only[gX,af]at hs;simp only[rdAll]at h;split at h
  .simp at h
  .rename_i v e2 h1;split at h
   .simp at h
   .rename_i vs2 e3 h2;have a1:=ub hs.1 h1;have a2:=P9 hs.2 h2
    simp_all
theorem ky {β:Type}{e:aV}{x:Rd}{k:AV->aV->Option β}(h:bK x=true):cD e x k=cD e x λv _=>k v e:=by
 grind [cD,ub]
theorem yc {β:Type}{e:aV}{l:U_}{k:D_->aV->Option β}(h:gX l=true):kC e l k=kC e l λv _=>k v e:=by
 grind [nS,P9]
theorem NN {β:Type}{e:aV}{x:AB_}{k:M_->aV->Option β}(h:Cw x=true):my e x k=my e x λv _=>k v e:=by
 cases x with
 |none=>rfl
 |some x=>exact ky (k:=λv e=>k (some v) e) h
theorem lQ {α β γ:Type}{x:Option α}{f:α->Option β}{g:β->Option γ}:bA (bA x f) g=bA x λv=>bA (f v) g:=by
 cases x<;>rfl
theorem gh {β γ:Type}{e:aV}{x:Rd}{k:AV->aV->Option β}{g:β->Option γ}:bA (cD e x k) g=cD e x λv e=>bA (k v e) g:=by
 simp only[cD];cases rd e x<;>rfl
theorem Kw {β γ:Type}{e:aV}{x:U_}{k:D_->aV->Option β}{g:β->Option γ}:bA (kC e x k) g=kC e x λv e=>bA (k v e) g:=by
 simp only[nS];cases rdAll e x<;>rfl
theorem fI {α β:Type}{v:α}{f:α->Option β}:bA (some v) f=f v:=rfl
def Sh {β:Type}{e:aV}{x y:Rd}{k:AV->AV->aV->Option β}(h:bK x=true)(h2:bK y=true):(cD e x λa e=>cD e y λb e=>k a b e)=cD e x λa _=>cD e y λb _=>k a b e:=by
 grind [cD,ub]
def O9 {β:Type}{e:aV}{x y:Rd}{k:AV->AV->Option β}(h:bK x=true)(h2:bK y=true):(cD e x λa e=>cD e y λb _=>k a b)=cD e x λa _=>cD e y λb _=>k a b:=Sh (k:=λa b _=>k a b) h h2
def api {β:Type}{op:oi}{e:aV}{hs:HS}{k:AV->aV->HS->Option β}(h:dx op=true):bR P op e hs k=bA (bR P op e hs λv _ _=>some v) λv=>k v e hs:=by
 cases op with
 |mov x =>
  grind [dx,bR,gh,fI,ky]
 |ld n t p =>
  cases t<;>simp_all [dx,bR,gh,lQ,fI,ky]
 |nilck x =>
  grind [dx,bR,gh,lQ,fI,ky]
 |un op x =>
  grind [dx,bR,gh,lQ,fI,ky]
 |conv op x =>
  grind [dx,bR,gh,lQ,fI,ky]
 |fa off p =>
  grind [dx,bR,gh,lQ,fI,ky]
 |fld off n p =>
  grind [dx,bR,gh,lQ,fI,ky]
 |len x =>
  grind [dx,bR,gh,lQ,fI,ky]
 |bin op x y =>
  simp only[dx,af]at h;simp only[bR,gh,lQ,fI];exact(Sh h.1 h.2).trans (O9 h.1 h.2).symm
 |binb op x y =>
  simp only[dx,af]at h;simp only[bR,gh,lQ,fI];exact(Sh h.1 h.2).trans (O9 h.1 h.2).symm
 |ia n x y =>
  simp only[dx,af]at h;simp only[bR,gh,lQ,fI];exact(Sh h.1 h.2).trans (O9 h.1 h.2).symm
 |iarr l n x y =>
  simp only[dx,af]at h;simp only[bR,gh,lQ,fI];exact(Sh h.1 h.2).trans (O9 h.1 h.2).symm
 |ix l n a x y =>
  simp only[dx,af]at h;simp only[bR,gh,lQ,fI];exact(Sh h.1 h.2).trans (O9 h.1 h.2).symm
 |ixs x y =>
  simp only[dx,af]at h;simp only[bR,gh,lQ,fI];exact(Sh h.1 h.2).trans (O9 h.1 h.2).symm
 |ext j mv i =>
  cases mv with
  |true=>simp[dx]at h
  |false =>
   simp only[bR]
   cases get e j with
   |none=>rfl
   |some t=>grind [lQ,fI]
 |call f args =>
  grind [dx,bR,Kw,lQ,fI,yc]
 |build zs ps =>
  grind [dx,bR,Kw,lQ,fI,yc]
 |slice m x lo hi mx =>
  simp only[dx,af]at h;obtain⟨h0,h1,h2,h3⟩:=h;have bd:∀{γ:Type}{x:AB_}{e:aV}{k:M_->aV->M_}{g:AV->Option γ},bA (my e x k) g=my e x λv e=>bA (k v e) g:=by
   intro γ x e k g
   cases x with
   |none=>rfl
   |some x=>exact gh
  simp only[bR,gh,bd,lQ,fI];rw[ky h0,ky (k:=λv e_1=>my e_1 lo λv_1 e_1=>my e_1 hi λv_2 e_1=>my e_1 mx λv_3 _=>bA (l7 hs.heap m v v_1 v_2 v_3) λv=>k v e hs) h0]
  congr 1
  funext v _;rw[NN h1,NN (k:=λv_1 e_1=>my e_1 hi λv_2 e_1=>my e_1 mx λv_3 _=>bA (l7 hs.heap m v v_1 v_2 v_3) λv=>k v e hs) h1]
  grind [NN]
 |minmax b ps =>
  grind [dx,bR,Kw,lQ,fI,yc]
 |toStr x =>
  grind [dx,bR,gh,lQ,fI,ky]
 |mkslice z x y =>
  simp only[dx,af]at h;simp only[bR,gh,lQ,fI];exact(Sh h.1 h.2).trans (O9 h.1 h.2).symm
 |mkfn f a c =>
  simp_all [dx,bR,Kw,fI,yc]
 |pick c a b =>
  simp only[dx,af]at h;simp only[bR,gh];have h2:(bK a && bK b)=true:=u_;simp only[cD]
  cases hc:rd e c with
  |none=>rfl
  |some q =>
   obtain⟨v,e1⟩:=q;have:=ub h.1.1 hc;subst this;simp only[h2]
   cases ha:rd e1 a with
   |none =>
    cases hb:rd e1 b with
    |none =>
     cases v<;>try rfl
     rename_i d;cases d<;>try rfl
     rename_i t;cases t<;>simp only[NC,Pv,ha,hb,bP,bA]
    |some q =>
     have:=ub h.2 hb;subst this
     cases v<;>try rfl
     rename_i d;cases d<;>try rfl
     rename_i t;cases t<;>simp only[NC,Pv,ha,hb,bP,bA]
   |some q =>
    obtain⟨va,ea⟩:=q;have:=ub h.1.2 ha;subst this
    cases hb:rd ea b with
    |none =>
     cases v<;>try rfl
     rename_i d;cases d<;>try rfl
     rename_i t;cases t<;>simp only[NC,Pv,ha,hb,bP,bA]
    |some q=>grind [lQ,fI]
 |_=>simp[dx]at h
def auS {α β γ δ ε:Type}{x:Option (α×β)}{f:α->β->Option (γ×δ)}{g:γ->δ->Option ε}:bP (bP x f) g=bP x λv w=>bP (f v w) g:=by
 cases x<;>rfl
def am8 {β:Type}{op:oi}{e:aV}{hs:HS}{k:AV->aV->HS->Option β}(h:zu op=true):bR P op e hs k=bP (bR P op e hs λv _ hs=>some (v,hs)) λv hs=>k v e hs:=by
 cases op with
 |calli f args =>
  simp only[bR];rw[yc h];simp only[nS]
  cases rdAll e args with
  |none=>rfl
  |some q=>simp only[auS];rfl
 |callv f args =>
  simp only[zu,af]at h;simp only[bR];simp only[yc h.2];simp only[cD]
  cases hf:rd e f with
  |none=>rfl
  |some q =>
   obtain⟨v,e1⟩:=q;have:=ub h.1 hf;subst this;simp only[nS]
   cases rdAll e1 args with
   |none=>rfl
   |some q=>simp only[auS];rfl
 |_=>simp[zu]at h
def adf:firm (.tup [])=.tup []:=rfl
def Ik {i:VI}{e:aV}{hs:HS}{k:aV->HS->X_}:Vw P i e hs k=bA (cV (Dn P) i ⟨e,hs⟩) λst=>k st.env st.hs:=by
 obtain⟨dst,guard,op,th⟩:=i;unfold Vw
 cases guard with
 |none =>
  simp only[cV,gp]
  cases th with
  |nil =>
   cases dst with
   |none =>
    simp only[JG,gj,cP]
    cases dk op (Dn P) ⟨e,hs⟩<;>rfl
   |some d =>
    simp only[JG,gj,cP]
    cases dk op (Dn P) ⟨e,hs⟩<;>rfl
  |cons p r =>
   cases dst with
   |none =>
    simp only[JG,gj,cP,lP]
    cases dk op (Dn P) ⟨e,hs⟩<;>rfl
   |some d =>
    simp only[JG,gj,cP,lP]
    cases dk op (Dn P) ⟨e,hs⟩<;>rfl
 |some g =>
  obtain⟨s,w⟩:=g;simp only;split
  .rename_i d hst;have he:∀{k:AV->aV->HS->X_},gj (dk op (Dn P) ⟨e,hs⟩) k=bA (bR P op e hs λv _ _=>some v) λv=>k v e hs:=by
    intro k;rw[<-JG,api hst]
   have hv:∀{k:aV->HS->X_},bA (gp (Dn P) ⟨some d,some (s,w),op,[]⟩ ⟨e,hs⟩) (λst=>k st.env st.hs)=bA (bR P op e hs λv _ _=>some v) λv=>k (put e d (firm v)) hs:=by
    intro k;rw[<-he (k:=λv e hs=>k (put e d (firm v)) hs)];simp only[gp,gj,cP]
    cases dk op (Dn P) ⟨e,hs⟩<;>rfl
   simp only[cV]
   cases get e s with
   |none=>rfl
   |some g =>
    cases g with
    |d x=>cases x with
     |bool b =>
      simp only[gV]
      cases hb:(b == w)<;>simp_all [bA,adf,cP]
     |_=>rfl
    |tup vs=>cases vs<;>rfl
    |_=>rfl
  .split
   .rename_i d hst _;have he:∀{k:AV->aV->HS->X_},gj (dk op (Dn P) ⟨e,hs⟩) k=bP (bR P op e hs λv _ hs=>some (v,hs)) λv hs=>k v e hs:=by
     intro k;rw[<-JG,am8 hst]
    have hv:∀{k:aV->HS->X_},bA (gp (Dn P) ⟨some d,some (s,w),op,[]⟩ ⟨e,hs⟩) (λst=>k st.env st.hs)=bP (bR P op e hs λv _ hs=>some (v,hs)) λv hs=>k (put e d (firm v)) hs:=by
     intro k;rw[<-he (k:=λv e hs=>k (put e d (firm v)) hs)];simp only[gp,gj,cP]
     cases dk op (Dn P) ⟨e,hs⟩<;>rfl
    simp only[cV]
    cases get e s with
    |none=>rfl
    |some g =>
     cases g with
     |d x=>cases x with
      |bool b =>
       simp only[gH]
       cases hb:(b == w)<;>simp_all [bA,bP,adf,cP]
      |_=>rfl
     |tup vs=>cases vs<;>rfl
     |_=>rfl
   .rfl
theorem abd:∀{l:T_}{e:aV}{hs:HS},kB (Dn P) l ⟨e,hs⟩=pn P l e hs
 |[],_,_=>rfl
 |i::l,e,hs=>by
  simp only[kB,pn,Ik,bA]
  cases cV (Dn P) i ⟨e,hs⟩ with
  |none=>rfl
  |some st=>exact abd
def FM {d:Bool}{ops:T_}{e:aV}{hs:HS}{x:X_}(h:pn P ops e hs=x):(Dn P).code (.reg d ops) ⟨e,hs⟩=fg x:=by
 grind [W4,abd]
def ant {perm gco:C_}{ops:T_}{e:aV}{hs:HS}{x:X_}(ha:sv e ops=true)(hb:(perm.all λi=>decide (i<ops.length))=true)(h:pn P (perm.filterMap λi=>ops[i]?) e hs=x):(Dn P).code (.regP perm gco [] ops) ⟨e,hs⟩=fg x:=by
 grind [arq,acN,abd]
def azP (e:aV)(d:I_):Bool :=
 match d with
 |some d=>match get e d with
  |some a=>LC a
  |none=>false
 |none=>false
def auf (P:Nat->Z_)(F:C_)(v:VI)(e:aV)(hs:HS)(k:aV->HS->X_):X_ :=
 match tP v.op with
 |.call=>Vw P v e hs λe2 s2=>dG (dE F hs.heap s2.heap) (k e2 s2)
 |.take=>Vw P v e hs λe2 s2=>dG (azP e2 v.dst) (k e2 s2)
 |.read=>Vw P v e ⟨dM (nT v e) hs.heap,hs.next⟩ λe2 _=>k e2 hs
def ZK (P:Nat->Z_):List (Bool×VI)->C_->aV->HS->X_
 |[],_,e,hs=>some ⟨e,hs⟩
 |(a,v)::l,F,e,hs=>match a with
  |false=>Vw P v e hs λe2 s2=>ZK P l F e2 s2
  |true=>auf P F v e hs λe2 s2=>ZK P l (jU true v e F) e2 s2
def avN {F:C_}{v:VI}{e:aV}{hs:HS}{k:aV->HS->X_}:auf P F v e hs k=bA (wH (Dn P) F v ⟨e,hs⟩) λst=>k st.env st.hs:=by
 unfold auf wH
 cases tP v.op with
 |call =>
  simp only[Ik]
  cases cV (Dn P) v ⟨e,hs⟩ with
  |none=>rfl
  |some st =>
   simp only[bA]
   cases dE F hs.heap st.hs.heap<;>rfl
 |take =>
  simp only[Ik]
  cases cV (Dn P) v ⟨e,hs⟩ with
  |none=>rfl
  |some st =>
   simp only[bA,azP]
   cases v.dst with
   |none=>rfl
   |some d =>
    simp only
    cases get st.env d with
    |none=>rfl
    |some a=>simp only;cases LC a<;>rfl
 |read =>
  simp only[Ik]
  cases cV (Dn P) v ⟨e,⟨dM (nT v e) hs.heap,hs.next⟩⟩<;>rfl
def afE (nr:C_)(ops:T_)(i:Nat):Option (Bool×VI) :=
 match ops[i]? with
 |some v=>some (et i nr,v)
 |none=>none
def Xf {nr:C_}{ops:T_}:∀{l:C_}{F:C_}{e:aV}{hs:HS},(l.all λi=>decide (i<ops.length))=true->fH (Dn P) nr ops l F ⟨e,hs⟩=ZK P (l.filterMap (afE nr ops)) F e hs
 |[],_,_,_,_=>rfl
 |i::l,F,e,hs,hb=>by
  simp only[gF,af,decide_eq_true_eq]at hb;have h1:ops[i]?=some ops[i]:=bB hb.1;have h2:afE nr ops i=some (et i nr,ops[i]):=by grind [afE]
  simp only[fH,h1,List.filterMap_cons,h2,ZK,b9]
  cases et i nr with
  |false =>
   simp only[Ik,jU]
   cases cV (Dn P) ops[i] ⟨e,hs⟩ with
   |none=>rfl
   |some st=>exact Xf hb.2
  |true =>
   simp only[avN]
   cases wH (Dn P) F ops[i] ⟨e,hs⟩ with
   |none=>rfl
   |some st=>exact Xf hb.2
def dL {perm gco nr:C_}{ops:T_}{e:aV}{hs:HS}{x:X_}(ha:sv e ops=true)(hb:(perm.all λi=>decide (i<ops.length))=true)(h:ZK P (perm.filterMap (afE nr ops)) [] e hs=x):(Dn P).code (.regP perm gco nr ops) ⟨e,hs⟩=fg x:=by
 rw[iJ,<-h,<-Xf hb];simp only[da,Mu,Nf,ha]
 cases fH (Dn P) nr ops perm [] ⟨e,hs⟩<;>rfl
abbrev F (i:Nat):VC:=.reg false [⟨none,none,.free i,[]⟩]
def frK (e:aV)(hs:HS)(i:Nat):M_->J_
 |some (.ptr id _)=>some (.normal,⟨del e i,⟨del hs.heap id,hs.next⟩⟩)
 |some (.fn _ _ caps)=>some (.normal,⟨del e i,⟨delAll hs.heap (I7 caps),hs.next⟩⟩)
 |_=>some (.normal,⟨e,hs⟩)
def aB8 {e:aV}{h:am}{n i id o:Nat}:frK e ⟨h,n⟩ i (some (.ptr id o))=some (.normal,⟨del e i,⟨del h id,n⟩⟩):=rfl
def aBE {e:aV}{h:am}{n i f:Nat}{a c:D_}:frK e ⟨h,n⟩ i (some (.fn f a c))=some (.normal,⟨del e i,⟨delAll h (I7 c),n⟩⟩):=rfl
def azh {i:Nat}{e:aV}{hs:HS}:(Dn P).code (F i) ⟨e,hs⟩=frK e hs i (get e i):=by
 rw[W4];simp only[kB,cV,gp,dk,XO]
 cases get e i with
 |none=>rfl
 |some v=>cases v<;>rfl
abbrev K (l:C_):VC:=.reg false [⟨none,none,.kill l,[]⟩]
def azZ {is:C_}{e:aV}{hs:HS}:(Dn P).code (K is) ⟨e,hs⟩=some (.normal,⟨is.foldl del e,hs⟩):=by rw[W4];rfl
abbrev jX:=@Nat.two_pow_add_eq_or_of_lt
variable {P:Nat->Z_}
attribute [simp ↓] aAv az6 aAB azV ay2 ax6 ayZ azL azk azX ayB ayq azj aAy azq aye ay3 aAp Mc avW awl awB awz awt
attribute [simp ↓] ap8 aps atj amZ apU atW am9 azZ azh aB8 aBE avY avS apG
attribute [simp] delAll I7
attribute [simp] aFH ayo aFg put1 aFc ayf
attribute [congr] ite_congr awS axI asJ av7 aww asu
def N3 (x:Option (D_×St)):W_ :=
 match x with
 |some ([v],st)=>some (v,st.hs)
 |some (vs,st)=>some (.tup vs,st.hs)
 |none=>none
def azv {fn:aj}{st:St}:Gb fn st=N3 (fL st fn.results):=(by
 simp only[Gb,N3]
 cases fL st fn.results with
 |none=>rfl
 |some q =>
  obtain⟨vs,s⟩:=q
  cases vs with
  |nil=>rfl
  |cons v r=>cases r<;>rfl)
@[simp] def aHF {st:St}:N3 (some ([],st))=some (.tup [],st.hs):=(rfl)
@[simp] def aHV {v:AV}{st:St}:N3 (some ([v],st))=some (v,st.hs):=(rfl)
@[simp] def aG3 {v w:AV}{r:D_}{st:St}:N3 (some (v::w::r,st))=some (.tup (v::w::r),st.hs):=(rfl)
def wB (rs:BA_)(x:J_):W_ :=
 match x with
 |some (.normal,st)=>N3 (fL st rs)
 |some (.ret,st)=>N3 (fL st rs)
 |_=>none
@[simp ↓] def aGU {rs:BA_}{st:St}:wB rs (some (.normal,st))=N3 (fL st rs):=(rfl)
@[simp ↓] def aGP {rs:BA_}{st:St}:wB rs (some (.ret,st))=N3 (fL st rs):=(rfl)
@[simp ↓] def aHC {rs:BA_}{c:Prop}[Decidable c]{x y:J_}:wB rs (if c then x else y)=if c then wB rs x else wB rs y:=by split<;>rfl
@[simp ↓] def amo {n:Nat}{rs:BA_}{b:VC}{x:J_}:Xt ⟨n,rs,b⟩ x=wB rs x:=by
 simp only[Xt,wB];split<;>simp only[azv]
def ax1 {rs:BA_}{x y:J_}(h:x=y):wB rs x=wB rs y:=by rw[h]
attribute [congr] ax1
theorem ah {a b:VC}{st:St}(h:a=b):(Dn P).code (.loop a) st=qV P a ((Dn P).code b st):=by rw[<-h];exact aqG
def aH {f:FuncId}{fn:aj}{n:Nat}{rs:BA_}{b:VC}{args:D_}(hf:P f=some fn)(hd:fn=⟨n,rs,b⟩)(hl:args.length=n):bi P f args=tj (wB rs ((Dn P).code b ⟨kp 0 args,⟨[],0⟩⟩)):=by
 subst hd;rw[arO hf hl,amo]
def aZ {f:FuncId}{fn:aj}{n:Nat}{rs:BA_}{b:VC}{args:D_}{hs:HS}(hf:P f=some fn)(hd:fn=⟨n,rs,b⟩)(hl:args.length=n):(Dn P).call f args hs=wB rs ((Dn P).code b ⟨kp 0 args,hs⟩):=by
 subst hd;rw[adh hf hl,amo]
@[simp ↓] def aIK {α β:Type}{v:α}{f:α->Option β}:bA (some v) f=f v:=(rfl)
@[simp ↓] def aIR {α β:Type}{f:α->Option β}:bA none f=none:=(rfl)
@[simp ↓] def aIZ {α β:Type}{c:Prop}[Decidable c]{x y:Option α}{f:α->Option β}:bA (if c then x else y) f=if c then bA x f else bA y f:=by split<;>rfl
@[simp ↓] def aIM {α γ β:Type}{v:α}{w:γ}{f:α->γ->Option β}:bP (some (v,w)) f=f v w:=(rfl)
@[simp ↓] def aIS {α γ β:Type}{f:α->γ->Option β}:bP none f=none:=(rfl)
@[simp ↓] def aII {α γ β:Type}{c:Prop}[Decidable c]{x y:Option (α×γ)}{f:α->γ->Option β}:bP (if c then x else y) f=if c then bP x f else bP y f:=by split<;>rfl
@[simp ↓] def aIW {α β:Type}{x:α}{f:α->β}:lA x f=f x:=(rfl)
@[simp ↓] def aIT {α γ β:Type}{x:α}{y:γ}{f:α->γ->β}:lP (x,y) f=f x y:=(rfl)
@[simp ↓] def aIo {β:Type}{x:Option β}:dG true x=x:=(rfl)
@[simp ↓] def aIB {β:Type}{x:Option β}:dG false x=none:=(rfl)
def aBz {α β:Type}{x y:Option α}{f:α->Option β}(h:x=y):bA x f=bA y f:=by rw[h]
def aBI {α γ β:Type}{x y:Option (α×γ)}{f:α->γ->Option β}(h:x=y):bP x f=bP y f:=by rw[h]
def aCn {α β:Type}{x y:α}{f:α->β}(h:x=y):lA x f=lA y f:=by rw[h]
def aBh {α γ β:Type}{x y:α×γ}{f:α->γ->β}(h:x=y):lP x f=lP y f:=by rw[h]
attribute [congr] aBz aBI aCn aBh
@[simp ↓] def aIr {x:M_}:gV (B_ true) true x=x:=(rfl)
@[simp ↓] def aIc {x:M_}:gV (B_ false) false x=x:=(rfl)
@[simp ↓] def aIz {x:M_}:gV (B_ true) false x=some (.tup []):=(rfl)
@[simp ↓] def aIy {x:M_}:gV (B_ false) true x=some (.tup []):=(rfl)
@[simp ↓] def aIN {w:Bool}{x:M_}:gV (.tup []) w x=some (.tup []):=(rfl)
@[simp ↓] def aIH {hs:HS}{x:W_}:gH (B_ true) true hs x=x:=(rfl)
@[simp ↓] def aIu {hs:HS}{x:W_}:gH (B_ false) false hs x=x:=(rfl)
@[simp ↓] def aIn {hs:HS}{x:W_}:gH (B_ true) false hs x=some (.tup [],hs):=(rfl)
@[simp ↓] def aIg {hs:HS}{x:W_}:gH (B_ false) true hs x=some (.tup [],hs):=(rfl)
@[simp ↓] def aGD {a b:AV}:Uh (B_ true) a b=some a:=(rfl)
@[simp ↓] def aF5 {a b:AV}:Uh (B_ false) a b=some b:=(rfl)
@[simp] def aHs {x:D}:firm (.d x)=.d x:=(rfl)
@[simp] def aFX:firm .nl=.nl:=(rfl)
@[simp] def aD2 {p:Bool}{m:Nat}{xs:E_}:firm (.own p m xs)=.own false m xs:=(rfl)
@[simp] def aED {cs:D_}:firm (.agg cs)=.agg (cs.map nu):=(rfl)
@[simp] def aEh {cs:D_}:firm (.tup cs)=.tup (cs.map BQ):=(rfl)
@[simp] def aD4 {a b:Nat}:firm (.ptr a b)=.ptr a b:=(rfl)
@[simp] def aEg {a b c:Nat}:firm (.pel a b c)=.pel a b c:=(rfl)
@[simp] def aD8 {a:Y_}{b:Nat}:firm (.pim a b)=.pim a b:=(rfl)
@[simp] def aGz {a b c:Nat}:firm (.sl a b c)=.sl a b c:=(rfl)
@[simp] def aFY {f:FuncId}{a b:D_}:firm (.fn f a b)=.fn f a b:=(rfl)
@[simp] def aA7 {n:Nat}:firm (.yield n)=.yield n:=(rfl)
def r5 {op:BinOp}{a b:AV}{x:D}(h:dw op a b=some (.d x)):eW op a b=some x:=by simp only[eW,h]
def AI {op:BinOp}{a b:AV}{c:Prop}[Decidable c]{x y:D}(h:dw op a b=if c then some (.d x) else some (.d y)):eW op a b=if c then some x else some y:=by
 by_cases hc:c<;>simp[eW,h,hc]
@[simp] def aG2 {k:IntKind}{a b:Int}:eW .add (.d (.int k a)) (.d (.int k b))=some (.int k (wr k (a+b))):=r5 awe
@[simp] def aHH {k:IntKind}{a b:Int}:eW .sub (.d (.int k a)) (.d (.int k b))=some (.int k (wr k (a-b))):=r5 aw6
@[simp] def aGT {k:IntKind}{a b:Int}:eW .mul (.d (.int k a)) (.d (.int k b))=some (.int k (wr k (a*b))):=r5 axG
@[simp] def aG5 {k:IntKind}{a b:Int}(h:b≠0):eW .quo (.d (.int k a)) (.d (.int k b))=some (.int k (wr k (a.tdiv b))):=r5 (ax0 h)
@[simp] def aGO {k:IntKind}{a b:Int}(h:b≠0):eW .rem (.d (.int k a)) (.d (.int k b))=some (.int k (a.tmod b)):=r5 (axM h)
@[simp] def aHo {k:IntKind}{a b:Int}:eW .eql (.d (.int k a)) (.d (.int k b))=if a=b then some (.bool true) else some (.bool false):=AI axy
@[simp] def aG4 {k:IntKind}{a b:Int}:eW .neq (.d (.int k a)) (.d (.int k b))=if a=b then some (.bool false) else some (.bool true):=AI axh
@[simp] def aHh {k:IntKind}{a b:Int}:eW .lss (.d (.int k a)) (.d (.int k b))=if a<b then some (.bool true) else some (.bool false):=AI axa
@[simp] def aHp {k:IntKind}{a b:Int}:eW .leq (.d (.int k a)) (.d (.int k b))=if a<=b then some (.bool true) else some (.bool false):=AI awd
@[simp] def aHv {k:IntKind}{a b:Int}:eW .gtr (.d (.int k a)) (.d (.int k b))=if b<a then some (.bool true) else some (.bool false):=AI aw7
@[simp] def aHt {k:IntKind}{a b:Int}:eW .geq (.d (.int k a)) (.d (.int k b))=if b<=a then some (.bool true) else some (.bool false):=AI aw0
@[simp] def sq {k j:IntKind}{a b:Int}(h:0<=b):eW .shl (.d (.int k a)) (.d (.int j b))=some (.int k (wr k (a*((2 ^ (min b.toNat k.bits):Nat):Int)))):=r5 (awE h)
@[simp] def kP {k j:IntKind}{a b:Int}(h:0<=b):eW .shr (.d (.int k a)) (.d (.int j b))=some (.int k (a.fdiv ((2 ^ (min b.toNat k.bits):Nat):Int))):=r5 (aw5 h)
@[simp] def aF8 {a b:AG_}:eW .eql (.d (.str a)) (.d (.str b))=if a=b then some (.bool true) else some (.bool false):=AI atJ
@[simp] def aFR {a b:AG_}:eW .neq (.d (.str a)) (.d (.str b))=if a=b then some (.bool false) else some (.bool true):=AI att
def aoB {k:IntKind}{a b:Nat}(h:a<jW k)(h2:b<jW k)(h3:a |||b<jW k):eW .or (.d (.int k (a:Int))) (.d (.int k (b:Int)))=some (.int k ((a |||b:Nat):Int)):=r5 (azT h h2 h3)
def ao1 {k:IntKind}{a b:Nat}(h:a<jW k)(h2:b<jW k):eW .and (.d (.int k (a:Int))) (.d (.int k (b:Int)))=some (.int k ((a &&& b:Nat):Int)):=r5 (axm h h2)
def aAl {k:IntKind}{a b:Nat}(h:a<jW k)(h2:b<jW k)(h3:a ^^^ b<jW k):eW .xor (.d (.int k (a:Int))) (.d (.int k (b:Int)))=some (.int k ((a ^^^ b:Nat):Int)):=r5 (awK h h2 h3)
def aqt {n b:Nat}(h:b<=1):2*n |||b=2*n+b:=by
 have:=jX (i:=1) (b:=b) o_ n;simpa using this.symm
@[simp] def aGZ {a b:Int}(h:0<=a)(h1:a<4611686018427387904)(h2:a % 2=0)(h3:0<=b)(h4:b<=1):eW .or (A_ a) (A_ b)=some (.int .i64 (a+b)):=by
 obtain⟨n,rfl⟩:∃n:Nat,a=((2*n:Nat):Int):=⟨(a / 2).toNat,o_⟩
 obtain⟨m,rfl⟩:=az h3;have hm:m<=1:=o_;have ht:jW .i64=9223372036854775808:=rfl;rw[aoB o_ o_ (by rw[aqt hm];omega),aqt hm];simp
@[simp] def aGg {b:Bool}:unD .not (B_ b)=some (.bool !b):=(rfl)
@[simp] def aFT {k:IntKind}{n:Int}:unD .neg (.d (.int k n))=some (.int k (wr k (0-n))):=(rfl)
@[simp] def aGv {k j:IntKind}{n:Int}:aau k (.d (.int j n))=some (.int k (wr k n)):=(rfl)
attribute [simp] aiA aBZ ax9 ayR aAh
attribute [simp] atU atO aqY ard IntKind.bits
@[simp] def aF6 {h:am}{m:Nat}{xs:E_}{k:IntKind}{i:Int}(h0:0<=i):ZW h m (.d (.lst xs)) (.d (.int k i))=bA xs[i.toNat]? λx=>if x.length=m then some (.pim x 0) else none:=by
 simp only[ZW,Ts h0,elems]
 cases xs[i.toNat]? with
 |none=>rfl
 |some x =>
  simp only[bA];by_cases hx:x.length=m
  .simp[hx]
  .simp[hx,aa6]
@[simp] def aHr {h:am}{m j:Nat}{xs:E_}{k:IntKind}{i:Int}(h0:0<=i):ZW h m (.own false j xs) (.d (.int k i))=bA xs[i.toNat]? λx=>if x.length=m then some (.pim x 0) else none:=by
 simp only[ZW,Ts h0,elems]
 cases xs[i.toNat]? with
 |none=>rfl
 |some x =>
  simp only[bA];by_cases hx:x.length=m
  .simp[hx]
  .simp[hx,aa6]
attribute [simp] JC ask apI
@[simp] def aF2 {h:am}{n:I_}{cs:Y_}{o:Nat}:eM h n (.pim cs o)=og n cs o:=by
 simp only[eM,loadAt];cases og n cs o<;>rfl
@[simp] def aE2 {cs:Y_}{o:Nat}:og none cs o=(cs[o]?).map .d:=by simp only[og];cases cs[o]?<;>rfl
@[simp] def aEm {cs:Y_}{n o:Nat}:og (some n) cs o=if o+n<=cs.length then some (.agg ((sub cs o n).map .d)) else none:=by
 by_cases h:o+n<=cs.length<;>simp[og,ack,h]
@[simp] def gq0 {α:Type}{x:α}{r:List α}:(x::r)[0]?=some x:=(rfl)
@[simp] def aE1 {f:FuncId}{vs:D_}{h:am}:eJ (Dn P) f vs h=bA (viewArgs h vs) λds=>bA (bi P f ds) λv=>if vs.any tz=false then some v else if jB v=true then some v else some (PM v):=by
 simp only[eJ,bi,tj,bA]
 cases viewArgs h vs with
 |none=>rfl
 |some ds =>
  simp only
  cases (Dn P).call f ds ⟨[],0⟩ with
  |none=>rfl
  |some q =>
   obtain⟨v,h2⟩:=q;simp only
   cases gS h2.heap v with
   |none=>rfl
   |some v =>
    simp only
    cases vs.any tz with
    |false=>rfl
    |true=>simp only;cases jB v<;>rfl
@[simp] def aF9 {x:D}:share (.d x)=.d x:=(rfl)
@[simp] def aEr  : share (.nl)=.nl:=(rfl)
@[simp] def aBb {m:Nat}{xs:E_}:share (.own false m xs)=.d (.lst xs):=(rfl)
@[simp] def aDi {cs:D_}:share (.agg cs)=.agg (shareAll cs):=(rfl)
@[simp] def aC4 {cs:D_}:share (.tup cs)=.tup (shareAll cs):=(rfl)
@[simp] def aC2 {a b:Nat}:share (.ptr a b)=.ptr a b:=(rfl)
@[simp] def aDe {a b c:Nat}:share (.pel a b c)=.pel a b c:=(rfl)
@[simp] def aDx {cs:Y_}{b:Nat}:share (.pim cs b)=.pim cs b:=(rfl)
@[simp] def aFh {a b c:Nat}:share (.sl a b c)=.sl a b c:=(rfl)
@[simp] def aEW {f:FuncId}{a b:D_}:share (.fn f a b)=.fn f a b:=(rfl)
@[simp] def aAM {n:Nat}:share (.yield n)=.yield n:=(rfl)
@[simp] def aAX  : shareAll []=[]:=(rfl)
@[simp] def aBB {v:AV}{r:D_}:shareAll (v::r)=share v::shareAll r:=(by rw[pw])
@[simp] def aGF {x:D}:nu (.d x)=.d x:=(rfl)
@[simp] def aGq {x:D}:BQ (.d x)=.d x:=(rfl)
@[simp] def aFQ {x:D}:AV.cells (.d x)=[.d x]:=(rfl)
@[simp] def aFM {x:D}:bq (.d x)=true:=(rfl)
@[simp] def aD6 {x:D}:Fq (.d x)=bq (.d x):=(rfl)
@[simp] def aHP {x:D}:vg (.d x)=false:=(rfl)
@[simp] def aFV {x:D}:tz (.d x)=false:=(rfl)
@[simp] def aDY {x:D}:mT (.d x)=.d x:=(rfl)
@[simp] def aEA {x:D}:pE (.d x)=.d x:=(rfl)
@[simp] def aFJ {x:D}:pW (.d x)=.d x:=(rfl)
@[simp] def aEL  : nu (.nl)=.nl:=(rfl)
@[simp] def aD3  : BQ (.nl)=.nl:=(rfl)
@[simp] def aEv  : AV.cells (.nl)=[.nl]:=(rfl)
@[simp] def aDz  : bq (.nl)=true:=(rfl)
@[simp] def aGs  : vg (.nl)=false:=(rfl)
@[simp] def aE8  : tz (.nl)=false:=(rfl)
@[simp] def aC5  : jg (.nl)=true:=(rfl)
@[simp] def aDy  : kU (.nl)=true:=(rfl)
@[simp] def aCV  : jB (.nl)=true:=(rfl)
@[simp] def aDu  : mT (.nl)=.nl:=(rfl)
@[simp] def aCP  : pE (.nl)=.nl:=(rfl)
@[simp] def aDL  : pW (.nl)=.nl:=(rfl)
@[simp] def aDf {p:Bool}{m:Nat}{xs:E_}:nu (.own p m xs)=.own false m xs:=(rfl)
@[simp] def aC3 {p:Bool}{m:Nat}{xs:E_}:BQ (.own p m xs)=.own false m xs:=(rfl)
@[simp] def aDd {p:Bool}{m:Nat}{xs:E_}:AV.cells (.own p m xs)=[.own p m xs]:=(rfl)
@[simp] def aBg {p:Bool}{m:Nat}{xs:E_}:bq (.own p m xs)=!p:=(rfl)
@[simp] def aFa {p:Bool}{m:Nat}{xs:E_}:vg (.own p m xs)=false:=(rfl)
@[simp] def aDD {p:Bool}{m:Nat}{xs:E_}:tz (.own p m xs)=false:=(rfl)
@[simp] def aDo {cs:D_}:BQ (.agg cs)=.agg (cs.map nu):=(rfl)
@[simp] def aDc {cs:D_}:AV.cells (.agg cs)=cs:=(rfl)
@[simp] def aDl {cs:D_}:tz (.agg cs)=cs.any vg:=(rfl)
@[simp] def aDn {cs:D_}:AV.cells (.tup cs)=[.tup cs]:=(rfl)
@[simp] def aCW {a b:Nat}:AV.cells (.ptr a b)=[.ptr a b]:=(rfl)
@[simp] def aB6 {a b:Nat}:bq (.ptr a b)=true:=(rfl)
@[simp] def aDa {a b:Nat}:Fm (.ptr a b)=some (.ptr a b):=(rfl)
@[simp] def aE3 {a b c:Nat}:nu (.sl a b c)=.sl a b c:=(rfl)
@[simp] def aEB {a b c:Nat}:BQ (.sl a b c)=.sl a b c:=(rfl)
@[simp] def aEs {a b c:Nat}:AV.cells (.sl a b c)=[.sl a b c]:=(rfl)
@[simp] def aDJ {a b c:Nat}:Fq (.sl a b c)=bq (.sl a b c):=(rfl)
@[simp] def aGi {a b c:Nat}:vg (.sl a b c)=true:=(rfl)
@[simp] def aEN {f:FuncId}{a b:D_}:AV.cells (.fn f a b)=[.fn f a b]:=(rfl)
@[simp] def aDP {xs:E_}:lenOf (.d (.lst xs))=some xs.length:=(rfl)
@[simp] def aFB  : lenOf .nl=some 0:=(rfl)
@[simp] def aCX {p:Bool}{m:Nat}{xs:E_}:lenOf (.own p m xs)=some xs.length:=(rfl)
@[simp] def aFj {a b n:Nat}:lenOf (.sl a b n)=some n:=(rfl)
@[simp] def apm {h:am}{xs:E_}:elems h (.d (.lst xs))=some xs:=(rfl)
@[simp] def aCY {h:am}{m:Nat}{xs:E_}:elems h (.own false m xs)=some xs:=(rfl)
@[simp] def aBs {o a b:Nat}:iy o (.ptr a b)=some (.ptr a (b+o)):=(rfl)
@[simp] def aBK {o b:Nat}{cs:Y_}:iy o (.pim cs b)=some (.pim cs (b+o)):=(rfl)
@[simp] def aHn {cs:D_}{i:Nat}:AC true (.tup cs) i=cs[i]?:=(by simp only[AC];cases cs[i]?<;>rfl)
@[simp] def aHL {cs:D_}{i:Nat}:AC false (.tup cs) i=(cs[i]?).map share:=(by simp only[AC];cases cs[i]?<;>rfl)
@[simp] def aHj {cs:D_}{i:Nat}:NX (.tup cs) i=.tup (cs.set i .junk):=(rfl)
@[simp] def aIe {x:D}:toD (.d x)=some x:=(rfl)
@[simp] def aHu  : toD .nl=some (.lst []):=(rfl)
@[simp] def aGu {m:Nat}{xs:E_}:toD (.own false m xs)=some (.lst xs):=(rfl)
@[simp] def aHG  : me []=some []:=(rfl)
@[simp] def aHd {v:AV}{r:D_}:me (v::r)=bA (toD v) λx=>bA (me r) λxs=>some (x::xs):=(by
 simp only[me]
 cases toD v with
 |none=>rfl
 |some q=>simp only[bA];cases me r<;>rfl)
@[simp] def aDQ {m:Nat}:jJ m []=some []:=(rfl)
@[simp] def aDw {m:Nat}{v:AV}{r:D_}:jJ m (v::r)=if v.cells.length=m then bA (me v.cells) λx=>bA (jJ m r) λxs=>some (x::xs) else none:=(by
 by_cases h:v.cells.length=m
 .simp only[jJ,aa6,h,decide_true,bn]
  cases me v.cells with
  |none=>rfl
  |some q=>simp only[bA];cases jJ m r<;>rfl
 .simp only[jJ,aa6,h,decide_false,bl])
@[simp] def aAR {cs:D_}:dY cs []=some cs:=(rfl)
@[simp] def aAN {cs:D_}{o n:Nat}{v:AV}{r:List (Nat×Nat×AV)}:dY cs ((o,n,v)::r)=if v.cells.length=n∧Fq v=true∧o+n<=cs.length then dY (aG cs o v.cells) r else none:=(by
 simp only[dY,aa6,ack];by_cases h:v.cells.length=n<;>by_cases h2:Fq v=true<;>by_cases h3:o+n<=cs.length<;>simp[h,h2,h3])
def OA {α:Type}{cs vs:List α}{o:Nat}:aG cs o vs=cs.take o++vs++cs.drop (o+vs.length):=(rfl)
attribute [simp] OA
def amK {α:Type}{cs:List α}{o n:Nat}:sub cs o n=(cs.drop o).take n:=(rfl)
attribute [simp] amK
@[simp] def aC1 {h:am}{x:D}:viewOne h (.d x)=some (.d x):=(rfl)
@[simp] def aBq {h:am}:viewOne h .nl=some .nl:=(rfl)
@[simp] def aAK {h:am}{m:Nat}{xs:E_}:viewOne h (.own false m xs)=some (.d (.lst xs)):=(rfl)
@[simp] def aA2 {h:am}{a b c:Nat}:viewOne h (.sl a b c)=bA (elems h (.sl a b c)) λxs=>some (.d (.lst xs)):=(by simp only[viewOne];cases elems h (.sl a b c)<;>rfl)
@[simp] def aC0 {h:am}:viewAll h []=some []:=(rfl)
@[simp] def aCK {h:am}{v:AV}{r:D_}:viewAll h (v::r)=bA (viewOne h v) λx=>bA (viewAll h r) λxs=>some (x::xs):=(by
 simp only[viewAll]
 cases viewOne h v with
 |none=>rfl
 |some q=>simp only[bA];cases viewAll h r<;>rfl)
@[simp] def aC9 {h:am}{x:D}:viewArg h (.d x)=viewOne h (.d x):=(rfl)
@[simp] def aBV {h:am}  : viewArg h (.nl)=viewOne h (.nl):=(rfl)
@[simp] def aAG {h:am}{p:Bool}{m:Nat}{xs:E_}:viewArg h (.own p m xs)=viewOne h (.own p m xs):=(rfl)
@[simp] def aAS {h:am}{cs:D_}:viewArg h (.agg cs)=bA (viewAll h cs) λxs=>some (.agg xs):=(by simp only[viewArg];cases viewAll h cs<;>rfl)
@[simp] def aBN {h:am}:viewArgs h []=some []:=(rfl)
@[simp] def aAZ {h:am}{v:AV}{r:D_}:viewArgs h (v::r)=bA (viewArg h v) λx=>bA (viewArgs h r) λxs=>some (x::xs):=(by
 simp only[viewArgs]
 cases viewArg h v with
 |none=>rfl
 |some q=>simp only[bA];cases viewArgs h r<;>rfl)
@[simp] def aEl {h:am}{x:D}:jF h (.d x)=some (.d x,h):=(rfl)
@[simp] def aDB {h:am}:jF h .nl=some (.nl,h):=(rfl)
@[simp] def aBf {h:am}{p:Bool}{m:Nat}{xs:E_}:jF h (.own p m xs)=some (.own p m xs,h):=(rfl)
@[simp] def aEt {h:am}:sO h []=some ([],h):=(rfl)
@[simp] def aFA {h:am}{v:AV}{r:D_}:sO h (v::r)=bP (jF h v) λx h=>bP (sO h r) λxs h=>some (x::xs,h):=(by simp only[sO];cases jF h v with
 |none=>rfl
 |some q=>simp only[bP];cases sO q.2 r<;>rfl)
@[simp] def aBD {h:am}{cs:D_}:fU h (.agg cs)=bP (sO h cs) λxs h=>some (.agg xs,h):=(by simp only[fU];cases sO h cs<;>rfl)
@[simp] def aFC {h:am}{x:D}:fU h (.d x)=jF h (.d x):=(rfl)
@[simp] def aCT {h:am}  : fU h (.nl)=jF h (.nl):=(rfl)
@[simp] def aBH {h:am}{p:Bool}{m:Nat}{xs:E_}:fU h (.own p m xs)=jF h (.own p m xs):=(rfl)
@[simp] def aDN {h:am}{a b c:Nat}:fU h (.sl a b c)=jF h (.sl a b c):=(rfl)
@[simp] def aDC {h:am}:rH h []=some ([],h):=(rfl)
@[simp] def aCZ {h:am}{v:AV}{r:D_}:rH h (v::r)=bP (fU h v) λx h=>bP (rH h r) λxs h=>some (x::xs,h):=(by simp only[rH];cases fU h v with
 |none=>rfl
 |some q=>simp only[bP];cases rH q.2 r<;>rfl)
@[simp] def Zg {h:am}{cs:D_}:gS h (.tup cs)=bP (rH h cs) λxs _=>some (iK (.tup xs)):=(by simp only[gS];cases rH h cs<;>rfl)
@[simp] def aFD {h:am}{x:D}:gS h (.d x)=bP (fU h (.d x)) λx _=>some (iK x):=(by simp only[gS];cases fU h (.d x)<;>rfl)
@[simp] def aCR {h:am}  : gS h (.nl)=bP (fU h (.nl)) λx _=>some (iK x):=(by simp only[gS];cases fU h (.nl)<;>rfl)
@[simp] def aCD {h:am}{p:Bool}{m:Nat}{xs:E_}:gS h (.own p m xs)=bP (fU h (.own p m xs)) λx _=>some (iK x):=(by simp only[gS];cases fU h (.own p m xs)<;>rfl)
@[simp] def aBd {h:am}{cs:D_}:gS h (.agg cs)=bP (fU h (.agg cs)) λx _=>some (iK x):=(by simp only[gS];cases fU h (.agg cs)<;>rfl)
@[simp] def aDE {h:am}{a b c:Nat}:gS h (.sl a b c)=bP (fU h (.sl a b c)) λx _=>some (iK x):=(by simp only[gS];cases fU h (.sl a b c)<;>rfl)
@[simp] def aCM {v:AV}:iK v=if jB v=true then pW v else v:=(by simp only[iK];cases jB v<;>rfl)
@[simp] def aEX {x:D}:jg (.d x)=lL x:=(rfl)
@[simp] def aBv {p:Bool}{m:Nat}{xs:E_}:jg (.own p m xs)=xs.all λe=>e.all lL:=(rfl)
@[simp] def aDr {k:IntKind}{n:Int}:lL (.int k n)=true:=(rfl)
@[simp] def aCp {b:Bool}:lL (.bool b)=true:=(rfl)
@[simp] def aDI {xs:E_}:lL (.lst xs)=false:=(rfl)
@[simp] def aBw {cs:D_}:kU (.agg cs)=cs.all jg:=(rfl)
@[simp] def aFz {x:D}:kU (.d x)=lL x:=(rfl)
@[simp] def aA3 {p:Bool}{m:Nat}{xs:E_}:kU (.own p m xs)=xs.all λe=>e.all lL:=(rfl)
@[simp] def aAV {cs:D_}:jB (.agg cs)=cs.all jg:=(rfl)
@[simp] def aEI {x:D}:jB (.d x)=lL x:=(rfl)
@[simp] def aCA {p:Bool}{m:Nat}{xs:E_}:jB (.own p m xs)=xs.all λe=>e.all lL:=(rfl)
@[simp] def aB3 {cs:D_}:jB (.tup cs)=cs.all kU:=(rfl)
@[simp] def aCi {p:Bool}{m:Nat}{xs:E_}:mT (.own p m xs)=.own true m xs:=(rfl)
@[simp] def aCE {p:Bool}{m:Nat}{xs:E_}:pE (.own p m xs)=.own true m xs:=(rfl)
@[simp] def aBp {p:Bool}{m:Nat}{xs:E_}:pW (.own p m xs)=.own true m xs:=(rfl)
@[simp] def aCv {cs:D_}:pE (.agg cs)=.agg (cs.map mT):=(rfl)
@[simp] def aAY {cs:D_}:pW (.agg cs)=.agg (cs.map mT):=(rfl)
@[simp] def aCz {cs:D_}:pW (.tup cs)=.tup (cs.map pE):=(rfl)
@[simp] def aGJ {i:Nat}:kp i []=[]:=(rfl)
@[simp] def aGM {i:Nat}{v:AV}{r:D_}:kp i (v::r)=(i,v)::kp (i+1) r:=by
 have h:∀(i:Nat) (r:D_),put (kp (i+1) r) i v=(i,v)::kp (i+1) r:=λi r=>by
  have:∃q,kp (i+1) r=q∧∀p∈q,Nat.blt i p.1=true:=⟨_,rfl,by
   have aux:∀(r:D_) (j:Nat),i<j->∀p∈kp j r,Nat.blt i p.1=true:=by
    intro r
    induction r with
    |nil=>intro j hj p hp;simp[kp]at hp
    |cons w r ih =>
     intro j hj p hp;simp only[kp]at hp;rcases abu hp with rfl|hp
     .rw[Nat.blt,bj];exact hj
     .exact ih (j+1) o_ p hp
   exact aux r (i+1) o_⟩
  obtain⟨q,hq,hp⟩:=this;rw[hq]
  cases q with
  |nil=>rfl
  |cons p q =>
   obtain⟨k,u⟩:=p;have hk:i<k:=by have:=hp _ (.head _);rw[Nat.blt,bj]at this;exact this
   rw[wn,aa o_,ac o_]
 exact h i r
@[simp] def aC8 {st:St}:fL st []=some ([],st):=(rfl)
def asO (x:M_)(t:Nat)(st:St)(r:BA_):Option (D_×St) :=
 match x with
 |some v=>bP (fL ⟨del st.env t,st.hs⟩ r) λvs st=>some (v::vs,st)
 |none=>none
@[simp] def aCU {t:Nat}{st:St}{r:BA_}:fL st (.tmp t::r)=asO (get st.env t) t st r:=(by
 simp only[fL,asO]
 cases get st.env t with
 |none=>rfl
 |some v=>simp only;cases fL ⟨del st.env t,st.hs⟩ r<;>rfl)
@[simp] def aG9 {v:AV}{t:Nat}{e:aV}{hs:HS}{r:BA_}:asO (some v) t ⟨e,hs⟩ r=bP (fL ⟨del e t,hs⟩ r) λvs st=>some (v::vs,st):=(rfl)
def asz (x:M_)(t:Nat)(n:I_)(st:St)(r:BA_):Option (D_×St) :=
 match x with
 |some (.ptr id 0)=>bP (loadAt st.hs.heap n 1 (.ptr id 0)) λv h=>bP (fL ⟨del st.env t,⟨del h id,st.hs.next⟩⟩ r) λvs st=>some (v::vs,st)
 |_=>none
@[simp] def aDq {t:Nat}{n:I_}{st:St}{r:BA_}:fL st (.cell t n::r)=asz (get st.env t) t n st r:=(by
 simp only[fL,asz]
 cases get st.env t with
 |none=>rfl
 |some v =>
  cases v<;>try rfl
  rename_i id off
  cases off with
  |succ k=>rfl
  |zero =>
   simp only
   cases loadAt st.hs.heap n 1 (.ptr id 0) with
   |none=>rfl
   |some q=>simp only[bP];cases fL _ r<;>rfl)
@[simp] def aHY {id t:Nat}{n:I_}{e:aV}{hs:HS}{r:BA_}:asz (some (.ptr id 0)) t n ⟨e,hs⟩ r=bP (loadAt hs.heap n 1 (.ptr id 0)) λv h=>bP (fL ⟨del e t,⟨del h id,hs.next⟩⟩ r) λvs st=>some (v::vs,st):=(rfl)
def aqp {l:G_}:((aF l).all λe=>e.all lL)=true:=by simp[aF]
def arj {l:C_}:((ai l).all λe=>e.all lL)=true:=by simp[ai]
def anY {l:V_}:((T9 l).all λe=>e.all lL)=true:=by simp[T9]
attribute [simp] aqp arj anY
attribute [simp] arG
attribute [simp] ayQ azQ ay7 azg
variable {P:Nat->Z_}{l:T_}{e:aV}{h:am}{m d s:Nat}{op:oi}{hs:HS}{β:Type}{k:AV->aV->HS->Option β}
abbrev V (d:Nat)(op:oi):VI:=⟨some d,none,op,[]⟩
abbrev N (op:oi):VI:=⟨none,none,op,[]⟩
abbrev W (s d:Nat)(op:oi):VI:=⟨some d,some (s,true),op,[]⟩
abbrev U (s d:Nat)(op:oi):VI:=⟨some d,some (s,false),op,[]⟩
def axF {e e2:aV}{hs hs2:HS}(h:e=e2)(h2:hs=hs2):pn P l e hs=pn P l e2 hs2:=by rw[h,h2]
attribute [congr] axF
@[simp ↓ low] def aDG {i:VI}:(Dn P).code (.reg false (i::l)) ⟨e,hs⟩=fg (pn P (i::l) e hs):=FM rfl
@[simp ↓ low] def aDO {i:VI}:(Dn P).code (.reg true (i::l)) ⟨e,hs⟩=fg (pn P (i::l) e hs):=FM rfl
@[simp] def aHA:pn P [] e hs=some ⟨e,hs⟩:=(rfl)
@[simp] def aG8:pn P (⟨some d,none,op,[]⟩::l) e hs=bR P op e hs λv e hs=>pn P l (put e d (firm v)) hs:=(rfl)
@[simp] def aHX:pn P (⟨none,none,op,[]⟩::l) e hs=bR P op e hs λ_ e hs=>pn P l e hs:=(rfl)
@[simp] def aHe {t:Nat×Nat}{th:S_}:pn P (⟨some d,none,op,t::th⟩::l) e hs=bR P op e hs λv e hs=>lP (dS (t::th) v hs) λv hs=>pn P l (put e d (firm v)) hs:=(rfl)
def wK {β:Type}(a b:Bool)(x y z:Option β):Option β :=
 match a with
 |true=>x
 |false=>match b with
  |true=>y
  |false=>z
@[simp ↓] def aIY {b:Bool}{x y z:Option β}:wK true b x y z=x:=(rfl)
@[simp ↓] def aI0 {x y z:Option β}:wK false true x y z=y:=(rfl)
@[simp ↓] def aIP {x y z:Option β}:wK false false x y z=z:=(rfl)
def aBn {a a2 b b2:Bool}{x y z:Option β}(h:a=a2)(h2:b=b2):wK a b x y z=wK a2 b2 x y z:=by rw[h,h2]
attribute [congr] aBn
@[simp] def aHN {w:Bool}:pn P (⟨some d,some (s,w),op,[]⟩::l) e hs=wK (dx op) (zu op)
  (bA (get e s) λg=>bA (gV g w (bR P op e hs λv _ _=>some v)) λv=>pn P l (put e d (firm v)) hs)
  (bA (get e s) λg=>bP (gH g w hs (bR P op e hs λv _ hs=>some (v,hs))) λv hs=>pn P l (put e d (firm v)) hs)
  (bA (cV (Dn P) ⟨some d,some (s,w),op,[]⟩ ⟨e,hs⟩) λst=>pn P l st.env st.hs):=by
 simp only[pn,Vw,wK]
 cases dx op<;>cases zu op<;>(try rfl)<;>(cases get e s<;>rfl)
@[simp] def aIF {i:Nat}:bK (.s i)=true:=(rfl)
@[simp] def aH8 {a:AV}:bK (.c a)=true:=(rfl)
@[simp] def aHc:gX []=true:=(rfl)
@[simp] def aG7 {x:Rd}{r:U_}:gX (x::r)=(bK x && gX r):=(rfl)
@[simp] def aH7:Cw none=true:=(rfl)
@[simp] def aIC {x:Rd}:Cw (some x)=bK x:=(rfl)
@[simp] def aHi {x:Rd}:dx (.mov x)=bK x:=(rfl)
@[simp] def aIl {x:Rd}{n:I_}:dx (.ld n 0 x)=bK x:=(rfl)
@[simp] def aHS {x:Rd}:dx (.nilck x)=bK x:=(rfl)
@[simp] def aHO {x y:Rd}{o:BinOp}:dx (.bin o x y)=(bK x && bK y):=(rfl)
@[simp] def aGp {x y:Rd}{o:Bool}:dx (.binb o x y)=(bK x && bK y):=(rfl)
@[simp] def aIj {x:Rd}{o:UnOp}:dx (.un o x)=bK x:=(rfl)
@[simp] def aGh {x:Rd}{o:IntKind}:dx (.conv o x)=bK x:=(rfl)
@[simp] def aIs {x:Rd}{o:Nat}:dx (.fa o x)=bK x:=(rfl)
@[simp] def aH6 {x y:Rd}{o:Nat}:dx (.ia o x y)=(bK x && bK y):=(rfl)
@[simp] def aGI {x y:Rd}{o n:Nat}:dx (.iarr o n x y)=(bK x && bK y):=(rfl)
@[simp] def aHg {x:Rd}:dx (.len x)=bK x:=(rfl)
@[simp] def aF1 {f:FuncId}{xs:U_}:dx (.call f xs)=gX xs:=(rfl)
@[simp] def aGN {c x y:Rd}:dx (.pick c x y)=(bK c && bK x && bK y):=(rfl)
@[simp] def aFo {z:D_}{ps:AC_}:dx (.build z ps)=gX (pr ps):=(rfl)
@[simp] def aHl {x:Rd}:dx (.toStr x)=bK x:=(rfl)
@[simp] def aGf {f:FuncId}{xs ys:U_}:dx (.mkfn f xs ys)=(gX xs && gX ys):=(rfl)
@[simp] def aG6 {m:Nat}{x:Rd}{a b c:AB_}:dx (.slice m x a b c)=(bK x && (Cw a && (Cw b && Cw c))):=(rfl)
@[simp] def aE6 {f:FuncId}{xs:U_}:dx (.calli f xs)=false:=(rfl)
@[simp] def aEO {x:Rd}{xs:U_}:dx (.callv x xs)=false:=(rfl)
@[simp] def aHw {n:Nat}{xs:U_}:dx (.mks n xs)=false:=(rfl)
@[simp] def aEY {f:FuncId}{xs:U_}:zu (.calli f xs)=gX xs:=(rfl)
@[simp] def aDX {x:Rd}{xs:U_}:zu (.callv x xs)=(bK x && gX xs):=(rfl)
@[simp] def aHk {n:Nat}{xs:U_}:zu (.mks n xs)=false:=(rfl)
attribute [simp] pr tA
def Lf {γ:Type}(c:Prop)[Decidable c](a b:γ):γ:=if c then a else b
def axd {γ:Type}{c d:Prop}[Decidable c][i:Decidable d]{a b:γ}(h:c=d):Lf c a b=@Lf γ d i a b:=by subst h;congr
attribute [congr] axd
@[simp ↓] def aHR {γ:Type}{i:Decidable True}{a b:γ}:@Lf γ True i a b=a:=by simp only[Lf,bn]
@[simp ↓] def aG0 {γ:Type}{i:Decidable False}{a b:γ}:@Lf γ False i a b=b:=by simp only[Lf,bl]
@[simp high] def aIL {k i:Nat}{v:AV}{r:aV}:get ((k,v)::r) i=Lf (k=i) (some v) (get r i):=ayo
@[simp high] def aIQ {k i:Nat}{v x:AV}{r:aV}:put ((k,v)::r) i x=Lf (k=i) ((i,x)::r) (Lf (i<=k) ((i,x)::(k,v)::r) ((k,v)::put r i x)):=put1
@[simp high] def aIJ {k i:Nat}{v:AV}{r:aV}:del ((k,v)::r) i=Lf (k=i) (del r i) ((k,v)::del r i):=ayf
variable {f:AV->aV->Option β}{x:Rd}
@[simp ↓] def aIx {i:Nat}:cD e (.s i) f=bA (get e i) λv=>f (share v) e:=by
 simp only[cD,rd,bA];cases get e i<;>rfl
@[simp ↓] def aIf {i:Nat}:cD e (.m i) f=bA (get e i) λv=>f v (del e i):=by
 simp only[cD,rd,bA];cases get e i<;>rfl
@[simp ↓] def aIp {a:AV}:cD e (.c a) f=f a e:=(rfl)
@[simp ↓] def aHz {f:D_->aV->Option β}:kC e [] f=f [] e:=(rfl)
@[simp ↓] def aGR {r:U_}{f:D_->aV->Option β}:kC e (x::r) f=cD e x λv e=>kC e r λvs e=>f (v::vs) e:=(rfl)
@[simp ↓] def aHT {f:M_->aV->Option β}:my e none f=f none e:=(rfl)
@[simp ↓] def aHb {f:M_->aV->Option β}:my e (some x) f=cD e x λv e=>f (some v) e:=(rfl)
@[simp ↓] def aF0:bR P (.mov x) e hs k=cD e x λv e=>k v e hs:=(rfl)
def Mg (e:aV):Rd->M_
 |.c v=>some v
 |.m i=>get e i
 |.s i=>match get e i with
  |some v=>some (share v)
  |none=>none
def pkV {β:Type}(c:AV)(a b:Rd)(x y:M_)(e:aV)(hs:HS)(k:AV->aV->HS->Option β):Option β :=
 match x,y with
 |some a,some b=>bA (Uh c a b) λv=>k v e hs
 |_,_=>bP (kQ (.c c) a b ⟨e,hs⟩) λv st=>k v st.env st.hs
@[simp ↓] def aIE {c v w:AV}{a b:Rd}:pkV c a b (some v) (some w) e hs k=bA (Uh c v w) λv=>k v e hs:=(rfl)
def az8 {c:AV}{a b:Rd}{x x2 y y2:M_}(h:x=x2)(h2:y=y2):pkV c a b x y e hs k=pkV c a b x2 y2 e hs k:=by rw[h,h2]
attribute [congr] az8
@[simp] def aID {v:AV}:Mg e (.c v)=some v:=(rfl)
@[simp] def aH5 {i:Nat}:Mg e (.s i)=bA (get e i) λv=>some (share v):=by
 simp only[Mg,bA];cases get e i<;>rfl
def ag5 {c a b:Rd}(ha:bK a=true)(hb:bK b=true):bR P (.pick c a b) e hs k=cD e c λc e=>pkV c a b (Mg e a) (Mg e b) e hs k:=by
 simp only[bR,ha,hb,Bool.and_self]
 congr 1
 funext c e;have h1:∀x,bK x=true->rd e x=(Mg e x).map λv=>(v,e):=by
  intro x hx
  cases x with
  |c=>rfl
  |m=>cases hx
  |s i=>simp only[rd,Mg];cases get e i<;>rfl
 rw[h1 a ha,h1 b hb]
 cases Mg e a<;>cases Mg e b<;>rfl
@[simp ↓] def aGk {c:Rd}{i:Nat}{y:AV}:bR P (.pick c (.s i) (.c y)) e hs k=cD e c λc e=>pkV c (.s i) (.c y) (Mg e (.s i)) (Mg e (.c y)) e hs k:=ag5 rfl rfl
@[simp ↓] def aGj {c:Rd}{i:Nat}{y:AV}:bR P (.pick c (.c y) (.s i)) e hs k=cD e c λc e=>pkV c (.c y) (.s i) (Mg e (.c y)) (Mg e (.s i)) e hs k:=ag5 rfl rfl
@[simp ↓] def aCH {zs:D_}:bR P (.alloc zs) e ⟨h,m⟩ k=lA (put h m (.cells zs)) λh=>k (.ptr m 0) e ⟨h,m+1⟩:=(rfl)
@[simp ↓] def aGG:bR P (.box x) e ⟨h,m⟩ k=cD e x λv e=>dG ((AV.cells v).all bq) (lA (put h m (.cells (AV.cells v))) λh=>k (.ptr m 0) e ⟨h,m+1⟩):=(rfl)
@[simp ↓] def aCJ {zs:D_}{ps:AC_}:bR P (.build zs ps) e hs k=kC e (pr ps) λvs e=>bA (dY zs (tA ps vs)) λcs=>k (.agg cs) e hs:=(rfl)
@[simp ↓] def aGL {j:Nat}{ps:U_}:bR P (.mks j ps) e hs k=kC e ps λvs e=>bA (jJ j vs) λxs=>k (.own true j xs) e hs:=(rfl)
@[simp ↓] def aFE {j:Nat}{ps:U_}:bR P (.mksv j ps) e ⟨h,m⟩ k=kC e ps λvs e=>dG (JY j vs) (lA (put h m (.cells (vs.flatMap AV.cells))) λh=>k (.sl m 0 vs.length) e ⟨h,m+1⟩):=(rfl)
@[simp ↓] def aGX {n:I_}:bR P (.ld n 0 x) e ⟨h,m⟩ k=cD e x λp e=>bA (eM h n p) λv=>k v e ⟨h,m⟩:=(rfl)
@[simp ↓] def aGr {n:I_}:bR P (.ld n 1 x) e ⟨h,m⟩ k=cD e x λp e=>bP (loadAt h n 1 p) λv h=>k v e ⟨h,m⟩:=(rfl)
@[simp ↓] def aGa {n:I_}:bR P (.ld n 2 x) e ⟨h,m⟩ k=cD e x λp e=>bP (loadAt h n 2 p) λv h=>k v e ⟨h,m⟩:=(rfl)
@[simp ↓] def aHI {n:Nat}{y:Rd}:bR P (.st n x y) e ⟨h,m⟩ k=cD e x λp e=>cD e y λv e=>bA (storeAt h n p v) λh=>k .junk e ⟨h,m⟩:=(rfl)
@[simp ↓] def aCS:bR P (.nilck x) e hs k=cD e x λv e=>bA (Fm v) λv=>k v e hs:=(rfl)
@[simp ↓] def aGd {o:BinOp}{y:Rd}:bR P (.bin o x y) e hs k=cD e x λa e=>cD e y λb e=>bA (eW o a b) λv=>k (.d v) e hs:=(rfl)
@[simp ↓] def aFu {o:Bool}{y:Rd}:bR P (.binb o x y) e hs k=cD e x λa e=>cD e y λb e=>bA (afw o a b) λv=>k (.d v) e hs:=(rfl)
@[simp ↓] def aEu {o:Bool}{ks:V_}{y:Rd}:bR P (.bina o ks x y) e hs k=cD e x λa e=>cD e y λb e=>bA (J1 o ks a b) λv=>k (.d v) e hs:=(rfl)
@[simp ↓] def aHx {o:UnOp}:bR P (.un o x) e hs k=cD e x λa e=>bA (unD o a) λv=>k (.d v) e hs:=(rfl)
@[simp ↓] def aE0 {j:IntKind}:bR P (.conv j x) e hs k=cD e x λa e=>bA (aau j a) λv=>k (.d v) e hs:=(rfl)
@[simp ↓] def aDk:bR P (.toStr x) e ⟨h,m⟩ k=cD e x λa e=>bA (MR h a) λv=>k (.d v) e ⟨h,m⟩:=(rfl)
@[simp ↓] def aEj {f:FuncId}{a c:U_}:bR P (.mkfn f a c) e hs k=kC e a λa e=>kC e c λc e=>k (.fn f (shareAll a) (shareAll c)) e hs:=(rfl)
@[simp ↓] def aAH {z:Y_}{y:Rd}:bR P (.mkslice z x y) e hs k=cD e x λa e=>cD e y λc e=>bA (Fn z a c) λv=>k v e hs:=(rfl)
@[simp ↓] def aDh {j:Nat}{lo hi mx:AB_}:bR P (.slice j x lo hi mx) e ⟨h,m⟩ k=cD e x λx e=>my e lo λlo e=>my e hi λhi e=>my e mx λmx e=>bA (l7 h j x lo hi mx) λv=>k v e ⟨h,m⟩:=(rfl)
@[simp ↓] def aCQ {j:Nat}{lo hi mx:AB_}:bR P (.slarr j x lo hi mx) e ⟨h,m⟩ k=cD e x λx e=>my e lo λlo e=>my e hi λhi e=>my e mx λmx e=>bA (SN h j x lo hi mx) λv=>k v e ⟨h,m⟩:=(rfl)
@[simp ↓] def aGW {o:Nat}:bR P (.fa o x) e hs k=cD e x λp e=>bA (iy o p) λv=>k v e hs:=(rfl)
@[simp ↓] def aHy {n:Nat}{y:Rd}:bR P (.ia n x y) e ⟨h,m⟩ k=cD e x λx e=>cD e y λi e=>bA (ZW h n x i) λv=>k v e ⟨h,m⟩:=(rfl)
@[simp ↓] def aFl {a n:Nat}{y:Rd}:bR P (.iarr a n x y) e hs k=cD e x λp e=>cD e y λi e=>bA (KY a n p i) λv=>k v e hs:=(rfl)
@[simp ↓] def aGY {a n:Nat}{b:Bool}{y:Rd}:bR P (.ix a n b x y) e hs k=cD e x λx e=>cD e y λi e=>bA (ixV a n b x i) λv=>k v e hs:=(rfl)
@[simp ↓] def aGy {y:Rd}:bR P (.ixs x y) e hs k=cD e x λx e=>cD e y λi e=>bA (anZ x i) λv=>k (.d v) e hs:=(rfl)
@[simp ↓] def aD0 {j i:Nat}:bR P (.ext j true i) e hs k=bA (get e j) λt=>bA (AC true t i) λv=>k v (put e j (NX t i)) hs:=by
 simp only[bR,bA];cases get e j<;>(try rfl)
@[simp ↓] def aDR {j i:Nat}:bR P (.ext j false i) e hs k=bA (get e j) λt=>bA (AC false t i) λv=>k v e hs:=by
 simp only[bR,bA];cases get e j<;>(try rfl)
@[simp ↓] def aFZ:bR P (.len x) e hs k=cD e x λx e=>bA (lenOf x) λn=>k (.int .i64 (.ofNat n)) e hs:=(rfl)
@[simp ↓] def aGo:bR P (.cap x) e hs k=cD e x λx e=>dG (abP x) (k (.int .i64 (.ofNat 0)) e hs):=(rfl)
@[simp ↓] def aFS {j:Nat}{y:Rd}:bR P (.app j x y) e ⟨h,m⟩ k=cD e x λa e=>cD e y λb e=>bP (abA j h a b) λv h=>k v e ⟨h,m⟩:=(rfl)
@[simp ↓] def aEc {z:Y_}{y:Rd}:bR P (.appz z x y) e ⟨h,m⟩ k=cD e x λa e=>cD e y λn e=>bP (Hx z h a n) λv h=>k v e ⟨h,m⟩:=(rfl)
@[simp ↓] def aFU {j:Nat}{y:Rd}:bR P (.cpy j x y) e ⟨h,m⟩ k=cD e x λa e=>cD e y λb e=>bP (afN j h a b) λv h=>k (.d v) e ⟨h,m⟩:=(rfl)
@[simp ↓] def aCy {b:Bool}{xs:U_}:bR P (.minmax b xs) e hs k=kC e xs λvs e=>bA (DP b vs) λv=>k v e hs:=(rfl)
@[simp ↓] def aD1 {f:FuncId}{as:U_}:bR P (.call f as) e ⟨h,m⟩ k=kC e as λvs e=>bA (eJ (Dn P) f vs h) λv=>k v e ⟨h,m⟩:=(rfl)
@[simp ↓] def aDg {f:FuncId}{as:U_}:bR P (.calli f as) e hs k=kC e as λvs e=>bP ((Dn P).call f vs hs) λv hs=>k v e hs:=(rfl)
@[simp ↓] def aDv {as:U_}:bR P (.callv x as) e hs k=cD e x λf e=>kC e as λvs e=>bP (cq (Dn P) f vs hs) λv hs=>k v e hs:=(rfl)
@[simp ↓] def aE5 {is:C_}:bR P (.kill is) e hs k=k (.tup []) (is.foldl del e) hs:=(rfl)
end Go.Vm
end
