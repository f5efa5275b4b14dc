import Derived.Test.YtpidphkolofkfaaGreatP1
set_option linter.unusedVariables false
set_option linter.unusedSimpArgs false
set_option linter.defProp false
noncomputable section
namespace Go.Vm
set_option maxHeartbeats 4000000
set_option maxRecDepth 100000
structure wY (r q:dz):Prop where
 code:∀ c st x,r.code c st=some x->q.code c st=some x
 call:∀ f a h x,r.call f a h=some x->q.call f a h=some x
section
variable {r q:dz}
def adr (le:wY r q) {f:FuncId}{vs:D_}{h:ak}{x:AV}(e:eD r f vs h=some x):eD q f vs h=some x:=by
 unfold eD at e⊢
 cases hd:viewArgs h vs with
 | none=>rw[hd]at e;simp at e
 | some ds =>
  rw[hd]at e;simp only at e⊢
  cases hc:r.call f ds ⟨[],0⟩ with
  | none=>rw[hc]at e;simp at e
  | some p =>
   obtain⟨v,hs⟩:=p;rw[hc]at e;rw[le.call _ _ _ _ hc];exact e
def ag1 (le:wY r q) {l:Nat}{vs:D_}{hs:HS}{x:AV×HS}(e:uZ r l vs hs=some x):uZ q l vs hs=some x:=by
 unfold uZ at e⊢;split at e
 .rename_i snap params assign body hg;split at e
  .simp at e
  .rename_i e1 he1
   try simp only[he1]
   split at e
   .rename_i st1 hc;simp only[le.code _ _ _ hc];split at e
    .rename_i snap2 params2 assign2 body2 hg2;split at e
     .simp at e
     .rename_i o st2 hc2;simp only[le.code _ _ _ hc2];exact e
    .simp at e
   .simp at e
 .simp at e
def ahb (le:wY r q) {f:AV}{vs:D_}{hs:HS}{x:AV×HS}(e:cf r f vs hs=some x):cf q f vs hs=some x:=by
 cases f<;>simp only[cf,reduceCtorEq]at e⊢
 .exact le.call _ _ _ _ e
 .exact ag1 le e
def arC (le:wY r q) {o:n9}{st:St}{x:AV×St}(e:db o r st=some x):db o q st=some x:=by
 cases o<;>try exact e
 .rename_i f args;simp only[db,Fh]at e⊢
  cases hr:rdAll st.env args with
  | none=>rw[hr]at e;simp at e
  | some p =>
   obtain⟨vs,e1⟩:=p;rw[hr]at e;simp only at e⊢
   cases hc:eD r f vs st.hs.heap with
   | none=>rw[hc]at e;simp at e
   | some v=>rw[hc]at e;rw[adr le hc];exact e
 .rename_i f args;simp only[db,DK]at e⊢
  cases hr:rdAll st.env args with
  | none=>rw[hr]at e;simp at e
  | some p =>
   obtain⟨vs,e1⟩:=p;rw[hr]at e;simp only at e⊢
   cases hc:r.call f vs st.hs with
   | none=>rw[hc]at e;simp at e
   | some v=>rw[hc]at e;rw[le.call _ _ _ _ hc];exact e
 .rename_i f args;simp only[db,DH]at e⊢
  cases hf:rd st.env f with
  | none=>rw[hf]at e;simp at e
  | some p =>
   obtain⟨fv,e0⟩:=p;rw[hf]at e;simp only at e⊢
   cases hr:rdAll e0 args with
   | none=>rw[hr]at e;simp at e
   | some p =>
    obtain⟨vs,e1⟩:=p;rw[hr]at e;simp only at e⊢
    cases hc:cf r fv vs st.hs with
    | none=>rw[hc]at e;simp at e
    | some v=>rw[hc]at e;rw[ahb le hc];exact e
def Dv (le:wY r q) {i:VI}{st x:St}(e:cU r i st=some x):cU q i st=some x:=by
 have go:∀ x,gj r i st=some x->gj q i st=some x:=fun x e=>by
  unfold gj at e⊢
  cases ho:db i.op r st with
  | none=>rw[ho]at e;simp at e
  | some p=>rw[ho]at e;rw[arC le ho];exact e
 unfold cU at e⊢;split at e
 .exact go _ e
 .split at e
  .split at e
   .simp_all
   .simp_all
  .exact e
  .simp at e
def Sw (le:wY r q):∀ {l:T_}{st x:St},kL r l st=some x->kL q l st=some x
 | [],_,_,e=>e
 | i::l,st,x,e=>by
  simp only[kL]at e⊢
  cases hv:cU r i st with
  | none=>rw[hv]at e;simp at e
  | some st1=>rw[hv]at e;rw[Dv le hv];exact Sw le e
def asZ (le:wY r q) {F:C_}{i:VI}{st x:St}(e:wj r F i st=some x):wj q F i st=some x:=by
 unfold wj at e⊢;split at e
 .cases hv:cU r i st with
  | none=>rw[hv]at e;simp at e
  | some st1=>rw[hv]at e;rw[Dv le hv];exact e
 .cases hv:cU r i st with
  | none=>rw[hv]at e;simp at e
  | some st1=>rw[hv]at e;rw[Dv le hv];exact e
 .cases hv:cU r i ⟨st.env,⟨dK (nW i st.env) st.hs.heap,st.hs.next⟩⟩ with
  | none=>rw[hv]at e;simp at e
  | some st1=>rw[hv]at e;rw[Dv le hv];exact e
def Xe (le:wY r q) {a:Bool}{F:C_}{i:VI}{st x:St}(e:bX r a F i st=some x):bX q a F i st=some x:=by
 cases a
 .exact Dv le e
 .exact asZ le e
def QJ (le:wY r q) {nr:C_}{vs:T_}:∀ {l F:C_}{st x:St},fE r nr vs l F st=some x->fE q nr vs l F st=some x
 | [],_,_,_,e=>e
 | i::l,F,st,x,e=>by
  simp only[fE]at e⊢
  cases hi:vs[i]? with
  | none=>rw[hi]at e;simp at e
  | some v =>
   rw[hi]at e;simp only at e⊢
   cases hv:bX r (et i nr) F v st with
   | none=>rw[hv]at e;simp at e
   | some st1=>rw[hv]at e;rw[Xe le hv];exact QJ le e
theorem Ny (le:wY r q) {c:VC}{st:St}{x:ct×St}(e:cW c r st=some x):cW c q st=some x:=by
 cases c<;>try exact e
 .rename_i d ops;simp only[cW,S5]at e⊢
  cases hv:kL r ops st with
  | none=>rw[hv]at e;simp at e
  | some st1=>rw[hv]at e;rw[Sw le hv];exact e
 .rename_i perm gco nr ops;simp only[cW,LE,Mv]at e⊢
  cases ha:rW st.env ops with
  | false=>rw[ha]at e;simp at e
  | true =>
  rw[ha]at e;simp only at e⊢
  cases hv:fE r nr ops perm [] st with
  | none=>rw[hv]at e;simp at e
  | some st1=>rw[hv]at e;rw[QJ le hv];exact e
 .rename_i a b;simp only[cW,Na]at e⊢
  cases hv:r.code a st with
  | none=>rw[hv]at e;simp at e
  | some p =>
   obtain⟨o,st1⟩:=p;rw[hv]at e;rw[le.code _ _ _ hv]
   cases o<;>simp only at e⊢
   .exact le.code _ _ _ e
   all_goals exact e
 .rename_i cr a b;simp only[cW,LG]at e⊢;split at e
  .exact le.code _ _ _ e
  .exact le.code _ _ _ e
  .simp at e
 .rename_i id a;simp only[cW,MP]at e⊢
  cases hv:r.code a st with
  | none=>rw[hv]at e;simp at e
  | some p=>rw[hv]at e;rw[le.code _ _ _ hv];exact e
 .rename_i a;simp only[cW,Ql]at e⊢
  cases hv:r.code a st with
  | none=>rw[hv]at e;simp at e
  | some p =>
   obtain⟨o,st1⟩:=p;rw[hv]at e;rw[le.code _ _ _ hv]
   cases o<;>simp only at e⊢
   .exact le.code _ _ _ e
   all_goals exact e
 .rename_i f params assign body;simp only[cW,Dx]at e⊢;split at e
  .rename_i g first caps e1 h1
   split at e
   .rename_i v hs hc;rw[le.call _ _ _ _ hc];exact e
   .simp at e
  .simp at e
 .exact le.code _ _ _ e
 .rename_i a cur;simp only[cW,Ki]at e⊢
  cases hv:r.code cur st with
  | none=>rw[hv]at e;simp at e
  | some p =>
   obtain⟨o,st1⟩:=p;rw[hv]at e;rw[le.code _ _ _ hv]
   cases o<;>simp only at e⊢
   .exact e
   .exact e
   .split at e
    .exact le.code _ _ _ e
    .exact e
   .exact e
 .rename_i i d f a;simp only[cW,QA]at e⊢
  cases hg:get st.env i with
  | none=>rw[hg]at e;simp at e
  | some p =>
   rw[hg]at e
   cases p<;>simp only at e⊢<;>try exact absurd e (by simp)
   rename_i id off
   cases hv:r.code a ⟨put st.env d (.ptr id off),st.hs⟩ with
   | none=>rw[hv]at e;simp at e
   | some p =>
    obtain⟨o,st1⟩:=p;rw[hv]at e;rw[le.code _ _ _ hv]
    cases o<;>simp only at e⊢<;>try exact absurd e (by simp)
    all_goals
     cases hc:r.call f [.ptr id off] st1.hs with
     | none=>rw[hc]at e;simp at e
     | some q=>rw[hc]at e;rw[le.call _ _ _ _ hc];exact e
theorem Xm (le:wY r q) {P:Nat->Y_}{f:FuncId}{a:D_}{h:HS}{x:AV×HS}(e:vL P r f a h=some x):vL P q f a h=some x:=by
 unfold vL at e⊢;split at e
 .simp at e
 .rename_i fn hf;split at e
  .simp at e
  .rename_i hn
   cases hv:cW fn.body r ⟨ku 0 a,h⟩ with
   | none=>rw[hv]at e;simp at e
   | some p=>rw[hv]at e;simp only[hn,Ny le hv];exact e
end
variable {P:Nat->Y_}
abbrev tV:=@Nat.le_add_right
def lim {α:Type}(f:Nat->Option α):Option α :=
 open Classical in if h:∃ x,∃ n,f n=some x then some (Classical.choose h) else none
def agC {α:Type}{f:Nat->Option α}(mono:∀ n m x,f n=some x->f (n+m)=some x) {n:Nat}{x:α}(h:f n=some x):lim f=some x:=by
 have he:∃ x,∃ n,f n=some x:=⟨x,n,h⟩
 unfold lim;obtain⟨m,hm⟩:=Classical.choose_spec he;have h2:=mono m n _ hm
 grind
def ahF {α:Type}{f:Nat->Option α}{x:α}(h:lim f=some x):∃ n,f n=some x:=by
 unfold lim at h;split at h<;>grind
variable {P:Nat->Y_}
def wY.rfl' {r:dz}:wY r r:=⟨fun _ _ _ h=>h,fun _ _ _ _ h=>h⟩
def wY.trans' {r q s:dz}(h:wY r q) (k:wY q s):wY r s:=⟨fun c st x e=>k.code c st x (h.code c st x e),fun f a hs x e=>k.call f a hs x (h.call f a hs x e)⟩
def Z7:∀ n:Nat,wY (run P n) (run P (n+1))
 | 0=>⟨fun _ _ _ h=>by simp[run]at h,fun _ _ _ _ h=>by simp[run]at h⟩
 | n+1=>⟨fun c st x h=>Ny (Z7 n) h,fun f a hs x h=>Xm (Z7 n) h⟩
theorem Sf (n:Nat):∀ m:Nat,wY (run P n) (run P (n+m))
 | 0=>wY.rfl'
 | m+1=>(Sf n m).trans' (Z7 (n+m))
def Dn (P:Nat->Y_):dz:=⟨fun c st=>lim fun n=>(run P n).code c st,fun f a h=>lim fun n=>(run P n).call f a h⟩
def agt {c:VC}{st:St}{x:ct×St}{n:Nat}(h:(run P n).code c st=some x):(Dn P).code c st=some x :=
 agC (fun n m x h=>(Sf n m).code _ _ _ h) h
def Wl {f:FuncId}{a:D_}{hs:HS}{x:AV×HS}{n:Nat}(h:(run P n).call f a hs=some x):(Dn P).call f a hs=some x :=
 agC (fun n m x h=>(Sf n m).call _ _ _ _ h) h
theorem ak6 (n:Nat):wY (run P n) (Dn P):=⟨fun _ _ _ h=>agt h,fun _ _ _ _ h=>Wl h⟩
theorem LT {n m:Nat}{c:VC}{st:St}{x:ct×St}(h:(run P n).code c st=some x) (le:n<=m):(run P m).code c st=some x:=by
 grind [wY.code,Sf,Nat.add_sub_cancel']
def up {n m:Nat}(le:n<=m):wY (run P n) (run P m):=by
 grind [Sf,Nat.add_sub_cancel']
theorem xJ {c:VC}{st:St}{x:ct×St}(h:(Dn P).code c st=some x):∃ n,(run P n).code c st=some x:=ahF h
theorem DF {f:FuncId}{a:D_}{hs:HS}{x:AV×HS}(h:(Dn P).call f a hs=some x):∃ n,(run P n).call f a hs=some x:=ahF h
theorem ajh {f:FuncId}{vs:D_}{h:ak}{x:AV}(e:eD (Dn P) f vs h=some x):∃ n,eD (run P n) f vs h=some x:=by
 grind [eD,DF]
theorem amn {l:Nat}{vs:D_}{hs:HS}{x:AV×HS}(e:uZ (Dn P) l vs hs=some x):∃ n,uZ (run P n) l vs hs=some x:=by
 unfold uZ at e⊢;split at e
 .split at e
  .simp at e
  .split at e<;>grind [xJ,LT]
 simp_all
theorem alp {f:AV}{vs:D_}{hs:HS}{x:AV×HS}(e:cf (Dn P) f vs hs=some x):∃ n,cf (run P n) f vs hs=some x:=by
 cases f<;>simp only[cf,reduceCtorEq]at e⊢
 all_goals grind [DF,amn]
theorem aw3 {o:n9}{st:St}{x:AV×St}(e:db o (Dn P) st=some x):∃ n,db o (run P n) st=some x:=by
 cases o<;>try exact⟨0,e⟩
 .rename_i f args;simp only[db,Fh]at e⊢
  cases hr:rdAll st.env args<;>grind [ajh]
 .rename_i f args;simp only[db,DK]at e⊢
  cases hr:rdAll st.env args<;>grind [DF]
 .rename_i f args;simp only[db,DH]at e⊢
  cases hf:rd st.env f with
  | none=>simp_all
  | some p =>
   obtain⟨fv,e0⟩:=p;simp only at e⊢
   cases hr:rdAll e0 args<;>grind [alp]
theorem ahK {i:VI}{st x:St}(e:cU (Dn P) i st=some x):∃ n,cU (run P n) i st=some x:=by
 have go:∀ x,gj (Dn P) i st=some x->∃ n,gj (run P n) i st=some x:=fun x e=>by
  grind [gj,aw3]
 unfold cU at e⊢;split at e
 .simp_all
 .split at e
  .split at e<;>simp_all
  all_goals simp_all
theorem ajT:∀ {l:T_}{st x:St},kL (Dn P) l st=some x->∃ n,kL (run P n) l st=some x
 | [],_,_,e=>⟨0,e⟩
 | i::l,st,x,e=>by
  simp only[kL]at e⊢
  cases hv:cU (Dn P) i st with
  | none=>simp_all
  | some st1 =>
   rw[hv]at e;obtain⟨n1,h1⟩:=ahK hv;obtain⟨n2,h2⟩:=ajT e;refine⟨n1+n2,?_⟩;rw[Dv (up (tV n1 n2)) h1];exact Sw (up (kY n2 n1)) h2
def azd {F:C_}{i:VI}{st x:St}(e:wj (Dn P) F i st=some x):∃ n,wj (run P n) F i st=some x:=by
 grind [wj,ahK]
def as7 {a:Bool}{F:C_}{i:VI}{st x:St}(e:bX (Dn P) a F i st=some x):∃ n,bX (run P n) a F i st=some x:=by
 cases a
 .exact ahK e
 .exact azd e
theorem akC {nr:C_}{vs:T_}:∀ {l F:C_}{st x:St},fE (Dn P) nr vs l F st=some x->∃ n,fE (run P n) nr vs l F st=some x
 | [],_,_,_,e=>⟨0,e⟩
 | i::l,F,st,x,e=>by
  simp only[fE]at e⊢
  cases hi:vs[i]? with
  | none=>simp_all
  | some v =>
   rw[hi]at e;simp only at e⊢
   cases hv:bX (Dn P) (et i nr) F v st with
   | none=>simp_all
   | some st1 =>
    rw[hv]at e;obtain⟨n1,h1⟩:=as7 hv;obtain⟨n2,h2⟩:=akC e;refine⟨n1+n2,?_⟩;rw[Xe (up (tV n1 n2)) h1];exact QJ (up (kY n2 n1)) h2
theorem ahA {c:VC}{st:St}{x:ct×St}(e:cW c (Dn P) st=some x):∃ n,cW c (run P n) st=some x:=by
 cases c<;>try exact⟨0,e⟩
 .grind [cW,S5,ajT]
 .rename_i perm gco nr ops;simp only[cW,LE,Mv]at e⊢
  cases ha:rW st.env ops<;>grind [akC]
 .rename_i a b;simp only[cW,Na]at e⊢
  grind [xJ,LT]
 .rename_i cr a b;simp only[cW,LG]at e⊢;split at e<;>grind [xJ]
 .grind [cW,MP,xJ]
 .rename_i a;simp only[cW,Ql]at e⊢
  grind [xJ,LT]
 .rename_i f params assign body;simp only[cW,Dx]at e⊢;split at e<;>grind [DF]
 .exact xJ e
 .rename_i a cur;simp only[cW,Ki]at e⊢
  grind [xJ,LT]
 .rename_i i d f a;simp only[cW,QA]at e⊢
  cases hg:get st.env i with
  | none=>simp_all
  | some p =>
   rw[hg]at e
   cases p<;>simp only at e⊢<;>try exact absurd e (by simp)
   rename_i id off
   cases hv:(Dn P).code a ⟨put st.env d (.ptr id off),st.hs⟩ with
   | none=>simp_all
   | some p =>
    obtain⟨o,st1⟩:=p;obtain⟨n1,h1⟩:=xJ hv;rw[hv]at e
    cases o<;>simp only at e⊢<;>try exact absurd e (by simp)
    all_goals
     cases hc:(Dn P).call f [.ptr id off] st1.hs with
     | none=>simp_all
     | some q =>
      obtain⟨n2,h2⟩:=DF hc;rw[hc]at e;refine⟨n1+n2,?_⟩;rw[LT h1 (tV n1 n2)];simp only[(up (kY n2 n1)).call _ _ _ _ h2];exact e
def ask {f:FuncId}{a:D_}{h:HS}{x:AV×HS}(e:vL P (Dn P) f a h=some x):∃ n,vL P (run P n) f a h=some x:=by
 unfold vL at e⊢;split at e
 .simp at e
 .split at e<;>grind [ahA]
theorem iI (c:VC) (st:St):(Dn P).code c st=cW c (Dn P) st:=by
 cases h:cW c (Dn P) st with
 | some x =>
  obtain⟨n,hn⟩:=ahA h;exact agt (n:=n+1) hn
 | none =>
  cases k:(Dn P).code c st with
  | none=>rfl
  | some x =>
   obtain⟨n,hn⟩:=xJ k
   cases n<;>grind [run,Ny,ak6]
theorem au3 (f:FuncId) (a:D_) (hs:HS):(Dn P).call f a hs=vL P (Dn P) f a hs:=by
 cases h:vL P (Dn P) f a hs with
 | some x =>
  obtain⟨n,hn⟩:=ask h;exact Wl (n:=n+1) hn
 | none =>
  cases k:(Dn P).call f a hs with
  | none=>rfl
  | some x =>
   obtain⟨n,hn⟩:=DF k
   cases n<;>grind [run,Xm,ak6]
abbrev aB:=@Int.eq_ofNat_of_zero_le
variable {P:Nat->Y_}
def Ao (P:Nat->Y_) (x:K_) (b:VC):K_ :=
 match x with
 | some (.normal,st)=>(Dn P).code b st
 | x=>x
def yH (id:Nat) (x:K_):K_ :=
 match x with
 | some (.exit j,st)=>if j=id then some (.normal,st) else some (.exit j,st)
 | x=>x
def fb (x:Z_):K_ :=
 match x with
 | some st=>some (.normal,st)
 | none=>none
def qT (P:Nat->Y_) (a:VC) (x:K_):K_ :=
 match x with
 | some (.normal,st)=>(Dn P).code (.loop a) st
 | x=>x
def Ws (fn:aj) (x:K_):X_ :=
 match x with
 | some (.normal,st)=>Gu fn st
 | some (.ret,st)=>Gu fn st
 | _=>none
def tD (x:X_):M_ :=
 match x with
 | some (v,hs)=>gQ hs.heap v
 | none=>none
def axs {st:St}{b:VC}:Ao P (some (.normal,st)) b=(Dn P).code b st:=(rfl)
def axg {st:St}{b:VC}:Ao P (some (.ret,st)) b=some (.ret,st):=(rfl)
def ax2 {st:St}{b:VC}{j:Nat}:Ao P (some (.exit j,st)) b=some (.exit j,st):=(rfl)
def axw {st:St}{b:VC}{j:Nat}:Ao P (some (.goto j,st)) b=some (.goto j,st):=(rfl)
def aw5 {b:VC}:Ao P none b=none:=(rfl)
def ayH {c:Prop}[Decidable c] {x y:K_}{b:VC}:Ao P (if c then x else y) b=if c then Ao P x b else Ao P y b:=d_
def ay7 {st:St}{i:Nat}:yH i (some (.normal,st))=some (.normal,st):=(rfl)
def axE {st:St}{i:Nat}:yH i (some (.ret,st))=some (.ret,st):=(rfl)
def awU {st:St}{i j:Nat}:yH i (some (.exit j,st))=if j=i then some (.normal,st) else some (.exit j,st):=(rfl)
def ays {st:St}{i j:Nat}:yH i (some (.goto j,st))=some (.goto j,st):=(rfl)
def ayK {i:Nat}:yH i none=none:=(rfl)
def axQ {c:Prop}[Decidable c] {x y:K_}{i:Nat}:yH i (if c then x else y)=if c then yH i x else yH i y:=d_
theorem Mx {st:St}{a:VC}:qT P a (some (.normal,st))=(Dn P).code (.loop a) st:=(rfl)
def avX {st:St}{a:VC}:qT P a (some (.ret,st))=some (.ret,st):=(rfl)
def awN {st:St}{a:VC}{j:Nat}:qT P a (some (.exit j,st))=some (.exit j,st):=(rfl)
def au1 {st:St}{a:VC}{j:Nat}:qT P a (some (.goto j,st))=some (.goto j,st):=(rfl)
def avc {a:VC}:qT P a none=none:=(rfl)
def avZ {c:Prop}[Decidable c] {x y:K_}{a:VC}:qT P a (if c then x else y)=if c then qT P a x else qT P a y:=d_
def aym {st:St}:fb (some st)=some (.normal,st):=(rfl)
def ayI:fb none=none:=(rfl)
def ayv {c:Prop}[Decidable c] {x y:Z_}:fb (if c then x else y)=if c then fb x else fb y:=d_
def ayU {v:AV}{hs:HS}:tD (some (v,hs))=gQ hs.heap v:=(rfl)
def aw6:tD none=none:=(rfl)
def axU {c:Prop}[Decidable c] {x y:X_}:tD (if c then x else y)=if c then tD x else tD y:=d_
def aqq {st:St}:(Dn P).code .skip st=some (.normal,st):=by rw[iI];rfl
def apC {st:St}{i:Nat}:(Dn P).code (.exit i) st=some (.exit i,st):=by rw[iI];rfl
def aq2 {st:St}:(Dn P).code .ret st=some (.ret,st):=by rw[iI];rfl
def al9 {st:St}{i:Nat}:(Dn P).code (.label i) st=some (.normal,st):=by rw[iI];rfl
def aqe {st:St}{i:Nat}:(Dn P).code (.goto i) st=some (.goto i,st):=by rw[iI];rfl
def aqS {st:St}{a b:VC}:(Dn P).code (.seq a b) st=Ao P ((Dn P).code a st) b:=by rw[iI];rfl
def amI {st:St}{i:Nat}{a:VC}:(Dn P).code (.block i a) st=yH i ((Dn P).code a st):=by
 grind [iI,cW,MP,yH,Nat.eq_of_beq_eq_true,Nat.ne_of_beq_eq_false]
def aqc {st:St}{a:VC}:(Dn P).code (.loop a) st=qT P a ((Dn P).code a st):=by rw[iI];rfl
theorem Vw {st:St}{d:Bool}{ops:T_}:(Dn P).code (.reg d ops) st=fb (kL (Dn P) ops st):=by rw[iI];rfl
theorem apc {st:St}{perm gco:C_}{ops:T_}(ha:rW st.env ops=true):(Dn P).code (.regP perm gco [] ops) st=fb (wX (Dn P) ops perm st):=by
 rw[iI];simp only[cW,LE,Mv,aeV,ha];rfl
def amy {e:aV}{hs:HS}{a b:VC}{t:Bool}:(Dn P).code (.cond (.c (B_ t)) a b) ⟨e,hs⟩=if t=true then (Dn P).code a ⟨e,hs⟩ else (Dn P).code b ⟨e,hs⟩:=by
 grind [iI,cW,LG,rd]
def Tx (P:Nat->Y_) (v:M_) (a b:VC) (st:St):K_ :=
 match v with
 | some (.d (.bool true))=>(Dn P).code a st
 | some (.d (.bool false))=>(Dn P).code b st
 | _=>none
def aoa {e:aV}{hs:HS}{i:Nat}{a b:VC}:(Dn P).code (.cond (.m i) a b) ⟨e,hs⟩=Tx P (get e i) a b ⟨del e i,hs⟩:=by
 rw[iI];simp only[cW,LG,rd,Tx]
 grind
def avb {a b:VC}{st:St}:Tx P (some (B_ true)) a b st=(Dn P).code a st:=(rfl)
def auS {a b:VC}{st:St}:Tx P (some (B_ false)) a b st=(Dn P).code b st:=(rfl)
def aHl (P:Nat->Y_) (v:M_) (w:Bool) (d:I_) (op:n9) (th:R_) (st:St):Z_ :=
 match v with
 | some (.d (.bool b))=>match b == w with
  | true=>cU (Dn P) ⟨d,none,op,th⟩ st
  | false=>some (cJ d (.tup []) st)
 | some (.tup [])=>some (cJ d (.tup []) st)
 | _=>none
def aDN {α:Type}{i:Nat}:get ([]:List (Nat×α)) i=none:=(rfl)
def ayh {α:Type}{k i:Nat}{v:α}{r:List (Nat×α)}:get ((k,v)::r) i=if k=i then some v else get r i:=iW ..
def aD9 {α:Type}{i:Nat}{x:α}:put [] i x=[(i,x)]:=(rfl)
def put1 {α:Type}{k i:Nat}{v x:α}{r:List (Nat×α)}:put ((k,v)::r) i x=if k=i then (i,x)::r else if i<=k then (i,x)::(k,v)::r else (k,v)::put r i x:=wU ..
def aC4 {α:Type}{i:Nat}:del ([]:List (Nat×α)) i=[]:=(rfl)
def ayS {α:Type}{k i:Nat}{v:α}{r:List (Nat×α)}:del ((k,v)::r) i=if k=i then del r i else (k,v)::del r i:=oh ..
theorem UH {k:IntKind}:mX k k=true:=by cases k<;>rfl
theorem my {op:BinOp}{k:IntKind}{a b:Int}(h1:op≠.shl) (h2:op≠.shr):dA op (.d (.int k a)) (.d (.int k b))=match jN op k a b with | some x=>some (.d x) | none=>none:=by
 grind [dA,vJ,UH]
def auM {k:IntKind}{a b:Int}:dA .add (.d (.int k a)) (.d (.int k b))=some (.d (.int k (wr k (a+b)))):=by rw[my s_ s_];rfl
def avh {k:IntKind}{a b:Int}:dA .sub (.d (.int k a)) (.d (.int k b))=some (.d (.int k (wr k (a-b)))):=by rw[my s_ s_];rfl
def auL {k:IntKind}{a b:Int}:dA .mul (.d (.int k a)) (.d (.int k b))=some (.d (.int k (wr k (a*b)))):=by rw[my s_ s_];rfl
def avY {k:IntKind}{a b:Int}(h:b≠0):dA .quo (.d (.int k a)) (.d (.int k b))=some (.d (.int k (wr k (a.tdiv b)))):=by grind [my,jN]
def awd {k:IntKind}{a b:Int}(h:b≠0):dA .rem (.d (.int k a)) (.d (.int k b))=some (.d (.int k (a.tmod b))):=by grind [my,jN]
def avl {k:IntKind}{a b:Int}:dA .eql (.d (.int k a)) (.d (.int k b))=if a=b then some (B_ true) else some (B_ false):=by grind [my,jN]
def av4 {k:IntKind}{a b:Int}:dA .neq (.d (.int k a)) (.d (.int k b))=if a=b then some (B_ false) else some (B_ true):=by grind [my,jN]
def auh {k:IntKind}{a b:Int}:dA .lss (.d (.int k a)) (.d (.int k b))=if a<b then some (B_ true) else some (B_ false):=by grind [my,jN]
def awA {k:IntKind}{a b:Int}:dA .leq (.d (.int k a)) (.d (.int k b))=if a<=b then some (B_ true) else some (B_ false):=by grind [my,jN]
def auH {k:IntKind}{a b:Int}:dA .gtr (.d (.int k a)) (.d (.int k b))=if b<a then some (B_ true) else some (B_ false):=by grind [my,jN]
def avv {k:IntKind}{a b:Int}:dA .geq (.d (.int k a)) (.d (.int k b))=if b<=a then some (B_ true) else some (B_ false):=by grind [my,jN]
def avA {k j:IntKind}{a b:Int}(h:0<=b):dA .shl (.d (.int k a)) (.d (.int j b))=some (.d (.int k (wr k (a*((2 ^ (min b.toNat k.bits):Nat):Int))))):=by
 grind [dA,vJ,Hw]
def avs {k j:IntKind}{a b:Int}(h:0<=b):dA .shr (.d (.int k a)) (.d (.int j b))=some (.d (.int k (a.fdiv ((2 ^ (min b.toNat k.bits):Nat):Int)))):=by
 grind [dA,vJ,Hw]
def asG {a b:BC_}:dA .neq (.d (.str a)) (.d (.str b))=if a=b then some (B_ false) else some (B_ true):=by
 grind [dA]
def aBc {n:Int}(h:0<=n) (h2:n<=255):wr .u8 n=n:=by
 grind [wr,oA]
def axp {n:Int}(h:0<=n) (h2:n<=65535):wr .u16 n=n:=by
 grind [wr,oA]
def azh {n:Int}(h:0<=n) (h2:n<=4294967295):wr .u32 n=n:=by
 grind [wr,oA]
def aw7 {n:Int}(h:0<=n) (h2:n<=18446744073709551615):wr .u64 n=n:=by
 grind [wr,oA]
def zG {k:IntKind}{i:Int}{t:Nat}(h:0<=i) (h2:i<=t):ef (.d (.int k i)) t=some i.toNat:=by
 obtain⟨n,rfl⟩:=aB h;have:Nat.ble n t=true:=cP o_;show (match Nat.ble n t with | true=>some n | false=>none)=_
 grind
theorem SN {k:IntKind}{i:Int}(h:0<=i):qV (.d (.int k i))=some i.toNat:=by
 obtain⟨n,rfl⟩:=aB h;rfl
def pq (k:IntKind):Nat:=if k.signed then 2 ^ (k.bits-1) else 2 ^ k.bits
theorem avK (k:IntKind):pq k<=2 ^ k.bits:=by cases k<;>decide
theorem ant {k:IntKind}{n:Nat}(h:n<pq k):k.wrap (n:Int)=n:=by
 cases k<;>simp only[pq,IntKind.wrap,IntKind.signed,IntKind.bits]at h⊢<;>simp at h⊢<;>omega
theorem Ln {k:IntKind}{n:Nat}(h:n<pq k):(BitVec.ofInt k.bits (n:Int)).toNat=n:=by
 grind [avK]
def aw1 {k:IntKind}{a b:Nat}(h:a<pq k) (h2:b<pq k) (h3:a ||| b<pq k):dA .or (.d (.int k (a:Int))) (.d (.int k (b:Int)))=some (.d (.int k ((a ||| b:Nat):Int))):=by
 grind [my,jN,HW,Ln,ant]
theorem avU {a b t:Nat}(h:a<t):a &&& b<t:=by grind [Nat.and_le_left]
def avG {k:IntKind}{a b:Nat}(h:a<pq k) (h2:b<pq k):dA .and (.d (.int k (a:Int))) (.d (.int k (b:Int)))=some (.d (.int k ((a &&& b:Nat):Int))):=by
 grind [my,jN,HW,Ln,ant,avU]
def br (P:Nat->Y_) (f:FuncId) (ds:D_):M_:=tD ((Dn P).call f ds ⟨[],0⟩)
theorem acw {f:FuncId}{fn:aj}{args:D_}{hs:HS}(hf:P f=some fn) (hl:args.length=fn.nparams):(Dn P).call f args hs=Ws fn ((Dn P).code fn.body ⟨ku 0 args,hs⟩):=by
 grind [au3,Nat.beq_refl,vL,Ws,iI]
def arP {f:FuncId}{fn:aj}{args:D_}(hf:P f=some fn) (hl:args.length=fn.nparams):br P f args=tD (Ws fn ((Dn P).code fn.body ⟨ku 0 args,⟨[],0⟩⟩)):=by
 grind [br,acw]
def aqm {g:FuncId}{first caps args:D_}{hs:HS}:cf (Dn P) (.fn g first caps) args hs=(Dn P).call g (first++(args++caps)) hs:=(rfl)
def aye {α:Type}{a b:Prop}[Decidable a] [Decidable b] {x y:α}:(if a then (if b then x else y) else y)=if a∧b then x else y:=by
 grind
def ay4 {α:Type}{a b:Prop}[Decidable a] [Decidable b] {x y:α}:(if a then x else (if b then x else y))=if a∨b then x else y:=by
 grind
def azj {α:Type}{a b:Prop}[Decidable a] [Decidable b] {x y:α}:(if a then (if b then y else x) else y)=if a∧¬ b then x else y:=by
 grind
def ayd {α:Type}{a b:Prop}[Decidable a] [Decidable b] {x y:α}:(if a then x else (if b then y else x))=if a∨¬ b then x else y:=by
 grind
def nth {α:Type}[Inhabited α] (l:List α) (i:Nat):α:=l.getD i default
theorem afb {α:Type}[Inhabited α] {l:List α}{i:Nat}(h:i<l.length):nth l i=l[i]:=by simp[nth,h]
theorem AS {α:Type}[Inhabited α] {l:List α}{i:Nat}(h:i<l.length):l[i]?=some (nth l i):=by simp[nth,h]
theorem qA {α:Type}[Inhabited α] {l:List α}{i:Nat}(h:i<l.length):l.drop i=nth l i::l.drop (i+1):=by grind [List.drop_eq_getElem_cons,afb]
theorem jg {α:Type}[Inhabited α] {l:List α}{i:Nat}(h:i<l.length):nth l i∈l:=by grind [afb]
abbrev I (n:Int):D:=.int .i64 n
abbrev Y (n:Int):D:=.int .u8 n
def aF (l:G_):E_:=l.map fun(n:Int)=>[D.int .i64 n]
def am (l:C_):E_:=l.map fun(n:Nat)=>[D.int .u8 (n:Int)]
def ST (l:U_):E_:=l.map fun(n:Bool)=>[D.bool n]
def asH {l:G_}:(aF l).length=l.length:=by simp[aF]
def asg {l:C_}:(am l).length=l.length:=by simp[am]
def apF {l:U_}:(ST l).length=l.length:=by simp[ST]
def IZ {l:G_}{i:Nat}(h:i<l.length):(aF l)[i]?=some [.int .i64 (nth l i)]:=by grind [aF,AS]
def arB {l:C_}{i:Nat}(h:i<l.length):(am l)[i]?=some [.int .u8 (nth l i:Nat)]:=by grind [am,AS]
def aoq {l:U_}{i:Nat}(h:i<l.length):(ST l)[i]?=some [.bool (nth l i)]:=by grind [ST,AS]
def an9 {a b:Nat}:((a:Int)+(b:Int)).toNat=a+b:=o_
def ZG {a b:Nat}:Nat.beq a b=decide (a=b):=by
 grind [Nat.eq_of_beq_eq_true,Nat.ne_of_beq_eq_false]
theorem ZT {a b:Nat}:Nat.ble a b=decide (a<=b):=by
 grind [Nat.le_of_ble_eq_true,Nat.ble_eq_true_of_le]
def awu {x y:K_}{b:VC}(h:x=y):Ao P x b=Ao P y b:=by rw[h]
def av7 {x y:K_}{b:Nat}(h:x=y):yH b x=yH b y:=by rw[h]
def as5 {x y:K_}{b:VC}(h:x=y):qT P b x=qT P b y:=by rw[h]
def awE {x y:K_}{b:aj}(h:x=y):Ws b x=Ws b y:=by rw[h]
def avm {r:dz}{c:VC}{x y:St}(h:x=y):r.code c x=r.code c y:=by rw[h]
def arj {v w:M_}{a b:VC}{x y:St}(h:v=w) (k:x=y):Tx P v a b x=Tx P w a b y:=by rw[h,k]
variable {P:Nat->Y_}
def bA {α β:Type}(x:Option α) (f:α->Option β):Option β :=
 match x with
 | some v=>f v
 | none=>none
def bP {α γ β:Type}(x:Option (α×γ)) (f:α->γ->Option β):Option β :=
 match x with
 | some (v,w)=>f v w
 | none=>none
def lA {α β:Type}(x:α) (f:α->β):β:=f x
def lP {α γ β:Type}(x:α×γ) (f:α->γ->β):β:=f x.1 x.2
def dE {β:Type}(c:Bool) (x:Option β):Option β :=
 match c with
 | true=>x
 | false=>none
def gV (g:AV) (w:Bool) (x:M_):M_ :=
 match g with
 | .d (.bool b)=>if b=w then x else some (.tup [])
 | .tup []=>some (.tup [])
 | _=>none
def gH (g:AV) (w:Bool) (hs:HS) (x:X_):X_ :=
 match g with
 | .d (.bool b)=>if b=w then x else some (.tup [],hs)
 | .tup []=>some (.tup [],hs)
 | _=>none
def TA (c a b:AV):M_ :=
 match c with
 | .d (.bool true)=>some a
 | .d (.bool false)=>some b
 | _=>none
def aex (neg:Bool) (a b:AV):BF_ :=
 match a,b with
 | .d (.bool a),.d (.bool b)=>some (.bool (match neg with | true=>!(a == b) | false=>a == b))
 | _,_=>none
def Yg (neg:Bool) (ks:U_) (a b:AV):BF_ :=
 match a,b with
 | .agg a,.agg b=>match bx ks a b with
  | some t=>some (.bool (match neg with | true=>!t | false=>t))
  | none=>none
 | _,_=>none
def fo (op:BinOp) (a b:AV):BF_ :=
 match dA op a b with
 | some (.d x)=>some x
 | _=>none
def unD (op:UnOp) (a:AV):BF_ :=
 match aad op a with
 | some (.d x)=>some x
 | _=>none
def Ym (k:IntKind) (a:AV):BF_ :=
 match a with
 | .d (.int _ n)=>some (.int k (wr k n))
 | _=>none
def Mf (h:ak) (a:AV):BF_ :=
 match elems h a with
 | some xs=>match uR xs with
  | some s=>some (.str s)
  | none=>none
 | none=>none
def E8 (z:W_) (l c:AV):M_ :=
 match ef c aW with
 | some c=>match ef l c with
  | some n=>some (.own true z.length (List.replicate n z))
  | none=>none
 | none=>none
def tG (h:ak) (m:Nat) (x:AV) (lo hi mx:M_):M_ :=
 match okSl h m x with
 | true=>xB m x lo hi mx
 | false=>none
def RH (hp:ak) (n:Nat) (x:AV) (lo hi mx:M_):M_ :=
 match x with
 | .ptr id off=>Tm hp n id off lo hi mx
 | _=>none
def ayk (off:Nat) (n:I_) (x:AV):M_ :=
 match x with
 | .agg cs=>E5 n cs off
 | _=>none
def XN (hp:ak) (n:Nat) (x i:AV):M_ :=
 match qV i with
 | some i=>match x with
  | .sl id off len=>match Nat.ble len i with
   | true=>none
   | false=>match get hp id with
    | some (.arr m _)=>match Nat.beq m n with
     | true=>some (.pel id (off+i) 0)
     | false=>none
    | some (.cells _)=>match Nat.beq n 1 with
     | true=>some (.ptr id (off+i))
     | false=>none
    | _=>none
  | v=>match elems hp v with
   | some xs=>match xs[i]? with
    | some x=>match Nat.beq x.length n with
     | true=>some (.pim x 0)
     | false=>none
    | none=>none
   | none=>none
 | none=>none
def JB (len n:Nat) (p i:AV):M_ :=
 match qV i with
 | some i=>match Nat.ble len i with
  | true=>none
  | false=>ir (i*n) p
 | none=>none
def ixV (len n:Nat) (agg:Bool) (x i:AV):M_ :=
 match x with
 | .agg cs=>match qV i with
  | some i=>match Nat.ble len i with
   | true=>none
   | false=>E5 (ahN agg n) cs (i*n)
  | none=>none
 | _=>none
def ank (x i:AV):BF_ :=
 match x with
 | .d (.str s)=>match qV i with
  | some i=>match s[i]? with
   | some b=>some (.int .u8 (.ofNat b.toNat))
   | none=>none
  | none=>none
 | _=>none
def Ak (mv:Bool) (t:AV) (i:Nat):M_ :=
 match t with
 | .tup vs=>match vs[i]? with
  | some v=>match mv with
   | true=>some v
   | false=>some (share v)
  | none=>none
 | _=>none
def NP (t:AV) (i:Nat):AV :=
 match t with
 | .tup vs=>.tup (vs.set i .junk)
 | v=>v
def aa2 (x:AV):Bool :=
 match x with
 | .nl=>true
 | _=>false
def ZX (m:Nat) (h:ak) (a b:AV):AF_ :=
 match elems h b with
 | some ys=>match fT m ys with
  | true=>eC m h a ys
  | false=>none
 | none=>none
def Hi (z:W_) (h:ak) (a n:AV):AF_ :=
 match ef n aW with
 | some n=>eC z.length h a (List.replicate n z)
 | none=>none
def agA (m:Nat) (hp:ak) (a b:AV):Option (D×ak) :=
 match elems hp b with
 | some ys=>match a with
  | .sl id off len=>match get hp id with
   | some (.arr k xs)=>match fT m ys && Nat.beq k m && Nat.ble (off+len) xs.length with
    | true=>some (.int .i64 (.ofNat (min len ys.length)),put hp id (.arr k (aG xs off (ys.take len))))
    | false=>none
   | _=>none
  | _=>match lenOf a with
   | some 0=>some (.int .i64 (.ofNat 0),hp)
   | _=>none
 | none=>none
def axH (z:W_) (hp:ak) (x:AV):Option ak :=
 match x with
 | .sl id off len=>match get hp id with
  | some (.arr k xs)=>match Nat.beq k z.length && Nat.ble (off+len) xs.length with
   | true=>some (put hp id (.arr k (aG xs off (List.replicate len z))))
   | false=>none
  | _=>none
 | _=>none
def Em (isMax:Bool) (vs:D_):M_ :=
 match vs with
 | .d (.int k n)::vs=>CW isMax (.d (.int k n)) vs
 | _=>none
def Fz (v:AV):M_ :=
 match v with
 | .ptr .. | .pel .. | .pim .. | .fn .. | .yield ..=>some v
 | _=>none
def eW (h:ak) (n:I_) (p:AV):M_ :=
 match loadAt h n 0 p with
 | some (v,_)=>some v
 | none=>none
def JN (m:Nat) (vs:D_):Bool:=vs.all fun v=>Nat.beq v.cells.length m && v.cells.all bw
def cq {β:Type}(e:aV) (x:Rd) (k:AV->aV->Option β):Option β :=
 match rd e x with
 | some (v,e)=>k v e
 | none=>none
def kI {β:Type}:aV->V_->(D_->aV->Option β)->Option β
 | e,[],k=>k [] e
 | e,x::r,k=>match rd e x with
  | some (v,e)=>kI e r fun vs e=>k (v::vs) e
  | none=>none
def mL {β:Type}(e:aV) (x:AB_) (k:M_->aV->Option β):Option β :=
 match x with
 | none=>k none e
 | some x=>match rd e x with
  | some (v,e)=>k (some v) e
  | none=>none
def bL:Rd->Bool
 | .m _=>false
 | _=>true
def bS {β:Type}(P:Nat->Y_) (op:n9) (e:aV) (hs:HS) (k:AV->aV->HS->Option β):Option β :=
 match op with
 | .mov x=>cq e x fun v e=>k v e hs
 | .pick c a b=>cq e c fun c e=>match bL a && bL b,rd e a,rd e b with
  | true,some (a,_),some (b,_)=>bA (TA c a b) fun v=>k v e hs
  | _,_,_=>bP (li (.c c) a b ⟨e,hs⟩) fun v st=>k v st.env st.hs
 | .alloc zs=>lA (put hs.heap hs.next (.cells zs)) fun h=>k (.ptr hs.next 0) e ⟨h,hs.next+1⟩
 | .box x=>cq e x fun v e=>dE (v.cells.all bw) (lA (put hs.heap hs.next (.cells v.cells)) fun h=>k (.ptr hs.next 0) e ⟨h,hs.next+1⟩)
 | .build zs ps=>kI e (sJ ps) fun vs e=>bA (dZ zs (uf ps vs)) fun cs=>k (.agg cs) e hs
 | .mks m ps=>kI e ps fun vs e=>bA (jL m vs) fun xs=>k (.own true m xs) e hs
 | .mksv m ps=>kI e ps fun vs e=>dE (JN m vs) (lA (put hs.heap hs.next (.cells (vs.flatMap AV.cells))) fun h=>k (.sl hs.next 0 vs.length) e ⟨h,hs.next+1⟩)
 | .ld n 0 p=>cq e p fun p e=>bA (eW hs.heap n p) fun v=>k v e hs
 | .ld n (t+1) p=>cq e p fun p e=>bP (loadAt hs.heap n (t+1) p) fun v h=>k v e ⟨h,hs.next⟩
 | .st n p x=>cq e p fun p e=>cq e x fun x e=>bA (storeAt hs.heap n p x) fun h=>k .junk e ⟨h,hs.next⟩
 | .nilck x=>cq e x fun v e=>bA (Fz v) fun v=>k v e hs
 | .bin op x y=>cq e x fun a e=>cq e y fun b e=>bA (fo op a b) fun v=>k (.d v) e hs
 | .binb neg x y=>cq e x fun a e=>cq e y fun b e=>bA (aex neg a b) fun v=>k (.d v) e hs
 | .bina neg ks x y=>cq e x fun a e=>cq e y fun b e=>bA (Yg neg ks a b) fun v=>k (.d v) e hs
 | .un op x=>cq e x fun a e=>bA (unD op a) fun v=>k (.d v) e hs
 | .conv j x=>cq e x fun a e=>bA (Ym j a) fun v=>k (.d v) e hs
 | .toStr x=>cq e x fun a e=>bA (Mf hs.heap a) fun v=>k (.d v) e hs
 | .mkfn f a c=>kI e a fun a e=>kI e c fun c e=>k (.fn f (shareAll a) (shareAll c)) e hs
 | .mkslice z l c=>cq e l fun l e=>cq e c fun c e=>bA (E8 z l c) fun v=>k v e hs
 | .slice m x lo hi mx=>cq e x fun x e=>mL e lo fun lo e=>mL e hi fun hi e=>mL e mx fun mx e=>bA (tG hs.heap m x lo hi mx) fun v=>k v e hs
 | .slarr n x lo hi mx=>cq e x fun x e=>mL e lo fun lo e=>mL e hi fun hi e=>mL e mx fun mx e=>bA (RH hs.heap n x lo hi mx) fun v=>k v e hs
 | .fa off p=>cq e p fun p e=>bA (ir off p) fun v=>k v e hs
 | .fld off n x=>cq e x fun x e=>bA (ayk off n x) fun v=>k v e hs
 | .ia n x i=>cq e x fun x e=>cq e i fun i e=>bA (XN hs.heap n x i) fun v=>k v e hs
 | .iarr l n p i=>cq e p fun p e=>cq e i fun i e=>bA (JB l n p i) fun v=>k v e hs
 | .ix l n a x i=>cq e x fun x e=>cq e i fun i e=>bA (ixV l n a x i) fun v=>k v e hs
 | .ixs x i=>cq e x fun x e=>cq e i fun i e=>bA (ank x i) fun v=>k (.d v) e hs
 | .ext j true i=>match get e j with
  | some t=>bA (Ak true t i) fun v=>k v (put e j (NP t i)) hs
  | none=>none
 | .ext j false i=>match get e j with
  | some t=>bA (Ak false t i) fun v=>k v e hs
  | none=>none
 | .len x=>cq e x fun x e=>bA (lenOf x) fun n=>k (.int .i64 (.ofNat n)) e hs
 | .cap x=>cq e x fun x e=>dE (aa2 x) (k (.int .i64 (.ofNat 0)) e hs)
 | .app m x y=>cq e x fun a e=>cq e y fun b e=>bP (ZX m hs.heap a b) fun v h=>k v e ⟨h,hs.next⟩
 | .appz z x n=>cq e x fun a e=>cq e n fun n e=>bP (Hi z hs.heap a n) fun v h=>k v e ⟨h,hs.next⟩
 | .cpy m x y=>cq e x fun a e=>cq e y fun b e=>bP (agA m hs.heap a b) fun v h=>k (.d v) e ⟨h,hs.next⟩
 | .clr z x=>cq e x fun x e=>bA (axH z hs.heap x) fun h=>k (.tup []) e ⟨h,hs.next⟩
 | .minmax b xs=>kI e xs fun vs e=>bA (Em b vs) fun v=>k v e hs
 | .call f args=>kI e args fun vs e=>bA (eD (Dn P) f vs hs.heap) fun v=>k v e hs
 | .calli f args=>kI e args fun vs e=>bP ((Dn P).call f vs hs) fun v hs=>k v e hs
 | .callv f args=>cq e f fun f e=>kI e args fun vs e=>bP (cf (Dn P) f vs hs) fun v hs=>k v e hs
 | .kill is=>k (.tup []) (is.foldl del e) hs
 | .idxb x c=>cq e x fun x e=>cq e c fun c e=>bA (ars hs.heap x c) fun v=>k v e hs
 | op=>bP (db op (Dn P) ⟨e,hs⟩) fun v st=>k v st.env st.hs
def iO:V_->Bool
 | []=>true
 | x::r=>bL x && iO r
def BZ:AB_->Bool
 | none=>true
 | some x=>bL x
def dH:n9->Bool
 | .mov x=>bL x
 | .ld _ 0 p=>bL p
 | .nilck x=>bL x
 | .bin _ x y=>bL x && bL y
 | .binb _ x y=>bL x && bL y
 | .un _ x=>bL x
 | .conv _ x=>bL x
 | .fa _ p=>bL p
 | .fld _ _ x=>bL x
 | .ia _ x i=>bL x && bL i
 | .iarr _ _ p i=>bL p && bL i
 | .ix _ _ _ x i=>bL x && bL i
 | .ixs x i=>bL x && bL i
 | .ext _ mv _=>!mv
 | .len x=>bL x
 | .call _ args=>iO args
 | .pick c a b=>bL c && bL a && bL b
 | .build _ ps=>iO (sJ ps)
 | .toStr x=>bL x
 | .mkfn _ a c=>iO a && iO c
 | .mkslice _ l c=>bL l && bL c
 | .minmax _ xs=>iO xs
 | .slice _ x a b c=>bL x && (BZ a && (BZ b && BZ c))
 | _=>false
def Fo:n9->Bool
 | .calli _ args=>iO args
 | .callv f args=>bL f && iO args
 | _=>false
def cvi (P:Nat->Y_) (i:VI) (e:aV) (hs:HS) (k:aV->HS->Z_):Z_ :=
 match i.guard with
 | none=>match i.th with
  | []=>match i.dst with
   | some d=>bS P i.op e hs fun v e hs=>k (put e d (firm v)) hs
   | none=>bS P i.op e hs fun _ e hs=>k e hs
  | th=>match i.dst with
   | some d=>bS P i.op e hs fun v e hs=>lP (dQ th v hs) fun v hs=>k (put e d (firm v)) hs
   | none=>bS P i.op e hs fun v e hs=>lP (dQ th v hs) fun _ hs=>k e hs
 | some (s,w)=>match dH i.op,i.th,i.dst with
  | true,[],some d=>match get e s with
   | some g=>bA (gV g w (bS P i.op e hs fun v _ _=>some v)) fun v=>k (put e d (firm v)) hs
   | none=>none
  | _,_,_=>match Fo i.op,i.th,i.dst with
   | true,[],some d=>match get e s with
    | some g=>bP (gH g w hs (bS P i.op e hs fun v _ hs=>some (v,hs))) fun v hs=>k (put e d (firm v)) hs
    | none=>none
   | _,_,_=>bA (cU (Dn P) i ⟨e,hs⟩) fun st=>k st.env st.hs
def pB (P:Nat->Y_):T_->aV->HS->Z_
 | [],e,hs=>some ⟨e,hs⟩
 | i::l,e,hs=>cvi P i e hs fun e hs=>pB P l e hs
theorem aui {op:BinOp}{a b v:AV}(h:dA op a b=some v):∃ x,v=.d x:=by
 unfold dA at h
 grind
theorem awT {op:UnOp}{a v:AV}(h:aad op a=some v):∃ x,v=.d x:=by
 unfold aad at h
 grind
theorem eU {β:Type}{e:aV}{x:Rd}{k:AV->aV->Option β}:cq e x k=match rd e x with | some (v,e)=>k v e | none=>none:=rfl
theorem nV {β:Type}:∀ {l:V_}{e:aV}{k:D_->aV->Option β},kI e l k=match rdAll e l with | some (vs,e)=>k vs e | none=>none
 | [],_,_=>rfl
 | x::r,e,k=>by
  simp only[kI,rdAll]
  cases rd e x with
  | none=>rfl
  | some p =>
   simp only;rw[nV]
   grind
def ak9 {β:Type}{e:aV}{x:AB_}{k:M_->aV->Option β}:mL e x k=match rdOpt e x with | some (v,e)=>k v e | none=>none:=by
 cases x<;>grind [mL,rdOpt]
def arY {h h':ak}{n:I_}{p v:AV}(k:loadAt h n 0 p=some (v,h')):h'=h:=by
 unfold loadAt at k
 grind
def gb {β:Type}(x:L_) (k:AV->aV->HS->Option β):Option β :=
 match x with
 | some (v,st)=>k v st.env st.hs
 | none=>none
theorem tM {e e1:aV}{x:Rd}{v:AV}(hs:bL x=true) (h:rd e x=some (v,e1)):e1=e:=by
 cases x<;>grind [rd,bL]
theorem OV {a b:Rd}{st:St}:li (.c (B_ true)) a b st=match rd st.env a with | some (v,e)=>some (v,⟨e,st.hs⟩) | none=>none:=rfl
theorem OI {a b:Rd}{st:St}:li (.c (B_ false)) a b st=match rd st.env b with | some (v,e)=>some (v,⟨e,st.hs⟩) | none=>none:=rfl
def Ic {β:Type}{op:n9}{e:aV}{hs:HS}{k:AV->aV->HS->Option β}:bS P op e hs k=gb (db op (Dn P) ⟨e,hs⟩) k:=by
 cases op with
 | mov x=>grind [bS,db,Tt,eU,gb]
 | pick c a b =>
  simp only[bS,db,eU]
  cases hc:rd e c with
  | none=>grind [li,gb]
  | some q =>
   obtain⟨v,e1⟩:=q;have h0:li c a b ⟨e,hs⟩=li (.c v) a b ⟨e1,hs⟩:=by
    unfold li;simp only;rw[hc];rfl
   rw[h0];simp only;split
   .rename_i va _ vb _ hst hra hrb;simp only[af]at hst;have ea:=tM hst.1 hra;have eb:=tM hst.2 hrb;subst ea;subst eb;simp only[gb]
    cases v with
    | d x=>cases x with
     | bool t =>
      cases t
      all_goals grind [OI,TA,bA,OV]
     | _=>rfl
    | _=>rfl
   .simp only[bP,gb]
    grind
 | ld n t p =>
  cases t with
  | zero =>
   simp only[bS,db,D5,eU,gb]
   cases rd e p with
   | none=>rfl
   | some q =>
    obtain⟨v,e1⟩:=q;simp only[eW,bA]
    cases hl:loadAt hs.heap n 0 v with
    | none=>rfl
    | some r=>obtain⟨v2,h2⟩:=r;simp only[arY hl]
  | succ t =>
   grind [bS,db,D5,eU,gb,bP]
 | alloc zs=>rfl
 | box x =>
  grind [bS,db,SP,eU,gb,dE,lA,HI]
 | build zs ps =>
  grind [bS,db,Ex,nV,gb,bA]
 | mks m ps =>
  grind [bS,db,Nx,nV,gb,bA]
 | mksv m ps =>
  grind [bS,db,Y6,nV,gb,dE,lA,HI,JN]
 | st n p x =>
  simp only[bS,db,anf,eU,gb]
  grind [bA]
 | nilck x =>
  grind [bS,db,Hu,eU,gb,bA,Fz]
 | bin op x y =>
  simp only[bS,db,Pb,Th,eU,gb]
  grind [bA,fo,aui]
 | binb neg x y =>
  simp only[bS,db,LI,eU,gb]
  grind [bA,aex]
 | bina neg ks x y =>
  simp only[bS,db,Mo,eU,gb]
  cases rd e x<;>grind [bA,Yg]
 | un op x =>
  grind [bS,db,ZP,eU,gb,bA,unD,awT]
 | conv j x =>
  simp only[bS,db,I3,eU,gb]
  cases rd e x with
  | none=>rfl
  | some q =>
   obtain⟨v,e1⟩:=q;simp only[bA,Ym]
   grind
 | toStr x =>
  simp only[bS,db,LH,eU,gb]
  grind [bA,Mf]
 | mkfn f a c =>
  grind [bS,db,Ip,nV,gb]
 | mkslice z l c =>
  simp only[bS,db,ml,eU,gb]
  cases rd e l<;>grind [bA,E8]
 | slice m x lo hi mx =>
  simp only[bS,db,Mi,eU,ak9,gb]
  cases rd e x<;>grind [bA,tG]
 | slarr n x lo hi mx =>
  simp only[bS,db,SY,eU,ak9,gb]
  cases rd e x with
  | none=>rfl
  | some q =>
   obtain⟨v,e1⟩:=q;simp only
   cases v<;>grind [bA,RH]
 | fa off p =>
  grind [bS,db,abe,eU,gb,bA]
 | fld off n x =>
  simp only[bS,db,Ne,eU,gb]
  cases rd e x with
  | none=>rfl
  | some q =>
   obtain⟨v,e1⟩:=q;simp only[bA,ayk]
   grind
 | ia n x i =>
  simp only[bS,db,afN,eU,gb]
  cases rd e x with
  | none=>rfl
  | some q =>
   obtain⟨v,e1⟩:=q;simp only
   cases rd e1 i with
   | none=>rfl
   | some q =>
    obtain⟨w,e2⟩:=q;simp only[bA,XN]
    cases qV w with
    | none=>rfl
    | some j =>
     simp only
     cases v<;>grind
 | iarr l n p i =>
  simp only[bS,db,Mg,eU,gb]
  cases rd e p<;>grind [bA,JB]
 | ix l n a x i =>
  simp only[bS,db,Vz,eU,gb]
  cases rd e x with
  | none=>rfl
  | some q =>
   obtain⟨v,e1⟩:=q;simp only
   cases hi:rd e1 i with
   | none=>grind
   | some q =>
    obtain⟨w,e2⟩:=q;simp only[bA,ixV]
    grind
 | ixs x i =>
  simp only[bS,db,NO,eU,gb]
  cases rd e x with
  | none=>rfl
  | some q =>
   obtain⟨v,e1⟩:=q;simp only
   cases hi:rd e1 i with
   | none=>grind
   | some q =>
    obtain⟨w,e2⟩:=q;simp only[bA,ank]
    grind
 | ext j mv i =>
  cases mv with
  | true =>
   simp only[bS,db,BO,gb]
   cases get e j with
   | none=>rfl
   | some t =>
    simp only[bA,Ak,NP]
    grind
  | false =>
   simp only[bS,db,BO,gb]
   cases get e j with
   | none=>rfl
   | some t =>
    simp only[bA,Ak]
    grind
 | len x =>
  grind [bS,db,Tj,eU,gb,bA]
 | cap x =>
  simp only[bS,db,Nr,eU,gb]
  cases rd e x with
  | none=>rfl
  | some q =>
   obtain⟨v,e1⟩:=q;simp only[dE,aa2]
   grind
 | app m x y =>
  simp only[bS,db,Hn,eU,gb]
  cases rd e x<;>grind [bP,ZX]
 | appz z x n =>
  simp only[bS,db,agm,eU,gb]
  grind [bP,Hi]
 | cpy m x y =>
  simp only[bS,db,YP,eU,gb]
  cases rd e x with
  | none=>rfl
  | some q =>
   obtain⟨v,e1⟩:=q;simp only
   cases rd e1 y with
   | none=>rfl
   | some q =>
    obtain⟨w,e2⟩:=q;simp only[bP,agA]
    cases elems hs.heap w with
    | none=>rfl
    | some ys =>
     simp only
     cases v with
     | sl id off len =>
      grind
     | _ =>
      simp only;generalize lenOf _=n
      cases n with
      | none=>rfl
      | some n=>cases n<;>rfl
 | clr z x =>
  simp only[bS,db,Tf,eU,gb]
  cases rd e x with
  | none=>rfl
  | some q =>
   simp only[bA,axH]
   grind
 | minmax b xs =>
  simp only[bS,db,Az,nV,gb]
  cases rdAll e xs with
  | none=>rfl
  | some q =>
   simp only[bA,Em]
   grind
 | call f args =>
  grind [bS,db,Fh,nV,gb,bA]
 | calli f args =>
  grind [bS,db,DK,nV,gb,bP]
 | callv f args =>
  simp only[bS,db,DH,eU,nV,gb]
  grind [bP]
 | kill is=>rfl
 | idxb x c =>
  simp only[bS,db,ahL,eU,gb]
  grind [bA]
 | _ =>
  simp only[bS,bP,gb]
  grind
theorem P4:∀ {l:V_}{e e1:aV}{vs:D_},iO l=true->rdAll e l=some (vs,e1)->e1=e
 | [],e,e1,vs,_,h=>by grind [rdAll]
 | x::r,e,e1,vs,hs,h=>by
  simp only[iO,af]at hs;simp only[rdAll]at h;split at h
  .simp at h
  .rename_i v e2 h1;split at h
   .simp at h
   .rename_i vs2 e3 h2;have a1:=tM hs.1 h1;have a2:=P4 hs.2 h2
    simp_all
theorem kE {β:Type}{e:aV}{x:Rd}{k:AV->aV->Option β}(h:bL x=true):cq e x k=cq e x fun v _=>k v e:=by
 grind [cq,tM]
theorem xM {β:Type}{e:aV}{l:V_}{k:D_->aV->Option β}(h:iO l=true):kI e l k=kI e l fun v _=>k v e:=by
 grind [nV,P4]
theorem OE {β:Type}{e:aV}{x:AB_}{k:M_->aV->Option β}(h:BZ x=true):mL e x k=mL e x fun v _=>k v e:=by
 cases x with
 | none=>rfl
 | some x=>exact kE (k:=fun v e=>k (some v) e) h
theorem lV {α β γ:Type}{x:Option α}{f:α->Option β}{g:β->Option γ}:bA (bA x f) g=bA x fun v=>bA (f v) g:=by
 cases x<;>rfl
theorem fZ {β γ:Type}{e:aV}{x:Rd}{k:AV->aV->Option β}{g:β->Option γ}:bA (cq e x k) g=cq e x fun v e=>bA (k v e) g:=by
 simp only[cq];cases rd e x<;>rfl
theorem JT {β γ:Type}{e:aV}{x:V_}{k:D_->aV->Option β}{g:β->Option γ}:bA (kI e x k) g=kI e x fun v e=>bA (k v e) g:=by
 simp only[nV];cases rdAll e x<;>rfl
theorem fH {α β:Type}{v:α}{f:α->Option β}:bA (some v) f=f v:=rfl
def Qq {β:Type}{e:aV}{x y:Rd}{k:AV->AV->aV->Option β}(h:bL x=true) (h2:bL y=true):(cq e x fun a e=>cq e y fun b e=>k a b e)=cq e x fun a _=>cq e y fun b _=>k a b e:=by
 grind [cq,tM]
def NN {β:Type}{e:aV}{x y:Rd}{k:AV->AV->Option β}(h:bL x=true) (h2:bL y=true):(cq e x fun a e=>cq e y fun b _=>k a b)=cq e x fun a _=>cq e y fun b _=>k a b:=Qq (k:=fun a b _=>k a b) h h2
def aoI {β:Type}{op:n9}{e:aV}{hs:HS}{k:AV->aV->HS->Option β}(h:dH op=true):bS P op e hs k=bA (bS P op e hs fun v _ _=>some v) fun v=>k v e hs:=by
 cases op with
 | mov x =>
  grind [dH,bS,fZ,fH,kE]
 | ld n t p =>
  cases t<;>simp_all [dH,bS,fZ,lV,fH,kE]
 | nilck x =>
  grind [dH,bS,fZ,lV,fH,kE]
 | un op x =>
  grind [dH,bS,fZ,lV,fH,kE]
 | conv op x =>
  grind [dH,bS,fZ,lV,fH,kE]
 | fa off p =>
  grind [dH,bS,fZ,lV,fH,kE]
 | fld off n p =>
  grind [dH,bS,fZ,lV,fH,kE]
 | len x =>
  grind [dH,bS,fZ,lV,fH,kE]
 | bin op x y =>
  simp only[dH,af]at h;simp only[bS,fZ,lV,fH];exact(Qq h.1 h.2).trans (NN h.1 h.2).symm
 | binb op x y =>
  simp only[dH,af]at h;simp only[bS,fZ,lV,fH];exact(Qq h.1 h.2).trans (NN h.1 h.2).symm
 | ia n x y =>
  simp only[dH,af]at h;simp only[bS,fZ,lV,fH];exact(Qq h.1 h.2).trans (NN h.1 h.2).symm
 | iarr l n x y =>
  simp only[dH,af]at h;simp only[bS,fZ,lV,fH];exact(Qq h.1 h.2).trans (NN h.1 h.2).symm
 | ix l n a x y =>
  simp only[dH,af]at h;simp only[bS,fZ,lV,fH];exact(Qq h.1 h.2).trans (NN h.1 h.2).symm
 | ixs x y =>
  simp only[dH,af]at h;simp only[bS,fZ,lV,fH];exact(Qq h.1 h.2).trans (NN h.1 h.2).symm
 | ext j mv i =>
  cases mv with
  | true=>simp[dH]at h
  | false =>
   simp only[bS]
   cases get e j with
   | none=>rfl
   | some t=>grind [lV,fH]
 | call f args =>
  grind [dH,bS,JT,lV,fH,xM]
 | build zs ps =>
  grind [dH,bS,JT,lV,fH,xM]
 | slice m x lo hi mx =>
  simp only[dH,af]at h;obtain⟨h0,h1,h2,h3⟩:=h;have bd:∀ {γ:Type}{x:AB_}{e:aV}{k:M_->aV->M_}{g:AV->Option γ},bA (mL e x k) g=mL e x fun v e=>bA (k v e) g:=by
   intro γ x e k g
   cases x with
   | none=>rfl
   | some x=>exact fZ
  simp only[bS,fZ,bd,lV,fH];rw[kE h0,kE (k:=fun v e_1=>mL e_1 lo fun v_1 e_1=>mL e_1 hi fun v_2 e_1=>mL e_1 mx fun v_3 _=>bA (tG hs.heap m v v_1 v_2 v_3) fun v=>k v e hs) h0]
  congr 1
  funext v _;rw[OE h1,OE (k:=fun v_1 e_1=>mL e_1 hi fun v_2 e_1=>mL e_1 mx fun v_3 _=>bA (tG hs.heap m v v_1 v_2 v_3) fun v=>k v e hs) h1]
  grind [OE]
 | minmax b ps =>
  grind [dH,bS,JT,lV,fH,xM]
 | toStr x =>
  grind [dH,bS,fZ,lV,fH,kE]
 | mkslice z x y =>
  simp only[dH,af]at h;simp only[bS,fZ,lV,fH];exact(Qq h.1 h.2).trans (NN h.1 h.2).symm
 | mkfn f a c =>
  simp_all [dH,bS,JT,fH,xM]
 | pick c a b =>
  simp only[dH,af]at h;simp only[bS,fZ];have h2:(bL a && bL b)=true:=u_;simp only[cq]
  cases hc:rd e c with
  | none=>rfl
  | some q =>
   obtain⟨v,e1⟩:=q;have:=tM h.1.1 hc;subst this;simp only[h2]
   cases ha:rd e1 a with
   | none =>
    cases hb:rd e1 b with
    | none =>
     cases v<;>try rfl
     rename_i d;cases d<;>try rfl
     rename_i t;cases t<;>simp only[OV,OI,ha,hb,bP,bA]
    | some q =>
     have:=tM h.2 hb;subst this
     cases v<;>try rfl
     rename_i d;cases d<;>try rfl
     rename_i t;cases t<;>simp only[OV,OI,ha,hb,bP,bA]
   | some q =>
    obtain⟨va,ea⟩:=q;have:=tM h.1.2 ha;subst this
    cases hb:rd ea b with
    | none =>
     cases v<;>try rfl
     rename_i d;cases d<;>try rfl
     rename_i t;cases t<;>simp only[OV,OI,ha,hb,bP,bA]
    | some q=>grind [lV,fH]
 | _=>simp[dH]at h
def atW {α β γ δ ε:Type}{x:Option (α×β)}{f:α->β->Option (γ×δ)}{g:γ->δ->Option ε}:bP (bP x f) g=bP x fun v w=>bP (f v w) g:=by
 cases x<;>rfl
def al8 {β:Type}{op:n9}{e:aV}{hs:HS}{k:AV->aV->HS->Option β}(h:Fo op=true):bS P op e hs k=bP (bS P op e hs fun v _ hs=>some (v,hs)) fun v hs=>k v e hs:=by
 cases op with
 | calli f args =>
  simp only[bS];rw[xM h];simp only[nV]
  cases rdAll e args with
  | none=>rfl
  | some q=>simp only[atW];rfl
 | callv f args =>
  simp only[Fo,af]at h;simp only[bS];simp only[xM h.2];simp only[cq]
  cases hf:rd e f with
  | none=>rfl
  | some q =>
   obtain⟨v,e1⟩:=q;have:=tM h.1 hf;subst this;simp only[nV]
   cases rdAll e1 args with
   | none=>rfl
   | some q=>simp only[atW];rfl
 | _=>simp[Fo]at h
def abJ:firm (.tup [])=.tup []:=rfl
def Rv {i:VI}{e:aV}{hs:HS}{k:aV->HS->Z_}:cvi P i e hs k=bA (cU (Dn P) i ⟨e,hs⟩) fun st=>k st.env st.hs:=by
 obtain⟨dst,guard,op,th⟩:=i;unfold cvi
 cases guard with
 | none =>
  simp only[cU,gj]
  cases th with
  | nil =>
   cases dst with
   | none =>
    simp only[Ic,gb,cJ]
    cases db op (Dn P) ⟨e,hs⟩<;>rfl
   | some d =>
    simp only[Ic,gb,cJ]
    cases db op (Dn P) ⟨e,hs⟩<;>rfl
  | cons p r =>
   cases dst with
   | none =>
    simp only[Ic,gb,cJ,lP]
    cases db op (Dn P) ⟨e,hs⟩<;>rfl
   | some d =>
    simp only[Ic,gb,cJ,lP]
    cases db op (Dn P) ⟨e,hs⟩<;>rfl
 | some g =>
  obtain⟨s,w⟩:=g;simp only;split
  .rename_i d hst;have he:∀ {k:AV->aV->HS->Z_},gb (db op (Dn P) ⟨e,hs⟩) k=bA (bS P op e hs fun v _ _=>some v) fun v=>k v e hs:=by
    intro k;rw[<-Ic,aoI hst]
   have hv:∀ {k:aV->HS->Z_},bA (gj (Dn P) ⟨some d,some (s,w),op,[]⟩ ⟨e,hs⟩) (fun st=>k st.env st.hs)=bA (bS P op e hs fun v _ _=>some v) fun v=>k (put e d (firm v)) hs:=by
    intro k;rw[<-he (k:=fun v e hs=>k (put e d (firm v)) hs)];simp only[gj,gb,cJ]
    cases db op (Dn P) ⟨e,hs⟩<;>rfl
   simp only[cU]
   cases get e s with
   | none=>rfl
   | some g =>
    cases g with
    | d x=>cases x with
     | bool b =>
      simp only[gV]
      cases hb:(b == w)<;>simp_all [bA,abJ,cJ]
     | _=>rfl
    | tup vs=>cases vs<;>rfl
    | _=>rfl
  .split
   .rename_i d hst _;have he:∀ {k:AV->aV->HS->Z_},gb (db op (Dn P) ⟨e,hs⟩) k=bP (bS P op e hs fun v _ hs=>some (v,hs)) fun v hs=>k v e hs:=by
     intro k;rw[<-Ic,al8 hst]
    have hv:∀ {k:aV->HS->Z_},bA (gj (Dn P) ⟨some d,some (s,w),op,[]⟩ ⟨e,hs⟩) (fun st=>k st.env st.hs)=bP (bS P op e hs fun v _ hs=>some (v,hs)) fun v hs=>k (put e d (firm v)) hs:=by
     intro k;rw[<-he (k:=fun v e hs=>k (put e d (firm v)) hs)];simp only[gj,gb,cJ]
     cases db op (Dn P) ⟨e,hs⟩<;>rfl
    simp only[cU]
    cases get e s with
    | none=>rfl
    | some g =>
     cases g with
     | d x=>cases x with
      | bool b =>
       simp only[gH]
       cases hb:(b == w)<;>simp_all [bA,bP,abJ,cJ]
      | _=>rfl
     | tup vs=>cases vs<;>rfl
     | _=>rfl
   .rfl
theorem Z6:∀ {l:T_}{e:aV}{hs:HS},kL (Dn P) l ⟨e,hs⟩=pB P l e hs
 | [],_,_=>rfl
 | i::l,e,hs=>by
  simp only[kL,pB,Rv,bA]
  cases cU (Dn P) i ⟨e,hs⟩ with
  | none=>rfl
  | some st=>exact Z6
def E4 {d:Bool}{ops:T_}{e:aV}{hs:HS}{x:Z_}(h:pB P ops e hs=x):(Dn P).code (.reg d ops) ⟨e,hs⟩=fb x:=by
 grind [Vw,Z6]
def alW {perm gco:C_}{ops:T_}{e:aV}{hs:HS}{x:Z_}(ha:rW e ops=true) (hb:(perm.all fun i=>decide (i<ops.length))=true) (h:pB P (perm.filterMap fun i=>ops[i]?) e hs=x):(Dn P).code (.regP perm gco [] ops) ⟨e,hs⟩=fb x:=by
 grind [apc,acD,Z6]
def ayp (e:aV) (d:I_):Bool :=
 match d with
 | some d=>match get e d with
  | some a=>Kx a
  | none=>false
 | none=>false
def aq0 (P:Nat->Y_) (F:C_) (v:VI) (e:aV) (hs:HS) (k:aV->HS->Z_):Z_ :=
 match tF v.op with
 | .call=>cvi P v e hs fun e2 s2=>dE (dI F hs.heap s2.heap) (k e2 s2)
 | .take=>cvi P v e hs fun e2 s2=>dE (ayp e2 v.dst) (k e2 s2)
 | .read=>cvi P v e ⟨dK (nW v e) hs.heap,hs.next⟩ fun e2 _=>k e2 hs
def W4 (P:Nat->Y_):List (Bool×VI)->C_->aV->HS->Z_
 | [],_,e,hs=>some ⟨e,hs⟩
 | (a,v)::l,F,e,hs=>match a with
  | false=>cvi P v e hs fun e2 s2=>W4 P l F e2 s2
  | true=>aq0 P F v e hs fun e2 s2=>W4 P l (jU true v e F) e2 s2
def awi {F:C_}{v:VI}{e:aV}{hs:HS}{k:aV->HS->Z_}:aq0 P F v e hs k=bA (wj (Dn P) F v ⟨e,hs⟩) fun st=>k st.env st.hs:=by
 unfold aq0 wj
 cases tF v.op with
 | call =>
  simp only[Rv]
  cases cU (Dn P) v ⟨e,hs⟩ with
  | none=>rfl
  | some st =>
   simp only[bA]
   cases dI F hs.heap st.hs.heap<;>rfl
 | take =>
  simp only[Rv]
  cases cU (Dn P) v ⟨e,hs⟩ with
  | none=>rfl
  | some st =>
   simp only[bA,ayp]
   cases v.dst with
   | none=>rfl
   | some d =>
    simp only
    cases get st.env d with
    | none=>rfl
    | some a=>simp only;cases Kx a<;>rfl
 | read =>
  simp only[Rv]
  cases cU (Dn P) v ⟨e,⟨dK (nW v e) hs.heap,hs.next⟩⟩<;>rfl
def aew (nr:C_) (ops:T_) (i:Nat):Option (Bool×VI) :=
 match ops[i]? with
 | some v=>some (et i nr,v)
 | none=>none
def Wk {nr:C_}{ops:T_}:∀ {l:C_}{F:C_}{e:aV}{hs:HS},(l.all fun i=>decide (i<ops.length))=true->fE (Dn P) nr ops l F ⟨e,hs⟩=W4 P (l.filterMap (aew nr ops)) F e hs
 | [],_,_,_,_=>rfl
 | i::l,F,e,hs,hb=>by
  simp only[gC,af,decide_eq_true_eq]at hb;have h1:ops[i]?=some ops[i]:=bE hb.1;have h2:aew nr ops i=some (et i nr,ops[i]):=by grind [aew]
  simp only[fE,h1,List.filterMap_cons,h2,W4,bX]
  cases et i nr with
  | false =>
   simp only[Rv,jU]
   cases cU (Dn P) ops[i] ⟨e,hs⟩ with
   | none=>rfl
   | some st=>exact Wk hb.2
  | true =>
   simp only[awi]
   cases wj (Dn P) F ops[i] ⟨e,hs⟩ with
   | none=>rfl
   | some st=>exact Wk hb.2
def dO {perm gco nr:C_}{ops:T_}{e:aV}{hs:HS}{x:Z_}(ha:rW e ops=true) (hb:(perm.all fun i=>decide (i<ops.length))=true) (h:W4 P (perm.filterMap (aew nr ops)) [] e hs=x):(Dn P).code (.regP perm gco nr ops) ⟨e,hs⟩=fb x:=by
 rw[iI,<-h,<-Wk hb];simp only[cW,LE,Mv,ha]
 cases fE (Dn P) nr ops perm [] ⟨e,hs⟩<;>rfl
abbrev F (i:Nat):VC:=.reg false [⟨none,none,.free i,[]⟩]
def frK (e:aV) (hs:HS) (i:Nat):M_->K_
 | some (.ptr id _)=>some (.normal,⟨del e i,⟨del hs.heap id,hs.next⟩⟩)
 | some (.fn _ _ caps)=>some (.normal,⟨del e i,⟨delAll hs.heap (Ja caps),hs.next⟩⟩)
 | _=>some (.normal,⟨e,hs⟩)
def aAk {e:aV}{h:ak}{n i id o:Nat}:frK e ⟨h,n⟩ i (some (.ptr id o))=some (.normal,⟨del e i,⟨del h id,n⟩⟩):=rfl
def aAI {e:aV}{h:ak}{n i f:Nat}{a c:D_}:frK e ⟨h,n⟩ i (some (.fn f a c))=some (.normal,⟨del e i,⟨delAll h (Ja c),n⟩⟩):=rfl
def ayL {i:Nat}{e:aV}{hs:HS}:(Dn P).code (F i) ⟨e,hs⟩=frK e hs i (get e i):=by
 rw[Vw];simp only[kL,cU,gj,db,Xc]
 cases get e i with
 | none=>rfl
 | some v=>cases v<;>rfl
abbrev K (l:C_):VC:=.reg false [⟨none,none,.kill l,[]⟩]
def aza {is:C_}{e:aV}{hs:HS}:(Dn P).code (K is) ⟨e,hs⟩=some (.normal,⟨is.foldl del e,hs⟩):=by rw[Vw];rfl
abbrev oV:=@Nat.two_pow_add_eq_or_of_lt
variable {P:Nat->Y_}
attribute [simp ↓] axs axg ax2 axw aw5 ayH ay7 axE awU ays ayK axQ aym ayI ayv ayU aw6 axU Mx avX awN au1 avc avZ
attribute [simp ↓] aqq apC aq2 al9 aqe aqS amI aza ayL aAk aAI avb auS aoa
attribute [simp] delAll Ja
attribute [simp] aDN ayh aD9 put1 aC4 ayS
attribute [congr] ite_congr awu av7 as5 awE avm arj
def NQ (x:Option (D_×St)):X_ :=
 match x with
 | some ([v],st)=>some (v,st.hs)
 | some (vs,st)=>some (.tup vs,st.hs)
 | none=>none
def axx {fn:aj}{st:St}:Gu fn st=NQ (fJ st fn.results):=(by
 simp only[Gu,NQ]
 cases fJ st fn.results with
 | none=>rfl
 | some q =>
  obtain⟨vs,s⟩:=q
  cases vs with
  | nil=>rfl
  | cons v r=>cases r<;>rfl)
@[simp] def aFM {st:St}:NQ (some ([],st))=some (.tup [],st.hs):=(rfl)
@[simp] def aFl {v:AV}{st:St}:NQ (some ([v],st))=some (v,st.hs):=(rfl)
@[simp] def aFp {v w:AV}{r:D_}{st:St}:NQ (some (v::w::r,st))=some (.tup (v::w::r),st.hs):=(rfl)
def wn (rs:BA_) (x:K_):X_ :=
 match x with
 | some (.normal,st)=>NQ (fJ st rs)
 | some (.ret,st)=>NQ (fJ st rs)
 | _=>none
@[simp ↓] def aGr {rs:BA_}{st:St}:wn rs (some (.normal,st))=NQ (fJ st rs):=(rfl)
@[simp ↓] def aFJ {rs:BA_}{st:St}:wn rs (some (.ret,st))=NQ (fJ st rs):=(rfl)
@[simp ↓] def aFH {rs:BA_}{c:Prop}[Decidable c] {x y:K_}:wn rs (if c then x else y)=if c then wn rs x else wn rs y:=by split<;>rfl
@[simp ↓] def akQ {n:Nat}{rs:BA_}{b:VC}{x:K_}:Ws ⟨n,rs,b⟩ x=wn rs x:=by
 simp only[Ws,wn];split<;>simp only[axx]
def avQ {rs:BA_}{x y:K_}(h:x=y):wn rs x=wn rs y:=by rw[h]
attribute [congr] avQ
theorem ah {a b:VC}{st:St}(h:a=b):(Dn P).code (.loop a) st=qT P a ((Dn P).code b st):=by rw[<-h];exact aqc
def aJ {f:FuncId}{fn:aj}{n:Nat}{rs:BA_}{b:VC}{args:D_}(hf:P f=some fn) (hd:fn=⟨n,rs,b⟩) (hl:args.length=n):br P f args=tD (wn rs ((Dn P).code b ⟨ku 0 args,⟨[],0⟩⟩)):=by
 subst hd;rw[arP hf hl,akQ]
def ba {f:FuncId}{fn:aj}{n:Nat}{rs:BA_}{b:VC}{args:D_}{hs:HS}(hf:P f=some fn) (hd:fn=⟨n,rs,b⟩) (hl:args.length=n):(Dn P).call f args hs=wn rs ((Dn P).code b ⟨ku 0 args,hs⟩):=by
 subst hd;rw[acw hf hl,akQ]
@[simp ↓] def aHa {α β:Type}{v:α}{f:α->Option β}:bA (some v) f=f v:=(rfl)
@[simp ↓] def aHj {α β:Type}{f:α->Option β}:bA none f=none:=(rfl)
@[simp ↓] def aHb {α β:Type}{c:Prop}[Decidable c] {x y:Option α}{f:α->Option β}:bA (if c then x else y) f=if c then bA x f else bA y f:=by split<;>rfl
@[simp ↓] def aHn {α γ β:Type}{v:α}{w:γ}{f:α->γ->Option β}:bP (some (v,w)) f=f v w:=(rfl)
@[simp ↓] def aHg {α γ β:Type}{f:α->γ->Option β}:bP none f=none:=(rfl)
@[simp ↓] def aHo {α γ β:Type}{c:Prop}[Decidable c] {x y:Option (α×γ)}{f:α->γ->Option β}:bP (if c then x else y) f=if c then bP x f else bP y f:=by split<;>rfl
@[simp ↓] def aHk {α β:Type}{x:α}{f:α->β}:lA x f=f x:=(rfl)
@[simp ↓] def aG9 {α γ β:Type}{x:α}{y:γ}{f:α->γ->β}:lP (x,y) f=f x y:=(rfl)
@[simp ↓] def aGS {β:Type}{x:Option β}:dE true x=x:=(rfl)
@[simp ↓] def aG5 {β:Type}{x:Option β}:dE false x=none:=(rfl)
def aA5 {α β:Type}{x y:Option α}{f:α->Option β}(h:x=y):bA x f=bA y f:=by rw[h]
def aA4 {α γ β:Type}{x y:Option (α×γ)}{f:α->γ->Option β}(h:x=y):bP x f=bP y f:=by rw[h]
def aA6 {α β:Type}{x y:α}{f:α->β}(h:x=y):lA x f=lA y f:=by rw[h]
def azB {α γ β:Type}{x y:α×γ}{f:α->γ->β}(h:x=y):lP x f=lP y f:=by rw[h]
attribute [congr] aA5 aA4 aA6 azB
@[simp ↓] def aG4 {x:M_}:gV (B_ true) true x=x:=(rfl)
@[simp ↓] def aGJ {x:M_}:gV (B_ false) false x=x:=(rfl)
@[simp ↓] def aGz {x:M_}:gV (B_ true) false x=some (.tup []):=(rfl)
@[simp ↓] def aGX {x:M_}:gV (B_ false) true x=some (.tup []):=(rfl)
@[simp ↓] def aHm {w:Bool}{x:M_}:gV (.tup []) w x=some (.tup []):=(rfl)
@[simp ↓] def aGy {hs:HS}{x:X_}:gH (B_ true) true hs x=x:=(rfl)
@[simp ↓] def aGL {hs:HS}{x:X_}:gH (B_ false) false hs x=x:=(rfl)
@[simp ↓] def aGR {hs:HS}{x:X_}:gH (B_ true) false hs x=some (.tup [],hs):=(rfl)
@[simp ↓] def aGN {hs:HS}{x:X_}:gH (B_ false) true hs x=some (.tup [],hs):=(rfl)
@[simp ↓] def aFb {a b:AV}:TA (B_ true) a b=some a:=(rfl)
@[simp ↓] def aFj {a b:AV}:TA (B_ false) a b=some b:=(rfl)
@[simp] def aFB {x:D}:firm (.d x)=.d x:=(rfl)
@[simp] def aEW:firm .nl=.nl:=(rfl)
@[simp] def aCt {p:Bool}{m:Nat}{xs:E_}:firm (.own p m xs)=.own false m xs:=(rfl)
@[simp] def aD1 {cs:D_}:firm (.agg cs)=.agg (cs.map oF):=(rfl)
@[simp] def aDf {cs:D_}:firm (.tup cs)=.tup (cs.map BJ):=(rfl)
@[simp] def aCR {a b:Nat}:firm (.ptr a b)=.ptr a b:=(rfl)
@[simp] def aDZ {a b c:Nat}:firm (.pel a b c)=.pel a b c:=(rfl)
@[simp] def aDm {a:W_}{b:Nat}:firm (.pim a b)=.pim a b:=(rfl)
@[simp] def aEZ {a b c:Nat}:firm (.sl a b c)=.sl a b c:=(rfl)
@[simp] def aEH {f:FuncId}{a b:D_}:firm (.fn f a b)=.fn f a b:=(rfl)
@[simp] def aAs {n:Nat}:firm (.yield n)=.yield n:=(rfl)
def u4 {op:BinOp}{a b:AV}{x:D}(h:dA op a b=some (.d x)):fo op a b=some x:=by simp only[fo,h]
def DW {op:BinOp}{a b:AV}{c:Prop}[Decidable c] {x y:D}(h:dA op a b=if c then some (.d x) else some (.d y)):fo op a b=if c then some x else some y:=by
 by_cases hc:c<;>simp[fo,h,hc]
@[simp] def aGm {k:IntKind}{a b:Int}:fo .add (.d (.int k a)) (.d (.int k b))=some (.int k (wr k (a+b))):=u4 auM
@[simp] def aGf {k:IntKind}{a b:Int}:fo .sub (.d (.int k a)) (.d (.int k b))=some (.int k (wr k (a-b))):=u4 avh
@[simp] def aFI {k:IntKind}{a b:Int}:fo .mul (.d (.int k a)) (.d (.int k b))=some (.int k (wr k (a*b))):=u4 auL
@[simp] def aFS {k:IntKind}{a b:Int}(h:b≠0):fo .quo (.d (.int k a)) (.d (.int k b))=some (.int k (wr k (a.tdiv b))):=u4 (avY h)
@[simp] def aFO {k:IntKind}{a b:Int}(h:b≠0):fo .rem (.d (.int k a)) (.d (.int k b))=some (.int k (a.tmod b)):=u4 (awd h)
@[simp] def aF0 {k:IntKind}{a b:Int}:fo .eql (.d (.int k a)) (.d (.int k b))=if a=b then some (.bool true) else some (.bool false):=DW avl
@[simp] def aGq {k:IntKind}{a b:Int}:fo .neq (.d (.int k a)) (.d (.int k b))=if a=b then some (.bool false) else some (.bool true):=DW av4
@[simp] def aFw {k:IntKind}{a b:Int}:fo .lss (.d (.int k a)) (.d (.int k b))=if a<b then some (.bool true) else some (.bool false):=DW auh
@[simp] def aGn {k:IntKind}{a b:Int}:fo .leq (.d (.int k a)) (.d (.int k b))=if a<=b then some (.bool true) else some (.bool false):=DW awA
@[simp] def aGa {k:IntKind}{a b:Int}:fo .gtr (.d (.int k a)) (.d (.int k b))=if b<a then some (.bool true) else some (.bool false):=DW auH
@[simp] def aFY {k:IntKind}{a b:Int}:fo .geq (.d (.int k a)) (.d (.int k b))=if b<=a then some (.bool true) else some (.bool false):=DW avv
@[simp] def rX {k j:IntKind}{a b:Int}(h:0<=b):fo .shl (.d (.int k a)) (.d (.int j b))=some (.int k (wr k (a*((2 ^ (min b.toNat k.bits):Nat):Int)))):=u4 (avA h)
@[simp] def lh {k j:IntKind}{a b:Int}(h:0<=b):fo .shr (.d (.int k a)) (.d (.int j b))=some (.int k (a.fdiv ((2 ^ (min b.toNat k.bits):Nat):Int))):=u4 (avs h)
@[simp] def aE2 {a b:BC_}:fo .neq (.d (.str a)) (.d (.str b))=if a=b then some (.bool false) else some (.bool true):=DW asG
def at4 {k:IntKind}{a b:Nat}(h:a<pq k) (h2:b<pq k) (h3:a ||| b<pq k):fo .or (.d (.int k (a:Int))) (.d (.int k (b:Int)))=some (.int k ((a ||| b:Nat):Int)):=u4 (aw1 h h2 h3)
def anW {k:IntKind}{a b:Nat}(h:a<pq k) (h2:b<pq k):fo .and (.d (.int k (a:Int))) (.d (.int k (b:Int)))=some (.int k ((a &&& b:Nat):Int)):=u4 (avG h h2)
def apd {n b:Nat}(h:b<=1):2*n ||| b=2*n+b:=by
 have:=oV (i:=1) (b:=b) o_ n;simpa using this.symm
@[simp] def aGg {a b:Int}(h:0<=a) (h1:a<4611686018427387904) (h2:a % 2=0) (h3:0<=b) (h4:b<=1):fo .or (A_ a) (A_ b)=some (.int .i64 (a+b)):=by
 obtain⟨n,rfl⟩:∃ n:Nat,a=((2*n:Nat):Int):=⟨(a / 2).toNat,o_⟩
 obtain⟨m,rfl⟩:=aB h3;have hm:m<=1:=o_;have ht:pq .i64=9223372036854775808:=rfl;rw[at4 o_ o_ (by rw[apd hm];omega),apd hm];simp
@[simp] def aEs {b:Bool}:unD .not (B_ b)=some (.bool !b):=(rfl)
@[simp] def aEP {k:IntKind}{n:Int}:unD .neg (.d (.int k n))=some (.int k (wr k (0-n))):=(rfl)
@[simp] def aEx {k j:IntKind}{n:Int}:Ym k (.d (.int j n))=some (.int k (wr k n)):=(rfl)
attribute [simp] ahG aBc axp azh aw7
attribute [simp] asH asg apF an9 IntKind.bits
@[simp] def aEB {h:ak}{m:Nat}{xs:E_}{k:IntKind}{i:Int}(h0:0<=i):XN h m (.d (.lst xs)) (.d (.int k i))=bA xs[i.toNat]? fun x=>if x.length=m then some (.pim x 0) else none:=by
 simp only[XN,SN h0,elems]
 cases xs[i.toNat]? with
 | none=>rfl
 | some x =>
  simp only[bA];by_cases hx:x.length=m
  .simp[hx]
  .simp[hx,ZG]
@[simp] def aGt {h:ak}{m j:Nat}{xs:E_}{k:IntKind}{i:Int}(h0:0<=i):XN h m (.own false j xs) (.d (.int k i))=bA xs[i.toNat]? fun x=>if x.length=m then some (.pim x 0) else none:=by
 simp only[XN,SN h0,elems]
 cases xs[i.toNat]? with
 | none=>rfl
 | some x =>
  simp only[bA];by_cases hx:x.length=m
  .simp[hx]
  .simp[hx,ZG]
attribute [simp] IZ arB aoq
@[simp] def aEy {h:ak}{n:I_}{cs:W_}{o:Nat}:eW h n (.pim cs o)=oq n cs o:=by
 simp only[eW,loadAt];cases oq n cs o<;>rfl
@[simp] def aCF {cs:W_}{o:Nat}:oq none cs o=(cs[o]?).map .d:=by simp only[oq];cases cs[o]?<;>rfl
@[simp] def aC8 {cs:W_}{n o:Nat}:oq (some n) cs o=if o+n<=cs.length then some (.agg ((sub cs o n).map .d)) else none:=by
 by_cases h:o+n<=cs.length<;>simp[oq,ZT,h]
@[simp] def gq0 {α:Type}{x:α}{r:List α}:(x::r)[0]?=some x:=(rfl)
@[simp] def aDs {f:FuncId}{vs:D_}{h:ak}:eD (Dn P) f vs h=bA (viewArgs h vs) fun ds=>bA (br P f ds) fun v=>if vs.any tB=false then some v else if jH v=true then some v else some (Og v):=by
 simp only[eD,br,tD,bA]
 cases viewArgs h vs with
 | none=>rfl
 | some ds =>
  simp only
  cases (Dn P).call f ds ⟨[],0⟩ with
  | none=>rfl
  | some q =>
   obtain⟨v,h2⟩:=q;simp only
   cases gQ h2.heap v with
   | none=>rfl
   | some v =>
    simp only
    cases vs.any tB with
    | false=>rfl
    | true=>simp only;cases jH v<;>rfl
@[simp] def aE7 {x:D}:share (.d x)=.d x:=(rfl)
@[simp] def aDq  : share (.nl)=.nl:=(rfl)
@[simp] def aAV {m:Nat}{xs:E_}:share (.own false m xs)=.d (.lst xs):=(rfl)
@[simp] def aB3 {cs:D_}:share (.agg cs)=.agg (shareAll cs):=(rfl)
@[simp] def aBx {cs:D_}:share (.tup cs)=.tup (shareAll cs):=(rfl)
@[simp] def aBZ {a b:Nat}:share (.ptr a b)=.ptr a b:=(rfl)
@[simp] def aCq {a b c:Nat}:share (.pel a b c)=.pel a b c:=(rfl)
@[simp] def aBA {cs:W_}{b:Nat}:share (.pim cs b)=.pim cs b:=(rfl)
@[simp] def aEm {a b c:Nat}:share (.sl a b c)=.sl a b c:=(rfl)
@[simp] def aDT {f:FuncId}{a b:D_}:share (.fn f a b)=.fn f a b:=(rfl)
@[simp] def azx {n:Nat}:share (.yield n)=.yield n:=(rfl)
@[simp] def aAY  : shareAll []=[]:=(rfl)
@[simp] def az7 {v:AV}{r:D_}:shareAll (v::r)=share v::shareAll r:=(by rw[pD])
@[simp] def aEI {x:D}:oF (.d x)=.d x:=(rfl)
@[simp] def aEO {x:D}:BJ (.d x)=.d x:=(rfl)
@[simp] def aEv {x:D}:AV.cells (.d x)=[.d x]:=(rfl)
@[simp] def aCP {x:D}:bw (.d x)=true:=(rfl)
@[simp] def aD4 {x:D}:Fr (.d x)=bw (.d x):=(rfl)
@[simp] def aGj {x:D}:vw (.d x)=false:=(rfl)
@[simp] def aEp {x:D}:tB (.d x)=false:=(rfl)
@[simp] def aEn {x:D}:om (.d x)=.d x:=(rfl)
@[simp] def aDc {x:D}:pR (.d x)=.d x:=(rfl)
@[simp] def aDh {x:D}:qh (.d x)=.d x:=(rfl)
@[simp] def aD5  : oF (.nl)=.nl:=(rfl)
@[simp] def aDJ  : BJ (.nl)=.nl:=(rfl)
@[simp] def aDF  : AV.cells (.nl)=[.nl]:=(rfl)
@[simp] def aCe  : bw (.nl)=true:=(rfl)
@[simp] def aFf  : vw (.nl)=false:=(rfl)
@[simp] def aDb  : tB (.nl)=false:=(rfl)
@[simp] def aBE  : ji (.nl)=true:=(rfl)
@[simp] def aCd  : kZ (.nl)=true:=(rfl)
@[simp] def aB8  : jH (.nl)=true:=(rfl)
@[simp] def aBt  : om (.nl)=.nl:=(rfl)
@[simp] def aB0  : pR (.nl)=.nl:=(rfl)
@[simp] def aBw  : qh (.nl)=.nl:=(rfl)
@[simp] def aBW {p:Bool}{m:Nat}{xs:E_}:oF (.own p m xs)=.own false m xs:=(rfl)
@[simp] def aCl {p:Bool}{m:Nat}{xs:E_}:BJ (.own p m xs)=.own false m xs:=(rfl)
@[simp] def aBr {p:Bool}{m:Nat}{xs:E_}:AV.cells (.own p m xs)=[.own p m xs]:=(rfl)
@[simp] def aAW {p:Bool}{m:Nat}{xs:E_}:bw (.own p m xs)=!p:=(rfl)
@[simp] def aCG {p:Bool}{m:Nat}{xs:E_}:vw (.own p m xs)=false:=(rfl)
@[simp] def aB2 {p:Bool}{m:Nat}{xs:E_}:tB (.own p m xs)=false:=(rfl)
@[simp] def aCm {cs:D_}:BJ (.agg cs)=.agg (cs.map oF):=(rfl)
@[simp] def aBO {cs:D_}:AV.cells (.agg cs)=cs:=(rfl)
@[simp] def aCs {cs:D_}:tB (.agg cs)=cs.any vw:=(rfl)
@[simp] def aCn {a b:Nat}:AV.cells (.ptr a b)=[.ptr a b]:=(rfl)
@[simp] def aAu {a b:Nat}:bw (.ptr a b)=true:=(rfl)
@[simp] def aCa {a b:Nat}:Fz (.ptr a b)=some (.ptr a b):=(rfl)
@[simp] def aEb {a b c:Nat}:oF (.sl a b c)=.sl a b c:=(rfl)
@[simp] def aEh {a b c:Nat}:BJ (.sl a b c)=.sl a b c:=(rfl)
@[simp] def aDI {a b c:Nat}:AV.cells (.sl a b c)=[.sl a b c]:=(rfl)
@[simp] def aBH {a b c:Nat}:Fr (.sl a b c)=bw (.sl a b c):=(rfl)
@[simp] def aE9 {a b c:Nat}:vw (.sl a b c)=true:=(rfl)
@[simp] def aDe {f:FuncId}{a b:D_}:AV.cells (.fn f a b)=[.fn f a b]:=(rfl)
@[simp] def aBo {xs:E_}:lenOf (.d (.lst xs))=some xs.length:=(rfl)
@[simp] def aDv  : lenOf .nl=some 0:=(rfl)
@[simp] def aBn {p:Bool}{m:Nat}{xs:E_}:lenOf (.own p m xs)=some xs.length:=(rfl)
@[simp] def aDV {a b n:Nat}:lenOf (.sl a b n)=some n:=(rfl)
@[simp] def aok {h:ak}{xs:E_}:elems h (.d (.lst xs))=some xs:=(rfl)
@[simp] def aBQ {h:ak}{m:Nat}{xs:E_}:elems h (.own false m xs)=some xs:=(rfl)
@[simp] def aBh {o a b:Nat}:ir o (.ptr a b)=some (.ptr a (b+o)):=(rfl)
@[simp] def aBj {o b:Nat}{cs:W_}:ir o (.pim cs b)=some (.pim cs (b+o)):=(rfl)
@[simp] def aFF {cs:D_}{i:Nat}:Ak true (.tup cs) i=cs[i]?:=(by simp only[Ak];cases cs[i]?<;>rfl)
@[simp] def aFZ {cs:D_}{i:Nat}:Ak false (.tup cs) i=(cs[i]?).map share:=(by simp only[Ak];cases cs[i]?<;>rfl)
@[simp] def aGs {cs:D_}{i:Nat}:NP (.tup cs) i=.tup (cs.set i .junk):=(rfl)
@[simp] def aGE {x:D}:Fp (.d x)=some x:=(rfl)
@[simp] def aFV  : Fp .nl=some (.lst []):=(rfl)
@[simp] def aE0 {m:Nat}{xs:E_}:Fp (.own false m xs)=some (.lst xs):=(rfl)
@[simp] def aF4  : lZ []=some []:=(rfl)
@[simp] def aGk {v:AV}{r:D_}:lZ (v::r)=bA (Fp v) fun x=>bA (lZ r) fun xs=>some (x::xs):=(by
 simp only[lZ]
 cases Fp v with
 | none=>rfl
 | some q=>simp only[bA];cases lZ r<;>rfl)
@[simp] def aBY {m:Nat}:jL m []=some []:=(rfl)
@[simp] def aBD {m:Nat}{v:AV}{r:D_}:jL m (v::r)=if v.cells.length=m then bA (lZ v.cells) fun x=>bA (jL m r) fun xs=>some (x::xs) else none:=(by
 by_cases h:v.cells.length=m
 .simp only[jL,ZG,h,decide_true,bf]
  cases lZ v.cells with
  | none=>rfl
  | some q=>simp only[bA];cases jL m r<;>rfl
 .simp only[jL,ZG,h,decide_false,bh])
@[simp] def azp {cs:D_}:dZ cs []=some cs:=(rfl)
@[simp] def azu {cs:D_}{o n:Nat}{v:AV}{r:List (Nat×Nat×AV)}:dZ cs ((o,n,v)::r)=if v.cells.length=n∧Fr v=true∧o+n<=cs.length then dZ (aG cs o v.cells) r else none:=(by
 simp only[dZ,ZG,ZT];by_cases h:v.cells.length=n<;>by_cases h2:Fr v=true<;>by_cases h3:o+n<=cs.length<;>simp[h,h2,h3])
def N9 {α:Type}{cs vs:List α}{o:Nat}:aG cs o vs=cs.take o++vs++cs.drop (o+vs.length):=(rfl)
attribute [simp] N9
def ani {α:Type}{cs:List α}{o n:Nat}:sub cs o n=(cs.drop o).take n:=(rfl)
attribute [simp] ani
@[simp] def aB9 {h:ak}{x:D}:viewOne h (.d x)=some (.d x):=(rfl)
@[simp] def aAP {h:ak}:viewOne h .nl=some .nl:=(rfl)
@[simp] def azA {h:ak}{m:Nat}{xs:E_}:viewOne h (.own false m xs)=some (.d (.lst xs)):=(rfl)
@[simp] def aBb {h:ak}{a b c:Nat}:viewOne h (.sl a b c)=bA (elems h (.sl a b c)) fun xs=>some (.d (.lst xs)):=(by simp only[viewOne];cases elems h (.sl a b c)<;>rfl)
@[simp] def aCh {h:ak}:viewAll h []=some []:=(rfl)
@[simp] def aBS {h:ak}{v:AV}{r:D_}:viewAll h (v::r)=bA (viewOne h v) fun x=>bA (viewAll h r) fun xs=>some (x::xs):=(by
 simp only[viewAll]
 cases viewOne h v with
 | none=>rfl
 | some q=>simp only[bA];cases viewAll h r<;>rfl)
@[simp] def aBJ {h:ak}{x:D}:viewArg h (.d x)=viewOne h (.d x):=(rfl)
@[simp] def aAJ {h:ak}  : viewArg h (.nl)=viewOne h (.nl):=(rfl)
@[simp] def azo {h:ak}{p:Bool}{m:Nat}{xs:E_}:viewArg h (.own p m xs)=viewOne h (.own p m xs):=(rfl)
@[simp] def azm {h:ak}{cs:D_}:viewArg h (.agg cs)=bA (viewAll h cs) fun xs=>some (.agg xs):=(by simp only[viewArg];cases viewAll h cs<;>rfl)
@[simp] def aAH {h:ak}:viewArgs h []=some []:=(rfl)
@[simp] def aAT {h:ak}{v:AV}{r:D_}:viewArgs h (v::r)=bA (viewArg h v) fun x=>bA (viewArgs h r) fun xs=>some (x::xs):=(by
 simp only[viewArgs]
 cases viewArg h v with
 | none=>rfl
 | some q=>simp only[bA];cases viewArgs h r<;>rfl)
@[simp] def aCH {h:ak}{x:D}:kt h (.d x)=some (.d x,h):=(rfl)
@[simp] def aBF {h:ak}:kt h .nl=some (.nl,h):=(rfl)
@[simp] def azC {h:ak}{p:Bool}{m:Nat}{xs:E_}:kt h (.own p m xs)=some (.own p m xs,h):=(rfl)
@[simp] def aDO {h:ak}:sD h []=some ([],h):=(rfl)
@[simp] def aC5 {h:ak}{v:AV}{r:D_}:sD h (v::r)=bP (kt h v) fun x h=>bP (sD h r) fun xs h=>some (x::xs,h):=(by simp only[sD];cases kt h v with
 | none=>rfl
 | some q=>simp only[bP];cases sD q.2 r<;>rfl)
@[simp] def aAO {h:ak}{cs:D_}:fQ h (.agg cs)=bP (sD h cs) fun xs h=>some (.agg xs,h):=(by simp only[fQ];cases sD h cs<;>rfl)
@[simp] def aDr {h:ak}{x:D}:fQ h (.d x)=kt h (.d x):=(rfl)
@[simp] def aB4 {h:ak}  : fQ h (.nl)=kt h (.nl):=(rfl)
@[simp] def aAh {h:ak}{p:Bool}{m:Nat}{xs:E_}:fQ h (.own p m xs)=kt h (.own p m xs):=(rfl)
@[simp] def aBT {h:ak}{a b c:Nat}:fQ h (.sl a b c)=kt h (.sl a b c):=(rfl)
@[simp] def aB6 {h:ak}:sW h []=some ([],h):=(rfl)
@[simp] def aBV {h:ak}{v:AV}{r:D_}:sW h (v::r)=bP (fQ h v) fun x h=>bP (sW h r) fun xs h=>some (x::xs,h):=(by simp only[sW];cases fQ h v with
 | none=>rfl
 | some q=>simp only[bP];cases sW q.2 r<;>rfl)
@[simp] def XQ {h:ak}{cs:D_}:gQ h (.tup cs)=bP (sW h cs) fun xs _=>some (iP (.tup xs)):=(by simp only[gQ];cases sW h cs<;>rfl)
@[simp] def aCw {h:ak}{x:D}:gQ h (.d x)=bP (fQ h (.d x)) fun x _=>some (iP x):=(by simp only[gQ];cases fQ h (.d x)<;>rfl)
@[simp] def aBR {h:ak}  : gQ h (.nl)=bP (fQ h (.nl)) fun x _=>some (iP x):=(by simp only[gQ];cases fQ h (.nl)<;>rfl)
@[simp] def azU {h:ak}{p:Bool}{m:Nat}{xs:E_}:gQ h (.own p m xs)=bP (fQ h (.own p m xs)) fun x _=>some (iP x):=(by simp only[gQ];cases fQ h (.own p m xs)<;>rfl)
@[simp] def aAa {h:ak}{cs:D_}:gQ h (.agg cs)=bP (fQ h (.agg cs)) fun x _=>some (iP x):=(by simp only[gQ];cases fQ h (.agg cs)<;>rfl)
@[simp] def aBu {h:ak}{a b c:Nat}:gQ h (.sl a b c)=bP (fQ h (.sl a b c)) fun x _=>some (iP x):=(by simp only[gQ];cases fQ h (.sl a b c)<;>rfl)
@[simp] def aBU {v:AV}:iP v=if jH v=true then qh v else v:=(by simp only[iP];cases jH v<;>rfl)
@[simp] def aCK {x:D}:ji (.d x)=lR x:=(rfl)
@[simp] def aAC {p:Bool}{m:Nat}{xs:E_}:ji (.own p m xs)=xs.all fun e=>e.all lR:=(rfl)
@[simp] def aBC {k:IntKind}{n:Int}:lR (.int k n)=true:=(rfl)
@[simp] def aAK {b:Bool}:lR (.bool b)=true:=(rfl)
@[simp] def aBz {xs:E_}:lR (.lst xs)=false:=(rfl)
@[simp] def aBi {cs:D_}:kZ (.agg cs)=cs.all ji:=(rfl)
@[simp] def aDC {x:D}:kZ (.d x)=lR x:=(rfl)
@[simp] def az8 {p:Bool}{m:Nat}{xs:E_}:kZ (.own p m xs)=xs.all fun e=>e.all lR:=(rfl)
@[simp] def aAw {cs:D_}:jH (.agg cs)=cs.all ji:=(rfl)
@[simp] def aCJ {x:D}:jH (.d x)=lR x:=(rfl)
@[simp] def aBl {p:Bool}{m:Nat}{xs:E_}:jH (.own p m xs)=xs.all fun e=>e.all lR:=(rfl)
@[simp] def azY {cs:D_}:jH (.tup cs)=cs.all kZ:=(rfl)
@[simp] def aA2 {p:Bool}{m:Nat}{xs:E_}:om (.own p m xs)=.own true m xs:=(rfl)
@[simp] def aAz {p:Bool}{m:Nat}{xs:E_}:pR (.own p m xs)=.own true m xs:=(rfl)
@[simp] def aAB {p:Bool}{m:Nat}{xs:E_}:qh (.own p m xs)=.own true m xs:=(rfl)
@[simp] def azJ {cs:D_}:pR (.agg cs)=.agg (cs.map om):=(rfl)
@[simp] def aAE {cs:D_}:qh (.agg cs)=.agg (cs.map om):=(rfl)
@[simp] def azK {cs:D_}:qh (.tup cs)=.tup (cs.map pR):=(rfl)
@[simp] def aEC {i:Nat}:ku i []=[]:=(rfl)
@[simp] def aEt {i:Nat}{v:AV}{r:D_}:ku i (v::r)=(i,v)::ku (i+1) r:=by
 have h:∀ (i:Nat) (r:D_),put (ku (i+1) r) i v=(i,v)::ku (i+1) r:=fun i r=>by
  have:∃ q,ku (i+1) r=q∧∀ p∈q,Nat.blt i p.1=true:=⟨_,rfl,by
   have aux:∀ (r:D_) (j:Nat),i<j->∀ p∈ku j r,Nat.blt i p.1=true:=by
    intro r
    induction r with
    | nil=>intro j hj p hp;simp[ku]at hp
    | cons w r ih =>
     intro j hj p hp;simp only[ku]at hp;rcases aa8 hp with rfl | hp
     .rw[Nat.blt,bj];exact hj
     .exact ih (j+1) o_ p hp
   exact aux r (i+1) o_⟩
  obtain⟨q,hq,hp⟩:=this;rw[hq]
  cases q with
  | nil=>rfl
  | cons p q =>
   obtain⟨k,u⟩:=p;have hk:i<k:=by have:=hp _ (.head _);rw[Nat.blt,bj]at this;exact this
   rw[wU,aa o_,ac o_]
 exact h i r
@[simp] def aCc {st:St}:fJ st []=some ([],st):=(rfl)
def asI (x:M_) (t:Nat) (st:St) (r:BA_):Option (D_×St) :=
 match x with
 | some v=>bP (fJ ⟨del st.env t,st.hs⟩ r) fun vs st=>some (v::vs,st)
 | none=>none
@[simp] def aBI {t:Nat}{st:St}{r:BA_}:fJ st (.tmp t::r)=asI (get st.env t) t st r:=(by
 simp only[fJ,asI]
 cases get st.env t with
 | none=>rfl
 | some v=>simp only;cases fJ ⟨del st.env t,st.hs⟩ r<;>rfl)
@[simp] def aFG {v:AV}{t:Nat}{e:aV}{hs:HS}{r:BA_}:asI (some v) t ⟨e,hs⟩ r=bP (fJ ⟨del e t,hs⟩ r) fun vs st=>some (v::vs,st):=(rfl)
def ass (x:M_) (t:Nat) (n:I_) (st:St) (r:BA_):Option (D_×St) :=
 match x with
 | some (.ptr id 0)=>bP (loadAt st.hs.heap n 1 (.ptr id 0)) fun v h=>bP (fJ ⟨del st.env t,⟨del h id,st.hs.next⟩⟩ r) fun vs st=>some (v::vs,st)
 | _=>none
@[simp] def aBN {t:Nat}{n:I_}{st:St}{r:BA_}:fJ st (.cell t n::r)=ass (get st.env t) t n st r:=(by
 simp only[fJ,ass]
 cases get st.env t with
 | none=>rfl
 | some v =>
  cases v<;>try rfl
  rename_i id off
  cases off with
  | succ k=>rfl
  | zero =>
   simp only
   cases loadAt st.hs.heap n 1 (.ptr id 0) with
   | none=>rfl
   | some q=>simp only[bP];cases fJ _ r<;>rfl)
@[simp] def aFK {id t:Nat}{n:I_}{e:aV}{hs:HS}{r:BA_}:ass (some (.ptr id 0)) t n ⟨e,hs⟩ r=bP (loadAt hs.heap n 1 (.ptr id 0)) fun v h=>bP (fJ ⟨del e t,⟨del h id,hs.next⟩⟩ r) fun vs st=>some (v::vs,st):=(rfl)
def anU {l:G_}:((aF l).all fun e=>e.all lR)=true:=by simp[aF]
def aoZ {l:C_}:((am l).all fun e=>e.all lR)=true:=by simp[am]
def amM {l:U_}:((ST l).all fun e=>e.all lR)=true:=by simp[ST]
attribute [simp] anU aoZ amM
attribute [simp] aqm
attribute [simp] aye ay4 azj ayd
variable {P:Nat->Y_}{l:T_}{e:aV}{h:ak}{m d s:Nat}{op:n9}{hs:HS}{β:Type}{k:AV->aV->HS->Option β}
abbrev V (d:Nat) (op:n9):VI:=⟨some d,none,op,[]⟩
abbrev N (op:n9):VI:=⟨none,none,op,[]⟩
abbrev W (s d:Nat) (op:n9):VI:=⟨some d,some (s,true),op,[]⟩
abbrev U (s d:Nat) (op:n9):VI:=⟨some d,some (s,false),op,[]⟩
def auN {e e2:aV}{hs hs2:HS}(h:e=e2) (h2:hs=hs2):pB P l e hs=pB P l e2 hs2:=by rw[h,h2]
attribute [congr] auN
@[simp ↓ low] def aCk {i:VI}:(Dn P).code (.reg false (i::l)) ⟨e,hs⟩=fb (pB P (i::l) e hs):=E4 rfl
@[simp ↓ low] def aBM {i:VI}:(Dn P).code (.reg true (i::l)) ⟨e,hs⟩=fb (pB P (i::l) e hs):=E4 rfl
@[simp] def aGd:pB P [] e hs=some ⟨e,hs⟩:=(rfl)
@[simp] def aFD:pB P (⟨some d,none,op,[]⟩::l) e hs=bS P op e hs fun v e hs=>pB P l (put e d (firm v)) hs:=(rfl)
@[simp] def aFx:pB P (⟨none,none,op,[]⟩::l) e hs=bS P op e hs fun _ e hs=>pB P l e hs:=(rfl)
@[simp] def aFs {t:Nat×Nat}{th:R_}:pB P (⟨some d,none,op,t::th⟩::l) e hs=bS P op e hs fun v e hs=>lP (dQ (t::th) v hs) fun v hs=>pB P l (put e d (firm v)) hs:=(rfl)
def wK {β:Type}(a b:Bool) (x y z:Option β):Option β :=
 match a with
 | true=>x
 | false=>match b with
  | true=>y
  | false=>z
@[simp ↓] def aHh {b:Bool}{x y z:Option β}:wK true b x y z=x:=(rfl)
@[simp ↓] def aHf {x y z:Option β}:wK false true x y z=y:=(rfl)
def az3 {a a2 b b2:Bool}{x y z:Option β}(h:a=a2) (h2:b=b2):wK a b x y z=wK a2 b2 x y z:=by rw[h,h2]
attribute [congr] az3
@[simp] def aFC {w:Bool}:pB P (⟨some d,some (s,w),op,[]⟩::l) e hs=wK (dH op) (Fo op)
  (bA (get e s) fun g=>bA (gV g w (bS P op e hs fun v _ _=>some v)) fun v=>pB P l (put e d (firm v)) hs)
  (bA (get e s) fun g=>bP (gH g w hs (bS P op e hs fun v _ hs=>some (v,hs))) fun v hs=>pB P l (put e d (firm v)) hs)
  (bA (cU (Dn P) ⟨some d,some (s,w),op,[]⟩ ⟨e,hs⟩) fun st=>pB P l st.env st.hs):=by
 simp only[pB,cvi,wK]
 cases dH op<;>cases Fo op<;>(try rfl)<;>(cases get e s<;>rfl)
@[simp] def aGK {i:Nat}:bL (.s i)=true:=(rfl)
@[simp] def aGW {a:AV}:bL (.c a)=true:=(rfl)
@[simp] def aF8:iO []=true:=(rfl)
@[simp] def aFL {x:Rd}{r:V_}:iO (x::r)=(bL x && iO r):=(rfl)
@[simp] def aGU:BZ none=true:=(rfl)
@[simp] def aGG {x:Rd}:BZ (some x)=bL x:=(rfl)
@[simp] def aF6 {x:Rd}:dH (.mov x)=bL x:=(rfl)
@[simp] def aGD {x:Rd}{n:I_}:dH (.ld n 0 x)=bL x:=(rfl)
@[simp] def aFQ {x:Rd}:dH (.nilck x)=bL x:=(rfl)
@[simp] def aFz {x y:Rd}{o:BinOp}:dH (.bin o x y)=(bL x && bL y):=(rfl)
@[simp] def aEX {x y:Rd}{o:Bool}:dH (.binb o x y)=(bL x && bL y):=(rfl)
@[simp] def aGM {x:Rd}{o:UnOp}:dH (.un o x)=bL x:=(rfl)
@[simp] def aGV {x:Rd}{o:Nat}:dH (.fa o x)=bL x:=(rfl)
@[simp] def aGw {x y:Rd}{o:Nat}:dH (.ia o x y)=(bL x && bL y):=(rfl)
@[simp] def aFc {x y:Rd}{o n:Nat}:dH (.iarr o n x y)=(bL x && bL y):=(rfl)
@[simp] def aFR {x:Rd}:dH (.len x)=bL x:=(rfl)
@[simp] def aEG {f:FuncId}{xs:V_}:dH (.call f xs)=iO xs:=(rfl)
@[simp] def aFh {c x y:Rd}:dH (.pick c x y)=(bL c && bL x && bL y):=(rfl)
@[simp] def aFt {x:Rd}:dH (.toStr x)=bL x:=(rfl)
@[simp] def aEJ {f:FuncId}{xs ys:V_}:dH (.mkfn f xs ys)=(iO xs && iO ys):=(rfl)
@[simp] def aF3 {m:Nat}{x:Rd}{a b c:AB_}:dH (.slice m x a b c)=(bL x && (BZ a && (BZ b && BZ c))):=(rfl)
@[simp] def aDz {f:FuncId}{xs:V_}:dH (.calli f xs)=false:=(rfl)
@[simp] def aEj {x:Rd}{xs:V_}:dH (.callv x xs)=false:=(rfl)
@[simp] def aDX {f:FuncId}{xs:V_}:Fo (.calli f xs)=iO xs:=(rfl)
@[simp] def aC3 {x:Rd}{xs:V_}:Fo (.callv x xs)=(bL x && iO xs):=(rfl)
attribute [simp] sJ uf
def Kt {γ:Type}(c:Prop) [Decidable c] (a b:γ):γ:=if c then a else b
def awF {γ:Type}{c d:Prop}[Decidable c] [i:Decidable d] {a b:γ}(h:c=d):Kt c a b=@Kt γ d i a b:=by subst h;congr
attribute [congr] awF
@[simp ↓] def aFr {γ:Type}{i:Decidable True}{a b:γ}:@Kt γ True i a b=a:=by simp only[Kt,bf]
@[simp ↓] def aFP {γ:Type}{i:Decidable False}{a b:γ}:@Kt γ False i a b=b:=by simp only[Kt,bh]
@[simp high] def aHi {k i:Nat}{v:AV}{r:aV}:get ((k,v)::r) i=Kt (k=i) (some v) (get r i):=ayh
@[simp high] def aHd {k i:Nat}{v x:AV}{r:aV}:put ((k,v)::r) i x=Kt (k=i) ((i,x)::r) (Kt (i<=k) ((i,x)::(k,v)::r) ((k,v)::put r i x)):=put1
@[simp high] def aHe {k i:Nat}{v:AV}{r:aV}:del ((k,v)::r) i=Kt (k=i) (del r i) ((k,v)::del r i):=ayS
variable {f:AV->aV->Option β}{x:Rd}
@[simp ↓] def aG7 {i:Nat}:cq e (.s i) f=bA (get e i) fun v=>f (share v) e:=by
 simp only[cq,rd,bA];cases get e i<;>rfl
@[simp ↓] def aG1 {i:Nat}:cq e (.m i) f=bA (get e i) fun v=>f v (del e i):=by
 simp only[cq,rd,bA];cases get e i<;>rfl
@[simp ↓] def aGC {a:AV}:cq e (.c a) f=f a e:=(rfl)
@[simp ↓] def aFN {f:D_->aV->Option β}:kI e [] f=f [] e:=(rfl)
@[simp ↓] def aGh {r:V_}{f:D_->aV->Option β}:kI e (x::r) f=cq e x fun v e=>kI e r fun vs e=>f (v::vs) e:=(rfl)
@[simp ↓] def aFE {f:M_->aV->Option β}:mL e none f=f none e:=(rfl)
@[simp ↓] def aFn {f:M_->aV->Option β}:mL e (some x) f=cq e x fun v e=>f (some v) e:=(rfl)
@[simp ↓] def aE5:bS P (.mov x) e hs k=cq e x fun v e=>k v e hs:=(rfl)
def L0 (e:aV):Rd->M_
 | .c v=>some v
 | .m i=>get e i
 | .s i=>match get e i with
  | some v=>some (share v)
  | none=>none
def pkV {β:Type}(c:AV) (a b:Rd) (x y:M_) (e:aV) (hs:HS) (k:AV->aV->HS->Option β):Option β :=
 match x,y with
 | some a,some b=>bA (TA c a b) fun v=>k v e hs
 | _,_=>bP (li (.c c) a b ⟨e,hs⟩) fun v st=>k v st.env st.hs
@[simp ↓] def aGO {c v w:AV}{a b:Rd}:pkV c a b (some v) (some w) e hs k=bA (TA c v w) fun v=>k v e hs:=(rfl)
def ayq {c:AV}{a b:Rd}{x x2 y y2:M_}(h:x=x2) (h2:y=y2):pkV c a b x y e hs k=pkV c a b x2 y2 e hs k:=by rw[h,h2]
attribute [congr] ayq
@[simp] def aGv {v:AV}:L0 e (.c v)=some v:=(rfl)
@[simp] def aGH {i:Nat}:L0 e (.s i)=bA (get e i) fun v=>some (share v):=by
 simp only[L0,bA];cases get e i<;>rfl
def ag9 {c a b:Rd}(ha:bL a=true) (hb:bL b=true):bS P (.pick c a b) e hs k=cq e c fun c e=>pkV c a b (L0 e a) (L0 e b) e hs k:=by
 simp only[bS,ha,hb,Bool.and_self]
 congr 1
 funext c e;have h1:∀ x,bL x=true->rd e x=(L0 e x).map fun v=>(v,e):=by
  intro x hx
  cases x with
  | c=>rfl
  | m=>cases hx
  | s i=>simp only[rd,L0];cases get e i<;>rfl
 rw[h1 a ha,h1 b hb]
 cases L0 e a<;>cases L0 e b<;>rfl
@[simp ↓] def aFi {c:Rd}{i:Nat}{y:AV}:bS P (.pick c (.s i) (.c y)) e hs k=cq e c fun c e=>pkV c (.s i) (.c y) (L0 e (.s i)) (L0 e (.c y)) e hs k:=ag9 rfl rfl
@[simp ↓] def aEA {c:Rd}{i:Nat}{y:AV}:bS P (.pick c (.c y) (.s i)) e hs k=cq e c fun c e=>pkV c (.c y) (.s i) (L0 e (.c y)) (L0 e (.s i)) e hs k:=ag9 rfl rfl
@[simp ↓] def aBy {zs:D_}:bS P (.alloc zs) e ⟨h,m⟩ k=lA (put h m (.cells zs)) fun h=>k (.ptr m 0) e ⟨h,m+1⟩:=(rfl)
@[simp ↓] def aEN:bS P (.box x) e ⟨h,m⟩ k=cq e x fun v e=>dE ((AV.cells v).all bw) (lA (put h m (.cells (AV.cells v))) fun h=>k (.ptr m 0) e ⟨h,m+1⟩):=(rfl)
@[simp ↓] def aBq {zs:D_}{ps:AC_}:bS P (.build zs ps) e hs k=kI e (sJ ps) fun vs e=>bA (dZ zs (uf ps vs)) fun cs=>k (.agg cs) e hs:=(rfl)
@[simp ↓] def aEL {j:Nat}{ps:V_}:bS P (.mks j ps) e hs k=kI e ps fun vs e=>bA (jL j vs) fun xs=>k (.own true j xs) e hs:=(rfl)
@[simp ↓] def aCu {j:Nat}{ps:V_}:bS P (.mksv j ps) e ⟨h,m⟩ k=kI e ps fun vs e=>dE (JN j vs) (lA (put h m (.cells (vs.flatMap AV.cells))) fun h=>k (.sl m 0 vs.length) e ⟨h,m+1⟩):=(rfl)
@[simp ↓] def aF1 {n:I_}:bS P (.ld n 0 x) e ⟨h,m⟩ k=cq e x fun p e=>bA (eW h n p) fun v=>k v e ⟨h,m⟩:=(rfl)
@[simp ↓] def aEr {n:I_}:bS P (.ld n 1 x) e ⟨h,m⟩ k=cq e x fun p e=>bP (loadAt h n 1 p) fun v h=>k v e ⟨h,m⟩:=(rfl)
@[simp ↓] def aEz {n:I_}:bS P (.ld n 2 x) e ⟨h,m⟩ k=cq e x fun p e=>bP (loadAt h n 2 p) fun v h=>k v e ⟨h,m⟩:=(rfl)
@[simp ↓] def aGp {n:Nat}{y:Rd}:bS P (.st n x y) e ⟨h,m⟩ k=cq e x fun p e=>cq e y fun v e=>bA (storeAt h n p v) fun h=>k .junk e ⟨h,m⟩:=(rfl)
@[simp ↓] def aB7:bS P (.nilck x) e hs k=cq e x fun v e=>bA (Fz v) fun v=>k v e hs:=(rfl)
@[simp ↓] def aE3 {o:BinOp}{y:Rd}:bS P (.bin o x y) e hs k=cq e x fun a e=>cq e y fun b e=>bA (fo o a b) fun v=>k (.d v) e hs:=(rfl)
@[simp ↓] def aDH {o:Bool}{y:Rd}:bS P (.binb o x y) e hs k=cq e x fun a e=>cq e y fun b e=>bA (aex o a b) fun v=>k (.d v) e hs:=(rfl)
@[simp ↓] def aD7 {o:Bool}{ks:U_}{y:Rd}:bS P (.bina o ks x y) e hs k=cq e x fun a e=>cq e y fun b e=>bA (Yg o ks a b) fun v=>k (.d v) e hs:=(rfl)
@[simp ↓] def aFX {o:UnOp}:bS P (.un o x) e hs k=cq e x fun a e=>bA (unD o a) fun v=>k (.d v) e hs:=(rfl)
@[simp ↓] def aCO {j:IntKind}:bS P (.conv j x) e hs k=cq e x fun a e=>bA (Ym j a) fun v=>k (.d v) e hs:=(rfl)
@[simp ↓] def aB5:bS P (.toStr x) e ⟨h,m⟩ k=cq e x fun a e=>bA (Mf h a) fun v=>k (.d v) e ⟨h,m⟩:=(rfl)
@[simp ↓] def aCA {f:FuncId}{a c:V_}:bS P (.mkfn f a c) e hs k=kI e a fun a e=>kI e c fun c e=>k (.fn f (shareAll a) (shareAll c)) e hs:=(rfl)
@[simp ↓] def azy {z:W_}{y:Rd}:bS P (.mkslice z x y) e hs k=cq e x fun a e=>cq e y fun c e=>bA (E8 z a c) fun v=>k v e hs:=(rfl)
@[simp ↓] def aBP {j:Nat}{lo hi mx:AB_}:bS P (.slice j x lo hi mx) e ⟨h,m⟩ k=cq e x fun x e=>mL e lo fun lo e=>mL e hi fun hi e=>mL e mx fun mx e=>bA (tG h j x lo hi mx) fun v=>k v e ⟨h,m⟩:=(rfl)
@[simp ↓] def aBG {j:Nat}{lo hi mx:AB_}:bS P (.slarr j x lo hi mx) e ⟨h,m⟩ k=cq e x fun x e=>mL e lo fun lo e=>mL e hi fun hi e=>mL e mx fun mx e=>bA (RH h j x lo hi mx) fun v=>k v e ⟨h,m⟩:=(rfl)
@[simp ↓] def aFT {o:Nat}:bS P (.fa o x) e hs k=cq e x fun p e=>bA (ir o p) fun v=>k v e hs:=(rfl)
@[simp ↓] def aF9 {n:Nat}{y:Rd}:bS P (.ia n x y) e ⟨h,m⟩ k=cq e x fun x e=>cq e y fun i e=>bA (XN h n x i) fun v=>k v e ⟨h,m⟩:=(rfl)
@[simp ↓] def aDk {a n:Nat}{y:Rd}:bS P (.iarr a n x y) e hs k=cq e x fun p e=>cq e y fun i e=>bA (JB a n p i) fun v=>k v e hs:=(rfl)
@[simp ↓] def aFm {a n:Nat}{b:Bool}{y:Rd}:bS P (.ix a n b x y) e hs k=cq e x fun x e=>cq e y fun i e=>bA (ixV a n b x i) fun v=>k v e hs:=(rfl)
@[simp ↓] def aFa {y:Rd}:bS P (.ixs x y) e hs k=cq e x fun x e=>cq e y fun i e=>bA (ank x i) fun v=>k (.d v) e hs:=(rfl)
@[simp ↓] def aDE {j i:Nat}:bS P (.ext j true i) e hs k=bA (get e j) fun t=>bA (Ak true t i) fun v=>k v (put e j (NP t i)) hs:=by
 simp only[bS,bA];cases get e j<;>(try rfl)
@[simp ↓] def aCQ {j i:Nat}:bS P (.ext j false i) e hs k=bA (get e j) fun t=>bA (Ak false t i) fun v=>k v e hs:=by
 simp only[bS,bA];cases get e j<;>(try rfl)
@[simp ↓] def aER:bS P (.len x) e hs k=cq e x fun x e=>bA (lenOf x) fun n=>k (.int .i64 (.ofNat n)) e hs:=(rfl)
@[simp ↓] def aEV:bS P (.cap x) e hs k=cq e x fun x e=>dE (aa2 x) (k (.int .i64 (.ofNat 0)) e hs):=(rfl)
@[simp ↓] def aEM {j:Nat}{y:Rd}:bS P (.app j x y) e ⟨h,m⟩ k=cq e x fun a e=>cq e y fun b e=>bP (ZX j h a b) fun v h=>k v e ⟨h,m⟩:=(rfl)
@[simp ↓] def aCT {z:W_}{y:Rd}:bS P (.appz z x y) e ⟨h,m⟩ k=cq e x fun a e=>cq e y fun n e=>bP (Hi z h a n) fun v h=>k v e ⟨h,m⟩:=(rfl)
@[simp ↓] def aEY {j:Nat}{y:Rd}:bS P (.cpy j x y) e ⟨h,m⟩ k=cq e x fun a e=>cq e y fun b e=>bP (agA j h a b) fun v h=>k (.d v) e ⟨h,m⟩:=(rfl)
@[simp ↓] def aA3 {b:Bool}{xs:V_}:bS P (.minmax b xs) e hs k=kI e xs fun vs e=>bA (Em b vs) fun v=>k v e hs:=(rfl)
@[simp ↓] def aEl {f:FuncId}{as:V_}:bS P (.call f as) e ⟨h,m⟩ k=kI e as fun vs e=>bA (eD (Dn P) f vs h) fun v=>k v e ⟨h,m⟩:=(rfl)
@[simp ↓] def aBK {f:FuncId}{as:V_}:bS P (.calli f as) e hs k=kI e as fun vs e=>bP ((Dn P).call f vs hs) fun v hs=>k v e hs:=(rfl)
@[simp ↓] def aCo {as:V_}:bS P (.callv x as) e hs k=cq e x fun f e=>kI e as fun vs e=>bP (cf (Dn P) f vs hs) fun v hs=>k v e hs:=(rfl)
@[simp ↓] def aCy {is:C_}:bS P (.kill is) e hs k=k (.tup []) (is.foldl del e) hs:=(rfl)
end Go.Vm
end
