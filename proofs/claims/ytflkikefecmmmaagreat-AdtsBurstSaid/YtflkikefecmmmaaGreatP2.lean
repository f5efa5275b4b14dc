import Derived.Test.YtflkikefecmmmaaGreatP1
set_option linter.unusedVariables false
set_option linter.unusedSimpArgs false
set_option linter.defProp false
set_option linter.unusedSectionVars false
noncomputable section
namespace Go.Vm
set_option maxHeartbeats 4000000
set_option maxRecDepth 100000
structure w6 (r q:dQ):Prop where
 code:∀c st x,r.code c st=some x->q.code c st=some x
 call:∀f a h x,r.call f a h=some x->q.call f a h=some x
section
variable {r q:dQ}
def aeJ (le:w6 r q){f:FuncId}{vs:D_}{h:am}{x:AV}(e:fw r f vs h=some x):fw q f vs h=some x:=by
 unfold fw at e⊢
 cases hd:viewArgs h vs with
 |none=>rw[hd]at e;simp at e
 |some ds =>
  rw[hd]at e;simp only at e⊢
  cases hc:r.call f ds ⟨[],0⟩ with
  |none=>rw[hc]at e;simp at e
  |some p =>
   obtain⟨v,hs⟩:=p;rw[hc]at e;rw[le.call _ _ _ _ hc];exact e
def agw (le:w6 r q){l:Nat}{vs:D_}{hs:HS}{x:AV×HS}(e:vF r l vs hs=some x):vF q l vs hs=some x:=by
 unfold vF at e⊢;split at e
 .rename_i snap params assign body hg;split at e
  .simp at e
  .rename_i e1 he1
   try simp only[he1]
   split at e
   .rename_i st1 hc;simp only[le.code _ _ _ hc];split at e
    .rename_i snap2 params2 assign2 body2 hg2;split at e
     .simp at e
     .rename_i o st2 hc2;simp only[le.code _ _ _ hc2];exact e
    .simp at e
   .simp at e
 .simp at e
def aiN (le:w6 r q){f:AV}{vs:D_}{hs:HS}{x:AV×HS}(e:cA r f vs hs=some x):cA q f vs hs=some x:=by
 cases f<;>simp only[cA,reduceCtorEq]at e⊢
 .exact le.call _ _ _ _ e
 .exact agw le e
def as3 (le:w6 r q){o:pk}{st:St}{x:AV×St}(e:dn o r st=some x):dn o q st=some x:=by
 cases o<;>try exact e
 .rename_i f args;simp only[dn,F3]at e⊢
  cases hr:rdAll st.env args with
  |none=>rw[hr]at e;simp at e
  |some p =>
   obtain⟨vs,e1⟩:=p;rw[hr]at e;simp only at e⊢
   cases hc:fw r f vs st.hs.heap with
   |none=>rw[hc]at e;simp at e
   |some v=>rw[hc]at e;rw[aeJ le hc];exact e
 .rename_i f args;simp only[dn,D0]at e⊢
  cases hr:rdAll st.env args with
  |none=>rw[hr]at e;simp at e
  |some p =>
   obtain⟨vs,e1⟩:=p;rw[hr]at e;simp only at e⊢
   cases hc:r.call f vs st.hs with
   |none=>rw[hc]at e;simp at e
   |some v=>rw[hc]at e;rw[le.call _ _ _ _ hc];exact e
 .rename_i f args;simp only[dn,EH]at e⊢
  cases hf:rd st.env f with
  |none=>rw[hf]at e;simp at e
  |some p =>
   obtain⟨fv,e0⟩:=p;rw[hf]at e;simp only at e⊢
   cases hr:rdAll e0 args with
   |none=>rw[hr]at e;simp at e
   |some p =>
    obtain⟨vs,e1⟩:=p;rw[hr]at e;simp only at e⊢
    cases hc:cA r fv vs st.hs with
    |none=>rw[hc]at e;simp at e
    |some v=>rw[hc]at e;rw[aiN le hc];exact e
def Ff (le:w6 r q){i:VI}{st x:St}(e:cZ r i st=some x):cZ q i st=some x:=by
 have go:∀x,gL r i st=some x->gL q i st=some x:=λx e=>by
  unfold gL at e⊢
  cases ho:dn i.op r st with
  |none=>rw[ho]at e;simp at e
  |some p=>rw[ho]at e;rw[as3 le ho];exact e
 unfold cZ at e⊢;split at e
 .exact go _ e
 .split at e
  .split at e
   .simp_all
   .simp_all
  .exact e
  .simp at e
def Tb (le:w6 r q):∀{l:S_}{st x:St},lx r l st=some x->lx q l st=some x
 |[],_,_,e=>e
 |i::l,st,x,e=>by
  simp only[lx]at e⊢
  cases hv:cZ r i st with
  |none=>rw[hv]at e;simp at e
  |some st1=>rw[hv]at e;rw[Ff le hv];exact Tb le e
def atv (le:w6 r q){F:C_}{i:VI}{st x:St}(e:xf r F i st=some x):xf q F i st=some x:=by
 unfold xf at e⊢;split at e
 .cases hv:cZ r i st with
  |none=>rw[hv]at e;simp at e
  |some st1=>rw[hv]at e;rw[Ff le hv];exact e
 .cases hv:cZ r i st with
  |none=>rw[hv]at e;simp at e
  |some st1=>rw[hv]at e;rw[Ff le hv];exact e
 .cases hv:cZ r i ⟨st.env,⟨ed (oN i st.env) st.hs.heap,st.hs.next⟩⟩ with
  |none=>rw[hv]at e;simp at e
  |some st1=>rw[hv]at e;rw[Ff le hv];exact e
def Yu (le:w6 r q){a:Bool}{F:C_}{i:VI}{st x:St}(e:cu r a F i st=some x):cu q a F i st=some x:=by
 cases a
 .exact Ff le e
 .exact atv le e
def Ru (le:w6 r q){nr:C_}{vs:S_}:∀{l F:C_}{st x:St},f9 r nr vs l F st=some x->f9 q nr vs l F st=some x
 |[],_,_,_,e=>e
 |i::l,F,st,x,e=>by
  simp only[f9]at e⊢
  cases hi:vs[i]? with
  |none=>rw[hi]at e;simp at e
  |some v =>
   rw[hi]at e;simp only at e⊢
   cases hv:cu r (fo i nr) F v st with
   |none=>rw[hv]at e;simp at e
   |some st1=>rw[hv]at e;rw[Yu le hv];exact Ru le e
theorem Pm (le:w6 r q){c:VC}{st:St}{x:cJ×St}(e:df c r st=some x):df c q st=some x:=by
 cases c<;>try exact e
 .rename_i d ops;simp only[df,Tz]at e⊢
  cases hv:lx r ops st with
  |none=>rw[hv]at e;simp at e
  |some st1=>rw[hv]at e;rw[Tb le hv];exact e
 .rename_i perm gco nr ops;simp only[df,NA,NJ]at e⊢
  cases ha:tE st.env ops with
  |false=>rw[ha]at e;simp at e
  |true =>
  rw[ha]at e;simp only at e⊢
  cases hv:f9 r nr ops perm [] st with
  |none=>rw[hv]at e;simp at e
  |some st1=>rw[hv]at e;rw[Ru le hv];exact e
 .rename_i a b;simp only[df,N6]at e⊢
  cases hv:r.code a st with
  |none=>rw[hv]at e;simp at e
  |some p =>
   obtain⟨o,st1⟩:=p;rw[hv]at e;rw[le.code _ _ _ hv]
   cases o<;>simp only at e⊢
   .exact le.code _ _ _ e
   all_goals exact e
 .rename_i cr a b;simp only[df,Nr]at e⊢;split at e
  .exact le.code _ _ _ e
  .exact le.code _ _ _ e
  .simp at e
 .rename_i id a;simp only[df,NP]at e⊢
  cases hv:r.code a st with
  |none=>rw[hv]at e;simp at e
  |some p=>rw[hv]at e;rw[le.code _ _ _ hv];exact e
 .rename_i a;simp only[df,Sz]at e⊢
  cases hv:r.code a st with
  |none=>rw[hv]at e;simp at e
  |some p =>
   obtain⟨o,st1⟩:=p;rw[hv]at e;rw[le.code _ _ _ hv]
   cases o<;>simp only at e⊢
   .exact le.code _ _ _ e
   all_goals exact e
 .rename_i f params assign body;simp only[df,EX]at e⊢;split at e
  .rename_i g first caps e1 h1
   split at e
   .rename_i v hs hc;rw[le.call _ _ _ _ hc];exact e
   .simp at e
  .simp at e
 .exact le.code _ _ _ e
 .rename_i a cur;simp only[df,K5]at e⊢
  cases hv:r.code cur st with
  |none=>rw[hv]at e;simp at e
  |some p =>
   obtain⟨o,st1⟩:=p;rw[hv]at e;rw[le.code _ _ _ hv]
   cases o<;>simp only at e⊢
   .exact e
   .exact e
   .split at e
    .exact le.code _ _ _ e
    .exact e
   .exact e
 .rename_i i d f a;simp only[df,Tf]at e⊢
  cases hg:get st.env i with
  |none=>rw[hg]at e;simp at e
  |some p =>
   rw[hg]at e
   cases p<;>simp only at e⊢<;>try exact absurd e (by simp)
   rename_i id off
   cases hv:r.code a ⟨put st.env d (.ptr id off),st.hs⟩ with
   |none=>rw[hv]at e;simp at e
   |some p =>
    obtain⟨o,st1⟩:=p;rw[hv]at e;rw[le.code _ _ _ hv]
    cases o<;>simp only at e⊢<;>try exact absurd e (by simp)
    all_goals
     cases hc:r.call f [.ptr id off] st1.hs with
     |none=>rw[hc]at e;simp at e
     |some q=>rw[hc]at e;rw[le.call _ _ _ _ hc];exact e
theorem ZY (le:w6 r q){P:Nat->Z_}{f:FuncId}{a:D_}{h:HS}{x:AV×HS}(e:wD P r f a h=some x):wD P q f a h=some x:=by
 unfold wD at e⊢;split at e
 .simp at e
 .rename_i fn hf;split at e
  .simp at e
  .rename_i hn
   cases hv:df fn.body r ⟨kM 0 a,h⟩ with
   |none=>rw[hv]at e;simp at e
   |some p=>rw[hv]at e;simp only[hn,Pm le hv];exact e
end
variable {P:Nat->Z_}
abbrev uN:=@Nat.le_add_right
def lim {α:Type}(f:Nat->Option α):Option α :=
 open Classical in if h:∃x,∃n,f n=some x then some (Classical.choose h) else none
def ai7 {α:Type}{f:Nat->Option α}(mono:∀n m x,f n=some x->f (n+m)=some x){n:Nat}{x:α}(h:f n=some x):lim f=some x:=by
 have he:∃x,∃n,f n=some x:=⟨x,n,h⟩
 unfold lim;obtain⟨m,hm⟩:=Classical.choose_spec he;have h2:=mono m n _ hm
 grind
def ahs {α:Type}{f:Nat->Option α}{x:α}(h:lim f=some x):∃n,f n=some x:=by
 unfold lim at h;split at h<;>grind
variable {P:Nat->Z_}
def w6.rfl' {r:dQ}:w6 r r:=⟨λ_ _ _ h=>h,λ_ _ _ _ h=>h⟩
def w6.trans' {r q s:dQ}(h:w6 r q)(k:w6 q s):w6 r s:=⟨λc st x e=>k.code c st x (h.code c st x e),λf a hs x e=>k.call f a hs x (h.call f a hs x e)⟩
def abL:∀n:Nat,w6 (run P n) (run P (n+1))
 |0=>⟨λ_ _ _ h=>by simp[run]at h,λ_ _ _ _ h=>by simp[run]at h⟩
 |n+1=>⟨λc st x h=>Pm (abL n) h,λf a hs x h=>ZY (abL n) h⟩
theorem RG (n:Nat):∀m:Nat,w6 (run P n) (run P (n+m))
 |0=>w6.rfl'
 |m+1=>(RG n m).trans' (abL (n+m))
def Dn (P:Nat->Z_):dQ:=⟨λc st=>lim λn=>(run P n).code c st,λf a h=>lim λn=>(run P n).call f a h⟩
def ahk {c:VC}{st:St}{x:cJ×St}{n:Nat}(h:(run P n).code c st=some x):(Dn P).code c st=some x :=
 ai7 (λn m x h=>(RG n m).code _ _ _ h) h
def Xw {f:FuncId}{a:D_}{hs:HS}{x:AV×HS}{n:Nat}(h:(run P n).call f a hs=some x):(Dn P).call f a hs=some x :=
 ai7 (λn m x h=>(RG n m).call _ _ _ _ h) h
theorem amE (n:Nat):w6 (run P n) (Dn P):=⟨λ_ _ _ h=>ahk h,λ_ _ _ _ h=>Xw h⟩
theorem Nb {n m:Nat}{c:VC}{st:St}{x:cJ×St}(h:(run P n).code c st=some x)(le:n<=m):(run P m).code c st=some x:=by
 grind [w6.code,RG,Nat.add_sub_cancel']
def up {n m:Nat}(le:n<=m):w6 (run P n) (run P m):=by
 grind [RG,Nat.add_sub_cancel']
theorem yv {c:VC}{st:St}{x:cJ×St}(h:(Dn P).code c st=some x):∃n,(run P n).code c st=some x:=ahs h
theorem DV {f:FuncId}{a:D_}{hs:HS}{x:AV×HS}(h:(Dn P).call f a hs=some x):∃n,(run P n).call f a hs=some x:=ahs h
theorem aj9 {f:FuncId}{vs:D_}{h:am}{x:AV}(e:fw (Dn P) f vs h=some x):∃n,fw (run P n) f vs h=some x:=by
 grind [fw,DV]
theorem apI {l:Nat}{vs:D_}{hs:HS}{x:AV×HS}(e:vF (Dn P) l vs hs=some x):∃n,vF (run P n) l vs hs=some x:=by
 unfold vF at e⊢;split at e
 .split at e
  .simp at e
  .split at e<;>grind [yv,Nb]
 simp_all
theorem anY {f:AV}{vs:D_}{hs:HS}{x:AV×HS}(e:cA (Dn P) f vs hs=some x):∃n,cA (run P n) f vs hs=some x:=by
 cases f<;>simp only[cA,reduceCtorEq]at e⊢
 all_goals grind [DV,apI]
theorem aAe {o:pk}{st:St}{x:AV×St}(e:dn o (Dn P) st=some x):∃n,dn o (run P n) st=some x:=by
 cases o<;>try exact⟨0,e⟩
 .rename_i f args;simp only[dn,F3]at e⊢
  cases hr:rdAll st.env args<;>grind [aj9]
 .rename_i f args;simp only[dn,D0]at e⊢
  cases hr:rdAll st.env args<;>grind [DV]
 .rename_i f args;simp only[dn,EH]at e⊢
  cases hf:rd st.env f with
  |none=>simp_all
  |some p =>
   obtain⟨fv,e0⟩:=p;simp only at e⊢
   cases hr:rdAll e0 args<;>grind [anY]
theorem ah5 {i:VI}{st x:St}(e:cZ (Dn P) i st=some x):∃n,cZ (run P n) i st=some x:=by
 have go:∀x,gL (Dn P) i st=some x->∃n,gL (run P n) i st=some x:=λx e=>by
  grind [gL,aAe]
 unfold cZ at e⊢;split at e
 .simp_all
 .split at e
  .split at e<;>simp_all
  all_goals simp_all
theorem alW:∀{l:S_}{st x:St},lx (Dn P) l st=some x->∃n,lx (run P n) l st=some x
 |[],_,_,e=>⟨0,e⟩
 |i::l,st,x,e=>by
  simp only[lx]at e⊢
  cases hv:cZ (Dn P) i st with
  |none=>simp_all
  |some st1 =>
   rw[hv]at e;obtain⟨n1,h1⟩:=ah5 hv;obtain⟨n2,h2⟩:=alW e;refine⟨n1+n2,?_⟩;rw[Ff (up (uN n1 n2)) h1];exact Tb (up (lL n2 n1)) h2
def azf {F:C_}{i:VI}{st x:St}(e:xf (Dn P) F i st=some x):∃n,xf (run P n) F i st=some x:=by
 grind [xf,ah5]
def aul {a:Bool}{F:C_}{i:VI}{st x:St}(e:cu (Dn P) a F i st=some x):∃n,cu (run P n) a F i st=some x:=by
 cases a
 .exact ah5 e
 .exact azf e
theorem amy {nr:C_}{vs:S_}:∀{l F:C_}{st x:St},f9 (Dn P) nr vs l F st=some x->∃n,f9 (run P n) nr vs l F st=some x
 |[],_,_,_,e=>⟨0,e⟩
 |i::l,F,st,x,e=>by
  simp only[f9]at e⊢
  cases hi:vs[i]? with
  |none=>simp_all
  |some v =>
   rw[hi]at e;simp only at e⊢
   cases hv:cu (Dn P) (fo i nr) F v st with
   |none=>simp_all
   |some st1 =>
    rw[hv]at e;obtain⟨n1,h1⟩:=aul hv;obtain⟨n2,h2⟩:=amy e;refine⟨n1+n2,?_⟩;rw[Yu (up (uN n1 n2)) h1];exact Ru (up (lL n2 n1)) h2
theorem aij {c:VC}{st:St}{x:cJ×St}(e:df c (Dn P) st=some x):∃n,df c (run P n) st=some x:=by
 cases c<;>try exact⟨0,e⟩
 .grind [df,Tz,alW]
 .rename_i perm gco nr ops;simp only[df,NA,NJ]at e⊢
  cases ha:tE st.env ops<;>grind [amy]
 .rename_i a b;simp only[df,N6]at e⊢
  grind [yv,Nb]
 .rename_i cr a b;simp only[df,Nr]at e⊢;split at e<;>grind [yv]
 .grind [df,NP,yv]
 .rename_i a;simp only[df,Sz]at e⊢
  grind [yv,Nb]
 .rename_i f params assign body;simp only[df,EX]at e⊢;split at e<;>grind [DV]
 .exact yv e
 .rename_i a cur;simp only[df,K5]at e⊢
  grind [yv,Nb]
 .rename_i i d f a;simp only[df,Tf]at e⊢
  cases hg:get st.env i with
  |none=>simp_all
  |some p =>
   rw[hg]at e
   cases p<;>simp only at e⊢<;>try exact absurd e (by simp)
   rename_i id off
   cases hv:(Dn P).code a ⟨put st.env d (.ptr id off),st.hs⟩ with
   |none=>simp_all
   |some p =>
    obtain⟨o,st1⟩:=p;obtain⟨n1,h1⟩:=yv hv;rw[hv]at e
    cases o<;>simp only at e⊢<;>try exact absurd e (by simp)
    all_goals
     cases hc:(Dn P).call f [.ptr id off] st1.hs with
     |none=>simp_all
     |some q =>
      obtain⟨n2,h2⟩:=DV hc;rw[hc]at e;refine⟨n1+n2,?_⟩;rw[Nb h1 (uN n1 n2)];simp only[(up (lL n2 n1)).call _ _ _ _ h2];exact e
def atc {f:FuncId}{a:D_}{h:HS}{x:AV×HS}(e:wD P (Dn P) f a h=some x):∃n,wD P (run P n) f a h=some x:=by
 unfold wD at e⊢;split at e
 .simp at e
 .split at e<;>grind [aij]
theorem jq (c:VC)(st:St):(Dn P).code c st=df c (Dn P) st:=by
 cases h:df c (Dn P) st with
 |some x =>
  obtain⟨n,hn⟩:=aij h;exact ahk (n:=n+1) hn
 |none =>
  cases k:(Dn P).code c st with
  |none=>rfl
  |some x =>
   obtain⟨n,hn⟩:=yv k
   cases n<;>grind [run,Pm,amE]
theorem axZ (f:FuncId)(a:D_)(hs:HS):(Dn P).call f a hs=wD P (Dn P) f a hs:=by
 cases h:wD P (Dn P) f a hs with
 |some x =>
  obtain⟨n,hn⟩:=atc h;exact Xw (n:=n+1) hn
 |none =>
  cases k:(Dn P).call f a hs with
  |none=>rfl
  |some x =>
   obtain⟨n,hn⟩:=DV k
   cases n<;>grind [run,ZY,amE]
abbrev aA:=@Int.eq_ofNat_of_zero_le
variable {P:Nat->Z_}
def AN (P:Nat->Z_)(x:J_)(b:VC):J_ :=
 match x with
 |some (.normal,st)=>(Dn P).code b st
 |x=>x
def zk (id:Nat)(x:J_):J_ :=
 match x with
 |some (.exit j,st)=>if j=id then some (.normal,st) else some (.exit j,st)
 |x=>x
def fH (x:Y_):J_ :=
 match x with
 |some st=>some (.normal,st)
 |none=>none
def rV (P:Nat->Z_)(a:VC)(x:J_):J_ :=
 match x with
 |some (.normal,st)=>(Dn P).code (.loop a) st
 |x=>x
def Wy (fn:al)(x:J_):X_ :=
 match x with
 |some (.normal,st)=>Hm fn st
 |some (.ret,st)=>Hm fn st
 |_=>none
def tZ (x:X_):M_ :=
 match x with
 |some (v,hs)=>iu hs.heap v
 |none=>none
def azg {st:St}{b:VC}:AN P (some (.normal,st)) b=(Dn P).code b st:=(rfl)
def azN {st:St}{b:VC}:AN P (some (.ret,st)) b=some (.ret,st):=(rfl)
def aA0 {st:St}{b:VC}{j:Nat}:AN P (some (.exit j,st)) b=some (.exit j,st):=(rfl)
def aBp {st:St}{b:VC}{j:Nat}:AN P (some (.goto j,st)) b=some (.goto j,st):=(rfl)
def aA2 {b:VC}:AN P none b=none:=(rfl)
def aAq {c:Prop}[Decidable c]{x y:J_}{b:VC}:AN P (if c then x else y) b=if c then AN P x b else AN P y b:=d_
def aBB {st:St}{i:Nat}:zk i (some (.normal,st))=some (.normal,st):=(rfl)
def aBi {st:St}{i:Nat}:zk i (some (.ret,st))=some (.ret,st):=(rfl)
def aAI {st:St}{i j:Nat}:zk i (some (.exit j,st))=if j=i then some (.normal,st) else some (.exit j,st):=(rfl)
def aAN {st:St}{i j:Nat}:zk i (some (.goto j,st))=some (.goto j,st):=(rfl)
def aAW {i:Nat}:zk i none=none:=(rfl)
def azl {c:Prop}[Decidable c]{x y:J_}{i:Nat}:zk i (if c then x else y)=if c then zk i x else zk i y:=d_
theorem NB {st:St}{a:VC}:rV P a (some (.normal,st))=(Dn P).code (.loop a) st:=(rfl)
def ayg {st:St}{a:VC}:rV P a (some (.ret,st))=some (.ret,st):=(rfl)
def ay7 {st:St}{a:VC}{j:Nat}:rV P a (some (.exit j,st))=some (.exit j,st):=(rfl)
def axm {st:St}{a:VC}{j:Nat}:rV P a (some (.goto j,st))=some (.goto j,st):=(rfl)
def axN {a:VC}:rV P a none=none:=(rfl)
def ays {c:Prop}[Decidable c]{x y:J_}{a:VC}:rV P a (if c then x else y)=if c then rV P a x else rV P a y:=d_
def aBh {st:St}:fH (some st)=some (.normal,st):=(rfl)
def aAB:fH none=none:=(rfl)
def aBC {c:Prop}[Decidable c]{x y:Y_}:fH (if c then x else y)=if c then fH x else fH y:=d_
def azY {v:AV}{hs:HS}:tZ (some (v,hs))=iu hs.heap v:=(rfl)
def aBv:tZ none=none:=(rfl)
def aBs {c:Prop}[Decidable c]{x y:X_}:tZ (if c then x else y)=if c then tZ x else tZ y:=d_
def ap8 {st:St}:(Dn P).code .skip st=some (.normal,st):=by rw[jq];rfl
def aq8 {st:St}{i:Nat}:(Dn P).code (.exit i) st=some (.exit i,st):=by rw[jq];rfl
def auM {st:St}:(Dn P).code .ret st=some (.ret,st):=by rw[jq];rfl
def anU {st:St}{i:Nat}:(Dn P).code (.label i) st=some (.normal,st):=by rw[jq];rfl
def arR {st:St}{i:Nat}:(Dn P).code (.goto i) st=some (.goto i,st):=by rw[jq];rfl
def att {st:St}{a b:VC}:(Dn P).code (.seq a b) st=AN P ((Dn P).code a st) b:=by rw[jq];rfl
def aoz {st:St}{i:Nat}{a:VC}:(Dn P).code (.block i a) st=zk i ((Dn P).code a st):=by
 grind [jq,df,NP,zk,Nat.eq_of_beq_eq_true,Nat.ne_of_beq_eq_false]
def aqc {st:St}{a:VC}:(Dn P).code (.loop a) st=rV P a ((Dn P).code a st):=by rw[jq];rfl
theorem Xg {st:St}{d:Bool}{ops:S_}:(Dn P).code (.reg d ops) st=fH (lx (Dn P) ops st):=by rw[jq];rfl
theorem aqJ {st:St}{perm gco:C_}{ops:S_}(ha:tE st.env ops=true):(Dn P).code (.regP perm gco [] ops) st=fH (wU (Dn P) ops perm st):=by
 rw[jq];simp only[df,NA,NJ,aiK,ha];rfl
def aoa {e:aZ}{hs:HS}{a b:VC}{t:Bool}:(Dn P).code (.cond (.c (B_ t)) a b) ⟨e,hs⟩=if t=true then (Dn P).code a ⟨e,hs⟩ else (Dn P).code b ⟨e,hs⟩:=by
 grind [jq,df,Nr,rd]
def UG (P:Nat->Z_)(v:M_)(a b:VC)(st:St):J_ :=
 match v with
 |some (.d (.bool true))=>(Dn P).code a st
 |some (.d (.bool false))=>(Dn P).code b st
 |_=>none
def arB {e:aZ}{hs:HS}{i:Nat}{a b:VC}:(Dn P).code (.cond (.m i) a b) ⟨e,hs⟩=UG P (get e i) a b ⟨del e i,hs⟩:=by
 rw[jq];simp only[df,Nr,rd,UG]
 grind
def axg {a b:VC}{st:St}:UG P (some (B_ true)) a b st=(Dn P).code a st:=(rfl)
def axE {a b:VC}{st:St}:UG P (some (B_ false)) a b st=(Dn P).code b st:=(rfl)
def aKl (P:Nat->Z_)(v:M_)(w:Bool)(d:I_)(op:pk)(th:R_)(st:St):Y_ :=
 match v with
 |some (.d (.bool b))=>match b == w with
  |true=>cZ (Dn P) ⟨d,none,op,th⟩ st
  |false=>some (cT d (.tup []) st)
 |some (.tup [])=>some (cT d (.tup []) st)
 |_=>none
def aFT {α:Type}{i:Nat}:get ([]:List (Nat×α)) i=none:=(rfl)
def azo {α:Type}{k i:Nat}{v:α}{r:List (Nat×α)}:get ((k,v)::r) i=if k=i then some v else get r i:=ju ..
def aFB {α:Type}{i:Nat}{x:α}:put [] i x=[(i,x)]:=(rfl)
def put1 {α:Type}{k i:Nat}{v x:α}{r:List (Nat×α)}:put ((k,v)::r) i x=if k=i then (i,x)::r else if i<=k then (i,x)::(k,v)::r else (k,v)::put r i x:=xE ..
def aFq {α:Type}{i:Nat}:del ([]:List (Nat×α)) i=[]:=(rfl)
def aAs {α:Type}{k i:Nat}{v:α}{r:List (Nat×α)}:del ((k,v)::r) i=if k=i then del r i else (k,v)::del r i:=pc ..
theorem Wm {k:IntKind}:ph k k=true:=by cases k<;>rfl
theorem lU {op:BinOp}{k:IntKind}{a b:Int}(h1:op≠.shl)(h2:op≠.shr):dL op (.d (.int k a)) (.d (.int k b))=match jR op k a b with|some x=>some (.d x)|none=>none:=by
 grind [dL,wo,Wm]
def ayq {k:IntKind}{a b:Int}:dL .add (.d (.int k a)) (.d (.int k b))=some (.d (.int k (wr k (a+b)))):=by rw[lU s_ s_];rfl
def axB {k:IntKind}{a b:Int}:dL .sub (.d (.int k a)) (.d (.int k b))=some (.d (.int k (wr k (a-b)))):=by rw[lU s_ s_];rfl
def axM {k:IntKind}{a b:Int}:dL .mul (.d (.int k a)) (.d (.int k b))=some (.d (.int k (wr k (a*b)))):=by rw[lU s_ s_];rfl
def ayt {k:IntKind}{a b:Int}(h:b≠0):dL .quo (.d (.int k a)) (.d (.int k b))=some (.d (.int k (wr k (a.tdiv b)))):=by grind [lU,jR]
def ayL {k:IntKind}{a b:Int}(h:b≠0):dL .rem (.d (.int k a)) (.d (.int k b))=some (.d (.int k (a.tmod b))):=by grind [lU,jR]
def ayc {k:IntKind}{a b:Int}:dL .eql (.d (.int k a)) (.d (.int k b))=if a=b then some (B_ true) else some (B_ false):=by grind [lU,jR]
def axO {k:IntKind}{a b:Int}:dL .neq (.d (.int k a)) (.d (.int k b))=if a=b then some (B_ false) else some (B_ true):=by grind [lU,jR]
def aw0 {k:IntKind}{a b:Int}:dL .lss (.d (.int k a)) (.d (.int k b))=if a<b then some (B_ true) else some (B_ false):=by grind [lU,jR]
def ax7 {k:IntKind}{a b:Int}:dL .leq (.d (.int k a)) (.d (.int k b))=if a<=b then some (B_ true) else some (B_ false):=by grind [lU,jR]
def axd {k:IntKind}{a b:Int}:dL .gtr (.d (.int k a)) (.d (.int k b))=if b<a then some (B_ true) else some (B_ false):=by grind [lU,jR]
def ay9 {k:IntKind}{a b:Int}:dL .geq (.d (.int k a)) (.d (.int k b))=if b<=a then some (B_ true) else some (B_ false):=by grind [lU,jR]
def axj {k j:IntKind}{a b:Int}(h:0<=b):dL .shl (.d (.int k a)) (.d (.int j b))=some (.d (.int k (wr k (a*((2 ^ (min b.toNat k.bits):Nat):Int))))):=by
 grind [dL,wo,Ib]
def ayX {k j:IntKind}{a b:Int}(h:0<=b):dL .shr (.d (.int k a)) (.d (.int j b))=some (.d (.int k (a.fdiv ((2 ^ (min b.toNat k.bits):Nat):Int)))):=by
 grind [dL,wo,Ib]
def auj {a b:BC_}:dL .eql (.d (.str a)) (.d (.str b))=if a=b then some (B_ true) else some (B_ false):=by
 grind [dL]
def aDz {n:Int}(h:0<=n)(h2:n<=255):wr .u8 n=n:=by
 grind [wr,oW]
def aAM {n:Int}(h:0<=n)(h2:n<=65535):wr .u16 n=n:=by
 grind [wr,oW]
def aBy {n:Int}(h:0<=n)(h2:n<=4294967295):wr .u32 n=n:=by
 grind [wr,oW]
def aAf {n:Int}(h:0<=n)(h2:n<=18446744073709551615):wr .u64 n=n:=by
 grind [wr,oW]
theorem yp {k:IntKind}{i:Int}{t:Nat}(h:0<=i)(h2:i<=t):eK (.d (.int k i)) t=some i.toNat:=by
 obtain⟨n,rfl⟩:=aA h;have:Nat.ble n t=true:=cf o_;show(match Nat.ble n t with|true=>some n|false=>none)=_
 grind
theorem Us {k:IntKind}{i:Int}(h:0<=i):r7 (.d (.int k i))=some i.toNat:=by
 obtain⟨n,rfl⟩:=aA h;rfl
def jM (k:IntKind):Nat:=if k.signed then 2 ^ (k.bits-1) else 2 ^ k.bits
theorem ayY (k:IntKind):jM k<=2 ^ k.bits:=by cases k<;>decide
theorem afR {k:IntKind}{n:Nat}(h:n<jM k):k.wrap (n:Int)=n:=by
 cases k<;>simp only[jM,IntKind.wrap,IntKind.signed,IntKind.bits]at h⊢<;>simp at h⊢<;>omega
theorem Fn {k:IntKind}{n:Nat}(h:n<jM k):(BitVec.ofInt k.bits (n:Int)).toNat=n:=by
 grind [ayY]
def aBA {k:IntKind}{a b:Nat}(h:a<jM k)(h2:b<jM k)(h3:a |||b<jM k):dL .or (.d (.int k (a:Int))) (.d (.int k (b:Int)))=some (.d (.int k ((a |||b:Nat):Int))):=by
 grind [lU,jR,Ge,Fn,afR]
theorem axX {a b t:Nat}(h:a<t):a &&& b<t:=by grind [Nat.and_le_left]
def axS {k:IntKind}{a b:Nat}(h:a<jM k)(h2:b<jM k):dL .and (.d (.int k (a:Int))) (.d (.int k (b:Int)))=some (.d (.int k ((a &&& b:Nat):Int))):=by
 grind [lU,jR,Ge,Fn,afR,axX]
def ax2 {k:IntKind}{a b:Nat}(h:a<jM k)(h2:b<jM k)(h3:a ^^^ b<jM k):dL .xor (.d (.int k (a:Int))) (.d (.int k (b:Int)))=some (.d (.int k ((a ^^^ b:Nat):Int))):=by
 grind [lU,jR,Ge,Fn,afR]
def bq (P:Nat->Z_)(f:FuncId)(ds:D_):M_:=tZ ((Dn P).call f ds ⟨[],0⟩)
theorem adm {f:FuncId}{fn:al}{args:D_}{hs:HS}(hf:P f=some fn)(hl:args.length=fn.nparams):(Dn P).call f args hs=Wy fn ((Dn P).code fn.body ⟨kM 0 args,hs⟩):=by
 grind [axZ,Nat.beq_refl,wD,Wy,jq]
def atd {f:FuncId}{fn:al}{args:D_}(hf:P f=some fn)(hl:args.length=fn.nparams):bq P f args=tZ (Wy fn ((Dn P).code fn.body ⟨kM 0 args,⟨[],0⟩⟩)):=by
 grind [bq,adm]
def aqa {g:FuncId}{first caps args:D_}{hs:HS}:cA (Dn P) (.fn g first caps) args hs=(Dn P).call g (first++(args++caps)) hs:=(rfl)
def aAP {α:Type}{a b:Prop}[Decidable a][Decidable b]{x y:α}:(if a then (if b then x else y) else y)=if a∧b then x else y:=by
 grind
def aAL {α:Type}{a b:Prop}[Decidable a][Decidable b]{x y:α}:(if a then x else (if b then x else y))=if a∨b then x else y:=by
 grind
def aBf {α:Type}{a b:Prop}[Decidable a][Decidable b]{x y:α}:(if a then (if b then y else x) else y)=if a∧¬b then x else y:=by
 grind
def azK {α:Type}{a b:Prop}[Decidable a][Decidable b]{x y:α}:(if a then x else (if b then y else x))=if a∨¬b then x else y:=by
 grind
def nth {α:Type}[Inhabited α](l:List α)(i:Nat):α:=l.getD i default
theorem Z6 {α:Type}[Inhabited α]{l:List α}{i:Nat}(h:i<l.length):nth l i=l[i]:=by simp[nth,h]
theorem yg {α:Type}[Inhabited α]{l:List α}{i:Nat}(h:i<l.length):l[i]?=some (nth l i):=by simp[nth,h]
theorem qX {α:Type}[Inhabited α]{l:List α}{i:Nat}(h:i<l.length):l.drop i=nth l i::l.drop (i+1):=by grind [List.drop_eq_getElem_cons,Z6]
theorem jE {α:Type}[Inhabited α]{l:List α}{i:Nat}(h:i<l.length):nth l i∈l:=by grind [Z6]
abbrev I (n:Int):D:=.int .i64 n
abbrev Y (n:Int):D:=.int .u8 n
def aI (l:G_):E_:=l.map fun(n:Int)=>[D.int .i64 n]
def ai (l:C_):E_:=l.map fun(n:Nat)=>[D.int .u8 (n:Int)]
def Un (l:V_):E_:=l.map fun(n:Bool)=>[D.bool n]
def auX {l:G_}:(aI l).length=l.length:=by simp[aI]
def auI {l:C_}:(ai l).length=l.length:=by simp[ai]
def asw {l:V_}:(Un l).length=l.length:=by simp[Un]
def JG {l:G_}{i:Nat}(h:i<l.length):(aI l)[i]?=some [.int .i64 (nth l i)]:=by grind [aI,yg]
def atq {l:C_}{i:Nat}(h:i<l.length):(ai l)[i]?=some [.int .u8 (nth l i:Nat)]:=by grind [ai,yg]
def ap5 {l:V_}{i:Nat}(h:i<l.length):(Un l)[i]?=some [.bool (nth l i)]:=by grind [Un,yg]
def apZ {a b:Nat}:((a:Int)+(b:Int)).toNat=a+b:=o_
def ac2 {a b:Nat}:Nat.beq a b=decide (a=b):=by
 grind [Nat.eq_of_beq_eq_true,Nat.ne_of_beq_eq_false]
theorem abH {a b:Nat}:Nat.ble a b=decide (a<=b):=by
 grind [Nat.le_of_ble_eq_true,Nat.ble_eq_true_of_le]
def awF {x y:J_}{b:VC}(h:x=y):AN P x b=AN P y b:=by rw[h]
def ay2 {x y:J_}{b:Nat}(h:x=y):zk b x=zk b y:=by rw[h]
def avo {x y:J_}{b:VC}(h:x=y):rV P b x=rV P b y:=by rw[h]
def awO {x y:J_}{b:al}(h:x=y):Wy b x=Wy b y:=by rw[h]
def aw9 {r:dQ}{c:VC}{x y:St}(h:x=y):r.code c x=r.code c y:=by rw[h]
def auW {v w:M_}{a b:VC}{x y:St}(h:v=w)(k:x=y):UG P v a b x=UG P w a b y:=by rw[h,k]
variable {P:Nat->Z_}
def bA {α β:Type}(x:Option α)(f:α->Option β):Option β :=
 match x with
 |some v=>f v
 |none=>none
def bP {α γ β:Type}(x:Option (α×γ))(f:α->γ->Option β):Option β :=
 match x with
 |some (v,w)=>f v w
 |none=>none
def lA {α β:Type}(x:α)(f:α->β):β:=f x
def lP {α γ β:Type}(x:α×γ)(f:α->γ->β):β:=f x.1 x.2
def dU {β:Type}(c:Bool)(x:Option β):Option β :=
 match c with
 |true=>x
 |false=>none
def gV (g:AV)(w:Bool)(x:M_):M_ :=
 match g with
 |.d (.bool b)=>if b=w then x else some (.tup [])
 |.tup []=>some (.tup [])
 |_=>none
def gH (g:AV)(w:Bool)(hs:HS)(x:X_):X_ :=
 match g with
 |.d (.bool b)=>if b=w then x else some (.tup [],hs)
 |.tup []=>some (.tup [],hs)
 |_=>none
def Up (c a b:AV):M_ :=
 match c with
 |.d (.bool true)=>some a
 |.d (.bool false)=>some b
 |_=>none
def aai (neg:Bool)(a b:AV):BF_ :=
 match a,b with
 |.d (.bool a),.d (.bool b)=>some (.bool (match neg with|true=>!(a == b)|false=>a == b))
 |_,_=>none
def af1 (neg:Bool)(ks:V_)(a b:AV):BF_ :=
 match a,b with
 |.agg a,.agg b=>match bE ks a b with
  |some t=>some (.bool (match neg with|true=>!t|false=>t))
  |none=>none
 |_,_=>none
def fe (op:BinOp)(a b:AV):BF_ :=
 match dL op a b with
 |some (.d x)=>some x
 |_=>none
def unD (op:UnOp)(a:AV):BF_ :=
 match acb op a with
 |some (.d x)=>some x
 |_=>none
def Yh (k:IntKind)(a:AV):BF_ :=
 match a with
 |.d (.int _ n)=>some (.int k (wr k n))
 |_=>none
def Dq (h:am)(a:AV):BF_ :=
 match elems h a with
 |some xs=>match vA xs with
  |some s=>some (.str s)
  |none=>none
 |none=>none
def Ga (z:W_)(l c:AV):M_ :=
 match eK c aY with
 |some c=>match eK l c with
  |some n=>some (.own true z.length (List.replicate n z))
  |none=>none
 |none=>none
def mF (h:am)(m:Nat)(x:AV)(lo hi mx:M_):M_ :=
 match okSl h m x with
 |true=>vt m x lo hi mx
 |false=>none
def Ti (hp:am)(n:Nat)(x:AV)(lo hi mx:M_):M_ :=
 match x with
 |.ptr id off=>T5 hp n id off lo hi mx
 |_=>none
def azO (off:Nat)(n:I_)(x:AV):M_ :=
 match x with
 |.agg cs=>FV n cs off
 |_=>none
def ZM (hp:am)(n:Nat)(x i:AV):M_ :=
 match r7 i with
 |some i=>match x with
  |.sl id off len=>match Nat.ble len i with
   |true=>none
   |false=>match get hp id with
    |some (.arr m _)=>match Nat.beq m n with
     |true=>some (.pel id (off+i) 0)
     |false=>none
    |some (.cells _)=>match Nat.beq n 1 with
     |true=>some (.ptr id (off+i))
     |false=>none
    |_=>none
  |v=>match elems hp v with
   |some xs=>match xs[i]? with
    |some x=>match Nat.beq x.length n with
     |true=>some (.pim x 0)
     |false=>none
    |none=>none
   |none=>none
 |none=>none
def KD (len n:Nat)(p i:AV):M_ :=
 match r7 i with
 |some i=>match Nat.ble len i with
  |true=>none
  |false=>iQ (i*n) p
 |none=>none
def ixV (len n:Nat)(agg:Bool)(x i:AV):M_ :=
 match x with
 |.agg cs=>match r7 i with
  |some i=>match Nat.ble len i with
   |true=>none
   |false=>FV (aiQ agg n) cs (i*n)
  |none=>none
 |_=>none
def apr (x i:AV):BF_ :=
 match x with
 |.d (.str s)=>match r7 i with
  |some i=>match s[i]? with
   |some b=>some (.int .u8 (.ofNat b.toNat))
   |none=>none
  |none=>none
 |_=>none
def AP (mv:Bool)(t:AV)(i:Nat):M_ :=
 match t with
 |.tup vs=>match vs[i]? with
  |some v=>match mv with
   |true=>some v
   |false=>some (share v)
  |none=>none
 |_=>none
def PB (t:AV)(i:Nat):AV :=
 match t with
 |.tup vs=>.tup (vs.set i .junk)
 |v=>v
def abQ (x:AV):Bool :=
 match x with
 |.nl=>true
 |_=>false
def abS (m:Nat)(h:am)(a b:AV):AF_ :=
 match elems h b with
 |some ys=>match gB m ys with
  |true=>eM m h a ys
  |false=>none
 |none=>none
def HV (z:W_)(h:am)(a n:AV):AF_ :=
 match eK n aY with
 |some n=>eM z.length h a (List.replicate n z)
 |none=>none
def aix (m:Nat)(hp:am)(a b:AV):Option (D×am) :=
 match elems hp b with
 |some ys=>match a with
  |.sl id off len=>match get hp id with
   |some (.arr k xs)=>match gB m ys && Nat.beq k m && Nat.ble (off+len) xs.length with
    |true=>some (.int .i64 (.ofNat (min len ys.length)),put hp id (.arr k (aH xs off (ys.take len))))
    |false=>none
   |_=>none
  |_=>match lenOf a with
   |some 0=>some (.int .i64 (.ofNat 0),hp)
   |_=>none
 |none=>none
def azy (z:W_)(hp:am)(x:AV):Option am :=
 match x with
 |.sl id off len=>match get hp id with
  |some (.arr k xs)=>match Nat.beq k z.length && Nat.ble (off+len) xs.length with
   |true=>some (put hp id (.arr k (aH xs off (List.replicate len z))))
   |false=>none
  |_=>none
 |_=>none
def DS (isMax:Bool)(vs:D_):M_ :=
 match vs with
 |.d (.int k n)::vs=>BY isMax (.d (.int k n)) vs
 |_=>none
def Gd (v:AV):M_ :=
 match v with
 |.ptr ..|.pel ..|.pim ..|.fn ..|.yield ..=>some v
 |_=>none
def ft (h:am)(n:I_)(p:AV):M_ :=
 match loadAt h n 0 p with
 |some (v,_)=>some v
 |none=>none
def Kh (m:Nat)(vs:D_):Bool:=vs.all λv=>Nat.beq v.cells.length m && v.cells.all bl
def cK {β:Type}(e:aZ)(x:Rd)(k:AV->aZ->Option β):Option β :=
 match rd e x with
 |some (v,e)=>k v e
 |none=>none
def lB {β:Type}:aZ->U_->(D_->aZ->Option β)->Option β
 |e,[],k=>k [] e
 |e,x::r,k=>match rd e x with
  |some (v,e)=>lB e r λvs e=>k (v::vs) e
  |none=>none
def nz {β:Type}(e:aZ)(x:AB_)(k:M_->aZ->Option β):Option β :=
 match x with
 |none=>k none e
 |some x=>match rd e x with
  |some (v,e)=>k (some v) e
  |none=>none
def bM:Rd->Bool
 |.m _=>false
 |_=>true
def bW {β:Type}(P:Nat->Z_)(op:pk)(e:aZ)(hs:HS)(k:AV->aZ->HS->Option β):Option β :=
 match op with
 |.mov x=>cK e x λv e=>k v e hs
 |.pick c a b=>cK e c λc e=>match bM a && bM b,rd e a,rd e b with
  |true,some (a,_),some (b,_)=>bA (Up c a b) λv=>k v e hs
  |_,_,_=>bP (lM (.c c) a b ⟨e,hs⟩) λv st=>k v st.env st.hs
 |.alloc zs=>lA (put hs.heap hs.next (.cells zs)) λh=>k (.ptr hs.next 0) e ⟨h,hs.next+1⟩
 |.box x=>cK e x λv e=>dU (v.cells.all bl) (lA (put hs.heap hs.next (.cells v.cells)) λh=>k (.ptr hs.next 0) e ⟨h,hs.next+1⟩)
 |.build zs ps=>lB e (qh ps) λvs e=>bA (eQ zs (uB ps vs)) λcs=>k (.agg cs) e hs
 |.mks m ps=>lB e ps λvs e=>bA (j8 m vs) λxs=>k (.own true m xs) e hs
 |.mksv m ps=>lB e ps λvs e=>dU (Kh m vs) (lA (put hs.heap hs.next (.cells (vs.flatMap AV.cells))) λh=>k (.sl hs.next 0 vs.length) e ⟨h,hs.next+1⟩)
 |.ld n 0 p=>cK e p λp e=>bA (ft hs.heap n p) λv=>k v e hs
 |.ld n (t+1) p=>cK e p λp e=>bP (loadAt hs.heap n (t+1) p) λv h=>k v e ⟨h,hs.next⟩
 |.st n p x=>cK e p λp e=>cK e x λx e=>bA (storeAt hs.heap n p x) λh=>k .junk e ⟨h,hs.next⟩
 |.nilck x=>cK e x λv e=>bA (Gd v) λv=>k v e hs
 |.bin op x y=>cK e x λa e=>cK e y λb e=>bA (fe op a b) λv=>k (.d v) e hs
 |.binb neg x y=>cK e x λa e=>cK e y λb e=>bA (aai neg a b) λv=>k (.d v) e hs
 |.bina neg ks x y=>cK e x λa e=>cK e y λb e=>bA (af1 neg ks a b) λv=>k (.d v) e hs
 |.un op x=>cK e x λa e=>bA (unD op a) λv=>k (.d v) e hs
 |.conv j x=>cK e x λa e=>bA (Yh j a) λv=>k (.d v) e hs
 |.toStr x=>cK e x λa e=>bA (Dq hs.heap a) λv=>k (.d v) e hs
 |.mkfn f a c=>lB e a λa e=>lB e c λc e=>k (.fn f (shareAll a) (shareAll c)) e hs
 |.mkslice z l c=>cK e l λl e=>cK e c λc e=>bA (Ga z l c) λv=>k v e hs
 |.slice m x lo hi mx=>cK e x λx e=>nz e lo λlo e=>nz e hi λhi e=>nz e mx λmx e=>bA (mF hs.heap m x lo hi mx) λv=>k v e hs
 |.slarr n x lo hi mx=>cK e x λx e=>nz e lo λlo e=>nz e hi λhi e=>nz e mx λmx e=>bA (Ti hs.heap n x lo hi mx) λv=>k v e hs
 |.fa off p=>cK e p λp e=>bA (iQ off p) λv=>k v e hs
 |.fld off n x=>cK e x λx e=>bA (azO off n x) λv=>k v e hs
 |.ia n x i=>cK e x λx e=>cK e i λi e=>bA (ZM hs.heap n x i) λv=>k v e hs
 |.iarr l n p i=>cK e p λp e=>cK e i λi e=>bA (KD l n p i) λv=>k v e hs
 |.ix l n a x i=>cK e x λx e=>cK e i λi e=>bA (ixV l n a x i) λv=>k v e hs
 |.ixs x i=>cK e x λx e=>cK e i λi e=>bA (apr x i) λv=>k (.d v) e hs
 |.ext j true i=>match get e j with
  |some t=>bA (AP true t i) λv=>k v (put e j (PB t i)) hs
  |none=>none
 |.ext j false i=>match get e j with
  |some t=>bA (AP false t i) λv=>k v e hs
  |none=>none
 |.len x=>cK e x λx e=>bA (lenOf x) λn=>k (.int .i64 (.ofNat n)) e hs
 |.cap x=>cK e x λx e=>dU (abQ x) (k (.int .i64 (.ofNat 0)) e hs)
 |.app m x y=>cK e x λa e=>cK e y λb e=>bP (abS m hs.heap a b) λv h=>k v e ⟨h,hs.next⟩
 |.appz z x n=>cK e x λa e=>cK e n λn e=>bP (HV z hs.heap a n) λv h=>k v e ⟨h,hs.next⟩
 |.cpy m x y=>cK e x λa e=>cK e y λb e=>bP (aix m hs.heap a b) λv h=>k (.d v) e ⟨h,hs.next⟩
 |.clr z x=>cK e x λx e=>bA (azy z hs.heap x) λh=>k (.tup []) e ⟨h,hs.next⟩
 |.minmax b xs=>lB e xs λvs e=>bA (DS b vs) λv=>k v e hs
 |.call f args=>lB e args λvs e=>bA (fw (Dn P) f vs hs.heap) λv=>k v e hs
 |.calli f args=>lB e args λvs e=>bP ((Dn P).call f vs hs) λv hs=>k v e hs
 |.callv f args=>cK e f λf e=>lB e args λvs e=>bP (cA (Dn P) f vs hs) λv hs=>k v e hs
 |.kill is=>k (.tup []) (is.foldl del e) hs
 |.idxb x c=>cK e x λx e=>cK e c λc e=>bA (atI hs.heap x c) λv=>k v e hs
 |op=>bP (dn op (Dn P) ⟨e,hs⟩) λv st=>k v st.env st.hs
def iC:U_->Bool
 |[]=>true
 |x::r=>bM x && iC r
def Dr:AB_->Bool
 |none=>true
 |some x=>bM x
def dH:pk->Bool
 |.mov x=>bM x
 |.ld _ 0 p=>bM p
 |.nilck x=>bM x
 |.bin _ x y=>bM x && bM y
 |.binb _ x y=>bM x && bM y
 |.un _ x=>bM x
 |.conv _ x=>bM x
 |.fa _ p=>bM p
 |.fld _ _ x=>bM x
 |.ia _ x i=>bM x && bM i
 |.iarr _ _ p i=>bM p && bM i
 |.ix _ _ _ x i=>bM x && bM i
 |.ixs x i=>bM x && bM i
 |.ext _ mv _=>!mv
 |.len x=>bM x
 |.call _ args=>iC args
 |.pick c a b=>bM c && bM a && bM b
 |.build _ ps=>iC (qh ps)
 |.toStr x=>bM x
 |.mkfn _ a c=>iC a && iC c
 |.mkslice _ l c=>bM l && bM c
 |.minmax _ xs=>iC xs
 |.slice _ x a b c=>bM x && (Dr a && (Dr b && Dr c))
 |_=>false
def zE:pk->Bool
 |.calli _ args=>iC args
 |.callv f args=>bM f && iC args
 |_=>false
def Wn (P:Nat->Z_)(i:VI)(e:aZ)(hs:HS)(k:aZ->HS->Y_):Y_ :=
 match i.guard with
 |none=>match i.th with
  |[]=>match i.dst with
   |some d=>bW P i.op e hs λv e hs=>k (put e d (firm v)) hs
   |none=>bW P i.op e hs λ_ e hs=>k e hs
  |th=>match i.dst with
   |some d=>bW P i.op e hs λv e hs=>lP (eC th v hs) λv hs=>k (put e d (firm v)) hs
   |none=>bW P i.op e hs λv e hs=>lP (eC th v hs) λ_ hs=>k e hs
 |some (s,w)=>match dH i.op,i.th,i.dst with
  |true,[],some d=>match get e s with
   |some g=>bA (gV g w (bW P i.op e hs λv _ _=>some v)) λv=>k (put e d (firm v)) hs
   |none=>none
  |_,_,_=>match zE i.op,i.th,i.dst with
   |true,[],some d=>match get e s with
    |some g=>bP (gH g w hs (bW P i.op e hs λv _ hs=>some (v,hs))) λv hs=>k (put e d (firm v)) hs
    |none=>none
   |_,_,_=>bA (cZ (Dn P) i ⟨e,hs⟩) λst=>k st.env st.hs
def qe (P:Nat->Z_):S_->aZ->HS->Y_
 |[],e,hs=>some ⟨e,hs⟩
 |i::l,e,hs=>Wn P i e hs λe hs=>qe P l e hs
theorem ayr {op:BinOp}{a b v:AV}(h:dL op a b=some v):∃x,v=.d x:=by
 unfold dL at h
 grind
theorem aBd {op:UnOp}{a v:AV}(h:acb op a=some v):∃x,v=.d x:=by
 unfold acb at h
 grind
theorem fF {β:Type}{e:aZ}{x:Rd}{k:AV->aZ->Option β}:cK e x k=match rd e x with|some (v,e)=>k v e|none=>none:=rfl
theorem oO {β:Type}:∀{l:U_}{e:aZ}{k:D_->aZ->Option β},lB e l k=match rdAll e l with|some (vs,e)=>k vs e|none=>none
 |[],_,_=>rfl
 |x::r,e,k=>by
  simp only[lB,rdAll]
  cases rd e x with
  |none=>rfl
  |some p =>
   simp only;rw[oO]
   grind
def al9 {β:Type}{e:aZ}{x:AB_}{k:M_->aZ->Option β}:nz e x k=match rdOpt e x with|some (v,e)=>k v e|none=>none:=by
 cases x<;>grind [nz,rdOpt]
def auV {h h':am}{n:I_}{p v:AV}(k:loadAt h n 0 p=some (v,h')):h'=h:=by
 unfold loadAt at k
 grind
def gK {β:Type}(x:L_)(k:AV->aZ->HS->Option β):Option β :=
 match x with
 |some (v,st)=>k v st.env st.hs
 |none=>none
theorem uG {e e1:aZ}{x:Rd}{v:AV}(hs:bM x=true)(h:rd e x=some (v,e1)):e1=e:=by
 cases x<;>grind [rd,bM]
theorem P4 {a b:Rd}{st:St}:lM (.c (B_ true)) a b st=match rd st.env a with|some (v,e)=>some (v,⟨e,st.hs⟩)|none=>none:=rfl
theorem Pq {a b:Rd}{st:St}:lM (.c (B_ false)) a b st=match rd st.env b with|some (v,e)=>some (v,⟨e,st.hs⟩)|none=>none:=rfl
def JO {β:Type}{op:pk}{e:aZ}{hs:HS}{k:AV->aZ->HS->Option β}:bW P op e hs k=gK (dn op (Dn P) ⟨e,hs⟩) k:=by
 cases op with
 |mov x=>grind [bW,dn,Ui,fF,gK]
 |pick c a b =>
  simp only[bW,dn,fF]
  cases hc:rd e c with
  |none=>grind [lM,gK]
  |some q =>
   obtain⟨v,e1⟩:=q;have h0:lM c a b ⟨e,hs⟩=lM (.c v) a b ⟨e1,hs⟩:=by
    unfold lM;simp only;rw[hc];rfl
   rw[h0];simp only;split
   .rename_i va _ vb _ hst hra hrb;simp only[af]at hst;have ea:=uG hst.1 hra;have eb:=uG hst.2 hrb;subst ea;subst eb;simp only[gK]
    cases v with
    |d x=>cases x with
     |bool t =>
      cases t
      all_goals grind [Pq,Up,bA,P4]
     |_=>rfl
    |_=>rfl
   .simp only[bP,gK]
    grind
 |ld n t p =>
  cases t with
  |zero =>
   simp only[bW,dn,Fa,fF,gK]
   cases rd e p with
   |none=>rfl
   |some q =>
    obtain⟨v,e1⟩:=q;simp only[ft,bA]
    cases hl:loadAt hs.heap n 0 v with
    |none=>rfl
    |some r=>obtain⟨v2,h2⟩:=r;simp only[auV hl]
  |succ t =>
   grind [bW,dn,Fa,fF,gK,bP]
 |alloc zs=>rfl
 |box x =>
  grind [bW,dn,TK,fF,gK,dU,lA,I3]
 |build zs ps =>
  grind [bW,dn,Ex,oO,gK,bA]
 |mks m ps =>
  grind [bW,dn,P5,oO,gK,bA]
 |mksv m ps =>
  grind [bW,dn,YT,oO,gK,dU,lA,I3,Kh]
 |st n p x =>
  simp only[bW,dn,anu,fF,gK]
  grind [bA]
 |nilck x =>
  grind [bW,dn,Ia,fF,gK,bA,Gd]
 |bin op x y =>
  simp only[bW,dn,NX,Tx,fF,gK]
  grind [bA,fe,ayr]
 |binb neg x y =>
  simp only[bW,dn,MD,fF,gK]
  grind [bA,aai]
 |bina neg ks x y =>
  simp only[bW,dn,Nj,fF,gK]
  cases rd e x<;>grind [bA,af1]
 |un op x =>
  grind [bW,dn,abY,fF,gK,bA,unD,aBd]
 |conv j x =>
  simp only[bW,dn,Iu,fF,gK]
  cases rd e x with
  |none=>rfl
  |some q =>
   obtain⟨v,e1⟩:=q;simp only[bA,Yh]
   grind
 |toStr x =>
  simp only[bW,dn,Ni,fF,gK]
  grind [bA,Dq]
 |mkfn f a c =>
  grind [bW,dn,Ir,oO,gK]
 |mkslice z l c =>
  simp only[bW,dn,mM,fF,gK]
  cases rd e l<;>grind [bA,Ga]
 |slice m x lo hi mx =>
  simp only[bW,dn,Nk,fF,al9,gK]
  cases rd e x<;>grind [bA,mF]
 |slarr n x lo hi mx =>
  simp only[bW,dn,UB,fF,al9,gK]
  cases rd e x with
  |none=>rfl
  |some q =>
   obtain⟨v,e1⟩:=q;simp only
   cases v<;>grind [bA,Ti]
 |fa off p =>
  grind [bW,dn,abz,fF,gK,bA]
 |fld off n x =>
  simp only[bW,dn,PW,fF,gK]
  cases rd e x with
  |none=>rfl
  |some q =>
   obtain⟨v,e1⟩:=q;simp only[bA,azO]
   grind
 |ia n x i =>
  simp only[bW,dn,agK,fF,gK]
  cases rd e x with
  |none=>rfl
  |some q =>
   obtain⟨v,e1⟩:=q;simp only
   cases rd e1 i with
   |none=>rfl
   |some q =>
    obtain⟨w,e2⟩:=q;simp only[bA,ZM]
    cases r7 w with
    |none=>rfl
    |some j =>
     simp only
     cases v<;>grind
 |iarr l n p i =>
  simp only[bW,dn,M7,fF,gK]
  cases rd e p<;>grind [bA,KD]
 |ix l n a x i =>
  simp only[bW,dn,WC,fF,gK]
  cases rd e x with
  |none=>rfl
  |some q =>
   obtain⟨v,e1⟩:=q;simp only
   cases hi:rd e1 i with
   |none=>grind
   |some q =>
    obtain⟨w,e2⟩:=q;simp only[bA,ixV]
    grind
 |ixs x i =>
  simp only[bW,dn,Pa,fF,gK]
  cases rd e x with
  |none=>rfl
  |some q =>
   obtain⟨v,e1⟩:=q;simp only
   cases hi:rd e1 i with
   |none=>grind
   |some q =>
    obtain⟨w,e2⟩:=q;simp only[bA,apr]
    grind
 |ext j mv i =>
  cases mv with
  |true =>
   simp only[bW,dn,CP,gK]
   cases get e j with
   |none=>rfl
   |some t =>
    simp only[bA,AP,PB]
    grind
  |false =>
   simp only[bW,dn,CP,gK]
   cases get e j with
   |none=>rfl
   |some t =>
    simp only[bA,AP]
    grind
 |len x =>
  grind [bW,dn,Uh,fF,gK,bA]
 |cap x =>
  simp only[bW,dn,Pn,fF,gK]
  cases rd e x with
  |none=>rfl
  |some q =>
   obtain⟨v,e1⟩:=q;simp only[dU,abQ]
   grind
 |app m x y =>
  simp only[bW,dn,H6,fF,gK]
  cases rd e x<;>grind [bP,abS]
 |appz z x n =>
  simp only[bW,dn,ahg,fF,gK]
  grind [bP,HV]
 |cpy m x y =>
  simp only[bW,dn,Ym,fF,gK]
  cases rd e x with
  |none=>rfl
  |some q =>
   obtain⟨v,e1⟩:=q;simp only
   cases rd e1 y with
   |none=>rfl
   |some q =>
    obtain⟨w,e2⟩:=q;simp only[bP,aix]
    cases elems hs.heap w with
    |none=>rfl
    |some ys =>
     simp only
     cases v with
     |sl id off len =>
      grind
     |_ =>
      simp only;generalize lenOf _=n
      cases n with
      |none=>rfl
      |some n=>cases n<;>rfl
 |clr z x =>
  simp only[bW,dn,T3,fF,gK]
  cases rd e x with
  |none=>rfl
  |some q =>
   simp only[bA,azy]
   grind
 |minmax b xs =>
  simp only[bW,dn,AS,oO,gK]
  cases rdAll e xs with
  |none=>rfl
  |some q =>
   simp only[bA,DS]
   grind
 |call f args =>
  grind [bW,dn,F3,oO,gK,bA]
 |calli f args =>
  grind [bW,dn,D0,oO,gK,bP]
 |callv f args =>
  simp only[bW,dn,EH,fF,oO,gK]
  grind [bP]
 |kill is=>rfl
 |idxb x c =>
  simp only[bW,dn,agT,fF,gK]
  grind [bA]
 |_ =>
  simp only[bW,bP,gK]
  grind
theorem Qg:∀{l:U_}{e e1:aZ}{vs:D_},iC l=true->rdAll e l=some (vs,e1)->e1=e
 |[],e,e1,vs,_,h=>by grind [rdAll]
 |x::r,e,e1,vs,hs,h=>by
  simp only[iC,af]at hs;simp only[rdAll]at h;split at h
  .simp at h
  .rename_i v e2 h1;split at h
   .simp at h
   .rename_i vs2 e3 h2;have a1:=uG hs.1 h1;have a2:=Qg hs.2 h2
    simp_all
theorem lj {β:Type}{e:aZ}{x:Rd}{k:AV->aZ->Option β}(h:bM x=true):cK e x k=cK e x λv _=>k v e:=by
 grind [cK,uG]
theorem xO {β:Type}{e:aZ}{l:U_}{k:D_->aZ->Option β}(h:iC l=true):lB e l k=lB e l λv _=>k v e:=by
 grind [oO,Qg]
theorem OH {β:Type}{e:aZ}{x:AB_}{k:M_->aZ->Option β}(h:Dr x=true):nz e x k=nz e x λv _=>k v e:=by
 cases x with
 |none=>rfl
 |some x=>exact lj (k:=λv e=>k (some v) e) h
theorem mt {α β γ:Type}{x:Option α}{f:α->Option β}{g:β->Option γ}:bA (bA x f) g=bA x λv=>bA (f v) g:=by
 cases x<;>rfl
theorem gJ {β γ:Type}{e:aZ}{x:Rd}{k:AV->aZ->Option β}{g:β->Option γ}:bA (cK e x k) g=cK e x λv e=>bA (k v e) g:=by
 simp only[cK];cases rd e x<;>rfl
theorem K9 {β γ:Type}{e:aZ}{x:U_}{k:D_->aZ->Option β}{g:β->Option γ}:bA (lB e x k) g=lB e x λv e=>bA (k v e) g:=by
 simp only[oO];cases rdAll e x<;>rfl
theorem ge {α β:Type}{v:α}{f:α->Option β}:bA (some v) f=f v:=rfl
def R8 {β:Type}{e:aZ}{x y:Rd}{k:AV->AV->aZ->Option β}(h:bM x=true)(h2:bM y=true):(cK e x λa e=>cK e y λb e=>k a b e)=cK e x λa _=>cK e y λb _=>k a b e:=by
 grind [cK,uG]
def OA {β:Type}{e:aZ}{x y:Rd}{k:AV->AV->Option β}(h:bM x=true)(h2:bM y=true):(cK e x λa e=>cK e y λb _=>k a b)=cK e x λa _=>cK e y λb _=>k a b:=R8 (k:=λa b _=>k a b) h h2
def ary {β:Type}{op:pk}{e:aZ}{hs:HS}{k:AV->aZ->HS->Option β}(h:dH op=true):bW P op e hs k=bA (bW P op e hs λv _ _=>some v) λv=>k v e hs:=by
 cases op with
 |mov x =>
  grind [dH,bW,gJ,ge,lj]
 |ld n t p =>
  cases t<;>simp_all [dH,bW,gJ,mt,ge,lj]
 |nilck x =>
  grind [dH,bW,gJ,mt,ge,lj]
 |un op x =>
  grind [dH,bW,gJ,mt,ge,lj]
 |conv op x =>
  grind [dH,bW,gJ,mt,ge,lj]
 |fa off p =>
  grind [dH,bW,gJ,mt,ge,lj]
 |fld off n p =>
  grind [dH,bW,gJ,mt,ge,lj]
 |len x =>
  grind [dH,bW,gJ,mt,ge,lj]
 |bin op x y =>
  simp only[dH,af]at h;simp only[bW,gJ,mt,ge];exact(R8 h.1 h.2).trans (OA h.1 h.2).symm
 |binb op x y =>
  simp only[dH,af]at h;simp only[bW,gJ,mt,ge];exact(R8 h.1 h.2).trans (OA h.1 h.2).symm
 |ia n x y =>
  simp only[dH,af]at h;simp only[bW,gJ,mt,ge];exact(R8 h.1 h.2).trans (OA h.1 h.2).symm
 |iarr l n x y =>
  simp only[dH,af]at h;simp only[bW,gJ,mt,ge];exact(R8 h.1 h.2).trans (OA h.1 h.2).symm
 |ix l n a x y =>
  simp only[dH,af]at h;simp only[bW,gJ,mt,ge];exact(R8 h.1 h.2).trans (OA h.1 h.2).symm
 |ixs x y =>
  simp only[dH,af]at h;simp only[bW,gJ,mt,ge];exact(R8 h.1 h.2).trans (OA h.1 h.2).symm
 |ext j mv i =>
  cases mv with
  |true=>simp[dH]at h
  |false =>
   simp only[bW]
   cases get e j with
   |none=>rfl
   |some t=>grind [mt,ge]
 |call f args =>
  grind [dH,bW,K9,mt,ge,xO]
 |build zs ps =>
  grind [dH,bW,K9,mt,ge,xO]
 |slice m x lo hi mx =>
  simp only[dH,af]at h;obtain⟨h0,h1,h2,h3⟩:=h;have bd:∀{γ:Type}{x:AB_}{e:aZ}{k:M_->aZ->M_}{g:AV->Option γ},bA (nz e x k) g=nz e x λv e=>bA (k v e) g:=by
   intro γ x e k g
   cases x with
   |none=>rfl
   |some x=>exact gJ
  simp only[bW,gJ,bd,mt,ge];rw[lj h0,lj (k:=λv e_1=>nz e_1 lo λv_1 e_1=>nz e_1 hi λv_2 e_1=>nz e_1 mx λv_3 _=>bA (mF hs.heap m v v_1 v_2 v_3) λv=>k v e hs) h0]
  congr 1
  funext v _;rw[OH h1,OH (k:=λv_1 e_1=>nz e_1 hi λv_2 e_1=>nz e_1 mx λv_3 _=>bA (mF hs.heap m v v_1 v_2 v_3) λv=>k v e hs) h1]
  grind [OH]
 |minmax b ps =>
  grind [dH,bW,K9,mt,ge,xO]
 |toStr x =>
  grind [dH,bW,gJ,mt,ge,lj]
 |mkslice z x y =>
  simp only[dH,af]at h;simp only[bW,gJ,mt,ge];exact(R8 h.1 h.2).trans (OA h.1 h.2).symm
 |mkfn f a c =>
  simp_all [dH,bW,K9,ge,xO]
 |pick c a b =>
  simp only[dH,af]at h;simp only[bW,gJ];have h2:(bM a && bM b)=true:=u_;simp only[cK]
  cases hc:rd e c with
  |none=>rfl
  |some q =>
   obtain⟨v,e1⟩:=q;have:=uG h.1.1 hc;subst this;simp only[h2]
   cases ha:rd e1 a with
   |none =>
    cases hb:rd e1 b with
    |none =>
     cases v<;>try rfl
     rename_i d;cases d<;>try rfl
     rename_i t;cases t<;>simp only[P4,Pq,ha,hb,bP,bA]
    |some q =>
     have:=uG h.2 hb;subst this
     cases v<;>try rfl
     rename_i d;cases d<;>try rfl
     rename_i t;cases t<;>simp only[P4,Pq,ha,hb,bP,bA]
   |some q =>
    obtain⟨va,ea⟩:=q;have:=uG h.1.2 ha;subst this
    cases hb:rd ea b with
    |none =>
     cases v<;>try rfl
     rename_i d;cases d<;>try rfl
     rename_i t;cases t<;>simp only[P4,Pq,ha,hb,bP,bA]
    |some q=>grind [mt,ge]
 |_=>simp[dH]at h
def awt {α β γ δ ε:Type}{x:Option (α×β)}{f:α->β->Option (γ×δ)}{g:γ->δ->Option ε}:bP (bP x f) g=bP x λv w=>bP (f v w) g:=by
 cases x<;>rfl
def ao2 {β:Type}{op:pk}{e:aZ}{hs:HS}{k:AV->aZ->HS->Option β}(h:zE op=true):bW P op e hs k=bP (bW P op e hs λv _ hs=>some (v,hs)) λv hs=>k v e hs:=by
 cases op with
 |calli f args =>
  simp only[bW];rw[xO h];simp only[oO]
  cases rdAll e args with
  |none=>rfl
  |some q=>simp only[awt];rfl
 |callv f args =>
  simp only[zE,af]at h;simp only[bW];simp only[xO h.2];simp only[cK]
  cases hf:rd e f with
  |none=>rfl
  |some q =>
   obtain⟨v,e1⟩:=q;have:=uG h.1 hf;subst this;simp only[oO]
   cases rdAll e1 args with
   |none=>rfl
   |some q=>simp only[awt];rfl
 |_=>simp[zE]at h
def adb:firm (.tup [])=.tup []:=rfl
def J9 {i:VI}{e:aZ}{hs:HS}{k:aZ->HS->Y_}:Wn P i e hs k=bA (cZ (Dn P) i ⟨e,hs⟩) λst=>k st.env st.hs:=by
 obtain⟨dst,guard,op,th⟩:=i;unfold Wn
 cases guard with
 |none =>
  simp only[cZ,gL]
  cases th with
  |nil =>
   cases dst with
   |none =>
    simp only[JO,gK,cT]
    cases dn op (Dn P) ⟨e,hs⟩<;>rfl
   |some d =>
    simp only[JO,gK,cT]
    cases dn op (Dn P) ⟨e,hs⟩<;>rfl
  |cons p r =>
   cases dst with
   |none =>
    simp only[JO,gK,cT,lP]
    cases dn op (Dn P) ⟨e,hs⟩<;>rfl
   |some d =>
    simp only[JO,gK,cT,lP]
    cases dn op (Dn P) ⟨e,hs⟩<;>rfl
 |some g =>
  obtain⟨s,w⟩:=g;simp only;split
  .rename_i d hst;have he:∀{k:AV->aZ->HS->Y_},gK (dn op (Dn P) ⟨e,hs⟩) k=bA (bW P op e hs λv _ _=>some v) λv=>k v e hs:=by
    intro k;rw[<-JO,ary hst]
   have hv:∀{k:aZ->HS->Y_},bA (gL (Dn P) ⟨some d,some (s,w),op,[]⟩ ⟨e,hs⟩) (λst=>k st.env st.hs)=bA (bW P op e hs λv _ _=>some v) λv=>k (put e d (firm v)) hs:=by
    intro k;rw[<-he (k:=λv e hs=>k (put e d (firm v)) hs)];simp only[gL,gK,cT]
    cases dn op (Dn P) ⟨e,hs⟩<;>rfl
   simp only[cZ]
   cases get e s with
   |none=>rfl
   |some g =>
    cases g with
    |d x=>cases x with
     |bool b =>
      simp only[gV]
      cases hb:(b == w)<;>simp_all [bA,adb,cT]
     |_=>rfl
    |tup vs=>cases vs<;>rfl
    |_=>rfl
  .split
   .rename_i d hst _;have he:∀{k:AV->aZ->HS->Y_},gK (dn op (Dn P) ⟨e,hs⟩) k=bP (bW P op e hs λv _ hs=>some (v,hs)) λv hs=>k v e hs:=by
     intro k;rw[<-JO,ao2 hst]
    have hv:∀{k:aZ->HS->Y_},bA (gL (Dn P) ⟨some d,some (s,w),op,[]⟩ ⟨e,hs⟩) (λst=>k st.env st.hs)=bP (bW P op e hs λv _ hs=>some (v,hs)) λv hs=>k (put e d (firm v)) hs:=by
     intro k;rw[<-he (k:=λv e hs=>k (put e d (firm v)) hs)];simp only[gL,gK,cT]
     cases dn op (Dn P) ⟨e,hs⟩<;>rfl
    simp only[cZ]
    cases get e s with
    |none=>rfl
    |some g =>
     cases g with
     |d x=>cases x with
      |bool b =>
       simp only[gH]
       cases hb:(b == w)<;>simp_all [bA,bP,adb,cT]
      |_=>rfl
     |tup vs=>cases vs<;>rfl
     |_=>rfl
   .rfl
theorem abg:∀{l:S_}{e:aZ}{hs:HS},lx (Dn P) l ⟨e,hs⟩=qe P l e hs
 |[],_,_=>rfl
 |i::l,e,hs=>by
  simp only[lx,qe,J9,bA]
  cases cZ (Dn P) i ⟨e,hs⟩ with
  |none=>rfl
  |some st=>exact abg
def FY {d:Bool}{ops:S_}{e:aZ}{hs:HS}{x:Y_}(h:qe P ops e hs=x):(Dn P).code (.reg d ops) ⟨e,hs⟩=fH x:=by
 grind [Xg,abg]
def an7 {perm gco:C_}{ops:S_}{e:aZ}{hs:HS}{x:Y_}(ha:tE e ops=true)(hb:(perm.all λi=>decide (i<ops.length))=true)(h:qe P (perm.filterMap λi=>ops[i]?) e hs=x):(Dn P).code (.regP perm gco [] ops) ⟨e,hs⟩=fH x:=by
 grind [aqJ,aeg,abg]
def azW (e:aZ)(d:I_):Bool :=
 match d with
 |some d=>match get e d with
  |some a=>Lg a
  |none=>false
 |none=>false
def auR (P:Nat->Z_)(F:C_)(v:VI)(e:aZ)(hs:HS)(k:aZ->HS->Y_):Y_ :=
 match ua v.op with
 |.call=>Wn P v e hs λe2 s2=>dU (dR F hs.heap s2.heap) (k e2 s2)
 |.take=>Wn P v e hs λe2 s2=>dU (azW e2 v.dst) (k e2 s2)
 |.read=>Wn P v e ⟨ed (oN v e) hs.heap,hs.next⟩ λe2 _=>k e2 hs
def aay (P:Nat->Z_):List (Bool×VI)->C_->aZ->HS->Y_
 |[],_,e,hs=>some ⟨e,hs⟩
 |(a,v)::l,F,e,hs=>match a with
  |false=>Wn P v e hs λe2 s2=>aay P l F e2 s2
  |true=>auR P F v e hs λe2 s2=>aay P l (ku true v e F) e2 s2
def awE {F:C_}{v:VI}{e:aZ}{hs:HS}{k:aZ->HS->Y_}:auR P F v e hs k=bA (xf (Dn P) F v ⟨e,hs⟩) λst=>k st.env st.hs:=by
 unfold auR xf
 cases ua v.op with
 |call =>
  simp only[J9]
  cases cZ (Dn P) v ⟨e,hs⟩ with
  |none=>rfl
  |some st =>
   simp only[bA]
   cases dR F hs.heap st.hs.heap<;>rfl
 |take =>
  simp only[J9]
  cases cZ (Dn P) v ⟨e,hs⟩ with
  |none=>rfl
  |some st =>
   simp only[bA,azW]
   cases v.dst with
   |none=>rfl
   |some d =>
    simp only
    cases get st.env d with
    |none=>rfl
    |some a=>simp only;cases Lg a<;>rfl
 |read =>
  simp only[J9]
  cases cZ (Dn P) v ⟨e,⟨ed (oN v e) hs.heap,hs.next⟩⟩<;>rfl
def afT (nr:C_)(ops:S_)(i:Nat):Option (Bool×VI) :=
 match ops[i]? with
 |some v=>some (fo i nr,v)
 |none=>none
def XO {nr:C_}{ops:S_}:∀{l:C_}{F:C_}{e:aZ}{hs:HS},(l.all λi=>decide (i<ops.length))=true->f9 (Dn P) nr ops l F ⟨e,hs⟩=aay P (l.filterMap (afT nr ops)) F e hs
 |[],_,_,_,_=>rfl
 |i::l,F,e,hs,hb=>by
  simp only[ij,af,decide_eq_true_eq]at hb;have h1:ops[i]?=some ops[i]:=bC hb.1;have h2:afT nr ops i=some (fo i nr,ops[i]):=by grind [afT]
  simp only[f9,h1,List.filterMap_cons,h2,aay,cu]
  cases fo i nr with
  |false =>
   simp only[J9,ku]
   cases cZ (Dn P) ops[i] ⟨e,hs⟩ with
   |none=>rfl
   |some st=>exact XO hb.2
  |true =>
   simp only[awE]
   cases xf (Dn P) F ops[i] ⟨e,hs⟩ with
   |none=>rfl
   |some st=>exact XO hb.2
def d9 {perm gco nr:C_}{ops:S_}{e:aZ}{hs:HS}{x:Y_}(ha:tE e ops=true)(hb:(perm.all λi=>decide (i<ops.length))=true)(h:aay P (perm.filterMap (afT nr ops)) [] e hs=x):(Dn P).code (.regP perm gco nr ops) ⟨e,hs⟩=fH x:=by
 rw[jq,<-h,<-XO hb];simp only[df,NA,NJ,ha]
 cases f9 (Dn P) nr ops perm [] ⟨e,hs⟩<;>rfl
abbrev F (i:Nat):VC:=.reg false [⟨none,none,.free i,[]⟩]
def frK (e:aZ)(hs:HS)(i:Nat):M_->J_
 |some (.ptr id _)=>some (.normal,⟨del e i,⟨del hs.heap id,hs.next⟩⟩)
 |some (.fn _ _ caps)=>some (.normal,⟨del e i,⟨delAll hs.heap (Iw caps),hs.next⟩⟩)
 |_=>some (.normal,⟨e,hs⟩)
def aDl {e:aZ}{h:am}{n i id o:Nat}:frK e ⟨h,n⟩ i (some (.ptr id o))=some (.normal,⟨del e i,⟨del h id,n⟩⟩):=rfl
def aCj {e:aZ}{h:am}{n i f:Nat}{a c:D_}:frK e ⟨h,n⟩ i (some (.fn f a c))=some (.normal,⟨del e i,⟨delAll h (Iw c),n⟩⟩):=rfl
def aA3 {i:Nat}{e:aZ}{hs:HS}:(Dn P).code (F i) ⟨e,hs⟩=frK e hs i (get e i):=by
 rw[Xg];simp only[lx,cZ,gL,dn,Yl]
 cases get e i with
 |none=>rfl
 |some v=>cases v<;>rfl
abbrev K (l:C_):VC:=.reg false [⟨none,none,.kill l,[]⟩]
def aAp {is:C_}{e:aZ}{hs:HS}:(Dn P).code (K is) ⟨e,hs⟩=some (.normal,⟨is.foldl del e,hs⟩):=by rw[Xg];rfl
abbrev kx:=@Nat.two_pow_add_eq_or_of_lt
variable {P:Nat->Z_}
attribute [simp ↓] azg azN aA0 aBp aA2 aAq aBB aBi aAI aAN aAW azl aBh aAB aBC azY aBv aBs NB ayg ay7 axm axN ays
attribute [simp ↓] ap8 aq8 auM anU arR att aoz aAp aA3 aDl aCj axg axE arB
attribute [simp] delAll Iw
attribute [simp] aFT azo aFB put1 aFq aAs
attribute [congr] ite_congr awF ay2 avo awO aw9 auW
def Pk (x:Option (D_×St)):X_ :=
 match x with
 |some ([v],st)=>some (v,st.hs)
 |some (vs,st)=>some (.tup vs,st.hs)
 |none=>none
def aAO {fn:al}{st:St}:Hm fn st=Pk (gg st fn.results):=(by
 simp only[Hm,Pk]
 cases gg st fn.results with
 |none=>rfl
 |some q =>
  obtain⟨vs,s⟩:=q
  cases vs with
  |nil=>rfl
  |cons v r=>cases r<;>rfl)
@[simp] def aIA {st:St}:Pk (some ([],st))=some (.tup [],st.hs):=(rfl)
@[simp] def aI8 {v:AV}{st:St}:Pk (some ([v],st))=some (v,st.hs):=(rfl)
@[simp] def aIq {v w:AV}{r:D_}{st:St}:Pk (some (v::w::r,st))=some (.tup (v::w::r),st.hs):=(rfl)
def wS (rs:AH_)(x:J_):X_ :=
 match x with
 |some (.normal,st)=>Pk (gg st rs)
 |some (.ret,st)=>Pk (gg st rs)
 |_=>none
@[simp ↓] def aI2 {rs:AH_}{st:St}:wS rs (some (.normal,st))=Pk (gg st rs):=(rfl)
@[simp ↓] def aIZ {rs:AH_}{st:St}:wS rs (some (.ret,st))=Pk (gg st rs):=(rfl)
@[simp ↓] def aIC {rs:AH_}{c:Prop}[Decidable c]{x y:J_}:wS rs (if c then x else y)=if c then wS rs x else wS rs y:=by split<;>rfl
@[simp ↓] def amK {n:Nat}{rs:AH_}{b:VC}{x:J_}:Wy ⟨n,rs,b⟩ x=wS rs x:=by
 simp only[Wy,wS];split<;>simp only[aAO]
def axr {rs:AH_}{x y:J_}(h:x=y):wS rs x=wS rs y:=by rw[h]
attribute [congr] axr
theorem ah {a b:VC}{st:St}(h:a=b):(Dn P).code (.loop a) st=rV P a ((Dn P).code b st):=by rw[<-h];exact aqc
def aG {f:FuncId}{fn:al}{n:Nat}{rs:AH_}{b:VC}{args:D_}(hf:P f=some fn)(hd:fn=⟨n,rs,b⟩)(hl:args.length=n):bq P f args=tZ (wS rs ((Dn P).code b ⟨kM 0 args,⟨[],0⟩⟩)):=by
 subst hd;rw[atd hf hl,amK]
def be {f:FuncId}{fn:al}{n:Nat}{rs:AH_}{b:VC}{args:D_}{hs:HS}(hf:P f=some fn)(hd:fn=⟨n,rs,b⟩)(hl:args.length=n):(Dn P).call f args hs=wS rs ((Dn P).code b ⟨kM 0 args,hs⟩):=by
 subst hd;rw[adm hf hl,amK]
@[simp ↓] def aJ8 {α β:Type}{v:α}{f:α->Option β}:bA (some v) f=f v:=(rfl)
@[simp ↓] def aKh {α β:Type}{f:α->Option β}:bA none f=none:=(rfl)
@[simp ↓] def aKc {α β:Type}{c:Prop}[Decidable c]{x y:Option α}{f:α->Option β}:bA (if c then x else y) f=if c then bA x f else bA y f:=by split<;>rfl
@[simp ↓] def aJ6 {α γ β:Type}{v:α}{w:γ}{f:α->γ->Option β}:bP (some (v,w)) f=f v w:=(rfl)
@[simp ↓] def aKi {α γ β:Type}{f:α->γ->Option β}:bP none f=none:=(rfl)
@[simp ↓] def aKf {α γ β:Type}{c:Prop}[Decidable c]{x y:Option (α×γ)}{f:α->γ->Option β}:bP (if c then x else y) f=if c then bP x f else bP y f:=by split<;>rfl
@[simp ↓] def aKk {α β:Type}{x:α}{f:α->β}:lA x f=f x:=(rfl)
@[simp ↓] def aKg {α γ β:Type}{x:α}{y:γ}{f:α->γ->β}:lP (x,y) f=f x y:=(rfl)
@[simp ↓] def aJ1 {β:Type}{x:Option β}:dU true x=x:=(rfl)
@[simp ↓] def aJu {β:Type}{x:Option β}:dU false x=none:=(rfl)
def aDk {α β:Type}{x y:Option α}{f:α->Option β}(h:x=y):bA x f=bA y f:=by rw[h]
def aDJ {α γ β:Type}{x y:Option (α×γ)}{f:α->γ->Option β}(h:x=y):bP x f=bP y f:=by rw[h]
def aCJ {α β:Type}{x y:α}{f:α->β}(h:x=y):lA x f=lA y f:=by rw[h]
def aCP {α γ β:Type}{x y:α×γ}{f:α->γ->β}(h:x=y):lP x f=lP y f:=by rw[h]
attribute [congr] aDk aDJ aCJ aCP
@[simp ↓] def aJY {x:M_}:gV (B_ true) true x=x:=(rfl)
@[simp ↓] def aJE {x:M_}:gV (B_ false) false x=x:=(rfl)
@[simp ↓] def aJG {x:M_}:gV (B_ true) false x=some (.tup []):=(rfl)
@[simp ↓] def aJM {x:M_}:gV (B_ false) true x=some (.tup []):=(rfl)
@[simp ↓] def aJ7 {w:Bool}{x:M_}:gV (.tup []) w x=some (.tup []):=(rfl)
@[simp ↓] def aJF {hs:HS}{x:X_}:gH (B_ true) true hs x=x:=(rfl)
@[simp ↓] def aJr {hs:HS}{x:X_}:gH (B_ false) false hs x=x:=(rfl)
@[simp ↓] def aJp {hs:HS}{x:X_}:gH (B_ true) false hs x=some (.tup [],hs):=(rfl)
@[simp ↓] def aJX {hs:HS}{x:X_}:gH (B_ false) true hs x=some (.tup [],hs):=(rfl)
@[simp ↓] def aHN {a b:AV}:Up (B_ true) a b=some a:=(rfl)
@[simp ↓] def aH0 {a b:AV}:Up (B_ false) a b=some b:=(rfl)
@[simp] def aIg {x:D}:firm (.d x)=.d x:=(rfl)
@[simp] def aHD:firm .nl=.nl:=(rfl)
@[simp] def aFi {p:Bool}{m:Nat}{xs:E_}:firm (.own p m xs)=.own false m xs:=(rfl)
@[simp] def aGq {cs:D_}:firm (.agg cs)=.agg (cs.map mW):=(rfl)
@[simp] def aGS {cs:D_}:firm (.tup cs)=.tup (cs.map Cq):=(rfl)
@[simp] def aG0 {a b:Nat}:firm (.ptr a b)=.ptr a b:=(rfl)
@[simp] def aFe {a b c:Nat}:firm (.pel a b c)=.pel a b c:=(rfl)
@[simp] def aFN {a:W_}{b:Nat}:firm (.pim a b)=.pim a b:=(rfl)
@[simp] def aHU {a b c:Nat}:firm (.sl a b c)=.sl a b c:=(rfl)
@[simp] def aHd {f:FuncId}{a b:D_}:firm (.fn f a b)=.fn f a b:=(rfl)
@[simp] def aDP {n:Nat}:firm (.yield n)=.yield n:=(rfl)
def sK {op:BinOp}{a b:AV}{x:D}(h:dL op a b=some (.d x)):fe op a b=some x:=by simp only[fe,h]
def DX {op:BinOp}{a b:AV}{c:Prop}[Decidable c]{x y:D}(h:dL op a b=if c then some (.d x) else some (.d y)):fe op a b=if c then some x else some y:=by
 by_cases hc:c<;>simp[fe,h,hc]
@[simp] def aJc {k:IntKind}{a b:Int}:fe .add (.d (.int k a)) (.d (.int k b))=some (.int k (wr k (a+b))):=sK ayq
@[simp] def aI6 {k:IntKind}{a b:Int}:fe .sub (.d (.int k a)) (.d (.int k b))=some (.int k (wr k (a-b))):=sK axB
@[simp] def aIU {k:IntKind}{a b:Int}:fe .mul (.d (.int k a)) (.d (.int k b))=some (.int k (wr k (a*b))):=sK axM
@[simp] def aID {k:IntKind}{a b:Int}(h:b≠0):fe .quo (.d (.int k a)) (.d (.int k b))=some (.int k (wr k (a.tdiv b))):=sK (ayt h)
@[simp] def aJi {k:IntKind}{a b:Int}(h:b≠0):fe .rem (.d (.int k a)) (.d (.int k b))=some (.int k (a.tmod b)):=sK (ayL h)
@[simp] def aIX {k:IntKind}{a b:Int}:fe .eql (.d (.int k a)) (.d (.int k b))=if a=b then some (.bool true) else some (.bool false):=DX ayc
@[simp] def aIl {k:IntKind}{a b:Int}:fe .neq (.d (.int k a)) (.d (.int k b))=if a=b then some (.bool false) else some (.bool true):=DX axO
@[simp] def aJf {k:IntKind}{a b:Int}:fe .lss (.d (.int k a)) (.d (.int k b))=if a<b then some (.bool true) else some (.bool false):=DX aw0
@[simp] def aI0 {k:IntKind}{a b:Int}:fe .leq (.d (.int k a)) (.d (.int k b))=if a<=b then some (.bool true) else some (.bool false):=DX ax7
@[simp] def aIT {k:IntKind}{a b:Int}:fe .gtr (.d (.int k a)) (.d (.int k b))=if b<a then some (.bool true) else some (.bool false):=DX axd
@[simp] def aIG {k:IntKind}{a b:Int}:fe .geq (.d (.int k a)) (.d (.int k b))=if b<=a then some (.bool true) else some (.bool false):=DX ay9
@[simp] def sY {k j:IntKind}{a b:Int}(h:0<=b):fe .shl (.d (.int k a)) (.d (.int j b))=some (.int k (wr k (a*((2 ^ (min b.toNat k.bits):Nat):Int)))):=sK (axj h)
@[simp] def jH {k j:IntKind}{a b:Int}(h:0<=b):fe .shr (.d (.int k a)) (.d (.int j b))=some (.int k (a.fdiv ((2 ^ (min b.toNat k.bits):Nat):Int))):=sK (ayX h)
@[simp] def aH2 {a b:BC_}:fe .eql (.d (.str a)) (.d (.str b))=if a=b then some (.bool true) else some (.bool false):=DX auj
def aoX {k:IntKind}{a b:Nat}(h:a<jM k)(h2:b<jM k)(h3:a |||b<jM k):fe .or (.d (.int k (a:Int))) (.d (.int k (b:Int)))=some (.int k ((a |||b:Nat):Int)):=sK (aBA h h2 h3)
def agr {k:IntKind}{a b:Nat}(h:a<jM k)(h2:b<jM k):fe .and (.d (.int k (a:Int))) (.d (.int k (b:Int)))=some (.int k ((a &&& b:Nat):Int)):=sK (axS h h2)
def ap2 {k:IntKind}{a b:Nat}(h:a<jM k)(h2:b<jM k)(h3:a ^^^ b<jM k):fe .xor (.d (.int k (a:Int))) (.d (.int k (b:Int)))=some (.int k ((a ^^^ b:Nat):Int)):=sK (ax2 h h2 h3)
def apO {n b:Nat}(h:b<=1):2*n |||b=2*n+b:=by
 have:=kx (i:=1) (b:=b) o_ n;simpa using this.symm
@[simp] def aJd {a b:Int}(h:0<=a)(h1:a<4611686018427387904)(h2:a % 2=0)(h3:0<=b)(h4:b<=1):fe .or (A_ a) (A_ b)=some (.int .i64 (a+b)):=by
 obtain⟨n,rfl⟩:∃n:Nat,a=((2*n:Nat):Int):=⟨(a / 2).toNat,o_⟩
 obtain⟨m,rfl⟩:=aA h3;have hm:m<=1:=o_;have ht:jM .i64=9223372036854775808:=rfl;rw[aoX o_ o_ (by rw[apO hm];omega),apO hm];simp
@[simp] def aHE {b:Bool}:unD .not (B_ b)=some (.bool !b):=(rfl)
@[simp] def aHi {k:IntKind}{n:Int}:unD .neg (.d (.int k n))=some (.int k (wr k (0-n))):=(rfl)
@[simp] def aHB {k j:IntKind}{n:Int}:Yh k (.d (.int j n))=some (.int k (wr k n)):=(rfl)
attribute [simp] ah2 aDz aAM aBy aAf
attribute [simp] auX auI asw apZ IntKind.bits
@[simp] def aHa {h:am}{m:Nat}{xs:E_}{k:IntKind}{i:Int}(h0:0<=i):ZM h m (.d (.lst xs)) (.d (.int k i))=bA xs[i.toNat]? λx=>if x.length=m then some (.pim x 0) else none:=by
 simp only[ZM,Us h0,elems]
 cases xs[i.toNat]? with
 |none=>rfl
 |some x =>
  simp only[bA];by_cases hx:x.length=m
  .simp[hx]
  .simp[hx,ac2]
@[simp] def aIi {h:am}{m j:Nat}{xs:E_}{k:IntKind}{i:Int}(h0:0<=i):ZM h m (.own false j xs) (.d (.int k i))=bA xs[i.toNat]? λx=>if x.length=m then some (.pim x 0) else none:=by
 simp only[ZM,Us h0,elems]
 cases xs[i.toNat]? with
 |none=>rfl
 |some x =>
  simp only[bA];by_cases hx:x.length=m
  .simp[hx]
  .simp[hx,ac2]
attribute [simp] JG atq ap5
@[simp] def aH1 {h:am}{n:I_}{cs:W_}{o:Nat}:ft h n (.pim cs o)=oS n cs o:=by
 simp only[ft,loadAt];cases oS n cs o<;>rfl
@[simp] def aGV {cs:W_}{o:Nat}:oS none cs o=(cs[o]?).map .d:=by simp only[oS];cases cs[o]?<;>rfl
@[simp] def aFx {cs:W_}{n o:Nat}:oS (some n) cs o=if o+n<=cs.length then some (.agg ((sub cs o n).map .d)) else none:=by
 by_cases h:o+n<=cs.length<;>simp[oS,abH,h]
@[simp] def gq0 {α:Type}{x:α}{r:List α}:(x::r)[0]?=some x:=(rfl)
@[simp] def aGR {f:FuncId}{vs:D_}{h:am}:fw (Dn P) f vs h=bA (viewArgs h vs) λds=>bA (bq P f ds) λv=>if vs.any rE=false then some v else if kb v=true then some v else some (Cg v):=by
 simp only[fw,bq,tZ,bA]
 cases viewArgs h vs with
 |none=>rfl
 |some ds =>
  simp only
  cases (Dn P).call f ds ⟨[],0⟩ with
  |none=>rfl
  |some q =>
   obtain⟨v,h2⟩:=q;simp only
   cases iu h2.heap v with
   |none=>rfl
   |some v =>
    simp only
    cases vs.any rE with
    |false=>rfl
    |true=>simp only;cases kb v<;>rfl
@[simp] def aHw {x:D}:share (.d x)=.d x:=(rfl)
@[simp] def aGL  : share (.nl)=.nl:=(rfl)
@[simp] def aCd {m:Nat}{xs:E_}:share (.own false m xs)=.d (.lst xs):=(rfl)
@[simp] def aE6 {cs:D_}:share (.agg cs)=.agg (shareAll cs):=(rfl)
@[simp] def aEa {cs:D_}:share (.tup cs)=.tup (shareAll cs):=(rfl)
@[simp] def aEC {a b:Nat}:share (.ptr a b)=.ptr a b:=(rfl)
@[simp] def aEg {a b c:Nat}:share (.pel a b c)=.pel a b c:=(rfl)
@[simp] def aEW {cs:W_}{b:Nat}:share (.pim cs b)=.pim cs b:=(rfl)
@[simp] def aFd {a b c:Nat}:share (.sl a b c)=.sl a b c:=(rfl)
@[simp] def aFQ {f:FuncId}{a b:D_}:share (.fn f a b)=.fn f a b:=(rfl)
@[simp] def aB4 {n:Nat}:share (.yield n)=.yield n:=(rfl)
@[simp] def aDi  : shareAll []=[]:=(rfl)
@[simp] def aC3 {v:AV}{r:D_}:shareAll (v::r)=share v::shareAll r:=(by rw[qi])
@[simp] def aHg {x:D}:mW (.d x)=.d x:=(rfl)
@[simp] def aHJ {x:D}:Cq (.d x)=.d x:=(rfl)
@[simp] def aHW {x:D}:AV.cells (.d x)=[.d x]:=(rfl)
@[simp] def aFP {x:D}:bl (.d x)=true:=(rfl)
@[simp] def aFg {x:D}:F6 (.d x)=bl (.d x):=(rfl)
@[simp] def aI4 {x:D}:ud (.d x)=false:=(rfl)
@[simp] def aHv {x:D}:rE (.d x)=false:=(rfl)
@[simp] def aG9 {x:D}:nS (.d x)=.d x:=(rfl)
@[simp] def aGU {x:D}:qo (.d x)=.d x:=(rfl)
@[simp] def aFr {x:D}:qr (.d x)=.d x:=(rfl)
@[simp] def aFY  : mW (.nl)=.nl:=(rfl)
@[simp] def aFF  : Cq (.nl)=.nl:=(rfl)
@[simp] def aGE  : AV.cells (.nl)=[.nl]:=(rfl)
@[simp] def aEQ  : bl (.nl)=true:=(rfl)
@[simp] def aHn  : ud (.nl)=false:=(rfl)
@[simp] def aFm  : rE (.nl)=false:=(rfl)
@[simp] def aEV  : jG (.nl)=true:=(rfl)
@[simp] def aEY  : lR (.nl)=true:=(rfl)
@[simp] def aEm  : kb (.nl)=true:=(rfl)
@[simp] def aD4  : nS (.nl)=.nl:=(rfl)
@[simp] def aE4  : qo (.nl)=.nl:=(rfl)
@[simp] def aE7  : qr (.nl)=.nl:=(rfl)
@[simp] def aET {p:Bool}{m:Nat}{xs:E_}:mW (.own p m xs)=.own false m xs:=(rfl)
@[simp] def aEL {p:Bool}{m:Nat}{xs:E_}:Cq (.own p m xs)=.own false m xs:=(rfl)
@[simp] def aES {p:Bool}{m:Nat}{xs:E_}:AV.cells (.own p m xs)=[.own p m xs]:=(rfl)
@[simp] def aCH {p:Bool}{m:Nat}{xs:E_}:bl (.own p m xs)=!p:=(rfl)
@[simp] def aFC {p:Bool}{m:Nat}{xs:E_}:ud (.own p m xs)=false:=(rfl)
@[simp] def aEJ {p:Bool}{m:Nat}{xs:E_}:rE (.own p m xs)=false:=(rfl)
@[simp] def aEP {cs:D_}:Cq (.agg cs)=.agg (cs.map mW):=(rfl)
@[simp] def aEH {cs:D_}:AV.cells (.agg cs)=cs:=(rfl)
@[simp] def aEs {cs:D_}:rE (.agg cs)=cs.any ud:=(rfl)
@[simp] def aE2 {cs:D_}:AV.cells (.tup cs)=[.tup cs]:=(rfl)
@[simp] def aEI {a b:Nat}:AV.cells (.ptr a b)=[.ptr a b]:=(rfl)
@[simp] def aCB {a b:Nat}:bl (.ptr a b)=true:=(rfl)
@[simp] def aD6 {a b:Nat}:Gd (.ptr a b)=some (.ptr a b):=(rfl)
@[simp] def aG1 {a b c:Nat}:mW (.sl a b c)=.sl a b c:=(rfl)
@[simp] def aFh {a b c:Nat}:Cq (.sl a b c)=.sl a b c:=(rfl)
@[simp] def aGz {a b c:Nat}:AV.cells (.sl a b c)=[.sl a b c]:=(rfl)
@[simp] def aD2 {a b c:Nat}:F6 (.sl a b c)=bl (.sl a b c):=(rfl)
@[simp] def aHy {a b c:Nat}:ud (.sl a b c)=true:=(rfl)
@[simp] def aGY {a b c:Nat}:rE (.sl a b c)=true:=(rfl)
@[simp] def aGv {f:FuncId}{a b:D_}:AV.cells (.fn f a b)=[.fn f a b]:=(rfl)
@[simp] def aEA {xs:E_}:lenOf (.d (.lst xs))=some xs.length:=(rfl)
@[simp] def aGj  : lenOf .nl=some 0:=(rfl)
@[simp] def aEj {p:Bool}{m:Nat}{xs:E_}:lenOf (.own p m xs)=some xs.length:=(rfl)
@[simp] def aF4 {a b n:Nat}:lenOf (.sl a b n)=some n:=(rfl)
@[simp] def aqP {h:am}{xs:E_}:elems h (.d (.lst xs))=some xs:=(rfl)
@[simp] def aEk {h:am}{m:Nat}{xs:E_}:elems h (.own false m xs)=some xs:=(rfl)
@[simp] def aDG {o a b:Nat}:iQ o (.ptr a b)=some (.ptr a (b+o)):=(rfl)
@[simp] def aDD {o b:Nat}{cs:W_}:iQ o (.pim cs b)=some (.pim cs (b+o)):=(rfl)
@[simp] def aIp {cs:D_}{i:Nat}:AP true (.tup cs) i=cs[i]?:=(by simp only[AP];cases cs[i]?<;>rfl)
@[simp] def aI9 {cs:D_}{i:Nat}:AP false (.tup cs) i=(cs[i]?).map share:=(by simp only[AP];cases cs[i]?<;>rfl)
@[simp] def aIx {cs:D_}{i:Nat}:PB (.tup cs) i=.tup (cs.set i .junk):=(rfl)
@[simp] def aJ2 {x:D}:toD (.d x)=some x:=(rfl)
@[simp] def aJk  : toD .nl=some (.lst []):=(rfl)
@[simp] def aH4 {m:Nat}{xs:E_}:toD (.own false m xs)=some (.lst xs):=(rfl)
@[simp] def aIL  : mO []=some []:=(rfl)
@[simp] def aJl {v:AV}{r:D_}:mO (v::r)=bA (toD v) λx=>bA (mO r) λxs=>some (x::xs):=(by
 simp only[mO]
 cases toD v with
 |none=>rfl
 |some q=>simp only[bA];cases mO r<;>rfl)
@[simp] def aD5 {m:Nat}:j8 m []=some []:=(rfl)
@[simp] def aEG {m:Nat}{v:AV}{r:D_}:j8 m (v::r)=if v.cells.length=m then bA (mO v.cells) λx=>bA (j8 m r) λxs=>some (x::xs) else none:=(by
 by_cases h:v.cells.length=m
 .simp only[j8,ac2,h,decide_true,bj]
  cases mO v.cells with
  |none=>rfl
  |some q=>simp only[bA];cases j8 m r<;>rfl
 .simp only[j8,ac2,h,decide_false,bm])
@[simp] def aB1 {cs:D_}:eQ cs []=some cs:=(rfl)
@[simp] def aB5 {cs:D_}{o n:Nat}{v:AV}{r:List (Nat×Nat×AV)}:eQ cs ((o,n,v)::r)=if v.cells.length=n∧F6 v=true∧o+n<=cs.length then eQ (aH cs o v.cells) r else none:=(by
 simp only[eQ,ac2,abH];by_cases h:v.cells.length=n<;>by_cases h2:F6 v=true<;>by_cases h3:o+n<=cs.length<;>simp[h,h2,h3])
def OP {α:Type}{cs vs:List α}{o:Nat}:aH cs o vs=cs.take o++vs++cs.drop (o+vs.length):=(rfl)
attribute [simp] OP
def anl {α:Type}{cs:List α}{o n:Nat}:sub cs o n=(cs.drop o).take n:=(rfl)
attribute [simp] anl
@[simp] def aD9 {h:am}{x:D}:viewOne h (.d x)=some (.d x):=(rfl)
@[simp] def aDv {h:am}:viewOne h .nl=some .nl:=(rfl)
@[simp] def aB0 {h:am}{m:Nat}{xs:E_}:viewOne h (.own false m xs)=some (.d (.lst xs)):=(rfl)
@[simp] def aC4 {h:am}{a b c:Nat}:viewOne h (.sl a b c)=bA (elems h (.sl a b c)) λxs=>some (.d (.lst xs)):=(by simp only[viewOne];cases elems h (.sl a b c)<;>rfl)
@[simp] def aD1 {h:am}:viewAll h []=some []:=(rfl)
@[simp] def aEu {h:am}{v:AV}{r:D_}:viewAll h (v::r)=bA (viewOne h v) λx=>bA (viewAll h r) λxs=>some (x::xs):=(by
 simp only[viewAll]
 cases viewOne h v with
 |none=>rfl
 |some q=>simp only[bA];cases viewAll h r<;>rfl)
@[simp] def aEE {h:am}{x:D}:viewArg h (.d x)=viewOne h (.d x):=(rfl)
@[simp] def aCp {h:am}  : viewArg h (.nl)=viewOne h (.nl):=(rfl)
@[simp] def aBX {h:am}{p:Bool}{m:Nat}{xs:E_}:viewArg h (.own p m xs)=viewOne h (.own p m xs):=(rfl)
@[simp] def aBR {h:am}{cs:D_}:viewArg h (.agg cs)=bA (viewAll h cs) λxs=>some (.agg xs):=(by simp only[viewArg];cases viewAll h cs<;>rfl)
@[simp] def aDZ {h:am}{a b c:Nat}:viewArg h (.sl a b c)=viewOne h (.sl a b c):=(rfl)
@[simp] def aCZ {h:am}:viewArgs h []=some []:=(rfl)
@[simp] def aDn {h:am}{v:AV}{r:D_}:viewArgs h (v::r)=bA (viewArg h v) λx=>bA (viewArgs h r) λxs=>some (x::xs):=(by
 simp only[viewArgs]
 cases viewArg h v with
 |none=>rfl
 |some q=>simp only[bA];cases viewArgs h r<;>rfl)
@[simp] def aGN {h:am}{x:D}:kj h (.d x)=some (.d x,h):=(rfl)
@[simp] def aEy {h:am}:kj h .nl=some (.nl,h):=(rfl)
@[simp] def aDw {h:am}{p:Bool}{m:Nat}{xs:E_}:kj h (.own p m xs)=some (.own p m xs,h):=(rfl)
@[simp] def aGD {h:am}:sv h []=some ([],h):=(rfl)
@[simp] def aGh {h:am}{v:AV}{r:D_}:sv h (v::r)=bP (kj h v) λx h=>bP (sv h r) λxs h=>some (x::xs,h):=(by simp only[sv];cases kj h v with
 |none=>rfl
 |some q=>simp only[bP];cases sv q.2 r<;>rfl)
@[simp] def aCl {h:am}{cs:D_}:gz h (.agg cs)=bP (sv h cs) λxs h=>some (.agg xs,h):=(by simp only[gz];cases sv h cs<;>rfl)
@[simp] def aGG {h:am}{x:D}:gz h (.d x)=kj h (.d x):=(rfl)
@[simp] def aEN {h:am}  : gz h (.nl)=kj h (.nl):=(rfl)
@[simp] def aCD {h:am}{p:Bool}{m:Nat}{xs:E_}:gz h (.own p m xs)=kj h (.own p m xs):=(rfl)
@[simp] def aD7 {h:am}{a b c:Nat}:gz h (.sl a b c)=kj h (.sl a b c):=(rfl)
@[simp] def aEx {h:am}:sS h []=some ([],h):=(rfl)
@[simp] def aEB {h:am}{v:AV}{r:D_}:sS h (v::r)=bP (gz h v) λx h=>bP (sS h r) λxs h=>some (x::xs,h):=(by simp only[sS];cases gz h v with
 |none=>rfl
 |some q=>simp only[bP];cases sS q.2 r<;>rfl)
@[simp] def aal {h:am}{cs:D_}:iu h (.tup cs)=bP (sS h cs) λxs _=>some (ji (.tup xs)):=(by simp only[iu];cases sS h cs<;>rfl)
@[simp] def aFa {h:am}{x:D}:iu h (.d x)=bP (gz h (.d x)) λx _=>some (ji x):=(by simp only[iu];cases gz h (.d x)<;>rfl)
@[simp] def aEt {h:am}  : iu h (.nl)=bP (gz h (.nl)) λx _=>some (ji x):=(by simp only[iu];cases gz h (.nl)<;>rfl)
@[simp] def aDK {h:am}{p:Bool}{m:Nat}{xs:E_}:iu h (.own p m xs)=bP (gz h (.own p m xs)) λx _=>some (ji x):=(by simp only[iu];cases gz h (.own p m xs)<;>rfl)
@[simp] def aDU {h:am}{cs:D_}:iu h (.agg cs)=bP (gz h (.agg cs)) λx _=>some (ji x):=(by simp only[iu];cases gz h (.agg cs)<;>rfl)
@[simp] def aEZ {h:am}{a b c:Nat}:iu h (.sl a b c)=bP (gz h (.sl a b c)) λx _=>some (ji x):=(by simp only[iu];cases gz h (.sl a b c)<;>rfl)
@[simp] def aEw {v:AV}:ji v=if kb v=true then qr v else v:=(by simp only[ji];cases kb v<;>rfl)
@[simp] def aGH {x:D}:jG (.d x)=mA x:=(rfl)
@[simp] def aC6 {p:Bool}{m:Nat}{xs:E_}:jG (.own p m xs)=xs.all λe=>e.all mA:=(rfl)
@[simp] def aEX {k:IntKind}{n:Int}:mA (.int k n)=true:=(rfl)
@[simp] def aDW {b:Bool}:mA (.bool b)=true:=(rfl)
@[simp] def aEo {xs:E_}:mA (.lst xs)=false:=(rfl)
@[simp] def aCh {cs:D_}:lR (.agg cs)=cs.all jG:=(rfl)
@[simp] def aGl {x:D}:lR (.d x)=mA x:=(rfl)
@[simp] def aDh {p:Bool}{m:Nat}{xs:E_}:lR (.own p m xs)=xs.all λe=>e.all mA:=(rfl)
@[simp] def aDF {cs:D_}:kb (.agg cs)=cs.all jG:=(rfl)
@[simp] def aFH {x:D}:kb (.d x)=mA x:=(rfl)
@[simp] def aCb {p:Bool}{m:Nat}{xs:E_}:kb (.own p m xs)=xs.all λe=>e.all mA:=(rfl)
@[simp] def aDT {cs:D_}:kb (.tup cs)=cs.all lR:=(rfl)
@[simp] def aCe {p:Bool}{m:Nat}{xs:E_}:nS (.own p m xs)=.own true m xs:=(rfl)
@[simp] def aCs {p:Bool}{m:Nat}{xs:E_}:qo (.own p m xs)=.own true m xs:=(rfl)
@[simp] def aDX {p:Bool}{m:Nat}{xs:E_}:qr (.own p m xs)=.own true m xs:=(rfl)
@[simp] def aCi {cs:D_}:qo (.agg cs)=.agg (cs.map nS):=(rfl)
@[simp] def aDc {cs:D_}:qr (.agg cs)=.agg (cs.map nS):=(rfl)
@[simp] def aCx {cs:D_}:qr (.tup cs)=.tup (cs.map qo):=(rfl)
@[simp] def aHj {i:Nat}:kM i []=[]:=(rfl)
@[simp] def aHf {i:Nat}{v:AV}{r:D_}:kM i (v::r)=(i,v)::kM (i+1) r:=by
 have h:∀(i:Nat) (r:D_),put (kM (i+1) r) i v=(i,v)::kM (i+1) r:=λi r=>by
  have:∃q,kM (i+1) r=q∧∀p∈q,Nat.blt i p.1=true:=⟨_,rfl,by
   have aux:∀(r:D_) (j:Nat),i<j->∀p∈kM j r,Nat.blt i p.1=true:=by
    intro r
    induction r with
    |nil=>intro j hj p hp;simp[kM]at hp
    |cons w r ih =>
     intro j hj p hp;simp only[kM]at hp;rcases abK hp with rfl|hp
     .rw[Nat.blt,bp];exact hj
     .exact ih (j+1) o_ p hp
   exact aux r (i+1) o_⟩
  obtain⟨q,hq,hp⟩:=this;rw[hq]
  cases q with
  |nil=>rfl
  |cons p q =>
   obtain⟨k,u⟩:=p;have hk:i<k:=by have:=hp _ (.head _);rw[Nat.blt,bp]at this;exact this
   rw[xE,aa o_,ac o_]
 exact h i r
@[simp] def aEn {st:St}:gg st []=some ([],st):=(rfl)
def as8 (x:M_)(t:Nat)(st:St)(r:AH_):Option (D_×St) :=
 match x with
 |some v=>bP (gg ⟨del st.env t,st.hs⟩ r) λvs st=>some (v::vs,st)
 |none=>none
@[simp] def aEi {t:Nat}{st:St}{r:AH_}:gg st (.tmp t::r)=as8 (get st.env t) t st r:=(by
 simp only[gg,as8]
 cases get st.env t with
 |none=>rfl
 |some v=>simp only;cases gg ⟨del st.env t,st.hs⟩ r<;>rfl)
@[simp] def aIK {v:AV}{t:Nat}{e:aZ}{hs:HS}{r:AH_}:as8 (some v) t ⟨e,hs⟩ r=bP (gg ⟨del e t,hs⟩ r) λvs st=>some (v::vs,st):=(rfl)
def at8 (x:M_)(t:Nat)(n:I_)(st:St)(r:AH_):Option (D_×St) :=
 match x with
 |some (.ptr id 0)=>bP (loadAt st.hs.heap n 1 (.ptr id 0)) λv h=>bP (gg ⟨del st.env t,⟨del h id,st.hs.next⟩⟩ r) λvs st=>some (v::vs,st)
 |_=>none
@[simp] def aEr {t:Nat}{n:I_}{st:St}{r:AH_}:gg st (.cell t n::r)=at8 (get st.env t) t n st r:=(by
 simp only[gg,at8]
 cases get st.env t with
 |none=>rfl
 |some v =>
  cases v<;>try rfl
  rename_i id off
  cases off with
  |succ k=>rfl
  |zero =>
   simp only
   cases loadAt st.hs.heap n 1 (.ptr id 0) with
   |none=>rfl
   |some q=>simp only[bP];cases gg _ r<;>rfl)
@[simp] def aIV {id t:Nat}{n:I_}{e:aZ}{hs:HS}{r:AH_}:at8 (some (.ptr id 0)) t n ⟨e,hs⟩ r=bP (loadAt hs.heap n 1 (.ptr id 0)) λv h=>bP (gg ⟨del e t,⟨del h id,hs.next⟩⟩ r) λvs st=>some (v::vs,st):=(rfl)
def aqB {l:G_}:((aI l).all λe=>e.all mA)=true:=by simp[aI]
def aq6 {l:C_}:((ai l).all λe=>e.all mA)=true:=by simp[ai]
def aps {l:V_}:((Un l).all λe=>e.all mA)=true:=by simp[Un]
attribute [simp] aqB aq6 aps
attribute [simp] aqa
attribute [simp] aAP aAL aBf azK
variable {P:Nat->Z_}{l:S_}{e:aZ}{h:am}{m d s:Nat}{op:pk}{hs:HS}{β:Type}{k:AV->aZ->HS->Option β}
abbrev V (d:Nat)(op:pk):VI:=⟨some d,none,op,[]⟩
abbrev N (op:pk):VI:=⟨none,none,op,[]⟩
abbrev W (s d:Nat)(op:pk):VI:=⟨some d,some (s,true),op,[]⟩
abbrev U (s d:Nat)(op:pk):VI:=⟨some d,some (s,false),op,[]⟩
def axp {e e2:aZ}{hs hs2:HS}(h:e=e2)(h2:hs=hs2):qe P l e hs=qe P l e2 hs2:=by rw[h,h2]
attribute [congr] axp
@[simp ↓ low] def aEv {i:VI}:(Dn P).code (.reg false (i::l)) ⟨e,hs⟩=fH (qe P (i::l) e hs):=FY rfl
@[simp ↓ low] def aD8 {i:VI}:(Dn P).code (.reg true (i::l)) ⟨e,hs⟩=fH (qe P (i::l) e hs):=FY rfl
@[simp] def aIe:qe P [] e hs=some ⟨e,hs⟩:=(rfl)
@[simp] def aIW:qe P (⟨some d,none,op,[]⟩::l) e hs=bW P op e hs λv e hs=>qe P l (put e d (firm v)) hs:=(rfl)
@[simp] def aH9:qe P (⟨none,none,op,[]⟩::l) e hs=bW P op e hs λ_ e hs=>qe P l e hs:=(rfl)
@[simp] def aI3 {t:Nat×Nat}{th:R_}:qe P (⟨some d,none,op,t::th⟩::l) e hs=bW P op e hs λv e hs=>lP (eC (t::th) v hs) λv hs=>qe P l (put e d (firm v)) hs:=(rfl)
def wK {β:Type}(a b:Bool)(x y z:Option β):Option β :=
 match a with
 |true=>x
 |false=>match b with
  |true=>y
  |false=>z
@[simp ↓] def aJ5 {b:Bool}{x y z:Option β}:wK true b x y z=x:=(rfl)
@[simp ↓] def aKd {x y z:Option β}:wK false true x y z=y:=(rfl)
@[simp ↓] def aJ9 {x y z:Option β}:wK false false x y z=z:=(rfl)
def aDL {a a2 b b2:Bool}{x y z:Option β}(h:a=a2)(h2:b=b2):wK a b x y z=wK a2 b2 x y z:=by rw[h,h2]
attribute [congr] aDL
@[simp] def aIF {w:Bool}:qe P (⟨some d,some (s,w),op,[]⟩::l) e hs=wK (dH op) (zE op)
  (bA (get e s) λg=>bA (gV g w (bW P op e hs λv _ _=>some v)) λv=>qe P l (put e d (firm v)) hs)
  (bA (get e s) λg=>bP (gH g w hs (bW P op e hs λv _ hs=>some (v,hs))) λv hs=>qe P l (put e d (firm v)) hs)
  (bA (cZ (Dn P) ⟨some d,some (s,w),op,[]⟩ ⟨e,hs⟩) λst=>qe P l st.env st.hs):=by
 simp only[qe,Wn,wK]
 cases dH op<;>cases zE op<;>(try rfl)<;>(cases get e s<;>rfl)
@[simp] def aJx {i:Nat}:bM (.s i)=true:=(rfl)
@[simp] def aJV {a:AV}:bM (.c a)=true:=(rfl)
@[simp] def aIR:iC []=true:=(rfl)
@[simp] def aIb {x:Rd}{r:U_}:iC (x::r)=(bM x && iC r):=(rfl)
@[simp] def aJI:Dr none=true:=(rfl)
@[simp] def aJn {x:Rd}:Dr (some x)=bM x:=(rfl)
@[simp] def aJb {x:Rd}:dH (.mov x)=bM x:=(rfl)
@[simp] def aJC {x:Rd}{n:I_}:dH (.ld n 0 x)=bM x:=(rfl)
@[simp] def aIr {x:Rd}:dH (.nilck x)=bM x:=(rfl)
@[simp] def aIE {x y:Rd}{o:BinOp}:dH (.bin o x y)=(bM x && bM y):=(rfl)
@[simp] def aH7 {x y:Rd}{o:Bool}:dH (.binb o x y)=(bM x && bM y):=(rfl)
@[simp] def aJK {x:Rd}{o:UnOp}:dH (.un o x)=bM x:=(rfl)
@[simp] def aHP {x:Rd}{o:IntKind}:dH (.conv o x)=bM x:=(rfl)
@[simp] def aJB {x:Rd}{o:Nat}:dH (.fa o x)=bM x:=(rfl)
@[simp] def aJ0 {x y:Rd}{o:Nat}:dH (.ia o x y)=(bM x && bM y):=(rfl)
@[simp] def aHu {x y:Rd}{o n:Nat}:dH (.iarr o n x y)=(bM x && bM y):=(rfl)
@[simp] def aIN {x:Rd}:dH (.len x)=bM x:=(rfl)
@[simp] def aHY {f:FuncId}{xs:U_}:dH (.call f xs)=iC xs:=(rfl)
@[simp] def aHV {c x y:Rd}:dH (.pick c x y)=(bM c && bM x && bM y):=(rfl)
@[simp] def aF1 {z:D_}{ps:AC_}:dH (.build z ps)=iC (qh ps):=(rfl)
@[simp] def aJg {x:Rd}:dH (.toStr x)=bM x:=(rfl)
@[simp] def aHF {f:FuncId}{xs ys:U_}:dH (.mkfn f xs ys)=(iC xs && iC ys):=(rfl)
@[simp] def aIw {m:Nat}{x:Rd}{a b c:AB_}:dH (.slice m x a b c)=(bM x && (Dr a && (Dr b && Dr c))):=(rfl)
@[simp] def aG3 {f:FuncId}{xs:U_}:dH (.calli f xs)=false:=(rfl)
@[simp] def aFO {x:Rd}{xs:U_}:dH (.callv x xs)=false:=(rfl)
@[simp] def aIu {n:Nat}{xs:U_}:dH (.mks n xs)=false:=(rfl)
@[simp] def aFv {f:FuncId}{xs:U_}:zE (.calli f xs)=iC xs:=(rfl)
@[simp] def aFK {x:Rd}{xs:U_}:zE (.callv x xs)=(bM x && iC xs):=(rfl)
@[simp] def aJj {n:Nat}{xs:U_}:zE (.mks n xs)=false:=(rfl)
attribute [simp] qh uB
def L6 {γ:Type}(c:Prop)[Decidable c](a b:γ):γ:=if c then a else b
def aw2 {γ:Type}{c d:Prop}[Decidable c][i:Decidable d]{a b:γ}(h:c=d):L6 c a b=@L6 γ d i a b:=by subst h;congr
attribute [congr] aw2
@[simp ↓] def aI7 {γ:Type}{i:Decidable True}{a b:γ}:@L6 γ True i a b=a:=by simp only[L6,bj]
@[simp ↓] def aIt {γ:Type}{i:Decidable False}{a b:γ}:@L6 γ False i a b=b:=by simp only[L6,bm]
@[simp high] def aKe {k i:Nat}{v:AV}{r:aZ}:get ((k,v)::r) i=L6 (k=i) (some v) (get r i):=azo
@[simp high] def aKa {k i:Nat}{v x:AV}{r:aZ}:put ((k,v)::r) i x=L6 (k=i) ((i,x)::r) (L6 (i<=k) ((i,x)::(k,v)::r) ((k,v)::put r i x)):=put1
@[simp high] def aJ3 {k i:Nat}{v:AV}{r:aZ}:del ((k,v)::r) i=L6 (k=i) (del r i) ((k,v)::del r i):=aAs
variable {f:AV->aZ->Option β}{x:Rd}
@[simp ↓] def aJt {i:Nat}:cK e (.s i) f=bA (get e i) λv=>f (share v) e:=by
 simp only[cK,rd,bA];cases get e i<;>rfl
@[simp ↓] def aJq {i:Nat}:cK e (.m i) f=bA (get e i) λv=>f v (del e i):=by
 simp only[cK,rd,bA];cases get e i<;>rfl
@[simp ↓] def aJN {a:AV}:cK e (.c a) f=f a e:=(rfl)
@[simp ↓] def aIy {f:D_->aZ->Option β}:lB e [] f=f [] e:=(rfl)
@[simp ↓] def aIc {r:U_}{f:D_->aZ->Option β}:lB e (x::r) f=cK e x λv e=>lB e r λvs e=>f (v::vs) e:=(rfl)
@[simp ↓] def aIf {f:M_->aZ->Option β}:nz e none f=f none e:=(rfl)
@[simp ↓] def aH8 {f:M_->aZ->Option β}:nz e (some x) f=cK e x λv e=>f (some v) e:=(rfl)
@[simp ↓] def aHL:bW P (.mov x) e hs k=cK e x λv e=>k v e hs:=(rfl)
def Mq (e:aZ):Rd->M_
 |.c v=>some v
 |.m i=>get e i
 |.s i=>match get e i with
  |some v=>some (share v)
  |none=>none
def pkV {β:Type}(c:AV)(a b:Rd)(x y:M_)(e:aZ)(hs:HS)(k:AV->aZ->HS->Option β):Option β :=
 match x,y with
 |some a,some b=>bA (Up c a b) λv=>k v e hs
 |_,_=>bP (lM (.c c) a b ⟨e,hs⟩) λv st=>k v st.env st.hs
@[simp ↓] def aJm {c v w:AV}{a b:Rd}:pkV c a b (some v) (some w) e hs k=bA (Up c v w) λv=>k v e hs:=(rfl)
def aAE {c:AV}{a b:Rd}{x x2 y y2:M_}(h:x=x2)(h2:y=y2):pkV c a b x y e hs k=pkV c a b x2 y2 e hs k:=by rw[h,h2]
attribute [congr] aAE
@[simp] def aJO {v:AV}:Mq e (.c v)=some v:=(rfl)
@[simp] def aJH {i:Nat}:Mq e (.s i)=bA (get e i) λv=>some (share v):=by
 simp only[Mq,bA];cases get e i<;>rfl
def ag1 {c a b:Rd}(ha:bM a=true)(hb:bM b=true):bW P (.pick c a b) e hs k=cK e c λc e=>pkV c a b (Mq e a) (Mq e b) e hs k:=by
 simp only[bW,ha,hb,Bool.and_self]
 congr 1
 funext c e;have h1:∀x,bM x=true->rd e x=(Mq e x).map λv=>(v,e):=by
  intro x hx
  cases x with
  |c=>rfl
  |m=>cases hx
  |s i=>simp only[rd,Mq];cases get e i<;>rfl
 rw[h1 a ha,h1 b hb]
 cases Mq e a<;>cases Mq e b<;>rfl
@[simp ↓] def aHr {c:Rd}{i:Nat}{y:AV}:bW P (.pick c (.s i) (.c y)) e hs k=cK e c λc e=>pkV c (.s i) (.c y) (Mq e (.s i)) (Mq e (.c y)) e hs k:=ag1 rfl rfl
@[simp ↓] def aHZ {c:Rd}{i:Nat}{y:AV}:bW P (.pick c (.c y) (.s i)) e hs k=cK e c λc e=>pkV c (.c y) (.s i) (Mq e (.c y)) (Mq e (.s i)) e hs k:=ag1 rfl rfl
@[simp ↓] def aEp {zs:D_}:bW P (.alloc zs) e ⟨h,m⟩ k=lA (put h m (.cells zs)) λh=>k (.ptr m 0) e ⟨h,m+1⟩:=(rfl)
@[simp ↓] def aHp:bW P (.box x) e ⟨h,m⟩ k=cK e x λv e=>dU ((AV.cells v).all bl) (lA (put h m (.cells (AV.cells v))) λh=>k (.ptr m 0) e ⟨h,m+1⟩):=(rfl)
@[simp ↓] def aE5 {zs:D_}{ps:AC_}:bW P (.build zs ps) e hs k=lB e (qh ps) λvs e=>bA (eQ zs (uB ps vs)) λcs=>k (.agg cs) e hs:=(rfl)
@[simp ↓] def aH6 {j:Nat}{ps:U_}:bW P (.mks j ps) e hs k=lB e ps λvs e=>bA (j8 j vs) λxs=>k (.own true j xs) e hs:=(rfl)
@[simp ↓] def aG8 {j:Nat}{ps:U_}:bW P (.mksv j ps) e ⟨h,m⟩ k=lB e ps λvs e=>dU (Kh j vs) (lA (put h m (.cells (vs.flatMap AV.cells))) λh=>k (.sl m 0 vs.length) e ⟨h,m+1⟩):=(rfl)
@[simp ↓] def aIk {n:I_}:bW P (.ld n 0 x) e ⟨h,m⟩ k=cK e x λp e=>bA (ft h n p) λv=>k v e ⟨h,m⟩:=(rfl)
@[simp ↓] def aHl {n:I_}:bW P (.ld n 1 x) e ⟨h,m⟩ k=cK e x λp e=>bP (loadAt h n 1 p) λv h=>k v e ⟨h,m⟩:=(rfl)
@[simp ↓] def aHb {n:I_}:bW P (.ld n 2 x) e ⟨h,m⟩ k=cK e x λp e=>bP (loadAt h n 2 p) λv h=>k v e ⟨h,m⟩:=(rfl)
@[simp ↓] def aIP {n:Nat}{y:Rd}:bW P (.st n x y) e ⟨h,m⟩ k=cK e x λp e=>cK e y λv e=>bA (storeAt h n p v) λh=>k .junk e ⟨h,m⟩:=(rfl)
@[simp ↓] def aEz:bW P (.nilck x) e hs k=cK e x λv e=>bA (Gd v) λv=>k v e hs:=(rfl)
@[simp ↓] def aHR {o:BinOp}{y:Rd}:bW P (.bin o x y) e hs k=cK e x λa e=>cK e y λb e=>bA (fe o a b) λv=>k (.d v) e hs:=(rfl)
@[simp ↓] def aFl {o:Bool}{y:Rd}:bW P (.binb o x y) e hs k=cK e x λa e=>cK e y λb e=>bA (aai o a b) λv=>k (.d v) e hs:=(rfl)
@[simp ↓] def aGn {o:Bool}{ks:V_}{y:Rd}:bW P (.bina o ks x y) e hs k=cK e x λa e=>cK e y λb e=>bA (af1 o ks a b) λv=>k (.d v) e hs:=(rfl)
@[simp ↓] def aII {o:UnOp}:bW P (.un o x) e hs k=cK e x λa e=>bA (unD o a) λv=>k (.d v) e hs:=(rfl)
@[simp ↓] def aGs {j:IntKind}:bW P (.conv j x) e hs k=cK e x λa e=>bA (Yh j a) λv=>k (.d v) e hs:=(rfl)
@[simp ↓] def aEM:bW P (.toStr x) e ⟨h,m⟩ k=cK e x λa e=>bA (Dq h a) λv=>k (.d v) e ⟨h,m⟩:=(rfl)
@[simp ↓] def aFn {f:FuncId}{a c:U_}:bW P (.mkfn f a c) e hs k=lB e a λa e=>lB e c λc e=>k (.fn f (shareAll a) (shareAll c)) e hs:=(rfl)
@[simp ↓] def aB2 {z:W_}{y:Rd}:bW P (.mkslice z x y) e hs k=cK e x λa e=>cK e y λc e=>bA (Ga z a c) λv=>k v e hs:=(rfl)
@[simp ↓] def aE3 {j:Nat}{lo hi mx:AB_}:bW P (.slice j x lo hi mx) e ⟨h,m⟩ k=cK e x λx e=>nz e lo λlo e=>nz e hi λhi e=>nz e mx λmx e=>bA (mF h j x lo hi mx) λv=>k v e ⟨h,m⟩:=(rfl)
@[simp ↓] def aEb {j:Nat}{lo hi mx:AB_}:bW P (.slarr j x lo hi mx) e ⟨h,m⟩ k=cK e x λx e=>nz e lo λlo e=>nz e hi λhi e=>nz e mx λmx e=>bA (Ti h j x lo hi mx) λv=>k v e ⟨h,m⟩:=(rfl)
@[simp ↓] def aIv {o:Nat}:bW P (.fa o x) e hs k=cK e x λp e=>bA (iQ o p) λv=>k v e hs:=(rfl)
@[simp ↓] def aIS {n:Nat}{y:Rd}:bW P (.ia n x y) e ⟨h,m⟩ k=cK e x λx e=>cK e y λi e=>bA (ZM h n x i) λv=>k v e ⟨h,m⟩:=(rfl)
@[simp ↓] def aGF {a n:Nat}{y:Rd}:bW P (.iarr a n x y) e hs k=cK e x λp e=>cK e y λi e=>bA (KD a n p i) λv=>k v e hs:=(rfl)
@[simp ↓] def aIQ {a n:Nat}{b:Bool}{y:Rd}:bW P (.ix a n b x y) e hs k=cK e x λx e=>cK e y λi e=>bA (ixV a n b x i) λv=>k v e hs:=(rfl)
@[simp ↓] def aHH {y:Rd}:bW P (.ixs x y) e hs k=cK e x λx e=>cK e y λi e=>bA (apr x i) λv=>k (.d v) e hs:=(rfl)
@[simp ↓] def aG4 {j i:Nat}:bW P (.ext j true i) e hs k=bA (get e j) λt=>bA (AP true t i) λv=>k v (put e j (PB t i)) hs:=by
 simp only[bW,bA];cases get e j<;>(try rfl)
@[simp ↓] def aGW {j i:Nat}:bW P (.ext j false i) e hs k=bA (get e j) λt=>bA (AP false t i) λv=>k v e hs:=by
 simp only[bW,bA];cases get e j<;>(try rfl)
@[simp ↓] def aHS:bW P (.len x) e hs k=cK e x λx e=>bA (lenOf x) λn=>k (.int .i64 (.ofNat n)) e hs:=(rfl)
@[simp ↓] def aHk:bW P (.cap x) e hs k=cK e x λx e=>dU (abQ x) (k (.int .i64 (.ofNat 0)) e hs):=(rfl)
@[simp ↓] def aHh {j:Nat}{y:Rd}:bW P (.app j x y) e ⟨h,m⟩ k=cK e x λa e=>cK e y λb e=>bP (abS j h a b) λv h=>k v e ⟨h,m⟩:=(rfl)
@[simp ↓] def aFp {z:W_}{y:Rd}:bW P (.appz z x y) e ⟨h,m⟩ k=cK e x λa e=>cK e y λn e=>bP (HV z h a n) λv h=>k v e ⟨h,m⟩:=(rfl)
@[simp ↓] def aHA {j:Nat}{y:Rd}:bW P (.cpy j x y) e ⟨h,m⟩ k=cK e x λa e=>cK e y λb e=>bP (aix j h a b) λv h=>k (.d v) e ⟨h,m⟩:=(rfl)
@[simp ↓] def aDN {b:Bool}{xs:U_}:bW P (.minmax b xs) e hs k=lB e xs λvs e=>bA (DS b vs) λv=>k v e hs:=(rfl)
@[simp ↓] def aFE {f:FuncId}{as:U_}:bW P (.call f as) e ⟨h,m⟩ k=lB e as λvs e=>bA (fw (Dn P) f vs h) λv=>k v e ⟨h,m⟩:=(rfl)
@[simp ↓] def aEe {f:FuncId}{as:U_}:bW P (.calli f as) e hs k=lB e as λvs e=>bP ((Dn P).call f vs hs) λv hs=>k v e hs:=(rfl)
@[simp ↓] def aEq {as:U_}:bW P (.callv x as) e hs k=cK e x λf e=>lB e as λvs e=>bP (cA (Dn P) f vs hs) λv hs=>k v e hs:=(rfl)
@[simp ↓] def aFs {is:C_}:bW P (.kill is) e hs k=k (.tup []) (is.foldl del e) hs:=(rfl)
end Go.Vm
end
