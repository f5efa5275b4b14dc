import GoSem.ClaimChange
import Derived.WalkKit
import Derived.ProofKit
import Derived.OpenShut
import Derived.JoinedCond
import Derived.ChangeStays
import Derived.ChangeBook
import Derived.Test.YtaonpbailcljnaaGreatP1
set_option linter.unusedVariables false
set_option linter.unusedSimpArgs false
set_option linter.defProp false
set_option linter.unusedSectionVars false
noncomputable section
namespace Go.Vm
set_option maxHeartbeats 4000000
set_option maxRecDepth 100000
def yh.K:yh->HK
 |.q=>KQ
 |.t=>KT
 |.a=>KA
 |.p=>KP
section
variable {r:cH}
def xe {i:VI}(h:i.th=[])(st:St):eE r i st=match (match cm i.op r st with|some (v,st)=>some (firm v,st)|none=>none) with|some (v,st)=>some (bS i.dst v st)|none=>none:=by
 grind [eE]
theorem gJ.firm {K:HK}{f:St->K_}{R M:C_}(h:gJ K f R M):gJ K (λst=>match f st with|some (v,st)=>some (firm v,st)|none=>none) R M:=by
 intro e hs v st1 hf;simp only at hf;split at hf
 .rename_i u st0 hu;simp only[ae,aJ]at hf;obtain⟨rfl,rfl⟩:=hf;obtain⟨ρ,τ,h1,h2,h3,h4,h5⟩:=h e hs u st0 hu;refine⟨ρ,τ,h1,h2,h3,h4,λe' hs' he hρ=>?_⟩;obtain⟨e1',q1,q2,q3⟩:=h5 e' hs' he hρ
  simp_all
 simp_all
def abH (zs:D_):gJ KA (GI zs) [] []:=by
 intro e hs v st1 hf;obtain⟨rfl,rfl⟩:=hf;refine⟨λhs'=>hs'.next=hs.next,λhs'=>push hs' [.cells zs],⟨[.cells zs],λ_ _ h=>h,λ_ _=>rfl⟩,rfl,λh=>h,λ_ _=>rfl,λe' hs' _ hn=>⟨e',?_,λ_ _=>rfl,λk hk=>by simp at hk⟩⟩;simp only[GI,hn];rfl
def afR (x:Rd):gJ KA (L9 x) (md x) (jd x):=by
 intro e hs v st1 hf;unfold L9 at hf;split at hf
 .rename_i u e1 hr;split at hf
  .rename_i hc;obtain⟨rfl,rfl⟩:=hf;obtain⟨s1,g1,l1⟩:=Lf hr;refine⟨λhs'=>hs'.next=hs.next,λhs'=>push hs' [.cells u.cells],⟨[.cells u.cells],λ_ _ h=>h,λ_ _=>rfl⟩,rfl,s1,λk hk=>by simp_all,λe' hs' he hn=>?_⟩;obtain⟨e1',hr',g1'⟩:=l1 e' he;refine⟨e1',?_,λk hk=>by simp_all,λk hk=>by simp_all⟩;unfold L9;simp only[hr',hc,hn];rfl
  simp_all
 simp_all
def aaq {i:VI}{p:Nat×Nat}{th:O_}(h:i.th=p::th)(st:St):eE r i st=match (match cm i.op r st with|some (v,st)=>some (firm (cY (p::th) v st.hs).1,(⟨st.env,(cY (p::th) v st.hs).2⟩:St))|none=>none) with|some (v,st)=>some (bS i.dst v st)|none=>none:=by
 grind [eE]
def gJ.thaw {f:St->K_}{R M:C_}(h:dJ f R M)(th:O_):gJ KA (λst=>match f st with|some (v,st)=>some (Go.Vm.firm (cY th v st.hs).1,(⟨st.env,(cY th v st.hs).2⟩:St))|none=>none) R M:=by
 intro e hs v st1 hf;simp only at hf;split at hf
 .rename_i u st0 hu;obtain⟨rfl,rfl⟩:=hf;obtain⟨h1,h2,h3,h4⟩:=h e hs u st0 hu;obtain⟨w,os,hw⟩:=Hm th hs.next u;refine⟨λhs'=>cA hs.heap hs'.heap∧hs'.next=hs.next,λhs'=>push hs' os,⟨os,λ_ a b=>⟨a,b⟩,λ_ _=>rfl⟩,?_,h2,h3,λe' hs' he hρ=>?_⟩
  .simp_all
  .obtain⟨e1',q1,q2,q3⟩:=h4 e' hs' he hρ.1
   simp_all
 simp_all
def lS {i:VI}{k:yh}{R M:C_}(h:iC i=some (k,R,M)):MC k.K (b4 r i) R M:=by
 unfold iC at h;split at h
 .rename_i p th hth;split at h
  .rename_i R0 M0 hf;obtain⟨rfl,rfl,rfl⟩:=h;exact qy (aaq hth) (gJ.thaw (OH (r:=r) hf) (p::th)) KA.id
  simp_all
 .rename_i hth;split at h
  .rename_i n p ho;obtain⟨rfl,rfl,rfl⟩:=h;exact qy (xe hth) (gJ.firm (by rw[ho];exact ai4 n p)) KT.id
  .rename_i m x y ho;obtain⟨rfl,rfl,rfl⟩:=h;exact qy (xe hth) (gJ.firm (by rw[ho];exact W7 m _ y)) KP.id
  .rename_i m x y ho;obtain⟨rfl,rfl,rfl⟩:=h;exact qy (xe hth) (gJ.firm (by rw[ho];exact W7 m _ y)) KP.id
  .rename_i zs ho;obtain⟨rfl,rfl,rfl⟩:=h;exact qy (xe hth) (gJ.firm (by rw[ho];exact abH zs)) KA.id
  .rename_i x ho;obtain⟨rfl,rfl,rfl⟩:=h;exact qy (xe hth) (gJ.firm (by rw[ho];exact afR x)) KA.id
  .split at h
   .rename_i R0 M0 hf;obtain⟨rfl,rfl,rfl⟩:=h;exact qy (xe hth) (gJ.firm (aje (OH (r:=r) hf))) KQ.id
   simp_all
structure dW (st:St):Prop where
 se:bV st.env
 sh:bV st.hs.heap
 fr:∀id,st.hs.next<=id->get st.hs.heap id=none
theorem HV (h:ak)(id k:Nat)(o:Option Obj):get (BT h id o) k=match o with|none=>get h k|some o=>if k=id then some o else get h k:=by
 cases o with
 |none=>rfl
 |some o=>exact ee h id k o
def OP {h:ak}(hs:bV h)(id:Nat)(o:Option Obj):bV (BT h id o):=by
 cases o with
 |none=>exact hs
 |some o=>exact hs.put _ _
theorem OS:∀(os:List Obj) (hs:HS) (k:Nat),k<hs.next->get (push hs os).heap k=get hs.heap k
 |[],_,_,_=>rfl
 |o::os,hs,k,hk=>by
  rw[push,OS os _ k d_]
  grind [ee]
def aaK:∀(os:List Obj) (hs:HS),(∀id,hs.next<=id->get hs.heap id=none)->∀id,(push hs os).next<=id->get (push hs os).heap id=none
 |[],_,h=>h
 |o::os,hs,h=>aaK os _ λid hid=>by
  grind [ee]
def Wy:∀(os:List Obj) (hs:HS),bV hs.heap->bV (push hs os).heap
 |[],_,h=>h
 |o::os,hs,h=>Wy os _ (h.put _ _)
def VE:∀(os:List Obj) (hs:HS) (id:Nat) (o:Option Obj),bV hs.heap->id<hs.next->push ⟨BT hs.heap id o,hs.next⟩ os=⟨BT (push hs os).heap id o,(push hs os).next⟩
 |[],_,_,_,_,_=>rfl
 |p::os,hs,id,o,hsrt,hid=>by
  have e:put (BT hs.heap id o) hs.next p=BT (put hs.heap hs.next p) id o:=by
   refine r5 ((OP hsrt id o).put _ _) (OP (hsrt.put _ _) id o) λk=>?_
   grind [ee,HV]
  simp only[push];rw[e];exact VE os ⟨put hs.heap hs.next p,hs.next+1⟩ id o (hsrt.put _ _) (by grind)
theorem cA.push {hs:HS}(fr:∀id,hs.next<=id->get hs.heap id=none)(os:List Obj):cA hs.heap (push hs os).heap:=by
 intro id o h
 grind [iq.refl,OS]
theorem cA.upd {h:ak}{id:Nat}{o0:Obj}{o:Option Obj}(g:get h id=some o0)(ho:∀o1,o=some o1->iq o0 o1):cA h (BT h id o)∧cA (BT h id o) h:=by
 constructor
 .intro k x hx
  grind [HV,iq.refl]
 .intro k x hx
  grind [HV,iq.refl,iq.symm]
theorem Ej {i:VI}{k:yh}{R M:C_}(h:iC i=some (k,R,M)){st st1:St}(inv:dW st)(hr:b4 r i st=some st1):dW st1:=by
 obtain⟨e,hs⟩:=st;obtain⟨ρ,τ,hK,h1,h2,_,_⟩:=lS (r:=r) h e hs st1 hr;refine⟨h2 inv.se,?_,?_⟩
 .rw[h1]
  cases k with
  |q=>rw[hK.2 hs];exact inv.sh
  |t =>
   rcases hK with ⟨id,o0,o,g,_,ht,_⟩|⟨_,ht⟩
   .rw[ht];exact OP inv.sh _ _
   .rw[ht];exact inv.sh
  |a=>obtain⟨os,_,ht⟩:=hK;rw[ht hs rfl];exact Wy _ _ inv.sh
  |p =>
   rcases hK with hK|⟨id,_,_,ht⟩
   .rw[hK.2 hs];exact inv.sh
   .rw[ht];exact inv.sh.del _
 .rw[h1]
  cases k with
  |q=>rw[hK.2 hs];exact inv.fr
  |t =>
   rcases hK with ⟨id,o0,o,g,_,ht,_⟩|⟨_,ht⟩
   .rw[ht];intro k hk;have:=inv.fr k hk
    grind [HV]
   .rw[ht];exact inv.fr
  |a=>obtain⟨os,_,ht⟩:=hK;rw[ht hs rfl];exact aaK _ _ inv.fr
  |p =>
   rcases hK with hK|⟨id,_,_,ht⟩
   .rw[hK.2 hs];exact inv.fr
   .rw[ht];intro k hk;rw[De];split
    .rfl
    .exact inv.fr k hk
def abY {u v:VI}(h:Df u v=true){st st1 st2:St}(inv:dW st)(a:b4 r u st=some st1)(b:b4 r v st1=some st2):∃st1',b4 r v st=some st1'∧b4 r u st1'=some st2:=by
 unfold Df at h;split at h
 .rename_i k1 R1 M1 k2 R2 M2 e1 e2;simp only[af]at h;obtain⟨⟨⟨hk,a1⟩,a2⟩,a3⟩:=h;have d1:∀k∈M1,k∉R2∧k∉M2:=λk hk=>⟨gK a1 k hk,gK a2 k hk⟩
  have d2:∀k∈M2,k∉R1∧k∉M1:=λk hk=>⟨gK a3 k hk,λh=>gK a2 k h hk⟩
  have inv1:=Ej e1 inv a;have inv2:=Ej e2 inv1 b;obtain⟨e,hs⟩:=st;obtain⟨ρ1,τ1,K1,q1,q2,q3,q4⟩:=lS (r:=r) e1 e hs _ a;obtain⟨en1,hs1⟩:=st1;subst q1;obtain⟨ρ2,τ2,K2,p1,p2,p3,p4⟩:=lS (r:=r) e2 en1 (τ1 hs) _ b;have key:ρ2 hs∧ρ1 (τ2 hs)∧τ1 (τ2 hs)=τ2 (τ1 hs):=by
   cases k1 with
   |a=>grind [xl]
   |p =>
    cases k2 with
    |t=>grind [xl]
    |a=>grind [xl]
    |p=>grind [xl]
    |q =>
     have ht:∀x,τ2 x=x:=K2.2;rcases K1 with K1|⟨id,_,hρ,hτ⟩
     .rw[K1.2 hs]at K2;exact⟨K2.1 _ (.refl _),by rw[ht];exact K1.1 _ (.refl _),u_⟩
     .exact⟨K2.1 _ (by grind [cA.del]),by grind [cA.refl],u_⟩
   |q =>
    have ht:∀x,τ1 x=x:=K1.2
    cases k2 with
    |p=>grind [xl]
    |q =>
     rw[ht hs]at K2;exact⟨K2.1 _ (.refl _),by rw[K2.2];exact K1.1 _ (.refl _),u_⟩
    |t =>
     rw[ht hs]at K2;rcases K2 with ⟨id,o0,o,g,hρ,hτ,hl⟩|⟨hρ,hτ⟩
     .exact⟨hρ _ g,by rw[hτ];exact K1.1 _ (cA.upd g hl).1,u_⟩
     .exact⟨hρ _,by rw[hτ];exact K1.1 _ (.refl _),u_⟩
    |a =>
     rw[ht hs]at K2;obtain⟨os,hρ,hτ⟩:=K2;exact⟨hρ _ (.refl _) rfl,by rw[hτ _ rfl];exact K1.1 _ (cA.push inv.fr os),u_⟩
   |t =>
    cases k2 with
    |t=>grind [xl]
    |p=>grind [xl]
    |q =>
     have ht:∀x,τ2 x=x:=K2.2;rcases K1 with ⟨id,o0,o,g,hρ,hτ,hl⟩|⟨hρ,hτ⟩
     .exact⟨K2.1 _ (by grind [cA.upd]),u_,u_⟩
     .exact⟨K2.1 _ (by grind [cA.refl]),hρ _,u_⟩
    |a =>
     obtain⟨os,hρ2,hτ2⟩:=K2;rcases K1 with ⟨id,o0,o,g,hρ,hτ,hl⟩|⟨hρ,hτ⟩
     .have hn:(τ1 hs).next=hs.next:=by rw[hτ]
      have hid:id<hs.next:=by
       rcases bH id hs.next with h1|h1
       .exact h1
       .have:=inv.fr id h1;simp_all
      refine⟨hρ2 _ (by grind [cA.upd]) hn.symm,?_,?_⟩
      .grind [OS]
      .rw[hτ2 _ hn.symm,hτ2 _ rfl,hτ,hτ];exact(VE os hs id o inv.sh hid).symm
     grind [cA.refl]
  obtain⟨c1,c2,c3⟩:=key;obtain⟨e1',k1',k2',k3'⟩:=p4 e hs (λk hk=>(q3 k (λhm=>(d1 k hm).1 hk)).symm) c1;obtain⟨e2',m1,m2,m3⟩:=q4 e1' (τ2 hs) (λk hk=>k2' k λhm=>(d2 k hm).1 hk) c2;have invA:=Ej e2 inv k1';have invB:=Ej e1 invA m1;refine⟨⟨e1',τ2 hs⟩,k1',?_⟩;rw[m1,c3]
  congr 2
  refine r5 invB.se inv2.se λk=>?_
  by_cases hk1:k∈M1
  all_goals grind
 simp_all
end
mutual
theorem adA:∀(a b:D),Js a b=true->a=b
 |.int k n,b,h=>by
  cases b<;>simp only[Js,al,af,decide_eq_true_eq]at h
  rw[Bi h.1,h.2]
 |.bool x,b,h=>by
  cases b<;>simp only[Js,al,beq_iff_eq]at h
  rw[h]
 |.str s,b,h=>by
  cases b<;>simp only[Js,al,beq_iff_eq]at h
  rw[h]
 |.lst xs,b,h=>by
  cases b<;>simp only[Js,al]at h
  rw[eqDss_eq xs _ h]
theorem Ss:∀(a b:U_),Ly a b=true->a=b
 |[],b,h=>by cases b<;>simp only[Ly,al]at h;rfl
 |x::r,b,h=>by
  cases b<;>simp only[Ly,al,af]at h
  rw[adA x _ h.1,Ss r _ h.2]
theorem eqDss_eq:∀(a b:F_),eqDss a b=true->a=b
 |[],b,h=>by cases b<;>simp only[eqDss,al]at h;rfl
 |x::r,b,h=>by
  cases b<;>simp only[eqDss,al,af]at h
  rw[Ss x _ h.1,eqDss_eq r _ h.2]
end
mutual
theorem aj0:∀(a b:AV),gq a b=true->a=b
 |.junk,b,h=>by cases b<;>simp only[gq,al]at h;rfl
 |.d x,b,h=>by
  cases b<;>simp only[gq,al]at h
  rw[adA x _ h]
 |.nl,b,h=>by cases b<;>simp only[gq,al]at h;rfl
 |.own p m xs,b,h=>by
  cases b<;>simp only[gq,al,af,beq_iff_eq,aq]at h
  rw[h.1.1,h.1.2,eqDss_eq xs _ h.2]
 |.gl n,b,h=>by
  cases b<;>simp only[gq,al,aq]at h
  rw[h]
 |.agg cs,b,h=>by
  cases b<;>simp only[gq,al]at h
  rw[eqAVs_eq cs _ h]
 |.tup cs,b,h=>by
  cases b<;>simp only[gq,al]at h
  rw[eqAVs_eq cs _ h]
 |.nilp,b,h=>by cases b<;>simp only[gq,al]at h;rfl
 |.ptr _ _,b,h=>by
  cases b<;>simp only[gq,al,af,aq]at h
  rw[h.1,h.2]
 |.pel _ _ _,b,h=>by
  cases b<;>simp only[gq,al,af,aq]at h
  rw[h.1.1,h.1.2,h.2]
 |.pim cs _,b,h=>by
  cases b<;>simp only[gq,al,af,aq]at h
  rw[Ss cs _ h.1,h.2]
 |.sl _ _ _,b,h=>by
  cases b<;>simp only[gq,al,af,aq]at h
  rw[h.1.1,h.1.2,h.2]
 |.fn _ a c,b,h=>by
  cases b<;>simp only[gq,al,af,aq]at h
  rw[h.1.1,eqAVs_eq a _ h.1.2,eqAVs_eq c _ h.2]
 |.nilf,b,h=>by cases b<;>simp only[gq,al]at h;rfl
 |.yield _,b,h=>by
  cases b<;>simp only[gq,al,aq]at h
  rw[h]
theorem eqAVs_eq:∀(a b:D_),eqAVs a b=true->a=b
 |[],b,h=>by cases b<;>simp only[eqAVs,al]at h;rfl
 |x::r,b,h=>by
  cases b<;>simp only[eqAVs,al,af]at h
  rw[aj0 x _ h.1,eqAVs_eq r _ h.2]
end
theorem alb {a b:Obj}(h:WR a b=true):a=b:=by
 cases a<;>cases b<;>simp only[WR,al,af,aq]at h
 all_goals grind [eqAVs_eq,eqDss_eq]
theorem L4 (h:ak)(k:Nat):∀(ids:C_),get (dG ids h) k=if k∈ids then get h k else none
 |[]=>by grind [dG,xH]
 |i::r=>by
  have ih:=L4 h k r
  grind [dG,ee]
def cA.only (h:ak)(ids:C_):cA (dG ids h) h:=by
 intro k o hk
 grind [L4,iq.refl]
theorem Ue:∀{F:C_}{h h':ak},c4 F h h'=true->∀{k:Nat}{o:Obj},k∈F->get h k=some o->get h' k=some o
 |[],_,_,_,k,o,hm,_=>by simp at hm
 |i::r,h,h',hs,k,o,hm,hk=>by
  simp only[c4,af]at hs;rcases aQ.1 hm with e|hm
  .grind [alb]
  .exact Ue hs.2 hm hk
def Tw:∀{F:C_}{h h':ak}{i:Nat},c4 F h h'=true->i∈F->(match get h i with
   |some o=>(match get h' i with|some o'=>WR o o'|none=>false)
   |none=>true)=true
 |x::F,h,h',i,hs,hi=>by
  simp only[c4,af]at hs;rcases aQ.1 hi with e|hi
  .grind
  .exact Tw hs.2 hi
theorem TC:∀{F' F:C_}{h h':ak},c4 F h h'=true->(∀k∈F',k∈F)->c4 F' h h'=true
 |[],_,_,_,_,_=>rfl
 |i::r,F,h,h',hs,hsub=>by
  simp only[c4,af];exact⟨Tw hs (hsub i (.head _)),TC hs λk hk=>hsub k (.tail _ hk)⟩
def cA.same {F ids:C_}{h h':ak}(hs:c4 F h h'=true)(hsub:∀k∈ids,k∈F):cA (dG ids h) (dG ids h'):=by
 intro k o hk
 grind [L4,Ue,iq.refl]
section
variable {r:cH}
def V9 (f:St->X_)(R M:C_):Prop :=
 ∀e hs st1,f ⟨e,hs⟩=some st1->(bV e->bV st1.env)∧(∀k,k∉M->get st1.env k=get e k)∧
  ∀e',(∀k∈R,get e' k=get e k)->∃e1',f ⟨e',hs⟩=some ⟨e1',st1.hs⟩∧(∀k,k∉M->get e1' k=get e' k)∧∀k∈M,get e1' k=get st1.env k
def MC.w {K:HK}{f:St->X_}{R M:C_}(h:MC K f R M)(hK:∀hs ρ τ,K hs ρ τ->ρ hs):V9 f R M:=by
 intro e hs st1 hf;obtain⟨ρ,τ,k,q1,q2,q3,q4⟩:=h e hs st1 hf;refine⟨q2,q3,λe' he=>?_⟩;rw[q1];exact q4 e' hs he (hK _ _ _ k)
def yh.self (k:yh)(hs:HS)(ρ:HS->Prop)(τ:HS->HS)(h:k.K hs ρ τ):ρ hs:=by
 cases k with
 |q=>exact h.1 _ (.refl _)
 |t =>
  rcases h with ⟨id,o0,o,g,hρ,_⟩|⟨hρ,_⟩<;>simp_all
 |a=>obtain⟨os,hρ,_⟩:=h;grind [cA.refl]
 |p =>
  rcases h with h|⟨id,_,hρ,_⟩
  .exact h.1 _ (.refl _)
  grind [cA.refl]
def KW:HK:=λhs ρ _=>ρ hs
def KW.id (hs:HS):KW hs (λ_=>True) _root_.id:=trivial
def gJ.rdsW {f:St->K_}{rs:S_}(F:D_->HS->T_)
  (h:∀e hs,f ⟨e,hs⟩=match rdAll e rs with|none=>none|some (vs,e1)=>match F vs hs with|none=>none|some (v,hs1)=>some (v,⟨e1,hs1⟩)):gJ KW f (bv rs) (aY rs):=by
 intro e hs v st1 hf;rw[h]at hf;split at hf
 .simp at hf
 .rename_i vs e1 hr;split at hf
  .simp at hf
  .rename_i u hs1 hu;obtain⟨rfl,rfl⟩:=hf;obtain⟨s1,g1,l1⟩:=EY hr;refine⟨λhs'=>hs'=hs,λ_=>hs1,rfl,rfl,s1,λk hk=>by simp_all,λe' hs' he hρ=>?_⟩;obtain⟨e1',hr',g1'⟩:=l1 e' he
   simp_all
def gJ.thawW {f:St->K_}{R M:C_}(h:gJ KW f R M)(th:O_):gJ KW (λst=>match f st with|some (v,st)=>some (Go.Vm.firm (cY th v st.hs).1,(⟨st.env,(cY th v st.hs).2⟩:St))|none=>none) R M:=by
 intro e hs v st1 hf;simp only at hf;split at hf
 .rename_i u st0 hu;obtain⟨rfl,rfl⟩:=hf;obtain⟨ρ,τ,k,h1,h2,h3,h4⟩:=h e hs u st0 hu;refine⟨λhs'=>hs'=hs,λ_=>(cY th u st0.hs).2,rfl,rfl,h2,h3,λe' hs' he hρ=>?_⟩;subst hρ;obtain⟨e1',q1,q2,q3⟩:=h4 e' hs' he k
  simp_all
 simp_all
def aeR {v:lX}{rs:S_}(h:af9 v=some rs):gJ KW (cm v r) (bv rs) (aY rs):=by
 unfold af9 at h;split at h<;>simp only[ae,reduceCtorEq]at h<;>subst h
 .rename_i n t p;refine gJ.rdsW (λvs hs=>match vs with|[p]=>(match loadAt hs.heap n t p with|some (v,h)=>some (v,⟨h,hs.next⟩)|none=>none)|_=>none) λe hs=>?_
  grind [cm,An,rdAll]
 .rename_i n p x;refine gJ.rdsW (λvs hs=>match vs with|[p,v]=>(match storeAt hs.heap n p v with|some h=>some (.junk,⟨h,hs.next⟩)|none=>none)|_=>none) λe hs=>?_
  simp only[cm,acg,rdAll]
  grind
 .rename_i m x y;refine gJ.rdsW (λvs hs=>match vs with
   |[a,b]=>(match QS m (.c a) (.c b) ⟨[],hs⟩ with|some (v,st)=>some (v,st.hs)|none=>none)
   |_=>none) λe hs=>?_
  simp only[cm,QS,rdAll]
  cases rd e x with
  |none=>rfl
  |some q =>
   obtain⟨a,e1⟩:=q;simp only
   cases rd e1 y with
   |none=>rfl
   |some q =>
    obtain⟨b,e2⟩:=q;simp only[rd]
    cases elems hs.heap b with
    |none=>rfl
    |some ys =>
     simp only;split<;>grind
 .rename_i z x;refine gJ.rdsW (λvs hs=>match vs with
   |[a]=>(match Md z (.c a) ⟨[],hs⟩ with|some (v,st)=>some (v,st.hs)|none=>none)
   |_=>none) λe hs=>?_
  simp only[cm,Md,rdAll]
  grind [rd]
 .rename_i f args;refine gJ.rdsW (λvs hs=>r.call f vs hs) λe hs=>?_
  grind [cm,At]
 .refine gJ.rdsW (λvs hs=>match vs with|fv::vs=>cW r fv vs hs|[]=>none) λe hs=>?_
  grind [cm,AG,rdAll]
def xK {i:VI}{R M:C_}(h:iS i=some (R,M)):V9 (b4 r i) R M:=by
 unfold iS at h;split at h
 .rename_i k R0 M0 hk;obtain⟨rfl,rfl⟩:=h;exact(lS hk).w k.self
 .split at h
  .rename_i rs hrs;obtain⟨rfl,rfl⟩:=h;refine MC.w (K:=KW) ?_ λ_ _ _ h=>h
   cases hth:i.th with
   |nil=>exact qy (xe hth) (gJ.firm (aeR hrs)) KW.id
   |cons p th=>exact qy (aaq hth) (gJ.thawW (aeR hrs) (p::th)) KW.id
  simp_all
theorem K7 {i:VI}{k:yh}{R M:C_}(h:iC i=some (k,R,M)){d:Nat}(hd:i.dst=some d):d∈M:=by
 grind [wt,iC]
theorem Bz {i:VI}{R M:C_}(h:iS i=some (R,M)){d:Nat}(hd:i.dst=some d):d∈M:=by
 grind [iS,K7,wt]
def Ol {e e':aK}:∀{ws:C_},(∀k∈ws,get e' k=get e k)->Mz e' ws=Mz e ws
 |[],_=>rfl
 |w::ws,h=>by
  simp only[Mz,h w (.head _),Ol λk hk=>h k (.tail _ hk)]
def jg {a:Bool}{i:VI}{R M:C_}(h:wG a i=some (R,M))(F:C_):V9 (bx r a F i) R M:=by
 unfold wG at h;split at h
 .rename_i R0 M0 hf
  cases a with
  |false =>
   obtain⟨rfl,rfl⟩:=h;exact xK hf
  |true =>
   obtain⟨rfl,rfl⟩:=h;have hl:=xK (r:=r) hf;intro e hs st1 hr;have hids:∀e',(∀k∈R0++Le (MA i.op),get e' k=get e k)->lQ i e'=lQ i e:=λe' he=>Ol λk hk=>he k (dg _ hk)
   have hR0:∀e',(∀k∈R0++Le (MA i.op),get e' k=get e k)->∀k∈R0,get e' k=get e k:=λe' he k hk=>he k (bT _ hk)
   simp only[bx,tN]at hr;split at hr
   .split at hr
    .rename_i st2 h2;split at hr
     .simp only[ae]at hr;subst hr;obtain⟨q1,q2,q3⟩:=hl e hs _ h2;refine⟨q1,q2,λe' he=>?_⟩;obtain⟨e1',p1,p2,p3⟩:=q3 e' (hR0 e' he)
      grind [bx,tN]
     simp_all
    simp_all
   .split at hr
    .rename_i st2 h2;split at hr
     .split at hr
      .split at hr
       .simp only[ae]at hr;subst hr;obtain⟨q1,q2,q3⟩:=hl e hs _ h2;refine⟨q1,q2,λe' he=>?_⟩;obtain⟨e1',p1,p2,p3⟩:=q3 e' (hR0 e' he)
        grind [Bz,bx,tN]
       simp_all
      simp_all
     simp_all
    simp_all
   .split at hr
    .rename_i st2 h2;simp only[ae]at hr;subst hr;obtain⟨q1,q2,q3⟩:=hl e _ _ h2;refine⟨q1,q2,λe' he=>?_⟩;obtain⟨e1',p1,p2,p3⟩:=q3 e' (hR0 e' he)
     simp_all [bx,tN]
    simp_all
 simp_all
theorem tG {f1 f2:St->X_}{R1 M1 R2 M2:C_}(h1:V9 f1 R1 M1)(h2:V9 f2 R2 M2)(d1:∀k∈M1,k∉R2∧k∉M2)(d2:∀k∈M2,k∉R1∧k∉M1){e e1 e2:aK}{hs hs1 hs2 hsB:HS}(hsrt:bV e)
  (a:f1 ⟨e,hs⟩=some ⟨e1,hs1⟩)(b:f2 ⟨e1,hs1⟩=some ⟨e2,hs2⟩)(i:f2 ⟨e1,hs⟩=some ⟨e2,hsB⟩)(ii:f1 ⟨e,hsB⟩=some ⟨e1,hs2⟩) :
  ∃st1',f2 ⟨e,hs⟩=some st1'∧f1 st1'=some ⟨e2,hs2⟩:=by
 obtain⟨s1,g1,_⟩:=h1 e hs _ a;obtain⟨s2,g2,l2⟩:=h2 e1 hs _ i;obtain⟨e',k1,k2,k3⟩:=l2 e λk hk=>(g1 k λhm=>(d1 k hm).1 hk).symm
 obtain⟨s3,g3,l3⟩:=h1 e hsB _ ii;obtain⟨e'',m1,m2,m3⟩:=l3 e' λk hk=>k2 k λhm=>(d2 k hm).1 hk
 refine⟨⟨e',hsB⟩,k1,?_⟩;rw[m1];obtain⟨t1,_,_⟩:=h2 e hs _ k1;obtain⟨t2,_,_⟩:=h1 e' hsB _ m1
 congr 2
 refine r5 (t2 (t1 hsrt)) (s2 (s1 hsrt)) λk=>?_
 by_cases hk1:k∈M1
 all_goals grind
def ahD {v:lX}(hv:sOp v=true){e:aK}{hs:HS}{x:AV}{st1:St}(h:cm v r ⟨e,hs⟩=some (x,st1)):st1.hs=hs∧∀hs',cm v r ⟨e,hs'⟩=some (x,⟨st1.env,hs'⟩):=by
 cases v<;>simp only[sOp,al]at hv
 all_goals
  simp only[cm,Mb,jG,Ai,IW,C7,Ia,Mp,Gn,Gg,Sd,Du,Dm,ka,SA,IR,Hl,OX,HW,zj,MH,I7,w8]at h⊢
  repeat' split at h
  all_goals grind
end
abbrev gP:=@Nat.ne_of_beq_eq_false
section
variable {r:cH}
def DX {l:O_}(h:Hg l=true):l=[]:=by
 grind [Hg]
theorem HB {a:Bool}{F:C_}{i:VI}(h:kS a i=true){e:aK}{hs:HS}{st1:St}(hr:bx r a F i ⟨e,hs⟩=some st1):st1.hs=hs∧∀hs',bx r a F i ⟨e,hs'⟩=some ⟨st1.env,hs'⟩:=by
 simp only[kS,af,bQ]at h;obtain⟨⟨ha,hth⟩,hop⟩:=h;have hth:=DX hth;subst ha;simp only[bx]at hr⊢;have go:∀st1,eE r i ⟨e,hs⟩=some st1->st1.hs=hs∧∀hs',eE r i ⟨e,hs'⟩=some ⟨st1.env,hs'⟩:=by
  intro st1 h;unfold eE at h;simp only[hth]at h;split at h
  .rename_i v st0 hv;simp only[ae]at h;subst h;obtain⟨q1,q2⟩:=ahD hop hv;refine⟨by cases i.dst<;>exact q1,λhs'=>?_⟩;unfold eE;simp only[hth,q2 hs']
   cases i.dst<;>rfl
  simp_all
 unfold b4 at hr
 cases hg:i.guard with
 |none =>
  grind [b4]
 |some sw =>
  rw[hg]at hr;simp only at hr;split at hr
  .rename_i b hb;split at hr
   .grind [b4]
   .rename_i hbw;simp only[ae]at hr;subst hr;exact⟨by cases i.dst<;>rfl,λhs'=>by unfold b4;rw[hg];simp only[hb,hbw];cases i.dst<;>rfl⟩
  .rename_i hb;simp only[ae]at hr;subst hr;exact⟨by cases i.dst<;>rfl,λhs'=>by unfold b4;rw[hg];simp only[hb];cases i.dst<;>rfl⟩
  simp_all
theorem N0 {i:VI}(h:isQ i=true):∃R M,iC i=some (.q,R,M):=by
 grind [isQ]
theorem OG {i:VI}(h:Ui i=true):∃R M,iC i=some (.p,R,M):=by
 grind [Ui]
theorem E4 {i:VI}(h:DK i=true):qn i.op=.read:=by
 grind [DK]
def aeF {i:VI}(h:WB i=true):qn i.op=.take:=by
 grind [WB]
theorem Tq {i:VI}(h:Pt i=true):qn i.op=.call:=by
 grind [Pt]
theorem L8 {a:Bool}{F:C_}{i:VI}(h:OD a i=true){e:aK}{hs:HS}{st1:St}(hr:bx r a F i ⟨e,hs⟩=some st1):st1.hs=hs:=by
 simp only[OD,af,b6,bQ]at h;obtain⟨hq,hn⟩:=h;obtain⟨R,M,hk⟩:=N0 hq;have plain:b4 r i ⟨e,hs⟩=some st1->st1.hs=hs:=λh=>by
  obtain⟨ρ,τ,K,q1,_⟩:=lS hk e hs st1 h;rw[q1];exact K.2 hs
 cases a<;>grind [E4,bx,tN]
def Mx {K:HK}{f:St->X_}{R M:C_}(hl:MC K f R M){e:aK}(hsrt:bV e){hs:HS}{st1:St}(hr:f ⟨e,hs⟩=some st1):∃ρ τ,K hs ρ τ∧st1.hs=τ hs∧∀hs',ρ hs'->f ⟨e,hs'⟩=some ⟨st1.env,τ hs'⟩:=by
 obtain⟨ρ,τ,k,q1,q2,q3,q4⟩:=hl e hs st1 hr;refine⟨ρ,τ,k,q1,λhs' hρ=>?_⟩;obtain⟨e1',p1,p2,p3⟩:=q4 e hs' (λ_ _=>rfl) hρ;obtain⟨_,_,_,_,s2,_,_⟩:=hl e hs' _ p1
 grind [r5]
def aeK {F F':C_}{u:VI}(hq:isQ u=true)(hn:DK u=true){e:aK}(hsrt:bV e){hs:HS}{st1:St}(hr:bx r true F u ⟨e,hs⟩=some st1) :
  ∀hs',cA (dG (lQ u e) hs.heap) (dG (lQ u e) hs'.heap)->bx r true F' u ⟨e,hs'⟩=some ⟨st1.env,hs'⟩:=by
 intro hs' hle;obtain⟨R,M,hk⟩:=N0 hq;have hn:=E4 hn;simp only[bx,tN,hn]at hr⊢;split at hr
 .rename_i st2 h2;simp only[ae]at hr;subst hr;obtain⟨ρ,τ,K,q1,q2⟩:=Mx (lS hk) hsrt h2;rw[q2 ⟨dG (lQ u e) hs'.heap,hs'.next⟩ (K.1 _ hle)]
 simp_all
def adz {F:C_}{v:VI}(hn:Pt v=true){e:aK}{hs:HS}{st1:St}(hr:bx r true F v ⟨e,hs⟩=some st1):c4 F hs.heap st1.hs.heap=true:=by
 grind [Tq,bx,tN]
def WX {a:Bool}{F F':C_}{v:VI}{st st1:St}(hsub:∀k∈F',k∈F)(hr:bx r a F v st=some st1):bx r a F' v st=some st1:=by
 cases a<;>grind [bx,tN,TC]
def ahw (a:Bool)(v:VI)(e:aK){F F':C_}(hsub:∀k∈F',k∈F):∀k∈iD a v e F',k∈iD a v e F:=by
 intro k hk;unfold iD at hk⊢
 grind
def aiZ (a:Bool)(v:VI)(e:aK)(F:C_):∀k∈F,k∈iD a v e F:=by
 intro k hk;unfold iD
 grind
theorem OR {nr:C_}{vs:Q_}:∀{l:C_}{F F':C_}{st st':St},(∀k∈F',k∈F)->d9 r nr vs l F st=some st'->d9 r nr vs l F' st=some st'
 |[],_,_,_,_,_,h=>h
 |i::l,F,F',st,st',hsub,h=>by
  simp only[d9]at h⊢;split at h
  .simp at h
  .split at h
   .simp at h
   .rename_i st1 h1;simp only[WX hsub h1];exact OR (ahw _ _ _ hsub) h
theorem aa7 {a:Bool}{F:C_}{v:VI}{e:aK}{hs:HS}(hsrt:bV e){R M:C_}(hf:a=false∨qn v.op≠.read∨iC v=some (.q,R,M)){st1:St}(hr:bx r a F v ⟨e,hs⟩=some st1):b4 r v ⟨e,hs⟩=some st1:=by
 cases a with
 |false=>exact hr
 |true =>
  simp only[bx,tN]at hr;split at hr
  .grind
  .grind
  .rename_i hn;split at hr
   .rename_i st2 h;simp only[ae]at hr;subst hr;have hk:=(hf.resolve_left s_).resolve_left (λh=>h hn);obtain⟨ρ,τ,K,q1,q2⟩:=Mx (lS hk) hsrt h;have:=q2 hs (K.1 _ (cA.only _ _));rw[K.2 hs]at this;exact this
   simp_all
theorem qJ {a b:Bool}{u v:VI}(h:BB a b u v=true):∃R1 M1 R2 M2,wG a u=some (R1,M1)∧wG b v=some (R2,M2)∧(∀k∈M1,k∉R2∧k∉M2)∧∀k∈M2,k∉R1∧k∉M1:=by
 grind [BB,gK]
def aax {a:Bool}{v:VI}{R M:C_}(h:wG a v=some (R,M)){e e':aK}(he:∀k∈R,get e' k=get e k)(F:C_):iD a v e' F=iD a v e F:=by
 cases a with
 |false=>rfl
 |true =>
  unfold wG at h;split at h
  .obtain⟨rfl,rfl⟩:=h;have:lQ v e'=lQ v e:=Ol λk hk=>he k (dg _ hk)
   grind [iD]
  simp_all
def KU (r:cH)(a b:Bool)(u v:VI)(F:C_)(st st1 st2:St):Prop :=
 ∃st1',bx r b F v st=some st1'∧bx r a (iD b v st.env F) u st1'=some st2∧∀k∈iD a u st1'.env (iD b v st.env F),k∈iD b v st1.env (iD a u st.env F)
theorem ahA {a b:Bool}{u v:VI}{R1 M1 R2 M2:C_}(f1:wG a u=some (R1,M1))(f2:wG b v=some (R2,M2))(d1:∀k∈M1,k∉R2∧k∉M2)(d2:∀k∈M2,k∉R1∧k∉M1){F:C_}{st st1 st2 st1':St}
  (h1:bx r a F u st=some st1)(k1:bx r b F v st=some st1')(k2:bx r a (iD b v st.env F) u st1'=some st2):KU r a b u v F st st1 st2:=by
 refine⟨st1',k1,k2,?_⟩;obtain⟨e,hs⟩:=st;obtain⟨_,g1,_⟩:=jg (r:=r) f1 F e hs _ h1;obtain⟨_,g2,_⟩:=jg (r:=r) f2 F e hs _ k1;rw[aax f1 (e:=e) (e':=st1'.env) (λk hk=>g2 k λhm=>(d2 k hm).1 hk),aax f2 (e:=e) (e':=st1.env) (λk hk=>g1 k λhm=>(d1 k hm).1 hk)];intro k hk
 cases a with
 |false=>exact hk
 |true =>
  cases b<;>grind [iD]
theorem Q3 {a b:Bool}{u v:VI}(h:ML a b u v=true){F:C_}{st st1 st2:St}(hsrt:bV st.env)(h1:bx r a F u st=some st1)(h2:bx r b (iD a u st.env F) v st1=some st2):KU r a b u v F st st1 st2:=by
 simp only[ML,af,b6]at h;obtain⟨hap,h⟩:=h;obtain⟨R1,M1,R2,M2,f1,f2,d1,d2⟩:=qJ hap;have l1:=λF=>jg (r:=r) f1 F
 have l2:=λF=>jg (r:=r) f2 F
 have h2':=WX (F':=F) (aiZ a u st.env F) h2;have fin:(∃st1',bx r b F v st=some st1'∧bx r a F u st1'=some st2)->(∀{s s':St},bx r a F u s=some s'->bx r a (iD b v st.env F) u s=some s')->KU r a b u v F st st1 st2:=by
  grind [ahA]
 obtain⟨e,hs⟩:=st;obtain⟨e1,hs1⟩:=st1;obtain⟨e2,hs2⟩:=st2;rcases h with ((h|h)|h)|h
 .obtain⟨q1,q2⟩:=HB h h1;subst q1;refine fin (tG (l1 F) (l2 F) d1 d2 hsrt h1 h2' h2' (q2 hs2)) λ{s s'} hs=>?_
  simp only[kS,af,bQ]at h;rw[h.1.1]at hs⊢;exact hs
 .obtain⟨q1,q2⟩:=HB h h2';subst q1;refine fin (tG (l1 F) (l2 F) d1 d2 hsrt h1 h2' (q2 hs) h1) λ{s s'} hs=>?_
  simp only[kS,af,bQ]at h;rw[h.1.1];exact hs
 .have q1:=L8 h.1 h1;have q2:=L8 h.2 h2'
  grind [tG,OD,Bool.not_eq_true',E4,bx,tN]
 .simp only[Xv,af]at h;obtain⟨⟨⟨⟨rfl,rfl⟩,hq⟩,hn⟩,hc⟩:=h;have q1:=L8 (r:=r) (a:=true) (i:=u) (by grind [OD]) h1;subst q1;have hnu:=E4 hn;have hsame:=adz hc h2;have hle:=cA.same (ids:=lQ u e) hsame (λk hk=>by grind [iD]);have hF:iD true v e F=F:=by grind [iD,Tq]
  refine fin (tG (l1 F) (l2 F) d1 d2 hsrt h1 h2' h2' (aeK hq hn hsrt h1 hs2 hle)) λ{s s'} hs=>?_
  simp_all
def Fm (m:Bool)(vs:D_)(i:Nat):D_:=match m with|true=>vs.set i .junk|false=>vs
def N6 (m:Bool)(e:aK)(j:Nat)(vs:D_)(i:Nat):aK:=match m with|true=>put e j (.tup (Fm m vs i))|false=>e
def ac9 (m:Bool)(x:AV):AV:=match m with|true=>x|false=>share x
def ZZ {m:Bool}{vs:D_}{i k:Nat}(h:i≠k):(Fm m vs i)[k]?=vs[k]?:=by
 cases m
 .rfl
 .exact List.getElem?_set_ne h
theorem aev {m n:Bool}{vs:D_}{i k:Nat}(h:i≠k):Fm n (Fm m vs i) k=Fm m (Fm n vs k) i:=by
 cases m<;>cases n<;>try rfl
 exact List.set_comm _ _ h
theorem Pj {m:Bool}{e:aK}{j:Nat}{vs:D_}{i:Nat}(hj:get e j=some (.tup vs))(q:Nat):get (N6 m e j vs i) q=if q=j then some (.tup (Fm m vs i)) else get e q:=by
 cases m
 all_goals grind [N6,Fm,ee]
theorem D4 {m:Bool}{e:aK}(h:bV e)(j:Nat)(vs:D_)(i:Nat):bV (N6 m e j vs i):=by
 cases m
 .exact h
 .exact h.put _ _
theorem F0 {u:VI}{j:Nat}{m:Bool}{i d:Nat}(ho:u.op=.ext j m i)(hd:u.dst=some d)(hg:u.guard=none)(ht:u.th=[])(e:aK)(hs:HS):b4 r u ⟨e,hs⟩ =
  match get e j with
  |some (.tup vs)=>match vs[i]? with
   |some x=>some ⟨put (N6 m e j vs i) d (firm (ac9 m x)),hs⟩
   |none=>none
  |_=>none:=by
 unfold b4 eE;simp only[hg,ho,cm,zj,hd,ht]
 cases get e j with
 |none=>rfl
 |some w =>
  cases w<;>try rfl
  rename_i vs;simp only
  cases vs[i]? with
  |none=>rfl
  |some x=>cases m<;>rfl
def afs {u v:VI}{j i k d c:Nat}{m n:Bool}(o1:u.op=.ext j m i)(o2:v.op=.ext j n k)(d1:u.dst=some d)(d2:v.dst=some c)(g1:u.guard=none)(g2:v.guard=none)(ht1:u.th=[])(ht2:v.th=[])
  (hik:i≠k)(hdc:d≠c)(hdj:d≠j)(hcj:c≠j){st st1 st2:St}(hsrt:bV st.env)(h1:b4 r u st=some st1)(h2:b4 r v st1=some st2):∃st1',b4 r v st=some st1'∧b4 r u st1'=some st2:=by
 obtain⟨e,hs⟩:=st;rw[F0 o1 d1 g1 ht1]at h1;split at h1
 .rename_i vs hj;split at h1
  .rename_i x hx;simp only[ae]at h1;subst h1;rw[F0 o2 d2 g2 ht2]at h2;have hj1:get (put (N6 m e j vs i) d (firm (ac9 m x))) j=some (.tup (Fm m vs i)):=by
    grind [ee,Pj]
   rw[hj1]at h2;simp only[ZZ hik]at h2;split at h2
   .rename_i y hy;simp only[ae]at h2;subst h2;have hj2:get (put (N6 n e j vs k) c (firm (ac9 n y))) j=some (.tup (Fm n vs k)):=by
     grind [ee,Pj]
    refine⟨⟨put (N6 n e j vs k) c (firm (ac9 n y)),hs⟩,by grind [F0],?_⟩;rw[F0 o1 d1 g1 ht1,hj2];simp only[ZZ (λh:k=i=>hik h.symm),hx,ae]
    congr 1
    refine r5 ((D4 ((D4 hsrt _ _ _).put _ _) _ _ _).put _ _) ((D4 ((D4 hsrt _ _ _).put _ _) _ _ _).put _ _) λq=>?_
    grind [ee,Pj,aev]
   simp_all
  simp_all
 simp_all
theorem LY {a b:Bool}{u v:VI}(h:po a b u v=true){F:C_}{st st1 st2:St}(hsrt:bV st.env)(h1:bx r a F u st=some st1)(h2:bx r b (iD a u st.env F) v st1=some st2):KU r a b u v F st st1 st2:=by
 simp only[po,af,bQ]at h;obtain⟨⟨⟨⟨rfl,rfl⟩,ht1⟩,ht2⟩,h⟩:=h;have ht1:=DX ht1;have ht2:=DX ht2;split at h
 .rename_i j m i l n k d c o1 o2 d1 d2 g1 g2;simp only[af,bQ,aq]at h;obtain⟨⟨⟨⟨rfl,hik⟩,hdc⟩,hdj⟩,hcj⟩:=h;obtain⟨st1',k1,k2⟩:=afs o1 o2 d1 d2 g1 g2 ht1 ht2 (gP hik) (gP hdc) (gP hdj) (gP hcj) hsrt h1 h2;exact⟨st1',k1,k2,λk hk=>hk⟩
 simp_all
def acv {a b:Bool}{u v:VI}(h:po a b u v=true):kS a u=true:=by
 grind [po,kS,sOp]
end
abbrev lT:=@List.map_set
abbrev rJ:=@List.getElem?_set_self
section
variable {r:cH}
theorem V7 {cs:D_}{off:Nat}{w:AV}(h:cs[off]?=some w):iq (.cells cs) (.cells (cs.set off (share w))):=by
 simp only[iq,iN,lT,AW];refine dz λi=>?_
 grind
def afh (w:AV):Prop:=(∃p m xs,w=.own p m xs)∨w=.nl
def afk {w:AV}(h:FK (firm w)=true):afh w:=by
 cases w with
 |own p m xs=>exact .inl ⟨_,_,_,rfl⟩
 |nl=>exact .inr rfl
 |_=>grind [firm,FK]
theorem Hk {a:Bool}{i:VI}(h:yT a i=true):∃p,a=true∧i.op=.ld none 2 p∧i.th=[]:=by
 simp only[yT,af]at h;obtain⟨⟨ha,hn⟩,hth⟩:=h;have hth:=DX hth;have hn:=aeF hn;unfold qn at hn
 grind
theorem ag9 {a:Bool}{i:VI}(h:yT a i=true)(e:aK)(F:C_):iD a i e F=F:=by
 obtain⟨p,rfl,hop,hth⟩:=Hk h
 grind [iD,qn]
theorem aiK {id off:Nat}{cs:D_}{w:AV}{h:ak}(hg:get h id=some (.cells cs))(hw:cs[off]?=some w):loadAt h none 2 (.ptr id off)=some (w,put h id (.cells (cs.set off (share w)))):=by
 grind [loadAt,oy]
def Ip {a:Bool}{F:C_}{u:VI}(h:yT a u=true){e e1:aK}{hs hs1:HS}(hr:bx r a F u ⟨e,hs⟩=some ⟨e1,hs1⟩):∃id off cs w,get hs.heap id=some (.cells cs)∧cs[off]?=some w∧afh w∧
  hs1=⟨put hs.heap id (.cells (cs.set off (share w))),hs.next⟩∧
   ∀hs' cs',get hs'.heap id=some (.cells cs')->cs'[off]?=some w->bx r a F u ⟨e,hs'⟩=some ⟨e1,⟨put hs'.heap id (.cells (cs'.set off (share w))),hs'.next⟩⟩:=by
 obtain⟨p,rfl,hop,hth⟩:=Hk h;have hn:qn u.op=.take:=by rw[hop];rfl
 simp only[bx,tN,hn]at hr⊢;split at hr
 .rename_i st1 h1;split at hr
  .rename_i d hd;split at hr
   .rename_i x hx;split at hr
    .rename_i ho;simp only[ae]at hr;subst hr;have go:eE r u ⟨e,hs⟩=some ⟨e1,hs1⟩∧∀hs',b4 r u ⟨e,hs'⟩=eE r u ⟨e,hs'⟩:=by
      have dead:∀st1:St,some (bS u.dst (.tup []) ⟨e,hs⟩)=some st1->get st1.env d=some x->False:=by
       grind [bS,ee,FK]
      unfold b4 at h1
      cases hg:u.guard<;>grind [b4]
     obtain⟨hgo,hsame⟩:=go;unfold eE at hgo;simp only[hth,hop,cm,An]at hgo;split at hgo
     .rename_i v st0 hv;split at hv
      .rename_i pv e0 hp;split at hv
       .rename_i v' h1' hl;simp only[ae,aJ]at hv;obtain⟨rfl,rfl⟩:=hv;rw[hd]at hgo;obtain⟨rfl,rfl⟩:=hgo;simp only[ee,bK,ae]at hx;subst hx;have hw:=afk ho;have back:∀hs' h2,loadAt hs'.heap none 2 pv=some (v',h2)->(match b4 r u ⟨e,hs'⟩ with
          |some st1=>match (some d:H_) with
           |some d=>match get st1.env d with
            |some a=>match FK a with
             |true=>some st1
             |false=>none
            |none=>none
           |none=>none
          |none=>none)=some ⟨put e0 d (firm v'),⟨h2,hs'.next⟩⟩:=by
         simp_all [eE,cm,An,bS,ee]
        cases pv<;>simp only[loadAt,reduceCtorEq]at hl
        .split at hl
         .split at hl
          .simp at hl
          .simp only[oy,ae,aJ]at hl
           grind [aiK]
         simp_all
        .split at hl
         .split at hl
          .split at hl
           .rename_i u hu;obtain⟨rfl,_⟩:=hl;unfold mi at hu;simp only at hu;split at hu
            .simp only[ae]at hu;subst hu;rcases hw with ⟨_,_,_,h⟩|h<;>simp at h
            simp_all
           simp_all
          simp_all
         simp_all
        .split at hl
         .rename_i u hu;obtain⟨rfl,_⟩:=hl;unfold mi at hu;simp only at hu;split at hu
          .simp only[ae]at hu;subst hu;rcases hw with ⟨_,_,_,h⟩|h<;>simp at h
          simp_all
         simp_all
       simp_all
      simp_all
     simp_all
    simp_all
   simp_all
  simp_all
 simp_all
theorem MF {α:Type}{l:List (Nat×α)}(h:bV l)(k:Nat)(a b:α):put (put l k a) k b=put l k b:=by
 grind [r5,bV.put,ee]
theorem afA {α:Type}{l:List (Nat×α)}(h:bV l){j k:Nat}(hjk:j≠k)(a b:α):put (put l j a) k b=put (put l k b) j a:=by
 grind [r5,bV.put,ee]
theorem abb {α:Type}{l:List (Nat×α)}(h:bV l){j k:Nat}(hjk:j≠k)(a:α):put (del l k) j a=del (put l j a) k:=by
 grind [r5,bV.put,bV.del,ee,De]
theorem aj4 {a b:Bool}{u v:VI}(hu:yT a u=true)(hv:yT b v=true)(hap:BB a b u v=true){F:C_}{st st1 st2:St}(inv:dW st)(h1:bx r a F u st=some st1)(h2:bx r b F v st1=some st2):∃st1',bx r b F v st=some st1'∧bx r a F u st1'=some st2:=by
 obtain⟨R1,M1,R2,M2,f1,f2,d1,d2⟩:=qJ hap;have l1:=jg (r:=r) f1 F;have l2:=jg (r:=r) f2 F;obtain⟨e,hs⟩:=st;obtain⟨e1,hs1⟩:=st1;obtain⟨e2,hs2⟩:=st2;have hsh:bV hs.heap:=inv.sh;obtain⟨i1,o1,c1,w1,g1,k1,n1,rfl,b1⟩:=Ip hu h1;obtain⟨i2,o2,c2,w2,g2,k2,n2,rfl,b2⟩:=Ip hv h2;rw[ee]at g2;by_cases hi:i2=i1
 .subst hi;rw[ac rfl]at g2;simp only[ae,Obj.cells.injEq]at g2;subst g2;rw[MF hsh]at h2;by_cases ho:o1=o2
  .subst ho;have hlt:o1<c1.length:=by
    grind
   rw[rJ hlt]at k2;simp only[ae]at k2;have hw1:w1=.nl:=by
    rcases n1 with ⟨p,m,xs,rfl⟩|h
    .subst k2
     cases p<;>rcases n2 with ⟨_,_,_,h⟩|h<;>simp[share]at h
    .exact h
   subst hw1;have hw2:w2=.nl:=by rw[<-k2];rfl
   subst hw2;rw[MF hsh];refine tG l1 l2 d1 d2 inv.se h1 h2 (b2 hs c1 g1 k1) ?_
   grind [ee]
  .rw[MF hsh];have k2':c1[o2]?=some w2:=u_;refine tG l1 l2 d1 d2 inv.se h1 h2 (b2 hs c1 g1 k2') ?_
   grind [ee,MF,List.set_comm]
 .rw[aa hi]at g2;refine tG l1 l2 d1 d2 inv.se h1 h2 (b2 hs c2 g2 k2) ?_
  grind [ee,afA]
def Xr {b:Bool}{v:VI}(h:Ui v=true)(hb:(!b ||yT b v)=true):b=false:=by
 grind [Hk,Ui,iC]
def aiW {a:Bool}{u v:VI}(hu:yT a u=true)(hv:Ui v=true)(hap:BB a false u v=true){F:C_}{st st1 st2:St}(inv:dW st)(h1:bx r a F u st=some st1)(h2:b4 r v st1=some st2):∃st1',b4 r v st=some st1'∧bx r a F u st1'=some st2:=by
 obtain⟨R1,M1,R2,M2,f1,f2,d1,d2⟩:=qJ hap;have l1:=jg (r:=r) f1 F;have l2:=jg (r:=r) f2 F;obtain⟨e,hs⟩:=st;obtain⟨e1,hs1⟩:=st1;obtain⟨e2,hs2⟩:=st2;have hsh:bV hs.heap:=inv.sh;have s1:bV e1:=(l1 e hs _ h1).1 inv.se;obtain⟨i1,o1,c1,w1,g1,k1,n1,rfl,b1⟩:=Ip hu h1;have hle:cA (put hs.heap i1 (.cells (c1.set o1 (share w1)))) hs.heap:=(cA.upd (o:=some (.cells (c1.set o1 (share w1)))) g1 (λo1 ho=>by grind [V7])).2;obtain⟨R,M,hk⟩:=OG hv;obtain⟨ρ,τ,K,q1,q2⟩:=Mx (lS hk) s1 h2;simp only at q1 q2;subst q1;rcases K with K|⟨id,⟨m,xs,ga⟩,hρ,hτ⟩
 .have hi:=q2 hs (K.1 _ hle);rw[K.2]at hi h2⊢;exact tG l1 l2 d1 d2 inv.se h1 h2 hi h1
 .have hi:=q2 hs (hρ _ hle);have hne:i1≠id:=by
   grind [ee]
  refine tG l1 l2 d1 d2 inv.se h1 h2 hi ?_
  grind [De,abb]
def aiF {b:Bool}{u v:VI}(hu:Ui u=true)(hv:yT b v=true)(hap:BB false b u v=true){F:C_}{st st1 st2:St}(inv:dW st)(h1:b4 r u st=some st1)(h2:bx r b F v st1=some st2):∃st1',bx r b F v st=some st1'∧b4 r u st1'=some st2:=by
 obtain⟨R1,M1,R2,M2,f1,f2,d1,d2⟩:=qJ hap;have l1:=jg (r:=r) f1 F;have l2:=jg (r:=r) f2 F;obtain⟨e,hs⟩:=st;obtain⟨e1,hs1⟩:=st1;obtain⟨e2,hs2⟩:=st2;have hsh:bV hs.heap:=inv.sh;obtain⟨R,M,hk⟩:=OG hu;obtain⟨ρ,τ,K,q1,q2⟩:=Mx (lS hk) inv.se h1;subst q1;obtain⟨i2,o2,c2,w2,g2,k2,n2,rfl,b2⟩:=Ip hv h2;have hle:∀{h:ak},get h i2=some (.cells c2)->cA h (put h i2 (.cells (c2.set o2 (share w2)))):=λg=>(cA.upd (o:=some (.cells (c2.set o2 (share w2)))) g (λo1 ho=>by grind [V7])).1
 rcases K with K|⟨id,_,hρ,hτ⟩
 .simp only[K.2]at g2 h2 h1 q2⊢;exact tG l1 l2 d1 d2 inv.se h1 h2 h2 (q2 _ (K.1 _ (hle g2)))
 .simp only[hτ]at g2 h2 h1 q2⊢;rw[De]at g2;split at g2
  .simp at g2
  .rename_i hne;refine tG l1 l2 d1 d2 inv.se h1 h2 (b2 hs c2 g2 k2) ?_;have:=q2 ⟨put hs.heap i2 (.cells (c2.set o2 (share w2))),hs.next⟩ (hρ _ (hle g2));rw[abb hsh hne];exact this
def Iw {a:Bool}{u:VI}(h:(!a ||yT a u)=true){F:C_}{st st1:St}(hr:bx r a F u st=some st1):b4 r u st=some st1∧(a=true->∃d x,u.dst=some d∧get st1.env d=some x∧FK x=true):=by
 cases a with
 |false=>exact⟨hr,λh=>by simp at h⟩
 |true =>
  obtain⟨p,_,hop,hth⟩:=Hk h;have hn:qn u.op=.take:=by rw[hop];rfl
  simp only[bx,tN,hn]at hr
  grind
def TY {a:Bool}{u:VI}(h:(!a ||yT a u)=true){F:C_}{st st1:St}(hr:b4 r u st=some st1)(ho:a=true->∃d x,u.dst=some d∧get st1.env d=some x∧FK x=true):bx r a F u st=some st1:=by
 cases a with
 |false=>exact hr
 |true =>
  obtain⟨p,_,hop,hth⟩:=Hk h;have hn:qn u.op=.take:=by rw[hop];rfl
  grind [bx,tN]
theorem I9 {a:Bool}{u:VI}(h:(!a ||yT a u)=true)(e:aK)(F:C_):iD a u e F=F:=by
 cases a with
 |false=>rfl
 |true=>grind [ag9]
theorem Tu {u v:VI}(h:Df u v=true):∃k1 R1 M1 k2 R2 M2,iC u=some (k1,R1,M1)∧iC v=some (k2,R2,M2)∧(∀k∈M1,k∉M2):=by
 grind [Df,gK]
theorem acS {a b:Bool}{u v:VI}(h:QK a b u v=true){F:C_}{st st1 st2:St}(inv:dW st)(h1:bx r a F u st=some st1)(h2:bx r b (iD a u st.env F) v st1=some st2):KU r a b u v F st st1 st2:=by
 simp only[QK,af]at h;obtain⟨⟨ha,hb⟩,h⟩:=h;rw[I9 ha]at h2;have fin:(∃st1',bx r b F v st=some st1'∧bx r a F u st1'=some st2)->KU r a b u v F st st1 st2:=by
  intro ⟨st1',k1,k2⟩;refine⟨st1',k1,by grind [I9],?_⟩
  grind [I9]
 simp only[b6,af]at h;rcases h with h|⟨hap,h⟩
 .obtain⟨p1,o1⟩:=Iw ha h1;obtain⟨p2,o2⟩:=Iw hb h2;obtain⟨st1',q1,q2⟩:=abY h inv p1 p2;obtain⟨k1,R1,M1,k2,R2,M2,e1,e2,hap⟩:=Tu h;obtain⟨en1,hs1⟩:=st1;obtain⟨en1',hs1'⟩:=st1';refine fin ⟨_,TY hb q1 λhn=>?_,TY ha q2 λhn=>?_⟩
  .obtain⟨d,x,hd,hx,ho⟩:=o2 hn;refine⟨d,x,hd,?_,ho⟩;obtain⟨_,_,_,_,_,g,_⟩:=lS e1 en1' hs1' _ q2
   grind [K7]
  .obtain⟨d,x,hd,hx,ho⟩:=o1 hn;refine⟨d,x,hd,?_,ho⟩;obtain⟨_,_,_,_,_,g,_⟩:=lS e2 en1 hs1 _ p2
   grind [K7]
 .rcases h with (h|h)|h
  .grind [aj4]
  .have:=Xr h.2 hb;subst this;exact fin (aiW h.1 h.2 hap inv h1 h2)
  .have:=Xr h.1 ha;subst this;exact fin (aiF h.1 h.2 hap inv h1 h2)
theorem ahq {a:Bool}{i:VI}(h:yT a i=true):∃R M,iC i=some (.t,R,M):=by
 obtain⟨p,_,hop,hth⟩:=Hk h
 simp_all [iC]
theorem V6 {st st1:St}(inv:dW st)(he:bV st1.env)(hh:st1.hs=st.hs):dW st1:=⟨he,by grind [dW.sh],by grind [dW.fr]⟩
def ajv {u:VI}{j:Nat}{m:Bool}{i d:Nat}(ho:u.op=.ext j m i)(hd:u.dst=some d)(hg:u.guard=none)(ht:u.th=[]){st st1:St}(hs:bV st.env)(h1:b4 r u st=some st1):bV st1.env:=by
 obtain⟨e,hs0⟩:=st
 grind [F0,bV.put,D4]
theorem NF {a b:Bool}{u v:VI}(h:po a b u v=true){F:C_}{st st1:St}(hs:bV st.env)(h1:bx r a F u st=some st1):bV st1.env:=by
 simp only[po,af,bQ]at h;obtain⟨⟨⟨⟨rfl,rfl⟩,ht1⟩,ht2⟩,h⟩:=h;split at h
 .rename_i j m i l n k d c o1 o2 dd1 dd2 g1 g2;exact ajv o1 dd1 g1 (DX ht1) hs h1
 simp_all
def afu {a b:Bool}{u v:VI}(h:jB a b u v=true)(hk:kS b v=false){F:C_}{st st1:St}(inv:dW st)(h1:bx r a F u st=some st1):dW st1:=by
 simp only[jB,b6]at h;rcases h with (h|h)|h
 .obtain⟨e,hs⟩:=st;simp only[ML,af,b6]at h;obtain⟨hap,h⟩:=h;obtain⟨R1,M1,R2,M2,f1,f2,d1,d2⟩:=qJ hap;have se:=(jg (r:=r) f1 F e hs _ h1).1 inv.se
  grind [V6,HB,L8,Xv,OD]
 .exact V6 inv (NF h inv.se h1) (HB (acv h) h1).1
 .simp only[af]at h;obtain⟨_,h⟩:=h;simp only[QK,af]at h;obtain⟨⟨ha,hb⟩,h⟩:=h;obtain⟨p1,_⟩:=Iw ha h1
  grind [Tu,Ej,ahq,OG]
def aho {a b:Bool}{u v:VI}(h:jB a b u v=true)(hk:kS b v=true){F:C_}{st st1:St}(hs:bV st.env)(h1:bx r a F u st=some st1):bV st1.env:=by
 simp only[jB,b6]at h;rcases h with (h|h)|h
 .obtain⟨e,hs0⟩:=st;simp only[ML,af]at h;obtain⟨R1,M1,R2,M2,f1,f2,d1,d2⟩:=qJ h.1;exact(jg (r:=r) f1 F e hs0 _ h1).1 hs
 all_goals grind [NF]
def ak0 {a b:Bool}{u v:VI}(h:jB a b u v=true)(hk:kS b v=true){F:C_}{st st1 st2:St}(hs:bV st.env)(h1:bx r a F u st=some st1)(h2:bx r b (iD a u st.env F) v st1=some st2):KU r a b u v F st st1 st2:=by
 grind [jB,Q3,LY]
def aml {a b:Bool}{u v:VI}(h:jB a b u v=true){F:C_}{st st1 st2:St}(inv:dW st)(h1:bx r a F u st=some st1)(h2:bx r b (iD a u st.env F) v st1=some st2):KU r a b u v F st st1 st2:=by
 grind [jB,Q3,dW.se,LY,acS]
end
abbrev sq:=@List.nodup_cons
inductive HJ (ops:Array Oper):Nat->Nat->Prop
 |one {i:Nat}{o:Oper}{e:Edge}:ops[i]?=some o->e∈o.after->ui e.ground=true->HJ ops i e.on
 |more {i j:Nat}{o:Oper}{e:Edge}:ops[i]?=some o->e∈o.after->ui e.ground=true->HJ ops e.on j->HJ ops i j
def IM {k:Nat}:∀{a l:C_},k∈Lb a l->k∈a∨k∈l
 |[],l,h=>.inr h
 |x::r,l,h=>by
  simp only[Lb]at h;split at h
  .rcases IM h with h|h<;>simp_all
  .rcases IM h with h|h<;>grind
def P3 (ops:Array Oper)(tab:N_):Prop:=∀i l,get tab i=some l->∀j∈l,HJ ops i j
theorem QC {ops:Array Oper}{tab:N_}(ht:P3 ops tab){i:Nat}{o:Oper}(ho:ops[i]?=some o):∀{es:List Edge},(∀e∈es,e∈o.after)->∀j,j∈MK tab es->HJ ops i j
 |[],_,j,h=>by simp[MK]at h
 |e::r,hes,j,h=>by
  simp only[MK]at h;have hr:=QC ht ho (es:=r) (λx hx=>hes x (.tail _ hx)) j;split at h
  .rename_i hw;rcases IM h with h|h
   .rcases aQ.1 h with rfl|h
    .exact .one ho (hes e (.head _)) hw
    .split at h
     .rename_i l hl;exact .more ho (hes e (.head _)) hw (ht _ _ hl _ h)
     simp_all
   simp_all
  simp_all
def Nq {ops:Array Oper}:∀{l:C_}{tab:N_},P3 ops tab->P3 ops (Eb ops l tab)
 |[],_,ht=>ht
 |i::l,tab,ht=>by
  simp only[Eb];refine Nq λk m h j hj=>?_
  rw[gv]at h;split at h
  .grind [QC]
  .exact ht k m h j hj
def abD (anc:N_)(nr:C_)(vs:Q_)(j i:Nat):Prop :=
 (qb anc i j=true∨∃u v,vs[j]?=some u∧vs[i]?=some v∧jB (dl j nr) (dl i nr) u v=true)∨(rU anc vs i=true∧(∀k,k<vs.length->qb anc k i=true->qb anc k j=true)∧qb anc j i=false)
def P7 {anc:N_}{i j:Nat}:∀{n:Nat},PE anc i j n=true->∀k,k<n->qb anc k i=true->qb anc k j=true
 |0,_,k,hk,_=>by omega
 |n+1,h,k,hk,hd=>by
  simp only[PE,af,b6,bQ]at h;by_cases e:k=n
  .simp_all
  .exact P7 h.2 k o_ hd
def af1 {ops:Array Oper}{anc:N_}(ha:P3 ops anc){k i:Nat}(h:qb anc k i=true):HJ ops k i:=by
 unfold qb at h;split at h
 .rename_i l hl;exact ha _ _ hl _ (qQ.1 h)
 simp_all
structure pq (P:Program)(n:Nat)(ops:Array Oper)(nr:C_)(vs:Q_)(perm:C_)(anc:N_):Prop where
 len:vs.length=ops.size
 vi:∀(i:Nat) (v:VI) (o:Oper),vs[i]?=some v->ops[i]?=some o->zk P n ops v o=true
 edge:∀(i:Nat) (o:Oper),ops[i]?=some o->∀e∈o.after,e.on<ops.size∧(txG e.ground=true->e.on<i)
 pair:perm.Pairwise λj i=>abD anc nr vs j i
 path:∀k i,qb anc k i=true->HJ ops k i
 gco:∃gl:C_,(∀i,i<ops.size->i∈gl)∧gl.Pairwise (λj i=>∀o,ops[j]?=some o->∀e∈o.after,Re e.ground=true->e.on≠i)∧∀j∈gl,∀o,ops[j]?=some o->∀e∈o.after,Re e.ground=true->e.on≠j
 nd:perm.Nodup
 lt:∀i∈perm,i<ops.size
 near:∀(i:Nat) (v:VI),dl i nr=true->vs[i]?=some v->qn v.op≠.read∨∃R M,iC v=some (.q,R,M)
 all:∀i,i<ops.size->i∈perm
def Nf {P:Program}{n:Nat}{ops:Array Oper}{k:Nat}:∀{vs:Q_}{os:List Oper}{b:Nat},C4 P n ops k b vs os=true->vs.length=os.length∧
  ∀(i:Nat) (v:VI) (o:Oper),vs[i]?=some v->os[i]?=some o->zk P n ops v o=true∧∀e∈o.after,e.on<k∧(txG e.ground=true->e.on<b+i)
 |[],[],_,_=>⟨rfl,λi v o h=>by simp at h⟩
 |x::vs,p::os,b,h=>by
  simp only[C4,af]at h;obtain⟨⟨h1,h3⟩,h4⟩:=h;obtain⟨k1,k2⟩:=Nf h4
  grind [Nat.blt_eq]
 |[],_::_,_,h=>by simp[C4]at h
 |_::_,[],_,h=>by simp[C4]at h
def NL {anc:N_}{nr:C_}{vs:Q_}{j:Nat}:∀{l:C_},MM anc nr vs j l=true->∀i∈l,abD anc nr vs j i
 |[],_,i,hi=>by simp at hi
 |x::r,h,i,hi=>by
  simp only[MM,af,b6]at h;rcases aQ.1 hi with rfl|hi
  .rcases h.1 with (h|h)|h
   .exact .inl (.inl h)
   .split at h
    .rename_i u v h1 h2;exact .inl (.inr ⟨u,v,h1,h2,h⟩)
    simp_all
   .simp only[bQ]at h;exact .inr ⟨h.1.1,P7 h.1.2,h.2⟩
  .exact NL h.2 i hi
def acj {ops:Array Oper}{j:Nat}{l:C_}(h:W1 ops j l=true):∀i∈l,∀o,ops[j]?=some o->∀e∈o.after,Re e.ground=true->e.on≠i:=by
 grind [W1,qQ]
def TQ {ops:Array Oper}:∀{l:C_},Vz ops l=true->l.Pairwise (λj i=>∀o,ops[j]?=some o->∀e∈o.after,Re e.ground=true->e.on≠i)∧∀j∈l,∀o,ops[j]?=some o->∀e∈o.after,Re e.ground=true->e.on≠j
 |[],_=>⟨.nil,λi hi=>by simp at hi⟩
 |j::r,h=>by
  simp only[Vz,af]at h;obtain⟨h0,h4⟩:=h;obtain⟨k4,k5⟩:=TQ h4;have hw:=acj h0
  simp_all
def Nz {ops:Array Oper}{anc:N_}{nr:C_}{vs:Q_}:∀{l:C_},Mg ops anc nr vs l=true->l.Pairwise (λj i=>abD anc nr vs j i)∧
  l.Nodup∧∀i∈l,i<vs.length
 |[],_=>⟨.nil,.nil,λi hi=>by simp at hi⟩
 |j::r,h=>by
  simp only[Mg,af,bQ]at h;obtain⟨⟨⟨h1,h2⟩,h3⟩,h4⟩:=h;obtain⟨k1,k2,k3⟩:=Nz h4;refine⟨.cons (NL h1) k1,sq.2 ⟨λhm=>?_,k2⟩,λi hi=>?_⟩
  all_goals grind [qQ,Nat.blt_eq]
theorem K4 {l:C_}:∀{n:Nat},Qc l n=true->∀i,i<n->i∈l
 |0,_,i,hi=>by omega
 |n+1,h,i,hi=>by
  simp only[Qc,af]at h;rcases bH i n with h1|h1
  .exact K4 h.2 i h1
  grind [qQ]
def TW {vs:Q_}:∀{nr:C_},U9 vs nr=true->∀(i:Nat) (v:VI),dl i nr=true->vs[i]?=some v->qn v.op≠.read∨∃R M,iC v=some (.q,R,M)
 |[],_,i,v,h,_=>by simp[dl]at h
 |j::r,h,i,v,hg,hv=>by
  simp only[U9,af]at h;rcases aQ.1 (qQ.1 hg) with e|hm
  .grind [DK,N0]
  .exact TW h.2 i v (qQ.2 hm) hv
def aj3 {P:Program}{n:Nat}{ops:Array Oper}{gco nr:C_}{vs:Q_}{perm:C_}(h:DA P n ops perm gco nr vs=true):pq P n ops nr vs perm (Eb ops perm []):=by
 simp only[DA,af]at h;obtain⟨⟨⟨⟨⟨h1,hnr⟩,hga⟩,hg⟩,h2⟩,h3⟩:=h;obtain⟨g1,g2⟩:=TQ hg;obtain⟨k1,k2⟩:=Nf h1;have hl:vs.length=ops.size:=o_;have ha:P3 ops (Eb ops perm []):=Nq λi l h=>by simp[xH]at h
 obtain⟨q1,q2,q3⟩:=Nz h3;have hget:∀(i:Nat) (o:Oper),ops[i]?=some o->ops.toList[i]?=some o:=λi o h=>by simp_all
 refine⟨hl,λi v o hv ho=>(k2 i v o hv (hget i o ho)).1,λi o ho e he=>?_,q1,λk i h=>af1 ha h,⟨gco,λi hi=>K4 hga i o_,g1,g2⟩,q2,λi hi=>by simp_all,TW hnr,λi hi=>?_⟩
 .have hi:i<vs.length:=by
   grind
  have:=(k2 i vs[i] o s_ (hget i o ho)).2 e he
  simp_all
 grind [K4]
abbrev pP:=@List.Sublist.append_left
abbrev rE:=@List.sublist_cons_self
section
variable {P:Program}{r:cH}
theorem VA {g:Gh}{w:World}:∀{l:ak}{O:Nat->Nat},yk P g w l O->∀{id:Nat}{o:Obj},get l id=some o->∃b,g.obj id=some b
 |[],_,_,id,o,h=>by simp[xH]at h
 |(k,v)::l,O,rh,id,o,h=>by
  obtain⟨Q1,Q2,q1,q2,_⟩:=rh;rw[gv]at h;split at h
  .cases v<;>grind [iF]
  .exact VA q2 h
def S.heap_fresh {g:Gh}{w:World}{t:E_}{O:Nat->Nat}{st:St}(s:S P g w st t O){id:Nat}(h:st.hs.next<=id):get st.hs.heap id=none:=by
 obtain⟨Oe,Oh,re,rh,ho⟩:=s.parts
 cases hg:get st.hs.heap id<;>grind [VA,fresh]
def Ji {nr:C_}{i:Nat}{F:C_}{v:VI}{st st1:St}(hn:dl i nr=true->qn v.op≠.read∨∃R M,iC v=some (.q,R,M))(hsrt:bV st.env)(h:bx r (dl i nr) F v st=some st1):b4 r v st=some st1:=by
 obtain⟨e,hs⟩:=st
 cases hg:dl i nr with
 |false=>rw[hg]at h;exact h
 |true =>
  rcases hn hg with h1|⟨R,M,h1⟩
  .exact aa7 (R:=[]) (M:=[]) hsrt (.inr (.inl h1)) h
  grind [aa7]
theorem NX {nr:C_}{vs:Q_}{i:Nat}{v:VI}(hv:vs[i]?=some v)(hk:kS (dl i nr) v=true){l2:C_}:∀{l1:C_}{F:C_}{st st':St},(∀j∈l1,∃u,vs[j]?=some u∧jB (dl j nr) (dl i nr) u v=true)->bV st.env->
  d9 r nr vs (l1++i::l2) F st=some st'->d9 r nr vs (i::(l1++l2)) F st=some st'
 |[],F,st,st',_,_,h=>h
 |j::l1,F,st,st',hj,inv,h=>by
  obtain⟨u,hu,hm⟩:=hj j (.head _);simp only[aI,d9,hu]at h;split at h
  .simp at h
  .rename_i st1 h1;have h2:=NX hv hk (λk hk=>hj k (.tail _ hk)) (aho hm hk inv h1) h;simp only[d9,hv]at h2;split at h2
   .simp at h2
   .rename_i st2 h3;obtain⟨st1',k1,k2,k3⟩:=ak0 hm hk inv h1 h3
    grind [d9,OR]
theorem Nk {nr:C_}{vs:Q_}{i:Nat}{v:VI}(hv:vs[i]?=some v)(hk:kS (dl i nr) v=false){l2:C_}:∀{l1:C_}{F:C_}{st st':St},(∀j∈l1,∃u,vs[j]?=some u∧jB (dl j nr) (dl i nr) u v=true)->dW st->
  d9 r nr vs (l1++i::l2) F st=some st'->d9 r nr vs (i::(l1++l2)) F st=some st'
 |[],F,st,st',_,_,h=>h
 |j::l1,F,st,st',hj,inv,h=>by
  obtain⟨u,hu,hm⟩:=hj j (.head _);simp only[aI,d9,hu]at h;split at h
  .simp at h
  .rename_i st1 h1;have h2:=Nk hv hk (λk hk=>hj k (.tail _ hk)) (afu hm hk inv h1) h;simp only[d9,hv]at h2;split at h2
   .simp at h2
   .rename_i st2 h3;obtain⟨st1',k1,k2,k3⟩:=aml hm inv h1 h3
    grind [d9,OR]
def NC {nr:C_}{vs:Q_}{i:Nat}{v:VI}(hv:vs[i]?=some v){l2 l1:C_}{F:C_}{st st':St}(hj:∀j∈l1,∃u,vs[j]?=some u∧jB (dl j nr) (dl i nr) u v=true)(inv:dW st)
  (h:d9 r nr vs (l1++i::l2) F st=some st'):d9 r nr vs (i::(l1++l2)) F st=some st':=by
 cases hk:kS (dl i nr) v<;>grind [NX,dW.se,Nk]
theorem Td {α:Type}:∀{l:List (Nat×α)},bV l->∀{p:Nat×α},p∈l->get l p.1=some p.2
 |[],_,p,hp=>by simp at hp
 |(k,v)::r,hs,p,hp=>by
  rw[gv];rcases aQ.1 hp with rfl|hp
  .simp
  .have h1:=(bz.1 hs).1 p hp;have:k≠p.1:=(Cv.ne h1).symm;rw[aa this];exact Td (bz.1 hs).2 hp
def PU {anc:N_}{d:Nat}{l:C_}{i:Nat}:∀{vs:Q_}{b:Nat},Qd anc d l i b vs=true->∀k v,vs[k]?=some v->b+k≠i->qb anc (b+k) i=true∨∃R M,iS v=some (R,M)∧d∉M∧(qb anc i (b+k)=true∨∀q∈l,q∉M)
 |[],_,_,k,v,h,_=>by simp at h
 |x::r,b,h,k,v,hv,hne=>by
  simp only[Qd,af,b6]at h
  cases k with
  |zero =>
   grind [Nat.beq_eq,gK,qQ]
  |succ k =>
   have:=PU h.2 k v hv (by omega)
   grind
theorem CK {v:VI}{d:Nat}(h:fW v=some d):(∃zs,v=⟨some d,none,.alloc zs,[]⟩)∨∃z l c th,v=⟨some d,none,.mkslice z l c,th⟩∧wN l=true∧wN c=true:=by
 obtain⟨dst,gd,op,th⟩:=v
 grind [fW]
theorem wO {v:VI}{d:Nat}(h:fW v=some d):v.dst=some d∧v.guard=none∧v.op≠.bad:=by
 grind [CK]
def uq {anc:N_}{vs:Q_}{i:Nat}(h:rU anc vs i=true):∃v d,vs[i]?=some v∧fW v=some d∧(∀k u,vs[k]?=some u->k≠i->qb anc k i=true∨∃R M,iS u=some (R,M)∧d∉M∧(qb anc i k=true∨∀q∈wE v,q∉M))∧∀j,qb anc i j=true->rU anc vs j=false:=by
 unfold rU at h;split at h
 .rename_i v hv;split at h
  .rename_i d hd;simp only[af]at h;refine⟨v,d,hv,hd,λk u hk hne=>by simpa using PU h.1 k u hk o_,λj hj=>?_⟩
   grind [qb,qQ,rU]
  simp_all
 simp_all
theorem afi {v:VI}{k:yh}{R M:C_}(h:iC v=some (k,R,M)):iS v=some (R,M):=by grind [iS]
theorem Tz {a b:Bool}{u v:VI}(h:jB a b u v=true)(hne:po a b u v=false):∃R1 M1 R2 M2,iS u=some (R1,M1)∧iS v=some (R2,M2)∧(∀k∈M1,k∉R2∧k∉M2)∧∀k∈M2,k∉R1:=by
 have sub:∀{a:Bool}{v:VI}{R M:C_},wG a v=some (R,M)->∃R',iS v=some (R',M)∧∀k∈R',k∈R:=λ{a v R M} h=>by
  grind [wG]
 have ap:BB a b u v=true->∃R1 M1 R2 M2,iS u=some (R1,M1)∧iS v=some (R2,M2)∧(∀k∈M1,k∉R2∧k∉M2)∧∀k∈M2,k∉R1:=λh=>by
  grind [qJ]
 grind [jB,ML,QK,Df,afi,gK]
theorem Rz {a b:Bool}{u v:VI}{d:Nat}(hu:fW u=some d):po a b u v=false∧po b a v u=false:=by
 grind [CK,po]
theorem Qq {v:VI}{d:Nat}(hv:fW v=some d){R M:C_}(h:iS v=some (R,M)):∀q∈wE v,q∈R:=by
 rcases CK hv with ⟨zs,rfl⟩|⟨z,l,c,th,rfl,_,_⟩
 .grind [wE]
 .intro q hq
  cases th with
  |nil =>
   simp only[iS,iC,Gj,z7,ae,aJ]at h;rw[<-h.1];exact bT _ hq
  |cons p th =>
   simp only[iS,iC,Gj,z7,ae,aJ]at h;rw[<-h.1];exact bT _ hq
def ab8 {a b:Bool}{u v:VI}{d:Nat}(h:jB a b u v=true)(hu:fW u=some d):∃R M,iS v=some (R,M)∧∀q∈d::wE u,q∉M:=by
 grind [Tz,Rz,Bz,wO,Qq]
def Qv {a b:Bool}{u v:VI}{d:Nat}(h:jB a b u v=true)(hv:fW v=some d):∃R M,iS u=some (R,M)∧∀q∈d::wE v,q∉M:=by
 grind [Tz,Rz,Bz,wO,Qq]
def abc {e e':aK}{x:Rd}(hs:wN x=true)(h:∀q∈md x,get e' q=get e q){v:AV}{e1:aK}(hr:rd e x=some (v,e1)):e1=e∧rd e' x=some (v,e'):=by
 cases x with
 |s i =>
  have hi:=h i (by simp[md]);simp only[rd]at hr⊢;split at hr<;>simp_all
 |m i=>simp[wN]at hs
 |c u =>
  grind [rd]
def aau {z:U_}{l c:Rd}{st st2:St}{a:AV}{st1:St}(hl:wN l=true)(hc:wN c=true)(h:∀q∈bv [l,c],get st2.env q=get st.env q)(hr:ka z l c st=some (a,st1)):st1=st∧ka z l c st2=some (a,st2):=by
 unfold ka at hr⊢;split at hr
 .rename_i n e hn;obtain⟨rfl,h1⟩:=abc hl (λq hq=>h q (by simp[bv,hq])) hn;split at hr
  .rename_i m e2 hm;obtain⟨rfl,h2⟩:=abc hc (λq hq=>h q (by simp[bv,hq])) hm;split at hr
   .split at hr
    .obtain⟨rfl,rfl⟩:=hr
     simp_all
    simp_all
   simp_all
  simp_all
 simp_all
inductive yn (g:Gh) (w:World) (st:St) (d:Nat):VI->Value->(Nat->Nat)->Prop
 |var {zs:D_}{b:Nat}{c:E_}{el:TypeId}:mc zs c.toList=true->w.heap[b]?=some (.cells c el (0,0))->(∀o,¬g.pm b o)->yn g w st d ⟨some d,none,.alloc zs,[]⟩ (.pointer (some ⟨b,0,none⟩)) (one b)
 |list {z:U_}{l c:Rd}{th:O_}{a:AV}{x:Value}{A:Nat->Nat}:wN l=true->wN c=true->ka z l c st=some (a,st)->RV g w a x A->yn g w st d ⟨some d,none,.mkslice z l c,th⟩ x A
structure acs (g:Gh)(w:World)(t:E_)(O:Nat->Nat)(st:St)(anc:N_)(vs:Q_)(i:Nat)(A:Nat->Nat):Prop where
 late:rU anc vs i=true
 hi:∀b,A b≠0->b<w.heap.size
 le:∀b,A b+O b<=1
 it:∃v d x,vs[i]?=some v∧d<t.size∧t[d]?=some x∧yn g w st d v x A
def yn.dst {g:Gh}{w:World}{st:St}{d:Nat}{v:VI}{x:Value}{A:Nat->Nat}(h:yn g w st d v x A):fW v=some d:=by
 cases h<;>grind [fW]
def yn.keep {g g':Gh}{w w':World}{st st':St}{d:Nat}{v:VI}{x:Value}{A:Nat->Nat}{T:Nat->Prop}(h:yn g w st d v x A)(hx:bg g w g' w' T)(hA:∀b,A b≠0->b<w.heap.size∧¬T b)
  (he:∀q∈wE v,get st'.env q=get st.env q):yn g' w' st' d v x A:=by
 cases h with
 |var h1 h2 h3 =>
  rename_i zs b c el;have hb:=hA b s_;obtain⟨b1,b2⟩:=hx.blk b hb.1 hb.2;exact .var h1 (b1.trans h2) λo ho=>h3 o (b2 o ho)
 |list h1 h2 h3 h4=>exact .list h1 h2 (aau h1 h2 he h3).2 (RV.ext hx _ _ _ h4 λb hb=>(hA b hb).2)
def S.adopt {g:Gh}{w:World}{t:E_}{O:Nat->Nat}{st:St}{zs:D_}{d b:Nat}{c:E_}{el:_}(s:S P g w st t O)(hb:b<w.heap.size)(h0:O b=0)(hp:∀o,¬g.pm b o)(hz:mc zs c.toList=true)
  (hh:w.heap[b]?=some (.cells c el (0,0)))(hd:d<t.size)(ht:t[d]?=some (.pointer (some ⟨b,0,none⟩))) :
  ∃g' O',S P g' w ⟨put st.env d (.ptr st.hs.next 0),⟨put st.hs.heap st.hs.next (.cells zs),st.hs.next+1⟩⟩ t O'∧bg g w g' w (λ_=>False)∧(∀x,x≠b->O' x<=O x)∧g'.pm=g.pm:=by
 have hn:=s.fresh st.hs.next (ai _)
 have hx:bg g w (g.add st.hs.next b 0 1 zs.length) w (λ_=>False):=(bg.refl g w _).add hn _ _ _ _;have hfr:=s.heap_fresh (ai st.hs.next);obtain⟨Oe,Oh,re,rh,ho⟩:=s.parts;have re':=ja.ext hx re s_;have rh':yk P (g.add st.hs.next b 0 1 zs.length) w st.hs.heap Oh:=rh.imp' λk v O1 _ _ q=>q.ext hx s_ (by simp)
 have hk:∀p∈st.hs.heap,p.1≠st.hs.next:=by
  intro p hp e
  grind [Td,sh]
 have r:iF P (g.add st.hs.next b 0 1 zs.length) w st.hs.next (.cells zs) (λx=>zero x+one b x):=by
  exact⟨b,c,el,zero,by simp[Gh.add],by simp[Gh.add],by simp[Gh.add],by simp[Gh.add],hh,RVs.consts hz,λo ho=>hp o ho,λ_=>rfl⟩
 rw[<-oS hk]at rh';obtain⟨O3,r3,h3⟩:=RL.put s.sh rh' r;have hle:∀x,one b x+O x<=1:=λx=>by
  by_cases e:x=b
  .simp_all
  .have:=s.le x;grind [one]
 have s1:S P (g.add st.hs.next b 0 1 zs.length) w ⟨st.env,⟨put st.hs.heap st.hs.next (.cells zs),st.hs.next+1⟩⟩ t (λx=>one b x+O x):=by
  refine⟨s.se,s.sh.put _ _,⟨Oe,O3,re',r3,λx=>?_⟩,hle,λx hxx=>?_,λi hi=>?_,s.pmlt⟩
  .grind
  .by_cases e:x=b
   .omega
   .exact s.hi x (by grind [one])
  grind [Gh.add,fresh]
 have rv:RV (g.add st.hs.next b 0 1 zs.length) w (.ptr st.hs.next 0) (.pointer (some ⟨b,0,none⟩)) zero:=by
  simp_all [RV,Gh.add]
 obtain⟨O4,s4,l4⟩:=s1.setTmp hd rv (λx=>by simp_all) (λx hx=>by simp at hx);have htt:t.setIfInBounds d (.pointer (some ⟨b,0,none⟩))=t:=by
  grind
 rw[htt]at s4;exact⟨_,O4,s4,hx,λx hne=>by
  grind [one],rfl⟩
def S.setOther {g:Gh}{w:World}{t:E_}{O:Nat->Nat}{st:St}(s:S P g w st t O){d:Nat}(hd:get st.env d=none)(x:Value):S P g w st (t.setIfInBounds d x) O:=by
 obtain⟨Oe,Oh,re,rh,ho⟩:=s.parts;refine⟨s.se,s.sh,⟨Oe,Oh,re.imp' λk v O1 hm _ q=>?_,rh,ho⟩,s.le,s.hi,s.fresh,s.pmlt⟩;have hk:d≠k:=by
  rintro rfl
  have:=Td s.se hm
  simp_all
 refine⟨u_,?_⟩;have:(t.setIfInBounds d x).getD k undef=t.getD k undef:=by
  simp_all
 grind
def yn.make {g:Gh}{w:World}{t:E_}{O:Nat->Nat}{st st1:St}{d:Nat}{v:VI}{x:Value}{A:Nat->Nat}(h:yn g w st d v x A)(s:S P g w st t O)(hle:∀b,A b+O b<=1)(hhi:∀b,A b≠0->b<w.heap.size)(hd:d<t.size)(ht:t[d]?=some x)
  (hr:b4 r v st=some st1):∃g' O',S P g' w st1 t O'∧bg g w g' w (λb=>A b≠0∨O b≠0)∧(∀b,O' b<=A b+O b):=by
 cases h with
 |var h1 h2 h3 =>
  rename_i zs b c el;have h9:st1=⟨put st.env d (.ptr st.hs.next 0),⟨put st.hs.heap st.hs.next (.cells zs),st.hs.next+1⟩⟩:=by
   grind [b4,eE,cm,GI,D2,bS,firm]
  have hob:O b=0:=by have:=hle b;simp at this;omega
  obtain⟨g',O',s',x',l',_⟩:=s.adopt (hhi b s_) hob h3 h1 h2 hd ht;rw[<-h9]at s';refine⟨g',O',s',x'.mono λ_ _ h=>h.elim,λq=>?_⟩;by_cases e:q=b
  .have:=s'.le q;simp_all
  grind
 |list h1 h2 h3 h4 =>
  rename_i z l c th a;obtain⟨v',st2,hv,rfl⟩:=My hr;simp only[cm]at hv;rw[h3]at hv;obtain⟨rfl,rfl⟩:=hv;obtain⟨g2,Ov2,O2,r2,s2,x2,l2⟩:=FJ (P:=P) (t:=t) th (env:=st.env) (hs:=st.hs) s h4 hle hhi;have hle2:∀b,Ov2 b+O2 b<=1:=λb=>aC (l2 b) (hle b)
  obtain⟨g3,r3,s3,x3⟩:=W5 s2 r2 hle2;obtain⟨O4,s4,l4⟩:=s3.setTmp hd r3 hle2 λb hb=>by
   grind [S.hi]
  have htt:t.setIfInBounds d x=t:=by
   grind
  rw[htt]at s4;exact⟨g3,O4,s4,(x2.mono (T:=λb=>A b≠0∨O b≠0) λ_ _ h=>h.elim).trans x3 λb _ hb=>by grind,λb=>by grind⟩
structure aib (ops:Array Oper)(nr:C_)(vs:Q_)(anc:N_)(m:Region.Mode)(listed:BB_)(rem:C_)(pd:Nat->AG_):Prop where
 pair:rem.Pairwise λj i=>abD anc nr vs j i
 nd:rem.Nodup
 lt:∀i∈rem,i<ops.size
 size:listed.size=ops.size
 mem:∀i,i<ops.size->(i∈rem↔(listed.getD i true=false∨(pd i).isSome=true))
 pdl:∀i b,pd i=some b->i<ops.size∧listed.getD i false=true
 closed:∀i o,listed.getD i false=true->ops[i]?=some o->∀e∈o.after,Region.binds m e=true->listed.getD e.on false=true
structure Cf (P:Program)(r:cH)(n:Nat)(ops:Array Oper)(nr:C_)(vs:Q_)(anc:N_)(m:Region.Mode)(listed:BB_)(g0:Gh)(w0:World)(t0:E_)(O0:Nat->Nat)(st':St)
  (rem:C_)(pd:Nat->AG_)(F:C_)(g:Gh)(w:World)(t:E_)(O:Nat->Nat)(st:St):Prop where
 left:aib ops nr vs anc m listed rem pd
 n:t.size=n
 s:S P g w st t O
 abs:∀i∈rem,∀v d,vs[i]?=some v->fW v=some d->rU anc vs i=true->get st.env d=none
 pend:∀i A,pd i=some A->acs g w t O st anc vs i A
 disj:∀i j A B,i≠j->pd i=some A->pd j=some B->∀b,A b+B b<=1
 base:fk P g0 w0 t0 O0 st t w g O
 old:∀i A,pd i=some A->∀b,b<w0.heap.size->A b+O b<=O0 b
 le0:∀b,O0 b<=1
 run:d9 r nr vs rem F st=some st'
def QV:∀{l:C_},l≠[]->∃i∈l,∀j∈l,i<=j
 |[],h=>absurd rfl h
 |[x],_=>⟨x,.head _,λj hj=>by simp_all⟩
 |x::y::r,_=>by
  obtain⟨i,hi,hm⟩:=QV (l:=y::r) (by simp)
  grind
def rZ {ops:Array Oper}{m:Region.Mode}{listed:BB_}(hc:∀i o,listed.getD i false=true->ops[i]?=some o->∀e∈o.after,Region.binds m e=true->listed.getD e.on false=true){i j:Nat}
  (hp:HJ ops i j):(∀o,ops[i]?=some o->∀e∈o.after,Region.binds m e=true->listed.getD e.on false=true)->listed.getD j false=true:=by
 induction hp<;>grind [Rx]
def ahd {P:Program}{n:Nat}{ops:Array Oper}{nr:C_}{vs:Q_}{perm:C_}{anc:N_}(hok:pq P n ops nr vs perm anc){m:Region.Mode}{listed:BB_}(hsz:listed.size=ops.size){un:C_}
  (hun:∀i,i∈un↔i<ops.size∧listed.getD i true=false)(hrem:un≠[]) :
  ((List.range ops.size).filter λi=>!listed.getD i true && ((ops[i]?).map (·.after.all λe=>!Region.binds m e ||listed.getD e.on false)).getD false)≠[]∧
  ∀i,i∈((List.range ops.size).filter λi=>!listed.getD i true && ((ops[i]?).map (·.after.all λe=>!Region.binds m e ||listed.getD e.on false)).getD false)↔
   i<ops.size∧listed.getD i true=false∧∃o,ops[i]?=some o∧∀e∈o.after,Region.binds m e=true->listed.getD e.on false=true:=by
 have hmu:∀i,i<ops.size->(i∈un↔listed.getD i true=false):=λi hi=>⟨λh=>((hun i).1 h).2,λh=>(hun i).2 ⟨hi,h⟩⟩
 have hlt0:∀i,i∈un->i<ops.size:=λi h=>((hun i).1 h).1
 generalize hrs:((List.range ops.size).filter λi=>!listed.getD i true && ((ops[i]?).map (·.after.all λe=>!Region.binds m e ||listed.getD e.on false)).getD false)=rs;have hmem:∀i,i∈rs↔i<ops.size∧listed.getD i true=false∧∃o,ops[i]?=some o∧∀e∈o.after,Region.binds m e=true->listed.getD e.on false=true:=by
  grind [Array.all_eq_true_iff_forall_mem]
 have hlist:∀k,k<ops.size->k∉un->listed.getD k false=true:=λk hen hnot=>by
  simp_all
 have ready:∀i∈un,(∀e∈(ops[i]?).toList.flatMap (λo=>o.after.toList),Region.binds m e=true->e.on∉un)->i∈rs:=λi hi he=>by
  have hin:=hlt0 i hi;refine(hmem i).2 ⟨hin,(hmu i hin).1 hi,ops[i],by simp[hin],λe hem hb=>?_⟩;have hen:=(hok.edge i ops[i] (by simp[hin]) e hem).1
  simp_all
 have hne:rs≠[]:=by
  by_cases hm:m=.gc
  .obtain⟨gl,ga,gt,gs⟩:=hok.gco;have hl:gl.filter (λi=>decide (i∈un))≠[]:=by
    obtain⟨i,hi⟩:=List.exists_mem_of_ne_nil un hrem;exact List.ne_nil_of_mem (List.mem_filter.2 ⟨ga i (hlt0 i hi),d_⟩)
   cases hc:gl.filter (λi=>decide (i∈un)) with
   |nil=>simp_all
   |cons i rest =>
    have hmm0:∀k,k∈i::rest↔k∈gl∧k∈un:=λk=>by grind
    have him:=(hmm0 i).1 (.head _);have hpw:(i::rest).Pairwise (λj i=>∀o,ops[j]?=some o->∀e∈o.after,Re e.ground=true->e.on≠i):=d_;have:i∈rs:=ready i him.2 λe he hb hmm=>by
     have hg:Re e.ground=true:=by
      unfold Region.binds at hb
      grind [Re]
     grind [List.pairwise_cons]
    grind
  .obtain⟨i,hir,hmin⟩:=QV hrem;have hi:=hlt0 i hir;have:i∈rs:=ready i hir λe he hb hmm=>by
    simp[hi]at he;have hg:txG e.ground=true:=by
     unfold Region.binds at hb
     grind [txG]
    have h1:=(hok.edge i ops[i] (by simp[hi]) e he).2 hg
    grind
   grind
 simp_all
def N9 {listed:BB_}{i:Nat}(hi:i<listed.size)(k:Nat)(b:Bool):(listed.setIfInBounds i true).getD k b=if i=k then true else listed.getD k b:=by
 simp only[eM,ez]
 grind
theorem AX {listed:BB_}{i:Nat}(hi:i<listed.size):listed.getD i true=listed.getD i false:=by
 simp_all
variable {n:Nat}{ops:Array Oper}{nr:C_}{vs:Q_}{perm:C_}{anc:N_}{m:Region.Mode}{listed:BB_}{g0:Gh}{w0:World}{t0:E_}{O0:Nat->Nat}{st':St}
def Cf.flush (hok:pq P n ops nr vs perm anc){l1 l2:C_}{j:Nat}{A:Nat->Nat}{pd:Nat->AG_}{F:C_}{g:Gh}{w:World}{t:E_}{O:Nat->Nat}{st:St}
  (c:Cf P r n ops nr vs anc m listed g0 w0 t0 O0 st' (l1++j::l2) pd F g w t O st)(hj:pd j=some A)(hp:∀x∈l1,∃u v,vs[x]?=some u∧vs[j]?=some v∧jB (dl x nr) (dl j nr) u v=true) :
  ∃F' g' O' st1,Cf P r n ops nr vs anc m listed g0 w0 t0 O0 st' (l1++l2) (λi=>if i=j then none else pd i) F' g' w t O' st1:=by
 have pj:=c.pend j A hj;obtain⟨v,d,x,h1,h4,h5,hk⟩:=pj.it;have hdst:=hk.dst;have hjn:=(c.left.pdl j A hj).1;have inv:dW st:=⟨c.s.se,c.s.sh,λid hid=>c.s.heap_fresh hid⟩
 have hsw:∀x∈l1,∃u,vs[x]?=some u∧jB (dl x nr) (dl j nr) u v=true:=λx hx=>by
  simp_all
 have h6:=NC h1 hsw inv c.run;simp only[d9,h1]at h6;split at h6
 .simp at h6
 .rename_i st1 h7;have h8:b4 r v st=some st1:=Ji (λhw=>hok.near j _ hw h1) c.s.se h7;obtain⟨g',O',s',x',l'⟩:=hk.make c.s pj.le pj.hi h4 h5 h8;have hsub:(l1++l2).Sublist (l1++j::l2):=pP (rE j l2) l1;have hnd:=c.left.nd;have hjl:j∉l1++l2:=λhm=>by
   grind
  have hfoot:∀i,i∈l1++l2->rU anc vs i=true->∀u q,vs[i]?=some u->fW u=some q->∀k∈q::wE u,get st1.env k=get st.env k:=λi hi hl u q hu hq k hkm=>by
   have hij:i≠j:=λe=>hjl (e▸hi)
   obtain⟨u2,q2,k1,k2,k3,k4⟩:=uq hl;obtain⟨R,M,f1,f0,f2⟩:=(k3 j v h1 (λe=>hij e.symm)).resolve_left (λhdj=>by
    obtain⟨_,_,_,_,_,hno⟩:=uq pj.late
    simp_all)
   obtain⟨e1,hs1'⟩:=st;refine(xK f1 e1 hs1' st1 h8).2.1 k ?_
   grind [acs.late]
  have hmem:∀i B,i≠j->pd i=some B->i∈l1++l2:=λi B e hi=>by
   have:=(c.left.mem i (c.left.pdl i B hi).1).2 (.inr u_)
   simp_all
  refine⟨_,g',O',st1,⟨⟨c.left.pair.sublist hsub,hnd.sublist hsub,λk hk=>c.left.lt k (hsub.subset hk),c.left.size,λk hk=>?_,λi b' hi=>?_,c.left.closed⟩,c.n,s',λi hi u q hu hq hl=>?_,λi B hi=>?_,λi k B C hik hi hk=>?_,?_,λi B hi b hb=>?_,c.le0,h6⟩⟩
  .have hold:=c.left.mem k hk;by_cases e:k=j
   .subst e;have hl:=(c.left.pdl k A hj).2
    grind
   simp_all
  .by_cases e:i=j
   .simp_all
   .simp only[e,bu]at hi;exact c.left.pdl i b' hi
  .rw[hfoot i hi hl u q hu hq q (.head _)]
   grind [abs]
  .by_cases e:i=j
   .simp_all
   .simp only[e,bu]at hi;have p:=c.pend i B hi;obtain⟨u,q,y,k1,k2,k3,k4⟩:=p.it;have hd:=c.disj i j B A e hi hj;exact⟨p.late,p.hi,λb=>by have:=l' b;have:=p.le b;have:=hd b;have:=pj.le b;omega,u,q,y,k1,k2,k3,
     k4.keep x' (λb hb=>⟨p.hi b hb,λh=>by have:=hd b;have:=p.le b;omega⟩) λk hkm=>hfoot i (hmem i B e hi) p.late u q k1 k4.dst k (.tail _ hkm)⟩
  .by_cases e:i=j
   .simp_all
   .by_cases e2:k=j
    .simp_all
    .simp only[e,e2,bu]at hi hk;exact c.disj i k B C hik hi hk
  .refine⟨s',c.base.ext.trans x' λb hb h=>?_,λb hb=>?_,c.base.size⟩
   .have:=c.old j A hj b hb;omega
   .exact aC (l' b) (c.old j A hj b hb)
  .by_cases e:i=j
   .simp_all
   .simp only[e,bu]at hi;have q1:=c.old i B hi b hb;have q2:=c.old j A hj b hb;have q3:=c.disj i j B A e hi hj b
    grind
def Cf.flush_all (hok:pq P n ops nr vs perm anc):∀{rem:C_}{pd:Nat->AG_}{F:C_}{g:Gh}{w:World}{t:E_}{O:Nat->Nat}{st:St},
  Cf P r n ops nr vs anc m listed g0 w0 t0 O0 st' rem pd F g w t O st->(∀i∈rem,(pd i).isSome=true)->∃g' O',fk P g0 w0 t0 O0 st' t w g' O'
 |[],pd,F,g,w,t,O,st,c,_=>by
  have h:=c.run;simp only[d9,ae]at h;subst h;exact⟨g,O,c.base⟩
 |j::rem,pd,F,g,w,t,O,st,c,hall=>by
  obtain⟨b,hb⟩:=fR.1 (hall j (.head _));obtain⟨F',g',O',st1,c'⟩:=Cf.flush (l1:=[]) hok c hb (λx hx=>by simp at hx);have hnd:=c.left.nd;exact Cf.flush_all hok c' λi hi=>by
   grind
def Cf.flush_for (hok:pq P n ops nr vs perm anc){i:Nat}(hil:listed.getD i true=false)(hnl:rU anc vs i=false){o:Oper}(ho:ops[i]?=some o)(hready:∀e∈o.after,Region.binds m e=true->listed.getD e.on false=true) :
  ∀{k:Nat}{l1 l2:C_},l1.length=k->∀{pd:Nat->AG_}{F:C_}{g:Gh}{w:World}{t:E_}{O:Nat->Nat}{st:St},
  Cf P r n ops nr vs anc m listed g0 w0 t0 O0 st' (l1++i::l2) pd F g w t O st->
  ∃l1' pd' F' g' O' st1,Cf P r n ops nr vs anc m listed g0 w0 t0 O0 st' (l1'++i::l2) pd' F' g' w t O' st1∧(∀j∈l1',∃u v,vs[j]?=some u∧vs[i]?=some v∧jB (dl j nr) (dl i nr) u v=true)∧(l1'.filter λq=>!listed.getD q true)=(l1.filter λq=>!listed.getD q true):=by
 intro k
 induction k with
 |zero =>
  grind
 |succ k ih =>
  intro l1 l2 hk pd F g w t O st c;have hpw:=ed.1 c.left.pair;have hin:i<ops.size:=c.left.lt i s_;have hlist:∀a q,a<ops.size->HJ ops a q->listed.getD a false=true∨a=i->listed.getD q false=true:=λa q ha hpa hla=>by
   refine rZ c.left.closed hpa λo' ho'=>?_
   rcases hla with h|h
   .exact c.left.closed a o' h ho'
   simp_all
  by_cases hex:∃j∈l1,qb anc i j=true
  .
   obtain⟨la,j,lb,hl1,hdj,hfirst⟩:∃la j lb,l1=la++j::lb∧qb anc i j=true∧∀x∈la,qb anc i x=false:=by
    clear ih hk c hpw
    induction l1 with
    |nil=>simp_all
    |cons x l1 ihl =>
     by_cases hx:qb anc i x=true
     .exact⟨[],x,l1,rfl,hx,λy hy=>by simp at hy⟩
     .obtain⟨la,j,lb,h1,h2,h3⟩:=ihl (by
       simp_all)
      grind
   subst hl1;have hjm:j∈(la++j::lb)++i::l2:=s_;have hjn:=c.left.lt j hjm;have hjl:=hlist i j hin (hok.path i j hdj) (.inr rfl);have hjp:∃b,pd j=some b:=by
    rcases (c.left.mem j hjn).1 hjm with h|h<;>grind [Option.isSome_iff_exists]
   obtain⟨b,hb⟩:=hjp;have hlate:=(c.pend j b hb).late;obtain⟨_,_,_,_,_,hnoanc⟩:=uq hlate;have hpj:=ed.1 hpw.1;have hpass:∀x∈la,∃u v,vs[x]?=some u∧vs[j]?=some v∧jB (dl x nr) (dl j nr) u v=true:=λx hx=>by
    have hxm:x∈(la++j::lb)++i::l2:=by simp[hx]
    have hxn:=c.left.lt x hxm;rcases hpj.2.2 x hx j (.head _) with (h|h)|h
    .
     have hxl:=hlist j x hjn (hok.path j x h) (.inl hjl);rcases (c.left.mem x hxn).1 hxm with h2|h2
     .grind
     .obtain⟨b2,hb2⟩:=fR.1 h2;have:=(c.pend x b2 hb2).late
      simp_all
    all_goals grind [pq.len]
   have c0:Cf P r n ops nr vs anc m listed g0 w0 t0 O0 st' (la++j::(lb++i::l2)) pd F g w t O st:=u_;obtain⟨F',g',O',st1,c'⟩:=Cf.flush hok c0 hb hpass
   grind
  .refine⟨l1,pd,F,g,O,st,c,λj hj=>?_,rfl⟩;rcases hpw.2.2 j hj i (.head _) with (h|h)|h<;>grind
def XT (hok:pq P n ops nr vs perm anc){i:Nat}{v:VI}{d:Nat}(hv:vs[i]?=some v)(hd:fW v=some d):∀{l1 l2 F:C_}{st:St},bV st.env->(∀k∈l1,∀u,vs[k]?=some u->∃R M,iS u=some (R,M)∧∀q∈d::wE v,q∉M)->
  d9 r nr vs (l1++i::l2) F st=some st'->∃st1 st2,b4 r v st1=some st2∧∀q∈d::wE v,get st1.env q=get st.env q
 |[],l2,F,st,hsrt,_,h=>by
  simp only[aD,d9,hv]at h;split at h
  .simp at h
  .rename_i st1 h1;exact⟨st,st1,Ji (λhw=>hok.near i _ hw hv) hsrt h1,λ_ _=>rfl⟩
 |k::l1,l2,F,st,hsrt,hl,h=>by
  simp only[aI,d9]at h;split at h
  .simp at h
  .rename_i u hu;split at h
   .simp at h
   .rename_i st1 h1;have h2:b4 r u st=some st1:=Ji (λhw=>hok.near k _ hw hu) hsrt h1;obtain⟨R,M,f1,f2⟩:=hl k (.head _) u hu;obtain⟨e1,hs1⟩:=st;obtain⟨k1,k2,_⟩:=xK f1 e1 hs1 st1 h2;obtain⟨sa,sb,q1,q2⟩:=XT hok hv hd (k1 hsrt) (λk hk=>hl k (.tail _ hk)) h
    grind
def ab7 {g:Gh}{w:World}{t:E_}{O:Nat->Nat}{zs:D_}{o:Oper}(s:S P g w st' t O)(hc:aZ P (.alloc zs) o.op=true) :
  ∃(c:E_) (el:_),mc zs c.toList=true∧(execOp (ev t) o).run P w=.ok (.value (.pointer (some ⟨w.heap.size,0,none⟩))) (w.alloc (.cells c el))∧bg g w g (w.alloc (.cells c el)) (λ_=>False):=by
 obtain⟨dst,op,ty,pos,aft,gd⟩:=o;simp only[aZ]at hc;split at hc
 .rename_i e;split at hc
  .split at hc
   .rename_i z hz;exact⟨z.cells,e,hc,by simp_all [execOp,Instr.alloc,zeroValue,typeInfo,newVar,newRow],bg.alloc s.pmlt _ _ (by grind [fc])⟩
   simp_all
  simp_all
 simp_all
def aeu {ro:H_}{g:Gh}{w:World}{t:E_}{O:Nat->Nat}{st:St}{v:VI}{d:Nat}{o:Oper}(s:S P g w st t O)(hd:fW v=some d)(hc:aZ P v.op o.op=true)
  (hmk:∀z l c th,v=⟨some d,none,.mkslice z l c,th⟩->wN l=true->wN c=true->∃a,ka z l c st=some (a,st))(ds:List Deferred)(next:Act->World->Prop)(Q:Exit->Act->World->Prop)
  (hn:∀w1 x g1 O1 A,S P g1 w1 st t O1->bg g w g1 w1 (λb=>O b≠0)->(∀b,b<w.heap.size->A b+O1 b<=O b)->(∀b,A b+O1 b<=1)->(∀b,A b≠0->b<w1.heap.size)->yn g1 w1 st d v x A->next (Act.put ⟨t,ds⟩ o.dst x) w1) :
  o.uponIn (FR ro) 0 P ⟨t,ds⟩ next Q ((execOp (ev t) o).run P w):=by
 rcases CK hd with ⟨zs,rfl⟩|⟨z,l,c,th,rfl,hl,hc2⟩
 .obtain⟨cc,el,hz,hrun,hx⟩:=ab7 s hc;rw[hrun];have hobn:O w.heap.size=0:=by
   by_cases h:O w.heap.size=0
   .exact h
   .have:=s.hi _ h;omega
  refine hn _ _ g O (one w.heap.size) (s.extF hx rfl λb o' hp=>by have:=s.pmlt b o' hp;grind [World.size_alloc]) (hx.mono λ_ _ h=>h.elim) (λb hb=>?_) (λb=>?_) (λb hb=>?_) (.var hz (im _ _) λo' hp=>?_)
  .grind [one]
  .by_cases e:b=w.heap.size
   .simp_all
   .have:=s.le b;grind [one]
  .grind [tx,World.size_alloc]
  .have:=s.pmlt _ o' hp;omega
 .obtain⟨a,ha⟩:=hmk z l c th rfl hl hc2;exact(QJ s ha hc).opW ds next Q λx w' g' Oa O' k=>hn _ _ g' O' Oa k.st k.ext k.old k.le k.hi (.list hl hc2 ha k.val)
def aja {ro:H_}(hr:fV P r)(hcs:gE P r)(hok:pq P n ops nr vs perm anc){Q:Exit->Act->World->Prop}(ds:List Deferred)
  (hq:∀w' t' g' O',fk P g0 w0 t0 O0 st' t' w' g' O'->Q .normal ⟨t',ds⟩ w') :
  ∀{fuel:Nat}{listed:BB_}{tt:Nat}{rem:C_}{pd:Nat->AG_}{F:C_}{g:Gh}{w:World}{t:E_}{O:Nat->Nat}{st:St},
   Cf P r n ops nr vs anc m listed g0 w0 t0 O0 st' rem pd F g w t O st->(rem.filter λi=>!listed.getD i true).length=fuel->wpOpsIn (FR ro) 0 P ops Q (Region.linearise.go m ops fuel tt listed []) ⟨t,ds⟩ w:=by
 intro fuel
 induction fuel with
 |zero =>
  intro listed tt rem pd F g w t O st c hf;have hnil:=bc hf;have hall:∀i∈rem,(pd i).isSome=true:=λi hi=>by
   have hin:=c.left.lt i hi;rcases (c.left.mem i hin).1 hi with h|h<;>simp_all
  obtain⟨g',O',G⟩:=Cf.flush_all hok c hall;exact hq _ _ _ _ G
 |succ fuel ih =>
  intro listed tt rem pd F g w t O st c hf;unfold Region.linearise.go;simp only;have hun:∀i,i∈(rem.filter λi=>!listed.getD i true)↔i<ops.size∧listed.getD i true=false:=λi=>by
   rw[List.mem_filter,bQ];exact⟨λh=>⟨c.left.lt i h.1,h.2⟩,λh=>⟨(c.left.mem i h.1).2 (.inl h.2),h.2⟩⟩
  obtain⟨hne,hmem⟩:=ahd (m:=m) hok c.left.size hun d_;generalize hrs:((List.range ops.size).filter λi=>!listed.getD i true && ((ops[i]?).map (·.after.all λe=>!Region.binds m e ||listed.getD e.on false)).getD false)=rs at hne hmem;have hlen:0<rs.length:=bm.2 hne;have hlt:=fT tt hlen;rw[b7 hlt];simp only;generalize hi:rs[tt % rs.length]=i;have hirs:i∈rs:=d_;obtain⟨hin,hil,o,ho,hready⟩:=(hmem i).1 hirs;have hirem:i∈rem:=(c.left.mem i hin).2 (.inl hil);have hsz:i<listed.size:=d_;have hvl:i<vs.length:=by grind [pq.len]
  have hv:vs[i]?=some vs[i]:=s_;have hacc:=linearise_go_acc m ops fuel (tt / rs.length) (listed.setIfInBounds i true) [i];rw[hacc];simp only[List.reverse_cons,List.reverse_nil,aD,aI,wpOpsIn,ho];have hclosed:∀k o',(listed.setIfInBounds i true).getD k false=true->ops[k]?=some o'->∀e∈o'.after,Region.binds m e=true->(listed.setIfInBounds i true).getD e.on false=true:=by
   intro k o' hk ho' e he hb;rw[N9 hsz]at hk⊢;split
   .rfl
   .by_cases e1:i=k
    .simp_all
    .rw[aa e1]at hk;exact c.left.closed k o' hk ho' e he hb
  have hcount:∀{l1 l2:C_},rem=l1++i::l2->∀{l1':C_},(l1'.filter λi=>!listed.getD i true)=(l1.filter λi=>!listed.getD i true)->i∉l1'->i∉l2->((l1'++l2).filter λq=>!(listed.setIfInBounds i true).getD q true).length=fuel:=by
   intro l1 l2 hrem l1' hl1 hn1 hn2;have h1:∀l:C_,i∉l->(l.filter λq=>!(listed.setIfInBounds i true).getD q true)=l.filter λq=>!listed.getD q true:=λl hl=>List.filter_congr λq hq=>by
    rw[N9 hsz,aa (λe=>hl u_)]
   grind
  cases hl:rU anc vs i with
  |true =>
   obtain⟨v,d,hvi,hdv,hfree,hnoanc⟩:=uq hl;have hchk:=hok.vi i _ o hvi ho;simp only[zk,af]at hchk;obtain⟨⟨hdst,hgd⟩,hop⟩:=hchk;obtain⟨hd1,hd2,hd3⟩:=wO hdv;have hgn:o.guard=none:=by
    grind [As]
   have hod:o.dst=some d∧d<n:=by
    rw[hd1]at hdst;split at hdst<;>grind [Nat.beq_eq,Nat.blt_eq]
   have hw:Region.wanted o (yielded ops t)=true:=by grind [Region.wanted]
   rw[ac hw];refine⟨λ_ _=>trivial,?_⟩;rw[H1 _ _ (Jq hd3 hop)];have habs:=c.abs i hirem v d hvi hdv hl;obtain⟨l1,l2,hrem⟩:=nY hirem;have hapl:∀k∈l1,∀u,vs[k]?=some u->∃R M,iS u=some (R,M)∧∀q∈d::wE v,q∉M:=λk hk u hu=>by
    have hkm:k∈rem:=u_;have hkn:=c.left.lt k hkm;have hne:k≠i:=λe=>by
     have hnd:=c.left.nd
     grind
    have hpr:=c.left.pair;rw[hrem]at hpr;have hnk:qb anc i k=true->False:=λh=>by
     have hkl:=rZ c.left.closed (hok.path i k h) λo' ho'=>by
      simp_all
     rcases (c.left.mem k hkn).1 hkm with h2|h2
     .grind [AX]
     .obtain⟨b2,hb2⟩:=fR.1 h2;have:=(c.pend k b2 hb2).late
      simp_all
    rcases (ed.1 hpr).2.2 k hk i (.head _) with (h|⟨u',v',a1,a2,a3⟩)|h
    .simp_all
    .rw[hu]at a1;rw[hvi]at a2;simp only[ae]at a1 a2;subst a1 a2;exact Qv a3 hdv
    .obtain⟨R,M,f1,f2,f3⟩:=(hfree k u hu hne).resolve_left (λhd=>by simp_all)
     grind
   have hrun0:=c.run;rw[hrem]at hrun0;obtain⟨sa,sb,hsa,hsq⟩:=XT hok hvi hdv c.s.se hapl hrun0;refine aeu (ro:=ro) c.s hdv hop (λz l c' th e hl1 hl2=>?_) ds _ Q λw1 x g1 O1 A hs1 hx1 hold1 hle1 hhi1 hpk=>?_
   .subst e;simp only[b4]at hsa;obtain⟨v',st2,hv',_⟩:=My hsa;simp only[cm]at hv';exact⟨v',(aau hl1 hl2 (λq hq=>(hsq q (List.mem_cons_of_mem _ hq)).symm) hv').2⟩
   .rw[Rj,hod.1];have hdn:d<t.size:=by grind [Cf.n]
    have hs2:=hs1.setOther habs x;have ht1:tq t (some d) x=t.setIfInBounds d x:=by grind [Act.put]
    rw[ht1];have hgt:∀q,q≠d->(t.setIfInBounds d x)[q]?=t[q]?:=λq hqd=>by
     grind
    have hwle:w0.heap.size<=w.heap.size:=c.base.ext.size;have hO1:∀b,b<w.heap.size->O1 b<=O b:=λb hb=>by grind
    have hO1':∀b,O1 b<=1:=λb=>by grind
    refine ih (rem:=rem) (pd:=λq=>if q=i then some A else pd q) (F:=F) (g:=g1) (O:=O1) (st:=st) ⟨⟨c.left.pair,c.left.nd,c.left.lt,by simp[c.left.size],λk hk=>?_,λk b hk=>?_,hclosed⟩,by simp[c.n],hs2,c.abs,λk B hk=>?_,λk q B C hkq hk hq'=>?_,?_,λk B hk b hb=>?_,c.le0,c.run⟩ ?_
    .rw[N9 hsz];by_cases e:i=k
     .simp_all
     .have e':¬k=i:=λh=>e h.symm
      simp only[e,e',bu];exact c.left.mem k hk
    .rw[N9 hsz];by_cases e:k=i
     .simp_all
     .simp only[e,bu]at hk;have:=c.left.pdl k b hk
      simp_all
    .by_cases e:k=i
     .subst e;simp only[bK,ae]at hk;subst hk;refine⟨hl,hhi1,hle1,v,d,x,hvi,by simp[hdn],?_,hpk⟩
      simp_all
     .simp only[e,bu]at hk;have q:=c.pend k B hk;obtain⟨u,d',y,h1,h4,h5,h6⟩:=q.it;have hdd:d'≠d:=by
       obtain⟨R,M,f1,f2,_⟩:=(hfree k _ h1 e).resolve_left (λhdk=>by
        obtain⟨_,_,_,_,_,hno⟩:=uq q.late
        simp_all)
       intro h;exact f2 (h▸Bz f1 (wO h6.dst).1)
      exact⟨q.late,λb hb=>aH (q.hi b hb) hx1.size,λb=>by
       by_cases hb:b<w.heap.size
       .have:=q.le b;grind
       grind [acs.hi],u,d',y,h1,u_,(hgt d' hdd).trans h5,
       h6.keep hx1 (λb hb=>⟨q.hi b hb,λh=>by have:=q.le b;omega⟩) λ_ _=>rfl⟩
    .have key:∀k B,k≠i->pd k=some B->∀b,A b+B b<=1:=λk B e hk b=>by
      have q:=c.pend k B hk;by_cases hb:b<w.heap.size
      .have:=q.le b;grind
      grind [acs.hi]
     intro b;by_cases e:k=i
     .have e2:q≠i:=λh=>hkq (e.trans h.symm)
      simp only[e,e2,bK,bu,ae]at hk hq';subst hk;exact key q C e2 hq' b
     .by_cases e2:q=i
      .simp only[e,e2,bK,bu,ae]at hk hq';subst hq';have:=key k B e hk b;omega
      .simp only[e,e2,bu]at hk hq';exact c.disj k q B C hkq hk hq' b
    .exact⟨hs2,c.base.ext.trans hx1 λb hb h=>by have:=c.base.old b hb;omega,λb hb=>aC (hO1 b o_) (c.base.old b hb),by simp[c.base.size]⟩
    .by_cases e:k=i
     .simp only[e,bK,ae]at hk;subst hk;have:=hold1 b o_;have:=c.base.old b hb;omega
     .simp only[e,bu]at hk;have:=c.old k B hk b hb;grind
    .have hnd:=c.left.nd;rw[hrem]at hnd;have hnd':=List.nodup_append.1 hnd;have hn1:i∉l1:=λh=>hnd'.2.2 i h i (.head _) rfl
     have hn2:i∉l2:=(sq.1 hnd'.2.1).1;have:=hcount hrem rfl hn1 hn2;rw[hrem,List.filter_append,List.filter_cons_of_neg (by rw[N9 hsz,ac rfl];simp),<-List.filter_append];exact this
  |false =>
   obtain⟨l1,l2,hrem⟩:=nY hirem;rw[hrem]at c;obtain⟨l1',pd',F',g',O',st1,c1,hpass,hfl⟩:=Cf.flush_for hok hil hl ho hready rfl c;have hsw:∀j∈l1',∃u,vs[j]?=some u∧jB (dl j nr) (dl i nr) u vs[i]=true:=λj hj=>by
    simp_all
   have inv:dW st1:=⟨c1.s.se,c1.s.sh,λid hid=>c1.s.heap_fresh hid⟩
   have h2:=NC hv hsw inv c1.run;simp only[d9,hv]at h2;split at h2
   .simp at h2
   .rename_i st2 h3N;have h3:b4 r vs[i] st1=some st2:=Ji (λhw=>hok.near i _ hw hv) c1.s.se h3N;have hnd:=c1.left.nd;have hnd':=List.nodup_append.1 hnd;have hn1:i∉l1':=λh=>hnd'.2.2 i h i (.head _) rfl
    have hn2:i∉l2:=(sq.1 hnd'.2.1).1;have hsub:(l1'++l2).Sublist (l1'++i::l2):=pP (rE i l2) l1';have hpdi:pd' i=none:=by
     cases h:pd' i with
     |none=>rfl
     |some b =>
      have:=(c1.left.pdl i b h).2;rw[<-AX hsz,hil]at this;simp at this
    have hapart:∀k∈l1'++l2,rU anc vs k=true->∀u d,vs[k]?=some u->fW u=some d->∃R M,iS vs[i]=some (R,M)∧d∉M∧(listed.getD k false=true->∀q∈wE u,q∉M):=λk hk hlk u0 d hvk hdk=>by
     have hki:i≠k:=λe=>by rw[e,hlk]at hl;simp at hl
     obtain⟨u2,d2,k1,kd,k2,_⟩:=uq hlk;rw[hvk]at k1;simp only[ae]at k1;subst k1;rw[hdk]at kd;simp only[ae]at kd;subst kd;rcases k2 i _ hv hki with hd|hd
     .rcases bq.1 hk with hk1|hk1
      .obtain⟨u,v,a1,a2,a3⟩:=hpass k hk1;rw[hvk]at a1;rw[hv]at a2;simp only[ae]at a1 a2;subst a1 a2;obtain⟨R,M,f1,f2⟩:=ab8 a3 hdk;exact⟨R,M,f1,f2 _ (.head _),λ_ q hq=>f2 q (.tail _ hq)⟩
      .have hkm:k∈l1'++i::l2:=by simp[hk1]
       have hkn:=c1.left.lt k hkm;have hkl:listed.getD k false=true:=rZ c1.left.closed (hok.path i k hd) λo' ho'=>by
        rw[ho]at ho';simp only[ae]at ho';subst ho';exact hready
       have hif:listed.getD i false=false:=by rw[<-AX hsz];exact hil
       have hpw:=(bz.1 (ed.1 c1.left.pair).2.1).1 k hk1;rcases hpw with (h|⟨u,v,a1,a2,a3⟩)|h
       .have:=rZ c1.left.closed (hok.path k i h) λo' ho'=>c1.left.closed k o' hkl ho'
        rw[hif]at this;simp at this
       .rw[hvk]at a2;rw[hv]at a1;simp only[ae]at a1 a2;subst a1 a2;obtain⟨R,M,f1,f2⟩:=Qv a3 hdk;exact⟨R,M,f1,f2 _ (.head _),λ_ q hq=>f2 q (.tail _ hq)⟩
       .have hii:=h.2.1 i hvl hd;have:=rZ c1.left.closed (hok.path i i hii) λo' ho'=>by
         rw[ho]at ho';simp only[ae]at ho';subst ho';exact hready
        rw[hif]at this;simp at this
     .obtain⟨R,M,f1,f2,f3⟩:=hd;refine⟨R,M,f1,f2,λhkl=>f3.resolve_left λhki=>?_⟩;have hif:listed.getD i false=false:=by rw[<-AX hsz];exact hil
      have:=rZ c1.left.closed (hok.path k i hki) λo' ho'=>c1.left.closed k o' hkl ho'
      rw[hif]at this;simp at this
    refine aaD (ro:=ro) hr hcs c1.n c1.s h3 (hok.vi i _ o hv ho) ds _ Q λt' w' g2 O2 G hT=>?_
    refine ih (rem:=l1'++l2) (pd:=pd') ⟨⟨c1.left.pair.sublist hsub,hnd.sublist hsub,λk hk=>c1.left.lt k (hsub.subset hk),by simp[c1.left.size],λk hk=>?_,λk b hk=>?_,hclosed⟩,by rw[G.size,c1.n],G.st,λk hk u d hvk hdk hlk=>?_,λk B hk=>?_,c1.disj,c1.base.trans G,λk B hk b hb=>?_,c1.le0,h2⟩ ?_
    .have hold:=c1.left.mem k hk;rw[N9 hsz];by_cases e:i=k
     .subst e;simp only[bK,jV,hpdi,Option.isSome_none,al,or_self,iff_false];intro hm;rcases bq.1 hm with h|h
      .exact hn1 h
      .exact hn2 h
     .simp only[e,bu];rw[<-hold];simp only[bq,aQ];constructor
      .rintro (h|h)
       .exact .inl h
       .exact .inr (.inr h)
      .rintro (h|h|h)
       .exact .inl h
       .exact absurd h.symm e
       .exact .inr h
    .have:=c1.left.pdl k b hk;refine⟨this.1,?_⟩;rw[N9 hsz];split
     .rfl
     .exact this.2
    .have h0:=c1.abs k (hsub.subset hk) u d hvk hdk hlk;obtain⟨R,M,f1,f2,_⟩:=hapart k hk hlk u d hvk hdk;obtain⟨e1,hs1'⟩:=st1;have:=(xK f1 e1 hs1' st2 h3).2.1 d f2;rw[this];exact h0
    .have hki:i≠k:=λe=>by rw[<-e,hpdi]at hk;simp at hk
     have hkm:k∈l1'++i::l2:=(c1.left.mem k (c1.left.pdl k B hk).1).2 (.inr (by rw[hk];rfl));have hkm':k∈l1'++l2:=by
      rcases bq.1 hkm with h|h
      .exact bT _ h
      .rcases aQ.1 h with h|h
       .exact absurd h.symm hki
       .exact dg _ h
     have q:=c1.pend k B hk;obtain⟨u,d,y,h1,h4,h5,h6⟩:=q.it;obtain⟨R,M,f1,f0,f2⟩:=hapart k hkm' q.late u d h1 h6.dst;have f2:=f2 (c1.left.pdl k B hk).2;have hdd:vs[i].dst≠some d:=λe=>f0 (Bz f1 e)
     refine⟨q.late,λb hb=>aH (q.hi b hb) G.ext.size,λb=>?_,u,d,y,h1,by rw[G.size];exact h4,(hT d hdd).trans h5,h6.keep G.ext (λb hb=>⟨q.hi b hb,λh=>by have:=q.le b;omega⟩) λp hp=>?_⟩
     .by_cases hb:b<w.heap.size
      .have:=q.le b;have:=G.old b hb;omega
      .have:B b=0:=by
        by_cases h:B b=0
        .exact h
        .exact absurd (q.hi b h) hb
       have:=G.st.le b;omega
     .obtain⟨e1,hs1'⟩:=st1;exact(xK f1 e1 hs1' st2 h3).2.1 p (f2 p hp)
    .have:=c1.old k B hk b hb;have:=G.old b (aH hb c1.base.ext.size);omega
    .
     exact hcount hrem hfl hn1 hn2
def NE {e:aK}:∀{vs:Q_},oM e vs=true->∀(i:Nat) (v:VI) (d:Nat),vs[i]?=some v->fW v=some d->get e d=none
 |[],_,i,v,d,h,_=>by simp at h
 |u::r,hl,i,v,d,h,hd=>by
  simp only[oM,af]at hl
  cases i with
  |zero =>
   grind
  |succ i =>
   exact NE hl.2 i v d h hd
def adU {g:Gh}{w:World}{t:E_}{O:Nat->Nat}{st st':St}{ro:H_}(hr:fV P r)(hcs:gE P r){n:Nat}{ops:Array Oper}{gco nr:C_}{vs:Q_}{perm:C_}(ds:List Deferred)(h:DA P n ops perm gco nr vs=true){Q:Exit->Act->World->Prop}{id:Nat}(hn:t.size=n)
  (s:S P g w st t O)(habs:oM st.env vs=true)(hrun:d9 r nr vs perm [] st=some st')(hq:∀w' t' g' O',fk P g w t O st' t' w' g' O'->Q .normal ⟨t',ds⟩ w'):(Code.region id ops true).wpIn (FR ro) 0 P Q ⟨t,ds⟩ w:=by
 have hok:=aj3 h;refine wpIn_region_draw λtt=>?_
 have hx:bg g w g w.drew λ_=>False:=bg.drew _ _ _
 have sd:=s.extF hx rfl s.pmlt;have hleft:∀m,aib ops nr vs (Eb ops perm []) m (Array.replicate ops.size false) perm (λ_=>none):=λm=>by
  refine⟨hok.pair,hok.nd,hok.lt,s_,λi hi=>?_,λi b hi=>by simp at hi,λi o hi=>?_⟩
  .have:=hok.all i hi
   simp_all
  .simp[Array.getD]at hi
 have hlen:(perm.filter λi=>!(Array.replicate ops.size false).getD i true).length=ops.size:=by
  have h0:(perm.filter λi=>!(Array.replicate ops.size false).getD i true)=perm:=List.filter_eq_self.2 λi hi=>by
   have:=hok.lt i hi
   simp_all
  have h1:perm.Perm (List.range ops.size):=by
   grind [pq.nd,List.nodup_range,pq.all]
  rw[h0,h1.length_eq];simp
 have key:∀m tt,wpOpsIn (FR ro) 0 P ops Q (Region.linearise m ops tt) ⟨t,ds⟩ w.drew:=λm tt =>
  aja (ro:=ro) (m:=m) hr hcs hok ds (g0:=g) (w0:=w.drew) (t0:=t) (O0:=O) (st':=st') (λw' t' g' O' G=>hq _ _ _ _ ⟨G.st,(hx.mono (T:=λb=>O b≠0) λ_ _ h=>h.elim).trans G.ext λ_ _ h=>h,G.old,G.size⟩)
   ⟨hleft m,hn,sd,λi hi v d hv hd _=>NE habs i v d hv hd,λi b hi=>by simp at hi,λi j A B _ hi=>by simp at hi,fk.refl sd,λi b hi=>by simp at hi,sd.le,hrun⟩ hlen
 unfold Region.schedule;split<;>simp_all
end
abbrev ox:=@StepsIn.trans
def HA (ro:H_)(P:Program)(c:Code)(Q:Exit->Act->World->Prop)(a:Act)(w:World):Prop :=
 ∀(b:Frame) (k:List Item) (cs:List Frame),b.roundOf=ro->∃e a' w',Q e a' w'∧ArrivesIn (Machine.fenced P (FR ro)) P (lone (b.atR a (.inLoop c::k)) cs w) b k cs e a' w'
def Be (ro:H_)(P:Program)(body cur:Code)(Q:Exit->Act->World->Prop)(a:Act)(w:World):Prop :=
 ∀(b:Frame) (k:List Item) (cs:List Frame),b.roundOf=ro->∃e a' w',Q e a' w'∧ArrivesIn (Machine.fenced P (FR ro)) P (lone (b.atR a (.code cur::.inScope body::k)) cs w) b k cs e a' w'
section
variable {P:Program}{ro:H_}{Q:Exit->Act->World->Prop}{a:Act}{w:World}
def E0 {ro:H_}(m:Machine):Machine.fenced P (FR ro) m:=fenced_wide P m
def PJ {c:Code}(h:c.wpIn (FR ro) 0 P (Exit.then (HA ro P c Q) Q) a w):HA ro P c Q a w∧(Code.loop c).wpIn (FR ro) 0 P Q a w:=by
 have key:∀(b:Frame) (k:List Item) (cs:List Frame),b.roundOf=ro->∃e a' w',Q e a' w'∧ArrivesIn (Machine.fenced P (FR ro)) P (lone (b.atR a (.code c::.inLoop c::k)) cs w) b k cs e a' w':=by
  intro b k cs hro;obtain⟨e,a₁,w₁,hq,harr⟩:=h b (.inLoop c::k) cs hro trivial (SX _ _)
  cases e with
  |normal =>
   obtain⟨e₂,a₂,w₂,hq₂,harr₂⟩:=hq b k cs hro;exact⟨e₂,a₂,w₂,hq₂,.of_steps harr harr₂⟩
  |exit id=>exact⟨_,a₁,w₁,hq,.pass (x:=.inLoop c) rfl (λ_ _=>.inl s_) harr⟩
  |goto l=>exact⟨_,a₁,w₁,hq,.pass (x:=.inLoop c) rfl (λ_ _=>.inl s_) harr⟩
  |ret=>exact⟨_,a₁,w₁,hq,.pass (x:=.inLoop c) rfl (λ_ _=>.inl s_) harr⟩
  |panic ch=>exact⟨_,a₁,w₁,hq,.pass (x:=.inLoop c) rfl (λ_ _=>.inl s_) harr⟩
  |outgrown=>exact⟨_,a₁,w₁,hq,.pass (x:=.inLoop c) rfl (λ_ _=>.inl s_) harr⟩
 refine⟨λb k cs hro=>?_,λb k cs hro _ _=>?_⟩
 .obtain⟨e,a',w',hq,harr⟩:=key b k cs hro;exact⟨e,a',w',hq,.of_steps (.one (E0 _) stepR_inLoop) harr⟩
 .obtain⟨e,a',w',hq,harr⟩:=key b k cs hro;exact⟨e,a',w',hq,.of_steps (.one (E0 _) stepR_loop) harr⟩
def Exit.scope (ro:H_)(P:Program)(body:Code)(Q:Exit->Act->World->Prop):Exit->Act->World->Prop
 |.goto l,a,w=>match findLabel body l with
  |some rest=>Be ro P body rest Q a w
  |none=>Q (.goto l) a w
 |e,a,w=>Q e a w
def ZB {body cur:Code}(h:cur.wpIn (FR ro) 0 P (Exit.scope ro P body Q) a w):Be ro P body cur Q a w:=by
 intro b k cs hro;obtain⟨e,a₁,w₁,hq,harr⟩:=h b (.inScope body::k) cs hro trivial (SX _ _)
 cases e with
 |normal=>exact⟨.normal,a₁,w₁,hq,ox harr (.one (E0 _) (step_lone_go (by simp[stepG,stepG.exec,Frame.atR])))⟩
 |exit id =>
  have hx:exitTo id (.inScope body::k)=exitTo id k:=by simp[exitTo]
  exact⟨_,a₁,w₁,hq,λk' hk=>harr.1 k' u_,λhr hk=>harr.2 hr u_⟩
 |goto l =>
  have hx:gotoIn l (.inScope body::k)=match findLabel body l with|some rest=>some (.code rest::.inScope body::k)|none=>gotoIn l k:=by
   grind [gotoIn]
  simp only[Exit.scope]at hq
  cases hf:findLabel body l with
  |some rest =>
   rw[hf]at hq hx;obtain⟨e₂,a₂,w₂,hq₂,harr₂⟩:=hq b k cs hro;exact⟨e₂,a₂,w₂,hq₂,.of_steps (harr.1 _ hx) harr₂⟩
  |none =>
   rw[hf]at hq hx;exact⟨_,a₁,w₁,hq,λk' hk=>harr.1 k' u_,λhr hk=>harr.2 hr u_⟩
 |ret=>exact⟨_,a₁,w₁,hq,harr⟩
 |panic ch=>exact⟨_,a₁,w₁,hq,harr⟩
 |outgrown=>exact⟨_,a₁,w₁,hq,harr⟩
def adV {body:Code}(h:Be ro P body body Q a w):(Code.scope body).wpIn (FR ro) 0 P Q a w:=by
 intro b k cs hro _ _;obtain⟨e,a',w',hq,harr⟩:=h b k cs hro;exact⟨e,a',w',hq,.of_steps (.one (E0 _) (step_lone_go (by simp[stepG,stepG.exec,Frame.atR]))) harr⟩
end
def aes {P:Program}{n:Nat}{v:VC}{c:Code}(h:Mt P n v c)(l:Nat) :
  match sI v l with
  |some x=>∃y,findLabel c l=some y∧Mt P n x y
  |none=>findLabel c l=none:=by
 have hgh:∀{a:VC},tB a=true->sI a l=none:=by
  intro a
  induction a<;>grind [tB,sI]
 induction h with
 |ghostL h1 h2 ih=>grind [sI]
 |@ghostR a b c h1 h2 ih =>
  simp only[sI,hgh h1]
  cases hf:sI a l with
  |none=>simp_all
  |some x =>
   simp only[hf]at ih⊢;obtain⟨y,hy,hm⟩:=ih;exact⟨y,hy,.ghostR h1 hm⟩
 |@seq a b c d h1 h2 ih1 ih2 =>
  simp only[sI]
  cases hf:sI a l with
  |some x =>
   simp only[hf]at ih1⊢;obtain⟨y,hy,hm⟩:=ih1;exact⟨.seq y d,by grind [findLabel],.seq hm h2⟩
  |none =>
   grind [findLabel]
 |@label k =>
  simp only[sI,findLabel];by_cases e:k=l
  .subst e;simp[Mt.skip]
  grind [Nat.beq_eq]
 |_=>grind [sI,findLabel]
section
variable {P:Program}{g:Gh}{w:World}{t:E_}{O:Nat->Nat}{st st':St}{a:AV}{o:Oper}{r:cH}
def Wc:∀{vs:D_}{i:Nat},∀p∈iK i vs,i<=p.1
 |[],_,p,hp=>by simp[iK]at hp
 |v::vs,i,p,hp=>by
  rcases Sr hp with rfl|hp
  .omega
  .have:=Wc p hp;omega
def Lg:∀(vs:D_) (i:Nat),bV (iK i vs)
 |[],_=>List.Pairwise.nil
 |v::vs,i=>(Lg vs (i+1)).put _ _
def acU {t:E_}{i:Nat}{x:Value}(h:t[i]?=some x):i<t.size:=by
 grind
def TJ {t:E_}:∀{vs:D_}{xs:M_}{i:Nat}{Ov:Nat->Nat},RVs g w vs xs Ov->(∀(j:Nat) (x:Value),xs[j]?=some x->t[i+j]?=some x)->ja g w (iK i vs) t Ov
 |[],xs,i,Ov,rv,_=>by exact rv.2
 |v::vs,xs,i,Ov,rv,ht=>by
  obtain⟨x,ys,O1,O2,rfl,r1,r2,hs⟩:=rv;have h0:t[i]?=some x:=ht 0 x rfl;have rr:=TJ (t:=t) (i:=i+1) r2 λj y hj=>by have:=ht (j+1) y u_;grind
  rw[<-oS (l:=iK (i+1) vs) (i:=i) λp hp=>by have:=Wc p hp;omega]at rr;obtain⟨O,ro,ho⟩:=RL.put (Lg vs (i+1)) rr (i:=i) (x:=v) (O1:=O1) ⟨acU h0,u_⟩;have e:O=Ov:=funext λb=>by simp_all
  exact e▸ro
def aju {args:D_}{hs:HS}{xs:M_}{Oa Oh:Nat->Nat}(rv:RVs g w args xs Oa)(sh:S P g w ⟨[],hs⟩ #[] Oh)(hle:∀b,Oa b+Oh b<=1)(hhi:∀b,Oa b≠0->b<w.heap.size)(n:Nat) :
  S P g w ⟨iK 0 args,hs⟩ (xs.toArray++Array.replicate n undef) λb=>Oa b+Oh b:=by
 refine S.join (Lg _ _) (TJ rv λj x hj=>?_) sh hle hhi
 grind
def bg.deferBlk {b:Nat}{ds ds':Option (List Deferred)}(hb:w.heap[b]?=some (.deferred ds)):bg g w g (Vm.setBlk w b (.deferred ds')) λx=>x=b where
 obj _ _ h:=⟨h,rfl,rfl,rfl⟩
 pm b' o h:=⟨h,by
  grind [World.cell?,dB,fN]⟩
 blk b' _ h:=⟨fN h,λ_ h=>h⟩
 size:=s_
 lp b' r h:=⟨r,by grind [fN]⟩
 same:=⟨rfl,rfl,wC hb (by grind [fc]) (by grind [fc])⟩
def Di {b:Nat}(h:w.heap[b]?=some (.deferred (some []))):(Instr.takeDeferred b).run P w=.ok [] (setBlk w b (.deferred none)):=by
 simp_all [Instr.takeDeferred,getObj,setObj,Sem.run,setBlk]
def Q8 {ro:H_}{fn:Func}{tmps:E_}{R:Ending->World->Prop}{lo:Nat}:∀{ms:List Deferred}{w:World},iy w O lo ms->S P g w st t O->
  (∀w',S P g w' st t O->bg g w g w' (λb=>lo<=b)->∃v,(results fn tmps).run P w'=.ok v w'∧R (.returned v) w')->LeavesInM (FR ro) 0 P fn tmps R ms .returning w
 |[],w,_,s,h=>h w s (.refl _ _ _)
 |d::ds,w,⟨⟨r,h1,h2,h3,h4,h5⟩,h6⟩,s,h=>by
  refine⟨s_,.inl ⟨r,setBlk w r (.deferred none),h1,Di h3,?_⟩⟩;have hx:bg g w g (setBlk w r (.deferred none)) λx=>x=r:=bg.deferBlk h3
  have hm:iy (setBlk w r (.deferred none)) O lo ds:=by
   have:∀{es:List Deferred},(∀d'∈es,∀r',d'.target=.collected r'->r'<r)->iy w O lo es->iy (setBlk w r (.deferred none)) O lo es:=by
    intro es
    induction es with
    |nil=>exact λ_ _=>trivial
    |cons e es ih =>
     rintro hlt ⟨⟨q,k1,k2,k3,k4,k5⟩,k6⟩
     have:=hlt e (.head _) q k1;exact⟨⟨q,k1,k2,by grind [fN],k4,k5⟩,ih (λd' hd'=>hlt d' (.tail _ hd')) k6⟩
   grind
  exact Q8 hm (s.otherG hx h4) λw' s' hx'=>h w' s' ((hx.mono (T:=λb=>lo<=b) λb _ e=>by omega).trans hx' λ_ _ h=>h)
def PM (t:E_):ResultVar->Sem Value
 |.tmp i=>pure (t.getD i undef)
 |.cell i ty=>do loadVar ty (<-asAddr (t.getD i undef))
def Rb (fn:Func)(t:E_):results fn t=(do let vs<-fn.results.mapM (PM t);pure (if h:vs.size=1 then vs[0] else .tuple vs)):=by
 congr 1
def Yn {α:Type}{f:α->Sem Value}{l:Array α}{xs:M_}(h:(l.toList.mapM f).run P w=.ok xs w):(l.mapM f).run P w=.ok xs.toArray w:=by
 simp_all [Array.mapM_eq_mapM_toList]
def AY:∀{vr:AF_}{fr:List ResultVar},ki P vr fr=true->∀{st st':St}{O:Nat->Nat}{vs:D_},ef st vr=some (vs,st')->S P g w st t O->
  ∃xs:M_,∃Ov O',(fr.mapM (PM t)).run P w=.ok xs w∧RVs g w vs xs Ov∧S P g w st' t O'∧(∀b,Ov b+O' b<=O b)∧
   xs.length=fr.length
 |[],[],_,st,st',O,vs,h,s=>by
  obtain⟨rfl,rfl⟩:=h;exact⟨[],zero,O,s_,by simp[RVs],s,λb=>by simp,rfl⟩
 |.tmp i::vr,.tmp j::fr,hc,st,st',O,vs,h,s=>by
  simp only[ki,af,aq]at hc;obtain⟨rfl,hc⟩:=hc;simp only[ef]at h;split at h
  .rename_i v hv;split at h
   .rename_i us st1 hr;obtain⟨rfl,rfl⟩:=h;obtain⟨O1,O2,_,rv,s2,l2⟩:=s.pull hv;obtain⟨xs,O3,O4,hrun,rvs,s4,l4,hlen⟩:=AY hc hr s2;refine⟨t.getD i undef::xs,λb=>O1 b+O3 b,O4,?_,?_,s4,λb=>by grind,u_⟩
    .simp_all [PM]
    grind [RVs]
   simp_all
  simp_all
 |.cell i n::vr,.cell j ty::fr,hc,st,st',O,vs,h,s=>by
  simp only[ki,af,aq]at hc;obtain⟨⟨rfl,hty⟩,hc⟩:=hc;simp only[ef]at h;split at h
  .rename_i id hv;split at h
   .rename_i v h' hl;split at h
    .rename_i us st1 hr;obtain⟨rfl,rfl⟩:=h;obtain⟨O0,O00,_,rp,_,_⟩:=s.pull hv;obtain⟨⟨b,hob,hp⟩,_⟩:=rp;obtain⟨x,O1,O2,hrun1,rv,s2,l2⟩:=QB hty s hob hl;obtain⟨O5,s5,l5⟩:=s2.delEnv i;obtain⟨O6,s6,l6⟩:=s5.delHeap id;obtain⟨xs,O3,O4,hrun,rvs,s4,l4,hlen⟩:=AY hc hr s6;refine⟨x::xs,λb=>O1 b+O3 b,O4,?_,?_,s4,λb=>by grind,u_⟩
     .simp_all [PM,asAddr]
     grind [RVs]
    simp_all
   simp_all
  simp_all
 |[],_::_,hc,_,_,_,_,_,_=>by simp[ki]at hc
 |_::_,[],hc,_,_,_,_,_,_=>by simp[ki]at hc
 |.tmp _::_,.cell _ _::_,hc,_,_,_,_,_,_=>by simp[ki]at hc
 |.cell _ _::_,.tmp _::_,hc,_,_,_,_,_,_=>by simp[ki]at hc
def Wk {vf:aj}{fn:Func}(hc:ki P vf.results fn.results.toList=true){v:AV}{hs':HS}(h:Ca vf st=some (v,hs'))(s:S P g w st t O) :
  ∃x Ov Oh,(results fn t).run P w=.ok x w∧RV g w v x Ov∧S P g w ⟨[],hs'⟩ #[] Oh∧∀b,Ov b+Oh b<=O b:=by
 unfold Ca at h;split at h
 .rename_i v1 st1 hr;obtain⟨rfl,rfl⟩:=h;obtain⟨xs,Ov,O',hrun,rvs,s',l,hlen⟩:=AY hc hr s;obtain⟨x,ys,O1,O2,rfl,rv,⟨rfl,_⟩,hs2⟩:=rvs;obtain⟨Oe,Oh,_,sh,ho⟩:=s'.split;refine⟨x,O1,Oh,?_,rv,sh,λb=>by grind⟩
  simp_all [Rb,Yn]
 .rename_i vs st1 hne hr;obtain⟨rfl,rfl⟩:=h;obtain⟨xs,Ov,O',hrun,rvs,s',l,hlen⟩:=AY hc hr s;obtain⟨Oe,Oh,_,sh,ho⟩:=s'.split;refine⟨.tuple xs.toArray,Ov,Oh,?_,by grind [RV],sh,λb=>by grind⟩;have hl1:xs.length≠1:=by
   intro h1;have h2:=rvs.length;rw[h1]at h2
   match vs,h2 with
   |[v],_=>grind
  simp_all [Rb,Yn]
 simp_all
end
section
variable {P:Program}{g:Gh}{w:World}{t:E_}{O:Nat->Nat}{st st':St}{a:AV}{o:Oper}{r:cH}
def nB {ro:H_}{ops:Array Oper}{Q:Exit->Act->World->Prop}{i:Nat}{rest:C_}{ds:List Deferred}{v:Value}{w':World}(h:ops[i]?=some o)(hg:o.guard=none)
  (hd:∀c,o.op≠.defer c)(hrun:(execOp (ev t) o).run P w=.ok (.value v) w')(hk:wpOpsIn (FR ro) 0 P ops Q rest ⟨tq t o.dst v,ds⟩ w'):wpOpsIn (FR ro) 0 P ops Q (i::rest) ⟨t,ds⟩ w:=by
 simp only[wpOpsIn,h];rw[ac (by grind [Region.wanted])];refine⟨λ_ _=>trivial,?_⟩
 grind [H1,Oper.uponIn_value,Rj]
theorem xd {d:Nat}(h:Fh o d=true):o.dst=some d∧o.guard=none:=by
 grind [Fh,Nat.beq_eq,Option.isNone_iff_eq_none]
theorem Py {x:Operand}(h:Rf x=true):x=.const (.slice none 0 0):=by
 grind [Rf]
theorem tW {i:Nat}{x:Operand}(h:A8 i x=true):x=.tmp i:=by
 unfold A8 at h;grind [Nat.beq_eq]
def aqe {α:Type}{r:Array α}{x:α}(h:r.toList=[x]):r=#[x]:=by
 grind
def PG {d:Nat}{r:Array Oper}(h:PO d r.toList=true):∃o,r=#[o]∧o.dst=some d∧o.guard=none∧o.op=.assign (.const (.slice none 0 0)):=by
 unfold PO at h
 grind [xd,Py]
def acR {m:Nat}{r:Array Oper}(h:Xb P m r.toList=true):∃a b T u,r=#[a,b]∧a.dst=some 3∧a.guard=none∧a.op=.move (.tmp 0)∧b.dst=some 4∧b.guard=none∧
  b.op=.binOp .eql T (.tmp 3) (.const (.slice none 0 0)) u∧f7 P T m=true:=by
 unfold Xb at h
 grind [xd,tW,Py]
def abS {m:Nat}{r:Array Oper}(h:VN P m r.toList=true):∃a b c d T ats e',r=#[a,b,c,d]∧a.dst=some 5∧a.guard=none∧a.op=.buildSlice T 0 #[]∧f7 P T m=true∧
  b.dst=some 6∧b.guard=none∧b.op=.move (.tmp 0)∧c.dst=some 7∧c.guard=none∧c.op=.call ⟨.builtin .append,#[.tmp 5,.tmp 6],ats⟩∧ats=#[qg ⟨.builtin .append,#[.tmp 5,.tmp 6],ats⟩,ats.getD 1 0]∧
  f7 P (qg ⟨.builtin .append,#[.tmp 5,.tmp 6],ats⟩) m=true∧kC P (qg ⟨.builtin .append,#[.tmp 5,.tmp 6],ats⟩) m=true∧P.underlying (ats.getD 1 0)=some (.slice e')∧
  d.dst=some 2∧d.guard=none∧d.op=.assign (.tmp 7):=by
 unfold VN at h;split at h
 .rename_i a b c d e;simp only[af]at h;obtain⟨⟨⟨⟨⟨⟨⟨h1,h2⟩,h3⟩,h4⟩,h5⟩,h6⟩,h7⟩,h8⟩:=h;obtain⟨k1,k2⟩:=xd h1;obtain⟨k3,k4⟩:=xd h3;obtain⟨k5,k6⟩:=xd h5;obtain⟨k7,k8⟩:=xd h7;split at h2
  .rename_i T ps hops;simp only[af]at h2;split at h4
   .split at h6
    .rename_i k hk;obtain⟨callee,args,ats⟩:=k;simp only[af]at h6;obtain⟨⟨⟨⟨⟨q1,q2⟩,q3⟩,q4⟩,q5⟩,q6⟩:=h6;have:=nG q1;subst this;split at q6
     .simp only[af]at q6;have e1:=tW q6.1;have e2:=tW q6.2;have:args=#[.tmp 5,.tmp 6]:=d_;subst this;split at q5
      .rename_i e' he';split at h8
       .exact⟨a,b,c,d,T,ats,e',d_,k1,k2,u_,h2.1,k3,k4,by grind [tW],k5,k6,hk,EM q2,q3,q4,he',k7,k8,by grind [tW]⟩
       simp_all
      simp_all
     simp_all
    simp_all
   simp_all
  simp_all
 simp_all
theorem nN {i j:Nat}{v:Value}(h:j<t.size):(t.setIfInBounds i v).getD j undef=if i=j then v else t.getD j undef:=by
 simp only[eM,ez]
 grind
def abv {m:Nat}{c:Code}(hc:Hw P m c=true){out:bD}(h:Mh m st=some (out,st'))(ht:8<=t.size)(s:S P g w st t O) :
  c.wpIn (FR none) 0 P (bI P g w t O [] none out st') ⟨t,[]⟩ w:=by
 unfold Hw at hc;split at hc
 .rename_i i0 r0 i1 r1 i2 r2 i3 r3;simp only[af]at hc;obtain⟨⟨⟨c0,c1⟩,c2⟩,c3⟩:=hc;obtain⟨o0,rfl,d0,gd0,p0⟩:=PG c0;obtain⟨o1,o2,T,u,rfl,d1,gd1,p1,d2,gd2,p2,hT⟩:=acR c1;obtain⟨o3,rfl,d3,gd3,p3⟩:=PG c2;obtain⟨o4,o5,o6,o7,T4,ats,e',rfl,d4,gd4,p4,hT4,d5,gd5,p5,d6,gd6,p6,hats,hT6,hz6,hu1,d7,gd7,p7⟩:=abS c3;unfold Mh at h;split at h
  .rename_i v hv;split at h
   .rename_i xs hxs;split at h
    .rename_i hb;simp only[af,aU]at hb;obtain⟨hok,hmost⟩:=hb;simp only[ae,aJ]at h;obtain⟨rfl,rfl⟩:=h;have hl:=Fo hok;obtain⟨Ov,O1,h0t,rv,s1,l1⟩:=s.pull hv;obtain⟨ad,cap,news0,hx,hels0⟩:=xo s hxs hl rv;obtain⟨Oe,Oh,_,sh,ho⟩:=s.split;generalize hX:t.getD 0 undef=X at *;obtain⟨el,hu,hsz,hm,hby⟩:=fH hT;have fin:∀(t':E_) (w':World) (g':Gh) (Or O':Nat->Nat),t'.size=t.size->RV g' w' (.own true m xs) (t'.getD 2 undef) Or->S P g' w' ⟨[],st.hs⟩ #[] O'->bg g w g' w' (λb=>O b≠0)->
       (∀b,Or b+O' b<=1)->(∀b,b<w.heap.size->Or b+O' b<=O b)->(∀b,Or b≠0->b<w'.heap.size)->bI P g w t O [] none .ret ⟨[(2,.own true m xs)],st.hs⟩ .ret ⟨t',[]⟩ w':=by
      intro t' w' g' Or O' hsz' rv' s' hx' hle hold hhi;refine⟨rfl,g',λb=>Or b+O' b,[],⟨S.join (by simp[bV]) ⟨Or,zero,⟨d_,rv'⟩,λ_=>rfl,λb=>by simp⟩ s' hle hhi,hx',hold,hsz'⟩,rfl,trivial,λ_=>rfl⟩
     have nodef:∀{op:Op}{op':Op},op=op'->(∀c,op'≠.defer c)->∀c,op≠.defer c:=λe h c e2=>h c (e▸e2)
     refine wpIn_seq (wpIn_region ?_);show wpOpsIn _ _ _ _ _ [0] _ _;refine nB (o:=o0) (v:=.slice none 0 0) (w':=w) rfl gd0 (nodef p0 s_) (by simp[execOp,p0,ev]) ?_;refine wpIn_seq (wpIn_seq (wpIn_region ?_));show wpOpsIn _ _ _ _ _ [0,1] _ _;have hev0:ev (tq t (some 2) (.slice none 0 0)) (.tmp 0)=X:=by
      show(t.setIfInBounds 2 _).getD 0 undef=X
      grind [nN]
     rw[d0];refine nB (o:=o1) (v:=X) (w':=w) rfl gd1 (nodef p1 s_) (by simp[execOp,p1,hev0]) ?_;rw[d1];generalize ht2:tq (tq t (some 2) (.slice none 0 0)) (some 3) X=t2;have hs2:t2.size=t.size:=by grind [nL]
     have hev3:ev t2 (.tmp 3)=X:=by
      rw[<-ht2];show((tq t (some 2) (.slice none 0 0)).setIfInBounds 3 X).getD 3 undef=X
      grind [nN,nL]
     have heq:(Op.equal T X (.slice none 0 0)).run P w=.ok ad.isNone w:=by
      show(Op.equalIn (9999+1) T X (.slice none 0 0)).run P w=_;rw[hx];unfold Op.equalIn;rw[aB,aL hu]
      cases ad<;>simp
     have hguard:(eqGuard .eql T (.tmp 3) (.const (.slice none 0 0)) X (.slice none 0 0)).run P w=.ok () w:=by
      rw[hx];unfold eqGuard;simp
     refine nB (o:=o2) (v:=.bool ad.isNone) (w':=w) rfl gd2 (nodef p2 s_) ?_ ?_
     .simp only[execOp,p2,hev3];have hc:ev t2 (.const (.slice none 0 0))=.slice none 0 0:=rfl;rw[hc,aB,aB,hguard];have hbin:(binOp .eql T X (.slice none 0 0)).run P w=.ok (.bool ad.isNone) w:=by
       rw[hx];rw[hx]at heq;show((do pure (.bool (<-Op.equal T (.slice ad xs.length cap) (.slice none 0 0))):Sem Value)).run P w=_;rw[aB,heq];rfl
      grind [Result.andThen_ok,Sem.run_pure]
     .rw[d2];generalize ht3:tq t2 (some 4) (.bool ad.isNone)=t3;have hs3:t3.size=t.size:=by grind [nL]
      have hev4:ev t3 (.tmp 4)=.bool ad.isNone:=by
       rw[<-ht3];show(t2.setIfInBounds 4 _).getD 4 undef=_
       grind [nN]
      have hev03:ev t3 (.tmp 0)=X:=by
       rw[<-ht3,<-ht2];show(((t.setIfInBounds 2 _).setIfInBounds 3 _).setIfInBounds 4 _).getD 0 undef=X
       grind [nN]
      show(Code.cond (.tmp 4) (.seq (.region i2 #[o3] false) .ret) .skip).wpIn (FR none) 0 P _ ⟨t3,[]⟩ w
      cases had:ad with
      |none =>
       refine wpIn_cond_true (by rw[C9,hev4,had];rfl) (wpIn_seq (wpIn_region ?_));show wpOpsIn _ _ _ _ _ [0] _ _;refine nB (o:=o3) (v:=.slice none 0 0) (w':=w) rfl gd3 (nodef p3 s_) (by simp[execOp,p3,ev]) (wpIn_ret ?_);rw[d3];have hnil:xs=[]:=bc (hels0.nn had);refine fin _ w g zero Oh (by rw[nL,hs3]) ?_ sh (.refl _ _ _) (λb=>by have:=ho b;have:=s.le b;grind) (λb _=>by grind) (λb hb=>by simp at hb);have:(tq t3 (some 2) (.slice none 0 0)).getD 2 undef=.slice none 0 0:=by
        show(t3.setIfInBounds 2 _).getD 2 undef=_
        grind [nN]
       grind [RV,zT]
      |some ad' =>
       refine wpIn_cond_false (by rw[C9,hev4,had];rfl) (wpIn_skip ?_);refine wpIn_seq (wpIn_region ?_);show wpOpsIn _ _ _ _ _ [0,1,2,3] _ _;obtain⟨el4,hu4,hsz4,hm4,hby4⟩:=fH hT4;have hbuild:(Instr.buildSlice T4 0 #[]).run P w=.ok (.slice (some ⟨w.heap.size,0,none⟩) 0 0) (w.alloc (.cells #[] el4)):=by
        have hr:∀f:Nat->Value,(Array.range (0*m)).map f=#[]:=by
         grind
        simp only[Instr.buildSlice,aL hu4,dw hsz4,aB,aS,kw,Instr.fill,Nat.zero_mul,bK,cD];have hr0:∀f:Nat->Value,(Array.range 0).map f=#[]:=by
         grind
        simp[newRow,hr0]
       refine nB (o:=o4) (v:=.slice (some ⟨w.heap.size,0,none⟩) 0 0) (w':=w.alloc (.cells #[] el4)) rfl gd4 (nodef p4 s_) (by simp[execOp,p4,hbuild]) ?_;rw[d4];generalize ht5:tq t3 (some 5) (.slice (some ⟨w.heap.size,0,none⟩) 0 0)=t5;have hs5:t5.size=t.size:=by grind [nL]
       have hev05:ev t5 (.tmp 0)=X:=by
        rw[<-ht5];show(t3.setIfInBounds 5 _).getD 0 undef=X;rw[nN o_,aa o_];exact hev03
       refine nB (o:=o5) (v:=X) (w':=w.alloc (.cells #[] el4)) rfl gd5 (nodef p5 s_) (by simp[execOp,p5,hev05]) ?_;rw[d5];generalize ht6:tq t5 (some 6) X=t6;have hs6:t6.size=t.size:=by grind [nL]
       have hev66:ev t6 (.tmp 6)=X:=by
        rw[<-ht6];show(t5.setIfInBounds 6 _).getD 6 undef=X
        grind [nN]
       have hev65:ev t6 (.tmp 5)=.slice (some ⟨w.heap.size,0,none⟩) 0 0:=by
        rw[<-ht6,<-ht5];show((t3.setIfInBounds 5 _).setIfInBounds 6 _).getD 5 undef=_
        grind [nN]
       have hx1:bg g w g (w.alloc (.cells #[] el4)) λ_=>False:=bg.alloc s.pmlt _ _
       have hpl:∀b o,g.pm b o->b<(w.alloc (.cells #[] el4)).heap.size:=λb o h=>aH (s.pmlt b o h) hx1.size
       have sx:=s.extF hx1 rfl hpl;have shx:=sh.extF hx1 rfl hpl;have rvx:=RV.ext hx1 _ _ _ rv s_;obtain⟨ad2,cap2,news,hxx,hels⟩:=xo sx hxs hl rvx;rw[hx,had]at hxx;simp only[Value.slice.injEq,true_and]at hxx;obtain⟨rfl,rfl⟩:=hxx;obtain⟨el6,hu6,hsz6,hm6,hby6⟩:=fH hT6;obtain⟨el6',i6,zv,hu6',hi,hz,hzs⟩:=oz hz6;rw[hu6]at hu6';simp only[ae,fM]at hu6';subst hu6';rw[FM hi]at hby6;generalize qg ⟨.builtin .append,#[.tmp 5,.tmp 6],ats⟩=T0 at *;generalize ats.getD 1 0=T1 at *;have hsrc:QE P (w.alloc (.cells #[] el4)) T1 X el6 m xs.length news:=by
        refine⟨hels.len,hels.one,.inl ⟨⟨e',hu1⟩,⟨ad,cap,hx⟩,λw1 hw=>?_⟩⟩;have:=hels.first (P:=P) (len:=xs.length) (cap:=cap) (ai _) hw
        rw[<-hels.len,qD,<-had,<-hx]at this;exact this
       have hmost':xs.length<=4294967296:=hmost;have hApp:qK P g (w.alloc (.cells #[] el4)) #[] Oh zero ⟨[],st.hs⟩ (.own true m xs) ((Builtin.append_ #[T0,T1] o6.type #[.slice (some ⟨w.heap.size,0,none⟩) 0 0,X]).run P (w.alloc (.cells #[] el4))):=by
        by_cases hxs0:xs.length=0
        .have hnil:news=[]:=bc (by grind [yl.len]);have hxn:xs=[]:=bc hxs0;have hrun:=zo (P:=P) (w:=w.alloc (.cells #[] el4)) (ty:=o6.type) hu6 hi (Jb hsz6 hi) hm6 hby6 hmost' hsrc (base:=some ⟨w.heap.size,0,none⟩) (sLen:=0) (sCap:=0) o_;refine⟨.slice (some ⟨w.heap.size,0,none⟩) 0 0,w.alloc (.cells #[] el4),g,zero,Oh,?_,?_,shx,.refl _ _ _,λb=>by have:=shx.le b;simp_all,λb _=>by simp,λb hb=>by simp at hb⟩
         .simp_all [storeCells]
         simp_all [RV,zT]
        .have:=Ok (Oa:=zero) (xs:=[]) (base:=some ⟨w.heap.size,0,none⟩) (sCap:=0) (olds:=[]) (ty:=o6.type) shx hu6 hi hz hzs (Jb hsz6 hi) hm6 hby6 hsrc hels.rd (λe he=>by simp at he) hl (by simp)
          (λj d h=>by simp at h) (λw1 _=>sv m _ 0 0 w1) u_ (by omega)
         simp_all
       obtain⟨vv,w2,g2,Or,O2,k1,k2,k3,k4,k5,k6,k7⟩:=hApp;refine nB (o:=o6) (v:=vv) (w':=w2) rfl gd6 (nodef p6 s_) ?_ ?_
       .simp_all [execOp,resolve,invoke,builtin]
       .rw[d6];generalize ht7:tq t6 (some 7) vv=t7;have hs7:t7.size=t.size:=by grind [nL]
        have hev77:ev t7 (.tmp 7)=vv:=by
         rw[<-ht7];show(t6.setIfInBounds 7 _).getD 7 undef=vv
         grind [nN]
        refine nB (o:=o7) (v:=vv) (w':=w2) rfl gd7 (nodef p7 s_) (by simp_all [execOp]) (wpIn_ret ?_);have hle1:w.heap.size<=(w.alloc (.cells #[] el4)).heap.size:=hx1.size;refine fin _ w2 g2 Or O2 (by rw[nL,hs7]) ?_ k3 (((hx1.mono (T:=λb=>O b≠0) λ_ _ h=>h.elim)).trans k4 λb hb hq=>?_) k5 (λb hb=>?_) k7
        .have:(tq t7 (some 2) vv).getD 2 undef=vv:=by
          show(t7.setIfInBounds 2 _).getD 2 undef=_
          grind [nN]
         simp_all
        all_goals grind
    grind
   grind
  grind
 simp_all
end
abbrev li:=@ComesIn.of_steps
section
variable {P:Program}{F:Fence}{n:Nat}
def BN {fn:Func}{tmps:E_}{R:Ending->World->Prop}:∀(ds:List Deferred) (u:FrameMode) (w:World) (fr:Frame)
  (cs:List Frame),fr.mode=u->fr.defers=ds->fr.tmps=tmps->P.funcs[fr.fn]?=some fn->fr.kind=.deferred->F.fn fr.fn->F.room (cs.length+1+n)->LeavesInM F n P fn tmps R ds u w->
  ∃e w' fr',R e w'∧ComesIn (Machine.fenced P F) P (lone fr cs w) (lone fr' cs w') e∧fr'.fn=fr.fn∧fr'.kind=.deferred∧fr'.going P w' e:=by
 intro ds
 induction ds with
 |nil =>
  intro u w fr cs hu hd ht hf hk _ _ h
  cases u with
  |run=>exact h.elim
  |returning =>
   obtain⟨v,hr,hR⟩:=h;exact⟨.returned v,w,fr,hR,StepsIn.refl _,rfl,hk,hu,hd,fn,hf,ht▸hr⟩
  |panicking chain=>exact⟨.panicked chain,w,fr,h,StepsIn.refl _,rfl,hk,hu,hd,fn,hf⟩
 |cons d ds ih =>
  intro u w fr cs hu hd ht hf hk hb hroom h;obtain⟨hrun,h⟩:=h;rcases h with ⟨r,w',htar,htake,hrest⟩|⟨hn,fv,cap,f,args,htar,hinv,hlead,hFf,hcall⟩
  .have h1:=step_collected (cs:=cs) (hu▸hrun) hd htar htake;have i1:(lone fr cs w).fenced P F:=fenced_out hb hroom (hu▸hrun) hd (λg hg=>by grind [Target.leads]);obtain⟨e',w'',fr',hR',hs',hfn',hk',hl'⟩:=ih u w' { fr with defers:=[]++ds } cs hu rfl ht hf hk hb hroom hrest;exact⟨e',w'',fr',hR',li (.one i1 h1) hs',hfn',hk',hl'⟩
  .have h1:=step_defer (cs:=cs) (hu▸hrun) hd htar hinv;have i1:(lone fr cs w).fenced P F:=fenced_out hb hroom (hu▸hrun) hd hlead;have hroom':F.room (({ fr with defers:=ds }::cs).length+1+(n-1)):=Fence.room_enter hroom hn;obtain⟨e,u',w',frX,hR,hsteps,hkX,hfX,hgo⟩:=hcall { fr with defers:=ds } cs hu hroom'
   cases e with
   |outgrown=>exact⟨.outgrown,w',fr,hR,Outgrown.of_steps (.one h1) hsteps,rfl,hk,trivial⟩
   |returned v =>
    have i2:(lone frX ({ { fr with defers:=ds } with mode:=u' }::cs) w').fenced P F:=fenced_going (n:=n-1) (hfX▸hFf) hroom' hgo;have h2:=step_going_returned (c:={ { fr with defers:=ds } with mode:=u' }) (cs:=cs) hkX hgo;obtain⟨e',w'',fr',hR',hs',hfn',hk',hl'⟩:=ih (settle u') w' { { { fr with defers:=ds } with mode:=u' } with mode:=settle u' } cs rfl rfl ht hf hk hb hroom hR;exact⟨e',w'',fr',hR',li (.head i1 h1 (ox hsteps (.one i2 h2))) hs',hfn',hk',hl'⟩
   |panicked chain =>
    have i2:(lone frX ({ { fr with defers:=ds } with mode:=u' }::cs) w').fenced P F:=fenced_going (n:=n-1) (hfX▸hFf) hroom' hgo;have h2:=step_going_panicked (c:={ { fr with defers:=ds } with mode:=u' }) (cs:=cs) hgo;obtain⟨e',w'',fr',hR',hs',hfn',hk',hl'⟩:=ih (raised u' chain) w' { { { fr with defers:=ds } with mode:=u' } with mode:=raised u' chain } cs rfl rfl ht hf hk hb hroom hR;exact⟨e',w'',fr',hR',li (.head i1 h1 (ox hsteps (.one i2 h2))) hs',hfn',hk',hl'⟩
def Jd {f:FuncId}{fn:Func}{c:Code}{args:E_}{u:FrameMode}{w:World}{R:Ending->World->Prop}
  (hf:P.funcs[f]?=some fn)(hb:fn.body=some c)(hF:F.fn f)
  (h:c.wpIn F n P (bodyPostM F n P fn R) { tmps:=args++Array.replicate (fn.ntmps-args.size) undef,defers:=[] } w)(hro:F.round=none:=by rfl) :
  CallsDIn F n P f args u w λe u' w'=>u'=u∧R e w':=by
 refine⟨hF,λc₀ cs hu hr=>?_⟩
 let b:Frame:={ (default:Frame) with fn:=f,kind:=.deferred,roundOf:=none }
 have henter:Frame.enter P f args .deferred =
   b.atR { tmps:=args++Array.replicate (fn.ntmps-args.size) undef,defers:=[] } [.code c]:=by
  grind [Frame.enter,Frame.atR]
 have hc:({ c₀ with mode:=u }:Frame)=c₀:=by subst hu;rfl
 obtain⟨e,a',w',hq,harr⟩:=h b [] (c₀::cs) hro.symm hF hr;rw[<-henter]at harr
 cases e with
 |normal =>
  obtain⟨e',w'',fr',hR,hs,hfn,hk,hl⟩:=BN a'.defers .returning w' { b.atR a' [] with mode:=.returning } (c₀::cs) rfl rfl rfl hf rfl hF hr hq;exact⟨e',u,w'',fr',⟨rfl,hR⟩,(by rw[hc];exact li (ox harr (.one (fenced_calm (fr:=b.atR a' []) hF hr rfl) (stepR_end rfl))) hs),hk,hfn,hl⟩
 |ret =>
  obtain⟨todo,hs₀⟩:=harr.1 rfl;obtain⟨e',w'',fr',hR,hs,hfn,hk,hl⟩:=BN a'.defers .returning w' { b.atR a' todo with mode:=.returning } (c₀::cs) rfl rfl rfl hf rfl hF hr hq;exact⟨e',u,w'',fr',⟨rfl,hR⟩,(by grind [ComesIn.of_steps]),hk,hfn,hl⟩
 |panic chain =>
  obtain⟨todo,hs₀⟩:=harr;obtain⟨e',w'',fr',hR,hs,hfn,hk,hl⟩:=BN a'.defers (.panicking chain) w' { b.atR a' todo with mode:=.panicking chain } (c₀::cs) rfl rfl rfl hf rfl hF hr hq;exact⟨e',u,w'',fr',⟨rfl,hR⟩,(by grind [ComesIn.of_steps]),hk,hfn,hl⟩
 |exit id=>exact hq.elim
 |goto l=>exact hq.elim
 |outgrown=>exact⟨.outgrown,u,w',b,⟨rfl,hq⟩,(by exact harr.resolve_left (by simp[b])),rfl,rfl,trivial⟩
end
section
variable {P:Program}{g:Gh}{w:World}{t:E_}{O:Nat->Nat}{st st':St}{a:AV}{o:Oper}{r:cH}
def Af (P:Program)(r:cH):Prop :=
 ∀{f:FuncId}{args:D_}{hs:HS}{v:AV}{hs':HS},r.call f args hs=some (v,hs')->
  ∀{g:Gh}{w:World}{xs:M_}{Oa Oh:Nat->Nat},RVs g w args xs Oa->S P g w ⟨[],hs⟩ #[] Oh->(∀b,Oa b+Oh b<=1)->(∀b,Oa b≠0->b<w.heap.size)->∀u:FrameMode,
   CallsDIn (FR none) 0 P f xs.toArray u w λe u' w'=>u'=u∧fm P g w (λb=>Oa b+Oh b) v hs' e w'
def NU {ro:H_}{fn:Func}{tmps:E_}{R:Ending->World->Prop}{lo:Nat}{es:List Deferred}:∀{ms:List Deferred}{w:World},iy w O lo ms->S P g w st t O->
  (∀w',S P g w' st t O->bg g w g w' (λb=>lo<=b)->LeavesInM (FR ro) 0 P fn tmps R es .returning w')->LeavesInM (FR ro) 0 P fn tmps R (ms++es) .returning w
 |[],w,_,s,h=>h w s (.refl _ _ _)
 |d::ds,w,⟨⟨r,h1,h2,h3,h4,h5⟩,h6⟩,s,h=>by
  refine⟨s_,.inl ⟨r,setBlk w r (.deferred none),h1,Di h3,?_⟩⟩;have hx:bg g w g (setBlk w r (.deferred none)) λx=>x=r:=bg.deferBlk h3
  have hm:iy (setBlk w r (.deferred none)) O lo ds:=by
   have:∀{es:List Deferred},(∀d'∈es,∀r',d'.target=.collected r'->r'<r)->iy w O lo es->iy (setBlk w r (.deferred none)) O lo es:=by
    intro es
    induction es with
    |nil=>exact λ_ _=>trivial
    |cons e es ih =>
     rintro hlt ⟨⟨q,k1,k2,k3,k4,k5⟩,k6⟩
     have:=hlt e (.head _) q k1;exact⟨⟨q,k1,k2,by grind [fN],k4,k5⟩,ih (λd' hd'=>hlt d' (.tail _ hd')) k6⟩
   grind
  exact NU hm (s.otherG hx h4) λw' s' hx'=>h w' s' ((hx.mono (T:=λb=>lo<=b) λb _ e=>by omega).trans hx' λ_ _ h=>h)
end
def ah9 (P:Program)(vf:aj)(f:FuncId):Prop :=
 ∃fn c,P.funcs[f]?=some fn∧fn.body=some c∧fn.name≠ "runtime.NumGoroutine"∧vf.nparams<=fn.ntmps∧ki P vf.results fn.results.toList=true∧
  (Mt P fn.ntmps vf.body c∨(∃m,vf.body=.clone m∧Hw P m c=true∧8<=fn.ntmps)∨∃i d f a,vf.body=.late i d f a∧Mo P fn.ntmps i d f a c=true)
def EN (P:Program)(T:Nat->W_):Prop:=∀f vf,T f=some vf->ah9 P vf f
def C3 (P:Program)(r:cH):Prop :=
 ∀{v:VC}{st:St}{o:bD}{st':St},r.code (.loop v) st=some (o,st')->∀{c:Code}{n:Nat},Mt P n v c->∀{g:Gh}{w:World}{t:E_}{O:Nat->Nat},t.size=n->S P g w st t O->
  ∀(ro:H_) (ds:List Deferred),Aj w ro->HA ro P c (bI P g w t O ds ro o st') ⟨t,ds⟩ w
def zZ (P:Program)(r:cH):Prop :=
 ∀{v cur:VC}{st:St}{o:bD}{st':St},r.code (.inScope v cur) st=some (o,st')->∀{body c:Code}{n:Nat},Mt P n v body->Mt P n cur c->∀{g:Gh}{w:World}{t:E_}{O:Nat->Nat},t.size=n->
  S P g w st t O->∀(ro:H_) (ds:List Deferred),Aj w ro->Be ro P body c (bI P g w t O ds ro o st') ⟨t,ds⟩ w
def Ap (P:Program)(r:cH):Prop :=
 ∀{v:VC}{st:St}{o:bD}{st':St},tB v=true->r.code v st=some (o,st')->o=.normal∧∀{g:Gh}{w:World}{t:E_}{O:Nat->Nat},S P g w st t O->∃g' O',fk P g w t O st' t w g' O'
section
variable {P:Program}{g:Gh}{w:World}{t:E_}{O:Nat->Nat}{st st':St}{r:cH}
def HA.mono {ro:H_}{c:Code}{Q Q':Exit->Act->World->Prop}{a:Act}(h:HA ro P c Q a w)(hq:∀e a w,Q e a w->Q' e a w):HA ro P c Q' a w :=
 λb k cs hr=>let ⟨e,a',w',q,x⟩:=h b k cs hr;⟨e,a',w',hq _ _ _ q,x⟩
def Be.mono {ro:H_}{body c:Code}{Q Q':Exit->Act->World->Prop}{a:Act}(h:Be ro P body c Q a w)(hq:∀e a w,Q e a w->Q' e a w):Be ro P body c Q' a w :=
 λb k cs hr=>let ⟨e,a',w',q,x⟩:=h b k cs hr;⟨e,a',w',hq _ _ _ q,x⟩
def fk.mono {O2:Nat->Nat}{t':E_}{w':World}{g':Gh}{O':Nat->Nat}(h:fk P g w t O st' t' w' g' O')(hle:∀b,O b<=O2 b):fk P g w t O2 st' t' w' g' O' :=
 ⟨h.st,h.ext.mono λb _ hb=>by grind,λb hb=>aC (h.old b hb) (hle b),h.size⟩
def bI.mono {O2:Nat->Nat}{ds:List Deferred}{ro:H_}{o:bD}{e:Exit}{a':Act}{w':World}(h:bI P g w t O ds ro o st' e a' w')(hle:∀b,O b<=O2 b):bI P g w t O2 ds ro o st' e a' w':=by
 obtain⟨he,g',O',ms,G,hd,hm,hr⟩:=h;exact⟨he,g',O',ms,G.mono hle,hd,hm,hr⟩
def bI.refl {ds:List Deferred}{ro:H_}(o:bD)(s:S P g w st t O):bI P g w t O ds ro o st (Bl o) ⟨t,ds⟩ w :=
 ⟨rfl,g,O,[],fk.refl s,rfl,trivial,λ_=>rfl⟩
def bI.ghost {ds:List Deferred}{ro:H_}{o o2:bD}{st2:St}{e:Exit}{a':Act}{w':World}(h:bI P g w t O ds ro o st' e a' w')
  (hg:∀{g:Gh}{w:World}{t:E_}{O:Nat->Nat},S P g w st' t O->∃g' O',fk P g w t O st2 t w g' O')(ho:Bl o=Bl o2):bI P g w t O ds ro o2 st2 e a' w':=by
 obtain⟨he,g',O',ms,G,hd,hm,hr⟩:=h;obtain⟨g2,O2,G2⟩:=hg G.st;exact⟨he.trans ho,g2,O2,ms,G.trans G2,hd,hm.after G2.ext G2.old,hr⟩
theorem bI.as {ds:List Deferred}{ro:H_}{o o2:bD}{e:Exit}{a':Act}{w':World}(h:bI P g w t O ds ro o st' e a' w'):bI P g w t O ds ro o2 st' (Bl o2) a' w':=by
 obtain⟨_,h⟩:=h;exact⟨rfl,h⟩
def AC {ds:List Deferred}{ro:H_}(hro:Aj w ro){o1:bD}{st1:St}{next:Act->World->Prop}{o:bD}{e:Exit}{a1:Act}{w1:World}(h:bI P g w t O ds ro o1 st1 e a1 w1)
  (hn:o1=.normal->∀(t1:E_) (ds1:List Deferred) (g1:Gh) (O1:Nat->Nat),t1.size=t.size->S P g1 w1 st1 t1 O1->Aj w1 ro->
   (∀e a2 w2,bI P g1 w1 t1 O1 ds1 ro o st' e a2 w2->bI P g w t O ds ro o st' e a2 w2)->next ⟨t1,ds1⟩ w1)
  (ho:o1≠.normal->o=o1∧st'=st1):Exit.then next (bI P g w t O ds ro o st') e a1 w1:=by
 have h0:=h;obtain⟨he,g1,O1,ms,G,hd,hm,hr⟩:=h;subst he;by_cases hnm:o1=.normal
 .subst hnm;obtain⟨t1,d1⟩:=a1;subst hd;exact hn rfl t1 _ g1 O1 G.size G.st (hro.ext G.ext) λe a2 w2 k=>bI.comp G hm hr k
 .obtain⟨rfl,rfl⟩:=ho hnm
  cases o<;>first|exact absurd rfl hnm|exact h0
def T6 (hc:gE P r)(hl:C3 P r)(hs:zZ P r)(hgh:Ap P r)(hr:fV P r){v:VC}{o:bD}(h:cj v r st=some (o,st')){c:Code}{n:Nat}(hm:Mt P n v c)(hn:t.size=n)
  (s:S P g w st t O)(ro:H_)(ds:List Deferred)(hro:Aj w ro):c.wpIn (FR ro) 0 P (bI P g w t O ds ro o st') ⟨t,ds⟩ w:=by
 cases hm with
 |@ghostL a b c h1 h2 =>
  simp only[cj,Id]at h;split at h
  .rename_i st1 ha;obtain⟨_,hg⟩:=hgh h1 ha;obtain⟨g1,O1,G⟩:=hg s;exact wpIn_mono (hc h h2 o_ G.st ro ds hro) λe a2 w2 k=>bI.comp (ms1:=[]) G trivial (λ_=>rfl) k
  .rename_i x hx
   cases hra:r.code a st with
   |none=>simp_all
   |some p =>
    obtain⟨o1,st1⟩:=p;obtain⟨rfl,_⟩:=hgh h1 hra
    simp_all
 |@ghostR a b c h1 h2 =>
  simp only[cj,Id]at h;split at h
  .rename_i st1 ha;obtain⟨rfl,hg⟩:=hgh h1 h;exact wpIn_mono (hc ha h2 hn s ro ds hro) λe a2 w2 k=>k.ghost hg rfl
  .rename_i x hx;exact hc h h2 hn s ro ds hro
 |@seq a b c d h1 h2 =>
  simp only[cj,Id]at h;split at h
  .rename_i st1 ha;refine wpIn_seq (wpIn_mono (hc ha h1 hn s ro ds hro) λe a1 w1 k=>AC hro k (λ_ t1 ds1 g1 O1 hs1 s1 hro1 hcomp=>?_) (λhne=>absurd rfl hne));exact wpIn_mono (hc h h2 o_ s1 ro ds1 hro1) hcomp
  .rename_i x hx;refine wpIn_seq (wpIn_mono (hc h h1 hn s ro ds hro) λe a1 w1 k=>AC hro k (λhnm=>?_) (λ_=>⟨rfl,rfl⟩))
   simp_all
 |skip =>
  simp only[cj,ae,aJ]at h;obtain⟨rfl,rfl⟩:=h;exact wpIn_skip (bI.refl .normal s)
 |@reg ops id os hops =>
  simp only[cj,Mi]at h;split at h
  .rename_i st1 hst;simp only[ae,aJ]at h;obtain⟨rfl,rfl⟩:=h;refine wpIn_region ?_;have:=RW (ro:=ro) (Q:=bI P g w t O ds ro .normal st1) hr hc ds (k:=0) rfl hops hn s hst λw' t' g' O' G=>⟨rfl,g',O',[],G,rfl,trivial,λ_=>rfl⟩
   grind [List.range_eq_range']
  simp_all
 |@draw ops id os hops =>
  simp only[cj,Mi]at h;split at h
  .rename_i st1 hst;simp only[ae,aJ]at h;obtain⟨rfl,rfl⟩:=h;exact agb hr hc ds hops hn s hst λw' t' g' O' G=>⟨rfl,g',O',[],G,rfl,trivial,λ_=>rfl⟩
  simp_all
 |@drawP perm gco nr ops id os hops =>
  simp only[cj,GD,G0]at h;split at h
  .rename_i habs;split at h
   .rename_i st1 hst;simp only[ae,aJ]at h;obtain⟨rfl,rfl⟩:=h;exact adU hr hc ds hops hn s habs hst λw' t' g' O' G=>⟨rfl,g',O',[],G,rfl,trivial,λ_=>rfl⟩
   simp_all
  simp_all
 |@cond rd o' a b c d h1 h2 h3 =>
  simp only[cj,Lj]at h;have step:∀(tb:Bool) (e:aK) (k:VC) (cd:Code),Vm.rd st.env rd=some (B_ tb,e)->r.code k ⟨e,st.hs⟩=some (o,st')->Mt P n k cd->(if tb then c else d)=cd->
    (Code.cond o' c d).wpIn (FR ro) 0 P (bI P g w t O ds ro o st') ⟨t,ds⟩ w:=by
   intro tb e k cd hrd hk hmk hcd;obtain⟨Ov,O',rv,s',l⟩:=s.rd h1 hrd;have hev:=xk rv rfl;refine wpIn_cond (t:=tb) (by simp_all [C9]) ?_;rw[hcd];exact wpIn_mono (hc hk hmk hn s' ro ds hro) λe a2 w2 k=>k.mono λb=>by grind
  grind
 |@block bid a c h1 =>
  simp only[cj,GL]at h;split at h
  .rename_i j st1 ha;refine wpIn_block (wpIn_mono (hc ha h1 hn s ro ds hro) λe a1 w1 k=>?_);obtain⟨rfl,_⟩:=id k
   grind [Bl,Exit.inBlock,Nat.beq_eq,bI.as]
  .rename_i x hx;refine wpIn_block (wpIn_mono (hc h h1 hn s ro ds hro) λe a1 w1 k=>?_);have hne:∀j,o≠.exit j:=u_;obtain⟨rfl,_⟩:=id k
   cases o<;>first|exact k|simp_all
 |@loop a c h1 =>
  simp only[cj,Ll]at h;refine(PJ ?_).2;split at h
  .rename_i st1 ha;refine wpIn_mono (hc ha h1 hn s ro ds hro) λe a1 w1 k=>AC hro k (λ_ t1 ds1 g1 O1 hs1 s1 hro1 hcomp=>?_) (λhne=>absurd rfl hne)
   exact(hl h h1 o_ s1 ro ds1 hro1).mono hcomp
  .rename_i x hx;refine wpIn_mono (hc h h1 hn s ro ds hro) λe a1 w1 k=>AC hro k (λhnm=>?_) (λ_=>⟨rfl,rfl⟩)
   simp_all
 |@rangeF rd o' ps qs a b c d h1 h2 h3 h4 h5 =>
  subst hn h2;exact ZR hr h h1 h3 h4 h5 s ro ds hro
 |exit =>
  simp only[cj,ae,aJ]at h;obtain⟨rfl,rfl⟩:=h;exact wpIn_exit (bI.refl (.exit _) s)
 |@scope a c h1 =>
  exact adV (hs h h1 h1 hn s ro ds hro)
 |label =>
  obtain⟨rfl,rfl⟩:=h;exact wpIn_label (bI.refl .normal s)
 |goto =>
  obtain⟨rfl,rfl⟩:=h;exact wpIn_goto (bI.refl (.goto _) s)
 |ret =>
  obtain⟨rfl,rfl⟩:=h;exact wpIn_ret (bI.refl .ret s)
def adE (hc:gE P r)(hl:C3 P r){v:VC}{o:bD}(h:cj (.loop v) r st=some (o,st')){c:Code}{n:Nat}(h1:Mt P n v c)(hn:t.size=n)
  (s:S P g w st t O)(ro:H_)(ds:List Deferred)(hro:Aj w ro):HA ro P c (bI P g w t O ds ro o st') ⟨t,ds⟩ w:=by
 simp only[cj,Ll]at h;refine(PJ ?_).1;split at h
 .rename_i st1 ha;refine wpIn_mono (hc ha h1 hn s ro ds hro) λe a1 w1 k=>AC hro k (λ_ t1 ds1 g1 O1 hs1 s1 hro1 hcomp=>?_) (λhne=>absurd rfl hne)
  exact(hl h h1 o_ s1 ro ds1 hro1).mono hcomp
 .refine wpIn_mono (hc h h1 hn s ro ds hro) λe a1 w1 k=>AC hro k (λhnm=>?_) (λ_=>⟨rfl,rfl⟩)
  simp_all
def acz (hc:gE P r)(hs:zZ P r){v cur:VC}{o:bD}(h:cj (.inScope v cur) r st=some (o,st')){body c:Code}{n:Nat}(h1:Mt P n v body)(h2:Mt P n cur c)(hn:t.size=n)
  (s:S P g w st t O)(ro:H_)(ds:List Deferred)(hro:Aj w ro):Be ro P body c (bI P g w t O ds ro o st') ⟨t,ds⟩ w:=by
 simp only[cj,E5]at h;refine ZB ?_;split at h
 .rename_i l st1 ha;refine wpIn_mono (hc ha h2 hn s ro ds hro) λe a1 w1 k=>?_
  have k0:=k;obtain⟨rfl,g1,O1,ms,G,hd,hm,hr⟩:=k;have hf:=aes h1 l;simp only[Bl,Exit.scope];split at h
  .rename_i rest hrest;rw[hrest]at hf;obtain⟨y,hy,hmy⟩:=hf;rw[hy];obtain⟨t1,d1⟩:=a1;subst hd;exact(hs h h1 hmy (by rw[G.size,hn]) G.st ro _ (hro.ext G.ext)).mono λe a2 w2 k=>bI.comp G hm hr k
  .rename_i hnone;rw[hnone]at hf;rw[hf];obtain⟨rfl,rfl⟩:=h;exact k0
 .refine wpIn_mono (hc h h2 hn s ro ds hro) λe a1 w1 k=>?_
  obtain⟨rfl,_⟩:=id k
  cases o<;>first|exact k|simp_all
theorem QF {r:cH}:∀{ops:Q_}{st st':St},ops.all G7=true->ji r ops st=some st'->∀{g:Gh}{w:World}{t:E_}{O:Nat->Nat},S P g w st t O->∃g' O',fk P g w t O st' t w g' O'
 |[],st,st',_,h,g,w,t,O,s=>by
  simp only[ji,ae]at h;subst h;exact⟨g,O,fk.refl s⟩
 |i::l,st,st',ha,h,g,w,t,O,s=>by
  simp only[fg,af]at ha;simp only[ji]at h;split at h
  .rename_i st1 hv;obtain⟨g1,O1,G1⟩:=T8 s ha.1 hv;obtain⟨g2,O2,G2⟩:=QF ha.2 h G1.st;exact⟨g2,O2,G1.trans G2⟩
  simp_all
def ac3 (hg:Ap P r){v:VC}{o:bD}(hv:tB v=true)(h:cj v r st=some (o,st')):o=.normal∧∀{g:Gh}{w:World}{t:E_}{O:Nat->Nat},S P g w st t O->∃g' O',fk P g w t O st' t w g' O':=by
 cases v<;>simp only[tB,al]at hv
 .grind [cj,Mi,QF]
 .simp only[af]at hv;simp only[cj,Id]at h;split at h
  .rename_i st1 hst;obtain⟨_,h1⟩:=hg hv.1 hst;obtain⟨ho,h2⟩:=hg hv.2 h;refine⟨ho,λs=>?_⟩;obtain⟨g1,O1,G1⟩:=h1 s;obtain⟨g2,O2,G2⟩:=h2 G1.st;exact⟨g2,O2,G1.trans G2⟩
  .obtain⟨ho,_⟩:=hg hv.1 h
   simp_all
end
abbrev ba:=@List.append_nil
abbrev ck:=@List.length_nil
abbrev qj:=@List.getElem?_cons_succ
section
variable {P:Program}
def JA {fn:Func}{vf:aj}(h5:ki P vf.results fn.results.toList=true){v:AV}{hs':HS}{o:bD}{st1:St}(ho:o=.normal∨o=.ret)(hend:Ca vf st1=some (v,hs')){g:Gh}{w:World}{t:E_}{O:Nat->Nat}
  {e:Exit}{a':Act}{w':World}(k:bI P g w t O [] none o st1 e a' w'):bodyPostM (FR none) 0 P fn (fm P g w O v hs') e a' w':=by
 obtain⟨rfl,g',O',ms,G,hd,hm,_⟩:=k;rw[ba]at hd;have key:LeavesInM (FR none) 0 P fn a'.tmps (fm P g w O v hs') a'.defers .returning w':=by
  rw[hd];refine Q8 hm G.st λw2 s2 hx2=>?_
  obtain⟨x,Ov,Oh2,hrun,rx,sh2,l2⟩:=Wk h5 hend s2;refine⟨x,hrun,g',Ov,Oh2,rx,sh2,G.ext.trans hx2 (λb hb hq=>absurd hq o_),λb=>by have:=l2 b;have:=s2.le b;omega,λb hb=>?_,λb hb=>s2.hi b d_⟩
  grind [fk.old]
 rcases ho with rfl|rfl
 .exact key
 .exact key
def abX {r:cH}(hr:fV P r)(hrd:Af P r){fn:Func}{vf:aj}(h5:ki P vf.results fn.results.toList=true){v v1:AV}{hs2 hs':HS}{o:bD}{st1:St}(ho:o=.normal∨o=.ret){f id off:Nat}
  (hcall:r.call f [.ptr id off] st1.hs=some (v1,hs2))(hend:Ca vf ⟨st1.env,hs2⟩=some (v,hs')){g:Gh}{w:World}{t:E_}{O:Nat->Nat}{x:Value}(hx:∃b,g.obj id=some b∧x=.pointer (some ⟨b,g.base id+off,none⟩))
  {e:Exit}{a':Act}{w':World}(k:bI P g w t O [{ target:=.fn (.func f) #[],args:=#[x] }] none o st1 e a' w'):bodyPostM (FR none) 0 P fn (fm P g w O v hs') e a' w':=by
 obtain⟨rfl,g',O',ms,G,hd,hm,_⟩:=k;obtain⟨hf,hk⟩:=hr hcall;have key:LeavesInM (FR none) 0 P fn a'.tmps (fm P g w O v hs') a'.defers .returning w':=by
  rw[hd];refine NU hm G.st λw2 s2 hx2=>?_
  have hx12:bg g w g' w2 λb=>O b≠0:=G.ext.trans hx2 (λb hb hq=>absurd hq o_)
  obtain⟨b,hb,hxe⟩:=hx;obtain⟨k1,k2,_⟩:=hx12.obj id b hb;have rv:RVs g' w2 [.ptr id off] [x] zero:=by
   refine⟨x,[],zero,zero,rfl,?_,⟨rfl,λ_=>rfl⟩,λ_=>rfl⟩
   grind [RV]
  obtain⟨Oe,Oh,re,sh,hO⟩:=s2.split;refine⟨s_,.inr ⟨by simp[Fence.wide],.func f,#[],f,#[x],rfl,?_,λ_ _=>trivial,(hrd hcall rv sh (λb=>by have:=s2.le b;grind) (λb hb=>by simp at hb) .returning).mono ?_⟩⟩
  .show(callFunc f (#[x]++#[])).run P w2=_
   grind [tH]
  .rintro e u' w3 ⟨rfl,hp⟩
   cases e with
   |panicked c=>exact hp.elim
   |outgrown=>exact hp.elim
   |returned y =>
    obtain⟨g3,Oa,O3,A⟩:=CL (v:=v1) (hs:=st1.hs) (t:=a'.tmps) s2.se re (λb=>by simp_all) s2 hp;obtain⟨x4,Ov,Oh2,hrun,rx,sh2,l2⟩:=Wk h5 hend A.st;refine⟨x4,hrun,g3,Ov,Oh2,rx,sh2,hx12.trans A.ext (λb hb h=>by grind [fk.old]),λb=>by have:=l2 b;have:=A.le b;omega,λb hb=>?_,λb hb=>A.st.hi b d_⟩;have:=l2 b;have:=G.old b hb;have:=A.old b (aH hb hx12.size);omega
 rcases ho with rfl|rfl
 .exact key
 .exact key
def aci {r:cH}(hc:gE P r)(hr:fV P r)(hrd:Af P r){n i d f:Nat}{a:VC}{c:Code}(hk:Mo P n i d f a c=true){fn:Func}{vf:aj}(h5:ki P vf.results fn.results.toList=true){st st1:St}{o:bD}{v:AV}{hs':HS}
  (h:LA r i d f a st=some (o,st1))(hend:Ca vf st1=some (v,hs')){g:Gh}{w:World}{t:E_}{O:Nat->Nat}(hn:t.size=n)(s:S P g w st t O) :
  c.wpIn (FR none) 0 P (bodyPostM (FR none) 0 P fn (fm P g w O v hs')) ⟨t,[]⟩ w:=by
 obtain⟨env,hs⟩:=st;unfold Mo at hk;split at hk
 .rename_i rid os rest;simp only[af]at hk;obtain⟨⟨hk1,hdn⟩,hrest⟩:=hk;split at hk1
  .rename_i m kk hos;simp only[af]at hk1;obtain⟨⟨⟨⟨hm1,hm2⟩,hk1a⟩,hk1b⟩,hk2⟩:=hk1;obtain⟨hmd,hmg⟩:=xd hm1;have hk1a':kk.dst=none:=u_;have hk1b':kk.guard=none:=u_;split at hm2
   .rename_i y hmop;have:=tW hm2;subst this;split at hk2
    .rename_i cl hkop;simp only[af]at hk2;obtain⟨hcal,hargs⟩:=hk2;have hcal':=Fb hcal;split at hargs
     .rename_i y hay;have:=tW hargs;subst this;have harr:cl.args=#[.tmp d]:=aqe hay;have hosA:os=#[m,kk]:=d_;subst hosA;have hd:d<t.size:=u_;unfold LA at h;split at h
      .rename_i id off hget;obtain⟨Ov,O1,rv,s1,l1⟩:=s.rd (r:=.s i) (o:=.tmp i) (by simp[bO]) (v:=.ptr id off) (e':=env) (by grind [rd,share]);obtain⟨hxp,hOv⟩:=rv;have rv':RV g w (.ptr id off) (ev t (.tmp i)) zero:=by grind [RV]
       obtain⟨O2,s2,l2⟩:=s.setTmp hd rv' (λb=>by have:=s.le b;simp_all) (λb hb=>by simp at hb);have hle2:∀b,O2 b<=O b:=λb=>by simp_all
       have hst:∃o1 st0 v1 hs2,(o1=.normal∨o1=.ret)∧r.code a ⟨put env d (.ptr id off),hs⟩=some (o1,st0)∧r.call f [.ptr id off] st0.hs=some (v1,hs2)∧st1=⟨st0.env,hs2⟩:=by
        grind
       obtain⟨o1,st0,v1,hs2,ho1,hra,hcl,rfl⟩:=hst;refine wpIn_seq (wpIn_region ?_);have hx2:(t.setIfInBounds d (ev t (.tmp i))).getD d undef=ev t (.tmp i):=u_;have hgo:rest.wpIn (FR none) 0 P (bodyPostM (FR none) 0 P fn (fm P g w O v hs')) ⟨t.setIfInBounds d (ev t (.tmp i)),[{ target:=.fn (.func f) #[],args:=#[ev t (.tmp i)] }]⟩ w:=by
        refine wpIn_mono (hc hra (ig a rest hrest) (by simp[hn]) s2 none _ (λl hl=>by simp at hl)) λe a' w' k=>?_
        exact abX hr hrd h5 ho1 hcl hend hxp (k.mono hle2)
       simp only[List.range,List.range.loop,List.size_toArray,aE,ck,wpOpsIn,cQ];simp only[List.getElem?_toArray,cy,qj,Region.wanted,hmg,hk1b',bK,Oper.wpIn];refine⟨λ_ _=>trivial,?_⟩;rw[H1 t [] u_];simp only[execOp,hmop,cD,Oper.uponIn_value,Act.put,hmd];rw[Oper.semAt_none,C9];have hrun:(execOp (ev (t.setIfInBounds d (ev t (.tmp i)))) kk).run P w=.ok (.defer { target:=.fn (.func f) #[],args:=#[ev t (.tmp i)] }) w:=by
        have h0:ev (t.setIfInBounds d (ev t (.tmp i))) (.tmp d)=ev t (.tmp i):=hx2;have h1:ev (t.setIfInBounds d (ev t (.tmp i))) (.func f)=.func (.func f) #[] #[]:=rfl
        simp_all [execOp,resolve,Deferred.ofValue]
       rw[hrun,Oper.uponIn_defer];simp only[Act.put,hk1a'];exact⟨λ_ _=>trivial,hgo⟩
      simp_all
     simp_all
    simp_all
   simp_all
  simp_all
 simp_all
def To {T:Nat->W_}(hT:EN P T){r:cH}(hc:gE P r)(hl:C3 P r)(hs:zZ P r)(hgh:Ap P r)(hr:fV P r)(hrd:Af P r){f:FuncId}{args:D_}{hs0:HS}{v:AV}{hs':HS}
  (h:sT T r f args hs0=some (v,hs')):∃fn c,P.funcs[f]?=some fn∧fn.body=some c∧fn.name≠ "runtime.NumGoroutine"∧∀{g:Gh}{w:World}{xs:M_}{Oa Oh:Nat->Nat},RVs g w args xs Oa->S P g w ⟨[],hs0⟩ #[] Oh->(∀b,Oa b+Oh b<=1)->(∀b,Oa b≠0->b<w.heap.size)->
   c.wpIn (FR none) 0 P (bodyPostM (FR none) 0 P fn (fm P g w (λb=>Oa b+Oh b) v hs')) ⟨xs.toArray++Array.replicate (fn.ntmps-xs.toArray.size) undef,[]⟩ w:=by
 unfold sT at h;split at h
 .simp at h
 .rename_i vf hvf;obtain⟨fn,c,h1,h2,h3,h4,h5,h6⟩:=hT f vf hvf;refine⟨fn,c,h1,h2,h3,λ{g w xs Oa Oh} rv sh hle hhi=>?_⟩;split at h
  .simp at h
  .have hxl:=rv.length;have hfin:∀{o:bD}{st1:St},(o=.normal∨o=.ret)->cj vf.body r ⟨iK 0 args,hs0⟩=some (o,st1)->Ca vf st1=some (v,hs')->
     c.wpIn (FR none) 0 P (bodyPostM (FR none) 0 P fn (fm P g w (λb=>Oa b+Oh b) v hs')) ⟨xs.toArray++Array.replicate (fn.ntmps-xs.toArray.size) undef,[]⟩ w:=by
    intro o st1 ho hcode hend;have s:=aju rv sh hle hhi (fn.ntmps-xs.toArray.size);have hsz:(xs.toArray++Array.replicate (fn.ntmps-xs.toArray.size) undef).size=fn.ntmps:=u_;rcases h6 with hm|⟨m,hb,hcl,h8⟩|⟨i,d,f2,a,hb,hlt⟩
    .exact wpIn_mono (T6 hc hl hs hgh hr hcode hm hsz s none [] (λl hl=>by simp at hl)) λe a' w' k=>JA h5 ho hend k
    .rw[hb]at hcode;exact wpIn_mono (abv hcl hcode o_ s) λe a' w' k=>JA h5 ho hend k
    .rw[hb]at hcode;exact aci hc hr hrd hlt h5 hcode hend hsz s
   grind
def aeM {T:Nat->W_}(hT:EN P T){r:cH}(hc:gE P r)(hl:C3 P r)(hs:zZ P r)(hgh:Ap P r)(hr:fV P r)(hrd:Af P r){f:FuncId}{args:D_}{hs0:HS}{v:AV}{hs':HS}
  (h:sT T r f args hs0=some (v,hs')):abr P f∧∀{g:Gh}{w:World}{xs:M_}{Oa Oh:Nat->Nat},RVs g w args xs Oa->S P g w ⟨[],hs0⟩ #[] Oh->(∀b,Oa b+Oh b<=1)->(∀b,Oa b≠0->b<w.heap.size)->
   CallsIn (FR none) 0 P f xs.toArray w (fm P g w (λb=>Oa b+Oh b) v hs'):=by
 obtain⟨fn,c,h1,h2,h3,hk⟩:=To hT hc hl hs hgh hr hrd h;exact⟨⟨fn,h1,by simp[h2],h3⟩,λrv sh hle hhi=>callsIn_of_wp_marks (F:=FR none) h1 h2 trivial (hk rv sh hle hhi)⟩
def ac7 {T:Nat->W_}(hT:EN P T){r:cH}(hc:gE P r)(hl:C3 P r)(hs:zZ P r)(hgh:Ap P r)(hr:fV P r)(hrd:Af P r){f:FuncId}{args:D_}{hs0:HS}{v:AV}{hs':HS}
  (h:sT T r f args hs0=some (v,hs')):∀{g:Gh}{w:World}{xs:M_}{Oa Oh:Nat->Nat},RVs g w args xs Oa->S P g w ⟨[],hs0⟩ #[] Oh->(∀b,Oa b+Oh b<=1)->(∀b,Oa b≠0->b<w.heap.size)->∀u:FrameMode,
   CallsDIn (FR none) 0 P f xs.toArray u w λe u' w'=>u'=u∧fm P g w (λb=>Oa b+Oh b) v hs' e w':=by
 obtain⟨fn,c,h1,h2,h3,hk⟩:=To hT hc hl hs hgh hr hrd h;exact λrv sh hle hhi u=>Jd (F:=FR none) h1 h2 trivial (hk rv sh hle hhi)
def akP {T:Nat->W_}(hT:EN P T):∀n,gE P (run T n)∧C3 P (run T n)∧zZ P (run T n)∧Ap P (run T n)∧fV P (run T n)∧Af P (run T n)
 |0=>⟨λh=>by simp[run]at h,λh=>by simp[run]at h,λh=>by simp[run]at h,λ_ h=>by simp[run]at h,λh=>by simp[run]at h,λh=>by simp[run]at h⟩
 |n+1=>by
  obtain⟨hc,hl,hs,hgh,hr,hrd⟩:=akP hT n;refine⟨λ{v st o st'} h {c m} hm {g w t O} hn s ro ds hro=>?_,λ{v st o st'} h {c m} hm {g w t O} hn s ro ds hro=>?_,λ{v cur st o st'} h {body c m} h1 h2 {g w t O} hn s ro ds hro=>?_,λ{v st o st'} hv h=>?_,λ{f args hs0 v hs'} h=>?_,λ{f args hs0 v hs'} h=>?_⟩
  .exact T6 hc hl hs hgh hr h hm hn s ro ds hro
  .exact adE hc hl h hm hn s ro ds hro
  .exact acz hc hs h h1 h2 hn s ro ds hro
  .exact ac3 hgh hv h
  .exact aeM hT hc hl hs hgh hr hrd h
  .exact ac7 hT hc hl hs hgh hr hrd h
def NG {T:Nat->W_}(hT:EN P T){n:Nat}{f:FuncId}{args:D_}{v:AV}{hs':HS}(h:(run T n).call f args ⟨[],0⟩=some (v,hs')){g:Gh}{w:World}{xs:M_}
  (hobj:∀id,g.obj id=none)(hpm:∀b o,g.pm b o->b<w.heap.size)(rv:RVs g w args xs zero) :
  Calls P f xs.toArray w (fm P g w zero v hs'):=by
 obtain⟨_,_,_,_,hr,_⟩:=akP hT n;obtain⟨_,hk⟩:=hr h;have sh:S P g w ⟨[],⟨[],0⟩⟩ #[] zero:=⟨List.Pairwise.nil,List.Pairwise.nil,⟨zero,zero,λ_=>rfl,λ_=>rfl,λ_=>rfl⟩,λ_=>by simp,λb hb=>by simp at hb,λid _=>hobj id,hpm⟩
 grind [CallsIn.calls,SX]
end
#print axioms NG
abbrev qh:=@Option.bind_eq_some_iff
abbrev rL:=@Option.map_eq_some_iff
abbrev pC:=@List.length_range
inductive Ty where
 |int (k:IntKind)
 |bool
 |str
 |lst (es:List Ty)
mutual
def qa:Ty->D->Prop
 |.int k,.int j n=>j=k∧(Lit.int k n).wf=true
 |.bool,.bool _=>True
 |.str,.str _=>True
 |.lst es,.lst xs=>∀x∈xs,OkDs es x
 |_,_=>False
def OkDs:List Ty->U_->Prop
 |[],[]=>True
 |t::ts,d::ds=>qa t d∧OkDs ts ds
 |_,_=>False
end
def WC (P:Program)(f:TypeId->Option (List Ty)):List Field->Nat->Option (List Ty)
 |[],_=>some []
 |fd::r,off=>match Nat.beq fd.offset off,f fd.type with
  |true,some ts=>match Nat.beq (P.cellsOf fd.type) ts.length,WC P f r (off+ts.length) with
   |true,some us=>some (ts++us)
   |_,_=>none
  |_,_=>none
def AR (P:Program):Nat->TypeId->Option (List Ty)
 |0,_=>none
 |n+1,t=>match P.underlying t with
  |some .bool=>some [.bool]
  |some (.int k)=>some [.int k]
  |some .string=>some [.str]
  |some (.slice e)=>match AR P n e with
   |some (x::xs)=>match Nat.beq (P.cellsOf e) (x::xs).length with
    |true=>some [.lst (x::xs)]
    |false=>none
   |_=>none
  |some (.struct fs)=>match WC P (AR P n) fs.toList 0 with
   |some ts=>match Nat.beq (P.cellsOf t) ts.length with
    |true=>some ts
    |false=>none
   |none=>none
  |_=>none
mutual
def eG {H:Type}:DataW H->U_
 |.lit (.int k n)=>[.int k n]
 |.lit (.bool b)=>[.bool b]
 |.lit (.string s)=>[.str s]
 |.nil=>[.lst []]
 |.slice es _=>[.lst (cellsEs es)]
 |.agg ps=>cellsPs ps
 |_=>[]
def cellsEs {H:Type}:List (DataW H)->F_
 |[]=>[]
 |d::r=>eG d::cellsEs r
def cellsPs {H:Type}:List (DataW H)->U_
 |[]=>[]
 |d::r=>eG d++cellsPs r
end
theorem OkDs.len:∀{ts:List Ty}{ds:U_},OkDs ts ds->ds.length=ts.length
 |[],[],_=>rfl
 |t::ts,d::ds,h=>by simp[OkDs.len h.2]
 |[],_::_,h=>by simp[OkDs]at h
 |_::_,[],h=>by simp[OkDs]at h
theorem OkDs.append:∀{ts us:List Ty}{ds es:U_},OkDs ts ds->OkDs us es->OkDs (ts++us) (ds++es)
 |[],us,[],es,_,h=>h
 |t::ts,us,d::ds,es,h,h2=>by
  exact⟨h.1,h.2.append h2⟩
 |[],_,_::_,_,h,_=>by simp[OkDs]at h
 |_::_,_,[],_,h,_=>by simp[OkDs]at h
def N4 {α β:Type}{f:α->Option β}:∀{l:List α}{ys:List β},l.mapM f=some ys->ys.length=l.length∧∀(i:Nat) (x:α),l[i]?=some x->∃y,ys[i]?=some y∧f x=some y
 |[],ys,h=>by simp_all
 |a::l,ys,h=>by
  cases ha:f a with
  |none=>simp_all
  |some b =>
   cases hl:l.mapM f with
   |none=>simp_all
   |some bs =>
    obtain⟨h1,h2⟩:=N4 hl
    grind
def YV {H:Type}(ds:List (DataW H)):cellsEs ds=ds.map eG:=by
 induction ds<;>grind [cellsEs]
def UK {xs:F_}{m:Nat}(h:∀e∈xs,e.length=m){j:Nat}{c:D}(hj:xs.flatten[j]?=some c):∃i k e,j=i*m+k∧k<m∧xs[i]?=some e∧e[k]?=some c:=by
 induction xs generalizing j with
 |nil=>simp at hj
 |cons x xs ih =>
  have hx:=h x (.head _);rw[List.flatten_cons]at hj;rcases bH j x.length with hlt|hge
  .rw[df hlt]at hj;exact⟨0,j,x,s_,o_,rfl,hj⟩
  .rw[fo hge]at hj;obtain⟨i,k,e,h1,h2,h3,h4⟩:=ih (λe he=>h e (.tail _ he)) hj;exact⟨i+1,k,e,d_,h2,u_,h4⟩
section
variable {H:Type}{enc:TypeId×Value->H}{P:Program}{W:World}{sp:Nat->Bool}{held:Bool}
abbrev Ba (W:World):Nat->Nat->Prop:=λb _=>b<W.heap.size
def aaQ {a:Addr}{v:Value}(h:W.cell? a=some v):a.block<W.heap.size∧a.spot=none:=by
 unfold World.cell? at h;split at h<;>simp_all [gY]
def Nc {f:TypeId->Option (List Ty)}{g:TypeId->M_->Option (DataW H×List MemPlace)}
  (ih:∀t ts cs x,f t=some ts->g t cs=some x->OkDs ts (eG x.1)∧cs.length=(eG x.1).length∧∀(j:Nat) (c:D),(eG x.1)[j]?=some c->∃u,cs[j]?=some u∧RD W (Ba W) c u) :
  ∀{fs:List Field}{off:Nat}{ts:List Ty}{cs:M_}{xs:List (DataW H×List MemPlace)},WC P f fs off=some ts->off+ts.length<=cs.length->
   fs.mapM (λfd=>g fd.type ((cs.drop fd.offset).take (P.cellsOf fd.type)))=some xs->
   OkDs ts (cellsPs (xs.map (·.1)))∧∀(j:Nat) (c:D),(cellsPs (xs.map (·.1)))[j]?=some c->∃u,cs[off+j]?=some u∧RD W (Ba W) c u
 |[],off,ts,cs,xs,h,hb,hm=>by
  grind [WC,cellsPs,OkDs]
 |fd::fs,off,ts,cs,xs,h,hb,hm=>by
  simp only[WC]at h;split at h
  .rename_i ts1 ho h1;rw[aq]at ho;split at h
   .rename_i us hc h2;rw[aq]at hc;simp only[ae]at h;subst h;simp only[bt]at hb;simp only[List.mapM_cons,Option.bind_eq_bind,Option.pure_def]at hm
    cases hg:g fd.type ((cs.drop fd.offset).take (P.cellsOf fd.type)) with
    |none=>simp_all
    |some x =>
     cases hr:fs.mapM (λfd=>g fd.type ((cs.drop fd.offset).take (P.cellsOf fd.type))) with
     |none=>simp_all
     |some ys =>
      obtain⟨q1,q2⟩:=Nc ih h2 o_ hr
      grind [cellsPs,OkDs.append]
   simp_all
  simp_all
def OK:∀(fuel n:Nat) (t:TypeId) (ts:List Ty) (cs:M_) (x:DataW H×List MemPlace),AR P n t=some ts->DataW.trod enc P W 0 sp held fuel t cs=some x->
  OkDs ts (eG x.1)∧cs.length=(eG x.1).length∧∀(j:Nat) (c:D),(eG x.1)[j]?=some c->∃u,cs[j]?=some u∧RD W (Ba W) c u
 |0,_,_,_,_,_,_,h=>by simp[DataW.trod]at h
 |_+1,0,_,_,_,_,h,_=>by simp[AR]at h
 |fuel+1,n+1,t,ts,cs,x,hty,h=>by
  have one:∀{d:D}{v:Value},OkDs ts [d]->RD W (Ba W) d v->eG x.1=[d]->cs=[v]->OkDs ts (eG x.1)∧cs.length=(eG x.1).length∧∀(j:Nat) (c:D),(eG x.1)[j]?=some c->∃u,cs[j]?=some u∧RD W (Ba W) c u:=by
   grind
  simp only[AR]at hty;unfold DataW.trod at h
  cases hu:P.underlying t with
  |none=>simp_all
  |some d =>
   rw[hu]at hty h
   cases d<;>simp only[reduceCtorEq]at hty
   case bool =>
    simp only[ae]at hty;subst hty
    match cs,h with
    |[.bool b],h =>
     simp only[ae]at h;subst h;exact one (d:=.bool b) (by simp[OkDs,qa]) (.bool _) rfl rfl
   case int k =>
    simp only[ae]at hty;subst hty
    match cs,h with
    |[.int k' m],h =>
     simp only at h;split at h
     .rename_i hk;obtain⟨rfl,hwf⟩:=hk;simp only[ae]at h;subst h;exact one (d:=.int k' m) (by grind [OkDs,qa]) (.int _ _) rfl rfl
     simp_all
   case string =>
    simp only[ae]at hty;subst hty
    match cs,h with
    |[.string s],h =>
     simp only at h;split at h
     .simp only[ae]at h;subst h;refine one (d:=.str s.data.toList) (by simp[OkDs,qa]) ?_ rfl rfl;have:=RD.str (w:=W) (pm:=Ba W) s.data.toList;omega
     simp_all
   case slice e =>
    split at hty
    .rename_i y ys hte;split at hty
     .rename_i hce;rw[aq]at hce;simp only[ae]at hty;subst hty
      match cs,h with
      |[.slice none 0 0],h =>
       simp only[ae]at h;subst h;exact one (d:=.lst []) (by simp[OkDs,qa]) (.nil _ _) rfl rfl
      |[.slice (some a) len cap],h =>
       simp only at h;split at h
       .rename_i hb;obtain⟨_,hlc,_⟩:=hb;simp only[qh,rL]at h;obtain⟨elems,hel,rest,_,rfl⟩:=h;obtain⟨hlen,hget⟩:=N4 hel;simp only[pC]at hlen;have helem:∀i,i<len->∃z,elems[i]?=some z∧∃cs',W.cells? 0 (a.add (i*P.cellsOf e)) (P.cellsOf e)=some cs'∧OkDs (y::ys) (eG z.1)∧cs'.length=(eG z.1).length∧
          ∀(j:Nat) (c:D),(eG z.1)[j]?=some c->∃u,cs'[j]?=some u∧RD W (Ba W) c u:=by
         intro i hi;obtain⟨z,hz,hf⟩:=hget i i (by simp[hi]);simp only[qh]at hf;obtain⟨cs',hcs,htr⟩:=hf;exact⟨z,hz,cs',hcs,OK fuel n e (y::ys) cs' z hte htr⟩
        have hmem:∀d∈elems.map (·.1),OkDs (y::ys) (eG d):=by
         grind [List.mem_iff_getElem]
        have hes:cellsEs (elems.map (·.1))=elems.map λz=>eG z.1:=by simp_all [YV]
        have hlm:∀e'∈cellsEs (elems.map (·.1)),e'.length=(y::ys).length:=by
         grind [OkDs.len]
        refine one (d:=.lst (cellsEs (elems.map (·.1)))) ?_ ?_ rfl rfl
        .grind [OkDs,qa]
        .by_cases h0:len=0
         .subst h0;have:elems=[]:=bc hlen;subst this;exact .nil _ _
         .obtain⟨ab,aoff,asp⟩:=a;have hm0:0<(y::ys).length:=s_;have hcell:∀i k,i<len->k<(y::ys).length->∃z c u,elems[i]?=some z∧(eG z.1)[k]?=some c∧W.cell? ((Addr.add ⟨ab,aoff,asp⟩ (i*P.cellsOf e)).add k)=some u∧RD W (Ba W) c u:=by
           intro i k hi hk;obtain⟨z,hz,cs',hcs,hok,hl2,hrd⟩:=helem i hi;have hkl:k<(eG z.1).length:=d_;obtain⟨u,hu,hr⟩:=hrd k _ (b7 hkl);unfold World.cells? at hcs;rw[ac (dr _)]at hcs;obtain⟨hcl,hcg⟩:=N4 hcs;obtain⟨v,hv,hw⟩:=hcg k k (by simp_all)
           grind
          obtain⟨_,_,u0,_,_,hu0,_⟩:=hcell 0 0 o_ hm0;have hasp:asp=none:=by
           have:=(aaQ hu0).2
           grind [Addr.add]
          subst hasp;have hll:(cellsEs (elems.map (·.1))).length=len:=u_;have:=gw.rd (w:=W) (pm:=Ba W) (xs:=cellsEs (elems.map (·.1))) (b:=ab) (off:=aoff) (cap:=cap) hm0 o_ hlm (λj c hj=>?_) (λj _=>(aaQ hu0).1 |> λh=>by grind [Addr.add])
          .simp_all
          .obtain⟨i,k,e',rfl,hk,hi,hck⟩:=UK hlm hj;have hil:i<len:=d_;obtain⟨z,c',u,hz,hc',hcell',hr⟩:=hcell i k hil hk
           grind [jJ]
       simp_all
     simp_all
    simp_all
   case struct fs =>
    split at hty
    .rename_i us hfs;split at hty
     .rename_i hcl;rw[aq]at hcl;simp only[ae]at hty;subst hty;have h':(if cs.length=P.cellsOf t then (fs.toList.mapM λf=>DataW.trod enc P W 0 sp held fuel f.type ((cs.drop f.offset).take (P.cellsOf f.type))).map λxs=>((.agg (xs.map (·.1)):DataW H),xs.flatMap (·.2)) else none)=some x:=by
       omega
      split at h'
      .simp only[rL]at h';obtain⟨xs,hxs,rfl⟩:=h';obtain⟨q1,q2⟩:=Nc (P:=P) (f:=AR P n) (g:=DataW.trod enc P W 0 sp held fuel) (λt ts cs x h1 h2=>OK fuel n t ts cs x h1 h2) (cs:=cs) hfs o_ hxs
       grind [OkDs.len,eG]
      .simp at h'
     .simp at hty
    simp_all
end
open Go.ChangeShapes Go.WideShapes Go.ChangeAt Go.RowKit
def GG (P:Program)(n:Nat):List TypeId->Option (List (Bool×List Ty))
 |[]=>some []
 |t::ts=>match AR P n t,GG P n ts with
  |some tys,some r=>some ((yQ P t,tys)::r)
  |_,_=>none
def Vr (agg:Bool)(cs:U_):AV :=
 match agg with
 |true=>.agg (cs.map .d)
 |false=>match cs with
  |[c]=>.d c
  |_=>.junk
def D9 {H:Type}:List (Bool×List Ty)->List (DataW H)->D_
 |(b,_)::ts,d::ds=>Vr b (eG d)::D9 ts ds
 |_,_=>[]
def pV {H:Type}:List (Bool×List Ty)->List (DataW H)->Prop
 |[],[]=>True
 |(_,tys)::ts,d::ds=>OkDs tys (eG d)∧pV ts ds
 |_,_=>False
def Gh.all (W:World):Gh where
 obj _:=none
 base _:=0
 esz _:=0
 bsz _:=0
 pm:=Ba W
section
variable {H:Type}{enc:TypeId×Value->H}{P:Program}{W:World}{sp:Nat->Bool}
def X7 {n:Nat}{base:Nat}:∀{ts:List TypeId}{vs:M_}{ds:List (DataW H)}{ps:List MemPlace}{tys:List (Bool×List Ty)},DataW.TrodAll enc P W 0 sp true ts vs ds ps->GG P n ts=some tys->
  (∀(j:Nat) t v,ts[j]?=some t->vs[j]?=some v->Value.okWide P W .any base t v)->RVs (Gh.all W) W (D9 tys ds) vs zero∧pV tys ds
 |[],[],[],_,tys,_,h,_=>by
  grind [GG,D9,RVs,pV]
 |t::ts,v::vs,d::ds,ps,tys,hA,h,hok=>by
  obtain⟨p,q,⟨fuel,htr⟩,hrest,rfl⟩:=hA;simp only[GG]at h;split at h
  .rename_i ty r h1 h2;simp only[ae]at h;subst h;obtain⟨k1,k2,k3⟩:=OK fuel n t ty v.cells.toList (d,p) h1 htr;obtain⟨q1,q2⟩:=X7 hrest h2 λj t v h1 h2=>hok (j+1) t v u_ (by simp_all)
   refine⟨?_,k1,q2⟩;have hv:=hok 0 t v rfl rfl;have hrv:RV (Gh.all W) W (Vr (yQ P t) (eG d)) v zero:=by
    unfold Value.okWide at hv
    cases ha:yQ P t with
    |true =>
     have hagg:∃cs,v=.agg cs:=by
      grind [yQ]
     obtain⟨cs,rfl⟩:=hagg;refine⟨cs,rfl,RVs.ds (g:=Gh.all W) rfl (by grind [Value.cells]) λj c x hc hx=>?_⟩;obtain⟨u,hu,hr⟩:=k3 j c hc;have:u=x:=by
      grind [Value.cells]
     rw[<-this];exact hr
    |false =>
     have hone:v.cells=#[v]:=by
      have:Cell.okWide P W .any base t v:=by
       grind [yQ]
      cases v<;>first|rfl|simp_all [Cell.okWide,Cell.ok]
     rw[hone]at k2 k3
     match hcd:eG d,k2 with
     |[c],_ =>
      obtain⟨u,hu,hr⟩:=k3 0 c d_;simp at hu;subst hu;simp only[Vr,RV];exact⟨hr,λ_=>trivial⟩
   grind [D9,RVs]
  simp_all
 |[],_::_,_,_,_,hA,_,_=>hA.elim
 |[],[],_::_,_,_,hA,_,_=>hA.elim
 |_::_,[],_,_,_,hA,_,_=>hA.elim
 |_::_,_::_,[],_,_,hA,_,_=>hA.elim
theorem Tm {W':World}(hl:laidOutB P=true)(hblk:∀b,b<W.heap.size->W'.heap[b]?=W.heap[b]?){sp':Nat->Bool}:∀{ts:List TypeId}{vs:M_}{ds:List (DataW H)}{ps:List MemPlace},
  (∀t∈ts,P.readableRec t=true∧t<P.types.size)->DataW.TrodAll enc P W 0 (λ_=>true) true ts vs ds ps->(∀p∈ps,sp' p.block=true)->DataW.TrodAll enc P W' 0 sp' true ts vs ds ps
 |[],[],[],_,_,h,_=>h
 |t::ts,v::vs,d::ds,ps,hr,h,hs=>by
  have hlt:=h.lt;obtain⟨p,q,⟨fuel,htr⟩,hrest,rfl⟩:=h;obtain⟨h1,h2⟩:=hr t (.head _);refine⟨p,q,⟨fuel,DataW.trod_stays (kids_book hl h1) (book_sized h1) (λh=>by cases h) ⟨h2,book_self t⟩ htr (λx hx=>?_) (λx hx=>hs x (bT _ hx))⟩,
   Tm hl hblk (λt ht=>hr t (.tail _ ht)) hrest (λx hx=>hs x (dg _ hx)),rfl⟩
  have hxl:=hlt x (bT _ hx)
  cases x with
  |cell b o=>exact oY (hblk b hxl) o
  |map b=>exact hblk b hxl
 |[],_::_,_,_,_,h,_=>h.elim
 |[],[],_::_,_,_,h,_=>h.elim
 |_::_,[],_,_,_,h,_=>h.elim
 |_::_,_::_,[],_,_,h,_=>h.elim
def XB {T:Nat->W_}(hT:EN P T){fn:Func}{f:FuncId}{s:ChangeSpec}(hl:laidOutB P=true)(hrec:∀t∈fn.params.toList,P.readableRec t=true∧t<P.types.size)
  {n:Nat}{tys:List (Bool×List Ty)}(hty:GG P n fn.params.toList=some tys){tb:TypeId}(hres:fn.resultTypes=#[tb])(htb:P.underlying tb=some .bool)(hvars:s.vars=[]){apart:Bool}
  {base:Nat}{args:E_}{ds gs:List (DataW H)}{before:List MemPlace}(hval:∀(j:Nat) t v,fn.params[j]?=some t->args[j]?=some v->Value.okWide P W .any base t v)
  (hW:DataW.Whole enc P fn.params.toList s.vars apart W args.toList ds gs before)(hfn:pV tys ds->s.fn H ds={ results:=[.lit (.bool true)],args:=ds })
  (hrun:pV tys ds->gs=[]->∃m hs',(run T m).call f (D9 tys ds) ⟨[],0⟩=some (B_ true,hs')) :
  Calls P f args W λe W'=>∃v,e=.returned v∧s.post enc P fn apart true false false W args v W':=by
 have hW':=hW;obtain⟨p,q,hA,hV,hpq,hfz,hnd⟩:=hW;rw[hvars]at hV;obtain⟨rfl,rfl⟩:=trodVars_none hV;obtain⟨rv,hok⟩:=X7 (n:=n) (base:=base) hA hty λj t v h1 h2=>hval j t v u_ (by simp_all)
 obtain⟨m,hs',hcall⟩:=hrun hok rfl;have hc:=NG hT hcall (g:=Gh.all W) (λ_=>rfl) (λb o h=>h) rv;refine hc.mono λe W2 hp=>?_
 cases e with
 |panicked _=>exact hp.elim
 |outgrown=>exact hp.elim
 |returned x =>
  obtain⟨g',Or,Oh,r1,_,hx,_,_,_⟩:=hp;have hxv:=xk r1 rfl;subst hxv;have hblk:∀b,b<W.heap.size->W2.heap[b]?=W.heap[b]?:=λb hb=>(hx.blk b hb s_).1
  have hsfn:s.fn H (ds++[])={ results:=[.lit (.bool true)],args:=ds }:=u_;refine⟨_,rfl,post_of_same (pa:=p) (pv:=[]) hW' (λb sp hd=>?_) (λsp hsp=>?_) (λsp _=>?_) (by rw[hpq]) ⟨hx.same.1,hx.same.2.1,λi hi=>?_⟩ hx.same.2.2 ?_⟩
  .rw[hres,hsfn];exact trodAll_cons_mk (shut_bool htb _) trodAll_mk0
  .grind [Tm]
  .rw[hsfn,hvars];rfl
  .grind
  .exact ok_one hres rfl (okWide_bool_mk htb _)
end
def PN (P:Program)(vf:aj)(f:FuncId):Bool:=aij P vf f ||(match vf.body with
 |.clone m=>Rc P m vf f
 |.late i d k a=>TI P i d k a vf f
 |_=>false)
def T.every (p:Nat->aj->Bool):T->Bool
 |.leaf=>true
 |.node k v a b=>p k v && a.every p && b.every p
def T.look_every {p:Nat->aj->Bool}:∀{t:T}{f:Nat}{vf:aj},t.every p=true->t.look f=some vf->p f vf=true
 |.leaf,_,_,_,h=>by simp[T.look]at h
 |.node k v a b,f,vf,he,h=>by
  simp only[T.every,af]at he;simp only[T.look]at h;split at h
  .simp_all
  .split at h
   .exact T.look_every he.1.2 h
   .exact T.look_every he.2 h
def Wt {P:Program}{vf:aj}{f:FuncId}(h:PN P vf f=true):ah9 P vf f:=by
 simp only[PN,b6]at h;rcases h with h|h
 .unfold aij at h;split at h
  .rename_i fn h1;split at h
   .rename_i c h2;simp only[af,aU,bne_iff_ne,ne_eq]at h;obtain⟨⟨⟨k1,k2⟩,k3⟩,k4⟩:=h;exact⟨fn,c,h1,h2,k4,k2,k3,.inl (ig _ _ k1)⟩
   simp_all
  simp_all
 .split at h
  .rename_i m hb;unfold Rc at h;split at h
   .rename_i fn h1;split at h
    .rename_i c h2;simp only[af,aU,aq,bne_iff_ne,ne_eq]at h;obtain⟨⟨⟨⟨⟨⟨k1,k2⟩,k3⟩,k4⟩,k5⟩,k6⟩,k7⟩:=h;exact⟨fn,c,h1,h2,k7,o_,k3,.inr (.inl ⟨m,hb,k6,k5⟩)⟩
    simp_all
   simp_all
  .rename_i i d k a hb;unfold TI at h;split at h
   .rename_i fn h1;split at h
    .rename_i c h2;simp only[af,aU,bne_iff_ne,ne_eq]at h;obtain⟨⟨⟨k1,k2⟩,k3⟩,k4⟩:=h;exact⟨fn,c,h1,h2,k4,k2,k3,.inr (.inr ⟨i,d,k,a,hb,k1⟩)⟩
    simp_all
   simp_all
  simp_all
def anz {P:Program}{t:T}(h:t.every (λf v=>PN P v f)=true):EN P t.look:=λf vf hv=>Wt (T.look_every (p:=λf v=>PN P v f) h hv)
def Ev (P:Nat->W_)(c:VC)(st:St)(o:bD)(st':St):Prop:=∃N,∀n,(run P (N+n)).code c st=some (o,st')
variable {P:Nat->W_}
def Q0 {n:Int}(h:-9223372036854775808<=n)(h2:n<=9223372036854775807):wr .i64 n=n:=by
 simp only[wr,nu,dT_ h,dT_ h2,Bool.and_self]
instance:Nonempty cH:=⟨⟨λ_ _=>none,λ_ _ _=>none⟩⟩
def WP (P:Nat->W_)(c:VC)(st:St)(Q:bD->St->Prop):Prop:=∃o st',Ev P c st o st'∧Q o st'
theorem TN {r:cH}{vs:Q_}:∀{l:C_}{st:St},(l.all λi=>decide (i<vs.length))=true->tY r vs l st=ji r (l.filterMap λi=>vs[i]?) st
 |[],_,_=>rfl
 |i::l,st,h=>by
  simp only[fg,af,decide_eq_true_eq]at h;have hi:vs[i]?=some (vs[i]'h.1):=b7 h.1;simp only[tY,hi,List.filterMap_cons,ji]
  cases b4 r (vs[i]'h.1) st with
  |none=>rfl
  |some st1=>exact TN h.2
def V5 {r:cH}{vs:Q_}:∀{l F:C_}{st:St},d9 r [] vs l F st=tY r vs l st
 |[],_,_=>rfl
 |i::l,F,st=>by
  simp only[d9,tY,bx,dl]
  cases vs[i]? with
  |none=>rfl
  |some v =>
   simp only
   cases b4 r v st with
   |none=>rfl
   |some st1=>exact V5
def WP.mono {c:VC}{st:St}{Q R:bD->St->Prop}(h:WP P c st Q)(hq:∀o s,Q o s->R o s):WP P c st R:=by
 obtain⟨o,s,h,k⟩:=h;exact⟨o,s,h,hq o s k⟩
structure tl (r q:cH):Prop where
 code:∀c st x,r.code c st=some x->q.code c st=some x
 call:∀f a h x,r.call f a h=some x->q.call f a h=some x
section
variable {r q:cH}
def UX (le:tl r q){f:FuncId}{vs:D_}{h:ak}{x:AV}(e:dI r f vs h=some x):dI q f vs h=some x:=by
 unfold dI at e⊢
 cases hd:viewArgs h vs with
 |none=>rw[hd]at e;simp at e
 |some ds =>
  rw[hd]at e;simp only at e⊢
  cases hc:r.call f ds ⟨[],0⟩ with
  |none=>rw[hc]at e;simp at e
  |some p =>
   obtain⟨v,hs⟩:=p;rw[hc]at e;rw[le.call _ _ _ _ hc];exact e
def Xz (le:tl r q){l:Nat}{vs:D_}{hs:HS}{x:AV×HS}(e:rW r l vs hs=some x):rW q l vs hs=some x:=by
 unfold rW at e⊢;split at e
 .rename_i snap params assign body hg;split at e
  .simp at e
  .rename_i e1 he1
   try simp only[he1]
   split at e
   .rename_i st1 hc;simp only[le.code _ _ _ hc];split at e
    .rename_i snap2 params2 assign2 body2 hg2;split at e
     .simp at e
     .rename_i o st2 hc2;simp only[le.code _ _ _ hc2];exact e
    .simp at e
   .simp at e
 .simp at e
def WO (le:tl r q){f:AV}{vs:D_}{hs:HS}{x:AV×HS}(e:cW r f vs hs=some x):cW q f vs hs=some x:=by
 cases f<;>simp only[cW,reduceCtorEq]at e⊢
 .exact le.call _ _ _ _ e
 .exact Xz le e
def af0 (le:tl r q){o:lX}{st:St}{x:AV×St}(e:cm o r st=some x):cm o q st=some x:=by
 cases o<;>try exact e
 .rename_i f args;simp only[cm,Bn]at e⊢
  cases hr:rdAll st.env args with
  |none=>rw[hr]at e;simp at e
  |some p =>
   obtain⟨vs,e1⟩:=p;rw[hr]at e;simp only at e⊢
   cases hc:dI r f vs st.hs.heap with
   |none=>rw[hc]at e;simp at e
   |some v=>rw[hc]at e;rw[UX le hc];exact e
 .rename_i f args;simp only[cm,At]at e⊢
  cases hr:rdAll st.env args with
  |none=>rw[hr]at e;simp at e
  |some p =>
   obtain⟨vs,e1⟩:=p;rw[hr]at e;simp only at e⊢
   cases hc:r.call f vs st.hs with
   |none=>rw[hc]at e;simp at e
   |some v=>rw[hc]at e;rw[le.call _ _ _ _ hc];exact e
 .rename_i f args;simp only[cm,AG]at e⊢
  cases hf:rd st.env f with
  |none=>rw[hf]at e;simp at e
  |some p =>
   obtain⟨fv,e0⟩:=p;rw[hf]at e;simp only at e⊢
   cases hr:rdAll e0 args with
   |none=>rw[hr]at e;simp at e
   |some p =>
    obtain⟨vs,e1⟩:=p;rw[hr]at e;simp only at e⊢
    cases hc:cW r fv vs st.hs with
    |none=>rw[hc]at e;simp at e
    |some v=>rw[hc]at e;rw[WO le hc];exact e
def AP (le:tl r q){i:VI}{st x:St}(e:b4 r i st=some x):b4 q i st=some x:=by
 have go:∀x,eE r i st=some x->eE q i st=some x:=λx e=>by
  unfold eE at e⊢
  cases ho:cm i.op r st with
  |none=>rw[ho]at e;simp at e
  |some p=>rw[ho]at e;rw[af0 le ho];exact e
 unfold b4 at e⊢;split at e
 .exact go _ e
 .split at e
  .split at e
   .simp_all
   .simp_all
  .exact e
  .simp at e
def Kw (le:tl r q):∀{l:Q_}{st x:St},ji r l st=some x->ji q l st=some x
 |[],_,_,e=>e
 |i::l,st,x,e=>by
  simp only[ji]at e⊢
  cases hv:b4 r i st with
  |none=>rw[hv]at e;simp at e
  |some st1=>rw[hv]at e;rw[AP le hv];exact Kw le e
def agt (le:tl r q){F:C_}{i:VI}{st x:St}(e:tN r F i st=some x):tN q F i st=some x:=by
 unfold tN at e⊢;split at e
 .cases hv:b4 r i st with
  |none=>rw[hv]at e;simp at e
  |some st1=>rw[hv]at e;rw[AP le hv];exact e
 .cases hv:b4 r i st with
  |none=>rw[hv]at e;simp at e
  |some st1=>rw[hv]at e;rw[AP le hv];exact e
 .cases hv:b4 r i ⟨st.env,⟨dG (lQ i st.env) st.hs.heap,st.hs.next⟩⟩ with
  |none=>rw[hv]at e;simp at e
  |some st1=>rw[hv]at e;rw[AP le hv];exact e
def PS (le:tl r q){a:Bool}{F:C_}{i:VI}{st x:St}(e:bx r a F i st=some x):bx q a F i st=some x:=by
 cases a
 .exact AP le e
 .exact agt le e
def K6 (le:tl r q){nr:C_}{vs:Q_}:∀{l F:C_}{st x:St},d9 r nr vs l F st=some x->d9 q nr vs l F st=some x
 |[],_,_,_,e=>e
 |i::l,F,st,x,e=>by
  simp only[d9]at e⊢
  cases hi:vs[i]? with
  |none=>rw[hi]at e;simp at e
  |some v =>
   rw[hi]at e;simp only at e⊢
   cases hv:bx r (dl i nr) F v st with
   |none=>rw[hv]at e;simp at e
   |some st1=>rw[hv]at e;rw[PS le hv];exact K6 le e
theorem Ig (le:tl r q){c:VC}{st:St}{x:bD×St}(e:cj c r st=some x):cj c q st=some x:=by
 cases c<;>try exact e
 .rename_i d ops;simp only[cj,Mi]at e⊢
  cases hv:ji r ops st with
  |none=>rw[hv]at e;simp at e
  |some st1=>rw[hv]at e;rw[Kw le hv];exact e
 .rename_i perm gco nr ops;simp only[cj,GD,G0]at e⊢
  cases ha:oM st.env ops with
  |false=>rw[ha]at e;simp at e
  |true =>
  rw[ha]at e;simp only at e⊢
  cases hv:d9 r nr ops perm [] st with
  |none=>rw[hv]at e;simp at e
  |some st1=>rw[hv]at e;rw[K6 le hv];exact e
 .rename_i a b;simp only[cj,Id]at e⊢
  cases hv:r.code a st with
  |none=>rw[hv]at e;simp at e
  |some p =>
   obtain⟨o,st1⟩:=p;rw[hv]at e;rw[le.code _ _ _ hv]
   cases o<;>simp only at e⊢
   .exact le.code _ _ _ e
   all_goals exact e
 .rename_i cr a b;simp only[cj,Lj]at e⊢;split at e
  .exact le.code _ _ _ e
  .exact le.code _ _ _ e
  .simp at e
 .rename_i id a;simp only[cj,GL]at e⊢
  cases hv:r.code a st with
  |none=>rw[hv]at e;simp at e
  |some p=>rw[hv]at e;rw[le.code _ _ _ hv];exact e
 .rename_i a;simp only[cj,Ll]at e⊢
  cases hv:r.code a st with
  |none=>rw[hv]at e;simp at e
  |some p =>
   obtain⟨o,st1⟩:=p;rw[hv]at e;rw[le.code _ _ _ hv]
   cases o<;>simp only at e⊢
   .exact le.code _ _ _ e
   all_goals exact e
 .rename_i f params assign body;simp only[cj,AO]at e⊢;split at e
  .rename_i g first caps e1 h1
   split at e
   .rename_i v hs hc;rw[le.call _ _ _ _ hc];exact e
   .simp at e
  .simp at e
 .exact le.code _ _ _ e
 .rename_i a cur;simp only[cj,E5]at e⊢
  cases hv:r.code cur st with
  |none=>rw[hv]at e;simp at e
  |some p =>
   obtain⟨o,st1⟩:=p;rw[hv]at e;rw[le.code _ _ _ hv]
   cases o<;>simp only at e⊢
   .exact e
   .exact e
   .split at e
    .exact le.code _ _ _ e
    .exact e
   .exact e
 .rename_i i d f a;simp only[cj,LA]at e⊢
  cases hg:get st.env i with
  |none=>rw[hg]at e;simp at e
  |some p =>
   rw[hg]at e
   cases p<;>simp only at e⊢<;>try exact absurd e (by simp)
   rename_i id off
   cases hv:r.code a ⟨put st.env d (.ptr id off),st.hs⟩ with
   |none=>rw[hv]at e;simp at e
   |some p =>
    obtain⟨o,st1⟩:=p;rw[hv]at e;rw[le.code _ _ _ hv]
    cases o<;>simp only at e⊢<;>try exact absurd e (by simp)
    all_goals
     cases hc:r.call f [.ptr id off] st1.hs with
     |none=>rw[hc]at e;simp at e
     |some q=>rw[hc]at e;rw[le.call _ _ _ _ hc];exact e
theorem Rs (le:tl r q){P:Nat->W_}{f:FuncId}{a:D_}{h:HS}{x:AV×HS}(e:sT P r f a h=some x):sT P q f a h=some x:=by
 unfold sT at e⊢;split at e
 .simp at e
 .rename_i fn hf;split at e
  .simp at e
  .rename_i hn
   cases hv:cj fn.body r ⟨iK 0 a,h⟩ with
   |none=>rw[hv]at e;simp at e
   |some p=>rw[hv]at e;simp only[hn,Ig le hv];exact e
end
variable {P:Nat->W_}
abbrev qt:=@Nat.le_add_right
def lim {α:Type}(f:Nat->Option α):Option α :=
 open Classical in if h:∃x,∃n,f n=some x then some (Classical.choose h) else none
def We {α:Type}{f:Nat->Option α}(mono:∀n m x,f n=some x->f (n+m)=some x){n:Nat}{x:α}(h:f n=some x):lim f=some x:=by
 have he:∃x,∃n,f n=some x:=⟨x,n,h⟩
 unfold lim;obtain⟨m,hm⟩:=Classical.choose_spec he;have h2:=mono m n _ hm
 grind
def WM {α:Type}{f:Nat->Option α}{x:α}(h:lim f=some x):∃n,f n=some x:=by
 unfold lim at h;split at h<;>grind
variable {P:Nat->W_}
def tl.rfl' {r:cH}:tl r r:=⟨λ_ _ _ h=>h,λ_ _ _ _ h=>h⟩
def tl.trans' {r q s:cH}(h:tl r q)(k:tl q s):tl r s:=⟨λc st x e=>k.code c st x (h.code c st x e),λf a hs x e=>k.call f a hs x (h.call f a hs x e)⟩
def RE:∀n:Nat,tl (run P n) (run P (n+1))
 |0=>⟨λ_ _ _ h=>by simp[run]at h,λ_ _ _ _ h=>by simp[run]at h⟩
 |n+1=>⟨λc st x h=>Ig (RE n) h,λf a hs x h=>Rs (RE n) h⟩
theorem KF (n:Nat):∀m:Nat,tl (run P n) (run P (n+m))
 |0=>tl.rfl'
 |m+1=>(KF n m).trans' (RE (n+m))
def Dn (P:Nat->W_):cH:=⟨λc st=>lim λn=>(run P n).code c st,λf a h=>lim λn=>(run P n).call f a h⟩
def XF {c:VC}{st:St}{x:bD×St}{n:Nat}(h:(run P n).code c st=some x):(Dn P).code c st=some x :=
 We (λn m x h=>(KF n m).code _ _ _ h) h
def N1 {f:FuncId}{a:D_}{hs:HS}{x:AV×HS}{n:Nat}(h:(run P n).call f a hs=some x):(Dn P).call f a hs=some x :=
 We (λn m x h=>(KF n m).call _ _ _ _ h) h
theorem aar (n:Nat):tl (run P n) (Dn P):=⟨λ_ _ _ h=>XF h,λ_ _ _ _ h=>N1 h⟩
theorem GZ {n m:Nat}{c:VC}{st:St}{x:bD×St}(h:(run P n).code c st=some x)(le:n<=m):(run P m).code c st=some x:=by
 grind [tl.code,KF,Nat.add_sub_cancel']
def up {n m:Nat}(le:n<=m):tl (run P n) (run P m):=by
 grind [KF,Nat.add_sub_cancel']
theorem ug {c:VC}{st:St}{x:bD×St}(h:(Dn P).code c st=some x):∃n,(run P n).code c st=some x:=WM h
theorem C5 {f:FuncId}{a:D_}{hs:HS}{x:AV×HS}(h:(Dn P).call f a hs=some x):∃n,(run P n).call f a hs=some x:=WM h
theorem Zg {f:FuncId}{vs:D_}{h:ak}{x:AV}(e:dI (Dn P) f vs h=some x):∃n,dI (run P n) f vs h=some x:=by
 grind [dI,C5]
theorem abZ {l:Nat}{vs:D_}{hs:HS}{x:AV×HS}(e:rW (Dn P) l vs hs=some x):∃n,rW (run P n) l vs hs=some x:=by
 unfold rW at e⊢;split at e
 .split at e
  .simp at e
  .split at e<;>grind [ug,GZ]
 simp_all
theorem abp {f:AV}{vs:D_}{hs:HS}{x:AV×HS}(e:cW (Dn P) f vs hs=some x):∃n,cW (run P n) f vs hs=some x:=by
 cases f<;>simp only[cW,reduceCtorEq]at e⊢
 all_goals grind [C5,abZ]
theorem amM {o:lX}{st:St}{x:AV×St}(e:cm o (Dn P) st=some x):∃n,cm o (run P n) st=some x:=by
 cases o<;>try exact⟨0,e⟩
 .rename_i f args;simp only[cm,Bn]at e⊢
  cases hr:rdAll st.env args<;>grind [Zg]
 .rename_i f args;simp only[cm,At]at e⊢
  cases hr:rdAll st.env args<;>grind [C5]
 .rename_i f args;simp only[cm,AG]at e⊢
  cases hf:rd st.env f with
  |none=>simp_all
  |some p =>
   obtain⟨fv,e0⟩:=p;simp only at e⊢
   cases hr:rdAll e0 args<;>grind [abp]
theorem Yu {i:VI}{st x:St}(e:b4 (Dn P) i st=some x):∃n,b4 (run P n) i st=some x:=by
 have go:∀x,eE (Dn P) i st=some x->∃n,eE (run P n) i st=some x:=λx e=>by
  grind [eE,amM]
 unfold b4 at e⊢;split at e
 .simp_all
 .split at e
  .split at e<;>simp_all
  all_goals simp_all
theorem aav:∀{l:Q_}{st x:St},ji (Dn P) l st=some x->∃n,ji (run P n) l st=some x
 |[],_,_,e=>⟨0,e⟩
 |i::l,st,x,e=>by
  simp only[ji]at e⊢
  cases hv:b4 (Dn P) i st with
  |none=>simp_all
  |some st1 =>
   rw[hv]at e;obtain⟨n1,h1⟩:=Yu hv;obtain⟨n2,h2⟩:=aav e;refine⟨n1+n2,?_⟩;rw[AP (up (qt n1 n2)) h1];exact Kw (up (mj n2 n1)) h2
def amQ {F:C_}{i:VI}{st x:St}(e:tN (Dn P) F i st=some x):∃n,tN (run P n) F i st=some x:=by
 grind [tN,Yu]
def afC {a:Bool}{F:C_}{i:VI}{st x:St}(e:bx (Dn P) a F i st=some x):∃n,bx (run P n) a F i st=some x:=by
 cases a
 .exact Yu e
 .exact amQ e
theorem aaT {nr:C_}{vs:Q_}:∀{l F:C_}{st x:St},d9 (Dn P) nr vs l F st=some x->∃n,d9 (run P n) nr vs l F st=some x
 |[],_,_,_,e=>⟨0,e⟩
 |i::l,F,st,x,e=>by
  simp only[d9]at e⊢
  cases hi:vs[i]? with
  |none=>simp_all
  |some v =>
   rw[hi]at e;simp only at e⊢
   cases hv:bx (Dn P) (dl i nr) F v st with
   |none=>simp_all
   |some st1 =>
    rw[hv]at e;obtain⟨n1,h1⟩:=afC hv;obtain⟨n2,h2⟩:=aaT e;refine⟨n1+n2,?_⟩;rw[PS (up (qt n1 n2)) h1];exact K6 (up (mj n2 n1)) h2
theorem Wj {c:VC}{st:St}{x:bD×St}(e:cj c (Dn P) st=some x):∃n,cj c (run P n) st=some x:=by
 cases c<;>try exact⟨0,e⟩
 .grind [cj,Mi,aav]
 .rename_i perm gco nr ops;simp only[cj,GD,G0]at e⊢
  cases ha:oM st.env ops<;>grind [aaT]
 .rename_i a b;simp only[cj,Id]at e⊢
  grind [ug,GZ]
 .rename_i cr a b;simp only[cj,Lj]at e⊢;split at e<;>grind [ug]
 .grind [cj,GL,ug]
 .rename_i a;simp only[cj,Ll]at e⊢
  grind [ug,GZ]
 .rename_i f params assign body;simp only[cj,AO]at e⊢;split at e<;>grind [C5]
 .exact ug e
 .rename_i a cur;simp only[cj,E5]at e⊢
  grind [ug,GZ]
 .rename_i i d f a;simp only[cj,LA]at e⊢
  cases hg:get st.env i with
  |none=>simp_all
  |some p =>
   rw[hg]at e
   cases p<;>simp only at e⊢<;>try exact absurd e (by simp)
   rename_i id off
   cases hv:(Dn P).code a ⟨put st.env d (.ptr id off),st.hs⟩ with
   |none=>simp_all
   |some p =>
    obtain⟨o,st1⟩:=p;obtain⟨n1,h1⟩:=ug hv;rw[hv]at e
    cases o<;>simp only at e⊢<;>try exact absurd e (by simp)
    all_goals
     cases hc:(Dn P).call f [.ptr id off] st1.hs with
     |none=>simp_all
     |some q =>
      obtain⟨n2,h2⟩:=C5 hc;rw[hc]at e;refine⟨n1+n2,?_⟩;rw[GZ h1 (qt n1 n2)];simp only[(up (mj n2 n1)).call _ _ _ _ h2];exact e
def afJ {f:FuncId}{a:D_}{h:HS}{x:AV×HS}(e:sT P (Dn P) f a h=some x):∃n,sT P (run P n) f a h=some x:=by
 unfold sT at e⊢;split at e
 .simp at e
 .split at e<;>grind [Wj]
theorem ic (c:VC)(st:St):(Dn P).code c st=cj c (Dn P) st:=by
 cases h:cj c (Dn P) st with
 |some x =>
  obtain⟨n,hn⟩:=Wj h;exact XF (n:=n+1) hn
 |none =>
  cases k:(Dn P).code c st with
  |none=>rfl
  |some x =>
   obtain⟨n,hn⟩:=ug k
   cases n<;>grind [run,Ig,aar]
theorem aiN (f:FuncId)(a:D_)(hs:HS):(Dn P).call f a hs=sT P (Dn P) f a hs:=by
 cases h:sT P (Dn P) f a hs with
 |some x =>
  obtain⟨n,hn⟩:=afJ h;exact N1 (n:=n+1) hn
 |none =>
  cases k:(Dn P).call f a hs with
  |none=>rfl
  |some x =>
   obtain⟨n,hn⟩:=C5 k
   cases n<;>grind [run,Rs,aar]
abbrev az:=@Int.eq_ofNat_of_zero_le
variable {P:Nat->W_}
def tO (P:Nat->W_)(x:J_)(b:VC):J_ :=
 match x with
 |some (.normal,st)=>(Dn P).code b st
 |x=>x
def ti (id:Nat)(x:J_):J_ :=
 match x with
 |some (.exit j,st)=>if j=id then some (.normal,st) else some (.exit j,st)
 |x=>x
def ew (x:X_):J_ :=
 match x with
 |some st=>some (.normal,st)
 |none=>none
def oI (P:Nat->W_)(a:VC)(x:J_):J_ :=
 match x with
 |some (.normal,st)=>(Dn P).code (.loop a) st
 |x=>x
def Pi (fn:aj)(x:J_):T_ :=
 match x with
 |some (.normal,st)=>Ca fn st
 |some (.ret,st)=>Ca fn st
 |_=>none
def kH (x:T_):L_ :=
 match x with
 |some (v,hs)=>fq hs.heap v
 |none=>none
def akY {st:St}{b:VC}:tO P (some (.normal,st)) b=(Dn P).code b st:=(rfl)
def alT {st:St}{b:VC}:tO P (some (.ret,st)) b=some (.ret,st):=(rfl)
def alX {st:St}{b:VC}{j:Nat}:tO P (some (.exit j,st)) b=some (.exit j,st):=(rfl)
def alv {st:St}{b:VC}{j:Nat}:tO P (some (.goto j,st)) b=some (.goto j,st):=(rfl)
def alZ {b:VC}:tO P none b=none:=(rfl)
def ala {c:Prop}[Decidable c]{x y:J_}{b:VC}:tO P (if c then x else y) b=if c then tO P x b else tO P y b:=d_
def ak2 {st:St}{i:Nat}:ti i (some (.normal,st))=some (.normal,st):=(rfl)
def al3 {st:St}{i:Nat}:ti i (some (.ret,st))=some (.ret,st):=(rfl)
def amJ {st:St}{i j:Nat}:ti i (some (.exit j,st))=if j=i then some (.normal,st) else some (.exit j,st):=(rfl)
def alR {st:St}{i j:Nat}:ti i (some (.goto j,st))=some (.goto j,st):=(rfl)
def ald {i:Nat}:ti i none=none:=(rfl)
def akS {c:Prop}[Decidable c]{x y:J_}{i:Nat}:ti i (if c then x else y)=if c then ti i x else ti i y:=d_
def F6 {st:St}{a:VC}:oI P a (some (.normal,st))=(Dn P).code (.loop a) st:=(rfl)
def ai8 {st:St}{a:VC}:oI P a (some (.ret,st))=some (.ret,st):=(rfl)
def ajR {st:St}{a:VC}{j:Nat}:oI P a (some (.exit j,st))=some (.exit j,st):=(rfl)
def aki {st:St}{a:VC}{j:Nat}:oI P a (some (.goto j,st))=some (.goto j,st):=(rfl)
def ajW {a:VC}:oI P a none=none:=(rfl)
def aky {c:Prop}[Decidable c]{x y:J_}{a:VC}:oI P a (if c then x else y)=if c then oI P a x else oI P a y:=d_
def amg {st:St}:ew (some st)=some (.normal,st):=(rfl)
def ak9:ew none=none:=(rfl)
def akX {c:Prop}[Decidable c]{x y:X_}:ew (if c then x else y)=if c then ew x else ew y:=d_
def amN {v:AV}{hs:HS}:kH (some (v,hs))=fq hs.heap v:=(rfl)
def akW:kH none=none:=(rfl)
def akN {c:Prop}[Decidable c]{x y:T_}:kH (if c then x else y)=if c then kH x else kH y:=d_
def aeB {st:St}:(Dn P).code .skip st=some (.normal,st):=by rw[ic];rfl
def aec {st:St}{i:Nat}:(Dn P).code (.exit i) st=some (.exit i,st):=by rw[ic];rfl
def ahg {st:St}:(Dn P).code .ret st=some (.ret,st):=by rw[ic];rfl
def acM {st:St}{i:Nat}:(Dn P).code (.label i) st=some (.normal,st):=by rw[ic];rfl
def aek {st:St}{i:Nat}:(Dn P).code (.goto i) st=some (.goto i,st):=by rw[ic];rfl
def agh {st:St}{a b:VC}:(Dn P).code (.seq a b) st=tO P ((Dn P).code a st) b:=by rw[ic];rfl
def acC {st:St}{i:Nat}{a:VC}:(Dn P).code (.block i a) st=ti i ((Dn P).code a st):=by
 grind [ic,cj,GL,ti,Nat.eq_of_beq_eq_true,Nat.ne_of_beq_eq_false]
def aex {st:St}{a:VC}:(Dn P).code (.loop a) st=oI P a ((Dn P).code a st):=by rw[ic];rfl
theorem Oo {st:St}{d:Bool}{ops:Q_}:(Dn P).code (.reg d ops) st=ew (ji (Dn P) ops st):=by rw[ic];rfl
theorem aeO {st:St}{perm gco:C_}{ops:Q_}(ha:oM st.env ops=true):(Dn P).code (.regP perm gco [] ops) st=ew (tY (Dn P) ops perm st):=by
 rw[ic];simp only[cj,GD,G0,V5,ha];rfl
def Mv (P:Nat->W_)(v:L_)(a b:VC)(st:St):J_ :=
 match v with
 |some (.d (.bool true))=>(Dn P).code a st
 |some (.d (.bool false))=>(Dn P).code b st
 |_=>none
def adK {e:aK}{hs:HS}{i:Nat}{a b:VC}:(Dn P).code (.cond (.m i) a b) ⟨e,hs⟩=Mv P (get e i) a b ⟨del e i,hs⟩:=by
 rw[ic];simp only[cj,Lj,rd,Mv]
 grind
def aj5 {a b:VC}{st:St}:Mv P (some (B_ true)) a b st=(Dn P).code a st:=(rfl)
def akp {a b:VC}{st:St}:Mv P (some (B_ false)) a b st=(Dn P).code b st:=(rfl)
def aus (P:Nat->W_)(v:L_)(w:Bool)(d:H_)(op:lX)(th:O_)(st:St):X_ :=
 match v with
 |some (.d (.bool b))=>match b == w with
  |true=>b4 (Dn P) ⟨d,none,op,th⟩ st
  |false=>some (bS d (.tup []) st)
 |some (.tup [])=>some (bS d (.tup []) st)
 |_=>none
def aq6 {α:Type}{i:Nat}:get ([]:List (Nat×α)) i=none:=(rfl)
def ak7 {α:Type}{k i:Nat}{v:α}{r:List (Nat×α)}:get ((k,v)::r) i=if k=i then some v else get r i:=gv ..
def aqk {α:Type}{i:Nat}{x:α}:put [] i x=[(i,x)]:=(rfl)
def put1 {α:Type}{k i:Nat}{v x:α}{r:List (Nat×α)}:put ((k,v)::r) i x=if k=i then (i,x)::r else if i<=k then (i,x)::(k,v)::r else (k,v)::put r i x:=tC ..
def aqy {α:Type}{i:Nat}:del ([]:List (Nat×α)) i=[]:=(rfl)
def ak1 {α:Type}{k i:Nat}{v:α}{r:List (Nat×α)}:del ((k,v)::r) i=if k=i then del r i else (k,v)::del r i:=ma ..
theorem ND {k:IntKind}:me k k=true:=by cases k<;>rfl
theorem nq {op:BinOp}{k:IntKind}{a b:Int}(h1:op≠.shl)(h2:op≠.shr):cL op (.d (.int k a)) (.d (.int k b))=match jo op k a b with|some x=>some (.d x)|none=>none:=by
 grind [cL,sQ,ND]
def ajt {k:IntKind}{a b:Int}:cL .add (.d (.int k a)) (.d (.int k b))=some (.d (.int k (wr k (a+b)))):=by rw[nq s_ s_];rfl
def ajr {k:IntKind}{a b:Int}:cL .sub (.d (.int k a)) (.d (.int k b))=some (.d (.int k (wr k (a-b)))):=by rw[nq s_ s_];rfl
def ajM {k:IntKind}{a b:Int}:cL .mul (.d (.int k a)) (.d (.int k b))=some (.d (.int k (wr k (a*b)))):=by rw[nq s_ s_];rfl
def ako {k:IntKind}{a b:Int}(h:b≠0):cL .quo (.d (.int k a)) (.d (.int k b))=some (.d (.int k (wr k (a.tdiv b)))):=by grind [nq,jo]
def ajS {k:IntKind}{a b:Int}(h:b≠0):cL .rem (.d (.int k a)) (.d (.int k b))=some (.d (.int k (a.tmod b))):=by grind [nq,jo]
def akc {k:IntKind}{a b:Int}:cL .eql (.d (.int k a)) (.d (.int k b))=if a=b then some (B_ true) else some (B_ false):=by grind [nq,jo]
def ait {k:IntKind}{a b:Int}:cL .neq (.d (.int k a)) (.d (.int k b))=if a=b then some (B_ false) else some (B_ true):=by grind [nq,jo]
def ajb {k:IntKind}{a b:Int}:cL .lss (.d (.int k a)) (.d (.int k b))=if a<b then some (B_ true) else some (B_ false):=by grind [nq,jo]
def ajQ {k:IntKind}{a b:Int}:cL .leq (.d (.int k a)) (.d (.int k b))=if a<=b then some (B_ true) else some (B_ false):=by grind [nq,jo]
def ajK {k:IntKind}{a b:Int}:cL .gtr (.d (.int k a)) (.d (.int k b))=if b<a then some (B_ true) else some (B_ false):=by grind [nq,jo]
def aiV {k:IntKind}{a b:Int}:cL .geq (.d (.int k a)) (.d (.int k b))=if b<=a then some (B_ true) else some (B_ false):=by grind [nq,jo]
def aix {k j:IntKind}{a b:Int}(h:0<=b):cL .shl (.d (.int k a)) (.d (.int j b))=some (.d (.int k (wr k (a*((2 ^ (min b.toNat k.bits):Nat):Int))))):=by
 grind [cL,sQ,Dc]
def akx {k j:IntKind}{a b:Int}(h:0<=b):cL .shr (.d (.int k a)) (.d (.int j b))=some (.d (.int k (a.fdiv ((2 ^ (min b.toNat k.bits):Nat):Int)))):=by
 grind [cL,sQ,Dc]
def ag2 {a b:BA_}:cL .eql (.d (.str a)) (.d (.str b))=if a=b then some (B_ true) else some (B_ false):=by
 grind [cL]
def aoP {n:Int}(h:0<=n)(h2:n<=255):wr .u8 n=n:=by
 grind [wr,nu]
def alD {n:Int}(h:0<=n)(h2:n<=65535):wr .u16 n=n:=by
 grind [wr,nu]
def akU {n:Int}(h:0<=n)(h2:n<=4294967295):wr .u32 n=n:=by
 grind [wr,nu]
def aly {n:Int}(h:0<=n)(h2:n<=18446744073709551615):wr .u64 n=n:=by
 grind [wr,nu]
def aio {k:IntKind}{i:Int}{t:Nat}(h:0<=i)(h2:i<=t):gD (.d (.int k i)) t=some i.toNat:=by
 obtain⟨n,rfl⟩:=az h;have:Nat.ble n t=true:=bC o_;show(match Nat.ble n t with|true=>some n|false=>none)=_
 grind
theorem MD {k:IntKind}{i:Int}(h:0<=i):oJ (.d (.int k i))=some i.toNat:=by
 obtain⟨n,rfl⟩:=az h;rfl
def Ea (k:IntKind):Nat:=if k.signed then 2 ^ (k.bits-1) else 2 ^ k.bits
theorem ajU (k:IntKind):Ea k<=2 ^ k.bits:=by cases k<;>decide
theorem anw {k:IntKind}{n:Nat}(h:n<Ea k):k.wrap (n:Int)=n:=by
 cases k<;>simp only[Ea,IntKind.wrap,IntKind.signed,IntKind.bits]at h⊢<;>simp at h⊢<;>omega
theorem YL {k:IntKind}{n:Nat}(h:n<Ea k):(BitVec.ofInt k.bits (n:Int)).toNat=n:=by
 grind [ajU]
def ama {k:IntKind}{a b:Nat}(h:a<Ea k)(h2:b<Ea k)(h3:a |||b<Ea k):cL .or (.d (.int k (a:Int))) (.d (.int k (b:Int)))=some (.d (.int k ((a |||b:Nat):Int))):=by
 grind [nq,jo,KH,YL,anw]
def bl (P:Nat->W_)(f:FuncId)(ds:D_):L_:=kH ((Dn P).call f ds ⟨[],0⟩)
theorem Tp {f:FuncId}{fn:aj}{args:D_}{hs:HS}(hf:P f=some fn)(hl:args.length=fn.nparams):(Dn P).call f args hs=Pi fn ((Dn P).code fn.body ⟨iK 0 args,hs⟩):=by
 grind [aiN,Nat.beq_refl,sT,Pi,ic]
def ahH {f:FuncId}{fn:aj}{args:D_}(hf:P f=some fn)(hl:args.length=fn.nparams):bl P f args=kH (Pi fn ((Dn P).code fn.body ⟨iK 0 args,⟨[],0⟩⟩)):=by
 grind [bl,Tp]
def aeX {g:FuncId}{first caps args:D_}{hs:HS}:cW (Dn P) (.fn g first caps) args hs=(Dn P).call g (first++(args++caps)) hs:=(rfl)
def alL {α:Type}{a b:Prop}[Decidable a][Decidable b]{x y:α}:(if a then (if b then x else y) else y)=if a∧b then x else y:=by
 grind
def amv {α:Type}{a b:Prop}[Decidable a][Decidable b]{x y:α}:(if a then x else (if b then x else y))=if a∨b then x else y:=by
 grind
def alg {α:Type}{a b:Prop}[Decidable a][Decidable b]{x y:α}:(if a then (if b then y else x) else y)=if a∧¬b then x else y:=by
 grind
def alU {α:Type}{a b:Prop}[Decidable a][Decidable b]{x y:α}:(if a then x else (if b then y else x))=if a∨¬b then x else y:=by
 grind
def nth {α:Type}[Inhabited α](l:List α)(i:Nat):α:=l.getD i default
theorem Ky {α:Type}[Inhabited α]{l:List α}{i:Nat}(h:i<l.length):nth l i=l[i]:=by simp[nth,h]
theorem Au {α:Type}[Inhabited α]{l:List α}{i:Nat}(h:i<l.length):l[i]?=some (nth l i):=by simp[nth,h]
theorem lZ {α:Type}[Inhabited α]{l:List α}{i:Nat}(h:i<l.length):l.drop i=nth l i::l.drop (i+1):=by grind [List.drop_eq_getElem_cons,Ky]
theorem jN {α:Type}[Inhabited α]{l:List α}{i:Nat}(h:i<l.length):nth l i∈l:=by grind [Ky]
abbrev I (n:Int):D:=.int .i64 n
def am (l:G_):F_:=l.map fun(n:Int)=>[D.int .i64 n]
def aT (l:C_):F_:=l.map fun(n:Nat)=>[D.int .u8 (n:Int)]
def MN (l:AA_):F_:=l.map fun(n:Bool)=>[D.bool n]
def af4 {l:G_}:(am l).length=l.length:=by simp[am]
def agz {l:C_}:(aT l).length=l.length:=by simp[aT]
def aeU {l:AA_}:(MN l).length=l.length:=by simp[MN]
def xb {l:G_}{i:Nat}(h:i<l.length):(am l)[i]?=some [.int .i64 (nth l i)]:=by grind [am,Au]
def afO {l:C_}{i:Nat}(h:i<l.length):(aT l)[i]?=some [.int .u8 (nth l i:Nat)]:=by grind [aT,Au]
def adj {l:AA_}{i:Nat}(h:i<l.length):(MN l)[i]?=some [.bool (nth l i)]:=by grind [MN,Au]
def ae5 {a b:Nat}:((a:Int)+(b:Int)).toNat=a+b:=o_
def SN {a b:Nat}:Nat.beq a b=decide (a=b):=by
 grind [Nat.eq_of_beq_eq_true,Nat.ne_of_beq_eq_false]
theorem Sq {a b:Nat}:Nat.ble a b=decide (a<=b):=by
 grind [Nat.le_of_ble_eq_true,Nat.ble_eq_true_of_le]
def ajw {x y:J_}{b:VC}(h:x=y):tO P x b=tO P y b:=by rw[h]
def ai0 {x y:J_}{b:Nat}(h:x=y):ti b x=ti b y:=by rw[h]
def afz {x y:J_}{b:VC}(h:x=y):oI P b x=oI P b y:=by rw[h]
def ai3 {x y:J_}{b:aj}(h:x=y):Pi b x=Pi b y:=by rw[h]
def aj9 {r:cH}{c:VC}{x y:St}(h:x=y):r.code c x=r.code c y:=by rw[h]
def agI {v w:L_}{a b:VC}{x y:St}(h:v=w)(k:x=y):Mv P v a b x=Mv P w a b y:=by rw[h,k]
end Go.Vm
end
