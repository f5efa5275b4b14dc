import GoSem.ClaimChange
import Derived.WalkKit
import Derived.ProofKit
import Derived.OpenShut
import Derived.JoinedCond
import Derived.ChangeStays
import Derived.ChangeBook
import Derived.Test.YtlkdijocbcbcpaaGreatP1
set_option linter.unusedVariables false
set_option linter.unusedSimpArgs false
set_option linter.defProp false
set_option linter.unusedSectionVars false
noncomputable section
namespace Go.Vm
set_option maxHeartbeats 4000000
set_option maxRecDepth 100000
def Eq.K:Eq->HK
 |.q=>KQ
 |.t=>KT
 |.a=>KA
 |.p=>KP
section
variable {r:dF}
def Ch {i:VI}(h:i.th=[])(st:St):gy r i st=match (match di i.op r st with|some (v,st)=>some (firm v,st)|none=>none) with|some (v,st)=>some (cM i.dst v st)|none=>none:=by
 grind [gy]
theorem jp.firm {K:HK}{f:St->K_}{R M:C_}(h:jp K f R M):jp K (λst=>match f st with|some (v,st)=>some (firm v,st)|none=>none) R M:=by
 intro e hs v st1 hf;simp only at hf;split at hf
 .rename_i u st0 hu;simp only[ae,aM]at hf;obtain⟨rfl,rfl⟩:=hf;obtain⟨ρ,τ,h1,h2,h3,h4,h5⟩:=h e hs u st0 hu;refine⟨ρ,τ,h1,h2,h3,h4,λe' hs' he hρ=>?_⟩;obtain⟨e1',q1,q2,q3⟩:=h5 e' hs' he hρ
  simp_all
 simp_all
def akO (zs:D_):jp KA (MF zs) [] []:=by
 intro e hs v st1 hf;obtain⟨rfl,rfl⟩:=hf;refine⟨λhs'=>hs'.next=hs.next,λhs'=>push hs' [.cells zs],⟨[.cells zs],λ_ _ h=>h,λ_ _=>rfl⟩,rfl,λh=>h,λ_ _=>rfl,λe' hs' _ hn=>⟨e',?_,λ_ _=>rfl,λk hk=>by simp at hk⟩⟩;simp only[MF,hn];rfl
def arK (x:Rd):jp KA (UH x) (qd x) (kV x):=by
 intro e hs v st1 hf;unfold UH at hf;split at hf
 .rename_i u e1 hr;split at hf
  .rename_i hc;obtain⟨rfl,rfl⟩:=hf;obtain⟨s1,g1,l1⟩:=To hr;refine⟨λhs'=>hs'.next=hs.next,λhs'=>push hs' [.cells u.cells],⟨[.cells u.cells],λ_ _ h=>h,λ_ _=>rfl⟩,rfl,s1,λk hk=>by simp_all,λe' hs' he hn=>?_⟩;obtain⟨e1',hr',g1'⟩:=l1 e' he;refine⟨e1',?_,λk hk=>by simp_all,λk hk=>by simp_all⟩;unfold UH;simp only[hr',hc,hn];rfl
  simp_all
 simp_all
def ajM {i:VI}{p:Nat×Nat}{th:Q_}(h:i.th=p::th)(st:St):gy r i st=match (match di i.op r st with|some (v,st)=>some (firm (dO (p::th) v st.hs).1,(⟨st.env,(dO (p::th) v st.hs).2⟩:St))|none=>none) with|some (v,st)=>some (cM i.dst v st)|none=>none:=by
 grind [gy]
def jp.thaw {f:St->K_}{R M:C_}(h:ft f R M)(th:Q_):jp KA (λst=>match f st with|some (v,st)=>some (Go.Vm.firm (dO th v st.hs).1,(⟨st.env,(dO th v st.hs).2⟩:St))|none=>none) R M:=by
 intro e hs v st1 hf;simp only at hf;split at hf
 .rename_i u st0 hu;obtain⟨rfl,rfl⟩:=hf;obtain⟨h1,h2,h3,h4⟩:=h e hs u st0 hu;obtain⟨w,os,hw⟩:=Ns th hs.next u;refine⟨λhs'=>dx hs.heap hs'.heap∧hs'.next=hs.next,λhs'=>push hs' os,⟨os,λ_ a b=>⟨a,b⟩,λ_ _=>rfl⟩,?_,h2,h3,λe' hs' he hρ=>?_⟩
  .simp_all
  .obtain⟨e1',q1,q2,q3⟩:=h4 e' hs' he hρ.1
   simp_all
 simp_all
def pM {i:VI}{k:Eq}{R M:C_}(h:jY i=some (k,R,M)):UB k.K (cV r i) R M:=by
 unfold jY at h;split at h
 .rename_i p th hth;split at h
  .rename_i R0 M0 hf;obtain⟨rfl,rfl,rfl⟩:=h;exact vk (ajM hth) (jp.thaw (Wc (r:=r) hf) (p::th)) KA.id
  simp_all
 .rename_i hth;split at h
  .rename_i n p ho;obtain⟨rfl,rfl,rfl⟩:=h;exact vk (Ch hth) (jp.firm (by rw[ho];exact avU n p)) KT.id
  .rename_i m x y ho;obtain⟨rfl,rfl,rfl⟩:=h;exact vk (Ch hth) (jp.firm (by rw[ho];exact afg m _ y)) KP.id
  .rename_i m x y ho;obtain⟨rfl,rfl,rfl⟩:=h;exact vk (Ch hth) (jp.firm (by rw[ho];exact afg m _ y)) KP.id
  .rename_i zs ho;obtain⟨rfl,rfl,rfl⟩:=h;exact vk (Ch hth) (jp.firm (by rw[ho];exact akO zs)) KA.id
  .rename_i x ho;obtain⟨rfl,rfl,rfl⟩:=h;exact vk (Ch hth) (jp.firm (by rw[ho];exact arK x)) KA.id
  .split at h
   .rename_i R0 M0 hf;obtain⟨rfl,rfl,rfl⟩:=h;exact vk (Ch hth) (jp.firm (avv (Wc (r:=r) hf))) KQ.id
   simp_all
structure eq (st:St):Prop where
 se:cQ st.env
 sh:cQ st.hs.heap
 fr:∀id,st.hs.next<=id->get st.hs.heap id=none
theorem Pt (h:ak)(id k:Nat)(o:BH_):get (Hu h id o) k=match o with|none=>get h k|some o=>if k=id then some o else get h k:=by
 cases o with
 |none=>rfl
 |some o=>exact fL h id k o
def WU {h:ak}(hs:cQ h)(id:Nat)(o:BH_):cQ (Hu h id o):=by
 cases o with
 |none=>exact hs
 |some o=>exact hs.put _ _
theorem WR:∀(os:List Obj) (hs:HS) (k:Nat),k<hs.next->get (push hs os).heap k=get hs.heap k
 |[],_,_,_=>rfl
 |o::os,hs,k,hk=>by
  rw[push,WR os _ k e_]
  grind [fL]
def akx:∀(os:List Obj) (hs:HS),(∀id,hs.next<=id->get hs.heap id=none)->∀id,(push hs os).next<=id->get (push hs os).heap id=none
 |[],_,h=>h
 |o::os,hs,h=>akx os _ λid hid=>by
  grind [fL]
def agA:∀(os:List Obj) (hs:HS),cQ hs.heap->cQ (push hs os).heap
 |[],_,h=>h
 |o::os,hs,h=>agA os _ (h.put _ _)
def aeU:∀(os:List Obj) (hs:HS) (id:Nat) (o:BH_),cQ hs.heap->id<hs.next->push ⟨Hu hs.heap id o,hs.next⟩ os=⟨Hu (push hs os).heap id o,(push hs os).next⟩
 |[],_,_,_,_,_=>rfl
 |p::os,hs,id,o,hsrt,hid=>by
  have e:put (Hu hs.heap id o) hs.next p=Hu (put hs.heap hs.next p) id o:=by
   refine wE ((WU hsrt id o).put _ _) (WU (hsrt.put _ _) id o) λk=>?_
   grind [fL,Pt]
  simp only[push];rw[e];exact aeU os ⟨put hs.heap hs.next p,hs.next+1⟩ id o (hsrt.put _ _) (by grind)
theorem dx.push {hs:HS}(fr:∀id,hs.next<=id->get hs.heap id=none)(os:List Obj):dx hs.heap (push hs os).heap:=by
 intro id o h
 grind [jT.refl,WR]
theorem dx.upd {h:ak}{id:Nat}{o0:Obj}{o:BH_}(g:get h id=some o0)(ho:∀o1,o=some o1->jT o0 o1):dx h (Hu h id o)∧dx (Hu h id o) h:=by
 constructor
 .intro k x hx
  grind [Pt,jT.refl]
 .intro k x hx
  grind [Pt,jT.refl,jT.symm]
theorem Jd {i:VI}{k:Eq}{R M:C_}(h:jY i=some (k,R,M)){st st1:St}(inv:eq st)(hr:cV r i st=some st1):eq st1:=by
 obtain⟨e,hs⟩:=st;obtain⟨ρ,τ,hK,h1,h2,_,_⟩:=pM (r:=r) h e hs st1 hr;refine⟨h2 inv.se,?_,?_⟩
 .rw[h1]
  cases k with
  |q=>rw[hK.2 hs];exact inv.sh
  |t =>
   rcases hK with ⟨id,o0,o,g,_,ht,_⟩|⟨_,ht⟩
   .rw[ht];exact WU inv.sh _ _
   .rw[ht];exact inv.sh
  |a=>obtain⟨os,_,ht⟩:=hK;rw[ht hs rfl];exact agA _ _ inv.sh
  |p =>
   rcases hK with hK|⟨id,_,_,ht⟩
   .rw[hK.2 hs];exact inv.sh
   .rw[ht];exact inv.sh.del _
 .rw[h1]
  cases k with
  |q=>rw[hK.2 hs];exact inv.fr
  |t =>
   rcases hK with ⟨id,o0,o,g,_,ht,_⟩|⟨_,ht⟩
   .rw[ht];intro k hk;have:=inv.fr k hk
    grind [Pt]
   .rw[ht];exact inv.fr
  |a=>obtain⟨os,_,ht⟩:=hK;rw[ht hs rfl];exact akx _ _ inv.fr
  |p =>
   rcases hK with hK|⟨id,_,_,ht⟩
   .rw[hK.2 hs];exact inv.fr
   .rw[ht];intro k hk;rw[IP];split
    .rfl
    .exact inv.fr k hk
def ak3 {u v:VI}(h:IQ u v=true){st st1 st2:St}(inv:eq st)(a:cV r u st=some st1)(b:cV r v st1=some st2):∃st1',cV r v st=some st1'∧cV r u st1'=some st2:=by
 unfold IQ at h;split at h
 .rename_i k1 R1 M1 k2 R2 M2 e1 e2;simp only[af]at h;obtain⟨⟨⟨hk,a1⟩,a2⟩,a3⟩:=h;have d1:∀k∈M1,k∉R2∧k∉M2:=λk hk=>⟨jA a1 k hk,jA a2 k hk⟩
  have d2:∀k∈M2,k∉R1∧k∉M1:=λk hk=>⟨jA a3 k hk,λh=>jA a2 k h hk⟩
  have inv1:=Jd e1 inv a;have inv2:=Jd e2 inv1 b;obtain⟨e,hs⟩:=st;obtain⟨ρ1,τ1,K1,q1,q2,q3,q4⟩:=pM (r:=r) e1 e hs _ a;obtain⟨en1,hs1⟩:=st1;subst q1;obtain⟨ρ2,τ2,K2,p1,p2,p3,p4⟩:=pM (r:=r) e2 en1 (τ1 hs) _ b;have key:ρ2 hs∧ρ1 (τ2 hs)∧τ1 (τ2 hs)=τ2 (τ1 hs):=by
   cases k1 with
   |a=>grind [CK]
   |p =>
    cases k2 with
    |t=>grind [CK]
    |a=>grind [CK]
    |p=>grind [CK]
    |q =>
     have ht:∀x,τ2 x=x:=K2.2;rcases K1 with K1|⟨id,_,hρ,hτ⟩
     .rw[K1.2 hs]at K2;exact⟨K2.1 _ (.refl _),by rw[ht];exact K1.1 _ (.refl _),u_⟩
     .exact⟨K2.1 _ (by grind [dx.del]),by grind [dx.refl],u_⟩
   |q =>
    have ht:∀x,τ1 x=x:=K1.2
    cases k2 with
    |p=>grind [CK]
    |q =>
     rw[ht hs]at K2;exact⟨K2.1 _ (.refl _),by rw[K2.2];exact K1.1 _ (.refl _),u_⟩
    |t =>
     rw[ht hs]at K2;rcases K2 with ⟨id,o0,o,g,hρ,hτ,hl⟩|⟨hρ,hτ⟩
     .exact⟨hρ _ g,by rw[hτ];exact K1.1 _ (dx.upd g hl).1,u_⟩
     .exact⟨hρ _,by rw[hτ];exact K1.1 _ (.refl _),u_⟩
    |a =>
     rw[ht hs]at K2;obtain⟨os,hρ,hτ⟩:=K2;exact⟨hρ _ (.refl _) rfl,by rw[hτ _ rfl];exact K1.1 _ (dx.push inv.fr os),u_⟩
   |t =>
    cases k2 with
    |t=>grind [CK]
    |p=>grind [CK]
    |q =>
     have ht:∀x,τ2 x=x:=K2.2;rcases K1 with ⟨id,o0,o,g,hρ,hτ,hl⟩|⟨hρ,hτ⟩
     .exact⟨K2.1 _ (by grind [dx.upd]),u_,u_⟩
     .exact⟨K2.1 _ (by grind [dx.refl]),hρ _,u_⟩
    |a =>
     obtain⟨os,hρ2,hτ2⟩:=K2;rcases K1 with ⟨id,o0,o,g,hρ,hτ,hl⟩|⟨hρ,hτ⟩
     .have hn:(τ1 hs).next=hs.next:=by rw[hτ]
      have hid:id<hs.next:=by
       rcases bD id hs.next with h1|h1
       .exact h1
       .have:=inv.fr id h1;simp_all
      refine⟨hρ2 _ (by grind [dx.upd]) hn.symm,?_,?_⟩
      .grind [WR]
      .rw[hτ2 _ hn.symm,hτ2 _ rfl,hτ,hτ];exact(aeU os hs id o inv.sh hid).symm
     grind [dx.refl]
  obtain⟨c1,c2,c3⟩:=key;obtain⟨e1',k1',k2',k3'⟩:=p4 e hs (λk hk=>(q3 k (λhm=>(d1 k hm).1 hk)).symm) c1;obtain⟨e2',m1,m2,m3⟩:=q4 e1' (τ2 hs) (λk hk=>k2' k λhm=>(d2 k hm).1 hk) c2;have invA:=Jd e2 inv k1';have invB:=Jd e1 invA m1;refine⟨⟨e1',τ2 hs⟩,k1',?_⟩;rw[m1,c3]
  congr 2
  refine wE invB.se inv2.se λk=>?_
  by_cases hk1:k∈M1
  all_goals grind
 simp_all
end
mutual
theorem anY:∀(a b:D),Qo a b=true->a=b
 |.int k n,b,h=>by
  cases b<;>simp only[Qo,aq,af,decide_eq_true_eq]at h
  rw[GL h.1,h.2]
 |.bool x,b,h=>by
  cases b<;>simp only[Qo,aq,beq_iff_eq]at h
  rw[h]
 |.str s,b,h=>by
  cases b<;>simp only[Qo,aq,beq_iff_eq]at h
  rw[h]
 |.lst xs,b,h=>by
  cases b<;>simp only[Qo,aq]at h
  rw[eqDss_eq xs _ h]
theorem aaB:∀(a b:V_),SN a b=true->a=b
 |[],b,h=>by cases b<;>simp only[SN,aq]at h;rfl
 |x::r,b,h=>by
  cases b<;>simp only[SN,aq,af]at h
  rw[anY x _ h.1,aaB r _ h.2]
theorem eqDss_eq:∀(a b:F_),eqDss a b=true->a=b
 |[],b,h=>by cases b<;>simp only[eqDss,aq]at h;rfl
 |x::r,b,h=>by
  cases b<;>simp only[eqDss,aq,af]at h
  rw[aaB x _ h.1,eqDss_eq r _ h.2]
end
mutual
theorem avb:∀(a b:AV),jb a b=true->a=b
 |.junk,b,h=>by cases b<;>simp only[jb,aq]at h;rfl
 |.d x,b,h=>by
  cases b<;>simp only[jb,aq]at h
  rw[anY x _ h]
 |.nl,b,h=>by cases b<;>simp only[jb,aq]at h;rfl
 |.own p m xs,b,h=>by
  cases b<;>simp only[jb,aq,af,beq_iff_eq,aC]at h
  rw[h.1.1,h.1.2,eqDss_eq xs _ h.2]
 |.gl n,b,h=>by
  cases b<;>simp only[jb,aq,aC]at h
  rw[h]
 |.agg cs,b,h=>by
  cases b<;>simp only[jb,aq]at h
  rw[eqAVs_eq cs _ h]
 |.tup cs,b,h=>by
  cases b<;>simp only[jb,aq]at h
  rw[eqAVs_eq cs _ h]
 |.nilp,b,h=>by cases b<;>simp only[jb,aq]at h;rfl
 |.ptr _ _,b,h=>by
  cases b<;>simp only[jb,aq,af,aC]at h
  rw[h.1,h.2]
 |.pel _ _ _,b,h=>by
  cases b<;>simp only[jb,aq,af,aC]at h
  rw[h.1.1,h.1.2,h.2]
 |.pim cs _,b,h=>by
  cases b<;>simp only[jb,aq,af,aC]at h
  rw[aaB cs _ h.1,h.2]
 |.sl _ _ _,b,h=>by
  cases b<;>simp only[jb,aq,af,aC]at h
  rw[h.1.1,h.1.2,h.2]
 |.fn _ a c,b,h=>by
  cases b<;>simp only[jb,aq,af,aC]at h
  rw[h.1.1,eqAVs_eq a _ h.1.2,eqAVs_eq c _ h.2]
 |.nilf,b,h=>by cases b<;>simp only[jb,aq]at h;rfl
 |.yield _,b,h=>by
  cases b<;>simp only[jb,aq,aC]at h
  rw[h]
theorem eqAVs_eq:∀(a b:D_),eqAVs a b=true->a=b
 |[],b,h=>by cases b<;>simp only[eqAVs,aq]at h;rfl
 |x::r,b,h=>by
  cases b<;>simp only[eqAVs,aq,af]at h
  rw[avb x _ h.1,eqAVs_eq r _ h.2]
end
theorem ayx {a b:Obj}(h:eqO a b=true):a=b:=by
 cases a<;>cases b<;>simp only[eqO,aq,af,aC]at h
 all_goals grind [eqAVs_eq,eqDss_eq]
theorem RT (h:ak)(k:Nat):∀(ids:C_),get (dL ids h) k=if k∈ids then get h k else none
 |[]=>by grind [dL,CI]
 |i::r=>by
  have ih:=RT h k r
  grind [dL,fL]
def dx.only (h:ak)(ids:C_):dx (dL ids h) h:=by
 intro k o hk
 grind [RT,jT.refl]
theorem acb:∀{F:C_}{h h':ak},dt F h h'=true->∀{k:Nat}{o:Obj},k∈F->get h k=some o->get h' k=some o
 |[],_,_,_,k,o,hm,_=>by simp at hm
 |i::r,h,h',hs,k,o,hm,hk=>by
  simp only[dt,af]at hs;rcases aD.1 hm with e|hm
  .grind [ayx]
  .exact acb hs.2 hm hk
def abO:∀{F:C_}{h h':ak}{i:Nat},dt F h h'=true->i∈F->(match get h i with
   |some o=>(match get h' i with|some o'=>eqO o o'|none=>false)
   |none=>true)=true
 |x::F,h,h',i,hs,hi=>by
  simp only[dt,af]at hs;rcases aD.1 hi with e|hi
  .grind
  .exact abO hs.2 hi
theorem acz:∀{F' F:C_}{h h':ak},dt F h h'=true->(∀k∈F',k∈F)->dt F' h h'=true
 |[],_,_,_,_,_=>rfl
 |i::r,F,h,h',hs,hsub=>by
  simp only[dt,af];exact⟨abO hs (hsub i (.head _)),acz hs λk hk=>hsub k (.tail _ hk)⟩
def dx.same {F ids:C_}{h h':ak}(hs:dt F h h'=true)(hsub:∀k∈ids,k∈F):dx (dL ids h) (dL ids h'):=by
 intro k o hk
 grind [RT,acb,jT.refl]
section
variable {r:dF}
def aeK (f:St->Z_)(R M:C_):Prop :=
 ∀e hs st1,f ⟨e,hs⟩=some st1->(cQ e->cQ st1.env)∧(∀k,k∉M->get st1.env k=get e k)∧
  ∀e',(∀k∈R,get e' k=get e k)->∃e1',f ⟨e',hs⟩=some ⟨e1',st1.hs⟩∧(∀k,k∉M->get e1' k=get e' k)∧∀k∈M,get e1' k=get st1.env k
def UB.w {K:HK}{f:St->Z_}{R M:C_}(h:UB K f R M)(hK:∀hs ρ τ,K hs ρ τ->ρ hs):aeK f R M:=by
 intro e hs st1 hf;obtain⟨ρ,τ,k,q1,q2,q3,q4⟩:=h e hs st1 hf;refine⟨q2,q3,λe' he=>?_⟩;rw[q1];exact q4 e' hs he (hK _ _ _ k)
def Eq.self (k:Eq)(hs:HS)(ρ:HS->Prop)(τ:HS->HS)(h:k.K hs ρ τ):ρ hs:=by
 cases k with
 |q=>exact h.1 _ (.refl _)
 |t =>
  rcases h with ⟨id,o0,o,g,hρ,_⟩|⟨hρ,_⟩<;>simp_all
 |a=>obtain⟨os,hρ,_⟩:=h;grind [dx.refl]
 |p =>
  rcases h with h|⟨id,_,hρ,_⟩
  .exact h.1 _ (.refl _)
  grind [dx.refl]
def KW:HK:=λhs ρ _=>ρ hs
def KW.id (hs:HS):KW hs (λ_=>True) _root_.id:=trivial
def jp.rdsW {f:St->K_}{rs:S_}(F:D_->HS->W_)
  (h:∀e hs,f ⟨e,hs⟩=match rdAll e rs with|none=>none|some (vs,e1)=>match F vs hs with|none=>none|some (v,hs1)=>some (v,⟨e1,hs1⟩)):jp KW f (bW rs) (bu rs):=by
 intro e hs v st1 hf;rw[h]at hf;split at hf
 .simp at hf
 .rename_i vs e1 hr;split at hf
  .simp at hf
  .rename_i u hs1 hu;obtain⟨rfl,rfl⟩:=hf;obtain⟨s1,g1,l1⟩:=K4 hr;refine⟨λhs'=>hs'=hs,λ_=>hs1,rfl,rfl,s1,λk hk=>by simp_all,λe' hs' he hρ=>?_⟩;obtain⟨e1',hr',g1'⟩:=l1 e' he
   simp_all
def jp.thawW {f:St->K_}{R M:C_}(h:jp KW f R M)(th:Q_):jp KW (λst=>match f st with|some (v,st)=>some (Go.Vm.firm (dO th v st.hs).1,(⟨st.env,(dO th v st.hs).2⟩:St))|none=>none) R M:=by
 intro e hs v st1 hf;simp only at hf;split at hf
 .rename_i u st0 hu;obtain⟨rfl,rfl⟩:=hf;obtain⟨ρ,τ,k,h1,h2,h3,h4⟩:=h e hs u st0 hu;refine⟨λhs'=>hs'=hs,λ_=>(dO th u st0.hs).2,rfl,rfl,h2,h3,λe' hs' he hρ=>?_⟩;subst hρ;obtain⟨e1',q1,q2,q3⟩:=h4 e' hs' he k
  simp_all
 simp_all
def am6 {v:pV}{rs:S_}(h:aqs v=some rs):jp KW (di v r) (bW rs) (bu rs):=by
 unfold aqs at h;split at h<;>simp only[ae,reduceCtorEq]at h<;>subst h
 .rename_i n t p;refine jp.rdsW (λvs hs=>match vs with|[p]=>(match loadAt hs.heap n t p with|some (v,h)=>some (v,⟨h,hs.next⟩)|none=>none)|_=>none) λe hs=>?_
  grind [di,Fz,rdAll]
 .rename_i n p x;refine jp.rdsW (λvs hs=>match vs with|[p,v]=>(match storeAt hs.heap n p v with|some h=>some (.junk,⟨h,hs.next⟩)|none=>none)|_=>none) λe hs=>?_
  simp only[di,amR,rdAll]
  grind
 .rename_i m x y;refine jp.rdsW (λvs hs=>match vs with
   |[a,b]=>(match XC m (.c a) (.c b) ⟨[],hs⟩ with|some (v,st)=>some (v,st.hs)|none=>none)
   |_=>none) λe hs=>?_
  simp only[di,XC,rdAll]
  cases rd e x with
  |none=>rfl
  |some q =>
   obtain⟨a,e1⟩:=q;simp only
   cases rd e1 y with
   |none=>rfl
   |some q =>
    obtain⟨b,e2⟩:=q;simp only[rd]
    cases elems hs.heap b with
    |none=>rfl
    |some ys =>
     simp only;split<;>grind
 .rename_i z x;refine jp.rdsW (λvs hs=>match vs with
   |[a]=>(match Uz z (.c a) ⟨[],hs⟩ with|some (v,st)=>some (v,st.hs)|none=>none)
   |_=>none) λe hs=>?_
  simp only[di,Uz,rdAll]
  grind [rd]
 .rename_i f args;refine jp.rdsW (λvs hs=>r.call f vs hs) λe hs=>?_
  grind [di,Fu]
 .refine jp.rdsW (λvs hs=>match vs with|fv::vs=>dD r fv vs hs|[]=>none) λe hs=>?_
  grind [di,FO,rdAll]
def Cw {i:VI}{R M:C_}(h:kO i=some (R,M)):aeK (cV r i) R M:=by
 unfold kO at h;split at h
 .rename_i k R0 M0 hk;obtain⟨rfl,rfl⟩:=h;exact(pM hk).w k.self
 .split at h
  .rename_i rs hrs;obtain⟨rfl,rfl⟩:=h;refine UB.w (K:=KW) ?_ λ_ _ _ h=>h
   cases hth:i.th with
   |nil=>exact vk (Ch hth) (jp.firm (am6 hrs)) KW.id
   |cons p th=>exact vk (ajM hth) (jp.thawW (am6 hrs) (p::th)) KW.id
  simp_all
theorem Tk {i:VI}{k:Eq}{R M:C_}(h:jY i=some (k,R,M)){d:Nat}(hd:i.dst=some d):d∈M:=by
 grind [AY,jY]
theorem GY {i:VI}{R M:C_}(h:kO i=some (R,M)){d:Nat}(hd:i.dst=some d):d∈M:=by
 grind [kO,Tk,AY]
def WI {e e':aT}:∀{ws:C_},(∀k∈ws,get e' k=get e k)->Tx e' ws=Tx e ws
 |[],_=>rfl
 |w::ws,h=>by
  simp only[Tx,h w (.head _),WI λk hk=>h k (.tail _ hk)]
def kY {a:Bool}{i:VI}{R M:C_}(h:BY a i=some (R,M))(F:C_):aeK (bY r a F i) R M:=by
 unfold BY at h;split at h
 .rename_i R0 M0 hf
  cases a with
  |false =>
   obtain⟨rfl,rfl⟩:=h;exact Cw hf
  |true =>
   obtain⟨rfl,rfl⟩:=h;have hl:=Cw (r:=r) hf;intro e hs st1 hr;have hids:∀e',(∀k∈R0++SF (TI i.op),get e' k=get e k)->oR i e'=oR i e:=λe' he=>WI λk hk=>he k (dK _ hk)
   have hR0:∀e',(∀k∈R0++SF (TI i.op),get e' k=get e k)->∀k∈R0,get e' k=get e k:=λe' he k hk=>he k (cK _ hk)
   simp only[bY,ya]at hr;split at hr
   .split at hr
    .rename_i st2 h2;split at hr
     .simp only[ae]at hr;subst hr;obtain⟨q1,q2,q3⟩:=hl e hs _ h2;refine⟨q1,q2,λe' he=>?_⟩;obtain⟨e1',p1,p2,p3⟩:=q3 e' (hR0 e' he)
      grind [bY,ya]
     simp_all
    simp_all
   .split at hr
    .rename_i st2 h2;split at hr
     .split at hr
      .split at hr
       .simp only[ae]at hr;subst hr;obtain⟨q1,q2,q3⟩:=hl e hs _ h2;refine⟨q1,q2,λe' he=>?_⟩;obtain⟨e1',p1,p2,p3⟩:=q3 e' (hR0 e' he)
        grind [GY,bY,ya]
       simp_all
      simp_all
     simp_all
    simp_all
   .split at hr
    .rename_i st2 h2;simp only[ae]at hr;subst hr;obtain⟨q1,q2,q3⟩:=hl e _ _ h2;refine⟨q1,q2,λe' he=>?_⟩;obtain⟨e1',p1,p2,p3⟩:=q3 e' (hR0 e' he)
     simp_all [bY,ya]
    simp_all
 simp_all
theorem yl {f1 f2:St->Z_}{R1 M1 R2 M2:C_}(h1:aeK f1 R1 M1)(h2:aeK f2 R2 M2)(d1:∀k∈M1,k∉R2∧k∉M2)(d2:∀k∈M2,k∉R1∧k∉M1){e e1 e2:aT}{hs hs1 hs2 hsB:HS}(hsrt:cQ e)
  (a:f1 ⟨e,hs⟩=some ⟨e1,hs1⟩)(b:f2 ⟨e1,hs1⟩=some ⟨e2,hs2⟩)(i:f2 ⟨e1,hs⟩=some ⟨e2,hsB⟩)(ii:f1 ⟨e,hsB⟩=some ⟨e1,hs2⟩) :
  ∃st1',f2 ⟨e,hs⟩=some st1'∧f1 st1'=some ⟨e2,hs2⟩:=by
 obtain⟨s1,g1,_⟩:=h1 e hs _ a;obtain⟨s2,g2,l2⟩:=h2 e1 hs _ i;obtain⟨e',k1,k2,k3⟩:=l2 e λk hk=>(g1 k λhm=>(d1 k hm).1 hk).symm
 obtain⟨s3,g3,l3⟩:=h1 e hsB _ ii;obtain⟨e'',m1,m2,m3⟩:=l3 e' λk hk=>k2 k λhm=>(d2 k hm).1 hk
 refine⟨⟨e',hsB⟩,k1,?_⟩;rw[m1];obtain⟨t1,_,_⟩:=h2 e hs _ k1;obtain⟨t2,_,_⟩:=h1 e' hsB _ m1
 congr 2
 refine wE (t2 (t1 hsrt)) (s2 (s1 hsrt)) λk=>?_
 by_cases hk1:k∈M1
 all_goals grind
def arA {v:pV}(hv:sOp v=true){e:aT}{hs:HS}{x:AV}{st1:St}(h:di v r ⟨e,hs⟩=some (x,st1)):st1.hs=hs∧∀hs',di v r ⟨e,hs'⟩=some (x,⟨st1.env,hs'⟩):=by
 cases v<;>simp only[sOp,aq]at hv
 all_goals
  simp only[di,UD,lQ,Fa,Og,IW,OE,Uv,MD,Nq,abf,JA,Jl,mS,abp,OO,Mq,Xc,PT,DH,TM,Pv,Ce]at h⊢
  repeat' split at h
  all_goals grind
end
abbrev jC:=@Nat.ne_of_beq_eq_false
section
variable {r:dF}
def Je {l:Q_}(h:Nw l=true):l=[]:=by
 grind [Nw]
theorem Oo {a:Bool}{F:C_}{i:VI}(h:kS a i=true){e:aT}{hs:HS}{st1:St}(hr:bY r a F i ⟨e,hs⟩=some st1):st1.hs=hs∧∀hs',bY r a F i ⟨e,hs'⟩=some ⟨st1.env,hs'⟩:=by
 simp only[kS,af,cH]at h;obtain⟨⟨ha,hth⟩,hop⟩:=h;have hth:=Je hth;subst ha;simp only[bY]at hr⊢;have go:∀st1,gy r i ⟨e,hs⟩=some st1->st1.hs=hs∧∀hs',gy r i ⟨e,hs'⟩=some ⟨st1.env,hs'⟩:=by
  intro st1 h;unfold gy at h;simp only[hth]at h;split at h
  .rename_i v st0 hv;simp only[ae]at h;subst h;obtain⟨q1,q2⟩:=arA hop hv;refine⟨by cases i.dst<;>exact q1,λhs'=>?_⟩;unfold gy;simp only[hth,q2 hs']
   cases i.dst<;>rfl
  simp_all
 unfold cV at hr
 cases hg:i.guard with
 |none =>
  grind [cV]
 |some sw =>
  rw[hg]at hr;simp only at hr;split at hr
  .rename_i b hb;split at hr
   .grind [cV]
   .rename_i hbw;simp only[ae]at hr;subst hr;exact⟨by cases i.dst<;>rfl,λhs'=>by unfold cV;rw[hg];simp only[hb,hbw];cases i.dst<;>rfl⟩
  .rename_i hb;simp only[ae]at hr;subst hr;exact⟨by cases i.dst<;>rfl,λhs'=>by unfold cV;rw[hg];simp only[hb];cases i.dst<;>rfl⟩
  simp_all
theorem V2 {i:VI}(h:isQ i=true):∃R M,jY i=some (.q,R,M):=by
 grind [isQ]
theorem V4 {i:VI}(h:isP i=true):∃R M,jY i=some (.p,R,M):=by
 grind [isP]
theorem K6 {i:VI}(h:JP i=true):uU i.op=.read:=by
 grind [JP]
def an5 {i:VI}(h:agQ i=true):uU i.op=.take:=by
 grind [agQ]
theorem abB {i:VI}(h:ZE i=true):uU i.op=.call:=by
 grind [ZE]
theorem TZ {a:Bool}{F:C_}{i:VI}(h:Xj a i=true){e:aT}{hs:HS}{st1:St}(hr:bY r a F i ⟨e,hs⟩=some st1):st1.hs=hs:=by
 simp only[Xj,af,cZ,cH]at h;obtain⟨hq,hn⟩:=h;obtain⟨R,M,hk⟩:=V2 hq;have plain:cV r i ⟨e,hs⟩=some st1->st1.hs=hs:=λh=>by
  obtain⟨ρ,τ,K,q1,_⟩:=pM hk e hs st1 h;rw[q1];exact K.2 hs
 cases a<;>grind [K6,bY,ya]
def UA {K:HK}{f:St->Z_}{R M:C_}(hl:UB K f R M){e:aT}(hsrt:cQ e){hs:HS}{st1:St}(hr:f ⟨e,hs⟩=some st1):∃ρ τ,K hs ρ τ∧st1.hs=τ hs∧∀hs',ρ hs'->f ⟨e,hs'⟩=some ⟨st1.env,τ hs'⟩:=by
 obtain⟨ρ,τ,k,q1,q2,q3,q4⟩:=hl e hs st1 hr;refine⟨ρ,τ,k,q1,λhs' hρ=>?_⟩;obtain⟨e1',p1,p2,p3⟩:=q4 e hs' (λ_ _=>rfl) hρ;obtain⟨_,_,_,_,s2,_,_⟩:=hl e hs' _ p1
 grind [wE]
def apz {F F':C_}{u:VI}(hq:isQ u=true)(hn:JP u=true){e:aT}(hsrt:cQ e){hs:HS}{st1:St}(hr:bY r true F u ⟨e,hs⟩=some st1) :
  ∀hs',dx (dL (oR u e) hs.heap) (dL (oR u e) hs'.heap)->bY r true F' u ⟨e,hs'⟩=some ⟨st1.env,hs'⟩:=by
 intro hs' hle;obtain⟨R,M,hk⟩:=V2 hq;have hn:=K6 hn;simp only[bY,ya,hn]at hr⊢;split at hr
 .rename_i st2 h2;simp only[ae]at hr;subst hr;obtain⟨ρ,τ,K,q1,q2⟩:=UA (pM hk) hsrt h2;rw[q2 ⟨dL (oR u e) hs'.heap,hs'.next⟩ (K.1 _ hle)]
 simp_all
def aoQ {F:C_}{v:VI}(hn:ZE v=true){e:aT}{hs:HS}{st1:St}(hr:bY r true F v ⟨e,hs⟩=some st1):dt F hs.heap st1.hs.heap=true:=by
 grind [abB,bY,ya]
def agJ {a:Bool}{F F':C_}{v:VI}{st st1:St}(hsub:∀k∈F',k∈F)(hr:bY r a F v st=some st1):bY r a F' v st=some st1:=by
 cases a<;>grind [bY,ya,acz]
def aqe (a:Bool)(v:VI)(e:aT){F F':C_}(hsub:∀k∈F',k∈F):∀k∈ke a v e F',k∈ke a v e F:=by
 intro k hk;unfold ke at hk⊢
 grind
def avA (a:Bool)(v:VI)(e:aT)(F:C_):∀k∈F,k∈ke a v e F:=by
 intro k hk;unfold ke
 grind
theorem Wq {nr:C_}{vs:R_}:∀{l:C_}{F F':C_}{st st':St},(∀k∈F',k∈F)->fP r nr vs l F st=some st'->fP r nr vs l F' st=some st'
 |[],_,_,_,_,_,h=>h
 |i::l,F,F',st,st',hsub,h=>by
  simp only[fP]at h⊢;split at h
  .simp at h
  .split at h
   .simp at h
   .rename_i st1 h1;simp only[agJ hsub h1];exact Wq (aqe _ _ _ hsub) h
theorem ajZ {a:Bool}{F:C_}{v:VI}{e:aT}{hs:HS}(hsrt:cQ e){R M:C_}(hf:a=false∨uU v.op≠.read∨jY v=some (.q,R,M)){st1:St}(hr:bY r a F v ⟨e,hs⟩=some st1):cV r v ⟨e,hs⟩=some st1:=by
 cases a with
 |false=>exact hr
 |true =>
  simp only[bY,ya]at hr;split at hr
  .grind
  .grind
  .rename_i hn;split at hr
   .rename_i st2 h;simp only[ae]at hr;subst hr;have hk:=(hf.resolve_left s_).resolve_left (λh=>h hn);obtain⟨ρ,τ,K,q1,q2⟩:=UA (pM hk) hsrt h;have:=q2 hs (K.1 _ (dx.only _ _));rw[K.2 hs]at this;exact this
   simp_all
theorem uK {a b:Bool}{u v:VI}(h:GC a b u v=true):∃R1 M1 R2 M2,BY a u=some (R1,M1)∧BY b v=some (R2,M2)∧(∀k∈M1,k∉R2∧k∉M2)∧∀k∈M2,k∉R1∧k∉M1:=by
 grind [GC,jA]
def aiW {a:Bool}{v:VI}{R M:C_}(h:BY a v=some (R,M)){e e':aT}(he:∀k∈R,get e' k=get e k)(F:C_):ke a v e' F=ke a v e F:=by
 cases a with
 |false=>rfl
 |true =>
  unfold BY at h;split at h
  .obtain⟨rfl,rfl⟩:=h;have:oR v e'=oR v e:=WI λk hk=>he k (dK _ hk)
   grind [ke]
  simp_all
def RQ (r:dF)(a b:Bool)(u v:VI)(F:C_)(st st1 st2:St):Prop :=
 ∃st1',bY r b F v st=some st1'∧bY r a (ke b v st.env F) u st1'=some st2∧∀k∈ke a u st1'.env (ke b v st.env F),k∈ke b v st1.env (ke a u st.env F)
theorem apL {a b:Bool}{u v:VI}{R1 M1 R2 M2:C_}(f1:BY a u=some (R1,M1))(f2:BY b v=some (R2,M2))(d1:∀k∈M1,k∉R2∧k∉M2)(d2:∀k∈M2,k∉R1∧k∉M1){F:C_}{st st1 st2 st1':St}
  (h1:bY r a F u st=some st1)(k1:bY r b F v st=some st1')(k2:bY r a (ke b v st.env F) u st1'=some st2):RQ r a b u v F st st1 st2:=by
 refine⟨st1',k1,k2,?_⟩;obtain⟨e,hs⟩:=st;obtain⟨_,g1,_⟩:=kY (r:=r) f1 F e hs _ h1;obtain⟨_,g2,_⟩:=kY (r:=r) f2 F e hs _ k1;rw[aiW f1 (e:=e) (e':=st1'.env) (λk hk=>g2 k λhm=>(d2 k hm).1 hk),aiW f2 (e:=e) (e':=st1.env) (λk hk=>g1 k λhm=>(d1 k hm).1 hk)];intro k hk
 cases a with
 |false=>exact hk
 |true =>
  cases b<;>grind [ke]
theorem XJ {a b:Bool}{u v:VI}(h:TS a b u v=true){F:C_}{st st1 st2:St}(hsrt:cQ st.env)(h1:bY r a F u st=some st1)(h2:bY r b (ke a u st.env F) v st1=some st2):RQ r a b u v F st st1 st2:=by
 simp only[TS,af,cZ]at h;obtain⟨hap,h⟩:=h;obtain⟨R1,M1,R2,M2,f1,f2,d1,d2⟩:=uK hap;have l1:=λF=>kY (r:=r) f1 F
 have l2:=λF=>kY (r:=r) f2 F
 have h2':=agJ (F':=F) (avA a u st.env F) h2;have fin:(∃st1',bY r b F v st=some st1'∧bY r a F u st1'=some st2)->(∀{s s':St},bY r a F u s=some s'->bY r a (ke b v st.env F) u s=some s')->RQ r a b u v F st st1 st2:=by
  grind [apL]
 obtain⟨e,hs⟩:=st;obtain⟨e1,hs1⟩:=st1;obtain⟨e2,hs2⟩:=st2;rcases h with ((h|h)|h)|h
 .obtain⟨q1,q2⟩:=Oo h h1;subst q1;refine fin (yl (l1 F) (l2 F) d1 d2 hsrt h1 h2' h2' (q2 hs2)) λ{s s'} hs=>?_
  simp only[kS,af,cH]at h;rw[h.1.1]at hs⊢;exact hs
 .obtain⟨q1,q2⟩:=Oo h h2';subst q1;refine fin (yl (l1 F) (l2 F) d1 d2 hsrt h1 h2' (q2 hs) h1) λ{s s'} hs=>?_
  simp only[kS,af,cH]at h;rw[h.1.1];exact hs
 .have q1:=TZ h.1 h1;have q2:=TZ h.2 h2'
  grind [yl,Xj,Bool.not_eq_true',K6,bY,ya]
 .simp only[agS,af]at h;obtain⟨⟨⟨⟨rfl,rfl⟩,hq⟩,hn⟩,hc⟩:=h;have q1:=TZ (r:=r) (a:=true) (i:=u) (by grind [Xj]) h1;subst q1;have hnu:=K6 hn;have hsame:=aoQ hc h2;have hle:=dx.same (ids:=oR u e) hsame (λk hk=>by grind [ke]);have hF:ke true v e F=F:=by grind [ke,abB]
  refine fin (yl (l1 F) (l2 F) d1 d2 hsrt h1 h2' h2' (apz hq hn hsrt h1 hs2 hle)) λ{s s'} hs=>?_
  simp_all
def Lr (m:Bool)(vs:D_)(i:Nat):D_:=match m with|true=>vs.set i .junk|false=>vs
def W6 (m:Bool)(e:aT)(j:Nat)(vs:D_)(i:Nat):aT:=match m with|true=>put e j (.tup (Lr m vs i))|false=>e
def alf (m:Bool)(x:AV):AV:=match m with|true=>x|false=>share x
def ajy {m:Bool}{vs:D_}{i k:Nat}(h:i≠k):(Lr m vs i)[k]?=vs[k]?:=by
 cases m
 .rfl
 .exact List.getElem?_set_ne h
theorem aoS {m n:Bool}{vs:D_}{i k:Nat}(h:i≠k):Lr n (Lr m vs i) k=Lr m (Lr n vs k) i:=by
 cases m<;>cases n<;>try rfl
 exact List.set_comm _ _ h
theorem Wg {m:Bool}{e:aT}{j:Nat}{vs:D_}{i:Nat}(hj:get e j=some (.tup vs))(q:Nat):get (W6 m e j vs i) q=if q=j then some (.tup (Lr m vs i)) else get e q:=by
 cases m
 all_goals grind [W6,Lr,fL]
theorem IZ {m:Bool}{e:aT}(h:cQ e)(j:Nat)(vs:D_)(i:Nat):cQ (W6 m e j vs i):=by
 cases m
 .exact h
 .exact h.put _ _
theorem M6 {u:VI}{j:Nat}{m:Bool}{i d:Nat}(ho:u.op=.ext j m i)(hd:u.dst=some d)(hg:u.guard=none)(ht:u.th=[])(e:aT)(hs:HS):cV r u ⟨e,hs⟩ =
  match get e j with
  |some (.tup vs)=>match vs[i]? with
   |some x=>some ⟨put (W6 m e j vs i) d (firm (alf m x)),hs⟩
   |none=>none
  |_=>none:=by
 unfold cV gy;simp only[hg,ho,di,DH,hd,ht]
 cases get e j with
 |none=>rfl
 |some w =>
  cases w<;>try rfl
  rename_i vs;simp only
  cases vs[i]? with
  |none=>rfl
  |some x=>cases m<;>rfl
def ar4 {u v:VI}{j i k d c:Nat}{m n:Bool}(o1:u.op=.ext j m i)(o2:v.op=.ext j n k)(d1:u.dst=some d)(d2:v.dst=some c)(g1:u.guard=none)(g2:v.guard=none)(ht1:u.th=[])(ht2:v.th=[])
  (hik:i≠k)(hdc:d≠c)(hdj:d≠j)(hcj:c≠j){st st1 st2:St}(hsrt:cQ st.env)(h1:cV r u st=some st1)(h2:cV r v st1=some st2):∃st1',cV r v st=some st1'∧cV r u st1'=some st2:=by
 obtain⟨e,hs⟩:=st;rw[M6 o1 d1 g1 ht1]at h1;split at h1
 .rename_i vs hj;split at h1
  .rename_i x hx;simp only[ae]at h1;subst h1;rw[M6 o2 d2 g2 ht2]at h2;have hj1:get (put (W6 m e j vs i) d (firm (alf m x))) j=some (.tup (Lr m vs i)):=by
    grind [fL,Wg]
   rw[hj1]at h2;simp only[ajy hik]at h2;split at h2
   .rename_i y hy;simp only[ae]at h2;subst h2;have hj2:get (put (W6 n e j vs k) c (firm (alf n y))) j=some (.tup (Lr n vs k)):=by
     grind [fL,Wg]
    refine⟨⟨put (W6 n e j vs k) c (firm (alf n y)),hs⟩,by grind [M6],?_⟩;rw[M6 o1 d1 g1 ht1,hj2];simp only[ajy (λh:k=i=>hik h.symm),hx,ae]
    congr 1
    refine wE ((IZ ((IZ hsrt _ _ _).put _ _) _ _ _).put _ _) ((IZ ((IZ hsrt _ _ _).put _ _) _ _ _).put _ _) λq=>?_
    grind [fL,Wg,aoS]
   simp_all
  simp_all
 simp_all
theorem Tw {a b:Bool}{u v:VI}(h:tp a b u v=true){F:C_}{st st1 st2:St}(hsrt:cQ st.env)(h1:bY r a F u st=some st1)(h2:bY r b (ke a u st.env F) v st1=some st2):RQ r a b u v F st st1 st2:=by
 simp only[tp,af,cH]at h;obtain⟨⟨⟨⟨rfl,rfl⟩,ht1⟩,ht2⟩,h⟩:=h;have ht1:=Je ht1;have ht2:=Je ht2;split at h
 .rename_i j m i l n k d c o1 o2 d1 d2 g1 g2;simp only[af,cH,aC]at h;obtain⟨⟨⟨⟨rfl,hik⟩,hdc⟩,hdj⟩,hcj⟩:=h;obtain⟨st1',k1,k2⟩:=ar4 o1 o2 d1 d2 g1 g2 ht1 ht2 (jC hik) (jC hdc) (jC hdj) (jC hcj) hsrt h1 h2;exact⟨st1',k1,k2,λk hk=>hk⟩
 simp_all
def aly {a b:Bool}{u v:VI}(h:tp a b u v=true):kS a u=true:=by
 grind [tp,kS,sOp]
end
abbrev mf:=@List.map_set
abbrev ww:=@List.getElem?_set_self
section
variable {r:dF}
theorem agu {cs:D_}{off:Nat}{w:AV}(h:cs[off]?=some w):jT (.cells cs) (.cells (cs.set off (share w))):=by
 simp only[jT,kM,mf,Gr];refine dZ λi=>?_
 grind
def ape (w:AV):Prop:=(∃p m xs,w=.own p m xs)∨w=.nl
def anq {w:AV}(h:L3 (firm w)=true):ape w:=by
 cases w with
 |own p m xs=>exact .inl ⟨_,_,_,rfl⟩
 |nl=>exact .inr rfl
 |_=>grind [firm,L3]
theorem MA {a:Bool}{i:VI}(h:Ea a i=true):∃p,a=true∧i.op=.ld none 2 p∧i.th=[]:=by
 simp only[Ea,af]at h;obtain⟨⟨ha,hn⟩,hth⟩:=h;have hth:=Je hth;have hn:=an5 hn;unfold uU at hn
 grind
theorem arx {a:Bool}{i:VI}(h:Ea a i=true)(e:aT)(F:C_):ke a i e F=F:=by
 obtain⟨p,rfl,hop,hth⟩:=MA h
 grind [ke,uU]
theorem avT {id off:Nat}{cs:D_}{w:AV}{h:ak}(hg:get h id=some (.cells cs))(hw:cs[off]?=some w):loadAt h none 2 (.ptr id off)=some (w,put h id (.cells (cs.set off (share w)))):=by
 grind [loadAt,sX]
def Pz {a:Bool}{F:C_}{u:VI}(h:Ea a u=true){e e1:aT}{hs hs1:HS}(hr:bY r a F u ⟨e,hs⟩=some ⟨e1,hs1⟩):∃id off cs w,get hs.heap id=some (.cells cs)∧cs[off]?=some w∧ape w∧
  hs1=⟨put hs.heap id (.cells (cs.set off (share w))),hs.next⟩∧
   ∀hs' cs',get hs'.heap id=some (.cells cs')->cs'[off]?=some w->bY r a F u ⟨e,hs'⟩=some ⟨e1,⟨put hs'.heap id (.cells (cs'.set off (share w))),hs'.next⟩⟩:=by
 obtain⟨p,rfl,hop,hth⟩:=MA h;have hn:uU u.op=.take:=by rw[hop];rfl
 simp only[bY,ya,hn]at hr⊢;split at hr
 .rename_i st1 h1;split at hr
  .rename_i d hd;split at hr
   .rename_i x hx;split at hr
    .rename_i ho;simp only[ae]at hr;subst hr;have go:gy r u ⟨e,hs⟩=some ⟨e1,hs1⟩∧∀hs',cV r u ⟨e,hs'⟩=gy r u ⟨e,hs'⟩:=by
      have dead:∀st1:St,some (cM u.dst (.tup []) ⟨e,hs⟩)=some st1->get st1.env d=some x->False:=by
       grind [cM,fL,L3]
      unfold cV at h1
      cases hg:u.guard<;>grind [cV]
     obtain⟨hgo,hsame⟩:=go;unfold gy at hgo;simp only[hth,hop,di,Fz]at hgo;split at hgo
     .rename_i v st0 hv;split at hv
      .rename_i pv e0 hp;split at hv
       .rename_i v' h1' hl;simp only[ae,aM]at hv;obtain⟨rfl,rfl⟩:=hv;rw[hd]at hgo;obtain⟨rfl,rfl⟩:=hgo;simp only[fL,bR,ae]at hx;subst hx;have hw:=anq ho;have back:∀hs' h2,loadAt hs'.heap none 2 pv=some (v',h2)->(match cV r u ⟨e,hs'⟩ with
          |some st1=>match (some d:J_) with
           |some d=>match get st1.env d with
            |some a=>match L3 a with
             |true=>some st1
             |false=>none
            |none=>none
           |none=>none
          |none=>none)=some ⟨put e0 d (firm v'),⟨h2,hs'.next⟩⟩:=by
         simp_all [gy,di,Fz,cM,fL]
        cases pv<;>simp only[loadAt,reduceCtorEq]at hl
        .split at hl
         .split at hl
          .simp at hl
          .simp only[sX,ae,aM]at hl
           grind [avT]
         simp_all
        .split at hl
         .split at hl
          .split at hl
           .rename_i u hu;obtain⟨rfl,_⟩:=hl;unfold pF at hu;simp only at hu;split at hu
            .simp only[ae]at hu;subst hu;rcases hw with ⟨_,_,_,h⟩|h<;>simp at h
            simp_all
           simp_all
          simp_all
         simp_all
        .split at hl
         .rename_i u hu;obtain⟨rfl,_⟩:=hl;unfold pF at hu;simp only at hu;split at hu
          .simp only[ae]at hu;subst hu;rcases hw with ⟨_,_,_,h⟩|h<;>simp at h
          simp_all
         simp_all
       simp_all
      simp_all
     simp_all
    simp_all
   simp_all
  simp_all
 simp_all
theorem Ul {α:Type}{l:List (Nat×α)}(h:cQ l)(k:Nat)(a b:α):put (put l k a) k b=put l k b:=by
 grind [wE,cQ.put,fL]
theorem aqT {α:Type}{l:List (Nat×α)}(h:cQ l){j k:Nat}(hjk:j≠k)(a b:α):put (put l j a) k b=put (put l k b) j a:=by
 grind [wE,cQ.put,fL]
theorem ajq {α:Type}{l:List (Nat×α)}(h:cQ l){j k:Nat}(hjk:j≠k)(a:α):put (del l k) j a=del (put l j a) k:=by
 grind [wE,cQ.put,cQ.del,fL,IP]
theorem auZ {a b:Bool}{u v:VI}(hu:Ea a u=true)(hv:Ea b v=true)(hap:GC a b u v=true){F:C_}{st st1 st2:St}(inv:eq st)(h1:bY r a F u st=some st1)(h2:bY r b F v st1=some st2):∃st1',bY r b F v st=some st1'∧bY r a F u st1'=some st2:=by
 obtain⟨R1,M1,R2,M2,f1,f2,d1,d2⟩:=uK hap;have l1:=kY (r:=r) f1 F;have l2:=kY (r:=r) f2 F;obtain⟨e,hs⟩:=st;obtain⟨e1,hs1⟩:=st1;obtain⟨e2,hs2⟩:=st2;have hsh:cQ hs.heap:=inv.sh;obtain⟨i1,o1,c1,w1,g1,k1,n1,rfl,b1⟩:=Pz hu h1;obtain⟨i2,o2,c2,w2,g2,k2,n2,rfl,b2⟩:=Pz hv h2;rw[fL]at g2;by_cases hi:i2=i1
 .subst hi;rw[ac rfl]at g2;simp only[ae,Obj.cells.injEq]at g2;subst g2;rw[Ul hsh]at h2;by_cases ho:o1=o2
  .subst ho;have hlt:o1<c1.length:=by
    grind
   rw[ww hlt]at k2;simp only[ae]at k2;have hw1:w1=.nl:=by
    rcases n1 with ⟨p,m,xs,rfl⟩|h
    .subst k2
     cases p<;>rcases n2 with ⟨_,_,_,h⟩|h<;>simp[share]at h
    .exact h
   subst hw1;have hw2:w2=.nl:=by rw[<-k2];rfl
   subst hw2;rw[Ul hsh];refine yl l1 l2 d1 d2 inv.se h1 h2 (b2 hs c1 g1 k1) ?_
   grind [fL]
  .rw[Ul hsh];have k2':c1[o2]?=some w2:=u_;refine yl l1 l2 d1 d2 inv.se h1 h2 (b2 hs c1 g1 k2') ?_
   grind [fL,Ul,List.set_comm]
 .rw[aa hi]at g2;refine yl l1 l2 d1 d2 inv.se h1 h2 (b2 hs c2 g2 k2) ?_
  grind [fL,aqT]
def agc {b:Bool}{v:VI}(h:isP v=true)(hb:(!b ||Ea b v)=true):b=false:=by
 grind [MA,isP,jY]
def aud {a:Bool}{u v:VI}(hu:Ea a u=true)(hv:isP v=true)(hap:GC a false u v=true){F:C_}{st st1 st2:St}(inv:eq st)(h1:bY r a F u st=some st1)(h2:cV r v st1=some st2):∃st1',cV r v st=some st1'∧bY r a F u st1'=some st2:=by
 obtain⟨R1,M1,R2,M2,f1,f2,d1,d2⟩:=uK hap;have l1:=kY (r:=r) f1 F;have l2:=kY (r:=r) f2 F;obtain⟨e,hs⟩:=st;obtain⟨e1,hs1⟩:=st1;obtain⟨e2,hs2⟩:=st2;have hsh:cQ hs.heap:=inv.sh;have s1:cQ e1:=(l1 e hs _ h1).1 inv.se;obtain⟨i1,o1,c1,w1,g1,k1,n1,rfl,b1⟩:=Pz hu h1;have hle:dx (put hs.heap i1 (.cells (c1.set o1 (share w1)))) hs.heap:=(dx.upd (o:=some (.cells (c1.set o1 (share w1)))) g1 (λo1 ho=>by grind [agu])).2;obtain⟨R,M,hk⟩:=V4 hv;obtain⟨ρ,τ,K,q1,q2⟩:=UA (pM hk) s1 h2;simp only at q1 q2;subst q1;rcases K with K|⟨id,⟨m,xs,ga⟩,hρ,hτ⟩
 .have hi:=q2 hs (K.1 _ hle);rw[K.2]at hi h2⊢;exact yl l1 l2 d1 d2 inv.se h1 h2 hi h1
 .have hi:=q2 hs (hρ _ hle);have hne:i1≠id:=by
   grind [fL]
  refine yl l1 l2 d1 d2 inv.se h1 h2 hi ?_
  grind [IP,ajq]
def avm {b:Bool}{u v:VI}(hu:isP u=true)(hv:Ea b v=true)(hap:GC false b u v=true){F:C_}{st st1 st2:St}(inv:eq st)(h1:cV r u st=some st1)(h2:bY r b F v st1=some st2):∃st1',bY r b F v st=some st1'∧cV r u st1'=some st2:=by
 obtain⟨R1,M1,R2,M2,f1,f2,d1,d2⟩:=uK hap;have l1:=kY (r:=r) f1 F;have l2:=kY (r:=r) f2 F;obtain⟨e,hs⟩:=st;obtain⟨e1,hs1⟩:=st1;obtain⟨e2,hs2⟩:=st2;have hsh:cQ hs.heap:=inv.sh;obtain⟨R,M,hk⟩:=V4 hu;obtain⟨ρ,τ,K,q1,q2⟩:=UA (pM hk) inv.se h1;subst q1;obtain⟨i2,o2,c2,w2,g2,k2,n2,rfl,b2⟩:=Pz hv h2;have hle:∀{h:ak},get h i2=some (.cells c2)->dx h (put h i2 (.cells (c2.set o2 (share w2)))):=λg=>(dx.upd (o:=some (.cells (c2.set o2 (share w2)))) g (λo1 ho=>by grind [agu])).1
 rcases K with K|⟨id,_,hρ,hτ⟩
 .simp only[K.2]at g2 h2 h1 q2⊢;exact yl l1 l2 d1 d2 inv.se h1 h2 h2 (q2 _ (K.1 _ (hle g2)))
 .simp only[hτ]at g2 h2 h1 q2⊢;rw[IP]at g2;split at g2
  .simp at g2
  .rename_i hne;refine yl l1 l2 d1 d2 inv.se h1 h2 (b2 hs c2 g2 k2) ?_;have:=q2 ⟨put hs.heap i2 (.cells (c2.set o2 (share w2))),hs.next⟩ (hρ _ (hle g2));rw[ajq hsh hne];exact this
def PB {a:Bool}{u:VI}(h:(!a ||Ea a u)=true){F:C_}{st st1:St}(hr:bY r a F u st=some st1):cV r u st=some st1∧(a=true->∃d x,u.dst=some d∧get st1.env d=some x∧L3 x=true):=by
 cases a with
 |false=>exact⟨hr,λh=>by simp at h⟩
 |true =>
  obtain⟨p,_,hop,hth⟩:=MA h;have hn:uU u.op=.take:=by rw[hop];rfl
  simp only[bY,ya,hn]at hr
  grind
def aci {a:Bool}{u:VI}(h:(!a ||Ea a u)=true){F:C_}{st st1:St}(hr:cV r u st=some st1)(ho:a=true->∃d x,u.dst=some d∧get st1.env d=some x∧L3 x=true):bY r a F u st=some st1:=by
 cases a with
 |false=>exact hr
 |true =>
  obtain⟨p,_,hop,hth⟩:=MA h;have hn:uU u.op=.take:=by rw[hop];rfl
  grind [bY,ya]
theorem NC {a:Bool}{u:VI}(h:(!a ||Ea a u)=true)(e:aT)(F:C_):ke a u e F=F:=by
 cases a with
 |false=>rfl
 |true=>grind [arx]
theorem aca {u v:VI}(h:IQ u v=true):∃k1 R1 M1 k2 R2 M2,jY u=some (k1,R1,M1)∧jY v=some (k2,R2,M2)∧(∀k∈M1,k∉M2):=by
 grind [IQ,jA]
theorem amg {a b:Bool}{u v:VI}(h:Y6 a b u v=true){F:C_}{st st1 st2:St}(inv:eq st)(h1:bY r a F u st=some st1)(h2:bY r b (ke a u st.env F) v st1=some st2):RQ r a b u v F st st1 st2:=by
 simp only[Y6,af]at h;obtain⟨⟨ha,hb⟩,h⟩:=h;rw[NC ha]at h2;have fin:(∃st1',bY r b F v st=some st1'∧bY r a F u st1'=some st2)->RQ r a b u v F st st1 st2:=by
  intro ⟨st1',k1,k2⟩;refine⟨st1',k1,by grind [NC],?_⟩
  grind [NC]
 simp only[cZ,af]at h;rcases h with h|⟨hap,h⟩
 .obtain⟨p1,o1⟩:=PB ha h1;obtain⟨p2,o2⟩:=PB hb h2;obtain⟨st1',q1,q2⟩:=ak3 h inv p1 p2;obtain⟨k1,R1,M1,k2,R2,M2,e1,e2,hap⟩:=aca h;obtain⟨en1,hs1⟩:=st1;obtain⟨en1',hs1'⟩:=st1';refine fin ⟨_,aci hb q1 λhn=>?_,aci ha q2 λhn=>?_⟩
  .obtain⟨d,x,hd,hx,ho⟩:=o2 hn;refine⟨d,x,hd,?_,ho⟩;obtain⟨_,_,_,_,_,g,_⟩:=pM e1 en1' hs1' _ q2
   grind [Tk]
  .obtain⟨d,x,hd,hx,ho⟩:=o1 hn;refine⟨d,x,hd,?_,ho⟩;obtain⟨_,_,_,_,_,g,_⟩:=pM e2 en1 hs1 _ p2
   grind [Tk]
 .rcases h with (h|h)|h
  .grind [auZ]
  .have:=agc h.2 hb;subst this;exact fin (aud h.1 h.2 hap inv h1 h2)
  .have:=agc h.1 ha;subst this;exact fin (avm h.1 h.2 hap inv h1 h2)
theorem arl {a:Bool}{i:VI}(h:Ea a i=true):∃R M,jY i=some (.t,R,M):=by
 obtain⟨p,_,hop,hth⟩:=MA h
 simp_all [jY]
theorem af3 {st st1:St}(inv:eq st)(he:cQ st1.env)(hh:st1.hs=st.hs):eq st1:=⟨he,by grind [eq.sh],by grind [eq.fr]⟩
def auQ {u:VI}{j:Nat}{m:Bool}{i d:Nat}(ho:u.op=.ext j m i)(hd:u.dst=some d)(hg:u.guard=none)(ht:u.th=[]){st st1:St}(hs:cQ st.env)(h1:cV r u st=some st1):cQ st1.env:=by
 obtain⟨e,hs0⟩:=st
 grind [M6,cQ.put,IZ]
theorem Vk {a b:Bool}{u v:VI}(h:tp a b u v=true){F:C_}{st st1:St}(hs:cQ st.env)(h1:bY r a F u st=some st1):cQ st1.env:=by
 simp only[tp,af,cH]at h;obtain⟨⟨⟨⟨rfl,rfl⟩,ht1⟩,ht2⟩,h⟩:=h;split at h
 .rename_i j m i l n k d c o1 o2 dd1 dd2 g1 g2;exact auQ o1 dd1 g1 (Je ht1) hs h1
 simp_all
def aso {a b:Bool}{u v:VI}(h:lE a b u v=true)(hk:kS b v=false){F:C_}{st st1:St}(inv:eq st)(h1:bY r a F u st=some st1):eq st1:=by
 simp only[lE,cZ]at h;rcases h with (h|h)|h
 .obtain⟨e,hs⟩:=st;simp only[TS,af,cZ]at h;obtain⟨hap,h⟩:=h;obtain⟨R1,M1,R2,M2,f1,f2,d1,d2⟩:=uK hap;have se:=(kY (r:=r) f1 F e hs _ h1).1 inv.se
  grind [af3,Oo,TZ,agS,Xj]
 .exact af3 inv (Vk h inv.se h1) (Oo (aly h) h1).1
 .simp only[af]at h;obtain⟨_,h⟩:=h;simp only[Y6,af]at h;obtain⟨⟨ha,hb⟩,h⟩:=h;obtain⟨p1,_⟩:=PB ha h1
  grind [aca,Jd,arl,V4]
def aqr {a b:Bool}{u v:VI}(h:lE a b u v=true)(hk:kS b v=true){F:C_}{st st1:St}(hs:cQ st.env)(h1:bY r a F u st=some st1):cQ st1.env:=by
 simp only[lE,cZ]at h;rcases h with (h|h)|h
 .obtain⟨e,hs0⟩:=st;simp only[TS,af]at h;obtain⟨R1,M1,R2,M2,f1,f2,d1,d2⟩:=uK h.1;exact(kY (r:=r) f1 F e hs0 _ h1).1 hs
 all_goals grind [Vk]
def awI {a b:Bool}{u v:VI}(h:lE a b u v=true)(hk:kS b v=true){F:C_}{st st1 st2:St}(hs:cQ st.env)(h1:bY r a F u st=some st1)(h2:bY r b (ke a u st.env F) v st1=some st2):RQ r a b u v F st st1 st2:=by
 grind [lE,XJ,Tw]
def av9 {a b:Bool}{u v:VI}(h:lE a b u v=true){F:C_}{st st1 st2:St}(inv:eq st)(h1:bY r a F u st=some st1)(h2:bY r b (ke a u st.env F) v st1=some st2):RQ r a b u v F st st1 st2:=by
 grind [lE,XJ,eq.se,Tw,amg]
end
abbrev w6:=@List.nodup_cons
inductive Pp (ops:Array Oper):Nat->Nat->Prop
 |one {i:Nat}{o:Oper}{e:Edge}:ops[i]?=some o->e∈o.after->yV e.ground=true->Pp ops i e.on
 |more {i j:Nat}{o:Oper}{e:Edge}:ops[i]?=some o->e∈o.after->yV e.ground=true->Pp ops e.on j->Pp ops i j
def PX {k:Nat}:∀{a l:C_},k∈RH a l->k∈a∨k∈l
 |[],l,h=>.inr h
 |x::r,l,h=>by
  simp only[RH]at h;split at h
  .rcases PX h with h|h<;>simp_all
  .rcases PX h with h|h<;>grind
def Yb (ops:Array Oper)(tab:P_):Prop:=∀i l,get tab i=some l->∀j∈l,Pp ops i j
theorem YX {ops:Array Oper}{tab:P_}(ht:Yb ops tab){i:Nat}{o:Oper}(ho:ops[i]?=some o):∀{es:List Edge},(∀e∈es,e∈o.after)->∀j,j∈Uk tab es->Pp ops i j
 |[],_,j,h=>by simp[Uk]at h
 |e::r,hes,j,h=>by
  simp only[Uk]at h;have hr:=YX ht ho (es:=r) (λx hx=>hes x (.tail _ hx)) j;split at h
  .rename_i hw;rcases PX h with h|h
   .rcases aD.1 h with rfl|h
    .exact .one ho (hes e (.head _)) hw
    .split at h
     .rename_i l hl;exact .more ho (hes e (.head _)) hw (ht _ _ hl _ h)
     simp_all
   simp_all
  simp_all
def VX {ops:Array Oper}:∀{l:C_}{tab:P_},Yb ops tab->Yb ops (J2 ops l tab)
 |[],_,ht=>ht
 |i::l,tab,ht=>by
  simp only[J2];refine VX λk m h j hj=>?_
  rw[ja]at h;split at h
  .grind [YX]
  .exact ht k m h j hj
def amO (anc:P_)(nr:C_)(vs:R_)(j i:Nat):Prop :=
 (uD anc i j=true∨∃u v,vs[j]?=some u∧vs[i]?=some v∧lE (eI j nr) (eI i nr) u v=true)∨(we anc vs i=true∧(∀k,k<vs.length->uD anc k i=true->uD anc k j=true)∧uD anc j i=false)
def YR {anc:P_}{i j:Nat}:∀{n:Nat},ZI anc i j n=true->∀k,k<n->uD anc k i=true->uD anc k j=true
 |0,_,k,hk,_=>by omega
 |n+1,h,k,hk,hd=>by
  simp only[ZI,af,cZ,cH]at h;by_cases e:k=n
  .simp_all
  .exact YR h.2 k o_ hd
def aqB {ops:Array Oper}{anc:P_}(ha:Yb ops anc){k i:Nat}(h:uD anc k i=true):Pp ops k i:=by
 unfold uD at h;split at h
 .rename_i l hl;exact ha _ _ hl _ (uJ.1 h)
 simp_all
structure tO (P:Program)(n:Nat)(ops:Array Oper)(nr:C_)(vs:R_)(perm:C_)(anc:P_):Prop where
 len:vs.length=ops.size
 vi:∀(i:Nat) (v:VI) (o:Oper),vs[i]?=some v->ops[i]?=some o->DO P n ops v o=true
 edge:∀(i:Nat) (o:Oper),ops[i]?=some o->∀e∈o.after,e.on<ops.size∧(txG e.ground=true->e.on<i)
 pair:perm.Pairwise λj i=>amO anc nr vs j i
 path:∀k i,uD anc k i=true->Pp ops k i
 gco:∃gl:C_,(∀i,i<ops.size->i∈gl)∧gl.Pairwise (λj i=>∀o,ops[j]?=some o->∀e∈o.after,YO e.ground=true->e.on≠i)∧∀j∈gl,∀o,ops[j]?=some o->∀e∈o.after,YO e.ground=true->e.on≠j
 nd:perm.Nodup
 lt:∀i∈perm,i<ops.size
 near:∀(i:Nat) (v:VI),eI i nr=true->vs[i]?=some v->uU v.op≠.read∨∃R M,jY v=some (.q,R,M)
 all:∀i,i<ops.size->i∈perm
def Vf {P:Program}{n:Nat}{ops:Array Oper}{k:Nat}:∀{vs:R_}{os:List Oper}{b:Nat},IU P n ops k b vs os=true->vs.length=os.length∧
  ∀(i:Nat) (v:VI) (o:Oper),vs[i]?=some v->os[i]?=some o->DO P n ops v o=true∧∀e∈o.after,e.on<k∧(txG e.ground=true->e.on<b+i)
 |[],[],_,_=>⟨rfl,λi v o h=>by simp at h⟩
 |x::vs,p::os,b,h=>by
  simp only[IU,af]at h;obtain⟨⟨h1,h3⟩,h4⟩:=h;obtain⟨k1,k2⟩:=Vf h4
  grind [Nat.blt_eq]
 |[],_::_,_,h=>by simp[IU]at h
 |_::_,[],_,h=>by simp[IU]at h
def Vd {anc:P_}{nr:C_}{vs:R_}{j:Nat}:∀{l:C_},Ug anc nr vs j l=true->∀i∈l,amO anc nr vs j i
 |[],_,i,hi=>by simp at hi
 |x::r,h,i,hi=>by
  simp only[Ug,af,cZ]at h;rcases aD.1 hi with rfl|hi
  .rcases h.1 with (h|h)|h
   .exact .inl (.inl h)
   .split at h
    .rename_i u v h1 h2;exact .inl (.inr ⟨u,v,h1,h2,h⟩)
    simp_all
   .simp only[cH]at h;exact .inr ⟨h.1.1,YR h.1.2,h.2⟩
  .exact Vd h.2 i hi
def akZ {ops:Array Oper}{j:Nat}{l:C_}(h:af0 ops j l=true):∀i∈l,∀o,ops[j]?=some o->∀e∈o.after,YO e.ground=true->e.on≠i:=by
 grind [af0,uJ]
def ab2 {ops:Array Oper}:∀{l:C_},adS ops l=true->l.Pairwise (λj i=>∀o,ops[j]?=some o->∀e∈o.after,YO e.ground=true->e.on≠i)∧∀j∈l,∀o,ops[j]?=some o->∀e∈o.after,YO e.ground=true->e.on≠j
 |[],_=>⟨.nil,λi hi=>by simp at hi⟩
 |j::r,h=>by
  simp only[adS,af]at h;obtain⟨h0,h4⟩:=h;obtain⟨k4,k5⟩:=ab2 h4;have hw:=akZ h0
  simp_all
def Vy {ops:Array Oper}{anc:P_}{nr:C_}{vs:R_}:∀{l:C_},TD ops anc nr vs l=true->l.Pairwise (λj i=>amO anc nr vs j i)∧
  l.Nodup∧∀i∈l,i<vs.length
 |[],_=>⟨.nil,.nil,λi hi=>by simp at hi⟩
 |j::r,h=>by
  simp only[TD,af,cH]at h;obtain⟨⟨⟨h1,h2⟩,h3⟩,h4⟩:=h;obtain⟨k1,k2,k3⟩:=Vy h4;refine⟨.cons (Vd h1) k1,w6.2 ⟨λhm=>?_,k2⟩,λi hi=>?_⟩
  all_goals grind [uJ,Nat.blt_eq]
theorem Sq {l:C_}:∀{n:Nat},Xv l n=true->∀i,i<n->i∈l
 |0,_,i,hi=>by omega
 |n+1,h,i,hi=>by
  simp only[Xv,af]at h;rcases bD i n with h1|h1
  .exact Sq h.2 i h1
  grind [uJ]
def abD {vs:R_}:∀{nr:C_},adO vs nr=true->∀(i:Nat) (v:VI),eI i nr=true->vs[i]?=some v->uU v.op≠.read∨∃R M,jY v=some (.q,R,M)
 |[],_,i,v,h,_=>by simp[eI]at h
 |j::r,h,i,v,hg,hv=>by
  simp only[adO,af]at h;rcases aD.1 (uJ.1 hg) with e|hm
  .grind [JP,V2]
  .exact abD h.2 i v (uJ.2 hm) hv
def ava {P:Program}{n:Nat}{ops:Array Oper}{gco nr:C_}{vs:R_}{perm:C_}(h:Jz P n ops perm gco nr vs=true):tO P n ops nr vs perm (J2 ops perm []):=by
 simp only[Jz,af]at h;obtain⟨⟨⟨⟨⟨h1,hnr⟩,hga⟩,hg⟩,h2⟩,h3⟩:=h;obtain⟨g1,g2⟩:=ab2 hg;obtain⟨k1,k2⟩:=Vf h1;have hl:vs.length=ops.size:=o_;have ha:Yb ops (J2 ops perm []):=VX λi l h=>by simp[CI]at h
 obtain⟨q1,q2,q3⟩:=Vy h3;have hget:∀(i:Nat) (o:Oper),ops[i]?=some o->ops.toList[i]?=some o:=λi o h=>by simp_all
 refine⟨hl,λi v o hv ho=>(k2 i v o hv (hget i o ho)).1,λi o ho e he=>?_,q1,λk i h=>aqB ha h,⟨gco,λi hi=>Sq hga i o_,g1,g2⟩,q2,λi hi=>by simp_all,abD hnr,λi hi=>?_⟩
 .have hi:i<vs.length:=by
   grind
  have:=(k2 i vs[i] o s_ (hget i o ho)).2 e he
  simp_all
 grind [Sq]
abbrev uc:=@List.Sublist.append_left
abbrev wc:=@List.sublist_cons_self
section
variable {P:Program}{r:dF}
theorem ahc {g:Gh}{w:World}:∀{l:ak}{O:Nat->Nat},Ep P g w l O->∀{id:Nat}{o:Obj},get l id=some o->∃b,g.obj id=some b
 |[],_,_,id,o,h=>by simp[CI]at h
 |(k,v)::l,O,rh,id,o,h=>by
  obtain⟨Q1,Q2,q1,q2,_⟩:=rh;rw[ja]at h;split at h
  .cases v<;>grind [kh]
  .exact ahc q2 h
def S.heap_fresh {g:Gh}{w:World}{t:G_}{O:Nat->Nat}{st:St}(s:S P g w st t O){id:Nat}(h:st.hs.next<=id):get st.hs.heap id=none:=by
 obtain⟨Oe,Oh,re,rh,ho⟩:=s.parts
 cases hg:get st.hs.heap id<;>grind [ahc,fresh]
def NO {nr:C_}{i:Nat}{F:C_}{v:VI}{st st1:St}(hn:eI i nr=true->uU v.op≠.read∨∃R M,jY v=some (.q,R,M))(hsrt:cQ st.env)(h:bY r (eI i nr) F v st=some st1):cV r v st=some st1:=by
 obtain⟨e,hs⟩:=st
 cases hg:eI i nr with
 |false=>rw[hg]at h;exact h
 |true =>
  rcases hn hg with h1|⟨R,M,h1⟩
  .exact ajZ (R:=[]) (M:=[]) hsrt (.inr (.inl h1)) h
  grind [ajZ]
theorem Vi {nr:C_}{vs:R_}{i:Nat}{v:VI}(hv:vs[i]?=some v)(hk:kS (eI i nr) v=true){l2:C_}:∀{l1:C_}{F:C_}{st st':St},(∀j∈l1,∃u,vs[j]?=some u∧lE (eI j nr) (eI i nr) u v=true)->cQ st.env->
  fP r nr vs (l1++i::l2) F st=some st'->fP r nr vs (i::(l1++l2)) F st=some st'
 |[],F,st,st',_,_,h=>h
 |j::l1,F,st,st',hj,inv,h=>by
  obtain⟨u,hu,hm⟩:=hj j (.head _);simp only[aK,fP,hu]at h;split at h
  .simp at h
  .rename_i st1 h1;have h2:=Vi hv hk (λk hk=>hj k (.tail _ hk)) (aqr hm hk inv h1) h;simp only[fP,hv]at h2;split at h2
   .simp at h2
   .rename_i st2 h3;obtain⟨st1',k1,k2,k3⟩:=awI hm hk inv h1 h3
    grind [fP,Wq]
theorem VJ {nr:C_}{vs:R_}{i:Nat}{v:VI}(hv:vs[i]?=some v)(hk:kS (eI i nr) v=false){l2:C_}:∀{l1:C_}{F:C_}{st st':St},(∀j∈l1,∃u,vs[j]?=some u∧lE (eI j nr) (eI i nr) u v=true)->eq st->
  fP r nr vs (l1++i::l2) F st=some st'->fP r nr vs (i::(l1++l2)) F st=some st'
 |[],F,st,st',_,_,h=>h
 |j::l1,F,st,st',hj,inv,h=>by
  obtain⟨u,hu,hm⟩:=hj j (.head _);simp only[aK,fP,hu]at h;split at h
  .simp at h
  .rename_i st1 h1;have h2:=VJ hv hk (λk hk=>hj k (.tail _ hk)) (aso hm hk inv h1) h;simp only[fP,hv]at h2;split at h2
   .simp at h2
   .rename_i st2 h3;obtain⟨st1',k1,k2,k3⟩:=av9 hm inv h1 h3
    grind [fP,Wq]
def Vx {nr:C_}{vs:R_}{i:Nat}{v:VI}(hv:vs[i]?=some v){l2 l1:C_}{F:C_}{st st':St}(hj:∀j∈l1,∃u,vs[j]?=some u∧lE (eI j nr) (eI i nr) u v=true)(inv:eq st)
  (h:fP r nr vs (l1++i::l2) F st=some st'):fP r nr vs (i::(l1++l2)) F st=some st':=by
 cases hk:kS (eI i nr) v<;>grind [Vi,eq.se,VJ]
theorem aaR {α:Type}:∀{l:List (Nat×α)},cQ l->∀{p:Nat×α},p∈l->get l p.1=some p.2
 |[],_,p,hp=>by simp at hp
 |(k,v)::r,hs,p,hp=>by
  rw[ja];rcases aD.1 hp with rfl|hp
  .simp
  .have h1:=(bN.1 hs).1 p hp;have:k≠p.1:=(Il.ne h1).symm;rw[aa this];exact aaR (bN.1 hs).2 hp
def Zx {anc:P_}{d:Nat}{l:C_}{i:Nat}:∀{vs:R_}{b:Nat},YM anc d l i b vs=true->∀k v,vs[k]?=some v->b+k≠i->uD anc (b+k) i=true∨∃R M,kO v=some (R,M)∧d∉M∧(uD anc i (b+k)=true∨∀q∈l,q∉M)
 |[],_,_,k,v,h,_=>by simp at h
 |x::r,b,h,k,v,hv,hne=>by
  simp only[YM,af,cZ]at h
  cases k with
  |zero =>
   grind [Nat.beq_eq,jA,uJ]
  |succ k =>
   have:=Zx h.2 k v hv (by omega)
   grind
theorem ID {v:VI}{d:Nat}(h:iI v=some d):(∃zs,v=⟨some d,none,.alloc zs,[]⟩)∨∃z l c th,v=⟨some d,none,.mkslice z l c,th⟩∧BH l=true∧BH c=true:=by
 obtain⟨dst,gd,op,th⟩:=v
 grind [iI]
theorem BO {v:VI}{d:Nat}(h:iI v=some d):v.dst=some d∧v.guard=none∧v.op≠.bad:=by
 grind [ID]
def yU {anc:P_}{vs:R_}{i:Nat}(h:we anc vs i=true):∃v d,vs[i]?=some v∧iI v=some d∧(∀k u,vs[k]?=some u->k≠i->uD anc k i=true∨∃R M,kO u=some (R,M)∧d∉M∧(uD anc i k=true∨∀q∈BS v,q∉M))∧∀j,uD anc i j=true->we anc vs j=false:=by
 unfold we at h;split at h
 .rename_i v hv;split at h
  .rename_i d hd;simp only[af]at h;refine⟨v,d,hv,hd,λk u hk hne=>by simpa using Zx h.1 k u hk o_,λj hj=>?_⟩
   grind [uD,uJ,we]
  simp_all
 simp_all
theorem anx {v:VI}{k:Eq}{R M:C_}(h:jY v=some (k,R,M)):kO v=some (R,M):=by grind [kO]
theorem ab1 {a b:Bool}{u v:VI}(h:lE a b u v=true)(hne:tp a b u v=false):∃R1 M1 R2 M2,kO u=some (R1,M1)∧kO v=some (R2,M2)∧(∀k∈M1,k∉R2∧k∉M2)∧∀k∈M2,k∉R1:=by
 have sub:∀{a:Bool}{v:VI}{R M:C_},BY a v=some (R,M)->∃R',kO v=some (R',M)∧∀k∈R',k∈R:=λ{a v R M} h=>by
  grind [BY]
 have ap:GC a b u v=true->∃R1 M1 R2 M2,kO u=some (R1,M1)∧kO v=some (R2,M2)∧(∀k∈M1,k∉R2∧k∉M2)∧∀k∈M2,k∉R1:=λh=>by
  grind [uK]
 grind [lE,TS,Y6,IQ,anx,jA]
theorem Zo {a b:Bool}{u v:VI}{d:Nat}(hu:iI u=some d):tp a b u v=false∧tp b a v u=false:=by
 grind [ID,tp]
theorem YT {v:VI}{d:Nat}(hv:iI v=some d){R M:C_}(h:kO v=some (R,M)):∀q∈BS v,q∈R:=by
 rcases ID hv with ⟨zs,rfl⟩|⟨z,l,c,th,rfl,_,_⟩
 .grind [BS]
 .intro q hq
  cases th with
  |nil =>
   simp only[kO,jY,MI,FH,ae,aM]at h;rw[<-h.1];exact cK _ hq
  |cons p th =>
   simp only[kO,jY,MI,FH,ae,aM]at h;rw[<-h.1];exact cK _ hq
def alF {a b:Bool}{u v:VI}{d:Nat}(h:lE a b u v=true)(hu:iI u=some d):∃R M,kO v=some (R,M)∧∀q∈d::BS u,q∉M:=by
 grind [ab1,Zo,GY,BO,YT]
def YG {a b:Bool}{u v:VI}{d:Nat}(h:lE a b u v=true)(hv:iI v=some d):∃R M,kO u=some (R,M)∧∀q∈d::BS v,q∉M:=by
 grind [ab1,Zo,GY,BO,YT]
def ajf {e e':aT}{x:Rd}(hs:BH x=true)(h:∀q∈qd x,get e' q=get e q){v:AV}{e1:aT}(hr:rd e x=some (v,e1)):e1=e∧rd e' x=some (v,e'):=by
 cases x with
 |s i =>
  have hi:=h i (by simp[qd]);simp only[rd]at hr⊢;split at hr<;>simp_all
 |m i=>simp[BH]at hs
 |c u =>
  grind [rd]
def ajj {z:V_}{l c:Rd}{st st2:St}{a:AV}{st1:St}(hl:BH l=true)(hc:BH c=true)(h:∀q∈bW [l,c],get st2.env q=get st.env q)(hr:mS z l c st=some (a,st1)):st1=st∧mS z l c st2=some (a,st2):=by
 unfold mS at hr⊢;split at hr
 .rename_i n e hn;obtain⟨rfl,h1⟩:=ajf hl (λq hq=>h q (by simp[bW,hq])) hn;split at hr
  .rename_i m e2 hm;obtain⟨rfl,h2⟩:=ajf hc (λq hq=>h q (by simp[bW,hq])) hm;split at hr
   .split at hr
    .obtain⟨rfl,rfl⟩:=hr
     simp_all
    simp_all
   simp_all
  simp_all
 simp_all
inductive Er (g:Gh) (w:World) (st:St) (d:Nat):VI->Value->(Nat->Nat)->Prop
 |var {zs:D_}{b:Nat}{c:G_}{el:TypeId}:pP zs c.toList=true->w.heap[b]?=some (.cells c el (0,0))->(∀o,¬g.pm b o)->Er g w st d ⟨some d,none,.alloc zs,[]⟩ (.pointer (some ⟨b,0,none⟩)) (one b)
 |list {z:V_}{l c:Rd}{th:Q_}{a:AV}{x:Value}{A:Nat->Nat}:BH l=true->BH c=true->mS z l c st=some (a,st)->RV g w a x A->Er g w st d ⟨some d,none,.mkslice z l c,th⟩ x A
structure alv (g:Gh)(w:World)(t:G_)(O:Nat->Nat)(st:St)(anc:P_)(vs:R_)(i:Nat)(A:Nat->Nat):Prop where
 late:we anc vs i=true
 hi:∀b,A b≠0->b<w.heap.size
 le:∀b,A b+O b<=1
 it:∃v d x,vs[i]?=some v∧d<t.size∧t[d]?=some x∧Er g w st d v x A
def Er.dst {g:Gh}{w:World}{st:St}{d:Nat}{v:VI}{x:Value}{A:Nat->Nat}(h:Er g w st d v x A):iI v=some d:=by
 cases h<;>grind [iI]
def Er.keep {g g':Gh}{w w':World}{st st':St}{d:Nat}{v:VI}{x:Value}{A:Nat->Nat}{T:Nat->Prop}(h:Er g w st d v x A)(hx:bI g w g' w' T)(hA:∀b,A b≠0->b<w.heap.size∧¬T b)
  (he:∀q∈BS v,get st'.env q=get st.env q):Er g' w' st' d v x A:=by
 cases h with
 |var h1 h2 h3 =>
  rename_i zs b c el;have hb:=hA b s_;obtain⟨b1,b2⟩:=hx.blk b hb.1 hb.2;exact .var h1 (b1.trans h2) λo ho=>h3 o (b2 o ho)
 |list h1 h2 h3 h4=>exact .list h1 h2 (ajj h1 h2 he h3).2 (RV.ext hx _ _ _ h4 λb hb=>(hA b hb).2)
def S.adopt {g:Gh}{w:World}{t:G_}{O:Nat->Nat}{st:St}{zs:D_}{d b:Nat}{c:G_}{el:_}(s:S P g w st t O)(hb:b<w.heap.size)(h0:O b=0)(hp:∀o,¬g.pm b o)(hz:pP zs c.toList=true)
  (hh:w.heap[b]?=some (.cells c el (0,0)))(hd:d<t.size)(ht:t[d]?=some (.pointer (some ⟨b,0,none⟩))) :
  ∃g' O',S P g' w ⟨put st.env d (.ptr st.hs.next 0),⟨put st.hs.heap st.hs.next (.cells zs),st.hs.next+1⟩⟩ t O'∧bI g w g' w (λ_=>False)∧(∀x,x≠b->O' x<=O x)∧g'.pm=g.pm:=by
 have hn:=s.fresh st.hs.next (ai _)
 have hx:bI g w (g.add st.hs.next b 0 1 zs.length) w (λ_=>False):=(bI.refl g w _).add hn _ _ _ _;have hfr:=s.heap_fresh (ai st.hs.next);obtain⟨Oe,Oh,re,rh,ho⟩:=s.parts;have re':=kt.ext hx re s_;have rh':Ep P (g.add st.hs.next b 0 1 zs.length) w st.hs.heap Oh:=rh.imp' λk v O1 _ _ q=>q.ext hx s_ (by simp)
 have hk:∀p∈st.hs.heap,p.1≠st.hs.next:=by
  intro p hp e
  grind [aaR,sh]
 have r:kh P (g.add st.hs.next b 0 1 zs.length) w st.hs.next (.cells zs) (λx=>zero x+one b x):=by
  exact⟨b,c,el,zero,by simp[Gh.add],by simp[Gh.add],by simp[Gh.add],by simp[Gh.add],hh,RVs.consts hz,λo ho=>hp o ho,λ_=>rfl⟩
 rw[<-ua hk]at rh';obtain⟨O3,r3,h3⟩:=RL.put s.sh rh' r;have hle:∀x,one b x+O x<=1:=λx=>by
  by_cases e:x=b
  .simp_all
  .have:=s.le x;grind [one]
 have s1:S P (g.add st.hs.next b 0 1 zs.length) w ⟨st.env,⟨put st.hs.heap st.hs.next (.cells zs),st.hs.next+1⟩⟩ t (λx=>one b x+O x):=by
  refine⟨s.se,s.sh.put _ _,⟨Oe,O3,re',r3,λx=>?_⟩,hle,λx hxx=>?_,λi hi=>?_,s.pmlt⟩
  .grind
  .by_cases e:x=b
   .omega
   .exact s.hi x (by grind [one])
  grind [Gh.add,fresh]
 have rv:RV (g.add st.hs.next b 0 1 zs.length) w (.ptr st.hs.next 0) (.pointer (some ⟨b,0,none⟩)) zero:=by
  simp_all [RV,Gh.add]
 obtain⟨O4,s4,l4⟩:=s1.setTmp hd rv (λx=>by simp_all) (λx hx=>by simp at hx);have htt:t.setIfInBounds d (.pointer (some ⟨b,0,none⟩))=t:=by
  grind
 rw[htt]at s4;exact⟨_,O4,s4,hx,λx hne=>by
  grind [one],rfl⟩
def S.setOther {g:Gh}{w:World}{t:G_}{O:Nat->Nat}{st:St}(s:S P g w st t O){d:Nat}(hd:get st.env d=none)(x:Value):S P g w st (t.setIfInBounds d x) O:=by
 obtain⟨Oe,Oh,re,rh,ho⟩:=s.parts;refine⟨s.se,s.sh,⟨Oe,Oh,re.imp' λk v O1 hm _ q=>?_,rh,ho⟩,s.le,s.hi,s.fresh,s.pmlt⟩;have hk:d≠k:=by
  rintro rfl
  have:=aaR s.se hm
  simp_all
 refine⟨u_,?_⟩;have:(t.setIfInBounds d x).getD k undef=t.getD k undef:=by
  simp_all
 grind
def Er.make {g:Gh}{w:World}{t:G_}{O:Nat->Nat}{st st1:St}{d:Nat}{v:VI}{x:Value}{A:Nat->Nat}(h:Er g w st d v x A)(s:S P g w st t O)(hle:∀b,A b+O b<=1)(hhi:∀b,A b≠0->b<w.heap.size)(hd:d<t.size)(ht:t[d]?=some x)
  (hr:cV r v st=some st1):∃g' O',S P g' w st1 t O'∧bI g w g' w (λb=>A b≠0∨O b≠0)∧(∀b,O' b<=A b+O b):=by
 cases h with
 |var h1 h2 h3 =>
  rename_i zs b c el;have h9:st1=⟨put st.env d (.ptr st.hs.next 0),⟨put st.hs.heap st.hs.next (.cells zs),st.hs.next+1⟩⟩:=by
   grind [cV,gy,di,MF,Jf,cM,firm]
  have hob:O b=0:=by have:=hle b;simp at this;omega
  obtain⟨g',O',s',x',l',_⟩:=s.adopt (hhi b s_) hob h3 h1 h2 hd ht;rw[<-h9]at s';refine⟨g',O',s',x'.mono λ_ _ h=>h.elim,λq=>?_⟩;by_cases e:q=b
  .have:=s'.le q;simp_all
  grind
 |list h1 h2 h3 h4 =>
  rename_i z l c th a;obtain⟨v',st2,hv,rfl⟩:=Uu hr;simp only[di]at hv;rw[h3]at hv;obtain⟨rfl,rfl⟩:=hv;obtain⟨g2,Ov2,O2,r2,s2,x2,l2⟩:=L9 (P:=P) (t:=t) th (env:=st.env) (hs:=st.hs) s h4 hle hhi;have hle2:∀b,Ov2 b+O2 b<=1:=λb=>aP (l2 b) (hle b)
  obtain⟨g3,r3,s3,x3⟩:=afR s2 r2 hle2;obtain⟨O4,s4,l4⟩:=s3.setTmp hd r3 hle2 λb hb=>by
   grind [S.hi]
  have htt:t.setIfInBounds d x=t:=by
   grind
  rw[htt]at s4;exact⟨g3,O4,s4,(x2.mono (T:=λb=>A b≠0∨O b≠0) λ_ _ h=>h.elim).trans x3 λb _ hb=>by grind,λb=>by grind⟩
structure atf (ops:Array Oper)(nr:C_)(vs:R_)(anc:P_)(m:Region.Mode)(listed:BD_)(rem:C_)(pd:Nat->BA_):Prop where
 pair:rem.Pairwise λj i=>amO anc nr vs j i
 nd:rem.Nodup
 lt:∀i∈rem,i<ops.size
 size:listed.size=ops.size
 mem:∀i,i<ops.size->(i∈rem↔(listed.getD i true=false∨(pd i).isSome=true))
 pdl:∀i b,pd i=some b->i<ops.size∧listed.getD i false=true
 closed:∀i o,listed.getD i false=true->ops[i]?=some o->∀e∈o.after,Region.binds m e=true->listed.getD e.on false=true
structure Cf (P:Program)(r:dF)(n:Nat)(ops:Array Oper)(nr:C_)(vs:R_)(anc:P_)(m:Region.Mode)(listed:BD_)(g0:Gh)(w0:World)(t0:G_)(O0:Nat->Nat)(st':St)
  (rem:C_)(pd:Nat->BA_)(F:C_)(g:Gh)(w:World)(t:G_)(O:Nat->Nat)(st:St):Prop where
 left:atf ops nr vs anc m listed rem pd
 n:t.size=n
 s:S P g w st t O
 abs:∀i∈rem,∀v d,vs[i]?=some v->iI v=some d->we anc vs i=true->get st.env d=none
 pend:∀i A,pd i=some A->alv g w t O st anc vs i A
 disj:∀i j A B,i≠j->pd i=some A->pd j=some B->∀b,A b+B b<=1
 base:gS P g0 w0 t0 O0 st t w g O
 old:∀i A,pd i=some A->∀b,b<w0.heap.size->A b+O b<=O0 b
 le0:∀b,O0 b<=1
 run:fP r nr vs rem F st=some st'
def Y5:∀{l:C_},l≠[]->∃i∈l,∀j∈l,i<=j
 |[],h=>absurd rfl h
 |[x],_=>⟨x,.head _,λj hj=>by simp_all⟩
 |x::y::r,_=>by
  obtain⟨i,hi,hm⟩:=Y5 (l:=y::r) (by simp)
  grind
def wA {ops:Array Oper}{m:Region.Mode}{listed:BD_}(hc:∀i o,listed.getD i false=true->ops[i]?=some o->∀e∈o.after,Region.binds m e=true->listed.getD e.on false=true){i j:Nat}
  (hp:Pp ops i j):(∀o,ops[i]?=some o->∀e∈o.after,Region.binds m e=true->listed.getD e.on false=true)->listed.getD j false=true:=by
 induction hp<;>grind [ZP]
def arE {P:Program}{n:Nat}{ops:Array Oper}{nr:C_}{vs:R_}{perm:C_}{anc:P_}(hok:tO P n ops nr vs perm anc){m:Region.Mode}{listed:BD_}(hsz:listed.size=ops.size){un:C_}
  (hun:∀i,i∈un↔i<ops.size∧listed.getD i true=false)(hrem:un≠[]) :
  ((List.range ops.size).filter λi=>!listed.getD i true && ((ops[i]?).map (·.after.all λe=>!Region.binds m e ||listed.getD e.on false)).getD false)≠[]∧
  ∀i,i∈((List.range ops.size).filter λi=>!listed.getD i true && ((ops[i]?).map (·.after.all λe=>!Region.binds m e ||listed.getD e.on false)).getD false)↔
   i<ops.size∧listed.getD i true=false∧∃o,ops[i]?=some o∧∀e∈o.after,Region.binds m e=true->listed.getD e.on false=true:=by
 have hmu:∀i,i<ops.size->(i∈un↔listed.getD i true=false):=λi hi=>⟨λh=>((hun i).1 h).2,λh=>(hun i).2 ⟨hi,h⟩⟩
 have hlt0:∀i,i∈un->i<ops.size:=λi h=>((hun i).1 h).1
 generalize hrs:((List.range ops.size).filter λi=>!listed.getD i true && ((ops[i]?).map (·.after.all λe=>!Region.binds m e ||listed.getD e.on false)).getD false)=rs;have hmem:∀i,i∈rs↔i<ops.size∧listed.getD i true=false∧∃o,ops[i]?=some o∧∀e∈o.after,Region.binds m e=true->listed.getD e.on false=true:=by
  grind [Array.all_eq_true_iff_forall_mem]
 have hlist:∀k,k<ops.size->k∉un->listed.getD k false=true:=λk hen hnot=>by
  simp_all
 have ready:∀i∈un,(∀e∈(ops[i]?).toList.flatMap (λo=>o.after.toList),Region.binds m e=true->e.on∉un)->i∈rs:=λi hi he=>by
  have hin:=hlt0 i hi;refine(hmem i).2 ⟨hin,(hmu i hin).1 hi,ops[i],by simp[hin],λe hem hb=>?_⟩;have hen:=(hok.edge i ops[i] (by simp[hin]) e hem).1
  simp_all
 have hne:rs≠[]:=by
  by_cases hm:m=.gc
  .obtain⟨gl,ga,gt,gs⟩:=hok.gco;have hl:gl.filter (λi=>decide (i∈un))≠[]:=by
    obtain⟨i,hi⟩:=List.exists_mem_of_ne_nil un hrem;exact List.ne_nil_of_mem (List.mem_filter.2 ⟨ga i (hlt0 i hi),e_⟩)
   cases hc:gl.filter (λi=>decide (i∈un)) with
   |nil=>simp_all
   |cons i rest =>
    have hmm0:∀k,k∈i::rest↔k∈gl∧k∈un:=λk=>by grind
    have him:=(hmm0 i).1 (.head _);have hpw:(i::rest).Pairwise (λj i=>∀o,ops[j]?=some o->∀e∈o.after,YO e.ground=true->e.on≠i):=e_;have:i∈rs:=ready i him.2 λe he hb hmm=>by
     have hg:YO e.ground=true:=by
      unfold Region.binds at hb
      grind [YO]
     grind [List.pairwise_cons]
    grind
  .obtain⟨i,hir,hmin⟩:=Y5 hrem;have hi:=hlt0 i hir;have:i∈rs:=ready i hir λe he hb hmm=>by
    simp[hi]at he;have hg:txG e.ground=true:=by
     unfold Region.binds at hb
     grind [txG]
    have h1:=(hok.edge i ops[i] (by simp[hi]) e he).2 hg
    grind
   grind
 simp_all
def Wv {listed:BD_}{i:Nat}(hi:i<listed.size)(k:Nat)(b:Bool):(listed.setIfInBounds i true).getD k b=if i=k then true else listed.getD k b:=by
 simp only[gD,ge]
 grind
theorem Gl {listed:BD_}{i:Nat}(hi:i<listed.size):listed.getD i true=listed.getD i false:=by
 simp_all
variable {n:Nat}{ops:Array Oper}{nr:C_}{vs:R_}{perm:C_}{anc:P_}{m:Region.Mode}{listed:BD_}{g0:Gh}{w0:World}{t0:G_}{O0:Nat->Nat}{st':St}
def Cf.flush (hok:tO P n ops nr vs perm anc){l1 l2:C_}{j:Nat}{A:Nat->Nat}{pd:Nat->BA_}{F:C_}{g:Gh}{w:World}{t:G_}{O:Nat->Nat}{st:St}
  (c:Cf P r n ops nr vs anc m listed g0 w0 t0 O0 st' (l1++j::l2) pd F g w t O st)(hj:pd j=some A)(hp:∀x∈l1,∃u v,vs[x]?=some u∧vs[j]?=some v∧lE (eI x nr) (eI j nr) u v=true) :
  ∃F' g' O' st1,Cf P r n ops nr vs anc m listed g0 w0 t0 O0 st' (l1++l2) (λi=>if i=j then none else pd i) F' g' w t O' st1:=by
 have pj:=c.pend j A hj;obtain⟨v,d,x,h1,h4,h5,hk⟩:=pj.it;have hdst:=hk.dst;have hjn:=(c.left.pdl j A hj).1;have inv:eq st:=⟨c.s.se,c.s.sh,λid hid=>c.s.heap_fresh hid⟩
 have hsw:∀x∈l1,∃u,vs[x]?=some u∧lE (eI x nr) (eI j nr) u v=true:=λx hx=>by
  simp_all
 have h6:=Vx h1 hsw inv c.run;simp only[fP,h1]at h6;split at h6
 .simp at h6
 .rename_i st1 h7;have h8:cV r v st=some st1:=NO (λhw=>hok.near j _ hw h1) c.s.se h7;obtain⟨g',O',s',x',l'⟩:=hk.make c.s pj.le pj.hi h4 h5 h8;have hsub:(l1++l2).Sublist (l1++j::l2):=uc (wc j l2) l1;have hnd:=c.left.nd;have hjl:j∉l1++l2:=λhm=>by
   grind
  have hfoot:∀i,i∈l1++l2->we anc vs i=true->∀u q,vs[i]?=some u->iI u=some q->∀k∈q::BS u,get st1.env k=get st.env k:=λi hi hl u q hu hq k hkm=>by
   have hij:i≠j:=λe=>hjl (e▸hi)
   obtain⟨u2,q2,k1,k2,k3,k4⟩:=yU hl;obtain⟨R,M,f1,f0,f2⟩:=(k3 j v h1 (λe=>hij e.symm)).resolve_left (λhdj=>by
    obtain⟨_,_,_,_,_,hno⟩:=yU pj.late
    simp_all)
   obtain⟨e1,hs1'⟩:=st;refine(Cw f1 e1 hs1' st1 h8).2.1 k ?_
   grind [alv.late]
  have hmem:∀i B,i≠j->pd i=some B->i∈l1++l2:=λi B e hi=>by
   have:=(c.left.mem i (c.left.pdl i B hi).1).2 (.inr u_)
   simp_all
  refine⟨_,g',O',st1,⟨⟨c.left.pair.sublist hsub,hnd.sublist hsub,λk hk=>c.left.lt k (hsub.subset hk),c.left.size,λk hk=>?_,λi b' hi=>?_,c.left.closed⟩,c.n,s',λi hi u q hu hq hl=>?_,λi B hi=>?_,λi k B C hik hi hk=>?_,?_,λi B hi b hb=>?_,c.le0,h6⟩⟩
  .have hold:=c.left.mem k hk;by_cases e:k=j
   .subst e;have hl:=(c.left.pdl k A hj).2
    grind
   simp_all
  .by_cases e:i=j
   .simp_all
   .simp only[e,bS]at hi;exact c.left.pdl i b' hi
  .rw[hfoot i hi hl u q hu hq q (.head _)]
   grind [abs]
  .by_cases e:i=j
   .simp_all
   .simp only[e,bS]at hi;have p:=c.pend i B hi;obtain⟨u,q,y,k1,k2,k3,k4⟩:=p.it;have hd:=c.disj i j B A e hi hj;exact⟨p.late,p.hi,λb=>by have:=l' b;have:=p.le b;have:=hd b;have:=pj.le b;omega,u,q,y,k1,k2,k3,
     k4.keep x' (λb hb=>⟨p.hi b hb,λh=>by have:=hd b;have:=p.le b;omega⟩) λk hkm=>hfoot i (hmem i B e hi) p.late u q k1 k4.dst k (.tail _ hkm)⟩
  .by_cases e:i=j
   .simp_all
   .by_cases e2:k=j
    .simp_all
    .simp only[e,e2,bS]at hi hk;exact c.disj i k B C hik hi hk
  .refine⟨s',c.base.ext.trans x' λb hb h=>?_,λb hb=>?_,c.base.size⟩
   .have:=c.old j A hj b hb;omega
   .exact aP (l' b) (c.old j A hj b hb)
  .by_cases e:i=j
   .simp_all
   .simp only[e,bS]at hi;have q1:=c.old i B hi b hb;have q2:=c.old j A hj b hb;have q3:=c.disj i j B A e hi hj b
    grind
def Cf.flush_all (hok:tO P n ops nr vs perm anc):∀{rem:C_}{pd:Nat->BA_}{F:C_}{g:Gh}{w:World}{t:G_}{O:Nat->Nat}{st:St},
  Cf P r n ops nr vs anc m listed g0 w0 t0 O0 st' rem pd F g w t O st->(∀i∈rem,(pd i).isSome=true)->∃g' O',gS P g0 w0 t0 O0 st' t w g' O'
 |[],pd,F,g,w,t,O,st,c,_=>by
  have h:=c.run;simp only[fP,ae]at h;subst h;exact⟨g,O,c.base⟩
 |j::rem,pd,F,g,w,t,O,st,c,hall=>by
  obtain⟨b,hb⟩:=iC.1 (hall j (.head _));obtain⟨F',g',O',st1,c'⟩:=Cf.flush (l1:=[]) hok c hb (λx hx=>by simp at hx);have hnd:=c.left.nd;exact Cf.flush_all hok c' λi hi=>by
   grind
def Cf.flush_for (hok:tO P n ops nr vs perm anc){i:Nat}(hil:listed.getD i true=false)(hnl:we anc vs i=false){o:Oper}(ho:ops[i]?=some o)(hready:∀e∈o.after,Region.binds m e=true->listed.getD e.on false=true) :
  ∀{k:Nat}{l1 l2:C_},l1.length=k->∀{pd:Nat->BA_}{F:C_}{g:Gh}{w:World}{t:G_}{O:Nat->Nat}{st:St},
  Cf P r n ops nr vs anc m listed g0 w0 t0 O0 st' (l1++i::l2) pd F g w t O st->
  ∃l1' pd' F' g' O' st1,Cf P r n ops nr vs anc m listed g0 w0 t0 O0 st' (l1'++i::l2) pd' F' g' w t O' st1∧(∀j∈l1',∃u v,vs[j]?=some u∧vs[i]?=some v∧lE (eI j nr) (eI i nr) u v=true)∧(l1'.filter λq=>!listed.getD q true)=(l1.filter λq=>!listed.getD q true):=by
 intro k
 induction k with
 |zero =>
  grind
 |succ k ih =>
  intro l1 l2 hk pd F g w t O st c;have hpw:=dh.1 c.left.pair;have hin:i<ops.size:=c.left.lt i s_;have hlist:∀a q,a<ops.size->Pp ops a q->listed.getD a false=true∨a=i->listed.getD q false=true:=λa q ha hpa hla=>by
   refine wA c.left.closed hpa λo' ho'=>?_
   rcases hla with h|h
   .exact c.left.closed a o' h ho'
   simp_all
  by_cases hex:∃j∈l1,uD anc i j=true
  .
   obtain⟨la,j,lb,hl1,hdj,hfirst⟩:∃la j lb,l1=la++j::lb∧uD anc i j=true∧∀x∈la,uD anc i x=false:=by
    clear ih hk c hpw
    induction l1 with
    |nil=>simp_all
    |cons x l1 ihl =>
     by_cases hx:uD anc i x=true
     .exact⟨[],x,l1,rfl,hx,λy hy=>by simp at hy⟩
     .obtain⟨la,j,lb,h1,h2,h3⟩:=ihl (by
       simp_all)
      grind
   subst hl1;have hjm:j∈(la++j::lb)++i::l2:=s_;have hjn:=c.left.lt j hjm;have hjl:=hlist i j hin (hok.path i j hdj) (.inr rfl);have hjp:∃b,pd j=some b:=by
    rcases (c.left.mem j hjn).1 hjm with h|h<;>grind [Option.isSome_iff_exists]
   obtain⟨b,hb⟩:=hjp;have hlate:=(c.pend j b hb).late;obtain⟨_,_,_,_,_,hnoanc⟩:=yU hlate;have hpj:=dh.1 hpw.1;have hpass:∀x∈la,∃u v,vs[x]?=some u∧vs[j]?=some v∧lE (eI x nr) (eI j nr) u v=true:=λx hx=>by
    have hxm:x∈(la++j::lb)++i::l2:=by simp[hx]
    have hxn:=c.left.lt x hxm;rcases hpj.2.2 x hx j (.head _) with (h|h)|h
    .
     have hxl:=hlist j x hjn (hok.path j x h) (.inl hjl);rcases (c.left.mem x hxn).1 hxm with h2|h2
     .grind
     .obtain⟨b2,hb2⟩:=iC.1 h2;have:=(c.pend x b2 hb2).late
      simp_all
    all_goals grind [tO.len]
   have c0:Cf P r n ops nr vs anc m listed g0 w0 t0 O0 st' (la++j::(lb++i::l2)) pd F g w t O st:=u_;obtain⟨F',g',O',st1,c'⟩:=Cf.flush hok c0 hb hpass
   grind
  .refine⟨l1,pd,F,g,O,st,c,λj hj=>?_,rfl⟩;rcases hpw.2.2 j hj i (.head _) with (h|h)|h<;>grind
def afj (hok:tO P n ops nr vs perm anc){i:Nat}{v:VI}{d:Nat}(hv:vs[i]?=some v)(hd:iI v=some d):∀{l1 l2 F:C_}{st:St},cQ st.env->(∀k∈l1,∀u,vs[k]?=some u->∃R M,kO u=some (R,M)∧∀q∈d::BS v,q∉M)->
  fP r nr vs (l1++i::l2) F st=some st'->∃st1 st2,cV r v st1=some st2∧∀q∈d::BS v,get st1.env q=get st.env q
 |[],l2,F,st,hsrt,_,h=>by
  simp only[az,fP,hv]at h;split at h
  .simp at h
  .rename_i st1 h1;exact⟨st,st1,NO (λhw=>hok.near i _ hw hv) hsrt h1,λ_ _=>rfl⟩
 |k::l1,l2,F,st,hsrt,hl,h=>by
  simp only[aK,fP]at h;split at h
  .simp at h
  .rename_i u hu;split at h
   .simp at h
   .rename_i st1 h1;have h2:cV r u st=some st1:=NO (λhw=>hok.near k _ hw hu) hsrt h1;obtain⟨R,M,f1,f2⟩:=hl k (.head _) u hu;obtain⟨e1,hs1⟩:=st;obtain⟨k1,k2,_⟩:=Cw f1 e1 hs1 st1 h2;obtain⟨sa,sb,q1,q2⟩:=afj hok hv hd (k1 hsrt) (λk hk=>hl k (.tail _ hk)) h
    grind
def ak2 {g:Gh}{w:World}{t:G_}{O:Nat->Nat}{zs:D_}{o:Oper}(s:S P g w st' t O)(hc:bw P (.alloc zs) o.op=true) :
  ∃(c:G_) (el:_),pP zs c.toList=true∧(execOp (ev t) o).run P w=.ok (.value (.pointer (some ⟨w.heap.size,0,none⟩))) (w.alloc (.cells c el))∧bI g w g (w.alloc (.cells c el)) (λ_=>False):=by
 obtain⟨dst,op,ty,pos,aft,gd⟩:=o;simp only[bw]at hc;split at hc
 .rename_i e;split at hc
  .split at hc
   .rename_i z hz;exact⟨z.cells,e,hc,by simp_all [execOp,Instr.alloc,zeroValue,typeInfo,newVar,newRow],bI.alloc s.pmlt _ _ (by grind [gR])⟩
   simp_all
  simp_all
 simp_all
def aoi {ro:J_}{g:Gh}{w:World}{t:G_}{O:Nat->Nat}{st:St}{v:VI}{d:Nat}{o:Oper}(s:S P g w st t O)(hd:iI v=some d)(hc:bw P v.op o.op=true)
  (hmk:∀z l c th,v=⟨some d,none,.mkslice z l c,th⟩->BH l=true->BH c=true->∃a,mS z l c st=some (a,st))(ds:List Deferred)(next:Act->World->Prop)(Q:Exit->Act->World->Prop)
  (hn:∀w1 x g1 O1 A,S P g1 w1 st t O1->bI g w g1 w1 (λb=>O b≠0)->(∀b,b<w.heap.size->A b+O1 b<=O b)->(∀b,A b+O1 b<=1)->(∀b,A b≠0->b<w1.heap.size)->Er g1 w1 st d v x A->next (Act.put ⟨t,ds⟩ o.dst x) w1) :
  o.uponIn (FR ro) 0 P ⟨t,ds⟩ next Q ((execOp (ev t) o).run P w):=by
 rcases ID hd with ⟨zs,rfl⟩|⟨z,l,c,th,rfl,hl,hc2⟩
 .obtain⟨cc,el,hz,hrun,hx⟩:=ak2 s hc;rw[hrun];have hobn:O w.heap.size=0:=by
   by_cases h:O w.heap.size=0
   .exact h
   .have:=s.hi _ h;omega
  refine hn _ _ g O (one w.heap.size) (s.extF hx rfl λb o' hp=>by have:=s.pmlt b o' hp;grind [World.size_alloc]) (hx.mono λ_ _ h=>h.elim) (λb hb=>?_) (λb=>?_) (λb hb=>?_) (.var hz (jR _ _) λo' hp=>?_)
  .grind [one]
  .by_cases e:b=w.heap.size
   .simp_all
   .have:=s.le b;grind [one]
  .grind [xT,World.size_alloc]
  .have:=s.pmlt _ o' hp;omega
 .obtain⟨a,ha⟩:=hmk z l c th rfl hl hc2;exact(Xy s ha hc).opW ds next Q λx w' g' Oa O' k=>hn _ _ g' O' Oa k.st k.ext k.old k.le k.hi (.list hl hc2 ha k.val)
def auU {ro:J_}(hr:iB P r)(hcs:jh P r)(hok:tO P n ops nr vs perm anc){Q:Exit->Act->World->Prop}(ds:List Deferred)
  (hq:∀w' t' g' O',gS P g0 w0 t0 O0 st' t' w' g' O'->Q .normal ⟨t',ds⟩ w') :
  ∀{fuel:Nat}{listed:BD_}{tt:Nat}{rem:C_}{pd:Nat->BA_}{F:C_}{g:Gh}{w:World}{t:G_}{O:Nat->Nat}{st:St},
   Cf P r n ops nr vs anc m listed g0 w0 t0 O0 st' rem pd F g w t O st->(rem.filter λi=>!listed.getD i true).length=fuel->wpOpsIn (FR ro) 0 P ops Q (Region.linearise.go m ops fuel tt listed []) ⟨t,ds⟩ w:=by
 intro fuel
 induction fuel with
 |zero =>
  intro listed tt rem pd F g w t O st c hf;have hnil:=aI hf;have hall:∀i∈rem,(pd i).isSome=true:=λi hi=>by
   have hin:=c.left.lt i hi;rcases (c.left.mem i hin).1 hi with h|h<;>simp_all
  obtain⟨g',O',G⟩:=Cf.flush_all hok c hall;exact hq _ _ _ _ G
 |succ fuel ih =>
  intro listed tt rem pd F g w t O st c hf;unfold Region.linearise.go;simp only;have hun:∀i,i∈(rem.filter λi=>!listed.getD i true)↔i<ops.size∧listed.getD i true=false:=λi=>by
   rw[List.mem_filter,cH];exact⟨λh=>⟨c.left.lt i h.1,h.2⟩,λh=>⟨(c.left.mem i h.1).2 (.inl h.2),h.2⟩⟩
  obtain⟨hne,hmem⟩:=arE (m:=m) hok c.left.size hun e_;generalize hrs:((List.range ops.size).filter λi=>!listed.getD i true && ((ops[i]?).map (·.after.all λe=>!Region.binds m e ||listed.getD e.on false)).getD false)=rs at hne hmem;have hlen:0<rs.length:=bG.2 hne;have hlt:=gK tt hlen;rw[co hlt];simp only;generalize hi:rs[tt % rs.length]=i;have hirs:i∈rs:=e_;obtain⟨hin,hil,o,ho,hready⟩:=(hmem i).1 hirs;have hirem:i∈rem:=(c.left.mem i hin).2 (.inl hil);have hsz:i<listed.size:=e_;have hvl:i<vs.length:=by grind [tO.len]
  have hv:vs[i]?=some vs[i]:=s_;have hacc:=linearise_go_acc m ops fuel (tt / rs.length) (listed.setIfInBounds i true) [i];rw[hacc];simp only[uj,List.reverse_nil,az,aK,wpOpsIn,ho];have hclosed:∀k o',(listed.setIfInBounds i true).getD k false=true->ops[k]?=some o'->∀e∈o'.after,Region.binds m e=true->(listed.setIfInBounds i true).getD e.on false=true:=by
   intro k o' hk ho' e he hb;rw[Wv hsz]at hk⊢;split
   .rfl
   .by_cases e1:i=k
    .simp_all
    .rw[aa e1]at hk;exact c.left.closed k o' hk ho' e he hb
  have hcount:∀{l1 l2:C_},rem=l1++i::l2->∀{l1':C_},(l1'.filter λi=>!listed.getD i true)=(l1.filter λi=>!listed.getD i true)->i∉l1'->i∉l2->((l1'++l2).filter λq=>!(listed.setIfInBounds i true).getD q true).length=fuel:=by
   intro l1 l2 hrem l1' hl1 hn1 hn2;have h1:∀l:C_,i∉l->(l.filter λq=>!(listed.setIfInBounds i true).getD q true)=l.filter λq=>!listed.getD q true:=λl hl=>List.filter_congr λq hq=>by
    rw[Wv hsz,aa (λe=>hl u_)]
   grind
  cases hl:we anc vs i with
  |true =>
   obtain⟨v,d,hvi,hdv,hfree,hnoanc⟩:=yU hl;have hchk:=hok.vi i _ o hvi ho;simp only[DO,af]at hchk;obtain⟨⟨hdst,hgd⟩,hop⟩:=hchk;obtain⟨hd1,hd2,hd3⟩:=BO hdv;have hgn:o.guard=none:=by
    grind [E7]
   have hod:o.dst=some d∧d<n:=by
    rw[hd1]at hdst;split at hdst<;>grind [Nat.beq_eq,Nat.blt_eq]
   have hw:Region.wanted o (yielded ops t)=true:=by grind [Region.wanted]
   rw[ac hw];refine⟨λ_ _=>trivial,?_⟩;rw[Qd _ _ (QD hd3 hop)];have habs:=c.abs i hirem v d hvi hdv hl;obtain⟨l1,l2,hrem⟩:=sD hirem;have hapl:∀k∈l1,∀u,vs[k]?=some u->∃R M,kO u=some (R,M)∧∀q∈d::BS v,q∉M:=λk hk u hu=>by
    have hkm:k∈rem:=u_;have hkn:=c.left.lt k hkm;have hne:k≠i:=λe=>by
     have hnd:=c.left.nd
     grind
    have hpr:=c.left.pair;rw[hrem]at hpr;have hnk:uD anc i k=true->False:=λh=>by
     have hkl:=wA c.left.closed (hok.path i k h) λo' ho'=>by
      simp_all
     rcases (c.left.mem k hkn).1 hkm with h2|h2
     .grind [Gl]
     .obtain⟨b2,hb2⟩:=iC.1 h2;have:=(c.pend k b2 hb2).late
      simp_all
    rcases (dh.1 hpr).2.2 k hk i (.head _) with (h|⟨u',v',a1,a2,a3⟩)|h
    .simp_all
    .rw[hu]at a1;rw[hvi]at a2;simp only[ae]at a1 a2;subst a1 a2;exact YG a3 hdv
    .obtain⟨R,M,f1,f2,f3⟩:=(hfree k u hu hne).resolve_left (λhd=>by simp_all)
     grind
   have hrun0:=c.run;rw[hrem]at hrun0;obtain⟨sa,sb,hsa,hsq⟩:=afj hok hvi hdv c.s.se hapl hrun0;refine aoi (ro:=ro) c.s hdv hop (λz l c' th e hl1 hl2=>?_) ds _ Q λw1 x g1 O1 A hs1 hx1 hold1 hle1 hhi1 hpk=>?_
   .subst e;simp only[cV]at hsa;obtain⟨v',st2,hv',_⟩:=Uu hsa;simp only[di]at hv';exact⟨v',(ajj hl1 hl2 (λq hq=>(hsq q (List.mem_cons_of_mem _ hq)).symm) hv').2⟩
   .rw[Ze,hod.1];have hdn:d<t.size:=by grind [Cf.n]
    have hs2:=hs1.setOther habs x;have ht1:xN t (some d) x=t.setIfInBounds d x:=by grind [Act.put]
    rw[ht1];have hgt:∀q,q≠d->(t.setIfInBounds d x)[q]?=t[q]?:=λq hqd=>by
     grind
    have hwle:w0.heap.size<=w.heap.size:=c.base.ext.size;have hO1:∀b,b<w.heap.size->O1 b<=O b:=λb hb=>by grind
    have hO1':∀b,O1 b<=1:=λb=>by grind
    refine ih (rem:=rem) (pd:=λq=>if q=i then some A else pd q) (F:=F) (g:=g1) (O:=O1) (st:=st) ⟨⟨c.left.pair,c.left.nd,c.left.lt,by simp[c.left.size],λk hk=>?_,λk b hk=>?_,hclosed⟩,by simp[c.n],hs2,c.abs,λk B hk=>?_,λk q B C hkq hk hq'=>?_,?_,λk B hk b hb=>?_,c.le0,c.run⟩ ?_
    .rw[Wv hsz];by_cases e:i=k
     .simp_all
     .have e':¬k=i:=λh=>e h.symm
      simp only[e,e',bS];exact c.left.mem k hk
    .rw[Wv hsz];by_cases e:k=i
     .simp_all
     .simp only[e,bS]at hk;have:=c.left.pdl k b hk
      simp_all
    .by_cases e:k=i
     .subst e;simp only[bR,ae]at hk;subst hk;refine⟨hl,hhi1,hle1,v,d,x,hvi,by simp[hdn],?_,hpk⟩
      simp_all
     .simp only[e,bS]at hk;have q:=c.pend k B hk;obtain⟨u,d',y,h1,h4,h5,h6⟩:=q.it;have hdd:d'≠d:=by
       obtain⟨R,M,f1,f2,_⟩:=(hfree k _ h1 e).resolve_left (λhdk=>by
        obtain⟨_,_,_,_,_,hno⟩:=yU q.late
        simp_all)
       intro h;exact f2 (h▸GY f1 (BO h6.dst).1)
      exact⟨q.late,λb hb=>aW (q.hi b hb) hx1.size,λb=>by
       by_cases hb:b<w.heap.size
       .have:=q.le b;grind
       grind [alv.hi],u,d',y,h1,u_,(hgt d' hdd).trans h5,
       h6.keep hx1 (λb hb=>⟨q.hi b hb,λh=>by have:=q.le b;omega⟩) λ_ _=>rfl⟩
    .have key:∀k B,k≠i->pd k=some B->∀b,A b+B b<=1:=λk B e hk b=>by
      have q:=c.pend k B hk;by_cases hb:b<w.heap.size
      .have:=q.le b;grind
      grind [alv.hi]
     intro b;by_cases e:k=i
     .have e2:q≠i:=λh=>hkq (e.trans h.symm)
      simp only[e,e2,bR,bS,ae]at hk hq';subst hk;exact key q C e2 hq' b
     .by_cases e2:q=i
      .simp only[e,e2,bR,bS,ae]at hk hq';subst hq';have:=key k B e hk b;omega
      .simp only[e,e2,bS]at hk hq';exact c.disj k q B C hkq hk hq' b
    .exact⟨hs2,c.base.ext.trans hx1 λb hb h=>by have:=c.base.old b hb;omega,λb hb=>aP (hO1 b o_) (c.base.old b hb),by simp[c.base.size]⟩
    .by_cases e:k=i
     .simp only[e,bR,ae]at hk;subst hk;have:=hold1 b o_;have:=c.base.old b hb;omega
     .simp only[e,bS]at hk;have:=c.old k B hk b hb;grind
    .have hnd:=c.left.nd;rw[hrem]at hnd;have hnd':=List.nodup_append.1 hnd;have hn1:i∉l1:=λh=>hnd'.2.2 i h i (.head _) rfl
     have hn2:i∉l2:=(w6.1 hnd'.2.1).1;have:=hcount hrem rfl hn1 hn2;rw[hrem,List.filter_append,List.filter_cons_of_neg (by rw[Wv hsz,ac rfl];simp),<-List.filter_append];exact this
  |false =>
   obtain⟨l1,l2,hrem⟩:=sD hirem;rw[hrem]at c;obtain⟨l1',pd',F',g',O',st1,c1,hpass,hfl⟩:=Cf.flush_for hok hil hl ho hready rfl c;have hsw:∀j∈l1',∃u,vs[j]?=some u∧lE (eI j nr) (eI i nr) u vs[i]=true:=λj hj=>by
    simp_all
   have inv:eq st1:=⟨c1.s.se,c1.s.sh,λid hid=>c1.s.heap_fresh hid⟩
   have h2:=Vx hv hsw inv c1.run;simp only[fP,hv]at h2;split at h2
   .simp at h2
   .rename_i st2 h3N;have h3:cV r vs[i] st1=some st2:=NO (λhw=>hok.near i _ hw hv) c1.s.se h3N;have hnd:=c1.left.nd;have hnd':=List.nodup_append.1 hnd;have hn1:i∉l1':=λh=>hnd'.2.2 i h i (.head _) rfl
    have hn2:i∉l2:=(w6.1 hnd'.2.1).1;have hsub:(l1'++l2).Sublist (l1'++i::l2):=uc (wc i l2) l1';have hpdi:pd' i=none:=by
     cases h:pd' i with
     |none=>rfl
     |some b =>
      have:=(c1.left.pdl i b h).2;rw[<-Gl hsz,hil]at this;simp at this
    have hapart:∀k∈l1'++l2,we anc vs k=true->∀u d,vs[k]?=some u->iI u=some d->∃R M,kO vs[i]=some (R,M)∧d∉M∧(listed.getD k false=true->∀q∈BS u,q∉M):=λk hk hlk u0 d hvk hdk=>by
     have hki:i≠k:=λe=>by rw[e,hlk]at hl;simp at hl
     obtain⟨u2,d2,k1,kd,k2,_⟩:=yU hlk;rw[hvk]at k1;simp only[ae]at k1;subst k1;rw[hdk]at kd;simp only[ae]at kd;subst kd;rcases k2 i _ hv hki with hd|hd
     .rcases bj.1 hk with hk1|hk1
      .obtain⟨u,v,a1,a2,a3⟩:=hpass k hk1;rw[hvk]at a1;rw[hv]at a2;simp only[ae]at a1 a2;subst a1 a2;obtain⟨R,M,f1,f2⟩:=alF a3 hdk;exact⟨R,M,f1,f2 _ (.head _),λ_ q hq=>f2 q (.tail _ hq)⟩
      .have hkm:k∈l1'++i::l2:=by simp[hk1]
       have hkn:=c1.left.lt k hkm;have hkl:listed.getD k false=true:=wA c1.left.closed (hok.path i k hd) λo' ho'=>by
        rw[ho]at ho';simp only[ae]at ho';subst ho';exact hready
       have hif:listed.getD i false=false:=by rw[<-Gl hsz];exact hil
       have hpw:=(bN.1 (dh.1 c1.left.pair).2.1).1 k hk1;rcases hpw with (h|⟨u,v,a1,a2,a3⟩)|h
       .have:=wA c1.left.closed (hok.path k i h) λo' ho'=>c1.left.closed k o' hkl ho'
        rw[hif]at this;simp at this
       .rw[hvk]at a2;rw[hv]at a1;simp only[ae]at a1 a2;subst a1 a2;obtain⟨R,M,f1,f2⟩:=YG a3 hdk;exact⟨R,M,f1,f2 _ (.head _),λ_ q hq=>f2 q (.tail _ hq)⟩
       .have hii:=h.2.1 i hvl hd;have:=wA c1.left.closed (hok.path i i hii) λo' ho'=>by
         rw[ho]at ho';simp only[ae]at ho';subst ho';exact hready
        rw[hif]at this;simp at this
     .obtain⟨R,M,f1,f2,f3⟩:=hd;refine⟨R,M,f1,f2,λhkl=>f3.resolve_left λhki=>?_⟩;have hif:listed.getD i false=false:=by rw[<-Gl hsz];exact hil
      have:=wA c1.left.closed (hok.path k i hki) λo' ho'=>c1.left.closed k o' hkl ho'
      rw[hif]at this;simp at this
    refine ake (ro:=ro) hr hcs c1.n c1.s h3 (hok.vi i _ o hv ho) ds _ Q λt' w' g2 O2 G hT=>?_
    refine ih (rem:=l1'++l2) (pd:=pd') ⟨⟨c1.left.pair.sublist hsub,hnd.sublist hsub,λk hk=>c1.left.lt k (hsub.subset hk),by simp[c1.left.size],λk hk=>?_,λk b hk=>?_,hclosed⟩,by rw[G.size,c1.n],G.st,λk hk u d hvk hdk hlk=>?_,λk B hk=>?_,c1.disj,c1.base.trans G,λk B hk b hb=>?_,c1.le0,h2⟩ ?_
    .have hold:=c1.left.mem k hk;rw[Wv hsz];by_cases e:i=k
     .subst e;simp only[bR,mz,hpdi,Option.isSome_none,aq,or_self,iff_false];intro hm;rcases bj.1 hm with h|h
      .exact hn1 h
      .exact hn2 h
     .simp only[e,bS];rw[<-hold];simp only[bj,aD];constructor
      .rintro (h|h)
       .exact .inl h
       .exact .inr (.inr h)
      .rintro (h|h|h)
       .exact .inl h
       .exact absurd h.symm e
       .exact .inr h
    .have:=c1.left.pdl k b hk;refine⟨this.1,?_⟩;rw[Wv hsz];split
     .rfl
     .exact this.2
    .have h0:=c1.abs k (hsub.subset hk) u d hvk hdk hlk;obtain⟨R,M,f1,f2,_⟩:=hapart k hk hlk u d hvk hdk;obtain⟨e1,hs1'⟩:=st1;have:=(Cw f1 e1 hs1' st2 h3).2.1 d f2;rw[this];exact h0
    .have hki:i≠k:=λe=>by rw[<-e,hpdi]at hk;simp at hk
     have hkm:k∈l1'++i::l2:=(c1.left.mem k (c1.left.pdl k B hk).1).2 (.inr (by rw[hk];rfl));have hkm':k∈l1'++l2:=by
      rcases bj.1 hkm with h|h
      .exact cK _ h
      .rcases aD.1 h with h|h
       .exact absurd h.symm hki
       .exact dK _ h
     have q:=c1.pend k B hk;obtain⟨u,d,y,h1,h4,h5,h6⟩:=q.it;obtain⟨R,M,f1,f0,f2⟩:=hapart k hkm' q.late u d h1 h6.dst;have f2:=f2 (c1.left.pdl k B hk).2;have hdd:vs[i].dst≠some d:=λe=>f0 (GY f1 e)
     refine⟨q.late,λb hb=>aW (q.hi b hb) G.ext.size,λb=>?_,u,d,y,h1,by rw[G.size];exact h4,(hT d hdd).trans h5,h6.keep G.ext (λb hb=>⟨q.hi b hb,λh=>by have:=q.le b;omega⟩) λp hp=>?_⟩
     .by_cases hb:b<w.heap.size
      .have:=q.le b;have:=G.old b hb;omega
      .have:B b=0:=by
        by_cases h:B b=0
        .exact h
        .exact absurd (q.hi b h) hb
       have:=G.st.le b;omega
     .obtain⟨e1,hs1'⟩:=st1;exact(Cw f1 e1 hs1' st2 h3).2.1 p (f2 p hp)
    .have:=c1.old k B hk b hb;have:=G.old b (aW hb c1.base.ext.size);omega
    .
     exact hcount hrem hfl hn1 hn2
def Vc {e:aT}:∀{vs:R_},tz e vs=true->∀(i:Nat) (v:VI) (d:Nat),vs[i]?=some v->iI v=some d->get e d=none
 |[],_,i,v,d,h,_=>by simp at h
 |u::r,hl,i,v,d,h,hd=>by
  simp only[tz,af]at hl
  cases i with
  |zero =>
   grind
  |succ i =>
   exact Vc hl.2 i v d h hd
def aop {g:Gh}{w:World}{t:G_}{O:Nat->Nat}{st st':St}{ro:J_}(hr:iB P r)(hcs:jh P r){n:Nat}{ops:Array Oper}{gco nr:C_}{vs:R_}{perm:C_}(ds:List Deferred)(h:Jz P n ops perm gco nr vs=true){Q:Exit->Act->World->Prop}{id:Nat}(hn:t.size=n)
  (s:S P g w st t O)(habs:tz st.env vs=true)(hrun:fP r nr vs perm [] st=some st')(hq:∀w' t' g' O',gS P g w t O st' t' w' g' O'->Q .normal ⟨t',ds⟩ w'):(Code.region id ops true).wpIn (FR ro) 0 P Q ⟨t,ds⟩ w:=by
 have hok:=ava h;refine wpIn_region_draw λtt=>?_
 have hx:bI g w g w.drew λ_=>False:=bI.drew _ _ _
 have sd:=s.extF hx rfl s.pmlt;have hleft:∀m,atf ops nr vs (J2 ops perm []) m (Array.replicate ops.size false) perm (λ_=>none):=λm=>by
  refine⟨hok.pair,hok.nd,hok.lt,s_,λi hi=>?_,λi b hi=>by simp at hi,λi o hi=>?_⟩
  .have:=hok.all i hi
   simp_all
  .simp[Array.getD]at hi
 have hlen:(perm.filter λi=>!(Array.replicate ops.size false).getD i true).length=ops.size:=by
  have h0:(perm.filter λi=>!(Array.replicate ops.size false).getD i true)=perm:=List.filter_eq_self.2 λi hi=>by
   have:=hok.lt i hi
   simp_all
  have h1:perm.Perm (List.range ops.size):=by
   grind [tO.nd,List.nodup_range,tO.all]
  rw[h0,h1.length_eq];simp
 have key:∀m tt,wpOpsIn (FR ro) 0 P ops Q (Region.linearise m ops tt) ⟨t,ds⟩ w.drew:=λm tt =>
  auU (ro:=ro) (m:=m) hr hcs hok ds (g0:=g) (w0:=w.drew) (t0:=t) (O0:=O) (st':=st') (λw' t' g' O' G=>hq _ _ _ _ ⟨G.st,(hx.mono (T:=λb=>O b≠0) λ_ _ h=>h.elim).trans G.ext λ_ _ h=>h,G.old,G.size⟩)
   ⟨hleft m,hn,sd,λi hi v d hv hd _=>Vc habs i v d hv hd,λi b hi=>by simp at hi,λi j A B _ hi=>by simp at hi,gS.refl sd,λi b hi=>by simp at hi,sd.le,hrun⟩ hlen
 unfold Region.schedule;split<;>simp_all
end
abbrev ta:=@StepsIn.trans
def ND (ro:J_)(P:Program)(c:Code)(Q:Exit->Act->World->Prop)(a:Act)(w:World):Prop :=
 ∀(b:Frame) (k:List Item) (cs:List Frame),b.roundOf=ro->∃e a' w',Q e a' w'∧ArrivesIn (Machine.fenced P (FR ro)) P (lone (b.atR a (.inLoop c::k)) cs w) b k cs e a' w'
def GB (ro:J_)(P:Program)(body cur:Code)(Q:Exit->Act->World->Prop)(a:Act)(w:World):Prop :=
 ∀(b:Frame) (k:List Item) (cs:List Frame),b.roundOf=ro->∃e a' w',Q e a' w'∧ArrivesIn (Machine.fenced P (FR ro)) P (lone (b.atR a (.code cur::.inScope body::k)) cs w) b k cs e a' w'
section
variable {P:Program}{ro:J_}{Q:Exit->Act->World->Prop}{a:Act}{w:World}
def KZ {ro:J_}(m:Machine):Machine.fenced P (FR ro) m:=fenced_wide P m
def XS {c:Code}(h:c.wpIn (FR ro) 0 P (Exit.then (ND ro P c Q) Q) a w):ND ro P c Q a w∧(Code.loop c).wpIn (FR ro) 0 P Q a w:=by
 have key:∀(b:Frame) (k:List Item) (cs:List Frame),b.roundOf=ro->∃e a' w',Q e a' w'∧ArrivesIn (Machine.fenced P (FR ro)) P (lone (b.atR a (.code c::.inLoop c::k)) cs w) b k cs e a' w':=by
  intro b k cs hro;obtain⟨e,a₁,w₁,hq,harr⟩:=h b (.inLoop c::k) cs hro trivial (aat _ _)
  cases e with
  |normal =>
   obtain⟨e₂,a₂,w₂,hq₂,harr₂⟩:=hq b k cs hro;exact⟨e₂,a₂,w₂,hq₂,.of_steps harr harr₂⟩
  |exit id=>exact⟨_,a₁,w₁,hq,.pass (x:=.inLoop c) rfl (λ_ _=>.inl s_) harr⟩
  |goto l=>exact⟨_,a₁,w₁,hq,.pass (x:=.inLoop c) rfl (λ_ _=>.inl s_) harr⟩
  |ret=>exact⟨_,a₁,w₁,hq,.pass (x:=.inLoop c) rfl (λ_ _=>.inl s_) harr⟩
  |panic ch=>exact⟨_,a₁,w₁,hq,.pass (x:=.inLoop c) rfl (λ_ _=>.inl s_) harr⟩
  |outgrown=>exact⟨_,a₁,w₁,hq,.pass (x:=.inLoop c) rfl (λ_ _=>.inl s_) harr⟩
 refine⟨λb k cs hro=>?_,λb k cs hro _ _=>?_⟩
 .obtain⟨e,a',w',hq,harr⟩:=key b k cs hro;exact⟨e,a',w',hq,.of_steps (.one (KZ _) stepR_inLoop) harr⟩
 .obtain⟨e,a',w',hq,harr⟩:=key b k cs hro;exact⟨e,a',w',hq,.of_steps (.one (KZ _) stepR_loop) harr⟩
def Exit.scope (ro:J_)(P:Program)(body:Code)(Q:Exit->Act->World->Prop):Exit->Act->World->Prop
 |.goto l,a,w=>match findLabel body l with
  |some rest=>GB ro P body rest Q a w
  |none=>Q (.goto l) a w
 |e,a,w=>Q e a w
def aib {body cur:Code}(h:cur.wpIn (FR ro) 0 P (Exit.scope ro P body Q) a w):GB ro P body cur Q a w:=by
 intro b k cs hro;obtain⟨e,a₁,w₁,hq,harr⟩:=h b (.inScope body::k) cs hro trivial (aat _ _)
 cases e with
 |normal=>exact⟨.normal,a₁,w₁,hq,ta harr (.one (KZ _) (step_lone_go (by simp[stepG,stepG.exec,Frame.atR])))⟩
 |exit id =>
  have hx:exitTo id (.inScope body::k)=exitTo id k:=by simp[exitTo]
  exact⟨_,a₁,w₁,hq,λk' hk=>harr.1 k' u_,λhr hk=>harr.2 hr u_⟩
 |goto l =>
  have hx:gotoIn l (.inScope body::k)=match findLabel body l with|some rest=>some (.code rest::.inScope body::k)|none=>gotoIn l k:=by
   grind [gotoIn]
  simp only[Exit.scope]at hq
  cases hf:findLabel body l with
  |some rest =>
   rw[hf]at hq hx;obtain⟨e₂,a₂,w₂,hq₂,harr₂⟩:=hq b k cs hro;exact⟨e₂,a₂,w₂,hq₂,.of_steps (harr.1 _ hx) harr₂⟩
  |none =>
   rw[hf]at hq hx;exact⟨_,a₁,w₁,hq,λk' hk=>harr.1 k' u_,λhr hk=>harr.2 hr u_⟩
 |ret=>exact⟨_,a₁,w₁,hq,harr⟩
 |panic ch=>exact⟨_,a₁,w₁,hq,harr⟩
 |outgrown=>exact⟨_,a₁,w₁,hq,harr⟩
def am0 {body:Code}(h:GB ro P body body Q a w):(Code.scope body).wpIn (FR ro) 0 P Q a w:=by
 intro b k cs hro _ _;obtain⟨e,a',w',hq,harr⟩:=h b k cs hro;exact⟨e,a',w',hq,.of_steps (.one (KZ _) (step_lone_go (by simp[stepG,stepG.exec,Frame.atR]))) harr⟩
end
def aoC {P:Program}{n:Nat}{v:VC}{c:Code}(h:Mt P n v c)(l:Nat) :
  match xr v l with
  |some x=>∃y,findLabel c l=some y∧Mt P n x y
  |none=>findLabel c l=none:=by
 have hgh:∀{a:VC},xX a=true->xr a l=none:=by
  intro a
  induction a<;>grind [xX,xr]
 induction h with
 |ghostL h1 h2 ih=>grind [xr]
 |@ghostR a b c h1 h2 ih =>
  simp only[xr,hgh h1]
  cases hf:xr a l with
  |none=>simp_all
  |some x =>
   simp only[hf]at ih⊢;obtain⟨y,hy,hm⟩:=ih;exact⟨y,hy,.ghostR h1 hm⟩
 |@seq a b c d h1 h2 ih1 ih2 =>
  simp only[xr]
  cases hf:xr a l with
  |some x =>
   simp only[hf]at ih1⊢;obtain⟨y,hy,hm⟩:=ih1;exact⟨.seq y d,by grind [findLabel],.seq hm h2⟩
  |none =>
   grind [findLabel]
 |@label k =>
  simp only[xr,findLabel];by_cases e:k=l
  .subst e;simp[Mt.skip]
  grind [Nat.beq_eq]
 |_=>grind [xr,findLabel]
section
variable {P:Program}{g:Gh}{w:World}{t:G_}{O:Nat->Nat}{st st':St}{a:AV}{o:Oper}{r:dF}
def ags:∀{vs:D_}{i:Nat},∀p∈kK i vs,i<=p.1
 |[],_,p,hp=>by simp[kK]at hp
 |v::vs,i,p,hp=>by
  rcases abd hp with rfl|hp
  .omega
  .have:=ags p hp;omega
def SB:∀(vs:D_) (i:Nat),cQ (kK i vs)
 |[],_=>List.Pairwise.nil
 |v::vs,i=>(SB vs (i+1)).put _ _
def amB {t:G_}{i:Nat}{x:Value}(h:t[i]?=some x):i<t.size:=by
 grind
def acl {t:G_}:∀{vs:D_}{xs:M_}{i:Nat}{Ov:Nat->Nat},RVs g w vs xs Ov->(∀(j:Nat) (x:Value),xs[j]?=some x->t[i+j]?=some x)->kt g w (kK i vs) t Ov
 |[],xs,i,Ov,rv,_=>by exact rv.2
 |v::vs,xs,i,Ov,rv,ht=>by
  obtain⟨x,ys,O1,O2,rfl,r1,r2,hs⟩:=rv;have h0:t[i]?=some x:=ht 0 x rfl;have rr:=acl (t:=t) (i:=i+1) r2 λj y hj=>by have:=ht (j+1) y u_;grind
  rw[<-ua (l:=kK (i+1) vs) (i:=i) λp hp=>by have:=ags p hp;omega]at rr;obtain⟨O,ro,ho⟩:=RL.put (SB vs (i+1)) rr (i:=i) (x:=v) (O1:=O1) ⟨amB h0,u_⟩;have e:O=Ov:=funext λb=>by simp_all
  exact e▸ro
def auJ {args:D_}{hs:HS}{xs:M_}{Oa Oh:Nat->Nat}(rv:RVs g w args xs Oa)(sh:S P g w ⟨[],hs⟩ #[] Oh)(hle:∀b,Oa b+Oh b<=1)(hhi:∀b,Oa b≠0->b<w.heap.size)(n:Nat) :
  S P g w ⟨kK 0 args,hs⟩ (xs.toArray++Array.replicate n undef) λb=>Oa b+Oh b:=by
 refine S.join (SB _ _) (acl rv λj x hj=>?_) sh hle hhi
 grind
def bI.deferBlk {b:Nat}{ds ds':Option (List Deferred)}(hb:w.heap[b]?=some (.deferred ds)):bI g w g (Vm.setBlk w b (.deferred ds')) λx=>x=b where
 obj _ _ h:=⟨h,rfl,rfl,rfl⟩
 pm b' o h:=⟨h,by
  grind [World.cell?,eW,iq]⟩
 blk b' _ h:=⟨iq h,λ_ h=>h⟩
 size:=s_
 lp b' r h:=⟨r,by grind [iq]⟩
 same:=⟨rfl,rfl,BP hb (by grind [gR]) (by grind [gR])⟩
def J5 {b:Nat}(h:w.heap[b]?=some (.deferred (some []))):(Instr.takeDeferred b).run P w=.ok [] (setBlk w b (.deferred none)):=by
 simp_all [Instr.takeDeferred,getObj,setObj,Sem.run,setBlk]
def Xx {ro:J_}{fn:Func}{tmps:G_}{R:Ending->World->Prop}{lo:Nat}:∀{ms:List Deferred}{w:World},j8 w O lo ms->S P g w st t O->
  (∀w',S P g w' st t O->bI g w g w' (λb=>lo<=b)->∃v,(results fn tmps).run P w'=.ok v w'∧R (.returned v) w')->LeavesInM (FR ro) 0 P fn tmps R ms .returning w
 |[],w,_,s,h=>h w s (.refl _ _ _)
 |d::ds,w,⟨⟨r,h1,h2,h3,h4,h5⟩,h6⟩,s,h=>by
  refine⟨s_,.inl ⟨r,setBlk w r (.deferred none),h1,J5 h3,?_⟩⟩;have hx:bI g w g (setBlk w r (.deferred none)) λx=>x=r:=bI.deferBlk h3
  have hm:j8 (setBlk w r (.deferred none)) O lo ds:=by
   have:∀{es:List Deferred},(∀d'∈es,∀r',d'.target=.collected r'->r'<r)->j8 w O lo es->j8 (setBlk w r (.deferred none)) O lo es:=by
    intro es
    induction es with
    |nil=>exact λ_ _=>trivial
    |cons e es ih =>
     rintro hlt ⟨⟨q,k1,k2,k3,k4,k5⟩,k6⟩
     have:=hlt e (.head _) q k1;exact⟨⟨q,k1,k2,by grind [iq],k4,k5⟩,ih (λd' hd'=>hlt d' (.tail _ hd')) k6⟩
   grind
  exact Xx hm (s.otherG hx h4) λw' s' hx'=>h w' s' ((hx.mono (T:=λb=>lo<=b) λb _ e=>by omega).trans hx' λ_ _ h=>h)
def Xr (t:G_):ResultVar->Sem Value
 |.tmp i=>pure (t.getD i undef)
 |.cell i ty=>do loadVar ty (<-asAddr (t.getD i undef))
def Y9 (fn:Func)(t:G_):results fn t=(do let vs<-fn.results.mapM (Xr t);pure (if h:vs.size=1 then vs[0] else .tuple vs)):=by
 congr 1
def ae3 {α:Type}{f:α->Sem Value}{l:Array α}{xs:M_}(h:(l.toList.mapM f).run P w=.ok xs w):(l.mapM f).run P w=.ok xs.toArray w:=by
 simp_all [Array.mapM_eq_mapM_toList]
def Gg:∀{vr:AH_}{fr:List ResultVar},mK P vr fr=true->∀{st st':St}{O:Nat->Nat}{vs:D_},fO st vr=some (vs,st')->S P g w st t O->
  ∃xs:M_,∃Ov O',(fr.mapM (Xr t)).run P w=.ok xs w∧RVs g w vs xs Ov∧S P g w st' t O'∧(∀b,Ov b+O' b<=O b)∧
   xs.length=fr.length
 |[],[],_,st,st',O,vs,h,s=>by
  obtain⟨rfl,rfl⟩:=h;exact⟨[],zero,O,s_,by simp[RVs],s,λb=>by simp,rfl⟩
 |.tmp i::vr,.tmp j::fr,hc,st,st',O,vs,h,s=>by
  simp only[mK,af,aC]at hc;obtain⟨rfl,hc⟩:=hc;simp only[fO]at h;split at h
  .rename_i v hv;split at h
   .rename_i us st1 hr;obtain⟨rfl,rfl⟩:=h;obtain⟨O1,O2,_,rv,s2,l2⟩:=s.pull hv;obtain⟨xs,O3,O4,hrun,rvs,s4,l4,hlen⟩:=Gg hc hr s2;refine⟨t.getD i undef::xs,λb=>O1 b+O3 b,O4,?_,?_,s4,λb=>by grind,u_⟩
    .simp_all [Xr]
    grind [RVs]
   simp_all
  simp_all
 |.cell i n::vr,.cell j ty::fr,hc,st,st',O,vs,h,s=>by
  simp only[mK,af,aC]at hc;obtain⟨⟨rfl,hty⟩,hc⟩:=hc;simp only[fO]at h;split at h
  .rename_i id hv;split at h
   .rename_i v h' hl;split at h
    .rename_i us st1 hr;obtain⟨rfl,rfl⟩:=h;obtain⟨O0,O00,_,rp,_,_⟩:=s.pull hv;obtain⟨⟨b,hob,hp⟩,_⟩:=rp;obtain⟨x,O1,O2,hrun1,rv,s2,l2⟩:=X8 hty s hob hl;obtain⟨O5,s5,l5⟩:=s2.delEnv i;obtain⟨O6,s6,l6⟩:=s5.delHeap id;obtain⟨xs,O3,O4,hrun,rvs,s4,l4,hlen⟩:=Gg hc hr s6;refine⟨x::xs,λb=>O1 b+O3 b,O4,?_,?_,s4,λb=>by grind,u_⟩
     .simp_all [Xr,asAddr]
     grind [RVs]
    simp_all
   simp_all
  simp_all
 |[],_::_,hc,_,_,_,_,_,_=>by simp[mK]at hc
 |_::_,[],hc,_,_,_,_,_,_=>by simp[mK]at hc
 |.tmp _::_,.cell _ _::_,hc,_,_,_,_,_,_=>by simp[mK]at hc
 |.cell _ _::_,.tmp _::_,hc,_,_,_,_,_,_=>by simp[mK]at hc
def aei {vf:aj}{fn:Func}(hc:mK P vf.results fn.results.toList=true){v:AV}{hs':HS}(h:Hl vf st=some (v,hs'))(s:S P g w st t O) :
  ∃x Ov Oh,(results fn t).run P w=.ok x w∧RV g w v x Ov∧S P g w ⟨[],hs'⟩ #[] Oh∧∀b,Ov b+Oh b<=O b:=by
 unfold Hl at h;split at h
 .rename_i v1 st1 hr;obtain⟨rfl,rfl⟩:=h;obtain⟨xs,Ov,O',hrun,rvs,s',l,hlen⟩:=Gg hc hr s;obtain⟨x,ys,O1,O2,rfl,rv,⟨rfl,_⟩,hs2⟩:=rvs;obtain⟨Oe,Oh,_,sh,ho⟩:=s'.split;refine⟨x,O1,Oh,?_,rv,sh,λb=>by grind⟩
  simp_all [Y9,ae3]
 .rename_i vs st1 hne hr;obtain⟨rfl,rfl⟩:=h;obtain⟨xs,Ov,O',hrun,rvs,s',l,hlen⟩:=Gg hc hr s;obtain⟨Oe,Oh,_,sh,ho⟩:=s'.split;refine⟨.tuple xs.toArray,Ov,Oh,?_,by grind [RV],sh,λb=>by grind⟩;have hl1:xs.length≠1:=by
   intro h1;have h2:=rvs.length;rw[h1]at h2
   match vs,h2 with
   |[v],_=>grind
  simp_all [Y9,ae3]
 simp_all
end
section
variable {P:Program}{g:Gh}{w:World}{t:G_}{O:Nat->Nat}{st st':St}{a:AV}{o:Oper}{r:dF}
def rE {ro:J_}{ops:Array Oper}{Q:Exit->Act->World->Prop}{i:Nat}{rest:C_}{ds:List Deferred}{v:Value}{w':World}(h:ops[i]?=some o)(hg:o.guard=none)
  (hd:∀c,o.op≠.defer c)(hrun:(execOp (ev t) o).run P w=.ok (.value v) w')(hk:wpOpsIn (FR ro) 0 P ops Q rest ⟨xN t o.dst v,ds⟩ w'):wpOpsIn (FR ro) 0 P ops Q (i::rest) ⟨t,ds⟩ w:=by
 simp only[wpOpsIn,h];rw[ac (by grind [Region.wanted])];refine⟨λ_ _=>trivial,?_⟩
 grind [Qd,Oper.uponIn_value,Ze]
theorem B6 {d:Nat}(h:Lm o d=true):o.dst=some d∧o.guard=none:=by
 grind [Lm,Nat.beq_eq,Option.isNone_iff_eq_none]
theorem XK {x:Operand}(h:Yp x=true):x=.const (.slice none 0 0):=by
 grind [Yp]
theorem yg {i:Nat}{x:Operand}(h:Gq i x=true):x=.tmp i:=by
 unfold Gq at h;grind [Nat.beq_eq]
def aCV {α:Type}{r:Array α}{x:α}(h:r.toList=[x]):r=#[x]:=by
 grind
def Zj {d:Nat}{r:Array Oper}(h:YN d r.toList=true):∃o,r=#[o]∧o.dst=some d∧o.guard=none∧o.op=.assign (.const (.slice none 0 0)):=by
 unfold YN at h
 grind [B6,XK]
def amc {m:Nat}{r:Array Oper}(h:aeZ P m r.toList=true):∃a b T u,r=#[a,b]∧a.dst=some 3∧a.guard=none∧a.op=.move (.tmp 0)∧b.dst=some 4∧b.guard=none∧
  b.op=.binOp .eql T (.tmp 3) (.const (.slice none 0 0)) u∧iK P T m=true:=by
 unfold aeZ at h
 grind [B6,yg,XK]
def alq {m:Nat}{r:Array Oper}(h:afr P m r.toList=true):∃a b c d T ats e',r=#[a,b,c,d]∧a.dst=some 5∧a.guard=none∧a.op=.buildSlice T 0 #[]∧iK P T m=true∧
  b.dst=some 6∧b.guard=none∧b.op=.move (.tmp 0)∧c.dst=some 7∧c.guard=none∧c.op=.call ⟨.builtin .append,#[.tmp 5,.tmp 6],ats⟩∧ats=#[um ⟨.builtin .append,#[.tmp 5,.tmp 6],ats⟩,ats.getD 1 0]∧
  iK P (um ⟨.builtin .append,#[.tmp 5,.tmp 6],ats⟩) m=true∧nu P (um ⟨.builtin .append,#[.tmp 5,.tmp 6],ats⟩) m=true∧P.underlying (ats.getD 1 0)=some (.slice e')∧
  d.dst=some 2∧d.guard=none∧d.op=.assign (.tmp 7):=by
 unfold afr at h;split at h
 .rename_i a b c d e;simp only[af]at h;obtain⟨⟨⟨⟨⟨⟨⟨h1,h2⟩,h3⟩,h4⟩,h5⟩,h6⟩,h7⟩,h8⟩:=h;obtain⟨k1,k2⟩:=B6 h1;obtain⟨k3,k4⟩:=B6 h3;obtain⟨k5,k6⟩:=B6 h5;obtain⟨k7,k8⟩:=B6 h7;split at h2
  .rename_i T ps hops;simp only[af]at h2;split at h4
   .split at h6
    .rename_i k hk;obtain⟨callee,args,ats⟩:=k;simp only[af]at h6;obtain⟨⟨⟨⟨⟨q1,q2⟩,q3⟩,q4⟩,q5⟩,q6⟩:=h6;have:=rT q1;subst this;split at q6
     .simp only[af]at q6;have e1:=yg q6.1;have e2:=yg q6.2;have:args=#[.tmp 5,.tmp 6]:=e_;subst this;split at q5
      .rename_i e' he';split at h8
       .exact⟨a,b,c,d,T,ats,e',e_,k1,k2,u_,h2.1,k3,k4,by grind [yg],k5,k6,hk,K9 q2,q3,q4,he',k7,k8,by grind [yg]⟩
       simp_all
      simp_all
     simp_all
    simp_all
   simp_all
  simp_all
 simp_all
theorem r8 {i j:Nat}{v:Value}(h:j<t.size):(t.setIfInBounds i v).getD j undef=if i=j then v else t.getD j undef:=by
 simp only[gD,ge]
 grind
def amL {m:Nat}{c:Code}(hc:Qc P m c=true){out:bX}(h:Uj m st=some (out,st'))(ht:8<=t.size)(s:S P g w st t O) :
  c.wpIn (FR none) 0 P (cq P g w t O [] none out st') ⟨t,[]⟩ w:=by
 unfold Qc at hc;split at hc
 .rename_i i0 r0 i1 r1 i2 r2 i3 r3;simp only[af]at hc;obtain⟨⟨⟨c0,c1⟩,c2⟩,c3⟩:=hc;obtain⟨o0,rfl,d0,gd0,p0⟩:=Zj c0;obtain⟨o1,o2,T,u,rfl,d1,gd1,p1,d2,gd2,p2,hT⟩:=amc c1;obtain⟨o3,rfl,d3,gd3,p3⟩:=Zj c2;obtain⟨o4,o5,o6,o7,T4,ats,e',rfl,d4,gd4,p4,hT4,d5,gd5,p5,d6,gd6,p6,hats,hT6,hz6,hu1,d7,gd7,p7⟩:=alq c3;unfold Uj at h;split at h
  .rename_i v hv;split at h
   .rename_i xs hxs;split at h
    .rename_i hb;simp only[af,bf]at hb;obtain⟨hok,hmost⟩:=hb;simp only[ae,aM]at h;obtain⟨rfl,rfl⟩:=h;have hl:=LI hok;obtain⟨Ov,O1,h0t,rv,s1,l1⟩:=s.pull hv;obtain⟨ad,cap,news0,hx,hels0⟩:=C0 s hxs hl rv;obtain⟨Oe,Oh,_,sh,ho⟩:=s.split;generalize hX:t.getD 0 undef=X at *;obtain⟨el,hu,hsz,hm,hby⟩:=iA hT;have fin:∀(t':G_) (w':World) (g':Gh) (Or O':Nat->Nat),t'.size=t.size->RV g' w' (.own true m xs) (t'.getD 2 undef) Or->S P g' w' ⟨[],st.hs⟩ #[] O'->bI g w g' w' (λb=>O b≠0)->
       (∀b,Or b+O' b<=1)->(∀b,b<w.heap.size->Or b+O' b<=O b)->(∀b,Or b≠0->b<w'.heap.size)->cq P g w t O [] none .ret ⟨[(2,.own true m xs)],st.hs⟩ .ret ⟨t',[]⟩ w':=by
      intro t' w' g' Or O' hsz' rv' s' hx' hle hold hhi;refine⟨rfl,g',λb=>Or b+O' b,[],⟨S.join (by simp[cQ]) ⟨Or,zero,⟨e_,rv'⟩,λ_=>rfl,λb=>by simp⟩ s' hle hhi,hx',hold,hsz'⟩,rfl,trivial,λ_=>rfl⟩
     have nodef:∀{op:Op}{op':Op},op=op'->(∀c,op'≠.defer c)->∀c,op≠.defer c:=λe h c e2=>h c (e▸e2)
     refine wpIn_seq (wpIn_region ?_);show wpOpsIn _ _ _ _ _ [0] _ _;refine rE (o:=o0) (v:=.slice none 0 0) (w':=w) rfl gd0 (nodef p0 s_) (by simp[execOp,p0,ev]) ?_;refine wpIn_seq (wpIn_seq (wpIn_region ?_));show wpOpsIn _ _ _ _ _ [0,1] _ _;have hev0:ev (xN t (some 2) (.slice none 0 0)) (.tmp 0)=X:=by
      show(t.setIfInBounds 2 _).getD 0 undef=X
      grind [r8]
     rw[d0];refine rE (o:=o1) (v:=X) (w':=w) rfl gd1 (nodef p1 s_) (by simp[execOp,p1,hev0]) ?_;rw[d1];generalize ht2:xN (xN t (some 2) (.slice none 0 0)) (some 3) X=t2;have hs2:t2.size=t.size:=by grind [rR]
     have hev3:ev t2 (.tmp 3)=X:=by
      rw[<-ht2];show((xN t (some 2) (.slice none 0 0)).setIfInBounds 3 X).getD 3 undef=X
      grind [r8,rR]
     have heq:(Op.equal T X (.slice none 0 0)).run P w=.ok ad.isNone w:=by
      show(Op.equalIn (9999+1) T X (.slice none 0 0)).run P w=_;rw[hx];unfold Op.equalIn;rw[aO,ba hu]
      cases ad<;>simp
     have hguard:(eqGuard .eql T (.tmp 3) (.const (.slice none 0 0)) X (.slice none 0 0)).run P w=.ok () w:=by
      rw[hx];unfold eqGuard;simp
     refine rE (o:=o2) (v:=.bool ad.isNone) (w':=w) rfl gd2 (nodef p2 s_) ?_ ?_
     .simp only[execOp,p2,hev3];have hc:ev t2 (.const (.slice none 0 0))=.slice none 0 0:=rfl;rw[hc,aO,aO,hguard];have hbin:(binOp .eql T X (.slice none 0 0)).run P w=.ok (.bool ad.isNone) w:=by
       rw[hx];rw[hx]at heq;show((do pure (.bool (<-Op.equal T (.slice ad xs.length cap) (.slice none 0 0))):Sem Value)).run P w=_;rw[aO,heq];rfl
      grind [Result.andThen_ok,Sem.run_pure]
     .rw[d2];generalize ht3:xN t2 (some 4) (.bool ad.isNone)=t3;have hs3:t3.size=t.size:=by grind [rR]
      have hev4:ev t3 (.tmp 4)=.bool ad.isNone:=by
       rw[<-ht3];show(t2.setIfInBounds 4 _).getD 4 undef=_
       grind [r8]
      have hev03:ev t3 (.tmp 0)=X:=by
       rw[<-ht3,<-ht2];show(((t.setIfInBounds 2 _).setIfInBounds 3 _).setIfInBounds 4 _).getD 0 undef=X
       grind [r8]
      show(Code.cond (.tmp 4) (.seq (.region i2 #[o3] false) .ret) .skip).wpIn (FR none) 0 P _ ⟨t3,[]⟩ w
      cases had:ad with
      |none =>
       refine wpIn_cond_true (by rw[IS,hev4,had];rfl) (wpIn_seq (wpIn_region ?_));show wpOpsIn _ _ _ _ _ [0] _ _;refine rE (o:=o3) (v:=.slice none 0 0) (w':=w) rfl gd3 (nodef p3 s_) (by simp[execOp,p3,ev]) (wpIn_ret ?_);rw[d3];have hnil:xs=[]:=aI (hels0.nn had);refine fin _ w g zero Oh (by rw[rR,hs3]) ?_ sh (.refl _ _ _) (λb=>by have:=ho b;have:=s.le b;grind) (λb _=>by grind) (λb hb=>by simp at hb);have:(xN t3 (some 2) (.slice none 0 0)).getD 2 undef=.slice none 0 0:=by
        show(t3.setIfInBounds 2 _).getD 2 undef=_
        grind [r8]
       grind [RV,EP]
      |some ad' =>
       refine wpIn_cond_false (by rw[IS,hev4,had];rfl) (wpIn_skip ?_);refine wpIn_seq (wpIn_region ?_);show wpOpsIn _ _ _ _ _ [0,1,2,3] _ _;obtain⟨el4,hu4,hsz4,hm4,hby4⟩:=iA hT4;have hbuild:(Instr.buildSlice T4 0 #[]).run P w=.ok (.slice (some ⟨w.heap.size,0,none⟩) 0 0) (w.alloc (.cells #[] el4)):=by
        have hr:∀f:Nat->Value,(Array.range (0*m)).map f=#[]:=by
         grind
        simp only[Instr.buildSlice,ba hu4,eQ hsz4,aO,bg,mY,Instr.fill,Nat.zero_mul,bR,dA];have hr0:∀f:Nat->Value,(Array.range 0).map f=#[]:=by
         grind
        simp[newRow,hr0]
       refine rE (o:=o4) (v:=.slice (some ⟨w.heap.size,0,none⟩) 0 0) (w':=w.alloc (.cells #[] el4)) rfl gd4 (nodef p4 s_) (by simp[execOp,p4,hbuild]) ?_;rw[d4];generalize ht5:xN t3 (some 5) (.slice (some ⟨w.heap.size,0,none⟩) 0 0)=t5;have hs5:t5.size=t.size:=by grind [rR]
       have hev05:ev t5 (.tmp 0)=X:=by
        rw[<-ht5];show(t3.setIfInBounds 5 _).getD 0 undef=X;rw[r8 o_,aa o_];exact hev03
       refine rE (o:=o5) (v:=X) (w':=w.alloc (.cells #[] el4)) rfl gd5 (nodef p5 s_) (by simp[execOp,p5,hev05]) ?_;rw[d5];generalize ht6:xN t5 (some 6) X=t6;have hs6:t6.size=t.size:=by grind [rR]
       have hev66:ev t6 (.tmp 6)=X:=by
        rw[<-ht6];show(t5.setIfInBounds 6 _).getD 6 undef=X
        grind [r8]
       have hev65:ev t6 (.tmp 5)=.slice (some ⟨w.heap.size,0,none⟩) 0 0:=by
        rw[<-ht6,<-ht5];show((t3.setIfInBounds 5 _).setIfInBounds 6 _).getD 5 undef=_
        grind [r8]
       have hx1:bI g w g (w.alloc (.cells #[] el4)) λ_=>False:=bI.alloc s.pmlt _ _
       have hpl:∀b o,g.pm b o->b<(w.alloc (.cells #[] el4)).heap.size:=λb o h=>aW (s.pmlt b o h) hx1.size
       have sx:=s.extF hx1 rfl hpl;have shx:=sh.extF hx1 rfl hpl;have rvx:=RV.ext hx1 _ _ _ rv s_;obtain⟨ad2,cap2,news,hxx,hels⟩:=C0 sx hxs hl rvx;rw[hx,had]at hxx;simp only[Value.slice.injEq,true_and]at hxx;obtain⟨rfl,rfl⟩:=hxx;obtain⟨el6,hu6,hsz6,hm6,hby6⟩:=iA hT6;obtain⟨el6',i6,zv,hu6',hi,hz,hzs⟩:=tj hz6;rw[hu6]at hu6';simp only[ae,iy]at hu6';subst hu6';rw[LA hi]at hby6;generalize um ⟨.builtin .append,#[.tmp 5,.tmp 6],ats⟩=T0 at *;generalize ats.getD 1 0=T1 at *;have hsrc:Yn P (w.alloc (.cells #[] el4)) T1 X el6 m xs.length news:=by
        refine⟨hels.len,hels.one,.inl ⟨⟨e',hu1⟩,⟨ad,cap,hx⟩,λw1 hw=>?_⟩⟩;have:=hels.first (P:=P) (len:=xs.length) (cap:=cap) (ai _) hw
        rw[<-hels.len,vG,<-had,<-hx]at this;exact this
       have hmost':xs.length<=4294967296:=hmost;have hApp:vL P g (w.alloc (.cells #[] el4)) #[] Oh zero ⟨[],st.hs⟩ (.own true m xs) ((Builtin.append_ #[T0,T1] o6.type #[.slice (some ⟨w.heap.size,0,none⟩) 0 0,X]).run P (w.alloc (.cells #[] el4))):=by
        by_cases hxs0:xs.length=0
        .have hnil:news=[]:=aI (by grind [DJ.len]);have hxn:xs=[]:=aI hxs0;have hrun:=Ds (P:=P) (w:=w.alloc (.cells #[] el4)) (ty:=o6.type) hu6 hi (Pk hsz6 hi) hm6 hby6 hmost' hsrc (base:=some ⟨w.heap.size,0,none⟩) (sLen:=0) (sCap:=0) o_;refine⟨.slice (some ⟨w.heap.size,0,none⟩) 0 0,w.alloc (.cells #[] el4),g,zero,Oh,?_,?_,shx,.refl _ _ _,λb=>by have:=shx.le b;simp_all,λb _=>by simp,λb hb=>by simp at hb⟩
         .simp_all [storeCells]
         simp_all [RV,EP]
        .have:=W7 (Oa:=zero) (xs:=[]) (base:=some ⟨w.heap.size,0,none⟩) (sCap:=0) (olds:=[]) (ty:=o6.type) shx hu6 hi hz hzs (Pk hsz6 hi) hm6 hby6 hsrc hels.rd (λe he=>by simp at he) hl (by simp)
          (λj d h=>by simp at h) (λw1 _=>wG m _ 0 0 w1) u_ (by omega)
         simp_all
       obtain⟨vv,w2,g2,Or,O2,k1,k2,k3,k4,k5,k6,k7⟩:=hApp;refine rE (o:=o6) (v:=vv) (w':=w2) rfl gd6 (nodef p6 s_) ?_ ?_
       .simp_all [execOp,resolve,invoke,builtin]
       .rw[d6];generalize ht7:xN t6 (some 7) vv=t7;have hs7:t7.size=t.size:=by grind [rR]
        have hev77:ev t7 (.tmp 7)=vv:=by
         rw[<-ht7];show(t6.setIfInBounds 7 _).getD 7 undef=vv
         grind [r8]
        refine rE (o:=o7) (v:=vv) (w':=w2) rfl gd7 (nodef p7 s_) (by simp_all [execOp]) (wpIn_ret ?_);have hle1:w.heap.size<=(w.alloc (.cells #[] el4)).heap.size:=hx1.size;refine fin _ w2 g2 Or O2 (by rw[rR,hs7]) ?_ k3 (((hx1.mono (T:=λb=>O b≠0) λ_ _ h=>h.elim)).trans k4 λb hb hq=>?_) k5 (λb hb=>?_) k7
        .have:(xN t7 (some 2) vv).getD 2 undef=vv:=by
          show(t7.setIfInBounds 2 _).getD 2 undef=_
          grind [r8]
         simp_all
        all_goals grind
    grind
   grind
  grind
 simp_all
end
abbrev oa:=@ComesIn.of_steps
section
variable {P:Program}{F:Fence}{n:Nat}
def H3 {fn:Func}{tmps:G_}{R:Ending->World->Prop}:∀(ds:List Deferred) (u:FrameMode) (w:World) (fr:Frame)
  (cs:List Frame),fr.mode=u->fr.defers=ds->fr.tmps=tmps->P.funcs[fr.fn]?=some fn->fr.kind=.deferred->F.fn fr.fn->F.room (cs.length+1+n)->LeavesInM F n P fn tmps R ds u w->
  ∃e w' fr',R e w'∧ComesIn (Machine.fenced P F) P (lone fr cs w) (lone fr' cs w') e∧fr'.fn=fr.fn∧fr'.kind=.deferred∧fr'.going P w' e:=by
 intro ds
 induction ds with
 |nil =>
  intro u w fr cs hu hd ht hf hk _ _ h
  cases u with
  |run=>exact h.elim
  |returning =>
   obtain⟨v,hr,hR⟩:=h;exact⟨.returned v,w,fr,hR,StepsIn.refl _,rfl,hk,hu,hd,fn,hf,ht▸hr⟩
  |panicking chain=>exact⟨.panicked chain,w,fr,h,StepsIn.refl _,rfl,hk,hu,hd,fn,hf⟩
 |cons d ds ih =>
  intro u w fr cs hu hd ht hf hk hb hroom h;obtain⟨hrun,h⟩:=h;rcases h with ⟨r,w',htar,htake,hrest⟩|⟨hn,fv,cap,f,args,htar,hinv,hlead,hFf,hcall⟩
  .have h1:=step_collected (cs:=cs) (hu▸hrun) hd htar htake;have i1:(lone fr cs w).fenced P F:=fenced_out hb hroom (hu▸hrun) hd (λg hg=>by grind [Target.leads]);obtain⟨e',w'',fr',hR',hs',hfn',hk',hl'⟩:=ih u w' { fr with defers:=[]++ds } cs hu rfl ht hf hk hb hroom hrest;exact⟨e',w'',fr',hR',oa (.one i1 h1) hs',hfn',hk',hl'⟩
  .have h1:=step_defer (cs:=cs) (hu▸hrun) hd htar hinv;have i1:(lone fr cs w).fenced P F:=fenced_out hb hroom (hu▸hrun) hd hlead;have hroom':F.room (({ fr with defers:=ds }::cs).length+1+(n-1)):=Fence.room_enter hroom hn;obtain⟨e,u',w',frX,hR,hsteps,hkX,hfX,hgo⟩:=hcall { fr with defers:=ds } cs hu hroom'
   cases e with
   |outgrown=>exact⟨.outgrown,w',fr,hR,Outgrown.of_steps (.one h1) hsteps,rfl,hk,trivial⟩
   |returned v =>
    have i2:(lone frX ({ { fr with defers:=ds } with mode:=u' }::cs) w').fenced P F:=fenced_going (n:=n-1) (hfX▸hFf) hroom' hgo;have h2:=step_going_returned (c:={ { fr with defers:=ds } with mode:=u' }) (cs:=cs) hkX hgo;obtain⟨e',w'',fr',hR',hs',hfn',hk',hl'⟩:=ih (settle u') w' { { { fr with defers:=ds } with mode:=u' } with mode:=settle u' } cs rfl rfl ht hf hk hb hroom hR;exact⟨e',w'',fr',hR',oa (.head i1 h1 (ta hsteps (.one i2 h2))) hs',hfn',hk',hl'⟩
   |panicked chain =>
    have i2:(lone frX ({ { fr with defers:=ds } with mode:=u' }::cs) w').fenced P F:=fenced_going (n:=n-1) (hfX▸hFf) hroom' hgo;have h2:=step_going_panicked (c:={ { fr with defers:=ds } with mode:=u' }) (cs:=cs) hgo;obtain⟨e',w'',fr',hR',hs',hfn',hk',hl'⟩:=ih (raised u' chain) w' { { { fr with defers:=ds } with mode:=u' } with mode:=raised u' chain } cs rfl rfl ht hf hk hb hroom hR;exact⟨e',w'',fr',hR',oa (.head i1 h1 (ta hsteps (.one i2 h2))) hs',hfn',hk',hl'⟩
def OA {f:FuncId}{fn:Func}{c:Code}{args:G_}{u:FrameMode}{w:World}{R:Ending->World->Prop}
  (hf:P.funcs[f]?=some fn)(hb:fn.body=some c)(hF:F.fn f)
  (h:c.wpIn F n P (bodyPostM F n P fn R) { tmps:=args++Array.replicate (fn.ntmps-args.size) undef,defers:=[] } w)(hro:F.round=none:=by rfl) :
  CallsDIn F n P f args u w λe u' w'=>u'=u∧R e w':=by
 refine⟨hF,λc₀ cs hu hr=>?_⟩
 let b:Frame:={ (default:Frame) with fn:=f,kind:=.deferred,roundOf:=none }
 have henter:Frame.enter P f args .deferred =
   b.atR { tmps:=args++Array.replicate (fn.ntmps-args.size) undef,defers:=[] } [.code c]:=by
  grind [Frame.enter,Frame.atR]
 have hc:({ c₀ with mode:=u }:Frame)=c₀:=by subst hu;rfl
 obtain⟨e,a',w',hq,harr⟩:=h b [] (c₀::cs) hro.symm hF hr;rw[<-henter]at harr
 cases e with
 |normal =>
  obtain⟨e',w'',fr',hR,hs,hfn,hk,hl⟩:=H3 a'.defers .returning w' { b.atR a' [] with mode:=.returning } (c₀::cs) rfl rfl rfl hf rfl hF hr hq;exact⟨e',u,w'',fr',⟨rfl,hR⟩,(by rw[hc];exact oa (ta harr (.one (fenced_calm (fr:=b.atR a' []) hF hr rfl) (stepR_end rfl))) hs),hk,hfn,hl⟩
 |ret =>
  obtain⟨todo,hs₀⟩:=harr.1 rfl;obtain⟨e',w'',fr',hR,hs,hfn,hk,hl⟩:=H3 a'.defers .returning w' { b.atR a' todo with mode:=.returning } (c₀::cs) rfl rfl rfl hf rfl hF hr hq;exact⟨e',u,w'',fr',⟨rfl,hR⟩,(by grind [ComesIn.of_steps]),hk,hfn,hl⟩
 |panic chain =>
  obtain⟨todo,hs₀⟩:=harr;obtain⟨e',w'',fr',hR,hs,hfn,hk,hl⟩:=H3 a'.defers (.panicking chain) w' { b.atR a' todo with mode:=.panicking chain } (c₀::cs) rfl rfl rfl hf rfl hF hr hq;exact⟨e',u,w'',fr',⟨rfl,hR⟩,(by grind [ComesIn.of_steps]),hk,hfn,hl⟩
 |exit id=>exact hq.elim
 |goto l=>exact hq.elim
 |outgrown=>exact⟨.outgrown,u,w',b,⟨rfl,hq⟩,(by exact harr.resolve_left (by simp[b])),rfl,rfl,trivial⟩
end
section
variable {P:Program}{g:Gh}{w:World}{t:G_}{O:Nat->Nat}{st st':St}{a:AV}{o:Oper}{r:dF}
def FN (P:Program)(r:dF):Prop :=
 ∀{f:FuncId}{args:D_}{hs:HS}{v:AV}{hs':HS},r.call f args hs=some (v,hs')->
  ∀{g:Gh}{w:World}{xs:M_}{Oa Oh:Nat->Nat},RVs g w args xs Oa->S P g w ⟨[],hs⟩ #[] Oh->(∀b,Oa b+Oh b<=1)->(∀b,Oa b≠0->b<w.heap.size)->∀u:FrameMode,
   CallsDIn (FR none) 0 P f xs.toArray u w λe u' w'=>u'=u∧gW P g w (λb=>Oa b+Oh b) v hs' e w'
def U2 {ro:J_}{fn:Func}{tmps:G_}{R:Ending->World->Prop}{lo:Nat}{es:List Deferred}:∀{ms:List Deferred}{w:World},j8 w O lo ms->S P g w st t O->
  (∀w',S P g w' st t O->bI g w g w' (λb=>lo<=b)->LeavesInM (FR ro) 0 P fn tmps R es .returning w')->LeavesInM (FR ro) 0 P fn tmps R (ms++es) .returning w
 |[],w,_,s,h=>h w s (.refl _ _ _)
 |d::ds,w,⟨⟨r,h1,h2,h3,h4,h5⟩,h6⟩,s,h=>by
  refine⟨s_,.inl ⟨r,setBlk w r (.deferred none),h1,J5 h3,?_⟩⟩;have hx:bI g w g (setBlk w r (.deferred none)) λx=>x=r:=bI.deferBlk h3
  have hm:j8 (setBlk w r (.deferred none)) O lo ds:=by
   have:∀{es:List Deferred},(∀d'∈es,∀r',d'.target=.collected r'->r'<r)->j8 w O lo es->j8 (setBlk w r (.deferred none)) O lo es:=by
    intro es
    induction es with
    |nil=>exact λ_ _=>trivial
    |cons e es ih =>
     rintro hlt ⟨⟨q,k1,k2,k3,k4,k5⟩,k6⟩
     have:=hlt e (.head _) q k1;exact⟨⟨q,k1,k2,by grind [iq],k4,k5⟩,ih (λd' hd'=>hlt d' (.tail _ hd')) k6⟩
   grind
  exact U2 hm (s.otherG hx h4) λw' s' hx'=>h w' s' ((hx.mono (T:=λb=>lo<=b) λb _ e=>by omega).trans hx' λ_ _ h=>h)
end
def asP (P:Program)(vf:aj)(f:FuncId):Prop :=
 ∃fn c,P.funcs[f]?=some fn∧fn.body=some c∧fn.name≠ "runtime.NumGoroutine"∧vf.nparams<=fn.ntmps∧mK P vf.results fn.results.toList=true∧
  (Mt P fn.ntmps vf.body c∨(∃m,vf.body=.clone m∧Qc P m c=true∧8<=fn.ntmps)∨∃i d f a,vf.body=.late i d f a∧Ur P fn.ntmps i d f a c=true)
def K5 (P:Program)(T:Nat->X_):Prop:=∀f vf,T f=some vf->asP P vf f
def IX (P:Program)(r:dF):Prop :=
 ∀{v:VC}{st:St}{o:bX}{st':St},r.code (.loop v) st=some (o,st')->∀{c:Code}{n:Nat},Mt P n v c->∀{g:Gh}{w:World}{t:G_}{O:Nat->Nat},t.size=n->S P g w st t O->
  ∀(ro:J_) (ds:List Deferred),E1 w ro->ND ro P c (cq P g w t O ds ro o st') ⟨t,ds⟩ w
def Fb (P:Program)(r:dF):Prop :=
 ∀{v cur:VC}{st:St}{o:bX}{st':St},r.code (.inScope v cur) st=some (o,st')->∀{body c:Code}{n:Nat},Mt P n v body->Mt P n cur c->∀{g:Gh}{w:World}{t:G_}{O:Nat->Nat},t.size=n->
  S P g w st t O->∀(ro:J_) (ds:List Deferred),E1 w ro->GB ro P body c (cq P g w t O ds ro o st') ⟨t,ds⟩ w
def Fj (P:Program)(r:dF):Prop :=
 ∀{v:VC}{st:St}{o:bX}{st':St},xX v=true->r.code v st=some (o,st')->o=.normal∧∀{g:Gh}{w:World}{t:G_}{O:Nat->Nat},S P g w st t O->∃g' O',gS P g w t O st' t w g' O'
section
variable {P:Program}{g:Gh}{w:World}{t:G_}{O:Nat->Nat}{st st':St}{r:dF}
def ND.mono {ro:J_}{c:Code}{Q Q':Exit->Act->World->Prop}{a:Act}(h:ND ro P c Q a w)(hq:∀e a w,Q e a w->Q' e a w):ND ro P c Q' a w :=
 λb k cs hr=>let ⟨e,a',w',q,x⟩:=h b k cs hr;⟨e,a',w',hq _ _ _ q,x⟩
def GB.mono {ro:J_}{body c:Code}{Q Q':Exit->Act->World->Prop}{a:Act}(h:GB ro P body c Q a w)(hq:∀e a w,Q e a w->Q' e a w):GB ro P body c Q' a w :=
 λb k cs hr=>let ⟨e,a',w',q,x⟩:=h b k cs hr;⟨e,a',w',hq _ _ _ q,x⟩
def gS.mono {O2:Nat->Nat}{t':G_}{w':World}{g':Gh}{O':Nat->Nat}(h:gS P g w t O st' t' w' g' O')(hle:∀b,O b<=O2 b):gS P g w t O2 st' t' w' g' O' :=
 ⟨h.st,h.ext.mono λb _ hb=>by grind,λb hb=>aP (h.old b hb) (hle b),h.size⟩
def cq.mono {O2:Nat->Nat}{ds:List Deferred}{ro:J_}{o:bX}{e:Exit}{a':Act}{w':World}(h:cq P g w t O ds ro o st' e a' w')(hle:∀b,O b<=O2 b):cq P g w t O2 ds ro o st' e a' w':=by
 obtain⟨he,g',O',ms,G,hd,hm,hr⟩:=h;exact⟨he,g',O',ms,G.mono hle,hd,hm,hr⟩
def cq.refl {ds:List Deferred}{ro:J_}(o:bX)(s:S P g w st t O):cq P g w t O ds ro o st (GZ o) ⟨t,ds⟩ w :=
 ⟨rfl,g,O,[],gS.refl s,rfl,trivial,λ_=>rfl⟩
def cq.ghost {ds:List Deferred}{ro:J_}{o o2:bX}{st2:St}{e:Exit}{a':Act}{w':World}(h:cq P g w t O ds ro o st' e a' w')
  (hg:∀{g:Gh}{w:World}{t:G_}{O:Nat->Nat},S P g w st' t O->∃g' O',gS P g w t O st2 t w g' O')(ho:GZ o=GZ o2):cq P g w t O ds ro o2 st2 e a' w':=by
 obtain⟨he,g',O',ms,G,hd,hm,hr⟩:=h;obtain⟨g2,O2,G2⟩:=hg G.st;exact⟨he.trans ho,g2,O2,ms,G.trans G2,hd,hm.after G2.ext G2.old,hr⟩
theorem cq.as {ds:List Deferred}{ro:J_}{o o2:bX}{e:Exit}{a':Act}{w':World}(h:cq P g w t O ds ro o st' e a' w'):cq P g w t O ds ro o2 st' (GZ o2) a' w':=by
 obtain⟨_,h⟩:=h;exact⟨rfl,h⟩
def FV {ds:List Deferred}{ro:J_}(hro:E1 w ro){o1:bX}{st1:St}{next:Act->World->Prop}{o:bX}{e:Exit}{a1:Act}{w1:World}(h:cq P g w t O ds ro o1 st1 e a1 w1)
  (hn:o1=.normal->∀(t1:G_) (ds1:List Deferred) (g1:Gh) (O1:Nat->Nat),t1.size=t.size->S P g1 w1 st1 t1 O1->E1 w1 ro->
   (∀e a2 w2,cq P g1 w1 t1 O1 ds1 ro o st' e a2 w2->cq P g w t O ds ro o st' e a2 w2)->next ⟨t1,ds1⟩ w1)
  (ho:o1≠.normal->o=o1∧st'=st1):Exit.then next (cq P g w t O ds ro o st') e a1 w1:=by
 have h0:=h;obtain⟨he,g1,O1,ms,G,hd,hm,hr⟩:=h;subst he;by_cases hnm:o1=.normal
 .subst hnm;obtain⟨t1,d1⟩:=a1;subst hd;exact hn rfl t1 _ g1 O1 G.size G.st (hro.ext G.ext) λe a2 w2 k=>cq.comp G hm hr k
 .obtain⟨rfl,rfl⟩:=ho hnm
  cases o<;>first|exact absurd rfl hnm|exact h0
def acg (hc:jh P r)(hl:IX P r)(hs:Fb P r)(hgh:Fj P r)(hr:iB P r){v:VC}{o:bX}(h:de v r st=some (o,st')){c:Code}{n:Nat}(hm:Mt P n v c)(hn:t.size=n)
  (s:S P g w st t O)(ro:J_)(ds:List Deferred)(hro:E1 w ro):c.wpIn (FR ro) 0 P (cq P g w t O ds ro o st') ⟨t,ds⟩ w:=by
 cases hm with
 |@ghostL a b c h1 h2 =>
  simp only[de,P7]at h;split at h
  .rename_i st1 ha;obtain⟨_,hg⟩:=hgh h1 ha;obtain⟨g1,O1,G⟩:=hg s;exact wpIn_mono (hc h h2 o_ G.st ro ds hro) λe a2 w2 k=>cq.comp (ms1:=[]) G trivial (λ_=>rfl) k
  .rename_i x hx
   cases hra:r.code a st with
   |none=>simp_all
   |some p =>
    obtain⟨o1,st1⟩:=p;obtain⟨rfl,_⟩:=hgh h1 hra
    simp_all
 |@ghostR a b c h1 h2 =>
  simp only[de,P7]at h;split at h
  .rename_i st1 ha;obtain⟨rfl,hg⟩:=hgh h1 h;exact wpIn_mono (hc ha h2 hn s ro ds hro) λe a2 w2 k=>k.ghost hg rfl
  .rename_i x hx;exact hc h h2 hn s ro ds hro
 |@seq a b c d h1 h2 =>
  simp only[de,P7]at h;split at h
  .rename_i st1 ha;refine wpIn_seq (wpIn_mono (hc ha h1 hn s ro ds hro) λe a1 w1 k=>FV hro k (λ_ t1 ds1 g1 O1 hs1 s1 hro1 hcomp=>?_) (λhne=>absurd rfl hne));exact wpIn_mono (hc h h2 o_ s1 ro ds1 hro1) hcomp
  .rename_i x hx;refine wpIn_seq (wpIn_mono (hc h h1 hn s ro ds hro) λe a1 w1 k=>FV hro k (λhnm=>?_) (λ_=>⟨rfl,rfl⟩))
   simp_all
 |skip =>
  simp only[de,ae,aM]at h;obtain⟨rfl,rfl⟩:=h;exact wpIn_skip (cq.refl .normal s)
 |@reg ops id os hops =>
  simp only[de,TL]at h;split at h
  .rename_i st1 hst;simp only[ae,aM]at h;obtain⟨rfl,rfl⟩:=h;refine wpIn_region ?_;have:=aac (ro:=ro) (Q:=cq P g w t O ds ro .normal st1) hr hc ds (k:=0) rfl hops hn s hst λw' t' g' O' G=>⟨rfl,g',O',[],G,rfl,trivial,λ_=>rfl⟩
   grind [List.range_eq_range']
  simp_all
 |@draw ops id os hops =>
  simp only[de,TL]at h;split at h
  .rename_i st1 hst;simp only[ae,aM]at h;obtain⟨rfl,rfl⟩:=h;exact arn hr hc ds hops hn s hst λw' t' g' O' G=>⟨rfl,g',O',[],G,rfl,trivial,λ_=>rfl⟩
  simp_all
 |@drawP perm gco nr ops id os hops =>
  simp only[de,Nk,MZ]at h;split at h
  .rename_i habs;split at h
   .rename_i st1 hst;simp only[ae,aM]at h;obtain⟨rfl,rfl⟩:=h;exact aop hr hc ds hops hn s habs hst λw' t' g' O' G=>⟨rfl,g',O',[],G,rfl,trivial,λ_=>rfl⟩
   simp_all
  simp_all
 |@cond rd o' a b c d h1 h2 h3 =>
  simp only[de,Ts]at h;have step:∀(tb:Bool) (e:aT) (k:VC) (cd:Code),Vm.rd st.env rd=some (B_ tb,e)->r.code k ⟨e,st.hs⟩=some (o,st')->Mt P n k cd->(if tb then c else d)=cd->
    (Code.cond o' c d).wpIn (FR ro) 0 P (cq P g w t O ds ro o st') ⟨t,ds⟩ w:=by
   intro tb e k cd hrd hk hmk hcd;obtain⟨Ov,O',rv,s',l⟩:=s.rd h1 hrd;have hev:=C5 rv rfl;refine wpIn_cond (t:=tb) (by simp_all [IS]) ?_;rw[hcd];exact wpIn_mono (hc hk hmk hn s' ro ds hro) λe a2 w2 k=>k.mono λb=>by grind
  grind
 |@block bid a c h1 =>
  simp only[de,M9]at h;split at h
  .rename_i j st1 ha;refine wpIn_block (wpIn_mono (hc ha h1 hn s ro ds hro) λe a1 w1 k=>?_);obtain⟨rfl,_⟩:=id k
   grind [GZ,Exit.inBlock,Nat.beq_eq,cq.as]
  .rename_i x hx;refine wpIn_block (wpIn_mono (hc h h1 hn s ro ds hro) λe a1 w1 k=>?_);have hne:∀j,o≠.exit j:=u_;obtain⟨rfl,_⟩:=id k
   cases o<;>first|exact k|simp_all
 |@loop a c h1 =>
  simp only[de,SC]at h;refine(XS ?_).2;split at h
  .rename_i st1 ha;refine wpIn_mono (hc ha h1 hn s ro ds hro) λe a1 w1 k=>FV hro k (λ_ t1 ds1 g1 O1 hs1 s1 hro1 hcomp=>?_) (λhne=>absurd rfl hne)
   exact(hl h h1 o_ s1 ro ds1 hro1).mono hcomp
  .rename_i x hx;refine wpIn_mono (hc h h1 hn s ro ds hro) λe a1 w1 k=>FV hro k (λhnm=>?_) (λ_=>⟨rfl,rfl⟩)
   simp_all
 |@rangeF rd o' ps qs a b c d h1 h2 h3 h4 h5 =>
  subst hn h2;exact ahR hr h h1 h3 h4 h5 s ro ds hro
 |exit =>
  simp only[de,ae,aM]at h;obtain⟨rfl,rfl⟩:=h;exact wpIn_exit (cq.refl (.exit _) s)
 |@scope a c h1 =>
  exact am0 (hs h h1 h1 hn s ro ds hro)
 |label =>
  obtain⟨rfl,rfl⟩:=h;exact wpIn_label (cq.refl .normal s)
 |goto =>
  obtain⟨rfl,rfl⟩:=h;exact wpIn_goto (cq.refl (.goto _) s)
 |ret =>
  obtain⟨rfl,rfl⟩:=h;exact wpIn_ret (cq.refl .ret s)
def anK (hc:jh P r)(hl:IX P r){v:VC}{o:bX}(h:de (.loop v) r st=some (o,st')){c:Code}{n:Nat}(h1:Mt P n v c)(hn:t.size=n)
  (s:S P g w st t O)(ro:J_)(ds:List Deferred)(hro:E1 w ro):ND ro P c (cq P g w t O ds ro o st') ⟨t,ds⟩ w:=by
 simp only[de,SC]at h;refine(XS ?_).1;split at h
 .rename_i st1 ha;refine wpIn_mono (hc ha h1 hn s ro ds hro) λe a1 w1 k=>FV hro k (λ_ t1 ds1 g1 O1 hs1 s1 hro1 hcomp=>?_) (λhne=>absurd rfl hne)
  exact(hl h h1 o_ s1 ro ds1 hro1).mono hcomp
 .refine wpIn_mono (hc h h1 hn s ro ds hro) λe a1 w1 k=>FV hro k (λhnm=>?_) (λ_=>⟨rfl,rfl⟩)
  simp_all
def ald (hc:jh P r)(hs:Fb P r){v cur:VC}{o:bX}(h:de (.inScope v cur) r st=some (o,st')){body c:Code}{n:Nat}(h1:Mt P n v body)(h2:Mt P n cur c)(hn:t.size=n)
  (s:S P g w st t O)(ro:J_)(ds:List Deferred)(hro:E1 w ro):GB ro P body c (cq P g w t O ds ro o st') ⟨t,ds⟩ w:=by
 simp only[de,K7]at h;refine aib ?_;split at h
 .rename_i l st1 ha;refine wpIn_mono (hc ha h2 hn s ro ds hro) λe a1 w1 k=>?_
  have k0:=k;obtain⟨rfl,g1,O1,ms,G,hd,hm,hr⟩:=k;have hf:=aoC h1 l;simp only[GZ,Exit.scope];split at h
  .rename_i rest hrest;rw[hrest]at hf;obtain⟨y,hy,hmy⟩:=hf;rw[hy];obtain⟨t1,d1⟩:=a1;subst hd;exact(hs h h1 hmy (by rw[G.size,hn]) G.st ro _ (hro.ext G.ext)).mono λe a2 w2 k=>cq.comp G hm hr k
  .rename_i hnone;rw[hnone]at hf;rw[hf];obtain⟨rfl,rfl⟩:=h;exact k0
 .refine wpIn_mono (hc h h2 hn s ro ds hro) λe a1 w1 k=>?_
  obtain⟨rfl,_⟩:=id k
  cases o<;>first|exact k|simp_all
theorem Yj {r:dF}:∀{ops:R_}{st st':St},ops.all ML=true->lh r ops st=some st'->∀{g:Gh}{w:World}{t:G_}{O:Nat->Nat},S P g w st t O->∃g' O',gS P g w t O st' t w g' O'
 |[],st,st',_,h,g,w,t,O,s=>by
  simp only[lh,ae]at h;subst h;exact⟨g,O,gS.refl s⟩
 |i::l,st,st',ha,h,g,w,t,O,s=>by
  simp only[gP,af]at ha;simp only[lh]at h;split at h
  .rename_i st1 hv;obtain⟨g1,O1,G1⟩:=acD s ha.1 hv;obtain⟨g2,O2,G2⟩:=Yj ha.2 h G1.st;exact⟨g2,O2,G1.trans G2⟩
  simp_all
def alN (hg:Fj P r){v:VC}{o:bX}(hv:xX v=true)(h:de v r st=some (o,st')):o=.normal∧∀{g:Gh}{w:World}{t:G_}{O:Nat->Nat},S P g w st t O->∃g' O',gS P g w t O st' t w g' O':=by
 cases v<;>simp only[xX,aq]at hv
 .grind [de,TL,Yj]
 .simp only[af]at hv;simp only[de,P7]at h;split at h
  .rename_i st1 hst;obtain⟨_,h1⟩:=hg hv.1 hst;obtain⟨ho,h2⟩:=hg hv.2 h;refine⟨ho,λs=>?_⟩;obtain⟨g1,O1,G1⟩:=h1 s;obtain⟨g2,O2,G2⟩:=h2 G1.st;exact⟨g2,O2,G1.trans G2⟩
  .obtain⟨ho,_⟩:=hg hv.1 h
   simp_all
end
abbrev aR:=@List.append_nil
abbrev ck:=@List.length_nil
abbrev ur:=@List.getElem?_cons_succ
section
variable {P:Program}
def Qq {fn:Func}{vf:aj}(h5:mK P vf.results fn.results.toList=true){v:AV}{hs':HS}{o:bX}{st1:St}(ho:o=.normal∨o=.ret)(hend:Hl vf st1=some (v,hs')){g:Gh}{w:World}{t:G_}{O:Nat->Nat}
  {e:Exit}{a':Act}{w':World}(k:cq P g w t O [] none o st1 e a' w'):bodyPostM (FR none) 0 P fn (gW P g w O v hs') e a' w':=by
 obtain⟨rfl,g',O',ms,G,hd,hm,_⟩:=k;rw[aR]at hd;have key:LeavesInM (FR none) 0 P fn a'.tmps (gW P g w O v hs') a'.defers .returning w':=by
  rw[hd];refine Xx hm G.st λw2 s2 hx2=>?_
  obtain⟨x,Ov,Oh2,hrun,rx,sh2,l2⟩:=aei h5 hend s2;refine⟨x,hrun,g',Ov,Oh2,rx,sh2,G.ext.trans hx2 (λb hb hq=>absurd hq o_),λb=>by have:=l2 b;have:=s2.le b;omega,λb hb=>?_,λb hb=>s2.hi b e_⟩
  grind [gS.old]
 rcases ho with rfl|rfl
 .exact key
 .exact key
def akB {r:dF}(hr:iB P r)(hrd:FN P r){fn:Func}{vf:aj}(h5:mK P vf.results fn.results.toList=true){v v1:AV}{hs2 hs':HS}{o:bX}{st1:St}(ho:o=.normal∨o=.ret){f id off:Nat}
  (hcall:r.call f [.ptr id off] st1.hs=some (v1,hs2))(hend:Hl vf ⟨st1.env,hs2⟩=some (v,hs')){g:Gh}{w:World}{t:G_}{O:Nat->Nat}{x:Value}(hx:∃b,g.obj id=some b∧x=.pointer (some ⟨b,g.base id+off,none⟩))
  {e:Exit}{a':Act}{w':World}(k:cq P g w t O [{ target:=.fn (.func f) #[],args:=#[x] }] none o st1 e a' w'):bodyPostM (FR none) 0 P fn (gW P g w O v hs') e a' w':=by
 obtain⟨rfl,g',O',ms,G,hd,hm,_⟩:=k;obtain⟨hf,hk⟩:=hr hcall;have key:LeavesInM (FR none) 0 P fn a'.tmps (gW P g w O v hs') a'.defers .returning w':=by
  rw[hd];refine U2 hm G.st λw2 s2 hx2=>?_
  have hx12:bI g w g' w2 λb=>O b≠0:=G.ext.trans hx2 (λb hb hq=>absurd hq o_)
  obtain⟨b,hb,hxe⟩:=hx;obtain⟨k1,k2,_⟩:=hx12.obj id b hb;have rv:RVs g' w2 [.ptr id off] [x] zero:=by
   refine⟨x,[],zero,zero,rfl,?_,⟨rfl,λ_=>rfl⟩,λ_=>rfl⟩
   grind [RV]
  obtain⟨Oe,Oh,re,sh,hO⟩:=s2.split;refine⟨s_,.inr ⟨by simp[Fence.wide],.func f,#[],f,#[x],rfl,?_,λ_ _=>trivial,(hrd hcall rv sh (λb=>by have:=s2.le b;grind) (λb hb=>by simp at hb) .returning).mono ?_⟩⟩
  .show(callFunc f (#[x]++#[])).run P w2=_
   grind [xU]
  .rintro e u' w3 ⟨rfl,hp⟩
   cases e with
   |panicked c=>exact hp.elim
   |outgrown=>exact hp.elim
   |returned y =>
    obtain⟨g3,Oa,O3,A⟩:=It (v:=v1) (hs:=st1.hs) (t:=a'.tmps) s2.se re (λb=>by simp_all) s2 hp;obtain⟨x4,Ov,Oh2,hrun,rx,sh2,l2⟩:=aei h5 hend A.st;refine⟨x4,hrun,g3,Ov,Oh2,rx,sh2,hx12.trans A.ext (λb hb h=>by grind [gS.old]),λb=>by have:=l2 b;have:=A.le b;omega,λb hb=>?_,λb hb=>A.st.hi b e_⟩;have:=l2 b;have:=G.old b hb;have:=A.old b (aW hb hx12.size);omega
 rcases ho with rfl|rfl
 .exact key
 .exact key
def akH {r:dF}(hc:jh P r)(hr:iB P r)(hrd:FN P r){n i d f:Nat}{a:VC}{c:Code}(hk:Ur P n i d f a c=true){fn:Func}{vf:aj}(h5:mK P vf.results fn.results.toList=true){st st1:St}{o:bX}{v:AV}{hs':HS}
  (h:RU r i d f a st=some (o,st1))(hend:Hl vf st1=some (v,hs')){g:Gh}{w:World}{t:G_}{O:Nat->Nat}(hn:t.size=n)(s:S P g w st t O) :
  c.wpIn (FR none) 0 P (bodyPostM (FR none) 0 P fn (gW P g w O v hs')) ⟨t,[]⟩ w:=by
 obtain⟨env,hs⟩:=st;unfold Ur at hk;split at hk
 .rename_i rid os rest;simp only[af]at hk;obtain⟨⟨hk1,hdn⟩,hrest⟩:=hk;split at hk1
  .rename_i m kk hos;simp only[af]at hk1;obtain⟨⟨⟨⟨hm1,hm2⟩,hk1a⟩,hk1b⟩,hk2⟩:=hk1;obtain⟨hmd,hmg⟩:=B6 hm1;have hk1a':kk.dst=none:=u_;have hk1b':kk.guard=none:=u_;split at hm2
   .rename_i y hmop;have:=yg hm2;subst this;split at hk2
    .rename_i cl hkop;simp only[af]at hk2;obtain⟨hcal,hargs⟩:=hk2;have hcal':=LS hcal;split at hargs
     .rename_i y hay;have:=yg hargs;subst this;have harr:cl.args=#[.tmp d]:=aCV hay;have hosA:os=#[m,kk]:=e_;subst hosA;have hd:d<t.size:=u_;unfold RU at h;split at h
      .rename_i id off hget;obtain⟨Ov,O1,rv,s1,l1⟩:=s.rd (r:=.s i) (o:=.tmp i) (by simp[cI]) (v:=.ptr id off) (e':=env) (by grind [rd,share]);obtain⟨hxp,hOv⟩:=rv;have rv':RV g w (.ptr id off) (ev t (.tmp i)) zero:=by grind [RV]
       obtain⟨O2,s2,l2⟩:=s.setTmp hd rv' (λb=>by have:=s.le b;simp_all) (λb hb=>by simp at hb);have hle2:∀b,O2 b<=O b:=λb=>by simp_all
       have hst:∃o1 st0 v1 hs2,(o1=.normal∨o1=.ret)∧r.code a ⟨put env d (.ptr id off),hs⟩=some (o1,st0)∧r.call f [.ptr id off] st0.hs=some (v1,hs2)∧st1=⟨st0.env,hs2⟩:=by
        grind
       obtain⟨o1,st0,v1,hs2,ho1,hra,hcl,rfl⟩:=hst;refine wpIn_seq (wpIn_region ?_);have hx2:(t.setIfInBounds d (ev t (.tmp i))).getD d undef=ev t (.tmp i):=u_;have hgo:rest.wpIn (FR none) 0 P (bodyPostM (FR none) 0 P fn (gW P g w O v hs')) ⟨t.setIfInBounds d (ev t (.tmp i)),[{ target:=.fn (.func f) #[],args:=#[ev t (.tmp i)] }]⟩ w:=by
        refine wpIn_mono (hc hra (jN a rest hrest) (by simp[hn]) s2 none _ (λl hl=>by simp at hl)) λe a' w' k=>?_
        exact akB hr hrd h5 ho1 hcl hend hxp (k.mono hle2)
       simp only[List.range,List.range.loop,List.size_toArray,ar,ck,wpOpsIn,b7];simp only[List.getElem?_toArray,bK,ur,Region.wanted,hmg,hk1b',bR,Oper.wpIn];refine⟨λ_ _=>trivial,?_⟩;rw[Qd t [] u_];simp only[execOp,hmop,dA,Oper.uponIn_value,Act.put,hmd];rw[Oper.semAt_none,IS];have hrun:(execOp (ev (t.setIfInBounds d (ev t (.tmp i)))) kk).run P w=.ok (.defer { target:=.fn (.func f) #[],args:=#[ev t (.tmp i)] }) w:=by
        have h0:ev (t.setIfInBounds d (ev t (.tmp i))) (.tmp d)=ev t (.tmp i):=hx2;have h1:ev (t.setIfInBounds d (ev t (.tmp i))) (.func f)=.func (.func f) #[] #[]:=rfl
        simp_all [execOp,resolve,Deferred.ofValue]
       rw[hrun,Oper.uponIn_defer];simp only[Act.put,hk1a'];exact⟨λ_ _=>trivial,hgo⟩
      simp_all
     simp_all
    simp_all
   simp_all
  simp_all
 simp_all
def ab5 {T:Nat->X_}(hT:K5 P T){r:dF}(hc:jh P r)(hl:IX P r)(hs:Fb P r)(hgh:Fj P r)(hr:iB P r)(hrd:FN P r){f:FuncId}{args:D_}{hs0:HS}{v:AV}{hs':HS}
  (h:xq T r f args hs0=some (v,hs')):∃fn c,P.funcs[f]?=some fn∧fn.body=some c∧fn.name≠ "runtime.NumGoroutine"∧∀{g:Gh}{w:World}{xs:M_}{Oa Oh:Nat->Nat},RVs g w args xs Oa->S P g w ⟨[],hs0⟩ #[] Oh->(∀b,Oa b+Oh b<=1)->(∀b,Oa b≠0->b<w.heap.size)->
   c.wpIn (FR none) 0 P (bodyPostM (FR none) 0 P fn (gW P g w (λb=>Oa b+Oh b) v hs')) ⟨xs.toArray++Array.replicate (fn.ntmps-xs.toArray.size) undef,[]⟩ w:=by
 unfold xq at h;split at h
 .simp at h
 .rename_i vf hvf;obtain⟨fn,c,h1,h2,h3,h4,h5,h6⟩:=hT f vf hvf;refine⟨fn,c,h1,h2,h3,λ{g w xs Oa Oh} rv sh hle hhi=>?_⟩;split at h
  .simp at h
  .have hxl:=rv.length;have hfin:∀{o:bX}{st1:St},(o=.normal∨o=.ret)->de vf.body r ⟨kK 0 args,hs0⟩=some (o,st1)->Hl vf st1=some (v,hs')->
     c.wpIn (FR none) 0 P (bodyPostM (FR none) 0 P fn (gW P g w (λb=>Oa b+Oh b) v hs')) ⟨xs.toArray++Array.replicate (fn.ntmps-xs.toArray.size) undef,[]⟩ w:=by
    intro o st1 ho hcode hend;have s:=auJ rv sh hle hhi (fn.ntmps-xs.toArray.size);have hsz:(xs.toArray++Array.replicate (fn.ntmps-xs.toArray.size) undef).size=fn.ntmps:=u_;rcases h6 with hm|⟨m,hb,hcl,h8⟩|⟨i,d,f2,a,hb,hlt⟩
    .exact wpIn_mono (acg hc hl hs hgh hr hcode hm hsz s none [] (λl hl=>by simp at hl)) λe a' w' k=>Qq h5 ho hend k
    .rw[hb]at hcode;exact wpIn_mono (amL hcl hcode o_ s) λe a' w' k=>Qq h5 ho hend k
    .rw[hb]at hcode;exact akH hc hr hrd hlt h5 hcode hend hsz s
   grind
def anA {T:Nat->X_}(hT:K5 P T){r:dF}(hc:jh P r)(hl:IX P r)(hs:Fb P r)(hgh:Fj P r)(hr:iB P r)(hrd:FN P r){f:FuncId}{args:D_}{hs0:HS}{v:AV}{hs':HS}
  (h:xq T r f args hs0=some (v,hs')):amy P f∧∀{g:Gh}{w:World}{xs:M_}{Oa Oh:Nat->Nat},RVs g w args xs Oa->S P g w ⟨[],hs0⟩ #[] Oh->(∀b,Oa b+Oh b<=1)->(∀b,Oa b≠0->b<w.heap.size)->
   CallsIn (FR none) 0 P f xs.toArray w (gW P g w (λb=>Oa b+Oh b) v hs'):=by
 obtain⟨fn,c,h1,h2,h3,hk⟩:=ab5 hT hc hl hs hgh hr hrd h;exact⟨⟨fn,h1,by simp[h2],h3⟩,λrv sh hle hhi=>callsIn_of_wp_marks (F:=FR none) h1 h2 trivial (hk rv sh hle hhi)⟩
def alt {T:Nat->X_}(hT:K5 P T){r:dF}(hc:jh P r)(hl:IX P r)(hs:Fb P r)(hgh:Fj P r)(hr:iB P r)(hrd:FN P r){f:FuncId}{args:D_}{hs0:HS}{v:AV}{hs':HS}
  (h:xq T r f args hs0=some (v,hs')):∀{g:Gh}{w:World}{xs:M_}{Oa Oh:Nat->Nat},RVs g w args xs Oa->S P g w ⟨[],hs0⟩ #[] Oh->(∀b,Oa b+Oh b<=1)->(∀b,Oa b≠0->b<w.heap.size)->∀u:FrameMode,
   CallsDIn (FR none) 0 P f xs.toArray u w λe u' w'=>u'=u∧gW P g w (λb=>Oa b+Oh b) v hs' e w':=by
 obtain⟨fn,c,h1,h2,h3,hk⟩:=ab5 hT hc hl hs hgh hr hrd h;exact λrv sh hle hhi u=>OA (F:=FR none) h1 h2 trivial (hk rv sh hle hhi)
def awj {T:Nat->X_}(hT:K5 P T):∀n,jh P (run T n)∧IX P (run T n)∧Fb P (run T n)∧Fj P (run T n)∧iB P (run T n)∧FN P (run T n)
 |0=>⟨λh=>by simp[run]at h,λh=>by simp[run]at h,λh=>by simp[run]at h,λ_ h=>by simp[run]at h,λh=>by simp[run]at h,λh=>by simp[run]at h⟩
 |n+1=>by
  obtain⟨hc,hl,hs,hgh,hr,hrd⟩:=awj hT n;refine⟨λ{v st o st'} h {c m} hm {g w t O} hn s ro ds hro=>?_,λ{v st o st'} h {c m} hm {g w t O} hn s ro ds hro=>?_,λ{v cur st o st'} h {body c m} h1 h2 {g w t O} hn s ro ds hro=>?_,λ{v st o st'} hv h=>?_,λ{f args hs0 v hs'} h=>?_,λ{f args hs0 v hs'} h=>?_⟩
  .exact acg hc hl hs hgh hr h hm hn s ro ds hro
  .exact anK hc hl h hm hn s ro ds hro
  .exact ald hc hs h h1 h2 hn s ro ds hro
  .exact alN hgh hv h
  .exact anA hT hc hl hs hgh hr hrd h
  .exact alt hT hc hl hs hgh hr hrd h
def VW {T:Nat->X_}(hT:K5 P T){n:Nat}{f:FuncId}{args:D_}{v:AV}{hs':HS}(h:(run T n).call f args ⟨[],0⟩=some (v,hs')){g:Gh}{w:World}{xs:M_}
  (hobj:∀id,g.obj id=none)(hpm:∀b o,g.pm b o->b<w.heap.size)(rv:RVs g w args xs zero) :
  Calls P f xs.toArray w (gW P g w zero v hs'):=by
 obtain⟨_,_,_,_,hr,_⟩:=awj hT n;obtain⟨_,hk⟩:=hr h;have sh:S P g w ⟨[],⟨[],0⟩⟩ #[] zero:=⟨List.Pairwise.nil,List.Pairwise.nil,⟨zero,zero,λ_=>rfl,λ_=>rfl,λ_=>rfl⟩,λ_=>by simp,λb hb=>by simp at hb,λid _=>hobj id,hpm⟩
 grind [CallsIn.calls,aat]
end
#print axioms VW
abbrev tT:=@List.flatten_cons
abbrev uw:=@Option.bind_eq_some_iff
abbrev wv:=@Option.map_eq_some_iff
abbrev tD:=@List.length_range
inductive Ty where
 |int (k:IntKind)
 |bool
 |str
 |lst (es:List Ty)
mutual
def v7:Ty->D->Prop
 |.int k,.int j n=>j=k∧(Lit.int k n).wf=true
 |.bool,.bool _=>True
 |.str,.str _=>True
 |.lst es,.lst xs=>∀x∈xs,OkDs es x
 |_,_=>False
def OkDs:List Ty->V_->Prop
 |[],[]=>True
 |t::ts,d::ds=>v7 t d∧OkDs ts ds
 |_,_=>False
end
def aeP (P:Program)(f:TypeId->Option (List Ty)):List Field->Nat->Option (List Ty)
 |[],_=>some []
 |fd::r,off=>match Nat.beq fd.offset off,f fd.type with
  |true,some ts=>match Nat.beq (P.cellsOf fd.type) ts.length,aeP P f r (off+ts.length) with
   |true,some us=>some (ts++us)
   |_,_=>none
  |_,_=>none
def F9 (P:Program):Nat->TypeId->Option (List Ty)
 |0,_=>none
 |n+1,t=>match P.underlying t with
  |some .bool=>some [.bool]
  |some (.int k)=>some [.int k]
  |some .string=>some [.str]
  |some (.slice e)=>match F9 P n e with
   |some (x::xs)=>match Nat.beq (P.cellsOf e) (x::xs).length with
    |true=>some [.lst (x::xs)]
    |false=>none
   |_=>none
  |some (.struct fs)=>match aeP P (F9 P n) fs.toList 0 with
   |some ts=>match Nat.beq (P.cellsOf t) ts.length with
    |true=>some ts
    |false=>none
   |none=>none
  |_=>none
mutual
def gu {H:Type}:DataW H->V_
 |.lit (.int k n)=>[.int k n]
 |.lit (.bool b)=>[.bool b]
 |.lit (.string s)=>[.str s]
 |.nil=>[.lst []]
 |.slice es _=>[.lst (cellsEs es)]
 |.agg ps=>cellsPs ps
 |_=>[]
def cellsEs {H:Type}:List (DataW H)->F_
 |[]=>[]
 |d::r=>gu d::cellsEs r
def cellsPs {H:Type}:List (DataW H)->V_
 |[]=>[]
 |d::r=>gu d++cellsPs r
end
theorem OkDs.len:∀{ts:List Ty}{ds:V_},OkDs ts ds->ds.length=ts.length
 |[],[],_=>rfl
 |t::ts,d::ds,h=>by simp[OkDs.len h.2]
 |[],_::_,h=>by simp[OkDs]at h
 |_::_,[],h=>by simp[OkDs]at h
theorem OkDs.append:∀{ts us:List Ty}{ds es:V_},OkDs ts ds->OkDs us es->OkDs (ts++us) (ds++es)
 |[],us,[],es,_,h=>h
 |t::ts,us,d::ds,es,h,h2=>by
  exact⟨h.1,h.2.append h2⟩
 |[],_,_::_,_,h,_=>by simp[OkDs]at h
 |_::_,_,[],_,h,_=>by simp[OkDs]at h
def Xm {α β:Type}{f:α->Option β}:∀{l:List α}{ys:List β},l.mapM f=some ys->ys.length=l.length∧∀(i:Nat) (x:α),l[i]?=some x->∃y,ys[i]?=some y∧f x=some y
 |[],ys,h=>by simp_all
 |a::l,ys,h=>by
  cases ha:f a with
  |none=>simp_all
  |some b =>
   cases hl:l.mapM f with
   |none=>simp_all
   |some bs =>
    obtain⟨h1,h2⟩:=Xm hl
    grind
def aht {H:Type}(ds:List (DataW H)):cellsEs ds=ds.map gu:=by
 induction ds<;>grind [cellsEs]
def adl {xs:F_}{m:Nat}(h:∀e∈xs,e.length=m){j:Nat}{c:D}(hj:xs.flatten[j]?=some c):∃i k e,j=i*m+k∧k<m∧xs[i]?=some e∧e[k]?=some c:=by
 induction xs generalizing j with
 |nil=>simp at hj
 |cons x xs ih =>
  have hx:=h x (.head _);rw[tT]at hj;rcases bD j x.length with hlt|hge
  .rw[dj hlt]at hj;exact⟨0,j,x,s_,o_,rfl,hj⟩
  .rw[dB hge]at hj;obtain⟨i,k,e,h1,h2,h3,h4⟩:=ih (λe he=>h e (.tail _ he)) hj;exact⟨i+1,k,e,e_,h2,u_,h4⟩
section
variable {H:Type}{enc:TypeId×Value->H}{P:Program}{W:World}{sp:Nat->Bool}{held:Bool}
abbrev Gt (W:World):Nat->Nat->Prop:=λb _=>b<W.heap.size
def ajt {a:Addr}{v:Value}(h:W.cell? a=some v):a.block<W.heap.size∧a.spot=none:=by
 unfold World.cell? at h;split at h<;>simp_all [jH]
def Vs {f:TypeId->Option (List Ty)}{g:TypeId->M_->Option (DataW H×List MemPlace)}
  (ih:∀t ts cs x,f t=some ts->g t cs=some x->OkDs ts (gu x.1)∧cs.length=(gu x.1).length∧∀(j:Nat) (c:D),(gu x.1)[j]?=some c->∃u,cs[j]?=some u∧RD W (Gt W) c u) :
  ∀{fs:List Field}{off:Nat}{ts:List Ty}{cs:M_}{xs:List (DataW H×List MemPlace)},aeP P f fs off=some ts->off+ts.length<=cs.length->
   fs.mapM (λfd=>g fd.type ((cs.drop fd.offset).take (P.cellsOf fd.type)))=some xs->
   OkDs ts (cellsPs (xs.map (·.1)))∧∀(j:Nat) (c:D),(cellsPs (xs.map (·.1)))[j]?=some c->∃u,cs[off+j]?=some u∧RD W (Gt W) c u
 |[],off,ts,cs,xs,h,hb,hm=>by
  grind [aeP,cellsPs,OkDs]
 |fd::fs,off,ts,cs,xs,h,hb,hm=>by
  simp only[aeP]at h;split at h
  .rename_i ts1 ho h1;rw[aC]at ho;split at h
   .rename_i us hc h2;rw[aC]at hc;simp only[ae]at h;subst h;simp only[aN]at hb;simp only[List.mapM_cons,Option.bind_eq_bind,Option.pure_def]at hm
    cases hg:g fd.type ((cs.drop fd.offset).take (P.cellsOf fd.type)) with
    |none=>simp_all
    |some x =>
     cases hr:fs.mapM (λfd=>g fd.type ((cs.drop fd.offset).take (P.cellsOf fd.type))) with
     |none=>simp_all
     |some ys =>
      obtain⟨q1,q2⟩:=Vs ih h2 o_ hr
      grind [cellsPs,OkDs.append]
   simp_all
  simp_all
def WE:∀(fuel n:Nat) (t:TypeId) (ts:List Ty) (cs:M_) (x:DataW H×List MemPlace),F9 P n t=some ts->DataW.trod enc P W 0 sp held fuel t cs=some x->
  OkDs ts (gu x.1)∧cs.length=(gu x.1).length∧∀(j:Nat) (c:D),(gu x.1)[j]?=some c->∃u,cs[j]?=some u∧RD W (Gt W) c u
 |0,_,_,_,_,_,_,h=>by simp[DataW.trod]at h
 |_+1,0,_,_,_,_,h,_=>by simp[F9]at h
 |fuel+1,n+1,t,ts,cs,x,hty,h=>by
  have one:∀{d:D}{v:Value},OkDs ts [d]->RD W (Gt W) d v->gu x.1=[d]->cs=[v]->OkDs ts (gu x.1)∧cs.length=(gu x.1).length∧∀(j:Nat) (c:D),(gu x.1)[j]?=some c->∃u,cs[j]?=some u∧RD W (Gt W) c u:=by
   grind
  simp only[F9]at hty;unfold DataW.trod at h
  cases hu:P.underlying t with
  |none=>simp_all
  |some d =>
   rw[hu]at hty h
   cases d<;>simp only[reduceCtorEq]at hty
   case bool =>
    simp only[ae]at hty;subst hty
    match cs,h with
    |[.bool b],h =>
     simp only[ae]at h;subst h;exact one (d:=.bool b) (by simp[OkDs,v7]) (.bool _) rfl rfl
   case int k =>
    simp only[ae]at hty;subst hty
    match cs,h with
    |[.int k' m],h =>
     simp only at h;split at h
     .rename_i hk;obtain⟨rfl,hwf⟩:=hk;simp only[ae]at h;subst h;exact one (d:=.int k' m) (by grind [OkDs,v7]) (.int _ _) rfl rfl
     simp_all
   case string =>
    simp only[ae]at hty;subst hty
    match cs,h with
    |[.string s],h =>
     simp only at h;split at h
     .simp only[ae]at h;subst h;refine one (d:=.str s.data.toList) (by simp[OkDs,v7]) ?_ rfl rfl;have:=RD.str (w:=W) (pm:=Gt W) s.data.toList;omega
     simp_all
   case slice e =>
    split at hty
    .rename_i y ys hte;split at hty
     .rename_i hce;rw[aC]at hce;simp only[ae]at hty;subst hty
      match cs,h with
      |[.slice none 0 0],h =>
       simp only[ae]at h;subst h;exact one (d:=.lst []) (by simp[OkDs,v7]) (.nil _ _) rfl rfl
      |[.slice (some a) len cap],h =>
       simp only at h;split at h
       .rename_i hb;obtain⟨_,hlc,_⟩:=hb;simp only[uw,wv]at h;obtain⟨elems,hel,rest,_,rfl⟩:=h;obtain⟨hlen,hget⟩:=Xm hel;simp only[tD]at hlen;have helem:∀i,i<len->∃z,elems[i]?=some z∧∃cs',W.cells? 0 (a.add (i*P.cellsOf e)) (P.cellsOf e)=some cs'∧OkDs (y::ys) (gu z.1)∧cs'.length=(gu z.1).length∧
          ∀(j:Nat) (c:D),(gu z.1)[j]?=some c->∃u,cs'[j]?=some u∧RD W (Gt W) c u:=by
         intro i hi;obtain⟨z,hz,hf⟩:=hget i i (by simp[hi]);simp only[uw]at hf;obtain⟨cs',hcs,htr⟩:=hf;exact⟨z,hz,cs',hcs,WE fuel n e (y::ys) cs' z hte htr⟩
        have hmem:∀d∈elems.map (·.1),OkDs (y::ys) (gu d):=by
         grind [List.mem_iff_getElem]
        have hes:cellsEs (elems.map (·.1))=elems.map λz=>gu z.1:=by simp_all [aht]
        have hlm:∀e'∈cellsEs (elems.map (·.1)),e'.length=(y::ys).length:=by
         grind [OkDs.len]
        refine one (d:=.lst (cellsEs (elems.map (·.1)))) ?_ ?_ rfl rfl
        .grind [OkDs,v7]
        .by_cases h0:len=0
         .subst h0;have:elems=[]:=aI hlen;subst this;exact .nil _ _
         .obtain⟨ab,aoff,asp⟩:=a;have hm0:0<(y::ys).length:=s_;have hcell:∀i k,i<len->k<(y::ys).length->∃z c u,elems[i]?=some z∧(gu z.1)[k]?=some c∧W.cell? ((Addr.add ⟨ab,aoff,asp⟩ (i*P.cellsOf e)).add k)=some u∧RD W (Gt W) c u:=by
           intro i k hi hk;obtain⟨z,hz,cs',hcs,hok,hl2,hrd⟩:=helem i hi;have hkl:k<(gu z.1).length:=e_;obtain⟨u,hu,hr⟩:=hrd k _ (co hkl);unfold World.cells? at hcs;rw[ac (dp _)]at hcs;obtain⟨hcl,hcg⟩:=Xm hcs;obtain⟨v,hv,hw⟩:=hcg k k (by simp_all)
           grind
          obtain⟨_,_,u0,_,_,hu0,_⟩:=hcell 0 0 o_ hm0;have hasp:asp=none:=by
           have:=(ajt hu0).2
           grind [Addr.add]
          subst hasp;have hll:(cellsEs (elems.map (·.1))).length=len:=u_;have:=jd.rd (w:=W) (pm:=Gt W) (xs:=cellsEs (elems.map (·.1))) (b:=ab) (off:=aoff) (cap:=cap) hm0 o_ hlm (λj c hj=>?_) (λj _=>(ajt hu0).1 |> λh=>by grind [Addr.add])
          .simp_all
          .obtain⟨i,k,e',rfl,hk,hi,hck⟩:=adl hlm hj;have hil:i<len:=e_;obtain⟨z,c',u,hz,hc',hcell',hr⟩:=hcell i k hil hk
           grind [lY]
       simp_all
     simp_all
    simp_all
   case struct fs =>
    split at hty
    .rename_i us hfs;split at hty
     .rename_i hcl;rw[aC]at hcl;simp only[ae]at hty;subst hty;have h':(if cs.length=P.cellsOf t then (fs.toList.mapM λf=>DataW.trod enc P W 0 sp held fuel f.type ((cs.drop f.offset).take (P.cellsOf f.type))).map λxs=>((.agg (xs.map (·.1)):DataW H),xs.flatMap (·.2)) else none)=some x:=by
       omega
      split at h'
      .simp only[wv]at h';obtain⟨xs,hxs,rfl⟩:=h';obtain⟨q1,q2⟩:=Vs (P:=P) (f:=F9 P n) (g:=DataW.trod enc P W 0 sp held fuel) (λt ts cs x h1 h2=>WE fuel n t ts cs x h1 h2) (cs:=cs) hfs o_ hxs
       grind [OkDs.len,gu]
      .simp at h'
     .simp at hty
    simp_all
end
open Go.ChangeShapes Go.WideShapes Go.ChangeAt Go.RowKit
def Mk (P:Program)(n:Nat):List TypeId->Option (List (Bool×List Ty))
 |[]=>some []
 |t::ts=>match F9 P n t,Mk P n ts with
  |some tys,some r=>some ((DM P t,tys)::r)
  |_,_=>none
def adR (agg:Bool)(cs:V_):AV :=
 match agg with
 |true=>.agg (cs.map .d)
 |false=>match cs with
  |[c]=>.d c
  |_=>.junk
def Jo {H:Type}:List (Bool×List Ty)->List (DataW H)->D_
 |(b,_)::ts,d::ds=>adR b (gu d)::Jo ts ds
 |_,_=>[]
def Bv {H:Type}:List (Bool×List Ty)->List (DataW H)->Prop
 |[],[]=>True
 |(_,tys)::ts,d::ds=>OkDs tys (gu d)∧Bv ts ds
 |_,_=>False
def Gh.all (W:World):Gh where
 obj _:=none
 base _:=0
 esz _:=0
 bsz _:=0
 pm:=Gt W
section
variable {H:Type}{enc:TypeId×Value->H}{P:Program}{W:World}{sp:Nat->Bool}
def afW {n:Nat}{base:Nat}:∀{ts:List TypeId}{vs:M_}{ds:List (DataW H)}{ps:List MemPlace}{tys:List (Bool×List Ty)},DataW.TrodAll enc P W 0 sp true ts vs ds ps->Mk P n ts=some tys->
  (∀(j:Nat) t v,ts[j]?=some t->vs[j]?=some v->Value.okWide P W .any base t v)->RVs (Gh.all W) W (Jo tys ds) vs zero∧Bv tys ds
 |[],[],[],_,tys,_,h,_=>by
  grind [Mk,Jo,RVs,Bv]
 |t::ts,v::vs,d::ds,ps,tys,hA,h,hok=>by
  obtain⟨p,q,⟨fuel,htr⟩,hrest,rfl⟩:=hA;simp only[Mk]at h;split at h
  .rename_i ty r h1 h2;simp only[ae]at h;subst h;obtain⟨k1,k2,k3⟩:=WE fuel n t ty v.cells.toList (d,p) h1 htr;obtain⟨q1,q2⟩:=afW hrest h2 λj t v h1 h2=>hok (j+1) t v u_ (by simp_all)
   refine⟨?_,k1,q2⟩;have hv:=hok 0 t v rfl rfl;have hrv:RV (Gh.all W) W (adR (DM P t) (gu d)) v zero:=by
    unfold Value.okWide at hv
    cases ha:DM P t with
    |true =>
     have hagg:∃cs,v=.agg cs:=by
      grind [DM]
     obtain⟨cs,rfl⟩:=hagg;refine⟨cs,rfl,RVs.ds (g:=Gh.all W) rfl (by grind [Value.cells]) λj c x hc hx=>?_⟩;obtain⟨u,hu,hr⟩:=k3 j c hc;have:u=x:=by
      grind [Value.cells]
     rw[<-this];exact hr
    |false =>
     have hone:v.cells=#[v]:=by
      have:Cell.okWide P W .any base t v:=by
       grind [DM]
      cases v<;>first|rfl|simp_all [Cell.okWide,Cell.ok]
     rw[hone]at k2 k3
     match hcd:gu d,k2 with
     |[c],_ =>
      obtain⟨u,hu,hr⟩:=k3 0 c e_;simp at hu;subst hu;simp only[adR,RV];exact⟨hr,λ_=>trivial⟩
   grind [Jo,RVs]
  simp_all
 |[],_::_,_,_,_,hA,_,_=>hA.elim
 |[],[],_::_,_,_,hA,_,_=>hA.elim
 |_::_,[],_,_,_,hA,_,_=>hA.elim
 |_::_,_::_,[],_,_,hA,_,_=>hA.elim
theorem abY {W':World}(hl:laidOutB P=true)(hblk:∀b,b<W.heap.size->W'.heap[b]?=W.heap[b]?){sp':Nat->Bool}:∀{ts:List TypeId}{vs:M_}{ds:List (DataW H)}{ps:List MemPlace},
  (∀t∈ts,P.readableRec t=true∧t<P.types.size)->DataW.TrodAll enc P W 0 (λ_=>true) true ts vs ds ps->(∀p∈ps,sp' p.block=true)->DataW.TrodAll enc P W' 0 sp' true ts vs ds ps
 |[],[],[],_,_,h,_=>h
 |t::ts,v::vs,d::ds,ps,hr,h,hs=>by
  have hlt:=h.lt;obtain⟨p,q,⟨fuel,htr⟩,hrest,rfl⟩:=h;obtain⟨h1,h2⟩:=hr t (.head _);refine⟨p,q,⟨fuel,DataW.trod_stays (kids_book hl h1) (book_sized h1) (λh=>by cases h) ⟨h2,book_self t⟩ htr (λx hx=>?_) (λx hx=>hs x (cK _ hx))⟩,
   abY hl hblk (λt ht=>hr t (.tail _ ht)) hrest (λx hx=>hs x (dK _ hx)),rfl⟩
  have hxl:=hlt x (cK _ hx)
  cases x with
  |cell b o=>exact tu (hblk b hxl) o
  |map b=>exact hblk b hxl
 |[],_::_,_,_,_,h,_=>h.elim
 |[],[],_::_,_,_,h,_=>h.elim
 |_::_,[],_,_,_,h,_=>h.elim
 |_::_,_::_,[],_,_,h,_=>h.elim
def afO {T:Nat->X_}(hT:K5 P T){fn:Func}{f:FuncId}{s:ChangeSpec}(hl:laidOutB P=true)(hrec:∀t∈fn.params.toList,P.readableRec t=true∧t<P.types.size)
  {n:Nat}{tys:List (Bool×List Ty)}(hty:Mk P n fn.params.toList=some tys){tb:TypeId}(hres:fn.resultTypes=#[tb])(htb:P.underlying tb=some .bool)(hvars:s.vars=[]){apart:Bool}
  {base:Nat}{args:G_}{ds gs:List (DataW H)}{before:List MemPlace}(hval:∀(j:Nat) t v,fn.params[j]?=some t->args[j]?=some v->Value.okWide P W .any base t v)
  (hW:DataW.Whole enc P fn.params.toList s.vars apart W args.toList ds gs before)(hfn:Bv tys ds->s.fn H ds={ results:=[.lit (.bool true)],args:=ds })
  (hrun:Bv tys ds->gs=[]->∃m hs',(run T m).call f (Jo tys ds) ⟨[],0⟩=some (B_ true,hs')) :
  Calls P f args W λe W'=>∃v,e=.returned v∧s.post enc P fn apart true false false W args v W':=by
 have hW':=hW;obtain⟨p,q,hA,hV,hpq,hfz,hnd⟩:=hW;rw[hvars]at hV;obtain⟨rfl,rfl⟩:=trodVars_none hV;obtain⟨rv,hok⟩:=afW (n:=n) (base:=base) hA hty λj t v h1 h2=>hval j t v u_ (by simp_all)
 obtain⟨m,hs',hcall⟩:=hrun hok rfl;have hc:=VW hT hcall (g:=Gh.all W) (λ_=>rfl) (λb o h=>h) rv;refine hc.mono λe W2 hp=>?_
 cases e with
 |panicked _=>exact hp.elim
 |outgrown=>exact hp.elim
 |returned x =>
  obtain⟨g',Or,Oh,r1,_,hx,_,_,_⟩:=hp;have hxv:=C5 r1 rfl;subst hxv;have hblk:∀b,b<W.heap.size->W2.heap[b]?=W.heap[b]?:=λb hb=>(hx.blk b hb s_).1
  have hsfn:s.fn H (ds++[])={ results:=[.lit (.bool true)],args:=ds }:=u_;refine⟨_,rfl,post_of_same (pa:=p) (pv:=[]) hW' (λb sp hd=>?_) (λsp hsp=>?_) (λsp _=>?_) (by rw[hpq]) ⟨hx.same.1,hx.same.2.1,λi hi=>?_⟩ hx.same.2.2 ?_⟩
  .rw[hres,hsfn];exact trodAll_cons_mk (shut_bool htb _) trodAll_mk0
  .grind [abY]
  .rw[hsfn,hvars];rfl
  .grind
  .exact ok_one hres rfl (okWide_bool_mk htb _)
end
def ZF (P:Program)(vf:aj)(f:FuncId):Bool:=as6 P vf f ||(match vf.body with
 |.clone m=>ZL P m vf f
 |.late i d k a=>abV P i d k a vf f
 |_=>false)
def T.every (p:Nat->aj->Bool):T->Bool
 |.leaf=>true
 |.node k v a b=>p k v && a.every p && b.every p
def T.look_every {p:Nat->aj->Bool}:∀{t:T}{f:Nat}{vf:aj},t.every p=true->t.look f=some vf->p f vf=true
 |.leaf,_,_,_,h=>by simp[T.look]at h
 |.node k v a b,f,vf,he,h=>by
  simp only[T.every,af]at he;simp only[T.look]at h;split at h
  .simp_all
  .split at h
   .exact T.look_every he.1.2 h
   .exact T.look_every he.2 h
def agN {P:Program}{vf:aj}{f:FuncId}(h:ZF P vf f=true):asP P vf f:=by
 simp only[ZF,cZ]at h;rcases h with h|h
 .unfold as6 at h;split at h
  .rename_i fn h1;split at h
   .rename_i c h2;simp only[af,bf,bne_iff_ne,ne_eq]at h;obtain⟨⟨⟨k1,k2⟩,k3⟩,k4⟩:=h;exact⟨fn,c,h1,h2,k4,k2,k3,.inl (jN _ _ k1)⟩
   simp_all
  simp_all
 .split at h
  .rename_i m hb;unfold ZL at h;split at h
   .rename_i fn h1;split at h
    .rename_i c h2;simp only[af,bf,aC,bne_iff_ne,ne_eq]at h;obtain⟨⟨⟨⟨⟨⟨k1,k2⟩,k3⟩,k4⟩,k5⟩,k6⟩,k7⟩:=h;exact⟨fn,c,h1,h2,k7,o_,k3,.inr (.inl ⟨m,hb,k6,k5⟩)⟩
    simp_all
   simp_all
  .rename_i i d k a hb;unfold abV at h;split at h
   .rename_i fn h1;split at h
    .rename_i c h2;simp only[af,bf,bne_iff_ne,ne_eq]at h;obtain⟨⟨⟨k1,k2⟩,k3⟩,k4⟩:=h;exact⟨fn,c,h1,h2,k4,k2,k3,.inr (.inr ⟨i,d,k,a,hb,k1⟩)⟩
    simp_all
   simp_all
  simp_all
def ay0 {P:Program}{t:T}(h:t.every (λf v=>ZF P v f)=true):K5 P t.look:=λf vf hv=>agN (T.look_every (p:=λf v=>ZF P v f) h hv)
def Ev (P:Nat->X_)(c:VC)(st:St)(o:bX)(st':St):Prop:=∃N,∀n,(run P (N+n)).code c st=some (o,st')
variable {P:Nat->X_}
def YU {n:Int}(h:-9223372036854775808<=n)(h2:n<=9223372036854775807):wr .i64 n=n:=by
 simp only[wr,rY,dT_ h,dT_ h2,Bool.and_self]
instance:Nonempty dF:=⟨⟨λ_ _=>none,λ_ _ _=>none⟩⟩
def WP (P:Nat->X_)(c:VC)(st:St)(Q:bX->St->Prop):Prop:=∃o st',Ev P c st o st'∧Q o st'
theorem acC {r:dF}{vs:R_}:∀{l:C_}{st:St},(l.all λi=>decide (i<vs.length))=true->xF r vs l st=lh r (l.filterMap λi=>vs[i]?) st
 |[],_,_=>rfl
 |i::l,st,h=>by
  simp only[gP,af,decide_eq_true_eq]at h;have hi:vs[i]?=some (vs[i]'h.1):=co h.1;simp only[xF,hi,List.filterMap_cons,lh]
  cases cV r (vs[i]'h.1) st with
  |none=>rfl
  |some st1=>exact acC h.2
def af9 {r:dF}{vs:R_}:∀{l F:C_}{st:St},fP r [] vs l F st=xF r vs l st
 |[],_,_=>rfl
 |i::l,F,st=>by
  simp only[fP,xF,bY,eI]
  cases vs[i]? with
  |none=>rfl
  |some v =>
   simp only
   cases cV r v st with
   |none=>rfl
   |some st1=>exact af9
def WP.mono {c:VC}{st:St}{Q R:bX->St->Prop}(h:WP P c st Q)(hq:∀o s,Q o s->R o s):WP P c st R:=by
 obtain⟨o,s,h,k⟩:=h;exact⟨o,s,h,hq o s k⟩
structure xC (r q:dF):Prop where
 code:∀c st x,r.code c st=some x->q.code c st=some x
 call:∀f a h x,r.call f a h=some x->q.call f a h=some x
section
variable {r q:dF}
def acL (le:xC r q){f:FuncId}{vs:D_}{h:ak}{x:AV}(e:fh r f vs h=some x):fh q f vs h=some x:=by
 unfold fh at e⊢
 cases hd:viewArgs h vs with
 |none=>rw[hd]at e;simp at e
 |some ds =>
  rw[hd]at e;simp only at e⊢
  cases hc:r.call f ds ⟨[],0⟩ with
  |none=>rw[hc]at e;simp at e
  |some p =>
   obtain⟨v,hs⟩:=p;rw[hc]at e;rw[le.call _ _ _ _ hc];exact e
def agP (le:xC r q){l:Nat}{vs:D_}{hs:HS}{x:AV×HS}(e:wB r l vs hs=some x):wB q l vs hs=some x:=by
 unfold wB at e⊢;split at e
 .rename_i snap params assign body hg;split at e
  .simp at e
  .rename_i e1 he1
   try simp only[he1]
   split at e
   .rename_i st1 hc;simp only[le.code _ _ _ hc];split at e
    .rename_i snap2 params2 assign2 body2 hg2;split at e
     .simp at e
     .rename_i o st2 hc2;simp only[le.code _ _ _ hc2];exact e
    .simp at e
   .simp at e
 .simp at e
def agx (le:xC r q){f:AV}{vs:D_}{hs:HS}{x:AV×HS}(e:dD r f vs hs=some x):dD q f vs hs=some x:=by
 cases f<;>simp only[dD,reduceCtorEq]at e⊢
 .exact le.call _ _ _ _ e
 .exact agP le e
def ark (le:xC r q){o:pV}{st:St}{x:AV×St}(e:di o r st=some x):di o q st=some x:=by
 cases o<;>try exact e
 .rename_i f args;simp only[di,G5]at e⊢
  cases hr:rdAll st.env args with
  |none=>rw[hr]at e;simp at e
  |some p =>
   obtain⟨vs,e1⟩:=p;rw[hr]at e;simp only at e⊢
   cases hc:fh r f vs st.hs.heap with
   |none=>rw[hc]at e;simp at e
   |some v=>rw[hc]at e;rw[acL le hc];exact e
 .rename_i f args;simp only[di,Fu]at e⊢
  cases hr:rdAll st.env args with
  |none=>rw[hr]at e;simp at e
  |some p =>
   obtain⟨vs,e1⟩:=p;rw[hr]at e;simp only at e⊢
   cases hc:r.call f vs st.hs with
   |none=>rw[hc]at e;simp at e
   |some v=>rw[hc]at e;rw[le.call _ _ _ _ hc];exact e
 .rename_i f args;simp only[di,FO]at e⊢
  cases hf:rd st.env f with
  |none=>rw[hf]at e;simp at e
  |some p =>
   obtain⟨fv,e0⟩:=p;rw[hf]at e;simp only at e⊢
   cases hr:rdAll e0 args with
   |none=>rw[hr]at e;simp at e
   |some p =>
    obtain⟨vs,e1⟩:=p;rw[hr]at e;simp only at e⊢
    cases hc:dD r fv vs st.hs with
    |none=>rw[hc]at e;simp at e
    |some v=>rw[hc]at e;rw[agx le hc];exact e
def Fm (le:xC r q){i:VI}{st x:St}(e:cV r i st=some x):cV q i st=some x:=by
 have go:∀x,gy r i st=some x->gy q i st=some x:=λx e=>by
  unfold gy at e⊢
  cases ho:di i.op r st with
  |none=>rw[ho]at e;simp at e
  |some p=>rw[ho]at e;rw[ark le ho];exact e
 unfold cV at e⊢;split at e
 .exact go _ e
 .split at e
  .split at e
   .simp_all
   .simp_all
  .exact e
  .simp at e
def Sh (le:xC r q):∀{l:R_}{st x:St},lh r l st=some x->lh q l st=some x
 |[],_,_,e=>e
 |i::l,st,x,e=>by
  simp only[lh]at e⊢
  cases hv:cV r i st with
  |none=>rw[hv]at e;simp at e
  |some st1=>rw[hv]at e;rw[Fm le hv];exact Sh le e
def ase (le:xC r q){F:C_}{i:VI}{st x:St}(e:ya r F i st=some x):ya q F i st=some x:=by
 unfold ya at e⊢;split at e
 .cases hv:cV r i st with
  |none=>rw[hv]at e;simp at e
  |some st1=>rw[hv]at e;rw[Fm le hv];exact e
 .cases hv:cV r i st with
  |none=>rw[hv]at e;simp at e
  |some st1=>rw[hv]at e;rw[Fm le hv];exact e
 .cases hv:cV r i ⟨st.env,⟨dL (oR i st.env) st.hs.heap,st.hs.next⟩⟩ with
  |none=>rw[hv]at e;simp at e
  |some st1=>rw[hv]at e;rw[Fm le hv];exact e
def Zb (le:xC r q){a:Bool}{F:C_}{i:VI}{st x:St}(e:bY r a F i st=some x):bY q a F i st=some x:=by
 cases a
 .exact Fm le e
 .exact ase le e
def Ti (le:xC r q){nr:C_}{vs:R_}:∀{l F:C_}{st x:St},fP r nr vs l F st=some x->fP q nr vs l F st=some x
 |[],_,_,_,e=>e
 |i::l,F,st,x,e=>by
  simp only[fP]at e⊢
  cases hi:vs[i]? with
  |none=>rw[hi]at e;simp at e
  |some v =>
   rw[hi]at e;simp only at e⊢
   cases hv:bY r (eI i nr) F v st with
   |none=>rw[hv]at e;simp at e
   |some st1=>rw[hv]at e;rw[Zb le hv];exact Ti le e
theorem NR (le:xC r q){c:VC}{st:St}{x:bX×St}(e:de c r st=some x):de c q st=some x:=by
 cases c<;>try exact e
 .rename_i d ops;simp only[de,TL]at e⊢
  cases hv:lh r ops st with
  |none=>rw[hv]at e;simp at e
  |some st1=>rw[hv]at e;rw[Sh le hv];exact e
 .rename_i perm gco nr ops;simp only[de,Nk,MZ]at e⊢
  cases ha:tz st.env ops with
  |false=>rw[ha]at e;simp at e
  |true =>
  rw[ha]at e;simp only at e⊢
  cases hv:fP r nr ops perm [] st with
  |none=>rw[hv]at e;simp at e
  |some st1=>rw[hv]at e;rw[Ti le hv];exact e
 .rename_i a b;simp only[de,P7]at e⊢
  cases hv:r.code a st with
  |none=>rw[hv]at e;simp at e
  |some p =>
   obtain⟨o,st1⟩:=p;rw[hv]at e;rw[le.code _ _ _ hv]
   cases o<;>simp only at e⊢
   .exact le.code _ _ _ e
   all_goals exact e
 .rename_i cr a b;simp only[de,Ts]at e⊢;split at e
  .exact le.code _ _ _ e
  .exact le.code _ _ _ e
  .simp at e
 .rename_i id a;simp only[de,M9]at e⊢
  cases hv:r.code a st with
  |none=>rw[hv]at e;simp at e
  |some p=>rw[hv]at e;rw[le.code _ _ _ hv];exact e
 .rename_i a;simp only[de,SC]at e⊢
  cases hv:r.code a st with
  |none=>rw[hv]at e;simp at e
  |some p =>
   obtain⟨o,st1⟩:=p;rw[hv]at e;rw[le.code _ _ _ hv]
   cases o<;>simp only at e⊢
   .exact le.code _ _ _ e
   all_goals exact e
 .rename_i f params assign body;simp only[de,Fy]at e⊢;split at e
  .rename_i g first caps e1 h1
   split at e
   .rename_i v hs hc;rw[le.call _ _ _ _ hc];exact e
   .simp at e
  .simp at e
 .exact le.code _ _ _ e
 .rename_i a cur;simp only[de,K7]at e⊢
  cases hv:r.code cur st with
  |none=>rw[hv]at e;simp at e
  |some p =>
   obtain⟨o,st1⟩:=p;rw[hv]at e;rw[le.code _ _ _ hv]
   cases o<;>simp only at e⊢
   .exact e
   .exact e
   .split at e
    .exact le.code _ _ _ e
    .exact e
   .exact e
 .rename_i i d f a;simp only[de,RU]at e⊢
  cases hg:get st.env i with
  |none=>rw[hg]at e;simp at e
  |some p =>
   rw[hg]at e
   cases p<;>simp only at e⊢<;>try exact absurd e (by simp)
   rename_i id off
   cases hv:r.code a ⟨put st.env d (.ptr id off),st.hs⟩ with
   |none=>rw[hv]at e;simp at e
   |some p =>
    obtain⟨o,st1⟩:=p;rw[hv]at e;rw[le.code _ _ _ hv]
    cases o<;>simp only at e⊢<;>try exact absurd e (by simp)
    all_goals
     cases hc:r.call f [.ptr id off] st1.hs with
     |none=>rw[hc]at e;simp at e
     |some q=>rw[hc]at e;rw[le.call _ _ _ _ hc];exact e
theorem YK (le:xC r q){P:Nat->X_}{f:FuncId}{a:D_}{h:HS}{x:AV×HS}(e:xq P r f a h=some x):xq P q f a h=some x:=by
 unfold xq at e⊢;split at e
 .simp at e
 .rename_i fn hf;split at e
  .simp at e
  .rename_i hn
   cases hv:de fn.body r ⟨kK 0 a,h⟩ with
   |none=>rw[hv]at e;simp at e
   |some p=>rw[hv]at e;simp only[hn,NR le hv];exact e
end
variable {P:Nat->X_}
abbrev vT:=@Nat.le_add_right
def lim {α:Type}(f:Nat->Option α):Option α :=
 open Classical in if h:∃x,∃n,f n=some x then some (Classical.choose h) else none
def afl {α:Type}{f:Nat->Option α}(mono:∀n m x,f n=some x->f (n+m)=some x){n:Nat}{x:α}(h:f n=some x):lim f=some x:=by
 have he:∃x,∃n,f n=some x:=⟨x,n,h⟩
 unfold lim;obtain⟨m,hm⟩:=Classical.choose_spec he;have h2:=mono m n _ hm
 grind
def ahi {α:Type}{f:Nat->Option α}{x:α}(h:lim f=some x):∃n,f n=some x:=by
 unfold lim at h;split at h<;>grind
variable {P:Nat->X_}
def xC.rfl' {r:dF}:xC r r:=⟨λ_ _ _ h=>h,λ_ _ _ _ h=>h⟩
def xC.trans' {r q s:dF}(h:xC r q)(k:xC q s):xC r s:=⟨λc st x e=>k.code c st x (h.code c st x e),λf a hs x e=>k.call f a hs x (h.call f a hs x e)⟩
def aaZ:∀n:Nat,xC (run P n) (run P (n+1))
 |0=>⟨λ_ _ _ h=>by simp[run]at h,λ_ _ _ _ h=>by simp[run]at h⟩
 |n+1=>⟨λc st x h=>NR (aaZ n) h,λf a hs x h=>YK (aaZ n) h⟩
theorem SJ (n:Nat):∀m:Nat,xC (run P n) (run P (n+m))
 |0=>xC.rfl'
 |m+1=>(SJ n m).trans' (aaZ (n+m))
def Dn (P:Nat->X_):dF:=⟨λc st=>lim λn=>(run P n).code c st,λf a h=>lim λn=>(run P n).call f a h⟩
def aev {c:VC}{st:St}{x:bX×St}{n:Nat}(h:(run P n).code c st=some x):(Dn P).code c st=some x :=
 afl (λn m x h=>(SJ n m).code _ _ _ h) h
def W4 {f:FuncId}{a:D_}{hs:HS}{x:AV×HS}{n:Nat}(h:(run P n).call f a hs=some x):(Dn P).call f a hs=some x :=
 afl (λn m x h=>(SJ n m).call _ _ _ _ h) h
theorem ajE (n:Nat):xC (run P n) (Dn P):=⟨λ_ _ _ h=>aev h,λ_ _ _ _ h=>W4 h⟩
theorem Mh {n m:Nat}{c:VC}{st:St}{x:bX×St}(h:(run P n).code c st=some x)(le:n<=m):(run P m).code c st=some x:=by
 grind [xC.code,SJ,Nat.add_sub_cancel']
def up {n m:Nat}(le:n<=m):xC (run P n) (run P m):=by
 grind [SJ,Nat.add_sub_cancel']
theorem yz {c:VC}{st:St}{x:bX×St}(h:(Dn P).code c st=some x):∃n,(run P n).code c st=some x:=ahi h
theorem Fw {f:FuncId}{a:D_}{hs:HS}{x:AV×HS}(h:(Dn P).call f a hs=some x):∃n,(run P n).call f a hs=some x:=ahi h
theorem aiv {f:FuncId}{vs:D_}{h:ak}{x:AV}(e:fh (Dn P) f vs h=some x):∃n,fh (run P n) f vs h=some x:=by
 grind [fh,Fw]
theorem alc {l:Nat}{vs:D_}{hs:HS}{x:AV×HS}(e:wB (Dn P) l vs hs=some x):∃n,wB (run P n) l vs hs=some x:=by
 unfold wB at e⊢;split at e
 .split at e
  .simp at e
  .split at e<;>grind [yz,Mh]
 simp_all
theorem amI {f:AV}{vs:D_}{hs:HS}{x:AV×HS}(e:dD (Dn P) f vs hs=some x):∃n,dD (run P n) f vs hs=some x:=by
 cases f<;>simp only[dD,reduceCtorEq]at e⊢
 all_goals grind [Fw,alc]
theorem axJ {o:pV}{st:St}{x:AV×St}(e:di o (Dn P) st=some x):∃n,di o (run P n) st=some x:=by
 cases o<;>try exact⟨0,e⟩
 .rename_i f args;simp only[di,G5]at e⊢
  cases hr:rdAll st.env args<;>grind [aiv]
 .rename_i f args;simp only[di,Fu]at e⊢
  cases hr:rdAll st.env args<;>grind [Fw]
 .rename_i f args;simp only[di,FO]at e⊢
  cases hf:rd st.env f with
  |none=>simp_all
  |some p =>
   obtain⟨fv,e0⟩:=p;simp only at e⊢
   cases hr:rdAll e0 args<;>grind [amI]
theorem ag3 {i:VI}{st x:St}(e:cV (Dn P) i st=some x):∃n,cV (run P n) i st=some x:=by
 have go:∀x,gy (Dn P) i st=some x->∃n,gy (run P n) i st=some x:=λx e=>by
  grind [gy,axJ]
 unfold cV at e⊢;split at e
 .simp_all
 .split at e
  .split at e<;>simp_all
  all_goals simp_all
theorem aks:∀{l:R_}{st x:St},lh (Dn P) l st=some x->∃n,lh (run P n) l st=some x
 |[],_,_,e=>⟨0,e⟩
 |i::l,st,x,e=>by
  simp only[lh]at e⊢
  cases hv:cV (Dn P) i st with
  |none=>simp_all
  |some st1 =>
   rw[hv]at e;obtain⟨n1,h1⟩:=ag3 hv;obtain⟨n2,h2⟩:=aks e;refine⟨n1+n2,?_⟩;rw[Fm (up (vT n1 n2)) h1];exact Sh (up (lV n2 n1)) h2
def ax4 {F:C_}{i:VI}{st x:St}(e:ya (Dn P) F i st=some x):∃n,ya (run P n) F i st=some x:=by
 grind [ya,ag3]
def aqA {a:Bool}{F:C_}{i:VI}{st x:St}(e:bY (Dn P) a F i st=some x):∃n,bY (run P n) a F i st=some x:=by
 cases a
 .exact ag3 e
 .exact ax4 e
theorem aiX {nr:C_}{vs:R_}:∀{l F:C_}{st x:St},fP (Dn P) nr vs l F st=some x->∃n,fP (run P n) nr vs l F st=some x
 |[],_,_,_,e=>⟨0,e⟩
 |i::l,F,st,x,e=>by
  simp only[fP]at e⊢
  cases hi:vs[i]? with
  |none=>simp_all
  |some v =>
   rw[hi]at e;simp only at e⊢
   cases hv:bY (Dn P) (eI i nr) F v st with
   |none=>simp_all
   |some st1 =>
    rw[hv]at e;obtain⟨n1,h1⟩:=aqA hv;obtain⟨n2,h2⟩:=aiX e;refine⟨n1+n2,?_⟩;rw[Zb (up (vT n1 n2)) h1];exact Ti (up (lV n2 n1)) h2
theorem af6 {c:VC}{st:St}{x:bX×St}(e:de c (Dn P) st=some x):∃n,de c (run P n) st=some x:=by
 cases c<;>try exact⟨0,e⟩
 .grind [de,TL,aks]
 .rename_i perm gco nr ops;simp only[de,Nk,MZ]at e⊢
  cases ha:tz st.env ops<;>grind [aiX]
 .rename_i a b;simp only[de,P7]at e⊢
  grind [yz,Mh]
 .rename_i cr a b;simp only[de,Ts]at e⊢;split at e<;>grind [yz]
 .grind [de,M9,yz]
 .rename_i a;simp only[de,SC]at e⊢
  grind [yz,Mh]
 .rename_i f params assign body;simp only[de,Fy]at e⊢;split at e<;>grind [Fw]
 .exact yz e
 .rename_i a cur;simp only[de,K7]at e⊢
  grind [yz,Mh]
 .rename_i i d f a;simp only[de,RU]at e⊢
  cases hg:get st.env i with
  |none=>simp_all
  |some p =>
   rw[hg]at e
   cases p<;>simp only at e⊢<;>try exact absurd e (by simp)
   rename_i id off
   cases hv:(Dn P).code a ⟨put st.env d (.ptr id off),st.hs⟩ with
   |none=>simp_all
   |some p =>
    obtain⟨o,st1⟩:=p;obtain⟨n1,h1⟩:=yz hv;rw[hv]at e
    cases o<;>simp only at e⊢<;>try exact absurd e (by simp)
    all_goals
     cases hc:(Dn P).call f [.ptr id off] st1.hs with
     |none=>simp_all
     |some q =>
      obtain⟨n2,h2⟩:=Fw hc;rw[hc]at e;refine⟨n1+n2,?_⟩;rw[Mh h1 (vT n1 n2)];simp only[(up (lV n2 n1)).call _ _ _ _ h2];exact e
def apT {f:FuncId}{a:D_}{h:HS}{x:AV×HS}(e:xq P (Dn P) f a h=some x):∃n,xq P (run P n) f a h=some x:=by
 unfold xq at e⊢;split at e
 .simp at e
 .split at e<;>grind [af6]
theorem jM (c:VC)(st:St):(Dn P).code c st=de c (Dn P) st:=by
 cases h:de c (Dn P) st with
 |some x =>
  obtain⟨n,hn⟩:=af6 h;exact aev (n:=n+1) hn
 |none =>
  cases k:(Dn P).code c st with
  |none=>rfl
  |some x =>
   obtain⟨n,hn⟩:=yz k
   cases n<;>grind [run,NR,ajE]
theorem avi (f:FuncId)(a:D_)(hs:HS):(Dn P).call f a hs=xq P (Dn P) f a hs:=by
 cases h:xq P (Dn P) f a hs with
 |some x =>
  obtain⟨n,hn⟩:=apT h;exact W4 (n:=n+1) hn
 |none =>
  cases k:(Dn P).call f a hs with
  |none=>rfl
  |some x =>
   obtain⟨n,hn⟩:=Fw k
   cases n<;>grind [run,YK,ajE]
abbrev ay:=@Int.eq_ofNat_of_zero_le
variable {P:Nat->X_}
def xS (P:Nat->X_)(x:I_)(b:VC):I_ :=
 match x with
 |some (.normal,st)=>(Dn P).code b st
 |x=>x
def yi (id:Nat)(x:I_):I_ :=
 match x with
 |some (.exit j,st)=>if j=id then some (.normal,st) else some (.exit j,st)
 |x=>x
def eJ (x:Z_):I_ :=
 match x with
 |some st=>some (.normal,st)
 |none=>none
def sW (P:Nat->X_)(a:VC)(x:I_):I_ :=
 match x with
 |some (.normal,st)=>(Dn P).code (.loop a) st
 |x=>x
def Wx (fn:aj)(x:I_):W_ :=
 match x with
 |some (.normal,st)=>Hl fn st
 |some (.ret,st)=>Hl fn st
 |_=>none
def mO (x:W_):L_ :=
 match x with
 |some (v,hs)=>eY hs.heap v
 |none=>none
def ayc {st:St}{b:VC}:xS P (some (.normal,st)) b=(Dn P).code b st:=(rfl)
def awD {st:St}{b:VC}:xS P (some (.ret,st)) b=some (.ret,st):=(rfl)
def ayh {st:St}{b:VC}{j:Nat}:xS P (some (.exit j,st)) b=some (.exit j,st):=(rfl)
def axF {st:St}{b:VC}{j:Nat}:xS P (some (.goto j,st)) b=some (.goto j,st):=(rfl)
def aw4 {b:VC}:xS P none b=none:=(rfl)
def av8 {c:Prop}[Decidable c]{x y:I_}{b:VC}:xS P (if c then x else y) b=if c then xS P x b else xS P y b:=e_
def axj {st:St}{i:Nat}:yi i (some (.normal,st))=some (.normal,st):=(rfl)
def awi {st:St}{i:Nat}:yi i (some (.ret,st))=some (.ret,st):=(rfl)
def axE {st:St}{i j:Nat}:yi i (some (.exit j,st))=if j=i then some (.normal,st) else some (.exit j,st):=(rfl)
def ayp {st:St}{i j:Nat}:yi i (some (.goto j,st))=some (.goto j,st):=(rfl)
def awh {i:Nat}:yi i none=none:=(rfl)
def aya {c:Prop}[Decidable c]{x y:I_}{i:Nat}:yi i (if c then x else y)=if c then yi i x else yi i y:=e_
def Md {st:St}{a:VC}:sW P a (some (.normal,st))=(Dn P).code (.loop a) st:=(rfl)
def auR {st:St}{a:VC}:sW P a (some (.ret,st))=some (.ret,st):=(rfl)
def at7 {st:St}{a:VC}{j:Nat}:sW P a (some (.exit j,st))=some (.exit j,st):=(rfl)
def auH {st:St}{a:VC}{j:Nat}:sW P a (some (.goto j,st))=some (.goto j,st):=(rfl)
def aup {a:VC}:sW P a none=none:=(rfl)
def auT {c:Prop}[Decidable c]{x y:I_}{a:VC}:sW P a (if c then x else y)=if c then sW P a x else sW P a y:=e_
def ayf {st:St}:eJ (some st)=some (.normal,st):=(rfl)
def ayA:eJ none=none:=(rfl)
def awy {c:Prop}[Decidable c]{x y:Z_}:eJ (if c then x else y)=if c then eJ x else eJ y:=e_
def aw2 {v:AV}{hs:HS}:mO (some (v,hs))=eY hs.heap v:=(rfl)
def axc:mO none=none:=(rfl)
def axC {c:Prop}[Decidable c]{x y:W_}:mO (if c then x else y)=if c then mO x else mO y:=e_
def aoV {st:St}:(Dn P).code .skip st=some (.normal,st):=by rw[jM];rfl
def am1 {st:St}{i:Nat}:(Dn P).code (.exit i) st=some (.exit i,st):=by rw[jM];rfl
def aqo {st:St}:(Dn P).code .ret st=some (.ret,st):=by rw[jM];rfl
def amA {st:St}{i:Nat}:(Dn P).code (.label i) st=some (.normal,st):=by rw[jM];rfl
def aon {st:St}{i:Nat}:(Dn P).code (.goto i) st=some (.goto i,st):=by rw[jM];rfl
def arS {st:St}{a b:VC}:(Dn P).code (.seq a b) st=xS P ((Dn P).code a st) b:=by rw[jM];rfl
def alW {st:St}{i:Nat}{a:VC}:(Dn P).code (.block i a) st=yi i ((Dn P).code a st):=by
 grind [jM,de,M9,yi,Nat.eq_of_beq_eq_true,Nat.ne_of_beq_eq_false]
def apw {st:St}{a:VC}:(Dn P).code (.loop a) st=sW P a ((Dn P).code a st):=by rw[jM];rfl
theorem Wu {st:St}{d:Bool}{ops:R_}:(Dn P).code (.reg d ops) st=eJ (lh (Dn P) ops st):=by rw[jM];rfl
theorem apv {st:St}{perm gco:C_}{ops:R_}(ha:tz st.env ops=true):(Dn P).code (.regP perm gco [] ops) st=eJ (xF (Dn P) ops perm st):=by
 rw[jM];simp only[de,Nk,MZ,af9,ha];rfl
def Uc (P:Nat->X_)(v:L_)(a b:VC)(st:St):I_ :=
 match v with
 |some (.d (.bool true))=>(Dn P).code a st
 |some (.d (.bool false))=>(Dn P).code b st
 |_=>none
def aom {e:aT}{hs:HS}{i:Nat}{a b:VC}:(Dn P).code (.cond (.m i) a b) ⟨e,hs⟩=Uc P (get e i) a b ⟨del e i,hs⟩:=by
 rw[jM];simp only[de,Ts,rd,Uc]
 grind
def auc {a b:VC}{st:St}:Uc P (some (B_ true)) a b st=(Dn P).code a st:=(rfl)
def auf {a b:VC}{st:St}:Uc P (some (B_ false)) a b st=(Dn P).code b st:=(rfl)
def aGr (P:Nat->X_)(v:L_)(w:Bool)(d:J_)(op:pV)(th:Q_)(st:St):Z_ :=
 match v with
 |some (.d (.bool b))=>match b == w with
  |true=>cV (Dn P) ⟨d,none,op,th⟩ st
  |false=>some (cM d (.tup []) st)
 |some (.tup [])=>some (cM d (.tup []) st)
 |_=>none
def aCd {α:Type}{i:Nat}:get ([]:List (Nat×α)) i=none:=(rfl)
def ayv {α:Type}{k i:Nat}{v:α}{r:List (Nat×α)}:get ((k,v)::r) i=if k=i then some v else get r i:=ja ..
def aDx {α:Type}{i:Nat}{x:α}:put [] i x=[(i,x)]:=(rfl)
def put1 {α:Type}{k i:Nat}{v x:α}{r:List (Nat×α)}:put ((k,v)::r) i x=if k=i then (i,x)::r else if i<=k then (i,x)::(k,v)::r else (k,v)::put r i x:=xQ ..
def aDh {α:Type}{i:Nat}:del ([]:List (Nat×α)) i=[]:=(rfl)
def awq {α:Type}{k i:Nat}{v:α}{r:List (Nat×α)}:del ((k,v)::r) i=if k=i then del r i else (k,v)::del r i:=pn ..
theorem U9 {k:IntKind}:pg k k=true:=by cases k<;>rfl
theorem oQ {op:BinOp}{k:IntKind}{a b:Int}(h1:op≠.shl)(h2:op≠.shr):dw op (.d (.int k a)) (.d (.int k b))=match kG op k a b with|some x=>some (.d x)|none=>none:=by
 grind [dw,xa,U9]
def atI {k:IntKind}{a b:Int}:dw .add (.d (.int k a)) (.d (.int k b))=some (.d (.int k (wr k (a+b)))):=by rw[oQ s_ s_];rfl
def au8 {k:IntKind}{a b:Int}:dw .sub (.d (.int k a)) (.d (.int k b))=some (.d (.int k (wr k (a-b)))):=by rw[oQ s_ s_];rfl
def atX {k:IntKind}{a b:Int}:dw .mul (.d (.int k a)) (.d (.int k b))=some (.d (.int k (wr k (a*b)))):=by rw[oQ s_ s_];rfl
def atK {k:IntKind}{a b:Int}(h:b≠0):dw .quo (.d (.int k a)) (.d (.int k b))=some (.d (.int k (wr k (a.tdiv b)))):=by grind [oQ,kG]
def avI {k:IntKind}{a b:Int}(h:b≠0):dw .rem (.d (.int k a)) (.d (.int k b))=some (.d (.int k (a.tmod b))):=by grind [oQ,kG]
def avq {k:IntKind}{a b:Int}:dw .eql (.d (.int k a)) (.d (.int k b))=if a=b then some (B_ true) else some (B_ false):=by grind [oQ,kG]
def avf {k:IntKind}{a b:Int}:dw .neq (.d (.int k a)) (.d (.int k b))=if a=b then some (B_ false) else some (B_ true):=by grind [oQ,kG]
def avC {k:IntKind}{a b:Int}:dw .lss (.d (.int k a)) (.d (.int k b))=if a<b then some (B_ true) else some (B_ false):=by grind [oQ,kG]
def auC {k:IntKind}{a b:Int}:dw .leq (.d (.int k a)) (.d (.int k b))=if a<=b then some (B_ true) else some (B_ false):=by grind [oQ,kG]
def avh {k:IntKind}{a b:Int}:dw .gtr (.d (.int k a)) (.d (.int k b))=if b<a then some (B_ true) else some (B_ false):=by grind [oQ,kG]
def atx {k:IntKind}{a b:Int}:dw .geq (.d (.int k a)) (.d (.int k b))=if b<=a then some (B_ true) else some (B_ false):=by grind [oQ,kG]
def avx {k j:IntKind}{a b:Int}(h:0<=b):dw .shl (.d (.int k a)) (.d (.int j b))=some (.d (.int k (wr k (a*((2 ^ (min b.toNat k.bits):Nat):Int))))):=by
 grind [dw,xa,IL]
def atz {k j:IntKind}{a b:Int}(h:0<=b):dw .shr (.d (.int k a)) (.d (.int j b))=some (.d (.int k (a.fdiv ((2 ^ (min b.toNat k.bits):Nat):Int)))):=by
 grind [dw,xa,IL]
def apN {a b:AF_}:dw .eql (.d (.str a)) (.d (.str b))=if a=b then some (B_ true) else some (B_ false):=by
 grind [dw]
def asl {a b:AF_}:dw .neq (.d (.str a)) (.d (.str b))=if a=b then some (B_ false) else some (B_ true):=by
 grind [dw]
def aAl {n:Int}(h:0<=n)(h2:n<=255):wr .u8 n=n:=by
 grind [wr,rY]
def awv {n:Int}(h:0<=n)(h2:n<=65535):wr .u16 n=n:=by
 grind [wr,rY]
def axz {n:Int}(h:0<=n)(h2:n<=4294967295):wr .u32 n=n:=by
 grind [wr,rY]
def awH {n:Int}(h:0<=n)(h2:n<=18446744073709551615):wr .u64 n=n:=by
 grind [wr,rY]
def Xs {k:IntKind}{i:Int}{t:Nat}(h:0<=i)(h2:i<=t):gJ (.d (.int k i)) t=some i.toNat:=by
 obtain⟨n,rfl⟩:=ay h;have:Nat.ble n t=true:=ca o_;show(match Nat.ble n t with|true=>some n|false=>none)=_
 grind
theorem TQ {k:IntKind}{i:Int}(h:0<=i):s9 (.d (.int k i))=some i.toNat:=by
 obtain⟨n,rfl⟩:=ay h;rfl
def AA (k:IntKind):Nat:=if k.signed then 2 ^ (k.bits-1) else 2 ^ k.bits
theorem atB (k:IntKind):AA k<=2 ^ k.bits:=by cases k<;>decide
theorem asF {k:IntKind}{n:Nat}(h:n<AA k):k.wrap (n:Int)=n:=by
 cases k<;>simp only[AA,IntKind.wrap,IntKind.signed,IntKind.bits]at h⊢<;>simp at h⊢<;>omega
theorem VD {k:IntKind}{n:Nat}(h:n<AA k):(BitVec.ofInt k.bits (n:Int)).toNat=n:=by
 grind [atB]
def axo {k:IntKind}{a b:Nat}(h:a<AA k)(h2:b<AA k)(h3:a |||b<AA k):dw .or (.d (.int k (a:Int))) (.d (.int k (b:Int)))=some (.d (.int k ((a |||b:Nat):Int))):=by
 grind [oQ,kG,Mz,VD,asF]
theorem avJ {a b t:Nat}(h:a<t):a &&& b<t:=by grind [Nat.and_le_left]
def avG {k:IntKind}{a b:Nat}(h:a<AA k)(h2:b<AA k):dw .and (.d (.int k (a:Int))) (.d (.int k (b:Int)))=some (.d (.int k ((a &&& b:Nat):Int))):=by
 grind [oQ,kG,Mz,VD,asF,avJ]
def bn (P:Nat->X_)(f:FuncId)(ds:D_):L_:=mO ((Dn P).call f ds ⟨[],0⟩)
theorem abz {f:FuncId}{fn:aj}{args:D_}{hs:HS}(hf:P f=some fn)(hl:args.length=fn.nparams):(Dn P).call f args hs=Wx fn ((Dn P).code fn.body ⟨kK 0 args,hs⟩):=by
 grind [avi,Nat.beq_refl,xq,Wx,jM]
def aq5 {f:FuncId}{fn:aj}{args:D_}(hf:P f=some fn)(hl:args.length=fn.nparams):bn P f args=mO (Wx fn ((Dn P).code fn.body ⟨kK 0 args,⟨[],0⟩⟩)):=by
 grind [bn,abz]
def anB {g:FuncId}{first caps args:D_}{hs:HS}:dD (Dn P) (.fn g first caps) args hs=(Dn P).call g (first++(args++caps)) hs:=(rfl)
def awY {α:Type}{a b:Prop}[Decidable a][Decidable b]{x y:α}:(if a then (if b then x else y) else y)=if a∧b then x else y:=by
 grind
def ayo {α:Type}{a b:Prop}[Decidable a][Decidable b]{x y:α}:(if a then x else (if b then x else y))=if a∨b then x else y:=by
 grind
def awk {α:Type}{a b:Prop}[Decidable a][Decidable b]{x y:α}:(if a then (if b then y else x) else y)=if a∧¬b then x else y:=by
 grind
def awV {α:Type}{a b:Prop}[Decidable a][Decidable b]{x y:α}:(if a then x else (if b then y else x))=if a∨¬b then x else y:=by
 grind
def nth {α:Type}[Inhabited α](l:List α)(i:Nat):α:=l.getD i default
theorem SW {α:Type}[Inhabited α]{l:List α}{i:Nat}(h:i<l.length):nth l i=l[i]:=by simp[nth,h]
theorem CY {α:Type}[Inhabited α]{l:List α}{i:Nat}(h:i<l.length):l[i]?=some (nth l i):=by simp[nth,h]
theorem nw {α:Type}[Inhabited α]{l:List α}{i:Nat}(h:i<l.length):l.drop i=nth l i::l.drop (i+1):=by grind [List.drop_eq_getElem_cons,SW]
theorem iL {α:Type}[Inhabited α]{l:List α}{i:Nat}(h:i<l.length):nth l i∈l:=by grind [SW]
abbrev I (n:Int):D:=.int .i64 n
abbrev Y (n:Int):D:=.int .u8 n
def am (l:E_):F_:=l.map fun(n:Int)=>[D.int .i64 n]
def ax (l:C_):F_:=l.map fun(n:Nat)=>[D.int .u8 (n:Int)]
def UF (l:Y_):F_:=l.map fun(n:Bool)=>[D.bool n]
def apZ {l:E_}:(am l).length=l.length:=by simp[am]
def aqu {l:C_}:(ax l).length=l.length:=by simp[ax]
def ao7 {l:Y_}:(UF l).length=l.length:=by simp[UF]
def B7 {l:E_}{i:Nat}(h:i<l.length):(am l)[i]?=some [.int .i64 (nth l i)]:=by grind [am,CY]
def arg {l:C_}{i:Nat}(h:i<l.length):(ax l)[i]?=some [.int .u8 (nth l i:Nat)]:=by grind [ax,CY]
def an9 {l:Y_}{i:Nat}(h:i<l.length):(UF l)[i]?=some [.bool (nth l i)]:=by grind [UF,CY]
def aoa {a b:Nat}:((a:Int)+(b:Int)).toNat=a+b:=o_
def abc {a b:Nat}:Nat.beq a b=decide (a=b):=by
 grind [Nat.eq_of_beq_eq_true,Nat.ne_of_beq_eq_false]
theorem ZZ {a b:Nat}:Nat.ble a b=decide (a<=b):=by
 grind [Nat.le_of_ble_eq_true,Nat.ble_eq_true_of_le]
def au9 {x y:I_}{b:VC}(h:x=y):xS P x b=xS P y b:=by rw[h]
def at8 {x y:I_}{b:Nat}(h:x=y):yi b x=yi b y:=by rw[h]
def apV {x y:I_}{b:VC}(h:x=y):sW P b x=sW P b y:=by rw[h]
def avn {x y:I_}{b:aj}(h:x=y):Wx b x=Wx b y:=by rw[h]
def aug {r:dF}{c:VC}{x y:St}(h:x=y):r.code c x=r.code c y:=by rw[h]
def ar0 {v w:L_}{a b:VC}{x y:St}(h:v=w)(k:x=y):Uc P v a b x=Uc P w a b y:=by rw[h,k]
end Go.Vm
end
