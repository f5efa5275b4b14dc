import Derived.Test.YthbfiahcacdnaaaGreatP5
set_option linter.unusedVariables false
set_option linter.unusedSimpArgs false
set_option linter.defProp false
set_option linter.unusedSectionVars false
noncomputable section
namespace Go.Vm
set_option maxRecDepth 100000
set_option maxHeartbeats 8000000
@[simp ↓] def aGl {β:Type}{P:Nat->Z_}{i:Nat}{e:aV}{h:am}{m:Nat}{k:AV->aV->HS->Option β}:bR P (.frz i) e ⟨h,m⟩ k=bA (get e i) λv=>k (.tup []) (put e i (zx h v).1) ⟨(zx h v).2,m⟩:=by
 rw[JG];show gj (ZX i ⟨e,⟨h,m⟩⟩) k=_;unfold ZX;simp only[]
 cases get e i<;>rfl
def arV (o:Option Obj)(h:am)(id off len:Nat):AV×am :=
 match o with
 |some (.arr m xs)=>if off+len<=xs.length then (.own false m (sub xs off len),del h id) else (.sl id off len,h)
 |_=>(.sl id off len,h)
@[simp] def aHW {h:am}{id off len:Nat}:zx h (.sl id off len)=arV (get h id) h id off len:=by
 simp only[zx,arV]
 cases get h id with
 |none=>rfl
 |some o =>
  cases o with
  |arr m xs =>
   simp only[];by_cases hl:off+len<=xs.length
   .rw[ac hl,show Nat.ble (off+len) xs.length=true by rw[bj];exact hl]
   .rw[aa hl,show Nat.ble (off+len) xs.length=false from Bool.eq_false_iff.2 λh=>hl (by rwa [bj]at h)]
  |cells=>rfl
  |loop=>rfl
@[simp ↓] def aHB {m:Nat}{xs:E_}{h:am}{id off len:Nat}:arV (some (.arr m xs)) h id off len=if off+len<=xs.length then (.own false m (sub xs off len),del h id) else (.sl id off len,h):=(rfl)
def yT (b:C_)(mx:Nat):Nat->Nat->R R_
 |0,a=>.ok [] a
 |g+1,a=>(HC b mx a).bind λl n=>(yT b mx g n).bind λt m=>.ok (l::t) m
abbrev KJ (g j:Int):aV:=[(2,.ptr 0 0),(4,.ptr 1 0),(6,.ptr 2 0),(7,.ptr 3 0),(104,A_ g),(105,A_ j)]
abbrev TU:aV:=[(2,.ptr 0 0),(4,.ptr 1 0),(6,.ptr 2 0),(7,.ptr 3 0)]
section
variable (b:C_)(hb:b.length<=1000000000)(C:D_)(f0 f1 f4:AV)(i0 i1 i3:AV)(mx:Nat)(hm:mx<=1000)
theorem Ld (F I:D_)(s:Nat×Nat)(g:Int)(N:Nat) :
  (Dn prog).code (.loop fG) ⟨KJ g g,⟨fQ C F I [] (cS b s),N⟩⟩=some (.exit 1,⟨TU,⟨fQ C F I [] (cS b s),N⟩⟩):=by
 rw[ah GQ];simp(maxSteps:=300000) (disch:=omega)[↓ac,↓aa]
theorem U0 (f3:AV)(I:D_)(s:Nat×Nat)(mk:Int)(g j:Int)(hj:j<g)(h:mk≠1∨s.2≠0)(N:Nat) :
  (Dn prog).code (.loop fG) ⟨KJ g j,⟨fQ C [f0,f1,A_ mk,f3,f4] I [] (cS b s),N⟩⟩=some (.exit 1,⟨TU,⟨fQ C [f0,f1,A_ mk,f3,f4] I [] (cS b s),N⟩⟩):=by
 obtain⟨a,e⟩:=s;rw[ah GQ];simp only[fQ,cS];by_cases hk:mk=1
 .have he:e≠0:=h.resolve_left (λh=>h hk);subst hk;simp(maxSteps:=300000) (disch:=omega)[↓ac,↓aa,he]
 .simp(maxSteps:=300000) (disch:=omega)[↓ac,↓aa,hk]
include hb hm
theorem agt (a:Nat)(ha:a<=b.length)(acc:R_)(hacc:acc.length<=1000)(g j:Nat)(hj:j<g)(hg:g<=1000)(N:Nat)(hN:4<=N) :
  (Dn prog).code (.loop fG) ⟨KJ g j,⟨fQ C [f0,f1,A_ 1,aD 1 (dq acc),f4] [i0,i1,A_ mx,i3] [] (cS b (a,0)),N⟩⟩ =
  (Dn prog).code (.loop fG) ⟨KJ g (j+1:Nat),⟨fQ C [f0,f1,A_ 1,aD 1 (dq (acc++[(lg b mx (a,0)).1])),f4] [i0,i1,A_ mx,i3] [] (cS b (lg b mx (a,0)).2),N+1⟩⟩:=by
 have h1:=av9 b hb C [f0,f1,A_ 1,aD 1 (dq acc),f4] [i0,i1,A_ mx,i3] mx hm N hN (.int .i64 g) (.int .i64 j) mx 0 [] (a,0) o_ rfl ha;have hk:=D7 (z:=[.bool false]) (n:=mx) o_;rw[awy]at hk;have c1:((j+1:Nat):Int)=(j:Int)+1:=rfl;have c0:((0:Nat):Int)=0:=rfl;have hl:(lg b mx (a,0)).1.length=mx:=ag8;have hrl:(gU (List.replicate mx false)).length=mx:=by rw[sn,bU]
 have hbl:(gU (lg b mx (a,0)).1).length=mx:=by rw[sn,hl]
 have ht:List.take mx (gU (lg b mx (a,0)).1)=gU (lg b mx (a,0)).1:=cx o_;have hA:(dq acc).length=acc.length:=II;have e:aD 1 (dq (acc++[(lg b mx (a,0)).1]))=.own false 1 (dq acc++[[.lst (gU (lg b mx (a,0)).1)]]):=by rw[aqX,nL]
 have n0:N≠0∧N≠1∧N≠2∧N≠3:=o_;rw[c1,e];simp only[aK,cS,fQ,c0]at h1⊢;generalize lg b mx (a,0)=r at *;obtain⟨l,s⟩:=r;simp only at *;generalize gU (List.replicate mx false)=Z at *;generalize gU l=B at *;generalize dq acc=A at *;rw[ah GQ]
 cases A with
 |nil=>simp(maxSteps:=300000) (disch:=omega)[↓ac,↓aa,hk,h1,hrl,hbl,ht,n0]
 |cons y r=>simp(maxSteps:=300000) (disch:=omega)[↓ac,↓aa,hk,h1,hrl,hbl,ht,n0]
theorem an4 (g:Nat)(hg:g<=1000):∀(c j a:Nat) (acc:R_) (N:Nat),j+c=g->acc.length=j->a<=b.length->4<=N->
  ∃(w:R_) (s:Nat×Nat) (M:Nat),4<=M∧s.1<=b.length∧Lk (yT b mx c a) (λt=>w=acc++t) s∧
  (Dn prog).code (.loop fG) ⟨KJ g j,⟨fQ C [f0,f1,A_ 1,aD 1 (dq acc),f4] [i0,i1,A_ mx,i3] [] (cS b (a,0)),N⟩⟩ =
  some (.exit 1,⟨TU,⟨fQ C [f0,f1,A_ 1,aD 1 (dq w),f4] [i0,i1,A_ mx,i3] [] (cS b s),M⟩⟩):=by
 intro c
 induction c with
 |zero =>
  intro j a acc N hj hl ha hN;obtain rfl:j=g:=o_;exact⟨acc,(a,0),N,hN,ha,⟨s_,rfl⟩,Ld b C _ _ _ _ _⟩
 |succ c ih =>
  intro j a acc N hj hl ha hN;rw[agt b hb C f0 f1 f4 i0 i1 i3 mx hm a ha acc o_ g j o_ hg N hN,yT];have hr:=aqy (b:=b) (k:=mx) (a:=a);have hle:(lg b mx (a,0)).2.1<=b.length:=ala ha;generalize lg b mx (a,0)=r at *;obtain⟨l,s⟩:=r
  cases e:HC b mx a with
  |ok l2 n =>
   rw[e]at hr;obtain⟨h1,h2⟩:=hr;simp only at h1 h2 hle;subst h1 h2;obtain⟨w,s6,M,k1,k2,k3,k4⟩:=ih (j+1) n (acc++[l]) (N+1) o_ g_ hle o_;refine⟨w,s6,M,k1,k2,?_,k4⟩;rw[aI]
   cases e2:yT b mx c n with
   |er q=>rw[e2]at k3;exact k3
   |ok t q=>rw[e2]at k3;exact⟨by rw[k3.1,ax];rfl,k3.2⟩
  |er e0 =>
   rw[e]at hr;have hd:s.2=e0+1:=hr;refine⟨acc++[l],s,N+1,o_,hle,hd,?_⟩;by_cases hc:c=0
   .have:j+1=g:=o_;rw[this];exact Ld b C _ _ _ _ _
   .exact U0 b C f0 f1 f4 _ _ s 1 g (j+1:Nat) o_ (.inr o_) _
theorem apn (g:Nat)(hg:g<=1000)(k:Nat)(s:Nat×Nat)(hs:s.1<=b.length)(N:Nat)(hN:4<=N) :
  ∃(w:R_) (s6:Nat×Nat) (M:Nat),4<=M∧s6.1<=b.length∧(s.2=0->Lk (if k=1 then yT b mx g s.1 else .ok [] s.1) (λt=>w=t) s6)∧(s.2≠0->s6=s)∧
  (Dn prog).code (.loop fG) ⟨KJ g 0,⟨fQ C [f0,f1,A_ k,.nl,f4] [i0,i1,A_ mx,i3] [] (cS b s),N⟩⟩ =
  some (.exit 1,⟨TU,⟨fQ C [f0,f1,A_ k,aD 1 (dq w),f4] [i0,i1,A_ mx,i3] [] (cS b s6),M⟩⟩):=by
 have e0:aD 1 (dq [])=.nl:=rfl;obtain⟨a,e⟩:=s;by_cases h:k=1∧e=0
 .obtain⟨rfl,rfl⟩:=h;obtain⟨w,s6,M,k1,k2,k3,k4⟩:=an4 b hb C f0 f1 f4 i0 i1 i3 mx hm g hg g 0 a [] N o_ rfl hs hN;rw[e0]at k4;exact⟨w,s6,M,k1,k2,λ_=>by simpa using k3,λh=>absurd rfl h,k4⟩
 .refine⟨[],(a,e),N,hN,hs,λhe=>?_,λ_=>rfl,?_⟩
  .rw[aa (λhk=>h ⟨hk,he⟩)];exact⟨rfl,by rw[show e=0 from he]⟩
  .rw[e0];by_cases hg0:g=0
   .subst hg0;exact Ld b C _ _ _ _ _
   .exact U0 b C f0 f1 f4 _ _ (a,e) k g 0 o_ t_ _
end
def uL (b:C_)(r:Nat)(q:Bool)(i:aO):Nat->Nat->R BB_
 |0,a=>.ok [] a
 |k+1,a=>(Rl b a r q i).bind λv n=>(uL b r q i k n).bind λl m=>.ok (Pf v::l) m
abbrev C3 (n i:Int):aV:=[(2,.ptr 0 0),(4,.ptr 1 0),(6,.ptr 2 0),(7,.ptr 3 0),(140,A_ n),(141,A_ i)]
abbrev zF:D_:=[.nl,B_ false,A_ 0,.nl,.nl]
def amN (q:Bool)(i:aO)(I iv:D_):Prop:=(I=[.d (.int .u8 i.seq),.d (.int .u8 i.shape),A_ i.max,.own false 1 (aF i.groups)]∧iv=i.cells)∨(I=zI∧q=false∧iv=zI)
section
variable (b:C_)(hb:b.length<=1000000000)
theorem ajL (C F I:D_)(s:Nat×Nat)(n:Int)(N:Nat)(hN:4<=N) :
  (Dn prog).code (.loop fh) ⟨C3 n n,⟨fQ C F I [] (cS b s),N⟩⟩=some (.exit 5,⟨[(4,.ptr 1 0),(6,.ptr 2 0)],⟨[(1,.cells F),(2,.cells (cS b s))],N⟩⟩):=by
 rw[ah zE];simp(maxSteps:=300000) (disch:=omega)[↓ac,↓aa]
theorem agv (C I:D_)(f0 f1 f2 f3 f4:AV)(s:Nat×Nat)(hs:s.2≠0)(n i:Int)(hi:i<n)(N:Nat) :
  (Dn prog).code (.loop fh) ⟨C3 n i,⟨fQ C [f0,f1,f2,f3,f4] I [] (cS b s),N⟩⟩=some (.ret,⟨[(4,.ptr 1 0),(5,A_ s.2)],⟨[(1,.cells zF),(2,.cells (cS b s))],N⟩⟩):=by
 obtain⟨a,e⟩:=s;simp only at hs;rw[ah zE];simp only[fQ,cS];simp(maxSteps:=300000) (disch:=omega)[↓ac,↓aa,hs]
include hb
theorem ait (r:Nat)(hr:r<=11)(q:Bool)(i:aO)(hi:i.Fit)(I iv:D_)(hI:amN q i I iv)(c1 c2 c3 f2 f3 f4:AV)(a:Nat)(ha:a<=b.length)(acc:BB_)(hacc:acc.length<=100)(v:Hd×G_)(m:Nat)(hv:Rl b a r q i=.ok v m)(n j:Nat)(hj:j<n)(hn:n<=2)(N:Nat)(hN:4<=N) :
  (Dn prog).code (.loop fh) ⟨C3 n j,⟨fQ [A_ r,c1,c2,c3] [aD 9 (dJ acc),B_ q,f2,f3,f4] I [] (cS b (a,0)),N⟩⟩ =
  (Dn prog).code (.loop fh) ⟨C3 n (j+1:Nat),⟨fQ [A_ r,c1,c2,c3] [aD 9 (dJ (acc++[Pf v])),B_ q,f2,f3,f4] I [] (cS b (m,0)),N+1⟩⟩:=by
 have hiv:iv=i.cells∨q=false∧iv=zI:=hI.imp And.right λh=>⟨h.2.1,h.2.2⟩
 have hG:=alC b hb a o_ r hr q i hi iv hiv;rw[hv]at hG;have cj:((j+1:Nat):Int)=(j:Int)+1:=rfl;have c0:((0:Nat):Int)=0:=rfl;have hA:(dJ acc).length=acc.length:=DW;have e:aD 9 (dJ (acc++[Pf v]))=.own false 9 (dJ acc++[[.int .i64 v.1.gain,.int .u8 v.1.inf.seq,.int .u8 v.1.inf.shape,.int .i64 v.1.inf.max,.lst (aF v.1.inf.groups),.lst (bz v.1.S),.lst (cY v.1.T),.lst (cR v.1.F),.lst (aF v.2)]]):=by rw[arz,nL]
 have n0:N≠0∧N≠1∧N≠2∧N≠3:=o_;rw[cj,e];simp only[cS,fQ,c0,asS,Tr]at hG⊢;generalize dJ acc=A at *;generalize aF v.2=Z at *;rcases hI with ⟨rfl,rfl⟩|⟨rfl,rfl,rfl⟩
 all_goals
  simp only[aO.cells,zI]at hG⊢;rw[ah zE]
  cases A with
  |nil=>simp(maxSteps:=300000) (disch:=omega)[↓ac,↓aa,hG,n0]
  |cons y w=>simp(maxSteps:=300000) (disch:=omega)[↓ac,↓aa,hG,n0]
theorem anW (r:Nat)(hr:r<=11)(q:Bool)(i:aO)(hi:i.Fit)(I iv:D_)(hI:amN q i I iv)(c1 c2 c3 f0 f2 f3 f4:AV)(a:Nat)(ha:a<=b.length)(e:Nat)(hv:Rl b a r q i=.er e)(n j:Nat)(hj:j<n)(hn:n<=2)(N:Nat)(hN:4<=N) :
  (Dn prog).code (.loop fh) ⟨C3 n j,⟨fQ [A_ r,c1,c2,c3] [f0,B_ q,f2,f3,f4] I [] (cS b (a,0)),N⟩⟩ =
  some (.ret,⟨[(4,.ptr 1 0),(5,A_ ((e+1:Nat):Int))],⟨[(1,.cells zF),(2,.cells (cS b (0,e+1)))],N+1⟩⟩):=by
 have hiv:iv=i.cells∨q=false∧iv=zI:=hI.imp And.right λh=>⟨h.2.1,h.2.2⟩
 have hG:=alC b hb a o_ r hr q i hi iv hiv;rw[hv]at hG;have ce:((e+1:Nat):Int)=(e:Int)+1:=rfl;have c0:((0:Nat):Int)=0:=rfl;have n0:N≠0∧N≠1∧N≠2∧N≠3:=o_;have e1:¬((e:Int)+1=0):=o_;simp only[cS,fQ,c0,ce,asS,Bu]at hG⊢;rcases hI with ⟨rfl,rfl⟩|⟨rfl,rfl,rfl⟩
 all_goals
  simp only[aO.cells,zI]at hG⊢;rw[ah zE];simp(maxSteps:=300000) (disch:=omega)[↓ac,↓aa,hG,n0,e1]
end
def asR (w:C_)(hw:w.length<=1000000000)(N:Nat):∀(r:C_) (i:Nat),w.drop i=r->
  (1∉r->(Dn prog).code (.loop iS) ⟨[(0,.d (.lst (ai w))),(1,.d (.int .u8 1)),(7,A_ w.length),(8,A_ i)],⟨[],N⟩⟩=some (.exit 0,⟨[],⟨[],N⟩⟩))∧
  (1∈r->∃k:Nat,(Dn prog).code (.loop iS) ⟨[(0,.d (.lst (ai w))),(1,.d (.int .u8 1)),(7,A_ w.length),(8,A_ i)],⟨[],N⟩⟩=some (.ret,⟨[(4,A_ k)],⟨[],N⟩⟩)):=by
 intro r
 induction r with
 |nil =>
  intro i hd;have hi:=bg hd;refine⟨λ_=>?_,λh=>absurd h s_⟩;rw[ah yj];simp(maxSteps:=300000) (disch:=omega)[↓ac,↓aa]
 |cons x r ih =>
  intro i hd;have hlt:=bE hd;have hg:(ai w)[i]?=some [.int .u8 x]:=by
   have:=aX (λl=>l[0]?) hd;simp only[b6,ck,dQ]at this;rw[ai,bY,this];rfl
  have h5:=ih (i+1) (bt hd);have c1:((i+1:Nat):Int)=(i:Int)+1:=rfl;rw[c1]at h5;rw[ah yj];generalize ai w=W at *;by_cases hx:x=1
  .refine⟨λh=>absurd (by rw[hx];exact .head _) h,λ_=>⟨i,?_⟩⟩;have hx2:(1:Int)=(x:Int):=o_;simp(maxSteps:=300000) (disch:=omega)[↓ac,↓aa,hg,<-hx2]
  .have hx2:¬(1:Int)=(x:Int):=o_;refine⟨λh=>?_,λh=>?_⟩
   .rw[<-h5.1 λh2=>h (.tail _ h2)];simp(maxSteps:=300000) (disch:=omega)[↓ac,↓aa,hg,hx2]
   .obtain⟨k,hk⟩:=h5.2 (by
    rcases aC.1 h with h|h
    .exact absurd h.symm hx
    .exact h)
    refine⟨k,?_⟩;rw[<-hk];simp(maxSteps:=300000) (disch:=omega)[↓ac,↓aa,hg,hx2]
def aoh (w:C_)(hw:w.length<=1000000000):bi prog pf [.d (.lst (ai w)),.d (.int .u8 1)]=some (B_ (decide (1∈w))):=by
 obtain⟨h1,h2⟩:=asR w hw 0 w 0 rfl;have hl:=bw (l:=w);have c0:((0:Nat):Int)=0:=rfl;rw[c0]at h1 h2;by_cases h:1∈w
 .obtain⟨k,hk⟩:=h2 h;have hI:bi prog tK [.d (.lst (ai w)),.d (.int .u8 1)]=some (A_ k):=by
   rw[aH CK CZ rfl];generalize ai w=W at *;simp(maxSteps:=300000) (disch:=omega)[↓ac,↓aa,hl,hk]
  rw[decide_eq_true h,aH yn yf rfl];simp(maxSteps:=300000) (disch:=omega)[↓ac,↓aa,hI]
 .have hk:=h1 h;have hI:bi prog tK [.d (.lst (ai w)),.d (.int .u8 1)]=some (A_ (-1)):=by
   rw[aH CK CZ rfl];generalize ai w=W at *;simp(maxSteps:=300000) (disch:=omega)[↓ac,↓aa,hl,hk]
  rw[decide_eq_false h,aH yn yf rfl];simp(maxSteps:=300000) (disch:=omega)[↓ac,↓aa,hI]
abbrev hp3 (C F c:D_):am:=[(0,.cells C),(1,.cells F),(2,.cells c)]
def anv (C F:D_):Hr (hp3 C F) 2:=⟨λc=>by simp,λc d=>by simp⟩
def My (b:C_)(n:Int):Nat×Nat:=kT (gT b (0,0) 3).2 (((gT b (0,0) 3).1:Int)=n-1)
def Zy (b:C_)(n:Int):Nat×Nat:=kT (gT b (My b n) 4).2 (((gT b (My b n) 4).1:Int)=0)
section
variable (b:C_)(hb:b.length<=1000000000)
include hb
theorem apC {n:Int}:(My b n).1<=b.length:=HM (qQ (eG _))
theorem aAw {n:Int}:(Zy b n).1<=b.length:=HM (qQ (apC b hb))
theorem amu (c0 c2 c3:AV)(n:Int)(hn:n=1∨n=2)(T:VC) :
  (Dn prog).code (.seq (.seq uK (K [41])) (.seq zZ (.seq zP T))) ⟨[(2,.ptr 0 0),(4,.ptr 1 0),(6,.ptr 2 0)],⟨hp3 [c0,A_ n,c2,c3] zF (cS b (0,0)),3⟩⟩ =
  (Dn prog).code T ⟨[(2,.ptr 0 0),(4,.ptr 1 0),(6,.ptr 2 0),(7,.ptr 3 0)],⟨fQ [c0,A_ n,c2,c3] zF zI [] (cS b (Zy b n)),4⟩⟩:=by
 have h1:=gg (anv [c0,A_ n,c2,c3] zF) b hb (0,0) (eG _) 3 3;have h2:=mB (anv [c0,A_ n,c2,c3] zF) b (gT b (0,0) 3).2 (((gT b (0,0) 3).1:Int)=n-1) 3;have h3:=gg (anv [c0,A_ n,c2,c3] zF) b hb (My b n) (apC b hb) 4 3;have h4:=mB (anv [c0,A_ n,c2,c3] zF) b (gT b (My b n) 4).2 (((gT b (My b n) 4).1:Int)=0) 3;have e1:My b n=kT (gT b (0,0) 3).2 (((gT b (0,0) 3).1:Int)=n-1):=rfl;have e2:Zy b n=kT (gT b (My b n) 4).2 (((gT b (My b n) 4).1:Int)=0):=rfl;rw[<-e1]at h2;rw[<-e2]at h4;clear e1 e2;generalize Zy b n=s4 at *;generalize My b n=s2 at *;generalize gT b (0,0) 3=g1 at *;obtain⟨x1,s1⟩:=g1;generalize gT b s2 4=g3 at *;obtain⟨x3,s3⟩:=g3;have c0':((0:Nat):Int)=0:=rfl;simp only[cS,hp3,fQ,c0',zF]at h1 h2 h3 h4⊢;by_cases k1:(x1:Int)=n-1
 .rw[decide_eq_true k1]at h2;by_cases k2:(x3:Int)=0
  .rw[decide_eq_true k2]at h4;simp(maxSteps:=300000) (disch:=omega)[↓ac,↓aa,h1,h2,h3,h4]
  .rw[decide_eq_false k2]at h4;simp(maxSteps:=300000) (disch:=omega)[↓ac,↓aa,h1,h2,h3,h4]
 .rw[decide_eq_false k1]at h2;by_cases k2:(x3:Int)=0
  .rw[decide_eq_true k2]at h4;simp(maxSteps:=300000) (disch:=omega)[↓ac,↓aa,h1,h2,h3,h4]
  .rw[decide_eq_false k2]at h4;simp(maxSteps:=300000) (disch:=omega)[↓ac,↓aa,h1,h2,h3,h4]
theorem aga (c0 c2 c3:AV)(s:Nat×Nat)(T:VC) :
  (Dn prog).code (.seq (.seq sc (.cond (.m 49) rW .skip)) T) ⟨[(2,.ptr 0 0),(4,.ptr 1 0),(6,.ptr 2 0),(7,.ptr 3 0)],⟨fQ [c0,A_ 1,c2,c3] zF zI [] (cS b s),4⟩⟩ =
  (Dn prog).code T ⟨[(2,.ptr 0 0),(4,.ptr 1 0),(6,.ptr 2 0),(7,.ptr 3 0)],⟨fQ [c0,A_ 1,c2,c3] zF zI [] (cS b s),4⟩⟩:=by
 simp only[cS,fQ,zF];simp(maxSteps:=300000) (disch:=omega)[↓ac,↓aa]
theorem ahq (c0 c2 c3:AV)(s:Nat×Nat)(hs:s.1<=b.length)(T:VC) :
  (Dn prog).code (.seq (.seq sc (.cond (.m 49) rW .skip)) T) ⟨[(2,.ptr 0 0),(4,.ptr 1 0),(6,.ptr 2 0),(7,.ptr 3 0)],⟨fQ [c0,A_ 2,c2,c3] zF zI [] (cS b s),4⟩⟩ =
  (Dn prog).code T ⟨[(2,.ptr 0 0),(4,.ptr 1 0),(6,.ptr 2 0),(7,.ptr 3 0)],⟨fQ [c0,A_ 2,c2,c3] [.nl,B_ ((decide ((gT b s 1).1=1))),A_ 0,.nl,.nl] zI [] (cS b (gT b s 1).2),4⟩⟩:=by
 have h1:=gg (aoc [c0,A_ 2,c2,c3] zF zI []) b hb s hs 1 4;generalize gT b s 1=g at *;obtain⟨x,s1⟩:=g;simp only[cS,fQ,zF]at h1⊢;by_cases hx:x=1
 .have hx2:(x:Int)=1:=o_;simp(maxSteps:=300000) (disch:=omega)[↓ac,↓aa,h1,hx,hx2]
 .have hx2:¬(x:Int)=1:=o_;simp(maxSteps:=300000) (disch:=omega)[↓ac,↓aa,h1,hx,hx2]
end
def gb3 {b:C_}{a v n:Nat}:bb b (a:Int) 3=.ok v n↔v<8∧At b a n (aq v 3):=cK (s:=3) (by omega)
def gb4 {b:C_}{a v n:Nat}:bb b (a:Int) 4=.ok v n↔v<16∧At b a n (aq v 4):=cK (s:=4) (by omega)
def gb8 {b:C_}{a v n:Nat}:bb b (a:Int) 8=.ok v n↔v<256∧At b a n (aq v 8):=cK (s:=8) (by omega)
def gb2 {b:C_}{a v n:Nat}:bb b (a:Int) 2=.ok v n↔v<4∧At b a n (aq v 2):=cK (s:=2) (by omega)
def gb1 {b:C_}{a v n:Nat}:bb b (a:Int) 1=.ok v n↔v<2∧At b a n (aq v 1):=cK (s:=1) (by omega)
def Ku {b:C_}:∀{k a m:Nat}{l:C_},a<=b.length->(mN b k a=.ok l m↔l.length=k∧(∀x∈l,x<=255)∧At b a m (cg l))
 |0,a,m,l,ha=>by
  rw[mN];constructor
  .intro h;injection h with h1 h2
   subst h1 h2;exact⟨rfl,s_,d9.2 ⟨rfl,ha⟩⟩
  .rintro ⟨h1,_,h3⟩
   obtain rfl:=ay h1;rw[(d9.1 h3).1]
 |k+1,a,m,l,ha=>by
  rw[mN,aJ];constructor
  .rintro ⟨x,n,e1,h⟩
   obtain⟨r,p,e2,h⟩:=aJ.1 h;injection h with h1 h2;subst h1 h2;obtain⟨hx,f1⟩:=gb8.1 e1;obtain⟨h1,h2,f2⟩:=(Ku (df f1).2.1).1 e2;exact⟨by rw[ar,h1],λy hy=>by
    rcases aC.1 hy with rfl|hy
    .omega
    .exact h2 y hy,be.2 ⟨n,f1,f2⟩⟩
  .rintro ⟨h1,h2,h3⟩
   cases l with
   |nil=>simp at h1
   |cons x r =>
    obtain⟨n,f1,f2⟩:=(be (X:=aq x 8)).1 h3;refine⟨x,n,gb8.2 ⟨by have:=h2 x (.head _);omega,f1⟩,aJ.2 ⟨r,m,(Ku (df f1).2.1).2 ⟨by simpa using h1,λy hy=>h2 y (.tail _ hy),f2⟩,rfl⟩⟩
def apB {b:C_}{a m x:Nat}:bb b (a:Int) 1=.ok x m↔x=cond (decide (x=1)) 1 0∧At b a m (aq (cond (decide (x=1)) 1 0) 1):=by
 rw[gb1];constructor
 .rintro ⟨h1,h2⟩
  have:x=0∨x=1:=o_;rcases this with rfl|rfl<;>exact⟨rfl,h2⟩
 .rintro ⟨h1,h2⟩
  rw[<-h1]at h2;refine⟨?_,h2⟩;rw[h1]
  cases decide (x=1)<;>simp
def NI {b:C_}:∀{k a m:Nat}{l:V_},a<=b.length->(HC b k a=.ok l m↔l.length=k∧At b a m (tY l))
 |0,a,m,l,ha=>by
  rw[HC];constructor
  .intro h;injection h with h1 h2
   subst h1 h2;exact⟨rfl,d9.2 ⟨rfl,ha⟩⟩
  .rintro ⟨h1,h3⟩
   obtain rfl:=ay h1;rw[(d9.1 h3).1]
 |k+1,a,m,l,ha=>by
  rw[HC,aJ];constructor
  .rintro ⟨x,n,e1,h⟩
   obtain⟨r,p,e2,h⟩:=aJ.1 h;injection h with h1 h2;subst h1 h2;obtain⟨hx,f1⟩:=apB.1 e1;obtain⟨h1,f2⟩:=(NI (df f1).2.1).1 e2;exact⟨by rw[ar,h1],be.2 ⟨n,f1,f2⟩⟩
  .rintro ⟨h1,h3⟩
   cases l with
   |nil=>simp at h1
   |cons x r =>
    obtain⟨n,f1,f2⟩:=(be (X:=aq (cond x 1 0) 1)).1 h3;have hd:decide ((cond x 1 0:Nat)=1)=x:=by cases x<;>rfl
    refine⟨cond x 1 0,n,apB.2 (by rw[hd];exact⟨rfl,f1⟩),aJ.2 ⟨r,m,(NI (df f1).2.1).2 ⟨by simpa using h1,f2⟩,by rw[hd]⟩⟩
def acP {a c:V_}:tY (a++c)=tY a++tY c:=by simp[tY]
def J8 {b:C_}{mx:Nat}:∀{g a m:Nat}{t:R_},a<=b.length->(yT b mx g a=.ok t m↔t.length=g∧(∀l∈t,l.length=mx)∧At b a m (tY t.flatten))
 |0,a,m,t,ha=>by
  rw[yT];constructor
  .intro h;injection h with h1 h2
   subst h1 h2;exact⟨rfl,s_,d9.2 ⟨rfl,ha⟩⟩
  .rintro ⟨h1,_,h3⟩
   obtain rfl:=ay h1;rw[(d9.1 h3).1]
 |g+1,a,m,t,ha=>by
  rw[yT,aJ];constructor
  .rintro ⟨l,n,e1,h⟩
   obtain⟨r,p,e2,h⟩:=aJ.1 h;injection h with h1 h2;subst h1 h2;obtain⟨hx,f1⟩:=(NI ha).1 e1;obtain⟨h1,h2,f2⟩:=(J8 (df f1).2.1).1 e2;refine⟨by rw[ar,h1],λy hy=>?_,by rw[dt,acP];exact be.2 ⟨n,f1,f2⟩⟩;rcases aC.1 hy with rfl|hy
   .exact hx
   .exact h2 y hy
  .rintro ⟨h1,h2,h3⟩
   cases t with
   |nil=>simp at h1
   |cons l r =>
    rw[dt,acP]at h3;obtain⟨n,f1,f2⟩:=be.1 h3;exact⟨l,n,(NI ha).2 ⟨h2 l (.head _),f1⟩,aJ.2 ⟨r,m,(J8 (df f1).2.1).2 ⟨by simpa using h1,λy hy=>h2 y (.tail _ hy),f2⟩,rfl⟩⟩
def afV {b:C_}{a m:Nat}{l:C_}(ha:a<=b.length):Fb b a=.ok l m↔(l.length<=269∧∀x∈l,x<=255)∧At b a m (nb l++aq 7 3):=by
 unfold Fb;rw[aJ];constructor
 .rintro ⟨x,n,e1,h⟩
  obtain⟨hx,f1⟩:=gb3.1 e1;by_cases h6:x=6
  .rw[ac h6]at h;subst h6;obtain⟨k,n2,e2,h⟩:=aJ.1 h;obtain⟨hk,f2⟩:=gb4.1 e2;by_cases hk0:k=0
   .rw[ac hk0]at h;exact absurd h (by simp)
   rw[aa hk0]at h;obtain⟨c,n3,e3,h⟩:=aJ.1 h;obtain⟨w,n4,e4,h⟩:=aJ.1 h;obtain⟨z,n5,e5,h⟩:=aJ.1 h;by_cases hz:z=7
   rotate_left
   .rw[aa hz]at h;exact absurd h (by simp)
   rw[ac hz]at h;injection h with g1 g2
   subst g1 g2 hz;have f5:=(gb3.1 e5).2;have key:At b n2 n3 (if 15<=c then aq (c-14) 8 else [])∧min c 15=k∧1<=c∧c<=269:=by
    by_cases h15:k=15
    .rw[ac h15]at e3;obtain⟨y,n6,e6,h⟩:=aJ.1 e3;obtain⟨hy,f6⟩:=gb8.1 e6;by_cases hy0:y=0
     .rw[ac hy0]at h;exact absurd h (by simp)
     rw[aa hy0]at h;injection h with g1 g2
     subst g1 g2;rw[ac o_,dp];exact⟨f6,o_,o_,o_⟩
    .rw[aa h15]at e3;injection e3 with g1 g2
     subst g1 g2;rw[aa o_];exact⟨d9.2 ⟨rfl,(df f2).2.1⟩,o_,o_,o_⟩
   obtain⟨f3,k1,k2,k3⟩:=key;obtain⟨w1,w2,f4⟩:=(Ku (df f3).2.1).1 e4;refine⟨⟨o_,w2⟩,?_⟩;have hne:w≠[]:=λh=>by rw[h]at w1;simp at w1;omega
   rw[nb,aa hne,w1,k1];exact be.2 ⟨n4,be.2 ⟨n,f1,be.2 ⟨n2,f2,be.2 ⟨n3,f3,f4⟩⟩⟩,f5⟩
  .rw[aa h6]at h;by_cases h7:x=7
   rotate_left
   .rw[aa h7]at h;exact absurd h (by simp)
   rw[ac h7]at h;injection h with g1 g2
   subst g1 g2 h7;exact⟨⟨s_,s_⟩,by rw[nb,ac rfl];exact f1⟩
 .rintro ⟨⟨h1,h2⟩,h3⟩
  by_cases h0:l=[]
  .rw[nb,ac h0,aK]at h3;exact⟨7,m,gb3.2 ⟨o_,h3⟩,by rw[aa o_,ac rfl,h0]⟩
  have hl0:l.length≠0:=λh=>h0 (ay h)
  rw[nb,aa h0]at h3;obtain⟨n4,h3,f5⟩:=be.1 h3;obtain⟨n,f1,h3⟩:=be.1 h3;obtain⟨n2,f2,h3⟩:=be.1 h3;obtain⟨n3,f3,f4⟩:=be.1 h3;refine⟨6,n,gb3.2 ⟨o_,f1⟩,?_⟩;rw[ac rfl,aJ];refine⟨_,n2,gb4.2 ⟨o_,f2⟩,?_⟩;rw[aa o_,aJ];refine⟨l.length,n3,?_,aJ.2 ⟨l,n4,(Ku (df f3).2.1).2 ⟨rfl,h2,f4⟩,aJ.2 ⟨7,m,gb3.2 ⟨o_,f5⟩,ac rfl⟩⟩⟩;by_cases h15:15<=l.length
  .rw[ac h15]at f3;rw[ac o_,aJ];exact⟨l.length-14,n3,gb8.2 ⟨o_,f3⟩,by rw[aa o_,show l.length-14+14=l.length by omega]⟩
  .rw[aa h15]at f3;rw[aa o_,(d9.1 f3).1,show min l.length 15=l.length by omega]
abbrev aie:aO:=⟨0,0,0,[]⟩
def TE (b:C_)(r:Nat)(q:Bool)(a:Nat):R (aO×Nat×R_) :=
 if q=true then (py b a r).bind λi m=>(bb b m 2).bind λk m=>if ¬k<3 then .er 7 else (if k=1 then yT b i.max.toNat i.groups.length m else .ok [] m).bind λl m=>.ok (i,k,l) m
 else .ok (aie,0,[]) a
def anE (b:C_)(r:Nat)(n:Int):R gW :=
 (bb b (0:Nat) 3).bind λx m=>if (x:Int)≠n-1 then .er 7 else
 (bb b m 4).bind λx m=>if x≠0 then .er 7 else
 (if n=2 then bb b m 1 else .ok 0 m).bind λqv m =>
 (TE b r (decide (qv=1)) m).bind λh m =>
 (uL b r (decide (qv=1)) h.1 n.toNat m).bind λcs m =>
 (Fb b m).bind λfl m=>.ok ⟨cs,decide (qv=1),h.2.1,h.2.2,fl⟩ m
def ano (R:Nat)(n:Int)(f:gW):C_:=iF n f++jK R f.common f.chans++nb f.fill++aq 7 3
def ZL {b:C_}(hb:b.length<=1000000000){r:Nat}(hr:r<=11){q:Bool}{i:aO}(hi:i.Fit):∀{k a m:Nat}{l:BB_},a<=b.length->uL b r q i k a=.ok l m->l.length=k∧(∀c∈l,c.Fit∧ph r c∧(q=true->c.info=i))∧At b a m (jK r q l)
 |0,a,m,l,ha,h=>by
  rw[uL]at h;injection h with h1 h2
  subst h1 h2;exact⟨rfl,s_,d9.2 ⟨rfl,ha⟩⟩
 |k+1,a,m,l,ha,h=>by
  rw[uL]at h;obtain⟨v,n,e1,h⟩:=aJ.1 h;obtain⟨t,p,e2,h⟩:=aJ.1 h;injection h with h1 h2
  subst h1 h2;obtain⟨A,hA,c1,c2,f1,c3⟩:=agT hb hr hi e1;obtain rfl:a=A:=o_;obtain⟨t1,t2,f2⟩:=ZL hb hr hi (df f1).2.1 e2;refine⟨by rw[ar,t1],λd hd=>?_,be.2 ⟨n,f1,f2⟩⟩;rcases aC.1 hd with rfl|hd
  .exact⟨c1,c2,c3⟩
  .exact t2 d hd
abbrev I6:aV:=[(2,.ptr 0 0),(4,.ptr 1 0),(6,.ptr 2 0),(7,.ptr 3 0)]
def Pe (C:D_)(q:Bool)(b:C_)(s:Nat×Nat)(h:q=false∨s.2≠0)(B T:VC) :
  (Dn prog).code (.seq (.seq kY (.cond (.m 62) B .skip)) T) ⟨I6,⟨fQ C [.nl,B_ q,A_ 0,.nl,.nl] zI [] (cS b s),4⟩⟩ =
  (Dn prog).code T ⟨I6,⟨fQ C [.nl,B_ q,A_ 0,.nl,.nl] zI [] (cS b s),4⟩⟩:=by
 obtain⟨a,e⟩:=s;simp only[cS,fQ]
 cases q with
 |false=>simp(maxSteps:=300000) (disch:=omega)[↓ac,↓aa]
 |true =>
  have he:e≠0:=h.resolve_left s_;simp(maxSteps:=300000) (disch:=omega)[↓ac,↓aa,he]
abbrev aaI (B:VC):VC:=(.seq (.seq (.seq xR (K [63])) (.seq D1 (.cond (.m 88) (.seq (.seq (F 2) (F 7)) (.seq xU .ret)) .skip))) B)
abbrev aiJ (b:C_)(s:Nat×Nat)(N:Nat):J_:=some (.ret,⟨[(4,.ptr 1 0),(5,A_ s.2)],⟨[(1,.cells zF),(2,.cells (cS b s))],N⟩⟩)
section
variable (b:C_)(hb:b.length<=1000000000)(r:Nat)(hr:r<=11)
include hb hr
theorem atE (c1 c2 c3:AV)(a e:Nat)(ha:a<=b.length)(he:py b a r=.er e)(B T:VC) :
  (Dn prog).code (.seq (.seq kY (.cond (.m 62) (aaI B) .skip)) T) ⟨I6,⟨fQ [A_ r,c1,c2,c3] [.nl,B_ true,A_ 0,.nl,.nl] zI [] (cS b (a,0)),4⟩⟩ =
  some (.ret,⟨[(4,.ptr 1 0),(5,A_ ((e+1:Nat):Int))],⟨[(1,.cells zF),(2,.cells (cS b (0,e+1)))],4⟩⟩):=by
 have h:=WJ b a r hb o_;rw[ac o_,au,he,iP]at h;have c0:((0:Nat):Int)=0:=rfl;have ce:((e+1:Nat):Int)=(e:Int)+1:=rfl;have e1:¬((e:Int)+1=0):=o_;simp only[cS,fQ,c0,ce,zF,aaI]at h⊢;simp(maxSteps:=300000) (disch:=omega)[↓ac,↓aa,h,e1]
theorem asa (c1 c2 c3:AV)(a:Nat)(ha:a<=b.length)(i:aO)(m:Nat)(he:py b a r=.ok i m)(w:R_)(s6:Nat×Nat)(M:Nat)
  (hL:(Dn prog).code (.loop fG) ⟨KJ i.groups.length 0,⟨fQ [A_ r,c1,c2,c3] [.nl,B_ true,A_ ((gT b (m,0) 2).1),.nl,.nl] [.d (.int .u8 i.seq),.d (.int .u8 i.shape),A_ i.max,.own false 1 (aF i.groups)] [] (cS b (kT (gT b (m,0) 2).2 (((gT b (m,0) 2).1:Int)<3))),4⟩⟩ =
   some (.exit 1,⟨TU,⟨fQ [A_ r,c1,c2,c3] [.nl,B_ true,A_ ((gT b (m,0) 2).1),aD 1 (dq w),.nl] [.d (.int .u8 i.seq),.d (.int .u8 i.shape),A_ i.max,.own false 1 (aF i.groups)] [] (cS b s6),M⟩⟩))(T:VC) :
  (Dn prog).code (.seq (.seq kY (.cond (.m 62) (aaI (.seq xM (.seq xW (.seq xA (.block 1 (.seq (.loop fG) (K [104,105]))))))) .skip)) T) ⟨I6,⟨fQ [A_ r,c1,c2,c3] [.nl,B_ true,A_ 0,.nl,.nl] zI [] (cS b (a,0)),4⟩⟩ =
  (Dn prog).code T ⟨I6,⟨fQ [A_ r,c1,c2,c3] [.nl,B_ true,A_ ((gT b (m,0) 2).1),aD 1 (dq w),.nl] [.d (.int .u8 i.seq),.d (.int .u8 i.shape),A_ i.max,.own false 1 (aF i.groups)] [] (cS b s6),M⟩⟩:=by
 have hp:=KU hr he;have h:=WJ b a r hb o_;rw[ac o_,au,he,eI hp]at h;have h1:=gg (aoc [A_ r,c1,c2,c3] [.nl,B_ true,A_ 0,.nl,.nl] [.d (.int .u8 i.seq),.d (.int .u8 i.shape),A_ i.max,.own false 1 (aF i.groups)] []) b hb (m,0) hp.2.1 2 4;have h2:=mB (aoc [A_ r,c1,c2,c3] [.nl,B_ true,A_ ((gT b (m,0) 2).1),.nl,.nl] [.d (.int .u8 i.seq),.d (.int .u8 i.shape),A_ i.max,.own false 1 (aF i.groups)] []) b (gT b (m,0) 2).2 (((gT b (m,0) 2).1:Int)<3) 4;have hg:=iA (l:=i.groups);have c0:((0:Nat):Int)=0:=rfl;generalize kT (gT b (m,0) 2).2 (((gT b (m,0) 2).1:Int)<3)=s5 at *;generalize gT b (m,0) 2=g at *;obtain⟨x,s4⟩:=g;clear hp he;simp only[cS,fQ,c0,aaI,Sk,TU,KJ]at h h1 h2 hL⊢;generalize aF i.groups=Z at *;by_cases k1:(x:Int)<3
 .rw[decide_eq_true k1]at h2;simp(maxSteps:=300000) (disch:=omega)[↓ac,↓aa,h,h1,h2,hL,hg]
 .rw[decide_eq_false k1]at h2;simp(maxSteps:=300000) (disch:=omega)[↓ac,↓aa,h,h1,h2,hL,hg]
end
abbrev Xc (b:C_)(F:D_)(s:Nat×Nat)(N:Nat):St:=⟨[(4,.ptr 1 0),(6,.ptr 2 0)],⟨[(1,.cells F),(2,.cells (cS b s))],N⟩⟩
section
variable (b:C_)(hb:b.length<=1000000000)(r:Nat)(hr:r<=11)
include hb hr
theorem aoi (q:Bool)(i:aO)(hi:i.Fit)(I iv:D_)(hI:amN q i I iv)(c1 c2 c3 f2 f3 f4:AV)(n:Nat)(hn:n<=2):∀(k j a:Nat) (acc:BB_) (N:Nat),j+k=n->acc.length=j->a<=b.length->4<=N->
  match uL b r q i k a with
  |.ok l m=>m<=b.length∧∃M,4<=M∧(Dn prog).code (.loop fh) ⟨C3 n j,⟨fQ [A_ r,c1,c2,c3] [aD 9 (dJ acc),B_ q,f2,f3,f4] I [] (cS b (a,0)),N⟩⟩=some (.exit 5,Xc b [aD 9 (dJ (acc++l)),B_ q,f2,f3,f4] (m,0) M)
  |.er e=>∃s M,s.2=e+1∧(Dn prog).code (.loop fh) ⟨C3 n j,⟨fQ [A_ r,c1,c2,c3] [aD 9 (dJ acc),B_ q,f2,f3,f4] I [] (cS b (a,0)),N⟩⟩=aiJ b s M:=by
 intro k
 induction k with
 |zero =>
  intro j a acc N hj hl ha hN;obtain rfl:j=n:=o_;simp only[uL];exact⟨ha,N,hN,by rw[ajL b _ _ _ _ _ _ hN,bh]⟩
 |succ k ih =>
  intro j a acc N hj hl ha hN;rw[uL]
  cases e:Rl b a r q i with
  |er e0 =>
   rw[cB];exact⟨(0,e0+1),N+1,rfl,anW b hb r hr q i hi I iv hI c1 c2 c3 _ f2 f3 f4 a ha e0 e n j o_ hn N hN⟩
  |ok v m =>
   obtain⟨A,_,_,_,f1,_⟩:=agT hb hr hi e;have hm:=(df f1).2.1;have h:=ih (j+1) m (acc++[Pf v]) (N+1) o_ g_ hm o_;rw[ait b hb r hr q i hi I iv hI c1 c2 c3 f2 f3 f4 a ha acc o_ v m e n j o_ hn N hN,aI]
   cases e2:uL b r q i k m with
   |er e0=>rw[e2]at h;exact h
   |ok l p =>
    rw[e2]at h;obtain⟨h1,M,h2,h3⟩:=h;exact⟨h1,M,h2,by rw[h3,ax];rfl⟩
end
abbrev Vh:VC:=(.seq DU (.block 5 (.seq (.loop fh) (.seq (.seq (K [140,141]) (F 2)) (F 7)))))
def acr (C F I:D_)(b:C_)(s:Nat×Nat)(c0 c2 c3:AV)(n:Nat)(N:Nat)(F2:D_)(s2:Nat×Nat)(M:Nat)
  (hL:(Dn prog).code (.loop fh) ⟨C3 n 0,⟨fQ [c0,A_ n,c2,c3] F I [] (cS b s),N⟩⟩=some (.exit 5,Xc b F2 s2 M))(T:VC) :
  (Dn prog).code (.seq Vh T) ⟨I6,⟨fQ [c0,A_ n,c2,c3] F I [] (cS b s),N⟩⟩=(Dn prog).code T (Xc b F2 s2 M):=by
 simp only[cS,fQ,C3,Xc,Vh]at hL⊢;simp(maxSteps:=300000) (disch:=omega)[↓ac,↓aa,hL]
def age (C F I:D_)(b:C_)(s:Nat×Nat)(c0 c2 c3:AV)(n:Nat)(N:Nat)(s2:Nat×Nat)(M:Nat)
  (hL:(Dn prog).code (.loop fh) ⟨C3 n 0,⟨fQ [c0,A_ n,c2,c3] F I [] (cS b s),N⟩⟩=aiJ b s2 M)(T:VC) :
  (Dn prog).code (.seq Vh T) ⟨I6,⟨fQ [c0,A_ n,c2,c3] F I [] (cS b s),N⟩⟩=aiJ b s2 M:=by
 simp only[cS,fQ,C3,aiJ,Vh]at hL⊢;simp(maxSteps:=300000) (disch:=omega)[↓ac,↓aa,hL]
abbrev OU:VC:=(.seq DH (.seq (.seq EU (.cond (.m 204) (.seq xo .ret) .skip)) (.seq (.seq (.seq DQ (K [6,221,222,223,224,225,226,227,228,229,230,231])) (.cond (.m 232) (.seq DS .ret) .skip)) (.seq D6 .ret))))
def azD (F:D_):Hr (λc=>[(1,.cells F),(2,.cells c)]) 2:=⟨λc=>by simp,λc d=>by simp⟩
def Wy {h:am}{l:C_}{a:Nat}(ha:a<=l.length)(hl:l.length<=1000000000):l7 h 1 (.d (.lst (ai l))) (some (A_ (a:Int))) none none=some (.d (.lst (ai (l.drop a)))):=by
 have e2:dW (A_ (a:Int)) (ai l).length=some a:=by rw[xy o_ (by rw[bw];omega)];simp
 have e3:FN 1 (ai l)=true:=by cases l<;>rfl
 simp only[l7,okSl,uU,lenOf,xg,vI,e2,e3,sub];have e4:((ai l).drop a).take ((ai l).length-a)=ai (l.drop a):=by
  rw[cx (by rw[cu];exact ak _)];unfold ai;rw[List.map_drop]
 rw[e4]
def N8 {m:Nat}{xs:E_}:nu (share (aD m xs))=share (aD m xs):=by cases xs<;>rfl
def axH (b:C_)(hb:b.length<=1000000000)(xs ys:E_)(q:Bool)(k:Int)(m:Nat)(hm:m<=b.length)(N:Nat) :
  match (Fb b m).bind λfl m=>if b.length-m<=7∧1∉b.drop m then R.ok fl m else .er 7 with
  |.ok fl p=>∃s,(Dn prog).code OU (Xc b [aD 9 xs,B_ q,A_ k,aD 1 ys,.nl] (m,0) N)=some (.ret,⟨[(4,.ptr 1 0),(5,A_ 0)],⟨[(1,.cells [share (aD 9 xs),B_ q,A_ k,share (aD 1 ys),share (aD 1 (ai fl))]),(2,.cells (cS b s))],N⟩⟩)
  |.er e=>∃s,(Dn prog).code OU (Xc b [aD 9 xs,B_ q,A_ k,aD 1 ys,.nl] (m,0) N)=some (.ret,⟨[(4,.ptr 1 0),(5,A_ ((e+1:Nat):Int))],⟨[(1,.cells zF),(2,.cells (cS b s))],N⟩⟩):=by
 obtain⟨w,x,s,h1,h2⟩:=anJ (azD [aD 9 xs,B_ q,A_ k,aD 1 ys,.nl]) b hb m hm N;have c0:((0:Nat):Int)=0:=rfl;have hbl:=bw (l:=b);obtain⟨a,e⟩:=s;unfold F7 at h1;simp only[Xc,cS,c0,OU]at h1⊢
 cases hf:Fb b m with
 |er e0 =>
  rw[hf]at h2;rw[cB];have he:e=e0+1:=h2;subst he;have ce:((e0+1:Nat):Int)=(e0:Int)+1:=rfl;have e1:¬((e0:Int)+1=0):=o_;refine⟨(a,e0+1),?_⟩;simp only[ce]at h1⊢;generalize ai w=W at *;simp(maxSteps:=300000) (disch:=omega)[↓ac,↓aa,-bq,H8,N8,Ez,h1,e1]
 |ok fl p =>
  rw[hf]at h2;obtain⟨h3,h4⟩:=h2;simp only[aQ]at h4;obtain⟨h4,h5⟩:=h4;subst h3 h4 h5;have hp:a<=b.length:=by have:=(afV hm).1 hf;exact(df this.2).2.1
  have hC:=aoh (b.drop a) (by rw[cu];omega);have hS:=λh=>Wy (h:=h) hp hb
  rw[aI];simp only[c0]at h1⊢;have ez:zF=[.nl,B_ false,A_ 0,.nl,.nl]:=rfl;by_cases k1:b.length-a<=7
  .by_cases k2:1∈b.drop a
   .rw[aa (λh=>h.2 k2)];rw[decide_eq_true k2]at hC;refine⟨(a,0),?_⟩;generalize ai (b.drop a)=D at *;generalize ai b=B at *;generalize ai w=W at *;simp(maxSteps:=300000) (disch:=omega)[↓ac,↓aa,-bq,H8,N8,Ez,h1,hC,hS,hbl]
   .rw[ac ⟨k1,k2⟩];rw[decide_eq_false k2]at hC;refine⟨(a,0),?_⟩;generalize ai (b.drop a)=D at *;generalize ai b=B at *;generalize ai w=W at *;simp(maxSteps:=300000) (disch:=omega)[↓ac,↓aa,-bq,H8,N8,Ez,h1,hC,hS,hbl]
  .rw[aa (λh=>k1 h.1)];refine⟨(a,0),?_⟩;generalize ai (b.drop a)=D at *;generalize ai b=B at *;generalize ai w=W at *;simp(maxSteps:=300000) (disch:=omega)[↓ac,↓aa,-bq,H8,N8,Ez,h1,hC,hS,hbl]
def agD:aie.Fit:=⟨k_,k_,k_,k_,s_⟩
def apq {b:C_}{r:Nat}(hr:r<=11){q:Bool}{a m:Nat}{h:aO×Nat×R_}(ha:a<=b.length)(e:TE b r q a=.ok h m) :
  (q=false∧h=(aie,0,[])∧m=a)∨(q=true∧h.1.may r∧h.1.Fit∧h.2.1<3∧(if h.2.1=1 then h.2.2.length=h.1.groups.length∧∀l∈h.2.2,(l.length:Int)=h.1.max else h.2.2=[])∧At b a m (kb h.1++aq h.2.1 2++tY h.2.2.flatten)):=by
 unfold TE at e
 cases q with
 |false =>
  rw[aa s_]at e;injection e with h1 h2
  exact .inl ⟨rfl,h1.symm,h2.symm⟩
 |true =>
  rw[ac rfl]at e;obtain⟨i,n1,e1,e⟩:=aJ.1 e;obtain⟨k,n2,e2,e⟩:=aJ.1 e;obtain⟨i1,f1⟩:=(X6 hr).1 e1;obtain⟨k1,f2⟩:=gb2.1 e2;have p1:=KU hr e1;by_cases hk:¬k<3
  .rw[ac hk]at e;exact absurd e (by simp)
  rw[aa hk]at e;obtain⟨l,n3,e3,e⟩:=aJ.1 e;injection e with h1 h2
  subst h1 h2;refine .inr ⟨rfl,i1,aaQ hr p1.1 p1.2.2,by simp only[];omega,?_,?_⟩
  .by_cases h1:k=1
   .simp only[ac h1]at e3⊢;obtain⟨g1,g2,g3⟩:=(J8 (df f2).2.1).1 e3;have:=je (gQ hr i1);exact⟨g1,λx hx=>by rw[g2 x hx];omega⟩
   .simp only[aa h1]at e3⊢;injection e3 with g1 g2
    exact g1.symm
  .refine be.2 ⟨n2,be.2 ⟨n1,f1,f2⟩,?_⟩;by_cases h1:k=1
   .simp only[ac h1]at e3;exact((J8 (df f2).2.1).1 e3).2.2
   .simp only[aa h1]at e3;injection e3 with g1 g2
    subst g1 g2;exact d9.2 ⟨rfl,(df f2).2.1⟩
def atv {b:C_}(hb:b.length<=1000000000){r:Nat}(hr:r<=11){n:Int}(hn:n=1∨n=2){f:gW}{m:Nat}(e:anE b r n=.ok f m):f.Fit∧qx r n f∧At b 0 m (ano r n f):=by
 unfold anE at e;obtain⟨x,a1,e1,e⟩:=aJ.1 e;obtain⟨x1,f1⟩:=gb3.1 e1;by_cases hx:(x:Int)≠n-1
 .rw[ac hx]at e;exact absurd e (by simp)
 rw[aa hx]at e;obtain⟨y,a2,e2,e⟩:=aJ.1 e;obtain⟨y1,f2⟩:=gb4.1 e2;by_cases hy:y≠0
 .rw[ac hy]at e;exact absurd e (by simp)
 rw[aa hy]at e;obtain rfl:y=0:=o_;obtain⟨qv,a3,e3,e⟩:=aJ.1 e;obtain⟨h,a4,e4,e⟩:=aJ.1 e;obtain⟨cs,a5,e5,e⟩:=aJ.1 e;obtain⟨fl,a6,e6,e⟩:=aJ.1 e;injection e with g1 g2;subst g1 g2;have f3:qv<=1∧(qv=1->n=2)∧At b a2 a3 (if n=2 then aq qv 1 else []):=by
  by_cases h2:n=2
  .rw[ac h2]at e3⊢;obtain⟨q1,q2⟩:=gb1.1 e3;exact⟨o_,λ_=>h2,q2⟩
  .rw[aa h2]at e3⊢;injection e3 with q1 q2
   subst q1 q2;exact⟨o_,λh=>absurd h o_,d9.2 ⟨rfl,(df f2).2.1⟩⟩
 obtain⟨q1,q2,f3⟩:=f3;have f4:=apq hr (df f3).2.1 e4;obtain⟨i,k,bd⟩:=h;have hi:i.Fit:=by
  rcases f4 with ⟨_,h,_⟩|⟨_,_,h,_⟩
  .injection h with h _;rw[h];exact agD
  .exact h
 have ha4:a4<=b.length:=by
  rcases f4 with ⟨_,_,h⟩|⟨_,_,_,_,_,h⟩
  .rw[h];exact(df f3).2.1
  .exact(df h).2.1
 obtain⟨c1,c2,f5⟩:=ZL hb hr hi ha4 e5;obtain⟨⟨l1,l2⟩,f6⟩:=(afV (df f5).2.1).1 e6;have hmx:decide (qv=1)=true->i.max<=40∧i.groups.length<=8:=λhq=>by
  rcases f4 with ⟨h,_⟩|⟨_,h,_⟩
  .rw[hq]at h;exact absurd h (by simp)
  .have h:i.may r:=h;have hm:=gQ hr h;have:=je hm;obtain⟨p1,p2⟩:=dO hm;have hmm:=wR i;have:=lG (λn hn=>(p1 n hn).1);exact⟨o_,o_⟩
 have hbd:bd.length<=1000∧∀l∈bd,l.length<=1000:=by
  rcases f4 with ⟨_,h,_⟩|⟨hq,_,_,_,h,_⟩
  .injection h with _ h;injection h with _ h;rw[h];simp
  .simp only at h;have:=hmx hq;split at h
   .exact⟨o_,λl hl=>by have:=h.2 l hl;omega⟩
   .rw[h];simp
 refine⟨⟨⟨by simp only[];omega,λc hc=>(c2 c hc).1⟩,?_,hbd,by simp only[];omega,l2⟩,⟨by simp only[];omega,l1,?_,λc hc=>(c2 c hc).2.1,?_⟩,?_⟩
 .rcases f4 with ⟨_,h,_⟩|⟨_,_,_,h,_,_⟩
  .injection h with _ h;injection h with h _;subst h;simp only[];omega
  .simp only at h⊢;omega
 .rcases f4 with ⟨_,h,_⟩|⟨_,_,_,h,_,_⟩
  .injection h with _ h;injection h with h _;subst h;simp only[];omega
  .simp only at h⊢;omega
 .cases cs with
  |nil=>simp at c1;omega
  |cons c t =>
   simp only[NS];rcases f4 with ⟨hq,h,_⟩|⟨hq,_,_,_,h,_⟩
   .injection h with _ h
    injection h with h1 h2
    rw[hq,aa s_];exact⟨by rw[h1];rfl,h2⟩
   .have h2:=q2 (by simpa using hq);rw[hq,ac rfl];have ec:=(c2 c (.head _)).2.2 hq;refine⟨?_,?_⟩
    .cases t with
     |nil=>simp at c1;omega
     |cons d u =>
      refine⟨d,rfl,?_⟩;rw[ec,(c2 d (.tail _ (.head _))).2.2 hq];exact⟨⟨rfl,rfl⟩,rfl,rfl⟩
    .rw[ec];simp only at h;by_cases h1:k=1
     .rw[ac h1]at h;rw[ac o_];exact h
     .rw[aa h1]at h;rw[aa o_];exact h
 .refine be.1 f6 |>.elim λa7 hf=>be.2 ⟨a7,be.2 ⟨a5,be.2 ⟨a4,?_,f5⟩,hf.1⟩,hf.2⟩
  unfold iF;rcases hn with rfl|rfl
  .have hq0:qv=0:=by
     have:qv≠1:=λh=>by have:=q2 h;omega
     omega
   subst hq0;obtain rfl:x=0:=o_;rw[ac rfl];rw[aa o_]at f3;rcases f4 with ⟨_,_,h⟩|⟨h,_⟩
   .rw[h,(d9.1 f3).1];exact be.2 ⟨a1,f1,f2⟩
   .exact absurd h (by decide)
  .obtain rfl:x=1:=o_;rw[aa o_];rw[ac rfl]at f3;rcases f4 with ⟨hq,_,h⟩|⟨hq,_,_,_,_,h⟩
   .have hq0:qv=0:=by
      have:qv≠1:=by simpa using hq
      omega
    subst hq0;rw[aa s_,h];exact be.2 ⟨a2,be.2 ⟨a1,f1,f2⟩,f3⟩
   .have hq1:qv=1:=by simpa using hq
    subst hq1;rw[ac s_];obtain⟨b1,h,hb3⟩:=be.1 h;obtain⟨b2,hb1,hb2⟩:=be.1 h;have hih:Ub ⟨cs,decide (1=1),(k:Int),bd,fl⟩=kb i:=by
     unfold Ub
     cases cs with
     |nil=>simp at c1
     |cons c t=>simp only[(c2 c (.head _)).2.2 rfl]
    rw[hih];simp only[au]at hb2⊢;exact be.2 ⟨b1,be.2 ⟨b2,be.2 ⟨a3,be.2 ⟨a2,be.2 ⟨a1,f1,f2⟩,f3⟩,hb1⟩,hb2⟩,hb3⟩
abbrev pD:=@Int.tdiv_eq_ediv_of_nonneg
def aw4 {x k:Nat}(hk:k<8):x / 2 ^ (8-k)*2 ^ (8-k)+x / 2 ^ (7-k) % 2*2 ^ (7-k)=x / 2 ^ (7-k)*2 ^ (7-k):=by
 have e:8-k=(7-k)+1:=o_;rw[e,db,<-Nat.div_div_eq_div_mul,<-yI,Nat.mul_right_comm,<-dc]
 congr 1
 have:=vp (x / 2 ^ (7-k)) 2;omega
def aB4 {x k:Nat}(hk:k<8):(x / 2 ^ (8-k)*2 ^ (8-k)) |||(x / 2 ^ (7-k) % 2*2 ^ (7-k))=x / 2 ^ (7-k)*2 ^ (7-k):=by
 rw[<-aw4 hk,eK (x / 2 ^ (8-k)),jX];have e:8-k=(7-k)+1:=o_;rw[e,db];have h2:0<2 ^ (7-k):=bV _;have:x / 2 ^ (7-k) % 2<2:=eC _ o_;have:x / 2 ^ (7-k) % 2=0∨x / 2 ^ (7-k) % 2=1:=o_;rcases this with h|h<;>rw[h]<;>omega
def au0 {x k:Nat}(h:x<=255):x / 2 ^ k*2 ^ k<=255:=aM (Nat.div_mul_le_self _ _) h
def ai2 {x:Nat}:∀{n k:Nat},k<n->(aq x n)[k]?=some (x / 2 ^ (n-1-k) % 2)
 |n+1,0,_=>by rw[aq];simp
 |n+1,k+1,h=>by rw[aq,tc,ai2 o_];congr 4;omega
def nG {l:C_}{i x:Nat}(h:l[i]?=some x):(ai l)[i]?=some [.int .u8 (x:Int)]:=by rw[ai,bY,h];rfl
def ars (w a:C_)(hw:w.length<=16777216)(n:Nat)(i j k p x q:Nat)(hi:i=8*j+k)(hk:k<8)(hwi:w[i]?=some x)(hx:x<=1)(ha:a[j]?=some p)(hp:p<=255)(hq:p |||x*2 ^ (7-k)=q)(hq2:q<=255)(hn:a.length=n)(N:Nat) :
  (Dn prog).code (.loop jL) ⟨[(4,.sl 0 0 n),(15,.d (.lst (ai w))),(16,A_ w.length),(17,A_ i)],⟨[(0,.arr 1 (ai a))],N⟩⟩ =
  (Dn prog).code (.loop jL) ⟨[(4,.sl 0 0 n),(15,.d (.lst (ai w))),(16,A_ w.length),(17,A_ ((i+1:Nat):Int))],⟨[(0,.arr 1 (ai (a.set j q)))],N⟩⟩:=by
 have hil:i<w.length:=(aN.1 hwi).1;have hjn:j<n:=hn▸(aN.1 ha).1;have g1:=nG hwi;have g2:=nG ha;have t1:(i:Int).tdiv 8=(j:Int):=by rw[pD o_];omega
 have t2:(i:Int).tmod 8=(k:Int):=by rw[kf o_];omega
 have hpw:2 ^ (7-k)<=2 ^ 7:=aw o_ o_;have hxm:x*2 ^ (7-k)<=128:=aM (pB hx hpw) o_;have sh:eW .shl (.d (.int .u8 (x:Int))) (A_ (7-(k:Int)))=some (.int .u8 ((x*2 ^ (7-k):Nat):Int)):=by
  have e:min (7-(k:Int)).toNat IntKind.u8.bits=7-k:=by show min _ 8=_;omega
  rw[sq o_,e];have:((x:Int)*((2 ^ (7-k):Nat):Int))=((x*2 ^ (7-k):Nat):Int):=(vA _ _).symm;rw[this];have:∀z:Nat,z<=128->wr .u8 (z:Int)=z:=λz h=>by simp(disch:=omega)
  rw[this _ hxm]
 have tn:jW .u8=256:=rfl;have or':=aoB (k:=.u8) (a:=p) (b:=x*2 ^ (7-k)) o_ o_ (by rw[hq];omega);rw[hq]at or';have c1:((i+1:Nat):Int)=(i:Int)+1:=rfl;have hx2:¬(x:Int) > 1:=o_;rw[ah Nq,c1];generalize x*2 ^ (7-k)=z at *;generalize hA:ai a=A at *;have hs:A.set j [.int .u8 (q:Int)]=ai (a.set j q):=by rw[<-hA,asE]
 clear hn ha;generalize ai w=W at *;simp(maxSteps:=300000) (disch:=omega)[↓ac,↓aa,g1,g2,t1,t2,sh,or',hs,-sq]
def ap2 (w:C_)(hw:w.length<=16777216)(n j x:Nat)(hx:x<=255)(A Z:C_)(hA:A.length=j)(hn:A.length+1+Z.length=n)(hb:∀k,k<8->w[8*j+k]?=some (x / 2 ^ (7-k) % 2))(N:Nat):∀(c k:Nat),k+c=8->
  (Dn prog).code (.loop jL) ⟨[(4,.sl 0 0 n),(15,.d (.lst (ai w))),(16,A_ w.length),(17,A_ ((8*j+k:Nat):Int))],⟨[(0,.arr 1 (ai (A++x / 2 ^ (8-k)*2 ^ (8-k)::Z)))],N⟩⟩ =
  (Dn prog).code (.loop jL) ⟨[(4,.sl 0 0 n),(15,.d (.lst (ai w))),(16,A_ w.length),(17,A_ ((8*j+8:Nat):Int))],⟨[(0,.arr 1 (ai (A++x::Z)))],N⟩⟩:=by
 intro c
 induction c with
 |zero =>
  intro k hk;obtain rfl:k=8:=o_;simp
 |succ c ih =>
  intro k hk;rw[ars w _ hw n (8*j+k) j k _ _ (x / 2 ^ (8-(k+1))*2 ^ (8-(k+1))) rfl o_ (hb k o_) (by have:=eC (x / 2 ^ (7-k)) (y:=2) o_;omega) (by rw[<-hA];simp;rfl) (au0 hx) (by rw[aB4 o_,show 8-(k+1)=7-k by omega]) (au0 hx) g_ N];rw[<-hA,Tx,hA];exact ih (k+1) (by omega)
def at8 (w:C_)(hw:w.length<=16777216)(n N:Nat):∀(r A:C_),w=cg A++cg r->(∀x∈r,x<=255)->A.length+r.length=n->
  (Dn prog).code (.loop jL) ⟨[(4,.sl 0 0 n),(15,.d (.lst (ai w))),(16,A_ w.length),(17,A_ ((8*A.length:Nat):Int))],⟨[(0,.arr 1 (ai (A++List.replicate r.length 0)))],N⟩⟩ =
  some (.exit 0,⟨[(4,.sl 0 0 n)],⟨[(0,.arr 1 (ai (A++r)))],N⟩⟩):=by
 intro r
 induction r with
 |nil =>
  intro A hA hr hn;have hl:w.length=8*A.length:=by rw[hA,al,gJ];simp[cg]
  rw[ah Nq,<-hl];simp(maxSteps:=300000) (disch:=omega)[↓ac,↓aa]
 |cons x r ih =>
  intro A hA hr hn;have h0:x / 2 ^ (8-0)*2 ^ (8-0)=0:=by
   have:=hr x (.head _);have:x / 256=0:=o_;show x / 256*256=0;rw[this]
  have hb:∀k,k<8->w[8*A.length+k]?=some (x / 2 ^ (7-k) % 2):=λk hk=>by
   have e:cg (x::r)=aq x 8++cg r:=rfl;rw[hA,e,ca (by rw[gJ];omega),gJ,fT,co (by rw[dI];exact hk),ai2 hk]
  have h1:=ap2 w hw n A.length x (hr x (.head _)) A (List.replicate r.length 0) rfl (by simp at hn⊢;omega) hb N 8 0 rfl;rw[h0]at h1;have h2:=ih (A++[x]) (by rw[hA];simp[cg]) (λy hy=>hr y (.tail _ hy)) (by simp at hn⊢;omega);rw[ar,cJ];have e1:8*A.length+8=8*(A++[x]).length:=by simp;omega
  rw[e1]at h1;simp only[ax,cm]at h2;rw[<-h2,<-h1];rfl
def ads (l:C_)(hl:8*l.length<=16777216)(hl2:∀n∈l,n<=255):bi prog VB [.d (.lst (ai (cg l)))]=some (.tup [.own true 1 (ai l),A_ 0]):=by
 have hu:=gJ (l:=l);have hbu:=bw (l:=cg l);have hk:=D7 (z:=[.int .u8 0]) (n:=l.length) o_;have e:List.replicate l.length [D.int .u8 0]=ai (List.replicate l.length 0):=by simp[ai]
 rw[e]at hk;have ha:=at8 (cg l) o_ l.length 1 l [] (by simp[cg]) hl2 s_;have t1:(8*(l.length:Int)+7).tdiv 8=(l.length:Int):=by rw[pD o_];omega
 have c0:((8*([]:C_).length:Nat):Int)=0:=rfl;have c8:((8*l.length:Nat):Int)=8*(l.length:Int):=s_;have hz:(ai (List.replicate l.length 0)).length=l.length:=by rw[bw,bU]
 have ht:List.take l.length (ai l)=ai l:=cx (by rw[bw];omega);have hbl:=bw (l:=l);rw[c0,hu,c8]at ha;rw[hu]at hbu;simp only[aK]at ha;rw[aH ai6 ai8 rfl];generalize ai (cg l)=W at *;generalize ai (List.replicate l.length 0)=Z at *;generalize ai l=B at *;simp(maxSteps:=300000) (disch:=omega)[↓ac,↓aa,hk,ha,t1,hbu,hbl,hz,ht]
def RF (b:C_)(r:Nat)(n:Int):R gW:=(anE b r n).bind λf m=>if b.length-m<=7∧1∉b.drop m then .ok f m else .er 7
abbrev gW.ow (f:gW):D_:=[share (aD 9 (dJ f.chans)),B_ f.common,A_ f.mask,share (aD 1 (dq f.bands)),share (aD 1 (ai f.fill))]
def RB {α β γ:Type}{x:R α}{f:α->Nat->R β}{g:β->Nat->R γ}:(x.bind f).bind g=x.bind λv n=>(f v n).bind g:=by cases x<;>rfl
abbrev auN:VC:=(.seq xM (.seq xW (.seq xA (.block 1 (.seq (.loop fG) (K [104,105]))))))
abbrev X4:VC:=(.seq (.seq uK (K [41])) (.seq zZ (.seq zP (.seq (.seq sc (.cond (.m 49) rW .skip)) (.seq (.seq kY (.cond (.m 62) (aaI auN) .skip)) (.seq Vh OU))))))
def Tw (b:C_)(C:D_)(x:R gW):Prop :=
 match x with
 |.ok f m=>∃s N,(Dn prog).code X4 ⟨[(2,.ptr 0 0),(4,.ptr 1 0),(6,.ptr 2 0)],⟨hp3 C zF (cS b (0,0)),3⟩⟩=some (.ret,⟨[(4,.ptr 1 0),(5,A_ 0)],⟨[(1,.cells f.ow),(2,.cells (cS b s))],N⟩⟩)
 |.er e=>∃s N,(Dn prog).code X4 ⟨[(2,.ptr 0 0),(4,.ptr 1 0),(6,.ptr 2 0)],⟨hp3 C zF (cS b (0,0)),3⟩⟩=some (.ret,⟨[(4,.ptr 1 0),(5,A_ ((e+1:Nat):Int))],⟨[(1,.cells zF),(2,.cells (cS b s))],N⟩⟩)
section
variable (b:C_)(hb:b.length<=1000000000)(r:Nat)(hr:r<=11)
include hb hr
theorem ac7 (n:Nat)(hn:n=1∨n=2)(q:Bool)(i:aO)(hi:i.Fit)(I iv:D_)(hI:amN q i I iv)(c2 c3:AV)(k:Int)(t:R_)(a:Nat)(ha:a<=b.length)(N:Nat)(hN:4<=N) :
  match (uL b r q i n a).bind λcs m=>(Fb b m).bind λfl m=>if b.length-m<=7∧1∉b.drop m then R.ok (⟨cs,q,k,t,fl⟩:gW) m else .er 7 with
  |.ok f m=>∃s M,(Dn prog).code (.seq Vh OU) ⟨I6,⟨fQ [A_ r,A_ n,c2,c3] [.nl,B_ q,A_ k,aD 1 (dq t),.nl] I [] (cS b (a,0)),N⟩⟩=some (.ret,⟨[(4,.ptr 1 0),(5,A_ 0)],⟨[(1,.cells f.ow),(2,.cells (cS b s))],M⟩⟩)
  |.er e=>∃s M,(Dn prog).code (.seq Vh OU) ⟨I6,⟨fQ [A_ r,A_ n,c2,c3] [.nl,B_ q,A_ k,aD 1 (dq t),.nl] I [] (cS b (a,0)),N⟩⟩=some (.ret,⟨[(4,.ptr 1 0),(5,A_ ((e+1:Nat):Int))],⟨[(1,.cells zF),(2,.cells (cS b s))],M⟩⟩):=by
 have e0:aD 9 (dJ [])=.nl:=rfl;have h:=aoi b hb r hr q i hi I iv hI (A_ n) c2 c3 (A_ k) (aD 1 (dq t)) .nl n o_ n 0 a [] N o_ rfl ha hN;rw[e0]at h
 cases e:uL b r q i n a with
 |er e1 =>
  rw[e]at h;obtain⟨s,M,h1,h2⟩:=h;rw[cB];refine⟨s,M,?_⟩;rw[age [] _ _ _ _ _ _ _ _ _ _ _ h2,<-h1]
 |ok cs m =>
  rw[e]at h;obtain⟨hm,M,h1,h2⟩:=h;rw[aI];have h5:=axH b hb (dJ ([]++cs)) (dq t) q k m hm M
  cases e2:Fb b m with
  |er e3 =>
   rw[e2,cB]at h5;obtain⟨s,h5⟩:=h5;rw[cB];exact⟨s,M,by rw[acr [] _ _ _ _ _ _ _ _ _ _ _ _ h2,h5]⟩
  |ok fl p =>
   rw[e2,aI]at h5;rw[aI];by_cases hc:b.length-p<=7∧1∉b.drop p
   .rw[ac hc]at h5⊢;obtain⟨s,h5⟩:=h5;exact⟨s,M,by rw[acr [] _ _ _ _ _ _ _ _ _ _ _ _ h2,h5];rfl⟩
   .rw[aa hc]at h5⊢;obtain⟨s,h5⟩:=h5;exact⟨s,M,by rw[acr [] _ _ _ _ _ _ _ _ _ _ _ _ h2,h5]⟩
theorem KD (n:Nat)(hn:n=1∨n=2)(I:D_)(f0 f1 f2 f3 f4:AV)(c0 c2 c3:AV)(s:Nat×Nat)(hs:s.2≠0)(N:Nat) :
  (Dn prog).code (.seq Vh OU) ⟨I6,⟨fQ [c0,A_ n,c2,c3] [f0,f1,f2,f3,f4] I [] (cS b s),N⟩⟩=aiJ b s N :=
 age [] _ _ _ _ _ _ _ _ _ _ _ (agv b _ _ _ _ _ _ _ s hs n 0 o_ N) _
theorem apb (n:Nat)(hn:n=1∨n=2)(c2 c3:AV)(hd:(Zy b n).2≠0)(e:Nat)(he:(Zy b n).2=e+1):Tw b [A_ r,A_ n,c2,c3] (.er e):=by
 refine⟨Zy b n,4,?_⟩;rw[amu b hb (A_ r) c2 c3 n o_];have hs:=aAw b hb (n:=(n:Int));generalize Zy b n=s at *;rw[<-he];rcases hn with rfl|rfl
 .rw[show((1:Nat):Int)=1 from rfl,aga b hb,show(zF:D_)=[.nl,B_ false,A_ 0,.nl,.nl] from rfl,Pe _ _ _ _ (.inl rfl)];exact KD b hb r hr 1 (.inl rfl) _ _ _ _ _ _ _ _ _ s hd 4
 .rw[show((2:Nat):Int)=2 from rfl,ahq b hb _ _ _ s hs,uP hd,Pe _ _ _ _ (.inr hd)];exact KD b hb r hr 2 (.inr rfl) _ _ _ _ _ _ _ _ _ s hd 4
theorem alE (n:Nat)(hn:n=1∨n=2)(c2 c3:AV)(a:Nat)(ha:a<=b.length)(x:R gW)
  (hx:x=(uL b r false aie n a).bind λcs m=>(Fb b m).bind λfl m=>if b.length-m<=7∧1∉b.drop m then R.ok (⟨cs,false,0,[],fl⟩:gW) m else .er 7)
  (h:(Dn prog).code X4 ⟨[(2,.ptr 0 0),(4,.ptr 1 0),(6,.ptr 2 0)],⟨hp3 [A_ r,A_ n,c2,c3] zF (cS b (0,0)),3⟩⟩=(Dn prog).code (.seq (.seq kY (.cond (.m 62) (aaI auN) .skip)) (.seq Vh OU)) ⟨I6,⟨fQ [A_ r,A_ n,c2,c3] [.nl,B_ false,A_ 0,.nl,.nl] zI [] (cS b (a,0)),4⟩⟩):Tw b [A_ r,A_ n,c2,c3] x:=by
 rw[Pe _ _ _ _ (.inl rfl)]at h;have ht:=ac7 b hb r hr n hn false aie agD zI zI (.inr ⟨rfl,rfl,rfl⟩) c2 c3 0 [] a ha 4 o_;rw[<-hx,show aD 1 (dq [])=.nl from rfl]at ht;unfold Tw;rw[h];exact ht
theorem aq7 (n:Nat)(hn:n=1∨n=2)(c2 c3:AV):Tw b [A_ r,A_ n,c2,c3] (RF b r n):=by
 have hP1:=λT=>amu b hb (A_ r) c2 c3 n o_ T
 have hdead:=apb b hb r hr n hn c2 c3;have hs2:Zy b n=kT (gT b (My b n) 4).2 (((gT b (My b n) 4).1:Int)=0):=rfl;have hs1:My b n=kT (gT b (0,0) 3).2 (((gT b (0,0) 3).1:Int)=n-1):=rfl;unfold RF anE
 cases e1:bb b (0:Nat) 3 with
 |er e =>
  rw[zL e1,lk (bu _)]at hs1;rw[hs1,uP (bu _),lk (bu _)]at hs2;rw[cB,cB];exact hdead (by rw[hs2];exact bu _) e (by rw[hs2])
 |ok x m =>
 rw[aI];by_cases hx:(x:Int)≠n-1
 .rw[oH e1,NT hx]at hs1;rw[hs1,uP s_,lk s_]at hs2;rw[ac hx,cB];exact hdead (by rw[hs2];simp) 7 (by rw[hs2])
 rw[aa hx];rw[oH e1,JZ (Classical.not_not.1 hx)]at hs1
 cases e2:bb b m 4 with
 |er e =>
  rw[hs1,zL e2,lk (bu _)]at hs2;rw[cB,cB];exact hdead (by rw[hs2];exact bu _) e (by rw[hs2])
 |ok y a =>
 rw[aI];by_cases hy:y≠0
 .rw[hs1,oH e2,NT t_]at hs2;rw[ac hy,cB];exact hdead (by rw[hs2];simp) 7 (by rw[hs2])
 rw[aa hy];rw[hs1,oH e2,JZ t_]at hs2;simp only at hs2;have ha:a<=b.length:=(ed e2).2;rw[hs2]at hP1;clear hs1 hs2 hdead e1 e2 hx hy;rcases hn with rfl|rfl
 .refine alE b hb r hr 1 (.inl rfl) c2 c3 a ha _ ?_ ((hP1 _).trans (aga b hb _ _ _ _ _));rw[aa o_,aI];simp only[TE];rw[show decide ((0:Nat)=1)=false from rfl,aa s_,aI];simp only[RB,aI];rfl
 .have hP:=λT=>(hP1 _).trans (ahq b hb (A_ r) c2 c3 (a,0) ha T)
  clear hP1;rw[ac o_]
  cases e3:bb b a 1 with
  |er e =>
   rw[zL e3]at hP;rw[cB,cB];refine⟨(a,e+1),4,?_⟩;refine(hP _).trans ?_;rw[Pe _ _ _ _ (.inr (bu _))];exact KD b hb r hr 2 (.inr rfl) _ _ _ _ _ _ _ _ _ _ (bu _) 4
  |ok x m =>
  have hm:m<=b.length:=(ed e3).2;rw[oH e3]at hP;rw[aI];simp only at hP;by_cases hx:x=1
  rotate_left
  .rw[decide_eq_false hx]at hP⊢;refine alE b hb r hr 2 (.inr rfl) c2 c3 m hm _ ?_ (hP _);simp only[TE];rw[aa s_,aI];simp only[RB,aI];rfl
  rw[decide_eq_true hx]at hP⊢;simp only[TE];rw[ac trivial]
  cases e4:py b m r with
  |er e =>
   rw[cB,cB,cB];exact⟨(0,e+1),4,(hP _).trans (atE b hb r hr _ c2 c3 m e hm e4 _ _)⟩
  |ok i m2 =>
  have p:=KU hr e4;have hi:i.Fit:=aaQ hr p.1 p.2.2;have hmx:=je (gQ hr p.1);have him:((i.max.toNat:Nat):Int)=i.max:=o_;have hgl:=hi.len;rw[aI];have hs5:(kT (gT b (m2,0) 2).2 (((gT b (m2,0) 2).1:Int)<3)).1<=b.length:=HM (qQ p.2.1);obtain⟨w,s6,M,hM,h6,hw,hd,hL⟩:=apn b hb [A_ r,A_ 2,c2,c3] .nl (B_ true) .nl (.d (.int .u8 i.seq)) (.d (.int .u8 i.shape)) (.own false 1 (aF i.groups)) i.max.toNat o_ i.groups.length hgl (gT b (m2,0) 2).1 (kT (gT b (m2,0) 2).2 (((gT b (m2,0) 2).1:Int)<3)) hs5 4 o_;rw[him]at hL;have hrun:=(hP _).trans (asa b hb r hr _ c2 c3 m hm i m2 e4 w s6 M hL (.seq Vh OU));have dead:∀e,s6.2=e+1->Tw b [A_ r,A_ 2,c2,c3] (.er e):=λe he=>by
   refine⟨s6,M,hrun.trans ?_⟩;rw[<-he];exact KD b hb r hr 2 (.inr rfl) _ _ _ _ _ _ _ _ _ _ o_ M
  cases e5:bb b m2 2 with
  |er e =>
   rw[zL e5,lk (bu _)]at hd;rw[cB,cB,cB];exact dead e (by rw[hd (bu _)])
  |ok k m3 =>
  rw[aI];by_cases hk:¬k<3
  .rw[oH e5,NT t_]at hd;rw[ac hk,cB,cB];exact dead 7 (by rw[hd s_])
  rw[aa hk];rw[oH e5]at hw hrun;rw[JZ t_]at hw;have hw:=hw rfl;simp only at hw hrun
  cases e6:(if k=1 then yT b i.max.toNat i.groups.length m3 else R.ok [] m3) with
  |er e =>
   rw[e6]at hw;rw[cB,cB,cB];exact dead e hw
  |ok t m4 =>
   rw[e6]at hw;obtain⟨rfl,rfl⟩:=hw;have ht:=ac7 b hb r hr 2 (.inr rfl) true i hi _ i.cells (.inl ⟨rfl,rfl⟩) c2 c3 k w m4 h6 M hM;rw[aI,aI];simp only[RB,aI];unfold Tw;rw[show((2:Nat):Int)=2 from rfl]at ht⊢;have hrun:(Dn prog).code X4 ⟨[(2,.ptr 0 0),(4,.ptr 1 0),(6,.ptr 2 0)],⟨hp3 [A_ r,A_ 2,c2,c3] zF (cS b (0,0)),3⟩⟩=_:=hrun;rw[hrun];exact ht
end
def ar0 {h:am}{a b c:E_}{x:Bool}{y e:Int}:gS h (.tup [.agg [share (aD 9 a),B_ x,A_ y,share (aD 1 b),share (aD 1 c)],A_ e])=some (.tup [.agg [share (aD 9 a),B_ x,A_ y,share (aD 1 b),share (aD 1 c)],A_ e]):=by
 cases a<;>cases b<;>cases c<;>rfl
def atg (rt n:Int)(cb:Bool)(cz:Int)(X:AV)(l:C_)(hX:eV X (ai l))(hl:l.length<=100000)(hl2:∀x∈l,x<=255) :
  (nj rt n∧(l.length:Int)<=192*n∧bi prog OR [mS rt n cb cz,X]=match RF (cg l) rt.toNat n with
   |.ok f m=>some (.tup [.agg f.ow,A_ 0])
   |.er e=>some (.tup [.agg zF,A_ ((e+1:Nat):Int)]))∨
  (¬(nj rt n∧(l.length:Int)<=192*n)∧∃e:Int,e≠0∧bi prog OR [mS rt n cb cz,X]=some (.tup [.agg zF,A_ e])):=by
 obtain⟨⟨x1,x2,x3⟩,x4,x5⟩:=hX.facts;obtain⟨vx,ux⟩:=hX.view;have hbl:=bw (l:=l);rw[hbl]at x5;have hcf:=ZD rt n cb cz;simp only[mS]at hcf⊢;rw[aH ani ank rfl];rcases hcf with ⟨hc,ec⟩|⟨hc,ec⟩
 rotate_left
 .refine .inr ⟨λh=>hc h.1,2,k_,?_⟩;simp(maxSteps:=300000) (disch:=omega)[↓ac,↓aa,-bq,x1,x2,x3,x4,x5,ec]
 by_cases hn:(l.length:Int)<=192*n
 rotate_left
 .refine .inr ⟨λh=>hn h.2,3,k_,?_⟩;have:=hc.2;simp(maxSteps:=300000) (disch:=omega)[↓ac,↓aa,-bq,x1,x2,x3,x4,x5,ec]
 refine .inl ⟨hc,hn,?_⟩;obtain⟨R,rfl⟩:=az hc.1.1;obtain⟨k,rfl⟩:=az (show 0<=n by have:=hc.2;omega);have hR:R<=11:=by have:=hc.1.2;omega
 have hk:k=1∨k=2:=by have:=hc.2;omega
 have hu:=E9 l hl hl2 X hX;have ul:=gJ (l:=l);have hM:=aq7 (cg l) o_ R hR k hk (B_ cb) (A_ cz);rw[au];have c0:((0:Nat):Int)=0:=rfl;obtain⟨T,hT⟩:∃T,T=X4:=⟨_,rfl⟩
 cases hG:RF (cg l) R k with
 |ok f m =>
  rw[hG]at hM;obtain⟨s,N,hM⟩:=hM;simp only[hp3,cS,c0,<-hT]at hM⊢;generalize ai (cg l)=B at *;simp only[gW.ow]at hM⊢;generalize dJ f.chans=A1 at *;generalize dq f.bands=A2 at *;generalize ai f.fill=A3 at *;simp(maxSteps:=300000) (disch:=omega)[↓ac,↓aa,-bq,x1,x2,x3,x4,x5,vx,ux,ec,hu,hM,↓ar0]
 |er e =>
  rw[hG]at hM;obtain⟨s,N,hM⟩:=hM;simp only[hp3,cS,c0,<-hT]at hM⊢;generalize ai (cg l)=B at *;simp(maxSteps:=300000) (disch:=omega)[↓ac,↓aa,-bq,x1,x2,x3,x4,x5,vx,ux,ec,hu,hM]
def azn {α:Type}{f:α->C_}{l:List α}(h:∀x,bin (f x)):bin (l.flatMap f):=λx hx=>by
 obtain⟨y,_,hy⟩:=ni.1 hx;exact h y x hy
def aa1 {l:C_}:bin (cg l):=azn λn=>Ri
def aq3 (rt n:Int)(cb:Bool)(cz:Int)(f:gW)(hf:f.Fit)(X Y Z:AV)(hX:eV X (dJ f.chans))(hY:eV Y (dq f.bands))(hZ:eV Z (ai f.fill)) :
  (nj rt n∧qx rt.toNat n f∧((tf rt.toNat n f).length:Int)<=1536*n∧∀l:C_,tf rt.toNat n f=cg l->(∀x∈l,x<=255)->bi prog K5 [mS rt n cb cz,p9 f X Y Z]=some (.tup [.own true 1 (ai l),A_ 0]))∨
  (¬(nj rt n∧qx rt.toNat n f∧((tf rt.toNat n f).length:Int)<=1536*n)∧∃e:Int,e≠0∧bi prog yZ [mS rt n cb cz,p9 f X Y Z]=some (A_ e)∧bi prog K5 [mS rt n cb cz,p9 f X Y Z]=some (.tup [.nl,A_ e])):=by
 have hC:=arD rt n cb cz f hf X Y Z hX hY hZ;obtain⟨⟨x1,x2,x3⟩,x4,x5⟩:=hX.facts;obtain⟨⟨y1,y2,y3⟩,y4,y5⟩:=hY.facts;obtain⟨⟨z1,z2,z3⟩,z4,z5⟩:=hZ.facts;obtain⟨⟨vx,ux⟩,wx⟩:=hX.one;obtain⟨⟨vy,uy⟩,wy⟩:=hY.one;obtain⟨⟨vz,uz⟩,wz⟩:=hZ.one;rcases hC with ⟨h1,h2,h3,hC⟩|⟨h1,e,he,hC⟩
 rotate_left
 .refine .inr ⟨h1,e,he,hC,?_⟩;simp only[mS,p9]at hC⊢;rw[aH Vi UP rfl];simp(maxSteps:=300000) (disch:=omega)[↓ac,↓aa,-bq,x1,x2,x3,x4,y1,y2,y3,y4,z1,z2,z3,z4,ux,uy,uz,vx,vy,vz,wx,wy,wz,hC,he]
 refine .inl ⟨h1,h2,h3,λl hw hl=>?_⟩;obtain⟨R,rfl⟩:=az h1.1.1;simp only[au]at h2 h3 hw;have hR:R<=11:=by have:=h1.1.2;omega
 have hW:=VR R hR n h1.2 cb cz f hf h2 X Y Z hX hY hZ;have hn:=h1.2;rw[hw]at hW h3;rw[gJ]at h3;have hP:=ads l o_ hl;simp only[mS,p9]at hC hW⊢;generalize ai (cg l)=B at *;rw[aH Vi UP rfl];simp(maxSteps:=300000) (disch:=omega)[↓ac,↓aa,-bq,x1,x2,x3,x4,y1,y2,y3,y4,z1,z2,z3,z4,ux,uy,uz,vx,vy,vz,wx,wy,wz,hC,hW,hP]
abbrev Yg (f:gW)(X Y Z:AV):D_:=[X,B_ f.common,A_ f.mask,Y,Z]
abbrev Qn (f:gW)(X Y Z X' Y' Z':AV)(N:Nat):HS:=⟨[(0,.cells (Yg f X Y Z)),(1,.cells (Yg f X' Y' Z'))],N⟩
def awC (f:gW)(hf:f.Fit)(X Y Z X' Y' Z':AV)(hX:eV X (dJ f.chans))(hX':eV X' (dJ f.chans))(N:Nat):∀(r:BB_) (i:Nat),f.chans.drop i=r->
  (Dn prog).code (.loop kK) ⟨[(2,.ptr 0 0),(3,.ptr 1 0),(5,A_ i)],Qn f X Y Z X' Y' Z' N⟩=some (.exit 0,⟨[(2,.ptr 0 0),(3,.ptr 1 0)],Qn f X Y Z X' Y' Z' N⟩):=by
 intro r;have hl:=DW (l:=f.chans);have hcl:=hf.chans.1
 induction r with
 |nil =>
  intro i hd;have hi:=bg hd;obtain⟨⟨x1,x2,x3⟩,x4,x5⟩:=hX.facts;rw[hl]at x5;simp only[Qn,Yg];rw[ah yy];simp(maxSteps:=300000) (disch:=omega)[↓ac,↓aa,x1,x2,x5]
 |cons c r ih =>
  intro i hd;have hlt:=bE hd;have hg:=Ej hd;have hne:dJ f.chans≠[]:=λh=>by have:=aX List.length h;rw[hl,bf]at this;omega
  have hxe:=hX.ne hne;have hxe':=hX'.ne hne;subst hxe hxe';have hcf:=hf.chans.2 c (bG (by rw[hd];exact .head _));have hS:=aoa c hcf;have h5:=ih (i+1) (bt hd);have c1:((i+1:Nat):Int)=(i:Int)+1:=rfl;rw[c1]at h5;simp only[Qn,Yg,c7.av]at h5 hS⊢;rw[ah yy,<-h5];generalize dJ f.chans=CC at *;simp(maxSteps:=300000) (disch:=omega)[↓ac,↓aa,-getElem?_pos,hg,hS,hl]
def axp (f:gW)(hf:f.Fit)(X Z X' Z':AV)(N:Nat)(j:Nat)(l:V_)(q:R_)(hj:f.bands.drop j=l::q)(hl:l.length<=1000):∀(r:V_) (i:Nat),l.drop i=r->
  (Dn prog).code (.loop kN) ⟨[(2,.ptr 0 0),(3,.ptr 1 0),(6,A_ j),(7,A_ i)],Qn f X (.d (.lst (dq f.bands))) Z X' (.d (.lst (dq f.bands))) Z' N⟩=some (.exit 4,⟨[(2,.ptr 0 0),(3,.ptr 1 0),(6,A_ j)],Qn f X (.d (.lst (dq f.bands))) Z X' (.d (.lst (dq f.bands))) Z' N⟩):=by
 intro r;have hg1:=Aw hj;have hll:=sn (l:=l);have hjl:=bE hj;have hbl:=hf.bands.1
 induction r with
 |nil =>
  intro i hd;have hi:=bg hd;simp only[Qn,Yg];rw[ah yp];simp(maxSteps:=300000) (disch:=omega)[↓ac,↓aa,-getElem?_pos,hg1,hll]
 |cons c r ih =>
  intro i hd;have hlt:=bE hd;have hg:=alS hd;have h5:=ih (i+1) (bt hd);have c1:((i+1:Nat):Int)=(i:Int)+1:=rfl;rw[c1]at h5;simp only[Qn,Yg]at h5⊢;rw[ah yp,<-h5];generalize dq f.bands=BB at *;generalize gU l=B at *;simp(maxSteps:=300000) (disch:=omega)[↓ac,↓aa,-getElem?_pos,hg1,hg,hll]
def awj (f:gW)(hf:f.Fit)(X Y Z X' Y' Z':AV)(hY:eV Y (dq f.bands))(hY':eV Y' (dq f.bands))(N:Nat):∀(r:R_) (j:Nat),f.bands.drop j=r->
  (Dn prog).code (.loop kG) ⟨[(2,.ptr 0 0),(3,.ptr 1 0),(6,A_ j)],Qn f X Y Z X' Y' Z' N⟩=some (.exit 2,⟨[],⟨[],N⟩⟩):=by
 intro r;have hl:=II (t:=f.bands);have hbl:=hf.bands.1
 induction r with
 |nil =>
  intro i hd;have hi:=bg hd;obtain⟨⟨x1,x2,x3⟩,x4,x5⟩:=hY.facts;rw[hl]at x5;simp only[Qn,Yg];rw[ah yh];simp(maxSteps:=300000) (disch:=omega)[↓ac,↓aa,x1,x2,x5]
 |cons c r ih =>
  intro i hd;have hlt:=bE hd;have hg:=Aw hd;have hne:dq f.bands≠[]:=λh=>by have:=aX List.length h;rw[hl,bf]at this;omega
  have hxe:=hY.ne hne;have hxe':=hY'.ne hne;subst hxe hxe';have hcl:=hf.bands.2 c (bG (by rw[hd];exact .head _));have hll:=sn (l:=c);have h1:=axp f hf X Z X' Z' N i c r hd hcl c 0 rfl;have h5:=ih (i+1) (bt hd);have c1:((i+1:Nat):Int)=(i:Int)+1:=rfl;have c0:((0:Nat):Int)=0:=rfl;rw[c1]at h5;rw[c0]at h1;simp only[Qn,Yg]at h1 h5⊢;rw[ah yh,<-h5];generalize dq f.bands=BB at *;generalize gU c=B at *;simp(maxSteps:=300000) (disch:=omega)[↓ac,↓aa,-getElem?_pos,hg,h1,hl]
def aor (f:gW)(hf:f.Fit)(X Y Z X' Y' Z':AV)(hX:eV X (dJ f.chans))(hY:eV Y (dq f.bands))(hZ:eV Z (ai f.fill))(hX':eV X' (dJ f.chans))(hY':eV Y' (dq f.bands))(hZ':eV Z' (ai f.fill)) :
  bi prog Ce [p9 f X Y Z,p9 f X' Y' Z']=some (B_ true):=by
 have h0:=awC f hf X Y Z X' Y' Z' hX hX' 2 f.chans 0 rfl;have h2:=awj f hf X Y Z X' Y' Z' hY hY' 2 f.bands 0 rfl;obtain⟨⟨x1,x2,x3⟩,x4,x5⟩:=hX.facts;obtain⟨⟨y1,y2,y3⟩,y4,y5⟩:=hY.facts;obtain⟨⟨z1,z2,z3⟩,z4,z5⟩:=hZ.facts;obtain⟨⟨a1,a2,a3⟩,a4,a5⟩:=hX'.facts;obtain⟨⟨b1,b2,b3⟩,b4,b5⟩:=hY'.facts;obtain⟨⟨d1,d2,d3⟩,d4,d5⟩:=hZ'.facts;have ts:∀{W:AV},eV W (ai f.fill)->∀h,MR h W=some (.str (f.fill.map Nat.toUInt8)):=λ{W} hW h=>by
  rcases hW with rfl|⟨rfl,e⟩
  .exact OO
  .have:f.fill=[]:=ay (by rw[<-bw (l:=f.fill),e];rfl);rw[this];rfl
 have t1:=ts hZ;have t2:=ts hZ';have c0:((0:Nat):Int)=0:=rfl;rw[c0]at h0 h2;simp only[Qn,Yg,p9]at h0 h2⊢;rw[aH NO OI rfl];simp(maxSteps:=300000) (disch:=omega)[↓ac,↓aa,-bq,x1,x2,x3,x4,x5,y1,y2,y3,y4,y5,z1,z2,z3,z4,z5,a1,a2,a3,a4,a5,b1,b2,b3,b4,b5,d1,d2,d3,d4,d5,t1,t2,h0,h2]
def amk {w:AV}{b:Bool}(e:iK w=B_ b):w=B_ b:=by
 unfold iK at e;split at e
 .cases w<;>simp[pW,pE,mT]at e⊢<;>exact e
 .exact e
def ar8 {h:am}{v:AV}{b:Bool}(e:gS h v=some (B_ b)):v=B_ b:=by
 unfold gS at e;split at e
 .split at e
  .simp only[ae]at e;exact absurd (amk e) (by simp)
  .simp at e
 .split at e
  .rename_i x q hq;simp only[ae]at e;have hx:=amk e;subst hx;unfold fU at hq;split at hq
   .split at hq<;>simp at hq
   .unfold jF at hq;split at hq
    .simp only[ae,aQ]at hq;exact hq.1
    .simp at hq
    .simp at hq
    .split at hq
     .split at hq<;>simp at hq
     .simp at hq
    .simp at hq
  .simp at e
def am1 {P:Nat->Z_}{f:FuncId}{as:D_}{b:Bool}(h:bi P f as=some (B_ b)):∃m hs,(run P m).call f as ⟨[],0⟩=some (B_ b,hs):=by
 unfold bi at h
 cases hc:(Dn P).call f as ⟨[],0⟩ with
 |none=>rw[hc]at h;simp[tj]at h
 |some q =>
  obtain⟨v,hs⟩:=q;rw[hc]at h;have:=ar8 h;subst this;obtain⟨m,hm⟩:=Eu hc;exact⟨m,hs,hm⟩
structure gW.Rng (f:gW):Prop where
 chans:∀c∈f.chans,c.Rng
 mask:i64 f.mask
 fill:∀n∈f.fill,n<=255
def awb {d:D}(h:BJ (.lst [.int .u8]) d):∃l:C_,d=.lst (ai l)∧∀n∈l,n<=255:=by
 obtain⟨xs,rfl,h⟩:=ayW h;obtain⟨l,rfl,hl⟩:=alF (f:=λn:Nat=>[.int .u8 (n:Int)]) (Q:=λn=>n<=255) (λx hx=>by
  obtain⟨d,rfl,hd⟩:=azM hx;obtain⟨n,rfl,hn⟩:=aCl hd;exact⟨n,rfl,hn⟩) h
 exact⟨l,rfl,hl⟩
def gW.Rng.fit {f:gW}(h:f.Rng)(s:ay9 f):f.Fit where
 chans:=⟨by have:=s.chans.1;omega,λc hc=>(h.chans c hc).fit (s.chans.2 c hc)⟩
 mask:=h.mask
 bands:=⟨by have:=s.bands.1;omega,λl hl=>by have:=s.bands.2 l hl;omega⟩
 fill:=by have:=s.fill;omega
 fillI:=h.fill
def aue {b:C_}(hb:b.length<=1000000000)(h8:b.length % 8=0)(hbin:bin b){r:Nat}(hr:r<=11){n:Int}(hn:n=1∨n=2){f:gW}{m:Nat}(e:RF b r n=.ok f m) :
  (f.Fit∧qx r n f)∧b=tf r n f∧At b 0 m (ano r n f)∧b.length<=m+7:=by
 unfold RF at e;obtain⟨f2,m2,e1,e⟩:=aJ.1 e;by_cases hc:b.length-m2<=7∧1∉b.drop m2
 rotate_left
 .rw[aa hc]at e;exact absurd e (by simp)
 rw[ac hc]at e;injection e with g1 g2
 subst g1 g2;obtain⟨h1,h2,hA⟩:=atv hb hr hn e1;refine⟨⟨h1,h2⟩,?_,hA,o_⟩;have hle:=df hA;obtain⟨_,hm,t,ht⟩:=hA;rw[lU]at ht;have hmt:t=b.drop m2:=by rw[ht,hm,bC,wd]
 have htz:t=List.replicate t.length 0:=List.eq_replicate_iff.2 ⟨rfl,λx hx=>by
  have h0:=hbin x (by rw[ht];exact fA _ hx);have h1:x≠1:=λh=>hc.2 (by rw[<-hmt,<-h];exact hx)
  omega⟩
 have htl:t.length=acu (ano r n f2).length:=by
  have:=aX List.length ht;rw[al]at this;unfold acu;omega
 rw[ht,htz,htl];rfl
def Wr {h:am}{l:C_}{a:Nat}(ha:a<=l.length)(hl:l.length<=1000000000):l7 h 1 (.d (.lst (ai l))) none (some (A_ (a:Int))) none=some (.d (.lst (ai (l.take a)))):=by
 have e2:dW (A_ (a:Int)) (ai l).length=some a:=by rw[xy o_ (by rw[bw];omega)];simp
 have e3:FN 1 (ai l)=true:=by cases l<;>rfl
 simp only[l7,okSl,uU,lenOf,xg,vI,e2,e3,sub];have e4:((ai l).drop 0).take (a-0)=ai (l.take a):=by
  unfold ai;rw[lU,Nat.sub_zero,List.map_take]
 rw[e4]
abbrev qk:=@List.tail_drop
structure qE where
 rate:Int
 chans:Int
 crc:Bool
 len:Int
 full:Int
abbrev qE.cells (h:qE):D_:=[A_ h.rate,A_ h.chans,B_ h.crc,A_ h.len,A_ h.full]
abbrev yG:qE:=⟨0,0,false,0,0⟩
def ef (c:Bool):Nat:=if c then 9 else 7
def KV (c:Bool):bi prog L9 [B_ c]=some (A_ (ef c)):=by
 rw[aH ai5 akZ rfl]
 cases c
 .simp(maxSteps:=300000) (disch:=omega)[↓ac,↓aa,ef]
 .simp(maxSteps:=300000) (disch:=omega)[↓ac,↓aa,ef]
def nC (h:qE):Prop:=(0<=h.rate∧h.rate<=11)∧(h.chans=1∨h.chans=2)∧(0<=h.full∧h.full<=2047)∧(ef h.crc:Int)<h.len∧h.len<=ef h.crc+192*h.chans
instance (h:qE):Decidable (nC h):=by unfold nC;infer_instance
def YC (h:qE):bi prog Rx [.agg h.cells]=some (B_ (decide (nC h))):=by
 obtain⟨r,n,c,l,f⟩:=h;have hs:=KV c;have h79:ef c=7∨ef c=9:=by cases c<;>simp[ef]
 rw[aH ahj ahg rfl];by_cases h1:0<=r
 rotate_left
 .rw[decide_eq_false (by simp only[nC];omega)];generalize ef c=S at *;simp(maxSteps:=300000) (disch:=omega)[↓ac,↓aa,hs]
 by_cases h2:r<=11
 rotate_left
 .rw[decide_eq_false (by simp only[nC];omega)];generalize ef c=S at *;simp(maxSteps:=300000) (disch:=omega)[↓ac,↓aa,hs]
 by_cases h3:n=1∨n=2
 rotate_left
 .rw[decide_eq_false (by simp only[nC];omega)];generalize ef c=S at *;simp(maxSteps:=300000) (disch:=omega)[↓ac,↓aa,hs]
 by_cases h4:0<=f
 rotate_left
 .rw[decide_eq_false (by simp only[nC];omega)];generalize ef c=S at *;rcases h3 with rfl|rfl<;>simp(maxSteps:=300000) (disch:=omega)[↓ac,↓aa,hs]
 by_cases h5:f<=2047
 rotate_left
 .rw[decide_eq_false (by simp only[nC];omega)];generalize ef c=S at *;rcases h3 with rfl|rfl<;>simp(maxSteps:=300000) (disch:=omega)[↓ac,↓aa,hs]
 by_cases h6:(ef c:Int)<l
 rotate_left
 .rw[decide_eq_false (by simp only[nC];omega)];generalize ef c=S at *;rcases h3 with rfl|rfl<;>simp(maxSteps:=300000) (disch:=omega)[↓ac,↓aa,hs]
 by_cases h7:l<=ef c+192*n
 .rw[decide_eq_true (by simp only[nC];omega)];generalize ef c=S at *;rcases h3 with rfl|rfl<;>simp(maxSteps:=300000) (disch:=omega)[↓ac,↓aa,hs]
 .rw[decide_eq_false (by simp only[nC];omega)];generalize ef c=S at *;rcases h3 with rfl|rfl<;>simp(maxSteps:=300000) (disch:=omega)[↓ac,↓aa,hs]
def aaG {l:C_}{i x:Nat}{r:C_}(h:l.drop i=x::r):(ai l)[i]?=some [.int .u8 (x:Int)]:=by
 have:=aX (λl=>l[0]?) h;simp only[b6,ck,dQ]at this;exact nG this
def atX (x y:C_)(hl:x.length=y.length)(hx:x.length<=1000000):∀(r s:C_) (i:Nat),x.drop i=r->y.drop i=s->
  (Dn prog).code (.loop kL) ⟨[(0,.d (.lst (ai x))),(1,.d (.lst (ai y))),(12,A_ x.length),(13,A_ i)],⟨[],0⟩⟩ =
  if r=s then some (.exit 0,⟨[],⟨[],0⟩⟩) else some (.ret,⟨[(4,B_ false)],⟨[],0⟩⟩):=by
 intro r
 induction r with
 |nil =>
  intro s i h1 h2;have hi:=bg h1;have hs:s=[]:=by rw[<-h2];exact cy (by omega)
  rw[hs,ac rfl,ah yq];simp(maxSteps:=300000) (disch:=omega)[↓ac,↓aa]
 |cons a r ih =>
  intro s i h1 h2;have hi:=bE h1;obtain⟨b,s,rfl⟩:∃b s',s=b::s':=by
   cases s with
   |nil=>have:=bg h2;omega
   |cons b s=>exact⟨b,s,rfl⟩
  have g1:=aaG h1;have g2:=aaG h2;have d1:x.drop (i+1)=r:=by rw[<-qk,h1];rfl
  have d2:y.drop (i+1)=s:=by rw[<-qk,h2];rfl
  have ih1:=ih s (i+1) d1 d2;rw[show((i+1:Nat):Int)=(i:Int)+1 from rfl]at ih1;rw[ah yq];by_cases hab:a=b
  .subst hab;have e:(a::r=a::s)=(r=s):=s_;simp only[e];rw[<-ih1];simp(maxSteps:=300000) (disch:=omega)[↓ac,↓aa,g1,g2]
  .have e:¬(a::r=b::s):=by simp[hab]
   rw[aa e];simp(maxSteps:=300000) (disch:=omega)[↓ac,↓aa,g1,g2,hab]
def am7 (x y:C_)(hx:x.length<=1000000)(hy:y.length<=1000000):bi prog BK [.d (.lst (ai x)),.d (.lst (ai y))]=some (B_ (decide (x=y))):=by
 have hxl:=bw (l:=x);have hyl:=bw (l:=y);rw[aH NH OM rfl];by_cases h:x.length=y.length
 .have h0:=atX x y h hx x y 0 rfl rfl;have c0:((0:Nat):Int)=0:=rfl;rw[c0]at h0;by_cases e:x=y
  .rw[ac e]at h0;rw[decide_eq_true e];generalize ai x=X at *;generalize ai y=Y at *;simp(maxSteps:=300000) (disch:=omega)[↓ac,↓aa,h0,hxl,hyl]
  .rw[aa e]at h0;rw[decide_eq_false e];generalize ai x=X at *;generalize ai y=Y at *;simp(maxSteps:=300000) (disch:=omega)[↓ac,↓aa,h0,hxl,hyl]
 .rw[decide_eq_false (λe=>h (by rw[e]))];generalize ai x=X at *;generalize ai y=Y at *;simp(maxSteps:=300000) (disch:=omega)[↓ac,↓aa,hxl,hyl]
def cN (c:Bool):Int:=if c then 0 else 1
def oz (h:qE):G_:=[4095,12,0,1,0,2,cN h.crc,1,1,2,h.rate,4,0,1,h.chans,3,0,1,0,1,0,2,h.len,13,h.full,11,0,2]
def PO (h:qE):D_:=(oz h).map λn=>A_ n
def U4 (h:qE):bi prog afc [.agg h.cells]=some (.agg (PO h)):=by
 obtain⟨r,n,c,l,f⟩:=h
 cases c
 .exact A7 300 (by kernel_rfl)
 .exact A7 300 (by kernel_rfl)
def fB (h:qE)(i:Nat):C_:=aq ((oz h).getD (2*i) 0).toNat ((oz h).getD (2*i+1) 0).toNat
def nP (h:qE)(i:Nat):C_:=(List.range i).flatMap (fB h)
def agR {h:qE}{i:Nat}:nP h (i+1)=nP h i++fB h i:=by
 rw[nP,List.range_succ,List.flatMap_append];simp[nP]
def azR {h:qE}:∀{i:Nat},i<14->(fB h i).length<=13:=by
 intro i hi;rw[fB,dI];obtain rfl|rfl|rfl|rfl|rfl|rfl|rfl|rfl|rfl|rfl|rfl|rfl|rfl|rfl:i=0∨i=1∨i=2∨i=3∨i=4∨i=5∨i=6∨i=7∨i=8∨i=9∨i=10∨i=11∨i=12∨i=13:=o_
 all_goals simp[oz]
def abf {h:qE}:∀{i:Nat},i<=14->(nP h i).length<=13*i
 |0,_=>by simp[nP]
 |i+1,hi=>by
  have h1:=abf (h:=h) (i:=i) o_;have h2:=azR (h:=h) (i:=i) o_;rw[agR,al];omega
def axz {h:qE}(ok:nC h){i:Nat}(hi:i<14):nq ((oz h).getD (2*i) 0) ((oz h).getD (2*i+1) 0)∧(oz h).getD (2*i) 0<=10000:=by
 obtain⟨r,n,c,l,f⟩:=h;simp only[nC]at ok;have h79:ef c=7∨ef c=9:=by cases c<;>simp[ef]
 have hc:cN c=0∨cN c=1:=by cases c<;>simp[cN]
 obtain rfl|rfl|rfl|rfl|rfl|rfl|rfl|rfl|rfl|rfl|rfl|rfl|rfl|rfl:i=0∨i=1∨i=2∨i=3∨i=4∨i=5∨i=6∨i=7∨i=8∨i=9∨i=10∨i=11∨i=12∨i=13:=o_
 all_goals simp[oz,nq];try omega
def Pr {h:qE}:(PO h).map nu=PO h∧shareAll (PO h)=PO h:=⟨rfl,rfl⟩
def aqm {h:qE}{i:Nat}(hi:i<14):ixV 14 2 true (.agg (PO h)) (A_ i)=some (.agg [A_ ((oz h).getD (2*i) 0),A_ ((oz h).getD (2*i+1) 0)]):=by
 obtain rfl|rfl|rfl|rfl|rfl|rfl|rfl|rfl|rfl|rfl|rfl|rfl|rfl|rfl:i=0∨i=1∨i=2∨i=3∨i=4∨i=5∨i=6∨i=7∨i=8∨i=9∨i=10∨i=11∨i=12∨i=13:=o_
 all_goals rfl
def akN (h:qE)(ok:nC h):∀(k i N:Nat) (x:AV),i+k=14->(x=.nl∧i=0∨x=.own false 1 (ai (nP h i))∧0<i)->
  ∃M,(Dn prog).code (.loop qX) ⟨[(2,x),(6,.agg (PO h)),(7,A_ i)],⟨[],N⟩⟩=some (.exit 0,⟨[(2,.own false 1 (ai (nP h 14)))],⟨[],M⟩⟩):=by
 intro k
 induction k with
 |zero =>
  intro i N x hi hx;obtain rfl:i=14:=o_;rcases hx with ⟨_,hx⟩|⟨rfl,_⟩
  .omega
  refine⟨N,?_⟩;rw[ah Hw];generalize ai (nP h 14)=W at *;simp(maxSteps:=300000) (disch:=omega)[↓ac,↓aa]
 |succ k ih =>
  intro i N x hi hx;have hP:=axz ok (i:=i) o_;have hX:=aqm (h:=h) (i:=i) o_;have hlw:=abf (h:=h) (i:=i) o_;obtain⟨M,ih1⟩:=ih (i+1) (N+1) (.own false 1 (ai (nP h (i+1)))) o_ (.inr ⟨rfl,o_⟩);refine⟨M,?_⟩;rw[show((i+1:Nat):Int)=(i:Int)+1 from rfl,agR]at ih1;have hB:∀y:AV,(y=.d (.lst (ai (nP h i)))∨y=.nl∧nP h i=[])->bi prog yd [y,A_ ((oz h).getD (2*i) 0),A_ ((oz h).getD (2*i+1) 0)]=some (.tup [.own true 1 (ai (nP h i++fB h i)),A_ 0]):=λy hy=>by
   have:=lm (nP h i) ((oz h).getD (2*i) 0) ((oz h).getD (2*i+1) 0) o_ (by have:=hP.1;have:=hP.2;simp only[nq]at *;omega) y hy;rw[ac hP.1]at this;exact this
  have hwl:=bw (l:=nP h i);rw[<-ih1];clear ih ih1;obtain⟨hfm,hfs⟩:=Pr (h:=h);rw[ah Hw];generalize nP h i++fB h i=Q at *;generalize (oz h).getD (2*i) 0=A at *;generalize (oz h).getD (2*i+1) 0=B at *;generalize PO h=F at *;rcases hx with ⟨rfl,rfl⟩|⟨rfl,h0⟩
  .have hb:=hB .nl (.inr ⟨rfl,rfl⟩);have c0:((0:Nat):Int)=0:=rfl;rw[c0]at hX⊢;simp(maxSteps:=300000) (disch:=omega)[↓ac,↓aa,hfm,hfs,hX,hb]
  .have hb:=hB (.d (.lst (ai (nP h i)))) (.inl rfl);generalize ai (nP h i)=Z at *;generalize ai Q=V at *;simp(maxSteps:=300000) (disch:=omega)[↓ac,↓aa,hfm,hfs,hX,hb]
def SC (h:qE)(ok:nC h):bi prog D2 [.agg h.cells]=some (.own true 1 (ai (nP h 14))):=by
 have hf:=U4 h;obtain⟨M,hl⟩:=akN h ok 14 0 1 .nl rfl (.inl ⟨rfl,rfl⟩);have c0:((0:Nat):Int)=0:=rfl;obtain⟨hfm,hfs⟩:=Pr (h:=h);rw[c0]at hl;rw[aH acz aaF rfl];generalize PO h=F at *;simp(maxSteps:=300000) (disch:=omega)[↓ac,↓aa,hf,hfm,hfs,hl]
def gv (l:C_)(a s:Nat):Nat:=val ((l.drop a).take s) 0
def aBO {l:C_}(hl:l.length=56)(hb:bin l){a s:Nat}(h:a+s<=56)(hs:s<=31):bi prog xC [.d (.lst (ai l)),A_ a,A_ s]=some (.tup [A_ (gv l a s),A_ ((a+s:Nat):Int),A_ 0]):=by
 have hd:bin ((l.drop a).take s):=λx hx=>hb x (bG (dh hx))
 have hg:bb l (a:Int) (s:Int)=.ok (gv l a s) (a+s):=by
  unfold bb;rw[ac o_,aa o_,au,au,ac hd];rfl
 have hv:gv l a s<2 ^ s:=by
  have:=MG (n:=0) (i:=0) hd o_;have e:((l.drop a).take s).length=s:=by rw[bI,cu];omega
  rw[e,bC]at this;exact this
 rw[gL l a s o_ o_,hg,eI ⟨by rw[au];exact hv,o_⟩]
def Db (l:C_)(i:Nat):qE:=⟨if 5<i then gv l 18 4 else 0,if 7<i then gv l 23 3 else 0,if 3<i then decide (gv l 15 1=0) else false,if 11<i then gv l 30 13 else 0,if 12<i then gv l 43 11 else 0⟩
def nf (l:C_):qE:=⟨gv l 18 4,gv l 23 3,decide (gv l 15 1=0),gv l 30 13,gv l 43 11⟩
def wZ:C_:=[0,12,13,15,16,18,22,23,26,27,28,30,43,54,56]
def awx (X:AV)(l:C_)(hl:l.length=56)(hb:bin l):∀(k i N:Nat),i+k=14->1<=N->
  ∃M,N<=M∧(Dn prog).code (.loop xS) ⟨[(0,X),(2,.ptr 0 0),(4,.own false 1 (ai l)),(6,A_ (wZ.getD i 0)),(23,.agg (PO yG)),(24,A_ i)],⟨[(0,.cells (Db l i).cells)],N⟩⟩ =
   some (.exit 0,⟨[(0,X),(2,.ptr 0 0),(4,.own false 1 (ai l))],⟨[(0,.cells (nf l).cells)],M⟩⟩):=by
 intro k
 induction k with
 |zero =>
  intro i N hi hN;obtain rfl:i=14:=o_;refine⟨N,ak _,?_⟩;rw[ah MZ];generalize ai l=W at *;simp(maxSteps:=300000) (disch:=omega)[↓ac,↓aa,Db,nf]
 |succ k ih =>
  intro i N hi hN;have hg:=λa s h1 h2=>aBO hl hb (a:=a) (s:=s) h1 h2
  obtain⟨M,hM,ih1⟩:=ih (i+1) (N+1) o_ o_;refine⟨M,o_,?_⟩;rw[show((i+1:Nat):Int)=(i:Int)+1 from rfl]at ih1;rw[<-ih1];clear ih ih1;rw[ah MZ];obtain⟨hfm,hfs⟩:=Pr (h:=yG);have hX:=aqm (h:=yG) (i:=i) o_;generalize PO yG=F at *;generalize ai l=W at *;obtain rfl|rfl|rfl|rfl|rfl|rfl|rfl|rfl|rfl|rfl|rfl|rfl|rfl|rfl:i=0∨i=1∨i=2∨i=3∨i=4∨i=5∨i=6∨i=7∨i=8∨i=9∨i=10∨i=11∨i=12∨i=13:=o_
  .have h:=hg 0 12 o_ o_;simp at h;simp[oz,cN]at hX;simp(maxSteps:=300000) (disch:=omega)[↓ac,↓aa,Db,wZ,hfm,hfs,hX,h]
  .have h:=hg 12 1 o_ o_;simp at h;simp[oz,cN]at hX;simp(maxSteps:=300000) (disch:=omega)[↓ac,↓aa,Db,wZ,hfm,hfs,hX,h]
  .have h:=hg 13 2 o_ o_;simp at h;simp[oz,cN]at hX;simp(maxSteps:=300000) (disch:=omega)[↓ac,↓aa,Db,wZ,hfm,hfs,hX,h]
  .have h:=hg 15 1 o_ o_;simp at h;simp[oz,cN]at hX;by_cases hz:gv l 15 1=0
   .rw[hz]at h;simp(maxSteps:=300000) (disch:=omega)[↓ac,↓aa,Db,wZ,hfm,hfs,hX,h,hz]
   .simp(maxSteps:=300000) (disch:=omega)[↓ac,↓aa,Db,wZ,hfm,hfs,hX,h,hz]
  .have h:=hg 16 2 o_ o_;simp at h;simp[oz,cN]at hX;simp(maxSteps:=300000) (disch:=omega)[↓ac,↓aa,Db,wZ,hfm,hfs,hX,h]
  .have h:=hg 18 4 o_ o_;simp at h;simp[oz,cN]at hX;simp(maxSteps:=300000) (disch:=omega)[↓ac,↓aa,Db,wZ,hfm,hfs,hX,h]
  .have h:=hg 22 1 o_ o_;simp at h;simp[oz,cN]at hX;simp(maxSteps:=300000) (disch:=omega)[↓ac,↓aa,Db,wZ,hfm,hfs,hX,h]
  .have h:=hg 23 3 o_ o_;simp at h;simp[oz,cN]at hX;simp(maxSteps:=300000) (disch:=omega)[↓ac,↓aa,Db,wZ,hfm,hfs,hX,h]
  .have h:=hg 26 1 o_ o_;simp at h;simp[oz,cN]at hX;simp(maxSteps:=300000) (disch:=omega)[↓ac,↓aa,Db,wZ,hfm,hfs,hX,h]
  .have h:=hg 27 1 o_ o_;simp at h;simp[oz,cN]at hX;simp(maxSteps:=300000) (disch:=omega)[↓ac,↓aa,Db,wZ,hfm,hfs,hX,h]
  .have h:=hg 28 2 o_ o_;simp at h;simp[oz,cN]at hX;simp(maxSteps:=300000) (disch:=omega)[↓ac,↓aa,Db,wZ,hfm,hfs,hX,h]
  .have h:=hg 30 13 o_ o_;simp at h;simp[oz,cN]at hX;simp(maxSteps:=300000) (disch:=omega)[↓ac,↓aa,Db,wZ,hfm,hfs,hX,h]
  .have h:=hg 43 11 o_ o_;simp at h;simp[oz,cN]at hX;simp(maxSteps:=300000) (disch:=omega)[↓ac,↓aa,Db,wZ,hfm,hfs,hX,h]
  .have h:=hg 54 2 o_ o_;simp at h;simp[oz,cN]at hX;simp(maxSteps:=300000) (disch:=omega)[↓ac,↓aa,Db,wZ,hfm,hfs,hX,h]
def oF (b:C_):Int:=if b.length<7∨b.length<ef (nf (cg (b.take 7))).crc then 5 else if nC (nf (cg (b.take 7)))∧nP (nf (cg (b.take 7))) 14=cg (b.take 7) then 0 else 8
def bc (b:C_):qE:=if oF b=0 then nf (cg (b.take 7)) else yG
def acJ (b:C_)(hb:b.length<=100000)(hb2:∀x∈b,x<=255)(X:AV)(hX:eV X (ai b)):bi prog Vl [X]=some (.tup [.agg (bc b).cells,A_ (oF b)]):=by
 obtain⟨⟨x1,x2,x3⟩,x4,x5⟩:=hX.facts;rw[bw]at x5;by_cases h7:b.length<7
 .have e:oF b=5:=by rw[oF,ac (.inl h7)]
  have e2:bc b=yG:=by rw[bc,e,aa k_]
  rw[e,e2,aH Vv Vq rfl];simp(maxSteps:=300000) (disch:=omega)[↓ac,↓aa,x1,x2,x3,x4,x5]
 have hne:ai b≠[]:=λh=>by
  have:=aX List.length h;rw[bw,bf]at this;omega
 rw[hX.ne hne];have hs7:∀h,l7 h 1 (.d (.lst (ai b))) none (some (A_ 7)) none=some (.d (.lst (ai (b.take 7)))):=λh=>Wr (h:=h) (a:=7) o_ (by omega)
 have hU:=E9 (b.take 7) (by rw[bI];omega) (λx hx=>hb2 x (dh hx)) _ eV.d;have hbl:=bw (l:=b);obtain⟨l,hl⟩:∃l,l=cg (b.take 7):=⟨_,rfl⟩
 have hl56:l.length=56:=by rw[hl,gJ,bI];omega
 have hbin:bin l:=by rw[hl];exact aa1
 rw[<-hl]at hU;have hf:=U4 yG;obtain⟨M,hM,h0⟩:=awx (.d (.lst (ai b))) l hl56 hbin 14 0 1 rfl o_;have c0:((0:Nat):Int)=0:=rfl;have hi0:Db l 0=yG:=by simp[Db]
 have ho0:((wZ.getD 0 0:Nat):Int)=0:=rfl;rw[c0,hi0,ho0]at h0;have hS:=KV (nf l).crc;have hR:=YC (nf l);have hW:nC (nf l)->bi prog D2 [.agg (nf l).cells]=some (.own true 1 (ai (nP (nf l) 14))):=SC _;have hwl:=abf (h:=nf l) (i:=14) o_;have hE:=am7 (nP (nf l) 14) l o_ o_;have h79:ef (nf l).crc=7∨ef (nf l).crc=9:=by cases (nf l).crc<;>simp[ef]
 have eE:oF b=if b.length<ef (nf l).crc then 5 else if nC (nf l)∧nP (nf l) 14=l then 0 else 8:=by
  rw[oF,<-hl];by_cases hq:b.length<ef (nf l).crc
  .rw[ac (Or.inr hq),ac hq]
  .rw[aa o_,aa hq]
 have eH:bc b=if oF b=0 then nf l else yG:=by rw[bc,<-hl]
 rw[eH,eE];clear eH eE;obtain⟨hfm,hfs⟩:=Pr (h:=yG);generalize PO yG=F at *;generalize nf l=h at *;obtain⟨r,n,c,len,fu⟩:=h;simp only[]at hS h79⊢;generalize ef c=S at *;rw[aH Vv Vq rfl];generalize ai (b.take 7)=T7 at *;generalize ai b=B at *;generalize ai l=L at *;by_cases h1:b.length<S
 .rw[ac h1,aa (show ¬(5:Int)=0 by decide)];simp(maxSteps:=300000) (disch:=omega)[↓ac,↓aa,hs7,hU,hf,hfm,hfs,h0,hS,hR,hE,hbl]
 .rw[aa h1];by_cases h2:nC ⟨r,n,c,len,fu⟩
  .have hW:=hW h2;rw[decide_eq_true h2]at hR;by_cases h3:nP ⟨r,n,c,len,fu⟩ 14=l
   .rw[ac (And.intro h2 h3),ac rfl];rw[decide_eq_true h3]at hE;generalize ai (nP ⟨r,n,c,len,fu⟩ 14)=W at *;simp(maxSteps:=300000) (disch:=omega)[↓ac,↓aa,hs7,hU,hf,hfm,hfs,h0,hS,hR,hW,hE,hbl]
   .rw[aa (λh=>h3 (And.right h)),aa (show ¬(8:Int)=0 by decide)];rw[decide_eq_false h3]at hE;generalize ai (nP ⟨r,n,c,len,fu⟩ 14)=W at *;simp(maxSteps:=300000) (disch:=omega)[↓ac,↓aa,hs7,hU,hf,hfm,hfs,h0,hS,hR,hW,hE,hbl]
  .rw[aa (λh=>h2 (And.left h)),aa (show ¬(8:Int)=0 by decide)];rw[decide_eq_false h2]at hR;simp(maxSteps:=300000) (disch:=omega)[↓ac,↓aa,hs7,hU,hf,hfm,hfs,h0,hS,hR,hbl]
def HN (w x:Nat):Nat:=if w / 32768=x then 2*w % 65536 else (2*w % 65536) ^^^ 32773
def ag2 {w x:Nat}:HN w x<65536:=by
 unfold HN;split
 .omega
 .exact Nat.xor_lt_two_pow (n:=16) o_ (by omega)
def arS (w x:Nat)(hw:w<65536)(hx:x<=1)(N:Nat):(Dn prog).call IR [.d (.int .u8 x),.ptr 0 0] ⟨[(0,.cells [.d (.int .u16 w)])],N⟩=some (.tup [],⟨[(0,.cells [.d (.int .u16 (HN w x))])],N⟩):=by
 have e1:(w:Int).fdiv 32768=((w / 32768:Nat):Int):=by rw[fq _ o_];rfl
 have e3:((w:Int)*2) % 65536=((2*w % 65536:Nat):Int):=o_;have hq:w / 32768<=1:=o_;have tn:jW .u16=65536:=rfl;have hx2:=aAl (k:=.u16) (a:=2*w % 65536) (b:=32773) (by rw[tn];omega) (by rw[tn];omega) (by rw[tn];exact Nat.xor_lt_two_pow (x:=2*w % 65536) (y:=32773) (n:=16) o_ o_);have hw2:wr .u16 ((w:Int)*2)=((2*w % 65536:Nat):Int):=by
  rw[abS,<-e3];rfl
 have c2:((32773:Nat):Int)=32773:=rfl;rw[c2]at hx2;unfold HN;generalize hd:2*w % 65536=d at *;generalize hy:d ^^^ 32773=y at *;generalize hqq:w / 32768=q at *;have hdl:d<65536:=o_;rw[aZ af4 aiz rfl];by_cases h:q=x
 .subst h;simp(maxSteps:=300000) (disch:=omega)[↓ac,↓aa,e1,hw2]
 .have h2:¬(q:Int)=x:=o_;rw[aa h];simp(maxSteps:=300000) (disch:=omega)[↓ac,↓aa,e1,hw2,h2,hx2]
def ayn (b:C_)(hb:bin b)(hl:b.length<=1000000):∀(r:C_) (i w:Nat),b.drop i=r->w<65536->
  (Dn prog).code (.loop Ab) ⟨[(6,.ptr 0 0),(7,.fn IR [] [.ptr 0 0]),(19,.d (.lst (ai b))),(20,A_ b.length),(21,A_ i)],⟨[(0,.cells [.d (.int .u16 w)])],1⟩⟩ =
  some (.exit 0,⟨[(6,.ptr 0 0)],⟨[(0,.cells [.d (.int .u16 ((r.foldl HN w:Nat):Int))])],1⟩⟩):=by
 intro r
 induction r with
 |nil =>
  intro i w h1 hw;have hi:=bg h1;rw[ah Qi];simp(maxSteps:=300000) (disch:=omega)[↓ac,↓aa]
 |cons a r ih =>
  intro i w h1 hw;have hi:=bE h1;have g1:=aaG h1;have d1:b.drop (i+1)=r:=by rw[<-qk,h1];rfl
  have ha:a<=1:=hb a (bG (i:=i) (by rw[h1];exact .head _));have hc:=arS w a hw ha 1;have ih1:=ih (i+1) (HN w a) d1 ag2;rw[show((i+1:Nat):Int)=(i:Int)+1 from rfl]at ih1;rw[jc,<-ih1,ah Qi];generalize ai b=B at *;simp(maxSteps:=300000) (disch:=omega)[↓ac,↓aa,g1,hc]
def CH (b:C_):Nat:=b.foldl HN 65535
def afS:∀{b:C_}{w:Nat},w<65536->b.foldl HN w<65536
 |[],_,h=>h
 |a::r,w,_=>afS (b:=r) ag2
def MJ {b:C_}:CH b<65536:=afS (by omega)
def azo (b:C_)(hb:bin b)(hl:b.length<=1000000):bi prog afT [.d (.lst (ai b))]=some (.tup [A_ (CH b),A_ 0]):=by
 have h0:=ayn b hb hl b 0 65535 rfl o_;have c0:((0:Nat):Int)=0:=rfl;have c1:((65535:Nat):Int)=65535:=rfl;have hbl:=bw (l:=b);have hlt:=MJ (b:=b);rw[c0,c1]at h0;have hO:bi prog ZA [A_ 65535,.d (.lst (ai b))]=some (.tup [A_ (CH b),A_ 0]):=by
  unfold CH at hlt⊢;rw[aH amA aoE rfl];generalize b.foldl HN 65535=W at *;generalize ai b=B at *;simp(maxSteps:=300000) (disch:=omega)[↓ac,↓aa,h0,hbl]
 rw[aH atb atI rfl];generalize ai b=B at *;simp(maxSteps:=300000) (disch:=omega)[↓ac,↓aa,hO]
def avM {h:am}{b:C_}(h1:1<=b.length)(h2:b.length<=900000000):dX 1 h .nl (ai b)=some (.own true 1 (ai b),h):=by
 cases b with
 |nil=>simp at h1
 |cons x r =>
  have e:ai (x::r)=[.int .u8 x]::ai r:=rfl;have e2:=bw (l:=r);rw[ar]at h2;rw[e,alh,e2,bZ (by simp only[aU];omega)];rfl
def atu {h:am}{p:Bool}{a b:C_}(h1:a.length+b.length<=900000000):dX 1 h (.own p 1 (ai a)) (ai b)=some (.own false 1 (ai a++ai b),h):=by
 rw[Ua,bw,bw,bZ (by simp only[aU];omega),bZ (by simp only[aU];omega)];rfl
def azC (xs:AD_)(hx:∀x∈xs,(1<=x.length∧x.length<=10000)∧∀n∈x,n<=255)(hxl:xs.length<=10):∀(r:AD_) (i:Nat) (acc:C_) (A:AV),xs.drop i=r->(A=.nl∧acc=[]∨A=.own false 1 (ai acc))->acc.length<=80000*i->
  ∃A',(A'=.nl∧acc++r.flatMap cg=[]∨A'=.own false 1 (ai (acc++r.flatMap cg)))∧(Dn prog).code (.loop zQ) ⟨[(3,A),(10,.d (.lst (oG xs))),(11,A_ xs.length),(12,A_ i)],⟨[],0⟩⟩=some (.exit 0,⟨[(3,A')],⟨[],0⟩⟩):=by
 intro r
 induction r with
 |nil =>
  intro i acc A h1 hA ha;have hi:=bg h1;refine⟨A,by simpa using hA,?_⟩;rw[ah Qf];rcases hA with ⟨rfl,_⟩|rfl
  .simp(maxSteps:=300000) (disch:=omega)[↓ac,↓aa]
  .generalize ai acc=C at *;simp(maxSteps:=300000) (disch:=omega)[↓ac,↓aa]
 |cons x r ih =>
  intro i acc A h1 hA ha;have hi:=bE h1;have g1:=Kh h1;have d1:xs.drop (i+1)=r:=by rw[<-qk,h1];rfl
  obtain⟨⟨hx0,hx1⟩,hx2⟩:=hx x (bG (i:=i) (by rw[h1];exact .head _));have hU:=E9 x o_ hx2 _ eV.d;have hul:=gJ (l:=x);have hal:=bw (l:=acc);have hull:=bw (l:=cg x);obtain⟨A',hA',ih1⟩:=ih (i+1) (acc++cg x) (.own false 1 (ai (acc++cg x))) d1 (.inr rfl) (by rw[al];omega);rw[ax,<-aE]at hA';refine⟨A',hA',?_⟩;rw[show((i+1:Nat):Int)=(i:Int)+1 from rfl,xn]at ih1;rw[<-ih1,ah Qf];clear ih ih1;have hxl2:=adc (t:=xs);rcases hA with ⟨rfl,rfl⟩|rfl
  .have e0:ai []=[]:=rfl;rw[e0,aK];have ha1:=λh=>avM (h:=h) (b:=cg x) o_ (by omega)
   have ho:=N6 (l:=cg x);generalize ai (cg x)=V at *;generalize oG xs=XS at *;simp(maxSteps:=300000) (disch:=omega)[↓ac,↓aa,-getElem?_pos,g1,hU,ha1,ho]
  .have ha1:=λh p=>atu (h:=h) (p:=p) (a:=acc) (b:=cg x) (by omega)
   have ho:=N6 (l:=cg x);generalize ai (cg x)=V at *;generalize ai acc=C at *;generalize oG xs=XS at *;simp(maxSteps:=300000) (disch:=omega)[↓ac,↓aa,-getElem?_pos,-Ua,g1,hU,ha1,ho]
def aim (xs:AD_)(hx:∀x∈xs,(1<=x.length∧x.length<=10000)∧∀n∈x,n<=255)(hxl:xs.length<=10)(hne:xs.flatMap cg≠[]):bi prog BN [.d (.lst (oG xs))]=some (A_ (CH (xs.flatMap cg))):=by
 obtain⟨A',hA',h0⟩:=azC xs hx hxl xs 0 [] .nl rfl (.inl ⟨rfl,rfl⟩) s_;have c0:((0:Nat):Int)=0:=rfl;rw[c0]at h0;rw[aK]at hA';have hbl:(xs.flatMap cg).length<=80000*xs.length:=by
  clear h0 hA' hxl hne
  induction xs with
  |nil=>simp
  |cons x r ih =>
   have h1:=ih λy hy=>hx y (.tail _ hy)
   have h2:=(hx x (.head _)).1.2;rw[aE,al,ar,gJ];omega
 have hxl2:=adc (t:=xs);have hb:bin (xs.flatMap cg):=λy hy=>by
  obtain⟨x,_,hy⟩:=ni.1 hy;exact aa1 y hy
 have hC:=azo (xs.flatMap cg) hb o_;rw[aH aoI ann rfl];rcases hA' with ⟨rfl,hA'⟩|rfl
 .exact absurd hA' hne
 .generalize ai (xs.flatMap cg)=V at *;generalize oG xs=XS at *;simp(maxSteps:=300000) (disch:=omega)[↓ac,↓aa,hxl2,h0,hC]
def gZ (g:AV)(w:Bool)(x y:X_):X_ :=
 match g with
 |.d (.bool b)=>match b == w with
  |true=>y
  |false=>x
 |.tup []=>x
 |_=>none
@[simp] def aIb {x y:X_}:gZ (B_ true) true x y=y:=rfl
@[simp] def aIG {x y:X_}:gZ (B_ false) true x y=x:=rfl
def aBQ {g g2:AV}{w:Bool}{x y:X_}(h:g=g2):gZ g w x y=gZ g2 w x y:=by rw[h]
attribute [congr] aBQ
@[simp] def aGc {P:Nat->Z_}{d s m:Nat}{w:Bool}{ps:U_}{e:aV}{hs:HS}:cV (Dn P) ⟨some d,some (s,w),.mks m ps,[]⟩ ⟨e,hs⟩=bA (get e s) λg=>gZ g w (some ⟨put e d (.tup []),hs⟩) (bR P (.mks m ps) e hs λv e hs=>some ⟨put e d (firm v),hs⟩):=by
 have h:=Ik (P:=P) (i:=⟨some d,none,.mks m ps,[]⟩) (e:=e) (hs:=hs) (k:=λe hs=>some ⟨e,hs⟩);have h2:Vw P ⟨some d,none,.mks m ps,[]⟩ e hs (λe hs=>some ⟨e,hs⟩)=bR P (.mks m ps) e hs λv e hs=>some ⟨put e d (firm v),hs⟩:=rfl
 rw[h2]at h;rw[h];unfold cV;simp only
 cases get e s with
 |none=>rfl
 |some g =>
  simp only[bA];have key:∀x:X_,x=bA x λst=>some ⟨st.env,st.hs⟩:=λx=>by cases x<;>rfl
  cases g with
  |d x =>
   cases x with
   |bool b =>
    unfold gZ;simp only
    cases b == w with
    |true=>exact key _
    |false=>rfl
   |_=>rfl
  |tup l=>cases l<;>rfl
  |_=>rfl
def BX (b:C_):Prop:=CH ([b.take 7,b.drop 9].flatMap cg)=b.getD 7 0*256+b.getD 8 0
instance (b:C_):Decidable (BX b):=by unfold BX;infer_instance
def rdR (b:C_):R gW:=RF (cg (b.drop (ef (bc b).crc))) (bc b).rate.toNat (bc b).chans
def wJ (b:C_):Int :=
 if oF b≠0 then oF b
 else if (b.length:Int)<(bc b).len then 5
 else if (bc b).len<b.length then 8
 else if (bc b).crc=true∧¬BX b then 250
 else match rdR b with
  |.ok _ _=>0
  |.er e=>((e+1:Nat):Int)
def Qx:gW:=⟨[],false,0,[],[]⟩
def Hj (b:C_):gW:=if wJ b=0 then (match rdR b with|.ok f _=>f|.er _=>Qx) else Qx
def Rh (b:C_):qE:=if wJ b=0 then bc b else yG
def Th (b:C_):D_:=if wJ b=0 then (Hj b).ow else zF
def aiD {b:C_}(h:oF b=0):nC (bc b)∧ef (bc b).crc<=b.length∧7<=b.length∧bc b=nf (cg (b.take 7))∧nP (bc b) 14=cg (b.take 7):=by
 have e:bc b=nf (cg (b.take 7)):=by rw[bc,ac h]
 rw[e];unfold oF at h;split at h
 .omega
 .rename_i h1;split at h
  .rename_i h2;exact⟨h2.1,o_,o_,rfl,h2.2⟩
  .omega
def ab9 {x y:Nat}(hx:x<=255)(hy:y<=255):eW .or (A_ ((x:Int)*256)) (A_ y)=some (.int .i64 ((x:Int)*256+y)):=by
 have e:=jX (i:=8) (b:=y) o_ x;have e2:x*256 |||y=x*256+y:=by rw[show x*256=2 ^ 8*x by omega];exact e.symm
 have tn:jW .i64=9223372036854775808:=rfl;have h:=aoB (k:=.i64) (a:=x*256) (b:=y) (by rw[tn];omega) (by rw[tn];omega) (by rw[e2,tn];omega);rw[e2]at h;simpa using h
def getD_some {b:C_}{i:Nat}(h:i<b.length):b[i]?=some (b.getD i 0):=by
 rw[dV,bB h];rfl
def TV {x y:C_}:oG [x,y]=[[.lst (ai x)],[.lst (ai y)]]:=rfl
def eV.res {x:AV}{l:E_}(h:eV x l):(∀hp,jF hp x=some (x,hp))∧mT x=x:=by
 rcases h with rfl|⟨rfl,rfl⟩<;>exact⟨λ_=>rfl,rfl⟩
def rd9 (b:C_)(hb:b.length<=9000)(h9:9<=b.length)(hb2:∀x∈b,x<=255)(r n l f:Int)(O1 O2:D_)(s:Int)(hsum:bi prog BN [.d (.lst [[.lst (ai (b.take 7))],[.lst (ai (b.drop 9))]])]=some (A_ s)) :
  ∃E:aV,(Dn prog).code (.seq DX (K [0,43,44,45,46,47,48,49,50,51,52,53,54,55,56,57,58,59])) ⟨[(0,.d (.lst (ai b))),(2,.ptr 0 0),(3,.ptr 1 0),(5,.ptr 2 0),(7,.d (.lst (ai (b.drop 9))))],⟨[(0,.cells O1),(1,.cells O2),(2,.cells [A_ r,A_ n,B_ true,A_ l,A_ f])],3⟩⟩ =
  some (.normal,⟨[(2,.ptr 0 0),(3,.ptr 1 0),(5,.ptr 2 0),(7,.d (.lst (ai (b.drop 9)))),(60,B_ ((!decide (s=(b.getD 7 0:Nat)*256+(b.getD 8 0:Nat)))))],⟨[(0,.cells O1),(1,.cells O2),(2,.cells [A_ r,A_ n,B_ true,A_ l,A_ f])],3⟩⟩):=by
 refine⟨[],?_⟩;have st7:∀h,l7 h 1 (.d (.lst (ai b))) none (some (A_ 7)) none=some (.d (.lst (ai (b.take 7)))):=λh=>Wr (h:=h) (a:=7) o_ (by omega)
 have m7:∀x,b.getD x 0<=255:=λx=>by
  rw[dV]
  cases h:b[x]? with
  |none=>simp
  |some v=>exact hb2 v (di h)
 have hob:=ab9 (m7 7) (m7 8);have m77:=m7 7;have m8:=m7 8;have hbl:=bw (l:=b);by_cases h8:9<=b.length
 .have g7:=nG (getD_some (b:=b) (i:=7) o_);have g8:=nG (getD_some (b:=b) (i:=8) o_);clear m7 hb2;generalize b.getD 7 0=B7 at *;generalize b.getD 8 0=B8 at *;generalize ai (b.take 7)=T7 at *;generalize ai (b.drop 9)=D9 at *;generalize ai b=B at *;by_cases he:s=(B7:Int)*256+B8
  .rw[decide_eq_true he];simp(config := { maxSteps:=3000000 }) (disch:=omega)[↓ac,↓aa,-getElem?_pos,st7,hsum,g7,g8,hob,he]
  .rw[decide_eq_false he];simp(config := { maxSteps:=3000000 }) (disch:=omega)[↓ac,↓aa,-getElem?_pos,st7,hsum,g7,g8,hob,he]
 .omega
def art (b:C_)(hb:b.length<=9000)(hb2:∀x∈b,x<=255)(X:AV)(hX:eV X (ai b)):bi prog VE [X]=some (.tup [.agg (Rh b).cells,.agg (Th b),A_ (wJ b)]):=by
 obtain⟨⟨x1,x2,x3⟩,x4,x5⟩:=hX.facts;obtain⟨vx,ux⟩:=hX.view;rw[bw]at x5;have hH:=acJ b o_ hb2 X hX;by_cases h0:oF b=0
 rotate_left
 .have e:wJ b=oF b:=by rw[wJ,ac h0]
  have eH:bc b=yG:=by rw[bc,aa h0]
  have e1:Rh b=yG:=by rw[Rh,aa (by rw[e];exact h0)]
  have e2:Th b=zF:=by rw[Th,aa (by rw[e];exact h0)]
  rw[e,e1,e2];rw[eH]at hH;generalize oF b=E at *;rw[aH nQ nJ rfl];simp(maxSteps:=300000) (disch:=omega)[↓ac,↓aa,vx,ux,x1,x2,x3,x4,x5,hH,h0,zF]
 obtain⟨ok,hS,h7,hd,hw⟩:=aiD h0;have hne:ai b≠[]:=λh=>by
  have:=aX List.length h;rw[bw,bf]at this;omega
 have hXd:=hX.ne hne;subst hXd;rw[h0]at hH;have hbl:=bw (l:=b);have h79:ef (bc b).crc=7∨ef (bc b).crc=9:=by cases (bc b).crc<;>simp[ef]
 have hSz:=KV (bc b).crc;have zA:∀e:Int,e≠0->wJ b=e->Rh b=yG∧Th b=zF:=λe he h=>⟨by rw[Rh,h,aa he],by rw[Th,h,aa he]⟩
 by_cases h1:(b.length:Int)<(bc b).len
 .have e:wJ b=5:=by rw[wJ,aa (by rw[h0];decide),ac h1]
  obtain⟨e1,e2⟩:=zA 5 k_ e;rw[e,e1,e2];generalize bc b=HH at *;obtain⟨r,n,c,l,f⟩:=HH
  dsimp only at h1
  rw[aH nQ nJ rfl];generalize ai b=B at *;simp(maxSteps:=300000) (disch:=omega)[↓ac,↓aa,hH,hbl,zF]
 by_cases h2:(bc b).len<b.length
 .have e:wJ b=8:=by rw[wJ,aa (by rw[h0];decide),aa h1,ac h2]
  obtain⟨e1,e2⟩:=zA 8 k_ e;rw[e,e1,e2];generalize bc b=HH at *;obtain⟨r,n,c,l,f⟩:=HH
  dsimp only at h1 h2
  rw[aH nQ nJ rfl];generalize ai b=B at *;simp(maxSteps:=300000) (disch:=omega)[↓ac,↓aa,hH,hbl,zF]
 have hlb:(ef (bc b).crc:Int)<b.length:=by have:=ok.2.2.2.1;omega
 have sd7:∀h,l7 h 1 (.d (.lst (ai b))) (some (A_ 7)) none none=some (.d (.lst (ai (b.drop 7)))):=λh=>Wy (h:=h) (a:=7) o_ (by omega)
 have sd9:9<=b.length->∀h,l7 h 1 (.d (.lst (ai b))) (some (A_ 9)) none none=some (.d (.lst (ai (b.drop 9)))):=λh9 h=>Wy (h:=h) (a:=9) o_ (by omega)
 have st7:∀h,l7 h 1 (.d (.lst (ai b))) none (some (A_ 7)) none=some (.d (.lst (ai (b.take 7)))):=λh=>Wr (h:=h) (a:=7) o_ (by omega)
 have hsum:(bc b).crc=true->bi prog BN [.d (.lst (oG [b.take 7,b.drop 9]))]=some (A_ (CH ([b.take 7,b.drop 9].flatMap cg))):=λhc=>aim _ (λx hx=>by
   simp only[aC,cW,fk]at hx;rcases hx with rfl|rfl
   .exact⟨⟨by rw[bI];omega,by rw[bI];omega⟩,λn hn=>hb2 n (dh hn)⟩
   .exact⟨⟨by have:=ok.2.2.2.1;rw[hc]at this;have h9:ef true=9:=rfl;rw[cu];omega,by rw[cu];omega⟩,λn hn=>hb2 n (bG hn)⟩) s_ (λh=>by
   have:=aX List.length h;simp only[aE,al,gJ,bI,bf]at this;omega)
 have hcfg:nj (bc b).rate (bc b).chans:=by
  have:=ok.1;have:=ok.2.1;exact⟨by unfold dR;omega,o_⟩
 have hlen:((b.drop (ef (bc b).crc)).length:Int)<=192*(bc b).chans:=by
  have h5:=ok.2.2.2.2;rw[cu];omega
 have hraw:=atg (bc b).rate (bc b).chans false 0 (.d (.lst (ai (b.drop (ef (bc b).crc))))) (b.drop (ef (bc b).crc)) eV.d (by rw[cu];omega) (λx hx=>hb2 x (bG hx));rcases hraw with ⟨_,_,hraw⟩|⟨hraw,_⟩
 rotate_left
 .exact absurd ⟨hcfg,hlen⟩ hraw
 have hrdR:RF (cg (b.drop (ef (bc b).crc))) (bc b).rate.toNat (bc b).chans=rdR b:=rfl;rw[hrdR]at hraw;have m7:∀x,b.getD x 0<=255:=λx=>by
  rw[dV]
  cases h:b[x]? with
  |none=>simp
  |some v=>exact hb2 v (di h)
 by_cases hc:(bc b).crc=true∧¬BX b
 .have e:wJ b=250:=by rw[wJ,aa (by rw[h0];decide),aa h1,aa h2,ac hc]
  obtain⟨e1,e2⟩:=zA 250 k_ e;rw[e,e1,e2];obtain⟨hc1,hc2⟩:=hc;have hsum:=hsum hc1;have hcl:=MJ (b:=[b.take 7,b.drop 9].flatMap cg);rw[BX]at hc2;have hob:=ab9 (m7 7) (m7 8);have hS9:ef (bc b).crc=9:=by rw[hc1];rfl
  have g7:=nG (getD_some (b:=b) (i:=7) o_);have g8:=nG (getD_some (b:=b) (i:=8) o_);have hne2:¬((CH ([b.take 7,b.drop 9].flatMap cg):Nat):Int)=(b.getD 7 0:Nat)*256+(b.getD 8 0:Nat):=o_;rw[hS9]at hSz hS hraw;rw[TV]at hsum;have sd9:=sd9 o_;obtain⟨_,hr9⟩:=rd9 b hb o_ hb2 (bc b).rate (bc b).chans (bc b).len (bc b).full [A_ 0,A_ 0,B_ false,A_ 0,A_ 0] [.nl,B_ false,A_ 0,.nl,.nl] _ hsum;rw[decide_eq_false hne2]at hr9;clear g7 g8 hob hsum hne2 hcl;generalize b.getD 7 0=B7 at *;generalize b.getD 8 0=B8 at *;generalize CH ([b.take 7,b.drop 9].flatMap cg)=CN at *;generalize bc b=HH at *;obtain⟨r,n,c,l,f⟩:=HH
  dsimp only at h1 h2 hc1 hSz
  subst hc1;rw[aH nQ nJ rfl];clear hraw;generalize ai (b.drop 9)=D9 at *;generalize ai b=B at *;simp(maxSteps:=300000) (disch:=omega)[↓ac,↓aa,sd9,hH,hbl,hSz,↓hr9,zF]
 have hns:(bc b).crc=true->BX b:=λh=>ic λh2=>hc ⟨h,h2⟩
 have eE:wJ b=match rdR b with|.ok _ _=>0|.er e=>((e+1:Nat):Int):=by rw[wJ,aa (by rw[h0];decide),aa h1,aa h2,aa hc]
 have hob:=ab9 (m7 7) (m7 8);have g7:=nG (getD_some (b:=b) (i:=7) o_)
 cases hG:rdR b with
 |ok f m =>
  rw[hG]at eE hraw;simp only at eE hraw;have e1:Rh b=bc b:=by rw[Rh,ac eE]
  have e2:Th b=f.ow:=by rw[Th,ac eE,Hj,ac eE,hG]
  rw[eE,e1,e2];have hX:eV (share (aD 9 (dJ f.chans))) (dJ f.chans):=Be;have hY:eV (share (aD 1 (dq f.bands))) (dq f.bands):=Be;have hZ:eV (share (aD 1 (ai f.fill))) (ai f.fill):=Be;simp only[gW.ow]at hraw⊢;generalize share (aD 9 (dJ f.chans))=X at *;generalize share (aD 1 (dq f.bands))=Y at *;generalize share (aD 1 (ai f.fill))=Z at *;obtain⟨⟨q1,q2,q3⟩,q4,q5⟩:=hX.facts;obtain⟨⟨y1,y2,y3⟩,y4,y5⟩:=hY.facts;obtain⟨⟨z1,z2,z3⟩,z4,z5⟩:=hZ.facts;obtain⟨t1,t2⟩:=hX.res;obtain⟨t3,t4⟩:=hY.res;obtain⟨t5,t6⟩:=hZ.res;have w1:=hX.one.1.2;have w2:=hY.one.1.2;have w3:=hZ.one.1.2
  cases hcc:(bc b).crc with
  |false =>
   rw[hcc]at hSz hraw;have hS7:ef false=7:=rfl;rw[hS7]at hSz hraw;generalize bc b=HH at *;obtain⟨r,n,c,l,fu⟩:=HH
   dsimp only at h1 h2 hcc hSz hraw
   subst hcc;rw[aH nQ nJ rfl];clear hsum hns hc g7;generalize ai b=B at *;simp(maxSteps:=300000) (disch:=omega)[↓ac,↓aa,-bq,sd7,hH,hbl,hSz,hraw,t1,t2,t3,t4,t5,t6,w1,w2,w3,q1,q2,q3,q4,y1,y2,y3,y4,z1,z2,z3,z4]
  |true =>
   have hsum:=hsum hcc;have hns:=hns hcc;rw[BX]at hns;rw[hcc]at hSz hraw hS;have hS9:ef true=9:=rfl;rw[hS9]at hSz hraw hS;have g8:=nG (getD_some (b:=b) (i:=8) o_);have heq:((CH ([b.take 7,b.drop 9].flatMap cg):Nat):Int)=(b.getD 7 0:Nat)*256+(b.getD 8 0:Nat):=o_;have hcl:=MJ (b:=[b.take 7,b.drop 9].flatMap cg);rw[TV]at hsum;have sd9:=sd9 o_;obtain⟨_,hr9⟩:=rd9 b hb o_ hb2 (bc b).rate (bc b).chans (bc b).len (bc b).full [A_ 0,A_ 0,B_ false,A_ 0,A_ 0] [.nl,B_ false,A_ 0,.nl,.nl] _ hsum;rw[decide_eq_true heq]at hr9;clear g7 g8 hob hsum heq hcl hns;generalize bc b=HH at *;obtain⟨r,n,c,l,fu⟩:=HH
   dsimp only at h1 h2 hcc hSz hraw
   subst hcc;rw[aH nQ nJ rfl];clear hc m7;generalize ai (b.drop 9)=D9 at *;generalize ai b=B at *;simp(maxSteps:=300000) (disch:=omega)[↓ac,↓aa,-bq,sd9,↓hr9,hH,hbl,hSz,hraw,t1,t2,t3,t4,t5,t6,w1,w2,w3,q1,q2,q3,q4,y1,y2,y3,y4,z1,z2,z3,z4]
 |er e =>
  rw[hG]at eE hraw;simp only at eE hraw;obtain⟨e1,e2⟩:=zA ((e+1:Nat):Int) o_ eE;rw[eE,e1,e2];have hE0:¬((e+1:Nat):Int)=0:=o_;generalize ((e+1:Nat):Int)=E at *
  cases hcc:(bc b).crc with
  |false =>
   rw[hcc]at hSz hraw;have hS7:ef false=7:=rfl;rw[hS7]at hSz hraw;generalize bc b=HH at *;obtain⟨r,n,c,l,fu⟩:=HH
   dsimp only at h1 h2 hcc hSz hraw
   subst hcc;rw[aH nQ nJ rfl];clear hsum hns hc g7;generalize ai b=B at *;simp(maxSteps:=300000) (disch:=omega)[↓ac,↓aa,sd7,hH,hbl,hSz,hraw,hE0,zF]
  |true =>
   have hsum:=hsum hcc;have hns:=hns hcc;rw[BX]at hns;rw[hcc]at hSz hraw hS;have hS9:ef true=9:=rfl;rw[hS9]at hSz hraw hS;have g8:=nG (getD_some (b:=b) (i:=8) o_);have heq:((CH ([b.take 7,b.drop 9].flatMap cg):Nat):Int)=(b.getD 7 0:Nat)*256+(b.getD 8 0:Nat):=o_;have hcl:=MJ (b:=[b.take 7,b.drop 9].flatMap cg);rw[TV]at hsum;have sd9:=sd9 o_;obtain⟨_,hr9⟩:=rd9 b hb o_ hb2 (bc b).rate (bc b).chans (bc b).len (bc b).full [A_ 0,A_ 0,B_ false,A_ 0,A_ 0] [.nl,B_ false,A_ 0,.nl,.nl] _ hsum;rw[decide_eq_true heq]at hr9;clear g7 g8 hob hsum heq hcl hns;generalize bc b=HH at *;obtain⟨r,n,c,l,fu⟩:=HH
   dsimp only at h1 h2 hcc hSz hraw
   subst hcc;rw[aH nQ nJ rfl];clear hc m7;generalize ai (b.drop 9)=D9 at *;generalize ai b=B at *;simp(maxSteps:=300000) (disch:=omega)[↓ac,↓aa,sd9,↓hr9,hH,hbl,hSz,hraw,hE0,zF]
def stP (rt n:Int)(cb:Bool)(b:C_):Prop:=oF b=0∧(bc b).rate=rt∧(bc b).chans=n∧(bc b).crc=cb∧(bc b).len<=b.length
instance {rt n:Int}{cb:Bool}{b:C_}:Decidable (stP rt n cb b):=by unfold stP;infer_instance
structure Slt where
 pos:Nat
 len:Nat
 lost:Bool
 fr:gW
abbrev Slt.cells (s:Slt):Y_:=[.int .i64 s.pos,.int .i64 s.len,.bool s.lost,.lst (dJ s.fr.chans),.bool s.fr.common,.int .i64 s.fr.mask,.lst (dq s.fr.bands),.lst (ai s.fr.fill)]
def aq2 (b:C_):∃X Y Z:AV,eV X (dJ (Hj b).chans)∧eV Y (dq (Hj b).bands)∧eV Z (ai (Hj b).fill)∧Th b=[X,B_ ((Hj b).common),A_ ((Hj b).mask),Y,Z]:=by
 unfold Th;by_cases h:wJ b=0
 .rw[ac h];exact⟨_,_,_,Be,Be,Be,rfl⟩
 .rw[aa h,Hj,aa h];exact⟨.nl,.nl,.nl,.inr ⟨rfl,rfl⟩,.inr ⟨rfl,rfl⟩,.inr ⟨rfl,rfl⟩,rfl⟩
section
variable (rt n:Int)(cb:Bool)(cz:Int)(b:C_)(hb:b.length<=9000)(hb2:∀x∈b,x<=255)
include hb hb2
end
theorem eV.toD {x:AV}{l:E_}(h:eV x l):toD x=some (.lst l):=by
 rcases h with rfl|⟨rfl,rfl⟩<;>rfl
section
variable (rt n:Int)(cb:Bool)(cz:Int)(b:C_)(hb:b.length<=8999)(hb2:∀x∈b,x<=255)
include hb hb2
end
instance {rt n:Int}:Decidable (nj rt n):=by unfold nj;infer_instance
def ayJ (h:qE):nP h 14=aq 4095 12++(aq 0 1++(aq 0 2++(aq (cN h.crc).toNat 1++(aq 1 2++(aq h.rate.toNat 4++(aq 0 1++(aq h.chans.toNat 3++(aq 0 1++(aq 0 1++(aq 0 2++(aq h.len.toNat 13++(aq h.full.toNat 11++aq 0 2)))))))))))):=by
 simp[nP,fB,oz,List.range,List.range.loop]
def yD:C_:=[255,241,64,64,1,96,20,0,0,0,7]
def aFq:oF yD=0∧ef (bc yD).crc=7∧(bc yD).rate=0∧(bc yD).chans=1∧(bc yD).len=11∧(bc yD).crc=false:=e_
def aEH:∀x∈yD,x<=255:=k_
def az4 {h:qE}:(nP h 14).length=56:=by rw[ayJ];simp
def amX (cb:Bool)(h l:C_):C_:=if cb then [CH ([h,l].flatMap cg) / 256,CH ([h,l].flatMap cg) % 256] else []
def aav (rt n:Int)(cb:Bool)(cz full:Int)(f:gW)(hf:f.Fit)(X Y Z:AV)(hX:eV X (dJ f.chans))(hY:eV Y (dq f.bands))(hZ:eV Z (ai f.fill))(l h7:C_)(hl:tf rt.toNat n f=cg l)(hl2:∀x∈l,x<=255)(h71:nP ⟨rt,n,cb,((ef cb+l.length:Nat):Int),full⟩ 14=cg h7)(h72:∀x∈h7,x<=255) :
  ((nj rt n∧qx rt.toNat n f∧(l.length:Int)<=192*n)∧nC ⟨rt,n,cb,((ef cb+l.length:Nat):Int),full⟩∧bi prog rE [mS rt n cb cz,A_ full,p9 f X Y Z]=some (.tup [.own true 1 (ai (h7++(amX cb h7 l++l))),A_ 0]))∨
  ((nj rt n∧qx rt.toNat n f∧(l.length:Int)<=192*n)∧¬nC ⟨rt,n,cb,((ef cb+l.length:Nat):Int),full⟩∧bi prog rE [mS rt n cb cz,A_ full,p9 f X Y Z]=some (.tup [.nl,A_ 2]))∨
  (¬(nj rt n∧qx rt.toNat n f∧(l.length:Int)<=192*n)∧∃e:Int,e≠0∧bi prog yZ [mS rt n cb cz,p9 f X Y Z]=some (A_ e)∧bi prog rE [mS rt n cb cz,A_ full,p9 f X Y Z]=some (.tup [.nl,A_ e])):=by
 have hW:=aq3 rt n cb cz f hf X Y Z hX hY hZ;have hu:((tf rt.toNat n f).length:Int)=8*(l.length:Int):=by rw[hl,gJ];omega
 obtain⟨⟨x1,x2,x3⟩,x4,x5⟩:=hX.facts;obtain⟨⟨y1,y2,y3⟩,y4,y5⟩:=hY.facts;obtain⟨⟨z1,z2,z3⟩,z4,z5⟩:=hZ.facts;obtain⟨⟨vx,ux⟩,wx⟩:=hX.one;obtain⟨⟨vy,uy⟩,wy⟩:=hY.one;obtain⟨⟨vz,uz⟩,wz⟩:=hZ.one;rw[hu]at hW;rcases hW with ⟨k1,k2,k3,hW⟩|⟨hno,e,he,hC,hW⟩
 rotate_left
 .refine .inr (.inr ⟨λh=>hno ⟨h.1,h.2.1,o_⟩,e,he,hC,?_⟩);simp only[mS,p9]at hW⊢;rw[aH C9 Cu rfl];simp(maxSteps:=300000) (disch:=omega)[↓ac,↓aa,-bq,x1,x2,x3,x4,y1,y2,y3,y4,z1,z2,z3,z4,ux,uy,uz,vx,vy,vz,wx,wy,wz,hW]
 have hW:=hW l hl hl2;have hn2:=k1.2;have hll:l.length<=400:=o_;have hbl:=bw (l:=l);have hsz:=KV cb;have hR:=YC ⟨rt,n,cb,((ef cb+l.length:Nat):Int),full⟩;have c1:((ef cb+l.length:Nat):Int)=(ef cb:Int)+l.length:=rfl;have h79:ef cb=7∨ef cb=9:=by cases cb<;>simp[ef]
 by_cases ok:nC ⟨rt,n,cb,((ef cb+l.length:Nat):Int),full⟩
 rotate_left
 .refine .inr (.inl ⟨⟨k1,k2,o_⟩,ok,?_⟩);rw[decide_eq_false ok]at hR;simp only[mS,p9,c1]at hW hR⊢;clear h71 ok;generalize ef cb=S at *;rw[aH C9 Cu rfl];generalize ai l=BL at *;simp(maxSteps:=300000) (disch:=omega)[↓ac,↓aa,-bq,x1,x2,x3,x4,y1,y2,y3,y4,z1,z2,z3,z4,ux,uy,uz,vx,vy,vz,wx,wy,wz,hW,hsz,hR,hbl]
 refine .inl ⟨⟨k1,k2,o_⟩,ok,?_⟩;have hw:=SC _ ok;rw[decide_eq_true ok]at hR;have h7l:h7.length=7:=by
  have:=aX List.length h71;rw[az4,gJ]at this;omega
 rw[h71]at hw;have hP:=ads h7 o_ h72;have h7b:=bw (l:=h7);have ob:=N6 (l:=l);have l1:1<=l.length:=by
  have:=ok.2.2.2.1;simp only[]at this;omega
 have hsum:=aim [h7,l] (λx hx=>by
  simp only[aC,cW,fk]at hx;rcases hx with rfl|rfl
  .exact⟨⟨o_,o_⟩,h72⟩
  .exact⟨⟨o_,o_⟩,hl2⟩) s_ (λh=>by
  have:=aX List.length h;simp only[aE,al,gJ,bf]at this;omega)
 have hcl:=MJ (b:=[h7,l].flatMap cg);rw[TV]at hsum;unfold amX;generalize CH ([h7,l].flatMap cg)=C at *;have e8:(C:Int).fdiv 256=((C / 256:Nat):Int):=by rw[fq _ o_];rfl
 have hC8:C / 256<=255:=o_;have hw8:wr .u8 (C:Int)=((C % 256:Nat):Int):=by rw[abS];rfl
 simp only[mS,p9,c1]at hW hR hw⊢;clear h71 ok
 cases cb with
 |false =>
  have hs7:((ef false:Nat):Int)=7:=rfl;rw[hs7]at hR hw hsz;have e0:ai (h7++((if false=true then [C / 256,C % 256] else [])++l))=ai h7++ai l:=xn;rw[e0];rw[aH C9 Cu rfl];generalize ai (cg h7)=U7 at *;simp(maxSteps:=300000) (disch:=omega)[↓ac,↓aa,-bq,x1,x2,x3,x4,y1,y2,y3,y4,z1,z2,z3,z4,ux,uy,uz,vx,vy,vz,wx,wy,wz,hW,hsz,hR,hbl,hw,hP,h7b,ob]
 |true =>
  have hs9:((ef true:Nat):Int)=9:=rfl;rw[hs9]at hR hw hsz;have e0:ai (h7++((if true=true then [C / 256,C % 256] else [])++l))=ai h7++([[.int .u8 ((C / 256:Nat):Int)],[.int .u8 ((C % 256:Nat):Int)]]++ai l):=by rw[xn,ac rfl,xn];rfl
  rw[e0];generalize C % 256=C2 at *;generalize C / 256=C1 at *;rw[aH C9 Cu rfl];generalize ai (cg h7)=U7 at *;simp(config := { maxSteps:=3000000 }) (disch:=omega)[↓ac,↓aa,-bq,x1,x2,x3,x4,y1,y2,y3,y4,z1,z2,z3,z4,ux,uy,uz,vx,vy,vz,wx,wy,wz,hW,hsz,hR,hbl,hw,hP,h7b,ob,hsum,e8,hw8]
@[simp] def aB5 {n:Bool}{k:V_}{x y:Rd}:dx (.bina n k x y)=false:=rfl
@[simp] def aAQ {n:Bool}{k:V_}{x y:Rd}:zu (.bina n k x y)=false:=rfl
@[simp] def aE9 {P:Nat->Z_}{d s:Nat}{w n:Bool}{k:V_}{x y:Rd}{e:aV}{hs:HS}:cV (Dn P) ⟨some d,some (s,w),.bina n k x y,[]⟩ ⟨e,hs⟩=bA (get e s) λg=>gZ g w (some ⟨put e d (.tup []),hs⟩) (bR P (.bina n k x y) e hs λv e hs=>some ⟨put e d (firm v),hs⟩):=by
 have h:=Ik (P:=P) (i:=⟨some d,none,.bina n k x y,[]⟩) (e:=e) (hs:=hs) (k:=λe hs=>some ⟨e,hs⟩);have h2:Vw P ⟨some d,none,.bina n k x y,[]⟩ e hs (λe hs=>some ⟨e,hs⟩)=bR P (.bina n k x y) e hs λv e hs=>some ⟨put e d (firm v),hs⟩:=rfl
 rw[h2]at h;rw[h];unfold cV;simp only
 cases get e s with
 |none=>rfl
 |some g =>
  simp only[bA];have key:∀x:X_,x=bA x λst=>some ⟨st.env,st.hs⟩:=λx=>by cases x<;>rfl
  cases g with
  |d x =>
   cases x with
   |bool b =>
    unfold gZ;simp only
    cases b == w with
    |true=>exact key _
    |false=>rfl
   |_=>rfl
  |tup l=>cases l<;>rfl
  |_=>rfl
def apO:∃p,bi prog QV []=some (.tup [mS 0 1 false 0,.agg [.own p 9 (dJ [c0]),B_ false,A_ 0,.nl,.nl],B_ true]):=⟨false,A7 600 (by kernel_rfl)⟩
def awG:bi prog rE [mS 0 1 false 0,A_ 5,.agg [.d (.lst (dJ [c0])),B_ false,A_ 0,.nl,.nl]]=some (.tup [.own true 1 (ai yD),A_ 0]):=by
 have hF:tf (0:Int).toNat 1 F0=cg [0,0,0,7]:=by rw[show(0:Int).toNat=0 from rfl,avI];decide
 have h:=aav 0 1 false 0 5 F0 ayD (.d (.lst (dJ [c0]))) .nl .nl eV.d (.inr ⟨rfl,rfl⟩) (.inr ⟨rfl,rfl⟩) [0,0,0,7] [255,241,64,64,1,96,20] hF k_ e_ k_;have hk:nj 0 1∧qx (0:Int).toNat 1 F0∧(([0,0,0,7]:C_).length:Int)<=192*1:=⟨au5.1,au5.2,k_⟩
 rcases h with ⟨_,_,h⟩|⟨_,h,_⟩|⟨h,_⟩
 .exact h
 .exact absurd k_ h
 .exact absurd hk h
def ako:bi prog AJ []=some (B_ true):=by
 obtain⟨p,h1⟩:=apO;have h2:=awG;have h3:=acJ yD k_ aEH (.d (.lst (ai yD))) eV.d;obtain⟨g1,g2,g3,g4,g5,g6⟩:=aFq;have g7:(bc yD).full=5:=e_;rw[g1]at h3;have hts:=λh=>OO (h:=h) (b:=yD)
 have hst:yD.map Nat.toUInt8=[255,241,64,64,1,96,20,0,0,0,7]:=rfl;rw[hst]at hts;have hcs:(bc yD).cells=[A_ 0,A_ 1,B_ false,A_ 11,A_ 5]:=by simp only[qE.cells,g3,g4,g5,g6,g7]
 rw[hcs]at h3;have hbn:J1 false [true,true,false,true,true] (.agg [A_ 0,A_ 1,B_ false,A_ 11,A_ 5]) (.agg [A_ 0,A_ 1,B_ false,A_ 11,A_ 5])=some (.bool true):=rfl;simp only[mS]at h1 h2;generalize dJ [c0]=C at *;have hfl:=N6 (l:=yD);generalize ai yD=E at *;rw[aH M7 MT rfl];simp(config := { maxSteps:=3000000 }) (disch:=omega)[↓ac,↓aa,h1,h2,h3,hts,hbn]
def avX {r n l f:Int}{c:Bool}:J1 false [true,true,false,true,true] (.agg [A_ r,A_ n,B_ c,A_ l,A_ f]) (.agg [A_ r,A_ n,B_ c,A_ l,A_ f])=some (.bool true):=by
 have hk:l8 IntKind.i64 IntKind.i64=true:=rfl
 cases c<;>simp[J1,bv,hk]
def az0 {b:C_}(hb:b.length<=9000)(hb2:∀x∈b,x<=255)(h:wJ b=0):∃l h7:C_,b=h7++(amX (bc b).crc h7 l++l)∧nC (bc b)∧(bc b).len=((ef (bc b).crc+l.length:Nat):Int)∧nP (bc b) 14=cg h7∧(∀x∈h7,x<=255)∧(∀x∈l,x<=255)∧((Hj b).Fit∧qx (bc b).rate.toNat (bc b).chans (Hj b))∧tf (bc b).rate.toNat (bc b).chans (Hj b)=cg l∧b.length=ef (bc b).crc+l.length:=by
 have h0:oF b=0:=by
  by_cases h0:oF b=0
  .exact h0
  .rw[wJ,ac h0]at h;exact h
 obtain⟨ok,hS,h7,hd,hw⟩:=aiD h0;rw[wJ,aa (by rw[h0];decide)]at h;by_cases h1:(b.length:Int)<(bc b).len
 .rw[ac h1]at h;omega
 by_cases h2:(bc b).len<b.length
 .rw[aa h1,ac h2]at h;omega
 rw[aa h1,aa h2]at h;by_cases hc:(bc b).crc=true∧¬BX b
 .rw[ac hc]at h;omega
 rw[aa hc]at h;have hE:wJ b=0:=by rw[wJ,aa (by rw[h0];decide),aa h1,aa h2,aa hc];exact h
 cases hG:rdR b with
 |er e=>rw[hG]at h;simp only[]at h;omega
 |ok f m =>
  have hF:Hj b=f:=by rw[Hj,ac hE,hG]
  have hlu:=gJ (l:=b.drop (ef (bc b).crc));rw[cu]at hlu;have hr:=ok.1;obtain⟨⟨f1,f2⟩,f3,_⟩:=aue o_ o_ aa1 o_ ok.2.1 hG;have h79:ef (bc b).crc=7∨ef (bc b).crc=9:=by cases (bc b).crc<;>simp[ef]
  refine⟨b.drop (ef (bc b).crc),b.take 7,?_,ok,by rw[cu];omega,hw,λx hx=>hb2 x (dh hx),λx hx=>hb2 x (bG hx),by rw[hF];exact⟨f1,f2⟩,by rw[hF];exact f3.symm,by rw[cu];omega⟩
  cases hcc:(bc b).crc with
  |false =>
   show b=b.take 7++([]++b.drop 7);rw[aK,aT]
  |true =>
   have hs:BX b:=ic λhs=>hc ⟨hcc,hs⟩
   rw[hcc]at hS;have h9:9<=b.length:=hS;have m7:∀x,b.getD x 0<=255:=λx=>by
    rw[dV]
    cases h:b[x]? with
    |none=>simp
    |some v=>exact hb2 v (di h)
   have q7:=m7 7;have q8:=m7 8;have g7:=getD_some (b:=b) (i:=7) o_;have g8:=getD_some (b:=b) (i:=8) o_;have e9:ef true=9:=rfl;rw[e9,amX,ac rfl];unfold BX at hs;rw[hs,show(b.getD 7 0*256+b.getD 8 0) / 256=b.getD 7 0 by omega,show(b.getD 7 0*256+b.getD 8 0) % 256=b.getD 8 0 by omega];apply dK;intro i;rcases bH i 7 with hi|hi
   .rw[co (by rw[bI];omega),jh,ac hi]
   .rw[ca (by rw[bI];omega),bI,show min 7 b.length=7 by omega];obtain rfl|rfl|hi:i=7∨i=8∨9<=i:=o_
    .exact g7
    .exact g8
    .rw[ca g_,b6];simp only[ar,bf];rw[show 9+(i-7-(0+1+1))=i by omega]
def aqC (b:C_)(hb2:∀x∈b,x<=255):bi prog xb [.d (.lst (ai b))]=some (B_ true):=by
 have ha:=ako;have hbl:=bw (l:=b);by_cases hb:b.length<=2000
 rotate_left
 .rw[aH oh ox rfl];generalize ai b=B at *;simp(maxSteps:=300000) (disch:=omega)[↓ac,↓aa,ha,hbl]
 have hRd:=art b o_ hb2 (.d (.lst (ai b))) eV.d;have hbn:=fun(r n l f:Int) (c:Bool)=>avX (r:=r) (n:=n) (l:=l) (f:=f) (c:=c)
 by_cases hE:wJ b=0
 rotate_left
 .have e1:Rh b=yG:=by rw[Rh,aa hE]
  have e2:Th b=zF:=by rw[Th,aa hE]
  have hz:Qx.Fit:=⟨⟨by simp[Qx],by simp[Qx]⟩,by simp only[Qx];omega,⟨by simp[Qx],by simp[Qx]⟩,by simp[Qx],by simp[Qx]⟩
  have hS:=aor Qx hz .nl .nl .nl .nl .nl .nl (.inr ⟨rfl,rfl⟩) (.inr ⟨rfl,rfl⟩) (.inr ⟨rfl,rfl⟩) (.inr ⟨rfl,rfl⟩) (.inr ⟨rfl,rfl⟩) (.inr ⟨rfl,rfl⟩);rw[e1,e2]at hRd;simp only[p9,Qx,zF,qE.cells]at hS hRd;generalize wJ b=E at *;rw[aH oh ox rfl];generalize ai b=B at *;simp(config := { maxSteps:=3000000 }) (disch:=omega)[↓ac,↓aa,ha,hbl,hRd,hS,hbn]
 obtain⟨l,h7,w1,w2,w3,w4,w5,w6,⟨w7,w8⟩,w9,w10⟩:=az0 o_ hb2 hE;have e1:Rh b=bc b:=by rw[Rh,ac hE]
 obtain⟨X,Y,Z,hX,hY,hZ,hA⟩:=aq2 b;rw[hE,e1,hA]at hRd;have hW:=λcz=>aav (bc b).rate (bc b).chans (bc b).crc cz (bc b).full (Hj b) w7 X Y Z hX hY hZ l h7 w9 w6 (by rw[<-w3];exact w4) w5
 have hcf:nj (bc b).rate (bc b).chans∧qx (bc b).rate.toNat (bc b).chans (Hj b)∧(l.length:Int)<=192*(bc b).chans:=by
  have h1:=w2.1;have h2:=w2.2.1;have h3:=w2.2.2.2.2;exact⟨⟨by unfold dR;omega,h2⟩,w8,o_⟩
 have hWA:∀cz,bi prog rE [mS (bc b).rate (bc b).chans (bc b).crc cz,A_ ((bc b).full),p9 (Hj b) X Y Z]=some (.tup [.own true 1 (ai b),A_ 0]):=λcz=>by
  rcases hW cz with ⟨_,_,h⟩|⟨_,h,_⟩|⟨h,_⟩
  .rw[<-w1]at h;exact h
  .rw[<-w3]at h;exact absurd w2 h
  .exact absurd hcf h
 have hWA:=hWA 0;obtain⟨⟨x1,x2,x3⟩,x4,x5⟩:=hX.facts;obtain⟨⟨y1,y2,y3⟩,y4,y5⟩:=hY.facts;obtain⟨⟨z1,z2,z3⟩,z4,z5⟩:=hZ.facts;obtain⟨⟨vx,ux⟩,wx⟩:=hX.one;obtain⟨⟨vy,uy⟩,wy⟩:=hY.one;obtain⟨⟨vz,uz⟩,wz⟩:=hZ.one;have hlen:(bc b).len=b.length:=by rw[w3,w10]
 have hts:=λh=>OO (h:=h) (b:=b)
 clear w1 w2 w3 w4 w9 hW hcf e1 hA;generalize bc b=HH at *;obtain⟨r,n,c,ln,fu⟩:=HH
 dsimp only at hlen
 subst hlen;simp only[mS,p9,qE.cells]at hWA hRd;generalize hst:b.map Nat.toUInt8=ST at *;rw[aH oh ox rfl];generalize ai b=B at *
 cases c<;>simp(config := { maxSteps:=3000000 }) (disch:=omega)[↓ac,↓aa,-bq,x1,x2,x3,x4,y1,y2,y3,y4,z1,z2,z3,z4,ux,uy,uz,vx,vy,vz,wx,wy,wz,ha,hbl,hRd,hWA,hts]
@[simp] def aH4 {x y:X_}:gZ (B_ true) false x y=x:=rfl
@[simp] def aIh {x y:X_}:gZ (B_ false) false x y=y:=rfl
@[simp] def aIU {w:Bool}{x y:X_}:gZ (.tup []) w x y=x:=rfl
def ZT {H:Type}:∀{ds:List (DataW H)},CP [(false,[.lst [.int .u8]])] ds->(∃d1,ds=[d1])∧∃(l:C_),(∀x∈l,x<=255)∧IG [(false,[Ty.lst [.int .u8]])] ds=[.d (.lst (ai l))]
 |[d1],h=>by
  simp only[CP,and_true]at h;obtain⟨x1,e1,h1⟩:=azM h;obtain⟨k,rfl,hk⟩:=awb h1;refine⟨⟨_,rfl⟩,k,hk,?_⟩;simp only[IG,e1,afs]
 |[],h=>by simp[CP]at h
 |_::_::_,h=>by simp[CP]at h
end Go.Vm
end
