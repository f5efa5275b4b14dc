import Derived.Test.YtadbiiedjllkhaaGreatP4
set_option linter.unusedVariables false
set_option linter.unusedSimpArgs false
set_option linter.defProp false
set_option linter.unusedSectionVars false
noncomputable section
namespace Go.Vm
set_option maxRecDepth 100000
set_option maxHeartbeats 4000000
def GI {α:Type}{f:α->C_}{k:Nat}:∀{l:List α},(∀x∈l,(f x).length<=k)->(l.flatMap f).length<=k*l.length
 |[],_=>by simp
 |x::r,h=>by
  have a:=h x (.head _);have b:=GI (l:=r) λy hy=>h y (.tail _ hy)
  rw[aG,al,ar,Nat.mul_add];omega
def ajF {d hi:Nat}:∀{f x:Nat},(qY d hi f x).length<=f
 |0,_=>by simp[qY]
 |f+1,x=>by
  rw[qY];split
  .have:=ajF (d:=d) (hi:=hi) (f:=f) (x:=x+d);simp only[ar];omega
  .simp
def ajV {os:C_}{d b:Nat}:∀{k w:Nat},(pY os d b k w).length<=300*k
 |0,_=>by simp[pY]
 |k+1,w=>by
  have a:=ajF (d:=d) (hi:=nth os (b+1)) (f:=300) (x:=nth os b);have b:=ajV (os:=os) (d:=d) (b:=b) (k:=k) (w:=w+1);rw[pY,al,gw];omega
def aiX {os:C_}{d n first:Nat}(hn:n<=8):∀{k b:Nat},(xE os d n first k b).length<=2400*k
 |0,_=>by simp[xE]
 |k+1,b=>by
  have a:=ajV (os:=os) (d:=d) (b:=b) (k:=n) (w:=first);have c:=aiX (os:=os) (d:=d) (first:=first) hn (k:=k) (b:=b+1);rw[xE,al];omega
def ajy {os:C_}{n first:Nat}(hn:n<=8):∀{r:Q_}{b:Nat}{lf:Int},fitsS lf r->0<=lf->(zS os n first r b).length<=2400*lf.toNat
 |[],b,lf,h,h0=>by simp[zS]
 |s::r,b,lf,h,h0=>by
  obtain⟨⟨⟨l1,l2⟩,_⟩,h2⟩:=h;have a:=aiX (os:=os) (d:=bB s.book.toNat) (first:=first) hn (k:=s.len.toNat) (b:=b);have c:=ajy (os:=os) (first:=first) hn (b:=b+s.len.toNat) h2 o_;rw[zS,al];split
  .simp only[bD];omega
  .rw[gw];omega
def ajC {os:C_}{m:Int}(hm:0<=m∧m<=40):∀{r:H_}{q:G_}{first:Nat},fk m r->(∀n∈q,n<=8)->(pB os r q first).length<=100000*q.length
 |[],q,first,_,_=>by simp[pB]
 |l::r,[],first,_,_=>by simp[pB]
 |l::r,n::q,first,hf,hn=>by
  have h1:=hn n (.head _);have a:=ajy (os:=os) (n:=n.toNat) (first:=first) o_ (b:=0) (hf l (.head _)) hm.1;have c:=ajC (os:=os) hm (r:=r) (q:=q) (first:=first+n.toNat) (λx hx=>hf x (.tail _ hx)) (λx hx=>hn x (.tail _ hx));rw[pB,al,ar];omega
def WZ {r:Nat}{c:cS}(hc:c.Fit)(h:lL r c)(hr:r<=11):(mz r c).length<=160000000:=by
 have hm11:=fG hr h.info;obtain⟨g1,g2⟩:=dp hm11;have hmm:c.info.many<=8:=by unfold aM.many;split<;>omega
 have hgl:c.info.groups.length<=8:=by have:=kO (λn hn=>(g1 n hn).1);omega
 have a:=ajC (os:=offs r c.info.short) (ig hm11) (first:=0) h.sects.2 λn hn=>(g1 n hn).2
 have b:=GI (f:=uT c) (k:=200) (l:=pB (offs r c.info.short) c.sects c.info.groups 0) λp hp=>by
  obtain⟨h1,h2,h3⟩:=PM hc h hr hp;exact(abb h1 h3).2
 unfold mz;omega
def Pq:∀{g:H_}{t:L_}{w z:Int}{m:Int},0<=m∧m<=40->fk m g->lX g t w z≠none->(pw g t w z).length<=800*g.length
 |[],[],_,_,_,_,_,_=>by simp[pw]
 |[],_::_,_,_,_,_,_,h=>absurd rfl h
 |_::_,[],_,_,_,_,_,h=>absurd rfl h
 |l::r,t::s,w,z,m,hm,hf,h=>by
  rw[lX]at h
  cases hr:dF (aK l) t w z with
  |none=>rw[hr]at h;exact absurd rfl h
  |some fin =>
   rw[hr]at h;have a:=U1 (bks:=aK l) (t:=t) (w:=w) (z:=z) (by rw[hr];simp);have b:=rV (hf l (.head _)) hm.1;have c:=Pq (g:=r) (t:=s) (w:=fin.1) (z:=fin.2) hm (λx hx=>hf x (.tail _ hx)) h;rw[pw,hr,al,ar];simp only;omega
def I7 {i:aM}:(jQ i).length<=20:=by
 unfold jQ;split<;>simp[aag]
def aaI {i:aM}{g:H_}(hm:i.may 11)(hg:jn i g):(Q8 i g).length<=600000*g.length:=by
 have hsz:1<=i.fsz∧i.fsz<=5:=by unfold aM.fsz;split<;>omega
 have hmx:=ig hm;refine GI λl hl=>?_
 have hf:=hg.2 l hl;have a:=Pt hsz (s9 hf o_);have b:l.length<=100:=by
  rcases HP hf with h|h
  .omega
  .subst h;simp
 omega
def Dc (r:Nat)(c:cS)(common:Bool):C_ :=
 au c.gain.toNat 8++((if common then [] else jQ c.info)++(Q8 c.info c.sects++(pw c.sects c.steps c.gain (-1)++((if nE c.tns then 0::1::(jg c.info.short c.tns++[0]) else [0,0,0])++mz r c))))
def at6 (b:C_)(hb:b.length<=300000000)(x:AV)(hx:x=.d (.lst (ak b))∨x=.nl∧b=[])(rt:Int)(c:cS)(hc:c.Fit)(common:Bool) :
  (dP rt∧lL rt.toNat c∧bq prog DO [x,A_ rt,.agg c.av,B_ common]=some (.tup [.own true 1 (ak (b++Dc rt.toNat c common)),A_ 0]))∨
  (∃e:Int,e≠0∧bq prog iS [A_ rt,.agg c.av]=some (A_ e)∧(dP rt->¬lL rt.toNat c)∧bq prog DO [x,A_ rt,.agg c.av,B_ common]=some (.tup [.nl,A_ e])):=by
 have bad:∀e:Int,e≠0->bq prog iS [A_ rt,.agg c.av]=some (A_ e)->bq prog DO [x,A_ rt,.agg c.av,B_ common]=some (.tup [.nl,A_ e]):=by
  intro e he hC;simp only[cS.av]at hC⊢;rw[aU aa7 aaR rfl];rcases hx with rfl|⟨rfl,rfl⟩
  all_goals simp(maxSteps:=300000) (disch:=omega)[↓ac,↓aa,hC,he]
 rcases Mo rt c hc with ⟨hr,h,hC⟩|⟨hr,h,hC⟩|⟨hr,hC⟩
 .refine .inl ⟨hr,h,?_⟩;obtain⟨R,rfl⟩:=aA hr.1;simp only[aq]at h⊢;have hR:R<=11:=o_;have hm11:=fG hR h.info;have hmx:=ig hm11;obtain⟨g1,g2⟩:=dp hm11;have hmm:c.info.many<=8:=by unfold aM.many;split<;>omega
  have hgl:c.info.groups.length<=8:=by have:=kO (λn hn=>(g1 n hn).1);omega
  have hgs:c.sects.length<=8:=by have:=h.sects.1;omega
  have k1:=I7 (i:=c.info);have k2:=aaI hm11 h.sects;have k3:=Pq hmx h.sects.2 h.steps;have k4:(jg c.info.short c.tns).length<=1000*c.tns.length:=GI λl hl=>Yq (h.tns.2 l hl)
  have k5:=WZ hc h hR;have htl:=h.tns.1;have hx8:(8:Int).toNat=8:=rfl;have p1:=mp b c.gain 8 o_ (by have:=h.gain;omega) x hx;rw[ac (by have:=h.gain;simp only[qt,hx8];omega),hx8]at p1;obtain⟨B1,hB1⟩:∃B1,B1=b++au c.gain.toNat 8:=⟨_,rfl⟩
  have l1:B1.length=b.length+8:=by rw[hB1];simp
  rw[<-hB1]at p1;have p2:=af4 B1 o_ _ (.inl rfl) R c.info hc.info;rw[ac hr,aq,ac h.info]at p2;obtain⟨B2,hB2⟩:∃B2,B2=B1++(if common then [] else jQ c.info):=⟨_,rfl⟩
  have l2:B2.length<=b.length+28:=by rw[hB2,al];split<;>(try simp only[bD])<;>omega
  have p3:=ape B2 o_ _ (.inl rfl) c.info hc.info hm11 c.sects hc.sects h.sects;obtain⟨B3,hB3⟩:∃B3,B3=B2++Q8 c.info c.sects:=⟨_,rfl⟩
  have l3:B3.length<=b.length+5000000:=by rw[hB3,al];omega
  rw[<-hB3]at p3;have p4:=ao4 B3 o_ _ (.inl rfl) c.gain c.info.max c.sects c.steps h.gain hgs hmx h.sects.2 hc.sects.2 h.steps λl hl=>by have:=hc.steps.2 l hl;omega
  obtain⟨B4,hB4⟩:∃B4,B4=B3++pw c.sects c.steps c.gain (-1):=⟨_,rfl⟩
  have l4:B4.length<=b.length+6000000:=by rw[hB4,al];omega
  rw[<-hB4]at p4;have p5:=QM c.tns o_ λl hl=>by have:=(hc.tns.2 l hl).1;omega
  have p6:=ahm (B4++[0,1]) g_ _ (.inl rfl) c.info hc.info hm11 c.tns h.tns λl hl f hf=>(hc.fltI l hl f hf).2
  obtain⟨B5,hB5⟩:∃B5,B5=B4++(if nE c.tns then 0::1::(jg c.info.short c.tns++[0]) else [0,0,0]):=⟨_,rfl⟩
  have l5:B5.length<=b.length+7000000:=by rw[hB5,al];split<;>simp<;>omega
  have hfin:b++Dc R c common=B5++mz R c:=by rw[hB5,hB4,hB3,hB2,hB1];simp only[Dc,ay]
  obtain⟨C2,M,p7⟩:=apK R hR c hc h (.d (.lst (ak B5))) rfl o_;have p8:=Ns R hR c.info (.lst (bF c.sects)) [(0,.cells c.av),(1,.cells tT),(2,.cells [.ptr 1 0]),(3,.cells [.nl])] 4 (λp hp=>by
   simp only[aB,cU,fC]at hp;rcases hp with rfl|rfl|rfl|rfl<;>simp only[]<;>omega)
  rw[hfin];have hbl:(ak (mz R c)).length=(mz R c).length:=cP;have hb5:(ak B5).length=B5.length:=cP;have hb4:(ak B4).length=B4.length:=cP;have hb01:ak B4++[[D.int .u8 0],[D.int .u8 1]]=ak (B4++[0,1]):=by simp[ak]
  have hb000:ak B4++[[D.int .u8 0],[D.int .u8 0],[D.int .u8 0]]=ak (B4++[0,0,0]):=by simp[ak]
  have hb6:ak (B4++[0,1]++jg c.info.short c.tns)++[[D.int .u8 0]]=ak (B4++[0,1]++jg c.info.short c.tns++[0]):=by simp[ak]
  have hl6n:(B4++[0,1]++jg c.info.short c.tns).length<=400000000:=by simp;omega
  have hl6:(ak (B4++[0,1]++jg c.info.short c.tns)).length<=400000000:=by rw[cP];simp;omega
  simp only[FQ,cS.av,aM.cells,aR,aO]at hC p2 p3 p4 p6 p7 p8⊢;rw[aU aa7 aaR rfl]
  cases hcm:common with
  |true =>
   rw[hcm]at hB2;simp only[bc,be]at hB2;subst hB2
   cases haf:nE c.tns with
   |true =>
    rw[haf]at hB5 p5;simp only[bc]at hB5;have e5:B4++[0,1]++jg c.info.short c.tns++[0]=B5:=by rw[hB5];simp
    rw[e5]at hb6;generalize mz R c=LL at *;generalize B4++[0,1]++jg c.info.short c.tns=B6 at *;generalize B4++[0,1]=B7 at *;rcases hx with rfl|⟨rfl,rfl⟩
    .simp(config := { maxSteps:=1000000 }) (disch:=omega)[↓ac,↓aa,rd,hC,p1,p3,p4,p5,p6,hb01,hb6,hb000,p8,p7]
     try omega
    .simp(config := { maxSteps:=1000000 }) (disch:=omega)[↓ac,↓aa,rd,hC,p1,p3,p4,p5,p6,hb01,hb6,hb000,p8,p7]
     try omega
   |false =>
    rw[haf]at hB5 p5;simp only[ao,bf]at hB5;rw[<-hB5]at hb000;generalize mz R c=LL at *;generalize B4++[0,1]++jg c.info.short c.tns=B6 at *;generalize B4++[0,1]=B7 at *;rcases hx with rfl|⟨rfl,rfl⟩
    .simp(config := { maxSteps:=1000000 }) (disch:=omega)[↓ac,↓aa,rd,hC,p1,p3,p4,p5,p6,hb01,hb6,hb000,p8,p7]
     try omega
    .simp(config := { maxSteps:=1000000 }) (disch:=omega)[↓ac,↓aa,rd,hC,p1,p3,p4,p5,p6,hb01,hb6,hb000,p8,p7]
     try omega
  |false =>
   rw[hcm]at hB2;simp only[ao,bf]at hB2;rw[<-hB2]at p2
   cases haf:nE c.tns with
   |true =>
    rw[haf]at hB5 p5;simp only[bc]at hB5;have e5:B4++[0,1]++jg c.info.short c.tns++[0]=B5:=by rw[hB5];simp
    rw[e5]at hb6;generalize mz R c=LL at *;generalize B4++[0,1]++jg c.info.short c.tns=B6 at *;generalize B4++[0,1]=B7 at *;rcases hx with rfl|⟨rfl,rfl⟩
    .simp(config := { maxSteps:=1000000 }) (disch:=omega)[↓ac,↓aa,rd,hC,p1,p2,p3,p4,p5,p6,hb01,hb6,hb000,p8,p7]
     try omega
    .simp(config := { maxSteps:=1000000 }) (disch:=omega)[↓ac,↓aa,rd,hC,p1,p2,p3,p4,p5,p6,hb01,hb6,hb000,p8,p7]
     try omega
   |false =>
    rw[haf]at hB5 p5;simp only[ao,bf]at hB5;rw[<-hB5]at hb000;generalize mz R c=LL at *;generalize B4++[0,1]++jg c.info.short c.tns=B6 at *;generalize B4++[0,1]=B7 at *;rcases hx with rfl|⟨rfl,rfl⟩
    .simp(config := { maxSteps:=1000000 }) (disch:=omega)[↓ac,↓aa,rd,hC,p1,p2,p3,p4,p5,p6,hb01,hb6,hb000,p8,p7]
     try omega
    .simp(config := { maxSteps:=1000000 }) (disch:=omega)[↓ac,↓aa,rd,hC,p1,p2,p3,p4,p5,p6,hb01,hb6,hb000,p8,p7]
     try omega
 .exact .inr ⟨8,o_,hC,λ_=>h,bad 8 o_ hC⟩
 .exact .inr ⟨2,o_,hC,λh=>absurd h hr,bad 2 o_ hC⟩
structure asr (c:cS):Prop where
 groups:c.info.groups.length<=40
 sects:c.sects.length<=40∧∀l∈c.sects,l.length<=100
 steps:c.steps.length<=40∧∀l∈c.steps,l.length<=200
 tns:c.tns.length<=40∧∀l∈c.tns,l.length<=20∧∀f∈l,f.coefs.length<=100
 lines:c.lines.length<=2000
abbrev qX (book:Int):Int:=if book=13 then 511 else 255
def ko (b:C_)(a book was:Int):R Int :=
 if was<0 then (bb b a 9).bind λv n=>.ok (v:Int) n
 else (Ic b a).bind λd n=>if was+d<0∨qX book<was+d then .er 7 else .ok (was+d) n
abbrev aBw (b:C_)(book:Int)(v:Int)(n:Nat):Prop:=(0<=v∧v<=511)∧n<=b.length
def Zq {b:C_}{a:Int}{d:Int}{n:Nat}(h:Ic b a=.ok d n):pSt b d n:=by
 rw[Ic]at h
 cases h1:yi 12 b a with
 |er e=>rw[h1]at h;exact absurd h (by simp)
 |ok e m =>
  rw[h1,ax]at h;obtain⟨k1,k2⟩:=R9 o_ h1;have h2:e<121:=k1;injection h with g1 g2
  subst g1 g2;exact⟨o_,k2⟩
def XM {b:C_}{a book was:Int}{v:Int}{n:Nat}(h:ko b a book was=.ok v n):aBw b book v n:=by
 rw[ko]at h;split at h
 .cases h1:bb b a 9 with
  |er e=>rw[h1]at h;exact absurd h (by simp)
  |ok v0 m =>
   rw[h1,ax]at h;have hp:=dU h1;have h2:v0<512:=hp.1;have h3:=hp.2;injection h with g1 g2
   subst g1 g2;exact⟨o_,h3⟩
 .cases h1:Ic b a with
  |er e=>rw[h1]at h;exact absurd h (by simp)
  |ok d m =>
   rw[h1,ax]at h;have hp:=Zq h1;split at h
   .exact absurd h (by simp)
   .rename_i hn;injection h with g1 g2
    subst g1 g2;refine⟨?_,hp.2⟩;simp only[qX]at hn;split at hn<;>omega
def np (b:C_):G_->Int->Int->Int->R (G_×Int×Int)
 |[],a,w,z=>.ok ([],w,z) a.toNat
 |k::r,a,w,z=>if k=13 then (ko b a 13 z).bind λv n=>(np b r n w v).bind λq n=>.ok (v::q.1,q.2) n
  else if 0<k then (ko b a k w).bind λv n=>(np b r n v z).bind λq n=>.ok (v::q.1,q.2) n
  else (np b r a w z).bind λq n=>.ok (0::q.1,q.2) n
abbrev inW (w:Int):Prop:=-1<=w∧w<=511
abbrev aBx (b:C_)(r:G_)(q:G_×Int×Int)(n:Nat):Prop:=q.1.length=r.length∧(inW q.2.1∧inW q.2.2)∧n<=b.length
def Qg {b:C_}:∀{r:G_}{a:Nat}{w z:Int}{q:G_×Int×Int}{n:Nat},a<=b.length->inW w->inW z->np b r a w z=.ok q n->aBx b r q n
 |[],a,w,z,q,n,ha,hw,hz,h=>by
  rw[np]at h;injection h with g1 g2
  subst g1 g2;exact⟨rfl,⟨hw,hz⟩,by simpa using ha⟩
 |k::r,a,w,z,q,n,ha,hw,hz,h=>by
  rw[np]at h;split at h
  .cases h1:ko b a 13 z with
   |er e=>rw[h1]at h;exact absurd h (by simp)
   |ok v m =>
    rw[h1,ax]at h;have hp:=XM h1
    cases h2:np b r m w v with
    |er e=>rw[h2]at h;exact absurd h (by simp)
    |ok q1 m1 =>
     rw[h2,ax]at h;have hq:=Qg hp.2 hw ⟨by have:=hp.1.1;omega,hp.1.2⟩ h2;injection h with g1 g2
     subst g1 g2;exact⟨by simp[hq.1],hq.2⟩
  .split at h
   .cases h1:ko b a k w with
    |er e=>rw[h1]at h;exact absurd h (by simp)
    |ok v m =>
     rw[h1,ax]at h;have hp:=XM h1
     cases h2:np b r m v z with
     |er e=>rw[h2]at h;exact absurd h (by simp)
     |ok q1 m1 =>
      rw[h2,ax]at h;have hq:=Qg hp.2 ⟨by have:=hp.1.1;omega,hp.1.2⟩ hz h2;injection h with g1 g2
      subst g1 g2;exact⟨by simp[hq.1],hq.2⟩
   .cases h2:np b r a w z with
    |er e=>rw[h2]at h;exact absurd h (by simp)
    |ok q1 m1 =>
     rw[h2,ax]at h;have hq:=Qg ha hw hz h2;injection h with g1 g2
     subst g1 g2;exact⟨by simp[hq.1],hq.2⟩
def mE (b:C_):H_->Int->Int->Int->R L_
 |[],a,_,_=>.ok [] a.toNat
 |l::r,a,w,z=>(np b (aK l) a w z).bind λq n=>(mE b r n q.2.1 q.2.2).bind λt n=>.ok (q.1::t) n
abbrev pSc (b:C_)(g:H_)(t:L_)(n:Nat):Prop:=t.map List.length=g.map (λl=>(aK l).length)∧n<=b.length
def Vk {b:C_}:∀{g:H_}{a:Nat}{w z:Int}{t:L_}{n:Nat},a<=b.length->inW w->inW z->mE b g a w z=.ok t n->pSc b g t n
 |[],a,w,z,t,n,ha,hw,hz,h=>by
  rw[mE]at h;injection h with g1 g2
  subst g1 g2;exact⟨rfl,by simpa using ha⟩
 |l::r,a,w,z,t,n,ha,hw,hz,h=>by
  rw[mE]at h
  cases h1:np b (aK l) a w z with
  |er e=>rw[h1]at h;exact absurd h (by simp)
  |ok q m =>
   rw[h1,ax]at h;have hp:=Qg ha hw hz h1
   cases h2:mE b r m q.2.1 q.2.2 with
   |er e=>rw[h2]at h;exact absurd h (by simp)
   |ok t1 m1 =>
    rw[h2,ax]at h;have hq:=Vk hp.2.2 hp.2.1.1 hp.2.1.2 h2;injection h with g1 g2
    subst g1 g2;exact⟨by simp only[b9,hq.1,hp.1],hq.2⟩
def aqF {t:L_}{l:G_}:c7 (t++[l])=c7 t++[[.lst (aF l)]]:=by simp[c7]
def ak0 {l:Q_}(hl:l.length<=1000)(hs:∀s∈l,0<=s.len∧s.len<=1000):(aK l).length<=1000*l.length:=by
 induction l with
 |nil=>simp[aK]
 |cons s r ih =>
  have h1:=hs s (.head _);have h2:=ih (by simp at hl;omega) λq hq=>hs q (.tail _ hq)
  simp only[aK,aG,al,bn,ar]at h2⊢;omega
abbrev ac0 (l:Q_):Prop:=l.length<=1000∧∀s∈l,0<=s.len∧s.len<=1000
def xF (b:C_)(g:H_)(a gain:Int):R L_:=if 0<=a∧a<=b.length then mE b g a gain (-1) else .er 1
structure SG where
 row:G_
 nx:Nat
 w:Int
 z:Int
def AP {A0 A1 A2 A3:Obj}{R:am}(book n s z:Int)(N:Nat)(hn:-100000<=n∧n<=100000)(hs:-100000<=s∧s<=100000)(hz:-100000<=z∧z<=100000) :
  (Dn prog).call px [.ptr 4 0,A_ book,A_ n] ⟨(0,A0)::(1,A1)::(2,A2)::(3,A3)::(4,.cells [A_ s,A_ z])::R,N⟩ =
   if kW book n s z then some (B_ true,⟨if book=13 then (0,A0)::(1,A1)::(2,A2)::(3,A3)::(4,.cells [A_ s,A_ n])::R else (0,A0)::(1,A1)::(2,A2)::(3,A3)::(4,.cells [A_ n,A_ z])::R,N⟩) else some (B_ false,⟨(0,A0)::(1,A1)::(2,A2)::(3,A3)::(4,.cells [A_ s,A_ z])::R,N⟩) :=
 LR (hp:=λs z=>(0,A0)::(1,A1)::(2,A2)::(3,A3)::(4,.cells [A_ s,A_ z])::R) (A:=4) ⟨λs z=>by simp,λs z s' z'=>by simp⟩ book n s z N hn hs hz
section
variable (b:C_)(full:H_)(ss:L_)(l:Q_)(i N:Nat)
abbrev adf:aV:=[(4,.ptr 0 0),(8,.ptr 1 0),(9,.ptr 2 0),(10,.ptr 3 0),(11,.ptr 5 0),(14,.ptr N 0),(35,.d (.lst (bF full))),(36,A_ full.length),(37,A_ i),(42,.fn iK [] [.ptr (N+1) 0])]
abbrev FG (q:Bool)(p:BG_)(x1 x2 x3:AV)(row:G_)(w z:Int)(T:am):am :=
 (0,.cells [.d (.lst (ak b))])::(1,.cells [x1])::(2,.cells [x2])::(3,.cells [x3])::(4,.cells [A_ w,A_ z])::(5,.cells [.ptr 4 0])::(N,.cells [aD 1 (aF row)])::(N+1,.cells [.d (.lst (gx l))])::(N+1+1,.loop (adf full i N) [43,44] wM wP q p)::T
abbrev hpG (s:SG)(T:am):am:=FG b full l i N false none (aD 1 (c7 ss)) (A_ s.nx) (A_ 0) s.row s.w s.z T
abbrev hqG (s:Nat×SG)(T:am):am:=FG b full l i N false (some .ret) .nl (A_ 0) (A_ ((s.1:Int)+1)) s.2.row s.2.w s.2.z T
end
def MK (b:C_)(k:Int)(s:SG):Sum SG (Nat×SG) :=
 if k=13 then (match ko b s.nx 13 s.z with
  |.ok v n=>.inl ⟨s.row++[v],n,s.w,v⟩
  |.er e=>.inr (e,s))
 else if 0<k then (match ko b s.nx k s.w with
  |.ok v n=>.inl ⟨s.row++[v],n,v,s.z⟩
  |.er e=>.inr (e,s))
 else .inl ⟨s.row++[0],s.nx,s.w,s.z⟩
def alu (b:C_)(a:Nat)(s:SG):Prop:=s.nx<=b.length∧(0<=s.w∧s.w<=511)∧inW s.z∧s.row.length=a∧a<=1000000
def azB (b:C_)(hb:b.length<=1000000000)(full:H_)(ss:L_)(l:Q_)(i N:Nat)(hN:6<=N)(a:Nat)(k:Int)(hk:0<=k∧k<=13)(s:SG)(hs:alu b a s)(K M:Nat)(o:Obj)(hK:N+1+1+1<=K) :
  b7 (Dn prog) (.yield (N+1+1)) [A_ (a:Int),A_ k] ⟨hpG b full ss l i N s [(K,o)],M⟩ =
  match MK b k s with
  |.inl s2=>some (B_ true,⟨hpG b full ss l i N s2 [(K,o)],M⟩)
  |.inr z=>some (B_ false,⟨hqG b full l i N z [(K,o)],M⟩):=by
 obtain⟨h1,h2,h3,h4,h5⟩:=hs;obtain⟨n0,n1,n2,n3,n4⟩:(N≠0∧N≠1∧N≠2∧N≠3∧N≠4∧N≠5)∧(N+1≠0∧N+1≠1∧N+1≠2∧N+1≠3∧N+1≠4∧N+1≠5)∧(N+1+1≠0∧N+1+1≠1∧N+1+1≠2∧N+1+1≠3∧N+1+1≠4∧N+1+1≠5)∧N+1+1≠N∧N+1+1≠N+1:=o_;have hrl:=gQ (l:=s.row);have eo:∀v,AV.own false 1 (aF (s.row++[v]))=aD 1 (aF (s.row++[v])):=λv=>by rw[Wy];exact mY.symm
 have hS:=adv b s.nx hb o_;have hG:=gW b s.nx 9 hb o_;have hz0:=h3.1;have hz1:=h3.2;rw[MK];by_cases e1:k=13
 .subst e1;rw[ac rfl];by_cases hz:s.z<0
  .cases hg:bb b s.nx 9 with
   |ok v n =>
    have hp:=dU hg;have hv:v<512:=hp.1;have hn:=hp.2;rw[hg,eD hp]at hG;have ho:ko b s.nx 13 s.z=.ok (v:Int) n:=by rw[ko,ac hz,hg,ax]
    have hT:kW 13 v s.w s.z:=by rw[kW,ac rfl];omega
    rw[ho];simp(maxSteps:=300000) (disch:=omega)[iq,iC,↓ac,↓aa,n0,n1,n2,n3,n4,AP,hG,ac hT];exact eo _
   |er e =>
    rw[hg,ie]at hG;have ho:ko b s.nx 13 s.z=.er e:=by rw[ko,ac hz,hg,co]
    rw[ho];simp(maxSteps:=300000) (disch:=omega)[iq,iC,↓ac,↓aa,n0,n1,n2,n3,n4,AP,hG]
  .cases hg:Ic b s.nx with
   |ok d n =>
    have hp:=Zq hg;have hd:=hp.1;have hn:=hp.2;rw[hg,eD hp]at hS;by_cases hr:s.z+d<0∨qX 13<s.z+d
    .have ho:ko b s.nx 13 s.z=.er 7:=by rw[ko,aa hz,hg,ax,ac hr]
     have hT:¬kW 13 (d+s.z) s.w s.z:=by rw[kW,ac rfl];simp only[qX,ac]at hr;omega
     rw[ho];simp(maxSteps:=300000) (disch:=omega)[iq,iC,↓ac,↓aa,n0,n1,n2,n3,n4,AP,hS,aa hT]
    .have ho:ko b s.nx 13 s.z=.ok (s.z+d) n:=by rw[ko,aa hz,hg,ax,aa hr]
     have hT:kW 13 (d+s.z) s.w s.z:=by rw[kW,ac rfl];simp only[qX,ac]at hr;omega
     rw[ho,Int.add_comm];simp(maxSteps:=300000) (disch:=omega)[iq,iC,↓ac,↓aa,n0,n1,n2,n3,n4,AP,hS,ac hT];exact eo _
   |er e =>
    rw[hg,ie]at hS;have ho:ko b s.nx 13 s.z=.er e:=by rw[ko,aa hz,hg,co]
    rw[ho];simp(maxSteps:=300000) (disch:=omega)[iq,iC,↓ac,↓aa,n0,n1,n2,n3,n4,AP,hS]
 .rw[aa e1];by_cases e2:0<k
  .rw[ac e2];have hw:¬s.w<0:=o_
   cases hg:Ic b s.nx with
   |ok d n =>
    have hp:=Zq hg;have hd:=hp.1;have hn:=hp.2;rw[hg,eD hp]at hS;by_cases hr:s.w+d<0∨qX k<s.w+d
    .have ho:ko b s.nx k s.w=.er 7:=by rw[ko,aa hw,hg,ax,ac hr]
     have hT:¬kW k (d+s.w) s.w s.z:=by rw[kW,aa e1];simp only[qX,aa e1]at hr;omega
     rw[ho];simp(maxSteps:=300000) (disch:=omega)[iq,iC,↓ac,↓aa,n0,n1,n2,n3,n4,AP,hS,aa hT,e1]
    .have ho:ko b s.nx k s.w=.ok (s.w+d) n:=by rw[ko,aa hw,hg,ax,aa hr]
     have hT:kW k (d+s.w) s.w s.z:=by rw[kW,aa e1];simp only[qX,aa e1]at hr;omega
     rw[ho,Int.add_comm];simp(maxSteps:=300000) (disch:=omega)[iq,iC,↓ac,↓aa,n0,n1,n2,n3,n4,AP,hS,ac hT,e1];exact eo _
   |er e =>
    rw[hg,ie]at hS;have ho:ko b s.nx k s.w=.er e:=by rw[ko,aa hw,hg,co]
    rw[ho];simp(maxSteps:=300000) (disch:=omega)[iq,iC,↓ac,↓aa,n0,n1,n2,n3,n4,AP,hS,e1]
  .rw[aa e2];have:k=0:=o_;subst this;simp(maxSteps:=300000) (disch:=omega)[iq,iC,↓ac,↓aa,n0,n1,n2,n3,n4,AP,e1];exact eo _
def asL {b:C_}{a:Nat}{k:Int}{s s2:SG}(hs:alu b a s)(ha:a<1000000)(h:MK b k s=.inl s2):alu b (a+1) s2:=by
 obtain⟨h1,h2,h3,h4,h5⟩:=hs;have h3':=h3;rw[MK]at h;split at h
 .split at h
  .rename_i v n ho;have hp:=XM ho;obtain⟨⟨hv1,hv2⟩,hn⟩:=hp;injection h with h;subst h
   exact⟨hn,h2,⟨by simp only[];omega,hv2⟩,by simp[h4],o_⟩
  .exact nomatch h
 .split at h
  .split at h
   .rename_i v n ho;have hp:=XM ho;obtain⟨⟨hv1,hv2⟩,hn⟩:=hp;injection h with h;subst h
    exact⟨hn,⟨hv1,hv2⟩,h3,by simp[h4],o_⟩
   .exact nomatch h
  .injection h with h;subst h
   exact⟨h1,h2,h3,by simp[h4],o_⟩
def Ro {b:C_}:∀{r:G_}{a:Nat}{s:SG},(∀q n,np b r s.nx s.w s.z=.ok q n->uk (λ_ k s=>MK b k s) r a s=.inl ⟨s.row++q.1,n,q.2.1,q.2.2⟩)∧(∀e,np b r s.nx s.w s.z=.er e->∃z,uk (λ_ k s=>MK b k s) r a s=.inr (e,z))
 |[],a,s=>⟨λq n h=>by
   rw[np]at h;injection h with g1 g2
   subst g1 g2;rw[uk];simp,λe h=>by rw[np]at h;exact absurd h s_⟩
 |k::r,a,s=>by
  rw[np,uk,MK];by_cases e1:k=13
  .rw[ac e1,ac e1]
   cases ho:ko b s.nx 13 s.z with
   |er e=>exact⟨λq n h=>by rw[co]at h;exact absurd h s_,λe' h=>by rw[co]at h;injection h with h;subst h;exact⟨s,rfl⟩⟩
   |ok v n =>
    simp only[ax];have ih:=Ro (b:=b) (r:=r) (a:=a+1) (s:=⟨s.row++[v],n,s.w,v⟩)
    cases hr:np b r n s.w v with
    |er e=>exact⟨λq n h=>by rw[co]at h;exact absurd h s_,λe' h=>by rw[co]at h;injection h with h;subst h;exact ih.2 e hr⟩
    |ok q m =>
     refine⟨λq' n' h=>?_,λe h=>by rw[ax]at h;exact absurd h s_⟩;rw[ax]at h;injection h with g1 g2
     subst g1 g2;rw[ih.1 q m hr];simp
  .rw[aa e1,aa e1];by_cases e2:0<k
   .rw[ac e2,ac e2]
    cases ho:ko b s.nx k s.w with
    |er e=>exact⟨λq n h=>by rw[co]at h;exact absurd h s_,λe' h=>by rw[co]at h;injection h with h;subst h;exact⟨s,rfl⟩⟩
    |ok v n =>
     simp only[ax];have ih:=Ro (b:=b) (r:=r) (a:=a+1) (s:=⟨s.row++[v],n,v,s.z⟩)
     cases hr:np b r n v s.z with
     |er e=>exact⟨λq n h=>by rw[co]at h;exact absurd h s_,λe' h=>by rw[co]at h;injection h with h;subst h;exact ih.2 e hr⟩
     |ok q m =>
      refine⟨λq' n' h=>?_,λe h=>by rw[ax]at h;exact absurd h s_⟩;rw[ax]at h;injection h with g1 g2
      subst g1 g2;rw[ih.1 q m hr];simp
   .rw[aa e2,aa e2];have ih:=Ro (b:=b) (r:=r) (a:=a+1) (s:=⟨s.row++[0],s.nx,s.w,s.z⟩)
    cases hr:np b r s.nx s.w s.z with
    |er e=>exact⟨λq n h=>by rw[co]at h;exact absurd h s_,λe' h=>by rw[co]at h;injection h with h;subst h;exact ih.2 e hr⟩
    |ok q m =>
     refine⟨λq' n' h=>?_,λe h=>by rw[ax]at h;exact absurd h s_⟩;rw[ax]at h;injection h with g1 g2
     subst g1 g2;simp only;rw[ih.1 q m hr];simp
def avS (b:C_)(hb:b.length<=1000000000)(full:H_)(ss:L_)(l:Q_)(i N:Nat)(hN:6<=N)(hk:∀k∈aK l,0<=k∧k<=13)(hl:(aK l).length<=1000000) :
  Rnd (hpG b full ss l i N) (hqG b full l i N) (N+1+1+1) (N+1+1) (aK l) (λ_ k s=>MK b k s) (alu b):=by
 intro a k s K o M hak hi hK hKM;have hal:a<(aK l).length:=(aH.1 hak).1;have h:=azB b hb full ss l i N hN a k (hk k (eu hak)) s hi K M o hK
 cases hg:MK b k s with
 |inl s2 =>
  rw[hg]at h;exact .inl ⟨s2,hg,asL hi o_ hg,h⟩
 |inr z =>
  rw[hg]at h;exact .inr ⟨z,hg,h⟩
def ayL {b:C_}{full:H_}{ss:L_}{l:Q_}{i N:Nat}(hN:6<=N):Tl (hpG b full ss l i N) (N+1+1+1):=by
 obtain⟨n0,n1,n2,n3,n4⟩:(N≠0∧N≠1∧N≠2∧N≠3∧N≠4∧N≠5)∧(N+1≠0∧N+1≠1∧N+1≠2∧N+1≠3∧N+1≠4∧N+1≠5)∧(N+1+1≠0∧N+1+1≠1∧N+1+1≠2∧N+1+1≠3∧N+1+1≠4∧N+1+1≠5)∧N+1+1≠N∧N+1+1≠N+1:=o_;constructor
 .intro s K o h;simp(maxSteps:=300000) (disch:=omega)[↓aa]
 .intro s K o o' h;simp(maxSteps:=300000) (disch:=omega)[↓aa]
 .intro s K o h;simp(maxSteps:=300000) (disch:=omega)[↓aa]
 .intro s K o h;simp(maxSteps:=300000) (disch:=omega)[↓aa]
def ayv {b:C_}{full:H_}{l:Q_}{i N:Nat}(hN:6<=N):Tl (hqG b full l i N) (N+1+1+1):=by
 obtain⟨n0,n1,n2,n3,n4⟩:(N≠0∧N≠1∧N≠2∧N≠3∧N≠4∧N≠5)∧(N+1≠0∧N+1≠1∧N+1≠2∧N+1≠3∧N+1≠4∧N+1≠5)∧(N+1+1≠0∧N+1+1≠1∧N+1+1≠2∧N+1+1≠3∧N+1+1≠4∧N+1+1≠5)∧N+1+1≠N∧N+1+1≠N+1:=o_;constructor
 .intro s K o h;simp(maxSteps:=300000) (disch:=omega)[↓aa]
 .intro s K o o' h;simp(maxSteps:=300000) (disch:=omega)[↓aa]
 .intro s K o h;simp(maxSteps:=300000) (disch:=omega)[↓aa]
 .intro s K o h;simp(maxSteps:=300000) (disch:=omega)[↓aa]
def OX (x:D)(A0 A1 A2 A3 A4 A5 A6:Obj)(N:Nat)(hN:6<=N):(Dn prog).call E4 [.d x] ⟨[(0,A0),(1,A1),(2,A2),(3,A3),(4,A4),(5,A5),(N,A6)],N+1⟩=some (.fn iK [] [.ptr (N+1) 0],⟨[(0,A0),(1,A1),(2,A2),(3,A3),(4,A4),(5,A5),(N,A6),(N+1,.cells [.d x])],N+1+1⟩):=by
 rw[Jx];simp(maxSteps:=300000) (disch:=omega)[↓aa]
def akk (l:Q_):Prop:=∀k∈aK l,0<=k∧k<=13
abbrev hpL (b:C_)(ss:L_)(nx:Nat)(w z:Int):am:=[(0,.cells [.d (.lst (ak b))]),(1,.cells [aD 1 (c7 ss)]),(2,.cells [A_ nx]),(3,.cells [A_ 0]),(4,.cells [A_ w,A_ z]),(5,.cells [.ptr 4 0])]
def agH (b:C_)(hb:b.length<=1000000000)(full:H_)(hfl:full.length<=1000):∀(g:H_) (i N:Nat) (ss:L_) (nx:Nat) (w z:Int),full.drop i=g->(∀l∈g,ac0 l∧akk l)->nx<=b.length->(0<=w∧w<=511)->inW z->ss.length<=i->6<=N->
  (∀t n,mE b g nx w z=.ok t n->∃M A4,(Dn prog).code (.loop kQ) ⟨[(4,.ptr 0 0),(8,.ptr 1 0),(9,.ptr 2 0),(10,.ptr 3 0),(11,.ptr 5 0),(35,.d (.lst (bF full))),(36,A_ full.length),(37,A_ i)],⟨hpL b ss nx w z,N⟩⟩ =
   some (.exit 0,⟨[(8,.ptr 1 0),(9,.ptr 2 0),(10,.ptr 3 0)],⟨[(1,.cells [aD 1 (c7 (ss++t))]),(2,.cells [A_ n]),(3,.cells [A_ 0]),(4,A4)],M⟩⟩))∧
  (∀e,mE b g nx w z=.er e->∃M I K T,(Dn prog).code (.loop kQ) ⟨[(4,.ptr 0 0),(8,.ptr 1 0),(9,.ptr 2 0),(10,.ptr 3 0),(11,.ptr 5 0),(35,.d (.lst (bF full))),(36,A_ full.length),(37,A_ i)],⟨hpL b ss nx w z,N⟩⟩ =
   some (.ret,⟨adf full I K,⟨(0,.cells [.d (.lst (ak b))])::(1,.cells [.nl])::(2,.cells [A_ 0])::(3,.cells [A_ ((e:Int)+1)])::T,M⟩⟩)):=by
 intro g
 induction g with
 |nil =>
  intro i N ss nx w z hd hok hnx hw hz hss hN;have hk:=bQ hd;refine⟨λt n h=>?_,λe h=>by rw[mE]at h;exact absurd h s_⟩;rw[mE]at h;injection h with g1 g2
  subst g1 g2;refine⟨N,.cells [A_ w,A_ z],?_⟩;rw[ah Cu];simp(maxSteps:=300000) (disch:=omega)[↓ac,↓aa]
 |cons l r ih =>
  intro i N ss nx w z hd hok hnx hw hz hss hN;have hlt:=cm hd;have hg:=pb hd;obtain⟨hl,hbk⟩:=hok l (.head _);have hbl:=ak0 hl.1 hl.2;have hsl:=aoS (t:=ss);obtain⟨n0,n1,n2,n3,n4⟩:(N≠0∧N≠1∧N≠2∧N≠3∧N≠4∧N≠5)∧(N+1≠0∧N+1≠1∧N+1≠2∧N+1≠3∧N+1≠4∧N+1≠5)∧(N+1+1≠0∧N+1+1≠1∧N+1+1≠2∧N+1+1≠3∧N+1+1≠4∧N+1+1≠5)∧N+1+1≠N∧N+1+1≠N+1:=o_;have hB:=Ze (p:=N+1) (ayL (b:=b) (full:=full) (ss:=ss) (l:=l) (i:=i) hN) (ayv (b:=b) (full:=full) (l:=l) (i:=i) hN) l (avS b hb full ss l i N hN hbk o_) (λs=>by simp(maxSteps:=300000) (disch:=omega)[↓aa,↓ac]) o_ hl.2 (N+1+1+1) ⟨[],nx,w,z⟩ (ai _) ⟨hnx,hw,hz,rfl,o_⟩;have hrow:=Ro (b:=b) (r:=aK l) (a:=0) (s:=⟨[],nx,w,z⟩);have n00:aF []=[]:=rfl;have c1:((i+1:Nat):Int)=(i:Int)+1:=rfl;rw[mE]
  cases hr:np b (aK l) nx w z with
  |er e =>
   obtain⟨zz,hz2⟩:=hrow.2 e hr;rw[hz2]at hB;refine⟨λt n h=>by rw[co]at h;exact absurd h s_,λe' h=>?_⟩;rw[co]at h;injection h with h;subst h;rcases hB with ⟨s2,M,e1,_⟩|⟨q,M,e1,e2,e3⟩
   .exact nomatch e1
   .injection e1 with e1
    subst e1;simp only[hpG,hqG,FG,n00,pD,adf]at e3;refine⟨M,i,N,[(4,.cells [A_ zz.w,A_ zz.z]),(5,.cells [.ptr 4 0]),(N,.cells [aD 1 (aF zz.row)]),(N+1,.cells [.d (.lst (gx l))])],?_⟩;rw[ah Cu];simp(maxSteps:=300000) (disch:=omega)[↓ac,↓aa,hg,n0,n1,n2,n3,n4,OX,rd,e3]
  |ok q m =>
   have hp:=Qg hnx ⟨o_,o_⟩ hz hr;obtain⟨p1,⟨p2,p3⟩,p4⟩:=hp;have hz2:=hrow.1 q m hr;rw[hz2]at hB;rcases hB with ⟨s2,M,e1,ei,e2,e3⟩|⟨q,M,e1,_⟩
   rotate_left
   .exact nomatch e1
   injection e1 with e1
   subst e1;obtain⟨_,hw2,hz3,_⟩:=ei;simp only[aO]at e3 hw2 hz3;have h5:=ih (i+1) M (ss++[q.1]) m q.2.1 q.2.2 (bE hd) (λx hx=>hok x (.tail _ hx)) p4 hw2 hz3 g_ o_;rw[c1]at h5;simp only[ax];have step:(Dn prog).code (.loop kQ) ⟨[(4,.ptr 0 0),(8,.ptr 1 0),(9,.ptr 2 0),(10,.ptr 3 0),(11,.ptr 5 0),(35,.d (.lst (bF full))),(36,A_ full.length),(37,A_ i)],⟨hpL b ss nx w z,N⟩⟩ =
     (Dn prog).code (.loop kQ) ⟨[(4,.ptr 0 0),(8,.ptr 1 0),(9,.ptr 2 0),(10,.ptr 3 0),(11,.ptr 5 0),(35,.d (.lst (bF full))),(36,A_ full.length),(37,A_ ((i:Int)+1))],⟨hpL b (ss++[q.1]) m q.2.1 q.2.2,M⟩⟩:=by
    simp only[hpG,hqG,FG,n00,pD,adf]at e3;simp only[hpL,aqF,mY];rw[ah Cu];simp(maxSteps:=300000) (disch:=omega)[↓ac,↓aa,hg,n0,n1,n2,n3,n4,OX,rd,e3]
   rw[step]
   cases hs:mE b r m q.2.1 q.2.2 with
   |er e =>
    refine⟨λt n h=>by rw[co]at h;exact absurd h s_,λe' h=>?_⟩;rw[co]at h;injection h with h
    subst h;exact h5.2 e hs
   |ok t0 m0 =>
    refine⟨λt n h=>?_,λe h=>by rw[ax]at h;exact absurd h s_⟩;rw[ax]at h;injection h with g1 g2
    subst g1 g2;obtain⟨M2,A4,f⟩:=h5.1 t0 m0 hs;refine⟨M2,A4,?_⟩;rw[f,ay];rfl
def BW {m:Nat}{xs:E_}:share (share (aD m xs))=share (aD m xs):=by cases xs<;>rfl
def ai0 {m:Nat}{xs:E_}:firm (share (aD m xs))=share (aD m xs):=by cases xs<;>rfl
def aeb {m:Nat}{xs:E_}:AV.cells (share (aD m xs))=[share (aD m xs)]:=by cases xs<;>rfl
def Gj {m:Nat}{xs:E_}:bu (share (aD m xs))=true:=by cases xs<;>rfl
def apH {h:am}{m:Nat}{xs:E_}{a b:Int}:gy h (.tup [share (aD m xs),A_ a,A_ b])=some (.tup [share (aD m xs),A_ a,A_ b]):=by cases xs<;>rfl
def anz (b:C_)(hb:b.length<=1000000000)(a gain m:Int)(ha:i64 a)(hg:0<=gain∧gain<=255)(g:H_)(hl:g.length<=8)(hm:0<=m∧m<=40)(hf:fk m g)(hf2:∀l∈g,l.length<=1000)(hok:∀l∈g,ac0 l∧akk l):bq prog SY [.d (.lst (ak b)),A_ a,A_ gain,.d (.lst (bF g))] =
  rK (pSc b g) (xF b g a gain) (λt n=>some (.tup [share (aD 1 (c7 t)),A_ n,A_ 0])) (λe=>some (.tup [.nl,A_ 0,A_ (e+1)])):=by
 have hmay:=aaW gain m g hg hl hm λl h=>⟨hf l h,hf2 l h⟩
 have hG:=gW b a 0 hb ha;have e0:∀a,bb b a 0=if 0<=a∧a<=b.length then .ok 0 a.toNat else .er 1:=by
  intro a;by_cases h:0<=a∧a<=b.length
  .rw[ac h,bb];simp[h,bin,val]
  .rw[aa h,bb];simp[h]
 rw[aU aio ahq rfl,xF];by_cases h1:0<=a∧a<=b.length
 .obtain⟨A,rfl⟩:=aA h1.1;rw[ac h1];rw[e0,ac h1,eD ⟨k_,o_⟩]at hG;have hL:=agH b hb g o_ g 0 6 [] A gain (-1) rfl hok o_ ⟨hg.1,o_⟩ ⟨o_,o_⟩ (ai _) (ai _);have c0:((0:Nat):Int)=0:=rfl;have n0:c7 []=[]:=rfl;simp only[c0,n0,pD,hpL,aO]at hL;simp only[aq]at hG
  cases hs:mE b g A gain (-1) with
  |ok t n =>
   have hp:=Vk o_ ⟨o_,o_⟩ ⟨o_,o_⟩ hs;obtain⟨M,A4,f⟩:=hL.1 t n hs;rw[eD hp];simp(maxSteps:=300000) (disch:=omega)[↓ac,↓aa,hmay,hG,f,-W8,apH,-bu,ai0,aeb,Gj,BW]
  |er e =>
   obtain⟨M,I,K,T,f⟩:=hL.2 e hs;rw[ie];simp(maxSteps:=300000) (disch:=omega)[↓ac,↓aa,hmay,hG,f]
 .rw[aa h1,ie];rw[e0,aa h1,ie]at hG;simp(maxSteps:=300000) (disch:=omega)[↓ac,↓aa,hmay,hG]
abbrev HT (b:C_)(st:RS)(R:am):am:=(0,.cells [.d (.lst (ak b))])::(2,.cells [A_ (ra st)])::(3,.cells [A_ (re st)])::R
def Db (b:C_)(s:Int)(st:RS)(R:am)(N:Nat)(hb:b.length<=1000000000)(ha:st.fit):(Dn prog).call Af [A_ s,.ptr 3 0,.ptr 0 0,.ptr 2 0] ⟨HT b st R,N⟩ =
  some (A_ (sV b st s),⟨HT b (sN b st s) R,N⟩):=by
 rw[ba V5 V9 rfl];obtain⟨a,e⟩:=st;have hf:i64 a:=ha;by_cases he:e=0
 .subst he;simp(maxSteps:=300000) (disch:=omega)[Iy,ra,re,sV,sN]
 .simp(maxSteps:=300000) (disch:=omega)[ra,re,sV,sN,he]
def Qi (v sz:Nat):Int:=(v:Int)-((v / 2 ^ (sz-1)*2 ^ sz:Nat):Int)
def w9 (b:C_)(sz:Nat):Nat->RS->G_
 |0,_=>[]
 |k+1,st=>Qi (sV b st sz) sz::w9 b sz k (sN b st sz)
def vE (b:C_)(sz:Nat):Nat->RS->RS
 |0,st=>st
 |k+1,st=>vE b sz k (sN b st sz)
def ZF {b:C_}{sz:Nat}(hb:b.length<=1000000000):∀{k:Nat}{st:RS},st.fit->(vE b sz k st).fit
 |0,_,h=>h
 |_+1,_,h=>by rw[vE];exact ZF hb (fN hb h)
def YF {b:C_}{sz:Nat}:∀{k:Nat}{st:RS},(w9 b sz k st).length=k
 |0,_=>rfl
 |k+1,st=>by rw[w9,ar,YF]
def aA6 {q s:Nat}(hq:q<=1)(hs:s<=4):fg .shl (A_ (q:Int)) (A_ (s:Int))=some (.int .i64 ((q*2 ^ s:Nat):Int)):=by
 have h:∀q:Nat,q<=1->∀s:Nat,s<=4->fg .shl (A_ (q:Int)) (A_ (s:Int))=some (.int .i64 ((q*2 ^ s:Nat):Int)):=by
  intro q hq s hs;obtain rfl|rfl:q=0∨q=1:=o_
  all_goals
   obtain rfl|rfl|rfl|rfl|rfl:s=0∨s=1∨s=2∨s=3∨s=4:=o_
   all_goals rfl
 exact h q hq s hs
abbrev Qz:AV:=.fn Af [] [.ptr 3 0,.ptr 0 0,.ptr 2 0]
def atc (b:C_)(hb:b.length<=1000000000)(SZ:Obj)(a0 a1 a2 a3 x6 x13:AV)(y12 y15 y32 y33 y46 y47:D)(nar:Int)(sz ord N M:Nat)(hsz:2<=sz∧sz<=4)(ho:ord<=100)(hN:5<=N):∀(k j:Nat) (st:RS) (acc:G_),j+k=ord->acc.length=j->st.fit->
  (Dn prog).code (.loop sD) ⟨[(6,x6),(7,.ptr 2 0),(8,.ptr 3 0),(10,Qz),(11,.ptr 4 0),(12,.d y12),(13,x13),(15,.d y15),(16,.ptr N 0),(17,A_ nar),(18,A_ sz),(32,.d y32),(33,.d y33),(46,.d y46),(47,.d y47),(80,A_ ord),(81,A_ j)],⟨HT b st [(4,SZ),(N,.cells [a0,a1,a2,a3,aD 1 (aF acc)])],M⟩⟩ =
  some (.exit 4,⟨[(6,x6),(7,.ptr 2 0),(8,.ptr 3 0),(10,Qz),(11,.ptr 4 0),(12,.d y12),(13,x13),(15,.d y15),(16,.ptr N 0),(17,A_ nar),(18,A_ sz),(32,.d y32),(33,.d y33),(46,.d y46),(47,.d y47)],⟨HT b (vE b sz k st) [(4,SZ),(N,.cells [a0,a1,a2,a3,aD 1 (aF (acc++w9 b sz k st))])],M⟩⟩):=by
 obtain⟨n0,n2,n3,n4⟩:N≠0∧N≠2∧N≠3∧N≠4:=o_;intro k
 induction k with
 |zero =>
  intro j st acc h1 h2 h3;rw[ah HL,w9,vE,be];simp(maxSteps:=300000) (disch:=omega)[↓ac,↓aa]
 |succ k ih =>
  intro j st acc h1 h2 h3;have hg:=Db b sz st [(4,SZ),(N,.cells [a0,a1,a2,a3,aD 1 (aF acc)])] M hb h3;have hv:=uL (b:=b) (st:=st) (s:=sz);have h5:=ih (j+1) (sN b st sz) (acc++[Qi (sV b st sz) sz]) o_ g_ (fN hb h3);have c1:((j+1:Nat):Int)=(j:Int)+1:=rfl;have c2:((sz-1:Nat):Int)=(sz:Int)-1:=o_;have hla:=gQ (l:=acc);simp only[aq]at hv;have hp:2 ^ (sz-1)*2=2 ^ sz:=by rw[<-cW];congr 1;omega
  have hp0:=bM (sz-1);have hq:sV b st sz / 2 ^ (sz-1)<=1:=by
   have:sV b st sz / 2 ^ (sz-1)<2:=(Nat.div_lt_iff_lt_mul hp0).2 o_;omega
  have hp4:2 ^ sz<=2 ^ 4:=aw o_ hsz.2;have w1:=akF (n:=sV b st sz) (k:=sz-1) o_;have w2:=aA6 hq hsz.2;rw[c2]at w1;have hcf:Qi (sV b st sz) sz=(sV b st sz:Int)-((sV b st sz / 2 ^ (sz-1)*2 ^ sz:Nat):Int):=rfl;have hqq:sV b st sz / 2 ^ (sz-1)*2 ^ sz<=16:=by
   have:=pn hq hp4;omega
  rw[c1,ay,Wy,mY]at h5;simp only[HT]at hg h5⊢;rw[ah HL,w9,vE,show acc++Qi (sV b st sz) sz::w9 b sz k (sN b st sz)=acc++([Qi (sV b st sz) sz]++w9 b sz k (sN b st sz)) from rfl,<-h5,hcf];clear h5 ih;generalize sV b st sz / 2 ^ (sz-1)*2 ^ sz=Q2 at *;generalize sV b st sz / 2 ^ (sz-1)=Q at *;simp(maxSteps:=300000) (disch:=omega)[↓ac,↓aa,n0,n2,n3,n4,hg,-ku,-qZ,w1,w2]
def I9 (l:G_)(s:Nat):Bool:=decide (∀c∈l,-((2 ^ (s-1):Nat):Int)<=c∧c<((2 ^ (s-1):Nat):Int))
def qQ (b:C_)(x1 x2:Nat)(st:RS):Nat:=sV b (sN b st x1) x2
def xI (b:C_)(x1 x2:Nat)(st:RS):RS:=sN b (sN b st x1) x2
def flD (b:C_)(x1 x2:Nat)(st:RS):Nat:=sV b (xI b x1 x2 st) 1
def Fo (b:C_)(x1 x2:Nat)(st:RS):Nat:=sV b (sN b (xI b x1 x2 st) 1) 1
def Oo (b:C_)(x1 x2:Nat)(st:RS):RS:=sN b (sN b (xI b x1 x2 st) 1) 1
def GG (b:C_)(x1 x2:Nat)(fine:Bool)(st:RS):Nat:=fq fine-Fo b x1 x2 st
def Ly (b:C_)(x1 x2:Nat)(fine:Bool)(st:RS):ca :=
 if qQ b x1 x2 st=0 then ⟨sV b st x1,0,false,fine,[]⟩
 else ⟨sV b st x1,qQ b x1 x2 st,decide (flD b x1 x2 st=1),fine,w9 b (GG b x1 x2 fine st) (qQ b x1 x2 st) (Oo b x1 x2 st)⟩
def IK (b:C_)(x1 x2:Nat)(fine:Bool)(st:RS):Bool :=
 if qQ b x1 x2 st=0 then false else decide (Fo b x1 x2 st=0) && I9 (w9 b (GG b x1 x2 fine st) (qQ b x1 x2 st) (Oo b x1 x2 st)) (GG b x1 x2 fine st-1)
def wY (b:C_)(x1 x2:Nat)(fine:Bool)(st:RS):RS :=
 if qQ b x1 x2 st=0 then xI b x1 x2 st else vE b (GG b x1 x2 fine st) (qQ b x1 x2 st) (Oo b x1 x2 st)
def iV (b:C_)(x1 x2:Nat)(fine:Bool):Nat->Bool->RS->Option (AA_×Bool×RS)
 |0,o,st=>some ([],o,st)
 |k+1,o,st=>if 12<qQ b x1 x2 st∧(xI b x1 x2 st).e=0 then none
  else match iV b x1 x2 fine k (o ||IK b x1 x2 fine st) (wY b x1 x2 fine st) with
   |none=>none
   |some q=>some (Ly b x1 x2 fine st::q.1,q.2)
def aut {b:C_}{x1 x2:Nat}{fine:Bool}{st:RS}(hb:b.length<=1000000000)(h:st.fit):(wY b x1 x2 fine st).fit:=by
 unfold wY;split
 .exact fN hb (fN hb h)
 .exact ZF hb (fN hb (fN hb (fN hb (fN hb h))))
def avM {b:C_}{st:RS}{s:Int}(h:sV b st s≠0):(sN b st s).e=0:=by
 unfold sV at h
 grind [sN,vO,eO]
abbrev SJ (y0 y3 y4:AV)(x1 x2:Nat):Obj:=.cells [y0,A_ x1,A_ x2,y3,y4]
def aaS {t:AA_}{f:ca}:eh (t++[f])=eh t++[[.int .i64 f.len,.int .i64 f.order,.bool f.down,.bool f.fine,.lst (aF f.coefs)]]:=by grind [eh]
def au9 (b:C_)(hb:b.length<=1000000000)(y0 y3 y4:AV)(x1 x2:Nat)(hx:x1<=6∧x2<=5)(x6:AV)(fine:Bool)(y32 y33:D)(many:Nat)(hm:many<=3):∀(k j N:Nat) (o:Bool) (st:RS) (acc:AA_),j+k=many->acc.length=j->st.fit->5<=N->
  ∃M,N<=M∧(Dn prog).code (.loop ib) ⟨[(6,x6),(7,.ptr 2 0),(8,.ptr 3 0),(10,Qz),(11,.ptr 4 0),(12,B_ o),(13,aD 5 (eh acc)),(15,B_ fine),(32,.d y32),(33,.d y33),(46,A_ many),(47,A_ j)],⟨HT b st [(4,SJ y0 y3 y4 x1 x2)],N⟩⟩ =
  match iV b x1 x2 fine k o st with
  |none=>some (.ret,⟨[(6,.nl),(7,.ptr 2 0),(8,.ptr 3 0)],⟨[(0,.cells [.d (.lst (ak b))]),(2,.cells [A_ 0]),(3,.cells [A_ 8])],M⟩⟩)
  |some (l,o2,st2)=>some (.exit 2,⟨[(6,x6),(7,.ptr 2 0),(8,.ptr 3 0),(10,Qz),(11,.ptr 4 0),(12,B_ o2),(13,aD 5 (eh (acc++l))),(32,.d y32),(33,.d y33)],⟨HT b st2 [(4,SJ y0 y3 y4 x1 x2)],M⟩⟩):=by
 intro k
 induction k with
 |zero =>
  intro j N o st acc h1 h2 h3 hN;refine⟨N,ai _,?_⟩;rw[ah sj,iV];simp only[be];simp(disch:=omega)[↓aa]
 |succ k ih =>
  intro j N o st acc h1 h2 h3 hN;obtain⟨n0,n2,n3,n4⟩:N≠0∧N≠2∧N≠3∧N≠4:=o_;have f1:=fN (s:=x1) hb h3;have f2:=fN (s:=x2) hb f1;have f3:=fN (s:=1) hb f2;have f4:=fN (s:=1) hb f3;have g1:=λR N=>Db b x1 st R N hb h3
  have g2:=λR N=>Db b x2 (sN b st x1) R N hb f1
  have g3:=λR N=>Db b 1 (sN b (sN b st x1) x2) R N hb f2
  have g4:=λR N=>Db b 1 (sN b (sN b (sN b st x1) x2) 1) R N hb f3
  have v1:=uL (b:=b) (st:=st) (s:=x1);have v2:=uL (b:=b) (st:=sN b st x1) (s:=x2);have v3:=uL (b:=b) (st:=sN b (sN b st x1) x2) (s:=1);have v4:=uL (b:=b) (st:=sN b (sN b (sN b st x1) x2) 1) (s:=1);have k1:2 ^ x1<=2 ^ 6:=aw o_ hx.1;have k2:2 ^ x2<=2 ^ 5:=aw o_ hx.2;have t1:(1:Int).toNat=1:=rfl;simp only[aq,t1]at v1 v2 v3 v4;have hO:qQ b x1 x2 st=sV b (sN b st x1) x2:=rfl;have hS:xI b x1 x2 st=sN b (sN b st x1) x2:=rfl;have c1:((j+1:Nat):Int)=(j:Int)+1:=rfl;have hla:=aqa (l:=acc);rw[iV,hO,hS];simp only[HT]at g1 g2 g3 g4;by_cases hbad:12<sV b (sN b st x1) x2∧(sN b (sN b st x1) x2).e=0
  .rw[ac hbad];obtain⟨hb1,hb2⟩:=hbad;have hre:re (sN b (sN b st x1) x2)=0:=hb2;refine⟨N+1,o_,?_⟩;simp only[HT];rw[ah sj];simp(disch:=omega)[↓ac,↓aa,g1,g2,hre]
  .rw[aa hbad];by_cases hO0:sV b (sN b st x1) x2=0
   .have eF:Ly b x1 x2 fine st=⟨sV b st x1,0,false,fine,[]⟩:=by grind [Ly]
    have eX:IK b x1 x2 fine st=false:=by grind [IK]
    have eN:wY b x1 x2 fine st=sN b (sN b st x1) x2:=by grind [wY]
    rw[eF,eX,eN,ql];obtain⟨M,hM,h5⟩:=ih (j+1) (N+1) o (sN b (sN b st x1) x2) (acc++[⟨sV b st x1,0,false,fine,[]⟩]) o_ u_ f2 o_;refine⟨M,o_,?_⟩;have key:(Dn prog).code (.loop ib) ⟨[(6,x6),(7,.ptr 2 0),(8,.ptr 3 0),(10,Qz),(11,.ptr 4 0),(12,B_ o),(13,aD 5 (eh acc)),(15,B_ fine),(32,.d y32),(33,.d y33),(46,A_ many),(47,A_ j)],⟨HT b st [(4,SJ y0 y3 y4 x1 x2)],N⟩⟩ =
      (Dn prog).code (.loop ib) ⟨[(6,x6),(7,.ptr 2 0),(8,.ptr 3 0),(10,Qz),(11,.ptr 4 0),(12,B_ o),(13,aD 5 (eh (acc++[⟨sV b st x1,0,false,fine,[]⟩]))),(15,B_ fine),(32,.d y32),(33,.d y33),(46,A_ many),(47,A_ ((j+1:Nat):Int))],⟨HT b (sN b (sN b st x1) x2) [(4,SJ y0 y3 y4 x1 x2)],N+1⟩⟩:=by
     have n00:aF []=[]:=rfl;simp only[HT,c1,aaS,mY,n00];clear h5 ih;rw[ah sj];simp(disch:=omega)[↓ac,↓aa,g1,g2,hO0]
    grind
   .have he:(sN b (sN b st x1) x2).e=0:=avM hO0;have hO12:sV b (sN b st x1) x2<=12:=by
     omega
    have hre:re (sN b (sN b st x1) x2)=0:=he;have hw4:3<=fq fine∧fq fine<=4:=by grind [fq]
    have hwide:bq prog CT [B_ fine]=some (A_ ((fq fine:Nat):Int)):=by grind [Ib,fq]
    obtain⟨W,hW⟩:∃W,W=sV b (sN b (sN b (sN b st x1) x2) 1) 1:=⟨_,rfl⟩
    obtain⟨Dd,hDd⟩:∃Dd,Dd=sV b (sN b (sN b st x1) x2) 1:=⟨_,rfl⟩
    obtain⟨T4,hT4⟩:∃T4,T4=sN b (sN b (sN b (sN b st x1) x2) 1) 1:=⟨_,rfl⟩
    obtain⟨sz,hsz⟩:∃sz,sz=fq fine-W:=⟨_,rfl⟩
    rw[<-hW]at v4 g4;rw[<-hDd]at v3 g3;rw[<-hT4]at g4 f4;have c00:((0:Nat):Int)=0:=rfl;simp only[hre,c00]at g3;have hszI:((fq fine:Nat):Int)-(W:Int)=(sz:Int):=o_;have hsz1:(sz:Int)-1=((sz-1:Nat):Int):=o_;have hne:qQ b x1 x2 st≠0:=o_;have eF:Ly b x1 x2 fine st=⟨sV b st x1,sV b (sN b st x1) x2,decide (Dd=1),fine,w9 b sz (sV b (sN b st x1) x2) T4⟩:=by
     grind [Ly,GG,Fo,Oo,flD]
    have eX:IK b x1 x2 fine st=(decide (W=0) && I9 (w9 b sz (sV b (sN b st x1) x2) T4) (sz-1)):=by
     grind [IK,GG,Fo,Oo]
    have eN:wY b x1 x2 fine st=vE b sz (sV b (sN b st x1) x2) T4:=by
     grind [wY,GG,Fo,Oo]
    have f5:(vE b sz (sV b (sN b st x1) x2) T4).fit:=ZF hb f4;have hcl:=YF (b:=b) (sz:=sz) (k:=sV b (sN b st x1) x2) (st:=T4);have hL0:=λa0 a2 y46 y47 N M hN=>atc b hb (SJ y0 y3 y4 x1 x2) a0 (A_ (sV b (sN b st x1) x2)) a2 (B_ fine) x6 (aD 5 (eh acc)) (.bool o) (.bool fine) y32 y33 y46 y47 W sz (sV b (sN b st x1) x2) N M o_ o_ hN (sV b (sN b st x1) x2) 0 T4 [] o_ rfl f4
    have n00:aF []=[]:=rfl;have c0:((0:Nat):Int)=0:=rfl;simp only[n00,pD,aO,c0,HT]at hL0;have hDec:decide ((Dd:Int)=1)=decide (Dd=1):=d_;rw[eF,eX,eN];generalize sV b (sN b st x1) x2=O at *;obtain⟨CS,hCS⟩:∃CS,CS=w9 b sz O T4:=⟨_,rfl⟩
    rw[<-hCS]at hL0 hcl;rw[<-hCS];obtain⟨M,hM,h5⟩:=ih (j+1) (N+1) (o ||(decide (W=0) && I9 CS (sz-1))) (vE b sz O T4) (acc++[⟨sV b st x1,O,decide (Dd=1),fine,CS⟩]) o_ u_ f5 o_;refine⟨M,o_,?_⟩;have hshare:share (aD 1 (aF CS))=.d (.lst (aF CS)):=by
     cases CS with
     |nil=>grind
     |cons x r=>rfl
    have key:(Dn prog).code (.loop ib) ⟨[(6,x6),(7,.ptr 2 0),(8,.ptr 3 0),(10,Qz),(11,.ptr 4 0),(12,B_ o),(13,aD 5 (eh acc)),(15,B_ fine),(32,.d y32),(33,.d y33),(46,A_ many),(47,A_ j)],⟨HT b st [(4,SJ y0 y3 y4 x1 x2)],N⟩⟩ =
      (Dn prog).code (.loop ib) ⟨[(6,x6),(7,.ptr 2 0),(8,.ptr 3 0),(10,Qz),(11,.ptr 4 0),(12,B_ ((o ||(decide (W=0) && I9 CS (sz-1))))),(13,aD 5 (eh (acc++[⟨sV b st x1,O,decide (Dd=1),fine,CS⟩]))),(15,B_ fine),(32,.d y32),(33,.d y33),(46,A_ many),(47,A_ ((j+1:Nat):Int))],⟨HT b (vE b sz O T4) [(4,SJ y0 y3 y4 x1 x2)],N+1⟩⟩:=by
     simp only[HT,c1,aaS,mY];clear h5 ih;have hfit:=Jt CS o_ (sz-1) o_;have hfit2:bq prog EA [.d (.lst (aF CS)),A_ ((sz-1:Nat):Int)]=some (B_ (I9 CS (sz-1))):=hfit;rw[ah sj];obtain⟨B1,hB1⟩:∃B1,B1=decide (Dd=1):=⟨_,rfl⟩
     rw[<-hB1]
     cases o with
     |true =>
      by_cases hD1:Dd=1
      .rw[hB1,decide_eq_true hD1];simp(disch:=omega)[↓ac,↓aa,g1,g2,g3,g4,hre,hwide,hszI,hL0]
      .rw[hB1,decide_eq_false hD1];simp(disch:=omega)[↓ac,↓aa,g1,g2,g3,g4,hre,hwide,hszI,hL0]
     |false =>
      by_cases hW0:W=0
      .rw[decide_eq_true hW0];by_cases hD1:Dd=1
       .rw[hB1,decide_eq_true hD1];simp(disch:=omega)[↓ac,↓aa,g1,g2,g3,g4,hre,hwide,hszI,hL0,hshare,hsz1,hfit2]
       .rw[hB1,decide_eq_false hD1];simp(disch:=omega)[↓ac,↓aa,g1,g2,g3,g4,hre,hwide,hszI,hL0,hshare,hsz1,hfit2]
      .rw[decide_eq_false hW0];by_cases hD1:Dd=1
       .rw[hB1,decide_eq_true hD1];simp(disch:=omega)[↓ac,↓aa,g1,g2,g3,g4,hre,hwide,hszI,hL0]
       .rw[hB1,decide_eq_false hD1];simp(disch:=omega)[↓ac,↓aa,g1,g2,g3,g4,hre,hwide,hszI,hL0]
    grind
abbrev mF:=@Bool.true_and
def Qw (b:C_)(x0:Nat)(st:RS):Bool:=decide (0<sV b st x0) && decide (sV b (sN b st x0) 1=1)
def BL (b:C_)(x0:Nat)(st:RS):RS:=if 0<sV b st x0 then sN b (sN b st x0) 1 else sN b st x0
def ov (b:C_)(x0 x1 x2:Nat):Nat->Bool->RS->Option (O_×Bool×RS)
 |0,o,st=>some ([],o,st)
 |k+1,o,st=>match iV b x1 x2 (Qw b x0 st) (sV b st x0) o (BL b x0 st) with
  |none=>none
  |some q=>match ov b x0 x1 x2 k q.2.1 q.2.2 with
   |none=>none
   |some w=>some (q.1::w.1,w.2)
def akh {t:O_}{l:AA_}:cX (t++[l])=cX t++[[.lst (eh l)]]:=by simp[cX]
def ajd {b:C_}{x0:Nat}{st:RS}(hb:b.length<=1000000000)(h:st.fit):(BL b x0 st).fit:=by
 unfold BL;split
 .exact fN hb (fN hb h)
 .exact fN hb h
def UO {b:C_}{x1 x2:Nat}{fine:Bool}(hb:b.length<=1000000000):∀{k:Nat}{o:Bool}{st:RS}{l:AA_}{o2:Bool}{st2:RS},st.fit->iV b x1 x2 fine k o st=some (l,o2,st2)->st2.fit∧l.length=k
 |0,o,st,l,o2,st2,h,e=>by
  rw[iV]at e;injection e with e
  injection e with e1 e
  injection e with e2 e3
  subst e1 e3;exact⟨h,rfl⟩
 |k+1,o,st,l,o2,st2,h,e=>by
  rw[iV]at e;split at e
  .exact absurd e (by simp)
  .cases hq:iV b x1 x2 fine k (o ||IK b x1 x2 fine st) (wY b x1 x2 fine st) with
   |none=>rw[hq]at e;exact absurd e (by simp)
   |some q =>
    obtain⟨q1,q2,q3⟩:=q;rw[hq]at e;injection e with e;injection e with e1 e
    injection e with e2 e3
    obtain⟨i1,i2⟩:=UO hb (aut hb h) hq;subst e1 e3;exact⟨i1,by simp[i2]⟩
def atn (b:C_)(hb:b.length<=1000000000)(y3 y4:AV)(x0 x1 x2:Nat)(hx:x0<=2∧x1<=6∧x2<=5)(many:Nat)(hm:many<=8):∀(k j N:Nat) (o:Bool) (st:RS) (acc:O_),j+k=many->acc.length=j->st.fit->5<=N->
  ∃M,N<=M∧(Dn prog).code (.loop kJ) ⟨[(6,aD 1 (cX acc)),(7,.ptr 2 0),(8,.ptr 3 0),(10,Qz),(11,.ptr 4 0),(12,B_ o),(32,A_ many),(33,A_ j)],⟨HT b st [(4,SJ (A_ x0) y3 y4 x1 x2)],N⟩⟩ =
  match ov b x0 x1 x2 k o st with
  |none=>some (.ret,⟨[(6,.nl),(7,.ptr 2 0),(8,.ptr 3 0)],⟨[(0,.cells [.d (.lst (ak b))]),(2,.cells [A_ 0]),(3,.cells [A_ 8])],M⟩⟩)
  |some (t,o2,st2)=>some (.exit 0,⟨[(6,aD 1 (cX (acc++t))),(7,.ptr 2 0),(8,.ptr 3 0),(12,B_ o2)],⟨HT b st2 [],M⟩⟩):=by
 intro k
 induction k with
 |zero =>
  intro j N o st acc h1 h2 h3 hN;refine⟨N,ai _,?_⟩;rw[ah yN,ov];simp only[be];simp(maxSteps:=300000) (disch:=omega)[↓ac,↓aa]
 |succ k ih =>
  intro j N o st acc h1 h2 h3 hN;have f1:=fN (s:=x0) hb h3;have g1:=λR N=>Db b x0 st R N hb h3
  have g2:=λR N=>Db b 1 (sN b st x0) R N hb f1
  have v1:=uL (b:=b) (st:=st) (s:=x0);have v2:=uL (b:=b) (st:=sN b st x0) (s:=1);have k1:2 ^ x0<=2 ^ 2:=aw o_ hx.1;have t1:(1:Int).toNat=1:=rfl;simp only[aq,t1]at v1 v2;have c1:((j+1:Nat):Int)=(j:Int)+1:=rfl;have c0:((0:Nat):Int)=0:=rfl;have n00:eh []=[]:=rfl;have hla:=aaY (t:=acc);have hfs:=ajd (x0:=x0) hb h3;obtain⟨M1,hM1,hL1⟩:=au9 b hb (A_ x0) y3 y4 x1 x2 hx.2 (aD 1 (cX acc)) (Qw b x0 st) (.int .i64 many) (.int .i64 j) (sV b st x0) o_ (sV b st x0) 0 N o (BL b x0 st) [] o_ rfl hfs hN;have hF:Qw b x0 st=(decide (0<sV b st x0) && decide (sV b (sN b st x0) 1=1)):=rfl;have hS:BL b x0 st=if 0<sV b st x0 then sN b (sN b st x0) 1 else sN b st x0:=rfl
  rw[ov];simp only[HT,c0,n00,pD,aO]at g1 g2 hL1
  cases hfl:iV b x1 x2 (Qw b x0 st) (sV b st x0) o (BL b x0 st) with
  |none =>
   rw[hfl]at hL1;refine⟨M1,hM1,?_⟩;simp only[HT];rw[ah yN];rw[hF,hS]at hL1;by_cases hp:0<sV b st x0
   .rw[ac hp,decide_eq_true hp,mF]at hL1;by_cases hd:sV b (sN b st x0) 1=1
    .rw[decide_eq_true hd]at hL1;simp(maxSteps:=300000) (disch:=omega)[↓ac,↓aa,g1,g2,hL1]
    .rw[decide_eq_false hd]at hL1;simp(maxSteps:=300000) (disch:=omega)[↓ac,↓aa,g1,g2,hL1]
   .have h0:sV b st x0=0:=o_;rw[aa hp,decide_eq_false hp,Bool.false_and,h0,c0]at hL1;simp(maxSteps:=300000) (disch:=omega)[↓ac,↓aa,g1,g2,h0,hL1]
  |some q =>
   obtain⟨l,o2,st2⟩:=q;rw[hfl]at hL1;obtain⟨i1,i2⟩:=UO hb hfs hfl;obtain⟨M,hM,h5⟩:=ih (j+1) M1 o2 st2 (acc++[l]) o_ g_ i1 o_;refine⟨M,o_,?_⟩;have key:(Dn prog).code (.loop kJ) ⟨[(6,aD 1 (cX acc)),(7,.ptr 2 0),(8,.ptr 3 0),(10,Qz),(11,.ptr 4 0),(12,B_ o),(32,A_ many),(33,A_ j)],⟨HT b st [(4,SJ (A_ x0) y3 y4 x1 x2)],N⟩⟩ =
     (Dn prog).code (.loop kJ) ⟨[(6,aD 1 (cX (acc++[l]))),(7,.ptr 2 0),(8,.ptr 3 0),(10,Qz),(11,.ptr 4 0),(12,B_ o2),(32,A_ many),(33,A_ ((j+1:Nat):Int))],⟨HT b st2 [(4,SJ (A_ x0) y3 y4 x1 x2)],M1⟩⟩:=by
    simp only[HT,c1,akh,mY];clear h5 ih;rw[hF,hS]at hL1;rw[ah yN];by_cases hp:0<sV b st x0
    .rw[ac hp,decide_eq_true hp,mF]at hL1;by_cases hd:sV b (sN b st x0) 1=1
     .rw[decide_eq_true hd]at hL1;simp(maxSteps:=300000) (disch:=omega)[↓ac,↓aa,g1,g2,hL1]
     .rw[decide_eq_false hd]at hL1;simp(maxSteps:=300000) (disch:=omega)[↓ac,↓aa,g1,g2,hL1]
    .have h0:sV b st x0=0:=o_;rw[aa hp,decide_eq_false hp,Bool.false_and,h0,c0]at hL1;simp(maxSteps:=300000) (disch:=omega)[↓ac,↓aa,g1,g2,h0,hL1]
   rw[key,h5];simp only
   cases ov b x0 x1 x2 k o2 st2 with
   |none=>rfl
   |some w =>
    obtain⟨t,o3,st3⟩:=w;simp only[ay,aR,aO]
attribute [simp ↓ high] ara aui
def roC:AV->Bool
 |.d _=>true
 |.nl=>true
 |.own _ _ _=>true
 |_=>false
@[simp] def aFp {x:D}:roC (.d x)=true:=rfl
abbrev eg:=@List.eq_of_mem_replicate
def ad1:∀(b:C_),tO (ak b)=some (b.map Nat.toUInt8)
 |[]=>rfl
 |n::r=>by
  have h:ak (n::r)=[.int .u8 (.ofNat n)]::ak r:=rfl;rw[h,tO,ad1 r,b9]
@[simp] def alN {h:am}{b:C_}:PO h (.d (.lst (ak b)))=some (.str (b.map Nat.toUInt8)):=by
 simp only[PO,aoy,ad1]
def c0:cS:=⟨0,⟨0,0,0,[1]⟩,[[]],[[]],[[]],List.replicate 256 0⟩
def amB:c0.Fit where
 gain:=k_
 info:=⟨k_,k_,k_,k_,by intro n hn;simp[c0]at hn;subst hn;decide⟩
 sects:=⟨by simp[c0],by simp[c0]⟩
 secI:=by simp[c0]
 steps:=⟨by simp[c0],by simp[c0]⟩
 stepI:=by simp[c0]
 tns:=⟨by simp[c0],by simp[c0]⟩
 fltI:=by simp[c0]
 lines:=by simp[c0]
 lineI:=by
  intro n hn;have:=eg hn;omega
def aef:bq prog iS [A_ 0,.agg c0.av]=some (A_ 0):=zR 400 (by kernel_rfl)
def ags {r:Nat}{c:cS}(hc:c.Fit)(h:lL r c)(hR:r<=11)(q:Bool):(Dc r c q).length<=170000000:=by
 have hm11:=fG hR h.info;have hmx:=ig hm11;obtain⟨g1,g2⟩:=dp hm11;have hmm:c.info.many<=8:=by unfold aM.many;split<;>omega
 have hgl:c.info.groups.length<=8:=by have:=kO (λn hn=>(g1 n hn).1);omega
 have hgs:c.sects.length<=8:=by have:=h.sects.1;omega
 have k1:=I7 (i:=c.info);have k2:=aaI hm11 h.sects;have k3:=Pq hmx h.sects.2 h.steps;have k4:(jg c.info.short c.tns).length<=1000*c.tns.length:=GI λl hl=>Yq (h.tns.2 l hl)
 have k5:=WZ hc h hR;have htl:=h.tns.1;have e1:(if q then [] else jQ c.info).length<=20:=by split<;>(try simp only[bD])<;>omega
 have e2:(if nE c.tns then 0::1::(jg c.info.short c.tns++[0]) else [0,0,0]).length<=10000:=by split<;>simp<;>omega
 unfold Dc;simp only[al,dq];omega
abbrev cS.cells (c:cS):W_:=[.int .i64 c.gain,.int .u8 c.info.seq,.int .u8 c.info.shape,.int .i64 c.info.max,.lst (aF c.info.groups),.lst (bF c.sects),.lst (c7 c.steps),.lst (cX c.tns),.lst (aF c.lines)]
def dI (l:BA_):E_:=l.map cS.cells
@[simp] def Gq {l:BA_}:(dI l).length=l.length:=by simp[dI]
def Hf {g:BA_}{i:Nat}{c:cS}{r:BA_}(h:g.drop i=c::r):(dI g)[i]?=some [.int .i64 c.gain,.int .u8 c.info.seq,.int .u8 c.info.shape,.int .i64 c.info.max,.lst (aF c.info.groups),.lst (bF c.sects),.lst (c7 c.steps),.lst (cX c.tns),.lst (aF c.lines)]:=by
 have:=bl (λl=>l[0]?) h;simp only[bW,dR,bX]at this;rw[dI,bS,this];rfl
def an0 {g:BA_}{c:cS}:dI (g++[c])=dI g++[[.int .i64 c.gain,.int .u8 c.info.seq,.int .u8 c.info.shape,.int .i64 c.info.max,.lst (aF c.info.groups),.lst (bF c.sects),.lst (c7 c.steps),.lst (cX c.tns),.lst (aF c.lines)]]:=by simp[dI]
def gS (l:X_):E_:=l.map λb=>[.bool b]
@[simp] def wp {l:X_}:(gS l).length=l.length:=by simp[gS]
def atS {g:X_}{i:Nat}{c:Bool}{r:X_}(h:g.drop i=c::r):(gS g)[i]?=some [.bool c]:=by
 have:=bl (λl=>l[0]?) h;simp only[bW,dR,bX]at this;rw[gS,bS,this];rfl
@[simp] def aDm {l:X_}:fB 1 (gS l)=true:=RP
def auK {a b:X_}:gS (a++b)=gS a++gS b:=by simp[gS]
def dT (t:T_):E_:=t.map λl=>[.lst (gS l)]
@[simp] def L5 {t:T_}:(dT t).length=t.length:=by simp[dT]
def Hx {g:T_}{i:Nat}{l:X_}{r:T_}(h:g.drop i=l::r):(dT g)[i]?=some [.lst (gS l)]:=by
 have:=bl (λl=>l[0]?) h;simp only[bW,dR,bX]at this;rw[dT,bS,this];rfl
def anu {t:T_}{l:X_}:dT (t++[l])=dT t++[[.lst (gS l)]]:=by simp[dT]
structure kf where
 chans:BA_
 common:Bool
 mask:Int
 bands:T_
 fill:C_
structure kf.Fit (f:kf):Prop where
 chans:f.chans.length<=1000∧∀c∈f.chans,c.Fit
 mask:i64 f.mask
 bands:f.bands.length<=1000∧∀l∈f.bands,l.length<=1000
 fill:f.fill.length<=100000
 fillI:∀n∈f.fill,n<=255
abbrev kf.av (f:kf):D_:=[.d (.lst (dI f.chans)),B_ f.common,A_ f.mask,.d (.lst (dT f.bands)),.d (.lst (ak f.fill))]
structure axq (f:kf):Prop where
 chans:f.chans.length<=10∧∀c∈f.chans,asr c
 bands:f.bands.length<=40∧∀l∈f.bands,l.length<=200
 fill:f.fill.length<=2000
def xV (i j:aM):Prop:=(i.seq=j.seq∧i.shape=j.shape)∧i.max=j.max∧i.groups=j.groups
instance {i j:aM}:Decidable (xV i j):=inferInstanceAs (Decidable (_∧_))
def anV (i j:aM)(hi:i.Fit)(hj:j.Fit):bq prog SN [.agg i.cells,.agg j.cells]=some (B_ (decide (xV i j))):=by
 have he:=P8 i.groups j.groups (by have:=hi.len;omega) (by have:=hj.len;omega);simp only[aM.cells];rw[aU ahB agQ rfl];by_cases h1:i.seq=j.seq
 .by_cases h2:i.shape=j.shape
  .by_cases h3:i.max=j.max
   .by_cases h4:i.groups=j.groups
    .rw[ac h4]at he;rw[decide_eq_true (show xV i j from ⟨⟨h1,h2⟩,h3,h4⟩)];simp(maxSteps:=300000) (disch:=omega)[↓ac,↓aa,he]
    .rw[aa h4]at he;rw[decide_eq_false (λh:xV i j=>h4 h.2.2)];simp(maxSteps:=300000) (disch:=omega)[↓ac,↓aa,he]
   .rw[decide_eq_false (λh:xV i j=>h3 h.2.1)];simp(maxSteps:=300000) (disch:=omega)[↓ac,↓aa]
  .rw[decide_eq_false (λh:xV i j=>h2 h.1.2)];simp(maxSteps:=300000) (disch:=omega)[↓ac,↓aa]
 .rw[decide_eq_false (λh:xV i j=>h1 h.1.1)];simp(maxSteps:=300000) (disch:=omega)[↓ac,↓aa]
def JX (rt:Int)(c:cS):Bool:=match bq prog iS [A_ rt,.agg c.av] with
 |some (.d (.int _ n))=>n != 0
 |_=>true
def Ue (rt:Int)(hr:dP rt)(c:cS)(hc:c.Fit):∃n:Int,bq prog iS [A_ rt,.agg c.av]=some (A_ n)∧JX rt c=(n != 0)∧(JX rt c=false↔lL rt.toNat c):=by
 rcases Mo rt c hc with ⟨_,h,hC⟩|⟨_,h,hC⟩|⟨h,_⟩
 .refine⟨0,hC,by rw[JX,hC],?_⟩;rw[JX,hC];simp[h]
 .refine⟨8,hC,by rw[JX,hC],?_⟩;rw[JX,hC];simp[h]
 .exact absurd hr h
def auT (rt:Int)(hr:dP rt)(a1 a2 a3:AV)(c:cS)(hc:c.Fit)(H:am)(M:Nat)(hp:get H 0=some (.cells [A_ rt,a1,a2,a3]))(hM:Lt H M) :
  (Dn prog).call Ez [.agg c.av,.ptr 0 0] ⟨H,M⟩=some (B_ (JX rt c),⟨H,M+1⟩):=by
 have e1:=λo=>tR (o:=o) hM
 have e2:=λo=>wC (o:=o) hM
 have e3:=λo=>zh (N:=M) (o:=o) hp
 have e5:=λo=>Lo (o:=o) hM
 have e6:=λo o'=>Gb (o:=o) (o':=o') hM
 obtain⟨n,hC,hB,_⟩:=Ue rt hr c hc;rw[hB];simp only[cS.av]at hC⊢;rw[ba ace abN rfl];by_cases hn:n=0
 .subst hn;simp(maxSteps:=300000) (disch:=omega)[↓ac,↓aa,e1,e2,e3,e5,e6,hC]
 .simp(maxSteps:=300000) (disch:=omega)[↓ac,↓aa,e1,e2,e3,e5,e6,hC,hn]
def Zw (F:AV)(P:cS->Bool)(l:BA_)(hl:l.length<=1000000000)(h:am)(N0:Nat)(hF:firm (share F)=F)(hc:∀f∈l,∀N,N0<=N->b7 (Dn prog) F [.agg f.av] ⟨h,N⟩=some (B_ (P f),⟨h,N+1⟩)):∀(r:BA_) (i N:Nat),l.drop i=r->N0<=N->
  (r.any P=true∧∃k M:Nat,N<=M∧(Dn prog).code (.loop fM) ⟨[(0,.d (.lst (dI l))),(1,F),(7,A_ l.length),(8,A_ i)],⟨h,N⟩⟩=some (.ret,⟨[(4,A_ k)],⟨h,M⟩⟩))∨
  (r.any P=false∧∃M,N<=M∧(Dn prog).code (.loop fM) ⟨[(0,.d (.lst (dI l))),(1,F),(7,A_ l.length),(8,A_ i)],⟨h,N⟩⟩=some (.exit 0,⟨[],⟨h,M⟩⟩)):=by
 intro r
 induction r with
 |nil =>
  intro i N hd hN;have hi:=bQ hd;refine .inr ⟨rfl,N,ai _,?_⟩;rw[ah iI];simp(maxSteps:=300000) (disch:=omega)[↓aa]
 |cons v r ih =>
  intro i N hd hN;have hg:=Hf hd;have hlt:=cm hd;have hv:=hc v (by rw[<-aT i l,hd];simp) N hN;have h5:=ih (i+1) (N+1) (bE hd) o_;have c1:((i+1:Nat):Int)=(i:Int)+1:=rfl;rw[c1]at h5
  cases hp:P v with
  |true =>
   rw[hp]at hv;refine .inl ⟨by rw[eG,hp];rfl,i,N+1,o_,?_⟩;rw[ah iI];simp(maxSteps:=300000) (disch:=omega)[↓ac,↓aa,hg,hF,hv]
  |false =>
   rw[hp]at hv;rw[eG,hp,mH];rcases h5 with ⟨e1,k,M,e3,e2⟩|⟨e1,M,e3,e2⟩
   .refine .inl ⟨e1,k,M,o_,?_⟩;rw[ah iI,<-e2];simp(maxSteps:=300000) (disch:=omega)[↓ac,↓aa,hg,hF,hv]
   .refine .inr ⟨e1,M,o_,?_⟩;rw[ah iI,<-e2];simp(maxSteps:=300000) (disch:=omega)[↓ac,↓aa,hg,hF,hv]
def ZO (F:AV)(P:cS->Bool)(l:BA_)(hl:l.length<=1000000000)(h:am)(N:Nat)(hF:firm (share F)=F)(hF2:firm F=F)(hc:∀f∈l,∀M,N<=M->b7 (Dn prog) F [.agg f.av] ⟨h,M⟩=some (B_ (P f),⟨h,M+1⟩)) :
  ∃M,N<=M∧(Dn prog).call rW [.d (.lst (dI l)),F] ⟨h,N⟩=some (B_ (l.any P),⟨h,M⟩):=by
 have h1:=Zw F P l hl h N hF hc l 0 N rfl (ai _);have c0:((0:Nat):Int)=0:=rfl;rw[c0]at h1;have h2:∃(k:Int) (M:Nat),N<=M∧(0<=k↔l.any P=true)∧(Dn prog).call vU [.d (.lst (dI l)),F] ⟨h,N⟩=some (A_ k,⟨h,M⟩):=by
  rcases h1 with ⟨e1,k,M,e3,e2⟩|⟨e1,M,e3,e2⟩
  .refine⟨k,M,e3,⟨λ_=>e1,λ_=>by omega⟩,?_⟩;rw[ba vd vZ rfl];simp(maxSteps:=300000) (disch:=omega)[e2]
  .refine⟨-1,M,e3,⟨λh=>by omega,λh=>by rw[e1]at h;exact absurd h s_⟩,?_⟩;rw[ba vd vZ rfl];simp(maxSteps:=300000) (disch:=omega)[e2]
 obtain⟨k,M,e3,e1,e2⟩:=h2;refine⟨M,e3,?_⟩;rw[ba D4 DR rfl]
 cases hp:l.any P with
 |true =>
  have:=e1.2 hp;simp(maxSteps:=300000) (disch:=omega)[↓ac,hF2,e2]
 |false =>
  have:¬0<=k:=λh=>by rw[e1.1 h]at hp;exact absurd hp (by simp)
  simp(maxSteps:=300000) (disch:=omega)[↓aa,hF2,e2]
def YK (F:AV)(P:(X_)->Bool)(l:T_)(hl:l.length<=1000000000)(h:am)(N0:Nat)(hF:firm (share F)=F)(hc:∀f∈l,∀N,N0<=N->b7 (Dn prog) F [.d (.lst (gS f))] ⟨h,N⟩=some (B_ (P f),⟨h,N⟩)):∀(r:T_) (i N:Nat),l.drop i=r->N0<=N->
  (r.any P=true∧∃k M:Nat,N<=M∧(Dn prog).code (.loop fF) ⟨[(0,.d (.lst (dT l))),(1,F),(7,A_ l.length),(8,A_ i)],⟨h,N⟩⟩=some (.ret,⟨[(4,A_ k)],⟨h,M⟩⟩))∨
  (r.any P=false∧∃M,N<=M∧(Dn prog).code (.loop fF) ⟨[(0,.d (.lst (dT l))),(1,F),(7,A_ l.length),(8,A_ i)],⟨h,N⟩⟩=some (.exit 0,⟨[],⟨h,M⟩⟩)):=by
 intro r
 induction r with
 |nil =>
  intro i N hd hN;have hi:=bQ hd;refine .inr ⟨rfl,N,ai _,?_⟩;rw[ah iA];simp(maxSteps:=300000) (disch:=omega)[↓aa]
 |cons v r ih =>
  intro i N hd hN;have hg:=Hx hd;have hlt:=cm hd;have hv:=hc v (by rw[<-aT i l,hd];simp) N hN;have h5:=ih (i+1) N (bE hd) o_;have c1:((i+1:Nat):Int)=(i:Int)+1:=rfl;rw[c1]at h5
  cases hp:P v with
  |true =>
   rw[hp]at hv;refine .inl ⟨by rw[eG,hp];rfl,i,N,o_,?_⟩;rw[ah iA];simp(maxSteps:=300000) (disch:=omega)[↓ac,↓aa,hg,hF,hv]
  |false =>
   rw[hp]at hv;rw[eG,hp,mH];rcases h5 with ⟨e1,k,M,e3,e2⟩|⟨e1,M,e3,e2⟩
   .refine .inl ⟨e1,k,M,o_,?_⟩;rw[ah iA,<-e2];simp(maxSteps:=300000) (disch:=omega)[↓ac,↓aa,hg,hF,hv]
   .refine .inr ⟨e1,M,o_,?_⟩;rw[ah iA,<-e2];simp(maxSteps:=300000) (disch:=omega)[↓ac,↓aa,hg,hF,hv]
def Z6 (F:AV)(P:(X_)->Bool)(l:T_)(hl:l.length<=1000000000)(h:am)(N:Nat)(hF:firm (share F)=F)(hF2:firm F=F)(hc:∀f∈l,∀M,N<=M->b7 (Dn prog) F [.d (.lst (gS f))] ⟨h,M⟩=some (B_ (P f),⟨h,M⟩)) :
  ∃M,N<=M∧(Dn prog).call qR [.d (.lst (dT l)),F] ⟨h,N⟩=some (B_ (l.any P),⟨h,M⟩):=by
 have h1:=YK F P l hl h N hF hc l 0 N rfl (ai _);have c0:((0:Nat):Int)=0:=rfl;rw[c0]at h1;have h2:∃(k:Int) (M:Nat),N<=M∧(0<=k↔l.any P=true)∧(Dn prog).call uR [.d (.lst (dT l)),F] ⟨h,N⟩=some (A_ k,⟨h,M⟩):=by
  rcases h1 with ⟨e1,k,M,e3,e2⟩|⟨e1,M,e3,e2⟩
  .refine⟨k,M,e3,⟨λ_=>e1,λ_=>by omega⟩,?_⟩;rw[ba uM uv rfl];simp(maxSteps:=300000) (disch:=omega)[e2]
  .refine⟨-1,M,e3,⟨λh=>by omega,λh=>by rw[e1]at h;exact absurd h s_⟩,?_⟩;rw[ba uM uv rfl];simp(maxSteps:=300000) (disch:=omega)[e2]
 obtain⟨k,M,e3,e1,e2⟩:=h2;refine⟨M,e3,?_⟩;rw[ba CK BZ rfl]
 cases hp:l.any P with
 |true =>
  have:=e1.2 hp;simp(maxSteps:=300000) (disch:=omega)[↓ac,hF2,e2]
 |false =>
  have:¬0<=k:=λh=>by rw[e1.1 h]at hp;exact absurd hp (by simp)
  simp(maxSteps:=300000) (disch:=omega)[↓aa,hF2,e2]
def ato (i:aM)(l:X_)(hl:l.length<=1000000)(H:am)(K N:Nat)(hp:get H K=some (.cells i.cells)):(Dn prog).call EQ [.d (.lst (gS l)),.ptr K 0] ⟨H,N⟩=some (B_ ((decide ((l.length:Int)≠i.max))),⟨H,N⟩):=by
 have hb:=wp (l:=l);rw[ba abX aci rfl];by_cases h:(l.length:Int)=i.max
 .simp(maxSteps:=300000) (disch:=omega)[hp,h]
 .simp(maxSteps:=300000) (disch:=omega)[hp,h]
abbrev lY:=@List.any_eq_false
def ke (x:AV)(l:E_):Prop:=x=.d (.lst l)∨x=.nl∧l=[]
theorem ke.d {l:E_}:ke (.d (.lst l)) l:=.inl rfl
def ke.facts {x:AV}{l:E_}(h:ke x l):(share x=x∧firm x=x∧AV.cells x=[x])∧bu x=true∧lenOf x=some l.length:=by
 rcases h with rfl|⟨rfl,rfl⟩<;>exact⟨⟨rfl,rfl,rfl⟩,rfl,rfl⟩
def ke.ne {x:AV}{l:E_}(h:ke x l)(hl:l≠[]):x=.d (.lst l):=by
 rcases h with h|⟨_,h⟩
 .exact h
 .exact absurd h hl
def E6 (f:kf):BA_->Prop
 |[]=>False
 |c::r=>if f.common then (∃d∈r.head?,xV c.info d.info)∧(if f.mask=1 then f.bands.length=c.info.groups.length∧∀l∈f.bands,(l.length:Int)=c.info.max else f.bands=[]) else f.mask=0∧f.bands=[]
structure xe (rt:Nat)(n:Int)(f:kf):Prop where
 len:(f.chans.length:Int)=n
 fill:f.fill.length<=269
 mask:0<=f.mask∧f.mask<=2
 may:∀c∈f.chans,lL rt c
 rest:E6 f f.chans
abbrev kh (rt n:Int)(b:Bool)(z:Int):AV:=.agg [A_ rt,A_ n,B_ b,A_ z]
abbrev AN (f:kf)(X Y Z:AV):AV:=.agg [X,B_ f.common,A_ f.mask,Y,Z]
def anJ (rt n:Int)(cb:Bool)(cz:Int)(hr:dP rt)(hn:n=1∨n=2)(f:kf)(hf:f.Fit)(X Y Z:AV)(hX:ke X (dI f.chans))(hY:ke Y (dT f.bands))(hZ:ke Z (ak f.fill)) :
  (xe rt.toNat n f∧bq prog Ki [kh rt n cb cz,AN f X Y Z]=some (B_ true))∨(¬xe rt.toNat n f∧bq prog Ki [kh rt n cb cz,AN f X Y Z]=some (B_ false)):=by
 obtain⟨⟨x1,x2,x3⟩,x4,x5⟩:=hX.facts;obtain⟨⟨y1,y2,y3⟩,y4,y5⟩:=hY.facts;obtain⟨⟨z1,z2,z3⟩,z4,z5⟩:=hZ.facts;have xl:=Gq (l:=f.chans);have yl:=L5 (t:=f.bands);have zl:=cP (l:=f.fill);have hcl:=hf.chans.1;have hbl:=hf.bands.1;have hfl:=hf.fill;rw[aU ag7 aho rfl];by_cases h1:(f.chans.length:Int)=n
 rotate_left
 .refine .inr ⟨λh=>h1 h.len,?_⟩;simp(maxSteps:=300000) (disch:=omega)[↓ac,↓aa,-bu,x1,x2,x3,x4,x5,y1,y2,y3,y4,y5,z1,z2,z3,z4,z5]
 by_cases h2:f.fill.length<=269
 rotate_left
 .refine .inr ⟨λh=>h2 h.fill,?_⟩;simp(maxSteps:=300000) (disch:=omega)[↓ac,↓aa,-bu,x1,x2,x3,x4,x5,y1,y2,y3,y4,y5,z1,z2,z3,z4,z5]
 by_cases h3:0<=f.mask
 rotate_left
 .refine .inr ⟨λh=>h3 h.mask.1,?_⟩;simp(maxSteps:=300000) (disch:=omega)[↓ac,↓aa,-bu,x1,x2,x3,x4,x5,y1,y2,y3,y4,y5,z1,z2,z3,z4,z5]
 by_cases h4:f.mask<=2
 rotate_left
 .refine .inr ⟨λh=>h4 h.mask.2,?_⟩;simp(maxSteps:=300000) (disch:=omega)[↓ac,↓aa,-bu,x1,x2,x3,x4,x5,y1,y2,y3,y4,y5,z1,z2,z3,z4,z5]
 have hne:dI f.chans≠[]:=λh=>by have:=bl List.length h;rw[Gq,bD]at this;omega
 have hxe:=hX.ne hne;subst hxe;obtain⟨M,hM,e1⟩:=ZO (.fn Ez [] [.ptr 0 0]) (JX rt) f.chans o_ [(0,.cells [A_ rt,A_ n,B_ cb,A_ cz]),(1,.cells [.d (.lst (dI f.chans)),B_ f.common,A_ f.mask,Y,Z])] 2 rfl rfl λc hc M hM=>by
  have:=auT rt hr (A_ n) (B_ cb) (A_ cz) c (hf.chans.2 c hc) [(0,.cells [A_ rt,A_ n,B_ cb,A_ cz]),(1,.cells [.d (.lst (dI f.chans)),B_ f.common,A_ f.mask,Y,Z])] M s_ (by
   intro p hp;simp only[aB,cU,fC]at hp;rcases hp with rfl|rfl<;>simp only[]<;>omega)
  simpa using this
 have hbad:f.chans.any (JX rt)=false↔∀c∈f.chans,lL rt.toNat c:=by
  rw[lY];constructor
  .intro h c hc;obtain⟨_,_,_,hb⟩:=Ue rt hr c (hf.chans.2 c hc);exact hb.1 (by simpa using h c hc)
  .intro h c hc;obtain⟨_,_,_,hb⟩:=Ue rt hr c (hf.chans.2 c hc);rw[hb.2 (h c hc)];simp
 cases hB:f.chans.any (JX rt) with
 |true =>
  rw[hB]at e1;refine .inr ⟨λh=>by rw[hbad.2 h.may]at hB;exact absurd hB s_,?_⟩;simp(maxSteps:=300000) (disch:=omega)[↓ac,↓aa,-bu,x5,y1,y2,y3,y4,y5,z1,z2,z3,z4,z5,e1]
 |false =>
  rw[hB]at e1;have hmay:=hbad.1 hB
  cases hch:f.chans with
  |nil=>rw[hch]at h1;simp at h1;omega
  |cons c r =>
   have hdr:f.chans.drop 0=c::r:=hch;obtain⟨k0,g0⟩:=aH.1 (Hf hdr);have hci:=(hf.chans.2 c (by rw[hch];exact .head _)).info;have hfin:xe rt.toNat n f↔E6 f (c::r):=⟨λh=>by rw[<-hch];exact h.rest,λh=>⟨h1,h2,⟨h3,h4⟩,hmay,by rw[hch];exact h⟩⟩
   rw[<-hch]
   cases hcm:f.common with
   |false =>
    have hT:E6 f (c::r)↔f.mask=0∧f.bands=[]:=by simp only[E6,hcm,ao,bf]
    rw[hcm]at e1;by_cases h5:f.mask=0
    .by_cases h6:f.bands.length=0
     .refine .inl ⟨hfin.2 (hT.2 ⟨h5,az h6⟩),?_⟩;simp(maxSteps:=300000) (disch:=omega)[↓ac,↓aa,-bu,hcm,x5,y1,y2,y3,y4,y5,z1,z2,z3,z4,z5,e1,g0]
     .refine .inr ⟨λh=>h6 (by rw[(hT.1 (hfin.1 h)).2];rfl),?_⟩;simp(maxSteps:=300000) (disch:=omega)[↓ac,↓aa,-bu,hcm,x5,y1,y2,y3,y4,y5,z1,z2,z3,z4,z5,e1,g0]
    .refine .inr ⟨λh=>h5 (hT.1 (hfin.1 h)).1,?_⟩;simp(maxSteps:=300000) (disch:=omega)[↓ac,↓aa,-bu,hcm,x5,y1,y2,y3,y4,y5,z1,z2,z3,z4,z5,e1,g0]
   |true =>
    rw[hcm]at e1;have hT:E6 f (c::r)↔(∃d∈r.head?,xV c.info d.info)∧(if f.mask=1 then f.bands.length=c.info.groups.length∧∀l∈f.bands,(l.length:Int)=c.info.max else f.bands=[]):=by simp only[E6,hcm,bc]
    rcases hn with rfl|rfl
    .have hr0:r=[]:=az (by rw[hch]at h1;simp only[ar]at h1;omega);refine .inr ⟨λh=>?_,?_⟩
     .obtain⟨⟨d,hd,_⟩,_⟩:=hT.1 (hfin.1 h);rw[hr0]at hd;simp at hd
     .simp(maxSteps:=300000) (disch:=omega)[↓ac,↓aa,-bu,hcm,x5,y1,y2,y3,y4,y5,z1,z2,z3,z4,z5,e1,g0]
    .cases r with
     |nil=>rw[hch]at h1;simp at h1
     |cons d r2 =>
      obtain⟨k1,g1⟩:=aH.1 (Hf (bE hdr));have hsm:=anV c.info d.info hci (hf.chans.2 d (by rw[hch];exact .tail _ (.head _))).info;simp only[aM.cells]at hsm;have hm0:=hmay c (by rw[hch];exact .head _);obtain⟨q1,q2⟩:=dp (fG (r:=rt.toNat) o_ hm0.info);have hmm:1<=c.info.many:=by unfold aM.many;split<;>omega
      have hgn:c.info.groups.length≠0:=λh=>by rw[az h]at q2;simp at q2;omega
      have hgi:=gQ (l:=c.info.groups);have hg8:c.info.groups.length<=1000:=hci.len;by_cases hs:xV c.info d.info
      rotate_left
      .rw[decide_eq_false hs]at hsm;refine .inr ⟨λh=>?_,?_⟩
       .obtain⟨⟨d',hd',hss⟩,_⟩:=hT.1 (hfin.1 h);simp only[List.head?_cons,Option.mem_def,ae]at hd';subst hd';exact hs hss
       .simp(maxSteps:=300000) (disch:=omega)[↓ac,↓aa,-bu,hcm,x5,y1,y2,y3,y4,y5,z1,z2,z3,z4,z5,e1,g0,g1,hsm]
      rw[decide_eq_true hs]at hsm;have hhd:∃d'∈(d::r2).head?,xV c.info d'.info:=⟨d,s_,hs⟩
      by_cases h5:f.mask=1
      rotate_left
      .rw[aa h5]at hT;by_cases h6:f.bands.length=0
       .refine .inl ⟨hfin.2 (hT.2 ⟨hhd,az h6⟩),?_⟩;simp(maxSteps:=300000) (disch:=omega)[↓ac,↓aa,-bu,hcm,x5,y1,y2,y3,y4,y5,z1,z2,z3,z4,z5,e1,g0,g1,hsm]
       .refine .inr ⟨λh=>h6 (by rw[(hT.1 (hfin.1 h)).2];rfl),?_⟩;simp(maxSteps:=300000) (disch:=omega)[↓ac,↓aa,-bu,hcm,x5,y1,y2,y3,y4,y5,z1,z2,z3,z4,z5,e1,g0,g1,hsm]
      rw[ac h5]at hT;by_cases h6:f.bands.length=c.info.groups.length
      rotate_left
      .refine .inr ⟨λh=>h6 (hT.1 (hfin.1 h)).2.1,?_⟩;simp(maxSteps:=300000) (disch:=omega)[↓ac,↓aa,-bu,hcm,x5,y1,y2,y3,y4,y5,z1,z2,z3,z4,z5,e1,g0,g1,hsm]
      have hye:=hY.ne λh=>by have:=bl List.length h;rw[L5,bD]at this;omega
      subst hye;obtain⟨M2,hM2,e2⟩:=Z6 (.fn EQ [] [.ptr M 0]) (λl=>decide ((l.length:Int)≠c.info.max)) f.bands o_ [(0,.cells [A_ rt,A_ 2,B_ cb,A_ cz]),(1,.cells [.d (.lst (dI f.chans)),B_ true,A_ f.mask,.d (.lst (dT f.bands)),Z]),(M,.cells c.info.cells)] (M+1) rfl rfl λl hl N hN=>by
       have:=ato c.info l (by have:=hf.bands.2 l hl;omega) [(0,.cells [A_ rt,A_ 2,B_ cb,A_ cz]),(1,.cells [.d (.lst (dI f.chans)),B_ true,A_ f.mask,.d (.lst (dT f.bands)),Z]),(M,.cells c.info.cells)] M N (by
        obtain⟨m0,m1⟩:M≠0∧M≠1:=o_;simp(maxSteps:=300000) (disch:=omega)[↓ac,↓aa])
       simpa using this
      simp only[aM.cells]at e2
      cases hB2:f.bands.any (λl=>decide ((l.length:Int)≠c.info.max)) with
      |true =>
       rw[hB2]at e2;refine .inr ⟨λh=>?_,?_⟩
       .obtain⟨l,hl,hx⟩:=List.any_eq_true.1 hB2;exact of_decide_eq_true hx ((hT.1 (hfin.1 h)).2.2 l hl)
       .simp(maxSteps:=300000) (disch:=omega)[↓ac,↓aa,-bu,hcm,x5,y5,z1,z2,z3,z4,z5,e1,g0,g1,hsm,e2]
      |false =>
       rw[hB2]at e2;refine .inl ⟨hfin.2 (hT.2 ⟨hhd,h6,λl hl=>?_⟩),?_⟩
       .have:=lY.1 hB2 l hl;simpa using this
       .simp(maxSteps:=300000) (disch:=omega)[↓ac,↓aa,-bu,hcm,x5,y5,z1,z2,z3,z4,z5,e1,g0,g1,hsm,e2]
def apu {l:X_}:∀x∈gS l,∀y∈x,kZ y=true:=by
 intro x hx y hy;simp only[gS,dh]at hx;obtain⟨b,_,rfl⟩:=hx;simp only[aB,cU,fC]at hy;subst hy;rfl
def XZ (xs:T_)(hx:xs.length<=1000)(h:am)(N:Nat):∀(r:T_) (i:Nat) (n:Nat),xs.drop i=r->n+r.flatten.length<=1000000000->
  (Dn prog).code (.loop jM) ⟨[(0,.d (.lst (dT xs))),(3,A_ n),(9,.d (.lst (dT xs))),(10,A_ xs.length),(11,A_ i)],⟨h,N⟩⟩ =
  some (.exit 0,⟨[(0,.d (.lst (dT xs))),(3,A_ (n+r.flatten.length:Nat))],⟨h,N⟩⟩):=by
 intro r
 induction r with
 |nil =>
  intro i n hd hn;have hi:=bQ hd;rw[ah nC];simp(maxSteps:=300000) (disch:=omega)[↓aa]
 |cons l r ih =>
  intro i n hd hn;have hg:=Hx hd;have hlt:=cm hd;simp only[dj,al]at hn⊢;have h5:=ih (i+1) (n+l.length) (bE hd) o_;have c1:((i+1:Nat):Int)=(i:Int)+1:=rfl;have c2:((n+l.length:Nat):Int)=(n:Int)+l.length:=rfl;rw[c1,c2,dr]at h5;rw[ah nC,<-h5];simp(maxSteps:=300000) (disch:=omega)[↓ac,↓aa,hg,wp]
def akR (xs:T_)(hx:xs.length<=1000)(h:am)(N:Nat):∀(r:T_) (i:Nat) (acc:X_),xs.drop i=r->acc.length+r.flatten.length<=1000000000->
  (Dn prog).code (.loop gL) ⟨[(6,.own false 1 (gS acc)),(25,.d (.lst (dT xs))),(26,A_ xs.length),(27,A_ i)],⟨h,N⟩⟩ =
  some (.exit 2,⟨[(6,.own false 1 (gS (acc++r.flatten)))],⟨h,N⟩⟩):=by
 intro r
 induction r with
 |nil =>
  intro i acc hd hn;have hi:=bQ hd;rw[ah fD];simp(maxSteps:=300000) (disch:=omega)[↓aa]
 |cons l r ih =>
  intro i acc hd hn;have hg:=Hx hd;have hlt:=cm hd;simp only[dj,al]at hn⊢;have h5:=ih (i+1) (acc++l) (bE hd) (by simp only[al];omega);have c1:((i+1:Nat):Int)=(i:Int)+1:=rfl;rw[c1,ay]at h5;rw[ah fD,<-h5];simp(maxSteps:=300000) (disch:=omega)[↓ac,↓aa,hg,wp,auK]
def apd (n:Nat)(hn:0<n∧n<=1000000000):(Dn prog).call uh [.nl,A_ n] ⟨[],0⟩=some (.sl 0 0 0,⟨[(0,.arr 1 (List.replicate n [.bool false]))],1⟩):=by
 have e1:dM (A_ n) aW=some n:=by rw[wD o_ (by simp only[aW];omega)];simp
 have e2:FN [.bool false] [] .nl (A_ n)=some (.own true 1 (List.replicate n [.bool false]),[]):=by
  unfold FN;rw[e1];obtain⟨m,rfl⟩:∃m,n=m+1:=⟨n-1,o_⟩
  simp(maxSteps:=300000) (disch:=omega)[cx,↓ac]
 have e0:dM (A_ 0) n=some 0:=wD o_ o_;have e3:pU [] 1 .nl none (some (.int .i64 0)) none=some .nl:=rfl;have e4:pU [(0,.arr 1 (List.replicate n [D.bool false]))] 1 (.sl 0 0 n) none (some (.int .i64 0)) none=some (.sl 0 0 0):=by
  simp[pU,okSl,tU,lenOf,vF,e0,uN]
 rw[ba BN BO rfl];simp(maxSteps:=300000) (disch:=omega)[↓ac,↓aa,YT,e2,e3,e4]
def ap6 (xs:T_)(hx:xs.length<=1000)(hn:0<xs.flatten.length∧xs.flatten.length<=1000000000):bq prog rJ [.d (.lst (dT xs))]=some (.own true 1 (gS xs.flatten)):=by
 have h0:=XZ xs hx [] 0 xs 0 0 rfl o_;have h2:=apd xs.flatten.length hn;have c0:((0:Nat):Int)=0:=rfl;rw[br,c0]at h0;have hne:xs≠[]:=by intro h;subst h;simp at hn
 obtain⟨l,r,e⟩:=cY hne;have h1:=akR xs hx [] 1 r 1 l (by rw[e];rfl) (by rw[e]at hn;simpa using hn.2);have hg:=Hx (g:=xs) (i:=0) (l:=l) (r:=r) (by rw[e];rfl);have hlt:0<xs.length:=bH.2 hne;have e5:l++r.flatten=xs.flatten:=by rw[e];rfl
 rw[e5]at h1;have hll:l.length<=1000000000:=by rw[<-e5,al]at hn;omega
 clear e5 e;generalize xs.flatten=F at *;have c1:((1:Nat):Int)=1:=rfl;rw[c1]at h1;rw[aU zV zo rfl];simp(maxSteps:=300000) (disch:=omega)[↓ac,↓aa,h0,h2];rw[ah fD];simp(maxSteps:=300000) (disch:=omega)[↓ac,↓aa,hg,wp,h1];exact apu
def aie (xs:T_)(hx:xs.length<=1000)(h:am)(N:Nat):∀(r:T_) (i:Nat),xs.drop i=r->(∀l∈r,l=[])->
  (Dn prog).code (.loop gL) ⟨[(6,.nl),(25,.d (.lst (dT xs))),(26,A_ xs.length),(27,A_ i)],⟨h,N⟩⟩ =
  some (.exit 2,⟨[(6,.nl)],⟨h,N⟩⟩):=by
 intro r
 induction r with
 |nil =>
  intro i hd hn;have hi:=bQ hd;rw[ah fD];simp(maxSteps:=300000) (disch:=omega)[↓aa]
 |cons l r ih =>
  intro i hd hn;have hl:=hn l (.head _);subst hl;have hg:=Hx hd;have hlt:=cm hd;have h5:=ih (i+1) (bE hd) λq hq=>hn q (.tail _ hq)
  have c1:((i+1:Nat):Int)=(i:Int)+1:=rfl;have n0:gS []=[]:=rfl;rw[c1]at h5;rw[n0]at hg;rw[ah fD,<-h5];simp(maxSteps:=300000) (disch:=omega)[↓ac,↓aa,hg]
def Rp:(Dn prog).call uh [.nl,A_ 0] ⟨[],0⟩=some (.nl,⟨[],0⟩):=by
 rw[ba BN BO rfl];simp(maxSteps:=300000) (disch:=omega)[↓ac,↓aa,YT]
def au4 (xs:T_)(hx:xs.length<=1000)(hn:xs.flatten.length<=1000000000)(X:AV)(hX:ke X (dT xs)):∃v,bq prog rJ [X]=some v∧firm v=aD 1 (gS xs.flatten):=by
 by_cases h:0<xs.flatten.length
 .have hne:dT xs≠[]:=λh2=>by
   have:=bl List.length h2;rw[L5,bD]at this;rw[az this]at h;simp at h
  refine⟨.own true 1 (gS xs.flatten),by rw[hX.ne hne];exact ap6 xs hx ⟨h,hn⟩,?_⟩;rw[kN]
  .rfl
  .intro h2;have:=bl List.length h2;rw[wp,bD]at this;omega
 .have h0:xs.flatten=[]:=az o_;have hz:∀l∈xs,l=[]:=λl hl=>List.flatten_eq_nil_iff.1 h0 l hl
  refine⟨.nl,?_,by rw[h0];rfl⟩;rw[aU zV zo rfl];rcases hX with rfl|⟨rfl,hX⟩
  .have e0:=XZ xs hx [] 0 xs 0 0 rfl o_;have e1:=aie xs hx [] 0 xs 0 rfl hz;have c0:((0:Nat):Int)=0:=rfl;rw[br,c0,h0,bD,c0]at e0;rw[c0]at e1;simp(maxSteps:=300000) (disch:=omega)[↓ac,↓aa,e0,e1,Rp]
  .simp(maxSteps:=300000) (disch:=omega)[↓ac,↓aa,Rp];rw[ah nC];simp(maxSteps:=300000) (disch:=omega)[↓ac,↓aa,Rp];rw[ah fD];simp(maxSteps:=300000) (disch:=omega)[↓ac,↓aa,Rp]
def dV (l:C_):C_:=l.flatMap λn=>au n 8
def mb:∀{l:C_},(dV l).length=8*l.length
 |[]=>rfl
 |n::r=>by have:=mb (l:=r);rw[dV]at this⊢;rw[aG,al,dq,ar];omega
abbrev aAZ (l:C_)(i:Int)(N:Nat):aV:=[(4,.ptr 0 0),(15,.d (.lst (ak l))),(16,A_ l.length),(17,A_ i),(23,.fn oL [] [.ptr (N+1) 0,.ptr N 0])]
abbrev hp8 (l:C_)(i n:Int)(N:Nat)(b:C_):am:=[(0,.cells [.own false 1 (ak b)]),(N,.cells [A_ n]),(N+1,.cells [A_ 8]),(N+2,.loop (aAZ l i N) [24] sW sE false none)]
def aBN (l:C_)(i n:Int)(N:Nat)(hN:1<=N)(b:C_)(x:Nat)(hb:b.length<=800000000) :
  b7 (Dn prog) (.yield (N+2)) [.d (.int .u8 (x:Int))] ⟨hp8 l i n N b,N+2+1⟩=some (B_ true,⟨hp8 l i n N (b++[x]),N+2+1⟩):=by
 have hl:=cP (l:=b);have n1:N≠0∧N+1≠0∧N+2≠0:=o_;simp(maxSteps:=300000) (disch:=omega)[Uf,Uh,↓ac,↓aa]
def awX (n k:Int)(c:Obj)(N:Nat)(hN:1<=N):(Dn prog).call JK [A_ n,A_ k] ⟨[(0,c)],N⟩=some (.fn oL [] [.ptr (N+1) 0,.ptr N 0],⟨[(0,c),(N,.cells [A_ n]),(N+1,.cells [A_ k])],N+1+1⟩):=by
 rw[ba S5 Tm rfl];simp(maxSteps:=300000) (disch:=omega)[↓ac,↓aa]
def ajQ {z:W_}{n:Int}(h:0<=n∧n<=1000000000):Eh z (A_ 0) (A_ n)=some (.own true z.length []):=by
 obtain⟨n,rfl⟩:=aA h.1;have h1:dM (A_ (n:Int)) aW=some n:=by rw[wD o_ (by simp only[aW];omega)];simp
 have h2:dM (A_ 0) n=some 0:=wD o_ o_;simp only[Eh,h1,h2];rfl
def aov (l:C_)(hl:l.length<=100000)(hl2:∀n∈l,n<=255):∀(r:C_) (i N:Nat) (b:C_),l.drop i=r->b.length<=8*i->1<=N->
  ∃M,(Dn prog).code (.loop sM) ⟨[(4,.ptr 0 0),(15,.d (.lst (ak l))),(16,A_ l.length),(17,A_ i)],⟨[(0,.cells [.own false 1 (ak b)])],N⟩⟩ =
  some (.exit 0,⟨[(4,.ptr 0 0)],⟨[(0,.cells [.own false 1 (ak (b++dV r))])],M⟩⟩):=by
 intro r
 induction r with
 |nil =>
  intro i N b hd hb hN;have hi:=bQ hd;refine⟨N,?_⟩;rw[ah yG];simp(maxSteps:=300000) (disch:=omega)[↓ac,↓aa,dV]
 |cons n r ih =>
  intro i N b hd hb hN;have hlt:=cm hd;have hn:=hl2 n (gO (by rw[hd];exact .head _));have hg:(ak l)[i]?=some [.int .u8 n]:=by
   have:=bl (λl=>l[0]?) hd;simp only[bW,bX,dR]at this;rw[ak,bS,this];rfl
  have h1:=amt (hp:=hp8 l i n N) (l:=N+2) (p:=N) (q:=N+1) (N:=N+2+1) (st:=λs x=>s++[x]) (di:=λk s=>s.length+k<=800000000) (λk s x h=>by simp only[al,ar,bD];omega) n 8 o_ (by omega)
   (λs=>by simp(maxSteps:=300000) (disch:=omega)[↓aa,↓ac]) (λs=>by simp(maxSteps:=300000) (disch:=omega)[↓aa,↓ac]) (λk s x h _=>aBN l i n N hN s x o_) b (by omega)
  rw[afb]at h1;obtain⟨M,h5⟩:=ih (i+1) (N+2+1) (b++au n 8) (bE hd) g_ o_;refine⟨M,?_⟩;have c1:((i+1:Nat):Int)=(i:Int)+1:=rfl;have e:b++dV (n::r)=b++au n 8++dV r:=by rw[dV,aG,ay];rfl
  rw[c1]at h5;have n1:N≠0∧N+1≠0∧N+2≠0:=o_;rw[ah yG,e,<-h5];simp(maxSteps:=300000) (disch:=omega)[↓ac,↓aa,hg,n1,rd,awX,h1]
def S6 (l:C_)(hl:l.length<=100000)(hl2:∀n∈l,n<=255)(X:AV)(hX:ke X (ak l)):bq prog ET [X]=some (.tup [.own true 1 (ak (dV l)),A_ 0]):=by
 have hl3:=cP (l:=l);have n0:ak []=[]:=rfl;have c0:((0:Nat):Int)=0:=rfl;obtain⟨M,h⟩:=aov l hl hl2 l 0 1 [] rfl s_ (ai _);rw[c0,n0,aO]at h;rw[aU acV acS rfl];rcases hX with rfl|⟨rfl,hX⟩
 .simp(maxSteps:=300000) (disch:=omega)[↓ac,↓aa,ajQ,h]
 .have:l=[]:=az (by rw[hX]at hl3;simpa using hl3.symm);subst this;simp(maxSteps:=300000) (disch:=omega)[↓ac,↓aa,ajQ];rw[ah yG];simp(maxSteps:=300000) (disch:=omega)[↓ac,↓aa,dV];rfl
def acz {hp:AV->am}{p N:Nat}(H:Hv hp p){x:AV}{b:C_}(hx:inB x b)(hb:b.length<=900000000)(n s:Int)(ho:qt n s)(hn:i64 n) :
  (Dn prog).call fe [A_ n,A_ s,.ptr p 0] ⟨hp x,N⟩=some (.tup [],⟨hp (.own false 1 (ak (b++au n.toNat s.toNat))),N⟩):=by
 have h1:=λx hx=>mp b n s hb hn x hx
 simp only[ac ho]at h1;rw[ba WR W6 rfl];rcases hx with rfl|rfl|⟨rfl,rfl⟩
 .have h2:=h1 _ (.inl rfl);simp(maxSteps:=300000) (disch:=omega)[H.get,H.put,h2]
 .have h2:=h1 _ (.inl rfl);simp(maxSteps:=300000) (disch:=omega)[H.get,H.put,h2]
 .have h2:=h1 _ (.inr ⟨rfl,rfl⟩);simp(maxSteps:=300000) (disch:=omega)[H.get,H.put,h2]
def Gm {hp:AV->am}{p N:Nat}(H:Hv hp p){x:AV}{b:C_}(hx:inB x b)(hb:b.length<=900000000)(n s:Nat)(hs:s<=31)(ho:n<2 ^ s)(nI sI:Int)(en:nI=n)(es:sI=s) :
  (Dn prog).call fe [A_ nI,A_ sI,.ptr p 0] ⟨hp x,N⟩=some (.tup [],⟨hp (.own false 1 (ak (b++au n s))),N⟩):=by
 subst en es;have h31:2 ^ s<=2 ^ 31:=aw o_ hs;exact acz H hx hb n s (by simp only[qt,aq];omega) (by omega)
def ai5 (b:Bool):bq prog abE [B_ b]=some (A_ (cond b 1 0:Nat)):=by
 rw[aU an5 anD rfl]
 cases b<;>simp(maxSteps:=300000) (disch:=omega)
abbrev Vz (C F:D_)(v:AV):am:=[(0,.cells C),(1,.cells F),(2,.cells [v])]
def avl (C F:D_):Hv (Vz C F) 2:=⟨λv=>by simp,λv w=>by simp⟩
def si (l:X_):C_:=l.flatMap λb=>au (cond b 1 0) 1
def Qx:∀{l:X_},(si l).length=l.length
 |[]=>rfl
 |n::r=>by have:=Qx (l:=r);rw[si]at this⊢;rw[aG,al,dq,ar];omega
def al2 (C F:D_)(l:X_)(hl:l.length<=1000000)(N:Nat):∀(r:X_) (i:Nat) (b:C_),l.drop i=r->b.length+r.length<=900000000->
  (Dn prog).code (.loop sq) ⟨[(2,.ptr 0 0),(3,.ptr 1 0),(4,.ptr 2 0),(5,.fn fe [] [.ptr 2 0]),(45,aD 1 (gS l)),(46,A_ l.length),(47,A_ i)],⟨Vz C F (.own false 1 (ak b)),N⟩⟩ =
  some (.exit 1,⟨[(2,.ptr 0 0),(3,.ptr 1 0),(4,.ptr 2 0),(5,.fn fe [] [.ptr 2 0])],⟨Vz C F (.own false 1 (ak (b++si r))),N⟩⟩):=by
 intro r
 induction r with
 |nil =>
  intro i b hd hb;have hi:=bQ hd;rw[ah GQ];simp(maxSteps:=300000) (disch:=omega)[↓aa,si]
 |cons x r ih =>
  intro i b hd hb;simp only[ar]at hb;have hg:=atS hd;have hlt:=cm hd;have hne:gS l≠[]:=λh=>by have:=bl List.length h;rw[wp,bD]at this;omega
  have hc:(cond x 1 0:Nat)<=1:=by cases x<;>decide
  have h1:=Gm (avl C F) (N:=N) (jq (b:=b)) o_ (cond x 1 0) 1 k_ o_ (cond x 1 0:Nat) 1 rfl rfl;have h2:=ai5 x;have h5:=ih (i+1) (b++au (cond x 1 0) 1) (bE hd) g_;have c1:((i+1:Nat):Int)=(i:Int)+1:=rfl;rw[c1,ay,kN hne]at h5;have e:si (x::r)=au (cond x 1 0) 1++si r:=rfl;simp only[Vz]at h1 h5⊢;rw[ah GQ,e,<-h5,kN hne];generalize ((cond x 1 0:Nat):Int)=K at *;simp(maxSteps:=300000) (disch:=omega)[↓ac,↓aa,hg,h1,h2]
def gz (rt:Nat)(q:Bool)(l:BA_):C_:=l.flatMap λc=>Dc rt c q
def L9 {rt:Nat}{q:Bool}(hR:rt<=11):∀{l:BA_},(∀c∈l,c.Fit∧lL rt c)->(gz rt q l).length<=170000000*l.length
 |[],_=>by simp[gz]
 |c::r,h=>by
  have a:=ags (h c (.head _)).1 (h c (.head _)).2 hR q;have b:=L9 hR (l:=r) (q:=q) λx hx=>h x (.tail _ hx)
  rw[gz]at b⊢;rw[aG,al,ar];omega
def akY (R:Nat)(hR:R<=11)(n:Int)(c2 c3:AV)(f:kf)(A:AV)(m:Int)(Y Z:AV)(l:BA_)(hl:l.length<=2)(hc:∀c∈l,c.Fit∧lL R c):∀(r:BA_) (i N:Nat) (b:C_),l.drop i=r->b.length<=1000+170000000*i->3<=N->
  ∃M,(Dn prog).code (.loop r9) ⟨[(2,.ptr 0 0),(3,.ptr 1 0),(4,.ptr 2 0),(5,.fn fe [] [.ptr 2 0]),(63,.d (.lst (dI l))),(64,A_ l.length),(65,A_ i)],⟨Vz [A_ R,A_ n,c2,c3] [A,B_ f.common,A_ m,Y,Z] (.own false 1 (ak b)),N⟩⟩ =
  some (.exit 3,⟨[(3,.ptr 1 0),(4,.ptr 2 0),(5,.fn fe [] [.ptr 2 0])],⟨[(1,.cells [A,B_ f.common,A_ m,Y,Z]),(2,.cells [.own false 1 (ak (b++gz R f.common r))])],M⟩⟩):=by
 intro r
 induction r with
 |nil =>
  intro i N b hd hb hN;have hi:=bQ hd;refine⟨N,?_⟩;rw[ah H7];simp(maxSteps:=300000) (disch:=omega)[↓aa,gz]
 |cons c r ih =>
  intro i N b hd hb hN;have hg:=Hf hd;have hlt:=cm hd;obtain⟨hcf,hcm⟩:=hc c (gO (by rw[hd];exact .head _));have hil:=ags hcf hcm hR f.common;have hp:bq prog DO [.d (.lst (ak b)),A_ R,.agg c.av,B_ f.common]=some (.tup [.own true 1 (ak (b++Dc R c f.common)),A_ 0]):=by
   rcases at6 b o_ _ (.inl rfl) R c hcf f.common with ⟨_,_,h⟩|⟨e,he,h,h2,_⟩
   .simpa using h
   .exact absurd hcm (by have:=h2 (by simp only[dP];omega);simpa using this)
  simp only[cS.av]at hp;obtain⟨M,h5⟩:=ih (i+1) (N+1) (b++Dc R c f.common) (bE hd) g_ o_;refine⟨M,?_⟩;have c1:((i+1:Nat):Int)=(i:Int)+1:=rfl;rw[c1,ay]at h5;have e:gz R f.common (c::r)=Dc R c f.common++gz R f.common r:=rfl;have n0:N≠0∧N≠1∧N≠2:=o_;simp only[Vz]at h5⊢;rw[ah H7,e,<-h5];generalize b++Dc R c f.common=B1 at *;simp(maxSteps:=300000) (disch:=omega)[↓ac,↓aa,hg,hp]
abbrev jP:=@Int.tmod_eq_emod_of_nonneg
def Yo (n:Nat):Nat:=(8-n % 8) % 8
def JF (b:C_):C_:=b++List.replicate (Yo b.length) 0
def lR (l:C_):C_:=if l=[] then [] else au 6 3++(au (min l.length 15) 4++((if 15<=l.length then au (l.length-14) 8 else [])++dV l))
def aBo:Hv (λv=>[(2,.cells [v])]) 2:=⟨λv=>by simp,λv w=>by simp⟩
def alB (F:D_):Hv (λv=>[(1,.cells F),(2,.cells [v])]) 2:=⟨λv=>by simp,λv w=>by simp⟩
def Qb {a b:C_}:ak (a++b)=ak a++ak b:=by simp[ak]
def aqr {h:am}{b:C_}(hb:b.length<=900000000)(k:Nat)(hk:k<=8)(K:Int)(hK:K=k):FN [.int .u8 0] h (.own false 1 (ak b)) (A_ K)=some (.own false 1 (ak (b++List.replicate k 0)),h):=by
 subst hK;have e1:dM (A_ k) aW=some k:=by rw[wD o_ (by simp only[aW];omega)];simp
 have e2:List.replicate k [D.int .u8 0]=ak (List.replicate k 0):=by simp[ak]
 have e3:(ak (List.replicate k 0)).length=k:=by rw[cP];simp
 have hl:=cP (l:=b);unfold FN;rw[e1];simp only[e2,Qb];generalize ak (List.replicate k 0)=Z at *;generalize ak b=B at *;simp(maxSteps:=300000) (disch:=omega);exact⟨o_,ac o_⟩
def agP (b:C_)(hb:b.length<=800000000)(N:Nat):(Dn prog).code (.seq qg (.seq qr .ret)) ⟨[(4,.ptr 2 0),(5,.fn fe [] [.ptr 2 0])],⟨[(2,.cells [.own false 1 (ak b)])],N⟩⟩ =
  some (.ret,⟨[(4,.ptr 2 0)],⟨[(2,.cells [.own false 1 (ak (JF (b++au 7 3)))])],N⟩⟩):=by
 have h1:=Gm aBo (N:=N) (jq (b:=b)) o_ 7 3 k_ k_ 7 3 rfl rfl;have hl:(ak (b++au 7 3)).length=b.length+3:=by rw[cP,al,dq]
 obtain⟨r,hr⟩:∃r,r=(b.length+3) % 8:=⟨_,rfl⟩
 have t1:((b.length:Int)+3).tmod 8=(r:Int):=by rw[jP o_];omega
 have t2:(8-(r:Int)).tmod 8=(((8-r) % 8:Nat):Int):=by rw[jP o_];omega
 have e:b++au 7 3++List.replicate ((8-r) % 8) 0=JF (b++au 7 3):=by rw[JF,Yo,al,dq,hr]
 have h2:=λh K hK=>aqr (h:=h) (b:=b++au 7 3) g_ ((8-r) % 8) o_ K hK
 rw[e]at h2;have h3:=λh=>h2 h _ t2
 generalize JF (b++au 7 3)=B2 at *;generalize b++au 7 3=B1 at *;simp(maxSteps:=300000) (disch:=omega)[↓ac,↓aa,h1,hl,t1,h3]
def afX (A0 A1 A2 A3 Z:AV)(l:C_)(hl:l.length<=269)(hl2:∀n∈l,n<=255)(hZ:ke Z (ak l))(b:C_)(hb:b.length<=700000000)(N:Nat)(T:VC) :
  (Dn prog).code (.seq (.seq qm
 (.seq qy
 (.cond (.m 84)
 (.seq qu
 (.seq qh
 (.seq (.seq qk
 (.cond (.m 92)
 qq
 (.seq (K [10]) .skip)))
 (.seq (.seq qn (F 3))
 qf))))
 (.seq (.seq (K [10]) (F 3)) .skip)))) T) ⟨[(3,.ptr 1 0),(4,.ptr 2 0),(5,.fn fe [] [.ptr 2 0])],⟨[(1,.cells [A0,A1,A2,A3,Z]),(2,.cells [.own false 1 (ak b)])],N⟩⟩ =
  (Dn prog).code T ⟨[(4,.ptr 2 0),(5,.fn fe [] [.ptr 2 0])],⟨[(2,.cells [.own false 1 (ak (b++lR l))])],N⟩⟩:=by
 obtain⟨⟨z1,z2,z3⟩,z4,z5⟩:=hZ.facts;have zl:=cP (l:=l);have hu:=S6 l o_ hl2 Z hZ;have ul:=mb (l:=l);have uz:=cP (l:=dV l);by_cases h0:l.length=0
 .have:l=[]:=az h0;rw[lR,ac this,be];simp(maxSteps:=300000) (disch:=omega)[↓ac,↓aa,-bu,z1,z2,z3,z4,z5]
 have hne:l≠[]:=λh=>h0 (by rw[h];rfl)
 have hze:=hZ.ne λh=>h0 (by rw[h]at zl;exact zl.symm)
 subst hze;rw[lR,aa hne];have p1:=Gm (alB [A0,A1,A2,A3,.d (.lst (ak l))]) (N:=N) (jq (b:=b)) o_ 6 3 k_ k_ 6 3 rfl rfl;have p2:=λnI h=>Gm (alB [A0,A1,A2,A3,.d (.lst (ak l))]) (N:=N) (jq (b:=b++au 6 3)) g_ (min l.length 15) 4 k_ o_ nI 4 h rfl
 by_cases h15:15<=l.length
 .have p3:=Gm (alB [A0,A1,A2,A3,.d (.lst (ak l))]) (N:=N) (jq (b:=b++au 6 3++au (min l.length 15) 4)) g_ (l.length-14) 8 k_ o_ ((l.length:Int)-14) 8 o_ rfl;rw[ac h15];simp only[<-ay];have hl3:(b++au 6 3++au (min l.length 15) 4++au (l.length-14) 8).length<=800000000:=by simp;omega
  have e:ak (b++au 6 3++au (min l.length 15) 4++au (l.length-14) 8)++ak (dV l)=ak (b++au 6 3++au (min l.length 15) 4++au (l.length-14) 8++dV l):=Qb.symm;generalize b++au 6 3++au (min l.length 15) 4++au (l.length-14) 8++dV l=B9 at *;generalize b++au 6 3++au (min l.length 15) 4++au (l.length-14) 8=B3 at *;generalize b++au 6 3++au (min l.length 15) 4=B2 at *;generalize b++au 6 3=B1 at *;generalize dV l=U at *;by_cases h16:15<l.length
  .have p2:=p2 15 o_;simp(maxSteps:=300000) (disch:=omega)[↓ac,↓aa,-bu,z1,z2,z3,z4,z5,p1,p2,p3,hu,e]
  .have p2:=p2 l.length o_;simp(maxSteps:=300000) (disch:=omega)[↓ac,↓aa,-bu,z1,z2,z3,z4,z5,p1,p2,p3,hu,e]
 .rw[aa h15,aO];simp only[<-ay];have hl3:(b++au 6 3++au (min l.length 15) 4).length<=800000000:=by simp;omega
  have e:ak (b++au 6 3++au (min l.length 15) 4)++ak (dV l)=ak (b++au 6 3++au (min l.length 15) 4++dV l):=Qb.symm;generalize b++au 6 3++au (min l.length 15) 4++dV l=B9 at *;generalize b++au 6 3++au (min l.length 15) 4=B2 at *;generalize b++au 6 3=B1 at *;generalize dV l=U at *;have p2:=p2 l.length o_;simp(maxSteps:=300000) (disch:=omega)[↓ac,↓aa,-bu,z1,z2,z3,z4,z5,p1,p2,hu,e]
def L4 (f:kf):C_:=match f.chans with
 |[]=>[]
 |c::_=>jQ c.info
def fT (n:Int)(f:kf):C_:=if n=1 then au 0 3++au 0 4 else if f.common then au 1 3++au 0 4++au 1 1++L4 f++au f.mask.toNat 2++si f.bands.flatten else au 1 3++au 0 4++au 0 1
def vW (R:Nat)(n:Int)(f:kf):C_:=JF (fT n f++gz R f.common f.chans++lR f.fill++au 7 3)
def aaH {k:Nat}:∀{l:T_},(∀x∈l,x.length<=k)->l.flatten.length<=k*l.length
 |[],_=>by simp
 |x::r,h=>by
  have a:=h x (.head _);have b:=aaH (l:=r) λy hy=>h y (.tail _ hy)
  rw[dj,al,ar,Nat.mul_add];omega
def aaJ {R:Nat}(hR:R<=11){n:Int}{f:kf}(ok:xe R n f):f.bands.flatten.length<=320:=by
 have h:=ok.rest
 cases hc:f.chans with
 |nil=>rw[hc]at h;exact h.elim
 |cons c r =>
  rw[hc]at h;have hm:=ok.may c (by rw[hc];exact .head _);have hmx:=ig (fG hR hm.info);obtain⟨g1,g2⟩:=dp (fG hR hm.info);have hmm:c.info.many<=8:=by unfold aM.many;split<;>omega
  have hgl:c.info.groups.length<=8:=by have:=kO (λn hn=>(g1 n hn).1);omega
  simp only[E6]at h;split at h
  .obtain⟨_,h⟩:=h;split at h
   .obtain⟨h1,h2⟩:=h;have:=aaH (k:=40) (l:=f.bands) λx hx=>by have:=h2 x hx;omega
    omega
   .rw[h];simp
  .rw[h.2];simp
def ke.view {x:AV}{l:E_}(h:ke x l):(∀hp,viewArg hp x=some x)∧sU x=false:=by
 rcases h with rfl|⟨rfl,rfl⟩<;>exact⟨λ_=>rfl,rfl⟩
def JL (R:Nat)(hR:R<=11)(n:Int)(hn:n=1∨n=2)(cb:Bool)(cz:Int)(f:kf)(hf:f.Fit)(ok:xe R n f)(X Y Z:AV)(hX:ke X (dI f.chans))(hY:ke Y (dT f.bands))(hZ:ke Z (ak f.fill)) :
  bq prog E9 [kh R n cb cz,AN f X Y Z]=some (.own true 1 (ak (vW R n f))):=by
 obtain⟨⟨y1,y2,y3⟩,y4,y5⟩:=hY.facts;obtain⟨⟨z1,z2,z3⟩,z4,z5⟩:=hZ.facts;have hlen:=ok.len;have hfl:=ok.fill;have hmk:=ok.mask;have hne:dI f.chans≠[]:=λh=>by have:=bl List.length h;rw[Gq,bD]at this;omega
 have hxe:=hX.ne hne;subst hxe;have hmay:∀c∈f.chans,c.Fit∧lL R c:=λc hc=>⟨hf.chans.2 c hc,ok.may c hc⟩
 have hcl:=L9 hR (q:=f.common) hmay;have hbl:=aaJ hR ok;have hr:dP R:=by simp only[dP];omega
 rw[aU acp ab5 rfl];obtain⟨T,hT⟩:∃T,T=(VC.seq (.seq qm
 (.seq qy
 (.cond (.m 84)
 (.seq qu
 (.seq qh
 (.seq (.seq qk
 (.cond (.m 92)
 qq
 (.seq (K [10]) .skip)))
 (.seq (.seq qn (F 3))
 qf))))
 (.seq (.seq (K [10]) (F 3)) .skip))))
 (.seq qg
 (.seq qr
 .ret))):=⟨_,rfl⟩
 rw[<-hT];have hfill:(lR f.fill).length<=10000:=by
  unfold lR;split
  .simp
  .simp only[al,dq,mb];split<;>simp<;>omega
 have hTr:∀(b:C_) (N:Nat),b.length<=600000000->(Dn prog).code T ⟨[(3,.ptr 1 0),(4,.ptr 2 0),(5,.fn fe [] [.ptr 2 0])],⟨[(1,.cells [.d (.lst (dI f.chans)),B_ f.common,A_ f.mask,Y,Z]),(2,.cells [.own false 1 (ak b)])],N⟩⟩=some (.ret,⟨[(4,.ptr 2 0)],⟨[(2,.cells [.own false 1 (ak (JF (b++lR f.fill++au 7 3)))])],N⟩⟩):=by
  intro b N hb;rw[hT,afX _ _ _ _ Z f.fill hfl hf.fillI hZ b o_ N _,agP _ (by rw[al];omega)]
 have hL:=fun(b:C_) (hb:b.length<=1000)=>akY R hR n (B_ cb) (A_ cz) f (.d (.lst (dI f.chans))) f.mask Y Z f.chans o_ hmay f.chans 0 3 b rfl o_ (ai _)
 have c0:((0:Nat):Int)=0:=rfl;simp only[c0,Vz]at hL;have pp:=λ{x:AV}{b:C_}(hx:inB x b) (hb:b.length<=1000)=>Gm (avl [A_ R,A_ n,B_ cb,A_ cz] [.d (.lst (dI f.chans)),B_ f.common,A_ f.mask,Y,Z]) (N:=3) hx (by omega)
 simp only[Vz]at pp;by_cases hn1:n=1
 .subst hn1;have q1:=pp (.inr (.inr ⟨rfl,rfl⟩)) s_ 0 3 k_ k_ 0 3 rfl rfl;have q2:=pp (jq (b:=[]++au 0 3)) s_ 0 4 k_ k_ 0 4 rfl rfl;have e:fT 1 f=[]++au 0 3++au 0 4:=by rw[fT,ac rfl];rfl
  obtain⟨M,h1⟩:=hL (fT 1 f) (by rw[e];simp);have h2:=hTr (fT 1 f++gz R f.common f.chans) M (by rw[al,e];simp;omega);have ew:JF (fT 1 f++gz R f.common f.chans++lR f.fill++au 7 3)=vW R 1 f:=rfl;rw[<-e]at q2;rw[ew]at h2;generalize vW R 1 f=W at *;generalize fT 1 f++gz R f.common f.chans=B2 at *;generalize fT 1 f=B1 at *;generalize []++au 0 3=B0 at *;simp(maxSteps:=300000) (disch:=omega)[↓ac,↓aa,-bu,y1,y2,y3,y4,y5,z1,z2,z3,z4,z5,q1,q2,h1,h2]
 have hn2:n=2:=o_;subst hn2
 cases hch:f.chans with
 |nil=>rw[hch]at hlen;simp at hlen
 |cons c r =>
 have hdr:f.chans.drop 0=c::r:=hch;obtain⟨k0,g0⟩:=aH.1 (Hf hdr);have hcm:=ok.may c (by rw[hch];exact .head _);rw[<-hch];have q1:=pp (.inr (.inr ⟨rfl,rfl⟩)) s_ 1 3 k_ k_ 1 3 rfl rfl;have q2:=pp (jq (b:=[]++au 1 3)) s_ 0 4 k_ k_ 0 4 rfl rfl;have hb1:=ai5 f.common;have xl:=Gq (l:=f.chans)
 cases hco:f.common with
 |false =>
  have q3:=pp (jq (b:=[]++au 1 3++au 0 4)) s_ 0 1 k_ k_ 0 1 rfl rfl;have e:fT 2 f=[]++au 1 3++au 0 4++au 0 1:=by rw[fT,aa k_,hco];rfl
  obtain⟨M,h1⟩:=hL (fT 2 f) (by rw[e];simp);have h2:=hTr (fT 2 f++gz R f.common f.chans) M (by rw[al,e];simp;omega);have ew:JF (fT 2 f++gz R f.common f.chans++lR f.fill++au 7 3)=vW R 2 f:=rfl;rw[<-e]at q3;rw[ew]at h2;rw[hco]at q1 q2 q3 h1 h2 hb1;generalize vW R 2 f=W at *;generalize fT 2 f++gz R false f.chans=B2 at *;generalize fT 2 f=B1 at *;generalize []++au 1 3++au 0 4=B00 at *;generalize []++au 1 3=B0 at *;simp only[cond]at hb1;simp(maxSteps:=300000) (disch:=omega)[↓ac,↓aa,-bu,y1,y2,y3,y4,y5,z1,z2,z3,z4,z5,hco,hb1,q1,q2,q3,h1,h2]
 |true =>
  have ht:=ok.rest;simp only[hch,E6,hco,bc]at ht;have hil:=I7 (i:=c.info);have q3:=pp (jq (b:=[]++au 1 3++au 0 4)) s_ 1 1 k_ k_ 1 1 rfl rfl;have q4:=af4 ([]++au 1 3++au 0 4++au 1 1) s_ _ (.inl rfl) R c.info (hf.chans.2 c (by rw[hch];exact .head _)).info;rw[ac hr,aq,ac hcm.info]at q4;have q5:=pp (jq (b:=[]++au 1 3++au 0 4++au 1 1++jQ c.info)) g_ f.mask.toNat 2 k_ o_ f.mask 2 o_ rfl;have q6:=al2 [A_ R,A_ 2,B_ cb,A_ cz] [.d (.lst (dI f.chans)),B_ true,A_ f.mask,Y,Z] f.bands.flatten o_ 3 f.bands.flatten 0 ([]++au 1 3++au 0 4++au 1 1++jQ c.info++au f.mask.toNat 2) rfl (by simp only[al,dq,bD];omega);obtain⟨v,v1,v2⟩:=au4 f.bands hf.bands.1 o_ Y hY;have e:fT 2 f=[]++au 1 3++au 0 4++au 1 1++jQ c.info++au f.mask.toNat 2++si f.bands.flatten:=by rw[fT,aa k_,hco,ac rfl,L4,hch];rfl
  have hml:=Qx (l:=f.bands.flatten);obtain⟨M,h1⟩:=hL (fT 2 f) (by rw[e];simp;omega);have h2:=hTr (fT 2 f++gz R f.common f.chans) M (by rw[al,e];simp;omega);have ew:JF (fT 2 f++gz R f.common f.chans++lR f.fill++au 7 3)=vW R 2 f:=rfl;rw[<-e]at q6;rw[ew]at h2;rw[hco]at q1 q2 q3 q5 h1 h2 hb1;rw[c0]at q6;simp only[Vz,aM.cells]at q4 q6;generalize vW R 2 f=W at *;generalize fT 2 f++gz R true f.chans=B2 at *;generalize fT 2 f=B1 at *;generalize []++au 1 3++au 0 4++au 1 1++jQ c.info++au f.mask.toNat 2=B04 at *;generalize []++au 1 3++au 0 4++au 1 1++jQ c.info=B03 at *;generalize []++au 1 3++au 0 4++au 1 1=B02 at *;generalize []++au 1 3++au 0 4=B01 at *;generalize []++au 1 3=B0 at *;obtain⟨vw1,vw2⟩:=hY.view;have hfv:lenOf (share (aD 1 (gS f.bands.flatten)))=some f.bands.flatten.length:=by
   rw[<-wp (l:=f.bands.flatten)]
   cases gS f.bands.flatten<;>rfl
  simp only[cond]at hb1;clear e hbl hml;generalize f.bands.flatten=FL at *;simp(maxSteps:=300000) (disch:=omega)[↓ac,↓aa,-bu,y1,y2,y3,y4,y5,z1,z2,z3,z4,z5,hco,g0,hb1,q1,q2,q3,q4,q5,q6,vw1,vw2,v1,v2,hfv,h1,h2]
def Ax (rt n:Int):Prop:=dP rt∧(n=1∨n=2)
def VB (rt n:Int)(cb:Bool)(cz:Int):(Ax rt n∧bq prog Ha [kh rt n cb cz]=some (B_ true))∨(¬Ax rt n∧bq prog Ha [kh rt n cb cz]=some (B_ false)):=by
 rw[aU agv adG rfl];by_cases h1:0<=rt
 rotate_left
 .refine .inr ⟨λh=>h1 h.1.1,?_⟩;simp(maxSteps:=300000) (disch:=omega)[↓ac,↓aa]
 by_cases h2:rt<=11
 rotate_left
 .refine .inr ⟨λh=>h2 h.1.2,?_⟩;simp(maxSteps:=300000) (disch:=omega)[↓ac,↓aa]
 by_cases h3:n=1
 .refine .inl ⟨⟨⟨h1,h2⟩,.inl h3⟩,?_⟩;simp(maxSteps:=300000) (disch:=omega)[↓ac,↓aa,h3]
 by_cases h4:n=2
 .refine .inl ⟨⟨⟨h1,h2⟩,.inr h4⟩,?_⟩;simp(maxSteps:=300000) (disch:=omega)[↓ac,↓aa,h4]
 .refine .inr ⟨λh=>h.2.elim h3 h4,?_⟩;simp(maxSteps:=300000) (disch:=omega)[↓ac,↓aa,h3,h4]
def ajo {R:Nat}(hR:R<=11){n:Int}{f:kf}(hf:f.Fit)(ok:xe R n f)(hn:n<=2):(vW R n f).length<=400000000:=by
 have h1:=L9 hR (q:=f.common) (l:=f.chans) λc hc=>⟨hf.chans.2 c hc,ok.may c hc⟩
 have h2:=aaJ hR ok;have h3:=Qx (l:=f.bands.flatten);have h4:=ok.len;have h5:=ok.fill;have h6:(lR f.fill).length<=10000:=by
  unfold lR;split
  .simp
  .simp only[al,dq,mb];split<;>simp<;>omega
 have h7:(L4 f).length<=20:=by
  unfold L4;split
  .simp
  .exact I7
 have h8:(fT n f).length<=1000:=by
  unfold fT;split
  .simp
  .split
   .simp only[al,dq];omega
   .simp
 have h9:∀m,Yo m<=7:=λm=>by unfold Yo;omega
 have h10:=h9 (fT n f++gz R f.common f.chans++lR f.fill++au 7 3).length;rw[vW,JF,al,bn];simp only[al,dq]at h10⊢;omega
theorem ke.one {x:AV}{l:E_}(h:ke x l):((∀hp,viewOne hp x=some x)∧nU x=x)∧ue x=false:=by
 rcases h with rfl|⟨rfl,rfl⟩<;>exact⟨⟨λ_=>rfl,rfl⟩,rfl⟩
def af2 (rt n:Int)(cb:Bool)(cz:Int)(f:kf)(hf:f.Fit)(X Y Z:AV)(hX:ke X (dI f.chans))(hY:ke Y (dT f.bands))(hZ:ke Z (ak f.fill)) :
  (Ax rt n∧xe rt.toNat n f∧bq prog FU [kh rt n cb cz,AN f X Y Z]=some (.tup [A_ ((vW rt.toNat n f).length),A_ 0]))∨
  (¬(Ax rt n∧xe rt.toNat n f)∧∃e:Int,e≠0∧bq prog FU [kh rt n cb cz,AN f X Y Z]=some (.tup [A_ 0,A_ e])):=by
 obtain⟨⟨x1,x2,x3⟩,x4,x5⟩:=hX.facts;obtain⟨⟨y1,y2,y3⟩,y4,y5⟩:=hY.facts;obtain⟨⟨z1,z2,z3⟩,z4,z5⟩:=hZ.facts;obtain⟨⟨vx,ux⟩,wx⟩:=hX.one;obtain⟨⟨vy,uy⟩,wy⟩:=hY.one;obtain⟨⟨vz,uz⟩,wz⟩:=hZ.one;have hcf:=VB rt n cb cz;simp only[kh,AN]at hcf;rcases hcf with ⟨hc,ec⟩|⟨hc,ec⟩
 rotate_left
 .refine .inr ⟨λh=>hc h.1,2,k_,?_⟩;rw[aU L0 M5 rfl];simp(maxSteps:=300000) (disch:=omega)[↓ac,↓aa,-bu,x1,x2,x3,x4,y1,y2,y3,y4,z1,z2,z3,z4,ec]
 have hrg:=anJ rt n cb cz hc.1 hc.2 f hf X Y Z hX hY hZ;simp only[kh,AN]at hrg;rcases hrg with ⟨hr,er⟩|⟨hr,er⟩
 rotate_left
 .refine .inr ⟨λh=>hr h.2,8,k_,?_⟩;rw[aU L0 M5 rfl];simp(maxSteps:=300000) (disch:=omega)[↓ac,↓aa,-bu,x1,x2,x3,x4,y1,y2,y3,y4,z1,z2,z3,z4,ux,uy,uz,vx,vy,vz,wx,wy,wz,ec,er]
 refine .inl ⟨hc,hr,?_⟩;obtain⟨R,rfl⟩:=aA hc.1.1;simp only[aq]at hr⊢;have hR:R<=11:=by have:=hc.1.2;omega
 have hw:=JL R hR n hc.2 cb cz f hf hr X Y Z hX hY hZ;have hwl:=ajo hR hf hr (by rcases hc.2 with h|h<;>omega);have hbl:=cP (l:=vW R n f);simp only[kh,AN]at hw;generalize vW R n f=W at *;rw[aU L0 M5 rfl];simp(maxSteps:=300000) (disch:=omega)[↓ac,↓aa,-bu,x1,x2,x3,x4,y1,y2,y3,y4,z1,z2,z3,z4,ux,uy,uz,vx,vy,vz,wx,wy,wz,ec,er,hw]
def P9 (rt n:Int)(cb:Bool)(cz:Int)(f:kf)(hf:f.Fit)(X Y Z:AV)(hX:ke X (dI f.chans))(hY:ke Y (dT f.bands))(hZ:ke Z (ak f.fill)) :
  (Ax rt n∧xe rt.toNat n f∧((vW rt.toNat n f).length:Int)<=1536*n∧bq prog xL [kh rt n cb cz,AN f X Y Z]=some (A_ 0))∨
  (¬(Ax rt n∧xe rt.toNat n f∧((vW rt.toNat n f).length:Int)<=1536*n)∧∃e:Int,e≠0∧bq prog xL [kh rt n cb cz,AN f X Y Z]=some (A_ e)):=by
 obtain⟨⟨x1,x2,x3⟩,x4,x5⟩:=hX.facts;obtain⟨⟨y1,y2,y3⟩,y4,y5⟩:=hY.facts;obtain⟨⟨z1,z2,z3⟩,z4,z5⟩:=hZ.facts;obtain⟨⟨vx,ux⟩,wx⟩:=hX.one;obtain⟨⟨vy,uy⟩,wy⟩:=hY.one;obtain⟨⟨vz,uz⟩,wz⟩:=hZ.one;have hb:=af2 rt n cb cz f hf X Y Z hX hY hZ;simp only[kh,AN]at hb;rw[aU ahu air rfl];rcases hb with ⟨hc,hr,eb⟩|⟨hx,e,he,eb⟩
 .have hwl:=ajo (by have:=hc.1;omega) hf hr (by rcases hc.2 with h|h<;>omega);have hn:=hc.2;by_cases hl:((vW rt.toNat n f).length:Int)<=1536*n
  .refine .inl ⟨hc,hr,hl,?_⟩;generalize vW rt.toNat n f=W at *;simp(maxSteps:=300000) (disch:=omega)[↓ac,↓aa,-bu,x1,x2,x3,x4,y1,y2,y3,y4,z1,z2,z3,z4,ux,uy,uz,vx,vy,vz,wx,wy,wz,eb]
  .refine .inr ⟨λh=>hl h.2.2,9,k_,?_⟩;generalize vW rt.toNat n f=W at *;simp(maxSteps:=300000) (disch:=omega)[↓ac,↓aa,-bu,x1,x2,x3,x4,y1,y2,y3,y4,z1,z2,z3,z4,ux,uy,uz,vx,vy,vz,wx,wy,wz,eb]
 .refine .inr ⟨λh=>hx ⟨h.1,h.2.1⟩,e,he,?_⟩;simp(maxSteps:=300000) (disch:=omega)[↓ac,↓aa,-bu,x1,x2,x3,x4,y1,y2,y3,y4,z1,z2,z3,z4,ux,uy,uz,vx,vy,vz,wx,wy,wz,eb,he]
def F0:kf:=⟨[c0],false,0,[],[]⟩
def atU:∃p,bq prog OF []=some (.tup [kh 0 1 false 0,.agg [.own p 9 (dI [c0]),B_ false,A_ 0,.nl,.nl],B_ true]):=⟨false,zR 600 (by kernel_rfl)⟩
def awP:lL 0 c0:=by
 rcases Mo 0 c0 amB with ⟨_,h,_⟩|⟨_,_,h⟩|⟨_,h⟩
 .exact h
 .rw[aef]at h;simp at h
 .rw[aef]at h;simp at h
def aet:F0.Fit where
 chans:=⟨by simp[F0],λc hc=>by simp only[F0,aB,cU,fC]at hc;subst hc;exact amB⟩
 mask:=k_
 bands:=by simp[F0]
 fill:=by simp[F0]
 fillI:=by simp[F0]
def adj:Ax 0 1∧xe 0 1 F0:=by
 refine⟨⟨k_,.inl rfl⟩,rfl,k_,k_,λc hc=>?_,?_⟩
 .simp only[F0,aB,cU,fC]at hc;subst hc;exact awP
 .exact⟨rfl,rfl⟩
def Z9:vW 0 1 F0=List.replicate 29 0++[1,1,1]:=e_
def atA:bq prog Kk [.d (.lst (ak (List.replicate 29 0++[1,1,1])))]=some (.tup [.own true 1 (ak [0,0,0,7]),A_ 0]):=zR 600 (by kernel_rfl)
def aue:bq prog FU [kh 0 1 false 0,.agg [.d (.lst (dI [c0])),B_ false,A_ 0,.nl,.nl]]=some (.tup [A_ 32,A_ 0]):=by
 rcases af2 0 1 false 0 F0 aet (.d (.lst (dI [c0]))) .nl .nl ke.d (.inr ⟨rfl,rfl⟩) (.inr ⟨rfl,rfl⟩) with ⟨_,_,h⟩|⟨h,_⟩
 .rw[show(0:Int).toNat=0 from rfl,Z9]at h;exact h
 .exact absurd adj h
def aq9:bq prog DG [kh 0 1 false 0,.agg [.d (.lst (dI [c0])),B_ false,A_ 0,.nl,.nl]]=some (.tup [.own true 1 (ak [0,0,0,7]),A_ 0]):=by
 have h1:bq prog xL [kh 0 1 false 0,.agg [.d (.lst (dI [c0])),B_ false,A_ 0,.nl,.nl]]=some (A_ 0):=by
  rcases P9 0 1 false 0 F0 aet (.d (.lst (dI [c0]))) .nl .nl ke.d (.inr ⟨rfl,rfl⟩) (.inr ⟨rfl,rfl⟩) with ⟨_,_,_,h⟩|⟨h,_⟩
  .exact h
  .exact absurd ⟨adj.1,adj.2,by rw[show(0:Int).toNat=0 from rfl,Z9];decide⟩ h
 have h2:bq prog E9 [kh 0 1 false 0,AN F0 (.d (.lst (dI [c0]))) .nl .nl]=_:=JL 0 k_ 1 (.inl rfl) false 0 F0 aet adj.2 (.d (.lst (dI [c0]))) .nl .nl ke.d (.inr ⟨rfl,rfl⟩) (.inr ⟨rfl,rfl⟩);have h3:=atA;rw[Z9]at h2;simp only[kh,AN,show F0.common=false from rfl,show F0.mask=0 from rfl]at h1 h2⊢;generalize dI [c0]=C at *;generalize List.replicate 29 0++[1,1,1]=B at *;rw[aU Kj J2 rfl];simp(maxSteps:=300000) (disch:=omega)[↓ac,↓aa,h1,h2,h3]
def alz:bq prog zE []=some (B_ true):=by
 obtain⟨p,h1⟩:=atU;have h2:=aue;have h3:=aq9;simp only[kh]at h1 h2 h3;obtain⟨C,hC⟩:∃C,C=dI [c0]:=⟨_,rfl⟩
 rw[<-hC]at h1 h2 h3;rw[show ak [0,0,0,7]=[[.int .u8 0],[.int .u8 0],[.int .u8 0],[.int .u8 7]] from rfl]at h3;rw[aU Kp Lc rfl];simp(maxSteps:=300000) (disch:=omega)[↓ac,↓aa,h1,h2,h3]
def Qs {m:Nat}{xs:E_}:ke (share (aD m xs)) xs:=by
 cases xs with
 |nil=>exact .inr ⟨rfl,rfl⟩
 |cons x r=>exact .inl rfl
def au7 {n:Nat}:List.replicate n [D.bool false]=gS (List.replicate n false):=by simp[gS]
def x0T (sh:Bool):Nat:=if sh then 1 else 2
def x1T (sh:Bool):Nat:=if sh then 4 else 6
def x2T (sh:Bool):Nat:=if sh then 3 else 5
def Us (b:C_)(i:aM)(a:Int):Option (O_×Bool×RS):=ov b (x0T i.short) (x1T i.short) (x2T i.short) i.many false ⟨a,0⟩
def Ni (b:C_)(i:aM)(a:Int):R O_ :=
 match Us b i a with
 |none=>.er 7
 |some (t,o,st)=>if st.e≠0 then .er (st.e-1) else if o then .er 7 else .ok t st.a.toNat
def Wo {b:C_}{x1 x2:Nat}{fine:Bool}:∀{k:Nat}{o:Bool}{st:RS}{l:AA_}{o2:Bool}{st2:RS},iV b x1 x2 fine k o st=some (l,o2,st2)->l.length=k∧∀f∈l,f.coefs.length<=12
 |0,o,st,l,o2,st2,e=>by
  rw[iV]at e;injection e with e
  injection e with e1 e
  subst e1;exact⟨rfl,s_⟩
 |k+1,o,st,l,o2,st2,e=>by
  rw[iV]at e;split at e
  .exact absurd e (by simp)
  .rename_i hbad
   cases hq:iV b x1 x2 fine k (o ||IK b x1 x2 fine st) (wY b x1 x2 fine st) with
   |none=>rw[hq]at e;exact absurd e (by simp)
   |some q =>
    obtain⟨q1,q2,q3⟩:=q;rw[hq]at e;injection e with e;injection e with e1 e
    obtain⟨i1,i2⟩:=Wo hq;subst e1;refine⟨by simp[i1],λf hf=>?_⟩;rcases aB.1 hf with rfl|hf
    .unfold Ly;split
     .simp
     .rename_i h0;simp only[YF];have he:(xI b x1 x2 st).e=0:=avM h0;rcases bt 12 (qQ b x1 x2 st) with h|h
      .exact absurd ⟨h,he⟩ hbad
      .exact h
    .exact i2 f hf
def Xg {b:C_}{x0 x1 x2:Nat}(hb:b.length<=1000000000)(h2:x0<=2):∀{k:Nat}{o:Bool}{st:RS}{t:O_}{o2:Bool}{st2:RS},st.fit->ov b x0 x1 x2 k o st=some (t,o2,st2)->st2.fit∧t.length=k∧∀l∈t,l.length<=3∧∀f∈l,f.coefs.length<=12
 |0,o,st,t,o2,st2,h,e=>by
  rw[ov]at e;injection e with e
  injection e with e1 e
  injection e with e2 e3
  subst e1 e3;exact⟨h,rfl,s_⟩
 |k+1,o,st,t,o2,st2,h,e=>by
  rw[ov]at e
  cases hq:iV b x1 x2 (Qw b x0 st) (sV b st x0) o (BL b x0 st) with
  |none=>rw[hq]at e;exact absurd e (by simp)
  |some q =>
   obtain⟨q1,q2,q3⟩:=q;rw[hq]at e;simp only at e
   cases hw:ov b x0 x1 x2 k q2 q3 with
   |none=>rw[hw]at e;exact absurd e (by simp)
   |some w =>
    obtain⟨w1,w2,w3⟩:=w;rw[hw]at e;injection e with e;injection e with e1 e
    injection e with e2 e3
    obtain⟨f1,f2⟩:=UO hb (ajd hb h) hq;obtain⟨i1,i2,i3⟩:=Xg hb h2 f1 hw;obtain⟨j1,j2⟩:=Wo hq;have v1:=uL (b:=b) (st:=st) (s:=x0);have k1:2 ^ x0<=2 ^ 2:=aw o_ h2;simp only[aq]at v1;subst e1 e3;refine⟨i1,by simp[i2],λl hl=>?_⟩;rcases aB.1 hl with rfl|hl
    .exact⟨o_,j2⟩
    .exact i3 l hl
abbrev pTn (b:C_)(i:aM)(t:O_)(n:Nat):Prop:=t.length=i.many∧n<=b.length∧∀l∈t,l.length<=3∧∀f∈l,f.coefs.length<=12
def aqb {h:am}{t:O_}{n e:Int}(ht:t≠[]):gy h (.tup [aD 1 (cX t),A_ n,A_ e])=some (.tup [aD 1 (cX t),A_ n,A_ e]):=by
 cases t with
 |nil=>exact absurd rfl ht
 |cons x r=>rfl
def RS.inB (b:C_)(st:RS):Prop:=0<=st.a∧st.a<=b.length
def DH {b:C_}{st:RS}{s:Int}(h:st.e=0∨st.inB b):(sN b st s).inB b:=by
 unfold sN;split
 .have:=alH (b:=b) (a:=st.a) (s:=s);show 0<=_∧_;simp only[];omega
 .rename_i he;exact h.resolve_left he
def amP {b:C_}{sz:Nat}:∀{k:Nat}{st:RS},st.inB b->(vE b sz k st).inB b
 |0,_,h=>h
 |_+1,_,h=>by rw[vE];exact amP (DH (.inr h))
def axc {b:C_}{x1 x2:Nat}{fine:Bool}{st:RS}(h:st.inB b):(wY b x1 x2 fine st).inB b:=by
 unfold wY;split
 .exact DH (.inr (DH (.inr h)))
 .exact amP (DH (.inr (DH (.inr (DH (.inr (DH (.inr h))))))))
def ajI {b:C_}{x1 x2:Nat}{fine:Bool}:∀{k:Nat}{o:Bool}{st:RS}{l:AA_}{o2:Bool}{st2:RS},st.inB b->iV b x1 x2 fine k o st=some (l,o2,st2)->st2.inB b
 |0,o,st,l,o2,st2,h,e=>by
  rw[iV]at e;injection e with e
  injection e with e1 e
  injection e with e2 e3
  subst e3;exact h
 |k+1,o,st,l,o2,st2,h,e=>by
  rw[iV]at e;split at e
  .exact absurd e (by simp)
  .cases hq:iV b x1 x2 fine k (o ||IK b x1 x2 fine st) (wY b x1 x2 fine st) with
   |none=>rw[hq]at e;exact absurd e (by simp)
   |some q =>
    obtain⟨q1,q2,q3⟩:=q;rw[hq]at e;injection e with e;injection e with e1 e
    injection e with e2 e3
    subst e3;exact ajI (axc h) hq
def avA {b:C_}{x0:Nat}{st:RS}(h:st.e=0∨st.inB b):(BL b x0 st).inB b:=by
 unfold BL;split
 .exact DH (.inr (DH h))
 .exact DH h
def Zm {b:C_}{x0 x1 x2:Nat}:∀{k:Nat}{o:Bool}{st:RS}{t:O_}{o2:Bool}{st2:RS},st.inB b∨(st.e=0∧1<=k)->ov b x0 x1 x2 k o st=some (t,o2,st2)->st2.inB b
 |0,o,st,t,o2,st2,h,e=>by
  rw[ov]at e;injection e with e
  injection e with e1 e
  injection e with e2 e3
  subst e3;rcases h with h|⟨_,h⟩
  .exact h
  .omega
 |k+1,o,st,t,o2,st2,h,e=>by
  rw[ov]at e
  cases hq:iV b x1 x2 (Qw b x0 st) (sV b st x0) o (BL b x0 st) with
  |none=>rw[hq]at e;exact absurd e (by simp)
  |some q =>
   obtain⟨q1,q2,q3⟩:=q;rw[hq]at e;simp only at e
   cases hw:ov b x0 x1 x2 k q2 q3 with
   |none=>rw[hw]at e;exact absurd e (by simp)
   |some w =>
    obtain⟨w1,w2,w3⟩:=w;rw[hw]at e;injection e with e;injection e with e1 e
    injection e with e2 e3
    subst e3;have h0:st.e=0∨st.inB b:=by rcases h with h|⟨h,_⟩;exact .inr h;exact .inl h
    exact Zm (.inl (ajI (avA h0) hq)) hw
def vR (i:aM):1<=i.many∧i.many<=8:=by unfold aM.many;split<;>omega
theorem amH {b:C_}{i:aM}{a:Int}(hb:b.length<=1000000000)(ha:i64 a){t:O_}{n:Nat}(h:Ni b i a=.ok t n):pTn b i t n:=by
 rw[Ni]at h
 cases hq:Us b i a with
 |none=>rw[hq]at h;exact absurd h (by simp)
 |some q =>
  obtain⟨t',o,st⟩:=q;rw[hq]at h;simp only at h;rw[Us]at hq;obtain⟨j1,j2,j3⟩:=Xg (st:=⟨a,0⟩) hb (by unfold x0T;split<;>omega) (show RS.fit ⟨a,0⟩ from ha) hq;have j4:=Zm (.inr ⟨rfl,(vR i).1⟩) hq;split at h
  .exact absurd h (by simp)
  .split at h
   .exact absurd h (by simp)
   .injection h with g1 g2
    subst g1 g2;obtain⟨k1,k2⟩:=j4;exact⟨j2,o_,j3⟩
def ahg (b:C_)(hb:b.length<=1000000000)(a:Int)(ha:i64 a)(i:aM)(hi:i.Fit)(hm:i.may 11):bq prog NQ [.d (.lst (ak b)),A_ a,.agg i.cells] =
  rK (pTn b i) (Ni b i a) (λt n=>some (.tup [aD 1 (cX t),A_ n,A_ 0])) (λe=>some (.tup [.nl,A_ 0,A_ (e+1)])):=by
 have hw:=nQ i hi;rw[ac hm]at hw;have hsz:=yb i;obtain⟨m1,m8⟩:=vR i;obtain⟨M,hM,hL⟩:=atn b hb (A_ (if i.short then 1 else 3)) (A_ (if i.short then 7 else 12)) (x0T i.short) (x1T i.short) (x2T i.short) (by unfold x0T x1T x2T;cases i.short<;>decide) i.many m8 i.many 0 5 false ⟨a,0⟩ [] o_ rfl ha (ai _);have c0:((0:Nat):Int)=0:=rfl;have n0:cX []=[]:=rfl;have hq0:ov b (x0T i.short) (x1T i.short) (x2T i.short) i.many false ⟨a,0⟩=Us b i a:=rfl;have hra:ra ⟨a,0⟩=a:=rfl;have hre:re ⟨a,0⟩=0:=rfl;rw[hq0]at hL;simp only[c0,n0,pD,aO,HT,hra,hre]at hL;have hszv:lJ i.short=[A_ (x0T i.short:Nat),A_ (x1T i.short:Nat),A_ (x2T i.short:Nat),A_ (if i.short then 1 else 3),A_ (if i.short then 7 else 12)]:=by
  cases i.short<;>rfl
 rw[hszv]at hsz;have hp:=λt n=>amH (b:=b) (i:=i) (a:=a) (t:=t) (n:=n) hb ha
 have hin0:∀t o st,Us b i a=some (t,o,st)->st.inB b:=λt o st h=>Zm (.inr ⟨rfl,m1⟩) h
 rw[Ni]at hp⊢;rw[aU acl acE rfl];simp only[aM.cells]at hw hsz⊢;generalize x0T i.short=X0 at *;generalize x1T i.short=X1 at *;generalize x2T i.short=X2 at *;generalize (if i.short then (1:Int) else 3)=Y3 at *;generalize (if i.short then (7:Int) else 12)=Y4 at *
 cases hq:Us b i a with
 |none =>
  rw[hq]at hL;simp only at hL⊢;rw[ie];simp(maxSteps:=300000) (disch:=omega)[↓ac,↓aa,hw,hsz,hL]
 |some q =>
  obtain⟨t,o,st⟩:=q;rw[hq]at hL hp;simp only at hL hp⊢;obtain⟨sa,se⟩:=st;by_cases he:se=0
  .subst he;have hin:=hin0 t o ⟨sa,0⟩ hq;obtain⟨k1,k2⟩:=hin;simp only at k1 k2;obtain⟨A,rfl⟩:=aA k1;have hra2:ra ⟨(A:Int),0⟩=(A:Int):=rfl;have hre2:re ⟨(A:Int),0⟩=0:=rfl;simp only[hra2,hre2,c0]at hL
   cases o with
   |true =>
    simp only[ne_eq,not_true_eq_false,bf,bc]at hp⊢;rw[ie];simp(maxSteps:=300000) (disch:=omega)[↓ac,↓aa,hw,hsz,hL]
   |false =>
    simp only[ne_eq,not_true_eq_false,bf,ao]at hp⊢;have hpt:=hp t _ rfl;have htn:t≠[]:=λh=>by rw[h]at hpt;have:=hpt.1;simp at this;omega
    rw[eD hpt];have hrt:=λh n e=>aqb (h:=h) (n:=n) (e:=e) htn
    simp(maxSteps:=300000) (disch:=omega)[↓ac,↓aa,hw,hsz,hL,-W8,hrt]
  .have hre2:re ⟨sa,se⟩=se:=rfl;have hse:((se-1:Nat):Int)+1=(se:Int):=o_;simp only[hre2]at hL;simp only[ne_eq,he,not_false_eq_true,bc]at hp⊢;rw[ie,hse];simp(maxSteps:=300000) (disch:=omega)[↓ac,↓aa,hw,hsz,hL,he]
abbrev yZ:D_:=[.ptr 0 0,.ptr 5 0,.ptr 4 0,.ptr 6 0]
abbrev afT:AV:=.fn JV [] [.ptr 0 0,.ptr 5 0,.ptr 6 0]
abbrev vJ:D_:=[.fn xy [] yZ,.fn nc [] [.ptr 3 0,.ptr 4 0,.ptr 2 0,.ptr 0 0,.ptr 5 0,.ptr 1 0,.ptr 6 0],.fn xO [] yZ,.fn xT [] yZ,.fn xK [] [.ptr 9 0,.ptr 7 0],.fn xM [] [.ptr 9 0,.ptr 8 0],.fn nf [] [.ptr 8 0,.ptr 0 0,.ptr 5 0,.ptr 4 0,.ptr 6 0],.fn xP [] [.ptr 7 0,.ptr 9 0]]
abbrev eK (b:C_)(r:Int)(q:Bool)(iv cs:D_)(nx e od is:Int):am:=[(0,.cells [.d (.lst (ak b))]),(1,.cells [A_ r]),(2,.cells [B_ q]),(3,.cells iv),(4,.cells cs),(5,.cells [A_ nx]),(6,.cells [A_ e]),(7,.cells [A_ od]),(8,.cells [A_ is]),(9,.cells [afT]),(10,.cells vJ)]
def aro {m:Nat}{xs:E_}:AK (share (aD m xs))=share (aD m xs):=by cases xs<;>rfl
def ab3 (x:AV)(l:G_)(hl:l.length<=1000000000)(hx:elems [] x=some (aF l)):bq prog BS [x]=some (.own true 1 (aF l)):=by
 have hl2:(aF l).length=l.length:=gQ;rw[aU OO OM rfl];have h4:Nat.ble l.length 4294967296=true:=by rw[bg];omega
 rw[im];simp(maxSteps:=300000) (disch:=omega)[cT,LE,hx,h4]
def aa5 (i:aM)(hi:i.groups.length<=1000000):bq prog DB [.agg i.cells]=some (.agg (P4 i)):=by
 have h:=ab3 (.d (.lst (aF i.groups))) i.groups o_ rfl;simp only[aM.cells];rw[aU ahH agR rfl];simp(maxSteps:=300000) (disch:=omega)[↓ac,↓aa,h]
abbrev zI:D_:=[.d (.int .u8 0),.d (.int .u8 0),A_ 0,.nl]
def akB:bq prog DB [.agg zI]=some (.agg (P4 ⟨0,0,0,[]⟩)):=zR 400 (by kernel_rfl)
section
variable (b:C_)(r:Int)(q:Bool)(iv:D_)(nx od is:Int)(N:Nat)
theorem au3 (hq:q=true)(i:aM)(hi:i.groups.length<=1000000)(hiv:iv=i.cells)(a0 a1 a2 a3 a4 a5 a6 a7 a8:AV):(Dn prog).call nc [.ptr 3 0,.ptr 4 0,.ptr 2 0,.ptr 0 0,.ptr 5 0,.ptr 1 0,.ptr 6 0] ⟨eK b r q iv [a0,a1,a2,a3,a4,a5,a6,a7,a8] nx 0 od is,N⟩ =
  some (.tup [],⟨eK b r q iv [a0,.d (.int .u8 i.seq),.d (.int .u8 i.shape),A_ i.max,.own false 1 (aF i.groups),a5,a6,a7,a8] nx 0 od is,N⟩):=by
 subst hq hiv;have h:=aa5 i hi;simp only[aM.cells,P4]at h⊢;rw[ba Tx TK rfl];simp(maxSteps:=300000) (disch:=omega)[↓ac,↓aa,h]
theorem auv (i:aM)(hi:i.Fit)(hm:i.may 11)(h1:is≠1)(a0 a5 a6 a7 a8:AV):(Dn prog).call nf [.ptr 8 0,.ptr 0 0,.ptr 5 0,.ptr 4 0,.ptr 6 0] ⟨eK b r q iv [a0,.d (.int .u8 i.seq),.d (.int .u8 i.shape),A_ i.max,.own false 1 (aF i.groups),a5,a6,a7,a8] nx 0 od is,N⟩ =
  some (.tup [],⟨eK b r q iv [a0,.d (.int .u8 i.seq),.d (.int .u8 i.shape),A_ i.max,.own false 1 (aF i.groups),a5,a6,.own false 1 (cX (List.replicate i.many [])),a8] nx 0 od is,N⟩):=by
 have hw:=nQ i hi;rw[ac hm]at hw;have hmm:=vR i;have hk:=Cl (z:=[.lst []]) (n:=i.many) o_;have e:List.replicate i.many [D.lst []]=cX (List.replicate i.many []):=by simp[cX,eh]
 rw[e]at hk;simp only[aM.cells]at hw;rw[ba Td Tf rfl];simp(maxSteps:=300000) (disch:=omega)[↓ac,↓aa,h1,hw,hk]
end
section
variable (b:C_)(hb:b.length<=1000000000)(r:Int)(q:Bool)(iv:D_)(nx od is:Int)(hn:i64 nx)(N:Nat)
include hb hn
theorem awa (a0 a1 a2 a3 a4 a5 a6 a7 a8:AV):(Dn prog).call xy yZ ⟨eK b r q iv [a0,a1,a2,a3,a4,a5,a6,a7,a8] nx 0 od is,N⟩ =
  rK (pG b 8) (bb b nx 8) (λv n=>some (.tup [],⟨eK b r q iv [A_ v,a1,a2,a3,a4,a5,a6,a7,a8] n 0 od is,N⟩)) (λe=>some (.tup [],⟨eK b r q iv [A_ 0,a1,a2,a3,a4,a5,a6,a7,a8] 0 (e+1) od is,N⟩)):=by
 have h:=gW b nx 8 hb hn;rw[ba ahz ah2 rfl];simp(maxSteps:=300000) (disch:=omega)[↓ac,↓aa,h]
theorem alf (cs:D_):(Dn prog).call JV [.ptr 0 0,.ptr 5 0,.ptr 6 0] ⟨eK b r q iv cs nx 0 od is,N⟩ =
  rK (pG b 1) (bb b nx 1) (λv n=>some (A_ v,⟨eK b r q iv cs n 0 od is,N⟩)) (λe=>some (A_ 0,⟨eK b r q iv cs 0 (e+1) od is,N⟩)):=by
 have h:=gW b nx 1 hb hn;rw[ba ahD ahr rfl];simp(maxSteps:=300000) (disch:=omega)[↓ac,↓aa,h]
theorem avL (cs:D_):(Dn prog).call xK [.ptr 9 0,.ptr 7 0] ⟨eK b r q iv cs nx 0 od is,N⟩ =
  rK (pG b 1) (bb b nx 1) (λv n=>some (.tup [],⟨eK b r q iv cs n 0 v is,N⟩)) (λe=>some (.tup [],⟨eK b r q iv cs 0 (e+1) 0 is,N⟩)):=by
 have h:=alf b hb r q iv nx od is hn N cs;rw[ba agW aig rfl];simp(maxSteps:=300000) (disch:=omega)[↓ac,↓aa,h]
theorem axm (cs:D_):(Dn prog).call xM [.ptr 9 0,.ptr 8 0] ⟨eK b r q iv cs nx 0 od is,N⟩ =
  rK (pG b 1) (bb b nx 1) (λv n=>some (.tup [],⟨eK b r q iv cs n 0 od v,N⟩)) (λe=>some (.tup [],⟨eK b r q iv cs 0 (e+1) od 0,N⟩)):=by
 have h:=alf b hb r q iv nx od is hn N cs;rw[ba aik ahx rfl];simp(maxSteps:=300000) (disch:=omega)[↓ac,↓aa,h]
theorem awI (cs:D_)(ho:0<=od∧od<=1):(Dn prog).call xP [.ptr 7 0,.ptr 9 0] ⟨eK b r q iv cs nx 0 od is,N⟩ =
  rK (pG b 1) (bb b nx 1) (λv n=>some (.tup [],⟨eK b r q iv cs n 0 (VM od v) is,N⟩)) (λe=>some (.tup [],⟨eK b r q iv cs 0 (e+1) od is,N⟩)):=by
 have h:=alf b hb r q iv nx od is hn N cs;rw[ba aii agJ rfl];simp(maxSteps:=300000) (disch:=omega)[↓ac,↓aa,h];refine V6 (λ_ _ h=>dU h) (λv n e2 hp=>?_) λe e2=>by simp(maxSteps:=300000) (disch:=omega)[VT]
 have hv:v<2:=hp.1;simp(maxSteps:=300000) (disch:=omega)[VT]
theorem awZ (i:aM)(hi:i.Fit)(hm:i.may 11)(hg:i.groups≠[])(a0 a5 a6 a7 a8:AV):(Dn prog).call xO yZ ⟨eK b r q iv [a0,.d (.int .u8 i.seq),.d (.int .u8 i.shape),A_ i.max,.own false 1 (aF i.groups),a5,a6,a7,a8] nx 0 od is,N⟩ =
  rK (Tb b i.max.toNat i.groups.length) (tS b i nx) (λg n=>some (.tup [],⟨eK b r q iv [a0,.d (.int .u8 i.seq),.d (.int .u8 i.shape),A_ i.max,.own false 1 (aF i.groups),aD 1 (bF g),a6,a7,a8] n 0 od is,N⟩)) (λe=>some (.tup [],⟨eK b r q iv [a0,.d (.int .u8 i.seq),.d (.int .u8 i.shape),A_ i.max,.own false 1 (aF i.groups),.nl,a6,a7,a8] 0 (e+1) od is,N⟩)):=by
 have h:=arI b nx i hb hn hi hm;simp only[aM.cells]at h;rw[ba agZ ag1 rfl];simp(maxSteps:=300000) (disch:=omega)[↓ac,↓aa,-bu,h]
theorem axl (g:Int)(hg:0<=g∧g<=255)(m:Int)(hm:0<=m∧m<=40)(S:H_)(hS:S≠[])(hl:S.length<=8)(hf:fk m S)(hf2:∀l∈S,l.length<=1000)(hok:∀l∈S,ac0 l∧akk l)(a1 a2 a3 a4 a6 a7 a8:AV):(Dn prog).call xT yZ ⟨eK b r q iv [A_ g,a1,a2,a3,a4,aD 1 (bF S),a6,a7,a8] nx 0 od is,N⟩ =
  rK (pSc b S) (xF b S nx g) (λt n=>some (.tup [],⟨eK b r q iv [A_ g,a1,a2,a3,a4,aD 1 (bF S),share (aD 1 (c7 t)),a7,a8] n 0 od is,N⟩)) (λe=>some (.tup [],⟨eK b r q iv [A_ g,a1,a2,a3,a4,aD 1 (bF S),.nl,a7,a8] 0 (e+1) od is,N⟩)):=by
 have h:=anz b hb nx g m hn hg S hl hm hf hf2 hok;rw[ba ahJ ah6 rfl]
 cases S with
 |nil=>exact absurd rfl hS
 |cons s0 S0 =>
  have e:aD 1 (bF (s0::S0))=.own false 1 (bF (s0::S0)):=rfl;rw[e];simp(maxSteps:=300000) (disch:=omega)[↓ac,↓aa,-bu,h,ai0,aro,aeb,Gj,BW]
theorem ai4 (hq:q=false)(hr:dP r)(i:aM)(hi:i.groups.length<=1000000)(hiv:iv=i.cells∨iv=zI)(a0 a1 a2 a3 a4 a5 a6 a7 a8:AV):(Dn prog).call nc [.ptr 3 0,.ptr 4 0,.ptr 2 0,.ptr 0 0,.ptr 5 0,.ptr 1 0,.ptr 6 0] ⟨eK b r q iv [a0,a1,a2,a3,a4,a5,a6,a7,a8] nx 0 od is,N⟩ =
  rK (pI b r.toNat) (l8 b nx r.toNat) (λj n=>some (.tup [],⟨eK b r q iv [a0,.d (.int .u8 j.seq),.d (.int .u8 j.shape),A_ j.max,.own false 1 (aF j.groups),a5,a6,a7,a8] n 0 od is,N⟩)) (λe=>some (.tup [],⟨eK b r q iv [a0,.d (.int .u8 0),.d (.int .u8 0),A_ 0,.nl,a5,a6,a7,a8] 0 (e+1) od is,N⟩)):=by
 subst hq;have h:=aa5 i hi;have h0:=akB;have hG:=Ua b nx r hb hn;rw[ac hr]at hG;rcases hiv with rfl|rfl
 all_goals
  simp only[aM.cells,P4,Ud]at h hG⊢;rw[ba Tx TK rfl];simp(maxSteps:=300000) (disch:=omega)[↓ac,↓aa,h,h0,hG]
theorem aji (i:aM)(hi:i.Fit)(hm:i.may 11)(h1:is=1)(a0 a5 a6 a7 a8:AV):(Dn prog).call nf [.ptr 8 0,.ptr 0 0,.ptr 5 0,.ptr 4 0,.ptr 6 0] ⟨eK b r q iv [a0,.d (.int .u8 i.seq),.d (.int .u8 i.shape),A_ i.max,.own false 1 (aF i.groups),a5,a6,a7,a8] nx 0 od is,N⟩ =
  rK (pTn b i) (Ni b i nx) (λt n=>some (.tup [],⟨eK b r q iv [a0,.d (.int .u8 i.seq),.d (.int .u8 i.shape),A_ i.max,.own false 1 (aF i.groups),a5,a6,aD 1 (cX t),a8] n 0 od is,N⟩)) (λe=>some (.tup [],⟨eK b r q iv [a0,.d (.int .u8 i.seq),.d (.int .u8 i.shape),A_ i.max,.own false 1 (aF i.groups),a5,a6,.nl,a8] 0 (e+1) od is,N⟩)):=by
 subst h1;have h:=ahg b hb nx hn i hi hm;simp only[aM.cells]at h;rw[ba Td Tf rfl];simp(maxSteps:=300000) (disch:=omega)[↓ac,↓aa,-bu,h]
end
abbrev ac6:D_:=[A_ 0,.d (.int .u8 0),.d (.int .u8 0),A_ 0,.nl,.nl,.nl,.nl,.nl]
abbrev YO (i:Int):aV:=[(5,.ptr 0 0),(7,.ptr 1 0),(10,.ptr 4 0),(11,.ptr 5 0),(12,.ptr 6 0),(13,.ptr 7 0),(14,.ptr 8 0),(60,.sl 10 0 8),(61,A_ 8),(62,A_ i)]
abbrev awG:aV:=[(5,.ptr 0 0),(7,.ptr 1 0),(10,.ptr 4 0),(11,.ptr 5 0),(12,.ptr 6 0),(13,.ptr 7 0),(14,.ptr 8 0)]
section
variable (b:C_)(r:Int)(q:Bool)(iv:D_)(N:Nat)
theorem aoj {cs cs2:D_}{nx nx2 e0 od od2 is is2:Int}(i:Nat)(hi:i<8)(f:FuncId)(caps:D_)(hF:vJ[i]?=some (.fn f [] caps))(hF2:firm (firm (firm (share (.fn f [] caps))))=.fn f [] caps)
  (h:(Dn prog).call f caps ⟨eK b r q iv cs nx 0 od is,N⟩=some (.tup [],⟨eK b r q iv cs2 nx2 0 od2 is2,N⟩)) :
  (Dn prog).code (.loop jW) ⟨YO i,⟨eK b r q iv cs nx e0 od is,N⟩⟩=(Dn prog).code (.loop jW) ⟨YO ((i+1:Nat):Int),⟨eK b r q iv cs2 nx2 0 od2 is2,N⟩⟩:=by
 have c1:((i+1:Nat):Int)=(i:Int)+1:=rfl;obtain⟨hlt,e⟩:=aH.1 hF;rw[c1,ah Hl];simp(maxSteps:=300000) (disch:=omega)[↓ac,↓aa,e,hF2,h]
theorem avm {cs:D_}{a0 a1 a2 a3 a4 a5 a6 a7 a8:AV}{nx nx2 e0 od od2 is is2:Int}(i:Nat)(hi:i<8)(f:FuncId)(caps:D_)(hF:vJ[i]?=some (.fn f [] caps))(hF2:firm (firm (firm (share (.fn f [] caps))))=.fn f [] caps)(e:Nat)
  (h:(Dn prog).call f caps ⟨eK b r q iv cs nx 0 od is,N⟩=some (.tup [],⟨eK b r q iv [a0,a1,a2,a3,a4,a5,a6,a7,a8] nx2 ((e:Int)+1) od2 is2,N⟩)) :
  (Dn prog).code (.loop jW) ⟨YO i,⟨eK b r q iv cs nx e0 od is,N⟩⟩=some (.ret,⟨[(10,.ptr 4 0),(11,.ptr 5 0),(12,.ptr 6 0)],⟨eK b r q iv ac6 0 ((e:Int)+1) od2 is2,N⟩⟩):=by
 obtain⟨hlt,e1⟩:=aH.1 hF;rw[ah Hl];simp(maxSteps:=300000) (disch:=omega)[↓ac,↓aa,e1,hF2,h]
theorem asZ {cs:D_}{nx e0 od is:Int}:(Dn prog).code (.loop jW) ⟨YO 8,⟨eK b r q iv cs nx e0 od is,N⟩⟩=some (.exit 0,⟨awG,⟨eK b r q iv cs nx e0 od is,N⟩⟩):=by
 rw[ah Hl];simp(maxSteps:=300000) (disch:=omega)[↓ac,↓aa]
end
abbrev oH:=@Int.toNat_of_nonneg
structure Hd where
 gain:Nat
 inf:aM
 S:H_
 T:L_
 F:O_
 od:Int
 is:Nat
def Az (b:C_)(a:Int)(r:Nat)(q:Bool)(i:aM):R Hd :=
 (bb b a 8).bind λg n=>(if q then R.ok i n else l8 b n r).bind λj n=>(tS b j n).bind λS n=>(xF b S n g).bind λT n =>
  (bb b n 1).bind λo n=>(bb b n 1).bind λs n=>(if s=1 then Ni b j n else R.ok (List.replicate j.many []) n).bind λF n=>(bb b n 1).bind λp n=>R.ok ⟨g,j,S,T,F,VM o p,s⟩ n
abbrev adC (H:Hd):D_:=[A_ H.gain,.d (.int .u8 H.inf.seq),.d (.int .u8 H.inf.shape),A_ H.inf.max,.own false 1 (aF H.inf.groups),aD 1 (bF H.S),share (aD 1 (c7 H.T)),aD 1 (cX H.F),.nl]
section
variable (b:C_)(r:Int)(q:Bool)(iv:D_)(N:Nat)
def T3 (e0:Int)(i:Nat)(cs:D_)(nx od is:Int)(x:R Hd):Prop :=
 (∀H n,x=.ok H n->(Dn prog).code (.loop jW) ⟨YO i,⟨eK b r q iv cs nx e0 od is,N⟩⟩=some (.exit 0,⟨awG,⟨eK b r q iv (adC H) n 0 H.od H.is,N⟩⟩))∧
 (∀e,x=.er e->∃od2 is2,(Dn prog).code (.loop jW) ⟨YO i,⟨eK b r q iv cs nx e0 od is,N⟩⟩=some (.ret,⟨[(10,.ptr 4 0),(11,.ptr 5 0),(12,.ptr 6 0)],⟨eK b r q iv ac6 0 ((e:Int)+1) od2 is2,N⟩⟩))
theorem awV {e0:Int}{i:Nat}{cs cs2:D_}{nx nx2 od od2 is is2:Int}{x:R Hd}(hi:i<8)(f:FuncId)(caps:D_)(hF:vJ[i]?=some (.fn f [] caps))(hF2:firm (firm (firm (share (.fn f [] caps))))=.fn f [] caps)
  (h:(Dn prog).call f caps ⟨eK b r q iv cs nx 0 od is,N⟩=some (.tup [],⟨eK b r q iv cs2 nx2 0 od2 is2,N⟩))(ho:T3 b r q iv N 0 (i+1) cs2 nx2 od2 is2 x):T3 b r q iv N e0 i cs nx od is x:=by
 refine⟨λH n e=>?_,λe h2=>?_⟩
 .rw[aoj b r q iv N i hi f caps hF hF2 h];exact ho.1 H n e
 .rw[aoj b r q iv N i hi f caps hF hF2 h];exact ho.2 e h2
theorem awD {e0:Int}{i:Nat}{cs:D_}{a0 a1 a2 a3 a4 a5 a6 a7 a8:AV}{nx nx2 od od2 is is2:Int}{e:Nat}(hi:i<8)(f:FuncId)(caps:D_)(hF:vJ[i]?=some (.fn f [] caps))(hF2:firm (firm (firm (share (.fn f [] caps))))=.fn f [] caps)
  (h:(Dn prog).call f caps ⟨eK b r q iv cs nx 0 od is,N⟩=some (.tup [],⟨eK b r q iv [a0,a1,a2,a3,a4,a5,a6,a7,a8] nx2 ((e:Int)+1) od2 is2,N⟩)):T3 b r q iv N e0 i cs nx od is (.er e):=by
 refine⟨λH n h2=>absurd h2 s_,λe' h2=>?_⟩
 grind [avm]
end
def aj7 {b:C_}{i:aM}{g:H_}{n:Nat}(hm:i.may 11)(h:Tb b i.max.toNat i.groups.length g n) :
  g≠[]∧g.length<=8∧jn i g∧(∀l∈g,l.length<=100)∧∀l∈g,ac0 l∧akk l:=by
 obtain⟨h1,h2,h3⟩:=h;have hmx:=ig hm;obtain⟨q1,q2⟩:=dp hm;have hmm:=vR i;have hgl:i.groups.length<=8:=by have:=kO (λn hn=>(q1 n hn).1);omega
 have hgn:i.groups≠[]:=λh=>by grind
 have hg1:=bH.2 hgn;have hmc:((i.max.toNat:Nat):Int)=i.max:=oH hmx.1;have hf:∀l∈g,fitsS i.max l:=λl hl=>by simp_all
 refine⟨λh=>by simp_all,o_,⟨h3,hf⟩,λl hl=>by grind,λl hl=>⟨⟨d_,λs hs=>?_⟩,Mi (hf l hl)⟩⟩;have:=s9 (hf l hl) o_ s hs;omega
def pJ {α β:Type}{x:R α}{f:α->Nat->R β}{v:β}{n:Nat}(h:x.bind f=.ok v n):∃u m,x=.ok u m∧f u m=.ok v n:=by
 cases x with
 |ok u m=>exact⟨u,m,rfl,h⟩
 |er e=>simp_all
def af9 {α:Type}{c:Prop}[Decidable c]{v w:α}{n m:Nat}(h:Qa c v n=.ok w m):c∧v=w∧n=m:=by
 grind [Qa]
def aiT {b:C_}:∀{k a:Nat}{l:C_}{n:Nat},a<=b.length->ya b k a=.ok l n->n<=b.length
 |0,a,l,n,ha,h=>by
  grind [ya]
 |k+1,a,l,n,ha,h=>by
  obtain⟨v,m,h1,h⟩:=pJ h;obtain⟨l2,m2,h2,h⟩:=pJ h;have:=aiT (dU h1).2 h2
  simp_all
theorem Iz {b:C_}{a:Int}{r:Nat}(hr:r<=11){i:aM}{n:Nat}(h:l8 b a r=.ok i n):pI b r i n:=by
 obtain⟨o,n1,h1,h⟩:=pJ h;obtain⟨q,n2,h2,h⟩:=pJ h;obtain⟨s,n3,h3,h⟩:=pJ h;have key:i.may r∧n<=b.length:=by
  split at h
  .obtain⟨m,n4,h4,h⟩:=pJ h;obtain⟨l,n5,h5,h⟩:=pJ h;obtain⟨hc,e1,e2⟩:=af9 h;have:=aiT (dU h4).2 h5
   simp_all
  .obtain⟨m,n4,h4,h⟩:=pJ h;obtain⟨p,n5,h5,h⟩:=pJ h;obtain⟨hc,e1,e2⟩:=af9 h;have:=(dU h5).2
   simp_all
 obtain⟨g1,g2⟩:=dp (fG hr key.1);have hmm:=vR i;exact⟨key.1,key.2,by have:=kO (λn hn=>(g1 n hn).1);omega⟩
structure pHd (b:C_)(r:Nat)(H:Hd)(n:Nat):Prop where
 gain:H.gain<=255
 fit:H.inf.Fit
 may:H.inf.may r
 S:jn H.inf H.S
 Sl:∀l∈H.S,l.length<=100
 T:H.T.map List.length=H.S.map (λl=>(aK l).length)
 F:H.F.length=H.inf.many∧∀l∈H.F,l.length<=3∧∀f∈l,f.coefs.length<=12
 od:0<=H.od∧H.od<=1
 is:H.is<=1
 n:n<=b.length
theorem YG {r:Nat}{i:aM}(hr:r<=11)(h:i.may r)(hl:i.groups.length<=100):i.Fit:=by
 have h11:=fG hr h;have hmx:=ig h11;obtain⟨g1,g2⟩:=dp h11;exact⟨by have:=h.1;omega,by have:=h.2.1;omega,o_,o_,λn hn=>by grind⟩
abbrev QX (b:C_)(r:Nat)(x:R Hd):Prop:=∀H n,x=.ok H n->pHd b r H n
def zQ {b:C_}{r:Int}{q:Bool}{iv:D_}{N R0:Nat}{e0:Int}{i:Nat}{cs cs2:D_}{nx nx2 od od2 is is2:Int}{x:R Hd}(hi:i<8)(f:FuncId)(caps:D_)(hF:vJ[i]?=some (.fn f [] caps))(hF2:firm (firm (firm (share (.fn f [] caps))))=.fn f [] caps)
  (h:(Dn prog).call f caps ⟨eK b r q iv cs nx 0 od is,N⟩=some (.tup [],⟨eK b r q iv cs2 nx2 0 od2 is2,N⟩))(ho:T3 b r q iv N 0 (i+1) cs2 nx2 od2 is2 x∧QX b R0 x):T3 b r q iv N e0 i cs nx od is x∧QX b R0 x :=
 by grind [awV]
def zp {b:C_}{r:Int}{q:Bool}{iv:D_}{N R0:Nat}{e0:Int}{i:Nat}{cs:D_}{a0 a1 a2 a3 a4 a5 a6 a7 a8:AV}{nx nx2 od od2 is is2:Int}{e:Nat}(hi:i<8)(f:FuncId)(caps:D_)(hF:vJ[i]?=some (.fn f [] caps))(hF2:firm (firm (firm (share (.fn f [] caps))))=.fn f [] caps)
  (h:(Dn prog).call f caps ⟨eK b r q iv cs nx 0 od is,N⟩=some (.tup [],⟨eK b r q iv [a0,a1,a2,a3,a4,a5,a6,a7,a8] nx2 ((e:Int)+1) od2 is2,N⟩)):T3 b r q iv N e0 i cs nx od is (.er e)∧QX b R0 (.er e) :=
 by grind [awD]
def aoX {b:C_}{i:aM}{a:Int}{g:H_}{n:Nat}(h:tS b i a=.ok g n):Tb b i.max.toNat i.groups.length g n:=by
 rw[tS]at h;split at h
 .exact RF o_ h
 simp_all
def aq8 {b:C_}{g:H_}{a gain:Int}(hg:0<=gain∧gain<=255){t:L_}{n:Nat}(h:xF b g a gain=.ok t n):pSc b g t n:=by
 rw[xF]at h;split at h
 .rename_i ha;obtain⟨A,rfl⟩:=aA ha.1;exact Vk o_ ⟨o_,o_⟩ ⟨o_,o_⟩ h
 simp_all
def Nx (b:C_)(hb:b.length<=1000000000)(r:Int)(hr:dP r)(q:Bool)(i:aM)(hi:i.Fit)(iv:D_)(hiv:iv=i.cells∨q=false∧iv=zI)(hq:q=true->i.may r.toNat)(nx:Int)(hn:i64 nx)(e0:Int)(N:Nat) :
  T3 b r q iv N e0 0 ac6 nx 0 0 (Az b nx r.toNat q i)∧QX b r.toNat (Az b nx r.toNat q i):=by
 have hR:r.toNat<=11:=o_;rw[Az];have h:=awa b hb r q iv nx 0 0 hn N (A_ 0) (.d (.int .u8 0)) (.d (.int .u8 0)) (A_ 0) .nl .nl .nl .nl .nl
 cases e1:bb b nx 8 with
 |er e=>rw[e1,ie]at h;exact zp k_ xy yZ rfl rfl h
 |ok g n1 =>
 have p1:=dU e1;have hg:g<256:=p1.1;have hn1:=p1.2;have i1:i64 (n1:Int):=o_;rw[e1,eD p1]at h;rw[ax];refine zQ k_ xy yZ rfl rfl h ?_;clear h;have key:∃X:R aM,X=(if q=true then R.ok i n1 else l8 b n1 r.toNat)∧(∀j n,X=.ok j n->((j.Fit∧j.may r.toNat)∧n<=b.length)∧(Dn prog).call nc [.ptr 3 0,.ptr 4 0,.ptr 2 0,.ptr 0 0,.ptr 5 0,.ptr 1 0,.ptr 6 0] ⟨eK b r q iv [A_ g,.d (.int .u8 0),.d (.int .u8 0),A_ 0,.nl,.nl,.nl,.nl,.nl] n1 0 0 0,N⟩=some (.tup [],⟨eK b r q iv [A_ g,.d (.int .u8 j.seq),.d (.int .u8 j.shape),A_ j.max,.own false 1 (aF j.groups),.nl,.nl,.nl,.nl] n 0 0 0,N⟩))∧
   (∀e,X=.er e->(Dn prog).call nc [.ptr 3 0,.ptr 4 0,.ptr 2 0,.ptr 0 0,.ptr 5 0,.ptr 1 0,.ptr 6 0] ⟨eK b r q iv [A_ g,.d (.int .u8 0),.d (.int .u8 0),A_ 0,.nl,.nl,.nl,.nl,.nl] n1 0 0 0,N⟩=some (.tup [],⟨eK b r q iv [A_ g,.d (.int .u8 0),.d (.int .u8 0),A_ 0,.nl,.nl,.nl,.nl,.nl] 0 ((e:Int)+1) 0 0,N⟩)):=by
  refine⟨_,rfl,λj n h=>?_,λe h=>?_⟩
  .grind [au3,aM.Fit.len,Iz,ai4,eD,YG]
  .cases hqc:q with
   |true=>simp_all
   |false =>
    rw[hqc]at h;simp only[ao,bf]at h;have h3:=ai4 b hb r false iv n1 0 0 i1 N rfl hr i (by have:=hi.len;omega) (hiv.imp id And.right) (A_ g) (.d (.int .u8 0)) (.d (.int .u8 0)) (A_ 0) .nl .nl .nl .nl .nl
    simp_all
 obtain⟨X,hX,hX1,hX2⟩:=key;rw[<-hX]
 cases e2:X with
 |er e=>exact zp k_ nc _ rfl rfl (hX2 e e2)
 |ok j n2 =>
 obtain⟨⟨⟨hj,hjm⟩,hn2⟩,h⟩:=hX1 j n2 e2;have i2:i64 (n2:Int):=o_;have hjm11:=fG hR hjm;have hmx:=ig hjm11;obtain⟨gr1,gr2⟩:=dp hjm11;have hmm:=vR j;have hgn:j.groups≠[]:=λh=>by grind
 rw[ax];refine zQ k_ nc _ rfl rfl h ?_;clear h hX hX1 hX2 e2 X;have h:=awZ b hb r q iv n2 0 0 i2 N j hj hjm11 hgn (A_ g) .nl .nl .nl .nl
 cases e3:tS b j n2 with
 |er e=>rw[e3,ie]at h;exact zp k_ xO yZ rfl rfl h
 |ok S n3 =>
 have p3:=aoX e3;have hn3:=p3.2.1;have i3:i64 (n3:Int):=o_;obtain⟨s1,s2,s3,s4,s5⟩:=aj7 hjm11 p3;rw[e3,eD p3]at h;rw[ax];refine zQ k_ xO yZ rfl rfl h ?_;clear h;have h:=axl b hb r q iv n3 0 0 i3 N g o_ j.max hmx S s1 s2 s3.2 (λl hl=>by simp_all) s5 (.d (.int .u8 j.seq)) (.d (.int .u8 j.shape)) (A_ j.max) (.own false 1 (aF j.groups)) .nl .nl .nl
 cases e4:xF b S n3 g with
 |er e=>rw[e4,ie]at h;exact zp k_ xT yZ rfl rfl h
 |ok T n4 =>
 have p4:=aq8 o_ e4;have hn4:=p4.2;have i4:i64 (n4:Int):=o_;rw[e4,eD p4]at h;rw[ax];refine zQ k_ xT yZ rfl rfl h ?_;clear h;have h:=avL b hb r q iv n4 0 0 i4 N [A_ g,.d (.int .u8 j.seq),.d (.int .u8 j.shape),A_ j.max,.own false 1 (aF j.groups),aD 1 (bF S),share (aD 1 (c7 T)),.nl,.nl]
 cases e5:bb b n4 1 with
 |er e=>rw[e5,ie]at h;exact zp k_ xK _ rfl rfl h
 |ok o n5 =>
 have p5:=dU e5;have ho:o<2:=p5.1;have hn5:=p5.2;have i5:i64 (n5:Int):=o_;rw[e5,eD p5]at h;rw[ax];refine zQ k_ xK _ rfl rfl h ?_;clear h;have h:=axm b hb r q iv n5 o 0 i5 N [A_ g,.d (.int .u8 j.seq),.d (.int .u8 j.shape),A_ j.max,.own false 1 (aF j.groups),aD 1 (bF S),share (aD 1 (c7 T)),.nl,.nl]
 cases e6:bb b n5 1 with
 |er e=>rw[e6,ie]at h;exact zp k_ xM _ rfl rfl h
 |ok s n6 =>
 have p6:=dU e6;have hs:s<2:=p6.1;have hn6:=p6.2;have i6:i64 (n6:Int):=o_;rw[e6,eD p6]at h;rw[ax];refine zQ k_ xM _ rfl rfl h ?_;clear h;have key:∃X:R O_,X=(if s=1 then Ni b j n6 else R.ok (List.replicate j.many []) n6)∧(∀F n,X=.ok F n->pTn b j F n∧(Dn prog).call nf [.ptr 8 0,.ptr 0 0,.ptr 5 0,.ptr 4 0,.ptr 6 0] ⟨eK b r q iv [A_ g,.d (.int .u8 j.seq),.d (.int .u8 j.shape),A_ j.max,.own false 1 (aF j.groups),aD 1 (bF S),share (aD 1 (c7 T)),.nl,.nl] n6 0 o s,N⟩=some (.tup [],⟨eK b r q iv [A_ g,.d (.int .u8 j.seq),.d (.int .u8 j.shape),A_ j.max,.own false 1 (aF j.groups),aD 1 (bF S),share (aD 1 (c7 T)),aD 1 (cX F),.nl] n 0 o s,N⟩))∧
   (∀e,X=.er e->(Dn prog).call nf [.ptr 8 0,.ptr 0 0,.ptr 5 0,.ptr 4 0,.ptr 6 0] ⟨eK b r q iv [A_ g,.d (.int .u8 j.seq),.d (.int .u8 j.shape),A_ j.max,.own false 1 (aF j.groups),aD 1 (bF S),share (aD 1 (c7 T)),.nl,.nl] n6 0 o s,N⟩=some (.tup [],⟨eK b r q iv [A_ g,.d (.int .u8 j.seq),.d (.int .u8 j.shape),A_ j.max,.own false 1 (aF j.groups),aD 1 (bF S),share (aD 1 (c7 T)),.nl,.nl] 0 ((e:Int)+1) o s,N⟩)):=by
  refine⟨_,rfl,λF n h=>?_,λe h=>?_⟩
  .by_cases h1:s=1
   .grind [amH,aji,eD]
   .rw[aa h1]at h;injection h with g1 g2
    subst g1 g2;have h3:=auv b r q iv n6 o s N j hj hjm11 o_ (A_ g) (aD 1 (bF S)) (share (aD 1 (c7 T))) .nl .nl;refine⟨⟨s_,hn6,λl hl=>by simp_all⟩,?_⟩;have e9:aD 1 (cX (List.replicate j.many []))=.own false 1 (cX (List.replicate j.many [])):=kN (λhz=>by
     grind [aaY])
    simp_all
  grind [aji,ie]
 obtain⟨X,hX,hX1,hX2⟩:=key;rw[<-hX]
 cases e7:X with
 |er e=>exact zp k_ nf _ rfl rfl (hX2 e e7)
 |ok F n7 =>
 obtain⟨p7,h⟩:=hX1 F n7 e7;have i7:i64 (n7:Int):=o_;rw[ax];refine zQ k_ nf _ rfl rfl h ?_;have h:=awI b hb r q iv n7 o s i7 N [A_ g,.d (.int .u8 j.seq),.d (.int .u8 j.shape),A_ j.max,.own false 1 (aF j.groups),aD 1 (bF S),share (aD 1 (c7 T)),aD 1 (cX F),.nl] (by omega)
 cases e8:bb b n7 1 with
 |er e=>rw[e8,ie]at h;exact zp k_ xP _ rfl rfl h
 |ok p n8 =>
 have p8:=dU e8;have hn8:=p8.2;rw[e8,eD p8]at h;rw[ax];refine zQ k_ xP _ rfl rfl h ⟨⟨λH n hh=>?_,λe hh=>absurd hh s_⟩,λH n hh=>?_⟩
 .grind [asZ]
 .injection hh with g1 g2
  subst g1 g2;exact⟨d_,hj,hjm,s3,s4,p4.1,⟨p7.1,p7.2.2⟩,by grind [VM],d_,hn8⟩
structure GO where
 o1:Obj
 o2:Obj
 o3:Obj
 o7:Obj
 o8:Obj
 o9:Obj
 oX:Obj
 o14:Obj
 o15:Obj
 o16:Obj
abbrev GH (b:C_)(g:GO)(cs:D_)(nx e:Int)(Z:G_)(C:D_)(lo:Obj)(T:am):am:=(0,.cells [.d (.lst (ak b))])::(1,g.o1)::(2,g.o2)::(3,g.o3)::(4,.cells cs)::(5,.cells [A_ nx])::(6,.cells [A_ e])::(7,g.o7)::(8,g.o8)::(9,g.o9)::(10,g.oX)::(11,.arr 1 (aF Z))::(12,.cells C)::(13,.cells [.ptr 12 0])::(14,g.o14)::(15,g.o15)::(16,g.o16)::(17,lo)::T
abbrev av9:aV:=[(5,.ptr 0 0),(10,.ptr 4 0),(11,.ptr 5 0),(12,.ptr 6 0),(13,.ptr 7 0),(14,.ptr 8 0),(18,.ptr 13 0),(82,.fn iw [] [.ptr 15 0,.ptr 14 0,.ptr 16 0])]
def apf {Z l:G_}{a:Nat}:aE (aF Z) a (aF l)=aF (aE Z a l):=by simp[aE,aF]
def auO {h:am}{xs:E_}{id a b n:Nat}(hab:a<=b)(hb:b<=n)(hn:n<=1000000000)(hg:get h id=some (.arr 1 xs))(x y:Int)(hx:x=a)(hy:y=b):pU h 1 (.sl id 0 n) (some (A_ x)) (some (A_ y)) none=some (.sl id a (b-a)):=by
 subst hx hy;have e1:dM (A_ (b:Int)) n=some b:=by rw[wD o_ o_];simp
 have e2:dM (A_ (a:Int)) b=some a:=by rw[wD o_ o_];simp
 have e3:okSl h 1 (.sl id 0 n)=true:=by simp only[okSl,hg];rfl
 simp only[pU,e3,tU,lenOf,vF,uN,e1,e2,br]
def atx {h:am}{Z l:G_}{id a n:Nat}{y:AV}(hn:l.length=n)(hb:a+n<=Z.length)(he:elems h y=some (aF l))(hg:get h id=some (.arr 1 (aF Z))):agt 1 h (.sl id a n) y=some (.int .i64 (n:Nat),put h id (.arr 1 (aF (aE Z a l)))):=by
 have e1:Nat.ble (a+n) (aF Z).length=true:=by rw[bg,gQ];exact hb
 have e2:min n (aF l).length=n:=by rw[gQ,hn,Nat.min_self]
 have e3:(aF l).take n=aF l:=cg (by rw[gQ];omega);have e4:(fB 1 (aF l) && Nat.beq 1 1 && Nat.ble (a+n) (aF Z).length)=true:=by rw[aru,e1];rfl
 simp only[agt,he,hg,e4,e2,e3,apf];rfl
def avH {F:D_->am}{A N:Nat}(hL:∀C,Lt (F C) N)(hg:∀C T,get (F C++T) A=some (.cells C))(hp:∀C T C',put (F C++T) A (.cells C')=F C'++T):Bk (λC T=>F C++T) A N:=by
 refine⟨hg,hp,λC o=>?_,λC o o'=>Gb (hL C),λC o=>wC (hL C),λC o=>?_⟩
 .show put (F C++[]) N o=_;rw[be];exact tR (hL C)
 .show _=F C++[];rw[be];exact Lo (hL C)
def av8 (b:C_)(g:GO)(cs:D_)(nx e0:Int)(Z:G_)(lo:Obj)(K:Nat)(hK:18<=K)(o w:Obj)(N:Nat)(hN:K<N):Bk (λC T=>GH b g cs nx e0 Z C lo [(K,o),(N,w)]++T) 12 (N+1):=by
 refine avH (λC p hp=>?_) (λC T=>rfl) (λC T C'=>rfl);simp only[aB,cU,fC]at hp;rcases hp with rfl|rfl|rfl|rfl|rfl|rfl|rfl|rfl|rfl|rfl|rfl|rfl|rfl|rfl|rfl|rfl|rfl|rfl|rfl|rfl<;>simp only[]<;>omega
abbrev pq (d:Bool):Obj:=.loop av9 [83] rA qL d none
abbrev M3:Obj:=.loop av9 [83] rA qL false (some .ret)
abbrev plO (p:Nat×Nat):Obj:=.cells [A_ (p.1:Int),A_ (p.2:Int),A_ ((p.2+bB p.1:Nat):Int)]
def aza (b:C_)(g:GO)(a0 a1 a2 a3 a4 a5 a6 a7:AV)(nx e0:Int)(Z:G_)(hZ:Z.length=256)(C:D_)(hC:FV C)(p:Nat×Nat)(hp:(1<=p.1∧p.1<=11)∧p.2+bB p.1<=256)(l:G_)(hl:l.length=bB p.1)(n2:Nat)(hh:bq prog wF [.d (.lst (ak b)),A_ nx,mS p.1]=some (.tup [.own true 1 (aF l),A_ n2,A_ 0]))(K:Nat)(o:Obj)(hK:18<=K)(N:Nat)(hN:K<N) :
  b7 (Dn prog) (.yield 17) [.agg [A_ (p.1:Int),A_ (p.2:Int),A_ ((p.2+bB p.1:Nat):Int)]] ⟨GH b g [a0,a1,a2,a3,a4,a5,a6,a7,.sl 11 0 256] nx e0 Z C (pq false) [(K,o)],N⟩ =
  some (B_ true,⟨GH b g [a0,a1,a2,a3,a4,a5,a6,a7,.sl 11 0 256] n2 0 (aE Z p.2 l) (aE C (4*p.1) (qC p.1)) (pq false) [(K,o)],N+1+1⟩):=by
 obtain⟨h1,h2⟩:=hp;have hB:=O9 (av8 b g [a0,a1,a2,a3,a4,a5,a6,a7,.sl 11 0 256] nx e0 Z (pq true) K hK o (plO p) N hN) C hC p.1 h1;have hs:=λC2=>auO (h:=GH b g [a0,a1,a2,a3,a4,a5,a6,a7,.sl 11 0 256] n2 0 Z C2 (pq true) [(K,o),(N,plO p)]) (xs:=aF Z) (id:=11) (a:=p.2) (b:=p.2+bB p.1) (n:=256) o_ h2 o_ rfl (p.2:Int) _ rfl rfl
 rw[fL]at hs;have hc:=λC2=>atx (h:=GH b g [a0,a1,a2,a3,a4,a5,a6,a7,.sl 11 0 256] n2 0 Z C2 (pq true) [(K,o),(N,plO p)]) (id:=11) (a:=p.2) (n:=bB p.1) (y:=.own false 1 (aF l)) hl o_ rfl rfl
 generalize aE C (4*p.1) (qC p.1)=C2 at *;replace hs:=hs C2;replace hc:=hc C2;obtain⟨TO,hT⟩:∃TO:Int,TO=((p.2+bB p.1:Nat):Int):=⟨_,rfl⟩
 simp only[GH,plO,pq,aR,aO,mS]at hB hs hc hh⊢;rw[<-hT]at hB hs hc⊢;obtain⟨o1,o2,o3,o7,o8,o9,oX,o14,o15,o16⟩:=g;simp only[]at *;have eA:∀st,(Dn prog).code rA st=(Dn prog).code Es st:=λ_=>rfl
 have eB:∀st,(Dn prog).code qL st=(Dn prog).code (.block 3
  (.seq E2
  (.seq (.seq (.seq yc (Vm.K [18,84]))
  (.seq EJ
  (.cond (.m 96)
  (.seq (.seq (Vm.K [20]) (F 19)) (.seq (.seq yd (Vm.K [12]))
  .ret))
  (.seq (Vm.K [11,12]) .skip))))
  (.seq Fc (F 19))))) st:=λ_=>rfl
 simp(config := { maxSteps:=1000000 }) (disch:=omega)[↓ac,↓aa,eA,eB,hh,hB,hs,hc]
def ayf (b:C_)(g:GO)(a0 a1 a2 a3 a4 a5 a6 a7:AV)(nx e0:Int)(Z:G_)(C:D_)(hC:FV C)(p:Nat×Nat)(hp:(1<=p.1∧p.1<=11)∧p.2+bB p.1<=256)(e:Nat)(hh:bq prog wF [.d (.lst (ak b)),A_ nx,mS p.1]=some (.tup [.nl,A_ 0,A_ (e+1)]))(K:Nat)(o:Obj)(hK:18<=K)(N:Nat)(hN:K<N) :
  b7 (Dn prog) (.yield 17) [.agg [A_ (p.1:Int),A_ (p.2:Int),A_ ((p.2+bB p.1:Nat):Int)]] ⟨GH b g [a0,a1,a2,a3,a4,a5,a6,a7,.sl 11 0 256] nx e0 Z C (pq false) [(K,o)],N⟩ =
  some (B_ false,⟨GH b g ac6 0 ((e:Int)+1) Z (aE C (4*p.1) (qC p.1)) M3 [(K,o)],N+1+1⟩):=by
 obtain⟨h1,h2⟩:=hp;have hB:=O9 (av8 b g [a0,a1,a2,a3,a4,a5,a6,a7,.sl 11 0 256] nx e0 Z (pq true) K hK o (plO p) N hN) C hC p.1 h1;generalize aE C (4*p.1) (qC p.1)=C2 at *;obtain⟨TO,hT⟩:∃TO:Int,TO=((p.2+bB p.1:Nat):Int):=⟨_,rfl⟩
 simp only[GH,plO,pq,M3,aR,aO,mS]at hB hh⊢;rw[<-hT]at hB⊢;obtain⟨o1,o2,o3,o7,o8,o9,oX,o14,o15,o16⟩:=g;simp only[]at *;have eA:∀st,(Dn prog).code rA st=(Dn prog).code Es st:=λ_=>rfl
 have eB:∀st,(Dn prog).code qL st=(Dn prog).code (.block 3
  (.seq E2
  (.seq (.seq (.seq yc (Vm.K [18,84]))
  (.seq EJ
  (.cond (.m 96)
  (.seq (.seq (Vm.K [20]) (F 19)) (.seq (.seq yd (Vm.K [12]))
  .ret))
  (.seq (Vm.K [11,12]) .skip))))
  (.seq Fc (F 19))))) st:=λ_=>rfl
 simp(config := { maxSteps:=1000000 }) (disch:=omega)[↓ac,↓aa,eA,eB,hh,hB]
def UB {r:Nat}{jj:aM}{SS:H_}(hm:jj.may r)(hS:jn jj SS)(hr:r<=11){p:Nat×Nat}(hp:p∈pB (offs r jj.short) SS jj.groups 0):(1<=p.1∧p.1<=11)∧p.2+bB p.1<=256:=by
 have hm11:=fG hr hm;obtain⟨g1,g2⟩:=dp hm11;obtain⟨w,g,j,l,e1,e2,e3,e4,e5,e6,x,e7,e8⟩:=Kz hS.2 (λn hn=>(g1 n hn).1) hp;obtain⟨o1,o2,o3⟩:=mX (r,jj.short) (fh o_);simp only at o1 o2 o3;have hmx:=hm.2.2.2.1;have hlm:l∈SS:=eu e1;have hbl:=rV (hS.2 l hlm) hm.2.2.1;have hjl:j<(aK l).length:=(aH.1 e5).1;have hmy:qA r (decide (jj.seq=2))=(offs r jj.short).length-1:=rfl;have hj1:j+1<(offs r jj.short).length:=o_;have hoj:nth (offs r jj.short) j<nth (offs r jj.short) (j+1)∧(nth (offs r jj.short) (j+1)-nth (offs r jj.short) j) % 4=0:=by
  have:=bC.1 o1 j (dL.2 o_);simpa using this
 have hos:∀k,k+1<(offs r jj.short).length->nth (offs r jj.short) k<nth (offs r jj.short) (k+1):=λk hk=>by
  have:=bC.1 o1 k (dL.2 o_);simp only[af,decide_eq_true_eq]at this;exact this.1
 have hd4:bB p.1=4∨bB p.1=2:=by unfold bB;split<;>simp
 have hx:=Lp (d:=bB p.1) o_ (by rcases hd4 with h|h<;>rw[h]<;>omega) e7;have hw:(w:Int)<jj.many:=o_;have ho256:nth (offs r jj.short) (j+1)<=cond jj.short 32 256:=by
  have:=bC.1 o3 _ (iP hj1);simpa using this
 have hcond:(cond jj.short 32 256:Nat)=jj.wide:=by
  unfold aM.short aM.wide;by_cases h:jj.seq=2
  .rw[decide_eq_true h,ac h];rfl
  .rw[decide_eq_false h,aa h];rfl
 rw[hcond]at ho256;have hww:w*32=w*jj.wide∧w*jj.wide+jj.wide<=256:=by
  unfold aM.many at hw;unfold aM.wide;split at hw
  .rename_i h2;rw[ac h2];omega
  .rename_i h2;rw[aa h2];omega
 exact⟨e6,o_⟩
def awL:∀id∈List.range 12,1<=id->dX id=bB id:=e_
def jJ (b:C_):R_->Nat->G_->R G_
 |[],n,Z=>.ok Z n
 |p::r,n,Z=>(DC p.1 b n).bind λl m=>jJ b r m (aE Z p.2 l)
abbrev StG:Type:=D_×Nat×G_
abbrev Uq (b:C_)(p:Nat×Nat)(s:StG):Sum StG (D_×Nat×G_):=match DC p.1 b s.2.1 with
 |.ok l n=>.inl (aE s.1 (4*p.1) (qC p.1),n,aE s.2.2 p.2 l)
 |.er e=>.inr (aE s.1 (4*p.1) (qC p.1),e,s.2.2)
abbrev Bg:D_:=[A_ 0,.d (.int .u8 0),.d (.int .u8 0),A_ 0,.nl,.nl,.nl,.nl,.nl]
abbrev aA7 (B:Nat)(r:R_)(s:StG):Prop:=FV s.1∧s.2.1<=B∧s.2.2.length=256∧(∀x∈s.2.2,-40000<=x∧x<=40000)∧∀p∈r,(1<=p.1∧p.1<=11)∧p.2+bB p.1<=256
def U9 {Z l:G_}{a:Nat}(h:a+l.length<=Z.length):(aE Z a l).length=Z.length:=by
 simp only[aE,al,cV,dZ];omega
def auB {Z l:G_}{a:Nat}{x:Int}(h:x∈aE Z a l):x∈Z∨x∈l:=by
 simp only[aE,bi]at h;rcases h with (h|h)|h
 .exact .inl (eq h)
 .exact .inr h
 .exact .inl (gO h)
def ayT (b:C_)(hb:b.length<=1000000000)(g:GO)(a0 a1 a2 a3 a4 a5 a6 a7:AV):Pa (fun(s:StG) T=>GH b g [a0,a1,a2,a3,a4,a5,a6,a7,.sl 11 0 256] s.2.1 0 s.2.2 s.1 (pq false) T) (fun(z:D_×Nat×G_) T=>GH b g Bg 0 ((z.2.1:Int)+1) z.2.2 z.1 M3 T) 18 17 (Uq b) (aA7 b.length):=by
 intro p r s K o N hi hK hN;obtain⟨C,n0,Z⟩:=s;obtain⟨i1,i2,i3,i4,i5⟩:=hi;simp only at i1 i2 i3 i4;have hp:=i5 p (.head _);have hH:=aqB p.1 b n0 hb o_ hp.1;have hd:=awL p.1 (dL.2 o_) hp.1.1
 cases e:DC p.1 b n0 with
 |ok l n =>
  have hq:=as0 ⟨hp.1.1,o_⟩ e;rw[e,eD hq]at hH;obtain⟨q1,q2,q3⟩:=hq;have hl:l.length=bB p.1:=o_;refine .inl ⟨(aE C (4*p.1) (qC p.1),n,aE Z p.2 l),N+1+1,o_,by simp only[Uq,e],⟨abf i1 hp.1,q2,?_,λx hx=>?_,λq hq=>i5 q (.tail _ hq)⟩,aza b g a0 a1 a2 a3 a4 a5 a6 a7 n0 0 Z i3 C i1 p hp l hl n hH K o hK N hN⟩
  .show(aE Z p.2 l).length=256;rw[U9 o_];exact i3
  .rcases auB hx with h|h
   .exact i4 x h
   .exact q3 x h
 |er e2 =>
  rw[e,ie]at hH;exact .inr ⟨(aE C (4*p.1) (qC p.1),e2,Z),N+1+1,o_,by simp only[Uq,e],ayf b g a0 a1 a2 a3 a4 a5 a6 a7 n0 0 Z C i1 p hp e2 hH K o hK N hN⟩
def arW {b:C_}:∀{r:R_}{C:D_}{n:Nat}{Z:G_},(∀Z2 m,jJ b r n Z=.ok Z2 m->∃C2,kt (Uq b) r (C,n,Z)=.inl (C2,m,Z2))∧∀e,jJ b r n Z=.er e->∃C2 Z2,kt (Uq b) r (C,n,Z)=.inr (C2,e,Z2)
 |[],C,n,Z=>⟨λZ2 m h=>by
   injection h with g1 g2
   subst g1 g2;exact⟨C,rfl⟩,λe h=>absurd h (by simp[jJ])⟩
 |p::r,C,n,Z=>by
  rw[jJ,kt]
  cases e:DC p.1 b n with
  |ok l m =>
   simp only[Uq,e,ax];exact arW
  |er e2 =>
   simp only[Uq,e];exact⟨λZ2 m h=>absurd h s_,λe3 h=>by
    injection h with h
    subst h;exact⟨_,_,rfl⟩⟩
def asj {b:C_}{g:GO}{cs:D_}{nx e0:Int}{Z:G_}{C:D_}{lo:Obj}{L:Nat}(hL:18<=L):Lt (GH b g cs nx e0 Z C lo []) L:=by
 intro p hp;simp only[aB,cU,fC]at hp;rcases hp with rfl|rfl|rfl|rfl|rfl|rfl|rfl|rfl|rfl|rfl|rfl|rfl|rfl|rfl|rfl|rfl|rfl|rfl<;>simp only[]<;>omega
def aog {σ:Type}{F:σ->am}{L:Nat}(hL:∀s,Lt (F s) L):Tl (λs T=>F s++T) L:=by
 refine⟨λs K o h=>?_,λs K o o' h=>Gb (IL (hL s) h),λs K o h=>wC (IL (hL s) h),λs K o h=>?_⟩
 .show put (F s++[]) K o=_;rw[be];exact tR (IL (hL s) h)
 .show _=F s++[];rw[be];exact Lo (IL (hL s) h)
abbrev Ll (r:Nat)(jj:aM)(S:H_):R_:=pB (offs r jj.short) S jj.groups 0
abbrev Z0:G_:=List.replicate 256 0
def abx (b:C_)(hb:b.length<=1000000000)(g:GO)(a0 a1 a2 a3 a4 a5 a6 a7:AV)(r:Nat)(hr:r<=11)(jj:aM)(hj:jj.Fit)(hm:jj.may r)(S:H_)(hS:jn jj S)(g14:g.o14=.cells jj.cells)(g15:g.o15=.cells [.d (.lst (bF S))])(g16:g.o16=.cells [.own false 1 (cN (offs r jj.short))])(n:Nat)(hn:n<=b.length) :
  (∀Z m,jJ b (Ll r jj S) n Z0=.ok Z m->Z.length=256∧(∀x∈Z,-40000<=x∧x<=40000)∧m<=b.length∧∃C2 M,(Dn prog).call iw [.yield 17,.ptr 15 0,.ptr 14 0,.ptr 16 0] ⟨GH b g [a0,a1,a2,a3,a4,a5,a6,a7,.sl 11 0 256] n 0 Z0 tT (pq false) [],18⟩=some (.tup [],⟨GH b g [a0,a1,a2,a3,a4,a5,a6,a7,.sl 11 0 256] m 0 Z C2 (pq false) [],M⟩))∧
  (∀e,jJ b (Ll r jj S) n Z0=.er e->∃C2 Z2 M,(Dn prog).call iw [.yield 17,.ptr 15 0,.ptr 14 0,.ptr 16 0] ⟨GH b g [a0,a1,a2,a3,a4,a5,a6,a7,.sl 11 0 256] n 0 Z0 tT (pq false) [],18⟩=some (.tup [],⟨GH b g Bg 0 ((e:Int)+1) Z2 C2 M3 [],M⟩)):=by
 obtain⟨o1,o2,o3,o4⟩:=zM (r,jj.short) (fh o_);obtain⟨p1,p2,p3⟩:=mX (r,jj.short) (fh o_);simp only at o1 o2 o3 o4 p1 p2 p3;have hmx:=hm.2.2.2.1;have hmy:qA r (decide (jj.seq=2))=(offs r jj.short).length-1:=rfl;have hhi:∀x∈offs r jj.short,x<=256:=λx hx=>by
  have:=bC.1 p3 x hx;simp only[decide_eq_true_eq]at this;have:(cond jj.short 32 256:Nat)<=256:=by cases jj.short<;>decide
  omega
 have hT:Tl (fun(s:StG) T=>GH b g [a0,a1,a2,a3,a4,a5,a6,a7,.sl 11 0 256] s.2.1 0 s.2.2 s.1 (pq false) T) 18:=aog (F:=fun(s:StG)=>GH b g [a0,a1,a2,a3,a4,a5,a6,a7,.sl 11 0 256] s.2.1 0 s.2.2 s.1 (pq false) []) (λs=>asj (ai _));have hT2:Tl (fun(z:D_×Nat×G_) T=>GH b g Bg 0 ((z.2.1:Int)+1) z.2.2 z.1 M3 T) 18:=aog (F:=fun(z:D_×Nat×G_)=>GH b g Bg 0 ((z.2.1:Int)+1) z.2.2 z.1 M3 []) (λs=>asj (ai _));have hpl:=adX (P:=⟨17,14,16,S,offs r jj.short⟩) jj hj (fG hr hm) 15 hT hT2 (ayT b hb g a0 a1 a2 a3 a4 a5 a6 a7) (λs=>by rw[<-g15];rfl) (λs T=>by rw[<-g14];rfl) (λs T=>by rw[<-g16];rfl) t_ hhi t_ hS 18 (ai _) (tT,n,Z0) ⟨aer,hn,by simp only[bn],λx hx=>by rw[eg hx];omega,λp hp=>UB hm hS hr hp⟩;have hru:=arW (b:=b) (r:=Ll r jj S) (C:=tT) (n:=n) (Z:=Z0);refine⟨λZ m e=>?_,λe1 e=>?_⟩
 .obtain⟨C2,h1⟩:=hru.1 Z m e;rcases hpl with ⟨s2,M,hM,e1,⟨i1,i2,i3,i4,i5⟩,e5⟩|⟨z,M,hM,e1,e3⟩
  .rw[h1]at e1;injection e1 with e1
   subst e1;exact⟨i3,i4,i2,C2,M,e5⟩
  .rw[h1]at e1;exact absurd e1 (by simp)
 .obtain⟨C2,Z2,h1⟩:=hru.2 e1 e;rcases hpl with ⟨s2,M,hM,e1,⟨i1,i2,i3,i4,i5⟩,e5⟩|⟨z,M,hM,e1,e3⟩
  .rw[h1]at e1;exact absurd e1 (by simp)
  .rw[h1]at e1;injection e1 with e1
   subst e1;exact⟨C2,Z2,M,e3⟩
def arK:Eh [.int .i64 0] (A_ 256) (A_ 256)=some (.own true 1 (aF Z0)):=(Cl (z:=[.int .i64 0]) (n:=256) o_).trans (by simp[aF])
def ank:(aF Z0).length=256:=by rw[gQ,bn]
abbrev Sc (H:Hd)(Z:G_):D_:=[A_ H.gain,.d (.int .u8 H.inf.seq),.d (.int .u8 H.inf.shape),A_ H.inf.max,.d (.lst (aF H.inf.groups)),.d (.lst (bF H.S)),.d (.lst (c7 H.T)),.d (.lst (cX H.F)),.own true 1 (aF Z)]
def ami:∀r<12,(bq prog vX [A_ ((r:Nat):Int),.agg zI]=some (A_ 8)):=by
 intro r hr;have:r=0∨r=1∨r=2∨r=3∨r=4∨r=5∨r=6∨r=7∨r=8∨r=9∨r=10∨r=11:=o_;rcases this with rfl|rfl|rfl|rfl|rfl|rfl|rfl|rfl|rfl|rfl|rfl|rfl<;>exact zR 400 (by kernel_rfl)
def Ne {r:Nat}{q:Bool}{i:aM}{iv:D_}(hr:r<=11)(hi:i.Fit)(hiv:iv=i.cells∨q=false∧iv=zI)(hq:q=true->i.may r):∃k:Int,(q=true->k=0)∧bq prog vX [A_ r,.agg iv]=some (A_ k):=by
 rcases hiv with rfl|⟨rfl,rfl⟩
 .have hI:=wT r i hi;rw[ac o_,aq]at hI;by_cases hm:i.may r
  .rw[ac hm]at hI;exact⟨0,λ_=>rfl,hI⟩
  .rw[aa hm]at hI;exact⟨8,λh=>absurd (hq h) hm,hI⟩
 .exact⟨8,λh=>absurd h s_,ami r o_⟩
def asW (b:C_)(hb:b.length<=1000000000)(a:Int)(ha:i64 a)(r:Nat)(hr:r<=11)(q:Bool)(i:aM)(hi:i.Fit)(iv:D_)(hiv:iv=i.cells∨q=false∧iv=zI)(hq:q=true->i.may r)(n0:Nat)(e0:bb b a 0=.ok 0 n0)(H:Hd)(n:Nat)(eH:Az b n0 r q i=.ok H n)(Z:G_)(m:Nat)(eL:jJ b (Ll r H.inf H.S) n Z0=.ok Z m):bq prog rT [.d (.lst (ak b)),A_ a,A_ r,B_ q,.agg iv] =
  if H.od=0∧(H.is=1->nE H.F=true) then some (.tup [.agg (Sc H Z),A_ m,A_ 0])
  else some (.tup [.agg Bg,A_ 0,A_ 8]):=by
 have hR:dP (r:Int):=o_;have hB:=gW b a 0 hb ha;have p0:=dU e0;rw[e0,eD p0]at hB;obtain⟨k,hk0,hI⟩:=Ne hr hi hiv hq;have hh:=Nx b hb r hR q i hi iv hiv (λh=>by rw[aq];exact hq h) n0 (by have:=p0.2;omega) k 11;rw[aq]at hh;have p1:=hh.2 H n eH;have hl:=hh.1.1 H n eH;have hM:=ka r false;rw[ac hR]at hM;obtain⟨G,j,S,T,Ft,od,is⟩:=H;have hF:=QM Ft (by have:=p1.F.1;simp only at this;have:=vR j;omega) (λl hl=>by have:=(p1.F.2 l hl).1;omega);simp only[adC]at hl eL;obtain⟨q1,q2,q3,C2,M,hp⟩:=(abx b hb ⟨.cells [.junk],.cells [B_ q],.cells iv,.cells [A_ od],.cells [A_ is],.cells [afT],.cells vJ,.cells j.cells,.cells [.d (.lst (bF S))],.cells [.own false 1 (cN (offs r j.short))]⟩ (A_ G) (.d (.int .u8 j.seq)) (.d (.int .u8 j.shape)) (A_ j.max) (.own false 1 (aF j.groups)) (aD 1 (bF S)) (share (aD 1 (c7 T))) (aD 1 (cX Ft)) r hr j p1.fit p1.may S p1.S rfl rfl rfl n p1.n).1 Z m eL;have hj11:=fG hr p1.may;have hSl:S.length=j.groups.length:=p1.S.1;have hTl:=bl List.length p1.T;simp only[gw]at hTl;have hFl:=p1.F.1;simp only at hFl;have hmn:=vR j;have hgn:j.groups≠[]:=λh=>by have:=(dp hj11).2;rw[h]at this;simp at this;omega
 have hg1:=bH.2 hgn;obtain⟨s1,S1,rfl⟩:=cY (bH.1 (show 0<S.length by omega));obtain⟨t1,T1,rfl⟩:=cY (bH.1 (show 0<T.length by omega));obtain⟨f1,F1,rfl⟩:=cY (bH.1 (show 0<Ft.length by omega));have eS:aD 1 (bF (s1::S1))=.own false 1 (bF (s1::S1)):=rfl;have eT:share (aD 1 (c7 (t1::T1)))=.d (.lst (c7 (t1::T1))):=rfl;have eF:aD 1 (cX (f1::F1))=.own false 1 (cX (f1::F1)):=rfl;have hP:=Ns r hr j (.lst (bF (s1::S1))) [(0,.cells [.d (.lst (ak b))]),(1,.cells [.junk]),(2,.cells [B_ q]),(3,.cells iv),(4,.cells [A_ G,.d (.int .u8 j.seq),.d (.int .u8 j.shape),A_ j.max,.own false 1 (aF j.groups),.own false 1 (bF (s1::S1)),.d (.lst (c7 (t1::T1))),.own false 1 (cX (f1::F1)),.sl 11 0 256]),(5,.cells [A_ n]),(6,.cells [A_ 0]),(7,.cells [A_ od]),(8,.cells [A_ is]),(9,.cells [afT]),(10,.cells vJ),(11,.arr 1 (aF Z0)),(12,.cells tT),(13,.cells [.ptr 12 0])] 14 (λp hp=>by
  simp only[aB,cU,fC]at hp;rcases hp with rfl|rfl|rfl|rfl|rfl|rfl|rfl|rfl|rfl|rfl|rfl|rfl|rfl|rfl<;>simp only[]<;>omega)
 have c0:((0:Nat):Int)=0:=rfl;rw[eS,eT,eF]at hl hp;simp only[Sc,aM.cells,GH,pq,aR,aO,c0]at hI hl hp hP hB⊢;clear hh p1 eL eH q2 eS eT eF hi;generalize bF (s1::S1)=SS at *;generalize c7 (t1::T1)=TT at *;generalize cX (f1::F1)=FF at *;generalize hz:aF Z0=z0 at *;have hk:=arK;have hz2:=ank;rw[hz]at hk hz2;rw[aU D8 DK rfl];have hmk:IY 1 vJ=true:=rfl;simp only[vJ,yZ]at hmk;have hZt:List.take 256 Z=Z:=cg o_;have hoi:(od=0∧((((is:Nat):Int)=1∧nE (f1::F1)=true)∨(((is:Nat):Int)≠1)))∨(od=0∧((is:Nat):Int)=1∧nE (f1::F1)=false)∨od≠0:=by
  cases nE (f1::F1)<;>simp<;>omega
 have hii:(is=1)=(((is:Nat):Int)=1):=propext o_;simp only[hii];clear hii;generalize nE (f1::F1)=an at *;generalize ((is:Nat):Int)=iz at *;rcases hoi with ⟨h1,⟨h2,h3⟩|h2⟩|⟨h1,h2,h3⟩|h1
 .subst h3;rw[ac ⟨h1,λ_=>rfl⟩];rcases hiv with rfl|⟨rfl,rfl⟩
  .simp only[aM.cells]at hI hl hp hP⊢
   cases q with
   |true =>
    have:=hk0 rfl;subst this;simp(config := { maxSteps:=1000000 }) (disch:=omega)[↓ac,↓aa,rd,hB,hM,hI,hl,hk,hz2,hP,hp,hmk,hF,q1,hZt]
   |false=>simp(config := { maxSteps:=1000000 }) (disch:=omega)[↓ac,↓aa,rd,hB,hM,hI,hl,hk,hz2,hP,hp,hmk,hF,q1,hZt]
  .simp only[zI]at hI hl hp hP⊢;simp(config := { maxSteps:=1000000 }) (disch:=omega)[↓ac,↓aa,rd,hB,hM,hI,hl,hk,hz2,hP,hp,hmk,hF,q1,hZt]
 .rw[ac ⟨h1,λh=>absurd h h2⟩];rcases hiv with rfl|⟨rfl,rfl⟩
  .simp only[aM.cells]at hI hl hp hP⊢
   cases q with
   |true =>
    have:=hk0 rfl;subst this;simp(config := { maxSteps:=1000000 }) (disch:=omega)[↓ac,↓aa,rd,hB,hM,hI,hl,hk,hz2,hP,hp,hmk,hF,q1,hZt]
   |false=>simp(config := { maxSteps:=1000000 }) (disch:=omega)[↓ac,↓aa,rd,hB,hM,hI,hl,hk,hz2,hP,hp,hmk,hF,q1,hZt]
  .simp only[zI]at hI hl hp hP⊢;simp(config := { maxSteps:=1000000 }) (disch:=omega)[↓ac,↓aa,rd,hB,hM,hI,hl,hk,hz2,hP,hp,hmk,hF,q1,hZt]
 .subst h3;rw[aa (λh=>absurd (h.2 h2) s_)];rcases hiv with rfl|⟨rfl,rfl⟩
  .simp only[aM.cells]at hI hl hp hP⊢
   cases q with
   |true =>
    have:=hk0 rfl;subst this;simp(config := { maxSteps:=1000000 }) (disch:=omega)[↓ac,↓aa,rd,hB,hM,hI,hl,hk,hz2,hP,hp,hmk,hF,q1,hZt]
   |false=>simp(config := { maxSteps:=1000000 }) (disch:=omega)[↓ac,↓aa,rd,hB,hM,hI,hl,hk,hz2,hP,hp,hmk,hF,q1,hZt]
  .simp only[zI]at hI hl hp hP⊢;simp(config := { maxSteps:=1000000 }) (disch:=omega)[↓ac,↓aa,rd,hB,hM,hI,hl,hk,hz2,hP,hp,hmk,hF,q1,hZt]
 .rw[aa (λh=>absurd h.1 h1)];rcases hiv with rfl|⟨rfl,rfl⟩
  .simp only[aM.cells]at hI hl hp hP⊢
   cases q with
   |true =>
    have:=hk0 rfl;subst this;simp(config := { maxSteps:=1000000 }) (disch:=omega)[↓ac,↓aa,rd,hB,hM,hI,hl,hk,hz2,hP,hp,hmk,hF,q1,hZt]
   |false=>simp(config := { maxSteps:=1000000 }) (disch:=omega)[↓ac,↓aa,rd,hB,hM,hI,hl,hk,hz2,hP,hp,hmk,hF,q1,hZt]
  .simp only[zI]at hI hl hp hP⊢;simp(config := { maxSteps:=1000000 }) (disch:=omega)[↓ac,↓aa,rd,hB,hM,hI,hl,hk,hz2,hP,hp,hmk,hF,q1,hZt]
abbrev p9:=@Classical.byContradiction
def aoR (b:C_)(hb:b.length<=1000000000)(a:Int)(ha:i64 a)(r:Nat)(hr:r<=11)(q:Bool)(i:aM)(iv:D_)(hiv:iv=i.cells∨q=false∧iv=zI)(e:Nat)(e0:bb b a 0=.er e):bq prog rT [.d (.lst (ak b)),A_ a,A_ r,B_ q,.agg iv] =
  some (.tup [.agg Bg,A_ 0,A_ (e+1)]):=by
 have hR:dP (r:Int):=o_;have hB:=gW b a 0 hb ha;rw[e0,ie]at hB;have hM:=ka r false;rw[ac hR]at hM;rcases hiv with rfl|⟨rfl,rfl⟩
 all_goals
  simp only[aM.cells,zI];rw[aU D8 DK rfl];simp(config := { maxSteps:=1000000 }) (disch:=omega)[↓ac,↓aa,rd,hB,hM]
def ary (b:C_)(hb:b.length<=1000000000)(a:Int)(ha:i64 a)(r:Nat)(hr:r<=11)(i:aM)(hi:i.Fit)(hm:¬i.may r)(n0:Nat)(e0:bb b a 0=.ok 0 n0):bq prog rT [.d (.lst (ak b)),A_ a,A_ r,B_ true,.agg i.cells] =
  some (.tup [.agg Bg,A_ 0,A_ 8]):=by
 have hR:dP (r:Int):=o_;have hB:=gW b a 0 hb ha;have p0:=dU e0;rw[e0,eD p0]at hB;have hM:=ka r false;rw[ac hR]at hM;have hI:=wT r i hi;rw[ac hR,aq,aa hm]at hI;have c0:((0:Nat):Int)=0:=rfl;simp only[aM.cells,c0]at hI hB⊢;rw[aU D8 DK rfl];simp(config := { maxSteps:=1000000 }) (disch:=omega)[↓ac,↓aa,rd,hB,hM,hI]
def apq (b:C_)(hb:b.length<=1000000000)(a:Int)(ha:i64 a)(r:Nat)(hr:r<=11)(q:Bool)(i:aM)(hi:i.Fit)(iv:D_)(hiv:iv=i.cells∨q=false∧iv=zI)(hq:q=true->i.may r)(n0:Nat)(e0:bb b a 0=.ok 0 n0)(e:Nat)(eH:Az b n0 r q i=.er e):bq prog rT [.d (.lst (ak b)),A_ a,A_ r,B_ q,.agg iv] =
  some (.tup [.agg Bg,A_ 0,A_ (e+1)]):=by
 have hR:dP (r:Int):=o_;have hB:=gW b a 0 hb ha;have p0:=dU e0;rw[e0,eD p0]at hB;obtain⟨k,hk0,hI⟩:=Ne hr hi hiv hq;have hh:=Nx b hb r hR q i hi iv hiv (λh=>by rw[aq];exact hq h) n0 (by have:=p0.2;omega) k 11;rw[aq]at hh;obtain⟨od2,is2,hl⟩:=hh.1.2 e eH;have hM:=ka r false;rw[ac hR]at hM;have c0:((0:Nat):Int)=0:=rfl;simp only[aM.cells,c0]at hI hl hB⊢;clear hh eH hi hq;rw[aU D8 DK rfl];have hmk:IY 1 vJ=true:=rfl;simp only[vJ,yZ]at hmk;rcases hiv with rfl|⟨rfl,rfl⟩
 .simp only[aM.cells]at hI hl⊢
  cases q with
  |true =>
   have:=hk0 rfl;subst this;simp(config := { maxSteps:=1000000 }) (disch:=omega)[↓ac,↓aa,rd,hB,hM,hI,hl,hmk]
  |false=>simp(config := { maxSteps:=1000000 }) (disch:=omega)[↓ac,↓aa,rd,hB,hM,hI,hl,hmk]
 .simp only[zI]at hI hl⊢;simp(config := { maxSteps:=1000000 }) (disch:=omega)[↓ac,↓aa,rd,hB,hM,hI,hl,hmk]
def apF (b:C_)(hb:b.length<=1000000000)(a:Int)(ha:i64 a)(r:Nat)(hr:r<=11)(q:Bool)(i:aM)(hi:i.Fit)(iv:D_)(hiv:iv=i.cells∨q=false∧iv=zI)(hq:q=true->i.may r)(n0:Nat)(e0:bb b a 0=.ok 0 n0)(H:Hd)(n:Nat)(eH:Az b n0 r q i=.ok H n)(e:Nat)(eL:jJ b (Ll r H.inf H.S) n Z0=.er e):bq prog rT [.d (.lst (ak b)),A_ a,A_ r,B_ q,.agg iv] =
  some (.tup [.agg Bg,A_ 0,A_ (e+1)]):=by
 have hR:dP (r:Int):=o_;have hB:=gW b a 0 hb ha;have p0:=dU e0;rw[e0,eD p0]at hB;obtain⟨k,hk0,hI⟩:=Ne hr hi hiv hq;have hh:=Nx b hb r hR q i hi iv hiv (λh=>by rw[aq];exact hq h) n0 (by have:=p0.2;omega) k 11;rw[aq]at hh;have p1:=hh.2 H n eH;have hl:=hh.1.1 H n eH;have hM:=ka r false;rw[ac hR]at hM;obtain⟨G,j,S,T,Ft,od,is⟩:=H;simp only[adC]at hl eL;obtain⟨C2,Z2,M,hp⟩:=(abx b hb ⟨.cells [.junk],.cells [B_ q],.cells iv,.cells [A_ od],.cells [A_ is],.cells [afT],.cells vJ,.cells j.cells,.cells [.d (.lst (bF S))],.cells [.own false 1 (cN (offs r j.short))]⟩ (A_ G) (.d (.int .u8 j.seq)) (.d (.int .u8 j.shape)) (A_ j.max) (.own false 1 (aF j.groups)) (aD 1 (bF S)) (share (aD 1 (c7 T))) (aD 1 (cX Ft)) r hr j p1.fit p1.may S p1.S rfl rfl rfl n p1.n).2 e eL;have hj11:=fG hr p1.may;have hSl:S.length=j.groups.length:=p1.S.1;have hTl:=bl List.length p1.T;simp only[gw]at hTl;have hFl:=p1.F.1;simp only at hFl;have hmn:=vR j;have hgn:j.groups≠[]:=λh=>by have:=(dp hj11).2;rw[h]at this;simp at this;omega
 have hg1:=bH.2 hgn;obtain⟨s1,S1,rfl⟩:=cY (bH.1 (show 0<S.length by omega));obtain⟨t1,T1,rfl⟩:=cY (bH.1 (show 0<T.length by omega));obtain⟨f1,F1,rfl⟩:=cY (bH.1 (show 0<Ft.length by omega));have eS:aD 1 (bF (s1::S1))=.own false 1 (bF (s1::S1)):=rfl;have eT:share (aD 1 (c7 (t1::T1)))=.d (.lst (c7 (t1::T1))):=rfl;have eF:aD 1 (cX (f1::F1))=.own false 1 (cX (f1::F1)):=rfl;have hP:=Ns r hr j (.lst (bF (s1::S1))) [(0,.cells [.d (.lst (ak b))]),(1,.cells [.junk]),(2,.cells [B_ q]),(3,.cells iv),(4,.cells [A_ G,.d (.int .u8 j.seq),.d (.int .u8 j.shape),A_ j.max,.own false 1 (aF j.groups),.own false 1 (bF (s1::S1)),.d (.lst (c7 (t1::T1))),.own false 1 (cX (f1::F1)),.sl 11 0 256]),(5,.cells [A_ n]),(6,.cells [A_ 0]),(7,.cells [A_ od]),(8,.cells [A_ is]),(9,.cells [afT]),(10,.cells vJ),(11,.arr 1 (aF Z0)),(12,.cells tT),(13,.cells [.ptr 12 0])] 14 (λp hp=>by
  simp only[aB,cU,fC]at hp;rcases hp with rfl|rfl|rfl|rfl|rfl|rfl|rfl|rfl|rfl|rfl|rfl|rfl|rfl|rfl<;>simp only[]<;>omega)
 have c0:((0:Nat):Int)=0:=rfl;rw[eS,eT,eF]at hl hp;simp only[aM.cells,GH,pq,M3,aR,aO,c0]at hI hl hp hP hB⊢;clear hh p1 eL eH eS eT eF hi;generalize bF (s1::S1)=SS at *;generalize c7 (t1::T1)=TT at *;generalize cX (f1::F1)=FF at *;generalize hz:aF Z0=z0 at *;have hk:=arK;have hz2:=ank;rw[hz]at hk hz2;rw[aU D8 DK rfl];have hmk:IY 1 vJ=true:=rfl;simp only[vJ,yZ]at hmk;rcases hiv with rfl|⟨rfl,rfl⟩
 .simp only[aM.cells]at hI hl hp hP⊢
  cases q with
  |true =>
   have:=hk0 rfl;subst this;simp(config := { maxSteps:=1000000 }) (disch:=omega)[↓ac,↓aa,rd,hB,hM,hI,hl,hk,hz2,hP,hp,hmk]
  |false=>simp(config := { maxSteps:=1000000 }) (disch:=omega)[↓ac,↓aa,rd,hB,hM,hI,hl,hk,hz2,hP,hp,hmk]
 .simp only[zI]at hI hl hp hP⊢;simp(config := { maxSteps:=1000000 }) (disch:=omega)[↓ac,↓aa,rd,hB,hM,hI,hl,hk,hz2,hP,hp,hmk]
def AT (b:C_)(a:Int)(r:Nat)(q:Bool)(i:aM):R (Hd×G_) :=
 (bb b a 0).bind λ_ n=>if q=true∧¬i.may r then .er 7 else (Az b n r q i).bind λH n=>(jJ b (Ll r H.inf H.S) n Z0).bind λZ m=>if H.od=0∧(H.is=1->nE H.F=true) then .ok (H,Z) m else .er 7
abbrev aqc (x:R (Hd×G_)):M_:=match x with
 |.ok v m=>some (.tup [.agg (Sc v.1 v.2),A_ m,A_ 0])
 |.er e=>some (.tup [.agg Bg,A_ 0,A_ (e+1)])
def ajp (b:C_)(hb:b.length<=1000000000)(a:Int)(ha:i64 a)(r:Nat)(hr:r<=11)(q:Bool)(i:aM)(hi:i.Fit)(iv:D_)(hiv:iv=i.cells∨q=false∧iv=zI):bq prog rT [.d (.lst (ak b)),A_ a,A_ r,B_ q,.agg iv]=aqc (AT b a r q i):=by
 unfold AT
 cases e0:bb b a 0 with
 |er e=>exact aoR b hb a ha r hr q i iv hiv e e0
 |ok v n0 =>
 have hv:v=0:=by have:v<1:=(dU e0).1;omega
 subst hv;rw[ax];by_cases hm:q=true∧¬i.may r
 .rw[ac hm];obtain⟨rfl,hm⟩:=hm
  cases hiv.resolve_right λh=>absurd h.1 (by simp)
  exact ary b hb a ha r hr i hi hm n0 e0
 .rw[aa hm];have hq:q=true->i.may r:=λh=>p9 λh2=>hm ⟨h,h2⟩
  cases eH:Az b n0 r q i with
  |er e=>exact apq b hb a ha r hr q i hi iv hiv hq n0 e0 e eH
  |ok H n =>
  rw[ax]
  cases eL:jJ b (Ll r H.inf H.S) n Z0 with
  |er e=>exact apF b hb a ha r hr q i hi iv hiv hq n0 e0 H n eH e eL
  |ok Z m =>
   rw[ax,asW b hb a ha r hr q i hi iv hiv hq n0 e0 H n eH Z m eL];by_cases h:H.od=0∧(H.is=1->nE H.F=true)
   .rw[ac h,ac h]
   .rw[aa h,aa h];rfl
abbrev vt:=@List.drop_left
abbrev dQ:=@Nat.mul_comm
abbrev xi:=@Nat.mul_assoc
abbrev mU:=@Nat.add_mul_div_right
def At (b:C_)(a n:Nat)(X:C_):Prop:=a<=b.length∧n=a+X.length∧∃t,b.drop a=X++t
def dz {b:C_}{a n:Nat}:At b a n []↔n=a∧a<=b.length:=by
 constructor
 .rintro ⟨h1,h2,_⟩
  exact⟨by simpa using h2,h1⟩
 .rintro ⟨h1,h2⟩
  exact⟨h2,by simpa using h1,b.drop a,rfl⟩
def cA {b:C_}{a n:Nat}{X:C_}(h:At b a n X):a<=b.length∧n<=b.length∧n=a+X.length:=by
 obtain⟨h1,h2,t,h3⟩:=h;have:=bl List.length h3;rw[dZ,al]at this;exact⟨h1,o_,h2⟩
def aN {b:C_}{a n:Nat}{X Y:C_}:At b a n (X++Y)↔∃m,At b a m X∧At b m n Y:=by
 constructor
 .intro h;have hl:=cA h;obtain⟨h1,h2,t,h3⟩:=h;rw[al]at h2;refine⟨a+X.length,⟨h1,rfl,Y++t,by rw[h3,ay]⟩,o_,o_,t,?_⟩;rw[<-lH,h3,ay,vt]
 .rintro ⟨m,⟨h1,h2,t,h3⟩,h4,h5,t2,h6⟩
  refine⟨h1,by rw[al];omega,t2,?_⟩;rw[h2,<-lH,h3,vt]at h6;rw[h3,h6,ay]
def Qk {n:Nat}:∀{k:Nat},bin (au n k)
 |0=>by simp[au,bin]
 |k+1=>by
  intro x hx;rw[au]at hx;rcases aB.1 hx with h|h
  .omega
  .exact Qk x h
def Zp {v:Nat}:∀{s n:Nat},val (au v s) n=n*2 ^ s+v % 2 ^ s
 |0,n=>by simp[au,val,Nat.mod_one]
 |k+1,n=>by
  rw[au,val,Zp,Nat.mod_pow_succ,cW,cZ];have:2*n*2 ^ k=n*(2 ^ k*2):=by rw[dQ 2 n,xi,dQ 2 (2 ^ k)]
  rw[this,dQ (v / 2 ^ k % 2)];omega
def adn:∀{l:C_}{n:Nat},val l n=n*2 ^ l.length+val l 0
 |[],n=>by simp[val]
 |x::r,n=>by
  rw[val,val,adn,adn (n:=2*0+x),ar,cW,cZ];have:2*n*2 ^ r.length=n*(2 ^ r.length*2):=by rw[dQ 2 n,xi,dQ 2 (2 ^ r.length)]
  rw[this];simp only[Nat.mul_zero,br];omega
def YY:∀{l:C_}{n:Nat},bin l->au (val l n) l.length=l
 |[],n,_=>rfl
 |x::r,n,h=>by
  have hr:bin r:=λy hy=>h y (.tail _ hy)
  have hx:=h x (.head _);have h0:=PA (l:=r) (n:=0) (i:=0) hr o_;rw[br]at h0;have e:val r (2*n+x) / 2 ^ r.length % 2=x:=by
   rw[adn,nz,mU _ _ (Nat.pow_pos k_),iy h0];omega
  rw[val,ar,au,e,YY hr]
def b6 {b:C_}{a s v n:Nat}(hs:s<=31):bb b (a:Int) (s:Int)=.ok v n↔v<2 ^ s∧At b a n (au v s):=by
 unfold bb;simp only[aq];constructor
 .intro h;by_cases h1:(0<=(s:Int)∧(s:Int)<=31)∧0<=(a:Int)∧(a:Int)<=b.length
  .rw[ac h1]at h;by_cases h2:((b.length:Nat):Int)-a<s
   .rw[ac h2]at h;exact absurd h (by simp)
   .rw[aa h2]at h;by_cases h3:bin ((b.drop a).take s)
    .rw[ac h3]at h;injection h with e1 e2
     have hl:((b.drop a).take s).length=s:=by rw[cV,dZ];omega
     have h4:=PA (n:=0) (i:=0) h3 o_;have h5:=YY (n:=0) h3;rw[hl,e1]at h4 h5;rw[br]at h4;refine⟨h4,o_,by rw[dq];omega,(b.drop a).drop s,?_⟩;rw[h5,aT]
    .rw[aa h3]at h;exact absurd h (by simp)
  .rw[aa h1]at h;exact absurd h (by simp)
 .rintro ⟨hv,h⟩
  have hl:=cA h;obtain⟨h1,h2,t,h3⟩:=h;rw[dq]at h2;have e:(b.drop a).take s=au v s:=by rw[h3,List.take_left' dq]
  rw[ac o_,aa o_,e,ac Qk,Zp,eW hv,h2];simp
def ajw {b:C_}{a:Int}{s:Int}{v n:Nat}(h:bb b a s=.ok v n):0<=a:=by
 unfold bb at h;by_cases h1:(0<=s∧s<=31)∧0<=a∧a<=b.length
 .exact h1.2.1
 .rw[aa h1]at h;exact absurd h (by simp)
def Rk {α:Type}{c:Prop}[Decidable c]{v w:α}{n m:Nat}:Qa c v n=.ok w m↔c∧v=w∧n=m:=by
 unfold Qa;by_cases h:c
 .rw[ac h];exact⟨λe=>by injection e with e1 e2;exact⟨h,e1,e2⟩,λ⟨_,e1,e2⟩=>by rw[e1,e2]⟩
 .rw[aa h];exact⟨λe=>absurd e s_,λe=>absurd e.1 h⟩
def aJ {α β:Type}{x:R α}{f:α->Nat->R β}{v:β}{n:Nat}:x.bind f=.ok v n↔∃u m,x=.ok u m∧f u m=.ok v n :=
 ⟨pJ,λ⟨u,m,h1,h2⟩=>by rw[h1];exact h2⟩
def Zf:Nat->AD_
 |0=>[[]]
 |k+1=>(Zf k).map (0::·)++(Zf k).map (1::·)
def ajf:∀{l:C_},bin l->l∈Zf l.length
 |[],_=>by simp[Zf]
 |x::r,h=>by
  have ih:=ajf (l:=r) λy hy=>h y (.tail _ hy)
  have hx:=h x (.head _);rw[ar,Zf,bi,dh,dh];rcases Nat.le_one_iff_eq_zero_or_eq_one.1 hx with rfl|rfl
  .exact .inl ⟨r,ih,rfl⟩
  .exact .inr ⟨r,ih,rfl⟩
def afs:Nat->Nat->L_
 |0,_=>[]
 |f+1,0=>[[]]
 |f+1,n+1=>(List.range (n+1)).flatMap λk=>(afs f (n-k)).map (((k:Int)+1)::·)
def ajs:∀{g:G_}{f n:Nat},(∀x∈g,1<=x)->g.sum=n->n<f->g∈afs f n
 |[],f,n,_,h,hf=>by
  obtain⟨f,rfl⟩:=Nat.exists_eq_add_of_lt hf;have:n=0:=by simp at h;omega
  subst this;simp[afs]
 |x::r,f,n,hx,h,hf=>by
  have h1:=hx x (.head _);have h2:=kO (l:=r) λy hy=>hx y (.tail _ hy)
  rw[j7]at h;obtain⟨f,rfl⟩:∃k,f=k+1:=⟨f-1,o_⟩
  obtain⟨n,rfl⟩:∃k,n=k+1:=⟨n-1,o_⟩
  have ih:=ajs (g:=r) (f:=f) (n:=n-(x.toNat-1)) (λy hy=>hx y (.tail _ hy)) o_ o_;rw[afs,su];exact⟨x.toNat-1,dL.2 o_,dh.2 ⟨r,ih,by congr 1;omega⟩⟩
def ati:∀l∈Zf 7,IM (grow [1] l) 7 0=l:=e_
def atM:∀g∈afs 9 8,grow [1] (IM g 7 0)=g:=e_
def MQ {b:C_}:∀{k a n:Nat}{l:C_},a<=b.length->(ya b k a=.ok l n↔(l.length=k∧bin l)∧At b a n l)
 |0,a,n,l,ha=>by
  rw[ya];constructor
  .intro h;injection h with e1 e2
   subst e1 e2;exact⟨⟨rfl,by simp[bin]⟩,dz.2 ⟨rfl,ha⟩⟩
  .rintro ⟨⟨h1,_⟩,h2⟩
   have:=az h1;subst this;rw[(dz.1 h2).1]
 |k+1,a,n,l,ha=>by
  rw[ya,aJ];constructor
  .rintro ⟨v,m,h1,h2⟩
   obtain⟨g1,g2⟩:=(b6 (s:=1) o_).1 h1;obtain⟨l2,m2,h3,h4⟩:=aJ.1 h2;injection h4 with e1 e2;subst e1 e2;obtain⟨⟨i1,i2⟩,i3⟩:=(MQ (cA g2).2.1).1 h3;refine⟨⟨by rw[ar,i1],λx hx=>?_⟩,?_⟩
   .rcases aB.1 hx with rfl|hx
    .omega
    .exact i2 x hx
   .have e:au v 1=[v]:=by simp[au];omega
    rw[e]at g2;exact aN.2 ⟨m,g2,i3⟩
  .rintro ⟨⟨h1,h2⟩,h3⟩
   cases l with
   |nil=>simp at h1
   |cons v r =>
    have hv:=h2 v (.head _);obtain⟨m,g1,g2⟩:=aN (X:=[v]) (Y:=r) |>.1 h3;have e:au v 1=[v]:=by simp[au];omega
    rw[<-e]at g1;have hr:=(MQ (k:=k) (cA g2).1).2 ⟨⟨by simpa using h1,λy hy=>h2 y (.tail _ hy)⟩,g2⟩;exact⟨v,m,(b6 (s:=1) o_).2 ⟨o_,g1⟩,by rw[hr];rfl⟩
def ajW {g:G_}:∀{k w:Nat},bin (IM g k w)
 |0,_=>by simp[IM,bin]
 |k+1,w=>by
  intro x hx;rw[IM]at hx;rcases bi.1 hx with h|h
  .revert h
   split<;>exact λh=>Qk x h
  .exact ajW x h
def FY {b:C_}{a r n:Nat}{j:aM}(hr:r<=11):l8 b (a:Int) r=.ok j n↔j.may r∧At b a n (jQ j):=by
 unfold l8 jQ;constructor
 .intro h;obtain⟨o,n1,h1,h⟩:=aJ.1 h;obtain⟨q,n2,h2,h⟩:=aJ.1 h;obtain⟨s,n3,h3,h⟩:=aJ.1 h;have k1:=(b6 (s:=1) o_).1 h1;have k2:=(b6 (s:=2) o_).1 h2;have k3:=(b6 (s:=1) o_).1 h3;by_cases hq:q=2
  .rw[ac hq]at h;obtain⟨m,n4,h4,h⟩:=aJ.1 h;obtain⟨l,n5,h5,h⟩:=aJ.1 h;obtain⟨⟨ho,hm⟩,e1,e2⟩:=Rk.1 h;have k4:=(b6 (s:=4) o_).1 h4;have k5:=(MQ (cA k4.2).2.1).1 h5;subst e1 e2 ho;refine⟨hm,aN.2 ⟨n1,k1.2,aN.2 ⟨n2,k2.2,aN.2 ⟨n3,k3.2,?_⟩⟩⟩⟩;simp only[hq,bc,aq];refine aN.2 ⟨n4,k4.2,?_⟩;rw[ati l (by have:=ajf k5.1.2;rwa [k5.1.1]at this)];exact k5.2
  .rw[aa hq]at h;obtain⟨m,n4,h4,h⟩:=aJ.1 h;obtain⟨p,n5,h5,h⟩:=aJ.1 h;obtain⟨⟨⟨ho,hp⟩,hm⟩,e1,e2⟩:=Rk.1 h;have k4:=(b6 (s:=6) o_).1 h4;have k5:=(b6 (s:=1) o_).1 h5;subst e1 e2 ho hp;refine⟨hm,aN.2 ⟨n1,k1.2,aN.2 ⟨n2,k2.2,aN.2 ⟨n3,k3.2,?_⟩⟩⟩⟩;simp only[aa hq,aq];exact aN.2 ⟨n4,k4.2,k5.2⟩
 .rintro ⟨hm,h0⟩
  obtain⟨n1,k1,h1⟩:=aN.1 h0;obtain⟨n2,k2,h2⟩:=aN.1 h1;obtain⟨n3,k3,h3⟩:=aN.1 h2;clear h0 h1 h2;have g11:=fG hr hm;have hmx:=ig g11;obtain⟨s,sh,m,g⟩:=j;have hs:s<=3:=hm.1;have hsh:sh<=1:=hm.2.1;simp only at hmx h3 k2 k3;obtain⟨M,rfl⟩:=aA hmx.1;refine aJ.2 ⟨0,n1,(b6 (s:=1) o_).2 ⟨o_,k1⟩,aJ.2 ⟨s,n2,(b6 (s:=2) o_).2 ⟨o_,k2⟩,aJ.2 ⟨sh,n3,(b6 (s:=1) o_).2 ⟨o_,k3⟩,?_⟩⟩⟩;have hmb:(M:Int)<=qA r (decide (s=2)):=hm.2.2.2.1;have hgr:aM.grouped _:=hm.2.2.2.2;unfold aM.grouped at hgr;simp only[aq]at h3 hgr;by_cases hq:s=2
  .subst hq;have m4:M<2 ^ 4:=by
    have:=(Mf (r,true) (fh o_)).2;simp only[decide_true]at hmb this;omega
   rw[ac rfl]at h3 hgr⊢;obtain⟨n4,k4,h4⟩:=aN.1 h3;have hg:=atM g (ajs (λx hx=>(hgr.1 x hx).1) hgr.2.1 o_);exact aJ.2 ⟨M,n4,(b6 (s:=4) o_).2 ⟨m4,k4⟩,aJ.2 ⟨IM g 7 0,n,(MQ (cA k4).2.1).2 ⟨⟨aag,ajW⟩,h4⟩,Rk.2 ⟨⟨rfl,by rw[hg];exact hm⟩,by rw[hg],rfl⟩⟩⟩
  .have m6:=Gt (r:=r) (s:=decide (s=2)) o_;rw[aa hq]at h3 hgr⊢;obtain⟨n4,k4,h4⟩:=aN.1 h3
   cases hgr
   exact aJ.2 ⟨M,n4,(b6 (s:=6) o_).2 ⟨o_,k4⟩,aJ.2 ⟨0,n,(b6 (s:=1) o_).2 ⟨o_,h4⟩,Rk.2 ⟨⟨⟨rfl,rfl⟩,hm⟩,rfl,rfl⟩⟩⟩
def aj2 {aW:Nat}(hm:1<=aW):∀{f g n:Nat},n<=f->n<=g->d9 aW f n=d9 aW g n
 |0,0,n,_,_=>rfl
 |0,g+1,n,h,_=>by
  have:n=0:=o_;subst this;rw[d9,d9,aa o_]
 |f+1,0,n,_,h=>by
  have:n=0:=o_;subst this;rw[d9,d9,aa o_]
 |f+1,g+1,n,h1,h2=>by
  rw[d9,d9];by_cases h:aW<=n
  .rw[ac h,ac h,aj2 hm (f:=f) (g:=g) (n:=n-aW) o_ o_]
  .rw[aa h,aa h]
def asb {aW d:Nat}(hm:1<=aW)(h:aW<=d):d9 aW d d=aW::d9 aW (d-aW) (d-aW):=by
 obtain⟨e,rfl⟩:∃e,d=e+1:=⟨d-1,o_⟩
 rw[d9,ac h,aj2 hm (f:=e) (g:=e+1-aW) o_ o_]
def asy {aW d:Nat}(h:d<aW):d9 aW d d=[d]:=by
 cases d with
 |zero=>rfl
 |succ e=>rw[d9,aa o_]
def Q7 {b:C_}{sz aW left:Nat}(hs:1<=sz∧sz<=5)(hm:aW=2 ^ sz-1):∀{f a acc n m:Nat},left<acc+f->
  (xu b sz aW left f a acc=.ok n m↔(acc<=n∧n<=left)∧At b a m ((d9 aW (n-acc) (n-acc)).flatMap λx=>au x sz))
 |0,a,acc,n,m,hf=>by
  rw[xu];exact⟨λh=>absurd h s_,λh=>by omega⟩
 |f+1,a,acc,n,m,hf=>by
  have h2:2 ^ 1<=2 ^ sz:=aw o_ hs.1;rw[xu,aJ];constructor
  .rintro ⟨x,m1,h1,h⟩
   obtain⟨g1,g2⟩:=(b6 o_).1 h1;by_cases hl:left<acc+x
   .rw[ac hl]at h;exact absurd h (by simp)
   rw[aa hl]at h;by_cases hx:x=aW
   .rw[ac hx,Q7 hs hm o_]at h;obtain⟨h3,h4⟩:=h;refine⟨o_,?_⟩;rw[asb o_ o_,aG,aN];refine⟨m1,by rw[<-hx];exact g2,?_⟩;rw[show n-acc-aW=n-(acc+x) by omega];exact h4
   .rw[aa hx]at h;injection h with e1 e2
    subst e1 e2;refine⟨o_,?_⟩;rw[show acc+x-acc=x by omega,asy o_];simpa using g2
  .rintro ⟨h1,h⟩
   by_cases hd:aW<=n-acc
   .rw[asb o_ hd,aG,aN]at h;obtain⟨m1,k1,k2⟩:=h;refine⟨aW,m1,(b6 o_).2 ⟨o_,k1⟩,?_⟩;rw[aa o_,ac rfl,Q7 hs hm o_];refine⟨o_,?_⟩;rw[show n-(acc+aW)=n-acc-aW by omega];exact k2
   .rw[asy o_]at h;simp only[aG,fR,be]at h;refine⟨n-acc,m,(b6 o_).2 ⟨o_,h⟩,?_⟩;rw[aa o_,aa o_,show acc+(n-acc)=n by omega]
def aiK {b:C_}{sz left a m:Nat}{s:aX}(hs:1<=sz∧sz<=5):HJ b sz left a=.ok s m↔s.right left∧At b a m (Jn sz s):=by
 rw[HJ,aJ,Jn];constructor
 .rintro ⟨k,m1,h1,h⟩
  obtain⟨g1,g2⟩:=(b6 (s:=4) o_).1 h1;by_cases hk:k=12∨13<k
  .rw[ac hk]at h;exact absurd h (by simp)
  rw[aa hk]at h;obtain⟨n,m2,h2,h⟩:=aJ.1 h;obtain⟨g3,g4⟩:=(Q7 hs rfl o_).1 h2;by_cases h0:n=0
  .rw[ac h0]at h;exact absurd h (by simp)
  rw[aa h0]at h;injection h with e1 e2
  subst e1 e2;refine⟨⟨⟨by simp only[];omega,by simp only[];omega⟩,by simp only[LA];omega⟩,aN.2 ⟨m1,g2,?_⟩⟩;simpa using g4
 .rintro ⟨⟨⟨h1,h2⟩,h3,h4⟩,h⟩
  obtain⟨k,n⟩:=s;simp only at h1 h2 h3 h4 h;obtain⟨k,rfl⟩:=aA h3;obtain⟨n,rfl⟩:=aA (show 0<=n by omega);simp only[aq]at h;obtain⟨m1,k1,k2⟩:=aN.1 h;refine⟨k,m1,(b6 (s:=4) o_).2 ⟨o_,k1⟩,?_⟩;rw[aa o_];refine aJ.2 ⟨n,m,(Q7 hs rfl o_).2 ⟨o_,by simpa using k2⟩,?_⟩;rw[aa o_]
def Jg {b:C_}{sz:Nat}(hs:1<=sz∧sz<=5):∀{f left a m:Nat}{l:Q_},left<=f->a<=b.length->(jI b sz f left a=.ok l m↔fitsS left l∧At b a m (oY sz l))
 |0,left,a,m,l,hf,ha=>by
  have:left=0:=o_;subst this;rw[jI];constructor
  .intro h;injection h with e1 e2
   subst e1 e2;exact⟨rfl,dz.2 ⟨rfl,ha⟩⟩
  .rintro ⟨h1,h2⟩
   cases l with
   |nil=>rw[(dz.1 h2).1]
   |cons s l=>have:=h1.1.1;omega
 |f+1,left,a,m,l,hf,ha=>by
  rw[jI];by_cases h0:left=0
  .subst h0;rw[ac rfl];constructor
   .intro h;injection h with e1 e2
    subst e1 e2;exact⟨rfl,dz.2 ⟨rfl,ha⟩⟩
   .rintro ⟨h1,h2⟩
    cases l with
    |nil=>rw[(dz.1 h2).1]
    |cons s l=>have:=h1.1.1;omega
  .rw[aa h0,aJ];constructor
   .rintro ⟨s,m1,h1,h⟩
    obtain⟨g1,g2⟩:=(aiK hs).1 h1;obtain⟨l2,m2,h2,h⟩:=aJ.1 h;injection h with e1 e2;subst e1 e2;have hr:=g1.1;obtain⟨g3,g4⟩:=(Jg hs o_ (cA g2).2.1).1 h2;refine⟨⟨g1,?_⟩,aN.2 ⟨m1,g2,g4⟩⟩
    rwa [show((left-s.len.toNat:Nat):Int)=left-s.len by omega]at g3
   .rintro ⟨h1,h2⟩
    cases l with
    |nil=>exact absurd h1 (by show ¬((left:Int)=0);omega)
    |cons s l =>
     obtain⟨k1,k2⟩:=h1;obtain⟨m1,j1,j2⟩:=aN.1 (show At b a m (Jn sz s++oY sz l) from h2);have hr:=k1.1;refine⟨s,m1,(aiK hs).2 ⟨k1,j1⟩,aJ.2 ⟨l,m,(Jg hs o_ (cA j1).2.1).2 ⟨?_,j2⟩,rfl⟩⟩
     rwa [show((left-s.len.toNat:Nat):Int)=left-s.len by omega]
def UL {b:C_}{sz aW:Nat}(hs:1<=sz∧sz<=5):∀{k a m:Nat}{g:H_},a<=b.length->(sJ b sz aW k a=.ok g m↔(g.length=k∧∀l∈g,fitsS aW l)∧At b a m (g.flatMap (oY sz)))
 |0,a,m,g,ha=>by
  rw[sJ];constructor
  .intro h;injection h with e1 e2
   subst e1 e2;exact⟨⟨rfl,s_⟩,dz.2 ⟨rfl,ha⟩⟩
  .rintro ⟨⟨h1,_⟩,h2⟩
   have:=az h1;subst this;rw[(dz.1 h2).1]
 |k+1,a,m,g,ha=>by
  rw[sJ,aJ];constructor
  .rintro ⟨l,m1,h1,h⟩
   obtain⟨g1,g2⟩:=(Jg hs (ai _) ha).1 h1;obtain⟨r,m2,h2,h⟩:=aJ.1 h;injection h with e1 e2;subst e1 e2;obtain⟨⟨g3,g4⟩,g5⟩:=(UL hs (cA g2).2.1).1 h2;refine⟨⟨by rw[ar,g3],λq hq=>?_⟩,aN.2 ⟨m1,g2,g5⟩⟩;rcases aB.1 hq with rfl|hq
   .exact g1
   .exact g4 q hq
  .rintro ⟨⟨h1,h2⟩,h3⟩
   cases g with
   |nil=>simp at h1
   |cons l r =>
    obtain⟨m1,j1,j2⟩:=aN.1 (show At b a m (oY sz l++r.flatMap (oY sz)) from h3);exact⟨l,m1,(Jg hs (ai _) ha).2 ⟨h2 l (.head _),j1⟩,aJ.2 ⟨r,m,(UL hs (cA j1).2.1).2 ⟨⟨by simpa using h1,λq hq=>h2 q (.tail _ hq)⟩,j2⟩,rfl⟩⟩
def XX {b:C_}{i:aM}{a m:Nat}{g:H_}(hm:i.may 11)(ha:a<=b.length):tS b i (a:Int)=.ok g m↔jn i g∧At b a m (Q8 i g):=by
 have hmx:=ig hm;obtain⟨M,hM⟩:=aA hmx.1;have hs:1<=i.fsz∧i.fsz<=5:=by unfold aM.fsz;split<;>omega
 rw[tS,ac o_,aq,UL hs ha,oH hmx.1];exact Iff.rfl
def XR:∀id∈ids,(b8 id).length=bh id∧(List.range (bh id)).all (λe=>Nat.beq (nth (b8 id) (nth (dy id) e)) e && Nat.beq (nth (dy id) (nth (b8 id) e)) e)=true:=e_
def aaZ {id e:Nat}(h:jf id)(he:e<bh id):nth (b8 id) (nth (dy id) e)=e∧nth (dy id) (nth (b8 id) e)=e:=by
 have h1:=bC.1 (XR id (fK h)).2 e (dL.2 he);rw[af,aC,aC]at h1;exact h1
abbrev oW:=@Nat.add_mul_mod_self_right
abbrev nS:=@Nat.div_add_mod
def IG {b:C_}:∀{f m a k n:Nat},lG b f m (a:Int)=.ok k n↔(m<=k∧k<m+f)∧At b a n (List.replicate (k-m) 0++[1])
 |0,m,a,k,n=>by
  rw[lG];exact⟨λh=>absurd h s_,λh=>by omega⟩
 |f+1,m,a,k,n=>by
  rw[lG,aJ];constructor
  .rintro ⟨v,m1,h1,h⟩
   obtain⟨g1,g2⟩:=(b6 (s:=1) o_).1 h1;have e:au v 1=[v]:=by simp[au];omega
   rw[e]at g2;by_cases hv:v=1
   .rw[ac hv]at h;injection h with e1 e2
    subst e1 e2 hv;exact⟨o_,by simpa using g2⟩
   .have:v=0:=o_;subst this;rw[aa hv,IG]at h;obtain⟨h2,h3⟩:=h;refine⟨o_,?_⟩;rw[show k-m=(k-(m+1))+1 by omega,cx,aR];exact aN (X:=[0]) |>.2 ⟨m1,g2,h3⟩
  .rintro ⟨h1,h⟩
   by_cases hk:k=m
   .subst hk;rw[sO]at h;refine⟨1,n,(b6 (s:=1) o_).2 ⟨o_,?_⟩,by rw[ac rfl]⟩;simpa [au] using h
   .rw[show k-m=(k-(m+1))+1 by omega,cx,aR]at h;obtain⟨m1,k1,k2⟩:=aN (X:=[0]) |>.1 h;refine⟨0,m1,(b6 (s:=1) o_).2 ⟨o_,by simpa [au] using k1⟩,?_⟩;rw[aa o_,IG];exact⟨o_,k2⟩
def aav {r:C_}:∀{k:Nat},val (List.replicate k 0++r) 0=val r 0
 |0=>rfl
 |k+1=>by rw[cx,aR,val];exact aav
def abm {k hi:Nat}(h:hi<2 ^ k):au (2 ^ k+hi) (2*k+1)=List.replicate k 0++[1]++au hi k:=by
 have hb:bin (List.replicate k 0++(1::au hi k)):=by
  intro x hx;rcases bi.1 hx with h|h
  .have:=eg h;omega
  .rcases aB.1 h with h|h
   .omega
   .exact Qk x h
 have h1:=YY (n:=0) hb;rw[aav,val,Zp,eW h,al,bn,ar,dq]at h1;rw[ay,bY,<-h1]
 congr 1
 all_goals omega
def aiL {n k:Nat}(h1:2 ^ k<=n)(h2:n<2 ^ (k+1)):cG n=k+1:=by
 have hp:=bM k;have a:=Ge (n:=n);have b:=tN (n:=n) o_;rcases Nat.lt_trichotomy (cG n) (k+1) with h|h|h
 .have:=aw (n:=2) o_ (show cG n<=k by omega);omega
 .exact h
 .have:=aw (n:=2) o_ (show k+1<=cG n-1 by omega);omega
def Ck {id:Nat}(hid:jf id){b:C_}{a e n:Nat}:yi id b (a:Int)=.ok e n↔e<bh id∧At b a n (jS id e):=by
 obtain⟨r1,r2,r3⟩:=Ma id (fK hid);have hl:=(XR id (fK hid)).1;have hm:bh id<=300:=by have:=lj id (fK hid);omega
 have hP:1<=2 ^ bI id:=bM _;rw[yi,aJ];unfold jS;constructor
 .rintro ⟨k,n1,h1,h⟩
  obtain⟨⟨_,k9⟩,g1⟩:=IG.1 h1;obtain⟨hi,n2,h2,h⟩:=aJ.1 h;obtain⟨g2,g3⟩:=(b6 o_).1 h2;obtain⟨lo,n3,h3,h⟩:=aJ.1 h;obtain⟨g4,g5⟩:=(b6 o_).1 h3;by_cases hx:(b8 id).length<=(2 ^ k+hi-1)*2 ^ bI id+lo
  .rw[ac hx]at h;exact absurd h (by simp)
  rw[aa hx]at h;injection h with e1 e2
  subst e1 e2;have hk:=bM k;have he:=aaZ hid (e:=(2 ^ k+hi-1)*2 ^ bI id+lo) o_;have hlt:nth (b8 id) ((2 ^ k+hi-1)*2 ^ bI id+lo)<bh id:=(IZ (by have:=hid.2;omega)).2.2.2 _ (iP o_);refine⟨hlt,?_⟩;rw[he.2];have d1:((2 ^ k+hi-1)*2 ^ bI id+lo) / 2 ^ bI id=2 ^ k+hi-1:=by
   rw[nz,mU _ _ hP,iy g4,br]
  have d2:((2 ^ k+hi-1)*2 ^ bI id+lo) % 2 ^ bI id=lo:=by
   rw[nz,oW,eW g4]
  rw[d1,d2,show 2 ^ k+hi-1+1=2 ^ k+hi by omega,aiL (k:=k) o_ (by rw[cW];omega),show 2*(k+1)-1=2*k+1 by omega,abm g2];exact aN.2 ⟨n2,aN.2 ⟨n1,g1,g3⟩,g5⟩
 .rintro ⟨he,h⟩
  have hr:=Zh hid he;have hf:=(aaZ hid he).1;generalize nth (dy id) e=r at *;have hq:1<=r / 2 ^ bI id+1:=kD _ _;have hdv:r / 2 ^ bI id<=r:=kC _ _;have hdm:=nS r (2 ^ bI id);have hmod:r % 2 ^ bI id<2 ^ bI id:=dO _ hP;generalize r / 2 ^ bI id=q at *;generalize r % 2 ^ bI id=lo at *;have l1:=Ge (n:=q+1);have l2:=tN (n:=q+1) o_;have l0:1<=cG (q+1):=by
   rcases Nat.eq_zero_or_pos (cG (q+1)) with h0|h0
   .rw[h0]at l1;omega
   .exact h0
  obtain⟨k,hk⟩:∃k,cG (q+1)=k+1:=⟨cG (q+1)-1,o_⟩
  rw[hk]at l1 l2 h;rw[de]at l2;rw[cW]at l1;have k9:k<10:=by
   rcases bt k 10 with h|h
   .exact h
   .have:=aw (n:=2) o_ h;omega
  obtain⟨hi,hhi⟩:∃hi,q+1=2 ^ k+hi:=⟨q+1-2 ^ k,o_⟩
  have hh:hi<2 ^ k:=o_;rw[show 2*(k+1)-1=2*k+1 by omega,hhi,abm hh]at h;obtain⟨n2,j1,j2⟩:=aN.1 h;obtain⟨n1,j3,j4⟩:=aN.1 j1;have ei:(2 ^ k+hi-1)*2 ^ bI id+lo=r:=by rw[<-hhi,de,dQ];omega
  refine⟨k,n1,IG.2 ⟨o_,by simpa using j3⟩,aJ.2 ⟨hi,n2,(b6 o_).2 ⟨hh,j4⟩,aJ.2 ⟨lo,n,(b6 o_).2 ⟨hmod,j2⟩,?_⟩⟩⟩;rw[ei,aa o_,hf]
def QQ {low:Int}{w:Nat}{v:Int}:∀{l:G_}{n:Nat},kK low w (l++[v]) n=kK low w l n*w+(v-low).toNat
 |[],n=>rfl
 |x::r,n=>by rw[aR,kK,kK,QQ]
def aaP {low:Int}{w:Nat}(hw:1<=w):∀{d e:Nat},e<w ^ d->kK low w (kY low w d e) 0=e
 |0,e,h=>by rw[Nat.pow_zero]at h;rw[kY,kK];omega
 |d+1,e,h=>by
  rw[kY,QQ,aaP hw (by rw[cW]at h;exact Nat.div_lt_of_lt_mul (by rwa [dQ])),show((e % w:Nat):Int)+low-low=((e % w:Nat):Int) by omega,aq,dQ];exact nS e w
def aek {low:Int}{w:Nat}(hw:1<=w):∀(r:G_),(∀v∈r,low<=v∧v<low+w)->kY low w r.reverse.length (kK low w r.reverse 0)=r.reverse
 |[],_=>rfl
 |v::r,h=>by
  have ih:=aek hw r λx hx=>h x (.tail _ hx)
  have hv:=h v (.head _);rw[rD,al,List.length_singleton,QQ,kY];have hx:(v-low).toNat<w:=o_;rw[nz (_*w),mU _ _ hw,iy hx,br,ih,oW,eW hx]
  congr 2
  omega
def amr {low:Int}{w:Nat}(hw:1<=w){l:G_}(h:∀v∈l,low<=v∧v<low+w):kY low w l.length (kK low w l 0)=l:=by
 have:=aek hw l.reverse λv hv=>h v (List.mem_reverse.1 hv)
 rwa [List.reverse_reverse]at this
def sgB:G_->C_->C_
 |v::r,s::ss=>(if v=0 then [] else [s])++sgB r ss
 |_,_=>[]
def Xn:G_->C_->Prop
 |v::r,s::ss=>(s<=1∧(v=0->s=0))∧Xn r ss
 |[],[]=>True
 |_,_=>False
def Qc {s:Nat}(h:s<=1):au s 1=[s]:=by simp[au];omega
def zO {b:C_}:∀{vs:G_}{ss:C_}{a n:Nat},a<=b.length->(jL b vs a=.ok ss n↔Xn vs ss∧At b a n (sgB vs ss))
 |[],ss,a,n,ha=>by
  rw[jL];constructor
  .intro h;injection h with e1 e2
   subst e1 e2;exact⟨trivial,dz.2 ⟨rfl,ha⟩⟩
  .rintro ⟨h1,h2⟩
   cases ss with
   |nil=>rw[(dz.1 h2).1]
   |cons s ss=>exact absurd h1 (by simp[Xn])
 |v::r,ss,a,n,ha=>by
  rw[jL];by_cases hv:v=0
  .rw[ac hv,aJ];constructor
   .rintro ⟨l,m,h1,h⟩
    injection h with e1 e2
    subst e1 e2;obtain⟨g1,g2⟩:=(zO ha).1 h1;exact⟨⟨⟨o_,λ_=>rfl⟩,g1⟩,by rw[sgB,ac hv];exact g2⟩
   .rintro ⟨h1,h2⟩
    cases ss with
    |nil=>exact absurd h1 (by simp[Xn])
    |cons s ss =>
     have:=h1.1.2 hv;subst this;rw[sgB,ac hv]at h2;exact⟨ss,n,(zO ha).2 ⟨h1.2,h2⟩,rfl⟩
  .rw[aa hv,aJ];constructor
   .rintro ⟨s,m,h1,h⟩
    obtain⟨g1,g2⟩:=(b6 (s:=1) o_).1 h1;rw[Qc o_]at g2;obtain⟨l,m2,h2,h⟩:=aJ.1 h;injection h with e1 e2;subst e1 e2;obtain⟨g3,g4⟩:=(zO (cA g2).2.1).1 h2;exact⟨⟨⟨o_,λh=>absurd h hv⟩,g3⟩,by rw[sgB,aa hv];exact aN.2 ⟨m,g2,g4⟩⟩
   .rintro ⟨h1,h2⟩
    cases ss with
    |nil=>exact absurd h1 (by simp[Xn])
    |cons s ss =>
     rw[sgB,aa hv]at h2;obtain⟨m,k1,k2⟩:=aN.1 h2;have hs:=h1.1.1;exact⟨s,m,(b6 (s:=1) o_).2 ⟨o_,by rw[Qc hs];exact k1⟩,aJ.2 ⟨ss,n,(zO (cA k1).2.1).2 ⟨h1.2,k2⟩,rfl⟩⟩
def Me {b:C_}:∀{f m a k n:Nat},wJ b f m a=.ok k n↔(m<=k∧k<m+f)∧At b a n (List.replicate (k-m) 1++[0])
 |0,m,a,k,n=>by
  rw[wJ];exact⟨λh=>absurd h s_,λh=>by omega⟩
 |f+1,m,a,k,n=>by
  rw[wJ,aJ];constructor
  .rintro ⟨v,m1,h1,h⟩
   obtain⟨g1,g2⟩:=(b6 (s:=1) o_).1 h1;rw[Qc o_]at g2;by_cases hv:v=1
   .subst hv;rw[ac rfl,Me]at h;obtain⟨h2,h3⟩:=h;refine⟨o_,?_⟩;rw[show k-m=(k-(m+1))+1 by omega,cx,aR];exact aN (X:=[1]) |>.2 ⟨m1,g2,h3⟩
   .have:v=0:=o_;subst this;rw[aa hv]at h;injection h with e1 e2
    subst e1 e2;exact⟨o_,by simpa using g2⟩
  .rintro ⟨h1,h⟩
   by_cases hk:k=m
   .subst hk;rw[sO]at h;refine⟨0,n,(b6 (s:=1) o_).2 ⟨o_,?_⟩,by rw[aa o_]⟩;simpa [au] using h
   .rw[show k-m=(k-(m+1))+1 by omega,cx,aR]at h;obtain⟨m1,k1,k2⟩:=aN (X:=[1]) |>.1 h;refine⟨1,m1,(b6 (s:=1) o_).2 ⟨o_,by simpa [au] using k1⟩,?_⟩;rw[ac rfl,Me];exact⟨o_,k2⟩
abbrev ap9 (x:Nat):C_:=List.replicate (cG x-5) 1++(0::au (x % 2 ^ (cG x-1)) (cG x-1))
def aiV {b:C_}{a x n:Nat}:MF b a=.ok x n↔(16<=x∧x<=8191)∧At b a n (ap9 x):=by
 rw[MF,aJ];constructor
 .rintro ⟨m,n1,h1,h⟩
  obtain⟨⟨_,m9⟩,g1⟩:=Me.1 h1;obtain⟨y,n2,h2,h⟩:=aJ.1 h;obtain⟨g2,g3⟩:=(b6 o_).1 h2;injection h with e1 e2;subst e1 e2;have p1:=aw (n:=2) o_ (show 4<=m+4 by omega);have p2:=aw (n:=2) o_ (show m+4<=12 by omega);have hl:=aiL (n:=2 ^ (m+4)+y) (k:=m+4) o_ (by have:2 ^ (m+4+1)=2 ^ (m+4)*2:=cW _ _;omega);refine⟨o_,?_⟩;unfold ap9;rw[hl,show m+4+1-5=m by omega,de,Nat.add_mod_left,eW g2];have:List.replicate m 1++(0::au y (m+4))=(List.replicate m 1++[0])++au y (m+4):=s_;rw[this];exact aN.2 ⟨n1,by simpa using g1,g3⟩
 .rintro ⟨⟨h1,h2⟩,h⟩
  have l1:=Ge (n:=x);have l2:=tN (n:=x) o_;have k5:5<=cG x:=by
   rcases bt (cG x) 5 with h|h
   .have:=aw (n:=2) o_ (show cG x<=4 by omega);omega
   .exact h
  have k13:cG x<=13:=by
   rcases bt 13 (cG x) with h|h
   .have:=aw (n:=2) o_ (show 13<=cG x-1 by omega);omega
   .exact h
  obtain⟨m,hm⟩:∃m,cG x=m+5:=⟨cG x-5,o_⟩
  unfold ap9 at h;rw[hm]at h l1 l2;rw[show m+5-1=m+4 by omega]at h l2;have l3:2 ^ (m+5)=2 ^ (m+4)*2:=cW _ _;rw[de]at h;have:List.replicate m 1++(0::au (x % 2 ^ (m+4)) (m+4))=(List.replicate m 1++[0])++au (x % 2 ^ (m+4)) (m+4):=s_;rw[this]at h;obtain⟨n1,j1,j2⟩:=aN.1 h;have hx:x % 2 ^ (m+4)=x-2 ^ (m+4):=by rw[Nat.mod_eq_sub_mod l2,eW o_]
  refine⟨m,n1,Me.2 ⟨o_,by simpa using j1⟩,aJ.2 ⟨x % 2 ^ (m+4),n,(b6 o_).2 ⟨o_,j2⟩,?_⟩⟩;rw[hx]
  congr 1
  omega
def sgn (v:Int):Nat:=if v<0 then 1 else 0
def Ci {b:C_}{id:Nat}{M:Nat}(hM:id=11->M=8191):∀{vs:G_}{ss:C_}{l:G_}{a n:Nat},a<=b.length->Xn vs ss->(∀v∈vs,0<=v∧(id=11->v<=16)∧(id≠11->v<=M))->
  (lQ b id vs ss a=.ok l n↔(vs=l.map (jE id)∧ss=l.map sgn∧∀v∈l,v.natAbs<=M)∧At b a n (l.flatMap (vp id)))
 |[],[],l,a,n,ha,hs,hv=>by
  have e0:lQ b id [] [] a=.ok [] a:=by simp[lQ]
  rw[e0];constructor
  .intro h;injection h with e1 e2
   subst e1 e2;exact⟨⟨rfl,rfl,s_⟩,dz.2 ⟨rfl,ha⟩⟩
  .rintro ⟨⟨h1,h2,_⟩,h3⟩
   cases l with
   |nil=>rw[(dz.1 h3).1]
   |cons x r=>exact absurd h1 (by simp)
 |[],s::ss,l,a,n,ha,hs,hv=>absurd hs (by simp[Xn])
 |v::r,[],l,a,n,ha,hs,hv=>absurd hs (by simp[Xn])
 |v::r,s::ss,l,a,n,ha,hs,hv=>by
  obtain⟨⟨s1,s2⟩,hs⟩:=hs;obtain⟨v0,v11,vM⟩:=hv v (.head _);have hv:=λx hx=>hv x (.tail _ hx)
  have sg1:∀x:Int,0<=x->(x=0->s=0)->sgn (sg s x)=s∧(sg s x).natAbs=x.toNat:=λx h0 h1=>by
   unfold sgn sg;by_cases h:s=1
   .rw[ac h,ac o_];omega
   .rw[aa h,aa o_];omega
  have sg2:∀(y:Int),s=sgn y->sg s (y.natAbs:Int)=y:=λy h=>by
   unfold sgn at h;unfold sg;by_cases h2:y<0
   .rw[ac h2]at h;rw[ac h];omega
   .rw[aa h2]at h;rw[aa o_];omega
  rw[lQ];by_cases hg:id=11∧v=16
  .rw[ac hg,aJ];obtain⟨h11,hv16⟩:=hg;constructor
   .rintro ⟨x,m,h1,h⟩
    obtain⟨g1,g2⟩:=aiV.1 h1;obtain⟨l2,m2,h2,h⟩:=aJ.1 h;injection h with e1 e2;subst e1 e2;obtain⟨⟨g3,g4,g5⟩,g6⟩:=(Ci hM (cA g2).2.1 hs hv).1 h2;obtain⟨q1,q2⟩:=sg1 x o_ o_;have q3:(sg s (x:Int)).natAbs=x:=o_;refine⟨⟨?_,?_,?_⟩,?_⟩
    .rw[b9,<-g3,jE,ac o_,hv16]
    .rw[b9,<-g4,q1]
    .intro y hy;rcases aB.1 hy with rfl|hy
     .rw[q3,hM h11];omega
     .exact g5 y hy
    .rw[aG,vp,ac o_,q3];exact aN.2 ⟨m,g2,g6⟩
   .rintro ⟨⟨h1,h2,h3⟩,h4⟩
    cases l with
    |nil=>exact absurd h1 (by simp)
    |cons y l =>
     rw[b9]at h1 h2;injection h1 with h1 h1t
     injection h2 with h2 h2t
     have hy:=h3 y (.head _);rw[hM h11]at hy;have h16:16<=y.natAbs:=by
      rw[jE]at h1;by_cases h:id=11∧16<=y.natAbs
      .exact h.2
      .rw[aa h]at h1;omega
     rw[aG,vp,ac ⟨h11,h16⟩]at h4;obtain⟨m,k1,k2⟩:=aN.1 h4;refine⟨y.natAbs,m,aiV.2 ⟨o_,k1⟩,aJ.2 ⟨l,n,(Ci hM (cA k1).2.1 hs hv).2 ⟨⟨h1t,h2t,λz hz=>h3 z (.tail _ hz)⟩,k2⟩,?_⟩⟩;rw[sg2 y h2]
  .rw[aa hg,aJ];constructor
   .rintro ⟨l2,m,h1,h⟩
    injection h with e1 e2
    subst e1 e2;obtain⟨⟨g3,g4,g5⟩,g6⟩:=(Ci hM ha hs hv).1 h1;obtain⟨q1,q2⟩:=sg1 v v0 s2;have hng:¬(id=11∧16<=(sg s v).natAbs):=o_;refine⟨⟨?_,?_,?_⟩,?_⟩
    .rw[b9,<-g3,jE,aa hng];congr 1;omega
    .rw[b9,<-g4,q1]
    .intro y hy;rcases aB.1 hy with rfl|hy
     .by_cases h11:id=11
      .have:=hM h11;have:=v11 h11;omega
      .have:=vM h11;omega
     .exact g5 y hy
    .rw[aG,vp,aa hng,aO];exact g6
   .rintro ⟨⟨h1,h2,h3⟩,h4⟩
    cases l with
    |nil=>exact absurd h1 (by simp)
    |cons y l =>
     rw[b9]at h1 h2;injection h1 with h1 h1t
     injection h2 with h2 h2t
     have hng:¬(id=11∧16<=y.natAbs):=λh=>by
      rw[jE,ac h]at h1;exact hg ⟨h.1,h1⟩
     rw[jE,aa hng]at h1;rw[aG,vp,aa hng,aO]at h4;refine⟨l,n,(Ci hM ha hs hv).2 ⟨⟨h1t,h2t,λz hz=>h3 z (.tail _ hz)⟩,h4⟩,?_⟩;rw[h1,sg2 y h2]
def aeF {id:Nat}{v:Int}:jE id v=0↔v=0:=by
 unfold jE;by_cases h:id=11∧16<=v.natAbs
 .rw[ac h];omega
 .rw[aa h];omega
def ZX {id:Nat}:∀{l:G_},sgB (l.map (jE id)) (l.map sgn)=l.flatMap oO
 |[]=>rfl
 |v::r=>by
  rw[b9,b9,sgB,ZX,aG]
  congr 1
  unfold oO sgn;by_cases h:v=0
  .rw[ac (aeF.2 h),ac h]
  .rw[aa (λh2=>h (aeF.1 h2)),aa h];split<;>rfl
def YW {id:Nat}:∀{l:G_},Xn (l.map (jE id)) (l.map sgn)
 |[]=>trivial
 |v::r=>⟨⟨by unfold sgn;split<;>omega,λh=>by rw[aeF]at h;subst h;rfl⟩,YW⟩
def atE:iB 11=8191:=e_
def adt {id:Nat}(hid:1<=id∧id<=11){b:C_}{a n:Nat}{l:G_}:DC id b (a:Int)=.ok l n↔LQ id l∧At b a n (AM id l):=by
 have hok:jf id:=⟨hid.1,o_⟩
 obtain⟨m1,m2,m3,m4⟩:=AL id (Rl hid);obtain⟨k1,k2,k3,k4,k5,k6,k7⟩:=lj id (fK hok);have hmany:bh id=cu id ^ dX id:=rfl;have lt:∀{vs:G_},Qf id vs->kK (da id) (cu id) vs 0<bh id:=λ{vs} h=>by
  have:=Gk (n:=0) (j:=0) h.2 s_;rw[br,h.1,<-hmany]at this;exact this
 have back:∀{vs:G_},Qf id vs->lT id (kK (da id) (cu id) vs 0)=vs:=λ{vs} h=>by
  have:=amr k3 h.2;rw[h.1]at this;exact this
 have forth:∀{e:Nat},e<bh id->kK (da id) (cu id) (lT id e) 0=e∧∀v∈lT id e,da id<=v∧v<da id+cu id:=λ{e} h=>⟨aaP k3 (by rwa [<-hmany]),Hw k3⟩
 rw[DC,aJ];unfold AM;by_cases hs:j8 id=true
 .simp only[ac hs];obtain⟨q1,q2⟩:=m1 hs;constructor
  .rintro ⟨e,m,h1,h⟩
   obtain⟨g1,g2⟩:=(Ck hok).1 h1;injection h with e1 e2;subst e1 e2;obtain⟨f1,f2⟩:=forth g1;refine⟨⟨by rw[DM,m3],λv hv=>by have:=f2 v hv;omega⟩,?_⟩;rw[f1];exact g2
  .rintro ⟨h1,h2⟩
   have hi:=(Nb hid h1).1 hs;exact⟨_,n,(Ck hok).2 ⟨lt hi,h2⟩,by rw[back hi]⟩
 .have hs2:j8 id=false:=by simpa using hs
  simp only[aa hs];obtain⟨q1,q2,q3⟩:=m2 hs2;have h11:id=11->iB id=8191:=λh=>by rw[h];exact atE
  constructor
  .rintro ⟨e,m,h1,h⟩
   obtain⟨g1,g2⟩:=(Ck hok).1 h1;obtain⟨ss,m2,h2,h⟩:=aJ.1 h;obtain⟨g3,g4⟩:=(zO (cA g2).2.1).1 h2;obtain⟨f1,f2⟩:=forth g1;have hv:∀v∈lT id e,0<=v∧(id=11->v<=16)∧(id≠11->v<=iB id):=λv hv=>by
    have:=f2 v hv;refine⟨o_,λh=>by have:=q3 h;omega,λh=>by have:=q2 h;omega⟩
   obtain⟨⟨g5,g6,g7⟩,g8⟩:=(Ci h11 (cA g4).2.1 g3 hv).1 h;have hl:l.length=bB id:=by
    have:=bl List.length g5;rw[DM,gw]at this;omega
   refine⟨⟨hl,g7⟩,aN.2 ⟨m,?_,aN.2 ⟨m2,?_,g8⟩⟩⟩
   .rw[<-g5,f1];exact g2
   .rw[<-ZX (id:=id),<-g5,<-g6];exact g4
  .rintro ⟨h1,h2⟩
   have hi:=(Nb hid h1).2 hs2;obtain⟨m,j1,j2⟩:=aN.1 h2;obtain⟨p,j3,j4⟩:=aN.1 j2;have hv:∀v∈l.map (jE id),0<=v∧(id=11->v<=16)∧(id≠11->v<=iB id):=λv hv=>by
    have:=hi.2 v hv;refine⟨o_,λh=>by have:=q3 h;omega,λh=>by have:=q2 h;omega⟩
   refine⟨_,m,(Ck hok).2 ⟨lt hi,j1⟩,?_⟩;rw[back hi];refine aJ.2 ⟨l.map sgn,p,(zO (cA j1).2.1).2 ⟨YW,by rw[ZX];exact j3⟩,?_⟩;exact(Ci h11 (cA j3).2.1 YW hv).2 ⟨⟨rfl,rfl,h1.2⟩,j4⟩
def asS:bh 12=121:=e_
def ai9 {b:C_}{a n:Nat}{d:Int}:Ic b (a:Int)=.ok d n↔(-60<=d∧d<=60)∧At b a n (jS 12 (d+60).toNat):=by
 have hok:jf 12:=o_;have h12:=asS;rw[Ic,aJ];constructor
 .rintro ⟨e,m,h1,h⟩
  obtain⟨g1,g2⟩:=(Ck hok).1 h1;injection h with e1 e2;subst e1 e2;refine⟨o_,?_⟩;rw[show((e:Int)-60+60).toNat=e by omega];exact g2
 .rintro ⟨h1,h2⟩
  refine⟨(d+60).toNat,n,(Ck hok).2 ⟨o_,h2⟩,?_⟩
  congr 1
  omega
def RE {b:C_}{a n:Nat}{k w v:Int}(hw:w<0->k=13):ko b (a:Int) k w=.ok v n↔((0<=v∧v<=qX k)∧(w<0∨(w-60<=v∧v<=w+60)))∧At b a n (if w<0 then au v.toNat 9 else jS 12 (v-w+60).toNat):=by
 rw[ko];by_cases h0:w<0
 .have hk:=hw h0;have hm:qX k=511:=ac hk;rw[ac h0,ac h0,aJ,hm];constructor
  .rintro ⟨x,m,h1,h⟩
   obtain⟨g1,g2⟩:=(b6 (s:=9) o_).1 h1;injection h with e1 e2;subst e1 e2;exact⟨⟨o_,.inl h0⟩,by simpa using g2⟩
  .rintro ⟨⟨h1,_⟩,h2⟩
   exact⟨v.toNat,n,(b6 (s:=9) o_).2 ⟨o_,h2⟩,by congr 1;omega⟩
 .rw[aa h0,aa h0,aJ];constructor
  .rintro ⟨d,m,h1,h⟩
   obtain⟨g1,g2⟩:=ai9.1 h1;by_cases hx:w+d<0∨qX k<w+d
   .rw[ac hx]at h;exact absurd h (by simp)
   rw[aa hx]at h;injection h with e1 e2
   subst e1 e2;refine⟨⟨o_,.inr o_⟩,?_⟩;rw[show w+d-w+60=d+60 by omega];exact g2
  .rintro ⟨⟨h1,h2⟩,h3⟩
   refine⟨v-w,n,ai9.2 ⟨o_,h3⟩,?_⟩;rw[aa o_]
   congr 1
   omega
def s13 {v w z:Int}:qD 13 v w z=if z<0 then au v.toNat 9 else jS 12 (v-z+60).toNat:=by rw[qD,aa k_,ac rfl]
def t13 {v w z:Int}:jC 13 v w z=(w,v):=by rw[jC,aa k_,ac rfl]
def zN {b:C_}:∀{r:G_}{t:G_}{a n:Nat}{w z w2 z2:Int},a<=b.length->(∀k∈r,0<=k)->0<=w->
  (np b r (a:Int) w z=.ok (t,w2,z2) n↔dF r t w z=some (w2,z2)∧At b a n (pR r t w z))
 |[],t,a,n,w,z,w2,z2,ha,hr,hw=>by
  rw[np,aq];constructor
  .intro h;injection h with e1 e2
   injection e1 with e1 e3
   injection e3 with e3 e4
   subst e1 e2 e3 e4;exact⟨rfl,dz.2 ⟨rfl,ha⟩⟩
  .rintro ⟨h1,h2⟩
   cases t with
   |nil =>
    injection h1 with h1
    injection h1 with e1 e2
    subst e1 e2;rw[(dz.1 h2).1]
   |cons x t=>exact absurd h1 (by simp[dF])
 |k::r,t,a,n,w,z,w2,z2,ha,hr,hw=>by
  have hk:=hr k (.head _);have hr2:∀k∈r,0<=k:=λx hx=>hr x (.tail _ hx)
  rw[np];by_cases h13:k=13
  .subst h13;rw[ac rfl,aJ];have hm:qX 13=511:=rfl;constructor
   .rintro ⟨v,m,h1,h⟩
    obtain⟨g1,g2⟩:=(RE (λ_=>rfl)).1 h1;obtain⟨⟨t2,u2,y2⟩,m2,h2,h⟩:=aJ.1 h;injection h with e1 e2;injection e1 with e1 e3
    injection e3 with e3 e4
    simp only at e1 e3 e4;subst e1 e2 e3 e4;obtain⟨g3,g4⟩:=(zN (cA g2).2.1 hr2 hw).1 h2;refine⟨?_,?_⟩
    .rw[dF,aa k_,ac (by unfold kW;rw[ac rfl];omega),ac rfl];exact g3
    .rw[pR,s13,t13];exact aN.2 ⟨m,g2,g4⟩
   .rintro ⟨h1,h2⟩
    cases t with
    |nil=>exact absurd h1 (by simp[dF])
    |cons v t =>
     obtain⟨c1,c2,c3⟩:=oN (by rw[h1];simp);have hT:=c2 k_;unfold kW at hT;rw[ac rfl]at hT;rw[c3,jC,aa k_,ac rfl]at h1;rw[pR,s13,t13]at h2;obtain⟨m,j1,j2⟩:=aN.1 h2;exact⟨v,m,(RE (λ_=>rfl)).2 ⟨o_,j1⟩,aJ.2 ⟨(t,w2,z2),n,(zN (cA j1).2.1 hr2 hw).2 ⟨h1,j2⟩,rfl⟩⟩
  .rw[aa h13];by_cases h0:0<k
   .have hm:qX k=255:=aa h13;have hk0:¬k=0:=o_;rw[ac h0,aJ];constructor
    .rintro ⟨v,m,h1,h⟩
     obtain⟨g1,g2⟩:=(RE (λh=>by omega)).1 h1;obtain⟨⟨t2,u2,y2⟩,m2,h2,h⟩:=aJ.1 h;injection h with e1 e2;injection e1 with e1 e3
     injection e3 with e3 e4
     simp only at e1 e3 e4;subst e1 e2 e3 e4;rw[aa o_]at g2;obtain⟨g3,g4⟩:=(zN (cA g2).2.1 hr2 g1.1.1).1 h2;refine⟨?_,?_⟩
     .rw[dF,aa hk0,ac (by unfold kW;rw[aa h13];omega),aa h13];exact g3
     .rw[pR,qD,aa hk0,aa h13,jC,aa hk0,aa h13];exact aN.2 ⟨m,g2,g4⟩
    .rintro ⟨h1,h2⟩
     cases t with
     |nil=>exact absurd h1 (by simp[dF])
     |cons v t =>
      obtain⟨c1,c2,c3⟩:=oN (by rw[h1];simp);have hT:=c2 hk0;unfold kW at hT;rw[aa h13]at hT;rw[c3,jC,aa hk0,aa h13]at h1;rw[pR,qD,aa hk0,aa h13,jC,aa hk0,aa h13]at h2;obtain⟨m,j1,j2⟩:=aN.1 h2;exact⟨v,m,(RE (λh=>by omega)).2 ⟨o_,by rw[aa o_];exact j1⟩,aJ.2 ⟨(t,w2,z2),n,(zN (cA j1).2.1 hr2 hT.1.1).2 ⟨h1,j2⟩,rfl⟩⟩
   .have hk0:k=0:=o_;subst hk0;rw[aa h0,aJ];constructor
    .rintro ⟨⟨t2,u2,y2⟩,m2,h2,h⟩
     injection h with e1 e2
     injection e1 with e1 e3
     injection e3 with e3 e4
     simp only at e1 e3 e4;subst e1 e2 e3 e4;obtain⟨g3,g4⟩:=(zN ha hr2 hw).1 h2;refine⟨?_,?_⟩
     .rw[dF,ac rfl,ac rfl];exact g3
     .rw[pR,qD,ac rfl,jC,ac rfl,aO];exact g4
    .rintro ⟨h1,h2⟩
     cases t with
     |nil=>exact absurd h1 (by simp[dF])
     |cons v t =>
      obtain⟨c1,c2,c3⟩:=oN (by rw[h1];simp);have:=c1 rfl;subst this;rw[c3,jC,ac rfl]at h1;rw[pR,qD,ac rfl,jC,ac rfl,aO]at h2;exact⟨(t,w2,z2),n,(zN ha hr2 hw).2 ⟨h1,h2⟩,rfl⟩
def afV:∀{r t:G_}{w z w2 z2:Int},0<=w->dF r t w z=some (w2,z2)->0<=w2
 |[],[],w,z,w2,z2,hw,h=>by
  injection h with h
  injection h with e1 e2
  omega
 |[],_::_,w,z,w2,z2,hw,h=>absurd h (by simp[dF])
 |_::_,[],w,z,w2,z2,hw,h=>absurd h (by simp[dF])
 |k::r,v::t,w,z,w2,z2,hw,h=>by
  obtain⟨c1,c2,c3⟩:=oN (by rw[h];simp);rw[c3]at h;refine afV ?_ h;unfold jC;by_cases h0:k=0
  .rw[ac h0];exact hw
  .rw[aa h0];have:=c2 h0;unfold kW at this;split
   .exact hw
   .rename_i h13;rw[aa h13]at this;exact this.1.1
def QI {b:C_}:∀{g:H_}{t:L_}{a n:Nat}{w z:Int},a<=b.length->(∀l∈g,∀k∈aK l,0<=k)->0<=w->
  (mE b g (a:Int) w z=.ok t n↔lX g t w z≠none∧At b a n (pw g t w z))
 |[],t,a,n,w,z,ha,hr,hw=>by
  rw[mE,aq];constructor
  .intro h;injection h with e1 e2
   subst e1 e2;exact⟨by simp[lX],dz.2 ⟨rfl,ha⟩⟩
  .rintro ⟨h1,h2⟩
   cases t with
   |nil=>rw[(dz.1 h2).1]
   |cons x t=>exact absurd rfl h1
 |l::r,t,a,n,w,z,ha,hr,hw=>by
  have hl:=hr l (.head _);have hr2:∀q∈r,∀k∈aK q,0<=k:=λq hq=>hr q (.tail _ hq)
  rw[mE,aJ];constructor
  .rintro ⟨⟨t1,w1,z1⟩,m,h1,h⟩
   obtain⟨g1,g2⟩:=(zN ha hl hw).1 h1;obtain⟨t2,m2,h2,h⟩:=aJ.1 h;injection h with e1 e2;subst e1 e2;obtain⟨g3,g4⟩:=(QI (cA g2).2.1 hr2 (afV hw g1)).1 h2;refine⟨?_,?_⟩
   .rw[lX,g1];exact g3
   .rw[pw,g1];exact aN.2 ⟨m,g2,g4⟩
  .rintro ⟨h1,h2⟩
   cases t with
   |nil=>exact absurd rfl h1
   |cons t1 t =>
    rw[lX]at h1;rw[pw]at h2
    cases e:dF (aK l) t1 w z with
    |none=>rw[e]at h1;exact absurd rfl h1
    |some p =>
     obtain⟨w1,z1⟩:=p;rw[e]at h1 h2;obtain⟨m,j1,j2⟩:=aN.1 h2;exact⟨(t1,w1,z1),m,(zN ha hl hw).2 ⟨e,j1⟩,aJ.2 ⟨t,n,(QI (cA j1).2.1 hr2 (afV hw e)).2 ⟨h1,j2⟩,rfl⟩⟩
def aba {b:C_}{g:H_}{t:L_}{a n:Nat}{w:Int}(ha:a<=b.length)(hr:∀l∈g,∀k∈aK l,0<=k)(hw:0<=w):xF b g (a:Int) w=.ok t n↔zi w g t∧At b a n (pw g t w (-1)):=by
 rw[xF,ac o_,QI ha hr hw]
def Sf {Z l:G_}{a i:Nat}(h:a+l.length<=Z.length):(aE Z a l)[i]?=if a<=i∧i<a+l.length then l[i-a]? else Z[i]?:=by
 have h1:(Z.take a).length=a:=by rw[cV];omega
 unfold aE;by_cases h2:i<a
 .rw[aa o_,ay,bZ o_,iR,ac h2]
 .by_cases h3:i<a+l.length
  .rw[ac o_,ay,ct o_,h1,bZ o_]
  .rw[aa o_,ct (by rw[al];omega),al,h1,bW]
   congr 1
   omega
abbrev cut (Z:G_)(p:Nat×Nat):G_:=(Z.drop p.2).take (bB p.1)
def Rz {Z:G_}{p:Nat×Nat}{i:Nat}(h:i<bB p.1):(cut Z p)[i]?=Z[p.2+i]?:=by
 rw[cut,iR,ac h,bW]
def aiW {Z:G_}{p:Nat×Nat}(h:p.2+bB p.1<=Z.length):(cut Z p).length=bB p.1:=by
 rw[cut,cV,dZ];omega
def S7 {b:C_}{Zc:G_}(hl:Zc.length=256):∀{pl:R_}{n m:Nat}{Z:G_},n<=b.length->Z.length=256->(∀p∈pl,(1<=p.1∧p.1<=11)∧p.2+bB p.1<=256∧LQ p.1 (cut Zc p))->
  (∀i,(∃p∈pl,p.2<=i∧i<p.2+bB p.1)∨Z[i]?=Zc[i]?)->At b n m (pl.flatMap λp=>AM p.1 (cut Zc p))->jJ b pl n Z=.ok Zc m
 |[],n,m,Z,hn,hz,hp,hc,h=>by
  rw[jJ,(dz.1 h).1]
  congr 1
  apply dC;intro i;rcases hc i with ⟨p,hp,_⟩|h
  .exact absurd hp (by simp)
  .exact h
 |p::r,n,m,Z,hn,hz,hp,hc,h=>by
  obtain⟨p1,p2,p3⟩:=hp p (.head _);rw[aG]at h;obtain⟨k,j1,j2⟩:=aN.1 h;have hcl:=aiW (Z:=Zc) (p:=p) o_;rw[jJ,(adt p1).2 ⟨p3,j1⟩,ax];refine S7 hl (cA j1).2.1 (by rw[U9 o_];exact hz) (λq hq=>hp q (.tail _ hq)) (λi=>?_) j2;rcases hc i with ⟨q,hq,h1,h2⟩|h3
  .rcases aB.1 hq with rfl|hq
   .right;rw[Sf o_,ac o_,Rz o_]
    congr 1
    omega
   .exact .inl ⟨q,hq,h1,h2⟩
  .right;rw[Sf o_];split
   .rw[Rz o_];congr 1;omega
   .exact h3
def aoc {d hi i:Nat}(hd:1<=d):∀{f lo:Nat},lo<=i->i<hi->hi<=lo+f->∃x∈qY d hi f lo,x<=i∧i<x+d
 |0,lo,h1,h2,h3=>by omega
 |f+1,lo,h1,h2,h3=>by
  rw[qY,ac o_];rcases bt i (lo+d) with h|h
  .exact⟨lo,.head _,h1,h⟩
  .obtain⟨x,hx,e⟩:=aoc hd (f:=f) h h2 o_;exact⟨x,.tail _ hx,e⟩
def afZ {os:C_}{d b x:Nat}:∀{k w0 w:Nat},w0<=w->w<w0+k->x∈qY d (nth os (b+1)) 300 (nth os b)->w*32+x∈pY os d b k w0
 |0,w0,w,h1,h2,_=>by omega
 |k+1,w0,w,h1,h2,h=>by
  rw[pY,bi];rcases bt w0 w with h3|h3
  .exact .inr (afZ h3 o_ h)
  .have:w=w0:=o_;subst this;exact .inl (dh.2 ⟨x,h,rfl⟩)
def ane {os:C_}{d n first y b:Nat}:∀{k b0:Nat},b0<=b->b<b0+k->y∈pY os d b n first->y∈xE os d n first k b0
 |0,b0,h1,h2,_=>by omega
 |k+1,b0,h1,h2,h=>by
  rw[xE,bi];rcases bt b0 b with h3|h3
  .exact .inr (ane h3 o_ h)
  .have:b=b0:=o_;subst this;exact .inl h
def an7 {os:C_}{n first k y:Nat}(hk:1<=k∧k<=11):∀{r:Q_}{b j:Nat},(aK r)[j]?=some (k:Int)->y∈pY os (bB k) (b+j) n first->(k,y)∈zS os n first r b
 |[],b,j,h,_=>absurd h (by simp[aK])
 |s::r,b,j,h,hy=>by
  have eb:aK (s::r)=List.replicate s.len.toNat s.book++aK r:=by rw[aK,aG];rfl
  rw[eb]at h;rw[zS,bi];rcases bt j s.len.toNat with h1|h1
  .left;rw[bZ (by simpa using h1),iM,ac h1,ae]at h;rw[h,aa o_,aq];exact dh.2 ⟨y,ane (b:=b+j) o_ o_ hy,rfl⟩
  .right;rw[ct (by simpa using h1),bn]at h;exact an7 hk h (by rw[show b+s.len.toNat+(j-s.len.toNat)=b+j by omega];exact hy)
def am6 {os:C_}{k x j w:Nat}(hk:1<=k∧k<=11):∀{r:H_}{q:G_}{first:Nat}{l:Q_},(∀n∈q,1<=n)->first<=w->(w:Int)<first+q.sum->r[kp q ((w:Int)-first)]?=some l->(aK l)[j]?=some (k:Int)->x∈qY (bB k) (nth os (j+1)) 300 (nth os j)->(k,w*32+x)∈pB os r q first
 |[],q,first,l,hq,h1,h2,h3,h4,h5=>absurd h3 (by simp)
 |l0::r,[],first,l,hq,h1,h2,h3,h4,h5=>by simp at h2;omega
 |l0::r,n::q,first,l,hq,h1,h2,h3,h4,h5=>by
  have hn:=hq n (.head _);rw[pB,bi];rw[kp]at h3;rw[j7]at h2;by_cases h:(w:Int)-first<n
  .rw[ac h]at h3;simp only[bX,ae]at h3;subst h3;exact .inl (an7 hk h4 (by rw[br];exact afZ h1 o_ h5))
  .rw[aa h,lE]at h3;right;refine am6 hk (λy hy=>hq y (.tail _ hy)) o_ o_ ?_ h4 h5;rw[show(w:Int)-((first+n.toNat:Nat):Int)=(w:Int)-first-n by omega];exact h3
def ae8 {i:Nat}:∀{tl:C_}{lo:Nat},lo<=i->(∃x∈tl,i<x)->li tl i<tl.length∧nth (lo::tl) (li tl i)<=i∧i<nth (lo::tl) (li tl i+1)
 |[],lo,_,h=>by obtain⟨x,hx,_⟩:=h;exact absurd hx (by simp)
 |x::r,lo,h1,h2=>by
  rw[li];by_cases h:x<=i
  .rw[ac h];have ih:=ae8 (tl:=r) h (by
    obtain⟨y,hy,e⟩:=h2;rcases aB.1 hy with rfl|hy
    .omega
    .exact⟨y,hy,e⟩)
   exact⟨by rw[ar];omega,ih.2⟩
  .rw[aa h];exact⟨s_,h1,by show i<x;omega⟩
def FI (i:aM):(cond i.short 32 256:Nat)=i.wide∧((i.wide=32∧i.many=8)∨(i.wide=256∧i.many=1)):=by
 unfold aM.short aM.wide aM.many;by_cases h:i.seq=2
 .rw[decide_eq_true h,ac h,ac h];exact⟨rfl,.inl ⟨rfl,rfl⟩⟩
 .rw[decide_eq_false h,aa h,aa h];exact⟨rfl,.inr ⟨rfl,rfl⟩⟩
def aoq {r:Nat}(hr:r<=11)(s:Bool):offs r s=0::(offs r s).drop 1:=by
 obtain⟨o1,o2,o3,o4⟩:=zM (r,s) (fh o_);obtain⟨p1,p2,p3⟩:=mX (r,s) (fh o_);simp only at o4 p2
 cases e:offs r s with
 |nil=>rw[e]at o4;simp at o4
 |cons x t =>
  rw[e]at p2;have:x=0:=p2;rw[this];rfl
def asT {r:Nat}(hr:r<=11)(i:aM){x:Nat}(hx:x<i.wide):∃j,j=li ((offs r i.short).drop 1) x∧j+1<(offs r i.short).length∧nth (offs r i.short) j<=x∧x<nth (offs r i.short) (j+1):=by
 obtain⟨o1,o2,o3,o4⟩:=zM (r,i.short) (fh o_);simp only at o1;have hw:=(FI i).1;rw[hw]at o1;have hm:i.wide∈(offs r i.short).drop 1:=by simpa using o1
 have h:=ae8 (i:=x) (tl:=(offs r i.short).drop 1) (lo:=0) (dn _) ⟨_,hm,hx⟩;rw[<-aoq hr]at h;refine⟨_,rfl,?_,h.2⟩;have:=h.1;rw[dZ]at this;omega
def aku {r:Nat}{c:cS}(h:lL r c)(hr:r<=11){i:Nat}{v:Int}(hv:c.lines[i]?=some v)(h0:v≠0):∃p∈Ll r c.info c.sects,p.2<=i∧i<p.2+bB p.1:=by
 have hm11:=fG hr h.info;obtain⟨g1,g2⟩:=dp hm11;have hi:i<256:=by
  have:=(aH.1 hv).1;have:=h.lines.1;omega
 obtain⟨hw1,hw⟩:=FI c.info;have hwp:0<c.info.wide:=o_;have hdm:=nS i c.info.wide;have hx:=dO i hwp;have hwm:i / c.info.wide<c.info.many:=by
  rcases hw with ⟨a,b⟩|⟨a,b⟩<;>rw[a,b]<;>omega
 have hw32:i / c.info.wide*32+i % c.info.wide=i:=by
  rcases hw with ⟨a,b⟩|⟨a,b⟩<;>rw[a]<;>omega
 have e1:(xj c (i / c.info.wide))[i % c.info.wide]?=some v:=by
  rw[xj,iR,ac hx,bW,dQ,hdm,hv]
 have h2:=PL (QD h.lines.2 (dn _) (show _<0+c.info.many by omega)) e1;rw[br]at h2;rcases h2 with h2|⟨k,k1,k2,k3⟩
 .exact absurd h2 h0
 obtain⟨j,j1,j2,j3,j4⟩:=asT hr c.info hx;rw[<-j1]at k1;obtain⟨K,rfl⟩:=aA (show 0<=k by omega);have hd:1<=bB K:=by unfold bB;split<;>omega
 have ho:nth (offs r c.info.short) (j+1)<=256:=by
  obtain⟨p1,p2,p3⟩:=mX (r,c.info.short) (fh o_);have:=bC.1 p3 _ (iP j2);simp only[decide_eq_true_eq]at this;rw[hw1]at this;omega
 obtain⟨x,x1,x2,x3⟩:=aoc hd (f:=300) j3 j4 o_;generalize i / c.info.wide=w at *;generalize i % c.info.wide=y at *;have hgl:kp c.info.groups (w:Int)<c.sects.length:=by
  have:=af1 (l:=c.info.groups) (w:=w) o_ (λn hn=>(g1 n hn).1) o_;have:=h.sects.1;omega
 refine⟨(K,w*32+x),am6 (l:=vK c w) o_ (λn hn=>(g1 n hn).1) (dn _) o_ ?_ k1 x1,by simp only[];omega,by simp only[];omega⟩;rw[show(w:Int)-((0:Nat):Int)=w by omega,vK,j5,bx hgl];rfl
def ale {b:C_}{r:Nat}{c:cS}(hc:c.Fit)(h:lL r c)(hr:r<=11){n m:Nat}(hn:n<=b.length)(ha:At b n m (mz r c)):jJ b (Ll r c.info c.sects) n Z0=.ok c.lines m:=by
 refine S7 h.lines.1 hn (by rw[bn]) (λp hp=>PM hc h hr hp) (λi=>?_) ha
 cases e:c.lines[i]? with
 |none =>
  right;have:=List.getElem?_eq_none_iff.1 e;have:=h.lines.1;rw[gB (by rw[bn];omega)]
 |some v =>
  by_cases h0:v=0
  .right;subst h0;have:=(aH.1 e).1;have:=h.lines.1;rw[iM,ac o_]
  .exact .inl (aku h hr e h0)
def zw (b:C_)(st s2:RS)(X:C_):Prop:=∃a n:Nat,st=⟨a,0⟩∧s2=⟨n,0⟩∧At b a n X
def aks (b:C_)(st:RS):Prop:=∃a:Nat,st=⟨a,0⟩∧a<=b.length
def io {b:C_}{st s2:RS}{X Y:C_}:zw b st s2 (X++Y)↔∃m,zw b st m X∧zw b m s2 Y:=by
 constructor
 .rintro ⟨a,n,e1,e2,h⟩
  obtain⟨m,h1,h2⟩:=aN.1 h;exact⟨⟨m,0⟩,⟨a,m,e1,rfl,h1⟩,⟨m,n,rfl,e2,h2⟩⟩
 .rintro ⟨m,⟨a,n,e1,e2,h⟩,⟨a2,n2,e3,e4,h2⟩⟩
  rw[e2]at e3;injection e3 with e3 _
  have:n=a2:=o_;subst this;exact⟨a,n2,e1,e4,aN.2 ⟨n,h,h2⟩⟩
def zX {b:C_}{st s2:RS}:zw b st s2 []↔s2=st∧aks b st:=by
 constructor
 .rintro ⟨a,n,e1,e2,h⟩
  obtain⟨h1,h2⟩:=dz.1 h;exact⟨by rw[e1,e2,h1],a,e1,h2⟩
 .intro hh;obtain⟨a,e,h⟩:=hh.2;exact⟨a,a,e,by rw[hh.1,e],dz.2 ⟨rfl,h⟩⟩
def Cs {b:C_}{st s2:RS}{X:C_}(h:zw b st s2 X):aks b st∧aks b s2∧st.e=0∧s2.e=0:=by
 obtain⟨a,n,e1,e2,h⟩:=h;have:=cA h;exact⟨⟨a,e1,this.1⟩,⟨n,e2,this.2.1⟩,by rw[e1],by rw[e2]⟩
def Vj {b:C_}{st:RS}{s:Nat}(h:(sN b st s).e=0):st.e=0:=by
 unfold sN at h;by_cases h0:st.e=0
 .exact h0
 .rw[aa h0]at h;exact absurd h h0
def Jo {b:C_}{st:RS}{s:Nat}(hs:s<=31)(h:(sN b st s).e=0):sV b st s<2 ^ s∧zw b st (sN b st s) (au (sV b st s) s):=by
 have h0:=Vj h;obtain⟨a,e⟩:=st;simp only at h0;subst h0
 cases hg:bb b a s with
 |er e=>rw[(Be hg).2]at h;exact absurd h (by simp)
 |ok v n =>
  rw[(jG hg).1,(jG hg).2];have ha:=ajw hg;obtain⟨A,rfl⟩:=aA ha;obtain⟨g1,g2⟩:=(b6 hs).1 hg;exact⟨g1,A,n,rfl,rfl,g2⟩
def QB {b:C_}{st s2:RS}{s v:Nat}(hs:s<=31)(hv:v<2 ^ s)(h:zw b st s2 (au v s)):sV b st s=v∧sN b st s=s2:=by
 obtain⟨a,n,rfl,rfl,h⟩:=h;exact jG ((b6 hs).2 ⟨hv,h⟩)
abbrev nx (b:C_)(st:RS):Prop:=st.e=0->aks b st
def aBT {v sz:Nat}(hz:1<=sz)(hv:v<2 ^ sz):(-((2 ^ (sz-1):Nat):Int)<=Qi v sz∧Qi v sz<((2 ^ (sz-1):Nat):Int))∧(Qi v sz % ((2 ^ sz:Nat):Int)).toNat=v:=by
 obtain⟨k,rfl⟩:∃k,sz=k+1:=⟨sz-1,o_⟩
 have e:2 ^ (k+1)=2*2 ^ k:=by rw[cW,dQ]
 have hp:=bM k;unfold Qi;rw[de];rw[e]at hv⊢;rcases bt v (2 ^ k) with h|h
 .rw[iy h,Nat.zero_mul];refine⟨o_,?_⟩;rw[jm o_ o_];omega
 .have:v / 2 ^ k=1:=oB o_ o_;rw[this,Nat.one_mul];refine⟨o_,?_⟩;have e3:((v:Int)-((2*2 ^ k:Nat):Int)) % ((2*2 ^ k:Nat):Int)=v:=by
   rw[Int.sub_emod_right,jm o_ o_]
  rw[e3];omega
def aCl {c:Int}{sz:Nat}(hz:1<=sz)(h:-((2 ^ (sz-1):Nat):Int)<=c∧c<((2 ^ (sz-1):Nat):Int)):(c % ((2 ^ sz:Nat):Int)).toNat<2 ^ sz∧Qi (c % ((2 ^ sz:Nat):Int)).toNat sz=c:=by
 obtain⟨k,rfl⟩:∃k,sz=k+1:=⟨sz-1,o_⟩
 have e:2 ^ (k+1)=2*2 ^ k:=by rw[cW,dQ]
 have hp:=bM k;rw[de]at h;unfold Qi;rw[de,e];rcases Int.lt_or_le c 0 with h0|h0
 .have e3:c % ((2*2 ^ k:Nat):Int)=c+((2*2 ^ k:Nat):Int):=by
   rw[<-Int.add_emod_right,jm o_ o_]
  rw[e3];have e4:(c+((2*2 ^ k:Nat):Int)).toNat / 2 ^ k=1:=oB o_ o_;rw[e4];omega
 .rw[jm o_ o_,iy o_];omega
def axo {b:C_}{sz:Nat}(hz:1<=sz∧sz<=31):∀{k:Nat}{st:RS},nx b st->(vE b sz k st).e=0->(w9 b sz k st).length=k∧(∀c∈w9 b sz k st,-((2 ^ (sz-1):Nat):Int)<=c∧c<((2 ^ (sz-1):Nat):Int))∧zw b st (vE b sz k st) (oT sz (w9 b sz k st))
 |0,st,hn,h=>⟨rfl,by simp[w9],zX.2 ⟨rfl,hn h⟩⟩
 |k+1,st,hn,h=>by
  rw[vE]at h;have hn2:nx b (sN b st sz):=λh1=>(Cs (Jo hz.2 h1).2).2.1
  obtain⟨i1,i2,i3⟩:=axo hz (k:=k) hn2 h;obtain⟨j1,j2⟩:=Jo hz.2 (Cs i3).2.2.1;obtain⟨v1,v2⟩:=aBT hz.1 j1;rw[w9,vE];refine⟨by rw[ar,i1],λc hc=>?_,?_⟩
  .rcases aB.1 hc with rfl|hc
   .exact v1
   .exact i2 c hc
  .rw[oT,aG,v2];exact io.2 ⟨_,j2,i3⟩
def axk {b:C_}{sz:Nat}(hz:1<=sz∧sz<=31):∀{l:G_}{st s2:RS},(∀c∈l,-((2 ^ (sz-1):Nat):Int)<=c∧c<((2 ^ (sz-1):Nat):Int))->zw b st s2 (oT sz l)->w9 b sz l.length st=l∧vE b sz l.length st=s2
 |[],st,s2,hl,h=>⟨rfl,(zX.1 h).1.symm⟩
 |c::r,st,s2,hl,h=>by
  rw[oT,aG]at h;obtain⟨m,h1,h2⟩:=io.1 h;obtain⟨v1,v2⟩:=aCl hz.1 (hl c (.head _));obtain⟨w1,w2⟩:=QB hz.2 v1 h1;obtain⟨i1,i2⟩:=axk hz (l:=r) (λx hx=>hl x (.tail _ hx)) h2;rw[ar,w9,vE,w1,w2,v2,i1,i2];exact⟨rfl,rfl⟩
def apJ {b:C_}{sz:Nat}:∀{k:Nat}{st:RS},(vE b sz k st).e=0->st.e=0
 |0,_,h=>h
 |k+1,st,h=>by rw[vE]at h;exact Vj (apJ h)
def R4 {b:C_}{st:RS}{s:Nat}(hs:s<=31):nx b (sN b st s):=λh=>(Cs (Jo hs h).2).2.1
def avN {b:C_}{sz:Nat}(hz:sz<=31):∀{k:Nat}{st:RS},nx b st->nx b (vE b sz k st)
 |0,_,h=>h
 |k+1,st,h=>by rw[vE];exact avN hz (R4 hz)
def amq {fine:Bool}{w:Nat}(hw:w<=1):1<=fq fine-w∧fq fine-w<=31:=by unfold fq;split<;>omega
def asg (fine:Bool)(l:G_)(s:Nat)(hs:s=fq fine-1):I9 l s=decide (∀c∈l,-(dw fine / 2)<=c∧c<dw fine / 2):=by
 subst hs
 cases fine<;>rfl
def QF (sh:Bool):yK sh=((2 ^ bL sh:Nat):Int)-1∧bL sh<=31∧bK sh<=31∧ej sh<=31:=by cases sh<;>decide
def ao2 {d:Nat}(h:d<2 ^ 1):dJ (decide (d=1))=d:=by
 unfold dJ;by_cases h1:d=1
 .rw[h1];rfl
 .rw[decide_eq_false h1];simp;omega
def aCh {b:C_}{sh fine:Bool}{st:RS}(hO:¬(12<qQ b (bL sh) (bK sh) st∧(xI b (bL sh) (bK sh) st).e=0))(hX:IK b (bL sh) (bK sh) fine st=false)(he:(wY b (bL sh) (bK sh) fine st).e=0) :
  (Ak sh (Ly b (bL sh) (bK sh) fine st)∧(Ly b (bL sh) (bK sh) fine st).fine=fine)∧zw b st (wY b (bL sh) (bK sh) fine st) (rF sh (Ly b (bL sh) (bK sh) fine st)):=by
 obtain⟨l1,l2,l3,_⟩:=QF sh;have hS:(xI b (bL sh) (bK sh) st).e=0:=by
  unfold wY at he;by_cases h0:qQ b (bL sh) (bK sh) st=0
  .rw[ac h0]at he;exact he
  .rw[aa h0]at he;have:=apJ he;exact Vj (s:=1) (Vj (s:=1) this)
 have r2:=Jo (st:=sN b st (bL sh)) (s:=bK sh) l3 hS;have r1:=Jo (st:=st) (s:=bL sh) l2 (Vj (s:=bK sh) hS);have hO2:((qQ b (bL sh) (bK sh) st:Nat):Int)<=u7 sh:=by
  have h1:qQ b (bL sh) (bK sh) st<2 ^ bK sh:=r2.1;have h2:qQ b (bL sh) (bK sh) st<=12:=by
   rcases bt 12 (qQ b (bL sh) (bK sh) st) with h|h
   .exact absurd ⟨h,hS⟩ hO
   .exact h
  cases sh
  .show _<=(12:Int);omega
  .have:2 ^ bK true=8:=rfl;show _<=(7:Int);omega
 have hr1:=r1.1;have q2:zw b (sN b st (bL sh)) (xI b (bL sh) (bK sh) st) (au (qQ b (bL sh) (bK sh) st) (bK sh)):=r2.2;unfold wY at he⊢;unfold Ly;by_cases h0:qQ b (bL sh) (bK sh) st=0
 .rw[ac h0]at he⊢;rw[ac h0];rw[h0]at q2;refine⟨⟨⟨⟨by simp only[];omega,by simp only[];omega⟩,⟨s_,by simp only[];cases sh<;>decide⟩,rfl,λ_=>rfl,s_⟩,rfl⟩,?_⟩;unfold rF;simp only[bc,be];exact io.2 ⟨_,by simpa using r1.2,by simpa using q2⟩
 .rw[aa h0]at he⊢;rw[aa h0];have hT:=apJ he;have r4:=Jo (st:=sN b (xI b (bL sh) (bK sh) st) (1:Nat)) (s:=1) o_ hT;have r3:=Jo (st:=xI b (bL sh) (bK sh) st) (s:=1) o_ (Vj (s:=1) hT);have hd:flD b (bL sh) (bK sh) st<2 ^ 1:=r3.1;have hw:Fo b (bL sh) (bK sh) st<2 ^ 1:=r4.1;have q3:zw b (xI b (bL sh) (bK sh) st) (sN b (xI b (bL sh) (bK sh) st) (1:Nat)) (au (flD b (bL sh) (bK sh) st) 1):=r3.2;have q4:zw b (sN b (xI b (bL sh) (bK sh) st) (1:Nat)) (Oo b (bL sh) (bK sh) st) (au (Fo b (bL sh) (bK sh) st) 1):=r4.2;have hz:=amq (fine:=fine) (w:=Fo b (bL sh) (bK sh) st) o_;have c:=axo (sz:=GG b (bL sh) (bK sh) fine st) hz (k:=qQ b (bL sh) (bK sh) st) (R4 (st:=sN b (xI b (bL sh) (bK sh) st) (1:Nat)) (s:=1) o_) he;unfold IK at hX;rw[aa h0]at hX;obtain⟨c1,c2,c3⟩:=c;have c3:zw b (Oo b (bL sh) (bK sh) st) _ _:=c3;have hZ:GG b (bL sh) (bK sh) fine st=fq fine-Fo b (bL sh) (bK sh) st:=rfl;generalize hcf:w9 b (GG b (bL sh) (bK sh) fine st) (qQ b (bL sh) (bK sh) st) (sN b (sN b (xI b (bL sh) (bK sh) st) (1:Nat)) (1:Nat))=cs at *;have hcf2:w9 b (GG b (bL sh) (bK sh) fine st) (qQ b (bL sh) (bK sh) st) (Oo b (bL sh) (bK sh) st)=cs:=hcf;rw[hcf2]at hX⊢;have hrng:∀c∈cs,-dw fine<=c∧c<dw fine:=λc hc=>by
   have:=c2 c hc;rw[hZ]at this;have hw2:Fo b (bL sh) (bK sh) st=0∨Fo b (bL sh) (bK sh) st=1:=o_;rcases hw2 with e|e<;>rw[e]at this<;>cases fine<;>simp only[fq,dw]at this⊢<;>simp at this⊢<;>omega
  have hnar:dJ (decide (∀c∈cs,-(dw fine / 2)<=c∧c<dw fine / 2))=Fo b (bL sh) (bK sh) st:=by
   rw[<-asg fine cs _ rfl];have hw2:Fo b (bL sh) (bK sh) st=0∨Fo b (bL sh) (bK sh) st=1:=o_;rcases hw2 with e|e
   .rw[e]at hX hZ⊢;rw[hZ]at hX;simp only[decide_true,mF,Nat.sub_zero]at hX;rw[hX];rfl
   .rw[e]at hZ⊢;have:I9 cs (fq fine-1)=true:=by
     rw[I9,decide_eq_true_eq];intro c hc;have:=c2 c hc;rw[hZ]at this
     cases fine<;>simp only[fq]at this⊢<;>simp at this⊢<;>omega
    rw[this];rfl
  refine⟨⟨⟨⟨by simp only[];omega,by simp only[];omega⟩,⟨by simp only[];omega,hO2⟩,by simp only[];rw[c1],λh=>absurd h t_,hrng⟩,rfl⟩,?_⟩;unfold rF;rw[aa t_];refine io.2 ⟨_,by simpa using r1.2,io.2 ⟨_,by simpa using q2,io.2 ⟨_,by simp only[];rw[ao2 hd];exact q3,io.2 ⟨Oo b (bL sh) (bK sh) st,?_,?_⟩⟩⟩⟩
  .simp only[fy];rw[hnar];exact q4
  .simp only[sP,fy];rw[hnar];exact c3
def aB4 {b:C_}{sh:Bool}{f:ca}{st s2:RS}(hf:Ak sh f)(h:zw b st s2 (rF sh f)) :
  Ly b (bL sh) (bK sh) f.fine st=f∧wY b (bL sh) (bK sh) f.fine st=s2∧IK b (bL sh) (bK sh) f.fine st=false∧¬(12<qQ b (bL sh) (bK sh) st):=by
 obtain⟨l1,l2,l3,_⟩:=QF sh;obtain⟨len,ord,down,fine,cs⟩:=f;obtain⟨⟨f1,f2⟩,⟨f3,f4⟩,f5,f6,f7⟩:=hf;simp only at f1 f2 f3 f4 f5 f6 f7⊢;obtain⟨len,rfl⟩:=aA f1;obtain⟨ord,rfl⟩:=aA f3;have hordF:ord<2 ^ bK sh∧ord<=12:=by
  cases sh
  .have:(ord:Int)<=12:=f4;have:2 ^ bK false=32:=rfl;omega
  .have:(ord:Int)<=7:=f4;have:2 ^ bK true=8:=rfl;omega
 unfold rF at h;simp only[aq]at h;obtain⟨m1,h1,h⟩:=io.1 h;obtain⟨m2,h2,h⟩:=io.1 h;obtain⟨v1,n1⟩:=QB l2 (show len<2 ^ bL sh by omega) h1;obtain⟨v2,n2⟩:=QB l3 hordF.1 h2;have hO:qQ b (bL sh) (bK sh) st=ord:=by unfold qQ;rw[n1,v2]
 have hS:xI b (bL sh) (bK sh) st=m2:=by unfold xI;rw[n1,n2]
 refine⟨?_,?_,?_,by rw[hO];omega⟩
 all_goals
  by_cases h0:ord=0
  .subst h0;have hc:cs=[]:=az o_;have hd:=f6 rfl;subst hc hd;simp only[Int.natCast_zero,bc]at h;have hs2:=(zX.1 h).1
   first
    |(unfold Ly;rw[ac hO,v1];rfl)
    |(unfold wY;rw[ac hO,hS,hs2])
    |(unfold IK;rw[ac hO])
  .rw[aa o_]at h;obtain⟨m3,h3,h⟩:=io.1 h;obtain⟨m4,h4,h5⟩:=io.1 h;have b1:∀x:Bool,dJ x<2 ^ 1:=λx=>by cases x<;>decide
   obtain⟨v3,n3⟩:=QB (s:=1) o_ (b1 down) h3;obtain⟨v4,n4⟩:=QB (s:=1) o_ (b1 _) h4;have hD:flD b (bL sh) (bK sh) st=dJ down:=by unfold flD;rw[hS];exact v3
   have hT:Oo b (bL sh) (bK sh) st=m4:=by
    unfold Oo;rw[hS];show sN b (sN b m2 (1:Nat)) (1:Nat)=m4;rw[n3,n4]
   have hW:Fo b (bL sh) (bK sh) st=dJ (fy ⟨len,ord,down,fine,cs⟩):=by
    unfold Fo;rw[hS];show sV b (sN b m2 (1:Nat)) (1:Nat)=_;rw[n3,v4]
   have hZ:GG b (bL sh) (bK sh) fine st=sP ⟨len,ord,down,fine,cs⟩:=by unfold GG;rw[hW];rfl
   have hw1:dJ (fy ⟨len,ord,down,fine,cs⟩)<=1:=by cases fy ⟨len,ord,down,fine,cs⟩<;>decide
   have hz:=amq (fine:=fine) hw1;have hrng:∀c∈cs,-((2 ^ (sP ⟨len,ord,down,fine,cs⟩-1):Nat):Int)<=c∧c<((2 ^ (sP ⟨len,ord,down,fine,cs⟩-1):Nat):Int):=λc hc=>by
    have a:=f7 c hc
    cases hn:fy ⟨len,ord,down,fine,cs⟩ with
    |true =>
     have b:=(of_decide_eq_true hn) c hc;simp only[sP,hn]
     cases fine<;>simp only[fq,dJ,dw]at b⊢<;>simp at b⊢<;>omega
    |false =>
     simp only[sP,hn]
     cases fine<;>simp only[fq,dJ,dw]at a⊢<;>simp at a⊢<;>omega
   have hco:cs.length=ord:=o_;obtain⟨c1,c2⟩:=axk (sz:=sP ⟨len,ord,down,fine,cs⟩) hz hrng h5;rw[hco]at c1 c2
   first
    |(unfold Ly;rw[aa o_,v1,hO,hD,hZ,hT,c1];congr 1;cases down<;>rfl)
    |(unfold wY;rw[aa o_,hO,hZ,hT,c2])
    |(unfold IK;rw[aa o_,hO,hZ,hT,c1,hW];cases hn:fy ⟨len,ord,down,fine,cs⟩;rw[show sP ⟨len,ord,down,fine,cs⟩-1=fq fine-1 from(by rw[sP,hn];rfl),asg fine cs _ rfl];show(_ && fy ⟨len,ord,down,fine,cs⟩)=false;rw[hn,Bool.and_false];rfl)
def amZ {b:C_}{sh fine:Bool}{st:RS}:nx b (wY b (bL sh) (bK sh) fine st):=by
 obtain⟨l1,l2,l3,_⟩:=QF sh;unfold wY;by_cases h0:qQ b (bL sh) (bK sh) st=0
 .rw[ac h0];exact R4 l3
 .rw[aa h0];have hz:GG b (bL sh) (bK sh) fine st<=31:=by unfold GG fq;split<;>omega
  exact avN hz (R4 (st:=sN b (xI b (bL sh) (bK sh) st) (1:Nat)) (s:=1) o_)
def ass {b:C_}{sh fine:Bool}:∀{k:Nat}{o:Bool}{st st2:RS}{l:AA_},nx b st->iV b (bL sh) (bK sh) fine k o st=some (l,false,st2)->st2.e=0->
  o=false∧l.length=k∧(∀f∈l,Ak sh f∧f.fine=fine)∧zw b st st2 (l.flatMap (rF sh))
 |0,o,st,st2,l,hn,h,he=>by
  rw[iV]at h;injection h with h
  injection h with e1 h
  injection h with e2 e3
  subst e1 e2 e3;exact⟨rfl,rfl,s_,zX.2 ⟨rfl,hn he⟩⟩
 |k+1,o,st,st2,l,hn,h,he=>by
  rw[iV]at h;by_cases hO:12<qQ b (bL sh) (bK sh) st∧(xI b (bL sh) (bK sh) st).e=0
  .rw[ac hO]at h;exact absurd h (by simp)
  rw[aa hO]at h
  cases hq:iV b (bL sh) (bK sh) fine k (o ||IK b (bL sh) (bK sh) fine st) (wY b (bL sh) (bK sh) fine st) with
  |none=>rw[hq]at h;exact absurd h (by simp)
  |some q =>
   obtain⟨l2,o2,s3⟩:=q;rw[hq]at h;simp only[ae,aQ]at h;obtain⟨e1,e2,e3⟩:=h;subst e1 e2 e3;obtain⟨i1,i2,i3,i4⟩:=ass amZ hq he;rw[Bool.or_eq_false_iff]at i1;obtain⟨⟨j1,j2⟩,j3⟩:=aCh hO i1.2 (Cs i4).2.2.1;refine⟨i1.1,by rw[ar,i2],λf hf=>?_,?_⟩
   .rcases aB.1 hf with rfl|hf
    .exact⟨j1,j2⟩
    .exact i3 f hf
   .rw[aG];exact io.2 ⟨_,j3,i4⟩
def arS {b:C_}{sh fine:Bool}:∀{l:AA_}{st st2:RS},(∀f∈l,Ak sh f∧f.fine=fine)->zw b st st2 (l.flatMap (rF sh))->iV b (bL sh) (bK sh) fine l.length false st=some (l,false,st2)
 |[],st,st2,hl,h=>by rw[(zX.1 h).1];rfl
 |f::r,st,st2,hl,h=>by
  obtain⟨h1,h2⟩:=hl f (.head _);rw[aG]at h;obtain⟨m,k1,k2⟩:=io.1 h;obtain⟨j1,j2,j3,j4⟩:=aB4 h1 k1;rw[h2]at j1 j2 j3;rw[ar,iV,aa (λh=>j4 h.1),j3,j2,ql,arS (λx hx=>hl x (.tail _ hx)) k2,j1]
def akn (sh:Bool):x0T sh=ej sh∧x1T sh=bL sh∧x2T sh=bK sh∧2 ^ ej sh=pC sh+1:=by cases sh<;>decide
def abh {sh:Bool}{f:ca}{r:AA_}:yU sh (f::r)=au (f::r).length (ej sh)++(au (dJ f.fine) 1++(f::r).flatMap (rF sh)):=rfl
def adr {sh:Bool}:yU sh []=au 0 (ej sh):=by simp[yU]
def asa {b:C_}{sh:Bool}:∀{k:Nat}{o:Bool}{st st2:RS}{t:O_},nx b st->ov b (ej sh) (bL sh) (bK sh) k o st=some (t,false,st2)->st2.e=0->
  o=false∧t.length=k∧(∀l∈t,sS sh l)∧zw b st st2 (jg sh t)
 |0,o,st,st2,t,hn,h,he=>by
  rw[ov]at h;injection h with h
  injection h with e1 h
  injection h with e2 e3
  subst e1 e2 e3;exact⟨rfl,rfl,s_,zX.2 ⟨rfl,hn he⟩⟩
 |k+1,o,st,st2,t,hn,h,he=>by
  obtain⟨l1,l2,l3,l4⟩:=QF sh;obtain⟨_,_,_,x4⟩:=akn sh;rw[ov]at h
  cases hq:iV b (bL sh) (bK sh) (Qw b (ej sh) st) (sV b st (ej sh)) o (BL b (ej sh) st) with
  |none=>rw[hq]at h;exact absurd h (by simp)
  |some q =>
   obtain⟨l,o2,s3⟩:=q;rw[hq]at h;simp only at h
   cases hw:ov b (ej sh) (bL sh) (bK sh) k o2 s3 with
   |none=>rw[hw]at h;exact absurd h (by simp)
   |some w =>
    obtain⟨t2,o3,s4⟩:=w;rw[hw]at h;simp only[ae,aQ]at h;obtain⟨e1,e2,e3⟩:=h;subst e1 e2 e3;have hwn:nx b (BL b (ej sh) st):=by
     unfold BL;split
     .exact R4 (st:=sN b st (ej sh)) (s:=1) (by omega)
     .exact R4 l4
    have hs3:nx b s3:=by
     have:∀{k:Nat}{o o2:Bool}{st st2:RS}{l:AA_},nx b st->iV b (bL sh) (bK sh) (Qw b (ej sh) st) k o st=some (l,o2,st2)->True:=λ_ _=>trivial
     have g:∀{fine:Bool}{k:Nat}{o o2:Bool}{st st2:RS}{l:AA_},nx b st->iV b (bL sh) (bK sh) fine k o st=some (l,o2,st2)->nx b st2:=by
      intro fine k
      induction k with
      |zero =>
       intro o o2 st st2 l hn h;rw[iV]at h;injection h with h
       injection h with e1 h
       injection h with e2 e3
       subst e3;exact hn
      |succ k ih =>
       intro o o2 st st2 l hn h;rw[iV]at h;split at h
       .exact absurd h (by simp)
       .split at h
        .exact absurd h (by simp)
        .rename_i q hq;obtain⟨a,b2,c⟩:=q;simp only[ae,aQ]at h;obtain⟨e1,e2,e3⟩:=h;subst e3;exact ih amZ hq
     exact g hwn hq
    obtain⟨i1,i2,i3,i4⟩:=asa hs3 hw he;subst i1;obtain⟨j1,j2,j3,j4⟩:=ass hwn hq (Cs i4).2.2.1;have hwe:=(Cs j4).2.2.1;unfold BL at hwe j4;refine⟨j1,by rw[ar,i2],λx hx=>?_,?_⟩
    .rcases aB.1 hx with rfl|hx
     .refine⟨?_,λf0 hf0 f hf=>?_⟩
      .have:=uL (b:=b) (st:=st) (s:=(ej sh:Int));rw[aq]at this;omega
      .have a1:=j3 f hf;have a2:=j3 f0 (List.mem_of_mem_head? hf0);exact⟨a1.1,by rw[a1.2,a2.2]⟩
     .exact i3 x hx
    .rw[jg,aG];refine io.2 ⟨s3,?_,i4⟩
     cases l with
     |nil =>
      have h0:sV b st (ej sh)=0:=by rw[<-j2];rfl
      rw[aa o_]at hwe j4;have:=(Jo l4 hwe).2;rw[h0]at this;rw[adr,(zX.1 j4).1];exact this
     |cons f r =>
      have hp:0<sV b st (ej sh):=by rw[<-j2];simp
      rw[ac hp]at hwe j4;have r1:=(Jo l4 (Vj (s:=1) hwe)).2;obtain⟨b1,r2⟩:=Jo (st:=sN b st (ej sh)) (s:=1) o_ hwe;rw[abh,j2];refine io.2 ⟨_,r1,io.2 ⟨_,?_,j4⟩⟩;have hfi:dJ f.fine=sV b (sN b st (ej sh)) (1:Nat):=by
       rw[(j3 f (.head _)).2,Qw,decide_eq_true hp,mF];exact ao2 b1
      rw[hfi];exact r2
def ar8 {b:C_}{sh:Bool}:∀{t:O_}{st st2:RS},(∀l∈t,sS sh l)->zw b st st2 (jg sh t)->ov b (ej sh) (bL sh) (bK sh) t.length false st=some (t,false,st2)
 |[],st,st2,hl,h=>by rw[(zX.1 h).1];rfl
 |l::r,st,st2,hl,h=>by
  obtain⟨l1,l2,l3,l4⟩:=QF sh;obtain⟨_,_,_,x4⟩:=akn sh;obtain⟨h1,h2⟩:=hl l (.head _);rw[jg,aG]at h;obtain⟨m,k1,k2⟩:=io.1 h;have ih:=ar8 (λx hx=>hl x (.tail _ hx)) k2;rw[ar,ov]
  cases l with
  |nil =>
   rw[adr]at k1;obtain⟨v1,n1⟩:=QB l4 (bM _) k1;have hS:BL b (ej sh) st=m:=by rw[BL,aa o_,n1]
   rw[v1,hS];simp only[iV];rw[ih]
  |cons f q =>
   rw[abh]at k1;obtain⟨m1,j1,k1⟩:=io.1 k1;obtain⟨m2,j2,j3⟩:=io.1 k1;obtain⟨v1,n1⟩:=QB l4 o_ j1;have b1:dJ f.fine<2 ^ 1:=by cases f.fine<;>decide
   obtain⟨v2,n2⟩:=QB (s:=1) o_ b1 j2;have hp:0<sV b st (ej sh):=by rw[v1];simp
   have hS:BL b (ej sh) st=m2:=by
    rw[BL,ac hp,n1];exact n2
   have hF:Qw b (ej sh) st=f.fine:=by
    rw[Qw,decide_eq_true hp,mF,n1];have:sV b m1 1=dJ f.fine:=v2;rw[this]
    cases f.fine<;>rfl
   rw[hS,hF,v1,arS (λx hx=>h2 f rfl x hx) j3];simp only;rw[ih]
def ajX {b:C_}{i:aM}{a n:Nat}{t:O_}(ha:a<=b.length):Ni b i (a:Int)=.ok t n↔Ri i t∧At b a n (jg i.short t):=by
 obtain⟨x0,x1,x2,_⟩:=akn i.short;rw[Ni,Us,x0,x1,x2];constructor
 .intro h
  cases hq:ov b (ej i.short) (bL i.short) (bK i.short) i.many false ⟨a,0⟩ with
  |none=>rw[hq]at h;exact absurd h (by simp)
  |some q =>
   obtain⟨t2,o,st⟩:=q;rw[hq]at h;simp only at h;by_cases he:st.e≠0
   .rw[ac he]at h;exact absurd h (by simp)
   rw[aa he]at h
   cases o with
   |true=>simp at h
   |false =>
    simp only[ao,bf]at h;injection h with e1 e2
    subst e1;obtain⟨_,g2,g3,a2,n2,e3,e4,g5⟩:=asa (λ_=>⟨a,rfl,ha⟩) hq (by simpa using he);injection e3 with e3 _
    have:a=a2:=o_;subst this;rw[e4]at e2;simp only[aq]at e2;subst e2;exact⟨⟨g2,g3⟩,g5⟩
 .rintro ⟨⟨h1,h2⟩,h3⟩
  have:=ar8 h2 (show zw b ⟨a,0⟩ ⟨n,0⟩ _ from ⟨a,n,rfl,rfl,h3⟩);rw[h1]at this;rw[this];simp
def ZW {lf:Int}:∀{l:Q_},fitsS lf l->∀k∈aK l,0<=k
 |[],_,k,h=>by simp[aK]at h
 |s::r,hf,k,h=>by
  obtain⟨⟨_,h1⟩,h2⟩:=hf;have eb:aK (s::r)=List.replicate s.len.toNat s.book++aK r:=by rw[aK,aG];rfl
  rw[eb,bi]at h;rcases h with h|h
  .rw[eg h];exact h1.1
  .exact ZW h2 k h
def aqV {i:aM}{t:O_}(h:t.length=i.many)(ha:nE t=false):t=List.replicate i.many []:=by
 rw[nE,lY]at ha;rw[List.eq_replicate_iff];refine⟨h,λl hl=>?_⟩;have:=ha l hl;simp only[decide_eq_true_eq]at this;exact az (by omega)
def Rn {b:C_}{a n v:Nat}(hv:v<=1)(h:At b a n [v]):bb b (a:Int) 1=.ok v n:=(b6 (s:=1) o_).2 ⟨o_,by rw[Qc hv];exact h⟩
def als {b:C_}{a n v:Nat}(h:bb b (a:Int) 1=.ok v n):v<=1∧At b a n [v]:=by
 obtain⟨h1,h2⟩:=(b6 (s:=1) o_).1 h;rw[Qc o_]at h2;exact⟨o_,h2⟩
def aoO {b:C_}{r:Nat}{c:cS}{q:Bool}(hr:r<=11)(hc:c.Fit)(h:lL r c){a n:Nat}(ha:At b a n (Dc r c q)) :
  AT b (a:Int) r q c.info=.ok (⟨c.gain.toNat,c.info,c.sects,c.steps,c.tns,0,if nE c.tns then 1 else 0⟩,c.lines) n:=by
 have hm11:=fG hr h.info;have hg:=h.gain;obtain⟨n1,k1,ha1⟩:=aN.1 ha;obtain⟨n2,k2,ha2⟩:=aN.1 ha1;obtain⟨n3,k3,ha3⟩:=aN.1 ha2;obtain⟨n4,k4,ha4⟩:=aN.1 ha3;obtain⟨n5,k5,k6⟩:=aN.1 ha4;have e0:bb b (a:Int) 0=.ok 0 a:=(b6 (s:=0) o_).2 ⟨o_,dz.2 ⟨rfl,(cA ha).1⟩⟩;have e1:bb b (a:Int) 8=.ok c.gain.toNat n1:=(b6 (s:=8) o_).2 ⟨o_,k1⟩;have e2:(if q then R.ok c.info n1 else l8 b n1 r)=.ok c.info n2:=by
  cases q with
  |true=>rw[ac rfl]at k2⊢;rw[(dz.1 k2).1]
  |false=>rw[aa s_]at k2⊢;exact(FY hr).2 ⟨h.info,k2⟩
 have e3:tS b c.info (n2:Int)=.ok c.sects n3:=(XX hm11 (cA k3).1).2 ⟨h.sects,k3⟩;have e4:xF b c.sects (n3:Int) (c.gain.toNat:Int)=.ok c.steps n4:=by
  rw[show((c.gain.toNat:Nat):Int)=c.gain by omega];exact(aba (cA k4).1 (λl hl=>ZW (h.sects.2 l hl)) hg.1).2 ⟨h.steps,k4⟩
 have e6:=ale hc h hr (cA k6).1 k6;have hm:¬(q=true∧¬c.info.may r):=λhh=>hh.2 h.info
 unfold AT Az;rw[e0,ax,aa hm,e1,ax,e2,ax,e3,ax,e4,ax]
 cases hF:nE c.tns with
 |true =>
  rw[hF]at k5;simp only[bc]at k5;obtain⟨m1,j1,k5⟩:=aN (X:=[0]) |>.1 k5;obtain⟨m2,j2,k5⟩:=aN (X:=[1]) |>.1 k5;obtain⟨m3,j3,j4⟩:=aN.1 k5;have e5:=(ajX (cA j3).1).2 ⟨h.tns,j3⟩;rw[Rn o_ j1,ax,Rn o_ j2,ax,ac rfl,e5,ax,Rn o_ j4,ax,ax,e6,ax,ac ⟨rfl,λ_=>hF⟩];rfl
 |false =>
  rw[hF]at k5;simp only[ao,bf]at k5;obtain⟨m1,j1,k5⟩:=aN (X:=[0]) |>.1 k5;obtain⟨m2,j2,j4⟩:=aN (X:=[0]) |>.1 k5;have ht:=aqV h.tns.1 hF;rw[Rn o_ j1,ax,Rn o_ j2,ax,aa o_,ax,Rn o_ j4,ax,ax,e6,ax,ac ⟨rfl,λhh=>absurd hh s_⟩,<-ht];rfl
abbrev apart (p q:Nat×Nat):Prop:=p.2+bB p.1<=q.2∨q.2+bB q.1<=p.2
structure OsW (os:C_)(W:Nat):Prop where
 up:∀j,j+1<os.length->nth os j<nth os (j+1)∧(nth os (j+1)-nth os j) % 4=0
 win:∀w w',w<W->w'<W->w≠w'->∀j,j+1<os.length->nth os (j+1)<=32
def asf {os:C_}{W:Nat}(h:OsW os W):∀{k b:Nat},b+1+k<os.length->nth os (b+1)<=nth os (b+1+k)
 |0,b,_=>ai _
 |k+1,b,hk=>by
  have:=asf h (k:=k) (b:=b) o_;have h2:=(h.up (b+1+k) o_).1;rw[show b+1+(k+1)=b+1+k+1 by omega];omega
def aqs (os:C_)(w b d y:Nat):Prop:=(w*32+nth os b<=y∧y+d<=w*32+nth os (b+1))∧b+1<os.length
def Ee {os:C_}{W:Nat}(h:OsW os W){d b k w y:Nat}(hd:d=4∨d=2)(hb:b+1<os.length)(hy:y∈pY os d b k w):∃w',w<=w'∧w'<w+k∧aqs os w' b d y:=by
 obtain⟨w',x,h1,h2,h3,rfl⟩:=ZA hy;have hu:=h.up b hb;have:=Lp (d:=d) o_ (by rcases hd with e|e<;>rw[e]<;>omega) h3;exact⟨w',h1,h2,⟨o_,o_⟩,hb⟩
def IQ {os:C_}{W:Nat}(h:OsW os W){w b d y w' b' d' y':Nat}(hw:w<W)(hw':w'<W)(h1:aqs os w b d y)(h2:aqs os w' b' d' y')(hne:w≠w'∨b<b'):y+d<=y'∨y'+d'<=y:=by
 obtain⟨⟨a1,a2⟩,a3⟩:=h1;obtain⟨⟨c1,c2⟩,c3⟩:=h2;by_cases e:w=w'
 .have hb:b<b':=by rcases hne with h|h;exact absurd e h;exact h
  have:=asf h (k:=b'-(b+1)) (b:=b) o_;rw[show b+1+(b'-(b+1))=b' by omega]at this;left;subst e;omega
 .have k1:=h.win w w' hw hw' e b a3;have k2:=h.win w w' hw hw' e b' c3;omega
def anC {d hi:Nat}:∀{f lo:Nat},(∀y∈qY d hi f lo,lo<=y)∧(qY d hi f lo).Pairwise λx y=>x+d<=y
 |0,lo=>⟨by simp[qY],by simp[qY]⟩
 |f+1,lo=>by
  obtain⟨h1,h2⟩:=anC (d:=d) (hi:=hi) (f:=f) (lo:=lo+d);rw[qY];by_cases h:lo<hi
  .rw[ac h];refine⟨λy hy=>?_,bO.2 ⟨λy hy=>h1 y hy,h2⟩⟩;rcases aB.1 hy with rfl|hy
   .exact ai _
   .have:=h1 y hy;omega
  .rw[aa h];exact⟨s_,s_⟩
abbrev apD (d:Nat)(x y:Nat):Prop:=x+d<=y∨y+d<=x
def amG {os:C_}{W:Nat}(h:OsW os W){d b:Nat}(hd:d=4∨d=2)(hb:b+1<os.length):∀{k w:Nat},w+k<=W->(pY os d b k w).Pairwise (apD d)
 |0,w,_=>by simp[pY]
 |k+1,w,hk=>by
  rw[pY,df];refine⟨?_,amG h hd hb o_,λx hx y hy=>?_⟩
  .rw[List.pairwise_map];exact(anC.2).imp λ{a c} hac=>.inl (by omega)
  .obtain⟨w2,e1,e2,e3⟩:=Ee h hd hb hy;have hx':x∈pY os d b 1 w:=by
    rw[pY,bi];exact .inl hx
   obtain⟨w1,e4,e5,e6⟩:=Ee h hd hb hx';exact IQ h o_ o_ e6 e3 (.inl o_)
def aos {os:C_}{W:Nat}(h:OsW os W){d n first:Nat}(hd:d=4∨d=2)(hw:first+n<=W):∀{k b:Nat},b+k<os.length->(xE os d n first k b).Pairwise (apD d)
 |0,b,_=>by simp[xE]
 |k+1,b,hk=>by
  rw[xE,df];refine⟨amG h hd o_ hw,aos h hd hw o_,λx hx y hy=>?_⟩;obtain⟨w1,e4,e5,e6⟩:=Ee h hd o_ hx;obtain⟨b',c1,c2,c3⟩:=Rb hy;obtain⟨w2,e1,e2,e3⟩:=Ee h hd o_ c3;exact IQ h o_ o_ e6 e3 (.inr o_)
def Dr (id:Nat):bB id=4∨bB id=2:=by unfold bB;split<;>simp
def amI {os:C_}{W:Nat}(h:OsW os W){n first:Nat}(hw:first+n<=W):∀{r:Q_}{b:Nat}{lf:Int},fitsS lf r->(b:Int)+lf<os.length->(zS os n first r b).Pairwise apart
 |[],b,lf,_,_=>by simp[zS]
 |s::r,b,lf,hf,hb=>by
  obtain⟨⟨⟨l1,l2⟩,b1,b2⟩,hf2⟩:=hf;rw[zS,df];refine⟨?_,amI h hw hf2 o_,λx hx y hy=>?_⟩
  .by_cases h0:s.book=0∨s.book=13
   .rw[ac h0];simp
   .rw[aa h0,List.pairwise_map];exact aos h (Dr _) hw (by omega)
  .by_cases h0:s.book=0∨s.book=13
   .rw[ac h0]at hx;simp at hx
   .rw[aa h0]at hx;obtain⟨x',hx',rfl⟩:=dh.1 hx;obtain⟨b',c1,c2,c3⟩:=Rb hx';obtain⟨w1,e4,e5,e6⟩:=Ee h (Dr _) o_ c3;obtain⟨j,f1,f2,f3⟩:=RY hf2 hy;have hj:(j:Int)<lf-s.len:=by
     have h1:=(aH.1 f1).1;have:∀{l:Q_}{m:Int},fitsS m l->((aK l).length:Int)=m:=by
      intro l
      induction l with
      |nil=>intro m hm;rw[show m=0 from hm];simp[aK]
      |cons q l ih =>
       intro m hm;have eb:aK (q::l)=List.replicate q.len.toNat q.book++aK l:=by rw[aK,aG];rfl
       have:=ih hm.2;have hq:=hm.1.1.1;rw[eb,al,bn];omega
     have:=this hf2;omega
    obtain⟨w2,e1,e2,e3⟩:=Ee h (Dr _) o_ f3;exact IQ h o_ o_ e6 e3 (.inr o_)
def D5:∀{l:Q_}{m:Int},fitsS m l->((aK l).length:Int)=m
 |[],m,h=>by rw[show m=0 from h];simp[aK]
 |q::l,m,hm=>by
  have eb:aK (q::l)=List.replicate q.len.toNat q.book++aK l:=by rw[aK,aG];rfl
  have:=D5 hm.2;have hq:=hm.1.1.1;rw[eb,al,bn];omega
def anL {os:C_}{W:Nat}(h:OsW os W){m:Int}(hm:m<os.length):∀{r:H_}{q:G_}{first:Nat},fk m r->(∀n∈q,1<=n)->(first:Int)+q.sum<=W->(pB os r q first).Pairwise apart
 |[],q,first,_,_,_=>by simp[pB]
 |l::r,[],first,_,_,_=>by simp[pB]
 |l::r,n::q,first,hf,hq,hW=>by
  have hn:=hq n (.head _);have hq2:∀n∈q,1<=n:=λx hx=>hq x (.tail _ hx)
  have hqs:0<=q.sum:=by have:=kO hq2;omega
  have hl:=hf l (.head _);rw[j7]at hW;rw[pB,df];refine⟨amI h o_ hl o_,anL h hm (λx hx=>hf x (.tail _ hx)) hq2 o_,λx hx y hy=>?_⟩;obtain⟨j,f1,f2,f3⟩:=RY hl hx;have hj:=(aH.1 f1).1;have hjl:=D5 hl;obtain⟨w1,e4,e5,e6⟩:=Ee h (Dr _) o_ f3;obtain⟨w,g,j2,l2,g1,g2,g3,g4,g5,g6,z,g7,g8⟩:=Kz (λx hx=>hf x (.tail _ hx)) hq2 hy;have hj2:=(aH.1 g5).1;have hjl2:=D5 (hf l2 (.tail _ (eu g1)));have hy2:y.2∈pY os (bB y.1) j2 1 w:=by rw[g8];exact afZ (ai _) o_ g7
  obtain⟨w2,e1,e2,e3⟩:=Ee h (Dr _) o_ hy2;exact IQ h o_ o_ e6 e3 (.inl o_)
def anZ {r:Nat}(hr:r<=11)(i:aM):OsW (offs r i.short) i.many:=by
 obtain⟨p1,p2,p3⟩:=mX (r,i.short) (fh o_);simp only at p1 p2 p3;obtain⟨w1,w2⟩:=FI i;refine⟨λj hj=>?_,λw w' h1 h2 h3 j hj=>?_⟩
 .have:=bC.1 p1 j (dL.2 o_);simpa using this
 .have:=bC.1 p3 _ (iP hj);simp only[decide_eq_true_eq]at this;omega
def aq7 {r:Nat}(hr:r<=11){j:aM}{S:H_}(hm:j.may r)(hS:jn j S):(Ll r j S).Pairwise apart:=by
 obtain⟨g1,g2⟩:=dp (fG hr hm);have hmx:=hm.2.2.2.1;have hmy:qA r (decide (j.seq=2))=(offs r j.short).length-1:=rfl;obtain⟨o1,o2,o3,o4⟩:=zM (r,j.short) (fh o_);simp only at o4;exact anL (anZ hr j) (m:=j.max) o_ hS.2 (λn hn=>(g1 n hn).1) (by omega)
def Xd {b:C_}:∀{pl:R_}{n m:Nat}{Z Z2:G_},n<=b.length->Z.length=256->(∀p∈pl,(1<=p.1∧p.1<=11)∧p.2+bB p.1<=256)->pl.Pairwise apart->jJ b pl n Z=.ok Z2 m->
  Z2.length=256∧At b n m (pl.flatMap λp=>AM p.1 (cut Z2 p))∧(∀p∈pl,LQ p.1 (cut Z2 p))∧∀i,(∀p∈pl,¬(p.2<=i∧i<p.2+bB p.1))->Z2[i]?=Z[i]?
 |[],n,m,Z,Z2,hn,hz,hp,hw,h=>by
  rw[jJ]at h;injection h with e1 e2
  subst e1 e2;exact⟨hz,dz.2 ⟨rfl,hn⟩,s_,λi _=>rfl⟩
 |p::r,n,m,Z,Z2,hn,hz,hp,hw,h=>by
  rw[jJ]at h;obtain⟨l,k,h1,h2⟩:=aJ.1 h;obtain⟨p1,p2⟩:=hp p (.head _);obtain⟨w1,w2⟩:=bO.1 hw;obtain⟨g1,g2⟩:=(adt p1).1 h1;have hll:=g1.1;obtain⟨i1,i2,i3,i4⟩:=Xd (cA g2).2.1 (by rw[U9 o_];exact hz) (λq hq=>hp q (.tail _ hq)) w2 h2;have hcut:cut Z2 p=l:=by
   apply dC;intro i;by_cases hi:i<bB p.1
   .rw[Rz hi,i4 (p.2+i) (λq hq hh=>by
     have:=w1 q hq;have:=hp q (.tail _ hq);omega),Sf o_,ac o_]
    congr 1
    omega
   .have:=aiW (Z:=Z2) (p:=p) o_;rw[gB o_,gB o_]
  refine⟨i1,?_,λq hq=>?_,λi hi=>?_⟩
  .rw[aG,hcut];exact aN.2 ⟨k,g2,i2⟩
  .rcases aB.1 hq with rfl|hq
   .rw[hcut];exact g1
   .exact i3 q hq
  .have:=hi p (.head _);rw[i4 i (λq hq=>hi q (.tail _ hq)),Sf o_,aa o_]
def aaE {tl:C_}{bks:G_}:∀{ls:G_}{i:Nat},(∀j v,ls[j]?=some v->Kv tl bks (i+j) v)->uZ tl bks i ls
 |[],i,_=>trivial
 |u::r,i,h=>⟨h 0 u rfl,aaE λj v hv=>by
   have:=h (j+1) v (by simpa using hv)
   rwa [show i+(j+1)=i+1+j by omega]at this⟩
def aa6 {r:Nat}{c:cS}:∀{k w:Nat},(∀w',w<=w'->w'<w+k->uZ ((offs r c.info.short).drop 1) (aK (vK c w')) 0 (xj c w'))->HG r c k w
 |0,w,_=>trivial
 |k+1,w,h=>⟨h w (ai _) o_,aa6 λw' h1 h2=>h w' o_ o_⟩
def anf {b:C_}{r:Nat}{c:cS}(hr:r<=11)(hm:c.info.may r)(hS:jn c.info c.sects){n m:Nat}(hn:n<=b.length)(h:jJ b (Ll r c.info c.sects) n Z0=.ok c.lines m):R8 r c∧At b n m (mz r c)∧∀v∈c.lines,i64 v:=by
 have hm11:=fG hr hm;obtain⟨g1,g2⟩:=dp hm11;obtain⟨i1,i2,i3,i4⟩:=Xd hn (by rw[bn]) (λp hp=>UB hm hS hr hp) (aq7 hr hm hS) h;obtain⟨hw1,hw⟩:=FI c.info;have key:∀i v,c.lines[i]?=some v->v=0∨∃p∈Ll r c.info c.sects,(p.2<=i∧i<p.2+bB p.1)∧v.natAbs<=iB p.1:=by
  intro i v hv;by_cases hp:∃p∈Ll r c.info c.sects,p.2<=i∧i<p.2+bB p.1
  .obtain⟨p,h1,h2,h3⟩:=hp;refine .inr ⟨p,h1,⟨h2,h3⟩,(i3 p h1).2 v ?_⟩;refine eu (i:=i-p.2) ?_;rw[Rz o_,<-hv]
   congr 1
   omega
  .left;have:=i4 i (λp hp2 hh=>hp ⟨p,hp2,hh⟩);rw[hv]at this;have hi:=(aH.1 hv).1;rw[iM,ac o_]at this;injection this
 refine⟨⟨i1,aa6 λw _ hwm=>aaE λx v hv=>?_⟩,i2,λv hv=>?_⟩
 .rw[br]at hwm⊢;have hx:x<c.info.wide:=by
   have:=(aH.1 hv).1;rw[xj,cV]at this;omega
  rw[xj,iR,ac hx,bW]at hv;rcases key _ _ hv with h0|⟨p,hp,⟨q1,q2⟩,q3⟩
  .exact .inl h0
  .right;obtain⟨w',g,j,l,e1,e2,e3,e4,e5,e6,y,e7,e8⟩:=Kz hS.2 (λn hn=>(g1 n hn).1) hp;obtain⟨p1,p2,p3⟩:=mX (r,c.info.short) (fh o_);simp only at p1 p2 p3;have hl:=hS.2 l (eu e1);have hbs:=D5 hl;have hjl:=(aH.1 e5).1;have hmx:=hm.2.2.2.1;have hmy:qA r (decide (c.info.seq=2))=(offs r c.info.short).length-1:=rfl;have hj1:j+1<(offs r c.info.short).length:=o_;have hU:=anZ hr c.info;have hu:=hU.up j hj1;have hxf:=Lp (d:=bB p.1) (by rcases Dr p.1 with h|h<;>omega) (by rcases Dr p.1 with h|h<;>rw[h]<;>omega) e7;have ho:nth (offs r c.info.short) (j+1)<=c.info.wide:=by
    have:=bC.1 p3 _ (iP hj1);simp only[decide_eq_true_eq]at this
    rwa [hw1]at this
   have hww:w'=w∧nth (offs r c.info.short) j<=x∧x<nth (offs r c.info.short) (j+1):=by
    rcases hw with ⟨a1,a2⟩|⟨a1,a2⟩<;>rw[a1]at q1 q2 ho hx<;>omega
   obtain⟨rfl,c1,c2⟩:=hww;have hba:=agu (i:=x) (λj hj=>(hU.up j hj).1) hj1 c1 c2;have hsa:vK c w'=l:=by
    rw[vK,j5,show kp c.info.groups (w':Int)=g by rw[<-e4];congr 1,e1];rfl
   exact⟨p.1,by rw[hba,hsa,e5],o_,by simpa using q3⟩
 .obtain⟨i,hi,e⟩:=gY.1 hv;rcases key i v (by rw[bx hi,e]) with h0|⟨p,hp,_,q3⟩
  .omega
  .have:=aqo (UB hm hS hr hp).1;omega
def afu:∀{r t:G_}{w z:Int},dF r t w z≠none->r.length=t.length∧∀n∈t,-1<=n∧n<=511
 |[],[],_,_,_=>⟨rfl,s_⟩
 |[],_::_,_,_,h=>absurd rfl h
 |_::_,[],_,_,h=>absurd rfl h
 |k::r,v::t,w,z,h=>by
  obtain⟨c1,c2,c3⟩:=oN h;rw[c3]at h;obtain⟨i1,i2⟩:=afu h;refine⟨by rw[ar,ar,i1],λn hn=>?_⟩;rcases aB.1 hn with rfl|hn
  .by_cases h0:k=0
   .have:=c1 h0;omega
   .exact PN (c2 h0)
  .exact i2 n hn
def abG:∀{g:H_}{t:L_}{w z:Int},lX g t w z≠none->∀l∈t,∀n∈l,-1<=n∧n<=511
 |[],[],_,_,_=>by simp
 |[],_::_,_,_,h=>absurd rfl h
 |_::_,[],_,_,h=>absurd rfl h
 |l::r,t::s,w,z,h=>by
  rw[lX]at h
  cases e:dF (aK l) t w z with
  |none=>rw[e]at h;exact absurd rfl h
  |some p =>
   rw[e]at h;intro q hq;rcases aB.1 hq with rfl|hq
   .exact(afu (by rw[e];simp)).2
   .exact abG h q hq
abbrev I6 (v:Hd×G_):cS:=⟨v.1.gain,v.1.inf,v.1.S,v.1.T,v.1.F,v.2⟩
def av4 {o p:Nat}(ho:o<=1)(hp:p<=1)(h:VM (o:Int) p=0):o=0∧p=0:=by
 unfold VM at h;split at h<;>omega
def aeU {b:C_}(hb:b.length<=1000000000){r:Nat}{i:aM}{q:Bool}(hr:r<=11)(hi:i.Fit){a:Int}{v:Hd×G_}{n:Nat}(h:AT b a r q i=.ok v n) :
  ∃A:Nat,a=A∧(I6 v).Fit∧lL r (I6 v)∧At b A n (Dc r (I6 v) q)∧(q=true->v.1.inf=i):=by
 unfold AT at h;obtain⟨u0,n0,e0,g0⟩:=aJ.1 h;clear h;have ha:=ajw e0;obtain⟨A,rfl⟩:=aA ha;have f0:=(b6 (s:=0) o_).1 e0;have f0':n0=A∧A<=b.length:=dz.1 f0.2;obtain⟨f0a,f0b⟩:=f0'
 cases f0a
 by_cases hm:q=true∧¬i.may r
 .rw[ac hm]at g0;exact absurd g0 (by simp)
 rw[aa hm]at g0;have hq:q=true->i.may r:=λh=>p9 λh2=>hm ⟨h,h2⟩
 obtain⟨H,nH,eH,g1⟩:=aJ.1 g0;clear g0;obtain⟨Z,nZ,eZ,g2⟩:=aJ.1 g1;clear g1;by_cases hend:H.od=0∧(H.is=1->nE H.F=true)
 rotate_left
 .rw[aa hend]at g2;exact absurd g2 (by simp)
 rw[ac hend]at g2;injection g2 with h1 h2
 subst h1 h2;have hR:dP (r:Int):=o_;have pH:=(Nx b hb r hR q i hi _ (.inl rfl) (λh=>by rw[aq];exact hq h) n0 o_ 0 0).2;rw[aq]at pH;have p:=pH H nH eH;unfold Az at eH;obtain⟨g,n1,e1,y1⟩:=aJ.1 eH;clear eH;obtain⟨j,n2,e2,y2⟩:=aJ.1 y1;clear y1;obtain⟨S,n3,e3,y3⟩:=aJ.1 y2;clear y2;obtain⟨T,n4,e4,y4⟩:=aJ.1 y3;clear y3;obtain⟨o,n5,e5,y5⟩:=aJ.1 y4;clear y4;obtain⟨s,n6,e6,y6⟩:=aJ.1 y5;clear y5;obtain⟨F,n7,e7,y7⟩:=aJ.1 y6;clear y6;obtain⟨o2,n8,e8,y8⟩:=aJ.1 y7;clear y7;injection y8 with k1 k2
 subst k1 k2;simp only at hend eZ p;have f1:=(b6 (s:=8) o_).1 e1;have hjm:j.may r:=p.may;have hm11:=fG hr hjm;have f2:At b n1 n2 (if q then [] else jQ j)∧(q=true->j=i):=by
  cases q with
  |true =>
   rw[ac rfl]at e2⊢;injection e2 with k1 k2
   subst k1 k2;exact⟨dz.2 ⟨rfl,(cA f1.2).2.1⟩,λ_=>rfl⟩
  |false =>
   rw[aa s_]at e2⊢;exact⟨((FY hr).1 e2).2,λh=>absurd h s_⟩
 have f3:=(XX hm11 (cA f2.1).2.1).1 e3;have f4:=(aba (cA f3.2).2.1 (λl hl=>ZW (f3.1.2 l hl)) o_).1 e4;have f5:=als e5;have f6:=als e6;have f8:=als e8;have hoo:=av4 f5.1 f8.1 hend.1;have hF:Ri j F∧At b n4 n8 (if nE F then 0::1::(jg j.short F++[0]) else [0,0,0]):=by
  rw[hoo.1]at f5;rw[hoo.2]at f8;by_cases hs:s=1
  .rw[ac hs]at e7;have f7:=(ajX (cA f6.2).2.1).1 e7;rw[hend.2 hs];rw[hs]at f6;exact⟨f7.1,aN (X:=[0]) |>.2 ⟨n5,f5.2,aN (X:=[1]) |>.2 ⟨n6,f6.2,aN.2 ⟨n7,f7.2,f8.2⟩⟩⟩⟩
  .rw[aa hs]at e7;have hs0:s=0:=o_;injection e7 with k1 k2
   subst k1 k2;have han:nE (List.replicate j.many ([]:AA_))=false:=by
    rw[nE,lY];intro l hl;rw[eg hl];simp
   rw[han];rw[hs0]at f6;exact⟨⟨by rw[bn],λl hl=>by rw[eg hl];exact⟨dn _,s_⟩⟩,aN (X:=[0]) |>.2 ⟨n5,f5.2,aN (X:=[0]) |>.2 ⟨n6,f6.2,f8.2⟩⟩⟩
 have hg:=p.gain;simp only at hg;obtain⟨l1,l2,l3⟩:=anf (c:=⟨g,j,S,T,F,Z⟩) hr hjm f3.1 (cA hF.2).2.1 eZ;have hmx:=ig hm11;have hmm:=vR j;obtain⟨q1,q2⟩:=dp hm11;have hgl:j.groups.length<=8:=by have:=kO (λn hn=>(q1 n hn).1);omega
 have hSl:S.length<=8:=by have:=f3.1.1;omega
 have hTl:T.length=S.length:=by have:=bl List.length p.T;simpa using this
 have hft:=p.fit;simp only at hft;refine⟨n0,rfl,?_,?_,?_,f2.2⟩
 .refine⟨by simp only[];omega,hft,⟨by simp only[];omega,λl hl=>by have:=p.Sl l hl;omega⟩,λl hl x hx=>?_,⟨by simp only[];omega,λl hl=>?_⟩,λl hl x hx=>by have:=abG f4.1 l hl x hx;omega,⟨by have:=hF.1.1;simp only[];omega,λl hl=>by have:=p.F.2 l hl;exact⟨o_,λf hf=>by have:=this.2 f hf;omega⟩⟩,λl hl f hf=>?_,by have:=l1.1;simp only[]at this⊢;omega,l3⟩
  .have:=s9 (f3.1.2 l hl) o_ x hx;have a1:=this.1;have a2:=this.2;omega
  .have h1:l.length∈T.map List.length:=dh.2 ⟨l,hl,rfl⟩;rw[show T.map List.length=S.map (λl=>(aK l).length) from p.T]at h1;obtain⟨x,hx,e⟩:=dh.1 h1;have:=D5 (f3.1.2 x hx);omega
  .have hw:=hF.1.2 l hl
   cases l with
   |nil=>exact absurd hf (by simp)
   |cons f0 lr =>
    have:=(hw.2 f0 rfl f hf).1;obtain⟨⟨b1,b2⟩,⟨b3,b4⟩,_,_,b5⟩:=this;have lf:yK j.short<=63:=by cases j.short<;>decide
    have of:u7 j.short<=12:=by cases j.short<;>decide
    refine⟨o_,λx hx=>?_⟩;have:=b5 x hx;have hh:dw f.fine<=8∧4<=dw f.fine:=by cases f.fine<;>decide
    omega
 .exact⟨by simp only[];omega,hjm,f3.1,f4.1,hF.1,l1⟩
 .exact aN.2 ⟨n1,by simpa using f1.2,aN.2 ⟨n2,f2.1,aN.2 ⟨n3,f3.2,aN.2 ⟨n4,f4.2,aN.2 ⟨n8,hF.2,l2⟩⟩⟩⟩⟩
def apw {t:Ty}:∀{ds:W_},OkDs [t] ds->∃d,ds=[d]∧tG t d
 |[],h=>by simp[OkDs]at h
 |[d],h=>⟨d,rfl,by simpa [OkDs] using h⟩
 |_::_::_,h=>by simp[OkDs]at h
def aqz {t:Ty}{ts:List Ty}:∀{ds:W_},OkDs (t::ts) ds->∃d r,ds=d::r∧tG t d∧OkDs ts r
 |[],h=>by simp[OkDs]at h
 |d::r,h=>⟨d,r,rfl,by simpa only[OkDs] using h⟩
def anQ {k:IntKind}:∀{d:D},tG (.int k) d->∃n,d=.int k n∧(Lit.int k n).wf=true
 |.int j n,h=>by
  simp only[tG]at h;obtain⟨rfl,h⟩:=h;exact⟨n,rfl,h⟩
 |.bool _,h=>by simp[tG]at h
 |.str _,h=>by simp[tG]at h
 |.lst _,h=>by simp[tG]at h
def afB {d:D}(h:tG (.int .i64) d):∃n,d=.int .i64 n∧i64 n:=by
 obtain⟨n,e,h⟩:=anQ h;refine⟨n,e,?_⟩;simp[Lit.wf,IntKind.min,IntKind.max,IntKind.signed,IntKind.bits]at h;omega
def ay9 {d:D}(h:tG (.int .u8) d):∃n:Nat,d=.int .u8 n∧n<=255:=by
 obtain⟨n,e,h⟩:=anQ h;simp[Lit.wf,IntKind.min,IntKind.max,IntKind.signed,IntKind.bits]at h;refine⟨n.toNat,?_,o_⟩;rw[e,oH h.1]
def atp:∀{d:D},tG .bool d->∃b,d=.bool b
 |.bool b,_=>⟨b,rfl⟩
 |.int _ _,h=>by simp[tG]at h
 |.str _,h=>by simp[tG]at h
 |.lst _,h=>by simp[tG]at h
def axz {es:List Ty}:∀{d:D},tG (.lst es) d->∃xs,d=.lst xs∧∀x∈xs,OkDs es x
 |.lst xs,h=>⟨xs,rfl,by simpa only[tG] using h⟩
 |.int _ _,h=>by simp[tG]at h
 |.str _,h=>by simp[tG]at h
 |.bool _,h=>by simp[tG]at h
def ajN {α:Type}{es:List Ty}{f:α->W_}{Q:α->Prop}(h1:∀x,OkDs es x->∃a,x=f a∧Q a):∀{xs:E_},(∀x∈xs,OkDs es x)->∃l:List α,xs=l.map f∧∀a∈l,Q a
 |[],_=>⟨[],rfl,s_⟩
 |x::r,h=>by
  obtain⟨a,rfl,ha⟩:=h1 x (h x (.head _));obtain⟨l,rfl,hl⟩:=ajN h1 (xs:=r) λy hy=>h y (.tail _ hy)
  exact⟨a::l,rfl,λb hb=>(aB.1 hb).elim (λe=>e▸ha) (hl b)⟩
structure cS.Rng (c:cS):Prop where
 gain:i64 c.gain
 seq:c.info.seq<=255
 shape:c.info.shape<=255
 max:i64 c.info.max
 groups:∀n∈c.info.groups,i64 n
 secI:∀l∈c.sects,∀s∈l,i64 s.book∧i64 s.len
 stepI:∀l∈c.steps,∀n∈l,i64 n
 fltI:∀l∈c.tns,∀f∈l,(i64 f.len∧i64 f.order)∧∀x∈f.coefs,i64 x
 lineI:∀n∈c.lines,i64 n
def cS.Rng.fit {c:cS}(h:c.Rng)(s:asr c):c.Fit where
 gain:=h.gain
 info:=⟨h.seq,h.shape,h.max,by have:=s.groups;omega,h.groups⟩
 sects:=⟨by have:=s.sects.1;omega,λl hl=>by have:=s.sects.2 l hl;omega⟩
 secI:=h.secI
 steps:=⟨by have:=s.steps.1;omega,λl hl=>by have:=s.steps.2 l hl;omega⟩
 stepI:=h.stepI
 tns:=⟨by have:=s.tns.1;omega,λl hl=>⟨by have:=(s.tns.2 l hl).1;omega,λf hf=>by have:=(s.tns.2 l hl).2 f hf;omega⟩⟩
 fltI:=h.fltI
 lines:=by have:=s.lines;omega
 lineI:=h.lineI
abbrev fI (C F I:D_)(T:am)(c:D_):am:=(0,.cells C)::(1,.cells F)::(2,.cells c)::(3,.cells I)::T
def akK (C F I:D_)(T:am):Hr (fI C F I T) 2:=⟨λc=>by simp,λc d=>by simp⟩
def kV (b:C_):Nat->Nat×Nat->X_×Nat×Nat
 |0,s=>([],s)
 |k+1,s=>(decide ((gT b s 1).1=1)::(kV b k (gT b s 1).2).1,(kV b k (gT b s 1).2).2)
def agb {b:C_}:∀{k:Nat}{s:Nat×Nat},(kV b k s).1.length=k
 |0,_=>rfl
 |k+1,s=>by rw[kV,ar,agb]
def ajE {b:C_}:∀{k:Nat}{s:Nat×Nat},s.1<=b.length->(kV b k s).2.1<=b.length
 |0,_,h=>h
 |k+1,s,h=>ajE (k:=k) (s:=(gT b s 1).2) (qz h)
def aa0 {b:C_}:∀{k:Nat}{s:Nat×Nat},s.2≠0->(kV b k s).2=s
 |0,_,h=>rfl
 |k+1,s,h=>by rw[kV];simp only[tW h];exact aa0 h
def FT (b:C_):Nat->Nat->R X_
 |0,a=>.ok [] a
 |k+1,a=>(bb b a 1).bind λx n=>(FT b k n).bind λl m=>.ok (decide (x=1)::l) m
def aoo {b:C_}:∀{k a:Nat},Lk (FT b k a) (λl=>(kV b k (a,0)).1=l) (kV b k (a,0)).2
 |0,a=>⟨rfl,rfl⟩
 |k+1,a=>by
  rw[FT,kV]
  cases e:bb b a 1 with
  |er q =>
   rw[xX e];simp only;rw[aa0 (bm _)];exact rfl
  |ok x n =>
   rw[nR e,ax];have h:=aoo (b:=b) (k:=k) (a:=n)
   cases e2:FT b k n with
   |er q=>rw[e2]at h;exact h
   |ok l m=>rw[e2]at h;exact⟨by rw[h.1],h.2⟩
def atP {l:X_}{i:Nat}{x:Bool}:(gS l).set i [.bool x]=gS (l.set i x):=by simp[gS,kR]
def atL (b:C_)(hb:b.length<=1000000000)(C F I:D_)(mx:Nat)(hm:mx<=1000)(N:Nat)(hN:4<=N)(y104 y105:D):∀(k i:Nat) (acc:X_) (s:Nat×Nat),i+k=mx->acc.length=i->s.1<=b.length->
  (Dn prog).code (.loop yh) ⟨[(2,.ptr 0 0),(4,.ptr 1 0),(6,.ptr 2 0),(7,.ptr 3 0),(8,.sl N 0 mx),(104,.d y104),(105,.d y105),(121,A_ mx),(122,A_ i)],⟨fI C F I [(N,.arr 1 (gS (acc++List.replicate k false)))] (cK b s),N+1⟩⟩ =
  some (.exit 3,⟨[(2,.ptr 0 0),(4,.ptr 1 0),(6,.ptr 2 0),(7,.ptr 3 0),(8,.sl N 0 mx),(104,.d y104),(105,.d y105)],⟨fI C F I [(N,.arr 1 (gS (acc++(kV b k s).1)))] (cK b (kV b k s).2),N+1⟩⟩):=by
 intro k
 induction k with
 |zero =>
  intro i acc s hi hl hs;have:i=mx:=o_;subst this;rw[ah OE,kV];simp(maxSteps:=300000) (disch:=omega)[↓ac,↓aa]
 |succ k ih =>
  intro i acc s hi hl hs;have h1:=fW (akK C F I [(N,.arr 1 (gS (acc++List.replicate (k+1) false)))]) b hb s hs 1 (N+1);have h5:=λx=>ih (i+1) (acc++[x]) (gT b s 1).2 o_ g_ (qz hs)
  have c1:((i+1:Nat):Int)=(i:Int)+1:=rfl;have hset:∀x:Bool,(gS (acc++List.replicate (k+1) false)).set i [.bool x]=gS (acc++[x]++List.replicate k false):=λx=>by
   rw[atP,<-hl,cx,Rv,ay];rfl
  have hget:(gS (acc++List.replicate (k+1) false))[i]?=some [.bool false]:=by
   rw[gS,bS,ct o_,hl,sO,cx];rfl
  rw[c1]at h5;rw[kV];generalize gT b s 1=g at *;obtain⟨x,s1⟩:=g;simp only at h1 h5⊢;have h5:=h5 (decide (x=1));have hset:=hset (decide (x=1));have e:acc++decide (x=1)::(kV b k s1).1=acc++[decide (x=1)]++(kV b k s1).1:=s_;rw[e,ah OE,<-h5];have n0:N≠0∧N≠1∧N≠2∧N≠3:=o_;simp only[fI,cK]at h1⊢;generalize gS (acc++List.replicate (k+1) false)=Z at *;by_cases hx:x=1
  .rw[decide_eq_true hx]at hset⊢;have hx2:(x:Int)=1:=o_;simp(maxSteps:=300000) (disch:=omega)[↓ac,↓aa,h1,hget,hset,hx2,n0]
  .rw[decide_eq_false hx]at hset⊢;have hx2:¬(x:Int)=1:=o_;simp(maxSteps:=300000) (disch:=omega)[↓ac,↓aa,h1,hget,hset,hx2,n0]
@[simp ↓] def aC0 {β:Type}{P:Nat->Y_}{i:Nat}{e:aV}{h:am}{m:Nat}{k:AV->aV->HS->Option β}:bR P (.frz i) e ⟨h,m⟩ k=bA (get e i) λv=>k (.tup []) (put e i (xG h v).1) ⟨(xG h v).2,m⟩:=by
 rw[HF];show fX (VL i ⟨e,⟨h,m⟩⟩) k=_;unfold VL;simp only[]
 cases get e i<;>rfl
def api (o:Option Obj)(h:am)(id off len:Nat):AV×am :=
 match o with
 |some (.arr m xs)=>if off+len<=xs.length then (.own false m (sub xs off len),del h id) else (.sl id off len,h)
 |_=>(.sl id off len,h)
@[simp] def aD0 {h:am}{id off len:Nat}:xG h (.sl id off len)=api (get h id) h id off len:=by
 simp only[xG,api]
 cases get h id with
 |none=>rfl
 |some o =>
  cases o with
  |arr m xs =>
   simp only[];by_cases hl:off+len<=xs.length
   .rw[ac hl,show Nat.ble (off+len) xs.length=true by rw[bg];exact hl]
   .rw[aa hl,show Nat.ble (off+len) xs.length=false from Bool.eq_false_iff.2 λh=>hl (by rwa [bg]at h)]
  |cells=>rfl
  |loop=>rfl
@[simp ↓] def aD6 {m:Nat}{xs:E_}{h:am}{id off len:Nat}:api (some (.arr m xs)) h id off len=if off+len<=xs.length then (.own false m (sub xs off len),del h id) else (.sl id off len,h):=(rfl)
def v6 (b:C_)(mx:Nat):Nat->Nat->R T_
 |0,a=>.ok [] a
 |g+1,a=>(FT b mx a).bind λl n=>(v6 b mx g n).bind λt m=>.ok (l::t) m
abbrev Ir (g j:Int):aV:=[(2,.ptr 0 0),(4,.ptr 1 0),(6,.ptr 2 0),(7,.ptr 3 0),(104,A_ g),(105,A_ j)]
abbrev RJ:aV:=[(2,.ptr 0 0),(4,.ptr 1 0),(6,.ptr 2 0),(7,.ptr 3 0)]
section
variable (b:C_)(hb:b.length<=1000000000)(C:D_)(f0 f1 f4:AV)(i0 i1 i3:AV)(mx:Nat)(hm:mx<=1000)
theorem JJ (F I:D_)(s:Nat×Nat)(g:Int)(N:Nat) :
  (Dn prog).code (.loop ft) ⟨Ir g g,⟨fI C F I [] (cK b s),N⟩⟩=some (.exit 1,⟨RJ,⟨fI C F I [] (cK b s),N⟩⟩):=by
 rw[ah EX];simp(maxSteps:=300000) (disch:=omega)[↓ac,↓aa]
theorem TL (f3:AV)(I:D_)(s:Nat×Nat)(mk:Int)(g j:Int)(hj:j<g)(h:mk≠1∨s.2≠0)(N:Nat) :
  (Dn prog).code (.loop ft) ⟨Ir g j,⟨fI C [f0,f1,A_ mk,f3,f4] I [] (cK b s),N⟩⟩=some (.exit 1,⟨RJ,⟨fI C [f0,f1,A_ mk,f3,f4] I [] (cK b s),N⟩⟩):=by
 obtain⟨a,e⟩:=s;rw[ah EX];simp only[fI,cK];by_cases hk:mk=1
 .have he:e≠0:=h.resolve_left (λh=>h hk);subst hk;simp(maxSteps:=300000) (disch:=omega)[↓ac,↓aa,he]
 .simp(maxSteps:=300000) (disch:=omega)[↓ac,↓aa,hk]
include hb hm
theorem adR (a:Nat)(ha:a<=b.length)(acc:T_)(hacc:acc.length<=1000)(g j:Nat)(hj:j<g)(hg:g<=1000)(N:Nat)(hN:4<=N) :
  (Dn prog).code (.loop ft) ⟨Ir g j,⟨fI C [f0,f1,A_ 1,aD 1 (dT acc),f4] [i0,i1,A_ mx,i3] [] (cK b (a,0)),N⟩⟩ =
  (Dn prog).code (.loop ft) ⟨Ir g (j+1:Nat),⟨fI C [f0,f1,A_ 1,aD 1 (dT (acc++[(kV b mx (a,0)).1])),f4] [i0,i1,A_ mx,i3] [] (cK b (kV b mx (a,0)).2),N+1⟩⟩:=by
 have h1:=atL b hb C [f0,f1,A_ 1,aD 1 (dT acc),f4] [i0,i1,A_ mx,i3] mx hm N hN (.int .i64 g) (.int .i64 j) mx 0 [] (a,0) o_ rfl ha;have hk:=Cl (z:=[.bool false]) (n:=mx) o_;rw[au7]at hk;have c1:((j+1:Nat):Int)=(j:Int)+1:=rfl;have c0:((0:Nat):Int)=0:=rfl;have hl:(kV b mx (a,0)).1.length=mx:=agb;have hrl:(gS (List.replicate mx false)).length=mx:=by rw[wp,bn]
 have hbl:(gS (kV b mx (a,0)).1).length=mx:=by rw[wp,hl]
 have ht:List.take mx (gS (kV b mx (a,0)).1)=gS (kV b mx (a,0)).1:=cg o_;have hA:(dT acc).length=acc.length:=L5;have e:aD 1 (dT (acc++[(kV b mx (a,0)).1]))=.own false 1 (dT acc++[[.lst (gS (kV b mx (a,0)).1)]]):=by rw[anu,mY]
 have n0:N≠0∧N≠1∧N≠2∧N≠3:=o_;rw[c1,e];simp only[aO,cK,fI,c0]at h1⊢;generalize kV b mx (a,0)=r at *;obtain⟨l,s⟩:=r;simp only at *;generalize gS (List.replicate mx false)=Z at *;generalize gS l=B at *;generalize dT acc=A at *;rw[ah EX]
 cases A with
 |nil=>simp(maxSteps:=300000) (disch:=omega)[↓ac,↓aa,hk,h1,hrl,hbl,ht,n0]
 |cons y r=>simp(maxSteps:=300000) (disch:=omega)[↓ac,↓aa,hk,h1,hrl,hbl,ht,n0]
theorem aka (g:Nat)(hg:g<=1000):∀(c j a:Nat) (acc:T_) (N:Nat),j+c=g->acc.length=j->a<=b.length->4<=N->
  ∃(w:T_) (s:Nat×Nat) (M:Nat),4<=M∧s.1<=b.length∧Lk (v6 b mx c a) (λt=>w=acc++t) s∧
  (Dn prog).code (.loop ft) ⟨Ir g j,⟨fI C [f0,f1,A_ 1,aD 1 (dT acc),f4] [i0,i1,A_ mx,i3] [] (cK b (a,0)),N⟩⟩ =
  some (.exit 1,⟨RJ,⟨fI C [f0,f1,A_ 1,aD 1 (dT w),f4] [i0,i1,A_ mx,i3] [] (cK b s),M⟩⟩):=by
 intro c
 induction c with
 |zero =>
  intro j a acc N hj hl ha hN;obtain rfl:j=g:=o_;exact⟨acc,(a,0),N,hN,ha,⟨s_,rfl⟩,JJ b C _ _ _ _ _⟩
 |succ c ih =>
  intro j a acc N hj hl ha hN;rw[adR b hb C f0 f1 f4 i0 i1 i3 mx hm a ha acc o_ g j o_ hg N hN,v6];have hr:=aoo (b:=b) (k:=mx) (a:=a);have hle:(kV b mx (a,0)).2.1<=b.length:=ajE ha;generalize kV b mx (a,0)=r at *;obtain⟨l,s⟩:=r
  cases e:FT b mx a with
  |ok l2 n =>
   rw[e]at hr;obtain⟨h1,h2⟩:=hr;simp only at h1 h2 hle;subst h1 h2;obtain⟨w,s6,M,k1,k2,k3,k4⟩:=ih (j+1) n (acc++[l]) (N+1) o_ g_ hle o_;refine⟨w,s6,M,k1,k2,?_,k4⟩;rw[ax]
   cases e2:v6 b mx c n with
   |er q=>rw[e2]at k3;exact k3
   |ok t q=>rw[e2]at k3;exact⟨by rw[k3.1,ay];rfl,k3.2⟩
  |er e0 =>
   rw[e]at hr;have hd:s.2=e0+1:=hr;refine⟨acc++[l],s,N+1,o_,hle,hd,?_⟩;by_cases hc:c=0
   .have:j+1=g:=o_;rw[this];exact JJ b C _ _ _ _ _
   .exact TL b C f0 f1 f4 _ _ s 1 g (j+1:Nat) o_ (.inr o_) _
theorem an8 (g:Nat)(hg:g<=1000)(k:Nat)(s:Nat×Nat)(hs:s.1<=b.length)(N:Nat)(hN:4<=N) :
  ∃(w:T_) (s6:Nat×Nat) (M:Nat),4<=M∧s6.1<=b.length∧(s.2=0->Lk (if k=1 then v6 b mx g s.1 else .ok [] s.1) (λt=>w=t) s6)∧(s.2≠0->s6=s)∧
  (Dn prog).code (.loop ft) ⟨Ir g 0,⟨fI C [f0,f1,A_ k,.nl,f4] [i0,i1,A_ mx,i3] [] (cK b s),N⟩⟩ =
  some (.exit 1,⟨RJ,⟨fI C [f0,f1,A_ k,aD 1 (dT w),f4] [i0,i1,A_ mx,i3] [] (cK b s6),M⟩⟩):=by
 have e0:aD 1 (dT [])=.nl:=rfl;obtain⟨a,e⟩:=s;by_cases h:k=1∧e=0
 .obtain⟨rfl,rfl⟩:=h;obtain⟨w,s6,M,k1,k2,k3,k4⟩:=aka b hb C f0 f1 f4 i0 i1 i3 mx hm g hg g 0 a [] N o_ rfl hs hN;rw[e0]at k4;exact⟨w,s6,M,k1,k2,λ_=>by simpa using k3,λh=>absurd rfl h,k4⟩
 .refine⟨[],(a,e),N,hN,hs,λhe=>?_,λ_=>rfl,?_⟩
  .rw[aa (λhk=>h ⟨hk,he⟩)];exact⟨rfl,by rw[show e=0 from he]⟩
  .rw[e0];by_cases hg0:g=0
   .subst hg0;exact JJ b C _ _ _ _ _
   .exact TL b C f0 f1 f4 _ _ (a,e) k g 0 o_ t_ _
end
end Go.Vm
end
