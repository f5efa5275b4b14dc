import Derived.Test.YtmijbobeldmdpaaGreatP4
set_option linter.unusedVariables false
set_option linter.unusedSimpArgs false
set_option linter.defProp false
set_option linter.unusedSectionVars false
noncomputable section
namespace Go.Vm
set_option maxRecDepth 100000
set_option maxHeartbeats 4000000
abbrev FQ (c:cK)(os:C_)(q:Obj)(C:D_)(v:AV)(T:am):am :=
 (0,.cells c.av)::(1,.cells C)::(2,.cells [.ptr 1 0])::(3,.cells [v])::(4,.cells c.info.cells)::(5,.cells [.d (.lst (bF c.sects))])::(6,.cells [.own false 1 (cX os)])::(7,q)::T
abbrev azB (x0:AV):aW:=[(0,x0),(6,.ptr 0 0),(11,.ptr 2 0),(12,.ptr 3 0),(86,.fn jg [] [.ptr 5 0,.ptr 4 0,.ptr 6 0])]
abbrev UD (x0:AV):Obj:=.loop (azB x0) [87] xK xI false none
def wC (c:cK)(p:Nat×Nat):C_:=Aj p.1 ((c.lines.drop p.2).take (bI p.1))
def aeS {id:Nat}(hid:1<=id∧id<=11){vs:G_}(hv:OV id vs):1<=(Aj id vs).length∧(Aj id vs).length<=200:=by
 have hok:jN id:=o_;obtain⟨m1,m2,m3,m4⟩:=C5 id (Uk hid);obtain⟨f1,f2⟩:=Qo hid hv;have hd4:bI id<=4:=by unfold bI;split<;>omega
 have hvl:=hv.1;have hv8:∀v∈vs,v.natAbs<=8191:=λv h=>aO (hv.2 v h) m4
 have hmany:bq id=cJ id ^ eD id:=rfl;unfold Aj;by_cases hs:kV id=true
 .have hin:=f1 hs;have hlt:=IC (n:=0) (j:=0) hin.2 s_;rw[bv,hin.1,<-hmany]at hlt;have:=BN hok hlt;rw[ac hs];omega
 .have hin:=f2 (by simpa using hs);have hlt:=IC (n:=0) (j:=0) hin.2 s_;rw[bv,hin.1,<-hmany]at hlt;have:=BN hok hlt;have hsl:=ajs (vs:=vs);have hel:=XR (id:=id) hv8;rw[aa hs];simp only[aj];omega
def azo {m:Nat}{xs ys:E_}(hl:xs.length+ys.length<=1000000000):∃v,(∀h,et m h (aG m xs) ys=some (v,h))∧firm v=aG m (xs++ys):=by
 obtain⟨v,h1,h2⟩:=ar1 (m:=m) (h:=[]) hl;refine⟨v,λh=>?_,h2⟩
 cases xs with
 |nil =>
  cases ys with
  |nil=>injection h1 with h1;injection h1 with h1;subst h1;rfl
  |cons y r =>
   simp only[qZ,ann,abT,aX]at h1⊢;split at h1
   .rename_i h9;rw[ac h9];injection h1 with h1;injection h1 with h1;subst h1;rfl
   .exact absurd h1 (by simp)
 |cons x r =>
  simp only[adX,U1,abT,amE,amC,aX]at h1⊢;split at h1
  .rename_i h9;rw[ac h9];split at h1
   .rename_i h8;rw[ac h8];split at h1
    .rename_i h7;rw[ac h7];injection h1 with h1;injection h1 with h1;subst h1;rfl
    .exact absurd h1 (by simp)
   .exact absurd h1 (by simp)
  .exact absurd h1 (by simp)
def aFX (c:cK)(hl:c.lines.length=256)(os:C_)(x0:AV)(hx0:share x0=x0)(p:Nat×Nat)(hp:(1<=p.1∧p.1<=11)∧p.2+bI p.1<=256∧OV p.1 ((c.lines.drop p.2).take (bI p.1)))(C:D_)(hC:Ii C)(acc:C_)(hacc:acc.length<=900000000)(K:Nat)(o:Obj)(hK:8<=K)(N:Nat)(hN:K<N) :
  cy (Dn prog) (.yield 7) [.agg [A_ (p.1:Int),A_ (p.2:Int),A_ ((p.2+bI p.1:Nat):Int)]] ⟨FQ c os (UD x0) C (aG 1 (ai acc)) [(K,o)],N⟩=some (B_ true,⟨FQ c os (UD x0) (aI C (4*p.1) (sj p.1)) (aG 1 (ai (acc++wC c p))) [(K,o)],N+1+1⟩):=by
 obtain⟨h1,h2,h3⟩:=hp;have hH:=auT [] s_ .nl (.inr ⟨rfl,rfl⟩) p.1 h1 _ h3;have hhl:=aeS h1 h3;rw[aK]at hH;have hsl:=λh=>ais (h:=h) (l:=c.lines) (a:=p.2) (b:=p.2+bI p.1) o_ o_ (p.2:Int) ((p.2+bI p.1:Nat):Int) rfl rfl
 simp only[fY]at hsl;have hBk:Bk (λC T=>FQ c os (.loop (azB x0) [87] xK xI true none) C (aG 1 (ai acc)) ([(K,o),(N,.cells [A_ (p.1:Int),A_ (p.2:Int),A_ ((p.2+bI p.1:Nat):Int)])]++T)) 1 (N+1):=by
  have hK0:K≠0∧K≠1∧K≠2:=o_;constructor
  .intro C T;simp
  .intro C T C';simp
  .intro C o;simp(disch:=omega)[↓aa]
  .intro C o o';simp(disch:=omega)[↓aa]
  .intro C o;simp(disch:=omega)[↓aa]
  .intro C o;simp(disch:=omega)[↓aa]
 have hB:=Su hBk C hC p.1 h1;generalize aI C (4*p.1) (sj p.1)=C2 at *;have hbl:(ai (wC c p)).length=(wC c p).length:=bD;have hba:(ai acc).length=acc.length:=bD;obtain⟨wv,hw1,hw2⟩:=azo (m:=1) (xs:=ai acc) (ys:=ai (wC c p)) (by unfold wC;unfold wC at hbl;omega);have hne:ai (acc++wC c p)≠[]:=by
  intro h;have:=aV List.length h;rw[bD,aj,bg]at this;unfold wC at this;omega
 rw[ahE,mc hne]at hw2;rw[mc hne];have hLB:Aj p.1 ((c.lines.drop p.2).take (bI p.1))=wC c p:=rfl;rw[hLB]at hH;simp only[oj,bi]at hB hH;simp only[FQ,cK.av,aN.cells,aQ,aK,Sp,SD]at hB⊢;generalize wC c p=LB at *;generalize (c.lines.drop p.2).take (bI p.1)=LS at *;generalize ((p.2+bI p.1:Nat):Int)=TO at *;simp(config := { maxSteps:=1000000 }) (disch:=omega)[Sp,SD,↓ac,↓aa,hx0,hsl,hH,hB,hw1,hw2]
def aC9 (c:cK)(hl:c.lines.length=256)(os:C_)(x0:AV)(hx0:share x0=x0)(TOT:C_)(hT:TOT.length<=900000000):Ta (fun(s:D_×C_) T=>FQ c os (UD x0) s.1 (aG 1 (ai s.2)) T) noH 8 7 (λp s=>.inl (aI s.1 (4*p.1) (sj p.1),s.2++wC c p))
  (λr s=>Ii s.1∧s.2++r.flatMap (wC c)=TOT∧∀p∈r,(1<=p.1∧p.1<=11)∧p.2+bI p.1<=256∧OV p.1 ((c.lines.drop p.2).take (bI p.1))):=by
 intro p r s K o N hi hK hN;obtain⟨i1,i2,i3⟩:=hi;have hp:=i3 p (.head _);have hal:s.2.length<=900000000:=by rw[<-i2,aj]at hT;omega
 refine .inl ⟨_,N+1+1,o_,rfl,⟨ad5 i1 hp.1,?_,λq hq=>i3 q (.tail _ hq)⟩,aFX c hl os x0 hx0 p hp s.1 i1 s.2 hal K o hK N hN⟩;rw[aD,<-aA]at i2;exact i2
def aGt {c:cK}{os:C_}{x0:AV}:Tl (fun(s:D_×C_) T=>FQ c os (UD x0) s.1 (aG 1 (ai s.2)) T) 8:=by
 constructor
 .intro s K o h;simp(disch:=omega)[↓aa]
 .intro s K o o' h;simp(disch:=omega)[↓aa]
 .intro s K o h;simp(disch:=omega)[↓aa]
 .intro s K o h;simp(disch:=omega)[↓aa]
def nS (r:Nat)(c:cK):C_:=(qG (offs r c.info.short) c.sects c.info.groups 0).flatMap (wC c)
abbrev vI:D_:=[A_ 0,A_ 0,.nl,.nl,A_ 0,A_ 0,.nl,.nl,A_ 0,A_ 0,.nl,.nl,A_ 0,A_ 0,.nl,.nl,A_ 0,A_ 0,.nl,.nl,A_ 0,A_ 0,.nl,.nl,A_ 0,A_ 0,.nl,.nl,A_ 0,A_ 0,.nl,.nl,A_ 0,A_ 0,.nl,.nl,A_ 0,A_ 0,.nl,.nl,A_ 0,A_ 0,.nl,.nl,A_ 0,A_ 0,.nl,.nl]
def agU:Ii vI:=by
 refine⟨rfl,λid hid=>.inl ?_⟩;obtain rfl|rfl|rfl|rfl|rfl|rfl|rfl|rfl|rfl|rfl|rfl|rfl:id=0∨id=1∨id=2∨id=3∨id=4∨id=5∨id=6∨id=7∨id=8∨id=9∨id=10∨id=11:=o_
 all_goals rfl
def auD (r:Nat)(hr:r<=11)(c:cK)(hc:c.Fit)(h:nC r c)(x0:AV)(hx0:share x0=x0)(hlen:(nS r c).length<=900000000):∃C2 M,(Dn prog).call jg [.yield 7,.ptr 5 0,.ptr 4 0,.ptr 6 0] ⟨FQ c (offs r c.info.short) (UD x0) vI .nl [],8⟩=some (.tup [],⟨FQ c (offs r c.info.short) (UD x0) C2 (aG 1 (ai (nS r c))) [],M⟩):=by
 obtain⟨o1,o2,o3,o4⟩:=Cb (r,c.info.short) (fH o_);obtain⟨p1,p2,p3⟩:=oI (r,c.info.short) (fH o_);simp only at o1 o2 o3 o4 p1 p2 p3;have hmx:=h.info.2.2.2.1;have hmy:sc r (decide (c.info.seq=2))=(offs r c.info.short).length-1:=rfl;have hhi:∀x∈offs r c.info.short,x<=256:=λx hx=>by
  have:=bH.1 p3 x hx;simp only[decide_eq_true_eq]at this;have:(cond c.info.short 32 256:Nat)<=256:=by cases c.info.short<;>decide
  omega
 have hpl:=ajK (P:=⟨7,4,6,c.sects,offs r c.info.short⟩) c.info hc.info (gy hr h.info) 5 (aGt (c:=c) (os:=offs r c.info.short) (x0:=x0)) ape (aC9 c h.lines.1 (offs r c.info.short) x0 hx0 (nS r c) hlen) (λs=>by simp) (λs T=>by simp) (λs T=>by simp) t_ hhi t_ h.sects 8 (al _) (vI,[]) ⟨agU,by simp only[nS,aK],λp hp=>Sb hc h hr hp⟩;rcases hpl with ⟨s2,M,hM,e1,⟨e2,e3,e4⟩,e5⟩|⟨z,_⟩
 .rw[gk,bi]at e3;rw[e3]at e5;exact⟨s2.1,M,e5⟩
 .exact nomatch z
def IN {α:Type}{f:α->C_}{k:Nat}:∀{l:List α},(∀x∈l,(f x).length<=k)->(l.flatMap f).length<=k*l.length
 |[],_=>by simp
 |x::r,h=>by
  have a:=h x (.head _);have b:=IN (l:=r) λy hy=>h y (.tail _ hy)
  rw[aD,aj,aq,Nat.mul_add];omega
def am0 {d hi:Nat}:∀{f x:Nat},(so d hi f x).length<=f
 |0,_=>by simp[so]
 |f+1,x=>by
  rw[so];split
  .have:=am0 (d:=d) (hi:=hi) (f:=f) (x:=x+d);simp only[aq];omega
  .simp
def ami {os:C_}{d b:Nat}:∀{k w:Nat},(rB os d b k w).length<=300*k
 |0,_=>by simp[rB]
 |k+1,w=>by
  have a:=am0 (d:=d) (hi:=nth os (b+1)) (f:=300) (x:=nth os b);have b:=ami (os:=os) (d:=d) (b:=b) (k:=k) (w:=w+1);rw[rB,aj,gX];omega
def amN {os:C_}{d n first:Nat}(hn:n<=8):∀{k b:Nat},(zU os d n first k b).length<=2400*k
 |0,_=>by simp[zU]
 |k+1,b=>by
  have a:=ami (os:=os) (d:=d) (b:=b) (k:=n) (w:=first);have c:=amN (os:=os) (d:=d) (first:=first) hn (k:=k) (b:=b+1);rw[zU,aj];omega
def amO {os:C_}{n first:Nat}(hn:n<=8):∀{r:P_}{b:Nat}{lf:Int},fitsS lf r->0<=lf->(BI os n first r b).length<=2400*lf.toNat
 |[],b,lf,h,h0=>by simp[BI]
 |s::r,b,lf,h,h0=>by
  obtain⟨⟨⟨l1,l2⟩,_⟩,h2⟩:=h;have a:=amN (os:=os) (d:=bI s.book.toNat) (first:=first) hn (k:=s.len.toNat) (b:=b);have c:=amO (os:=os) (first:=first) hn (b:=b+s.len.toNat) h2 o_;rw[BI,aj];split
  .simp only[bg];omega
  .rw[gX];omega
def anf {os:C_}{m:Int}(hm:0<=m∧m<=40):∀{r:H_}{q:G_}{first:Nat},fI m r->(∀n∈q,n<=8)->(qG os r q first).length<=100000*q.length
 |[],q,first,_,_=>by simp[qG]
 |l::r,[],first,_,_=>by simp[qG]
 |l::r,n::q,first,hf,hn=>by
  have h1:=hn n (.head _);have a:=amO (os:=os) (n:=n.toNat) (first:=first) o_ (b:=0) (hf l (.head _)) hm.1;have c:=anf (os:=os) hm (r:=r) (q:=q) (first:=first+n.toNat) (λx hx=>hf x (.tail _ hx)) (λx hx=>hn x (.tail _ hx));rw[qG,aj,aq];omega
def abp {r:Nat}{c:cK}(hc:c.Fit)(h:nC r c)(hr:r<=11):(nS r c).length<=160000000:=by
 have hm11:=gy hr h.info;obtain⟨g1,g2⟩:=dV hm11;have hmm:c.info.many<=8:=by unfold aN.many;split<;>omega
 have hgl:c.info.groups.length<=8:=by have:=nf (λn hn=>(g1 n hn).1);omega
 have a:=anf (os:=offs r c.info.short) (jW hm11) (first:=0) h.sects.2 λn hn=>(g1 n hn).2
 have b:=IN (f:=wC c) (k:=200) (l:=qG (offs r c.info.short) c.sects c.info.groups 0) λp hp=>by
  obtain⟨h1,h2,h3⟩:=Sb hc h hr hp;exact(aeS h1 h3).2
 unfold nS;omega
def TC:∀{g:H_}{t:J_}{w z:Int}{m:Int},0<=m∧m<=40->fI m g->mV g t w z≠none->(oy g t w z).length<=800*g.length
 |[],[],_,_,_,_,_,_=>by simp[oy]
 |[],_::_,_,_,_,_,_,h=>absurd rfl h
 |_::_,[],_,_,_,_,_,h=>absurd rfl h
 |l::r,t::s,w,z,m,hm,hf,h=>by
  rw[mV]at h
  cases hr:dX (aM l) t w z with
  |none=>rw[hr]at h;exact absurd rfl h
  |some fin =>
   rw[hr]at h;have a:=X6 (bks:=aM l) (t:=t) (w:=w) (z:=z) (by rw[hr];simp);have b:=tN (hf l (.head _)) hm.1;have c:=TC (g:=r) (t:=s) (w:=fin.1) (z:=fin.2) hm (λx hx=>hf x (.tail _ hx)) h;rw[oy,hr,aj,aq];simp only;omega
def K0 {i:aN}:(ln i).length<=20:=by
 unfold ln;split<;>simp[abJ]
def ael {i:aN}{g:H_}(hm:i.may 11)(hg:jZ i g):(OY i g).length<=600000*g.length:=by
 have hsz:1<=i.fsz∧i.fsz<=5:=by unfold aN.fsz;split<;>omega
 have hmx:=jW hm;refine IN λl hl=>?_
 have hf:=hg.2 l hl;have a:=SV hsz (uQ hf o_);have b:l.length<=100:=by
  rcases Jk hf with h|h
  .omega
  .subst h;simp
 omega
def Dq (r:Nat)(c:cK)(common:Bool):C_ :=
 ar c.gain.toNat 8++((if common then [] else ln c.info)++(OY c.info c.sects++(oy c.sects c.steps c.gain (-1)++((if pf c.tns then 0::1::(jx c.info.short c.tns++[0]) else [0,0,0])++nS r c))))
def aw4 (b:C_)(hb:b.length<=300000000)(x:AV)(hx:x=.d (.lst (ai b))∨x=.nl∧b=[])(rt:Int)(c:cK)(hc:c.Fit)(common:Bool) :
  (dW rt∧nC rt.toNat c∧bj prog GF [x,A_ rt,.agg c.av,B_ common]=some (.tup [.own true 1 (ai (b++Dq rt.toNat c common)),A_ 0]))∨
  (∃e:Int,e≠0∧bj prog jD [A_ rt,.agg c.av]=some (A_ e)∧(dW rt->¬nC rt.toNat c)∧bj prog GF [x,A_ rt,.agg c.av,B_ common]=some (.tup [.nl,A_ e])):=by
 have bad:∀e:Int,e≠0->bj prog jD [A_ rt,.agg c.av]=some (A_ e)->bj prog GF [x,A_ rt,.agg c.av,B_ common]=some (.tup [.nl,A_ e]):=by
  intro e he hC;simp only[cK.av]at hC⊢;rw[aE aeN aeF rfl];rcases hx with rfl|⟨rfl,rfl⟩
  all_goals simp(maxSteps:=300000) (disch:=omega)[↓ac,↓aa,hC,he]
 rcases Oy rt c hc with ⟨hr,h,hC⟩|⟨hr,h,hC⟩|⟨hr,hC⟩
 .refine .inl ⟨hr,h,?_⟩;obtain⟨R,rfl⟩:=aB hr.1;simp only[au]at h⊢;have hR:R<=11:=o_;have hm11:=gy hR h.info;have hmx:=jW hm11;obtain⟨g1,g2⟩:=dV hm11;have hmm:c.info.many<=8:=by unfold aN.many;split<;>omega
  have hgl:c.info.groups.length<=8:=by have:=nf (λn hn=>(g1 n hn).1);omega
  have hgs:c.sects.length<=8:=by have:=h.sects.1;omega
  have k1:=K0 (i:=c.info);have k2:=ael hm11 h.sects;have k3:=TC hmx h.sects.2 h.steps;have k4:(jx c.info.short c.tns).length<=1000*c.tns.length:=IN λl hl=>adf (h.tns.2 l hl)
  have k5:=abp hc h hR;have htl:=h.tns.1;have hx8:(8:Int).toNat=8:=rfl;have p1:=md b c.gain 8 o_ (by have:=h.gain;omega) x hx;rw[ac (by have:=h.gain;simp only[ou,hx8];omega),hx8]at p1;obtain⟨B1,hB1⟩:∃B1,B1=b++ar c.gain.toNat 8:=⟨_,rfl⟩
  have l1:B1.length=b.length+8:=by rw[hB1];simp
  rw[<-hB1]at p1;have p2:=aiW B1 o_ _ (.inl rfl) R c.info hc.info;rw[ac hr,au,ac h.info]at p2;obtain⟨B2,hB2⟩:∃B2,B2=B1++(if common then [] else ln c.info):=⟨_,rfl⟩
  have l2:B2.length<=b.length+28:=by rw[hB2,aj];split<;>(try simp only[bg])<;>omega
  have p3:=avx B2 o_ _ (.inl rfl) c.info hc.info hm11 c.sects hc.sects h.sects;obtain⟨B3,hB3⟩:∃B3,B3=B2++OY c.info c.sects:=⟨_,rfl⟩
  have l3:B3.length<=b.length+5000000:=by rw[hB3,aj];omega
  rw[<-hB3]at p3;have p4:=ap3 B3 o_ _ (.inl rfl) c.gain c.info.max c.sects c.steps h.gain hgs hmx h.sects.2 hc.sects.2 h.steps λl hl=>by have:=hc.steps.2 l hl;omega
  obtain⟨B4,hB4⟩:∃B4,B4=B3++oy c.sects c.steps c.gain (-1):=⟨_,rfl⟩
  have l4:B4.length<=b.length+6000000:=by rw[hB4,aj];omega
  rw[<-hB4]at p4;have p5:=S8 c.tns o_ λl hl=>by have:=(hc.tns.2 l hl).1;omega
  have p6:=akL (B4++[0,1]) g_ _ (.inl rfl) c.info hc.info hm11 c.tns h.tns λl hl f hf=>(hc.fltI l hl f hf).2
  obtain⟨B5,hB5⟩:∃B5,B5=B4++(if pf c.tns then 0::1::(jx c.info.short c.tns++[0]) else [0,0,0]):=⟨_,rfl⟩
  have l5:B5.length<=b.length+7000000:=by rw[hB5,aj];split<;>simp<;>omega
  have hfin:b++Dq R c common=B5++nS R c:=by rw[hB5,hB4,hB3,hB2,hB1];simp only[Dq,aA]
  obtain⟨C2,M,p7⟩:=auD R hR c hc h (.d (.lst (ai B5))) rfl o_;have p8:=Qy R hR c.info (.lst (bF c.sects)) [(0,.cells c.av),(1,.cells vI),(2,.cells [.ptr 1 0]),(3,.cells [.nl])] 4 (λp hp=>by
   simp only[ay,cq,ee]at hp;rcases hp with rfl|rfl|rfl|rfl<;>simp only[]<;>omega)
  rw[hfin];have hbl:(ai (nS R c)).length=(nS R c).length:=bD;have hb5:(ai B5).length=B5.length:=bD;have hb4:(ai B4).length=B4.length:=bD;have hb01:ai B4++[[D.int .u8 0],[D.int .u8 1]]=ai (B4++[0,1]):=by simp[ai]
  have hb000:ai B4++[[D.int .u8 0],[D.int .u8 0],[D.int .u8 0]]=ai (B4++[0,0,0]):=by simp[ai]
  have hb6:ai (B4++[0,1]++jx c.info.short c.tns)++[[D.int .u8 0]]=ai (B4++[0,1]++jx c.info.short c.tns++[0]):=by simp[ai]
  have hl6n:(B4++[0,1]++jx c.info.short c.tns).length<=400000000:=by simp;omega
  have hl6:(ai (B4++[0,1]++jx c.info.short c.tns)).length<=400000000:=by rw[bD];simp;omega
  simp only[FQ,cK.av,aN.cells,aQ,aK]at hC p2 p3 p4 p6 p7 p8⊢;rw[aE aeN aeF rfl]
  cases hcm:common with
  |true =>
   rw[hcm]at hB2;simp only[bh,bi]at hB2;subst hB2
   cases haf:pf c.tns with
   |true =>
    rw[haf]at hB5 p5;simp only[bh]at hB5;have e5:B4++[0,1]++jx c.info.short c.tns++[0]=B5:=by rw[hB5];simp
    rw[e5]at hb6;generalize nS R c=LL at *;generalize B4++[0,1]++jx c.info.short c.tns=B6 at *;generalize B4++[0,1]=B7 at *;rcases hx with rfl|⟨rfl,rfl⟩
    .simp(config := { maxSteps:=1000000 }) (disch:=omega)[↓ac,↓aa,rd,hC,p1,p3,p4,p5,p6,hb01,hb6,hb000,p8,p7]
     try omega
    .simp(config := { maxSteps:=1000000 }) (disch:=omega)[↓ac,↓aa,rd,hC,p1,p3,p4,p5,p6,hb01,hb6,hb000,p8,p7]
     try omega
   |false =>
    rw[haf]at hB5 p5;simp only[ao,bl]at hB5;rw[<-hB5]at hb000;generalize nS R c=LL at *;generalize B4++[0,1]++jx c.info.short c.tns=B6 at *;generalize B4++[0,1]=B7 at *;rcases hx with rfl|⟨rfl,rfl⟩
    .simp(config := { maxSteps:=1000000 }) (disch:=omega)[↓ac,↓aa,rd,hC,p1,p3,p4,p5,p6,hb01,hb6,hb000,p8,p7]
     try omega
    .simp(config := { maxSteps:=1000000 }) (disch:=omega)[↓ac,↓aa,rd,hC,p1,p3,p4,p5,p6,hb01,hb6,hb000,p8,p7]
     try omega
  |false =>
   rw[hcm]at hB2;simp only[ao,bl]at hB2;rw[<-hB2]at p2
   cases haf:pf c.tns with
   |true =>
    rw[haf]at hB5 p5;simp only[bh]at hB5;have e5:B4++[0,1]++jx c.info.short c.tns++[0]=B5:=by rw[hB5];simp
    rw[e5]at hb6;generalize nS R c=LL at *;generalize B4++[0,1]++jx c.info.short c.tns=B6 at *;generalize B4++[0,1]=B7 at *;rcases hx with rfl|⟨rfl,rfl⟩
    .simp(config := { maxSteps:=1000000 }) (disch:=omega)[↓ac,↓aa,rd,hC,p1,p2,p3,p4,p5,p6,hb01,hb6,hb000,p8,p7]
     try omega
    .simp(config := { maxSteps:=1000000 }) (disch:=omega)[↓ac,↓aa,rd,hC,p1,p2,p3,p4,p5,p6,hb01,hb6,hb000,p8,p7]
     try omega
   |false =>
    rw[haf]at hB5 p5;simp only[ao,bl]at hB5;rw[<-hB5]at hb000;generalize nS R c=LL at *;generalize B4++[0,1]++jx c.info.short c.tns=B6 at *;generalize B4++[0,1]=B7 at *;rcases hx with rfl|⟨rfl,rfl⟩
    .simp(config := { maxSteps:=1000000 }) (disch:=omega)[↓ac,↓aa,rd,hC,p1,p2,p3,p4,p5,p6,hb01,hb6,hb000,p8,p7]
     try omega
    .simp(config := { maxSteps:=1000000 }) (disch:=omega)[↓ac,↓aa,rd,hC,p1,p2,p3,p4,p5,p6,hb01,hb6,hb000,p8,p7]
     try omega
 .exact .inr ⟨8,o_,hC,λ_=>h,bad 8 o_ hC⟩
 .exact .inr ⟨2,o_,hC,λh=>absurd h hr,bad 2 o_ hC⟩
abbrev ge:=@List.tail_drop
structure agq (c:cK):Prop where
 groups:c.info.groups.length<=40
 sects:c.sects.length<=40∧∀l∈c.sects,l.length<=100
 steps:c.steps.length<=40∧∀l∈c.steps,l.length<=200
 tns:c.tns.length<=40∧∀l∈c.tns,l.length<=20∧∀f∈l,f.coefs.length<=100
 lines:c.lines.length<=2000
def au5 (c:cK)(hl:c.sects.length<=40):∀(r:H_) (i:Nat),c.sects.drop i=r->
  ((∀l∈r,l.length<=100)∧(Dn prog).code (.loop iN) ⟨[(1,.ptr 0 0),(3,A_ i)],⟨[(0,.cells c.av)],1⟩⟩=some (.exit 0,⟨[(1,.ptr 0 0)],⟨[(0,.cells c.av)],1⟩⟩))∨
  (Dn prog).code (.loop iN) ⟨[(1,.ptr 0 0),(3,A_ i)],⟨[(0,.cells c.av)],1⟩⟩=some (.ret,⟨[(2,B_ true)],⟨[],1⟩⟩):=by
 intro r
 induction r with
 |nil =>
  intro i hd;have hi:=aY hd;refine .inl ⟨s_,?_⟩;rw[ah ky];simp(maxSteps:=300000) (disch:=omega)[↓aa]
 |cons l r ih =>
  intro i hd;have hg:=kY hd;have hlt:=bw hd;have hd1:c.sects.drop (i+1)=r:=by rw[<-ge,hd];rfl
  have ih1:=ih (i+1) hd1;rw[show((i+1:Nat):Int)=(i:Int)+1 from rfl]at ih1;by_cases hn:l.length<=100
  .rcases ih1 with ⟨ha,e⟩|e
   .refine .inl ⟨λq hq=>?_,?_⟩
    .rcases ay.1 hq with rfl|hq
     .exact hn
     .exact ha q hq
    .rw[ah ky];simp(maxSteps:=300000) (disch:=omega)[↓ac,↓aa,hg,e]
   .refine .inr ?_;rw[ah ky];simp(maxSteps:=300000) (disch:=omega)[↓ac,↓aa,hg,e]
  .refine .inr ?_;rw[ah ky];simp(maxSteps:=300000) (disch:=omega)[↓ac,↓aa,hg]
def atE (c:cK)(hl:c.steps.length<=40):∀(r:J_) (i:Nat),c.steps.drop i=r->
  ((∀l∈r,l.length<=200)∧(Dn prog).code (.loop iK) ⟨[(1,.ptr 0 0),(4,A_ i)],⟨[(0,.cells c.av)],1⟩⟩=some (.exit 2,⟨[(1,.ptr 0 0)],⟨[(0,.cells c.av)],1⟩⟩))∨
  (Dn prog).code (.loop iK) ⟨[(1,.ptr 0 0),(4,A_ i)],⟨[(0,.cells c.av)],1⟩⟩=some (.ret,⟨[(2,B_ true)],⟨[],1⟩⟩):=by
 intro r
 induction r with
 |nil =>
  intro i hd;have hi:=aY hd;refine .inl ⟨s_,?_⟩;rw[ah kH];simp(maxSteps:=300000) (disch:=omega)[↓aa]
 |cons l r ih =>
  intro i hd;have hg:=Gf hd;have hlt:=bw hd;have hd1:c.steps.drop (i+1)=r:=by rw[<-ge,hd];rfl
  have ih1:=ih (i+1) hd1;rw[show((i+1:Nat):Int)=(i:Int)+1 from rfl]at ih1;by_cases hn:l.length<=200
  .rcases ih1 with ⟨ha,e⟩|e
   .refine .inl ⟨λq hq=>?_,?_⟩
    .rcases ay.1 hq with rfl|hq
     .exact hn
     .exact ha q hq
    .rw[ah kH];simp(maxSteps:=300000) (disch:=omega)[↓ac,↓aa,hg,e]
   .refine .inr ?_;rw[ah kH];simp(maxSteps:=300000) (disch:=omega)[↓ac,↓aa,hg,e]
  .refine .inr ?_;rw[ah kH];simp(maxSteps:=300000) (disch:=omega)[↓ac,↓aa,hg]
def auk (c:cK)(w:Nat)(full:AA_)(q:N_)(hw:c.tns.drop w=full::q)(hl:full.length<=20):∀(r:AA_) (i:Nat),full.drop i=r->
  ((∀f∈r,f.coefs.length<=100)∧(Dn prog).code (.loop iM) ⟨[(1,.ptr 0 0),(5,A_ w),(6,A_ i)],⟨[(0,.cells c.av)],1⟩⟩=some (.exit 6,⟨[(1,.ptr 0 0),(5,A_ w)],⟨[(0,.cells c.av)],1⟩⟩))∨
  (Dn prog).code (.loop iM) ⟨[(1,.ptr 0 0),(5,A_ w),(6,A_ i)],⟨[(0,.cells c.av)],1⟩⟩=some (.ret,⟨[(2,B_ true)],⟨[],1⟩⟩):=by
 have hg1:=tQ hw;have hw1:=bw hw;intro r
 induction r with
 |nil =>
  intro i hd;have hi:=aY hd;refine .inl ⟨s_,?_⟩;rw[ah kF];simp(maxSteps:=300000) (disch:=omega)[↓aa,↓ac,hg1]
 |cons l r ih =>
  intro i hd;have hg:=Bf hd;have hlt:=bw hd;have hd1:full.drop (i+1)=r:=by rw[<-ge,hd];rfl
  have ih1:=ih (i+1) hd1;rw[show((i+1:Nat):Int)=(i:Int)+1 from rfl]at ih1;by_cases hn:l.coefs.length<=100
  .rcases ih1 with ⟨ha,e⟩|e
   .refine .inl ⟨λq hq=>?_,?_⟩
    .rcases ay.1 hq with rfl|hq
     .exact hn
     .exact ha q hq
    .rw[ah kF];simp(maxSteps:=300000) (disch:=omega)[↓ac,↓aa,hg,hg1,e]
   .refine .inr ?_;rw[ah kF];simp(maxSteps:=300000) (disch:=omega)[↓ac,↓aa,hg,hg1,e]
  .refine .inr ?_;rw[ah kF];simp(maxSteps:=300000) (disch:=omega)[↓ac,↓aa,hg,hg1]
def avz (c:cK)(hl:c.tns.length<=40):∀(r:N_) (i:Nat),c.tns.drop i=r->
  ((∀l∈r,l.length<=20∧∀f∈l,f.coefs.length<=100)∧(Dn prog).code (.loop iO) ⟨[(1,.ptr 0 0),(5,A_ i)],⟨[(0,.cells c.av)],1⟩⟩=some (.exit 4,⟨[],⟨[],1⟩⟩))∨
  (Dn prog).code (.loop iO) ⟨[(1,.ptr 0 0),(5,A_ i)],⟨[(0,.cells c.av)],1⟩⟩=some (.ret,⟨[(2,B_ true)],⟨[],1⟩⟩):=by
 intro r
 induction r with
 |nil =>
  intro i hd;have hi:=aY hd;refine .inl ⟨s_,?_⟩;rw[ah iR];simp(maxSteps:=300000) (disch:=omega)[↓aa]
 |cons l r ih =>
  intro i hd;have hg:=tQ hd;have hlt:=bw hd;have hd1:c.tns.drop (i+1)=r:=by rw[<-ge,hd];rfl
  have ih1:=ih (i+1) hd1;rw[show((i+1:Nat):Int)=(i:Int)+1 from rfl]at ih1;by_cases hn:l.length<=20
  .rcases auk c i l r hd hn l 0 rfl with ⟨h2,e2⟩|e2
   .rw[show((0:Nat):Int)=0 from rfl]at e2;rcases ih1 with ⟨ha,e⟩|e
    .refine .inl ⟨λq hq=>?_,?_⟩
     .rcases ay.1 hq with rfl|hq
      .exact⟨hn,h2⟩
      .exact ha q hq
     .rw[ah iR];simp(maxSteps:=300000) (disch:=omega)[↓ac,↓aa,hg,e2,e]
    .refine .inr ?_;rw[ah iR];simp(maxSteps:=300000) (disch:=omega)[↓ac,↓aa,hg,e2,e]
   .refine .inr ?_;rw[show((0:Nat):Int)=0 from rfl]at e2;rw[ah iR];simp(maxSteps:=300000) (disch:=omega)[↓ac,↓aa,hg,e2]
  .refine .inr ?_;rw[ah iR];simp(maxSteps:=300000) (disch:=omega)[↓ac,↓aa,hg]
def aDX (c:cK):(agq c∧bj prog sv [.agg c.av]=some (B_ false))∨bj prog sv [.agg c.av]=some (B_ true):=by
 by_cases h1:c.info.groups.length<=40
 rotate_left
 .refine .inr ?_;rw[aE ej ep rfl];simp(maxSteps:=300000) (disch:=omega)[↓ac,↓aa]
 by_cases h2:c.sects.length<=40
 rotate_left
 .refine .inr ?_;rw[aE ej ep rfl];simp(maxSteps:=300000) (disch:=omega)[↓ac,↓aa]
 by_cases h3:c.steps.length<=40
 rotate_left
 .refine .inr ?_;rw[aE ej ep rfl];simp(maxSteps:=300000) (disch:=omega)[↓ac,↓aa]
 by_cases h4:c.tns.length<=40
 rotate_left
 .refine .inr ?_;rw[aE ej ep rfl];simp(maxSteps:=300000) (disch:=omega)[↓ac,↓aa]
 by_cases h5:c.lines.length<=2000
 rotate_left
 .refine .inr ?_;rw[aE ej ep rfl];simp(maxSteps:=300000) (disch:=omega)[↓ac,↓aa]
 rcases au5 c h2 _ 0 rfl with ⟨a0,e0⟩|e0
 rotate_left
 .refine .inr ?_;rw[show((0:Nat):Int)=0 from rfl]at e0;rw[aE ej ep rfl];simp(maxSteps:=300000) (disch:=omega)[↓ac,↓aa,e0]
 rcases atE c h3 _ 0 rfl with ⟨a1,e1⟩|e1
 rotate_left
 .refine .inr ?_;rw[show((0:Nat):Int)=0 from rfl]at e0 e1;rw[aE ej ep rfl];simp(maxSteps:=300000) (disch:=omega)[↓ac,↓aa,e0,e1]
 rcases avz c h4 _ 0 rfl with ⟨a3,e3⟩|e3
 rotate_left
 .refine .inr ?_;rw[show((0:Nat):Int)=0 from rfl]at e0 e1 e3;rw[aE ej ep rfl];simp(maxSteps:=300000) (disch:=omega)[↓ac,↓aa,e0,e1,e3]
 refine .inl ⟨⟨h1,⟨h2,a0⟩,⟨h3,a1⟩,⟨h4,a3⟩,h5⟩,?_⟩;rw[show((0:Nat):Int)=0 from rfl]at e0 e1 e3;rw[aE ej ep rfl];simp(maxSteps:=300000) (disch:=omega)[↓ac,↓aa,e0,e1,e3]
abbrev sT (book:Int):Int:=if book=13 then 511 else 255
def lk (b:C_)(a book was:Int):R Int :=
 if was<0 then (bf b a 9).bind λv n=>.ok (v:Int) n
 else (Kq b a).bind λd n=>if was+d<0∨sT book<was+d then .er 7 else .ok (was+d) n
abbrev aFY (b:C_)(book:Int)(v:Int)(n:Nat):Prop:=(0<=v∧v<=511)∧n<=b.length
def abV {b:C_}{a:Int}{d:Int}{n:Nat}(h:Kq b a=.ok d n):pSt b d n:=by
 rw[Kq]at h
 cases h1:AF 12 b a with
 |er e=>rw[h1]at h;exact absurd h (by simp)
 |ok e m =>
  rw[h1,az]at h;obtain⟨k1,k2⟩:=UH o_ h1;have h2:e<121:=k1;injection h with g1 g2
  subst g1 g2;exact⟨o_,k2⟩
def YS {b:C_}{a book was:Int}{v:Int}{n:Nat}(h:lk b a book was=.ok v n):aFY b book v n:=by
 rw[lk]at h;split at h
 .cases h1:bf b a 9 with
  |er e=>rw[h1]at h;exact absurd h (by simp)
  |ok v0 m =>
   rw[h1,az]at h;have hp:=eC h1;have h2:v0<512:=hp.1;have h3:=hp.2;injection h with g1 g2
   subst g1 g2;exact⟨o_,h3⟩
 .cases h1:Kq b a with
  |er e=>rw[h1]at h;exact absurd h (by simp)
  |ok d m =>
   rw[h1,az]at h;have hp:=abV h1;split at h
   .exact absurd h (by simp)
   .rename_i hn;injection h with g1 g2
    subst g1 g2;refine⟨?_,hp.2⟩;simp only[sT]at hn;split at hn<;>omega
def oT (b:C_):G_->Int->Int->Int->R (G_×Int×Int)
 |[],a,w,z=>.ok ([],w,z) a.toNat
 |k::r,a,w,z=>if k=13 then (lk b a 13 z).bind λv n=>(oT b r n w v).bind λq n=>.ok (v::q.1,q.2) n
  else if 0<k then (lk b a k w).bind λv n=>(oT b r n v z).bind λq n=>.ok (v::q.1,q.2) n
  else (oT b r a w z).bind λq n=>.ok (0::q.1,q.2) n
abbrev inW (w:Int):Prop:=-1<=w∧w<=511
abbrev aG1 (b:C_)(r:G_)(q:G_×Int×Int)(n:Nat):Prop:=q.1.length=r.length∧(inW q.2.1∧inW q.2.2)∧n<=b.length
def Sf {b:C_}:∀{r:G_}{a:Nat}{w z:Int}{q:G_×Int×Int}{n:Nat},a<=b.length->inW w->inW z->oT b r a w z=.ok q n->aG1 b r q n
 |[],a,w,z,q,n,ha,hw,hz,h=>by
  rw[oT]at h;injection h with g1 g2
  subst g1 g2;exact⟨rfl,⟨hw,hz⟩,by simpa using ha⟩
 |k::r,a,w,z,q,n,ha,hw,hz,h=>by
  rw[oT]at h;split at h
  .cases h1:lk b a 13 z with
   |er e=>rw[h1]at h;exact absurd h (by simp)
   |ok v m =>
    rw[h1,az]at h;have hp:=YS h1
    cases h2:oT b r m w v with
    |er e=>rw[h2]at h;exact absurd h (by simp)
    |ok q1 m1 =>
     rw[h2,az]at h;have hq:=Sf hp.2 hw ⟨by have:=hp.1.1;omega,hp.1.2⟩ h2;injection h with g1 g2
     subst g1 g2;exact⟨by simp[hq.1],hq.2⟩
  .split at h
   .cases h1:lk b a k w with
    |er e=>rw[h1]at h;exact absurd h (by simp)
    |ok v m =>
     rw[h1,az]at h;have hp:=YS h1
     cases h2:oT b r m v z with
     |er e=>rw[h2]at h;exact absurd h (by simp)
     |ok q1 m1 =>
      rw[h2,az]at h;have hq:=Sf hp.2 ⟨by have:=hp.1.1;omega,hp.1.2⟩ hz h2;injection h with g1 g2
      subst g1 g2;exact⟨by simp[hq.1],hq.2⟩
   .cases h2:oT b r a w z with
    |er e=>rw[h2]at h;exact absurd h (by simp)
    |ok q1 m1 =>
     rw[h2,az]at h;have hq:=Sf ha hw hz h2;injection h with g1 g2
     subst g1 g2;exact⟨by simp[hq.1],hq.2⟩
def nT (b:C_):H_->Int->Int->Int->R J_
 |[],a,_,_=>.ok [] a.toNat
 |l::r,a,w,z=>(oT b (aM l) a w z).bind λq n=>(nT b r n q.2.1 q.2.2).bind λt n=>.ok (q.1::t) n
abbrev pSc (b:C_)(g:H_)(t:J_)(n:Nat):Prop:=t.map List.length=g.map (λl=>(aM l).length)∧n<=b.length
def XG {b:C_}:∀{g:H_}{a:Nat}{w z:Int}{t:J_}{n:Nat},a<=b.length->inW w->inW z->nT b g a w z=.ok t n->pSc b g t n
 |[],a,w,z,t,n,ha,hw,hz,h=>by
  rw[nT]at h;injection h with g1 g2
  subst g1 g2;exact⟨rfl,by simpa using ha⟩
 |l::r,a,w,z,t,n,ha,hw,hz,h=>by
  rw[nT]at h
  cases h1:oT b (aM l) a w z with
  |er e=>rw[h1]at h;exact absurd h (by simp)
  |ok q m =>
   rw[h1,az]at h;have hp:=Sf ha hw hz h1
   cases h2:nT b r m q.2.1 q.2.2 with
   |er e=>rw[h2]at h;exact absurd h (by simp)
   |ok t1 m1 =>
    rw[h2,az]at h;have hq:=XG hp.2.2 hp.2.1.1 hp.2.1.2 h2;injection h with g1 g2
    subst g1 g2;exact⟨by simp only[ct,hq.1,hp.1],hq.2⟩
def at6 {t:J_}{l:G_}:cZ (t++[l])=cZ t++[[.lst (aH l)]]:=by simp[cZ]
def aoP {l:P_}(hl:l.length<=1000)(hs:∀s∈l,0<=s.len∧s.len<=1000):(aM l).length<=1000*l.length:=by
 induction l with
 |nil=>simp[aM]
 |cons s r ih =>
  have h1:=hs s (.head _);have h2:=ih (by simp at hl;omega) λq hq=>hs q (.tail _ hq)
  simp only[aM,aD,aj,bm,aq]at h2⊢;omega
abbrev agn (l:P_):Prop:=l.length<=1000∧∀s∈l,0<=s.len∧s.len<=1000
def zS (b:C_)(g:H_)(a gain:Int):R J_:=if 0<=a∧a<=b.length then nT b g a gain (-1) else .er 1
structure SG where
 row:G_
 nx:Nat
 w:Int
 z:Int
def Dg {A0 A1 A2 A3:Obj}{R:am}(book n s z:Int)(N:Nat)(hn:-100000<=n∧n<=100000)(hs:-100000<=s∧s<=100000)(hz:-100000<=z∧z<=100000) :
  (Dn prog).call qE [.ptr 4 0,A_ book,A_ n] ⟨(0,A0)::(1,A1)::(2,A2)::(3,A3)::(4,.cells [A_ s,A_ z])::R,N⟩ =
   if ml book n s z then some (B_ true,⟨if book=13 then (0,A0)::(1,A1)::(2,A2)::(3,A3)::(4,.cells [A_ s,A_ n])::R else (0,A0)::(1,A1)::(2,A2)::(3,A3)::(4,.cells [A_ n,A_ z])::R,N⟩) else some (B_ false,⟨(0,A0)::(1,A1)::(2,A2)::(3,A3)::(4,.cells [A_ s,A_ z])::R,N⟩) :=
 P7 (hp:=λs z=>(0,A0)::(1,A1)::(2,A2)::(3,A3)::(4,.cells [A_ s,A_ z])::R) (A:=4) ⟨λs z=>by simp,λs z s' z'=>by simp⟩ book n s z N hn hs hz
section
variable (b:C_)(full:H_)(ss:J_)(l:P_)(i N:Nat)
abbrev agr:aW:=[(4,.ptr 0 0),(8,.ptr 1 0),(9,.ptr 2 0),(10,.ptr 3 0),(11,.ptr 5 0),(14,.ptr N 0),(35,.d (.lst (bF full))),(36,A_ full.length),(37,A_ i),(42,.fn jn [] [.ptr (N+1) 0])]
abbrev FG (q:Bool)(p:BH_)(x1 x2 x3:AV)(row:G_)(w z:Int)(T:am):am :=
 (0,.cells [.d (.lst (ai b))])::(1,.cells [x1])::(2,.cells [x2])::(3,.cells [x3])::(4,.cells [A_ w,A_ z])::(5,.cells [.ptr 4 0])::(N,.cells [aG 1 (aH row)])::(N+1,.cells [.d (.lst (gW l))])::(N+1+1,.loop (agr full i N) [43,44] yw yH q p)::T
abbrev hpG (s:SG)(T:am):am:=FG b full l i N false none (aG 1 (cZ ss)) (A_ s.nx) (A_ 0) s.row s.w s.z T
abbrev hqG (s:Nat×SG)(T:am):am:=FG b full l i N false (some .ret) .nl (A_ 0) (A_ ((s.1:Int)+1)) s.2.row s.2.w s.2.z T
end
def Pa (b:C_)(k:Int)(s:SG):Sum SG (Nat×SG) :=
 if k=13 then (match lk b s.nx 13 s.z with
  |.ok v n=>.inl ⟨s.row++[v],n,s.w,v⟩
  |.er e=>.inr (e,s))
 else if 0<k then (match lk b s.nx k s.w with
  |.ok v n=>.inl ⟨s.row++[v],n,v,s.z⟩
  |.er e=>.inr (e,s))
 else .inl ⟨s.row++[0],s.nx,s.w,s.z⟩
def apP (b:C_)(a:Nat)(s:SG):Prop:=s.nx<=b.length∧(0<=s.w∧s.w<=511)∧inW s.z∧s.row.length=a∧a<=1000000
def aDS (b:C_)(hb:b.length<=1000000000)(full:H_)(ss:J_)(l:P_)(i N:Nat)(hN:6<=N)(a:Nat)(k:Int)(hk:0<=k∧k<=13)(s:SG)(hs:apP b a s)(K M:Nat)(o:Obj)(hK:N+1+1+1<=K) :
  cy (Dn prog) (.yield (N+1+1)) [A_ (a:Int),A_ k] ⟨hpG b full ss l i N s [(K,o)],M⟩ =
  match Pa b k s with
  |.inl s2=>some (B_ true,⟨hpG b full ss l i N s2 [(K,o)],M⟩)
  |.inr z=>some (B_ false,⟨hqG b full l i N z [(K,o)],M⟩):=by
 obtain⟨h1,h2,h3,h4,h5⟩:=hs;obtain⟨n0,n1,n2,n3,n4⟩:(N≠0∧N≠1∧N≠2∧N≠3∧N≠4∧N≠5)∧(N+1≠0∧N+1≠1∧N+1≠2∧N+1≠3∧N+1≠4∧N+1≠5)∧(N+1+1≠0∧N+1+1≠1∧N+1+1≠2∧N+1+1≠3∧N+1+1≠4∧N+1+1≠5)∧N+1+1≠N∧N+1+1≠N+1:=o_;have hrl:=iD (l:=s.row);have eo:∀v,AV.own false 1 (aH (s.row++[v]))=aG 1 (aH (s.row++[v])):=λv=>by rw[aaT];exact oK.symm
 have hS:=aiG b s.nx hb o_;have hG:=ic b s.nx 9 hb o_;have hz0:=h3.1;have hz1:=h3.2;rw[Pa];by_cases e1:k=13
 .subst e1;rw[ac rfl];by_cases hz:s.z<0
  .cases hg:bf b s.nx 9 with
   |ok v n =>
    have hp:=eC hg;have hv:v<512:=hp.1;have hn:=hp.2;rw[hg,eY hp]at hG;have ho:lk b s.nx 13 s.z=.ok (v:Int) n:=by rw[lk,ac hz,hg,az]
    have hT:ml 13 v s.w s.z:=by rw[ml,ac rfl];omega
    rw[ho];simp(maxSteps:=300000) (disch:=omega)[je,iY,↓ac,↓aa,n0,n1,n2,n3,n4,Dg,hG,ac hT];exact eo _
   |er e =>
    rw[hg,iV]at hG;have ho:lk b s.nx 13 s.z=.er e:=by rw[lk,ac hz,hg,cB]
    rw[ho];simp(maxSteps:=300000) (disch:=omega)[je,iY,↓ac,↓aa,n0,n1,n2,n3,n4,Dg,hG]
  .cases hg:Kq b s.nx with
   |ok d n =>
    have hp:=abV hg;have hd:=hp.1;have hn:=hp.2;rw[hg,eY hp]at hS;by_cases hr:s.z+d<0∨sT 13<s.z+d
    .have ho:lk b s.nx 13 s.z=.er 7:=by rw[lk,aa hz,hg,az,ac hr]
     have hT:¬ml 13 (d+s.z) s.w s.z:=by rw[ml,ac rfl];simp only[sT,ac]at hr;omega
     rw[ho];simp(maxSteps:=300000) (disch:=omega)[je,iY,↓ac,↓aa,n0,n1,n2,n3,n4,Dg,hS,aa hT]
    .have ho:lk b s.nx 13 s.z=.ok (s.z+d) n:=by rw[lk,aa hz,hg,az,aa hr]
     have hT:ml 13 (d+s.z) s.w s.z:=by rw[ml,ac rfl];simp only[sT,ac]at hr;omega
     rw[ho,Int.add_comm];simp(maxSteps:=300000) (disch:=omega)[je,iY,↓ac,↓aa,n0,n1,n2,n3,n4,Dg,hS,ac hT];exact eo _
   |er e =>
    rw[hg,iV]at hS;have ho:lk b s.nx 13 s.z=.er e:=by rw[lk,aa hz,hg,cB]
    rw[ho];simp(maxSteps:=300000) (disch:=omega)[je,iY,↓ac,↓aa,n0,n1,n2,n3,n4,Dg,hS]
 .rw[aa e1];by_cases e2:0<k
  .rw[ac e2];have hw:¬s.w<0:=o_
   cases hg:Kq b s.nx with
   |ok d n =>
    have hp:=abV hg;have hd:=hp.1;have hn:=hp.2;rw[hg,eY hp]at hS;by_cases hr:s.w+d<0∨sT k<s.w+d
    .have ho:lk b s.nx k s.w=.er 7:=by rw[lk,aa hw,hg,az,ac hr]
     have hT:¬ml k (d+s.w) s.w s.z:=by rw[ml,aa e1];simp only[sT,aa e1]at hr;omega
     rw[ho];simp(maxSteps:=300000) (disch:=omega)[je,iY,↓ac,↓aa,n0,n1,n2,n3,n4,Dg,hS,aa hT,e1]
    .have ho:lk b s.nx k s.w=.ok (s.w+d) n:=by rw[lk,aa hw,hg,az,aa hr]
     have hT:ml k (d+s.w) s.w s.z:=by rw[ml,aa e1];simp only[sT,aa e1]at hr;omega
     rw[ho,Int.add_comm];simp(maxSteps:=300000) (disch:=omega)[je,iY,↓ac,↓aa,n0,n1,n2,n3,n4,Dg,hS,ac hT,e1];exact eo _
   |er e =>
    rw[hg,iV]at hS;have ho:lk b s.nx k s.w=.er e:=by rw[lk,aa hw,hg,cB]
    rw[ho];simp(maxSteps:=300000) (disch:=omega)[je,iY,↓ac,↓aa,n0,n1,n2,n3,n4,Dg,hS,e1]
  .rw[aa e2];have:k=0:=o_;subst this;simp(maxSteps:=300000) (disch:=omega)[je,iY,↓ac,↓aa,n0,n1,n2,n3,n4,Dg,e1];exact eo _
def axR {b:C_}{a:Nat}{k:Int}{s s2:SG}(hs:apP b a s)(ha:a<1000000)(h:Pa b k s=.inl s2):apP b (a+1) s2:=by
 obtain⟨h1,h2,h3,h4,h5⟩:=hs;have h3':=h3;rw[Pa]at h;split at h
 .split at h
  .rename_i v n ho;have hp:=YS ho;obtain⟨⟨hv1,hv2⟩,hn⟩:=hp;injection h with h;subst h
   exact⟨hn,h2,⟨by simp only[];omega,hv2⟩,by simp[h4],o_⟩
  .exact nomatch h
 .split at h
  .split at h
   .rename_i v n ho;have hp:=YS ho;obtain⟨⟨hv1,hv2⟩,hn⟩:=hp;injection h with h;subst h
    exact⟨hn,⟨hv1,hv2⟩,h3,by simp[h4],o_⟩
   .exact nomatch h
  .injection h with h;subst h
   exact⟨h1,h2,h3,by simp[h4],o_⟩
def UQ {b:C_}:∀{r:G_}{a:Nat}{s:SG},(∀q n,oT b r s.nx s.w s.z=.ok q n->vY (λ_ k s=>Pa b k s) r a s=.inl ⟨s.row++q.1,n,q.2.1,q.2.2⟩)∧(∀e,oT b r s.nx s.w s.z=.er e->∃z,vY (λ_ k s=>Pa b k s) r a s=.inr (e,z))
 |[],a,s=>⟨λq n h=>by
   rw[oT]at h;injection h with g1 g2
   subst g1 g2;rw[vY];simp,λe h=>by rw[oT]at h;exact absurd h s_⟩
 |k::r,a,s=>by
  rw[oT,vY,Pa];by_cases e1:k=13
  .rw[ac e1,ac e1]
   cases ho:lk b s.nx 13 s.z with
   |er e=>exact⟨λq n h=>by rw[cB]at h;exact absurd h s_,λe' h=>by rw[cB]at h;injection h with h;subst h;exact⟨s,rfl⟩⟩
   |ok v n =>
    simp only[az];have ih:=UQ (b:=b) (r:=r) (a:=a+1) (s:=⟨s.row++[v],n,s.w,v⟩)
    cases hr:oT b r n s.w v with
    |er e=>exact⟨λq n h=>by rw[cB]at h;exact absurd h s_,λe' h=>by rw[cB]at h;injection h with h;subst h;exact ih.2 e hr⟩
    |ok q m =>
     refine⟨λq' n' h=>?_,λe h=>by rw[az]at h;exact absurd h s_⟩;rw[az]at h;injection h with g1 g2
     subst g1 g2;rw[ih.1 q m hr];simp
  .rw[aa e1,aa e1];by_cases e2:0<k
   .rw[ac e2,ac e2]
    cases ho:lk b s.nx k s.w with
    |er e=>exact⟨λq n h=>by rw[cB]at h;exact absurd h s_,λe' h=>by rw[cB]at h;injection h with h;subst h;exact⟨s,rfl⟩⟩
    |ok v n =>
     simp only[az];have ih:=UQ (b:=b) (r:=r) (a:=a+1) (s:=⟨s.row++[v],n,v,s.z⟩)
     cases hr:oT b r n v s.z with
     |er e=>exact⟨λq n h=>by rw[cB]at h;exact absurd h s_,λe' h=>by rw[cB]at h;injection h with h;subst h;exact ih.2 e hr⟩
     |ok q m =>
      refine⟨λq' n' h=>?_,λe h=>by rw[az]at h;exact absurd h s_⟩;rw[az]at h;injection h with g1 g2
      subst g1 g2;rw[ih.1 q m hr];simp
   .rw[aa e2,aa e2];have ih:=UQ (b:=b) (r:=r) (a:=a+1) (s:=⟨s.row++[0],s.nx,s.w,s.z⟩)
    cases hr:oT b r s.nx s.w s.z with
    |er e=>exact⟨λq n h=>by rw[cB]at h;exact absurd h s_,λe' h=>by rw[cB]at h;injection h with h;subst h;exact ih.2 e hr⟩
    |ok q m =>
     refine⟨λq' n' h=>?_,λe h=>by rw[az]at h;exact absurd h s_⟩;rw[az]at h;injection h with g1 g2
     subst g1 g2;simp only;rw[ih.1 q m hr];simp
def azr (b:C_)(hb:b.length<=1000000000)(full:H_)(ss:J_)(l:P_)(i N:Nat)(hN:6<=N)(hk:∀k∈aM l,0<=k∧k<=13)(hl:(aM l).length<=1000000) :
  Rnd (hpG b full ss l i N) (hqG b full l i N) (N+1+1+1) (N+1+1) (aM l) (λ_ k s=>Pa b k s) (apP b):=by
 intro a k s K o M hak hi hK hKM;have hal:a<(aM l).length:=(aJ.1 hak).1;have h:=aDS b hb full ss l i N hN a k (hk k (dH hak)) s hi K M o hK
 cases hg:Pa b k s with
 |inl s2 =>
  rw[hg]at h;exact .inl ⟨s2,hg,axR hi o_ hg,h⟩
 |inr z =>
  rw[hg]at h;exact .inr ⟨z,hg,h⟩
def aCL {b:C_}{full:H_}{ss:J_}{l:P_}{i N:Nat}(hN:6<=N):Tl (hpG b full ss l i N) (N+1+1+1):=by
 obtain⟨n0,n1,n2,n3,n4⟩:(N≠0∧N≠1∧N≠2∧N≠3∧N≠4∧N≠5)∧(N+1≠0∧N+1≠1∧N+1≠2∧N+1≠3∧N+1≠4∧N+1≠5)∧(N+1+1≠0∧N+1+1≠1∧N+1+1≠2∧N+1+1≠3∧N+1+1≠4∧N+1+1≠5)∧N+1+1≠N∧N+1+1≠N+1:=o_;constructor
 .intro s K o h;simp(maxSteps:=300000) (disch:=omega)[↓aa]
 .intro s K o o' h;simp(maxSteps:=300000) (disch:=omega)[↓aa]
 .intro s K o h;simp(maxSteps:=300000) (disch:=omega)[↓aa]
 .intro s K o h;simp(maxSteps:=300000) (disch:=omega)[↓aa]
def aDp {b:C_}{full:H_}{l:P_}{i N:Nat}(hN:6<=N):Tl (hqG b full l i N) (N+1+1+1):=by
 obtain⟨n0,n1,n2,n3,n4⟩:(N≠0∧N≠1∧N≠2∧N≠3∧N≠4∧N≠5)∧(N+1≠0∧N+1≠1∧N+1≠2∧N+1≠3∧N+1≠4∧N+1≠5)∧(N+1+1≠0∧N+1+1≠1∧N+1+1≠2∧N+1+1≠3∧N+1+1≠4∧N+1+1≠5)∧N+1+1≠N∧N+1+1≠N+1:=o_;constructor
 .intro s K o h;simp(maxSteps:=300000) (disch:=omega)[↓aa]
 .intro s K o o' h;simp(maxSteps:=300000) (disch:=omega)[↓aa]
 .intro s K o h;simp(maxSteps:=300000) (disch:=omega)[↓aa]
 .intro s K o h;simp(maxSteps:=300000) (disch:=omega)[↓aa]
def Tg (x:D)(A0 A1 A2 A3 A4 A5 A6:Obj)(N:Nat)(hN:6<=N):(Dn prog).call Hq [.d x] ⟨[(0,A0),(1,A1),(2,A2),(3,A3),(4,A4),(5,A5),(N,A6)],N+1⟩=some (.fn jn [] [.ptr (N+1) 0],⟨[(0,A0),(1,A1),(2,A2),(3,A3),(4,A4),(5,A5),(N,A6),(N+1,.cells [.d x])],N+1+1⟩):=by
 rw[Me];simp(maxSteps:=300000) (disch:=omega)[↓aa]
def aoz (l:P_):Prop:=∀k∈aM l,0<=k∧k<=13
abbrev hpL (b:C_)(ss:J_)(nx:Nat)(w z:Int):am:=[(0,.cells [.d (.lst (ai b))]),(1,.cells [aG 1 (cZ ss)]),(2,.cells [A_ nx]),(3,.cells [A_ 0]),(4,.cells [A_ w,A_ z]),(5,.cells [.ptr 4 0])]
def ahq (b:C_)(hb:b.length<=1000000000)(full:H_)(hfl:full.length<=1000):∀(g:H_) (i N:Nat) (ss:J_) (nx:Nat) (w z:Int),full.drop i=g->(∀l∈g,agn l∧aoz l)->nx<=b.length->(0<=w∧w<=511)->inW z->ss.length<=i->6<=N->
  (∀t n,nT b g nx w z=.ok t n->∃M A4,(Dn prog).code (.loop lZ) ⟨[(4,.ptr 0 0),(8,.ptr 1 0),(9,.ptr 2 0),(10,.ptr 3 0),(11,.ptr 5 0),(35,.d (.lst (bF full))),(36,A_ full.length),(37,A_ i)],⟨hpL b ss nx w z,N⟩⟩ =
   some (.exit 0,⟨[(8,.ptr 1 0),(9,.ptr 2 0),(10,.ptr 3 0)],⟨[(1,.cells [aG 1 (cZ (ss++t))]),(2,.cells [A_ n]),(3,.cells [A_ 0]),(4,A4)],M⟩⟩))∧
  (∀e,nT b g nx w z=.er e->∃M I K T,(Dn prog).code (.loop lZ) ⟨[(4,.ptr 0 0),(8,.ptr 1 0),(9,.ptr 2 0),(10,.ptr 3 0),(11,.ptr 5 0),(35,.d (.lst (bF full))),(36,A_ full.length),(37,A_ i)],⟨hpL b ss nx w z,N⟩⟩ =
   some (.ret,⟨agr full I K,⟨(0,.cells [.d (.lst (ai b))])::(1,.cells [.nl])::(2,.cells [A_ 0])::(3,.cells [A_ ((e:Int)+1)])::T,M⟩⟩)):=by
 intro g
 induction g with
 |nil =>
  intro i N ss nx w z hd hok hnx hw hz hss hN;have hk:=aY hd;refine⟨λt n h=>?_,λe h=>by rw[nT]at h;exact absurd h s_⟩;rw[nT]at h;injection h with g1 g2
  subst g1 g2;refine⟨N,.cells [A_ w,A_ z],?_⟩;rw[ah EI];simp(maxSteps:=300000) (disch:=omega)[↓ac,↓aa]
 |cons l r ih =>
  intro i N ss nx w z hd hok hnx hw hz hss hN;have hlt:=bw hd;have hg:=kY hd;obtain⟨hl,hbk⟩:=hok l (.head _);have hbl:=aoP hl.1 hl.2;have hsl:=aqv (t:=ss);obtain⟨n0,n1,n2,n3,n4⟩:(N≠0∧N≠1∧N≠2∧N≠3∧N≠4∧N≠5)∧(N+1≠0∧N+1≠1∧N+1≠2∧N+1≠3∧N+1≠4∧N+1≠5)∧(N+1+1≠0∧N+1+1≠1∧N+1+1≠2∧N+1+1≠3∧N+1+1≠4∧N+1+1≠5)∧N+1+1≠N∧N+1+1≠N+1:=o_;have hB:=acn (p:=N+1) (aCL (b:=b) (full:=full) (ss:=ss) (l:=l) (i:=i) hN) (aDp (b:=b) (full:=full) (l:=l) (i:=i) hN) l (azr b hb full ss l i N hN hbk o_) (λs=>by simp(maxSteps:=300000) (disch:=omega)[↓aa,↓ac]) o_ hl.2 (N+1+1+1) ⟨[],nx,w,z⟩ (al _) ⟨hnx,hw,hz,rfl,o_⟩;have hrow:=UQ (b:=b) (r:=aM l) (a:=0) (s:=⟨[],nx,w,z⟩);have n00:aH []=[]:=rfl;have c1:((i+1:Nat):Int)=(i:Int)+1:=rfl;rw[nT]
  cases hr:oT b (aM l) nx w z with
  |er e =>
   obtain⟨zz,hz2⟩:=hrow.2 e hr;rw[hz2]at hB;refine⟨λt n h=>by rw[cB]at h;exact absurd h s_,λe' h=>?_⟩;rw[cB]at h;injection h with h;subst h;rcases hB with ⟨s2,M,e1,_⟩|⟨q,M,e1,e2,e3⟩
   .exact nomatch e1
   .injection e1 with e1
    subst e1;simp only[hpG,hqG,FG,n00,qZ,agr]at e3;refine⟨M,i,N,[(4,.cells [A_ zz.w,A_ zz.z]),(5,.cells [.ptr 4 0]),(N,.cells [aG 1 (aH zz.row)]),(N+1,.cells [.d (.lst (gW l))])],?_⟩;rw[ah EI];simp(maxSteps:=300000) (disch:=omega)[↓ac,↓aa,hg,n0,n1,n2,n3,n4,Tg,rd,e3]
  |ok q m =>
   have hp:=Sf hnx ⟨o_,o_⟩ hz hr;obtain⟨p1,⟨p2,p3⟩,p4⟩:=hp;have hz2:=hrow.1 q m hr;rw[hz2]at hB;rcases hB with ⟨s2,M,e1,ei,e2,e3⟩|⟨q,M,e1,_⟩
   rotate_left
   .exact nomatch e1
   injection e1 with e1
   subst e1;obtain⟨_,hw2,hz3,_⟩:=ei;simp only[aK]at e3 hw2 hz3;have h5:=ih (i+1) M (ss++[q.1]) m q.2.1 q.2.2 (bt hd) (λx hx=>hok x (.tail _ hx)) p4 hw2 hz3 g_ o_;rw[c1]at h5;simp only[az];have step:(Dn prog).code (.loop lZ) ⟨[(4,.ptr 0 0),(8,.ptr 1 0),(9,.ptr 2 0),(10,.ptr 3 0),(11,.ptr 5 0),(35,.d (.lst (bF full))),(36,A_ full.length),(37,A_ i)],⟨hpL b ss nx w z,N⟩⟩ =
     (Dn prog).code (.loop lZ) ⟨[(4,.ptr 0 0),(8,.ptr 1 0),(9,.ptr 2 0),(10,.ptr 3 0),(11,.ptr 5 0),(35,.d (.lst (bF full))),(36,A_ full.length),(37,A_ ((i:Int)+1))],⟨hpL b (ss++[q.1]) m q.2.1 q.2.2,M⟩⟩:=by
    simp only[hpG,hqG,FG,n00,qZ,agr]at e3;simp only[hpL,at6,oK];rw[ah EI];simp(maxSteps:=300000) (disch:=omega)[↓ac,↓aa,hg,n0,n1,n2,n3,n4,Tg,rd,e3]
   rw[step]
   cases hs:nT b r m q.2.1 q.2.2 with
   |er e =>
    refine⟨λt n h=>by rw[cB]at h;exact absurd h s_,λe' h=>?_⟩;rw[cB]at h;injection h with h
    subst h;exact h5.2 e hs
   |ok t0 m0 =>
    refine⟨λt n h=>?_,λe h=>by rw[az]at h;exact absurd h s_⟩;rw[az]at h;injection h with g1 g2
    subst g1 g2;obtain⟨M2,A4,f⟩:=h5.1 t0 m0 hs;refine⟨M2,A4,?_⟩;rw[f,aA];rfl
def FD {m:Nat}{xs:E_}:share (share (aG m xs))=share (aG m xs):=by cases xs<;>rfl
def al3 {m:Nat}{xs:E_}:firm (share (aG m xs))=share (aG m xs):=by cases xs<;>rfl
def air {m:Nat}{xs:E_}:AV.cells (share (aG m xs))=[share (aG m xs)]:=by cases xs<;>rfl
def II {m:Nat}{xs:E_}:br (share (aG m xs))=true:=by cases xs<;>rfl
def avC {h:am}{m:Nat}{xs:E_}{a b:Int}:ig h (.tup [share (aG m xs),A_ a,A_ b])=some (.tup [share (aG m xs),A_ a,A_ b]):=by cases xs<;>rfl
def arg (b:C_)(hb:b.length<=1000000000)(a gain m:Int)(ha:i64 a)(hg:0<=gain∧gain<=255)(g:H_)(hl:g.length<=8)(hm:0<=m∧m<=40)(hf:fI m g)(hf2:∀l∈g,l.length<=1000)(hok:∀l∈g,agn l∧aoz l):bj prog Wj [.d (.lst (ai b)),A_ a,A_ gain,.d (.lst (bF g))] =
  rK (pSc b g) (zS b g a gain) (λt n=>some (.tup [share (aG 1 (cZ t)),A_ n,A_ 0])) (λe=>some (.tup [.nl,A_ 0,A_ (e+1)])):=by
 have hmay:=aeQ gain m g hg hl hm λl h=>⟨hf l h,hf2 l h⟩
 have hG:=ic b a 0 hb ha;have e0:∀a,bf b a 0=if 0<=a∧a<=b.length then .ok 0 a.toNat else .er 1:=by
  intro a;by_cases h:0<=a∧a<=b.length
  .rw[ac h,bf];simp[h,bin,val]
  .rw[aa h,bf];simp[h]
 rw[aE akr akZ rfl,zS];by_cases h1:0<=a∧a<=b.length
 .obtain⟨A,rfl⟩:=aB h1.1;rw[ac h1];rw[e0,ac h1,eY ⟨k_,o_⟩]at hG;have hL:=ahq b hb g o_ g 0 6 [] A gain (-1) rfl hok o_ ⟨hg.1,o_⟩ ⟨o_,o_⟩ (al _) (al _);have c0:((0:Nat):Int)=0:=rfl;have n0:cZ []=[]:=rfl;simp only[c0,n0,qZ,hpL,aK]at hL;simp only[au]at hG
  cases hs:nT b g A gain (-1) with
  |ok t n =>
   have hp:=XG o_ ⟨o_,o_⟩ ⟨o_,o_⟩ hs;obtain⟨M,A4,f⟩:=hL.1 t n hs;rw[eY hp];simp(maxSteps:=300000) (disch:=omega)[↓ac,↓aa,hmay,hG,f,-aaG,avC,-br,al3,air,II,FD]
  |er e =>
   obtain⟨M,I,K,T,f⟩:=hL.2 e hs;rw[iV];simp(maxSteps:=300000) (disch:=omega)[↓ac,↓aa,hmay,hG,f]
 .rw[aa h1,iV];rw[e0,aa h1,iV]at hG;simp(maxSteps:=300000) (disch:=omega)[↓ac,↓aa,hmay,hG]
abbrev HT (b:C_)(st:RS)(R:am):am:=(0,.cells [.d (.lst (ai b))])::(2,.cells [A_ (ra st)])::(3,.cells [A_ (re st)])::R
def EA (b:C_)(s:Int)(st:RS)(R:am)(N:Nat)(hb:b.length<=1000000000)(ha:st.fit):(Dn prog).call Dj [A_ s,.ptr 3 0,.ptr 0 0,.ptr 2 0] ⟨HT b st R,N⟩ =
  some (A_ (sV b st s),⟨HT b (sN b st s) R,N⟩):=by
 rw[ba ZP YZ rfl];obtain⟨a,e⟩:=st;have hf:i64 a:=ha;by_cases he:e=0
 .subst he;simp(maxSteps:=300000) (disch:=omega)[Ls,ra,re,sV,sN]
 .simp(maxSteps:=300000) (disch:=omega)[ra,re,sV,sN,he]
def Sg (v sz:Nat):Int:=(v:Int)-((v / 2 ^ (sz-1)*2 ^ sz:Nat):Int)
def zm (b:C_)(sz:Nat):Nat->RS->G_
 |0,_=>[]
 |k+1,st=>Sg (sV b st sz) sz::zm b sz k (sN b st sz)
def xi (b:C_)(sz:Nat):Nat->RS->RS
 |0,st=>st
 |k+1,st=>xi b sz k (sN b st sz)
def acN {b:C_}{sz:Nat}(hb:b.length<=1000000000):∀{k:Nat}{st:RS},st.fit->(xi b sz k st).fit
 |0,_,h=>h
 |_+1,_,h=>by rw[xi];exact acN hb (gb hb h)
def adb {b:C_}{sz:Nat}:∀{k:Nat}{st:RS},(zm b sz k st).length=k
 |0,_=>rfl
 |k+1,st=>by rw[zm,aq,adb]
def aFh {q s:Nat}(hq:q<=1)(hs:s<=4):fk .shl (A_ (q:Int)) (A_ (s:Int))=some (.int .i64 ((q*2 ^ s:Nat):Int)):=by
 have h:∀q:Nat,q<=1->∀s:Nat,s<=4->fk .shl (A_ (q:Int)) (A_ (s:Int))=some (.int .i64 ((q*2 ^ s:Nat):Int)):=by
  intro q hq s hs;obtain rfl|rfl:q=0∨q=1:=o_
  all_goals
   obtain rfl|rfl|rfl|rfl|rfl:s=0∨s=1∨s=2∨s=3∨s=4:=o_
   all_goals rfl
 exact h q hq s hs
abbrev TJ:AV:=.fn Dj [] [.ptr 3 0,.ptr 0 0,.ptr 2 0]
def ayn (b:C_)(hb:b.length<=1000000000)(SZ:Obj)(a0 a1 a2 a3 x6 x13:AV)(y12 y15 y32 y33 y46 y47:D)(nar:Int)(sz ord N M:Nat)(hsz:2<=sz∧sz<=4)(ho:ord<=100)(hN:5<=N):∀(k j:Nat) (st:RS) (acc:G_),j+k=ord->acc.length=j->st.fit->
  (Dn prog).code (.loop ub) ⟨[(6,x6),(7,.ptr 2 0),(8,.ptr 3 0),(10,TJ),(11,.ptr 4 0),(12,.d y12),(13,x13),(15,.d y15),(16,.ptr N 0),(17,A_ nar),(18,A_ sz),(32,.d y32),(33,.d y33),(46,.d y46),(47,.d y47),(80,A_ ord),(81,A_ j)],⟨HT b st [(4,SZ),(N,.cells [a0,a1,a2,a3,aG 1 (aH acc)])],M⟩⟩ =
  some (.exit 4,⟨[(6,x6),(7,.ptr 2 0),(8,.ptr 3 0),(10,TJ),(11,.ptr 4 0),(12,.d y12),(13,x13),(15,.d y15),(16,.ptr N 0),(17,A_ nar),(18,A_ sz),(32,.d y32),(33,.d y33),(46,.d y46),(47,.d y47)],⟨HT b (xi b sz k st) [(4,SZ),(N,.cells [a0,a1,a2,a3,aG 1 (aH (acc++zm b sz k st))])],M⟩⟩):=by
 obtain⟨n0,n2,n3,n4⟩:N≠0∧N≠2∧N≠3∧N≠4:=o_;intro k
 induction k with
 |zero =>
  intro j st acc h1 h2 h3;rw[ah JX,zm,xi,bi];simp(maxSteps:=300000) (disch:=omega)[↓ac,↓aa]
 |succ k ih =>
  intro j st acc h1 h2 h3;have hg:=EA b sz st [(4,SZ),(N,.cells [a0,a1,a2,a3,aG 1 (aH acc)])] M hb h3;have hv:=ww (b:=b) (st:=st) (s:=sz);have h5:=ih (j+1) (sN b st sz) (acc++[Sg (sV b st sz) sz]) o_ g_ (gb hb h3);have c1:((j+1:Nat):Int)=(j:Int)+1:=rfl;have c2:((sz-1:Nat):Int)=(sz:Int)-1:=o_;have hla:=iD (l:=acc);simp only[au]at hv;have hp:2 ^ (sz-1)*2=2 ^ sz:=by rw[<-dg];congr 1;omega
  have hp0:=bT (sz-1);have hq:sV b st sz / 2 ^ (sz-1)<=1:=by
   have:sV b st sz / 2 ^ (sz-1)<2:=(Nat.div_lt_iff_lt_mul hp0).2 o_;omega
  have hp4:2 ^ sz<=2 ^ 4:=aw o_ hsz.2;have w1:=aoT (n:=sV b st sz) (k:=sz-1) o_;have w2:=aFh hq hsz.2;rw[c2]at w1;have hcf:Sg (sV b st sz) sz=(sV b st sz:Int)-((sV b st sz / 2 ^ (sz-1)*2 ^ sz:Nat):Int):=rfl;have hqq:sV b st sz / 2 ^ (sz-1)*2 ^ sz<=16:=by
   have:=qV hq hp4;omega
  rw[c1,aA,aaT,oK]at h5;simp only[HT]at hg h5⊢;rw[ah JX,zm,xi,show acc++Sg (sV b st sz) sz::zm b sz k (sN b st sz)=acc++([Sg (sV b st sz) sz]++zm b sz k (sN b st sz)) from rfl,<-h5,hcf];clear h5 ih;generalize sV b st sz / 2 ^ (sz-1)*2 ^ sz=Q2 at *;generalize sV b st sz / 2 ^ (sz-1)=Q at *;simp(maxSteps:=300000) (disch:=omega)[↓ac,↓aa,n0,n2,n3,n4,hg,-lN,-sP,w1,w2]
def KJ (l:G_)(s:Nat):Bool:=decide (∀c∈l,-((2 ^ (s-1):Nat):Int)<=c∧c<((2 ^ (s-1):Nat):Int))
def sM (b:C_)(x1 x2:Nat)(st:RS):Nat:=sV b (sN b st x1) x2
def zQ (b:C_)(x1 x2:Nat)(st:RS):RS:=sN b (sN b st x1) x2
def flD (b:C_)(x1 x2:Nat)(st:RS):Nat:=sV b (zQ b x1 x2 st) 1
def H8 (b:C_)(x1 x2:Nat)(st:RS):Nat:=sV b (sN b (zQ b x1 x2 st) 1) 1
def Ru (b:C_)(x1 x2:Nat)(st:RS):RS:=sN b (sN b (zQ b x1 x2 st) 1) 1
def IT (b:C_)(x1 x2:Nat)(fine:Bool)(st:RS):Nat:=fM fine-H8 b x1 x2 st
def NA (b:C_)(x1 x2:Nat)(fine:Bool)(st:RS):bZ :=
 if sM b x1 x2 st=0 then ⟨sV b st x1,0,false,fine,[]⟩
 else ⟨sV b st x1,sM b x1 x2 st,decide (flD b x1 x2 st=1),fine,zm b (IT b x1 x2 fine st) (sM b x1 x2 st) (Ru b x1 x2 st)⟩
def KD (b:C_)(x1 x2:Nat)(fine:Bool)(st:RS):Bool :=
 if sM b x1 x2 st=0 then false else decide (H8 b x1 x2 st=0) && KJ (zm b (IT b x1 x2 fine st) (sM b x1 x2 st) (Ru b x1 x2 st)) (IT b x1 x2 fine st-1)
def zk (b:C_)(x1 x2:Nat)(fine:Bool)(st:RS):RS :=
 if sM b x1 x2 st=0 then zQ b x1 x2 st else xi b (IT b x1 x2 fine st) (sM b x1 x2 st) (Ru b x1 x2 st)
def jB (b:C_)(x1 x2:Nat)(fine:Bool):Nat->Bool->RS->Option (AA_×Bool×RS)
 |0,o,st=>some ([],o,st)
 |k+1,o,st=>if 12<sM b x1 x2 st∧(zQ b x1 x2 st).e=0 then none
  else match jB b x1 x2 fine k (o ||KD b x1 x2 fine st) (zk b x1 x2 fine st) with
   |none=>none
   |some q=>some (NA b x1 x2 fine st::q.1,q.2)
def awJ {b:C_}{x1 x2:Nat}{fine:Bool}{st:RS}(hb:b.length<=1000000000)(h:st.fit):(zk b x1 x2 fine st).fit:=by
 unfold zk;split
 .exact gb hb (gb hb h)
 .exact acN hb (gb hb (gb hb (gb hb (gb hb h))))
def aBx {b:C_}{st:RS}{s:Int}(h:sV b st s≠0):(sN b st s).e=0:=by
 unfold sV at h
 grind [sN,vO,eO]
abbrev WX (y0 y3 y4:AV)(x1 x2:Nat):Obj:=.cells [y0,A_ x1,A_ x2,y3,y4]
def aeb {t:AA_}{f:bZ}:eU (t++[f])=eU t++[[.int .i64 f.len,.int .i64 f.order,.bool f.down,.bool f.fine,.lst (aH f.coefs)]]:=by grind [eU]
def awL (b:C_)(hb:b.length<=1000000000)(y0 y3 y4:AV)(x1 x2:Nat)(hx:x1<=6∧x2<=5)(x6:AV)(fine:Bool)(y32 y33:D)(many:Nat)(hm:many<=3):∀(k j N:Nat) (o:Bool) (st:RS) (acc:AA_),j+k=many->acc.length=j->st.fit->5<=N->
  ∃M,N<=M∧(Dn prog).code (.loop iH) ⟨[(6,x6),(7,.ptr 2 0),(8,.ptr 3 0),(10,TJ),(11,.ptr 4 0),(12,B_ o),(13,aG 5 (eU acc)),(15,B_ fine),(32,.d y32),(33,.d y33),(46,A_ many),(47,A_ j)],⟨HT b st [(4,WX y0 y3 y4 x1 x2)],N⟩⟩ =
  match jB b x1 x2 fine k o st with
  |none=>some (.ret,⟨[(6,.nl),(7,.ptr 2 0),(8,.ptr 3 0)],⟨[(0,.cells [.d (.lst (ai b))]),(2,.cells [A_ 0]),(3,.cells [A_ 8])],M⟩⟩)
  |some (l,o2,st2)=>some (.exit 2,⟨[(6,x6),(7,.ptr 2 0),(8,.ptr 3 0),(10,TJ),(11,.ptr 4 0),(12,B_ o2),(13,aG 5 (eU (acc++l))),(32,.d y32),(33,.d y33)],⟨HT b st2 [(4,WX y0 y3 y4 x1 x2)],M⟩⟩):=by
 intro k
 induction k with
 |zero =>
  intro j N o st acc h1 h2 h3 hN;refine⟨N,al _,?_⟩;rw[ah uL,jB];simp only[bi];simp(disch:=omega)[↓aa]
 |succ k ih =>
  intro j N o st acc h1 h2 h3 hN;obtain⟨n0,n2,n3,n4⟩:N≠0∧N≠2∧N≠3∧N≠4:=o_;have f1:=gb (s:=x1) hb h3;have f2:=gb (s:=x2) hb f1;have f3:=gb (s:=1) hb f2;have f4:=gb (s:=1) hb f3;have g1:=λR N=>EA b x1 st R N hb h3
  have g2:=λR N=>EA b x2 (sN b st x1) R N hb f1
  have g3:=λR N=>EA b 1 (sN b (sN b st x1) x2) R N hb f2
  have g4:=λR N=>EA b 1 (sN b (sN b (sN b st x1) x2) 1) R N hb f3
  have v1:=ww (b:=b) (st:=st) (s:=x1);have v2:=ww (b:=b) (st:=sN b st x1) (s:=x2);have v3:=ww (b:=b) (st:=sN b (sN b st x1) x2) (s:=1);have v4:=ww (b:=b) (st:=sN b (sN b (sN b st x1) x2) 1) (s:=1);have k1:2 ^ x1<=2 ^ 6:=aw o_ hx.1;have k2:2 ^ x2<=2 ^ 5:=aw o_ hx.2;have t1:(1:Int).toNat=1:=rfl;simp only[au,t1]at v1 v2 v3 v4;have hO:sM b x1 x2 st=sV b (sN b st x1) x2:=rfl;have hS:zQ b x1 x2 st=sN b (sN b st x1) x2:=rfl;have c1:((j+1:Nat):Int)=(j:Int)+1:=rfl;have hla:=auS (l:=acc);rw[jB,hO,hS];simp only[HT]at g1 g2 g3 g4;by_cases hbad:12<sV b (sN b st x1) x2∧(sN b (sN b st x1) x2).e=0
  .rw[ac hbad];obtain⟨hb1,hb2⟩:=hbad;have hre:re (sN b (sN b st x1) x2)=0:=hb2;refine⟨N+1,o_,?_⟩;simp only[HT];rw[ah uL];simp(disch:=omega)[↓ac,↓aa,g1,g2,hre]
  .rw[aa hbad];by_cases hO0:sV b (sN b st x1) x2=0
   .have eF:NA b x1 x2 fine st=⟨sV b st x1,0,false,fine,[]⟩:=by grind [NA]
    have eX:KD b x1 x2 fine st=false:=by grind [KD]
    have eN:zk b x1 x2 fine st=sN b (sN b st x1) x2:=by grind [zk]
    rw[eF,eX,eN,rL];obtain⟨M,hM,h5⟩:=ih (j+1) (N+1) o (sN b (sN b st x1) x2) (acc++[⟨sV b st x1,0,false,fine,[]⟩]) o_ u_ f2 o_;refine⟨M,o_,?_⟩;have key:(Dn prog).code (.loop iH) ⟨[(6,x6),(7,.ptr 2 0),(8,.ptr 3 0),(10,TJ),(11,.ptr 4 0),(12,B_ o),(13,aG 5 (eU acc)),(15,B_ fine),(32,.d y32),(33,.d y33),(46,A_ many),(47,A_ j)],⟨HT b st [(4,WX y0 y3 y4 x1 x2)],N⟩⟩ =
      (Dn prog).code (.loop iH) ⟨[(6,x6),(7,.ptr 2 0),(8,.ptr 3 0),(10,TJ),(11,.ptr 4 0),(12,B_ o),(13,aG 5 (eU (acc++[⟨sV b st x1,0,false,fine,[]⟩]))),(15,B_ fine),(32,.d y32),(33,.d y33),(46,A_ many),(47,A_ ((j+1:Nat):Int))],⟨HT b (sN b (sN b st x1) x2) [(4,WX y0 y3 y4 x1 x2)],N+1⟩⟩:=by
     have n00:aH []=[]:=rfl;simp only[HT,c1,aeb,oK,n00];clear h5 ih;rw[ah uL];simp(disch:=omega)[↓ac,↓aa,g1,g2,hO0]
    grind
   .have he:(sN b (sN b st x1) x2).e=0:=aBx hO0;have hO12:sV b (sN b st x1) x2<=12:=by
     omega
    have hre:re (sN b (sN b st x1) x2)=0:=he;have hw4:3<=fM fine∧fM fine<=4:=by grind [fM]
    have hwide:bj prog Fs [B_ fine]=some (A_ ((fM fine:Nat):Int)):=by grind [Kc,fM]
    obtain⟨W,hW⟩:∃W,W=sV b (sN b (sN b (sN b st x1) x2) 1) 1:=⟨_,rfl⟩
    obtain⟨Dd,hDd⟩:∃Dd,Dd=sV b (sN b (sN b st x1) x2) 1:=⟨_,rfl⟩
    obtain⟨T4,hT4⟩:∃T4,T4=sN b (sN b (sN b (sN b st x1) x2) 1) 1:=⟨_,rfl⟩
    obtain⟨sz,hsz⟩:∃sz,sz=fM fine-W:=⟨_,rfl⟩
    rw[<-hW]at v4 g4;rw[<-hDd]at v3 g3;rw[<-hT4]at g4 f4;have c00:((0:Nat):Int)=0:=rfl;simp only[hre,c00]at g3;have hszI:((fM fine:Nat):Int)-(W:Int)=(sz:Int):=o_;have hsz1:(sz:Int)-1=((sz-1:Nat):Int):=o_;have hne:sM b x1 x2 st≠0:=o_;have eF:NA b x1 x2 fine st=⟨sV b st x1,sV b (sN b st x1) x2,decide (Dd=1),fine,zm b sz (sV b (sN b st x1) x2) T4⟩:=by
     grind [NA,IT,H8,Ru,flD]
    have eX:KD b x1 x2 fine st=(decide (W=0) && KJ (zm b sz (sV b (sN b st x1) x2) T4) (sz-1)):=by
     grind [KD,IT,H8,Ru]
    have eN:zk b x1 x2 fine st=xi b sz (sV b (sN b st x1) x2) T4:=by
     grind [zk,IT,H8,Ru]
    have f5:(xi b sz (sV b (sN b st x1) x2) T4).fit:=acN hb f4;have hcl:=adb (b:=b) (sz:=sz) (k:=sV b (sN b st x1) x2) (st:=T4);have hL0:=λa0 a2 y46 y47 N M hN=>ayn b hb (WX y0 y3 y4 x1 x2) a0 (A_ (sV b (sN b st x1) x2)) a2 (B_ fine) x6 (aG 5 (eU acc)) (.bool o) (.bool fine) y32 y33 y46 y47 W sz (sV b (sN b st x1) x2) N M o_ o_ hN (sV b (sN b st x1) x2) 0 T4 [] o_ rfl f4
    have n00:aH []=[]:=rfl;have c0:((0:Nat):Int)=0:=rfl;simp only[n00,qZ,aK,c0,HT]at hL0;have hDec:decide ((Dd:Int)=1)=decide (Dd=1):=d_;rw[eF,eX,eN];generalize sV b (sN b st x1) x2=O at *;obtain⟨CS,hCS⟩:∃CS,CS=zm b sz O T4:=⟨_,rfl⟩
    rw[<-hCS]at hL0 hcl;rw[<-hCS];obtain⟨M,hM,h5⟩:=ih (j+1) (N+1) (o ||(decide (W=0) && KJ CS (sz-1))) (xi b sz O T4) (acc++[⟨sV b st x1,O,decide (Dd=1),fine,CS⟩]) o_ u_ f5 o_;refine⟨M,o_,?_⟩;have hshare:share (aG 1 (aH CS))=.d (.lst (aH CS)):=by
     cases CS with
     |nil=>grind
     |cons x r=>rfl
    have key:(Dn prog).code (.loop iH) ⟨[(6,x6),(7,.ptr 2 0),(8,.ptr 3 0),(10,TJ),(11,.ptr 4 0),(12,B_ o),(13,aG 5 (eU acc)),(15,B_ fine),(32,.d y32),(33,.d y33),(46,A_ many),(47,A_ j)],⟨HT b st [(4,WX y0 y3 y4 x1 x2)],N⟩⟩ =
      (Dn prog).code (.loop iH) ⟨[(6,x6),(7,.ptr 2 0),(8,.ptr 3 0),(10,TJ),(11,.ptr 4 0),(12,B_ ((o ||(decide (W=0) && KJ CS (sz-1))))),(13,aG 5 (eU (acc++[⟨sV b st x1,O,decide (Dd=1),fine,CS⟩]))),(15,B_ fine),(32,.d y32),(33,.d y33),(46,A_ many),(47,A_ ((j+1:Nat):Int))],⟨HT b (xi b sz O T4) [(4,WX y0 y3 y4 x1 x2)],N+1⟩⟩:=by
     simp only[HT,c1,aeb,oK];clear h5 ih;have hfit:=Mu CS o_ (sz-1) o_;have hfit2:bj prog GN [.d (.lst (aH CS)),A_ ((sz-1:Nat):Int)]=some (B_ (KJ CS (sz-1))):=hfit;rw[ah uL];obtain⟨B1,hB1⟩:∃B1,B1=decide (Dd=1):=⟨_,rfl⟩
     rw[<-hB1]
     cases o with
     |true =>
      by_cases hD1:Dd=1
      .rw[hB1,decide_eq_true hD1];simp(disch:=omega)[↓ac,↓aa,g1,g2,g3,g4,hre,hwide,hszI,hL0]
      .rw[hB1,decide_eq_false hD1];simp(disch:=omega)[↓ac,↓aa,g1,g2,g3,g4,hre,hwide,hszI,hL0]
     |false =>
      by_cases hW0:W=0
      .rw[decide_eq_true hW0];by_cases hD1:Dd=1
       .rw[hB1,decide_eq_true hD1];simp(disch:=omega)[↓ac,↓aa,g1,g2,g3,g4,hre,hwide,hszI,hL0,hshare,hsz1,hfit2]
       .rw[hB1,decide_eq_false hD1];simp(disch:=omega)[↓ac,↓aa,g1,g2,g3,g4,hre,hwide,hszI,hL0,hshare,hsz1,hfit2]
      .rw[decide_eq_false hW0];by_cases hD1:Dd=1
       .rw[hB1,decide_eq_true hD1];simp(disch:=omega)[↓ac,↓aa,g1,g2,g3,g4,hre,hwide,hszI,hL0]
       .rw[hB1,decide_eq_false hD1];simp(disch:=omega)[↓ac,↓aa,g1,g2,g3,g4,hre,hwide,hszI,hL0]
    grind
abbrev nP:=@Bool.true_and
def TS (b:C_)(x0:Nat)(st:RS):Bool:=decide (0<sV b st x0) && decide (sV b (sN b st x0) 1=1)
def D4 (b:C_)(x0:Nat)(st:RS):RS:=if 0<sV b st x0 then sN b (sN b st x0) 1 else sN b st x0
def qb (b:C_)(x0 x1 x2:Nat):Nat->Bool->RS->Option (N_×Bool×RS)
 |0,o,st=>some ([],o,st)
 |k+1,o,st=>match jB b x1 x2 (TS b x0 st) (sV b st x0) o (D4 b x0 st) with
  |none=>none
  |some q=>match qb b x0 x1 x2 k q.2.1 q.2.2 with
   |none=>none
   |some w=>some (q.1::w.1,w.2)
def anT {t:N_}{l:AA_}:cT (t++[l])=cT t++[[.lst (eU l)]]:=by simp[cT]
def am4 {b:C_}{x0:Nat}{st:RS}(hb:b.length<=1000000000)(h:st.fit):(D4 b x0 st).fit:=by
 unfold D4;split
 .exact gb hb (gb hb h)
 .exact gb hb h
def Yl {b:C_}{x1 x2:Nat}{fine:Bool}(hb:b.length<=1000000000):∀{k:Nat}{o:Bool}{st:RS}{l:AA_}{o2:Bool}{st2:RS},st.fit->jB b x1 x2 fine k o st=some (l,o2,st2)->st2.fit∧l.length=k
 |0,o,st,l,o2,st2,h,e=>by
  rw[jB]at e;injection e with e
  injection e with e1 e
  injection e with e2 e3
  subst e1 e3;exact⟨h,rfl⟩
 |k+1,o,st,l,o2,st2,h,e=>by
  rw[jB]at e;split at e
  .exact absurd e (by simp)
  .cases hq:jB b x1 x2 fine k (o ||KD b x1 x2 fine st) (zk b x1 x2 fine st) with
   |none=>rw[hq]at e;exact absurd e (by simp)
   |some q =>
    obtain⟨q1,q2,q3⟩:=q;rw[hq]at e;injection e with e;injection e with e1 e
    injection e with e2 e3
    obtain⟨i1,i2⟩:=Yl hb (awJ hb h) hq;subst e1 e3;exact⟨i1,by simp[i2]⟩
def axd (b:C_)(hb:b.length<=1000000000)(y3 y4:AV)(x0 x1 x2:Nat)(hx:x0<=2∧x1<=6∧x2<=5)(many:Nat)(hm:many<=8):∀(k j N:Nat) (o:Bool) (st:RS) (acc:N_),j+k=many->acc.length=j->st.fit->5<=N->
  ∃M,N<=M∧(Dn prog).code (.loop lS) ⟨[(6,aG 1 (cT acc)),(7,.ptr 2 0),(8,.ptr 3 0),(10,TJ),(11,.ptr 4 0),(12,B_ o),(32,A_ many),(33,A_ j)],⟨HT b st [(4,WX (A_ x0) y3 y4 x1 x2)],N⟩⟩ =
  match qb b x0 x1 x2 k o st with
  |none=>some (.ret,⟨[(6,.nl),(7,.ptr 2 0),(8,.ptr 3 0)],⟨[(0,.cells [.d (.lst (ai b))]),(2,.cells [A_ 0]),(3,.cells [A_ 8])],M⟩⟩)
  |some (t,o2,st2)=>some (.exit 0,⟨[(6,aG 1 (cT (acc++t))),(7,.ptr 2 0),(8,.ptr 3 0),(12,B_ o2)],⟨HT b st2 [],M⟩⟩):=by
 intro k
 induction k with
 |zero =>
  intro j N o st acc h1 h2 h3 hN;refine⟨N,al _,?_⟩;rw[ah Be,qb];simp only[bi];simp(maxSteps:=300000) (disch:=omega)[↓ac,↓aa]
 |succ k ih =>
  intro j N o st acc h1 h2 h3 hN;have f1:=gb (s:=x0) hb h3;have g1:=λR N=>EA b x0 st R N hb h3
  have g2:=λR N=>EA b 1 (sN b st x0) R N hb f1
  have v1:=ww (b:=b) (st:=st) (s:=x0);have v2:=ww (b:=b) (st:=sN b st x0) (s:=1);have k1:2 ^ x0<=2 ^ 2:=aw o_ hx.1;have t1:(1:Int).toNat=1:=rfl;simp only[au,t1]at v1 v2;have c1:((j+1:Nat):Int)=(j:Int)+1:=rfl;have c0:((0:Nat):Int)=0:=rfl;have n00:eU []=[]:=rfl;have hla:=aeP (t:=acc);have hfs:=am4 (x0:=x0) hb h3;obtain⟨M1,hM1,hL1⟩:=awL b hb (A_ x0) y3 y4 x1 x2 hx.2 (aG 1 (cT acc)) (TS b x0 st) (.int .i64 many) (.int .i64 j) (sV b st x0) o_ (sV b st x0) 0 N o (D4 b x0 st) [] o_ rfl hfs hN;have hF:TS b x0 st=(decide (0<sV b st x0) && decide (sV b (sN b st x0) 1=1)):=rfl;have hS:D4 b x0 st=if 0<sV b st x0 then sN b (sN b st x0) 1 else sN b st x0:=rfl
  rw[qb];simp only[HT,c0,n00,qZ,aK]at g1 g2 hL1
  cases hfl:jB b x1 x2 (TS b x0 st) (sV b st x0) o (D4 b x0 st) with
  |none =>
   rw[hfl]at hL1;refine⟨M1,hM1,?_⟩;simp only[HT];rw[ah Be];rw[hF,hS]at hL1;by_cases hp:0<sV b st x0
   .rw[ac hp,decide_eq_true hp,nP]at hL1;by_cases hd:sV b (sN b st x0) 1=1
    .rw[decide_eq_true hd]at hL1;simp(maxSteps:=300000) (disch:=omega)[↓ac,↓aa,g1,g2,hL1]
    .rw[decide_eq_false hd]at hL1;simp(maxSteps:=300000) (disch:=omega)[↓ac,↓aa,g1,g2,hL1]
   .have h0:sV b st x0=0:=o_;rw[aa hp,decide_eq_false hp,Bool.false_and,h0,c0]at hL1;simp(maxSteps:=300000) (disch:=omega)[↓ac,↓aa,g1,g2,h0,hL1]
  |some q =>
   obtain⟨l,o2,st2⟩:=q;rw[hfl]at hL1;obtain⟨i1,i2⟩:=Yl hb hfs hfl;obtain⟨M,hM,h5⟩:=ih (j+1) M1 o2 st2 (acc++[l]) o_ g_ i1 o_;refine⟨M,o_,?_⟩;have key:(Dn prog).code (.loop lS) ⟨[(6,aG 1 (cT acc)),(7,.ptr 2 0),(8,.ptr 3 0),(10,TJ),(11,.ptr 4 0),(12,B_ o),(32,A_ many),(33,A_ j)],⟨HT b st [(4,WX (A_ x0) y3 y4 x1 x2)],N⟩⟩ =
     (Dn prog).code (.loop lS) ⟨[(6,aG 1 (cT (acc++[l]))),(7,.ptr 2 0),(8,.ptr 3 0),(10,TJ),(11,.ptr 4 0),(12,B_ o2),(32,A_ many),(33,A_ ((j+1:Nat):Int))],⟨HT b st2 [(4,WX (A_ x0) y3 y4 x1 x2)],M1⟩⟩:=by
    simp only[HT,c1,anT,oK];clear h5 ih;rw[hF,hS]at hL1;rw[ah Be];by_cases hp:0<sV b st x0
    .rw[ac hp,decide_eq_true hp,nP]at hL1;by_cases hd:sV b (sN b st x0) 1=1
     .rw[decide_eq_true hd]at hL1;simp(maxSteps:=300000) (disch:=omega)[↓ac,↓aa,g1,g2,hL1]
     .rw[decide_eq_false hd]at hL1;simp(maxSteps:=300000) (disch:=omega)[↓ac,↓aa,g1,g2,hL1]
    .have h0:sV b st x0=0:=o_;rw[aa hp,decide_eq_false hp,Bool.false_and,h0,c0]at hL1;simp(maxSteps:=300000) (disch:=omega)[↓ac,↓aa,g1,g2,h0,hL1]
   rw[key,h5];simp only
   cases qb b x0 x1 x2 k o2 st2 with
   |none=>rfl
   |some w =>
    obtain⟨t,o3,st3⟩:=w;simp only[aA,aQ,aK]
attribute [simp ↓ high] at1 ayR
def roC:AV->Bool
 |.d _=>true
 |.nl=>true
 |.own _ _ _=>true
 |_=>false
@[simp] def aJY {x:D}:roC (.d x)=true:=rfl
abbrev dc:=@List.eq_of_mem_replicate
def ajP:∀(b:C_),vQ (ai b)=some (b.map Nat.toUInt8)
 |[]=>rfl
 |n::r=>by
  have h:ai (n::r)=[.int .u8 (.ofNat n)]::ai r:=rfl;rw[h,vQ,ajP r,ct]
@[simp] def Zq {h:am}{b:C_}:Nc h (.d (.lst (ai b)))=some (.str (b.map Nat.toUInt8)):=by
 simp only[Nc,arH,ajP]
def c0:cK:=⟨0,⟨0,0,0,[1]⟩,[[]],[[]],[[]],List.replicate 256 0⟩
def aso:c0.Fit where
 gain:=k_
 info:=⟨k_,k_,k_,k_,by intro n hn;simp[c0]at hn;subst hn;decide⟩
 sects:=⟨by simp[c0],by simp[c0]⟩
 secI:=by simp[c0]
 steps:=⟨by simp[c0],by simp[c0]⟩
 stepI:=by simp[c0]
 tns:=⟨by simp[c0],by simp[c0]⟩
 fltI:=by simp[c0]
 lines:=by simp[c0]
 lineI:=by
  intro n hn;have:=dc hn;omega
def ajU:bj prog jD [A_ 0,.agg c0.av]=some (A_ 0):=BX 400 (by kernel_rfl)
def ahB {r:Nat}{c:cK}(hc:c.Fit)(h:nC r c)(hR:r<=11)(q:Bool):(Dq r c q).length<=170000000:=by
 have hm11:=gy hR h.info;have hmx:=jW hm11;obtain⟨g1,g2⟩:=dV hm11;have hmm:c.info.many<=8:=by unfold aN.many;split<;>omega
 have hgl:c.info.groups.length<=8:=by have:=nf (λn hn=>(g1 n hn).1);omega
 have hgs:c.sects.length<=8:=by have:=h.sects.1;omega
 have k1:=K0 (i:=c.info);have k2:=ael hm11 h.sects;have k3:=TC hmx h.sects.2 h.steps;have k4:(jx c.info.short c.tns).length<=1000*c.tns.length:=IN λl hl=>adf (h.tns.2 l hl)
 have k5:=abp hc h hR;have htl:=h.tns.1;have e1:(if q then [] else ln c.info).length<=20:=by split<;>(try simp only[bg])<;>omega
 have e2:(if pf c.tns then 0::1::(jx c.info.short c.tns++[0]) else [0,0,0]).length<=10000:=by split<;>simp<;>omega
 unfold Dq;simp only[aj,df];omega
abbrev cK.cells (c:cK):W_:=[.int .i64 c.gain,.int .u8 c.info.seq,.int .u8 c.info.shape,.int .i64 c.info.max,.lst (aH c.info.groups),.lst (bF c.sects),.lst (cZ c.steps),.lst (cT c.tns),.lst (aH c.lines)]
def dP (l:AH_):E_:=l.map cK.cells
@[simp] def EX {l:AH_}:(dP l).length=l.length:=by simp[dP]
def AQ {g:AH_}{i:Nat}{c:cK}{r:AH_}(h:g.drop i=c::r):(dP g)[i]?=some [.int .i64 c.gain,.int .u8 c.info.seq,.int .u8 c.info.shape,.int .i64 c.info.max,.lst (aH c.info.groups),.lst (bF c.sects),.lst (cZ c.steps),.lst (cT c.tns),.lst (aH c.lines)]:=by
 have:=aV (λl=>l[0]?) h;simp only[ca,dY,b8]at this;rw[dP,b7,this];rfl
def aqb {g:AH_}{c:cK}:dP (g++[c])=dP g++[[.int .i64 c.gain,.int .u8 c.info.seq,.int .u8 c.info.shape,.int .i64 c.info.max,.lst (aH c.info.groups),.lst (bF c.sects),.lst (cZ c.steps),.lst (cT c.tns),.lst (aH c.lines)]]:=by simp[dP]
def gS (l:U_):E_:=l.map λb=>[.bool b]
@[simp] def sS {l:U_}:(gS l).length=l.length:=by simp[gS]
def amV {g:U_}{i:Nat}{c:Bool}{r:U_}(h:g.drop i=c::r):(gS g)[i]?=some [.bool c]:=by
 have:=aV (λl=>l[0]?) h;simp only[ca,dY,b8]at this;rw[gS,b7,this];rfl
@[simp] def aHs {l:U_}:gh 1 (gS l)=true:=Uy
def ayo {a b:U_}:gS (a++b)=gS a++gS b:=by simp[gS]
def dw (t:S_):E_:=t.map λl=>[.lst (gS l)]
@[simp] def Ke {t:S_}:(dw t).length=t.length:=by simp[dw]
def xy {g:S_}{i:Nat}{l:U_}{r:S_}(h:g.drop i=l::r):(dw g)[i]?=some [.lst (gS l)]:=by
 have:=aV (λl=>l[0]?) h;simp only[ca,dY,b8]at this;rw[dw,b7,this];rfl
def aq0 {t:S_}{l:U_}:dw (t++[l])=dw t++[[.lst (gS l)]]:=by simp[dw]
structure fe where
 chans:AH_
 common:Bool
 mask:Int
 bands:S_
 fill:C_
structure fe.Fit (f:fe):Prop where
 chans:f.chans.length<=1000∧∀c∈f.chans,c.Fit
 mask:i64 f.mask
 bands:f.bands.length<=1000∧∀l∈f.bands,l.length<=1000
 fill:f.fill.length<=100000
 fillI:∀n∈f.fill,n<=255
abbrev fe.av (f:fe):D_:=[.d (.lst (dP f.chans)),B_ f.common,A_ f.mask,.d (.lst (dw f.bands)),.d (.lst (ai f.fill))]
structure ahe (f:fe):Prop where
 chans:f.chans.length<=10∧∀c∈f.chans,agq c
 bands:f.bands.length<=40∧∀l∈f.bands,l.length<=200
 fill:f.fill.length<=2000
def apK (f:fe):∀(r:AH_) (i:Nat),f.chans.drop i=r->i<=10->
  ((i+r.length<=10->∀c∈r,agq c)∧(Dn prog).code (.loop iC) ⟨[(1,.ptr 0 0),(3,A_ i)],⟨[(0,.cells f.av)],1⟩⟩=some (.exit 0,⟨[(1,.ptr 0 0)],⟨[(0,.cells f.av)],1⟩⟩))∨
  (Dn prog).code (.loop iC) ⟨[(1,.ptr 0 0),(3,A_ i)],⟨[(0,.cells f.av)],1⟩⟩=some (.ret,⟨[(2,B_ true)],⟨[],1⟩⟩):=by
 intro r
 induction r with
 |nil =>
  intro i hd h10;have hi:=aY hd;refine .inl ⟨s_,?_⟩;rw[ah iF];simp(maxSteps:=300000) (disch:=omega)[↓aa]
 |cons c r ih =>
  intro i hd h10;have hg:=AQ hd;have hlt:=bw hd;by_cases hi:i<10
  .have ih1:=ih (i+1) (bt hd) o_;rw[show((i+1:Nat):Int)=(i:Int)+1 from rfl]at ih1;rcases aDX c with ⟨hs,hG⟩|hG
   .simp only[cK.av]at hG;rcases ih1 with ⟨ha,e⟩|e
    .refine .inl ⟨λh q hq=>?_,?_⟩
     .rcases ay.1 hq with rfl|hq
      .exact hs
      .exact ha (by simp only[aq]at h;omega) q hq
     .rw[ah iF];simp(maxSteps:=300000) (disch:=omega)[↓ac,↓aa,hg,hG,e]
    .refine .inr ?_;rw[ah iF];simp(maxSteps:=300000) (disch:=omega)[↓ac,↓aa,hg,hG,e]
   .simp only[cK.av]at hG;refine .inr ?_;rw[ah iF];simp(maxSteps:=300000) (disch:=omega)[↓ac,↓aa,hg,hG]
  .refine .inl ⟨λh=>by simp only[aq]at h;omega,?_⟩;rw[ah iF];simp(maxSteps:=300000) (disch:=omega)[↓ac,↓aa]
def anX (f:fe):∀(r:S_) (i:Nat),f.bands.drop i=r->i<=40->
  ((i+r.length<=40->∀l∈r,l.length<=200)∧(Dn prog).code (.loop iL) ⟨[(1,.ptr 0 0),(4,A_ i)],⟨[(0,.cells f.av)],1⟩⟩=some (.exit 2,⟨[(1,.ptr 0 0)],⟨[(0,.cells f.av)],1⟩⟩))∨
  (Dn prog).code (.loop iL) ⟨[(1,.ptr 0 0),(4,A_ i)],⟨[(0,.cells f.av)],1⟩⟩=some (.ret,⟨[(2,B_ true)],⟨[],1⟩⟩):=by
 intro r
 induction r with
 |nil =>
  intro i hd h10;have hi:=aY hd;refine .inl ⟨s_,?_⟩;rw[ah iI];simp(maxSteps:=300000) (disch:=omega)[↓aa]
 |cons l r ih =>
  intro i hd h10;have hg:=xy hd;have hlt:=bw hd;by_cases hi:i<40
  .have ih1:=ih (i+1) (bt hd) o_;rw[show((i+1:Nat):Int)=(i:Int)+1 from rfl]at ih1;by_cases hn:l.length<=200
   .rcases ih1 with ⟨ha,e⟩|e
    .refine .inl ⟨λh q hq=>?_,?_⟩
     .rcases ay.1 hq with rfl|hq
      .exact hn
      .exact ha (by simp only[aq]at h;omega) q hq
     .rw[ah iI];simp(maxSteps:=300000) (disch:=omega)[↓ac,↓aa,hg,e]
    .refine .inr ?_;rw[ah iI];simp(maxSteps:=300000) (disch:=omega)[↓ac,↓aa,hg,e]
   .refine .inr ?_;rw[ah iI];simp(maxSteps:=300000) (disch:=omega)[↓ac,↓aa,hg]
  .refine .inl ⟨λh=>by simp only[aq]at h;omega,?_⟩;rw[ah iI];simp(maxSteps:=300000) (disch:=omega)[↓ac,↓aa]
def ayH (f:fe):(ahe f∧bj prog tf [.agg f.av]=some (B_ false))∨bj prog tf [.agg f.av]=some (B_ true):=by
 have h0:=apK f f.chans 0 rfl o_;have h1:=anX f f.bands 0 rfl o_;have c0:((0:Nat):Int)=0:=rfl;rw[c0]at h0 h1;simp only[fe.av,bv]at h0 h1⊢;rw[aE Nv Ni rfl];rcases h0 with ⟨a0,e0⟩|e0
 .rcases h1 with ⟨a1,e1⟩|e1
  .by_cases hc:f.chans.length<=10
   .by_cases hb:f.bands.length<=40
    .by_cases hx:f.fill.length<=2000
     .refine .inl ⟨⟨⟨hc,a0 hc⟩,⟨hb,a1 hb⟩,hx⟩,?_⟩;simp(maxSteps:=300000) (disch:=omega)[↓ac,↓aa,e0,e1]
     .refine .inr ?_;simp(maxSteps:=300000) (disch:=omega)[↓ac,↓aa,e0,e1]
    .refine .inr ?_;simp(maxSteps:=300000) (disch:=omega)[↓ac,↓aa,e0,e1]
   .refine .inr ?_;simp(maxSteps:=300000) (disch:=omega)[↓ac,↓aa,e0,e1]
  .refine .inr ?_;simp(maxSteps:=300000) (disch:=omega)[↓ac,↓aa,e0,e1]
 .refine .inr ?_;simp(maxSteps:=300000) (disch:=omega)[↓ac,↓aa,e0]
def AJ (i j:aN):Prop:=(i.seq=j.seq∧i.shape=j.shape)∧i.max=j.max∧i.groups=j.groups
instance {i j:aN}:Decidable (AJ i j):=inferInstanceAs (Decidable (_∧_))
def arv (i j:aN)(hi:i.Fit)(hj:j.Fit):bj prog WN [.agg i.cells,.agg j.cells]=some (B_ (decide (AJ i j))):=by
 have he:=S2 i.groups j.groups (by have:=hi.len;omega) (by have:=hj.len;omega);simp only[aN.cells];rw[aE akP akS rfl];by_cases h1:i.seq=j.seq
 .by_cases h2:i.shape=j.shape
  .by_cases h3:i.max=j.max
   .by_cases h4:i.groups=j.groups
    .rw[ac h4]at he;rw[decide_eq_true (show AJ i j from ⟨⟨h1,h2⟩,h3,h4⟩)];simp(maxSteps:=300000) (disch:=omega)[↓ac,↓aa,he]
    .rw[aa h4]at he;rw[decide_eq_false (λh:AJ i j=>h4 h.2.2)];simp(maxSteps:=300000) (disch:=omega)[↓ac,↓aa,he]
   .rw[decide_eq_false (λh:AJ i j=>h3 h.2.1)];simp(maxSteps:=300000) (disch:=omega)[↓ac,↓aa]
  .rw[decide_eq_false (λh:AJ i j=>h2 h.1.2)];simp(maxSteps:=300000) (disch:=omega)[↓ac,↓aa]
 .rw[decide_eq_false (λh:AJ i j=>h1 h.1.1)];simp(maxSteps:=300000) (disch:=omega)[↓ac,↓aa]
def MF (rt:Int)(c:cK):Bool:=match bj prog jD [A_ rt,.agg c.av] with
 |some (.d (.int _ n))=>n != 0
 |_=>true
def Yx (rt:Int)(hr:dW rt)(c:cK)(hc:c.Fit):∃n:Int,bj prog jD [A_ rt,.agg c.av]=some (A_ n)∧MF rt c=(n != 0)∧(MF rt c=false↔nC rt.toNat c):=by
 rcases Oy rt c hc with ⟨_,h,hC⟩|⟨_,h,hC⟩|⟨h,_⟩
 .refine⟨0,hC,by rw[MF,hC],?_⟩;rw[MF,hC];simp[h]
 .refine⟨8,hC,by rw[MF,hC],?_⟩;rw[MF,hC];simp[h]
 .exact absurd hr h
def axk (rt:Int)(hr:dW rt)(a1 a2 a3:AV)(c:cK)(hc:c.Fit)(H:am)(M:Nat)(hp:get H 0=some (.cells [A_ rt,a1,a2,a3]))(hM:Lt H M) :
  (Dn prog).call GR [.agg c.av,.ptr 0 0] ⟨H,M⟩=some (B_ (MF rt c),⟨H,M+1⟩):=by
 have e1:=λo=>vU (o:=o) hM
 have e2:=λo=>yp (o:=o) hM
 have e3:=λo=>BP (N:=M) (o:=o) hp
 have e5:=λo=>MV (o:=o) hM
 have e6:=λo o'=>ID (o:=o) (o':=o') hM
 obtain⟨n,hC,hB,_⟩:=Yx rt hr c hc;rw[hB];simp only[cK.av]at hC⊢;rw[ba afx agb rfl];by_cases hn:n=0
 .subst hn;simp(maxSteps:=300000) (disch:=omega)[↓ac,↓aa,e1,e2,e3,e5,e6,hC]
 .simp(maxSteps:=300000) (disch:=omega)[↓ac,↓aa,e1,e2,e3,e5,e6,hC,hn]
def ac5 (F:AV)(P:cK->Bool)(l:AH_)(hl:l.length<=1000000000)(h:am)(N0:Nat)(hF:firm (share F)=F)(hc:∀f∈l,∀N,N0<=N->cy (Dn prog) F [.agg f.av] ⟨h,N⟩=some (B_ (P f),⟨h,N+1⟩)):∀(r:AH_) (i N:Nat),l.drop i=r->N0<=N->
  (r.any P=true∧∃k M:Nat,N<=M∧(Dn prog).code (.loop fZ) ⟨[(0,.d (.lst (dP l))),(1,F),(7,A_ l.length),(8,A_ i)],⟨h,N⟩⟩=some (.ret,⟨[(4,A_ k)],⟨h,M⟩⟩))∨
  (r.any P=false∧∃M,N<=M∧(Dn prog).code (.loop fZ) ⟨[(0,.d (.lst (dP l))),(1,F),(7,A_ l.length),(8,A_ i)],⟨h,N⟩⟩=some (.exit 0,⟨[],⟨h,M⟩⟩)):=by
 intro r
 induction r with
 |nil =>
  intro i N hd hN;have hi:=aY hd;refine .inr ⟨rfl,N,al _,?_⟩;rw[ah jq];simp(maxSteps:=300000) (disch:=omega)[↓aa]
 |cons v r ih =>
  intro i N hd hN;have hg:=AQ hd;have hlt:=bw hd;have hv:=hc v (by rw[<-aU i l,hd];simp) N hN;have h5:=ih (i+1) (N+1) (bt hd) o_;have c1:((i+1:Nat):Int)=(i:Int)+1:=rfl;rw[c1]at h5
  cases hp:P v with
  |true =>
   rw[hp]at hv;refine .inl ⟨by rw[fm,hp];rfl,i,N+1,o_,?_⟩;rw[ah jq];simp(maxSteps:=300000) (disch:=omega)[↓ac,↓aa,hg,hF,hv]
  |false =>
   rw[hp]at hv;rw[fm,hp,nK];rcases h5 with ⟨e1,k,M,e3,e2⟩|⟨e1,M,e3,e2⟩
   .refine .inl ⟨e1,k,M,o_,?_⟩;rw[ah jq,<-e2];simp(maxSteps:=300000) (disch:=omega)[↓ac,↓aa,hg,hF,hv]
   .refine .inr ⟨e1,M,o_,?_⟩;rw[ah jq,<-e2];simp(maxSteps:=300000) (disch:=omega)[↓ac,↓aa,hg,hF,hv]
def acu (F:AV)(P:cK->Bool)(l:AH_)(hl:l.length<=1000000000)(h:am)(N:Nat)(hF:firm (share F)=F)(hF2:firm F=F)(hc:∀f∈l,∀M,N<=M->cy (Dn prog) F [.agg f.av] ⟨h,M⟩=some (B_ (P f),⟨h,M+1⟩)) :
  ∃M,N<=M∧(Dn prog).call tU [.d (.lst (dP l)),F] ⟨h,N⟩=some (B_ (l.any P),⟨h,M⟩):=by
 have h1:=ac5 F P l hl h N hF hc l 0 N rfl (al _);have c0:((0:Nat):Int)=0:=rfl;rw[c0]at h1;have h2:∃(k:Int) (M:Nat),N<=M∧(0<=k↔l.any P=true)∧(Dn prog).call xJ [.d (.lst (dP l)),F] ⟨h,N⟩=some (A_ k,⟨h,M⟩):=by
  rcases h1 with ⟨e1,k,M,e3,e2⟩|⟨e1,M,e3,e2⟩
  .refine⟨k,M,e3,⟨λ_=>e1,λ_=>by omega⟩,?_⟩;rw[ba w6 xG rfl];simp(maxSteps:=300000) (disch:=omega)[e2]
  .refine⟨-1,M,e3,⟨λh=>by omega,λh=>by rw[e1]at h;exact absurd h s_⟩,?_⟩;rw[ba w6 xG rfl];simp(maxSteps:=300000) (disch:=omega)[e2]
 obtain⟨k,M,e3,e1,e2⟩:=h2;refine⟨M,e3,?_⟩;rw[ba F8 GC rfl]
 cases hp:l.any P with
 |true =>
  have:=e1.2 hp;simp(maxSteps:=300000) (disch:=omega)[↓ac,hF2,e2]
 |false =>
  have:¬0<=k:=λh=>by rw[e1.1 h]at hp;exact absurd hp (by simp)
  simp(maxSteps:=300000) (disch:=omega)[↓aa,hF2,e2]
def abA (F:AV)(P:(U_)->Bool)(l:S_)(hl:l.length<=1000000000)(h:am)(N0:Nat)(hF:firm (share F)=F)(hc:∀f∈l,∀N,N0<=N->cy (Dn prog) F [.d (.lst (gS f))] ⟨h,N⟩=some (B_ (P f),⟨h,N⟩)):∀(r:S_) (i N:Nat),l.drop i=r->N0<=N->
  (r.any P=true∧∃k M:Nat,N<=M∧(Dn prog).code (.loop fR) ⟨[(0,.d (.lst (dw l))),(1,F),(7,A_ l.length),(8,A_ i)],⟨h,N⟩⟩=some (.ret,⟨[(4,A_ k)],⟨h,M⟩⟩))∨
  (r.any P=false∧∃M,N<=M∧(Dn prog).code (.loop fR) ⟨[(0,.d (.lst (dw l))),(1,F),(7,A_ l.length),(8,A_ i)],⟨h,N⟩⟩=some (.exit 0,⟨[],⟨h,M⟩⟩)):=by
 intro r
 induction r with
 |nil =>
  intro i N hd hN;have hi:=aY hd;refine .inr ⟨rfl,N,al _,?_⟩;rw[ah i9];simp(maxSteps:=300000) (disch:=omega)[↓aa]
 |cons v r ih =>
  intro i N hd hN;have hg:=xy hd;have hlt:=bw hd;have hv:=hc v (by rw[<-aU i l,hd];simp) N hN;have h5:=ih (i+1) N (bt hd) o_;have c1:((i+1:Nat):Int)=(i:Int)+1:=rfl;rw[c1]at h5
  cases hp:P v with
  |true =>
   rw[hp]at hv;refine .inl ⟨by rw[fm,hp];rfl,i,N,o_,?_⟩;rw[ah i9];simp(maxSteps:=300000) (disch:=omega)[↓ac,↓aa,hg,hF,hv]
  |false =>
   rw[hp]at hv;rw[fm,hp,nK];rcases h5 with ⟨e1,k,M,e3,e2⟩|⟨e1,M,e3,e2⟩
   .refine .inl ⟨e1,k,M,o_,?_⟩;rw[ah i9,<-e2];simp(maxSteps:=300000) (disch:=omega)[↓ac,↓aa,hg,hF,hv]
   .refine .inr ⟨e1,M,o_,?_⟩;rw[ah i9,<-e2];simp(maxSteps:=300000) (disch:=omega)[↓ac,↓aa,hg,hF,hv]
def adq (F:AV)(P:(U_)->Bool)(l:S_)(hl:l.length<=1000000000)(h:am)(N:Nat)(hF:firm (share F)=F)(hF2:firm F=F)(hc:∀f∈l,∀M,N<=M->cy (Dn prog) F [.d (.lst (gS f))] ⟨h,M⟩=some (B_ (P f),⟨h,M⟩)) :
  ∃M,N<=M∧(Dn prog).call tv [.d (.lst (dw l)),F] ⟨h,N⟩=some (B_ (l.any P),⟨h,M⟩):=by
 have h1:=abA F P l hl h N hF hc l 0 N rfl (al _);have c0:((0:Nat):Int)=0:=rfl;rw[c0]at h1;have h2:∃(k:Int) (M:Nat),N<=M∧(0<=k↔l.any P=true)∧(Dn prog).call wH [.d (.lst (dw l)),F] ⟨h,N⟩=some (A_ k,⟨h,M⟩):=by
  rcases h1 with ⟨e1,k,M,e3,e2⟩|⟨e1,M,e3,e2⟩
  .refine⟨k,M,e3,⟨λ_=>e1,λ_=>by omega⟩,?_⟩;rw[ba wn wO rfl];simp(maxSteps:=300000) (disch:=omega)[e2]
  .refine⟨-1,M,e3,⟨λh=>by omega,λh=>by rw[e1]at h;exact absurd h s_⟩,?_⟩;rw[ba wn wO rfl];simp(maxSteps:=300000) (disch:=omega)[e2]
 obtain⟨k,M,e3,e1,e2⟩:=h2;refine⟨M,e3,?_⟩;rw[ba FA E2 rfl]
 cases hp:l.any P with
 |true =>
  have:=e1.2 hp;simp(maxSteps:=300000) (disch:=omega)[↓ac,hF2,e2]
 |false =>
  have:¬0<=k:=λh=>by rw[e1.1 h]at hp;exact absurd hp (by simp)
  simp(maxSteps:=300000) (disch:=omega)[↓aa,hF2,e2]
def ayL (i:aN)(l:U_)(hl:l.length<=1000000)(H:am)(K N:Nat)(hp:get H K=some (.cells i.cells)):(Dn prog).call GK [.d (.lst (gS l)),.ptr K 0] ⟨H,N⟩=some (B_ ((decide ((l.length:Int)≠i.max))),⟨H,N⟩):=by
 have hb:=sS (l:=l);rw[ba afg afh rfl];by_cases h:(l.length:Int)=i.max
 .simp(maxSteps:=300000) (disch:=omega)[hp,h]
 .simp(maxSteps:=300000) (disch:=omega)[hp,h]
abbrev nk:=@List.any_eq_false
def dZ (x:AV)(l:E_):Prop:=x=.d (.lst l)∨x=.nl∧l=[]
theorem dZ.d {l:E_}:dZ (.d (.lst l)) l:=.inl rfl
def dZ.facts {x:AV}{l:E_}(h:dZ x l):(share x=x∧firm x=x∧AV.cells x=[x])∧br x=true∧lenOf x=some l.length:=by
 rcases h with rfl|⟨rfl,rfl⟩<;>exact⟨⟨rfl,rfl,rfl⟩,rfl,rfl⟩
def dZ.ne {x:AV}{l:E_}(h:dZ x l)(hl:l≠[]):x=.d (.lst l):=by
 rcases h with h|⟨_,h⟩
 .exact h
 .exact absurd h hl
def J6 (f:fe):AH_->Prop
 |[]=>False
 |c::r=>if f.common then (∃d∈r.head?,AJ c.info d.info)∧(if f.mask=1 then f.bands.length=c.info.groups.length∧∀l∈f.bands,(l.length:Int)=c.info.max else f.bands=[]) else f.mask=0∧f.bands=[]
structure uJ (rt:Nat)(n:Int)(f:fe):Prop where
 len:(f.chans.length:Int)=n
 fill:f.fill.length<=269
 mask:0<=f.mask∧f.mask<=2
 may:∀c∈f.chans,nC rt c
 rest:J6 f f.chans
abbrev mp (rt n:Int)(b:Bool)(z:Int):AV:=.agg [A_ rt,A_ n,B_ b,A_ z]
abbrev qR (f:fe)(X Y Z:AV):AV:=.agg [X,B_ f.common,A_ f.mask,Y,Z]
def aqi (rt n:Int)(cb:Bool)(cz:Int)(hr:dW rt)(hn:n=1∨n=2)(f:fe)(hf:f.Fit)(X Y Z:AV)(hX:dZ X (dP f.chans))(hY:dZ Y (dw f.bands))(hZ:dZ Z (ai f.fill)) :
  (uJ rt.toNat n f∧bj prog MB [mp rt n cb cz,qR f X Y Z]=some (B_ true))∨(¬uJ rt.toNat n f∧bj prog MB [mp rt n cb cz,qR f X Y Z]=some (B_ false)):=by
 obtain⟨⟨x1,x2,x3⟩,x4,x5⟩:=hX.facts;obtain⟨⟨y1,y2,y3⟩,y4,y5⟩:=hY.facts;obtain⟨⟨z1,z2,z3⟩,z4,z5⟩:=hZ.facts;have xl:=EX (l:=f.chans);have yl:=Ke (t:=f.bands);have zl:=bD (l:=f.fill);have hcl:=hf.chans.1;have hbl:=hf.bands.1;have hfl:=hf.fill;rw[aE ajZ akK rfl];by_cases h1:(f.chans.length:Int)=n
 rotate_left
 .refine .inr ⟨λh=>h1 h.len,?_⟩;simp(maxSteps:=300000) (disch:=omega)[↓ac,↓aa,-br,x1,x2,x3,x4,x5,y1,y2,y3,y4,y5,z1,z2,z3,z4,z5]
 by_cases h2:f.fill.length<=269
 rotate_left
 .refine .inr ⟨λh=>h2 h.fill,?_⟩;simp(maxSteps:=300000) (disch:=omega)[↓ac,↓aa,-br,x1,x2,x3,x4,x5,y1,y2,y3,y4,y5,z1,z2,z3,z4,z5]
 by_cases h3:0<=f.mask
 rotate_left
 .refine .inr ⟨λh=>h3 h.mask.1,?_⟩;simp(maxSteps:=300000) (disch:=omega)[↓ac,↓aa,-br,x1,x2,x3,x4,x5,y1,y2,y3,y4,y5,z1,z2,z3,z4,z5]
 by_cases h4:f.mask<=2
 rotate_left
 .refine .inr ⟨λh=>h4 h.mask.2,?_⟩;simp(maxSteps:=300000) (disch:=omega)[↓ac,↓aa,-br,x1,x2,x3,x4,x5,y1,y2,y3,y4,y5,z1,z2,z3,z4,z5]
 have hne:dP f.chans≠[]:=λh=>by have:=aV List.length h;rw[EX,bg]at this;omega
 have hxe:=hX.ne hne;subst hxe;obtain⟨M,hM,e1⟩:=acu (.fn GR [] [.ptr 0 0]) (MF rt) f.chans o_ [(0,.cells [A_ rt,A_ n,B_ cb,A_ cz]),(1,.cells [.d (.lst (dP f.chans)),B_ f.common,A_ f.mask,Y,Z])] 2 rfl rfl λc hc M hM=>by
  have:=axk rt hr (A_ n) (B_ cb) (A_ cz) c (hf.chans.2 c hc) [(0,.cells [A_ rt,A_ n,B_ cb,A_ cz]),(1,.cells [.d (.lst (dP f.chans)),B_ f.common,A_ f.mask,Y,Z])] M s_ (by
   intro p hp;simp only[ay,cq,ee]at hp;rcases hp with rfl|rfl<;>simp only[]<;>omega)
  simpa using this
 have hbad:f.chans.any (MF rt)=false↔∀c∈f.chans,nC rt.toNat c:=by
  rw[nk];constructor
  .intro h c hc;obtain⟨_,_,_,hb⟩:=Yx rt hr c (hf.chans.2 c hc);exact hb.1 (by simpa using h c hc)
  .intro h c hc;obtain⟨_,_,_,hb⟩:=Yx rt hr c (hf.chans.2 c hc);rw[hb.2 (h c hc)];simp
 cases hB:f.chans.any (MF rt) with
 |true =>
  rw[hB]at e1;refine .inr ⟨λh=>by rw[hbad.2 h.may]at hB;exact absurd hB s_,?_⟩;simp(maxSteps:=300000) (disch:=omega)[↓ac,↓aa,-br,x5,y1,y2,y3,y4,y5,z1,z2,z3,z4,z5,e1]
 |false =>
  rw[hB]at e1;have hmay:=hbad.1 hB
  cases hch:f.chans with
  |nil=>rw[hch]at h1;simp at h1;omega
  |cons c r =>
   have hdr:f.chans.drop 0=c::r:=hch;obtain⟨k0,g0⟩:=aJ.1 (AQ hdr);have hci:=(hf.chans.2 c (by rw[hch];exact .head _)).info;have hfin:uJ rt.toNat n f↔J6 f (c::r):=⟨λh=>by rw[<-hch];exact h.rest,λh=>⟨h1,h2,⟨h3,h4⟩,hmay,by rw[hch];exact h⟩⟩
   rw[<-hch]
   cases hcm:f.common with
   |false =>
    have hT:J6 f (c::r)↔f.mask=0∧f.bands=[]:=by simp only[J6,hcm,ao,bl]
    rw[hcm]at e1;by_cases h5:f.mask=0
    .by_cases h6:f.bands.length=0
     .refine .inl ⟨hfin.2 (hT.2 ⟨h5,ax h6⟩),?_⟩;simp(maxSteps:=300000) (disch:=omega)[↓ac,↓aa,-br,hcm,x5,y1,y2,y3,y4,y5,z1,z2,z3,z4,z5,e1,g0]
     .refine .inr ⟨λh=>h6 (by rw[(hT.1 (hfin.1 h)).2];rfl),?_⟩;simp(maxSteps:=300000) (disch:=omega)[↓ac,↓aa,-br,hcm,x5,y1,y2,y3,y4,y5,z1,z2,z3,z4,z5,e1,g0]
    .refine .inr ⟨λh=>h5 (hT.1 (hfin.1 h)).1,?_⟩;simp(maxSteps:=300000) (disch:=omega)[↓ac,↓aa,-br,hcm,x5,y1,y2,y3,y4,y5,z1,z2,z3,z4,z5,e1,g0]
   |true =>
    rw[hcm]at e1;have hT:J6 f (c::r)↔(∃d∈r.head?,AJ c.info d.info)∧(if f.mask=1 then f.bands.length=c.info.groups.length∧∀l∈f.bands,(l.length:Int)=c.info.max else f.bands=[]):=by simp only[J6,hcm,bh]
    rcases hn with rfl|rfl
    .have hr0:r=[]:=ax (by rw[hch]at h1;simp only[aq]at h1;omega);refine .inr ⟨λh=>?_,?_⟩
     .obtain⟨⟨d,hd,_⟩,_⟩:=hT.1 (hfin.1 h);rw[hr0]at hd;simp at hd
     .simp(maxSteps:=300000) (disch:=omega)[↓ac,↓aa,-br,hcm,x5,y1,y2,y3,y4,y5,z1,z2,z3,z4,z5,e1,g0]
    .cases r with
     |nil=>rw[hch]at h1;simp at h1
     |cons d r2 =>
      obtain⟨k1,g1⟩:=aJ.1 (AQ (bt hdr));have hsm:=arv c.info d.info hci (hf.chans.2 d (by rw[hch];exact .tail _ (.head _))).info;simp only[aN.cells]at hsm;have hm0:=hmay c (by rw[hch];exact .head _);obtain⟨q1,q2⟩:=dV (gy (r:=rt.toNat) o_ hm0.info);have hmm:1<=c.info.many:=by unfold aN.many;split<;>omega
      have hgn:c.info.groups.length≠0:=λh=>by rw[ax h]at q2;simp at q2;omega
      have hgi:=iD (l:=c.info.groups);have hg8:c.info.groups.length<=1000:=hci.len;by_cases hs:AJ c.info d.info
      rotate_left
      .rw[decide_eq_false hs]at hsm;refine .inr ⟨λh=>?_,?_⟩
       .obtain⟨⟨d',hd',hss⟩,_⟩:=hT.1 (hfin.1 h);simp only[List.head?_cons,Option.mem_def,ae]at hd';subst hd';exact hs hss
       .simp(maxSteps:=300000) (disch:=omega)[↓ac,↓aa,-br,hcm,x5,y1,y2,y3,y4,y5,z1,z2,z3,z4,z5,e1,g0,g1,hsm]
      rw[decide_eq_true hs]at hsm;have hhd:∃d'∈(d::r2).head?,AJ c.info d'.info:=⟨d,s_,hs⟩
      by_cases h5:f.mask=1
      rotate_left
      .rw[aa h5]at hT;by_cases h6:f.bands.length=0
       .refine .inl ⟨hfin.2 (hT.2 ⟨hhd,ax h6⟩),?_⟩;simp(maxSteps:=300000) (disch:=omega)[↓ac,↓aa,-br,hcm,x5,y1,y2,y3,y4,y5,z1,z2,z3,z4,z5,e1,g0,g1,hsm]
       .refine .inr ⟨λh=>h6 (by rw[(hT.1 (hfin.1 h)).2];rfl),?_⟩;simp(maxSteps:=300000) (disch:=omega)[↓ac,↓aa,-br,hcm,x5,y1,y2,y3,y4,y5,z1,z2,z3,z4,z5,e1,g0,g1,hsm]
      rw[ac h5]at hT;by_cases h6:f.bands.length=c.info.groups.length
      rotate_left
      .refine .inr ⟨λh=>h6 (hT.1 (hfin.1 h)).2.1,?_⟩;simp(maxSteps:=300000) (disch:=omega)[↓ac,↓aa,-br,hcm,x5,y1,y2,y3,y4,y5,z1,z2,z3,z4,z5,e1,g0,g1,hsm]
      have hye:=hY.ne λh=>by have:=aV List.length h;rw[Ke,bg]at this;omega
      subst hye;obtain⟨M2,hM2,e2⟩:=adq (.fn GK [] [.ptr M 0]) (λl=>decide ((l.length:Int)≠c.info.max)) f.bands o_ [(0,.cells [A_ rt,A_ 2,B_ cb,A_ cz]),(1,.cells [.d (.lst (dP f.chans)),B_ true,A_ f.mask,.d (.lst (dw f.bands)),Z]),(M,.cells c.info.cells)] (M+1) rfl rfl λl hl N hN=>by
       have:=ayL c.info l (by have:=hf.bands.2 l hl;omega) [(0,.cells [A_ rt,A_ 2,B_ cb,A_ cz]),(1,.cells [.d (.lst (dP f.chans)),B_ true,A_ f.mask,.d (.lst (dw f.bands)),Z]),(M,.cells c.info.cells)] M N (by
        obtain⟨m0,m1⟩:M≠0∧M≠1:=o_;simp(maxSteps:=300000) (disch:=omega)[↓ac,↓aa])
       simpa using this
      simp only[aN.cells]at e2
      cases hB2:f.bands.any (λl=>decide ((l.length:Int)≠c.info.max)) with
      |true =>
       rw[hB2]at e2;refine .inr ⟨λh=>?_,?_⟩
       .obtain⟨l,hl,hx⟩:=List.any_eq_true.1 hB2;exact of_decide_eq_true hx ((hT.1 (hfin.1 h)).2.2 l hl)
       .simp(maxSteps:=300000) (disch:=omega)[↓ac,↓aa,-br,hcm,x5,y5,z1,z2,z3,z4,z5,e1,g0,g1,hsm,e2]
      |false =>
       rw[hB2]at e2;refine .inl ⟨hfin.2 (hT.2 ⟨hhd,h6,λl hl=>?_⟩),?_⟩
       .have:=nk.1 hB2 l hl;simpa using this
       .simp(maxSteps:=300000) (disch:=omega)[↓ac,↓aa,-br,hcm,x5,y5,z1,z2,z3,z4,z5,e1,g0,g1,hsm,e2]
def atM {l:U_}:∀x∈gS l,∀y∈x,mw y=true:=by
 intro x hx y hy;simp only[gS,dy]at hx;obtain⟨b,_,rfl⟩:=hx;simp only[ay,cq,ee]at hy;subst hy;rfl
def YI (xs:S_)(hx:xs.length<=1000)(h:am)(N:Nat):∀(r:S_) (i:Nat) (n:Nat),xs.drop i=r->n+r.flatten.length<=1000000000->
  (Dn prog).code (.loop kL) ⟨[(0,.d (.lst (dw xs))),(3,A_ n),(9,.d (.lst (dw xs))),(10,A_ xs.length),(11,A_ i)],⟨h,N⟩⟩ =
  some (.exit 0,⟨[(0,.d (.lst (dw xs))),(3,A_ (n+r.flatten.length:Nat))],⟨h,N⟩⟩):=by
 intro r
 induction r with
 |nil =>
  intro i n hd hn;have hi:=aY hd;rw[ah oU];simp(maxSteps:=300000) (disch:=omega)[↓aa]
 |cons l r ih =>
  intro i n hd hn;have hg:=xy hd;have hlt:=bw hd;simp only[dC,aj]at hn⊢;have h5:=ih (i+1) (n+l.length) (bt hd) o_;have c1:((i+1:Nat):Int)=(i:Int)+1:=rfl;have c2:((n+l.length:Nat):Int)=(n:Int)+l.length:=rfl;rw[c1,c2,dI]at h5;rw[ah oU,<-h5];simp(maxSteps:=300000) (disch:=omega)[↓ac,↓aa,hg,sS]
def apH (xs:S_)(hx:xs.length<=1000)(h:am)(N:Nat):∀(r:S_) (i:Nat) (acc:U_),xs.drop i=r->acc.length+r.flatten.length<=1000000000->
  (Dn prog).code (.loop iS) ⟨[(6,.own false 1 (gS acc)),(25,.d (.lst (dw xs))),(26,A_ xs.length),(27,A_ i)],⟨h,N⟩⟩ =
  some (.exit 2,⟨[(6,.own false 1 (gS (acc++r.flatten)))],⟨h,N⟩⟩):=by
 intro r
 induction r with
 |nil =>
  intro i acc hd hn;have hi:=aY hd;rw[ah fP];simp(maxSteps:=300000) (disch:=omega)[↓aa]
 |cons l r ih =>
  intro i acc hd hn;have hg:=xy hd;have hlt:=bw hd;simp only[dC,aj]at hn⊢;have h5:=ih (i+1) (acc++l) (bt hd) (by simp only[aj];omega);have c1:((i+1:Nat):Int)=(i:Int)+1:=rfl;rw[c1,aA]at h5;rw[ah fP,<-h5];simp(maxSteps:=300000) (disch:=omega)[↓ac,↓aa,hg,sS,ayo]
def avt (n:Nat)(hn:0<n∧n<=1000000000):(Dn prog).call we [.nl,A_ n] ⟨[],0⟩=some (.sl 0 0 0,⟨[(0,.arr 1 (List.replicate n [.bool false]))],1⟩):=by
 have e1:eh (A_ n) aX=some n:=by rw[yk o_ (by simp only[aX];omega)];simp
 have e2:Ie [.bool false] [] .nl (A_ n)=some (.own true 1 (List.replicate n [.bool false]),[]):=by
  unfold Ie;rw[e1];obtain⟨m,rfl⟩:∃m,n=m+1:=⟨n-1,o_⟩
  simp(maxSteps:=300000) (disch:=omega)[cL,↓ac]
 have e0:eh (A_ 0) n=some 0:=yk o_ o_;have e3:mQ [] 1 .nl none (some (.int .i64 0)) none=some .nl:=rfl;have e4:mQ [(0,.arr 1 (List.replicate n [D.bool false]))] 1 (.sl 0 0 n) none (some (.int .i64 0)) none=some (.sl 0 0 0):=by
  simp[mQ,okSl,vT,lenOf,xn,e0,wp]
 rw[ba D8 D3 rfl];simp(maxSteps:=300000) (disch:=omega)[↓ac,↓aa,ab4,e2,e3,e4]
def au2 (xs:S_)(hx:xs.length<=1000)(hn:0<xs.flatten.length∧xs.flatten.length<=1000000000):bj prog su [.d (.lst (dw xs))]=some (.own true 1 (gS xs.flatten)):=by
 have h0:=YI xs hx [] 0 xs 0 0 rfl o_;have h2:=avt xs.flatten.length hn;have c0:((0:Nat):Int)=0:=rfl;rw[bv,c0]at h0;have hne:xs≠[]:=by intro h;subst h;simp at hn
 obtain⟨l,r,e⟩:=dj hne;have h1:=apH xs hx [] 1 r 1 l (by rw[e];rfl) (by rw[e]at hn;simpa using hn.2);have hg:=xy (g:=xs) (i:=0) (l:=l) (r:=r) (by rw[e];rfl);have hlt:0<xs.length:=bL.2 hne;have e5:l++r.flatten=xs.flatten:=by rw[e];rfl
 rw[e5]at h1;have hll:l.length<=1000000000:=by rw[<-e5,aj]at hn;omega
 clear e5 e;generalize xs.flatten=F at *;have c1:((1:Nat):Int)=1:=rfl;rw[c1]at h1;rw[aE Bp BT rfl];simp(maxSteps:=300000) (disch:=omega)[↓ac,↓aa,h0,h2];rw[ah fP];simp(maxSteps:=300000) (disch:=omega)[↓ac,↓aa,hg,sS,h1];exact atM
def aj7 (xs:S_)(hx:xs.length<=1000)(h:am)(N:Nat):∀(r:S_) (i:Nat),xs.drop i=r->(∀l∈r,l=[])->
  (Dn prog).code (.loop iS) ⟨[(6,.nl),(25,.d (.lst (dw xs))),(26,A_ xs.length),(27,A_ i)],⟨h,N⟩⟩ =
  some (.exit 2,⟨[(6,.nl)],⟨h,N⟩⟩):=by
 intro r
 induction r with
 |nil =>
  intro i hd hn;have hi:=aY hd;rw[ah fP];simp(maxSteps:=300000) (disch:=omega)[↓aa]
 |cons l r ih =>
  intro i hd hn;have hl:=hn l (.head _);subst hl;have hg:=xy hd;have hlt:=bw hd;have h5:=ih (i+1) (bt hd) λq hq=>hn q (.tail _ hq)
  have c1:((i+1:Nat):Int)=(i:Int)+1:=rfl;have n0:gS []=[]:=rfl;rw[c1]at h5;rw[n0]at hg;rw[ah fP,<-h5];simp(maxSteps:=300000) (disch:=omega)[↓ac,↓aa,hg]
def Uf:(Dn prog).call we [.nl,A_ 0] ⟨[],0⟩=some (.nl,⟨[],0⟩):=by
 rw[ba D8 D3 rfl];simp(maxSteps:=300000) (disch:=omega)[↓ac,↓aa,ab4]
def ay4 (xs:S_)(hx:xs.length<=1000)(hn:xs.flatten.length<=1000000000)(X:AV)(hX:dZ X (dw xs)):∃v,bj prog su [X]=some v∧firm v=aG 1 (gS xs.flatten):=by
 by_cases h:0<xs.flatten.length
 .have hne:dw xs≠[]:=λh2=>by
   have:=aV List.length h2;rw[Ke,bg]at this;rw[ax this]at h;simp at h
  refine⟨.own true 1 (gS xs.flatten),by rw[hX.ne hne];exact au2 xs hx ⟨h,hn⟩,?_⟩;rw[mc]
  .rfl
  .intro h2;have:=aV List.length h2;rw[sS,bg]at this;omega
 .have h0:xs.flatten=[]:=ax o_;have hz:∀l∈xs,l=[]:=λl hl=>List.flatten_eq_nil_iff.1 h0 l hl
  refine⟨.nl,?_,by rw[h0];rfl⟩;rw[aE Bp BT rfl];rcases hX with rfl|⟨rfl,hX⟩
  .have e0:=YI xs hx [] 0 xs 0 0 rfl o_;have e1:=aj7 xs hx [] 0 xs 0 rfl hz;have c0:((0:Nat):Int)=0:=rfl;rw[bv,c0,h0,bg,c0]at e0;rw[c0]at e1;simp(maxSteps:=300000) (disch:=omega)[↓ac,↓aa,e0,e1,Uf]
  .simp(maxSteps:=300000) (disch:=omega)[↓ac,↓aa,Uf];rw[ah oU];simp(maxSteps:=300000) (disch:=omega)[↓ac,↓aa,Uf];rw[ah fP];simp(maxSteps:=300000) (disch:=omega)[↓ac,↓aa,Uf]
def bY (l:C_):C_:=l.flatMap λn=>ar n 8
def fG:∀{l:C_},(bY l).length=8*l.length
 |[]=>rfl
 |n::r=>by have:=fG (l:=r);rw[bY]at this⊢;rw[aD,aj,df,aq];omega
abbrev aF9 (l:C_)(i:Int)(N:Nat):aW:=[(4,.ptr 0 0),(15,.d (.lst (ai l))),(16,A_ l.length),(17,A_ i),(23,.fn ql [] [.ptr (N+1) 0,.ptr N 0])]
abbrev hp8 (l:C_)(i n:Int)(N:Nat)(b:C_):am:=[(0,.cells [.own false 1 (ai b)]),(N,.cells [A_ n]),(N+1,.cells [A_ 8]),(N+2,.loop (aF9 l i N) [24] uC uf false none)]
def aFM (l:C_)(i n:Int)(N:Nat)(hN:1<=N)(b:C_)(x:Nat)(hb:b.length<=800000000) :
  cy (Dn prog) (.yield (N+2)) [.d (.int .u8 (x:Int))] ⟨hp8 l i n N b,N+2+1⟩=some (B_ true,⟨hp8 l i n N (b++[x]),N+2+1⟩):=by
 have hl:=bD (l:=b);have n1:N≠0∧N+1≠0∧N+2≠0:=o_;simp(maxSteps:=300000) (disch:=omega)[Xa,X7,↓ac,↓aa]
def aBb (n k:Int)(c:Obj)(N:Nat)(hN:1<=N):(Dn prog).call LY [A_ n,A_ k] ⟨[(0,c)],N⟩=some (.fn ql [] [.ptr (N+1) 0,.ptr N 0],⟨[(0,c),(N,.cells [A_ n]),(N+1,.cells [A_ k])],N+1+1⟩):=by
 rw[ba V2 VX rfl];simp(maxSteps:=300000) (disch:=omega)[↓ac,↓aa]
def anj {z:W_}{n:Int}(h:0<=n∧n<=1000000000):GB z (A_ 0) (A_ n)=some (.own true z.length []):=by
 obtain⟨n,rfl⟩:=aB h.1;have h1:eh (A_ (n:Int)) aX=some n:=by rw[yk o_ (by simp only[aX];omega)];simp
 have h2:eh (A_ 0) n=some 0:=yk o_ o_;simp only[GB,h1,h2];rfl
def aq8 (l:C_)(hl:l.length<=100000)(hl2:∀n∈l,n<=255):∀(r:C_) (i N:Nat) (b:C_),l.drop i=r->b.length<=8*i->1<=N->
  ∃M,(Dn prog).code (.loop uM) ⟨[(4,.ptr 0 0),(15,.d (.lst (ai l))),(16,A_ l.length),(17,A_ i)],⟨[(0,.cells [.own false 1 (ai b)])],N⟩⟩ =
  some (.exit 0,⟨[(4,.ptr 0 0)],⟨[(0,.cells [.own false 1 (ai (b++bY r))])],M⟩⟩):=by
 intro r
 induction r with
 |nil =>
  intro i N b hd hb hN;have hi:=aY hd;refine⟨N,?_⟩;rw[ah Bb];simp(maxSteps:=300000) (disch:=omega)[↓ac,↓aa,bY]
 |cons n r ih =>
  intro i N b hd hb hN;have hlt:=bw hd;have hn:=hl2 n (bJ (by rw[hd];exact .head _));have hg:(ai l)[i]?=some [.int .u8 n]:=by
   have:=aV (λl=>l[0]?) hd;simp only[ca,b8,dY]at this;rw[ai,b7,this];rfl
  have h1:=asG (hp:=hp8 l i n N) (l:=N+2) (p:=N) (q:=N+1) (N:=N+2+1) (st:=λs x=>s++[x]) (dz:=λk s=>s.length+k<=800000000) (λk s x h=>by simp only[aj,aq,bg];omega) n 8 o_ (by omega)
   (λs=>by simp(maxSteps:=300000) (disch:=omega)[↓aa,↓ac]) (λs=>by simp(maxSteps:=300000) (disch:=omega)[↓aa,↓ac]) (λk s x h _=>aFM l i n N hN s x o_) b (by omega)
  rw[ajh]at h1;obtain⟨M,h5⟩:=ih (i+1) (N+2+1) (b++ar n 8) (bt hd) g_ o_;refine⟨M,?_⟩;have c1:((i+1:Nat):Int)=(i:Int)+1:=rfl;have e:b++bY (n::r)=b++ar n 8++bY r:=by rw[bY,aD,aA];rfl
  rw[c1]at h5;have n1:N≠0∧N+1≠0∧N+2≠0:=o_;rw[ah Bb,e,<-h5];simp(maxSteps:=300000) (disch:=omega)[↓ac,↓aa,hg,n1,rd,aBb,h1]
def FJ (l:C_)(hl:l.length<=100000)(hl2:∀n∈l,n<=255)(X:AV)(hX:dZ X (ai l)):bj prog Hh [X]=some (.tup [.own true 1 (ai (bY l)),A_ 0]):=by
 have hl3:=bD (l:=l);have n0:ai []=[]:=rfl;have c0:((0:Nat):Int)=0:=rfl;obtain⟨M,h⟩:=aq8 l hl hl2 l 0 1 [] rfl s_ (al _);rw[c0,n0,aK]at h;rw[aE ae4 afe rfl];rcases hX with rfl|⟨rfl,hX⟩
 .simp(maxSteps:=300000) (disch:=omega)[↓ac,↓aa,anj,h]
 .have:l=[]:=ax (by rw[hX]at hl3;simpa using hl3.symm);subst this;simp(maxSteps:=300000) (disch:=omega)[↓ac,↓aa,anj];rw[ah Bb];simp(maxSteps:=300000) (disch:=omega)[↓ac,↓aa,bY];rfl
def afX {hp:AV->am}{p N:Nat}(H:Hv hp p){x:AV}{b:C_}(hx:inB x b)(hb:b.length<=900000000)(n s:Int)(ho:ou n s)(hn:i64 n) :
  (Dn prog).call fA [A_ n,A_ s,.ptr p 0] ⟨hp x,N⟩=some (.tup [],⟨hp (.own false 1 (ai (b++ar n.toNat s.toNat))),N⟩):=by
 have h1:=λx hx=>md b n s hb hn x hx
 simp only[ac ho]at h1;rw[ba Y9 YO rfl];rcases hx with rfl|rfl|⟨rfl,rfl⟩
 .have h2:=h1 _ (.inl rfl);simp(maxSteps:=300000) (disch:=omega)[H.get,H.put,h2]
 .have h2:=h1 _ (.inl rfl);simp(maxSteps:=300000) (disch:=omega)[H.get,H.put,h2]
 .have h2:=h1 _ (.inr ⟨rfl,rfl⟩);simp(maxSteps:=300000) (disch:=omega)[H.get,H.put,h2]
def Iv {hp:AV->am}{p N:Nat}(H:Hv hp p){x:AV}{b:C_}(hx:inB x b)(hb:b.length<=900000000)(n s:Nat)(hs:s<=31)(ho:n<2 ^ s)(nI sI:Int)(en:nI=n)(es:sI=s) :
  (Dn prog).call fA [A_ nI,A_ sI,.ptr p 0] ⟨hp x,N⟩=some (.tup [],⟨hp (.own false 1 (ai (b++ar n s))),N⟩):=by
 subst en es;have h31:2 ^ s<=2 ^ 31:=aw o_ hs;exact afX H hx hb n s (by simp only[ou,au];omega) (by omega)
def aml (b:Bool):bj prog adY [B_ b]=some (A_ (cond b 1 0:Nat)):=by
 rw[aE arh ase rfl]
 cases b<;>simp(maxSteps:=300000) (disch:=omega)
abbrev hpW (C F:D_)(v:AV):am:=[(0,.cells C),(1,.cells F),(2,.cells [v])]
def azq (C F:D_):Hv (hpW C F) 2:=⟨λv=>by simp,λv w=>by simp⟩
def t8 (l:U_):C_:=l.flatMap λb=>ar (cond b 1 0) 1
def RR:∀{l:U_},(t8 l).length=l.length
 |[]=>rfl
 |n::r=>by have:=RR (l:=r);rw[t8]at this⊢;rw[aD,aj,df,aq];omega
def an6 (C F:D_)(l:U_)(hl:l.length<=1000000)(N:Nat):∀(r:U_) (i:Nat) (b:C_),l.drop i=r->b.length+r.length<=900000000->
  (Dn prog).code (.loop tY) ⟨[(2,.ptr 0 0),(3,.ptr 1 0),(4,.ptr 2 0),(5,.fn fA [] [.ptr 2 0]),(45,aG 1 (gS l)),(46,A_ l.length),(47,A_ i)],⟨hpW C F (.own false 1 (ai b)),N⟩⟩ =
  some (.exit 1,⟨[(2,.ptr 0 0),(3,.ptr 1 0),(4,.ptr 2 0),(5,.fn fA [] [.ptr 2 0])],⟨hpW C F (.own false 1 (ai (b++t8 r))),N⟩⟩):=by
 intro r
 induction r with
 |nil =>
  intro i b hd hb;have hi:=aY hd;rw[ah JZ];simp(maxSteps:=300000) (disch:=omega)[↓aa,t8]
 |cons x r ih =>
  intro i b hd hb;simp only[aq]at hb;have hg:=amV hd;have hlt:=bw hd;have hne:gS l≠[]:=λh=>by have:=aV List.length h;rw[sS,bg]at this;omega
  have hc:(cond x 1 0:Nat)<=1:=by cases x<;>decide
  have h1:=Iv (azq C F) (N:=N) (jT (b:=b)) o_ (cond x 1 0) 1 k_ o_ (cond x 1 0:Nat) 1 rfl rfl;have h2:=aml x;have h5:=ih (i+1) (b++ar (cond x 1 0) 1) (bt hd) g_;have c1:((i+1:Nat):Int)=(i:Int)+1:=rfl;rw[c1,aA,mc hne]at h5;have e:t8 (x::r)=ar (cond x 1 0) 1++t8 r:=rfl;simp only[hpW]at h1 h5⊢;rw[ah JZ,e,<-h5,mc hne];generalize ((cond x 1 0:Nat):Int)=K at *;simp(maxSteps:=300000) (disch:=omega)[↓ac,↓aa,hg,h1,h2]
def iB (rt:Nat)(q:Bool)(l:AH_):C_:=l.flatMap λc=>Dq rt c q
def PI {rt:Nat}{q:Bool}(hR:rt<=11):∀{l:AH_},(∀c∈l,c.Fit∧nC rt c)->(iB rt q l).length<=170000000*l.length
 |[],_=>by simp[iB]
 |c::r,h=>by
  have a:=ahB (h c (.head _)).1 (h c (.head _)).2 hR q;have b:=PI hR (l:=r) (q:=q) λx hx=>h x (.tail _ hx)
  rw[iB]at b⊢;rw[aD,aj,aq];omega
def aoC (R:Nat)(hR:R<=11)(n:Int)(c2 c3:AV)(f:fe)(A:AV)(m:Int)(Y Z:AV)(l:AH_)(hl:l.length<=2)(hc:∀c∈l,c.Fit∧nC R c):∀(r:AH_) (i N:Nat) (b:C_),l.drop i=r->b.length<=1000+170000000*i->3<=N->
  ∃M,(Dn prog).code (.loop uo) ⟨[(2,.ptr 0 0),(3,.ptr 1 0),(4,.ptr 2 0),(5,.fn fA [] [.ptr 2 0]),(63,.d (.lst (dP l))),(64,A_ l.length),(65,A_ i)],⟨hpW [A_ R,A_ n,c2,c3] [A,B_ f.common,A_ m,Y,Z] (.own false 1 (ai b)),N⟩⟩ =
  some (.exit 3,⟨[(3,.ptr 1 0),(4,.ptr 2 0),(5,.fn fA [] [.ptr 2 0])],⟨[(1,.cells [A,B_ f.common,A_ m,Y,Z]),(2,.cells [.own false 1 (ai (b++iB R f.common r))])],M⟩⟩):=by
 intro r
 induction r with
 |nil =>
  intro i N b hd hb hN;have hi:=aY hd;refine⟨N,?_⟩;rw[ah JY];simp(maxSteps:=300000) (disch:=omega)[↓aa,iB]
 |cons c r ih =>
  intro i N b hd hb hN;have hg:=AQ hd;have hlt:=bw hd;obtain⟨hcf,hcm⟩:=hc c (bJ (by rw[hd];exact .head _));have hil:=ahB hcf hcm hR f.common;have hp:bj prog GF [.d (.lst (ai b)),A_ R,.agg c.av,B_ f.common]=some (.tup [.own true 1 (ai (b++Dq R c f.common)),A_ 0]):=by
   rcases aw4 b o_ _ (.inl rfl) R c hcf f.common with ⟨_,_,h⟩|⟨e,he,h,h2,_⟩
   .simpa using h
   .exact absurd hcm (by have:=h2 (by simp only[dW];omega);simpa using this)
  simp only[cK.av]at hp;obtain⟨M,h5⟩:=ih (i+1) (N+1) (b++Dq R c f.common) (bt hd) g_ o_;refine⟨M,?_⟩;have c1:((i+1:Nat):Int)=(i:Int)+1:=rfl;rw[c1,aA]at h5;have e:iB R f.common (c::r)=Dq R c f.common++iB R f.common r:=rfl;have n0:N≠0∧N≠1∧N≠2:=o_;simp only[hpW]at h5⊢;rw[ah JY,e,<-h5];generalize b++Dq R c f.common=B1 at *;simp(maxSteps:=300000) (disch:=omega)[↓ac,↓aa,hg,hp]
abbrev kC:=@Int.tmod_eq_emod_of_nonneg
def L3 (n:Nat):Nat:=(8-n % 8) % 8
def xR (b:C_):C_:=b++List.replicate (L3 b.length) 0
def mZ (l:C_):C_:=if l=[] then [] else ar 6 3++(ar (min l.length 15) 4++((if 15<=l.length then ar (l.length-14) 8 else [])++bY l))
def aG8:Hv (λv=>[(2,.cells [v])]) 2:=⟨λv=>by simp,λv w=>by simp⟩
def anA (F:D_):Hv (λv=>[(1,.cells F),(2,.cells [v])]) 2:=⟨λv=>by simp,λv w=>by simp⟩
def xa {a b:C_}:ai (a++b)=ai a++ai b:=by simp[ai]
def as3 {h:am}{b:C_}(hb:b.length<=900000000)(k:Nat)(hk:k<=8)(K:Int)(hK:K=k):Ie [.int .u8 0] h (.own false 1 (ai b)) (A_ K)=some (.own false 1 (ai (b++List.replicate k 0)),h):=by
 subst hK;have e1:eh (A_ k) aX=some k:=by rw[yk o_ (by simp only[aX];omega)];simp
 have e2:List.replicate k [D.int .u8 0]=ai (List.replicate k 0):=by simp[ai]
 have e3:(ai (List.replicate k 0)).length=k:=by rw[bD];simp
 have hl:=bD (l:=b);unfold Ie;rw[e1];simp only[e2,xa];generalize ai (List.replicate k 0)=Z at *;generalize ai b=B at *;simp(maxSteps:=300000) (disch:=omega);exact⟨o_,ac o_⟩
def akz (b:C_)(hb:b.length<=800000000)(N:Nat):(Dn prog).code (.seq rU (.seq rX .ret)) ⟨[(4,.ptr 2 0),(5,.fn fA [] [.ptr 2 0])],⟨[(2,.cells [.own false 1 (ai b)])],N⟩⟩ =
  some (.ret,⟨[(4,.ptr 2 0)],⟨[(2,.cells [.own false 1 (ai (xR (b++ar 7 3)))])],N⟩⟩):=by
 have h1:=Iv aG8 (N:=N) (jT (b:=b)) o_ 7 3 k_ k_ 7 3 rfl rfl;have hl:(ai (b++ar 7 3)).length=b.length+3:=by rw[bD,aj,df]
 obtain⟨r,hr⟩:∃r,r=(b.length+3) % 8:=⟨_,rfl⟩
 have t1:((b.length:Int)+3).tmod 8=(r:Int):=by rw[kC o_];omega
 have t2:(8-(r:Int)).tmod 8=(((8-r) % 8:Nat):Int):=by rw[kC o_];omega
 have e:b++ar 7 3++List.replicate ((8-r) % 8) 0=xR (b++ar 7 3):=by rw[xR,L3,aj,df,hr]
 have h2:=λh K hK=>as3 (h:=h) (b:=b++ar 7 3) g_ ((8-r) % 8) o_ K hK
 rw[e]at h2;have h3:=λh=>h2 h _ t2
 generalize xR (b++ar 7 3)=B2 at *;generalize b++ar 7 3=B1 at *;simp(maxSteps:=300000) (disch:=omega)[↓ac,↓aa,h1,hl,t1,h3]
def aiT (A0 A1 A2 A3 Z:AV)(l:C_)(hl:l.length<=269)(hl2:∀n∈l,n<=255)(hZ:dZ Z (ai l))(b:C_)(hb:b.length<=700000000)(N:Nat)(T:VC) :
  (Dn prog).code (.seq (.seq r9
 (.seq r8
 (.cond (.m 84)
 (.seq rW
 (.seq rJ
 (.seq (.seq rY
 (.cond (.m 92)
 r7
 (.seq (K [10]) .skip)))
 (.seq (.seq rS (F 3))
 rT))))
 (.seq (.seq (K [10]) (F 3)) .skip)))) T) ⟨[(3,.ptr 1 0),(4,.ptr 2 0),(5,.fn fA [] [.ptr 2 0])],⟨[(1,.cells [A0,A1,A2,A3,Z]),(2,.cells [.own false 1 (ai b)])],N⟩⟩ =
  (Dn prog).code T ⟨[(4,.ptr 2 0),(5,.fn fA [] [.ptr 2 0])],⟨[(2,.cells [.own false 1 (ai (b++mZ l))])],N⟩⟩:=by
 obtain⟨⟨z1,z2,z3⟩,z4,z5⟩:=hZ.facts;have zl:=bD (l:=l);have hu:=FJ l o_ hl2 Z hZ;have ul:=fG (l:=l);have uz:=bD (l:=bY l);by_cases h0:l.length=0
 .have:l=[]:=ax h0;rw[mZ,ac this,bi];simp(maxSteps:=300000) (disch:=omega)[↓ac,↓aa,-br,z1,z2,z3,z4,z5]
 have hne:l≠[]:=λh=>h0 (by rw[h];rfl)
 have hze:=hZ.ne λh=>h0 (by rw[h]at zl;exact zl.symm)
 subst hze;rw[mZ,aa hne];have p1:=Iv (anA [A0,A1,A2,A3,.d (.lst (ai l))]) (N:=N) (jT (b:=b)) o_ 6 3 k_ k_ 6 3 rfl rfl;have p2:=λnI h=>Iv (anA [A0,A1,A2,A3,.d (.lst (ai l))]) (N:=N) (jT (b:=b++ar 6 3)) g_ (min l.length 15) 4 k_ o_ nI 4 h rfl
 by_cases h15:15<=l.length
 .have p3:=Iv (anA [A0,A1,A2,A3,.d (.lst (ai l))]) (N:=N) (jT (b:=b++ar 6 3++ar (min l.length 15) 4)) g_ (l.length-14) 8 k_ o_ ((l.length:Int)-14) 8 o_ rfl;rw[ac h15];simp only[<-aA];have hl3:(b++ar 6 3++ar (min l.length 15) 4++ar (l.length-14) 8).length<=800000000:=by simp;omega
  have e:ai (b++ar 6 3++ar (min l.length 15) 4++ar (l.length-14) 8)++ai (bY l)=ai (b++ar 6 3++ar (min l.length 15) 4++ar (l.length-14) 8++bY l):=xa.symm;generalize b++ar 6 3++ar (min l.length 15) 4++ar (l.length-14) 8++bY l=B9 at *;generalize b++ar 6 3++ar (min l.length 15) 4++ar (l.length-14) 8=B3 at *;generalize b++ar 6 3++ar (min l.length 15) 4=B2 at *;generalize b++ar 6 3=B1 at *;generalize bY l=U at *;by_cases h16:15<l.length
  .have p2:=p2 15 o_;simp(maxSteps:=300000) (disch:=omega)[↓ac,↓aa,-br,z1,z2,z3,z4,z5,p1,p2,p3,hu,e]
  .have p2:=p2 l.length o_;simp(maxSteps:=300000) (disch:=omega)[↓ac,↓aa,-br,z1,z2,z3,z4,z5,p1,p2,p3,hu,e]
 .rw[aa h15,aK];simp only[<-aA];have hl3:(b++ar 6 3++ar (min l.length 15) 4).length<=800000000:=by simp;omega
  have e:ai (b++ar 6 3++ar (min l.length 15) 4)++ai (bY l)=ai (b++ar 6 3++ar (min l.length 15) 4++bY l):=xa.symm;generalize b++ar 6 3++ar (min l.length 15) 4++bY l=B9 at *;generalize b++ar 6 3++ar (min l.length 15) 4=B2 at *;generalize b++ar 6 3=B1 at *;generalize bY l=U at *;have p2:=p2 l.length o_;simp(maxSteps:=300000) (disch:=omega)[↓ac,↓aa,-br,z1,z2,z3,z4,z5,p1,p2,hu,e]
def US (f:fe):C_:=match f.chans with
 |[]=>[]
 |c::_=>ln c.info
def gG (n:Int)(f:fe):C_:=if n=1 then ar 0 3++ar 0 4 else if f.common then ar 1 3++ar 0 4++ar 1 1++US f++ar f.mask.toNat 2++t8 f.bands.flatten else ar 1 3++ar 0 4++ar 0 1
def mU (R:Nat)(n:Int)(f:fe):C_:=xR (gG n f++iB R f.common f.chans++mZ f.fill++ar 7 3)
def ad7 {k:Nat}:∀{l:S_},(∀x∈l,x.length<=k)->l.flatten.length<=k*l.length
 |[],_=>by simp
 |x::r,h=>by
  have a:=h x (.head _);have b:=ad7 (l:=r) λy hy=>h y (.tail _ hy)
  rw[dC,aj,aq,Nat.mul_add];omega
def aex {R:Nat}(hR:R<=11){n:Int}{f:fe}(ok:uJ R n f):f.bands.flatten.length<=320:=by
 have h:=ok.rest
 cases hc:f.chans with
 |nil=>rw[hc]at h;exact h.elim
 |cons c r =>
  rw[hc]at h;have hm:=ok.may c (by rw[hc];exact .head _);have hmx:=jW (gy hR hm.info);obtain⟨g1,g2⟩:=dV (gy hR hm.info);have hmm:c.info.many<=8:=by unfold aN.many;split<;>omega
  have hgl:c.info.groups.length<=8:=by have:=nf (λn hn=>(g1 n hn).1);omega
  simp only[J6]at h;split at h
  .obtain⟨_,h⟩:=h;split at h
   .obtain⟨h1,h2⟩:=h;have:=ad7 (k:=40) (l:=f.bands) λx hx=>by have:=h2 x hx;omega
    omega
   .rw[h];simp
  .rw[h.2];simp
def dZ.view {x:AV}{l:E_}(h:dZ x l):(∀hp,viewArg hp x=some x)∧ug x=false:=by
 rcases h with rfl|⟨rfl,rfl⟩<;>exact⟨λ_=>rfl,rfl⟩
def WT (R:Nat)(hR:R<=11)(n:Int)(hn:n=1∨n=2)(cb:Bool)(cz:Int)(f:fe)(hf:f.Fit)(ok:uJ R n f)(X Y Z:AV)(hX:dZ X (dP f.chans))(hY:dZ Y (dw f.bands))(hZ:dZ Z (ai f.fill)) :
  bj prog QK [mp R n cb cz,qR f X Y Z]=some (.own true 1 (ai (mU R n f))):=by
 obtain⟨⟨y1,y2,y3⟩,y4,y5⟩:=hY.facts;obtain⟨⟨z1,z2,z3⟩,z4,z5⟩:=hZ.facts;have hlen:=ok.len;have hfl:=ok.fill;have hmk:=ok.mask;have hne:dP f.chans≠[]:=λh=>by have:=aV List.length h;rw[EX,bg]at this;omega
 have hxe:=hX.ne hne;subst hxe;have hmay:∀c∈f.chans,c.Fit∧nC R c:=λc hc=>⟨hf.chans.2 c hc,ok.may c hc⟩
 have hcl:=PI hR (q:=f.common) hmay;have hbl:=aex hR ok;have hr:dW R:=by simp only[dW];omega
 rw[aE af2 aeZ rfl];obtain⟨T,hT⟩:∃T,T=(VC.seq (.seq r9
 (.seq r8
 (.cond (.m 84)
 (.seq rW
 (.seq rJ
 (.seq (.seq rY
 (.cond (.m 92)
 r7
 (.seq (K [10]) .skip)))
 (.seq (.seq rS (F 3))
 rT))))
 (.seq (.seq (K [10]) (F 3)) .skip))))
 (.seq rU
 (.seq rX
 .ret))):=⟨_,rfl⟩
 rw[<-hT];have hfill:(mZ f.fill).length<=10000:=by
  unfold mZ;split
  .simp
  .simp only[aj,df,fG];split<;>simp<;>omega
 have hTr:∀(b:C_) (N:Nat),b.length<=600000000->(Dn prog).code T ⟨[(3,.ptr 1 0),(4,.ptr 2 0),(5,.fn fA [] [.ptr 2 0])],⟨[(1,.cells [.d (.lst (dP f.chans)),B_ f.common,A_ f.mask,Y,Z]),(2,.cells [.own false 1 (ai b)])],N⟩⟩=some (.ret,⟨[(4,.ptr 2 0)],⟨[(2,.cells [.own false 1 (ai (xR (b++mZ f.fill++ar 7 3)))])],N⟩⟩):=by
  intro b N hb;rw[hT,aiT _ _ _ _ Z f.fill hfl hf.fillI hZ b o_ N _,akz _ (by rw[aj];omega)]
 have hL:=fun(b:C_) (hb:b.length<=1000)=>aoC R hR n (B_ cb) (A_ cz) f (.d (.lst (dP f.chans))) f.mask Y Z f.chans o_ hmay f.chans 0 3 b rfl o_ (al _)
 have c0:((0:Nat):Int)=0:=rfl;simp only[c0,hpW]at hL;have pp:=λ{x:AV}{b:C_}(hx:inB x b) (hb:b.length<=1000)=>Iv (azq [A_ R,A_ n,B_ cb,A_ cz] [.d (.lst (dP f.chans)),B_ f.common,A_ f.mask,Y,Z]) (N:=3) hx (by omega)
 simp only[hpW]at pp;by_cases hn1:n=1
 .subst hn1;have q1:=pp (.inr (.inr ⟨rfl,rfl⟩)) s_ 0 3 k_ k_ 0 3 rfl rfl;have q2:=pp (jT (b:=[]++ar 0 3)) s_ 0 4 k_ k_ 0 4 rfl rfl;have e:gG 1 f=[]++ar 0 3++ar 0 4:=by rw[gG,ac rfl];rfl
  obtain⟨M,h1⟩:=hL (gG 1 f) (by rw[e];simp);have h2:=hTr (gG 1 f++iB R f.common f.chans) M (by rw[aj,e];simp;omega);have ew:xR (gG 1 f++iB R f.common f.chans++mZ f.fill++ar 7 3)=mU R 1 f:=rfl;rw[<-e]at q2;rw[ew]at h2;generalize mU R 1 f=W at *;generalize gG 1 f++iB R f.common f.chans=B2 at *;generalize gG 1 f=B1 at *;generalize []++ar 0 3=B0 at *;simp(maxSteps:=300000) (disch:=omega)[↓ac,↓aa,-br,y1,y2,y3,y4,y5,z1,z2,z3,z4,z5,q1,q2,h1,h2]
 have hn2:n=2:=o_;subst hn2
 cases hch:f.chans with
 |nil=>rw[hch]at hlen;simp at hlen
 |cons c r =>
 have hdr:f.chans.drop 0=c::r:=hch;obtain⟨k0,g0⟩:=aJ.1 (AQ hdr);have hcm:=ok.may c (by rw[hch];exact .head _);rw[<-hch];have q1:=pp (.inr (.inr ⟨rfl,rfl⟩)) s_ 1 3 k_ k_ 1 3 rfl rfl;have q2:=pp (jT (b:=[]++ar 1 3)) s_ 0 4 k_ k_ 0 4 rfl rfl;have hb1:=aml f.common;have xl:=EX (l:=f.chans)
 cases hco:f.common with
 |false =>
  have q3:=pp (jT (b:=[]++ar 1 3++ar 0 4)) s_ 0 1 k_ k_ 0 1 rfl rfl;have e:gG 2 f=[]++ar 1 3++ar 0 4++ar 0 1:=by rw[gG,aa k_,hco];rfl
  obtain⟨M,h1⟩:=hL (gG 2 f) (by rw[e];simp);have h2:=hTr (gG 2 f++iB R f.common f.chans) M (by rw[aj,e];simp;omega);have ew:xR (gG 2 f++iB R f.common f.chans++mZ f.fill++ar 7 3)=mU R 2 f:=rfl;rw[<-e]at q3;rw[ew]at h2;rw[hco]at q1 q2 q3 h1 h2 hb1;generalize mU R 2 f=W at *;generalize gG 2 f++iB R false f.chans=B2 at *;generalize gG 2 f=B1 at *;generalize []++ar 1 3++ar 0 4=B00 at *;generalize []++ar 1 3=B0 at *;simp only[cond]at hb1;simp(maxSteps:=300000) (disch:=omega)[↓ac,↓aa,-br,y1,y2,y3,y4,y5,z1,z2,z3,z4,z5,hco,hb1,q1,q2,q3,h1,h2]
 |true =>
  have ht:=ok.rest;simp only[hch,J6,hco,bh]at ht;have hil:=K0 (i:=c.info);have q3:=pp (jT (b:=[]++ar 1 3++ar 0 4)) s_ 1 1 k_ k_ 1 1 rfl rfl;have q4:=aiW ([]++ar 1 3++ar 0 4++ar 1 1) s_ _ (.inl rfl) R c.info (hf.chans.2 c (by rw[hch];exact .head _)).info;rw[ac hr,au,ac hcm.info]at q4;have q5:=pp (jT (b:=[]++ar 1 3++ar 0 4++ar 1 1++ln c.info)) g_ f.mask.toNat 2 k_ o_ f.mask 2 o_ rfl;have q6:=an6 [A_ R,A_ 2,B_ cb,A_ cz] [.d (.lst (dP f.chans)),B_ true,A_ f.mask,Y,Z] f.bands.flatten o_ 3 f.bands.flatten 0 ([]++ar 1 3++ar 0 4++ar 1 1++ln c.info++ar f.mask.toNat 2) rfl (by simp only[aj,df,bg];omega);obtain⟨v,v1,v2⟩:=ay4 f.bands hf.bands.1 o_ Y hY;have e:gG 2 f=[]++ar 1 3++ar 0 4++ar 1 1++ln c.info++ar f.mask.toNat 2++t8 f.bands.flatten:=by rw[gG,aa k_,hco,ac rfl,US,hch];rfl
  have hml:=RR (l:=f.bands.flatten);obtain⟨M,h1⟩:=hL (gG 2 f) (by rw[e];simp;omega);have h2:=hTr (gG 2 f++iB R f.common f.chans) M (by rw[aj,e];simp;omega);have ew:xR (gG 2 f++iB R f.common f.chans++mZ f.fill++ar 7 3)=mU R 2 f:=rfl;rw[<-e]at q6;rw[ew]at h2;rw[hco]at q1 q2 q3 q5 h1 h2 hb1;rw[c0]at q6;simp only[hpW,aN.cells]at q4 q6;generalize mU R 2 f=W at *;generalize gG 2 f++iB R true f.chans=B2 at *;generalize gG 2 f=B1 at *;generalize []++ar 1 3++ar 0 4++ar 1 1++ln c.info++ar f.mask.toNat 2=B04 at *;generalize []++ar 1 3++ar 0 4++ar 1 1++ln c.info=B03 at *;generalize []++ar 1 3++ar 0 4++ar 1 1=B02 at *;generalize []++ar 1 3++ar 0 4=B01 at *;generalize []++ar 1 3=B0 at *;obtain⟨vw1,vw2⟩:=hY.view;have hfv:lenOf (share (aG 1 (gS f.bands.flatten)))=some f.bands.flatten.length:=by
   rw[<-sS (l:=f.bands.flatten)]
   cases gS f.bands.flatten<;>rfl
  simp only[cond]at hb1;clear e hbl hml;generalize f.bands.flatten=FL at *;simp(maxSteps:=300000) (disch:=omega)[↓ac,↓aa,-br,y1,y2,y3,y4,y5,z1,z2,z3,z4,z5,hco,g0,hb1,q1,q2,q3,q4,q5,q6,vw1,vw2,v1,v2,hfv,h1,h2]
def pw (rt n:Int):Prop:=dW rt∧(n=1∨n=2)
def aaO (rt n:Int)(cb:Bool)(cz:Int):(pw rt n∧bj prog I1 [mp rt n cb cz]=some (B_ true))∨(¬pw rt n∧bj prog I1 [mp rt n cb cz]=some (B_ false)):=by
 rw[aE aju ahX rfl];by_cases h1:0<=rt
 rotate_left
 .refine .inr ⟨λh=>h1 h.1.1,?_⟩;simp(maxSteps:=300000) (disch:=omega)[↓ac,↓aa]
 by_cases h2:rt<=11
 rotate_left
 .refine .inr ⟨λh=>h2 h.1.2,?_⟩;simp(maxSteps:=300000) (disch:=omega)[↓ac,↓aa]
 by_cases h3:n=1
 .refine .inl ⟨⟨⟨h1,h2⟩,.inl h3⟩,?_⟩;simp(maxSteps:=300000) (disch:=omega)[↓ac,↓aa,h3]
 by_cases h4:n=2
 .refine .inl ⟨⟨⟨h1,h2⟩,.inr h4⟩,?_⟩;simp(maxSteps:=300000) (disch:=omega)[↓ac,↓aa,h4]
 .refine .inr ⟨λh=>h.2.elim h3 h4,?_⟩;simp(maxSteps:=300000) (disch:=omega)[↓ac,↓aa,h3,h4]
def amk {R:Nat}(hR:R<=11){n:Int}{f:fe}(hf:f.Fit)(ok:uJ R n f)(hn:n<=2):(mU R n f).length<=400000000:=by
 have h1:=PI hR (q:=f.common) (l:=f.chans) λc hc=>⟨hf.chans.2 c hc,ok.may c hc⟩
 have h2:=aex hR ok;have h3:=RR (l:=f.bands.flatten);have h4:=ok.len;have h5:=ok.fill;have h6:(mZ f.fill).length<=10000:=by
  unfold mZ;split
  .simp
  .simp only[aj,df,fG];split<;>simp<;>omega
 have h7:(US f).length<=20:=by
  unfold US;split
  .simp
  .exact K0
 have h8:(gG n f).length<=1000:=by
  unfold gG;split
  .simp
  .split
   .simp only[aj,df];omega
   .simp
 have h9:∀m,L3 m<=7:=λm=>by unfold L3;omega
 have h10:=h9 (gG n f++iB R f.common f.chans++mZ f.fill++ar 7 3).length;rw[mU,xR,aj,bm];simp only[aj,df]at h10⊢;omega
theorem dZ.one {x:AV}{l:E_}(h:dZ x l):((∀hp,viewOne hp x=some x)∧ot x=x)∧wd x=false:=by
 rcases h with rfl|⟨rfl,rfl⟩<;>exact⟨⟨λ_=>rfl,rfl⟩,rfl⟩
def avD (rt n:Int)(cb:Bool)(cz:Int)(f:fe)(hf:f.Fit)(X Y Z:AV)(hX:dZ X (dP f.chans))(hY:dZ Y (dw f.bands))(hZ:dZ Z (ai f.fill)) :
  (pw rt n∧uJ rt.toNat n f∧bj prog Qx [mp rt n cb cz,qR f X Y Z]=some (.tup [A_ ((mU rt.toNat n f).length),A_ 0]))∨
  (¬(pw rt n∧uJ rt.toNat n f)∧∃e:Int,e≠0∧bj prog Qx [mp rt n cb cz,qR f X Y Z]=some (.tup [A_ 0,A_ e])):=by
 obtain⟨⟨x1,x2,x3⟩,x4,x5⟩:=hX.facts;obtain⟨⟨y1,y2,y3⟩,y4,y5⟩:=hY.facts;obtain⟨⟨z1,z2,z3⟩,z4,z5⟩:=hZ.facts;obtain⟨⟨vx,ux⟩,wx⟩:=hX.one;obtain⟨⟨vy,uy⟩,wy⟩:=hY.one;obtain⟨⟨vz,uz⟩,wz⟩:=hZ.one;have hcf:=aaO rt n cb cz;simp only[mp,qR]at hcf;rcases hcf with ⟨hc,ec⟩|⟨hc,ec⟩
 rotate_left
 .refine .inr ⟨λh=>hc h.1,2,k_,?_⟩;rw[aE OO OM rfl];simp(maxSteps:=300000) (disch:=omega)[↓ac,↓aa,-br,x1,x2,x3,x4,y1,y2,y3,y4,z1,z2,z3,z4,ec]
 have hrg:=aqi rt n cb cz hc.1 hc.2 f hf X Y Z hX hY hZ;simp only[mp,qR]at hrg;rcases hrg with ⟨hr,er⟩|⟨hr,er⟩
 rotate_left
 .refine .inr ⟨λh=>hr h.2,8,k_,?_⟩;rw[aE OO OM rfl];simp(maxSteps:=300000) (disch:=omega)[↓ac,↓aa,-br,x1,x2,x3,x4,y1,y2,y3,y4,z1,z2,z3,z4,ux,uy,uz,vx,vy,vz,wx,wy,wz,ec,er]
 refine .inl ⟨hc,hr,?_⟩;obtain⟨R,rfl⟩:=aB hc.1.1;simp only[au]at hr⊢;have hR:R<=11:=by have:=hc.1.2;omega
 have hw:=WT R hR n hc.2 cb cz f hf hr X Y Z hX hY hZ;have hwl:=amk hR hf hr (by rcases hc.2 with h|h<;>omega);have hbl:=bD (l:=mU R n f);simp only[mp,qR]at hw;generalize mU R n f=W at *;rw[aE OO OM rfl];simp(maxSteps:=300000) (disch:=omega)[↓ac,↓aa,-br,x1,x2,x3,x4,y1,y2,y3,y4,z1,z2,z3,z4,ux,uy,uz,vx,vy,vz,wx,wy,wz,ec,er,hw]
def ad0 (rt n:Int)(cb:Bool)(cz:Int)(f:fe)(hf:f.Fit)(X Y Z:AV)(hX:dZ X (dP f.chans))(hY:dZ Y (dw f.bands))(hZ:dZ Z (ai f.fill)) :
  (pw rt n∧uJ rt.toNat n f∧((mU rt.toNat n f).length:Int)<=1536*n∧bj prog zN [mp rt n cb cz,qR f X Y Z]=some (A_ 0))∨
  (¬(pw rt n∧uJ rt.toNat n f∧((mU rt.toNat n f).length:Int)<=1536*n)∧∃e:Int,e≠0∧bj prog zN [mp rt n cb cz,qR f X Y Z]=some (A_ e)):=by
 obtain⟨⟨x1,x2,x3⟩,x4,x5⟩:=hX.facts;obtain⟨⟨y1,y2,y3⟩,y4,y5⟩:=hY.facts;obtain⟨⟨z1,z2,z3⟩,z4,z5⟩:=hZ.facts;obtain⟨⟨vx,ux⟩,wx⟩:=hX.one;obtain⟨⟨vy,uy⟩,wy⟩:=hY.one;obtain⟨⟨vz,uz⟩,wz⟩:=hZ.one;have hb:=avD rt n cb cz f hf X Y Z hX hY hZ;simp only[mp,qR]at hb;rw[aE akU alE rfl];rcases hb with ⟨hc,hr,eb⟩|⟨hx,e,he,eb⟩
 .have hwl:=amk (by have:=hc.1;omega) hf hr (by rcases hc.2 with h|h<;>omega);have hn:=hc.2;by_cases hl:((mU rt.toNat n f).length:Int)<=1536*n
  .refine .inl ⟨hc,hr,hl,?_⟩;generalize mU rt.toNat n f=W at *;simp(maxSteps:=300000) (disch:=omega)[↓ac,↓aa,-br,x1,x2,x3,x4,y1,y2,y3,y4,z1,z2,z3,z4,ux,uy,uz,vx,vy,vz,wx,wy,wz,eb]
  .refine .inr ⟨λh=>hl h.2.2,9,k_,?_⟩;generalize mU rt.toNat n f=W at *;simp(maxSteps:=300000) (disch:=omega)[↓ac,↓aa,-br,x1,x2,x3,x4,y1,y2,y3,y4,z1,z2,z3,z4,ux,uy,uz,vx,vy,vz,wx,wy,wz,eb]
 .refine .inr ⟨λh=>hx ⟨h.1,h.2.1⟩,e,he,?_⟩;simp(maxSteps:=300000) (disch:=omega)[↓ac,↓aa,-br,x1,x2,x3,x4,y1,y2,y3,y4,z1,z2,z3,z4,ux,uy,uz,vx,vy,vz,wx,wy,wz,eb,he]
def F0:fe:=⟨[c0],false,0,[],[]⟩
def aBM:nC 0 c0:=by
 rcases Oy 0 c0 aso with ⟨_,h,_⟩|⟨_,_,h⟩|⟨_,h⟩
 .exact h
 .rw[ajU]at h;simp at h
 .rw[ajU]at h;simp at h
def azm:F0.Fit where
 chans:=⟨by simp[F0],λc hc=>by simp only[F0,ay,cq,ee]at hc;subst hc;exact aso⟩
 mask:=k_
 bands:=by simp[F0]
 fill:=by simp[F0]
 fillI:=by simp[F0]
def avQ:pw 0 1∧uJ 0 1 F0:=by
 refine⟨⟨k_,.inl rfl⟩,rfl,k_,k_,λc hc=>?_,?_⟩
 .simp only[F0,ay,cq,ee]at hc;subst hc;exact aBM
 .exact⟨rfl,rfl⟩
def ayy:mU 0 1 F0=List.replicate 29 0++[1,1,1]:=e_
def BM {m:Nat}{xs:E_}:dZ (share (aG m xs)) xs:=by
 cases xs with
 |nil=>exact .inr ⟨rfl,rfl⟩
 |cons x r=>exact .inl rfl
def awW {n:Nat}:List.replicate n [D.bool false]=gS (List.replicate n false):=by simp[gS]
def x0T (sh:Bool):Nat:=if sh then 1 else 2
def x1T (sh:Bool):Nat:=if sh then 4 else 6
def x2T (sh:Bool):Nat:=if sh then 3 else 5
def Yh (b:C_)(i:aN)(a:Int):Option (N_×Bool×RS):=qb b (x0T i.short) (x1T i.short) (x2T i.short) i.many false ⟨a,0⟩
def Qf (b:C_)(i:aN)(a:Int):R N_ :=
 match Yh b i a with
 |none=>.er 7
 |some (t,o,st)=>if st.e≠0 then .er (st.e-1) else if o then .er 7 else .ok t st.a.toNat
def abj {b:C_}{x1 x2:Nat}{fine:Bool}:∀{k:Nat}{o:Bool}{st:RS}{l:AA_}{o2:Bool}{st2:RS},jB b x1 x2 fine k o st=some (l,o2,st2)->l.length=k∧∀f∈l,f.coefs.length<=12
 |0,o,st,l,o2,st2,e=>by
  rw[jB]at e;injection e with e
  injection e with e1 e
  subst e1;exact⟨rfl,s_⟩
 |k+1,o,st,l,o2,st2,e=>by
  rw[jB]at e;split at e
  .exact absurd e (by simp)
  .rename_i hbad
   cases hq:jB b x1 x2 fine k (o ||KD b x1 x2 fine st) (zk b x1 x2 fine st) with
   |none=>rw[hq]at e;exact absurd e (by simp)
   |some q =>
    obtain⟨q1,q2,q3⟩:=q;rw[hq]at e;injection e with e;injection e with e1 e
    obtain⟨i1,i2⟩:=abj hq;subst e1;refine⟨by simp[i1],λf hf=>?_⟩;rcases ay.1 hf with rfl|hf
    .unfold NA;split
     .simp
     .rename_i h0;simp only[adb];have he:(zQ b x1 x2 st).e=0:=aBx h0;rcases bC 12 (sM b x1 x2 st) with h|h
      .exact absurd ⟨h,he⟩ hbad
      .exact h
    .exact i2 f hf
def ZH {b:C_}{x0 x1 x2:Nat}(hb:b.length<=1000000000)(h2:x0<=2):∀{k:Nat}{o:Bool}{st:RS}{t:N_}{o2:Bool}{st2:RS},st.fit->qb b x0 x1 x2 k o st=some (t,o2,st2)->st2.fit∧t.length=k∧∀l∈t,l.length<=3∧∀f∈l,f.coefs.length<=12
 |0,o,st,t,o2,st2,h,e=>by
  rw[qb]at e;injection e with e
  injection e with e1 e
  injection e with e2 e3
  subst e1 e3;exact⟨h,rfl,s_⟩
 |k+1,o,st,t,o2,st2,h,e=>by
  rw[qb]at e
  cases hq:jB b x1 x2 (TS b x0 st) (sV b st x0) o (D4 b x0 st) with
  |none=>rw[hq]at e;exact absurd e (by simp)
  |some q =>
   obtain⟨q1,q2,q3⟩:=q;rw[hq]at e;simp only at e
   cases hw:qb b x0 x1 x2 k q2 q3 with
   |none=>rw[hw]at e;exact absurd e (by simp)
   |some w =>
    obtain⟨w1,w2,w3⟩:=w;rw[hw]at e;injection e with e;injection e with e1 e
    injection e with e2 e3
    obtain⟨f1,f2⟩:=Yl hb (am4 hb h) hq;obtain⟨i1,i2,i3⟩:=ZH hb h2 f1 hw;obtain⟨j1,j2⟩:=abj hq;have v1:=ww (b:=b) (st:=st) (s:=x0);have k1:2 ^ x0<=2 ^ 2:=aw o_ h2;simp only[au]at v1;subst e1 e3;refine⟨i1,by simp[i2],λl hl=>?_⟩;rcases ay.1 hl with rfl|hl
    .exact⟨o_,j2⟩
    .exact i3 l hl
abbrev pTn (b:C_)(i:aN)(t:N_)(n:Nat):Prop:=t.length=i.many∧n<=b.length∧∀l∈t,l.length<=3∧∀f∈l,f.coefs.length<=12
def auI {h:am}{t:N_}{n e:Int}(ht:t≠[]):ig h (.tup [aG 1 (cT t),A_ n,A_ e])=some (.tup [aG 1 (cT t),A_ n,A_ e]):=by
 cases t with
 |nil=>exact absurd rfl ht
 |cons x r=>rfl
def RS.inB (b:C_)(st:RS):Prop:=0<=st.a∧st.a<=b.length
def FM {b:C_}{st:RS}{s:Int}(h:st.e=0∨st.inB b):(sN b st s).inB b:=by
 unfold sN;split
 .have:=apC (b:=b) (a:=st.a) (s:=s);show 0<=_∧_;simp only[];omega
 .rename_i he;exact h.resolve_left he
def arM {b:C_}{sz:Nat}:∀{k:Nat}{st:RS},st.inB b->(xi b sz k st).inB b
 |0,_,h=>h
 |_+1,_,h=>by rw[xi];exact arM (FM (.inr h))
def aA4 {b:C_}{x1 x2:Nat}{fine:Bool}{st:RS}(h:st.inB b):(zk b x1 x2 fine st).inB b:=by
 unfold zk;split
 .exact FM (.inr (FM (.inr h)))
 .exact arM (FM (.inr (FM (.inr (FM (.inr (FM (.inr h))))))))
def amb {b:C_}{x1 x2:Nat}{fine:Bool}:∀{k:Nat}{o:Bool}{st:RS}{l:AA_}{o2:Bool}{st2:RS},st.inB b->jB b x1 x2 fine k o st=some (l,o2,st2)->st2.inB b
 |0,o,st,l,o2,st2,h,e=>by
  rw[jB]at e;injection e with e
  injection e with e1 e
  injection e with e2 e3
  subst e3;exact h
 |k+1,o,st,l,o2,st2,h,e=>by
  rw[jB]at e;split at e
  .exact absurd e (by simp)
  .cases hq:jB b x1 x2 fine k (o ||KD b x1 x2 fine st) (zk b x1 x2 fine st) with
   |none=>rw[hq]at e;exact absurd e (by simp)
   |some q =>
    obtain⟨q1,q2,q3⟩:=q;rw[hq]at e;injection e with e;injection e with e1 e
    injection e with e2 e3
    subst e3;exact amb (aA4 h) hq
def aAT {b:C_}{x0:Nat}{st:RS}(h:st.e=0∨st.inB b):(D4 b x0 st).inB b:=by
 unfold D4;split
 .exact FM (.inr (FM h))
 .exact FM h
def abO {b:C_}{x0 x1 x2:Nat}:∀{k:Nat}{o:Bool}{st:RS}{t:N_}{o2:Bool}{st2:RS},st.inB b∨(st.e=0∧1<=k)->qb b x0 x1 x2 k o st=some (t,o2,st2)->st2.inB b
 |0,o,st,t,o2,st2,h,e=>by
  rw[qb]at e;injection e with e
  injection e with e1 e
  injection e with e2 e3
  subst e3;rcases h with h|⟨_,h⟩
  .exact h
  .omega
 |k+1,o,st,t,o2,st2,h,e=>by
  rw[qb]at e
  cases hq:jB b x1 x2 (TS b x0 st) (sV b st x0) o (D4 b x0 st) with
  |none=>rw[hq]at e;exact absurd e (by simp)
  |some q =>
   obtain⟨q1,q2,q3⟩:=q;rw[hq]at e;simp only at e
   cases hw:qb b x0 x1 x2 k q2 q3 with
   |none=>rw[hw]at e;exact absurd e (by simp)
   |some w =>
    obtain⟨w1,w2,w3⟩:=w;rw[hw]at e;injection e with e;injection e with e1 e
    injection e with e2 e3
    subst e3;have h0:st.e=0∨st.inB b:=by rcases h with h|⟨h,_⟩;exact .inr h;exact .inl h
    exact abO (.inl (amb (aAT h0) hq)) hw
def z8 (i:aN):1<=i.many∧i.many<=8:=by unfold aN.many;split<;>omega
theorem ars {b:C_}{i:aN}{a:Int}(hb:b.length<=1000000000)(ha:i64 a){t:N_}{n:Nat}(h:Qf b i a=.ok t n):pTn b i t n:=by
 rw[Qf]at h
 cases hq:Yh b i a with
 |none=>rw[hq]at h;exact absurd h (by simp)
 |some q =>
  obtain⟨t',o,st⟩:=q;rw[hq]at h;simp only at h;rw[Yh]at hq;obtain⟨j1,j2,j3⟩:=ZH (st:=⟨a,0⟩) hb (by unfold x0T;split<;>omega) (show RS.fit ⟨a,0⟩ from ha) hq;have j4:=abO (.inr ⟨rfl,(z8 i).1⟩) hq;split at h
  .exact absurd h (by simp)
  .split at h
   .exact absurd h (by simp)
   .injection h with g1 g2
    subst g1 g2;obtain⟨k1,k2⟩:=j4;exact⟨j2,o_,j3⟩
def aj9 (b:C_)(hb:b.length<=1000000000)(a:Int)(ha:i64 a)(i:aN)(hi:i.Fit)(hm:i.may 11):bj prog QC [.d (.lst (ai b)),A_ a,.agg i.cells] =
  rK (pTn b i) (Qf b i a) (λt n=>some (.tup [aG 1 (cT t),A_ n,A_ 0])) (λe=>some (.tup [.nl,A_ 0,A_ (e+1)])):=by
 have hw:=oV i hi;rw[ac hm]at hw;have hsz:=Ax i;obtain⟨m1,m8⟩:=z8 i;obtain⟨M,hM,hL⟩:=axd b hb (A_ (if i.short then 1 else 3)) (A_ (if i.short then 7 else 12)) (x0T i.short) (x1T i.short) (x2T i.short) (by unfold x0T x1T x2T;cases i.short<;>decide) i.many m8 i.many 0 5 false ⟨a,0⟩ [] o_ rfl ha (al _);have c0:((0:Nat):Int)=0:=rfl;have n0:cT []=[]:=rfl;have hq0:qb b (x0T i.short) (x1T i.short) (x2T i.short) i.many false ⟨a,0⟩=Yh b i a:=rfl;have hra:ra ⟨a,0⟩=a:=rfl;have hre:re ⟨a,0⟩=0:=rfl;rw[hq0]at hL;simp only[c0,n0,qZ,aK,HT,hra,hre]at hL;have hszv:mP i.short=[A_ (x0T i.short:Nat),A_ (x1T i.short:Nat),A_ (x2T i.short:Nat),A_ (if i.short then 1 else 3),A_ (if i.short then 7 else 12)]:=by
  cases i.short<;>rfl
 rw[hszv]at hsz;have hp:=λt n=>ars (b:=b) (i:=i) (a:=a) (t:=t) (n:=n) hb ha
 have hin0:∀t o st,Yh b i a=some (t,o,st)->st.inB b:=λt o st h=>abO (.inr ⟨rfl,m1⟩) h
 rw[Qf]at hp⊢;rw[aE afy afp rfl];simp only[aN.cells]at hw hsz⊢;generalize x0T i.short=X0 at *;generalize x1T i.short=X1 at *;generalize x2T i.short=X2 at *;generalize (if i.short then (1:Int) else 3)=Y3 at *;generalize (if i.short then (7:Int) else 12)=Y4 at *
 cases hq:Yh b i a with
 |none =>
  rw[hq]at hL;simp only at hL⊢;rw[iV];simp(maxSteps:=300000) (disch:=omega)[↓ac,↓aa,hw,hsz,hL]
 |some q =>
  obtain⟨t,o,st⟩:=q;rw[hq]at hL hp;simp only at hL hp⊢;obtain⟨sa,se⟩:=st;by_cases he:se=0
  .subst he;have hin:=hin0 t o ⟨sa,0⟩ hq;obtain⟨k1,k2⟩:=hin;simp only at k1 k2;obtain⟨A,rfl⟩:=aB k1;have hra2:ra ⟨(A:Int),0⟩=(A:Int):=rfl;have hre2:re ⟨(A:Int),0⟩=0:=rfl;simp only[hra2,hre2,c0]at hL
   cases o with
   |true =>
    simp only[ne_eq,not_true_eq_false,bl,bh]at hp⊢;rw[iV];simp(maxSteps:=300000) (disch:=omega)[↓ac,↓aa,hw,hsz,hL]
   |false =>
    simp only[ne_eq,not_true_eq_false,bl,ao]at hp⊢;have hpt:=hp t _ rfl;have htn:t≠[]:=λh=>by rw[h]at hpt;have:=hpt.1;simp at this;omega
    rw[eY hpt];have hrt:=λh n e=>auI (h:=h) (n:=n) (e:=e) htn
    simp(maxSteps:=300000) (disch:=omega)[↓ac,↓aa,hw,hsz,hL,-aaG,hrt]
  .have hre2:re ⟨sa,se⟩=se:=rfl;have hse:((se-1:Nat):Int)+1=(se:Int):=o_;simp only[hre2]at hL;simp only[ne_eq,he,not_false_eq_true,bh]at hp⊢;rw[iV,hse];simp(maxSteps:=300000) (disch:=omega)[↓ac,↓aa,hw,hsz,hL,he]
abbrev Bl:D_:=[.ptr 0 0,.ptr 5 0,.ptr 4 0,.ptr 6 0]
abbrev aio:AV:=.fn L8 [] [.ptr 0 0,.ptr 5 0,.ptr 6 0]
abbrev xS:D_:=[.fn Ad [] Bl,.fn oJ [] [.ptr 3 0,.ptr 4 0,.ptr 2 0,.ptr 0 0,.ptr 5 0,.ptr 1 0,.ptr 6 0],.fn zR [] Bl,.fn zT [] Bl,.fn zV [] [.ptr 9 0,.ptr 7 0],.fn zX [] [.ptr 9 0,.ptr 8 0],.fn oF [] [.ptr 8 0,.ptr 0 0,.ptr 5 0,.ptr 4 0,.ptr 6 0],.fn zZ [] [.ptr 7 0,.ptr 9 0]]
abbrev fq (b:C_)(r:Int)(q:Bool)(iv cs:D_)(nx e od is:Int):am:=[(0,.cells [.d (.lst (ai b))]),(1,.cells [A_ r]),(2,.cells [B_ q]),(3,.cells iv),(4,.cells cs),(5,.cells [A_ nx]),(6,.cells [A_ e]),(7,.cells [A_ od]),(8,.cells [A_ is]),(9,.cells [aio]),(10,.cells xS)]
def atZ {m:Nat}{xs:E_}:CA (share (aG m xs))=share (aG m xs):=by cases xs<;>rfl
def af4 (x:AV)(l:G_)(hl:l.length<=1000000000)(hx:elems [] x=some (aH l)):bj prog D0 [x]=some (.own true 1 (aH l)):=by
 have hl2:(aH l).length=l.length:=iD;rw[aE Ry RI rfl];have h4:Nat.ble l.length 4294967296=true:=by rw[bn];omega
 rw[iW];simp(maxSteps:=300000) (disch:=omega)[db,Nh,hx,h4]
def aes (i:aN)(hi:i.groups.length<=1000000):bj prog FZ [.agg i.cells]=some (.agg (Sw i)):=by
 have h:=af4 (.d (.lst (aH i.groups))) i.groups o_ rfl;simp only[aN.cells];rw[aE alD ak3 rfl];simp(maxSteps:=300000) (disch:=omega)[↓ac,↓aa,h]
abbrev zI:D_:=[.d (.int .u8 0),.d (.int .u8 0),A_ 0,.nl]
def apu:bj prog FZ [.agg zI]=some (.agg (Sw ⟨0,0,0,[]⟩)):=BX 400 (by kernel_rfl)
section
variable (b:C_)(r:Int)(q:Bool)(iv:D_)(nx od is:Int)(N:Nat)
theorem ayd (hq:q=true)(i:aN)(hi:i.groups.length<=1000000)(hiv:iv=i.cells)(a0 a1 a2 a3 a4 a5 a6 a7 a8:AV):(Dn prog).call oJ [.ptr 3 0,.ptr 4 0,.ptr 2 0,.ptr 0 0,.ptr 5 0,.ptr 1 0,.ptr 6 0] ⟨fq b r q iv [a0,a1,a2,a3,a4,a5,a6,a7,a8] nx 0 od is,N⟩ =
  some (.tup [],⟨fq b r q iv [a0,.d (.int .u8 i.seq),.d (.int .u8 i.shape),A_ i.max,.own false 1 (aH i.groups),a5,a6,a7,a8] nx 0 od is,N⟩):=by
 subst hq hiv;have h:=aes i hi;simp only[aN.cells,Sw]at h⊢;rw[ba WM VJ rfl];simp(maxSteps:=300000) (disch:=omega)[↓ac,↓aa,h]
def axl (i:aN)(hi:i.Fit)(hm:i.may 11)(h1:is≠1)(a0 a5 a6 a7 a8:AV):(Dn prog).call oF [.ptr 8 0,.ptr 0 0,.ptr 5 0,.ptr 4 0,.ptr 6 0] ⟨fq b r q iv [a0,.d (.int .u8 i.seq),.d (.int .u8 i.shape),A_ i.max,.own false 1 (aH i.groups),a5,a6,a7,a8] nx 0 od is,N⟩ =
  some (.tup [],⟨fq b r q iv [a0,.d (.int .u8 i.seq),.d (.int .u8 i.shape),A_ i.max,.own false 1 (aH i.groups),a5,a6,.own false 1 (cT (List.replicate i.many [])),a8] nx 0 od is,N⟩):=by
 have hw:=oV i hi;rw[ac hm]at hw;have hmm:=z8 i;have hk:=Ek (z:=[.lst []]) (n:=i.many) o_;have e:List.replicate i.many [D.lst []]=cT (List.replicate i.many []):=by simp[cT,eU]
 rw[e]at hk;simp only[aN.cells]at hw;rw[ba WH V9 rfl];simp(maxSteps:=300000) (disch:=omega)[↓ac,↓aa,h1,hw,hk]
end
section
variable (b:C_)(hb:b.length<=1000000000)(r:Int)(q:Bool)(iv:D_)(nx od is:Int)(hn:i64 nx)(N:Nat)
include hb hn
theorem azu (a0 a1 a2 a3 a4 a5 a6 a7 a8:AV):(Dn prog).call Ad Bl ⟨fq b r q iv [a0,a1,a2,a3,a4,a5,a6,a7,a8] nx 0 od is,N⟩ =
  rK (pG b 8) (bf b nx 8) (λv n=>some (.tup [],⟨fq b r q iv [A_ v,a1,a2,a3,a4,a5,a6,a7,a8] n 0 od is,N⟩)) (λe=>some (.tup [],⟨fq b r q iv [A_ 0,a1,a2,a3,a4,a5,a6,a7,a8] 0 (e+1) od is,N⟩)):=by
 have h:=ic b nx 8 hb hn;rw[ba akR alU rfl];simp(maxSteps:=300000) (disch:=omega)[↓ac,↓aa,h]
theorem ao1 (cs:D_):(Dn prog).call L8 [.ptr 0 0,.ptr 5 0,.ptr 6 0] ⟨fq b r q iv cs nx 0 od is,N⟩ =
  rK (pG b 1) (bf b nx 1) (λv n=>some (A_ v,⟨fq b r q iv cs n 0 od is,N⟩)) (λe=>some (A_ 0,⟨fq b r q iv cs 0 (e+1) od is,N⟩)):=by
 have h:=ic b nx 1 hb hn;rw[ba aj5 akp rfl];simp(maxSteps:=300000) (disch:=omega)[↓ac,↓aa,h]
theorem az3 (cs:D_):(Dn prog).call zV [.ptr 9 0,.ptr 7 0] ⟨fq b r q iv cs nx 0 od is,N⟩ =
  rK (pG b 1) (bf b nx 1) (λv n=>some (.tup [],⟨fq b r q iv cs n 0 v is,N⟩)) (λe=>some (.tup [],⟨fq b r q iv cs 0 (e+1) 0 is,N⟩)):=by
 have h:=ao1 b hb r q iv nx od is hn N cs;rw[ba alC ala rfl];simp(maxSteps:=300000) (disch:=omega)[↓ac,↓aa,h]
theorem az8 (cs:D_):(Dn prog).call zX [.ptr 9 0,.ptr 8 0] ⟨fq b r q iv cs nx 0 od is,N⟩ =
  rK (pG b 1) (bf b nx 1) (λv n=>some (.tup [],⟨fq b r q iv cs n 0 od v,N⟩)) (λe=>some (.tup [],⟨fq b r q iv cs 0 (e+1) od 0,N⟩)):=by
 have h:=ao1 b hb r q iv nx od is hn N cs;rw[ba akY alQ rfl];simp(maxSteps:=300000) (disch:=omega)[↓ac,↓aa,h]
theorem azI (cs:D_)(ho:0<=od∧od<=1):(Dn prog).call zZ [.ptr 7 0,.ptr 9 0] ⟨fq b r q iv cs nx 0 od is,N⟩ =
  rK (pG b 1) (bf b nx 1) (λv n=>some (.tup [],⟨fq b r q iv cs n 0 (orB od v) is,N⟩)) (λe=>some (.tup [],⟨fq b r q iv cs 0 (e+1) od is,N⟩)):=by
 have h:=ao1 b hb r q iv nx od is hn N cs;rw[ba alk ak9 rfl];simp(maxSteps:=300000) (disch:=omega)[↓ac,↓aa,h];refine ZF (λ_ _ h=>eC h) (λv n e2 hp=>?_) λe e2=>by simp(maxSteps:=300000) (disch:=omega)[YK]
 have hv:v<2:=hp.1;simp(maxSteps:=300000) (disch:=omega)[YK]
theorem az7 (i:aN)(hi:i.Fit)(hm:i.may 11)(hg:i.groups≠[])(a0 a5 a6 a7 a8:AV):(Dn prog).call zR Bl ⟨fq b r q iv [a0,.d (.int .u8 i.seq),.d (.int .u8 i.shape),A_ i.max,.own false 1 (aH i.groups),a5,a6,a7,a8] nx 0 od is,N⟩ =
  rK (WZ b i.max.toNat i.groups.length) (vS b i nx) (λg n=>some (.tup [],⟨fq b r q iv [a0,.d (.int .u8 i.seq),.d (.int .u8 i.shape),A_ i.max,.own false 1 (aH i.groups),aG 1 (bF g),a6,a7,a8] n 0 od is,N⟩)) (λe=>some (.tup [],⟨fq b r q iv [a0,.d (.int .u8 i.seq),.d (.int .u8 i.shape),A_ i.max,.own false 1 (aH i.groups),.nl,a6,a7,a8] 0 (e+1) od is,N⟩)):=by
 have h:=asZ b nx i hb hn hi hm;simp only[aN.cells]at h;rw[ba aj4 aky rfl];simp(maxSteps:=300000) (disch:=omega)[↓ac,↓aa,-br,h]
theorem aAR (g:Int)(hg:0<=g∧g<=255)(m:Int)(hm:0<=m∧m<=40)(S:H_)(hS:S≠[])(hl:S.length<=8)(hf:fI m S)(hf2:∀l∈S,l.length<=1000)(hok:∀l∈S,agn l∧aoz l)(a1 a2 a3 a4 a6 a7 a8:AV):(Dn prog).call zT Bl ⟨fq b r q iv [A_ g,a1,a2,a3,a4,aG 1 (bF S),a6,a7,a8] nx 0 od is,N⟩ =
  rK (pSc b S) (zS b S nx g) (λt n=>some (.tup [],⟨fq b r q iv [A_ g,a1,a2,a3,a4,aG 1 (bF S),share (aG 1 (cZ t)),a7,a8] n 0 od is,N⟩)) (λe=>some (.tup [],⟨fq b r q iv [A_ g,a1,a2,a3,a4,aG 1 (bF S),.nl,a7,a8] 0 (e+1) od is,N⟩)):=by
 have h:=arg b hb nx g m hn hg S hl hm hf hf2 hok;rw[ba aku alI rfl]
 cases S with
 |nil=>exact absurd rfl hS
 |cons s0 S0 =>
  have e:aG 1 (bF (s0::S0))=.own false 1 (bF (s0::S0)):=rfl;rw[e];simp(maxSteps:=300000) (disch:=omega)[↓ac,↓aa,-br,h,al3,atZ,air,II,FD]
theorem amB (hq:q=false)(hr:dW r)(i:aN)(hi:i.groups.length<=1000000)(hiv:iv=i.cells∨iv=zI)(a0 a1 a2 a3 a4 a5 a6 a7 a8:AV):(Dn prog).call oJ [.ptr 3 0,.ptr 4 0,.ptr 2 0,.ptr 0 0,.ptr 5 0,.ptr 1 0,.ptr 6 0] ⟨fq b r q iv [a0,a1,a2,a3,a4,a5,a6,a7,a8] nx 0 od is,N⟩ =
  rK (pI b r.toNat) (nj b nx r.toNat) (λj n=>some (.tup [],⟨fq b r q iv [a0,.d (.int .u8 j.seq),.d (.int .u8 j.shape),A_ j.max,.own false 1 (aH j.groups),a5,a6,a7,a8] n 0 od is,N⟩)) (λe=>some (.tup [],⟨fq b r q iv [a0,.d (.int .u8 0),.d (.int .u8 0),A_ 0,.nl,a5,a6,a7,a8] 0 (e+1) od is,N⟩)):=by
 subst hq;have h:=aes i hi;have h0:=apu;have hG:=XL b nx r hb hn;rw[ac hr]at hG;rcases hiv with rfl|rfl
 all_goals
  simp only[aN.cells,Sw,XI]at h hG⊢;rw[ba WM VJ rfl];simp(maxSteps:=300000) (disch:=omega)[↓ac,↓aa,h,h0,hG]
theorem amT (i:aN)(hi:i.Fit)(hm:i.may 11)(h1:is=1)(a0 a5 a6 a7 a8:AV):(Dn prog).call oF [.ptr 8 0,.ptr 0 0,.ptr 5 0,.ptr 4 0,.ptr 6 0] ⟨fq b r q iv [a0,.d (.int .u8 i.seq),.d (.int .u8 i.shape),A_ i.max,.own false 1 (aH i.groups),a5,a6,a7,a8] nx 0 od is,N⟩ =
  rK (pTn b i) (Qf b i nx) (λt n=>some (.tup [],⟨fq b r q iv [a0,.d (.int .u8 i.seq),.d (.int .u8 i.shape),A_ i.max,.own false 1 (aH i.groups),a5,a6,aG 1 (cT t),a8] n 0 od is,N⟩)) (λe=>some (.tup [],⟨fq b r q iv [a0,.d (.int .u8 i.seq),.d (.int .u8 i.shape),A_ i.max,.own false 1 (aH i.groups),a5,a6,.nl,a8] 0 (e+1) od is,N⟩)):=by
 subst h1;have h:=aj9 b hb nx hn i hi hm;simp only[aN.cells]at h;rw[ba WH V9 rfl];simp(maxSteps:=300000) (disch:=omega)[↓ac,↓aa,-br,h]
end
abbrev ags:D_:=[A_ 0,.d (.int .u8 0),.d (.int .u8 0),A_ 0,.nl,.nl,.nl,.nl,.nl]
abbrev adm (i:Int):aW:=[(5,.ptr 0 0),(7,.ptr 1 0),(10,.ptr 4 0),(11,.ptr 5 0),(12,.ptr 6 0),(13,.ptr 7 0),(14,.ptr 8 0),(60,.sl 10 0 8),(61,A_ 8),(62,A_ i)]
abbrev az2:aW:=[(5,.ptr 0 0),(7,.ptr 1 0),(10,.ptr 4 0),(11,.ptr 5 0),(12,.ptr 6 0),(13,.ptr 7 0),(14,.ptr 8 0)]
section
variable (b:C_)(r:Int)(q:Bool)(iv:D_)(N:Nat)
def asi {cs cs2:D_}{nx nx2 e0 od od2 is is2:Int}(i:Nat)(hi:i<8)(f:FuncId)(caps:D_)(hF:xS[i]?=some (.fn f [] caps))(hF2:firm (firm (firm (share (.fn f [] caps))))=.fn f [] caps)
  (h:(Dn prog).call f caps ⟨fq b r q iv cs nx 0 od is,N⟩=some (.tup [],⟨fq b r q iv cs2 nx2 0 od2 is2,N⟩)) :
  (Dn prog).code (.loop kQ) ⟨adm i,⟨fq b r q iv cs nx e0 od is,N⟩⟩=(Dn prog).code (.loop kQ) ⟨adm ((i+1:Nat):Int),⟨fq b r q iv cs2 nx2 0 od2 is2,N⟩⟩:=by
 have c1:((i+1:Nat):Int)=(i:Int)+1:=rfl;obtain⟨hlt,e⟩:=aJ.1 hF;rw[c1,ah JS];simp(maxSteps:=300000) (disch:=omega)[↓ac,↓aa,e,hF2,h]
theorem aBj {cs:D_}{a0 a1 a2 a3 a4 a5 a6 a7 a8:AV}{nx nx2 e0 od od2 is is2:Int}(i:Nat)(hi:i<8)(f:FuncId)(caps:D_)(hF:xS[i]?=some (.fn f [] caps))(hF2:firm (firm (firm (share (.fn f [] caps))))=.fn f [] caps)(e:Nat)
  (h:(Dn prog).call f caps ⟨fq b r q iv cs nx 0 od is,N⟩=some (.tup [],⟨fq b r q iv [a0,a1,a2,a3,a4,a5,a6,a7,a8] nx2 ((e:Int)+1) od2 is2,N⟩)) :
  (Dn prog).code (.loop kQ) ⟨adm i,⟨fq b r q iv cs nx e0 od is,N⟩⟩=some (.ret,⟨[(10,.ptr 4 0),(11,.ptr 5 0),(12,.ptr 6 0)],⟨fq b r q iv ags 0 ((e:Int)+1) od2 is2,N⟩⟩):=by
 obtain⟨hlt,e1⟩:=aJ.1 hF;rw[ah JS];simp(maxSteps:=300000) (disch:=omega)[↓ac,↓aa,e1,hF2,h]
theorem awR {cs:D_}{nx e0 od is:Int}:(Dn prog).code (.loop kQ) ⟨adm 8,⟨fq b r q iv cs nx e0 od is,N⟩⟩=some (.exit 0,⟨az2,⟨fq b r q iv cs nx e0 od is,N⟩⟩):=by
 rw[ah JS];simp(maxSteps:=300000) (disch:=omega)[↓ac,↓aa]
end
abbrev qc:=@Int.toNat_of_nonneg
structure Hd where
 gain:Nat
 inf:aN
 S:H_
 T:J_
 F:N_
 od:Int
 is:Nat
def De (b:C_)(a:Int)(r:Nat)(q:Bool)(i:aN):R Hd :=
 (bf b a 8).bind λg n=>(if q then R.ok i n else nj b n r).bind λj n=>(vS b j n).bind λS n=>(zS b S n g).bind λT n =>
  (bf b n 1).bind λo n=>(bf b n 1).bind λs n=>(if s=1 then Qf b j n else R.ok (List.replicate j.many []) n).bind λF n=>(bf b n 1).bind λp n=>R.ok ⟨g,j,S,T,F,orB o p,s⟩ n
abbrev ag5 (H:Hd):D_:=[A_ H.gain,.d (.int .u8 H.inf.seq),.d (.int .u8 H.inf.shape),A_ H.inf.max,.own false 1 (aH H.inf.groups),aG 1 (bF H.S),share (aG 1 (cZ H.T)),aG 1 (cT H.F),.nl]
section
variable (b:C_)(r:Int)(q:Bool)(iv:D_)(N:Nat)
def XH (e0:Int)(i:Nat)(cs:D_)(nx od is:Int)(x:R Hd):Prop :=
 (∀H n,x=.ok H n->(Dn prog).code (.loop kQ) ⟨adm i,⟨fq b r q iv cs nx e0 od is,N⟩⟩=some (.exit 0,⟨az2,⟨fq b r q iv (ag5 H) n 0 H.od H.is,N⟩⟩))∧
 (∀e,x=.er e->∃od2 is2,(Dn prog).code (.loop kQ) ⟨adm i,⟨fq b r q iv cs nx e0 od is,N⟩⟩=some (.ret,⟨[(10,.ptr 4 0),(11,.ptr 5 0),(12,.ptr 6 0)],⟨fq b r q iv ags 0 ((e:Int)+1) od2 is2,N⟩⟩))
theorem aAQ {e0:Int}{i:Nat}{cs cs2:D_}{nx nx2 od od2 is is2:Int}{x:R Hd}(hi:i<8)(f:FuncId)(caps:D_)(hF:xS[i]?=some (.fn f [] caps))(hF2:firm (firm (firm (share (.fn f [] caps))))=.fn f [] caps)
  (h:(Dn prog).call f caps ⟨fq b r q iv cs nx 0 od is,N⟩=some (.tup [],⟨fq b r q iv cs2 nx2 0 od2 is2,N⟩))(ho:XH b r q iv N 0 (i+1) cs2 nx2 od2 is2 x):XH b r q iv N e0 i cs nx od is x:=by
 refine⟨λH n e=>?_,λe h2=>?_⟩
 .rw[asi b r q iv N i hi f caps hF hF2 h];exact ho.1 H n e
 .rw[asi b r q iv N i hi f caps hF hF2 h];exact ho.2 e h2
theorem aBC {e0:Int}{i:Nat}{cs:D_}{a0 a1 a2 a3 a4 a5 a6 a7 a8:AV}{nx nx2 od od2 is is2:Int}{e:Nat}(hi:i<8)(f:FuncId)(caps:D_)(hF:xS[i]?=some (.fn f [] caps))(hF2:firm (firm (firm (share (.fn f [] caps))))=.fn f [] caps)
  (h:(Dn prog).call f caps ⟨fq b r q iv cs nx 0 od is,N⟩=some (.tup [],⟨fq b r q iv [a0,a1,a2,a3,a4,a5,a6,a7,a8] nx2 ((e:Int)+1) od2 is2,N⟩)):XH b r q iv N e0 i cs nx od is (.er e):=by
 refine⟨λH n h2=>absurd h2 s_,λe' h2=>?_⟩
 grind [aBj]
end
def anL {b:C_}{i:aN}{g:H_}{n:Nat}(hm:i.may 11)(h:WZ b i.max.toNat i.groups.length g n) :
  g≠[]∧g.length<=8∧jZ i g∧(∀l∈g,l.length<=100)∧∀l∈g,agn l∧aoz l:=by
 obtain⟨h1,h2,h3⟩:=h;have hmx:=jW hm;obtain⟨q1,q2⟩:=dV hm;have hmm:=z8 i;have hgl:i.groups.length<=8:=by have:=nf (λn hn=>(q1 n hn).1);omega
 have hgn:i.groups≠[]:=λh=>by grind
 have hg1:=bL.2 hgn;have hmc:((i.max.toNat:Nat):Int)=i.max:=qc hmx.1;have hf:∀l∈g,fitsS i.max l:=λl hl=>by simp_all
 refine⟨λh=>by simp_all,o_,⟨h3,hf⟩,λl hl=>by grind,λl hl=>⟨⟨d_,λs hs=>?_⟩,OL (hf l hl)⟩⟩;have:=uQ (hf l hl) o_ s hs;omega
def rl {α β:Type}{x:R α}{f:α->Nat->R β}{v:β}{n:Nat}(h:x.bind f=.ok v n):∃u m,x=.ok u m∧f u m=.ok v n:=by
 cases x with
 |ok u m=>exact⟨u,m,rfl,h⟩
 |er e=>simp_all
def aiv {α:Type}{c:Prop}[Decidable c]{v w:α}{n m:Nat}(h:SK c v n=.ok w m):c∧v=w∧n=m:=by
 grind [SK]
def amX {b:C_}:∀{k a:Nat}{l:C_}{n:Nat},a<=b.length->AM b k a=.ok l n->n<=b.length
 |0,a,l,n,ha,h=>by
  grind [AM]
 |k+1,a,l,n,ha,h=>by
  obtain⟨v,m,h1,h⟩:=rl h;obtain⟨l2,m2,h2,h⟩:=rl h;have:=amX (eC h1).2 h2
  simp_all
theorem SH {b:C_}{a:Int}{r:Nat}(hr:r<=11){i:aN}{n:Nat}(h:nj b a r=.ok i n):pI b r i n:=by
 obtain⟨o,n1,h1,h⟩:=rl h;obtain⟨q,n2,h2,h⟩:=rl h;obtain⟨s,n3,h3,h⟩:=rl h;have key:i.may r∧n<=b.length:=by
  split at h
  .obtain⟨m,n4,h4,h⟩:=rl h;obtain⟨l,n5,h5,h⟩:=rl h;obtain⟨hc,e1,e2⟩:=aiv h;have:=amX (eC h4).2 h5
   simp_all
  .obtain⟨m,n4,h4,h⟩:=rl h;obtain⟨p,n5,h5,h⟩:=rl h;obtain⟨hc,e1,e2⟩:=aiv h;have:=(eC h5).2
   simp_all
 obtain⟨g1,g2⟩:=dV (gy hr key.1);have hmm:=z8 i;exact⟨key.1,key.2,by have:=nf (λn hn=>(g1 n hn).1);omega⟩
structure pHd (b:C_)(r:Nat)(H:Hd)(n:Nat):Prop where
 gain:H.gain<=255
 fit:H.inf.Fit
 may:H.inf.may r
 S:jZ H.inf H.S
 Sl:∀l∈H.S,l.length<=100
 T:H.T.map List.length=H.S.map (λl=>(aM l).length)
 F:H.F.length=H.inf.many∧∀l∈H.F,l.length<=3∧∀f∈l,f.coefs.length<=12
 od:0<=H.od∧H.od<=1
 is:H.is<=1
 n:n<=b.length
theorem al1 {r:Nat}{i:aN}(hr:r<=11)(h:i.may r)(hl:i.groups.length<=100):i.Fit:=by
 have h11:=gy hr h;have hmx:=jW h11;obtain⟨g1,g2⟩:=dV h11;exact⟨by have:=h.1;omega,by have:=h.2.1;omega,o_,o_,λn hn=>by grind⟩
abbrev QX (b:C_)(r:Nat)(x:R Hd):Prop:=∀H n,x=.ok H n->pHd b r H n
def BY {b:C_}{r:Int}{q:Bool}{iv:D_}{N R0:Nat}{e0:Int}{i:Nat}{cs cs2:D_}{nx nx2 od od2 is is2:Int}{x:R Hd}(hi:i<8)(f:FuncId)(caps:D_)(hF:xS[i]?=some (.fn f [] caps))(hF2:firm (firm (firm (share (.fn f [] caps))))=.fn f [] caps)
  (h:(Dn prog).call f caps ⟨fq b r q iv cs nx 0 od is,N⟩=some (.tup [],⟨fq b r q iv cs2 nx2 0 od2 is2,N⟩))(ho:XH b r q iv N 0 (i+1) cs2 nx2 od2 is2 x∧QX b R0 x):XH b r q iv N e0 i cs nx od is x∧QX b R0 x :=
 by grind [aAQ]
def By {b:C_}{r:Int}{q:Bool}{iv:D_}{N R0:Nat}{e0:Int}{i:Nat}{cs:D_}{a0 a1 a2 a3 a4 a5 a6 a7 a8:AV}{nx nx2 od od2 is is2:Int}{e:Nat}(hi:i<8)(f:FuncId)(caps:D_)(hF:xS[i]?=some (.fn f [] caps))(hF2:firm (firm (firm (share (.fn f [] caps))))=.fn f [] caps)
  (h:(Dn prog).call f caps ⟨fq b r q iv cs nx 0 od is,N⟩=some (.tup [],⟨fq b r q iv [a0,a1,a2,a3,a4,a5,a6,a7,a8] nx2 ((e:Int)+1) od2 is2,N⟩)):XH b r q iv N e0 i cs nx od is (.er e)∧QX b R0 (.er e) :=
 by grind [aBC]
def aqV {b:C_}{i:aN}{a:Int}{g:H_}{n:Nat}(h:vS b i a=.ok g n):WZ b i.max.toNat i.groups.length g n:=by
 rw[vS]at h;split at h
 .exact Ul o_ h
 simp_all
def atI {b:C_}{g:H_}{a gain:Int}(hg:0<=gain∧gain<=255){t:J_}{n:Nat}(h:zS b g a gain=.ok t n):pSc b g t n:=by
 rw[zS]at h;split at h
 .rename_i ha;obtain⟨A,rfl⟩:=aB ha.1;exact XG o_ ⟨o_,o_⟩ ⟨o_,o_⟩ h
 simp_all
def PC (b:C_)(hb:b.length<=1000000000)(r:Int)(hr:dW r)(q:Bool)(i:aN)(hi:i.Fit)(iv:D_)(hiv:iv=i.cells∨q=false∧iv=zI)(hq:q=true->i.may r.toNat)(nx:Int)(hn:i64 nx)(e0:Int)(N:Nat) :
  XH b r q iv N e0 0 ags nx 0 0 (De b nx r.toNat q i)∧QX b r.toNat (De b nx r.toNat q i):=by
 have hR:r.toNat<=11:=o_;rw[De];have h:=azu b hb r q iv nx 0 0 hn N (A_ 0) (.d (.int .u8 0)) (.d (.int .u8 0)) (A_ 0) .nl .nl .nl .nl .nl
 cases e1:bf b nx 8 with
 |er e=>rw[e1,iV]at h;exact By k_ Ad Bl rfl rfl h
 |ok g n1 =>
 have p1:=eC e1;have hg:g<256:=p1.1;have hn1:=p1.2;have i1:i64 (n1:Int):=o_;rw[e1,eY p1]at h;rw[az];refine BY k_ Ad Bl rfl rfl h ?_;clear h;have key:∃X:R aN,X=(if q=true then R.ok i n1 else nj b n1 r.toNat)∧(∀j n,X=.ok j n->((j.Fit∧j.may r.toNat)∧n<=b.length)∧(Dn prog).call oJ [.ptr 3 0,.ptr 4 0,.ptr 2 0,.ptr 0 0,.ptr 5 0,.ptr 1 0,.ptr 6 0] ⟨fq b r q iv [A_ g,.d (.int .u8 0),.d (.int .u8 0),A_ 0,.nl,.nl,.nl,.nl,.nl] n1 0 0 0,N⟩=some (.tup [],⟨fq b r q iv [A_ g,.d (.int .u8 j.seq),.d (.int .u8 j.shape),A_ j.max,.own false 1 (aH j.groups),.nl,.nl,.nl,.nl] n 0 0 0,N⟩))∧
   (∀e,X=.er e->(Dn prog).call oJ [.ptr 3 0,.ptr 4 0,.ptr 2 0,.ptr 0 0,.ptr 5 0,.ptr 1 0,.ptr 6 0] ⟨fq b r q iv [A_ g,.d (.int .u8 0),.d (.int .u8 0),A_ 0,.nl,.nl,.nl,.nl,.nl] n1 0 0 0,N⟩=some (.tup [],⟨fq b r q iv [A_ g,.d (.int .u8 0),.d (.int .u8 0),A_ 0,.nl,.nl,.nl,.nl,.nl] 0 ((e:Int)+1) 0 0,N⟩)):=by
  refine⟨_,rfl,λj n h=>?_,λe h=>?_⟩
  .grind [ayd,aN.Fit.len,SH,amB,eY,al1]
  .cases hqc:q with
   |true=>simp_all
   |false =>
    rw[hqc]at h;simp only[ao,bl]at h;have h3:=amB b hb r false iv n1 0 0 i1 N rfl hr i (by have:=hi.len;omega) (hiv.imp id And.right) (A_ g) (.d (.int .u8 0)) (.d (.int .u8 0)) (A_ 0) .nl .nl .nl .nl .nl
    simp_all
 obtain⟨X,hX,hX1,hX2⟩:=key;rw[<-hX]
 cases e2:X with
 |er e=>exact By k_ oJ _ rfl rfl (hX2 e e2)
 |ok j n2 =>
 obtain⟨⟨⟨hj,hjm⟩,hn2⟩,h⟩:=hX1 j n2 e2;have i2:i64 (n2:Int):=o_;have hjm11:=gy hR hjm;have hmx:=jW hjm11;obtain⟨gr1,gr2⟩:=dV hjm11;have hmm:=z8 j;have hgn:j.groups≠[]:=λh=>by grind
 rw[az];refine BY k_ oJ _ rfl rfl h ?_;clear h hX hX1 hX2 e2 X;have h:=az7 b hb r q iv n2 0 0 i2 N j hj hjm11 hgn (A_ g) .nl .nl .nl .nl
 cases e3:vS b j n2 with
 |er e=>rw[e3,iV]at h;exact By k_ zR Bl rfl rfl h
 |ok S n3 =>
 have p3:=aqV e3;have hn3:=p3.2.1;have i3:i64 (n3:Int):=o_;obtain⟨s1,s2,s3,s4,s5⟩:=anL hjm11 p3;rw[e3,eY p3]at h;rw[az];refine BY k_ zR Bl rfl rfl h ?_;clear h;have h:=aAR b hb r q iv n3 0 0 i3 N g o_ j.max hmx S s1 s2 s3.2 (λl hl=>by simp_all) s5 (.d (.int .u8 j.seq)) (.d (.int .u8 j.shape)) (A_ j.max) (.own false 1 (aH j.groups)) .nl .nl .nl
 cases e4:zS b S n3 g with
 |er e=>rw[e4,iV]at h;exact By k_ zT Bl rfl rfl h
 |ok T n4 =>
 have p4:=atI o_ e4;have hn4:=p4.2;have i4:i64 (n4:Int):=o_;rw[e4,eY p4]at h;rw[az];refine BY k_ zT Bl rfl rfl h ?_;clear h;have h:=az3 b hb r q iv n4 0 0 i4 N [A_ g,.d (.int .u8 j.seq),.d (.int .u8 j.shape),A_ j.max,.own false 1 (aH j.groups),aG 1 (bF S),share (aG 1 (cZ T)),.nl,.nl]
 cases e5:bf b n4 1 with
 |er e=>rw[e5,iV]at h;exact By k_ zV _ rfl rfl h
 |ok o n5 =>
 have p5:=eC e5;have ho:o<2:=p5.1;have hn5:=p5.2;have i5:i64 (n5:Int):=o_;rw[e5,eY p5]at h;rw[az];refine BY k_ zV _ rfl rfl h ?_;clear h;have h:=az8 b hb r q iv n5 o 0 i5 N [A_ g,.d (.int .u8 j.seq),.d (.int .u8 j.shape),A_ j.max,.own false 1 (aH j.groups),aG 1 (bF S),share (aG 1 (cZ T)),.nl,.nl]
 cases e6:bf b n5 1 with
 |er e=>rw[e6,iV]at h;exact By k_ zX _ rfl rfl h
 |ok s n6 =>
 have p6:=eC e6;have hs:s<2:=p6.1;have hn6:=p6.2;have i6:i64 (n6:Int):=o_;rw[e6,eY p6]at h;rw[az];refine BY k_ zX _ rfl rfl h ?_;clear h;have key:∃X:R N_,X=(if s=1 then Qf b j n6 else R.ok (List.replicate j.many []) n6)∧(∀F n,X=.ok F n->pTn b j F n∧(Dn prog).call oF [.ptr 8 0,.ptr 0 0,.ptr 5 0,.ptr 4 0,.ptr 6 0] ⟨fq b r q iv [A_ g,.d (.int .u8 j.seq),.d (.int .u8 j.shape),A_ j.max,.own false 1 (aH j.groups),aG 1 (bF S),share (aG 1 (cZ T)),.nl,.nl] n6 0 o s,N⟩=some (.tup [],⟨fq b r q iv [A_ g,.d (.int .u8 j.seq),.d (.int .u8 j.shape),A_ j.max,.own false 1 (aH j.groups),aG 1 (bF S),share (aG 1 (cZ T)),aG 1 (cT F),.nl] n 0 o s,N⟩))∧
   (∀e,X=.er e->(Dn prog).call oF [.ptr 8 0,.ptr 0 0,.ptr 5 0,.ptr 4 0,.ptr 6 0] ⟨fq b r q iv [A_ g,.d (.int .u8 j.seq),.d (.int .u8 j.shape),A_ j.max,.own false 1 (aH j.groups),aG 1 (bF S),share (aG 1 (cZ T)),.nl,.nl] n6 0 o s,N⟩=some (.tup [],⟨fq b r q iv [A_ g,.d (.int .u8 j.seq),.d (.int .u8 j.shape),A_ j.max,.own false 1 (aH j.groups),aG 1 (bF S),share (aG 1 (cZ T)),.nl,.nl] 0 ((e:Int)+1) o s,N⟩)):=by
  refine⟨_,rfl,λF n h=>?_,λe h=>?_⟩
  .by_cases h1:s=1
   .grind [ars,amT,eY]
   .rw[aa h1]at h;injection h with g1 g2
    subst g1 g2;have h3:=axl b r q iv n6 o s N j hj hjm11 o_ (A_ g) (aG 1 (bF S)) (share (aG 1 (cZ T))) .nl .nl;refine⟨⟨s_,hn6,λl hl=>by simp_all⟩,?_⟩;have e9:aG 1 (cT (List.replicate j.many []))=.own false 1 (cT (List.replicate j.many [])):=mc (λhz=>by
     grind [aeP])
    simp_all
  grind [amT,iV]
 obtain⟨X,hX,hX1,hX2⟩:=key;rw[<-hX]
 cases e7:X with
 |er e=>exact By k_ oF _ rfl rfl (hX2 e e7)
 |ok F n7 =>
 obtain⟨p7,h⟩:=hX1 F n7 e7;have i7:i64 (n7:Int):=o_;rw[az];refine BY k_ oF _ rfl rfl h ?_;have h:=azI b hb r q iv n7 o s i7 N [A_ g,.d (.int .u8 j.seq),.d (.int .u8 j.shape),A_ j.max,.own false 1 (aH j.groups),aG 1 (bF S),share (aG 1 (cZ T)),aG 1 (cT F),.nl] (by omega)
 cases e8:bf b n7 1 with
 |er e=>rw[e8,iV]at h;exact By k_ zZ _ rfl rfl h
 |ok p n8 =>
 have p8:=eC e8;have hn8:=p8.2;rw[e8,eY p8]at h;rw[az];refine BY k_ zZ _ rfl rfl h ⟨⟨λH n hh=>?_,λe hh=>absurd hh s_⟩,λH n hh=>?_⟩
 .grind [awR]
 .injection hh with g1 g2
  subst g1 g2;exact⟨d_,hj,hjm,s3,s4,p4.1,⟨p7.1,p7.2.2⟩,by grind [orB],d_,hn8⟩
structure GO where
 o1:Obj
 o2:Obj
 o3:Obj
 o7:Obj
 o8:Obj
 o9:Obj
 oX:Obj
 o14:Obj
 o15:Obj
 o16:Obj
abbrev GH (b:C_)(g:GO)(cs:D_)(nx e:Int)(Z:G_)(C:D_)(lo:Obj)(T:am):am:=(0,.cells [.d (.lst (ai b))])::(1,g.o1)::(2,g.o2)::(3,g.o3)::(4,.cells cs)::(5,.cells [A_ nx])::(6,.cells [A_ e])::(7,g.o7)::(8,g.o8)::(9,g.o9)::(10,g.oX)::(11,.arr 1 (aH Z))::(12,.cells C)::(13,.cells [.ptr 12 0])::(14,g.o14)::(15,g.o15)::(16,g.o16)::(17,lo)::T
abbrev aAt:aW:=[(5,.ptr 0 0),(10,.ptr 4 0),(11,.ptr 5 0),(12,.ptr 6 0),(13,.ptr 7 0),(14,.ptr 8 0),(18,.ptr 13 0),(82,.fn jg [] [.ptr 15 0,.ptr 14 0,.ptr 16 0])]
def aty {Z l:G_}{a:Nat}:aI (aH Z) a (aH l)=aH (aI Z a l):=by simp[aI,aH]
def axK {h:am}{xs:E_}{id a b n:Nat}(hab:a<=b)(hb:b<=n)(hn:n<=1000000000)(hg:get h id=some (.arr 1 xs))(x y:Int)(hx:x=a)(hy:y=b):mQ h 1 (.sl id 0 n) (some (A_ x)) (some (A_ y)) none=some (.sl id a (b-a)):=by
 subst hx hy;have e1:eh (A_ (b:Int)) n=some b:=by rw[yk o_ o_];simp
 have e2:eh (A_ (a:Int)) b=some a:=by rw[yk o_ o_];simp
 have e3:okSl h 1 (.sl id 0 n)=true:=by simp only[okSl,hg];rfl
 simp only[mQ,e3,vT,lenOf,xn,wp,e1,e2,bv]
def axZ {h:am}{Z l:G_}{id a n:Nat}{y:AV}(hn:l.length=n)(hb:a+n<=Z.length)(he:elems h y=some (aH l))(hg:get h id=some (.arr 1 (aH Z))):aiQ 1 h (.sl id a n) y=some (.int .i64 (n:Nat),put h id (.arr 1 (aH (aI Z a l)))):=by
 have e1:Nat.ble (a+n) (aH Z).length=true:=by rw[bn,iD];exact hb
 have e2:min n (aH l).length=n:=by rw[iD,hn,Nat.min_self]
 have e3:(aH l).take n=aH l:=cg (by rw[iD];omega);have e4:(gh 1 (aH l) && Nat.beq 1 1 && Nat.ble (a+n) (aH Z).length)=true:=by rw[au8,e1];rfl
 simp only[aiQ,he,hg,e4,e2,e3,aty];rfl
def azz {F:D_->am}{A N:Nat}(hL:∀C,Lt (F C) N)(hg:∀C T,get (F C++T) A=some (.cells C))(hp:∀C T C',put (F C++T) A (.cells C')=F C'++T):Bk (λC T=>F C++T) A N:=by
 refine⟨hg,hp,λC o=>?_,λC o o'=>ID (hL C),λC o=>yp (hL C),λC o=>?_⟩
 .show put (F C++[]) N o=_;rw[bi];exact vU (hL C)
 .show _=F C++[];rw[bi];exact MV (hL C)
def aA0 (b:C_)(g:GO)(cs:D_)(nx e0:Int)(Z:G_)(lo:Obj)(K:Nat)(hK:18<=K)(o w:Obj)(N:Nat)(hN:K<N):Bk (λC T=>GH b g cs nx e0 Z C lo [(K,o),(N,w)]++T) 12 (N+1):=by
 refine azz (λC p hp=>?_) (λC T=>rfl) (λC T C'=>rfl);simp only[ay,cq,ee]at hp;rcases hp with rfl|rfl|rfl|rfl|rfl|rfl|rfl|rfl|rfl|rfl|rfl|rfl|rfl|rfl|rfl|rfl|rfl|rfl|rfl|rfl<;>simp only[]<;>omega
abbrev qJ (d:Bool):Obj:=.loop aAt [83] tD tF d none
abbrev OK:Obj:=.loop aAt [83] tD tF false (some .ret)
abbrev plO (p:Nat×Nat):Obj:=.cells [A_ (p.1:Int),A_ (p.2:Int),A_ ((p.2+bI p.1:Nat):Int)]
def aDC (b:C_)(g:GO)(a0 a1 a2 a3 a4 a5 a6 a7:AV)(nx e0:Int)(Z:G_)(hZ:Z.length=256)(C:D_)(hC:Ii C)(p:Nat×Nat)(hp:(1<=p.1∧p.1<=11)∧p.2+bI p.1<=256)(l:G_)(hl:l.length=bI p.1)(n2:Nat)(hh:bj prog yN [.d (.lst (ai b)),A_ nx,oj p.1]=some (.tup [.own true 1 (aH l),A_ n2,A_ 0]))(K:Nat)(o:Obj)(hK:18<=K)(N:Nat)(hN:K<N) :
  cy (Dn prog) (.yield 17) [.agg [A_ (p.1:Int),A_ (p.2:Int),A_ ((p.2+bI p.1:Nat):Int)]] ⟨GH b g [a0,a1,a2,a3,a4,a5,a6,a7,.sl 11 0 256] nx e0 Z C (qJ false) [(K,o)],N⟩ =
  some (B_ true,⟨GH b g [a0,a1,a2,a3,a4,a5,a6,a7,.sl 11 0 256] n2 0 (aI Z p.2 l) (aI C (4*p.1) (sj p.1)) (qJ false) [(K,o)],N+1+1⟩):=by
 obtain⟨h1,h2⟩:=hp;have hB:=Su (aA0 b g [a0,a1,a2,a3,a4,a5,a6,a7,.sl 11 0 256] nx e0 Z (qJ true) K hK o (plO p) N hN) C hC p.1 h1;have hs:=λC2=>axK (h:=GH b g [a0,a1,a2,a3,a4,a5,a6,a7,.sl 11 0 256] n2 0 Z C2 (qJ true) [(K,o),(N,plO p)]) (xs:=aH Z) (id:=11) (a:=p.2) (b:=p.2+bI p.1) (n:=256) o_ h2 o_ rfl (p.2:Int) _ rfl rfl
 rw[fY]at hs;have hc:=λC2=>axZ (h:=GH b g [a0,a1,a2,a3,a4,a5,a6,a7,.sl 11 0 256] n2 0 Z C2 (qJ true) [(K,o),(N,plO p)]) (id:=11) (a:=p.2) (n:=bI p.1) (y:=.own false 1 (aH l)) hl o_ rfl rfl
 generalize aI C (4*p.1) (sj p.1)=C2 at *;replace hs:=hs C2;replace hc:=hc C2;obtain⟨TO,hT⟩:∃TO:Int,TO=((p.2+bI p.1:Nat):Int):=⟨_,rfl⟩
 simp only[GH,plO,qJ,aQ,aK,oj]at hB hs hc hh⊢;rw[<-hT]at hB hs hc⊢;obtain⟨o1,o2,o3,o7,o8,o9,oX,o14,o15,o16⟩:=g;simp only[]at *;have eA:∀st,(Dn prog).code tD st=(Dn prog).code HB st:=λ_=>rfl
 have eB:∀st,(Dn prog).code tF st=(Dn prog).code (.block 3
  (.seq G8
  (.seq (.seq (.seq Ak (Vm.K [18,84]))
  (.seq G0
  (.cond (.m 96)
  (.seq (.seq (Vm.K [20]) (F 19)) (.seq (.seq AN (Vm.K [12]))
  .ret))
  (.seq (Vm.K [11,12]) .skip))))
  (.seq HL (F 19))))) st:=λ_=>rfl
 simp(config := { maxSteps:=1000000 }) (disch:=omega)[↓ac,↓aa,eA,eB,hh,hB,hs,hc]
def aD2 (b:C_)(g:GO)(a0 a1 a2 a3 a4 a5 a6 a7:AV)(nx e0:Int)(Z:G_)(C:D_)(hC:Ii C)(p:Nat×Nat)(hp:(1<=p.1∧p.1<=11)∧p.2+bI p.1<=256)(e:Nat)(hh:bj prog yN [.d (.lst (ai b)),A_ nx,oj p.1]=some (.tup [.nl,A_ 0,A_ (e+1)]))(K:Nat)(o:Obj)(hK:18<=K)(N:Nat)(hN:K<N) :
  cy (Dn prog) (.yield 17) [.agg [A_ (p.1:Int),A_ (p.2:Int),A_ ((p.2+bI p.1:Nat):Int)]] ⟨GH b g [a0,a1,a2,a3,a4,a5,a6,a7,.sl 11 0 256] nx e0 Z C (qJ false) [(K,o)],N⟩ =
  some (B_ false,⟨GH b g ags 0 ((e:Int)+1) Z (aI C (4*p.1) (sj p.1)) OK [(K,o)],N+1+1⟩):=by
 obtain⟨h1,h2⟩:=hp;have hB:=Su (aA0 b g [a0,a1,a2,a3,a4,a5,a6,a7,.sl 11 0 256] nx e0 Z (qJ true) K hK o (plO p) N hN) C hC p.1 h1;generalize aI C (4*p.1) (sj p.1)=C2 at *;obtain⟨TO,hT⟩:∃TO:Int,TO=((p.2+bI p.1:Nat):Int):=⟨_,rfl⟩
 simp only[GH,plO,qJ,OK,aQ,aK,oj]at hB hh⊢;rw[<-hT]at hB⊢;obtain⟨o1,o2,o3,o7,o8,o9,oX,o14,o15,o16⟩:=g;simp only[]at *;have eA:∀st,(Dn prog).code tD st=(Dn prog).code HB st:=λ_=>rfl
 have eB:∀st,(Dn prog).code tF st=(Dn prog).code (.block 3
  (.seq G8
  (.seq (.seq (.seq Ak (Vm.K [18,84]))
  (.seq G0
  (.cond (.m 96)
  (.seq (.seq (Vm.K [20]) (F 19)) (.seq (.seq AN (Vm.K [12]))
  .ret))
  (.seq (Vm.K [11,12]) .skip))))
  (.seq HL (F 19))))) st:=λ_=>rfl
 simp(config := { maxSteps:=1000000 }) (disch:=omega)[↓ac,↓aa,eA,eB,hh,hB]
def XQ {r:Nat}{jj:aN}{SS:H_}(hm:jj.may r)(hS:jZ jj SS)(hr:r<=11){p:Nat×Nat}(hp:p∈qG (offs r jj.short) SS jj.groups 0):(1<=p.1∧p.1<=11)∧p.2+bI p.1<=256:=by
 have hm11:=gy hr hm;obtain⟨g1,g2⟩:=dV hm11;obtain⟨w,g,j,l,e1,e2,e3,e4,e5,e6,x,e7,e8⟩:=Nw hS.2 (λn hn=>(g1 n hn).1) hp;obtain⟨o1,o2,o3⟩:=oI (r,jj.short) (fH o_);simp only at o1 o2 o3;have hmx:=hm.2.2.2.1;have hlm:l∈SS:=dH e1;have hbl:=tN (hS.2 l hlm) hm.2.2.1;have hjl:j<(aM l).length:=(aJ.1 e5).1;have hmy:sc r (decide (jj.seq=2))=(offs r jj.short).length-1:=rfl;have hj1:j+1<(offs r jj.short).length:=o_;have hoj:nth (offs r jj.short) j<nth (offs r jj.short) (j+1)∧(nth (offs r jj.short) (j+1)-nth (offs r jj.short) j) % 4=0:=by
  have:=bH.1 o1 j (ed.2 o_);simpa using this
 have hos:∀k,k+1<(offs r jj.short).length->nth (offs r jj.short) k<nth (offs r jj.short) (k+1):=λk hk=>by
  have:=bH.1 o1 k (ed.2 o_);simp only[af,decide_eq_true_eq]at this;exact this.1
 have hd4:bI p.1=4∨bI p.1=2:=by unfold bI;split<;>simp
 have hx:=M3 (d:=bI p.1) o_ (by rcases hd4 with h|h<;>rw[h]<;>omega) e7;have hw:(w:Int)<jj.many:=o_;have ho256:nth (offs r jj.short) (j+1)<=cond jj.short 32 256:=by
  have:=bH.1 o3 _ (jv hj1);simpa using this
 have hcond:(cond jj.short 32 256:Nat)=jj.wide:=by
  unfold aN.short aN.wide;by_cases h:jj.seq=2
  .rw[decide_eq_true h,ac h];rfl
  .rw[decide_eq_false h,aa h];rfl
 rw[hcond]at ho256;have hww:w*32=w*jj.wide∧w*jj.wide+jj.wide<=256:=by
  unfold aN.many at hw;unfold aN.wide;split at hw
  .rename_i h2;rw[ac h2];omega
  .rename_i h2;rw[aa h2];omega
 exact⟨e6,o_⟩
def aBN:∀id∈List.range 12,1<=id->eD id=bI id:=e_
def kE (b:C_):R_->Nat->G_->R G_
 |[],n,Z=>.ok Z n
 |p::r,n,Z=>(FX p.1 b n).bind λl m=>kE b r m (aI Z p.2 l)
abbrev StG:Type:=D_×Nat×G_
abbrev XY (b:C_)(p:Nat×Nat)(s:StG):Sum StG (D_×Nat×G_):=match FX p.1 b s.2.1 with
 |.ok l n=>.inl (aI s.1 (4*p.1) (sj p.1),n,aI s.2.2 p.2 l)
 |.er e=>.inr (aI s.1 (4*p.1) (sj p.1),e,s.2.2)
abbrev CK:D_:=[A_ 0,.d (.int .u8 0),.d (.int .u8 0),A_ 0,.nl,.nl,.nl,.nl,.nl]
abbrev aGZ (B:Nat)(r:R_)(s:StG):Prop:=Ii s.1∧s.2.1<=B∧s.2.2.length=256∧(∀x∈s.2.2,-40000<=x∧x<=40000)∧∀p∈r,(1<=p.1∧p.1<=11)∧p.2+bI p.1<=256
def XE {Z l:G_}{a:Nat}(h:a+l.length<=Z.length):(aI Z a l).length=Z.length:=by
 simp only[aI,aj,b6,cM];omega
def axc {Z l:G_}{a:Nat}{x:Int}(h:x∈aI Z a l):x∈Z∨x∈l:=by
 simp only[aI,be]at h;rcases h with (h|h)|h
 .exact .inl (dl h)
 .exact .inr h
 .exact .inl (bJ h)
def aCw (b:C_)(hb:b.length<=1000000000)(g:GO)(a0 a1 a2 a3 a4 a5 a6 a7:AV):Ta (fun(s:StG) T=>GH b g [a0,a1,a2,a3,a4,a5,a6,a7,.sl 11 0 256] s.2.1 0 s.2.2 s.1 (qJ false) T) (fun(z:D_×Nat×G_) T=>GH b g CK 0 ((z.2.1:Int)+1) z.2.2 z.1 OK T) 18 17 (XY b) (aGZ b.length):=by
 intro p r s K o N hi hK hN;obtain⟨C,n0,Z⟩:=s;obtain⟨i1,i2,i3,i4,i5⟩:=hi;simp only at i1 i2 i3 i4;have hp:=i5 p (.head _);have hH:=avp p.1 b n0 hb o_ hp.1;have hd:=aBN p.1 (ed.2 o_) hp.1.1
 cases e:FX p.1 b n0 with
 |ok l n =>
  have hq:=awK ⟨hp.1.1,o_⟩ e;rw[e,eY hq]at hH;obtain⟨q1,q2,q3⟩:=hq;have hl:l.length=bI p.1:=o_;refine .inl ⟨(aI C (4*p.1) (sj p.1),n,aI Z p.2 l),N+1+1,o_,by simp only[XY,e],⟨ad5 i1 hp.1,q2,?_,λx hx=>?_,λq hq=>i5 q (.tail _ hq)⟩,aDC b g a0 a1 a2 a3 a4 a5 a6 a7 n0 0 Z i3 C i1 p hp l hl n hH K o hK N hN⟩
  .show(aI Z p.2 l).length=256;rw[XE o_];exact i3
  .rcases axc hx with h|h
   .exact i4 x h
   .exact q3 x h
 |er e2 =>
  rw[e,iV]at hH;exact .inr ⟨(aI C (4*p.1) (sj p.1),e2,Z),N+1+1,o_,by simp only[XY,e],aD2 b g a0 a1 a2 a3 a4 a5 a6 a7 n0 0 Z C i1 p hp e2 hH K o hK N hN⟩
def awl {b:C_}:∀{r:R_}{C:D_}{n:Nat}{Z:G_},(∀Z2 m,kE b r n Z=.ok Z2 m->∃C2,lC (XY b) r (C,n,Z)=.inl (C2,m,Z2))∧∀e,kE b r n Z=.er e->∃C2 Z2,lC (XY b) r (C,n,Z)=.inr (C2,e,Z2)
 |[],C,n,Z=>⟨λZ2 m h=>by
   injection h with g1 g2
   subst g1 g2;exact⟨C,rfl⟩,λe h=>absurd h (by simp[kE])⟩
 |p::r,C,n,Z=>by
  rw[kE,lC]
  cases e:FX p.1 b n with
  |ok l m =>
   simp only[XY,e,az];exact awl
  |er e2 =>
   simp only[XY,e];exact⟨λZ2 m h=>absurd h s_,λe3 h=>by
    injection h with h
    subst h;exact⟨_,_,rfl⟩⟩
def avK {b:C_}{g:GO}{cs:D_}{nx e0:Int}{Z:G_}{C:D_}{lo:Obj}{L:Nat}(hL:18<=L):Lt (GH b g cs nx e0 Z C lo []) L:=by
 intro p hp;simp only[ay,cq,ee]at hp;rcases hp with rfl|rfl|rfl|rfl|rfl|rfl|rfl|rfl|rfl|rfl|rfl|rfl|rfl|rfl|rfl|rfl|rfl|rfl<;>simp only[]<;>omega
def aq5 {σ:Type}{F:σ->am}{L:Nat}(hL:∀s,Lt (F s) L):Tl (λs T=>F s++T) L:=by
 refine⟨λs K o h=>?_,λs K o o' h=>ID (Lm (hL s) h),λs K o h=>yp (Lm (hL s) h),λs K o h=>?_⟩
 .show put (F s++[]) K o=_;rw[bi];exact vU (Lm (hL s) h)
 .show _=F s++[];rw[bi];exact MV (Lm (hL s) h)
abbrev N8 (r:Nat)(jj:aN)(S:H_):R_:=qG (offs r jj.short) S jj.groups 0
abbrev Z0:G_:=List.replicate 256 0
def aet (b:C_)(hb:b.length<=1000000000)(g:GO)(a0 a1 a2 a3 a4 a5 a6 a7:AV)(r:Nat)(hr:r<=11)(jj:aN)(hj:jj.Fit)(hm:jj.may r)(S:H_)(hS:jZ jj S)(g14:g.o14=.cells jj.cells)(g15:g.o15=.cells [.d (.lst (bF S))])(g16:g.o16=.cells [.own false 1 (cX (offs r jj.short))])(n:Nat)(hn:n<=b.length) :
  (∀Z m,kE b (N8 r jj S) n Z0=.ok Z m->Z.length=256∧(∀x∈Z,-40000<=x∧x<=40000)∧m<=b.length∧∃C2 M,(Dn prog).call jg [.yield 17,.ptr 15 0,.ptr 14 0,.ptr 16 0] ⟨GH b g [a0,a1,a2,a3,a4,a5,a6,a7,.sl 11 0 256] n 0 Z0 vI (qJ false) [],18⟩=some (.tup [],⟨GH b g [a0,a1,a2,a3,a4,a5,a6,a7,.sl 11 0 256] m 0 Z C2 (qJ false) [],M⟩))∧
  (∀e,kE b (N8 r jj S) n Z0=.er e->∃C2 Z2 M,(Dn prog).call jg [.yield 17,.ptr 15 0,.ptr 14 0,.ptr 16 0] ⟨GH b g [a0,a1,a2,a3,a4,a5,a6,a7,.sl 11 0 256] n 0 Z0 vI (qJ false) [],18⟩=some (.tup [],⟨GH b g CK 0 ((e:Int)+1) Z2 C2 OK [],M⟩)):=by
 obtain⟨o1,o2,o3,o4⟩:=Cb (r,jj.short) (fH o_);obtain⟨p1,p2,p3⟩:=oI (r,jj.short) (fH o_);simp only at o1 o2 o3 o4 p1 p2 p3;have hmx:=hm.2.2.2.1;have hmy:sc r (decide (jj.seq=2))=(offs r jj.short).length-1:=rfl;have hhi:∀x∈offs r jj.short,x<=256:=λx hx=>by
  have:=bH.1 p3 x hx;simp only[decide_eq_true_eq]at this;have:(cond jj.short 32 256:Nat)<=256:=by cases jj.short<;>decide
  omega
 have hT:Tl (fun(s:StG) T=>GH b g [a0,a1,a2,a3,a4,a5,a6,a7,.sl 11 0 256] s.2.1 0 s.2.2 s.1 (qJ false) T) 18:=aq5 (F:=fun(s:StG)=>GH b g [a0,a1,a2,a3,a4,a5,a6,a7,.sl 11 0 256] s.2.1 0 s.2.2 s.1 (qJ false) []) (λs=>avK (al _));have hT2:Tl (fun(z:D_×Nat×G_) T=>GH b g CK 0 ((z.2.1:Int)+1) z.2.2 z.1 OK T) 18:=aq5 (F:=fun(z:D_×Nat×G_)=>GH b g CK 0 ((z.2.1:Int)+1) z.2.2 z.1 OK []) (λs=>avK (al _));have hpl:=ajK (P:=⟨17,14,16,S,offs r jj.short⟩) jj hj (gy hr hm) 15 hT hT2 (aCw b hb g a0 a1 a2 a3 a4 a5 a6 a7) (λs=>by rw[<-g15];rfl) (λs T=>by rw[<-g14];rfl) (λs T=>by rw[<-g16];rfl) t_ hhi t_ hS 18 (al _) (vI,n,Z0) ⟨agU,hn,by simp only[bm],λx hx=>by rw[dc hx];omega,λp hp=>XQ hm hS hr hp⟩;have hru:=awl (b:=b) (r:=N8 r jj S) (C:=vI) (n:=n) (Z:=Z0);refine⟨λZ m e=>?_,λe1 e=>?_⟩
 .obtain⟨C2,h1⟩:=hru.1 Z m e;rcases hpl with ⟨s2,M,hM,e1,⟨i1,i2,i3,i4,i5⟩,e5⟩|⟨z,M,hM,e1,e3⟩
  .rw[h1]at e1;injection e1 with e1
   subst e1;exact⟨i3,i4,i2,C2,M,e5⟩
  .rw[h1]at e1;exact absurd e1 (by simp)
 .obtain⟨C2,Z2,h1⟩:=hru.2 e1 e;rcases hpl with ⟨s2,M,hM,e1,⟨i1,i2,i3,i4,i5⟩,e5⟩|⟨z,M,hM,e1,e3⟩
  .rw[h1]at e1;exact absurd e1 (by simp)
  .rw[h1]at e1;injection e1 with e1
   subst e1;exact⟨C2,Z2,M,e3⟩
def awt:GB [.int .i64 0] (A_ 256) (A_ 256)=some (.own true 1 (aH Z0)):=(Ek (z:=[.int .i64 0]) (n:=256) o_).trans (by simp[aH])
def asn:(aH Z0).length=256:=by rw[iD,bm]
abbrev Ug (H:Hd)(Z:G_):D_:=[A_ H.gain,.d (.int .u8 H.inf.seq),.d (.int .u8 H.inf.shape),A_ H.inf.max,.d (.lst (aH H.inf.groups)),.d (.lst (bF H.S)),.d (.lst (cZ H.T)),.d (.lst (cT H.F)),.own true 1 (aH Z)]
def ao7:∀r<12,(bj prog xW [A_ ((r:Nat):Int),.agg zI]=some (A_ 8)):=by
 intro r hr;have:r=0∨r=1∨r=2∨r=3∨r=4∨r=5∨r=6∨r=7∨r=8∨r=9∨r=10∨r=11:=o_;rcases this with rfl|rfl|rfl|rfl|rfl|rfl|rfl|rfl|rfl|rfl|rfl|rfl<;>exact BX 400 (by kernel_rfl)
def Qu {r:Nat}{q:Bool}{i:aN}{iv:D_}(hr:r<=11)(hi:i.Fit)(hiv:iv=i.cells∨q=false∧iv=zI)(hq:q=true->i.may r):∃k:Int,(q=true->k=0)∧bj prog xW [A_ r,.agg iv]=some (A_ k):=by
 rcases hiv with rfl|⟨rfl,rfl⟩
 .have hI:=yq r i hi;rw[ac o_,au]at hI;by_cases hm:i.may r
  .rw[ac hm]at hI;exact⟨0,λ_=>rfl,hI⟩
  .rw[aa hm]at hI;exact⟨8,λh=>absurd (hq h) hm,hI⟩
 .exact⟨8,λh=>absurd h s_,ao7 r o_⟩
def ayh (b:C_)(hb:b.length<=1000000000)(a:Int)(ha:i64 a)(r:Nat)(hr:r<=11)(q:Bool)(i:aN)(hi:i.Fit)(iv:D_)(hiv:iv=i.cells∨q=false∧iv=zI)(hq:q=true->i.may r)(n0:Nat)(e0:bf b a 0=.ok 0 n0)(H:Hd)(n:Nat)(eH:De b n0 r q i=.ok H n)(Z:G_)(m:Nat)(eL:kE b (N8 r H.inf H.S) n Z0=.ok Z m):bj prog tR [.d (.lst (ai b)),A_ a,A_ r,B_ q,.agg iv] =
  if H.od=0∧(H.is=1->pf H.F=true) then some (.tup [.agg (Ug H Z),A_ m,A_ 0])
  else some (.tup [.agg CK,A_ 0,A_ 8]):=by
 have hR:dW (r:Int):=o_;have hB:=ic b a 0 hb ha;have p0:=eC e0;rw[e0,eY p0]at hB;obtain⟨k,hk0,hI⟩:=Qu hr hi hiv hq;have hh:=PC b hb r hR q i hi iv hiv (λh=>by rw[au];exact hq h) n0 (by have:=p0.2;omega) k 11;rw[au]at hh;have p1:=hh.2 H n eH;have hl:=hh.1.1 H n eH;have hM:=lc r false;rw[ac hR]at hM;obtain⟨G,j,S,T,Ft,od,is⟩:=H;have hF:=S8 Ft (by have:=p1.F.1;simp only at this;have:=z8 j;omega) (λl hl=>by have:=(p1.F.2 l hl).1;omega);simp only[ag5]at hl eL;obtain⟨q1,q2,q3,C2,M,hp⟩:=(aet b hb ⟨.cells [.junk],.cells [B_ q],.cells iv,.cells [A_ od],.cells [A_ is],.cells [aio],.cells xS,.cells j.cells,.cells [.d (.lst (bF S))],.cells [.own false 1 (cX (offs r j.short))]⟩ (A_ G) (.d (.int .u8 j.seq)) (.d (.int .u8 j.shape)) (A_ j.max) (.own false 1 (aH j.groups)) (aG 1 (bF S)) (share (aG 1 (cZ T))) (aG 1 (cT Ft)) r hr j p1.fit p1.may S p1.S rfl rfl rfl n p1.n).1 Z m eL;have hj11:=gy hr p1.may;have hSl:S.length=j.groups.length:=p1.S.1;have hTl:=aV List.length p1.T;simp only[gX]at hTl;have hFl:=p1.F.1;simp only at hFl;have hmn:=z8 j;have hgn:j.groups≠[]:=λh=>by have:=(dV hj11).2;rw[h]at this;simp at this;omega
 have hg1:=bL.2 hgn;obtain⟨s1,S1,rfl⟩:=dj (bL.1 (show 0<S.length by omega));obtain⟨t1,T1,rfl⟩:=dj (bL.1 (show 0<T.length by omega));obtain⟨f1,F1,rfl⟩:=dj (bL.1 (show 0<Ft.length by omega));have eS:aG 1 (bF (s1::S1))=.own false 1 (bF (s1::S1)):=rfl;have eT:share (aG 1 (cZ (t1::T1)))=.d (.lst (cZ (t1::T1))):=rfl;have eF:aG 1 (cT (f1::F1))=.own false 1 (cT (f1::F1)):=rfl;have hP:=Qy r hr j (.lst (bF (s1::S1))) [(0,.cells [.d (.lst (ai b))]),(1,.cells [.junk]),(2,.cells [B_ q]),(3,.cells iv),(4,.cells [A_ G,.d (.int .u8 j.seq),.d (.int .u8 j.shape),A_ j.max,.own false 1 (aH j.groups),.own false 1 (bF (s1::S1)),.d (.lst (cZ (t1::T1))),.own false 1 (cT (f1::F1)),.sl 11 0 256]),(5,.cells [A_ n]),(6,.cells [A_ 0]),(7,.cells [A_ od]),(8,.cells [A_ is]),(9,.cells [aio]),(10,.cells xS),(11,.arr 1 (aH Z0)),(12,.cells vI),(13,.cells [.ptr 12 0])] 14 (λp hp=>by
  simp only[ay,cq,ee]at hp;rcases hp with rfl|rfl|rfl|rfl|rfl|rfl|rfl|rfl|rfl|rfl|rfl|rfl|rfl|rfl<;>simp only[]<;>omega)
 have c0:((0:Nat):Int)=0:=rfl;rw[eS,eT,eF]at hl hp;simp only[Ug,aN.cells,GH,qJ,aQ,aK,c0]at hI hl hp hP hB⊢;clear hh p1 eL eH q2 eS eT eF hi;generalize bF (s1::S1)=SS at *;generalize cZ (t1::T1)=TT at *;generalize cT (f1::F1)=FF at *;generalize hz:aH Z0=z0 at *;have hk:=awt;have hz2:=asn;rw[hz]at hk hz2;rw[aE Ge GD rfl];have hmk:Ll 1 xS=true:=rfl;simp only[xS,Bl]at hmk;have hZt:List.take 256 Z=Z:=cg o_;have hoi:(od=0∧((((is:Nat):Int)=1∧pf (f1::F1)=true)∨(((is:Nat):Int)≠1)))∨(od=0∧((is:Nat):Int)=1∧pf (f1::F1)=false)∨od≠0:=by
  cases pf (f1::F1)<;>simp<;>omega
 have hii:(is=1)=(((is:Nat):Int)=1):=propext o_;simp only[hii];clear hii;generalize pf (f1::F1)=an at *;generalize ((is:Nat):Int)=iz at *;rcases hoi with ⟨h1,⟨h2,h3⟩|h2⟩|⟨h1,h2,h3⟩|h1
 .subst h3;rw[ac ⟨h1,λ_=>rfl⟩];rcases hiv with rfl|⟨rfl,rfl⟩
  .simp only[aN.cells]at hI hl hp hP⊢
   cases q with
   |true =>
    have:=hk0 rfl;subst this;simp(config := { maxSteps:=1000000 }) (disch:=omega)[↓ac,↓aa,rd,hB,hM,hI,hl,hk,hz2,hP,hp,hmk,hF,q1,hZt]
   |false=>simp(config := { maxSteps:=1000000 }) (disch:=omega)[↓ac,↓aa,rd,hB,hM,hI,hl,hk,hz2,hP,hp,hmk,hF,q1,hZt]
  .simp only[zI]at hI hl hp hP⊢;simp(config := { maxSteps:=1000000 }) (disch:=omega)[↓ac,↓aa,rd,hB,hM,hI,hl,hk,hz2,hP,hp,hmk,hF,q1,hZt]
 .rw[ac ⟨h1,λh=>absurd h h2⟩];rcases hiv with rfl|⟨rfl,rfl⟩
  .simp only[aN.cells]at hI hl hp hP⊢
   cases q with
   |true =>
    have:=hk0 rfl;subst this;simp(config := { maxSteps:=1000000 }) (disch:=omega)[↓ac,↓aa,rd,hB,hM,hI,hl,hk,hz2,hP,hp,hmk,hF,q1,hZt]
   |false=>simp(config := { maxSteps:=1000000 }) (disch:=omega)[↓ac,↓aa,rd,hB,hM,hI,hl,hk,hz2,hP,hp,hmk,hF,q1,hZt]
  .simp only[zI]at hI hl hp hP⊢;simp(config := { maxSteps:=1000000 }) (disch:=omega)[↓ac,↓aa,rd,hB,hM,hI,hl,hk,hz2,hP,hp,hmk,hF,q1,hZt]
 .subst h3;rw[aa (λh=>absurd (h.2 h2) s_)];rcases hiv with rfl|⟨rfl,rfl⟩
  .simp only[aN.cells]at hI hl hp hP⊢
   cases q with
   |true =>
    have:=hk0 rfl;subst this;simp(config := { maxSteps:=1000000 }) (disch:=omega)[↓ac,↓aa,rd,hB,hM,hI,hl,hk,hz2,hP,hp,hmk,hF,q1,hZt]
   |false=>simp(config := { maxSteps:=1000000 }) (disch:=omega)[↓ac,↓aa,rd,hB,hM,hI,hl,hk,hz2,hP,hp,hmk,hF,q1,hZt]
  .simp only[zI]at hI hl hp hP⊢;simp(config := { maxSteps:=1000000 }) (disch:=omega)[↓ac,↓aa,rd,hB,hM,hI,hl,hk,hz2,hP,hp,hmk,hF,q1,hZt]
 .rw[aa (λh=>absurd h.1 h1)];rcases hiv with rfl|⟨rfl,rfl⟩
  .simp only[aN.cells]at hI hl hp hP⊢
   cases q with
   |true =>
    have:=hk0 rfl;subst this;simp(config := { maxSteps:=1000000 }) (disch:=omega)[↓ac,↓aa,rd,hB,hM,hI,hl,hk,hz2,hP,hp,hmk,hF,q1,hZt]
   |false=>simp(config := { maxSteps:=1000000 }) (disch:=omega)[↓ac,↓aa,rd,hB,hM,hI,hl,hk,hz2,hP,hp,hmk,hF,q1,hZt]
  .simp only[zI]at hI hl hp hP⊢;simp(config := { maxSteps:=1000000 }) (disch:=omega)[↓ac,↓aa,rd,hB,hM,hI,hl,hk,hz2,hP,hp,hmk,hF,q1,hZt]
abbrev ll:=@Classical.byContradiction
def aqK (b:C_)(hb:b.length<=1000000000)(a:Int)(ha:i64 a)(r:Nat)(hr:r<=11)(q:Bool)(i:aN)(iv:D_)(hiv:iv=i.cells∨q=false∧iv=zI)(e:Nat)(e0:bf b a 0=.er e):bj prog tR [.d (.lst (ai b)),A_ a,A_ r,B_ q,.agg iv] =
  some (.tup [.agg CK,A_ 0,A_ (e+1)]):=by
 have hR:dW (r:Int):=o_;have hB:=ic b a 0 hb ha;rw[e0,iV]at hB;have hM:=lc r false;rw[ac hR]at hM;rcases hiv with rfl|⟨rfl,rfl⟩
 all_goals
  simp only[aN.cells,zI];rw[aE Ge GD rfl];simp(config := { maxSteps:=1000000 }) (disch:=omega)[↓ac,↓aa,rd,hB,hM]
def at4 (b:C_)(hb:b.length<=1000000000)(a:Int)(ha:i64 a)(r:Nat)(hr:r<=11)(i:aN)(hi:i.Fit)(hm:¬i.may r)(n0:Nat)(e0:bf b a 0=.ok 0 n0):bj prog tR [.d (.lst (ai b)),A_ a,A_ r,B_ true,.agg i.cells] =
  some (.tup [.agg CK,A_ 0,A_ 8]):=by
 have hR:dW (r:Int):=o_;have hB:=ic b a 0 hb ha;have p0:=eC e0;rw[e0,eY p0]at hB;have hM:=lc r false;rw[ac hR]at hM;have hI:=yq r i hi;rw[ac hR,au,aa hm]at hI;have c0:((0:Nat):Int)=0:=rfl;simp only[aN.cells,c0]at hI hB⊢;rw[aE Ge GD rfl];simp(config := { maxSteps:=1000000 }) (disch:=omega)[↓ac,↓aa,rd,hB,hM,hI]
def aue (b:C_)(hb:b.length<=1000000000)(a:Int)(ha:i64 a)(r:Nat)(hr:r<=11)(q:Bool)(i:aN)(hi:i.Fit)(iv:D_)(hiv:iv=i.cells∨q=false∧iv=zI)(hq:q=true->i.may r)(n0:Nat)(e0:bf b a 0=.ok 0 n0)(e:Nat)(eH:De b n0 r q i=.er e):bj prog tR [.d (.lst (ai b)),A_ a,A_ r,B_ q,.agg iv] =
  some (.tup [.agg CK,A_ 0,A_ (e+1)]):=by
 have hR:dW (r:Int):=o_;have hB:=ic b a 0 hb ha;have p0:=eC e0;rw[e0,eY p0]at hB;obtain⟨k,hk0,hI⟩:=Qu hr hi hiv hq;have hh:=PC b hb r hR q i hi iv hiv (λh=>by rw[au];exact hq h) n0 (by have:=p0.2;omega) k 11;rw[au]at hh;obtain⟨od2,is2,hl⟩:=hh.1.2 e eH;have hM:=lc r false;rw[ac hR]at hM;have c0:((0:Nat):Int)=0:=rfl;simp only[aN.cells,c0]at hI hl hB⊢;clear hh eH hi hq;rw[aE Ge GD rfl];have hmk:Ll 1 xS=true:=rfl;simp only[xS,Bl]at hmk;rcases hiv with rfl|⟨rfl,rfl⟩
 .simp only[aN.cells]at hI hl⊢
  cases q with
  |true =>
   have:=hk0 rfl;subst this;simp(config := { maxSteps:=1000000 }) (disch:=omega)[↓ac,↓aa,rd,hB,hM,hI,hl,hmk]
  |false=>simp(config := { maxSteps:=1000000 }) (disch:=omega)[↓ac,↓aa,rd,hB,hM,hI,hl,hmk]
 .simp only[zI]at hI hl⊢;simp(config := { maxSteps:=1000000 }) (disch:=omega)[↓ac,↓aa,rd,hB,hM,hI,hl,hmk]
def aus (b:C_)(hb:b.length<=1000000000)(a:Int)(ha:i64 a)(r:Nat)(hr:r<=11)(q:Bool)(i:aN)(hi:i.Fit)(iv:D_)(hiv:iv=i.cells∨q=false∧iv=zI)(hq:q=true->i.may r)(n0:Nat)(e0:bf b a 0=.ok 0 n0)(H:Hd)(n:Nat)(eH:De b n0 r q i=.ok H n)(e:Nat)(eL:kE b (N8 r H.inf H.S) n Z0=.er e):bj prog tR [.d (.lst (ai b)),A_ a,A_ r,B_ q,.agg iv] =
  some (.tup [.agg CK,A_ 0,A_ (e+1)]):=by
 have hR:dW (r:Int):=o_;have hB:=ic b a 0 hb ha;have p0:=eC e0;rw[e0,eY p0]at hB;obtain⟨k,hk0,hI⟩:=Qu hr hi hiv hq;have hh:=PC b hb r hR q i hi iv hiv (λh=>by rw[au];exact hq h) n0 (by have:=p0.2;omega) k 11;rw[au]at hh;have p1:=hh.2 H n eH;have hl:=hh.1.1 H n eH;have hM:=lc r false;rw[ac hR]at hM;obtain⟨G,j,S,T,Ft,od,is⟩:=H;simp only[ag5]at hl eL;obtain⟨C2,Z2,M,hp⟩:=(aet b hb ⟨.cells [.junk],.cells [B_ q],.cells iv,.cells [A_ od],.cells [A_ is],.cells [aio],.cells xS,.cells j.cells,.cells [.d (.lst (bF S))],.cells [.own false 1 (cX (offs r j.short))]⟩ (A_ G) (.d (.int .u8 j.seq)) (.d (.int .u8 j.shape)) (A_ j.max) (.own false 1 (aH j.groups)) (aG 1 (bF S)) (share (aG 1 (cZ T))) (aG 1 (cT Ft)) r hr j p1.fit p1.may S p1.S rfl rfl rfl n p1.n).2 e eL;have hj11:=gy hr p1.may;have hSl:S.length=j.groups.length:=p1.S.1;have hTl:=aV List.length p1.T;simp only[gX]at hTl;have hFl:=p1.F.1;simp only at hFl;have hmn:=z8 j;have hgn:j.groups≠[]:=λh=>by have:=(dV hj11).2;rw[h]at this;simp at this;omega
 have hg1:=bL.2 hgn;obtain⟨s1,S1,rfl⟩:=dj (bL.1 (show 0<S.length by omega));obtain⟨t1,T1,rfl⟩:=dj (bL.1 (show 0<T.length by omega));obtain⟨f1,F1,rfl⟩:=dj (bL.1 (show 0<Ft.length by omega));have eS:aG 1 (bF (s1::S1))=.own false 1 (bF (s1::S1)):=rfl;have eT:share (aG 1 (cZ (t1::T1)))=.d (.lst (cZ (t1::T1))):=rfl;have eF:aG 1 (cT (f1::F1))=.own false 1 (cT (f1::F1)):=rfl;have hP:=Qy r hr j (.lst (bF (s1::S1))) [(0,.cells [.d (.lst (ai b))]),(1,.cells [.junk]),(2,.cells [B_ q]),(3,.cells iv),(4,.cells [A_ G,.d (.int .u8 j.seq),.d (.int .u8 j.shape),A_ j.max,.own false 1 (aH j.groups),.own false 1 (bF (s1::S1)),.d (.lst (cZ (t1::T1))),.own false 1 (cT (f1::F1)),.sl 11 0 256]),(5,.cells [A_ n]),(6,.cells [A_ 0]),(7,.cells [A_ od]),(8,.cells [A_ is]),(9,.cells [aio]),(10,.cells xS),(11,.arr 1 (aH Z0)),(12,.cells vI),(13,.cells [.ptr 12 0])] 14 (λp hp=>by
  simp only[ay,cq,ee]at hp;rcases hp with rfl|rfl|rfl|rfl|rfl|rfl|rfl|rfl|rfl|rfl|rfl|rfl|rfl|rfl<;>simp only[]<;>omega)
 have c0:((0:Nat):Int)=0:=rfl;rw[eS,eT,eF]at hl hp;simp only[aN.cells,GH,qJ,OK,aQ,aK,c0]at hI hl hp hP hB⊢;clear hh p1 eL eH eS eT eF hi;generalize bF (s1::S1)=SS at *;generalize cZ (t1::T1)=TT at *;generalize cT (f1::F1)=FF at *;generalize hz:aH Z0=z0 at *;have hk:=awt;have hz2:=asn;rw[hz]at hk hz2;rw[aE Ge GD rfl];have hmk:Ll 1 xS=true:=rfl;simp only[xS,Bl]at hmk;rcases hiv with rfl|⟨rfl,rfl⟩
 .simp only[aN.cells]at hI hl hp hP⊢
  cases q with
  |true =>
   have:=hk0 rfl;subst this;simp(config := { maxSteps:=1000000 }) (disch:=omega)[↓ac,↓aa,rd,hB,hM,hI,hl,hk,hz2,hP,hp,hmk]
  |false=>simp(config := { maxSteps:=1000000 }) (disch:=omega)[↓ac,↓aa,rd,hB,hM,hI,hl,hk,hz2,hP,hp,hmk]
 .simp only[zI]at hI hl hp hP⊢;simp(config := { maxSteps:=1000000 }) (disch:=omega)[↓ac,↓aa,rd,hB,hM,hI,hl,hk,hz2,hP,hp,hmk]
def CU (b:C_)(a:Int)(r:Nat)(q:Bool)(i:aN):R (Hd×G_) :=
 (bf b a 0).bind λ_ n=>if q=true∧¬i.may r then .er 7 else (De b n r q i).bind λH n=>(kE b (N8 r H.inf H.S) n Z0).bind λZ m=>if H.od=0∧(H.is=1->pf H.F=true) then .ok (H,Z) m else .er 7
abbrev avj (x:R (Hd×G_)):M_:=match x with
 |.ok v m=>some (.tup [.agg (Ug v.1 v.2),A_ m,A_ 0])
 |.er e=>some (.tup [.agg CK,A_ 0,A_ (e+1)])
def amt (b:C_)(hb:b.length<=1000000000)(a:Int)(ha:i64 a)(r:Nat)(hr:r<=11)(q:Bool)(i:aN)(hi:i.Fit)(iv:D_)(hiv:iv=i.cells∨q=false∧iv=zI):bj prog tR [.d (.lst (ai b)),A_ a,A_ r,B_ q,.agg iv]=avj (CU b a r q i):=by
 unfold CU
 cases e0:bf b a 0 with
 |er e=>exact aqK b hb a ha r hr q i iv hiv e e0
 |ok v n0 =>
 have hv:v=0:=by have:v<1:=(eC e0).1;omega
 subst hv;rw[az];by_cases hm:q=true∧¬i.may r
 .rw[ac hm];obtain⟨rfl,hm⟩:=hm
  cases hiv.resolve_right λh=>absurd h.1 (by simp)
  exact at4 b hb a ha r hr i hi hm n0 e0
 .rw[aa hm];have hq:q=true->i.may r:=λh=>ll λh2=>hm ⟨h,h2⟩
  cases eH:De b n0 r q i with
  |er e=>exact aue b hb a ha r hr q i hi iv hiv hq n0 e0 e eH
  |ok H n =>
  rw[az]
  cases eL:kE b (N8 r H.inf H.S) n Z0 with
  |er e=>exact aus b hb a ha r hr q i hi iv hiv hq n0 e0 H n eH e eL
  |ok Z m =>
   rw[az,ayh b hb a ha r hr q i hi iv hiv hq n0 e0 H n eH Z m eL];by_cases h:H.od=0∧(H.is=1->pf H.F=true)
   .rw[ac h,ac h]
   .rw[aa h,aa h];rfl
def aud (l:G_)(hl:l.length<=1000000)(h:am)(N:Nat):∀(r:G_) (i:Nat),l.drop i=r->(Dn prog).code (.loop lv) ⟨[(0,.d (.lst (aH l))),(1,.d (.lst (aH l))),(5,A_ i)],⟨h,N⟩⟩=some (.exit 0,⟨[],⟨h,N⟩⟩):=by
 intro r
 induction r with
 |nil =>
  intro i hd;have hi:=aY hd;rw[ah zj];simp(maxSteps:=300000) (disch:=omega)[↓ac,↓aa]
 |cons v r ih =>
  intro i hd;have hg:=yu hd;have hlt:=bw hd;have e:=ih (i+1) (bt hd);rw[show((i+1:Nat):Int)=(i:Int)+1 from rfl]at e;rw[ah zj];simp(maxSteps:=300000) (disch:=omega)[↓ac,↓aa,hg,e]
def Ip (l:G_)(hl:l.length<=1000000):bj prog DL [.d (.lst (aH l)),.d (.lst (aH l))]=some (B_ true):=by
 have e:=aud l hl [] 0 l 0 rfl;rw[show((0:Nat):Int)=0 from rfl]at e;rw[aE Qq Qe rfl];simp(maxSteps:=300000) (disch:=omega)[↓ac,↓aa,e]
def aoE (i:aN)(hi:i.groups.length<=1000000):bj prog Do [.agg i.cells,.agg i.cells]=some (B_ true):=by
 have e:=Ip i.groups hi;simp only[aN.cells];rw[aE Qv OX rfl];simp(maxSteps:=300000) (disch:=omega)[↓ac,↓aa,e]
def as7 (l:J_)(hl:l.length<=1000000)(hq:∀x∈l,x.length<=1000000)(h:am)(N:Nat):∀(r:J_) (i:Nat),l.drop i=r->(Dn prog).code (.loop iX) ⟨[(0,.d (.lst (cZ l))),(1,.d (.lst (cZ l))),(5,A_ i)],⟨h,N⟩⟩=some (.exit 0,⟨[],⟨h,N⟩⟩):=by
 intro r
 induction r with
 |nil =>
  intro i hd;have hi:=aY hd;rw[ah s9];simp(maxSteps:=300000) (disch:=omega)[↓ac,↓aa]
 |cons v r ih =>
  intro i hd;have hg:=Gf hd;have hlt:=bw hd;have hv:=hq v (bJ (by rw[hd];exact .head _));have e:=ih (i+1) (bt hd);have e2:=Ip v hv;rw[show((i+1:Nat):Int)=(i:Int)+1 from rfl]at e;rw[ah s9];simp(maxSteps:=300000) (disch:=omega)[↓ac,↓aa,hg,e,e2]
def abf (l:J_)(hl:l.length<=1000000)(hq:∀x∈l,x.length<=1000000):bj prog wG [.d (.lst (cZ l)),.d (.lst (cZ l))]=some (B_ true):=by
 have e:=as7 l hl hq [] 0 l 0 rfl;rw[show((0:Nat):Int)=0 from rfl]at e;rw[aE If Ir rfl];simp(maxSteps:=300000) (disch:=omega)[↓ac,↓aa,e]
def asg (x y:Int):K5 true [true,true] (.agg [A_ x,A_ y]) (.agg [A_ x,A_ y])=some (.bool false):=by
 simp[K5,bz,mD]
def aw6 (full:H_)(w:Nat)(l:P_)(q:H_)(hw:full.drop w=l::q)(hf:full.length<=1000000)(hl:l.length<=1000000)(h:am)(N:Nat):∀(r:P_) (i:Nat),l.drop i=r->(Dn prog).code (.loop gO) ⟨[(0,.d (.lst (bF full))),(1,.d (.lst (bF full))),(5,A_ w),(6,A_ i)],⟨h,N⟩⟩=some (.exit 2,⟨[(0,.d (.lst (bF full))),(1,.d (.lst (bF full))),(5,A_ w)],⟨h,N⟩⟩):=by
 have hg1:=kY hw;have hw1:=bw hw;intro r
 induction r with
 |nil =>
  intro i hd;have hi:=aY hd;rw[ah pX];simp(maxSteps:=300000) (disch:=omega)[↓ac,↓aa,hg1]
 |cons v r ih =>
  intro i hd;have hg:=wZ hd;have hlt:=bw hd;have e:=ih (i+1) (bt hd);rw[show((i+1:Nat):Int)=(i:Int)+1 from rfl]at e;rw[ah pX];simp(maxSteps:=300000) (disch:=omega)[↓ac,↓aa,hg,hg1,e,asg]
def awP (full:H_)(hf:full.length<=1000000)(hq:∀x∈full,x.length<=1000000)(h:am)(N:Nat):∀(r:H_) (i:Nat),full.drop i=r->(Dn prog).code (.loop gF) ⟨[(0,.d (.lst (bF full))),(1,.d (.lst (bF full))),(5,A_ i)],⟨h,N⟩⟩=some (.exit 0,⟨[],⟨h,N⟩⟩):=by
 intro r
 induction r with
 |nil =>
  intro i hd;have hi:=aY hd;rw[ah pK];simp(maxSteps:=300000) (disch:=omega)[↓ac,↓aa]
 |cons v r ih =>
  intro i hd;have hg:=kY hd;have hlt:=bw hd;have hv:=hq v (bJ (by rw[hd];exact .head _));have e:=ih (i+1) (bt hd);have e2:=aw6 full i v r hd hf hv h N v 0 rfl;rw[show((i+1:Nat):Int)=(i:Int)+1 from rfl]at e;rw[show((0:Nat):Int)=0 from rfl]at e2;rw[ah pK];simp(maxSteps:=300000) (disch:=omega)[↓ac,↓aa,hg,e,e2]
def RZ (l:H_)(hl:l.length<=1000000)(hq:∀x∈l,x.length<=1000000):bj prog tG [.d (.lst (bF l)),.d (.lst (bF l))]=some (B_ true):=by
 have e:=awP l hl hq [] 0 l 0 rfl;rw[show((0:Nat):Int)=0 from rfl]at e;rw[aE Ew Fy rfl];simp(maxSteps:=300000) (disch:=omega)[↓ac,↓aa,e]
def aBF (full:N_)(w:Nat)(l:AA_)(q:N_)(hw:full.drop w=l::q)(hf:full.length<=1000000)(hl:l.length<=1000000)(hc:∀f∈l,f.coefs.length<=1000000):∀(r:AA_) (i N:Nat),l.drop i=r->∃M,(Dn prog).code (.loop jE) ⟨[(0,.d (.lst (cT full))),(1,.d (.lst (cT full))),(5,A_ w),(6,A_ i)],⟨[],N⟩⟩=some (.exit 2,⟨[(0,.d (.lst (cT full))),(1,.d (.lst (cT full))),(5,A_ w)],⟨[],M⟩⟩):=by
 have hg1:=tQ hw;have hw1:=bw hw;intro r
 induction r with
 |nil =>
  intro i N hd;have hi:=aY hd;refine⟨N,?_⟩;rw[ah uW];simp(maxSteps:=300000) (disch:=omega)[↓ac,↓aa,hg1]
 |cons v r ih =>
  intro i N hd;have hg:=Bf hd;have hlt:=bw hd;have hv:=hc v (bJ (by rw[hd];exact .head _));have e2:=Ip v.coefs hv;obtain⟨M,e⟩:=ih (i+1) (N+1+1) (bt hd);rw[show((i+1:Nat):Int)=(i:Int)+1 from rfl]at e;refine⟨M,?_⟩;rw[ah uW];simp(maxSteps:=300000) (disch:=omega)[↓ac,↓aa,hg,hg1,e,e2]
def aBp (full:N_)(hf:full.length<=1000000)(hq:∀x∈full,x.length<=1000000)(hc:∀x∈full,∀f∈x,f.coefs.length<=1000000):∀(r:N_) (i N:Nat),full.drop i=r->∃M,(Dn prog).code (.loop jJ) ⟨[(0,.d (.lst (cT full))),(1,.d (.lst (cT full))),(5,A_ i)],⟨[],N⟩⟩=some (.exit 0,⟨[],⟨[],M⟩⟩):=by
 intro r
 induction r with
 |nil =>
  intro i N hd;have hi:=aY hd;refine⟨N,?_⟩;rw[ah vA];simp(maxSteps:=300000) (disch:=omega)[↓ac,↓aa]
 |cons v r ih =>
  intro i N hd;have hg:=tQ hd;have hlt:=bw hd;have hm:v∈full:=bJ (by rw[hd];exact .head _);have hv:=hq v hm;obtain⟨M1,e2⟩:=aBF full i v r hd hf hv (hc v hm) v 0 N rfl;obtain⟨M,e⟩:=ih (i+1) M1 (bt hd);rw[show((i+1:Nat):Int)=(i:Int)+1 from rfl]at e;rw[show((0:Nat):Int)=0 from rfl]at e2;refine⟨M,?_⟩;rw[ah vA];simp(maxSteps:=300000) (disch:=omega)[↓ac,↓aa,hg,e,e2]
def afG (l:N_)(hl:l.length<=1000000)(hq:∀x∈l,x.length<=1000000)(hc:∀x∈l,∀f∈x,f.coefs.length<=1000000):bj prog yU [.d (.lst (cT l)),.d (.lst (cT l))]=some (B_ true):=by
 obtain⟨M,e⟩:=aBp l hl hq hc l 0 0 rfl;rw[show((0:Nat):Int)=0 from rfl]at e;rw[aE Kz Kv rfl];simp(maxSteps:=300000) (disch:=omega)[↓ac,↓aa,e]
def apv (c:cK)(hc:c.Fit):bj prog Cy [.agg c.av,.agg c.av]=some (B_ true):=by
 have hg:=hc.info.len;have hl:=hc.lines;have h1:=aoE c.info o_;have h2:=Ip c.lines o_;have h3:=RZ c.sects (by have:=hc.sects.1;omega) (λl h=>by have:=hc.sects.2 l h;omega);have h4:=abf c.steps (by have:=hc.steps.1;omega) (λl h=>by have:=hc.steps.2 l h;omega);have h5:=afG c.tns (by have:=hc.tns.1;omega) (λl h=>by have:=(hc.tns.2 l h).1;omega) (λl h f hf=>by have:=(hc.tns.2 l h).2 f hf;omega);simp only[cK.av,aN.cells]at h1⊢;rw[aE Qh PE rfl];simp(maxSteps:=300000) (disch:=omega)[↓ac,↓aa,h1,h2,h3,h4,h5]
abbrev xf:=@List.drop_left
abbrev eq:=@Nat.mul_comm
abbrev zH:=@Nat.mul_assoc
abbrev ox:=@Nat.add_mul_div_right
def At (b:C_)(a n:Nat)(X:C_):Prop:=a<=b.length∧n=a+X.length∧∃t,b.drop a=X++t
def ef {b:C_}{a n:Nat}:At b a n []↔n=a∧a<=b.length:=by
 constructor
 .rintro ⟨h1,h2,_⟩
  exact⟨by simpa using h2,h1⟩
 .rintro ⟨h1,h2⟩
  exact⟨h2,by simpa using h1,b.drop a,rfl⟩
def dA {b:C_}{a n:Nat}{X:C_}(h:At b a n X):a<=b.length∧n<=b.length∧n=a+X.length:=by
 obtain⟨h1,h2,t,h3⟩:=h;have:=aV List.length h3;rw[cM,aj]at this;exact⟨h1,o_,h2⟩
def aZ {b:C_}{a n:Nat}{X Y:C_}:At b a n (X++Y)↔∃m,At b a m X∧At b m n Y:=by
 constructor
 .intro h;have hl:=dA h;obtain⟨h1,h2,t,h3⟩:=h;rw[aj]at h2;refine⟨a+X.length,⟨h1,rfl,Y++t,by rw[h3,aA]⟩,o_,o_,t,?_⟩;rw[<-mM,h3,aA,xf]
 .rintro ⟨m,⟨h1,h2,t,h3⟩,h4,h5,t2,h6⟩
  refine⟨h1,by rw[aj];omega,t2,?_⟩;rw[h2,<-mM,h3,xf]at h6;rw[h3,h6,aA]
def dx {n:Nat}:∀{k:Nat},bin (ar n k)
 |0=>by simp[ar,bin]
 |k+1=>by
  intro x hx;rw[ar]at hx;rcases ay.1 hx with h|h
  .omega
  .exact dx x h
def U3 {v:Nat}:∀{s n:Nat},val (ar v s) n=n*2 ^ s+v % 2 ^ s
 |0,n=>by simp[ar,val,Nat.mod_one]
 |k+1,n=>by
  rw[ar,val,U3,Nat.mod_pow_succ,dg,di];have:2*n*2 ^ k=n*(2 ^ k*2):=by rw[eq 2 n,zH,eq 2 (2 ^ k)]
  rw[this,eq (v / 2 ^ k % 2)];omega
def agC:∀{l:C_}{n:Nat},val l n=n*2 ^ l.length+val l 0
 |[],n=>by simp[val]
 |x::r,n=>by
  rw[val,val,agC,agC (n:=2*0+x),aq,dg,di];have:2*n*2 ^ r.length=n*(2 ^ r.length*2):=by rw[eq 2 n,zH,eq 2 (2 ^ r.length)]
  rw[this];simp only[Nat.mul_zero,bv];omega
def UB:∀{l:C_}{n:Nat},bin l->ar (val l n) l.length=l
 |[],n,_=>rfl
 |x::r,n,h=>by
  have hr:bin r:=λy hy=>h y (.tail _ hy)
  have hx:=h x (.head _);have h0:=Jj (l:=r) (n:=0) (i:=0) hr o_;rw[bv]at h0;have e:val r (2*n+x) / 2 ^ r.length % 2=x:=by
   rw[agC,oS,ox _ _ (Nat.pow_pos k_),iT h0];omega
  rw[val,aq,ar,e,UB hr]
def cx {b:C_}{a s v n:Nat}(hs:s<=31):bf b (a:Int) (s:Int)=.ok v n↔v<2 ^ s∧At b a n (ar v s):=by
 unfold bf;simp only[au];constructor
 .intro h;by_cases h1:(0<=(s:Int)∧(s:Int)<=31)∧0<=(a:Int)∧(a:Int)<=b.length
  .rw[ac h1]at h;by_cases h2:((b.length:Nat):Int)-a<s
   .rw[ac h2]at h;exact absurd h (by simp)
   .rw[aa h2]at h;by_cases h3:bin ((b.drop a).take s)
    .rw[ac h3]at h;injection h with e1 e2
     have hl:((b.drop a).take s).length=s:=by rw[b6,cM];omega
     have h4:=Jj (n:=0) (i:=0) h3 o_;have h5:=UB (n:=0) h3;rw[hl,e1]at h4 h5;rw[bv]at h4;refine⟨h4,o_,by rw[df];omega,(b.drop a).drop s,?_⟩;rw[h5,aU]
    .rw[aa h3]at h;exact absurd h (by simp)
  .rw[aa h1]at h;exact absurd h (by simp)
 .rintro ⟨hv,h⟩
  have hl:=dA h;obtain⟨h1,h2,t,h3⟩:=h;rw[df]at h2;have e:(b.drop a).take s=ar v s:=by rw[h3,List.take_left' df]
  rw[ac o_,aa o_,e,ac dx,U3,eK hv,h2];simp
def amr {b:C_}{a:Int}{s:Int}{v n:Nat}(h:bf b a s=.ok v n):0<=a:=by
 unfold bf at h;by_cases h1:(0<=s∧s<=31)∧0<=a∧a<=b.length
 .exact h1.2.1
 .rw[aa h1]at h;exact absurd h (by simp)
def Ub {α:Type}{c:Prop}[Decidable c]{v w:α}{n m:Nat}:SK c v n=.ok w m↔c∧v=w∧n=m:=by
 unfold SK;by_cases h:c
 .rw[ac h];exact⟨λe=>by injection e with e1 e2;exact⟨h,e1,e2⟩,λ⟨_,e1,e2⟩=>by rw[e1,e2]⟩
 .rw[aa h];exact⟨λe=>absurd e s_,λe=>absurd e.1 h⟩
def aS {α β:Type}{x:R α}{f:α->Nat->R β}{v:β}{n:Nat}:x.bind f=.ok v n↔∃u m,x=.ok u m∧f u m=.ok v n :=
 ⟨rl,λ⟨u,m,h1,h2⟩=>by rw[h1];exact h2⟩
def abB:Nat->AD_
 |0=>[[]]
 |k+1=>(abB k).map (0::·)++(abB k).map (1::·)
def amU:∀{l:C_},bin l->l∈abB l.length
 |[],_=>by simp[abB]
 |x::r,h=>by
  have ih:=amU (l:=r) λy hy=>h y (.tail _ hy)
  have hx:=h x (.head _);rw[aq,abB,be,dy,dy];rcases Nat.le_one_iff_eq_zero_or_eq_one.1 hx with rfl|rfl
  .exact .inl ⟨r,ih,rfl⟩
  .exact .inr ⟨r,ih,rfl⟩
def ahz:Nat->Nat->J_
 |0,_=>[]
 |f+1,0=>[[]]
 |f+1,n+1=>(List.range (n+1)).flatMap λk=>(ahz f (n-k)).map (((k:Int)+1)::·)
def amp:∀{g:G_}{f n:Nat},(∀x∈g,1<=x)->g.sum=n->n<f->g∈ahz f n
 |[],f,n,_,h,hf=>by
  obtain⟨f,rfl⟩:=Nat.exists_eq_add_of_lt hf;have:n=0:=by simp at h;omega
  subst this;simp[ahz]
 |x::r,f,n,hx,h,hf=>by
  have h1:=hx x (.head _);have h2:=nf (l:=r) λy hy=>hx y (.tail _ hy)
  rw[kW]at h;obtain⟨f,rfl⟩:∃k,f=k+1:=⟨f-1,o_⟩
  obtain⟨n,rfl⟩:∃k,n=k+1:=⟨n-1,o_⟩
  have ih:=amp (g:=r) (f:=f) (n:=n-(x.toNat-1)) (λy hy=>hx y (.tail _ hy)) o_ o_;rw[ahz,kz];exact⟨x.toNat-1,ed.2 o_,dy.2 ⟨r,ih,by congr 1;omega⟩⟩
def ayT:∀l∈abB 7,J5 (grow [1] l) 7 0=l:=e_
def ayG:∀g∈ahz 9 8,grow [1] (J5 g 7 0)=g:=e_
def Qd {b:C_}:∀{k a n:Nat}{l:C_},a<=b.length->(AM b k a=.ok l n↔(l.length=k∧bin l)∧At b a n l)
 |0,a,n,l,ha=>by
  rw[AM];constructor
  .intro h;injection h with e1 e2
   subst e1 e2;exact⟨⟨rfl,by simp[bin]⟩,ef.2 ⟨rfl,ha⟩⟩
  .rintro ⟨⟨h1,_⟩,h2⟩
   have:=ax h1;subst this;rw[(ef.1 h2).1]
 |k+1,a,n,l,ha=>by
  rw[AM,aS];constructor
  .rintro ⟨v,m,h1,h2⟩
   obtain⟨g1,g2⟩:=(cx (s:=1) o_).1 h1;obtain⟨l2,m2,h3,h4⟩:=aS.1 h2;injection h4 with e1 e2;subst e1 e2;obtain⟨⟨i1,i2⟩,i3⟩:=(Qd (dA g2).2.1).1 h3;refine⟨⟨by rw[aq,i1],λx hx=>?_⟩,?_⟩
   .rcases ay.1 hx with rfl|hx
    .omega
    .exact i2 x hx
   .have e:ar v 1=[v]:=by simp[ar];omega
    rw[e]at g2;exact aZ.2 ⟨m,g2,i3⟩
  .rintro ⟨⟨h1,h2⟩,h3⟩
   cases l with
   |nil=>simp at h1
   |cons v r =>
    have hv:=h2 v (.head _);obtain⟨m,g1,g2⟩:=aZ (X:=[v]) (Y:=r) |>.1 h3;have e:ar v 1=[v]:=by simp[ar];omega
    rw[<-e]at g1;have hr:=(Qd (k:=k) (dA g2).1).2 ⟨⟨by simpa using h1,λy hy=>h2 y (.tail _ hy)⟩,g2⟩;exact⟨v,m,(cx (s:=1) o_).2 ⟨o_,g1⟩,by rw[hr];rfl⟩
def am6 {g:G_}:∀{k w:Nat},bin (J5 g k w)
 |0,_=>by simp[J5,bin]
 |k+1,w=>by
  intro x hx;rw[J5]at hx;rcases be.1 hx with h|h
  .revert h
   split<;>exact λh=>dx x h
  .exact am6 x h
def Pg {b:C_}{a r n:Nat}{j:aN}(hr:r<=11):nj b (a:Int) r=.ok j n↔j.may r∧At b a n (ln j):=by
 unfold nj ln;constructor
 .intro h;obtain⟨o,n1,h1,h⟩:=aS.1 h;obtain⟨q,n2,h2,h⟩:=aS.1 h;obtain⟨s,n3,h3,h⟩:=aS.1 h;have k1:=(cx (s:=1) o_).1 h1;have k2:=(cx (s:=2) o_).1 h2;have k3:=(cx (s:=1) o_).1 h3;by_cases hq:q=2
  .rw[ac hq]at h;obtain⟨m,n4,h4,h⟩:=aS.1 h;obtain⟨l,n5,h5,h⟩:=aS.1 h;obtain⟨⟨ho,hm⟩,e1,e2⟩:=Ub.1 h;have k4:=(cx (s:=4) o_).1 h4;have k5:=(Qd (dA k4.2).2.1).1 h5;subst e1 e2 ho;refine⟨hm,aZ.2 ⟨n1,k1.2,aZ.2 ⟨n2,k2.2,aZ.2 ⟨n3,k3.2,?_⟩⟩⟩⟩;simp only[hq,bh,au];refine aZ.2 ⟨n4,k4.2,?_⟩;rw[ayT l (by have:=amU k5.1.2;rwa [k5.1.1]at this)];exact k5.2
  .rw[aa hq]at h;obtain⟨m,n4,h4,h⟩:=aS.1 h;obtain⟨p,n5,h5,h⟩:=aS.1 h;obtain⟨⟨⟨ho,hp⟩,hm⟩,e1,e2⟩:=Ub.1 h;have k4:=(cx (s:=6) o_).1 h4;have k5:=(cx (s:=1) o_).1 h5;subst e1 e2 ho hp;refine⟨hm,aZ.2 ⟨n1,k1.2,aZ.2 ⟨n2,k2.2,aZ.2 ⟨n3,k3.2,?_⟩⟩⟩⟩;simp only[aa hq,au];exact aZ.2 ⟨n4,k4.2,k5.2⟩
 .rintro ⟨hm,h0⟩
  obtain⟨n1,k1,h1⟩:=aZ.1 h0;obtain⟨n2,k2,h2⟩:=aZ.1 h1;obtain⟨n3,k3,h3⟩:=aZ.1 h2;clear h0 h1 h2;have g11:=gy hr hm;have hmx:=jW g11;obtain⟨s,sh,m,g⟩:=j;have hs:s<=3:=hm.1;have hsh:sh<=1:=hm.2.1;simp only at hmx h3 k2 k3;obtain⟨M,rfl⟩:=aB hmx.1;refine aS.2 ⟨0,n1,(cx (s:=1) o_).2 ⟨o_,k1⟩,aS.2 ⟨s,n2,(cx (s:=2) o_).2 ⟨o_,k2⟩,aS.2 ⟨sh,n3,(cx (s:=1) o_).2 ⟨o_,k3⟩,?_⟩⟩⟩;have hmb:(M:Int)<=sc r (decide (s=2)):=hm.2.2.2.1;have hgr:aN.grouped _:=hm.2.2.2.2;unfold aN.grouped at hgr;simp only[au]at h3 hgr;by_cases hq:s=2
  .subst hq;have m4:M<2 ^ 4:=by
    have:=(Pp (r,true) (fH o_)).2;simp only[decide_true]at hmb this;omega
   rw[ac rfl]at h3 hgr⊢;obtain⟨n4,k4,h4⟩:=aZ.1 h3;have hg:=ayG g (amp (λx hx=>(hgr.1 x hx).1) hgr.2.1 o_);exact aS.2 ⟨M,n4,(cx (s:=4) o_).2 ⟨m4,k4⟩,aS.2 ⟨J5 g 7 0,n,(Qd (dA k4).2.1).2 ⟨⟨abJ,am6⟩,h4⟩,Ub.2 ⟨⟨rfl,by rw[hg];exact hm⟩,by rw[hg],rfl⟩⟩⟩
  .have m6:=IY (r:=r) (s:=decide (s=2)) o_;rw[aa hq]at h3 hgr⊢;obtain⟨n4,k4,h4⟩:=aZ.1 h3
   cases hgr
   exact aS.2 ⟨M,n4,(cx (s:=6) o_).2 ⟨o_,k4⟩,aS.2 ⟨0,n,(cx (s:=1) o_).2 ⟨o_,h4⟩,Ub.2 ⟨⟨⟨rfl,rfl⟩,hm⟩,rfl,rfl⟩⟩⟩
def amJ {aX:Nat}(hm:1<=aX):∀{f g n:Nat},n<=f->n<=g->eM aX f n=eM aX g n
 |0,0,n,_,_=>rfl
 |0,g+1,n,h,_=>by
  have:n=0:=o_;subst this;rw[eM,eM,aa o_]
 |f+1,0,n,_,h=>by
  have:n=0:=o_;subst this;rw[eM,eM,aa o_]
 |f+1,g+1,n,h1,h2=>by
  rw[eM,eM];by_cases h:aX<=n
  .rw[ac h,ac h,amJ hm (f:=f) (g:=g) (n:=n-aX) o_ o_]
  .rw[aa h,aa h]
def awr {aX d:Nat}(hm:1<=aX)(h:aX<=d):eM aX d d=aX::eM aX (d-aX) (d-aX):=by
 obtain⟨e,rfl⟩:∃e,d=e+1:=⟨d-1,o_⟩
 rw[eM,ac h,amJ hm (f:=e) (g:=e+1-aX) o_ o_]
def avE {aX d:Nat}(h:d<aX):eM aX d d=[d]:=by
 cases d with
 |zero=>rfl
 |succ e=>rw[eM,aa o_]
def UW {b:C_}{sz aX left:Nat}(hs:1<=sz∧sz<=5)(hm:aX=2 ^ sz-1):∀{f a acc n m:Nat},left<acc+f->
  (zL b sz aX left f a acc=.ok n m↔(acc<=n∧n<=left)∧At b a m ((eM aX (n-acc) (n-acc)).flatMap λx=>ar x sz))
 |0,a,acc,n,m,hf=>by
  rw[zL];exact⟨λh=>absurd h s_,λh=>by omega⟩
 |f+1,a,acc,n,m,hf=>by
  have h2:2 ^ 1<=2 ^ sz:=aw o_ hs.1;rw[zL,aS];constructor
  .rintro ⟨x,m1,h1,h⟩
   obtain⟨g1,g2⟩:=(cx o_).1 h1;by_cases hl:left<acc+x
   .rw[ac hl]at h;exact absurd h (by simp)
   rw[aa hl]at h;by_cases hx:x=aX
   .rw[ac hx,UW hs hm o_]at h;obtain⟨h3,h4⟩:=h;refine⟨o_,?_⟩;rw[awr o_ o_,aD,aZ];refine⟨m1,by rw[<-hx];exact g2,?_⟩;rw[show n-acc-aX=n-(acc+x) by omega];exact h4
   .rw[aa hx]at h;injection h with e1 e2
    subst e1 e2;refine⟨o_,?_⟩;rw[show acc+x-acc=x by omega,avE o_];simpa using g2
  .rintro ⟨h1,h⟩
   by_cases hd:aX<=n-acc
   .rw[awr o_ hd,aD,aZ]at h;obtain⟨m1,k1,k2⟩:=h;refine⟨aX,m1,(cx o_).2 ⟨o_,k1⟩,?_⟩;rw[aa o_,ac rfl,UW hs hm o_];refine⟨o_,?_⟩;rw[show n-(acc+aX)=n-acc-aX by omega];exact k2
   .rw[avE o_]at h;simp only[aD,gk,bi]at h;refine⟨n-acc,m,(cx o_).2 ⟨o_,h⟩,?_⟩;rw[aa o_,aa o_,show acc+(n-acc)=n by omega]
def amL {b:C_}{sz left a m:Nat}{s:aT}(hs:1<=sz∧sz<=5):IK b sz left a=.ok s m↔s.right left∧At b a m (Mi sz s):=by
 rw[IK,aS,Mi];constructor
 .rintro ⟨k,m1,h1,h⟩
  obtain⟨g1,g2⟩:=(cx (s:=4) o_).1 h1;by_cases hk:k=12∨13<k
  .rw[ac hk]at h;exact absurd h (by simp)
  rw[aa hk]at h;obtain⟨n,m2,h2,h⟩:=aS.1 h;obtain⟨g3,g4⟩:=(UW hs rfl o_).1 h2;by_cases h0:n=0
  .rw[ac h0]at h;exact absurd h (by simp)
  rw[aa h0]at h;injection h with e1 e2
  subst e1 e2;refine⟨⟨⟨by simp only[];omega,by simp only[];omega⟩,by simp only[MO];omega⟩,aZ.2 ⟨m1,g2,?_⟩⟩;simpa using g4
 .rintro ⟨⟨⟨h1,h2⟩,h3,h4⟩,h⟩
  obtain⟨k,n⟩:=s;simp only at h1 h2 h3 h4 h;obtain⟨k,rfl⟩:=aB h3;obtain⟨n,rfl⟩:=aB (show 0<=n by omega);simp only[au]at h;obtain⟨m1,k1,k2⟩:=aZ.1 h;refine⟨k,m1,(cx (s:=4) o_).2 ⟨o_,k1⟩,?_⟩;rw[aa o_];refine aS.2 ⟨n,m,(UW hs rfl o_).2 ⟨o_,by simpa using k2⟩,?_⟩;rw[aa o_]
def K6 {b:C_}{sz:Nat}(hs:1<=sz∧sz<=5):∀{f left a m:Nat}{l:P_},left<=f->a<=b.length->(kM b sz f left a=.ok l m↔fitsS left l∧At b a m (qU sz l))
 |0,left,a,m,l,hf,ha=>by
  have:left=0:=o_;subst this;rw[kM];constructor
  .intro h;injection h with e1 e2
   subst e1 e2;exact⟨rfl,ef.2 ⟨rfl,ha⟩⟩
  .rintro ⟨h1,h2⟩
   cases l with
   |nil=>rw[(ef.1 h2).1]
   |cons s l=>have:=h1.1.1;omega
 |f+1,left,a,m,l,hf,ha=>by
  rw[kM];by_cases h0:left=0
  .subst h0;rw[ac rfl];constructor
   .intro h;injection h with e1 e2
    subst e1 e2;exact⟨rfl,ef.2 ⟨rfl,ha⟩⟩
   .rintro ⟨h1,h2⟩
    cases l with
    |nil=>rw[(ef.1 h2).1]
    |cons s l=>have:=h1.1.1;omega
  .rw[aa h0,aS];constructor
   .rintro ⟨s,m1,h1,h⟩
    obtain⟨g1,g2⟩:=(amL hs).1 h1;obtain⟨l2,m2,h2,h⟩:=aS.1 h;injection h with e1 e2;subst e1 e2;have hr:=g1.1;obtain⟨g3,g4⟩:=(K6 hs o_ (dA g2).2.1).1 h2;refine⟨⟨g1,?_⟩,aZ.2 ⟨m1,g2,g4⟩⟩
    rwa [show((left-s.len.toNat:Nat):Int)=left-s.len by omega]at g3
   .rintro ⟨h1,h2⟩
    cases l with
    |nil=>exact absurd h1 (by show ¬((left:Int)=0);omega)
    |cons s l =>
     obtain⟨k1,k2⟩:=h1;obtain⟨m1,j1,j2⟩:=aZ.1 (show At b a m (Mi sz s++qU sz l) from h2);have hr:=k1.1;refine⟨s,m1,(amL hs).2 ⟨k1,j1⟩,aS.2 ⟨l,m,(K6 hs o_ (dA j1).2.1).2 ⟨?_,j2⟩,rfl⟩⟩
     rwa [show((left-s.len.toNat:Nat):Int)=left-s.len by omega]
def Yw {b:C_}{sz aX:Nat}(hs:1<=sz∧sz<=5):∀{k a m:Nat}{g:H_},a<=b.length->(uH b sz aX k a=.ok g m↔(g.length=k∧∀l∈g,fitsS aX l)∧At b a m (g.flatMap (qU sz)))
 |0,a,m,g,ha=>by
  rw[uH];constructor
  .intro h;injection h with e1 e2
   subst e1 e2;exact⟨⟨rfl,s_⟩,ef.2 ⟨rfl,ha⟩⟩
  .rintro ⟨⟨h1,_⟩,h2⟩
   have:=ax h1;subst this;rw[(ef.1 h2).1]
 |k+1,a,m,g,ha=>by
  rw[uH,aS];constructor
  .rintro ⟨l,m1,h1,h⟩
   obtain⟨g1,g2⟩:=(K6 hs (al _) ha).1 h1;obtain⟨r,m2,h2,h⟩:=aS.1 h;injection h with e1 e2;subst e1 e2;obtain⟨⟨g3,g4⟩,g5⟩:=(Yw hs (dA g2).2.1).1 h2;refine⟨⟨by rw[aq,g3],λq hq=>?_⟩,aZ.2 ⟨m1,g2,g5⟩⟩;rcases ay.1 hq with rfl|hq
   .exact g1
   .exact g4 q hq
  .rintro ⟨⟨h1,h2⟩,h3⟩
   cases g with
   |nil=>simp at h1
   |cons l r =>
    obtain⟨m1,j1,j2⟩:=aZ.1 (show At b a m (qU sz l++r.flatMap (qU sz)) from h3);exact⟨l,m1,(K6 hs (al _) ha).2 ⟨h2 l (.head _),j1⟩,aS.2 ⟨r,m,(Yw hs (dA j1).2.1).2 ⟨⟨by simpa using h1,λq hq=>h2 q (.tail _ hq)⟩,j2⟩,rfl⟩⟩
def aaw {b:C_}{i:aN}{a m:Nat}{g:H_}(hm:i.may 11)(ha:a<=b.length):vS b i (a:Int)=.ok g m↔jZ i g∧At b a m (OY i g):=by
 have hmx:=jW hm;obtain⟨M,hM⟩:=aB hmx.1;have hs:1<=i.fsz∧i.fsz<=5:=by unfold aN.fsz;split<;>omega
 rw[vS,ac o_,au,Yw hs ha,qc hmx.1];exact Iff.rfl
def aaH:∀id∈ids,(cA id).length=bq id∧(List.range (bq id)).all (λe=>Nat.beq (nth (cA id) (nth (dM id) e)) e && Nat.beq (nth (dM id) (nth (cA id) e)) e)=true:=e_
def adG {id e:Nat}(h:jN id)(he:e<bq id):nth (cA id) (nth (dM id) e)=e∧nth (dM id) (nth (cA id) e)=e:=by
 have h1:=bH.1 (aaH id (f9 h)).2 e (ed.2 he);rw[af,aF,aF]at h1;exact h1
abbrev qp:=@Nat.add_mul_mod_self_right
abbrev px:=@Nat.div_add_mod
def K8 {b:C_}:∀{f m a k n:Nat},mS b f m (a:Int)=.ok k n↔(m<=k∧k<m+f)∧At b a n (List.replicate (k-m) 0++[1])
 |0,m,a,k,n=>by
  rw[mS];exact⟨λh=>absurd h s_,λh=>by omega⟩
 |f+1,m,a,k,n=>by
  rw[mS,aS];constructor
  .rintro ⟨v,m1,h1,h⟩
   obtain⟨g1,g2⟩:=(cx (s:=1) o_).1 h1;have e:ar v 1=[v]:=by simp[ar];omega
   rw[e]at g2;by_cases hv:v=1
   .rw[ac hv]at h;injection h with e1 e2
    subst e1 e2 hv;exact⟨o_,by simpa using g2⟩
   .have:v=0:=o_;subst this;rw[aa hv,K8]at h;obtain⟨h2,h3⟩:=h;refine⟨o_,?_⟩;rw[show k-m=(k-(m+1))+1 by omega,cL,aQ];exact aZ (X:=[0]) |>.2 ⟨m1,g2,h3⟩
  .rintro ⟨h1,h⟩
   by_cases hk:k=m
   .subst hk;rw[uh]at h;refine⟨1,n,(cx (s:=1) o_).2 ⟨o_,?_⟩,by rw[ac rfl]⟩;simpa [ar] using h
   .rw[show k-m=(k-(m+1))+1 by omega,cL,aQ]at h;obtain⟨m1,k1,k2⟩:=aZ (X:=[0]) |>.1 h;refine⟨0,m1,(cx (s:=1) o_).2 ⟨o_,by simpa [ar] using k1⟩,?_⟩;rw[aa o_,K8];exact⟨o_,k2⟩
def aeT {r:C_}:∀{k:Nat},val (List.replicate k 0++r) 0=val r 0
 |0=>rfl
 |k+1=>by rw[cL,aQ,val];exact aeT
def aei {k hi:Nat}(h:hi<2 ^ k):ar (2 ^ k+hi) (2*k+1)=List.replicate k 0++[1]++ar hi k:=by
 have hb:bin (List.replicate k 0++(1::ar hi k)):=by
  intro x hx;rcases be.1 hx with h|h
  .have:=dc h;omega
  .rcases ay.1 h with h|h
   .omega
   .exact dx x h
 have h1:=UB (n:=0) hb;rw[aeT,val,U3,eK h,aj,bm,aq,df]at h1;rw[aA,cu,<-h1]
 congr 1
 all_goals omega
def amM {n k:Nat}(h1:2 ^ k<=n)(h2:n<2 ^ (k+1)):cS n=k+1:=by
 have hp:=bT k;have a:=Ix (n:=n);have b:=vJ (n:=n) o_;rcases Nat.lt_trichotomy (cS n) (k+1) with h|h|h
 .have:=aw (n:=2) o_ (show cS n<=k by omega);omega
 .exact h
 .have:=aw (n:=2) o_ (show k+1<=cS n-1 by omega);omega
def Eh {id:Nat}(hid:jN id){b:C_}{a e n:Nat}:AF id b (a:Int)=.ok e n↔e<bq id∧At b a n (kf id e):=by
 obtain⟨r1,r2,r3⟩:=Ql id (f9 hid);have hl:=(aaH id (f9 hid)).1;have hm:bq id<=300:=by have:=my id (f9 hid);omega
 have hP:1<=2 ^ bN id:=bT _;rw[AF,aS];unfold kf;constructor
 .rintro ⟨k,n1,h1,h⟩
  obtain⟨⟨_,k9⟩,g1⟩:=K8.1 h1;obtain⟨hi,n2,h2,h⟩:=aS.1 h;obtain⟨g2,g3⟩:=(cx o_).1 h2;obtain⟨lo,n3,h3,h⟩:=aS.1 h;obtain⟨g4,g5⟩:=(cx o_).1 h3;by_cases hx:(cA id).length<=(2 ^ k+hi-1)*2 ^ bN id+lo
  .rw[ac hx]at h;exact absurd h (by simp)
  rw[aa hx]at h;injection h with e1 e2
  subst e1 e2;have hk:=bT k;have he:=adG hid (e:=(2 ^ k+hi-1)*2 ^ bN id+lo) o_;have hlt:nth (cA id) ((2 ^ k+hi-1)*2 ^ bN id+lo)<bq id:=(KK (by have:=hid.2;omega)).2.2.2 _ (jv o_);refine⟨hlt,?_⟩;rw[he.2];have d1:((2 ^ k+hi-1)*2 ^ bN id+lo) / 2 ^ bN id=2 ^ k+hi-1:=by
   rw[oS,ox _ _ hP,iT g4,bv]
  have d2:((2 ^ k+hi-1)*2 ^ bN id+lo) % 2 ^ bN id=lo:=by
   rw[oS,qp,eK g4]
  rw[d1,d2,show 2 ^ k+hi-1+1=2 ^ k+hi by omega,amM (k:=k) o_ (by rw[dg];omega),show 2*(k+1)-1=2*k+1 by omega,aei g2];exact aZ.2 ⟨n2,aZ.2 ⟨n1,g1,g3⟩,g5⟩
 .rintro ⟨he,h⟩
  have hr:=ado hid he;have hf:=(adG hid he).1;generalize nth (dM id) e=r at *;have hq:1<=r / 2 ^ bN id+1:=lK _ _;have hdv:r / 2 ^ bN id<=r:=lL _ _;have hdm:=px r (2 ^ bN id);have hmod:r % 2 ^ bN id<2 ^ bN id:=eg _ hP;generalize r / 2 ^ bN id=q at *;generalize r % 2 ^ bN id=lo at *;have l1:=Ix (n:=q+1);have l2:=vJ (n:=q+1) o_;have l0:1<=cS (q+1):=by
   rcases Nat.eq_zero_or_pos (cS (q+1)) with h0|h0
   .rw[h0]at l1;omega
   .exact h0
  obtain⟨k,hk⟩:∃k,cS (q+1)=k+1:=⟨cS (q+1)-1,o_⟩
  rw[hk]at l1 l2 h;rw[dt]at l2;rw[dg]at l1;have k9:k<10:=by
   rcases bC k 10 with h|h
   .exact h
   .have:=aw (n:=2) o_ h;omega
  obtain⟨hi,hhi⟩:∃hi,q+1=2 ^ k+hi:=⟨q+1-2 ^ k,o_⟩
  have hh:hi<2 ^ k:=o_;rw[show 2*(k+1)-1=2*k+1 by omega,hhi,aei hh]at h;obtain⟨n2,j1,j2⟩:=aZ.1 h;obtain⟨n1,j3,j4⟩:=aZ.1 j1;have ei:(2 ^ k+hi-1)*2 ^ bN id+lo=r:=by rw[<-hhi,dt,eq];omega
  refine⟨k,n1,K8.2 ⟨o_,by simpa using j3⟩,aS.2 ⟨hi,n2,(cx o_).2 ⟨hh,j4⟩,aS.2 ⟨lo,n,(cx o_).2 ⟨hmod,j2⟩,?_⟩⟩⟩;rw[ei,aa o_,hf]
def SF {low:Int}{w:Nat}{v:Int}:∀{l:G_}{n:Nat},lV low w (l++[v]) n=lV low w l n*w+(v-low).toNat
 |[],n=>rfl
 |x::r,n=>by rw[aQ,lV,lV,SF]
def aeA {low:Int}{w:Nat}(hw:1<=w):∀{d e:Nat},e<w ^ d->lV low w (mt low w d e) 0=e
 |0,e,h=>by rw[Nat.pow_zero]at h;rw[mt,lV];omega
 |d+1,e,h=>by
  rw[mt,SF,aeA hw (by rw[dg]at h;exact Nat.div_lt_of_lt_mul (by rwa [eq])),show((e % w:Nat):Int)+low-low=((e % w:Nat):Int) by omega,au,eq];exact px e w
def ajC {low:Int}{w:Nat}(hw:1<=w):∀(r:G_),(∀v∈r,low<=v∧v<low+w)->mt low w r.reverse.length (lV low w r.reverse 0)=r.reverse
 |[],_=>rfl
 |v::r,h=>by
  have ih:=ajC hw r λx hx=>h x (.tail _ hx)
  have hv:=h v (.head _);rw[sE,aj,List.length_singleton,SF,mt];have hx:(v-low).toNat<w:=o_;rw[oS (_*w),ox _ _ hw,iT hx,bv,ih,qp,eK hx]
  congr 2
  omega
def arq {low:Int}{w:Nat}(hw:1<=w){l:G_}(h:∀v∈l,low<=v∧v<low+w):mt low w l.length (lV low w l 0)=l:=by
 have:=ajC hw l.reverse λv hv=>h v (List.mem_reverse.1 hv)
 rwa [List.reverse_reverse]at this
def sgB:G_->C_->C_
 |v::r,s::ss=>(if v=0 then [] else [s])++sgB r ss
 |_,_=>[]
def YM:G_->C_->Prop
 |v::r,s::ss=>(s<=1∧(v=0->s=0))∧YM r ss
 |[],[]=>True
 |_,_=>False
def SW {s:Nat}(h:s<=1):ar s 1=[s]:=by simp[ar];omega
def BA {b:C_}:∀{vs:G_}{ss:C_}{a n:Nat},a<=b.length->(kr b vs a=.ok ss n↔YM vs ss∧At b a n (sgB vs ss))
 |[],ss,a,n,ha=>by
  rw[kr];constructor
  .intro h;injection h with e1 e2
   subst e1 e2;exact⟨trivial,ef.2 ⟨rfl,ha⟩⟩
  .rintro ⟨h1,h2⟩
   cases ss with
   |nil=>rw[(ef.1 h2).1]
   |cons s ss=>exact absurd h1 (by simp[YM])
 |v::r,ss,a,n,ha=>by
  rw[kr];by_cases hv:v=0
  .rw[ac hv,aS];constructor
   .rintro ⟨l,m,h1,h⟩
    injection h with e1 e2
    subst e1 e2;obtain⟨g1,g2⟩:=(BA ha).1 h1;exact⟨⟨⟨o_,λ_=>rfl⟩,g1⟩,by rw[sgB,ac hv];exact g2⟩
   .rintro ⟨h1,h2⟩
    cases ss with
    |nil=>exact absurd h1 (by simp[YM])
    |cons s ss =>
     have:=h1.1.2 hv;subst this;rw[sgB,ac hv]at h2;exact⟨ss,n,(BA ha).2 ⟨h1.2,h2⟩,rfl⟩
  .rw[aa hv,aS];constructor
   .rintro ⟨s,m,h1,h⟩
    obtain⟨g1,g2⟩:=(cx (s:=1) o_).1 h1;rw[SW o_]at g2;obtain⟨l,m2,h2,h⟩:=aS.1 h;injection h with e1 e2;subst e1 e2;obtain⟨g3,g4⟩:=(BA (dA g2).2.1).1 h2;exact⟨⟨⟨o_,λh=>absurd h hv⟩,g3⟩,by rw[sgB,aa hv];exact aZ.2 ⟨m,g2,g4⟩⟩
   .rintro ⟨h1,h2⟩
    cases ss with
    |nil=>exact absurd h1 (by simp[YM])
    |cons s ss =>
     rw[sgB,aa hv]at h2;obtain⟨m,k1,k2⟩:=aZ.1 h2;have hs:=h1.1.1;exact⟨s,m,(cx (s:=1) o_).2 ⟨o_,by rw[SW hs];exact k1⟩,aS.2 ⟨ss,n,(BA (dA k1).2.1).2 ⟨h1.2,k2⟩,rfl⟩⟩
def PO {b:C_}:∀{f m a k n:Nat},yn b f m a=.ok k n↔(m<=k∧k<m+f)∧At b a n (List.replicate (k-m) 1++[0])
 |0,m,a,k,n=>by
  rw[yn];exact⟨λh=>absurd h s_,λh=>by omega⟩
 |f+1,m,a,k,n=>by
  rw[yn,aS];constructor
  .rintro ⟨v,m1,h1,h⟩
   obtain⟨g1,g2⟩:=(cx (s:=1) o_).1 h1;rw[SW o_]at g2;by_cases hv:v=1
   .subst hv;rw[ac rfl,PO]at h;obtain⟨h2,h3⟩:=h;refine⟨o_,?_⟩;rw[show k-m=(k-(m+1))+1 by omega,cL,aQ];exact aZ (X:=[1]) |>.2 ⟨m1,g2,h3⟩
   .have:v=0:=o_;subst this;rw[aa hv]at h;injection h with e1 e2
    subst e1 e2;exact⟨o_,by simpa using g2⟩
  .rintro ⟨h1,h⟩
   by_cases hk:k=m
   .subst hk;rw[uh]at h;refine⟨0,n,(cx (s:=1) o_).2 ⟨o_,?_⟩,by rw[aa o_]⟩;simpa [ar] using h
   .rw[show k-m=(k-(m+1))+1 by omega,cL,aQ]at h;obtain⟨m1,k1,k2⟩:=aZ (X:=[1]) |>.1 h;refine⟨1,m1,(cx (s:=1) o_).2 ⟨o_,by simpa [ar] using k1⟩,?_⟩;rw[ac rfl,PO];exact⟨o_,k2⟩
abbrev aub (x:Nat):C_:=List.replicate (cS x-5) 1++(0::ar (x % 2 ^ (cS x-1)) (cS x-1))
def amD {b:C_}{a x n:Nat}:Qg b a=.ok x n↔(16<=x∧x<=8191)∧At b a n (aub x):=by
 rw[Qg,aS];constructor
 .rintro ⟨m,n1,h1,h⟩
  obtain⟨⟨_,m9⟩,g1⟩:=PO.1 h1;obtain⟨y,n2,h2,h⟩:=aS.1 h;obtain⟨g2,g3⟩:=(cx o_).1 h2;injection h with e1 e2;subst e1 e2;have p1:=aw (n:=2) o_ (show 4<=m+4 by omega);have p2:=aw (n:=2) o_ (show m+4<=12 by omega);have hl:=amM (n:=2 ^ (m+4)+y) (k:=m+4) o_ (by have:2 ^ (m+4+1)=2 ^ (m+4)*2:=dg _ _;omega);refine⟨o_,?_⟩;unfold aub;rw[hl,show m+4+1-5=m by omega,dt,Nat.add_mod_left,eK g2];have:List.replicate m 1++(0::ar y (m+4))=(List.replicate m 1++[0])++ar y (m+4):=s_;rw[this];exact aZ.2 ⟨n1,by simpa using g1,g3⟩
 .rintro ⟨⟨h1,h2⟩,h⟩
  have l1:=Ix (n:=x);have l2:=vJ (n:=x) o_;have k5:5<=cS x:=by
   rcases bC (cS x) 5 with h|h
   .have:=aw (n:=2) o_ (show cS x<=4 by omega);omega
   .exact h
  have k13:cS x<=13:=by
   rcases bC 13 (cS x) with h|h
   .have:=aw (n:=2) o_ (show 13<=cS x-1 by omega);omega
   .exact h
  obtain⟨m,hm⟩:∃m,cS x=m+5:=⟨cS x-5,o_⟩
  unfold aub at h;rw[hm]at h l1 l2;rw[show m+5-1=m+4 by omega]at h l2;have l3:2 ^ (m+5)=2 ^ (m+4)*2:=dg _ _;rw[dt]at h;have:List.replicate m 1++(0::ar (x % 2 ^ (m+4)) (m+4))=(List.replicate m 1++[0])++ar (x % 2 ^ (m+4)) (m+4):=s_;rw[this]at h;obtain⟨n1,j1,j2⟩:=aZ.1 h;have hx:x % 2 ^ (m+4)=x-2 ^ (m+4):=by rw[Nat.mod_eq_sub_mod l2,eK o_]
  refine⟨m,n1,PO.2 ⟨o_,by simpa using j1⟩,aS.2 ⟨x % 2 ^ (m+4),n,(cx o_).2 ⟨o_,j2⟩,?_⟩⟩;rw[hx]
  congr 1
  omega
def sgn (v:Int):Nat:=if v<0 then 1 else 0
def EQ {b:C_}{id:Nat}{M:Nat}(hM:id=11->M=8191):∀{vs:G_}{ss:C_}{l:G_}{a n:Nat},a<=b.length->YM vs ss->(∀v∈vs,0<=v∧(id=11->v<=16)∧(id≠11->v<=M))->
  (mY b id vs ss a=.ok l n↔(vs=l.map (ku id)∧ss=l.map sgn∧∀v∈l,v.natAbs<=M)∧At b a n (l.flatMap (w7 id)))
 |[],[],l,a,n,ha,hs,hv=>by
  have e0:mY b id [] [] a=.ok [] a:=by simp[mY]
  rw[e0];constructor
  .intro h;injection h with e1 e2
   subst e1 e2;exact⟨⟨rfl,rfl,s_⟩,ef.2 ⟨rfl,ha⟩⟩
  .rintro ⟨⟨h1,h2,_⟩,h3⟩
   cases l with
   |nil=>rw[(ef.1 h3).1]
   |cons x r=>exact absurd h1 (by simp)
 |[],s::ss,l,a,n,ha,hs,hv=>absurd hs (by simp[YM])
 |v::r,[],l,a,n,ha,hs,hv=>absurd hs (by simp[YM])
 |v::r,s::ss,l,a,n,ha,hs,hv=>by
  obtain⟨⟨s1,s2⟩,hs⟩:=hs;obtain⟨v0,v11,vM⟩:=hv v (.head _);have hv:=λx hx=>hv x (.tail _ hx)
  have sg1:∀x:Int,0<=x->(x=0->s=0)->sgn (sg s x)=s∧(sg s x).natAbs=x.toNat:=λx h0 h1=>by
   unfold sgn sg;by_cases h:s=1
   .rw[ac h,ac o_];omega
   .rw[aa h,aa o_];omega
  have sg2:∀(y:Int),s=sgn y->sg s (y.natAbs:Int)=y:=λy h=>by
   unfold sgn at h;unfold sg;by_cases h2:y<0
   .rw[ac h2]at h;rw[ac h];omega
   .rw[aa h2]at h;rw[aa o_];omega
  rw[mY];by_cases hg:id=11∧v=16
  .rw[ac hg,aS];obtain⟨h11,hv16⟩:=hg;constructor
   .rintro ⟨x,m,h1,h⟩
    obtain⟨g1,g2⟩:=amD.1 h1;obtain⟨l2,m2,h2,h⟩:=aS.1 h;injection h with e1 e2;subst e1 e2;obtain⟨⟨g3,g4,g5⟩,g6⟩:=(EQ hM (dA g2).2.1 hs hv).1 h2;obtain⟨q1,q2⟩:=sg1 x o_ o_;have q3:(sg s (x:Int)).natAbs=x:=o_;refine⟨⟨?_,?_,?_⟩,?_⟩
    .rw[ct,<-g3,ku,ac o_,hv16]
    .rw[ct,<-g4,q1]
    .intro y hy;rcases ay.1 hy with rfl|hy
     .rw[q3,hM h11];omega
     .exact g5 y hy
    .rw[aD,w7,ac o_,q3];exact aZ.2 ⟨m,g2,g6⟩
   .rintro ⟨⟨h1,h2,h3⟩,h4⟩
    cases l with
    |nil=>exact absurd h1 (by simp)
    |cons y l =>
     rw[ct]at h1 h2;injection h1 with h1 h1t
     injection h2 with h2 h2t
     have hy:=h3 y (.head _);rw[hM h11]at hy;have h16:16<=y.natAbs:=by
      rw[ku]at h1;by_cases h:id=11∧16<=y.natAbs
      .exact h.2
      .rw[aa h]at h1;omega
     rw[aD,w7,ac ⟨h11,h16⟩]at h4;obtain⟨m,k1,k2⟩:=aZ.1 h4;refine⟨y.natAbs,m,amD.2 ⟨o_,k1⟩,aS.2 ⟨l,n,(EQ hM (dA k1).2.1 hs hv).2 ⟨⟨h1t,h2t,λz hz=>h3 z (.tail _ hz)⟩,k2⟩,?_⟩⟩;rw[sg2 y h2]
  .rw[aa hg,aS];constructor
   .rintro ⟨l2,m,h1,h⟩
    injection h with e1 e2
    subst e1 e2;obtain⟨⟨g3,g4,g5⟩,g6⟩:=(EQ hM ha hs hv).1 h1;obtain⟨q1,q2⟩:=sg1 v v0 s2;have hng:¬(id=11∧16<=(sg s v).natAbs):=o_;refine⟨⟨?_,?_,?_⟩,?_⟩
    .rw[ct,<-g3,ku,aa hng];congr 1;omega
    .rw[ct,<-g4,q1]
    .intro y hy;rcases ay.1 hy with rfl|hy
     .by_cases h11:id=11
      .have:=hM h11;have:=v11 h11;omega
      .have:=vM h11;omega
     .exact g5 y hy
    .rw[aD,w7,aa hng,aK];exact g6
   .rintro ⟨⟨h1,h2,h3⟩,h4⟩
    cases l with
    |nil=>exact absurd h1 (by simp)
    |cons y l =>
     rw[ct]at h1 h2;injection h1 with h1 h1t
     injection h2 with h2 h2t
     have hng:¬(id=11∧16<=y.natAbs):=λh=>by
      rw[ku,ac h]at h1;exact hg ⟨h.1,h1⟩
     rw[ku,aa hng]at h1;rw[aD,w7,aa hng,aK]at h4;refine⟨l,n,(EQ hM ha hs hv).2 ⟨⟨h1t,h2t,λz hz=>h3 z (.tail _ hz)⟩,h4⟩,?_⟩;rw[h1,sg2 y h2]
def agW {id:Nat}{v:Int}:ku id v=0↔v=0:=by
 unfold ku;by_cases h:id=11∧16<=v.natAbs
 .rw[ac h];omega
 .rw[aa h];omega
def acd {id:Nat}:∀{l:G_},sgB (l.map (ku id)) (l.map sgn)=l.flatMap qq
 |[]=>rfl
 |v::r=>by
  rw[ct,ct,sgB,acd,aD]
  congr 1
  unfold qq sgn;by_cases h:v=0
  .rw[ac (agW.2 h),ac h]
  .rw[aa (λh2=>h (agW.1 h2)),aa h];split<;>rfl
def abM {id:Nat}:∀{l:G_},YM (l.map (ku id)) (l.map sgn)
 |[]=>trivial
 |v::r=>⟨⟨by unfold sgn;split<;>omega,λh=>by rw[agW]at h;subst h;rfl⟩,abM⟩
def axP:iZ 11=8191:=e_
def agE {id:Nat}(hid:1<=id∧id<=11){b:C_}{a n:Nat}{l:G_}:FX id b (a:Int)=.ok l n↔OV id l∧At b a n (Aj id l):=by
 have hok:jN id:=⟨hid.1,o_⟩
 obtain⟨m1,m2,m3,m4⟩:=C5 id (Uk hid);obtain⟨k1,k2,k3,k4,k5,k6,k7⟩:=my id (f9 hok);have hmany:bq id=cJ id ^ eD id:=rfl;have lt:∀{vs:G_},Tx id vs->lV (dn id) (cJ id) vs 0<bq id:=λ{vs} h=>by
  have:=IC (n:=0) (j:=0) h.2 s_;rw[bv,h.1,<-hmany]at this;exact this
 have back:∀{vs:G_},Tx id vs->mW id (lV (dn id) (cJ id) vs 0)=vs:=λ{vs} h=>by
  have:=arq k3 h.2;rw[h.1]at this;exact this
 have forth:∀{e:Nat},e<bq id->lV (dn id) (cJ id) (mW id e) 0=e∧∀v∈mW id e,dn id<=v∧v<dn id+cJ id:=λ{e} h=>⟨aeA k3 (by rwa [<-hmany]),JC k3⟩
 rw[FX,aS];unfold Aj;by_cases hs:kV id=true
 .simp only[ac hs];obtain⟨q1,q2⟩:=m1 hs;constructor
  .rintro ⟨e,m,h1,h⟩
   obtain⟨g1,g2⟩:=(Eh hok).1 h1;injection h with e1 e2;subst e1 e2;obtain⟨f1,f2⟩:=forth g1;refine⟨⟨by rw[Gl,m3],λv hv=>by have:=f2 v hv;omega⟩,?_⟩;rw[f1];exact g2
  .rintro ⟨h1,h2⟩
   have hi:=(Qo hid h1).1 hs;exact⟨_,n,(Eh hok).2 ⟨lt hi,h2⟩,by rw[back hi]⟩
 .have hs2:kV id=false:=by simpa using hs
  simp only[aa hs];obtain⟨q1,q2,q3⟩:=m2 hs2;have h11:id=11->iZ id=8191:=λh=>by rw[h];exact axP
  constructor
  .rintro ⟨e,m,h1,h⟩
   obtain⟨g1,g2⟩:=(Eh hok).1 h1;obtain⟨ss,m2,h2,h⟩:=aS.1 h;obtain⟨g3,g4⟩:=(BA (dA g2).2.1).1 h2;obtain⟨f1,f2⟩:=forth g1;have hv:∀v∈mW id e,0<=v∧(id=11->v<=16)∧(id≠11->v<=iZ id):=λv hv=>by
    have:=f2 v hv;refine⟨o_,λh=>by have:=q3 h;omega,λh=>by have:=q2 h;omega⟩
   obtain⟨⟨g5,g6,g7⟩,g8⟩:=(EQ h11 (dA g4).2.1 g3 hv).1 h;have hl:l.length=bI id:=by
    have:=aV List.length g5;rw[Gl,gX]at this;omega
   refine⟨⟨hl,g7⟩,aZ.2 ⟨m,?_,aZ.2 ⟨m2,?_,g8⟩⟩⟩
   .rw[<-g5,f1];exact g2
   .rw[<-acd (id:=id),<-g5,<-g6];exact g4
  .rintro ⟨h1,h2⟩
   have hi:=(Qo hid h1).2 hs2;obtain⟨m,j1,j2⟩:=aZ.1 h2;obtain⟨p,j3,j4⟩:=aZ.1 j2;have hv:∀v∈l.map (ku id),0<=v∧(id=11->v<=16)∧(id≠11->v<=iZ id):=λv hv=>by
    have:=hi.2 v hv;refine⟨o_,λh=>by have:=q3 h;omega,λh=>by have:=q2 h;omega⟩
   refine⟨_,m,(Eh hok).2 ⟨lt hi,j1⟩,?_⟩;rw[back hi];refine aS.2 ⟨l.map sgn,p,(BA (dA j1).2.1).2 ⟨abM,by rw[acd];exact j3⟩,?_⟩;exact(EQ h11 (dA j3).2.1 abM hv).2 ⟨⟨rfl,rfl,h1.2⟩,j4⟩
def axo:bq 12=121:=e_
def anv {b:C_}{a n:Nat}{d:Int}:Kq b (a:Int)=.ok d n↔(-60<=d∧d<=60)∧At b a n (kf 12 (d+60).toNat):=by
 have hok:jN 12:=o_;have h12:=axo;rw[Kq,aS];constructor
 .rintro ⟨e,m,h1,h⟩
  obtain⟨g1,g2⟩:=(Eh hok).1 h1;injection h with e1 e2;subst e1 e2;refine⟨o_,?_⟩;rw[show((e:Int)-60+60).toNat=e by omega];exact g2
 .rintro ⟨h1,h2⟩
  refine⟨(d+60).toNat,n,(Eh hok).2 ⟨o_,h2⟩,?_⟩
  congr 1
  omega
def UX {b:C_}{a n:Nat}{k w v:Int}(hw:w<0->k=13):lk b (a:Int) k w=.ok v n↔((0<=v∧v<=sT k)∧(w<0∨(w-60<=v∧v<=w+60)))∧At b a n (if w<0 then ar v.toNat 9 else kf 12 (v-w+60).toNat):=by
 rw[lk];by_cases h0:w<0
 .have hk:=hw h0;have hm:sT k=511:=ac hk;rw[ac h0,ac h0,aS,hm];constructor
  .rintro ⟨x,m,h1,h⟩
   obtain⟨g1,g2⟩:=(cx (s:=9) o_).1 h1;injection h with e1 e2;subst e1 e2;exact⟨⟨o_,.inl h0⟩,by simpa using g2⟩
  .rintro ⟨⟨h1,_⟩,h2⟩
   exact⟨v.toNat,n,(cx (s:=9) o_).2 ⟨o_,h2⟩,by congr 1;omega⟩
 .rw[aa h0,aa h0,aS];constructor
  .rintro ⟨d,m,h1,h⟩
   obtain⟨g1,g2⟩:=anv.1 h1;by_cases hx:w+d<0∨sT k<w+d
   .rw[ac hx]at h;exact absurd h (by simp)
   rw[aa hx]at h;injection h with e1 e2
   subst e1 e2;refine⟨⟨o_,.inr o_⟩,?_⟩;rw[show w+d-w+60=d+60 by omega];exact g2
  .rintro ⟨⟨h1,h2⟩,h3⟩
   refine⟨v-w,n,anv.2 ⟨o_,h3⟩,?_⟩;rw[aa o_]
   congr 1
   omega
def s13 {v w z:Int}:rI 13 v w z=if z<0 then ar v.toNat 9 else kf 12 (v-z+60).toNat:=by rw[rI,aa k_,ac rfl]
def t13 {v w z:Int}:ko 13 v w z=(w,v):=by rw[ko,aa k_,ac rfl]
def Ce {b:C_}:∀{r:G_}{t:G_}{a n:Nat}{w z w2 z2:Int},a<=b.length->(∀k∈r,0<=k)->0<=w->
  (oT b r (a:Int) w z=.ok (t,w2,z2) n↔dX r t w z=some (w2,z2)∧At b a n (qk r t w z))
 |[],t,a,n,w,z,w2,z2,ha,hr,hw=>by
  rw[oT,au];constructor
  .intro h;injection h with e1 e2
   injection e1 with e1 e3
   injection e3 with e3 e4
   subst e1 e2 e3 e4;exact⟨rfl,ef.2 ⟨rfl,ha⟩⟩
  .rintro ⟨h1,h2⟩
   cases t with
   |nil =>
    injection h1 with h1
    injection h1 with e1 e2
    subst e1 e2;rw[(ef.1 h2).1]
   |cons x t=>exact absurd h1 (by simp[dX])
 |k::r,t,a,n,w,z,w2,z2,ha,hr,hw=>by
  have hk:=hr k (.head _);have hr2:∀k∈r,0<=k:=λx hx=>hr x (.tail _ hx)
  rw[oT];by_cases h13:k=13
  .subst h13;rw[ac rfl,aS];have hm:sT 13=511:=rfl;constructor
   .rintro ⟨v,m,h1,h⟩
    obtain⟨g1,g2⟩:=(UX (λ_=>rfl)).1 h1;obtain⟨⟨t2,u2,y2⟩,m2,h2,h⟩:=aS.1 h;injection h with e1 e2;injection e1 with e1 e3
    injection e3 with e3 e4
    simp only at e1 e3 e4;subst e1 e2 e3 e4;obtain⟨g3,g4⟩:=(Ce (dA g2).2.1 hr2 hw).1 h2;refine⟨?_,?_⟩
    .rw[dX,aa k_,ac (by unfold ml;rw[ac rfl];omega),ac rfl];exact g3
    .rw[qk,s13,t13];exact aZ.2 ⟨m,g2,g4⟩
   .rintro ⟨h1,h2⟩
    cases t with
    |nil=>exact absurd h1 (by simp[dX])
    |cons v t =>
     obtain⟨c1,c2,c3⟩:=qA (by rw[h1];simp);have hT:=c2 k_;unfold ml at hT;rw[ac rfl]at hT;rw[c3,ko,aa k_,ac rfl]at h1;rw[qk,s13,t13]at h2;obtain⟨m,j1,j2⟩:=aZ.1 h2;exact⟨v,m,(UX (λ_=>rfl)).2 ⟨o_,j1⟩,aS.2 ⟨(t,w2,z2),n,(Ce (dA j1).2.1 hr2 hw).2 ⟨h1,j2⟩,rfl⟩⟩
  .rw[aa h13];by_cases h0:0<k
   .have hm:sT k=255:=aa h13;have hk0:¬k=0:=o_;rw[ac h0,aS];constructor
    .rintro ⟨v,m,h1,h⟩
     obtain⟨g1,g2⟩:=(UX (λh=>by omega)).1 h1;obtain⟨⟨t2,u2,y2⟩,m2,h2,h⟩:=aS.1 h;injection h with e1 e2;injection e1 with e1 e3
     injection e3 with e3 e4
     simp only at e1 e3 e4;subst e1 e2 e3 e4;rw[aa o_]at g2;obtain⟨g3,g4⟩:=(Ce (dA g2).2.1 hr2 g1.1.1).1 h2;refine⟨?_,?_⟩
     .rw[dX,aa hk0,ac (by unfold ml;rw[aa h13];omega),aa h13];exact g3
     .rw[qk,rI,aa hk0,aa h13,ko,aa hk0,aa h13];exact aZ.2 ⟨m,g2,g4⟩
    .rintro ⟨h1,h2⟩
     cases t with
     |nil=>exact absurd h1 (by simp[dX])
     |cons v t =>
      obtain⟨c1,c2,c3⟩:=qA (by rw[h1];simp);have hT:=c2 hk0;unfold ml at hT;rw[aa h13]at hT;rw[c3,ko,aa hk0,aa h13]at h1;rw[qk,rI,aa hk0,aa h13,ko,aa hk0,aa h13]at h2;obtain⟨m,j1,j2⟩:=aZ.1 h2;exact⟨v,m,(UX (λh=>by omega)).2 ⟨o_,by rw[aa o_];exact j1⟩,aS.2 ⟨(t,w2,z2),n,(Ce (dA j1).2.1 hr2 hT.1.1).2 ⟨h1,j2⟩,rfl⟩⟩
   .have hk0:k=0:=o_;subst hk0;rw[aa h0,aS];constructor
    .rintro ⟨⟨t2,u2,y2⟩,m2,h2,h⟩
     injection h with e1 e2
     injection e1 with e1 e3
     injection e3 with e3 e4
     simp only at e1 e3 e4;subst e1 e2 e3 e4;obtain⟨g3,g4⟩:=(Ce ha hr2 hw).1 h2;refine⟨?_,?_⟩
     .rw[dX,ac rfl,ac rfl];exact g3
     .rw[qk,rI,ac rfl,ko,ac rfl,aK];exact g4
    .rintro ⟨h1,h2⟩
     cases t with
     |nil=>exact absurd h1 (by simp[dX])
     |cons v t =>
      obtain⟨c1,c2,c3⟩:=qA (by rw[h1];simp);have:=c1 rfl;subst this;rw[c3,ko,ac rfl]at h1;rw[qk,rI,ac rfl,ko,ac rfl,aK]at h2;exact⟨(t,w2,z2),n,(Ce ha hr2 hw).2 ⟨h1,h2⟩,rfl⟩
def ah0:∀{r t:G_}{w z w2 z2:Int},0<=w->dX r t w z=some (w2,z2)->0<=w2
 |[],[],w,z,w2,z2,hw,h=>by
  injection h with h
  injection h with e1 e2
  omega
 |[],_::_,w,z,w2,z2,hw,h=>absurd h (by simp[dX])
 |_::_,[],w,z,w2,z2,hw,h=>absurd h (by simp[dX])
 |k::r,v::t,w,z,w2,z2,hw,h=>by
  obtain⟨c1,c2,c3⟩:=qA (by rw[h];simp);rw[c3]at h;refine ah0 ?_ h;unfold ko;by_cases h0:k=0
  .rw[ac h0];exact hw
  .rw[aa h0];have:=c2 h0;unfold ml at this;split
   .exact hw
   .rename_i h13;rw[aa h13]at this;exact this.1.1
def Te {b:C_}:∀{g:H_}{t:J_}{a n:Nat}{w z:Int},a<=b.length->(∀l∈g,∀k∈aM l,0<=k)->0<=w->
  (nT b g (a:Int) w z=.ok t n↔mV g t w z≠none∧At b a n (oy g t w z))
 |[],t,a,n,w,z,ha,hr,hw=>by
  rw[nT,au];constructor
  .intro h;injection h with e1 e2
   subst e1 e2;exact⟨by simp[mV],ef.2 ⟨rfl,ha⟩⟩
  .rintro ⟨h1,h2⟩
   cases t with
   |nil=>rw[(ef.1 h2).1]
   |cons x t=>exact absurd rfl h1
 |l::r,t,a,n,w,z,ha,hr,hw=>by
  have hl:=hr l (.head _);have hr2:∀q∈r,∀k∈aM q,0<=k:=λq hq=>hr q (.tail _ hq)
  rw[nT,aS];constructor
  .rintro ⟨⟨t1,w1,z1⟩,m,h1,h⟩
   obtain⟨g1,g2⟩:=(Ce ha hl hw).1 h1;obtain⟨t2,m2,h2,h⟩:=aS.1 h;injection h with e1 e2;subst e1 e2;obtain⟨g3,g4⟩:=(Te (dA g2).2.1 hr2 (ah0 hw g1)).1 h2;refine⟨?_,?_⟩
   .rw[mV,g1];exact g3
   .rw[oy,g1];exact aZ.2 ⟨m,g2,g4⟩
  .rintro ⟨h1,h2⟩
   cases t with
   |nil=>exact absurd rfl h1
   |cons t1 t =>
    rw[mV]at h1;rw[oy]at h2
    cases e:dX (aM l) t1 w z with
    |none=>rw[e]at h1;exact absurd rfl h1
    |some p =>
     obtain⟨w1,z1⟩:=p;rw[e]at h1 h2;obtain⟨m,j1,j2⟩:=aZ.1 h2;exact⟨(t1,w1,z1),m,(Ce ha hl hw).2 ⟨e,j1⟩,aS.2 ⟨t,n,(Te (dA j1).2.1 hr2 (ah0 hw e)).2 ⟨h1,j2⟩,rfl⟩⟩
def aey {b:C_}{g:H_}{t:J_}{a n:Nat}{w:Int}(ha:a<=b.length)(hr:∀l∈g,∀k∈aM l,0<=k)(hw:0<=w):zS b g (a:Int) w=.ok t n↔BO w g t∧At b a n (oy g t w (-1)):=by
 rw[zS,ac o_,Te ha hr hw]
def UY {Z l:G_}{a i:Nat}(h:a+l.length<=Z.length):(aI Z a l)[i]?=if a<=i∧i<a+l.length then l[i-a]? else Z[i]?:=by
 have h1:(Z.take a).length=a:=by rw[b6];omega
 unfold aI;by_cases h2:i<a
 .rw[aa o_,aA,cw o_,jA,ac h2]
 .by_cases h3:i<a+l.length
  .rw[ac o_,aA,bW o_,h1,cw o_]
  .rw[aa o_,bW (by rw[aj];omega),aj,h1,ca]
   congr 1
   omega
abbrev cut (Z:G_)(p:Nat×Nat):G_:=(Z.drop p.2).take (bI p.1)
def T8 {Z:G_}{p:Nat×Nat}{i:Nat}(h:i<bI p.1):(cut Z p)[i]?=Z[p.2+i]?:=by
 rw[cut,jA,ac h,ca]
def am7 {Z:G_}{p:Nat×Nat}(h:p.2+bI p.1<=Z.length):(cut Z p).length=bI p.1:=by
 rw[cut,b6,cM];omega
def WO {b:C_}{Zc:G_}(hl:Zc.length=256):∀{pl:R_}{n m:Nat}{Z:G_},n<=b.length->Z.length=256->(∀p∈pl,(1<=p.1∧p.1<=11)∧p.2+bI p.1<=256∧OV p.1 (cut Zc p))->
  (∀i,(∃p∈pl,p.2<=i∧i<p.2+bI p.1)∨Z[i]?=Zc[i]?)->At b n m (pl.flatMap λp=>Aj p.1 (cut Zc p))->kE b pl n Z=.ok Zc m
 |[],n,m,Z,hn,hz,hp,hc,h=>by
  rw[kE,(ef.1 h).1]
  congr 1
  apply dS;intro i;rcases hc i with ⟨p,hp,_⟩|h
  .exact absurd hp (by simp)
  .exact h
 |p::r,n,m,Z,hn,hz,hp,hc,h=>by
  obtain⟨p1,p2,p3⟩:=hp p (.head _);rw[aD]at h;obtain⟨k,j1,j2⟩:=aZ.1 h;have hcl:=am7 (Z:=Zc) (p:=p) o_;rw[kE,(agE p1).2 ⟨p3,j1⟩,az];refine WO hl (dA j1).2.1 (by rw[XE o_];exact hz) (λq hq=>hp q (.tail _ hq)) (λi=>?_) j2;rcases hc i with ⟨q,hq,h1,h2⟩|h3
  .rcases ay.1 hq with rfl|hq
   .right;rw[UY o_,ac o_,T8 o_]
    congr 1
    omega
   .exact .inl ⟨q,hq,h1,h2⟩
  .right;rw[UY o_];split
   .rw[T8 o_];congr 1;omega
   .exact h3
def asH {d hi i:Nat}(hd:1<=d):∀{f lo:Nat},lo<=i->i<hi->hi<=lo+f->∃x∈so d hi f lo,x<=i∧i<x+d
 |0,lo,h1,h2,h3=>by omega
 |f+1,lo,h1,h2,h3=>by
  rw[so,ac o_];rcases bC i (lo+d) with h|h
  .exact⟨lo,.head _,h1,h⟩
  .obtain⟨x,hx,e⟩:=asH hd (f:=f) h h2 o_;exact⟨x,.tail _ hx,e⟩
def agS {os:C_}{d b x:Nat}:∀{k w0 w:Nat},w0<=w->w<w0+k->x∈so d (nth os (b+1)) 300 (nth os b)->w*32+x∈rB os d b k w0
 |0,w0,w,h1,h2,_=>by omega
 |k+1,w0,w,h1,h2,h=>by
  rw[rB,be];rcases bC w0 w with h3|h3
  .exact .inr (agS h3 o_ h)
  .have:w=w0:=o_;subst this;exact .inl (dy.2 ⟨x,h,rfl⟩)
def arp {os:C_}{d n first y b:Nat}:∀{k b0:Nat},b0<=b->b<b0+k->y∈rB os d b n first->y∈zU os d n first k b0
 |0,b0,h1,h2,_=>by omega
 |k+1,b0,h1,h2,h=>by
  rw[zU,be];rcases bC b0 b with h3|h3
  .exact .inr (arp h3 o_ h)
  .have:b=b0:=o_;subst this;exact .inl h
def ar8 {os:C_}{n first k y:Nat}(hk:1<=k∧k<=11):∀{r:P_}{b j:Nat},(aM r)[j]?=some (k:Int)->y∈rB os (bI k) (b+j) n first->(k,y)∈BI os n first r b
 |[],b,j,h,_=>absurd h (by simp[aM])
 |s::r,b,j,h,hy=>by
  have eb:aM (s::r)=List.replicate s.len.toNat s.book++aM r:=by rw[aM,aD];rfl
  rw[eb]at h;rw[BI,be];rcases bC j s.len.toNat with h1|h1
  .left;rw[cw (by simpa using h1),js,ac h1,ae]at h;rw[h,aa o_,au];exact dy.2 ⟨y,arp (b:=b+j) o_ o_ hy,rfl⟩
  .right;rw[bW (by simpa using h1),bm]at h;exact ar8 hk h (by rw[show b+s.len.toNat+(j-s.len.toNat)=b+j by omega];exact hy)
def aqd {os:C_}{k x j w:Nat}(hk:1<=k∧k<=11):∀{r:H_}{q:G_}{first:Nat}{l:P_},(∀n∈q,1<=n)->first<=w->(w:Int)<first+q.sum->r[lE q ((w:Int)-first)]?=some l->(aM l)[j]?=some (k:Int)->x∈so (bI k) (nth os (j+1)) 300 (nth os j)->(k,w*32+x)∈qG os r q first
 |[],q,first,l,hq,h1,h2,h3,h4,h5=>absurd h3 (by simp)
 |l0::r,[],first,l,hq,h1,h2,h3,h4,h5=>by simp at h2;omega
 |l0::r,n::q,first,l,hq,h1,h2,h3,h4,h5=>by
  have hn:=hq n (.head _);rw[qG,be];rw[lE]at h3;rw[kW]at h2;by_cases h:(w:Int)-first<n
  .rw[ac h]at h3;simp only[b8,ae]at h3;subst h3;exact .inl (ar8 hk h4 (by rw[bv];exact agS h1 o_ h5))
  .rw[aa h,mH]at h3;right;refine aqd hk (λy hy=>hq y (.tail _ hy)) o_ o_ ?_ h4 h5;rw[show(w:Int)-((first+n.toNat:Nat):Int)=(w:Int)-first-n by omega];exact h3
def ah1 {i:Nat}:∀{tl:C_}{lo:Nat},lo<=i->(∃x∈tl,i<x)->mA tl i<tl.length∧nth (lo::tl) (mA tl i)<=i∧i<nth (lo::tl) (mA tl i+1)
 |[],lo,_,h=>by obtain⟨x,hx,_⟩:=h;exact absurd hx (by simp)
 |x::r,lo,h1,h2=>by
  rw[mA];by_cases h:x<=i
  .rw[ac h];have ih:=ah1 (tl:=r) h (by
    obtain⟨y,hy,e⟩:=h2;rcases ay.1 hy with rfl|hy
    .omega
    .exact⟨y,hy,e⟩)
   exact⟨by rw[aq];omega,ih.2⟩
  .rw[aa h];exact⟨s_,h1,by show i<x;omega⟩
def Ij (i:aN):(cond i.short 32 256:Nat)=i.wide∧((i.wide=32∧i.many=8)∨(i.wide=256∧i.many=1)):=by
 unfold aN.short aN.wide aN.many;by_cases h:i.seq=2
 .rw[decide_eq_true h,ac h,ac h];exact⟨rfl,.inl ⟨rfl,rfl⟩⟩
 .rw[decide_eq_false h,aa h,aa h];exact⟨rfl,.inr ⟨rfl,rfl⟩⟩
def aqT {r:Nat}(hr:r<=11)(s:Bool):offs r s=0::(offs r s).drop 1:=by
 obtain⟨o1,o2,o3,o4⟩:=Cb (r,s) (fH o_);obtain⟨p1,p2,p3⟩:=oI (r,s) (fH o_);simp only at o4 p2
 cases e:offs r s with
 |nil=>rw[e]at o4;simp at o4
 |cons x t =>
  rw[e]at p2;have:x=0:=p2;rw[this];rfl
def azh {r:Nat}(hr:r<=11)(i:aN){x:Nat}(hx:x<i.wide):∃j,j=mA ((offs r i.short).drop 1) x∧j+1<(offs r i.short).length∧nth (offs r i.short) j<=x∧x<nth (offs r i.short) (j+1):=by
 obtain⟨o1,o2,o3,o4⟩:=Cb (r,i.short) (fH o_);simp only at o1;have hw:=(Ij i).1;rw[hw]at o1;have hm:i.wide∈(offs r i.short).drop 1:=by simpa using o1
 have h:=ah1 (i:=x) (tl:=(offs r i.short).drop 1) (lo:=0) (dB _) ⟨_,hm,hx⟩;rw[<-aqT hr]at h;refine⟨_,rfl,?_,h.2⟩;have:=h.1;rw[cM]at this;omega
def apr {r:Nat}{c:cK}(h:nC r c)(hr:r<=11){i:Nat}{v:Int}(hv:c.lines[i]?=some v)(h0:v≠0):∃p∈N8 r c.info c.sects,p.2<=i∧i<p.2+bI p.1:=by
 have hm11:=gy hr h.info;obtain⟨g1,g2⟩:=dV hm11;have hi:i<256:=by
  have:=(aJ.1 hv).1;have:=h.lines.1;omega
 obtain⟨hw1,hw⟩:=Ij c.info;have hwp:0<c.info.wide:=o_;have hdm:=px i c.info.wide;have hx:=eg i hwp;have hwm:i / c.info.wide<c.info.many:=by
  rcases hw with ⟨a,b⟩|⟨a,b⟩<;>rw[a,b]<;>omega
 have hw32:i / c.info.wide*32+i % c.info.wide=i:=by
  rcases hw with ⟨a,b⟩|⟨a,b⟩<;>rw[a]<;>omega
 have e1:(zG c (i / c.info.wide))[i % c.info.wide]?=some v:=by
  rw[zG,jA,ac hx,ca,eq,hdm,hv]
 have h2:=SY (R9 h.lines.2 (dB _) (show _<0+c.info.many by omega)) e1;rw[bv]at h2;rcases h2 with h2|⟨k,k1,k2,k3⟩
 .exact absurd h2 h0
 obtain⟨j,j1,j2,j3,j4⟩:=azh hr c.info hx;rw[<-j1]at k1;obtain⟨K,rfl⟩:=aB (show 0<=k by omega);have hd:1<=bI K:=by unfold bI;split<;>omega
 have ho:nth (offs r c.info.short) (j+1)<=256:=by
  obtain⟨p1,p2,p3⟩:=oI (r,c.info.short) (fH o_);have:=bH.1 p3 _ (jv j2);simp only[decide_eq_true_eq]at this;rw[hw1]at this;omega
 obtain⟨x,x1,x2,x3⟩:=asH hd (f:=300) j3 j4 o_;generalize i / c.info.wide=w at *;generalize i % c.info.wide=y at *;have hgl:lE c.info.groups (w:Int)<c.sects.length:=by
  have:=ajw (l:=c.info.groups) (w:=w) o_ (λn hn=>(g1 n hn).1) o_;have:=h.sects.1;omega
 refine⟨(K,w*32+x),aqd (l:=w9 c w) o_ (λn hn=>(g1 n hn).1) (dB _) o_ ?_ k1 x1,by simp only[];omega,by simp only[];omega⟩;rw[show(w:Int)-((0:Nat):Int)=w by omega,w9,dh,bB hgl];rfl
def aod {b:C_}{r:Nat}{c:cK}(hc:c.Fit)(h:nC r c)(hr:r<=11){n m:Nat}(hn:n<=b.length)(ha:At b n m (nS r c)):kE b (N8 r c.info c.sects) n Z0=.ok c.lines m:=by
 refine WO h.lines.1 hn (by rw[bm]) (λp hp=>Sb hc h hr hp) (λi=>?_) ha
 cases e:c.lines[i]? with
 |none =>
  right;have:=List.getElem?_eq_none_iff.1 e;have:=h.lines.1;rw[ij (by rw[bm];omega)]
 |some v =>
  by_cases h0:v=0
  .right;subst h0;have:=(aJ.1 e).1;have:=h.lines.1;rw[js,ac o_]
  .exact .inl (apr h hr e h0)
def BH (b:C_)(st s2:RS)(X:C_):Prop:=∃a n:Nat,st=⟨a,0⟩∧s2=⟨n,0⟩∧At b a n X
def ao6 (b:C_)(st:RS):Prop:=∃a:Nat,st=⟨a,0⟩∧a<=b.length
def jc {b:C_}{st s2:RS}{X Y:C_}:BH b st s2 (X++Y)↔∃m,BH b st m X∧BH b m s2 Y:=by
 constructor
 .rintro ⟨a,n,e1,e2,h⟩
  obtain⟨m,h1,h2⟩:=aZ.1 h;exact⟨⟨m,0⟩,⟨a,m,e1,rfl,h1⟩,⟨m,n,rfl,e2,h2⟩⟩
 .rintro ⟨m,⟨a,n,e1,e2,h⟩,⟨a2,n2,e3,e4,h2⟩⟩
  rw[e2]at e3;injection e3 with e3 _
  have:n=a2:=o_;subst this;exact⟨a,n2,e1,e4,aZ.2 ⟨n,h,h2⟩⟩
def BJ {b:C_}{st s2:RS}:BH b st s2 []↔s2=st∧ao6 b st:=by
 constructor
 .rintro ⟨a,n,e1,e2,h⟩
  obtain⟨h1,h2⟩:=ef.1 h;exact⟨by rw[e1,e2,h1],a,e1,h2⟩
 .intro hh;obtain⟨a,e,h⟩:=hh.2;exact⟨a,a,e,by rw[hh.1,e],ef.2 ⟨rfl,h⟩⟩
def Eo {b:C_}{st s2:RS}{X:C_}(h:BH b st s2 X):ao6 b st∧ao6 b s2∧st.e=0∧s2.e=0:=by
 obtain⟨a,n,e1,e2,h⟩:=h;have:=dA h;exact⟨⟨a,e1,this.1⟩,⟨n,e2,this.2.1⟩,by rw[e1],by rw[e2]⟩
def Xg {b:C_}{st:RS}{s:Nat}(h:(sN b st s).e=0):st.e=0:=by
 unfold sN at h;by_cases h0:st.e=0
 .exact h0
 .rw[aa h0]at h;exact absurd h h0
def Mh {b:C_}{st:RS}{s:Nat}(hs:s<=31)(h:(sN b st s).e=0):sV b st s<2 ^ s∧BH b st (sN b st s) (ar (sV b st s) s):=by
 have h0:=Xg h;obtain⟨a,e⟩:=st;simp only at h0;subst h0
 cases hg:bf b a s with
 |er e=>rw[(DO hg).2]at h;exact absurd h (by simp)
 |ok v n =>
  rw[(kJ hg).1,(kJ hg).2];have ha:=amr hg;obtain⟨A,rfl⟩:=aB ha;obtain⟨g1,g2⟩:=(cx hs).1 hg;exact⟨g1,A,n,rfl,rfl,g2⟩
def TV {b:C_}{st s2:RS}{s v:Nat}(hs:s<=31)(hv:v<2 ^ s)(h:BH b st s2 (ar v s)):sV b st s=v∧sN b st s=s2:=by
 obtain⟨a,n,rfl,rfl,h⟩:=h;exact kJ ((cx hs).2 ⟨hv,h⟩)
abbrev nx (b:C_)(st:RS):Prop:=st.e=0->ao6 b st
def aFF {v sz:Nat}(hz:1<=sz)(hv:v<2 ^ sz):(-((2 ^ (sz-1):Nat):Int)<=Sg v sz∧Sg v sz<((2 ^ (sz-1):Nat):Int))∧(Sg v sz % ((2 ^ sz:Nat):Int)).toNat=v:=by
 obtain⟨k,rfl⟩:∃k,sz=k+1:=⟨sz-1,o_⟩
 have e:2 ^ (k+1)=2*2 ^ k:=by rw[dg,eq]
 have hp:=bT k;unfold Sg;rw[dt];rw[e]at hv⊢;rcases bC v (2 ^ k) with h|h
 .rw[iT h,Nat.zero_mul];refine⟨o_,?_⟩;rw[jV o_ o_];omega
 .have:v / 2 ^ k=1:=qj o_ o_;rw[this,Nat.one_mul];refine⟨o_,?_⟩;have e3:((v:Int)-((2*2 ^ k:Nat):Int)) % ((2*2 ^ k:Nat):Int)=v:=by
   rw[Int.sub_emod_right,jV o_ o_]
  rw[e3];omega
def aFP {c:Int}{sz:Nat}(hz:1<=sz)(h:-((2 ^ (sz-1):Nat):Int)<=c∧c<((2 ^ (sz-1):Nat):Int)):(c % ((2 ^ sz:Nat):Int)).toNat<2 ^ sz∧Sg (c % ((2 ^ sz:Nat):Int)).toNat sz=c:=by
 obtain⟨k,rfl⟩:∃k,sz=k+1:=⟨sz-1,o_⟩
 have e:2 ^ (k+1)=2*2 ^ k:=by rw[dg,eq]
 have hp:=bT k;rw[dt]at h;unfold Sg;rw[dt,e];rcases Int.lt_or_le c 0 with h0|h0
 .have e3:c % ((2*2 ^ k:Nat):Int)=c+((2*2 ^ k:Nat):Int):=by
   rw[<-Int.add_emod_right,jV o_ o_]
  rw[e3];have e4:(c+((2*2 ^ k:Nat):Int)).toNat / 2 ^ k=1:=qj o_ o_;rw[e4];omega
 .rw[jV o_ o_,iT o_];omega
def aAA {b:C_}{sz:Nat}(hz:1<=sz∧sz<=31):∀{k:Nat}{st:RS},nx b st->(xi b sz k st).e=0->(zm b sz k st).length=k∧(∀c∈zm b sz k st,-((2 ^ (sz-1):Nat):Int)<=c∧c<((2 ^ (sz-1):Nat):Int))∧BH b st (xi b sz k st) (qy sz (zm b sz k st))
 |0,st,hn,h=>⟨rfl,by simp[zm],BJ.2 ⟨rfl,hn h⟩⟩
 |k+1,st,hn,h=>by
  rw[xi]at h;have hn2:nx b (sN b st sz):=λh1=>(Eo (Mh hz.2 h1).2).2.1
  obtain⟨i1,i2,i3⟩:=aAA hz (k:=k) hn2 h;obtain⟨j1,j2⟩:=Mh hz.2 (Eo i3).2.2.1;obtain⟨v1,v2⟩:=aFF hz.1 j1;rw[zm,xi];refine⟨by rw[aq,i1],λc hc=>?_,?_⟩
  .rcases ay.1 hc with rfl|hc
   .exact v1
   .exact i2 c hc
  .rw[qy,aD,v2];exact jc.2 ⟨_,j2,i3⟩
def aAq {b:C_}{sz:Nat}(hz:1<=sz∧sz<=31):∀{l:G_}{st s2:RS},(∀c∈l,-((2 ^ (sz-1):Nat):Int)<=c∧c<((2 ^ (sz-1):Nat):Int))->BH b st s2 (qy sz l)->zm b sz l.length st=l∧xi b sz l.length st=s2
 |[],st,s2,hl,h=>⟨rfl,(BJ.1 h).1.symm⟩
 |c::r,st,s2,hl,h=>by
  rw[qy,aD]at h;obtain⟨m,h1,h2⟩:=jc.1 h;obtain⟨v1,v2⟩:=aFP hz.1 (hl c (.head _));obtain⟨w1,w2⟩:=TV hz.2 v1 h1;obtain⟨i1,i2⟩:=aAq hz (l:=r) (λx hx=>hl x (.tail _ hx)) h2;rw[aq,zm,xi,w1,w2,v2,i1,i2];exact⟨rfl,rfl⟩
def asS {b:C_}{sz:Nat}:∀{k:Nat}{st:RS},(xi b sz k st).e=0->st.e=0
 |0,_,h=>h
 |k+1,st,h=>by rw[xi]at h;exact Xg (asS h)
def Uw {b:C_}{st:RS}{s:Nat}(hs:s<=31):nx b (sN b st s):=λh=>(Eo (Mh hs h).2).2.1
def aBT {b:C_}{sz:Nat}(hz:sz<=31):∀{k:Nat}{st:RS},nx b st->nx b (xi b sz k st)
 |0,_,h=>h
 |k+1,st,h=>by rw[xi];exact aBT hz (Uw hz)
def aq4 {fine:Bool}{w:Nat}(hw:w<=1):1<=fM fine-w∧fM fine-w<=31:=by unfold fM;split<;>omega
def awB (fine:Bool)(l:G_)(s:Nat)(hs:s=fM fine-1):KJ l s=decide (∀c∈l,-(dL fine / 2)<=c∧c<dL fine / 2):=by
 subst hs
 cases fine<;>rfl
def Tj (sh:Bool):AR sh=((2 ^ bR sh:Nat):Int)-1∧bR sh<=31∧bO sh<=31∧fb sh<=31:=by cases sh<;>decide
def aqn {d:Nat}(h:d<2 ^ 1):d9 (decide (d=1))=d:=by
 unfold d9;by_cases h1:d=1
 .rw[h1];rfl
 .rw[decide_eq_false h1];simp;omega
def aGj {b:C_}{sh fine:Bool}{st:RS}(hO:¬(12<sM b (bR sh) (bO sh) st∧(zQ b (bR sh) (bO sh) st).e=0))(hX:KD b (bR sh) (bO sh) fine st=false)(he:(zk b (bR sh) (bO sh) fine st).e=0) :
  (CQ sh (NA b (bR sh) (bO sh) fine st)∧(NA b (bR sh) (bO sh) fine st).fine=fine)∧BH b st (zk b (bR sh) (bO sh) fine st) (sK sh (NA b (bR sh) (bO sh) fine st)):=by
 obtain⟨l1,l2,l3,_⟩:=Tj sh;have hS:(zQ b (bR sh) (bO sh) st).e=0:=by
  unfold zk at he;by_cases h0:sM b (bR sh) (bO sh) st=0
  .rw[ac h0]at he;exact he
  .rw[aa h0]at he;have:=asS he;exact Xg (s:=1) (Xg (s:=1) this)
 have r2:=Mh (st:=sN b st (bR sh)) (s:=bO sh) l3 hS;have r1:=Mh (st:=st) (s:=bR sh) l2 (Xg (s:=bO sh) hS);have hO2:((sM b (bR sh) (bO sh) st:Nat):Int)<=xM sh:=by
  have h1:sM b (bR sh) (bO sh) st<2 ^ bO sh:=r2.1;have h2:sM b (bR sh) (bO sh) st<=12:=by
   rcases bC 12 (sM b (bR sh) (bO sh) st) with h|h
   .exact absurd ⟨h,hS⟩ hO
   .exact h
  cases sh
  .show _<=(12:Int);omega
  .have:2 ^ bO true=8:=rfl;show _<=(7:Int);omega
 have hr1:=r1.1;have q2:BH b (sN b st (bR sh)) (zQ b (bR sh) (bO sh) st) (ar (sM b (bR sh) (bO sh) st) (bO sh)):=r2.2;unfold zk at he⊢;unfold NA;by_cases h0:sM b (bR sh) (bO sh) st=0
 .rw[ac h0]at he⊢;rw[ac h0];rw[h0]at q2;refine⟨⟨⟨⟨by simp only[];omega,by simp only[];omega⟩,⟨s_,by simp only[];cases sh<;>decide⟩,rfl,λ_=>rfl,s_⟩,rfl⟩,?_⟩;unfold sK;simp only[bh,bi];exact jc.2 ⟨_,by simpa using r1.2,by simpa using q2⟩
 .rw[aa h0]at he⊢;rw[aa h0];have hT:=asS he;have r4:=Mh (st:=sN b (zQ b (bR sh) (bO sh) st) (1:Nat)) (s:=1) o_ hT;have r3:=Mh (st:=zQ b (bR sh) (bO sh) st) (s:=1) o_ (Xg (s:=1) hT);have hd:flD b (bR sh) (bO sh) st<2 ^ 1:=r3.1;have hw:H8 b (bR sh) (bO sh) st<2 ^ 1:=r4.1;have q3:BH b (zQ b (bR sh) (bO sh) st) (sN b (zQ b (bR sh) (bO sh) st) (1:Nat)) (ar (flD b (bR sh) (bO sh) st) 1):=r3.2;have q4:BH b (sN b (zQ b (bR sh) (bO sh) st) (1:Nat)) (Ru b (bR sh) (bO sh) st) (ar (H8 b (bR sh) (bO sh) st) 1):=r4.2;have hz:=aq4 (fine:=fine) (w:=H8 b (bR sh) (bO sh) st) o_;have c:=aAA (sz:=IT b (bR sh) (bO sh) fine st) hz (k:=sM b (bR sh) (bO sh) st) (Uw (st:=sN b (zQ b (bR sh) (bO sh) st) (1:Nat)) (s:=1) o_) he;unfold KD at hX;rw[aa h0]at hX;obtain⟨c1,c2,c3⟩:=c;have c3:BH b (Ru b (bR sh) (bO sh) st) _ _:=c3;have hZ:IT b (bR sh) (bO sh) fine st=fM fine-H8 b (bR sh) (bO sh) st:=rfl;generalize hcf:zm b (IT b (bR sh) (bO sh) fine st) (sM b (bR sh) (bO sh) st) (sN b (sN b (zQ b (bR sh) (bO sh) st) (1:Nat)) (1:Nat))=cs at *;have hcf2:zm b (IT b (bR sh) (bO sh) fine st) (sM b (bR sh) (bO sh) st) (Ru b (bR sh) (bO sh) st)=cs:=hcf;rw[hcf2]at hX⊢;have hrng:∀c∈cs,-dL fine<=c∧c<dL fine:=λc hc=>by
   have:=c2 c hc;rw[hZ]at this;have hw2:H8 b (bR sh) (bO sh) st=0∨H8 b (bR sh) (bO sh) st=1:=o_;rcases hw2 with e|e<;>rw[e]at this<;>cases fine<;>simp only[fM,dL]at this⊢<;>simp at this⊢<;>omega
  have hnar:d9 (decide (∀c∈cs,-(dL fine / 2)<=c∧c<dL fine / 2))=H8 b (bR sh) (bO sh) st:=by
   rw[<-awB fine cs _ rfl];have hw2:H8 b (bR sh) (bO sh) st=0∨H8 b (bR sh) (bO sh) st=1:=o_;rcases hw2 with e|e
   .rw[e]at hX hZ⊢;rw[hZ]at hX;simp only[decide_true,nP,Nat.sub_zero]at hX;rw[hX];rfl
   .rw[e]at hZ⊢;have:KJ cs (fM fine-1)=true:=by
     rw[KJ,decide_eq_true_eq];intro c hc;have:=c2 c hc;rw[hZ]at this
     cases fine<;>simp only[fM]at this⊢<;>simp at this⊢<;>omega
    rw[this];rfl
  refine⟨⟨⟨⟨by simp only[];omega,by simp only[];omega⟩,⟨by simp only[];omega,hO2⟩,by simp only[];rw[c1],λh=>absurd h t_,hrng⟩,rfl⟩,?_⟩;unfold sK;rw[aa t_];refine jc.2 ⟨_,by simpa using r1.2,jc.2 ⟨_,by simpa using q2,jc.2 ⟨_,by simp only[];rw[aqn hd];exact q3,jc.2 ⟨Ru b (bR sh) (bO sh) st,?_,?_⟩⟩⟩⟩
  .simp only[fO];rw[hnar];exact q4
  .simp only[uD,fO];rw[hnar];exact c3
def aG5 {b:C_}{sh:Bool}{f:bZ}{st s2:RS}(hf:CQ sh f)(h:BH b st s2 (sK sh f)) :
  NA b (bR sh) (bO sh) f.fine st=f∧zk b (bR sh) (bO sh) f.fine st=s2∧KD b (bR sh) (bO sh) f.fine st=false∧¬(12<sM b (bR sh) (bO sh) st):=by
 obtain⟨l1,l2,l3,_⟩:=Tj sh;obtain⟨len,ord,down,fine,cs⟩:=f;obtain⟨⟨f1,f2⟩,⟨f3,f4⟩,f5,f6,f7⟩:=hf;simp only at f1 f2 f3 f4 f5 f6 f7⊢;obtain⟨len,rfl⟩:=aB f1;obtain⟨ord,rfl⟩:=aB f3;have hordF:ord<2 ^ bO sh∧ord<=12:=by
  cases sh
  .have:(ord:Int)<=12:=f4;have:2 ^ bO false=32:=rfl;omega
  .have:(ord:Int)<=7:=f4;have:2 ^ bO true=8:=rfl;omega
 unfold sK at h;simp only[au]at h;obtain⟨m1,h1,h⟩:=jc.1 h;obtain⟨m2,h2,h⟩:=jc.1 h;obtain⟨v1,n1⟩:=TV l2 (show len<2 ^ bR sh by omega) h1;obtain⟨v2,n2⟩:=TV l3 hordF.1 h2;have hO:sM b (bR sh) (bO sh) st=ord:=by unfold sM;rw[n1,v2]
 have hS:zQ b (bR sh) (bO sh) st=m2:=by unfold zQ;rw[n1,n2]
 refine⟨?_,?_,?_,by rw[hO];omega⟩
 all_goals
  by_cases h0:ord=0
  .subst h0;have hc:cs=[]:=ax o_;have hd:=f6 rfl;subst hc hd;simp only[Int.natCast_zero,bh]at h;have hs2:=(BJ.1 h).1
   first
    |(unfold NA;rw[ac hO,v1];rfl)
    |(unfold zk;rw[ac hO,hS,hs2])
    |(unfold KD;rw[ac hO])
  .rw[aa o_]at h;obtain⟨m3,h3,h⟩:=jc.1 h;obtain⟨m4,h4,h5⟩:=jc.1 h;have b1:∀x:Bool,d9 x<2 ^ 1:=λx=>by cases x<;>decide
   obtain⟨v3,n3⟩:=TV (s:=1) o_ (b1 down) h3;obtain⟨v4,n4⟩:=TV (s:=1) o_ (b1 _) h4;have hD:flD b (bR sh) (bO sh) st=d9 down:=by unfold flD;rw[hS];exact v3
   have hT:Ru b (bR sh) (bO sh) st=m4:=by
    unfold Ru;rw[hS];show sN b (sN b m2 (1:Nat)) (1:Nat)=m4;rw[n3,n4]
   have hW:H8 b (bR sh) (bO sh) st=d9 (fO ⟨len,ord,down,fine,cs⟩):=by
    unfold H8;rw[hS];show sV b (sN b m2 (1:Nat)) (1:Nat)=_;rw[n3,v4]
   have hZ:IT b (bR sh) (bO sh) fine st=uD ⟨len,ord,down,fine,cs⟩:=by unfold IT;rw[hW];rfl
   have hw1:d9 (fO ⟨len,ord,down,fine,cs⟩)<=1:=by cases fO ⟨len,ord,down,fine,cs⟩<;>decide
   have hz:=aq4 (fine:=fine) hw1;have hrng:∀c∈cs,-((2 ^ (uD ⟨len,ord,down,fine,cs⟩-1):Nat):Int)<=c∧c<((2 ^ (uD ⟨len,ord,down,fine,cs⟩-1):Nat):Int):=λc hc=>by
    have a:=f7 c hc
    cases hn:fO ⟨len,ord,down,fine,cs⟩ with
    |true =>
     have b:=(of_decide_eq_true hn) c hc;simp only[uD,hn]
     cases fine<;>simp only[fM,d9,dL]at b⊢<;>simp at b⊢<;>omega
    |false =>
     simp only[uD,hn]
     cases fine<;>simp only[fM,d9,dL]at a⊢<;>simp at a⊢<;>omega
   have hco:cs.length=ord:=o_;obtain⟨c1,c2⟩:=aAq (sz:=uD ⟨len,ord,down,fine,cs⟩) hz hrng h5;rw[hco]at c1 c2
   first
    |(unfold NA;rw[aa o_,v1,hO,hD,hZ,hT,c1];congr 1;cases down<;>rfl)
    |(unfold zk;rw[aa o_,hO,hZ,hT,c2])
    |(unfold KD;rw[aa o_,hO,hZ,hT,c1,hW];cases hn:fO ⟨len,ord,down,fine,cs⟩;rw[show uD ⟨len,ord,down,fine,cs⟩-1=fM fine-1 from(by rw[uD,hn];rfl),awB fine cs _ rfl];show(_ && fO ⟨len,ord,down,fine,cs⟩)=false;rw[hn,Bool.and_false];rfl)
def aqO {b:C_}{sh fine:Bool}{st:RS}:nx b (zk b (bR sh) (bO sh) fine st):=by
 obtain⟨l1,l2,l3,_⟩:=Tj sh;unfold zk;by_cases h0:sM b (bR sh) (bO sh) st=0
 .rw[ac h0];exact Uw l3
 .rw[aa h0];have hz:IT b (bR sh) (bO sh) fine st<=31:=by unfold IT fM;split<;>omega
  exact aBT hz (Uw (st:=sN b (zQ b (bR sh) (bO sh) st) (1:Nat)) (s:=1) o_)
def avY {b:C_}{sh fine:Bool}:∀{k:Nat}{o:Bool}{st st2:RS}{l:AA_},nx b st->jB b (bR sh) (bO sh) fine k o st=some (l,false,st2)->st2.e=0->
  o=false∧l.length=k∧(∀f∈l,CQ sh f∧f.fine=fine)∧BH b st st2 (l.flatMap (sK sh))
 |0,o,st,st2,l,hn,h,he=>by
  rw[jB]at h;injection h with h
  injection h with e1 h
  injection h with e2 e3
  subst e1 e2 e3;exact⟨rfl,rfl,s_,BJ.2 ⟨rfl,hn he⟩⟩
 |k+1,o,st,st2,l,hn,h,he=>by
  rw[jB]at h;by_cases hO:12<sM b (bR sh) (bO sh) st∧(zQ b (bR sh) (bO sh) st).e=0
  .rw[ac hO]at h;exact absurd h (by simp)
  rw[aa hO]at h
  cases hq:jB b (bR sh) (bO sh) fine k (o ||KD b (bR sh) (bO sh) fine st) (zk b (bR sh) (bO sh) fine st) with
  |none=>rw[hq]at h;exact absurd h (by simp)
  |some q =>
   obtain⟨l2,o2,s3⟩:=q;rw[hq]at h;simp only[ae,aP]at h;obtain⟨e1,e2,e3⟩:=h;subst e1 e2 e3;obtain⟨i1,i2,i3,i4⟩:=avY aqO hq he;rw[Bool.or_eq_false_iff]at i1;obtain⟨⟨j1,j2⟩,j3⟩:=aGj hO i1.2 (Eo i4).2.2.1;refine⟨i1.1,by rw[aq,i2],λf hf=>?_,?_⟩
   .rcases ay.1 hf with rfl|hf
    .exact⟨j1,j2⟩
    .exact i3 f hf
   .rw[aD];exact jc.2 ⟨_,j3,i4⟩
def avL {b:C_}{sh fine:Bool}:∀{l:AA_}{st st2:RS},(∀f∈l,CQ sh f∧f.fine=fine)->BH b st st2 (l.flatMap (sK sh))->jB b (bR sh) (bO sh) fine l.length false st=some (l,false,st2)
 |[],st,st2,hl,h=>by rw[(BJ.1 h).1];rfl
 |f::r,st,st2,hl,h=>by
  obtain⟨h1,h2⟩:=hl f (.head _);rw[aD]at h;obtain⟨m,k1,k2⟩:=jc.1 h;obtain⟨j1,j2,j3,j4⟩:=aG5 h1 k1;rw[h2]at j1 j2 j3;rw[aq,jB,aa (λh=>j4 h.1),j3,j2,rL,avL (λx hx=>hl x (.tail _ hx)) k2,j1]
def aov (sh:Bool):x0T sh=fb sh∧x1T sh=bR sh∧x2T sh=bO sh∧2 ^ fb sh=qw sh+1:=by cases sh<;>decide
def aec {sh:Bool}{f:bZ}{r:AA_}:zu sh (f::r)=ar (f::r).length (fb sh)++(ar (d9 f.fine) 1++(f::r).flatMap (sK sh)):=rfl
def ajt {sh:Bool}:zu sh []=ar 0 (fb sh):=by simp[zu]
def avV {b:C_}{sh:Bool}:∀{k:Nat}{o:Bool}{st st2:RS}{t:N_},nx b st->qb b (fb sh) (bR sh) (bO sh) k o st=some (t,false,st2)->st2.e=0->
  o=false∧t.length=k∧(∀l∈t,uO sh l)∧BH b st st2 (jx sh t)
 |0,o,st,st2,t,hn,h,he=>by
  rw[qb]at h;injection h with h
  injection h with e1 h
  injection h with e2 e3
  subst e1 e2 e3;exact⟨rfl,rfl,s_,BJ.2 ⟨rfl,hn he⟩⟩
 |k+1,o,st,st2,t,hn,h,he=>by
  obtain⟨l1,l2,l3,l4⟩:=Tj sh;obtain⟨_,_,_,x4⟩:=aov sh;rw[qb]at h
  cases hq:jB b (bR sh) (bO sh) (TS b (fb sh) st) (sV b st (fb sh)) o (D4 b (fb sh) st) with
  |none=>rw[hq]at h;exact absurd h (by simp)
  |some q =>
   obtain⟨l,o2,s3⟩:=q;rw[hq]at h;simp only at h
   cases hw:qb b (fb sh) (bR sh) (bO sh) k o2 s3 with
   |none=>rw[hw]at h;exact absurd h (by simp)
   |some w =>
    obtain⟨t2,o3,s4⟩:=w;rw[hw]at h;simp only[ae,aP]at h;obtain⟨e1,e2,e3⟩:=h;subst e1 e2 e3;have hwn:nx b (D4 b (fb sh) st):=by
     unfold D4;split
     .exact Uw (st:=sN b st (fb sh)) (s:=1) (by omega)
     .exact Uw l4
    have hs3:nx b s3:=by
     have:∀{k:Nat}{o o2:Bool}{st st2:RS}{l:AA_},nx b st->jB b (bR sh) (bO sh) (TS b (fb sh) st) k o st=some (l,o2,st2)->True:=λ_ _=>trivial
     have g:∀{fine:Bool}{k:Nat}{o o2:Bool}{st st2:RS}{l:AA_},nx b st->jB b (bR sh) (bO sh) fine k o st=some (l,o2,st2)->nx b st2:=by
      intro fine k
      induction k with
      |zero =>
       intro o o2 st st2 l hn h;rw[jB]at h;injection h with h
       injection h with e1 h
       injection h with e2 e3
       subst e3;exact hn
      |succ k ih =>
       intro o o2 st st2 l hn h;rw[jB]at h;split at h
       .exact absurd h (by simp)
       .split at h
        .exact absurd h (by simp)
        .rename_i q hq;obtain⟨a,b2,c⟩:=q;simp only[ae,aP]at h;obtain⟨e1,e2,e3⟩:=h;subst e3;exact ih aqO hq
     exact g hwn hq
    obtain⟨i1,i2,i3,i4⟩:=avV hs3 hw he;subst i1;obtain⟨j1,j2,j3,j4⟩:=avY hwn hq (Eo i4).2.2.1;have hwe:=(Eo j4).2.2.1;unfold D4 at hwe j4;refine⟨j1,by rw[aq,i2],λx hx=>?_,?_⟩
    .rcases ay.1 hx with rfl|hx
     .refine⟨?_,λf0 hf0 f hf=>?_⟩
      .have:=ww (b:=b) (st:=st) (s:=(fb sh:Int));rw[au]at this;omega
      .have a1:=j3 f hf;have a2:=j3 f0 (List.mem_of_mem_head? hf0);exact⟨a1.1,by rw[a1.2,a2.2]⟩
     .exact i3 x hx
    .rw[jx,aD];refine jc.2 ⟨s3,?_,i4⟩
     cases l with
     |nil =>
      have h0:sV b st (fb sh)=0:=by rw[<-j2];rfl
      rw[aa o_]at hwe j4;have:=(Mh l4 hwe).2;rw[h0]at this;rw[ajt,(BJ.1 j4).1];exact this
     |cons f r =>
      have hp:0<sV b st (fb sh):=by rw[<-j2];simp
      rw[ac hp]at hwe j4;have r1:=(Mh l4 (Xg (s:=1) hwe)).2;obtain⟨b1,r2⟩:=Mh (st:=sN b st (fb sh)) (s:=1) o_ hwe;rw[aec,j2];refine jc.2 ⟨_,r1,jc.2 ⟨_,?_,j4⟩⟩;have hfi:d9 f.fine=sV b (sN b st (fb sh)) (1:Nat):=by
       rw[(j3 f (.head _)).2,TS,decide_eq_true hp,nP];exact aqn b1
      rw[hfi];exact r2
def awc {b:C_}{sh:Bool}:∀{t:N_}{st st2:RS},(∀l∈t,uO sh l)->BH b st st2 (jx sh t)->qb b (fb sh) (bR sh) (bO sh) t.length false st=some (t,false,st2)
 |[],st,st2,hl,h=>by rw[(BJ.1 h).1];rfl
 |l::r,st,st2,hl,h=>by
  obtain⟨l1,l2,l3,l4⟩:=Tj sh;obtain⟨_,_,_,x4⟩:=aov sh;obtain⟨h1,h2⟩:=hl l (.head _);rw[jx,aD]at h;obtain⟨m,k1,k2⟩:=jc.1 h;have ih:=awc (λx hx=>hl x (.tail _ hx)) k2;rw[aq,qb]
  cases l with
  |nil =>
   rw[ajt]at k1;obtain⟨v1,n1⟩:=TV l4 (bT _) k1;have hS:D4 b (fb sh) st=m:=by rw[D4,aa o_,n1]
   rw[v1,hS];simp only[jB];rw[ih]
  |cons f q =>
   rw[aec]at k1;obtain⟨m1,j1,k1⟩:=jc.1 k1;obtain⟨m2,j2,j3⟩:=jc.1 k1;obtain⟨v1,n1⟩:=TV l4 o_ j1;have b1:d9 f.fine<2 ^ 1:=by cases f.fine<;>decide
   obtain⟨v2,n2⟩:=TV (s:=1) o_ b1 j2;have hp:0<sV b st (fb sh):=by rw[v1];simp
   have hS:D4 b (fb sh) st=m2:=by
    rw[D4,ac hp,n1];exact n2
   have hF:TS b (fb sh) st=f.fine:=by
    rw[TS,decide_eq_true hp,nP,n1];have:sV b m1 1=d9 f.fine:=v2;rw[this]
    cases f.fine<;>rfl
   rw[hS,hF,v1,avL (λx hx=>h2 f rfl x hx) j3];simp only;rw[ih]
def alW {b:C_}{i:aN}{a n:Nat}{t:N_}(ha:a<=b.length):Qf b i (a:Int)=.ok t n↔Un i t∧At b a n (jx i.short t):=by
 obtain⟨x0,x1,x2,_⟩:=aov i.short;rw[Qf,Yh,x0,x1,x2];constructor
 .intro h
  cases hq:qb b (fb i.short) (bR i.short) (bO i.short) i.many false ⟨a,0⟩ with
  |none=>rw[hq]at h;exact absurd h (by simp)
  |some q =>
   obtain⟨t2,o,st⟩:=q;rw[hq]at h;simp only at h;by_cases he:st.e≠0
   .rw[ac he]at h;exact absurd h (by simp)
   rw[aa he]at h
   cases o with
   |true=>simp at h
   |false =>
    simp only[ao,bl]at h;injection h with e1 e2
    subst e1;obtain⟨_,g2,g3,a2,n2,e3,e4,g5⟩:=avV (λ_=>⟨a,rfl,ha⟩) hq (by simpa using he);injection e3 with e3 _
    have:a=a2:=o_;subst this;rw[e4]at e2;simp only[au]at e2;subst e2;exact⟨⟨g2,g3⟩,g5⟩
 .rintro ⟨⟨h1,h2⟩,h3⟩
  have:=awc h2 (show BH b ⟨a,0⟩ ⟨n,0⟩ _ from ⟨a,n,rfl,rfl,h3⟩);rw[h1]at this;rw[this];simp
def adh {lf:Int}:∀{l:P_},fitsS lf l->∀k∈aM l,0<=k
 |[],_,k,h=>by simp[aM]at h
 |s::r,hf,k,h=>by
  obtain⟨⟨_,h1⟩,h2⟩:=hf;have eb:aM (s::r)=List.replicate s.len.toNat s.book++aM r:=by rw[aM,aD];rfl
  rw[eb,be]at h;rcases h with h|h
  .rw[dc h];exact h1.1
  .exact adh h2 k h
def at8 {i:aN}{t:N_}(h:t.length=i.many)(ha:pf t=false):t=List.replicate i.many []:=by
 rw[pf,nk]at ha;rw[List.eq_replicate_iff];refine⟨h,λl hl=>?_⟩;have:=ha l hl;simp only[decide_eq_true_eq]at this;exact ax (by omega)
def U2 {b:C_}{a n v:Nat}(hv:v<=1)(h:At b a n [v]):bf b (a:Int) 1=.ok v n:=(cx (s:=1) o_).2 ⟨o_,by rw[SW hv];exact h⟩
def aoa {b:C_}{a n v:Nat}(h:bf b (a:Int) 1=.ok v n):v<=1∧At b a n [v]:=by
 obtain⟨h1,h2⟩:=(cx (s:=1) o_).1 h;rw[SW o_]at h2;exact⟨o_,h2⟩
def arR {b:C_}{r:Nat}{c:cK}{q:Bool}(hr:r<=11)(hc:c.Fit)(h:nC r c){a n:Nat}(ha:At b a n (Dq r c q)) :
  CU b (a:Int) r q c.info=.ok (⟨c.gain.toNat,c.info,c.sects,c.steps,c.tns,0,if pf c.tns then 1 else 0⟩,c.lines) n:=by
 have hm11:=gy hr h.info;have hg:=h.gain;obtain⟨n1,k1,ha1⟩:=aZ.1 ha;obtain⟨n2,k2,ha2⟩:=aZ.1 ha1;obtain⟨n3,k3,ha3⟩:=aZ.1 ha2;obtain⟨n4,k4,ha4⟩:=aZ.1 ha3;obtain⟨n5,k5,k6⟩:=aZ.1 ha4;have e0:bf b (a:Int) 0=.ok 0 a:=(cx (s:=0) o_).2 ⟨o_,ef.2 ⟨rfl,(dA ha).1⟩⟩;have e1:bf b (a:Int) 8=.ok c.gain.toNat n1:=(cx (s:=8) o_).2 ⟨o_,k1⟩;have e2:(if q then R.ok c.info n1 else nj b n1 r)=.ok c.info n2:=by
  cases q with
  |true=>rw[ac rfl]at k2⊢;rw[(ef.1 k2).1]
  |false=>rw[aa s_]at k2⊢;exact(Pg hr).2 ⟨h.info,k2⟩
 have e3:vS b c.info (n2:Int)=.ok c.sects n3:=(aaw hm11 (dA k3).1).2 ⟨h.sects,k3⟩;have e4:zS b c.sects (n3:Int) (c.gain.toNat:Int)=.ok c.steps n4:=by
  rw[show((c.gain.toNat:Nat):Int)=c.gain by omega];exact(aey (dA k4).1 (λl hl=>adh (h.sects.2 l hl)) hg.1).2 ⟨h.steps,k4⟩
 have e6:=aod hc h hr (dA k6).1 k6;have hm:¬(q=true∧¬c.info.may r):=λhh=>hh.2 h.info
 unfold CU De;rw[e0,az,aa hm,e1,az,e2,az,e3,az,e4,az]
 cases hF:pf c.tns with
 |true =>
  rw[hF]at k5;simp only[bh]at k5;obtain⟨m1,j1,k5⟩:=aZ (X:=[0]) |>.1 k5;obtain⟨m2,j2,k5⟩:=aZ (X:=[1]) |>.1 k5;obtain⟨m3,j3,j4⟩:=aZ.1 k5;have e5:=(alW (dA j3).1).2 ⟨h.tns,j3⟩;rw[U2 o_ j1,az,U2 o_ j2,az,ac rfl,e5,az,U2 o_ j4,az,az,e6,az,ac ⟨rfl,λ_=>hF⟩];rfl
 |false =>
  rw[hF]at k5;simp only[ao,bl]at k5;obtain⟨m1,j1,k5⟩:=aZ (X:=[0]) |>.1 k5;obtain⟨m2,j2,j4⟩:=aZ (X:=[0]) |>.1 k5;have ht:=at8 h.tns.1 hF;rw[U2 o_ j1,az,U2 o_ j2,az,aa o_,az,U2 o_ j4,az,az,e6,az,ac ⟨rfl,λhh=>absurd hh s_⟩,<-ht];rfl
abbrev apart (p q:Nat×Nat):Prop:=p.2+bI p.1<=q.2∨q.2+bI q.1<=p.2
structure OsW (os:C_)(W:Nat):Prop where
 up:∀j,j+1<os.length->nth os j<nth os (j+1)∧(nth os (j+1)-nth os j) % 4=0
 win:∀w w',w<W->w'<W->w≠w'->∀j,j+1<os.length->nth os (j+1)<=32
def awj {os:C_}{W:Nat}(h:OsW os W):∀{k b:Nat},b+1+k<os.length->nth os (b+1)<=nth os (b+1+k)
 |0,b,_=>al _
 |k+1,b,hk=>by
  have:=awj h (k:=k) (b:=b) o_;have h2:=(h.up (b+1+k) o_).1;rw[show b+1+(k+1)=b+1+k+1 by omega];omega
def avo (os:C_)(w b d y:Nat):Prop:=(w*32+nth os b<=y∧y+d<=w*32+nth os (b+1))∧b+1<os.length
def Gq {os:C_}{W:Nat}(h:OsW os W){d b k w y:Nat}(hd:d=4∨d=2)(hb:b+1<os.length)(hy:y∈rB os d b k w):∃w',w<=w'∧w'<w+k∧avo os w' b d y:=by
 obtain⟨w',x,h1,h2,h3,rfl⟩:=abY hy;have hu:=h.up b hb;have:=M3 (d:=d) o_ (by rcases hd with e|e<;>rw[e]<;>omega) h3;exact⟨w',h1,h2,⟨o_,o_⟩,hb⟩
def Lx {os:C_}{W:Nat}(h:OsW os W){w b d y w' b' d' y':Nat}(hw:w<W)(hw':w'<W)(h1:avo os w b d y)(h2:avo os w' b' d' y')(hne:w≠w'∨b<b'):y+d<=y'∨y'+d'<=y:=by
 obtain⟨⟨a1,a2⟩,a3⟩:=h1;obtain⟨⟨c1,c2⟩,c3⟩:=h2;by_cases e:w=w'
 .have hb:b<b':=by rcases hne with h|h;exact absurd e h;exact h
  have:=awj h (k:=b'-(b+1)) (b:=b) o_;rw[show b+1+(b'-(b+1))=b' by omega]at this;left;subst e;omega
 .have k1:=h.win w w' hw hw' e b a3;have k2:=h.win w w' hw hw' e b' c3;omega
def ap8 {d hi:Nat}:∀{f lo:Nat},(∀y∈so d hi f lo,lo<=y)∧(so d hi f lo).Pairwise λx y=>x+d<=y
 |0,lo=>⟨by simp[so],by simp[so]⟩
 |f+1,lo=>by
  obtain⟨h1,h2⟩:=ap8 (d:=d) (hi:=hi) (f:=f) (lo:=lo+d);rw[so];by_cases h:lo<hi
  .rw[ac h];refine⟨λy hy=>?_,bU.2 ⟨λy hy=>h1 y hy,h2⟩⟩;rcases ay.1 hy with rfl|hy
   .exact al _
   .have:=h1 y hy;omega
  .rw[aa h];exact⟨s_,s_⟩
abbrev apD (d:Nat)(x y:Nat):Prop:=x+d<=y∨y+d<=x
def arN {os:C_}{W:Nat}(h:OsW os W){d b:Nat}(hd:d=4∨d=2)(hb:b+1<os.length):∀{k w:Nat},w+k<=W->(rB os d b k w).Pairwise (apD d)
 |0,w,_=>by simp[rB]
 |k+1,w,hk=>by
  rw[rB,dq];refine⟨?_,arN h hd hb o_,λx hx y hy=>?_⟩
  .rw[List.pairwise_map];exact(ap8.2).imp λ{a c} hac=>.inl (by omega)
  .obtain⟨w2,e1,e2,e3⟩:=Gq h hd hb hy;have hx':x∈rB os d b 1 w:=by
    rw[rB,be];exact .inl hx
   obtain⟨w1,e4,e5,e6⟩:=Gq h hd hb hx';exact Lx h o_ o_ e6 e3 (.inl o_)
def aqz {os:C_}{W:Nat}(h:OsW os W){d n first:Nat}(hd:d=4∨d=2)(hw:first+n<=W):∀{k b:Nat},b+k<os.length->(zU os d n first k b).Pairwise (apD d)
 |0,b,_=>by simp[zU]
 |k+1,b,hk=>by
  rw[zU,dq];refine⟨arN h hd o_ hw,aqz h hd hw o_,λx hx y hy=>?_⟩;obtain⟨w1,e4,e5,e6⟩:=Gq h hd o_ hx;obtain⟨b',c1,c2,c3⟩:=U0 hy;obtain⟨w2,e1,e2,e3⟩:=Gq h hd o_ c3;exact Lx h o_ o_ e6 e3 (.inr o_)
def E6 (id:Nat):bI id=4∨bI id=2:=by unfold bI;split<;>simp
def aqA {os:C_}{W:Nat}(h:OsW os W){n first:Nat}(hw:first+n<=W):∀{r:P_}{b:Nat}{lf:Int},fitsS lf r->(b:Int)+lf<os.length->(BI os n first r b).Pairwise apart
 |[],b,lf,_,_=>by simp[BI]
 |s::r,b,lf,hf,hb=>by
  obtain⟨⟨⟨l1,l2⟩,b1,b2⟩,hf2⟩:=hf;rw[BI,dq];refine⟨?_,aqA h hw hf2 o_,λx hx y hy=>?_⟩
  .by_cases h0:s.book=0∨s.book=13
   .rw[ac h0];simp
   .rw[aa h0,List.pairwise_map];exact aqz h (E6 _) hw (by omega)
  .by_cases h0:s.book=0∨s.book=13
   .rw[ac h0]at hx;simp at hx
   .rw[aa h0]at hx;obtain⟨x',hx',rfl⟩:=dy.1 hx;obtain⟨b',c1,c2,c3⟩:=U0 hx';obtain⟨w1,e4,e5,e6⟩:=Gq h (E6 _) o_ c3;obtain⟨j,f1,f2,f3⟩:=Ui hf2 hy;have hj:(j:Int)<lf-s.len:=by
     have h1:=(aJ.1 f1).1;have:∀{l:P_}{m:Int},fitsS m l->((aM l).length:Int)=m:=by
      intro l
      induction l with
      |nil=>intro m hm;rw[show m=0 from hm];simp[aM]
      |cons q l ih =>
       intro m hm;have eb:aM (q::l)=List.replicate q.len.toNat q.book++aM l:=by rw[aM,aD];rfl
       have:=ih hm.2;have hq:=hm.1.1.1;rw[eb,aj,bm];omega
     have:=this hf2;omega
    obtain⟨w2,e1,e2,e3⟩:=Gq h (E6 _) o_ f3;exact Lx h o_ o_ e6 e3 (.inr o_)
def Gr:∀{l:P_}{m:Int},fitsS m l->((aM l).length:Int)=m
 |[],m,h=>by rw[show m=0 from h];simp[aM]
 |q::l,m,hm=>by
  have eb:aM (q::l)=List.replicate q.len.toNat q.book++aM l:=by rw[aM,aD];rfl
  have:=Gr hm.2;have hq:=hm.1.1.1;rw[eb,aj,bm];omega
def arC {os:C_}{W:Nat}(h:OsW os W){m:Int}(hm:m<os.length):∀{r:H_}{q:G_}{first:Nat},fI m r->(∀n∈q,1<=n)->(first:Int)+q.sum<=W->(qG os r q first).Pairwise apart
 |[],q,first,_,_,_=>by simp[qG]
 |l::r,[],first,_,_,_=>by simp[qG]
 |l::r,n::q,first,hf,hq,hW=>by
  have hn:=hq n (.head _);have hq2:∀n∈q,1<=n:=λx hx=>hq x (.tail _ hx)
  have hqs:0<=q.sum:=by have:=nf hq2;omega
  have hl:=hf l (.head _);rw[kW]at hW;rw[qG,dq];refine⟨aqA h o_ hl o_,arC h hm (λx hx=>hf x (.tail _ hx)) hq2 o_,λx hx y hy=>?_⟩;obtain⟨j,f1,f2,f3⟩:=Ui hl hx;have hj:=(aJ.1 f1).1;have hjl:=Gr hl;obtain⟨w1,e4,e5,e6⟩:=Gq h (E6 _) o_ f3;obtain⟨w,g,j2,l2,g1,g2,g3,g4,g5,g6,z,g7,g8⟩:=Nw (λx hx=>hf x (.tail _ hx)) hq2 hy;have hj2:=(aJ.1 g5).1;have hjl2:=Gr (hf l2 (.tail _ (dH g1)));have hy2:y.2∈rB os (bI y.1) j2 1 w:=by rw[g8];exact agS (al _) o_ g7
  obtain⟨w2,e1,e2,e3⟩:=Gq h (E6 _) o_ hy2;exact Lx h o_ o_ e6 e3 (.inl o_)
def ar5 {r:Nat}(hr:r<=11)(i:aN):OsW (offs r i.short) i.many:=by
 obtain⟨p1,p2,p3⟩:=oI (r,i.short) (fH o_);simp only at p1 p2 p3;obtain⟨w1,w2⟩:=Ij i;refine⟨λj hj=>?_,λw w' h1 h2 h3 j hj=>?_⟩
 .have:=bH.1 p1 j (ed.2 o_);simpa using this
 .have:=bH.1 p3 _ (jv hj);simp only[decide_eq_true_eq]at this;omega
def as4 {r:Nat}(hr:r<=11){j:aN}{S:H_}(hm:j.may r)(hS:jZ j S):(N8 r j S).Pairwise apart:=by
 obtain⟨g1,g2⟩:=dV (gy hr hm);have hmx:=hm.2.2.2.1;have hmy:sc r (decide (j.seq=2))=(offs r j.short).length-1:=rfl;obtain⟨o1,o2,o3,o4⟩:=Cb (r,j.short) (fH o_);simp only at o4;exact arC (ar5 hr j) (m:=j.max) o_ hS.2 (λn hn=>(g1 n hn).1) (by omega)
def Za {b:C_}:∀{pl:R_}{n m:Nat}{Z Z2:G_},n<=b.length->Z.length=256->(∀p∈pl,(1<=p.1∧p.1<=11)∧p.2+bI p.1<=256)->pl.Pairwise apart->kE b pl n Z=.ok Z2 m->
  Z2.length=256∧At b n m (pl.flatMap λp=>Aj p.1 (cut Z2 p))∧(∀p∈pl,OV p.1 (cut Z2 p))∧∀i,(∀p∈pl,¬(p.2<=i∧i<p.2+bI p.1))->Z2[i]?=Z[i]?
 |[],n,m,Z,Z2,hn,hz,hp,hw,h=>by
  rw[kE]at h;injection h with e1 e2
  subst e1 e2;exact⟨hz,ef.2 ⟨rfl,hn⟩,s_,λi _=>rfl⟩
 |p::r,n,m,Z,Z2,hn,hz,hp,hw,h=>by
  rw[kE]at h;obtain⟨l,k,h1,h2⟩:=aS.1 h;obtain⟨p1,p2⟩:=hp p (.head _);obtain⟨w1,w2⟩:=bU.1 hw;obtain⟨g1,g2⟩:=(agE p1).1 h1;have hll:=g1.1;obtain⟨i1,i2,i3,i4⟩:=Za (dA g2).2.1 (by rw[XE o_];exact hz) (λq hq=>hp q (.tail _ hq)) w2 h2;have hcut:cut Z2 p=l:=by
   apply dS;intro i;by_cases hi:i<bI p.1
   .rw[T8 hi,i4 (p.2+i) (λq hq hh=>by
     have:=w1 q hq;have:=hp q (.tail _ hq);omega),UY o_,ac o_]
    congr 1
    omega
   .have:=am7 (Z:=Z2) (p:=p) o_;rw[ij o_,ij o_]
  refine⟨i1,?_,λq hq=>?_,λi hi=>?_⟩
  .rw[aD,hcut];exact aZ.2 ⟨k,g2,i2⟩
  .rcases ay.1 hq with rfl|hq
   .rw[hcut];exact g1
   .exact i3 q hq
  .have:=hi p (.head _);rw[i4 i (λq hq=>hi q (.tail _ hq)),UY o_,aa o_]
end Go.Vm
end
