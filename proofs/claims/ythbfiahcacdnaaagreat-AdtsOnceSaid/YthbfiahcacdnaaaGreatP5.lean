import Derived.Test.YthbfiahcacdnaaaGreatP4
set_option linter.unusedVariables false
set_option linter.unusedSimpArgs false
set_option linter.defProp false
set_option linter.unusedSectionVars false
noncomputable section
namespace Go.Vm
set_option maxRecDepth 100000
set_option maxHeartbeats 4000000
abbrev FQ (c:c7)(os:C_)(q:Obj)(C:D_)(v:AV)(T:am):am :=
 (0,.cells c.av)::(1,.cells C)::(2,.cells [.ptr 1 0])::(3,.cells [v])::(4,.cells c.info.cells)::(5,.cells [.d (.lst (bz c.sects))])::(6,.cells [.own false 1 (cX os)])::(7,q)::T
abbrev azu (x0:AV):aV:=[(0,x0),(6,.ptr 0 0),(11,.ptr 2 0),(12,.ptr 3 0),(86,.fn iG [] [.ptr 5 0,.ptr 4 0,.ptr 6 0])]
abbrev Tv (x0:AV):Obj:=.loop (azu x0) [87] wQ wY false none
def v9 (c:c7)(p:Nat×Nat):C_:=Fd p.1 ((c.lines.drop p.2).take (bO p.1))
def adV {id:Nat}(hid:1<=id∧id<=11){vs:G_}(hv:SX id vs):1<=(Fd id vs).length∧(Fd id vs).length<=200:=by
 have hok:ju id:=o_;obtain⟨m1,m2,m3,m4⟩:=Cl id (Ul hid);obtain⟨f1,f2⟩:=NZ hid hv;have hd4:bO id<=4:=by unfold bO;split<;>omega
 have hvl:=hv.1;have hv8:∀v∈vs,v.natAbs<=8191:=λv h=>aM (hv.2 v h) m4
 have hmany:bm id=cH id ^ d8 id:=rfl;unfold Fd;by_cases hs:kx id=true
 .have hin:=f1 hs;have hlt:=HW (n:=0) (j:=0) hin.2 s_;rw[bC,hin.1,<-hmany]at hlt;have:=AN hok hlt;rw[ac hs];omega
 .have hin:=f2 (by simpa using hs);have hlt:=HW (n:=0) (j:=0) hin.2 s_;rw[bC,hin.1,<-hmany]at hlt;have:=AN hok hlt;have hsl:=aiq (vs:=vs);have hel:=Wg (id:=id) hv8;rw[aa hs];simp only[al];omega
def ayp {m:Nat}{xs ys:E_}(hl:xs.length+ys.length<=1000000000):∃v,(∀h,dX m h (aD m xs) ys=some (v,h))∧firm v=aD m (xs++ys):=by
 obtain⟨v,h1,h2⟩:=apd (m:=m) (h:=[]) hl;refine⟨v,λh=>?_,h2⟩
 cases xs with
 |nil =>
  cases ys with
  |nil=>injection h1 with h1;injection h1 with h1;subst h1;rfl
  |cons y r =>
   simp only[qp,alh,abj,aU]at h1⊢;split at h1
   .rename_i h9;rw[ac h9];injection h1 with h1;injection h1 with h1;subst h1;rfl
   .exact absurd h1 (by simp)
 |cons x r =>
  simp only[acS,Ua,abj,ams,alL,aU]at h1⊢;split at h1
  .rename_i h9;rw[ac h9];split at h1
   .rename_i h8;rw[ac h8];split at h1
    .rename_i h7;rw[ac h7];injection h1 with h1;injection h1 with h1;subst h1;rfl
    .exact absurd h1 (by simp)
   .exact absurd h1 (by simp)
  .exact absurd h1 (by simp)
def aFp (c:c7)(hl:c.lines.length=256)(os:C_)(x0:AV)(hx0:share x0=x0)(p:Nat×Nat)(hp:(1<=p.1∧p.1<=11)∧p.2+bO p.1<=256∧SX p.1 ((c.lines.drop p.2).take (bO p.1)))(C:D_)(hC:HE C)(acc:C_)(hacc:acc.length<=900000000)(K:Nat)(o:Obj)(hK:8<=K)(N:Nat)(hN:K<N) :
  cq (Dn prog) (.yield 7) [.agg [A_ (p.1:Int),A_ (p.2:Int),A_ ((p.2+bO p.1:Nat):Int)]] ⟨FQ c os (Tv x0) C (aD 1 (ai acc)) [(K,o)],N⟩=some (B_ true,⟨FQ c os (Tv x0) (aG C (4*p.1) (q9 p.1)) (aD 1 (ai (acc++v9 c p))) [(K,o)],N+1+1⟩):=by
 obtain⟨h1,h2,h3⟩:=hp;have hH:=ar1 [] s_ .nl (.inr ⟨rfl,rfl⟩) p.1 h1 _ h3;have hhl:=adV h1 h3;rw[aK]at hH;have hsl:=λh=>agu (h:=h) (l:=c.lines) (a:=p.2) (b:=p.2+bO p.1) o_ o_ (p.2:Int) ((p.2+bO p.1:Nat):Int) rfl rfl
 simp only[fT]at hsl;have hBk:Bk (λC T=>FQ c os (.loop (azu x0) [87] wQ wY true none) C (aD 1 (ai acc)) ([(K,o),(N,.cells [A_ (p.1:Int),A_ (p.2:Int),A_ ((p.2+bO p.1:Nat):Int)])]++T)) 1 (N+1):=by
  have hK0:K≠0∧K≠1∧K≠2:=o_;constructor
  .intro C T;simp
  .intro C T C';simp
  .intro C o;simp(disch:=omega)[↓aa]
  .intro C o o';simp(disch:=omega)[↓aa]
  .intro C o;simp(disch:=omega)[↓aa]
  .intro C o;simp(disch:=omega)[↓aa]
 have hB:=Ru hBk C hC p.1 h1;generalize aG C (4*p.1) (q9 p.1)=C2 at *;have hbl:(ai (v9 c p)).length=(v9 c p).length:=bw;have hba:(ai acc).length=acc.length:=bw;obtain⟨wv,hw1,hw2⟩:=ayp (m:=1) (xs:=ai acc) (ys:=ai (v9 c p)) (by unfold v9;unfold v9 at hbl;omega);have hne:ai (acc++v9 c p)≠[]:=by
  intro h;have:=aX List.length h;rw[bw,al,bf]at this;unfold v9 at this;omega
 rw[ahN,lC hne]at hw2;rw[lC hne];have hLB:Fd p.1 ((c.lines.drop p.2).take (bO p.1))=v9 c p:=rfl;rw[hLB]at hH;simp only[nD,bh]at hB hH;simp only[FQ,c7.av,aO.cells,aR,aK,Rz,Rn]at hB⊢;generalize v9 c p=LB at *;generalize (c.lines.drop p.2).take (bO p.1)=LS at *;generalize ((p.2+bO p.1:Nat):Int)=TO at *;simp(config := { maxSteps:=1000000 }) (disch:=omega)[Rz,Rn,↓ac,↓aa,hx0,hsl,hH,hB,hw1,hw2]
def aCf (c:c7)(hl:c.lines.length=256)(os:C_)(x0:AV)(hx0:share x0=x0)(TOT:C_)(hT:TOT.length<=900000000):Sp (fun(s:D_×C_) T=>FQ c os (Tv x0) s.1 (aD 1 (ai s.2)) T) noH 8 7 (λp s=>.inl (aG s.1 (4*p.1) (q9 p.1),s.2++v9 c p))
  (λr s=>HE s.1∧s.2++r.flatMap (v9 c)=TOT∧∀p∈r,(1<=p.1∧p.1<=11)∧p.2+bO p.1<=256∧SX p.1 ((c.lines.drop p.2).take (bO p.1))):=by
 intro p r s K o N hi hK hN;obtain⟨i1,i2,i3⟩:=hi;have hp:=i3 p (.head _);have hal:s.2.length<=900000000:=by rw[<-i2,al]at hT;omega
 refine .inl ⟨_,N+1+1,o_,rfl,⟨adZ i1 hp.1,?_,λq hq=>i3 q (.tail _ hq)⟩,aFp c hl os x0 hx0 p hp s.1 i1 s.2 hal K o hK N hN⟩;rw[aE,<-ax]at i2;exact i2
def aFx {c:c7}{os:C_}{x0:AV}:Tl (fun(s:D_×C_) T=>FQ c os (Tv x0) s.1 (aD 1 (ai s.2)) T) 8:=by
 constructor
 .intro s K o h;simp(disch:=omega)[↓aa]
 .intro s K o o' h;simp(disch:=omega)[↓aa]
 .intro s K o h;simp(disch:=omega)[↓aa]
 .intro s K o h;simp(disch:=omega)[↓aa]
def nU (r:Nat)(c:c7):C_:=(rF (offs r c.info.short) c.sects c.info.groups 0).flatMap (v9 c)
abbrev uS:D_:=[A_ 0,A_ 0,.nl,.nl,A_ 0,A_ 0,.nl,.nl,A_ 0,A_ 0,.nl,.nl,A_ 0,A_ 0,.nl,.nl,A_ 0,A_ 0,.nl,.nl,A_ 0,A_ 0,.nl,.nl,A_ 0,A_ 0,.nl,.nl,A_ 0,A_ 0,.nl,.nl,A_ 0,A_ 0,.nl,.nl,A_ 0,A_ 0,.nl,.nl,A_ 0,A_ 0,.nl,.nl,A_ 0,A_ 0,.nl,.nl]
def ah3:HE uS:=by
 refine⟨rfl,λid hid=>.inl ?_⟩;obtain rfl|rfl|rfl|rfl|rfl|rfl|rfl|rfl|rfl|rfl|rfl|rfl:id=0∨id=1∨id=2∨id=3∨id=4∨id=5∨id=6∨id=7∨id=8∨id=9∨id=10∨id=11:=o_
 all_goals rfl
def atx (r:Nat)(hr:r<=11)(c:c7)(hc:c.Fit)(h:ph r c)(x0:AV)(hx0:share x0=x0)(hlen:(nU r c).length<=900000000):∃C2 M,(Dn prog).call iG [.yield 7,.ptr 5 0,.ptr 4 0,.ptr 6 0] ⟨FQ c (offs r c.info.short) (Tv x0) uS .nl [],8⟩=some (.tup [],⟨FQ c (offs r c.info.short) (Tv x0) C2 (aD 1 (ai (nU r c))) [],M⟩):=by
 obtain⟨o1,o2,o3,o4⟩:=KK (r,c.info.short) (iu o_);obtain⟨p1,p2,p3⟩:=uR (r,c.info.short) (iu o_);simp only at o1 o2 o3 o4 p1 p2 p3;have hmx:=h.info.2.2.2.1;have hmy:qO r (decide (c.info.seq=2))=(offs r c.info.short).length-1:=rfl;have hhi:∀x∈offs r c.info.short,x<=256:=λx hx=>by
  have:=bJ.1 p3 x hx;simp only[decide_eq_true_eq]at this;have:(cond c.info.short 32 256:Nat)<=256:=by cases c.info.short<;>decide
  omega
 have hpl:=ahX (P:=⟨7,4,6,c.sects,offs r c.info.short⟩) c.info hc.info (gQ hr h.info) 5 (aFx (c:=c) (os:=offs r c.info.short) (x0:=x0)) aoM (aCf c h.lines.1 (offs r c.info.short) x0 hx0 (nU r c) hlen) (λs=>by simp) (λs T=>by simp) (λs T=>by simp) t_ hhi t_ h.sects 8 (ak _) (uS,[]) ⟨ah3,by simp only[nU,aK],λp hp=>acI hc h hr hp⟩;rcases hpl with ⟨s2,M,hM,e1,⟨e2,e3,e4⟩,e5⟩|⟨z,_⟩
 .rw[ge,bh]at e3;rw[e3]at e5;exact⟨s2.1,M,e5⟩
 .exact nomatch z
def Ia {α:Type}{f:α->C_}{k:Nat}:∀{l:List α},(∀x∈l,(f x).length<=k)->(l.flatMap f).length<=k*l.length
 |[],_=>by simp
 |x::r,h=>by
  have a:=h x (.head _);have b:=Ia (l:=r) λy hy=>h y (.tail _ hy)
  rw[aE,al,ar,Nat.mul_add];omega
def alV {d hi:Nat}:∀{f x:Nat},(vJ d hi f x).length<=f
 |0,_=>by simp[vJ]
 |f+1,x=>by
  rw[vJ];split
  .have:=alV (d:=d) (hi:=hi) (f:=f) (x:=x+d);simp only[ar];omega
  .simp
def alD {os:C_}{d b:Nat}:∀{k w:Nat},(sR os d b k w).length<=300*k
 |0,_=>by simp[sR]
 |k+1,w=>by
  have a:=alV (d:=d) (hi:=nth os (b+1)) (f:=300) (x:=nth os b);have b:=alD (os:=os) (d:=d) (b:=b) (k:=k) (w:=w+1);rw[sR,al,gO];omega
def alY {os:C_}{d n first:Nat}(hn:n<=8):∀{k b:Nat},(BZ os d n first k b).length<=2400*k
 |0,_=>by simp[BZ]
 |k+1,b=>by
  have a:=alD (os:=os) (d:=d) (b:=b) (k:=n) (w:=first);have c:=alY (os:=os) (d:=d) (first:=first) hn (k:=k) (b:=b+1);rw[BZ,al];omega
def al5 {os:C_}{n first:Nat}(hn:n<=8):∀{r:Q_}{b:Nat}{lf:Int},fitsS lf r->0<=lf->(Dv os n first r b).length<=2400*lf.toNat
 |[],b,lf,h,h0=>by simp[Dv]
 |s::r,b,lf,h,h0=>by
  obtain⟨⟨⟨l1,l2⟩,_⟩,h2⟩:=h;have a:=alY (os:=os) (d:=bO s.book.toNat) (first:=first) hn (k:=s.len.toNat) (b:=b);have c:=al5 (os:=os) (first:=first) hn (b:=b+s.len.toNat) h2 o_;rw[Dv,al];split
  .simp only[bf];omega
  .rw[gO];omega
def amw {os:C_}{m:Int}(hm:0<=m∧m<=40):∀{r:H_}{q:G_}{first:Nat},fy m r->(∀n∈q,n<=8)->(rF os r q first).length<=100000*q.length
 |[],q,first,_,_=>by simp[rF]
 |l::r,[],first,_,_=>by simp[rF]
 |l::r,n::q,first,hf,hn=>by
  have h1:=hn n (.head _);have a:=al5 (os:=os) (n:=n.toNat) (first:=first) o_ (b:=0) (hf l (.head _)) hm.1;have c:=amw (os:=os) hm (r:=r) (q:=q) (first:=first+n.toNat) (λx hx=>hf x (.tail _ hx)) (λx hx=>hn x (.tail _ hx));rw[rF,al,ar];omega
def ZF {r:Nat}{c:c7}(hc:c.Fit)(h:ph r c)(hr:r<=11):(nU r c).length<=160000000:=by
 have hm11:=gQ hr h.info;obtain⟨g1,g2⟩:=dO hm11;have hmm:c.info.many<=8:=by unfold aO.many;split<;>omega
 have hgl:c.info.groups.length<=8:=by have:=lG (λn hn=>(g1 n hn).1);omega
 have a:=amw (os:=offs r c.info.short) (je hm11) (first:=0) h.sects.2 λn hn=>(g1 n hn).2
 have b:=Ia (f:=v9 c) (k:=200) (l:=rF (offs r c.info.short) c.sects c.info.groups 0) λp hp=>by
  obtain⟨h1,h2,h3⟩:=acI hc h hr hp;exact(adV h1 h3).2
 unfold nU;omega
def SJ:∀{g:H_}{t:K_}{w z:Int}{m:Int},0<=m∧m<=40->fy m g->mq g t w z≠none->(pT g t w z).length<=800*g.length
 |[],[],_,_,_,_,_,_=>by simp[pT]
 |[],_::_,_,_,_,_,_,h=>absurd rfl h
 |_::_,[],_,_,_,_,_,h=>absurd rfl h
 |l::r,t::s,w,z,m,hm,hf,h=>by
  rw[mq]at h
  cases hr:dP (aP l) t w z with
  |none=>rw[hr]at h;exact absurd rfl h
  |some fin =>
   rw[hr]at h;have a:=W6 (bks:=aP l) (t:=t) (w:=w) (z:=z) (by rw[hr];simp);have b:=tg (hf l (.head _)) hm.1;have c:=SJ (g:=r) (t:=s) (w:=fin.1) (z:=fin.2) hm (λx hx=>hf x (.tail _ hx)) h;rw[pT,hr,al,ar];simp only;omega
def J3 {i:aO}:(kb i).length<=20:=by
 unfold kb;split<;>simp[ab0]
def ac5 {i:aO}{g:H_}(hm:i.may 11)(hg:jH i g):(TW i g).length<=600000*g.length:=by
 have hsz:1<=i.fsz∧i.fsz<=5:=by unfold aO.fsz;split<;>omega
 have hmx:=je hm;refine Ia λl hl=>?_
 have hf:=hg.2 l hl;have a:=Tb hsz (tR hf o_);have b:l.length<=100:=by
  rcases Jr hf with h|h
  .omega
  .subst h;simp
 omega
def Jk (r:Nat)(c:c7)(common:Bool):C_ :=
 aq c.gain.toNat 8++((if common then [] else kb c.info)++(TW c.info c.sects++(pT c.sects c.steps c.gain (-1)++((if vu c.tns then 0::1::(js c.info.short c.tns++[0]) else [0,0,0])++nU r c))))
def avw (b:C_)(hb:b.length<=300000000)(x:AV)(hx:x=.d (.lst (ai b))∨x=.nl∧b=[])(rt:Int)(c:c7)(hc:c.Fit)(common:Bool) :
  (dR rt∧ph rt.toNat c∧bi prog FX [x,A_ rt,.agg c.av,B_ common]=some (.tup [.own true 1 (ai (b++Jk rt.toNat c common)),A_ 0]))∨
  (∃e:Int,e≠0∧bi prog jf [A_ rt,.agg c.av]=some (A_ e)∧(dR rt->¬ph rt.toNat c)∧bi prog FX [x,A_ rt,.agg c.av,B_ common]=some (.tup [.nl,A_ e])):=by
 have bad:∀e:Int,e≠0->bi prog jf [A_ rt,.agg c.av]=some (A_ e)->bi prog FX [x,A_ rt,.agg c.av,B_ common]=some (.tup [.nl,A_ e]):=by
  intro e he hC;simp only[c7.av]at hC⊢;rw[aH ac2 acK rfl];rcases hx with rfl|⟨rfl,rfl⟩
  all_goals simp(maxSteps:=300000) (disch:=omega)[↓ac,↓aa,hC,he]
 rcases Ok rt c hc with ⟨hr,h,hC⟩|⟨hr,h,hC⟩|⟨hr,hC⟩
 .refine .inl ⟨hr,h,?_⟩;obtain⟨R,rfl⟩:=az hr.1;simp only[au]at h⊢;have hR:R<=11:=o_;have hm11:=gQ hR h.info;have hmx:=je hm11;obtain⟨g1,g2⟩:=dO hm11;have hmm:c.info.many<=8:=by unfold aO.many;split<;>omega
  have hgl:c.info.groups.length<=8:=by have:=lG (λn hn=>(g1 n hn).1);omega
  have hgs:c.sects.length<=8:=by have:=h.sects.1;omega
  have k1:=J3 (i:=c.info);have k2:=ac5 hm11 h.sects;have k3:=SJ hmx h.sects.2 h.steps;have k4:(js c.info.short c.tns).length<=1000*c.tns.length:=Ia λl hl=>abR (h.tns.2 l hl)
  have k5:=ZF hc h hR;have htl:=h.tns.1;have hx8:(8:Int).toNat=8:=rfl;have p1:=lm b c.gain 8 o_ (by have:=h.gain;omega) x hx;rw[ac (by have:=h.gain;simp only[nq,hx8];omega),hx8]at p1;obtain⟨B1,hB1⟩:∃B1,B1=b++aq c.gain.toNat 8:=⟨_,rfl⟩
  have l1:B1.length=b.length+8:=by rw[hB1];simp
  rw[<-hB1]at p1;have p2:=agB B1 o_ _ (.inl rfl) R c.info hc.info;rw[ac hr,au,ac h.info]at p2;obtain⟨B2,hB2⟩:∃B2,B2=B1++(if common then [] else kb c.info):=⟨_,rfl⟩
  have l2:B2.length<=b.length+28:=by rw[hB2,al];split<;>(try simp only[bf])<;>omega
  have p3:=atD B2 o_ _ (.inl rfl) c.info hc.info hm11 c.sects hc.sects h.sects;obtain⟨B3,hB3⟩:∃B3,B3=B2++TW c.info c.sects:=⟨_,rfl⟩
  have l3:B3.length<=b.length+5000000:=by rw[hB3,al];omega
  rw[<-hB3]at p3;have p4:=ao3 B3 o_ _ (.inl rfl) c.gain c.info.max c.sects c.steps h.gain hgs hmx h.sects.2 hc.sects.2 h.steps λl hl=>by have:=hc.steps.2 l hl;omega
  obtain⟨B4,hB4⟩:∃B4,B4=B3++pT c.sects c.steps c.gain (-1):=⟨_,rfl⟩
  have l4:B4.length<=b.length+6000000:=by rw[hB4,al];omega
  rw[<-hB4]at p4;have p5:=Ss c.tns o_ λl hl=>by have:=(hc.tns.2 l hl).1;omega
  have p6:=akG (B4++[0,1]) g_ _ (.inl rfl) c.info hc.info hm11 c.tns h.tns λl hl f hf=>(hc.fltI l hl f hf).2
  obtain⟨B5,hB5⟩:∃B5,B5=B4++(if vu c.tns then 0::1::(js c.info.short c.tns++[0]) else [0,0,0]):=⟨_,rfl⟩
  have l5:B5.length<=b.length+7000000:=by rw[hB5,al];split<;>simp<;>omega
  have hfin:b++Jk R c common=B5++nU R c:=by rw[hB5,hB4,hB3,hB2,hB1];simp only[Jk,ax]
  obtain⟨C2,M,p7⟩:=atx R hR c hc h (.d (.lst (ai B5))) rfl o_;have p8:=Po R hR c.info (.lst (bz c.sects)) [(0,.cells c.av),(1,.cells uS),(2,.cells [.ptr 1 0]),(3,.cells [.nl])] 4 (λp hp=>by
   simp only[aC,cW,fk]at hp;rcases hp with rfl|rfl|rfl|rfl<;>simp only[]<;>omega)
  rw[hfin];have hbl:(ai (nU R c)).length=(nU R c).length:=bw;have hb5:(ai B5).length=B5.length:=bw;have hb4:(ai B4).length=B4.length:=bw;have hb01:ai B4++[[D.int .u8 0],[D.int .u8 1]]=ai (B4++[0,1]):=by simp[ai]
  have hb000:ai B4++[[D.int .u8 0],[D.int .u8 0],[D.int .u8 0]]=ai (B4++[0,0,0]):=by simp[ai]
  have hb6:ai (B4++[0,1]++js c.info.short c.tns)++[[D.int .u8 0]]=ai (B4++[0,1]++js c.info.short c.tns++[0]):=by simp[ai]
  have hl6n:(B4++[0,1]++js c.info.short c.tns).length<=400000000:=by simp;omega
  have hl6:(ai (B4++[0,1]++js c.info.short c.tns)).length<=400000000:=by rw[bw];simp;omega
  simp only[FQ,c7.av,aO.cells,aR,aK]at hC p2 p3 p4 p6 p7 p8⊢;rw[aH ac2 acK rfl]
  cases hcm:common with
  |true =>
   rw[hcm]at hB2;simp only[bn,bh]at hB2;subst hB2
   cases haf:vu c.tns with
   |true =>
    rw[haf]at hB5 p5;simp only[bn]at hB5;have e5:B4++[0,1]++js c.info.short c.tns++[0]=B5:=by rw[hB5];simp
    rw[e5]at hb6;generalize nU R c=LL at *;generalize B4++[0,1]++js c.info.short c.tns=B6 at *;generalize B4++[0,1]=B7 at *;rcases hx with rfl|⟨rfl,rfl⟩
    .simp(config := { maxSteps:=1000000 }) (disch:=omega)[↓ac,↓aa,rd,hC,p1,p3,p4,p5,p6,hb01,hb6,hb000,p8,p7]
     try omega
    .simp(config := { maxSteps:=1000000 }) (disch:=omega)[↓ac,↓aa,rd,hC,p1,p3,p4,p5,p6,hb01,hb6,hb000,p8,p7]
     try omega
   |false =>
    rw[haf]at hB5 p5;simp only[ao,bl]at hB5;rw[<-hB5]at hb000;generalize nU R c=LL at *;generalize B4++[0,1]++js c.info.short c.tns=B6 at *;generalize B4++[0,1]=B7 at *;rcases hx with rfl|⟨rfl,rfl⟩
    .simp(config := { maxSteps:=1000000 }) (disch:=omega)[↓ac,↓aa,rd,hC,p1,p3,p4,p5,p6,hb01,hb6,hb000,p8,p7]
     try omega
    .simp(config := { maxSteps:=1000000 }) (disch:=omega)[↓ac,↓aa,rd,hC,p1,p3,p4,p5,p6,hb01,hb6,hb000,p8,p7]
     try omega
  |false =>
   rw[hcm]at hB2;simp only[ao,bl]at hB2;rw[<-hB2]at p2
   cases haf:vu c.tns with
   |true =>
    rw[haf]at hB5 p5;simp only[bn]at hB5;have e5:B4++[0,1]++js c.info.short c.tns++[0]=B5:=by rw[hB5];simp
    rw[e5]at hb6;generalize nU R c=LL at *;generalize B4++[0,1]++js c.info.short c.tns=B6 at *;generalize B4++[0,1]=B7 at *;rcases hx with rfl|⟨rfl,rfl⟩
    .simp(config := { maxSteps:=1000000 }) (disch:=omega)[↓ac,↓aa,rd,hC,p1,p2,p3,p4,p5,p6,hb01,hb6,hb000,p8,p7]
     try omega
    .simp(config := { maxSteps:=1000000 }) (disch:=omega)[↓ac,↓aa,rd,hC,p1,p2,p3,p4,p5,p6,hb01,hb6,hb000,p8,p7]
     try omega
   |false =>
    rw[haf]at hB5 p5;simp only[ao,bl]at hB5;rw[<-hB5]at hb000;generalize nU R c=LL at *;generalize B4++[0,1]++js c.info.short c.tns=B6 at *;generalize B4++[0,1]=B7 at *;rcases hx with rfl|⟨rfl,rfl⟩
    .simp(config := { maxSteps:=1000000 }) (disch:=omega)[↓ac,↓aa,rd,hC,p1,p2,p3,p4,p5,p6,hb01,hb6,hb000,p8,p7]
     try omega
    .simp(config := { maxSteps:=1000000 }) (disch:=omega)[↓ac,↓aa,rd,hC,p1,p2,p3,p4,p5,p6,hb01,hb6,hb000,p8,p7]
     try omega
 .exact .inr ⟨8,o_,hC,λ_=>h,bad 8 o_ hC⟩
 .exact .inr ⟨2,o_,hC,λh=>absurd h hr,bad 2 o_ hC⟩
structure auJ (c:c7):Prop where
 groups:c.info.groups.length<=40
 sects:c.sects.length<=40∧∀l∈c.sects,l.length<=100
 steps:c.steps.length<=40∧∀l∈c.steps,l.length<=200
 tns:c.tns.length<=40∧∀l∈c.tns,l.length<=20∧∀f∈l,f.coefs.length<=100
 lines:c.lines.length<=2000
abbrev so (book:Int):Int:=if book=13 then 511 else 255
def kE (b:C_)(a book was:Int):R Int :=
 if was<0 then (bb b a 9).bind λv n=>.ok (v:Int) n
 else (IL b a).bind λd n=>if was+d<0∨so book<was+d then .er 7 else .ok (was+d) n
abbrev aD7 (b:C_)(book:Int)(v:Int)(n:Nat):Prop:=(0<=v∧v<=511)∧n<=b.length
def aaL {b:C_}{a:Int}{d:Int}{n:Nat}(h:IL b a=.ok d n):pSt b d n:=by
 rw[IL]at h
 cases h1:zC 12 b a with
 |er e=>rw[h1]at h;exact absurd h (by simp)
 |ok e m =>
  rw[h1,aI]at h;obtain⟨k1,k2⟩:=TK o_ h1;have h2:e<121:=k1;injection h with g1 g2
  subst g1 g2;exact⟨o_,k2⟩
def ZJ {b:C_}{a book was:Int}{v:Int}{n:Nat}(h:kE b a book was=.ok v n):aD7 b book v n:=by
 rw[kE]at h;split at h
 .cases h1:bb b a 9 with
  |er e=>rw[h1]at h;exact absurd h (by simp)
  |ok v0 m =>
   rw[h1,aI]at h;have hp:=ed h1;have h2:v0<512:=hp.1;have h3:=hp.2;injection h with g1 g2
   subst g1 g2;exact⟨o_,h3⟩
 .cases h1:IL b a with
  |er e=>rw[h1]at h;exact absurd h (by simp)
  |ok d m =>
   rw[h1,aI]at h;have hp:=aaL h1;split at h
   .exact absurd h (by simp)
   .rename_i hn;injection h with g1 g2
    subst g1 g2;refine⟨?_,hp.2⟩;simp only[so]at hn;split at hn<;>omega
def nY (b:C_):G_->Int->Int->Int->R (G_×Int×Int)
 |[],a,w,z=>.ok ([],w,z) a.toNat
 |k::r,a,w,z=>if k=13 then (kE b a 13 z).bind λv n=>(nY b r n w v).bind λq n=>.ok (v::q.1,q.2) n
  else if 0<k then (kE b a k w).bind λv n=>(nY b r n v z).bind λq n=>.ok (v::q.1,q.2) n
  else (nY b r a w z).bind λq n=>.ok (0::q.1,q.2) n
abbrev inW (w:Int):Prop:=-1<=w∧w<=511
abbrev aEq (b:C_)(r:G_)(q:G_×Int×Int)(n:Nat):Prop:=q.1.length=r.length∧(inW q.2.1∧inW q.2.2)∧n<=b.length
def Sj {b:C_}:∀{r:G_}{a:Nat}{w z:Int}{q:G_×Int×Int}{n:Nat},a<=b.length->inW w->inW z->nY b r a w z=.ok q n->aEq b r q n
 |[],a,w,z,q,n,ha,hw,hz,h=>by
  rw[nY]at h;injection h with g1 g2
  subst g1 g2;exact⟨rfl,⟨hw,hz⟩,by simpa using ha⟩
 |k::r,a,w,z,q,n,ha,hw,hz,h=>by
  rw[nY]at h;split at h
  .cases h1:kE b a 13 z with
   |er e=>rw[h1]at h;exact absurd h (by simp)
   |ok v m =>
    rw[h1,aI]at h;have hp:=ZJ h1
    cases h2:nY b r m w v with
    |er e=>rw[h2]at h;exact absurd h (by simp)
    |ok q1 m1 =>
     rw[h2,aI]at h;have hq:=Sj hp.2 hw ⟨by have:=hp.1.1;omega,hp.1.2⟩ h2;injection h with g1 g2
     subst g1 g2;exact⟨by simp[hq.1],hq.2⟩
  .split at h
   .cases h1:kE b a k w with
    |er e=>rw[h1]at h;exact absurd h (by simp)
    |ok v m =>
     rw[h1,aI]at h;have hp:=ZJ h1
     cases h2:nY b r m v z with
     |er e=>rw[h2]at h;exact absurd h (by simp)
     |ok q1 m1 =>
      rw[h2,aI]at h;have hq:=Sj hp.2 ⟨by have:=hp.1.1;omega,hp.1.2⟩ hz h2;injection h with g1 g2
      subst g1 g2;exact⟨by simp[hq.1],hq.2⟩
   .cases h2:nY b r a w z with
    |er e=>rw[h2]at h;exact absurd h (by simp)
    |ok q1 m1 =>
     rw[h2,aI]at h;have hq:=Sj ha hw hz h2;injection h with g1 g2
     subst g1 g2;exact⟨by simp[hq.1],hq.2⟩
def mV (b:C_):H_->Int->Int->Int->R K_
 |[],a,_,_=>.ok [] a.toNat
 |l::r,a,w,z=>(nY b (aP l) a w z).bind λq n=>(mV b r n q.2.1 q.2.2).bind λt n=>.ok (q.1::t) n
abbrev pSc (b:C_)(g:H_)(t:K_)(n:Nat):Prop:=t.map List.length=g.map (λl=>(aP l).length)∧n<=b.length
def W1 {b:C_}:∀{g:H_}{a:Nat}{w z:Int}{t:K_}{n:Nat},a<=b.length->inW w->inW z->mV b g a w z=.ok t n->pSc b g t n
 |[],a,w,z,t,n,ha,hw,hz,h=>by
  rw[mV]at h;injection h with g1 g2
  subst g1 g2;exact⟨rfl,by simpa using ha⟩
 |l::r,a,w,z,t,n,ha,hw,hz,h=>by
  rw[mV]at h
  cases h1:nY b (aP l) a w z with
  |er e=>rw[h1]at h;exact absurd h (by simp)
  |ok q m =>
   rw[h1,aI]at h;have hp:=Sj ha hw hz h1
   cases h2:mV b r m q.2.1 q.2.2 with
   |er e=>rw[h2]at h;exact absurd h (by simp)
   |ok t1 m1 =>
    rw[h2,aI]at h;have hq:=W1 hp.2.2 hp.2.1.1 hp.2.1.2 h2;injection h with g1 g2
    subst g1 g2;exact⟨by simp only[ct,hq.1,hp.1],hq.2⟩
def atz {t:K_}{l:G_}:cY (t++[l])=cY t++[[.lst (aF l)]]:=by simp[cY]
def anl {l:Q_}(hl:l.length<=1000)(hs:∀s∈l,0<=s.len∧s.len<=1000):(aP l).length<=1000*l.length:=by
 induction l with
 |nil=>simp[aP]
 |cons s r ih =>
  have h1:=hs s (.head _);have h2:=ih (by simp at hl;omega) λq hq=>hs q (.tail _ hq)
  simp only[aP,aE,al,bU,ar]at h2⊢;omega
abbrev afp (l:Q_):Prop:=l.length<=1000∧∀s∈l,0<=s.len∧s.len<=1000
def BH (b:C_)(g:H_)(a gain:Int):R K_:=if 0<=a∧a<=b.length then mV b g a gain (-1) else .er 1
structure SG where
 row:G_
 nx:Nat
 w:Int
 z:Int
def BO {A0 A1 A2 A3:Obj}{R:am}(book n s z:Int)(N:Nat)(hn:-100000<=n∧n<=100000)(hs:-100000<=s∧s<=100000)(hz:-100000<=z∧z<=100000) :
  (Dn prog).call pF [.ptr 4 0,A_ book,A_ n] ⟨(0,A0)::(1,A1)::(2,A2)::(3,A3)::(4,.cells [A_ s,A_ z])::R,N⟩ =
   if lI book n s z then some (B_ true,⟨if book=13 then (0,A0)::(1,A1)::(2,A2)::(3,A3)::(4,.cells [A_ s,A_ n])::R else (0,A0)::(1,A1)::(2,A2)::(3,A3)::(4,.cells [A_ n,A_ z])::R,N⟩) else some (B_ false,⟨(0,A0)::(1,A1)::(2,A2)::(3,A3)::(4,.cells [A_ s,A_ z])::R,N⟩) :=
 PA (hp:=λs z=>(0,A0)::(1,A1)::(2,A2)::(3,A3)::(4,.cells [A_ s,A_ z])::R) (A:=4) ⟨λs z=>by simp,λs z s' z'=>by simp⟩ book n s z N hn hs hz
section
variable (b:C_)(full:H_)(ss:K_)(l:Q_)(i N:Nat)
abbrev afA:aV:=[(4,.ptr 0 0),(8,.ptr 1 0),(9,.ptr 2 0),(10,.ptr 3 0),(11,.ptr 5 0),(14,.ptr N 0),(35,.d (.lst (bz full))),(36,A_ full.length),(37,A_ i),(42,.fn jb [] [.ptr (N+1) 0])]
abbrev FG (q:Bool)(p:BG_)(x1 x2 x3:AV)(row:G_)(w z:Int)(T:am):am :=
 (0,.cells [.d (.lst (ai b))])::(1,.cells [x1])::(2,.cells [x2])::(3,.cells [x3])::(4,.cells [A_ w,A_ z])::(5,.cells [.ptr 4 0])::(N,.cells [aD 1 (aF row)])::(N+1,.cells [.d (.lst (gK l))])::(N+1+1,.loop (afA full i N) [43,44] xK xH q p)::T
abbrev hpG (s:SG)(T:am):am:=FG b full l i N false none (aD 1 (cY ss)) (A_ s.nx) (A_ 0) s.row s.w s.z T
abbrev hqG (s:Nat×SG)(T:am):am:=FG b full l i N false (some .ret) .nl (A_ 0) (A_ ((s.1:Int)+1)) s.2.row s.2.w s.2.z T
end
def N9 (b:C_)(k:Int)(s:SG):Sum SG (Nat×SG) :=
 if k=13 then (match kE b s.nx 13 s.z with
  |.ok v n=>.inl ⟨s.row++[v],n,s.w,v⟩
  |.er e=>.inr (e,s))
 else if 0<k then (match kE b s.nx k s.w with
  |.ok v n=>.inl ⟨s.row++[v],n,v,s.z⟩
  |.er e=>.inr (e,s))
 else .inl ⟨s.row++[0],s.nx,s.w,s.z⟩
def anU (b:C_)(a:Nat)(s:SG):Prop:=s.nx<=b.length∧(0<=s.w∧s.w<=511)∧inW s.z∧s.row.length=a∧a<=1000000
def aBo (b:C_)(hb:b.length<=1000000000)(full:H_)(ss:K_)(l:Q_)(i N:Nat)(hN:6<=N)(a:Nat)(k:Int)(hk:0<=k∧k<=13)(s:SG)(hs:anU b a s)(K M:Nat)(o:Obj)(hK:N+1+1+1<=K) :
  cq (Dn prog) (.yield (N+1+1)) [A_ (a:Int),A_ k] ⟨hpG b full ss l i N s [(K,o)],M⟩ =
  match N9 b k s with
  |.inl s2=>some (B_ true,⟨hpG b full ss l i N s2 [(K,o)],M⟩)
  |.inr z=>some (B_ false,⟨hqG b full l i N z [(K,o)],M⟩):=by
 obtain⟨h1,h2,h3,h4,h5⟩:=hs;obtain⟨n0,n1,n2,n3,n4⟩:(N≠0∧N≠1∧N≠2∧N≠3∧N≠4∧N≠5)∧(N+1≠0∧N+1≠1∧N+1≠2∧N+1≠3∧N+1≠4∧N+1≠5)∧(N+1+1≠0∧N+1+1≠1∧N+1+1≠2∧N+1+1≠3∧N+1+1≠4∧N+1+1≠5)∧N+1+1≠N∧N+1+1≠N+1:=o_;have hrl:=iA (l:=s.row);have eo:∀v,AV.own false 1 (aF (s.row++[v]))=aD 1 (aF (s.row++[v])):=λv=>by rw[Yh];exact nL.symm
 have hS:=afG b s.nx hb o_;have hG:=gL b s.nx 9 hb o_;have hz0:=h3.1;have hz1:=h3.2;rw[N9];by_cases e1:k=13
 .subst e1;rw[ac rfl];by_cases hz:s.z<0
  .cases hg:bb b s.nx 9 with
   |ok v n =>
    have hp:=ed hg;have hv:v<512:=hp.1;have hn:=hp.2;rw[hg,eI hp]at hG;have ho:kE b s.nx 13 s.z=.ok (v:Int) n:=by rw[kE,ac hz,hg,aI]
    have hT:lI 13 v s.w s.z:=by rw[lI,ac rfl];omega
    rw[ho];simp(maxSteps:=300000) (disch:=omega)[iI,iQ,↓ac,↓aa,n0,n1,n2,n3,n4,BO,hG,ac hT];exact eo _
   |er e =>
    rw[hg,iP]at hG;have ho:kE b s.nx 13 s.z=.er e:=by rw[kE,ac hz,hg,cB]
    rw[ho];simp(maxSteps:=300000) (disch:=omega)[iI,iQ,↓ac,↓aa,n0,n1,n2,n3,n4,BO,hG]
  .cases hg:IL b s.nx with
   |ok d n =>
    have hp:=aaL hg;have hd:=hp.1;have hn:=hp.2;rw[hg,eI hp]at hS;by_cases hr:s.z+d<0∨so 13<s.z+d
    .have ho:kE b s.nx 13 s.z=.er 7:=by rw[kE,aa hz,hg,aI,ac hr]
     have hT:¬lI 13 (d+s.z) s.w s.z:=by rw[lI,ac rfl];simp only[so,ac]at hr;omega
     rw[ho];simp(maxSteps:=300000) (disch:=omega)[iI,iQ,↓ac,↓aa,n0,n1,n2,n3,n4,BO,hS,aa hT]
    .have ho:kE b s.nx 13 s.z=.ok (s.z+d) n:=by rw[kE,aa hz,hg,aI,aa hr]
     have hT:lI 13 (d+s.z) s.w s.z:=by rw[lI,ac rfl];simp only[so,ac]at hr;omega
     rw[ho,Int.add_comm];simp(maxSteps:=300000) (disch:=omega)[iI,iQ,↓ac,↓aa,n0,n1,n2,n3,n4,BO,hS,ac hT];exact eo _
   |er e =>
    rw[hg,iP]at hS;have ho:kE b s.nx 13 s.z=.er e:=by rw[kE,aa hz,hg,cB]
    rw[ho];simp(maxSteps:=300000) (disch:=omega)[iI,iQ,↓ac,↓aa,n0,n1,n2,n3,n4,BO,hS]
 .rw[aa e1];by_cases e2:0<k
  .rw[ac e2];have hw:¬s.w<0:=o_
   cases hg:IL b s.nx with
   |ok d n =>
    have hp:=aaL hg;have hd:=hp.1;have hn:=hp.2;rw[hg,eI hp]at hS;by_cases hr:s.w+d<0∨so k<s.w+d
    .have ho:kE b s.nx k s.w=.er 7:=by rw[kE,aa hw,hg,aI,ac hr]
     have hT:¬lI k (d+s.w) s.w s.z:=by rw[lI,aa e1];simp only[so,aa e1]at hr;omega
     rw[ho];simp(maxSteps:=300000) (disch:=omega)[iI,iQ,↓ac,↓aa,n0,n1,n2,n3,n4,BO,hS,aa hT,e1]
    .have ho:kE b s.nx k s.w=.ok (s.w+d) n:=by rw[kE,aa hw,hg,aI,aa hr]
     have hT:lI k (d+s.w) s.w s.z:=by rw[lI,aa e1];simp only[so,aa e1]at hr;omega
     rw[ho,Int.add_comm];simp(maxSteps:=300000) (disch:=omega)[iI,iQ,↓ac,↓aa,n0,n1,n2,n3,n4,BO,hS,ac hT,e1];exact eo _
   |er e =>
    rw[hg,iP]at hS;have ho:kE b s.nx k s.w=.er e:=by rw[kE,aa hw,hg,cB]
    rw[ho];simp(maxSteps:=300000) (disch:=omega)[iI,iQ,↓ac,↓aa,n0,n1,n2,n3,n4,BO,hS,e1]
  .rw[aa e2];have:k=0:=o_;subst this;simp(maxSteps:=300000) (disch:=omega)[iI,iQ,↓ac,↓aa,n0,n1,n2,n3,n4,BO,e1];exact eo _
def axJ {b:C_}{a:Nat}{k:Int}{s s2:SG}(hs:anU b a s)(ha:a<1000000)(h:N9 b k s=.inl s2):anU b (a+1) s2:=by
 obtain⟨h1,h2,h3,h4,h5⟩:=hs;have h3':=h3;rw[N9]at h;split at h
 .split at h
  .rename_i v n ho;have hp:=ZJ ho;obtain⟨⟨hv1,hv2⟩,hn⟩:=hp;injection h with h;subst h
   exact⟨hn,h2,⟨by simp only[];omega,hv2⟩,by simp[h4],o_⟩
  .exact nomatch h
 .split at h
  .split at h
   .rename_i v n ho;have hp:=ZJ ho;obtain⟨⟨hv1,hv2⟩,hn⟩:=hp;injection h with h;subst h
    exact⟨hn,⟨hv1,hv2⟩,h3,by simp[h4],o_⟩
   .exact nomatch h
  .injection h with h;subst h
   exact⟨h1,h2,h3,by simp[h4],o_⟩
def T2 {b:C_}:∀{r:G_}{a:Nat}{s:SG},(∀q n,nY b r s.nx s.w s.z=.ok q n->u6 (λ_ k s=>N9 b k s) r a s=.inl ⟨s.row++q.1,n,q.2.1,q.2.2⟩)∧(∀e,nY b r s.nx s.w s.z=.er e->∃z,u6 (λ_ k s=>N9 b k s) r a s=.inr (e,z))
 |[],a,s=>⟨λq n h=>by
   rw[nY]at h;injection h with g1 g2
   subst g1 g2;rw[u6];simp,λe h=>by rw[nY]at h;exact absurd h s_⟩
 |k::r,a,s=>by
  rw[nY,u6,N9];by_cases e1:k=13
  .rw[ac e1,ac e1]
   cases ho:kE b s.nx 13 s.z with
   |er e=>exact⟨λq n h=>by rw[cB]at h;exact absurd h s_,λe' h=>by rw[cB]at h;injection h with h;subst h;exact⟨s,rfl⟩⟩
   |ok v n =>
    simp only[aI];have ih:=T2 (b:=b) (r:=r) (a:=a+1) (s:=⟨s.row++[v],n,s.w,v⟩)
    cases hr:nY b r n s.w v with
    |er e=>exact⟨λq n h=>by rw[cB]at h;exact absurd h s_,λe' h=>by rw[cB]at h;injection h with h;subst h;exact ih.2 e hr⟩
    |ok q m =>
     refine⟨λq' n' h=>?_,λe h=>by rw[aI]at h;exact absurd h s_⟩;rw[aI]at h;injection h with g1 g2
     subst g1 g2;rw[ih.1 q m hr];simp
  .rw[aa e1,aa e1];by_cases e2:0<k
   .rw[ac e2,ac e2]
    cases ho:kE b s.nx k s.w with
    |er e=>exact⟨λq n h=>by rw[cB]at h;exact absurd h s_,λe' h=>by rw[cB]at h;injection h with h;subst h;exact⟨s,rfl⟩⟩
    |ok v n =>
     simp only[aI];have ih:=T2 (b:=b) (r:=r) (a:=a+1) (s:=⟨s.row++[v],n,v,s.z⟩)
     cases hr:nY b r n v s.z with
     |er e=>exact⟨λq n h=>by rw[cB]at h;exact absurd h s_,λe' h=>by rw[cB]at h;injection h with h;subst h;exact ih.2 e hr⟩
     |ok q m =>
      refine⟨λq' n' h=>?_,λe h=>by rw[aI]at h;exact absurd h s_⟩;rw[aI]at h;injection h with g1 g2
      subst g1 g2;rw[ih.1 q m hr];simp
   .rw[aa e2,aa e2];have ih:=T2 (b:=b) (r:=r) (a:=a+1) (s:=⟨s.row++[0],s.nx,s.w,s.z⟩)
    cases hr:nY b r s.nx s.w s.z with
    |er e=>exact⟨λq n h=>by rw[cB]at h;exact absurd h s_,λe' h=>by rw[cB]at h;injection h with h;subst h;exact ih.2 e hr⟩
    |ok q m =>
     refine⟨λq' n' h=>?_,λe h=>by rw[aI]at h;exact absurd h s_⟩;rw[aI]at h;injection h with g1 g2
     subst g1 g2;simp only;rw[ih.1 q m hr];simp
def aAn (b:C_)(hb:b.length<=1000000000)(full:H_)(ss:K_)(l:Q_)(i N:Nat)(hN:6<=N)(hk:∀k∈aP l,0<=k∧k<=13)(hl:(aP l).length<=1000000) :
  Rnd (hpG b full ss l i N) (hqG b full l i N) (N+1+1+1) (N+1+1) (aP l) (λ_ k s=>N9 b k s) (anU b):=by
 intro a k s K o M hak hi hK hKM;have hal:a<(aP l).length:=(aN.1 hak).1;have h:=aBo b hb full ss l i N hN a k (hk k (di hak)) s hi K M o hK
 cases hg:N9 b k s with
 |inl s2 =>
  rw[hg]at h;exact .inl ⟨s2,hg,axJ hi o_ hg,h⟩
 |inr z =>
  rw[hg]at h;exact .inr ⟨z,hg,h⟩
def aBk {b:C_}{full:H_}{ss:K_}{l:Q_}{i N:Nat}(hN:6<=N):Tl (hpG b full ss l i N) (N+1+1+1):=by
 obtain⟨n0,n1,n2,n3,n4⟩:(N≠0∧N≠1∧N≠2∧N≠3∧N≠4∧N≠5)∧(N+1≠0∧N+1≠1∧N+1≠2∧N+1≠3∧N+1≠4∧N+1≠5)∧(N+1+1≠0∧N+1+1≠1∧N+1+1≠2∧N+1+1≠3∧N+1+1≠4∧N+1+1≠5)∧N+1+1≠N∧N+1+1≠N+1:=o_;constructor
 .intro s K o h;simp(maxSteps:=300000) (disch:=omega)[↓aa]
 .intro s K o o' h;simp(maxSteps:=300000) (disch:=omega)[↓aa]
 .intro s K o h;simp(maxSteps:=300000) (disch:=omega)[↓aa]
 .intro s K o h;simp(maxSteps:=300000) (disch:=omega)[↓aa]
def aB1 {b:C_}{full:H_}{l:Q_}{i N:Nat}(hN:6<=N):Tl (hqG b full l i N) (N+1+1+1):=by
 obtain⟨n0,n1,n2,n3,n4⟩:(N≠0∧N≠1∧N≠2∧N≠3∧N≠4∧N≠5)∧(N+1≠0∧N+1≠1∧N+1≠2∧N+1≠3∧N+1≠4∧N+1≠5)∧(N+1+1≠0∧N+1+1≠1∧N+1+1≠2∧N+1+1≠3∧N+1+1≠4∧N+1+1≠5)∧N+1+1≠N∧N+1+1≠N+1:=o_;constructor
 .intro s K o h;simp(maxSteps:=300000) (disch:=omega)[↓aa]
 .intro s K o o' h;simp(maxSteps:=300000) (disch:=omega)[↓aa]
 .intro s K o h;simp(maxSteps:=300000) (disch:=omega)[↓aa]
 .intro s K o h;simp(maxSteps:=300000) (disch:=omega)[↓aa]
def R6 (x:D)(A0 A1 A2 A3 A4 A5 A6:Obj)(N:Nat)(hN:6<=N):(Dn prog).call GR [.d x] ⟨[(0,A0),(1,A1),(2,A2),(3,A3),(4,A4),(5,A5),(N,A6)],N+1⟩=some (.fn jb [] [.ptr (N+1) 0],⟨[(0,A0),(1,A1),(2,A2),(3,A3),(4,A4),(5,A5),(N,A6),(N+1,.cells [.d x])],N+1+1⟩):=by
 rw[LM];simp(maxSteps:=300000) (disch:=omega)[↓aa]
def amz (l:Q_):Prop:=∀k∈aP l,0<=k∧k<=13
abbrev hpL (b:C_)(ss:K_)(nx:Nat)(w z:Int):am:=[(0,.cells [.d (.lst (ai b))]),(1,.cells [aD 1 (cY ss)]),(2,.cells [A_ nx]),(3,.cells [A_ 0]),(4,.cells [A_ w,A_ z]),(5,.cells [.ptr 4 0])]
def ah9 (b:C_)(hb:b.length<=1000000000)(full:H_)(hfl:full.length<=1000):∀(g:H_) (i N:Nat) (ss:K_) (nx:Nat) (w z:Int),full.drop i=g->(∀l∈g,afp l∧amz l)->nx<=b.length->(0<=w∧w<=511)->inW z->ss.length<=i->6<=N->
  (∀t n,mV b g nx w z=.ok t n->∃M A4,(Dn prog).code (.loop kZ) ⟨[(4,.ptr 0 0),(8,.ptr 1 0),(9,.ptr 2 0),(10,.ptr 3 0),(11,.ptr 5 0),(35,.d (.lst (bz full))),(36,A_ full.length),(37,A_ i)],⟨hpL b ss nx w z,N⟩⟩ =
   some (.exit 0,⟨[(8,.ptr 1 0),(9,.ptr 2 0),(10,.ptr 3 0)],⟨[(1,.cells [aD 1 (cY (ss++t))]),(2,.cells [A_ n]),(3,.cells [A_ 0]),(4,A4)],M⟩⟩))∧
  (∀e,mV b g nx w z=.er e->∃M I K T,(Dn prog).code (.loop kZ) ⟨[(4,.ptr 0 0),(8,.ptr 1 0),(9,.ptr 2 0),(10,.ptr 3 0),(11,.ptr 5 0),(35,.d (.lst (bz full))),(36,A_ full.length),(37,A_ i)],⟨hpL b ss nx w z,N⟩⟩ =
   some (.ret,⟨afA full I K,⟨(0,.cells [.d (.lst (ai b))])::(1,.cells [.nl])::(2,.cells [A_ 0])::(3,.cells [A_ ((e:Int)+1)])::T,M⟩⟩)):=by
 intro g
 induction g with
 |nil =>
  intro i N ss nx w z hd hok hnx hw hz hss hN;have hk:=bg hd;refine⟨λt n h=>?_,λe h=>by rw[mV]at h;exact absurd h s_⟩;rw[mV]at h;injection h with g1 g2
  subst g1 g2;refine⟨N,.cells [A_ w,A_ z],?_⟩;rw[ah Ei];simp(maxSteps:=300000) (disch:=omega)[↓ac,↓aa]
 |cons l r ih =>
  intro i N ss nx w z hd hok hnx hw hz hss hN;have hlt:=bE hd;have hg:=lX hd;obtain⟨hl,hbk⟩:=hok l (.head _);have hbl:=anl hl.1 hl.2;have hsl:=ao4 (t:=ss);obtain⟨n0,n1,n2,n3,n4⟩:(N≠0∧N≠1∧N≠2∧N≠3∧N≠4∧N≠5)∧(N+1≠0∧N+1≠1∧N+1≠2∧N+1≠3∧N+1≠4∧N+1≠5)∧(N+1+1≠0∧N+1+1≠1∧N+1+1≠2∧N+1+1≠3∧N+1+1≠4∧N+1+1≠5)∧N+1+1≠N∧N+1+1≠N+1:=o_;have hB:=acj (p:=N+1) (aBk (b:=b) (full:=full) (ss:=ss) (l:=l) (i:=i) hN) (aB1 (b:=b) (full:=full) (l:=l) (i:=i) hN) l (aAn b hb full ss l i N hN hbk o_) (λs=>by simp(maxSteps:=300000) (disch:=omega)[↓aa,↓ac]) o_ hl.2 (N+1+1+1) ⟨[],nx,w,z⟩ (ak _) ⟨hnx,hw,hz,rfl,o_⟩;have hrow:=T2 (b:=b) (r:=aP l) (a:=0) (s:=⟨[],nx,w,z⟩);have n00:aF []=[]:=rfl;have c1:((i+1:Nat):Int)=(i:Int)+1:=rfl;rw[mV]
  cases hr:nY b (aP l) nx w z with
  |er e =>
   obtain⟨zz,hz2⟩:=hrow.2 e hr;rw[hz2]at hB;refine⟨λt n h=>by rw[cB]at h;exact absurd h s_,λe' h=>?_⟩;rw[cB]at h;injection h with h;subst h;rcases hB with ⟨s2,M,e1,_⟩|⟨q,M,e1,e2,e3⟩
   .exact nomatch e1
   .injection e1 with e1
    subst e1;simp only[hpG,hqG,FG,n00,qp,afA]at e3;refine⟨M,i,N,[(4,.cells [A_ zz.w,A_ zz.z]),(5,.cells [.ptr 4 0]),(N,.cells [aD 1 (aF zz.row)]),(N+1,.cells [.d (.lst (gK l))])],?_⟩;rw[ah Ei];simp(maxSteps:=300000) (disch:=omega)[↓ac,↓aa,hg,n0,n1,n2,n3,n4,R6,rd,e3]
  |ok q m =>
   have hp:=Sj hnx ⟨o_,o_⟩ hz hr;obtain⟨p1,⟨p2,p3⟩,p4⟩:=hp;have hz2:=hrow.1 q m hr;rw[hz2]at hB;rcases hB with ⟨s2,M,e1,ei,e2,e3⟩|⟨q,M,e1,_⟩
   rotate_left
   .exact nomatch e1
   injection e1 with e1
   subst e1;obtain⟨_,hw2,hz3,_⟩:=ei;simp only[aK]at e3 hw2 hz3;have h5:=ih (i+1) M (ss++[q.1]) m q.2.1 q.2.2 (bt hd) (λx hx=>hok x (.tail _ hx)) p4 hw2 hz3 g_ o_;rw[c1]at h5;simp only[aI];have step:(Dn prog).code (.loop kZ) ⟨[(4,.ptr 0 0),(8,.ptr 1 0),(9,.ptr 2 0),(10,.ptr 3 0),(11,.ptr 5 0),(35,.d (.lst (bz full))),(36,A_ full.length),(37,A_ i)],⟨hpL b ss nx w z,N⟩⟩ =
     (Dn prog).code (.loop kZ) ⟨[(4,.ptr 0 0),(8,.ptr 1 0),(9,.ptr 2 0),(10,.ptr 3 0),(11,.ptr 5 0),(35,.d (.lst (bz full))),(36,A_ full.length),(37,A_ ((i:Int)+1))],⟨hpL b (ss++[q.1]) m q.2.1 q.2.2,M⟩⟩:=by
    simp only[hpG,hqG,FG,n00,qp,afA]at e3;simp only[hpL,atz,nL];rw[ah Ei];simp(maxSteps:=300000) (disch:=omega)[↓ac,↓aa,hg,n0,n1,n2,n3,n4,R6,rd,e3]
   rw[step]
   cases hs:mV b r m q.2.1 q.2.2 with
   |er e =>
    refine⟨λt n h=>by rw[cB]at h;exact absurd h s_,λe' h=>?_⟩;rw[cB]at h;injection h with h
    subst h;exact h5.2 e hs
   |ok t0 m0 =>
    refine⟨λt n h=>?_,λe h=>by rw[aI]at h;exact absurd h s_⟩;rw[aI]at h;injection h with g1 g2
    subst g1 g2;obtain⟨M2,A4,f⟩:=h5.1 t0 m0 hs;refine⟨M2,A4,?_⟩;rw[f,ax];rfl
def Ez {m:Nat}{xs:E_}:share (share (aD m xs))=share (aD m xs):=by cases xs<;>rfl
def alo {m:Nat}{xs:E_}:firm (share (aD m xs))=share (aD m xs):=by cases xs<;>rfl
def agc {m:Nat}{xs:E_}:AV.cells (share (aD m xs))=[share (aD m xs)]:=by cases xs<;>rfl
def H8 {m:Nat}{xs:E_}:bq (share (aD m xs))=true:=by cases xs<;>rfl
def atN {h:am}{m:Nat}{xs:E_}{a b:Int}:gS h (.tup [share (aD m xs),A_ a,A_ b])=some (.tup [share (aD m xs),A_ a,A_ b]):=by cases xs<;>rfl
def aqq (b:C_)(hb:b.length<=1000000000)(a gain m:Int)(ha:i64 a)(hg:0<=gain∧gain<=255)(g:H_)(hl:g.length<=8)(hm:0<=m∧m<=40)(hf:fy m g)(hf2:∀l∈g,l.length<=1000)(hok:∀l∈g,afp l∧amz l):bi prog Vb [.d (.lst (ai b)),A_ a,A_ gain,.d (.lst (bz g))] =
  rK (pSc b g) (BH b g a gain) (λt n=>some (.tup [share (aD 1 (cY t)),A_ n,A_ 0])) (λe=>some (.tup [.nl,A_ 0,A_ (e+1)])):=by
 have hmay:=adw gain m g hg hl hm λl h=>⟨hf l h,hf2 l h⟩
 have hG:=gL b a 0 hb ha;have e0:∀a,bb b a 0=if 0<=a∧a<=b.length then .ok 0 a.toNat else .er 1:=by
  intro a;by_cases h:0<=a∧a<=b.length
  .rw[ac h,bb];simp[h,bin,val]
  .rw[aa h,bb];simp[h]
 rw[aH ajj akP rfl,BH];by_cases h1:0<=a∧a<=b.length
 .obtain⟨A,rfl⟩:=az h1.1;rw[ac h1];rw[e0,ac h1,eI ⟨k_,o_⟩]at hG;have hL:=ah9 b hb g o_ g 0 6 [] A gain (-1) rfl hok o_ ⟨hg.1,o_⟩ ⟨o_,o_⟩ (ak _) (ak _);have c0:((0:Nat):Int)=0:=rfl;have n0:cY []=[]:=rfl;simp only[c0,n0,qp,hpL,aK]at hL;simp only[au]at hG
  cases hs:mV b g A gain (-1) with
  |ok t n =>
   have hp:=W1 o_ ⟨o_,o_⟩ ⟨o_,o_⟩ hs;obtain⟨M,A4,f⟩:=hL.1 t n hs;rw[eI hp];simp(maxSteps:=300000) (disch:=omega)[↓ac,↓aa,hmay,hG,f,-Zg,atN,-bq,alo,agc,H8,Ez]
  |er e =>
   obtain⟨M,I,K,T,f⟩:=hL.2 e hs;rw[iP];simp(maxSteps:=300000) (disch:=omega)[↓ac,↓aa,hmay,hG,f]
 .rw[aa h1,iP];rw[e0,aa h1,iP]at hG;simp(maxSteps:=300000) (disch:=omega)[↓ac,↓aa,hmay,hG]
abbrev HT (b:C_)(st:RS)(R:am):am:=(0,.cells [.d (.lst (ai b))])::(2,.cells [A_ (ra st)])::(3,.cells [A_ (re st)])::R
def EX (b:C_)(s:Int)(st:RS)(R:am)(N:Nat)(hb:b.length<=1000000000)(ha:st.fit):(Dn prog).call BI [A_ s,.ptr 3 0,.ptr 0 0,.ptr 2 0] ⟨HT b st R,N⟩ =
  some (A_ (sV b st s),⟨HT b (sN b st s) R,N⟩):=by
 rw[aZ aay aax rfl];obtain⟨a,e⟩:=st;have hf:i64 a:=ha;by_cases he:e=0
 .subst he;simp(maxSteps:=300000) (disch:=omega)[Ke,ra,re,sV,sN]
 .simp(maxSteps:=300000) (disch:=omega)[ra,re,sV,sN,he]
def Ra (v sz:Nat):Int:=(v:Int)-((v / 2 ^ (sz-1)*2 ^ sz:Nat):Int)
def yu (b:C_)(sz:Nat):Nat->RS->G_
 |0,_=>[]
 |k+1,st=>Ra (sV b st sz) sz::yu b sz k (sN b st sz)
def wl (b:C_)(sz:Nat):Nat->RS->RS
 |0,st=>st
 |k+1,st=>wl b sz k (sN b st sz)
def abB {b:C_}{sz:Nat}(hb:b.length<=1000000000):∀{k:Nat}{st:RS},st.fit->(wl b sz k st).fit
 |0,_,h=>h
 |_+1,_,h=>by rw[wl];exact abB hb (fV hb h)
def acF {b:C_}{sz:Nat}:∀{k:Nat}{st:RS},(yu b sz k st).length=k
 |0,_=>rfl
 |k+1,st=>by rw[yu,ar,acF]
def aES {q s:Nat}(hq:q<=1)(hs:s<=4):eW .shl (A_ (q:Int)) (A_ (s:Int))=some (.int .i64 ((q*2 ^ s:Nat):Int)):=by
 have h:∀q:Nat,q<=1->∀s:Nat,s<=4->eW .shl (A_ (q:Int)) (A_ (s:Int))=some (.int .i64 ((q*2 ^ s:Nat):Int)):=by
  intro q hq s hs;obtain rfl|rfl:q=0∨q=1:=o_
  all_goals
   obtain rfl|rfl|rfl|rfl|rfl:s=0∨s=1∨s=2∨s=3∨s=4:=o_
   all_goals rfl
 exact h q hq s hs
abbrev RZ:AV:=.fn BI [] [.ptr 3 0,.ptr 0 0,.ptr 2 0]
def av3 (b:C_)(hb:b.length<=1000000000)(SZ:Obj)(a0 a1 a2 a3 x6 x13:AV)(y12 y15 y32 y33 y46 y47:D)(nar:Int)(sz ord N M:Nat)(hsz:2<=sz∧sz<=4)(ho:ord<=100)(hN:5<=N):∀(k j:Nat) (st:RS) (acc:G_),j+k=ord->acc.length=j->st.fit->
  (Dn prog).code (.loop tp) ⟨[(6,x6),(7,.ptr 2 0),(8,.ptr 3 0),(10,RZ),(11,.ptr 4 0),(12,.d y12),(13,x13),(15,.d y15),(16,.ptr N 0),(17,A_ nar),(18,A_ sz),(32,.d y32),(33,.d y33),(46,.d y46),(47,.d y47),(80,A_ ord),(81,A_ j)],⟨HT b st [(4,SZ),(N,.cells [a0,a1,a2,a3,aD 1 (aF acc)])],M⟩⟩ =
  some (.exit 4,⟨[(6,x6),(7,.ptr 2 0),(8,.ptr 3 0),(10,RZ),(11,.ptr 4 0),(12,.d y12),(13,x13),(15,.d y15),(16,.ptr N 0),(17,A_ nar),(18,A_ sz),(32,.d y32),(33,.d y33),(46,.d y46),(47,.d y47)],⟨HT b (wl b sz k st) [(4,SZ),(N,.cells [a0,a1,a2,a3,aD 1 (aF (acc++yu b sz k st))])],M⟩⟩):=by
 obtain⟨n0,n2,n3,n4⟩:N≠0∧N≠2∧N≠3∧N≠4:=o_;intro k
 induction k with
 |zero =>
  intro j st acc h1 h2 h3;rw[ah Ie,yu,wl,bh];simp(maxSteps:=300000) (disch:=omega)[↓ac,↓aa]
 |succ k ih =>
  intro j st acc h1 h2 h3;have hg:=EX b sz st [(4,SZ),(N,.cells [a0,a1,a2,a3,aD 1 (aF acc)])] M hb h3;have hv:=vP (b:=b) (st:=st) (s:=sz);have h5:=ih (j+1) (sN b st sz) (acc++[Ra (sV b st sz) sz]) o_ g_ (fV hb h3);have c1:((j+1:Nat):Int)=(j:Int)+1:=rfl;have c2:((sz-1:Nat):Int)=(sz:Int)-1:=o_;have hla:=iA (l:=acc);simp only[au]at hv;have hp:2 ^ (sz-1)*2=2 ^ sz:=by rw[<-db];congr 1;omega
  have hp0:=bV (sz-1);have hq:sV b st sz / 2 ^ (sz-1)<=1:=by
   have:sV b st sz / 2 ^ (sz-1)<2:=(Nat.div_lt_iff_lt_mul hp0).2 o_;omega
  have hp4:2 ^ sz<=2 ^ 4:=aw o_ hsz.2;have w1:=an6 (n:=sV b st sz) (k:=sz-1) o_;have w2:=aES hq hsz.2;rw[c2]at w1;have hcf:Ra (sV b st sz) sz=(sV b st sz:Int)-((sV b st sz / 2 ^ (sz-1)*2 ^ sz:Nat):Int):=rfl;have hqq:sV b st sz / 2 ^ (sz-1)*2 ^ sz<=16:=by
   have:=pB hq hp4;omega
  rw[c1,ax,Yh,nL]at h5;simp only[HT]at hg h5⊢;rw[ah Ie,yu,wl,show acc++Ra (sV b st sz) sz::yu b sz k (sN b st sz)=acc++([Ra (sV b st sz) sz]++yu b sz k (sN b st sz)) from rfl,<-h5,hcf];clear h5 ih;generalize sV b st sz / 2 ^ (sz-1)*2 ^ sz=Q2 at *;generalize sV b st sz / 2 ^ (sz-1)=Q at *;simp(maxSteps:=300000) (disch:=omega)[↓ac,↓aa,n0,n2,n3,n4,hg,-kP,-sq,w1,w2]
def Ko (l:G_)(s:Nat):Bool:=decide (∀c∈l,-((2 ^ (s-1):Nat):Int)<=c∧c<((2 ^ (s-1):Nat):Int))
def rQ (b:C_)(x1 x2:Nat)(st:RS):Nat:=sV b (sN b st x1) x2
def yY (b:C_)(x1 x2:Nat)(st:RS):RS:=sN b (sN b st x1) x2
def flD (b:C_)(x1 x2:Nat)(st:RS):Nat:=sV b (yY b x1 x2 st) 1
def Hu (b:C_)(x1 x2:Nat)(st:RS):Nat:=sV b (sN b (yY b x1 x2 st) 1) 1
def Qt (b:C_)(x1 x2:Nat)(st:RS):RS:=sN b (sN b (yY b x1 x2 st) 1) 1
def Jj (b:C_)(x1 x2:Nat)(fine:Bool)(st:RS):Nat:=fF fine-Hu b x1 x2 st
def Ns (b:C_)(x1 x2:Nat)(fine:Bool)(st:RS):cf :=
 if rQ b x1 x2 st=0 then ⟨sV b st x1,0,false,fine,[]⟩
 else ⟨sV b st x1,rQ b x1 x2 st,decide (flD b x1 x2 st=1),fine,yu b (Jj b x1 x2 fine st) (rQ b x1 x2 st) (Qt b x1 x2 st)⟩
def Kk (b:C_)(x1 x2:Nat)(fine:Bool)(st:RS):Bool :=
 if rQ b x1 x2 st=0 then false else decide (Hu b x1 x2 st=0) && Ko (yu b (Jj b x1 x2 fine st) (rQ b x1 x2 st) (Qt b x1 x2 st)) (Jj b x1 x2 fine st-1)
def yw (b:C_)(x1 x2:Nat)(fine:Bool)(st:RS):RS :=
 if rQ b x1 x2 st=0 then yY b x1 x2 st else wl b (Jj b x1 x2 fine st) (rQ b x1 x2 st) (Qt b x1 x2 st)
def ji (b:C_)(x1 x2:Nat)(fine:Bool):Nat->Bool->RS->Option (AA_×Bool×RS)
 |0,o,st=>some ([],o,st)
 |k+1,o,st=>if 12<rQ b x1 x2 st∧(yY b x1 x2 st).e=0 then none
  else match ji b x1 x2 fine k (o ||Kk b x1 x2 fine st) (yw b x1 x2 fine st) with
   |none=>none
   |some q=>some (Ns b x1 x2 fine st::q.1,q.2)
def awU {b:C_}{x1 x2:Nat}{fine:Bool}{st:RS}(hb:b.length<=1000000000)(h:st.fit):(yw b x1 x2 fine st).fit:=by
 unfold yw;split
 .exact fV hb (fV hb h)
 .exact abB hb (fV hb (fV hb (fV hb (fV hb h))))
def az5 {b:C_}{st:RS}{s:Int}(h:sV b st s≠0):(sN b st s).e=0:=by
 unfold sV at h
 grind [sN,vO,eO]
abbrev VZ (y0 y3 y4:AV)(x1 x2:Nat):Obj:=.cells [y0,A_ x1,A_ x2,y3,y4]
def adC {t:AA_}{f:cf}:eq (t++[f])=eq t++[[.int .i64 f.len,.int .i64 f.order,.bool f.down,.bool f.fine,.lst (aF f.coefs)]]:=by grind [eq]
def axv (b:C_)(hb:b.length<=1000000000)(y0 y3 y4:AV)(x1 x2:Nat)(hx:x1<=6∧x2<=5)(x6:AV)(fine:Bool)(y32 y33:D)(many:Nat)(hm:many<=3):∀(k j N:Nat) (o:Bool) (st:RS) (acc:AA_),j+k=many->acc.length=j->st.fit->5<=N->
  ∃M,N<=M∧(Dn prog).code (.loop iw) ⟨[(6,x6),(7,.ptr 2 0),(8,.ptr 3 0),(10,RZ),(11,.ptr 4 0),(12,B_ o),(13,aD 5 (eq acc)),(15,B_ fine),(32,.d y32),(33,.d y33),(46,A_ many),(47,A_ j)],⟨HT b st [(4,VZ y0 y3 y4 x1 x2)],N⟩⟩ =
  match ji b x1 x2 fine k o st with
  |none=>some (.ret,⟨[(6,.nl),(7,.ptr 2 0),(8,.ptr 3 0)],⟨[(0,.cells [.d (.lst (ai b))]),(2,.cells [A_ 0]),(3,.cells [A_ 8])],M⟩⟩)
  |some (l,o2,st2)=>some (.exit 2,⟨[(6,x6),(7,.ptr 2 0),(8,.ptr 3 0),(10,RZ),(11,.ptr 4 0),(12,B_ o2),(13,aD 5 (eq (acc++l))),(32,.d y32),(33,.d y33)],⟨HT b st2 [(4,VZ y0 y3 y4 x1 x2)],M⟩⟩):=by
 intro k
 induction k with
 |zero =>
  intro j N o st acc h1 h2 h3 hN;refine⟨N,ak _,?_⟩;rw[ah tZ,ji];simp only[bh];simp(disch:=omega)[↓aa]
 |succ k ih =>
  intro j N o st acc h1 h2 h3 hN;obtain⟨n0,n2,n3,n4⟩:N≠0∧N≠2∧N≠3∧N≠4:=o_;have f1:=fV (s:=x1) hb h3;have f2:=fV (s:=x2) hb f1;have f3:=fV (s:=1) hb f2;have f4:=fV (s:=1) hb f3;have g1:=λR N=>EX b x1 st R N hb h3
  have g2:=λR N=>EX b x2 (sN b st x1) R N hb f1
  have g3:=λR N=>EX b 1 (sN b (sN b st x1) x2) R N hb f2
  have g4:=λR N=>EX b 1 (sN b (sN b (sN b st x1) x2) 1) R N hb f3
  have v1:=vP (b:=b) (st:=st) (s:=x1);have v2:=vP (b:=b) (st:=sN b st x1) (s:=x2);have v3:=vP (b:=b) (st:=sN b (sN b st x1) x2) (s:=1);have v4:=vP (b:=b) (st:=sN b (sN b (sN b st x1) x2) 1) (s:=1);have k1:2 ^ x1<=2 ^ 6:=aw o_ hx.1;have k2:2 ^ x2<=2 ^ 5:=aw o_ hx.2;have t1:(1:Int).toNat=1:=rfl;simp only[au,t1]at v1 v2 v3 v4;have hO:rQ b x1 x2 st=sV b (sN b st x1) x2:=rfl;have hS:yY b x1 x2 st=sN b (sN b st x1) x2:=rfl;have c1:((j+1:Nat):Int)=(j:Int)+1:=rfl;have hla:=asD (l:=acc);rw[ji,hO,hS];simp only[HT]at g1 g2 g3 g4;by_cases hbad:12<sV b (sN b st x1) x2∧(sN b (sN b st x1) x2).e=0
  .rw[ac hbad];obtain⟨hb1,hb2⟩:=hbad;have hre:re (sN b (sN b st x1) x2)=0:=hb2;refine⟨N+1,o_,?_⟩;simp only[HT];rw[ah tZ];simp(disch:=omega)[↓ac,↓aa,g1,g2,hre]
  .rw[aa hbad];by_cases hO0:sV b (sN b st x1) x2=0
   .have eF:Ns b x1 x2 fine st=⟨sV b st x1,0,false,fine,[]⟩:=by grind [Ns]
    have eX:Kk b x1 x2 fine st=false:=by grind [Kk]
    have eN:yw b x1 x2 fine st=sN b (sN b st x1) x2:=by grind [yw]
    rw[eF,eX,eN,rC];obtain⟨M,hM,h5⟩:=ih (j+1) (N+1) o (sN b (sN b st x1) x2) (acc++[⟨sV b st x1,0,false,fine,[]⟩]) o_ u_ f2 o_;refine⟨M,o_,?_⟩;have key:(Dn prog).code (.loop iw) ⟨[(6,x6),(7,.ptr 2 0),(8,.ptr 3 0),(10,RZ),(11,.ptr 4 0),(12,B_ o),(13,aD 5 (eq acc)),(15,B_ fine),(32,.d y32),(33,.d y33),(46,A_ many),(47,A_ j)],⟨HT b st [(4,VZ y0 y3 y4 x1 x2)],N⟩⟩ =
      (Dn prog).code (.loop iw) ⟨[(6,x6),(7,.ptr 2 0),(8,.ptr 3 0),(10,RZ),(11,.ptr 4 0),(12,B_ o),(13,aD 5 (eq (acc++[⟨sV b st x1,0,false,fine,[]⟩]))),(15,B_ fine),(32,.d y32),(33,.d y33),(46,A_ many),(47,A_ ((j+1:Nat):Int))],⟨HT b (sN b (sN b st x1) x2) [(4,VZ y0 y3 y4 x1 x2)],N+1⟩⟩:=by
     have n00:aF []=[]:=rfl;simp only[HT,c1,adC,nL,n00];clear h5 ih;rw[ah tZ];simp(disch:=omega)[↓ac,↓aa,g1,g2,hO0]
    grind
   .have he:(sN b (sN b st x1) x2).e=0:=az5 hO0;have hO12:sV b (sN b st x1) x2<=12:=by
     omega
    have hre:re (sN b (sN b st x1) x2)=0:=he;have hw4:3<=fF fine∧fF fine<=4:=by grind [fF]
    have hwide:bi prog DT [B_ fine]=some (A_ ((fF fine:Nat):Int)):=by grind [Jz,fF]
    obtain⟨W,hW⟩:∃W,W=sV b (sN b (sN b (sN b st x1) x2) 1) 1:=⟨_,rfl⟩
    obtain⟨Dd,hDd⟩:∃Dd,Dd=sV b (sN b (sN b st x1) x2) 1:=⟨_,rfl⟩
    obtain⟨T4,hT4⟩:∃T4,T4=sN b (sN b (sN b (sN b st x1) x2) 1) 1:=⟨_,rfl⟩
    obtain⟨sz,hsz⟩:∃sz,sz=fF fine-W:=⟨_,rfl⟩
    rw[<-hW]at v4 g4;rw[<-hDd]at v3 g3;rw[<-hT4]at g4 f4;have c00:((0:Nat):Int)=0:=rfl;simp only[hre,c00]at g3;have hszI:((fF fine:Nat):Int)-(W:Int)=(sz:Int):=o_;have hsz1:(sz:Int)-1=((sz-1:Nat):Int):=o_;have hne:rQ b x1 x2 st≠0:=o_;have eF:Ns b x1 x2 fine st=⟨sV b st x1,sV b (sN b st x1) x2,decide (Dd=1),fine,yu b sz (sV b (sN b st x1) x2) T4⟩:=by
     grind [Ns,Jj,Hu,Qt,flD]
    have eX:Kk b x1 x2 fine st=(decide (W=0) && Ko (yu b sz (sV b (sN b st x1) x2) T4) (sz-1)):=by
     grind [Kk,Jj,Hu,Qt]
    have eN:yw b x1 x2 fine st=wl b sz (sV b (sN b st x1) x2) T4:=by
     grind [yw,Jj,Hu,Qt]
    have f5:(wl b sz (sV b (sN b st x1) x2) T4).fit:=abB hb f4;have hcl:=acF (b:=b) (sz:=sz) (k:=sV b (sN b st x1) x2) (st:=T4);have hL0:=λa0 a2 y46 y47 N M hN=>av3 b hb (VZ y0 y3 y4 x1 x2) a0 (A_ (sV b (sN b st x1) x2)) a2 (B_ fine) x6 (aD 5 (eq acc)) (.bool o) (.bool fine) y32 y33 y46 y47 W sz (sV b (sN b st x1) x2) N M o_ o_ hN (sV b (sN b st x1) x2) 0 T4 [] o_ rfl f4
    have n00:aF []=[]:=rfl;have c0:((0:Nat):Int)=0:=rfl;simp only[n00,qp,aK,c0,HT]at hL0;have hDec:decide ((Dd:Int)=1)=decide (Dd=1):=d_;rw[eF,eX,eN];generalize sV b (sN b st x1) x2=O at *;obtain⟨CS,hCS⟩:∃CS,CS=yu b sz O T4:=⟨_,rfl⟩
    rw[<-hCS]at hL0 hcl;rw[<-hCS];obtain⟨M,hM,h5⟩:=ih (j+1) (N+1) (o ||(decide (W=0) && Ko CS (sz-1))) (wl b sz O T4) (acc++[⟨sV b st x1,O,decide (Dd=1),fine,CS⟩]) o_ u_ f5 o_;refine⟨M,o_,?_⟩;have hshare:share (aD 1 (aF CS))=.d (.lst (aF CS)):=by
     cases CS with
     |nil=>grind
     |cons x r=>rfl
    have key:(Dn prog).code (.loop iw) ⟨[(6,x6),(7,.ptr 2 0),(8,.ptr 3 0),(10,RZ),(11,.ptr 4 0),(12,B_ o),(13,aD 5 (eq acc)),(15,B_ fine),(32,.d y32),(33,.d y33),(46,A_ many),(47,A_ j)],⟨HT b st [(4,VZ y0 y3 y4 x1 x2)],N⟩⟩ =
      (Dn prog).code (.loop iw) ⟨[(6,x6),(7,.ptr 2 0),(8,.ptr 3 0),(10,RZ),(11,.ptr 4 0),(12,B_ ((o ||(decide (W=0) && Ko CS (sz-1))))),(13,aD 5 (eq (acc++[⟨sV b st x1,O,decide (Dd=1),fine,CS⟩]))),(15,B_ fine),(32,.d y32),(33,.d y33),(46,A_ many),(47,A_ ((j+1:Nat):Int))],⟨HT b (wl b sz O T4) [(4,VZ y0 y3 y4 x1 x2)],N+1⟩⟩:=by
     simp only[HT,c1,adC,nL];clear h5 ih;have hfit:=K9 CS o_ (sz-1) o_;have hfit2:bi prog Gv [.d (.lst (aF CS)),A_ ((sz-1:Nat):Int)]=some (B_ (Ko CS (sz-1))):=hfit;rw[ah tZ];obtain⟨B1,hB1⟩:∃B1,B1=decide (Dd=1):=⟨_,rfl⟩
     rw[<-hB1]
     cases o with
     |true =>
      by_cases hD1:Dd=1
      .rw[hB1,decide_eq_true hD1];simp(disch:=omega)[↓ac,↓aa,g1,g2,g3,g4,hre,hwide,hszI,hL0]
      .rw[hB1,decide_eq_false hD1];simp(disch:=omega)[↓ac,↓aa,g1,g2,g3,g4,hre,hwide,hszI,hL0]
     |false =>
      by_cases hW0:W=0
      .rw[decide_eq_true hW0];by_cases hD1:Dd=1
       .rw[hB1,decide_eq_true hD1];simp(disch:=omega)[↓ac,↓aa,g1,g2,g3,g4,hre,hwide,hszI,hL0,hshare,hsz1,hfit2]
       .rw[hB1,decide_eq_false hD1];simp(disch:=omega)[↓ac,↓aa,g1,g2,g3,g4,hre,hwide,hszI,hL0,hshare,hsz1,hfit2]
      .rw[decide_eq_false hW0];by_cases hD1:Dd=1
       .rw[hB1,decide_eq_true hD1];simp(disch:=omega)[↓ac,↓aa,g1,g2,g3,g4,hre,hwide,hszI,hL0]
       .rw[hB1,decide_eq_false hD1];simp(disch:=omega)[↓ac,↓aa,g1,g2,g3,g4,hre,hwide,hszI,hL0]
    grind
abbrev mH:=@Bool.true_and
def Sw (b:C_)(x0:Nat)(st:RS):Bool:=decide (0<sV b st x0) && decide (sV b (sN b st x0) 1=1)
def Dy (b:C_)(x0:Nat)(st:RS):RS:=if 0<sV b st x0 then sN b (sN b st x0) 1 else sN b st x0
def pg (b:C_)(x0 x1 x2:Nat):Nat->Bool->RS->Option (O_×Bool×RS)
 |0,o,st=>some ([],o,st)
 |k+1,o,st=>match ji b x1 x2 (Sw b x0 st) (sV b st x0) o (Dy b x0 st) with
  |none=>none
  |some q=>match pg b x0 x1 x2 k q.2.1 q.2.2 with
   |none=>none
   |some w=>some (q.1::w.1,w.2)
def amF {t:O_}{l:AA_}:cR (t++[l])=cR t++[[.lst (eq l)]]:=by simp[cR]
def al8 {b:C_}{x0:Nat}{st:RS}(hb:b.length<=1000000000)(h:st.fit):(Dy b x0 st).fit:=by
 unfold Dy;split
 .exact fV hb (fV hb h)
 .exact fV hb h
def Wm {b:C_}{x1 x2:Nat}{fine:Bool}(hb:b.length<=1000000000):∀{k:Nat}{o:Bool}{st:RS}{l:AA_}{o2:Bool}{st2:RS},st.fit->ji b x1 x2 fine k o st=some (l,o2,st2)->st2.fit∧l.length=k
 |0,o,st,l,o2,st2,h,e=>by
  rw[ji]at e;injection e with e
  injection e with e1 e
  injection e with e2 e3
  subst e1 e3;exact⟨h,rfl⟩
 |k+1,o,st,l,o2,st2,h,e=>by
  rw[ji]at e;split at e
  .exact absurd e (by simp)
  .cases hq:ji b x1 x2 fine k (o ||Kk b x1 x2 fine st) (yw b x1 x2 fine st) with
   |none=>rw[hq]at e;exact absurd e (by simp)
   |some q =>
    obtain⟨q1,q2,q3⟩:=q;rw[hq]at e;injection e with e;injection e with e1 e
    injection e with e2 e3
    obtain⟨i1,i2⟩:=Wm hb (awU hb h) hq;subst e1 e3;exact⟨i1,by simp[i2]⟩
def awm (b:C_)(hb:b.length<=1000000000)(y3 y4:AV)(x0 x1 x2:Nat)(hx:x0<=2∧x1<=6∧x2<=5)(many:Nat)(hm:many<=8):∀(k j N:Nat) (o:Bool) (st:RS) (acc:O_),j+k=many->acc.length=j->st.fit->5<=N->
  ∃M,N<=M∧(Dn prog).code (.loop ll) ⟨[(6,aD 1 (cR acc)),(7,.ptr 2 0),(8,.ptr 3 0),(10,RZ),(11,.ptr 4 0),(12,B_ o),(32,A_ many),(33,A_ j)],⟨HT b st [(4,VZ (A_ x0) y3 y4 x1 x2)],N⟩⟩ =
  match pg b x0 x1 x2 k o st with
  |none=>some (.ret,⟨[(6,.nl),(7,.ptr 2 0),(8,.ptr 3 0)],⟨[(0,.cells [.d (.lst (ai b))]),(2,.cells [A_ 0]),(3,.cells [A_ 8])],M⟩⟩)
  |some (t,o2,st2)=>some (.exit 0,⟨[(6,aD 1 (cR (acc++t))),(7,.ptr 2 0),(8,.ptr 3 0),(12,B_ o2)],⟨HT b st2 [],M⟩⟩):=by
 intro k
 induction k with
 |zero =>
  intro j N o st acc h1 h2 h3 hN;refine⟨N,ak _,?_⟩;rw[ah Aq,pg];simp only[bh];simp(maxSteps:=300000) (disch:=omega)[↓ac,↓aa]
 |succ k ih =>
  intro j N o st acc h1 h2 h3 hN;have f1:=fV (s:=x0) hb h3;have g1:=λR N=>EX b x0 st R N hb h3
  have g2:=λR N=>EX b 1 (sN b st x0) R N hb f1
  have v1:=vP (b:=b) (st:=st) (s:=x0);have v2:=vP (b:=b) (st:=sN b st x0) (s:=1);have k1:2 ^ x0<=2 ^ 2:=aw o_ hx.1;have t1:(1:Int).toNat=1:=rfl;simp only[au,t1]at v1 v2;have c1:((j+1:Nat):Int)=(j:Int)+1:=rfl;have c0:((0:Nat):Int)=0:=rfl;have n00:eq []=[]:=rfl;have hla:=acR (t:=acc);have hfs:=al8 (x0:=x0) hb h3;obtain⟨M1,hM1,hL1⟩:=axv b hb (A_ x0) y3 y4 x1 x2 hx.2 (aD 1 (cR acc)) (Sw b x0 st) (.int .i64 many) (.int .i64 j) (sV b st x0) o_ (sV b st x0) 0 N o (Dy b x0 st) [] o_ rfl hfs hN;have hF:Sw b x0 st=(decide (0<sV b st x0) && decide (sV b (sN b st x0) 1=1)):=rfl;have hS:Dy b x0 st=if 0<sV b st x0 then sN b (sN b st x0) 1 else sN b st x0:=rfl
  rw[pg];simp only[HT,c0,n00,qp,aK]at g1 g2 hL1
  cases hfl:ji b x1 x2 (Sw b x0 st) (sV b st x0) o (Dy b x0 st) with
  |none =>
   rw[hfl]at hL1;refine⟨M1,hM1,?_⟩;simp only[HT];rw[ah Aq];rw[hF,hS]at hL1;by_cases hp:0<sV b st x0
   .rw[ac hp,decide_eq_true hp,mH]at hL1;by_cases hd:sV b (sN b st x0) 1=1
    .rw[decide_eq_true hd]at hL1;simp(maxSteps:=300000) (disch:=omega)[↓ac,↓aa,g1,g2,hL1]
    .rw[decide_eq_false hd]at hL1;simp(maxSteps:=300000) (disch:=omega)[↓ac,↓aa,g1,g2,hL1]
   .have h0:sV b st x0=0:=o_;rw[aa hp,decide_eq_false hp,Bool.false_and,h0,c0]at hL1;simp(maxSteps:=300000) (disch:=omega)[↓ac,↓aa,g1,g2,h0,hL1]
  |some q =>
   obtain⟨l,o2,st2⟩:=q;rw[hfl]at hL1;obtain⟨i1,i2⟩:=Wm hb hfs hfl;obtain⟨M,hM,h5⟩:=ih (j+1) M1 o2 st2 (acc++[l]) o_ g_ i1 o_;refine⟨M,o_,?_⟩;have key:(Dn prog).code (.loop ll) ⟨[(6,aD 1 (cR acc)),(7,.ptr 2 0),(8,.ptr 3 0),(10,RZ),(11,.ptr 4 0),(12,B_ o),(32,A_ many),(33,A_ j)],⟨HT b st [(4,VZ (A_ x0) y3 y4 x1 x2)],N⟩⟩ =
     (Dn prog).code (.loop ll) ⟨[(6,aD 1 (cR (acc++[l]))),(7,.ptr 2 0),(8,.ptr 3 0),(10,RZ),(11,.ptr 4 0),(12,B_ o2),(32,A_ many),(33,A_ ((j+1:Nat):Int))],⟨HT b st2 [(4,VZ (A_ x0) y3 y4 x1 x2)],M1⟩⟩:=by
    simp only[HT,c1,amF,nL];clear h5 ih;rw[hF,hS]at hL1;rw[ah Aq];by_cases hp:0<sV b st x0
    .rw[ac hp,decide_eq_true hp,mH]at hL1;by_cases hd:sV b (sN b st x0) 1=1
     .rw[decide_eq_true hd]at hL1;simp(maxSteps:=300000) (disch:=omega)[↓ac,↓aa,g1,g2,hL1]
     .rw[decide_eq_false hd]at hL1;simp(maxSteps:=300000) (disch:=omega)[↓ac,↓aa,g1,g2,hL1]
    .have h0:sV b st x0=0:=o_;rw[aa hp,decide_eq_false hp,Bool.false_and,h0,c0]at hL1;simp(maxSteps:=300000) (disch:=omega)[↓ac,↓aa,g1,g2,h0,hL1]
   rw[key,h5];simp only
   cases pg b x0 x1 x2 k o2 st2 with
   |none=>rfl
   |some w =>
    obtain⟨t,o3,st3⟩:=w;simp only[ax,aR,aK]
attribute [simp ↓ high] atA aw9
def roC:AV->Bool
 |.d _=>true
 |.nl=>true
 |.own _ _ _=>true
 |_=>false
@[simp] def aIv {x:D}:roC (.d x)=true:=rfl
abbrev ej:=@List.eq_of_mem_replicate
def aiF:∀(b:C_),uQ (ai b)=some (b.map Nat.toUInt8)
 |[]=>rfl
 |n::r=>by
  have h:ai (n::r)=[.int .u8 (.ofNat n)]::ai r:=rfl;rw[h,uQ,aiF r,ct]
@[simp] def OO {h:am}{b:C_}:MR h (.d (.lst (ai b)))=some (.str (b.map Nat.toUInt8)):=by
 simp only[MR,apm,aiF]
def c0:c7:=⟨0,⟨0,0,0,[1]⟩,[[]],[[]],[[]],List.replicate 256 0⟩
def aqo:c0.Fit where
 gain:=k_
 info:=⟨k_,k_,k_,k_,by intro n hn;simp[c0]at hn;subst hn;decide⟩
 sects:=⟨by simp[c0],by simp[c0]⟩
 secI:=by simp[c0]
 steps:=⟨by simp[c0],by simp[c0]⟩
 stepI:=by simp[c0]
 tns:=⟨by simp[c0],by simp[c0]⟩
 fltI:=by simp[c0]
 lines:=by simp[c0]
 lineI:=by
  intro n hn;have:=ej hn;omega
def ahH:bi prog jf [A_ 0,.agg c0.av]=some (A_ 0):=A7 400 (by kernel_rfl)
def aiY {r:Nat}{c:c7}(hc:c.Fit)(h:ph r c)(hR:r<=11)(q:Bool):(Jk r c q).length<=170000000:=by
 have hm11:=gQ hR h.info;have hmx:=je hm11;obtain⟨g1,g2⟩:=dO hm11;have hmm:c.info.many<=8:=by unfold aO.many;split<;>omega
 have hgl:c.info.groups.length<=8:=by have:=lG (λn hn=>(g1 n hn).1);omega
 have hgs:c.sects.length<=8:=by have:=h.sects.1;omega
 have k1:=J3 (i:=c.info);have k2:=ac5 hm11 h.sects;have k3:=SJ hmx h.sects.2 h.steps;have k4:(js c.info.short c.tns).length<=1000*c.tns.length:=Ia λl hl=>abR (h.tns.2 l hl)
 have k5:=ZF hc h hR;have htl:=h.tns.1;have e1:(if q then [] else kb c.info).length<=20:=by split<;>(try simp only[bf])<;>omega
 have e2:(if vu c.tns then 0::1::(js c.info.short c.tns++[0]) else [0,0,0]).length<=10000:=by split<;>simp<;>omega
 unfold Jk;simp only[al,dI];omega
abbrev c7.cells (c:c7):Y_:=[.int .i64 c.gain,.int .u8 c.info.seq,.int .u8 c.info.shape,.int .i64 c.info.max,.lst (aF c.info.groups),.lst (bz c.sects),.lst (cY c.steps),.lst (cR c.tns),.lst (aF c.lines)]
def dJ (l:BB_):E_:=l.map c7.cells
@[simp] def DW {l:BB_}:(dJ l).length=l.length:=by simp[dJ]
def Ej {g:BB_}{i:Nat}{c:c7}{r:BB_}(h:g.drop i=c::r):(dJ g)[i]?=some [.int .i64 c.gain,.int .u8 c.info.seq,.int .u8 c.info.shape,.int .i64 c.info.max,.lst (aF c.info.groups),.lst (bz c.sects),.lst (cY c.steps),.lst (cR c.tns),.lst (aF c.lines)]:=by
 have:=aX (λl=>l[0]?) h;simp only[b6,dQ,ck]at this;rw[dJ,bY,this];rfl
def arz {g:BB_}{c:c7}:dJ (g++[c])=dJ g++[[.int .i64 c.gain,.int .u8 c.info.seq,.int .u8 c.info.shape,.int .i64 c.info.max,.lst (aF c.info.groups),.lst (bz c.sects),.lst (cY c.steps),.lst (cR c.tns),.lst (aF c.lines)]]:=by simp[dJ]
def gU (l:V_):E_:=l.map λb=>[.bool b]
@[simp] def sn {l:V_}:(gU l).length=l.length:=by simp[gU]
def alS {g:V_}{i:Nat}{c:Bool}{r:V_}(h:g.drop i=c::r):(gU g)[i]?=some [.bool c]:=by
 have:=aX (λl=>l[0]?) h;simp only[b6,dQ,ck]at this;rw[gU,bY,this];rfl
@[simp] def aGe {l:V_}:fW 1 (gU l)=true:=Tz
def avH {a b:V_}:gU (a++b)=gU a++gU b:=by simp[gU]
def dq (t:R_):E_:=t.map λl=>[.lst (gU l)]
@[simp] def II {t:R_}:(dq t).length=t.length:=by simp[dq]
def Aw {g:R_}{i:Nat}{l:V_}{r:R_}(h:g.drop i=l::r):(dq g)[i]?=some [.lst (gU l)]:=by
 have:=aX (λl=>l[0]?) h;simp only[b6,dQ,ck]at this;rw[dq,bY,this];rfl
def aqX {t:R_}{l:V_}:dq (t++[l])=dq t++[[.lst (gU l)]]:=by simp[dq]
structure gW where
 chans:BB_
 common:Bool
 mask:Int
 bands:R_
 fill:C_
structure gW.Fit (f:gW):Prop where
 chans:f.chans.length<=1000∧∀c∈f.chans,c.Fit
 mask:i64 f.mask
 bands:f.bands.length<=1000∧∀l∈f.bands,l.length<=1000
 fill:f.fill.length<=100000
 fillI:∀n∈f.fill,n<=255
abbrev gW.av (f:gW):D_:=[.d (.lst (dJ f.chans)),B_ f.common,A_ f.mask,.d (.lst (dq f.bands)),.d (.lst (ai f.fill))]
structure ay9 (f:gW):Prop where
 chans:f.chans.length<=10∧∀c∈f.chans,auJ c
 bands:f.bands.length<=40∧∀l∈f.bands,l.length<=200
 fill:f.fill.length<=2000
def CG (i j:aO):Prop:=(i.seq=j.seq∧i.shape=j.shape)∧i.max=j.max∧i.groups=j.groups
instance {i j:aO}:Decidable (CG i j):=inferInstanceAs (Decidable (_∧_))
def aqz (i j:aO)(hi:i.Fit)(hj:j.Fit):bi prog UX [.agg i.cells,.agg j.cells]=some (B_ (decide (CG i j))):=by
 have he:=Te i.groups j.groups (by have:=hi.len;omega) (by have:=hj.len;omega);simp only[aO.cells];rw[aH aks akg rfl];by_cases h1:i.seq=j.seq
 .by_cases h2:i.shape=j.shape
  .by_cases h3:i.max=j.max
   .by_cases h4:i.groups=j.groups
    .rw[ac h4]at he;rw[decide_eq_true (show CG i j from ⟨⟨h1,h2⟩,h3,h4⟩)];simp(maxSteps:=300000) (disch:=omega)[↓ac,↓aa,he]
    .rw[aa h4]at he;rw[decide_eq_false (λh:CG i j=>h4 h.2.2)];simp(maxSteps:=300000) (disch:=omega)[↓ac,↓aa,he]
   .rw[decide_eq_false (λh:CG i j=>h3 h.2.1)];simp(maxSteps:=300000) (disch:=omega)[↓ac,↓aa]
  .rw[decide_eq_false (λh:CG i j=>h2 h.1.2)];simp(maxSteps:=300000) (disch:=omega)[↓ac,↓aa]
 .rw[decide_eq_false (λh:CG i j=>h1 h.1.1)];simp(maxSteps:=300000) (disch:=omega)[↓ac,↓aa]
def Lp (rt:Int)(c:c7):Bool:=match bi prog jf [A_ rt,.agg c.av] with
 |some (.d (.int _ n))=>n != 0
 |_=>true
def Xn (rt:Int)(hr:dR rt)(c:c7)(hc:c.Fit):∃n:Int,bi prog jf [A_ rt,.agg c.av]=some (A_ n)∧Lp rt c=(n != 0)∧(Lp rt c=false↔ph rt.toNat c):=by
 rcases Ok rt c hc with ⟨_,h,hC⟩|⟨_,h,hC⟩|⟨h,_⟩
 .refine⟨0,hC,by rw[Lp,hC],?_⟩;rw[Lp,hC];simp[h]
 .refine⟨8,hC,by rw[Lp,hC],?_⟩;rw[Lp,hC];simp[h]
 .exact absurd hr h
def axf (rt:Int)(hr:dR rt)(a1 a2 a3:AV)(c:c7)(hc:c.Fit)(H:am)(M:Nat)(hp:get H 0=some (.cells [A_ rt,a1,a2,a3]))(hM:Lt H M) :
  (Dn prog).call GM [.agg c.av,.ptr 0 0] ⟨H,M⟩=some (B_ (Lp rt c),⟨H,M+1⟩):=by
 have e1:=λo=>uO (o:=o) hM
 have e2:=λo=>xD (o:=o) hM
 have e3:=λo=>AK (N:=M) (o:=o) hp
 have e5:=λo=>ML (o:=o) hM
 have e6:=λo o'=>H1 (o:=o) (o':=o') hM
 obtain⟨n,hC,hB,_⟩:=Xn rt hr c hc;rw[hB];simp only[c7.av]at hC⊢;rw[aZ aeQ aei rfl];by_cases hn:n=0
 .subst hn;simp(maxSteps:=300000) (disch:=omega)[↓ac,↓aa,e1,e2,e3,e5,e6,hC]
 .simp(maxSteps:=300000) (disch:=omega)[↓ac,↓aa,e1,e2,e3,e5,e6,hC,hn]
def abt (F:AV)(P:c7->Bool)(l:BB_)(hl:l.length<=1000000000)(h:am)(N0:Nat)(hF:firm (share F)=F)(hc:∀f∈l,∀N,N0<=N->cq (Dn prog) F [.agg f.av] ⟨h,N⟩=some (B_ (P f),⟨h,N+1⟩)):∀(r:BB_) (i N:Nat),l.drop i=r->N0<=N->
  (r.any P=true∧∃k M:Nat,N<=M∧(Dn prog).code (.loop fS) ⟨[(0,.d (.lst (dJ l))),(1,F),(7,A_ l.length),(8,A_ i)],⟨h,N⟩⟩=some (.ret,⟨[(4,A_ k)],⟨h,M⟩⟩))∨
  (r.any P=false∧∃M,N<=M∧(Dn prog).code (.loop fS) ⟨[(0,.d (.lst (dJ l))),(1,F),(7,A_ l.length),(8,A_ i)],⟨h,N⟩⟩=some (.exit 0,⟨[],⟨h,M⟩⟩)):=by
 intro r
 induction r with
 |nil =>
  intro i N hd hN;have hi:=bg hd;refine .inr ⟨rfl,N,ak _,?_⟩;rw[ah iY];simp(maxSteps:=300000) (disch:=omega)[↓aa]
 |cons v r ih =>
  intro i N hd hN;have hg:=Ej hd;have hlt:=bE hd;have hv:=hc v (by rw[<-aT i l,hd];simp) N hN;have h5:=ih (i+1) (N+1) (bt hd) o_;have c1:((i+1:Nat):Int)=(i:Int)+1:=rfl;rw[c1]at h5
  cases hp:P v with
  |true =>
   rw[hp]at hv;refine .inl ⟨by rw[fb,hp];rfl,i,N+1,o_,?_⟩;rw[ah iY];simp(maxSteps:=300000) (disch:=omega)[↓ac,↓aa,hg,hF,hv]
  |false =>
   rw[hp]at hv;rw[fb,hp,mW];rcases h5 with ⟨e1,k,M,e3,e2⟩|⟨e1,M,e3,e2⟩
   .refine .inl ⟨e1,k,M,o_,?_⟩;rw[ah iY,<-e2];simp(maxSteps:=300000) (disch:=omega)[↓ac,↓aa,hg,hF,hv]
   .refine .inr ⟨e1,M,o_,?_⟩;rw[ah iY,<-e2];simp(maxSteps:=300000) (disch:=omega)[↓ac,↓aa,hg,hF,hv]
def aba (F:AV)(P:c7->Bool)(l:BB_)(hl:l.length<=1000000000)(h:am)(N:Nat)(hF:firm (share F)=F)(hF2:firm F=F)(hc:∀f∈l,∀M,N<=M->cq (Dn prog) F [.agg f.av] ⟨h,M⟩=some (B_ (P f),⟨h,M+1⟩)) :
  ∃M,N<=M∧(Dn prog).call sZ [.d (.lst (dJ l)),F] ⟨h,N⟩=some (B_ (l.any P),⟨h,M⟩):=by
 have h1:=abt F P l hl h N hF hc l 0 N rfl (ak _);have c0:((0:Nat):Int)=0:=rfl;rw[c0]at h1;have h2:∃(k:Int) (M:Nat),N<=M∧(0<=k↔l.any P=true)∧(Dn prog).call wm [.d (.lst (dJ l)),F] ⟨h,N⟩=some (A_ k,⟨h,M⟩):=by
  rcases h1 with ⟨e1,k,M,e3,e2⟩|⟨e1,M,e3,e2⟩
  .refine⟨k,M,e3,⟨λ_=>e1,λ_=>by omega⟩,?_⟩;rw[aZ wX wG rfl];simp(maxSteps:=300000) (disch:=omega)[e2]
  .refine⟨-1,M,e3,⟨λh=>by omega,λh=>by rw[e1]at h;exact absurd h s_⟩,?_⟩;rw[aZ wX wG rfl];simp(maxSteps:=300000) (disch:=omega)[e2]
 obtain⟨k,M,e3,e1,e2⟩:=h2;refine⟨M,e3,?_⟩;rw[aZ FB FV rfl]
 cases hp:l.any P with
 |true =>
  have:=e1.2 hp;simp(maxSteps:=300000) (disch:=omega)[↓ac,hF2,e2]
 |false =>
  have:¬0<=k:=λh=>by rw[e1.1 h]at hp;exact absurd hp (by simp)
  simp(maxSteps:=300000) (disch:=omega)[↓aa,hF2,e2]
def aaZ (F:AV)(P:(V_)->Bool)(l:R_)(hl:l.length<=1000000000)(h:am)(N0:Nat)(hF:firm (share F)=F)(hc:∀f∈l,∀N,N0<=N->cq (Dn prog) F [.d (.lst (gU f))] ⟨h,N⟩=some (B_ (P f),⟨h,N⟩)):∀(r:R_) (i N:Nat),l.drop i=r->N0<=N->
  (r.any P=true∧∃k M:Nat,N<=M∧(Dn prog).code (.loop fK) ⟨[(0,.d (.lst (dq l))),(1,F),(7,A_ l.length),(8,A_ i)],⟨h,N⟩⟩=some (.ret,⟨[(4,A_ k)],⟨h,M⟩⟩))∨
  (r.any P=false∧∃M,N<=M∧(Dn prog).code (.loop fK) ⟨[(0,.d (.lst (dq l))),(1,F),(7,A_ l.length),(8,A_ i)],⟨h,N⟩⟩=some (.exit 0,⟨[],⟨h,M⟩⟩)):=by
 intro r
 induction r with
 |nil =>
  intro i N hd hN;have hi:=bg hd;refine .inr ⟨rfl,N,ak _,?_⟩;rw[ah iC];simp(maxSteps:=300000) (disch:=omega)[↓aa]
 |cons v r ih =>
  intro i N hd hN;have hg:=Aw hd;have hlt:=bE hd;have hv:=hc v (by rw[<-aT i l,hd];simp) N hN;have h5:=ih (i+1) N (bt hd) o_;have c1:((i+1:Nat):Int)=(i:Int)+1:=rfl;rw[c1]at h5
  cases hp:P v with
  |true =>
   rw[hp]at hv;refine .inl ⟨by rw[fb,hp];rfl,i,N,o_,?_⟩;rw[ah iC];simp(maxSteps:=300000) (disch:=omega)[↓ac,↓aa,hg,hF,hv]
  |false =>
   rw[hp]at hv;rw[fb,hp,mW];rcases h5 with ⟨e1,k,M,e3,e2⟩|⟨e1,M,e3,e2⟩
   .refine .inl ⟨e1,k,M,o_,?_⟩;rw[ah iC,<-e2];simp(maxSteps:=300000) (disch:=omega)[↓ac,↓aa,hg,hF,hv]
   .refine .inr ⟨e1,M,o_,?_⟩;rw[ah iC,<-e2];simp(maxSteps:=300000) (disch:=omega)[↓ac,↓aa,hg,hF,hv]
def aaK (F:AV)(P:(V_)->Bool)(l:R_)(hl:l.length<=1000000000)(h:am)(N:Nat)(hF:firm (share F)=F)(hF2:firm F=F)(hc:∀f∈l,∀M,N<=M->cq (Dn prog) F [.d (.lst (gU f))] ⟨h,M⟩=some (B_ (P f),⟨h,M⟩)) :
  ∃M,N<=M∧(Dn prog).call sE [.d (.lst (dq l)),F] ⟨h,N⟩=some (B_ (l.any P),⟨h,M⟩):=by
 have h1:=aaZ F P l hl h N hF hc l 0 N rfl (ak _);have c0:((0:Nat):Int)=0:=rfl;rw[c0]at h1;have h2:∃(k:Int) (M:Nat),N<=M∧(0<=k↔l.any P=true)∧(Dn prog).call vH [.d (.lst (dq l)),F] ⟨h,N⟩=some (A_ k,⟨h,M⟩):=by
  rcases h1 with ⟨e1,k,M,e3,e2⟩|⟨e1,M,e3,e2⟩
  .refine⟨k,M,e3,⟨λ_=>e1,λ_=>by omega⟩,?_⟩;rw[aZ v6 vN rfl];simp(maxSteps:=300000) (disch:=omega)[e2]
  .refine⟨-1,M,e3,⟨λh=>by omega,λh=>by rw[e1]at h;exact absurd h s_⟩,?_⟩;rw[aZ v6 vN rfl];simp(maxSteps:=300000) (disch:=omega)[e2]
 obtain⟨k,M,e3,e1,e2⟩:=h2;refine⟨M,e3,?_⟩;rw[aZ DZ Eh rfl]
 cases hp:l.any P with
 |true =>
  have:=e1.2 hp;simp(maxSteps:=300000) (disch:=omega)[↓ac,hF2,e2]
 |false =>
  have:¬0<=k:=λh=>by rw[e1.1 h]at hp;exact absurd hp (by simp)
  simp(maxSteps:=300000) (disch:=omega)[↓aa,hF2,e2]
def axN (i:aO)(l:V_)(hl:l.length<=1000000)(H:am)(K N:Nat)(hp:get H K=some (.cells i.cells)):(Dn prog).call Gt [.d (.lst (gU l)),.ptr K 0] ⟨H,N⟩=some (B_ ((decide ((l.length:Int)≠i.max))),⟨H,N⟩):=by
 have hb:=sn (l:=l);rw[aZ aet aeH rfl];by_cases h:(l.length:Int)=i.max
 .simp(maxSteps:=300000) (disch:=omega)[hp,h]
 .simp(maxSteps:=300000) (disch:=omega)[hp,h]
abbrev sM:=@List.any_eq_false
def eV (x:AV)(l:E_):Prop:=x=.d (.lst l)∨x=.nl∧l=[]
theorem eV.d {l:E_}:eV (.d (.lst l)) l:=.inl rfl
def eV.facts {x:AV}{l:E_}(h:eV x l):(share x=x∧firm x=x∧AV.cells x=[x])∧bq x=true∧lenOf x=some l.length:=by
 rcases h with rfl|⟨rfl,rfl⟩<;>exact⟨⟨rfl,rfl,rfl⟩,rfl,rfl⟩
def eV.ne {x:AV}{l:E_}(h:eV x l)(hl:l≠[]):x=.d (.lst l):=by
 rcases h with h|⟨_,h⟩
 .exact h
 .exact absurd h hl
def NS (f:gW):BB_->Prop
 |[]=>False
 |c::r=>if f.common then (∃d∈r.head?,CG c.info d.info)∧(if f.mask=1 then f.bands.length=c.info.groups.length∧∀l∈f.bands,(l.length:Int)=c.info.max else f.bands=[]) else f.mask=0∧f.bands=[]
structure qx (rt:Nat)(n:Int)(f:gW):Prop where
 len:(f.chans.length:Int)=n
 fill:f.fill.length<=269
 mask:0<=f.mask∧f.mask<=2
 may:∀c∈f.chans,ph rt c
 rest:NS f f.chans
abbrev mS (rt n:Int)(b:Bool)(z:Int):AV:=.agg [A_ rt,A_ n,B_ b,A_ z]
abbrev p9 (f:gW)(X Y Z:AV):AV:=.agg [X,B_ f.common,A_ f.mask,Y,Z]
def apS (rt n:Int)(cb:Bool)(cz:Int)(hr:dR rt)(hn:n=1∨n=2)(f:gW)(hf:f.Fit)(X Y Z:AV)(hX:eV X (dJ f.chans))(hY:eV Y (dq f.bands))(hZ:eV Z (ai f.fill)) :
  (qx rt.toNat n f∧bi prog Li [mS rt n cb cz,p9 f X Y Z]=some (B_ true))∨(¬qx rt.toNat n f∧bi prog Li [mS rt n cb cz,p9 f X Y Z]=some (B_ false)):=by
 obtain⟨⟨x1,x2,x3⟩,x4,x5⟩:=hX.facts;obtain⟨⟨y1,y2,y3⟩,y4,y5⟩:=hY.facts;obtain⟨⟨z1,z2,z3⟩,z4,z5⟩:=hZ.facts;have xl:=DW (l:=f.chans);have yl:=II (t:=f.bands);have zl:=bw (l:=f.fill);have hcl:=hf.chans.1;have hbl:=hf.bands.1;have hfl:=hf.fill;rw[aH akR aju rfl];by_cases h1:(f.chans.length:Int)=n
 rotate_left
 .refine .inr ⟨λh=>h1 h.len,?_⟩;simp(maxSteps:=300000) (disch:=omega)[↓ac,↓aa,-bq,x1,x2,x3,x4,x5,y1,y2,y3,y4,y5,z1,z2,z3,z4,z5]
 by_cases h2:f.fill.length<=269
 rotate_left
 .refine .inr ⟨λh=>h2 h.fill,?_⟩;simp(maxSteps:=300000) (disch:=omega)[↓ac,↓aa,-bq,x1,x2,x3,x4,x5,y1,y2,y3,y4,y5,z1,z2,z3,z4,z5]
 by_cases h3:0<=f.mask
 rotate_left
 .refine .inr ⟨λh=>h3 h.mask.1,?_⟩;simp(maxSteps:=300000) (disch:=omega)[↓ac,↓aa,-bq,x1,x2,x3,x4,x5,y1,y2,y3,y4,y5,z1,z2,z3,z4,z5]
 by_cases h4:f.mask<=2
 rotate_left
 .refine .inr ⟨λh=>h4 h.mask.2,?_⟩;simp(maxSteps:=300000) (disch:=omega)[↓ac,↓aa,-bq,x1,x2,x3,x4,x5,y1,y2,y3,y4,y5,z1,z2,z3,z4,z5]
 have hne:dJ f.chans≠[]:=λh=>by have:=aX List.length h;rw[DW,bf]at this;omega
 have hxe:=hX.ne hne;subst hxe;obtain⟨M,hM,e1⟩:=aba (.fn GM [] [.ptr 0 0]) (Lp rt) f.chans o_ [(0,.cells [A_ rt,A_ n,B_ cb,A_ cz]),(1,.cells [.d (.lst (dJ f.chans)),B_ f.common,A_ f.mask,Y,Z])] 2 rfl rfl λc hc M hM=>by
  have:=axf rt hr (A_ n) (B_ cb) (A_ cz) c (hf.chans.2 c hc) [(0,.cells [A_ rt,A_ n,B_ cb,A_ cz]),(1,.cells [.d (.lst (dJ f.chans)),B_ f.common,A_ f.mask,Y,Z])] M s_ (by
   intro p hp;simp only[aC,cW,fk]at hp;rcases hp with rfl|rfl<;>simp only[]<;>omega)
  simpa using this
 have hbad:f.chans.any (Lp rt)=false↔∀c∈f.chans,ph rt.toNat c:=by
  rw[sM];constructor
  .intro h c hc;obtain⟨_,_,_,hb⟩:=Xn rt hr c (hf.chans.2 c hc);exact hb.1 (by simpa using h c hc)
  .intro h c hc;obtain⟨_,_,_,hb⟩:=Xn rt hr c (hf.chans.2 c hc);rw[hb.2 (h c hc)];simp
 cases hB:f.chans.any (Lp rt) with
 |true =>
  rw[hB]at e1;refine .inr ⟨λh=>by rw[hbad.2 h.may]at hB;exact absurd hB s_,?_⟩;simp(maxSteps:=300000) (disch:=omega)[↓ac,↓aa,-bq,x5,y1,y2,y3,y4,y5,z1,z2,z3,z4,z5,e1]
 |false =>
  rw[hB]at e1;have hmay:=hbad.1 hB
  cases hch:f.chans with
  |nil=>rw[hch]at h1;simp at h1;omega
  |cons c r =>
   have hdr:f.chans.drop 0=c::r:=hch;obtain⟨k0,g0⟩:=aN.1 (Ej hdr);have hci:=(hf.chans.2 c (by rw[hch];exact .head _)).info;have hfin:qx rt.toNat n f↔NS f (c::r):=⟨λh=>by rw[<-hch];exact h.rest,λh=>⟨h1,h2,⟨h3,h4⟩,hmay,by rw[hch];exact h⟩⟩
   rw[<-hch]
   cases hcm:f.common with
   |false =>
    have hT:NS f (c::r)↔f.mask=0∧f.bands=[]:=by simp only[NS,hcm,ao,bl]
    rw[hcm]at e1;by_cases h5:f.mask=0
    .by_cases h6:f.bands.length=0
     .refine .inl ⟨hfin.2 (hT.2 ⟨h5,ay h6⟩),?_⟩;simp(maxSteps:=300000) (disch:=omega)[↓ac,↓aa,-bq,hcm,x5,y1,y2,y3,y4,y5,z1,z2,z3,z4,z5,e1,g0]
     .refine .inr ⟨λh=>h6 (by rw[(hT.1 (hfin.1 h)).2];rfl),?_⟩;simp(maxSteps:=300000) (disch:=omega)[↓ac,↓aa,-bq,hcm,x5,y1,y2,y3,y4,y5,z1,z2,z3,z4,z5,e1,g0]
    .refine .inr ⟨λh=>h5 (hT.1 (hfin.1 h)).1,?_⟩;simp(maxSteps:=300000) (disch:=omega)[↓ac,↓aa,-bq,hcm,x5,y1,y2,y3,y4,y5,z1,z2,z3,z4,z5,e1,g0]
   |true =>
    rw[hcm]at e1;have hT:NS f (c::r)↔(∃d∈r.head?,CG c.info d.info)∧(if f.mask=1 then f.bands.length=c.info.groups.length∧∀l∈f.bands,(l.length:Int)=c.info.max else f.bands=[]):=by simp only[NS,hcm,bn]
    rcases hn with rfl|rfl
    .have hr0:r=[]:=ay (by rw[hch]at h1;simp only[ar]at h1;omega);refine .inr ⟨λh=>?_,?_⟩
     .obtain⟨⟨d,hd,_⟩,_⟩:=hT.1 (hfin.1 h);rw[hr0]at hd;simp at hd
     .simp(maxSteps:=300000) (disch:=omega)[↓ac,↓aa,-bq,hcm,x5,y1,y2,y3,y4,y5,z1,z2,z3,z4,z5,e1,g0]
    .cases r with
     |nil=>rw[hch]at h1;simp at h1
     |cons d r2 =>
      obtain⟨k1,g1⟩:=aN.1 (Ej (bt hdr));have hsm:=aqz c.info d.info hci (hf.chans.2 d (by rw[hch];exact .tail _ (.head _))).info;simp only[aO.cells]at hsm;have hm0:=hmay c (by rw[hch];exact .head _);obtain⟨q1,q2⟩:=dO (gQ (r:=rt.toNat) o_ hm0.info);have hmm:1<=c.info.many:=by unfold aO.many;split<;>omega
      have hgn:c.info.groups.length≠0:=λh=>by rw[ay h]at q2;simp at q2;omega
      have hgi:=iA (l:=c.info.groups);have hg8:c.info.groups.length<=1000:=hci.len;by_cases hs:CG c.info d.info
      rotate_left
      .rw[decide_eq_false hs]at hsm;refine .inr ⟨λh=>?_,?_⟩
       .obtain⟨⟨d',hd',hss⟩,_⟩:=hT.1 (hfin.1 h);simp only[List.head?_cons,Option.mem_def,ae]at hd';subst hd';exact hs hss
       .simp(maxSteps:=300000) (disch:=omega)[↓ac,↓aa,-bq,hcm,x5,y1,y2,y3,y4,y5,z1,z2,z3,z4,z5,e1,g0,g1,hsm]
      rw[decide_eq_true hs]at hsm;have hhd:∃d'∈(d::r2).head?,CG c.info d'.info:=⟨d,s_,hs⟩
      by_cases h5:f.mask=1
      rotate_left
      .rw[aa h5]at hT;by_cases h6:f.bands.length=0
       .refine .inl ⟨hfin.2 (hT.2 ⟨hhd,ay h6⟩),?_⟩;simp(maxSteps:=300000) (disch:=omega)[↓ac,↓aa,-bq,hcm,x5,y1,y2,y3,y4,y5,z1,z2,z3,z4,z5,e1,g0,g1,hsm]
       .refine .inr ⟨λh=>h6 (by rw[(hT.1 (hfin.1 h)).2];rfl),?_⟩;simp(maxSteps:=300000) (disch:=omega)[↓ac,↓aa,-bq,hcm,x5,y1,y2,y3,y4,y5,z1,z2,z3,z4,z5,e1,g0,g1,hsm]
      rw[ac h5]at hT;by_cases h6:f.bands.length=c.info.groups.length
      rotate_left
      .refine .inr ⟨λh=>h6 (hT.1 (hfin.1 h)).2.1,?_⟩;simp(maxSteps:=300000) (disch:=omega)[↓ac,↓aa,-bq,hcm,x5,y1,y2,y3,y4,y5,z1,z2,z3,z4,z5,e1,g0,g1,hsm]
      have hye:=hY.ne λh=>by have:=aX List.length h;rw[II,bf]at this;omega
      subst hye;obtain⟨M2,hM2,e2⟩:=aaK (.fn Gt [] [.ptr M 0]) (λl=>decide ((l.length:Int)≠c.info.max)) f.bands o_ [(0,.cells [A_ rt,A_ 2,B_ cb,A_ cz]),(1,.cells [.d (.lst (dJ f.chans)),B_ true,A_ f.mask,.d (.lst (dq f.bands)),Z]),(M,.cells c.info.cells)] (M+1) rfl rfl λl hl N hN=>by
       have:=axN c.info l (by have:=hf.bands.2 l hl;omega) [(0,.cells [A_ rt,A_ 2,B_ cb,A_ cz]),(1,.cells [.d (.lst (dJ f.chans)),B_ true,A_ f.mask,.d (.lst (dq f.bands)),Z]),(M,.cells c.info.cells)] M N (by
        obtain⟨m0,m1⟩:M≠0∧M≠1:=o_;simp(maxSteps:=300000) (disch:=omega)[↓ac,↓aa])
       simpa using this
      simp only[aO.cells]at e2
      cases hB2:f.bands.any (λl=>decide ((l.length:Int)≠c.info.max)) with
      |true =>
       rw[hB2]at e2;refine .inr ⟨λh=>?_,?_⟩
       .obtain⟨l,hl,hx⟩:=List.any_eq_true.1 hB2;exact of_decide_eq_true hx ((hT.1 (hfin.1 h)).2.2 l hl)
       .simp(maxSteps:=300000) (disch:=omega)[↓ac,↓aa,-bq,hcm,x5,y5,z1,z2,z3,z4,z5,e1,g0,g1,hsm,e2]
      |false =>
       rw[hB2]at e2;refine .inl ⟨hfin.2 (hT.2 ⟨hhd,h6,λl hl=>?_⟩),?_⟩
       .have:=sM.1 hB2 l hl;simpa using this
       .simp(maxSteps:=300000) (disch:=omega)[↓ac,↓aa,-bq,hcm,x5,y5,z1,z2,z3,z4,z5,e1,g0,g1,hsm,e2]
def atl {l:V_}:∀x∈gU l,∀y∈x,lL y=true:=by
 intro x hx y hy;simp only[gU,dz]at hx;obtain⟨b,_,rfl⟩:=hx;simp only[aC,cW,fk]at hy;subst hy;rfl
def Yi (xs:R_)(hx:xs.length<=1000)(h:am)(N:Nat):∀(r:R_) (i:Nat) (n:Nat),xs.drop i=r->n+r.flatten.length<=1000000000->
  (Dn prog).code (.loop j8) ⟨[(0,.d (.lst (dq xs))),(3,A_ n),(9,.d (.lst (dq xs))),(10,A_ xs.length),(11,A_ i)],⟨h,N⟩⟩ =
  some (.exit 0,⟨[(0,.d (.lst (dq xs))),(3,A_ (n+r.flatten.length:Nat))],⟨h,N⟩⟩):=by
 intro r
 induction r with
 |nil =>
  intro i n hd hn;have hi:=bg hd;rw[ah oB];simp(maxSteps:=300000) (disch:=omega)[↓aa]
 |cons l r ih =>
  intro i n hd hn;have hg:=Aw hd;have hlt:=bE hd;simp only[dt,al]at hn⊢;have h5:=ih (i+1) (n+l.length) (bt hd) o_;have c1:((i+1:Nat):Int)=(i:Int)+1:=rfl;have c2:((n+l.length:Nat):Int)=(n:Int)+l.length:=rfl;rw[c1,c2,dB]at h5;rw[ah oB,<-h5];simp(maxSteps:=300000) (disch:=omega)[↓ac,↓aa,hg,sn]
def aoK (xs:R_)(hx:xs.length<=1000)(h:am)(N:Nat):∀(r:R_) (i:Nat) (acc:V_),xs.drop i=r->acc.length+r.flatten.length<=1000000000->
  (Dn prog).code (.loop iB) ⟨[(6,.own false 1 (gU acc)),(25,.d (.lst (dq xs))),(26,A_ xs.length),(27,A_ i)],⟨h,N⟩⟩ =
  some (.exit 2,⟨[(6,.own false 1 (gU (acc++r.flatten)))],⟨h,N⟩⟩):=by
 intro r
 induction r with
 |nil =>
  intro i acc hd hn;have hi:=bg hd;rw[ah fO];simp(maxSteps:=300000) (disch:=omega)[↓aa]
 |cons l r ih =>
  intro i acc hd hn;have hg:=Aw hd;have hlt:=bE hd;simp only[dt,al]at hn⊢;have h5:=ih (i+1) (acc++l) (bt hd) (by simp only[al];omega);have c1:((i+1:Nat):Int)=(i:Int)+1:=rfl;rw[c1,ax]at h5;rw[ah fO,<-h5];simp(maxSteps:=300000) (disch:=omega)[↓ac,↓aa,hg,sn,avH]
def as3 (n:Nat)(hn:0<n∧n<=1000000000):(Dn prog).call u5 [.nl,A_ n] ⟨[],0⟩=some (.sl 0 0 0,⟨[(0,.arr 1 (List.replicate n [.bool false]))],1⟩):=by
 have e1:dW (A_ n) aU=some n:=by rw[xy o_ (by simp only[aU];omega)];simp
 have e2:Hx [.bool false] [] .nl (A_ n)=some (.own true 1 (List.replicate n [.bool false]),[]):=by
  unfold Hx;rw[e1];obtain⟨m,rfl⟩:∃m,n=m+1:=⟨n-1,o_⟩
  simp(maxSteps:=300000) (disch:=omega)[cJ,↓ac]
 have e0:dW (A_ 0) n=some 0:=xy o_ o_;have e3:l7 [] 1 .nl none (some (.int .i64 0)) none=some .nl:=rfl;have e4:l7 [(0,.arr 1 (List.replicate n [D.bool false]))] 1 (.sl 0 0 n) none (some (.int .i64 0)) none=some (.sl 0 0 0):=by
  simp[l7,okSl,uU,lenOf,xg,e0,vI]
 rw[aZ Dx Dt rfl];simp(maxSteps:=300000) (disch:=omega)[↓ac,↓aa,abP,e2,e3,e4]
def auj (xs:R_)(hx:xs.length<=1000)(hn:0<xs.flatten.length∧xs.flatten.length<=1000000000):bi prog rO [.d (.lst (dq xs))]=some (.own true 1 (gU xs.flatten)):=by
 have h0:=Yi xs hx [] 0 xs 0 0 rfl o_;have h2:=as3 xs.flatten.length hn;have c0:((0:Nat):Int)=0:=rfl;rw[bC,c0]at h0;have hne:xs≠[]:=by intro h;subst h;simp at hn
 obtain⟨l,r,e⟩:=de hne;have h1:=aoK xs hx [] 1 r 1 l (by rw[e];rfl) (by rw[e]at hn;simpa using hn.2);have hg:=Aw (g:=xs) (i:=0) (l:=l) (r:=r) (by rw[e];rfl);have hlt:0<xs.length:=bN.2 hne;have e5:l++r.flatten=xs.flatten:=by rw[e];rfl
 rw[e5]at h1;have hll:l.length<=1000000000:=by rw[<-e5,al]at hn;omega
 clear e5 e;generalize xs.flatten=F at *;have c1:((1:Nat):Int)=1:=rfl;rw[c1]at h1;rw[aH AT AH rfl];simp(maxSteps:=300000) (disch:=omega)[↓ac,↓aa,h0,h2];rw[ah fO];simp(maxSteps:=300000) (disch:=omega)[↓ac,↓aa,hg,sn,h1];exact atl
def aj8 (xs:R_)(hx:xs.length<=1000)(h:am)(N:Nat):∀(r:R_) (i:Nat),xs.drop i=r->(∀l∈r,l=[])->
  (Dn prog).code (.loop iB) ⟨[(6,.nl),(25,.d (.lst (dq xs))),(26,A_ xs.length),(27,A_ i)],⟨h,N⟩⟩ =
  some (.exit 2,⟨[(6,.nl)],⟨h,N⟩⟩):=by
 intro r
 induction r with
 |nil =>
  intro i hd hn;have hi:=bg hd;rw[ah fO];simp(maxSteps:=300000) (disch:=omega)[↓aa]
 |cons l r ih =>
  intro i hd hn;have hl:=hn l (.head _);subst hl;have hg:=Aw hd;have hlt:=bE hd;have h5:=ih (i+1) (bt hd) λq hq=>hn q (.tail _ hq)
  have c1:((i+1:Nat):Int)=(i:Int)+1:=rfl;have n0:gU []=[]:=rfl;rw[c1]at h5;rw[n0]at hg;rw[ah fO,<-h5];simp(maxSteps:=300000) (disch:=omega)[↓ac,↓aa,hg]
def To:(Dn prog).call u5 [.nl,A_ 0] ⟨[],0⟩=some (.nl,⟨[],0⟩):=by
 rw[aZ Dx Dt rfl];simp(maxSteps:=300000) (disch:=omega)[↓ac,↓aa,abP]
def axc (xs:R_)(hx:xs.length<=1000)(hn:xs.flatten.length<=1000000000)(X:AV)(hX:eV X (dq xs)):∃v,bi prog rO [X]=some v∧firm v=aD 1 (gU xs.flatten):=by
 by_cases h:0<xs.flatten.length
 .have hne:dq xs≠[]:=λh2=>by
   have:=aX List.length h2;rw[II,bf]at this;rw[ay this]at h;simp at h
  refine⟨.own true 1 (gU xs.flatten),by rw[hX.ne hne];exact auj xs hx ⟨h,hn⟩,?_⟩;rw[lC]
  .rfl
  .intro h2;have:=aX List.length h2;rw[sn,bf]at this;omega
 .have h0:xs.flatten=[]:=ay o_;have hz:∀l∈xs,l=[]:=λl hl=>List.flatten_eq_nil_iff.1 h0 l hl
  refine⟨.nl,?_,by rw[h0];rfl⟩;rw[aH AT AH rfl];rcases hX with rfl|⟨rfl,hX⟩
  .have e0:=Yi xs hx [] 0 xs 0 0 rfl o_;have e1:=aj8 xs hx [] 0 xs 0 rfl hz;have c0:((0:Nat):Int)=0:=rfl;rw[bC,c0,h0,bf,c0]at e0;rw[c0]at e1;simp(maxSteps:=300000) (disch:=omega)[↓ac,↓aa,e0,e1,To]
  .simp(maxSteps:=300000) (disch:=omega)[↓ac,↓aa,To];rw[ah oB];simp(maxSteps:=300000) (disch:=omega)[↓ac,↓aa,To];rw[ah fO];simp(maxSteps:=300000) (disch:=omega)[↓ac,↓aa,To]
def cg (l:C_):C_:=l.flatMap λn=>aq n 8
def gJ:∀{l:C_},(cg l).length=8*l.length
 |[]=>rfl
 |n::r=>by have:=gJ (l:=r);rw[cg]at this⊢;rw[aE,al,dI,ar];omega
abbrev aEn (l:C_)(i:Int)(N:Nat):aV:=[(4,.ptr 0 0),(15,.d (.lst (ai l))),(16,A_ l.length),(17,A_ i),(23,.fn pt [] [.ptr (N+1) 0,.ptr N 0])]
abbrev hp8 (l:C_)(i n:Int)(N:Nat)(b:C_):am:=[(0,.cells [.own false 1 (ai b)]),(N,.cells [A_ n]),(N+1,.cells [A_ 8]),(N+2,.loop (aEn l i N) [24] tC tM false none)]
def aFv (l:C_)(i n:Int)(N:Nat)(hN:1<=N)(b:C_)(x:Nat)(hb:b.length<=800000000) :
  cq (Dn prog) (.yield (N+2)) [.d (.int .u8 (x:Int))] ⟨hp8 l i n N b,N+2+1⟩=some (B_ true,⟨hp8 l i n N (b++[x]),N+2+1⟩):=by
 have hl:=bw (l:=b);have n1:N≠0∧N+1≠0∧N+2≠0:=o_;simp(maxSteps:=300000) (disch:=omega)[WV,WU,↓ac,↓aa]
def azJ (n k:Int)(c:Obj)(N:Nat)(hN:1<=N):(Dn prog).call LU [A_ n,A_ k] ⟨[(0,c)],N⟩=some (.fn pt [] [.ptr (N+1) 0,.ptr N 0],⟨[(0,c),(N,.cells [A_ n]),(N+1,.cells [A_ k])],N+1+1⟩):=by
 rw[aZ Vk VM rfl];simp(maxSteps:=300000) (disch:=omega)[↓ac,↓aa]
def alJ {z:Y_}{n:Int}(h:0<=n∧n<=1000000000):Fn z (A_ 0) (A_ n)=some (.own true z.length []):=by
 obtain⟨n,rfl⟩:=az h.1;have h1:dW (A_ (n:Int)) aU=some n:=by rw[xy o_ (by simp only[aU];omega)];simp
 have h2:dW (A_ 0) n=some 0:=xy o_ o_;simp only[Fn,h1,h2];rfl
def ao5 (l:C_)(hl:l.length<=100000)(hl2:∀n∈l,n<=255):∀(r:C_) (i N:Nat) (b:C_),l.drop i=r->b.length<=8*i->1<=N->
  ∃M,(Dn prog).code (.loop tS) ⟨[(4,.ptr 0 0),(15,.d (.lst (ai l))),(16,A_ l.length),(17,A_ i)],⟨[(0,.cells [.own false 1 (ai b)])],N⟩⟩ =
  some (.exit 0,⟨[(4,.ptr 0 0)],⟨[(0,.cells [.own false 1 (ai (b++cg r))])],M⟩⟩):=by
 intro r
 induction r with
 |nil =>
  intro i N b hd hb hN;have hi:=bg hd;refine⟨N,?_⟩;rw[ah Au];simp(maxSteps:=300000) (disch:=omega)[↓ac,↓aa,cg]
 |cons n r ih =>
  intro i N b hd hb hN;have hlt:=bE hd;have hn:=hl2 n (bG (by rw[hd];exact .head _));have hg:(ai l)[i]?=some [.int .u8 n]:=by
   have:=aX (λl=>l[0]?) hd;simp only[b6,ck,dQ]at this;rw[ai,bY,this];rfl
  have h1:=aqI (hp:=hp8 l i n N) (l:=N+2) (p:=N) (q:=N+1) (N:=N+2+1) (st:=λs x=>s++[x]) (dr:=λk s=>s.length+k<=800000000) (λk s x h=>by simp only[al,ar,bf];omega) n 8 o_ (by omega)
   (λs=>by simp(maxSteps:=300000) (disch:=omega)[↓aa,↓ac]) (λs=>by simp(maxSteps:=300000) (disch:=omega)[↓aa,↓ac]) (λk s x h _=>aFv l i n N hN s x o_) b (by omega)
  rw[aiL]at h1;obtain⟨M,h5⟩:=ih (i+1) (N+2+1) (b++aq n 8) (bt hd) g_ o_;refine⟨M,?_⟩;have c1:((i+1:Nat):Int)=(i:Int)+1:=rfl;have e:b++cg (n::r)=b++aq n 8++cg r:=by rw[cg,aE,ax];rfl
  rw[c1]at h5;have n1:N≠0∧N+1≠0∧N+2≠0:=o_;rw[ah Au,e,<-h5];simp(maxSteps:=300000) (disch:=omega)[↓ac,↓aa,hg,n1,rd,azJ,h1]
def E9 (l:C_)(hl:l.length<=100000)(hl2:∀n∈l,n<=255)(X:AV)(hX:eV X (ai l)):bi prog Gu [X]=some (.tup [.own true 1 (ai (cg l)),A_ 0]):=by
 have hl3:=bw (l:=l);have n0:ai []=[]:=rfl;have c0:((0:Nat):Int)=0:=rfl;obtain⟨M,h⟩:=ao5 l hl hl2 l 0 1 [] rfl s_ (ak _);rw[c0,n0,aK]at h;rw[aH ae4 aeD rfl];rcases hX with rfl|⟨rfl,hX⟩
 .simp(maxSteps:=300000) (disch:=omega)[↓ac,↓aa,alJ,h]
 .have:l=[]:=ay (by rw[hX]at hl3;simpa using hl3.symm);subst this;simp(maxSteps:=300000) (disch:=omega)[↓ac,↓aa,alJ];rw[ah Au];simp(maxSteps:=300000) (disch:=omega)[↓ac,↓aa,cg];rfl
def afj {hp:AV->am}{p N:Nat}(H:Hv hp p){x:AV}{b:C_}(hx:inB x b)(hb:b.length<=900000000)(n s:Int)(ho:nq n s)(hn:i64 n) :
  (Dn prog).call fp [A_ n,A_ s,.ptr p 0] ⟨hp x,N⟩=some (.tup [],⟨hp (.own false 1 (ai (b++aq n.toNat s.toNat))),N⟩):=by
 have h1:=λx hx=>lm b n s hb hn x hx
 simp only[ac ho]at h1;rw[aZ aaD Z3 rfl];rcases hx with rfl|rfl|⟨rfl,rfl⟩
 .have h2:=h1 _ (.inl rfl);simp(maxSteps:=300000) (disch:=omega)[H.get,H.put,h2]
 .have h2:=h1 _ (.inl rfl);simp(maxSteps:=300000) (disch:=omega)[H.get,H.put,h2]
 .have h2:=h1 _ (.inr ⟨rfl,rfl⟩);simp(maxSteps:=300000) (disch:=omega)[H.get,H.put,h2]
def H7 {hp:AV->am}{p N:Nat}(H:Hv hp p){x:AV}{b:C_}(hx:inB x b)(hb:b.length<=900000000)(n s:Nat)(hs:s<=31)(ho:n<2 ^ s)(nI sI:Int)(en:nI=n)(es:sI=s) :
  (Dn prog).call fp [A_ nI,A_ sI,.ptr p 0] ⟨hp x,N⟩=some (.tup [],⟨hp (.own false 1 (ai (b++aq n s))),N⟩):=by
 subst en es;have h31:2 ^ s<=2 ^ 31:=aw o_ hs;exact afj H hx hb n s (by simp only[nq,au];omega) (by omega)
def amm (b:Bool):bi prog adg [B_ b]=some (A_ (cond b 1 0:Nat)):=by
 rw[aH arH aql rfl]
 cases b<;>simp(maxSteps:=300000) (disch:=omega)
abbrev Yx (C F:D_)(v:AV):am:=[(0,.cells C),(1,.cells F),(2,.cells [v])]
def ayI (C F:D_):Hv (Yx C F) 2:=⟨λv=>by simp,λv w=>by simp⟩
def tY (l:V_):C_:=l.flatMap λb=>aq (cond b 1 0) 1
def Ta:∀{l:V_},(tY l).length=l.length
 |[]=>rfl
 |n::r=>by have:=Ta (l:=r);rw[tY]at this⊢;rw[aE,al,dI,ar];omega
def anN (C F:D_)(l:V_)(hl:l.length<=1000000)(N:Nat):∀(r:V_) (i:Nat) (b:C_),l.drop i=r->b.length+r.length<=900000000->
  (Dn prog).code (.loop tQ) ⟨[(2,.ptr 0 0),(3,.ptr 1 0),(4,.ptr 2 0),(5,.fn fp [] [.ptr 2 0]),(45,aD 1 (gU l)),(46,A_ l.length),(47,A_ i)],⟨Yx C F (.own false 1 (ai b)),N⟩⟩ =
  some (.exit 1,⟨[(2,.ptr 0 0),(3,.ptr 1 0),(4,.ptr 2 0),(5,.fn fp [] [.ptr 2 0])],⟨Yx C F (.own false 1 (ai (b++tY r))),N⟩⟩):=by
 intro r
 induction r with
 |nil =>
  intro i b hd hb;have hi:=bg hd;rw[ah JN];simp(maxSteps:=300000) (disch:=omega)[↓aa,tY]
 |cons x r ih =>
  intro i b hd hb;simp only[ar]at hb;have hg:=alS hd;have hlt:=bE hd;have hne:gU l≠[]:=λh=>by have:=aX List.length h;rw[sn,bf]at this;omega
  have hc:(cond x 1 0:Nat)<=1:=by cases x<;>decide
  have h1:=H7 (ayI C F) (N:=N) (jG (b:=b)) o_ (cond x 1 0) 1 k_ o_ (cond x 1 0:Nat) 1 rfl rfl;have h2:=amm x;have h5:=ih (i+1) (b++aq (cond x 1 0) 1) (bt hd) g_;have c1:((i+1:Nat):Int)=(i:Int)+1:=rfl;rw[c1,ax,lC hne]at h5;have e:tY (x::r)=aq (cond x 1 0) 1++tY r:=rfl;simp only[Yx]at h1 h5⊢;rw[ah JN,e,<-h5,lC hne];generalize ((cond x 1 0:Nat):Int)=K at *;simp(maxSteps:=300000) (disch:=omega)[↓ac,↓aa,hg,h1,h2]
def jK (rt:Nat)(q:Bool)(l:BB_):C_:=l.flatMap λc=>Jk rt c q
def OX {rt:Nat}{q:Bool}(hR:rt<=11):∀{l:BB_},(∀c∈l,c.Fit∧ph rt c)->(jK rt q l).length<=170000000*l.length
 |[],_=>by simp[jK]
 |c::r,h=>by
  have a:=aiY (h c (.head _)).1 (h c (.head _)).2 hR q;have b:=OX hR (l:=r) (q:=q) λx hx=>h x (.tail _ hx)
  rw[jK]at b⊢;rw[aE,al,ar];omega
def anO (R:Nat)(hR:R<=11)(n:Int)(c2 c3:AV)(f:gW)(A:AV)(m:Int)(Y Z:AV)(l:BB_)(hl:l.length<=2)(hc:∀c∈l,c.Fit∧ph R c):∀(r:BB_) (i N:Nat) (b:C_),l.drop i=r->b.length<=1000+170000000*i->3<=N->
  ∃M,(Dn prog).code (.loop tN) ⟨[(2,.ptr 0 0),(3,.ptr 1 0),(4,.ptr 2 0),(5,.fn fp [] [.ptr 2 0]),(63,.d (.lst (dJ l))),(64,A_ l.length),(65,A_ i)],⟨Yx [A_ R,A_ n,c2,c3] [A,B_ f.common,A_ m,Y,Z] (.own false 1 (ai b)),N⟩⟩ =
  some (.exit 3,⟨[(3,.ptr 1 0),(4,.ptr 2 0),(5,.fn fp [] [.ptr 2 0])],⟨[(1,.cells [A,B_ f.common,A_ m,Y,Z]),(2,.cells [.own false 1 (ai (b++jK R f.common r))])],M⟩⟩):=by
 intro r
 induction r with
 |nil =>
  intro i N b hd hb hN;have hi:=bg hd;refine⟨N,?_⟩;rw[ah Jl];simp(maxSteps:=300000) (disch:=omega)[↓aa,jK]
 |cons c r ih =>
  intro i N b hd hb hN;have hg:=Ej hd;have hlt:=bE hd;obtain⟨hcf,hcm⟩:=hc c (bG (by rw[hd];exact .head _));have hil:=aiY hcf hcm hR f.common;have hp:bi prog FX [.d (.lst (ai b)),A_ R,.agg c.av,B_ f.common]=some (.tup [.own true 1 (ai (b++Jk R c f.common)),A_ 0]):=by
   rcases avw b o_ _ (.inl rfl) R c hcf f.common with ⟨_,_,h⟩|⟨e,he,h,h2,_⟩
   .simpa using h
   .exact absurd hcm (by have:=h2 (by simp only[dR];omega);simpa using this)
  simp only[c7.av]at hp;obtain⟨M,h5⟩:=ih (i+1) (N+1) (b++Jk R c f.common) (bt hd) g_ o_;refine⟨M,?_⟩;have c1:((i+1:Nat):Int)=(i:Int)+1:=rfl;rw[c1,ax]at h5;have e:jK R f.common (c::r)=Jk R c f.common++jK R f.common r:=rfl;have n0:N≠0∧N≠1∧N≠2:=o_;simp only[Yx]at h5⊢;rw[ah Jl,e,<-h5];generalize b++Jk R c f.common=B1 at *;simp(maxSteps:=300000) (disch:=omega)[↓ac,↓aa,hg,hp]
abbrev kf:=@Int.tmod_eq_emod_of_nonneg
def acu (n:Nat):Nat:=(8-n % 8) % 8
def LX (b:C_):C_:=b++List.replicate (acu b.length) 0
def nb (l:C_):C_:=if l=[] then [] else aq 6 3++(aq (min l.length 15) 4++((if 15<=l.length then aq (l.length-14) 8 else [])++cg l))
def aFk:Hv (λv=>[(2,.cells [v])]) 2:=⟨λv=>by simp,λv w=>by simp⟩
def aoW (F:D_):Hv (λv=>[(1,.cells F),(2,.cells [v])]) 2:=⟨λv=>by simp,λv w=>by simp⟩
def xn {a b:C_}:ai (a++b)=ai a++ai b:=by simp[ai]
def aui {h:am}{b:C_}(hb:b.length<=900000000)(k:Nat)(hk:k<=8)(K:Int)(hK:K=k):Hx [.int .u8 0] h (.own false 1 (ai b)) (A_ K)=some (.own false 1 (ai (b++List.replicate k 0)),h):=by
 subst hK;have e1:dW (A_ k) aU=some k:=by rw[xy o_ (by simp only[aU];omega)];simp
 have e2:List.replicate k [D.int .u8 0]=ai (List.replicate k 0):=by simp[ai]
 have e3:(ai (List.replicate k 0)).length=k:=by rw[bw];simp
 have hl:=bw (l:=b);unfold Hx;rw[e1];simp only[e2,xn];generalize ai (List.replicate k 0)=Z at *;generalize ai b=B at *;simp(maxSteps:=300000) (disch:=omega);exact⟨o_,ac o_⟩
def akL (b:C_)(hb:b.length<=800000000)(N:Nat):(Dn prog).code (.seq qU (.seq rB .ret)) ⟨[(4,.ptr 2 0),(5,.fn fp [] [.ptr 2 0])],⟨[(2,.cells [.own false 1 (ai b)])],N⟩⟩ =
  some (.ret,⟨[(4,.ptr 2 0)],⟨[(2,.cells [.own false 1 (ai (LX (b++aq 7 3)))])],N⟩⟩):=by
 have h1:=H7 aFk (N:=N) (jG (b:=b)) o_ 7 3 k_ k_ 7 3 rfl rfl;have hl:(ai (b++aq 7 3)).length=b.length+3:=by rw[bw,al,dI]
 obtain⟨r,hr⟩:∃r,r=(b.length+3) % 8:=⟨_,rfl⟩
 have t1:((b.length:Int)+3).tmod 8=(r:Int):=by rw[kf o_];omega
 have t2:(8-(r:Int)).tmod 8=(((8-r) % 8:Nat):Int):=by rw[kf o_];omega
 have e:b++aq 7 3++List.replicate ((8-r) % 8) 0=LX (b++aq 7 3):=by rw[LX,acu,al,dI,hr]
 have h2:=λh K hK=>aui (h:=h) (b:=b++aq 7 3) g_ ((8-r) % 8) o_ K hK
 rw[e]at h2;have h3:=λh=>h2 h _ t2
 generalize LX (b++aq 7 3)=B2 at *;generalize b++aq 7 3=B1 at *;simp(maxSteps:=300000) (disch:=omega)[↓ac,↓aa,h1,hl,t1,h3]
def ahs (A0 A1 A2 A3 Z:AV)(l:C_)(hl:l.length<=269)(hl2:∀n∈l,n<=255)(hZ:eV Z (ai l))(b:C_)(hb:b.length<=700000000)(N:Nat)(T:VC) :
  (Dn prog).code (.seq (.seq rk
 (.seq qW
 (.cond (.m 84)
 (.seq qT
 (.seq rg
 (.seq (.seq rA
 (.cond (.m 92)
 qL
 (.seq (K [10]) .skip)))
 (.seq (.seq rq (F 3))
 qI))))
 (.seq (.seq (K [10]) (F 3)) .skip)))) T) ⟨[(3,.ptr 1 0),(4,.ptr 2 0),(5,.fn fp [] [.ptr 2 0])],⟨[(1,.cells [A0,A1,A2,A3,Z]),(2,.cells [.own false 1 (ai b)])],N⟩⟩ =
  (Dn prog).code T ⟨[(4,.ptr 2 0),(5,.fn fp [] [.ptr 2 0])],⟨[(2,.cells [.own false 1 (ai (b++nb l))])],N⟩⟩:=by
 obtain⟨⟨z1,z2,z3⟩,z4,z5⟩:=hZ.facts;have zl:=bw (l:=l);have hu:=E9 l o_ hl2 Z hZ;have ul:=gJ (l:=l);have uz:=bw (l:=cg l);by_cases h0:l.length=0
 .have:l=[]:=ay h0;rw[nb,ac this,bh];simp(maxSteps:=300000) (disch:=omega)[↓ac,↓aa,-bq,z1,z2,z3,z4,z5]
 have hne:l≠[]:=λh=>h0 (by rw[h];rfl)
 have hze:=hZ.ne λh=>h0 (by rw[h]at zl;exact zl.symm)
 subst hze;rw[nb,aa hne];have p1:=H7 (aoW [A0,A1,A2,A3,.d (.lst (ai l))]) (N:=N) (jG (b:=b)) o_ 6 3 k_ k_ 6 3 rfl rfl;have p2:=λnI h=>H7 (aoW [A0,A1,A2,A3,.d (.lst (ai l))]) (N:=N) (jG (b:=b++aq 6 3)) g_ (min l.length 15) 4 k_ o_ nI 4 h rfl
 by_cases h15:15<=l.length
 .have p3:=H7 (aoW [A0,A1,A2,A3,.d (.lst (ai l))]) (N:=N) (jG (b:=b++aq 6 3++aq (min l.length 15) 4)) g_ (l.length-14) 8 k_ o_ ((l.length:Int)-14) 8 o_ rfl;rw[ac h15];simp only[<-ax];have hl3:(b++aq 6 3++aq (min l.length 15) 4++aq (l.length-14) 8).length<=800000000:=by simp;omega
  have e:ai (b++aq 6 3++aq (min l.length 15) 4++aq (l.length-14) 8)++ai (cg l)=ai (b++aq 6 3++aq (min l.length 15) 4++aq (l.length-14) 8++cg l):=xn.symm;generalize b++aq 6 3++aq (min l.length 15) 4++aq (l.length-14) 8++cg l=B9 at *;generalize b++aq 6 3++aq (min l.length 15) 4++aq (l.length-14) 8=B3 at *;generalize b++aq 6 3++aq (min l.length 15) 4=B2 at *;generalize b++aq 6 3=B1 at *;generalize cg l=U at *;by_cases h16:15<l.length
  .have p2:=p2 15 o_;simp(maxSteps:=300000) (disch:=omega)[↓ac,↓aa,-bq,z1,z2,z3,z4,z5,p1,p2,p3,hu,e]
  .have p2:=p2 l.length o_;simp(maxSteps:=300000) (disch:=omega)[↓ac,↓aa,-bq,z1,z2,z3,z4,z5,p1,p2,p3,hu,e]
 .rw[aa h15,aK];simp only[<-ax];have hl3:(b++aq 6 3++aq (min l.length 15) 4).length<=800000000:=by simp;omega
  have e:ai (b++aq 6 3++aq (min l.length 15) 4)++ai (cg l)=ai (b++aq 6 3++aq (min l.length 15) 4++cg l):=xn.symm;generalize b++aq 6 3++aq (min l.length 15) 4++cg l=B9 at *;generalize b++aq 6 3++aq (min l.length 15) 4=B2 at *;generalize b++aq 6 3=B1 at *;generalize cg l=U at *;have p2:=p2 l.length o_;simp(maxSteps:=300000) (disch:=omega)[↓ac,↓aa,-bq,z1,z2,z3,z4,z5,p1,p2,hu,e]
def Ub (f:gW):C_:=match f.chans with
 |[]=>[]
 |c::_=>kb c.info
def iF (n:Int)(f:gW):C_:=if n=1 then aq 0 3++aq 0 4 else if f.common then aq 1 3++aq 0 4++aq 1 1++Ub f++aq f.mask.toNat 2++tY f.bands.flatten else aq 1 3++aq 0 4++aq 0 1
def tf (R:Nat)(n:Int)(f:gW):C_:=LX (iF n f++jK R f.common f.chans++nb f.fill++aq 7 3)
def acX {k:Nat}:∀{l:R_},(∀x∈l,x.length<=k)->l.flatten.length<=k*l.length
 |[],_=>by simp
 |x::r,h=>by
  have a:=h x (.head _);have b:=acX (l:=r) λy hy=>h y (.tail _ hy)
  rw[dt,al,ar,Nat.mul_add];omega
def adz {R:Nat}(hR:R<=11){n:Int}{f:gW}(ok:qx R n f):f.bands.flatten.length<=320:=by
 have h:=ok.rest
 cases hc:f.chans with
 |nil=>rw[hc]at h;exact h.elim
 |cons c r =>
  rw[hc]at h;have hm:=ok.may c (by rw[hc];exact .head _);have hmx:=je (gQ hR hm.info);obtain⟨g1,g2⟩:=dO (gQ hR hm.info);have hmm:c.info.many<=8:=by unfold aO.many;split<;>omega
  have hgl:c.info.groups.length<=8:=by have:=lG (λn hn=>(g1 n hn).1);omega
  simp only[NS]at h;split at h
  .obtain⟨_,h⟩:=h;split at h
   .obtain⟨h1,h2⟩:=h;have:=acX (k:=40) (l:=f.bands) λx hx=>by have:=h2 x hx;omega
    omega
   .rw[h];simp
  .rw[h.2];simp
def eV.view {x:AV}{l:E_}(h:eV x l):(∀hp,viewArg hp x=some x)∧tz x=false:=by
 rcases h with rfl|⟨rfl,rfl⟩<;>exact⟨λ_=>rfl,rfl⟩
def VR (R:Nat)(hR:R<=11)(n:Int)(hn:n=1∨n=2)(cb:Bool)(cz:Int)(f:gW)(hf:f.Fit)(ok:qx R n f)(X Y Z:AV)(hX:eV X (dJ f.chans))(hY:eV Y (dq f.bands))(hZ:eV Z (ai f.fill)) :
  bi prog P5 [mS R n cb cz,p9 f X Y Z]=some (.own true 1 (ai (tf R n f))):=by
 obtain⟨⟨y1,y2,y3⟩,y4,y5⟩:=hY.facts;obtain⟨⟨z1,z2,z3⟩,z4,z5⟩:=hZ.facts;have hlen:=ok.len;have hfl:=ok.fill;have hmk:=ok.mask;have hne:dJ f.chans≠[]:=λh=>by have:=aX List.length h;rw[DW,bf]at this;omega
 have hxe:=hX.ne hne;subst hxe;have hmay:∀c∈f.chans,c.Fit∧ph R c:=λc hc=>⟨hf.chans.2 c hc,ok.may c hc⟩
 have hcl:=OX hR (q:=f.common) hmay;have hbl:=adz hR ok;have hr:dR R:=by simp only[dR];omega
 rw[aH aeF aeP rfl];obtain⟨T,hT⟩:∃T,T=(VC.seq (.seq rk
 (.seq qW
 (.cond (.m 84)
 (.seq qT
 (.seq rg
 (.seq (.seq rA
 (.cond (.m 92)
 qL
 (.seq (K [10]) .skip)))
 (.seq (.seq rq (F 3))
 qI))))
 (.seq (.seq (K [10]) (F 3)) .skip))))
 (.seq qU
 (.seq rB
 .ret))):=⟨_,rfl⟩
 rw[<-hT];have hfill:(nb f.fill).length<=10000:=by
  unfold nb;split
  .simp
  .simp only[al,dI,gJ];split<;>simp<;>omega
 have hTr:∀(b:C_) (N:Nat),b.length<=600000000->(Dn prog).code T ⟨[(3,.ptr 1 0),(4,.ptr 2 0),(5,.fn fp [] [.ptr 2 0])],⟨[(1,.cells [.d (.lst (dJ f.chans)),B_ f.common,A_ f.mask,Y,Z]),(2,.cells [.own false 1 (ai b)])],N⟩⟩=some (.ret,⟨[(4,.ptr 2 0)],⟨[(2,.cells [.own false 1 (ai (LX (b++nb f.fill++aq 7 3)))])],N⟩⟩):=by
  intro b N hb;rw[hT,ahs _ _ _ _ Z f.fill hfl hf.fillI hZ b o_ N _,akL _ (by rw[al];omega)]
 have hL:=fun(b:C_) (hb:b.length<=1000)=>anO R hR n (B_ cb) (A_ cz) f (.d (.lst (dJ f.chans))) f.mask Y Z f.chans o_ hmay f.chans 0 3 b rfl o_ (ak _)
 have c0:((0:Nat):Int)=0:=rfl;simp only[c0,Yx]at hL;have pp:=λ{x:AV}{b:C_}(hx:inB x b) (hb:b.length<=1000)=>H7 (ayI [A_ R,A_ n,B_ cb,A_ cz] [.d (.lst (dJ f.chans)),B_ f.common,A_ f.mask,Y,Z]) (N:=3) hx (by omega)
 simp only[Yx]at pp;by_cases hn1:n=1
 .subst hn1;have q1:=pp (.inr (.inr ⟨rfl,rfl⟩)) s_ 0 3 k_ k_ 0 3 rfl rfl;have q2:=pp (jG (b:=[]++aq 0 3)) s_ 0 4 k_ k_ 0 4 rfl rfl;have e:iF 1 f=[]++aq 0 3++aq 0 4:=by rw[iF,ac rfl];rfl
  obtain⟨M,h1⟩:=hL (iF 1 f) (by rw[e];simp);have h2:=hTr (iF 1 f++jK R f.common f.chans) M (by rw[al,e];simp;omega);have ew:LX (iF 1 f++jK R f.common f.chans++nb f.fill++aq 7 3)=tf R 1 f:=rfl;rw[<-e]at q2;rw[ew]at h2;generalize tf R 1 f=W at *;generalize iF 1 f++jK R f.common f.chans=B2 at *;generalize iF 1 f=B1 at *;generalize []++aq 0 3=B0 at *;simp(maxSteps:=300000) (disch:=omega)[↓ac,↓aa,-bq,y1,y2,y3,y4,y5,z1,z2,z3,z4,z5,q1,q2,h1,h2]
 have hn2:n=2:=o_;subst hn2
 cases hch:f.chans with
 |nil=>rw[hch]at hlen;simp at hlen
 |cons c r =>
 have hdr:f.chans.drop 0=c::r:=hch;obtain⟨k0,g0⟩:=aN.1 (Ej hdr);have hcm:=ok.may c (by rw[hch];exact .head _);rw[<-hch];have q1:=pp (.inr (.inr ⟨rfl,rfl⟩)) s_ 1 3 k_ k_ 1 3 rfl rfl;have q2:=pp (jG (b:=[]++aq 1 3)) s_ 0 4 k_ k_ 0 4 rfl rfl;have hb1:=amm f.common;have xl:=DW (l:=f.chans)
 cases hco:f.common with
 |false =>
  have q3:=pp (jG (b:=[]++aq 1 3++aq 0 4)) s_ 0 1 k_ k_ 0 1 rfl rfl;have e:iF 2 f=[]++aq 1 3++aq 0 4++aq 0 1:=by rw[iF,aa k_,hco];rfl
  obtain⟨M,h1⟩:=hL (iF 2 f) (by rw[e];simp);have h2:=hTr (iF 2 f++jK R f.common f.chans) M (by rw[al,e];simp;omega);have ew:LX (iF 2 f++jK R f.common f.chans++nb f.fill++aq 7 3)=tf R 2 f:=rfl;rw[<-e]at q3;rw[ew]at h2;rw[hco]at q1 q2 q3 h1 h2 hb1;generalize tf R 2 f=W at *;generalize iF 2 f++jK R false f.chans=B2 at *;generalize iF 2 f=B1 at *;generalize []++aq 1 3++aq 0 4=B00 at *;generalize []++aq 1 3=B0 at *;simp only[cond]at hb1;simp(maxSteps:=300000) (disch:=omega)[↓ac,↓aa,-bq,y1,y2,y3,y4,y5,z1,z2,z3,z4,z5,hco,hb1,q1,q2,q3,h1,h2]
 |true =>
  have ht:=ok.rest;simp only[hch,NS,hco,bn]at ht;have hil:=J3 (i:=c.info);have q3:=pp (jG (b:=[]++aq 1 3++aq 0 4)) s_ 1 1 k_ k_ 1 1 rfl rfl;have q4:=agB ([]++aq 1 3++aq 0 4++aq 1 1) s_ _ (.inl rfl) R c.info (hf.chans.2 c (by rw[hch];exact .head _)).info;rw[ac hr,au,ac hcm.info]at q4;have q5:=pp (jG (b:=[]++aq 1 3++aq 0 4++aq 1 1++kb c.info)) g_ f.mask.toNat 2 k_ o_ f.mask 2 o_ rfl;have q6:=anN [A_ R,A_ 2,B_ cb,A_ cz] [.d (.lst (dJ f.chans)),B_ true,A_ f.mask,Y,Z] f.bands.flatten o_ 3 f.bands.flatten 0 ([]++aq 1 3++aq 0 4++aq 1 1++kb c.info++aq f.mask.toNat 2) rfl (by simp only[al,dI,bf];omega);obtain⟨v,v1,v2⟩:=axc f.bands hf.bands.1 o_ Y hY;have e:iF 2 f=[]++aq 1 3++aq 0 4++aq 1 1++kb c.info++aq f.mask.toNat 2++tY f.bands.flatten:=by rw[iF,aa k_,hco,ac rfl,Ub,hch];rfl
  have hml:=Ta (l:=f.bands.flatten);obtain⟨M,h1⟩:=hL (iF 2 f) (by rw[e];simp;omega);have h2:=hTr (iF 2 f++jK R f.common f.chans) M (by rw[al,e];simp;omega);have ew:LX (iF 2 f++jK R f.common f.chans++nb f.fill++aq 7 3)=tf R 2 f:=rfl;rw[<-e]at q6;rw[ew]at h2;rw[hco]at q1 q2 q3 q5 h1 h2 hb1;rw[c0]at q6;simp only[Yx,aO.cells]at q4 q6;generalize tf R 2 f=W at *;generalize iF 2 f++jK R true f.chans=B2 at *;generalize iF 2 f=B1 at *;generalize []++aq 1 3++aq 0 4++aq 1 1++kb c.info++aq f.mask.toNat 2=B04 at *;generalize []++aq 1 3++aq 0 4++aq 1 1++kb c.info=B03 at *;generalize []++aq 1 3++aq 0 4++aq 1 1=B02 at *;generalize []++aq 1 3++aq 0 4=B01 at *;generalize []++aq 1 3=B0 at *;obtain⟨vw1,vw2⟩:=hY.view;have hfv:lenOf (share (aD 1 (gU f.bands.flatten)))=some f.bands.flatten.length:=by
   rw[<-sn (l:=f.bands.flatten)]
   cases gU f.bands.flatten<;>rfl
  simp only[cond]at hb1;clear e hbl hml;generalize f.bands.flatten=FL at *;simp(maxSteps:=300000) (disch:=omega)[↓ac,↓aa,-bq,y1,y2,y3,y4,y5,z1,z2,z3,z4,z5,hco,g0,hb1,q1,q2,q3,q4,q5,q6,vw1,vw2,v1,v2,hfv,h1,h2]
def nj (rt n:Int):Prop:=dR rt∧(n=1∨n=2)
def ZD (rt n:Int)(cb:Bool)(cz:Int):(nj rt n∧bi prog IM [mS rt n cb cz]=some (B_ true))∨(¬nj rt n∧bi prog IM [mS rt n cb cz]=some (B_ false)):=by
 rw[aH ahQ aiX rfl];by_cases h1:0<=rt
 rotate_left
 .refine .inr ⟨λh=>h1 h.1.1,?_⟩;simp(maxSteps:=300000) (disch:=omega)[↓ac,↓aa]
 by_cases h2:rt<=11
 rotate_left
 .refine .inr ⟨λh=>h2 h.1.2,?_⟩;simp(maxSteps:=300000) (disch:=omega)[↓ac,↓aa]
 by_cases h3:n=1
 .refine .inl ⟨⟨⟨h1,h2⟩,.inl h3⟩,?_⟩;simp(maxSteps:=300000) (disch:=omega)[↓ac,↓aa,h3]
 by_cases h4:n=2
 .refine .inl ⟨⟨⟨h1,h2⟩,.inr h4⟩,?_⟩;simp(maxSteps:=300000) (disch:=omega)[↓ac,↓aa,h4]
 .refine .inr ⟨λh=>h.2.elim h3 h4,?_⟩;simp(maxSteps:=300000) (disch:=omega)[↓ac,↓aa,h3,h4]
def ama {R:Nat}(hR:R<=11){n:Int}{f:gW}(hf:f.Fit)(ok:qx R n f)(hn:n<=2):(tf R n f).length<=400000000:=by
 have h1:=OX hR (q:=f.common) (l:=f.chans) λc hc=>⟨hf.chans.2 c hc,ok.may c hc⟩
 have h2:=adz hR ok;have h3:=Ta (l:=f.bands.flatten);have h4:=ok.len;have h5:=ok.fill;have h6:(nb f.fill).length<=10000:=by
  unfold nb;split
  .simp
  .simp only[al,dI,gJ];split<;>simp<;>omega
 have h7:(Ub f).length<=20:=by
  unfold Ub;split
  .simp
  .exact J3
 have h8:(iF n f).length<=1000:=by
  unfold iF;split
  .simp
  .split
   .simp only[al,dI];omega
   .simp
 have h9:∀m,acu m<=7:=λm=>by unfold acu;omega
 have h10:=h9 (iF n f++jK R f.common f.chans++nb f.fill++aq 7 3).length;rw[tf,LX,al,bU];simp only[al,dI]at h10⊢;omega
theorem eV.one {x:AV}{l:E_}(h:eV x l):((∀hp,viewOne hp x=some x)∧nu x=x)∧vg x=false:=by
 rcases h with rfl|⟨rfl,rfl⟩<;>exact⟨⟨λ_=>rfl,rfl⟩,rfl⟩
def atP (rt n:Int)(cb:Bool)(cz:Int)(f:gW)(hf:f.Fit)(X Y Z:AV)(hX:eV X (dJ f.chans))(hY:eV Y (dq f.bands))(hZ:eV Z (ai f.fill)) :
  (nj rt n∧qx rt.toNat n f∧bi prog Px [mS rt n cb cz,p9 f X Y Z]=some (.tup [A_ ((tf rt.toNat n f).length),A_ 0]))∨
  (¬(nj rt n∧qx rt.toNat n f)∧∃e:Int,e≠0∧bi prog Px [mS rt n cb cz,p9 f X Y Z]=some (.tup [A_ 0,A_ e])):=by
 obtain⟨⟨x1,x2,x3⟩,x4,x5⟩:=hX.facts;obtain⟨⟨y1,y2,y3⟩,y4,y5⟩:=hY.facts;obtain⟨⟨z1,z2,z3⟩,z4,z5⟩:=hZ.facts;obtain⟨⟨vx,ux⟩,wx⟩:=hX.one;obtain⟨⟨vy,uy⟩,wy⟩:=hY.one;obtain⟨⟨vz,uz⟩,wz⟩:=hZ.one;have hcf:=ZD rt n cb cz;simp only[mS,p9]at hcf;rcases hcf with ⟨hc,ec⟩|⟨hc,ec⟩
 rotate_left
 .refine .inr ⟨λh=>hc h.1,2,k_,?_⟩;rw[aH ND OC rfl];simp(maxSteps:=300000) (disch:=omega)[↓ac,↓aa,-bq,x1,x2,x3,x4,y1,y2,y3,y4,z1,z2,z3,z4,ec]
 have hrg:=apS rt n cb cz hc.1 hc.2 f hf X Y Z hX hY hZ;simp only[mS,p9]at hrg;rcases hrg with ⟨hr,er⟩|⟨hr,er⟩
 rotate_left
 .refine .inr ⟨λh=>hr h.2,8,k_,?_⟩;rw[aH ND OC rfl];simp(maxSteps:=300000) (disch:=omega)[↓ac,↓aa,-bq,x1,x2,x3,x4,y1,y2,y3,y4,z1,z2,z3,z4,ux,uy,uz,vx,vy,vz,wx,wy,wz,ec,er]
 refine .inl ⟨hc,hr,?_⟩;obtain⟨R,rfl⟩:=az hc.1.1;simp only[au]at hr⊢;have hR:R<=11:=by have:=hc.1.2;omega
 have hw:=VR R hR n hc.2 cb cz f hf hr X Y Z hX hY hZ;have hwl:=ama hR hf hr (by rcases hc.2 with h|h<;>omega);have hbl:=bw (l:=tf R n f);simp only[mS,p9]at hw;generalize tf R n f=W at *;rw[aH ND OC rfl];simp(maxSteps:=300000) (disch:=omega)[↓ac,↓aa,-bq,x1,x2,x3,x4,y1,y2,y3,y4,z1,z2,z3,z4,ux,uy,uz,vx,vy,vz,wx,wy,wz,ec,er,hw]
def arD (rt n:Int)(cb:Bool)(cz:Int)(f:gW)(hf:f.Fit)(X Y Z:AV)(hX:eV X (dJ f.chans))(hY:eV Y (dq f.bands))(hZ:eV Z (ai f.fill)) :
  (nj rt n∧qx rt.toNat n f∧((tf rt.toNat n f).length:Int)<=1536*n∧bi prog yZ [mS rt n cb cz,p9 f X Y Z]=some (A_ 0))∨
  (¬(nj rt n∧qx rt.toNat n f∧((tf rt.toNat n f).length:Int)<=1536*n)∧∃e:Int,e≠0∧bi prog yZ [mS rt n cb cz,p9 f X Y Z]=some (A_ e)):=by
 obtain⟨⟨x1,x2,x3⟩,x4,x5⟩:=hX.facts;obtain⟨⟨y1,y2,y3⟩,y4,y5⟩:=hY.facts;obtain⟨⟨z1,z2,z3⟩,z4,z5⟩:=hZ.facts;obtain⟨⟨vx,ux⟩,wx⟩:=hX.one;obtain⟨⟨vy,uy⟩,wy⟩:=hY.one;obtain⟨⟨vz,uz⟩,wz⟩:=hZ.one;have hb:=atP rt n cb cz f hf X Y Z hX hY hZ;simp only[mS,p9]at hb;rw[aH aje ajD rfl];rcases hb with ⟨hc,hr,eb⟩|⟨hx,e,he,eb⟩
 .have hwl:=ama (by have:=hc.1;omega) hf hr (by rcases hc.2 with h|h<;>omega);have hn:=hc.2;by_cases hl:((tf rt.toNat n f).length:Int)<=1536*n
  .refine .inl ⟨hc,hr,hl,?_⟩;generalize tf rt.toNat n f=W at *;simp(maxSteps:=300000) (disch:=omega)[↓ac,↓aa,-bq,x1,x2,x3,x4,y1,y2,y3,y4,z1,z2,z3,z4,ux,uy,uz,vx,vy,vz,wx,wy,wz,eb]
  .refine .inr ⟨λh=>hl h.2.2,9,k_,?_⟩;generalize tf rt.toNat n f=W at *;simp(maxSteps:=300000) (disch:=omega)[↓ac,↓aa,-bq,x1,x2,x3,x4,y1,y2,y3,y4,z1,z2,z3,z4,ux,uy,uz,vx,vy,vz,wx,wy,wz,eb]
 .refine .inr ⟨λh=>hx ⟨h.1,h.2.1⟩,e,he,?_⟩;simp(maxSteps:=300000) (disch:=omega)[↓ac,↓aa,-bq,x1,x2,x3,x4,y1,y2,y3,y4,z1,z2,z3,z4,ux,uy,uz,vx,vy,vz,wx,wy,wz,eb,he]
def F0:gW:=⟨[c0],false,0,[],[]⟩
def aAg:ph 0 c0:=by
 rcases Ok 0 c0 aqo with ⟨_,h,_⟩|⟨_,_,h⟩|⟨_,h⟩
 .exact h
 .rw[ahH]at h;simp at h
 .rw[ahH]at h;simp at h
def ayD:F0.Fit where
 chans:=⟨by simp[F0],λc hc=>by simp only[F0,aC,cW,fk]at hc;subst hc;exact aqo⟩
 mask:=k_
 bands:=by simp[F0]
 fill:=by simp[F0]
 fillI:=by simp[F0]
def au5:nj 0 1∧qx 0 1 F0:=by
 refine⟨⟨k_,.inl rfl⟩,rfl,k_,k_,λc hc=>?_,?_⟩
 .simp only[F0,aC,cW,fk]at hc;subst hc;exact aAg
 .exact⟨rfl,rfl⟩
def avI:tf 0 1 F0=List.replicate 29 0++[1,1,1]:=e_
def Be {m:Nat}{xs:E_}:eV (share (aD m xs)) xs:=by
 cases xs with
 |nil=>exact .inr ⟨rfl,rfl⟩
 |cons x r=>exact .inl rfl
def awy {n:Nat}:List.replicate n [D.bool false]=gU (List.replicate n false):=by simp[gU]
def x0T (sh:Bool):Nat:=if sh then 1 else 2
def x1T (sh:Bool):Nat:=if sh then 4 else 6
def x2T (sh:Bool):Nat:=if sh then 3 else 5
def Xa (b:C_)(i:aO)(a:Int):Option (O_×Bool×RS):=pg b (x0T i.short) (x1T i.short) (x2T i.short) i.many false ⟨a,0⟩
def Pn (b:C_)(i:aO)(a:Int):R O_ :=
 match Xa b i a with
 |none=>.er 7
 |some (t,o,st)=>if st.e≠0 then .er (st.e-1) else if o then .er 7 else .ok t st.a.toNat
def Zd {b:C_}{x1 x2:Nat}{fine:Bool}:∀{k:Nat}{o:Bool}{st:RS}{l:AA_}{o2:Bool}{st2:RS},ji b x1 x2 fine k o st=some (l,o2,st2)->l.length=k∧∀f∈l,f.coefs.length<=12
 |0,o,st,l,o2,st2,e=>by
  rw[ji]at e;injection e with e
  injection e with e1 e
  subst e1;exact⟨rfl,s_⟩
 |k+1,o,st,l,o2,st2,e=>by
  rw[ji]at e;split at e
  .exact absurd e (by simp)
  .rename_i hbad
   cases hq:ji b x1 x2 fine k (o ||Kk b x1 x2 fine st) (yw b x1 x2 fine st) with
   |none=>rw[hq]at e;exact absurd e (by simp)
   |some q =>
    obtain⟨q1,q2,q3⟩:=q;rw[hq]at e;injection e with e;injection e with e1 e
    obtain⟨i1,i2⟩:=Zd hq;subst e1;refine⟨by simp[i1],λf hf=>?_⟩;rcases aC.1 hf with rfl|hf
    .unfold Ns;split
     .simp
     .rename_i h0;simp only[acF];have he:(yY b x1 x2 st).e=0:=az5 h0;rcases bH 12 (rQ b x1 x2 st) with h|h
      .exact absurd ⟨h,he⟩ hbad
      .exact h
    .exact i2 f hf
def aaf {b:C_}{x0 x1 x2:Nat}(hb:b.length<=1000000000)(h2:x0<=2):∀{k:Nat}{o:Bool}{st:RS}{t:O_}{o2:Bool}{st2:RS},st.fit->pg b x0 x1 x2 k o st=some (t,o2,st2)->st2.fit∧t.length=k∧∀l∈t,l.length<=3∧∀f∈l,f.coefs.length<=12
 |0,o,st,t,o2,st2,h,e=>by
  rw[pg]at e;injection e with e
  injection e with e1 e
  injection e with e2 e3
  subst e1 e3;exact⟨h,rfl,s_⟩
 |k+1,o,st,t,o2,st2,h,e=>by
  rw[pg]at e
  cases hq:ji b x1 x2 (Sw b x0 st) (sV b st x0) o (Dy b x0 st) with
  |none=>rw[hq]at e;exact absurd e (by simp)
  |some q =>
   obtain⟨q1,q2,q3⟩:=q;rw[hq]at e;simp only at e
   cases hw:pg b x0 x1 x2 k q2 q3 with
   |none=>rw[hw]at e;exact absurd e (by simp)
   |some w =>
    obtain⟨w1,w2,w3⟩:=w;rw[hw]at e;injection e with e;injection e with e1 e
    injection e with e2 e3
    obtain⟨f1,f2⟩:=Wm hb (al8 hb h) hq;obtain⟨i1,i2,i3⟩:=aaf hb h2 f1 hw;obtain⟨j1,j2⟩:=Zd hq;have v1:=vP (b:=b) (st:=st) (s:=x0);have k1:2 ^ x0<=2 ^ 2:=aw o_ h2;simp only[au]at v1;subst e1 e3;refine⟨i1,by simp[i2],λl hl=>?_⟩;rcases aC.1 hl with rfl|hl
    .exact⟨o_,j2⟩
    .exact i3 l hl
abbrev pTn (b:C_)(i:aO)(t:O_)(n:Nat):Prop:=t.length=i.many∧n<=b.length∧∀l∈t,l.length<=3∧∀f∈l,f.coefs.length<=12
def ato {h:am}{t:O_}{n e:Int}(ht:t≠[]):gS h (.tup [aD 1 (cR t),A_ n,A_ e])=some (.tup [aD 1 (cR t),A_ n,A_ e]):=by
 cases t with
 |nil=>exact absurd rfl ht
 |cons x r=>rfl
def RS.inB (b:C_)(st:RS):Prop:=0<=st.a∧st.a<=b.length
def Fg {b:C_}{st:RS}{s:Int}(h:st.e=0∨st.inB b):(sN b st s).inB b:=by
 unfold sN;split
 .have:=anP (b:=b) (a:=st.a) (s:=s);show 0<=_∧_;simp only[];omega
 .rename_i he;exact h.resolve_left he
def apf {b:C_}{sz:Nat}:∀{k:Nat}{st:RS},st.inB b->(wl b sz k st).inB b
 |0,_,h=>h
 |_+1,_,h=>by rw[wl];exact apf (Fg (.inr h))
def ayG {b:C_}{x1 x2:Nat}{fine:Bool}{st:RS}(h:st.inB b):(yw b x1 x2 fine st).inB b:=by
 unfold yw;split
 .exact Fg (.inr (Fg (.inr h)))
 .exact apf (Fg (.inr (Fg (.inr (Fg (.inr (Fg (.inr h))))))))
def ak9 {b:C_}{x1 x2:Nat}{fine:Bool}:∀{k:Nat}{o:Bool}{st:RS}{l:AA_}{o2:Bool}{st2:RS},st.inB b->ji b x1 x2 fine k o st=some (l,o2,st2)->st2.inB b
 |0,o,st,l,o2,st2,h,e=>by
  rw[ji]at e;injection e with e
  injection e with e1 e
  injection e with e2 e3
  subst e3;exact h
 |k+1,o,st,l,o2,st2,h,e=>by
  rw[ji]at e;split at e
  .exact absurd e (by simp)
  .cases hq:ji b x1 x2 fine k (o ||Kk b x1 x2 fine st) (yw b x1 x2 fine st) with
   |none=>rw[hq]at e;exact absurd e (by simp)
   |some q =>
    obtain⟨q1,q2,q3⟩:=q;rw[hq]at e;injection e with e;injection e with e1 e
    injection e with e2 e3
    subst e3;exact ak9 (ayG h) hq
def ayd {b:C_}{x0:Nat}{st:RS}(h:st.e=0∨st.inB b):(Dy b x0 st).inB b:=by
 unfold Dy;split
 .exact Fg (.inr (Fg h))
 .exact Fg h
def abW {b:C_}{x0 x1 x2:Nat}:∀{k:Nat}{o:Bool}{st:RS}{t:O_}{o2:Bool}{st2:RS},st.inB b∨(st.e=0∧1<=k)->pg b x0 x1 x2 k o st=some (t,o2,st2)->st2.inB b
 |0,o,st,t,o2,st2,h,e=>by
  rw[pg]at e;injection e with e
  injection e with e1 e
  injection e with e2 e3
  subst e3;rcases h with h|⟨_,h⟩
  .exact h
  .omega
 |k+1,o,st,t,o2,st2,h,e=>by
  rw[pg]at e
  cases hq:ji b x1 x2 (Sw b x0 st) (sV b st x0) o (Dy b x0 st) with
  |none=>rw[hq]at e;exact absurd e (by simp)
  |some q =>
   obtain⟨q1,q2,q3⟩:=q;rw[hq]at e;simp only at e
   cases hw:pg b x0 x1 x2 k q2 q3 with
   |none=>rw[hw]at e;exact absurd e (by simp)
   |some w =>
    obtain⟨w1,w2,w3⟩:=w;rw[hw]at e;injection e with e;injection e with e1 e
    injection e with e2 e3
    subst e3;have h0:st.e=0∨st.inB b:=by rcases h with h|⟨h,_⟩;exact .inr h;exact .inl h
    exact abW (.inl (ak9 (ayd h0) hq)) hw
def wR (i:aO):1<=i.many∧i.many<=8:=by unfold aO.many;split<;>omega
theorem aqu {b:C_}{i:aO}{a:Int}(hb:b.length<=1000000000)(ha:i64 a){t:O_}{n:Nat}(h:Pn b i a=.ok t n):pTn b i t n:=by
 rw[Pn]at h
 cases hq:Xa b i a with
 |none=>rw[hq]at h;exact absurd h (by simp)
 |some q =>
  obtain⟨t',o,st⟩:=q;rw[hq]at h;simp only at h;rw[Xa]at hq;obtain⟨j1,j2,j3⟩:=aaf (st:=⟨a,0⟩) hb (by unfold x0T;split<;>omega) (show RS.fit ⟨a,0⟩ from ha) hq;have j4:=abW (.inr ⟨rfl,(wR i).1⟩) hq;split at h
  .exact absurd h (by simp)
  .split at h
   .exact absurd h (by simp)
   .injection h with g1 g2
    subst g1 g2;obtain⟨k1,k2⟩:=j4;exact⟨j2,o_,j3⟩
def ajF (b:C_)(hb:b.length<=1000000000)(a:Int)(ha:i64 a)(i:aO)(hi:i.Fit)(hm:i.may 11):bi prog QB [.d (.lst (ai b)),A_ a,.agg i.cells] =
  rK (pTn b i) (Pn b i a) (λt n=>some (.tup [aD 1 (cR t),A_ n,A_ 0])) (λe=>some (.tup [.nl,A_ 0,A_ (e+1)])):=by
 have hw:=oD i hi;rw[ac hm]at hw;have hsz:=zW i;obtain⟨m1,m8⟩:=wR i;obtain⟨M,hM,hL⟩:=awm b hb (A_ (if i.short then 1 else 3)) (A_ (if i.short then 7 else 12)) (x0T i.short) (x1T i.short) (x2T i.short) (by unfold x0T x1T x2T;cases i.short<;>decide) i.many m8 i.many 0 5 false ⟨a,0⟩ [] o_ rfl ha (ak _);have c0:((0:Nat):Int)=0:=rfl;have n0:cR []=[]:=rfl;have hq0:pg b (x0T i.short) (x1T i.short) (x2T i.short) i.many false ⟨a,0⟩=Xa b i a:=rfl;have hra:ra ⟨a,0⟩=a:=rfl;have hre:re ⟨a,0⟩=0:=rfl;rw[hq0]at hL;simp only[c0,n0,qp,aK,HT,hra,hre]at hL;have hszv:lY i.short=[A_ (x0T i.short:Nat),A_ (x1T i.short:Nat),A_ (x2T i.short:Nat),A_ (if i.short then 1 else 3),A_ (if i.short then 7 else 12)]:=by
  cases i.short<;>rfl
 rw[hszv]at hsz;have hp:=λt n=>aqu (b:=b) (i:=i) (a:=a) (t:=t) (n:=n) hb ha
 have hin0:∀t o st,Xa b i a=some (t,o,st)->st.inB b:=λt o st h=>abW (.inr ⟨rfl,m1⟩) h
 rw[Pn]at hp⊢;rw[aH aej aeC rfl];simp only[aO.cells]at hw hsz⊢;generalize x0T i.short=X0 at *;generalize x1T i.short=X1 at *;generalize x2T i.short=X2 at *;generalize (if i.short then (1:Int) else 3)=Y3 at *;generalize (if i.short then (7:Int) else 12)=Y4 at *
 cases hq:Xa b i a with
 |none =>
  rw[hq]at hL;simp only at hL⊢;rw[iP];simp(maxSteps:=300000) (disch:=omega)[↓ac,↓aa,hw,hsz,hL]
 |some q =>
  obtain⟨t,o,st⟩:=q;rw[hq]at hL hp;simp only at hL hp⊢;obtain⟨sa,se⟩:=st;by_cases he:se=0
  .subst he;have hin:=hin0 t o ⟨sa,0⟩ hq;obtain⟨k1,k2⟩:=hin;simp only at k1 k2;obtain⟨A,rfl⟩:=az k1;have hra2:ra ⟨(A:Int),0⟩=(A:Int):=rfl;have hre2:re ⟨(A:Int),0⟩=0:=rfl;simp only[hra2,hre2,c0]at hL
   cases o with
   |true =>
    simp only[ne_eq,not_true_eq_false,bl,bn]at hp⊢;rw[iP];simp(maxSteps:=300000) (disch:=omega)[↓ac,↓aa,hw,hsz,hL]
   |false =>
    simp only[ne_eq,not_true_eq_false,bl,ao]at hp⊢;have hpt:=hp t _ rfl;have htn:t≠[]:=λh=>by rw[h]at hpt;have:=hpt.1;simp at this;omega
    rw[eI hpt];have hrt:=λh n e=>ato (h:=h) (n:=n) (e:=e) htn
    simp(maxSteps:=300000) (disch:=omega)[↓ac,↓aa,hw,hsz,hL,-Zg,hrt]
  .have hre2:re ⟨sa,se⟩=se:=rfl;have hse:((se-1:Nat):Int)+1=(se:Int):=o_;simp only[hre2]at hL;simp only[ne_eq,he,not_false_eq_true,bn]at hp⊢;rw[iP,hse];simp(maxSteps:=300000) (disch:=omega)[↓ac,↓aa,hw,hsz,hL,he]
abbrev Ay:D_:=[.ptr 0 0,.ptr 5 0,.ptr 4 0,.ptr 6 0]
abbrev ag1:AV:=.fn Lj [] [.ptr 0 0,.ptr 5 0,.ptr 6 0]
abbrev xe:D_:=[.fn yU [] Ay,.fn nF [] [.ptr 3 0,.ptr 4 0,.ptr 2 0,.ptr 0 0,.ptr 5 0,.ptr 1 0,.ptr 6 0],.fn ze [] Ay,.fn zg [] Ay,.fn zo [] [.ptr 9 0,.ptr 7 0],.fn zk [] [.ptr 9 0,.ptr 8 0],.fn nE [] [.ptr 8 0,.ptr 0 0,.ptr 5 0,.ptr 4 0,.ptr 6 0],.fn zh [] [.ptr 7 0,.ptr 9 0]]
abbrev fe (b:C_)(r:Int)(q:Bool)(iv cs:D_)(nx e od is:Int):am:=[(0,.cells [.d (.lst (ai b))]),(1,.cells [A_ r]),(2,.cells [B_ q]),(3,.cells iv),(4,.cells cs),(5,.cells [A_ nx]),(6,.cells [A_ e]),(7,.cells [A_ od]),(8,.cells [A_ is]),(9,.cells [ag1]),(10,.cells xe)]
def asw {m:Nat}{xs:E_}:BQ (share (aD m xs))=share (aD m xs):=by cases xs<;>rfl
def aeV (x:AV)(l:G_)(hl:l.length<=1000000000)(hx:elems [] x=some (aF l)):bi prog Du [x]=some (.own true 1 (aF l)):=by
 have hl2:(aF l).length=l.length:=iA;rw[aH QM QR rfl];have h4:Nat.ble l.length 4294967296=true:=by rw[bj];omega
 rw[iJ];simp(maxSteps:=300000) (disch:=omega)[da,MN,hx,h4]
def adt (i:aO)(hi:i.groups.length<=1000000):bi prog Fk [.agg i.cells]=some (.agg (Sk i)):=by
 have h:=aeV (.d (.lst (aF i.groups))) i.groups o_ rfl;simp only[aO.cells];rw[aH akt akc rfl];simp(maxSteps:=300000) (disch:=omega)[↓ac,↓aa,h]
abbrev zI:D_:=[.d (.int .u8 0),.d (.int .u8 0),A_ 0,.nl]
def an9:bi prog Fk [.agg zI]=some (.agg (Sk ⟨0,0,0,[]⟩)):=A7 400 (by kernel_rfl)
section
variable (b:C_)(r:Int)(q:Bool)(iv:D_)(nx od is:Int)(N:Nat)
theorem av4 (hq:q=true)(i:aO)(hi:i.groups.length<=1000000)(hiv:iv=i.cells)(a0 a1 a2 a3 a4 a5 a6 a7 a8:AV):(Dn prog).call nF [.ptr 3 0,.ptr 4 0,.ptr 2 0,.ptr 0 0,.ptr 5 0,.ptr 1 0,.ptr 6 0] ⟨fe b r q iv [a0,a1,a2,a3,a4,a5,a6,a7,a8] nx 0 od is,N⟩ =
  some (.tup [],⟨fe b r q iv [a0,.d (.int .u8 i.seq),.d (.int .u8 i.shape),A_ i.max,.own false 1 (aF i.groups),a5,a6,a7,a8] nx 0 od is,N⟩):=by
 subst hq hiv;have h:=adt i hi;simp only[aO.cells,Sk]at h⊢;rw[aZ V6 US rfl];simp(maxSteps:=300000) (disch:=omega)[↓ac,↓aa,h]
theorem awM (i:aO)(hi:i.Fit)(hm:i.may 11)(h1:is≠1)(a0 a5 a6 a7 a8:AV):(Dn prog).call nE [.ptr 8 0,.ptr 0 0,.ptr 5 0,.ptr 4 0,.ptr 6 0] ⟨fe b r q iv [a0,.d (.int .u8 i.seq),.d (.int .u8 i.shape),A_ i.max,.own false 1 (aF i.groups),a5,a6,a7,a8] nx 0 od is,N⟩ =
  some (.tup [],⟨fe b r q iv [a0,.d (.int .u8 i.seq),.d (.int .u8 i.shape),A_ i.max,.own false 1 (aF i.groups),a5,a6,.own false 1 (cR (List.replicate i.many [])),a8] nx 0 od is,N⟩):=by
 have hw:=oD i hi;rw[ac hm]at hw;have hmm:=wR i;have hk:=D7 (z:=[.lst []]) (n:=i.many) o_;have e:List.replicate i.many [D.lst []]=cR (List.replicate i.many []):=by simp[cR,eq]
 rw[e]at hk;simp only[aO.cells]at hw;rw[aZ VQ VK rfl];simp(maxSteps:=300000) (disch:=omega)[↓ac,↓aa,h1,hw,hk]
end
section
variable (b:C_)(hb:b.length<=1000000000)(r:Int)(q:Bool)(iv:D_)(nx od is:Int)(hn:i64 nx)(N:Nat)
include hb hn
theorem azc (a0 a1 a2 a3 a4 a5 a6 a7 a8:AV):(Dn prog).call yU Ay ⟨fe b r q iv [a0,a1,a2,a3,a4,a5,a6,a7,a8] nx 0 od is,N⟩ =
  rK (pG b 8) (bb b nx 8) (λv n=>some (.tup [],⟨fe b r q iv [A_ v,a1,a2,a3,a4,a5,a6,a7,a8] n 0 od is,N⟩)) (λe=>some (.tup [],⟨fe b r q iv [A_ 0,a1,a2,a3,a4,a5,a6,a7,a8] 0 (e+1) od is,N⟩)):=by
 have h:=gL b nx 8 hb hn;rw[aZ ajz akd rfl];simp(maxSteps:=300000) (disch:=omega)[↓ac,↓aa,h]
theorem am4 (cs:D_):(Dn prog).call Lj [.ptr 0 0,.ptr 5 0,.ptr 6 0] ⟨fe b r q iv cs nx 0 od is,N⟩ =
  rK (pG b 1) (bb b nx 1) (λv n=>some (A_ v,⟨fe b r q iv cs n 0 od is,N⟩)) (λe=>some (A_ 0,⟨fe b r q iv cs 0 (e+1) od is,N⟩)):=by
 have h:=gL b nx 1 hb hn;rw[aZ akk ajr rfl];simp(maxSteps:=300000) (disch:=omega)[↓ac,↓aa,h]
theorem ayK (cs:D_):(Dn prog).call zo [.ptr 9 0,.ptr 7 0] ⟨fe b r q iv cs nx 0 od is,N⟩ =
  rK (pG b 1) (bb b nx 1) (λv n=>some (.tup [],⟨fe b r q iv cs n 0 v is,N⟩)) (λe=>some (.tup [],⟨fe b r q iv cs 0 (e+1) 0 is,N⟩)):=by
 have h:=am4 b hb r q iv nx od is hn N cs;rw[aZ ajO ajT rfl];simp(maxSteps:=300000) (disch:=omega)[↓ac,↓aa,h]
theorem ayh (cs:D_):(Dn prog).call zk [.ptr 9 0,.ptr 8 0] ⟨fe b r q iv cs nx 0 od is,N⟩ =
  rK (pG b 1) (bb b nx 1) (λv n=>some (.tup [],⟨fe b r q iv cs n 0 od v,N⟩)) (λe=>some (.tup [],⟨fe b r q iv cs 0 (e+1) od 0,N⟩)):=by
 have h:=am4 b hb r q iv nx od is hn N cs;rw[aZ ajX akF rfl];simp(maxSteps:=300000) (disch:=omega)[↓ac,↓aa,h]
theorem aAx (cs:D_)(ho:0<=od∧od<=1):(Dn prog).call zh [.ptr 7 0,.ptr 9 0] ⟨fe b r q iv cs nx 0 od is,N⟩ =
  rK (pG b 1) (bb b nx 1) (λv n=>some (.tup [],⟨fe b r q iv cs n 0 (YP od v) is,N⟩)) (λe=>some (.tup [],⟨fe b r q iv cs 0 (e+1) od is,N⟩)):=by
 have h:=am4 b hb r q iv nx od is hn N cs;rw[aZ akK ajl rfl];simp(maxSteps:=300000) (disch:=omega)[↓ac,↓aa,h];refine YZ (λ_ _ h=>ed h) (λv n e2 hp=>?_) λe e2=>by simp(maxSteps:=300000) (disch:=omega)[Y7]
 have hv:v<2:=hp.1;simp(maxSteps:=300000) (disch:=omega)[Y7]
theorem azE (i:aO)(hi:i.Fit)(hm:i.may 11)(hg:i.groups≠[])(a0 a5 a6 a7 a8:AV):(Dn prog).call ze Ay ⟨fe b r q iv [a0,.d (.int .u8 i.seq),.d (.int .u8 i.shape),A_ i.max,.own false 1 (aF i.groups),a5,a6,a7,a8] nx 0 od is,N⟩ =
  rK (VN b i.max.toNat i.groups.length) (xz b i nx) (λg n=>some (.tup [],⟨fe b r q iv [a0,.d (.int .u8 i.seq),.d (.int .u8 i.shape),A_ i.max,.own false 1 (aF i.groups),aD 1 (bz g),a6,a7,a8] n 0 od is,N⟩)) (λe=>some (.tup [],⟨fe b r q iv [a0,.d (.int .u8 i.seq),.d (.int .u8 i.shape),A_ i.max,.own false 1 (aF i.groups),.nl,a6,a7,a8] 0 (e+1) od is,N⟩)):=by
 have h:=atd b nx i hb hn hi hm;simp only[aO.cells]at h;rw[aZ akX ajV rfl];simp(maxSteps:=300000) (disch:=omega)[↓ac,↓aa,-bq,h]
theorem azS (g:Int)(hg:0<=g∧g<=255)(m:Int)(hm:0<=m∧m<=40)(S:H_)(hS:S≠[])(hl:S.length<=8)(hf:fy m S)(hf2:∀l∈S,l.length<=1000)(hok:∀l∈S,afp l∧amz l)(a1 a2 a3 a4 a6 a7 a8:AV):(Dn prog).call zg Ay ⟨fe b r q iv [A_ g,a1,a2,a3,a4,aD 1 (bz S),a6,a7,a8] nx 0 od is,N⟩ =
  rK (pSc b S) (BH b S nx g) (λt n=>some (.tup [],⟨fe b r q iv [A_ g,a1,a2,a3,a4,aD 1 (bz S),share (aD 1 (cY t)),a7,a8] n 0 od is,N⟩)) (λe=>some (.tup [],⟨fe b r q iv [A_ g,a1,a2,a3,a4,aD 1 (bz S),.nl,a7,a8] 0 (e+1) od is,N⟩)):=by
 have h:=aqq b hb nx g m hn hg S hl hm hf hf2 hok;rw[aZ ajB ajf rfl]
 cases S with
 |nil=>exact absurd rfl hS
 |cons s0 S0 =>
  have e:aD 1 (bz (s0::S0))=.own false 1 (bz (s0::S0)):=rfl;rw[e];simp(maxSteps:=300000) (disch:=omega)[↓ac,↓aa,-bq,h,alo,asw,agc,H8,Ez]
theorem alb (hq:q=false)(hr:dR r)(i:aO)(hi:i.groups.length<=1000000)(hiv:iv=i.cells∨iv=zI)(a0 a1 a2 a3 a4 a5 a6 a7 a8:AV):(Dn prog).call nF [.ptr 3 0,.ptr 4 0,.ptr 2 0,.ptr 0 0,.ptr 5 0,.ptr 1 0,.ptr 6 0] ⟨fe b r q iv [a0,a1,a2,a3,a4,a5,a6,a7,a8] nx 0 od is,N⟩ =
  rK (pI b r.toNat) (py b nx r.toNat) (λj n=>some (.tup [],⟨fe b r q iv [a0,.d (.int .u8 j.seq),.d (.int .u8 j.shape),A_ j.max,.own false 1 (aF j.groups),a5,a6,a7,a8] n 0 od is,N⟩)) (λe=>some (.tup [],⟨fe b r q iv [a0,.d (.int .u8 0),.d (.int .u8 0),A_ 0,.nl,a5,a6,a7,a8] 0 (e+1) od is,N⟩)):=by
 subst hq;have h:=adt i hi;have h0:=an9;have hG:=WJ b nx r hb hn;rw[ac hr]at hG;rcases hiv with rfl|rfl
 all_goals
  simp only[aO.cells,Sk,Wl]at h hG⊢;rw[aZ V6 US rfl];simp(maxSteps:=300000) (disch:=omega)[↓ac,↓aa,h,h0,hG]
theorem aly (i:aO)(hi:i.Fit)(hm:i.may 11)(h1:is=1)(a0 a5 a6 a7 a8:AV):(Dn prog).call nE [.ptr 8 0,.ptr 0 0,.ptr 5 0,.ptr 4 0,.ptr 6 0] ⟨fe b r q iv [a0,.d (.int .u8 i.seq),.d (.int .u8 i.shape),A_ i.max,.own false 1 (aF i.groups),a5,a6,a7,a8] nx 0 od is,N⟩ =
  rK (pTn b i) (Pn b i nx) (λt n=>some (.tup [],⟨fe b r q iv [a0,.d (.int .u8 i.seq),.d (.int .u8 i.shape),A_ i.max,.own false 1 (aF i.groups),a5,a6,aD 1 (cR t),a8] n 0 od is,N⟩)) (λe=>some (.tup [],⟨fe b r q iv [a0,.d (.int .u8 i.seq),.d (.int .u8 i.shape),A_ i.max,.own false 1 (aF i.groups),a5,a6,.nl,a8] 0 (e+1) od is,N⟩)):=by
 subst h1;have h:=ajF b hb nx hn i hi hm;simp only[aO.cells]at h;rw[aZ VQ VK rfl];simp(maxSteps:=300000) (disch:=omega)[↓ac,↓aa,-bq,h]
end
abbrev afF:D_:=[A_ 0,.d (.int .u8 0),.d (.int .u8 0),A_ 0,.nl,.nl,.nl,.nl,.nl]
abbrev abo (i:Int):aV:=[(5,.ptr 0 0),(7,.ptr 1 0),(10,.ptr 4 0),(11,.ptr 5 0),(12,.ptr 6 0),(13,.ptr 7 0),(14,.ptr 8 0),(60,.sl 10 0 8),(61,A_ 8),(62,A_ i)]
abbrev azN:aV:=[(5,.ptr 0 0),(7,.ptr 1 0),(10,.ptr 4 0),(11,.ptr 5 0),(12,.ptr 6 0),(13,.ptr 7 0),(14,.ptr 8 0)]
section
variable (b:C_)(r:Int)(q:Bool)(iv:D_)(N:Nat)
theorem ap7 {cs cs2:D_}{nx nx2 e0 od od2 is is2:Int}(i:Nat)(hi:i<8)(f:FuncId)(caps:D_)(hF:xe[i]?=some (.fn f [] caps))(hF2:firm (firm (firm (share (.fn f [] caps))))=.fn f [] caps)
  (h:(Dn prog).call f caps ⟨fe b r q iv cs nx 0 od is,N⟩=some (.tup [],⟨fe b r q iv cs2 nx2 0 od2 is2,N⟩)) :
  (Dn prog).code (.loop kl) ⟨abo i,⟨fe b r q iv cs nx e0 od is,N⟩⟩=(Dn prog).code (.loop kl) ⟨abo ((i+1:Nat):Int),⟨fe b r q iv cs2 nx2 0 od2 is2,N⟩⟩:=by
 have c1:((i+1:Nat):Int)=(i:Int)+1:=rfl;obtain⟨hlt,e⟩:=aN.1 hF;rw[c1,ah IZ];simp(maxSteps:=300000) (disch:=omega)[↓ac,↓aa,e,hF2,h]
theorem azG {cs:D_}{a0 a1 a2 a3 a4 a5 a6 a7 a8:AV}{nx nx2 e0 od od2 is is2:Int}(i:Nat)(hi:i<8)(f:FuncId)(caps:D_)(hF:xe[i]?=some (.fn f [] caps))(hF2:firm (firm (firm (share (.fn f [] caps))))=.fn f [] caps)(e:Nat)
  (h:(Dn prog).call f caps ⟨fe b r q iv cs nx 0 od is,N⟩=some (.tup [],⟨fe b r q iv [a0,a1,a2,a3,a4,a5,a6,a7,a8] nx2 ((e:Int)+1) od2 is2,N⟩)) :
  (Dn prog).code (.loop kl) ⟨abo i,⟨fe b r q iv cs nx e0 od is,N⟩⟩=some (.ret,⟨[(10,.ptr 4 0),(11,.ptr 5 0),(12,.ptr 6 0)],⟨fe b r q iv afF 0 ((e:Int)+1) od2 is2,N⟩⟩):=by
 obtain⟨hlt,e1⟩:=aN.1 hF;rw[ah IZ];simp(maxSteps:=300000) (disch:=omega)[↓ac,↓aa,e1,hF2,h]
theorem avB {cs:D_}{nx e0 od is:Int}:(Dn prog).code (.loop kl) ⟨abo 8,⟨fe b r q iv cs nx e0 od is,N⟩⟩=some (.exit 0,⟨azN,⟨fe b r q iv cs nx e0 od is,N⟩⟩):=by
 rw[ah IZ];simp(maxSteps:=300000) (disch:=omega)[↓ac,↓aa]
end
abbrev po:=@Int.toNat_of_nonneg
structure Hd where
 gain:Nat
 inf:aO
 S:H_
 T:K_
 F:O_
 od:Int
 is:Nat
def HL (b:C_)(a:Int)(r:Nat)(q:Bool)(i:aO):R Hd :=
 (bb b a 8).bind λg n=>(if q then R.ok i n else py b n r).bind λj n=>(xz b j n).bind λS n=>(BH b S n g).bind λT n =>
  (bb b n 1).bind λo n=>(bb b n 1).bind λs n=>(if s=1 then Pn b j n else R.ok (List.replicate j.many []) n).bind λF n=>(bb b n 1).bind λp n=>R.ok ⟨g,j,S,T,F,YP o p,s⟩ n
abbrev aiB (H:Hd):D_:=[A_ H.gain,.d (.int .u8 H.inf.seq),.d (.int .u8 H.inf.shape),A_ H.inf.max,.own false 1 (aF H.inf.groups),aD 1 (bz H.S),share (aD 1 (cY H.T)),aD 1 (cR H.F),.nl]
section
variable (b:C_)(r:Int)(q:Bool)(iv:D_)(N:Nat)
def Wv (e0:Int)(i:Nat)(cs:D_)(nx od is:Int)(x:R Hd):Prop :=
 (∀H n,x=.ok H n->(Dn prog).code (.loop kl) ⟨abo i,⟨fe b r q iv cs nx e0 od is,N⟩⟩=some (.exit 0,⟨azN,⟨fe b r q iv (aiB H) n 0 H.od H.is,N⟩⟩))∧
 (∀e,x=.er e->∃od2 is2,(Dn prog).code (.loop kl) ⟨abo i,⟨fe b r q iv cs nx e0 od is,N⟩⟩=some (.ret,⟨[(10,.ptr 4 0),(11,.ptr 5 0),(12,.ptr 6 0)],⟨fe b r q iv afF 0 ((e:Int)+1) od2 is2,N⟩⟩))
theorem azA {e0:Int}{i:Nat}{cs cs2:D_}{nx nx2 od od2 is is2:Int}{x:R Hd}(hi:i<8)(f:FuncId)(caps:D_)(hF:xe[i]?=some (.fn f [] caps))(hF2:firm (firm (firm (share (.fn f [] caps))))=.fn f [] caps)
  (h:(Dn prog).call f caps ⟨fe b r q iv cs nx 0 od is,N⟩=some (.tup [],⟨fe b r q iv cs2 nx2 0 od2 is2,N⟩))(ho:Wv b r q iv N 0 (i+1) cs2 nx2 od2 is2 x):Wv b r q iv N e0 i cs nx od is x:=by
 refine⟨λH n e=>?_,λe h2=>?_⟩
 .rw[ap7 b r q iv N i hi f caps hF hF2 h];exact ho.1 H n e
 .rw[ap7 b r q iv N i hi f caps hF hF2 h];exact ho.2 e h2
theorem azs {e0:Int}{i:Nat}{cs:D_}{a0 a1 a2 a3 a4 a5 a6 a7 a8:AV}{nx nx2 od od2 is is2:Int}{e:Nat}(hi:i<8)(f:FuncId)(caps:D_)(hF:xe[i]?=some (.fn f [] caps))(hF2:firm (firm (firm (share (.fn f [] caps))))=.fn f [] caps)
  (h:(Dn prog).call f caps ⟨fe b r q iv cs nx 0 od is,N⟩=some (.tup [],⟨fe b r q iv [a0,a1,a2,a3,a4,a5,a6,a7,a8] nx2 ((e:Int)+1) od2 is2,N⟩)):Wv b r q iv N e0 i cs nx od is (.er e):=by
 refine⟨λH n h2=>absurd h2 s_,λe' h2=>?_⟩
 grind [azG]
end
def anf {b:C_}{i:aO}{g:H_}{n:Nat}(hm:i.may 11)(h:VN b i.max.toNat i.groups.length g n) :
  g≠[]∧g.length<=8∧jH i g∧(∀l∈g,l.length<=100)∧∀l∈g,afp l∧amz l:=by
 obtain⟨h1,h2,h3⟩:=h;have hmx:=je hm;obtain⟨q1,q2⟩:=dO hm;have hmm:=wR i;have hgl:i.groups.length<=8:=by have:=lG (λn hn=>(q1 n hn).1);omega
 have hgn:i.groups≠[]:=λh=>by grind
 have hg1:=bN.2 hgn;have hmc:((i.max.toNat:Nat):Int)=i.max:=po hmx.1;have hf:∀l∈g,fitsS i.max l:=λl hl=>by simp_all
 refine⟨λh=>by simp_all,o_,⟨h3,hf⟩,λl hl=>by grind,λl hl=>⟨⟨d_,λs hs=>?_⟩,NA (hf l hl)⟩⟩;have:=tR (hf l hl) o_ s hs;omega
def qz {α β:Type}{x:R α}{f:α->Nat->R β}{v:β}{n:Nat}(h:x.bind f=.ok v n):∃u m,x=.ok u m∧f u m=.ok v n:=by
 cases x with
 |ok u m=>exact⟨u,m,rfl,h⟩
 |er e=>simp_all
def aia {α:Type}{c:Prop}[Decidable c]{v w:α}{n m:Nat}(h:R8 c v n=.ok w m):c∧v=w∧n=m:=by
 grind [R8]
def alj {b:C_}:∀{k a:Nat}{l:C_}{n:Nat},a<=b.length->z6 b k a=.ok l n->n<=b.length
 |0,a,l,n,ha,h=>by
  grind [z6]
 |k+1,a,l,n,ha,h=>by
  obtain⟨v,m,h1,h⟩:=qz h;obtain⟨l2,m2,h2,h⟩:=qz h;have:=alj (ed h1).2 h2
  simp_all
theorem KU {b:C_}{a:Int}{r:Nat}(hr:r<=11){i:aO}{n:Nat}(h:py b a r=.ok i n):pI b r i n:=by
 obtain⟨o,n1,h1,h⟩:=qz h;obtain⟨q,n2,h2,h⟩:=qz h;obtain⟨s,n3,h3,h⟩:=qz h;have key:i.may r∧n<=b.length:=by
  split at h
  .obtain⟨m,n4,h4,h⟩:=qz h;obtain⟨l,n5,h5,h⟩:=qz h;obtain⟨hc,e1,e2⟩:=aia h;have:=alj (ed h4).2 h5
   simp_all
  .obtain⟨m,n4,h4,h⟩:=qz h;obtain⟨p,n5,h5,h⟩:=qz h;obtain⟨hc,e1,e2⟩:=aia h;have:=(ed h5).2
   simp_all
 obtain⟨g1,g2⟩:=dO (gQ hr key.1);have hmm:=wR i;exact⟨key.1,key.2,by have:=lG (λn hn=>(g1 n hn).1);omega⟩
structure pHd (b:C_)(r:Nat)(H:Hd)(n:Nat):Prop where
 gain:H.gain<=255
 fit:H.inf.Fit
 may:H.inf.may r
 S:jH H.inf H.S
 Sl:∀l∈H.S,l.length<=100
 T:H.T.map List.length=H.S.map (λl=>(aP l).length)
 F:H.F.length=H.inf.many∧∀l∈H.F,l.length<=3∧∀f∈l,f.coefs.length<=12
 od:0<=H.od∧H.od<=1
 is:H.is<=1
 n:n<=b.length
theorem aaQ {r:Nat}{i:aO}(hr:r<=11)(h:i.may r)(hl:i.groups.length<=100):i.Fit:=by
 have h11:=gQ hr h;have hmx:=je h11;obtain⟨g1,g2⟩:=dO h11;exact⟨by have:=h.1;omega,by have:=h.2.1;omega,o_,o_,λn hn=>by grind⟩
abbrev QX (b:C_)(r:Nat)(x:R Hd):Prop:=∀H n,x=.ok H n->pHd b r H n
def AQ {b:C_}{r:Int}{q:Bool}{iv:D_}{N R0:Nat}{e0:Int}{i:Nat}{cs cs2:D_}{nx nx2 od od2 is is2:Int}{x:R Hd}(hi:i<8)(f:FuncId)(caps:D_)(hF:xe[i]?=some (.fn f [] caps))(hF2:firm (firm (firm (share (.fn f [] caps))))=.fn f [] caps)
  (h:(Dn prog).call f caps ⟨fe b r q iv cs nx 0 od is,N⟩=some (.tup [],⟨fe b r q iv cs2 nx2 0 od2 is2,N⟩))(ho:Wv b r q iv N 0 (i+1) cs2 nx2 od2 is2 x∧QX b R0 x):Wv b r q iv N e0 i cs nx od is x∧QX b R0 x :=
 by grind [azA]
def AW {b:C_}{r:Int}{q:Bool}{iv:D_}{N R0:Nat}{e0:Int}{i:Nat}{cs:D_}{a0 a1 a2 a3 a4 a5 a6 a7 a8:AV}{nx nx2 od od2 is is2:Int}{e:Nat}(hi:i<8)(f:FuncId)(caps:D_)(hF:xe[i]?=some (.fn f [] caps))(hF2:firm (firm (firm (share (.fn f [] caps))))=.fn f [] caps)
  (h:(Dn prog).call f caps ⟨fe b r q iv cs nx 0 od is,N⟩=some (.tup [],⟨fe b r q iv [a0,a1,a2,a3,a4,a5,a6,a7,a8] nx2 ((e:Int)+1) od2 is2,N⟩)):Wv b r q iv N e0 i cs nx od is (.er e)∧QX b R0 (.er e) :=
 by grind [azs]
def ari {b:C_}{i:aO}{a:Int}{g:H_}{n:Nat}(h:xz b i a=.ok g n):VN b i.max.toNat i.groups.length g n:=by
 rw[xz]at h;split at h
 .exact T8 o_ h
 simp_all
def at5 {b:C_}{g:H_}{a gain:Int}(hg:0<=gain∧gain<=255){t:K_}{n:Nat}(h:BH b g a gain=.ok t n):pSc b g t n:=by
 rw[BH]at h;split at h
 .rename_i ha;obtain⟨A,rfl⟩:=az ha.1;exact W1 o_ ⟨o_,o_⟩ ⟨o_,o_⟩ h
 simp_all
def OY (b:C_)(hb:b.length<=1000000000)(r:Int)(hr:dR r)(q:Bool)(i:aO)(hi:i.Fit)(iv:D_)(hiv:iv=i.cells∨q=false∧iv=zI)(hq:q=true->i.may r.toNat)(nx:Int)(hn:i64 nx)(e0:Int)(N:Nat) :
  Wv b r q iv N e0 0 afF nx 0 0 (HL b nx r.toNat q i)∧QX b r.toNat (HL b nx r.toNat q i):=by
 have hR:r.toNat<=11:=o_;rw[HL];have h:=azc b hb r q iv nx 0 0 hn N (A_ 0) (.d (.int .u8 0)) (.d (.int .u8 0)) (A_ 0) .nl .nl .nl .nl .nl
 cases e1:bb b nx 8 with
 |er e=>rw[e1,iP]at h;exact AW k_ yU Ay rfl rfl h
 |ok g n1 =>
 have p1:=ed e1;have hg:g<256:=p1.1;have hn1:=p1.2;have i1:i64 (n1:Int):=o_;rw[e1,eI p1]at h;rw[aI];refine AQ k_ yU Ay rfl rfl h ?_;clear h;have key:∃X:R aO,X=(if q=true then R.ok i n1 else py b n1 r.toNat)∧(∀j n,X=.ok j n->((j.Fit∧j.may r.toNat)∧n<=b.length)∧(Dn prog).call nF [.ptr 3 0,.ptr 4 0,.ptr 2 0,.ptr 0 0,.ptr 5 0,.ptr 1 0,.ptr 6 0] ⟨fe b r q iv [A_ g,.d (.int .u8 0),.d (.int .u8 0),A_ 0,.nl,.nl,.nl,.nl,.nl] n1 0 0 0,N⟩=some (.tup [],⟨fe b r q iv [A_ g,.d (.int .u8 j.seq),.d (.int .u8 j.shape),A_ j.max,.own false 1 (aF j.groups),.nl,.nl,.nl,.nl] n 0 0 0,N⟩))∧
   (∀e,X=.er e->(Dn prog).call nF [.ptr 3 0,.ptr 4 0,.ptr 2 0,.ptr 0 0,.ptr 5 0,.ptr 1 0,.ptr 6 0] ⟨fe b r q iv [A_ g,.d (.int .u8 0),.d (.int .u8 0),A_ 0,.nl,.nl,.nl,.nl,.nl] n1 0 0 0,N⟩=some (.tup [],⟨fe b r q iv [A_ g,.d (.int .u8 0),.d (.int .u8 0),A_ 0,.nl,.nl,.nl,.nl,.nl] 0 ((e:Int)+1) 0 0,N⟩)):=by
  refine⟨_,rfl,λj n h=>?_,λe h=>?_⟩
  .grind [av4,aO.Fit.len,KU,alb,eI,aaQ]
  .cases hqc:q with
   |true=>simp_all
   |false =>
    rw[hqc]at h;simp only[ao,bl]at h;have h3:=alb b hb r false iv n1 0 0 i1 N rfl hr i (by have:=hi.len;omega) (hiv.imp id And.right) (A_ g) (.d (.int .u8 0)) (.d (.int .u8 0)) (A_ 0) .nl .nl .nl .nl .nl
    simp_all
 obtain⟨X,hX,hX1,hX2⟩:=key;rw[<-hX]
 cases e2:X with
 |er e=>exact AW k_ nF _ rfl rfl (hX2 e e2)
 |ok j n2 =>
 obtain⟨⟨⟨hj,hjm⟩,hn2⟩,h⟩:=hX1 j n2 e2;have i2:i64 (n2:Int):=o_;have hjm11:=gQ hR hjm;have hmx:=je hjm11;obtain⟨gr1,gr2⟩:=dO hjm11;have hmm:=wR j;have hgn:j.groups≠[]:=λh=>by grind
 rw[aI];refine AQ k_ nF _ rfl rfl h ?_;clear h hX hX1 hX2 e2 X;have h:=azE b hb r q iv n2 0 0 i2 N j hj hjm11 hgn (A_ g) .nl .nl .nl .nl
 cases e3:xz b j n2 with
 |er e=>rw[e3,iP]at h;exact AW k_ ze Ay rfl rfl h
 |ok S n3 =>
 have p3:=ari e3;have hn3:=p3.2.1;have i3:i64 (n3:Int):=o_;obtain⟨s1,s2,s3,s4,s5⟩:=anf hjm11 p3;rw[e3,eI p3]at h;rw[aI];refine AQ k_ ze Ay rfl rfl h ?_;clear h;have h:=azS b hb r q iv n3 0 0 i3 N g o_ j.max hmx S s1 s2 s3.2 (λl hl=>by simp_all) s5 (.d (.int .u8 j.seq)) (.d (.int .u8 j.shape)) (A_ j.max) (.own false 1 (aF j.groups)) .nl .nl .nl
 cases e4:BH b S n3 g with
 |er e=>rw[e4,iP]at h;exact AW k_ zg Ay rfl rfl h
 |ok T n4 =>
 have p4:=at5 o_ e4;have hn4:=p4.2;have i4:i64 (n4:Int):=o_;rw[e4,eI p4]at h;rw[aI];refine AQ k_ zg Ay rfl rfl h ?_;clear h;have h:=ayK b hb r q iv n4 0 0 i4 N [A_ g,.d (.int .u8 j.seq),.d (.int .u8 j.shape),A_ j.max,.own false 1 (aF j.groups),aD 1 (bz S),share (aD 1 (cY T)),.nl,.nl]
 cases e5:bb b n4 1 with
 |er e=>rw[e5,iP]at h;exact AW k_ zo _ rfl rfl h
 |ok o n5 =>
 have p5:=ed e5;have ho:o<2:=p5.1;have hn5:=p5.2;have i5:i64 (n5:Int):=o_;rw[e5,eI p5]at h;rw[aI];refine AQ k_ zo _ rfl rfl h ?_;clear h;have h:=ayh b hb r q iv n5 o 0 i5 N [A_ g,.d (.int .u8 j.seq),.d (.int .u8 j.shape),A_ j.max,.own false 1 (aF j.groups),aD 1 (bz S),share (aD 1 (cY T)),.nl,.nl]
 cases e6:bb b n5 1 with
 |er e=>rw[e6,iP]at h;exact AW k_ zk _ rfl rfl h
 |ok s n6 =>
 have p6:=ed e6;have hs:s<2:=p6.1;have hn6:=p6.2;have i6:i64 (n6:Int):=o_;rw[e6,eI p6]at h;rw[aI];refine AQ k_ zk _ rfl rfl h ?_;clear h;have key:∃X:R O_,X=(if s=1 then Pn b j n6 else R.ok (List.replicate j.many []) n6)∧(∀F n,X=.ok F n->pTn b j F n∧(Dn prog).call nE [.ptr 8 0,.ptr 0 0,.ptr 5 0,.ptr 4 0,.ptr 6 0] ⟨fe b r q iv [A_ g,.d (.int .u8 j.seq),.d (.int .u8 j.shape),A_ j.max,.own false 1 (aF j.groups),aD 1 (bz S),share (aD 1 (cY T)),.nl,.nl] n6 0 o s,N⟩=some (.tup [],⟨fe b r q iv [A_ g,.d (.int .u8 j.seq),.d (.int .u8 j.shape),A_ j.max,.own false 1 (aF j.groups),aD 1 (bz S),share (aD 1 (cY T)),aD 1 (cR F),.nl] n 0 o s,N⟩))∧
   (∀e,X=.er e->(Dn prog).call nE [.ptr 8 0,.ptr 0 0,.ptr 5 0,.ptr 4 0,.ptr 6 0] ⟨fe b r q iv [A_ g,.d (.int .u8 j.seq),.d (.int .u8 j.shape),A_ j.max,.own false 1 (aF j.groups),aD 1 (bz S),share (aD 1 (cY T)),.nl,.nl] n6 0 o s,N⟩=some (.tup [],⟨fe b r q iv [A_ g,.d (.int .u8 j.seq),.d (.int .u8 j.shape),A_ j.max,.own false 1 (aF j.groups),aD 1 (bz S),share (aD 1 (cY T)),.nl,.nl] 0 ((e:Int)+1) o s,N⟩)):=by
  refine⟨_,rfl,λF n h=>?_,λe h=>?_⟩
  .by_cases h1:s=1
   .grind [aqu,aly,eI]
   .rw[aa h1]at h;injection h with g1 g2
    subst g1 g2;have h3:=awM b r q iv n6 o s N j hj hjm11 o_ (A_ g) (aD 1 (bz S)) (share (aD 1 (cY T))) .nl .nl;refine⟨⟨s_,hn6,λl hl=>by simp_all⟩,?_⟩;have e9:aD 1 (cR (List.replicate j.many []))=.own false 1 (cR (List.replicate j.many [])):=lC (λhz=>by
     grind [acR])
    simp_all
  grind [aly,iP]
 obtain⟨X,hX,hX1,hX2⟩:=key;rw[<-hX]
 cases e7:X with
 |er e=>exact AW k_ nE _ rfl rfl (hX2 e e7)
 |ok F n7 =>
 obtain⟨p7,h⟩:=hX1 F n7 e7;have i7:i64 (n7:Int):=o_;rw[aI];refine AQ k_ nE _ rfl rfl h ?_;have h:=aAx b hb r q iv n7 o s i7 N [A_ g,.d (.int .u8 j.seq),.d (.int .u8 j.shape),A_ j.max,.own false 1 (aF j.groups),aD 1 (bz S),share (aD 1 (cY T)),aD 1 (cR F),.nl] (by omega)
 cases e8:bb b n7 1 with
 |er e=>rw[e8,iP]at h;exact AW k_ zh _ rfl rfl h
 |ok p n8 =>
 have p8:=ed e8;have hn8:=p8.2;rw[e8,eI p8]at h;rw[aI];refine AQ k_ zh _ rfl rfl h ⟨⟨λH n hh=>?_,λe hh=>absurd hh s_⟩,λH n hh=>?_⟩
 .grind [avB]
 .injection hh with g1 g2
  subst g1 g2;exact⟨d_,hj,hjm,s3,s4,p4.1,⟨p7.1,p7.2.2⟩,by grind [YP],d_,hn8⟩
structure GO where
 o1:Obj
 o2:Obj
 o3:Obj
 o7:Obj
 o8:Obj
 o9:Obj
 oX:Obj
 o14:Obj
 o15:Obj
 o16:Obj
abbrev GH (b:C_)(g:GO)(cs:D_)(nx e:Int)(Z:G_)(C:D_)(lo:Obj)(T:am):am:=(0,.cells [.d (.lst (ai b))])::(1,g.o1)::(2,g.o2)::(3,g.o3)::(4,.cells cs)::(5,.cells [A_ nx])::(6,.cells [A_ e])::(7,g.o7)::(8,g.o8)::(9,g.o9)::(10,g.oX)::(11,.arr 1 (aF Z))::(12,.cells C)::(13,.cells [.ptr 12 0])::(14,g.o14)::(15,g.o15)::(16,g.o16)::(17,lo)::T
abbrev aAd:aV:=[(5,.ptr 0 0),(10,.ptr 4 0),(11,.ptr 5 0),(12,.ptr 6 0),(13,.ptr 7 0),(14,.ptr 8 0),(18,.ptr 13 0),(82,.fn iG [] [.ptr 15 0,.ptr 14 0,.ptr 16 0])]
def atS {Z l:G_}{a:Nat}:aG (aF Z) a (aF l)=aF (aG Z a l):=by simp[aG,aF]
def axL {h:am}{xs:E_}{id a b n:Nat}(hab:a<=b)(hb:b<=n)(hn:n<=1000000000)(hg:get h id=some (.arr 1 xs))(x y:Int)(hx:x=a)(hy:y=b):l7 h 1 (.sl id 0 n) (some (A_ x)) (some (A_ y)) none=some (.sl id a (b-a)):=by
 subst hx hy;have e1:dW (A_ (b:Int)) n=some b:=by rw[xy o_ o_];simp
 have e2:dW (A_ (a:Int)) b=some a:=by rw[xy o_ o_];simp
 have e3:okSl h 1 (.sl id 0 n)=true:=by simp only[okSl,hg];rfl
 simp only[l7,e3,uU,lenOf,xg,vI,e1,e2,bC]
def awR {h:am}{Z l:G_}{id a n:Nat}{y:AV}(hn:l.length=n)(hb:a+n<=Z.length)(he:elems h y=some (aF l))(hg:get h id=some (.arr 1 (aF Z))):afN 1 h (.sl id a n) y=some (.int .i64 (n:Nat),put h id (.arr 1 (aF (aG Z a l)))):=by
 have e1:Nat.ble (a+n) (aF Z).length=true:=by rw[bj,iA];exact hb
 have e2:min n (aF l).length=n:=by rw[iA,hn,Nat.min_self]
 have e3:(aF l).take n=aF l:=cx (by rw[iA];omega);have e4:(fW 1 (aF l) && Nat.beq 1 1 && Nat.ble (a+n) (aF Z).length)=true:=by rw[atG,e1];rfl
 simp only[afN,he,hg,e4,e2,e3,atS];rfl
def ayP {F:D_->am}{A N:Nat}(hL:∀C,Lt (F C) N)(hg:∀C T,get (F C++T) A=some (.cells C))(hp:∀C T C',put (F C++T) A (.cells C')=F C'++T):Bk (λC T=>F C++T) A N:=by
 refine⟨hg,hp,λC o=>?_,λC o o'=>H1 (hL C),λC o=>xD (hL C),λC o=>?_⟩
 .show put (F C++[]) N o=_;rw[bh];exact uO (hL C)
 .show _=F C++[];rw[bh];exact ML (hL C)
def azI (b:C_)(g:GO)(cs:D_)(nx e0:Int)(Z:G_)(lo:Obj)(K:Nat)(hK:18<=K)(o w:Obj)(N:Nat)(hN:K<N):Bk (λC T=>GH b g cs nx e0 Z C lo [(K,o),(N,w)]++T) 12 (N+1):=by
 refine ayP (λC p hp=>?_) (λC T=>rfl) (λC T C'=>rfl);simp only[aC,cW,fk]at hp;rcases hp with rfl|rfl|rfl|rfl|rfl|rfl|rfl|rfl|rfl|rfl|rfl|rfl|rfl|rfl|rfl|rfl|rfl|rfl|rfl|rfl<;>simp only[]<;>omega
abbrev pO (d:Bool):Obj:=.loop aAd [83] rZ sm d none
abbrev OT:Obj:=.loop aAd [83] rZ sm false (some .ret)
abbrev plO (p:Nat×Nat):Obj:=.cells [A_ (p.1:Int),A_ (p.2:Int),A_ ((p.2+bO p.1:Nat):Int)]
def aCF (b:C_)(g:GO)(a0 a1 a2 a3 a4 a5 a6 a7:AV)(nx e0:Int)(Z:G_)(hZ:Z.length=256)(C:D_)(hC:HE C)(p:Nat×Nat)(hp:(1<=p.1∧p.1<=11)∧p.2+bO p.1<=256)(l:G_)(hl:l.length=bO p.1)(n2:Nat)(hh:bi prog xq [.d (.lst (ai b)),A_ nx,nD p.1]=some (.tup [.own true 1 (aF l),A_ n2,A_ 0]))(K:Nat)(o:Obj)(hK:18<=K)(N:Nat)(hN:K<N) :
  cq (Dn prog) (.yield 17) [.agg [A_ (p.1:Int),A_ (p.2:Int),A_ ((p.2+bO p.1:Nat):Int)]] ⟨GH b g [a0,a1,a2,a3,a4,a5,a6,a7,.sl 11 0 256] nx e0 Z C (pO false) [(K,o)],N⟩ =
  some (B_ true,⟨GH b g [a0,a1,a2,a3,a4,a5,a6,a7,.sl 11 0 256] n2 0 (aG Z p.2 l) (aG C (4*p.1) (q9 p.1)) (pO false) [(K,o)],N+1+1⟩):=by
 obtain⟨h1,h2⟩:=hp;have hB:=Ru (azI b g [a0,a1,a2,a3,a4,a5,a6,a7,.sl 11 0 256] nx e0 Z (pO true) K hK o (plO p) N hN) C hC p.1 h1;have hs:=λC2=>axL (h:=GH b g [a0,a1,a2,a3,a4,a5,a6,a7,.sl 11 0 256] n2 0 Z C2 (pO true) [(K,o),(N,plO p)]) (xs:=aF Z) (id:=11) (a:=p.2) (b:=p.2+bO p.1) (n:=256) o_ h2 o_ rfl (p.2:Int) _ rfl rfl
 rw[fT]at hs;have hc:=λC2=>awR (h:=GH b g [a0,a1,a2,a3,a4,a5,a6,a7,.sl 11 0 256] n2 0 Z C2 (pO true) [(K,o),(N,plO p)]) (id:=11) (a:=p.2) (n:=bO p.1) (y:=.own false 1 (aF l)) hl o_ rfl rfl
 generalize aG C (4*p.1) (q9 p.1)=C2 at *;replace hs:=hs C2;replace hc:=hc C2;obtain⟨TO,hT⟩:∃TO:Int,TO=((p.2+bO p.1:Nat):Int):=⟨_,rfl⟩
 simp only[GH,plO,pO,aR,aK,nD]at hB hs hc hh⊢;rw[<-hT]at hB hs hc⊢;obtain⟨o1,o2,o3,o7,o8,o9,oX,o14,o15,o16⟩:=g;simp only[]at *;have eA:∀st,(Dn prog).code rZ st=(Dn prog).code GA st:=λ_=>rfl
 have eB:∀st,(Dn prog).code sm st=(Dn prog).code (.block 3
  (.seq Gr
  (.seq (.seq (.seq zN (Vm.K [18,84]))
  (.seq GN
  (.cond (.m 96)
  (.seq (.seq (Vm.K [20]) (F 19)) (.seq (.seq zX (Vm.K [12]))
  .ret))
  (.seq (Vm.K [11,12]) .skip))))
  (.seq Gc (F 19))))) st:=λ_=>rfl
 simp(config := { maxSteps:=1000000 }) (disch:=omega)[↓ac,↓aa,eA,eB,hh,hB,hs,hc]
def aB0 (b:C_)(g:GO)(a0 a1 a2 a3 a4 a5 a6 a7:AV)(nx e0:Int)(Z:G_)(C:D_)(hC:HE C)(p:Nat×Nat)(hp:(1<=p.1∧p.1<=11)∧p.2+bO p.1<=256)(e:Nat)(hh:bi prog xq [.d (.lst (ai b)),A_ nx,nD p.1]=some (.tup [.nl,A_ 0,A_ (e+1)]))(K:Nat)(o:Obj)(hK:18<=K)(N:Nat)(hN:K<N) :
  cq (Dn prog) (.yield 17) [.agg [A_ (p.1:Int),A_ (p.2:Int),A_ ((p.2+bO p.1:Nat):Int)]] ⟨GH b g [a0,a1,a2,a3,a4,a5,a6,a7,.sl 11 0 256] nx e0 Z C (pO false) [(K,o)],N⟩ =
  some (B_ false,⟨GH b g afF 0 ((e:Int)+1) Z (aG C (4*p.1) (q9 p.1)) OT [(K,o)],N+1+1⟩):=by
 obtain⟨h1,h2⟩:=hp;have hB:=Ru (azI b g [a0,a1,a2,a3,a4,a5,a6,a7,.sl 11 0 256] nx e0 Z (pO true) K hK o (plO p) N hN) C hC p.1 h1;generalize aG C (4*p.1) (q9 p.1)=C2 at *;obtain⟨TO,hT⟩:∃TO:Int,TO=((p.2+bO p.1:Nat):Int):=⟨_,rfl⟩
 simp only[GH,plO,pO,OT,aR,aK,nD]at hB hh⊢;rw[<-hT]at hB⊢;obtain⟨o1,o2,o3,o7,o8,o9,oX,o14,o15,o16⟩:=g;simp only[]at *;have eA:∀st,(Dn prog).code rZ st=(Dn prog).code GA st:=λ_=>rfl
 have eB:∀st,(Dn prog).code sm st=(Dn prog).code (.block 3
  (.seq Gr
  (.seq (.seq (.seq zN (Vm.K [18,84]))
  (.seq GN
  (.cond (.m 96)
  (.seq (.seq (Vm.K [20]) (F 19)) (.seq (.seq zX (Vm.K [12]))
  .ret))
  (.seq (Vm.K [11,12]) .skip))))
  (.seq Gc (F 19))))) st:=λ_=>rfl
 simp(config := { maxSteps:=1000000 }) (disch:=omega)[↓ac,↓aa,eA,eB,hh,hB]
def Wq {r:Nat}{jj:aO}{SS:H_}(hm:jj.may r)(hS:jH jj SS)(hr:r<=11){p:Nat×Nat}(hp:p∈rF (offs r jj.short) SS jj.groups 0):(1<=p.1∧p.1<=11)∧p.2+bO p.1<=256:=by
 have hm11:=gQ hr hm;obtain⟨g1,g2⟩:=dO hm11;obtain⟨w,g,j,l,e1,e2,e3,e4,e5,e6,x,e7,e8⟩:=Mk hS.2 (λn hn=>(g1 n hn).1) hp;obtain⟨o1,o2,o3⟩:=uR (r,jj.short) (iu o_);simp only at o1 o2 o3;have hmx:=hm.2.2.2.1;have hlm:l∈SS:=di e1;have hbl:=tg (hS.2 l hlm) hm.2.2.1;have hjl:j<(aP l).length:=(aN.1 e5).1;have hmy:qO r (decide (jj.seq=2))=(offs r jj.short).length-1:=rfl;have hj1:j+1<(offs r jj.short).length:=o_;have hoj:nth (offs r jj.short) j<nth (offs r jj.short) (j+1)∧(nth (offs r jj.short) (j+1)-nth (offs r jj.short) j) % 4=0:=by
  have:=bJ.1 o1 j (dU.2 o_);simpa using this
 have hos:∀k,k+1<(offs r jj.short).length->nth (offs r jj.short) k<nth (offs r jj.short) (k+1):=λk hk=>by
  have:=bJ.1 o1 k (dU.2 o_);simp only[af,decide_eq_true_eq]at this;exact this.1
 have hd4:bO p.1=4∨bO p.1=2:=by unfold bO;split<;>simp
 have hx:=Mq (d:=bO p.1) o_ (by rcases hd4 with h|h<;>rw[h]<;>omega) e7;have hw:(w:Int)<jj.many:=o_;have ho256:nth (offs r jj.short) (j+1)<=cond jj.short 32 256:=by
  have:=bJ.1 o3 _ (jM hj1);simpa using this
 have hcond:(cond jj.short 32 256:Nat)=jj.wide:=by
  unfold aO.short aO.wide;by_cases h:jj.seq=2
  .rw[decide_eq_true h,ac h];rfl
  .rw[decide_eq_false h,aa h];rfl
 rw[hcond]at ho256;have hww:w*32=w*jj.wide∧w*jj.wide+jj.wide<=256:=by
  unfold aO.many at hw;unfold aO.wide;split at hw
  .rename_i h2;rw[ac h2];omega
  .rename_i h2;rw[aa h2];omega
 exact⟨e6,o_⟩
def az2:∀id∈List.range 12,1<=id->d8 id=bO id:=e_
def nX (b:C_):S_->Nat->G_->R G_
 |[],n,Z=>.ok Z n
 |p::r,n,Z=>(Fa p.1 b n).bind λl m=>nX b r m (aG Z p.2 l)
abbrev StG:Type:=D_×Nat×G_
abbrev Xv (b:C_)(p:Nat×Nat)(s:StG):Sum StG (D_×Nat×G_):=match Fa p.1 b s.2.1 with
 |.ok l n=>.inl (aG s.1 (4*p.1) (q9 p.1),n,aG s.2.2 p.2 l)
 |.er e=>.inr (aG s.1 (4*p.1) (q9 p.1),e,s.2.2)
abbrev Bu:D_:=[A_ 0,.d (.int .u8 0),.d (.int .u8 0),A_ 0,.nl,.nl,.nl,.nl,.nl]
abbrev aFO (B:Nat)(r:S_)(s:StG):Prop:=HE s.1∧s.2.1<=B∧s.2.2.length=256∧(∀x∈s.2.2,-40000<=x∧x<=40000)∧∀p∈r,(1<=p.1∧p.1<=11)∧p.2+bO p.1<=256
def af8 {Z l:G_}{a:Nat}(h:a+l.length<=Z.length):(aG Z a l).length=Z.length:=by
 simp only[aG,al,bI,cu];omega
def awi {Z l:G_}{a:Nat}{x:Int}(h:x∈aG Z a l):x∈Z∨x∈l:=by
 simp only[aG,bF]at h;rcases h with (h|h)|h
 .exact .inl (dh h)
 .exact .inr h
 .exact .inl (bG h)
def aCe (b:C_)(hb:b.length<=1000000000)(g:GO)(a0 a1 a2 a3 a4 a5 a6 a7:AV):Sp (fun(s:StG) T=>GH b g [a0,a1,a2,a3,a4,a5,a6,a7,.sl 11 0 256] s.2.1 0 s.2.2 s.1 (pO false) T) (fun(z:D_×Nat×G_) T=>GH b g Bu 0 ((z.2.1:Int)+1) z.2.2 z.1 OT T) 18 17 (Xv b) (aFO b.length):=by
 intro p r s K o N hi hK hN;obtain⟨C,n0,Z⟩:=s;obtain⟨i1,i2,i3,i4,i5⟩:=hi;simp only at i1 i2 i3 i4;have hp:=i5 p (.head _);have hH:=atM p.1 b n0 hb o_ hp.1;have hd:=az2 p.1 (dU.2 o_) hp.1.1
 cases e:Fa p.1 b n0 with
 |ok l n =>
  have hq:=av2 ⟨hp.1.1,o_⟩ e;rw[e,eI hq]at hH;obtain⟨q1,q2,q3⟩:=hq;have hl:l.length=bO p.1:=o_;refine .inl ⟨(aG C (4*p.1) (q9 p.1),n,aG Z p.2 l),N+1+1,o_,by simp only[Xv,e],⟨adZ i1 hp.1,q2,?_,λx hx=>?_,λq hq=>i5 q (.tail _ hq)⟩,aCF b g a0 a1 a2 a3 a4 a5 a6 a7 n0 0 Z i3 C i1 p hp l hl n hH K o hK N hN⟩
  .show(aG Z p.2 l).length=256;rw[af8 o_];exact i3
  .rcases awi hx with h|h
   .exact i4 x h
   .exact q3 x h
 |er e2 =>
  rw[e,iP]at hH;exact .inr ⟨(aG C (4*p.1) (q9 p.1),e2,Z),N+1+1,o_,by simp only[Xv,e],aB0 b g a0 a1 a2 a3 a4 a5 a6 a7 n0 0 Z C i1 p hp e2 hH K o hK N hN⟩
def avh {b:C_}:∀{r:S_}{C:D_}{n:Nat}{Z:G_},(∀Z2 m,nX b r n Z=.ok Z2 m->∃C2,kI (Xv b) r (C,n,Z)=.inl (C2,m,Z2))∧∀e,nX b r n Z=.er e->∃C2 Z2,kI (Xv b) r (C,n,Z)=.inr (C2,e,Z2)
 |[],C,n,Z=>⟨λZ2 m h=>by
   injection h with g1 g2
   subst g1 g2;exact⟨C,rfl⟩,λe h=>absurd h (by simp[nX])⟩
 |p::r,C,n,Z=>by
  rw[nX,kI]
  cases e:Fa p.1 b n with
  |ok l m =>
   simp only[Xv,e,aI];exact avh
  |er e2 =>
   simp only[Xv,e];exact⟨λZ2 m h=>absurd h s_,λe3 h=>by
    injection h with h
    subst h;exact⟨_,_,rfl⟩⟩
def auI {b:C_}{g:GO}{cs:D_}{nx e0:Int}{Z:G_}{C:D_}{lo:Obj}{L:Nat}(hL:18<=L):Lt (GH b g cs nx e0 Z C lo []) L:=by
 intro p hp;simp only[aC,cW,fk]at hp;rcases hp with rfl|rfl|rfl|rfl|rfl|rfl|rfl|rfl|rfl|rfl|rfl|rfl|rfl|rfl|rfl|rfl|rfl|rfl<;>simp only[]<;>omega
def apY {σ:Type}{F:σ->am}{L:Nat}(hL:∀s,Lt (F s) L):Tl (λs T=>F s++T) L:=by
 refine⟨λs K o h=>?_,λs K o o' h=>H1 (Kg (hL s) h),λs K o h=>xD (Kg (hL s) h),λs K o h=>?_⟩
 .show put (F s++[]) K o=_;rw[bh];exact uO (Kg (hL s) h)
 .show _=F s++[];rw[bh];exact ML (Kg (hL s) h)
abbrev RT (r:Nat)(jj:aO)(S:H_):S_:=rF (offs r jj.short) S jj.groups 0
abbrev Z0:G_:=List.replicate 256 0
def adS (b:C_)(hb:b.length<=1000000000)(g:GO)(a0 a1 a2 a3 a4 a5 a6 a7:AV)(r:Nat)(hr:r<=11)(jj:aO)(hj:jj.Fit)(hm:jj.may r)(S:H_)(hS:jH jj S)(g14:g.o14=.cells jj.cells)(g15:g.o15=.cells [.d (.lst (bz S))])(g16:g.o16=.cells [.own false 1 (cX (offs r jj.short))])(n:Nat)(hn:n<=b.length) :
  (∀Z m,nX b (RT r jj S) n Z0=.ok Z m->Z.length=256∧(∀x∈Z,-40000<=x∧x<=40000)∧m<=b.length∧∃C2 M,(Dn prog).call iG [.yield 17,.ptr 15 0,.ptr 14 0,.ptr 16 0] ⟨GH b g [a0,a1,a2,a3,a4,a5,a6,a7,.sl 11 0 256] n 0 Z0 uS (pO false) [],18⟩=some (.tup [],⟨GH b g [a0,a1,a2,a3,a4,a5,a6,a7,.sl 11 0 256] m 0 Z C2 (pO false) [],M⟩))∧
  (∀e,nX b (RT r jj S) n Z0=.er e->∃C2 Z2 M,(Dn prog).call iG [.yield 17,.ptr 15 0,.ptr 14 0,.ptr 16 0] ⟨GH b g [a0,a1,a2,a3,a4,a5,a6,a7,.sl 11 0 256] n 0 Z0 uS (pO false) [],18⟩=some (.tup [],⟨GH b g Bu 0 ((e:Int)+1) Z2 C2 OT [],M⟩)):=by
 obtain⟨o1,o2,o3,o4⟩:=KK (r,jj.short) (iu o_);obtain⟨p1,p2,p3⟩:=uR (r,jj.short) (iu o_);simp only at o1 o2 o3 o4 p1 p2 p3;have hmx:=hm.2.2.2.1;have hmy:qO r (decide (jj.seq=2))=(offs r jj.short).length-1:=rfl;have hhi:∀x∈offs r jj.short,x<=256:=λx hx=>by
  have:=bJ.1 p3 x hx;simp only[decide_eq_true_eq]at this;have:(cond jj.short 32 256:Nat)<=256:=by cases jj.short<;>decide
  omega
 have hT:Tl (fun(s:StG) T=>GH b g [a0,a1,a2,a3,a4,a5,a6,a7,.sl 11 0 256] s.2.1 0 s.2.2 s.1 (pO false) T) 18:=apY (F:=fun(s:StG)=>GH b g [a0,a1,a2,a3,a4,a5,a6,a7,.sl 11 0 256] s.2.1 0 s.2.2 s.1 (pO false) []) (λs=>auI (ak _));have hT2:Tl (fun(z:D_×Nat×G_) T=>GH b g Bu 0 ((z.2.1:Int)+1) z.2.2 z.1 OT T) 18:=apY (F:=fun(z:D_×Nat×G_)=>GH b g Bu 0 ((z.2.1:Int)+1) z.2.2 z.1 OT []) (λs=>auI (ak _));have hpl:=ahX (P:=⟨17,14,16,S,offs r jj.short⟩) jj hj (gQ hr hm) 15 hT hT2 (aCe b hb g a0 a1 a2 a3 a4 a5 a6 a7) (λs=>by rw[<-g15];rfl) (λs T=>by rw[<-g14];rfl) (λs T=>by rw[<-g16];rfl) t_ hhi t_ hS 18 (ak _) (uS,n,Z0) ⟨ah3,hn,by simp only[bU],λx hx=>by rw[ej hx];omega,λp hp=>Wq hm hS hr hp⟩;have hru:=avh (b:=b) (r:=RT r jj S) (C:=uS) (n:=n) (Z:=Z0);refine⟨λZ m e=>?_,λe1 e=>?_⟩
 .obtain⟨C2,h1⟩:=hru.1 Z m e;rcases hpl with ⟨s2,M,hM,e1,⟨i1,i2,i3,i4,i5⟩,e5⟩|⟨z,M,hM,e1,e3⟩
  .rw[h1]at e1;injection e1 with e1
   subst e1;exact⟨i3,i4,i2,C2,M,e5⟩
  .rw[h1]at e1;exact absurd e1 (by simp)
 .obtain⟨C2,Z2,h1⟩:=hru.2 e1 e;rcases hpl with ⟨s2,M,hM,e1,⟨i1,i2,i3,i4,i5⟩,e5⟩|⟨z,M,hM,e1,e3⟩
  .rw[h1]at e1;exact absurd e1 (by simp)
  .rw[h1]at e1;injection e1 with e1
   subst e1;exact⟨C2,Z2,M,e3⟩
def au3:Fn [.int .i64 0] (A_ 256) (A_ 256)=some (.own true 1 (aF Z0)):=(D7 (z:=[.int .i64 0]) (n:=256) o_).trans (by simp[aF])
def aqe:(aF Z0).length=256:=by rw[iA,bU]
abbrev Tr (H:Hd)(Z:G_):D_:=[A_ H.gain,.d (.int .u8 H.inf.seq),.d (.int .u8 H.inf.shape),A_ H.inf.max,.d (.lst (aF H.inf.groups)),.d (.lst (bz H.S)),.d (.lst (cY H.T)),.d (.lst (cR H.F)),.own true 1 (aF Z)]
def anu:∀r<12,(bi prog wD [A_ ((r:Nat):Int),.agg zI]=some (A_ 8)):=by
 intro r hr;have:r=0∨r=1∨r=2∨r=3∨r=4∨r=5∨r=6∨r=7∨r=8∨r=9∨r=10∨r=11:=o_;rcases this with rfl|rfl|rfl|rfl|rfl|rfl|rfl|rfl|rfl|rfl|rfl|rfl<;>exact A7 400 (by kernel_rfl)
def N7 {r:Nat}{q:Bool}{i:aO}{iv:D_}(hr:r<=11)(hi:i.Fit)(hiv:iv=i.cells∨q=false∧iv=zI)(hq:q=true->i.may r):∃k:Int,(q=true->k=0)∧bi prog wD [A_ r,.agg iv]=some (A_ k):=by
 rcases hiv with rfl|⟨rfl,rfl⟩
 .have hI:=xp r i hi;rw[ac o_,au]at hI;by_cases hm:i.may r
  .rw[ac hm]at hI;exact⟨0,λ_=>rfl,hI⟩
  .rw[aa hm]at hI;exact⟨8,λh=>absurd (hq h) hm,hI⟩
 .exact⟨8,λh=>absurd h s_,anu r o_⟩
def avK (b:C_)(hb:b.length<=1000000000)(a:Int)(ha:i64 a)(r:Nat)(hr:r<=11)(q:Bool)(i:aO)(hi:i.Fit)(iv:D_)(hiv:iv=i.cells∨q=false∧iv=zI)(hq:q=true->i.may r)(n0:Nat)(e0:bb b a 0=.ok 0 n0)(H:Hd)(n:Nat)(eH:HL b n0 r q i=.ok H n)(Z:G_)(m:Nat)(eL:nX b (RT r H.inf H.S) n Z0=.ok Z m):bi prog sW [.d (.lst (ai b)),A_ a,A_ r,B_ q,.agg iv] =
  if H.od=0∧(H.is=1->vu H.F=true) then some (.tup [.agg (Tr H Z),A_ m,A_ 0])
  else some (.tup [.agg Bu,A_ 0,A_ 8]):=by
 have hR:dR (r:Int):=o_;have hB:=gL b a 0 hb ha;have p0:=ed e0;rw[e0,eI p0]at hB;obtain⟨k,hk0,hI⟩:=N7 hr hi hiv hq;have hh:=OY b hb r hR q i hi iv hiv (λh=>by rw[au];exact hq h) n0 (by have:=p0.2;omega) k 11;rw[au]at hh;have p1:=hh.2 H n eH;have hl:=hh.1.1 H n eH;have hM:=kz r false;rw[ac hR]at hM;obtain⟨G,j,S,T,Ft,od,is⟩:=H;have hF:=Ss Ft (by have:=p1.F.1;simp only at this;have:=wR j;omega) (λl hl=>by have:=(p1.F.2 l hl).1;omega);simp only[aiB]at hl eL;obtain⟨q1,q2,q3,C2,M,hp⟩:=(adS b hb ⟨.cells [.junk],.cells [B_ q],.cells iv,.cells [A_ od],.cells [A_ is],.cells [ag1],.cells xe,.cells j.cells,.cells [.d (.lst (bz S))],.cells [.own false 1 (cX (offs r j.short))]⟩ (A_ G) (.d (.int .u8 j.seq)) (.d (.int .u8 j.shape)) (A_ j.max) (.own false 1 (aF j.groups)) (aD 1 (bz S)) (share (aD 1 (cY T))) (aD 1 (cR Ft)) r hr j p1.fit p1.may S p1.S rfl rfl rfl n p1.n).1 Z m eL;have hj11:=gQ hr p1.may;have hSl:S.length=j.groups.length:=p1.S.1;have hTl:=aX List.length p1.T;simp only[gO]at hTl;have hFl:=p1.F.1;simp only at hFl;have hmn:=wR j;have hgn:j.groups≠[]:=λh=>by have:=(dO hj11).2;rw[h]at this;simp at this;omega
 have hg1:=bN.2 hgn;obtain⟨s1,S1,rfl⟩:=de (bN.1 (show 0<S.length by omega));obtain⟨t1,T1,rfl⟩:=de (bN.1 (show 0<T.length by omega));obtain⟨f1,F1,rfl⟩:=de (bN.1 (show 0<Ft.length by omega));have eS:aD 1 (bz (s1::S1))=.own false 1 (bz (s1::S1)):=rfl;have eT:share (aD 1 (cY (t1::T1)))=.d (.lst (cY (t1::T1))):=rfl;have eF:aD 1 (cR (f1::F1))=.own false 1 (cR (f1::F1)):=rfl;have hP:=Po r hr j (.lst (bz (s1::S1))) [(0,.cells [.d (.lst (ai b))]),(1,.cells [.junk]),(2,.cells [B_ q]),(3,.cells iv),(4,.cells [A_ G,.d (.int .u8 j.seq),.d (.int .u8 j.shape),A_ j.max,.own false 1 (aF j.groups),.own false 1 (bz (s1::S1)),.d (.lst (cY (t1::T1))),.own false 1 (cR (f1::F1)),.sl 11 0 256]),(5,.cells [A_ n]),(6,.cells [A_ 0]),(7,.cells [A_ od]),(8,.cells [A_ is]),(9,.cells [ag1]),(10,.cells xe),(11,.arr 1 (aF Z0)),(12,.cells uS),(13,.cells [.ptr 12 0])] 14 (λp hp=>by
  simp only[aC,cW,fk]at hp;rcases hp with rfl|rfl|rfl|rfl|rfl|rfl|rfl|rfl|rfl|rfl|rfl|rfl|rfl|rfl<;>simp only[]<;>omega)
 have c0:((0:Nat):Int)=0:=rfl;rw[eS,eT,eF]at hl hp;simp only[Tr,aO.cells,GH,pO,aR,aK,c0]at hI hl hp hP hB⊢;clear hh p1 eL eH q2 eS eT eF hi;generalize bz (s1::S1)=SS at *;generalize cY (t1::T1)=TT at *;generalize cR (f1::F1)=FF at *;generalize hz:aF Z0=z0 at *;have hk:=au3;have hz2:=aqe;rw[hz]at hk hz2;rw[aH Fo F6 rfl];have hmk:JY 1 xe=true:=rfl;simp only[xe,Ay]at hmk;have hZt:List.take 256 Z=Z:=cx o_;have hoi:(od=0∧((((is:Nat):Int)=1∧vu (f1::F1)=true)∨(((is:Nat):Int)≠1)))∨(od=0∧((is:Nat):Int)=1∧vu (f1::F1)=false)∨od≠0:=by
  cases vu (f1::F1)<;>simp<;>omega
 have hii:(is=1)=(((is:Nat):Int)=1):=propext o_;simp only[hii];clear hii;generalize vu (f1::F1)=an at *;generalize ((is:Nat):Int)=iz at *;rcases hoi with ⟨h1,⟨h2,h3⟩|h2⟩|⟨h1,h2,h3⟩|h1
 .subst h3;rw[ac ⟨h1,λ_=>rfl⟩];rcases hiv with rfl|⟨rfl,rfl⟩
  .simp only[aO.cells]at hI hl hp hP⊢
   cases q with
   |true =>
    have:=hk0 rfl;subst this;simp(config := { maxSteps:=1000000 }) (disch:=omega)[↓ac,↓aa,rd,hB,hM,hI,hl,hk,hz2,hP,hp,hmk,hF,q1,hZt]
   |false=>simp(config := { maxSteps:=1000000 }) (disch:=omega)[↓ac,↓aa,rd,hB,hM,hI,hl,hk,hz2,hP,hp,hmk,hF,q1,hZt]
  .simp only[zI]at hI hl hp hP⊢;simp(config := { maxSteps:=1000000 }) (disch:=omega)[↓ac,↓aa,rd,hB,hM,hI,hl,hk,hz2,hP,hp,hmk,hF,q1,hZt]
 .rw[ac ⟨h1,λh=>absurd h h2⟩];rcases hiv with rfl|⟨rfl,rfl⟩
  .simp only[aO.cells]at hI hl hp hP⊢
   cases q with
   |true =>
    have:=hk0 rfl;subst this;simp(config := { maxSteps:=1000000 }) (disch:=omega)[↓ac,↓aa,rd,hB,hM,hI,hl,hk,hz2,hP,hp,hmk,hF,q1,hZt]
   |false=>simp(config := { maxSteps:=1000000 }) (disch:=omega)[↓ac,↓aa,rd,hB,hM,hI,hl,hk,hz2,hP,hp,hmk,hF,q1,hZt]
  .simp only[zI]at hI hl hp hP⊢;simp(config := { maxSteps:=1000000 }) (disch:=omega)[↓ac,↓aa,rd,hB,hM,hI,hl,hk,hz2,hP,hp,hmk,hF,q1,hZt]
 .subst h3;rw[aa (λh=>absurd (h.2 h2) s_)];rcases hiv with rfl|⟨rfl,rfl⟩
  .simp only[aO.cells]at hI hl hp hP⊢
   cases q with
   |true =>
    have:=hk0 rfl;subst this;simp(config := { maxSteps:=1000000 }) (disch:=omega)[↓ac,↓aa,rd,hB,hM,hI,hl,hk,hz2,hP,hp,hmk,hF,q1,hZt]
   |false=>simp(config := { maxSteps:=1000000 }) (disch:=omega)[↓ac,↓aa,rd,hB,hM,hI,hl,hk,hz2,hP,hp,hmk,hF,q1,hZt]
  .simp only[zI]at hI hl hp hP⊢;simp(config := { maxSteps:=1000000 }) (disch:=omega)[↓ac,↓aa,rd,hB,hM,hI,hl,hk,hz2,hP,hp,hmk,hF,q1,hZt]
 .rw[aa (λh=>absurd h.1 h1)];rcases hiv with rfl|⟨rfl,rfl⟩
  .simp only[aO.cells]at hI hl hp hP⊢
   cases q with
   |true =>
    have:=hk0 rfl;subst this;simp(config := { maxSteps:=1000000 }) (disch:=omega)[↓ac,↓aa,rd,hB,hM,hI,hl,hk,hz2,hP,hp,hmk,hF,q1,hZt]
   |false=>simp(config := { maxSteps:=1000000 }) (disch:=omega)[↓ac,↓aa,rd,hB,hM,hI,hl,hk,hz2,hP,hp,hmk,hF,q1,hZt]
  .simp only[zI]at hI hl hp hP⊢;simp(config := { maxSteps:=1000000 }) (disch:=omega)[↓ac,↓aa,rd,hB,hM,hI,hl,hk,hz2,hP,hp,hmk,hF,q1,hZt]
abbrev ic:=@Classical.byContradiction
def aqO (b:C_)(hb:b.length<=1000000000)(a:Int)(ha:i64 a)(r:Nat)(hr:r<=11)(q:Bool)(i:aO)(iv:D_)(hiv:iv=i.cells∨q=false∧iv=zI)(e:Nat)(e0:bb b a 0=.er e):bi prog sW [.d (.lst (ai b)),A_ a,A_ r,B_ q,.agg iv] =
  some (.tup [.agg Bu,A_ 0,A_ (e+1)]):=by
 have hR:dR (r:Int):=o_;have hB:=gL b a 0 hb ha;rw[e0,iP]at hB;have hM:=kz r false;rw[ac hR]at hM;rcases hiv with rfl|⟨rfl,rfl⟩
 all_goals
  simp only[aO.cells,zI];rw[aH Fo F6 rfl];simp(config := { maxSteps:=1000000 }) (disch:=omega)[↓ac,↓aa,rd,hB,hM]
def ata (b:C_)(hb:b.length<=1000000000)(a:Int)(ha:i64 a)(r:Nat)(hr:r<=11)(i:aO)(hi:i.Fit)(hm:¬i.may r)(n0:Nat)(e0:bb b a 0=.ok 0 n0):bi prog sW [.d (.lst (ai b)),A_ a,A_ r,B_ true,.agg i.cells] =
  some (.tup [.agg Bu,A_ 0,A_ 8]):=by
 have hR:dR (r:Int):=o_;have hB:=gL b a 0 hb ha;have p0:=ed e0;rw[e0,eI p0]at hB;have hM:=kz r false;rw[ac hR]at hM;have hI:=xp r i hi;rw[ac hR,au,aa hm]at hI;have c0:((0:Nat):Int)=0:=rfl;simp only[aO.cells,c0]at hI hB⊢;rw[aH Fo F6 rfl];simp(config := { maxSteps:=1000000 }) (disch:=omega)[↓ac,↓aa,rd,hB,hM,hI]
def asI (b:C_)(hb:b.length<=1000000000)(a:Int)(ha:i64 a)(r:Nat)(hr:r<=11)(q:Bool)(i:aO)(hi:i.Fit)(iv:D_)(hiv:iv=i.cells∨q=false∧iv=zI)(hq:q=true->i.may r)(n0:Nat)(e0:bb b a 0=.ok 0 n0)(e:Nat)(eH:HL b n0 r q i=.er e):bi prog sW [.d (.lst (ai b)),A_ a,A_ r,B_ q,.agg iv] =
  some (.tup [.agg Bu,A_ 0,A_ (e+1)]):=by
 have hR:dR (r:Int):=o_;have hB:=gL b a 0 hb ha;have p0:=ed e0;rw[e0,eI p0]at hB;obtain⟨k,hk0,hI⟩:=N7 hr hi hiv hq;have hh:=OY b hb r hR q i hi iv hiv (λh=>by rw[au];exact hq h) n0 (by have:=p0.2;omega) k 11;rw[au]at hh;obtain⟨od2,is2,hl⟩:=hh.1.2 e eH;have hM:=kz r false;rw[ac hR]at hM;have c0:((0:Nat):Int)=0:=rfl;simp only[aO.cells,c0]at hI hl hB⊢;clear hh eH hi hq;rw[aH Fo F6 rfl];have hmk:JY 1 xe=true:=rfl;simp only[xe,Ay]at hmk;rcases hiv with rfl|⟨rfl,rfl⟩
 .simp only[aO.cells]at hI hl⊢
  cases q with
  |true =>
   have:=hk0 rfl;subst this;simp(config := { maxSteps:=1000000 }) (disch:=omega)[↓ac,↓aa,rd,hB,hM,hI,hl,hmk]
  |false=>simp(config := { maxSteps:=1000000 }) (disch:=omega)[↓ac,↓aa,rd,hB,hM,hI,hl,hmk]
 .simp only[zI]at hI hl⊢;simp(config := { maxSteps:=1000000 }) (disch:=omega)[↓ac,↓aa,rd,hB,hM,hI,hl,hmk]
def atq (b:C_)(hb:b.length<=1000000000)(a:Int)(ha:i64 a)(r:Nat)(hr:r<=11)(q:Bool)(i:aO)(hi:i.Fit)(iv:D_)(hiv:iv=i.cells∨q=false∧iv=zI)(hq:q=true->i.may r)(n0:Nat)(e0:bb b a 0=.ok 0 n0)(H:Hd)(n:Nat)(eH:HL b n0 r q i=.ok H n)(e:Nat)(eL:nX b (RT r H.inf H.S) n Z0=.er e):bi prog sW [.d (.lst (ai b)),A_ a,A_ r,B_ q,.agg iv] =
  some (.tup [.agg Bu,A_ 0,A_ (e+1)]):=by
 have hR:dR (r:Int):=o_;have hB:=gL b a 0 hb ha;have p0:=ed e0;rw[e0,eI p0]at hB;obtain⟨k,hk0,hI⟩:=N7 hr hi hiv hq;have hh:=OY b hb r hR q i hi iv hiv (λh=>by rw[au];exact hq h) n0 (by have:=p0.2;omega) k 11;rw[au]at hh;have p1:=hh.2 H n eH;have hl:=hh.1.1 H n eH;have hM:=kz r false;rw[ac hR]at hM;obtain⟨G,j,S,T,Ft,od,is⟩:=H;simp only[aiB]at hl eL;obtain⟨C2,Z2,M,hp⟩:=(adS b hb ⟨.cells [.junk],.cells [B_ q],.cells iv,.cells [A_ od],.cells [A_ is],.cells [ag1],.cells xe,.cells j.cells,.cells [.d (.lst (bz S))],.cells [.own false 1 (cX (offs r j.short))]⟩ (A_ G) (.d (.int .u8 j.seq)) (.d (.int .u8 j.shape)) (A_ j.max) (.own false 1 (aF j.groups)) (aD 1 (bz S)) (share (aD 1 (cY T))) (aD 1 (cR Ft)) r hr j p1.fit p1.may S p1.S rfl rfl rfl n p1.n).2 e eL;have hj11:=gQ hr p1.may;have hSl:S.length=j.groups.length:=p1.S.1;have hTl:=aX List.length p1.T;simp only[gO]at hTl;have hFl:=p1.F.1;simp only at hFl;have hmn:=wR j;have hgn:j.groups≠[]:=λh=>by have:=(dO hj11).2;rw[h]at this;simp at this;omega
 have hg1:=bN.2 hgn;obtain⟨s1,S1,rfl⟩:=de (bN.1 (show 0<S.length by omega));obtain⟨t1,T1,rfl⟩:=de (bN.1 (show 0<T.length by omega));obtain⟨f1,F1,rfl⟩:=de (bN.1 (show 0<Ft.length by omega));have eS:aD 1 (bz (s1::S1))=.own false 1 (bz (s1::S1)):=rfl;have eT:share (aD 1 (cY (t1::T1)))=.d (.lst (cY (t1::T1))):=rfl;have eF:aD 1 (cR (f1::F1))=.own false 1 (cR (f1::F1)):=rfl;have hP:=Po r hr j (.lst (bz (s1::S1))) [(0,.cells [.d (.lst (ai b))]),(1,.cells [.junk]),(2,.cells [B_ q]),(3,.cells iv),(4,.cells [A_ G,.d (.int .u8 j.seq),.d (.int .u8 j.shape),A_ j.max,.own false 1 (aF j.groups),.own false 1 (bz (s1::S1)),.d (.lst (cY (t1::T1))),.own false 1 (cR (f1::F1)),.sl 11 0 256]),(5,.cells [A_ n]),(6,.cells [A_ 0]),(7,.cells [A_ od]),(8,.cells [A_ is]),(9,.cells [ag1]),(10,.cells xe),(11,.arr 1 (aF Z0)),(12,.cells uS),(13,.cells [.ptr 12 0])] 14 (λp hp=>by
  simp only[aC,cW,fk]at hp;rcases hp with rfl|rfl|rfl|rfl|rfl|rfl|rfl|rfl|rfl|rfl|rfl|rfl|rfl|rfl<;>simp only[]<;>omega)
 have c0:((0:Nat):Int)=0:=rfl;rw[eS,eT,eF]at hl hp;simp only[aO.cells,GH,pO,OT,aR,aK,c0]at hI hl hp hP hB⊢;clear hh p1 eL eH eS eT eF hi;generalize bz (s1::S1)=SS at *;generalize cY (t1::T1)=TT at *;generalize cR (f1::F1)=FF at *;generalize hz:aF Z0=z0 at *;have hk:=au3;have hz2:=aqe;rw[hz]at hk hz2;rw[aH Fo F6 rfl];have hmk:JY 1 xe=true:=rfl;simp only[xe,Ay]at hmk;rcases hiv with rfl|⟨rfl,rfl⟩
 .simp only[aO.cells]at hI hl hp hP⊢
  cases q with
  |true =>
   have:=hk0 rfl;subst this;simp(config := { maxSteps:=1000000 }) (disch:=omega)[↓ac,↓aa,rd,hB,hM,hI,hl,hk,hz2,hP,hp,hmk]
  |false=>simp(config := { maxSteps:=1000000 }) (disch:=omega)[↓ac,↓aa,rd,hB,hM,hI,hl,hk,hz2,hP,hp,hmk]
 .simp only[zI]at hI hl hp hP⊢;simp(config := { maxSteps:=1000000 }) (disch:=omega)[↓ac,↓aa,rd,hB,hM,hI,hl,hk,hz2,hP,hp,hmk]
def Rl (b:C_)(a:Int)(r:Nat)(q:Bool)(i:aO):R (Hd×G_) :=
 (bb b a 0).bind λ_ n=>if q=true∧¬i.may r then .er 7 else (HL b n r q i).bind λH n=>(nX b (RT r H.inf H.S) n Z0).bind λZ m=>if H.od=0∧(H.is=1->vu H.F=true) then .ok (H,Z) m else .er 7
abbrev asS (x:R (Hd×G_)):M_:=match x with
 |.ok v m=>some (.tup [.agg (Tr v.1 v.2),A_ m,A_ 0])
 |.er e=>some (.tup [.agg Bu,A_ 0,A_ (e+1)])
def alC (b:C_)(hb:b.length<=1000000000)(a:Int)(ha:i64 a)(r:Nat)(hr:r<=11)(q:Bool)(i:aO)(hi:i.Fit)(iv:D_)(hiv:iv=i.cells∨q=false∧iv=zI):bi prog sW [.d (.lst (ai b)),A_ a,A_ r,B_ q,.agg iv]=asS (Rl b a r q i):=by
 unfold Rl
 cases e0:bb b a 0 with
 |er e=>exact aqO b hb a ha r hr q i iv hiv e e0
 |ok v n0 =>
 have hv:v=0:=by have:v<1:=(ed e0).1;omega
 subst hv;rw[aI];by_cases hm:q=true∧¬i.may r
 .rw[ac hm];obtain⟨rfl,hm⟩:=hm
  cases hiv.resolve_right λh=>absurd h.1 (by simp)
  exact ata b hb a ha r hr i hi hm n0 e0
 .rw[aa hm];have hq:q=true->i.may r:=λh=>ic λh2=>hm ⟨h,h2⟩
  cases eH:HL b n0 r q i with
  |er e=>exact asI b hb a ha r hr q i hi iv hiv hq n0 e0 e eH
  |ok H n =>
  rw[aI]
  cases eL:nX b (RT r H.inf H.S) n Z0 with
  |er e=>exact atq b hb a ha r hr q i hi iv hiv hq n0 e0 H n eH e eL
  |ok Z m =>
   rw[aI,avK b hb a ha r hr q i hi iv hiv hq n0 e0 H n eH Z m eL];by_cases h:H.od=0∧(H.is=1->vu H.F=true)
   .rw[ac h,ac h]
   .rw[aa h,aa h];rfl
def atw (l:G_)(hl:l.length<=1000000)(h:am)(N:Nat):∀(r:G_) (i:Nat),l.drop i=r->(Dn prog).code (.loop kJ) ⟨[(0,.d (.lst (aF l))),(1,.d (.lst (aF l))),(5,A_ i)],⟨h,N⟩⟩=some (.exit 0,⟨[],⟨h,N⟩⟩):=by
 intro r
 induction r with
 |nil =>
  intro i hd;have hi:=bg hd;rw[ah yg];simp(maxSteps:=300000) (disch:=omega)[↓ac,↓aa]
 |cons v r ih =>
  intro i hd;have hg:=yb hd;have hlt:=bE hd;have e:=ih (i+1) (bt hd);rw[show((i+1:Nat):Int)=(i:Int)+1 from rfl]at e;rw[ah yg];simp(maxSteps:=300000) (disch:=omega)[↓ac,↓aa,hg,e]
def HO (l:G_)(hl:l.length<=1000000):bi prog Bw [.d (.lst (aF l)),.d (.lst (aF l))]=some (B_ true):=by
 have e:=atw l hl [] 0 l 0 rfl;rw[show((0:Nat):Int)=0 from rfl]at e;rw[aH Nz PK rfl];simp(maxSteps:=300000) (disch:=omega)[↓ac,↓aa,e]
def aoU (i:aO)(hi:i.groups.length<=1000000):bi prog CF [.agg i.cells,.agg i.cells]=some (B_ true):=by
 have e:=HO i.groups hi;simp only[aO.cells];rw[aH NE OG rfl];simp(maxSteps:=300000) (disch:=omega)[↓ac,↓aa,e]
def atZ (l:K_)(hl:l.length<=1000000)(hq:∀x∈l,x.length<=1000000)(h:am)(N:Nat):∀(r:K_) (i:Nat),l.drop i=r->(Dn prog).code (.loop iR) ⟨[(0,.d (.lst (cY l))),(1,.d (.lst (cY l))),(5,A_ i)],⟨h,N⟩⟩=some (.exit 0,⟨[],⟨h,N⟩⟩):=by
 intro r
 induction r with
 |nil =>
  intro i hd;have hi:=bg hd;rw[ah sj];simp(maxSteps:=300000) (disch:=omega)[↓ac,↓aa]
 |cons v r ih =>
  intro i hd;have hg:=Ks hd;have hlt:=bE hd;have hv:=hq v (bG (by rw[hd];exact .head _));have e:=ih (i+1) (bt hd);have e2:=HO v hv;rw[show((i+1:Nat):Int)=(i:Int)+1 from rfl]at e;rw[ah sj];simp(maxSteps:=300000) (disch:=omega)[↓ac,↓aa,hg,e,e2]
def aaw (l:K_)(hl:l.length<=1000000)(hq:∀x∈l,x.length<=1000000):bi prog vE [.d (.lst (cY l)),.d (.lst (cY l))]=some (B_ true):=by
 have e:=atZ l hl hq [] 0 l 0 rfl;rw[show((0:Nat):Int)=0 from rfl]at e;rw[aH HJ HG rfl];simp(maxSteps:=300000) (disch:=omega)[↓ac,↓aa,e]
def ap6 (x y:Int):J1 true [true,true] (.agg [A_ x,A_ y]) (.agg [A_ x,A_ y])=some (.bool false):=by
 simp[J1,bv,l8]
def axR (full:H_)(w:Nat)(l:Q_)(q:H_)(hw:full.drop w=l::q)(hf:full.length<=1000000)(hl:l.length<=1000000)(h:am)(N:Nat):∀(r:Q_) (i:Nat),l.drop i=r->(Dn prog).code (.loop gq) ⟨[(0,.d (.lst (bz full))),(1,.d (.lst (bz full))),(5,A_ w),(6,A_ i)],⟨h,N⟩⟩=some (.exit 2,⟨[(0,.d (.lst (bz full))),(1,.d (.lst (bz full))),(5,A_ w)],⟨h,N⟩⟩):=by
 have hg1:=lX hw;have hw1:=bE hw;intro r
 induction r with
 |nil =>
  intro i hd;have hi:=bg hd;rw[ah oY];simp(maxSteps:=300000) (disch:=omega)[↓ac,↓aa,hg1]
 |cons v r ih =>
  intro i hd;have hg:=wO hd;have hlt:=bE hd;have e:=ih (i+1) (bt hd);rw[show((i+1:Nat):Int)=(i:Int)+1 from rfl]at e;rw[ah oY];simp(maxSteps:=300000) (disch:=omega)[↓ac,↓aa,hg,hg1,e,ap6]
def awc (full:H_)(hf:full.length<=1000000)(hq:∀x∈full,x.length<=1000000)(h:am)(N:Nat):∀(r:H_) (i:Nat),full.drop i=r->(Dn prog).code (.loop gB) ⟨[(0,.d (.lst (bz full))),(1,.d (.lst (bz full))),(5,A_ i)],⟨h,N⟩⟩=some (.exit 0,⟨[],⟨h,N⟩⟩):=by
 intro r
 induction r with
 |nil =>
  intro i hd;have hi:=bg hd;rw[ah oL];simp(maxSteps:=300000) (disch:=omega)[↓ac,↓aa]
 |cons v r ih =>
  intro i hd;have hg:=lX hd;have hlt:=bE hd;have hv:=hq v (bG (by rw[hd];exact .head _));have e:=ih (i+1) (bt hd);have e2:=axR full i v r hd hf hv h N v 0 rfl;rw[show((i+1:Nat):Int)=(i:Int)+1 from rfl]at e;rw[show((0:Nat):Int)=0 from rfl]at e2;rw[ah oL];simp(maxSteps:=300000) (disch:=omega)[↓ac,↓aa,hg,e,e2]
def RA (l:H_)(hl:l.length<=1000000)(hq:∀x∈l,x.length<=1000000):bi prog sD [.d (.lst (bz l)),.d (.lst (bz l))]=some (B_ true):=by
 have e:=awc l hl hq [] 0 l 0 rfl;rw[show((0:Nat):Int)=0 from rfl]at e;rw[aH D0 D5 rfl];simp(maxSteps:=300000) (disch:=omega)[↓ac,↓aa,e]
def aAf (full:O_)(w:Nat)(l:AA_)(q:O_)(hw:full.drop w=l::q)(hf:full.length<=1000000)(hl:l.length<=1000000)(hc:∀f∈l,f.coefs.length<=1000000):∀(r:AA_) (i N:Nat),l.drop i=r->∃M,(Dn prog).code (.loop jm) ⟨[(0,.d (.lst (cR full))),(1,.d (.lst (cR full))),(5,A_ w),(6,A_ i)],⟨[],N⟩⟩=some (.exit 2,⟨[(0,.d (.lst (cR full))),(1,.d (.lst (cR full))),(5,A_ w)],⟨[],M⟩⟩):=by
 have hg1:=AX hw;have hw1:=bE hw;intro r
 induction r with
 |nil =>
  intro i N hd;have hi:=bg hd;refine⟨N,?_⟩;rw[ah ur];simp(maxSteps:=300000) (disch:=omega)[↓ac,↓aa,hg1]
 |cons v r ih =>
  intro i N hd;have hg:=E1 hd;have hlt:=bE hd;have hv:=hc v (bG (by rw[hd];exact .head _));have e2:=HO v.coefs hv;obtain⟨M,e⟩:=ih (i+1) (N+1+1) (bt hd);rw[show((i+1:Nat):Int)=(i:Int)+1 from rfl]at e;refine⟨M,?_⟩;rw[ah ur];simp(maxSteps:=300000) (disch:=omega)[↓ac,↓aa,hg,hg1,e,e2]
def aAC (full:O_)(hf:full.length<=1000000)(hq:∀x∈full,x.length<=1000000)(hc:∀x∈full,∀f∈x,f.coefs.length<=1000000):∀(r:O_) (i N:Nat),full.drop i=r->∃M,(Dn prog).code (.loop jo) ⟨[(0,.d (.lst (cR full))),(1,.d (.lst (cR full))),(5,A_ i)],⟨[],N⟩⟩=some (.exit 0,⟨[],⟨[],M⟩⟩):=by
 intro r
 induction r with
 |nil =>
  intro i N hd;have hi:=bg hd;refine⟨N,?_⟩;rw[ah ui];simp(maxSteps:=300000) (disch:=omega)[↓ac,↓aa]
 |cons v r ih =>
  intro i N hd;have hg:=AX hd;have hlt:=bE hd;have hm:v∈full:=bG (by rw[hd];exact .head _);have hv:=hq v hm;obtain⟨M1,e2⟩:=aAf full i v r hd hf hv (hc v hm) v 0 N rfl;obtain⟨M,e⟩:=ih (i+1) M1 (bt hd);rw[show((i+1:Nat):Int)=(i:Int)+1 from rfl]at e;rw[show((0:Nat):Int)=0 from rfl]at e2;refine⟨M,?_⟩;rw[ah ui];simp(maxSteps:=300000) (disch:=omega)[↓ac,↓aa,hg,e,e2]
def aeG (l:O_)(hl:l.length<=1000000)(hq:∀x∈l,x.length<=1000000)(hc:∀x∈l,∀f∈x,f.coefs.length<=1000000):bi prog yx [.d (.lst (cR l)),.d (.lst (cR l))]=some (B_ true):=by
 obtain⟨M,e⟩:=aAC l hl hq hc l 0 0 rfl;rw[show((0:Nat):Int)=0 from rfl]at e;rw[aH JU JS rfl];simp(maxSteps:=300000) (disch:=omega)[↓ac,↓aa,e]
def aoa (c:c7)(hc:c.Fit):bi prog BS [.agg c.av,.agg c.av]=some (B_ true):=by
 have hg:=hc.info.len;have hl:=hc.lines;have h1:=aoU c.info o_;have h2:=HO c.lines o_;have h3:=RA c.sects (by have:=hc.sects.1;omega) (λl h=>by have:=hc.sects.2 l h;omega);have h4:=aaw c.steps (by have:=hc.steps.1;omega) (λl h=>by have:=hc.steps.2 l h;omega);have h5:=aeG c.tns (by have:=hc.tns.1;omega) (λl h=>by have:=(hc.tns.2 l h).1;omega) (λl h f hf=>by have:=(hc.tns.2 l h).2 f hf;omega);simp only[c7.av,aO.cells]at h1⊢;rw[aH Ph Pb rfl];simp(maxSteps:=300000) (disch:=omega)[↓ac,↓aa,h1,h2,h3,h4,h5]
abbrev wd:=@List.drop_left
abbrev eK:=@Nat.mul_comm
abbrev yI:=@Nat.mul_assoc
abbrev nc:=@Nat.add_mul_div_right
def At (b:C_)(a n:Nat)(X:C_):Prop:=a<=b.length∧n=a+X.length∧∃t,b.drop a=X++t
def d9 {b:C_}{a n:Nat}:At b a n []↔n=a∧a<=b.length:=by
 constructor
 .rintro ⟨h1,h2,_⟩
  exact⟨by simpa using h2,h1⟩
 .rintro ⟨h1,h2⟩
  exact⟨h2,by simpa using h1,b.drop a,rfl⟩
def df {b:C_}{a n:Nat}{X:C_}(h:At b a n X):a<=b.length∧n<=b.length∧n=a+X.length:=by
 obtain⟨h1,h2,t,h3⟩:=h;have:=aX List.length h3;rw[cu,al]at this;exact⟨h1,o_,h2⟩
def be {b:C_}{a n:Nat}{X Y:C_}:At b a n (X++Y)↔∃m,At b a m X∧At b m n Y:=by
 constructor
 .intro h;have hl:=df h;obtain⟨h1,h2,t,h3⟩:=h;rw[al]at h2;refine⟨a+X.length,⟨h1,rfl,Y++t,by rw[h3,ax]⟩,o_,o_,t,?_⟩;rw[<-lV,h3,ax,wd]
 .rintro ⟨m,⟨h1,h2,t,h3⟩,h4,h5,t2,h6⟩
  refine⟨h1,by rw[al];omega,t2,?_⟩;rw[h2,<-lV,h3,wd]at h6;rw[h3,h6,ax]
def Ri {n:Nat}:∀{k:Nat},bin (aq n k)
 |0=>by simp[aq,bin]
 |k+1=>by
  intro x hx;rw[aq]at hx;rcases aC.1 hx with h|h
  .omega
  .exact Ri x h
def ace {v:Nat}:∀{s n:Nat},val (aq v s) n=n*2 ^ s+v % 2 ^ s
 |0,n=>by simp[aq,val,Nat.mod_one]
 |k+1,n=>by
  rw[aq,val,ace,Nat.mod_pow_succ,db,dc];have:2*n*2 ^ k=n*(2 ^ k*2):=by rw[eK 2 n,yI,eK 2 (2 ^ k)]
  rw[this,eK (v / 2 ^ k % 2)];omega
def agm:∀{l:C_}{n:Nat},val l n=n*2 ^ l.length+val l 0
 |[],n=>by simp[val]
 |x::r,n=>by
  rw[val,val,agm,agm (n:=2*0+x),ar,db,dc];have:2*n*2 ^ r.length=n*(2 ^ r.length*2):=by rw[eK 2 n,yI,eK 2 (2 ^ r.length)]
  rw[this];simp only[Nat.mul_zero,bC];omega
def acq:∀{l:C_}{n:Nat},bin l->aq (val l n) l.length=l
 |[],n,_=>rfl
 |x::r,n,h=>by
  have hr:bin r:=λy hy=>h y (.tail _ hy)
  have hx:=h x (.head _);have h0:=MG (l:=r) (n:=0) (i:=0) hr o_;rw[bC]at h0;have e:val r (2*n+x) / 2 ^ r.length % 2=x:=by
   rw[agm,oc,nc _ _ (Nat.pow_pos k_),iD h0];omega
  rw[val,ar,aq,e,acq hr]
def cK {b:C_}{a s v n:Nat}(hs:s<=31):bb b (a:Int) (s:Int)=.ok v n↔v<2 ^ s∧At b a n (aq v s):=by
 unfold bb;simp only[au];constructor
 .intro h;by_cases h1:(0<=(s:Int)∧(s:Int)<=31)∧0<=(a:Int)∧(a:Int)<=b.length
  .rw[ac h1]at h;by_cases h2:((b.length:Nat):Int)-a<s
   .rw[ac h2]at h;exact absurd h (by simp)
   .rw[aa h2]at h;by_cases h3:bin ((b.drop a).take s)
    .rw[ac h3]at h;injection h with e1 e2
     have hl:((b.drop a).take s).length=s:=by rw[bI,cu];omega
     have h4:=MG (n:=0) (i:=0) h3 o_;have h5:=acq (n:=0) h3;rw[hl,e1]at h4 h5;rw[bC]at h4;refine⟨h4,o_,by rw[dI];omega,(b.drop a).drop s,?_⟩;rw[h5,aT]
    .rw[aa h3]at h;exact absurd h (by simp)
  .rw[aa h1]at h;exact absurd h (by simp)
 .rintro ⟨hv,h⟩
  have hl:=df h;obtain⟨h1,h2,t,h3⟩:=h;rw[dI]at h2;have e:(b.drop a).take s=aq v s:=by rw[h3,List.take_left' dI]
  rw[ac o_,aa o_,e,ac Ri,ace,ft hv,h2];simp
def amj {b:C_}{a:Int}{s:Int}{v n:Nat}(h:bb b a s=.ok v n):0<=a:=by
 unfold bb at h;by_cases h1:(0<=s∧s<=31)∧0<=a∧a<=b.length
 .exact h1.2.1
 .rw[aa h1]at h;exact absurd h (by simp)
def Tp {α:Type}{c:Prop}[Decidable c]{v w:α}{n m:Nat}:R8 c v n=.ok w m↔c∧v=w∧n=m:=by
 unfold R8;by_cases h:c
 .rw[ac h];exact⟨λe=>by injection e with e1 e2;exact⟨h,e1,e2⟩,λ⟨_,e1,e2⟩=>by rw[e1,e2]⟩
 .rw[aa h];exact⟨λe=>absurd e s_,λe=>absurd e.1 h⟩
def aJ {α β:Type}{x:R α}{f:α->Nat->R β}{v:β}{n:Nat}:x.bind f=.ok v n↔∃u m,x=.ok u m∧f u m=.ok v n :=
 ⟨qz,λ⟨u,m,h1,h2⟩=>by rw[h1];exact h2⟩
def abe:Nat->AD_
 |0=>[[]]
 |k+1=>(abe k).map (0::·)++(abe k).map (1::·)
def alv:∀{l:C_},bin l->l∈abe l.length
 |[],_=>by simp[abe]
 |x::r,h=>by
  have ih:=alv (l:=r) λy hy=>h y (.tail _ hy)
  have hx:=h x (.head _);rw[ar,abe,bF,dz,dz];rcases Nat.le_one_iff_eq_zero_or_eq_one.1 hx with rfl|rfl
  .exact .inl ⟨r,ih,rfl⟩
  .exact .inr ⟨r,ih,rfl⟩
def aiM:Nat->Nat->K_
 |0,_=>[]
 |f+1,0=>[[]]
 |f+1,n+1=>(List.range (n+1)).flatMap λk=>(aiM f (n-k)).map (((k:Int)+1)::·)
def alu:∀{g:G_}{f n:Nat},(∀x∈g,1<=x)->g.sum=n->n<f->g∈aiM f n
 |[],f,n,_,h,hf=>by
  obtain⟨f,rfl⟩:=Nat.exists_eq_add_of_lt hf;have:n=0:=by simp at h;omega
  subst this;simp[aiM]
 |x::r,f,n,hx,h,hf=>by
  have h1:=hx x (.head _);have h2:=lG (l:=r) λy hy=>hx y (.tail _ hy)
  rw[mU]at h;obtain⟨f,rfl⟩:∃k,f=k+1:=⟨f-1,o_⟩
  obtain⟨n,rfl⟩:∃k,n=k+1:=⟨n-1,o_⟩
  have ih:=alu (g:=r) (f:=f) (n:=n-(x.toNat-1)) (λy hy=>hx y (.tail _ hy)) o_ o_;rw[aiM,ni];exact⟨x.toNat-1,dU.2 o_,dz.2 ⟨r,ih,by congr 1;omega⟩⟩
def axB:∀l∈abe 7,KG (grow [1] l) 7 0=l:=e_
def aws:∀g∈aiM 9 8,grow [1] (KG g 7 0)=g:=e_
def Od {b:C_}:∀{k a n:Nat}{l:C_},a<=b.length->(z6 b k a=.ok l n↔(l.length=k∧bin l)∧At b a n l)
 |0,a,n,l,ha=>by
  rw[z6];constructor
  .intro h;injection h with e1 e2
   subst e1 e2;exact⟨⟨rfl,by simp[bin]⟩,d9.2 ⟨rfl,ha⟩⟩
  .rintro ⟨⟨h1,_⟩,h2⟩
   have:=ay h1;subst this;rw[(d9.1 h2).1]
 |k+1,a,n,l,ha=>by
  rw[z6,aJ];constructor
  .rintro ⟨v,m,h1,h2⟩
   obtain⟨g1,g2⟩:=(cK (s:=1) o_).1 h1;obtain⟨l2,m2,h3,h4⟩:=aJ.1 h2;injection h4 with e1 e2;subst e1 e2;obtain⟨⟨i1,i2⟩,i3⟩:=(Od (df g2).2.1).1 h3;refine⟨⟨by rw[ar,i1],λx hx=>?_⟩,?_⟩
   .rcases aC.1 hx with rfl|hx
    .omega
    .exact i2 x hx
   .have e:aq v 1=[v]:=by simp[aq];omega
    rw[e]at g2;exact be.2 ⟨m,g2,i3⟩
  .rintro ⟨⟨h1,h2⟩,h3⟩
   cases l with
   |nil=>simp at h1
   |cons v r =>
    have hv:=h2 v (.head _);obtain⟨m,g1,g2⟩:=be (X:=[v]) (Y:=r) |>.1 h3;have e:aq v 1=[v]:=by simp[aq];omega
    rw[<-e]at g1;have hr:=(Od (k:=k) (df g2).1).2 ⟨⟨by simpa using h1,λy hy=>h2 y (.tail _ hy)⟩,g2⟩;exact⟨v,m,(cK (s:=1) o_).2 ⟨o_,g1⟩,by rw[hr];rfl⟩
def amt {g:G_}:∀{k w:Nat},bin (KG g k w)
 |0,_=>by simp[KG,bin]
 |k+1,w=>by
  intro x hx;rw[KG]at hx;rcases bF.1 hx with h|h
  .revert h
   split<;>exact λh=>Ri x h
  .exact amt x h
def X6 {b:C_}{a r n:Nat}{j:aO}(hr:r<=11):py b (a:Int) r=.ok j n↔j.may r∧At b a n (kb j):=by
 unfold py kb;constructor
 .intro h;obtain⟨o,n1,h1,h⟩:=aJ.1 h;obtain⟨q,n2,h2,h⟩:=aJ.1 h;obtain⟨s,n3,h3,h⟩:=aJ.1 h;have k1:=(cK (s:=1) o_).1 h1;have k2:=(cK (s:=2) o_).1 h2;have k3:=(cK (s:=1) o_).1 h3;by_cases hq:q=2
  .rw[ac hq]at h;obtain⟨m,n4,h4,h⟩:=aJ.1 h;obtain⟨l,n5,h5,h⟩:=aJ.1 h;obtain⟨⟨ho,hm⟩,e1,e2⟩:=Tp.1 h;have k4:=(cK (s:=4) o_).1 h4;have k5:=(Od (df k4.2).2.1).1 h5;subst e1 e2 ho;refine⟨hm,be.2 ⟨n1,k1.2,be.2 ⟨n2,k2.2,be.2 ⟨n3,k3.2,?_⟩⟩⟩⟩;simp only[hq,bn,au];refine be.2 ⟨n4,k4.2,?_⟩;rw[axB l (by have:=alv k5.1.2;rwa [k5.1.1]at this)];exact k5.2
  .rw[aa hq]at h;obtain⟨m,n4,h4,h⟩:=aJ.1 h;obtain⟨p,n5,h5,h⟩:=aJ.1 h;obtain⟨⟨⟨ho,hp⟩,hm⟩,e1,e2⟩:=Tp.1 h;have k4:=(cK (s:=6) o_).1 h4;have k5:=(cK (s:=1) o_).1 h5;subst e1 e2 ho hp;refine⟨hm,be.2 ⟨n1,k1.2,be.2 ⟨n2,k2.2,be.2 ⟨n3,k3.2,?_⟩⟩⟩⟩;simp only[aa hq,au];exact be.2 ⟨n4,k4.2,k5.2⟩
 .rintro ⟨hm,h0⟩
  obtain⟨n1,k1,h1⟩:=be.1 h0;obtain⟨n2,k2,h2⟩:=be.1 h1;obtain⟨n3,k3,h3⟩:=be.1 h2;clear h0 h1 h2;have g11:=gQ hr hm;have hmx:=je g11;obtain⟨s,sh,m,g⟩:=j;have hs:s<=3:=hm.1;have hsh:sh<=1:=hm.2.1;simp only at hmx h3 k2 k3;obtain⟨M,rfl⟩:=az hmx.1;refine aJ.2 ⟨0,n1,(cK (s:=1) o_).2 ⟨o_,k1⟩,aJ.2 ⟨s,n2,(cK (s:=2) o_).2 ⟨o_,k2⟩,aJ.2 ⟨sh,n3,(cK (s:=1) o_).2 ⟨o_,k3⟩,?_⟩⟩⟩;have hmb:(M:Int)<=qO r (decide (s=2)):=hm.2.2.2.1;have hgr:aO.grouped _:=hm.2.2.2.2;unfold aO.grouped at hgr;simp only[au]at h3 hgr;by_cases hq:s=2
  .subst hq;have m4:M<2 ^ 4:=by
    have:=(NF (r,true) (iu o_)).2;simp only[decide_true]at hmb this;omega
   rw[ac rfl]at h3 hgr⊢;obtain⟨n4,k4,h4⟩:=be.1 h3;have hg:=aws g (alu (λx hx=>(hgr.1 x hx).1) hgr.2.1 o_);exact aJ.2 ⟨M,n4,(cK (s:=4) o_).2 ⟨m4,k4⟩,aJ.2 ⟨KG g 7 0,n,(Od (df k4).2.1).2 ⟨⟨ab0,amt⟩,h4⟩,Tp.2 ⟨⟨rfl,by rw[hg];exact hm⟩,by rw[hg],rfl⟩⟩⟩
  .have m6:=IS (r:=r) (s:=decide (s=2)) o_;rw[aa hq]at h3 hgr⊢;obtain⟨n4,k4,h4⟩:=be.1 h3
   cases hgr
   exact aJ.2 ⟨M,n4,(cK (s:=6) o_).2 ⟨o_,k4⟩,aJ.2 ⟨0,n,(cK (s:=1) o_).2 ⟨o_,h4⟩,Tp.2 ⟨⟨⟨rfl,rfl⟩,hm⟩,rfl,rfl⟩⟩⟩
def al4 {aU:Nat}(hm:1<=aU):∀{f g n:Nat},n<=f->n<=g->eu aU f n=eu aU g n
 |0,0,n,_,_=>rfl
 |0,g+1,n,h,_=>by
  have:n=0:=o_;subst this;rw[eu,eu,aa o_]
 |f+1,0,n,_,h=>by
  have:n=0:=o_;subst this;rw[eu,eu,aa o_]
 |f+1,g+1,n,h1,h2=>by
  rw[eu,eu];by_cases h:aU<=n
  .rw[ac h,ac h,al4 hm (f:=f) (g:=g) (n:=n-aU) o_ o_]
  .rw[aa h,aa h]
def avb {aU d:Nat}(hm:1<=aU)(h:aU<=d):eu aU d d=aU::eu aU (d-aU) (d-aU):=by
 obtain⟨e,rfl⟩:∃e,d=e+1:=⟨d-1,o_⟩
 rw[eu,ac h,al4 hm (f:=e) (g:=e+1-aU) o_ o_]
def ava {aU d:Nat}(h:d<aU):eu aU d d=[d]:=by
 cases d with
 |zero=>rfl
 |succ e=>rw[eu,aa o_]
def TQ {b:C_}{sz aU left:Nat}(hs:1<=sz∧sz<=5)(hm:aU=2 ^ sz-1):∀{f a acc n m:Nat},left<acc+f->
  (yF b sz aU left f a acc=.ok n m↔(acc<=n∧n<=left)∧At b a m ((eu aU (n-acc) (n-acc)).flatMap λx=>aq x sz))
 |0,a,acc,n,m,hf=>by
  rw[yF];exact⟨λh=>absurd h s_,λh=>by omega⟩
 |f+1,a,acc,n,m,hf=>by
  have h2:2 ^ 1<=2 ^ sz:=aw o_ hs.1;rw[yF,aJ];constructor
  .rintro ⟨x,m1,h1,h⟩
   obtain⟨g1,g2⟩:=(cK o_).1 h1;by_cases hl:left<acc+x
   .rw[ac hl]at h;exact absurd h (by simp)
   rw[aa hl]at h;by_cases hx:x=aU
   .rw[ac hx,TQ hs hm o_]at h;obtain⟨h3,h4⟩:=h;refine⟨o_,?_⟩;rw[avb o_ o_,aE,be];refine⟨m1,by rw[<-hx];exact g2,?_⟩;rw[show n-acc-aU=n-(acc+x) by omega];exact h4
   .rw[aa hx]at h;injection h with e1 e2
    subst e1 e2;refine⟨o_,?_⟩;rw[show acc+x-acc=x by omega,ava o_];simpa using g2
  .rintro ⟨h1,h⟩
   by_cases hd:aU<=n-acc
   .rw[avb o_ hd,aE,be]at h;obtain⟨m1,k1,k2⟩:=h;refine⟨aU,m1,(cK o_).2 ⟨o_,k1⟩,?_⟩;rw[aa o_,ac rfl,TQ hs hm o_];refine⟨o_,?_⟩;rw[show n-(acc+aU)=n-acc-aU by omega];exact k2
   .rw[ava o_]at h;simp only[aE,ge,bh]at h;refine⟨n-acc,m,(cK o_).2 ⟨o_,h⟩,?_⟩;rw[aa o_,aa o_,show acc+(n-acc)=n by omega]
def amp {b:C_}{sz left a m:Nat}{s:aW}(hs:1<=sz∧sz<=5):IH b sz left a=.ok s m↔s.right left∧At b a m (L6 sz s):=by
 rw[IH,aJ,L6];constructor
 .rintro ⟨k,m1,h1,h⟩
  obtain⟨g1,g2⟩:=(cK (s:=4) o_).1 h1;by_cases hk:k=12∨13<k
  .rw[ac hk]at h;exact absurd h (by simp)
  rw[aa hk]at h;obtain⟨n,m2,h2,h⟩:=aJ.1 h;obtain⟨g3,g4⟩:=(TQ hs rfl o_).1 h2;by_cases h0:n=0
  .rw[ac h0]at h;exact absurd h (by simp)
  rw[aa h0]at h;injection h with e1 e2
  subst e1 e2;refine⟨⟨⟨by simp only[];omega,by simp only[];omega⟩,by simp only[MF];omega⟩,be.2 ⟨m1,g2,?_⟩⟩;simpa using g4
 .rintro ⟨⟨⟨h1,h2⟩,h3,h4⟩,h⟩
  obtain⟨k,n⟩:=s;simp only at h1 h2 h3 h4 h;obtain⟨k,rfl⟩:=az h3;obtain⟨n,rfl⟩:=az (show 0<=n by omega);simp only[au]at h;obtain⟨m1,k1,k2⟩:=be.1 h;refine⟨k,m1,(cK (s:=4) o_).2 ⟨o_,k1⟩,?_⟩;rw[aa o_];refine aJ.2 ⟨n,m,(TQ hs rfl o_).2 ⟨o_,by simpa using k2⟩,?_⟩;rw[aa o_]
def Kd {b:C_}{sz:Nat}(hs:1<=sz∧sz<=5):∀{f left a m:Nat}{l:Q_},left<=f->a<=b.length->(kq b sz f left a=.ok l m↔fitsS left l∧At b a m (qb sz l))
 |0,left,a,m,l,hf,ha=>by
  have:left=0:=o_;subst this;rw[kq];constructor
  .intro h;injection h with e1 e2
   subst e1 e2;exact⟨rfl,d9.2 ⟨rfl,ha⟩⟩
  .rintro ⟨h1,h2⟩
   cases l with
   |nil=>rw[(d9.1 h2).1]
   |cons s l=>have:=h1.1.1;omega
 |f+1,left,a,m,l,hf,ha=>by
  rw[kq];by_cases h0:left=0
  .subst h0;rw[ac rfl];constructor
   .intro h;injection h with e1 e2
    subst e1 e2;exact⟨rfl,d9.2 ⟨rfl,ha⟩⟩
   .rintro ⟨h1,h2⟩
    cases l with
    |nil=>rw[(d9.1 h2).1]
    |cons s l=>have:=h1.1.1;omega
  .rw[aa h0,aJ];constructor
   .rintro ⟨s,m1,h1,h⟩
    obtain⟨g1,g2⟩:=(amp hs).1 h1;obtain⟨l2,m2,h2,h⟩:=aJ.1 h;injection h with e1 e2;subst e1 e2;have hr:=g1.1;obtain⟨g3,g4⟩:=(Kd hs o_ (df g2).2.1).1 h2;refine⟨⟨g1,?_⟩,be.2 ⟨m1,g2,g4⟩⟩
    rwa [show((left-s.len.toNat:Nat):Int)=left-s.len by omega]at g3
   .rintro ⟨h1,h2⟩
    cases l with
    |nil=>exact absurd h1 (by show ¬((left:Int)=0);omega)
    |cons s l =>
     obtain⟨k1,k2⟩:=h1;obtain⟨m1,j1,j2⟩:=be.1 (show At b a m (L6 sz s++qb sz l) from h2);have hr:=k1.1;refine⟨s,m1,(amp hs).2 ⟨k1,j1⟩,aJ.2 ⟨l,m,(Kd hs o_ (df j1).2.1).2 ⟨?_,j2⟩,rfl⟩⟩
     rwa [show((left-s.len.toNat:Nat):Int)=left-s.len by omega]
def Wu {b:C_}{sz aU:Nat}(hs:1<=sz∧sz<=5):∀{k a m:Nat}{g:H_},a<=b.length->(ud b sz aU k a=.ok g m↔(g.length=k∧∀l∈g,fitsS aU l)∧At b a m (g.flatMap (qb sz)))
 |0,a,m,g,ha=>by
  rw[ud];constructor
  .intro h;injection h with e1 e2
   subst e1 e2;exact⟨⟨rfl,s_⟩,d9.2 ⟨rfl,ha⟩⟩
  .rintro ⟨⟨h1,_⟩,h2⟩
   have:=ay h1;subst this;rw[(d9.1 h2).1]
 |k+1,a,m,g,ha=>by
  rw[ud,aJ];constructor
  .rintro ⟨l,m1,h1,h⟩
   obtain⟨g1,g2⟩:=(Kd hs (ak _) ha).1 h1;obtain⟨r,m2,h2,h⟩:=aJ.1 h;injection h with e1 e2;subst e1 e2;obtain⟨⟨g3,g4⟩,g5⟩:=(Wu hs (df g2).2.1).1 h2;refine⟨⟨by rw[ar,g3],λq hq=>?_⟩,be.2 ⟨m1,g2,g5⟩⟩;rcases aC.1 hq with rfl|hq
   .exact g1
   .exact g4 q hq
  .rintro ⟨⟨h1,h2⟩,h3⟩
   cases g with
   |nil=>simp at h1
   |cons l r =>
    obtain⟨m1,j1,j2⟩:=be.1 (show At b a m (qb sz l++r.flatMap (qb sz)) from h3);exact⟨l,m1,(Kd hs (ak _) ha).2 ⟨h2 l (.head _),j1⟩,aJ.2 ⟨r,m,(Wu hs (df j1).2.1).2 ⟨⟨by simpa using h1,λq hq=>h2 q (.tail _ hq)⟩,j2⟩,rfl⟩⟩
def aob {b:C_}{i:aO}{a m:Nat}{g:H_}(hm:i.may 11)(ha:a<=b.length):xz b i (a:Int)=.ok g m↔jH i g∧At b a m (TW i g):=by
 have hmx:=je hm;obtain⟨M,hM⟩:=az hmx.1;have hs:1<=i.fsz∧i.fsz<=5:=by unfold aO.fsz;split<;>omega
 rw[xz,ac o_,au,Wu hs ha,po hmx.1];exact Iff.rfl
def Yk:∀id∈ids,(cw id).length=bm id∧(List.range (bm id)).all (λe=>Nat.beq (nth (cw id) (nth (dF id) e)) e && Nat.beq (nth (dF id) (nth (cw id) e)) e)=true:=e_
def adQ {id e:Nat}(h:ju id)(he:e<bm id):nth (cw id) (nth (dF id) e)=e∧nth (dF id) (nth (cw id) e)=e:=by
 have h1:=bJ.1 (Yk id (fR h)).2 e (dU.2 he);rw[af,aB,aB]at h1;exact h1
abbrev pJ:=@Nat.add_mul_mod_self_right
abbrev vp:=@Nat.div_add_mod
def KX {b:C_}:∀{f m a k n:Nat},mf b f m (a:Int)=.ok k n↔(m<=k∧k<m+f)∧At b a n (List.replicate (k-m) 0++[1])
 |0,m,a,k,n=>by
  rw[mf];exact⟨λh=>absurd h s_,λh=>by omega⟩
 |f+1,m,a,k,n=>by
  rw[mf,aJ];constructor
  .rintro ⟨v,m1,h1,h⟩
   obtain⟨g1,g2⟩:=(cK (s:=1) o_).1 h1;have e:aq v 1=[v]:=by simp[aq];omega
   rw[e]at g2;by_cases hv:v=1
   .rw[ac hv]at h;injection h with e1 e2
    subst e1 e2 hv;exact⟨o_,by simpa using g2⟩
   .have:v=0:=o_;subst this;rw[aa hv,KX]at h;obtain⟨h2,h3⟩:=h;refine⟨o_,?_⟩;rw[show k-m=(k-(m+1))+1 by omega,cJ,aR];exact be (X:=[0]) |>.2 ⟨m1,g2,h3⟩
  .rintro ⟨h1,h⟩
   by_cases hk:k=m
   .subst hk;rw[t9]at h;refine⟨1,n,(cK (s:=1) o_).2 ⟨o_,?_⟩,by rw[ac rfl]⟩;simpa [aq] using h
   .rw[show k-m=(k-(m+1))+1 by omega,cJ,aR]at h;obtain⟨m1,k1,k2⟩:=be (X:=[0]) |>.1 h;refine⟨0,m1,(cK (s:=1) o_).2 ⟨o_,by simpa [aq] using k1⟩,?_⟩;rw[aa o_,KX];exact⟨o_,k2⟩
def adn {r:C_}:∀{k:Nat},val (List.replicate k 0++r) 0=val r 0
 |0=>rfl
 |k+1=>by rw[cJ,aR,val];exact adn
def adG {k hi:Nat}(h:hi<2 ^ k):aq (2 ^ k+hi) (2*k+1)=List.replicate k 0++[1]++aq hi k:=by
 have hb:bin (List.replicate k 0++(1::aq hi k)):=by
  intro x hx;rcases bF.1 hx with h|h
  .have:=ej h;omega
  .rcases aC.1 h with h|h
   .omega
   .exact Ri x h
 have h1:=acq (n:=0) hb;rw[adn,val,ace,ft h,al,bU,ar,dI]at h1;rw[ax,cm,<-h1]
 congr 1
 all_goals omega
def amn {n k:Nat}(h1:2 ^ k<=n)(h2:n<2 ^ (k+1)):cQ n=k+1:=by
 have hp:=bV k;have a:=H0 (n:=n);have b:=uW (n:=n) o_;rcases Nat.lt_trichotomy (cQ n) (k+1) with h|h|h
 .have:=aw (n:=2) o_ (show cQ n<=k by omega);omega
 .exact h
 .have:=aw (n:=2) o_ (show k+1<=cQ n-1 by omega);omega
def EI {id:Nat}(hid:ju id){b:C_}{a e n:Nat}:zC id b (a:Int)=.ok e n↔e<bm id∧At b a n (ko id e):=by
 obtain⟨r1,r2,r3⟩:=Ol id (fR hid);have hl:=(Yk id (fR hid)).1;have hm:bm id<=300:=by have:=lK id (fR hid);omega
 have hP:1<=2 ^ bM id:=bV _;rw[zC,aJ];unfold ko;constructor
 .rintro ⟨k,n1,h1,h⟩
  obtain⟨⟨_,k9⟩,g1⟩:=KX.1 h1;obtain⟨hi,n2,h2,h⟩:=aJ.1 h;obtain⟨g2,g3⟩:=(cK o_).1 h2;obtain⟨lo,n3,h3,h⟩:=aJ.1 h;obtain⟨g4,g5⟩:=(cK o_).1 h3;by_cases hx:(cw id).length<=(2 ^ k+hi-1)*2 ^ bM id+lo
  .rw[ac hx]at h;exact absurd h (by simp)
  rw[aa hx]at h;injection h with e1 e2
  subst e1 e2;have hk:=bV k;have he:=adQ hid (e:=(2 ^ k+hi-1)*2 ^ bM id+lo) o_;have hlt:nth (cw id) ((2 ^ k+hi-1)*2 ^ bM id+lo)<bm id:=(Kl (by have:=hid.2;omega)).2.2.2 _ (jM o_);refine⟨hlt,?_⟩;rw[he.2];have d1:((2 ^ k+hi-1)*2 ^ bM id+lo) / 2 ^ bM id=2 ^ k+hi-1:=by
   rw[oc,nc _ _ hP,iD g4,bC]
  have d2:((2 ^ k+hi-1)*2 ^ bM id+lo) % 2 ^ bM id=lo:=by
   rw[oc,pJ,ft g4]
  rw[d1,d2,show 2 ^ k+hi-1+1=2 ^ k+hi by omega,amn (k:=k) o_ (by rw[db];omega),show 2*(k+1)-1=2*k+1 by omega,adG g2];exact be.2 ⟨n2,be.2 ⟨n1,g1,g3⟩,g5⟩
 .rintro ⟨he,h⟩
  have hr:=ab3 hid he;have hf:=(adQ hid he).1;generalize nth (dF id) e=r at *;have hq:1<=r / 2 ^ bM id+1:=kO _ _;have hdv:r / 2 ^ bM id<=r:=kW _ _;have hdm:=vp r (2 ^ bM id);have hmod:r % 2 ^ bM id<2 ^ bM id:=eC _ hP;generalize r / 2 ^ bM id=q at *;generalize r % 2 ^ bM id=lo at *;have l1:=H0 (n:=q+1);have l2:=uW (n:=q+1) o_;have l0:1<=cQ (q+1):=by
   rcases Nat.eq_zero_or_pos (cQ (q+1)) with h0|h0
   .rw[h0]at l1;omega
   .exact h0
  obtain⟨k,hk⟩:∃k,cQ (q+1)=k+1:=⟨cQ (q+1)-1,o_⟩
  rw[hk]at l1 l2 h;rw[dp]at l2;rw[db]at l1;have k9:k<10:=by
   rcases bH k 10 with h|h
   .exact h
   .have:=aw (n:=2) o_ h;omega
  obtain⟨hi,hhi⟩:∃hi,q+1=2 ^ k+hi:=⟨q+1-2 ^ k,o_⟩
  have hh:hi<2 ^ k:=o_;rw[show 2*(k+1)-1=2*k+1 by omega,hhi,adG hh]at h;obtain⟨n2,j1,j2⟩:=be.1 h;obtain⟨n1,j3,j4⟩:=be.1 j1;have ei:(2 ^ k+hi-1)*2 ^ bM id+lo=r:=by rw[<-hhi,dp,eK];omega
  refine⟨k,n1,KX.2 ⟨o_,by simpa using j3⟩,aJ.2 ⟨hi,n2,(cK o_).2 ⟨hh,j4⟩,aJ.2 ⟨lo,n,(cK o_).2 ⟨hmod,j2⟩,?_⟩⟩⟩;rw[ei,aa o_,hf]
def Re {low:Int}{w:Nat}{v:Int}:∀{l:G_}{n:Nat},lB low w (l++[v]) n=lB low w l n*w+(v-low).toNat
 |[],n=>rfl
 |x::r,n=>by rw[aR,lB,lB,Re]
def acV {low:Int}{w:Nat}(hw:1<=w):∀{d e:Nat},e<w ^ d->lB low w (lJ low w d e) 0=e
 |0,e,h=>by rw[Nat.pow_zero]at h;rw[lJ,lB];omega
 |d+1,e,h=>by
  rw[lJ,Re,acV hw (by rw[db]at h;exact Nat.div_lt_of_lt_mul (by rwa [eK])),show((e % w:Nat):Int)+low-low=((e % w:Nat):Int) by omega,au,eK];exact vp e w
def af1 {low:Int}{w:Nat}(hw:1<=w):∀(r:G_),(∀v∈r,low<=v∧v<low+w)->lJ low w r.reverse.length (lB low w r.reverse 0)=r.reverse
 |[],_=>rfl
 |v::r,h=>by
  have ih:=af1 hw r λx hx=>h x (.tail _ hx)
  have hv:=h v (.head _);rw[sP,al,List.length_singleton,Re,lJ];have hx:(v-low).toNat<w:=o_;rw[oc (_*w),nc _ _ hw,iD hx,bC,ih,pJ,ft hx]
  congr 2
  omega
def aqZ {low:Int}{w:Nat}(hw:1<=w){l:G_}(h:∀v∈l,low<=v∧v<low+w):lJ low w l.length (lB low w l 0)=l:=by
 have:=af1 hw l.reverse λv hv=>h v (List.mem_reverse.1 hv)
 rwa [List.reverse_reverse]at this
def sgB:G_->C_->C_
 |v::r,s::ss=>(if v=0 then [] else [s])++sgB r ss
 |_,_=>[]
def YY:G_->C_->Prop
 |v::r,s::ss=>(s<=1∧(v=0->s=0))∧YY r ss
 |[],[]=>True
 |_,_=>False
def aaC {s:Nat}(h:s<=1):aq s 1=[s]:=by simp[aq];omega
def Bi {b:C_}:∀{vs:G_}{ss:C_}{a n:Nat},a<=b.length->(km b vs a=.ok ss n↔YY vs ss∧At b a n (sgB vs ss))
 |[],ss,a,n,ha=>by
  rw[km];constructor
  .intro h;injection h with e1 e2
   subst e1 e2;exact⟨trivial,d9.2 ⟨rfl,ha⟩⟩
  .rintro ⟨h1,h2⟩
   cases ss with
   |nil=>rw[(d9.1 h2).1]
   |cons s ss=>exact absurd h1 (by simp[YY])
 |v::r,ss,a,n,ha=>by
  rw[km];by_cases hv:v=0
  .rw[ac hv,aJ];constructor
   .rintro ⟨l,m,h1,h⟩
    injection h with e1 e2
    subst e1 e2;obtain⟨g1,g2⟩:=(Bi ha).1 h1;exact⟨⟨⟨o_,λ_=>rfl⟩,g1⟩,by rw[sgB,ac hv];exact g2⟩
   .rintro ⟨h1,h2⟩
    cases ss with
    |nil=>exact absurd h1 (by simp[YY])
    |cons s ss =>
     have:=h1.1.2 hv;subst this;rw[sgB,ac hv]at h2;exact⟨ss,n,(Bi ha).2 ⟨h1.2,h2⟩,rfl⟩
  .rw[aa hv,aJ];constructor
   .rintro ⟨s,m,h1,h⟩
    obtain⟨g1,g2⟩:=(cK (s:=1) o_).1 h1;rw[aaC o_]at g2;obtain⟨l,m2,h2,h⟩:=aJ.1 h;injection h with e1 e2;subst e1 e2;obtain⟨g3,g4⟩:=(Bi (df g2).2.1).1 h2;exact⟨⟨⟨o_,λh=>absurd h hv⟩,g3⟩,by rw[sgB,aa hv];exact be.2 ⟨m,g2,g4⟩⟩
   .rintro ⟨h1,h2⟩
    cases ss with
    |nil=>exact absurd h1 (by simp[YY])
    |cons s ss =>
     rw[sgB,aa hv]at h2;obtain⟨m,k1,k2⟩:=be.1 h2;have hs:=h1.1.1;exact⟨s,m,(cK (s:=1) o_).2 ⟨o_,by rw[aaC hs];exact k1⟩,aJ.2 ⟨ss,n,(Bi (df k1).2.1).2 ⟨h1.2,k2⟩,rfl⟩⟩
def Pm {b:C_}:∀{f m a k n:Nat},xx b f m a=.ok k n↔(m<=k∧k<m+f)∧At b a n (List.replicate (k-m) 1++[0])
 |0,m,a,k,n=>by
  rw[xx];exact⟨λh=>absurd h s_,λh=>by omega⟩
 |f+1,m,a,k,n=>by
  rw[xx,aJ];constructor
  .rintro ⟨v,m1,h1,h⟩
   obtain⟨g1,g2⟩:=(cK (s:=1) o_).1 h1;rw[aaC o_]at g2;by_cases hv:v=1
   .subst hv;rw[ac rfl,Pm]at h;obtain⟨h2,h3⟩:=h;refine⟨o_,?_⟩;rw[show k-m=(k-(m+1))+1 by omega,cJ,aR];exact be (X:=[1]) |>.2 ⟨m1,g2,h3⟩
   .have:v=0:=o_;subst this;rw[aa hv]at h;injection h with e1 e2
    subst e1 e2;exact⟨o_,by simpa using g2⟩
  .rintro ⟨h1,h⟩
   by_cases hk:k=m
   .subst hk;rw[t9]at h;refine⟨0,n,(cK (s:=1) o_).2 ⟨o_,?_⟩,by rw[aa o_]⟩;simpa [aq] using h
   .rw[show k-m=(k-(m+1))+1 by omega,cJ,aR]at h;obtain⟨m1,k1,k2⟩:=be (X:=[1]) |>.1 h;refine⟨1,m1,(cK (s:=1) o_).2 ⟨o_,by simpa [aq] using k1⟩,?_⟩;rw[ac rfl,Pm];exact⟨o_,k2⟩
abbrev ate (x:Nat):C_:=List.replicate (cQ x-5) 1++(0::aq (x % 2 ^ (cQ x-1)) (cQ x-1))
def alG {b:C_}{a x n:Nat}:PH b a=.ok x n↔(16<=x∧x<=8191)∧At b a n (ate x):=by
 rw[PH,aJ];constructor
 .rintro ⟨m,n1,h1,h⟩
  obtain⟨⟨_,m9⟩,g1⟩:=Pm.1 h1;obtain⟨y,n2,h2,h⟩:=aJ.1 h;obtain⟨g2,g3⟩:=(cK o_).1 h2;injection h with e1 e2;subst e1 e2;have p1:=aw (n:=2) o_ (show 4<=m+4 by omega);have p2:=aw (n:=2) o_ (show m+4<=12 by omega);have hl:=amn (n:=2 ^ (m+4)+y) (k:=m+4) o_ (by have:2 ^ (m+4+1)=2 ^ (m+4)*2:=db _ _;omega);refine⟨o_,?_⟩;unfold ate;rw[hl,show m+4+1-5=m by omega,dp,Nat.add_mod_left,ft g2];have:List.replicate m 1++(0::aq y (m+4))=(List.replicate m 1++[0])++aq y (m+4):=s_;rw[this];exact be.2 ⟨n1,by simpa using g1,g3⟩
 .rintro ⟨⟨h1,h2⟩,h⟩
  have l1:=H0 (n:=x);have l2:=uW (n:=x) o_;have k5:5<=cQ x:=by
   rcases bH (cQ x) 5 with h|h
   .have:=aw (n:=2) o_ (show cQ x<=4 by omega);omega
   .exact h
  have k13:cQ x<=13:=by
   rcases bH 13 (cQ x) with h|h
   .have:=aw (n:=2) o_ (show 13<=cQ x-1 by omega);omega
   .exact h
  obtain⟨m,hm⟩:∃m,cQ x=m+5:=⟨cQ x-5,o_⟩
  unfold ate at h;rw[hm]at h l1 l2;rw[show m+5-1=m+4 by omega]at h l2;have l3:2 ^ (m+5)=2 ^ (m+4)*2:=db _ _;rw[dp]at h;have:List.replicate m 1++(0::aq (x % 2 ^ (m+4)) (m+4))=(List.replicate m 1++[0])++aq (x % 2 ^ (m+4)) (m+4):=s_;rw[this]at h;obtain⟨n1,j1,j2⟩:=be.1 h;have hx:x % 2 ^ (m+4)=x-2 ^ (m+4):=by rw[Nat.mod_eq_sub_mod l2,ft o_]
  refine⟨m,n1,Pm.2 ⟨o_,by simpa using j1⟩,aJ.2 ⟨x % 2 ^ (m+4),n,(cK o_).2 ⟨o_,j2⟩,?_⟩⟩;rw[hx]
  congr 1
  omega
def sgn (v:Int):Nat:=if v<0 then 1 else 0
def EA {b:C_}{id:Nat}{M:Nat}(hM:id=11->M=8191):∀{vs:G_}{ss:C_}{l:G_}{a n:Nat},a<=b.length->YY vs ss->(∀v∈vs,0<=v∧(id=11->v<=16)∧(id≠11->v<=M))->
  (ml b id vs ss a=.ok l n↔(vs=l.map (kt id)∧ss=l.map sgn∧∀v∈l,v.natAbs<=M)∧At b a n (l.flatMap (wW id)))
 |[],[],l,a,n,ha,hs,hv=>by
  have e0:ml b id [] [] a=.ok [] a:=by simp[ml]
  rw[e0];constructor
  .intro h;injection h with e1 e2
   subst e1 e2;exact⟨⟨rfl,rfl,s_⟩,d9.2 ⟨rfl,ha⟩⟩
  .rintro ⟨⟨h1,h2,_⟩,h3⟩
   cases l with
   |nil=>rw[(d9.1 h3).1]
   |cons x r=>exact absurd h1 (by simp)
 |[],s::ss,l,a,n,ha,hs,hv=>absurd hs (by simp[YY])
 |v::r,[],l,a,n,ha,hs,hv=>absurd hs (by simp[YY])
 |v::r,s::ss,l,a,n,ha,hs,hv=>by
  obtain⟨⟨s1,s2⟩,hs⟩:=hs;obtain⟨v0,v11,vM⟩:=hv v (.head _);have hv:=λx hx=>hv x (.tail _ hx)
  have sg1:∀x:Int,0<=x->(x=0->s=0)->sgn (sg s x)=s∧(sg s x).natAbs=x.toNat:=λx h0 h1=>by
   unfold sgn sg;by_cases h:s=1
   .rw[ac h,ac o_];omega
   .rw[aa h,aa o_];omega
  have sg2:∀(y:Int),s=sgn y->sg s (y.natAbs:Int)=y:=λy h=>by
   unfold sgn at h;unfold sg;by_cases h2:y<0
   .rw[ac h2]at h;rw[ac h];omega
   .rw[aa h2]at h;rw[aa o_];omega
  rw[ml];by_cases hg:id=11∧v=16
  .rw[ac hg,aJ];obtain⟨h11,hv16⟩:=hg;constructor
   .rintro ⟨x,m,h1,h⟩
    obtain⟨g1,g2⟩:=alG.1 h1;obtain⟨l2,m2,h2,h⟩:=aJ.1 h;injection h with e1 e2;subst e1 e2;obtain⟨⟨g3,g4,g5⟩,g6⟩:=(EA hM (df g2).2.1 hs hv).1 h2;obtain⟨q1,q2⟩:=sg1 x o_ o_;have q3:(sg s (x:Int)).natAbs=x:=o_;refine⟨⟨?_,?_,?_⟩,?_⟩
    .rw[ct,<-g3,kt,ac o_,hv16]
    .rw[ct,<-g4,q1]
    .intro y hy;rcases aC.1 hy with rfl|hy
     .rw[q3,hM h11];omega
     .exact g5 y hy
    .rw[aE,wW,ac o_,q3];exact be.2 ⟨m,g2,g6⟩
   .rintro ⟨⟨h1,h2,h3⟩,h4⟩
    cases l with
    |nil=>exact absurd h1 (by simp)
    |cons y l =>
     rw[ct]at h1 h2;injection h1 with h1 h1t
     injection h2 with h2 h2t
     have hy:=h3 y (.head _);rw[hM h11]at hy;have h16:16<=y.natAbs:=by
      rw[kt]at h1;by_cases h:id=11∧16<=y.natAbs
      .exact h.2
      .rw[aa h]at h1;omega
     rw[aE,wW,ac ⟨h11,h16⟩]at h4;obtain⟨m,k1,k2⟩:=be.1 h4;refine⟨y.natAbs,m,alG.2 ⟨o_,k1⟩,aJ.2 ⟨l,n,(EA hM (df k1).2.1 hs hv).2 ⟨⟨h1t,h2t,λz hz=>h3 z (.tail _ hz)⟩,k2⟩,?_⟩⟩;rw[sg2 y h2]
  .rw[aa hg,aJ];constructor
   .rintro ⟨l2,m,h1,h⟩
    injection h with e1 e2
    subst e1 e2;obtain⟨⟨g3,g4,g5⟩,g6⟩:=(EA hM ha hs hv).1 h1;obtain⟨q1,q2⟩:=sg1 v v0 s2;have hng:¬(id=11∧16<=(sg s v).natAbs):=o_;refine⟨⟨?_,?_,?_⟩,?_⟩
    .rw[ct,<-g3,kt,aa hng];congr 1;omega
    .rw[ct,<-g4,q1]
    .intro y hy;rcases aC.1 hy with rfl|hy
     .by_cases h11:id=11
      .have:=hM h11;have:=v11 h11;omega
      .have:=vM h11;omega
     .exact g5 y hy
    .rw[aE,wW,aa hng,aK];exact g6
   .rintro ⟨⟨h1,h2,h3⟩,h4⟩
    cases l with
    |nil=>exact absurd h1 (by simp)
    |cons y l =>
     rw[ct]at h1 h2;injection h1 with h1 h1t
     injection h2 with h2 h2t
     have hng:¬(id=11∧16<=y.natAbs):=λh=>by
      rw[kt,ac h]at h1;exact hg ⟨h.1,h1⟩
     rw[kt,aa hng]at h1;rw[aE,wW,aa hng,aK]at h4;refine⟨l,n,(EA hM ha hs hv).2 ⟨⟨h1t,h2t,λz hz=>h3 z (.tail _ hz)⟩,h4⟩,?_⟩;rw[h1,sg2 y h2]
def agU {id:Nat}{v:Int}:kt id v=0↔v=0:=by
 unfold kt;by_cases h:id=11∧16<=v.natAbs
 .rw[ac h];omega
 .rw[aa h];omega
def acl {id:Nat}:∀{l:G_},sgB (l.map (kt id)) (l.map sgn)=l.flatMap pV
 |[]=>rfl
 |v::r=>by
  rw[ct,ct,sgB,acl,aE]
  congr 1
  unfold pV sgn;by_cases h:v=0
  .rw[ac (agU.2 h),ac h]
  .rw[aa (λh2=>h (agU.1 h2)),aa h];split<;>rfl
def abz {id:Nat}:∀{l:G_},YY (l.map (kt id)) (l.map sgn)
 |[]=>trivial
 |v::r=>⟨⟨by unfold sgn;split<;>omega,λh=>by rw[agU]at h;subst h;rfl⟩,abz⟩
def av6:iH 11=8191:=e_
def at1 {id:Nat}(hid:1<=id∧id<=11){b:C_}{a n:Nat}{l:G_}:Fa id b (a:Int)=.ok l n↔SX id l∧At b a n (Fd id l):=by
 have hok:ju id:=⟨hid.1,o_⟩
 obtain⟨m1,m2,m3,m4⟩:=Cl id (Ul hid);obtain⟨k1,k2,k3,k4,k5,k6,k7⟩:=lK id (fR hok);have hmany:bm id=cH id ^ d8 id:=rfl;have lt:∀{vs:G_},S5 id vs->lB (dj id) (cH id) vs 0<bm id:=λ{vs} h=>by
  have:=HW (n:=0) (j:=0) h.2 s_;rw[bC,h.1,<-hmany]at this;exact this
 have back:∀{vs:G_},S5 id vs->mt id (lB (dj id) (cH id) vs 0)=vs:=λ{vs} h=>by
  have:=aqZ k3 h.2;rw[h.1]at this;exact this
 have forth:∀{e:Nat},e<bm id->lB (dj id) (cH id) (mt id e) 0=e∧∀v∈mt id e,dj id<=v∧v<dj id+cH id:=λ{e} h=>⟨acV k3 (by rwa [<-hmany]),JJ k3⟩
 rw[Fa,aJ];unfold Fd;by_cases hs:kx id=true
 .simp only[ac hs];obtain⟨q1,q2⟩:=m1 hs;constructor
  .rintro ⟨e,m,h1,h⟩
   obtain⟨g1,g2⟩:=(EI hok).1 h1;injection h with e1 e2;subst e1 e2;obtain⟨f1,f2⟩:=forth g1;refine⟨⟨by rw[Fz,m3],λv hv=>by have:=f2 v hv;omega⟩,?_⟩;rw[f1];exact g2
  .rintro ⟨h1,h2⟩
   have hi:=(NZ hid h1).1 hs;exact⟨_,n,(EI hok).2 ⟨lt hi,h2⟩,by rw[back hi]⟩
 .have hs2:kx id=false:=by simpa using hs
  simp only[aa hs];obtain⟨q1,q2,q3⟩:=m2 hs2;have h11:id=11->iH id=8191:=λh=>by rw[h];exact av6
  constructor
  .rintro ⟨e,m,h1,h⟩
   obtain⟨g1,g2⟩:=(EI hok).1 h1;obtain⟨ss,m2,h2,h⟩:=aJ.1 h;obtain⟨g3,g4⟩:=(Bi (df g2).2.1).1 h2;obtain⟨f1,f2⟩:=forth g1;have hv:∀v∈mt id e,0<=v∧(id=11->v<=16)∧(id≠11->v<=iH id):=λv hv=>by
    have:=f2 v hv;refine⟨o_,λh=>by have:=q3 h;omega,λh=>by have:=q2 h;omega⟩
   obtain⟨⟨g5,g6,g7⟩,g8⟩:=(EA h11 (df g4).2.1 g3 hv).1 h;have hl:l.length=bO id:=by
    have:=aX List.length g5;rw[Fz,gO]at this;omega
   refine⟨⟨hl,g7⟩,be.2 ⟨m,?_,be.2 ⟨m2,?_,g8⟩⟩⟩
   .rw[<-g5,f1];exact g2
   .rw[<-acl (id:=id),<-g5,<-g6];exact g4
  .rintro ⟨h1,h2⟩
   have hi:=(NZ hid h1).2 hs2;obtain⟨m,j1,j2⟩:=be.1 h2;obtain⟨p,j3,j4⟩:=be.1 j2;have hv:∀v∈l.map (kt id),0<=v∧(id=11->v<=16)∧(id≠11->v<=iH id):=λv hv=>by
    have:=hi.2 v hv;refine⟨o_,λh=>by have:=q3 h;omega,λh=>by have:=q2 h;omega⟩
   refine⟨_,m,(EI hok).2 ⟨lt hi,j1⟩,?_⟩;rw[back hi];refine aJ.2 ⟨l.map sgn,p,(Bi (df j1).2.1).2 ⟨abz,by rw[acl];exact j3⟩,?_⟩;exact(EA h11 (df j3).2.1 abz hv).2 ⟨⟨rfl,rfl,h1.2⟩,j4⟩
def awH:bm 12=121:=e_
def alN {b:C_}{a n:Nat}{d:Int}:IL b (a:Int)=.ok d n↔(-60<=d∧d<=60)∧At b a n (ko 12 (d+60).toNat):=by
 have hok:ju 12:=o_;have h12:=awH;rw[IL,aJ];constructor
 .rintro ⟨e,m,h1,h⟩
  obtain⟨g1,g2⟩:=(EI hok).1 h1;injection h with e1 e2;subst e1 e2;refine⟨o_,?_⟩;rw[show((e:Int)-60+60).toNat=e by omega];exact g2
 .rintro ⟨h1,h2⟩
  refine⟨(d+60).toNat,n,(EI hok).2 ⟨o_,h2⟩,?_⟩
  congr 1
  omega
def TJ {b:C_}{a n:Nat}{k w v:Int}(hw:w<0->k=13):kE b (a:Int) k w=.ok v n↔((0<=v∧v<=so k)∧(w<0∨(w-60<=v∧v<=w+60)))∧At b a n (if w<0 then aq v.toNat 9 else ko 12 (v-w+60).toNat):=by
 rw[kE];by_cases h0:w<0
 .have hk:=hw h0;have hm:so k=511:=ac hk;rw[ac h0,ac h0,aJ,hm];constructor
  .rintro ⟨x,m,h1,h⟩
   obtain⟨g1,g2⟩:=(cK (s:=9) o_).1 h1;injection h with e1 e2;subst e1 e2;exact⟨⟨o_,.inl h0⟩,by simpa using g2⟩
  .rintro ⟨⟨h1,_⟩,h2⟩
   exact⟨v.toNat,n,(cK (s:=9) o_).2 ⟨o_,h2⟩,by congr 1;omega⟩
 .rw[aa h0,aa h0,aJ];constructor
  .rintro ⟨d,m,h1,h⟩
   obtain⟨g1,g2⟩:=alN.1 h1;by_cases hx:w+d<0∨so k<w+d
   .rw[ac hx]at h;exact absurd h (by simp)
   rw[aa hx]at h;injection h with e1 e2
   subst e1 e2;refine⟨⟨o_,.inr o_⟩,?_⟩;rw[show w+d-w+60=d+60 by omega];exact g2
  .rintro ⟨⟨h1,h2⟩,h3⟩
   refine⟨v-w,n,alN.2 ⟨o_,h3⟩,?_⟩;rw[aa o_]
   congr 1
   omega
def s13 {v w z:Int}:qS 13 v w z=if z<0 then aq v.toNat 9 else ko 12 (v-z+60).toNat:=by rw[qS,aa k_,ac rfl]
def t13 {v w z:Int}:jZ 13 v w z=(w,v):=by rw[jZ,aa k_,ac rfl]
def Bc {b:C_}:∀{r:G_}{t:G_}{a n:Nat}{w z w2 z2:Int},a<=b.length->(∀k∈r,0<=k)->0<=w->
  (nY b r (a:Int) w z=.ok (t,w2,z2) n↔dP r t w z=some (w2,z2)∧At b a n (qo r t w z))
 |[],t,a,n,w,z,w2,z2,ha,hr,hw=>by
  rw[nY,au];constructor
  .intro h;injection h with e1 e2
   injection e1 with e1 e3
   injection e3 with e3 e4
   subst e1 e2 e3 e4;exact⟨rfl,d9.2 ⟨rfl,ha⟩⟩
  .rintro ⟨h1,h2⟩
   cases t with
   |nil =>
    injection h1 with h1
    injection h1 with e1 e2
    subst e1 e2;rw[(d9.1 h2).1]
   |cons x t=>exact absurd h1 (by simp[dP])
 |k::r,t,a,n,w,z,w2,z2,ha,hr,hw=>by
  have hk:=hr k (.head _);have hr2:∀k∈r,0<=k:=λx hx=>hr x (.tail _ hx)
  rw[nY];by_cases h13:k=13
  .subst h13;rw[ac rfl,aJ];have hm:so 13=511:=rfl;constructor
   .rintro ⟨v,m,h1,h⟩
    obtain⟨g1,g2⟩:=(TJ (λ_=>rfl)).1 h1;obtain⟨⟨t2,u2,y2⟩,m2,h2,h⟩:=aJ.1 h;injection h with e1 e2;injection e1 with e1 e3
    injection e3 with e3 e4
    simp only at e1 e3 e4;subst e1 e2 e3 e4;obtain⟨g3,g4⟩:=(Bc (df g2).2.1 hr2 hw).1 h2;refine⟨?_,?_⟩
    .rw[dP,aa k_,ac (by unfold lI;rw[ac rfl];omega),ac rfl];exact g3
    .rw[qo,s13,t13];exact be.2 ⟨m,g2,g4⟩
   .rintro ⟨h1,h2⟩
    cases t with
    |nil=>exact absurd h1 (by simp[dP])
    |cons v t =>
     obtain⟨c1,c2,c3⟩:=pU (by rw[h1];simp);have hT:=c2 k_;unfold lI at hT;rw[ac rfl]at hT;rw[c3,jZ,aa k_,ac rfl]at h1;rw[qo,s13,t13]at h2;obtain⟨m,j1,j2⟩:=be.1 h2;exact⟨v,m,(TJ (λ_=>rfl)).2 ⟨o_,j1⟩,aJ.2 ⟨(t,w2,z2),n,(Bc (df j1).2.1 hr2 hw).2 ⟨h1,j2⟩,rfl⟩⟩
  .rw[aa h13];by_cases h0:0<k
   .have hm:so k=255:=aa h13;have hk0:¬k=0:=o_;rw[ac h0,aJ];constructor
    .rintro ⟨v,m,h1,h⟩
     obtain⟨g1,g2⟩:=(TJ (λh=>by omega)).1 h1;obtain⟨⟨t2,u2,y2⟩,m2,h2,h⟩:=aJ.1 h;injection h with e1 e2;injection e1 with e1 e3
     injection e3 with e3 e4
     simp only at e1 e3 e4;subst e1 e2 e3 e4;rw[aa o_]at g2;obtain⟨g3,g4⟩:=(Bc (df g2).2.1 hr2 g1.1.1).1 h2;refine⟨?_,?_⟩
     .rw[dP,aa hk0,ac (by unfold lI;rw[aa h13];omega),aa h13];exact g3
     .rw[qo,qS,aa hk0,aa h13,jZ,aa hk0,aa h13];exact be.2 ⟨m,g2,g4⟩
    .rintro ⟨h1,h2⟩
     cases t with
     |nil=>exact absurd h1 (by simp[dP])
     |cons v t =>
      obtain⟨c1,c2,c3⟩:=pU (by rw[h1];simp);have hT:=c2 hk0;unfold lI at hT;rw[aa h13]at hT;rw[c3,jZ,aa hk0,aa h13]at h1;rw[qo,qS,aa hk0,aa h13,jZ,aa hk0,aa h13]at h2;obtain⟨m,j1,j2⟩:=be.1 h2;exact⟨v,m,(TJ (λh=>by omega)).2 ⟨o_,by rw[aa o_];exact j1⟩,aJ.2 ⟨(t,w2,z2),n,(Bc (df j1).2.1 hr2 hT.1.1).2 ⟨h1,j2⟩,rfl⟩⟩
   .have hk0:k=0:=o_;subst hk0;rw[aa h0,aJ];constructor
    .rintro ⟨⟨t2,u2,y2⟩,m2,h2,h⟩
     injection h with e1 e2
     injection e1 with e1 e3
     injection e3 with e3 e4
     simp only at e1 e3 e4;subst e1 e2 e3 e4;obtain⟨g3,g4⟩:=(Bc ha hr2 hw).1 h2;refine⟨?_,?_⟩
     .rw[dP,ac rfl,ac rfl];exact g3
     .rw[qo,qS,ac rfl,jZ,ac rfl,aK];exact g4
    .rintro ⟨h1,h2⟩
     cases t with
     |nil=>exact absurd h1 (by simp[dP])
     |cons v t =>
      obtain⟨c1,c2,c3⟩:=pU (by rw[h1];simp);have:=c1 rfl;subst this;rw[c3,jZ,ac rfl]at h1;rw[qo,qS,ac rfl,jZ,ac rfl,aK]at h2;exact⟨(t,w2,z2),n,(Bc ha hr2 hw).2 ⟨h1,h2⟩,rfl⟩
def ag7:∀{r t:G_}{w z w2 z2:Int},0<=w->dP r t w z=some (w2,z2)->0<=w2
 |[],[],w,z,w2,z2,hw,h=>by
  injection h with h
  injection h with e1 e2
  omega
 |[],_::_,w,z,w2,z2,hw,h=>absurd h (by simp[dP])
 |_::_,[],w,z,w2,z2,hw,h=>absurd h (by simp[dP])
 |k::r,v::t,w,z,w2,z2,hw,h=>by
  obtain⟨c1,c2,c3⟩:=pU (by rw[h];simp);rw[c3]at h;refine ag7 ?_ h;unfold jZ;by_cases h0:k=0
  .rw[ac h0];exact hw
  .rw[aa h0];have:=c2 h0;unfold lI at this;split
   .exact hw
   .rename_i h13;rw[aa h13]at this;exact this.1.1
def Q5 {b:C_}:∀{g:H_}{t:K_}{a n:Nat}{w z:Int},a<=b.length->(∀l∈g,∀k∈aP l,0<=k)->0<=w->
  (mV b g (a:Int) w z=.ok t n↔mq g t w z≠none∧At b a n (pT g t w z))
 |[],t,a,n,w,z,ha,hr,hw=>by
  rw[mV,au];constructor
  .intro h;injection h with e1 e2
   subst e1 e2;exact⟨by simp[mq],d9.2 ⟨rfl,ha⟩⟩
  .rintro ⟨h1,h2⟩
   cases t with
   |nil=>rw[(d9.1 h2).1]
   |cons x t=>exact absurd rfl h1
 |l::r,t,a,n,w,z,ha,hr,hw=>by
  have hl:=hr l (.head _);have hr2:∀q∈r,∀k∈aP q,0<=k:=λq hq=>hr q (.tail _ hq)
  rw[mV,aJ];constructor
  .rintro ⟨⟨t1,w1,z1⟩,m,h1,h⟩
   obtain⟨g1,g2⟩:=(Bc ha hl hw).1 h1;obtain⟨t2,m2,h2,h⟩:=aJ.1 h;injection h with e1 e2;subst e1 e2;obtain⟨g3,g4⟩:=(Q5 (df g2).2.1 hr2 (ag7 hw g1)).1 h2;refine⟨?_,?_⟩
   .rw[mq,g1];exact g3
   .rw[pT,g1];exact be.2 ⟨m,g2,g4⟩
  .rintro ⟨h1,h2⟩
   cases t with
   |nil=>exact absurd rfl h1
   |cons t1 t =>
    rw[mq]at h1;rw[pT]at h2
    cases e:dP (aP l) t1 w z with
    |none=>rw[e]at h1;exact absurd rfl h1
    |some p =>
     obtain⟨w1,z1⟩:=p;rw[e]at h1 h2;obtain⟨m,j1,j2⟩:=be.1 h2;exact⟨(t1,w1,z1),m,(Bc ha hl hw).2 ⟨e,j1⟩,aJ.2 ⟨t,n,(Q5 (df j1).2.1 hr2 (ag7 hw e)).2 ⟨h1,j2⟩,rfl⟩⟩
def arg {b:C_}{g:H_}{t:K_}{a n:Nat}{w:Int}(ha:a<=b.length)(hr:∀l∈g,∀k∈aP l,0<=k)(hw:0<=w):BH b g (a:Int) w=.ok t n↔AP w g t∧At b a n (pT g t w (-1)):=by
 rw[BH,ac o_,Q5 ha hr hw]
def amq {Z l:G_}{a i:Nat}(h:a+l.length<=Z.length):(aG Z a l)[i]?=if a<=i∧i<a+l.length then l[i-a]? else Z[i]?:=by
 have h1:(Z.take a).length=a:=by rw[bI];omega
 unfold aG;by_cases h2:i<a
 .rw[aa o_,ax,co o_,jh,ac h2]
 .by_cases h3:i<a+l.length
  .rw[ac o_,ax,ca o_,h1,co o_]
  .rw[aa o_,ca (by rw[al];omega),al,h1,b6]
   congr 1
   omega
abbrev cut (Z:G_)(p:Nat×Nat):G_:=(Z.drop p.2).take (bO p.1)
def alP {Z:G_}{p:Nat×Nat}{i:Nat}(h:i<bO p.1):(cut Z p)[i]?=Z[p.2+i]?:=by
 rw[cut,jh,ac h,b6]
def avZ {Z:G_}{p:Nat×Nat}(h:p.2+bO p.1<=Z.length):(cut Z p).length=bO p.1:=by
 rw[cut,bI,cu];omega
def ao2 {os:C_}{d b x:Nat}:∀{k w0 w:Nat},w0<=w->w<w0+k->x∈vJ d (nth os (b+1)) 300 (nth os b)->w*32+x∈sR os d b k w0
 |0,w0,w,h1,h2,_=>by omega
 |k+1,w0,w,h1,h2,h=>by
  rw[sR,bF];rcases bH w0 w with h3|h3
  .exact .inr (ao2 h3 o_ h)
  .have:w=w0:=o_;subst this;exact .inl (dz.2 ⟨x,h,rfl⟩)
def XM (i:aO):(cond i.short 32 256:Nat)=i.wide∧((i.wide=32∧i.many=8)∨(i.wide=256∧i.many=1)):=by
 unfold aO.short aO.wide aO.many;by_cases h:i.seq=2
 .rw[decide_eq_true h,ac h,ac h];exact⟨rfl,.inl ⟨rfl,rfl⟩⟩
 .rw[decide_eq_false h,aa h,aa h];exact⟨rfl,.inr ⟨rfl,rfl⟩⟩
def AU (b:C_)(st s2:RS)(X:C_):Prop:=∃a n:Nat,st=⟨a,0⟩∧s2=⟨n,0⟩∧At b a n X
def aoP (b:C_)(st:RS):Prop:=∃a:Nat,st=⟨a,0⟩∧a<=b.length
def iN {b:C_}{st s2:RS}{X Y:C_}:AU b st s2 (X++Y)↔∃m,AU b st m X∧AU b m s2 Y:=by
 constructor
 .rintro ⟨a,n,e1,e2,h⟩
  obtain⟨m,h1,h2⟩:=be.1 h;exact⟨⟨m,0⟩,⟨a,m,e1,rfl,h1⟩,⟨m,n,rfl,e2,h2⟩⟩
 .rintro ⟨m,⟨a,n,e1,e2,h⟩,⟨a2,n2,e3,e4,h2⟩⟩
  rw[e2]at e3;injection e3 with e3 _
  have:n=a2:=o_;subst this;exact⟨a,n2,e1,e4,be.2 ⟨n,h,h2⟩⟩
def AL {b:C_}{st s2:RS}:AU b st s2 []↔s2=st∧aoP b st:=by
 constructor
 .rintro ⟨a,n,e1,e2,h⟩
  obtain⟨h1,h2⟩:=d9.1 h;exact⟨by rw[e1,e2,h1],a,e1,h2⟩
 .intro hh;obtain⟨a,e,h⟩:=hh.2;exact⟨a,a,e,by rw[hh.1,e],d9.2 ⟨rfl,h⟩⟩
def Ex {b:C_}{st s2:RS}{X:C_}(h:AU b st s2 X):aoP b st∧aoP b s2∧st.e=0∧s2.e=0:=by
 obtain⟨a,n,e1,e2,h⟩:=h;have:=df h;exact⟨⟨a,e1,this.1⟩,⟨n,e2,this.2.1⟩,by rw[e1],by rw[e2]⟩
def Xj {b:C_}{st:RS}{s:Nat}(h:(sN b st s).e=0):st.e=0:=by
 unfold sN at h;by_cases h0:st.e=0
 .exact h0
 .rw[aa h0]at h;exact absurd h h0
def Ls {b:C_}{st:RS}{s:Nat}(hs:s<=31)(h:(sN b st s).e=0):sV b st s<2 ^ s∧AU b st (sN b st s) (aq (sV b st s) s):=by
 have h0:=Xj h;obtain⟨a,e⟩:=st;simp only at h0;subst h0
 cases hg:bb b a s with
 |er e=>rw[(CW hg).2]at h;exact absurd h (by simp)
 |ok v n =>
  rw[(kg hg).1,(kg hg).2];have ha:=amj hg;obtain⟨A,rfl⟩:=az ha;obtain⟨g1,g2⟩:=(cK hs).1 hg;exact⟨g1,A,n,rfl,rfl,g2⟩
def RY {b:C_}{st s2:RS}{s v:Nat}(hs:s<=31)(hv:v<2 ^ s)(h:AU b st s2 (aq v s)):sV b st s=v∧sN b st s=s2:=by
 obtain⟨a,n,rfl,rfl,h⟩:=h;exact kg ((cK hs).2 ⟨hv,h⟩)
abbrev nx (b:C_)(st:RS):Prop:=st.e=0->aoP b st
def aEE {v sz:Nat}(hz:1<=sz)(hv:v<2 ^ sz):(-((2 ^ (sz-1):Nat):Int)<=Ra v sz∧Ra v sz<((2 ^ (sz-1):Nat):Int))∧(Ra v sz % ((2 ^ sz:Nat):Int)).toNat=v:=by
 obtain⟨k,rfl⟩:∃k,sz=k+1:=⟨sz-1,o_⟩
 have e:2 ^ (k+1)=2*2 ^ k:=by rw[db,eK]
 have hp:=bV k;unfold Ra;rw[dp];rw[e]at hv⊢;rcases bH v (2 ^ k) with h|h
 .rw[iD h,Nat.zero_mul];refine⟨o_,?_⟩;rw[jI o_ o_];omega
 .have:v / 2 ^ k=1:=pi o_ o_;rw[this,Nat.one_mul];refine⟨o_,?_⟩;have e3:((v:Int)-((2*2 ^ k:Nat):Int)) % ((2*2 ^ k:Nat):Int)=v:=by
   rw[Int.sub_emod_right,jI o_ o_]
  rw[e3];omega
def aFt {c:Int}{sz:Nat}(hz:1<=sz)(h:-((2 ^ (sz-1):Nat):Int)<=c∧c<((2 ^ (sz-1):Nat):Int)):(c % ((2 ^ sz:Nat):Int)).toNat<2 ^ sz∧Ra (c % ((2 ^ sz:Nat):Int)).toNat sz=c:=by
 obtain⟨k,rfl⟩:∃k,sz=k+1:=⟨sz-1,o_⟩
 have e:2 ^ (k+1)=2*2 ^ k:=by rw[db,eK]
 have hp:=bV k;rw[dp]at h;unfold Ra;rw[dp,e];rcases Int.lt_or_le c 0 with h0|h0
 .have e3:c % ((2*2 ^ k:Nat):Int)=c+((2*2 ^ k:Nat):Int):=by
   rw[<-Int.add_emod_right,jI o_ o_]
  rw[e3];have e4:(c+((2*2 ^ k:Nat):Int)).toNat / 2 ^ k=1:=pi o_ o_;rw[e4];omega
 .rw[jI o_ o_,iD o_];omega
def azz {b:C_}{sz:Nat}(hz:1<=sz∧sz<=31):∀{k:Nat}{st:RS},nx b st->(wl b sz k st).e=0->(yu b sz k st).length=k∧(∀c∈yu b sz k st,-((2 ^ (sz-1):Nat):Int)<=c∧c<((2 ^ (sz-1):Nat):Int))∧AU b st (wl b sz k st) (qe sz (yu b sz k st))
 |0,st,hn,h=>⟨rfl,by simp[yu],AL.2 ⟨rfl,hn h⟩⟩
 |k+1,st,hn,h=>by
  rw[wl]at h;have hn2:nx b (sN b st sz):=λh1=>(Ex (Ls hz.2 h1).2).2.1
  obtain⟨i1,i2,i3⟩:=azz hz (k:=k) hn2 h;obtain⟨j1,j2⟩:=Ls hz.2 (Ex i3).2.2.1;obtain⟨v1,v2⟩:=aEE hz.1 j1;rw[yu,wl];refine⟨by rw[ar,i1],λc hc=>?_,?_⟩
  .rcases aC.1 hc with rfl|hc
   .exact v1
   .exact i2 c hc
  .rw[qe,aE,v2];exact iN.2 ⟨_,j2,i3⟩
def aya {b:C_}{sz:Nat}(hz:1<=sz∧sz<=31):∀{l:G_}{st s2:RS},(∀c∈l,-((2 ^ (sz-1):Nat):Int)<=c∧c<((2 ^ (sz-1):Nat):Int))->AU b st s2 (qe sz l)->yu b sz l.length st=l∧wl b sz l.length st=s2
 |[],st,s2,hl,h=>⟨rfl,(AL.1 h).1.symm⟩
 |c::r,st,s2,hl,h=>by
  rw[qe,aE]at h;obtain⟨m,h1,h2⟩:=iN.1 h;obtain⟨v1,v2⟩:=aFt hz.1 (hl c (.head _));obtain⟨w1,w2⟩:=RY hz.2 v1 h1;obtain⟨i1,i2⟩:=aya hz (l:=r) (λx hx=>hl x (.tail _ hx)) h2;rw[ar,yu,wl,w1,w2,v2,i1,i2];exact⟨rfl,rfl⟩
def ast {b:C_}{sz:Nat}:∀{k:Nat}{st:RS},(wl b sz k st).e=0->st.e=0
 |0,_,h=>h
 |k+1,st,h=>by rw[wl]at h;exact Xj (ast h)
def Tm {b:C_}{st:RS}{s:Nat}(hs:s<=31):nx b (sN b st s):=λh=>(Ex (Ls hs h).2).2.1
def az3 {b:C_}{sz:Nat}(hz:sz<=31):∀{k:Nat}{st:RS},nx b st->nx b (wl b sz k st)
 |0,_,h=>h
 |k+1,st,h=>by rw[wl];exact az3 hz (Tm hz)
def aqa {fine:Bool}{w:Nat}(hw:w<=1):1<=fF fine-w∧fF fine-w<=31:=by unfold fF;split<;>omega
def auM (fine:Bool)(l:G_)(s:Nat)(hs:s=fF fine-1):Ko l s=decide (∀c∈l,-(dD fine / 2)<=c∧c<dD fine / 2):=by
 subst hs
 cases fine<;>rfl
def Su (sh:Bool):Ah sh=((2 ^ bS sh:Nat):Int)-1∧bS sh<=31∧bQ sh<=31∧eD sh<=31:=by cases sh<;>decide
def aq9 {d:Nat}(h:d<2 ^ 1):dT (decide (d=1))=d:=by
 unfold dT;by_cases h1:d=1
 .rw[h1];rfl
 .rw[decide_eq_false h1];simp;omega
def aFs {b:C_}{sh fine:Bool}{st:RS}(hO:¬(12<rQ b (bS sh) (bQ sh) st∧(yY b (bS sh) (bQ sh) st).e=0))(hX:Kk b (bS sh) (bQ sh) fine st=false)(he:(yw b (bS sh) (bQ sh) fine st).e=0) :
  (Cg sh (Ns b (bS sh) (bQ sh) fine st)∧(Ns b (bS sh) (bQ sh) fine st).fine=fine)∧AU b st (yw b (bS sh) (bQ sh) fine st) (sJ sh (Ns b (bS sh) (bQ sh) fine st)):=by
 obtain⟨l1,l2,l3,_⟩:=Su sh;have hS:(yY b (bS sh) (bQ sh) st).e=0:=by
  unfold yw at he;by_cases h0:rQ b (bS sh) (bQ sh) st=0
  .rw[ac h0]at he;exact he
  .rw[aa h0]at he;have:=ast he;exact Xj (s:=1) (Xj (s:=1) this)
 have r2:=Ls (st:=sN b st (bS sh)) (s:=bQ sh) l3 hS;have r1:=Ls (st:=st) (s:=bS sh) l2 (Xj (s:=bQ sh) hS);have hO2:((rQ b (bS sh) (bQ sh) st:Nat):Int)<=wp sh:=by
  have h1:rQ b (bS sh) (bQ sh) st<2 ^ bQ sh:=r2.1;have h2:rQ b (bS sh) (bQ sh) st<=12:=by
   rcases bH 12 (rQ b (bS sh) (bQ sh) st) with h|h
   .exact absurd ⟨h,hS⟩ hO
   .exact h
  cases sh
  .show _<=(12:Int);omega
  .have:2 ^ bQ true=8:=rfl;show _<=(7:Int);omega
 have hr1:=r1.1;have q2:AU b (sN b st (bS sh)) (yY b (bS sh) (bQ sh) st) (aq (rQ b (bS sh) (bQ sh) st) (bQ sh)):=r2.2;unfold yw at he⊢;unfold Ns;by_cases h0:rQ b (bS sh) (bQ sh) st=0
 .rw[ac h0]at he⊢;rw[ac h0];rw[h0]at q2;refine⟨⟨⟨⟨by simp only[];omega,by simp only[];omega⟩,⟨s_,by simp only[];cases sh<;>decide⟩,rfl,λ_=>rfl,s_⟩,rfl⟩,?_⟩;unfold sJ;simp only[bn,bh];exact iN.2 ⟨_,by simpa using r1.2,by simpa using q2⟩
 .rw[aa h0]at he⊢;rw[aa h0];have hT:=ast he;have r4:=Ls (st:=sN b (yY b (bS sh) (bQ sh) st) (1:Nat)) (s:=1) o_ hT;have r3:=Ls (st:=yY b (bS sh) (bQ sh) st) (s:=1) o_ (Xj (s:=1) hT);have hd:flD b (bS sh) (bQ sh) st<2 ^ 1:=r3.1;have hw:Hu b (bS sh) (bQ sh) st<2 ^ 1:=r4.1;have q3:AU b (yY b (bS sh) (bQ sh) st) (sN b (yY b (bS sh) (bQ sh) st) (1:Nat)) (aq (flD b (bS sh) (bQ sh) st) 1):=r3.2;have q4:AU b (sN b (yY b (bS sh) (bQ sh) st) (1:Nat)) (Qt b (bS sh) (bQ sh) st) (aq (Hu b (bS sh) (bQ sh) st) 1):=r4.2;have hz:=aqa (fine:=fine) (w:=Hu b (bS sh) (bQ sh) st) o_;have c:=azz (sz:=Jj b (bS sh) (bQ sh) fine st) hz (k:=rQ b (bS sh) (bQ sh) st) (Tm (st:=sN b (yY b (bS sh) (bQ sh) st) (1:Nat)) (s:=1) o_) he;unfold Kk at hX;rw[aa h0]at hX;obtain⟨c1,c2,c3⟩:=c;have c3:AU b (Qt b (bS sh) (bQ sh) st) _ _:=c3;have hZ:Jj b (bS sh) (bQ sh) fine st=fF fine-Hu b (bS sh) (bQ sh) st:=rfl;generalize hcf:yu b (Jj b (bS sh) (bQ sh) fine st) (rQ b (bS sh) (bQ sh) st) (sN b (sN b (yY b (bS sh) (bQ sh) st) (1:Nat)) (1:Nat))=cs at *;have hcf2:yu b (Jj b (bS sh) (bQ sh) fine st) (rQ b (bS sh) (bQ sh) st) (Qt b (bS sh) (bQ sh) st)=cs:=hcf;rw[hcf2]at hX⊢;have hrng:∀c∈cs,-dD fine<=c∧c<dD fine:=λc hc=>by
   have:=c2 c hc;rw[hZ]at this;have hw2:Hu b (bS sh) (bQ sh) st=0∨Hu b (bS sh) (bQ sh) st=1:=o_;rcases hw2 with e|e<;>rw[e]at this<;>cases fine<;>simp only[fF,dD]at this⊢<;>simp at this⊢<;>omega
  have hnar:dT (decide (∀c∈cs,-(dD fine / 2)<=c∧c<dD fine / 2))=Hu b (bS sh) (bQ sh) st:=by
   rw[<-auM fine cs _ rfl];have hw2:Hu b (bS sh) (bQ sh) st=0∨Hu b (bS sh) (bQ sh) st=1:=o_;rcases hw2 with e|e
   .rw[e]at hX hZ⊢;rw[hZ]at hX;simp only[decide_true,mH,Nat.sub_zero]at hX;rw[hX];rfl
   .rw[e]at hZ⊢;have:Ko cs (fF fine-1)=true:=by
     rw[Ko,decide_eq_true_eq];intro c hc;have:=c2 c hc;rw[hZ]at this
     cases fine<;>simp only[fF]at this⊢<;>simp at this⊢<;>omega
    rw[this];rfl
  refine⟨⟨⟨⟨by simp only[];omega,by simp only[];omega⟩,⟨by simp only[];omega,hO2⟩,by simp only[];rw[c1],λh=>absurd h t_,hrng⟩,rfl⟩,?_⟩;unfold sJ;rw[aa t_];refine iN.2 ⟨_,by simpa using r1.2,iN.2 ⟨_,by simpa using q2,iN.2 ⟨_,by simp only[];rw[aq9 hd];exact q3,iN.2 ⟨Qt b (bS sh) (bQ sh) st,?_,?_⟩⟩⟩⟩
  .simp only[fM];rw[hnar];exact q4
  .simp only[tJ,fM];rw[hnar];exact c3
def aEd {b:C_}{sh:Bool}{f:cf}{st s2:RS}(hf:Cg sh f)(h:AU b st s2 (sJ sh f)) :
  Ns b (bS sh) (bQ sh) f.fine st=f∧yw b (bS sh) (bQ sh) f.fine st=s2∧Kk b (bS sh) (bQ sh) f.fine st=false∧¬(12<rQ b (bS sh) (bQ sh) st):=by
 obtain⟨l1,l2,l3,_⟩:=Su sh;obtain⟨len,ord,down,fine,cs⟩:=f;obtain⟨⟨f1,f2⟩,⟨f3,f4⟩,f5,f6,f7⟩:=hf;simp only at f1 f2 f3 f4 f5 f6 f7⊢;obtain⟨len,rfl⟩:=az f1;obtain⟨ord,rfl⟩:=az f3;have hordF:ord<2 ^ bQ sh∧ord<=12:=by
  cases sh
  .have:(ord:Int)<=12:=f4;have:2 ^ bQ false=32:=rfl;omega
  .have:(ord:Int)<=7:=f4;have:2 ^ bQ true=8:=rfl;omega
 unfold sJ at h;simp only[au]at h;obtain⟨m1,h1,h⟩:=iN.1 h;obtain⟨m2,h2,h⟩:=iN.1 h;obtain⟨v1,n1⟩:=RY l2 (show len<2 ^ bS sh by omega) h1;obtain⟨v2,n2⟩:=RY l3 hordF.1 h2;have hO:rQ b (bS sh) (bQ sh) st=ord:=by unfold rQ;rw[n1,v2]
 have hS:yY b (bS sh) (bQ sh) st=m2:=by unfold yY;rw[n1,n2]
 refine⟨?_,?_,?_,by rw[hO];omega⟩
 all_goals
  by_cases h0:ord=0
  .subst h0;have hc:cs=[]:=ay o_;have hd:=f6 rfl;subst hc hd;simp only[Int.natCast_zero,bn]at h;have hs2:=(AL.1 h).1
   first
    |(unfold Ns;rw[ac hO,v1];rfl)
    |(unfold yw;rw[ac hO,hS,hs2])
    |(unfold Kk;rw[ac hO])
  .rw[aa o_]at h;obtain⟨m3,h3,h⟩:=iN.1 h;obtain⟨m4,h4,h5⟩:=iN.1 h;have b1:∀x:Bool,dT x<2 ^ 1:=λx=>by cases x<;>decide
   obtain⟨v3,n3⟩:=RY (s:=1) o_ (b1 down) h3;obtain⟨v4,n4⟩:=RY (s:=1) o_ (b1 _) h4;have hD:flD b (bS sh) (bQ sh) st=dT down:=by unfold flD;rw[hS];exact v3
   have hT:Qt b (bS sh) (bQ sh) st=m4:=by
    unfold Qt;rw[hS];show sN b (sN b m2 (1:Nat)) (1:Nat)=m4;rw[n3,n4]
   have hW:Hu b (bS sh) (bQ sh) st=dT (fM ⟨len,ord,down,fine,cs⟩):=by
    unfold Hu;rw[hS];show sV b (sN b m2 (1:Nat)) (1:Nat)=_;rw[n3,v4]
   have hZ:Jj b (bS sh) (bQ sh) fine st=tJ ⟨len,ord,down,fine,cs⟩:=by unfold Jj;rw[hW];rfl
   have hw1:dT (fM ⟨len,ord,down,fine,cs⟩)<=1:=by cases fM ⟨len,ord,down,fine,cs⟩<;>decide
   have hz:=aqa (fine:=fine) hw1;have hrng:∀c∈cs,-((2 ^ (tJ ⟨len,ord,down,fine,cs⟩-1):Nat):Int)<=c∧c<((2 ^ (tJ ⟨len,ord,down,fine,cs⟩-1):Nat):Int):=λc hc=>by
    have a:=f7 c hc
    cases hn:fM ⟨len,ord,down,fine,cs⟩ with
    |true =>
     have b:=(of_decide_eq_true hn) c hc;simp only[tJ,hn]
     cases fine<;>simp only[fF,dT,dD]at b⊢<;>simp at b⊢<;>omega
    |false =>
     simp only[tJ,hn]
     cases fine<;>simp only[fF,dT,dD]at a⊢<;>simp at a⊢<;>omega
   have hco:cs.length=ord:=o_;obtain⟨c1,c2⟩:=aya (sz:=tJ ⟨len,ord,down,fine,cs⟩) hz hrng h5;rw[hco]at c1 c2
   first
    |(unfold Ns;rw[aa o_,v1,hO,hD,hZ,hT,c1];congr 1;cases down<;>rfl)
    |(unfold yw;rw[aa o_,hO,hZ,hT,c2])
    |(unfold Kk;rw[aa o_,hO,hZ,hT,c1,hW];cases hn:fM ⟨len,ord,down,fine,cs⟩;rw[show tJ ⟨len,ord,down,fine,cs⟩-1=fF fine-1 from(by rw[tJ,hn];rfl),auM fine cs _ rfl];show(_ && fM ⟨len,ord,down,fine,cs⟩)=false;rw[hn,Bool.and_false];rfl)
def aqg {b:C_}{sh fine:Bool}{st:RS}:nx b (yw b (bS sh) (bQ sh) fine st):=by
 obtain⟨l1,l2,l3,_⟩:=Su sh;unfold yw;by_cases h0:rQ b (bS sh) (bQ sh) st=0
 .rw[ac h0];exact Tm l3
 .rw[aa h0];have hz:Jj b (bS sh) (bQ sh) fine st<=31:=by unfold Jj fF;split<;>omega
  exact az3 hz (Tm (st:=sN b (yY b (bS sh) (bQ sh) st) (1:Nat)) (s:=1) o_)
def au7 {b:C_}{sh fine:Bool}:∀{k:Nat}{o:Bool}{st st2:RS}{l:AA_},nx b st->ji b (bS sh) (bQ sh) fine k o st=some (l,false,st2)->st2.e=0->
  o=false∧l.length=k∧(∀f∈l,Cg sh f∧f.fine=fine)∧AU b st st2 (l.flatMap (sJ sh))
 |0,o,st,st2,l,hn,h,he=>by
  rw[ji]at h;injection h with h
  injection h with e1 h
  injection h with e2 e3
  subst e1 e2 e3;exact⟨rfl,rfl,s_,AL.2 ⟨rfl,hn he⟩⟩
 |k+1,o,st,st2,l,hn,h,he=>by
  rw[ji]at h;by_cases hO:12<rQ b (bS sh) (bQ sh) st∧(yY b (bS sh) (bQ sh) st).e=0
  .rw[ac hO]at h;exact absurd h (by simp)
  rw[aa hO]at h
  cases hq:ji b (bS sh) (bQ sh) fine k (o ||Kk b (bS sh) (bQ sh) fine st) (yw b (bS sh) (bQ sh) fine st) with
  |none=>rw[hq]at h;exact absurd h (by simp)
  |some q =>
   obtain⟨l2,o2,s3⟩:=q;rw[hq]at h;simp only[ae,aQ]at h;obtain⟨e1,e2,e3⟩:=h;subst e1 e2 e3;obtain⟨i1,i2,i3,i4⟩:=au7 aqg hq he;rw[Bool.or_eq_false_iff]at i1;obtain⟨⟨j1,j2⟩,j3⟩:=aFs hO i1.2 (Ex i4).2.2.1;refine⟨i1.1,by rw[ar,i2],λf hf=>?_,?_⟩
   .rcases aC.1 hf with rfl|hf
    .exact⟨j1,j2⟩
    .exact i3 f hf
   .rw[aE];exact iN.2 ⟨_,j3,i4⟩
def avr {b:C_}{sh fine:Bool}:∀{l:AA_}{st st2:RS},(∀f∈l,Cg sh f∧f.fine=fine)->AU b st st2 (l.flatMap (sJ sh))->ji b (bS sh) (bQ sh) fine l.length false st=some (l,false,st2)
 |[],st,st2,hl,h=>by rw[(AL.1 h).1];rfl
 |f::r,st,st2,hl,h=>by
  obtain⟨h1,h2⟩:=hl f (.head _);rw[aE]at h;obtain⟨m,k1,k2⟩:=iN.1 h;obtain⟨j1,j2,j3,j4⟩:=aEd h1 k1;rw[h2]at j1 j2 j3;rw[ar,ji,aa (λh=>j4 h.1),j3,j2,rC,avr (λx hx=>hl x (.tail _ hx)) k2,j1]
def amI (sh:Bool):x0T sh=eD sh∧x1T sh=bS sh∧x2T sh=bQ sh∧2 ^ eD sh=pz sh+1:=by cases sh<;>decide
def adm {sh:Bool}{f:cf}{r:AA_}:As sh (f::r)=aq (f::r).length (eD sh)++(aq (dT f.fine) 1++(f::r).flatMap (sJ sh)):=rfl
def ahx {sh:Bool}:As sh []=aq 0 (eD sh):=by simp[As]
def auF {b:C_}{sh:Bool}:∀{k:Nat}{o:Bool}{st st2:RS}{t:O_},nx b st->pg b (eD sh) (bS sh) (bQ sh) k o st=some (t,false,st2)->st2.e=0->
  o=false∧t.length=k∧(∀l∈t,tv sh l)∧AU b st st2 (js sh t)
 |0,o,st,st2,t,hn,h,he=>by
  rw[pg]at h;injection h with h
  injection h with e1 h
  injection h with e2 e3
  subst e1 e2 e3;exact⟨rfl,rfl,s_,AL.2 ⟨rfl,hn he⟩⟩
 |k+1,o,st,st2,t,hn,h,he=>by
  obtain⟨l1,l2,l3,l4⟩:=Su sh;obtain⟨_,_,_,x4⟩:=amI sh;rw[pg]at h
  cases hq:ji b (bS sh) (bQ sh) (Sw b (eD sh) st) (sV b st (eD sh)) o (Dy b (eD sh) st) with
  |none=>rw[hq]at h;exact absurd h (by simp)
  |some q =>
   obtain⟨l,o2,s3⟩:=q;rw[hq]at h;simp only at h
   cases hw:pg b (eD sh) (bS sh) (bQ sh) k o2 s3 with
   |none=>rw[hw]at h;exact absurd h (by simp)
   |some w =>
    obtain⟨t2,o3,s4⟩:=w;rw[hw]at h;simp only[ae,aQ]at h;obtain⟨e1,e2,e3⟩:=h;subst e1 e2 e3;have hwn:nx b (Dy b (eD sh) st):=by
     unfold Dy;split
     .exact Tm (st:=sN b st (eD sh)) (s:=1) (by omega)
     .exact Tm l4
    have hs3:nx b s3:=by
     have:∀{k:Nat}{o o2:Bool}{st st2:RS}{l:AA_},nx b st->ji b (bS sh) (bQ sh) (Sw b (eD sh) st) k o st=some (l,o2,st2)->True:=λ_ _=>trivial
     have g:∀{fine:Bool}{k:Nat}{o o2:Bool}{st st2:RS}{l:AA_},nx b st->ji b (bS sh) (bQ sh) fine k o st=some (l,o2,st2)->nx b st2:=by
      intro fine k
      induction k with
      |zero =>
       intro o o2 st st2 l hn h;rw[ji]at h;injection h with h
       injection h with e1 h
       injection h with e2 e3
       subst e3;exact hn
      |succ k ih =>
       intro o o2 st st2 l hn h;rw[ji]at h;split at h
       .exact absurd h (by simp)
       .split at h
        .exact absurd h (by simp)
        .rename_i q hq;obtain⟨a,b2,c⟩:=q;simp only[ae,aQ]at h;obtain⟨e1,e2,e3⟩:=h;subst e3;exact ih aqg hq
     exact g hwn hq
    obtain⟨i1,i2,i3,i4⟩:=auF hs3 hw he;subst i1;obtain⟨j1,j2,j3,j4⟩:=au7 hwn hq (Ex i4).2.2.1;have hwe:=(Ex j4).2.2.1;unfold Dy at hwe j4;refine⟨j1,by rw[ar,i2],λx hx=>?_,?_⟩
    .rcases aC.1 hx with rfl|hx
     .refine⟨?_,λf0 hf0 f hf=>?_⟩
      .have:=vP (b:=b) (st:=st) (s:=(eD sh:Int));rw[au]at this;omega
      .have a1:=j3 f hf;have a2:=j3 f0 (List.mem_of_mem_head? hf0);exact⟨a1.1,by rw[a1.2,a2.2]⟩
     .exact i3 x hx
    .rw[js,aE];refine iN.2 ⟨s3,?_,i4⟩
     cases l with
     |nil =>
      have h0:sV b st (eD sh)=0:=by rw[<-j2];rfl
      rw[aa o_]at hwe j4;have:=(Ls l4 hwe).2;rw[h0]at this;rw[ahx,(AL.1 j4).1];exact this
     |cons f r =>
      have hp:0<sV b st (eD sh):=by rw[<-j2];simp
      rw[ac hp]at hwe j4;have r1:=(Ls l4 (Xj (s:=1) hwe)).2;obtain⟨b1,r2⟩:=Ls (st:=sN b st (eD sh)) (s:=1) o_ hwe;rw[adm,j2];refine iN.2 ⟨_,r1,iN.2 ⟨_,?_,j4⟩⟩;have hfi:dT f.fine=sV b (sN b st (eD sh)) (1:Nat):=by
       rw[(j3 f (.head _)).2,Sw,decide_eq_true hp,mH];exact aq9 b1
      rw[hfi];exact r2
def auK {b:C_}{sh:Bool}:∀{t:O_}{st st2:RS},(∀l∈t,tv sh l)->AU b st st2 (js sh t)->pg b (eD sh) (bS sh) (bQ sh) t.length false st=some (t,false,st2)
 |[],st,st2,hl,h=>by rw[(AL.1 h).1];rfl
 |l::r,st,st2,hl,h=>by
  obtain⟨l1,l2,l3,l4⟩:=Su sh;obtain⟨_,_,_,x4⟩:=amI sh;obtain⟨h1,h2⟩:=hl l (.head _);rw[js,aE]at h;obtain⟨m,k1,k2⟩:=iN.1 h;have ih:=auK (λx hx=>hl x (.tail _ hx)) k2;rw[ar,pg]
  cases l with
  |nil =>
   rw[ahx]at k1;obtain⟨v1,n1⟩:=RY l4 (bV _) k1;have hS:Dy b (eD sh) st=m:=by rw[Dy,aa o_,n1]
   rw[v1,hS];simp only[ji];rw[ih]
  |cons f q =>
   rw[adm]at k1;obtain⟨m1,j1,k1⟩:=iN.1 k1;obtain⟨m2,j2,j3⟩:=iN.1 k1;obtain⟨v1,n1⟩:=RY l4 o_ j1;have b1:dT f.fine<2 ^ 1:=by cases f.fine<;>decide
   obtain⟨v2,n2⟩:=RY (s:=1) o_ b1 j2;have hp:0<sV b st (eD sh):=by rw[v1];simp
   have hS:Dy b (eD sh) st=m2:=by
    rw[Dy,ac hp,n1];exact n2
   have hF:Sw b (eD sh) st=f.fine:=by
    rw[Sw,decide_eq_true hp,mH,n1];have:sV b m1 1=dT f.fine:=v2;rw[this]
    cases f.fine<;>rfl
   rw[hS,hF,v1,avr (λx hx=>h2 f rfl x hx) j3];simp only;rw[ih]
def awQ {b:C_}{i:aO}{a n:Nat}{t:O_}(ha:a<=b.length):Pn b i (a:Int)=.ok t n↔Tt i t∧At b a n (js i.short t):=by
 obtain⟨x0,x1,x2,_⟩:=amI i.short;rw[Pn,Xa,x0,x1,x2];constructor
 .intro h
  cases hq:pg b (eD i.short) (bS i.short) (bQ i.short) i.many false ⟨a,0⟩ with
  |none=>rw[hq]at h;exact absurd h (by simp)
  |some q =>
   obtain⟨t2,o,st⟩:=q;rw[hq]at h;simp only at h;by_cases he:st.e≠0
   .rw[ac he]at h;exact absurd h (by simp)
   rw[aa he]at h
   cases o with
   |true=>simp at h
   |false =>
    simp only[ao,bl]at h;injection h with e1 e2
    subst e1;obtain⟨_,g2,g3,a2,n2,e3,e4,g5⟩:=auF (λ_=>⟨a,rfl,ha⟩) hq (by simpa using he);injection e3 with e3 _
    have:a=a2:=o_;subst this;rw[e4]at e2;simp only[au]at e2;subst e2;exact⟨⟨g2,g3⟩,g5⟩
 .rintro ⟨⟨h1,h2⟩,h3⟩
  have:=auK h2 (show AU b ⟨a,0⟩ ⟨n,0⟩ _ from ⟨a,n,rfl,rfl,h3⟩);rw[h1]at this;rw[this];simp
def alr {lf:Int}:∀{l:Q_},fitsS lf l->∀k∈aP l,0<=k
 |[],_,k,h=>by simp[aP]at h
 |s::r,hf,k,h=>by
  obtain⟨⟨_,h1⟩,h2⟩:=hf;have eb:aP (s::r)=List.replicate s.len.toNat s.book++aP r:=by rw[aP,aE];rfl
  rw[eb,bF]at h;rcases h with h|h
  .rw[ej h];exact h1.1
  .exact alr h2 k h
def anT {b:C_}{a n v:Nat}(h:bb b (a:Int) 1=.ok v n):v<=1∧At b a n [v]:=by
 obtain⟨h1,h2⟩:=(cK (s:=1) o_).1 h;rw[aaC o_]at h2;exact⟨o_,h2⟩
abbrev apart (p q:Nat×Nat):Prop:=p.2+bO p.1<=q.2∨q.2+bO q.1<=p.2
structure OsW (os:C_)(W:Nat):Prop where
 up:∀j,j+1<os.length->nth os j<nth os (j+1)∧(nth os (j+1)-nth os j) % 4=0
 win:∀w w',w<W->w'<W->w≠w'->∀j,j+1<os.length->nth os (j+1)<=32
def au6 {os:C_}{W:Nat}(h:OsW os W):∀{k b:Nat},b+1+k<os.length->nth os (b+1)<=nth os (b+1+k)
 |0,b,_=>ak _
 |k+1,b,hk=>by
  have:=au6 h (k:=k) (b:=b) o_;have h2:=(h.up (b+1+k) o_).1;rw[show b+1+(k+1)=b+1+k+1 by omega];omega
def asP (os:C_)(w b d y:Nat):Prop:=(w*32+nth os b<=y∧y+d<=w*32+nth os (b+1))∧b+1<os.length
def FA {os:C_}{W:Nat}(h:OsW os W){d b k w y:Nat}(hd:d=4∨d=2)(hb:b+1<os.length)(hy:y∈sR os d b k w):∃w',w<=w'∧w'<w+k∧asP os w' b d y:=by
 obtain⟨w',x,h1,h2,h3,rfl⟩:=abv hy;have hu:=h.up b hb;have:=Mq (d:=d) o_ (by rcases hd with e|e<;>rw[e]<;>omega) h3;exact⟨w',h1,h2,⟨o_,o_⟩,hb⟩
def Ky {os:C_}{W:Nat}(h:OsW os W){w b d y w' b' d' y':Nat}(hw:w<W)(hw':w'<W)(h1:asP os w b d y)(h2:asP os w' b' d' y')(hne:w≠w'∨b<b'):y+d<=y'∨y'+d'<=y:=by
 obtain⟨⟨a1,a2⟩,a3⟩:=h1;obtain⟨⟨c1,c2⟩,c3⟩:=h2;by_cases e:w=w'
 .have hb:b<b':=by rcases hne with h|h;exact absurd e h;exact h
  have:=au6 h (k:=b'-(b+1)) (b:=b) o_;rw[show b+1+(b'-(b+1))=b' by omega]at this;left;subst e;omega
 .have k1:=h.win w w' hw hw' e b a3;have k2:=h.win w w' hw hw' e b' c3;omega
def aqJ {d hi:Nat}:∀{f lo:Nat},(∀y∈vJ d hi f lo,lo<=y)∧(vJ d hi f lo).Pairwise λx y=>x+d<=y
 |0,lo=>⟨by simp[vJ],by simp[vJ]⟩
 |f+1,lo=>by
  obtain⟨h1,h2⟩:=aqJ (d:=d) (hi:=hi) (f:=f) (lo:=lo+d);rw[vJ];by_cases h:lo<hi
  .rw[ac h];refine⟨λy hy=>?_,bW.2 ⟨λy hy=>h1 y hy,h2⟩⟩;rcases aC.1 hy with rfl|hy
   .exact ak _
   .have:=h1 y hy;omega
  .rw[aa h];exact⟨s_,s_⟩
abbrev apD (d:Nat)(x y:Nat):Prop:=x+d<=y∨y+d<=x
def ark {os:C_}{W:Nat}(h:OsW os W){d b:Nat}(hd:d=4∨d=2)(hb:b+1<os.length):∀{k w:Nat},w+k<=W->(sR os d b k w).Pairwise (apD d)
 |0,w,_=>by simp[sR]
 |k+1,w,hk=>by
  rw[sR,dg];refine⟨?_,ark h hd hb o_,λx hx y hy=>?_⟩
  .rw[List.pairwise_map];exact(aqJ.2).imp λ{a c} hac=>.inl (by omega)
  .obtain⟨w2,e1,e2,e3⟩:=FA h hd hb hy;have hx':x∈sR os d b 1 w:=by
    rw[sR,bF];exact .inl hx
   obtain⟨w1,e4,e5,e6⟩:=FA h hd hb hx';exact Ky h o_ o_ e6 e3 (.inl o_)
def apw {os:C_}{W:Nat}(h:OsW os W){d n first:Nat}(hd:d=4∨d=2)(hw:first+n<=W):∀{k b:Nat},b+k<os.length->(BZ os d n first k b).Pairwise (apD d)
 |0,b,_=>by simp[BZ]
 |k+1,b,hk=>by
  rw[BZ,dg];refine⟨ark h hd o_ hw,apw h hd hw o_,λx hx y hy=>?_⟩;obtain⟨w1,e4,e5,e6⟩:=FA h hd o_ hx;obtain⟨b',c1,c2,c3⟩:=Ug hy;obtain⟨w2,e1,e2,e3⟩:=FA h hd o_ c3;exact Ky h o_ o_ e6 e3 (.inr o_)
def ER (id:Nat):bO id=4∨bO id=2:=by unfold bO;split<;>simp
def aqM {os:C_}{W:Nat}(h:OsW os W){n first:Nat}(hw:first+n<=W):∀{r:Q_}{b:Nat}{lf:Int},fitsS lf r->(b:Int)+lf<os.length->(Dv os n first r b).Pairwise apart
 |[],b,lf,_,_=>by simp[Dv]
 |s::r,b,lf,hf,hb=>by
  obtain⟨⟨⟨l1,l2⟩,b1,b2⟩,hf2⟩:=hf;rw[Dv,dg];refine⟨?_,aqM h hw hf2 o_,λx hx y hy=>?_⟩
  .by_cases h0:s.book=0∨s.book=13
   .rw[ac h0];simp
   .rw[aa h0,List.pairwise_map];exact apw h (ER _) hw (by omega)
  .by_cases h0:s.book=0∨s.book=13
   .rw[ac h0]at hx;simp at hx
   .rw[aa h0]at hx;obtain⟨x',hx',rfl⟩:=dz.1 hx;obtain⟨b',c1,c2,c3⟩:=Ug hx';obtain⟨w1,e4,e5,e6⟩:=FA h (ER _) o_ c3;obtain⟨j,f1,f2,f3⟩:=TY hf2 hy;have hj:(j:Int)<lf-s.len:=by
     have h1:=(aN.1 f1).1;have:∀{l:Q_}{m:Int},fitsS m l->((aP l).length:Int)=m:=by
      intro l
      induction l with
      |nil=>intro m hm;rw[show m=0 from hm];simp[aP]
      |cons q l ih =>
       intro m hm;have eb:aP (q::l)=List.replicate q.len.toNat q.book++aP l:=by rw[aP,aE];rfl
       have:=ih hm.2;have hq:=hm.1.1.1;rw[eb,al,bU];omega
     have:=this hf2;omega
    obtain⟨w2,e1,e2,e3⟩:=FA h (ER _) o_ f3;exact Ky h o_ o_ e6 e3 (.inr o_)
def FJ:∀{l:Q_}{m:Int},fitsS m l->((aP l).length:Int)=m
 |[],m,h=>by rw[show m=0 from h];simp[aP]
 |q::l,m,hm=>by
  have eb:aP (q::l)=List.replicate q.len.toNat q.book++aP l:=by rw[aP,aE];rfl
  have:=FJ hm.2;have hq:=hm.1.1.1;rw[eb,al,bU];omega
def arv {os:C_}{W:Nat}(h:OsW os W){m:Int}(hm:m<os.length):∀{r:H_}{q:G_}{first:Nat},fy m r->(∀n∈q,1<=n)->(first:Int)+q.sum<=W->(rF os r q first).Pairwise apart
 |[],q,first,_,_,_=>by simp[rF]
 |l::r,[],first,_,_,_=>by simp[rF]
 |l::r,n::q,first,hf,hq,hW=>by
  have hn:=hq n (.head _);have hq2:∀n∈q,1<=n:=λx hx=>hq x (.tail _ hx)
  have hqs:0<=q.sum:=by have:=lG hq2;omega
  have hl:=hf l (.head _);rw[mU]at hW;rw[rF,dg];refine⟨aqM h o_ hl o_,arv h hm (λx hx=>hf x (.tail _ hx)) hq2 o_,λx hx y hy=>?_⟩;obtain⟨j,f1,f2,f3⟩:=TY hl hx;have hj:=(aN.1 f1).1;have hjl:=FJ hl;obtain⟨w1,e4,e5,e6⟩:=FA h (ER _) o_ f3;obtain⟨w,g,j2,l2,g1,g2,g3,g4,g5,g6,z,g7,g8⟩:=Mk (λx hx=>hf x (.tail _ hx)) hq2 hy;have hj2:=(aN.1 g5).1;have hjl2:=FJ (hf l2 (.tail _ (di g1)));have hy2:y.2∈sR os (bO y.1) j2 1 w:=by rw[g8];exact ao2 (ak _) o_ g7
  obtain⟨w2,e1,e2,e3⟩:=FA h (ER _) o_ hy2;exact Ky h o_ o_ e6 e3 (.inl o_)
def apN {r:Nat}(hr:r<=11)(i:aO):OsW (offs r i.short) i.many:=by
 obtain⟨p1,p2,p3⟩:=uR (r,i.short) (iu o_);simp only at p1 p2 p3;obtain⟨w1,w2⟩:=XM i;refine⟨λj hj=>?_,λw w' h1 h2 h3 j hj=>?_⟩
 .have:=bJ.1 p1 j (dU.2 o_);simpa using this
 .have:=bJ.1 p3 _ (jM hj);simp only[decide_eq_true_eq]at this;omega
def asY {r:Nat}(hr:r<=11){j:aO}{S:H_}(hm:j.may r)(hS:jH j S):(RT r j S).Pairwise apart:=by
 obtain⟨g1,g2⟩:=dO (gQ hr hm);have hmx:=hm.2.2.2.1;have hmy:qO r (decide (j.seq=2))=(offs r j.short).length-1:=rfl;obtain⟨o1,o2,o3,o4⟩:=KK (r,j.short) (iu o_);simp only at o4;exact arv (apN hr j) (m:=j.max) o_ hS.2 (λn hn=>(g1 n hn).1) (by omega)
def ZP {b:C_}:∀{pl:S_}{n m:Nat}{Z Z2:G_},n<=b.length->Z.length=256->(∀p∈pl,(1<=p.1∧p.1<=11)∧p.2+bO p.1<=256)->pl.Pairwise apart->nX b pl n Z=.ok Z2 m->
  Z2.length=256∧At b n m (pl.flatMap λp=>Fd p.1 (cut Z2 p))∧(∀p∈pl,SX p.1 (cut Z2 p))∧∀i,(∀p∈pl,¬(p.2<=i∧i<p.2+bO p.1))->Z2[i]?=Z[i]?
 |[],n,m,Z,Z2,hn,hz,hp,hw,h=>by
  rw[nX]at h;injection h with e1 e2
  subst e1 e2;exact⟨hz,d9.2 ⟨rfl,hn⟩,s_,λi _=>rfl⟩
 |p::r,n,m,Z,Z2,hn,hz,hp,hw,h=>by
  rw[nX]at h;obtain⟨l,k,h1,h2⟩:=aJ.1 h;obtain⟨p1,p2⟩:=hp p (.head _);obtain⟨w1,w2⟩:=bW.1 hw;obtain⟨g1,g2⟩:=(at1 p1).1 h1;have hll:=g1.1;obtain⟨i1,i2,i3,i4⟩:=ZP (df g2).2.1 (by rw[af8 o_];exact hz) (λq hq=>hp q (.tail _ hq)) w2 h2;have hcut:cut Z2 p=l:=by
   apply dK;intro i;by_cases hi:i<bO p.1
   .rw[alP hi,i4 (p.2+i) (λq hq hh=>by
     have:=w1 q hq;have:=hp q (.tail _ hq);omega),amq o_,ac o_]
    congr 1
    omega
   .have:=avZ (Z:=Z2) (p:=p) o_;rw[jQ o_,jQ o_]
  refine⟨i1,?_,λq hq=>?_,λi hi=>?_⟩
  .rw[aE,hcut];exact be.2 ⟨k,g2,i2⟩
  .rcases aC.1 hq with rfl|hq
   .rw[hcut];exact g1
   .exact i3 q hq
  .have:=hi p (.head _);rw[i4 i (λq hq=>hi q (.tail _ hq)),amq o_,aa o_]
def ac9 {tl:C_}{bks:G_}:∀{ls:G_}{i:Nat},(∀j v,ls[j]?=some v->M9 tl bks (i+j) v)->wI tl bks i ls
 |[],i,_=>trivial
 |u::r,i,h=>⟨h 0 u rfl,ac9 λj v hv=>by
   have:=h (j+1) v (by simpa using hv)
   rwa [show i+(j+1)=i+1+j by omega]at this⟩
def adE {r:Nat}{c:c7}:∀{k w:Nat},(∀w',w<=w'->w'<w+k->wI ((offs r c.info.short).drop 1) (aP (CQ c w')) 0 (Bv c w'))->JD r c k w
 |0,w,_=>trivial
 |k+1,w,h=>⟨h w (ak _) o_,adE λw' h1 h2=>h w' o_ o_⟩
def aqU {b:C_}{r:Nat}{c:c7}(hr:r<=11)(hm:c.info.may r)(hS:jH c.info c.sects){n m:Nat}(hn:n<=b.length)(h:nX b (RT r c.info c.sects) n Z0=.ok c.lines m):TM r c∧At b n m (nU r c)∧∀v∈c.lines,i64 v:=by
 have hm11:=gQ hr hm;obtain⟨g1,g2⟩:=dO hm11;obtain⟨i1,i2,i3,i4⟩:=ZP hn (by rw[bU]) (λp hp=>Wq hm hS hr hp) (asY hr hm hS) h;obtain⟨hw1,hw⟩:=XM c.info;have key:∀i v,c.lines[i]?=some v->v=0∨∃p∈RT r c.info c.sects,(p.2<=i∧i<p.2+bO p.1)∧v.natAbs<=iH p.1:=by
  intro i v hv;by_cases hp:∃p∈RT r c.info c.sects,p.2<=i∧i<p.2+bO p.1
  .obtain⟨p,h1,h2,h3⟩:=hp;refine .inr ⟨p,h1,⟨h2,h3⟩,(i3 p h1).2 v ?_⟩;refine di (i:=i-p.2) ?_;rw[alP o_,<-hv]
   congr 1
   omega
  .left;have:=i4 i (λp hp2 hh=>hp ⟨p,hp2,hh⟩);rw[hv]at this;have hi:=(aN.1 hv).1;rw[sX,ac o_]at this;injection this
 refine⟨⟨i1,adE λw _ hwm=>ac9 λx v hv=>?_⟩,i2,λv hv=>?_⟩
 .rw[bC]at hwm⊢;have hx:x<c.info.wide:=by
   have:=(aN.1 hv).1;rw[Bv,bI]at this;omega
  rw[Bv,jh,ac hx,b6]at hv;rcases key _ _ hv with h0|⟨p,hp,⟨q1,q2⟩,q3⟩
  .exact .inl h0
  .right;obtain⟨w',g,j,l,e1,e2,e3,e4,e5,e6,y,e7,e8⟩:=Mk hS.2 (λn hn=>(g1 n hn).1) hp;obtain⟨p1,p2,p3⟩:=uR (r,c.info.short) (iu o_);simp only at p1 p2 p3;have hl:=hS.2 l (di e1);have hbs:=FJ hl;have hjl:=(aN.1 e5).1;have hmx:=hm.2.2.2.1;have hmy:qO r (decide (c.info.seq=2))=(offs r c.info.short).length-1:=rfl;have hj1:j+1<(offs r c.info.short).length:=o_;have hU:=apN hr c.info;have hu:=hU.up j hj1;have hxf:=Mq (d:=bO p.1) (by rcases ER p.1 with h|h<;>omega) (by rcases ER p.1 with h|h<;>rw[h]<;>omega) e7;have ho:nth (offs r c.info.short) (j+1)<=c.info.wide:=by
    have:=bJ.1 p3 _ (jM hj1);simp only[decide_eq_true_eq]at this
    rwa [hw1]at this
   have hww:w'=w∧nth (offs r c.info.short) j<=x∧x<nth (offs r c.info.short) (j+1):=by
    rcases hw with ⟨a1,a2⟩|⟨a1,a2⟩<;>rw[a1]at q1 q2 ho hx<;>omega
   obtain⟨rfl,c1,c2⟩:=hww;have hba:=ai0 (i:=x) (λj hj=>(hU.up j hj).1) hj1 c1 c2;have hsa:CQ c w'=l:=by
    rw[CQ,dV,show nk c.info.groups (w':Int)=g by rw[<-e4];congr 1,e1];rfl
   exact⟨p.1,by rw[hba,hsa,e5],o_,by simpa using q3⟩
 .obtain⟨i,hi,e⟩:=il.1 hv;rcases key i v (by rw[bB hi,e]) with h0|⟨p,hp,_,q3⟩
  .omega
  .have:=aso (Wq hm hS hr hp).1;omega
def agf:∀{r t:G_}{w z:Int},dP r t w z≠none->r.length=t.length∧∀n∈t,-1<=n∧n<=511
 |[],[],_,_,_=>⟨rfl,s_⟩
 |[],_::_,_,_,h=>absurd rfl h
 |_::_,[],_,_,h=>absurd rfl h
 |k::r,v::t,w,z,h=>by
  obtain⟨c1,c2,c3⟩:=pU h;rw[c3]at h;obtain⟨i1,i2⟩:=agf h;refine⟨by rw[ar,ar,i1],λn hn=>?_⟩;rcases aC.1 hn with rfl|hn
  .by_cases h0:k=0
   .have:=c1 h0;omega
   .exact Sy (c2 h0)
  .exact i2 n hn
def ac4:∀{g:H_}{t:K_}{w z:Int},mq g t w z≠none->∀l∈t,∀n∈l,-1<=n∧n<=511
 |[],[],_,_,_=>by simp
 |[],_::_,_,_,h=>absurd rfl h
 |_::_,[],_,_,h=>absurd rfl h
 |l::r,t::s,w,z,h=>by
  rw[mq]at h
  cases e:dP (aP l) t w z with
  |none=>rw[e]at h;exact absurd rfl h
  |some p =>
   rw[e]at h;intro q hq;rcases aC.1 hq with rfl|hq
   .exact(agf (by rw[e];simp)).2
   .exact ac4 h q hq
abbrev Pf (v:Hd×G_):c7:=⟨v.1.gain,v.1.inf,v.1.S,v.1.T,v.1.F,v.2⟩
def ayw {o p:Nat}(ho:o<=1)(hp:p<=1)(h:YP (o:Int) p=0):o=0∧p=0:=by
 unfold YP at h;split at h<;>omega
def agT {b:C_}(hb:b.length<=1000000000){r:Nat}{i:aO}{q:Bool}(hr:r<=11)(hi:i.Fit){a:Int}{v:Hd×G_}{n:Nat}(h:Rl b a r q i=.ok v n) :
  ∃A:Nat,a=A∧(Pf v).Fit∧ph r (Pf v)∧At b A n (Jk r (Pf v) q)∧(q=true->v.1.inf=i):=by
 unfold Rl at h;obtain⟨u0,n0,e0,g0⟩:=aJ.1 h;clear h;have ha:=amj e0;obtain⟨A,rfl⟩:=az ha;have f0:=(cK (s:=0) o_).1 e0;have f0':n0=A∧A<=b.length:=d9.1 f0.2;obtain⟨f0a,f0b⟩:=f0'
 cases f0a
 by_cases hm:q=true∧¬i.may r
 .rw[ac hm]at g0;exact absurd g0 (by simp)
 rw[aa hm]at g0;have hq:q=true->i.may r:=λh=>ic λh2=>hm ⟨h,h2⟩
 obtain⟨H,nH,eH,g1⟩:=aJ.1 g0;clear g0;obtain⟨Z,nZ,eZ,g2⟩:=aJ.1 g1;clear g1;by_cases hend:H.od=0∧(H.is=1->vu H.F=true)
 rotate_left
 .rw[aa hend]at g2;exact absurd g2 (by simp)
 rw[ac hend]at g2;injection g2 with h1 h2
 subst h1 h2;have hR:dR (r:Int):=o_;have pH:=(OY b hb r hR q i hi _ (.inl rfl) (λh=>by rw[au];exact hq h) n0 o_ 0 0).2;rw[au]at pH;have p:=pH H nH eH;unfold HL at eH;obtain⟨g,n1,e1,y1⟩:=aJ.1 eH;clear eH;obtain⟨j,n2,e2,y2⟩:=aJ.1 y1;clear y1;obtain⟨S,n3,e3,y3⟩:=aJ.1 y2;clear y2;obtain⟨T,n4,e4,y4⟩:=aJ.1 y3;clear y3;obtain⟨o,n5,e5,y5⟩:=aJ.1 y4;clear y4;obtain⟨s,n6,e6,y6⟩:=aJ.1 y5;clear y5;obtain⟨F,n7,e7,y7⟩:=aJ.1 y6;clear y6;obtain⟨o2,n8,e8,y8⟩:=aJ.1 y7;clear y7;injection y8 with k1 k2
 subst k1 k2;simp only at hend eZ p;have f1:=(cK (s:=8) o_).1 e1;have hjm:j.may r:=p.may;have hm11:=gQ hr hjm;have f2:At b n1 n2 (if q then [] else kb j)∧(q=true->j=i):=by
  cases q with
  |true =>
   rw[ac rfl]at e2⊢;injection e2 with k1 k2
   subst k1 k2;exact⟨d9.2 ⟨rfl,(df f1.2).2.1⟩,λ_=>rfl⟩
  |false =>
   rw[aa s_]at e2⊢;exact⟨((X6 hr).1 e2).2,λh=>absurd h s_⟩
 have f3:=(aob hm11 (df f2.1).2.1).1 e3;have f4:=(arg (df f3.2).2.1 (λl hl=>alr (f3.1.2 l hl)) o_).1 e4;have f5:=anT e5;have f6:=anT e6;have f8:=anT e8;have hoo:=ayw f5.1 f8.1 hend.1;have hF:Tt j F∧At b n4 n8 (if vu F then 0::1::(js j.short F++[0]) else [0,0,0]):=by
  rw[hoo.1]at f5;rw[hoo.2]at f8;by_cases hs:s=1
  .rw[ac hs]at e7;have f7:=(awQ (df f6.2).2.1).1 e7;rw[hend.2 hs];rw[hs]at f6;exact⟨f7.1,be (X:=[0]) |>.2 ⟨n5,f5.2,be (X:=[1]) |>.2 ⟨n6,f6.2,be.2 ⟨n7,f7.2,f8.2⟩⟩⟩⟩
  .rw[aa hs]at e7;have hs0:s=0:=o_;injection e7 with k1 k2
   subst k1 k2;have han:vu (List.replicate j.many ([]:AA_))=false:=by
    rw[vu,sM];intro l hl;rw[ej hl];simp
   rw[han];rw[hs0]at f6;exact⟨⟨by rw[bU],λl hl=>by rw[ej hl];exact⟨eG _,s_⟩⟩,be (X:=[0]) |>.2 ⟨n5,f5.2,be (X:=[0]) |>.2 ⟨n6,f6.2,f8.2⟩⟩⟩
 have hg:=p.gain;simp only at hg;obtain⟨l1,l2,l3⟩:=aqU (c:=⟨g,j,S,T,F,Z⟩) hr hjm f3.1 (df hF.2).2.1 eZ;have hmx:=je hm11;have hmm:=wR j;obtain⟨q1,q2⟩:=dO hm11;have hgl:j.groups.length<=8:=by have:=lG (λn hn=>(q1 n hn).1);omega
 have hSl:S.length<=8:=by have:=f3.1.1;omega
 have hTl:T.length=S.length:=by have:=aX List.length p.T;simpa using this
 have hft:=p.fit;simp only at hft;refine⟨n0,rfl,?_,?_,?_,f2.2⟩
 .refine⟨by simp only[];omega,hft,⟨by simp only[];omega,λl hl=>by have:=p.Sl l hl;omega⟩,λl hl x hx=>?_,⟨by simp only[];omega,λl hl=>?_⟩,λl hl x hx=>by have:=ac4 f4.1 l hl x hx;omega,⟨by have:=hF.1.1;simp only[];omega,λl hl=>by have:=p.F.2 l hl;exact⟨o_,λf hf=>by have:=this.2 f hf;omega⟩⟩,λl hl f hf=>?_,by have:=l1.1;simp only[]at this⊢;omega,l3⟩
  .have:=tR (f3.1.2 l hl) o_ x hx;have a1:=this.1;have a2:=this.2;omega
  .have h1:l.length∈T.map List.length:=dz.2 ⟨l,hl,rfl⟩;rw[show T.map List.length=S.map (λl=>(aP l).length) from p.T]at h1;obtain⟨x,hx,e⟩:=dz.1 h1;have:=FJ (f3.1.2 x hx);omega
  .have hw:=hF.1.2 l hl
   cases l with
   |nil=>exact absurd hf (by simp)
   |cons f0 lr =>
    have:=(hw.2 f0 rfl f hf).1;obtain⟨⟨b1,b2⟩,⟨b3,b4⟩,_,_,b5⟩:=this;have lf:Ah j.short<=63:=by cases j.short<;>decide
    have of:wp j.short<=12:=by cases j.short<;>decide
    refine⟨o_,λx hx=>?_⟩;have:=b5 x hx;have hh:dD f.fine<=8∧4<=dD f.fine:=by cases f.fine<;>decide
    omega
 .exact⟨by simp only[];omega,hjm,f3.1,f4.1,hF.1,l1⟩
 .exact be.2 ⟨n1,by simpa using f1.2,be.2 ⟨n2,f2.1,be.2 ⟨n3,f3.2,be.2 ⟨n4,f4.2,be.2 ⟨n8,hF.2,l2⟩⟩⟩⟩⟩
def azM {t:Ty}:∀{ds:Y_},OkDs [t] ds->∃d,ds=[d]∧BJ t d
 |[],h=>by simp[OkDs]at h
 |[d],h=>⟨d,rfl,by simpa [OkDs] using h⟩
 |_::_::_,h=>by simp[OkDs]at h
def aAi {k:IntKind}:∀{d:D},BJ (.int k) d->∃n,d=.int k n∧(Lit.int k n).wf=true
 |.int j n,h=>by
  simp only[BJ]at h;obtain⟨rfl,h⟩:=h;exact⟨n,rfl,h⟩
 |.bool _,h=>by simp[BJ]at h
 |.str _,h=>by simp[BJ]at h
 |.lst _,h=>by simp[BJ]at h
def aCl {d:D}(h:BJ (.int .u8) d):∃n:Nat,d=.int .u8 n∧n<=255:=by
 obtain⟨n,e,h⟩:=aAi h;simp[Lit.wf,IntKind.min,IntKind.max,IntKind.signed,IntKind.bits]at h;refine⟨n.toNat,?_,o_⟩;rw[e,po h.1]
def ayW {es:List Ty}:∀{d:D},BJ (.lst es) d->∃xs,d=.lst xs∧∀x∈xs,OkDs es x
 |.lst xs,h=>⟨xs,rfl,by simpa only[BJ] using h⟩
 |.int _ _,h=>by simp[BJ]at h
 |.str _,h=>by simp[BJ]at h
 |.bool _,h=>by simp[BJ]at h
def alF {α:Type}{es:List Ty}{f:α->Y_}{Q:α->Prop}(h1:∀x,OkDs es x->∃a,x=f a∧Q a):∀{xs:E_},(∀x∈xs,OkDs es x)->∃l:List α,xs=l.map f∧∀a∈l,Q a
 |[],_=>⟨[],rfl,s_⟩
 |x::r,h=>by
  obtain⟨a,rfl,ha⟩:=h1 x (h x (.head _));obtain⟨l,rfl,hl⟩:=alF h1 (xs:=r) λy hy=>h y (.tail _ hy)
  exact⟨a::l,rfl,λb hb=>(aC.1 hb).elim (λe=>e▸ha) (hl b)⟩
structure c7.Rng (c:c7):Prop where
 gain:i64 c.gain
 seq:c.info.seq<=255
 shape:c.info.shape<=255
 max:i64 c.info.max
 groups:∀n∈c.info.groups,i64 n
 secI:∀l∈c.sects,∀s∈l,i64 s.book∧i64 s.len
 stepI:∀l∈c.steps,∀n∈l,i64 n
 fltI:∀l∈c.tns,∀f∈l,(i64 f.len∧i64 f.order)∧∀x∈f.coefs,i64 x
 lineI:∀n∈c.lines,i64 n
def c7.Rng.fit {c:c7}(h:c.Rng)(s:auJ c):c.Fit where
 gain:=h.gain
 info:=⟨h.seq,h.shape,h.max,by have:=s.groups;omega,h.groups⟩
 sects:=⟨by have:=s.sects.1;omega,λl hl=>by have:=s.sects.2 l hl;omega⟩
 secI:=h.secI
 steps:=⟨by have:=s.steps.1;omega,λl hl=>by have:=s.steps.2 l hl;omega⟩
 stepI:=h.stepI
 tns:=⟨by have:=s.tns.1;omega,λl hl=>⟨by have:=(s.tns.2 l hl).1;omega,λf hf=>by have:=(s.tns.2 l hl).2 f hf;omega⟩⟩
 fltI:=h.fltI
 lines:=by have:=s.lines;omega
 lineI:=h.lineI
abbrev fQ (C F I:D_)(T:am)(c:D_):am:=(0,.cells C)::(1,.cells F)::(2,.cells c)::(3,.cells I)::T
def aoc (C F I:D_)(T:am):Hr (fQ C F I T) 2:=⟨λc=>by simp,λc d=>by simp⟩
def lg (b:C_):Nat->Nat×Nat->V_×Nat×Nat
 |0,s=>([],s)
 |k+1,s=>(decide ((gT b s 1).1=1)::(lg b k (gT b s 1).2).1,(lg b k (gT b s 1).2).2)
def ag8 {b:C_}:∀{k:Nat}{s:Nat×Nat},(lg b k s).1.length=k
 |0,_=>rfl
 |k+1,s=>by rw[lg,ar,ag8]
def ala {b:C_}:∀{k:Nat}{s:Nat×Nat},s.1<=b.length->(lg b k s).2.1<=b.length
 |0,_,h=>h
 |k+1,s,h=>ala (k:=k) (s:=(gT b s 1).2) (qQ h)
def acH {b:C_}:∀{k:Nat}{s:Nat×Nat},s.2≠0->(lg b k s).2=s
 |0,_,h=>rfl
 |k+1,s,h=>by rw[lg];simp only[uP h];exact acH h
def HC (b:C_):Nat->Nat->R V_
 |0,a=>.ok [] a
 |k+1,a=>(bb b a 1).bind λx n=>(HC b k n).bind λl m=>.ok (decide (x=1)::l) m
def aqy {b:C_}:∀{k a:Nat},Lk (HC b k a) (λl=>(lg b k (a,0)).1=l) (lg b k (a,0)).2
 |0,a=>⟨rfl,rfl⟩
 |k+1,a=>by
  rw[HC,lg]
  cases e:bb b a 1 with
  |er q =>
   rw[zL e];simp only;rw[acH (bu _)];exact rfl
  |ok x n =>
   rw[oH e,aI];have h:=aqy (b:=b) (k:=k) (a:=n)
   cases e2:HC b k n with
   |er q=>rw[e2]at h;exact h
   |ok l m=>rw[e2]at h;exact⟨by rw[h.1],h.2⟩
def axP {l:V_}{i:Nat}{x:Bool}:(gU l).set i [.bool x]=gU (l.set i x):=by simp[gU,kX]
def av9 (b:C_)(hb:b.length<=1000000000)(C F I:D_)(mx:Nat)(hm:mx<=1000)(N:Nat)(hN:4<=N)(y104 y105:D):∀(k i:Nat) (acc:V_) (s:Nat×Nat),i+k=mx->acc.length=i->s.1<=b.length->
  (Dn prog).code (.loop zT) ⟨[(2,.ptr 0 0),(4,.ptr 1 0),(6,.ptr 2 0),(7,.ptr 3 0),(8,.sl N 0 mx),(104,.d y104),(105,.d y105),(121,A_ mx),(122,A_ i)],⟨fQ C F I [(N,.arr 1 (gU (acc++List.replicate k false)))] (cS b s),N+1⟩⟩ =
  some (.exit 3,⟨[(2,.ptr 0 0),(4,.ptr 1 0),(6,.ptr 2 0),(7,.ptr 3 0),(8,.sl N 0 mx),(104,.d y104),(105,.d y105)],⟨fQ C F I [(N,.arr 1 (gU (acc++(lg b k s).1)))] (cS b (lg b k s).2),N+1⟩⟩):=by
 intro k
 induction k with
 |zero =>
  intro i acc s hi hl hs;have:i=mx:=o_;subst this;rw[ah Qu,lg];simp(maxSteps:=300000) (disch:=omega)[↓ac,↓aa]
 |succ k ih =>
  intro i acc s hi hl hs;have h1:=gg (aoc C F I [(N,.arr 1 (gU (acc++List.replicate (k+1) false)))]) b hb s hs 1 (N+1);have h5:=λx=>ih (i+1) (acc++[x]) (gT b s 1).2 o_ g_ (qQ hs)
  have c1:((i+1:Nat):Int)=(i:Int)+1:=rfl;have hset:∀x:Bool,(gU (acc++List.replicate (k+1) false)).set i [.bool x]=gU (acc++[x]++List.replicate k false):=λx=>by
   rw[axP,<-hl,cJ,Tx,ax];rfl
  have hget:(gU (acc++List.replicate (k+1) false))[i]?=some [.bool false]:=by
   rw[gU,bY,ca o_,hl,t9,cJ];rfl
  rw[c1]at h5;rw[lg];generalize gT b s 1=g at *;obtain⟨x,s1⟩:=g;simp only at h1 h5⊢;have h5:=h5 (decide (x=1));have hset:=hset (decide (x=1));have e:acc++decide (x=1)::(lg b k s1).1=acc++[decide (x=1)]++(lg b k s1).1:=s_;rw[e,ah Qu,<-h5];have n0:N≠0∧N≠1∧N≠2∧N≠3:=o_;simp only[fQ,cS]at h1⊢;generalize gU (acc++List.replicate (k+1) false)=Z at *;by_cases hx:x=1
  .rw[decide_eq_true hx]at hset⊢;have hx2:(x:Int)=1:=o_;simp(maxSteps:=300000) (disch:=omega)[↓ac,↓aa,h1,hget,hset,hx2,n0]
  .rw[decide_eq_false hx]at hset⊢;have hx2:¬(x:Int)=1:=o_;simp(maxSteps:=300000) (disch:=omega)[↓ac,↓aa,h1,hget,hset,hx2,n0]
end Go.Vm
end
