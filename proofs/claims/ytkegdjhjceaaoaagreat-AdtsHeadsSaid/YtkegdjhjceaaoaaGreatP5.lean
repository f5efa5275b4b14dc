import Derived.Test.YtkegdjhjceaaoaaGreatP4
set_option linter.unusedVariables false
set_option linter.unusedSimpArgs false
set_option linter.defProp false
set_option linter.unusedSectionVars false
noncomputable section
namespace Go.Vm
set_option maxRecDepth 100000
set_option maxHeartbeats 4000000
abbrev FQ (c:cJ)(os:C_)(q:Obj)(C:D_)(v:AV)(T:am):am :=
 (0,.cells c.av)::(1,.cells C)::(2,.cells [.ptr 1 0])::(3,.cells [v])::(4,.cells c.info.cells)::(5,.cells [.d (.lst (bF c.sects))])::(6,.cells [.own false 1 (cY os)])::(7,q)::T
abbrev aBJ (x0:AV):aW:=[(0,x0),(6,.ptr 0 0),(11,.ptr 2 0),(12,.ptr 3 0),(86,.fn jd [] [.ptr 5 0,.ptr 4 0,.ptr 6 0])]
abbrev Vd (x0:AV):Obj:=.loop (aBJ x0) [87] xt xN false none
def wP (c:cJ)(p:Nat×Nat):C_:=Ar p.1 ((c.lines.drop p.2).take (bI p.1))
def ad5 {id:Nat}(hid:1<=id∧id<=11){vs:G_}(hv:Pn id vs):1<=(Ar id vs).length∧(Ar id vs).length<=200:=by
 have hok:jP id:=o_;obtain⟨m1,m2,m3,m4⟩:=DP id (Ur hid);obtain⟨f1,f2⟩:=P9 hid hv;have hd4:bI id<=4:=by unfold bI;split<;>omega
 have hvl:=hv.1;have hv8:∀v∈vs,v.natAbs<=8191:=λv h=>aO (hv.2 v h) m4
 have hmany:br id=cK id ^ eI id:=rfl;unfold Ar;by_cases hs:lc id=true
 .have hin:=f1 hs;have hlt:=IS (n:=0) (j:=0) hin.2 s_;rw[bv,hin.1,<-hmany]at hlt;have:=BE hok hlt;rw[ac hs];omega
 .have hin:=f2 (by simpa using hs);have hlt:=IS (n:=0) (j:=0) hin.2 s_;rw[bv,hin.1,<-hmany]at hlt;have:=BE hok hlt;have hsl:=ajO (vs:=vs);have hel:=XK (id:=id) hv8;rw[aa hs];simp only[aj];omega
def azU {m:Nat}{xs ys:E_}(hl:xs.length+ys.length<=1000000000):∃v,(∀h,et m h (aG m xs) ys=some (v,h))∧firm v=aG m (xs++ys):=by
 obtain⟨v,h1,h2⟩:=as4 (m:=m) (h:=[]) hl;refine⟨v,λh=>?_,h2⟩
 cases xs with
 |nil =>
  cases ys with
  |nil=>injection h1 with h1;injection h1 with h1;subst h1;rfl
  |cons y r =>
   simp only[rl,anL,adE,aX]at h1⊢;split at h1
   .rename_i h9;rw[ac h9];injection h1 with h1;injection h1 with h1;subst h1;rfl
   .exact absurd h1 (by simp)
 |cons x r =>
  simp only[aek,Uw,adE,am6,amK,aX]at h1⊢;split at h1
  .rename_i h9;rw[ac h9];split at h1
   .rename_i h8;rw[ac h8];split at h1
    .rename_i h7;rw[ac h7];injection h1 with h1;injection h1 with h1;subst h1;rfl
    .exact absurd h1 (by simp)
   .exact absurd h1 (by simp)
  .exact absurd h1 (by simp)
def aGu (c:cJ)(hl:c.lines.length=256)(os:C_)(x0:AV)(hx0:share x0=x0)(p:Nat×Nat)(hp:(1<=p.1∧p.1<=11)∧p.2+bI p.1<=256∧Pn p.1 ((c.lines.drop p.2).take (bI p.1)))(C:D_)(hC:II C)(acc:C_)(hacc:acc.length<=900000000)(K:Nat)(o:Obj)(hK:8<=K)(N:Nat)(hN:K<N) :
  cy (Dn prog) (.yield 7) [.agg [A_ (p.1:Int),A_ (p.2:Int),A_ ((p.2+bI p.1:Nat):Int)]] ⟨FQ c os (Vd x0) C (aG 1 (ai acc)) [(K,o)],N⟩=some (B_ true,⟨FQ c os (Vd x0) (aI C (4*p.1) (rO p.1)) (aG 1 (ai (acc++wP c p))) [(K,o)],N+1+1⟩):=by
 obtain⟨h1,h2,h3⟩:=hp;have hH:=aue [] s_ .nl (.inr ⟨rfl,rfl⟩) p.1 h1 _ h3;have hhl:=ad5 h1 h3;rw[aK]at hH;have hsl:=λh=>aid (h:=h) (l:=c.lines) (a:=p.2) (b:=p.2+bI p.1) o_ o_ (p.2:Int) ((p.2+bI p.1:Nat):Int) rfl rfl
 simp only[gj]at hsl;have hBk:Bk (λC T=>FQ c os (.loop (aBJ x0) [87] xt xN true none) C (aG 1 (ai acc)) ([(K,o),(N,.cells [A_ (p.1:Int),A_ (p.2:Int),A_ ((p.2+bI p.1:Nat):Int)])]++T)) 1 (N+1):=by
  have hK0:K≠0∧K≠1∧K≠2:=o_;constructor
  .intro C T;simp
  .intro C T C';simp
  .intro C o;simp(disch:=omega)[↓aa]
  .intro C o o';simp(disch:=omega)[↓aa]
  .intro C o;simp(disch:=omega)[↓aa]
  .intro C o;simp(disch:=omega)[↓aa]
 have hB:=Sf hBk C hC p.1 h1;generalize aI C (4*p.1) (rO p.1)=C2 at *;have hbl:(ai (wP c p)).length=(wP c p).length:=bx;have hba:(ai acc).length=acc.length:=bx;obtain⟨wv,hw1,hw2⟩:=azU (m:=1) (xs:=ai acc) (ys:=ai (wP c p)) (by unfold wP;unfold wP at hbl;omega);have hne:ai (acc++wP c p)≠[]:=by
  intro h;have:=aT List.length h;rw[bx,aj,bg]at this;unfold wP at this;omega
 rw[ahh,md hne]at hw2;rw[md hne];have hLB:Ar p.1 ((c.lines.drop p.2).take (bI p.1))=wP c p:=rfl;rw[hLB]at hH;simp only[ov,bj]at hB hH;simp only[FQ,cJ.av,aN.cells,aQ,aK,SV,Sg]at hB⊢;generalize wP c p=LB at *;generalize (c.lines.drop p.2).take (bI p.1)=LS at *;generalize ((p.2+bI p.1:Nat):Int)=TO at *;simp(config := { maxSteps:=1000000 }) (disch:=omega)[SV,Sg,↓ac,↓aa,hx0,hsl,hH,hB,hw1,hw2]
def aCX (c:cJ)(hl:c.lines.length=256)(os:C_)(x0:AV)(hx0:share x0=x0)(TOT:C_)(hT:TOT.length<=900000000):TZ (fun(s:D_×C_) T=>FQ c os (Vd x0) s.1 (aG 1 (ai s.2)) T) noH 8 7 (λp s=>.inl (aI s.1 (4*p.1) (rO p.1),s.2++wP c p))
  (λr s=>II s.1∧s.2++r.flatMap (wP c)=TOT∧∀p∈r,(1<=p.1∧p.1<=11)∧p.2+bI p.1<=256∧Pn p.1 ((c.lines.drop p.2).take (bI p.1))):=by
 intro p r s K o N hi hK hN;obtain⟨i1,i2,i3⟩:=hi;have hp:=i3 p (.head _);have hal:s.2.length<=900000000:=by rw[<-i2,aj]at hT;omega
 refine .inl ⟨_,N+1+1,o_,rfl,⟨aef i1 hp.1,?_,λq hq=>i3 q (.tail _ hq)⟩,aGu c hl os x0 hx0 p hp s.1 i1 s.2 hal K o hK N hN⟩;rw[aE,<-aA]at i2;exact i2
def aHq {c:cJ}{os:C_}{x0:AV}:Tl (fun(s:D_×C_) T=>FQ c os (Vd x0) s.1 (aG 1 (ai s.2)) T) 8:=by
 constructor
 .intro s K o h;simp(disch:=omega)[↓aa]
 .intro s K o o' h;simp(disch:=omega)[↓aa]
 .intro s K o h;simp(disch:=omega)[↓aa]
 .intro s K o h;simp(disch:=omega)[↓aa]
def oh (r:Nat)(c:cJ):C_:=(qw (offs r c.info.short) c.sects c.info.groups 0).flatMap (wP c)
abbrev v7:D_:=[A_ 0,A_ 0,.nl,.nl,A_ 0,A_ 0,.nl,.nl,A_ 0,A_ 0,.nl,.nl,A_ 0,A_ 0,.nl,.nl,A_ 0,A_ 0,.nl,.nl,A_ 0,A_ 0,.nl,.nl,A_ 0,A_ 0,.nl,.nl,A_ 0,A_ 0,.nl,.nl,A_ 0,A_ 0,.nl,.nl,A_ 0,A_ 0,.nl,.nl,A_ 0,A_ 0,.nl,.nl,A_ 0,A_ 0,.nl,.nl]
def aik:II v7:=by
 refine⟨rfl,λid hid=>.inl ?_⟩;obtain rfl|rfl|rfl|rfl|rfl|rfl|rfl|rfl|rfl|rfl|rfl|rfl:id=0∨id=1∨id=2∨id=3∨id=4∨id=5∨id=6∨id=7∨id=8∨id=9∨id=10∨id=11:=o_
 all_goals rfl
def atQ (r:Nat)(hr:r<=11)(c:cJ)(hc:c.Fit)(h:nB r c)(x0:AV)(hx0:share x0=x0)(hlen:(oh r c).length<=900000000):∃C2 M,(Dn prog).call jd [.yield 7,.ptr 5 0,.ptr 4 0,.ptr 6 0] ⟨FQ c (offs r c.info.short) (Vd x0) v7 .nl [],8⟩=some (.tup [],⟨FQ c (offs r c.info.short) (Vd x0) C2 (aG 1 (ai (oh r c))) [],M⟩):=by
 obtain⟨o1,o2,o3,o4⟩:=Cl (r,c.info.short) (fI o_);obtain⟨p1,p2,p3⟩:=oQ (r,c.info.short) (fI o_);simp only at o1 o2 o3 o4 p1 p2 p3;have hmx:=h.info.2.2.2.1;have hmy:sm r (decide (c.info.seq=2))=(offs r c.info.short).length-1:=rfl;have hhi:∀x∈offs r c.info.short,x<=256:=λx hx=>by
  have:=bH.1 p3 x hx;simp only[decide_eq_true_eq]at this;have:(cond c.info.short 32 256:Nat)<=256:=by cases c.info.short<;>decide
  omega
 have hpl:=ajV (P:=⟨7,4,6,c.sects,offs r c.info.short⟩) c.info hc.info (gC hr h.info) 5 (aHq (c:=c) (os:=offs r c.info.short) (x0:=x0)) ao6 (aCX c h.lines.1 (offs r c.info.short) x0 hx0 (oh r c) hlen) (λs=>by simp) (λs T=>by simp) (λs T=>by simp) t_ hhi t_ h.sects 8 (al _) (v7,[]) ⟨aik,by simp only[oh,aK],λp hp=>Sy hc h hr hp⟩;rcases hpl with ⟨s2,M,hM,e1,⟨e2,e3,e4⟩,e5⟩|⟨z,_⟩
 .rw[gw,bj]at e3;rw[e3]at e5;exact⟨s2.1,M,e5⟩
 .exact nomatch z
def KF {α:Type}{f:α->C_}{k:Nat}:∀{l:List α},(∀x∈l,(f x).length<=k)->(l.flatMap f).length<=k*l.length
 |[],_=>by simp
 |x::r,h=>by
  have a:=h x (.head _);have b:=KF (l:=r) λy hy=>h y (.tail _ hy)
  rw[aE,aj,aq,Nat.mul_add];omega
def anA {d hi:Nat}:∀{f x:Nat},(tN d hi f x).length<=f
 |0,_=>by simp[tN]
 |f+1,x=>by
  rw[tN];split
  .have:=anA (d:=d) (hi:=hi) (f:=f) (x:=x+d);simp only[aq];omega
  .simp
def amC {os:C_}{d b:Nat}:∀{k w:Nat},(rI os d b k w).length<=300*k
 |0,_=>by simp[rI]
 |k+1,w=>by
  have a:=anA (d:=d) (hi:=nth os (b+1)) (f:=300) (x:=nth os b);have b:=amC (os:=os) (d:=d) (b:=b) (k:=k) (w:=w+1);rw[rI,aj,ig];omega
def amS {os:C_}{d n first:Nat}(hn:n<=8):∀{k b:Nat},(Ah os d n first k b).length<=2400*k
 |0,_=>by simp[Ah]
 |k+1,b=>by
  have a:=amC (os:=os) (d:=d) (b:=b) (k:=n) (w:=first);have c:=amS (os:=os) (d:=d) (first:=first) hn (k:=k) (b:=b+1);rw[Ah,aj];omega
def amQ {os:C_}{n first:Nat}(hn:n<=8):∀{r:P_}{b:Nat}{lf:Int},fitsS lf r->0<=lf->(Cb os n first r b).length<=2400*lf.toNat
 |[],b,lf,h,h0=>by simp[Cb]
 |s::r,b,lf,h,h0=>by
  obtain⟨⟨⟨l1,l2⟩,_⟩,h2⟩:=h;have a:=amS (os:=os) (d:=bI s.book.toNat) (first:=first) hn (k:=s.len.toNat) (b:=b);have c:=amQ (os:=os) (first:=first) hn (b:=b+s.len.toNat) h2 o_;rw[Cb,aj];split
  .simp only[bg];omega
  .rw[ig];omega
def ano {os:C_}{m:Int}(hm:0<=m∧m<=40):∀{r:H_}{q:G_}{first:Nat},fJ m r->(∀n∈q,n<=8)->(qw os r q first).length<=100000*q.length
 |[],q,first,_,_=>by simp[qw]
 |l::r,[],first,_,_=>by simp[qw]
 |l::r,n::q,first,hf,hn=>by
  have h1:=hn n (.head _);have a:=amQ (os:=os) (n:=n.toNat) (first:=first) o_ (b:=0) (hf l (.head _)) hm.1;have c:=ano (os:=os) hm (r:=r) (q:=q) (first:=first+n.toNat) (λx hx=>hf x (.tail _ hx)) (λx hx=>hn x (.tail _ hx));rw[qw,aj,aq];omega
def aaT {r:Nat}{c:cJ}(hc:c.Fit)(h:nB r c)(hr:r<=11):(oh r c).length<=160000000:=by
 have hm11:=gC hr h.info;obtain⟨g1,g2⟩:=dV hm11;have hmm:c.info.many<=8:=by unfold aN.many;split<;>omega
 have hgl:c.info.groups.length<=8:=by have:=nu (λn hn=>(g1 n hn).1);omega
 have a:=ano (os:=offs r c.info.short) (jY hm11) (first:=0) h.sects.2 λn hn=>(g1 n hn).2
 have b:=KF (f:=wP c) (k:=200) (l:=qw (offs r c.info.short) c.sects c.info.groups 0) λp hp=>by
  obtain⟨h1,h2,h3⟩:=Sy hc h hr hp;exact(ad5 h1 h3).2
 unfold oh;omega
def TW:∀{g:H_}{t:J_}{w z:Int}{m:Int},0<=m∧m<=40->fJ m g->mZ g t w z≠none->(oz g t w z).length<=800*g.length
 |[],[],_,_,_,_,_,_=>by simp[oz]
 |[],_::_,_,_,_,_,_,h=>absurd rfl h
 |_::_,[],_,_,_,_,_,h=>absurd rfl h
 |l::r,t::s,w,z,m,hm,hf,h=>by
  rw[mZ]at h
  cases hr:dW (aM l) t w z with
  |none=>rw[hr]at h;exact absurd rfl h
  |some fin =>
   rw[hr]at h;have a:=YB (bks:=aM l) (t:=t) (w:=w) (z:=z) (by rw[hr];simp);have b:=tW (hf l (.head _)) hm.1;have c:=TW (g:=r) (t:=s) (w:=fin.1) (z:=fin.2) hm (λx hx=>hf x (.tail _ hx)) h;rw[oz,hr,aj,aq];simp only;omega
def Lv {i:aN}:(lE i).length<=20:=by
 unfold lE;split<;>simp[ab5]
def adZ {i:aN}{g:H_}(hm:i.may 11)(hg:ke i g):(O9 i g).length<=600000*g.length:=by
 have hsz:1<=i.fsz∧i.fsz<=5:=by unfold aN.fsz;split<;>omega
 have hmx:=jY hm;refine KF λl hl=>?_
 have hf:=hg.2 l hl;have a:=SJ hsz (uv hf o_);have b:l.length<=100:=by
  rcases Kp hf with h|h
  .omega
  .subst h;simp
 omega
def DK (r:Nat)(c:cJ)(common:Bool):C_ :=
 ar c.gain.toNat 8++((if common then [] else lE c.info)++(O9 c.info c.sects++(oz c.sects c.steps c.gain (-1)++((if pb c.tns then 0::1::(jF c.info.short c.tns++[0]) else [0,0,0])++oh r c))))
def axd (b:C_)(hb:b.length<=300000000)(x:AV)(hx:x=.d (.lst (ai b))∨x=.nl∧b=[])(rt:Int)(c:cJ)(hc:c.Fit)(common:Bool) :
  (dY rt∧nB rt.toNat c∧bh prog GL [x,A_ rt,.agg c.av,B_ common]=some (.tup [.own true 1 (ai (b++DK rt.toNat c common)),A_ 0]))∨
  (∃e:Int,e≠0∧bh prog jE [A_ rt,.agg c.av]=some (A_ e)∧(dY rt->¬nB rt.toNat c)∧bh prog GL [x,A_ rt,.agg c.av,B_ common]=some (.tup [.nl,A_ e])):=by
 have bad:∀e:Int,e≠0->bh prog jE [A_ rt,.agg c.av]=some (A_ e)->bh prog GL [x,A_ rt,.agg c.av,B_ common]=some (.tup [.nl,A_ e]):=by
  intro e he hC;simp only[cJ.av]at hC⊢;rw[aD aen aeM rfl];rcases hx with rfl|⟨rfl,rfl⟩
  all_goals simp(maxSteps:=300000) (disch:=omega)[↓ac,↓aa,hC,he]
 rcases PB rt c hc with ⟨hr,h,hC⟩|⟨hr,h,hC⟩|⟨hr,hC⟩
 .refine .inl ⟨hr,h,?_⟩;obtain⟨R,rfl⟩:=aB hr.1;simp only[au]at h⊢;have hR:R<=11:=o_;have hm11:=gC hR h.info;have hmx:=jY hm11;obtain⟨g1,g2⟩:=dV hm11;have hmm:c.info.many<=8:=by unfold aN.many;split<;>omega
  have hgl:c.info.groups.length<=8:=by have:=nu (λn hn=>(g1 n hn).1);omega
  have hgs:c.sects.length<=8:=by have:=h.sects.1;omega
  have k1:=Lv (i:=c.info);have k2:=adZ hm11 h.sects;have k3:=TW hmx h.sects.2 h.steps;have k4:(jF c.info.short c.tns).length<=1000*c.tns.length:=KF λl hl=>adB (h.tns.2 l hl)
  have k5:=aaT hc h hR;have htl:=h.tns.1;have hx8:(8:Int).toNat=8:=rfl;have p1:=me b c.gain 8 o_ (by have:=h.gain;omega) x hx;rw[ac (by have:=h.gain;simp only[ou,hx8];omega),hx8]at p1;obtain⟨B1,hB1⟩:∃B1,B1=b++ar c.gain.toNat 8:=⟨_,rfl⟩
  have l1:B1.length=b.length+8:=by rw[hB1];simp
  rw[<-hB1]at p1;have p2:=agY B1 o_ _ (.inl rfl) R c.info hc.info;rw[ac hr,au,ac h.info]at p2;obtain⟨B2,hB2⟩:∃B2,B2=B1++(if common then [] else lE c.info):=⟨_,rfl⟩
  have l2:B2.length<=b.length+28:=by rw[hB2,aj];split<;>(try simp only[bg])<;>omega
  have p3:=at1 B2 o_ _ (.inl rfl) c.info hc.info hm11 c.sects hc.sects h.sects;obtain⟨B3,hB3⟩:∃B3,B3=B2++O9 c.info c.sects:=⟨_,rfl⟩
  have l3:B3.length<=b.length+5000000:=by rw[hB3,aj];omega
  rw[<-hB3]at p3;have p4:=ar8 B3 o_ _ (.inl rfl) c.gain c.info.max c.sects c.steps h.gain hgs hmx h.sects.2 hc.sects.2 h.steps λl hl=>by have:=hc.steps.2 l hl;omega
  obtain⟨B4,hB4⟩:∃B4,B4=B3++oz c.sects c.steps c.gain (-1):=⟨_,rfl⟩
  have l4:B4.length<=b.length+6000000:=by rw[hB4,aj];omega
  rw[<-hB4]at p4;have p5:=So c.tns o_ λl hl=>by have:=(hc.tns.2 l hl).1;omega
  have p6:=akn (B4++[0,1]) g_ _ (.inl rfl) c.info hc.info hm11 c.tns h.tns λl hl f hf=>(hc.fltI l hl f hf).2
  obtain⟨B5,hB5⟩:∃B5,B5=B4++(if pb c.tns then 0::1::(jF c.info.short c.tns++[0]) else [0,0,0]):=⟨_,rfl⟩
  have l5:B5.length<=b.length+7000000:=by rw[hB5,aj];split<;>simp<;>omega
  have hfin:b++DK R c common=B5++oh R c:=by rw[hB5,hB4,hB3,hB2,hB1];simp only[DK,aA]
  obtain⟨C2,M,p7⟩:=atQ R hR c hc h (.d (.lst (ai B5))) rfl o_;have p8:=QN R hR c.info (.lst (bF c.sects)) [(0,.cells c.av),(1,.cells v7),(2,.cells [.ptr 1 0]),(3,.cells [.nl])] 4 (λp hp=>by
   simp only[ay,co,d8]at hp;rcases hp with rfl|rfl|rfl|rfl<;>simp only[]<;>omega)
  rw[hfin];have hbl:(ai (oh R c)).length=(oh R c).length:=bx;have hb5:(ai B5).length=B5.length:=bx;have hb4:(ai B4).length=B4.length:=bx;have hb01:ai B4++[[D.int .u8 0],[D.int .u8 1]]=ai (B4++[0,1]):=by simp[ai]
  have hb000:ai B4++[[D.int .u8 0],[D.int .u8 0],[D.int .u8 0]]=ai (B4++[0,0,0]):=by simp[ai]
  have hb6:ai (B4++[0,1]++jF c.info.short c.tns)++[[D.int .u8 0]]=ai (B4++[0,1]++jF c.info.short c.tns++[0]):=by simp[ai]
  have hl6n:(B4++[0,1]++jF c.info.short c.tns).length<=400000000:=by simp;omega
  have hl6:(ai (B4++[0,1]++jF c.info.short c.tns)).length<=400000000:=by rw[bx];simp;omega
  simp only[FQ,cJ.av,aN.cells,aQ,aK]at hC p2 p3 p4 p6 p7 p8⊢;rw[aD aen aeM rfl]
  cases hcm:common with
  |true =>
   rw[hcm]at hB2;simp only[bi,bj]at hB2;subst hB2
   cases haf:pb c.tns with
   |true =>
    rw[haf]at hB5 p5;simp only[bi]at hB5;have e5:B4++[0,1]++jF c.info.short c.tns++[0]=B5:=by rw[hB5];simp
    rw[e5]at hb6;generalize oh R c=LL at *;generalize B4++[0,1]++jF c.info.short c.tns=B6 at *;generalize B4++[0,1]=B7 at *;rcases hx with rfl|⟨rfl,rfl⟩
    .simp(config := { maxSteps:=1000000 }) (disch:=omega)[↓ac,↓aa,rd,hC,p1,p3,p4,p5,p6,hb01,hb6,hb000,p8,p7]
     try omega
    .simp(config := { maxSteps:=1000000 }) (disch:=omega)[↓ac,↓aa,rd,hC,p1,p3,p4,p5,p6,hb01,hb6,hb000,p8,p7]
     try omega
   |false =>
    rw[haf]at hB5 p5;simp only[ao,bl]at hB5;rw[<-hB5]at hb000;generalize oh R c=LL at *;generalize B4++[0,1]++jF c.info.short c.tns=B6 at *;generalize B4++[0,1]=B7 at *;rcases hx with rfl|⟨rfl,rfl⟩
    .simp(config := { maxSteps:=1000000 }) (disch:=omega)[↓ac,↓aa,rd,hC,p1,p3,p4,p5,p6,hb01,hb6,hb000,p8,p7]
     try omega
    .simp(config := { maxSteps:=1000000 }) (disch:=omega)[↓ac,↓aa,rd,hC,p1,p3,p4,p5,p6,hb01,hb6,hb000,p8,p7]
     try omega
  |false =>
   rw[hcm]at hB2;simp only[ao,bl]at hB2;rw[<-hB2]at p2
   cases haf:pb c.tns with
   |true =>
    rw[haf]at hB5 p5;simp only[bi]at hB5;have e5:B4++[0,1]++jF c.info.short c.tns++[0]=B5:=by rw[hB5];simp
    rw[e5]at hb6;generalize oh R c=LL at *;generalize B4++[0,1]++jF c.info.short c.tns=B6 at *;generalize B4++[0,1]=B7 at *;rcases hx with rfl|⟨rfl,rfl⟩
    .simp(config := { maxSteps:=1000000 }) (disch:=omega)[↓ac,↓aa,rd,hC,p1,p2,p3,p4,p5,p6,hb01,hb6,hb000,p8,p7]
     try omega
    .simp(config := { maxSteps:=1000000 }) (disch:=omega)[↓ac,↓aa,rd,hC,p1,p2,p3,p4,p5,p6,hb01,hb6,hb000,p8,p7]
     try omega
   |false =>
    rw[haf]at hB5 p5;simp only[ao,bl]at hB5;rw[<-hB5]at hb000;generalize oh R c=LL at *;generalize B4++[0,1]++jF c.info.short c.tns=B6 at *;generalize B4++[0,1]=B7 at *;rcases hx with rfl|⟨rfl,rfl⟩
    .simp(config := { maxSteps:=1000000 }) (disch:=omega)[↓ac,↓aa,rd,hC,p1,p2,p3,p4,p5,p6,hb01,hb6,hb000,p8,p7]
     try omega
    .simp(config := { maxSteps:=1000000 }) (disch:=omega)[↓ac,↓aa,rd,hC,p1,p2,p3,p4,p5,p6,hb01,hb6,hb000,p8,p7]
     try omega
 .exact .inr ⟨8,o_,hC,λ_=>h,bad 8 o_ hC⟩
 .exact .inr ⟨2,o_,hC,λh=>absurd h hr,bad 2 o_ hC⟩
abbrev gb:=@List.tail_drop
structure agR (c:cJ):Prop where
 groups:c.info.groups.length<=40
 sects:c.sects.length<=40∧∀l∈c.sects,l.length<=100
 steps:c.steps.length<=40∧∀l∈c.steps,l.length<=200
 tns:c.tns.length<=40∧∀l∈c.tns,l.length<=20∧∀f∈l,f.coefs.length<=100
 lines:c.lines.length<=2000
def at3 (c:cJ)(hl:c.sects.length<=40):∀(r:H_) (i:Nat),c.sects.drop i=r->
  ((∀l∈r,l.length<=100)∧(Dn prog).code (.loop iS) ⟨[(1,.ptr 0 0),(3,A_ i)],⟨[(0,.cells c.av)],1⟩⟩=some (.exit 0,⟨[(1,.ptr 0 0)],⟨[(0,.cells c.av)],1⟩⟩))∨
  (Dn prog).code (.loop iS) ⟨[(1,.ptr 0 0),(3,A_ i)],⟨[(0,.cells c.av)],1⟩⟩=some (.ret,⟨[(2,B_ true)],⟨[],1⟩⟩):=by
 intro r
 induction r with
 |nil =>
  intro i hd;have hi:=aY hd;refine .inl ⟨s_,?_⟩;rw[ah kL];simp(maxSteps:=300000) (disch:=omega)[↓aa]
 |cons l r ih =>
  intro i hd;have hg:=lj hd;have hlt:=bw hd;have hd1:c.sects.drop (i+1)=r:=by rw[<-gb,hd];rfl
  have ih1:=ih (i+1) hd1;rw[show((i+1:Nat):Int)=(i:Int)+1 from rfl]at ih1;by_cases hn:l.length<=100
  .rcases ih1 with ⟨ha,e⟩|e
   .refine .inl ⟨λq hq=>?_,?_⟩
    .rcases ay.1 hq with rfl|hq
     .exact hn
     .exact ha q hq
    .rw[ah kL];simp(maxSteps:=300000) (disch:=omega)[↓ac,↓aa,hg,e]
   .refine .inr ?_;rw[ah kL];simp(maxSteps:=300000) (disch:=omega)[↓ac,↓aa,hg,e]
  .refine .inr ?_;rw[ah kL];simp(maxSteps:=300000) (disch:=omega)[↓ac,↓aa,hg]
def avD (c:cJ)(hl:c.steps.length<=40):∀(r:J_) (i:Nat),c.steps.drop i=r->
  ((∀l∈r,l.length<=200)∧(Dn prog).code (.loop iL) ⟨[(1,.ptr 0 0),(4,A_ i)],⟨[(0,.cells c.av)],1⟩⟩=some (.exit 2,⟨[(1,.ptr 0 0)],⟨[(0,.cells c.av)],1⟩⟩))∨
  (Dn prog).code (.loop iL) ⟨[(1,.ptr 0 0),(4,A_ i)],⟨[(0,.cells c.av)],1⟩⟩=some (.ret,⟨[(2,B_ true)],⟨[],1⟩⟩):=by
 intro r
 induction r with
 |nil =>
  intro i hd;have hi:=aY hd;refine .inl ⟨s_,?_⟩;rw[ah kO];simp(maxSteps:=300000) (disch:=omega)[↓aa]
 |cons l r ih =>
  intro i hd;have hg:=Gq hd;have hlt:=bw hd;have hd1:c.steps.drop (i+1)=r:=by rw[<-gb,hd];rfl
  have ih1:=ih (i+1) hd1;rw[show((i+1:Nat):Int)=(i:Int)+1 from rfl]at ih1;by_cases hn:l.length<=200
  .rcases ih1 with ⟨ha,e⟩|e
   .refine .inl ⟨λq hq=>?_,?_⟩
    .rcases ay.1 hq with rfl|hq
     .exact hn
     .exact ha q hq
    .rw[ah kO];simp(maxSteps:=300000) (disch:=omega)[↓ac,↓aa,hg,e]
   .refine .inr ?_;rw[ah kO];simp(maxSteps:=300000) (disch:=omega)[↓ac,↓aa,hg,e]
  .refine .inr ?_;rw[ah kO];simp(maxSteps:=300000) (disch:=omega)[↓ac,↓aa,hg]
def atk (c:cJ)(w:Nat)(full:AA_)(q:N_)(hw:c.tns.drop w=full::q)(hl:full.length<=20):∀(r:AA_) (i:Nat),full.drop i=r->
  ((∀f∈r,f.coefs.length<=100)∧(Dn prog).code (.loop iN) ⟨[(1,.ptr 0 0),(5,A_ w),(6,A_ i)],⟨[(0,.cells c.av)],1⟩⟩=some (.exit 6,⟨[(1,.ptr 0 0),(5,A_ w)],⟨[(0,.cells c.av)],1⟩⟩))∨
  (Dn prog).code (.loop iN) ⟨[(1,.ptr 0 0),(5,A_ w),(6,A_ i)],⟨[(0,.cells c.av)],1⟩⟩=some (.ret,⟨[(2,B_ true)],⟨[],1⟩⟩):=by
 have hg1:=tT hw;have hw1:=bw hw;intro r
 induction r with
 |nil =>
  intro i hd;have hi:=aY hd;refine .inl ⟨s_,?_⟩;rw[ah kx];simp(maxSteps:=300000) (disch:=omega)[↓aa,↓ac,hg1]
 |cons l r ih =>
  intro i hd;have hg:=Bb hd;have hlt:=bw hd;have hd1:full.drop (i+1)=r:=by rw[<-gb,hd];rfl
  have ih1:=ih (i+1) hd1;rw[show((i+1:Nat):Int)=(i:Int)+1 from rfl]at ih1;by_cases hn:l.coefs.length<=100
  .rcases ih1 with ⟨ha,e⟩|e
   .refine .inl ⟨λq hq=>?_,?_⟩
    .rcases ay.1 hq with rfl|hq
     .exact hn
     .exact ha q hq
    .rw[ah kx];simp(maxSteps:=300000) (disch:=omega)[↓ac,↓aa,hg,hg1,e]
   .refine .inr ?_;rw[ah kx];simp(maxSteps:=300000) (disch:=omega)[↓ac,↓aa,hg,hg1,e]
  .refine .inr ?_;rw[ah kx];simp(maxSteps:=300000) (disch:=omega)[↓ac,↓aa,hg,hg1]
def auU (c:cJ)(hl:c.tns.length<=40):∀(r:N_) (i:Nat),c.tns.drop i=r->
  ((∀l∈r,l.length<=20∧∀f∈l,f.coefs.length<=100)∧(Dn prog).code (.loop iU) ⟨[(1,.ptr 0 0),(5,A_ i)],⟨[(0,.cells c.av)],1⟩⟩=some (.exit 4,⟨[],⟨[],1⟩⟩))∨
  (Dn prog).code (.loop iU) ⟨[(1,.ptr 0 0),(5,A_ i)],⟨[(0,.cells c.av)],1⟩⟩=some (.ret,⟨[(2,B_ true)],⟨[],1⟩⟩):=by
 intro r
 induction r with
 |nil =>
  intro i hd;have hi:=aY hd;refine .inl ⟨s_,?_⟩;rw[ah iM];simp(maxSteps:=300000) (disch:=omega)[↓aa]
 |cons l r ih =>
  intro i hd;have hg:=tT hd;have hlt:=bw hd;have hd1:c.tns.drop (i+1)=r:=by rw[<-gb,hd];rfl
  have ih1:=ih (i+1) hd1;rw[show((i+1:Nat):Int)=(i:Int)+1 from rfl]at ih1;by_cases hn:l.length<=20
  .rcases atk c i l r hd hn l 0 rfl with ⟨h2,e2⟩|e2
   .rw[show((0:Nat):Int)=0 from rfl]at e2;rcases ih1 with ⟨ha,e⟩|e
    .refine .inl ⟨λq hq=>?_,?_⟩
     .rcases ay.1 hq with rfl|hq
      .exact⟨hn,h2⟩
      .exact ha q hq
     .rw[ah iM];simp(maxSteps:=300000) (disch:=omega)[↓ac,↓aa,hg,e2,e]
    .refine .inr ?_;rw[ah iM];simp(maxSteps:=300000) (disch:=omega)[↓ac,↓aa,hg,e2,e]
   .refine .inr ?_;rw[show((0:Nat):Int)=0 from rfl]at e2;rw[ah iM];simp(maxSteps:=300000) (disch:=omega)[↓ac,↓aa,hg,e2]
  .refine .inr ?_;rw[ah iM];simp(maxSteps:=300000) (disch:=omega)[↓ac,↓aa,hg]
def aDK (c:cJ):(agR c∧bh prog te [.agg c.av]=some (B_ false))∨bh prog te [.agg c.av]=some (B_ true):=by
 by_cases h1:c.info.groups.length<=40
 rotate_left
 .refine .inr ?_;rw[aD eh ep rfl];simp(maxSteps:=300000) (disch:=omega)[↓ac,↓aa]
 by_cases h2:c.sects.length<=40
 rotate_left
 .refine .inr ?_;rw[aD eh ep rfl];simp(maxSteps:=300000) (disch:=omega)[↓ac,↓aa]
 by_cases h3:c.steps.length<=40
 rotate_left
 .refine .inr ?_;rw[aD eh ep rfl];simp(maxSteps:=300000) (disch:=omega)[↓ac,↓aa]
 by_cases h4:c.tns.length<=40
 rotate_left
 .refine .inr ?_;rw[aD eh ep rfl];simp(maxSteps:=300000) (disch:=omega)[↓ac,↓aa]
 by_cases h5:c.lines.length<=2000
 rotate_left
 .refine .inr ?_;rw[aD eh ep rfl];simp(maxSteps:=300000) (disch:=omega)[↓ac,↓aa]
 rcases at3 c h2 _ 0 rfl with ⟨a0,e0⟩|e0
 rotate_left
 .refine .inr ?_;rw[show((0:Nat):Int)=0 from rfl]at e0;rw[aD eh ep rfl];simp(maxSteps:=300000) (disch:=omega)[↓ac,↓aa,e0]
 rcases avD c h3 _ 0 rfl with ⟨a1,e1⟩|e1
 rotate_left
 .refine .inr ?_;rw[show((0:Nat):Int)=0 from rfl]at e0 e1;rw[aD eh ep rfl];simp(maxSteps:=300000) (disch:=omega)[↓ac,↓aa,e0,e1]
 rcases auU c h4 _ 0 rfl with ⟨a3,e3⟩|e3
 rotate_left
 .refine .inr ?_;rw[show((0:Nat):Int)=0 from rfl]at e0 e1 e3;rw[aD eh ep rfl];simp(maxSteps:=300000) (disch:=omega)[↓ac,↓aa,e0,e1,e3]
 refine .inl ⟨⟨h1,⟨h2,a0⟩,⟨h3,a1⟩,⟨h4,a3⟩,h5⟩,?_⟩;rw[show((0:Nat):Int)=0 from rfl]at e0 e1 e3;rw[aD eh ep rfl];simp(maxSteps:=300000) (disch:=omega)[↓ac,↓aa,e0,e1,e3]
abbrev tv (book:Int):Int:=if book=13 then 511 else 255
def ll (b:C_)(a book was:Int):R Int :=
 if was<0 then (bf b a 9).bind λv n=>.ok (v:Int) n
 else (Jc b a).bind λd n=>if was+d<0∨tv book<was+d then .er 7 else .ok (was+d) n
abbrev aFQ (b:C_)(book:Int)(v:Int)(n:Nat):Prop:=(0<=v∧v<=511)∧n<=b.length
def ads {b:C_}{a:Int}{d:Int}{n:Nat}(h:Jc b a=.ok d n):pSt b d n:=by
 rw[Jc]at h
 cases h1:AN 12 b a with
 |er e=>rw[h1]at h;exact absurd h (by simp)
 |ok e m =>
  rw[h1,az]at h;obtain⟨k1,k2⟩:=Vn o_ h1;have h2:e<121:=k1;injection h with g1 g2
  subst g1 g2;exact⟨o_,k2⟩
def aar {b:C_}{a book was:Int}{v:Int}{n:Nat}(h:ll b a book was=.ok v n):aFQ b book v n:=by
 rw[ll]at h;split at h
 .cases h1:bf b a 9 with
  |er e=>rw[h1]at h;exact absurd h (by simp)
  |ok v0 m =>
   rw[h1,az]at h;have hp:=eD h1;have h2:v0<512:=hp.1;have h3:=hp.2;injection h with g1 g2
   subst g1 g2;exact⟨o_,h3⟩
 .cases h1:Jc b a with
  |er e=>rw[h1]at h;exact absurd h (by simp)
  |ok d m =>
   rw[h1,az]at h;have hp:=ads h1;split at h
   .exact absurd h (by simp)
   .rename_i hn;injection h with g1 g2
    subst g1 g2;refine⟨?_,hp.2⟩;simp only[tv]at hn;split at hn<;>omega
def oW (b:C_):G_->Int->Int->Int->R (G_×Int×Int)
 |[],a,w,z=>.ok ([],w,z) a.toNat
 |k::r,a,w,z=>if k=13 then (ll b a 13 z).bind λv n=>(oW b r n w v).bind λq n=>.ok (v::q.1,q.2) n
  else if 0<k then (ll b a k w).bind λv n=>(oW b r n v z).bind λq n=>.ok (v::q.1,q.2) n
  else (oW b r a w z).bind λq n=>.ok (0::q.1,q.2) n
abbrev inW (w:Int):Prop:=-1<=w∧w<=511
abbrev aFY (b:C_)(r:G_)(q:G_×Int×Int)(n:Nat):Prop:=q.1.length=r.length∧(inW q.2.1∧inW q.2.2)∧n<=b.length
def S2 {b:C_}:∀{r:G_}{a:Nat}{w z:Int}{q:G_×Int×Int}{n:Nat},a<=b.length->inW w->inW z->oW b r a w z=.ok q n->aFY b r q n
 |[],a,w,z,q,n,ha,hw,hz,h=>by
  rw[oW]at h;injection h with g1 g2
  subst g1 g2;exact⟨rfl,⟨hw,hz⟩,by simpa using ha⟩
 |k::r,a,w,z,q,n,ha,hw,hz,h=>by
  rw[oW]at h;split at h
  .cases h1:ll b a 13 z with
   |er e=>rw[h1]at h;exact absurd h (by simp)
   |ok v m =>
    rw[h1,az]at h;have hp:=aar h1
    cases h2:oW b r m w v with
    |er e=>rw[h2]at h;exact absurd h (by simp)
    |ok q1 m1 =>
     rw[h2,az]at h;have hq:=S2 hp.2 hw ⟨by have:=hp.1.1;omega,hp.1.2⟩ h2;injection h with g1 g2
     subst g1 g2;exact⟨by simp[hq.1],hq.2⟩
  .split at h
   .cases h1:ll b a k w with
    |er e=>rw[h1]at h;exact absurd h (by simp)
    |ok v m =>
     rw[h1,az]at h;have hp:=aar h1
     cases h2:oW b r m v z with
     |er e=>rw[h2]at h;exact absurd h (by simp)
     |ok q1 m1 =>
      rw[h2,az]at h;have hq:=S2 hp.2 ⟨by have:=hp.1.1;omega,hp.1.2⟩ hz h2;injection h with g1 g2
      subst g1 g2;exact⟨by simp[hq.1],hq.2⟩
   .cases h2:oW b r a w z with
    |er e=>rw[h2]at h;exact absurd h (by simp)
    |ok q1 m1 =>
     rw[h2,az]at h;have hq:=S2 ha hw hz h2;injection h with g1 g2
     subst g1 g2;exact⟨by simp[hq.1],hq.2⟩
def oc (b:C_):H_->Int->Int->Int->R J_
 |[],a,_,_=>.ok [] a.toNat
 |l::r,a,w,z=>(oW b (aM l) a w z).bind λq n=>(oc b r n q.2.1 q.2.2).bind λt n=>.ok (q.1::t) n
abbrev pSc (b:C_)(g:H_)(t:J_)(n:Nat):Prop:=t.map List.length=g.map (λl=>(aM l).length)∧n<=b.length
def Yr {b:C_}:∀{g:H_}{a:Nat}{w z:Int}{t:J_}{n:Nat},a<=b.length->inW w->inW z->oc b g a w z=.ok t n->pSc b g t n
 |[],a,w,z,t,n,ha,hw,hz,h=>by
  rw[oc]at h;injection h with g1 g2
  subst g1 g2;exact⟨rfl,by simpa using ha⟩
 |l::r,a,w,z,t,n,ha,hw,hz,h=>by
  rw[oc]at h
  cases h1:oW b (aM l) a w z with
  |er e=>rw[h1]at h;exact absurd h (by simp)
  |ok q m =>
   rw[h1,az]at h;have hp:=S2 ha hw hz h1
   cases h2:oc b r m q.2.1 q.2.2 with
   |er e=>rw[h2]at h;exact absurd h (by simp)
   |ok t1 m1 =>
    rw[h2,az]at h;have hq:=Yr hp.2.2 hp.2.1.1 hp.2.1.2 h2;injection h with g1 g2
    subst g1 g2;exact⟨by simp only[bY,hq.1,hp.1],hq.2⟩
def aty {t:J_}{l:G_}:cZ (t++[l])=cZ t++[[.lst (aH l)]]:=by simp[cZ]
def anY {l:P_}(hl:l.length<=1000)(hs:∀s∈l,0<=s.len∧s.len<=1000):(aM l).length<=1000*l.length:=by
 induction l with
 |nil=>simp[aM]
 |cons s r ih =>
  have h1:=hs s (.head _);have h2:=ih (by simp at hl;omega) λq hq=>hs q (.tail _ hq)
  simp only[aM,aE,aj,bm,aq]at h2⊢;omega
abbrev agQ (l:P_):Prop:=l.length<=1000∧∀s∈l,0<=s.len∧s.len<=1000
def zZ (b:C_)(g:H_)(a gain:Int):R J_:=if 0<=a∧a<=b.length then oc b g a gain (-1) else .er 1
structure SG where
 row:G_
 nx:Nat
 w:Int
 z:Int
def DG {A0 A1 A2 A3:Obj}{R:am}(book n s z:Int)(N:Nat)(hn:-100000<=n∧n<=100000)(hs:-100000<=s∧s<=100000)(hz:-100000<=z∧z<=100000) :
  (Dn prog).call qy [.ptr 4 0,A_ book,A_ n] ⟨(0,A0)::(1,A1)::(2,A2)::(3,A3)::(4,.cells [A_ s,A_ z])::R,N⟩ =
   if mt book n s z then some (B_ true,⟨if book=13 then (0,A0)::(1,A1)::(2,A2)::(3,A3)::(4,.cells [A_ s,A_ n])::R else (0,A0)::(1,A1)::(2,A2)::(3,A3)::(4,.cells [A_ n,A_ z])::R,N⟩) else some (B_ false,⟨(0,A0)::(1,A1)::(2,A2)::(3,A3)::(4,.cells [A_ s,A_ z])::R,N⟩) :=
 Qp (hp:=λs z=>(0,A0)::(1,A1)::(2,A2)::(3,A3)::(4,.cells [A_ s,A_ z])::R) (A:=4) ⟨λs z=>by simp,λs z s' z'=>by simp⟩ book n s z N hn hs hz
section
variable (b:C_)(full:H_)(ss:J_)(l:P_)(i N:Nat)
abbrev agO:aW:=[(4,.ptr 0 0),(8,.ptr 1 0),(9,.ptr 2 0),(10,.ptr 3 0),(11,.ptr 5 0),(14,.ptr N 0),(35,.d (.lst (bF full))),(36,A_ full.length),(37,A_ i),(42,.fn jv [] [.ptr (N+1) 0])]
abbrev FG (q:Bool)(p:BH_)(x1 x2 x3:AV)(row:G_)(w z:Int)(T:am):am :=
 (0,.cells [.d (.lst (ai b))])::(1,.cells [x1])::(2,.cells [x2])::(3,.cells [x3])::(4,.cells [A_ w,A_ z])::(5,.cells [.ptr 4 0])::(N,.cells [aG 1 (aH row)])::(N+1,.cells [.d (.lst (ie l))])::(N+1+1,.loop (agO full i N) [43,44] yQ yU q p)::T
abbrev hpG (s:SG)(T:am):am:=FG b full l i N false none (aG 1 (cZ ss)) (A_ s.nx) (A_ 0) s.row s.w s.z T
abbrev hqG (s:Nat×SG)(T:am):am:=FG b full l i N false (some .ret) .nl (A_ 0) (A_ ((s.1:Int)+1)) s.2.row s.2.w s.2.z T
end
def PC (b:C_)(k:Int)(s:SG):Sum SG (Nat×SG) :=
 if k=13 then (match ll b s.nx 13 s.z with
  |.ok v n=>.inl ⟨s.row++[v],n,s.w,v⟩
  |.er e=>.inr (e,s))
 else if 0<k then (match ll b s.nx k s.w with
  |.ok v n=>.inl ⟨s.row++[v],n,v,s.z⟩
  |.er e=>.inr (e,s))
 else .inl ⟨s.row++[0],s.nx,s.w,s.z⟩
def aos (b:C_)(a:Nat)(s:SG):Prop:=s.nx<=b.length∧(0<=s.w∧s.w<=511)∧inW s.z∧s.row.length=a∧a<=1000000
def aDV (b:C_)(hb:b.length<=1000000000)(full:H_)(ss:J_)(l:P_)(i N:Nat)(hN:6<=N)(a:Nat)(k:Int)(hk:0<=k∧k<=13)(s:SG)(hs:aos b a s)(K M:Nat)(o:Obj)(hK:N+1+1+1<=K) :
  cy (Dn prog) (.yield (N+1+1)) [A_ (a:Int),A_ k] ⟨hpG b full ss l i N s [(K,o)],M⟩ =
  match PC b k s with
  |.inl s2=>some (B_ true,⟨hpG b full ss l i N s2 [(K,o)],M⟩)
  |.inr z=>some (B_ false,⟨hqG b full l i N z [(K,o)],M⟩):=by
 obtain⟨h1,h2,h3,h4,h5⟩:=hs;obtain⟨n0,n1,n2,n3,n4⟩:(N≠0∧N≠1∧N≠2∧N≠3∧N≠4∧N≠5)∧(N+1≠0∧N+1≠1∧N+1≠2∧N+1≠3∧N+1≠4∧N+1≠5)∧(N+1+1≠0∧N+1+1≠1∧N+1+1≠2∧N+1+1≠3∧N+1+1≠4∧N+1+1≠5)∧N+1+1≠N∧N+1+1≠N+1:=o_;have hrl:=iD (l:=s.row);have eo:∀v,AV.own false 1 (aH (s.row++[v]))=aG 1 (aH (s.row++[v])):=λv=>by rw[ZG];exact oM.symm
 have hS:=aj7 b s.nx hb o_;have hG:=gY b s.nx 9 hb o_;have hz0:=h3.1;have hz1:=h3.2;rw[PC];by_cases e1:k=13
 .subst e1;rw[ac rfl];by_cases hz:s.z<0
  .cases hg:bf b s.nx 9 with
   |ok v n =>
    have hp:=eD hg;have hv:v<512:=hp.1;have hn:=hp.2;rw[hg,fe hp]at hG;have ho:ll b s.nx 13 s.z=.ok (v:Int) n:=by rw[ll,ac hz,hg,az]
    have hT:mt 13 v s.w s.z:=by rw[mt,ac rfl];omega
    rw[ho];simp(maxSteps:=300000) (disch:=omega)[i9,ja,↓ac,↓aa,n0,n1,n2,n3,n4,DG,hG,ac hT];exact eo _
   |er e =>
    rw[hg,jg]at hG;have ho:ll b s.nx 13 s.z=.er e:=by rw[ll,ac hz,hg,cB]
    rw[ho];simp(maxSteps:=300000) (disch:=omega)[i9,ja,↓ac,↓aa,n0,n1,n2,n3,n4,DG,hG]
  .cases hg:Jc b s.nx with
   |ok d n =>
    have hp:=ads hg;have hd:=hp.1;have hn:=hp.2;rw[hg,fe hp]at hS;by_cases hr:s.z+d<0∨tv 13<s.z+d
    .have ho:ll b s.nx 13 s.z=.er 7:=by rw[ll,aa hz,hg,az,ac hr]
     have hT:¬mt 13 (d+s.z) s.w s.z:=by rw[mt,ac rfl];simp only[tv,ac]at hr;omega
     rw[ho];simp(maxSteps:=300000) (disch:=omega)[i9,ja,↓ac,↓aa,n0,n1,n2,n3,n4,DG,hS,aa hT]
    .have ho:ll b s.nx 13 s.z=.ok (s.z+d) n:=by rw[ll,aa hz,hg,az,aa hr]
     have hT:mt 13 (d+s.z) s.w s.z:=by rw[mt,ac rfl];simp only[tv,ac]at hr;omega
     rw[ho,Int.add_comm];simp(maxSteps:=300000) (disch:=omega)[i9,ja,↓ac,↓aa,n0,n1,n2,n3,n4,DG,hS,ac hT];exact eo _
   |er e =>
    rw[hg,jg]at hS;have ho:ll b s.nx 13 s.z=.er e:=by rw[ll,aa hz,hg,cB]
    rw[ho];simp(maxSteps:=300000) (disch:=omega)[i9,ja,↓ac,↓aa,n0,n1,n2,n3,n4,DG,hS]
 .rw[aa e1];by_cases e2:0<k
  .rw[ac e2];have hw:¬s.w<0:=o_
   cases hg:Jc b s.nx with
   |ok d n =>
    have hp:=ads hg;have hd:=hp.1;have hn:=hp.2;rw[hg,fe hp]at hS;by_cases hr:s.w+d<0∨tv k<s.w+d
    .have ho:ll b s.nx k s.w=.er 7:=by rw[ll,aa hw,hg,az,ac hr]
     have hT:¬mt k (d+s.w) s.w s.z:=by rw[mt,aa e1];simp only[tv,aa e1]at hr;omega
     rw[ho];simp(maxSteps:=300000) (disch:=omega)[i9,ja,↓ac,↓aa,n0,n1,n2,n3,n4,DG,hS,aa hT,e1]
    .have ho:ll b s.nx k s.w=.ok (s.w+d) n:=by rw[ll,aa hw,hg,az,aa hr]
     have hT:mt k (d+s.w) s.w s.z:=by rw[mt,aa e1];simp only[tv,aa e1]at hr;omega
     rw[ho,Int.add_comm];simp(maxSteps:=300000) (disch:=omega)[i9,ja,↓ac,↓aa,n0,n1,n2,n3,n4,DG,hS,ac hT,e1];exact eo _
   |er e =>
    rw[hg,jg]at hS;have ho:ll b s.nx k s.w=.er e:=by rw[ll,aa hw,hg,cB]
    rw[ho];simp(maxSteps:=300000) (disch:=omega)[i9,ja,↓ac,↓aa,n0,n1,n2,n3,n4,DG,hS,e1]
  .rw[aa e2];have:k=0:=o_;subst this;simp(maxSteps:=300000) (disch:=omega)[i9,ja,↓ac,↓aa,n0,n1,n2,n3,n4,DG,e1];exact eo _
def ayh {b:C_}{a:Nat}{k:Int}{s s2:SG}(hs:aos b a s)(ha:a<1000000)(h:PC b k s=.inl s2):aos b (a+1) s2:=by
 obtain⟨h1,h2,h3,h4,h5⟩:=hs;have h3':=h3;rw[PC]at h;split at h
 .split at h
  .rename_i v n ho;have hp:=aar ho;obtain⟨⟨hv1,hv2⟩,hn⟩:=hp;injection h with h;subst h
   exact⟨hn,h2,⟨by simp only[];omega,hv2⟩,by simp[h4],o_⟩
  .exact nomatch h
 .split at h
  .split at h
   .rename_i v n ho;have hp:=aar ho;obtain⟨⟨hv1,hv2⟩,hn⟩:=hp;injection h with h;subst h
    exact⟨hn,⟨hv1,hv2⟩,h3,by simp[h4],o_⟩
   .exact nomatch h
  .injection h with h;subst h
   exact⟨h1,h2,h3,by simp[h4],o_⟩
def Vg {b:C_}:∀{r:G_}{a:Nat}{s:SG},(∀q n,oW b r s.nx s.w s.z=.ok q n->wa (λ_ k s=>PC b k s) r a s=.inl ⟨s.row++q.1,n,q.2.1,q.2.2⟩)∧(∀e,oW b r s.nx s.w s.z=.er e->∃z,wa (λ_ k s=>PC b k s) r a s=.inr (e,z))
 |[],a,s=>⟨λq n h=>by
   rw[oW]at h;injection h with g1 g2
   subst g1 g2;rw[wa];simp,λe h=>by rw[oW]at h;exact absurd h s_⟩
 |k::r,a,s=>by
  rw[oW,wa,PC];by_cases e1:k=13
  .rw[ac e1,ac e1]
   cases ho:ll b s.nx 13 s.z with
   |er e=>exact⟨λq n h=>by rw[cB]at h;exact absurd h s_,λe' h=>by rw[cB]at h;injection h with h;subst h;exact⟨s,rfl⟩⟩
   |ok v n =>
    simp only[az];have ih:=Vg (b:=b) (r:=r) (a:=a+1) (s:=⟨s.row++[v],n,s.w,v⟩)
    cases hr:oW b r n s.w v with
    |er e=>exact⟨λq n h=>by rw[cB]at h;exact absurd h s_,λe' h=>by rw[cB]at h;injection h with h;subst h;exact ih.2 e hr⟩
    |ok q m =>
     refine⟨λq' n' h=>?_,λe h=>by rw[az]at h;exact absurd h s_⟩;rw[az]at h;injection h with g1 g2
     subst g1 g2;rw[ih.1 q m hr];simp
  .rw[aa e1,aa e1];by_cases e2:0<k
   .rw[ac e2,ac e2]
    cases ho:ll b s.nx k s.w with
    |er e=>exact⟨λq n h=>by rw[cB]at h;exact absurd h s_,λe' h=>by rw[cB]at h;injection h with h;subst h;exact⟨s,rfl⟩⟩
    |ok v n =>
     simp only[az];have ih:=Vg (b:=b) (r:=r) (a:=a+1) (s:=⟨s.row++[v],n,v,s.z⟩)
     cases hr:oW b r n v s.z with
     |er e=>exact⟨λq n h=>by rw[cB]at h;exact absurd h s_,λe' h=>by rw[cB]at h;injection h with h;subst h;exact ih.2 e hr⟩
     |ok q m =>
      refine⟨λq' n' h=>?_,λe h=>by rw[az]at h;exact absurd h s_⟩;rw[az]at h;injection h with g1 g2
      subst g1 g2;rw[ih.1 q m hr];simp
   .rw[aa e2,aa e2];have ih:=Vg (b:=b) (r:=r) (a:=a+1) (s:=⟨s.row++[0],s.nx,s.w,s.z⟩)
    cases hr:oW b r s.nx s.w s.z with
    |er e=>exact⟨λq n h=>by rw[cB]at h;exact absurd h s_,λe' h=>by rw[cB]at h;injection h with h;subst h;exact ih.2 e hr⟩
    |ok q m =>
     refine⟨λq' n' h=>?_,λe h=>by rw[az]at h;exact absurd h s_⟩;rw[az]at h;injection h with g1 g2
     subst g1 g2;simp only;rw[ih.1 q m hr];simp
def aAX (b:C_)(hb:b.length<=1000000000)(full:H_)(ss:J_)(l:P_)(i N:Nat)(hN:6<=N)(hk:∀k∈aM l,0<=k∧k<=13)(hl:(aM l).length<=1000000) :
  Rnd (hpG b full ss l i N) (hqG b full l i N) (N+1+1+1) (N+1+1) (aM l) (λ_ k s=>PC b k s) (aos b):=by
 intro a k s K o M hak hi hK hKM;have hal:a<(aM l).length:=(aJ.1 hak).1;have h:=aDV b hb full ss l i N hN a k (hk k (dJ hak)) s hi K M o hK
 cases hg:PC b k s with
 |inl s2 =>
  rw[hg]at h;exact .inl ⟨s2,hg,ayh hi o_ hg,h⟩
 |inr z =>
  rw[hg]at h;exact .inr ⟨z,hg,h⟩
def aEb {b:C_}{full:H_}{ss:J_}{l:P_}{i N:Nat}(hN:6<=N):Tl (hpG b full ss l i N) (N+1+1+1):=by
 obtain⟨n0,n1,n2,n3,n4⟩:(N≠0∧N≠1∧N≠2∧N≠3∧N≠4∧N≠5)∧(N+1≠0∧N+1≠1∧N+1≠2∧N+1≠3∧N+1≠4∧N+1≠5)∧(N+1+1≠0∧N+1+1≠1∧N+1+1≠2∧N+1+1≠3∧N+1+1≠4∧N+1+1≠5)∧N+1+1≠N∧N+1+1≠N+1:=o_;constructor
 .intro s K o h;simp(maxSteps:=300000) (disch:=omega)[↓aa]
 .intro s K o o' h;simp(maxSteps:=300000) (disch:=omega)[↓aa]
 .intro s K o h;simp(maxSteps:=300000) (disch:=omega)[↓aa]
 .intro s K o h;simp(maxSteps:=300000) (disch:=omega)[↓aa]
def aEg {b:C_}{full:H_}{l:P_}{i N:Nat}(hN:6<=N):Tl (hqG b full l i N) (N+1+1+1):=by
 obtain⟨n0,n1,n2,n3,n4⟩:(N≠0∧N≠1∧N≠2∧N≠3∧N≠4∧N≠5)∧(N+1≠0∧N+1≠1∧N+1≠2∧N+1≠3∧N+1≠4∧N+1≠5)∧(N+1+1≠0∧N+1+1≠1∧N+1+1≠2∧N+1+1≠3∧N+1+1≠4∧N+1+1≠5)∧N+1+1≠N∧N+1+1≠N+1:=o_;constructor
 .intro s K o h;simp(maxSteps:=300000) (disch:=omega)[↓aa]
 .intro s K o o' h;simp(maxSteps:=300000) (disch:=omega)[↓aa]
 .intro s K o h;simp(maxSteps:=300000) (disch:=omega)[↓aa]
 .intro s K o h;simp(maxSteps:=300000) (disch:=omega)[↓aa]
def TF (x:D)(A0 A1 A2 A3 A4 A5 A6:Obj)(N:Nat)(hN:6<=N):(Dn prog).call Ha [.d x] ⟨[(0,A0),(1,A1),(2,A2),(3,A3),(4,A4),(5,A5),(N,A6)],N+1⟩=some (.fn jv [] [.ptr (N+1) 0],⟨[(0,A0),(1,A1),(2,A2),(3,A3),(4,A4),(5,A5),(N,A6),(N+1,.cells [.d x])],N+1+1⟩):=by
 rw[MG];simp(maxSteps:=300000) (disch:=omega)[↓aa]
def apT (l:P_):Prop:=∀k∈aM l,0<=k∧k<=13
abbrev hpL (b:C_)(ss:J_)(nx:Nat)(w z:Int):am:=[(0,.cells [.d (.lst (ai b))]),(1,.cells [aG 1 (cZ ss)]),(2,.cells [A_ nx]),(3,.cells [A_ 0]),(4,.cells [A_ w,A_ z]),(5,.cells [.ptr 4 0])]
def ajI (b:C_)(hb:b.length<=1000000000)(full:H_)(hfl:full.length<=1000):∀(g:H_) (i N:Nat) (ss:J_) (nx:Nat) (w z:Int),full.drop i=g->(∀l∈g,agQ l∧apT l)->nx<=b.length->(0<=w∧w<=511)->inW z->ss.length<=i->6<=N->
  (∀t n,oc b g nx w z=.ok t n->∃M A4,(Dn prog).code (.loop lZ) ⟨[(4,.ptr 0 0),(8,.ptr 1 0),(9,.ptr 2 0),(10,.ptr 3 0),(11,.ptr 5 0),(35,.d (.lst (bF full))),(36,A_ full.length),(37,A_ i)],⟨hpL b ss nx w z,N⟩⟩ =
   some (.exit 0,⟨[(8,.ptr 1 0),(9,.ptr 2 0),(10,.ptr 3 0)],⟨[(1,.cells [aG 1 (cZ (ss++t))]),(2,.cells [A_ n]),(3,.cells [A_ 0]),(4,A4)],M⟩⟩))∧
  (∀e,oc b g nx w z=.er e->∃M I K T,(Dn prog).code (.loop lZ) ⟨[(4,.ptr 0 0),(8,.ptr 1 0),(9,.ptr 2 0),(10,.ptr 3 0),(11,.ptr 5 0),(35,.d (.lst (bF full))),(36,A_ full.length),(37,A_ i)],⟨hpL b ss nx w z,N⟩⟩ =
   some (.ret,⟨agO full I K,⟨(0,.cells [.d (.lst (ai b))])::(1,.cells [.nl])::(2,.cells [A_ 0])::(3,.cells [A_ ((e:Int)+1)])::T,M⟩⟩)):=by
 intro g
 induction g with
 |nil =>
  intro i N ss nx w z hd hok hnx hw hz hss hN;have hk:=aY hd;refine⟨λt n h=>?_,λe h=>by rw[oc]at h;exact absurd h s_⟩;rw[oc]at h;injection h with g1 g2
  subst g1 g2;refine⟨N,.cells [A_ w,A_ z],?_⟩;rw[ah FE];simp(maxSteps:=300000) (disch:=omega)[↓ac,↓aa]
 |cons l r ih =>
  intro i N ss nx w z hd hok hnx hw hz hss hN;have hlt:=bw hd;have hg:=lj hd;obtain⟨hl,hbk⟩:=hok l (.head _);have hbl:=anY hl.1 hl.2;have hsl:=asV (t:=ss);obtain⟨n0,n1,n2,n3,n4⟩:(N≠0∧N≠1∧N≠2∧N≠3∧N≠4∧N≠5)∧(N+1≠0∧N+1≠1∧N+1≠2∧N+1≠3∧N+1≠4∧N+1≠5)∧(N+1+1≠0∧N+1+1≠1∧N+1+1≠2∧N+1+1≠3∧N+1+1≠4∧N+1+1≠5)∧N+1+1≠N∧N+1+1≠N+1:=o_;have hB:=acp (p:=N+1) (aEb (b:=b) (full:=full) (ss:=ss) (l:=l) (i:=i) hN) (aEg (b:=b) (full:=full) (l:=l) (i:=i) hN) l (aAX b hb full ss l i N hN hbk o_) (λs=>by simp(maxSteps:=300000) (disch:=omega)[↓aa,↓ac]) o_ hl.2 (N+1+1+1) ⟨[],nx,w,z⟩ (al _) ⟨hnx,hw,hz,rfl,o_⟩;have hrow:=Vg (b:=b) (r:=aM l) (a:=0) (s:=⟨[],nx,w,z⟩);have n00:aH []=[]:=rfl;have c1:((i+1:Nat):Int)=(i:Int)+1:=rfl;rw[oc]
  cases hr:oW b (aM l) nx w z with
  |er e =>
   obtain⟨zz,hz2⟩:=hrow.2 e hr;rw[hz2]at hB;refine⟨λt n h=>by rw[cB]at h;exact absurd h s_,λe' h=>?_⟩;rw[cB]at h;injection h with h;subst h;rcases hB with ⟨s2,M,e1,_⟩|⟨q,M,e1,e2,e3⟩
   .exact nomatch e1
   .injection e1 with e1
    subst e1;simp only[hpG,hqG,FG,n00,rl,agO]at e3;refine⟨M,i,N,[(4,.cells [A_ zz.w,A_ zz.z]),(5,.cells [.ptr 4 0]),(N,.cells [aG 1 (aH zz.row)]),(N+1,.cells [.d (.lst (ie l))])],?_⟩;rw[ah FE];simp(maxSteps:=300000) (disch:=omega)[↓ac,↓aa,hg,n0,n1,n2,n3,n4,TF,rd,e3]
  |ok q m =>
   have hp:=S2 hnx ⟨o_,o_⟩ hz hr;obtain⟨p1,⟨p2,p3⟩,p4⟩:=hp;have hz2:=hrow.1 q m hr;rw[hz2]at hB;rcases hB with ⟨s2,M,e1,ei,e2,e3⟩|⟨q,M,e1,_⟩
   rotate_left
   .exact nomatch e1
   injection e1 with e1
   subst e1;obtain⟨_,hw2,hz3,_⟩:=ei;simp only[aK]at e3 hw2 hz3;have h5:=ih (i+1) M (ss++[q.1]) m q.2.1 q.2.2 (bu hd) (λx hx=>hok x (.tail _ hx)) p4 hw2 hz3 g_ o_;rw[c1]at h5;simp only[az];have step:(Dn prog).code (.loop lZ) ⟨[(4,.ptr 0 0),(8,.ptr 1 0),(9,.ptr 2 0),(10,.ptr 3 0),(11,.ptr 5 0),(35,.d (.lst (bF full))),(36,A_ full.length),(37,A_ i)],⟨hpL b ss nx w z,N⟩⟩ =
     (Dn prog).code (.loop lZ) ⟨[(4,.ptr 0 0),(8,.ptr 1 0),(9,.ptr 2 0),(10,.ptr 3 0),(11,.ptr 5 0),(35,.d (.lst (bF full))),(36,A_ full.length),(37,A_ ((i:Int)+1))],⟨hpL b (ss++[q.1]) m q.2.1 q.2.2,M⟩⟩:=by
    simp only[hpG,hqG,FG,n00,rl,agO]at e3;simp only[hpL,aty,oM];rw[ah FE];simp(maxSteps:=300000) (disch:=omega)[↓ac,↓aa,hg,n0,n1,n2,n3,n4,TF,rd,e3]
   rw[step]
   cases hs:oc b r m q.2.1 q.2.2 with
   |er e =>
    refine⟨λt n h=>by rw[cB]at h;exact absurd h s_,λe' h=>?_⟩;rw[cB]at h;injection h with h
    subst h;exact h5.2 e hs
   |ok t0 m0 =>
    refine⟨λt n h=>?_,λe h=>by rw[az]at h;exact absurd h s_⟩;rw[az]at h;injection h with g1 g2
    subst g1 g2;obtain⟨M2,A4,f⟩:=h5.1 t0 m0 hs;refine⟨M2,A4,?_⟩;rw[f,aA];rfl
def Fc {m:Nat}{xs:E_}:share (share (aG m xs))=share (aG m xs):=by cases xs<;>rfl
def anQ {m:Nat}{xs:E_}:firm (share (aG m xs))=share (aG m xs):=by cases xs<;>rfl
def aiU {m:Nat}{xs:E_}:AV.cells (share (aG m xs))=[share (aG m xs)]:=by cases xs<;>rfl
def IX {m:Nat}{xs:E_}:bn (share (aG m xs))=true:=by cases xs<;>rfl
def avF {h:am}{m:Nat}{xs:E_}{a b:Int}:io h (.tup [share (aG m xs),A_ a,A_ b])=some (.tup [share (aG m xs),A_ a,A_ b]):=by cases xs<;>rfl
def arg (b:C_)(hb:b.length<=1000000000)(a gain m:Int)(ha:i64 a)(hg:0<=gain∧gain<=255)(g:H_)(hl:g.length<=8)(hm:0<=m∧m<=40)(hf:fJ m g)(hf2:∀l∈g,l.length<=1000)(hok:∀l∈g,agQ l∧apT l):bh prog W8 [.d (.lst (ai b)),A_ a,A_ gain,.d (.lst (bF g))] =
  rK (pSc b g) (zZ b g a gain) (λt n=>some (.tup [share (aG 1 (cZ t)),A_ n,A_ 0])) (λe=>some (.tup [.nl,A_ 0,A_ (e+1)])):=by
 have hmay:=aep gain m g hg hl hm λl h=>⟨hf l h,hf2 l h⟩
 have hG:=gY b a 0 hb ha;have e0:∀a,bf b a 0=if 0<=a∧a<=b.length then .ok 0 a.toNat else .er 1:=by
  intro a;by_cases h:0<=a∧a<=b.length
  .rw[ac h,bf];simp[h,bin,val]
  .rw[aa h,bf];simp[h]
 rw[aD alg akH rfl,zZ];by_cases h1:0<=a∧a<=b.length
 .obtain⟨A,rfl⟩:=aB h1.1;rw[ac h1];rw[e0,ac h1,fe ⟨k_,o_⟩]at hG;have hL:=ajI b hb g o_ g 0 6 [] A gain (-1) rfl hok o_ ⟨hg.1,o_⟩ ⟨o_,o_⟩ (al _) (al _);have c0:((0:Nat):Int)=0:=rfl;have n0:cZ []=[]:=rfl;simp only[c0,n0,rl,hpL,aK]at hL;simp only[au]at hG
  cases hs:oc b g A gain (-1) with
  |ok t n =>
   have hp:=Yr o_ ⟨o_,o_⟩ ⟨o_,o_⟩ hs;obtain⟨M,A4,f⟩:=hL.1 t n hs;rw[fe hp];simp(maxSteps:=300000) (disch:=omega)[↓ac,↓aa,hmay,hG,f,-Zl,avF,-bn,anQ,aiU,IX,Fc]
  |er e =>
   obtain⟨M,I,K,T,f⟩:=hL.2 e hs;rw[jg];simp(maxSteps:=300000) (disch:=omega)[↓ac,↓aa,hmay,hG,f]
 .rw[aa h1,jg];rw[e0,aa h1,jg]at hG;simp(maxSteps:=300000) (disch:=omega)[↓ac,↓aa,hmay,hG]
abbrev HT (b:C_)(st:RS)(R:am):am:=(0,.cells [.d (.lst (ai b))])::(2,.cells [A_ (ra st)])::(3,.cells [A_ (re st)])::R
def Fy (b:C_)(s:Int)(st:RS)(R:am)(N:Nat)(hb:b.length<=1000000000)(ha:st.fit):(Dn prog).call Dw [A_ s,.ptr 3 0,.ptr 0 0,.ptr 2 0] ⟨HT b st R,N⟩ =
  some (A_ (sV b st s),⟨HT b (sN b st s) R,N⟩):=by
 rw[bb Zs Zx rfl];obtain⟨a,e⟩:=st;have hf:i64 a:=ha;by_cases he:e=0
 .subst he;simp(maxSteps:=300000) (disch:=omega)[Lj,ra,re,sV,sN]
 .simp(maxSteps:=300000) (disch:=omega)[ra,re,sV,sN,he]
def TP (v sz:Nat):Int:=(v:Int)-((v / 2 ^ (sz-1)*2 ^ sz:Nat):Int)
def yY (b:C_)(sz:Nat):Nat->RS->G_
 |0,_=>[]
 |k+1,st=>TP (sV b st sz) sz::yY b sz k (sN b st sz)
def xZ (b:C_)(sz:Nat):Nat->RS->RS
 |0,st=>st
 |k+1,st=>xZ b sz k (sN b st sz)
def ac8 {b:C_}{sz:Nat}(hb:b.length<=1000000000):∀{k:Nat}{st:RS},st.fit->(xZ b sz k st).fit
 |0,_,h=>h
 |_+1,_,h=>by rw[xZ];exact ac8 hb (gg hb h)
def acG {b:C_}{sz:Nat}:∀{k:Nat}{st:RS},(yY b sz k st).length=k
 |0,_=>rfl
 |k+1,st=>by rw[yY,aq,acG]
def aGp {q s:Nat}(hq:q<=1)(hs:s<=4):fo .shl (A_ (q:Int)) (A_ (s:Int))=some (.int .i64 ((q*2 ^ s:Nat):Int)):=by
 have h:∀q:Nat,q<=1->∀s:Nat,s<=4->fo .shl (A_ (q:Int)) (A_ (s:Int))=some (.int .i64 ((q*2 ^ s:Nat):Int)):=by
  intro q hq s hs;obtain rfl|rfl:q=0∨q=1:=o_
  all_goals
   obtain rfl|rfl|rfl|rfl|rfl:s=0∨s=1∨s=2∨s=3∨s=4:=o_
   all_goals rfl
 exact h q hq s hs
abbrev Tq:AV:=.fn Dw [] [.ptr 3 0,.ptr 0 0,.ptr 2 0]
def ayz (b:C_)(hb:b.length<=1000000000)(SZ:Obj)(a0 a1 a2 a3 x6 x13:AV)(y12 y15 y32 y33 y46 y47:D)(nar:Int)(sz ord N M:Nat)(hsz:2<=sz∧sz<=4)(ho:ord<=100)(hN:5<=N):∀(k j:Nat) (st:RS) (acc:G_),j+k=ord->acc.length=j->st.fit->
  (Dn prog).code (.loop uT) ⟨[(6,x6),(7,.ptr 2 0),(8,.ptr 3 0),(10,Tq),(11,.ptr 4 0),(12,.d y12),(13,x13),(15,.d y15),(16,.ptr N 0),(17,A_ nar),(18,A_ sz),(32,.d y32),(33,.d y33),(46,.d y46),(47,.d y47),(80,A_ ord),(81,A_ j)],⟨HT b st [(4,SZ),(N,.cells [a0,a1,a2,a3,aG 1 (aH acc)])],M⟩⟩ =
  some (.exit 4,⟨[(6,x6),(7,.ptr 2 0),(8,.ptr 3 0),(10,Tq),(11,.ptr 4 0),(12,.d y12),(13,x13),(15,.d y15),(16,.ptr N 0),(17,A_ nar),(18,A_ sz),(32,.d y32),(33,.d y33),(46,.d y46),(47,.d y47)],⟨HT b (xZ b sz k st) [(4,SZ),(N,.cells [a0,a1,a2,a3,aG 1 (aH (acc++yY b sz k st))])],M⟩⟩):=by
 obtain⟨n0,n2,n3,n4⟩:N≠0∧N≠2∧N≠3∧N≠4:=o_;intro k
 induction k with
 |zero =>
  intro j st acc h1 h2 h3;rw[ah Js,yY,xZ,bj];simp(maxSteps:=300000) (disch:=omega)[↓ac,↓aa]
 |succ k ih =>
  intro j st acc h1 h2 h3;have hg:=Fy b sz st [(4,SZ),(N,.cells [a0,a1,a2,a3,aG 1 (aH acc)])] M hb h3;have hv:=w6 (b:=b) (st:=st) (s:=sz);have h5:=ih (j+1) (sN b st sz) (acc++[TP (sV b st sz) sz]) o_ g_ (gg hb h3);have c1:((j+1:Nat):Int)=(j:Int)+1:=rfl;have c2:((sz-1:Nat):Int)=(sz:Int)-1:=o_;have hla:=iD (l:=acc);simp only[au]at hv;have hp:2 ^ (sz-1)*2=2 ^ sz:=by rw[<-df];congr 1;omega
  have hp0:=bU (sz-1);have hq:sV b st sz / 2 ^ (sz-1)<=1:=by
   have:sV b st sz / 2 ^ (sz-1)<2:=(Nat.div_lt_iff_lt_mul hp0).2 o_;omega
  have hp4:2 ^ sz<=2 ^ 4:=aw o_ hsz.2;have w1:=ao5 (n:=sV b st sz) (k:=sz-1) o_;have w2:=aGp hq hsz.2;rw[c2]at w1;have hcf:TP (sV b st sz) sz=(sV b st sz:Int)-((sV b st sz / 2 ^ (sz-1)*2 ^ sz:Nat):Int):=rfl;have hqq:sV b st sz / 2 ^ (sz-1)*2 ^ sz<=16:=by
   have:=qK hq hp4;omega
  rw[c1,aA,ZG,oM]at h5;simp only[HT]at hg h5⊢;rw[ah Js,yY,xZ,show acc++TP (sV b st sz) sz::yY b sz k (sN b st sz)=acc++([TP (sV b st sz) sz]++yY b sz k (sN b st sz)) from rfl,<-h5,hcf];clear h5 ih;generalize sV b st sz / 2 ^ (sz-1)*2 ^ sz=Q2 at *;generalize sV b st sz / 2 ^ (sz-1)=Q at *;simp(maxSteps:=300000) (disch:=omega)[↓ac,↓aa,n0,n2,n3,n4,hg,-lT,-tJ,w1,w2]
def Lu (l:G_)(s:Nat):Bool:=decide (∀c∈l,-((2 ^ (s-1):Nat):Int)<=c∧c<((2 ^ (s-1):Nat):Int))
def sR (b:C_)(x1 x2:Nat)(st:RS):Nat:=sV b (sN b st x1) x2
def z8 (b:C_)(x1 x2:Nat)(st:RS):RS:=sN b (sN b st x1) x2
def flD (b:C_)(x1 x2:Nat)(st:RS):Nat:=sV b (z8 b x1 x2 st) 1
def Ig (b:C_)(x1 x2:Nat)(st:RS):Nat:=sV b (sN b (z8 b x1 x2 st) 1) 1
def Q7 (b:C_)(x1 x2:Nat)(st:RS):RS:=sN b (sN b (z8 b x1 x2 st) 1) 1
def KB (b:C_)(x1 x2:Nat)(fine:Bool)(st:RS):Nat:=fN fine-Ig b x1 x2 st
def OK (b:C_)(x1 x2:Nat)(fine:Bool)(st:RS):b6 :=
 if sR b x1 x2 st=0 then ⟨sV b st x1,0,false,fine,[]⟩
 else ⟨sV b st x1,sR b x1 x2 st,decide (flD b x1 x2 st=1),fine,yY b (KB b x1 x2 fine st) (sR b x1 x2 st) (Q7 b x1 x2 st)⟩
def K8 (b:C_)(x1 x2:Nat)(fine:Bool)(st:RS):Bool :=
 if sR b x1 x2 st=0 then false else decide (Ig b x1 x2 st=0) && Lu (yY b (KB b x1 x2 fine st) (sR b x1 x2 st) (Q7 b x1 x2 st)) (KB b x1 x2 fine st-1)
def zm (b:C_)(x1 x2:Nat)(fine:Bool)(st:RS):RS :=
 if sR b x1 x2 st=0 then z8 b x1 x2 st else xZ b (KB b x1 x2 fine st) (sR b x1 x2 st) (Q7 b x1 x2 st)
def jD (b:C_)(x1 x2:Nat)(fine:Bool):Nat->Bool->RS->Option (AA_×Bool×RS)
 |0,o,st=>some ([],o,st)
 |k+1,o,st=>if 12<sR b x1 x2 st∧(z8 b x1 x2 st).e=0 then none
  else match jD b x1 x2 fine k (o ||K8 b x1 x2 fine st) (zm b x1 x2 fine st) with
   |none=>none
   |some q=>some (OK b x1 x2 fine st::q.1,q.2)
def ayR {b:C_}{x1 x2:Nat}{fine:Bool}{st:RS}(hb:b.length<=1000000000)(h:st.fit):(zm b x1 x2 fine st).fit:=by
 unfold zm;split
 .exact gg hb (gg hb h)
 .exact ac8 hb (gg hb (gg hb (gg hb (gg hb h))))
def aBi {b:C_}{st:RS}{s:Int}(h:sV b st s≠0):(sN b st s).e=0:=by
 unfold sV at h
 grind [sN,vO,eO]
abbrev W1 (y0 y3 y4:AV)(x1 x2:Nat):Obj:=.cells [y0,A_ x1,A_ x2,y3,y4]
def aeG {t:AA_}{f:b6}:fc (t++[f])=fc t++[[.int .i64 f.len,.int .i64 f.order,.bool f.down,.bool f.fine,.lst (aH f.coefs)]]:=by grind [fc]
def axw (b:C_)(hb:b.length<=1000000000)(y0 y3 y4:AV)(x1 x2:Nat)(hx:x1<=6∧x2<=5)(x6:AV)(fine:Bool)(y32 y33:D)(many:Nat)(hm:many<=3):∀(k j N:Nat) (o:Bool) (st:RS) (acc:AA_),j+k=many->acc.length=j->st.fit->5<=N->
  ∃M,N<=M∧(Dn prog).code (.loop iQ) ⟨[(6,x6),(7,.ptr 2 0),(8,.ptr 3 0),(10,Tq),(11,.ptr 4 0),(12,B_ o),(13,aG 5 (fc acc)),(15,B_ fine),(32,.d y32),(33,.d y33),(46,A_ many),(47,A_ j)],⟨HT b st [(4,W1 y0 y3 y4 x1 x2)],N⟩⟩ =
  match jD b x1 x2 fine k o st with
  |none=>some (.ret,⟨[(6,.nl),(7,.ptr 2 0),(8,.ptr 3 0)],⟨[(0,.cells [.d (.lst (ai b))]),(2,.cells [A_ 0]),(3,.cells [A_ 8])],M⟩⟩)
  |some (l,o2,st2)=>some (.exit 2,⟨[(6,x6),(7,.ptr 2 0),(8,.ptr 3 0),(10,Tq),(11,.ptr 4 0),(12,B_ o2),(13,aG 5 (fc (acc++l))),(32,.d y32),(33,.d y33)],⟨HT b st2 [(4,W1 y0 y3 y4 x1 x2)],M⟩⟩):=by
 intro k
 induction k with
 |zero =>
  intro j N o st acc h1 h2 h3 hN;refine⟨N,al _,?_⟩;rw[ah uN,jD];simp only[bj];simp(disch:=omega)[↓aa]
 |succ k ih =>
  intro j N o st acc h1 h2 h3 hN;obtain⟨n0,n2,n3,n4⟩:N≠0∧N≠2∧N≠3∧N≠4:=o_;have f1:=gg (s:=x1) hb h3;have f2:=gg (s:=x2) hb f1;have f3:=gg (s:=1) hb f2;have f4:=gg (s:=1) hb f3;have g1:=λR N=>Fy b x1 st R N hb h3
  have g2:=λR N=>Fy b x2 (sN b st x1) R N hb f1
  have g3:=λR N=>Fy b 1 (sN b (sN b st x1) x2) R N hb f2
  have g4:=λR N=>Fy b 1 (sN b (sN b (sN b st x1) x2) 1) R N hb f3
  have v1:=w6 (b:=b) (st:=st) (s:=x1);have v2:=w6 (b:=b) (st:=sN b st x1) (s:=x2);have v3:=w6 (b:=b) (st:=sN b (sN b st x1) x2) (s:=1);have v4:=w6 (b:=b) (st:=sN b (sN b (sN b st x1) x2) 1) (s:=1);have k1:2 ^ x1<=2 ^ 6:=aw o_ hx.1;have k2:2 ^ x2<=2 ^ 5:=aw o_ hx.2;have t1:(1:Int).toNat=1:=rfl;simp only[au,t1]at v1 v2 v3 v4;have hO:sR b x1 x2 st=sV b (sN b st x1) x2:=rfl;have hS:z8 b x1 x2 st=sN b (sN b st x1) x2:=rfl;have c1:((j+1:Nat):Int)=(j:Int)+1:=rfl;have hla:=atl (l:=acc);rw[jD,hO,hS];simp only[HT]at g1 g2 g3 g4;by_cases hbad:12<sV b (sN b st x1) x2∧(sN b (sN b st x1) x2).e=0
  .rw[ac hbad];obtain⟨hb1,hb2⟩:=hbad;have hre:re (sN b (sN b st x1) x2)=0:=hb2;refine⟨N+1,o_,?_⟩;simp only[HT];rw[ah uN];simp(disch:=omega)[↓ac,↓aa,g1,g2,hre]
  .rw[aa hbad];by_cases hO0:sV b (sN b st x1) x2=0
   .have eF:OK b x1 x2 fine st=⟨sV b st x1,0,false,fine,[]⟩:=by grind [OK]
    have eX:K8 b x1 x2 fine st=false:=by grind [K8]
    have eN:zm b x1 x2 fine st=sN b (sN b st x1) x2:=by grind [zm]
    rw[eF,eX,eN,rR];obtain⟨M,hM,h5⟩:=ih (j+1) (N+1) o (sN b (sN b st x1) x2) (acc++[⟨sV b st x1,0,false,fine,[]⟩]) o_ u_ f2 o_;refine⟨M,o_,?_⟩;have key:(Dn prog).code (.loop iQ) ⟨[(6,x6),(7,.ptr 2 0),(8,.ptr 3 0),(10,Tq),(11,.ptr 4 0),(12,B_ o),(13,aG 5 (fc acc)),(15,B_ fine),(32,.d y32),(33,.d y33),(46,A_ many),(47,A_ j)],⟨HT b st [(4,W1 y0 y3 y4 x1 x2)],N⟩⟩ =
      (Dn prog).code (.loop iQ) ⟨[(6,x6),(7,.ptr 2 0),(8,.ptr 3 0),(10,Tq),(11,.ptr 4 0),(12,B_ o),(13,aG 5 (fc (acc++[⟨sV b st x1,0,false,fine,[]⟩]))),(15,B_ fine),(32,.d y32),(33,.d y33),(46,A_ many),(47,A_ ((j+1:Nat):Int))],⟨HT b (sN b (sN b st x1) x2) [(4,W1 y0 y3 y4 x1 x2)],N+1⟩⟩:=by
     have n00:aH []=[]:=rfl;simp only[HT,c1,aeG,oM,n00];clear h5 ih;rw[ah uN];simp(disch:=omega)[↓ac,↓aa,g1,g2,hO0]
    grind
   .have he:(sN b (sN b st x1) x2).e=0:=aBi hO0;have hO12:sV b (sN b st x1) x2<=12:=by
     omega
    have hre:re (sN b (sN b st x1) x2)=0:=he;have hw4:3<=fN fine∧fN fine<=4:=by grind [fN]
    have hwide:bh prog FH [B_ fine]=some (A_ ((fN fine:Nat):Int)):=by grind [KD,fN]
    obtain⟨W,hW⟩:∃W,W=sV b (sN b (sN b (sN b st x1) x2) 1) 1:=⟨_,rfl⟩
    obtain⟨Dd,hDd⟩:∃Dd,Dd=sV b (sN b (sN b st x1) x2) 1:=⟨_,rfl⟩
    obtain⟨T4,hT4⟩:∃T4,T4=sN b (sN b (sN b (sN b st x1) x2) 1) 1:=⟨_,rfl⟩
    obtain⟨sz,hsz⟩:∃sz,sz=fN fine-W:=⟨_,rfl⟩
    rw[<-hW]at v4 g4;rw[<-hDd]at v3 g3;rw[<-hT4]at g4 f4;have c00:((0:Nat):Int)=0:=rfl;simp only[hre,c00]at g3;have hszI:((fN fine:Nat):Int)-(W:Int)=(sz:Int):=o_;have hsz1:(sz:Int)-1=((sz-1:Nat):Int):=o_;have hne:sR b x1 x2 st≠0:=o_;have eF:OK b x1 x2 fine st=⟨sV b st x1,sV b (sN b st x1) x2,decide (Dd=1),fine,yY b sz (sV b (sN b st x1) x2) T4⟩:=by
     grind [OK,KB,Ig,Q7,flD]
    have eX:K8 b x1 x2 fine st=(decide (W=0) && Lu (yY b sz (sV b (sN b st x1) x2) T4) (sz-1)):=by
     grind [K8,KB,Ig,Q7]
    have eN:zm b x1 x2 fine st=xZ b sz (sV b (sN b st x1) x2) T4:=by
     grind [zm,KB,Ig,Q7]
    have f5:(xZ b sz (sV b (sN b st x1) x2) T4).fit:=ac8 hb f4;have hcl:=acG (b:=b) (sz:=sz) (k:=sV b (sN b st x1) x2) (st:=T4);have hL0:=λa0 a2 y46 y47 N M hN=>ayz b hb (W1 y0 y3 y4 x1 x2) a0 (A_ (sV b (sN b st x1) x2)) a2 (B_ fine) x6 (aG 5 (fc acc)) (.bool o) (.bool fine) y32 y33 y46 y47 W sz (sV b (sN b st x1) x2) N M o_ o_ hN (sV b (sN b st x1) x2) 0 T4 [] o_ rfl f4
    have n00:aH []=[]:=rfl;have c0:((0:Nat):Int)=0:=rfl;simp only[n00,rl,aK,c0,HT]at hL0;have hDec:decide ((Dd:Int)=1)=decide (Dd=1):=d_;rw[eF,eX,eN];generalize sV b (sN b st x1) x2=O at *;obtain⟨CS,hCS⟩:∃CS,CS=yY b sz O T4:=⟨_,rfl⟩
    rw[<-hCS]at hL0 hcl;rw[<-hCS];obtain⟨M,hM,h5⟩:=ih (j+1) (N+1) (o ||(decide (W=0) && Lu CS (sz-1))) (xZ b sz O T4) (acc++[⟨sV b st x1,O,decide (Dd=1),fine,CS⟩]) o_ u_ f5 o_;refine⟨M,o_,?_⟩;have hshare:share (aG 1 (aH CS))=.d (.lst (aH CS)):=by
     cases CS with
     |nil=>grind
     |cons x r=>rfl
    have key:(Dn prog).code (.loop iQ) ⟨[(6,x6),(7,.ptr 2 0),(8,.ptr 3 0),(10,Tq),(11,.ptr 4 0),(12,B_ o),(13,aG 5 (fc acc)),(15,B_ fine),(32,.d y32),(33,.d y33),(46,A_ many),(47,A_ j)],⟨HT b st [(4,W1 y0 y3 y4 x1 x2)],N⟩⟩ =
      (Dn prog).code (.loop iQ) ⟨[(6,x6),(7,.ptr 2 0),(8,.ptr 3 0),(10,Tq),(11,.ptr 4 0),(12,B_ ((o ||(decide (W=0) && Lu CS (sz-1))))),(13,aG 5 (fc (acc++[⟨sV b st x1,O,decide (Dd=1),fine,CS⟩]))),(15,B_ fine),(32,.d y32),(33,.d y33),(46,A_ many),(47,A_ ((j+1:Nat):Int))],⟨HT b (xZ b sz O T4) [(4,W1 y0 y3 y4 x1 x2)],N+1⟩⟩:=by
     simp only[HT,c1,aeG,oM];clear h5 ih;have hfit:=Mu CS o_ (sz-1) o_;have hfit2:bh prog H4 [.d (.lst (aH CS)),A_ ((sz-1:Nat):Int)]=some (B_ (Lu CS (sz-1))):=hfit;rw[ah uN];obtain⟨B1,hB1⟩:∃B1,B1=decide (Dd=1):=⟨_,rfl⟩
     rw[<-hB1]
     cases o with
     |true =>
      by_cases hD1:Dd=1
      .rw[hB1,decide_eq_true hD1];simp(disch:=omega)[↓ac,↓aa,g1,g2,g3,g4,hre,hwide,hszI,hL0]
      .rw[hB1,decide_eq_false hD1];simp(disch:=omega)[↓ac,↓aa,g1,g2,g3,g4,hre,hwide,hszI,hL0]
     |false =>
      by_cases hW0:W=0
      .rw[decide_eq_true hW0];by_cases hD1:Dd=1
       .rw[hB1,decide_eq_true hD1];simp(disch:=omega)[↓ac,↓aa,g1,g2,g3,g4,hre,hwide,hszI,hL0,hshare,hsz1,hfit2]
       .rw[hB1,decide_eq_false hD1];simp(disch:=omega)[↓ac,↓aa,g1,g2,g3,g4,hre,hwide,hszI,hL0,hshare,hsz1,hfit2]
      .rw[decide_eq_false hW0];by_cases hD1:Dd=1
       .rw[hB1,decide_eq_true hD1];simp(disch:=omega)[↓ac,↓aa,g1,g2,g3,g4,hre,hwide,hszI,hL0]
       .rw[hB1,decide_eq_false hD1];simp(disch:=omega)[↓ac,↓aa,g1,g2,g3,g4,hre,hwide,hszI,hL0]
    grind
abbrev nM:=@Bool.true_and
def T6 (b:C_)(x0:Nat)(st:RS):Bool:=decide (0<sV b st x0) && decide (sV b (sN b st x0) 1=1)
def Ei (b:C_)(x0:Nat)(st:RS):RS:=if 0<sV b st x0 then sN b (sN b st x0) 1 else sN b st x0
def qf (b:C_)(x0 x1 x2:Nat):Nat->Bool->RS->Option (N_×Bool×RS)
 |0,o,st=>some ([],o,st)
 |k+1,o,st=>match jD b x1 x2 (T6 b x0 st) (sV b st x0) o (Ei b x0 st) with
  |none=>none
  |some q=>match qf b x0 x1 x2 k q.2.1 q.2.2 with
   |none=>none
   |some w=>some (q.1::w.1,w.2)
def aoD {t:N_}{l:AA_}:cT (t++[l])=cT t++[[.lst (fc l)]]:=by simp[cT]
def amW {b:C_}{x0:Nat}{st:RS}(hb:b.length<=1000000000)(h:st.fit):(Ei b x0 st).fit:=by
 unfold Ei;split
 .exact gg hb (gg hb h)
 .exact gg hb h
def YE {b:C_}{x1 x2:Nat}{fine:Bool}(hb:b.length<=1000000000):∀{k:Nat}{o:Bool}{st:RS}{l:AA_}{o2:Bool}{st2:RS},st.fit->jD b x1 x2 fine k o st=some (l,o2,st2)->st2.fit∧l.length=k
 |0,o,st,l,o2,st2,h,e=>by
  rw[jD]at e;injection e with e
  injection e with e1 e
  injection e with e2 e3
  subst e1 e3;exact⟨h,rfl⟩
 |k+1,o,st,l,o2,st2,h,e=>by
  rw[jD]at e;split at e
  .exact absurd e (by simp)
  .cases hq:jD b x1 x2 fine k (o ||K8 b x1 x2 fine st) (zm b x1 x2 fine st) with
   |none=>rw[hq]at e;exact absurd e (by simp)
   |some q =>
    obtain⟨q1,q2,q3⟩:=q;rw[hq]at e;injection e with e;injection e with e1 e
    injection e with e2 e3
    obtain⟨i1,i2⟩:=YE hb (ayR hb h) hq;subst e1 e3;exact⟨i1,by simp[i2]⟩
def ay1 (b:C_)(hb:b.length<=1000000000)(y3 y4:AV)(x0 x1 x2:Nat)(hx:x0<=2∧x1<=6∧x2<=5)(many:Nat)(hm:many<=8):∀(k j N:Nat) (o:Bool) (st:RS) (acc:N_),j+k=many->acc.length=j->st.fit->5<=N->
  ∃M,N<=M∧(Dn prog).code (.loop mo) ⟨[(6,aG 1 (cT acc)),(7,.ptr 2 0),(8,.ptr 3 0),(10,Tq),(11,.ptr 4 0),(12,B_ o),(32,A_ many),(33,A_ j)],⟨HT b st [(4,W1 (A_ x0) y3 y4 x1 x2)],N⟩⟩ =
  match qf b x0 x1 x2 k o st with
  |none=>some (.ret,⟨[(6,.nl),(7,.ptr 2 0),(8,.ptr 3 0)],⟨[(0,.cells [.d (.lst (ai b))]),(2,.cells [A_ 0]),(3,.cells [A_ 8])],M⟩⟩)
  |some (t,o2,st2)=>some (.exit 0,⟨[(6,aG 1 (cT (acc++t))),(7,.ptr 2 0),(8,.ptr 3 0),(12,B_ o2)],⟨HT b st2 [],M⟩⟩):=by
 intro k
 induction k with
 |zero =>
  intro j N o st acc h1 h2 h3 hN;refine⟨N,al _,?_⟩;rw[ah Bd,qf];simp only[bj];simp(maxSteps:=300000) (disch:=omega)[↓ac,↓aa]
 |succ k ih =>
  intro j N o st acc h1 h2 h3 hN;have f1:=gg (s:=x0) hb h3;have g1:=λR N=>Fy b x0 st R N hb h3
  have g2:=λR N=>Fy b 1 (sN b st x0) R N hb f1
  have v1:=w6 (b:=b) (st:=st) (s:=x0);have v2:=w6 (b:=b) (st:=sN b st x0) (s:=1);have k1:2 ^ x0<=2 ^ 2:=aw o_ hx.1;have t1:(1:Int).toNat=1:=rfl;simp only[au,t1]at v1 v2;have c1:((j+1:Nat):Int)=(j:Int)+1:=rfl;have c0:((0:Nat):Int)=0:=rfl;have n00:fc []=[]:=rfl;have hla:=ad1 (t:=acc);have hfs:=amW (x0:=x0) hb h3;obtain⟨M1,hM1,hL1⟩:=axw b hb (A_ x0) y3 y4 x1 x2 hx.2 (aG 1 (cT acc)) (T6 b x0 st) (.int .i64 many) (.int .i64 j) (sV b st x0) o_ (sV b st x0) 0 N o (Ei b x0 st) [] o_ rfl hfs hN;have hF:T6 b x0 st=(decide (0<sV b st x0) && decide (sV b (sN b st x0) 1=1)):=rfl;have hS:Ei b x0 st=if 0<sV b st x0 then sN b (sN b st x0) 1 else sN b st x0:=rfl
  rw[qf];simp only[HT,c0,n00,rl,aK]at g1 g2 hL1
  cases hfl:jD b x1 x2 (T6 b x0 st) (sV b st x0) o (Ei b x0 st) with
  |none =>
   rw[hfl]at hL1;refine⟨M1,hM1,?_⟩;simp only[HT];rw[ah Bd];rw[hF,hS]at hL1;by_cases hp:0<sV b st x0
   .rw[ac hp,decide_eq_true hp,nM]at hL1;by_cases hd:sV b (sN b st x0) 1=1
    .rw[decide_eq_true hd]at hL1;simp(maxSteps:=300000) (disch:=omega)[↓ac,↓aa,g1,g2,hL1]
    .rw[decide_eq_false hd]at hL1;simp(maxSteps:=300000) (disch:=omega)[↓ac,↓aa,g1,g2,hL1]
   .have h0:sV b st x0=0:=o_;rw[aa hp,decide_eq_false hp,Bool.false_and,h0,c0]at hL1;simp(maxSteps:=300000) (disch:=omega)[↓ac,↓aa,g1,g2,h0,hL1]
  |some q =>
   obtain⟨l,o2,st2⟩:=q;rw[hfl]at hL1;obtain⟨i1,i2⟩:=YE hb hfs hfl;obtain⟨M,hM,h5⟩:=ih (j+1) M1 o2 st2 (acc++[l]) o_ g_ i1 o_;refine⟨M,o_,?_⟩;have key:(Dn prog).code (.loop mo) ⟨[(6,aG 1 (cT acc)),(7,.ptr 2 0),(8,.ptr 3 0),(10,Tq),(11,.ptr 4 0),(12,B_ o),(32,A_ many),(33,A_ j)],⟨HT b st [(4,W1 (A_ x0) y3 y4 x1 x2)],N⟩⟩ =
     (Dn prog).code (.loop mo) ⟨[(6,aG 1 (cT (acc++[l]))),(7,.ptr 2 0),(8,.ptr 3 0),(10,Tq),(11,.ptr 4 0),(12,B_ o2),(32,A_ many),(33,A_ ((j+1:Nat):Int))],⟨HT b st2 [(4,W1 (A_ x0) y3 y4 x1 x2)],M1⟩⟩:=by
    simp only[HT,c1,aoD,oM];clear h5 ih;rw[hF,hS]at hL1;rw[ah Bd];by_cases hp:0<sV b st x0
    .rw[ac hp,decide_eq_true hp,nM]at hL1;by_cases hd:sV b (sN b st x0) 1=1
     .rw[decide_eq_true hd]at hL1;simp(maxSteps:=300000) (disch:=omega)[↓ac,↓aa,g1,g2,hL1]
     .rw[decide_eq_false hd]at hL1;simp(maxSteps:=300000) (disch:=omega)[↓ac,↓aa,g1,g2,hL1]
    .have h0:sV b st x0=0:=o_;rw[aa hp,decide_eq_false hp,Bool.false_and,h0,c0]at hL1;simp(maxSteps:=300000) (disch:=omega)[↓ac,↓aa,g1,g2,h0,hL1]
   rw[key,h5];simp only
   cases qf b x0 x1 x2 k o2 st2 with
   |none=>rfl
   |some w =>
    obtain⟨t,o3,st3⟩:=w;simp only[aA,aQ,aK]
attribute [simp ↓ high] auM aya
def roC:AV->Bool
 |.d _=>true
 |.nl=>true
 |.own _ _ _=>true
 |_=>false
@[simp] def aKr {x:D}:roC (.d x)=true:=rfl
abbrev da:=@List.eq_of_mem_replicate
def aif:∀(b:C_),vZ (ai b)=some (b.map Nat.toUInt8)
 |[]=>rfl
 |n::r=>by
  have h:ai (n::r)=[.int .u8 (.ofNat n)]::ai r:=rfl;rw[h,vZ,aif r,bY]
@[simp] def IJ {h:am}{b:C_}:Ot h (.d (.lst (ai b)))=some (.str (b.map Nat.toUInt8)):=by
 simp only[Ot,aqp,aif]
def c0:cJ:=⟨0,⟨0,0,0,[1]⟩,[[]],[[]],[[]],List.replicate 256 0⟩
def aqq:c0.Fit where
 gain:=k_
 info:=⟨k_,k_,k_,k_,by intro n hn;simp[c0]at hn;subst hn;decide⟩
 sects:=⟨by simp[c0],by simp[c0]⟩
 secI:=by simp[c0]
 steps:=⟨by simp[c0],by simp[c0]⟩
 stepI:=by simp[c0]
 tns:=⟨by simp[c0],by simp[c0]⟩
 fltI:=by simp[c0]
 lines:=by simp[c0]
 lineI:=by
  intro n hn;have:=da hn;omega
def aha:bh prog jE [A_ 0,.agg c0.av]=some (A_ 0):=BJ 400 (by kernel_rfl)
def ahA {r:Nat}{c:cJ}(hc:c.Fit)(h:nB r c)(hR:r<=11)(q:Bool):(DK r c q).length<=170000000:=by
 have hm11:=gC hR h.info;have hmx:=jY hm11;obtain⟨g1,g2⟩:=dV hm11;have hmm:c.info.many<=8:=by unfold aN.many;split<;>omega
 have hgl:c.info.groups.length<=8:=by have:=nu (λn hn=>(g1 n hn).1);omega
 have hgs:c.sects.length<=8:=by have:=h.sects.1;omega
 have k1:=Lv (i:=c.info);have k2:=adZ hm11 h.sects;have k3:=TW hmx h.sects.2 h.steps;have k4:(jF c.info.short c.tns).length<=1000*c.tns.length:=KF λl hl=>adB (h.tns.2 l hl)
 have k5:=aaT hc h hR;have htl:=h.tns.1;have e1:(if q then [] else lE c.info).length<=20:=by split<;>(try simp only[bg])<;>omega
 have e2:(if pb c.tns then 0::1::(jF c.info.short c.tns++[0]) else [0,0,0]).length<=10000:=by split<;>simp<;>omega
 unfold DK;simp only[aj,dk];omega
abbrev cJ.cells (c:cJ):W_:=[.int .i64 c.gain,.int .u8 c.info.seq,.int .u8 c.info.shape,.int .i64 c.info.max,.lst (aH c.info.groups),.lst (bF c.sects),.lst (cZ c.steps),.lst (cT c.tns),.lst (aH c.lines)]
def dH (l:AH_):E_:=l.map cJ.cells
@[simp] def Eq {l:AH_}:(dH l).length=l.length:=by simp[dH]
def A8 {g:AH_}{i:Nat}{c:cJ}{r:AH_}(h:g.drop i=c::r):(dH g)[i]?=some [.int .i64 c.gain,.int .u8 c.info.seq,.int .u8 c.info.shape,.int .i64 c.info.max,.lst (aH c.info.groups),.lst (bF c.sects),.lst (cZ c.steps),.lst (cT c.tns),.lst (aH c.lines)]:=by
 have:=aT (λl=>l[0]?) h;simp only[cf,dX,b9]at this;rw[dH,b8,this];rfl
def asm {g:AH_}{c:cJ}:dH (g++[c])=dH g++[[.int .i64 c.gain,.int .u8 c.info.seq,.int .u8 c.info.shape,.int .i64 c.info.max,.lst (aH c.info.groups),.lst (bF c.sects),.lst (cZ c.steps),.lst (cT c.tns),.lst (aH c.lines)]]:=by simp[dH]
def gX (l:U_):E_:=l.map λb=>[.bool b]
@[simp] def tz {l:U_}:(gX l).length=l.length:=by simp[gX]
def ann {g:U_}{i:Nat}{c:Bool}{r:U_}(h:g.drop i=c::r):(gX g)[i]?=some [.bool c]:=by
 have:=aT (λl=>l[0]?) h;simp only[cf,dX,b9]at this;rw[gX,b8,this];rfl
@[simp] def aHQ {l:U_}:gk 1 (gX l)=true:=UV
def ayA {a b:U_}:gX (a++b)=gX a++gX b:=by simp[gX]
def dj (t:S_):E_:=t.map λl=>[.lst (gX l)]
@[simp] def KE {t:S_}:(dj t).length=t.length:=by simp[dj]
def xY {g:S_}{i:Nat}{l:U_}{r:S_}(h:g.drop i=l::r):(dj g)[i]?=some [.lst (gX l)]:=by
 have:=aT (λl=>l[0]?) h;simp only[cf,dX,b9]at this;rw[dj,b8,this];rfl
def arE {t:S_}{l:U_}:dj (t++[l])=dj t++[[.lst (gX l)]]:=by simp[dj]
structure eC where
 chans:AH_
 common:Bool
 mask:Int
 bands:S_
 fill:C_
structure eC.Fit (f:eC):Prop where
 chans:f.chans.length<=1000∧∀c∈f.chans,c.Fit
 mask:i64 f.mask
 bands:f.bands.length<=1000∧∀l∈f.bands,l.length<=1000
 fill:f.fill.length<=100000
 fillI:∀n∈f.fill,n<=255
abbrev eC.av (f:eC):D_:=[.d (.lst (dH f.chans)),B_ f.common,A_ f.mask,.d (.lst (dj f.bands)),.d (.lst (ai f.fill))]
structure aax (f:eC):Prop where
 chans:f.chans.length<=10∧∀c∈f.chans,agR c
 bands:f.bands.length<=40∧∀l∈f.bands,l.length<=200
 fill:f.fill.length<=2000
def aoE (f:eC):∀(r:AH_) (i:Nat),f.chans.drop i=r->i<=10->
  ((i+r.length<=10->∀c∈r,agR c)∧(Dn prog).code (.loop iI) ⟨[(1,.ptr 0 0),(3,A_ i)],⟨[(0,.cells f.av)],1⟩⟩=some (.exit 0,⟨[(1,.ptr 0 0)],⟨[(0,.cells f.av)],1⟩⟩))∨
  (Dn prog).code (.loop iI) ⟨[(1,.ptr 0 0),(3,A_ i)],⟨[(0,.cells f.av)],1⟩⟩=some (.ret,⟨[(2,B_ true)],⟨[],1⟩⟩):=by
 intro r
 induction r with
 |nil =>
  intro i hd h10;have hi:=aY hd;refine .inl ⟨s_,?_⟩;rw[ah iK];simp(maxSteps:=300000) (disch:=omega)[↓aa]
 |cons c r ih =>
  intro i hd h10;have hg:=A8 hd;have hlt:=bw hd;by_cases hi:i<10
  .have ih1:=ih (i+1) (bu hd) o_;rw[show((i+1:Nat):Int)=(i:Int)+1 from rfl]at ih1;rcases aDK c with ⟨hs,hG⟩|hG
   .simp only[cJ.av]at hG;rcases ih1 with ⟨ha,e⟩|e
    .refine .inl ⟨λh q hq=>?_,?_⟩
     .rcases ay.1 hq with rfl|hq
      .exact hs
      .exact ha (by simp only[aq]at h;omega) q hq
     .rw[ah iK];simp(maxSteps:=300000) (disch:=omega)[↓ac,↓aa,hg,hG,e]
    .refine .inr ?_;rw[ah iK];simp(maxSteps:=300000) (disch:=omega)[↓ac,↓aa,hg,hG,e]
   .simp only[cJ.av]at hG;refine .inr ?_;rw[ah iK];simp(maxSteps:=300000) (disch:=omega)[↓ac,↓aa,hg,hG]
  .refine .inl ⟨λh=>by simp only[aq]at h;omega,?_⟩;rw[ah iK];simp(maxSteps:=300000) (disch:=omega)[↓ac,↓aa]
def an0 (f:eC):∀(r:S_) (i:Nat),f.bands.drop i=r->i<=40->
  ((i+r.length<=40->∀l∈r,l.length<=200)∧(Dn prog).code (.loop iO) ⟨[(1,.ptr 0 0),(4,A_ i)],⟨[(0,.cells f.av)],1⟩⟩=some (.exit 2,⟨[(1,.ptr 0 0)],⟨[(0,.cells f.av)],1⟩⟩))∨
  (Dn prog).code (.loop iO) ⟨[(1,.ptr 0 0),(4,A_ i)],⟨[(0,.cells f.av)],1⟩⟩=some (.ret,⟨[(2,B_ true)],⟨[],1⟩⟩):=by
 intro r
 induction r with
 |nil =>
  intro i hd h10;have hi:=aY hd;refine .inl ⟨s_,?_⟩;rw[ah iT];simp(maxSteps:=300000) (disch:=omega)[↓aa]
 |cons l r ih =>
  intro i hd h10;have hg:=xY hd;have hlt:=bw hd;by_cases hi:i<40
  .have ih1:=ih (i+1) (bu hd) o_;rw[show((i+1:Nat):Int)=(i:Int)+1 from rfl]at ih1;by_cases hn:l.length<=200
   .rcases ih1 with ⟨ha,e⟩|e
    .refine .inl ⟨λh q hq=>?_,?_⟩
     .rcases ay.1 hq with rfl|hq
      .exact hn
      .exact ha (by simp only[aq]at h;omega) q hq
     .rw[ah iT];simp(maxSteps:=300000) (disch:=omega)[↓ac,↓aa,hg,e]
    .refine .inr ?_;rw[ah iT];simp(maxSteps:=300000) (disch:=omega)[↓ac,↓aa,hg,e]
   .refine .inr ?_;rw[ah iT];simp(maxSteps:=300000) (disch:=omega)[↓ac,↓aa,hg]
  .refine .inl ⟨λh=>by simp only[aq]at h;omega,?_⟩;rw[ah iT];simp(maxSteps:=300000) (disch:=omega)[↓ac,↓aa]
def ay7 (f:eC):(aax f∧bh prog j9 [.agg f.av]=some (B_ false))∨bh prog j9 [.agg f.av]=some (B_ true):=by
 have h0:=aoE f f.chans 0 rfl o_;have h1:=an0 f f.bands 0 rfl o_;have c0:((0:Nat):Int)=0:=rfl;rw[c0]at h0 h1;simp only[eC.av,bv]at h0 h1⊢;rw[aD NU NL rfl];rcases h0 with ⟨a0,e0⟩|e0
 .rcases h1 with ⟨a1,e1⟩|e1
  .by_cases hc:f.chans.length<=10
   .by_cases hb:f.bands.length<=40
    .by_cases hx:f.fill.length<=2000
     .refine .inl ⟨⟨⟨hc,a0 hc⟩,⟨hb,a1 hb⟩,hx⟩,?_⟩;simp(maxSteps:=300000) (disch:=omega)[↓ac,↓aa,e0,e1]
     .refine .inr ?_;simp(maxSteps:=300000) (disch:=omega)[↓ac,↓aa,e0,e1]
    .refine .inr ?_;simp(maxSteps:=300000) (disch:=omega)[↓ac,↓aa,e0,e1]
   .refine .inr ?_;simp(maxSteps:=300000) (disch:=omega)[↓ac,↓aa,e0,e1]
  .refine .inr ?_;simp(maxSteps:=300000) (disch:=omega)[↓ac,↓aa,e0,e1]
 .refine .inr ?_;simp(maxSteps:=300000) (disch:=omega)[↓ac,↓aa,e0]
def AR (i j:aN):Prop:=(i.seq=j.seq∧i.shape=j.shape)∧i.max=j.max∧i.groups=j.groups
instance {i j:aN}:Decidable (AR i j):=inferInstanceAs (Decidable (_∧_))
def arN (i j:aN)(hi:i.Fit)(hj:j.Fit):bh prog WH [.agg i.cells,.agg j.cells]=some (B_ (decide (AR i j))):=by
 have he:=TA i.groups j.groups (by have:=hi.len;omega) (by have:=hj.len;omega);simp only[aN.cells];rw[aD alG al8 rfl];by_cases h1:i.seq=j.seq
 .by_cases h2:i.shape=j.shape
  .by_cases h3:i.max=j.max
   .by_cases h4:i.groups=j.groups
    .rw[ac h4]at he;rw[decide_eq_true (show AR i j from ⟨⟨h1,h2⟩,h3,h4⟩)];simp(maxSteps:=300000) (disch:=omega)[↓ac,↓aa,he]
    .rw[aa h4]at he;rw[decide_eq_false (λh:AR i j=>h4 h.2.2)];simp(maxSteps:=300000) (disch:=omega)[↓ac,↓aa,he]
   .rw[decide_eq_false (λh:AR i j=>h3 h.2.1)];simp(maxSteps:=300000) (disch:=omega)[↓ac,↓aa]
  .rw[decide_eq_false (λh:AR i j=>h2 h.1.2)];simp(maxSteps:=300000) (disch:=omega)[↓ac,↓aa]
 .rw[decide_eq_false (λh:AR i j=>h1 h.1.1)];simp(maxSteps:=300000) (disch:=omega)[↓ac,↓aa]
def MZ (rt:Int)(c:cJ):Bool:=match bh prog jE [A_ rt,.agg c.av] with
 |some (.d (.int _ n))=>n != 0
 |_=>true
def X4 (rt:Int)(hr:dY rt)(c:cJ)(hc:c.Fit):∃n:Int,bh prog jE [A_ rt,.agg c.av]=some (A_ n)∧MZ rt c=(n != 0)∧(MZ rt c=false↔nB rt.toNat c):=by
 rcases PB rt c hc with ⟨_,h,hC⟩|⟨_,h,hC⟩|⟨h,_⟩
 .refine⟨0,hC,by rw[MZ,hC],?_⟩;rw[MZ,hC];simp[h]
 .refine⟨8,hC,by rw[MZ,hC],?_⟩;rw[MZ,hC];simp[h]
 .exact absurd hr h
def ayU (rt:Int)(hr:dY rt)(a1 a2 a3:AV)(c:cJ)(hc:c.Fit)(H:am)(M:Nat)(hp:get H 0=some (.cells [A_ rt,a1,a2,a3]))(hM:Lt H M) :
  (Dn prog).call G0 [.agg c.av,.ptr 0 0] ⟨H,M⟩=some (B_ (MZ rt c),⟨H,M+1⟩):=by
 have e1:=λo=>vV (o:=o) hM
 have e2:=λo=>yk (o:=o) hM
 have e3:=λo=>Cj (N:=M) (o:=o) hp
 have e5:=λo=>N2 (o:=o) hM
 have e6:=λo o'=>IR (o:=o) (o':=o') hM
 obtain⟨n,hC,hB,_⟩:=X4 rt hr c hc;rw[hB];simp only[cJ.av]at hC⊢;rw[bb afD afz rfl];by_cases hn:n=0
 .subst hn;simp(maxSteps:=300000) (disch:=omega)[↓ac,↓aa,e1,e2,e3,e5,e6,hC]
 .simp(maxSteps:=300000) (disch:=omega)[↓ac,↓aa,e1,e2,e3,e5,e6,hC,hn]
def ac4 (F:AV)(P:cJ->Bool)(l:AH_)(hl:l.length<=1000000000)(h:am)(N0:Nat)(hF:firm (share F)=F)(hc:∀f∈l,∀N,N0<=N->cy (Dn prog) F [.agg f.av] ⟨h,N⟩=some (B_ (P f),⟨h,N+1⟩)):∀(r:AH_) (i N:Nat),l.drop i=r->N0<=N->
  (r.any P=true∧∃k M:Nat,N<=M∧(Dn prog).code (.loop gh) ⟨[(0,.d (.lst (dH l))),(1,F),(7,A_ l.length),(8,A_ i)],⟨h,N⟩⟩=some (.ret,⟨[(4,A_ k)],⟨h,M⟩⟩))∨
  (r.any P=false∧∃M,N<=M∧(Dn prog).code (.loop gh) ⟨[(0,.d (.lst (dH l))),(1,F),(7,A_ l.length),(8,A_ i)],⟨h,N⟩⟩=some (.exit 0,⟨[],⟨h,M⟩⟩)):=by
 intro r
 induction r with
 |nil =>
  intro i N hd hN;have hi:=aY hd;refine .inr ⟨rfl,N,al _,?_⟩;rw[ah ju];simp(maxSteps:=300000) (disch:=omega)[↓aa]
 |cons v r ih =>
  intro i N hd hN;have hg:=A8 hd;have hlt:=bw hd;have hv:=hc v (by rw[<-aV i l,hd];simp) N hN;have h5:=ih (i+1) (N+1) (bu hd) o_;have c1:((i+1:Nat):Int)=(i:Int)+1:=rfl;rw[c1]at h5
  cases hp:P v with
  |true =>
   rw[hp]at hv;refine .inl ⟨by rw[fq,hp];rfl,i,N+1,o_,?_⟩;rw[ah ju];simp(maxSteps:=300000) (disch:=omega)[↓ac,↓aa,hg,hF,hv]
  |false =>
   rw[hp]at hv;rw[fq,hp,oe];rcases h5 with ⟨e1,k,M,e3,e2⟩|⟨e1,M,e3,e2⟩
   .refine .inl ⟨e1,k,M,o_,?_⟩;rw[ah ju,<-e2];simp(maxSteps:=300000) (disch:=omega)[↓ac,↓aa,hg,hF,hv]
   .refine .inr ⟨e1,M,o_,?_⟩;rw[ah ju,<-e2];simp(maxSteps:=300000) (disch:=omega)[↓ac,↓aa,hg,hF,hv]
def adL (F:AV)(P:cJ->Bool)(l:AH_)(hl:l.length<=1000000000)(h:am)(N:Nat)(hF:firm (share F)=F)(hF2:firm F=F)(hc:∀f∈l,∀M,N<=M->cy (Dn prog) F [.agg f.av] ⟨h,M⟩=some (B_ (P f),⟨h,M+1⟩)) :
  ∃M,N<=M∧(Dn prog).call tZ [.d (.lst (dH l)),F] ⟨h,N⟩=some (B_ (l.any P),⟨h,M⟩):=by
 have h1:=ac4 F P l hl h N hF hc l 0 N rfl (al _);have c0:((0:Nat):Int)=0:=rfl;rw[c0]at h1;have h2:∃(k:Int) (M:Nat),N<=M∧(0<=k↔l.any P=true)∧(Dn prog).call xg [.d (.lst (dH l)),F] ⟨h,N⟩=some (A_ k,⟨h,M⟩):=by
  rcases h1 with ⟨e1,k,M,e3,e2⟩|⟨e1,M,e3,e2⟩
  .refine⟨k,M,e3,⟨λ_=>e1,λ_=>by omega⟩,?_⟩;rw[bb yb xI rfl];simp(maxSteps:=300000) (disch:=omega)[e2]
  .refine⟨-1,M,e3,⟨λh=>by omega,λh=>by rw[e1]at h;exact absurd h s_⟩,?_⟩;rw[bb yb xI rfl];simp(maxSteps:=300000) (disch:=omega)[e2]
 obtain⟨k,M,e3,e1,e2⟩:=h2;refine⟨M,e3,?_⟩;rw[bb Gx GF rfl]
 cases hp:l.any P with
 |true =>
  have:=e1.2 hp;simp(maxSteps:=300000) (disch:=omega)[↓ac,hF2,e2]
 |false =>
  have:¬0<=k:=λh=>by rw[e1.1 h]at hp;exact absurd hp (by simp)
  simp(maxSteps:=300000) (disch:=omega)[↓aa,hF2,e2]
def acv (F:AV)(P:(U_)->Bool)(l:S_)(hl:l.length<=1000000000)(h:am)(N0:Nat)(hF:firm (share F)=F)(hc:∀f∈l,∀N,N0<=N->cy (Dn prog) F [.d (.lst (gX f))] ⟨h,N⟩=some (B_ (P f),⟨h,N⟩)):∀(r:S_) (i N:Nat),l.drop i=r->N0<=N->
  (r.any P=true∧∃k M:Nat,N<=M∧(Dn prog).code (.loop fR) ⟨[(0,.d (.lst (dj l))),(1,F),(7,A_ l.length),(8,A_ i)],⟨h,N⟩⟩=some (.ret,⟨[(4,A_ k)],⟨h,M⟩⟩))∨
  (r.any P=false∧∃M,N<=M∧(Dn prog).code (.loop fR) ⟨[(0,.d (.lst (dj l))),(1,F),(7,A_ l.length),(8,A_ i)],⟨h,N⟩⟩=some (.exit 0,⟨[],⟨h,M⟩⟩)):=by
 intro r
 induction r with
 |nil =>
  intro i N hd hN;have hi:=aY hd;refine .inr ⟨rfl,N,al _,?_⟩;rw[ah je];simp(maxSteps:=300000) (disch:=omega)[↓aa]
 |cons v r ih =>
  intro i N hd hN;have hg:=xY hd;have hlt:=bw hd;have hv:=hc v (by rw[<-aV i l,hd];simp) N hN;have h5:=ih (i+1) N (bu hd) o_;have c1:((i+1:Nat):Int)=(i:Int)+1:=rfl;rw[c1]at h5
  cases hp:P v with
  |true =>
   rw[hp]at hv;refine .inl ⟨by rw[fq,hp];rfl,i,N,o_,?_⟩;rw[ah je];simp(maxSteps:=300000) (disch:=omega)[↓ac,↓aa,hg,hF,hv]
  |false =>
   rw[hp]at hv;rw[fq,hp,oe];rcases h5 with ⟨e1,k,M,e3,e2⟩|⟨e1,M,e3,e2⟩
   .refine .inl ⟨e1,k,M,o_,?_⟩;rw[ah je,<-e2];simp(maxSteps:=300000) (disch:=omega)[↓ac,↓aa,hg,hF,hv]
   .refine .inr ⟨e1,M,o_,?_⟩;rw[ah je,<-e2];simp(maxSteps:=300000) (disch:=omega)[↓ac,↓aa,hg,hF,hv]
def adt (F:AV)(P:(U_)->Bool)(l:S_)(hl:l.length<=1000000000)(h:am)(N:Nat)(hF:firm (share F)=F)(hF2:firm F=F)(hc:∀f∈l,∀M,N<=M->cy (Dn prog) F [.d (.lst (gX f))] ⟨h,M⟩=some (B_ (P f),⟨h,M⟩)) :
  ∃M,N<=M∧(Dn prog).call tD [.d (.lst (dj l)),F] ⟨h,N⟩=some (B_ (l.any P),⟨h,M⟩):=by
 have h1:=acv F P l hl h N hF hc l 0 N rfl (al _);have c0:((0:Nat):Int)=0:=rfl;rw[c0]at h1;have h2:∃(k:Int) (M:Nat),N<=M∧(0<=k↔l.any P=true)∧(Dn prog).call wD [.d (.lst (dj l)),F] ⟨h,N⟩=some (A_ k,⟨h,M⟩):=by
  rcases h1 with ⟨e1,k,M,e3,e2⟩|⟨e1,M,e3,e2⟩
  .refine⟨k,M,e3,⟨λ_=>e1,λ_=>by omega⟩,?_⟩;rw[bb wT wW rfl];simp(maxSteps:=300000) (disch:=omega)[e2]
  .refine⟨-1,M,e3,⟨λh=>by omega,λh=>by rw[e1]at h;exact absurd h s_⟩,?_⟩;rw[bb wT wW rfl];simp(maxSteps:=300000) (disch:=omega)[e2]
 obtain⟨k,M,e3,e1,e2⟩:=h2;refine⟨M,e3,?_⟩;rw[bb Fl FI rfl]
 cases hp:l.any P with
 |true =>
  have:=e1.2 hp;simp(maxSteps:=300000) (disch:=omega)[↓ac,hF2,e2]
 |false =>
  have:¬0<=k:=λh=>by rw[e1.1 h]at hp;exact absurd hp (by simp)
  simp(maxSteps:=300000) (disch:=omega)[↓aa,hF2,e2]
def ayv (i:aN)(l:U_)(hl:l.length<=1000000)(H:am)(K N:Nat)(hp:get H K=some (.cells i.cells)):(Dn prog).call HJ [.d (.lst (gX l)),.ptr K 0] ⟨H,N⟩=some (B_ ((decide ((l.length:Int)≠i.max))),⟨H,N⟩):=by
 have hb:=tz (l:=l);rw[bb afL afw rfl];by_cases h:(l.length:Int)=i.max
 .simp(maxSteps:=300000) (disch:=omega)[hp,h]
 .simp(maxSteps:=300000) (disch:=omega)[hp,h]
abbrev nt:=@List.any_eq_false
def dZ (x:AV)(l:E_):Prop:=x=.d (.lst l)∨x=.nl∧l=[]
theorem dZ.d {l:E_}:dZ (.d (.lst l)) l:=.inl rfl
def dZ.facts {x:AV}{l:E_}(h:dZ x l):(share x=x∧firm x=x∧AV.cells x=[x])∧bn x=true∧lenOf x=some l.length:=by
 rcases h with rfl|⟨rfl,rfl⟩<;>exact⟨⟨rfl,rfl,rfl⟩,rfl,rfl⟩
def dZ.ne {x:AV}{l:E_}(h:dZ x l)(hl:l≠[]):x=.d (.lst l):=by
 rcases h with h|⟨_,h⟩
 .exact h
 .exact absurd h hl
def Jx (f:eC):AH_->Prop
 |[]=>False
 |c::r=>if f.common then (∃d∈r.head?,AR c.info d.info)∧(if f.mask=1 then f.bands.length=c.info.groups.length∧∀l∈f.bands,(l.length:Int)=c.info.max else f.bands=[]) else f.mask=0∧f.bands=[]
structure sW (rt:Nat)(n:Int)(f:eC):Prop where
 len:(f.chans.length:Int)=n
 fill:f.fill.length<=269
 mask:0<=f.mask∧f.mask<=2
 may:∀c∈f.chans,nB rt c
 rest:Jx f f.chans
abbrev jN (rt n:Int)(b:Bool)(z:Int):AV:=.agg [A_ rt,A_ n,B_ b,A_ z]
abbrev qB (f:eC)(X Y Z:AV):AV:=.agg [X,B_ f.common,A_ f.mask,Y,Z]
def arM (rt n:Int)(cb:Bool)(cz:Int)(hr:dY rt)(hn:n=1∨n=2)(f:eC)(hf:f.Fit)(X Y Z:AV)(hX:dZ X (dH f.chans))(hY:dZ Y (dj f.bands))(hZ:dZ Z (ai f.fill)) :
  (sW rt.toNat n f∧bh prog Mv [jN rt n cb cz,qB f X Y Z]=some (B_ true))∨(¬sW rt.toNat n f∧bh prog Mv [jN rt n cb cz,qB f X Y Z]=some (B_ false)):=by
 obtain⟨⟨x1,x2,x3⟩,x4,x5⟩:=hX.facts;obtain⟨⟨y1,y2,y3⟩,y4,y5⟩:=hY.facts;obtain⟨⟨z1,z2,z3⟩,z4,z5⟩:=hZ.facts;have xl:=Eq (l:=f.chans);have yl:=KE (t:=f.bands);have zl:=bx (l:=f.fill);have hcl:=hf.chans.1;have hbl:=hf.bands.1;have hfl:=hf.fill;rw[aD alY aln rfl];by_cases h1:(f.chans.length:Int)=n
 rotate_left
 .refine .inr ⟨λh=>h1 h.len,?_⟩;simp(maxSteps:=300000) (disch:=omega)[↓ac,↓aa,-bn,x1,x2,x3,x4,x5,y1,y2,y3,y4,y5,z1,z2,z3,z4,z5]
 by_cases h2:f.fill.length<=269
 rotate_left
 .refine .inr ⟨λh=>h2 h.fill,?_⟩;simp(maxSteps:=300000) (disch:=omega)[↓ac,↓aa,-bn,x1,x2,x3,x4,x5,y1,y2,y3,y4,y5,z1,z2,z3,z4,z5]
 by_cases h3:0<=f.mask
 rotate_left
 .refine .inr ⟨λh=>h3 h.mask.1,?_⟩;simp(maxSteps:=300000) (disch:=omega)[↓ac,↓aa,-bn,x1,x2,x3,x4,x5,y1,y2,y3,y4,y5,z1,z2,z3,z4,z5]
 by_cases h4:f.mask<=2
 rotate_left
 .refine .inr ⟨λh=>h4 h.mask.2,?_⟩;simp(maxSteps:=300000) (disch:=omega)[↓ac,↓aa,-bn,x1,x2,x3,x4,x5,y1,y2,y3,y4,y5,z1,z2,z3,z4,z5]
 have hne:dH f.chans≠[]:=λh=>by have:=aT List.length h;rw[Eq,bg]at this;omega
 have hxe:=hX.ne hne;subst hxe;obtain⟨M,hM,e1⟩:=adL (.fn G0 [] [.ptr 0 0]) (MZ rt) f.chans o_ [(0,.cells [A_ rt,A_ n,B_ cb,A_ cz]),(1,.cells [.d (.lst (dH f.chans)),B_ f.common,A_ f.mask,Y,Z])] 2 rfl rfl λc hc M hM=>by
  have:=ayU rt hr (A_ n) (B_ cb) (A_ cz) c (hf.chans.2 c hc) [(0,.cells [A_ rt,A_ n,B_ cb,A_ cz]),(1,.cells [.d (.lst (dH f.chans)),B_ f.common,A_ f.mask,Y,Z])] M s_ (by
   intro p hp;simp only[ay,co,d8]at hp;rcases hp with rfl|rfl<;>simp only[]<;>omega)
  simpa using this
 have hbad:f.chans.any (MZ rt)=false↔∀c∈f.chans,nB rt.toNat c:=by
  rw[nt];constructor
  .intro h c hc;obtain⟨_,_,_,hb⟩:=X4 rt hr c (hf.chans.2 c hc);exact hb.1 (by simpa using h c hc)
  .intro h c hc;obtain⟨_,_,_,hb⟩:=X4 rt hr c (hf.chans.2 c hc);rw[hb.2 (h c hc)];simp
 cases hB:f.chans.any (MZ rt) with
 |true =>
  rw[hB]at e1;refine .inr ⟨λh=>by rw[hbad.2 h.may]at hB;exact absurd hB s_,?_⟩;simp(maxSteps:=300000) (disch:=omega)[↓ac,↓aa,-bn,x5,y1,y2,y3,y4,y5,z1,z2,z3,z4,z5,e1]
 |false =>
  rw[hB]at e1;have hmay:=hbad.1 hB
  cases hch:f.chans with
  |nil=>rw[hch]at h1;simp at h1;omega
  |cons c r =>
   have hdr:f.chans.drop 0=c::r:=hch;obtain⟨k0,g0⟩:=aJ.1 (A8 hdr);have hci:=(hf.chans.2 c (by rw[hch];exact .head _)).info;have hfin:sW rt.toNat n f↔Jx f (c::r):=⟨λh=>by rw[<-hch];exact h.rest,λh=>⟨h1,h2,⟨h3,h4⟩,hmay,by rw[hch];exact h⟩⟩
   rw[<-hch]
   cases hcm:f.common with
   |false =>
    have hT:Jx f (c::r)↔f.mask=0∧f.bands=[]:=by simp only[Jx,hcm,ao,bl]
    rw[hcm]at e1;by_cases h5:f.mask=0
    .by_cases h6:f.bands.length=0
     .refine .inl ⟨hfin.2 (hT.2 ⟨h5,ax h6⟩),?_⟩;simp(maxSteps:=300000) (disch:=omega)[↓ac,↓aa,-bn,hcm,x5,y1,y2,y3,y4,y5,z1,z2,z3,z4,z5,e1,g0]
     .refine .inr ⟨λh=>h6 (by rw[(hT.1 (hfin.1 h)).2];rfl),?_⟩;simp(maxSteps:=300000) (disch:=omega)[↓ac,↓aa,-bn,hcm,x5,y1,y2,y3,y4,y5,z1,z2,z3,z4,z5,e1,g0]
    .refine .inr ⟨λh=>h5 (hT.1 (hfin.1 h)).1,?_⟩;simp(maxSteps:=300000) (disch:=omega)[↓ac,↓aa,-bn,hcm,x5,y1,y2,y3,y4,y5,z1,z2,z3,z4,z5,e1,g0]
   |true =>
    rw[hcm]at e1;have hT:Jx f (c::r)↔(∃d∈r.head?,AR c.info d.info)∧(if f.mask=1 then f.bands.length=c.info.groups.length∧∀l∈f.bands,(l.length:Int)=c.info.max else f.bands=[]):=by simp only[Jx,hcm,bi]
    rcases hn with rfl|rfl
    .have hr0:r=[]:=ax (by rw[hch]at h1;simp only[aq]at h1;omega);refine .inr ⟨λh=>?_,?_⟩
     .obtain⟨⟨d,hd,_⟩,_⟩:=hT.1 (hfin.1 h);rw[hr0]at hd;simp at hd
     .simp(maxSteps:=300000) (disch:=omega)[↓ac,↓aa,-bn,hcm,x5,y1,y2,y3,y4,y5,z1,z2,z3,z4,z5,e1,g0]
    .cases r with
     |nil=>rw[hch]at h1;simp at h1
     |cons d r2 =>
      obtain⟨k1,g1⟩:=aJ.1 (A8 (bu hdr));have hsm:=arN c.info d.info hci (hf.chans.2 d (by rw[hch];exact .tail _ (.head _))).info;simp only[aN.cells]at hsm;have hm0:=hmay c (by rw[hch];exact .head _);obtain⟨q1,q2⟩:=dV (gC (r:=rt.toNat) o_ hm0.info);have hmm:1<=c.info.many:=by unfold aN.many;split<;>omega
      have hgn:c.info.groups.length≠0:=λh=>by rw[ax h]at q2;simp at q2;omega
      have hgi:=iD (l:=c.info.groups);have hg8:c.info.groups.length<=1000:=hci.len;by_cases hs:AR c.info d.info
      rotate_left
      .rw[decide_eq_false hs]at hsm;refine .inr ⟨λh=>?_,?_⟩
       .obtain⟨⟨d',hd',hss⟩,_⟩:=hT.1 (hfin.1 h);simp only[List.head?_cons,Option.mem_def,ae]at hd';subst hd';exact hs hss
       .simp(maxSteps:=300000) (disch:=omega)[↓ac,↓aa,-bn,hcm,x5,y1,y2,y3,y4,y5,z1,z2,z3,z4,z5,e1,g0,g1,hsm]
      rw[decide_eq_true hs]at hsm;have hhd:∃d'∈(d::r2).head?,AR c.info d'.info:=⟨d,s_,hs⟩
      by_cases h5:f.mask=1
      rotate_left
      .rw[aa h5]at hT;by_cases h6:f.bands.length=0
       .refine .inl ⟨hfin.2 (hT.2 ⟨hhd,ax h6⟩),?_⟩;simp(maxSteps:=300000) (disch:=omega)[↓ac,↓aa,-bn,hcm,x5,y1,y2,y3,y4,y5,z1,z2,z3,z4,z5,e1,g0,g1,hsm]
       .refine .inr ⟨λh=>h6 (by rw[(hT.1 (hfin.1 h)).2];rfl),?_⟩;simp(maxSteps:=300000) (disch:=omega)[↓ac,↓aa,-bn,hcm,x5,y1,y2,y3,y4,y5,z1,z2,z3,z4,z5,e1,g0,g1,hsm]
      rw[ac h5]at hT;by_cases h6:f.bands.length=c.info.groups.length
      rotate_left
      .refine .inr ⟨λh=>h6 (hT.1 (hfin.1 h)).2.1,?_⟩;simp(maxSteps:=300000) (disch:=omega)[↓ac,↓aa,-bn,hcm,x5,y1,y2,y3,y4,y5,z1,z2,z3,z4,z5,e1,g0,g1,hsm]
      have hye:=hY.ne λh=>by have:=aT List.length h;rw[KE,bg]at this;omega
      subst hye;obtain⟨M2,hM2,e2⟩:=adt (.fn HJ [] [.ptr M 0]) (λl=>decide ((l.length:Int)≠c.info.max)) f.bands o_ [(0,.cells [A_ rt,A_ 2,B_ cb,A_ cz]),(1,.cells [.d (.lst (dH f.chans)),B_ true,A_ f.mask,.d (.lst (dj f.bands)),Z]),(M,.cells c.info.cells)] (M+1) rfl rfl λl hl N hN=>by
       have:=ayv c.info l (by have:=hf.bands.2 l hl;omega) [(0,.cells [A_ rt,A_ 2,B_ cb,A_ cz]),(1,.cells [.d (.lst (dH f.chans)),B_ true,A_ f.mask,.d (.lst (dj f.bands)),Z]),(M,.cells c.info.cells)] M N (by
        obtain⟨m0,m1⟩:M≠0∧M≠1:=o_;simp(maxSteps:=300000) (disch:=omega)[↓ac,↓aa])
       simpa using this
      simp only[aN.cells]at e2
      cases hB2:f.bands.any (λl=>decide ((l.length:Int)≠c.info.max)) with
      |true =>
       rw[hB2]at e2;refine .inr ⟨λh=>?_,?_⟩
       .obtain⟨l,hl,hx⟩:=List.any_eq_true.1 hB2;exact of_decide_eq_true hx ((hT.1 (hfin.1 h)).2.2 l hl)
       .simp(maxSteps:=300000) (disch:=omega)[↓ac,↓aa,-bn,hcm,x5,y5,z1,z2,z3,z4,z5,e1,g0,g1,hsm,e2]
      |false =>
       rw[hB2]at e2;refine .inl ⟨hfin.2 (hT.2 ⟨hhd,h6,λl hl=>?_⟩),?_⟩
       .have:=nt.1 hB2 l hl;simpa using this
       .simp(maxSteps:=300000) (disch:=omega)[↓ac,↓aa,-bn,hcm,x5,y5,z1,z2,z3,z4,z5,e1,g0,g1,hsm,e2]
def avP {l:U_}:∀x∈gX l,∀y∈x,mC y=true:=by
 intro x hx y hy;simp only[gX,dy]at hx;obtain⟨b,_,rfl⟩:=hx;simp only[ay,co,d8]at hy;subst hy;rfl
def Zt (xs:S_)(hx:xs.length<=1000)(h:am)(N:Nat):∀(r:S_) (i:Nat) (n:Nat),xs.drop i=r->n+r.flatten.length<=1000000000->
  (Dn prog).code (.loop kB) ⟨[(0,.d (.lst (dj xs))),(3,A_ n),(9,.d (.lst (dj xs))),(10,A_ xs.length),(11,A_ i)],⟨h,N⟩⟩ =
  some (.exit 0,⟨[(0,.d (.lst (dj xs))),(3,A_ (n+r.flatten.length:Nat))],⟨h,N⟩⟩):=by
 intro r
 induction r with
 |nil =>
  intro i n hd hn;have hi:=aY hd;rw[ah pw];simp(maxSteps:=300000) (disch:=omega)[↓aa]
 |cons l r ih =>
  intro i n hd hn;have hg:=xY hd;have hlt:=bw hd;simp only[dC,aj]at hn⊢;have h5:=ih (i+1) (n+l.length) (bu hd) o_;have c1:((i+1:Nat):Int)=(i:Int)+1:=rfl;have c2:((n+l.length:Nat):Int)=(n:Int)+l.length:=rfl;rw[c1,c2,dK]at h5;rw[ah pw,<-h5];simp(maxSteps:=300000) (disch:=omega)[↓ac,↓aa,hg,tz]
def an4 (xs:S_)(hx:xs.length<=1000)(h:am)(N:Nat):∀(r:S_) (i:Nat) (acc:U_),xs.drop i=r->acc.length+r.flatten.length<=1000000000->
  (Dn prog).code (.loop iR) ⟨[(6,.own false 1 (gX acc)),(25,.d (.lst (dj xs))),(26,A_ xs.length),(27,A_ i)],⟨h,N⟩⟩ =
  some (.exit 2,⟨[(6,.own false 1 (gX (acc++r.flatten)))],⟨h,N⟩⟩):=by
 intro r
 induction r with
 |nil =>
  intro i acc hd hn;have hi:=aY hd;rw[ah fX];simp(maxSteps:=300000) (disch:=omega)[↓aa]
 |cons l r ih =>
  intro i acc hd hn;have hg:=xY hd;have hlt:=bw hd;simp only[dC,aj]at hn⊢;have h5:=ih (i+1) (acc++l) (bu hd) (by simp only[aj];omega);have c1:((i+1:Nat):Int)=(i:Int)+1:=rfl;rw[c1,aA]at h5;rw[ah fX,<-h5];simp(maxSteps:=300000) (disch:=omega)[↓ac,↓aa,hg,tz,ayA]
def atG (n:Nat)(hn:0<n∧n<=1000000000):(Dn prog).call wp [.nl,A_ n] ⟨[],0⟩=some (.sl 0 0 0,⟨[(0,.arr 1 (List.replicate n [.bool false]))],1⟩):=by
 have e1:ej (A_ n) aX=some n:=by rw[yK o_ (by simp only[aX];omega)];simp
 have e2:It [.bool false] [] .nl (A_ n)=some (.own true 1 (List.replicate n [.bool false]),[]):=by
  unfold It;rw[e1];obtain⟨m,rfl⟩:∃m,n=m+1:=⟨n-1,o_⟩
  simp(maxSteps:=300000) (disch:=omega)[cL,↓ac]
 have e0:ej (A_ 0) n=some 0:=yK o_ o_;have e3:mR [] 1 .nl none (some (.int .i64 0)) none=some .nl:=rfl;have e4:mR [(0,.arr 1 (List.replicate n [D.bool false]))] 1 (.sl 0 0 n) none (some (.int .i64 0)) none=some (.sl 0 0 0):=by
  simp[mR,okSl,vR,lenOf,xu,e0,wR]
 rw[bb Eh Ef rfl];simp(maxSteps:=300000) (disch:=omega)[↓ac,↓aa,acK,e2,e3,e4]
def auq (xs:S_)(hx:xs.length<=1000)(hn:0<xs.flatten.length∧xs.flatten.length<=1000000000):bh prog tc [.d (.lst (dj xs))]=some (.own true 1 (gX xs.flatten)):=by
 have h0:=Zt xs hx [] 0 xs 0 0 rfl o_;have h2:=atG xs.flatten.length hn;have c0:((0:Nat):Int)=0:=rfl;rw[bv,c0]at h0;have hne:xs≠[]:=by intro h;subst h;simp at hn
 obtain⟨l,r,e⟩:=di hne;have h1:=an4 xs hx [] 1 r 1 l (by rw[e];rfl) (by rw[e]at hn;simpa using hn.2);have hg:=xY (g:=xs) (i:=0) (l:=l) (r:=r) (by rw[e];rfl);have hlt:0<xs.length:=bN.2 hne;have e5:l++r.flatten=xs.flatten:=by rw[e];rfl
 rw[e5]at h1;have hll:l.length<=1000000000:=by rw[<-e5,aj]at hn;omega
 clear e5 e;generalize xs.flatten=F at *;have c1:((1:Nat):Int)=1:=rfl;rw[c1]at h1;rw[aD BK BO rfl];simp(maxSteps:=300000) (disch:=omega)[↓ac,↓aa,h0,h2];rw[ah fX];simp(maxSteps:=300000) (disch:=omega)[↓ac,↓aa,hg,tz,h1];exact avP
def akt (xs:S_)(hx:xs.length<=1000)(h:am)(N:Nat):∀(r:S_) (i:Nat),xs.drop i=r->(∀l∈r,l=[])->
  (Dn prog).code (.loop iR) ⟨[(6,.nl),(25,.d (.lst (dj xs))),(26,A_ xs.length),(27,A_ i)],⟨h,N⟩⟩ =
  some (.exit 2,⟨[(6,.nl)],⟨h,N⟩⟩):=by
 intro r
 induction r with
 |nil =>
  intro i hd hn;have hi:=aY hd;rw[ah fX];simp(maxSteps:=300000) (disch:=omega)[↓aa]
 |cons l r ih =>
  intro i hd hn;have hl:=hn l (.head _);subst hl;have hg:=xY hd;have hlt:=bw hd;have h5:=ih (i+1) (bu hd) λq hq=>hn q (.tail _ hq)
  have c1:((i+1:Nat):Int)=(i:Int)+1:=rfl;have n0:gX []=[]:=rfl;rw[c1]at h5;rw[n0]at hg;rw[ah fX,<-h5];simp(maxSteps:=300000) (disch:=omega)[↓ac,↓aa,hg]
def Vp:(Dn prog).call wp [.nl,A_ 0] ⟨[],0⟩=some (.nl,⟨[],0⟩):=by
 rw[bb Eh Ef rfl];simp(maxSteps:=300000) (disch:=omega)[↓ac,↓aa,acK]
def azo (xs:S_)(hx:xs.length<=1000)(hn:xs.flatten.length<=1000000000)(X:AV)(hX:dZ X (dj xs)):∃v,bh prog tc [X]=some v∧firm v=aG 1 (gX xs.flatten):=by
 by_cases h:0<xs.flatten.length
 .have hne:dj xs≠[]:=λh2=>by
   have:=aT List.length h2;rw[KE,bg]at this;rw[ax this]at h;simp at h
  refine⟨.own true 1 (gX xs.flatten),by rw[hX.ne hne];exact auq xs hx ⟨h,hn⟩,?_⟩;rw[md]
  .rfl
  .intro h2;have:=aT List.length h2;rw[tz,bg]at this;omega
 .have h0:xs.flatten=[]:=ax o_;have hz:∀l∈xs,l=[]:=λl hl=>List.flatten_eq_nil_iff.1 h0 l hl
  refine⟨.nl,?_,by rw[h0];rfl⟩;rw[aD BK BO rfl];rcases hX with rfl|⟨rfl,hX⟩
  .have e0:=Zt xs hx [] 0 xs 0 0 rfl o_;have e1:=akt xs hx [] 0 xs 0 rfl hz;have c0:((0:Nat):Int)=0:=rfl;rw[bv,c0,h0,bg,c0]at e0;rw[c0]at e1;simp(maxSteps:=300000) (disch:=omega)[↓ac,↓aa,e0,e1,Vp]
  .simp(maxSteps:=300000) (disch:=omega)[↓ac,↓aa,Vp];rw[ah pw];simp(maxSteps:=300000) (disch:=omega)[↓ac,↓aa,Vp];rw[ah fX];simp(maxSteps:=300000) (disch:=omega)[↓ac,↓aa,Vp]
def bX (l:C_):C_:=l.flatMap λn=>ar n 8
def fP:∀{l:C_},(bX l).length=8*l.length
 |[]=>rfl
 |n::r=>by have:=fP (l:=r);rw[bX]at this⊢;rw[aE,aj,dk,aq];omega
abbrev aHo (l:C_)(i:Int)(N:Nat):aW:=[(4,.ptr 0 0),(15,.d (.lst (ai l))),(16,A_ l.length),(17,A_ i),(23,.fn qq [] [.ptr (N+1) 0,.ptr N 0])]
abbrev hp8 (l:C_)(i n:Int)(N:Nat)(b:C_):am:=[(0,.cells [.own false 1 (ai b)]),(N,.cells [A_ n]),(N+1,.cells [A_ 8]),(N+2,.loop (aHo l i N) [24] uw ud false none)]
def aGy (l:C_)(i n:Int)(N:Nat)(hN:1<=N)(b:C_)(x:Nat)(hb:b.length<=800000000) :
  cy (Dn prog) (.yield (N+2)) [.d (.int .u8 (x:Int))] ⟨hp8 l i n N b,N+2+1⟩=some (B_ true,⟨hp8 l i n N (b++[x]),N+2+1⟩):=by
 have hl:=bx (l:=b);have n1:N≠0∧N+1≠0∧N+2≠0:=o_;simp(maxSteps:=300000) (disch:=omega)[Yl,Yt,↓ac,↓aa]
def aBF (n k:Int)(c:Obj)(N:Nat)(hN:1<=N):(Dn prog).call Mk [A_ n,A_ k] ⟨[(0,c)],N⟩=some (.fn qq [] [.ptr (N+1) 0,.ptr N 0],⟨[(0,c),(N,.cells [A_ n]),(N+1,.cells [A_ k])],N+1+1⟩):=by
 rw[bb WG Wb rfl];simp(maxSteps:=300000) (disch:=omega)[↓ac,↓aa]
def amj {z:W_}{n:Int}(h:0<=n∧n<=1000000000):Gn z (A_ 0) (A_ n)=some (.own true z.length []):=by
 obtain⟨n,rfl⟩:=aB h.1;have h1:ej (A_ (n:Int)) aX=some n:=by rw[yK o_ (by simp only[aX];omega)];simp
 have h2:ej (A_ 0) n=some 0:=yK o_ o_;simp only[Gn,h1,h2];rfl
def arz (l:C_)(hl:l.length<=100000)(hl2:∀n∈l,n<=255):∀(r:C_) (i N:Nat) (b:C_),l.drop i=r->b.length<=8*i->1<=N->
  ∃M,(Dn prog).code (.loop uA) ⟨[(4,.ptr 0 0),(15,.d (.lst (ai l))),(16,A_ l.length),(17,A_ i)],⟨[(0,.cells [.own false 1 (ai b)])],N⟩⟩ =
  some (.exit 0,⟨[(4,.ptr 0 0)],⟨[(0,.cells [.own false 1 (ai (b++bX r))])],M⟩⟩):=by
 intro r
 induction r with
 |nil =>
  intro i N b hd hb hN;have hi:=aY hd;refine⟨N,?_⟩;rw[ah Ba];simp(maxSteps:=300000) (disch:=omega)[↓ac,↓aa,bX]
 |cons n r ih =>
  intro i N b hd hb hN;have hlt:=bw hd;have hn:=hl2 n (bK (by rw[hd];exact .head _));have hg:(ai l)[i]?=some [.int .u8 n]:=by
   have:=aT (λl=>l[0]?) hd;simp only[cf,b9,dX]at this;rw[ai,b8,this];rfl
  have h1:=arC (hp:=hp8 l i n N) (l:=N+2) (p:=N) (q:=N+1) (N:=N+2+1) (st:=λs x=>s++[x]) (dz:=λk s=>s.length+k<=800000000) (λk s x h=>by simp only[aj,aq,bg];omega) n 8 o_ (by omega)
   (λs=>by simp(maxSteps:=300000) (disch:=omega)[↓aa,↓ac]) (λs=>by simp(maxSteps:=300000) (disch:=omega)[↓aa,↓ac]) (λk s x h _=>aGy l i n N hN s x o_) b (by omega)
  rw[ahD]at h1;obtain⟨M,h5⟩:=ih (i+1) (N+2+1) (b++ar n 8) (bu hd) g_ o_;refine⟨M,?_⟩;have c1:((i+1:Nat):Int)=(i:Int)+1:=rfl;have e:b++bX (n::r)=b++ar n 8++bX r:=by rw[bX,aE,aA];rfl
  rw[c1]at h5;have n1:N≠0∧N+1≠0∧N+2≠0:=o_;rw[ah Ba,e,<-h5];simp(maxSteps:=300000) (disch:=omega)[↓ac,↓aa,hg,n1,rd,aBF,h1]
def Gd (l:C_)(hl:l.length<=100000)(hl2:∀n∈l,n<=255)(X:AV)(hX:dZ X (ai l)):bh prog Hb [X]=some (.tup [.own true 1 (ai (bX l)),A_ 0]):=by
 have hl3:=bx (l:=l);have n0:ai []=[]:=rfl;have c0:((0:Nat):Int)=0:=rfl;obtain⟨M,h⟩:=arz l hl hl2 l 0 1 [] rfl s_ (al _);rw[c0,n0,aK]at h;rw[aD afE afT rfl];rcases hX with rfl|⟨rfl,hX⟩
 .simp(maxSteps:=300000) (disch:=omega)[↓ac,↓aa,amj,h]
 .have:l=[]:=ax (by rw[hX]at hl3;simpa using hl3.symm);subst this;simp(maxSteps:=300000) (disch:=omega)[↓ac,↓aa,amj];rw[ah Ba];simp(maxSteps:=300000) (disch:=omega)[↓ac,↓aa,bX];rfl
def af5 {hp:AV->am}{p N:Nat}(H:Hv hp p){x:AV}{b:C_}(hx:inB x b)(hb:b.length<=900000000)(n s:Int)(ho:ou n s)(hn:i64 n) :
  (Dn prog).call fF [A_ n,A_ s,.ptr p 0] ⟨hp x,N⟩=some (.tup [],⟨hp (.own false 1 (ai (b++ar n.toNat s.toNat))),N⟩):=by
 have h1:=λx hx=>me b n s hb hn x hx
 simp only[ac ho]at h1;rw[bb abO YT rfl];rcases hx with rfl|rfl|⟨rfl,rfl⟩
 .have h2:=h1 _ (.inl rfl);simp(maxSteps:=300000) (disch:=omega)[H.get,H.put,h2]
 .have h2:=h1 _ (.inl rfl);simp(maxSteps:=300000) (disch:=omega)[H.get,H.put,h2]
 .have h2:=h1 _ (.inr ⟨rfl,rfl⟩);simp(maxSteps:=300000) (disch:=omega)[H.get,H.put,h2]
def IM {hp:AV->am}{p N:Nat}(H:Hv hp p){x:AV}{b:C_}(hx:inB x b)(hb:b.length<=900000000)(n s:Nat)(hs:s<=31)(ho:n<2 ^ s)(nI sI:Int)(en:nI=n)(es:sI=s) :
  (Dn prog).call fF [A_ nI,A_ sI,.ptr p 0] ⟨hp x,N⟩=some (.tup [],⟨hp (.own false 1 (ai (b++ar n s))),N⟩):=by
 subst en es;have h31:2 ^ s<=2 ^ 31:=aw o_ hs;exact af5 H hx hb n s (by simp only[ou,au];omega) (by omega)
def amO (b:Bool):bh prog ae5 [B_ b]=some (A_ (cond b 1 0:Nat)):=by
 rw[aD aqY asQ rfl]
 cases b<;>simp(maxSteps:=300000) (disch:=omega)
abbrev hpW (C F:D_)(v:AV):am:=[(0,.cells C),(1,.cells F),(2,.cells [v])]
def aBj (C F:D_):Hv (hpW C F) 2:=⟨λv=>by simp,λv w=>by simp⟩
def uQ (l:U_):C_:=l.flatMap λb=>ar (cond b 1 0) 1
def Tg:∀{l:U_},(uQ l).length=l.length
 |[]=>rfl
 |n::r=>by have:=Tg (l:=r);rw[uQ]at this⊢;rw[aE,aj,dk,aq];omega
def aor (C F:D_)(l:U_)(hl:l.length<=1000000)(N:Nat):∀(r:U_) (i:Nat) (b:C_),l.drop i=r->b.length+r.length<=900000000->
  (Dn prog).code (.loop ur) ⟨[(2,.ptr 0 0),(3,.ptr 1 0),(4,.ptr 2 0),(5,.fn fF [] [.ptr 2 0]),(45,aG 1 (gX l)),(46,A_ l.length),(47,A_ i)],⟨hpW C F (.own false 1 (ai b)),N⟩⟩ =
  some (.exit 1,⟨[(2,.ptr 0 0),(3,.ptr 1 0),(4,.ptr 2 0),(5,.fn fF [] [.ptr 2 0])],⟨hpW C F (.own false 1 (ai (b++uQ r))),N⟩⟩):=by
 intro r
 induction r with
 |nil =>
  intro i b hd hb;have hi:=aY hd;rw[ah JP];simp(maxSteps:=300000) (disch:=omega)[↓aa,uQ]
 |cons x r ih =>
  intro i b hd hb;simp only[aq]at hb;have hg:=ann hd;have hlt:=bw hd;have hne:gX l≠[]:=λh=>by have:=aT List.length h;rw[tz,bg]at this;omega
  have hc:(cond x 1 0:Nat)<=1:=by cases x<;>decide
  have h1:=IM (aBj C F) (N:=N) (kb (b:=b)) o_ (cond x 1 0) 1 k_ o_ (cond x 1 0:Nat) 1 rfl rfl;have h2:=amO x;have h5:=ih (i+1) (b++ar (cond x 1 0) 1) (bu hd) g_;have c1:((i+1:Nat):Int)=(i:Int)+1:=rfl;rw[c1,aA,md hne]at h5;have e:uQ (x::r)=ar (cond x 1 0) 1++uQ r:=rfl;simp only[hpW]at h1 h5⊢;rw[ah JP,e,<-h5,md hne];generalize ((cond x 1 0:Nat):Int)=K at *;simp(maxSteps:=300000) (disch:=omega)[↓ac,↓aa,hg,h1,h2]
def iV (rt:Nat)(q:Bool)(l:AH_):C_:=l.flatMap λc=>DK rt c q
def OV {rt:Nat}{q:Bool}(hR:rt<=11):∀{l:AH_},(∀c∈l,c.Fit∧nB rt c)->(iV rt q l).length<=170000000*l.length
 |[],_=>by simp[iV]
 |c::r,h=>by
  have a:=ahA (h c (.head _)).1 (h c (.head _)).2 hR q;have b:=OV hR (l:=r) (q:=q) λx hx=>h x (.tail _ hx)
  rw[iV]at b⊢;rw[aE,aj,aq];omega
def aow (R:Nat)(hR:R<=11)(n:Int)(c2 c3:AV)(f:eC)(A:AV)(m:Int)(Y Z:AV)(l:AH_)(hl:l.length<=2)(hc:∀c∈l,c.Fit∧nB R c):∀(r:AH_) (i N:Nat) (b:C_),l.drop i=r->b.length<=1000+170000000*i->3<=N->
  ∃M,(Dn prog).code (.loop ug) ⟨[(2,.ptr 0 0),(3,.ptr 1 0),(4,.ptr 2 0),(5,.fn fF [] [.ptr 2 0]),(63,.d (.lst (dH l))),(64,A_ l.length),(65,A_ i)],⟨hpW [A_ R,A_ n,c2,c3] [A,B_ f.common,A_ m,Y,Z] (.own false 1 (ai b)),N⟩⟩ =
  some (.exit 3,⟨[(3,.ptr 1 0),(4,.ptr 2 0),(5,.fn fF [] [.ptr 2 0])],⟨[(1,.cells [A,B_ f.common,A_ m,Y,Z]),(2,.cells [.own false 1 (ai (b++iV R f.common r))])],M⟩⟩):=by
 intro r
 induction r with
 |nil =>
  intro i N b hd hb hN;have hi:=aY hd;refine⟨N,?_⟩;rw[ah KJ];simp(maxSteps:=300000) (disch:=omega)[↓aa,iV]
 |cons c r ih =>
  intro i N b hd hb hN;have hg:=A8 hd;have hlt:=bw hd;obtain⟨hcf,hcm⟩:=hc c (bK (by rw[hd];exact .head _));have hil:=ahA hcf hcm hR f.common;have hp:bh prog GL [.d (.lst (ai b)),A_ R,.agg c.av,B_ f.common]=some (.tup [.own true 1 (ai (b++DK R c f.common)),A_ 0]):=by
   rcases axd b o_ _ (.inl rfl) R c hcf f.common with ⟨_,_,h⟩|⟨e,he,h,h2,_⟩
   .simpa using h
   .exact absurd hcm (by have:=h2 (by simp only[dY];omega);simpa using this)
  simp only[cJ.av]at hp;obtain⟨M,h5⟩:=ih (i+1) (N+1) (b++DK R c f.common) (bu hd) g_ o_;refine⟨M,?_⟩;have c1:((i+1:Nat):Int)=(i:Int)+1:=rfl;rw[c1,aA]at h5;have e:iV R f.common (c::r)=DK R c f.common++iV R f.common r:=rfl;have n0:N≠0∧N≠1∧N≠2:=o_;simp only[hpW]at h5⊢;rw[ah KJ,e,<-h5];generalize b++DK R c f.common=B1 at *;simp(maxSteps:=300000) (disch:=omega)[↓ac,↓aa,hg,hp]
abbrev kV:=@Int.tmod_eq_emod_of_nonneg
def MU (n:Nat):Nat:=(8-n % 8) % 8
def Bn (b:C_):C_:=b++List.replicate (MU b.length) 0
def ni (l:C_):C_:=if l=[] then [] else ar 6 3++(ar (min l.length 15) 4++((if 15<=l.length then ar (l.length-14) 8 else [])++bX l))
def aG6:Hv (λv=>[(2,.cells [v])]) 2:=⟨λv=>by simp,λv w=>by simp⟩
def an5 (F:D_):Hv (λv=>[(1,.cells F),(2,.cells [v])]) 2:=⟨λv=>by simp,λv w=>by simp⟩
def tS {a b:C_}:ai (a++b)=ai a++ai b:=by simp[ai]
def avO {h:am}{b:C_}(hb:b.length<=900000000)(k:Nat)(hk:k<=8)(K:Int)(hK:K=k):It [.int .u8 0] h (.own false 1 (ai b)) (A_ K)=some (.own false 1 (ai (b++List.replicate k 0)),h):=by
 subst hK;have e1:ej (A_ k) aX=some k:=by rw[yK o_ (by simp only[aX];omega)];simp
 have e2:List.replicate k [D.int .u8 0]=ai (List.replicate k 0):=by simp[ai]
 have e3:(ai (List.replicate k 0)).length=k:=by rw[bx];simp
 have hl:=bx (l:=b);unfold It;rw[e1];simp only[e2,tS];generalize ai (List.replicate k 0)=Z at *;generalize ai b=B at *;simp(maxSteps:=300000) (disch:=omega);exact⟨o_,ac o_⟩
def alJ (b:C_)(hb:b.length<=800000000)(N:Nat):(Dn prog).code (.seq sq (.seq rZ .ret)) ⟨[(4,.ptr 2 0),(5,.fn fF [] [.ptr 2 0])],⟨[(2,.cells [.own false 1 (ai b)])],N⟩⟩ =
  some (.ret,⟨[(4,.ptr 2 0)],⟨[(2,.cells [.own false 1 (ai (Bn (b++ar 7 3)))])],N⟩⟩):=by
 have h1:=IM aG6 (N:=N) (kb (b:=b)) o_ 7 3 k_ k_ 7 3 rfl rfl;have hl:(ai (b++ar 7 3)).length=b.length+3:=by rw[bx,aj,dk]
 obtain⟨r,hr⟩:∃r,r=(b.length+3) % 8:=⟨_,rfl⟩
 have t1:((b.length:Int)+3).tmod 8=(r:Int):=by rw[kV o_];omega
 have t2:(8-(r:Int)).tmod 8=(((8-r) % 8:Nat):Int):=by rw[kV o_];omega
 have e:b++ar 7 3++List.replicate ((8-r) % 8) 0=Bn (b++ar 7 3):=by rw[Bn,MU,aj,dk,hr]
 have h2:=λh K hK=>avO (h:=h) (b:=b++ar 7 3) g_ ((8-r) % 8) o_ K hK
 rw[e]at h2;have h3:=λh=>h2 h _ t2
 generalize Bn (b++ar 7 3)=B2 at *;generalize b++ar 7 3=B1 at *;simp(maxSteps:=300000) (disch:=omega)[↓ac,↓aa,h1,hl,t1,h3]
def aiE (A0 A1 A2 A3 Z:AV)(l:C_)(hl:l.length<=269)(hl2:∀n∈l,n<=255)(hZ:dZ Z (ai l))(b:C_)(hb:b.length<=700000000)(N:Nat)(T:VC) :
  (Dn prog).code (.seq (.seq rU
 (.seq rX
 (.cond (.m 84)
 (.seq r9
 (.seq sj
 (.seq (.seq si
 (.cond (.m 92)
 sn
 (.seq (K [10]) .skip)))
 (.seq (.seq su (F 3))
 rV))))
 (.seq (.seq (K [10]) (F 3)) .skip)))) T) ⟨[(3,.ptr 1 0),(4,.ptr 2 0),(5,.fn fF [] [.ptr 2 0])],⟨[(1,.cells [A0,A1,A2,A3,Z]),(2,.cells [.own false 1 (ai b)])],N⟩⟩ =
  (Dn prog).code T ⟨[(4,.ptr 2 0),(5,.fn fF [] [.ptr 2 0])],⟨[(2,.cells [.own false 1 (ai (b++ni l))])],N⟩⟩:=by
 obtain⟨⟨z1,z2,z3⟩,z4,z5⟩:=hZ.facts;have zl:=bx (l:=l);have hu:=Gd l o_ hl2 Z hZ;have ul:=fP (l:=l);have uz:=bx (l:=bX l);by_cases h0:l.length=0
 .have:l=[]:=ax h0;rw[ni,ac this,bj];simp(maxSteps:=300000) (disch:=omega)[↓ac,↓aa,-bn,z1,z2,z3,z4,z5]
 have hne:l≠[]:=λh=>h0 (by rw[h];rfl)
 have hze:=hZ.ne λh=>h0 (by rw[h]at zl;exact zl.symm)
 subst hze;rw[ni,aa hne];have p1:=IM (an5 [A0,A1,A2,A3,.d (.lst (ai l))]) (N:=N) (kb (b:=b)) o_ 6 3 k_ k_ 6 3 rfl rfl;have p2:=λnI h=>IM (an5 [A0,A1,A2,A3,.d (.lst (ai l))]) (N:=N) (kb (b:=b++ar 6 3)) g_ (min l.length 15) 4 k_ o_ nI 4 h rfl
 by_cases h15:15<=l.length
 .have p3:=IM (an5 [A0,A1,A2,A3,.d (.lst (ai l))]) (N:=N) (kb (b:=b++ar 6 3++ar (min l.length 15) 4)) g_ (l.length-14) 8 k_ o_ ((l.length:Int)-14) 8 o_ rfl;rw[ac h15];simp only[<-aA];have hl3:(b++ar 6 3++ar (min l.length 15) 4++ar (l.length-14) 8).length<=800000000:=by simp;omega
  have e:ai (b++ar 6 3++ar (min l.length 15) 4++ar (l.length-14) 8)++ai (bX l)=ai (b++ar 6 3++ar (min l.length 15) 4++ar (l.length-14) 8++bX l):=tS.symm;generalize b++ar 6 3++ar (min l.length 15) 4++ar (l.length-14) 8++bX l=B9 at *;generalize b++ar 6 3++ar (min l.length 15) 4++ar (l.length-14) 8=B3 at *;generalize b++ar 6 3++ar (min l.length 15) 4=B2 at *;generalize b++ar 6 3=B1 at *;generalize bX l=U at *;by_cases h16:15<l.length
  .have p2:=p2 15 o_;simp(maxSteps:=300000) (disch:=omega)[↓ac,↓aa,-bn,z1,z2,z3,z4,z5,p1,p2,p3,hu,e]
  .have p2:=p2 l.length o_;simp(maxSteps:=300000) (disch:=omega)[↓ac,↓aa,-bn,z1,z2,z3,z4,z5,p1,p2,p3,hu,e]
 .rw[aa h15,aK];simp only[<-aA];have hl3:(b++ar 6 3++ar (min l.length 15) 4).length<=800000000:=by simp;omega
  have e:ai (b++ar 6 3++ar (min l.length 15) 4)++ai (bX l)=ai (b++ar 6 3++ar (min l.length 15) 4++bX l):=tS.symm;generalize b++ar 6 3++ar (min l.length 15) 4++bX l=B9 at *;generalize b++ar 6 3++ar (min l.length 15) 4=B2 at *;generalize b++ar 6 3=B1 at *;generalize bX l=U at *;have p2:=p2 l.length o_;simp(maxSteps:=300000) (disch:=omega)[↓ac,↓aa,-bn,z1,z2,z3,z4,z5,p1,p2,hu,e]
def Vf (f:eC):C_:=match f.chans with
 |[]=>[]
 |c::_=>lE c.info
def gR (n:Int)(f:eC):C_:=if n=1 then ar 0 3++ar 0 4 else if f.common then ar 1 3++ar 0 4++ar 1 1++Vf f++ar f.mask.toNat 2++uQ f.bands.flatten else ar 1 3++ar 0 4++ar 0 1
def nq (R:Nat)(n:Int)(f:eC):C_:=Bn (gR n f++iV R f.common f.chans++ni f.fill++ar 7 3)
def ae8 {k:Nat}:∀{l:S_},(∀x∈l,x.length<=k)->l.flatten.length<=k*l.length
 |[],_=>by simp
 |x::r,h=>by
  have a:=h x (.head _);have b:=ae8 (l:=r) λy hy=>h y (.tail _ hy)
  rw[dC,aj,aq,Nat.mul_add];omega
def ae9 {R:Nat}(hR:R<=11){n:Int}{f:eC}(ok:sW R n f):f.bands.flatten.length<=320:=by
 have h:=ok.rest
 cases hc:f.chans with
 |nil=>rw[hc]at h;exact h.elim
 |cons c r =>
  rw[hc]at h;have hm:=ok.may c (by rw[hc];exact .head _);have hmx:=jY (gC hR hm.info);obtain⟨g1,g2⟩:=dV (gC hR hm.info);have hmm:c.info.many<=8:=by unfold aN.many;split<;>omega
  have hgl:c.info.groups.length<=8:=by have:=nu (λn hn=>(g1 n hn).1);omega
  simp only[Jx]at h;split at h
  .obtain⟨_,h⟩:=h;split at h
   .obtain⟨h1,h2⟩:=h;have:=ae8 (k:=40) (l:=f.bands) λx hx=>by have:=h2 x hx;omega
    omega
   .rw[h];simp
  .rw[h.2];simp
def dZ.view {x:AV}{l:E_}(h:dZ x l):(∀hp,viewArg hp x=some x)∧uc x=false:=by
 rcases h with rfl|⟨rfl,rfl⟩<;>exact⟨λ_=>rfl,rfl⟩
def Wn (R:Nat)(hR:R<=11)(n:Int)(hn:n=1∨n=2)(cb:Bool)(cz:Int)(f:eC)(hf:f.Fit)(ok:sW R n f)(X Y Z:AV)(hX:dZ X (dH f.chans))(hY:dZ Y (dj f.bands))(hZ:dZ Z (ai f.fill)) :
  bh prog Rw [jN R n cb cz,qB f X Y Z]=some (.own true 1 (ai (nq R n f))):=by
 obtain⟨⟨y1,y2,y3⟩,y4,y5⟩:=hY.facts;obtain⟨⟨z1,z2,z3⟩,z4,z5⟩:=hZ.facts;have hlen:=ok.len;have hfl:=ok.fill;have hmk:=ok.mask;have hne:dH f.chans≠[]:=λh=>by have:=aT List.length h;rw[Eq,bg]at this;omega
 have hxe:=hX.ne hne;subst hxe;have hmay:∀c∈f.chans,c.Fit∧nB R c:=λc hc=>⟨hf.chans.2 c hc,ok.may c hc⟩
 have hcl:=OV hR (q:=f.common) hmay;have hbl:=ae9 hR ok;have hr:dY R:=by simp only[dY];omega
 rw[aD aff afp rfl];obtain⟨T,hT⟩:∃T,T=(VC.seq (.seq rU
 (.seq rX
 (.cond (.m 84)
 (.seq r9
 (.seq sj
 (.seq (.seq si
 (.cond (.m 92)
 sn
 (.seq (K [10]) .skip)))
 (.seq (.seq su (F 3))
 rV))))
 (.seq (.seq (K [10]) (F 3)) .skip))))
 (.seq sq
 (.seq rZ
 .ret))):=⟨_,rfl⟩
 rw[<-hT];have hfill:(ni f.fill).length<=10000:=by
  unfold ni;split
  .simp
  .simp only[aj,dk,fP];split<;>simp<;>omega
 have hTr:∀(b:C_) (N:Nat),b.length<=600000000->(Dn prog).code T ⟨[(3,.ptr 1 0),(4,.ptr 2 0),(5,.fn fF [] [.ptr 2 0])],⟨[(1,.cells [.d (.lst (dH f.chans)),B_ f.common,A_ f.mask,Y,Z]),(2,.cells [.own false 1 (ai b)])],N⟩⟩=some (.ret,⟨[(4,.ptr 2 0)],⟨[(2,.cells [.own false 1 (ai (Bn (b++ni f.fill++ar 7 3)))])],N⟩⟩):=by
  intro b N hb;rw[hT,aiE _ _ _ _ Z f.fill hfl hf.fillI hZ b o_ N _,alJ _ (by rw[aj];omega)]
 have hL:=fun(b:C_) (hb:b.length<=1000)=>aow R hR n (B_ cb) (A_ cz) f (.d (.lst (dH f.chans))) f.mask Y Z f.chans o_ hmay f.chans 0 3 b rfl o_ (al _)
 have c0:((0:Nat):Int)=0:=rfl;simp only[c0,hpW]at hL;have pp:=λ{x:AV}{b:C_}(hx:inB x b) (hb:b.length<=1000)=>IM (aBj [A_ R,A_ n,B_ cb,A_ cz] [.d (.lst (dH f.chans)),B_ f.common,A_ f.mask,Y,Z]) (N:=3) hx (by omega)
 simp only[hpW]at pp;by_cases hn1:n=1
 .subst hn1;have q1:=pp (.inr (.inr ⟨rfl,rfl⟩)) s_ 0 3 k_ k_ 0 3 rfl rfl;have q2:=pp (kb (b:=[]++ar 0 3)) s_ 0 4 k_ k_ 0 4 rfl rfl;have e:gR 1 f=[]++ar 0 3++ar 0 4:=by rw[gR,ac rfl];rfl
  obtain⟨M,h1⟩:=hL (gR 1 f) (by rw[e];simp);have h2:=hTr (gR 1 f++iV R f.common f.chans) M (by rw[aj,e];simp;omega);have ew:Bn (gR 1 f++iV R f.common f.chans++ni f.fill++ar 7 3)=nq R 1 f:=rfl;rw[<-e]at q2;rw[ew]at h2;generalize nq R 1 f=W at *;generalize gR 1 f++iV R f.common f.chans=B2 at *;generalize gR 1 f=B1 at *;generalize []++ar 0 3=B0 at *;simp(maxSteps:=300000) (disch:=omega)[↓ac,↓aa,-bn,y1,y2,y3,y4,y5,z1,z2,z3,z4,z5,q1,q2,h1,h2]
 have hn2:n=2:=o_;subst hn2
 cases hch:f.chans with
 |nil=>rw[hch]at hlen;simp at hlen
 |cons c r =>
 have hdr:f.chans.drop 0=c::r:=hch;obtain⟨k0,g0⟩:=aJ.1 (A8 hdr);have hcm:=ok.may c (by rw[hch];exact .head _);rw[<-hch];have q1:=pp (.inr (.inr ⟨rfl,rfl⟩)) s_ 1 3 k_ k_ 1 3 rfl rfl;have q2:=pp (kb (b:=[]++ar 1 3)) s_ 0 4 k_ k_ 0 4 rfl rfl;have hb1:=amO f.common;have xl:=Eq (l:=f.chans)
 cases hco:f.common with
 |false =>
  have q3:=pp (kb (b:=[]++ar 1 3++ar 0 4)) s_ 0 1 k_ k_ 0 1 rfl rfl;have e:gR 2 f=[]++ar 1 3++ar 0 4++ar 0 1:=by rw[gR,aa k_,hco];rfl
  obtain⟨M,h1⟩:=hL (gR 2 f) (by rw[e];simp);have h2:=hTr (gR 2 f++iV R f.common f.chans) M (by rw[aj,e];simp;omega);have ew:Bn (gR 2 f++iV R f.common f.chans++ni f.fill++ar 7 3)=nq R 2 f:=rfl;rw[<-e]at q3;rw[ew]at h2;rw[hco]at q1 q2 q3 h1 h2 hb1;generalize nq R 2 f=W at *;generalize gR 2 f++iV R false f.chans=B2 at *;generalize gR 2 f=B1 at *;generalize []++ar 1 3++ar 0 4=B00 at *;generalize []++ar 1 3=B0 at *;simp only[cond]at hb1;simp(maxSteps:=300000) (disch:=omega)[↓ac,↓aa,-bn,y1,y2,y3,y4,y5,z1,z2,z3,z4,z5,hco,hb1,q1,q2,q3,h1,h2]
 |true =>
  have ht:=ok.rest;simp only[hch,Jx,hco,bi]at ht;have hil:=Lv (i:=c.info);have q3:=pp (kb (b:=[]++ar 1 3++ar 0 4)) s_ 1 1 k_ k_ 1 1 rfl rfl;have q4:=agY ([]++ar 1 3++ar 0 4++ar 1 1) s_ _ (.inl rfl) R c.info (hf.chans.2 c (by rw[hch];exact .head _)).info;rw[ac hr,au,ac hcm.info]at q4;have q5:=pp (kb (b:=[]++ar 1 3++ar 0 4++ar 1 1++lE c.info)) g_ f.mask.toNat 2 k_ o_ f.mask 2 o_ rfl;have q6:=aor [A_ R,A_ 2,B_ cb,A_ cz] [.d (.lst (dH f.chans)),B_ true,A_ f.mask,Y,Z] f.bands.flatten o_ 3 f.bands.flatten 0 ([]++ar 1 3++ar 0 4++ar 1 1++lE c.info++ar f.mask.toNat 2) rfl (by simp only[aj,dk,bg];omega);obtain⟨v,v1,v2⟩:=azo f.bands hf.bands.1 o_ Y hY;have e:gR 2 f=[]++ar 1 3++ar 0 4++ar 1 1++lE c.info++ar f.mask.toNat 2++uQ f.bands.flatten:=by rw[gR,aa k_,hco,ac rfl,Vf,hch];rfl
  have hml:=Tg (l:=f.bands.flatten);obtain⟨M,h1⟩:=hL (gR 2 f) (by rw[e];simp;omega);have h2:=hTr (gR 2 f++iV R f.common f.chans) M (by rw[aj,e];simp;omega);have ew:Bn (gR 2 f++iV R f.common f.chans++ni f.fill++ar 7 3)=nq R 2 f:=rfl;rw[<-e]at q6;rw[ew]at h2;rw[hco]at q1 q2 q3 q5 h1 h2 hb1;rw[c0]at q6;simp only[hpW,aN.cells]at q4 q6;generalize nq R 2 f=W at *;generalize gR 2 f++iV R true f.chans=B2 at *;generalize gR 2 f=B1 at *;generalize []++ar 1 3++ar 0 4++ar 1 1++lE c.info++ar f.mask.toNat 2=B04 at *;generalize []++ar 1 3++ar 0 4++ar 1 1++lE c.info=B03 at *;generalize []++ar 1 3++ar 0 4++ar 1 1=B02 at *;generalize []++ar 1 3++ar 0 4=B01 at *;generalize []++ar 1 3=B0 at *;obtain⟨vw1,vw2⟩:=hY.view;have hfv:lenOf (share (aG 1 (gX f.bands.flatten)))=some f.bands.flatten.length:=by
   rw[<-tz (l:=f.bands.flatten)]
   cases gX f.bands.flatten<;>rfl
  simp only[cond]at hb1;clear e hbl hml;generalize f.bands.flatten=FL at *;simp(maxSteps:=300000) (disch:=omega)[↓ac,↓aa,-bn,y1,y2,y3,y4,y5,z1,z2,z3,z4,z5,hco,g0,hb1,q1,q2,q3,q4,q5,q6,vw1,vw2,v1,v2,hfv,h1,h2]
def ox (rt n:Int):Prop:=dY rt∧(n=1∨n=2)
def ZB (rt n:Int)(cb:Bool)(cz:Int):(ox rt n∧bh prog Kl [jN rt n cb cz]=some (B_ true))∨(¬ox rt n∧bh prog Kl [jN rt n cb cz]=some (B_ false)):=by
 rw[aD ahB ahr rfl];by_cases h1:0<=rt
 rotate_left
 .refine .inr ⟨λh=>h1 h.1.1,?_⟩;simp(maxSteps:=300000) (disch:=omega)[↓ac,↓aa]
 by_cases h2:rt<=11
 rotate_left
 .refine .inr ⟨λh=>h2 h.1.2,?_⟩;simp(maxSteps:=300000) (disch:=omega)[↓ac,↓aa]
 by_cases h3:n=1
 .refine .inl ⟨⟨⟨h1,h2⟩,.inl h3⟩,?_⟩;simp(maxSteps:=300000) (disch:=omega)[↓ac,↓aa,h3]
 by_cases h4:n=2
 .refine .inl ⟨⟨⟨h1,h2⟩,.inr h4⟩,?_⟩;simp(maxSteps:=300000) (disch:=omega)[↓ac,↓aa,h4]
 .refine .inr ⟨λh=>h.2.elim h3 h4,?_⟩;simp(maxSteps:=300000) (disch:=omega)[↓ac,↓aa,h3,h4]
def amJ {R:Nat}(hR:R<=11){n:Int}{f:eC}(hf:f.Fit)(ok:sW R n f)(hn:n<=2):(nq R n f).length<=400000000:=by
 have h1:=OV hR (q:=f.common) (l:=f.chans) λc hc=>⟨hf.chans.2 c hc,ok.may c hc⟩
 have h2:=ae9 hR ok;have h3:=Tg (l:=f.bands.flatten);have h4:=ok.len;have h5:=ok.fill;have h6:(ni f.fill).length<=10000:=by
  unfold ni;split
  .simp
  .simp only[aj,dk,fP];split<;>simp<;>omega
 have h7:(Vf f).length<=20:=by
  unfold Vf;split
  .simp
  .exact Lv
 have h8:(gR n f).length<=1000:=by
  unfold gR;split
  .simp
  .split
   .simp only[aj,dk];omega
   .simp
 have h9:∀m,MU m<=7:=λm=>by unfold MU;omega
 have h10:=h9 (gR n f++iV R f.common f.chans++ni f.fill++ar 7 3).length;rw[nq,Bn,aj,bm];simp only[aj,dk]at h10⊢;omega
theorem dZ.one {x:AV}{l:E_}(h:dZ x l):((∀hp,viewOne hp x=some x)∧oE x=x)∧wg x=false:=by
 rcases h with rfl|⟨rfl,rfl⟩<;>exact⟨⟨λ_=>rfl,rfl⟩,rfl⟩
def avS (rt n:Int)(cb:Bool)(cz:Int)(f:eC)(hf:f.Fit)(X Y Z:AV)(hX:dZ X (dH f.chans))(hY:dZ Y (dj f.bands))(hZ:dZ Z (ai f.fill)) :
  (ox rt n∧sW rt.toNat n f∧bh prog P7 [jN rt n cb cz,qB f X Y Z]=some (.tup [A_ ((nq rt.toNat n f).length),A_ 0]))∨
  (¬(ox rt n∧sW rt.toNat n f)∧∃e:Int,e≠0∧bh prog P7 [jN rt n cb cz,qB f X Y Z]=some (.tup [A_ 0,A_ e])):=by
 obtain⟨⟨x1,x2,x3⟩,x4,x5⟩:=hX.facts;obtain⟨⟨y1,y2,y3⟩,y4,y5⟩:=hY.facts;obtain⟨⟨z1,z2,z3⟩,z4,z5⟩:=hZ.facts;obtain⟨⟨vx,ux⟩,wx⟩:=hX.one;obtain⟨⟨vy,uy⟩,wy⟩:=hY.one;obtain⟨⟨vz,uz⟩,wz⟩:=hZ.one;have hcf:=ZB rt n cb cz;simp only[jN,qB]at hcf;rcases hcf with ⟨hc,ec⟩|⟨hc,ec⟩
 rotate_left
 .refine .inr ⟨λh=>hc h.1,2,k_,?_⟩;rw[aD P6 Pm rfl];simp(maxSteps:=300000) (disch:=omega)[↓ac,↓aa,-bn,x1,x2,x3,x4,y1,y2,y3,y4,z1,z2,z3,z4,ec]
 have hrg:=arM rt n cb cz hc.1 hc.2 f hf X Y Z hX hY hZ;simp only[jN,qB]at hrg;rcases hrg with ⟨hr,er⟩|⟨hr,er⟩
 rotate_left
 .refine .inr ⟨λh=>hr h.2,8,k_,?_⟩;rw[aD P6 Pm rfl];simp(maxSteps:=300000) (disch:=omega)[↓ac,↓aa,-bn,x1,x2,x3,x4,y1,y2,y3,y4,z1,z2,z3,z4,ux,uy,uz,vx,vy,vz,wx,wy,wz,ec,er]
 refine .inl ⟨hc,hr,?_⟩;obtain⟨R,rfl⟩:=aB hc.1.1;simp only[au]at hr⊢;have hR:R<=11:=by have:=hc.1.2;omega
 have hw:=Wn R hR n hc.2 cb cz f hf hr X Y Z hX hY hZ;have hwl:=amJ hR hf hr (by rcases hc.2 with h|h<;>omega);have hbl:=bx (l:=nq R n f);simp only[jN,qB]at hw;generalize nq R n f=W at *;rw[aD P6 Pm rfl];simp(maxSteps:=300000) (disch:=omega)[↓ac,↓aa,-bn,x1,x2,x3,x4,y1,y2,y3,y4,z1,z2,z3,z4,ux,uy,uz,vx,vy,vz,wx,wy,wz,ec,er,hw]
def ata (rt n:Int)(cb:Bool)(cz:Int)(f:eC)(hf:f.Fit)(X Y Z:AV)(hX:dZ X (dH f.chans))(hY:dZ Y (dj f.bands))(hZ:dZ Z (ai f.fill)) :
  (ox rt n∧sW rt.toNat n f∧((nq rt.toNat n f).length:Int)<=1536*n∧bh prog Ai [jN rt n cb cz,qB f X Y Z]=some (A_ 0))∨
  (¬(ox rt n∧sW rt.toNat n f∧((nq rt.toNat n f).length:Int)<=1536*n)∧∃e:Int,e≠0∧bh prog Ai [jN rt n cb cz,qB f X Y Z]=some (A_ e)):=by
 obtain⟨⟨x1,x2,x3⟩,x4,x5⟩:=hX.facts;obtain⟨⟨y1,y2,y3⟩,y4,y5⟩:=hY.facts;obtain⟨⟨z1,z2,z3⟩,z4,z5⟩:=hZ.facts;obtain⟨⟨vx,ux⟩,wx⟩:=hX.one;obtain⟨⟨vy,uy⟩,wy⟩:=hY.one;obtain⟨⟨vz,uz⟩,wz⟩:=hZ.one;have hb:=avS rt n cb cz f hf X Y Z hX hY hZ;simp only[jN,qB]at hb;rw[aD ak8 akJ rfl];rcases hb with ⟨hc,hr,eb⟩|⟨hx,e,he,eb⟩
 .have hwl:=amJ (by have:=hc.1;omega) hf hr (by rcases hc.2 with h|h<;>omega);have hn:=hc.2;by_cases hl:((nq rt.toNat n f).length:Int)<=1536*n
  .refine .inl ⟨hc,hr,hl,?_⟩;generalize nq rt.toNat n f=W at *;simp(maxSteps:=300000) (disch:=omega)[↓ac,↓aa,-bn,x1,x2,x3,x4,y1,y2,y3,y4,z1,z2,z3,z4,ux,uy,uz,vx,vy,vz,wx,wy,wz,eb]
  .refine .inr ⟨λh=>hl h.2.2,9,k_,?_⟩;generalize nq rt.toNat n f=W at *;simp(maxSteps:=300000) (disch:=omega)[↓ac,↓aa,-bn,x1,x2,x3,x4,y1,y2,y3,y4,z1,z2,z3,z4,ux,uy,uz,vx,vy,vz,wx,wy,wz,eb]
 .refine .inr ⟨λh=>hx ⟨h.1,h.2.1⟩,e,he,?_⟩;simp(maxSteps:=300000) (disch:=omega)[↓ac,↓aa,-bn,x1,x2,x3,x4,y1,y2,y3,y4,z1,z2,z3,z4,ux,uy,uz,vx,vy,vz,wx,wy,wz,eb,he]
def F0:eC:=⟨[c0],false,0,[],[]⟩
def aBY:nB 0 c0:=by
 rcases PB 0 c0 aqq with ⟨_,h,_⟩|⟨_,_,h⟩|⟨_,h⟩
 .exact h
 .rw[aha]at h;simp at h
 .rw[aha]at h;simp at h
def aBN:F0.Fit where
 chans:=⟨by simp[F0],λc hc=>by simp only[F0,ay,co,d8]at hc;subst hc;exact aqq⟩
 mask:=k_
 bands:=by simp[F0]
 fill:=by simp[F0]
 fillI:=by simp[F0]
def awb:ox 0 1∧sW 0 1 F0:=by
 refine⟨⟨k_,.inl rfl⟩,rfl,k_,k_,λc hc=>?_,?_⟩
 .simp only[F0,ay,co,d8]at hc;subst hc;exact aBY
 .exact⟨rfl,rfl⟩
def aw4:nq 0 1 F0=List.replicate 29 0++[1,1,1]:=e_
def BR {m:Nat}{xs:E_}:dZ (share (aG m xs)) xs:=by
 cases xs with
 |nil=>exact .inr ⟨rfl,rfl⟩
 |cons x r=>exact .inl rfl
def azw {n:Nat}:List.replicate n [D.bool false]=gX (List.replicate n false):=by simp[gX]
def x0T (sh:Bool):Nat:=if sh then 1 else 2
def x1T (sh:Bool):Nat:=if sh then 4 else 6
def x2T (sh:Bool):Nat:=if sh then 3 else 5
def YF (b:C_)(i:aN)(a:Int):Option (N_×Bool×RS):=qf b (x0T i.short) (x1T i.short) (x2T i.short) i.many false ⟨a,0⟩
def Pc (b:C_)(i:aN)(a:Int):R N_ :=
 match YF b i a with
 |none=>.er 7
 |some (t,o,st)=>if st.e≠0 then .er (st.e-1) else if o then .er 7 else .ok t st.a.toNat
def abN {b:C_}{x1 x2:Nat}{fine:Bool}:∀{k:Nat}{o:Bool}{st:RS}{l:AA_}{o2:Bool}{st2:RS},jD b x1 x2 fine k o st=some (l,o2,st2)->l.length=k∧∀f∈l,f.coefs.length<=12
 |0,o,st,l,o2,st2,e=>by
  rw[jD]at e;injection e with e
  injection e with e1 e
  subst e1;exact⟨rfl,s_⟩
 |k+1,o,st,l,o2,st2,e=>by
  rw[jD]at e;split at e
  .exact absurd e (by simp)
  .rename_i hbad
   cases hq:jD b x1 x2 fine k (o ||K8 b x1 x2 fine st) (zm b x1 x2 fine st) with
   |none=>rw[hq]at e;exact absurd e (by simp)
   |some q =>
    obtain⟨q1,q2,q3⟩:=q;rw[hq]at e;injection e with e;injection e with e1 e
    obtain⟨i1,i2⟩:=abN hq;subst e1;refine⟨by simp[i1],λf hf=>?_⟩;rcases ay.1 hf with rfl|hf
    .unfold OK;split
     .simp
     .rename_i h0;simp only[acG];have he:(z8 b x1 x2 st).e=0:=aBi h0;rcases bD 12 (sR b x1 x2 st) with h|h
      .exact absurd ⟨h,he⟩ hbad
      .exact h
    .exact i2 f hf
def ZQ {b:C_}{x0 x1 x2:Nat}(hb:b.length<=1000000000)(h2:x0<=2):∀{k:Nat}{o:Bool}{st:RS}{t:N_}{o2:Bool}{st2:RS},st.fit->qf b x0 x1 x2 k o st=some (t,o2,st2)->st2.fit∧t.length=k∧∀l∈t,l.length<=3∧∀f∈l,f.coefs.length<=12
 |0,o,st,t,o2,st2,h,e=>by
  rw[qf]at e;injection e with e
  injection e with e1 e
  injection e with e2 e3
  subst e1 e3;exact⟨h,rfl,s_⟩
 |k+1,o,st,t,o2,st2,h,e=>by
  rw[qf]at e
  cases hq:jD b x1 x2 (T6 b x0 st) (sV b st x0) o (Ei b x0 st) with
  |none=>rw[hq]at e;exact absurd e (by simp)
  |some q =>
   obtain⟨q1,q2,q3⟩:=q;rw[hq]at e;simp only at e
   cases hw:qf b x0 x1 x2 k q2 q3 with
   |none=>rw[hw]at e;exact absurd e (by simp)
   |some w =>
    obtain⟨w1,w2,w3⟩:=w;rw[hw]at e;injection e with e;injection e with e1 e
    injection e with e2 e3
    obtain⟨f1,f2⟩:=YE hb (amW hb h) hq;obtain⟨i1,i2,i3⟩:=ZQ hb h2 f1 hw;obtain⟨j1,j2⟩:=abN hq;have v1:=w6 (b:=b) (st:=st) (s:=x0);have k1:2 ^ x0<=2 ^ 2:=aw o_ h2;simp only[au]at v1;subst e1 e3;refine⟨i1,by simp[i2],λl hl=>?_⟩;rcases ay.1 hl with rfl|hl
    .exact⟨o_,j2⟩
    .exact i3 l hl
abbrev pTn (b:C_)(i:aN)(t:N_)(n:Nat):Prop:=t.length=i.many∧n<=b.length∧∀l∈t,l.length<=3∧∀f∈l,f.coefs.length<=12
def at2 {h:am}{t:N_}{n e:Int}(ht:t≠[]):io h (.tup [aG 1 (cT t),A_ n,A_ e])=some (.tup [aG 1 (cT t),A_ n,A_ e]):=by
 cases t with
 |nil=>exact absurd rfl ht
 |cons x r=>rfl
def RS.inB (b:C_)(st:RS):Prop:=0<=st.a∧st.a<=b.length
def F6 {b:C_}{st:RS}{s:Int}(h:st.e=0∨st.inB b):(sN b st s).inB b:=by
 unfold sN;split
 .have:=ap6 (b:=b) (a:=st.a) (s:=s);show 0<=_∧_;simp only[];omega
 .rename_i he;exact h.resolve_left he
def aqV {b:C_}{sz:Nat}:∀{k:Nat}{st:RS},st.inB b->(xZ b sz k st).inB b
 |0,_,h=>h
 |_+1,_,h=>by rw[xZ];exact aqV (F6 (.inr h))
def azR {b:C_}{x1 x2:Nat}{fine:Bool}{st:RS}(h:st.inB b):(zm b x1 x2 fine st).inB b:=by
 unfold zm;split
 .exact F6 (.inr (F6 (.inr h)))
 .exact aqV (F6 (.inr (F6 (.inr (F6 (.inr (F6 (.inr h))))))))
def anE {b:C_}{x1 x2:Nat}{fine:Bool}:∀{k:Nat}{o:Bool}{st:RS}{l:AA_}{o2:Bool}{st2:RS},st.inB b->jD b x1 x2 fine k o st=some (l,o2,st2)->st2.inB b
 |0,o,st,l,o2,st2,h,e=>by
  rw[jD]at e;injection e with e
  injection e with e1 e
  injection e with e2 e3
  subst e3;exact h
 |k+1,o,st,l,o2,st2,h,e=>by
  rw[jD]at e;split at e
  .exact absurd e (by simp)
  .cases hq:jD b x1 x2 fine k (o ||K8 b x1 x2 fine st) (zm b x1 x2 fine st) with
   |none=>rw[hq]at e;exact absurd e (by simp)
   |some q =>
    obtain⟨q1,q2,q3⟩:=q;rw[hq]at e;injection e with e;injection e with e1 e
    injection e with e2 e3
    subst e3;exact anE (azR h) hq
def aBf {b:C_}{x0:Nat}{st:RS}(h:st.e=0∨st.inB b):(Ei b x0 st).inB b:=by
 unfold Ei;split
 .exact F6 (.inr (F6 h))
 .exact F6 h
def adO {b:C_}{x0 x1 x2:Nat}:∀{k:Nat}{o:Bool}{st:RS}{t:N_}{o2:Bool}{st2:RS},st.inB b∨(st.e=0∧1<=k)->qf b x0 x1 x2 k o st=some (t,o2,st2)->st2.inB b
 |0,o,st,t,o2,st2,h,e=>by
  rw[qf]at e;injection e with e
  injection e with e1 e
  injection e with e2 e3
  subst e3;rcases h with h|⟨_,h⟩
  .exact h
  .omega
 |k+1,o,st,t,o2,st2,h,e=>by
  rw[qf]at e
  cases hq:jD b x1 x2 (T6 b x0 st) (sV b st x0) o (Ei b x0 st) with
  |none=>rw[hq]at e;exact absurd e (by simp)
  |some q =>
   obtain⟨q1,q2,q3⟩:=q;rw[hq]at e;simp only at e
   cases hw:qf b x0 x1 x2 k q2 q3 with
   |none=>rw[hw]at e;exact absurd e (by simp)
   |some w =>
    obtain⟨w1,w2,w3⟩:=w;rw[hw]at e;injection e with e;injection e with e1 e
    injection e with e2 e3
    subst e3;have h0:st.e=0∨st.inB b:=by rcases h with h|⟨h,_⟩;exact .inr h;exact .inl h
    exact adO (.inl (anE (aBf h0) hq)) hw
def Aj (i:aN):1<=i.many∧i.many<=8:=by unfold aN.many;split<;>omega
theorem asb {b:C_}{i:aN}{a:Int}(hb:b.length<=1000000000)(ha:i64 a){t:N_}{n:Nat}(h:Pc b i a=.ok t n):pTn b i t n:=by
 rw[Pc]at h
 cases hq:YF b i a with
 |none=>rw[hq]at h;exact absurd h (by simp)
 |some q =>
  obtain⟨t',o,st⟩:=q;rw[hq]at h;simp only at h;rw[YF]at hq;obtain⟨j1,j2,j3⟩:=ZQ (st:=⟨a,0⟩) hb (by unfold x0T;split<;>omega) (show RS.fit ⟨a,0⟩ from ha) hq;have j4:=adO (.inr ⟨rfl,(Aj i).1⟩) hq;split at h
  .exact absurd h (by simp)
  .split at h
   .exact absurd h (by simp)
   .injection h with g1 g2
    subst g1 g2;obtain⟨k1,k2⟩:=j4;exact⟨j2,o_,j3⟩
def al7 (b:C_)(hb:b.length<=1000000000)(a:Int)(ha:i64 a)(i:aN)(hi:i.Fit)(hm:i.may 11):bh prog Rf [.d (.lst (ai b)),A_ a,.agg i.cells] =
  rK (pTn b i) (Pc b i a) (λt n=>some (.tup [aG 1 (cT t),A_ n,A_ 0])) (λe=>some (.tup [.nl,A_ 0,A_ (e+1)])):=by
 have hw:=pt i hi;rw[ac hm]at hw;have hsz:=An i;obtain⟨m1,m8⟩:=Aj i;obtain⟨M,hM,hL⟩:=ay1 b hb (A_ (if i.short then 1 else 3)) (A_ (if i.short then 7 else 12)) (x0T i.short) (x1T i.short) (x2T i.short) (by unfold x0T x1T x2T;cases i.short<;>decide) i.many m8 i.many 0 5 false ⟨a,0⟩ [] o_ rfl ha (al _);have c0:((0:Nat):Int)=0:=rfl;have n0:cT []=[]:=rfl;have hq0:qf b (x0T i.short) (x1T i.short) (x2T i.short) i.many false ⟨a,0⟩=YF b i a:=rfl;have hra:ra ⟨a,0⟩=a:=rfl;have hre:re ⟨a,0⟩=0:=rfl;rw[hq0]at hL;simp only[c0,n0,rl,aK,HT,hra,hre]at hL;have hszv:mG i.short=[A_ (x0T i.short:Nat),A_ (x1T i.short:Nat),A_ (x2T i.short:Nat),A_ (if i.short then 1 else 3),A_ (if i.short then 7 else 12)]:=by
  cases i.short<;>rfl
 rw[hszv]at hsz;have hp:=λt n=>asb (b:=b) (i:=i) (a:=a) (t:=t) (n:=n) hb ha
 have hin0:∀t o st,YF b i a=some (t,o,st)->st.inB b:=λt o st h=>adO (.inr ⟨rfl,m1⟩) h
 rw[Pc]at hp⊢;rw[aD afG afq rfl];simp only[aN.cells]at hw hsz⊢;generalize x0T i.short=X0 at *;generalize x1T i.short=X1 at *;generalize x2T i.short=X2 at *;generalize (if i.short then (1:Int) else 3)=Y3 at *;generalize (if i.short then (7:Int) else 12)=Y4 at *
 cases hq:YF b i a with
 |none =>
  rw[hq]at hL;simp only at hL⊢;rw[jg];simp(maxSteps:=300000) (disch:=omega)[↓ac,↓aa,hw,hsz,hL]
 |some q =>
  obtain⟨t,o,st⟩:=q;rw[hq]at hL hp;simp only at hL hp⊢;obtain⟨sa,se⟩:=st;by_cases he:se=0
  .subst he;have hin:=hin0 t o ⟨sa,0⟩ hq;obtain⟨k1,k2⟩:=hin;simp only at k1 k2;obtain⟨A,rfl⟩:=aB k1;have hra2:ra ⟨(A:Int),0⟩=(A:Int):=rfl;have hre2:re ⟨(A:Int),0⟩=0:=rfl;simp only[hra2,hre2,c0]at hL
   cases o with
   |true =>
    simp only[ne_eq,not_true_eq_false,bl,bi]at hp⊢;rw[jg];simp(maxSteps:=300000) (disch:=omega)[↓ac,↓aa,hw,hsz,hL]
   |false =>
    simp only[ne_eq,not_true_eq_false,bl,ao]at hp⊢;have hpt:=hp t _ rfl;have htn:t≠[]:=λh=>by rw[h]at hpt;have:=hpt.1;simp at this;omega
    rw[fe hpt];have hrt:=λh n e=>at2 (h:=h) (n:=n) (e:=e) htn
    simp(maxSteps:=300000) (disch:=omega)[↓ac,↓aa,hw,hsz,hL,-Zl,hrt]
  .have hre2:re ⟨sa,se⟩=se:=rfl;have hse:((se-1:Nat):Int)+1=(se:Int):=o_;simp only[hre2]at hL;simp only[ne_eq,he,not_false_eq_true,bi]at hp⊢;rw[jg,hse];simp(maxSteps:=300000) (disch:=omega)[↓ac,↓aa,hw,hsz,hL,he]
abbrev Bp:D_:=[.ptr 0 0,.ptr 5 0,.ptr 4 0,.ptr 6 0]
abbrev ajl:AV:=.fn L7 [] [.ptr 0 0,.ptr 5 0,.ptr 6 0]
abbrev xe:D_:=[.fn Ac [] Bp,.fn oL [] [.ptr 3 0,.ptr 4 0,.ptr 2 0,.ptr 0 0,.ptr 5 0,.ptr 1 0,.ptr 6 0],.fn z6 [] Bp,.fn zS [] Bp,.fn Am [] [.ptr 9 0,.ptr 7 0],.fn Ae [] [.ptr 9 0,.ptr 8 0],.fn oN [] [.ptr 8 0,.ptr 0 0,.ptr 5 0,.ptr 4 0,.ptr 6 0],.fn Ag [] [.ptr 7 0,.ptr 9 0]]
abbrev fw (b:C_)(r:Int)(q:Bool)(iv cs:D_)(nx e od is:Int):am:=[(0,.cells [.d (.lst (ai b))]),(1,.cells [A_ r]),(2,.cells [B_ q]),(3,.cells iv),(4,.cells cs),(5,.cells [A_ nx]),(6,.cells [A_ e]),(7,.cells [A_ od]),(8,.cells [A_ is]),(9,.cells [ajl]),(10,.cells xe)]
def avf {m:Nat}{xs:E_}:CO (share (aG m xs))=share (aG m xs):=by cases xs<;>rfl
def afs (x:AV)(l:G_)(hl:l.length<=1000000000)(hx:elems [] x=some (aH l)):bh prog Ed [x]=some (.own true 1 (aH l)):=by
 have hl2:(aH l).length=l.length:=iD;rw[aD R6 R5 rfl];have h4:Nat.ble l.length 4294967296=true:=by rw[bp];omega
 rw[ji];simp(maxSteps:=300000) (disch:=omega)[db,OA,hx,h4]
def aea (i:aN)(hi:i.groups.length<=1000000):bh prog Gj [.agg i.cells]=some (.agg (Uf i)):=by
 have h:=afs (.d (.lst (aH i.groups))) i.groups o_ rfl;simp only[aN.cells];rw[aD alp ali rfl];simp(maxSteps:=300000) (disch:=omega)[↓ac,↓aa,h]
abbrev zI:D_:=[.d (.int .u8 0),.d (.int .u8 0),A_ 0,.nl]
def apS:bh prog Gj [.agg zI]=some (.agg (Uf ⟨0,0,0,[]⟩)):=BJ 400 (by kernel_rfl)
section
variable (b:C_)(r:Int)(q:Bool)(iv:D_)(nx od is:Int)(N:Nat)
theorem axu (hq:q=true)(i:aN)(hi:i.groups.length<=1000000)(hiv:iv=i.cells)(a0 a1 a2 a3 a4 a5 a6 a7 a8:AV):(Dn prog).call oL [.ptr 3 0,.ptr 4 0,.ptr 2 0,.ptr 0 0,.ptr 5 0,.ptr 1 0,.ptr 6 0] ⟨fw b r q iv [a0,a1,a2,a3,a4,a5,a6,a7,a8] nx 0 od is,N⟩ =
  some (.tup [],⟨fw b r q iv [a0,.d (.int .u8 i.seq),.d (.int .u8 i.shape),A_ i.max,.own false 1 (aH i.groups),a5,a6,a7,a8] nx 0 od is,N⟩):=by
 subst hq hiv;have h:=aea i hi;simp only[aN.cells,Uf]at h⊢;rw[bb Xe WA rfl];simp(maxSteps:=300000) (disch:=omega)[↓ac,↓aa,h]
def ax3 (i:aN)(hi:i.Fit)(hm:i.may 11)(h1:is≠1)(a0 a5 a6 a7 a8:AV):(Dn prog).call oN [.ptr 8 0,.ptr 0 0,.ptr 5 0,.ptr 4 0,.ptr 6 0] ⟨fw b r q iv [a0,.d (.int .u8 i.seq),.d (.int .u8 i.shape),A_ i.max,.own false 1 (aH i.groups),a5,a6,a7,a8] nx 0 od is,N⟩ =
  some (.tup [],⟨fw b r q iv [a0,.d (.int .u8 i.seq),.d (.int .u8 i.shape),A_ i.max,.own false 1 (aH i.groups),a5,a6,.own false 1 (cT (List.replicate i.many [])),a8] nx 0 od is,N⟩):=by
 have hw:=pt i hi;rw[ac hm]at hw;have hmm:=Aj i;have hk:=Fs (z:=[.lst []]) (n:=i.many) o_;have e:List.replicate i.many [D.lst []]=cT (List.replicate i.many []):=by simp[cT,fc]
 rw[e]at hk;simp only[aN.cells]at hw;rw[bb Wc WV rfl];simp(maxSteps:=300000) (disch:=omega)[↓ac,↓aa,h1,hw,hk]
end
section
variable (b:C_)(hb:b.length<=1000000000)(r:Int)(q:Bool)(iv:D_)(nx od is:Int)(hn:i64 nx)(N:Nat)
include hb hn
theorem aAE (a0 a1 a2 a3 a4 a5 a6 a7 a8:AV):(Dn prog).call Ac Bp ⟨fw b r q iv [a0,a1,a2,a3,a4,a5,a6,a7,a8] nx 0 od is,N⟩ =
  rK (pG b 8) (bf b nx 8) (λv n=>some (.tup [],⟨fw b r q iv [A_ v,a1,a2,a3,a4,a5,a6,a7,a8] n 0 od is,N⟩)) (λe=>some (.tup [],⟨fw b r q iv [A_ 0,a1,a2,a3,a4,a5,a6,a7,a8] 0 (e+1) od is,N⟩)):=by
 have h:=gY b nx 8 hb hn;rw[bb alx aly rfl];simp(maxSteps:=300000) (disch:=omega)[↓ac,↓aa,h]
theorem apY (cs:D_):(Dn prog).call L7 [.ptr 0 0,.ptr 5 0,.ptr 6 0] ⟨fw b r q iv cs nx 0 od is,N⟩ =
  rK (pG b 1) (bf b nx 1) (λv n=>some (A_ v,⟨fw b r q iv cs n 0 od is,N⟩)) (λe=>some (A_ 0,⟨fw b r q iv cs 0 (e+1) od is,N⟩)):=by
 have h:=gY b nx 1 hb hn;rw[bb akI al4 rfl];simp(maxSteps:=300000) (disch:=omega)[↓ac,↓aa,h]
theorem aBB (cs:D_):(Dn prog).call Am [.ptr 9 0,.ptr 7 0] ⟨fw b r q iv cs nx 0 od is,N⟩ =
  rK (pG b 1) (bf b nx 1) (λv n=>some (.tup [],⟨fw b r q iv cs n 0 v is,N⟩)) (λe=>some (.tup [],⟨fw b r q iv cs 0 (e+1) 0 is,N⟩)):=by
 have h:=apY b hb r q iv nx od is hn N cs;rw[bb alz akv rfl];simp(maxSteps:=300000) (disch:=omega)[↓ac,↓aa,h]
theorem aBs (cs:D_):(Dn prog).call Ae [.ptr 9 0,.ptr 8 0] ⟨fw b r q iv cs nx 0 od is,N⟩ =
  rK (pG b 1) (bf b nx 1) (λv n=>some (.tup [],⟨fw b r q iv cs n 0 od v,N⟩)) (λe=>some (.tup [],⟨fw b r q iv cs 0 (e+1) od 0,N⟩)):=by
 have h:=apY b hb r q iv nx od is hn N cs;rw[bb akL akG rfl];simp(maxSteps:=300000) (disch:=omega)[↓ac,↓aa,h]
theorem aAm (cs:D_)(ho:0<=od∧od<=1):(Dn prog).call Ag [.ptr 7 0,.ptr 9 0] ⟨fw b r q iv cs nx 0 od is,N⟩ =
  rK (pG b 1) (bf b nx 1) (λv n=>some (.tup [],⟨fw b r q iv cs n 0 (Zw od v) is,N⟩)) (λe=>some (.tup [],⟨fw b r q iv cs 0 (e+1) od is,N⟩)):=by
 have h:=apY b hb r q iv nx od is hn N cs;rw[bb akE ak6 rfl];simp(maxSteps:=300000) (disch:=omega)[↓ac,↓aa,h];refine abu (λ_ _ h=>eD h) (λv n e2 hp=>?_) λe e2=>by simp(maxSteps:=300000) (disch:=omega)[ZD]
 have hv:v<2:=hp.1;simp(maxSteps:=300000) (disch:=omega)[ZD]
theorem az6 (i:aN)(hi:i.Fit)(hm:i.may 11)(hg:i.groups≠[])(a0 a5 a6 a7 a8:AV):(Dn prog).call z6 Bp ⟨fw b r q iv [a0,.d (.int .u8 i.seq),.d (.int .u8 i.shape),A_ i.max,.own false 1 (aH i.groups),a5,a6,a7,a8] nx 0 od is,N⟩ =
  rK (Wm b i.max.toNat i.groups.length) (vW b i nx) (λg n=>some (.tup [],⟨fw b r q iv [a0,.d (.int .u8 i.seq),.d (.int .u8 i.shape),A_ i.max,.own false 1 (aH i.groups),aG 1 (bF g),a6,a7,a8] n 0 od is,N⟩)) (λe=>some (.tup [],⟨fw b r q iv [a0,.d (.int .u8 i.seq),.d (.int .u8 i.shape),A_ i.max,.own false 1 (aH i.groups),.nl,a6,a7,a8] 0 (e+1) od is,N⟩)):=by
 have h:=avt b nx i hb hn hi hm;simp only[aN.cells]at h;rw[bb akZ akQ rfl];simp(maxSteps:=300000) (disch:=omega)[↓ac,↓aa,-bn,h]
theorem azL (g:Int)(hg:0<=g∧g<=255)(m:Int)(hm:0<=m∧m<=40)(S:H_)(hS:S≠[])(hl:S.length<=8)(hf:fJ m S)(hf2:∀l∈S,l.length<=1000)(hok:∀l∈S,agQ l∧apT l)(a1 a2 a3 a4 a6 a7 a8:AV):(Dn prog).call zS Bp ⟨fw b r q iv [A_ g,a1,a2,a3,a4,aG 1 (bF S),a6,a7,a8] nx 0 od is,N⟩ =
  rK (pSc b S) (zZ b S nx g) (λt n=>some (.tup [],⟨fw b r q iv [A_ g,a1,a2,a3,a4,aG 1 (bF S),share (aG 1 (cZ t)),a7,a8] n 0 od is,N⟩)) (λe=>some (.tup [],⟨fw b r q iv [A_ g,a1,a2,a3,a4,aG 1 (bF S),.nl,a7,a8] 0 (e+1) od is,N⟩)):=by
 have h:=arg b hb nx g m hn hg S hl hm hf hf2 hok;rw[bb alq akM rfl]
 cases S with
 |nil=>exact absurd rfl hS
 |cons s0 S0 =>
  have e:aG 1 (bF (s0::S0))=.own false 1 (bF (s0::S0)):=rfl;rw[e];simp(maxSteps:=300000) (disch:=omega)[↓ac,↓aa,-bn,h,anQ,avf,aiU,IX,Fc]
theorem amR (hq:q=false)(hr:dY r)(i:aN)(hi:i.groups.length<=1000000)(hiv:iv=i.cells∨iv=zI)(a0 a1 a2 a3 a4 a5 a6 a7 a8:AV):(Dn prog).call oL [.ptr 3 0,.ptr 4 0,.ptr 2 0,.ptr 0 0,.ptr 5 0,.ptr 1 0,.ptr 6 0] ⟨fw b r q iv [a0,a1,a2,a3,a4,a5,a6,a7,a8] nx 0 od is,N⟩ =
  rK (pI b r.toNat) (mY b nx r.toNat) (λj n=>some (.tup [],⟨fw b r q iv [a0,.d (.int .u8 j.seq),.d (.int .u8 j.shape),A_ j.max,.own false 1 (aH j.groups),a5,a6,a7,a8] n 0 od is,N⟩)) (λe=>some (.tup [],⟨fw b r q iv [a0,.d (.int .u8 0),.d (.int .u8 0),A_ 0,.nl,a5,a6,a7,a8] 0 (e+1) od is,N⟩)):=by
 subst hq;have h:=aea i hi;have h0:=apS;have hG:=Yh b nx r hb hn;rw[ac hr]at hG;rcases hiv with rfl|rfl
 all_goals
  simp only[aN.cells,Uf,Xu]at h hG⊢;rw[bb Xe WA rfl];simp(maxSteps:=300000) (disch:=omega)[↓ac,↓aa,h,h0,hG]
theorem anu (i:aN)(hi:i.Fit)(hm:i.may 11)(h1:is=1)(a0 a5 a6 a7 a8:AV):(Dn prog).call oN [.ptr 8 0,.ptr 0 0,.ptr 5 0,.ptr 4 0,.ptr 6 0] ⟨fw b r q iv [a0,.d (.int .u8 i.seq),.d (.int .u8 i.shape),A_ i.max,.own false 1 (aH i.groups),a5,a6,a7,a8] nx 0 od is,N⟩ =
  rK (pTn b i) (Pc b i nx) (λt n=>some (.tup [],⟨fw b r q iv [a0,.d (.int .u8 i.seq),.d (.int .u8 i.shape),A_ i.max,.own false 1 (aH i.groups),a5,a6,aG 1 (cT t),a8] n 0 od is,N⟩)) (λe=>some (.tup [],⟨fw b r q iv [a0,.d (.int .u8 i.seq),.d (.int .u8 i.shape),A_ i.max,.own false 1 (aH i.groups),a5,a6,.nl,a8] 0 (e+1) od is,N⟩)):=by
 subst h1;have h:=al7 b hb nx hn i hi hm;simp only[aN.cells]at h;rw[bb Wc WV rfl];simp(maxSteps:=300000) (disch:=omega)[↓ac,↓aa,-bn,h]
end
abbrev agy:D_:=[A_ 0,.d (.int .u8 0),.d (.int .u8 0),A_ 0,.nl,.nl,.nl,.nl,.nl]
abbrev act (i:Int):aW:=[(5,.ptr 0 0),(7,.ptr 1 0),(10,.ptr 4 0),(11,.ptr 5 0),(12,.ptr 6 0),(13,.ptr 7 0),(14,.ptr 8 0),(60,.sl 10 0 8),(61,A_ 8),(62,A_ i)]
abbrev aCb:aW:=[(5,.ptr 0 0),(7,.ptr 1 0),(10,.ptr 4 0),(11,.ptr 5 0),(12,.ptr 6 0),(13,.ptr 7 0),(14,.ptr 8 0)]
section
variable (b:C_)(r:Int)(q:Bool)(iv:D_)(N:Nat)
def asU {cs cs2:D_}{nx nx2 e0 od od2 is is2:Int}(i:Nat)(hi:i<8)(f:FuncId)(caps:D_)(hF:xe[i]?=some (.fn f [] caps))(hF2:firm (firm (firm (share (.fn f [] caps))))=.fn f [] caps)
  (h:(Dn prog).call f caps ⟨fw b r q iv cs nx 0 od is,N⟩=some (.tup [],⟨fw b r q iv cs2 nx2 0 od2 is2,N⟩)) :
  (Dn prog).code (.loop kC) ⟨act i,⟨fw b r q iv cs nx e0 od is,N⟩⟩=(Dn prog).code (.loop kC) ⟨act ((i+1:Nat):Int),⟨fw b r q iv cs2 nx2 0 od2 is2,N⟩⟩:=by
 have c1:((i+1:Nat):Int)=(i:Int)+1:=rfl;obtain⟨hlt,e⟩:=aJ.1 hF;rw[c1,ah Kk];simp(maxSteps:=300000) (disch:=omega)[↓ac,↓aa,e,hF2,h]
theorem aAM {cs:D_}{a0 a1 a2 a3 a4 a5 a6 a7 a8:AV}{nx nx2 e0 od od2 is is2:Int}(i:Nat)(hi:i<8)(f:FuncId)(caps:D_)(hF:xe[i]?=some (.fn f [] caps))(hF2:firm (firm (firm (share (.fn f [] caps))))=.fn f [] caps)(e:Nat)
  (h:(Dn prog).call f caps ⟨fw b r q iv cs nx 0 od is,N⟩=some (.tup [],⟨fw b r q iv [a0,a1,a2,a3,a4,a5,a6,a7,a8] nx2 ((e:Int)+1) od2 is2,N⟩)) :
  (Dn prog).code (.loop kC) ⟨act i,⟨fw b r q iv cs nx e0 od is,N⟩⟩=some (.ret,⟨[(10,.ptr 4 0),(11,.ptr 5 0),(12,.ptr 6 0)],⟨fw b r q iv agy 0 ((e:Int)+1) od2 is2,N⟩⟩):=by
 obtain⟨hlt,e1⟩:=aJ.1 hF;rw[ah Kk];simp(maxSteps:=300000) (disch:=omega)[↓ac,↓aa,e1,hF2,h]
theorem ax9 {cs:D_}{nx e0 od is:Int}:(Dn prog).code (.loop kC) ⟨act 8,⟨fw b r q iv cs nx e0 od is,N⟩⟩=some (.exit 0,⟨aCb,⟨fw b r q iv cs nx e0 od is,N⟩⟩):=by
 rw[ah Kk];simp(maxSteps:=300000) (disch:=omega)[↓ac,↓aa]
end
abbrev qk:=@Int.toNat_of_nonneg
structure Hd where
 gain:Nat
 inf:aN
 S:H_
 T:J_
 F:N_
 od:Int
 is:Nat
def C8 (b:C_)(a:Int)(r:Nat)(q:Bool)(i:aN):R Hd :=
 (bf b a 8).bind λg n=>(if q then R.ok i n else mY b n r).bind λj n=>(vW b j n).bind λS n=>(zZ b S n g).bind λT n =>
  (bf b n 1).bind λo n=>(bf b n 1).bind λs n=>(if s=1 then Pc b j n else R.ok (List.replicate j.many []) n).bind λF n=>(bf b n 1).bind λp n=>R.ok ⟨g,j,S,T,F,Zw o p,s⟩ n
abbrev aiR (H:Hd):D_:=[A_ H.gain,.d (.int .u8 H.inf.seq),.d (.int .u8 H.inf.shape),A_ H.inf.max,.own false 1 (aH H.inf.groups),aG 1 (bF H.S),share (aG 1 (cZ H.T)),aG 1 (cT H.F),.nl]
section
variable (b:C_)(r:Int)(q:Bool)(iv:D_)(N:Nat)
def Xj (e0:Int)(i:Nat)(cs:D_)(nx od is:Int)(x:R Hd):Prop :=
 (∀H n,x=.ok H n->(Dn prog).code (.loop kC) ⟨act i,⟨fw b r q iv cs nx e0 od is,N⟩⟩=some (.exit 0,⟨aCb,⟨fw b r q iv (aiR H) n 0 H.od H.is,N⟩⟩))∧
 (∀e,x=.er e->∃od2 is2,(Dn prog).code (.loop kC) ⟨act i,⟨fw b r q iv cs nx e0 od is,N⟩⟩=some (.ret,⟨[(10,.ptr 4 0),(11,.ptr 5 0),(12,.ptr 6 0)],⟨fw b r q iv agy 0 ((e:Int)+1) od2 is2,N⟩⟩))
theorem aAD {e0:Int}{i:Nat}{cs cs2:D_}{nx nx2 od od2 is is2:Int}{x:R Hd}(hi:i<8)(f:FuncId)(caps:D_)(hF:xe[i]?=some (.fn f [] caps))(hF2:firm (firm (firm (share (.fn f [] caps))))=.fn f [] caps)
  (h:(Dn prog).call f caps ⟨fw b r q iv cs nx 0 od is,N⟩=some (.tup [],⟨fw b r q iv cs2 nx2 0 od2 is2,N⟩))(ho:Xj b r q iv N 0 (i+1) cs2 nx2 od2 is2 x):Xj b r q iv N e0 i cs nx od is x:=by
 refine⟨λH n e=>?_,λe h2=>?_⟩
 .rw[asU b r q iv N i hi f caps hF hF2 h];exact ho.1 H n e
 .rw[asU b r q iv N i hi f caps hF hF2 h];exact ho.2 e h2
theorem aAk {e0:Int}{i:Nat}{cs:D_}{a0 a1 a2 a3 a4 a5 a6 a7 a8:AV}{nx nx2 od od2 is is2:Int}{e:Nat}(hi:i<8)(f:FuncId)(caps:D_)(hF:xe[i]?=some (.fn f [] caps))(hF2:firm (firm (firm (share (.fn f [] caps))))=.fn f [] caps)
  (h:(Dn prog).call f caps ⟨fw b r q iv cs nx 0 od is,N⟩=some (.tup [],⟨fw b r q iv [a0,a1,a2,a3,a4,a5,a6,a7,a8] nx2 ((e:Int)+1) od2 is2,N⟩)):Xj b r q iv N e0 i cs nx od is (.er e):=by
 refine⟨λH n h2=>absurd h2 s_,λe' h2=>?_⟩
 grind [aAM]
end
def apa {b:C_}{i:aN}{g:H_}{n:Nat}(hm:i.may 11)(h:Wm b i.max.toNat i.groups.length g n) :
  g≠[]∧g.length<=8∧ke i g∧(∀l∈g,l.length<=100)∧∀l∈g,agQ l∧apT l:=by
 obtain⟨h1,h2,h3⟩:=h;have hmx:=jY hm;obtain⟨q1,q2⟩:=dV hm;have hmm:=Aj i;have hgl:i.groups.length<=8:=by have:=nu (λn hn=>(q1 n hn).1);omega
 have hgn:i.groups≠[]:=λh=>by grind
 have hg1:=bN.2 hgn;have hmc:((i.max.toNat:Nat):Int)=i.max:=qk hmx.1;have hf:∀l∈g,fitsS i.max l:=λl hl=>by simp_all
 refine⟨λh=>by simp_all,o_,⟨h3,hf⟩,λl hl=>by grind,λl hl=>⟨⟨d_,λs hs=>?_⟩,PE (hf l hl)⟩⟩;have:=uv (hf l hl) o_ s hs;omega
def rD {α β:Type}{x:R α}{f:α->Nat->R β}{v:β}{n:Nat}(h:x.bind f=.ok v n):∃u m,x=.ok u m∧f u m=.ok v n:=by
 cases x with
 |ok u m=>exact⟨u,m,rfl,h⟩
 |er e=>simp_all
def aj6 {α:Type}{c:Prop}[Decidable c]{v w:α}{n m:Nat}(h:Uc c v n=.ok w m):c∧v=w∧n=m:=by
 grind [Uc]
def amu {b:C_}:∀{k a:Nat}{l:C_}{n:Nat},a<=b.length->AG b k a=.ok l n->n<=b.length
 |0,a,l,n,ha,h=>by
  grind [AG]
 |k+1,a,l,n,ha,h=>by
  obtain⟨v,m,h1,h⟩:=rD h;obtain⟨l2,m2,h2,h⟩:=rD h;have:=amu (eD h1).2 h2
  simp_all
theorem Sz {b:C_}{a:Int}{r:Nat}(hr:r<=11){i:aN}{n:Nat}(h:mY b a r=.ok i n):pI b r i n:=by
 obtain⟨o,n1,h1,h⟩:=rD h;obtain⟨q,n2,h2,h⟩:=rD h;obtain⟨s,n3,h3,h⟩:=rD h;have key:i.may r∧n<=b.length:=by
  split at h
  .obtain⟨m,n4,h4,h⟩:=rD h;obtain⟨l,n5,h5,h⟩:=rD h;obtain⟨hc,e1,e2⟩:=aj6 h;have:=amu (eD h4).2 h5
   simp_all
  .obtain⟨m,n4,h4,h⟩:=rD h;obtain⟨p,n5,h5,h⟩:=rD h;obtain⟨hc,e1,e2⟩:=aj6 h;have:=(eD h5).2
   simp_all
 obtain⟨g1,g2⟩:=dV (gC hr key.1);have hmm:=Aj i;exact⟨key.1,key.2,by have:=nu (λn hn=>(g1 n hn).1);omega⟩
structure pHd (b:C_)(r:Nat)(H:Hd)(n:Nat):Prop where
 gain:H.gain<=255
 fit:H.inf.Fit
 may:H.inf.may r
 S:ke H.inf H.S
 Sl:∀l∈H.S,l.length<=100
 T:H.T.map List.length=H.S.map (λl=>(aM l).length)
 F:H.F.length=H.inf.many∧∀l∈H.F,l.length<=3∧∀f∈l,f.coefs.length<=12
 od:0<=H.od∧H.od<=1
 is:H.is<=1
 n:n<=b.length
theorem amU {r:Nat}{i:aN}(hr:r<=11)(h:i.may r)(hl:i.groups.length<=100):i.Fit:=by
 have h11:=gC hr h;have hmx:=jY h11;obtain⟨g1,g2⟩:=dV h11;exact⟨by have:=h.1;omega,by have:=h.2.1;omega,o_,o_,λn hn=>by grind⟩
abbrev QX (b:C_)(r:Nat)(x:R Hd):Prop:=∀H n,x=.ok H n->pHd b r H n
def Cp {b:C_}{r:Int}{q:Bool}{iv:D_}{N R0:Nat}{e0:Int}{i:Nat}{cs cs2:D_}{nx nx2 od od2 is is2:Int}{x:R Hd}(hi:i<8)(f:FuncId)(caps:D_)(hF:xe[i]?=some (.fn f [] caps))(hF2:firm (firm (firm (share (.fn f [] caps))))=.fn f [] caps)
  (h:(Dn prog).call f caps ⟨fw b r q iv cs nx 0 od is,N⟩=some (.tup [],⟨fw b r q iv cs2 nx2 0 od2 is2,N⟩))(ho:Xj b r q iv N 0 (i+1) cs2 nx2 od2 is2 x∧QX b R0 x):Xj b r q iv N e0 i cs nx od is x∧QX b R0 x :=
 by grind [aAD]
def BH {b:C_}{r:Int}{q:Bool}{iv:D_}{N R0:Nat}{e0:Int}{i:Nat}{cs:D_}{a0 a1 a2 a3 a4 a5 a6 a7 a8:AV}{nx nx2 od od2 is is2:Int}{e:Nat}(hi:i<8)(f:FuncId)(caps:D_)(hF:xe[i]?=some (.fn f [] caps))(hF2:firm (firm (firm (share (.fn f [] caps))))=.fn f [] caps)
  (h:(Dn prog).call f caps ⟨fw b r q iv cs nx 0 od is,N⟩=some (.tup [],⟨fw b r q iv [a0,a1,a2,a3,a4,a5,a6,a7,a8] nx2 ((e:Int)+1) od2 is2,N⟩)):Xj b r q iv N e0 i cs nx od is (.er e)∧QX b R0 (.er e) :=
 by grind [aAk]
def asd {b:C_}{i:aN}{a:Int}{g:H_}{n:Nat}(h:vW b i a=.ok g n):Wm b i.max.toNat i.groups.length g n:=by
 rw[vW]at h;split at h
 .exact UP o_ h
 simp_all
def auV {b:C_}{g:H_}{a gain:Int}(hg:0<=gain∧gain<=255){t:J_}{n:Nat}(h:zZ b g a gain=.ok t n):pSc b g t n:=by
 rw[zZ]at h;split at h
 .rename_i ha;obtain⟨A,rfl⟩:=aB ha.1;exact Yr o_ ⟨o_,o_⟩ ⟨o_,o_⟩ h
 simp_all
def Qu (b:C_)(hb:b.length<=1000000000)(r:Int)(hr:dY r)(q:Bool)(i:aN)(hi:i.Fit)(iv:D_)(hiv:iv=i.cells∨q=false∧iv=zI)(hq:q=true->i.may r.toNat)(nx:Int)(hn:i64 nx)(e0:Int)(N:Nat) :
  Xj b r q iv N e0 0 agy nx 0 0 (C8 b nx r.toNat q i)∧QX b r.toNat (C8 b nx r.toNat q i):=by
 have hR:r.toNat<=11:=o_;rw[C8];have h:=aAE b hb r q iv nx 0 0 hn N (A_ 0) (.d (.int .u8 0)) (.d (.int .u8 0)) (A_ 0) .nl .nl .nl .nl .nl
 cases e1:bf b nx 8 with
 |er e=>rw[e1,jg]at h;exact BH k_ Ac Bp rfl rfl h
 |ok g n1 =>
 have p1:=eD e1;have hg:g<256:=p1.1;have hn1:=p1.2;have i1:i64 (n1:Int):=o_;rw[e1,fe p1]at h;rw[az];refine Cp k_ Ac Bp rfl rfl h ?_;clear h;have key:∃X:R aN,X=(if q=true then R.ok i n1 else mY b n1 r.toNat)∧(∀j n,X=.ok j n->((j.Fit∧j.may r.toNat)∧n<=b.length)∧(Dn prog).call oL [.ptr 3 0,.ptr 4 0,.ptr 2 0,.ptr 0 0,.ptr 5 0,.ptr 1 0,.ptr 6 0] ⟨fw b r q iv [A_ g,.d (.int .u8 0),.d (.int .u8 0),A_ 0,.nl,.nl,.nl,.nl,.nl] n1 0 0 0,N⟩=some (.tup [],⟨fw b r q iv [A_ g,.d (.int .u8 j.seq),.d (.int .u8 j.shape),A_ j.max,.own false 1 (aH j.groups),.nl,.nl,.nl,.nl] n 0 0 0,N⟩))∧
   (∀e,X=.er e->(Dn prog).call oL [.ptr 3 0,.ptr 4 0,.ptr 2 0,.ptr 0 0,.ptr 5 0,.ptr 1 0,.ptr 6 0] ⟨fw b r q iv [A_ g,.d (.int .u8 0),.d (.int .u8 0),A_ 0,.nl,.nl,.nl,.nl,.nl] n1 0 0 0,N⟩=some (.tup [],⟨fw b r q iv [A_ g,.d (.int .u8 0),.d (.int .u8 0),A_ 0,.nl,.nl,.nl,.nl,.nl] 0 ((e:Int)+1) 0 0,N⟩)):=by
  refine⟨_,rfl,λj n h=>?_,λe h=>?_⟩
  .grind [axu,aN.Fit.len,Sz,amR,fe,amU]
  .cases hqc:q with
   |true=>simp_all
   |false =>
    rw[hqc]at h;simp only[ao,bl]at h;have h3:=amR b hb r false iv n1 0 0 i1 N rfl hr i (by have:=hi.len;omega) (hiv.imp id And.right) (A_ g) (.d (.int .u8 0)) (.d (.int .u8 0)) (A_ 0) .nl .nl .nl .nl .nl
    simp_all
 obtain⟨X,hX,hX1,hX2⟩:=key;rw[<-hX]
 cases e2:X with
 |er e=>exact BH k_ oL _ rfl rfl (hX2 e e2)
 |ok j n2 =>
 obtain⟨⟨⟨hj,hjm⟩,hn2⟩,h⟩:=hX1 j n2 e2;have i2:i64 (n2:Int):=o_;have hjm11:=gC hR hjm;have hmx:=jY hjm11;obtain⟨gr1,gr2⟩:=dV hjm11;have hmm:=Aj j;have hgn:j.groups≠[]:=λh=>by grind
 rw[az];refine Cp k_ oL _ rfl rfl h ?_;clear h hX hX1 hX2 e2 X;have h:=az6 b hb r q iv n2 0 0 i2 N j hj hjm11 hgn (A_ g) .nl .nl .nl .nl
 cases e3:vW b j n2 with
 |er e=>rw[e3,jg]at h;exact BH k_ z6 Bp rfl rfl h
 |ok S n3 =>
 have p3:=asd e3;have hn3:=p3.2.1;have i3:i64 (n3:Int):=o_;obtain⟨s1,s2,s3,s4,s5⟩:=apa hjm11 p3;rw[e3,fe p3]at h;rw[az];refine Cp k_ z6 Bp rfl rfl h ?_;clear h;have h:=azL b hb r q iv n3 0 0 i3 N g o_ j.max hmx S s1 s2 s3.2 (λl hl=>by simp_all) s5 (.d (.int .u8 j.seq)) (.d (.int .u8 j.shape)) (A_ j.max) (.own false 1 (aH j.groups)) .nl .nl .nl
 cases e4:zZ b S n3 g with
 |er e=>rw[e4,jg]at h;exact BH k_ zS Bp rfl rfl h
 |ok T n4 =>
 have p4:=auV o_ e4;have hn4:=p4.2;have i4:i64 (n4:Int):=o_;rw[e4,fe p4]at h;rw[az];refine Cp k_ zS Bp rfl rfl h ?_;clear h;have h:=aBB b hb r q iv n4 0 0 i4 N [A_ g,.d (.int .u8 j.seq),.d (.int .u8 j.shape),A_ j.max,.own false 1 (aH j.groups),aG 1 (bF S),share (aG 1 (cZ T)),.nl,.nl]
 cases e5:bf b n4 1 with
 |er e=>rw[e5,jg]at h;exact BH k_ Am _ rfl rfl h
 |ok o n5 =>
 have p5:=eD e5;have ho:o<2:=p5.1;have hn5:=p5.2;have i5:i64 (n5:Int):=o_;rw[e5,fe p5]at h;rw[az];refine Cp k_ Am _ rfl rfl h ?_;clear h;have h:=aBs b hb r q iv n5 o 0 i5 N [A_ g,.d (.int .u8 j.seq),.d (.int .u8 j.shape),A_ j.max,.own false 1 (aH j.groups),aG 1 (bF S),share (aG 1 (cZ T)),.nl,.nl]
 cases e6:bf b n5 1 with
 |er e=>rw[e6,jg]at h;exact BH k_ Ae _ rfl rfl h
 |ok s n6 =>
 have p6:=eD e6;have hs:s<2:=p6.1;have hn6:=p6.2;have i6:i64 (n6:Int):=o_;rw[e6,fe p6]at h;rw[az];refine Cp k_ Ae _ rfl rfl h ?_;clear h;have key:∃X:R N_,X=(if s=1 then Pc b j n6 else R.ok (List.replicate j.many []) n6)∧(∀F n,X=.ok F n->pTn b j F n∧(Dn prog).call oN [.ptr 8 0,.ptr 0 0,.ptr 5 0,.ptr 4 0,.ptr 6 0] ⟨fw b r q iv [A_ g,.d (.int .u8 j.seq),.d (.int .u8 j.shape),A_ j.max,.own false 1 (aH j.groups),aG 1 (bF S),share (aG 1 (cZ T)),.nl,.nl] n6 0 o s,N⟩=some (.tup [],⟨fw b r q iv [A_ g,.d (.int .u8 j.seq),.d (.int .u8 j.shape),A_ j.max,.own false 1 (aH j.groups),aG 1 (bF S),share (aG 1 (cZ T)),aG 1 (cT F),.nl] n 0 o s,N⟩))∧
   (∀e,X=.er e->(Dn prog).call oN [.ptr 8 0,.ptr 0 0,.ptr 5 0,.ptr 4 0,.ptr 6 0] ⟨fw b r q iv [A_ g,.d (.int .u8 j.seq),.d (.int .u8 j.shape),A_ j.max,.own false 1 (aH j.groups),aG 1 (bF S),share (aG 1 (cZ T)),.nl,.nl] n6 0 o s,N⟩=some (.tup [],⟨fw b r q iv [A_ g,.d (.int .u8 j.seq),.d (.int .u8 j.shape),A_ j.max,.own false 1 (aH j.groups),aG 1 (bF S),share (aG 1 (cZ T)),.nl,.nl] 0 ((e:Int)+1) o s,N⟩)):=by
  refine⟨_,rfl,λF n h=>?_,λe h=>?_⟩
  .by_cases h1:s=1
   .grind [asb,anu,fe]
   .rw[aa h1]at h;injection h with g1 g2
    subst g1 g2;have h3:=ax3 b r q iv n6 o s N j hj hjm11 o_ (A_ g) (aG 1 (bF S)) (share (aG 1 (cZ T))) .nl .nl;refine⟨⟨s_,hn6,λl hl=>by simp_all⟩,?_⟩;have e9:aG 1 (cT (List.replicate j.many []))=.own false 1 (cT (List.replicate j.many [])):=md (λhz=>by
     grind [ad1])
    simp_all
  grind [anu,jg]
 obtain⟨X,hX,hX1,hX2⟩:=key;rw[<-hX]
 cases e7:X with
 |er e=>exact BH k_ oN _ rfl rfl (hX2 e e7)
 |ok F n7 =>
 obtain⟨p7,h⟩:=hX1 F n7 e7;have i7:i64 (n7:Int):=o_;rw[az];refine Cp k_ oN _ rfl rfl h ?_;have h:=aAm b hb r q iv n7 o s i7 N [A_ g,.d (.int .u8 j.seq),.d (.int .u8 j.shape),A_ j.max,.own false 1 (aH j.groups),aG 1 (bF S),share (aG 1 (cZ T)),aG 1 (cT F),.nl] (by omega)
 cases e8:bf b n7 1 with
 |er e=>rw[e8,jg]at h;exact BH k_ Ag _ rfl rfl h
 |ok p n8 =>
 have p8:=eD e8;have hn8:=p8.2;rw[e8,fe p8]at h;rw[az];refine Cp k_ Ag _ rfl rfl h ⟨⟨λH n hh=>?_,λe hh=>absurd hh s_⟩,λH n hh=>?_⟩
 .grind [ax9]
 .injection hh with g1 g2
  subst g1 g2;exact⟨d_,hj,hjm,s3,s4,p4.1,⟨p7.1,p7.2.2⟩,by grind [Zw],d_,hn8⟩
structure GO where
 o1:Obj
 o2:Obj
 o3:Obj
 o7:Obj
 o8:Obj
 o9:Obj
 oX:Obj
 o14:Obj
 o15:Obj
 o16:Obj
abbrev GH (b:C_)(g:GO)(cs:D_)(nx e:Int)(Z:G_)(C:D_)(lo:Obj)(T:am):am:=(0,.cells [.d (.lst (ai b))])::(1,g.o1)::(2,g.o2)::(3,g.o3)::(4,.cells cs)::(5,.cells [A_ nx])::(6,.cells [A_ e])::(7,g.o7)::(8,g.o8)::(9,g.o9)::(10,g.oX)::(11,.arr 1 (aH Z))::(12,.cells C)::(13,.cells [.ptr 12 0])::(14,g.o14)::(15,g.o15)::(16,g.o16)::(17,lo)::T
abbrev aBV:aW:=[(5,.ptr 0 0),(10,.ptr 4 0),(11,.ptr 5 0),(12,.ptr 6 0),(13,.ptr 7 0),(14,.ptr 8 0),(18,.ptr 13 0),(82,.fn jd [] [.ptr 15 0,.ptr 14 0,.ptr 16 0])]
def atr {Z l:G_}{a:Nat}:aI (aH Z) a (aH l)=aH (aI Z a l):=by simp[aI,aH]
def azy {h:am}{xs:E_}{id a b n:Nat}(hab:a<=b)(hb:b<=n)(hn:n<=1000000000)(hg:get h id=some (.arr 1 xs))(x y:Int)(hx:x=a)(hy:y=b):mR h 1 (.sl id 0 n) (some (A_ x)) (some (A_ y)) none=some (.sl id a (b-a)):=by
 subst hx hy;have e1:ej (A_ (b:Int)) n=some b:=by rw[yK o_ o_];simp
 have e2:ej (A_ (a:Int)) b=some a:=by rw[yK o_ o_];simp
 have e3:okSl h 1 (.sl id 0 n)=true:=by simp only[okSl,hg];rfl
 simp only[mR,e3,vR,lenOf,xu,wR,e1,e2,bv]
def axY {h:am}{Z l:G_}{id a n:Nat}{y:AV}(hn:l.length=n)(hb:a+n<=Z.length)(he:elems h y=some (aH l))(hg:get h id=some (.arr 1 (aH Z))):ag4 1 h (.sl id a n) y=some (.int .i64 (n:Nat),put h id (.arr 1 (aH (aI Z a l)))):=by
 have e1:Nat.ble (a+n) (aH Z).length=true:=by rw[bp,iD];exact hb
 have e2:min n (aH l).length=n:=by rw[iD,hn,Nat.min_self]
 have e3:(aH l).take n=aH l:=ck (by rw[iD];omega);have e4:(gk 1 (aH l) && Nat.beq 1 1 && Nat.ble (a+n) (aH Z).length)=true:=by rw[avv,e1];rfl
 simp only[ag4,he,hg,e4,e2,e3,atr];rfl
def aBZ {F:D_->am}{A N:Nat}(hL:∀C,Lt (F C) N)(hg:∀C T,get (F C++T) A=some (.cells C))(hp:∀C T C',put (F C++T) A (.cells C')=F C'++T):Bk (λC T=>F C++T) A N:=by
 refine⟨hg,hp,λC o=>?_,λC o o'=>IR (hL C),λC o=>yk (hL C),λC o=>?_⟩
 .show put (F C++[]) N o=_;rw[bj];exact vV (hL C)
 .show _=F C++[];rw[bj];exact N2 (hL C)
def aBm (b:C_)(g:GO)(cs:D_)(nx e0:Int)(Z:G_)(lo:Obj)(K:Nat)(hK:18<=K)(o w:Obj)(N:Nat)(hN:K<N):Bk (λC T=>GH b g cs nx e0 Z C lo [(K,o),(N,w)]++T) 12 (N+1):=by
 refine aBZ (λC p hp=>?_) (λC T=>rfl) (λC T C'=>rfl);simp only[ay,co,d8]at hp;rcases hp with rfl|rfl|rfl|rfl|rfl|rfl|rfl|rfl|rfl|rfl|rfl|rfl|rfl|rfl|rfl|rfl|rfl|rfl|rfl|rfl<;>simp only[]<;>omega
abbrev qI (d:Bool):Obj:=.loop aBV [83] sT sK d none
abbrev Pi:Obj:=.loop aBV [83] sT sK false (some .ret)
abbrev plO (p:Nat×Nat):Obj:=.cells [A_ (p.1:Int),A_ (p.2:Int),A_ ((p.2+bI p.1:Nat):Int)]
def aCG (b:C_)(g:GO)(a0 a1 a2 a3 a4 a5 a6 a7:AV)(nx e0:Int)(Z:G_)(hZ:Z.length=256)(C:D_)(hC:II C)(p:Nat×Nat)(hp:(1<=p.1∧p.1<=11)∧p.2+bI p.1<=256)(l:G_)(hl:l.length=bI p.1)(n2:Nat)(hh:bh prog yw [.d (.lst (ai b)),A_ nx,ov p.1]=some (.tup [.own true 1 (aH l),A_ n2,A_ 0]))(K:Nat)(o:Obj)(hK:18<=K)(N:Nat)(hN:K<N) :
  cy (Dn prog) (.yield 17) [.agg [A_ (p.1:Int),A_ (p.2:Int),A_ ((p.2+bI p.1:Nat):Int)]] ⟨GH b g [a0,a1,a2,a3,a4,a5,a6,a7,.sl 11 0 256] nx e0 Z C (qI false) [(K,o)],N⟩ =
  some (B_ true,⟨GH b g [a0,a1,a2,a3,a4,a5,a6,a7,.sl 11 0 256] n2 0 (aI Z p.2 l) (aI C (4*p.1) (rO p.1)) (qI false) [(K,o)],N+1+1⟩):=by
 obtain⟨h1,h2⟩:=hp;have hB:=Sf (aBm b g [a0,a1,a2,a3,a4,a5,a6,a7,.sl 11 0 256] nx e0 Z (qI true) K hK o (plO p) N hN) C hC p.1 h1;have hs:=λC2=>azy (h:=GH b g [a0,a1,a2,a3,a4,a5,a6,a7,.sl 11 0 256] n2 0 Z C2 (qI true) [(K,o),(N,plO p)]) (xs:=aH Z) (id:=11) (a:=p.2) (b:=p.2+bI p.1) (n:=256) o_ h2 o_ rfl (p.2:Int) _ rfl rfl
 rw[gj]at hs;have hc:=λC2=>axY (h:=GH b g [a0,a1,a2,a3,a4,a5,a6,a7,.sl 11 0 256] n2 0 Z C2 (qI true) [(K,o),(N,plO p)]) (id:=11) (a:=p.2) (n:=bI p.1) (y:=.own false 1 (aH l)) hl o_ rfl rfl
 generalize aI C (4*p.1) (rO p.1)=C2 at *;replace hs:=hs C2;replace hc:=hc C2;obtain⟨TO,hT⟩:∃TO:Int,TO=((p.2+bI p.1:Nat):Int):=⟨_,rfl⟩
 simp only[GH,plO,qI,aQ,aK,ov]at hB hs hc hh⊢;rw[<-hT]at hB hs hc⊢;obtain⟨o1,o2,o3,o7,o8,o9,oX,o14,o15,o16⟩:=g;simp only[]at *;have eA:∀st,(Dn prog).code sT st=(Dn prog).code H0 st:=λ_=>rfl
 have eB:∀st,(Dn prog).code sK st=(Dn prog).code (.block 3
  (.seq Hc
  (.seq (.seq (.seq AM (Vm.K [18,84]))
  (.seq Hx
  (.cond (.m 96)
  (.seq (.seq (Vm.K [20]) (F 19)) (.seq (.seq Ao (Vm.K [12]))
  .ret))
  (.seq (Vm.K [11,12]) .skip))))
  (.seq HO (F 19))))) st:=λ_=>rfl
 simp(config := { maxSteps:=1000000 }) (disch:=omega)[↓ac,↓aa,eA,eB,hh,hB,hs,hc]
def aEa (b:C_)(g:GO)(a0 a1 a2 a3 a4 a5 a6 a7:AV)(nx e0:Int)(Z:G_)(C:D_)(hC:II C)(p:Nat×Nat)(hp:(1<=p.1∧p.1<=11)∧p.2+bI p.1<=256)(e:Nat)(hh:bh prog yw [.d (.lst (ai b)),A_ nx,ov p.1]=some (.tup [.nl,A_ 0,A_ (e+1)]))(K:Nat)(o:Obj)(hK:18<=K)(N:Nat)(hN:K<N) :
  cy (Dn prog) (.yield 17) [.agg [A_ (p.1:Int),A_ (p.2:Int),A_ ((p.2+bI p.1:Nat):Int)]] ⟨GH b g [a0,a1,a2,a3,a4,a5,a6,a7,.sl 11 0 256] nx e0 Z C (qI false) [(K,o)],N⟩ =
  some (B_ false,⟨GH b g agy 0 ((e:Int)+1) Z (aI C (4*p.1) (rO p.1)) Pi [(K,o)],N+1+1⟩):=by
 obtain⟨h1,h2⟩:=hp;have hB:=Sf (aBm b g [a0,a1,a2,a3,a4,a5,a6,a7,.sl 11 0 256] nx e0 Z (qI true) K hK o (plO p) N hN) C hC p.1 h1;generalize aI C (4*p.1) (rO p.1)=C2 at *;obtain⟨TO,hT⟩:∃TO:Int,TO=((p.2+bI p.1:Nat):Int):=⟨_,rfl⟩
 simp only[GH,plO,qI,Pi,aQ,aK,ov]at hB hh⊢;rw[<-hT]at hB⊢;obtain⟨o1,o2,o3,o7,o8,o9,oX,o14,o15,o16⟩:=g;simp only[]at *;have eA:∀st,(Dn prog).code sT st=(Dn prog).code H0 st:=λ_=>rfl
 have eB:∀st,(Dn prog).code sK st=(Dn prog).code (.block 3
  (.seq Hc
  (.seq (.seq (.seq AM (Vm.K [18,84]))
  (.seq Hx
  (.cond (.m 96)
  (.seq (.seq (Vm.K [20]) (F 19)) (.seq (.seq Ao (Vm.K [12]))
  .ret))
  (.seq (Vm.K [11,12]) .skip))))
  (.seq HO (F 19))))) st:=λ_=>rfl
 simp(config := { maxSteps:=1000000 }) (disch:=omega)[↓ac,↓aa,eA,eB,hh,hB]
def XQ {r:Nat}{jj:aN}{SS:H_}(hm:jj.may r)(hS:ke jj SS)(hr:r<=11){p:Nat×Nat}(hp:p∈qw (offs r jj.short) SS jj.groups 0):(1<=p.1∧p.1<=11)∧p.2+bI p.1<=256:=by
 have hm11:=gC hr hm;obtain⟨g1,g2⟩:=dV hm11;obtain⟨w,g,j,l,e1,e2,e3,e4,e5,e6,x,e7,e8⟩:=Ng hS.2 (λn hn=>(g1 n hn).1) hp;obtain⟨o1,o2,o3⟩:=oQ (r,jj.short) (fI o_);simp only at o1 o2 o3;have hmx:=hm.2.2.2.1;have hlm:l∈SS:=dJ e1;have hbl:=tW (hS.2 l hlm) hm.2.2.1;have hjl:j<(aM l).length:=(aJ.1 e5).1;have hmy:sm r (decide (jj.seq=2))=(offs r jj.short).length-1:=rfl;have hj1:j+1<(offs r jj.short).length:=o_;have hoj:nth (offs r jj.short) j<nth (offs r jj.short) (j+1)∧(nth (offs r jj.short) (j+1)-nth (offs r jj.short) j) % 4=0:=by
  have:=bH.1 o1 j (d9.2 o_);simpa using this
 have hos:∀k,k+1<(offs r jj.short).length->nth (offs r jj.short) k<nth (offs r jj.short) (k+1):=λk hk=>by
  have:=bH.1 o1 k (d9.2 o_);simp only[af,decide_eq_true_eq]at this;exact this.1
 have hd4:bI p.1=4∨bI p.1=2:=by unfold bI;split<;>simp
 have hx:=OJ (d:=bI p.1) o_ (by rcases hd4 with h|h<;>rw[h]<;>omega) e7;have hw:(w:Int)<jj.many:=o_;have ho256:nth (offs r jj.short) (j+1)<=cond jj.short 32 256:=by
  have:=bH.1 o3 _ (jy hj1);simpa using this
 have hcond:(cond jj.short 32 256:Nat)=jj.wide:=by
  unfold aN.short aN.wide;by_cases h:jj.seq=2
  .rw[decide_eq_true h,ac h];rfl
  .rw[decide_eq_false h,aa h];rfl
 rw[hcond]at ho256;have hww:w*32=w*jj.wide∧w*jj.wide+jj.wide<=256:=by
  unfold aN.many at hw;unfold aN.wide;split at hw
  .rename_i h2;rw[ac h2];omega
  .rename_i h2;rw[aa h2];omega
 exact⟨e6,o_⟩
def aA2:∀id∈List.range 12,1<=id->eI id=bI id:=e_
def kF (b:C_):R_->Nat->G_->R G_
 |[],n,Z=>.ok Z n
 |p::r,n,Z=>(F4 p.1 b n).bind λl m=>kF b r m (aI Z p.2 l)
abbrev StG:Type:=D_×Nat×G_
abbrev X8 (b:C_)(p:Nat×Nat)(s:StG):Sum StG (D_×Nat×G_):=match F4 p.1 b s.2.1 with
 |.ok l n=>.inl (aI s.1 (4*p.1) (rO p.1),n,aI s.2.2 p.2 l)
 |.er e=>.inr (aI s.1 (4*p.1) (rO p.1),e,s.2.2)
abbrev Cz:D_:=[A_ 0,.d (.int .u8 0),.d (.int .u8 0),A_ 0,.nl,.nl,.nl,.nl,.nl]
abbrev aGR (B:Nat)(r:R_)(s:StG):Prop:=II s.1∧s.2.1<=B∧s.2.2.length=256∧(∀x∈s.2.2,-40000<=x∧x<=40000)∧∀p∈r,(1<=p.1∧p.1<=11)∧p.2+bI p.1<=256
def XY {Z l:G_}{a:Nat}(h:a+l.length<=Z.length):(aI Z a l).length=Z.length:=by
 simp only[aI,aj,b7,cM];omega
def ax5 {Z l:G_}{a:Nat}{x:Int}(h:x∈aI Z a l):x∈Z∨x∈l:=by
 simp only[aI,ba]at h;rcases h with (h|h)|h
 .exact .inl (dn h)
 .exact .inr h
 .exact .inl (bK h)
def aDe (b:C_)(hb:b.length<=1000000000)(g:GO)(a0 a1 a2 a3 a4 a5 a6 a7:AV):TZ (fun(s:StG) T=>GH b g [a0,a1,a2,a3,a4,a5,a6,a7,.sl 11 0 256] s.2.1 0 s.2.2 s.1 (qI false) T) (fun(z:D_×Nat×G_) T=>GH b g Cz 0 ((z.2.1:Int)+1) z.2.2 z.1 Pi T) 18 17 (X8 b) (aGR b.length):=by
 intro p r s K o N hi hK hN;obtain⟨C,n0,Z⟩:=s;obtain⟨i1,i2,i3,i4,i5⟩:=hi;simp only at i1 i2 i3 i4;have hp:=i5 p (.head _);have hH:=auZ p.1 b n0 hb o_ hp.1;have hd:=aA2 p.1 (d9.2 o_) hp.1.1
 cases e:F4 p.1 b n0 with
 |ok l n =>
  have hq:=axW ⟨hp.1.1,o_⟩ e;rw[e,fe hq]at hH;obtain⟨q1,q2,q3⟩:=hq;have hl:l.length=bI p.1:=o_;refine .inl ⟨(aI C (4*p.1) (rO p.1),n,aI Z p.2 l),N+1+1,o_,by simp only[X8,e],⟨aef i1 hp.1,q2,?_,λx hx=>?_,λq hq=>i5 q (.tail _ hq)⟩,aCG b g a0 a1 a2 a3 a4 a5 a6 a7 n0 0 Z i3 C i1 p hp l hl n hH K o hK N hN⟩
  .show(aI Z p.2 l).length=256;rw[XY o_];exact i3
  .rcases ax5 hx with h|h
   .exact i4 x h
   .exact q3 x h
 |er e2 =>
  rw[e,jg]at hH;exact .inr ⟨(aI C (4*p.1) (rO p.1),e2,Z),N+1+1,o_,by simp only[X8,e],aEa b g a0 a1 a2 a3 a4 a5 a6 a7 n0 0 Z C i1 p hp e2 hH K o hK N hN⟩
def av2 {b:C_}:∀{r:R_}{C:D_}{n:Nat}{Z:G_},(∀Z2 m,kF b r n Z=.ok Z2 m->∃C2,lI (X8 b) r (C,n,Z)=.inl (C2,m,Z2))∧∀e,kF b r n Z=.er e->∃C2 Z2,lI (X8 b) r (C,n,Z)=.inr (C2,e,Z2)
 |[],C,n,Z=>⟨λZ2 m h=>by
   injection h with g1 g2
   subst g1 g2;exact⟨C,rfl⟩,λe h=>absurd h (by simp[kF])⟩
 |p::r,C,n,Z=>by
  rw[kF,lI]
  cases e:F4 p.1 b n with
  |ok l m =>
   simp only[X8,e,az];exact av2
  |er e2 =>
   simp only[X8,e];exact⟨λZ2 m h=>absurd h s_,λe3 h=>by
    injection h with h
    subst h;exact⟨_,_,rfl⟩⟩
def awv {b:C_}{g:GO}{cs:D_}{nx e0:Int}{Z:G_}{C:D_}{lo:Obj}{L:Nat}(hL:18<=L):Lt (GH b g cs nx e0 Z C lo []) L:=by
 intro p hp;simp only[ay,co,d8]at hp;rcases hp with rfl|rfl|rfl|rfl|rfl|rfl|rfl|rfl|rfl|rfl|rfl|rfl|rfl|rfl|rfl|rfl|rfl|rfl<;>simp only[]<;>omega
def arl {σ:Type}{F:σ->am}{L:Nat}(hL:∀s,Lt (F s) L):Tl (λs T=>F s++T) L:=by
 refine⟨λs K o h=>?_,λs K o o' h=>IR (Lw (hL s) h),λs K o h=>yk (Lw (hL s) h),λs K o h=>?_⟩
 .show put (F s++[]) K o=_;rw[bj];exact vV (Lw (hL s) h)
 .show _=F s++[];rw[bj];exact N2 (Lw (hL s) h)
abbrev OE (r:Nat)(jj:aN)(S:H_):R_:=qw (offs r jj.short) S jj.groups 0
abbrev Z0:G_:=List.replicate 256 0
def aeX (b:C_)(hb:b.length<=1000000000)(g:GO)(a0 a1 a2 a3 a4 a5 a6 a7:AV)(r:Nat)(hr:r<=11)(jj:aN)(hj:jj.Fit)(hm:jj.may r)(S:H_)(hS:ke jj S)(g14:g.o14=.cells jj.cells)(g15:g.o15=.cells [.d (.lst (bF S))])(g16:g.o16=.cells [.own false 1 (cY (offs r jj.short))])(n:Nat)(hn:n<=b.length) :
  (∀Z m,kF b (OE r jj S) n Z0=.ok Z m->Z.length=256∧(∀x∈Z,-40000<=x∧x<=40000)∧m<=b.length∧∃C2 M,(Dn prog).call jd [.yield 17,.ptr 15 0,.ptr 14 0,.ptr 16 0] ⟨GH b g [a0,a1,a2,a3,a4,a5,a6,a7,.sl 11 0 256] n 0 Z0 v7 (qI false) [],18⟩=some (.tup [],⟨GH b g [a0,a1,a2,a3,a4,a5,a6,a7,.sl 11 0 256] m 0 Z C2 (qI false) [],M⟩))∧
  (∀e,kF b (OE r jj S) n Z0=.er e->∃C2 Z2 M,(Dn prog).call jd [.yield 17,.ptr 15 0,.ptr 14 0,.ptr 16 0] ⟨GH b g [a0,a1,a2,a3,a4,a5,a6,a7,.sl 11 0 256] n 0 Z0 v7 (qI false) [],18⟩=some (.tup [],⟨GH b g Cz 0 ((e:Int)+1) Z2 C2 Pi [],M⟩)):=by
 obtain⟨o1,o2,o3,o4⟩:=Cl (r,jj.short) (fI o_);obtain⟨p1,p2,p3⟩:=oQ (r,jj.short) (fI o_);simp only at o1 o2 o3 o4 p1 p2 p3;have hmx:=hm.2.2.2.1;have hmy:sm r (decide (jj.seq=2))=(offs r jj.short).length-1:=rfl;have hhi:∀x∈offs r jj.short,x<=256:=λx hx=>by
  have:=bH.1 p3 x hx;simp only[decide_eq_true_eq]at this;have:(cond jj.short 32 256:Nat)<=256:=by cases jj.short<;>decide
  omega
 have hT:Tl (fun(s:StG) T=>GH b g [a0,a1,a2,a3,a4,a5,a6,a7,.sl 11 0 256] s.2.1 0 s.2.2 s.1 (qI false) T) 18:=arl (F:=fun(s:StG)=>GH b g [a0,a1,a2,a3,a4,a5,a6,a7,.sl 11 0 256] s.2.1 0 s.2.2 s.1 (qI false) []) (λs=>awv (al _));have hT2:Tl (fun(z:D_×Nat×G_) T=>GH b g Cz 0 ((z.2.1:Int)+1) z.2.2 z.1 Pi T) 18:=arl (F:=fun(z:D_×Nat×G_)=>GH b g Cz 0 ((z.2.1:Int)+1) z.2.2 z.1 Pi []) (λs=>awv (al _));have hpl:=ajV (P:=⟨17,14,16,S,offs r jj.short⟩) jj hj (gC hr hm) 15 hT hT2 (aDe b hb g a0 a1 a2 a3 a4 a5 a6 a7) (λs=>by rw[<-g15];rfl) (λs T=>by rw[<-g14];rfl) (λs T=>by rw[<-g16];rfl) t_ hhi t_ hS 18 (al _) (v7,n,Z0) ⟨aik,hn,by simp only[bm],λx hx=>by rw[da hx];omega,λp hp=>XQ hm hS hr hp⟩;have hru:=av2 (b:=b) (r:=OE r jj S) (C:=v7) (n:=n) (Z:=Z0);refine⟨λZ m e=>?_,λe1 e=>?_⟩
 .obtain⟨C2,h1⟩:=hru.1 Z m e;rcases hpl with ⟨s2,M,hM,e1,⟨i1,i2,i3,i4,i5⟩,e5⟩|⟨z,M,hM,e1,e3⟩
  .rw[h1]at e1;injection e1 with e1
   subst e1;exact⟨i3,i4,i2,C2,M,e5⟩
  .rw[h1]at e1;exact absurd e1 (by simp)
 .obtain⟨C2,Z2,h1⟩:=hru.2 e1 e;rcases hpl with ⟨s2,M,hM,e1,⟨i1,i2,i3,i4,i5⟩,e5⟩|⟨z,M,hM,e1,e3⟩
  .rw[h1]at e1;exact absurd e1 (by simp)
  .rw[h1]at e1;injection e1 with e1
   subst e1;exact⟨C2,Z2,M,e3⟩
def aw1:Gn [.int .i64 0] (A_ 256) (A_ 256)=some (.own true 1 (aH Z0)):=(Fs (z:=[.int .i64 0]) (n:=256) o_).trans (by simp[aH])
def aq0:(aH Z0).length=256:=by rw[iD,bm]
abbrev UD (H:Hd)(Z:G_):D_:=[A_ H.gain,.d (.int .u8 H.inf.seq),.d (.int .u8 H.inf.shape),A_ H.inf.max,.d (.lst (aH H.inf.groups)),.d (.lst (bF H.S)),.d (.lst (cZ H.T)),.d (.lst (cT H.F)),.own true 1 (aH Z)]
def apL:∀r<12,(bh prog xo [A_ ((r:Nat):Int),.agg zI]=some (A_ 8)):=by
 intro r hr;have:r=0∨r=1∨r=2∨r=3∨r=4∨r=5∨r=6∨r=7∨r=8∨r=9∨r=10∨r=11:=o_;rcases this with rfl|rfl|rfl|rfl|rfl|rfl|rfl|rfl|rfl|rfl|rfl|rfl<;>exact BJ 400 (by kernel_rfl)
def Ql {r:Nat}{q:Bool}{i:aN}{iv:D_}(hr:r<=11)(hi:i.Fit)(hiv:iv=i.cells∨q=false∧iv=zI)(hq:q=true->i.may r):∃k:Int,(q=true->k=0)∧bh prog xo [A_ r,.agg iv]=some (A_ k):=by
 rcases hiv with rfl|⟨rfl,rfl⟩
 .have hI:=yc r i hi;rw[ac o_,au]at hI;by_cases hm:i.may r
  .rw[ac hm]at hI;exact⟨0,λ_=>rfl,hI⟩
  .rw[aa hm]at hI;exact⟨8,λh=>absurd (hq h) hm,hI⟩
 .exact⟨8,λh=>absurd h s_,apL r o_⟩
def azd (b:C_)(hb:b.length<=1000000000)(a:Int)(ha:i64 a)(r:Nat)(hr:r<=11)(q:Bool)(i:aN)(hi:i.Fit)(iv:D_)(hiv:iv=i.cells∨q=false∧iv=zI)(hq:q=true->i.may r)(n0:Nat)(e0:bf b a 0=.ok 0 n0)(H:Hd)(n:Nat)(eH:C8 b n0 r q i=.ok H n)(Z:G_)(m:Nat)(eL:kF b (OE r H.inf H.S) n Z0=.ok Z m):bh prog tX [.d (.lst (ai b)),A_ a,A_ r,B_ q,.agg iv] =
  if H.od=0∧(H.is=1->pb H.F=true) then some (.tup [.agg (UD H Z),A_ m,A_ 0])
  else some (.tup [.agg Cz,A_ 0,A_ 8]):=by
 have hR:dY (r:Int):=o_;have hB:=gY b a 0 hb ha;have p0:=eD e0;rw[e0,fe p0]at hB;obtain⟨k,hk0,hI⟩:=Ql hr hi hiv hq;have hh:=Qu b hb r hR q i hi iv hiv (λh=>by rw[au];exact hq h) n0 (by have:=p0.2;omega) k 11;rw[au]at hh;have p1:=hh.2 H n eH;have hl:=hh.1.1 H n eH;have hM:=li r false;rw[ac hR]at hM;obtain⟨G,j,S,T,Ft,od,is⟩:=H;have hF:=So Ft (by have:=p1.F.1;simp only at this;have:=Aj j;omega) (λl hl=>by have:=(p1.F.2 l hl).1;omega);simp only[aiR]at hl eL;obtain⟨q1,q2,q3,C2,M,hp⟩:=(aeX b hb ⟨.cells [.junk],.cells [B_ q],.cells iv,.cells [A_ od],.cells [A_ is],.cells [ajl],.cells xe,.cells j.cells,.cells [.d (.lst (bF S))],.cells [.own false 1 (cY (offs r j.short))]⟩ (A_ G) (.d (.int .u8 j.seq)) (.d (.int .u8 j.shape)) (A_ j.max) (.own false 1 (aH j.groups)) (aG 1 (bF S)) (share (aG 1 (cZ T))) (aG 1 (cT Ft)) r hr j p1.fit p1.may S p1.S rfl rfl rfl n p1.n).1 Z m eL;have hj11:=gC hr p1.may;have hSl:S.length=j.groups.length:=p1.S.1;have hTl:=aT List.length p1.T;simp only[ig]at hTl;have hFl:=p1.F.1;simp only at hFl;have hmn:=Aj j;have hgn:j.groups≠[]:=λh=>by have:=(dV hj11).2;rw[h]at this;simp at this;omega
 have hg1:=bN.2 hgn;obtain⟨s1,S1,rfl⟩:=di (bN.1 (show 0<S.length by omega));obtain⟨t1,T1,rfl⟩:=di (bN.1 (show 0<T.length by omega));obtain⟨f1,F1,rfl⟩:=di (bN.1 (show 0<Ft.length by omega));have eS:aG 1 (bF (s1::S1))=.own false 1 (bF (s1::S1)):=rfl;have eT:share (aG 1 (cZ (t1::T1)))=.d (.lst (cZ (t1::T1))):=rfl;have eF:aG 1 (cT (f1::F1))=.own false 1 (cT (f1::F1)):=rfl;have hP:=QN r hr j (.lst (bF (s1::S1))) [(0,.cells [.d (.lst (ai b))]),(1,.cells [.junk]),(2,.cells [B_ q]),(3,.cells iv),(4,.cells [A_ G,.d (.int .u8 j.seq),.d (.int .u8 j.shape),A_ j.max,.own false 1 (aH j.groups),.own false 1 (bF (s1::S1)),.d (.lst (cZ (t1::T1))),.own false 1 (cT (f1::F1)),.sl 11 0 256]),(5,.cells [A_ n]),(6,.cells [A_ 0]),(7,.cells [A_ od]),(8,.cells [A_ is]),(9,.cells [ajl]),(10,.cells xe),(11,.arr 1 (aH Z0)),(12,.cells v7),(13,.cells [.ptr 12 0])] 14 (λp hp=>by
  simp only[ay,co,d8]at hp;rcases hp with rfl|rfl|rfl|rfl|rfl|rfl|rfl|rfl|rfl|rfl|rfl|rfl|rfl|rfl<;>simp only[]<;>omega)
 have c0:((0:Nat):Int)=0:=rfl;rw[eS,eT,eF]at hl hp;simp only[UD,aN.cells,GH,qI,aQ,aK,c0]at hI hl hp hP hB⊢;clear hh p1 eL eH q2 eS eT eF hi;generalize bF (s1::S1)=SS at *;generalize cZ (t1::T1)=TT at *;generalize cT (f1::F1)=FF at *;generalize hz:aH Z0=z0 at *;have hk:=aw1;have hz2:=aq0;rw[hz]at hk hz2;rw[aD GT GA rfl];have hmk:LW 1 xe=true:=rfl;simp only[xe,Bp]at hmk;have hZt:List.take 256 Z=Z:=ck o_;have hoi:(od=0∧((((is:Nat):Int)=1∧pb (f1::F1)=true)∨(((is:Nat):Int)≠1)))∨(od=0∧((is:Nat):Int)=1∧pb (f1::F1)=false)∨od≠0:=by
  cases pb (f1::F1)<;>simp<;>omega
 have hii:(is=1)=(((is:Nat):Int)=1):=propext o_;simp only[hii];clear hii;generalize pb (f1::F1)=an at *;generalize ((is:Nat):Int)=iz at *;rcases hoi with ⟨h1,⟨h2,h3⟩|h2⟩|⟨h1,h2,h3⟩|h1
 .subst h3;rw[ac ⟨h1,λ_=>rfl⟩];rcases hiv with rfl|⟨rfl,rfl⟩
  .simp only[aN.cells]at hI hl hp hP⊢
   cases q with
   |true =>
    have:=hk0 rfl;subst this;simp(config := { maxSteps:=1000000 }) (disch:=omega)[↓ac,↓aa,rd,hB,hM,hI,hl,hk,hz2,hP,hp,hmk,hF,q1,hZt]
   |false=>simp(config := { maxSteps:=1000000 }) (disch:=omega)[↓ac,↓aa,rd,hB,hM,hI,hl,hk,hz2,hP,hp,hmk,hF,q1,hZt]
  .simp only[zI]at hI hl hp hP⊢;simp(config := { maxSteps:=1000000 }) (disch:=omega)[↓ac,↓aa,rd,hB,hM,hI,hl,hk,hz2,hP,hp,hmk,hF,q1,hZt]
 .rw[ac ⟨h1,λh=>absurd h h2⟩];rcases hiv with rfl|⟨rfl,rfl⟩
  .simp only[aN.cells]at hI hl hp hP⊢
   cases q with
   |true =>
    have:=hk0 rfl;subst this;simp(config := { maxSteps:=1000000 }) (disch:=omega)[↓ac,↓aa,rd,hB,hM,hI,hl,hk,hz2,hP,hp,hmk,hF,q1,hZt]
   |false=>simp(config := { maxSteps:=1000000 }) (disch:=omega)[↓ac,↓aa,rd,hB,hM,hI,hl,hk,hz2,hP,hp,hmk,hF,q1,hZt]
  .simp only[zI]at hI hl hp hP⊢;simp(config := { maxSteps:=1000000 }) (disch:=omega)[↓ac,↓aa,rd,hB,hM,hI,hl,hk,hz2,hP,hp,hmk,hF,q1,hZt]
 .subst h3;rw[aa (λh=>absurd (h.2 h2) s_)];rcases hiv with rfl|⟨rfl,rfl⟩
  .simp only[aN.cells]at hI hl hp hP⊢
   cases q with
   |true =>
    have:=hk0 rfl;subst this;simp(config := { maxSteps:=1000000 }) (disch:=omega)[↓ac,↓aa,rd,hB,hM,hI,hl,hk,hz2,hP,hp,hmk,hF,q1,hZt]
   |false=>simp(config := { maxSteps:=1000000 }) (disch:=omega)[↓ac,↓aa,rd,hB,hM,hI,hl,hk,hz2,hP,hp,hmk,hF,q1,hZt]
  .simp only[zI]at hI hl hp hP⊢;simp(config := { maxSteps:=1000000 }) (disch:=omega)[↓ac,↓aa,rd,hB,hM,hI,hl,hk,hz2,hP,hp,hmk,hF,q1,hZt]
 .rw[aa (λh=>absurd h.1 h1)];rcases hiv with rfl|⟨rfl,rfl⟩
  .simp only[aN.cells]at hI hl hp hP⊢
   cases q with
   |true =>
    have:=hk0 rfl;subst this;simp(config := { maxSteps:=1000000 }) (disch:=omega)[↓ac,↓aa,rd,hB,hM,hI,hl,hk,hz2,hP,hp,hmk,hF,q1,hZt]
   |false=>simp(config := { maxSteps:=1000000 }) (disch:=omega)[↓ac,↓aa,rd,hB,hM,hI,hl,hk,hz2,hP,hp,hmk,hF,q1,hZt]
  .simp only[zI]at hI hl hp hP⊢;simp(config := { maxSteps:=1000000 }) (disch:=omega)[↓ac,↓aa,rd,hB,hM,hI,hl,hk,hz2,hP,hp,hmk,hF,q1,hZt]
abbrev lx:=@Classical.byContradiction
def aqS (b:C_)(hb:b.length<=1000000000)(a:Int)(ha:i64 a)(r:Nat)(hr:r<=11)(q:Bool)(i:aN)(iv:D_)(hiv:iv=i.cells∨q=false∧iv=zI)(e:Nat)(e0:bf b a 0=.er e):bh prog tX [.d (.lst (ai b)),A_ a,A_ r,B_ q,.agg iv] =
  some (.tup [.agg Cz,A_ 0,A_ (e+1)]):=by
 have hR:dY (r:Int):=o_;have hB:=gY b a 0 hb ha;rw[e0,jg]at hB;have hM:=li r false;rw[ac hR]at hM;rcases hiv with rfl|⟨rfl,rfl⟩
 all_goals
  simp only[aN.cells,zI];rw[aD GT GA rfl];simp(config := { maxSteps:=1000000 }) (disch:=omega)[↓ac,↓aa,rd,hB,hM]
def avw (b:C_)(hb:b.length<=1000000000)(a:Int)(ha:i64 a)(r:Nat)(hr:r<=11)(i:aN)(hi:i.Fit)(hm:¬i.may r)(n0:Nat)(e0:bf b a 0=.ok 0 n0):bh prog tX [.d (.lst (ai b)),A_ a,A_ r,B_ true,.agg i.cells] =
  some (.tup [.agg Cz,A_ 0,A_ 8]):=by
 have hR:dY (r:Int):=o_;have hB:=gY b a 0 hb ha;have p0:=eD e0;rw[e0,fe p0]at hB;have hM:=li r false;rw[ac hR]at hM;have hI:=yc r i hi;rw[ac hR,au,aa hm]at hI;have c0:((0:Nat):Int)=0:=rfl;simp only[aN.cells,c0]at hI hB⊢;rw[aD GT GA rfl];simp(config := { maxSteps:=1000000 }) (disch:=omega)[↓ac,↓aa,rd,hB,hM,hI]
def au5 (b:C_)(hb:b.length<=1000000000)(a:Int)(ha:i64 a)(r:Nat)(hr:r<=11)(q:Bool)(i:aN)(hi:i.Fit)(iv:D_)(hiv:iv=i.cells∨q=false∧iv=zI)(hq:q=true->i.may r)(n0:Nat)(e0:bf b a 0=.ok 0 n0)(e:Nat)(eH:C8 b n0 r q i=.er e):bh prog tX [.d (.lst (ai b)),A_ a,A_ r,B_ q,.agg iv] =
  some (.tup [.agg Cz,A_ 0,A_ (e+1)]):=by
 have hR:dY (r:Int):=o_;have hB:=gY b a 0 hb ha;have p0:=eD e0;rw[e0,fe p0]at hB;obtain⟨k,hk0,hI⟩:=Ql hr hi hiv hq;have hh:=Qu b hb r hR q i hi iv hiv (λh=>by rw[au];exact hq h) n0 (by have:=p0.2;omega) k 11;rw[au]at hh;obtain⟨od2,is2,hl⟩:=hh.1.2 e eH;have hM:=li r false;rw[ac hR]at hM;have c0:((0:Nat):Int)=0:=rfl;simp only[aN.cells,c0]at hI hl hB⊢;clear hh eH hi hq;rw[aD GT GA rfl];have hmk:LW 1 xe=true:=rfl;simp only[xe,Bp]at hmk;rcases hiv with rfl|⟨rfl,rfl⟩
 .simp only[aN.cells]at hI hl⊢
  cases q with
  |true =>
   have:=hk0 rfl;subst this;simp(config := { maxSteps:=1000000 }) (disch:=omega)[↓ac,↓aa,rd,hB,hM,hI,hl,hmk]
  |false=>simp(config := { maxSteps:=1000000 }) (disch:=omega)[↓ac,↓aa,rd,hB,hM,hI,hl,hmk]
 .simp only[zI]at hI hl⊢;simp(config := { maxSteps:=1000000 }) (disch:=omega)[↓ac,↓aa,rd,hB,hM,hI,hl,hmk]
def ato (b:C_)(hb:b.length<=1000000000)(a:Int)(ha:i64 a)(r:Nat)(hr:r<=11)(q:Bool)(i:aN)(hi:i.Fit)(iv:D_)(hiv:iv=i.cells∨q=false∧iv=zI)(hq:q=true->i.may r)(n0:Nat)(e0:bf b a 0=.ok 0 n0)(H:Hd)(n:Nat)(eH:C8 b n0 r q i=.ok H n)(e:Nat)(eL:kF b (OE r H.inf H.S) n Z0=.er e):bh prog tX [.d (.lst (ai b)),A_ a,A_ r,B_ q,.agg iv] =
  some (.tup [.agg Cz,A_ 0,A_ (e+1)]):=by
 have hR:dY (r:Int):=o_;have hB:=gY b a 0 hb ha;have p0:=eD e0;rw[e0,fe p0]at hB;obtain⟨k,hk0,hI⟩:=Ql hr hi hiv hq;have hh:=Qu b hb r hR q i hi iv hiv (λh=>by rw[au];exact hq h) n0 (by have:=p0.2;omega) k 11;rw[au]at hh;have p1:=hh.2 H n eH;have hl:=hh.1.1 H n eH;have hM:=li r false;rw[ac hR]at hM;obtain⟨G,j,S,T,Ft,od,is⟩:=H;simp only[aiR]at hl eL;obtain⟨C2,Z2,M,hp⟩:=(aeX b hb ⟨.cells [.junk],.cells [B_ q],.cells iv,.cells [A_ od],.cells [A_ is],.cells [ajl],.cells xe,.cells j.cells,.cells [.d (.lst (bF S))],.cells [.own false 1 (cY (offs r j.short))]⟩ (A_ G) (.d (.int .u8 j.seq)) (.d (.int .u8 j.shape)) (A_ j.max) (.own false 1 (aH j.groups)) (aG 1 (bF S)) (share (aG 1 (cZ T))) (aG 1 (cT Ft)) r hr j p1.fit p1.may S p1.S rfl rfl rfl n p1.n).2 e eL;have hj11:=gC hr p1.may;have hSl:S.length=j.groups.length:=p1.S.1;have hTl:=aT List.length p1.T;simp only[ig]at hTl;have hFl:=p1.F.1;simp only at hFl;have hmn:=Aj j;have hgn:j.groups≠[]:=λh=>by have:=(dV hj11).2;rw[h]at this;simp at this;omega
 have hg1:=bN.2 hgn;obtain⟨s1,S1,rfl⟩:=di (bN.1 (show 0<S.length by omega));obtain⟨t1,T1,rfl⟩:=di (bN.1 (show 0<T.length by omega));obtain⟨f1,F1,rfl⟩:=di (bN.1 (show 0<Ft.length by omega));have eS:aG 1 (bF (s1::S1))=.own false 1 (bF (s1::S1)):=rfl;have eT:share (aG 1 (cZ (t1::T1)))=.d (.lst (cZ (t1::T1))):=rfl;have eF:aG 1 (cT (f1::F1))=.own false 1 (cT (f1::F1)):=rfl;have hP:=QN r hr j (.lst (bF (s1::S1))) [(0,.cells [.d (.lst (ai b))]),(1,.cells [.junk]),(2,.cells [B_ q]),(3,.cells iv),(4,.cells [A_ G,.d (.int .u8 j.seq),.d (.int .u8 j.shape),A_ j.max,.own false 1 (aH j.groups),.own false 1 (bF (s1::S1)),.d (.lst (cZ (t1::T1))),.own false 1 (cT (f1::F1)),.sl 11 0 256]),(5,.cells [A_ n]),(6,.cells [A_ 0]),(7,.cells [A_ od]),(8,.cells [A_ is]),(9,.cells [ajl]),(10,.cells xe),(11,.arr 1 (aH Z0)),(12,.cells v7),(13,.cells [.ptr 12 0])] 14 (λp hp=>by
  simp only[ay,co,d8]at hp;rcases hp with rfl|rfl|rfl|rfl|rfl|rfl|rfl|rfl|rfl|rfl|rfl|rfl|rfl|rfl<;>simp only[]<;>omega)
 have c0:((0:Nat):Int)=0:=rfl;rw[eS,eT,eF]at hl hp;simp only[aN.cells,GH,qI,Pi,aQ,aK,c0]at hI hl hp hP hB⊢;clear hh p1 eL eH eS eT eF hi;generalize bF (s1::S1)=SS at *;generalize cZ (t1::T1)=TT at *;generalize cT (f1::F1)=FF at *;generalize hz:aH Z0=z0 at *;have hk:=aw1;have hz2:=aq0;rw[hz]at hk hz2;rw[aD GT GA rfl];have hmk:LW 1 xe=true:=rfl;simp only[xe,Bp]at hmk;rcases hiv with rfl|⟨rfl,rfl⟩
 .simp only[aN.cells]at hI hl hp hP⊢
  cases q with
  |true =>
   have:=hk0 rfl;subst this;simp(config := { maxSteps:=1000000 }) (disch:=omega)[↓ac,↓aa,rd,hB,hM,hI,hl,hk,hz2,hP,hp,hmk]
  |false=>simp(config := { maxSteps:=1000000 }) (disch:=omega)[↓ac,↓aa,rd,hB,hM,hI,hl,hk,hz2,hP,hp,hmk]
 .simp only[zI]at hI hl hp hP⊢;simp(config := { maxSteps:=1000000 }) (disch:=omega)[↓ac,↓aa,rd,hB,hM,hI,hl,hk,hz2,hP,hp,hmk]
def Ds (b:C_)(a:Int)(r:Nat)(q:Bool)(i:aN):R (Hd×G_) :=
 (bf b a 0).bind λ_ n=>if q=true∧¬i.may r then .er 7 else (C8 b n r q i).bind λH n=>(kF b (OE r H.inf H.S) n Z0).bind λZ m=>if H.od=0∧(H.is=1->pb H.F=true) then .ok (H,Z) m else .er 7
abbrev atn (x:R (Hd×G_)):M_:=match x with
 |.ok v m=>some (.tup [.agg (UD v.1 v.2),A_ m,A_ 0])
 |.er e=>some (.tup [.agg Cz,A_ 0,A_ (e+1)])
def amE (b:C_)(hb:b.length<=1000000000)(a:Int)(ha:i64 a)(r:Nat)(hr:r<=11)(q:Bool)(i:aN)(hi:i.Fit)(iv:D_)(hiv:iv=i.cells∨q=false∧iv=zI):bh prog tX [.d (.lst (ai b)),A_ a,A_ r,B_ q,.agg iv]=atn (Ds b a r q i):=by
 unfold Ds
 cases e0:bf b a 0 with
 |er e=>exact aqS b hb a ha r hr q i iv hiv e e0
 |ok v n0 =>
 have hv:v=0:=by have:v<1:=(eD e0).1;omega
 subst hv;rw[az];by_cases hm:q=true∧¬i.may r
 .rw[ac hm];obtain⟨rfl,hm⟩:=hm
  cases hiv.resolve_right λh=>absurd h.1 (by simp)
  exact avw b hb a ha r hr i hi hm n0 e0
 .rw[aa hm];have hq:q=true->i.may r:=λh=>lx λh2=>hm ⟨h,h2⟩
  cases eH:C8 b n0 r q i with
  |er e=>exact au5 b hb a ha r hr q i hi iv hiv hq n0 e0 e eH
  |ok H n =>
  rw[az]
  cases eL:kF b (OE r H.inf H.S) n Z0 with
  |er e=>exact ato b hb a ha r hr q i hi iv hiv hq n0 e0 H n eH e eL
  |ok Z m =>
   rw[az,azd b hb a ha r hr q i hi iv hiv hq n0 e0 H n eH Z m eL];by_cases h:H.od=0∧(H.is=1->pb H.F=true)
   .rw[ac h,ac h]
   .rw[aa h,aa h];rfl
def atO (l:G_)(hl:l.length<=1000000)(h:am)(N:Nat):∀(r:G_) (i:Nat),l.drop i=r->(Dn prog).code (.loop lL) ⟨[(0,.d (.lst (aH l))),(1,.d (.lst (aH l))),(5,A_ i)],⟨h,N⟩⟩=some (.exit 0,⟨[],⟨h,N⟩⟩):=by
 intro r
 induction r with
 |nil =>
  intro i hd;have hi:=aY hd;rw[ah zj];simp(maxSteps:=300000) (disch:=omega)[↓ac,↓aa]
 |cons v r ih =>
  intro i hd;have hg:=yD hd;have hlt:=bw hd;have e:=ih (i+1) (bu hd);rw[show((i+1:Nat):Int)=(i:Int)+1 from rfl]at e;rw[ah zj];simp(maxSteps:=300000) (disch:=omega)[↓ac,↓aa,hg,e]
def IH (l:G_)(hl:l.length<=1000000):bh prog Dk [.d (.lst (aH l)),.d (.lst (aH l))]=some (B_ true):=by
 have e:=atO l hl [] 0 l 0 rfl;rw[show((0:Nat):Int)=0 from rfl]at e;rw[aD Pa Qs rfl];simp(maxSteps:=300000) (disch:=omega)[↓ac,↓aa,e]
def apf (i:aN)(hi:i.groups.length<=1000000):bh prog Da [.agg i.cells,.agg i.cells]=some (B_ true):=by
 have e:=IH i.groups hi;simp only[aN.cells];rw[aD OW QO rfl];simp(maxSteps:=300000) (disch:=omega)[↓ac,↓aa,e]
def auN (l:J_)(hl:l.length<=1000000)(hq:∀x∈l,x.length<=1000000)(h:am)(N:Nat):∀(r:J_) (i:Nat),l.drop i=r->(Dn prog).code (.loop iW) ⟨[(0,.d (.lst (cZ l))),(1,.d (.lst (cZ l))),(5,A_ i)],⟨h,N⟩⟩=some (.exit 0,⟨[],⟨h,N⟩⟩):=by
 intro r
 induction r with
 |nil =>
  intro i hd;have hi:=aY hd;rw[ah sE];simp(maxSteps:=300000) (disch:=omega)[↓ac,↓aa]
 |cons v r ih =>
  intro i hd;have hg:=Gq hd;have hlt:=bw hd;have hv:=hq v (bK (by rw[hd];exact .head _));have e:=ih (i+1) (bu hd);have e2:=IH v hv;rw[show((i+1:Nat):Int)=(i:Int)+1 from rfl]at e;rw[ah sE];simp(maxSteps:=300000) (disch:=omega)[↓ac,↓aa,hg,e,e2]
def Y0 (l:J_)(hl:l.length<=1000000)(hq:∀x∈l,x.length<=1000000):bh prog wZ [.d (.lst (cZ l)),.d (.lst (cZ l))]=some (B_ true):=by
 have e:=auN l hl hq [] 0 l 0 rfl;rw[show((0:Nat):Int)=0 from rfl]at e;rw[aD IC IG rfl];simp(maxSteps:=300000) (disch:=omega)[↓ac,↓aa,e]
def arh (x y:Int):Lp true [true,true] (.agg [A_ x,A_ y]) (.agg [A_ x,A_ y])=some (.bool false):=by
 simp[Lp,bB,mV]
def azm (full:H_)(w:Nat)(l:P_)(q:H_)(hw:full.drop w=l::q)(hf:full.length<=1000000)(hl:l.length<=1000000)(h:am)(N:Nat):∀(r:P_) (i:Nat),l.drop i=r->(Dn prog).code (.loop gK) ⟨[(0,.d (.lst (bF full))),(1,.d (.lst (bF full))),(5,A_ w),(6,A_ i)],⟨h,N⟩⟩=some (.exit 2,⟨[(0,.d (.lst (bF full))),(1,.d (.lst (bF full))),(5,A_ w)],⟨h,N⟩⟩):=by
 have hg1:=lj hw;have hw1:=bw hw;intro r
 induction r with
 |nil =>
  intro i hd;have hi:=aY hd;rw[ah qb];simp(maxSteps:=300000) (disch:=omega)[↓ac,↓aa,hg1]
 |cons v r ih =>
  intro i hd;have hg:=xc hd;have hlt:=bw hd;have e:=ih (i+1) (bu hd);rw[show((i+1:Nat):Int)=(i:Int)+1 from rfl]at e;rw[ah qb];simp(maxSteps:=300000) (disch:=omega)[↓ac,↓aa,hg,hg1,e,arh]
def ayp (full:H_)(hf:full.length<=1000000)(hq:∀x∈full,x.length<=1000000)(h:am)(N:Nat):∀(r:H_) (i:Nat),full.drop i=r->(Dn prog).code (.loop gG) ⟨[(0,.d (.lst (bF full))),(1,.d (.lst (bF full))),(5,A_ i)],⟨h,N⟩⟩=some (.exit 0,⟨[],⟨h,N⟩⟩):=by
 intro r
 induction r with
 |nil =>
  intro i hd;have hi:=aY hd;rw[ah pX];simp(maxSteps:=300000) (disch:=omega)[↓ac,↓aa]
 |cons v r ih =>
  intro i hd;have hg:=lj hd;have hlt:=bw hd;have hv:=hq v (bK (by rw[hd];exact .head _));have e:=ih (i+1) (bu hd);have e2:=azm full i v r hd hf hv h N v 0 rfl;rw[show((i+1:Nat):Int)=(i:Int)+1 from rfl]at e;rw[show((0:Nat):Int)=0 from rfl]at e2;rw[ah pX];simp(maxSteps:=300000) (disch:=omega)[↓ac,↓aa,hg,e,e2]
def S8 (l:H_)(hl:l.length<=1000000)(hq:∀x∈l,x.length<=1000000):bh prog tE [.d (.lst (bF l)),.d (.lst (bF l))]=some (B_ true):=by
 have e:=ayp l hl hq [] 0 l 0 rfl;rw[show((0:Nat):Int)=0 from rfl]at e;rw[aD Ex Es rfl];simp(maxSteps:=300000) (disch:=omega)[↓ac,↓aa,e]
def aAV (full:N_)(w:Nat)(l:AA_)(q:N_)(hw:full.drop w=l::q)(hf:full.length<=1000000)(hl:l.length<=1000000)(hc:∀f∈l,f.coefs.length<=1000000):∀(r:AA_) (i N:Nat),l.drop i=r->∃M,(Dn prog).code (.loop jL) ⟨[(0,.d (.lst (cT full))),(1,.d (.lst (cT full))),(5,A_ w),(6,A_ i)],⟨[],N⟩⟩=some (.exit 2,⟨[(0,.d (.lst (cT full))),(1,.d (.lst (cT full))),(5,A_ w)],⟨[],M⟩⟩):=by
 have hg1:=tT hw;have hw1:=bw hw;intro r
 induction r with
 |nil =>
  intro i N hd;have hi:=aY hd;refine⟨N,?_⟩;rw[ah vF];simp(maxSteps:=300000) (disch:=omega)[↓ac,↓aa,hg1]
 |cons v r ih =>
  intro i N hd;have hg:=Bb hd;have hlt:=bw hd;have hv:=hc v (bK (by rw[hd];exact .head _));have e2:=IH v.coefs hv;obtain⟨M,e⟩:=ih (i+1) (N+1+1) (bu hd);rw[show((i+1:Nat):Int)=(i:Int)+1 from rfl]at e;refine⟨M,?_⟩;rw[ah vF];simp(maxSteps:=300000) (disch:=omega)[↓ac,↓aa,hg,hg1,e,e2]
def az8 (full:N_)(hf:full.length<=1000000)(hq:∀x∈full,x.length<=1000000)(hc:∀x∈full,∀f∈x,f.coefs.length<=1000000):∀(r:N_) (i N:Nat),full.drop i=r->∃M,(Dn prog).code (.loop jM) ⟨[(0,.d (.lst (cT full))),(1,.d (.lst (cT full))),(5,A_ i)],⟨[],N⟩⟩=some (.exit 0,⟨[],⟨[],M⟩⟩):=by
 intro r
 induction r with
 |nil =>
  intro i N hd;have hi:=aY hd;refine⟨N,?_⟩;rw[ah uZ];simp(maxSteps:=300000) (disch:=omega)[↓ac,↓aa]
 |cons v r ih =>
  intro i N hd;have hg:=tT hd;have hlt:=bw hd;have hm:v∈full:=bK (by rw[hd];exact .head _);have hv:=hq v hm;obtain⟨M1,e2⟩:=aAV full i v r hd hf hv (hc v hm) v 0 N rfl;obtain⟨M,e⟩:=ih (i+1) M1 (bu hd);rw[show((i+1:Nat):Int)=(i:Int)+1 from rfl]at e;rw[show((0:Nat):Int)=0 from rfl]at e2;refine⟨M,?_⟩;rw[ah uZ];simp(maxSteps:=300000) (disch:=omega)[↓ac,↓aa,hg,e,e2]
def agl (l:N_)(hl:l.length<=1000000)(hq:∀x∈l,x.length<=1000000)(hc:∀x∈l,∀f∈x,f.coefs.length<=1000000):bh prog zu [.d (.lst (cT l)),.d (.lst (cT l))]=some (B_ true):=by
 obtain⟨M,e⟩:=az8 l hl hq hc l 0 0 rfl;rw[show((0:Nat):Int)=0 from rfl]at e;rw[aD KS KN rfl];simp(maxSteps:=300000) (disch:=omega)[↓ac,↓aa,e]
def anX (c:cJ)(hc:c.Fit):bh prog DR [.agg c.av,.agg c.av]=some (B_ true):=by
 have hg:=hc.info.len;have hl:=hc.lines;have h1:=apf c.info o_;have h2:=IH c.lines o_;have h3:=S8 c.sects (by have:=hc.sects.1;omega) (λl h=>by have:=hc.sects.2 l h;omega);have h4:=Y0 c.steps (by have:=hc.steps.1;omega) (λl h=>by have:=hc.steps.2 l h;omega);have h5:=agl c.tns (by have:=hc.tns.1;omega) (λl h=>by have:=(hc.tns.2 l h).1;omega) (λl h f hf=>by have:=(hc.tns.2 l h).2 f hf;omega);simp only[cJ.av,aN.cells]at h1⊢;rw[aD QL Qc rfl];simp(maxSteps:=300000) (disch:=omega)[↓ac,↓aa,h1,h2,h3,h4,h5]
abbrev w9:=@List.drop_left
abbrev eq:=@Nat.mul_comm
abbrev zL:=@Nat.mul_assoc
abbrev oG:=@Nat.add_mul_div_right
def At (b:C_)(a n:Nat)(X:C_):Prop:=a<=b.length∧n=a+X.length∧∃t,b.drop a=X++t
def eg {b:C_}{a n:Nat}:At b a n []↔n=a∧a<=b.length:=by
 constructor
 .rintro ⟨h1,h2,_⟩
  exact⟨by simpa using h2,h1⟩
 .rintro ⟨h1,h2⟩
  exact⟨h2,by simpa using h1,b.drop a,rfl⟩
def dB {b:C_}{a n:Nat}{X:C_}(h:At b a n X):a<=b.length∧n<=b.length∧n=a+X.length:=by
 obtain⟨h1,h2,t,h3⟩:=h;have:=aT List.length h3;rw[cM,aj]at this;exact⟨h1,o_,h2⟩
def aZ {b:C_}{a n:Nat}{X Y:C_}:At b a n (X++Y)↔∃m,At b a m X∧At b m n Y:=by
 constructor
 .intro h;have hl:=dB h;obtain⟨h1,h2,t,h3⟩:=h;rw[aj]at h2;refine⟨a+X.length,⟨h1,rfl,Y++t,by rw[h3,aA]⟩,o_,o_,t,?_⟩;rw[<-mX,h3,aA,w9]
 .rintro ⟨m,⟨h1,h2,t,h3⟩,h4,h5,t2,h6⟩
  refine⟨h1,by rw[aj];omega,t2,?_⟩;rw[h2,<-mX,h3,w9]at h6;rw[h3,h6,aA]
def dx {n:Nat}:∀{k:Nat},bin (ar n k)
 |0=>by simp[ar,bin]
 |k+1=>by
  intro x hx;rw[ar]at hx;rcases ay.1 hx with h|h
  .omega
  .exact dx x h
def U9 {v:Nat}:∀{s n:Nat},val (ar v s) n=n*2 ^ s+v % 2 ^ s
 |0,n=>by simp[ar,val,Nat.mod_one]
 |k+1,n=>by
  rw[ar,val,U9,Nat.mod_pow_succ,df,dg];have:2*n*2 ^ k=n*(2 ^ k*2):=by rw[eq 2 n,zL,eq 2 (2 ^ k)]
  rw[this,eq (v / 2 ^ k % 2)];omega
def aj1:∀{l:C_}{n:Nat},val l n=n*2 ^ l.length+val l 0
 |[],n=>by simp[val]
 |x::r,n=>by
  rw[val,val,aj1,aj1 (n:=2*0+x),aq,df,dg];have:2*n*2 ^ r.length=n*(2 ^ r.length*2):=by rw[eq 2 n,zL,eq 2 (2 ^ r.length)]
  rw[this];simp only[Nat.mul_zero,bv];omega
def U8:∀{l:C_}{n:Nat},bin l->ar (val l n) l.length=l
 |[],n,_=>rfl
 |x::r,n,h=>by
  have hr:bin r:=λy hy=>h y (.tail _ hy)
  have hx:=h x (.head _);have h0:=JS (l:=r) (n:=0) (i:=0) hr o_;rw[bv]at h0;have e:val r (2*n+x) / 2 ^ r.length % 2=x:=by
   rw[aj1,oU,oG _ _ (Nat.pow_pos k_),iZ h0];omega
  rw[val,aq,ar,e,U8 hr]
def cx {b:C_}{a s v n:Nat}(hs:s<=31):bf b (a:Int) (s:Int)=.ok v n↔v<2 ^ s∧At b a n (ar v s):=by
 unfold bf;simp only[au];constructor
 .intro h;by_cases h1:(0<=(s:Int)∧(s:Int)<=31)∧0<=(a:Int)∧(a:Int)<=b.length
  .rw[ac h1]at h;by_cases h2:((b.length:Nat):Int)-a<s
   .rw[ac h2]at h;exact absurd h (by simp)
   .rw[aa h2]at h;by_cases h3:bin ((b.drop a).take s)
    .rw[ac h3]at h;injection h with e1 e2
     have hl:((b.drop a).take s).length=s:=by rw[b7,cM];omega
     have h4:=JS (n:=0) (i:=0) h3 o_;have h5:=U8 (n:=0) h3;rw[hl,e1]at h4 h5;rw[bv]at h4;refine⟨h4,o_,by rw[dk];omega,(b.drop a).drop s,?_⟩;rw[h5,aV]
    .rw[aa h3]at h;exact absurd h (by simp)
  .rw[aa h1]at h;exact absurd h (by simp)
 .rintro ⟨hv,h⟩
  have hl:=dB h;obtain⟨h1,h2,t,h3⟩:=h;rw[dk]at h2;have e:(b.drop a).take s=ar v s:=by rw[h3,List.take_left' dk]
  rw[ac o_,aa o_,e,ac dx,U9,eM hv,h2];simp
def amT {b:C_}{a:Int}{s:Int}{v n:Nat}(h:bf b a s=.ok v n):0<=a:=by
 unfold bf at h;by_cases h1:(0<=s∧s<=31)∧0<=a∧a<=b.length
 .exact h1.2.1
 .rw[aa h1]at h;exact absurd h (by simp)
def Vc {α:Type}{c:Prop}[Decidable c]{v w:α}{n m:Nat}:Uc c v n=.ok w m↔c∧v=w∧n=m:=by
 unfold Uc;by_cases h:c
 .rw[ac h];exact⟨λe=>by injection e with e1 e2;exact⟨h,e1,e2⟩,λ⟨_,e1,e2⟩=>by rw[e1,e2]⟩
 .rw[aa h];exact⟨λe=>absurd e s_,λe=>absurd e.1 h⟩
def aS {α β:Type}{x:R α}{f:α->Nat->R β}{v:β}{n:Nat}:x.bind f=.ok v n↔∃u m,x=.ok u m∧f u m=.ok v n :=
 ⟨rD,λ⟨u,m,h1,h2⟩=>by rw[h1];exact h2⟩
def acm:Nat->AD_
 |0=>[[]]
 |k+1=>(acm k).map (0::·)++(acm k).map (1::·)
def amF:∀{l:C_},bin l->l∈acm l.length
 |[],_=>by simp[acm]
 |x::r,h=>by
  have ih:=amF (l:=r) λy hy=>h y (.tail _ hy)
  have hx:=h x (.head _);rw[aq,acm,ba,dy,dy];rcases Nat.le_one_iff_eq_zero_or_eq_one.1 hx with rfl|rfl
  .exact .inl ⟨r,ih,rfl⟩
  .exact .inr ⟨r,ih,rfl⟩
def ahi:Nat->Nat->J_
 |0,_=>[]
 |f+1,0=>[[]]
 |f+1,n+1=>(List.range (n+1)).flatMap λk=>(ahi f (n-k)).map (((k:Int)+1)::·)
def am4:∀{g:G_}{f n:Nat},(∀x∈g,1<=x)->g.sum=n->n<f->g∈ahi f n
 |[],f,n,_,h,hf=>by
  obtain⟨f,rfl⟩:=Nat.exists_eq_add_of_lt hf;have:n=0:=by simp at h;omega
  subst this;simp[ahi]
 |x::r,f,n,hx,h,hf=>by
  have h1:=hx x (.head _);have h2:=nu (l:=r) λy hy=>hx y (.tail _ hy)
  rw[kZ]at h;obtain⟨f,rfl⟩:∃k,f=k+1:=⟨f-1,o_⟩
  obtain⟨n,rfl⟩:∃k,n=k+1:=⟨n-1,o_⟩
  have ih:=am4 (g:=r) (f:=f) (n:=n-(x.toNat-1)) (λy hy=>hx y (.tail _ hy)) o_ o_;rw[ahi,kU];exact⟨x.toNat-1,d9.2 o_,dy.2 ⟨r,ih,by congr 1;omega⟩⟩
def axz:∀l∈acm 7,JJ (grow [1] l) 7 0=l:=e_
def axF:∀g∈ahi 9 8,grow [1] (JJ g 7 0)=g:=e_
def Qn {b:C_}:∀{k a n:Nat}{l:C_},a<=b.length->(AG b k a=.ok l n↔(l.length=k∧bin l)∧At b a n l)
 |0,a,n,l,ha=>by
  rw[AG];constructor
  .intro h;injection h with e1 e2
   subst e1 e2;exact⟨⟨rfl,by simp[bin]⟩,eg.2 ⟨rfl,ha⟩⟩
  .rintro ⟨⟨h1,_⟩,h2⟩
   have:=ax h1;subst this;rw[(eg.1 h2).1]
 |k+1,a,n,l,ha=>by
  rw[AG,aS];constructor
  .rintro ⟨v,m,h1,h2⟩
   obtain⟨g1,g2⟩:=(cx (s:=1) o_).1 h1;obtain⟨l2,m2,h3,h4⟩:=aS.1 h2;injection h4 with e1 e2;subst e1 e2;obtain⟨⟨i1,i2⟩,i3⟩:=(Qn (dB g2).2.1).1 h3;refine⟨⟨by rw[aq,i1],λx hx=>?_⟩,?_⟩
   .rcases ay.1 hx with rfl|hx
    .omega
    .exact i2 x hx
   .have e:ar v 1=[v]:=by simp[ar];omega
    rw[e]at g2;exact aZ.2 ⟨m,g2,i3⟩
  .rintro ⟨⟨h1,h2⟩,h3⟩
   cases l with
   |nil=>simp at h1
   |cons v r =>
    have hv:=h2 v (.head _);obtain⟨m,g1,g2⟩:=aZ (X:=[v]) (Y:=r) |>.1 h3;have e:ar v 1=[v]:=by simp[ar];omega
    rw[<-e]at g1;have hr:=(Qn (k:=k) (dB g2).1).2 ⟨⟨by simpa using h1,λy hy=>h2 y (.tail _ hy)⟩,g2⟩;exact⟨v,m,(cx (s:=1) o_).2 ⟨o_,g1⟩,by rw[hr];rfl⟩
def anB {g:G_}:∀{k w:Nat},bin (JJ g k w)
 |0,_=>by simp[JJ,bin]
 |k+1,w=>by
  intro x hx;rw[JJ]at hx;rcases ba.1 hx with h|h
  .revert h
   split<;>exact λh=>dx x h
  .exact anB x h
def Qi {b:C_}{a r n:Nat}{j:aN}(hr:r<=11):mY b (a:Int) r=.ok j n↔j.may r∧At b a n (lE j):=by
 unfold mY lE;constructor
 .intro h;obtain⟨o,n1,h1,h⟩:=aS.1 h;obtain⟨q,n2,h2,h⟩:=aS.1 h;obtain⟨s,n3,h3,h⟩:=aS.1 h;have k1:=(cx (s:=1) o_).1 h1;have k2:=(cx (s:=2) o_).1 h2;have k3:=(cx (s:=1) o_).1 h3;by_cases hq:q=2
  .rw[ac hq]at h;obtain⟨m,n4,h4,h⟩:=aS.1 h;obtain⟨l,n5,h5,h⟩:=aS.1 h;obtain⟨⟨ho,hm⟩,e1,e2⟩:=Vc.1 h;have k4:=(cx (s:=4) o_).1 h4;have k5:=(Qn (dB k4.2).2.1).1 h5;subst e1 e2 ho;refine⟨hm,aZ.2 ⟨n1,k1.2,aZ.2 ⟨n2,k2.2,aZ.2 ⟨n3,k3.2,?_⟩⟩⟩⟩;simp only[hq,bi,au];refine aZ.2 ⟨n4,k4.2,?_⟩;rw[axz l (by have:=amF k5.1.2;rwa [k5.1.1]at this)];exact k5.2
  .rw[aa hq]at h;obtain⟨m,n4,h4,h⟩:=aS.1 h;obtain⟨p,n5,h5,h⟩:=aS.1 h;obtain⟨⟨⟨ho,hp⟩,hm⟩,e1,e2⟩:=Vc.1 h;have k4:=(cx (s:=6) o_).1 h4;have k5:=(cx (s:=1) o_).1 h5;subst e1 e2 ho hp;refine⟨hm,aZ.2 ⟨n1,k1.2,aZ.2 ⟨n2,k2.2,aZ.2 ⟨n3,k3.2,?_⟩⟩⟩⟩;simp only[aa hq,au];exact aZ.2 ⟨n4,k4.2,k5.2⟩
 .rintro ⟨hm,h0⟩
  obtain⟨n1,k1,h1⟩:=aZ.1 h0;obtain⟨n2,k2,h2⟩:=aZ.1 h1;obtain⟨n3,k3,h3⟩:=aZ.1 h2;clear h0 h1 h2;have g11:=gC hr hm;have hmx:=jY g11;obtain⟨s,sh,m,g⟩:=j;have hs:s<=3:=hm.1;have hsh:sh<=1:=hm.2.1;simp only at hmx h3 k2 k3;obtain⟨M,rfl⟩:=aB hmx.1;refine aS.2 ⟨0,n1,(cx (s:=1) o_).2 ⟨o_,k1⟩,aS.2 ⟨s,n2,(cx (s:=2) o_).2 ⟨o_,k2⟩,aS.2 ⟨sh,n3,(cx (s:=1) o_).2 ⟨o_,k3⟩,?_⟩⟩⟩;have hmb:(M:Int)<=sm r (decide (s=2)):=hm.2.2.2.1;have hgr:aN.grouped _:=hm.2.2.2.2;unfold aN.grouped at hgr;simp only[au]at h3 hgr;by_cases hq:s=2
  .subst hq;have m4:M<2 ^ 4:=by
    have:=(Qr (r,true) (fI o_)).2;simp only[decide_true]at hmb this;omega
   rw[ac rfl]at h3 hgr⊢;obtain⟨n4,k4,h4⟩:=aZ.1 h3;have hg:=axF g (am4 (λx hx=>(hgr.1 x hx).1) hgr.2.1 o_);exact aS.2 ⟨M,n4,(cx (s:=4) o_).2 ⟨m4,k4⟩,aS.2 ⟨JJ g 7 0,n,(Qn (dB k4).2.1).2 ⟨⟨ab5,anB⟩,h4⟩,Vc.2 ⟨⟨rfl,by rw[hg];exact hm⟩,by rw[hg],rfl⟩⟩⟩
  .have m6:=JG (r:=r) (s:=decide (s=2)) o_;rw[aa hq]at h3 hgr⊢;obtain⟨n4,k4,h4⟩:=aZ.1 h3
   cases hgr
   exact aS.2 ⟨M,n4,(cx (s:=6) o_).2 ⟨o_,k4⟩,aS.2 ⟨0,n,(cx (s:=1) o_).2 ⟨o_,h4⟩,Vc.2 ⟨⟨⟨rfl,rfl⟩,hm⟩,rfl,rfl⟩⟩⟩
def ams {aX:Nat}(hm:1<=aX):∀{f g n:Nat},n<=f->n<=g->eV aX f n=eV aX g n
 |0,0,n,_,_=>rfl
 |0,g+1,n,h,_=>by
  have:n=0:=o_;subst this;rw[eV,eV,aa o_]
 |f+1,0,n,_,h=>by
  have:n=0:=o_;subst this;rw[eV,eV,aa o_]
 |f+1,g+1,n,h1,h2=>by
  rw[eV,eV];by_cases h:aX<=n
  .rw[ac h,ac h,ams hm (f:=f) (g:=g) (n:=n-aX) o_ o_]
  .rw[aa h,aa h]
def awC {aX d:Nat}(hm:1<=aX)(h:aX<=d):eV aX d d=aX::eV aX (d-aX) (d-aX):=by
 obtain⟨e,rfl⟩:∃e,d=e+1:=⟨d-1,o_⟩
 rw[eV,ac h,ams hm (f:=e) (g:=e+1-aX) o_ o_]
def aww {aX d:Nat}(h:d<aX):eV aX d d=[d]:=by
 cases d with
 |zero=>rfl
 |succ e=>rw[eV,aa o_]
def UY {b:C_}{sz aX left:Nat}(hs:1<=sz∧sz<=5)(hm:aX=2 ^ sz-1):∀{f a acc n m:Nat},left<acc+f->
  (zK b sz aX left f a acc=.ok n m↔(acc<=n∧n<=left)∧At b a m ((eV aX (n-acc) (n-acc)).flatMap λx=>ar x sz))
 |0,a,acc,n,m,hf=>by
  rw[zK];exact⟨λh=>absurd h s_,λh=>by omega⟩
 |f+1,a,acc,n,m,hf=>by
  have h2:2 ^ 1<=2 ^ sz:=aw o_ hs.1;rw[zK,aS];constructor
  .rintro ⟨x,m1,h1,h⟩
   obtain⟨g1,g2⟩:=(cx o_).1 h1;by_cases hl:left<acc+x
   .rw[ac hl]at h;exact absurd h (by simp)
   rw[aa hl]at h;by_cases hx:x=aX
   .rw[ac hx,UY hs hm o_]at h;obtain⟨h3,h4⟩:=h;refine⟨o_,?_⟩;rw[awC o_ o_,aE,aZ];refine⟨m1,by rw[<-hx];exact g2,?_⟩;rw[show n-acc-aX=n-(acc+x) by omega];exact h4
   .rw[aa hx]at h;injection h with e1 e2
    subst e1 e2;refine⟨o_,?_⟩;rw[show acc+x-acc=x by omega,aww o_];simpa using g2
  .rintro ⟨h1,h⟩
   by_cases hd:aX<=n-acc
   .rw[awC o_ hd,aE,aZ]at h;obtain⟨m1,k1,k2⟩:=h;refine⟨aX,m1,(cx o_).2 ⟨o_,k1⟩,?_⟩;rw[aa o_,ac rfl,UY hs hm o_];refine⟨o_,?_⟩;rw[show n-(acc+aX)=n-acc-aX by omega];exact k2
   .rw[aww o_]at h;simp only[aE,gw,bj]at h;refine⟨n-acc,m,(cx o_).2 ⟨o_,h⟩,?_⟩;rw[aa o_,aa o_,show acc+(n-acc)=n by omega]
def ant {b:C_}{sz left a m:Nat}{s:aU}(hs:1<=sz∧sz<=5):Jv b sz left a=.ok s m↔s.right left∧At b a m (MX sz s):=by
 rw[Jv,aS,MX];constructor
 .rintro ⟨k,m1,h1,h⟩
  obtain⟨g1,g2⟩:=(cx (s:=4) o_).1 h1;by_cases hk:k=12∨13<k
  .rw[ac hk]at h;exact absurd h (by simp)
  rw[aa hk]at h;obtain⟨n,m2,h2,h⟩:=aS.1 h;obtain⟨g3,g4⟩:=(UY hs rfl o_).1 h2;by_cases h0:n=0
  .rw[ac h0]at h;exact absurd h (by simp)
  rw[aa h0]at h;injection h with e1 e2
  subst e1 e2;refine⟨⟨⟨by simp only[];omega,by simp only[];omega⟩,by simp only[OF];omega⟩,aZ.2 ⟨m1,g2,?_⟩⟩;simpa using g4
 .rintro ⟨⟨⟨h1,h2⟩,h3,h4⟩,h⟩
  obtain⟨k,n⟩:=s;simp only at h1 h2 h3 h4 h;obtain⟨k,rfl⟩:=aB h3;obtain⟨n,rfl⟩:=aB (show 0<=n by omega);simp only[au]at h;obtain⟨m1,k1,k2⟩:=aZ.1 h;refine⟨k,m1,(cx (s:=4) o_).2 ⟨o_,k1⟩,?_⟩;rw[aa o_];refine aS.2 ⟨n,m,(UY hs rfl o_).2 ⟨o_,by simpa using k2⟩,?_⟩;rw[aa o_]
def KX {b:C_}{sz:Nat}(hs:1<=sz∧sz<=5):∀{f left a m:Nat}{l:P_},left<=f->a<=b.length->(kz b sz f left a=.ok l m↔fitsS left l∧At b a m (qS sz l))
 |0,left,a,m,l,hf,ha=>by
  have:left=0:=o_;subst this;rw[kz];constructor
  .intro h;injection h with e1 e2
   subst e1 e2;exact⟨rfl,eg.2 ⟨rfl,ha⟩⟩
  .rintro ⟨h1,h2⟩
   cases l with
   |nil=>rw[(eg.1 h2).1]
   |cons s l=>have:=h1.1.1;omega
 |f+1,left,a,m,l,hf,ha=>by
  rw[kz];by_cases h0:left=0
  .subst h0;rw[ac rfl];constructor
   .intro h;injection h with e1 e2
    subst e1 e2;exact⟨rfl,eg.2 ⟨rfl,ha⟩⟩
   .rintro ⟨h1,h2⟩
    cases l with
    |nil=>rw[(eg.1 h2).1]
    |cons s l=>have:=h1.1.1;omega
  .rw[aa h0,aS];constructor
   .rintro ⟨s,m1,h1,h⟩
    obtain⟨g1,g2⟩:=(ant hs).1 h1;obtain⟨l2,m2,h2,h⟩:=aS.1 h;injection h with e1 e2;subst e1 e2;have hr:=g1.1;obtain⟨g3,g4⟩:=(KX hs o_ (dB g2).2.1).1 h2;refine⟨⟨g1,?_⟩,aZ.2 ⟨m1,g2,g4⟩⟩
    rwa [show((left-s.len.toNat:Nat):Int)=left-s.len by omega]at g3
   .rintro ⟨h1,h2⟩
    cases l with
    |nil=>exact absurd h1 (by show ¬((left:Int)=0);omega)
    |cons s l =>
     obtain⟨k1,k2⟩:=h1;obtain⟨m1,j1,j2⟩:=aZ.1 (show At b a m (MX sz s++qS sz l) from h2);have hr:=k1.1;refine⟨s,m1,(ant hs).2 ⟨k1,j1⟩,aS.2 ⟨l,m,(KX hs o_ (dB j1).2.1).2 ⟨?_,j2⟩,rfl⟩⟩
     rwa [show((left-s.len.toNat:Nat):Int)=left-s.len by omega]
def Xq {b:C_}{sz aX:Nat}(hs:1<=sz∧sz<=5):∀{k a m:Nat}{g:H_},a<=b.length->(uB b sz aX k a=.ok g m↔(g.length=k∧∀l∈g,fitsS aX l)∧At b a m (g.flatMap (qS sz)))
 |0,a,m,g,ha=>by
  rw[uB];constructor
  .intro h;injection h with e1 e2
   subst e1 e2;exact⟨⟨rfl,s_⟩,eg.2 ⟨rfl,ha⟩⟩
  .rintro ⟨⟨h1,_⟩,h2⟩
   have:=ax h1;subst this;rw[(eg.1 h2).1]
 |k+1,a,m,g,ha=>by
  rw[uB,aS];constructor
  .rintro ⟨l,m1,h1,h⟩
   obtain⟨g1,g2⟩:=(KX hs (al _) ha).1 h1;obtain⟨r,m2,h2,h⟩:=aS.1 h;injection h with e1 e2;subst e1 e2;obtain⟨⟨g3,g4⟩,g5⟩:=(Xq hs (dB g2).2.1).1 h2;refine⟨⟨by rw[aq,g3],λq hq=>?_⟩,aZ.2 ⟨m1,g2,g5⟩⟩;rcases ay.1 hq with rfl|hq
   .exact g1
   .exact g4 q hq
  .rintro ⟨⟨h1,h2⟩,h3⟩
   cases g with
   |nil=>simp at h1
   |cons l r =>
    obtain⟨m1,j1,j2⟩:=aZ.1 (show At b a m (qS sz l++r.flatMap (qS sz)) from h3);exact⟨l,m1,(KX hs (al _) ha).2 ⟨h2 l (.head _),j1⟩,aS.2 ⟨r,m,(Xq hs (dB j1).2.1).2 ⟨⟨by simpa using h1,λq hq=>h2 q (.tail _ hq)⟩,j2⟩,rfl⟩⟩
def aaQ {b:C_}{i:aN}{a m:Nat}{g:H_}(hm:i.may 11)(ha:a<=b.length):vW b i (a:Int)=.ok g m↔ke i g∧At b a m (O9 i g):=by
 have hmx:=jY hm;obtain⟨M,hM⟩:=aB hmx.1;have hs:1<=i.fsz∧i.fsz<=5:=by unfold aN.fsz;split<;>omega
 rw[vW,ac o_,au,Xq hs ha,qk hmx.1];exact Iff.rfl
def Zn:∀id∈ids,(cA id).length=br id∧(List.range (br id)).all (λe=>Nat.beq (nth (cA id) (nth (dP id) e)) e && Nat.beq (nth (dP id) (nth (cA id) e)) e)=true:=e_
def ad0 {id e:Nat}(h:jP id)(he:e<br id):nth (cA id) (nth (dP id) e)=e∧nth (dP id) (nth (cA id) e)=e:=by
 have h1:=bH.1 (Zn id (f9 h)).2 e (d9.2 he);rw[af,aF,aF]at h1;exact h1
abbrev qY:=@Nat.add_mul_mod_self_right
abbrev pD:=@Nat.div_add_mod
def KV {b:C_}:∀{f m a k n:Nat},mI b f m (a:Int)=.ok k n↔(m<=k∧k<m+f)∧At b a n (List.replicate (k-m) 0++[1])
 |0,m,a,k,n=>by
  rw[mI];exact⟨λh=>absurd h s_,λh=>by omega⟩
 |f+1,m,a,k,n=>by
  rw[mI,aS];constructor
  .rintro ⟨v,m1,h1,h⟩
   obtain⟨g1,g2⟩:=(cx (s:=1) o_).1 h1;have e:ar v 1=[v]:=by simp[ar];omega
   rw[e]at g2;by_cases hv:v=1
   .rw[ac hv]at h;injection h with e1 e2
    subst e1 e2 hv;exact⟨o_,by simpa using g2⟩
   .have:v=0:=o_;subst this;rw[aa hv,KV]at h;obtain⟨h2,h3⟩:=h;refine⟨o_,?_⟩;rw[show k-m=(k-(m+1))+1 by omega,cL,aQ];exact aZ (X:=[0]) |>.2 ⟨m1,g2,h3⟩
  .rintro ⟨h1,h⟩
   by_cases hk:k=m
   .subst hk;rw[uG]at h;refine⟨1,n,(cx (s:=1) o_).2 ⟨o_,?_⟩,by rw[ac rfl]⟩;simpa [ar] using h
   .rw[show k-m=(k-(m+1))+1 by omega,cL,aQ]at h;obtain⟨m1,k1,k2⟩:=aZ (X:=[0]) |>.1 h;refine⟨0,m1,(cx (s:=1) o_).2 ⟨o_,by simpa [ar] using k1⟩,?_⟩;rw[aa o_,KV];exact⟨o_,k2⟩
def ad7 {r:C_}:∀{k:Nat},val (List.replicate k 0++r) 0=val r 0
 |0=>rfl
 |k+1=>by rw[cL,aQ,val];exact ad7
def aed {k hi:Nat}(h:hi<2 ^ k):ar (2 ^ k+hi) (2*k+1)=List.replicate k 0++[1]++ar hi k:=by
 have hb:bin (List.replicate k 0++(1::ar hi k)):=by
  intro x hx;rcases ba.1 hx with h|h
  .have:=da h;omega
  .rcases ay.1 h with h|h
   .omega
   .exact dx x h
 have h1:=U8 (n:=0) hb;rw[ad7,val,U9,eM h,aj,bm,aq,dk]at h1;rw[aA,cu,<-h1]
 congr 1
 all_goals omega
def anp {n k:Nat}(h1:2 ^ k<=n)(h2:n<2 ^ (k+1)):cR n=k+1:=by
 have hp:=bU k;have a:=IK (n:=n);have b:=vY (n:=n) o_;rcases Nat.lt_trichotomy (cR n) (k+1) with h|h|h
 .have:=aw (n:=2) o_ (show cR n<=k by omega);omega
 .exact h
 .have:=aw (n:=2) o_ (show k+1<=cR n-1 by omega);omega
def Ey {id:Nat}(hid:jP id){b:C_}{a e n:Nat}:AN id b (a:Int)=.ok e n↔e<br id∧At b a n (kl id e):=by
 obtain⟨r1,r2,r3⟩:=Qw id (f9 hid);have hl:=(Zn id (f9 hid)).1;have hm:br id<=300:=by have:=mD id (f9 hid);omega
 have hP:1<=2 ^ bO id:=bU _;rw[AN,aS];unfold kl;constructor
 .rintro ⟨k,n1,h1,h⟩
  obtain⟨⟨_,k9⟩,g1⟩:=KV.1 h1;obtain⟨hi,n2,h2,h⟩:=aS.1 h;obtain⟨g2,g3⟩:=(cx o_).1 h2;obtain⟨lo,n3,h3,h⟩:=aS.1 h;obtain⟨g4,g5⟩:=(cx o_).1 h3;by_cases hx:(cA id).length<=(2 ^ k+hi-1)*2 ^ bO id+lo
  .rw[ac hx]at h;exact absurd h (by simp)
  rw[aa hx]at h;injection h with e1 e2
  subst e1 e2;have hk:=bU k;have he:=ad0 hid (e:=(2 ^ k+hi-1)*2 ^ bO id+lo) o_;have hlt:nth (cA id) ((2 ^ k+hi-1)*2 ^ bO id+lo)<br id:=(K6 (by have:=hid.2;omega)).2.2.2 _ (jy o_);refine⟨hlt,?_⟩;rw[he.2];have d1:((2 ^ k+hi-1)*2 ^ bO id+lo) / 2 ^ bO id=2 ^ k+hi-1:=by
   rw[oU,oG _ _ hP,iZ g4,bv]
  have d2:((2 ^ k+hi-1)*2 ^ bO id+lo) % 2 ^ bO id=lo:=by
   rw[oU,qY,eM g4]
  rw[d1,d2,show 2 ^ k+hi-1+1=2 ^ k+hi by omega,anp (k:=k) o_ (by rw[df];omega),show 2*(k+1)-1=2*k+1 by omega,aed g2];exact aZ.2 ⟨n2,aZ.2 ⟨n1,g1,g3⟩,g5⟩
 .rintro ⟨he,h⟩
  have hr:=adA hid he;have hf:=(ad0 hid he).1;generalize nth (dP id) e=r at *;have hq:1<=r / 2 ^ bO id+1:=lR _ _;have hdv:r / 2 ^ bO id<=r:=lQ _ _;have hdm:=pD r (2 ^ bO id);have hmod:r % 2 ^ bO id<2 ^ bO id:=ef _ hP;generalize r / 2 ^ bO id=q at *;generalize r % 2 ^ bO id=lo at *;have l1:=IK (n:=q+1);have l2:=vY (n:=q+1) o_;have l0:1<=cR (q+1):=by
   rcases Nat.eq_zero_or_pos (cR (q+1)) with h0|h0
   .rw[h0]at l1;omega
   .exact h0
  obtain⟨k,hk⟩:∃k,cR (q+1)=k+1:=⟨cR (q+1)-1,o_⟩
  rw[hk]at l1 l2 h;rw[dr]at l2;rw[df]at l1;have k9:k<10:=by
   rcases bD k 10 with h|h
   .exact h
   .have:=aw (n:=2) o_ h;omega
  obtain⟨hi,hhi⟩:∃hi,q+1=2 ^ k+hi:=⟨q+1-2 ^ k,o_⟩
  have hh:hi<2 ^ k:=o_;rw[show 2*(k+1)-1=2*k+1 by omega,hhi,aed hh]at h;obtain⟨n2,j1,j2⟩:=aZ.1 h;obtain⟨n1,j3,j4⟩:=aZ.1 j1;have ei:(2 ^ k+hi-1)*2 ^ bO id+lo=r:=by rw[<-hhi,dr,eq];omega
  refine⟨k,n1,KV.2 ⟨o_,by simpa using j3⟩,aS.2 ⟨hi,n2,(cx o_).2 ⟨hh,j4⟩,aS.2 ⟨lo,n,(cx o_).2 ⟨hmod,j2⟩,?_⟩⟩⟩;rw[ei,aa o_,hf]
def SD {low:Int}{w:Nat}{v:Int}:∀{l:G_}{n:Nat},mc low w (l++[v]) n=mc low w l n*w+(v-low).toNat
 |[],n=>rfl
 |x::r,n=>by rw[aQ,mc,mc,SD]
def afd {low:Int}{w:Nat}(hw:1<=w):∀{d e:Nat},e<w ^ d->mc low w (mz low w d e) 0=e
 |0,e,h=>by rw[Nat.pow_zero]at h;rw[mz,mc];omega
 |d+1,e,h=>by
  rw[mz,SD,afd hw (by rw[df]at h;exact Nat.div_lt_of_lt_mul (by rwa [eq])),show((e % w:Nat):Int)+low-low=((e % w:Nat):Int) by omega,au,eq];exact pD e w
def ag1 {low:Int}{w:Nat}(hw:1<=w):∀(r:G_),(∀v∈r,low<=v∧v<low+w)->mz low w r.reverse.length (mc low w r.reverse 0)=r.reverse
 |[],_=>rfl
 |v::r,h=>by
  have ih:=ag1 hw r λx hx=>h x (.tail _ hx)
  have hv:=h v (.head _);rw[tj,aj,List.length_singleton,SD,mz];have hx:(v-low).toNat<w:=o_;rw[oU (_*w),oG _ _ hw,iZ hx,bv,ih,qY,eM hx]
  congr 2
  omega
def asc {low:Int}{w:Nat}(hw:1<=w){l:G_}(h:∀v∈l,low<=v∧v<low+w):mz low w l.length (mc low w l 0)=l:=by
 have:=ag1 hw l.reverse λv hv=>h v (List.mem_reverse.1 hv)
 rwa [List.reverse_reverse]at this
def sgB:G_->C_->C_
 |v::r,s::ss=>(if v=0 then [] else [s])++sgB r ss
 |_,_=>[]
def okS:G_->C_->Prop
 |v::r,s::ss=>(s<=1∧(v=0->s=0))∧okS r ss
 |[],[]=>True
 |_,_=>False
def Tr {s:Nat}(h:s<=1):ar s 1=[s]:=by simp[ar];omega
def BQ {b:C_}:∀{vs:G_}{ss:C_}{a n:Nat},a<=b.length->(kG b vs a=.ok ss n↔okS vs ss∧At b a n (sgB vs ss))
 |[],ss,a,n,ha=>by
  rw[kG];constructor
  .intro h;injection h with e1 e2
   subst e1 e2;exact⟨trivial,eg.2 ⟨rfl,ha⟩⟩
  .rintro ⟨h1,h2⟩
   cases ss with
   |nil=>rw[(eg.1 h2).1]
   |cons s ss=>exact absurd h1 (by simp[okS])
 |v::r,ss,a,n,ha=>by
  rw[kG];by_cases hv:v=0
  .rw[ac hv,aS];constructor
   .rintro ⟨l,m,h1,h⟩
    injection h with e1 e2
    subst e1 e2;obtain⟨g1,g2⟩:=(BQ ha).1 h1;exact⟨⟨⟨o_,λ_=>rfl⟩,g1⟩,by rw[sgB,ac hv];exact g2⟩
   .rintro ⟨h1,h2⟩
    cases ss with
    |nil=>exact absurd h1 (by simp[okS])
    |cons s ss =>
     have:=h1.1.2 hv;subst this;rw[sgB,ac hv]at h2;exact⟨ss,n,(BQ ha).2 ⟨h1.2,h2⟩,rfl⟩
  .rw[aa hv,aS];constructor
   .rintro ⟨s,m,h1,h⟩
    obtain⟨g1,g2⟩:=(cx (s:=1) o_).1 h1;rw[Tr o_]at g2;obtain⟨l,m2,h2,h⟩:=aS.1 h;injection h with e1 e2;subst e1 e2;obtain⟨g3,g4⟩:=(BQ (dB g2).2.1).1 h2;exact⟨⟨⟨o_,λh=>absurd h hv⟩,g3⟩,by rw[sgB,aa hv];exact aZ.2 ⟨m,g2,g4⟩⟩
   .rintro ⟨h1,h2⟩
    cases ss with
    |nil=>exact absurd h1 (by simp[okS])
    |cons s ss =>
     rw[sgB,aa hv]at h2;obtain⟨m,k1,k2⟩:=aZ.1 h2;have hs:=h1.1.1;exact⟨s,m,(cx (s:=1) o_).2 ⟨o_,by rw[Tr hs];exact k1⟩,aS.2 ⟨ss,n,(BQ (dB k1).2.1).2 ⟨h1.2,k2⟩,rfl⟩⟩
def Py {b:C_}:∀{f m a k n:Nat},yx b f m a=.ok k n↔(m<=k∧k<m+f)∧At b a n (List.replicate (k-m) 1++[0])
 |0,m,a,k,n=>by
  rw[yx];exact⟨λh=>absurd h s_,λh=>by omega⟩
 |f+1,m,a,k,n=>by
  rw[yx,aS];constructor
  .rintro ⟨v,m1,h1,h⟩
   obtain⟨g1,g2⟩:=(cx (s:=1) o_).1 h1;rw[Tr o_]at g2;by_cases hv:v=1
   .subst hv;rw[ac rfl,Py]at h;obtain⟨h2,h3⟩:=h;refine⟨o_,?_⟩;rw[show k-m=(k-(m+1))+1 by omega,cL,aQ];exact aZ (X:=[1]) |>.2 ⟨m1,g2,h3⟩
   .have:v=0:=o_;subst this;rw[aa hv]at h;injection h with e1 e2
    subst e1 e2;exact⟨o_,by simpa using g2⟩
  .rintro ⟨h1,h⟩
   by_cases hk:k=m
   .subst hk;rw[uG]at h;refine⟨0,n,(cx (s:=1) o_).2 ⟨o_,?_⟩,by rw[aa o_]⟩;simpa [ar] using h
   .rw[show k-m=(k-(m+1))+1 by omega,cL,aQ]at h;obtain⟨m1,k1,k2⟩:=aZ (X:=[1]) |>.1 h;refine⟨1,m1,(cx (s:=1) o_).2 ⟨o_,by simpa [ar] using k1⟩,?_⟩;rw[ac rfl,Py];exact⟨o_,k2⟩
abbrev aup (x:Nat):C_:=List.replicate (cR x-5) 1++(0::ar (x % 2 ^ (cR x-1)) (cR x-1))
def anr {b:C_}{a x n:Nat}:Qt b a=.ok x n↔(16<=x∧x<=8191)∧At b a n (aup x):=by
 rw[Qt,aS];constructor
 .rintro ⟨m,n1,h1,h⟩
  obtain⟨⟨_,m9⟩,g1⟩:=Py.1 h1;obtain⟨y,n2,h2,h⟩:=aS.1 h;obtain⟨g2,g3⟩:=(cx o_).1 h2;injection h with e1 e2;subst e1 e2;have p1:=aw (n:=2) o_ (show 4<=m+4 by omega);have p2:=aw (n:=2) o_ (show m+4<=12 by omega);have hl:=anp (n:=2 ^ (m+4)+y) (k:=m+4) o_ (by have:2 ^ (m+4+1)=2 ^ (m+4)*2:=df _ _;omega);refine⟨o_,?_⟩;unfold aup;rw[hl,show m+4+1-5=m by omega,dr,Nat.add_mod_left,eM g2];have:List.replicate m 1++(0::ar y (m+4))=(List.replicate m 1++[0])++ar y (m+4):=s_;rw[this];exact aZ.2 ⟨n1,by simpa using g1,g3⟩
 .rintro ⟨⟨h1,h2⟩,h⟩
  have l1:=IK (n:=x);have l2:=vY (n:=x) o_;have k5:5<=cR x:=by
   rcases bD (cR x) 5 with h|h
   .have:=aw (n:=2) o_ (show cR x<=4 by omega);omega
   .exact h
  have k13:cR x<=13:=by
   rcases bD 13 (cR x) with h|h
   .have:=aw (n:=2) o_ (show 13<=cR x-1 by omega);omega
   .exact h
  obtain⟨m,hm⟩:∃m,cR x=m+5:=⟨cR x-5,o_⟩
  unfold aup at h;rw[hm]at h l1 l2;rw[show m+5-1=m+4 by omega]at h l2;have l3:2 ^ (m+5)=2 ^ (m+4)*2:=df _ _;rw[dr]at h;have:List.replicate m 1++(0::ar (x % 2 ^ (m+4)) (m+4))=(List.replicate m 1++[0])++ar (x % 2 ^ (m+4)) (m+4):=s_;rw[this]at h;obtain⟨n1,j1,j2⟩:=aZ.1 h;have hx:x % 2 ^ (m+4)=x-2 ^ (m+4):=by rw[Nat.mod_eq_sub_mod l2,eM o_]
  refine⟨m,n1,Py.2 ⟨o_,by simpa using j1⟩,aS.2 ⟨x % 2 ^ (m+4),n,(cx o_).2 ⟨o_,j2⟩,?_⟩⟩;rw[hx]
  congr 1
  omega
def sgn (v:Int):Nat:=if v<0 then 1 else 0
def EF {b:C_}{id:Nat}{M:Nat}(hM:id=11->M=8191):∀{vs:G_}{ss:C_}{l:G_}{a n:Nat},a<=b.length->okS vs ss->(∀v∈vs,0<=v∧(id=11->v<=16)∧(id≠11->v<=M))->
  (nb b id vs ss a=.ok l n↔(vs=l.map (kI id)∧ss=l.map sgn∧∀v∈l,v.natAbs<=M)∧At b a n (l.flatMap (xK id)))
 |[],[],l,a,n,ha,hs,hv=>by
  have e0:nb b id [] [] a=.ok [] a:=by simp[nb]
  rw[e0];constructor
  .intro h;injection h with e1 e2
   subst e1 e2;exact⟨⟨rfl,rfl,s_⟩,eg.2 ⟨rfl,ha⟩⟩
  .rintro ⟨⟨h1,h2,_⟩,h3⟩
   cases l with
   |nil=>rw[(eg.1 h3).1]
   |cons x r=>exact absurd h1 (by simp)
 |[],s::ss,l,a,n,ha,hs,hv=>absurd hs (by simp[okS])
 |v::r,[],l,a,n,ha,hs,hv=>absurd hs (by simp[okS])
 |v::r,s::ss,l,a,n,ha,hs,hv=>by
  obtain⟨⟨s1,s2⟩,hs⟩:=hs;obtain⟨v0,v11,vM⟩:=hv v (.head _);have hv:=λx hx=>hv x (.tail _ hx)
  have sg1:∀x:Int,0<=x->(x=0->s=0)->sgn (sg s x)=s∧(sg s x).natAbs=x.toNat:=λx h0 h1=>by
   unfold sgn sg;by_cases h:s=1
   .rw[ac h,ac o_];omega
   .rw[aa h,aa o_];omega
  have sg2:∀(y:Int),s=sgn y->sg s (y.natAbs:Int)=y:=λy h=>by
   unfold sgn at h;unfold sg;by_cases h2:y<0
   .rw[ac h2]at h;rw[ac h];omega
   .rw[aa h2]at h;rw[aa o_];omega
  rw[nb];by_cases hg:id=11∧v=16
  .rw[ac hg,aS];obtain⟨h11,hv16⟩:=hg;constructor
   .rintro ⟨x,m,h1,h⟩
    obtain⟨g1,g2⟩:=anr.1 h1;obtain⟨l2,m2,h2,h⟩:=aS.1 h;injection h with e1 e2;subst e1 e2;obtain⟨⟨g3,g4,g5⟩,g6⟩:=(EF hM (dB g2).2.1 hs hv).1 h2;obtain⟨q1,q2⟩:=sg1 x o_ o_;have q3:(sg s (x:Int)).natAbs=x:=o_;refine⟨⟨?_,?_,?_⟩,?_⟩
    .rw[bY,<-g3,kI,ac o_,hv16]
    .rw[bY,<-g4,q1]
    .intro y hy;rcases ay.1 hy with rfl|hy
     .rw[q3,hM h11];omega
     .exact g5 y hy
    .rw[aE,xK,ac o_,q3];exact aZ.2 ⟨m,g2,g6⟩
   .rintro ⟨⟨h1,h2,h3⟩,h4⟩
    cases l with
    |nil=>exact absurd h1 (by simp)
    |cons y l =>
     rw[bY]at h1 h2;injection h1 with h1 h1t
     injection h2 with h2 h2t
     have hy:=h3 y (.head _);rw[hM h11]at hy;have h16:16<=y.natAbs:=by
      rw[kI]at h1;by_cases h:id=11∧16<=y.natAbs
      .exact h.2
      .rw[aa h]at h1;omega
     rw[aE,xK,ac ⟨h11,h16⟩]at h4;obtain⟨m,k1,k2⟩:=aZ.1 h4;refine⟨y.natAbs,m,anr.2 ⟨o_,k1⟩,aS.2 ⟨l,n,(EF hM (dB k1).2.1 hs hv).2 ⟨⟨h1t,h2t,λz hz=>h3 z (.tail _ hz)⟩,k2⟩,?_⟩⟩;rw[sg2 y h2]
  .rw[aa hg,aS];constructor
   .rintro ⟨l2,m,h1,h⟩
    injection h with e1 e2
    subst e1 e2;obtain⟨⟨g3,g4,g5⟩,g6⟩:=(EF hM ha hs hv).1 h1;obtain⟨q1,q2⟩:=sg1 v v0 s2;have hng:¬(id=11∧16<=(sg s v).natAbs):=o_;refine⟨⟨?_,?_,?_⟩,?_⟩
    .rw[bY,<-g3,kI,aa hng];congr 1;omega
    .rw[bY,<-g4,q1]
    .intro y hy;rcases ay.1 hy with rfl|hy
     .by_cases h11:id=11
      .have:=hM h11;have:=v11 h11;omega
      .have:=vM h11;omega
     .exact g5 y hy
    .rw[aE,xK,aa hng,aK];exact g6
   .rintro ⟨⟨h1,h2,h3⟩,h4⟩
    cases l with
    |nil=>exact absurd h1 (by simp)
    |cons y l =>
     rw[bY]at h1 h2;injection h1 with h1 h1t
     injection h2 with h2 h2t
     have hng:¬(id=11∧16<=y.natAbs):=λh=>by
      rw[kI,ac h]at h1;exact hg ⟨h.1,h1⟩
     rw[kI,aa hng]at h1;rw[aE,xK,aa hng,aK]at h4;refine⟨l,n,(EF hM ha hs hv).2 ⟨⟨h1t,h2t,λz hz=>h3 z (.tail _ hz)⟩,h4⟩,?_⟩;rw[h1,sg2 y h2]
def ajG {id:Nat}{v:Int}:kI id v=0↔v=0:=by
 unfold kI;by_cases h:id=11∧16<=v.natAbs
 .rw[ac h];omega
 .rw[aa h];omega
def ado {id:Nat}:∀{l:G_},sgB (l.map (kI id)) (l.map sgn)=l.flatMap qW
 |[]=>rfl
 |v::r=>by
  rw[bY,bY,sgB,ado,aE]
  congr 1
  unfold qW sgn;by_cases h:v=0
  .rw[ac (ajG.2 h),ac h]
  .rw[aa (λh2=>h (ajG.1 h2)),aa h];split<;>rfl
def abY {id:Nat}:∀{l:G_},okS (l.map (kI id)) (l.map sgn)
 |[]=>trivial
 |v::r=>⟨⟨by unfold sgn;split<;>omega,λh=>by rw[ajG]at h;subst h;rfl⟩,abY⟩
def ayl:jb 11=8191:=e_
def ahR {id:Nat}(hid:1<=id∧id<=11){b:C_}{a n:Nat}{l:G_}:F4 id b (a:Int)=.ok l n↔Pn id l∧At b a n (Ar id l):=by
 have hok:jP id:=⟨hid.1,o_⟩
 obtain⟨m1,m2,m3,m4⟩:=DP id (Ur hid);obtain⟨k1,k2,k3,k4,k5,k6,k7⟩:=mD id (f9 hok);have hmany:br id=cK id ^ eI id:=rfl;have lt:∀{vs:G_},Sw id vs->mc (dp id) (cK id) vs 0<br id:=λ{vs} h=>by
  have:=IS (n:=0) (j:=0) h.2 s_;rw[bv,h.1,<-hmany]at this;exact this
 have back:∀{vs:G_},Sw id vs->nj id (mc (dp id) (cK id) vs 0)=vs:=λ{vs} h=>by
  have:=asc k3 h.2;rw[h.1]at this;exact this
 have forth:∀{e:Nat},e<br id->mc (dp id) (cK id) (nj id e) 0=e∧∀v∈nj id e,dp id<=v∧v<dp id+cK id:=λ{e} h=>⟨afd k3 (by rwa [<-hmany]),Ke k3⟩
 rw[F4,aS];unfold Ar;by_cases hs:lc id=true
 .simp only[ac hs];obtain⟨q1,q2⟩:=m1 hs;constructor
  .rintro ⟨e,m,h1,h⟩
   obtain⟨g1,g2⟩:=(Ey hok).1 h1;injection h with e1 e2;subst e1 e2;obtain⟨f1,f2⟩:=forth g1;refine⟨⟨by rw[GW,m3],λv hv=>by have:=f2 v hv;omega⟩,?_⟩;rw[f1];exact g2
  .rintro ⟨h1,h2⟩
   have hi:=(P9 hid h1).1 hs;exact⟨_,n,(Ey hok).2 ⟨lt hi,h2⟩,by rw[back hi]⟩
 .have hs2:lc id=false:=by simpa using hs
  simp only[aa hs];obtain⟨q1,q2,q3⟩:=m2 hs2;have h11:id=11->jb id=8191:=λh=>by rw[h];exact ayl
  constructor
  .rintro ⟨e,m,h1,h⟩
   obtain⟨g1,g2⟩:=(Ey hok).1 h1;obtain⟨ss,m2,h2,h⟩:=aS.1 h;obtain⟨g3,g4⟩:=(BQ (dB g2).2.1).1 h2;obtain⟨f1,f2⟩:=forth g1;have hv:∀v∈nj id e,0<=v∧(id=11->v<=16)∧(id≠11->v<=jb id):=λv hv=>by
    have:=f2 v hv;refine⟨o_,λh=>by have:=q3 h;omega,λh=>by have:=q2 h;omega⟩
   obtain⟨⟨g5,g6,g7⟩,g8⟩:=(EF h11 (dB g4).2.1 g3 hv).1 h;have hl:l.length=bI id:=by
    have:=aT List.length g5;rw[GW,ig]at this;omega
   refine⟨⟨hl,g7⟩,aZ.2 ⟨m,?_,aZ.2 ⟨m2,?_,g8⟩⟩⟩
   .rw[<-g5,f1];exact g2
   .rw[<-ado (id:=id),<-g5,<-g6];exact g4
  .rintro ⟨h1,h2⟩
   have hi:=(P9 hid h1).2 hs2;obtain⟨m,j1,j2⟩:=aZ.1 h2;obtain⟨p,j3,j4⟩:=aZ.1 j2;have hv:∀v∈l.map (kI id),0<=v∧(id=11->v<=16)∧(id≠11->v<=jb id):=λv hv=>by
    have:=hi.2 v hv;refine⟨o_,λh=>by have:=q3 h;omega,λh=>by have:=q2 h;omega⟩
   refine⟨_,m,(Ey hok).2 ⟨lt hi,j1⟩,?_⟩;rw[back hi];refine aS.2 ⟨l.map sgn,p,(BQ (dB j1).2.1).2 ⟨abY,by rw[ado];exact j3⟩,?_⟩;exact(EF h11 (dB j3).2.1 abY hv).2 ⟨⟨rfl,rfl,h1.2⟩,j4⟩
def ays:br 12=121:=e_
def amr {b:C_}{a n:Nat}{d:Int}:Jc b (a:Int)=.ok d n↔(-60<=d∧d<=60)∧At b a n (kl 12 (d+60).toNat):=by
 have hok:jP 12:=o_;have h12:=ays;rw[Jc,aS];constructor
 .rintro ⟨e,m,h1,h⟩
  obtain⟨g1,g2⟩:=(Ey hok).1 h1;injection h with e1 e2;subst e1 e2;refine⟨o_,?_⟩;rw[show((e:Int)-60+60).toNat=e by omega];exact g2
 .rintro ⟨h1,h2⟩
  refine⟨(d+60).toNat,n,(Ey hok).2 ⟨o_,h2⟩,?_⟩
  congr 1
  omega
def US {b:C_}{a n:Nat}{k w v:Int}(hw:w<0->k=13):ll b (a:Int) k w=.ok v n↔((0<=v∧v<=tv k)∧(w<0∨(w-60<=v∧v<=w+60)))∧At b a n (if w<0 then ar v.toNat 9 else kl 12 (v-w+60).toNat):=by
 rw[ll];by_cases h0:w<0
 .have hk:=hw h0;have hm:tv k=511:=ac hk;rw[ac h0,ac h0,aS,hm];constructor
  .rintro ⟨x,m,h1,h⟩
   obtain⟨g1,g2⟩:=(cx (s:=9) o_).1 h1;injection h with e1 e2;subst e1 e2;exact⟨⟨o_,.inl h0⟩,by simpa using g2⟩
  .rintro ⟨⟨h1,_⟩,h2⟩
   exact⟨v.toNat,n,(cx (s:=9) o_).2 ⟨o_,h2⟩,by congr 1;omega⟩
 .rw[aa h0,aa h0,aS];constructor
  .rintro ⟨d,m,h1,h⟩
   obtain⟨g1,g2⟩:=amr.1 h1;by_cases hx:w+d<0∨tv k<w+d
   .rw[ac hx]at h;exact absurd h (by simp)
   rw[aa hx]at h;injection h with e1 e2
   subst e1 e2;refine⟨⟨o_,.inr o_⟩,?_⟩;rw[show w+d-w+60=d+60 by omega];exact g2
  .rintro ⟨⟨h1,h2⟩,h3⟩
   refine⟨v-w,n,amr.2 ⟨o_,h3⟩,?_⟩;rw[aa o_]
   congr 1
   omega
def s13 {v w z:Int}:sc 13 v w z=if z<0 then ar v.toNat 9 else kl 12 (v-z+60).toNat:=by rw[sc,aa k_,ac rfl]
def t13 {v w z:Int}:kw 13 v w z=(w,v):=by rw[kw,aa k_,ac rfl]
def By {b:C_}:∀{r:G_}{t:G_}{a n:Nat}{w z w2 z2:Int},a<=b.length->(∀k∈r,0<=k)->0<=w->
  (oW b r (a:Int) w z=.ok (t,w2,z2) n↔dW r t w z=some (w2,z2)∧At b a n (qg r t w z))
 |[],t,a,n,w,z,w2,z2,ha,hr,hw=>by
  rw[oW,au];constructor
  .intro h;injection h with e1 e2
   injection e1 with e1 e3
   injection e3 with e3 e4
   subst e1 e2 e3 e4;exact⟨rfl,eg.2 ⟨rfl,ha⟩⟩
  .rintro ⟨h1,h2⟩
   cases t with
   |nil =>
    injection h1 with h1
    injection h1 with e1 e2
    subst e1 e2;rw[(eg.1 h2).1]
   |cons x t=>exact absurd h1 (by simp[dW])
 |k::r,t,a,n,w,z,w2,z2,ha,hr,hw=>by
  have hk:=hr k (.head _);have hr2:∀k∈r,0<=k:=λx hx=>hr x (.tail _ hx)
  rw[oW];by_cases h13:k=13
  .subst h13;rw[ac rfl,aS];have hm:tv 13=511:=rfl;constructor
   .rintro ⟨v,m,h1,h⟩
    obtain⟨g1,g2⟩:=(US (λ_=>rfl)).1 h1;obtain⟨⟨t2,u2,y2⟩,m2,h2,h⟩:=aS.1 h;injection h with e1 e2;injection e1 with e1 e3
    injection e3 with e3 e4
    simp only at e1 e3 e4;subst e1 e2 e3 e4;obtain⟨g3,g4⟩:=(By (dB g2).2.1 hr2 hw).1 h2;refine⟨?_,?_⟩
    .rw[dW,aa k_,ac (by unfold mt;rw[ac rfl];omega),ac rfl];exact g3
    .rw[qg,s13,t13];exact aZ.2 ⟨m,g2,g4⟩
   .rintro ⟨h1,h2⟩
    cases t with
    |nil=>exact absurd h1 (by simp[dW])
    |cons v t =>
     obtain⟨c1,c2,c3⟩:=qu (by rw[h1];simp);have hT:=c2 k_;unfold mt at hT;rw[ac rfl]at hT;rw[c3,kw,aa k_,ac rfl]at h1;rw[qg,s13,t13]at h2;obtain⟨m,j1,j2⟩:=aZ.1 h2;exact⟨v,m,(US (λ_=>rfl)).2 ⟨o_,j1⟩,aS.2 ⟨(t,w2,z2),n,(By (dB j1).2.1 hr2 hw).2 ⟨h1,j2⟩,rfl⟩⟩
  .rw[aa h13];by_cases h0:0<k
   .have hm:tv k=255:=aa h13;have hk0:¬k=0:=o_;rw[ac h0,aS];constructor
    .rintro ⟨v,m,h1,h⟩
     obtain⟨g1,g2⟩:=(US (λh=>by omega)).1 h1;obtain⟨⟨t2,u2,y2⟩,m2,h2,h⟩:=aS.1 h;injection h with e1 e2;injection e1 with e1 e3
     injection e3 with e3 e4
     simp only at e1 e3 e4;subst e1 e2 e3 e4;rw[aa o_]at g2;obtain⟨g3,g4⟩:=(By (dB g2).2.1 hr2 g1.1.1).1 h2;refine⟨?_,?_⟩
     .rw[dW,aa hk0,ac (by unfold mt;rw[aa h13];omega),aa h13];exact g3
     .rw[qg,sc,aa hk0,aa h13,kw,aa hk0,aa h13];exact aZ.2 ⟨m,g2,g4⟩
    .rintro ⟨h1,h2⟩
     cases t with
     |nil=>exact absurd h1 (by simp[dW])
     |cons v t =>
      obtain⟨c1,c2,c3⟩:=qu (by rw[h1];simp);have hT:=c2 hk0;unfold mt at hT;rw[aa h13]at hT;rw[c3,kw,aa hk0,aa h13]at h1;rw[qg,sc,aa hk0,aa h13,kw,aa hk0,aa h13]at h2;obtain⟨m,j1,j2⟩:=aZ.1 h2;exact⟨v,m,(US (λh=>by omega)).2 ⟨o_,by rw[aa o_];exact j1⟩,aS.2 ⟨(t,w2,z2),n,(By (dB j1).2.1 hr2 hT.1.1).2 ⟨h1,j2⟩,rfl⟩⟩
   .have hk0:k=0:=o_;subst hk0;rw[aa h0,aS];constructor
    .rintro ⟨⟨t2,u2,y2⟩,m2,h2,h⟩
     injection h with e1 e2
     injection e1 with e1 e3
     injection e3 with e3 e4
     simp only at e1 e3 e4;subst e1 e2 e3 e4;obtain⟨g3,g4⟩:=(By ha hr2 hw).1 h2;refine⟨?_,?_⟩
     .rw[dW,ac rfl,ac rfl];exact g3
     .rw[qg,sc,ac rfl,kw,ac rfl,aK];exact g4
    .rintro ⟨h1,h2⟩
     cases t with
     |nil=>exact absurd h1 (by simp[dW])
     |cons v t =>
      obtain⟨c1,c2,c3⟩:=qu (by rw[h1];simp);have:=c1 rfl;subst this;rw[c3,kw,ac rfl]at h1;rw[qg,sc,ac rfl,kw,ac rfl,aK]at h2;exact⟨(t,w2,z2),n,(By ha hr2 hw).2 ⟨h1,h2⟩,rfl⟩
def ajw:∀{r t:G_}{w z w2 z2:Int},0<=w->dW r t w z=some (w2,z2)->0<=w2
 |[],[],w,z,w2,z2,hw,h=>by
  injection h with h
  injection h with e1 e2
  omega
 |[],_::_,w,z,w2,z2,hw,h=>absurd h (by simp[dW])
 |_::_,[],w,z,w2,z2,hw,h=>absurd h (by simp[dW])
 |k::r,v::t,w,z,w2,z2,hw,h=>by
  obtain⟨c1,c2,c3⟩:=qu (by rw[h];simp);rw[c3]at h;refine ajw ?_ h;unfold kw;by_cases h0:k=0
  .rw[ac h0];exact hw
  .rw[aa h0];have:=c2 h0;unfold mt at this;split
   .exact hw
   .rename_i h13;rw[aa h13]at this;exact this.1.1
def TR {b:C_}:∀{g:H_}{t:J_}{a n:Nat}{w z:Int},a<=b.length->(∀l∈g,∀k∈aM l,0<=k)->0<=w->
  (oc b g (a:Int) w z=.ok t n↔mZ g t w z≠none∧At b a n (oz g t w z))
 |[],t,a,n,w,z,ha,hr,hw=>by
  rw[oc,au];constructor
  .intro h;injection h with e1 e2
   subst e1 e2;exact⟨by simp[mZ],eg.2 ⟨rfl,ha⟩⟩
  .rintro ⟨h1,h2⟩
   cases t with
   |nil=>rw[(eg.1 h2).1]
   |cons x t=>exact absurd rfl h1
 |l::r,t,a,n,w,z,ha,hr,hw=>by
  have hl:=hr l (.head _);have hr2:∀q∈r,∀k∈aM q,0<=k:=λq hq=>hr q (.tail _ hq)
  rw[oc,aS];constructor
  .rintro ⟨⟨t1,w1,z1⟩,m,h1,h⟩
   obtain⟨g1,g2⟩:=(By ha hl hw).1 h1;obtain⟨t2,m2,h2,h⟩:=aS.1 h;injection h with e1 e2;subst e1 e2;obtain⟨g3,g4⟩:=(TR (dB g2).2.1 hr2 (ajw hw g1)).1 h2;refine⟨?_,?_⟩
   .rw[mZ,g1];exact g3
   .rw[oz,g1];exact aZ.2 ⟨m,g2,g4⟩
  .rintro ⟨h1,h2⟩
   cases t with
   |nil=>exact absurd rfl h1
   |cons t1 t =>
    rw[mZ]at h1;rw[oz]at h2
    cases e:dW (aM l) t1 w z with
    |none=>rw[e]at h1;exact absurd rfl h1
    |some p =>
     obtain⟨w1,z1⟩:=p;rw[e]at h1 h2;obtain⟨m,j1,j2⟩:=aZ.1 h2;exact⟨(t1,w1,z1),m,(By ha hl hw).2 ⟨e,j1⟩,aS.2 ⟨t,n,(TR (dB j1).2.1 hr2 (ajw hw e)).2 ⟨h1,j2⟩,rfl⟩⟩
def aeL {b:C_}{g:H_}{t:J_}{a n:Nat}{w:Int}(ha:a<=b.length)(hr:∀l∈g,∀k∈aM l,0<=k)(hw:0<=w):zZ b g (a:Int) w=.ok t n↔BX w g t∧At b a n (oz g t w (-1)):=by
 rw[zZ,ac o_,TR ha hr hw]
def U5 {Z l:G_}{a i:Nat}(h:a+l.length<=Z.length):(aI Z a l)[i]?=if a<=i∧i<a+l.length then l[i-a]? else Z[i]?:=by
 have h1:(Z.take a).length=a:=by rw[b7];omega
 unfold aI;by_cases h2:i<a
 .rw[aa o_,aA,cw o_,jC,ac h2]
 .by_cases h3:i<a+l.length
  .rw[ac o_,aA,bZ o_,h1,cw o_]
  .rw[aa o_,bZ (by rw[aj];omega),aj,h1,cf]
   congr 1
   omega
abbrev cut (Z:G_)(p:Nat×Nat):G_:=(Z.drop p.2).take (bI p.1)
def UU {Z:G_}{p:Nat×Nat}{i:Nat}(h:i<bI p.1):(cut Z p)[i]?=Z[p.2+i]?:=by
 rw[cut,jC,ac h,cf]
def ang {Z:G_}{p:Nat×Nat}(h:p.2+bI p.1<=Z.length):(cut Z p).length=bI p.1:=by
 rw[cut,b7,cM];omega
def WC {b:C_}{Zc:G_}(hl:Zc.length=256):∀{pl:R_}{n m:Nat}{Z:G_},n<=b.length->Z.length=256->(∀p∈pl,(1<=p.1∧p.1<=11)∧p.2+bI p.1<=256∧Pn p.1 (cut Zc p))->
  (∀i,(∃p∈pl,p.2<=i∧i<p.2+bI p.1)∨Z[i]?=Zc[i]?)->At b n m (pl.flatMap λp=>Ar p.1 (cut Zc p))->kF b pl n Z=.ok Zc m
 |[],n,m,Z,hn,hz,hp,hc,h=>by
  rw[kF,(eg.1 h).1]
  congr 1
  apply dS;intro i;rcases hc i with ⟨p,hp,_⟩|h
  .exact absurd hp (by simp)
  .exact h
 |p::r,n,m,Z,hn,hz,hp,hc,h=>by
  obtain⟨p1,p2,p3⟩:=hp p (.head _);rw[aE]at h;obtain⟨k,j1,j2⟩:=aZ.1 h;have hcl:=ang (Z:=Zc) (p:=p) o_;rw[kF,(ahR p1).2 ⟨p3,j1⟩,az];refine WC hl (dB j1).2.1 (by rw[XY o_];exact hz) (λq hq=>hp q (.tail _ hq)) (λi=>?_) j2;rcases hc i with ⟨q,hq,h1,h2⟩|h3
  .rcases ay.1 hq with rfl|hq
   .right;rw[U5 o_,ac o_,UU o_]
    congr 1
    omega
   .exact .inl ⟨q,hq,h1,h2⟩
  .right;rw[U5 o_];split
   .rw[UU o_];congr 1;omega
   .exact h3
def arS {d hi i:Nat}(hd:1<=d):∀{f lo:Nat},lo<=i->i<hi->hi<=lo+f->∃x∈tN d hi f lo,x<=i∧i<x+d
 |0,lo,h1,h2,h3=>by omega
 |f+1,lo,h1,h2,h3=>by
  rw[tN,ac o_];rcases bD i (lo+d) with h|h
  .exact⟨lo,.head _,h1,h⟩
  .obtain⟨x,hx,e⟩:=arS hd (f:=f) h h2 o_;exact⟨x,.tail _ hx,e⟩
def ait {os:C_}{d b x:Nat}:∀{k w0 w:Nat},w0<=w->w<w0+k->x∈tN d (nth os (b+1)) 300 (nth os b)->w*32+x∈rI os d b k w0
 |0,w0,w,h1,h2,_=>by omega
 |k+1,w0,w,h1,h2,h=>by
  rw[rI,ba];rcases bD w0 w with h3|h3
  .exact .inr (ait h3 o_ h)
  .have:w=w0:=o_;subst this;exact .inl (dy.2 ⟨x,h,rfl⟩)
def ase {os:C_}{d n first y b:Nat}:∀{k b0:Nat},b0<=b->b<b0+k->y∈rI os d b n first->y∈Ah os d n first k b0
 |0,b0,h1,h2,_=>by omega
 |k+1,b0,h1,h2,h=>by
  rw[Ah,ba];rcases bD b0 b with h3|h3
  .exact .inr (ase h3 o_ h)
  .have:b=b0:=o_;subst this;exact .inl h
def ar4 {os:C_}{n first k y:Nat}(hk:1<=k∧k<=11):∀{r:P_}{b j:Nat},(aM r)[j]?=some (k:Int)->y∈rI os (bI k) (b+j) n first->(k,y)∈Cb os n first r b
 |[],b,j,h,_=>absurd h (by simp[aM])
 |s::r,b,j,h,hy=>by
  have eb:aM (s::r)=List.replicate s.len.toNat s.book++aM r:=by rw[aM,aE];rfl
  rw[eb]at h;rw[Cb,ba];rcases bD j s.len.toNat with h1|h1
  .left;rw[cw (by simpa using h1),jr,ac h1,ae]at h;rw[h,aa o_,au];exact dy.2 ⟨y,ase (b:=b+j) o_ o_ hy,rfl⟩
  .right;rw[bZ (by simpa using h1),bm]at h;exact ar4 hk h (by rw[show b+s.len.toNat+(j-s.len.toNat)=b+j by omega];exact hy)
def aqC {os:C_}{k x j w:Nat}(hk:1<=k∧k<=11):∀{r:H_}{q:G_}{first:Nat}{l:P_},(∀n∈q,1<=n)->first<=w->(w:Int)<first+q.sum->r[lH q ((w:Int)-first)]?=some l->(aM l)[j]?=some (k:Int)->x∈tN (bI k) (nth os (j+1)) 300 (nth os j)->(k,w*32+x)∈qw os r q first
 |[],q,first,l,hq,h1,h2,h3,h4,h5=>absurd h3 (by simp)
 |l0::r,[],first,l,hq,h1,h2,h3,h4,h5=>by simp at h2;omega
 |l0::r,n::q,first,l,hq,h1,h2,h3,h4,h5=>by
  have hn:=hq n (.head _);rw[qw,ba];rw[lH]at h3;rw[kZ]at h2;by_cases h:(w:Int)-first<n
  .rw[ac h]at h3;simp only[b9,ae]at h3;subst h3;exact .inl (ar4 hk h4 (by rw[bv];exact ait h1 o_ h5))
  .rw[aa h,mF]at h3;right;refine aqC hk (λy hy=>hq y (.tail _ hy)) o_ o_ ?_ h4 h5;rw[show(w:Int)-((first+n.toNat:Nat):Int)=(w:Int)-first-n by omega];exact h3
def aka {i:Nat}:∀{tl:C_}{lo:Nat},lo<=i->(∃x∈tl,i<x)->mu tl i<tl.length∧nth (lo::tl) (mu tl i)<=i∧i<nth (lo::tl) (mu tl i+1)
 |[],lo,_,h=>by obtain⟨x,hx,_⟩:=h;exact absurd hx (by simp)
 |x::r,lo,h1,h2=>by
  rw[mu];by_cases h:x<=i
  .rw[ac h];have ih:=aka (tl:=r) h (by
    obtain⟨y,hy,e⟩:=h2;rcases ay.1 hy with rfl|hy
    .omega
    .exact⟨y,hy,e⟩)
   exact⟨by rw[aq];omega,ih.2⟩
  .rw[aa h];exact⟨s_,h1,by show i<x;omega⟩
def Is (i:aN):(cond i.short 32 256:Nat)=i.wide∧((i.wide=32∧i.many=8)∨(i.wide=256∧i.many=1)):=by
 unfold aN.short aN.wide aN.many;by_cases h:i.seq=2
 .rw[decide_eq_true h,ac h,ac h];exact⟨rfl,.inl ⟨rfl,rfl⟩⟩
 .rw[decide_eq_false h,aa h,aa h];exact⟨rfl,.inr ⟨rfl,rfl⟩⟩
def asw {r:Nat}(hr:r<=11)(s:Bool):offs r s=0::(offs r s).drop 1:=by
 obtain⟨o1,o2,o3,o4⟩:=Cl (r,s) (fI o_);obtain⟨p1,p2,p3⟩:=oQ (r,s) (fI o_);simp only at o4 p2
 cases e:offs r s with
 |nil=>rw[e]at o4;simp at o4
 |cons x t =>
  rw[e]at p2;have:x=0:=p2;rw[this];rfl
def axn {r:Nat}(hr:r<=11)(i:aN){x:Nat}(hx:x<i.wide):∃j,j=mu ((offs r i.short).drop 1) x∧j+1<(offs r i.short).length∧nth (offs r i.short) j<=x∧x<nth (offs r i.short) (j+1):=by
 obtain⟨o1,o2,o3,o4⟩:=Cl (r,i.short) (fI o_);simp only at o1;have hw:=(Is i).1;rw[hw]at o1;have hm:i.wide∈(offs r i.short).drop 1:=by simpa using o1
 have h:=aka (i:=x) (tl:=(offs r i.short).drop 1) (lo:=0) (dA _) ⟨_,hm,hx⟩;rw[<-asw hr]at h;refine⟨_,rfl,?_,h.2⟩;have:=h.1;rw[cM]at this;omega
def aoo {r:Nat}{c:cJ}(h:nB r c)(hr:r<=11){i:Nat}{v:Int}(hv:c.lines[i]?=some v)(h0:v≠0):∃p∈OE r c.info c.sects,p.2<=i∧i<p.2+bI p.1:=by
 have hm11:=gC hr h.info;obtain⟨g1,g2⟩:=dV hm11;have hi:i<256:=by
  have:=(aJ.1 hv).1;have:=h.lines.1;omega
 obtain⟨hw1,hw⟩:=Is c.info;have hwp:0<c.info.wide:=o_;have hdm:=pD i c.info.wide;have hx:=ef i hwp;have hwm:i / c.info.wide<c.info.many:=by
  rcases hw with ⟨a,b⟩|⟨a,b⟩<;>rw[a,b]<;>omega
 have hw32:i / c.info.wide*32+i % c.info.wide=i:=by
  rcases hw with ⟨a,b⟩|⟨a,b⟩<;>rw[a]<;>omega
 have e1:(zD c (i / c.info.wide))[i % c.info.wide]?=some v:=by
  rw[zD,jC,ac hx,cf,eq,hdm,hv]
 have h2:=TI (SW h.lines.2 (dA _) (show _<0+c.info.many by omega)) e1;rw[bv]at h2;rcases h2 with h2|⟨k,k1,k2,k3⟩
 .exact absurd h2 h0
 obtain⟨j,j1,j2,j3,j4⟩:=axn hr c.info hx;rw[<-j1]at k1;obtain⟨K,rfl⟩:=aB (show 0<=k by omega);have hd:1<=bI K:=by unfold bI;split<;>omega
 have ho:nth (offs r c.info.short) (j+1)<=256:=by
  obtain⟨p1,p2,p3⟩:=oQ (r,c.info.short) (fI o_);have:=bH.1 p3 _ (jy j2);simp only[decide_eq_true_eq]at this;rw[hw1]at this;omega
 obtain⟨x,x1,x2,x3⟩:=arS hd (f:=300) j3 j4 o_;generalize i / c.info.wide=w at *;generalize i % c.info.wide=y at *;have hgl:lH c.info.groups (w:Int)<c.sects.length:=by
  have:=ajZ (l:=c.info.groups) (w:=w) o_ (λn hn=>(g1 n hn).1) o_;have:=h.sects.1;omega
 refine⟨(K,w*32+x),aqC (l:=xD c w) o_ (λn hn=>(g1 n hn).1) (dA _) o_ ?_ k1 x1,by simp only[];omega,by simp only[];omega⟩;rw[show(w:Int)-((0:Nat):Int)=w by omega,xD,dh,bC hgl];rfl
def aqe {b:C_}{r:Nat}{c:cJ}(hc:c.Fit)(h:nB r c)(hr:r<=11){n m:Nat}(hn:n<=b.length)(ha:At b n m (oh r c)):kF b (OE r c.info c.sects) n Z0=.ok c.lines m:=by
 refine WC h.lines.1 hn (by rw[bm]) (λp hp=>Sy hc h hr hp) (λi=>?_) ha
 cases e:c.lines[i]? with
 |none =>
  right;have:=List.getElem?_eq_none_iff.1 e;have:=h.lines.1;rw[ik (by rw[bm];omega)]
 |some v =>
  by_cases h0:v=0
  .right;subst h0;have:=(aJ.1 e).1;have:=h.lines.1;rw[jr,ac o_]
  .exact .inl (aoo h hr e h0)
def BW (b:C_)(st s2:RS)(X:C_):Prop:=∃a n:Nat,st=⟨a,0⟩∧s2=⟨n,0⟩∧At b a n X
def apW (b:C_)(st:RS):Prop:=∃a:Nat,st=⟨a,0⟩∧a<=b.length
def jc {b:C_}{st s2:RS}{X Y:C_}:BW b st s2 (X++Y)↔∃m,BW b st m X∧BW b m s2 Y:=by
 constructor
 .rintro ⟨a,n,e1,e2,h⟩
  obtain⟨m,h1,h2⟩:=aZ.1 h;exact⟨⟨m,0⟩,⟨a,m,e1,rfl,h1⟩,⟨m,n,rfl,e2,h2⟩⟩
 .rintro ⟨m,⟨a,n,e1,e2,h⟩,⟨a2,n2,e3,e4,h2⟩⟩
  rw[e2]at e3;injection e3 with e3 _
  have:n=a2:=o_;subst this;exact⟨a,n2,e1,e4,aZ.2 ⟨n,h,h2⟩⟩
def BD {b:C_}{st s2:RS}:BW b st s2 []↔s2=st∧apW b st:=by
 constructor
 .rintro ⟨a,n,e1,e2,h⟩
  obtain⟨h1,h2⟩:=eg.1 h;exact⟨by rw[e1,e2,h1],a,e1,h2⟩
 .intro hh;obtain⟨a,e,h⟩:=hh.2;exact⟨a,a,e,by rw[hh.1,e],eg.2 ⟨rfl,h⟩⟩
def EA {b:C_}{st s2:RS}{X:C_}(h:BW b st s2 X):apW b st∧apW b s2∧st.e=0∧s2.e=0:=by
 obtain⟨a,n,e1,e2,h⟩:=h;have:=dB h;exact⟨⟨a,e1,this.1⟩,⟨n,e2,this.2.1⟩,by rw[e1],by rw[e2]⟩
def XD {b:C_}{st:RS}{s:Nat}(h:(sN b st s).e=0):st.e=0:=by
 unfold sN at h;by_cases h0:st.e=0
 .exact h0
 .rw[aa h0]at h;exact absurd h h0
def Ml {b:C_}{st:RS}{s:Nat}(hs:s<=31)(h:(sN b st s).e=0):sV b st s<2 ^ s∧BW b st (sN b st s) (ar (sV b st s) s):=by
 have h0:=XD h;obtain⟨a,e⟩:=st;simp only at h0;subst h0
 cases hg:bf b a s with
 |er e=>rw[(Dv hg).2]at h;exact absurd h (by simp)
 |ok v n =>
  rw[(kN hg).1,(kN hg).2];have ha:=amT hg;obtain⟨A,rfl⟩:=aB ha;obtain⟨g1,g2⟩:=(cx hs).1 hg;exact⟨g1,A,n,rfl,rfl,g2⟩
def S9 {b:C_}{st s2:RS}{s v:Nat}(hs:s<=31)(hv:v<2 ^ s)(h:BW b st s2 (ar v s)):sV b st s=v∧sN b st s=s2:=by
 obtain⟨a,n,rfl,rfl,h⟩:=h;exact kN ((cx hs).2 ⟨hv,h⟩)
abbrev nx (b:C_)(st:RS):Prop:=st.e=0->apW b st
def aFZ {v sz:Nat}(hz:1<=sz)(hv:v<2 ^ sz):(-((2 ^ (sz-1):Nat):Int)<=TP v sz∧TP v sz<((2 ^ (sz-1):Nat):Int))∧(TP v sz % ((2 ^ sz:Nat):Int)).toNat=v:=by
 obtain⟨k,rfl⟩:∃k,sz=k+1:=⟨sz-1,o_⟩
 have e:2 ^ (k+1)=2*2 ^ k:=by rw[df,eq]
 have hp:=bU k;unfold TP;rw[dr];rw[e]at hv⊢;rcases bD v (2 ^ k) with h|h
 .rw[iZ h,Nat.zero_mul];refine⟨o_,?_⟩;rw[j7 o_ o_];omega
 .have:v / 2 ^ k=1:=qm o_ o_;rw[this,Nat.one_mul];refine⟨o_,?_⟩;have e3:((v:Int)-((2*2 ^ k:Nat):Int)) % ((2*2 ^ k:Nat):Int)=v:=by
   rw[Int.sub_emod_right,j7 o_ o_]
  rw[e3];omega
def aFO {c:Int}{sz:Nat}(hz:1<=sz)(h:-((2 ^ (sz-1):Nat):Int)<=c∧c<((2 ^ (sz-1):Nat):Int)):(c % ((2 ^ sz:Nat):Int)).toNat<2 ^ sz∧TP (c % ((2 ^ sz:Nat):Int)).toNat sz=c:=by
 obtain⟨k,rfl⟩:∃k,sz=k+1:=⟨sz-1,o_⟩
 have e:2 ^ (k+1)=2*2 ^ k:=by rw[df,eq]
 have hp:=bU k;rw[dr]at h;unfold TP;rw[dr,e];rcases Int.lt_or_le c 0 with h0|h0
 .have e3:c % ((2*2 ^ k:Nat):Int)=c+((2*2 ^ k:Nat):Int):=by
   rw[<-Int.add_emod_right,j7 o_ o_]
  rw[e3];have e4:(c+((2*2 ^ k:Nat):Int)).toNat / 2 ^ k=1:=qm o_ o_;rw[e4];omega
 .rw[j7 o_ o_,iZ o_];omega
def aAA {b:C_}{sz:Nat}(hz:1<=sz∧sz<=31):∀{k:Nat}{st:RS},nx b st->(xZ b sz k st).e=0->(yY b sz k st).length=k∧(∀c∈yY b sz k st,-((2 ^ (sz-1):Nat):Int)<=c∧c<((2 ^ (sz-1):Nat):Int))∧BW b st (xZ b sz k st) (qH sz (yY b sz k st))
 |0,st,hn,h=>⟨rfl,by simp[yY],BD.2 ⟨rfl,hn h⟩⟩
 |k+1,st,hn,h=>by
  rw[xZ]at h;have hn2:nx b (sN b st sz):=λh1=>(EA (Ml hz.2 h1).2).2.1
  obtain⟨i1,i2,i3⟩:=aAA hz (k:=k) hn2 h;obtain⟨j1,j2⟩:=Ml hz.2 (EA i3).2.2.1;obtain⟨v1,v2⟩:=aFZ hz.1 j1;rw[yY,xZ];refine⟨by rw[aq,i1],λc hc=>?_,?_⟩
  .rcases ay.1 hc with rfl|hc
   .exact v1
   .exact i2 c hc
  .rw[qH,aE,v2];exact jc.2 ⟨_,j2,i3⟩
def azT {b:C_}{sz:Nat}(hz:1<=sz∧sz<=31):∀{l:G_}{st s2:RS},(∀c∈l,-((2 ^ (sz-1):Nat):Int)<=c∧c<((2 ^ (sz-1):Nat):Int))->BW b st s2 (qH sz l)->yY b sz l.length st=l∧xZ b sz l.length st=s2
 |[],st,s2,hl,h=>⟨rfl,(BD.1 h).1.symm⟩
 |c::r,st,s2,hl,h=>by
  rw[qH,aE]at h;obtain⟨m,h1,h2⟩:=jc.1 h;obtain⟨v1,v2⟩:=aFO hz.1 (hl c (.head _));obtain⟨w1,w2⟩:=S9 hz.2 v1 h1;obtain⟨i1,i2⟩:=azT hz (l:=r) (λx hx=>hl x (.tail _ hx)) h2;rw[aq,yY,xZ,w1,w2,v2,i1,i2];exact⟨rfl,rfl⟩
def at8 {b:C_}{sz:Nat}:∀{k:Nat}{st:RS},(xZ b sz k st).e=0->st.e=0
 |0,_,h=>h
 |k+1,st,h=>by rw[xZ]at h;exact XD (at8 h)
def UQ {b:C_}{st:RS}{s:Nat}(hs:s<=31):nx b (sN b st s):=λh=>(EA (Ml hs h).2).2.1
def aAn {b:C_}{sz:Nat}(hz:sz<=31):∀{k:Nat}{st:RS},nx b st->nx b (xZ b sz k st)
 |0,_,h=>h
 |k+1,st,h=>by rw[xZ];exact aAn hz (UQ hz)
def asH {fine:Bool}{w:Nat}(hw:w<=1):1<=fN fine-w∧fN fine-w<=31:=by unfold fN;split<;>omega
def awM (fine:Bool)(l:G_)(s:Nat)(hs:s=fN fine-1):Lu l s=decide (∀c∈l,-(dM fine / 2)<=c∧c<dM fine / 2):=by
 subst hs
 cases fine<;>rfl
def Uj (sh:Bool):Bu sh=((2 ^ bS sh:Nat):Int)-1∧bS sh<=31∧bQ sh<=31∧fg sh<=31:=by cases sh<;>decide
def aqG {d:Nat}(h:d<2 ^ 1):ee (decide (d=1))=d:=by
 unfold ee;by_cases h1:d=1
 .rw[h1];rfl
 .rw[decide_eq_false h1];simp;omega
def aFV {b:C_}{sh fine:Bool}{st:RS}(hO:¬(12<sR b (bS sh) (bQ sh) st∧(z8 b (bS sh) (bQ sh) st).e=0))(hX:K8 b (bS sh) (bQ sh) fine st=false)(he:(zm b (bS sh) (bQ sh) fine st).e=0) :
  (Db sh (OK b (bS sh) (bQ sh) fine st)∧(OK b (bS sh) (bQ sh) fine st).fine=fine)∧BW b st (zm b (bS sh) (bQ sh) fine st) (ti sh (OK b (bS sh) (bQ sh) fine st)):=by
 obtain⟨l1,l2,l3,_⟩:=Uj sh;have hS:(z8 b (bS sh) (bQ sh) st).e=0:=by
  unfold zm at he;by_cases h0:sR b (bS sh) (bQ sh) st=0
  .rw[ac h0]at he;exact he
  .rw[aa h0]at he;have:=at8 he;exact XD (s:=1) (XD (s:=1) this)
 have r2:=Ml (st:=sN b st (bS sh)) (s:=bQ sh) l3 hS;have r1:=Ml (st:=st) (s:=bS sh) l2 (XD (s:=bQ sh) hS);have hO2:((sR b (bS sh) (bQ sh) st:Nat):Int)<=xE sh:=by
  have h1:sR b (bS sh) (bQ sh) st<2 ^ bQ sh:=r2.1;have h2:sR b (bS sh) (bQ sh) st<=12:=by
   rcases bD 12 (sR b (bS sh) (bQ sh) st) with h|h
   .exact absurd ⟨h,hS⟩ hO
   .exact h
  cases sh
  .show _<=(12:Int);omega
  .have:2 ^ bQ true=8:=rfl;show _<=(7:Int);omega
 have hr1:=r1.1;have q2:BW b (sN b st (bS sh)) (z8 b (bS sh) (bQ sh) st) (ar (sR b (bS sh) (bQ sh) st) (bQ sh)):=r2.2;unfold zm at he⊢;unfold OK;by_cases h0:sR b (bS sh) (bQ sh) st=0
 .rw[ac h0]at he⊢;rw[ac h0];rw[h0]at q2;refine⟨⟨⟨⟨by simp only[];omega,by simp only[];omega⟩,⟨s_,by simp only[];cases sh<;>decide⟩,rfl,λ_=>rfl,s_⟩,rfl⟩,?_⟩;unfold ti;simp only[bi,bj];exact jc.2 ⟨_,by simpa using r1.2,by simpa using q2⟩
 .rw[aa h0]at he⊢;rw[aa h0];have hT:=at8 he;have r4:=Ml (st:=sN b (z8 b (bS sh) (bQ sh) st) (1:Nat)) (s:=1) o_ hT;have r3:=Ml (st:=z8 b (bS sh) (bQ sh) st) (s:=1) o_ (XD (s:=1) hT);have hd:flD b (bS sh) (bQ sh) st<2 ^ 1:=r3.1;have hw:Ig b (bS sh) (bQ sh) st<2 ^ 1:=r4.1;have q3:BW b (z8 b (bS sh) (bQ sh) st) (sN b (z8 b (bS sh) (bQ sh) st) (1:Nat)) (ar (flD b (bS sh) (bQ sh) st) 1):=r3.2;have q4:BW b (sN b (z8 b (bS sh) (bQ sh) st) (1:Nat)) (Q7 b (bS sh) (bQ sh) st) (ar (Ig b (bS sh) (bQ sh) st) 1):=r4.2;have hz:=asH (fine:=fine) (w:=Ig b (bS sh) (bQ sh) st) o_;have c:=aAA (sz:=KB b (bS sh) (bQ sh) fine st) hz (k:=sR b (bS sh) (bQ sh) st) (UQ (st:=sN b (z8 b (bS sh) (bQ sh) st) (1:Nat)) (s:=1) o_) he;unfold K8 at hX;rw[aa h0]at hX;obtain⟨c1,c2,c3⟩:=c;have c3:BW b (Q7 b (bS sh) (bQ sh) st) _ _:=c3;have hZ:KB b (bS sh) (bQ sh) fine st=fN fine-Ig b (bS sh) (bQ sh) st:=rfl;generalize hcf:yY b (KB b (bS sh) (bQ sh) fine st) (sR b (bS sh) (bQ sh) st) (sN b (sN b (z8 b (bS sh) (bQ sh) st) (1:Nat)) (1:Nat))=cs at *;have hcf2:yY b (KB b (bS sh) (bQ sh) fine st) (sR b (bS sh) (bQ sh) st) (Q7 b (bS sh) (bQ sh) st)=cs:=hcf;rw[hcf2]at hX⊢;have hrng:∀c∈cs,-dM fine<=c∧c<dM fine:=λc hc=>by
   have:=c2 c hc;rw[hZ]at this;have hw2:Ig b (bS sh) (bQ sh) st=0∨Ig b (bS sh) (bQ sh) st=1:=o_;rcases hw2 with e|e<;>rw[e]at this<;>cases fine<;>simp only[fN,dM]at this⊢<;>simp at this⊢<;>omega
  have hnar:ee (decide (∀c∈cs,-(dM fine / 2)<=c∧c<dM fine / 2))=Ig b (bS sh) (bQ sh) st:=by
   rw[<-awM fine cs _ rfl];have hw2:Ig b (bS sh) (bQ sh) st=0∨Ig b (bS sh) (bQ sh) st=1:=o_;rcases hw2 with e|e
   .rw[e]at hX hZ⊢;rw[hZ]at hX;simp only[decide_true,nM,Nat.sub_zero]at hX;rw[hX];rfl
   .rw[e]at hZ⊢;have:Lu cs (fN fine-1)=true:=by
     rw[Lu,decide_eq_true_eq];intro c hc;have:=c2 c hc;rw[hZ]at this
     cases fine<;>simp only[fN]at this⊢<;>simp at this⊢<;>omega
    rw[this];rfl
  refine⟨⟨⟨⟨by simp only[];omega,by simp only[];omega⟩,⟨by simp only[];omega,hO2⟩,by simp only[];rw[c1],λh=>absurd h t_,hrng⟩,rfl⟩,?_⟩;unfold ti;rw[aa t_];refine jc.2 ⟨_,by simpa using r1.2,jc.2 ⟨_,by simpa using q2,jc.2 ⟨_,by simp only[];rw[aqG hd];exact q3,jc.2 ⟨Q7 b (bS sh) (bQ sh) st,?_,?_⟩⟩⟩⟩
  .simp only[fT];rw[hnar];exact q4
  .simp only[uP,fT];rw[hnar];exact c3
def aF4 {b:C_}{sh:Bool}{f:b6}{st s2:RS}(hf:Db sh f)(h:BW b st s2 (ti sh f)) :
  OK b (bS sh) (bQ sh) f.fine st=f∧zm b (bS sh) (bQ sh) f.fine st=s2∧K8 b (bS sh) (bQ sh) f.fine st=false∧¬(12<sR b (bS sh) (bQ sh) st):=by
 obtain⟨l1,l2,l3,_⟩:=Uj sh;obtain⟨len,ord,down,fine,cs⟩:=f;obtain⟨⟨f1,f2⟩,⟨f3,f4⟩,f5,f6,f7⟩:=hf;simp only at f1 f2 f3 f4 f5 f6 f7⊢;obtain⟨len,rfl⟩:=aB f1;obtain⟨ord,rfl⟩:=aB f3;have hordF:ord<2 ^ bQ sh∧ord<=12:=by
  cases sh
  .have:(ord:Int)<=12:=f4;have:2 ^ bQ false=32:=rfl;omega
  .have:(ord:Int)<=7:=f4;have:2 ^ bQ true=8:=rfl;omega
 unfold ti at h;simp only[au]at h;obtain⟨m1,h1,h⟩:=jc.1 h;obtain⟨m2,h2,h⟩:=jc.1 h;obtain⟨v1,n1⟩:=S9 l2 (show len<2 ^ bS sh by omega) h1;obtain⟨v2,n2⟩:=S9 l3 hordF.1 h2;have hO:sR b (bS sh) (bQ sh) st=ord:=by unfold sR;rw[n1,v2]
 have hS:z8 b (bS sh) (bQ sh) st=m2:=by unfold z8;rw[n1,n2]
 refine⟨?_,?_,?_,by rw[hO];omega⟩
 all_goals
  by_cases h0:ord=0
  .subst h0;have hc:cs=[]:=ax o_;have hd:=f6 rfl;subst hc hd;simp only[Int.natCast_zero,bi]at h;have hs2:=(BD.1 h).1
   first
    |(unfold OK;rw[ac hO,v1];rfl)
    |(unfold zm;rw[ac hO,hS,hs2])
    |(unfold K8;rw[ac hO])
  .rw[aa o_]at h;obtain⟨m3,h3,h⟩:=jc.1 h;obtain⟨m4,h4,h5⟩:=jc.1 h;have b1:∀x:Bool,ee x<2 ^ 1:=λx=>by cases x<;>decide
   obtain⟨v3,n3⟩:=S9 (s:=1) o_ (b1 down) h3;obtain⟨v4,n4⟩:=S9 (s:=1) o_ (b1 _) h4;have hD:flD b (bS sh) (bQ sh) st=ee down:=by unfold flD;rw[hS];exact v3
   have hT:Q7 b (bS sh) (bQ sh) st=m4:=by
    unfold Q7;rw[hS];show sN b (sN b m2 (1:Nat)) (1:Nat)=m4;rw[n3,n4]
   have hW:Ig b (bS sh) (bQ sh) st=ee (fT ⟨len,ord,down,fine,cs⟩):=by
    unfold Ig;rw[hS];show sV b (sN b m2 (1:Nat)) (1:Nat)=_;rw[n3,v4]
   have hZ:KB b (bS sh) (bQ sh) fine st=uP ⟨len,ord,down,fine,cs⟩:=by unfold KB;rw[hW];rfl
   have hw1:ee (fT ⟨len,ord,down,fine,cs⟩)<=1:=by cases fT ⟨len,ord,down,fine,cs⟩<;>decide
   have hz:=asH (fine:=fine) hw1;have hrng:∀c∈cs,-((2 ^ (uP ⟨len,ord,down,fine,cs⟩-1):Nat):Int)<=c∧c<((2 ^ (uP ⟨len,ord,down,fine,cs⟩-1):Nat):Int):=λc hc=>by
    have a:=f7 c hc
    cases hn:fT ⟨len,ord,down,fine,cs⟩ with
    |true =>
     have b:=(of_decide_eq_true hn) c hc;simp only[uP,hn]
     cases fine<;>simp only[fN,ee,dM]at b⊢<;>simp at b⊢<;>omega
    |false =>
     simp only[uP,hn]
     cases fine<;>simp only[fN,ee,dM]at a⊢<;>simp at a⊢<;>omega
   have hco:cs.length=ord:=o_;obtain⟨c1,c2⟩:=azT (sz:=uP ⟨len,ord,down,fine,cs⟩) hz hrng h5;rw[hco]at c1 c2
   first
    |(unfold OK;rw[aa o_,v1,hO,hD,hZ,hT,c1];congr 1;cases down<;>rfl)
    |(unfold zm;rw[aa o_,hO,hZ,hT,c2])
    |(unfold K8;rw[aa o_,hO,hZ,hT,c1,hW];cases hn:fT ⟨len,ord,down,fine,cs⟩;rw[show uP ⟨len,ord,down,fine,cs⟩-1=fN fine-1 from(by rw[uP,hn];rfl),awM fine cs _ rfl];show(_ && fT ⟨len,ord,down,fine,cs⟩)=false;rw[hn,Bool.and_false];rfl)
def arK {b:C_}{sh fine:Bool}{st:RS}:nx b (zm b (bS sh) (bQ sh) fine st):=by
 obtain⟨l1,l2,l3,_⟩:=Uj sh;unfold zm;by_cases h0:sR b (bS sh) (bQ sh) st=0
 .rw[ac h0];exact UQ l3
 .rw[aa h0];have hz:KB b (bS sh) (bQ sh) fine st<=31:=by unfold KB fN;split<;>omega
  exact aAn hz (UQ (st:=sN b (z8 b (bS sh) (bQ sh) st) (1:Nat)) (s:=1) o_)
def awT {b:C_}{sh fine:Bool}:∀{k:Nat}{o:Bool}{st st2:RS}{l:AA_},nx b st->jD b (bS sh) (bQ sh) fine k o st=some (l,false,st2)->st2.e=0->
  o=false∧l.length=k∧(∀f∈l,Db sh f∧f.fine=fine)∧BW b st st2 (l.flatMap (ti sh))
 |0,o,st,st2,l,hn,h,he=>by
  rw[jD]at h;injection h with h
  injection h with e1 h
  injection h with e2 e3
  subst e1 e2 e3;exact⟨rfl,rfl,s_,BD.2 ⟨rfl,hn he⟩⟩
 |k+1,o,st,st2,l,hn,h,he=>by
  rw[jD]at h;by_cases hO:12<sR b (bS sh) (bQ sh) st∧(z8 b (bS sh) (bQ sh) st).e=0
  .rw[ac hO]at h;exact absurd h (by simp)
  rw[aa hO]at h
  cases hq:jD b (bS sh) (bQ sh) fine k (o ||K8 b (bS sh) (bQ sh) fine st) (zm b (bS sh) (bQ sh) fine st) with
  |none=>rw[hq]at h;exact absurd h (by simp)
  |some q =>
   obtain⟨l2,o2,s3⟩:=q;rw[hq]at h;simp only[ae,aP]at h;obtain⟨e1,e2,e3⟩:=h;subst e1 e2 e3;obtain⟨i1,i2,i3,i4⟩:=awT arK hq he;rw[Bool.or_eq_false_iff]at i1;obtain⟨⟨j1,j2⟩,j3⟩:=aFV hO i1.2 (EA i4).2.2.1;refine⟨i1.1,by rw[aq,i2],λf hf=>?_,?_⟩
   .rcases ay.1 hf with rfl|hf
    .exact⟨j1,j2⟩
    .exact i3 f hf
   .rw[aE];exact jc.2 ⟨_,j3,i4⟩
def awV {b:C_}{sh fine:Bool}:∀{l:AA_}{st st2:RS},(∀f∈l,Db sh f∧f.fine=fine)->BW b st st2 (l.flatMap (ti sh))->jD b (bS sh) (bQ sh) fine l.length false st=some (l,false,st2)
 |[],st,st2,hl,h=>by rw[(BD.1 h).1];rfl
 |f::r,st,st2,hl,h=>by
  obtain⟨h1,h2⟩:=hl f (.head _);rw[aE]at h;obtain⟨m,k1,k2⟩:=jc.1 h;obtain⟨j1,j2,j3,j4⟩:=aF4 h1 k1;rw[h2]at j1 j2 j3;rw[aq,jD,aa (λh=>j4 h.1),j3,j2,rR,awV (λx hx=>hl x (.tail _ hx)) k2,j1]
def aqf (sh:Bool):x0T sh=fg sh∧x1T sh=bS sh∧x2T sh=bQ sh∧2 ^ fg sh=qx sh+1:=by cases sh<;>decide
def adW {sh:Bool}{f:b6}{r:AA_}:zx sh (f::r)=ar (f::r).length (fg sh)++(ar (ee f.fine) 1++(f::r).flatMap (ti sh)):=rfl
def aiJ {sh:Bool}:zx sh []=ar 0 (fg sh):=by simp[zx]
def av9 {b:C_}{sh:Bool}:∀{k:Nat}{o:Bool}{st st2:RS}{t:N_},nx b st->qf b (fg sh) (bS sh) (bQ sh) k o st=some (t,false,st2)->st2.e=0->
  o=false∧t.length=k∧(∀l∈t,uU sh l)∧BW b st st2 (jF sh t)
 |0,o,st,st2,t,hn,h,he=>by
  rw[qf]at h;injection h with h
  injection h with e1 h
  injection h with e2 e3
  subst e1 e2 e3;exact⟨rfl,rfl,s_,BD.2 ⟨rfl,hn he⟩⟩
 |k+1,o,st,st2,t,hn,h,he=>by
  obtain⟨l1,l2,l3,l4⟩:=Uj sh;obtain⟨_,_,_,x4⟩:=aqf sh;rw[qf]at h
  cases hq:jD b (bS sh) (bQ sh) (T6 b (fg sh) st) (sV b st (fg sh)) o (Ei b (fg sh) st) with
  |none=>rw[hq]at h;exact absurd h (by simp)
  |some q =>
   obtain⟨l,o2,s3⟩:=q;rw[hq]at h;simp only at h
   cases hw:qf b (fg sh) (bS sh) (bQ sh) k o2 s3 with
   |none=>rw[hw]at h;exact absurd h (by simp)
   |some w =>
    obtain⟨t2,o3,s4⟩:=w;rw[hw]at h;simp only[ae,aP]at h;obtain⟨e1,e2,e3⟩:=h;subst e1 e2 e3;have hwn:nx b (Ei b (fg sh) st):=by
     unfold Ei;split
     .exact UQ (st:=sN b st (fg sh)) (s:=1) (by omega)
     .exact UQ l4
    have hs3:nx b s3:=by
     have:∀{k:Nat}{o o2:Bool}{st st2:RS}{l:AA_},nx b st->jD b (bS sh) (bQ sh) (T6 b (fg sh) st) k o st=some (l,o2,st2)->True:=λ_ _=>trivial
     have g:∀{fine:Bool}{k:Nat}{o o2:Bool}{st st2:RS}{l:AA_},nx b st->jD b (bS sh) (bQ sh) fine k o st=some (l,o2,st2)->nx b st2:=by
      intro fine k
      induction k with
      |zero =>
       intro o o2 st st2 l hn h;rw[jD]at h;injection h with h
       injection h with e1 h
       injection h with e2 e3
       subst e3;exact hn
      |succ k ih =>
       intro o o2 st st2 l hn h;rw[jD]at h;split at h
       .exact absurd h (by simp)
       .split at h
        .exact absurd h (by simp)
        .rename_i q hq;obtain⟨a,b2,c⟩:=q;simp only[ae,aP]at h;obtain⟨e1,e2,e3⟩:=h;subst e3;exact ih arK hq
     exact g hwn hq
    obtain⟨i1,i2,i3,i4⟩:=av9 hs3 hw he;subst i1;obtain⟨j1,j2,j3,j4⟩:=awT hwn hq (EA i4).2.2.1;have hwe:=(EA j4).2.2.1;unfold Ei at hwe j4;refine⟨j1,by rw[aq,i2],λx hx=>?_,?_⟩
    .rcases ay.1 hx with rfl|hx
     .refine⟨?_,λf0 hf0 f hf=>?_⟩
      .have:=w6 (b:=b) (st:=st) (s:=(fg sh:Int));rw[au]at this;omega
      .have a1:=j3 f hf;have a2:=j3 f0 (List.mem_of_mem_head? hf0);exact⟨a1.1,by rw[a1.2,a2.2]⟩
     .exact i3 x hx
    .rw[jF,aE];refine jc.2 ⟨s3,?_,i4⟩
     cases l with
     |nil =>
      have h0:sV b st (fg sh)=0:=by rw[<-j2];rfl
      rw[aa o_]at hwe j4;have:=(Ml l4 hwe).2;rw[h0]at this;rw[aiJ,(BD.1 j4).1];exact this
     |cons f r =>
      have hp:0<sV b st (fg sh):=by rw[<-j2];simp
      rw[ac hp]at hwe j4;have r1:=(Ml l4 (XD (s:=1) hwe)).2;obtain⟨b1,r2⟩:=Ml (st:=sN b st (fg sh)) (s:=1) o_ hwe;rw[adW,j2];refine jc.2 ⟨_,r1,jc.2 ⟨_,?_,j4⟩⟩;have hfi:ee f.fine=sV b (sN b st (fg sh)) (1:Nat):=by
       rw[(j3 f (.head _)).2,T6,decide_eq_true hp,nM];exact aqG b1
      rw[hfi];exact r2
def awL {b:C_}{sh:Bool}:∀{t:N_}{st st2:RS},(∀l∈t,uU sh l)->BW b st st2 (jF sh t)->qf b (fg sh) (bS sh) (bQ sh) t.length false st=some (t,false,st2)
 |[],st,st2,hl,h=>by rw[(BD.1 h).1];rfl
 |l::r,st,st2,hl,h=>by
  obtain⟨l1,l2,l3,l4⟩:=Uj sh;obtain⟨_,_,_,x4⟩:=aqf sh;obtain⟨h1,h2⟩:=hl l (.head _);rw[jF,aE]at h;obtain⟨m,k1,k2⟩:=jc.1 h;have ih:=awL (λx hx=>hl x (.tail _ hx)) k2;rw[aq,qf]
  cases l with
  |nil =>
   rw[aiJ]at k1;obtain⟨v1,n1⟩:=S9 l4 (bU _) k1;have hS:Ei b (fg sh) st=m:=by rw[Ei,aa o_,n1]
   rw[v1,hS];simp only[jD];rw[ih]
  |cons f q =>
   rw[adW]at k1;obtain⟨m1,j1,k1⟩:=jc.1 k1;obtain⟨m2,j2,j3⟩:=jc.1 k1;obtain⟨v1,n1⟩:=S9 l4 o_ j1;have b1:ee f.fine<2 ^ 1:=by cases f.fine<;>decide
   obtain⟨v2,n2⟩:=S9 (s:=1) o_ b1 j2;have hp:0<sV b st (fg sh):=by rw[v1];simp
   have hS:Ei b (fg sh) st=m2:=by
    rw[Ei,ac hp,n1];exact n2
   have hF:T6 b (fg sh) st=f.fine:=by
    rw[T6,decide_eq_true hp,nM,n1];have:sV b m1 1=ee f.fine:=v2;rw[this]
    cases f.fine<;>rfl
   rw[hS,hF,v1,awV (λx hx=>h2 f rfl x hx) j3];simp only;rw[ih]
def ank {b:C_}{i:aN}{a n:Nat}{t:N_}(ha:a<=b.length):Pc b i (a:Int)=.ok t n↔UI i t∧At b a n (jF i.short t):=by
 obtain⟨x0,x1,x2,_⟩:=aqf i.short;rw[Pc,YF,x0,x1,x2];constructor
 .intro h
  cases hq:qf b (fg i.short) (bS i.short) (bQ i.short) i.many false ⟨a,0⟩ with
  |none=>rw[hq]at h;exact absurd h (by simp)
  |some q =>
   obtain⟨t2,o,st⟩:=q;rw[hq]at h;simp only at h;by_cases he:st.e≠0
   .rw[ac he]at h;exact absurd h (by simp)
   rw[aa he]at h
   cases o with
   |true=>simp at h
   |false =>
    simp only[ao,bl]at h;injection h with e1 e2
    subst e1;obtain⟨_,g2,g3,a2,n2,e3,e4,g5⟩:=av9 (λ_=>⟨a,rfl,ha⟩) hq (by simpa using he);injection e3 with e3 _
    have:a=a2:=o_;subst this;rw[e4]at e2;simp only[au]at e2;subst e2;exact⟨⟨g2,g3⟩,g5⟩
 .rintro ⟨⟨h1,h2⟩,h3⟩
  have:=awL h2 (show BW b ⟨a,0⟩ ⟨n,0⟩ _ from ⟨a,n,rfl,rfl,h3⟩);rw[h1]at this;rw[this];simp
def adb {lf:Int}:∀{l:P_},fitsS lf l->∀k∈aM l,0<=k
 |[],_,k,h=>by simp[aM]at h
 |s::r,hf,k,h=>by
  obtain⟨⟨_,h1⟩,h2⟩:=hf;have eb:aM (s::r)=List.replicate s.len.toNat s.book++aM r:=by rw[aM,aE];rfl
  rw[eb,ba]at h;rcases h with h|h
  .rw[da h];exact h1.1
  .exact adb h2 k h
def aul {i:aN}{t:N_}(h:t.length=i.many)(ha:pb t=false):t=List.replicate i.many []:=by
 rw[pb,nt]at ha;rw[List.eq_replicate_iff];refine⟨h,λl hl=>?_⟩;have:=ha l hl;simp only[decide_eq_true_eq]at this;exact ax (by omega)
def UO {b:C_}{a n v:Nat}(hv:v<=1)(h:At b a n [v]):bf b (a:Int) 1=.ok v n:=(cx (s:=1) o_).2 ⟨o_,by rw[Tr hv];exact h⟩
def aoP {b:C_}{a n v:Nat}(h:bf b (a:Int) 1=.ok v n):v<=1∧At b a n [v]:=by
 obtain⟨h1,h2⟩:=(cx (s:=1) o_).1 h;rw[Tr o_]at h2;exact⟨o_,h2⟩
def arj {b:C_}{r:Nat}{c:cJ}{q:Bool}(hr:r<=11)(hc:c.Fit)(h:nB r c){a n:Nat}(ha:At b a n (DK r c q)) :
  Ds b (a:Int) r q c.info=.ok (⟨c.gain.toNat,c.info,c.sects,c.steps,c.tns,0,if pb c.tns then 1 else 0⟩,c.lines) n:=by
 have hm11:=gC hr h.info;have hg:=h.gain;obtain⟨n1,k1,ha1⟩:=aZ.1 ha;obtain⟨n2,k2,ha2⟩:=aZ.1 ha1;obtain⟨n3,k3,ha3⟩:=aZ.1 ha2;obtain⟨n4,k4,ha4⟩:=aZ.1 ha3;obtain⟨n5,k5,k6⟩:=aZ.1 ha4;have e0:bf b (a:Int) 0=.ok 0 a:=(cx (s:=0) o_).2 ⟨o_,eg.2 ⟨rfl,(dB ha).1⟩⟩;have e1:bf b (a:Int) 8=.ok c.gain.toNat n1:=(cx (s:=8) o_).2 ⟨o_,k1⟩;have e2:(if q then R.ok c.info n1 else mY b n1 r)=.ok c.info n2:=by
  cases q with
  |true=>rw[ac rfl]at k2⊢;rw[(eg.1 k2).1]
  |false=>rw[aa s_]at k2⊢;exact(Qi hr).2 ⟨h.info,k2⟩
 have e3:vW b c.info (n2:Int)=.ok c.sects n3:=(aaQ hm11 (dB k3).1).2 ⟨h.sects,k3⟩;have e4:zZ b c.sects (n3:Int) (c.gain.toNat:Int)=.ok c.steps n4:=by
  rw[show((c.gain.toNat:Nat):Int)=c.gain by omega];exact(aeL (dB k4).1 (λl hl=>adb (h.sects.2 l hl)) hg.1).2 ⟨h.steps,k4⟩
 have e6:=aqe hc h hr (dB k6).1 k6;have hm:¬(q=true∧¬c.info.may r):=λhh=>hh.2 h.info
 unfold Ds C8;rw[e0,az,aa hm,e1,az,e2,az,e3,az,e4,az]
 cases hF:pb c.tns with
 |true =>
  rw[hF]at k5;simp only[bi]at k5;obtain⟨m1,j1,k5⟩:=aZ (X:=[0]) |>.1 k5;obtain⟨m2,j2,k5⟩:=aZ (X:=[1]) |>.1 k5;obtain⟨m3,j3,j4⟩:=aZ.1 k5;have e5:=(ank (dB j3).1).2 ⟨h.tns,j3⟩;rw[UO o_ j1,az,UO o_ j2,az,ac rfl,e5,az,UO o_ j4,az,az,e6,az,ac ⟨rfl,λ_=>hF⟩];rfl
 |false =>
  rw[hF]at k5;simp only[ao,bl]at k5;obtain⟨m1,j1,k5⟩:=aZ (X:=[0]) |>.1 k5;obtain⟨m2,j2,j4⟩:=aZ (X:=[0]) |>.1 k5;have ht:=aul h.tns.1 hF;rw[UO o_ j1,az,UO o_ j2,az,aa o_,az,UO o_ j4,az,az,e6,az,ac ⟨rfl,λhh=>absurd hh s_⟩,<-ht];rfl
abbrev apart (p q:Nat×Nat):Prop:=p.2+bI p.1<=q.2∨q.2+bI q.1<=p.2
structure OsW (os:C_)(W:Nat):Prop where
 up:∀j,j+1<os.length->nth os j<nth os (j+1)∧(nth os (j+1)-nth os j) % 4=0
 win:∀w w',w<W->w'<W->w≠w'->∀j,j+1<os.length->nth os (j+1)<=32
def av0 {os:C_}{W:Nat}(h:OsW os W):∀{k b:Nat},b+1+k<os.length->nth os (b+1)<=nth os (b+1+k)
 |0,b,_=>al _
 |k+1,b,hk=>by
  have:=av0 h (k:=k) (b:=b) o_;have h2:=(h.up (b+1+k) o_).1;rw[show b+1+(k+1)=b+1+k+1 by omega];omega
def atg (os:C_)(w b d y:Nat):Prop:=(w*32+nth os b<=y∧y+d<=w*32+nth os (b+1))∧b+1<os.length
def Gp {os:C_}{W:Nat}(h:OsW os W){d b k w y:Nat}(hd:d=4∨d=2)(hb:b+1<os.length)(hy:y∈rI os d b k w):∃w',w<=w'∧w'<w+k∧atg os w' b d y:=by
 obtain⟨w',x,h1,h2,h3,rfl⟩:=adC hy;have hu:=h.up b hb;have:=OJ (d:=d) o_ (by rcases hd with e|e<;>rw[e]<;>omega) h3;exact⟨w',h1,h2,⟨o_,o_⟩,hb⟩
def Lc {os:C_}{W:Nat}(h:OsW os W){w b d y w' b' d' y':Nat}(hw:w<W)(hw':w'<W)(h1:atg os w b d y)(h2:atg os w' b' d' y')(hne:w≠w'∨b<b'):y+d<=y'∨y'+d'<=y:=by
 obtain⟨⟨a1,a2⟩,a3⟩:=h1;obtain⟨⟨c1,c2⟩,c3⟩:=h2;by_cases e:w=w'
 .have hb:b<b':=by rcases hne with h|h;exact absurd e h;exact h
  have:=av0 h (k:=b'-(b+1)) (b:=b) o_;rw[show b+1+(b'-(b+1))=b' by omega]at this;left;subst e;omega
 .have k1:=h.win w w' hw hw' e b a3;have k2:=h.win w w' hw hw' e b' c3;omega
def aqx {d hi:Nat}:∀{f lo:Nat},(∀y∈tN d hi f lo,lo<=y)∧(tN d hi f lo).Pairwise λx y=>x+d<=y
 |0,lo=>⟨by simp[tN],by simp[tN]⟩
 |f+1,lo=>by
  obtain⟨h1,h2⟩:=aqx (d:=d) (hi:=hi) (f:=f) (lo:=lo+d);rw[tN];by_cases h:lo<hi
  .rw[ac h];refine⟨λy hy=>?_,bV.2 ⟨λy hy=>h1 y hy,h2⟩⟩;rcases ay.1 hy with rfl|hy
   .exact al _
   .have:=h1 y hy;omega
  .rw[aa h];exact⟨s_,s_⟩
abbrev apD (d:Nat)(x y:Nat):Prop:=x+d<=y∨y+d<=x
def as8 {os:C_}{W:Nat}(h:OsW os W){d b:Nat}(hd:d=4∨d=2)(hb:b+1<os.length):∀{k w:Nat},w+k<=W->(rI os d b k w).Pairwise (apD d)
 |0,w,_=>by simp[rI]
 |k+1,w,hk=>by
  rw[rI,dw];refine⟨?_,as8 h hd hb o_,λx hx y hy=>?_⟩
  .rw[List.pairwise_map];exact(aqx.2).imp λ{a c} hac=>.inl (by omega)
  .obtain⟨w2,e1,e2,e3⟩:=Gp h hd hb hy;have hx':x∈rI os d b 1 w:=by
    rw[rI,ba];exact .inl hx
   obtain⟨w1,e4,e5,e6⟩:=Gp h hd hb hx';exact Lc h o_ o_ e6 e3 (.inl o_)
def arZ {os:C_}{W:Nat}(h:OsW os W){d n first:Nat}(hd:d=4∨d=2)(hw:first+n<=W):∀{k b:Nat},b+k<os.length->(Ah os d n first k b).Pairwise (apD d)
 |0,b,_=>by simp[Ah]
 |k+1,b,hk=>by
  rw[Ah,dw];refine⟨as8 h hd o_ hw,arZ h hd hw o_,λx hx y hy=>?_⟩;obtain⟨w1,e4,e5,e6⟩:=Gp h hd o_ hx;obtain⟨b',c1,c2,c3⟩:=UT hy;obtain⟨w2,e1,e2,e3⟩:=Gp h hd o_ c3;exact Lc h o_ o_ e6 e3 (.inr o_)
def E9 (id:Nat):bI id=4∨bI id=2:=by unfold bI;split<;>simp
def ar9 {os:C_}{W:Nat}(h:OsW os W){n first:Nat}(hw:first+n<=W):∀{r:P_}{b:Nat}{lf:Int},fitsS lf r->(b:Int)+lf<os.length->(Cb os n first r b).Pairwise apart
 |[],b,lf,_,_=>by simp[Cb]
 |s::r,b,lf,hf,hb=>by
  obtain⟨⟨⟨l1,l2⟩,b1,b2⟩,hf2⟩:=hf;rw[Cb,dw];refine⟨?_,ar9 h hw hf2 o_,λx hx y hy=>?_⟩
  .by_cases h0:s.book=0∨s.book=13
   .rw[ac h0];simp
   .rw[aa h0,List.pairwise_map];exact arZ h (E9 _) hw (by omega)
  .by_cases h0:s.book=0∨s.book=13
   .rw[ac h0]at hx;simp at hx
   .rw[aa h0]at hx;obtain⟨x',hx',rfl⟩:=dy.1 hx;obtain⟨b',c1,c2,c3⟩:=UT hx';obtain⟨w1,e4,e5,e6⟩:=Gp h (E9 _) o_ c3;obtain⟨j,f1,f2,f3⟩:=U4 hf2 hy;have hj:(j:Int)<lf-s.len:=by
     have h1:=(aJ.1 f1).1;have:∀{l:P_}{m:Int},fitsS m l->((aM l).length:Int)=m:=by
      intro l
      induction l with
      |nil=>intro m hm;rw[show m=0 from hm];simp[aM]
      |cons q l ih =>
       intro m hm;have eb:aM (q::l)=List.replicate q.len.toNat q.book++aM l:=by rw[aM,aE];rfl
       have:=ih hm.2;have hq:=hm.1.1.1;rw[eb,aj,bm];omega
     have:=this hf2;omega
    obtain⟨w2,e1,e2,e3⟩:=Gp h (E9 _) o_ f3;exact Lc h o_ o_ e6 e3 (.inr o_)
def GQ:∀{l:P_}{m:Int},fitsS m l->((aM l).length:Int)=m
 |[],m,h=>by rw[show m=0 from h];simp[aM]
 |q::l,m,hm=>by
  have eb:aM (q::l)=List.replicate q.len.toNat q.book++aM l:=by rw[aM,aE];rfl
  have:=GQ hm.2;have hq:=hm.1.1.1;rw[eb,aj,bm];omega
def aqT {os:C_}{W:Nat}(h:OsW os W){m:Int}(hm:m<os.length):∀{r:H_}{q:G_}{first:Nat},fJ m r->(∀n∈q,1<=n)->(first:Int)+q.sum<=W->(qw os r q first).Pairwise apart
 |[],q,first,_,_,_=>by simp[qw]
 |l::r,[],first,_,_,_=>by simp[qw]
 |l::r,n::q,first,hf,hq,hW=>by
  have hn:=hq n (.head _);have hq2:∀n∈q,1<=n:=λx hx=>hq x (.tail _ hx)
  have hqs:0<=q.sum:=by have:=nu hq2;omega
  have hl:=hf l (.head _);rw[kZ]at hW;rw[qw,dw];refine⟨ar9 h o_ hl o_,aqT h hm (λx hx=>hf x (.tail _ hx)) hq2 o_,λx hx y hy=>?_⟩;obtain⟨j,f1,f2,f3⟩:=U4 hl hx;have hj:=(aJ.1 f1).1;have hjl:=GQ hl;obtain⟨w1,e4,e5,e6⟩:=Gp h (E9 _) o_ f3;obtain⟨w,g,j2,l2,g1,g2,g3,g4,g5,g6,z,g7,g8⟩:=Ng (λx hx=>hf x (.tail _ hx)) hq2 hy;have hj2:=(aJ.1 g5).1;have hjl2:=GQ (hf l2 (.tail _ (dJ g1)));have hy2:y.2∈rI os (bI y.1) j2 1 w:=by rw[g8];exact ait (al _) o_ g7
  obtain⟨w2,e1,e2,e3⟩:=Gp h (E9 _) o_ hy2;exact Lc h o_ o_ e6 e3 (.inl o_)
def asv {r:Nat}(hr:r<=11)(i:aN):OsW (offs r i.short) i.many:=by
 obtain⟨p1,p2,p3⟩:=oQ (r,i.short) (fI o_);simp only at p1 p2 p3;obtain⟨w1,w2⟩:=Is i;refine⟨λj hj=>?_,λw w' h1 h2 h3 j hj=>?_⟩
 .have:=bH.1 p1 j (d9.2 o_);simpa using this
 .have:=bH.1 p3 _ (jy hj);simp only[decide_eq_true_eq]at this;omega
def auf {r:Nat}(hr:r<=11){j:aN}{S:H_}(hm:j.may r)(hS:ke j S):(OE r j S).Pairwise apart:=by
 obtain⟨g1,g2⟩:=dV (gC hr hm);have hmx:=hm.2.2.2.1;have hmy:sm r (decide (j.seq=2))=(offs r j.short).length-1:=rfl;obtain⟨o1,o2,o3,o4⟩:=Cl (r,j.short) (fI o_);simp only at o4;exact aqT (asv hr j) (m:=j.max) o_ hS.2 (λn hn=>(g1 n hn).1) (by omega)
def aah {b:C_}:∀{pl:R_}{n m:Nat}{Z Z2:G_},n<=b.length->Z.length=256->(∀p∈pl,(1<=p.1∧p.1<=11)∧p.2+bI p.1<=256)->pl.Pairwise apart->kF b pl n Z=.ok Z2 m->
  Z2.length=256∧At b n m (pl.flatMap λp=>Ar p.1 (cut Z2 p))∧(∀p∈pl,Pn p.1 (cut Z2 p))∧∀i,(∀p∈pl,¬(p.2<=i∧i<p.2+bI p.1))->Z2[i]?=Z[i]?
 |[],n,m,Z,Z2,hn,hz,hp,hw,h=>by
  rw[kF]at h;injection h with e1 e2
  subst e1 e2;exact⟨hz,eg.2 ⟨rfl,hn⟩,s_,λi _=>rfl⟩
 |p::r,n,m,Z,Z2,hn,hz,hp,hw,h=>by
  rw[kF]at h;obtain⟨l,k,h1,h2⟩:=aS.1 h;obtain⟨p1,p2⟩:=hp p (.head _);obtain⟨w1,w2⟩:=bV.1 hw;obtain⟨g1,g2⟩:=(ahR p1).1 h1;have hll:=g1.1;obtain⟨i1,i2,i3,i4⟩:=aah (dB g2).2.1 (by rw[XY o_];exact hz) (λq hq=>hp q (.tail _ hq)) w2 h2;have hcut:cut Z2 p=l:=by
   apply dS;intro i;by_cases hi:i<bI p.1
   .rw[UU hi,i4 (p.2+i) (λq hq hh=>by
     have:=w1 q hq;have:=hp q (.tail _ hq);omega),U5 o_,ac o_]
    congr 1
    omega
   .have:=ang (Z:=Z2) (p:=p) o_;rw[ik o_,ik o_]
  refine⟨i1,?_,λq hq=>?_,λi hi=>?_⟩
  .rw[aE,hcut];exact aZ.2 ⟨k,g2,i2⟩
  .rcases ay.1 hq with rfl|hq
   .rw[hcut];exact g1
   .exact i3 q hq
  .have:=hi p (.head _);rw[i4 i (λq hq=>hi q (.tail _ hq)),U5 o_,aa o_]
end Go.Vm
end
