import Derived.Test.YtflkikefecmmmaaGreatP4
set_option linter.unusedVariables false
set_option linter.unusedSimpArgs false
set_option linter.defProp false
set_option linter.unusedSectionVars false
noncomputable section
namespace Go.Vm
set_option maxRecDepth 100000
set_option maxHeartbeats 4000000
abbrev FQ (c:cQ)(os:C_)(q:Obj)(C:D_)(v:AV)(T:am):am :=
 (0,.cells c.av)::(1,.cells C)::(2,.cells [.ptr 1 0])::(3,.cells [v])::(4,.cells c.info.cells)::(5,.cells [.d (.lst (bO c.sects))])::(6,.cells [.own false 1 (cY os)])::(7,q)::T
abbrev aBF (x0:AV):aZ:=[(0,x0),(6,.ptr 0 0),(11,.ptr 2 0),(12,.ptr 3 0),(86,.fn jh [] [.ptr 5 0,.ptr 4 0,.ptr 6 0])]
abbrev Uo (x0:AV):Obj:=.loop (aBF x0) [87] w7 xG false none
def wH (c:cQ)(p:Nat×Nat):C_:=zW p.1 ((c.lines.drop p.2).take (bI p.1))
def adr {id:Nat}(hid:1<=id∧id<=11){vs:G_}(hv:OW id vs):1<=(zW id vs).length∧(zW id vs).length<=200:=by
 have hok:jY id:=o_;obtain⟨m1,m2,m3,m4⟩:=C0 id (Ub hid);obtain⟨f1,f2⟩:=OM hid hv;have hd4:bI id<=4:=by unfold bI;split<;>omega
 have hvl:=hv.1;have hv8:∀v∈vs,v.natAbs<=8191:=λv h=>aM (hv.2 v h) m4
 have hmany:br id=cL id ^ eW id:=rfl;unfold zW;by_cases hs:lc id=true
 .have hin:=f1 hs;have hlt:=H9 (n:=0) (j:=0) hin.2 s_;rw[bn,hin.1,<-hmany]at hlt;have:=Ba hok hlt;rw[ac hs];omega
 .have hin:=f2 (by simpa using hs);have hlt:=H9 (n:=0) (j:=0) hin.2 s_;rw[bn,hin.1,<-hmany]at hlt;have:=Ba hok hlt;have hsl:=agF (vs:=vs);have hel:=WF (id:=id) hv8;rw[aa hs];simp only[aj];omega
def aAk {m:Nat}{xs ys:E_}(hl:xs.length+ys.length<=1000000000):∃v,(∀h,eM m h (aE m xs) ys=some (v,h))∧firm v=aE m (xs++ys):=by
 obtain⟨v,h1,h2⟩:=aqC (m:=m) (h:=[]) hl;refine⟨v,λh=>?_,h2⟩
 cases xs with
 |nil =>
  cases ys with
  |nil=>injection h1 with h1;injection h1 with h1;subst h1;rfl
  |cons y r =>
   simp only[qU,al3,ab5,aY]at h1⊢;split at h1
   .rename_i h9;rw[ac h9];injection h1 with h1;injection h1 with h1;subst h1;rfl
   .exact absurd h1 (by simp)
 |cons x r =>
  simp only[aef,T8,ab5,amo,amn,aY]at h1⊢;split at h1
  .rename_i h9;rw[ac h9];split at h1
   .rename_i h8;rw[ac h8];split at h1
    .rename_i h7;rw[ac h7];injection h1 with h1;injection h1 with h1;subst h1;rfl
    .exact absurd h1 (by simp)
   .exact absurd h1 (by simp)
  .exact absurd h1 (by simp)
def aFX (c:cQ)(hl:c.lines.length=256)(os:C_)(x0:AV)(hx0:share x0=x0)(p:Nat×Nat)(hp:(1<=p.1∧p.1<=11)∧p.2+bI p.1<=256∧OW p.1 ((c.lines.drop p.2).take (bI p.1)))(C:D_)(hC:H3 C)(acc:C_)(hacc:acc.length<=900000000)(K:Nat)(o:Obj)(hK:8<=K)(N:Nat)(hN:K<N) :
  cA (Dn prog) (.yield 7) [.agg [A_ (p.1:Int),A_ (p.2:Int),A_ ((p.2+bI p.1:Nat):Int)]] ⟨FQ c os (Uo x0) C (aE 1 (ai acc)) [(K,o)],N⟩=some (B_ true,⟨FQ c os (Uo x0) (aH C (4*p.1) (rQ p.1)) (aE 1 (ai (acc++wH c p))) [(K,o)],N+1+1⟩):=by
 obtain⟨h1,h2,h3⟩:=hp;have hH:=auD [] s_ .nl (.inr ⟨rfl,rfl⟩) p.1 h1 _ h3;have hhl:=adr h1 h3;rw[aK]at hH;have hsl:=λh=>aho (h:=h) (l:=c.lines) (a:=p.2) (b:=p.2+bI p.1) o_ o_ (p.2:Int) ((p.2+bI p.1:Nat):Int) rfl rfl
 simp only[gx]at hsl;have hBk:Bk (λC T=>FQ c os (.loop (aBF x0) [87] w7 xG true none) C (aE 1 (ai acc)) ([(K,o),(N,.cells [A_ (p.1:Int),A_ (p.2:Int),A_ ((p.2+bI p.1:Nat):Int)])]++T)) 1 (N+1):=by
  have hK0:K≠0∧K≠1∧K≠2:=o_;constructor
  .intro C T;simp
  .intro C T C';simp
  .intro C o;simp(disch:=omega)[↓aa]
  .intro C o o';simp(disch:=omega)[↓aa]
  .intro C o;simp(disch:=omega)[↓aa]
  .intro C o;simp(disch:=omega)[↓aa]
 have hB:=S3 hBk C hC p.1 h1;generalize aH C (4*p.1) (rQ p.1)=C2 at *;have hbl:(ai (wH c p)).length=(wH c p).length:=bB;have hba:(ai acc).length=acc.length:=bB;obtain⟨wv,hw1,hw2⟩:=aAk (m:=1) (xs:=ai acc) (ys:=ai (wH c p)) (by unfold wH;unfold wH at hbl;omega);have hne:ai (acc++wH c p)≠[]:=by
  intro h;have:=aP List.length h;rw[bB,aj,bt]at this;unfold wH at this;omega
 rw[ahh,mi hne]at hw2;rw[mi hne];have hLB:zW p.1 ((c.lines.drop p.2).take (bI p.1))=wH c p:=rfl;rw[hLB]at hH;simp only[oA,bh]at hB hH;simp only[FQ,cQ.av,aO.cells,aS,aK,Ss,S8]at hB⊢;generalize wH c p=LB at *;generalize (c.lines.drop p.2).take (bI p.1)=LS at *;generalize ((p.2+bI p.1:Nat):Int)=TO at *;simp(config := { maxSteps:=9^7 }) (disch:=omega)[Ss,S8,↓ac,↓aa,hx0,hsl,hH,hB,hw1,hw2]
def aDs (c:cQ)(hl:c.lines.length=256)(os:C_)(x0:AV)(hx0:share x0=x0)(TOT:C_)(hT:TOT.length<=900000000):Ro (fun(s:D_×C_) T=>FQ c os (Uo x0) s.1 (aE 1 (ai s.2)) T) noH 8 7 (λp s=>.inl (aH s.1 (4*p.1) (rQ p.1),s.2++wH c p))
  (λr s=>H3 s.1∧s.2++r.flatMap (wH c)=TOT∧∀p∈r,(1<=p.1∧p.1<=11)∧p.2+bI p.1<=256∧OW p.1 ((c.lines.drop p.2).take (bI p.1))):=by
 intro p r s K o N hi hK hN;obtain⟨i1,i2,i3⟩:=hi;have hp:=i3 p (.head _);have hal:s.2.length<=900000000:=by rw[<-i2,aj]at hT;omega
 refine .inl ⟨_,N+1+1,o_,rfl,⟨adQ i1 hp.1,?_,λq hq=>i3 q (.tail _ hq)⟩,aFX c hl os x0 hx0 p hp s.1 i1 s.2 hal K o hK N hN⟩;rw[aC,<-ax]at i2;exact i2
def aGx {c:cQ}{os:C_}{x0:AV}:Tl (fun(s:D_×C_) T=>FQ c os (Uo x0) s.1 (aE 1 (ai s.2)) T) 8:=by
 constructor
 .intro s K o h;simp(disch:=omega)[↓aa]
 .intro s K o o' h;simp(disch:=omega)[↓aa]
 .intro s K o h;simp(disch:=omega)[↓aa]
 .intro s K o h;simp(disch:=omega)[↓aa]
def nR (r:Nat)(c:cQ):C_:=(qq (offs r c.info.short) c.sects c.info.groups 0).flatMap (wH c)
abbrev vw:D_:=[A_ 0,A_ 0,.nl,.nl,A_ 0,A_ 0,.nl,.nl,A_ 0,A_ 0,.nl,.nl,A_ 0,A_ 0,.nl,.nl,A_ 0,A_ 0,.nl,.nl,A_ 0,A_ 0,.nl,.nl,A_ 0,A_ 0,.nl,.nl,A_ 0,A_ 0,.nl,.nl,A_ 0,A_ 0,.nl,.nl,A_ 0,A_ 0,.nl,.nl,A_ 0,A_ 0,.nl,.nl,A_ 0,A_ 0,.nl,.nl]
def ahC:H3 vw:=by
 refine⟨rfl,λid hid=>.inl ?_⟩;obtain rfl|rfl|rfl|rfl|rfl|rfl|rfl|rfl|rfl|rfl|rfl|rfl:id=0∨id=1∨id=2∨id=3∨id=4∨id=5∨id=6∨id=7∨id=8∨id=9∨id=10∨id=11:=o_
 all_goals rfl
def ati (r:Nat)(hr:r<=11)(c:cQ)(hc:c.Fit)(h:nG r c)(x0:AV)(hx0:share x0=x0)(hlen:(nR r c).length<=900000000):∃C2 M,(Dn prog).call jh [.yield 7,.ptr 5 0,.ptr 4 0,.ptr 6 0] ⟨FQ c (offs r c.info.short) (Uo x0) vw .nl [],8⟩=some (.tup [],⟨FQ c (offs r c.info.short) (Uo x0) C2 (aE 1 (ai (nR r c))) [],M⟩):=by
 obtain⟨o1,o2,o3,o4⟩:=Bl (r,c.info.short) (fP o_);obtain⟨p1,p2,p3⟩:=oF (r,c.info.short) (fP o_);simp only at o1 o2 o3 o4 p1 p2 p3;have hmx:=h.info.2.2.2.1;have hmy:r8 r (decide (c.info.seq=2))=(offs r c.info.short).length-1:=rfl;have hhi:∀x∈offs r c.info.short,x<=256:=λx hx=>by
  have:=bJ.1 p3 x hx;simp only[decide_eq_true_eq]at this;have:(cond c.info.short 32 256:Nat)<=256:=by cases c.info.short<;>decide
  omega
 have hpl:=agC (P:=⟨7,4,6,c.sects,offs r c.info.short⟩) c.info hc.info (gR hr h.info) 5 (aGx (c:=c) (os:=offs r c.info.short) (x0:=x0)) aom (aDs c h.lines.1 (offs r c.info.short) x0 hx0 (nR r c) hlen) (λs=>by simp) (λs T=>by simp) (λs T=>by simp) t_ hhi t_ h.sects 8 (ak _) (vw,[]) ⟨ahC,by simp only[nR,aK],λp hp=>Sv hc h hr hp⟩;rcases hpl with ⟨s2,M,hM,e1,⟨e2,e3,e4⟩,e5⟩|⟨z,_⟩
 .rw[fb,bh]at e3;rw[e3]at e5;exact⟨s2.1,M,e5⟩
 .exact nomatch z
def J3 {α:Type}{f:α->C_}{k:Nat}:∀{l:List α},(∀x∈l,(f x).length<=k)->(l.flatMap f).length<=k*l.length
 |[],_=>by simp
 |x::r,h=>by
  have a:=h x (.head _);have b:=J3 (l:=r) λy hy=>h y (.tail _ hy)
  rw[aC,aj,aq,Nat.mul_add];omega
def amH {d hi:Nat}:∀{f x:Nat},(sX d hi f x).length<=f
 |0,_=>by simp[sX]
 |f+1,x=>by
  rw[sX];split
  .have:=amH (d:=d) (hi:=hi) (f:=f) (x:=x+d);simp only[aq];omega
  .simp
def am5 {os:C_}{d b:Nat}:∀{k w:Nat},(rl os d b k w).length<=300*k
 |0,_=>by simp[rl]
 |k+1,w=>by
  have a:=amH (d:=d) (hi:=nth os (b+1)) (f:=300) (x:=nth os b);have b:=am5 (os:=os) (d:=d) (b:=b) (k:=k) (w:=w+1);rw[rl,aj,il];omega
def amZ {os:C_}{d n first:Nat}(hn:n<=8):∀{k b:Nat},(zq os d n first k b).length<=2400*k
 |0,_=>by simp[zq]
 |k+1,b=>by
  have a:=am5 (os:=os) (d:=d) (b:=b) (k:=n) (w:=first);have c:=amZ (os:=os) (d:=d) (first:=first) hn (k:=k) (b:=b+1);rw[zq,aj];omega
def amD {os:C_}{n first:Nat}(hn:n<=8):∀{r:Q_}{b:Nat}{lf:Int},fitsS lf r->0<=lf->(Bf os n first r b).length<=2400*lf.toNat
 |[],b,lf,h,h0=>by simp[Bf]
 |s::r,b,lf,h,h0=>by
  obtain⟨⟨⟨l1,l2⟩,_⟩,h2⟩:=h;have a:=amZ (os:=os) (d:=bI s.book.toNat) (first:=first) hn (k:=s.len.toNat) (b:=b);have c:=amD (os:=os) (first:=first) hn (b:=b+s.len.toNat) h2 o_;rw[Bf,aj];split
  .simp only[bt];omega
  .rw[il];omega
def ame {os:C_}{m:Int}(hm:0<=m∧m<=40):∀{r:H_}{q:G_}{first:Nat},fQ m r->(∀n∈q,n<=8)->(qq os r q first).length<=100000*q.length
 |[],q,first,_,_=>by simp[qq]
 |l::r,[],first,_,_=>by simp[qq]
 |l::r,n::q,first,hf,hn=>by
  have h1:=hn n (.head _);have a:=amD (os:=os) (n:=n.toNat) (first:=first) o_ (b:=0) (hf l (.head _)) hm.1;have c:=ame (os:=os) hm (r:=r) (q:=q) (first:=first+n.toNat) (λx hx=>hf x (.tail _ hx)) (λx hx=>hn x (.tail _ hx));rw[qq,aj,aq];omega
def ZC {r:Nat}{c:cQ}(hc:c.Fit)(h:nG r c)(hr:r<=11):(nR r c).length<=160000000:=by
 have hm11:=gR hr h.info;obtain⟨g1,g2⟩:=d8 hm11;have hmm:c.info.many<=8:=by unfold aO.many;split<;>omega
 have hgl:c.info.groups.length<=8:=by have:=mT (λn hn=>(g1 n hn).1);omega
 have a:=ame (os:=offs r c.info.short) (ka hm11) (first:=0) h.sects.2 λn hn=>(g1 n hn).2
 have b:=J3 (f:=wH c) (k:=200) (l:=qq (offs r c.info.short) c.sects c.info.groups 0) λp hp=>by
  obtain⟨h1,h2,h3⟩:=Sv hc h hr hp;exact(adr h1 h3).2
 unfold nR;omega
def SE:∀{g:H_}{t:K_}{w z:Int}{m:Int},0<=m∧m<=40->fQ m g->na g t w z≠none->(oz g t w z).length<=800*g.length
 |[],[],_,_,_,_,_,_=>by simp[oz]
 |[],_::_,_,_,_,_,_,h=>absurd rfl h
 |_::_,[],_,_,_,_,_,h=>absurd rfl h
 |l::r,t::s,w,z,m,hm,hf,h=>by
  rw[na]at h
  cases hr:ee (aN l) t w z with
  |none=>rw[hr]at h;exact absurd rfl h
  |some fin =>
   rw[hr]at h;have a:=XM (bks:=aN l) (t:=t) (w:=w) (z:=z) (by rw[hr];simp);have b:=tJ (hf l (.head _)) hm.1;have c:=SE (g:=r) (t:=s) (w:=fin.1) (z:=fin.2) hm (λx hx=>hf x (.tail _ hx)) h;rw[oz,hr,aj,aq];simp only;omega
def Ko {i:aO}:(lH i).length<=20:=by
 unfold lH;split<;>simp[acV]
def ael {i:aO}{g:H_}(hm:i.may 11)(hg:kg i g):(PI i g).length<=600000*g.length:=by
 have hsz:1<=i.fsz∧i.fsz<=5:=by unfold aO.fsz;split<;>omega
 have hmx:=ka hm;refine J3 λl hl=>?_
 have hf:=hg.2 l hl;have a:=RF hsz (uc hf o_);have b:l.length<=100:=by
  rcases Jf hf with h|h
  .omega
  .subst h;simp
 omega
def C9 (r:Nat)(c:cQ)(common:Bool):C_ :=
 au c.gain.toNat 8++((if common then [] else lH c.info)++(PI c.info c.sects++(oz c.sects c.steps c.gain (-1)++((if pf c.tns then 0::1::(jJ c.info.short c.tns++[0]) else [0,0,0])++nR r c))))
def ayQ (b:C_)(hb:b.length<=300000000)(x:AV)(hx:x=.d (.lst (ai b))∨x=.nl∧b=[])(rt:Int)(c:cQ)(hc:c.Fit)(common:Bool) :
  (ep rt∧nG rt.toNat c∧bq prog Gj [x,A_ rt,.agg c.av,B_ common]=some (.tup [.own true 1 (ai (b++C9 rt.toNat c common)),A_ 0]))∨
  (∃e:Int,e≠0∧bq prog jL [A_ rt,.agg c.av]=some (A_ e)∧(ep rt->¬nG rt.toNat c)∧bq prog Gj [x,A_ rt,.agg c.av,B_ common]=some (.tup [.nl,A_ e])):=by
 have bad:∀e:Int,e≠0->bq prog jL [A_ rt,.agg c.av]=some (A_ e)->bq prog Gj [x,A_ rt,.agg c.av,B_ common]=some (.tup [.nl,A_ e]):=by
  intro e he hC;simp only[cQ.av]at hC⊢;rw[aG adS aei rfl];rcases hx with rfl|⟨rfl,rfl⟩
  all_goals simp(maxSteps:=9^6)(disch:=omega)[↓ac,↓aa,hC,he]
 rcases Pu rt c hc with ⟨hr,h,hC⟩|⟨hr,h,hC⟩|⟨hr,hC⟩
 .refine .inl ⟨hr,h,?_⟩;obtain⟨R,rfl⟩:=aA hr.1;simp only[ar]at h⊢;have hR:R<=11:=o_;have hm11:=gR hR h.info;have hmx:=ka hm11;obtain⟨g1,g2⟩:=d8 hm11;have hmm:c.info.many<=8:=by unfold aO.many;split<;>omega
  have hgl:c.info.groups.length<=8:=by have:=mT (λn hn=>(g1 n hn).1);omega
  have hgs:c.sects.length<=8:=by have:=h.sects.1;omega
  have k1:=Ko (i:=c.info);have k2:=ael hm11 h.sects;have k3:=SE hmx h.sects.2 h.steps;have k4:(jJ c.info.short c.tns).length<=1000*c.tns.length:=J3 λl hl=>abR (h.tns.2 l hl)
  have k5:=ZC hc h hR;have htl:=h.tns.1;have hx8:(8:Int).toNat=8:=rfl;have p1:=lW b c.gain 8 o_ (by have:=h.gain;omega) x hx;rw[ac (by have:=h.gain;simp only[om,hx8];omega),hx8]at p1;obtain⟨B1,hB1⟩:∃B1,B1=b++au c.gain.toNat 8:=⟨_,rfl⟩
  have l1:B1.length=b.length+8:=by rw[hB1];simp
  rw[<-hB1]at p1;have p2:=ajz B1 o_ _ (.inl rfl) R c.info hc.info;rw[ac hr,ar,ac h.info]at p2;obtain⟨B2,hB2⟩:∃B2,B2=B1++(if common then [] else lH c.info):=⟨_,rfl⟩
  have l2:B2.length<=b.length+28:=by rw[hB2,aj];split<;>(try simp only[bt])<;>omega
  have p3:=atU B2 o_ _ (.inl rfl) c.info hc.info hm11 c.sects hc.sects h.sects;obtain⟨B3,hB3⟩:∃B3,B3=B2++PI c.info c.sects:=⟨_,rfl⟩
  have l3:B3.length<=b.length+5000000:=by rw[hB3,aj];omega
  rw[<-hB3]at p3;have p4:=apR B3 o_ _ (.inl rfl) c.gain c.info.max c.sects c.steps h.gain hgs hmx h.sects.2 hc.sects.2 h.steps λl hl=>by have:=hc.steps.2 l hl;omega
  obtain⟨B4,hB4⟩:∃B4,B4=B3++oz c.sects c.steps c.gain (-1):=⟨_,rfl⟩
  have l4:B4.length<=b.length+6000000:=by rw[hB4,aj];omega
  rw[<-hB4]at p4;have p5:=Rk c.tns o_ λl hl=>by have:=(hc.tns.2 l hl).1;omega
  have p6:=aj0 (B4++[0,1]) g_ _ (.inl rfl) c.info hc.info hm11 c.tns h.tns λl hl f hf=>(hc.fltI l hl f hf).2
  obtain⟨B5,hB5⟩:∃B5,B5=B4++(if pf c.tns then 0::1::(jJ c.info.short c.tns++[0]) else [0,0,0]):=⟨_,rfl⟩
  have l5:B5.length<=b.length+7000000:=by rw[hB5,aj];split<;>simp<;>omega
  have hfin:b++C9 R c common=B5++nR R c:=by rw[hB5,hB4,hB3,hB2,hB1];simp only[C9,ax]
  obtain⟨C2,M,p7⟩:=ati R hR c hc h (.d (.lst (ai B5))) rfl o_;have p8:=Py R hR c.info (.lst (bO c.sects)) [(0,.cells c.av),(1,.cells vw),(2,.cells [.ptr 1 0]),(3,.cells [.nl])] 4 (λp hp=>by
   simp only[ay,b8,eg]at hp;rcases hp with rfl|rfl|rfl|rfl<;>simp only[]<;>omega)
  rw[hfin];have hbl:(ai (nR R c)).length=(nR R c).length:=bB;have hb5:(ai B5).length=B5.length:=bB;have hb4:(ai B4).length=B4.length:=bB;have hb01:ai B4++[[D.int .u8 0],[D.int .u8 1]]=ai (B4++[0,1]):=by simp[ai]
  have hb000:ai B4++[[D.int .u8 0],[D.int .u8 0],[D.int .u8 0]]=ai (B4++[0,0,0]):=by simp[ai]
  have hb6:ai (B4++[0,1]++jJ c.info.short c.tns)++[[D.int .u8 0]]=ai (B4++[0,1]++jJ c.info.short c.tns++[0]):=by simp[ai]
  have hl6n:(B4++[0,1]++jJ c.info.short c.tns).length<=400000000:=by simp;omega
  have hl6:(ai (B4++[0,1]++jJ c.info.short c.tns)).length<=400000000:=by rw[bB];simp;omega
  simp only[FQ,cQ.av,aO.cells,aS,aK]at hC p2 p3 p4 p6 p7 p8⊢;rw[aG adS aei rfl]
  cases hcm:common with
  |true =>
   rw[hcm]at hB2;simp only[bj,bh]at hB2;subst hB2
   cases haf:pf c.tns with
   |true =>
    rw[haf]at hB5 p5;simp only[bj]at hB5;have e5:B4++[0,1]++jJ c.info.short c.tns++[0]=B5:=by rw[hB5];simp
    rw[e5]at hb6;generalize nR R c=LL at *;generalize B4++[0,1]++jJ c.info.short c.tns=B6 at *;generalize B4++[0,1]=B7 at *;rcases hx with rfl|⟨rfl,rfl⟩
    .simp(config := { maxSteps:=9^7 }) (disch:=omega)[↓ac,↓aa,rd,hC,p1,p3,p4,p5,p6,hb01,hb6,hb000,p8,p7]
     try omega
    .simp(config := { maxSteps:=9^7 }) (disch:=omega)[↓ac,↓aa,rd,hC,p1,p3,p4,p5,p6,hb01,hb6,hb000,p8,p7]
     try omega
   |false =>
    rw[haf]at hB5 p5;simp only[ao,bm]at hB5;rw[<-hB5]at hb000;generalize nR R c=LL at *;generalize B4++[0,1]++jJ c.info.short c.tns=B6 at *;generalize B4++[0,1]=B7 at *;rcases hx with rfl|⟨rfl,rfl⟩
    .simp(config := { maxSteps:=9^7 }) (disch:=omega)[↓ac,↓aa,rd,hC,p1,p3,p4,p5,p6,hb01,hb6,hb000,p8,p7]
     try omega
    .simp(config := { maxSteps:=9^7 }) (disch:=omega)[↓ac,↓aa,rd,hC,p1,p3,p4,p5,p6,hb01,hb6,hb000,p8,p7]
     try omega
  |false =>
   rw[hcm]at hB2;simp only[ao,bm]at hB2;rw[<-hB2]at p2
   cases haf:pf c.tns with
   |true =>
    rw[haf]at hB5 p5;simp only[bj]at hB5;have e5:B4++[0,1]++jJ c.info.short c.tns++[0]=B5:=by rw[hB5];simp
    rw[e5]at hb6;generalize nR R c=LL at *;generalize B4++[0,1]++jJ c.info.short c.tns=B6 at *;generalize B4++[0,1]=B7 at *;rcases hx with rfl|⟨rfl,rfl⟩
    .simp(config := { maxSteps:=9^7 }) (disch:=omega)[↓ac,↓aa,rd,hC,p1,p2,p3,p4,p5,p6,hb01,hb6,hb000,p8,p7]
     try omega
    .simp(config := { maxSteps:=9^7 }) (disch:=omega)[↓ac,↓aa,rd,hC,p1,p2,p3,p4,p5,p6,hb01,hb6,hb000,p8,p7]
     try omega
   |false =>
    rw[haf]at hB5 p5;simp only[ao,bm]at hB5;rw[<-hB5]at hb000;generalize nR R c=LL at *;generalize B4++[0,1]++jJ c.info.short c.tns=B6 at *;generalize B4++[0,1]=B7 at *;rcases hx with rfl|⟨rfl,rfl⟩
    .simp(config := { maxSteps:=9^7 }) (disch:=omega)[↓ac,↓aa,rd,hC,p1,p2,p3,p4,p5,p6,hb01,hb6,hb000,p8,p7]
     try omega
    .simp(config := { maxSteps:=9^7 }) (disch:=omega)[↓ac,↓aa,rd,hC,p1,p2,p3,p4,p5,p6,hb01,hb6,hb000,p8,p7]
     try omega
 .exact .inr ⟨8,o_,hC,λ_=>h,bad 8 o_ hC⟩
 .exact .inr ⟨2,o_,hC,λh=>absurd h hr,bad 2 o_ hC⟩
abbrev gw:=@List.tail_drop
structure afX (c:cQ):Prop where
 groups:c.info.groups.length<=40
 sects:c.sects.length<=40∧∀l∈c.sects,l.length<=100
 steps:c.steps.length<=40∧∀l∈c.steps,l.length<=200
 tns:c.tns.length<=40∧∀l∈c.tns,l.length<=20∧∀f∈l,f.coefs.length<=100
 lines:c.lines.length<=2000
def auw (c:cQ)(hl:c.sects.length<=40):∀(r:H_) (i:Nat),c.sects.drop i=r->
  ((∀l∈r,l.length<=100)∧(Dn prog).code (.loop iK) ⟨[(1,.ptr 0 0),(3,A_ i)],⟨[(0,.cells c.av)],1⟩⟩=some (.exit 0,⟨[(1,.ptr 0 0)],⟨[(0,.cells c.av)],1⟩⟩))∨
  (Dn prog).code (.loop iK) ⟨[(1,.ptr 0 0),(3,A_ i)],⟨[(0,.cells c.av)],1⟩⟩=some (.ret,⟨[(2,B_ true)],⟨[],1⟩⟩):=by
 intro r
 induction r with
 |nil =>
  intro i hd;have hi:=bv hd;refine .inl ⟨s_,?_⟩;rw[ah kO];simp(maxSteps:=9^6)(disch:=omega)[↓aa]
 |cons l r ih =>
  intro i hd;have hg:=oE hd;have hlt:=bV hd;have hd1:c.sects.drop (i+1)=r:=by rw[<-gw,hd];rfl
  have ih1:=ih (i+1) hd1;rw[show((i+1:Nat):Int)=(i:Int)+1 from rfl]at ih1;by_cases hn:l.length<=100
  .rcases ih1 with ⟨ha,e⟩|e
   .refine .inl ⟨λq hq=>?_,?_⟩
    .rcases ay.1 hq with rfl|hq
     .exact hn
     .exact ha q hq
    .rw[ah kO];simp(maxSteps:=9^6)(disch:=omega)[↓ac,↓aa,hg,e]
   .refine .inr ?_;rw[ah kO];simp(maxSteps:=9^6)(disch:=omega)[↓ac,↓aa,hg,e]
  .refine .inr ?_;rw[ah kO];simp(maxSteps:=9^6)(disch:=omega)[↓ac,↓aa,hg]
def at7 (c:cQ)(hl:c.steps.length<=40):∀(r:K_) (i:Nat),c.steps.drop i=r->
  ((∀l∈r,l.length<=200)∧(Dn prog).code (.loop iT) ⟨[(1,.ptr 0 0),(4,A_ i)],⟨[(0,.cells c.av)],1⟩⟩=some (.exit 2,⟨[(1,.ptr 0 0)],⟨[(0,.cells c.av)],1⟩⟩))∨
  (Dn prog).code (.loop iT) ⟨[(1,.ptr 0 0),(4,A_ i)],⟨[(0,.cells c.av)],1⟩⟩=some (.ret,⟨[(2,B_ true)],⟨[],1⟩⟩):=by
 intro r
 induction r with
 |nil =>
  intro i hd;have hi:=bv hd;refine .inl ⟨s_,?_⟩;rw[ah kI];simp(maxSteps:=9^6)(disch:=omega)[↓aa]
 |cons l r ih =>
  intro i hd;have hg:=KG hd;have hlt:=bV hd;have hd1:c.steps.drop (i+1)=r:=by rw[<-gw,hd];rfl
  have ih1:=ih (i+1) hd1;rw[show((i+1:Nat):Int)=(i:Int)+1 from rfl]at ih1;by_cases hn:l.length<=200
  .rcases ih1 with ⟨ha,e⟩|e
   .refine .inl ⟨λq hq=>?_,?_⟩
    .rcases ay.1 hq with rfl|hq
     .exact hn
     .exact ha q hq
    .rw[ah kI];simp(maxSteps:=9^6)(disch:=omega)[↓ac,↓aa,hg,e]
   .refine .inr ?_;rw[ah kI];simp(maxSteps:=9^6)(disch:=omega)[↓ac,↓aa,hg,e]
  .refine .inr ?_;rw[ah kI];simp(maxSteps:=9^6)(disch:=omega)[↓ac,↓aa,hg]
def avs (c:cQ)(w:Nat)(full:AA_)(q:O_)(hw:c.tns.drop w=full::q)(hl:full.length<=20):∀(r:AA_) (i:Nat),full.drop i=r->
  ((∀f∈r,f.coefs.length<=100)∧(Dn prog).code (.loop iV) ⟨[(1,.ptr 0 0),(5,A_ w),(6,A_ i)],⟨[(0,.cells c.av)],1⟩⟩=some (.exit 6,⟨[(1,.ptr 0 0),(5,A_ w)],⟨[(0,.cells c.av)],1⟩⟩))∨
  (Dn prog).code (.loop iV) ⟨[(1,.ptr 0 0),(5,A_ w),(6,A_ i)],⟨[(0,.cells c.av)],1⟩⟩=some (.ret,⟨[(2,B_ true)],⟨[],1⟩⟩):=by
 have hg1:=Bt hw;have hw1:=bV hw;intro r
 induction r with
 |nil =>
  intro i hd;have hi:=bv hd;refine .inl ⟨s_,?_⟩;rw[ah kX];simp(maxSteps:=9^6)(disch:=omega)[↓aa,↓ac,hg1]
 |cons l r ih =>
  intro i hd;have hg:=D6 hd;have hlt:=bV hd;have hd1:full.drop (i+1)=r:=by rw[<-gw,hd];rfl
  have ih1:=ih (i+1) hd1;rw[show((i+1:Nat):Int)=(i:Int)+1 from rfl]at ih1;by_cases hn:l.coefs.length<=100
  .rcases ih1 with ⟨ha,e⟩|e
   .refine .inl ⟨λq hq=>?_,?_⟩
    .rcases ay.1 hq with rfl|hq
     .exact hn
     .exact ha q hq
    .rw[ah kX];simp(maxSteps:=9^6)(disch:=omega)[↓ac,↓aa,hg,hg1,e]
   .refine .inr ?_;rw[ah kX];simp(maxSteps:=9^6)(disch:=omega)[↓ac,↓aa,hg,hg1,e]
  .refine .inr ?_;rw[ah kX];simp(maxSteps:=9^6)(disch:=omega)[↓ac,↓aa,hg,hg1]
def as5 (c:cQ)(hl:c.tns.length<=40):∀(r:O_) (i:Nat),c.tns.drop i=r->
  ((∀l∈r,l.length<=20∧∀f∈l,f.coefs.length<=100)∧(Dn prog).code (.loop iP) ⟨[(1,.ptr 0 0),(5,A_ i)],⟨[(0,.cells c.av)],1⟩⟩=some (.exit 4,⟨[],⟨[],1⟩⟩))∨
  (Dn prog).code (.loop iP) ⟨[(1,.ptr 0 0),(5,A_ i)],⟨[(0,.cells c.av)],1⟩⟩=some (.ret,⟨[(2,B_ true)],⟨[],1⟩⟩):=by
 intro r
 induction r with
 |nil =>
  intro i hd;have hi:=bv hd;refine .inl ⟨s_,?_⟩;rw[ah iJ];simp(maxSteps:=9^6)(disch:=omega)[↓aa]
 |cons l r ih =>
  intro i hd;have hg:=Bt hd;have hlt:=bV hd;have hd1:c.tns.drop (i+1)=r:=by rw[<-gw,hd];rfl
  have ih1:=ih (i+1) hd1;rw[show((i+1:Nat):Int)=(i:Int)+1 from rfl]at ih1;by_cases hn:l.length<=20
  .rcases avs c i l r hd hn l 0 rfl with ⟨h2,e2⟩|e2
   .rw[show((0:Nat):Int)=0 from rfl]at e2;rcases ih1 with ⟨ha,e⟩|e
    .refine .inl ⟨λq hq=>?_,?_⟩
     .rcases ay.1 hq with rfl|hq
      .exact⟨hn,h2⟩
      .exact ha q hq
     .rw[ah iJ];simp(maxSteps:=9^6)(disch:=omega)[↓ac,↓aa,hg,e2,e]
    .refine .inr ?_;rw[ah iJ];simp(maxSteps:=9^6)(disch:=omega)[↓ac,↓aa,hg,e2,e]
   .refine .inr ?_;rw[show((0:Nat):Int)=0 from rfl]at e2;rw[ah iJ];simp(maxSteps:=9^6)(disch:=omega)[↓ac,↓aa,hg,e2]
  .refine .inr ?_;rw[ah iJ];simp(maxSteps:=9^6)(disch:=omega)[↓ac,↓aa,hg]
def aCu (c:cQ):(afX c∧bq prog ti [.agg c.av]=some (B_ false))∨bq prog ti [.agg c.av]=some (B_ true):=by
 by_cases h1:c.info.groups.length<=40
 rotate_left
 .refine .inr ?_;rw[aG eI eG rfl];simp(maxSteps:=9^6)(disch:=omega)[↓ac,↓aa]
 by_cases h2:c.sects.length<=40
 rotate_left
 .refine .inr ?_;rw[aG eI eG rfl];simp(maxSteps:=9^6)(disch:=omega)[↓ac,↓aa]
 by_cases h3:c.steps.length<=40
 rotate_left
 .refine .inr ?_;rw[aG eI eG rfl];simp(maxSteps:=9^6)(disch:=omega)[↓ac,↓aa]
 by_cases h4:c.tns.length<=40
 rotate_left
 .refine .inr ?_;rw[aG eI eG rfl];simp(maxSteps:=9^6)(disch:=omega)[↓ac,↓aa]
 by_cases h5:c.lines.length<=2000
 rotate_left
 .refine .inr ?_;rw[aG eI eG rfl];simp(maxSteps:=9^6)(disch:=omega)[↓ac,↓aa]
 rcases auw c h2 _ 0 rfl with ⟨a0,e0⟩|e0
 rotate_left
 .refine .inr ?_;rw[show((0:Nat):Int)=0 from rfl]at e0;rw[aG eI eG rfl];simp(maxSteps:=9^6)(disch:=omega)[↓ac,↓aa,e0]
 rcases at7 c h3 _ 0 rfl with ⟨a1,e1⟩|e1
 rotate_left
 .refine .inr ?_;rw[show((0:Nat):Int)=0 from rfl]at e0 e1;rw[aG eI eG rfl];simp(maxSteps:=9^6)(disch:=omega)[↓ac,↓aa,e0,e1]
 rcases as5 c h4 _ 0 rfl with ⟨a3,e3⟩|e3
 rotate_left
 .refine .inr ?_;rw[show((0:Nat):Int)=0 from rfl]at e0 e1 e3;rw[aG eI eG rfl];simp(maxSteps:=9^6)(disch:=omega)[↓ac,↓aa,e0,e1,e3]
 refine .inl ⟨⟨h1,⟨h2,a0⟩,⟨h3,a1⟩,⟨h4,a3⟩,h5⟩,?_⟩;rw[show((0:Nat):Int)=0 from rfl]at e0 e1 e3;rw[aG eI eG rfl];simp(maxSteps:=9^6)(disch:=omega)[↓ac,↓aa,e0,e1,e3]
abbrev sT (book:Int):Int:=if book=13 then 511 else 255
def lD (b:C_)(a book was:Int):R Int :=
 if was<0 then (bi b a 9).bind λv n=>.ok (v:Int) n
 else (IT b a).bind λd n=>if was+d<0∨sT book<was+d then .er 7 else .ok (was+d) n
abbrev aGJ (b:C_)(book:Int)(v:Int)(n:Nat):Prop:=(0<=v∧v<=511)∧n<=b.length
def aby {b:C_}{a:Int}{d:Int}{n:Nat}(h:IT b a=.ok d n):pSt b d n:=by
 rw[IT]at h
 cases h1:z6 12 b a with
 |er e=>rw[h1]at h;exact absurd h (by simp)
 |ok e m =>
  rw[h1,az]at h;obtain⟨k1,k2⟩:=Uj o_ h1;have h2:e<121:=k1;injection h with g1 g2
  subst g1 g2;exact⟨o_,k2⟩
def YG {b:C_}{a book was:Int}{v:Int}{n:Nat}(h:lD b a book was=.ok v n):aGJ b book v n:=by
 rw[lD]at h;split at h
 .cases h1:bi b a 9 with
  |er e=>rw[h1]at h;exact absurd h (by simp)
  |ok v0 m =>
   rw[h1,az]at h;have hp:=eV h1;have h2:v0<512:=hp.1;have h3:=hp.2;injection h with g1 g2
   subst g1 g2;exact⟨o_,h3⟩
 .cases h1:IT b a with
  |er e=>rw[h1]at h;exact absurd h (by simp)
  |ok d m =>
   rw[h1,az]at h;have hp:=aby h1;split at h
   .exact absurd h (by simp)
   .rename_i hn;injection h with g1 g2
    subst g1 g2;refine⟨?_,hp.2⟩;simp only[sT]at hn;split at hn<;>omega
def pb (b:C_):G_->Int->Int->Int->R (G_×Int×Int)
 |[],a,w,z=>.ok ([],w,z) a.toNat
 |k::r,a,w,z=>if k=13 then (lD b a 13 z).bind λv n=>(pb b r n w v).bind λq n=>.ok (v::q.1,q.2) n
  else if 0<k then (lD b a k w).bind λv n=>(pb b r n v z).bind λq n=>.ok (v::q.1,q.2) n
  else (pb b r a w z).bind λq n=>.ok (0::q.1,q.2) n
abbrev inW (w:Int):Prop:=-1<=w∧w<=511
abbrev aGb (b:C_)(r:G_)(q:G_×Int×Int)(n:Nat):Prop:=q.1.length=r.length∧(inW q.2.1∧inW q.2.2)∧n<=b.length
def Th {b:C_}:∀{r:G_}{a:Nat}{w z:Int}{q:G_×Int×Int}{n:Nat},a<=b.length->inW w->inW z->pb b r a w z=.ok q n->aGb b r q n
 |[],a,w,z,q,n,ha,hw,hz,h=>by
  rw[pb]at h;injection h with g1 g2
  subst g1 g2;exact⟨rfl,⟨hw,hz⟩,by simpa using ha⟩
 |k::r,a,w,z,q,n,ha,hw,hz,h=>by
  rw[pb]at h;split at h
  .cases h1:lD b a 13 z with
   |er e=>rw[h1]at h;exact absurd h (by simp)
   |ok v m =>
    rw[h1,az]at h;have hp:=YG h1
    cases h2:pb b r m w v with
    |er e=>rw[h2]at h;exact absurd h (by simp)
    |ok q1 m1 =>
     rw[h2,az]at h;have hq:=Th hp.2 hw ⟨by have:=hp.1.1;omega,hp.1.2⟩ h2;injection h with g1 g2
     subst g1 g2;exact⟨by simp[hq.1],hq.2⟩
  .split at h
   .cases h1:lD b a k w with
    |er e=>rw[h1]at h;exact absurd h (by simp)
    |ok v m =>
     rw[h1,az]at h;have hp:=YG h1
     cases h2:pb b r m v z with
     |er e=>rw[h2]at h;exact absurd h (by simp)
     |ok q1 m1 =>
      rw[h2,az]at h;have hq:=Th hp.2 ⟨by have:=hp.1.1;omega,hp.1.2⟩ hz h2;injection h with g1 g2
      subst g1 g2;exact⟨by simp[hq.1],hq.2⟩
   .cases h2:pb b r a w z with
    |er e=>rw[h2]at h;exact absurd h (by simp)
    |ok q1 m1 =>
     rw[h2,az]at h;have hq:=Th ha hw hz h2;injection h with g1 g2
     subst g1 g2;exact⟨by simp[hq.1],hq.2⟩
def nP (b:C_):H_->Int->Int->Int->R K_
 |[],a,_,_=>.ok [] a.toNat
 |l::r,a,w,z=>(pb b (aN l) a w z).bind λq n=>(nP b r n q.2.1 q.2.2).bind λt n=>.ok (q.1::t) n
abbrev pSc (b:C_)(g:H_)(t:K_)(n:Nat):Prop:=t.map List.length=g.map (λl=>(aN l).length)∧n<=b.length
def X4 {b:C_}:∀{g:H_}{a:Nat}{w z:Int}{t:K_}{n:Nat},a<=b.length->inW w->inW z->nP b g a w z=.ok t n->pSc b g t n
 |[],a,w,z,t,n,ha,hw,hz,h=>by
  rw[nP]at h;injection h with g1 g2
  subst g1 g2;exact⟨rfl,by simpa using ha⟩
 |l::r,a,w,z,t,n,ha,hw,hz,h=>by
  rw[nP]at h
  cases h1:pb b (aN l) a w z with
  |er e=>rw[h1]at h;exact absurd h (by simp)
  |ok q m =>
   rw[h1,az]at h;have hp:=Th ha hw hz h1
   cases h2:nP b r m q.2.1 q.2.2 with
   |er e=>rw[h2]at h;exact absurd h (by simp)
   |ok t1 m1 =>
    rw[h2,az]at h;have hq:=X4 hp.2.2 hp.2.1.1 hp.2.1.2 h2;injection h with g1 g2
    subst g1 g2;exact⟨by simp only[bL,hq.1,hp.1],hq.2⟩
def at2 {t:K_}{l:G_}:dj (t++[l])=dj t++[[.lst (aI l)]]:=by simp[dj]
def ann {l:Q_}(hl:l.length<=1000)(hs:∀s∈l,0<=s.len∧s.len<=1000):(aN l).length<=1000*l.length:=by
 induction l with
 |nil=>simp[aN]
 |cons s r ih =>
  have h1:=hs s (.head _);have h2:=ih (by simp at hl;omega) λq hq=>hs q (.tail _ hq)
  simp only[aN,aC,aj,aL,aq]at h2⊢;omega
abbrev afW (l:Q_):Prop:=l.length<=1000∧∀s∈l,0<=s.len∧s.len<=1000
def zG (b:C_)(g:H_)(a gain:Int):R K_:=if 0<=a∧a<=b.length then nP b g a gain (-1) else .er 1
structure SG where
 row:G_
 nx:Nat
 w:Int
 z:Int
def Ck {A0 A1 A2 A3:Obj}{R:am}(book n s z:Int)(N:Nat)(hn:-100000<=n∧n<=100000)(hs:-100000<=s∧s<=100000)(hz:-100000<=z∧z<=100000) :
  (Dn prog).call qR [.ptr 4 0,A_ book,A_ n] ⟨(0,A0)::(1,A1)::(2,A2)::(3,A3)::(4,.cells [A_ s,A_ z])::R,N⟩ =
   if mp book n s z then some (B_ true,⟨if book=13 then (0,A0)::(1,A1)::(2,A2)::(3,A3)::(4,.cells [A_ s,A_ n])::R else (0,A0)::(1,A1)::(2,A2)::(3,A3)::(4,.cells [A_ n,A_ z])::R,N⟩) else some (B_ false,⟨(0,A0)::(1,A1)::(2,A2)::(3,A3)::(4,.cells [A_ s,A_ z])::R,N⟩) :=
 OY (hp:=λs z=>(0,A0)::(1,A1)::(2,A2)::(3,A3)::(4,.cells [A_ s,A_ z])::R) (A:=4) ⟨λs z=>by simp,λs z s' z'=>by simp⟩ book n s z N hn hs hz
section
variable (b:C_)(full:H_)(ss:K_)(l:Q_)(i N:Nat)
abbrev af2:aZ:=[(4,.ptr 0 0),(8,.ptr 1 0),(9,.ptr 2 0),(10,.ptr 3 0),(11,.ptr 5 0),(14,.ptr N 0),(35,.d (.lst (bO full))),(36,A_ full.length),(37,A_ i),(42,.fn jD [] [.ptr (N+1) 0])]
abbrev FG (q:Bool)(p:BH_)(x1 x2 x3:AV)(row:G_)(w z:Int)(T:am):am :=
 (0,.cells [.d (.lst (ai b))])::(1,.cells [x1])::(2,.cells [x2])::(3,.cells [x3])::(4,.cells [A_ w,A_ z])::(5,.cells [.ptr 4 0])::(N,.cells [aE 1 (aI row)])::(N+1,.cells [.d (.lst (io l))])::(N+1+1,.loop (af2 full i N) [43,44] yE xT q p)::T
abbrev hpG (s:SG)(T:am):am:=FG b full l i N false none (aE 1 (dj ss)) (A_ s.nx) (A_ 0) s.row s.w s.z T
abbrev hqG (s:Nat×SG)(T:am):am:=FG b full l i N false (some .ret) .nl (A_ 0) (A_ ((s.1:Int)+1)) s.2.row s.2.w s.2.z T
end
def Pw (b:C_)(k:Int)(s:SG):Sum SG (Nat×SG) :=
 if k=13 then (match lD b s.nx 13 s.z with
  |.ok v n=>.inl ⟨s.row++[v],n,s.w,v⟩
  |.er e=>.inr (e,s))
 else if 0<k then (match lD b s.nx k s.w with
  |.ok v n=>.inl ⟨s.row++[v],n,v,s.z⟩
  |.er e=>.inr (e,s))
 else .inl ⟨s.row++[0],s.nx,s.w,s.z⟩
def apz (b:C_)(a:Nat)(s:SG):Prop:=s.nx<=b.length∧(0<=s.w∧s.w<=511)∧inW s.z∧s.row.length=a∧a<=1000000
def aCf (b:C_)(hb:b.length<=1000000000)(full:H_)(ss:K_)(l:Q_)(i N:Nat)(hN:6<=N)(a:Nat)(k:Int)(hk:0<=k∧k<=13)(s:SG)(hs:apz b a s)(K M:Nat)(o:Obj)(hK:N+1+1+1<=K) :
  cA (Dn prog) (.yield (N+1+1)) [A_ (a:Int),A_ k] ⟨hpG b full ss l i N s [(K,o)],M⟩ =
  match Pw b k s with
  |.inl s2=>some (B_ true,⟨hpG b full ss l i N s2 [(K,o)],M⟩)
  |.inr z=>some (B_ false,⟨hqG b full l i N z [(K,o)],M⟩):=by
 obtain⟨h1,h2,h3,h4,h5⟩:=hs;obtain⟨n0,n1,n2,n3,n4⟩:(N≠0∧N≠1∧N≠2∧N≠3∧N≠4∧N≠5)∧(N+1≠0∧N+1≠1∧N+1≠2∧N+1≠3∧N+1≠4∧N+1≠5)∧(N+1+1≠0∧N+1+1≠1∧N+1+1≠2∧N+1+1≠3∧N+1+1≠4∧N+1+1≠5)∧N+1+1≠N∧N+1+1≠N+1:=o_;have hrl:=iR (l:=s.row);have eo:∀v,AV.own false 1 (aI (s.row++[v]))=aE 1 (aI (s.row++[v])):=λv=>by rw[aao];exact oM.symm
 have hS:=aii b s.nx hb o_;have hG:=ik b s.nx 9 hb o_;have hz0:=h3.1;have hz1:=h3.2;rw[Pw];by_cases e1:k=13
 .subst e1;rw[ac rfl];by_cases hz:s.z<0
  .cases hg:bi b s.nx 9 with
   |ok v n =>
    have hp:=eV hg;have hv:v<512:=hp.1;have hn:=hp.2;rw[hg,fp hp]at hG;have ho:lD b s.nx 13 s.z=.ok (v:Int) n:=by rw[lD,ac hz,hg,az]
    have hT:mp 13 v s.w s.z:=by rw[mp,ac rfl];omega
    rw[ho];simp(maxSteps:=9^6)(disch:=omega)[je,jl,↓ac,↓aa,n0,n1,n2,n3,n4,Ck,hG,ac hT];exact eo _
   |er e =>
    rw[hg,jf]at hG;have ho:lD b s.nx 13 s.z=.er e:=by rw[lD,ac hz,hg,cG]
    rw[ho];simp(maxSteps:=9^6)(disch:=omega)[je,jl,↓ac,↓aa,n0,n1,n2,n3,n4,Ck,hG]
  .cases hg:IT b s.nx with
   |ok d n =>
    have hp:=aby hg;have hd:=hp.1;have hn:=hp.2;rw[hg,fp hp]at hS;by_cases hr:s.z+d<0∨sT 13<s.z+d
    .have ho:lD b s.nx 13 s.z=.er 7:=by rw[lD,aa hz,hg,az,ac hr]
     have hT:¬mp 13 (d+s.z) s.w s.z:=by rw[mp,ac rfl];simp only[sT,ac]at hr;omega
     rw[ho];simp(maxSteps:=9^6)(disch:=omega)[je,jl,↓ac,↓aa,n0,n1,n2,n3,n4,Ck,hS,aa hT]
    .have ho:lD b s.nx 13 s.z=.ok (s.z+d) n:=by rw[lD,aa hz,hg,az,aa hr]
     have hT:mp 13 (d+s.z) s.w s.z:=by rw[mp,ac rfl];simp only[sT,ac]at hr;omega
     rw[ho,Int.add_comm];simp(maxSteps:=9^6)(disch:=omega)[je,jl,↓ac,↓aa,n0,n1,n2,n3,n4,Ck,hS,ac hT];exact eo _
   |er e =>
    rw[hg,jf]at hS;have ho:lD b s.nx 13 s.z=.er e:=by rw[lD,aa hz,hg,cG]
    rw[ho];simp(maxSteps:=9^6)(disch:=omega)[je,jl,↓ac,↓aa,n0,n1,n2,n3,n4,Ck,hS]
 .rw[aa e1];by_cases e2:0<k
  .rw[ac e2];have hw:¬s.w<0:=o_
   cases hg:IT b s.nx with
   |ok d n =>
    have hp:=aby hg;have hd:=hp.1;have hn:=hp.2;rw[hg,fp hp]at hS;by_cases hr:s.w+d<0∨sT k<s.w+d
    .have ho:lD b s.nx k s.w=.er 7:=by rw[lD,aa hw,hg,az,ac hr]
     have hT:¬mp k (d+s.w) s.w s.z:=by rw[mp,aa e1];simp only[sT,aa e1]at hr;omega
     rw[ho];simp(maxSteps:=9^6)(disch:=omega)[je,jl,↓ac,↓aa,n0,n1,n2,n3,n4,Ck,hS,aa hT,e1]
    .have ho:lD b s.nx k s.w=.ok (s.w+d) n:=by rw[lD,aa hw,hg,az,aa hr]
     have hT:mp k (d+s.w) s.w s.z:=by rw[mp,aa e1];simp only[sT,aa e1]at hr;omega
     rw[ho,Int.add_comm];simp(maxSteps:=9^6)(disch:=omega)[je,jl,↓ac,↓aa,n0,n1,n2,n3,n4,Ck,hS,ac hT,e1];exact eo _
   |er e =>
    rw[hg,jf]at hS;have ho:lD b s.nx k s.w=.er e:=by rw[lD,aa hw,hg,cG]
    rw[ho];simp(maxSteps:=9^6)(disch:=omega)[je,jl,↓ac,↓aa,n0,n1,n2,n3,n4,Ck,hS,e1]
  .rw[aa e2];have:k=0:=o_;subst this;simp(maxSteps:=9^6)(disch:=omega)[je,jl,↓ac,↓aa,n0,n1,n2,n3,n4,Ck,e1];exact eo _
def aw6 {b:C_}{a:Nat}{k:Int}{s s2:SG}(hs:apz b a s)(ha:a<1000000)(h:Pw b k s=.inl s2):apz b (a+1) s2:=by
 obtain⟨h1,h2,h3,h4,h5⟩:=hs;have h3':=h3;rw[Pw]at h;split at h
 .split at h
  .rename_i v n ho;have hp:=YG ho;obtain⟨⟨hv1,hv2⟩,hn⟩:=hp;injection h with h;subst h
   exact⟨hn,h2,⟨by simp only[];omega,hv2⟩,by simp[h4],o_⟩
  .exact nomatch h
 .split at h
  .split at h
   .rename_i v n ho;have hp:=YG ho;obtain⟨⟨hv1,hv2⟩,hn⟩:=hp;injection h with h;subst h
    exact⟨hn,⟨hv1,hv2⟩,h3,by simp[h4],o_⟩
   .exact nomatch h
  .injection h with h;subst h
   exact⟨h1,h2,h3,by simp[h4],o_⟩
def TQ {b:C_}:∀{r:G_}{a:Nat}{s:SG},(∀q n,pb b r s.nx s.w s.z=.ok q n->vS (λ_ k s=>Pw b k s) r a s=.inl ⟨s.row++q.1,n,q.2.1,q.2.2⟩)∧(∀e,pb b r s.nx s.w s.z=.er e->∃z,vS (λ_ k s=>Pw b k s) r a s=.inr (e,z))
 |[],a,s=>⟨λq n h=>by
   rw[pb]at h;injection h with g1 g2
   subst g1 g2;rw[vS];simp,λe h=>by rw[pb]at h;exact absurd h s_⟩
 |k::r,a,s=>by
  rw[pb,vS,Pw];by_cases e1:k=13
  .rw[ac e1,ac e1]
   cases ho:lD b s.nx 13 s.z with
   |er e=>exact⟨λq n h=>by rw[cG]at h;exact absurd h s_,λe' h=>by rw[cG]at h;injection h with h;subst h;exact⟨s,rfl⟩⟩
   |ok v n =>
    simp only[az];have ih:=TQ (b:=b) (r:=r) (a:=a+1) (s:=⟨s.row++[v],n,s.w,v⟩)
    cases hr:pb b r n s.w v with
    |er e=>exact⟨λq n h=>by rw[cG]at h;exact absurd h s_,λe' h=>by rw[cG]at h;injection h with h;subst h;exact ih.2 e hr⟩
    |ok q m =>
     refine⟨λq' n' h=>?_,λe h=>by rw[az]at h;exact absurd h s_⟩;rw[az]at h;injection h with g1 g2
     subst g1 g2;rw[ih.1 q m hr];simp
  .rw[aa e1,aa e1];by_cases e2:0<k
   .rw[ac e2,ac e2]
    cases ho:lD b s.nx k s.w with
    |er e=>exact⟨λq n h=>by rw[cG]at h;exact absurd h s_,λe' h=>by rw[cG]at h;injection h with h;subst h;exact⟨s,rfl⟩⟩
    |ok v n =>
     simp only[az];have ih:=TQ (b:=b) (r:=r) (a:=a+1) (s:=⟨s.row++[v],n,v,s.z⟩)
     cases hr:pb b r n v s.z with
     |er e=>exact⟨λq n h=>by rw[cG]at h;exact absurd h s_,λe' h=>by rw[cG]at h;injection h with h;subst h;exact ih.2 e hr⟩
     |ok q m =>
      refine⟨λq' n' h=>?_,λe h=>by rw[az]at h;exact absurd h s_⟩;rw[az]at h;injection h with g1 g2
      subst g1 g2;rw[ih.1 q m hr];simp
   .rw[aa e2,aa e2];have ih:=TQ (b:=b) (r:=r) (a:=a+1) (s:=⟨s.row++[0],s.nx,s.w,s.z⟩)
    cases hr:pb b r s.nx s.w s.z with
    |er e=>exact⟨λq n h=>by rw[cG]at h;exact absurd h s_,λe' h=>by rw[cG]at h;injection h with h;subst h;exact ih.2 e hr⟩
    |ok q m =>
     refine⟨λq' n' h=>?_,λe h=>by rw[az]at h;exact absurd h s_⟩;rw[az]at h;injection h with g1 g2
     subst g1 g2;simp only;rw[ih.1 q m hr];simp
def aAx (b:C_)(hb:b.length<=1000000000)(full:H_)(ss:K_)(l:Q_)(i N:Nat)(hN:6<=N)(hk:∀k∈aN l,0<=k∧k<=13)(hl:(aN l).length<=1000000) :
  Rnd (hpG b full ss l i N) (hqG b full l i N) (N+1+1+1) (N+1+1) (aN l) (λ_ k s=>Pw b k s) (apz b):=by
 intro a k s K o M hak hi hK hKM;have hal:a<(aN l).length:=(aJ.1 hak).1;have h:=aCf b hb full ss l i N hN a k (hk k (dt hak)) s hi K M o hK
 cases hg:Pw b k s with
 |inl s2 =>
  rw[hg]at h;exact .inl ⟨s2,hg,aw6 hi o_ hg,h⟩
 |inr z =>
  rw[hg]at h;exact .inr ⟨z,hg,h⟩
def aCR {b:C_}{full:H_}{ss:K_}{l:Q_}{i N:Nat}(hN:6<=N):Tl (hpG b full ss l i N) (N+1+1+1):=by
 obtain⟨n0,n1,n2,n3,n4⟩:(N≠0∧N≠1∧N≠2∧N≠3∧N≠4∧N≠5)∧(N+1≠0∧N+1≠1∧N+1≠2∧N+1≠3∧N+1≠4∧N+1≠5)∧(N+1+1≠0∧N+1+1≠1∧N+1+1≠2∧N+1+1≠3∧N+1+1≠4∧N+1+1≠5)∧N+1+1≠N∧N+1+1≠N+1:=o_;constructor
 .intro s K o h;simp(maxSteps:=9^6)(disch:=omega)[↓aa]
 .intro s K o o' h;simp(maxSteps:=9^6)(disch:=omega)[↓aa]
 .intro s K o h;simp(maxSteps:=9^6)(disch:=omega)[↓aa]
 .intro s K o h;simp(maxSteps:=9^6)(disch:=omega)[↓aa]
def aCr {b:C_}{full:H_}{l:Q_}{i N:Nat}(hN:6<=N):Tl (hqG b full l i N) (N+1+1+1):=by
 obtain⟨n0,n1,n2,n3,n4⟩:(N≠0∧N≠1∧N≠2∧N≠3∧N≠4∧N≠5)∧(N+1≠0∧N+1≠1∧N+1≠2∧N+1≠3∧N+1≠4∧N+1≠5)∧(N+1+1≠0∧N+1+1≠1∧N+1+1≠2∧N+1+1≠3∧N+1+1≠4∧N+1+1≠5)∧N+1+1≠N∧N+1+1≠N+1:=o_;constructor
 .intro s K o h;simp(maxSteps:=9^6)(disch:=omega)[↓aa]
 .intro s K o o' h;simp(maxSteps:=9^6)(disch:=omega)[↓aa]
 .intro s K o h;simp(maxSteps:=9^6)(disch:=omega)[↓aa]
 .intro s K o h;simp(maxSteps:=9^6)(disch:=omega)[↓aa]
def Rp (x:D)(A0 A1 A2 A3 A4 A5 A6:Obj)(N:Nat)(hN:6<=N):(Dn prog).call GV [.d x] ⟨[(0,A0),(1,A1),(2,A2),(3,A3),(4,A4),(5,A5),(N,A6)],N+1⟩=some (.fn jD [] [.ptr (N+1) 0],⟨[(0,A0),(1,A1),(2,A2),(3,A3),(4,A4),(5,A5),(N,A6),(N+1,.cells [.d x])],N+1+1⟩):=by
 rw[LW];simp(maxSteps:=9^6)(disch:=omega)[↓aa]
def aoA (l:Q_):Prop:=∀k∈aN l,0<=k∧k<=13
abbrev hpL (b:C_)(ss:K_)(nx:Nat)(w z:Int):am:=[(0,.cells [.d (.lst (ai b))]),(1,.cells [aE 1 (dj ss)]),(2,.cells [A_ nx]),(3,.cells [A_ 0]),(4,.cells [A_ w,A_ z]),(5,.cells [.ptr 4 0])]
def aiu (b:C_)(hb:b.length<=1000000000)(full:H_)(hfl:full.length<=1000):∀(g:H_) (i N:Nat) (ss:K_) (nx:Nat) (w z:Int),full.drop i=g->(∀l∈g,afW l∧aoA l)->nx<=b.length->(0<=w∧w<=511)->inW z->ss.length<=i->6<=N->
  (∀t n,nP b g nx w z=.ok t n->∃M A4,(Dn prog).code (.loop lX) ⟨[(4,.ptr 0 0),(8,.ptr 1 0),(9,.ptr 2 0),(10,.ptr 3 0),(11,.ptr 5 0),(35,.d (.lst (bO full))),(36,A_ full.length),(37,A_ i)],⟨hpL b ss nx w z,N⟩⟩ =
   some (.exit 0,⟨[(8,.ptr 1 0),(9,.ptr 2 0),(10,.ptr 3 0)],⟨[(1,.cells [aE 1 (dj (ss++t))]),(2,.cells [A_ n]),(3,.cells [A_ 0]),(4,A4)],M⟩⟩))∧
  (∀e,nP b g nx w z=.er e->∃M I K T,(Dn prog).code (.loop lX) ⟨[(4,.ptr 0 0),(8,.ptr 1 0),(9,.ptr 2 0),(10,.ptr 3 0),(11,.ptr 5 0),(35,.d (.lst (bO full))),(36,A_ full.length),(37,A_ i)],⟨hpL b ss nx w z,N⟩⟩ =
   some (.ret,⟨af2 full I K,⟨(0,.cells [.d (.lst (ai b))])::(1,.cells [.nl])::(2,.cells [A_ 0])::(3,.cells [A_ ((e:Int)+1)])::T,M⟩⟩)):=by
 intro g
 induction g with
 |nil =>
  intro i N ss nx w z hd hok hnx hw hz hss hN;have hk:=bv hd;refine⟨λt n h=>?_,λe h=>by rw[nP]at h;exact absurd h s_⟩;rw[nP]at h;injection h with g1 g2
  subst g1 g2;refine⟨N,.cells [A_ w,A_ z],?_⟩;rw[ah Ec];simp(maxSteps:=9^6)(disch:=omega)[↓ac,↓aa]
 |cons l r ih =>
  intro i N ss nx w z hd hok hnx hw hz hss hN;have hlt:=bV hd;have hg:=oE hd;obtain⟨hl,hbk⟩:=hok l (.head _);have hbl:=ann hl.1 hl.2;have hsl:=aqN (t:=ss);obtain⟨n0,n1,n2,n3,n4⟩:(N≠0∧N≠1∧N≠2∧N≠3∧N≠4∧N≠5)∧(N+1≠0∧N+1≠1∧N+1≠2∧N+1≠3∧N+1≠4∧N+1≠5)∧(N+1+1≠0∧N+1+1≠1∧N+1+1≠2∧N+1+1≠3∧N+1+1≠4∧N+1+1≠5)∧N+1+1≠N∧N+1+1≠N+1:=o_;have hB:=acQ (p:=N+1) (aCR (b:=b) (full:=full) (ss:=ss) (l:=l) (i:=i) hN) (aCr (b:=b) (full:=full) (l:=l) (i:=i) hN) l (aAx b hb full ss l i N hN hbk o_) (λs=>by simp(maxSteps:=9^6)(disch:=omega)[↓aa,↓ac]) o_ hl.2 (N+1+1+1) ⟨[],nx,w,z⟩ (ak _) ⟨hnx,hw,hz,rfl,o_⟩;have hrow:=TQ (b:=b) (r:=aN l) (a:=0) (s:=⟨[],nx,w,z⟩);have n00:aI []=[]:=rfl;have c1:((i+1:Nat):Int)=(i:Int)+1:=rfl;rw[nP]
  cases hr:pb b (aN l) nx w z with
  |er e =>
   obtain⟨zz,hz2⟩:=hrow.2 e hr;rw[hz2]at hB;refine⟨λt n h=>by rw[cG]at h;exact absurd h s_,λe' h=>?_⟩;rw[cG]at h;injection h with h;subst h;rcases hB with ⟨s2,M,e1,_⟩|⟨q,M,e1,e2,e3⟩
   .exact nomatch e1
   .injection e1 with e1
    subst e1;simp only[hpG,hqG,FG,n00,qU,af2]at e3;refine⟨M,i,N,[(4,.cells [A_ zz.w,A_ zz.z]),(5,.cells [.ptr 4 0]),(N,.cells [aE 1 (aI zz.row)]),(N+1,.cells [.d (.lst (io l))])],?_⟩;rw[ah Ec];simp(maxSteps:=9^6)(disch:=omega)[↓ac,↓aa,hg,n0,n1,n2,n3,n4,Rp,rd,e3]
  |ok q m =>
   have hp:=Th hnx ⟨o_,o_⟩ hz hr;obtain⟨p1,⟨p2,p3⟩,p4⟩:=hp;have hz2:=hrow.1 q m hr;rw[hz2]at hB;rcases hB with ⟨s2,M,e1,ei,e2,e3⟩|⟨q,M,e1,_⟩
   rotate_left
   .exact nomatch e1
   injection e1 with e1
   subst e1;obtain⟨_,hw2,hz3,_⟩:=ei;simp only[aK]at e3 hw2 hz3;have h5:=ih (i+1) M (ss++[q.1]) m q.2.1 q.2.2 (bK hd) (λx hx=>hok x (.tail _ hx)) p4 hw2 hz3 g_ o_;rw[c1]at h5;simp only[az];have step:(Dn prog).code (.loop lX) ⟨[(4,.ptr 0 0),(8,.ptr 1 0),(9,.ptr 2 0),(10,.ptr 3 0),(11,.ptr 5 0),(35,.d (.lst (bO full))),(36,A_ full.length),(37,A_ i)],⟨hpL b ss nx w z,N⟩⟩ =
     (Dn prog).code (.loop lX) ⟨[(4,.ptr 0 0),(8,.ptr 1 0),(9,.ptr 2 0),(10,.ptr 3 0),(11,.ptr 5 0),(35,.d (.lst (bO full))),(36,A_ full.length),(37,A_ ((i:Int)+1))],⟨hpL b (ss++[q.1]) m q.2.1 q.2.2,M⟩⟩:=by
    simp only[hpG,hqG,FG,n00,qU,af2]at e3;simp only[hpL,at2,oM];rw[ah Ec];simp(maxSteps:=9^6)(disch:=omega)[↓ac,↓aa,hg,n0,n1,n2,n3,n4,Rp,rd,e3]
   rw[step]
   cases hs:nP b r m q.2.1 q.2.2 with
   |er e =>
    refine⟨λt n h=>by rw[cG]at h;exact absurd h s_,λe' h=>?_⟩;rw[cG]at h;injection h with h
    subst h;exact h5.2 e hs
   |ok t0 m0 =>
    refine⟨λt n h=>?_,λe h=>by rw[az]at h;exact absurd h s_⟩;rw[az]at h;injection h with g1 g2
    subst g1 g2;obtain⟨M2,A4,f⟩:=h5.1 t0 m0 hs;refine⟨M2,A4,?_⟩;rw[f,ax];rfl
def Et {m:Nat}{xs:E_}:share (share (aE m xs))=share (aE m xs):=by cases xs<;>rfl
def alU {m:Nat}{xs:E_}:firm (share (aE m xs))=share (aE m xs):=by cases xs<;>rfl
def ahW {m:Nat}{xs:E_}:AV.cells (share (aE m xs))=[share (aE m xs)]:=by cases xs<;>rfl
def Im {m:Nat}{xs:E_}:bl (share (aE m xs))=true:=by cases xs<;>rfl
def atG {h:am}{m:Nat}{xs:E_}{a b:Int}:iu h (.tup [share (aE m xs),A_ a,A_ b])=some (.tup [share (aE m xs),A_ a,A_ b]):=by cases xs<;>rfl
def arm (b:C_)(hb:b.length<=1000000000)(a gain m:Int)(ha:i64 a)(hg:0<=gain∧gain<=255)(g:H_)(hl:g.length<=8)(hm:0<=m∧m<=40)(hf:fQ m g)(hf2:∀l∈g,l.length<=1000)(hok:∀l∈g,afW l∧aoA l):bq prog V8 [.d (.lst (ai b)),A_ a,A_ gain,.d (.lst (bO g))] =
  rK (pSc b g) (zG b g a gain) (λt n=>some (.tup [share (aE 1 (dj t)),A_ n,A_ 0])) (λe=>some (.tup [.nl,A_ 0,A_ (e+1)])):=by
 have hmay:=aej gain m g hg hl hm λl h=>⟨hf l h,hf2 l h⟩
 have hG:=ik b a 0 hb ha;have e0:∀a,bi b a 0=if 0<=a∧a<=b.length then .ok 0 a.toNat else .er 1:=by
  intro a;by_cases h:0<=a∧a<=b.length
  .rw[ac h,bi];simp[h,bin,val]
  .rw[aa h,bi];simp[h]
 rw[aG akH aj5 rfl,zG];by_cases h1:0<=a∧a<=b.length
 .obtain⟨A,rfl⟩:=aA h1.1;rw[ac h1];rw[e0,ac h1,fp ⟨k_,o_⟩]at hG;have hL:=aiu b hb g o_ g 0 6 [] A gain (-1) rfl hok o_ ⟨hg.1,o_⟩ ⟨o_,o_⟩ (ak _) (ak _);have c0:((0:Nat):Int)=0:=rfl;have n0:dj []=[]:=rfl;simp only[c0,n0,qU,hpL,aK]at hL;simp only[ar]at hG
  cases hs:nP b g A gain (-1) with
  |ok t n =>
   have hp:=X4 o_ ⟨o_,o_⟩ ⟨o_,o_⟩ hs;obtain⟨M,A4,f⟩:=hL.1 t n hs;rw[fp hp];simp(maxSteps:=9^6)(disch:=omega)[↓ac,↓aa,hmay,hG,f,-aal,atG,-bl,alU,ahW,Im,Et]
  |er e =>
   obtain⟨M,I,K,T,f⟩:=hL.2 e hs;rw[jf];simp(maxSteps:=9^6)(disch:=omega)[↓ac,↓aa,hmay,hG,f]
 .rw[aa h1,jf];rw[e0,aa h1,jf]at hG;simp(maxSteps:=9^6)(disch:=omega)[↓ac,↓aa,hmay,hG]
abbrev HT (b:C_)(st:RS)(R:am):am:=(0,.cells [.d (.lst (ai b))])::(2,.cells [A_ (ra st)])::(3,.cells [A_ (re st)])::R
def EP (b:C_)(s:Int)(st:RS)(R:am)(N:Nat)(hb:b.length<=1000000000)(ha:st.fit):(Dn prog).call Dj [A_ s,.ptr 3 0,.ptr 0 0,.ptr 2 0] ⟨HT b st R,N⟩ =
  some (A_ (sV b st s),⟨HT b (sN b st s) R,N⟩):=by
 rw[be ZS Zj rfl];obtain⟨a,e⟩:=st;have hf:i64 a:=ha;by_cases he:e=0
 .subst he;simp(maxSteps:=9^6)(disch:=omega)[KY,ra,re,sV,sN]
 .simp(maxSteps:=9^6)(disch:=omega)[ra,re,sV,sN,he]
def SA (v sz:Nat):Int:=(v:Int)-((v / 2 ^ (sz-1)*2 ^ sz:Nat):Int)
def yH (b:C_)(sz:Nat):Nat->RS->G_
 |0,_=>[]
 |k+1,st=>SA (sV b st sz) sz::yH b sz k (sN b st sz)
def xr (b:C_)(sz:Nat):Nat->RS->RS
 |0,st=>st
 |k+1,st=>xr b sz k (sN b st sz)
def abd {b:C_}{sz:Nat}(hb:b.length<=1000000000):∀{k:Nat}{st:RS},st.fit->(xr b sz k st).fit
 |0,_,h=>h
 |_+1,_,h=>by rw[xr];exact abd hb (gq hb h)
def abn {b:C_}{sz:Nat}:∀{k:Nat}{st:RS},(yH b sz k st).length=k
 |0,_=>rfl
 |k+1,st=>by rw[yH,aq,abn]
def aFL {q s:Nat}(hq:q<=1)(hs:s<=4):fe .shl (A_ (q:Int)) (A_ (s:Int))=some (.int .i64 ((q*2 ^ s:Nat):Int)):=by
 have h:∀q:Nat,q<=1->∀s:Nat,s<=4->fe .shl (A_ (q:Int)) (A_ (s:Int))=some (.int .i64 ((q*2 ^ s:Nat):Int)):=by
  intro q hq s hs;obtain rfl|rfl:q=0∨q=1:=o_
  all_goals
   obtain rfl|rfl|rfl|rfl|rfl:s=0∨s=1∨s=2∨s=3∨s=4:=o_
   all_goals rfl
 exact h q hq s hs
abbrev RA:AV:=.fn Dj [] [.ptr 3 0,.ptr 0 0,.ptr 2 0]
def awI (b:C_)(hb:b.length<=1000000000)(SZ:Obj)(a0 a1 a2 a3 x6 x13:AV)(y12 y15 y32 y33 y46 y47:D)(nar:Int)(sz ord N M:Nat)(hsz:2<=sz∧sz<=4)(ho:ord<=100)(hN:5<=N):∀(k j:Nat) (st:RS) (acc:G_),j+k=ord->acc.length=j->st.fit->
  (Dn prog).code (.loop uv) ⟨[(6,x6),(7,.ptr 2 0),(8,.ptr 3 0),(10,RA),(11,.ptr 4 0),(12,.d y12),(13,x13),(15,.d y15),(16,.ptr N 0),(17,A_ nar),(18,A_ sz),(32,.d y32),(33,.d y33),(46,.d y46),(47,.d y47),(80,A_ ord),(81,A_ j)],⟨HT b st [(4,SZ),(N,.cells [a0,a1,a2,a3,aE 1 (aI acc)])],M⟩⟩ =
  some (.exit 4,⟨[(6,x6),(7,.ptr 2 0),(8,.ptr 3 0),(10,RA),(11,.ptr 4 0),(12,.d y12),(13,x13),(15,.d y15),(16,.ptr N 0),(17,A_ nar),(18,A_ sz),(32,.d y32),(33,.d y33),(46,.d y46),(47,.d y47)],⟨HT b (xr b sz k st) [(4,SZ),(N,.cells [a0,a1,a2,a3,aE 1 (aI (acc++yH b sz k st))])],M⟩⟩):=by
 obtain⟨n0,n2,n3,n4⟩:N≠0∧N≠2∧N≠3∧N≠4:=o_;intro k
 induction k with
 |zero =>
  intro j st acc h1 h2 h3;rw[ah IA,yH,xr,bh];simp(maxSteps:=9^6)(disch:=omega)[↓ac,↓aa]
 |succ k ih =>
  intro j st acc h1 h2 h3;have hg:=EP b sz st [(4,SZ),(N,.cells [a0,a1,a2,a3,aE 1 (aI acc)])] M hb h3;have hv:=wC (b:=b) (st:=st) (s:=sz);have h5:=ih (j+1) (sN b st sz) (acc++[SA (sV b st sz) sz]) o_ g_ (gq hb h3);have c1:((j+1:Nat):Int)=(j:Int)+1:=rfl;have c2:((sz-1:Nat):Int)=(sz:Int)-1:=o_;have hla:=iR (l:=acc);simp only[ar]at hv;have hp:2 ^ (sz-1)*2=2 ^ sz:=by rw[<-da];congr 1;omega
  have hp0:=bN (sz-1);have hq:sV b st sz / 2 ^ (sz-1)<=1:=by
   have:sV b st sz / 2 ^ (sz-1)<2:=(Nat.div_lt_iff_lt_mul hp0).2 o_;omega
  have hp4:2 ^ sz<=2 ^ 4:=aw o_ hsz.2;have w1:=aoW (n:=sV b st sz) (k:=sz-1) o_;have w2:=aFL hq hsz.2;rw[c2]at w1;have hcf:SA (sV b st sz) sz=(sV b st sz:Int)-((sV b st sz / 2 ^ (sz-1)*2 ^ sz:Nat):Int):=rfl;have hqq:sV b st sz / 2 ^ (sz-1)*2 ^ sz<=16:=by
   have:=qB hq hp4;omega
  rw[c1,ax,aao,oM]at h5;simp only[HT]at hg h5⊢;rw[ah IA,yH,xr,show acc++SA (sV b st sz) sz::yH b sz k (sN b st sz)=acc++([SA (sV b st sz) sz]++yH b sz k (sN b st sz)) from rfl,<-h5,hcf];clear h5 ih;generalize sV b st sz / 2 ^ (sz-1)*2 ^ sz=Q2 at *;generalize sV b st sz / 2 ^ (sz-1)=Q at *;simp(maxSteps:=9^6)(disch:=omega)[↓ac,↓aa,n0,n2,n3,n4,hg,-jH,-sY,w1,w2]
def KE (l:G_)(s:Nat):Bool:=decide (∀c∈l,-((2 ^ (s-1):Nat):Int)<=c∧c<((2 ^ (s-1):Nat):Int))
def tu (b:C_)(x1 x2:Nat)(st:RS):Nat:=sV b (sN b st x1) x2
def zR (b:C_)(x1 x2:Nat)(st:RS):RS:=sN b (sN b st x1) x2
def flD (b:C_)(x1 x2:Nat)(st:RS):Nat:=sV b (zR b x1 x2 st) 1
def Hw (b:C_)(x1 x2:Nat)(st:RS):Nat:=sV b (sN b (zR b x1 x2 st) 1) 1
def QT (b:C_)(x1 x2:Nat)(st:RS):RS:=sN b (sN b (zR b x1 x2 st) 1) 1
def Jw (b:C_)(x1 x2:Nat)(fine:Bool)(st:RS):Nat:=fW fine-Hw b x1 x2 st
def MJ (b:C_)(x1 x2:Nat)(fine:Bool)(st:RS):ct :=
 if tu b x1 x2 st=0 then ⟨sV b st x1,0,false,fine,[]⟩
 else ⟨sV b st x1,tu b x1 x2 st,decide (flD b x1 x2 st=1),fine,yH b (Jw b x1 x2 fine st) (tu b x1 x2 st) (QT b x1 x2 st)⟩
def KM (b:C_)(x1 x2:Nat)(fine:Bool)(st:RS):Bool :=
 if tu b x1 x2 st=0 then false else decide (Hw b x1 x2 st=0) && KE (yH b (Jw b x1 x2 fine st) (tu b x1 x2 st) (QT b x1 x2 st)) (Jw b x1 x2 fine st-1)
def yR (b:C_)(x1 x2:Nat)(fine:Bool)(st:RS):RS :=
 if tu b x1 x2 st=0 then zR b x1 x2 st else xr b (Jw b x1 x2 fine st) (tu b x1 x2 st) (QT b x1 x2 st)
def jN (b:C_)(x1 x2:Nat)(fine:Bool):Nat->Bool->RS->Option (AA_×Bool×RS)
 |0,o,st=>some ([],o,st)
 |k+1,o,st=>if 12<tu b x1 x2 st∧(zR b x1 x2 st).e=0 then none
  else match jN b x1 x2 fine k (o ||KM b x1 x2 fine st) (yR b x1 x2 fine st) with
   |none=>none
   |some q=>some (MJ b x1 x2 fine st::q.1,q.2)
def axo {b:C_}{x1 x2:Nat}{fine:Bool}{st:RS}(hb:b.length<=1000000000)(h:st.fit):(yR b x1 x2 fine st).fit:=by
 unfold yR;split
 .exact gq hb (gq hb h)
 .exact abd hb (gq hb (gq hb (gq hb (gq hb h))))
def azj {b:C_}{st:RS}{s:Int}(h:sV b st s≠0):(sN b st s).e=0:=by
 unfold sV at h
 grind [sN,vO,eO]
abbrev VV (y0 y3 y4:AV)(x1 x2:Nat):Obj:=.cells [y0,A_ x1,A_ x2,y3,y4]
def adi {t:AA_}{f:ct}:fh (t++[f])=fh t++[[.int .i64 f.len,.int .i64 f.order,.bool f.down,.bool f.fine,.lst (aI f.coefs)]]:=by grind [fh]
def ayP (b:C_)(hb:b.length<=1000000000)(y0 y3 y4:AV)(x1 x2:Nat)(hx:x1<=6∧x2<=5)(x6:AV)(fine:Bool)(y32 y33:D)(many:Nat)(hm:many<=3):∀(k j N:Nat) (o:Bool) (st:RS) (acc:AA_),j+k=many->acc.length=j->st.fit->5<=N->
  ∃M,N<=M∧(Dn prog).code (.loop ja) ⟨[(6,x6),(7,.ptr 2 0),(8,.ptr 3 0),(10,RA),(11,.ptr 4 0),(12,B_ o),(13,aE 5 (fh acc)),(15,B_ fine),(32,.d y32),(33,.d y33),(46,A_ many),(47,A_ j)],⟨HT b st [(4,VV y0 y3 y4 x1 x2)],N⟩⟩ =
  match jN b x1 x2 fine k o st with
  |none=>some (.ret,⟨[(6,.nl),(7,.ptr 2 0),(8,.ptr 3 0)],⟨[(0,.cells [.d (.lst (ai b))]),(2,.cells [A_ 0]),(3,.cells [A_ 8])],M⟩⟩)
  |some (l,o2,st2)=>some (.exit 2,⟨[(6,x6),(7,.ptr 2 0),(8,.ptr 3 0),(10,RA),(11,.ptr 4 0),(12,B_ o2),(13,aE 5 (fh (acc++l))),(32,.d y32),(33,.d y33)],⟨HT b st2 [(4,VV y0 y3 y4 x1 x2)],M⟩⟩):=by
 intro k
 induction k with
 |zero =>
  intro j N o st acc h1 h2 h3 hN;refine⟨N,ak _,?_⟩;rw[ah uA,jN];simp only[bh];simp(disch:=omega)[↓aa]
 |succ k ih =>
  intro j N o st acc h1 h2 h3 hN;obtain⟨n0,n2,n3,n4⟩:N≠0∧N≠2∧N≠3∧N≠4:=o_;have f1:=gq (s:=x1) hb h3;have f2:=gq (s:=x2) hb f1;have f3:=gq (s:=1) hb f2;have f4:=gq (s:=1) hb f3;have g1:=λR N=>EP b x1 st R N hb h3
  have g2:=λR N=>EP b x2 (sN b st x1) R N hb f1
  have g3:=λR N=>EP b 1 (sN b (sN b st x1) x2) R N hb f2
  have g4:=λR N=>EP b 1 (sN b (sN b (sN b st x1) x2) 1) R N hb f3
  have v1:=wC (b:=b) (st:=st) (s:=x1);have v2:=wC (b:=b) (st:=sN b st x1) (s:=x2);have v3:=wC (b:=b) (st:=sN b (sN b st x1) x2) (s:=1);have v4:=wC (b:=b) (st:=sN b (sN b (sN b st x1) x2) 1) (s:=1);have k1:2 ^ x1<=2 ^ 6:=aw o_ hx.1;have k2:2 ^ x2<=2 ^ 5:=aw o_ hx.2;have t1:(1:Int).toNat=1:=rfl;simp only[ar,t1]at v1 v2 v3 v4;have hO:tu b x1 x2 st=sV b (sN b st x1) x2:=rfl;have hS:zR b x1 x2 st=sN b (sN b st x1) x2:=rfl;have c1:((j+1:Nat):Int)=(j:Int)+1:=rfl;have hla:=au7 (l:=acc);rw[jN,hO,hS];simp only[HT]at g1 g2 g3 g4;by_cases hbad:12<sV b (sN b st x1) x2∧(sN b (sN b st x1) x2).e=0
  .rw[ac hbad];obtain⟨hb1,hb2⟩:=hbad;have hre:re (sN b (sN b st x1) x2)=0:=hb2;refine⟨N+1,o_,?_⟩;simp only[HT];rw[ah uA];simp(disch:=omega)[↓ac,↓aa,g1,g2,hre]
  .rw[aa hbad];by_cases hO0:sV b (sN b st x1) x2=0
   .have eF:MJ b x1 x2 fine st=⟨sV b st x1,0,false,fine,[]⟩:=by grind [MJ]
    have eX:KM b x1 x2 fine st=false:=by grind [KM]
    have eN:yR b x1 x2 fine st=sN b (sN b st x1) x2:=by grind [yR]
    rw[eF,eX,eN,rO];obtain⟨M,hM,h5⟩:=ih (j+1) (N+1) o (sN b (sN b st x1) x2) (acc++[⟨sV b st x1,0,false,fine,[]⟩]) o_ u_ f2 o_;refine⟨M,o_,?_⟩;have key:(Dn prog).code (.loop ja) ⟨[(6,x6),(7,.ptr 2 0),(8,.ptr 3 0),(10,RA),(11,.ptr 4 0),(12,B_ o),(13,aE 5 (fh acc)),(15,B_ fine),(32,.d y32),(33,.d y33),(46,A_ many),(47,A_ j)],⟨HT b st [(4,VV y0 y3 y4 x1 x2)],N⟩⟩ =
      (Dn prog).code (.loop ja) ⟨[(6,x6),(7,.ptr 2 0),(8,.ptr 3 0),(10,RA),(11,.ptr 4 0),(12,B_ o),(13,aE 5 (fh (acc++[⟨sV b st x1,0,false,fine,[]⟩]))),(15,B_ fine),(32,.d y32),(33,.d y33),(46,A_ many),(47,A_ ((j+1:Nat):Int))],⟨HT b (sN b (sN b st x1) x2) [(4,VV y0 y3 y4 x1 x2)],N+1⟩⟩:=by
     have n00:aI []=[]:=rfl;simp only[HT,c1,adi,oM,n00];clear h5 ih;rw[ah uA];simp(disch:=omega)[↓ac,↓aa,g1,g2,hO0]
    grind
   .have he:(sN b (sN b st x1) x2).e=0:=azj hO0;have hO12:sV b (sN b st x1) x2<=12:=by
     omega
    have hre:re (sN b (sN b st x1) x2)=0:=he;have hw4:3<=fW fine∧fW fine<=4:=by grind [fW]
    have hwide:bq prog El [B_ fine]=some (A_ ((fW fine:Nat):Int)):=by grind [Jm,fW]
    obtain⟨W,hW⟩:∃W,W=sV b (sN b (sN b (sN b st x1) x2) 1) 1:=⟨_,rfl⟩
    obtain⟨Dd,hDd⟩:∃Dd,Dd=sV b (sN b (sN b st x1) x2) 1:=⟨_,rfl⟩
    obtain⟨T4,hT4⟩:∃T4,T4=sN b (sN b (sN b (sN b st x1) x2) 1) 1:=⟨_,rfl⟩
    obtain⟨sz,hsz⟩:∃sz,sz=fW fine-W:=⟨_,rfl⟩
    rw[<-hW]at v4 g4;rw[<-hDd]at v3 g3;rw[<-hT4]at g4 f4;have c00:((0:Nat):Int)=0:=rfl;simp only[hre,c00]at g3;have hszI:((fW fine:Nat):Int)-(W:Int)=(sz:Int):=o_;have hsz1:(sz:Int)-1=((sz-1:Nat):Int):=o_;have hne:tu b x1 x2 st≠0:=o_;have eF:MJ b x1 x2 fine st=⟨sV b st x1,sV b (sN b st x1) x2,decide (Dd=1),fine,yH b sz (sV b (sN b st x1) x2) T4⟩:=by
     grind [MJ,Jw,Hw,QT,flD]
    have eX:KM b x1 x2 fine st=(decide (W=0) && KE (yH b sz (sV b (sN b st x1) x2) T4) (sz-1)):=by
     grind [KM,Jw,Hw,QT]
    have eN:yR b x1 x2 fine st=xr b sz (sV b (sN b st x1) x2) T4:=by
     grind [yR,Jw,Hw,QT]
    have f5:(xr b sz (sV b (sN b st x1) x2) T4).fit:=abd hb f4;have hcl:=abn (b:=b) (sz:=sz) (k:=sV b (sN b st x1) x2) (st:=T4);have hL0:=λa0 a2 y46 y47 N M hN=>awI b hb (VV y0 y3 y4 x1 x2) a0 (A_ (sV b (sN b st x1) x2)) a2 (B_ fine) x6 (aE 5 (fh acc)) (.bool o) (.bool fine) y32 y33 y46 y47 W sz (sV b (sN b st x1) x2) N M o_ o_ hN (sV b (sN b st x1) x2) 0 T4 [] o_ rfl f4
    have n00:aI []=[]:=rfl;have c0:((0:Nat):Int)=0:=rfl;simp only[n00,qU,aK,c0,HT]at hL0;have hDec:decide ((Dd:Int)=1)=decide (Dd=1):=d_;rw[eF,eX,eN];generalize sV b (sN b st x1) x2=O at *;obtain⟨CS,hCS⟩:∃CS,CS=yH b sz O T4:=⟨_,rfl⟩
    rw[<-hCS]at hL0 hcl;rw[<-hCS];obtain⟨M,hM,h5⟩:=ih (j+1) (N+1) (o ||(decide (W=0) && KE CS (sz-1))) (xr b sz O T4) (acc++[⟨sV b st x1,O,decide (Dd=1),fine,CS⟩]) o_ u_ f5 o_;refine⟨M,o_,?_⟩;have hshare:share (aE 1 (aI CS))=.d (.lst (aI CS)):=by
     cases CS with
     |nil=>grind
     |cons x r=>rfl
    have key:(Dn prog).code (.loop ja) ⟨[(6,x6),(7,.ptr 2 0),(8,.ptr 3 0),(10,RA),(11,.ptr 4 0),(12,B_ o),(13,aE 5 (fh acc)),(15,B_ fine),(32,.d y32),(33,.d y33),(46,A_ many),(47,A_ j)],⟨HT b st [(4,VV y0 y3 y4 x1 x2)],N⟩⟩ =
      (Dn prog).code (.loop ja) ⟨[(6,x6),(7,.ptr 2 0),(8,.ptr 3 0),(10,RA),(11,.ptr 4 0),(12,B_ ((o ||(decide (W=0) && KE CS (sz-1))))),(13,aE 5 (fh (acc++[⟨sV b st x1,O,decide (Dd=1),fine,CS⟩]))),(15,B_ fine),(32,.d y32),(33,.d y33),(46,A_ many),(47,A_ ((j+1:Nat):Int))],⟨HT b (xr b sz O T4) [(4,VV y0 y3 y4 x1 x2)],N+1⟩⟩:=by
     simp only[HT,c1,adi,oM];clear h5 ih;have hfit:=LM CS o_ (sz-1) o_;have hfit2:bq prog Hk [.d (.lst (aI CS)),A_ ((sz-1:Nat):Int)]=some (B_ (KE CS (sz-1))):=hfit;rw[ah uA];obtain⟨B1,hB1⟩:∃B1,B1=decide (Dd=1):=⟨_,rfl⟩
     rw[<-hB1]
     cases o with
     |true =>
      by_cases hD1:Dd=1
      .rw[hB1,dT_ hD1];simp(disch:=omega)[↓ac,↓aa,g1,g2,g3,g4,hre,hwide,hszI,hL0]
      .rw[hB1,dF_ hD1];simp(disch:=omega)[↓ac,↓aa,g1,g2,g3,g4,hre,hwide,hszI,hL0]
     |false =>
      by_cases hW0:W=0
      .rw[dT_ hW0];by_cases hD1:Dd=1
       .rw[hB1,dT_ hD1];simp(disch:=omega)[↓ac,↓aa,g1,g2,g3,g4,hre,hwide,hszI,hL0,hshare,hsz1,hfit2]
       .rw[hB1,dF_ hD1];simp(disch:=omega)[↓ac,↓aa,g1,g2,g3,g4,hre,hwide,hszI,hL0,hshare,hsz1,hfit2]
      .rw[dF_ hW0];by_cases hD1:Dd=1
       .rw[hB1,dT_ hD1];simp(disch:=omega)[↓ac,↓aa,g1,g2,g3,g4,hre,hwide,hszI,hL0]
       .rw[hB1,dF_ hD1];simp(disch:=omega)[↓ac,↓aa,g1,g2,g3,g4,hre,hwide,hszI,hL0]
    grind
abbrev oc:=@Bool.true_and
def Tq (b:C_)(x0:Nat)(st:RS):Bool:=decide (0<sV b st x0) && decide (sV b (sN b st x0) 1=1)
def DP (b:C_)(x0:Nat)(st:RS):RS:=if 0<sV b st x0 then sN b (sN b st x0) 1 else sN b st x0
def p9 (b:C_)(x0 x1 x2:Nat):Nat->Bool->RS->Option (O_×Bool×RS)
 |0,o,st=>some ([],o,st)
 |k+1,o,st=>match jN b x1 x2 (Tq b x0 st) (sV b st x0) o (DP b x0 st) with
  |none=>none
  |some q=>match p9 b x0 x1 x2 k q.2.1 q.2.2 with
   |none=>none
   |some w=>some (q.1::w.1,w.2)
def ao5 {t:O_}{l:AA_}:dk (t++[l])=dk t++[[.lst (fh l)]]:=by simp[dk]
def amm {b:C_}{x0:Nat}{st:RS}(hb:b.length<=1000000000)(h:st.fit):(DP b x0 st).fit:=by
 unfold DP;split
 .exact gq hb (gq hb h)
 .exact gq hb h
def WW {b:C_}{x1 x2:Nat}{fine:Bool}(hb:b.length<=1000000000):∀{k:Nat}{o:Bool}{st:RS}{l:AA_}{o2:Bool}{st2:RS},st.fit->jN b x1 x2 fine k o st=some (l,o2,st2)->st2.fit∧l.length=k
 |0,o,st,l,o2,st2,h,e=>by
  rw[jN]at e;injection e with e
  injection e with e1 e
  injection e with e2 e3
  subst e1 e3;exact⟨h,rfl⟩
 |k+1,o,st,l,o2,st2,h,e=>by
  rw[jN]at e;split at e
  .exact absurd e (by simp)
  .cases hq:jN b x1 x2 fine k (o ||KM b x1 x2 fine st) (yR b x1 x2 fine st) with
   |none=>rw[hq]at e;exact absurd e (by simp)
   |some q =>
    obtain⟨q1,q2,q3⟩:=q;rw[hq]at e;injection e with e;injection e with e1 e
    injection e with e2 e3
    obtain⟨i1,i2⟩:=WW hb (axo hb h) hq;subst e1 e3;exact⟨i1,by simp[i2]⟩
def axR (b:C_)(hb:b.length<=1000000000)(y3 y4:AV)(x0 x1 x2:Nat)(hx:x0<=2∧x1<=6∧x2<=5)(many:Nat)(hm:many<=8):∀(k j N:Nat) (o:Bool) (st:RS) (acc:O_),j+k=many->acc.length=j->st.fit->5<=N->
  ∃M,N<=M∧(Dn prog).code (.loop ma) ⟨[(6,aE 1 (dk acc)),(7,.ptr 2 0),(8,.ptr 3 0),(10,RA),(11,.ptr 4 0),(12,B_ o),(32,A_ many),(33,A_ j)],⟨HT b st [(4,VV (A_ x0) y3 y4 x1 x2)],N⟩⟩ =
  match p9 b x0 x1 x2 k o st with
  |none=>some (.ret,⟨[(6,.nl),(7,.ptr 2 0),(8,.ptr 3 0)],⟨[(0,.cells [.d (.lst (ai b))]),(2,.cells [A_ 0]),(3,.cells [A_ 8])],M⟩⟩)
  |some (t,o2,st2)=>some (.exit 0,⟨[(6,aE 1 (dk (acc++t))),(7,.ptr 2 0),(8,.ptr 3 0),(12,B_ o2)],⟨HT b st2 [],M⟩⟩):=by
 intro k
 induction k with
 |zero =>
  intro j N o st acc h1 h2 h3 hN;refine⟨N,ak _,?_⟩;rw[ah AY,p9];simp only[bh];simp(maxSteps:=9^6)(disch:=omega)[↓ac,↓aa]
 |succ k ih =>
  intro j N o st acc h1 h2 h3 hN;have f1:=gq (s:=x0) hb h3;have g1:=λR N=>EP b x0 st R N hb h3
  have g2:=λR N=>EP b 1 (sN b st x0) R N hb f1
  have v1:=wC (b:=b) (st:=st) (s:=x0);have v2:=wC (b:=b) (st:=sN b st x0) (s:=1);have k1:2 ^ x0<=2 ^ 2:=aw o_ hx.1;have t1:(1:Int).toNat=1:=rfl;simp only[ar,t1]at v1 v2;have c1:((j+1:Nat):Int)=(j:Int)+1:=rfl;have c0:((0:Nat):Int)=0:=rfl;have n00:fh []=[]:=rfl;have hla:=ad7 (t:=acc);have hfs:=amm (x0:=x0) hb h3;obtain⟨M1,hM1,hL1⟩:=ayP b hb (A_ x0) y3 y4 x1 x2 hx.2 (aE 1 (dk acc)) (Tq b x0 st) (.int .i64 many) (.int .i64 j) (sV b st x0) o_ (sV b st x0) 0 N o (DP b x0 st) [] o_ rfl hfs hN;have hF:Tq b x0 st=(decide (0<sV b st x0) && decide (sV b (sN b st x0) 1=1)):=rfl;have hS:DP b x0 st=if 0<sV b st x0 then sN b (sN b st x0) 1 else sN b st x0:=rfl
  rw[p9];simp only[HT,c0,n00,qU,aK]at g1 g2 hL1
  cases hfl:jN b x1 x2 (Tq b x0 st) (sV b st x0) o (DP b x0 st) with
  |none =>
   rw[hfl]at hL1;refine⟨M1,hM1,?_⟩;simp only[HT];rw[ah AY];rw[hF,hS]at hL1;by_cases hp:0<sV b st x0
   .rw[ac hp,dT_ hp,oc]at hL1;by_cases hd:sV b (sN b st x0) 1=1
    .rw[dT_ hd]at hL1;simp(maxSteps:=9^6)(disch:=omega)[↓ac,↓aa,g1,g2,hL1]
    .rw[dF_ hd]at hL1;simp(maxSteps:=9^6)(disch:=omega)[↓ac,↓aa,g1,g2,hL1]
   .have h0:sV b st x0=0:=o_;rw[aa hp,dF_ hp,Bool.false_and,h0,c0]at hL1;simp(maxSteps:=9^6)(disch:=omega)[↓ac,↓aa,g1,g2,h0,hL1]
  |some q =>
   obtain⟨l,o2,st2⟩:=q;rw[hfl]at hL1;obtain⟨i1,i2⟩:=WW hb hfs hfl;obtain⟨M,hM,h5⟩:=ih (j+1) M1 o2 st2 (acc++[l]) o_ g_ i1 o_;refine⟨M,o_,?_⟩;have key:(Dn prog).code (.loop ma) ⟨[(6,aE 1 (dk acc)),(7,.ptr 2 0),(8,.ptr 3 0),(10,RA),(11,.ptr 4 0),(12,B_ o),(32,A_ many),(33,A_ j)],⟨HT b st [(4,VV (A_ x0) y3 y4 x1 x2)],N⟩⟩ =
     (Dn prog).code (.loop ma) ⟨[(6,aE 1 (dk (acc++[l]))),(7,.ptr 2 0),(8,.ptr 3 0),(10,RA),(11,.ptr 4 0),(12,B_ o2),(32,A_ many),(33,A_ ((j+1:Nat):Int))],⟨HT b st2 [(4,VV (A_ x0) y3 y4 x1 x2)],M1⟩⟩:=by
    simp only[HT,c1,ao5,oM];clear h5 ih;rw[hF,hS]at hL1;rw[ah AY];by_cases hp:0<sV b st x0
    .rw[ac hp,dT_ hp,oc]at hL1;by_cases hd:sV b (sN b st x0) 1=1
     .rw[dT_ hd]at hL1;simp(maxSteps:=9^6)(disch:=omega)[↓ac,↓aa,g1,g2,hL1]
     .rw[dF_ hd]at hL1;simp(maxSteps:=9^6)(disch:=omega)[↓ac,↓aa,g1,g2,hL1]
    .have h0:sV b st x0=0:=o_;rw[aa hp,dF_ hp,Bool.false_and,h0,c0]at hL1;simp(maxSteps:=9^6)(disch:=omega)[↓ac,↓aa,g1,g2,h0,hL1]
   rw[key,h5];simp only
   cases p9 b x0 x1 x2 k o2 st2 with
   |none=>rfl
   |some w =>
    obtain⟨t,o3,st3⟩:=w;simp only[ax,aS,aK]
attribute [simp ↓ high] atn awM
def roC:AV->Bool
 |.d _=>true
 |.nl=>true
 |.own _ _ _=>true
 |_=>false
@[simp] def aJs {x:D}:roC (.d x)=true:=rfl
abbrev cH:=@List.eq_of_mem_replicate
def Og:∀(b:C_),vA (ai b)=some (b.map Nat.toUInt8)
 |[]=>rfl
 |n::r=>by
  have h:ai (n::r)=[.int .u8 (.ofNat n)]::ai r:=rfl;rw[h,vA,Og r,bL]
@[simp] def anK {h:am}{b:C_}:Dq h (.d (.lst (ai b)))=some (.str (b.map Nat.toUInt8)):=by
 simp only[Dq,aqP,Og]
def c0:cQ:=⟨0,⟨0,0,0,[1]⟩,[[]],[[]],[[]],List.replicate 256 0⟩
def arT:c0.Fit where
 gain:=k_
 info:=⟨k_,k_,k_,k_,by intro n hn;simp[c0]at hn;subst hn;decide⟩
 sects:=⟨by simp[c0],by simp[c0]⟩
 secI:=by simp[c0]
 steps:=⟨by simp[c0],by simp[c0]⟩
 stepI:=by simp[c0]
 tns:=⟨by simp[c0],by simp[c0]⟩
 fltI:=by simp[c0]
 lines:=by simp[c0]
 lineI:=by
  intro n hn;have:=cH hn;omega
def ajC:bq prog jL [A_ 0,.agg c0.av]=some (A_ 0):=BP 400 (by kernel_rfl)
def agH {r:Nat}{c:cQ}(hc:c.Fit)(h:nG r c)(hR:r<=11)(q:Bool):(C9 r c q).length<=170000000:=by
 have hm11:=gR hR h.info;have hmx:=ka hm11;obtain⟨g1,g2⟩:=d8 hm11;have hmm:c.info.many<=8:=by unfold aO.many;split<;>omega
 have hgl:c.info.groups.length<=8:=by have:=mT (λn hn=>(g1 n hn).1);omega
 have hgs:c.sects.length<=8:=by have:=h.sects.1;omega
 have k1:=Ko (i:=c.info);have k2:=ael hm11 h.sects;have k3:=SE hmx h.sects.2 h.steps;have k4:(jJ c.info.short c.tns).length<=1000*c.tns.length:=J3 λl hl=>abR (h.tns.2 l hl)
 have k5:=ZC hc h hR;have htl:=h.tns.1;have e1:(if q then [] else lH c.info).length<=20:=by split<;>(try simp only[bt])<;>omega
 have e2:(if pf c.tns then 0::1::(jJ c.info.short c.tns++[0]) else [0,0,0]).length<=10000:=by split<;>simp<;>omega
 unfold C9;simp only[aj,cM];omega
abbrev cQ.cells (c:cQ):W_:=[.int .i64 c.gain,.int .u8 c.info.seq,.int .u8 c.info.shape,.int .i64 c.info.max,.lst (aI c.info.groups),.lst (bO c.sects),.lst (dj c.steps),.lst (dk c.tns),.lst (aI c.lines)]
def eq (l:BA_):E_:=l.map cQ.cells
@[simp] def Jt {l:BA_}:(eq l).length=l.length:=by simp[eq]
def EA {g:BA_}{i:Nat}{c:cQ}{r:BA_}(h:g.drop i=c::r):(eq g)[i]?=some [.int .i64 c.gain,.int .u8 c.info.seq,.int .u8 c.info.shape,.int .i64 c.info.max,.lst (aI c.info.groups),.lst (bO c.sects),.lst (dj c.steps),.lst (dk c.tns),.lst (aI c.lines)]:=by
 have:=aP (λl=>l[0]?) h;simp only[ck,ej,ca]at this;rw[eq,b9,this];rfl
def aq9 {g:BA_}{c:cQ}:eq (g++[c])=eq g++[[.int .i64 c.gain,.int .u8 c.info.seq,.int .u8 c.info.shape,.int .i64 c.info.max,.lst (aI c.info.groups),.lst (bO c.sects),.lst (dj c.steps),.lst (dk c.tns),.lst (aI c.lines)]]:=by simp[eq]
def iD (l:V_):E_:=l.map λb=>[.bool b]
@[simp] def xV {l:V_}:(iD l).length=l.length:=by simp[iD]
def aym {g:V_}{i:Nat}{c:Bool}{r:V_}(h:g.drop i=c::r):(iD g)[i]?=some [.bool c]:=by
 have:=aP (λl=>l[0]?) h;simp only[ck,ej,ca]at this;rw[iD,b9,this];rfl
@[simp] def aHx {l:V_}:gB 1 (iD l)=true:=TG
def ay6 {a b:V_}:iD (a++b)=iD a++iD b:=by simp[iD]
def eh (t:T_):E_:=t.map λl=>[.lst (iD l)]
@[simp] def N7 {t:T_}:(eh t).length=t.length:=by simp[eh]
def D1 {g:T_}{i:Nat}{l:V_}{r:T_}(h:g.drop i=l::r):(eh g)[i]?=some [.lst (iD l)]:=by
 have:=aP (λl=>l[0]?) h;simp only[ck,ej,ca]at this;rw[eh,b9,this];rfl
def arS {t:T_}{l:V_}:eh (t++[l])=eh t++[[.lst (iD l)]]:=by simp[eh]
structure fJ where
 chans:BA_
 common:Bool
 mask:Int
 bands:T_
 fill:C_
structure fJ.Fit (f:fJ):Prop where
 chans:f.chans.length<=1000∧∀c∈f.chans,c.Fit
 mask:i64 f.mask
 bands:f.bands.length<=1000∧∀l∈f.bands,l.length<=1000
 fill:f.fill.length<=100000
 fillI:∀n∈f.fill,n<=255
abbrev fJ.av (f:fJ):D_:=[.d (.lst (eq f.chans)),B_ f.common,A_ f.mask,.d (.lst (eh f.bands)),.d (.lst (ai f.fill))]
structure ajF (f:fJ):Prop where
 chans:f.chans.length<=10∧∀c∈f.chans,afX c
 bands:f.bands.length<=40∧∀l∈f.bands,l.length<=200
 fill:f.fill.length<=2000
def anD (f:fJ):∀(r:BA_) (i:Nat),f.chans.drop i=r->i<=10->
  ((i+r.length<=10->∀c∈r,afX c)∧(Dn prog).code (.loop iW) ⟨[(1,.ptr 0 0),(3,A_ i)],⟨[(0,.cells f.av)],1⟩⟩=some (.exit 0,⟨[(1,.ptr 0 0)],⟨[(0,.cells f.av)],1⟩⟩))∨
  (Dn prog).code (.loop iW) ⟨[(1,.ptr 0 0),(3,A_ i)],⟨[(0,.cells f.av)],1⟩⟩=some (.ret,⟨[(2,B_ true)],⟨[],1⟩⟩):=by
 intro r
 induction r with
 |nil =>
  intro i hd h10;have hi:=bv hd;refine .inl ⟨s_,?_⟩;rw[ah iM];simp(maxSteps:=9^6)(disch:=omega)[↓aa]
 |cons c r ih =>
  intro i hd h10;have hg:=EA hd;have hlt:=bV hd;by_cases hi:i<10
  .have ih1:=ih (i+1) (bK hd) o_;rw[show((i+1:Nat):Int)=(i:Int)+1 from rfl]at ih1;rcases aCu c with ⟨hs,hG⟩|hG
   .simp only[cQ.av]at hG;rcases ih1 with ⟨ha,e⟩|e
    .refine .inl ⟨λh q hq=>?_,?_⟩
     .rcases ay.1 hq with rfl|hq
      .exact hs
      .exact ha (by simp only[aq]at h;omega) q hq
     .rw[ah iM];simp(maxSteps:=9^6)(disch:=omega)[↓ac,↓aa,hg,hG,e]
    .refine .inr ?_;rw[ah iM];simp(maxSteps:=9^6)(disch:=omega)[↓ac,↓aa,hg,hG,e]
   .simp only[cQ.av]at hG;refine .inr ?_;rw[ah iM];simp(maxSteps:=9^6)(disch:=omega)[↓ac,↓aa,hg,hG]
  .refine .inl ⟨λh=>by simp only[aq]at h;omega,?_⟩;rw[ah iM];simp(maxSteps:=9^6)(disch:=omega)[↓ac,↓aa]
def aok (f:fJ):∀(r:T_) (i:Nat),f.bands.drop i=r->i<=40->
  ((i+r.length<=40->∀l∈r,l.length<=200)∧(Dn prog).code (.loop i9) ⟨[(1,.ptr 0 0),(4,A_ i)],⟨[(0,.cells f.av)],1⟩⟩=some (.exit 2,⟨[(1,.ptr 0 0)],⟨[(0,.cells f.av)],1⟩⟩))∨
  (Dn prog).code (.loop i9) ⟨[(1,.ptr 0 0),(4,A_ i)],⟨[(0,.cells f.av)],1⟩⟩=some (.ret,⟨[(2,B_ true)],⟨[],1⟩⟩):=by
 intro r
 induction r with
 |nil =>
  intro i hd h10;have hi:=bv hd;refine .inl ⟨s_,?_⟩;rw[ah iS];simp(maxSteps:=9^6)(disch:=omega)[↓aa]
 |cons l r ih =>
  intro i hd h10;have hg:=D1 hd;have hlt:=bV hd;by_cases hi:i<40
  .have ih1:=ih (i+1) (bK hd) o_;rw[show((i+1:Nat):Int)=(i:Int)+1 from rfl]at ih1;by_cases hn:l.length<=200
   .rcases ih1 with ⟨ha,e⟩|e
    .refine .inl ⟨λh q hq=>?_,?_⟩
     .rcases ay.1 hq with rfl|hq
      .exact hn
      .exact ha (by simp only[aq]at h;omega) q hq
     .rw[ah iS];simp(maxSteps:=9^6)(disch:=omega)[↓ac,↓aa,hg,e]
    .refine .inr ?_;rw[ah iS];simp(maxSteps:=9^6)(disch:=omega)[↓ac,↓aa,hg,e]
   .refine .inr ?_;rw[ah iS];simp(maxSteps:=9^6)(disch:=omega)[↓ac,↓aa,hg]
  .refine .inl ⟨λh=>by simp only[aq]at h;omega,?_⟩;rw[ah iS];simp(maxSteps:=9^6)(disch:=omega)[↓ac,↓aa]
def awZ (f:fJ):(ajF f∧bq prog tc [.agg f.av]=some (B_ false))∨bq prog tc [.agg f.av]=some (B_ true):=by
 have h0:=anD f f.chans 0 rfl o_;have h1:=aok f f.bands 0 rfl o_;have c0:((0:Nat):Int)=0:=rfl;rw[c0]at h0 h1;simp only[fJ.av,bn]at h0 h1⊢;rw[aG MC MQ rfl];rcases h0 with ⟨a0,e0⟩|e0
 .rcases h1 with ⟨a1,e1⟩|e1
  .by_cases hc:f.chans.length<=10
   .by_cases hb:f.bands.length<=40
    .by_cases hx:f.fill.length<=2000
     .refine .inl ⟨⟨⟨hc,a0 hc⟩,⟨hb,a1 hb⟩,hx⟩,?_⟩;simp(maxSteps:=9^6)(disch:=omega)[↓ac,↓aa,e0,e1]
     .refine .inr ?_;simp(maxSteps:=9^6)(disch:=omega)[↓ac,↓aa,e0,e1]
    .refine .inr ?_;simp(maxSteps:=9^6)(disch:=omega)[↓ac,↓aa,e0,e1]
   .refine .inr ?_;simp(maxSteps:=9^6)(disch:=omega)[↓ac,↓aa,e0,e1]
  .refine .inr ?_;simp(maxSteps:=9^6)(disch:=omega)[↓ac,↓aa,e0,e1]
 .refine .inr ?_;simp(maxSteps:=9^6)(disch:=omega)[↓ac,↓aa,e0]
def Au (i j:aO):Prop:=(i.seq=j.seq∧i.shape=j.shape)∧i.max=j.max∧i.groups=j.groups
instance {i j:aO}:Decidable (Au i j):=inferInstanceAs (Decidable (_∧_))
def aqR (i j:aO)(hi:i.Fit)(hj:j.Fit):bq prog Vu [.agg i.cells,.agg j.cells]=some (B_ (decide (Au i j))):=by
 have he:=Rj i.groups j.groups (by have:=hi.len;omega) (by have:=hj.len;omega);simp only[aO.cells];rw[aG akK akm rfl];by_cases h1:i.seq=j.seq
 .by_cases h2:i.shape=j.shape
  .by_cases h3:i.max=j.max
   .by_cases h4:i.groups=j.groups
    .rw[ac h4]at he;rw[dT_ (show Au i j from ⟨⟨h1,h2⟩,h3,h4⟩)];simp(maxSteps:=9^6)(disch:=omega)[↓ac,↓aa,he]
    .rw[aa h4]at he;rw[dF_ (λh:Au i j=>h4 h.2.2)];simp(maxSteps:=9^6)(disch:=omega)[↓ac,↓aa,he]
   .rw[dF_ (λh:Au i j=>h3 h.2.1)];simp(maxSteps:=9^6)(disch:=omega)[↓ac,↓aa]
  .rw[dF_ (λh:Au i j=>h2 h.1.2)];simp(maxSteps:=9^6)(disch:=omega)[↓ac,↓aa]
 .rw[dF_ (λh:Au i j=>h1 h.1.1)];simp(maxSteps:=9^6)(disch:=omega)[↓ac,↓aa]
def Ma (rt:Int)(c:cQ):Bool:=match bq prog jL [A_ rt,.agg c.av] with
 |some (.d (.int _ n))=>n != 0
 |_=>true
def Xe (rt:Int)(hr:ep rt)(c:cQ)(hc:c.Fit):∃n:Int,bq prog jL [A_ rt,.agg c.av]=some (A_ n)∧Ma rt c=(n != 0)∧(Ma rt c=false↔nG rt.toNat c):=by
 rcases Pu rt c hc with ⟨_,h,hC⟩|⟨_,h,hC⟩|⟨h,_⟩
 .refine⟨0,hC,by rw[Ma,hC],?_⟩;rw[Ma,hC];simp[h]
 .refine⟨8,hC,by rw[Ma,hC],?_⟩;rw[Ma,hC];simp[h]
 .exact absurd hr h
def axc (rt:Int)(hr:ep rt)(a1 a2 a3:AV)(c:cQ)(hc:c.Fit)(H:am)(M:Nat)(hp:get H 0=some (.cells [A_ rt,a1,a2,a3]))(hM:Lt H M) :
  (Dn prog).call GU [.agg c.av,.ptr 0 0] ⟨H,M⟩=some (B_ (Ma rt c),⟨H,M+1⟩):=by
 have e1:=λo=>vI (o:=o) hM
 have e2:=λo=>yD (o:=o) hM
 have e3:=λo=>A9 (N:=M) (o:=o) hp
 have e5:=λo=>M5 (o:=o) hM
 have e6:=λo o'=>Ik (o:=o) (o':=o') hM
 obtain⟨n,hC,hB,_⟩:=Xe rt hr c hc;rw[hB];simp only[cQ.av]at hC⊢;rw[be afq afd rfl];by_cases hn:n=0
 .subst hn;simp(maxSteps:=9^6)(disch:=omega)[↓ac,↓aa,e1,e2,e3,e5,e6,hC]
 .simp(maxSteps:=9^6)(disch:=omega)[↓ac,↓aa,e1,e2,e3,e5,e6,hC,hn]
def ac5 (F:AV)(P:cQ->Bool)(l:BA_)(hl:l.length<=1000000000)(h:am)(N0:Nat)(hF:firm (share F)=F)(hc:∀f∈l,∀N,N0<=N->cA (Dn prog) F [.agg f.av] ⟨h,N⟩=some (B_ (P f),⟨h,N+1⟩)):∀(r:BA_) (i N:Nat),l.drop i=r->N0<=N->
  (r.any P=true∧∃k M:Nat,N<=M∧(Dn prog).code (.loop gu) ⟨[(0,.d (.lst (eq l))),(1,F),(7,A_ l.length),(8,A_ i)],⟨h,N⟩⟩=some (.ret,⟨[(4,A_ k)],⟨h,M⟩⟩))∨
  (r.any P=false∧∃M,N<=M∧(Dn prog).code (.loop gu) ⟨[(0,.d (.lst (eq l))),(1,F),(7,A_ l.length),(8,A_ i)],⟨h,N⟩⟩=some (.exit 0,⟨[],⟨h,M⟩⟩)):=by
 intro r
 induction r with
 |nil =>
  intro i N hd hN;have hi:=bv hd;refine .inr ⟨rfl,N,ak _,?_⟩;rw[ah jC];simp(maxSteps:=9^6)(disch:=omega)[↓aa]
 |cons v r ih =>
  intro i N hd hN;have hg:=EA hd;have hlt:=bV hd;have hv:=hc v (by rw[<-aX i l,hd];simp) N hN;have h5:=ih (i+1) (N+1) (bK hd) o_;have c1:((i+1:Nat):Int)=(i:Int)+1:=rfl;rw[c1]at h5
  cases hp:P v with
  |true =>
   rw[hp]at hv;refine .inl ⟨by rw[fD,hp];rfl,i,N+1,o_,?_⟩;rw[ah jC];simp(maxSteps:=9^6)(disch:=omega)[↓ac,↓aa,hg,hF,hv]
  |false =>
   rw[hp]at hv;rw[fD,hp,nT];rcases h5 with ⟨e1,k,M,e3,e2⟩|⟨e1,M,e3,e2⟩
   .refine .inl ⟨e1,k,M,o_,?_⟩;rw[ah jC,<-e2];simp(maxSteps:=9^6)(disch:=omega)[↓ac,↓aa,hg,hF,hv]
   .refine .inr ⟨e1,M,o_,?_⟩;rw[ah jC,<-e2];simp(maxSteps:=9^6)(disch:=omega)[↓ac,↓aa,hg,hF,hv]
def abZ (F:AV)(P:cQ->Bool)(l:BA_)(hl:l.length<=1000000000)(h:am)(N:Nat)(hF:firm (share F)=F)(hF2:firm F=F)(hc:∀f∈l,∀M,N<=M->cA (Dn prog) F [.agg f.av] ⟨h,M⟩=some (B_ (P f),⟨h,M+1⟩)) :
  ∃M,N<=M∧(Dn prog).call tP [.d (.lst (eq l)),F] ⟨h,N⟩=some (B_ (l.any P),⟨h,M⟩):=by
 have h1:=ac5 F P l hl h N hF hc l 0 N rfl (ak _);have c0:((0:Nat):Int)=0:=rfl;rw[c0]at h1;have h2:∃(k:Int) (M:Nat),N<=M∧(0<=k↔l.any P=true)∧(Dn prog).call xq [.d (.lst (eq l)),F] ⟨h,N⟩=some (A_ k,⟨h,M⟩):=by
  rcases h1 with ⟨e1,k,M,e3,e2⟩|⟨e1,M,e3,e2⟩
  .refine⟨k,M,e3,⟨λ_=>e1,λ_=>by omega⟩,?_⟩;rw[be wY xp rfl];simp(maxSteps:=9^6)(disch:=omega)[e2]
  .refine⟨-1,M,e3,⟨λh=>by omega,λh=>by rw[e1]at h;exact absurd h s_⟩,?_⟩;rw[be wY xp rfl];simp(maxSteps:=9^6)(disch:=omega)[e2]
 obtain⟨k,M,e3,e1,e2⟩:=h2;refine⟨M,e3,?_⟩;rw[be FN FM rfl]
 cases hp:l.any P with
 |true =>
  have:=e1.2 hp;simp(maxSteps:=9^6)(disch:=omega)[↓ac,hF2,e2]
 |false =>
  have:¬0<=k:=λh=>by rw[e1.1 h]at hp;exact absurd hp (by simp)
  simp(maxSteps:=9^6)(disch:=omega)[↓aa,hF2,e2]
def abF (F:AV)(P:(V_)->Bool)(l:T_)(hl:l.length<=1000000000)(h:am)(N0:Nat)(hF:firm (share F)=F)(hc:∀f∈l,∀N,N0<=N->cA (Dn prog) F [.d (.lst (iD f))] ⟨h,N⟩=some (B_ (P f),⟨h,N⟩)):∀(r:T_) (i N:Nat),l.drop i=r->N0<=N->
  (r.any P=true∧∃k M:Nat,N<=M∧(Dn prog).code (.loop gh) ⟨[(0,.d (.lst (eh l))),(1,F),(7,A_ l.length),(8,A_ i)],⟨h,N⟩⟩=some (.ret,⟨[(4,A_ k)],⟨h,M⟩⟩))∨
  (r.any P=false∧∃M,N<=M∧(Dn prog).code (.loop gh) ⟨[(0,.d (.lst (eh l))),(1,F),(7,A_ l.length),(8,A_ i)],⟨h,N⟩⟩=some (.exit 0,⟨[],⟨h,M⟩⟩)):=by
 intro r
 induction r with
 |nil =>
  intro i N hd hN;have hi:=bv hd;refine .inr ⟨rfl,N,ak _,?_⟩;rw[ah jc];simp(maxSteps:=9^6)(disch:=omega)[↓aa]
 |cons v r ih =>
  intro i N hd hN;have hg:=D1 hd;have hlt:=bV hd;have hv:=hc v (by rw[<-aX i l,hd];simp) N hN;have h5:=ih (i+1) N (bK hd) o_;have c1:((i+1:Nat):Int)=(i:Int)+1:=rfl;rw[c1]at h5
  cases hp:P v with
  |true =>
   rw[hp]at hv;refine .inl ⟨by rw[fD,hp];rfl,i,N,o_,?_⟩;rw[ah jc];simp(maxSteps:=9^6)(disch:=omega)[↓ac,↓aa,hg,hF,hv]
  |false =>
   rw[hp]at hv;rw[fD,hp,nT];rcases h5 with ⟨e1,k,M,e3,e2⟩|⟨e1,M,e3,e2⟩
   .refine .inl ⟨e1,k,M,o_,?_⟩;rw[ah jc,<-e2];simp(maxSteps:=9^6)(disch:=omega)[↓ac,↓aa,hg,hF,hv]
   .refine .inr ⟨e1,M,o_,?_⟩;rw[ah jc,<-e2];simp(maxSteps:=9^6)(disch:=omega)[↓ac,↓aa,hg,hF,hv]
def abw (F:AV)(P:(V_)->Bool)(l:T_)(hl:l.length<=1000000000)(h:am)(N:Nat)(hF:firm (share F)=F)(hF2:firm F=F)(hc:∀f∈l,∀M,N<=M->cA (Dn prog) F [.d (.lst (iD f))] ⟨h,M⟩=some (B_ (P f),⟨h,M⟩)) :
  ∃M,N<=M∧(Dn prog).call sD [.d (.lst (eh l)),F] ⟨h,N⟩=some (B_ (l.any P),⟨h,M⟩):=by
 have h1:=abF F P l hl h N hF hc l 0 N rfl (ak _);have c0:((0:Nat):Int)=0:=rfl;rw[c0]at h1;have h2:∃(k:Int) (M:Nat),N<=M∧(0<=k↔l.any P=true)∧(Dn prog).call v8 [.d (.lst (eh l)),F] ⟨h,N⟩=some (A_ k,⟨h,M⟩):=by
  rcases h1 with ⟨e1,k,M,e3,e2⟩|⟨e1,M,e3,e2⟩
  .refine⟨k,M,e3,⟨λ_=>e1,λ_=>by omega⟩,?_⟩;rw[be ww wp rfl];simp(maxSteps:=9^6)(disch:=omega)[e2]
  .refine⟨-1,M,e3,⟨λh=>by omega,λh=>by rw[e1]at h;exact absurd h s_⟩,?_⟩;rw[be ww wp rfl];simp(maxSteps:=9^6)(disch:=omega)[e2]
 obtain⟨k,M,e3,e1,e2⟩:=h2;refine⟨M,e3,?_⟩;rw[be EL Eg rfl]
 cases hp:l.any P with
 |true =>
  have:=e1.2 hp;simp(maxSteps:=9^6)(disch:=omega)[↓ac,hF2,e2]
 |false =>
  have:¬0<=k:=λh=>by rw[e1.1 h]at hp;exact absurd hp (by simp)
  simp(maxSteps:=9^6)(disch:=omega)[↓aa,hF2,e2]
def axl (i:aO)(l:V_)(hl:l.length<=1000000)(H:am)(K N:Nat)(hp:get H K=some (.cells i.cells)):(Dn prog).call Hn [.d (.lst (iD l)),.ptr K 0] ⟨H,N⟩=some (B_ ((decide ((l.length:Int)≠i.max))),⟨H,N⟩):=by
 have hb:=xV (l:=l);rw[be aeP ae3 rfl];by_cases h:(l.length:Int)=i.max
 .simp(maxSteps:=9^6)(disch:=omega)[hp,h]
 .simp(maxSteps:=9^6)(disch:=omega)[hp,h]
abbrev mX:=@List.any_eq_false
def fy (x:AV)(l:E_):Prop:=x=.d (.lst l)∨x=.nl∧l=[]
theorem fy.d {l:E_}:fy (.d (.lst l)) l:=.inl rfl
def fy.facts {x:AV}{l:E_}(h:fy x l):(share x=x∧firm x=x∧AV.cells x=[x])∧bl x=true∧lenOf x=some l.length:=by
 rcases h with rfl|⟨rfl,rfl⟩<;>exact⟨⟨rfl,rfl,rfl⟩,rfl,rfl⟩
def fy.ne {x:AV}{l:E_}(h:fy x l)(hl:l≠[]):x=.d (.lst l):=by
 rcases h with h|⟨_,h⟩
 .exact h
 .exact absurd h hl
def I9 (f:fJ):BA_->Prop
 |[]=>False
 |c::r=>if f.common then (∃d∈r.head?,Au c.info d.info)∧(if f.mask=1 then f.bands.length=c.info.groups.length∧∀l∈f.bands,(l.length:Int)=c.info.max else f.bands=[]) else f.mask=0∧f.bands=[]
structure tw (rt:Nat)(n:Int)(f:fJ):Prop where
 len:(f.chans.length:Int)=n
 fill:f.fill.length<=269
 mask:0<=f.mask∧f.mask<=2
 may:∀c∈f.chans,nG rt c
 rest:I9 f f.chans
abbrev lO (rt n:Int)(b:Bool)(z:Int):AV:=.agg [A_ rt,A_ n,B_ b,A_ z]
abbrev pO (f:fJ)(X Y Z:AV):AV:=.agg [X,B_ f.common,A_ f.mask,Y,Z]
def aqe (rt n:Int)(cb:Bool)(cz:Int)(hr:ep rt)(hn:n=1∨n=2)(f:fJ)(hf:f.Fit)(X Y Z:AV)(hX:fy X (eq f.chans))(hY:fy Y (eh f.bands))(hZ:fy Z (ai f.fill)) :
  (tw rt.toNat n f∧bq prog Mj [lO rt n cb cz,pO f X Y Z]=some (B_ true))∨(¬tw rt.toNat n f∧bq prog Mj [lO rt n cb cz,pO f X Y Z]=some (B_ false)):=by
 obtain⟨⟨x1,x2,x3⟩,x4,x5⟩:=hX.facts;obtain⟨⟨y1,y2,y3⟩,y4,y5⟩:=hY.facts;obtain⟨⟨z1,z2,z3⟩,z4,z5⟩:=hZ.facts;have xl:=Jt (l:=f.chans);have yl:=N7 (t:=f.bands);have zl:=bB (l:=f.fill);have hcl:=hf.chans.1;have hbl:=hf.bands.1;have hfl:=hf.fill;rw[aG akT akg rfl];by_cases h1:(f.chans.length:Int)=n
 rotate_left
 .refine .inr ⟨λh=>h1 h.len,?_⟩;simp(maxSteps:=9^6)(disch:=omega)[↓ac,↓aa,-bl,x1,x2,x3,x4,x5,y1,y2,y3,y4,y5,z1,z2,z3,z4,z5]
 by_cases h2:f.fill.length<=269
 rotate_left
 .refine .inr ⟨λh=>h2 h.fill,?_⟩;simp(maxSteps:=9^6)(disch:=omega)[↓ac,↓aa,-bl,x1,x2,x3,x4,x5,y1,y2,y3,y4,y5,z1,z2,z3,z4,z5]
 by_cases h3:0<=f.mask
 rotate_left
 .refine .inr ⟨λh=>h3 h.mask.1,?_⟩;simp(maxSteps:=9^6)(disch:=omega)[↓ac,↓aa,-bl,x1,x2,x3,x4,x5,y1,y2,y3,y4,y5,z1,z2,z3,z4,z5]
 by_cases h4:f.mask<=2
 rotate_left
 .refine .inr ⟨λh=>h4 h.mask.2,?_⟩;simp(maxSteps:=9^6)(disch:=omega)[↓ac,↓aa,-bl,x1,x2,x3,x4,x5,y1,y2,y3,y4,y5,z1,z2,z3,z4,z5]
 have hne:eq f.chans≠[]:=λh=>by have:=aP List.length h;rw[Jt,bt]at this;omega
 have hxe:=hX.ne hne;subst hxe;obtain⟨M,hM,e1⟩:=abZ (.fn GU [] [.ptr 0 0]) (Ma rt) f.chans o_ [(0,.cells [A_ rt,A_ n,B_ cb,A_ cz]),(1,.cells [.d (.lst (eq f.chans)),B_ f.common,A_ f.mask,Y,Z])] 2 rfl rfl λc hc M hM=>by
  have:=axc rt hr (A_ n) (B_ cb) (A_ cz) c (hf.chans.2 c hc) [(0,.cells [A_ rt,A_ n,B_ cb,A_ cz]),(1,.cells [.d (.lst (eq f.chans)),B_ f.common,A_ f.mask,Y,Z])] M s_ (by
   intro p hp;simp only[ay,b8,eg]at hp;rcases hp with rfl|rfl<;>simp only[]<;>omega)
  simpa using this
 have hbad:f.chans.any (Ma rt)=false↔∀c∈f.chans,nG rt.toNat c:=by
  rw[mX];constructor
  .intro h c hc;obtain⟨_,_,_,hb⟩:=Xe rt hr c (hf.chans.2 c hc);exact hb.1 (by simpa using h c hc)
  .intro h c hc;obtain⟨_,_,_,hb⟩:=Xe rt hr c (hf.chans.2 c hc);rw[hb.2 (h c hc)];simp
 cases hB:f.chans.any (Ma rt) with
 |true =>
  rw[hB]at e1;refine .inr ⟨λh=>by rw[hbad.2 h.may]at hB;exact absurd hB s_,?_⟩;simp(maxSteps:=9^6)(disch:=omega)[↓ac,↓aa,-bl,x5,y1,y2,y3,y4,y5,z1,z2,z3,z4,z5,e1]
 |false =>
  rw[hB]at e1;have hmay:=hbad.1 hB
  cases hch:f.chans with
  |nil=>rw[hch]at h1;simp at h1;omega
  |cons c r =>
   have hdr:f.chans.drop 0=c::r:=hch;obtain⟨k0,g0⟩:=aJ.1 (EA hdr);have hci:=(hf.chans.2 c (by rw[hch];exact .head _)).info;have hfin:tw rt.toNat n f↔I9 f (c::r):=⟨λh=>by rw[<-hch];exact h.rest,λh=>⟨h1,h2,⟨h3,h4⟩,hmay,by rw[hch];exact h⟩⟩
   rw[<-hch]
   cases hcm:f.common with
   |false =>
    have hT:I9 f (c::r)↔f.mask=0∧f.bands=[]:=by simp only[I9,hcm,ao,bm]
    rw[hcm]at e1;by_cases h5:f.mask=0
    .by_cases h6:f.bands.length=0
     .refine .inl ⟨hfin.2 (hT.2 ⟨h5,aB h6⟩),?_⟩;simp(maxSteps:=9^6)(disch:=omega)[↓ac,↓aa,-bl,hcm,x5,y1,y2,y3,y4,y5,z1,z2,z3,z4,z5,e1,g0]
     .refine .inr ⟨λh=>h6 (by rw[(hT.1 (hfin.1 h)).2];rfl),?_⟩;simp(maxSteps:=9^6)(disch:=omega)[↓ac,↓aa,-bl,hcm,x5,y1,y2,y3,y4,y5,z1,z2,z3,z4,z5,e1,g0]
    .refine .inr ⟨λh=>h5 (hT.1 (hfin.1 h)).1,?_⟩;simp(maxSteps:=9^6)(disch:=omega)[↓ac,↓aa,-bl,hcm,x5,y1,y2,y3,y4,y5,z1,z2,z3,z4,z5,e1,g0]
   |true =>
    rw[hcm]at e1;have hT:I9 f (c::r)↔(∃d∈r.head?,Au c.info d.info)∧(if f.mask=1 then f.bands.length=c.info.groups.length∧∀l∈f.bands,(l.length:Int)=c.info.max else f.bands=[]):=by simp only[I9,hcm,bj]
    rcases hn with rfl|rfl
    .have hr0:r=[]:=aB (by rw[hch]at h1;simp only[aq]at h1;omega);refine .inr ⟨λh=>?_,?_⟩
     .obtain⟨⟨d,hd,_⟩,_⟩:=hT.1 (hfin.1 h);rw[hr0]at hd;simp at hd
     .simp(maxSteps:=9^6)(disch:=omega)[↓ac,↓aa,-bl,hcm,x5,y1,y2,y3,y4,y5,z1,z2,z3,z4,z5,e1,g0]
    .cases r with
     |nil=>rw[hch]at h1;simp at h1
     |cons d r2 =>
      obtain⟨k1,g1⟩:=aJ.1 (EA (bK hdr));have hsm:=aqR c.info d.info hci (hf.chans.2 d (by rw[hch];exact .tail _ (.head _))).info;simp only[aO.cells]at hsm;have hm0:=hmay c (by rw[hch];exact .head _);obtain⟨q1,q2⟩:=d8 (gR (r:=rt.toNat) o_ hm0.info);have hmm:1<=c.info.many:=by unfold aO.many;split<;>omega
      have hgn:c.info.groups.length≠0:=λh=>by rw[aB h]at q2;simp at q2;omega
      have hgi:=iR (l:=c.info.groups);have hg8:c.info.groups.length<=1000:=hci.len;by_cases hs:Au c.info d.info
      rotate_left
      .rw[dF_ hs]at hsm;refine .inr ⟨λh=>?_,?_⟩
       .obtain⟨⟨d',hd',hss⟩,_⟩:=hT.1 (hfin.1 h);simp only[List.head?_cons,Option.mem_def,ae]at hd';subst hd';exact hs hss
       .simp(maxSteps:=9^6)(disch:=omega)[↓ac,↓aa,-bl,hcm,x5,y1,y2,y3,y4,y5,z1,z2,z3,z4,z5,e1,g0,g1,hsm]
      rw[dT_ hs]at hsm;have hhd:∃d'∈(d::r2).head?,Au c.info d'.info:=⟨d,s_,hs⟩
      by_cases h5:f.mask=1
      rotate_left
      .rw[aa h5]at hT;by_cases h6:f.bands.length=0
       .refine .inl ⟨hfin.2 (hT.2 ⟨hhd,aB h6⟩),?_⟩;simp(maxSteps:=9^6)(disch:=omega)[↓ac,↓aa,-bl,hcm,x5,y1,y2,y3,y4,y5,z1,z2,z3,z4,z5,e1,g0,g1,hsm]
       .refine .inr ⟨λh=>h6 (by rw[(hT.1 (hfin.1 h)).2];rfl),?_⟩;simp(maxSteps:=9^6)(disch:=omega)[↓ac,↓aa,-bl,hcm,x5,y1,y2,y3,y4,y5,z1,z2,z3,z4,z5,e1,g0,g1,hsm]
      rw[ac h5]at hT;by_cases h6:f.bands.length=c.info.groups.length
      rotate_left
      .refine .inr ⟨λh=>h6 (hT.1 (hfin.1 h)).2.1,?_⟩;simp(maxSteps:=9^6)(disch:=omega)[↓ac,↓aa,-bl,hcm,x5,y1,y2,y3,y4,y5,z1,z2,z3,z4,z5,e1,g0,g1,hsm]
      have hye:=hY.ne λh=>by have:=aP List.length h;rw[N7,bt]at this;omega
      subst hye;obtain⟨M2,hM2,e2⟩:=abw (.fn Hn [] [.ptr M 0]) (λl=>decide ((l.length:Int)≠c.info.max)) f.bands o_ [(0,.cells [A_ rt,A_ 2,B_ cb,A_ cz]),(1,.cells [.d (.lst (eq f.chans)),B_ true,A_ f.mask,.d (.lst (eh f.bands)),Z]),(M,.cells c.info.cells)] (M+1) rfl rfl λl hl N hN=>by
       have:=axl c.info l (by have:=hf.bands.2 l hl;omega) [(0,.cells [A_ rt,A_ 2,B_ cb,A_ cz]),(1,.cells [.d (.lst (eq f.chans)),B_ true,A_ f.mask,.d (.lst (eh f.bands)),Z]),(M,.cells c.info.cells)] M N (by
        obtain⟨m0,m1⟩:M≠0∧M≠1:=o_;simp(maxSteps:=9^6)(disch:=omega)[↓ac,↓aa])
       simpa using this
      simp only[aO.cells]at e2
      cases hB2:f.bands.any (λl=>decide ((l.length:Int)≠c.info.max)) with
      |true =>
       rw[hB2]at e2;refine .inr ⟨λh=>?_,?_⟩
       .obtain⟨l,hl,hx⟩:=List.any_eq_true.1 hB2;exact of_decide_eq_true hx ((hT.1 (hfin.1 h)).2.2 l hl)
       .simp(maxSteps:=9^6)(disch:=omega)[↓ac,↓aa,-bl,hcm,x5,y5,z1,z2,z3,z4,z5,e1,g0,g1,hsm,e2]
      |false =>
       rw[hB2]at e2;refine .inl ⟨hfin.2 (hT.2 ⟨hhd,h6,λl hl=>?_⟩),?_⟩
       .have:=mX.1 hB2 l hl;simpa using this
       .simp(maxSteps:=9^6)(disch:=omega)[↓ac,↓aa,-bl,hcm,x5,y5,z1,z2,z3,z4,z5,e1,g0,g1,hsm,e2]
def aud {l:V_}:∀x∈iD l,∀y∈x,mA y=true:=by
 intro x hx y hy;simp only[iD,dC]at hx;obtain⟨b,_,rfl⟩:=hx;simp only[ay,b8,eg]at hy;subst hy;rfl
def Zr (xs:T_)(hx:xs.length<=1000)(h:am)(N:Nat):∀(r:T_) (i:Nat) (n:Nat),xs.drop i=r->n+r.flatten.length<=1000000000->
  (Dn prog).code (.loop kQ) ⟨[(0,.d (.lst (eh xs))),(3,A_ n),(9,.d (.lst (eh xs))),(10,A_ xs.length),(11,A_ i)],⟨h,N⟩⟩ =
  some (.exit 0,⟨[(0,.d (.lst (eh xs))),(3,A_ (n+r.flatten.length:Nat))],⟨h,N⟩⟩):=by
 intro r
 induction r with
 |nil =>
  intro i n hd hn;have hi:=bv hd;rw[ah oT];simp(maxSteps:=9^6)(disch:=omega)[↓aa]
 |cons l r ih =>
  intro i n hd hn;have hg:=D1 hd;have hlt:=bV hd;simp only[dG,aj]at hn⊢;have h5:=ih (i+1) (n+l.length) (bK hd) o_;have c1:((i+1:Nat):Int)=(i:Int)+1:=rfl;have c2:((n+l.length:Nat):Int)=(n:Int)+l.length:=rfl;rw[c1,c2,dP]at h5;rw[ah oT,<-h5];simp(maxSteps:=9^6)(disch:=omega)[↓ac,↓aa,hg,xV]
def apm (xs:T_)(hx:xs.length<=1000)(h:am)(N:Nat):∀(r:T_) (i:Nat) (acc:V_),xs.drop i=r->acc.length+r.flatten.length<=1000000000->
  (Dn prog).code (.loop iU) ⟨[(6,.own false 1 (iD acc)),(25,.d (.lst (eh xs))),(26,A_ xs.length),(27,A_ i)],⟨h,N⟩⟩ =
  some (.exit 2,⟨[(6,.own false 1 (iD (acc++r.flatten)))],⟨h,N⟩⟩):=by
 intro r
 induction r with
 |nil =>
  intro i acc hd hn;have hi:=bv hd;rw[ah gb];simp(maxSteps:=9^6)(disch:=omega)[↓aa]
 |cons l r ih =>
  intro i acc hd hn;have hg:=D1 hd;have hlt:=bV hd;simp only[dG,aj]at hn⊢;have h5:=ih (i+1) (acc++l) (bK hd) (by simp only[aj];omega);have c1:((i+1:Nat):Int)=(i:Int)+1:=rfl;rw[c1,ax]at h5;rw[ah gb,<-h5];simp(maxSteps:=9^6)(disch:=omega)[↓ac,↓aa,hg,xV,ay6]
def asQ (n:Nat)(hn:0<n∧n<=1000000000):(Dn prog).call vK [.nl,A_ n] ⟨[],0⟩=some (.sl 0 0 0,⟨[(0,.arr 1 (List.replicate n [.bool false]))],1⟩):=by
 have e1:eK (A_ n) aY=some n:=by rw[yp o_ (by simp only[aY];omega)];simp
 have e2:HV [.bool false] [] .nl (A_ n)=some (.own true 1 (List.replicate n [.bool false]),[]):=by
  unfold HV;rw[e1];obtain⟨m,rfl⟩:∃m,n=m+1:=⟨n-1,o_⟩
  simp(maxSteps:=9^6)(disch:=omega)[cx,↓ac]
 have e0:eK (A_ 0) n=some 0:=yp o_ o_;have e3:mF [] 1 .nl none (some (.int .i64 0)) none=some .nl:=rfl;have e4:mF [(0,.arr 1 (List.replicate n [D.bool false]))] 1 (.sl 0 0 n) none (some (.int .i64 0)) none=some (.sl 0 0 0):=by
  simp[mF,okSl,vt,lenOf,xb,e0,v7]
 rw[be DF DK rfl];simp(maxSteps:=9^6)(disch:=omega)[↓ac,↓aa,abQ,e2,e3,e4]
def at6 (xs:T_)(hx:xs.length<=1000)(hn:0<xs.flatten.length∧xs.flatten.length<=1000000000):bq prog sP [.d (.lst (eh xs))]=some (.own true 1 (iD xs.flatten)):=by
 have h0:=Zr xs hx [] 0 xs 0 0 rfl o_;have h2:=asQ xs.flatten.length hn;have c0:((0:Nat):Int)=0:=rfl;rw[bn,c0]at h0;have hne:xs≠[]:=by intro h;subst h;simp at hn
 obtain⟨l,r,e⟩:=di hne;have h1:=apm xs hx [] 1 r 1 l (by rw[e];rfl) (by rw[e]at hn;simpa using hn.2);have hg:=D1 (g:=xs) (i:=0) (l:=l) (r:=r) (by rw[e];rfl);have hlt:0<xs.length:=bS.2 hne;have e5:l++r.flatten=xs.flatten:=by rw[e];rfl
 rw[e5]at h1;have hll:l.length<=1000000000:=by rw[<-e5,aj]at hn;omega
 clear e5 e;generalize xs.flatten=F at *;have c1:((1:Nat):Int)=1:=rfl;rw[c1]at h1;rw[aG Bx Bc rfl];simp(maxSteps:=9^6)(disch:=omega)[↓ac,↓aa,h0,h2];rw[ah gb];simp(maxSteps:=9^6)(disch:=omega)[↓ac,↓aa,hg,xV,h1];exact aud
def ak4 (xs:T_)(hx:xs.length<=1000)(h:am)(N:Nat):∀(r:T_) (i:Nat),xs.drop i=r->(∀l∈r,l=[])->
  (Dn prog).code (.loop iU) ⟨[(6,.nl),(25,.d (.lst (eh xs))),(26,A_ xs.length),(27,A_ i)],⟨h,N⟩⟩ =
  some (.exit 2,⟨[(6,.nl)],⟨h,N⟩⟩):=by
 intro r
 induction r with
 |nil =>
  intro i hd hn;have hi:=bv hd;rw[ah gb];simp(maxSteps:=9^6)(disch:=omega)[↓aa]
 |cons l r ih =>
  intro i hd hn;have hl:=hn l (.head _);subst hl;have hg:=D1 hd;have hlt:=bV hd;have h5:=ih (i+1) (bK hd) λq hq=>hn q (.tail _ hq)
  have c1:((i+1:Nat):Int)=(i:Int)+1:=rfl;have n0:iD []=[]:=rfl;rw[c1]at h5;rw[n0]at hg;rw[ah gb,<-h5];simp(maxSteps:=9^6)(disch:=omega)[↓ac,↓aa,hg]
def Ud:(Dn prog).call vK [.nl,A_ 0] ⟨[],0⟩=some (.nl,⟨[],0⟩):=by
 rw[be DF DK rfl];simp(maxSteps:=9^6)(disch:=omega)[↓ac,↓aa,abQ]
def ayh (xs:T_)(hx:xs.length<=1000)(hn:xs.flatten.length<=1000000000)(X:AV)(hX:fy X (eh xs)):∃v,bq prog sP [X]=some v∧firm v=aE 1 (iD xs.flatten):=by
 by_cases h:0<xs.flatten.length
 .have hne:eh xs≠[]:=λh2=>by
   have:=aP List.length h2;rw[N7,bt]at this;rw[aB this]at h;simp at h
  refine⟨.own true 1 (iD xs.flatten),by rw[hX.ne hne];exact at6 xs hx ⟨h,hn⟩,?_⟩;rw[mi]
  .rfl
  .intro h2;have:=aP List.length h2;rw[xV,bt]at this;omega
 .have h0:xs.flatten=[]:=aB o_;have hz:∀l∈xs,l=[]:=λl hl=>List.flatten_eq_nil_iff.1 h0 l hl
  refine⟨.nl,?_,by rw[h0];rfl⟩;rw[aG Bx Bc rfl];rcases hX with rfl|⟨rfl,hX⟩
  .have e0:=Zr xs hx [] 0 xs 0 0 rfl o_;have e1:=ak4 xs hx [] 0 xs 0 rfl hz;have c0:((0:Nat):Int)=0:=rfl;rw[bn,c0,h0,bt,c0]at e0;rw[c0]at e1;simp(maxSteps:=9^6)(disch:=omega)[↓ac,↓aa,e0,e1,Ud]
  .simp(maxSteps:=9^6)(disch:=omega)[↓ac,↓aa,Ud];rw[ah oT];simp(maxSteps:=9^6)(disch:=omega)[↓ac,↓aa,Ud];rw[ah gb];simp(maxSteps:=9^6)(disch:=omega)[↓ac,↓aa,Ud]
def bu (l:C_):C_:=l.flatMap λn=>au n 8
def dI:∀{l:C_},(bu l).length=8*l.length
 |[]=>rfl
 |n::r=>by have:=dI (l:=r);rw[bu]at this⊢;rw[aC,aj,cM,aq];omega
abbrev aF2 (l:C_)(i:Int)(N:Nat):aZ:=[(4,.ptr 0 0),(15,.d (.lst (ai l))),(16,A_ l.length),(17,A_ i),(23,.fn qj [] [.ptr (N+1) 0,.ptr N 0])]
abbrev hp8 (l:C_)(i n:Int)(N:Nat)(b:C_):am:=[(0,.cells [.own false 1 (ai b)]),(N,.cells [A_ n]),(N+1,.cells [A_ 8]),(N+2,.loop (aF2 l i N) [24] ug t8 false none)]
def aFJ (l:C_)(i n:Int)(N:Nat)(hN:1<=N)(b:C_)(x:Nat)(hb:b.length<=800000000) :
  cA (Dn prog) (.yield (N+2)) [.d (.int .u8 (x:Int))] ⟨hp8 l i n N b,N+2+1⟩=some (B_ true,⟨hp8 l i n N (b++[x]),N+2+1⟩):=by
 have hl:=bB (l:=b);have n1:N≠0∧N+1≠0∧N+2≠0:=o_;simp(maxSteps:=9^6)(disch:=omega)[Xn,Xm,↓ac,↓aa]
def aBM (n k:Int)(c:Obj)(N:Nat)(hN:1<=N):(Dn prog).call LV [A_ n,A_ k] ⟨[(0,c)],N⟩=some (.fn qj [] [.ptr (N+1) 0,.ptr N 0],⟨[(0,c),(N,.cells [A_ n]),(N+1,.cells [A_ k])],N+1+1⟩):=by
 rw[be U8 VN rfl];simp(maxSteps:=9^6)(disch:=omega)[↓ac,↓aa]
def amg {z:W_}{n:Int}(h:0<=n∧n<=1000000000):Ga z (A_ 0) (A_ n)=some (.own true z.length []):=by
 obtain⟨n,rfl⟩:=aA h.1;have h1:eK (A_ (n:Int)) aY=some n:=by rw[yp o_ (by simp only[aY];omega)];simp
 have h2:eK (A_ 0) n=some 0:=yp o_ o_;simp only[Ga,h1,h2];rfl
def ar0 (l:C_)(hl:l.length<=100000)(hl2:∀n∈l,n<=255):∀(r:C_) (i N:Nat) (b:C_),l.drop i=r->b.length<=8*i->1<=N->
  ∃M,(Dn prog).code (.loop uM) ⟨[(4,.ptr 0 0),(15,.d (.lst (ai l))),(16,A_ l.length),(17,A_ i)],⟨[(0,.cells [.own false 1 (ai b)])],N⟩⟩ =
  some (.exit 0,⟨[(4,.ptr 0 0)],⟨[(0,.cells [.own false 1 (ai (b++bu r))])],M⟩⟩):=by
 intro r
 induction r with
 |nil =>
  intro i N b hd hb hN;have hi:=bv hd;refine⟨N,?_⟩;rw[ah AO];simp(maxSteps:=9^6)(disch:=omega)[↓ac,↓aa,bu]
 |cons n r ih =>
  intro i N b hd hb hN;have hlt:=bV hd;have hn:=hl2 n (c7 (by rw[hd];exact .head _));have hg:(ai l)[i]?=some [.int .u8 n]:=by
   have:=aP (λl=>l[0]?) hd;simp only[ck,ca,ej]at this;rw[ai,b9,this];rfl
  have h1:=asq (hp:=hp8 l i n N) (l:=N+2) (p:=N) (q:=N+1) (N:=N+2+1) (st:=λs x=>s++[x]) (dE:=λk s=>s.length+k<=800000000) (λk s x h=>by simp only[aj,aq,bt];omega) n 8 o_ (by omega)
   (λs=>by simp(maxSteps:=9^6)(disch:=omega)[↓aa,↓ac]) (λs=>by simp(maxSteps:=9^6)(disch:=omega)[↓aa,↓ac]) (λk s x h _=>aFJ l i n N hN s x o_) b (by omega)
  rw[aiq]at h1;obtain⟨M,h5⟩:=ih (i+1) (N+2+1) (b++au n 8) (bK hd) g_ o_;refine⟨M,?_⟩;have c1:((i+1:Nat):Int)=(i:Int)+1:=rfl;have e:b++bu (n::r)=b++au n 8++bu r:=by rw[bu,aC,ax];rfl
  rw[c1]at h5;have n1:N≠0∧N+1≠0∧N+2≠0:=o_;rw[ah AO,e,<-h5];simp(maxSteps:=9^6)(disch:=omega)[↓ac,↓aa,hg,n1,rd,aBM,h1]
def Fx (l:C_)(hl:l.length<=100000)(hl2:∀n∈l,n<=255)(X:AV)(hX:fy X (ai l)):bq prog GT [X]=some (.tup [.own true 1 (ai (bu l)),A_ 0]):=by
 have hl3:=bB (l:=l);have n0:ai []=[]:=rfl;have c0:((0:Nat):Int)=0:=rfl;obtain⟨M,h⟩:=ar0 l hl hl2 l 0 1 [] rfl s_ (ak _);rw[c0,n0,aK]at h;rw[aG afA afc rfl];rcases hX with rfl|⟨rfl,hX⟩
 .simp(maxSteps:=9^6)(disch:=omega)[↓ac,↓aa,amg,h]
 .have:l=[]:=aB (by rw[hX]at hl3;simpa using hl3.symm);subst this;simp(maxSteps:=9^6)(disch:=omega)[↓ac,↓aa,amg];rw[ah AO];simp(maxSteps:=9^6)(disch:=omega)[↓ac,↓aa,bu];rfl
def afN {hp:AV->am}{p N:Nat}(H:Hv hp p){x:AV}{b:C_}(hx:inB x b)(hb:b.length<=900000000)(n s:Int)(ho:om n s)(hn:i64 n) :
  (Dn prog).call fL [A_ n,A_ s,.ptr p 0] ⟨hp x,N⟩=some (.tup [],⟨hp (.own false 1 (ai (b++au n.toNat s.toNat))),N⟩):=by
 have h1:=λx hx=>lW b n s hb hn x hx
 simp only[ac ho]at h1;rw[be ZE aaH rfl];rcases hx with rfl|rfl|⟨rfl,rfl⟩
 .have h2:=h1 _ (.inl rfl);simp(maxSteps:=9^6)(disch:=omega)[H.get,H.put,h2]
 .have h2:=h1 _ (.inl rfl);simp(maxSteps:=9^6)(disch:=omega)[H.get,H.put,h2]
 .have h2:=h1 _ (.inr ⟨rfl,rfl⟩);simp(maxSteps:=9^6)(disch:=omega)[H.get,H.put,h2]
def Ih {hp:AV->am}{p N:Nat}(H:Hv hp p){x:AV}{b:C_}(hx:inB x b)(hb:b.length<=900000000)(n s:Nat)(hs:s<=31)(ho:n<2 ^ s)(nI sI:Int)(en:nI=n)(es:sI=s) :
  (Dn prog).call fL [A_ nI,A_ sI,.ptr p 0] ⟨hp x,N⟩=some (.tup [],⟨hp (.own false 1 (ai (b++au n s))),N⟩):=by
 subst en es;have h31:2 ^ s<=2 ^ 31:=aw o_ hs;exact afN H hx hb n s (by simp only[om,ar];omega) (by omega)
def amb (b:Bool):bq prog adl [B_ b]=some (A_ (cond b 1 0:Nat)):=by
 rw[aG arv aq4 rfl]
 cases b<;>simp(maxSteps:=9^6)(disch:=omega)
abbrev hpW (C F:D_)(v:AV):am:=[(0,.cells C),(1,.cells F),(2,.cells [v])]
def azp (C F:D_):Hv (hpW C F) 2:=⟨λv=>by simp,λv w=>by simp⟩
def tV (l:V_):C_:=l.flatMap λb=>au (cond b 1 0) 1
def Sb:∀{l:V_},(tV l).length=l.length
 |[]=>rfl
 |n::r=>by have:=Sb (l:=r);rw[tV]at this⊢;rw[aC,aj,cM,aq];omega
def apG (C F:D_)(l:V_)(hl:l.length<=1000000)(N:Nat):∀(r:V_) (i:Nat) (b:C_),l.drop i=r->b.length+r.length<=900000000->
  (Dn prog).code (.loop tW) ⟨[(2,.ptr 0 0),(3,.ptr 1 0),(4,.ptr 2 0),(5,.fn fL [] [.ptr 2 0]),(45,aE 1 (iD l)),(46,A_ l.length),(47,A_ i)],⟨hpW C F (.own false 1 (ai b)),N⟩⟩ =
  some (.exit 1,⟨[(2,.ptr 0 0),(3,.ptr 1 0),(4,.ptr 2 0),(5,.fn fL [] [.ptr 2 0])],⟨hpW C F (.own false 1 (ai (b++tV r))),N⟩⟩):=by
 intro r
 induction r with
 |nil =>
  intro i b hd hb;have hi:=bv hd;rw[ah Je];simp(maxSteps:=9^6)(disch:=omega)[↓aa,tV]
 |cons x r ih =>
  intro i b hd hb;simp only[aq]at hb;have hg:=aym hd;have hlt:=bV hd;have hne:iD l≠[]:=λh=>by have:=aP List.length h;rw[xV,bt]at this;omega
  have hc:(cond x 1 0:Nat)<=1:=by cases x<;>decide
  have h1:=Ih (azp C F) (N:=N) (ki (b:=b)) o_ (cond x 1 0) 1 k_ o_ (cond x 1 0:Nat) 1 rfl rfl;have h2:=amb x;have h5:=ih (i+1) (b++au (cond x 1 0) 1) (bK hd) g_;have c1:((i+1:Nat):Int)=(i:Int)+1:=rfl;rw[c1,ax,mi hne]at h5;have e:tV (x::r)=au (cond x 1 0) 1++tV r:=rfl;simp only[hpW]at h1 h5⊢;rw[ah Je,e,<-h5,mi hne];generalize ((cond x 1 0:Nat):Int)=K at *;simp(maxSteps:=9^6)(disch:=omega)[↓ac,↓aa,hg,h1,h2]
def iZ (rt:Nat)(q:Bool)(l:BA_):C_:=l.flatMap λc=>C9 rt c q
def OF {rt:Nat}{q:Bool}(hR:rt<=11):∀{l:BA_},(∀c∈l,c.Fit∧nG rt c)->(iZ rt q l).length<=170000000*l.length
 |[],_=>by simp[iZ]
 |c::r,h=>by
  have a:=agH (h c (.head _)).1 (h c (.head _)).2 hR q;have b:=OF hR (l:=r) (q:=q) λx hx=>h x (.tail _ hx)
  rw[iZ]at b⊢;rw[aC,aj,aq];omega
def apt (R:Nat)(hR:R<=11)(n:Int)(c2 c3:AV)(f:fJ)(A:AV)(m:Int)(Y Z:AV)(l:BA_)(hl:l.length<=2)(hc:∀c∈l,c.Fit∧nG R c):∀(r:BA_) (i N:Nat) (b:C_),l.drop i=r->b.length<=1000+170000000*i->3<=N->
  ∃M,(Dn prog).code (.loop tS) ⟨[(2,.ptr 0 0),(3,.ptr 1 0),(4,.ptr 2 0),(5,.fn fL [] [.ptr 2 0]),(63,.d (.lst (eq l))),(64,A_ l.length),(65,A_ i)],⟨hpW [A_ R,A_ n,c2,c3] [A,B_ f.common,A_ m,Y,Z] (.own false 1 (ai b)),N⟩⟩ =
  some (.exit 3,⟨[(3,.ptr 1 0),(4,.ptr 2 0),(5,.fn fL [] [.ptr 2 0])],⟨[(1,.cells [A,B_ f.common,A_ m,Y,Z]),(2,.cells [.own false 1 (ai (b++iZ R f.common r))])],M⟩⟩):=by
 intro r
 induction r with
 |nil =>
  intro i N b hd hb hN;have hi:=bv hd;refine⟨N,?_⟩;rw[ah JV];simp(maxSteps:=9^6)(disch:=omega)[↓aa,iZ]
 |cons c r ih =>
  intro i N b hd hb hN;have hg:=EA hd;have hlt:=bV hd;obtain⟨hcf,hcm⟩:=hc c (c7 (by rw[hd];exact .head _));have hil:=agH hcf hcm hR f.common;have hp:bq prog Gj [.d (.lst (ai b)),A_ R,.agg c.av,B_ f.common]=some (.tup [.own true 1 (ai (b++C9 R c f.common)),A_ 0]):=by
   rcases ayQ b o_ _ (.inl rfl) R c hcf f.common with ⟨_,_,h⟩|⟨e,he,h,h2,_⟩
   .simpa using h
   .exact absurd hcm (by have:=h2 (by simp only[ep];omega);simpa using this)
  simp only[cQ.av]at hp;obtain⟨M,h5⟩:=ih (i+1) (N+1) (b++C9 R c f.common) (bK hd) g_ o_;refine⟨M,?_⟩;have c1:((i+1:Nat):Int)=(i:Int)+1:=rfl;rw[c1,ax]at h5;have e:iZ R f.common (c::r)=C9 R c f.common++iZ R f.common r:=rfl;have n0:N≠0∧N≠1∧N≠2:=o_;simp only[hpW]at h5⊢;rw[ah JV,e,<-h5];generalize b++C9 R c f.common=B1 at *;simp(maxSteps:=9^6)(disch:=omega)[↓ac,↓aa,hg,hp]
abbrev eJ:=@Int.tmod_eq_emod_of_nonneg
def Lp (n:Nat):Nat:=(8-n % 8) % 8
def wN (b:C_):C_:=b++List.replicate (Lp b.length) 0
def nk (l:C_):C_:=if l=[] then [] else au 6 3++(au (min l.length 15) 4++((if 15<=l.length then au (l.length-14) 8 else [])++bu l))
def aFc:Hv (λv=>[(2,.cells [v])]) 2:=⟨λv=>by simp,λv w=>by simp⟩
def ape (F:D_):Hv (λv=>[(1,.cells F),(2,.cells [v])]) 2:=⟨λv=>by simp,λv w=>by simp⟩
def wZ {a b:C_}:ai (a++b)=ai a++ai b:=by simp[ai]
def as0 {h:am}{b:C_}(hb:b.length<=900000000)(k:Nat)(hk:k<=8)(K:Int)(hK:K=k):HV [.int .u8 0] h (.own false 1 (ai b)) (A_ K)=some (.own false 1 (ai (b++List.replicate k 0)),h):=by
 subst hK;have e1:eK (A_ k) aY=some k:=by rw[yp o_ (by simp only[aY];omega)];simp
 have e2:List.replicate k [D.int .u8 0]=ai (List.replicate k 0):=by simp[ai]
 have e3:(ai (List.replicate k 0)).length=k:=by rw[bB];simp
 have hl:=bB (l:=b);unfold HV;rw[e1];simp only[e2,wZ];generalize ai (List.replicate k 0)=Z at *;generalize ai b=B at *;simp(maxSteps:=9^6)(disch:=omega);exact⟨o_,ac o_⟩
def ake (b:C_)(hb:b.length<=800000000)(N:Nat):(Dn prog).code (.seq r9 (.seq r5 .ret)) ⟨[(4,.ptr 2 0),(5,.fn fL [] [.ptr 2 0])],⟨[(2,.cells [.own false 1 (ai b)])],N⟩⟩ =
  some (.ret,⟨[(4,.ptr 2 0)],⟨[(2,.cells [.own false 1 (ai (wN (b++au 7 3)))])],N⟩⟩):=by
 have h1:=Ih aFc (N:=N) (ki (b:=b)) o_ 7 3 k_ k_ 7 3 rfl rfl;have hl:(ai (b++au 7 3)).length=b.length+3:=by rw[bB,aj,cM]
 obtain⟨r,hr⟩:∃r,r=(b.length+3) % 8:=⟨_,rfl⟩
 have t1:((b.length:Int)+3).tmod 8=(r:Int):=by rw[eJ o_];omega
 have t2:(8-(r:Int)).tmod 8=(((8-r) % 8:Nat):Int):=by rw[eJ o_];omega
 have e:b++au 7 3++List.replicate ((8-r) % 8) 0=wN (b++au 7 3):=by rw[wN,Lp,aj,cM,hr]
 have h2:=λh K hK=>as0 (h:=h) (b:=b++au 7 3) g_ ((8-r) % 8) o_ K hK
 rw[e]at h2;have h3:=λh=>h2 h _ t2
 generalize wN (b++au 7 3)=B2 at *;generalize b++au 7 3=B1 at *;simp(maxSteps:=9^6)(disch:=omega)[↓ac,↓aa,h1,hl,t1,h3]
def aiO (A0 A1 A2 A3 Z:AV)(l:C_)(hl:l.length<=269)(hl2:∀n∈l,n<=255)(hZ:fy Z (ai l))(b:C_)(hb:b.length<=700000000)(N:Nat)(T:VC) :
  (Dn prog).code (.seq (.seq rF
 (.seq rW
 (.cond (.m 84)
 (.seq rY
 (.seq rZ
 (.seq (.seq si
 (.cond (.m 92)
 rS
 (.seq (K [10]) .skip)))
 (.seq (.seq rG (F 3))
 rH))))
 (.seq (.seq (K [10]) (F 3)) .skip)))) T) ⟨[(3,.ptr 1 0),(4,.ptr 2 0),(5,.fn fL [] [.ptr 2 0])],⟨[(1,.cells [A0,A1,A2,A3,Z]),(2,.cells [.own false 1 (ai b)])],N⟩⟩ =
  (Dn prog).code T ⟨[(4,.ptr 2 0),(5,.fn fL [] [.ptr 2 0])],⟨[(2,.cells [.own false 1 (ai (b++nk l))])],N⟩⟩:=by
 obtain⟨⟨z1,z2,z3⟩,z4,z5⟩:=hZ.facts;have zl:=bB (l:=l);have hu:=Fx l o_ hl2 Z hZ;have ul:=dI (l:=l);have uz:=bB (l:=bu l);by_cases h0:l.length=0
 .have:l=[]:=aB h0;rw[nk,ac this,bh];simp(maxSteps:=9^6)(disch:=omega)[↓ac,↓aa,-bl,z1,z2,z3,z4,z5]
 have hne:l≠[]:=λh=>h0 (by rw[h];rfl)
 have hze:=hZ.ne λh=>h0 (by rw[h]at zl;exact zl.symm)
 subst hze;rw[nk,aa hne];have p1:=Ih (ape [A0,A1,A2,A3,.d (.lst (ai l))]) (N:=N) (ki (b:=b)) o_ 6 3 k_ k_ 6 3 rfl rfl;have p2:=λnI h=>Ih (ape [A0,A1,A2,A3,.d (.lst (ai l))]) (N:=N) (ki (b:=b++au 6 3)) g_ (min l.length 15) 4 k_ o_ nI 4 h rfl
 by_cases h15:15<=l.length
 .have p3:=Ih (ape [A0,A1,A2,A3,.d (.lst (ai l))]) (N:=N) (ki (b:=b++au 6 3++au (min l.length 15) 4)) g_ (l.length-14) 8 k_ o_ ((l.length:Int)-14) 8 o_ rfl;rw[ac h15];simp only[<-ax];have hl3:(b++au 6 3++au (min l.length 15) 4++au (l.length-14) 8).length<=800000000:=by simp;omega
  have e:ai (b++au 6 3++au (min l.length 15) 4++au (l.length-14) 8)++ai (bu l)=ai (b++au 6 3++au (min l.length 15) 4++au (l.length-14) 8++bu l):=wZ.symm;generalize b++au 6 3++au (min l.length 15) 4++au (l.length-14) 8++bu l=B9 at *;generalize b++au 6 3++au (min l.length 15) 4++au (l.length-14) 8=B3 at *;generalize b++au 6 3++au (min l.length 15) 4=B2 at *;generalize b++au 6 3=B1 at *;generalize bu l=U at *;by_cases h16:15<l.length
  .have p2:=p2 15 o_;simp(maxSteps:=9^6)(disch:=omega)[↓ac,↓aa,-bl,z1,z2,z3,z4,z5,p1,p2,p3,hu,e]
  .have p2:=p2 l.length o_;simp(maxSteps:=9^6)(disch:=omega)[↓ac,↓aa,-bl,z1,z2,z3,z4,z5,p1,p2,p3,hu,e]
 .rw[aa h15,aK];simp only[<-ax];have hl3:(b++au 6 3++au (min l.length 15) 4).length<=800000000:=by simp;omega
  have e:ai (b++au 6 3++au (min l.length 15) 4)++ai (bu l)=ai (b++au 6 3++au (min l.length 15) 4++bu l):=wZ.symm;generalize b++au 6 3++au (min l.length 15) 4++bu l=B9 at *;generalize b++au 6 3++au (min l.length 15) 4=B2 at *;generalize b++au 6 3=B1 at *;generalize bu l=U at *;have p2:=p2 l.length o_;simp(maxSteps:=9^6)(disch:=omega)[↓ac,↓aa,-bl,z1,z2,z3,z4,z5,p1,p2,hu,e]
def TE (f:fJ):C_:=match f.chans with
 |[]=>[]
 |c::_=>lH c.info
def ic (n:Int)(f:fJ):C_:=if n=1 then au 0 3++au 0 4 else if f.common then au 1 3++au 0 4++au 1 1++TE f++au f.mask.toNat 2++tV f.bands.flatten else au 1 3++au 0 4++au 0 1
def ml (R:Nat)(n:Int)(f:fJ):C_:=wN (ic n f++iZ R f.common f.chans++nk f.fill++au 7 3)
def adp {k:Nat}:∀{l:T_},(∀x∈l,x.length<=k)->l.flatten.length<=k*l.length
 |[],_=>by simp
 |x::r,h=>by
  have a:=h x (.head _);have b:=adp (l:=r) λy hy=>h y (.tail _ hy)
  rw[dG,aj,aq,Nat.mul_add];omega
def adH {R:Nat}(hR:R<=11){n:Int}{f:fJ}(ok:tw R n f):f.bands.flatten.length<=320:=by
 have h:=ok.rest
 cases hc:f.chans with
 |nil=>rw[hc]at h;exact h.elim
 |cons c r =>
  rw[hc]at h;have hm:=ok.may c (by rw[hc];exact .head _);have hmx:=ka (gR hR hm.info);obtain⟨g1,g2⟩:=d8 (gR hR hm.info);have hmm:c.info.many<=8:=by unfold aO.many;split<;>omega
  have hgl:c.info.groups.length<=8:=by have:=mT (λn hn=>(g1 n hn).1);omega
  simp only[I9]at h;split at h
  .obtain⟨_,h⟩:=h;split at h
   .obtain⟨h1,h2⟩:=h;have:=adp (k:=40) (l:=f.bands) λx hx=>by have:=h2 x hx;omega
    omega
   .rw[h];simp
  .rw[h.2];simp
def fy.view {x:AV}{l:E_}(h:fy x l):(∀hp,viewArg hp x=some x)∧rE x=false:=by
 rcases h with rfl|⟨rfl,rfl⟩<;>exact⟨λ_=>rfl,rfl⟩
def Vk (R:Nat)(hR:R<=11)(n:Int)(hn:n=1∨n=2)(cb:Bool)(cz:Int)(f:fJ)(hf:f.Fit)(ok:tw R n f)(X Y Z:AV)(hX:fy X (eq f.chans))(hY:fy Y (eh f.bands))(hZ:fy Z (ai f.fill)) :
  bq prog P8 [lO R n cb cz,pO f X Y Z]=some (.own true 1 (ai (ml R n f))):=by
 obtain⟨⟨y1,y2,y3⟩,y4,y5⟩:=hY.facts;obtain⟨⟨z1,z2,z3⟩,z4,z5⟩:=hZ.facts;have hlen:=ok.len;have hfl:=ok.fill;have hmk:=ok.mask;have hne:eq f.chans≠[]:=λh=>by have:=aP List.length h;rw[Jt,bt]at this;omega
 have hxe:=hX.ne hne;subst hxe;have hmay:∀c∈f.chans,c.Fit∧nG R c:=λc hc=>⟨hf.chans.2 c hc,ok.may c hc⟩
 have hcl:=OF hR (q:=f.common) hmay;have hbl:=adH hR ok;have hr:ep R:=by simp only[ep];omega
 rw[aG ae0 aeE rfl];obtain⟨T,hT⟩:∃T,T=(VC.seq (.seq rF
 (.seq rW
 (.cond (.m 84)
 (.seq rY
 (.seq rZ
 (.seq (.seq si
 (.cond (.m 92)
 rS
 (.seq (K [10]) .skip)))
 (.seq (.seq rG (F 3))
 rH))))
 (.seq (.seq (K [10]) (F 3)) .skip))))
 (.seq r9
 (.seq r5
 .ret))):=⟨_,rfl⟩
 rw[<-hT];have hfill:(nk f.fill).length<=10000:=by
  unfold nk;split
  .simp
  .simp only[aj,cM,dI];split<;>simp<;>omega
 have hTr:∀(b:C_) (N:Nat),b.length<=600000000->(Dn prog).code T ⟨[(3,.ptr 1 0),(4,.ptr 2 0),(5,.fn fL [] [.ptr 2 0])],⟨[(1,.cells [.d (.lst (eq f.chans)),B_ f.common,A_ f.mask,Y,Z]),(2,.cells [.own false 1 (ai b)])],N⟩⟩=some (.ret,⟨[(4,.ptr 2 0)],⟨[(2,.cells [.own false 1 (ai (wN (b++nk f.fill++au 7 3)))])],N⟩⟩):=by
  intro b N hb;rw[hT,aiO _ _ _ _ Z f.fill hfl hf.fillI hZ b o_ N _,ake _ (by rw[aj];omega)]
 have hL:=fun(b:C_) (hb:b.length<=1000)=>apt R hR n (B_ cb) (A_ cz) f (.d (.lst (eq f.chans))) f.mask Y Z f.chans o_ hmay f.chans 0 3 b rfl o_ (ak _)
 have c0:((0:Nat):Int)=0:=rfl;simp only[c0,hpW]at hL;have pp:=λ{x:AV}{b:C_}(hx:inB x b) (hb:b.length<=1000)=>Ih (azp [A_ R,A_ n,B_ cb,A_ cz] [.d (.lst (eq f.chans)),B_ f.common,A_ f.mask,Y,Z]) (N:=3) hx (by omega)
 simp only[hpW]at pp;by_cases hn1:n=1
 .subst hn1;have q1:=pp (.inr (.inr ⟨rfl,rfl⟩)) s_ 0 3 k_ k_ 0 3 rfl rfl;have q2:=pp (ki (b:=[]++au 0 3)) s_ 0 4 k_ k_ 0 4 rfl rfl;have e:ic 1 f=[]++au 0 3++au 0 4:=by rw[ic,ac rfl];rfl
  obtain⟨M,h1⟩:=hL (ic 1 f) (by rw[e];simp);have h2:=hTr (ic 1 f++iZ R f.common f.chans) M (by rw[aj,e];simp;omega);have ew:wN (ic 1 f++iZ R f.common f.chans++nk f.fill++au 7 3)=ml R 1 f:=rfl;rw[<-e]at q2;rw[ew]at h2;generalize ml R 1 f=W at *;generalize ic 1 f++iZ R f.common f.chans=B2 at *;generalize ic 1 f=B1 at *;generalize []++au 0 3=B0 at *;simp(maxSteps:=9^6)(disch:=omega)[↓ac,↓aa,-bl,y1,y2,y3,y4,y5,z1,z2,z3,z4,z5,q1,q2,h1,h2]
 have hn2:n=2:=o_;subst hn2
 cases hch:f.chans with
 |nil=>rw[hch]at hlen;simp at hlen
 |cons c r =>
 have hdr:f.chans.drop 0=c::r:=hch;obtain⟨k0,g0⟩:=aJ.1 (EA hdr);have hcm:=ok.may c (by rw[hch];exact .head _);rw[<-hch];have q1:=pp (.inr (.inr ⟨rfl,rfl⟩)) s_ 1 3 k_ k_ 1 3 rfl rfl;have q2:=pp (ki (b:=[]++au 1 3)) s_ 0 4 k_ k_ 0 4 rfl rfl;have hb1:=amb f.common;have xl:=Jt (l:=f.chans)
 cases hco:f.common with
 |false =>
  have q3:=pp (ki (b:=[]++au 1 3++au 0 4)) s_ 0 1 k_ k_ 0 1 rfl rfl;have e:ic 2 f=[]++au 1 3++au 0 4++au 0 1:=by rw[ic,aa k_,hco];rfl
  obtain⟨M,h1⟩:=hL (ic 2 f) (by rw[e];simp);have h2:=hTr (ic 2 f++iZ R f.common f.chans) M (by rw[aj,e];simp;omega);have ew:wN (ic 2 f++iZ R f.common f.chans++nk f.fill++au 7 3)=ml R 2 f:=rfl;rw[<-e]at q3;rw[ew]at h2;rw[hco]at q1 q2 q3 h1 h2 hb1;generalize ml R 2 f=W at *;generalize ic 2 f++iZ R false f.chans=B2 at *;generalize ic 2 f=B1 at *;generalize []++au 1 3++au 0 4=B00 at *;generalize []++au 1 3=B0 at *;simp only[cond]at hb1;simp(maxSteps:=9^6)(disch:=omega)[↓ac,↓aa,-bl,y1,y2,y3,y4,y5,z1,z2,z3,z4,z5,hco,hb1,q1,q2,q3,h1,h2]
 |true =>
  have ht:=ok.rest;simp only[hch,I9,hco,bj]at ht;have hil:=Ko (i:=c.info);have q3:=pp (ki (b:=[]++au 1 3++au 0 4)) s_ 1 1 k_ k_ 1 1 rfl rfl;have q4:=ajz ([]++au 1 3++au 0 4++au 1 1) s_ _ (.inl rfl) R c.info (hf.chans.2 c (by rw[hch];exact .head _)).info;rw[ac hr,ar,ac hcm.info]at q4;have q5:=pp (ki (b:=[]++au 1 3++au 0 4++au 1 1++lH c.info)) g_ f.mask.toNat 2 k_ o_ f.mask 2 o_ rfl;have q6:=apG [A_ R,A_ 2,B_ cb,A_ cz] [.d (.lst (eq f.chans)),B_ true,A_ f.mask,Y,Z] f.bands.flatten o_ 3 f.bands.flatten 0 ([]++au 1 3++au 0 4++au 1 1++lH c.info++au f.mask.toNat 2) rfl (by simp only[aj,cM,bt];omega);obtain⟨v,v1,v2⟩:=ayh f.bands hf.bands.1 o_ Y hY;have e:ic 2 f=[]++au 1 3++au 0 4++au 1 1++lH c.info++au f.mask.toNat 2++tV f.bands.flatten:=by rw[ic,aa k_,hco,ac rfl,TE,hch];rfl
  have hml:=Sb (l:=f.bands.flatten);obtain⟨M,h1⟩:=hL (ic 2 f) (by rw[e];simp;omega);have h2:=hTr (ic 2 f++iZ R f.common f.chans) M (by rw[aj,e];simp;omega);have ew:wN (ic 2 f++iZ R f.common f.chans++nk f.fill++au 7 3)=ml R 2 f:=rfl;rw[<-e]at q6;rw[ew]at h2;rw[hco]at q1 q2 q3 q5 h1 h2 hb1;rw[c0]at q6;simp only[hpW,aO.cells]at q4 q6;generalize ml R 2 f=W at *;generalize ic 2 f++iZ R true f.chans=B2 at *;generalize ic 2 f=B1 at *;generalize []++au 1 3++au 0 4++au 1 1++lH c.info++au f.mask.toNat 2=B04 at *;generalize []++au 1 3++au 0 4++au 1 1++lH c.info=B03 at *;generalize []++au 1 3++au 0 4++au 1 1=B02 at *;generalize []++au 1 3++au 0 4=B01 at *;generalize []++au 1 3=B0 at *;obtain⟨vw1,vw2⟩:=hY.view;have hfv:lenOf (share (aE 1 (iD f.bands.flatten)))=some f.bands.flatten.length:=by
   rw[<-xV (l:=f.bands.flatten)]
   cases iD f.bands.flatten<;>rfl
  simp only[cond]at hb1;clear e hbl hml;generalize f.bands.flatten=FL at *;simp(maxSteps:=9^6)(disch:=omega)[↓ac,↓aa,-bl,y1,y2,y3,y4,y5,z1,z2,z3,z4,z5,hco,g0,hb1,q1,q2,q3,q4,q5,q6,vw1,vw2,v1,v2,hfv,h1,h2]
def oy (rt n:Int):Prop:=ep rt∧(n=1∨n=2)
def Z3 (rt n:Int)(cb:Bool)(cz:Int):(oy rt n∧bq prog J2 [lO rt n cb cz]=some (B_ true))∨(¬oy rt n∧bq prog J2 [lO rt n cb cz]=some (B_ false)):=by
 rw[aG aiH agh rfl];by_cases h1:0<=rt
 rotate_left
 .refine .inr ⟨λh=>h1 h.1.1,?_⟩;simp(maxSteps:=9^6)(disch:=omega)[↓ac,↓aa]
 by_cases h2:rt<=11
 rotate_left
 .refine .inr ⟨λh=>h2 h.1.2,?_⟩;simp(maxSteps:=9^6)(disch:=omega)[↓ac,↓aa]
 by_cases h3:n=1
 .refine .inl ⟨⟨⟨h1,h2⟩,.inl h3⟩,?_⟩;simp(maxSteps:=9^6)(disch:=omega)[↓ac,↓aa,h3]
 by_cases h4:n=2
 .refine .inl ⟨⟨⟨h1,h2⟩,.inr h4⟩,?_⟩;simp(maxSteps:=9^6)(disch:=omega)[↓ac,↓aa,h4]
 .refine .inr ⟨λh=>h.2.elim h3 h4,?_⟩;simp(maxSteps:=9^6)(disch:=omega)[↓ac,↓aa,h3,h4]
def amr {R:Nat}(hR:R<=11){n:Int}{f:fJ}(hf:f.Fit)(ok:tw R n f)(hn:n<=2):(ml R n f).length<=400000000:=by
 have h1:=OF hR (q:=f.common) (l:=f.chans) λc hc=>⟨hf.chans.2 c hc,ok.may c hc⟩
 have h2:=adH hR ok;have h3:=Sb (l:=f.bands.flatten);have h4:=ok.len;have h5:=ok.fill;have h6:(nk f.fill).length<=10000:=by
  unfold nk;split
  .simp
  .simp only[aj,cM,dI];split<;>simp<;>omega
 have h7:(TE f).length<=20:=by
  unfold TE;split
  .simp
  .exact Ko
 have h8:(ic n f).length<=1000:=by
  unfold ic;split
  .simp
  .split
   .simp only[aj,cM];omega
   .simp
 have h9:∀m,Lp m<=7:=λm=>by unfold Lp;omega
 have h10:=h9 (ic n f++iZ R f.common f.chans++nk f.fill++au 7 3).length;rw[ml,wN,aj,aL];simp only[aj,cM]at h10⊢;omega
theorem fy.one {x:AV}{l:E_}(h:fy x l):((∀hp,viewOne hp x=some x)∧mW x=x)∧ud x=false:=by
 rcases h with rfl|⟨rfl,rfl⟩<;>exact⟨⟨λ_=>rfl,rfl⟩,rfl⟩
def auQ (rt n:Int)(cb:Bool)(cz:Int)(f:fJ)(hf:f.Fit)(X Y Z:AV)(hX:fy X (eq f.chans))(hY:fy Y (eh f.bands))(hZ:fy Z (ai f.fill)) :
  (oy rt n∧tw rt.toNat n f∧bq prog Ps [lO rt n cb cz,pO f X Y Z]=some (.tup [A_ ((ml rt.toNat n f).length),A_ 0]))∨
  (¬(oy rt n∧tw rt.toNat n f)∧∃e:Int,e≠0∧bq prog Ps [lO rt n cb cz,pO f X Y Z]=some (.tup [A_ 0,A_ e])):=by
 obtain⟨⟨x1,x2,x3⟩,x4,x5⟩:=hX.facts;obtain⟨⟨y1,y2,y3⟩,y4,y5⟩:=hY.facts;obtain⟨⟨z1,z2,z3⟩,z4,z5⟩:=hZ.facts;obtain⟨⟨vx,ux⟩,wx⟩:=hX.one;obtain⟨⟨vy,uy⟩,wy⟩:=hY.one;obtain⟨⟨vz,uz⟩,wz⟩:=hZ.one;have hcf:=Z3 rt n cb cz;simp only[lO,pO]at hcf;rcases hcf with ⟨hc,ec⟩|⟨hc,ec⟩
 rotate_left
 .refine .inr ⟨λh=>hc h.1,2,k_,?_⟩;rw[aG OI PE rfl];simp(maxSteps:=9^6)(disch:=omega)[↓ac,↓aa,-bl,x1,x2,x3,x4,y1,y2,y3,y4,z1,z2,z3,z4,ec]
 have hrg:=aqe rt n cb cz hc.1 hc.2 f hf X Y Z hX hY hZ;simp only[lO,pO]at hrg;rcases hrg with ⟨hr,er⟩|⟨hr,er⟩
 rotate_left
 .refine .inr ⟨λh=>hr h.2,8,k_,?_⟩;rw[aG OI PE rfl];simp(maxSteps:=9^6)(disch:=omega)[↓ac,↓aa,-bl,x1,x2,x3,x4,y1,y2,y3,y4,z1,z2,z3,z4,ux,uy,uz,vx,vy,vz,wx,wy,wz,ec,er]
 refine .inl ⟨hc,hr,?_⟩;obtain⟨R,rfl⟩:=aA hc.1.1;simp only[ar]at hr⊢;have hR:R<=11:=by have:=hc.1.2;omega
 have hw:=Vk R hR n hc.2 cb cz f hf hr X Y Z hX hY hZ;have hwl:=amr hR hf hr (by rcases hc.2 with h|h<;>omega);have hbl:=bB (l:=ml R n f);simp only[lO,pO]at hw;generalize ml R n f=W at *;rw[aG OI PE rfl];simp(maxSteps:=9^6)(disch:=omega)[↓ac,↓aa,-bl,x1,x2,x3,x4,y1,y2,y3,y4,z1,z2,z3,z4,ux,uy,uz,vx,vy,vz,wx,wy,wz,ec,er,hw]
def apU (rt n:Int)(cb:Bool)(cz:Int)(f:fJ)(hf:f.Fit)(X Y Z:AV)(hX:fy X (eq f.chans))(hY:fy Y (eh f.bands))(hZ:fy Z (ai f.fill)) :
  (oy rt n∧tw rt.toNat n f∧((ml rt.toNat n f).length:Int)<=1536*n∧bq prog zO [lO rt n cb cz,pO f X Y Z]=some (A_ 0))∨
  (¬(oy rt n∧tw rt.toNat n f∧((ml rt.toNat n f).length:Int)<=1536*n)∧∃e:Int,e≠0∧bq prog zO [lO rt n cb cz,pO f X Y Z]=some (A_ e)):=by
 obtain⟨⟨x1,x2,x3⟩,x4,x5⟩:=hX.facts;obtain⟨⟨y1,y2,y3⟩,y4,y5⟩:=hY.facts;obtain⟨⟨z1,z2,z3⟩,z4,z5⟩:=hZ.facts;obtain⟨⟨vx,ux⟩,wx⟩:=hX.one;obtain⟨⟨vy,uy⟩,wy⟩:=hY.one;obtain⟨⟨vz,uz⟩,wz⟩:=hZ.one;have hb:=auQ rt n cb cz f hf X Y Z hX hY hZ;simp only[lO,pO]at hb;rw[aG akf ala rfl];rcases hb with ⟨hc,hr,eb⟩|⟨hx,e,he,eb⟩
 .have hwl:=amr (by have:=hc.1;omega) hf hr (by rcases hc.2 with h|h<;>omega);have hn:=hc.2;by_cases hl:((ml rt.toNat n f).length:Int)<=1536*n
  .refine .inl ⟨hc,hr,hl,?_⟩;generalize ml rt.toNat n f=W at *;simp(maxSteps:=9^6)(disch:=omega)[↓ac,↓aa,-bl,x1,x2,x3,x4,y1,y2,y3,y4,z1,z2,z3,z4,ux,uy,uz,vx,vy,vz,wx,wy,wz,eb]
  .refine .inr ⟨λh=>hl h.2.2,9,k_,?_⟩;generalize ml rt.toNat n f=W at *;simp(maxSteps:=9^6)(disch:=omega)[↓ac,↓aa,-bl,x1,x2,x3,x4,y1,y2,y3,y4,z1,z2,z3,z4,ux,uy,uz,vx,vy,vz,wx,wy,wz,eb]
 .refine .inr ⟨λh=>hx ⟨h.1,h.2.1⟩,e,he,?_⟩;simp(maxSteps:=9^6)(disch:=omega)[↓ac,↓aa,-bl,x1,x2,x3,x4,y1,y2,y3,y4,z1,z2,z3,z4,ux,uy,uz,vx,vy,vz,wx,wy,wz,eb,he]
def F0:fJ:=⟨[c0],false,0,[],[]⟩
def azc:nG 0 c0:=by
 rcases Pu 0 c0 arT with ⟨_,h,_⟩|⟨_,_,h⟩|⟨_,h⟩
 .exact h
 .rw[ajC]at h;simp at h
 .rw[ajC]at h;simp at h
def azJ:F0.Fit where
 chans:=⟨by simp[F0],λc hc=>by simp only[F0,ay,b8,eg]at hc;subst hc;exact arT⟩
 mask:=k_
 bands:=by simp[F0]
 fill:=by simp[F0]
 fillI:=by simp[F0]
def avV:oy 0 1∧tw 0 1 F0:=by
 refine⟨⟨k_,.inl rfl⟩,rfl,k_,k_,λc hc=>?_,?_⟩
 .simp only[F0,ay,b8,eg]at hc;subst hc;exact azc
 .exact⟨rfl,rfl⟩
def axq:ml 0 1 F0=List.replicate 29 0++[1,1,1]:=e_
def BN {m:Nat}{xs:E_}:fy (share (aE m xs)) xs:=by
 cases xs with
 |nil=>exact .inr ⟨rfl,rfl⟩
 |cons x r=>exact .inl rfl
def awY {n:Nat}:List.replicate n [D.bool false]=iD (List.replicate n false):=by simp[iD]
def x0T (sh:Bool):Nat:=if sh then 1 else 2
def x1T (sh:Bool):Nat:=if sh then 4 else 6
def x2T (sh:Bool):Nat:=if sh then 3 else 5
def W5 (b:C_)(i:aO)(a:Int):Option (O_×Bool×RS):=p9 b (x0T i.short) (x1T i.short) (x2T i.short) i.many false ⟨a,0⟩
def PG (b:C_)(i:aO)(a:Int):R O_ :=
 match W5 b i a with
 |none=>.er 7
 |some (t,o,st)=>if st.e≠0 then .er (st.e-1) else if o then .er 7 else .ok t st.a.toNat
def aaJ {b:C_}{x1 x2:Nat}{fine:Bool}:∀{k:Nat}{o:Bool}{st:RS}{l:AA_}{o2:Bool}{st2:RS},jN b x1 x2 fine k o st=some (l,o2,st2)->l.length=k∧∀f∈l,f.coefs.length<=12
 |0,o,st,l,o2,st2,e=>by
  rw[jN]at e;injection e with e
  injection e with e1 e
  subst e1;exact⟨rfl,s_⟩
 |k+1,o,st,l,o2,st2,e=>by
  rw[jN]at e;split at e
  .exact absurd e (by simp)
  .rename_i hbad
   cases hq:jN b x1 x2 fine k (o ||KM b x1 x2 fine st) (yR b x1 x2 fine st) with
   |none=>rw[hq]at e;exact absurd e (by simp)
   |some q =>
    obtain⟨q1,q2,q3⟩:=q;rw[hq]at e;injection e with e;injection e with e1 e
    obtain⟨i1,i2⟩:=aaJ hq;subst e1;refine⟨by simp[i1],λf hf=>?_⟩;rcases ay.1 hf with rfl|hf
    .unfold MJ;split
     .simp
     .rename_i h0;simp only[abn];have he:(zR b x1 x2 st).e=0:=azj h0;rcases bD 12 (tu b x1 x2 st) with h|h
      .exact absurd ⟨h,he⟩ hbad
      .exact h
    .exact i2 f hf
def aah {b:C_}{x0 x1 x2:Nat}(hb:b.length<=1000000000)(h2:x0<=2):∀{k:Nat}{o:Bool}{st:RS}{t:O_}{o2:Bool}{st2:RS},st.fit->p9 b x0 x1 x2 k o st=some (t,o2,st2)->st2.fit∧t.length=k∧∀l∈t,l.length<=3∧∀f∈l,f.coefs.length<=12
 |0,o,st,t,o2,st2,h,e=>by
  rw[p9]at e;injection e with e
  injection e with e1 e
  injection e with e2 e3
  subst e1 e3;exact⟨h,rfl,s_⟩
 |k+1,o,st,t,o2,st2,h,e=>by
  rw[p9]at e
  cases hq:jN b x1 x2 (Tq b x0 st) (sV b st x0) o (DP b x0 st) with
  |none=>rw[hq]at e;exact absurd e (by simp)
  |some q =>
   obtain⟨q1,q2,q3⟩:=q;rw[hq]at e;simp only at e
   cases hw:p9 b x0 x1 x2 k q2 q3 with
   |none=>rw[hw]at e;exact absurd e (by simp)
   |some w =>
    obtain⟨w1,w2,w3⟩:=w;rw[hw]at e;injection e with e;injection e with e1 e
    injection e with e2 e3
    obtain⟨f1,f2⟩:=WW hb (amm hb h) hq;obtain⟨i1,i2,i3⟩:=aah hb h2 f1 hw;obtain⟨j1,j2⟩:=aaJ hq;have v1:=wC (b:=b) (st:=st) (s:=x0);have k1:2 ^ x0<=2 ^ 2:=aw o_ h2;simp only[ar]at v1;subst e1 e3;refine⟨i1,by simp[i2],λl hl=>?_⟩;rcases ay.1 hl with rfl|hl
    .exact⟨o_,j2⟩
    .exact i3 l hl
abbrev pTn (b:C_)(i:aO)(t:O_)(n:Nat):Prop:=t.length=i.many∧n<=b.length∧∀l∈t,l.length<=3∧∀f∈l,f.coefs.length<=12
def atN {h:am}{t:O_}{n e:Int}(ht:t≠[]):iu h (.tup [aE 1 (dk t),A_ n,A_ e])=some (.tup [aE 1 (dk t),A_ n,A_ e]):=by
 cases t with
 |nil=>exact absurd rfl ht
 |cons x r=>rfl
def RS.inB (b:C_)(st:RS):Prop:=0<=st.a∧st.a<=b.length
def Fm {b:C_}{st:RS}{s:Int}(h:st.e=0∨st.inB b):(sN b st s).inB b:=by
 unfold sN;split
 .have:=apd (b:=b) (a:=st.a) (s:=s);show 0<=_∧_;simp only[];omega
 .rename_i he;exact h.resolve_left he
def ash {b:C_}{sz:Nat}:∀{k:Nat}{st:RS},st.inB b->(xr b sz k st).inB b
 |0,_,h=>h
 |_+1,_,h=>by rw[xr];exact ash (Fm (.inr h))
def aBw {b:C_}{x1 x2:Nat}{fine:Bool}{st:RS}(h:st.inB b):(yR b x1 x2 fine st).inB b:=by
 unfold yR;split
 .exact Fm (.inr (Fm (.inr h)))
 .exact ash (Fm (.inr (Fm (.inr (Fm (.inr (Fm (.inr h))))))))
def amN {b:C_}{x1 x2:Nat}{fine:Bool}:∀{k:Nat}{o:Bool}{st:RS}{l:AA_}{o2:Bool}{st2:RS},st.inB b->jN b x1 x2 fine k o st=some (l,o2,st2)->st2.inB b
 |0,o,st,l,o2,st2,h,e=>by
  rw[jN]at e;injection e with e
  injection e with e1 e
  injection e with e2 e3
  subst e3;exact h
 |k+1,o,st,l,o2,st2,h,e=>by
  rw[jN]at e;split at e
  .exact absurd e (by simp)
  .cases hq:jN b x1 x2 fine k (o ||KM b x1 x2 fine st) (yR b x1 x2 fine st) with
   |none=>rw[hq]at e;exact absurd e (by simp)
   |some q =>
    obtain⟨q1,q2,q3⟩:=q;rw[hq]at e;injection e with e;injection e with e1 e
    injection e with e2 e3
    subst e3;exact amN (aBw h) hq
def aAi {b:C_}{x0:Nat}{st:RS}(h:st.e=0∨st.inB b):(DP b x0 st).inB b:=by
 unfold DP;split
 .exact Fm (.inr (Fm h))
 .exact Fm h
def abx {b:C_}{x0 x1 x2:Nat}:∀{k:Nat}{o:Bool}{st:RS}{t:O_}{o2:Bool}{st2:RS},st.inB b∨(st.e=0∧1<=k)->p9 b x0 x1 x2 k o st=some (t,o2,st2)->st2.inB b
 |0,o,st,t,o2,st2,h,e=>by
  rw[p9]at e;injection e with e
  injection e with e1 e
  injection e with e2 e3
  subst e3;rcases h with h|⟨_,h⟩
  .exact h
  .omega
 |k+1,o,st,t,o2,st2,h,e=>by
  rw[p9]at e
  cases hq:jN b x1 x2 (Tq b x0 st) (sV b st x0) o (DP b x0 st) with
  |none=>rw[hq]at e;exact absurd e (by simp)
  |some q =>
   obtain⟨q1,q2,q3⟩:=q;rw[hq]at e;simp only at e
   cases hw:p9 b x0 x1 x2 k q2 q3 with
   |none=>rw[hw]at e;exact absurd e (by simp)
   |some w =>
    obtain⟨w1,w2,w3⟩:=w;rw[hw]at e;injection e with e;injection e with e1 e
    injection e with e2 e3
    subst e3;have h0:st.e=0∨st.inB b:=by rcases h with h|⟨h,_⟩;exact .inr h;exact .inl h
    exact abx (.inl (amN (aAi h0) hq)) hw
def zD (i:aO):1<=i.many∧i.many<=8:=by unfold aO.many;split<;>omega
theorem arq {b:C_}{i:aO}{a:Int}(hb:b.length<=1000000000)(ha:i64 a){t:O_}{n:Nat}(h:PG b i a=.ok t n):pTn b i t n:=by
 rw[PG]at h
 cases hq:W5 b i a with
 |none=>rw[hq]at h;exact absurd h (by simp)
 |some q =>
  obtain⟨t',o,st⟩:=q;rw[hq]at h;simp only at h;rw[W5]at hq;obtain⟨j1,j2,j3⟩:=aah (st:=⟨a,0⟩) hb (by unfold x0T;split<;>omega) (show RS.fit ⟨a,0⟩ from ha) hq;have j4:=abx (.inr ⟨rfl,(zD i).1⟩) hq;split at h
  .exact absurd h (by simp)
  .split at h
   .exact absurd h (by simp)
   .injection h with g1 g2
    subst g1 g2;obtain⟨k1,k2⟩:=j4;exact⟨j2,o_,j3⟩
def akC (b:C_)(hb:b.length<=1000000000)(a:Int)(ha:i64 a)(i:aO)(hi:i.Fit)(hm:i.may 11):bq prog QG [.d (.lst (ai b)),A_ a,.agg i.cells] =
  rK (pTn b i) (PG b i a) (λt n=>some (.tup [aE 1 (dk t),A_ n,A_ 0])) (λe=>some (.tup [.nl,A_ 0,A_ (e+1)])):=by
 have hw:=oZ i hi;rw[ac hm]at hw;have hsz:=Aq i;obtain⟨m1,m8⟩:=zD i;obtain⟨M,hM,hL⟩:=axR b hb (A_ (if i.short then 1 else 3)) (A_ (if i.short then 7 else 12)) (x0T i.short) (x1T i.short) (x2T i.short) (by unfold x0T x1T x2T;cases i.short<;>decide) i.many m8 i.many 0 5 false ⟨a,0⟩ [] o_ rfl ha (ak _);have c0:((0:Nat):Int)=0:=rfl;have n0:dk []=[]:=rfl;have hq0:p9 b (x0T i.short) (x1T i.short) (x2T i.short) i.many false ⟨a,0⟩=W5 b i a:=rfl;have hra:ra ⟨a,0⟩=a:=rfl;have hre:re ⟨a,0⟩=0:=rfl;rw[hq0]at hL;simp only[c0,n0,qU,aK,HT,hra,hre]at hL;have hszv:mL i.short=[A_ (x0T i.short:Nat),A_ (x1T i.short:Nat),A_ (x2T i.short:Nat),A_ (if i.short then 1 else 3),A_ (if i.short then 7 else 12)]:=by
  cases i.short<;>rfl
 rw[hszv]at hsz;have hp:=λt n=>arq (b:=b) (i:=i) (a:=a) (t:=t) (n:=n) hb ha
 have hin0:∀t o st,W5 b i a=some (t,o,st)->st.inB b:=λt o st h=>abx (.inr ⟨rfl,m1⟩) h
 rw[PG]at hp⊢;rw[aG ae7 ae2 rfl];simp only[aO.cells]at hw hsz⊢;generalize x0T i.short=X0 at *;generalize x1T i.short=X1 at *;generalize x2T i.short=X2 at *;generalize (if i.short then (1:Int) else 3)=Y3 at *;generalize (if i.short then (7:Int) else 12)=Y4 at *
 cases hq:W5 b i a with
 |none =>
  rw[hq]at hL;simp only at hL⊢;rw[jf];simp(maxSteps:=9^6)(disch:=omega)[↓ac,↓aa,hw,hsz,hL]
 |some q =>
  obtain⟨t,o,st⟩:=q;rw[hq]at hL hp;simp only at hL hp⊢;obtain⟨sa,se⟩:=st;by_cases he:se=0
  .subst he;have hin:=hin0 t o ⟨sa,0⟩ hq;obtain⟨k1,k2⟩:=hin;simp only at k1 k2;obtain⟨A,rfl⟩:=aA k1;have hra2:ra ⟨(A:Int),0⟩=(A:Int):=rfl;have hre2:re ⟨(A:Int),0⟩=0:=rfl;simp only[hra2,hre2,c0]at hL
   cases o with
   |true =>
    simp only[ne_eq,not_true_eq_false,bm,bj]at hp⊢;rw[jf];simp(maxSteps:=9^6)(disch:=omega)[↓ac,↓aa,hw,hsz,hL]
   |false =>
    simp only[ne_eq,not_true_eq_false,bm,ao]at hp⊢;have hpt:=hp t _ rfl;have htn:t≠[]:=λh=>by rw[h]at hpt;have:=hpt.1;simp at this;omega
    rw[fp hpt];have hrt:=λh n e=>atN (h:=h) (n:=n) (e:=e) htn
    simp(maxSteps:=9^6)(disch:=omega)[↓ac,↓aa,hw,hsz,hL,-aal,hrt]
  .have hre2:re ⟨sa,se⟩=se:=rfl;have hse:((se-1:Nat):Int)+1=(se:Int):=o_;simp only[hre2]at hL;simp only[ne_eq,he,not_false_eq_true,bj]at hp⊢;rw[jf,hse];simp(maxSteps:=9^6)(disch:=omega)[↓ac,↓aa,hw,hsz,hL,he]
abbrev AQ:D_:=[.ptr 0 0,.ptr 5 0,.ptr 4 0,.ptr 6 0]
abbrev ajh:AV:=.fn Ls [] [.ptr 0 0,.ptr 5 0,.ptr 6 0]
abbrev xC:D_:=[.fn zw [] AQ,.fn oH [] [.ptr 3 0,.ptr 4 0,.ptr 2 0,.ptr 0 0,.ptr 5 0,.ptr 1 0,.ptr 6 0],.fn zB [] AQ,.fn zC [] AQ,.fn zQ [] [.ptr 9 0,.ptr 7 0],.fn zy [] [.ptr 9 0,.ptr 8 0],.fn oC [] [.ptr 8 0,.ptr 0 0,.ptr 5 0,.ptr 4 0,.ptr 6 0],.fn zN [] [.ptr 7 0,.ptr 9 0]]
abbrev fG (b:C_)(r:Int)(q:Bool)(iv cs:D_)(nx e od is:Int):am:=[(0,.cells [.d (.lst (ai b))]),(1,.cells [A_ r]),(2,.cells [B_ q]),(3,.cells iv),(4,.cells cs),(5,.cells [A_ nx]),(6,.cells [A_ e]),(7,.cells [A_ od]),(8,.cells [A_ is]),(9,.cells [ajh]),(10,.cells xC)]
def atw {m:Nat}{xs:E_}:Cq (share (aE m xs))=share (aE m xs):=by cases xs<;>rfl
def aeG (x:AV)(l:G_)(hl:l.length<=1000000000)(hx:elems [] x=some (aI l)):bq prog DH [x]=some (.own true 1 (aI l)):=by
 have hl2:(aI l).length=l.length:=iR;rw[aG QZ QY rfl];have h4:Nat.ble l.length 4294967296=true:=by rw[bp];omega
 rw[jq];simp(maxSteps:=9^6)(disch:=omega)[df,Nf,hx,h4]
def adf (i:aO)(hi:i.groups.length<=1000000):bq prog FA [.agg i.cells]=some (.agg (SJ i)):=by
 have h:=aeG (.d (.lst (aI i.groups))) i.groups o_ rfl;simp only[aO.cells];rw[aG aks ale rfl];simp(maxSteps:=9^6)(disch:=omega)[↓ac,↓aa,h]
abbrev zI:D_:=[.d (.int .u8 0),.d (.int .u8 0),A_ 0,.nl]
def apC:bq prog FA [.agg zI]=some (.agg (SJ ⟨0,0,0,[]⟩)):=BP 400 (by kernel_rfl)
section
variable (b:C_)(r:Int)(q:Bool)(iv:D_)(nx od is:Int)(N:Nat)
theorem ayJ (hq:q=true)(i:aO)(hi:i.groups.length<=1000000)(hiv:iv=i.cells)(a0 a1 a2 a3 a4 a5 a6 a7 a8:AV):(Dn prog).call oH [.ptr 3 0,.ptr 4 0,.ptr 2 0,.ptr 0 0,.ptr 5 0,.ptr 1 0,.ptr 6 0] ⟨fG b r q iv [a0,a1,a2,a3,a4,a5,a6,a7,a8] nx 0 od is,N⟩ =
  some (.tup [],⟨fG b r q iv [a0,.d (.int .u8 i.seq),.d (.int .u8 i.shape),A_ i.max,.own false 1 (aI i.groups),a5,a6,a7,a8] nx 0 od is,N⟩):=by
 subst hq hiv;have h:=adf i hi;simp only[aO.cells,SJ]at h⊢;rw[be VU Wp rfl];simp(maxSteps:=9^6)(disch:=omega)[↓ac,↓aa,h]
theorem axi (i:aO)(hi:i.Fit)(hm:i.may 11)(h1:is≠1)(a0 a5 a6 a7 a8:AV):(Dn prog).call oC [.ptr 8 0,.ptr 0 0,.ptr 5 0,.ptr 4 0,.ptr 6 0] ⟨fG b r q iv [a0,.d (.int .u8 i.seq),.d (.int .u8 i.shape),A_ i.max,.own false 1 (aI i.groups),a5,a6,a7,a8] nx 0 od is,N⟩ =
  some (.tup [],⟨fG b r q iv [a0,.d (.int .u8 i.seq),.d (.int .u8 i.shape),A_ i.max,.own false 1 (aI i.groups),a5,a6,.own false 1 (dk (List.replicate i.many [])),a8] nx 0 od is,N⟩):=by
 have hw:=oZ i hi;rw[ac hm]at hw;have hmm:=zD i;have hk:=Ea (z:=[.lst []]) (n:=i.many) o_;have e:List.replicate i.many [D.lst []]=dk (List.replicate i.many []):=by simp[dk,fh]
 rw[e]at hk;simp only[aO.cells]at hw;rw[be We Vx rfl];simp(maxSteps:=9^6)(disch:=omega)[↓ac,↓aa,h1,hw,hk]
end
section
variable (b:C_)(hb:b.length<=1000000000)(r:Int)(q:Bool)(iv:D_)(nx od is:Int)(hn:i64 nx)(N:Nat)
include hb hn
theorem azF (a0 a1 a2 a3 a4 a5 a6 a7 a8:AV):(Dn prog).call zw AQ ⟨fG b r q iv [a0,a1,a2,a3,a4,a5,a6,a7,a8] nx 0 od is,N⟩ =
  rK (pG b 8) (bi b nx 8) (λv n=>some (.tup [],⟨fG b r q iv [A_ v,a1,a2,a3,a4,a5,a6,a7,a8] n 0 od is,N⟩)) (λe=>some (.tup [],⟨fG b r q iv [A_ 0,a1,a2,a3,a4,a5,a6,a7,a8] 0 (e+1) od is,N⟩)):=by
 have h:=ik b nx 8 hb hn;rw[be ajN akp rfl];simp(maxSteps:=9^6)(disch:=omega)[↓ac,↓aa,h]
theorem ao1 (cs:D_):(Dn prog).call Ls [.ptr 0 0,.ptr 5 0,.ptr 6 0] ⟨fG b r q iv cs nx 0 od is,N⟩ =
  rK (pG b 1) (bi b nx 1) (λv n=>some (A_ v,⟨fG b r q iv cs n 0 od is,N⟩)) (λe=>some (A_ 0,⟨fG b r q iv cs 0 (e+1) od is,N⟩)):=by
 have h:=ik b nx 1 hb hn;rw[be akk ajR rfl];simp(maxSteps:=9^6)(disch:=omega)[↓ac,↓aa,h]
theorem aAC (cs:D_):(Dn prog).call zQ [.ptr 9 0,.ptr 7 0] ⟨fG b r q iv cs nx 0 od is,N⟩ =
  rK (pG b 1) (bi b nx 1) (λv n=>some (.tup [],⟨fG b r q iv cs n 0 v is,N⟩)) (λe=>some (.tup [],⟨fG b r q iv cs 0 (e+1) 0 is,N⟩)):=by
 have h:=ao1 b hb r q iv nx od is hn N cs;rw[be akI ald rfl];simp(maxSteps:=9^6)(disch:=omega)[↓ac,↓aa,h]
theorem aA7 (cs:D_):(Dn prog).call zy [.ptr 9 0,.ptr 8 0] ⟨fG b r q iv cs nx 0 od is,N⟩ =
  rK (pG b 1) (bi b nx 1) (λv n=>some (.tup [],⟨fG b r q iv cs n 0 od v,N⟩)) (λe=>some (.tup [],⟨fG b r q iv cs 0 (e+1) od 0,N⟩)):=by
 have h:=ao1 b hb r q iv nx od is hn N cs;rw[be akw ajY rfl];simp(maxSteps:=9^6)(disch:=omega)[↓ac,↓aa,h]
theorem aBx (cs:D_)(ho:0<=od∧od<=1):(Dn prog).call zN [.ptr 7 0,.ptr 9 0] ⟨fG b r q iv cs nx 0 od is,N⟩ =
  rK (pG b 1) (bi b nx 1) (λv n=>some (.tup [],⟨fG b r q iv cs n 0 (ZQ od v) is,N⟩)) (λe=>some (.tup [],⟨fG b r q iv cs 0 (e+1) od is,N⟩)):=by
 have h:=ao1 b hb r q iv nx od is hn N cs;rw[be akU alu rfl];simp(maxSteps:=9^6)(disch:=omega)[↓ac,↓aa,h];refine ZF (λ_ _ h=>eV h) (λv n e2 hp=>?_) λe e2=>by simp(maxSteps:=9^6)(disch:=omega)[Yp]
 have hv:v<2:=hp.1;simp(maxSteps:=9^6)(disch:=omega)[Yp]
theorem aBK (i:aO)(hi:i.Fit)(hm:i.may 11)(hg:i.groups≠[])(a0 a5 a6 a7 a8:AV):(Dn prog).call zB AQ ⟨fG b r q iv [a0,.d (.int .u8 i.seq),.d (.int .u8 i.shape),A_ i.max,.own false 1 (aI i.groups),a5,a6,a7,a8] nx 0 od is,N⟩ =
  rK (Wb b i.max.toNat i.groups.length) (vJ b i nx) (λg n=>some (.tup [],⟨fG b r q iv [a0,.d (.int .u8 i.seq),.d (.int .u8 i.shape),A_ i.max,.own false 1 (aI i.groups),aE 1 (bO g),a6,a7,a8] n 0 od is,N⟩)) (λe=>some (.tup [],⟨fG b r q iv [a0,.d (.int .u8 i.seq),.d (.int .u8 i.shape),A_ i.max,.own false 1 (aI i.groups),.nl,a6,a7,a8] 0 (e+1) od is,N⟩)):=by
 have h:=atb b nx i hb hn hi hm;simp only[aO.cells]at h;rw[be aj2 ajJ rfl];simp(maxSteps:=9^6)(disch:=omega)[↓ac,↓aa,-bl,h]
theorem azi (g:Int)(hg:0<=g∧g<=255)(m:Int)(hm:0<=m∧m<=40)(S:H_)(hS:S≠[])(hl:S.length<=8)(hf:fQ m S)(hf2:∀l∈S,l.length<=1000)(hok:∀l∈S,afW l∧aoA l)(a1 a2 a3 a4 a6 a7 a8:AV):(Dn prog).call zC AQ ⟨fG b r q iv [A_ g,a1,a2,a3,a4,aE 1 (bO S),a6,a7,a8] nx 0 od is,N⟩ =
  rK (pSc b S) (zG b S nx g) (λt n=>some (.tup [],⟨fG b r q iv [A_ g,a1,a2,a3,a4,aE 1 (bO S),share (aE 1 (dj t)),a7,a8] n 0 od is,N⟩)) (λe=>some (.tup [],⟨fG b r q iv [A_ g,a1,a2,a3,a4,aE 1 (bO S),.nl,a7,a8] 0 (e+1) od is,N⟩)):=by
 have h:=arm b hb nx g m hn hg S hl hm hf hf2 hok;rw[be aj7 ajP rfl]
 cases S with
 |nil=>exact absurd rfl hS
 |cons s0 S0 =>
  have e:aE 1 (bO (s0::S0))=.own false 1 (bO (s0::S0)):=rfl;rw[e];simp(maxSteps:=9^6)(disch:=omega)[↓ac,↓aa,-bl,h,alU,atw,ahW,Im,Et]
theorem ama (hq:q=false)(hr:ep r)(i:aO)(hi:i.groups.length<=1000000)(hiv:iv=i.cells∨iv=zI)(a0 a1 a2 a3 a4 a5 a6 a7 a8:AV):(Dn prog).call oH [.ptr 3 0,.ptr 4 0,.ptr 2 0,.ptr 0 0,.ptr 5 0,.ptr 1 0,.ptr 6 0] ⟨fG b r q iv [a0,a1,a2,a3,a4,a5,a6,a7,a8] nx 0 od is,N⟩ =
  rK (pI b r.toNat) (nb b nx r.toNat) (λj n=>some (.tup [],⟨fG b r q iv [a0,.d (.int .u8 j.seq),.d (.int .u8 j.shape),A_ j.max,.own false 1 (aI j.groups),a5,a6,a7,a8] n 0 od is,N⟩)) (λe=>some (.tup [],⟨fG b r q iv [a0,.d (.int .u8 0),.d (.int .u8 0),A_ 0,.nl,a5,a6,a7,a8] 0 (e+1) od is,N⟩)):=by
 subst hq;have h:=adf i hi;have h0:=apC;have hG:=XN b nx r hb hn;rw[ac hr]at hG;rcases hiv with rfl|rfl
 all_goals
  simp only[aO.cells,SJ,XX]at h hG⊢;rw[be VU Wp rfl];simp(maxSteps:=9^6)(disch:=omega)[↓ac,↓aa,h,h0,hG]
theorem alL (i:aO)(hi:i.Fit)(hm:i.may 11)(h1:is=1)(a0 a5 a6 a7 a8:AV):(Dn prog).call oC [.ptr 8 0,.ptr 0 0,.ptr 5 0,.ptr 4 0,.ptr 6 0] ⟨fG b r q iv [a0,.d (.int .u8 i.seq),.d (.int .u8 i.shape),A_ i.max,.own false 1 (aI i.groups),a5,a6,a7,a8] nx 0 od is,N⟩ =
  rK (pTn b i) (PG b i nx) (λt n=>some (.tup [],⟨fG b r q iv [a0,.d (.int .u8 i.seq),.d (.int .u8 i.shape),A_ i.max,.own false 1 (aI i.groups),a5,a6,aE 1 (dk t),a8] n 0 od is,N⟩)) (λe=>some (.tup [],⟨fG b r q iv [a0,.d (.int .u8 i.seq),.d (.int .u8 i.shape),A_ i.max,.own false 1 (aI i.groups),a5,a6,.nl,a8] 0 (e+1) od is,N⟩)):=by
 subst h1;have h:=akC b hb nx hn i hi hm;simp only[aO.cells]at h;rw[be We Vx rfl];simp(maxSteps:=9^6)(disch:=omega)[↓ac,↓aa,-bl,h]
end
abbrev af0:D_:=[A_ 0,.d (.int .u8 0),.d (.int .u8 0),A_ 0,.nl,.nl,.nl,.nl,.nl]
abbrev abm (i:Int):aZ:=[(5,.ptr 0 0),(7,.ptr 1 0),(10,.ptr 4 0),(11,.ptr 5 0),(12,.ptr 6 0),(13,.ptr 7 0),(14,.ptr 8 0),(60,.sl 10 0 8),(61,A_ 8),(62,A_ i)]
abbrev azx:aZ:=[(5,.ptr 0 0),(7,.ptr 1 0),(10,.ptr 4 0),(11,.ptr 5 0),(12,.ptr 6 0),(13,.ptr 7 0),(14,.ptr 8 0)]
section
variable (b:C_)(r:Int)(q:Bool)(iv:D_)(N:Nat)
theorem aqX {cs cs2:D_}{nx nx2 e0 od od2 is is2:Int}(i:Nat)(hi:i<8)(f:FuncId)(caps:D_)(hF:xC[i]?=some (.fn f [] caps))(hF2:firm (firm (firm (share (.fn f [] caps))))=.fn f [] caps)
  (h:(Dn prog).call f caps ⟨fG b r q iv cs nx 0 od is,N⟩=some (.tup [],⟨fG b r q iv cs2 nx2 0 od2 is2,N⟩)) :
  (Dn prog).code (.loop kC) ⟨abm i,⟨fG b r q iv cs nx e0 od is,N⟩⟩=(Dn prog).code (.loop kC) ⟨abm ((i+1:Nat):Int),⟨fG b r q iv cs2 nx2 0 od2 is2,N⟩⟩:=by
 have c1:((i+1:Nat):Int)=(i:Int)+1:=rfl;obtain⟨hlt,e⟩:=aJ.1 hF;rw[c1,ah ID];simp(maxSteps:=9^6)(disch:=omega)[↓ac,↓aa,e,hF2,h]
theorem aze {cs:D_}{a0 a1 a2 a3 a4 a5 a6 a7 a8:AV}{nx nx2 e0 od od2 is is2:Int}(i:Nat)(hi:i<8)(f:FuncId)(caps:D_)(hF:xC[i]?=some (.fn f [] caps))(hF2:firm (firm (firm (share (.fn f [] caps))))=.fn f [] caps)(e:Nat)
  (h:(Dn prog).call f caps ⟨fG b r q iv cs nx 0 od is,N⟩=some (.tup [],⟨fG b r q iv [a0,a1,a2,a3,a4,a5,a6,a7,a8] nx2 ((e:Int)+1) od2 is2,N⟩)) :
  (Dn prog).code (.loop kC) ⟨abm i,⟨fG b r q iv cs nx e0 od is,N⟩⟩=some (.ret,⟨[(10,.ptr 4 0),(11,.ptr 5 0),(12,.ptr 6 0)],⟨fG b r q iv af0 0 ((e:Int)+1) od2 is2,N⟩⟩):=by
 obtain⟨hlt,e1⟩:=aJ.1 hF;rw[ah ID];simp(maxSteps:=9^6)(disch:=omega)[↓ac,↓aa,e1,hF2,h]
theorem ax0 {cs:D_}{nx e0 od is:Int}:(Dn prog).code (.loop kC) ⟨abm 8,⟨fG b r q iv cs nx e0 od is,N⟩⟩=some (.exit 0,⟨azx,⟨fG b r q iv cs nx e0 od is,N⟩⟩):=by
 rw[ah ID];simp(maxSteps:=9^6)(disch:=omega)[↓ac,↓aa]
end
abbrev lE:=@Int.toNat_of_nonneg
structure Hd where
 gain:Nat
 inf:aO
 S:H_
 T:K_
 F:O_
 od:Int
 is:Nat
def Dt (b:C_)(a:Int)(r:Nat)(q:Bool)(i:aO):R Hd :=
 (bi b a 8).bind λg n=>(if q then R.ok i n else nb b n r).bind λj n=>(vJ b j n).bind λS n=>(zG b S n g).bind λT n =>
  (bi b n 1).bind λo n=>(bi b n 1).bind λs n=>(if s=1 then PG b j n else R.ok (List.replicate j.many []) n).bind λF n=>(bi b n 1).bind λp n=>R.ok ⟨g,j,S,T,F,ZQ o p,s⟩ n
abbrev age (H:Hd):D_:=[A_ H.gain,.d (.int .u8 H.inf.seq),.d (.int .u8 H.inf.shape),A_ H.inf.max,.own false 1 (aI H.inf.groups),aE 1 (bO H.S),share (aE 1 (dj H.T)),aE 1 (dk H.F),.nl]
section
variable (b:C_)(r:Int)(q:Bool)(iv:D_)(N:Nat)
def Xh (e0:Int)(i:Nat)(cs:D_)(nx od is:Int)(x:R Hd):Prop :=
 (∀H n,x=.ok H n->(Dn prog).code (.loop kC) ⟨abm i,⟨fG b r q iv cs nx e0 od is,N⟩⟩=some (.exit 0,⟨azx,⟨fG b r q iv (age H) n 0 H.od H.is,N⟩⟩))∧
 (∀e,x=.er e->∃od2 is2,(Dn prog).code (.loop kC) ⟨abm i,⟨fG b r q iv cs nx e0 od is,N⟩⟩=some (.ret,⟨[(10,.ptr 4 0),(11,.ptr 5 0),(12,.ptr 6 0)],⟨fG b r q iv af0 0 ((e:Int)+1) od2 is2,N⟩⟩))
theorem azA {e0:Int}{i:Nat}{cs cs2:D_}{nx nx2 od od2 is is2:Int}{x:R Hd}(hi:i<8)(f:FuncId)(caps:D_)(hF:xC[i]?=some (.fn f [] caps))(hF2:firm (firm (firm (share (.fn f [] caps))))=.fn f [] caps)
  (h:(Dn prog).call f caps ⟨fG b r q iv cs nx 0 od is,N⟩=some (.tup [],⟨fG b r q iv cs2 nx2 0 od2 is2,N⟩))(ho:Xh b r q iv N 0 (i+1) cs2 nx2 od2 is2 x):Xh b r q iv N e0 i cs nx od is x:=by
 refine⟨λH n e=>?_,λe h2=>?_⟩
 .rw[aqX b r q iv N i hi f caps hF hF2 h];exact ho.1 H n e
 .rw[aqX b r q iv N i hi f caps hF hF2 h];exact ho.2 e h2
theorem aBL {e0:Int}{i:Nat}{cs:D_}{a0 a1 a2 a3 a4 a5 a6 a7 a8:AV}{nx nx2 od od2 is is2:Int}{e:Nat}(hi:i<8)(f:FuncId)(caps:D_)(hF:xC[i]?=some (.fn f [] caps))(hF2:firm (firm (firm (share (.fn f [] caps))))=.fn f [] caps)
  (h:(Dn prog).call f caps ⟨fG b r q iv cs nx 0 od is,N⟩=some (.tup [],⟨fG b r q iv [a0,a1,a2,a3,a4,a5,a6,a7,a8] nx2 ((e:Int)+1) od2 is2,N⟩)):Xh b r q iv N e0 i cs nx od is (.er e):=by
 refine⟨λH n h2=>absurd h2 s_,λe' h2=>?_⟩
 grind [aze]
end
def aoF {b:C_}{i:aO}{g:H_}{n:Nat}(hm:i.may 11)(h:Wb b i.max.toNat i.groups.length g n) :
  g≠[]∧g.length<=8∧kg i g∧(∀l∈g,l.length<=100)∧∀l∈g,afW l∧aoA l:=by
 obtain⟨h1,h2,h3⟩:=h;have hmx:=ka hm;obtain⟨q1,q2⟩:=d8 hm;have hmm:=zD i;have hgl:i.groups.length<=8:=by have:=mT (λn hn=>(q1 n hn).1);omega
 have hgn:i.groups≠[]:=λh=>by grind
 have hg1:=bS.2 hgn;have hmc:((i.max.toNat:Nat):Int)=i.max:=lE hmx.1;have hf:∀l∈g,fitsS i.max l:=λl hl=>by simp_all
 refine⟨λh=>by simp_all,o_,⟨h3,hf⟩,λl hl=>by grind,λl hl=>⟨⟨d_,λs hs=>?_⟩,Po (hf l hl)⟩⟩;have:=uc (hf l hl) o_ s hs;omega
def qV {α β:Type}{x:R α}{f:α->Nat->R β}{v:β}{n:Nat}(h:x.bind f=.ok v n):∃u m,x=.ok u m∧f u m=.ok v n:=by
 cases x with
 |ok u m=>exact⟨u,m,rfl,h⟩
 |er e=>simp_all
def agU {α:Type}{c:Prop}[Decidable c]{v w:α}{n m:Nat}(h:Sk c v n=.ok w m):c∧v=w∧n=m:=by
 grind [Sk]
def ami {b:C_}:∀{k a:Nat}{l:C_}{n:Nat},a<=b.length->z8 b k a=.ok l n->n<=b.length
 |0,a,l,n,ha,h=>by
  grind [z8]
 |k+1,a,l,n,ha,h=>by
  obtain⟨v,m,h1,h⟩:=qV h;obtain⟨l2,m2,h2,h⟩:=qV h;have:=ami (eV h1).2 h2
  simp_all
theorem R7 {b:C_}{a:Int}{r:Nat}(hr:r<=11){i:aO}{n:Nat}(h:nb b a r=.ok i n):pI b r i n:=by
 obtain⟨o,n1,h1,h⟩:=qV h;obtain⟨q,n2,h2,h⟩:=qV h;obtain⟨s,n3,h3,h⟩:=qV h;have key:i.may r∧n<=b.length:=by
  split at h
  .obtain⟨m,n4,h4,h⟩:=qV h;obtain⟨l,n5,h5,h⟩:=qV h;obtain⟨hc,e1,e2⟩:=agU h;have:=ami (eV h4).2 h5
   simp_all
  .obtain⟨m,n4,h4,h⟩:=qV h;obtain⟨p,n5,h5,h⟩:=qV h;obtain⟨hc,e1,e2⟩:=agU h;have:=(eV h5).2
   simp_all
 obtain⟨g1,g2⟩:=d8 (gR hr key.1);have hmm:=zD i;exact⟨key.1,key.2,by have:=mT (λn hn=>(g1 n hn).1);omega⟩
structure pHd (b:C_)(r:Nat)(H:Hd)(n:Nat):Prop where
 gain:H.gain<=255
 fit:H.inf.Fit
 may:H.inf.may r
 S:kg H.inf H.S
 Sl:∀l∈H.S,l.length<=100
 T:H.T.map List.length=H.S.map (λl=>(aN l).length)
 F:H.F.length=H.inf.many∧∀l∈H.F,l.length<=3∧∀f∈l,f.coefs.length<=12
 od:0<=H.od∧H.od<=1
 is:H.is<=1
 n:n<=b.length
theorem am0 {r:Nat}{i:aO}(hr:r<=11)(h:i.may r)(hl:i.groups.length<=100):i.Fit:=by
 have h11:=gR hr h;have hmx:=ka h11;obtain⟨g1,g2⟩:=d8 h11;exact⟨by have:=h.1;omega,by have:=h.2.1;omega,o_,o_,λn hn=>by grind⟩
abbrev QX (b:C_)(r:Nat)(x:R Hd):Prop:=∀H n,x=.ok H n->pHd b r H n
def BG {b:C_}{r:Int}{q:Bool}{iv:D_}{N R0:Nat}{e0:Int}{i:Nat}{cs cs2:D_}{nx nx2 od od2 is is2:Int}{x:R Hd}(hi:i<8)(f:FuncId)(caps:D_)(hF:xC[i]?=some (.fn f [] caps))(hF2:firm (firm (firm (share (.fn f [] caps))))=.fn f [] caps)
  (h:(Dn prog).call f caps ⟨fG b r q iv cs nx 0 od is,N⟩=some (.tup [],⟨fG b r q iv cs2 nx2 0 od2 is2,N⟩))(ho:Xh b r q iv N 0 (i+1) cs2 nx2 od2 is2 x∧QX b R0 x):Xh b r q iv N e0 i cs nx od is x∧QX b R0 x :=
 by grind [azA]
def Bu {b:C_}{r:Int}{q:Bool}{iv:D_}{N R0:Nat}{e0:Int}{i:Nat}{cs:D_}{a0 a1 a2 a3 a4 a5 a6 a7 a8:AV}{nx nx2 od od2 is is2:Int}{e:Nat}(hi:i<8)(f:FuncId)(caps:D_)(hF:xC[i]?=some (.fn f [] caps))(hF2:firm (firm (firm (share (.fn f [] caps))))=.fn f [] caps)
  (h:(Dn prog).call f caps ⟨fG b r q iv cs nx 0 od is,N⟩=some (.tup [],⟨fG b r q iv [a0,a1,a2,a3,a4,a5,a6,a7,a8] nx2 ((e:Int)+1) od2 is2,N⟩)):Xh b r q iv N e0 i cs nx od is (.er e)∧QX b R0 (.er e) :=
 by grind [aBL]
def asf {b:C_}{i:aO}{a:Int}{g:H_}{n:Nat}(h:vJ b i a=.ok g n):Wb b i.max.toNat i.groups.length g n:=by
 rw[vJ]at h;split at h
 .exact Ul o_ h
 simp_all
def auo {b:C_}{g:H_}{a gain:Int}(hg:0<=gain∧gain<=255){t:K_}{n:Nat}(h:zG b g a gain=.ok t n):pSc b g t n:=by
 rw[zG]at h;split at h
 .rename_i ha;obtain⟨A,rfl⟩:=aA ha.1;exact X4 o_ ⟨o_,o_⟩ ⟨o_,o_⟩ h
 simp_all
def OE (b:C_)(hb:b.length<=1000000000)(r:Int)(hr:ep r)(q:Bool)(i:aO)(hi:i.Fit)(iv:D_)(hiv:iv=i.cells∨q=false∧iv=zI)(hq:q=true->i.may r.toNat)(nx:Int)(hn:i64 nx)(e0:Int)(N:Nat) :
  Xh b r q iv N e0 0 af0 nx 0 0 (Dt b nx r.toNat q i)∧QX b r.toNat (Dt b nx r.toNat q i):=by
 have hR:r.toNat<=11:=o_;rw[Dt];have h:=azF b hb r q iv nx 0 0 hn N (A_ 0) (.d (.int .u8 0)) (.d (.int .u8 0)) (A_ 0) .nl .nl .nl .nl .nl
 cases e1:bi b nx 8 with
 |er e=>rw[e1,jf]at h;exact Bu k_ zw AQ rfl rfl h
 |ok g n1 =>
 have p1:=eV e1;have hg:g<256:=p1.1;have hn1:=p1.2;have i1:i64 (n1:Int):=o_;rw[e1,fp p1]at h;rw[az];refine BG k_ zw AQ rfl rfl h ?_;clear h;have key:∃X:R aO,X=(if q=true then R.ok i n1 else nb b n1 r.toNat)∧(∀j n,X=.ok j n->((j.Fit∧j.may r.toNat)∧n<=b.length)∧(Dn prog).call oH [.ptr 3 0,.ptr 4 0,.ptr 2 0,.ptr 0 0,.ptr 5 0,.ptr 1 0,.ptr 6 0] ⟨fG b r q iv [A_ g,.d (.int .u8 0),.d (.int .u8 0),A_ 0,.nl,.nl,.nl,.nl,.nl] n1 0 0 0,N⟩=some (.tup [],⟨fG b r q iv [A_ g,.d (.int .u8 j.seq),.d (.int .u8 j.shape),A_ j.max,.own false 1 (aI j.groups),.nl,.nl,.nl,.nl] n 0 0 0,N⟩))∧
   (∀e,X=.er e->(Dn prog).call oH [.ptr 3 0,.ptr 4 0,.ptr 2 0,.ptr 0 0,.ptr 5 0,.ptr 1 0,.ptr 6 0] ⟨fG b r q iv [A_ g,.d (.int .u8 0),.d (.int .u8 0),A_ 0,.nl,.nl,.nl,.nl,.nl] n1 0 0 0,N⟩=some (.tup [],⟨fG b r q iv [A_ g,.d (.int .u8 0),.d (.int .u8 0),A_ 0,.nl,.nl,.nl,.nl,.nl] 0 ((e:Int)+1) 0 0,N⟩)):=by
  refine⟨_,rfl,λj n h=>?_,λe h=>?_⟩
  .grind [ayJ,aO.Fit.len,R7,ama,fp,am0]
  .cases hqc:q with
   |true=>simp_all
   |false =>
    rw[hqc]at h;simp only[ao,bm]at h;have h3:=ama b hb r false iv n1 0 0 i1 N rfl hr i (by have:=hi.len;omega) (hiv.imp id And.right) (A_ g) (.d (.int .u8 0)) (.d (.int .u8 0)) (A_ 0) .nl .nl .nl .nl .nl
    simp_all
 obtain⟨X,hX,hX1,hX2⟩:=key;rw[<-hX]
 cases e2:X with
 |er e=>exact Bu k_ oH _ rfl rfl (hX2 e e2)
 |ok j n2 =>
 obtain⟨⟨⟨hj,hjm⟩,hn2⟩,h⟩:=hX1 j n2 e2;have i2:i64 (n2:Int):=o_;have hjm11:=gR hR hjm;have hmx:=ka hjm11;obtain⟨gr1,gr2⟩:=d8 hjm11;have hmm:=zD j;have hgn:j.groups≠[]:=λh=>by grind
 rw[az];refine BG k_ oH _ rfl rfl h ?_;clear h hX hX1 hX2 e2 X;have h:=aBK b hb r q iv n2 0 0 i2 N j hj hjm11 hgn (A_ g) .nl .nl .nl .nl
 cases e3:vJ b j n2 with
 |er e=>rw[e3,jf]at h;exact Bu k_ zB AQ rfl rfl h
 |ok S n3 =>
 have p3:=asf e3;have hn3:=p3.2.1;have i3:i64 (n3:Int):=o_;obtain⟨s1,s2,s3,s4,s5⟩:=aoF hjm11 p3;rw[e3,fp p3]at h;rw[az];refine BG k_ zB AQ rfl rfl h ?_;clear h;have h:=azi b hb r q iv n3 0 0 i3 N g o_ j.max hmx S s1 s2 s3.2 (λl hl=>by simp_all) s5 (.d (.int .u8 j.seq)) (.d (.int .u8 j.shape)) (A_ j.max) (.own false 1 (aI j.groups)) .nl .nl .nl
 cases e4:zG b S n3 g with
 |er e=>rw[e4,jf]at h;exact Bu k_ zC AQ rfl rfl h
 |ok T n4 =>
 have p4:=auo o_ e4;have hn4:=p4.2;have i4:i64 (n4:Int):=o_;rw[e4,fp p4]at h;rw[az];refine BG k_ zC AQ rfl rfl h ?_;clear h;have h:=aAC b hb r q iv n4 0 0 i4 N [A_ g,.d (.int .u8 j.seq),.d (.int .u8 j.shape),A_ j.max,.own false 1 (aI j.groups),aE 1 (bO S),share (aE 1 (dj T)),.nl,.nl]
 cases e5:bi b n4 1 with
 |er e=>rw[e5,jf]at h;exact Bu k_ zQ _ rfl rfl h
 |ok o n5 =>
 have p5:=eV e5;have ho:o<2:=p5.1;have hn5:=p5.2;have i5:i64 (n5:Int):=o_;rw[e5,fp p5]at h;rw[az];refine BG k_ zQ _ rfl rfl h ?_;clear h;have h:=aA7 b hb r q iv n5 o 0 i5 N [A_ g,.d (.int .u8 j.seq),.d (.int .u8 j.shape),A_ j.max,.own false 1 (aI j.groups),aE 1 (bO S),share (aE 1 (dj T)),.nl,.nl]
 cases e6:bi b n5 1 with
 |er e=>rw[e6,jf]at h;exact Bu k_ zy _ rfl rfl h
 |ok s n6 =>
 have p6:=eV e6;have hs:s<2:=p6.1;have hn6:=p6.2;have i6:i64 (n6:Int):=o_;rw[e6,fp p6]at h;rw[az];refine BG k_ zy _ rfl rfl h ?_;clear h;have key:∃X:R O_,X=(if s=1 then PG b j n6 else R.ok (List.replicate j.many []) n6)∧(∀F n,X=.ok F n->pTn b j F n∧(Dn prog).call oC [.ptr 8 0,.ptr 0 0,.ptr 5 0,.ptr 4 0,.ptr 6 0] ⟨fG b r q iv [A_ g,.d (.int .u8 j.seq),.d (.int .u8 j.shape),A_ j.max,.own false 1 (aI j.groups),aE 1 (bO S),share (aE 1 (dj T)),.nl,.nl] n6 0 o s,N⟩=some (.tup [],⟨fG b r q iv [A_ g,.d (.int .u8 j.seq),.d (.int .u8 j.shape),A_ j.max,.own false 1 (aI j.groups),aE 1 (bO S),share (aE 1 (dj T)),aE 1 (dk F),.nl] n 0 o s,N⟩))∧
   (∀e,X=.er e->(Dn prog).call oC [.ptr 8 0,.ptr 0 0,.ptr 5 0,.ptr 4 0,.ptr 6 0] ⟨fG b r q iv [A_ g,.d (.int .u8 j.seq),.d (.int .u8 j.shape),A_ j.max,.own false 1 (aI j.groups),aE 1 (bO S),share (aE 1 (dj T)),.nl,.nl] n6 0 o s,N⟩=some (.tup [],⟨fG b r q iv [A_ g,.d (.int .u8 j.seq),.d (.int .u8 j.shape),A_ j.max,.own false 1 (aI j.groups),aE 1 (bO S),share (aE 1 (dj T)),.nl,.nl] 0 ((e:Int)+1) o s,N⟩)):=by
  refine⟨_,rfl,λF n h=>?_,λe h=>?_⟩
  .by_cases h1:s=1
   .grind [arq,alL,fp]
   .rw[aa h1]at h;injection h with g1 g2
    subst g1 g2;have h3:=axi b r q iv n6 o s N j hj hjm11 o_ (A_ g) (aE 1 (bO S)) (share (aE 1 (dj T))) .nl .nl;refine⟨⟨s_,hn6,λl hl=>by simp_all⟩,?_⟩;have e9:aE 1 (dk (List.replicate j.many []))=.own false 1 (dk (List.replicate j.many [])):=mi (λhz=>by
     grind [ad7])
    simp_all
  grind [alL,jf]
 obtain⟨X,hX,hX1,hX2⟩:=key;rw[<-hX]
 cases e7:X with
 |er e=>exact Bu k_ oC _ rfl rfl (hX2 e e7)
 |ok F n7 =>
 obtain⟨p7,h⟩:=hX1 F n7 e7;have i7:i64 (n7:Int):=o_;rw[az];refine BG k_ oC _ rfl rfl h ?_;have h:=aBx b hb r q iv n7 o s i7 N [A_ g,.d (.int .u8 j.seq),.d (.int .u8 j.shape),A_ j.max,.own false 1 (aI j.groups),aE 1 (bO S),share (aE 1 (dj T)),aE 1 (dk F),.nl] (by omega)
 cases e8:bi b n7 1 with
 |er e=>rw[e8,jf]at h;exact Bu k_ zN _ rfl rfl h
 |ok p n8 =>
 have p8:=eV e8;have hn8:=p8.2;rw[e8,fp p8]at h;rw[az];refine BG k_ zN _ rfl rfl h ⟨⟨λH n hh=>?_,λe hh=>absurd hh s_⟩,λH n hh=>?_⟩
 .grind [ax0]
 .injection hh with g1 g2
  subst g1 g2;exact⟨d_,hj,hjm,s3,s4,p4.1,⟨p7.1,p7.2.2⟩,by grind [ZQ],d_,hn8⟩
structure GO where
 o1:Obj
 o2:Obj
 o3:Obj
 o7:Obj
 o8:Obj
 o9:Obj
 oX:Obj
 o14:Obj
 o15:Obj
 o16:Obj
abbrev GH (b:C_)(g:GO)(cs:D_)(nx e:Int)(Z:G_)(C:D_)(lo:Obj)(T:am):am:=(0,.cells [.d (.lst (ai b))])::(1,g.o1)::(2,g.o2)::(3,g.o3)::(4,.cells cs)::(5,.cells [A_ nx])::(6,.cells [A_ e])::(7,g.o7)::(8,g.o8)::(9,g.o9)::(10,g.oX)::(11,.arr 1 (aI Z))::(12,.cells C)::(13,.cells [.ptr 12 0])::(14,g.o14)::(15,g.o15)::(16,g.o16)::(17,lo)::T
abbrev azr:aZ:=[(5,.ptr 0 0),(10,.ptr 4 0),(11,.ptr 5 0),(12,.ptr 6 0),(13,.ptr 7 0),(14,.ptr 8 0),(18,.ptr 13 0),(82,.fn jh [] [.ptr 15 0,.ptr 14 0,.ptr 16 0])]
def asL {Z l:G_}{a:Nat}:aH (aI Z) a (aI l)=aI (aH Z a l):=by simp[aH,aI]
def ayS {h:am}{xs:E_}{id a b n:Nat}(hab:a<=b)(hb:b<=n)(hn:n<=1000000000)(hg:get h id=some (.arr 1 xs))(x y:Int)(hx:x=a)(hy:y=b):mF h 1 (.sl id 0 n) (some (A_ x)) (some (A_ y)) none=some (.sl id a (b-a)):=by
 subst hx hy;have e1:eK (A_ (b:Int)) n=some b:=by rw[yp o_ o_];simp
 have e2:eK (A_ (a:Int)) b=some a:=by rw[yp o_ o_];simp
 have e3:okSl h 1 (.sl id 0 n)=true:=by simp only[okSl,hg];rfl
 simp only[mF,e3,vt,lenOf,xb,v7,e1,e2,bn]
def awG {h:am}{Z l:G_}{id a n:Nat}{y:AV}(hn:l.length=n)(hb:a+n<=Z.length)(he:elems h y=some (aI l))(hg:get h id=some (.arr 1 (aI Z))):aix 1 h (.sl id a n) y=some (.int .i64 (n:Nat),put h id (.arr 1 (aI (aH Z a l)))):=by
 have e1:Nat.ble (a+n) (aI Z).length=true:=by rw[bp,iR];exact hb
 have e2:min n (aI l).length=n:=by rw[iR,hn,Nat.min_self]
 have e3:(aI l).take n=aI l:=bH (by rw[iR];omega);have e4:(gB 1 (aI l) && Nat.beq 1 1 && Nat.ble (a+n) (aI Z).length)=true:=by rw[auS,e1];rfl
 simp only[aix,he,hg,e4,e2,e3,asL];rfl
def aBE {F:D_->am}{A N:Nat}(hL:∀C,Lt (F C) N)(hg:∀C T,get (F C++T) A=some (.cells C))(hp:∀C T C',put (F C++T) A (.cells C')=F C'++T):Bk (λC T=>F C++T) A N:=by
 refine⟨hg,hp,λC o=>?_,λC o o'=>Ik (hL C),λC o=>yD (hL C),λC o=>?_⟩
 .show put (F C++[]) N o=_;rw[bh];exact vI (hL C)
 .show _=F C++[];rw[bh];exact M5 (hL C)
def azS (b:C_)(g:GO)(cs:D_)(nx e0:Int)(Z:G_)(lo:Obj)(K:Nat)(hK:18<=K)(o w:Obj)(N:Nat)(hN:K<N):Bk (λC T=>GH b g cs nx e0 Z C lo [(K,o),(N,w)]++T) 12 (N+1):=by
 refine aBE (λC p hp=>?_) (λC T=>rfl) (λC T C'=>rfl);simp only[ay,b8,eg]at hp;rcases hp with rfl|rfl|rfl|rfl|rfl|rfl|rfl|rfl|rfl|rfl|rfl|rfl|rfl|rfl|rfl|rfl|rfl|rfl|rfl|rfl<;>simp only[]<;>omega
abbrev qx (d:Bool):Obj:=.loop azr [83] tj sF d none
abbrev Pv:Obj:=.loop azr [83] tj sF false (some .ret)
abbrev plO (p:Nat×Nat):Obj:=.cells [A_ (p.1:Int),A_ (p.2:Int),A_ ((p.2+bI p.1:Nat):Int)]
def aCC (b:C_)(g:GO)(a0 a1 a2 a3 a4 a5 a6 a7:AV)(nx e0:Int)(Z:G_)(hZ:Z.length=256)(C:D_)(hC:H3 C)(p:Nat×Nat)(hp:(1<=p.1∧p.1<=11)∧p.2+bI p.1<=256)(l:G_)(hl:l.length=bI p.1)(n2:Nat)(hh:bq prog yq [.d (.lst (ai b)),A_ nx,oA p.1]=some (.tup [.own true 1 (aI l),A_ n2,A_ 0]))(K:Nat)(o:Obj)(hK:18<=K)(N:Nat)(hN:K<N) :
  cA (Dn prog) (.yield 17) [.agg [A_ (p.1:Int),A_ (p.2:Int),A_ ((p.2+bI p.1:Nat):Int)]] ⟨GH b g [a0,a1,a2,a3,a4,a5,a6,a7,.sl 11 0 256] nx e0 Z C (qx false) [(K,o)],N⟩ =
  some (B_ true,⟨GH b g [a0,a1,a2,a3,a4,a5,a6,a7,.sl 11 0 256] n2 0 (aH Z p.2 l) (aH C (4*p.1) (rQ p.1)) (qx false) [(K,o)],N+1+1⟩):=by
 obtain⟨h1,h2⟩:=hp;have hB:=S3 (azS b g [a0,a1,a2,a3,a4,a5,a6,a7,.sl 11 0 256] nx e0 Z (qx true) K hK o (plO p) N hN) C hC p.1 h1;have hs:=λC2=>ayS (h:=GH b g [a0,a1,a2,a3,a4,a5,a6,a7,.sl 11 0 256] n2 0 Z C2 (qx true) [(K,o),(N,plO p)]) (xs:=aI Z) (id:=11) (a:=p.2) (b:=p.2+bI p.1) (n:=256) o_ h2 o_ rfl (p.2:Int) _ rfl rfl
 rw[gx]at hs;have hc:=λC2=>awG (h:=GH b g [a0,a1,a2,a3,a4,a5,a6,a7,.sl 11 0 256] n2 0 Z C2 (qx true) [(K,o),(N,plO p)]) (id:=11) (a:=p.2) (n:=bI p.1) (y:=.own false 1 (aI l)) hl o_ rfl rfl
 generalize aH C (4*p.1) (rQ p.1)=C2 at *;replace hs:=hs C2;replace hc:=hc C2;obtain⟨TO,hT⟩:∃TO:Int,TO=((p.2+bI p.1:Nat):Int):=⟨_,rfl⟩
 simp only[GH,plO,qx,aS,aK,oA]at hB hs hc hh⊢;rw[<-hT]at hB hs hc⊢;obtain⟨o1,o2,o3,o7,o8,o9,oX,o14,o15,o16⟩:=g;simp only[]at *;have eA:∀st,(Dn prog).code tj st=(Dn prog).code GG st:=λ_=>rfl
 have eB:∀st,(Dn prog).code sF st=(Dn prog).code (.block 3
  (.seq G6
  (.seq (.seq (.seq Am (Vm.K [18,84]))
  (.seq GM
  (.cond (.m 96)
  (.seq (.seq (Vm.K [20]) (F 19)) (.seq (.seq Ab (Vm.K [12]))
  .ret))
  (.seq (Vm.K [11,12]) .skip))))
  (.seq Gy (F 19))))) st:=λ_=>rfl
 simp(config := { maxSteps:=9^7 }) (disch:=omega)[↓ac,↓aa,eA,eB,hh,hB,hs,hc]
def aDE (b:C_)(g:GO)(a0 a1 a2 a3 a4 a5 a6 a7:AV)(nx e0:Int)(Z:G_)(C:D_)(hC:H3 C)(p:Nat×Nat)(hp:(1<=p.1∧p.1<=11)∧p.2+bI p.1<=256)(e:Nat)(hh:bq prog yq [.d (.lst (ai b)),A_ nx,oA p.1]=some (.tup [.nl,A_ 0,A_ (e+1)]))(K:Nat)(o:Obj)(hK:18<=K)(N:Nat)(hN:K<N) :
  cA (Dn prog) (.yield 17) [.agg [A_ (p.1:Int),A_ (p.2:Int),A_ ((p.2+bI p.1:Nat):Int)]] ⟨GH b g [a0,a1,a2,a3,a4,a5,a6,a7,.sl 11 0 256] nx e0 Z C (qx false) [(K,o)],N⟩ =
  some (B_ false,⟨GH b g af0 0 ((e:Int)+1) Z (aH C (4*p.1) (rQ p.1)) Pv [(K,o)],N+1+1⟩):=by
 obtain⟨h1,h2⟩:=hp;have hB:=S3 (azS b g [a0,a1,a2,a3,a4,a5,a6,a7,.sl 11 0 256] nx e0 Z (qx true) K hK o (plO p) N hN) C hC p.1 h1;generalize aH C (4*p.1) (rQ p.1)=C2 at *;obtain⟨TO,hT⟩:∃TO:Int,TO=((p.2+bI p.1:Nat):Int):=⟨_,rfl⟩
 simp only[GH,plO,qx,Pv,aS,aK,oA]at hB hh⊢;rw[<-hT]at hB⊢;obtain⟨o1,o2,o3,o7,o8,o9,oX,o14,o15,o16⟩:=g;simp only[]at *;have eA:∀st,(Dn prog).code tj st=(Dn prog).code GG st:=λ_=>rfl
 have eB:∀st,(Dn prog).code sF st=(Dn prog).code (.block 3
  (.seq G6
  (.seq (.seq (.seq Am (Vm.K [18,84]))
  (.seq GM
  (.cond (.m 96)
  (.seq (.seq (Vm.K [20]) (F 19)) (.seq (.seq Ab (Vm.K [12]))
  .ret))
  (.seq (Vm.K [11,12]) .skip))))
  (.seq Gy (F 19))))) st:=λ_=>rfl
 simp(config := { maxSteps:=9^7 }) (disch:=omega)[↓ac,↓aa,eA,eB,hh,hB]
def WM {r:Nat}{jj:aO}{SS:H_}(hm:jj.may r)(hS:kg jj SS)(hr:r<=11){p:Nat×Nat}(hp:p∈qq (offs r jj.short) SS jj.groups 0):(1<=p.1∧p.1<=11)∧p.2+bI p.1<=256:=by
 have hm11:=gR hr hm;obtain⟨g1,g2⟩:=d8 hm11;obtain⟨w,g,j,l,e1,e2,e3,e4,e5,e6,x,e7,e8⟩:=Nz hS.2 (λn hn=>(g1 n hn).1) hp;obtain⟨o1,o2,o3⟩:=oF (r,jj.short) (fP o_);simp only at o1 o2 o3;have hmx:=hm.2.2.2.1;have hlm:l∈SS:=dt e1;have hbl:=tJ (hS.2 l hlm) hm.2.2.1;have hjl:j<(aN l).length:=(aJ.1 e5).1;have hmy:r8 r (decide (jj.seq=2))=(offs r jj.short).length-1:=rfl;have hj1:j+1<(offs r jj.short).length:=o_;have hoj:nth (offs r jj.short) j<nth (offs r jj.short) (j+1)∧(nth (offs r jj.short) (j+1)-nth (offs r jj.short) j) % 4=0:=by
  have:=bJ.1 o1 j (et.2 o_);simpa using this
 have hos:∀k,k+1<(offs r jj.short).length->nth (offs r jj.short) k<nth (offs r jj.short) (k+1):=λk hk=>by
  have:=bJ.1 o1 k (et.2 o_);simp only[af,decide_eq_true_eq]at this;exact this.1
 have hd4:bI p.1=4∨bI p.1=2:=by unfold bI;split<;>simp
 have hx:=Nd (d:=bI p.1) o_ (by rcases hd4 with h|h<;>rw[h]<;>omega) e7;have hw:(w:Int)<jj.many:=o_;have ho256:nth (offs r jj.short) (j+1)<=cond jj.short 32 256:=by
  have:=bJ.1 o3 _ (jE hj1);simpa using this
 have hcond:(cond jj.short 32 256:Nat)=jj.wide:=by
  unfold aO.short aO.wide;by_cases h:jj.seq=2
  .rw[dT_ h,ac h];rfl
  .rw[dF_ h,aa h];rfl
 rw[hcond]at ho256;have hww:w*32=w*jj.wide∧w*jj.wide+jj.wide<=256:=by
  unfold aO.many at hw;unfold aO.wide;split at hw
  .rename_i h2;rw[ac h2];omega
  .rename_i h2;rw[aa h2];omega
 exact⟨e6,o_⟩
def azu:∀id∈List.range 12,1<=id->eW id=bI id:=e_
def kK (b:C_):R_->Nat->G_->R G_
 |[],n,Z=>.ok Z n
 |p::r,n,Z=>(Fp p.1 b n).bind λl m=>kK b r m (aH Z p.2 l)
abbrev StG:Type:=D_×Nat×G_
abbrev XB (b:C_)(p:Nat×Nat)(s:StG):Sum StG (D_×Nat×G_):=match Fp p.1 b s.2.1 with
 |.ok l n=>.inl (aH s.1 (4*p.1) (rQ p.1),n,aH s.2.2 p.2 l)
 |.er e=>.inr (aH s.1 (4*p.1) (rQ p.1),e,s.2.2)
abbrev Ca:D_:=[A_ 0,.d (.int .u8 0),.d (.int .u8 0),A_ 0,.nl,.nl,.nl,.nl,.nl]
abbrev aF3 (B:Nat)(r:R_)(s:StG):Prop:=H3 s.1∧s.2.1<=B∧s.2.2.length=256∧(∀x∈s.2.2,-40000<=x∧x<=40000)∧∀p∈r,(1<=p.1∧p.1<=11)∧p.2+bI p.1<=256
def WO {Z l:G_}{a:Nat}(h:a+l.length<=Z.length):(aH Z a l).length=Z.length:=by
 simp only[aH,aj,b7,cP];omega
def axs {Z l:G_}{a:Nat}{x:Int}(h:x∈aH Z a l):x∈Z∨x∈l:=by
 simp only[aH,aW]at h;rcases h with (h|h)|h
 .exact .inl (dr h)
 .exact .inr h
 .exact .inl (c7 h)
def aCW (b:C_)(hb:b.length<=1000000000)(g:GO)(a0 a1 a2 a3 a4 a5 a6 a7:AV):Ro (fun(s:StG) T=>GH b g [a0,a1,a2,a3,a4,a5,a6,a7,.sl 11 0 256] s.2.1 0 s.2.2 s.1 (qx false) T) (fun(z:D_×Nat×G_) T=>GH b g Ca 0 ((z.2.1:Int)+1) z.2.2 z.1 Pv T) 18 17 (XB b) (aF3 b.length):=by
 intro p r s K o N hi hK hN;obtain⟨C,n0,Z⟩:=s;obtain⟨i1,i2,i3,i4,i5⟩:=hi;simp only at i1 i2 i3 i4;have hp:=i5 p (.head _);have hH:=atf p.1 b n0 hb o_ hp.1;have hd:=azu p.1 (et.2 o_) hp.1.1
 cases e:Fp p.1 b n0 with
 |ok l n =>
  have hq:=axt ⟨hp.1.1,o_⟩ e;rw[e,fp hq]at hH;obtain⟨q1,q2,q3⟩:=hq;have hl:l.length=bI p.1:=o_;refine .inl ⟨(aH C (4*p.1) (rQ p.1),n,aH Z p.2 l),N+1+1,o_,by simp only[XB,e],⟨adQ i1 hp.1,q2,?_,λx hx=>?_,λq hq=>i5 q (.tail _ hq)⟩,aCC b g a0 a1 a2 a3 a4 a5 a6 a7 n0 0 Z i3 C i1 p hp l hl n hH K o hK N hN⟩
  .show(aH Z p.2 l).length=256;rw[WO o_];exact i3
  .rcases axs hx with h|h
   .exact i4 x h
   .exact q3 x h
 |er e2 =>
  rw[e,jf]at hH;exact .inr ⟨(aH C (4*p.1) (rQ p.1),e2,Z),N+1+1,o_,by simp only[XB,e],aDE b g a0 a1 a2 a3 a4 a5 a6 a7 n0 0 Z C i1 p hp e2 hH K o hK N hN⟩
def avY {b:C_}:∀{r:R_}{C:D_}{n:Nat}{Z:G_},(∀Z2 m,kK b r n Z=.ok Z2 m->∃C2,lJ (XB b) r (C,n,Z)=.inl (C2,m,Z2))∧∀e,kK b r n Z=.er e->∃C2 Z2,lJ (XB b) r (C,n,Z)=.inr (C2,e,Z2)
 |[],C,n,Z=>⟨λZ2 m h=>by
   injection h with g1 g2
   subst g1 g2;exact⟨C,rfl⟩,λe h=>absurd h (by simp[kK])⟩
 |p::r,C,n,Z=>by
  rw[kK,lJ]
  cases e:Fp p.1 b n with
  |ok l m =>
   simp only[XB,e,az];exact avY
  |er e2 =>
   simp only[XB,e];exact⟨λZ2 m h=>absurd h s_,λe3 h=>by
    injection h with h
    subst h;exact⟨_,_,rfl⟩⟩
def avC {b:C_}{g:GO}{cs:D_}{nx e0:Int}{Z:G_}{C:D_}{lo:Obj}{L:Nat}(hL:18<=L):Lt (GH b g cs nx e0 Z C lo []) L:=by
 intro p hp;simp only[ay,b8,eg]at hp;rcases hp with rfl|rfl|rfl|rfl|rfl|rfl|rfl|rfl|rfl|rfl|rfl|rfl|rfl|rfl|rfl|rfl|rfl|rfl<;>simp only[]<;>omega
def aqF {σ:Type}{F:σ->am}{L:Nat}(hL:∀s,Lt (F s) L):Tl (λs T=>F s++T) L:=by
 refine⟨λs K o h=>?_,λs K o o' h=>Ik (KK (hL s) h),λs K o h=>yD (KK (hL s) h),λs K o h=>?_⟩
 .show put (F s++[]) K o=_;rw[bh];exact vI (KK (hL s) h)
 .show _=F s++[];rw[bh];exact M5 (KK (hL s) h)
abbrev Ny (r:Nat)(jj:aO)(S:H_):R_:=qq (offs r jj.short) S jj.groups 0
abbrev Z0:G_:=List.replicate 256 0
def ad5 (b:C_)(hb:b.length<=1000000000)(g:GO)(a0 a1 a2 a3 a4 a5 a6 a7:AV)(r:Nat)(hr:r<=11)(jj:aO)(hj:jj.Fit)(hm:jj.may r)(S:H_)(hS:kg jj S)(g14:g.o14=.cells jj.cells)(g15:g.o15=.cells [.d (.lst (bO S))])(g16:g.o16=.cells [.own false 1 (cY (offs r jj.short))])(n:Nat)(hn:n<=b.length) :
  (∀Z m,kK b (Ny r jj S) n Z0=.ok Z m->Z.length=256∧(∀x∈Z,-40000<=x∧x<=40000)∧m<=b.length∧∃C2 M,(Dn prog).call jh [.yield 17,.ptr 15 0,.ptr 14 0,.ptr 16 0] ⟨GH b g [a0,a1,a2,a3,a4,a5,a6,a7,.sl 11 0 256] n 0 Z0 vw (qx false) [],18⟩=some (.tup [],⟨GH b g [a0,a1,a2,a3,a4,a5,a6,a7,.sl 11 0 256] m 0 Z C2 (qx false) [],M⟩))∧
  (∀e,kK b (Ny r jj S) n Z0=.er e->∃C2 Z2 M,(Dn prog).call jh [.yield 17,.ptr 15 0,.ptr 14 0,.ptr 16 0] ⟨GH b g [a0,a1,a2,a3,a4,a5,a6,a7,.sl 11 0 256] n 0 Z0 vw (qx false) [],18⟩=some (.tup [],⟨GH b g Ca 0 ((e:Int)+1) Z2 C2 Pv [],M⟩)):=by
 obtain⟨o1,o2,o3,o4⟩:=Bl (r,jj.short) (fP o_);obtain⟨p1,p2,p3⟩:=oF (r,jj.short) (fP o_);simp only at o1 o2 o3 o4 p1 p2 p3;have hmx:=hm.2.2.2.1;have hmy:r8 r (decide (jj.seq=2))=(offs r jj.short).length-1:=rfl;have hhi:∀x∈offs r jj.short,x<=256:=λx hx=>by
  have:=bJ.1 p3 x hx;simp only[decide_eq_true_eq]at this;have:(cond jj.short 32 256:Nat)<=256:=by cases jj.short<;>decide
  omega
 have hT:Tl (fun(s:StG) T=>GH b g [a0,a1,a2,a3,a4,a5,a6,a7,.sl 11 0 256] s.2.1 0 s.2.2 s.1 (qx false) T) 18:=aqF (F:=fun(s:StG)=>GH b g [a0,a1,a2,a3,a4,a5,a6,a7,.sl 11 0 256] s.2.1 0 s.2.2 s.1 (qx false) []) (λs=>avC (ak _));have hT2:Tl (fun(z:D_×Nat×G_) T=>GH b g Ca 0 ((z.2.1:Int)+1) z.2.2 z.1 Pv T) 18:=aqF (F:=fun(z:D_×Nat×G_)=>GH b g Ca 0 ((z.2.1:Int)+1) z.2.2 z.1 Pv []) (λs=>avC (ak _));have hpl:=agC (P:=⟨17,14,16,S,offs r jj.short⟩) jj hj (gR hr hm) 15 hT hT2 (aCW b hb g a0 a1 a2 a3 a4 a5 a6 a7) (λs=>by rw[<-g15];rfl) (λs T=>by rw[<-g14];rfl) (λs T=>by rw[<-g16];rfl) t_ hhi t_ hS 18 (ak _) (vw,n,Z0) ⟨ahC,hn,by simp only[aL],λx hx=>by rw[cH hx];omega,λp hp=>WM hm hS hr hp⟩;have hru:=avY (b:=b) (r:=Ny r jj S) (C:=vw) (n:=n) (Z:=Z0);refine⟨λZ m e=>?_,λe1 e=>?_⟩
 .obtain⟨C2,h1⟩:=hru.1 Z m e;rcases hpl with ⟨s2,M,hM,e1,⟨i1,i2,i3,i4,i5⟩,e5⟩|⟨z,M,hM,e1,e3⟩
  .rw[h1]at e1;injection e1 with e1
   subst e1;exact⟨i3,i4,i2,C2,M,e5⟩
  .rw[h1]at e1;exact absurd e1 (by simp)
 .obtain⟨C2,Z2,h1⟩:=hru.2 e1 e;rcases hpl with ⟨s2,M,hM,e1,⟨i1,i2,i3,i4,i5⟩,e5⟩|⟨z,M,hM,e1,e3⟩
  .rw[h1]at e1;exact absurd e1 (by simp)
  .rw[h1]at e1;injection e1 with e1
   subst e1;exact⟨C2,Z2,M,e3⟩
def av6:Ga [.int .i64 0] (A_ 256) (A_ 256)=some (.own true 1 (aI Z0)):=(Ea (z:=[.int .i64 0]) (n:=256) o_).trans (by simp[aI])
def apX:(aI Z0).length=256:=by rw[iR,aL]
abbrev TF (H:Hd)(Z:G_):D_:=[A_ H.gain,.d (.int .u8 H.inf.seq),.d (.int .u8 H.inf.shape),A_ H.inf.max,.d (.lst (aI H.inf.groups)),.d (.lst (bO H.S)),.d (.lst (dj H.T)),.d (.lst (dk H.F)),.own true 1 (aI Z)]
def apE:∀r<12,(bq prog wP [A_ ((r:Nat):Int),.agg zI]=some (A_ 8)):=by
 intro r hr;have:r=0∨r=1∨r=2∨r=3∨r=4∨r=5∨r=6∨r=7∨r=8∨r=9∨r=10∨r=11:=o_;rcases this with rfl|rfl|rfl|rfl|rfl|rfl|rfl|rfl|rfl|rfl|rfl|rfl<;>exact BP 400 (by kernel_rfl)
def OO {r:Nat}{q:Bool}{i:aO}{iv:D_}(hr:r<=11)(hi:i.Fit)(hiv:iv=i.cells∨q=false∧iv=zI)(hq:q=true->i.may r):∃k:Int,(q=true->k=0)∧bq prog wP [A_ r,.agg iv]=some (A_ k):=by
 rcases hiv with rfl|⟨rfl,rfl⟩
 .have hI:=xL r i hi;rw[ac o_,ar]at hI;by_cases hm:i.may r
  .rw[ac hm]at hI;exact⟨0,λ_=>rfl,hI⟩
  .rw[aa hm]at hI;exact⟨8,λh=>absurd (hq h) hm,hI⟩
 .exact⟨8,λh=>absurd h s_,apE r o_⟩
def axF (b:C_)(hb:b.length<=1000000000)(a:Int)(ha:i64 a)(r:Nat)(hr:r<=11)(q:Bool)(i:aO)(hi:i.Fit)(iv:D_)(hiv:iv=i.cells∨q=false∧iv=zI)(hq:q=true->i.may r)(n0:Nat)(e0:bi b a 0=.ok 0 n0)(H:Hd)(n:Nat)(eH:Dt b n0 r q i=.ok H n)(Z:G_)(m:Nat)(eL:kK b (Ny r H.inf H.S) n Z0=.ok Z m):bq prog tR [.d (.lst (ai b)),A_ a,A_ r,B_ q,.agg iv] =
  if H.od=0∧(H.is=1->pf H.F=true) then some (.tup [.agg (TF H Z),A_ m,A_ 0])
  else some (.tup [.agg Ca,A_ 0,A_ 8]):=by
 have hR:ep (r:Int):=o_;have hB:=ik b a 0 hb ha;have p0:=eV e0;rw[e0,fp p0]at hB;obtain⟨k,hk0,hI⟩:=OO hr hi hiv hq;have hh:=OE b hb r hR q i hi iv hiv (λh=>by rw[ar];exact hq h) n0 (by have:=p0.2;omega) k 11;rw[ar]at hh;have p1:=hh.2 H n eH;have hl:=hh.1.1 H n eH;have hM:=ll r false;rw[ac hR]at hM;obtain⟨G,j,S,T,Ft,od,is⟩:=H;have hF:=Rk Ft (by have:=p1.F.1;simp only at this;have:=zD j;omega) (λl hl=>by have:=(p1.F.2 l hl).1;omega);simp only[age]at hl eL;obtain⟨q1,q2,q3,C2,M,hp⟩:=(ad5 b hb ⟨.cells [.junk],.cells [B_ q],.cells iv,.cells [A_ od],.cells [A_ is],.cells [ajh],.cells xC,.cells j.cells,.cells [.d (.lst (bO S))],.cells [.own false 1 (cY (offs r j.short))]⟩ (A_ G) (.d (.int .u8 j.seq)) (.d (.int .u8 j.shape)) (A_ j.max) (.own false 1 (aI j.groups)) (aE 1 (bO S)) (share (aE 1 (dj T))) (aE 1 (dk Ft)) r hr j p1.fit p1.may S p1.S rfl rfl rfl n p1.n).1 Z m eL;have hj11:=gR hr p1.may;have hSl:S.length=j.groups.length:=p1.S.1;have hTl:=aP List.length p1.T;simp only[il]at hTl;have hFl:=p1.F.1;simp only at hFl;have hmn:=zD j;have hgn:j.groups≠[]:=λh=>by have:=(d8 hj11).2;rw[h]at this;simp at this;omega
 have hg1:=bS.2 hgn;obtain⟨s1,S1,rfl⟩:=di (bS.1 (show 0<S.length by omega));obtain⟨t1,T1,rfl⟩:=di (bS.1 (show 0<T.length by omega));obtain⟨f1,F1,rfl⟩:=di (bS.1 (show 0<Ft.length by omega));have eS:aE 1 (bO (s1::S1))=.own false 1 (bO (s1::S1)):=rfl;have eT:share (aE 1 (dj (t1::T1)))=.d (.lst (dj (t1::T1))):=rfl;have eF:aE 1 (dk (f1::F1))=.own false 1 (dk (f1::F1)):=rfl;have hP:=Py r hr j (.lst (bO (s1::S1))) [(0,.cells [.d (.lst (ai b))]),(1,.cells [.junk]),(2,.cells [B_ q]),(3,.cells iv),(4,.cells [A_ G,.d (.int .u8 j.seq),.d (.int .u8 j.shape),A_ j.max,.own false 1 (aI j.groups),.own false 1 (bO (s1::S1)),.d (.lst (dj (t1::T1))),.own false 1 (dk (f1::F1)),.sl 11 0 256]),(5,.cells [A_ n]),(6,.cells [A_ 0]),(7,.cells [A_ od]),(8,.cells [A_ is]),(9,.cells [ajh]),(10,.cells xC),(11,.arr 1 (aI Z0)),(12,.cells vw),(13,.cells [.ptr 12 0])] 14 (λp hp=>by
  simp only[ay,b8,eg]at hp;rcases hp with rfl|rfl|rfl|rfl|rfl|rfl|rfl|rfl|rfl|rfl|rfl|rfl|rfl|rfl<;>simp only[]<;>omega)
 have c0:((0:Nat):Int)=0:=rfl;rw[eS,eT,eF]at hl hp;simp only[TF,aO.cells,GH,qx,aS,aK,c0]at hI hl hp hP hB⊢;clear hh p1 eL eH q2 eS eT eF hi;generalize bO (s1::S1)=SS at *;generalize dj (t1::T1)=TT at *;generalize dk (f1::F1)=FF at *;generalize hz:aI Z0=z0 at *;have hk:=av6;have hz2:=apX;rw[hz]at hk hz2;rw[aG Gi F7 rfl];have hmk:Kh 1 xC=true:=rfl;simp only[xC,AQ]at hmk;have hZt:List.take 256 Z=Z:=bH o_;have hoi:(od=0∧((((is:Nat):Int)=1∧pf (f1::F1)=true)∨(((is:Nat):Int)≠1)))∨(od=0∧((is:Nat):Int)=1∧pf (f1::F1)=false)∨od≠0:=by
  cases pf (f1::F1)<;>simp<;>omega
 have hii:(is=1)=(((is:Nat):Int)=1):=propext o_;simp only[hii];clear hii;generalize pf (f1::F1)=an at *;generalize ((is:Nat):Int)=iz at *;rcases hoi with ⟨h1,⟨h2,h3⟩|h2⟩|⟨h1,h2,h3⟩|h1
 .subst h3;rw[ac ⟨h1,λ_=>rfl⟩];rcases hiv with rfl|⟨rfl,rfl⟩
  .simp only[aO.cells]at hI hl hp hP⊢
   cases q with
   |true =>
    have:=hk0 rfl;subst this;simp(config := { maxSteps:=9^7 }) (disch:=omega)[↓ac,↓aa,rd,hB,hM,hI,hl,hk,hz2,hP,hp,hmk,hF,q1,hZt]
   |false=>simp(config := { maxSteps:=9^7 }) (disch:=omega)[↓ac,↓aa,rd,hB,hM,hI,hl,hk,hz2,hP,hp,hmk,hF,q1,hZt]
  .simp only[zI]at hI hl hp hP⊢;simp(config := { maxSteps:=9^7 }) (disch:=omega)[↓ac,↓aa,rd,hB,hM,hI,hl,hk,hz2,hP,hp,hmk,hF,q1,hZt]
 .rw[ac ⟨h1,λh=>absurd h h2⟩];rcases hiv with rfl|⟨rfl,rfl⟩
  .simp only[aO.cells]at hI hl hp hP⊢
   cases q with
   |true =>
    have:=hk0 rfl;subst this;simp(config := { maxSteps:=9^7 }) (disch:=omega)[↓ac,↓aa,rd,hB,hM,hI,hl,hk,hz2,hP,hp,hmk,hF,q1,hZt]
   |false=>simp(config := { maxSteps:=9^7 }) (disch:=omega)[↓ac,↓aa,rd,hB,hM,hI,hl,hk,hz2,hP,hp,hmk,hF,q1,hZt]
  .simp only[zI]at hI hl hp hP⊢;simp(config := { maxSteps:=9^7 }) (disch:=omega)[↓ac,↓aa,rd,hB,hM,hI,hl,hk,hz2,hP,hp,hmk,hF,q1,hZt]
 .subst h3;rw[aa (λh=>absurd (h.2 h2) s_)];rcases hiv with rfl|⟨rfl,rfl⟩
  .simp only[aO.cells]at hI hl hp hP⊢
   cases q with
   |true =>
    have:=hk0 rfl;subst this;simp(config := { maxSteps:=9^7 }) (disch:=omega)[↓ac,↓aa,rd,hB,hM,hI,hl,hk,hz2,hP,hp,hmk,hF,q1,hZt]
   |false=>simp(config := { maxSteps:=9^7 }) (disch:=omega)[↓ac,↓aa,rd,hB,hM,hI,hl,hk,hz2,hP,hp,hmk,hF,q1,hZt]
  .simp only[zI]at hI hl hp hP⊢;simp(config := { maxSteps:=9^7 }) (disch:=omega)[↓ac,↓aa,rd,hB,hM,hI,hl,hk,hz2,hP,hp,hmk,hF,q1,hZt]
 .rw[aa (λh=>absurd h.1 h1)];rcases hiv with rfl|⟨rfl,rfl⟩
  .simp only[aO.cells]at hI hl hp hP⊢
   cases q with
   |true =>
    have:=hk0 rfl;subst this;simp(config := { maxSteps:=9^7 }) (disch:=omega)[↓ac,↓aa,rd,hB,hM,hI,hl,hk,hz2,hP,hp,hmk,hF,q1,hZt]
   |false=>simp(config := { maxSteps:=9^7 }) (disch:=omega)[↓ac,↓aa,rd,hB,hM,hI,hl,hk,hz2,hP,hp,hmk,hF,q1,hZt]
  .simp only[zI]at hI hl hp hP⊢;simp(config := { maxSteps:=9^7 }) (disch:=omega)[↓ac,↓aa,rd,hB,hM,hI,hl,hk,hz2,hP,hp,hmk,hF,q1,hZt]
abbrev lv:=@Classical.byContradiction
def are (b:C_)(hb:b.length<=1000000000)(a:Int)(ha:i64 a)(r:Nat)(hr:r<=11)(q:Bool)(i:aO)(iv:D_)(hiv:iv=i.cells∨q=false∧iv=zI)(e:Nat)(e0:bi b a 0=.er e):bq prog tR [.d (.lst (ai b)),A_ a,A_ r,B_ q,.agg iv] =
  some (.tup [.agg Ca,A_ 0,A_ (e+1)]):=by
 have hR:ep (r:Int):=o_;have hB:=ik b a 0 hb ha;rw[e0,jf]at hB;have hM:=ll r false;rw[ac hR]at hM;rcases hiv with rfl|⟨rfl,rfl⟩
 all_goals
  simp only[aO.cells,zI];rw[aG Gi F7 rfl];simp(config := { maxSteps:=9^7 }) (disch:=omega)[↓ac,↓aa,rd,hB,hM]
def asV (b:C_)(hb:b.length<=1000000000)(a:Int)(ha:i64 a)(r:Nat)(hr:r<=11)(i:aO)(hi:i.Fit)(hm:¬i.may r)(n0:Nat)(e0:bi b a 0=.ok 0 n0):bq prog tR [.d (.lst (ai b)),A_ a,A_ r,B_ true,.agg i.cells] =
  some (.tup [.agg Ca,A_ 0,A_ 8]):=by
 have hR:ep (r:Int):=o_;have hB:=ik b a 0 hb ha;have p0:=eV e0;rw[e0,fp p0]at hB;have hM:=ll r false;rw[ac hR]at hM;have hI:=xL r i hi;rw[ac hR,ar,aa hm]at hI;have c0:((0:Nat):Int)=0:=rfl;simp only[aO.cells,c0]at hI hB⊢;rw[aG Gi F7 rfl];simp(config := { maxSteps:=9^7 }) (disch:=omega)[↓ac,↓aa,rd,hB,hM,hI]
def auq (b:C_)(hb:b.length<=1000000000)(a:Int)(ha:i64 a)(r:Nat)(hr:r<=11)(q:Bool)(i:aO)(hi:i.Fit)(iv:D_)(hiv:iv=i.cells∨q=false∧iv=zI)(hq:q=true->i.may r)(n0:Nat)(e0:bi b a 0=.ok 0 n0)(e:Nat)(eH:Dt b n0 r q i=.er e):bq prog tR [.d (.lst (ai b)),A_ a,A_ r,B_ q,.agg iv] =
  some (.tup [.agg Ca,A_ 0,A_ (e+1)]):=by
 have hR:ep (r:Int):=o_;have hB:=ik b a 0 hb ha;have p0:=eV e0;rw[e0,fp p0]at hB;obtain⟨k,hk0,hI⟩:=OO hr hi hiv hq;have hh:=OE b hb r hR q i hi iv hiv (λh=>by rw[ar];exact hq h) n0 (by have:=p0.2;omega) k 11;rw[ar]at hh;obtain⟨od2,is2,hl⟩:=hh.1.2 e eH;have hM:=ll r false;rw[ac hR]at hM;have c0:((0:Nat):Int)=0:=rfl;simp only[aO.cells,c0]at hI hl hB⊢;clear hh eH hi hq;rw[aG Gi F7 rfl];have hmk:Kh 1 xC=true:=rfl;simp only[xC,AQ]at hmk;rcases hiv with rfl|⟨rfl,rfl⟩
 .simp only[aO.cells]at hI hl⊢
  cases q with
  |true =>
   have:=hk0 rfl;subst this;simp(config := { maxSteps:=9^7 }) (disch:=omega)[↓ac,↓aa,rd,hB,hM,hI,hl,hmk]
  |false=>simp(config := { maxSteps:=9^7 }) (disch:=omega)[↓ac,↓aa,rd,hB,hM,hI,hl,hmk]
 .simp only[zI]at hI hl⊢;simp(config := { maxSteps:=9^7 }) (disch:=omega)[↓ac,↓aa,rd,hB,hM,hI,hl,hmk]
def auk (b:C_)(hb:b.length<=1000000000)(a:Int)(ha:i64 a)(r:Nat)(hr:r<=11)(q:Bool)(i:aO)(hi:i.Fit)(iv:D_)(hiv:iv=i.cells∨q=false∧iv=zI)(hq:q=true->i.may r)(n0:Nat)(e0:bi b a 0=.ok 0 n0)(H:Hd)(n:Nat)(eH:Dt b n0 r q i=.ok H n)(e:Nat)(eL:kK b (Ny r H.inf H.S) n Z0=.er e):bq prog tR [.d (.lst (ai b)),A_ a,A_ r,B_ q,.agg iv] =
  some (.tup [.agg Ca,A_ 0,A_ (e+1)]):=by
 have hR:ep (r:Int):=o_;have hB:=ik b a 0 hb ha;have p0:=eV e0;rw[e0,fp p0]at hB;obtain⟨k,hk0,hI⟩:=OO hr hi hiv hq;have hh:=OE b hb r hR q i hi iv hiv (λh=>by rw[ar];exact hq h) n0 (by have:=p0.2;omega) k 11;rw[ar]at hh;have p1:=hh.2 H n eH;have hl:=hh.1.1 H n eH;have hM:=ll r false;rw[ac hR]at hM;obtain⟨G,j,S,T,Ft,od,is⟩:=H;simp only[age]at hl eL;obtain⟨C2,Z2,M,hp⟩:=(ad5 b hb ⟨.cells [.junk],.cells [B_ q],.cells iv,.cells [A_ od],.cells [A_ is],.cells [ajh],.cells xC,.cells j.cells,.cells [.d (.lst (bO S))],.cells [.own false 1 (cY (offs r j.short))]⟩ (A_ G) (.d (.int .u8 j.seq)) (.d (.int .u8 j.shape)) (A_ j.max) (.own false 1 (aI j.groups)) (aE 1 (bO S)) (share (aE 1 (dj T))) (aE 1 (dk Ft)) r hr j p1.fit p1.may S p1.S rfl rfl rfl n p1.n).2 e eL;have hj11:=gR hr p1.may;have hSl:S.length=j.groups.length:=p1.S.1;have hTl:=aP List.length p1.T;simp only[il]at hTl;have hFl:=p1.F.1;simp only at hFl;have hmn:=zD j;have hgn:j.groups≠[]:=λh=>by have:=(d8 hj11).2;rw[h]at this;simp at this;omega
 have hg1:=bS.2 hgn;obtain⟨s1,S1,rfl⟩:=di (bS.1 (show 0<S.length by omega));obtain⟨t1,T1,rfl⟩:=di (bS.1 (show 0<T.length by omega));obtain⟨f1,F1,rfl⟩:=di (bS.1 (show 0<Ft.length by omega));have eS:aE 1 (bO (s1::S1))=.own false 1 (bO (s1::S1)):=rfl;have eT:share (aE 1 (dj (t1::T1)))=.d (.lst (dj (t1::T1))):=rfl;have eF:aE 1 (dk (f1::F1))=.own false 1 (dk (f1::F1)):=rfl;have hP:=Py r hr j (.lst (bO (s1::S1))) [(0,.cells [.d (.lst (ai b))]),(1,.cells [.junk]),(2,.cells [B_ q]),(3,.cells iv),(4,.cells [A_ G,.d (.int .u8 j.seq),.d (.int .u8 j.shape),A_ j.max,.own false 1 (aI j.groups),.own false 1 (bO (s1::S1)),.d (.lst (dj (t1::T1))),.own false 1 (dk (f1::F1)),.sl 11 0 256]),(5,.cells [A_ n]),(6,.cells [A_ 0]),(7,.cells [A_ od]),(8,.cells [A_ is]),(9,.cells [ajh]),(10,.cells xC),(11,.arr 1 (aI Z0)),(12,.cells vw),(13,.cells [.ptr 12 0])] 14 (λp hp=>by
  simp only[ay,b8,eg]at hp;rcases hp with rfl|rfl|rfl|rfl|rfl|rfl|rfl|rfl|rfl|rfl|rfl|rfl|rfl|rfl<;>simp only[]<;>omega)
 have c0:((0:Nat):Int)=0:=rfl;rw[eS,eT,eF]at hl hp;simp only[aO.cells,GH,qx,Pv,aS,aK,c0]at hI hl hp hP hB⊢;clear hh p1 eL eH eS eT eF hi;generalize bO (s1::S1)=SS at *;generalize dj (t1::T1)=TT at *;generalize dk (f1::F1)=FF at *;generalize hz:aI Z0=z0 at *;have hk:=av6;have hz2:=apX;rw[hz]at hk hz2;rw[aG Gi F7 rfl];have hmk:Kh 1 xC=true:=rfl;simp only[xC,AQ]at hmk;rcases hiv with rfl|⟨rfl,rfl⟩
 .simp only[aO.cells]at hI hl hp hP⊢
  cases q with
  |true =>
   have:=hk0 rfl;subst this;simp(config := { maxSteps:=9^7 }) (disch:=omega)[↓ac,↓aa,rd,hB,hM,hI,hl,hk,hz2,hP,hp,hmk]
  |false=>simp(config := { maxSteps:=9^7 }) (disch:=omega)[↓ac,↓aa,rd,hB,hM,hI,hl,hk,hz2,hP,hp,hmk]
 .simp only[zI]at hI hl hp hP⊢;simp(config := { maxSteps:=9^7 }) (disch:=omega)[↓ac,↓aa,rd,hB,hM,hI,hl,hk,hz2,hP,hp,hmk]
def CC (b:C_)(a:Int)(r:Nat)(q:Bool)(i:aO):R (Hd×G_) :=
 (bi b a 0).bind λ_ n=>if q=true∧¬i.may r then .er 7 else (Dt b n r q i).bind λH n=>(kK b (Ny r H.inf H.S) n Z0).bind λZ m=>if H.od=0∧(H.is=1->pf H.F=true) then .ok (H,Z) m else .er 7
abbrev avv (x:R (Hd×G_)):M_:=match x with
 |.ok v m=>some (.tup [.agg (TF v.1 v.2),A_ m,A_ 0])
 |.er e=>some (.tup [.agg Ca,A_ 0,A_ (e+1)])
def amC (b:C_)(hb:b.length<=1000000000)(a:Int)(ha:i64 a)(r:Nat)(hr:r<=11)(q:Bool)(i:aO)(hi:i.Fit)(iv:D_)(hiv:iv=i.cells∨q=false∧iv=zI):bq prog tR [.d (.lst (ai b)),A_ a,A_ r,B_ q,.agg iv]=avv (CC b a r q i):=by
 unfold CC
 cases e0:bi b a 0 with
 |er e=>exact are b hb a ha r hr q i iv hiv e e0
 |ok v n0 =>
 have hv:v=0:=by have:v<1:=(eV e0).1;omega
 subst hv;rw[az];by_cases hm:q=true∧¬i.may r
 .rw[ac hm];obtain⟨rfl,hm⟩:=hm
  cases hiv.resolve_right λh=>absurd h.1 (by simp)
  exact asV b hb a ha r hr i hi hm n0 e0
 .rw[aa hm];have hq:q=true->i.may r:=λh=>lv λh2=>hm ⟨h,h2⟩
  cases eH:Dt b n0 r q i with
  |er e=>exact auq b hb a ha r hr q i hi iv hiv hq n0 e0 e eH
  |ok H n =>
  rw[az]
  cases eL:kK b (Ny r H.inf H.S) n Z0 with
  |er e=>exact auk b hb a ha r hr q i hi iv hiv hq n0 e0 H n eH e eL
  |ok Z m =>
   rw[az,axF b hb a ha r hr q i hi iv hiv hq n0 e0 H n eH Z m eL];by_cases h:H.od=0∧(H.is=1->pf H.F=true)
   .rw[ac h,ac h]
   .rw[aa h,aa h];rfl
abbrev xw:=@List.drop_left
abbrev dM:=@Nat.mul_comm
abbrev rM:=@Nat.mul_assoc
abbrev ot:=@Nat.add_mul_div_right
def At (b:C_)(a n:Nat)(X:C_):Prop:=a<=b.length∧n=a+X.length∧∃t,b.drop a=X++t
def eD {b:C_}{a n:Nat}:At b a n []↔n=a∧a<=b.length:=by
 constructor
 .rintro ⟨h1,h2,_⟩
  exact⟨by simpa using h2,h1⟩
 .rintro ⟨h1,h2⟩
  exact⟨h2,by simpa using h1,b.drop a,rfl⟩
def dF {b:C_}{a n:Nat}{X:C_}(h:At b a n X):a<=b.length∧n<=b.length∧n=a+X.length:=by
 obtain⟨h1,h2,t,h3⟩:=h;have:=aP List.length h3;rw[cP,aj]at this;exact⟨h1,o_,h2⟩
def bb {b:C_}{a n:Nat}{X Y:C_}:At b a n (X++Y)↔∃m,At b a m X∧At b m n Y:=by
 constructor
 .intro h;have hl:=dF h;obtain⟨h1,h2,t,h3⟩:=h;rw[aj]at h2;refine⟨a+X.length,⟨h1,rfl,Y++t,by rw[h3,ax]⟩,o_,o_,t,?_⟩;rw[<-mD,h3,ax,xw]
 .rintro ⟨m,⟨h1,h2,t,h3⟩,h4,h5,t2,h6⟩
  refine⟨h1,by rw[aj];omega,t2,?_⟩;rw[h2,<-mD,h3,xw]at h6;rw[h3,h6,ax]
def dB {n:Nat}:∀{k:Nat},bin (au n k)
 |0=>by simp[au,bin]
 |k+1=>by
  intro x hx;rw[au]at hx;rcases ay.1 hx with h|h
  .omega
  .exact dB x h
def Ie {v:Nat}:∀{s n:Nat},val (au v s) n=n*2 ^ s+v % 2 ^ s
 |0,n=>by simp[au,val,Nat.mod_one]
 |k+1,n=>by
  rw[au,val,Ie,Nat.mod_pow_succ,da,dh];have:2*n*2 ^ k=n*(2 ^ k*2):=by rw[dM 2 n,rM,dM 2 (2 ^ k)]
  rw[this,dM (v / 2 ^ k % 2)];omega
def ahu:∀{l:C_}{n:Nat},val l n=n*2 ^ l.length+val l 0
 |[],n=>by simp[val]
 |x::r,n=>by
  rw[val,val,ahu,ahu (n:=2*0+x),aq,da,dh];have:2*n*2 ^ r.length=n*(2 ^ r.length*2):=by rw[dM 2 n,rM,dM 2 (2 ^ r.length)]
  rw[this];simp only[Nat.mul_zero,bn];omega
def Uw:∀{l:C_}{n:Nat},bin l->au (val l n) l.length=l
 |[],n,_=>rfl
 |x::r,n,h=>by
  have hr:bin r:=λy hy=>h y (.tail _ hy)
  have hx:=h x (.head _);have h0:=Jq (l:=r) (n:=0) (i:=0) hr o_;rw[bn]at h0;have e:val r (2*n+x) / 2 ^ r.length % 2=x:=by
   rw[ahu,pq,ot _ _ (Nat.pow_pos k_),gI h0];omega
  rw[val,aq,au,e,Uw hr]
def cy {b:C_}{a s v n:Nat}(hs:s<=31):bi b (a:Int) (s:Int)=.ok v n↔v<2 ^ s∧At b a n (au v s):=by
 unfold bi;simp only[ar];constructor
 .intro h;by_cases h1:(0<=(s:Int)∧(s:Int)<=31)∧0<=(a:Int)∧(a:Int)<=b.length
  .rw[ac h1]at h;by_cases h2:((b.length:Nat):Int)-a<s
   .rw[ac h2]at h;exact absurd h (by simp)
   .rw[aa h2]at h;by_cases h3:bin ((b.drop a).take s)
    .rw[ac h3]at h;injection h with e1 e2
     have hl:((b.drop a).take s).length=s:=by rw[b7,cP];omega
     have h4:=Jq (n:=0) (i:=0) h3 o_;have h5:=Uw (n:=0) h3;rw[hl,e1]at h4 h5;rw[bn]at h4;refine⟨h4,o_,by rw[cM];omega,(b.drop a).drop s,?_⟩;rw[h5,aX]
    .rw[aa h3]at h;exact absurd h (by simp)
  .rw[aa h1]at h;exact absurd h (by simp)
 .rintro ⟨hv,h⟩
  have hl:=dF h;obtain⟨h1,h2,t,h3⟩:=h;rw[cM]at h2;have e:(b.drop a).take s=au v s:=by rw[h3,List.take_left' cM]
  rw[ac o_,aa o_,e,ac dB,Ie,dA hv,h2];simp
def amY {b:C_}{a:Int}{s:Int}{v n:Nat}(h:bi b a s=.ok v n):0<=a:=by
 unfold bi at h;by_cases h1:(0<=s∧s<=31)∧0<=a∧a<=b.length
 .exact h1.2.1
 .rw[aa h1]at h;exact absurd h (by simp)
def T6 {α:Type}{c:Prop}[Decidable c]{v w:α}{n m:Nat}:Sk c v n=.ok w m↔c∧v=w∧n=m:=by
 unfold Sk;by_cases h:c
 .rw[ac h];exact⟨λe=>by injection e with e1 e2;exact⟨h,e1,e2⟩,λ⟨_,e1,e2⟩=>by rw[e1,e2]⟩
 .rw[aa h];exact⟨λe=>absurd e s_,λe=>absurd e.1 h⟩
def aU {α β:Type}{x:R α}{f:α->Nat->R β}{v:β}{n:Nat}:x.bind f=.ok v n↔∃u m,x=.ok u m∧f u m=.ok v n :=
 ⟨qV,λ⟨u,m,h1,h2⟩=>by rw[h1];exact h2⟩
def acD:Nat->AD_
 |0=>[[]]
 |k+1=>(acD k).map (0::·)++(acD k).map (1::·)
def am2:∀{l:C_},bin l->l∈acD l.length
 |[],_=>by simp[acD]
 |x::r,h=>by
  have ih:=am2 (l:=r) λy hy=>h y (.tail _ hy)
  have hx:=h x (.head _);rw[aq,acD,aW,dC,dC];rcases Nat.le_one_iff_eq_zero_or_eq_one.1 hx with rfl|rfl
  .exact .inl ⟨r,ih,rfl⟩
  .exact .inr ⟨r,ih,rfl⟩
def aiF:Nat->Nat->K_
 |0,_=>[]
 |f+1,0=>[[]]
 |f+1,n+1=>(List.range (n+1)).flatMap λk=>(aiF f (n-k)).map (((k:Int)+1)::·)
def amP:∀{g:G_}{f n:Nat},(∀x∈g,1<=x)->g.sum=n->n<f->g∈aiF f n
 |[],f,n,_,h,hf=>by
  obtain⟨f,rfl⟩:=Nat.exists_eq_add_of_lt hf;have:n=0:=by simp at h;omega
  subst this;simp[aiF]
 |x::r,f,n,hx,h,hf=>by
  have h1:=hx x (.head _);have h2:=mT (l:=r) λy hy=>hx y (.tail _ hy)
  rw[li]at h;obtain⟨f,rfl⟩:∃k,f=k+1:=⟨f-1,o_⟩
  obtain⟨n,rfl⟩:∃k,n=k+1:=⟨n-1,o_⟩
  have ih:=amP (g:=r) (f:=f) (n:=n-(x.toNat-1)) (λy hy=>hx y (.tail _ hy)) o_ o_;rw[aiF,jg];exact⟨x.toNat-1,et.2 o_,dC.2 ⟨r,ih,by congr 1;omega⟩⟩
def axT:∀l∈acD 7,Jr (grow [1] l) 7 0=l:=e_
def axV:∀g∈aiF 9 8,grow [1] (Jr g 7 0)=g:=e_
def PN {b:C_}:∀{k a n:Nat}{l:C_},a<=b.length->(z8 b k a=.ok l n↔(l.length=k∧bin l)∧At b a n l)
 |0,a,n,l,ha=>by
  rw[z8];constructor
  .intro h;injection h with e1 e2
   subst e1 e2;exact⟨⟨rfl,by simp[bin]⟩,eD.2 ⟨rfl,ha⟩⟩
  .rintro ⟨⟨h1,_⟩,h2⟩
   have:=aB h1;subst this;rw[(eD.1 h2).1]
 |k+1,a,n,l,ha=>by
  rw[z8,aU];constructor
  .rintro ⟨v,m,h1,h2⟩
   obtain⟨g1,g2⟩:=(cy (s:=1) o_).1 h1;obtain⟨l2,m2,h3,h4⟩:=aU.1 h2;injection h4 with e1 e2;subst e1 e2;obtain⟨⟨i1,i2⟩,i3⟩:=(PN (dF g2).2.1).1 h3;refine⟨⟨by rw[aq,i1],λx hx=>?_⟩,?_⟩
   .rcases ay.1 hx with rfl|hx
    .omega
    .exact i2 x hx
   .have e:au v 1=[v]:=by simp[au];omega
    rw[e]at g2;exact bb.2 ⟨m,g2,i3⟩
  .rintro ⟨⟨h1,h2⟩,h3⟩
   cases l with
   |nil=>simp at h1
   |cons v r =>
    have hv:=h2 v (.head _);obtain⟨m,g1,g2⟩:=bb (X:=[v]) (Y:=r) |>.1 h3;have e:au v 1=[v]:=by simp[au];omega
    rw[<-e]at g1;have hr:=(PN (k:=k) (dF g2).1).2 ⟨⟨by simpa using h1,λy hy=>h2 y (.tail _ hy)⟩,g2⟩;exact⟨v,m,(cy (s:=1) o_).2 ⟨o_,g1⟩,by rw[hr];rfl⟩
def alP {g:G_}:∀{k w:Nat},bin (Jr g k w)
 |0,_=>by simp[Jr,bin]
 |k+1,w=>by
  intro x hx;rw[Jr]at hx;rcases aW.1 hx with h|h
  .revert h
   split<;>exact λh=>dB x h
  .exact alP x h
def PQ {b:C_}{a r n:Nat}{j:aO}(hr:r<=11):nb b (a:Int) r=.ok j n↔j.may r∧At b a n (lH j):=by
 unfold nb lH;constructor
 .intro h;obtain⟨o,n1,h1,h⟩:=aU.1 h;obtain⟨q,n2,h2,h⟩:=aU.1 h;obtain⟨s,n3,h3,h⟩:=aU.1 h;have k1:=(cy (s:=1) o_).1 h1;have k2:=(cy (s:=2) o_).1 h2;have k3:=(cy (s:=1) o_).1 h3;by_cases hq:q=2
  .rw[ac hq]at h;obtain⟨m,n4,h4,h⟩:=aU.1 h;obtain⟨l,n5,h5,h⟩:=aU.1 h;obtain⟨⟨ho,hm⟩,e1,e2⟩:=T6.1 h;have k4:=(cy (s:=4) o_).1 h4;have k5:=(PN (dF k4.2).2.1).1 h5;subst e1 e2 ho;refine⟨hm,bb.2 ⟨n1,k1.2,bb.2 ⟨n2,k2.2,bb.2 ⟨n3,k3.2,?_⟩⟩⟩⟩;simp only[hq,bj,ar];refine bb.2 ⟨n4,k4.2,?_⟩;rw[axT l (by have:=am2 k5.1.2;rwa [k5.1.1]at this)];exact k5.2
  .rw[aa hq]at h;obtain⟨m,n4,h4,h⟩:=aU.1 h;obtain⟨p,n5,h5,h⟩:=aU.1 h;obtain⟨⟨⟨ho,hp⟩,hm⟩,e1,e2⟩:=T6.1 h;have k4:=(cy (s:=6) o_).1 h4;have k5:=(cy (s:=1) o_).1 h5;subst e1 e2 ho hp;refine⟨hm,bb.2 ⟨n1,k1.2,bb.2 ⟨n2,k2.2,bb.2 ⟨n3,k3.2,?_⟩⟩⟩⟩;simp only[aa hq,ar];exact bb.2 ⟨n4,k4.2,k5.2⟩
 .rintro ⟨hm,h0⟩
  obtain⟨n1,k1,h1⟩:=bb.1 h0;obtain⟨n2,k2,h2⟩:=bb.1 h1;obtain⟨n3,k3,h3⟩:=bb.1 h2;clear h0 h1 h2;have g11:=gR hr hm;have hmx:=ka g11;obtain⟨s,sh,m,g⟩:=j;have hs:s<=3:=hm.1;have hsh:sh<=1:=hm.2.1;simp only at hmx h3 k2 k3;obtain⟨M,rfl⟩:=aA hmx.1;refine aU.2 ⟨0,n1,(cy (s:=1) o_).2 ⟨o_,k1⟩,aU.2 ⟨s,n2,(cy (s:=2) o_).2 ⟨o_,k2⟩,aU.2 ⟨sh,n3,(cy (s:=1) o_).2 ⟨o_,k3⟩,?_⟩⟩⟩;have hmb:(M:Int)<=r8 r (decide (s=2)):=hm.2.2.2.1;have hgr:aO.grouped _:=hm.2.2.2.2;unfold aO.grouped at hgr;simp only[ar]at h3 hgr;by_cases hq:s=2
  .subst hq;have m4:M<2 ^ 4:=by
    have:=(Ok (r,true) (fP o_)).2;simp only[decide_true]at hmb this;omega
   rw[ac rfl]at h3 hgr⊢;obtain⟨n4,k4,h4⟩:=bb.1 h3;have hg:=axV g (amP (λx hx=>(hgr.1 x hx).1) hgr.2.1 o_);exact aU.2 ⟨M,n4,(cy (s:=4) o_).2 ⟨m4,k4⟩,aU.2 ⟨Jr g 7 0,n,(PN (dF k4).2.1).2 ⟨⟨acV,alP⟩,h4⟩,T6.2 ⟨⟨rfl,by rw[hg];exact hm⟩,by rw[hg],rfl⟩⟩⟩
  .have m6:=J7 (r:=r) (s:=decide (s=2)) o_;rw[aa hq]at h3 hgr⊢;obtain⟨n4,k4,h4⟩:=bb.1 h3
   cases hgr
   exact aU.2 ⟨M,n4,(cy (s:=6) o_).2 ⟨o_,k4⟩,aU.2 ⟨0,n,(cy (s:=1) o_).2 ⟨o_,h4⟩,T6.2 ⟨⟨⟨rfl,rfl⟩,hm⟩,rfl,rfl⟩⟩⟩
def aml {aY:Nat}(hm:1<=aY):∀{f g n:Nat},n<=f->n<=g->fk aY f n=fk aY g n
 |0,0,n,_,_=>rfl
 |0,g+1,n,h,_=>by
  have:n=0:=o_;subst this;rw[fk,fk,aa o_]
 |f+1,0,n,_,h=>by
  have:n=0:=o_;subst this;rw[fk,fk,aa o_]
 |f+1,g+1,n,h1,h2=>by
  rw[fk,fk];by_cases h:aY<=n
  .rw[ac h,ac h,aml hm (f:=f) (g:=g) (n:=n-aY) o_ o_]
  .rw[aa h,aa h]
def awb {aY d:Nat}(hm:1<=aY)(h:aY<=d):fk aY d d=aY::fk aY (d-aY) (d-aY):=by
 obtain⟨e,rfl⟩:∃e,d=e+1:=⟨d-1,o_⟩
 rw[fk,ac h,aml hm (f:=e) (g:=e+1-aY) o_ o_]
def av7 {aY d:Nat}(h:d<aY):fk aY d d=[d]:=by
 cases d with
 |zero=>rfl
 |succ e=>rw[fk,aa o_]
def Uu {b:C_}{sz aY left:Nat}(hs:1<=sz∧sz<=5)(hm:aY=2 ^ sz-1):∀{f a acc n m:Nat},left<acc+f->
  (zm b sz aY left f a acc=.ok n m↔(acc<=n∧n<=left)∧At b a m ((fk aY (n-acc) (n-acc)).flatMap λx=>au x sz))
 |0,a,acc,n,m,hf=>by
  rw[zm];exact⟨λh=>absurd h s_,λh=>by omega⟩
 |f+1,a,acc,n,m,hf=>by
  have h2:2 ^ 1<=2 ^ sz:=aw o_ hs.1;rw[zm,aU];constructor
  .rintro ⟨x,m1,h1,h⟩
   obtain⟨g1,g2⟩:=(cy o_).1 h1;by_cases hl:left<acc+x
   .rw[ac hl]at h;exact absurd h (by simp)
   rw[aa hl]at h;by_cases hx:x=aY
   .rw[ac hx,Uu hs hm o_]at h;obtain⟨h3,h4⟩:=h;refine⟨o_,?_⟩;rw[awb o_ o_,aC,bb];refine⟨m1,by rw[<-hx];exact g2,?_⟩;rw[show n-acc-aY=n-(acc+x) by omega];exact h4
   .rw[aa hx]at h;injection h with e1 e2
    subst e1 e2;refine⟨o_,?_⟩;rw[show acc+x-acc=x by omega,av7 o_];simpa using g2
  .rintro ⟨h1,h⟩
   by_cases hd:aY<=n-acc
   .rw[awb o_ hd,aC,bb]at h;obtain⟨m1,k1,k2⟩:=h;refine⟨aY,m1,(cy o_).2 ⟨o_,k1⟩,?_⟩;rw[aa o_,ac rfl,Uu hs hm o_];refine⟨o_,?_⟩;rw[show n-(acc+aY)=n-acc-aY by omega];exact k2
   .rw[av7 o_]at h;simp only[aC,fb,bh]at h;refine⟨n-acc,m,(cy o_).2 ⟨o_,h⟩,?_⟩;rw[aa o_,aa o_,show acc+(n-acc)=n by omega]
def alI {b:C_}{sz left a m:Nat}{s:ba}(hs:1<=sz∧sz<=5):J1 b sz left a=.ok s m↔s.right left∧At b a m (Lq sz s):=by
 rw[J1,aU,Lq];constructor
 .rintro ⟨k,m1,h1,h⟩
  obtain⟨g1,g2⟩:=(cy (s:=4) o_).1 h1;by_cases hk:k=12∨13<k
  .rw[ac hk]at h;exact absurd h (by simp)
  rw[aa hk]at h;obtain⟨n,m2,h2,h⟩:=aU.1 h;obtain⟨g3,g4⟩:=(Uu hs rfl o_).1 h2;by_cases h0:n=0
  .rw[ac h0]at h;exact absurd h (by simp)
  rw[aa h0]at h;injection h with e1 e2
  subst e1 e2;refine⟨⟨⟨by simp only[];omega,by simp only[];omega⟩,by simp only[Nw];omega⟩,bb.2 ⟨m1,g2,?_⟩⟩;simpa using g4
 .rintro ⟨⟨⟨h1,h2⟩,h3,h4⟩,h⟩
  obtain⟨k,n⟩:=s;simp only at h1 h2 h3 h4 h;obtain⟨k,rfl⟩:=aA h3;obtain⟨n,rfl⟩:=aA (show 0<=n by omega);simp only[ar]at h;obtain⟨m1,k1,k2⟩:=bb.1 h;refine⟨k,m1,(cy (s:=4) o_).2 ⟨o_,k1⟩,?_⟩;rw[aa o_];refine aU.2 ⟨n,m,(Uu hs rfl o_).2 ⟨o_,by simpa using k2⟩,?_⟩;rw[aa o_]
def Kq {b:C_}{sz:Nat}(hs:1<=sz∧sz<=5):∀{f left a m:Nat}{l:Q_},left<=f->a<=b.length->(kN b sz f left a=.ok l m↔fitsS left l∧At b a m (qn sz l))
 |0,left,a,m,l,hf,ha=>by
  have:left=0:=o_;subst this;rw[kN];constructor
  .intro h;injection h with e1 e2
   subst e1 e2;exact⟨rfl,eD.2 ⟨rfl,ha⟩⟩
  .rintro ⟨h1,h2⟩
   cases l with
   |nil=>rw[(eD.1 h2).1]
   |cons s l=>have:=h1.1.1;omega
 |f+1,left,a,m,l,hf,ha=>by
  rw[kN];by_cases h0:left=0
  .subst h0;rw[ac rfl];constructor
   .intro h;injection h with e1 e2
    subst e1 e2;exact⟨rfl,eD.2 ⟨rfl,ha⟩⟩
   .rintro ⟨h1,h2⟩
    cases l with
    |nil=>rw[(eD.1 h2).1]
    |cons s l=>have:=h1.1.1;omega
  .rw[aa h0,aU];constructor
   .rintro ⟨s,m1,h1,h⟩
    obtain⟨g1,g2⟩:=(alI hs).1 h1;obtain⟨l2,m2,h2,h⟩:=aU.1 h;injection h with e1 e2;subst e1 e2;have hr:=g1.1;obtain⟨g3,g4⟩:=(Kq hs o_ (dF g2).2.1).1 h2;refine⟨⟨g1,?_⟩,bb.2 ⟨m1,g2,g4⟩⟩
    rwa [show((left-s.len.toNat:Nat):Int)=left-s.len by omega]at g3
   .rintro ⟨h1,h2⟩
    cases l with
    |nil=>exact absurd h1 (by show ¬((left:Int)=0);omega)
    |cons s l =>
     obtain⟨k1,k2⟩:=h1;obtain⟨m1,j1,j2⟩:=bb.1 (show At b a m (Lq sz s++qn sz l) from h2);have hr:=k1.1;refine⟨s,m1,(alI hs).2 ⟨k1,j1⟩,aU.2 ⟨l,m,(Kq hs o_ (dF j1).2.1).2 ⟨?_,j2⟩,rfl⟩⟩
     rwa [show((left-s.len.toNat:Nat):Int)=left-s.len by omega]
def WE {b:C_}{sz aY:Nat}(hs:1<=sz∧sz<=5):∀{k a m:Nat}{g:H_},a<=b.length->(uH b sz aY k a=.ok g m↔(g.length=k∧∀l∈g,fitsS aY l)∧At b a m (g.flatMap (qn sz)))
 |0,a,m,g,ha=>by
  rw[uH];constructor
  .intro h;injection h with e1 e2
   subst e1 e2;exact⟨⟨rfl,s_⟩,eD.2 ⟨rfl,ha⟩⟩
  .rintro ⟨⟨h1,_⟩,h2⟩
   have:=aB h1;subst this;rw[(eD.1 h2).1]
 |k+1,a,m,g,ha=>by
  rw[uH,aU];constructor
  .rintro ⟨l,m1,h1,h⟩
   obtain⟨g1,g2⟩:=(Kq hs (ak _) ha).1 h1;obtain⟨r,m2,h2,h⟩:=aU.1 h;injection h with e1 e2;subst e1 e2;obtain⟨⟨g3,g4⟩,g5⟩:=(WE hs (dF g2).2.1).1 h2;refine⟨⟨by rw[aq,g3],λq hq=>?_⟩,bb.2 ⟨m1,g2,g5⟩⟩;rcases ay.1 hq with rfl|hq
   .exact g1
   .exact g4 q hq
  .rintro ⟨⟨h1,h2⟩,h3⟩
   cases g with
   |nil=>simp at h1
   |cons l r =>
    obtain⟨m1,j1,j2⟩:=bb.1 (show At b a m (qn sz l++r.flatMap (qn sz)) from h3);exact⟨l,m1,(Kq hs (ak _) ha).2 ⟨h2 l (.head _),j1⟩,aU.2 ⟨r,m,(WE hs (dF j1).2.1).2 ⟨⟨by simpa using h1,λq hq=>h2 q (.tail _ hq)⟩,j2⟩,rfl⟩⟩
def Zv {b:C_}{i:aO}{a m:Nat}{g:H_}(hm:i.may 11)(ha:a<=b.length):vJ b i (a:Int)=.ok g m↔kg i g∧At b a m (PI i g):=by
 have hmx:=ka hm;obtain⟨M,hM⟩:=aA hmx.1;have hs:1<=i.fsz∧i.fsz<=5:=by unfold aO.fsz;split<;>omega
 rw[vJ,ac o_,ar,WE hs ha,lE hmx.1];exact Iff.rfl
def Yt:∀id∈ids,(cB id).length=br id∧(List.range (br id)).all (λe=>Nat.beq (nth (cB id) (nth (dT id) e)) e && Nat.beq (nth (dT id) (nth (cB id) e)) e)=true:=e_
def aek {id e:Nat}(h:jY id)(he:e<br id):nth (cB id) (nth (dT id) e)=e∧nth (dT id) (nth (cB id) e)=e:=by
 have h1:=bJ.1 (Yt id (gy h)).2 e (et.2 he);rw[af,aD,aD]at h1;exact h1
abbrev qz:=@Nat.add_mul_mod_self_right
abbrev px:=@Nat.div_add_mod
def Le {b:C_}:∀{f m a k n:Nat},mR b f m (a:Int)=.ok k n↔(m<=k∧k<m+f)∧At b a n (List.replicate (k-m) 0++[1])
 |0,m,a,k,n=>by
  rw[mR];exact⟨λh=>absurd h s_,λh=>by omega⟩
 |f+1,m,a,k,n=>by
  rw[mR,aU];constructor
  .rintro ⟨v,m1,h1,h⟩
   obtain⟨g1,g2⟩:=(cy (s:=1) o_).1 h1;have e:au v 1=[v]:=by simp[au];omega
   rw[e]at g2;by_cases hv:v=1
   .rw[ac hv]at h;injection h with e1 e2
    subst e1 e2 hv;exact⟨o_,by simpa using g2⟩
   .have:v=0:=o_;subst this;rw[aa hv,Le]at h;obtain⟨h2,h3⟩:=h;refine⟨o_,?_⟩;rw[show k-m=(k-(m+1))+1 by omega,cx,aS];exact bb (X:=[0]) |>.2 ⟨m1,g2,h3⟩
  .rintro ⟨h1,h⟩
   by_cases hk:k=m
   .subst hk;rw[uE]at h;refine⟨1,n,(cy (s:=1) o_).2 ⟨o_,?_⟩,by rw[ac rfl]⟩;simpa [au] using h
   .rw[show k-m=(k-(m+1))+1 by omega,cx,aS]at h;obtain⟨m1,k1,k2⟩:=bb (X:=[0]) |>.1 h;refine⟨0,m1,(cy (s:=1) o_).2 ⟨o_,by simpa [au] using k1⟩,?_⟩;rw[aa o_,Le];exact⟨o_,k2⟩
def aes {r:C_}:∀{k:Nat},val (List.replicate k 0++r) 0=val r 0
 |0=>rfl
 |k+1=>by rw[cx,aS,val];exact aes
def aev {k hi:Nat}(h:hi<2 ^ k):au (2 ^ k+hi) (2*k+1)=List.replicate k 0++[1]++au hi k:=by
 have hb:bin (List.replicate k 0++(1::au hi k)):=by
  intro x hx;rcases aW.1 hx with h|h
  .have:=cH h;omega
  .rcases ay.1 h with h|h
   .omega
   .exact dB x h
 have h1:=Uw (n:=0) hb;rw[aes,val,Ie,dA h,aj,aL,aq,cM]at h1;rw[ax,cw,<-h1]
 congr 1
 all_goals omega
def alY {n k:Nat}(h1:2 ^ k<=n)(h2:n<2 ^ (k+1)):cU n=k+1:=by
 have hp:=bN k;have a:=Ig (n:=n);have b:=vG (n:=n) o_;rcases Nat.lt_trichotomy (cU n) (k+1) with h|h|h
 .have:=aw (n:=2) o_ (show cU n<=k by omega);omega
 .exact h
 .have:=aw (n:=2) o_ (show k+1<=cU n-1 by omega);omega
def EU {id:Nat}(hid:jY id){b:C_}{a e n:Nat}:z6 id b (a:Int)=.ok e n↔e<br id∧At b a n (kt id e):=by
 obtain⟨r1,r2,r3⟩:=PM id (gy hid);have hl:=(Yt id (gy hid)).1;have hm:br id<=300:=by have:=mw id (gy hid);omega
 have hP:1<=2 ^ bR id:=bN _;rw[z6,aU];unfold kt;constructor
 .rintro ⟨k,n1,h1,h⟩
  obtain⟨⟨_,k9⟩,g1⟩:=Le.1 h1;obtain⟨hi,n2,h2,h⟩:=aU.1 h;obtain⟨g2,g3⟩:=(cy o_).1 h2;obtain⟨lo,n3,h3,h⟩:=aU.1 h;obtain⟨g4,g5⟩:=(cy o_).1 h3;by_cases hx:(cB id).length<=(2 ^ k+hi-1)*2 ^ bR id+lo
  .rw[ac hx]at h;exact absurd h (by simp)
  rw[aa hx]at h;injection h with e1 e2
  subst e1 e2;have hk:=bN k;have he:=aek hid (e:=(2 ^ k+hi-1)*2 ^ bR id+lo) o_;have hlt:nth (cB id) ((2 ^ k+hi-1)*2 ^ bR id+lo)<br id:=(KO (by have:=hid.2;omega)).2.2.2 _ (jE o_);refine⟨hlt,?_⟩;rw[he.2];have d1:((2 ^ k+hi-1)*2 ^ bR id+lo) / 2 ^ bR id=2 ^ k+hi-1:=by
   rw[pq,ot _ _ hP,gI g4,bn]
  have d2:((2 ^ k+hi-1)*2 ^ bR id+lo) % 2 ^ bR id=lo:=by
   rw[pq,qz,dA g4]
  rw[d1,d2,show 2 ^ k+hi-1+1=2 ^ k+hi by omega,alY (k:=k) o_ (by rw[da];omega),show 2*(k+1)-1=2*k+1 by omega,aev g2];exact bb.2 ⟨n2,bb.2 ⟨n1,g1,g3⟩,g5⟩
 .rintro ⟨he,h⟩
  have hr:=abo hid he;have hf:=(aek hid he).1;generalize nth (dT id) e=r at *;have hq:1<=r / 2 ^ bR id+1:=lL _ _;have hdv:r / 2 ^ bR id<=r:=fV _ _;have hdm:=px r (2 ^ bR id);have hmod:r % 2 ^ bR id<2 ^ bR id:=dl _ hP;generalize r / 2 ^ bR id=q at *;generalize r % 2 ^ bR id=lo at *;have l1:=Ig (n:=q+1);have l2:=vG (n:=q+1) o_;have l0:1<=cU (q+1):=by
   rcases Nat.eq_zero_or_pos (cU (q+1)) with h0|h0
   .rw[h0]at l1;omega
   .exact h0
  obtain⟨k,hk⟩:∃k,cU (q+1)=k+1:=⟨cU (q+1)-1,o_⟩
  rw[hk]at l1 l2 h;rw[dx]at l2;rw[da]at l1;have k9:k<10:=by
   rcases bD k 10 with h|h
   .exact h
   .have:=aw (n:=2) o_ h;omega
  obtain⟨hi,hhi⟩:∃hi,q+1=2 ^ k+hi:=⟨q+1-2 ^ k,o_⟩
  have hh:hi<2 ^ k:=o_;rw[show 2*(k+1)-1=2*k+1 by omega,hhi,aev hh]at h;obtain⟨n2,j1,j2⟩:=bb.1 h;obtain⟨n1,j3,j4⟩:=bb.1 j1;have ei:(2 ^ k+hi-1)*2 ^ bR id+lo=r:=by rw[<-hhi,dx,dM];omega
  refine⟨k,n1,Le.2 ⟨o_,by simpa using j3⟩,aU.2 ⟨hi,n2,(cy o_).2 ⟨hh,j4⟩,aU.2 ⟨lo,n,(cy o_).2 ⟨hmod,j2⟩,?_⟩⟩⟩;rw[ei,aa o_,hf]
def R3 {low:Int}{w:Nat}{v:Int}:∀{l:G_}{n:Nat},lS low w (l++[v]) n=lS low w l n*w+(v-low).toNat
 |[],n=>rfl
 |x::r,n=>by rw[aS,lS,lS,R3]
def adY {low:Int}{w:Nat}(hw:1<=w):∀{d e:Nat},e<w ^ d->lS low w (mB low w d e) 0=e
 |0,e,h=>by rw[Nat.pow_zero]at h;rw[mB,lS];omega
 |d+1,e,h=>by
  rw[mB,R3,adY hw (by rw[da]at h;exact Nat.div_lt_of_lt_mul (by rwa [dM])),show((e % w:Nat):Int)+low-low=((e % w:Nat):Int) by omega,ar,dM];exact px e w
def agD {low:Int}{w:Nat}(hw:1<=w):∀(r:G_),(∀v∈r,low<=v∧v<low+w)->mB low w r.reverse.length (lS low w r.reverse 0)=r.reverse
 |[],_=>rfl
 |v::r,h=>by
  have ih:=agD hw r λx hx=>h x (.tail _ hx)
  have hv:=h v (.head _);rw[sn,aj,List.length_singleton,R3,mB];have hx:(v-low).toNat<w:=o_;rw[pq (_*w),ot _ _ hw,gI hx,bn,ih,qz,dA hx]
  congr 2
  omega
def ast {low:Int}{w:Nat}(hw:1<=w){l:G_}(h:∀v∈l,low<=v∧v<low+w):mB low w l.length (lS low w l 0)=l:=by
 have:=agD hw l.reverse λv hv=>h v (List.mem_reverse.1 hv)
 rwa [List.reverse_reverse]at this
def sgB:G_->C_->C_
 |v::r,s::ss=>(if v=0 then [] else [s])++sgB r ss
 |_,_=>[]
def Zg:G_->C_->Prop
 |v::r,s::ss=>(s<=1∧(v=0->s=0))∧Zg r ss
 |[],[]=>True
 |_,_=>False
def R5 {s:Nat}(h:s<=1):au s 1=[s]:=by simp[au];omega
def BO {b:C_}:∀{vs:G_}{ss:C_}{a n:Nat},a<=b.length->(kU b vs a=.ok ss n↔Zg vs ss∧At b a n (sgB vs ss))
 |[],ss,a,n,ha=>by
  rw[kU];constructor
  .intro h;injection h with e1 e2
   subst e1 e2;exact⟨trivial,eD.2 ⟨rfl,ha⟩⟩
  .rintro ⟨h1,h2⟩
   cases ss with
   |nil=>rw[(eD.1 h2).1]
   |cons s ss=>exact absurd h1 (by simp[Zg])
 |v::r,ss,a,n,ha=>by
  rw[kU];by_cases hv:v=0
  .rw[ac hv,aU];constructor
   .rintro ⟨l,m,h1,h⟩
    injection h with e1 e2
    subst e1 e2;obtain⟨g1,g2⟩:=(BO ha).1 h1;exact⟨⟨⟨o_,λ_=>rfl⟩,g1⟩,by rw[sgB,ac hv];exact g2⟩
   .rintro ⟨h1,h2⟩
    cases ss with
    |nil=>exact absurd h1 (by simp[Zg])
    |cons s ss =>
     have:=h1.1.2 hv;subst this;rw[sgB,ac hv]at h2;exact⟨ss,n,(BO ha).2 ⟨h1.2,h2⟩,rfl⟩
  .rw[aa hv,aU];constructor
   .rintro ⟨s,m,h1,h⟩
    obtain⟨g1,g2⟩:=(cy (s:=1) o_).1 h1;rw[R5 o_]at g2;obtain⟨l,m2,h2,h⟩:=aU.1 h;injection h with e1 e2;subst e1 e2;obtain⟨g3,g4⟩:=(BO (dF g2).2.1).1 h2;exact⟨⟨⟨o_,λh=>absurd h hv⟩,g3⟩,by rw[sgB,aa hv];exact bb.2 ⟨m,g2,g4⟩⟩
   .rintro ⟨h1,h2⟩
    cases ss with
    |nil=>exact absurd h1 (by simp[Zg])
    |cons s ss =>
     rw[sgB,aa hv]at h2;obtain⟨m,k1,k2⟩:=bb.1 h2;have hs:=h1.1.1;exact⟨s,m,(cy (s:=1) o_).2 ⟨o_,by rw[R5 hs];exact k1⟩,aU.2 ⟨ss,n,(BO (dF k1).2.1).2 ⟨h1.2,k2⟩,rfl⟩⟩
def N4 {b:C_}:∀{f m a k n:Nat},ye b f m a=.ok k n↔(m<=k∧k<m+f)∧At b a n (List.replicate (k-m) 1++[0])
 |0,m,a,k,n=>by
  rw[ye];exact⟨λh=>absurd h s_,λh=>by omega⟩
 |f+1,m,a,k,n=>by
  rw[ye,aU];constructor
  .rintro ⟨v,m1,h1,h⟩
   obtain⟨g1,g2⟩:=(cy (s:=1) o_).1 h1;rw[R5 o_]at g2;by_cases hv:v=1
   .subst hv;rw[ac rfl,N4]at h;obtain⟨h2,h3⟩:=h;refine⟨o_,?_⟩;rw[show k-m=(k-(m+1))+1 by omega,cx,aS];exact bb (X:=[1]) |>.2 ⟨m1,g2,h3⟩
   .have:v=0:=o_;subst this;rw[aa hv]at h;injection h with e1 e2
    subst e1 e2;exact⟨o_,by simpa using g2⟩
  .rintro ⟨h1,h⟩
   by_cases hk:k=m
   .subst hk;rw[uE]at h;refine⟨0,n,(cy (s:=1) o_).2 ⟨o_,?_⟩,by rw[aa o_]⟩;simpa [au] using h
   .rw[show k-m=(k-(m+1))+1 by omega,cx,aS]at h;obtain⟨m1,k1,k2⟩:=bb (X:=[1]) |>.1 h;refine⟨1,m1,(cy (s:=1) o_).2 ⟨o_,by simpa [au] using k1⟩,?_⟩;rw[ac rfl,N4];exact⟨o_,k2⟩
abbrev auE (x:Nat):C_:=List.replicate (cU x-5) 1++(0::au (x % 2 ^ (cU x-1)) (cU x-1))
def ams {b:C_}{a x n:Nat}:PV b a=.ok x n↔(16<=x∧x<=8191)∧At b a n (auE x):=by
 rw[PV,aU];constructor
 .rintro ⟨m,n1,h1,h⟩
  obtain⟨⟨_,m9⟩,g1⟩:=N4.1 h1;obtain⟨y,n2,h2,h⟩:=aU.1 h;obtain⟨g2,g3⟩:=(cy o_).1 h2;injection h with e1 e2;subst e1 e2;have p1:=aw (n:=2) o_ (show 4<=m+4 by omega);have p2:=aw (n:=2) o_ (show m+4<=12 by omega);have hl:=alY (n:=2 ^ (m+4)+y) (k:=m+4) o_ (by have:2 ^ (m+4+1)=2 ^ (m+4)*2:=da _ _;omega);refine⟨o_,?_⟩;unfold auE;rw[hl,show m+4+1-5=m by omega,dx,Nat.add_mod_left,dA g2];have:List.replicate m 1++(0::au y (m+4))=(List.replicate m 1++[0])++au y (m+4):=s_;rw[this];exact bb.2 ⟨n1,by simpa using g1,g3⟩
 .rintro ⟨⟨h1,h2⟩,h⟩
  have l1:=Ig (n:=x);have l2:=vG (n:=x) o_;have k5:5<=cU x:=by
   rcases bD (cU x) 5 with h|h
   .have:=aw (n:=2) o_ (show cU x<=4 by omega);omega
   .exact h
  have k13:cU x<=13:=by
   rcases bD 13 (cU x) with h|h
   .have:=aw (n:=2) o_ (show 13<=cU x-1 by omega);omega
   .exact h
  obtain⟨m,hm⟩:∃m,cU x=m+5:=⟨cU x-5,o_⟩
  unfold auE at h;rw[hm]at h l1 l2;rw[show m+5-1=m+4 by omega]at h l2;have l3:2 ^ (m+5)=2 ^ (m+4)*2:=da _ _;rw[dx]at h;have:List.replicate m 1++(0::au (x % 2 ^ (m+4)) (m+4))=(List.replicate m 1++[0])++au (x % 2 ^ (m+4)) (m+4):=s_;rw[this]at h;obtain⟨n1,j1,j2⟩:=bb.1 h;have hx:x % 2 ^ (m+4)=x-2 ^ (m+4):=by rw[Nat.mod_eq_sub_mod l2,dA o_]
  refine⟨m,n1,N4.2 ⟨o_,by simpa using j1⟩,aU.2 ⟨x % 2 ^ (m+4),n,(cy o_).2 ⟨o_,j2⟩,?_⟩⟩;rw[hx]
  congr 1
  omega
def sgn (v:Int):Nat:=if v<0 then 1 else 0
def D4 {b:C_}{id:Nat}{M:Nat}(hM:id=11->M=8191):∀{vs:G_}{ss:C_}{l:G_}{a n:Nat},a<=b.length->Zg vs ss->(∀v∈vs,0<=v∧(id=11->v<=16)∧(id≠11->v<=M))->
  (nc b id vs ss a=.ok l n↔(vs=l.map (kZ id)∧ss=l.map sgn∧∀v∈l,v.natAbs<=M)∧At b a n (l.flatMap (xn id)))
 |[],[],l,a,n,ha,hs,hv=>by
  have e0:nc b id [] [] a=.ok [] a:=by simp[nc]
  rw[e0];constructor
  .intro h;injection h with e1 e2
   subst e1 e2;exact⟨⟨rfl,rfl,s_⟩,eD.2 ⟨rfl,ha⟩⟩
  .rintro ⟨⟨h1,h2,_⟩,h3⟩
   cases l with
   |nil=>rw[(eD.1 h3).1]
   |cons x r=>exact absurd h1 (by simp)
 |[],s::ss,l,a,n,ha,hs,hv=>absurd hs (by simp[Zg])
 |v::r,[],l,a,n,ha,hs,hv=>absurd hs (by simp[Zg])
 |v::r,s::ss,l,a,n,ha,hs,hv=>by
  obtain⟨⟨s1,s2⟩,hs⟩:=hs;obtain⟨v0,v11,vM⟩:=hv v (.head _);have hv:=λx hx=>hv x (.tail _ hx)
  have sg1:∀x:Int,0<=x->(x=0->s=0)->sgn (sg s x)=s∧(sg s x).natAbs=x.toNat:=λx h0 h1=>by
   unfold sgn sg;by_cases h:s=1
   .rw[ac h,ac o_];omega
   .rw[aa h,aa o_];omega
  have sg2:∀(y:Int),s=sgn y->sg s (y.natAbs:Int)=y:=λy h=>by
   unfold sgn at h;unfold sg;by_cases h2:y<0
   .rw[ac h2]at h;rw[ac h];omega
   .rw[aa h2]at h;rw[aa o_];omega
  rw[nc];by_cases hg:id=11∧v=16
  .rw[ac hg,aU];obtain⟨h11,hv16⟩:=hg;constructor
   .rintro ⟨x,m,h1,h⟩
    obtain⟨g1,g2⟩:=ams.1 h1;obtain⟨l2,m2,h2,h⟩:=aU.1 h;injection h with e1 e2;subst e1 e2;obtain⟨⟨g3,g4,g5⟩,g6⟩:=(D4 hM (dF g2).2.1 hs hv).1 h2;obtain⟨q1,q2⟩:=sg1 x o_ o_;have q3:(sg s (x:Int)).natAbs=x:=o_;refine⟨⟨?_,?_,?_⟩,?_⟩
    .rw[bL,<-g3,kZ,ac o_,hv16]
    .rw[bL,<-g4,q1]
    .intro y hy;rcases ay.1 hy with rfl|hy
     .rw[q3,hM h11];omega
     .exact g5 y hy
    .rw[aC,xn,ac o_,q3];exact bb.2 ⟨m,g2,g6⟩
   .rintro ⟨⟨h1,h2,h3⟩,h4⟩
    cases l with
    |nil=>exact absurd h1 (by simp)
    |cons y l =>
     rw[bL]at h1 h2;injection h1 with h1 h1t
     injection h2 with h2 h2t
     have hy:=h3 y (.head _);rw[hM h11]at hy;have h16:16<=y.natAbs:=by
      rw[kZ]at h1;by_cases h:id=11∧16<=y.natAbs
      .exact h.2
      .rw[aa h]at h1;omega
     rw[aC,xn,ac ⟨h11,h16⟩]at h4;obtain⟨m,k1,k2⟩:=bb.1 h4;refine⟨y.natAbs,m,ams.2 ⟨o_,k1⟩,aU.2 ⟨l,n,(D4 hM (dF k1).2.1 hs hv).2 ⟨⟨h1t,h2t,λz hz=>h3 z (.tail _ hz)⟩,k2⟩,?_⟩⟩;rw[sg2 y h2]
  .rw[aa hg,aU];constructor
   .rintro ⟨l2,m,h1,h⟩
    injection h with e1 e2
    subst e1 e2;obtain⟨⟨g3,g4,g5⟩,g6⟩:=(D4 hM ha hs hv).1 h1;obtain⟨q1,q2⟩:=sg1 v v0 s2;have hng:¬(id=11∧16<=(sg s v).natAbs):=o_;refine⟨⟨?_,?_,?_⟩,?_⟩
    .rw[bL,<-g3,kZ,aa hng];congr 1;omega
    .rw[bL,<-g4,q1]
    .intro y hy;rcases ay.1 hy with rfl|hy
     .by_cases h11:id=11
      .have:=hM h11;have:=v11 h11;omega
      .have:=vM h11;omega
     .exact g5 y hy
    .rw[aC,xn,aa hng,aK];exact g6
   .rintro ⟨⟨h1,h2,h3⟩,h4⟩
    cases l with
    |nil=>exact absurd h1 (by simp)
    |cons y l =>
     rw[bL]at h1 h2;injection h1 with h1 h1t
     injection h2 with h2 h2t
     have hng:¬(id=11∧16<=y.natAbs):=λh=>by
      rw[kZ,ac h]at h1;exact hg ⟨h.1,h1⟩
     rw[kZ,aa hng]at h1;rw[aC,xn,aa hng,aK]at h4;refine⟨l,n,(D4 hM ha hs hv).2 ⟨⟨h1t,h2t,λz hz=>h3 z (.tail _ hz)⟩,h4⟩,?_⟩;rw[h1,sg2 y h2]
def ajG {id:Nat}{v:Int}:kZ id v=0↔v=0:=by
 unfold kZ;by_cases h:id=11∧16<=v.natAbs
 .rw[ac h];omega
 .rw[aa h];omega
def acK {id:Nat}:∀{l:G_},sgB (l.map (kZ id)) (l.map sgn)=l.flatMap qD
 |[]=>rfl
 |v::r=>by
  rw[bL,bL,sgB,acK,aC]
  congr 1
  unfold qD sgn;by_cases h:v=0
  .rw[ac (ajG.2 h),ac h]
  .rw[aa (λh2=>h (ajG.1 h2)),aa h];split<;>rfl
def abj {id:Nat}:∀{l:G_},Zg (l.map (kZ id)) (l.map sgn)
 |[]=>trivial
 |v::r=>⟨⟨by unfold sgn;split<;>omega,λh=>by rw[ajG]at h;subst h;rfl⟩,abj⟩
def ax5:jd 11=8191:=e_
def aji {id:Nat}(hid:1<=id∧id<=11){b:C_}{a n:Nat}{l:G_}:Fp id b (a:Int)=.ok l n↔OW id l∧At b a n (zW id l):=by
 have hok:jY id:=⟨hid.1,o_⟩
 obtain⟨m1,m2,m3,m4⟩:=C0 id (Ub hid);obtain⟨k1,k2,k3,k4,k5,k6,k7⟩:=mw id (gy hok);have hmany:br id=cL id ^ eW id:=rfl;have lt:∀{vs:G_},Sw id vs->lS (dy id) (cL id) vs 0<br id:=λ{vs} h=>by
  have:=H9 (n:=0) (j:=0) h.2 s_;rw[bn,h.1,<-hmany]at this;exact this
 have back:∀{vs:G_},Sw id vs->mU id (lS (dy id) (cL id) vs 0)=vs:=λ{vs} h=>by
  have:=ast k3 h.2;rw[h.1]at this;exact this
 have forth:∀{e:Nat},e<br id->lS (dy id) (cL id) (mU id e) 0=e∧∀v∈mU id e,dy id<=v∧v<dy id+cL id:=λ{e} h=>⟨adY k3 (by rwa [<-hmany]),JX k3⟩
 rw[Fp,aU];unfold zW;by_cases hs:lc id=true
 .simp only[ac hs];obtain⟨q1,q2⟩:=m1 hs;constructor
  .rintro ⟨e,m,h1,h⟩
   obtain⟨g1,g2⟩:=(EU hok).1 h1;injection h with e1 e2;subst e1 e2;obtain⟨f1,f2⟩:=forth g1;refine⟨⟨by rw[FJ,m3],λv hv=>by have:=f2 v hv;omega⟩,?_⟩;rw[f1];exact g2
  .rintro ⟨h1,h2⟩
   have hi:=(OM hid h1).1 hs;exact⟨_,n,(EU hok).2 ⟨lt hi,h2⟩,by rw[back hi]⟩
 .have hs2:lc id=false:=by simpa using hs
  simp only[aa hs];obtain⟨q1,q2,q3⟩:=m2 hs2;have h11:id=11->jd id=8191:=λh=>by rw[h];exact ax5
  constructor
  .rintro ⟨e,m,h1,h⟩
   obtain⟨g1,g2⟩:=(EU hok).1 h1;obtain⟨ss,m2,h2,h⟩:=aU.1 h;obtain⟨g3,g4⟩:=(BO (dF g2).2.1).1 h2;obtain⟨f1,f2⟩:=forth g1;have hv:∀v∈mU id e,0<=v∧(id=11->v<=16)∧(id≠11->v<=jd id):=λv hv=>by
    have:=f2 v hv;refine⟨o_,λh=>by have:=q3 h;omega,λh=>by have:=q2 h;omega⟩
   obtain⟨⟨g5,g6,g7⟩,g8⟩:=(D4 h11 (dF g4).2.1 g3 hv).1 h;have hl:l.length=bI id:=by
    have:=aP List.length g5;rw[FJ,il]at this;omega
   refine⟨⟨hl,g7⟩,bb.2 ⟨m,?_,bb.2 ⟨m2,?_,g8⟩⟩⟩
   .rw[<-g5,f1];exact g2
   .rw[<-acK (id:=id),<-g5,<-g6];exact g4
  .rintro ⟨h1,h2⟩
   have hi:=(OM hid h1).2 hs2;obtain⟨m,j1,j2⟩:=bb.1 h2;obtain⟨p,j3,j4⟩:=bb.1 j2;have hv:∀v∈l.map (kZ id),0<=v∧(id=11->v<=16)∧(id≠11->v<=jd id):=λv hv=>by
    have:=hi.2 v hv;refine⟨o_,λh=>by have:=q3 h;omega,λh=>by have:=q2 h;omega⟩
   refine⟨_,m,(EU hok).2 ⟨lt hi,j1⟩,?_⟩;rw[back hi];refine aU.2 ⟨l.map sgn,p,(BO (dF j1).2.1).2 ⟨abj,by rw[acK];exact j3⟩,?_⟩;exact(D4 h11 (dF j3).2.1 abj hv).2 ⟨⟨rfl,rfl,h1.2⟩,j4⟩
def awB:br 12=121:=e_
def alQ {b:C_}{a n:Nat}{d:Int}:IT b (a:Int)=.ok d n↔(-60<=d∧d<=60)∧At b a n (kt 12 (d+60).toNat):=by
 have hok:jY 12:=o_;have h12:=awB;rw[IT,aU];constructor
 .rintro ⟨e,m,h1,h⟩
  obtain⟨g1,g2⟩:=(EU hok).1 h1;injection h with e1 e2;subst e1 e2;refine⟨o_,?_⟩;rw[show((e:Int)-60+60).toNat=e by omega];exact g2
 .rintro ⟨h1,h2⟩
  refine⟨(d+60).toNat,n,(EU hok).2 ⟨o_,h2⟩,?_⟩
  congr 1
  omega
def T9 {b:C_}{a n:Nat}{k w v:Int}(hw:w<0->k=13):lD b (a:Int) k w=.ok v n↔((0<=v∧v<=sT k)∧(w<0∨(w-60<=v∧v<=w+60)))∧At b a n (if w<0 then au v.toNat 9 else kt 12 (v-w+60).toNat):=by
 rw[lD];by_cases h0:w<0
 .have hk:=hw h0;have hm:sT k=511:=ac hk;rw[ac h0,ac h0,aU,hm];constructor
  .rintro ⟨x,m,h1,h⟩
   obtain⟨g1,g2⟩:=(cy (s:=9) o_).1 h1;injection h with e1 e2;subst e1 e2;exact⟨⟨o_,.inl h0⟩,by simpa using g2⟩
  .rintro ⟨⟨h1,_⟩,h2⟩
   exact⟨v.toNat,n,(cy (s:=9) o_).2 ⟨o_,h2⟩,by congr 1;omega⟩
 .rw[aa h0,aa h0,aU];constructor
  .rintro ⟨d,m,h1,h⟩
   obtain⟨g1,g2⟩:=alQ.1 h1;by_cases hx:w+d<0∨sT k<w+d
   .rw[ac hx]at h;exact absurd h (by simp)
   rw[aa hx]at h;injection h with e1 e2
   subst e1 e2;refine⟨⟨o_,.inr o_⟩,?_⟩;rw[show w+d-w+60=d+60 by omega];exact g2
  .rintro ⟨⟨h1,h2⟩,h3⟩
   refine⟨v-w,n,alQ.2 ⟨o_,h3⟩,?_⟩;rw[aa o_]
   congr 1
   omega
def s13 {v w z:Int}:sf 13 v w z=if z<0 then au v.toNat 9 else kt 12 (v-z+60).toNat:=by rw[sf,aa k_,ac rfl]
def t13 {v w z:Int}:kB 13 v w z=(w,v):=by rw[kB,aa k_,ac rfl]
def Bv {b:C_}:∀{r:G_}{t:G_}{a n:Nat}{w z w2 z2:Int},a<=b.length->(∀k∈r,0<=k)->0<=w->
  (pb b r (a:Int) w z=.ok (t,w2,z2) n↔ee r t w z=some (w2,z2)∧At b a n (qa r t w z))
 |[],t,a,n,w,z,w2,z2,ha,hr,hw=>by
  rw[pb,ar];constructor
  .intro h;injection h with e1 e2
   injection e1 with e1 e3
   injection e3 with e3 e4
   subst e1 e2 e3 e4;exact⟨rfl,eD.2 ⟨rfl,ha⟩⟩
  .rintro ⟨h1,h2⟩
   cases t with
   |nil =>
    injection h1 with h1
    injection h1 with e1 e2
    subst e1 e2;rw[(eD.1 h2).1]
   |cons x t=>exact absurd h1 (by simp[ee])
 |k::r,t,a,n,w,z,w2,z2,ha,hr,hw=>by
  have hk:=hr k (.head _);have hr2:∀k∈r,0<=k:=λx hx=>hr x (.tail _ hx)
  rw[pb];by_cases h13:k=13
  .subst h13;rw[ac rfl,aU];have hm:sT 13=511:=rfl;constructor
   .rintro ⟨v,m,h1,h⟩
    obtain⟨g1,g2⟩:=(T9 (λ_=>rfl)).1 h1;obtain⟨⟨t2,u2,y2⟩,m2,h2,h⟩:=aU.1 h;injection h with e1 e2;injection e1 with e1 e3
    injection e3 with e3 e4
    simp only at e1 e3 e4;subst e1 e2 e3 e4;obtain⟨g3,g4⟩:=(Bv (dF g2).2.1 hr2 hw).1 h2;refine⟨?_,?_⟩
    .rw[ee,aa k_,ac (by unfold mp;rw[ac rfl];omega),ac rfl];exact g3
    .rw[qa,s13,t13];exact bb.2 ⟨m,g2,g4⟩
   .rintro ⟨h1,h2⟩
    cases t with
    |nil=>exact absurd h1 (by simp[ee])
    |cons v t =>
     obtain⟨c1,c2,c3⟩:=qt (by rw[h1];simp);have hT:=c2 k_;unfold mp at hT;rw[ac rfl]at hT;rw[c3,kB,aa k_,ac rfl]at h1;rw[qa,s13,t13]at h2;obtain⟨m,j1,j2⟩:=bb.1 h2;exact⟨v,m,(T9 (λ_=>rfl)).2 ⟨o_,j1⟩,aU.2 ⟨(t,w2,z2),n,(Bv (dF j1).2.1 hr2 hw).2 ⟨h1,j2⟩,rfl⟩⟩
  .rw[aa h13];by_cases h0:0<k
   .have hm:sT k=255:=aa h13;have hk0:¬k=0:=o_;rw[ac h0,aU];constructor
    .rintro ⟨v,m,h1,h⟩
     obtain⟨g1,g2⟩:=(T9 (λh=>by omega)).1 h1;obtain⟨⟨t2,u2,y2⟩,m2,h2,h⟩:=aU.1 h;injection h with e1 e2;injection e1 with e1 e3
     injection e3 with e3 e4
     simp only at e1 e3 e4;subst e1 e2 e3 e4;rw[aa o_]at g2;obtain⟨g3,g4⟩:=(Bv (dF g2).2.1 hr2 g1.1.1).1 h2;refine⟨?_,?_⟩
     .rw[ee,aa hk0,ac (by unfold mp;rw[aa h13];omega),aa h13];exact g3
     .rw[qa,sf,aa hk0,aa h13,kB,aa hk0,aa h13];exact bb.2 ⟨m,g2,g4⟩
    .rintro ⟨h1,h2⟩
     cases t with
     |nil=>exact absurd h1 (by simp[ee])
     |cons v t =>
      obtain⟨c1,c2,c3⟩:=qt (by rw[h1];simp);have hT:=c2 hk0;unfold mp at hT;rw[aa h13]at hT;rw[c3,kB,aa hk0,aa h13]at h1;rw[qa,sf,aa hk0,aa h13,kB,aa hk0,aa h13]at h2;obtain⟨m,j1,j2⟩:=bb.1 h2;exact⟨v,m,(T9 (λh=>by omega)).2 ⟨o_,by rw[aa o_];exact j1⟩,aU.2 ⟨(t,w2,z2),n,(Bv (dF j1).2.1 hr2 hT.1.1).2 ⟨h1,j2⟩,rfl⟩⟩
   .have hk0:k=0:=o_;subst hk0;rw[aa h0,aU];constructor
    .rintro ⟨⟨t2,u2,y2⟩,m2,h2,h⟩
     injection h with e1 e2
     injection e1 with e1 e3
     injection e3 with e3 e4
     simp only at e1 e3 e4;subst e1 e2 e3 e4;obtain⟨g3,g4⟩:=(Bv ha hr2 hw).1 h2;refine⟨?_,?_⟩
     .rw[ee,ac rfl,ac rfl];exact g3
     .rw[qa,sf,ac rfl,kB,ac rfl,aK];exact g4
    .rintro ⟨h1,h2⟩
     cases t with
     |nil=>exact absurd h1 (by simp[ee])
     |cons v t =>
      obtain⟨c1,c2,c3⟩:=qt (by rw[h1];simp);have:=c1 rfl;subst this;rw[c3,kB,ac rfl]at h1;rw[qa,sf,ac rfl,kB,ac rfl,aK]at h2;exact⟨(t,w2,z2),n,(Bv ha hr2 hw).2 ⟨h1,h2⟩,rfl⟩
def ahy:∀{r t:G_}{w z w2 z2:Int},0<=w->ee r t w z=some (w2,z2)->0<=w2
 |[],[],w,z,w2,z2,hw,h=>by
  injection h with h
  injection h with e1 e2
  omega
 |[],_::_,w,z,w2,z2,hw,h=>absurd h (by simp[ee])
 |_::_,[],w,z,w2,z2,hw,h=>absurd h (by simp[ee])
 |k::r,v::t,w,z,w2,z2,hw,h=>by
  obtain⟨c1,c2,c3⟩:=qt (by rw[h];simp);rw[c3]at h;refine ahy ?_ h;unfold kB;by_cases h0:k=0
  .rw[ac h0];exact hw
  .rw[aa h0];have:=c2 h0;unfold mp at this;split
   .exact hw
   .rename_i h13;rw[aa h13]at this;exact this.1.1
def Sh {b:C_}:∀{g:H_}{t:K_}{a n:Nat}{w z:Int},a<=b.length->(∀l∈g,∀k∈aN l,0<=k)->0<=w->
  (nP b g (a:Int) w z=.ok t n↔na g t w z≠none∧At b a n (oz g t w z))
 |[],t,a,n,w,z,ha,hr,hw=>by
  rw[nP,ar];constructor
  .intro h;injection h with e1 e2
   subst e1 e2;exact⟨by simp[na],eD.2 ⟨rfl,ha⟩⟩
  .rintro ⟨h1,h2⟩
   cases t with
   |nil=>rw[(eD.1 h2).1]
   |cons x t=>exact absurd rfl h1
 |l::r,t,a,n,w,z,ha,hr,hw=>by
  have hl:=hr l (.head _);have hr2:∀q∈r,∀k∈aN q,0<=k:=λq hq=>hr q (.tail _ hq)
  rw[nP,aU];constructor
  .rintro ⟨⟨t1,w1,z1⟩,m,h1,h⟩
   obtain⟨g1,g2⟩:=(Bv ha hl hw).1 h1;obtain⟨t2,m2,h2,h⟩:=aU.1 h;injection h with e1 e2;subst e1 e2;obtain⟨g3,g4⟩:=(Sh (dF g2).2.1 hr2 (ahy hw g1)).1 h2;refine⟨?_,?_⟩
   .rw[na,g1];exact g3
   .rw[oz,g1];exact bb.2 ⟨m,g2,g4⟩
  .rintro ⟨h1,h2⟩
   cases t with
   |nil=>exact absurd rfl h1
   |cons t1 t =>
    rw[na]at h1;rw[oz]at h2
    cases e:ee (aN l) t1 w z with
    |none=>rw[e]at h1;exact absurd rfl h1
    |some p =>
     obtain⟨w1,z1⟩:=p;rw[e]at h1 h2;obtain⟨m,j1,j2⟩:=bb.1 h2;exact⟨(t1,w1,z1),m,(Bv ha hl hw).2 ⟨e,j1⟩,aU.2 ⟨t,n,(Sh (dF j1).2.1 hr2 (ahy hw e)).2 ⟨h1,j2⟩,rfl⟩⟩
def adL {b:C_}{g:H_}{t:K_}{a n:Nat}{w:Int}(ha:a<=b.length)(hr:∀l∈g,∀k∈aN l,0<=k)(hw:0<=w):zG b g (a:Int) w=.ok t n↔Bq w g t∧At b a n (oz g t w (-1)):=by
 rw[zG,ac o_,Sh ha hr hw]
def TM {Z l:G_}{a i:Nat}(h:a+l.length<=Z.length):(aH Z a l)[i]?=if a<=i∧i<a+l.length then l[i-a]? else Z[i]?:=by
 have h1:(Z.take a).length=a:=by rw[b7];omega
 unfold aH;by_cases h2:i<a
 .rw[aa o_,ax,bU o_,jP,ac h2]
 .by_cases h3:i<a+l.length
  .rw[ac o_,ax,bg o_,h1,bU o_]
  .rw[aa o_,bg (by rw[aj];omega),aj,h1,ck]
   congr 1
   omega
abbrev cut (Z:G_)(p:Nat×Nat):G_:=(Z.drop p.2).take (bI p.1)
def TI {Z:G_}{p:Nat×Nat}{i:Nat}(h:i<bI p.1):(cut Z p)[i]?=Z[p.2+i]?:=by
 rw[cut,jP,ac h,ck]
def amJ {Z:G_}{p:Nat×Nat}(h:p.2+bI p.1<=Z.length):(cut Z p).length=bI p.1:=by
 rw[cut,b7,cP];omega
def Wl {b:C_}{Zc:G_}(hl:Zc.length=256):∀{pl:R_}{n m:Nat}{Z:G_},n<=b.length->Z.length=256->(∀p∈pl,(1<=p.1∧p.1<=11)∧p.2+bI p.1<=256∧OW p.1 (cut Zc p))->
  (∀i,(∃p∈pl,p.2<=i∧i<p.2+bI p.1)∨Z[i]?=Zc[i]?)->At b n m (pl.flatMap λp=>zW p.1 (cut Zc p))->kK b pl n Z=.ok Zc m
 |[],n,m,Z,hn,hz,hp,hc,h=>by
  rw[kK,(eD.1 h).1]
  congr 1
  apply dW;intro i;rcases hc i with ⟨p,hp,_⟩|h
  .exact absurd hp (by simp)
  .exact h
 |p::r,n,m,Z,hn,hz,hp,hc,h=>by
  obtain⟨p1,p2,p3⟩:=hp p (.head _);rw[aC]at h;obtain⟨k,j1,j2⟩:=bb.1 h;have hcl:=amJ (Z:=Zc) (p:=p) o_;rw[kK,(aji p1).2 ⟨p3,j1⟩,az];refine Wl hl (dF j1).2.1 (by rw[WO o_];exact hz) (λq hq=>hp q (.tail _ hq)) (λi=>?_) j2;rcases hc i with ⟨q,hq,h1,h2⟩|h3
  .rcases ay.1 hq with rfl|hq
   .right;rw[TM o_,ac o_,TI o_]
    congr 1
    omega
   .exact .inl ⟨q,hq,h1,h2⟩
  .right;rw[TM o_];split
   .rw[TI o_];congr 1;omega
   .exact h3
def arD {d hi i:Nat}(hd:1<=d):∀{f lo:Nat},lo<=i->i<hi->hi<=lo+f->∃x∈sX d hi f lo,x<=i∧i<x+d
 |0,lo,h1,h2,h3=>by omega
 |f+1,lo,h1,h2,h3=>by
  rw[sX,ac o_];rcases bD i (lo+d) with h|h
  .exact⟨lo,.head _,h1,h⟩
  .obtain⟨x,hx,e⟩:=arD hd (f:=f) h h2 o_;exact⟨x,.tail _ hx,e⟩
def ahE {os:C_}{d b x:Nat}:∀{k w0 w:Nat},w0<=w->w<w0+k->x∈sX d (nth os (b+1)) 300 (nth os b)->w*32+x∈rl os d b k w0
 |0,w0,w,h1,h2,_=>by omega
 |k+1,w0,w,h1,h2,h=>by
  rw[rl,aW];rcases bD w0 w with h3|h3
  .exact .inr (ahE h3 o_ h)
  .have:w=w0:=o_;subst this;exact .inl (dC.2 ⟨x,h,rfl⟩)
def arN {os:C_}{d n first y b:Nat}:∀{k b0:Nat},b0<=b->b<b0+k->y∈rl os d b n first->y∈zq os d n first k b0
 |0,b0,h1,h2,_=>by omega
 |k+1,b0,h1,h2,h=>by
  rw[zq,aW];rcases bD b0 b with h3|h3
  .exact .inr (arN h3 o_ h)
  .have:b=b0:=o_;subst this;exact .inl h
def aq0 {os:C_}{n first k y:Nat}(hk:1<=k∧k<=11):∀{r:Q_}{b j:Nat},(aN r)[j]?=some (k:Int)->y∈rl os (bI k) (b+j) n first->(k,y)∈Bf os n first r b
 |[],b,j,h,_=>absurd h (by simp[aN])
 |s::r,b,j,h,hy=>by
  have eb:aN (s::r)=List.replicate s.len.toNat s.book++aN r:=by rw[aN,aC];rfl
  rw[eb]at h;rw[Bf,aW];rcases bD j s.len.toNat with h1|h1
  .left;rw[bU (by simpa using h1),jA,ac h1,ae]at h;rw[h,aa o_,ar];exact dC.2 ⟨y,arN (b:=b+j) o_ o_ hy,rfl⟩
  .right;rw[bg (by simpa using h1),aL]at h;exact aq0 hk h (by rw[show b+s.len.toNat+(j-s.len.toNat)=b+j by omega];exact hy)
def asg {os:C_}{k x j w:Nat}(hk:1<=k∧k<=11):∀{r:H_}{q:G_}{first:Nat}{l:Q_},(∀n∈q,1<=n)->first<=w->(w:Int)<first+q.sum->r[lF q ((w:Int)-first)]?=some l->(aN l)[j]?=some (k:Int)->x∈sX (bI k) (nth os (j+1)) 300 (nth os j)->(k,w*32+x)∈qq os r q first
 |[],q,first,l,hq,h1,h2,h3,h4,h5=>absurd h3 (by simp)
 |l0::r,[],first,l,hq,h1,h2,h3,h4,h5=>by simp at h2;omega
 |l0::r,n::q,first,l,hq,h1,h2,h3,h4,h5=>by
  have hn:=hq n (.head _);rw[qq,aW];rw[lF]at h3;rw[li]at h2;by_cases h:(w:Int)-first<n
  .rw[ac h]at h3;simp only[ca,ae]at h3;subst h3;exact .inl (aq0 hk h4 (by rw[bn];exact ahE h1 o_ h5))
  .rw[aa h,mP]at h3;right;refine asg hk (λy hy=>hq y (.tail _ hy)) o_ o_ ?_ h4 h5;rw[show(w:Int)-((first+n.toNat:Nat):Int)=(w:Int)-first-n by omega];exact h3
def aim {i:Nat}:∀{tl:C_}{lo:Nat},lo<=i->(∃x∈tl,i<x)->mu tl i<tl.length∧nth (lo::tl) (mu tl i)<=i∧i<nth (lo::tl) (mu tl i+1)
 |[],lo,_,h=>by obtain⟨x,hx,_⟩:=h;exact absurd hx (by simp)
 |x::r,lo,h1,h2=>by
  rw[mu];by_cases h:x<=i
  .rw[ac h];have ih:=aim (tl:=r) h (by
    obtain⟨y,hy,e⟩:=h2;rcases ay.1 hy with rfl|hy
    .omega
    .exact⟨y,hy,e⟩)
   exact⟨by rw[aq];omega,ih.2⟩
  .rw[aa h];exact⟨s_,h1,by show i<x;omega⟩
def HR (i:aO):(cond i.short 32 256:Nat)=i.wide∧((i.wide=32∧i.many=8)∨(i.wide=256∧i.many=1)):=by
 unfold aO.short aO.wide aO.many;by_cases h:i.seq=2
 .rw[dT_ h,ac h,ac h];exact⟨rfl,.inl ⟨rfl,rfl⟩⟩
 .rw[dF_ h,aa h,aa h];exact⟨rfl,.inr ⟨rfl,rfl⟩⟩
def ara {r:Nat}(hr:r<=11)(s:Bool):offs r s=0::(offs r s).drop 1:=by
 obtain⟨o1,o2,o3,o4⟩:=Bl (r,s) (fP o_);obtain⟨p1,p2,p3⟩:=oF (r,s) (fP o_);simp only at o4 p2
 cases e:offs r s with
 |nil=>rw[e]at o4;simp at o4
 |cons x t =>
  rw[e]at p2;have:x=0:=p2;rw[this];rfl
def awV {r:Nat}(hr:r<=11)(i:aO){x:Nat}(hx:x<i.wide):∃j,j=mu ((offs r i.short).drop 1) x∧j+1<(offs r i.short).length∧nth (offs r i.short) j<=x∧x<nth (offs r i.short) (j+1):=by
 obtain⟨o1,o2,o3,o4⟩:=Bl (r,i.short) (fP o_);simp only at o1;have hw:=(HR i).1;rw[hw]at o1;have hm:i.wide∈(offs r i.short).drop 1:=by simpa using o1
 have h:=aim (i:=x) (tl:=(offs r i.short).drop 1) (lo:=0) (dD _) ⟨_,hm,hx⟩;rw[<-ara hr]at h;refine⟨_,rfl,?_,h.2⟩;have:=h.1;rw[cP]at this;omega
def aoD {r:Nat}{c:cQ}(h:nG r c)(hr:r<=11){i:Nat}{v:Int}(hv:c.lines[i]?=some v)(h0:v≠0):∃p∈Ny r c.info c.sects,p.2<=i∧i<p.2+bI p.1:=by
 have hm11:=gR hr h.info;obtain⟨g1,g2⟩:=d8 hm11;have hi:i<256:=by
  have:=(aJ.1 hv).1;have:=h.lines.1;omega
 obtain⟨hw1,hw⟩:=HR c.info;have hwp:0<c.info.wide:=o_;have hdm:=px i c.info.wide;have hx:=dl i hwp;have hwm:i / c.info.wide<c.info.many:=by
  rcases hw with ⟨a,b⟩|⟨a,b⟩<;>rw[a,b]<;>omega
 have hw32:i / c.info.wide*32+i % c.info.wide=i:=by
  rcases hw with ⟨a,b⟩|⟨a,b⟩<;>rw[a]<;>omega
 have e1:(yX c (i / c.info.wide))[i % c.info.wide]?=some v:=by
  rw[yX,jP,ac hx,ck,dM,hdm,hv]
 have h2:=Sp (SP h.lines.2 (dD _) (show _<0+c.info.many by omega)) e1;rw[bn]at h2;rcases h2 with h2|⟨k,k1,k2,k3⟩
 .exact absurd h2 h0
 obtain⟨j,j1,j2,j3,j4⟩:=awV hr c.info hx;rw[<-j1]at k1;obtain⟨K,rfl⟩:=aA (show 0<=k by omega);have hd:1<=bI K:=by unfold bI;split<;>omega
 have ho:nth (offs r c.info.short) (j+1)<=256:=by
  obtain⟨p1,p2,p3⟩:=oF (r,c.info.short) (fP o_);have:=bJ.1 p3 _ (jE j2);simp only[decide_eq_true_eq]at this;rw[hw1]at this;omega
 obtain⟨x,x1,x2,x3⟩:=arD hd (f:=300) j3 j4 o_;generalize i / c.info.wide=w at *;generalize i % c.info.wide=y at *;have hgl:lF c.info.groups (w:Int)<c.sects.length:=by
  have:=aiE (l:=c.info.groups) (w:=w) o_ (λn hn=>(g1 n hn).1) o_;have:=h.sects.1;omega
 refine⟨(K,w*32+x),asg (l:=wQ c w) o_ (λn hn=>(g1 n hn).1) (dD _) o_ ?_ k1 x1,by simp only[];omega,by simp only[];omega⟩;rw[show(w:Int)-((0:Nat):Int)=w by omega,wQ,aV,bC hgl];rfl
def aof {b:C_}{r:Nat}{c:cQ}(hc:c.Fit)(h:nG r c)(hr:r<=11){n m:Nat}(hn:n<=b.length)(ha:At b n m (nR r c)):kK b (Ny r c.info c.sects) n Z0=.ok c.lines m:=by
 refine Wl h.lines.1 hn (by rw[aL]) (λp hp=>Sv hc h hr hp) (λi=>?_) ha
 cases e:c.lines[i]? with
 |none =>
  right;have:=List.getElem?_eq_none_iff.1 e;have:=h.lines.1;rw[ir (by rw[aL];omega)]
 |some v =>
  by_cases h0:v=0
  .right;subst h0;have:=(aJ.1 e).1;have:=h.lines.1;rw[jA,ac o_]
  .exact .inl (aoD h hr e h0)
def Be (b:C_)(st s2:RS)(X:C_):Prop:=∃a n:Nat,st=⟨a,0⟩∧s2=⟨n,0⟩∧At b a n X
def aoJ (b:C_)(st:RS):Prop:=∃a:Nat,st=⟨a,0⟩∧a<=b.length
def jk {b:C_}{st s2:RS}{X Y:C_}:Be b st s2 (X++Y)↔∃m,Be b st m X∧Be b m s2 Y:=by
 constructor
 .rintro ⟨a,n,e1,e2,h⟩
  obtain⟨m,h1,h2⟩:=bb.1 h;exact⟨⟨m,0⟩,⟨a,m,e1,rfl,h1⟩,⟨m,n,rfl,e2,h2⟩⟩
 .rintro ⟨m,⟨a,n,e1,e2,h⟩,⟨a2,n2,e3,e4,h2⟩⟩
  rw[e2]at e3;injection e3 with e3 _
  have:n=a2:=o_;subst this;exact⟨a,n2,e1,e4,bb.2 ⟨n,h,h2⟩⟩
def Bd {b:C_}{st s2:RS}:Be b st s2 []↔s2=st∧aoJ b st:=by
 constructor
 .rintro ⟨a,n,e1,e2,h⟩
  obtain⟨h1,h2⟩:=eD.1 h;exact⟨by rw[e1,e2,h1],a,e1,h2⟩
 .intro hh;obtain⟨a,e,h⟩:=hh.2;exact⟨a,a,e,by rw[hh.1,e],eD.2 ⟨rfl,h⟩⟩
def Eb {b:C_}{st s2:RS}{X:C_}(h:Be b st s2 X):aoJ b st∧aoJ b s2∧st.e=0∧s2.e=0:=by
 obtain⟨a,n,e1,e2,h⟩:=h;have:=dF h;exact⟨⟨a,e1,this.1⟩,⟨n,e2,this.2.1⟩,by rw[e1],by rw[e2]⟩
def XV {b:C_}{st:RS}{s:Nat}(h:(sN b st s).e=0):st.e=0:=by
 unfold sN at h;by_cases h0:st.e=0
 .exact h0
 .rw[aa h0]at h;exact absurd h h0
def Mg {b:C_}{st:RS}{s:Nat}(hs:s<=31)(h:(sN b st s).e=0):sV b st s<2 ^ s∧Be b st (sN b st s) (au (sV b st s) s):=by
 have h0:=XV h;obtain⟨a,e⟩:=st;simp only at h0;subst h0
 cases hg:bi b a s with
 |er e=>rw[(Cd hg).2]at h;exact absurd h (by simp)
 |ok v n =>
  rw[(kV hg).1,(kV hg).2];have ha:=amY hg;obtain⟨A,rfl⟩:=aA ha;obtain⟨g1,g2⟩:=(cy hs).1 hg;exact⟨g1,A,n,rfl,rfl,g2⟩
def RY {b:C_}{st s2:RS}{s v:Nat}(hs:s<=31)(hv:v<2 ^ s)(h:Be b st s2 (au v s)):sV b st s=v∧sN b st s=s2:=by
 obtain⟨a,n,rfl,rfl,h⟩:=h;exact kV ((cy hs).2 ⟨hv,h⟩)
abbrev nx (b:C_)(st:RS):Prop:=st.e=0->aoJ b st
def aGy {v sz:Nat}(hz:1<=sz)(hv:v<2 ^ sz):(-((2 ^ (sz-1):Nat):Int)<=SA v sz∧SA v sz<((2 ^ (sz-1):Nat):Int))∧(SA v sz % ((2 ^ sz:Nat):Int)).toNat=v:=by
 obtain⟨k,rfl⟩:∃k,sz=k+1:=⟨sz-1,o_⟩
 have e:2 ^ (k+1)=2*2 ^ k:=by rw[da,dM]
 have hp:=bN k;unfold SA;rw[dx];rw[e]at hv⊢;rcases bD v (2 ^ k) with h|h
 .rw[gI h,Nat.zero_mul];refine⟨o_,?_⟩;rw[j9 o_ o_];omega
 .have:v / 2 ^ k=1:=qf o_ o_;rw[this,Nat.one_mul];refine⟨o_,?_⟩;have e3:((v:Int)-((2*2 ^ k:Nat):Int)) % ((2*2 ^ k:Nat):Int)=v:=by
   rw[Int.sub_emod_right,j9 o_ o_]
  rw[e3];omega
def aF8 {c:Int}{sz:Nat}(hz:1<=sz)(h:-((2 ^ (sz-1):Nat):Int)<=c∧c<((2 ^ (sz-1):Nat):Int)):(c % ((2 ^ sz:Nat):Int)).toNat<2 ^ sz∧SA (c % ((2 ^ sz:Nat):Int)).toNat sz=c:=by
 obtain⟨k,rfl⟩:∃k,sz=k+1:=⟨sz-1,o_⟩
 have e:2 ^ (k+1)=2*2 ^ k:=by rw[da,dM]
 have hp:=bN k;rw[dx]at h;unfold SA;rw[dx,e];rcases Int.lt_or_le c 0 with h0|h0
 .have e3:c % ((2*2 ^ k:Nat):Int)=c+((2*2 ^ k:Nat):Int):=by
   rw[<-Int.add_emod_right,j9 o_ o_]
  rw[e3];have e4:(c+((2*2 ^ k:Nat):Int)).toNat / 2 ^ k=1:=qf o_ o_;rw[e4];omega
 .rw[j9 o_ o_,gI o_];omega
def aBb {b:C_}{sz:Nat}(hz:1<=sz∧sz<=31):∀{k:Nat}{st:RS},nx b st->(xr b sz k st).e=0->(yH b sz k st).length=k∧(∀c∈yH b sz k st,-((2 ^ (sz-1):Nat):Int)<=c∧c<((2 ^ (sz-1):Nat):Int))∧Be b st (xr b sz k st) (qQ sz (yH b sz k st))
 |0,st,hn,h=>⟨rfl,by simp[yH],Bd.2 ⟨rfl,hn h⟩⟩
 |k+1,st,hn,h=>by
  rw[xr]at h;have hn2:nx b (sN b st sz):=λh1=>(Eb (Mg hz.2 h1).2).2.1
  obtain⟨i1,i2,i3⟩:=aBb hz (k:=k) hn2 h;obtain⟨j1,j2⟩:=Mg hz.2 (Eb i3).2.2.1;obtain⟨v1,v2⟩:=aGy hz.1 j1;rw[yH,xr];refine⟨by rw[aq,i1],λc hc=>?_,?_⟩
  .rcases ay.1 hc with rfl|hc
   .exact v1
   .exact i2 c hc
  .rw[qQ,aC,v2];exact jk.2 ⟨_,j2,i3⟩
def azV {b:C_}{sz:Nat}(hz:1<=sz∧sz<=31):∀{l:G_}{st s2:RS},(∀c∈l,-((2 ^ (sz-1):Nat):Int)<=c∧c<((2 ^ (sz-1):Nat):Int))->Be b st s2 (qQ sz l)->yH b sz l.length st=l∧xr b sz l.length st=s2
 |[],st,s2,hl,h=>⟨rfl,(Bd.1 h).1.symm⟩
 |c::r,st,s2,hl,h=>by
  rw[qQ,aC]at h;obtain⟨m,h1,h2⟩:=jk.1 h;obtain⟨v1,v2⟩:=aF8 hz.1 (hl c (.head _));obtain⟨w1,w2⟩:=RY hz.2 v1 h1;obtain⟨i1,i2⟩:=azV hz (l:=r) (λx hx=>hl x (.tail _ hx)) h2;rw[aq,yH,xr,w1,w2,v2,i1,i2];exact⟨rfl,rfl⟩
def ate {b:C_}{sz:Nat}:∀{k:Nat}{st:RS},(xr b sz k st).e=0->st.e=0
 |0,_,h=>h
 |k+1,st,h=>by rw[xr]at h;exact XV (ate h)
def TW {b:C_}{st:RS}{s:Nat}(hs:s<=31):nx b (sN b st s):=λh=>(Eb (Mg hs h).2).2.1
def aAb {b:C_}{sz:Nat}(hz:sz<=31):∀{k:Nat}{st:RS},nx b st->nx b (xr b sz k st)
 |0,_,h=>h
 |k+1,st,h=>by rw[xr];exact aAb hz (TW hz)
def aqH {fine:Bool}{w:Nat}(hw:w<=1):1<=fW fine-w∧fW fine-w<=31:=by unfold fW;split<;>omega
def awy (fine:Bool)(l:G_)(s:Nat)(hs:s=fW fine-1):KE l s=decide (∀c∈l,-(dS fine / 2)<=c∧c<dS fine / 2):=by
 subst hs
 cases fine<;>rfl
def So (sh:Bool):AW sh=((2 ^ bX sh:Nat):Int)-1∧bX sh<=31∧bT sh<=31∧fq sh<=31:=by cases sh<;>decide
def aqD {d:Nat}(h:d<2 ^ 1):eu (decide (d=1))=d:=by
 unfold eu;by_cases h1:d=1
 .rw[h1];rfl
 .rw[dF_ h1];simp;omega
def aGw {b:C_}{sh fine:Bool}{st:RS}(hO:¬(12<tu b (bX sh) (bT sh) st∧(zR b (bX sh) (bT sh) st).e=0))(hX:KM b (bX sh) (bT sh) fine st=false)(he:(yR b (bX sh) (bT sh) fine st).e=0) :
  (Cl sh (MJ b (bX sh) (bT sh) fine st)∧(MJ b (bX sh) (bT sh) fine st).fine=fine)∧Be b st (yR b (bX sh) (bT sh) fine st) (sR sh (MJ b (bX sh) (bT sh) fine st)):=by
 obtain⟨l1,l2,l3,_⟩:=So sh;have hS:(zR b (bX sh) (bT sh) st).e=0:=by
  unfold yR at he;by_cases h0:tu b (bX sh) (bT sh) st=0
  .rw[ac h0]at he;exact he
  .rw[aa h0]at he;have:=ate he;exact XV (s:=1) (XV (s:=1) this)
 have r2:=Mg (st:=sN b st (bX sh)) (s:=bT sh) l3 hS;have r1:=Mg (st:=st) (s:=bX sh) l2 (XV (s:=bT sh) hS);have hO2:((tu b (bX sh) (bT sh) st:Nat):Int)<=xo sh:=by
  have h1:tu b (bX sh) (bT sh) st<2 ^ bT sh:=r2.1;have h2:tu b (bX sh) (bT sh) st<=12:=by
   rcases bD 12 (tu b (bX sh) (bT sh) st) with h|h
   .exact absurd ⟨h,hS⟩ hO
   .exact h
  cases sh
  .show _<=(12:Int);omega
  .have:2 ^ bT true=8:=rfl;show _<=(7:Int);omega
 have hr1:=r1.1;have q2:Be b (sN b st (bX sh)) (zR b (bX sh) (bT sh) st) (au (tu b (bX sh) (bT sh) st) (bT sh)):=r2.2;unfold yR at he⊢;unfold MJ;by_cases h0:tu b (bX sh) (bT sh) st=0
 .rw[ac h0]at he⊢;rw[ac h0];rw[h0]at q2;refine⟨⟨⟨⟨by simp only[];omega,by simp only[];omega⟩,⟨s_,by simp only[];cases sh<;>decide⟩,rfl,λ_=>rfl,s_⟩,rfl⟩,?_⟩;unfold sR;simp only[bj,bh];exact jk.2 ⟨_,by simpa using r1.2,by simpa using q2⟩
 .rw[aa h0]at he⊢;rw[aa h0];have hT:=ate he;have r4:=Mg (st:=sN b (zR b (bX sh) (bT sh) st) (1:Nat)) (s:=1) o_ hT;have r3:=Mg (st:=zR b (bX sh) (bT sh) st) (s:=1) o_ (XV (s:=1) hT);have hd:flD b (bX sh) (bT sh) st<2 ^ 1:=r3.1;have hw:Hw b (bX sh) (bT sh) st<2 ^ 1:=r4.1;have q3:Be b (zR b (bX sh) (bT sh) st) (sN b (zR b (bX sh) (bT sh) st) (1:Nat)) (au (flD b (bX sh) (bT sh) st) 1):=r3.2;have q4:Be b (sN b (zR b (bX sh) (bT sh) st) (1:Nat)) (QT b (bX sh) (bT sh) st) (au (Hw b (bX sh) (bT sh) st) 1):=r4.2;have hz:=aqH (fine:=fine) (w:=Hw b (bX sh) (bT sh) st) o_;have c:=aBb (sz:=Jw b (bX sh) (bT sh) fine st) hz (k:=tu b (bX sh) (bT sh) st) (TW (st:=sN b (zR b (bX sh) (bT sh) st) (1:Nat)) (s:=1) o_) he;unfold KM at hX;rw[aa h0]at hX;obtain⟨c1,c2,c3⟩:=c;have c3:Be b (QT b (bX sh) (bT sh) st) _ _:=c3;have hZ:Jw b (bX sh) (bT sh) fine st=fW fine-Hw b (bX sh) (bT sh) st:=rfl;generalize hcf:yH b (Jw b (bX sh) (bT sh) fine st) (tu b (bX sh) (bT sh) st) (sN b (sN b (zR b (bX sh) (bT sh) st) (1:Nat)) (1:Nat))=cs at *;have hcf2:yH b (Jw b (bX sh) (bT sh) fine st) (tu b (bX sh) (bT sh) st) (QT b (bX sh) (bT sh) st)=cs:=hcf;rw[hcf2]at hX⊢;have hrng:∀c∈cs,-dS fine<=c∧c<dS fine:=λc hc=>by
   have:=c2 c hc;rw[hZ]at this;have hw2:Hw b (bX sh) (bT sh) st=0∨Hw b (bX sh) (bT sh) st=1:=o_;rcases hw2 with e|e<;>rw[e]at this<;>cases fine<;>simp only[fW,dS]at this⊢<;>simp at this⊢<;>omega
  have hnar:eu (decide (∀c∈cs,-(dS fine / 2)<=c∧c<dS fine / 2))=Hw b (bX sh) (bT sh) st:=by
   rw[<-awy fine cs _ rfl];have hw2:Hw b (bX sh) (bT sh) st=0∨Hw b (bX sh) (bT sh) st=1:=o_;rcases hw2 with e|e
   .rw[e]at hX hZ⊢;rw[hZ]at hX;simp only[decide_true,oc,Nat.sub_zero]at hX;rw[hX];rfl
   .rw[e]at hZ⊢;have:KE cs (fW fine-1)=true:=by
     rw[KE,decide_eq_true_eq];intro c hc;have:=c2 c hc;rw[hZ]at this
     cases fine<;>simp only[fW]at this⊢<;>simp at this⊢<;>omega
    rw[this];rfl
  refine⟨⟨⟨⟨by simp only[];omega,by simp only[];omega⟩,⟨by simp only[];omega,hO2⟩,by simp only[];rw[c1],λh=>absurd h t_,hrng⟩,rfl⟩,?_⟩;unfold sR;rw[aa t_];refine jk.2 ⟨_,by simpa using r1.2,jk.2 ⟨_,by simpa using q2,jk.2 ⟨_,by simp only[];rw[aqD hd];exact q3,jk.2 ⟨QT b (bX sh) (bT sh) st,?_,?_⟩⟩⟩⟩
  .simp only[gj];rw[hnar];exact q4
  .simp only[uI,gj];rw[hnar];exact c3
def aGI {b:C_}{sh:Bool}{f:ct}{st s2:RS}(hf:Cl sh f)(h:Be b st s2 (sR sh f)) :
  MJ b (bX sh) (bT sh) f.fine st=f∧yR b (bX sh) (bT sh) f.fine st=s2∧KM b (bX sh) (bT sh) f.fine st=false∧¬(12<tu b (bX sh) (bT sh) st):=by
 obtain⟨l1,l2,l3,_⟩:=So sh;obtain⟨len,ord,down,fine,cs⟩:=f;obtain⟨⟨f1,f2⟩,⟨f3,f4⟩,f5,f6,f7⟩:=hf;simp only at f1 f2 f3 f4 f5 f6 f7⊢;obtain⟨len,rfl⟩:=aA f1;obtain⟨ord,rfl⟩:=aA f3;have hordF:ord<2 ^ bT sh∧ord<=12:=by
  cases sh
  .have:(ord:Int)<=12:=f4;have:2 ^ bT false=32:=rfl;omega
  .have:(ord:Int)<=7:=f4;have:2 ^ bT true=8:=rfl;omega
 unfold sR at h;simp only[ar]at h;obtain⟨m1,h1,h⟩:=jk.1 h;obtain⟨m2,h2,h⟩:=jk.1 h;obtain⟨v1,n1⟩:=RY l2 (show len<2 ^ bX sh by omega) h1;obtain⟨v2,n2⟩:=RY l3 hordF.1 h2;have hO:tu b (bX sh) (bT sh) st=ord:=by unfold tu;rw[n1,v2]
 have hS:zR b (bX sh) (bT sh) st=m2:=by unfold zR;rw[n1,n2]
 refine⟨?_,?_,?_,by rw[hO];omega⟩
 all_goals
  by_cases h0:ord=0
  .subst h0;have hc:cs=[]:=aB o_;have hd:=f6 rfl;subst hc hd;simp only[Int.natCast_zero,bj]at h;have hs2:=(Bd.1 h).1
   first
    |(unfold MJ;rw[ac hO,v1];rfl)
    |(unfold yR;rw[ac hO,hS,hs2])
    |(unfold KM;rw[ac hO])
  .rw[aa o_]at h;obtain⟨m3,h3,h⟩:=jk.1 h;obtain⟨m4,h4,h5⟩:=jk.1 h;have b1:∀x:Bool,eu x<2 ^ 1:=λx=>by cases x<;>decide
   obtain⟨v3,n3⟩:=RY (s:=1) o_ (b1 down) h3;obtain⟨v4,n4⟩:=RY (s:=1) o_ (b1 _) h4;have hD:flD b (bX sh) (bT sh) st=eu down:=by unfold flD;rw[hS];exact v3
   have hT:QT b (bX sh) (bT sh) st=m4:=by
    unfold QT;rw[hS];show sN b (sN b m2 (1:Nat)) (1:Nat)=m4;rw[n3,n4]
   have hW:Hw b (bX sh) (bT sh) st=eu (gj ⟨len,ord,down,fine,cs⟩):=by
    unfold Hw;rw[hS];show sV b (sN b m2 (1:Nat)) (1:Nat)=_;rw[n3,v4]
   have hZ:Jw b (bX sh) (bT sh) fine st=uI ⟨len,ord,down,fine,cs⟩:=by unfold Jw;rw[hW];rfl
   have hw1:eu (gj ⟨len,ord,down,fine,cs⟩)<=1:=by cases gj ⟨len,ord,down,fine,cs⟩<;>decide
   have hz:=aqH (fine:=fine) hw1;have hrng:∀c∈cs,-((2 ^ (uI ⟨len,ord,down,fine,cs⟩-1):Nat):Int)<=c∧c<((2 ^ (uI ⟨len,ord,down,fine,cs⟩-1):Nat):Int):=λc hc=>by
    have a:=f7 c hc
    cases hn:gj ⟨len,ord,down,fine,cs⟩ with
    |true =>
     have b:=(of_decide_eq_true hn) c hc;simp only[uI,hn]
     cases fine<;>simp only[fW,eu,dS]at b⊢<;>simp at b⊢<;>omega
    |false =>
     simp only[uI,hn]
     cases fine<;>simp only[fW,eu,dS]at a⊢<;>simp at a⊢<;>omega
   have hco:cs.length=ord:=o_;obtain⟨c1,c2⟩:=azV (sz:=uI ⟨len,ord,down,fine,cs⟩) hz hrng h5;rw[hco]at c1 c2
   first
    |(unfold MJ;rw[aa o_,v1,hO,hD,hZ,hT,c1];congr 1;cases down<;>rfl)
    |(unfold yR;rw[aa o_,hO,hZ,hT,c2])
    |(unfold KM;rw[aa o_,hO,hZ,hT,c1,hW];cases hn:gj ⟨len,ord,down,fine,cs⟩;rw[show uI ⟨len,ord,down,fine,cs⟩-1=fW fine-1 from(by rw[uI,hn];rfl),awy fine cs _ rfl];show(_ && gj ⟨len,ord,down,fine,cs⟩)=false;rw[hn,Bool.and_false];rfl)
def art {b:C_}{sh fine:Bool}{st:RS}:nx b (yR b (bX sh) (bT sh) fine st):=by
 obtain⟨l1,l2,l3,_⟩:=So sh;unfold yR;by_cases h0:tu b (bX sh) (bT sh) st=0
 .rw[ac h0];exact TW l3
 .rw[aa h0];have hz:Jw b (bX sh) (bT sh) fine st<=31:=by unfold Jw fW;split<;>omega
  exact aAb hz (TW (st:=sN b (zR b (bX sh) (bT sh) st) (1:Nat)) (s:=1) o_)
def avD {b:C_}{sh fine:Bool}:∀{k:Nat}{o:Bool}{st st2:RS}{l:AA_},nx b st->jN b (bX sh) (bT sh) fine k o st=some (l,false,st2)->st2.e=0->
  o=false∧l.length=k∧(∀f∈l,Cl sh f∧f.fine=fine)∧Be b st st2 (l.flatMap (sR sh))
 |0,o,st,st2,l,hn,h,he=>by
  rw[jN]at h;injection h with h
  injection h with e1 h
  injection h with e2 e3
  subst e1 e2 e3;exact⟨rfl,rfl,s_,Bd.2 ⟨rfl,hn he⟩⟩
 |k+1,o,st,st2,l,hn,h,he=>by
  rw[jN]at h;by_cases hO:12<tu b (bX sh) (bT sh) st∧(zR b (bX sh) (bT sh) st).e=0
  .rw[ac hO]at h;exact absurd h (by simp)
  rw[aa hO]at h
  cases hq:jN b (bX sh) (bT sh) fine k (o ||KM b (bX sh) (bT sh) fine st) (yR b (bX sh) (bT sh) fine st) with
  |none=>rw[hq]at h;exact absurd h (by simp)
  |some q =>
   obtain⟨l2,o2,s3⟩:=q;rw[hq]at h;simp only[ae,aR]at h;obtain⟨e1,e2,e3⟩:=h;subst e1 e2 e3;obtain⟨i1,i2,i3,i4⟩:=avD art hq he;rw[Bool.or_eq_false_iff]at i1;obtain⟨⟨j1,j2⟩,j3⟩:=aGw hO i1.2 (Eb i4).2.2.1;refine⟨i1.1,by rw[aq,i2],λf hf=>?_,?_⟩
   .rcases ay.1 hf with rfl|hf
    .exact⟨j1,j2⟩
    .exact i3 f hf
   .rw[aC];exact jk.2 ⟨_,j3,i4⟩
def avF {b:C_}{sh fine:Bool}:∀{l:AA_}{st st2:RS},(∀f∈l,Cl sh f∧f.fine=fine)->Be b st st2 (l.flatMap (sR sh))->jN b (bX sh) (bT sh) fine l.length false st=some (l,false,st2)
 |[],st,st2,hl,h=>by rw[(Bd.1 h).1];rfl
 |f::r,st,st2,hl,h=>by
  obtain⟨h1,h2⟩:=hl f (.head _);rw[aC]at h;obtain⟨m,k1,k2⟩:=jk.1 h;obtain⟨j1,j2,j3,j4⟩:=aGI h1 k1;rw[h2]at j1 j2 j3;rw[aq,jN,aa (λh=>j4 h.1),j3,j2,rO,avF (λx hx=>hl x (.tail _ hx)) k2,j1]
def an2 (sh:Bool):x0T sh=fq sh∧x1T sh=bX sh∧x2T sh=bT sh∧2 ^ fq sh=qP sh+1:=by cases sh<;>decide
def adG {sh:Bool}{f:ct}{r:AA_}:zj sh (f::r)=au (f::r).length (fq sh)++(au (eu f.fine) 1++(f::r).flatMap (sR sh)):=rfl
def aiM {sh:Bool}:zj sh []=au 0 (fq sh):=by simp[zj]
def awe {b:C_}{sh:Bool}:∀{k:Nat}{o:Bool}{st st2:RS}{t:O_},nx b st->p9 b (fq sh) (bX sh) (bT sh) k o st=some (t,false,st2)->st2.e=0->
  o=false∧t.length=k∧(∀l∈t,tY sh l)∧Be b st st2 (jJ sh t)
 |0,o,st,st2,t,hn,h,he=>by
  rw[p9]at h;injection h with h
  injection h with e1 h
  injection h with e2 e3
  subst e1 e2 e3;exact⟨rfl,rfl,s_,Bd.2 ⟨rfl,hn he⟩⟩
 |k+1,o,st,st2,t,hn,h,he=>by
  obtain⟨l1,l2,l3,l4⟩:=So sh;obtain⟨_,_,_,x4⟩:=an2 sh;rw[p9]at h
  cases hq:jN b (bX sh) (bT sh) (Tq b (fq sh) st) (sV b st (fq sh)) o (DP b (fq sh) st) with
  |none=>rw[hq]at h;exact absurd h (by simp)
  |some q =>
   obtain⟨l,o2,s3⟩:=q;rw[hq]at h;simp only at h
   cases hw:p9 b (fq sh) (bX sh) (bT sh) k o2 s3 with
   |none=>rw[hw]at h;exact absurd h (by simp)
   |some w =>
    obtain⟨t2,o3,s4⟩:=w;rw[hw]at h;simp only[ae,aR]at h;obtain⟨e1,e2,e3⟩:=h;subst e1 e2 e3;have hwn:nx b (DP b (fq sh) st):=by
     unfold DP;split
     .exact TW (st:=sN b st (fq sh)) (s:=1) (by omega)
     .exact TW l4
    have hs3:nx b s3:=by
     have:∀{k:Nat}{o o2:Bool}{st st2:RS}{l:AA_},nx b st->jN b (bX sh) (bT sh) (Tq b (fq sh) st) k o st=some (l,o2,st2)->True:=λ_ _=>trivial
     have g:∀{fine:Bool}{k:Nat}{o o2:Bool}{st st2:RS}{l:AA_},nx b st->jN b (bX sh) (bT sh) fine k o st=some (l,o2,st2)->nx b st2:=by
      intro fine k
      induction k with
      |zero =>
       intro o o2 st st2 l hn h;rw[jN]at h;injection h with h
       injection h with e1 h
       injection h with e2 e3
       subst e3;exact hn
      |succ k ih =>
       intro o o2 st st2 l hn h;rw[jN]at h;split at h
       .exact absurd h (by simp)
       .split at h
        .exact absurd h (by simp)
        .rename_i q hq;obtain⟨a,b2,c⟩:=q;simp only[ae,aR]at h;obtain⟨e1,e2,e3⟩:=h;subst e3;exact ih art hq
     exact g hwn hq
    obtain⟨i1,i2,i3,i4⟩:=awe hs3 hw he;subst i1;obtain⟨j1,j2,j3,j4⟩:=avD hwn hq (Eb i4).2.2.1;have hwe:=(Eb j4).2.2.1;unfold DP at hwe j4;refine⟨j1,by rw[aq,i2],λx hx=>?_,?_⟩
    .rcases ay.1 hx with rfl|hx
     .refine⟨?_,λf0 hf0 f hf=>?_⟩
      .have:=wC (b:=b) (st:=st) (s:=(fq sh:Int));rw[ar]at this;omega
      .have a1:=j3 f hf;have a2:=j3 f0 (List.mem_of_mem_head? hf0);exact⟨a1.1,by rw[a1.2,a2.2]⟩
     .exact i3 x hx
    .rw[jJ,aC];refine jk.2 ⟨s3,?_,i4⟩
     cases l with
     |nil =>
      have h0:sV b st (fq sh)=0:=by rw[<-j2];rfl
      rw[aa o_]at hwe j4;have:=(Mg l4 hwe).2;rw[h0]at this;rw[aiM,(Bd.1 j4).1];exact this
     |cons f r =>
      have hp:0<sV b st (fq sh):=by rw[<-j2];simp
      rw[ac hp]at hwe j4;have r1:=(Mg l4 (XV (s:=1) hwe)).2;obtain⟨b1,r2⟩:=Mg (st:=sN b st (fq sh)) (s:=1) o_ hwe;rw[adG,j2];refine jk.2 ⟨_,r1,jk.2 ⟨_,?_,j4⟩⟩;have hfi:eu f.fine=sV b (sN b st (fq sh)) (1:Nat):=by
       rw[(j3 f (.head _)).2,Tq,dT_ hp,oc];exact aqD b1
      rw[hfi];exact r2
def avM {b:C_}{sh:Bool}:∀{t:O_}{st st2:RS},(∀l∈t,tY sh l)->Be b st st2 (jJ sh t)->p9 b (fq sh) (bX sh) (bT sh) t.length false st=some (t,false,st2)
 |[],st,st2,hl,h=>by rw[(Bd.1 h).1];rfl
 |l::r,st,st2,hl,h=>by
  obtain⟨l1,l2,l3,l4⟩:=So sh;obtain⟨_,_,_,x4⟩:=an2 sh;obtain⟨h1,h2⟩:=hl l (.head _);rw[jJ,aC]at h;obtain⟨m,k1,k2⟩:=jk.1 h;have ih:=avM (λx hx=>hl x (.tail _ hx)) k2;rw[aq,p9]
  cases l with
  |nil =>
   rw[aiM]at k1;obtain⟨v1,n1⟩:=RY l4 (bN _) k1;have hS:DP b (fq sh) st=m:=by rw[DP,aa o_,n1]
   rw[v1,hS];simp only[jN];rw[ih]
  |cons f q =>
   rw[adG]at k1;obtain⟨m1,j1,k1⟩:=jk.1 k1;obtain⟨m2,j2,j3⟩:=jk.1 k1;obtain⟨v1,n1⟩:=RY l4 o_ j1;have b1:eu f.fine<2 ^ 1:=by cases f.fine<;>decide
   obtain⟨v2,n2⟩:=RY (s:=1) o_ b1 j2;have hp:0<sV b st (fq sh):=by rw[v1];simp
   have hS:DP b (fq sh) st=m2:=by
    rw[DP,ac hp,n1];exact n2
   have hF:Tq b (fq sh) st=f.fine:=by
    rw[Tq,dT_ hp,oc,n1];have:sV b m1 1=eu f.fine:=v2;rw[this]
    cases f.fine<;>rfl
   rw[hS,hF,v1,avF (λx hx=>h2 f rfl x hx) j3];simp only;rw[ih]
def al6 {b:C_}{i:aO}{a n:Nat}{t:O_}(ha:a<=b.length):PG b i (a:Int)=.ok t n↔T2 i t∧At b a n (jJ i.short t):=by
 obtain⟨x0,x1,x2,_⟩:=an2 i.short;rw[PG,W5,x0,x1,x2];constructor
 .intro h
  cases hq:p9 b (fq i.short) (bX i.short) (bT i.short) i.many false ⟨a,0⟩ with
  |none=>rw[hq]at h;exact absurd h (by simp)
  |some q =>
   obtain⟨t2,o,st⟩:=q;rw[hq]at h;simp only at h;by_cases he:st.e≠0
   .rw[ac he]at h;exact absurd h (by simp)
   rw[aa he]at h
   cases o with
   |true=>simp at h
   |false =>
    simp only[ao,bm]at h;injection h with e1 e2
    subst e1;obtain⟨_,g2,g3,a2,n2,e3,e4,g5⟩:=awe (λ_=>⟨a,rfl,ha⟩) hq (by simpa using he);injection e3 with e3 _
    have:a=a2:=o_;subst this;rw[e4]at e2;simp only[ar]at e2;subst e2;exact⟨⟨g2,g3⟩,g5⟩
 .rintro ⟨⟨h1,h2⟩,h3⟩
  have:=avM h2 (show Be b ⟨a,0⟩ ⟨n,0⟩ _ from ⟨a,n,rfl,rfl,h3⟩);rw[h1]at this;rw[this];simp
def acx {lf:Int}:∀{l:Q_},fitsS lf l->∀k∈aN l,0<=k
 |[],_,k,h=>by simp[aN]at h
 |s::r,hf,k,h=>by
  obtain⟨⟨_,h1⟩,h2⟩:=hf;have eb:aN (s::r)=List.replicate s.len.toNat s.book++aN r:=by rw[aN,aC];rfl
  rw[eb,aW]at h;rcases h with h|h
  .rw[cH h];exact h1.1
  .exact acx h2 k h
def aum {i:aO}{t:O_}(h:t.length=i.many)(ha:pf t=false):t=List.replicate i.many []:=by
 rw[pf,mX]at ha;rw[List.eq_replicate_iff];refine⟨h,λl hl=>?_⟩;have:=ha l hl;simp only[decide_eq_true_eq]at this;exact aB (by omega)
def TA {b:C_}{a n v:Nat}(hv:v<=1)(h:At b a n [v]):bi b (a:Int) 1=.ok v n:=(cy (s:=1) o_).2 ⟨o_,by rw[R5 hv];exact h⟩
def ao4 {b:C_}{a n v:Nat}(h:bi b (a:Int) 1=.ok v n):v<=1∧At b a n [v]:=by
 obtain⟨h1,h2⟩:=(cy (s:=1) o_).1 h;rw[R5 o_]at h2;exact⟨o_,h2⟩
def aqS {b:C_}{r:Nat}{c:cQ}{q:Bool}(hr:r<=11)(hc:c.Fit)(h:nG r c){a n:Nat}(ha:At b a n (C9 r c q)) :
  CC b (a:Int) r q c.info=.ok (⟨c.gain.toNat,c.info,c.sects,c.steps,c.tns,0,if pf c.tns then 1 else 0⟩,c.lines) n:=by
 have hm11:=gR hr h.info;have hg:=h.gain;obtain⟨n1,k1,ha1⟩:=bb.1 ha;obtain⟨n2,k2,ha2⟩:=bb.1 ha1;obtain⟨n3,k3,ha3⟩:=bb.1 ha2;obtain⟨n4,k4,ha4⟩:=bb.1 ha3;obtain⟨n5,k5,k6⟩:=bb.1 ha4;have e0:bi b (a:Int) 0=.ok 0 a:=(cy (s:=0) o_).2 ⟨o_,eD.2 ⟨rfl,(dF ha).1⟩⟩;have e1:bi b (a:Int) 8=.ok c.gain.toNat n1:=(cy (s:=8) o_).2 ⟨o_,k1⟩;have e2:(if q then R.ok c.info n1 else nb b n1 r)=.ok c.info n2:=by
  cases q with
  |true=>rw[ac rfl]at k2⊢;rw[(eD.1 k2).1]
  |false=>rw[aa s_]at k2⊢;exact(PQ hr).2 ⟨h.info,k2⟩
 have e3:vJ b c.info (n2:Int)=.ok c.sects n3:=(Zv hm11 (dF k3).1).2 ⟨h.sects,k3⟩;have e4:zG b c.sects (n3:Int) (c.gain.toNat:Int)=.ok c.steps n4:=by
  rw[show((c.gain.toNat:Nat):Int)=c.gain by omega];exact(adL (dF k4).1 (λl hl=>acx (h.sects.2 l hl)) hg.1).2 ⟨h.steps,k4⟩
 have e6:=aof hc h hr (dF k6).1 k6;have hm:¬(q=true∧¬c.info.may r):=λhh=>hh.2 h.info
 unfold CC Dt;rw[e0,az,aa hm,e1,az,e2,az,e3,az,e4,az]
 cases hF:pf c.tns with
 |true =>
  rw[hF]at k5;simp only[bj]at k5;obtain⟨m1,j1,k5⟩:=bb (X:=[0]) |>.1 k5;obtain⟨m2,j2,k5⟩:=bb (X:=[1]) |>.1 k5;obtain⟨m3,j3,j4⟩:=bb.1 k5;have e5:=(al6 (dF j3).1).2 ⟨h.tns,j3⟩;rw[TA o_ j1,az,TA o_ j2,az,ac rfl,e5,az,TA o_ j4,az,az,e6,az,ac ⟨rfl,λ_=>hF⟩];rfl
 |false =>
  rw[hF]at k5;simp only[ao,bm]at k5;obtain⟨m1,j1,k5⟩:=bb (X:=[0]) |>.1 k5;obtain⟨m2,j2,j4⟩:=bb (X:=[0]) |>.1 k5;have ht:=aum h.tns.1 hF;rw[TA o_ j1,az,TA o_ j2,az,aa o_,az,TA o_ j4,az,az,e6,az,ac ⟨rfl,λhh=>absurd hh s_⟩,<-ht];rfl
abbrev apart (p q:Nat×Nat):Prop:=p.2+bI p.1<=q.2∨q.2+bI q.1<=p.2
structure OsW (os:C_)(W:Nat):Prop where
 up:∀j,j+1<os.length->nth os j<nth os (j+1)∧(nth os (j+1)-nth os j) % 4=0
 win:∀w w',w<W->w'<W->w≠w'->∀j,j+1<os.length->nth os (j+1)<=32
def avI {os:C_}{W:Nat}(h:OsW os W):∀{k b:Nat},b+1+k<os.length->nth os (b+1)<=nth os (b+1+k)
 |0,b,_=>ak _
 |k+1,b,hk=>by
  have:=avI h (k:=k) (b:=b) o_;have h2:=(h.up (b+1+k) o_).1;rw[show b+1+(k+1)=b+1+k+1 by omega];omega
def atM (os:C_)(w b d y:Nat):Prop:=(w*32+nth os b<=y∧y+d<=w*32+nth os (b+1))∧b+1<os.length
def Gl {os:C_}{W:Nat}(h:OsW os W){d b k w y:Nat}(hd:d=4∨d=2)(hb:b+1<os.length)(hy:y∈rl os d b k w):∃w',w<=w'∧w'<w+k∧atM os w' b d y:=by
 obtain⟨w',x,h1,h2,h3,rfl⟩:=acY hy;have hu:=h.up b hb;have:=Nd (d:=d) o_ (by rcases hd with e|e<;>rw[e]<;>omega) h3;exact⟨w',h1,h2,⟨o_,o_⟩,hb⟩
def KI {os:C_}{W:Nat}(h:OsW os W){w b d y w' b' d' y':Nat}(hw:w<W)(hw':w'<W)(h1:atM os w b d y)(h2:atM os w' b' d' y')(hne:w≠w'∨b<b'):y+d<=y'∨y'+d'<=y:=by
 obtain⟨⟨a1,a2⟩,a3⟩:=h1;obtain⟨⟨c1,c2⟩,c3⟩:=h2;by_cases e:w=w'
 .have hb:b<b':=by rcases hne with h|h;exact absurd e h;exact h
  have:=avI h (k:=b'-(b+1)) (b:=b) o_;rw[show b+1+(b'-(b+1))=b' by omega]at this;left;subst e;omega
 .have k1:=h.win w w' hw hw' e b a3;have k2:=h.win w w' hw hw' e b' c3;omega
def aqA {d hi:Nat}:∀{f lo:Nat},(∀y∈sX d hi f lo,lo<=y)∧(sX d hi f lo).Pairwise λx y=>x+d<=y
 |0,lo=>⟨by simp[sX],by simp[sX]⟩
 |f+1,lo=>by
  obtain⟨h1,h2⟩:=aqA (d:=d) (hi:=hi) (f:=f) (lo:=lo+d);rw[sX];by_cases h:lo<hi
  .rw[ac h];refine⟨λy hy=>?_,bZ.2 ⟨λy hy=>h1 y hy,h2⟩⟩;rcases ay.1 hy with rfl|hy
   .exact ak _
   .have:=h1 y hy;omega
  .rw[aa h];exact⟨s_,s_⟩
abbrev apD (d:Nat)(x y:Nat):Prop:=x+d<=y∨y+d<=x
def asv {os:C_}{W:Nat}(h:OsW os W){d b:Nat}(hd:d=4∨d=2)(hb:b+1<os.length):∀{k w:Nat},w+k<=W->(rl os d b k w).Pairwise (apD d)
 |0,w,_=>by simp[rl]
 |k+1,w,hk=>by
  rw[rl,dq];refine⟨?_,asv h hd hb o_,λx hx y hy=>?_⟩
  .rw[List.pairwise_map];exact(aqA.2).imp λ{a c} hac=>.inl (by omega)
  .obtain⟨w2,e1,e2,e3⟩:=Gl h hd hb hy;have hx':x∈rl os d b 1 w:=by
    rw[rl,aW];exact .inl hx
   obtain⟨w1,e4,e5,e6⟩:=Gl h hd hb hx';exact KI h o_ o_ e6 e3 (.inl o_)
def asm {os:C_}{W:Nat}(h:OsW os W){d n first:Nat}(hd:d=4∨d=2)(hw:first+n<=W):∀{k b:Nat},b+k<os.length->(zq os d n first k b).Pairwise (apD d)
 |0,b,_=>by simp[zq]
 |k+1,b,hk=>by
  rw[zq,dq];refine⟨asv h hd o_ hw,asm h hd hw o_,λx hx y hy=>?_⟩;obtain⟨w1,e4,e5,e6⟩:=Gl h hd o_ hx;obtain⟨b',c1,c2,c3⟩:=Uy hy;obtain⟨w2,e1,e2,e3⟩:=Gl h hd o_ c3;exact KI h o_ o_ e6 e3 (.inr o_)
def EQ (id:Nat):bI id=4∨bI id=2:=by unfold bI;split<;>simp
def aq1 {os:C_}{W:Nat}(h:OsW os W){n first:Nat}(hw:first+n<=W):∀{r:Q_}{b:Nat}{lf:Int},fitsS lf r->(b:Int)+lf<os.length->(Bf os n first r b).Pairwise apart
 |[],b,lf,_,_=>by simp[Bf]
 |s::r,b,lf,hf,hb=>by
  obtain⟨⟨⟨l1,l2⟩,b1,b2⟩,hf2⟩:=hf;rw[Bf,dq];refine⟨?_,aq1 h hw hf2 o_,λx hx y hy=>?_⟩
  .by_cases h0:s.book=0∨s.book=13
   .rw[ac h0];simp
   .rw[aa h0,List.pairwise_map];exact asm h (EQ _) hw (by omega)
  .by_cases h0:s.book=0∨s.book=13
   .rw[ac h0]at hx;simp at hx
   .rw[aa h0]at hx;obtain⟨x',hx',rfl⟩:=dC.1 hx;obtain⟨b',c1,c2,c3⟩:=Uy hx';obtain⟨w1,e4,e5,e6⟩:=Gl h (EQ _) o_ c3;obtain⟨j,f1,f2,f3⟩:=TX hf2 hy;have hj:(j:Int)<lf-s.len:=by
     have h1:=(aJ.1 f1).1;have:∀{l:Q_}{m:Int},fitsS m l->((aN l).length:Int)=m:=by
      intro l
      induction l with
      |nil=>intro m hm;rw[show m=0 from hm];simp[aN]
      |cons q l ih =>
       intro m hm;have eb:aN (q::l)=List.replicate q.len.toNat q.book++aN l:=by rw[aN,aC];rfl
       have:=ih hm.2;have hq:=hm.1.1.1;rw[eb,aj,aL];omega
     have:=this hf2;omega
    obtain⟨w2,e1,e2,e3⟩:=Gl h (EQ _) o_ f3;exact KI h o_ o_ e6 e3 (.inr o_)
def Gg:∀{l:Q_}{m:Int},fitsS m l->((aN l).length:Int)=m
 |[],m,h=>by rw[show m=0 from h];simp[aN]
 |q::l,m,hm=>by
  have eb:aN (q::l)=List.replicate q.len.toNat q.book++aN l:=by rw[aN,aC];rfl
  have:=Gg hm.2;have hq:=hm.1.1.1;rw[eb,aj,aL];omega
def aqj {os:C_}{W:Nat}(h:OsW os W){m:Int}(hm:m<os.length):∀{r:H_}{q:G_}{first:Nat},fQ m r->(∀n∈q,1<=n)->(first:Int)+q.sum<=W->(qq os r q first).Pairwise apart
 |[],q,first,_,_,_=>by simp[qq]
 |l::r,[],first,_,_,_=>by simp[qq]
 |l::r,n::q,first,hf,hq,hW=>by
  have hn:=hq n (.head _);have hq2:∀n∈q,1<=n:=λx hx=>hq x (.tail _ hx)
  have hqs:0<=q.sum:=by have:=mT hq2;omega
  have hl:=hf l (.head _);rw[li]at hW;rw[qq,dq];refine⟨aq1 h o_ hl o_,aqj h hm (λx hx=>hf x (.tail _ hx)) hq2 o_,λx hx y hy=>?_⟩;obtain⟨j,f1,f2,f3⟩:=TX hl hx;have hj:=(aJ.1 f1).1;have hjl:=Gg hl;obtain⟨w1,e4,e5,e6⟩:=Gl h (EQ _) o_ f3;obtain⟨w,g,j2,l2,g1,g2,g3,g4,g5,g6,z,g7,g8⟩:=Nz (λx hx=>hf x (.tail _ hx)) hq2 hy;have hj2:=(aJ.1 g5).1;have hjl2:=Gg (hf l2 (.tail _ (dt g1)));have hy2:y.2∈rl os (bI y.1) j2 1 w:=by rw[g8];exact ahE (ak _) o_ g7
  obtain⟨w2,e1,e2,e3⟩:=Gl h (EQ _) o_ hy2;exact KI h o_ o_ e6 e3 (.inl o_)
def aqr {r:Nat}(hr:r<=11)(i:aO):OsW (offs r i.short) i.many:=by
 obtain⟨p1,p2,p3⟩:=oF (r,i.short) (fP o_);simp only at p1 p2 p3;obtain⟨w1,w2⟩:=HR i;refine⟨λj hj=>?_,λw w' h1 h2 h3 j hj=>?_⟩
 .have:=bJ.1 p1 j (et.2 o_);simpa using this
 .have:=bJ.1 p3 _ (jE hj);simp only[decide_eq_true_eq]at this;omega
def atA {r:Nat}(hr:r<=11){j:aO}{S:H_}(hm:j.may r)(hS:kg j S):(Ny r j S).Pairwise apart:=by
 obtain⟨g1,g2⟩:=d8 (gR hr hm);have hmx:=hm.2.2.2.1;have hmy:r8 r (decide (j.seq=2))=(offs r j.short).length-1:=rfl;obtain⟨o1,o2,o3,o4⟩:=Bl (r,j.short) (fP o_);simp only at o4;exact aqj (aqr hr j) (m:=j.max) o_ hS.2 (λn hn=>(g1 n hn).1) (by omega)
def ZX {b:C_}:∀{pl:R_}{n m:Nat}{Z Z2:G_},n<=b.length->Z.length=256->(∀p∈pl,(1<=p.1∧p.1<=11)∧p.2+bI p.1<=256)->pl.Pairwise apart->kK b pl n Z=.ok Z2 m->
  Z2.length=256∧At b n m (pl.flatMap λp=>zW p.1 (cut Z2 p))∧(∀p∈pl,OW p.1 (cut Z2 p))∧∀i,(∀p∈pl,¬(p.2<=i∧i<p.2+bI p.1))->Z2[i]?=Z[i]?
 |[],n,m,Z,Z2,hn,hz,hp,hw,h=>by
  rw[kK]at h;injection h with e1 e2
  subst e1 e2;exact⟨hz,eD.2 ⟨rfl,hn⟩,s_,λi _=>rfl⟩
 |p::r,n,m,Z,Z2,hn,hz,hp,hw,h=>by
  rw[kK]at h;obtain⟨l,k,h1,h2⟩:=aU.1 h;obtain⟨p1,p2⟩:=hp p (.head _);obtain⟨w1,w2⟩:=bZ.1 hw;obtain⟨g1,g2⟩:=(aji p1).1 h1;have hll:=g1.1;obtain⟨i1,i2,i3,i4⟩:=ZX (dF g2).2.1 (by rw[WO o_];exact hz) (λq hq=>hp q (.tail _ hq)) w2 h2;have hcut:cut Z2 p=l:=by
   apply dW;intro i;by_cases hi:i<bI p.1
   .rw[TI hi,i4 (p.2+i) (λq hq hh=>by
     have:=w1 q hq;have:=hp q (.tail _ hq);omega),TM o_,ac o_]
    congr 1
    omega
   .have:=amJ (Z:=Z2) (p:=p) o_;rw[ir o_,ir o_]
  refine⟨i1,?_,λq hq=>?_,λi hi=>?_⟩
  .rw[aC,hcut];exact bb.2 ⟨k,g2,i2⟩
  .rcases ay.1 hq with rfl|hq
   .rw[hcut];exact g1
   .exact i3 q hq
  .have:=hi p (.head _);rw[i4 i (λq hq=>hi q (.tail _ hq)),TM o_,aa o_]
def aep {tl:C_}{bks:G_}:∀{ls:G_}{i:Nat},(∀j v,ls[j]?=some v->ND tl bks (i+j) v)->xA tl bks i ls
 |[],i,_=>trivial
 |u::r,i,h=>⟨h 0 u rfl,aep λj v hv=>by
   have:=h (j+1) v (by simpa using hv)
   rwa [show i+(j+1)=i+1+j by omega]at this⟩
def aeq {r:Nat}{c:cQ}:∀{k w:Nat},(∀w',w<=w'->w'<w+k->xA ((offs r c.info.short).drop 1) (aN (wQ c w')) 0 (yX c w'))->Is r c k w
 |0,w,_=>trivial
 |k+1,w,h=>⟨h w (ak _) o_,aeq λw' h1 h2=>h w' o_ o_⟩
def arC {b:C_}{r:Nat}{c:cQ}(hr:r<=11)(hm:c.info.may r)(hS:kg c.info c.sects){n m:Nat}(hn:n<=b.length)(h:kK b (Ny r c.info c.sects) n Z0=.ok c.lines m):Tv r c∧At b n m (nR r c)∧∀v∈c.lines,i64 v:=by
 have hm11:=gR hr hm;obtain⟨g1,g2⟩:=d8 hm11;obtain⟨i1,i2,i3,i4⟩:=ZX hn (by rw[aL]) (λp hp=>WM hm hS hr hp) (atA hr hm hS) h;obtain⟨hw1,hw⟩:=HR c.info;have key:∀i v,c.lines[i]?=some v->v=0∨∃p∈Ny r c.info c.sects,(p.2<=i∧i<p.2+bI p.1)∧v.natAbs<=jd p.1:=by
  intro i v hv;by_cases hp:∃p∈Ny r c.info c.sects,p.2<=i∧i<p.2+bI p.1
  .obtain⟨p,h1,h2,h3⟩:=hp;refine .inr ⟨p,h1,⟨h2,h3⟩,(i3 p h1).2 v ?_⟩;refine dt (i:=i-p.2) ?_;rw[TI o_,<-hv]
   congr 1
   omega
  .left;have:=i4 i (λp hp2 hh=>hp ⟨p,hp2,hh⟩);rw[hv]at this;have hi:=(aJ.1 hv).1;rw[jA,ac o_]at this;injection this
 refine⟨⟨i1,aeq λw _ hwm=>aep λx v hv=>?_⟩,i2,λv hv=>?_⟩
 .rw[bn]at hwm⊢;have hx:x<c.info.wide:=by
   have:=(aJ.1 hv).1;rw[yX,b7]at this;omega
  rw[yX,jP,ac hx,ck]at hv;rcases key _ _ hv with h0|⟨p,hp,⟨q1,q2⟩,q3⟩
  .exact .inl h0
  .right;obtain⟨w',g,j,l,e1,e2,e3,e4,e5,e6,y,e7,e8⟩:=Nz hS.2 (λn hn=>(g1 n hn).1) hp;obtain⟨p1,p2,p3⟩:=oF (r,c.info.short) (fP o_);simp only at p1 p2 p3;have hl:=hS.2 l (dt e1);have hbs:=Gg hl;have hjl:=(aJ.1 e5).1;have hmx:=hm.2.2.2.1;have hmy:r8 r (decide (c.info.seq=2))=(offs r c.info.short).length-1:=rfl;have hj1:j+1<(offs r c.info.short).length:=o_;have hU:=aqr hr c.info;have hu:=hU.up j hj1;have hxf:=Nd (d:=bI p.1) (by rcases EQ p.1 with h|h<;>omega) (by rcases EQ p.1 with h|h<;>rw[h]<;>omega) e7;have ho:nth (offs r c.info.short) (j+1)<=c.info.wide:=by
    have:=bJ.1 p3 _ (jE hj1);simp only[decide_eq_true_eq]at this
    rwa [hw1]at this
   have hww:w'=w∧nth (offs r c.info.short) j<=x∧x<nth (offs r c.info.short) (j+1):=by
    rcases hw with ⟨a1,a2⟩|⟨a1,a2⟩<;>rw[a1]at q1 q2 ho hx<;>omega
   obtain⟨rfl,c1,c2⟩:=hww;have hba:=ag9 (i:=x) (λj hj=>(hU.up j hj).1) hj1 c1 c2;have hsa:wQ c w'=l:=by
    rw[wQ,aV,show lF c.info.groups (w':Int)=g by rw[<-e4];congr 1,e1];rfl
   exact⟨p.1,by rw[hba,hsa,e5],o_,by simpa using q3⟩
 .obtain⟨i,hi,e⟩:=iY.1 hv;rcases key i v (by rw[bC hi,e]) with h0|⟨p,hp,_,q3⟩
  .omega
  .have:=au2 (WM hm hS hr hp).1;omega
end Go.Vm
end
