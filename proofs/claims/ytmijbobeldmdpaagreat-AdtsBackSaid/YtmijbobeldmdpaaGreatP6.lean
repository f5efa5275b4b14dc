import Derived.Test.YtmijbobeldmdpaaGreatP5
set_option linter.unusedVariables false
set_option linter.unusedSimpArgs false
set_option linter.defProp false
set_option linter.unusedSectionVars false
noncomputable section
namespace Go.Vm
set_option maxRecDepth 100000
set_option maxHeartbeats 8000000
def aeG {tl:C_}{bks:G_}:∀{ls:G_}{i:Nat},(∀j v,ls[j]?=some v->Og tl bks (i+j) v)->wU tl bks i ls
 |[],i,_=>trivial
 |u::r,i,h=>⟨h 0 u rfl,aeG λj v hv=>by
   have:=h (j+1) v (by simpa using hv)
   rwa [show i+(j+1)=i+1+j by omega]at this⟩
def aev {r:Nat}{c:cK}:∀{k w:Nat},(∀w',w<=w'->w'<w+k->wU ((offs r c.info.short).drop 1) (aM (w9 c w')) 0 (zG c w'))->Jv r c k w
 |0,w,_=>trivial
 |k+1,w,h=>⟨h w (al _) o_,aev λw' h1 h2=>h w' o_ o_⟩
def ap6 {b:C_}{r:Nat}{c:cK}(hr:r<=11)(hm:c.info.may r)(hS:jZ c.info c.sects){n m:Nat}(hn:n<=b.length)(h:kE b (N8 r c.info c.sects) n Z0=.ok c.lines m):UZ r c∧At b n m (nS r c)∧∀v∈c.lines,i64 v:=by
 have hm11:=gy hr hm;obtain⟨g1,g2⟩:=dV hm11;obtain⟨i1,i2,i3,i4⟩:=Za hn (by rw[bm]) (λp hp=>XQ hm hS hr hp) (as4 hr hm hS) h;obtain⟨hw1,hw⟩:=Ij c.info;have key:∀i v,c.lines[i]?=some v->v=0∨∃p∈N8 r c.info c.sects,(p.2<=i∧i<p.2+bI p.1)∧v.natAbs<=iZ p.1:=by
  intro i v hv;by_cases hp:∃p∈N8 r c.info c.sects,p.2<=i∧i<p.2+bI p.1
  .obtain⟨p,h1,h2,h3⟩:=hp;refine .inr ⟨p,h1,⟨h2,h3⟩,(i3 p h1).2 v ?_⟩;refine dH (i:=i-p.2) ?_;rw[T8 o_,<-hv]
   congr 1
   omega
  .left;have:=i4 i (λp hp2 hh=>hp ⟨p,hp2,hh⟩);rw[hv]at this;have hi:=(aJ.1 hv).1;rw[js,ac o_]at this;injection this
 refine⟨⟨i1,aev λw _ hwm=>aeG λx v hv=>?_⟩,i2,λv hv=>?_⟩
 .rw[bv]at hwm⊢;have hx:x<c.info.wide:=by
   have:=(aJ.1 hv).1;rw[zG,b6]at this;omega
  rw[zG,jA,ac hx,ca]at hv;rcases key _ _ hv with h0|⟨p,hp,⟨q1,q2⟩,q3⟩
  .exact .inl h0
  .right;obtain⟨w',g,j,l,e1,e2,e3,e4,e5,e6,y,e7,e8⟩:=Nw hS.2 (λn hn=>(g1 n hn).1) hp;obtain⟨p1,p2,p3⟩:=oI (r,c.info.short) (fH o_);simp only at p1 p2 p3;have hl:=hS.2 l (dH e1);have hbs:=Gr hl;have hjl:=(aJ.1 e5).1;have hmx:=hm.2.2.2.1;have hmy:sc r (decide (c.info.seq=2))=(offs r c.info.short).length-1:=rfl;have hj1:j+1<(offs r c.info.short).length:=o_;have hU:=ar5 hr c.info;have hu:=hU.up j hj1;have hxf:=M3 (d:=bI p.1) (by rcases E6 p.1 with h|h<;>omega) (by rcases E6 p.1 with h|h<;>rw[h]<;>omega) e7;have ho:nth (offs r c.info.short) (j+1)<=c.info.wide:=by
    have:=bH.1 p3 _ (jv hj1);simp only[decide_eq_true_eq]at this
    rwa [hw1]at this
   have hww:w'=w∧nth (offs r c.info.short) j<=x∧x<nth (offs r c.info.short) (j+1):=by
    rcases hw with ⟨a1,a2⟩|⟨a1,a2⟩<;>rw[a1]at q1 q2 ho hx<;>omega
   obtain⟨rfl,c1,c2⟩:=hww;have hba:=ajx (i:=x) (λj hj=>(hU.up j hj).1) hj1 c1 c2;have hsa:w9 c w'=l:=by
    rw[w9,dh,show lE c.info.groups (w':Int)=g by rw[<-e4];congr 1,e1];rfl
   exact⟨p.1,by rw[hba,hsa,e5],o_,by simpa using q3⟩
 .obtain⟨i,hi,e⟩:=iQ.1 hv;rcases key i v (by rw[bB hi,e]) with h0|⟨p,hp,_,q3⟩
  .omega
  .have:=ate (XQ hm hS hr hp).1;omega
def ahU:∀{r t:G_}{w z:Int},dX r t w z≠none->r.length=t.length∧∀n∈t,-1<=n∧n<=511
 |[],[],_,_,_=>⟨rfl,s_⟩
 |[],_::_,_,_,h=>absurd rfl h
 |_::_,[],_,_,h=>absurd rfl h
 |k::r,v::t,w,z,h=>by
  obtain⟨c1,c2,c3⟩:=qA h;rw[c3]at h;obtain⟨i1,i2⟩:=ahU h;refine⟨by rw[aq,aq,i1],λn hn=>?_⟩;rcases ay.1 hn with rfl|hn
  .by_cases h0:k=0
   .have:=c1 h0;omega
   .exact TX (c2 h0)
  .exact i2 n hn
def ad3:∀{g:H_}{t:J_}{w z:Int},mV g t w z≠none->∀l∈t,∀n∈l,-1<=n∧n<=511
 |[],[],_,_,_=>by simp
 |[],_::_,_,_,h=>absurd rfl h
 |_::_,[],_,_,h=>absurd rfl h
 |l::r,t::s,w,z,h=>by
  rw[mV]at h
  cases e:dX (aM l) t w z with
  |none=>rw[e]at h;exact absurd rfl h
  |some p =>
   rw[e]at h;intro q hq;rcases ay.1 hq with rfl|hq
   .exact(ahU (by rw[e];simp)).2
   .exact ad3 h q hq
abbrev K4 (v:Hd×G_):cK:=⟨v.1.gain,v.1.inf,v.1.S,v.1.T,v.1.F,v.2⟩
def aBa {o p:Nat}(ho:o<=1)(hp:p<=1)(h:orB (o:Int) p=0):o=0∧p=0:=by
 unfold orB at h;split at h<;>omega
def avs {b:C_}(hb:b.length<=1000000000){r:Nat}{i:aN}{q:Bool}(hr:r<=11)(hi:i.Fit){a:Int}{v:Hd×G_}{n:Nat}(h:CU b a r q i=.ok v n) :
  ∃A:Nat,a=A∧(K4 v).Fit∧nC r (K4 v)∧At b A n (Dq r (K4 v) q)∧(q=true->v.1.inf=i):=by
 unfold CU at h;obtain⟨u0,n0,e0,g0⟩:=aS.1 h;clear h;have ha:=amr e0;obtain⟨A,rfl⟩:=aB ha;have f0:=(cx (s:=0) o_).1 e0;have f0':n0=A∧A<=b.length:=ef.1 f0.2;obtain⟨f0a,f0b⟩:=f0'
 cases f0a
 by_cases hm:q=true∧¬i.may r
 .rw[ac hm]at g0;exact absurd g0 (by simp)
 rw[aa hm]at g0;have hq:q=true->i.may r:=λh=>ll λh2=>hm ⟨h,h2⟩
 obtain⟨H,nH,eH,g1⟩:=aS.1 g0;clear g0;obtain⟨Z,nZ,eZ,g2⟩:=aS.1 g1;clear g1;by_cases hend:H.od=0∧(H.is=1->pf H.F=true)
 rotate_left
 .rw[aa hend]at g2;exact absurd g2 (by simp)
 rw[ac hend]at g2;injection g2 with h1 h2
 subst h1 h2;have hR:dW (r:Int):=o_;have pH:=(PC b hb r hR q i hi _ (.inl rfl) (λh=>by rw[au];exact hq h) n0 o_ 0 0).2;rw[au]at pH;have p:=pH H nH eH;unfold De at eH;obtain⟨g,n1,e1,y1⟩:=aS.1 eH;clear eH;obtain⟨j,n2,e2,y2⟩:=aS.1 y1;clear y1;obtain⟨S,n3,e3,y3⟩:=aS.1 y2;clear y2;obtain⟨T,n4,e4,y4⟩:=aS.1 y3;clear y3;obtain⟨o,n5,e5,y5⟩:=aS.1 y4;clear y4;obtain⟨s,n6,e6,y6⟩:=aS.1 y5;clear y5;obtain⟨F,n7,e7,y7⟩:=aS.1 y6;clear y6;obtain⟨o2,n8,e8,y8⟩:=aS.1 y7;clear y7;injection y8 with k1 k2
 subst k1 k2;simp only at hend eZ p;have f1:=(cx (s:=8) o_).1 e1;have hjm:j.may r:=p.may;have hm11:=gy hr hjm;have f2:At b n1 n2 (if q then [] else ln j)∧(q=true->j=i):=by
  cases q with
  |true =>
   rw[ac rfl]at e2⊢;injection e2 with k1 k2
   subst k1 k2;exact⟨ef.2 ⟨rfl,(dA f1.2).2.1⟩,λ_=>rfl⟩
  |false =>
   rw[aa s_]at e2⊢;exact⟨((Pg hr).1 e2).2,λh=>absurd h s_⟩
 have f3:=(aaw hm11 (dA f2.1).2.1).1 e3;have f4:=(aey (dA f3.2).2.1 (λl hl=>adh (f3.1.2 l hl)) o_).1 e4;have f5:=aoa e5;have f6:=aoa e6;have f8:=aoa e8;have hoo:=aBa f5.1 f8.1 hend.1;have hF:Un j F∧At b n4 n8 (if pf F then 0::1::(jx j.short F++[0]) else [0,0,0]):=by
  rw[hoo.1]at f5;rw[hoo.2]at f8;by_cases hs:s=1
  .rw[ac hs]at e7;have f7:=(alW (dA f6.2).2.1).1 e7;rw[hend.2 hs];rw[hs]at f6;exact⟨f7.1,aZ (X:=[0]) |>.2 ⟨n5,f5.2,aZ (X:=[1]) |>.2 ⟨n6,f6.2,aZ.2 ⟨n7,f7.2,f8.2⟩⟩⟩⟩
  .rw[aa hs]at e7;have hs0:s=0:=o_;injection e7 with k1 k2
   subst k1 k2;have han:pf (List.replicate j.many ([]:AA_))=false:=by
    rw[pf,nk];intro l hl;rw[dc hl];simp
   rw[han];rw[hs0]at f6;exact⟨⟨by rw[bm],λl hl=>by rw[dc hl];exact⟨dB _,s_⟩⟩,aZ (X:=[0]) |>.2 ⟨n5,f5.2,aZ (X:=[0]) |>.2 ⟨n6,f6.2,f8.2⟩⟩⟩
 have hg:=p.gain;simp only at hg;obtain⟨l1,l2,l3⟩:=ap6 (c:=⟨g,j,S,T,F,Z⟩) hr hjm f3.1 (dA hF.2).2.1 eZ;have hmx:=jW hm11;have hmm:=z8 j;obtain⟨q1,q2⟩:=dV hm11;have hgl:j.groups.length<=8:=by have:=nf (λn hn=>(q1 n hn).1);omega
 have hSl:S.length<=8:=by have:=f3.1.1;omega
 have hTl:T.length=S.length:=by have:=aV List.length p.T;simpa using this
 have hft:=p.fit;simp only at hft;refine⟨n0,rfl,?_,?_,?_,f2.2⟩
 .refine⟨by simp only[];omega,hft,⟨by simp only[];omega,λl hl=>by have:=p.Sl l hl;omega⟩,λl hl x hx=>?_,⟨by simp only[];omega,λl hl=>?_⟩,λl hl x hx=>by have:=ad3 f4.1 l hl x hx;omega,⟨by have:=hF.1.1;simp only[];omega,λl hl=>by have:=p.F.2 l hl;exact⟨o_,λf hf=>by have:=this.2 f hf;omega⟩⟩,λl hl f hf=>?_,by have:=l1.1;simp only[]at this⊢;omega,l3⟩
  .have:=uQ (f3.1.2 l hl) o_ x hx;have a1:=this.1;have a2:=this.2;omega
  .have h1:l.length∈T.map List.length:=dy.2 ⟨l,hl,rfl⟩;rw[show T.map List.length=S.map (λl=>(aM l).length) from p.T]at h1;obtain⟨x,hx,e⟩:=dy.1 h1;have:=Gr (f3.1.2 x hx);omega
  .have hw:=hF.1.2 l hl
   cases l with
   |nil=>exact absurd hf (by simp)
   |cons f0 lr =>
    have:=(hw.2 f0 rfl f hf).1;obtain⟨⟨b1,b2⟩,⟨b3,b4⟩,_,_,b5⟩:=this;have lf:AR j.short<=63:=by cases j.short<;>decide
    have of:xM j.short<=12:=by cases j.short<;>decide
    refine⟨o_,λx hx=>?_⟩;have:=b5 x hx;have hh:dL f.fine<=8∧4<=dL f.fine:=by cases f.fine<;>decide
    omega
 .exact⟨by simp only[];omega,hjm,f3.1,f4.1,hF.1,l1⟩
 .exact aZ.2 ⟨n1,by simpa using f1.2,aZ.2 ⟨n2,f2.1,aZ.2 ⟨n3,f3.2,aZ.2 ⟨n4,f4.2,aZ.2 ⟨n8,hF.2,l2⟩⟩⟩⟩⟩
def HD {t:Ty}:∀{ds:W_},OkDs [t] ds->∃d,ds=[d]∧sJ t d
 |[],h=>by simp[OkDs]at h
 |[d],h=>⟨d,rfl,by simpa [OkDs] using h⟩
 |_::_::_,h=>by simp[OkDs]at h
def ta {t:Ty}{ts:BG_}:∀{ds:W_},OkDs (t::ts) ds->∃d r,ds=d::r∧sJ t d∧OkDs ts r
 |[],h=>by simp[OkDs]at h
 |d::r,h=>⟨d,r,rfl,by simpa only[OkDs] using h⟩
def aqC {k:IntKind}:∀{d:D},sJ (.int k) d->∃n,d=.int k n∧(Lit.int k n).wf=true
 |.int j n,h=>by
  simp only[sJ]at h;obtain⟨rfl,h⟩:=h;exact⟨n,rfl,h⟩
 |.bool _,h=>by simp[sJ]at h
 |.str _,h=>by simp[sJ]at h
 |.lst _,h=>by simp[sJ]at h
def tA {d:D}(h:sJ (.int .i64) d):∃n,d=.int .i64 n∧i64 n:=by
 obtain⟨n,e,h⟩:=aqC h;refine⟨n,e,?_⟩;simp[Lit.wf,IntKind.min,IntKind.max,IntKind.signed,IntKind.bits]at h;omega
def apj {d:D}(h:sJ (.int .u8) d):∃n:Nat,d=.int .u8 n∧n<=255:=by
 obtain⟨n,e,h⟩:=aqC h;simp[Lit.wf,IntKind.min,IntKind.max,IntKind.signed,IntKind.bits]at h;refine⟨n.toNat,?_,o_⟩;rw[e,qc h.1]
def N6:∀{d:D},sJ .bool d->∃b,d=.bool b
 |.bool b,_=>⟨b,rfl⟩
 |.int _ _,h=>by simp[sJ]at h
 |.str _,h=>by simp[sJ]at h
 |.lst _,h=>by simp[sJ]at h
def Je {es:BG_}:∀{d:D},sJ (.lst es) d->∃xs,d=.lst xs∧∀x∈xs,OkDs es x
 |.lst xs,h=>⟨xs,rfl,by simpa only[sJ] using h⟩
 |.int _ _,h=>by simp[sJ]at h
 |.str _,h=>by simp[sJ]at h
 |.bool _,h=>by simp[sJ]at h
def Bu {α:Type}{es:BG_}{f:α->W_}{Q:α->Prop}(h1:∀x,OkDs es x->∃a,x=f a∧Q a):∀{xs:E_},(∀x∈xs,OkDs es x)->∃l:List α,xs=l.map f∧∀a∈l,Q a
 |[],_=>⟨[],rfl,s_⟩
 |x::r,h=>by
  obtain⟨a,rfl,ha⟩:=h1 x (h x (.head _));obtain⟨l,rfl,hl⟩:=Bu h1 (xs:=r) λy hy=>h y (.tail _ hy)
  exact⟨a::l,rfl,λb hb=>(ay.1 hb).elim (λe=>e▸ha) (hl b)⟩
def abI {d:D}(h:sJ (.lst [.int .i64]) d):∃ns,d=.lst (aH ns)∧∀n∈ns,i64 n:=by
 obtain⟨xs,rfl,h⟩:=Je h;obtain⟨l,rfl,hl⟩:=Bu (f:=λn=>[.int .i64 n]) (Q:=i64) (λx hx=>by
  obtain⟨d,rfl,hd⟩:=HD hx;obtain⟨n,rfl,hn⟩:=tA hd;exact⟨n,rfl,hn⟩) h
 exact⟨l,rfl,hl⟩
def avT:BG_:=[.int .i64,.int .i64]
def awx:BG_:=[.int .i64,.int .i64,.bool,.bool,.lst [.int .i64]]
def awu:BG_:=[.int .i64,.int .u8,.int .u8,.int .i64,.lst [.int .i64],.lst [.lst avT],.lst [.lst [.int .i64]],.lst [.lst awx],.lst [.int .i64]]
def aBP {x:W_}(h:OkDs avT x):∃s:aT,x=s.cells∧i64 s.book∧i64 s.len:=by
 obtain⟨a,r,rfl,ha,h⟩:=ta h;obtain⟨b,rfl,hb⟩:=HD h;obtain⟨n,rfl,hn⟩:=tA ha;obtain⟨m,rfl,hm⟩:=tA hb;exact⟨⟨n,m⟩,rfl,hn,hm⟩
def azP {x:W_}(h:OkDs awx x):∃f:bZ,x=f.cells∧(i64 f.len∧i64 f.order)∧∀y∈f.coefs,i64 y:=by
 obtain⟨a,r,rfl,ha,h⟩:=ta h;obtain⟨b,r,rfl,hb,h⟩:=ta h;obtain⟨c,r,rfl,hc,h⟩:=ta h;obtain⟨d,r,rfl,hd,h⟩:=ta h;obtain⟨e,rfl,he⟩:=HD h;obtain⟨n,rfl,hn⟩:=tA ha;obtain⟨m,rfl,hm⟩:=tA hb;obtain⟨p,rfl⟩:=N6 hc;obtain⟨q,rfl⟩:=N6 hd;obtain⟨l,rfl,hl⟩:=abI he;exact⟨⟨n,m,p,q,l⟩,rfl,⟨hn,hm⟩,hl⟩
def acp {α:Type}{es:BG_}{f:α->W_}{Q:α->Prop}(h1:∀x,OkDs es x->∃a,x=f a∧Q a){d:D}(h:sJ (.lst [.lst es]) d):∃l:List (List α),d=.lst (l.map λr=>[.lst (r.map f)])∧∀r∈l,∀a∈r,Q a:=by
 obtain⟨xs,rfl,h⟩:=Je h;obtain⟨l,rfl,hl⟩:=Bu (f:=λr:List α=>[.lst (r.map f)]) (Q:=λr=>∀a∈r,Q a) (λx hx=>by
  obtain⟨d,rfl,hd⟩:=HD hx;obtain⟨xs,rfl,h⟩:=Je hd;obtain⟨r,rfl,hr⟩:=Bu h1 h;exact⟨r,rfl,hr⟩) h
 exact⟨l,rfl,hl⟩
structure cK.Rng (c:cK):Prop where
 gain:i64 c.gain
 seq:c.info.seq<=255
 shape:c.info.shape<=255
 max:i64 c.info.max
 groups:∀n∈c.info.groups,i64 n
 secI:∀l∈c.sects,∀s∈l,i64 s.book∧i64 s.len
 stepI:∀l∈c.steps,∀n∈l,i64 n
 fltI:∀l∈c.tns,∀f∈l,(i64 f.len∧i64 f.order)∧∀x∈f.coefs,i64 x
 lineI:∀n∈c.lines,i64 n
def aAN {x:W_}(h:OkDs awu x):∃c:cK,x.map .d=c.av∧c.Rng:=by
 obtain⟨a1,r,rfl,h1,h⟩:=ta h;obtain⟨a2,r,rfl,h2,h⟩:=ta h;obtain⟨a3,r,rfl,h3,h⟩:=ta h;obtain⟨a4,r,rfl,h4,h⟩:=ta h;obtain⟨a5,r,rfl,h5,h⟩:=ta h;obtain⟨a6,r,rfl,h6,h⟩:=ta h;obtain⟨a7,r,rfl,h7,h⟩:=ta h;obtain⟨a8,r,rfl,h8,h⟩:=ta h;obtain⟨a9,rfl,h9⟩:=HD h;obtain⟨n1,rfl,g1⟩:=tA h1;obtain⟨n2,rfl,g2⟩:=apj h2;obtain⟨n3,rfl,g3⟩:=apj h3;obtain⟨n4,rfl,g4⟩:=tA h4;obtain⟨l5,rfl,g5⟩:=abI h5;obtain⟨l6,rfl,g6⟩:=acp (f:=aT.cells) (λx hx=>aBP hx) h6;obtain⟨l7,rfl,g7⟩:=acp (f:=λn=>[.int .i64 n]) (Q:=i64) (λx hx=>by
  obtain⟨d,rfl,hd⟩:=HD hx;obtain⟨n,rfl,hn⟩:=tA hd;exact⟨n,rfl,hn⟩) h7
 obtain⟨l8,rfl,g8⟩:=acp (f:=bZ.cells) (λx hx=>azP hx) h8;obtain⟨l9,rfl,g9⟩:=abI h9;exact⟨⟨n1,⟨n2,n3,n4,l5⟩,l6,l7,l8,l9⟩,rfl,g1,g2,g3,g4,g5,g6,g7,g8,g9⟩
def cK.Rng.fit {c:cK}(h:c.Rng)(s:agq c):c.Fit where
 gain:=h.gain
 info:=⟨h.seq,h.shape,h.max,by have:=s.groups;omega,h.groups⟩
 sects:=⟨by have:=s.sects.1;omega,λl hl=>by have:=s.sects.2 l hl;omega⟩
 secI:=h.secI
 steps:=⟨by have:=s.steps.1;omega,λl hl=>by have:=s.steps.2 l hl;omega⟩
 stepI:=h.stepI
 tns:=⟨by have:=s.tns.1;omega,λl hl=>⟨by have:=(s.tns.2 l hl).1;omega,λf hf=>by have:=(s.tns.2 l hl).2 f hf;omega⟩⟩
 fltI:=h.fltI
 lines:=by have:=s.lines;omega
 lineI:=h.lineI
abbrev fX (C F I:D_)(T:am)(c:D_):am:=(0,.cells C)::(1,.cells F)::(2,.cells c)::(3,.cells I)::T
def ao5 (C F I:D_)(T:am):Hr (fX C F I T) 2:=⟨λc=>by simp,λc d=>by simp⟩
def ma (b:C_):Nat->Nat×Nat->U_×Nat×Nat
 |0,s=>([],s)
 |k+1,s=>(decide ((gT b s 1).1=1)::(ma b k (gT b s 1).2).1,(ma b k (gT b s 1).2).2)
def ajF {b:C_}:∀{k:Nat}{s:Nat×Nat},(ma b k s).1.length=k
 |0,_=>rfl
 |k+1,s=>by rw[ma,aq,ajF]
def alZ {b:C_}:∀{k:Nat}{s:Nat×Nat},s.1<=b.length->(ma b k s).2.1<=b.length
 |0,_,h=>h
 |k+1,s,h=>alZ (k:=k) (s:=(gT b s 1).2) (rV h)
def adJ {b:C_}:∀{k:Nat}{s:Nat×Nat},s.2≠0->(ma b k s).2=s
 |0,_,h=>rfl
 |k+1,s,h=>by rw[ma];simp only[vR h];exact adJ h
def Il (b:C_):Nat->Nat->R U_
 |0,a=>.ok [] a
 |k+1,a=>(bf b a 1).bind λx n=>(Il b k n).bind λl m=>.ok (decide (x=1)::l) m
def ap2 {b:C_}:∀{k a:Nat},Lk (Il b k a) (λl=>(ma b k (a,0)).1=l) (ma b k (a,0)).2
 |0,a=>⟨rfl,rfl⟩
 |k+1,a=>by
  rw[Il,ma]
  cases e:bf b a 1 with
  |er q =>
   rw[Ar e];simp only;rw[adJ (bx _)];exact rfl
  |ok x n =>
   rw[pt e,az];have h:=ap2 (b:=b) (k:=k) (a:=n)
   cases e2:Il b k n with
   |er q=>rw[e2]at h;exact h
   |ok l m=>rw[e2]at h;exact⟨by rw[h.1],h.2⟩
def axu {l:U_}{i:Nat}{x:Bool}:(gS l).set i [.bool x]=gS (l.set i x):=by simp[gS,lX]
def ayA (b:C_)(hb:b.length<=1000000000)(C F I:D_)(mx:Nat)(hm:mx<=1000)(N:Nat)(hN:4<=N)(y104 y105:D):∀(k i:Nat) (acc:U_) (s:Nat×Nat),i+k=mx->acc.length=i->s.1<=b.length->
  (Dn prog).code (.loop Ai) ⟨[(2,.ptr 0 0),(4,.ptr 1 0),(6,.ptr 2 0),(7,.ptr 3 0),(8,.sl N 0 mx),(104,.d y104),(105,.d y105),(121,A_ mx),(122,A_ i)],⟨fX C F I [(N,.arr 1 (gS (acc++List.replicate k false)))] (cU b s),N+1⟩⟩ =
  some (.exit 3,⟨[(2,.ptr 0 0),(4,.ptr 1 0),(6,.ptr 2 0),(7,.ptr 3 0),(8,.sl N 0 mx),(104,.d y104),(105,.d y105)],⟨fX C F I [(N,.arr 1 (gS (acc++(ma b k s).1)))] (cU b (ma b k s).2),N+1⟩⟩):=by
 intro k
 induction k with
 |zero =>
  intro i acc s hi hl hs;have:i=mx:=o_;subst this;rw[ah QV,ma];simp(maxSteps:=300000) (disch:=omega)[↓ac,↓aa]
 |succ k ih =>
  intro i acc s hi hl hs;have h1:=gw (ao5 C F I [(N,.arr 1 (gS (acc++List.replicate (k+1) false)))]) b hb s hs 1 (N+1);have h5:=λx=>ih (i+1) (acc++[x]) (gT b s 1).2 o_ g_ (rV hs)
  have c1:((i+1:Nat):Int)=(i:Int)+1:=rfl;have hset:∀x:Bool,(gS (acc++List.replicate (k+1) false)).set i [.bool x]=gS (acc++[x]++List.replicate k false):=λx=>by
   rw[axu,<-hl,cL,UL,aA];rfl
  have hget:(gS (acc++List.replicate (k+1) false))[i]?=some [.bool false]:=by
   rw[gS,b7,bW o_,hl,uh,cL];rfl
  rw[c1]at h5;rw[ma];generalize gT b s 1=g at *;obtain⟨x,s1⟩:=g;simp only at h1 h5⊢;have h5:=h5 (decide (x=1));have hset:=hset (decide (x=1));have e:acc++decide (x=1)::(ma b k s1).1=acc++[decide (x=1)]++(ma b k s1).1:=s_;rw[e,ah QV,<-h5];have n0:N≠0∧N≠1∧N≠2∧N≠3:=o_;simp only[fX,cU]at h1⊢;generalize gS (acc++List.replicate (k+1) false)=Z at *;by_cases hx:x=1
  .rw[decide_eq_true hx]at hset⊢;have hx2:(x:Int)=1:=o_;simp(maxSteps:=300000) (disch:=omega)[↓ac,↓aa,h1,hget,hset,hx2,n0]
  .rw[decide_eq_false hx]at hset⊢;have hx2:¬(x:Int)=1:=o_;simp(maxSteps:=300000) (disch:=omega)[↓ac,↓aa,h1,hget,hset,hx2,n0]
@[simp ↓] def aHp {β:Type}{P:Nat->Z_}{i:Nat}{e:aW}{h:am}{m:Nat}{k:AV->aW->HS->Option β}:bQ P (.frz i) e ⟨h,m⟩ k=bA (get e i) λv=>k (.tup []) (put e i (Aa h v).1) ⟨(Aa h v).2,m⟩:=by
 rw[Jr];show gx (YX i ⟨e,⟨h,m⟩⟩) k=_;unfold YX;simp only[]
 cases get e i<;>rfl
def atV (o:Option Obj)(h:am)(id off len:Nat):AV×am :=
 match o with
 |some (.arr m xs)=>if off+len<=xs.length then (.own false m (sub xs off len),del h id) else (.sl id off len,h)
 |_=>(.sl id off len,h)
@[simp] def aIm {h:am}{id off len:Nat}:Aa h (.sl id off len)=atV (get h id) h id off len:=by
 simp only[Aa,atV]
 cases get h id with
 |none=>rfl
 |some o =>
  cases o with
  |arr m xs =>
   simp only[];by_cases hl:off+len<=xs.length
   .rw[ac hl,show Nat.ble (off+len) xs.length=true by rw[bn];exact hl]
   .rw[aa hl,show Nat.ble (off+len) xs.length=false from Bool.eq_false_iff.2 λh=>hl (by rwa [bn]at h)]
  |cells=>rfl
  |loop=>rfl
@[simp ↓] def aI7 {m:Nat}{xs:E_}{h:am}{id off len:Nat}:atV (some (.arr m xs)) h id off len=if off+len<=xs.length then (.own false m (sub xs off len),del h id) else (.sl id off len,h):=(rfl)
def xp (b:C_)(mx:Nat):Nat->Nat->R S_
 |0,a=>.ok [] a
 |g+1,a=>(Il b mx a).bind λl n=>(xp b mx g n).bind λt m=>.ok (l::t) m
abbrev KG (g j:Int):aW:=[(2,.ptr 0 0),(4,.ptr 1 0),(6,.ptr 2 0),(7,.ptr 3 0),(104,A_ g),(105,A_ j)]
abbrev UT:aW:=[(2,.ptr 0 0),(4,.ptr 1 0),(6,.ptr 2 0),(7,.ptr 3 0)]
section
variable (b:C_)(hb:b.length<=1000000000)(C:D_)(f0 f1 f4:AV)(i0 i1 i3:AV)(mx:Nat)(hm:mx<=1000)
theorem LV (F I:D_)(s:Nat×Nat)(g:Int)(N:Nat) :
  (Dn prog).code (.loop fN) ⟨KG g g,⟨fX C F I [] (cU b s),N⟩⟩=some (.exit 1,⟨UT,⟨fX C F I [] (cU b s),N⟩⟩):=by
 rw[ah Hw];simp(maxSteps:=300000) (disch:=omega)[↓ac,↓aa]
theorem WW (f3:AV)(I:D_)(s:Nat×Nat)(mk:Int)(g j:Int)(hj:j<g)(h:mk≠1∨s.2≠0)(N:Nat) :
  (Dn prog).code (.loop fN) ⟨KG g j,⟨fX C [f0,f1,A_ mk,f3,f4] I [] (cU b s),N⟩⟩=some (.exit 1,⟨UT,⟨fX C [f0,f1,A_ mk,f3,f4] I [] (cU b s),N⟩⟩):=by
 obtain⟨a,e⟩:=s;rw[ah Hw];simp only[fX,cU];by_cases hk:mk=1
 .have he:e≠0:=h.resolve_left (λh=>h hk);subst hk;simp(maxSteps:=300000) (disch:=omega)[↓ac,↓aa,he]
 .simp(maxSteps:=300000) (disch:=omega)[↓ac,↓aa,hk]
include hb hm
theorem ah9 (a:Nat)(ha:a<=b.length)(acc:S_)(hacc:acc.length<=1000)(g j:Nat)(hj:j<g)(hg:g<=1000)(N:Nat)(hN:4<=N) :
  (Dn prog).code (.loop fN) ⟨KG g j,⟨fX C [f0,f1,A_ 1,aG 1 (dw acc),f4] [i0,i1,A_ mx,i3] [] (cU b (a,0)),N⟩⟩ =
  (Dn prog).code (.loop fN) ⟨KG g (j+1:Nat),⟨fX C [f0,f1,A_ 1,aG 1 (dw (acc++[(ma b mx (a,0)).1])),f4] [i0,i1,A_ mx,i3] [] (cU b (ma b mx (a,0)).2),N+1⟩⟩:=by
 have h1:=ayA b hb C [f0,f1,A_ 1,aG 1 (dw acc),f4] [i0,i1,A_ mx,i3] mx hm N hN (.int .i64 g) (.int .i64 j) mx 0 [] (a,0) o_ rfl ha;have hk:=Ek (z:=[.bool false]) (n:=mx) o_;rw[awW]at hk;have c1:((j+1:Nat):Int)=(j:Int)+1:=rfl;have c0:((0:Nat):Int)=0:=rfl;have hl:(ma b mx (a,0)).1.length=mx:=ajF;have hrl:(gS (List.replicate mx false)).length=mx:=by rw[sS,bm]
 have hbl:(gS (ma b mx (a,0)).1).length=mx:=by rw[sS,hl]
 have ht:List.take mx (gS (ma b mx (a,0)).1)=gS (ma b mx (a,0)).1:=cg o_;have hA:(dw acc).length=acc.length:=Ke;have e:aG 1 (dw (acc++[(ma b mx (a,0)).1]))=.own false 1 (dw acc++[[.lst (gS (ma b mx (a,0)).1)]]):=by rw[aq0,oK]
 have n0:N≠0∧N≠1∧N≠2∧N≠3:=o_;rw[c1,e];simp only[aK,cU,fX,c0]at h1⊢;generalize ma b mx (a,0)=r at *;obtain⟨l,s⟩:=r;simp only at *;generalize gS (List.replicate mx false)=Z at *;generalize gS l=B at *;generalize dw acc=A at *;rw[ah Hw]
 cases A with
 |nil=>simp(maxSteps:=300000) (disch:=omega)[↓ac,↓aa,hk,h1,hrl,hbl,ht,n0]
 |cons y r=>simp(maxSteps:=300000) (disch:=omega)[↓ac,↓aa,hk,h1,hrl,hbl,ht,n0]
theorem aoj (g:Nat)(hg:g<=1000):∀(c j a:Nat) (acc:S_) (N:Nat),j+c=g->acc.length=j->a<=b.length->4<=N->
  ∃(w:S_) (s:Nat×Nat) (M:Nat),4<=M∧s.1<=b.length∧Lk (xp b mx c a) (λt=>w=acc++t) s∧
  (Dn prog).code (.loop fN) ⟨KG g j,⟨fX C [f0,f1,A_ 1,aG 1 (dw acc),f4] [i0,i1,A_ mx,i3] [] (cU b (a,0)),N⟩⟩ =
  some (.exit 1,⟨UT,⟨fX C [f0,f1,A_ 1,aG 1 (dw w),f4] [i0,i1,A_ mx,i3] [] (cU b s),M⟩⟩):=by
 intro c
 induction c with
 |zero =>
  intro j a acc N hj hl ha hN;obtain rfl:j=g:=o_;exact⟨acc,(a,0),N,hN,ha,⟨s_,rfl⟩,LV b C _ _ _ _ _⟩
 |succ c ih =>
  intro j a acc N hj hl ha hN;rw[ah9 b hb C f0 f1 f4 i0 i1 i3 mx hm a ha acc o_ g j o_ hg N hN,xp];have hr:=ap2 (b:=b) (k:=mx) (a:=a);have hle:(ma b mx (a,0)).2.1<=b.length:=alZ ha;generalize ma b mx (a,0)=r at *;obtain⟨l,s⟩:=r
  cases e:Il b mx a with
  |ok l2 n =>
   rw[e]at hr;obtain⟨h1,h2⟩:=hr;simp only at h1 h2 hle;subst h1 h2;obtain⟨w,s6,M,k1,k2,k3,k4⟩:=ih (j+1) n (acc++[l]) (N+1) o_ g_ hle o_;refine⟨w,s6,M,k1,k2,?_,k4⟩;rw[az]
   cases e2:xp b mx c n with
   |er q=>rw[e2]at k3;exact k3
   |ok t q=>rw[e2]at k3;exact⟨by rw[k3.1,aA];rfl,k3.2⟩
  |er e0 =>
   rw[e]at hr;have hd:s.2=e0+1:=hr;refine⟨acc++[l],s,N+1,o_,hle,hd,?_⟩;by_cases hc:c=0
   .have:j+1=g:=o_;rw[this];exact LV b C _ _ _ _ _
   .exact WW b C f0 f1 f4 _ _ s 1 g (j+1:Nat) o_ (.inr o_) _
theorem aq9 (g:Nat)(hg:g<=1000)(k:Nat)(s:Nat×Nat)(hs:s.1<=b.length)(N:Nat)(hN:4<=N) :
  ∃(w:S_) (s6:Nat×Nat) (M:Nat),4<=M∧s6.1<=b.length∧(s.2=0->Lk (if k=1 then xp b mx g s.1 else .ok [] s.1) (λt=>w=t) s6)∧(s.2≠0->s6=s)∧
  (Dn prog).code (.loop fN) ⟨KG g 0,⟨fX C [f0,f1,A_ k,.nl,f4] [i0,i1,A_ mx,i3] [] (cU b s),N⟩⟩ =
  some (.exit 1,⟨UT,⟨fX C [f0,f1,A_ k,aG 1 (dw w),f4] [i0,i1,A_ mx,i3] [] (cU b s6),M⟩⟩):=by
 have e0:aG 1 (dw [])=.nl:=rfl;obtain⟨a,e⟩:=s;by_cases h:k=1∧e=0
 .obtain⟨rfl,rfl⟩:=h;obtain⟨w,s6,M,k1,k2,k3,k4⟩:=aoj b hb C f0 f1 f4 i0 i1 i3 mx hm g hg g 0 a [] N o_ rfl hs hN;rw[e0]at k4;exact⟨w,s6,M,k1,k2,λ_=>by simpa using k3,λh=>absurd rfl h,k4⟩
 .refine⟨[],(a,e),N,hN,hs,λhe=>?_,λ_=>rfl,?_⟩
  .rw[aa (λhk=>h ⟨hk,he⟩)];exact⟨rfl,by rw[show e=0 from he]⟩
  .rw[e0];by_cases hg0:g=0
   .subst hg0;exact LV b C _ _ _ _ _
   .exact WW b C f0 f1 f4 _ _ (a,e) k g 0 o_ t_ _
end
def tk (b:C_)(r:Nat)(q:Bool)(i:aN):Nat->Nat->R AH_
 |0,a=>.ok [] a
 |k+1,a=>(CU b a r q i).bind λv n=>(tk b r q i k n).bind λl m=>.ok (K4 v::l) m
abbrev CX (n i:Int):aW:=[(2,.ptr 0 0),(4,.ptr 1 0),(6,.ptr 2 0),(7,.ptr 3 0),(140,A_ n),(141,A_ i)]
abbrev zF:D_:=[.nl,B_ false,A_ 0,.nl,.nl]
def apo (q:Bool)(i:aN)(I iv:D_):Prop:=(I=[.d (.int .u8 i.seq),.d (.int .u8 i.shape),A_ i.max,.own false 1 (aH i.groups)]∧iv=i.cells)∨(I=zI∧q=false∧iv=zI)
section
variable (b:C_)(hb:b.length<=1000000000)
theorem alR (C F I:D_)(s:Nat×Nat)(n:Int)(N:Nat)(hN:4<=N) :
  (Dn prog).code (.loop fw) ⟨CX n n,⟨fX C F I [] (cU b s),N⟩⟩=some (.exit 5,⟨[(4,.ptr 1 0),(6,.ptr 2 0)],⟨[(1,.cells F),(2,.cells (cU b s))],N⟩⟩):=by
 rw[ah AE];simp(maxSteps:=300000) (disch:=omega)[↓ac,↓aa]
theorem ajq (C I:D_)(f0 f1 f2 f3 f4:AV)(s:Nat×Nat)(hs:s.2≠0)(n i:Int)(hi:i<n)(N:Nat) :
  (Dn prog).code (.loop fw) ⟨CX n i,⟨fX C [f0,f1,f2,f3,f4] I [] (cU b s),N⟩⟩=some (.ret,⟨[(4,.ptr 1 0),(5,A_ s.2)],⟨[(1,.cells zF),(2,.cells (cU b s))],N⟩⟩):=by
 obtain⟨a,e⟩:=s;simp only at hs;rw[ah AE];simp only[fX,cU];simp(maxSteps:=300000) (disch:=omega)[↓ac,↓aa,hs]
include hb
theorem ahr (r:Nat)(hr:r<=11)(q:Bool)(i:aN)(hi:i.Fit)(I iv:D_)(hI:apo q i I iv)(c1 c2 c3 f2 f3 f4:AV)(a:Nat)(ha:a<=b.length)(acc:AH_)(hacc:acc.length<=100)(v:Hd×G_)(m:Nat)(hv:CU b a r q i=.ok v m)(n j:Nat)(hj:j<n)(hn:n<=2)(N:Nat)(hN:4<=N) :
  (Dn prog).code (.loop fw) ⟨CX n j,⟨fX [A_ r,c1,c2,c3] [aG 9 (dP acc),B_ q,f2,f3,f4] I [] (cU b (a,0)),N⟩⟩ =
  (Dn prog).code (.loop fw) ⟨CX n (j+1:Nat),⟨fX [A_ r,c1,c2,c3] [aG 9 (dP (acc++[K4 v])),B_ q,f2,f3,f4] I [] (cU b (m,0)),N+1⟩⟩:=by
 have hiv:iv=i.cells∨q=false∧iv=zI:=hI.imp And.right λh=>⟨h.2.1,h.2.2⟩
 have hG:=amt b hb a o_ r hr q i hi iv hiv;rw[hv]at hG;have cj:((j+1:Nat):Int)=(j:Int)+1:=rfl;have c0:((0:Nat):Int)=0:=rfl;have hA:(dP acc).length=acc.length:=EX;have e:aG 9 (dP (acc++[K4 v]))=.own false 9 (dP acc++[[.int .i64 v.1.gain,.int .u8 v.1.inf.seq,.int .u8 v.1.inf.shape,.int .i64 v.1.inf.max,.lst (aH v.1.inf.groups),.lst (bF v.1.S),.lst (cZ v.1.T),.lst (cT v.1.F),.lst (aH v.2)]]):=by rw[aqb,oK]
 have n0:N≠0∧N≠1∧N≠2∧N≠3:=o_;rw[cj,e];simp only[cU,fX,c0,avj,Ug]at hG⊢;generalize dP acc=A at *;generalize aH v.2=Z at *;rcases hI with ⟨rfl,rfl⟩|⟨rfl,rfl,rfl⟩
 all_goals
  simp only[aN.cells,zI]at hG⊢;rw[ah AE]
  cases A with
  |nil=>simp(maxSteps:=300000) (disch:=omega)[↓ac,↓aa,hG,n0]
  |cons y w=>simp(maxSteps:=300000) (disch:=omega)[↓ac,↓aa,hG,n0]
theorem apw (r:Nat)(hr:r<=11)(q:Bool)(i:aN)(hi:i.Fit)(I iv:D_)(hI:apo q i I iv)(c1 c2 c3 f0 f2 f3 f4:AV)(a:Nat)(ha:a<=b.length)(e:Nat)(hv:CU b a r q i=.er e)(n j:Nat)(hj:j<n)(hn:n<=2)(N:Nat)(hN:4<=N) :
  (Dn prog).code (.loop fw) ⟨CX n j,⟨fX [A_ r,c1,c2,c3] [f0,B_ q,f2,f3,f4] I [] (cU b (a,0)),N⟩⟩ =
  some (.ret,⟨[(4,.ptr 1 0),(5,A_ ((e+1:Nat):Int))],⟨[(1,.cells zF),(2,.cells (cU b (0,e+1)))],N+1⟩⟩):=by
 have hiv:iv=i.cells∨q=false∧iv=zI:=hI.imp And.right λh=>⟨h.2.1,h.2.2⟩
 have hG:=amt b hb a o_ r hr q i hi iv hiv;rw[hv]at hG;have ce:((e+1:Nat):Int)=(e:Int)+1:=rfl;have c0:((0:Nat):Int)=0:=rfl;have n0:N≠0∧N≠1∧N≠2∧N≠3:=o_;have e1:¬((e:Int)+1=0):=o_;simp only[cU,fX,c0,ce,avj,CK]at hG⊢;rcases hI with ⟨rfl,rfl⟩|⟨rfl,rfl,rfl⟩
 all_goals
  simp only[aN.cells,zI]at hG⊢;rw[ah AE];simp(maxSteps:=300000) (disch:=omega)[↓ac,↓aa,hG,n0,e1]
end
def aut (w:C_)(hw:w.length<=1000000000)(N:Nat):∀(r:C_) (i:Nat),w.drop i=r->
  (1∉r->(Dn prog).code (.loop jh) ⟨[(0,.d (.lst (ai w))),(1,.d (.int .u8 1)),(7,A_ w.length),(8,A_ i)],⟨[],N⟩⟩=some (.exit 0,⟨[],⟨[],N⟩⟩))∧
  (1∈r->∃k:Nat,(Dn prog).code (.loop jh) ⟨[(0,.d (.lst (ai w))),(1,.d (.int .u8 1)),(7,A_ w.length),(8,A_ i)],⟨[],N⟩⟩=some (.ret,⟨[(4,A_ k)],⟨[],N⟩⟩)):=by
 intro r
 induction r with
 |nil =>
  intro i hd;have hi:=aY hd;refine⟨λ_=>?_,λh=>absurd h s_⟩;rw[ah yX];simp(maxSteps:=300000) (disch:=omega)[↓ac,↓aa]
 |cons x r ih =>
  intro i hd;have hlt:=bw hd;have hg:(ai w)[i]?=some [.int .u8 x]:=by
   have:=aV (λl=>l[0]?) hd;simp only[ca,b8,dY]at this;rw[ai,b7,this];rfl
  have h5:=ih (i+1) (bt hd);have c1:((i+1:Nat):Int)=(i:Int)+1:=rfl;rw[c1]at h5;rw[ah yX];generalize ai w=W at *;by_cases hx:x=1
  .refine⟨λh=>absurd (by rw[hx];exact .head _) h,λ_=>⟨i,?_⟩⟩;have hx2:(1:Int)=(x:Int):=o_;simp(maxSteps:=300000) (disch:=omega)[↓ac,↓aa,hg,<-hx2]
  .have hx2:¬(1:Int)=(x:Int):=o_;refine⟨λh=>?_,λh=>?_⟩
   .rw[<-h5.1 λh2=>h (.tail _ h2)];simp(maxSteps:=300000) (disch:=omega)[↓ac,↓aa,hg,hx2]
   .obtain⟨k,hk⟩:=h5.2 (by
    rcases ay.1 h with h|h
    .exact absurd h.symm hx
    .exact h)
    refine⟨k,?_⟩;rw[<-hk];simp(maxSteps:=300000) (disch:=omega)[↓ac,↓aa,hg,hx2]
def anC (w:C_)(hw:w.length<=1000000000):bj prog qg [.d (.lst (ai w)),.d (.int .u8 1)]=some (B_ (decide (1∈w))):=by
 obtain⟨h1,h2⟩:=aut w hw 0 w 0 rfl;have hl:=bD (l:=w);have c0:((0:Nat):Int)=0:=rfl;rw[c0]at h1 h2;by_cases h:1∈w
 .obtain⟨k,hk⟩:=h2 h;have hI:bj prog uE [.d (.lst (ai w)),.d (.int .u8 1)]=some (A_ k):=by
   rw[aE Dm DI rfl];generalize ai w=W at *;simp(maxSteps:=300000) (disch:=omega)[↓ac,↓aa,hl,hk]
  rw[decide_eq_true h,aE yS yW rfl];simp(maxSteps:=300000) (disch:=omega)[↓ac,↓aa,hI]
 .have hk:=h1 h;have hI:bj prog uE [.d (.lst (ai w)),.d (.int .u8 1)]=some (A_ (-1)):=by
   rw[aE Dm DI rfl];generalize ai w=W at *;simp(maxSteps:=300000) (disch:=omega)[↓ac,↓aa,hl,hk]
  rw[decide_eq_false h,aE yS yW rfl];simp(maxSteps:=300000) (disch:=omega)[↓ac,↓aa,hI]
abbrev hp3 (C F c:D_):am:=[(0,.cells C),(1,.cells F),(2,.cells c)]
def ao2 (C F:D_):Hr (hp3 C F) 2:=⟨λc=>by simp,λc d=>by simp⟩
def Nj (b:C_)(n:Int):Nat×Nat:=kT (gT b (0,0) 3).2 (((gT b (0,0) 3).1:Int)=n-1)
def Z9 (b:C_)(n:Int):Nat×Nat:=kT (gT b (Nj b n) 4).2 (((gT b (Nj b n) 4).1:Int)=0)
section
variable (b:C_)(hb:b.length<=1000000000)
include hb
theorem asd {n:Int}:(Nj b n).1<=b.length:=Id (rV (dB _))
theorem aAx {n:Int}:(Z9 b n).1<=b.length:=Id (rV (asd b hb))
theorem amd (c0 c2 c3:AV)(n:Int)(hn:n=1∨n=2)(T:VC) :
  (Dn prog).code (.seq (.seq uU (K [41])) (.seq Ay (.seq Ap T))) ⟨[(2,.ptr 0 0),(4,.ptr 1 0),(6,.ptr 2 0)],⟨hp3 [c0,A_ n,c2,c3] zF (cU b (0,0)),3⟩⟩ =
  (Dn prog).code T ⟨[(2,.ptr 0 0),(4,.ptr 1 0),(6,.ptr 2 0),(7,.ptr 3 0)],⟨fX [c0,A_ n,c2,c3] zF zI [] (cU b (Z9 b n)),4⟩⟩:=by
 have h1:=gw (ao2 [c0,A_ n,c2,c3] zF) b hb (0,0) (dB _) 3 3;have h2:=nB (ao2 [c0,A_ n,c2,c3] zF) b (gT b (0,0) 3).2 (((gT b (0,0) 3).1:Int)=n-1) 3;have h3:=gw (ao2 [c0,A_ n,c2,c3] zF) b hb (Nj b n) (asd b hb) 4 3;have h4:=nB (ao2 [c0,A_ n,c2,c3] zF) b (gT b (Nj b n) 4).2 (((gT b (Nj b n) 4).1:Int)=0) 3;have e1:Nj b n=kT (gT b (0,0) 3).2 (((gT b (0,0) 3).1:Int)=n-1):=rfl;have e2:Z9 b n=kT (gT b (Nj b n) 4).2 (((gT b (Nj b n) 4).1:Int)=0):=rfl;rw[<-e1]at h2;rw[<-e2]at h4;clear e1 e2;generalize Z9 b n=s4 at *;generalize Nj b n=s2 at *;generalize gT b (0,0) 3=g1 at *;obtain⟨x1,s1⟩:=g1;generalize gT b s2 4=g3 at *;obtain⟨x3,s3⟩:=g3;have c0':((0:Nat):Int)=0:=rfl;simp only[cU,hp3,fX,c0',zF]at h1 h2 h3 h4⊢;by_cases k1:(x1:Int)=n-1
 .rw[decide_eq_true k1]at h2;by_cases k2:(x3:Int)=0
  .rw[decide_eq_true k2]at h4;simp(maxSteps:=300000) (disch:=omega)[↓ac,↓aa,h1,h2,h3,h4]
  .rw[decide_eq_false k2]at h4;simp(maxSteps:=300000) (disch:=omega)[↓ac,↓aa,h1,h2,h3,h4]
 .rw[decide_eq_false k1]at h2;by_cases k2:(x3:Int)=0
  .rw[decide_eq_true k2]at h4;simp(maxSteps:=300000) (disch:=omega)[↓ac,↓aa,h1,h2,h3,h4]
  .rw[decide_eq_false k2]at h4;simp(maxSteps:=300000) (disch:=omega)[↓ac,↓aa,h1,h2,h3,h4]
theorem ai2 (c0 c2 c3:AV)(s:Nat×Nat)(T:VC) :
  (Dn prog).code (.seq (.seq sH (.cond (.m 49) tI .skip)) T) ⟨[(2,.ptr 0 0),(4,.ptr 1 0),(6,.ptr 2 0),(7,.ptr 3 0)],⟨fX [c0,A_ 1,c2,c3] zF zI [] (cU b s),4⟩⟩ =
  (Dn prog).code T ⟨[(2,.ptr 0 0),(4,.ptr 1 0),(6,.ptr 2 0),(7,.ptr 3 0)],⟨fX [c0,A_ 1,c2,c3] zF zI [] (cU b s),4⟩⟩:=by
 simp only[cU,fX,zF];simp(maxSteps:=300000) (disch:=omega)[↓ac,↓aa]
theorem aiU (c0 c2 c3:AV)(s:Nat×Nat)(hs:s.1<=b.length)(T:VC) :
  (Dn prog).code (.seq (.seq sH (.cond (.m 49) tI .skip)) T) ⟨[(2,.ptr 0 0),(4,.ptr 1 0),(6,.ptr 2 0),(7,.ptr 3 0)],⟨fX [c0,A_ 2,c2,c3] zF zI [] (cU b s),4⟩⟩ =
  (Dn prog).code T ⟨[(2,.ptr 0 0),(4,.ptr 1 0),(6,.ptr 2 0),(7,.ptr 3 0)],⟨fX [c0,A_ 2,c2,c3] [.nl,B_ ((decide ((gT b s 1).1=1))),A_ 0,.nl,.nl] zI [] (cU b (gT b s 1).2),4⟩⟩:=by
 have h1:=gw (ao5 [c0,A_ 2,c2,c3] zF zI []) b hb s hs 1 4;generalize gT b s 1=g at *;obtain⟨x,s1⟩:=g;simp only[cU,fX,zF]at h1⊢;by_cases hx:x=1
 .have hx2:(x:Int)=1:=o_;simp(maxSteps:=300000) (disch:=omega)[↓ac,↓aa,h1,hx,hx2]
 .have hx2:¬(x:Int)=1:=o_;simp(maxSteps:=300000) (disch:=omega)[↓ac,↓aa,h1,hx,hx2]
end
def gb3 {b:C_}{a v n:Nat}:bf b (a:Int) 3=.ok v n↔v<8∧At b a n (ar v 3):=cx (s:=3) (by omega)
def gb4 {b:C_}{a v n:Nat}:bf b (a:Int) 4=.ok v n↔v<16∧At b a n (ar v 4):=cx (s:=4) (by omega)
def gb8 {b:C_}{a v n:Nat}:bf b (a:Int) 8=.ok v n↔v<256∧At b a n (ar v 8):=cx (s:=8) (by omega)
def gb2 {b:C_}{a v n:Nat}:bf b (a:Int) 2=.ok v n↔v<4∧At b a n (ar v 2):=cx (s:=2) (by omega)
def gb1 {b:C_}{a v n:Nat}:bf b (a:Int) 1=.ok v n↔v<2∧At b a n (ar v 1):=cx (s:=1) (by omega)
def Lc {b:C_}:∀{k a m:Nat}{l:C_},a<=b.length->(nM b k a=.ok l m↔l.length=k∧(∀x∈l,x<=255)∧At b a m (bY l))
 |0,a,m,l,ha=>by
  rw[nM];constructor
  .intro h;injection h with h1 h2
   subst h1 h2;exact⟨rfl,s_,ef.2 ⟨rfl,ha⟩⟩
  .rintro ⟨h1,_,h3⟩
   obtain rfl:=ax h1;rw[(ef.1 h3).1]
 |k+1,a,m,l,ha=>by
  rw[nM,aS];constructor
  .rintro ⟨x,n,e1,h⟩
   obtain⟨r,p,e2,h⟩:=aS.1 h;injection h with h1 h2;subst h1 h2;obtain⟨hx,f1⟩:=gb8.1 e1;obtain⟨h1,h2,f2⟩:=(Lc (dA f1).2.1).1 e2;exact⟨by rw[aq,h1],λy hy=>by
    rcases ay.1 hy with rfl|hy
    .omega
    .exact h2 y hy,aZ.2 ⟨n,f1,f2⟩⟩
  .rintro ⟨h1,h2,h3⟩
   cases l with
   |nil=>simp at h1
   |cons x r =>
    obtain⟨n,f1,f2⟩:=(aZ (X:=ar x 8)).1 h3;refine⟨x,n,gb8.2 ⟨by have:=h2 x (.head _);omega,f1⟩,aS.2 ⟨r,m,(Lc (dA f1).2.1).2 ⟨by simpa using h1,λy hy=>h2 y (.tail _ hy),f2⟩,rfl⟩⟩
def ass {b:C_}{a m x:Nat}:bf b (a:Int) 1=.ok x m↔x=cond (decide (x=1)) 1 0∧At b a m (ar (cond (decide (x=1)) 1 0) 1):=by
 rw[gb1];constructor
 .rintro ⟨h1,h2⟩
  have:x=0∨x=1:=o_;rcases this with rfl|rfl<;>exact⟨rfl,h2⟩
 .rintro ⟨h1,h2⟩
  rw[<-h1]at h2;refine⟨?_,h2⟩;rw[h1]
  cases decide (x=1)<;>simp
def PY {b:C_}:∀{k a m:Nat}{l:U_},a<=b.length->(Il b k a=.ok l m↔l.length=k∧At b a m (t8 l))
 |0,a,m,l,ha=>by
  rw[Il];constructor
  .intro h;injection h with h1 h2
   subst h1 h2;exact⟨rfl,ef.2 ⟨rfl,ha⟩⟩
  .rintro ⟨h1,h3⟩
   obtain rfl:=ax h1;rw[(ef.1 h3).1]
 |k+1,a,m,l,ha=>by
  rw[Il,aS];constructor
  .rintro ⟨x,n,e1,h⟩
   obtain⟨r,p,e2,h⟩:=aS.1 h;injection h with h1 h2;subst h1 h2;obtain⟨hx,f1⟩:=ass.1 e1;obtain⟨h1,f2⟩:=(PY (dA f1).2.1).1 e2;exact⟨by rw[aq,h1],aZ.2 ⟨n,f1,f2⟩⟩
  .rintro ⟨h1,h3⟩
   cases l with
   |nil=>simp at h1
   |cons x r =>
    obtain⟨n,f1,f2⟩:=(aZ (X:=ar (cond x 1 0) 1)).1 h3;have hd:decide ((cond x 1 0:Nat)=1)=x:=by cases x<;>rfl
    refine⟨cond x 1 0,n,ass.2 (by rw[hd];exact⟨rfl,f1⟩),aS.2 ⟨r,m,(PY (dA f1).2.1).2 ⟨by simpa using h1,f2⟩,by rw[hd]⟩⟩
def aea {a c:U_}:t8 (a++c)=t8 a++t8 c:=by simp[t8]
def RU {b:C_}{mx:Nat}:∀{g a m:Nat}{t:S_},a<=b.length->(xp b mx g a=.ok t m↔t.length=g∧(∀l∈t,l.length=mx)∧At b a m (t8 t.flatten))
 |0,a,m,t,ha=>by
  rw[xp];constructor
  .intro h;injection h with h1 h2
   subst h1 h2;exact⟨rfl,s_,ef.2 ⟨rfl,ha⟩⟩
  .rintro ⟨h1,_,h3⟩
   obtain rfl:=ax h1;rw[(ef.1 h3).1]
 |g+1,a,m,t,ha=>by
  rw[xp,aS];constructor
  .rintro ⟨l,n,e1,h⟩
   obtain⟨r,p,e2,h⟩:=aS.1 h;injection h with h1 h2;subst h1 h2;obtain⟨hx,f1⟩:=(PY ha).1 e1;obtain⟨h1,h2,f2⟩:=(RU (dA f1).2.1).1 e2;refine⟨by rw[aq,h1],λy hy=>?_,by rw[dC,aea];exact aZ.2 ⟨n,f1,f2⟩⟩;rcases ay.1 hy with rfl|hy
   .exact hx
   .exact h2 y hy
  .rintro ⟨h1,h2,h3⟩
   cases t with
   |nil=>simp at h1
   |cons l r =>
    rw[dC,aea]at h3;obtain⟨n,f1,f2⟩:=aZ.1 h3;exact⟨l,n,(PY ha).2 ⟨h2 l (.head _),f1⟩,aS.2 ⟨r,m,(RU (dA f1).2.1).2 ⟨by simpa using h1,λy hy=>h2 y (.tail _ hy),f2⟩,rfl⟩⟩
def ah7 {b:C_}{a m:Nat}{l:C_}(ha:a<=b.length):CL b a=.ok l m↔(l.length<=269∧∀x∈l,x<=255)∧At b a m (mZ l++ar 7 3):=by
 unfold CL;rw[aS];constructor
 .rintro ⟨x,n,e1,h⟩
  obtain⟨hx,f1⟩:=gb3.1 e1;by_cases h6:x=6
  .rw[ac h6]at h;subst h6;obtain⟨k,n2,e2,h⟩:=aS.1 h;obtain⟨hk,f2⟩:=gb4.1 e2;by_cases hk0:k=0
   .rw[ac hk0]at h;exact absurd h (by simp)
   rw[aa hk0]at h;obtain⟨c,n3,e3,h⟩:=aS.1 h;obtain⟨w,n4,e4,h⟩:=aS.1 h;obtain⟨z,n5,e5,h⟩:=aS.1 h;by_cases hz:z=7
   rotate_left
   .rw[aa hz]at h;exact absurd h (by simp)
   rw[ac hz]at h;injection h with g1 g2
   subst g1 g2 hz;have f5:=(gb3.1 e5).2;have key:At b n2 n3 (if 15<=c then ar (c-14) 8 else [])∧min c 15=k∧1<=c∧c<=269:=by
    by_cases h15:k=15
    .rw[ac h15]at e3;obtain⟨y,n6,e6,h⟩:=aS.1 e3;obtain⟨hy,f6⟩:=gb8.1 e6;by_cases hy0:y=0
     .rw[ac hy0]at h;exact absurd h (by simp)
     rw[aa hy0]at h;injection h with g1 g2
     subst g1 g2;rw[ac o_,dt];exact⟨f6,o_,o_,o_⟩
    .rw[aa h15]at e3;injection e3 with g1 g2
     subst g1 g2;rw[aa o_];exact⟨ef.2 ⟨rfl,(dA f2).2.1⟩,o_,o_,o_⟩
   obtain⟨f3,k1,k2,k3⟩:=key;obtain⟨w1,w2,f4⟩:=(Lc (dA f3).2.1).1 e4;refine⟨⟨o_,w2⟩,?_⟩;have hne:w≠[]:=λh=>by rw[h]at w1;simp at w1;omega
   rw[mZ,aa hne,w1,k1];exact aZ.2 ⟨n4,aZ.2 ⟨n,f1,aZ.2 ⟨n2,f2,aZ.2 ⟨n3,f3,f4⟩⟩⟩,f5⟩
  .rw[aa h6]at h;by_cases h7:x=7
   rotate_left
   .rw[aa h7]at h;exact absurd h (by simp)
   rw[ac h7]at h;injection h with g1 g2
   subst g1 g2 h7;exact⟨⟨s_,s_⟩,by rw[mZ,ac rfl];exact f1⟩
 .rintro ⟨⟨h1,h2⟩,h3⟩
  by_cases h0:l=[]
  .rw[mZ,ac h0,aK]at h3;exact⟨7,m,gb3.2 ⟨o_,h3⟩,by rw[aa o_,ac rfl,h0]⟩
  have hl0:l.length≠0:=λh=>h0 (ax h)
  rw[mZ,aa h0]at h3;obtain⟨n4,h3,f5⟩:=aZ.1 h3;obtain⟨n,f1,h3⟩:=aZ.1 h3;obtain⟨n2,f2,h3⟩:=aZ.1 h3;obtain⟨n3,f3,f4⟩:=aZ.1 h3;refine⟨6,n,gb3.2 ⟨o_,f1⟩,?_⟩;rw[ac rfl,aS];refine⟨_,n2,gb4.2 ⟨o_,f2⟩,?_⟩;rw[aa o_,aS];refine⟨l.length,n3,?_,aS.2 ⟨l,n4,(Lc (dA f3).2.1).2 ⟨rfl,h2,f4⟩,aS.2 ⟨7,m,gb3.2 ⟨o_,f5⟩,ac rfl⟩⟩⟩;by_cases h15:15<=l.length
  .rw[ac h15]at f3;rw[ac o_,aS];exact⟨l.length-14,n3,gb8.2 ⟨o_,f3⟩,by rw[aa o_,show l.length-14+14=l.length by omega]⟩
  .rw[aa h15]at f3;rw[aa o_,(ef.1 f3).1,show min l.length 15=l.length by omega]
abbrev ab9:aN:=⟨0,0,0,[]⟩
def Po (b:C_)(r:Nat)(q:Bool)(a:Nat):R (aN×Nat×S_) :=
 if q=true then (nj b a r).bind λi m=>(bf b m 2).bind λk m=>if ¬k<3 then .er 7 else (if k=1 then xp b i.max.toNat i.groups.length m else .ok [] m).bind λl m=>.ok (i,k,l) m
 else .ok (ab9,0,[]) a
def aow (b:C_)(r:Nat)(n:Int):R fe :=
 (bf b (0:Nat) 3).bind λx m=>if (x:Int)≠n-1 then .er 7 else
 (bf b m 4).bind λx m=>if x≠0 then .er 7 else
 (if n=2 then bf b m 1 else .ok 0 m).bind λqv m =>
 (Po b r (decide (qv=1)) m).bind λh m =>
 (tk b r (decide (qv=1)) h.1 n.toNat m).bind λcs m =>
 (CL b m).bind λfl m=>.ok ⟨cs,decide (qv=1),h.2.1,h.2.2,fl⟩ m
def uv (R:Nat)(n:Int)(f:fe):C_:=gG n f++iB R f.common f.chans++mZ f.fill++ar 7 3
def aBU {b:C_}{a:Int}{r:Nat}{i j:aN}:CU b a r false i=CU b a r false j:=by
 unfold CU De;simp
def axf {i j:aN}(h:AJ i j):i=j:=by
 obtain⟨⟨h1,h2⟩,h3,h4⟩:=h
 cases i;cases j;simp_all
def Wn {b:C_}{r:Nat}(hr:r<=11){q:Bool}{i:aN}:∀{l:AH_}{a m:Nat},(∀c∈l,c.Fit∧nC r c∧(q=true->c.info=i))->At b a m (iB r q l)->tk b r q i l.length a=.ok l m
 |[],a,m,_,h=>by rw[show iB r q []=[] from rfl,ef]at h;rw[bg,tk,h.1]
 |c::l,a,m,hc,h=>by
  obtain⟨n,f1,f2⟩:=(aZ (X:=Dq r c q)).1 h;obtain⟨c1,c2,c3⟩:=hc c (.head _);have h1:=arR hr c1 c2 f1;have h1:CU b a r q i=.ok (⟨c.gain.toNat,c.info,c.sects,c.steps,c.tns,0,if pf c.tns then 1 else 0⟩,c.lines) n:=by
   cases q with
   |true=>rw[<-c3 rfl];exact h1
   |false=>rw[aBU (j:=c.info)];exact h1
  have hg:=c2.gain;rw[aq,tk,h1,az,Wn hr (λd hd=>hc d (.tail _ hd)) f2,az]
  congr 2
  obtain⟨g,ci,S,T,F,Z⟩:=c;simp only[K4]
  congr 1
  simp only at hg;omega
def aqS {b:C_}{r:Nat}(hr:r<=11){n:Int}(hn:n=1∨n=2){f:fe}(hf:f.Fit)(ok:uJ r n f){m:Nat}(h:At b 0 m (uv r n f)):aow b r n=.ok f m:=by
 obtain⟨n3,h,f7⟩:=(aZ (X:=gG n f++iB r f.common f.chans++mZ f.fill)).1 h;obtain⟨n2,h,f6⟩:=(aZ (X:=gG n f++iB r f.common f.chans)).1 h;obtain⟨n1,h,f5⟩:=aZ.1 h;have hfl:CL b n2=.ok f.fill m:=(ah7 (dA f6).1).2 ⟨⟨ok.fill,hf.fillI⟩,aZ.2 ⟨n3,f6,f7⟩⟩;have hln:=ok.len;have hrest:=ok.rest;have hcs:∀i:aN,(∀c∈f.chans,f.common=true->c.info=i)->tk b r f.common i n.toNat n1=.ok f.chans n2:=λi hi=>by
  rw[show n.toNat=f.chans.length by omega];exact Wn hr (λc hc=>⟨hf.chans.2 c hc,ok.may c hc,hi c hc⟩) f5
 have key:(f.common=true->n=2)∧(f.common=false->f.mask=0∧f.bands=[]):=by
  cases hch:f.chans with
  |nil=>rw[hch]at hrest;exact hrest.elim
  |cons c t =>
   rw[hch]at hrest hln;simp only[J6]at hrest;constructor
   .intro hq;rw[ac hq]at hrest;obtain⟨⟨d,hd,_⟩,_⟩:=hrest
    cases t with
    |nil=>simp at hd
    |cons _ _=>simp at hln;omega
   .intro hq;rw[aa (by simp[hq])]at hrest;exact hrest
 unfold aow;rcases hn with rfl|rfl
 .have hq:f.common=false:=by
   cases h:f.common with
   |false=>rfl
   |true=>have:=key.1 h;omega
  rw[gG,ac rfl]at h;obtain⟨a1,g1,g2⟩:=aZ.1 h;obtain⟨k1,k2⟩:=key.2 hq;have h5:=hcs ab9 (λc _ hc=>by rw[hq]at hc;exact absurd hc s_);rw[hq]at h5;rw[gb3.2 ⟨o_,g1⟩,az,aa s_,gb4.2 ⟨o_,g2⟩,az,aa s_,aa o_,az];simp only[Po];rw[show decide ((0:Nat)=1)=false from rfl,aa s_,az,h5,az,hfl,az];obtain⟨cs,q,mk,bd,fl⟩:=f;simp only at hq k1 k2;rw[hq,k1,k2];rfl
 .rw[gG,aa o_]at h
  cases hq:f.common with
  |false =>
   rw[hq,aa s_]at h;obtain⟨a2,h,g3⟩:=aZ.1 h;obtain⟨a1,g1,g2⟩:=aZ.1 h;obtain⟨k1,k2⟩:=key.2 hq;have h5:=hcs ab9 (λc _ hc=>by rw[hq]at hc;exact absurd hc s_);rw[hq]at h5;rw[gb3.2 ⟨o_,g1⟩,az,aa s_,gb4.2 ⟨o_,g2⟩,az,aa s_,ac rfl,gb1.2 ⟨o_,g3⟩,az];simp only[Po];rw[show decide ((0:Nat)=1)=false from rfl,aa s_,az,h5,az,hfl,az];obtain⟨cs,q,mk,bd,fl⟩:=f;simp only at hq k1 k2;rw[hq,k1,k2];rfl
  |true =>
   rw[hq,ac rfl]at h;obtain⟨a5,h,g6⟩:=aZ.1 h;obtain⟨a4,h,g5⟩:=aZ.1 h;obtain⟨a3,h,g4⟩:=aZ.1 h;obtain⟨a2,h,g3⟩:=aZ.1 h;obtain⟨a1,g1,g2⟩:=aZ.1 h;have hmk:=ok.mask
   cases hch:f.chans with
   |nil=>rw[hch]at hrest;exact hrest.elim
   |cons c t =>
    have hin:∀d∈f.chans,f.common=true->d.info=c.info:=λd hd _=>by
     rw[hch]at hrest hln hd;simp only[J6,hq,bh]at hrest;obtain⟨⟨e,he,hs⟩,_⟩:=hrest
     cases t with
     |nil=>simp at he
     |cons x y =>
      have hy:y=[]:=ax (by simp at hln;omega);subst hy;simp only[List.head?_cons,Option.mem_def,ae]at he;subst he;simp only[ay,cq,ee]at hd;rcases hd with rfl|rfl
      .rfl
      .exact(axf hs).symm
    have h5:=hcs c.info hin;rw[hq]at h5;have hm:=ok.may c (by rw[hch];exact .head _);have hI:nj b (a3:Int) r=.ok c.info a4:=(Pg hr).2 ⟨hm.info,by simpa [US,hch] using g4⟩;have hmx:=jW (gy hr hm.info);rw[hch]at hrest;simp only[J6,hq,bh]at hrest;have hB:(if f.mask.toNat=1 then xp b c.info.max.toNat c.info.groups.length a5 else .ok [] a5)=.ok f.bands n1:=by
     have hr2:=hrest.2;by_cases h1:f.mask=1
     .rw[ac h1]at hr2;rw[ac o_];exact(RU (dA g6).1).2 ⟨hr2.1,λl hl=>by have:=hr2.2 l hl;omega,g6⟩
     .rw[aa h1]at hr2;rw[aa o_,hr2];rw[hr2]at g6;rw[(ef.1 g6).1]
    rw[gb3.2 ⟨o_,g1⟩,az,aa s_,gb4.2 ⟨o_,g2⟩,az,aa s_,ac rfl,gb1.2 ⟨o_,g3⟩,az];simp only[Po];simp only[decide_true];rw[ac trivial,hI,az,gb2.2 ⟨o_,g5⟩,az,aa o_,hB,az,az,h5,az,hfl,az];obtain⟨cs,q,mk,bd,fl⟩:=f;simp only at hq hmk;rw[hq,show((mk.toNat:Nat):Int)=mk by omega]
abbrev Ko:aW:=[(2,.ptr 0 0),(4,.ptr 1 0),(6,.ptr 2 0),(7,.ptr 3 0)]
def PK (C:D_)(q:Bool)(b:C_)(s:Nat×Nat)(h:q=false∨s.2≠0)(B T:VC) :
  (Dn prog).code (.seq (.seq me (.cond (.m 62) B .skip)) T) ⟨Ko,⟨fX C [.nl,B_ q,A_ 0,.nl,.nl] zI [] (cU b s),4⟩⟩ =
  (Dn prog).code T ⟨Ko,⟨fX C [.nl,B_ q,A_ 0,.nl,.nl] zI [] (cU b s),4⟩⟩:=by
 obtain⟨a,e⟩:=s;simp only[cU,fX]
 cases q with
 |false=>simp(maxSteps:=300000) (disch:=omega)[↓ac,↓aa]
 |true =>
  have he:e≠0:=h.resolve_left s_;simp(maxSteps:=300000) (disch:=omega)[↓ac,↓aa,he]
abbrev acl (B:VC):VC:=(.seq (.seq (.seq yC (K [63])) (.seq EL (.cond (.m 88) (.seq (.seq (F 2) (F 7)) (.seq xY .ret)) .skip))) B)
abbrev aim (b:C_)(s:Nat×Nat)(N:Nat):K_:=some (.ret,⟨[(4,.ptr 1 0),(5,A_ s.2)],⟨[(1,.cells zF),(2,.cells (cU b s))],N⟩⟩)
section
variable (b:C_)(hb:b.length<=1000000000)(r:Nat)(hr:r<=11)
include hb hr
theorem atS (c1 c2 c3:AV)(a e:Nat)(ha:a<=b.length)(he:nj b a r=.er e)(B T:VC) :
  (Dn prog).code (.seq (.seq me (.cond (.m 62) (acl B) .skip)) T) ⟨Ko,⟨fX [A_ r,c1,c2,c3] [.nl,B_ true,A_ 0,.nl,.nl] zI [] (cU b (a,0)),4⟩⟩ =
  some (.ret,⟨[(4,.ptr 1 0),(5,A_ ((e+1:Nat):Int))],⟨[(1,.cells zF),(2,.cells (cU b (0,e+1)))],4⟩⟩):=by
 have h:=XL b a r hb o_;rw[ac o_,au,he,iV]at h;have c0:((0:Nat):Int)=0:=rfl;have ce:((e+1:Nat):Int)=(e:Int)+1:=rfl;have e1:¬((e:Int)+1=0):=o_;simp only[cU,fX,c0,ce,zF,acl]at h⊢;simp(maxSteps:=300000) (disch:=omega)[↓ac,↓aa,h,e1]
theorem aun (c1 c2 c3:AV)(a:Nat)(ha:a<=b.length)(i:aN)(m:Nat)(he:nj b a r=.ok i m)(w:S_)(s6:Nat×Nat)(M:Nat)
  (hL:(Dn prog).code (.loop fN) ⟨KG i.groups.length 0,⟨fX [A_ r,c1,c2,c3] [.nl,B_ true,A_ ((gT b (m,0) 2).1),.nl,.nl] [.d (.int .u8 i.seq),.d (.int .u8 i.shape),A_ i.max,.own false 1 (aH i.groups)] [] (cU b (kT (gT b (m,0) 2).2 (((gT b (m,0) 2).1:Int)<3))),4⟩⟩ =
   some (.exit 1,⟨UT,⟨fX [A_ r,c1,c2,c3] [.nl,B_ true,A_ ((gT b (m,0) 2).1),aG 1 (dw w),.nl] [.d (.int .u8 i.seq),.d (.int .u8 i.shape),A_ i.max,.own false 1 (aH i.groups)] [] (cU b s6),M⟩⟩))(T:VC) :
  (Dn prog).code (.seq (.seq me (.cond (.m 62) (acl (.seq yb (.seq yL (.seq yI (.block 1 (.seq (.loop fN) (K [104,105]))))))) .skip)) T) ⟨Ko,⟨fX [A_ r,c1,c2,c3] [.nl,B_ true,A_ 0,.nl,.nl] zI [] (cU b (a,0)),4⟩⟩ =
  (Dn prog).code T ⟨Ko,⟨fX [A_ r,c1,c2,c3] [.nl,B_ true,A_ ((gT b (m,0) 2).1),aG 1 (dw w),.nl] [.d (.int .u8 i.seq),.d (.int .u8 i.shape),A_ i.max,.own false 1 (aH i.groups)] [] (cU b s6),M⟩⟩:=by
 have hp:=SH hr he;have h:=XL b a r hb o_;rw[ac o_,au,he,eY hp]at h;have h1:=gw (ao5 [A_ r,c1,c2,c3] [.nl,B_ true,A_ 0,.nl,.nl] [.d (.int .u8 i.seq),.d (.int .u8 i.shape),A_ i.max,.own false 1 (aH i.groups)] []) b hb (m,0) hp.2.1 2 4;have h2:=nB (ao5 [A_ r,c1,c2,c3] [.nl,B_ true,A_ ((gT b (m,0) 2).1),.nl,.nl] [.d (.int .u8 i.seq),.d (.int .u8 i.shape),A_ i.max,.own false 1 (aH i.groups)] []) b (gT b (m,0) 2).2 (((gT b (m,0) 2).1:Int)<3) 4;have hg:=iD (l:=i.groups);have c0:((0:Nat):Int)=0:=rfl;generalize kT (gT b (m,0) 2).2 (((gT b (m,0) 2).1:Int)<3)=s5 at *;generalize gT b (m,0) 2=g at *;obtain⟨x,s4⟩:=g;clear hp he;simp only[cU,fX,c0,acl,Sw,UT,KG]at h h1 h2 hL⊢;generalize aH i.groups=Z at *;by_cases k1:(x:Int)<3
 .rw[decide_eq_true k1]at h2;simp(maxSteps:=300000) (disch:=omega)[↓ac,↓aa,h,h1,h2,hL,hg]
 .rw[decide_eq_false k1]at h2;simp(maxSteps:=300000) (disch:=omega)[↓ac,↓aa,h,h1,h2,hL,hg]
end
abbrev Yf (b:C_)(F:D_)(s:Nat×Nat)(N:Nat):St:=⟨[(4,.ptr 1 0),(6,.ptr 2 0)],⟨[(1,.cells F),(2,.cells (cU b s))],N⟩⟩
section
variable (b:C_)(hb:b.length<=1000000000)(r:Nat)(hr:r<=11)
include hb hr
theorem aoS (q:Bool)(i:aN)(hi:i.Fit)(I iv:D_)(hI:apo q i I iv)(c1 c2 c3 f2 f3 f4:AV)(n:Nat)(hn:n<=2):∀(k j a:Nat) (acc:AH_) (N:Nat),j+k=n->acc.length=j->a<=b.length->4<=N->
  match tk b r q i k a with
  |.ok l m=>m<=b.length∧∃M,4<=M∧(Dn prog).code (.loop fw) ⟨CX n j,⟨fX [A_ r,c1,c2,c3] [aG 9 (dP acc),B_ q,f2,f3,f4] I [] (cU b (a,0)),N⟩⟩=some (.exit 5,Yf b [aG 9 (dP (acc++l)),B_ q,f2,f3,f4] (m,0) M)
  |.er e=>∃s M,s.2=e+1∧(Dn prog).code (.loop fw) ⟨CX n j,⟨fX [A_ r,c1,c2,c3] [aG 9 (dP acc),B_ q,f2,f3,f4] I [] (cU b (a,0)),N⟩⟩=aim b s M:=by
 intro k
 induction k with
 |zero =>
  intro j a acc N hj hl ha hN;obtain rfl:j=n:=o_;simp only[tk];exact⟨ha,N,hN,by rw[alR b _ _ _ _ _ _ hN,bi]⟩
 |succ k ih =>
  intro j a acc N hj hl ha hN;rw[tk]
  cases e:CU b a r q i with
  |er e0 =>
   rw[cB];exact⟨(0,e0+1),N+1,rfl,apw b hb r hr q i hi I iv hI c1 c2 c3 _ f2 f3 f4 a ha e0 e n j o_ hn N hN⟩
  |ok v m =>
   obtain⟨A,_,_,_,f1,_⟩:=avs hb hr hi e;have hm:=(dA f1).2.1;have h:=ih (j+1) m (acc++[K4 v]) (N+1) o_ g_ hm o_;rw[ahr b hb r hr q i hi I iv hI c1 c2 c3 f2 f3 f4 a ha acc o_ v m e n j o_ hn N hN,az]
   cases e2:tk b r q i k m with
   |er e0=>rw[e2]at h;exact h
   |ok l p =>
    rw[e2]at h;obtain⟨h1,M,h2,h3⟩:=h;exact⟨h1,M,h2,by rw[h3,aA];rfl⟩
end
abbrev WI:VC:=(.seq Ee (.block 5 (.seq (.loop fw) (.seq (.seq (K [140,141]) (F 2)) (F 7)))))
def adj (C F I:D_)(b:C_)(s:Nat×Nat)(c0 c2 c3:AV)(n:Nat)(N:Nat)(F2:D_)(s2:Nat×Nat)(M:Nat)
  (hL:(Dn prog).code (.loop fw) ⟨CX n 0,⟨fX [c0,A_ n,c2,c3] F I [] (cU b s),N⟩⟩=some (.exit 5,Yf b F2 s2 M))(T:VC) :
  (Dn prog).code (.seq WI T) ⟨Ko,⟨fX [c0,A_ n,c2,c3] F I [] (cU b s),N⟩⟩=(Dn prog).code T (Yf b F2 s2 M):=by
 simp only[cU,fX,CX,Yf,WI]at hL⊢;simp(maxSteps:=300000) (disch:=omega)[↓ac,↓aa,hL]
def ajT (C F I:D_)(b:C_)(s:Nat×Nat)(c0 c2 c3:AV)(n:Nat)(N:Nat)(s2:Nat×Nat)(M:Nat)
  (hL:(Dn prog).code (.loop fw) ⟨CX n 0,⟨fX [c0,A_ n,c2,c3] F I [] (cU b s),N⟩⟩=aim b s2 M)(T:VC) :
  (Dn prog).code (.seq WI T) ⟨Ko,⟨fX [c0,A_ n,c2,c3] F I [] (cU b s),N⟩⟩=aim b s2 M:=by
 simp only[cU,fX,CX,aim,WI]at hL⊢;simp(maxSteps:=300000) (disch:=omega)[↓ac,↓aa,hL]
abbrev Px:VC:=(.seq Ez (.seq (.seq EZ (.cond (.m 204) (.seq yP .ret) .skip)) (.seq (.seq (.seq Eu (K [6,221,222,223,224,225,226,227,228,229,230,231])) (.cond (.m 232) (.seq Fl .ret) .skip)) (.seq Fc .ret))))
def aBH (F:D_):Hr (λc=>[(1,.cells F),(2,.cells c)]) 2:=⟨λc=>by simp,λc d=>by simp⟩
def W5 {h:am}{l:C_}{a:Nat}(ha:a<=l.length)(hl:l.length<=1000000000):mQ h 1 (.d (.lst (ai l))) (some (A_ (a:Int))) none none=some (.d (.lst (ai (l.drop a)))):=by
 have e2:eh (A_ (a:Int)) (ai l).length=some a:=by rw[yk o_ (by rw[bD];omega)];simp
 have e3:GI 1 (ai l)=true:=by cases l<;>rfl
 simp only[mQ,okSl,vT,lenOf,xn,wp,e2,e3,sub];have e4:((ai l).drop a).take ((ai l).length-a)=ai (l.drop a):=by
  rw[cg (by rw[cM];exact al _)];unfold ai;rw[List.map_drop]
 rw[e4]
def P0 {m:Nat}{xs:E_}:ot (share (aG m xs))=share (aG m xs):=by cases xs<;>rfl
def ay8 (b:C_)(hb:b.length<=1000000000)(xs ys:E_)(q:Bool)(k:Int)(m:Nat)(hm:m<=b.length)(N:Nat) :
  match (CL b m).bind λfl m=>if b.length-m<=7∧1∉b.drop m then R.ok fl m else .er 7 with
  |.ok fl p=>∃s,(Dn prog).code Px (Yf b [aG 9 xs,B_ q,A_ k,aG 1 ys,.nl] (m,0) N)=some (.ret,⟨[(4,.ptr 1 0),(5,A_ 0)],⟨[(1,.cells [share (aG 9 xs),B_ q,A_ k,share (aG 1 ys),share (aG 1 (ai fl))]),(2,.cells (cU b s))],N⟩⟩)
  |.er e=>∃s,(Dn prog).code Px (Yf b [aG 9 xs,B_ q,A_ k,aG 1 ys,.nl] (m,0) N)=some (.ret,⟨[(4,.ptr 1 0),(5,A_ ((e+1:Nat):Int))],⟨[(1,.cells zF),(2,.cells (cU b s))],N⟩⟩):=by
 obtain⟨w,x,s,h1,h2⟩:=anx (aBH [aG 9 xs,B_ q,A_ k,aG 1 ys,.nl]) b hb m hm N;have c0:((0:Nat):Int)=0:=rfl;have hbl:=bD (l:=b);obtain⟨a,e⟩:=s;unfold GU at h1;simp only[Yf,cU,c0,Px]at h1⊢
 cases hf:CL b m with
 |er e0 =>
  rw[hf]at h2;rw[cB];have he:e=e0+1:=h2;subst he;have ce:((e0+1:Nat):Int)=(e0:Int)+1:=rfl;have e1:¬((e0:Int)+1=0):=o_;refine⟨(a,e0+1),?_⟩;simp only[ce]at h1⊢;generalize ai w=W at *;simp(maxSteps:=300000) (disch:=omega)[↓ac,↓aa,-br,II,P0,FD,h1,e1]
 |ok fl p =>
  rw[hf]at h2;obtain⟨h3,h4⟩:=h2;simp only[aP]at h4;obtain⟨h4,h5⟩:=h4;subst h3 h4 h5;have hp:a<=b.length:=by have:=(ah7 hm).1 hf;exact(dA this.2).2.1
  have hC:=anC (b.drop a) (by rw[cM];omega);have hS:=λh=>W5 (h:=h) hp hb
  rw[az];simp only[c0]at h1⊢;have ez:zF=[.nl,B_ false,A_ 0,.nl,.nl]:=rfl;by_cases k1:b.length-a<=7
  .by_cases k2:1∈b.drop a
   .rw[aa (λh=>h.2 k2)];rw[decide_eq_true k2]at hC;refine⟨(a,0),?_⟩;generalize ai (b.drop a)=D at *;generalize ai b=B at *;generalize ai w=W at *;simp(maxSteps:=300000) (disch:=omega)[↓ac,↓aa,-br,II,P0,FD,h1,hC,hS,hbl]
   .rw[ac ⟨k1,k2⟩];rw[decide_eq_false k2]at hC;refine⟨(a,0),?_⟩;generalize ai (b.drop a)=D at *;generalize ai b=B at *;generalize ai w=W at *;simp(maxSteps:=300000) (disch:=omega)[↓ac,↓aa,-br,II,P0,FD,h1,hC,hS,hbl]
  .rw[aa (λh=>k1 h.1)];refine⟨(a,0),?_⟩;generalize ai (b.drop a)=D at *;generalize ai b=B at *;generalize ai w=W at *;simp(maxSteps:=300000) (disch:=omega)[↓ac,↓aa,-br,II,P0,FD,h1,hC,hS,hbl]
def aur:ab9.Fit:=⟨k_,k_,k_,k_,s_⟩
abbrev qI:=@Int.tdiv_eq_ediv_of_nonneg
def ayK {x k:Nat}(hk:k<8):x / 2 ^ (8-k)*2 ^ (8-k)+x / 2 ^ (7-k) % 2*2 ^ (7-k)=x / 2 ^ (7-k)*2 ^ (7-k):=by
 have e:8-k=(7-k)+1:=o_;rw[e,dg,<-Nat.div_div_eq_div_mul,<-zH,Nat.mul_right_comm,<-di]
 congr 1
 have:=px (x / 2 ^ (7-k)) 2;omega
def aCv {x k:Nat}(hk:k<8):(x / 2 ^ (8-k)*2 ^ (8-k)) |||(x / 2 ^ (7-k) % 2*2 ^ (7-k))=x / 2 ^ (7-k)*2 ^ (7-k):=by
 rw[<-ayK hk,eq (x / 2 ^ (8-k)),ki];have e:8-k=(7-k)+1:=o_;rw[e,dg];have h2:0<2 ^ (7-k):=bT _;have:x / 2 ^ (7-k) % 2<2:=eg _ o_;have:x / 2 ^ (7-k) % 2=0∨x / 2 ^ (7-k) % 2=1:=o_;rcases this with h|h<;>rw[h]<;>omega
def avO {x k:Nat}(h:x<=255):x / 2 ^ k*2 ^ k<=255:=aO (Nat.div_mul_le_self _ _) h
def ajv {x:Nat}:∀{n k:Nat},k<n->(ar x n)[k]?=some (x / 2 ^ (n-1-k) % 2)
 |n+1,0,_=>by rw[ar];simp
 |n+1,k+1,h=>by rw[ar,mH,ajv o_];congr 4;omega
def oH {l:C_}{i x:Nat}(h:l[i]?=some x):(ai l)[i]?=some [.int .u8 (x:Int)]:=by rw[ai,b7,h];rfl
def arD (w a:C_)(hw:w.length<=16777216)(n:Nat)(i j k p x q:Nat)(hi:i=8*j+k)(hk:k<8)(hwi:w[i]?=some x)(hx:x<=1)(ha:a[j]?=some p)(hp:p<=255)(hq:p |||x*2 ^ (7-k)=q)(hq2:q<=255)(hn:a.length=n)(N:Nat) :
  (Dn prog).code (.loop j0) ⟨[(4,.sl 0 0 n),(15,.d (.lst (ai w))),(16,A_ w.length),(17,A_ i)],⟨[(0,.arr 1 (ai a))],N⟩⟩ =
  (Dn prog).code (.loop j0) ⟨[(4,.sl 0 0 n),(15,.d (.lst (ai w))),(16,A_ w.length),(17,A_ ((i+1:Nat):Int))],⟨[(0,.arr 1 (ai (a.set j q)))],N⟩⟩:=by
 have hil:i<w.length:=(aJ.1 hwi).1;have hjn:j<n:=hn▸(aJ.1 ha).1;have g1:=oH hwi;have g2:=oH ha;have t1:(i:Int).tdiv 8=(j:Int):=by rw[qI o_];omega
 have t2:(i:Int).tmod 8=(k:Int):=by rw[kC o_];omega
 have hpw:2 ^ (7-k)<=2 ^ 7:=aw o_ o_;have hxm:x*2 ^ (7-k)<=128:=aO (qV hx hpw) o_;have sh:fk .shl (.d (.int .u8 (x:Int))) (A_ (7-(k:Int)))=some (.int .u8 ((x*2 ^ (7-k):Nat):Int)):=by
  have e:min (7-(k:Int)).toNat IntKind.u8.bits=7-k:=by show min _ 8=_;omega
  rw[sP o_,e];have:((x:Int)*((2 ^ (7-k):Nat):Int))=((x*2 ^ (7-k):Nat):Int):=(v6 _ _).symm;rw[this];have:∀z:Nat,z<=128->wr .u8 (z:Int)=z:=λz h=>by simp(disch:=omega)
  rw[this _ hxm]
 have tn:km .u8=256:=rfl;have or':=anF (k:=.u8) (a:=p) (b:=x*2 ^ (7-k)) o_ o_ (by rw[hq];omega);rw[hq]at or';have c1:((i+1:Nat):Int)=(i:Int)+1:=rfl;have hx2:¬(x:Int) > 1:=o_;rw[ah N4,c1];generalize x*2 ^ (7-k)=z at *;generalize hA:ai a=A at *;have hs:A.set j [.int .u8 (q:Int)]=ai (a.set j q):=by rw[<-hA,auG]
 clear hn ha;generalize ai w=W at *;simp(maxSteps:=300000) (disch:=omega)[↓ac,↓aa,g1,g2,t1,t2,sh,or',hs,-sP]
def aqc (w:C_)(hw:w.length<=16777216)(n j x:Nat)(hx:x<=255)(A Z:C_)(hA:A.length=j)(hn:A.length+1+Z.length=n)(hb:∀k,k<8->w[8*j+k]?=some (x / 2 ^ (7-k) % 2))(N:Nat):∀(c k:Nat),k+c=8->
  (Dn prog).code (.loop j0) ⟨[(4,.sl 0 0 n),(15,.d (.lst (ai w))),(16,A_ w.length),(17,A_ ((8*j+k:Nat):Int))],⟨[(0,.arr 1 (ai (A++x / 2 ^ (8-k)*2 ^ (8-k)::Z)))],N⟩⟩ =
  (Dn prog).code (.loop j0) ⟨[(4,.sl 0 0 n),(15,.d (.lst (ai w))),(16,A_ w.length),(17,A_ ((8*j+8:Nat):Int))],⟨[(0,.arr 1 (ai (A++x::Z)))],N⟩⟩:=by
 intro c
 induction c with
 |zero =>
  intro k hk;obtain rfl:k=8:=o_;simp
 |succ c ih =>
  intro k hk;rw[arD w _ hw n (8*j+k) j k _ _ (x / 2 ^ (8-(k+1))*2 ^ (8-(k+1))) rfl o_ (hb k o_) (by have:=eg (x / 2 ^ (7-k)) (y:=2) o_;omega) (by rw[<-hA];simp;rfl) (avO hx) (by rw[aCv o_,show 8-(k+1)=7-k by omega]) (avO hx) g_ N];rw[<-hA,UL,hA];exact ih (k+1) (by omega)
def atA (w:C_)(hw:w.length<=16777216)(n N:Nat):∀(r A:C_),w=bY A++bY r->(∀x∈r,x<=255)->A.length+r.length=n->
  (Dn prog).code (.loop j0) ⟨[(4,.sl 0 0 n),(15,.d (.lst (ai w))),(16,A_ w.length),(17,A_ ((8*A.length:Nat):Int))],⟨[(0,.arr 1 (ai (A++List.replicate r.length 0)))],N⟩⟩ =
  some (.exit 0,⟨[(4,.sl 0 0 n)],⟨[(0,.arr 1 (ai (A++r)))],N⟩⟩):=by
 intro r
 induction r with
 |nil =>
  intro A hA hr hn;have hl:w.length=8*A.length:=by rw[hA,aj,fG];simp[bY]
  rw[ah N4,<-hl];simp(maxSteps:=300000) (disch:=omega)[↓ac,↓aa]
 |cons x r ih =>
  intro A hA hr hn;have h0:x / 2 ^ (8-0)*2 ^ (8-0)=0:=by
   have:=hr x (.head _);have:x / 256=0:=o_;show x / 256*256=0;rw[this]
  have hb:∀k,k<8->w[8*A.length+k]?=some (x / 2 ^ (7-k) % 2):=λk hk=>by
   have e:bY (x::r)=ar x 8++bY r:=rfl;rw[hA,e,bW (by rw[fG];omega),fG,fY,cw (by rw[df];exact hk),ajv hk]
  have h1:=aqc w hw n A.length x (hr x (.head _)) A (List.replicate r.length 0) rfl (by simp at hn⊢;omega) hb N 8 0 rfl;rw[h0]at h1;have h2:=ih (A++[x]) (by rw[hA];simp[bY]) (λy hy=>hr y (.tail _ hy)) (by simp at hn⊢;omega);rw[aq,cL];have e1:8*A.length+8=8*(A++[x]).length:=by simp;omega
  rw[e1]at h1;simp only[aA,cu]at h2;rw[<-h2,<-h1];rfl
def adU (l:C_)(hl:8*l.length<=16777216)(hl2:∀n∈l,n<=255):bj prog WG [.d (.lst (ai (bY l)))]=some (.tup [.own true 1 (ai l),A_ 0]):=by
 have hu:=fG (l:=l);have hbu:=bD (l:=bY l);have hk:=Ek (z:=[.int .u8 0]) (n:=l.length) o_;have e:List.replicate l.length [D.int .u8 0]=ai (List.replicate l.length 0):=by simp[ai]
 rw[e]at hk;have ha:=atA (bY l) o_ l.length 1 l [] (by simp[bY]) hl2 s_;have t1:(8*(l.length:Int)+7).tdiv 8=(l.length:Int):=by rw[qI o_];omega
 have c0:((8*([]:C_).length:Nat):Int)=0:=rfl;have c8:((8*l.length:Nat):Int)=8*(l.length:Int):=s_;have hz:(ai (List.replicate l.length 0)).length=l.length:=by rw[bD,bm]
 have ht:List.take l.length (ai l)=ai l:=cg (by rw[bD];omega);have hbl:=bD (l:=l);rw[c0,hu,c8]at ha;rw[hu]at hbu;simp only[aK]at ha;rw[aE alL aj6 rfl];generalize ai (bY l)=W at *;generalize ai (List.replicate l.length 0)=Z at *;generalize ai l=B at *;simp(maxSteps:=300000) (disch:=omega)[↓ac,↓aa,hk,ha,t1,hbu,hbl,hz,ht]
def OJ (b:C_)(r:Nat)(n:Int):R fe:=(aow b r n).bind λf m=>if b.length-m<=7∧1∉b.drop m then .ok f m else .er 7
abbrev fe.ow (f:fe):D_:=[share (aG 9 (dP f.chans)),B_ f.common,A_ f.mask,share (aG 1 (dw f.bands)),share (aG 1 (ai f.fill))]
def TP {α β γ:Type}{x:R α}{f:α->Nat->R β}{g:β->Nat->R γ}:(x.bind f).bind g=x.bind λv n=>(f v n).bind g:=by cases x<;>rfl
abbrev awn:VC:=(.seq yb (.seq yL (.seq yI (.block 1 (.seq (.loop fN) (K [104,105]))))))
abbrev aad:VC:=(.seq (.seq uU (K [41])) (.seq Ay (.seq Ap (.seq (.seq sH (.cond (.m 49) tI .skip)) (.seq (.seq me (.cond (.m 62) (acl awn) .skip)) (.seq WI Px))))))
def Uj (b:C_)(C:D_)(x:R fe):Prop :=
 match x with
 |.ok f m=>∃s N,(Dn prog).code aad ⟨[(2,.ptr 0 0),(4,.ptr 1 0),(6,.ptr 2 0)],⟨hp3 C zF (cU b (0,0)),3⟩⟩=some (.ret,⟨[(4,.ptr 1 0),(5,A_ 0)],⟨[(1,.cells f.ow),(2,.cells (cU b s))],N⟩⟩)
 |.er e=>∃s N,(Dn prog).code aad ⟨[(2,.ptr 0 0),(4,.ptr 1 0),(6,.ptr 2 0)],⟨hp3 C zF (cU b (0,0)),3⟩⟩=some (.ret,⟨[(4,.ptr 1 0),(5,A_ ((e+1:Nat):Int))],⟨[(1,.cells zF),(2,.cells (cU b s))],N⟩⟩)
section
variable (b:C_)(hb:b.length<=1000000000)(r:Nat)(hr:r<=11)
include hb hr
theorem aeu (n:Nat)(hn:n=1∨n=2)(q:Bool)(i:aN)(hi:i.Fit)(I iv:D_)(hI:apo q i I iv)(c2 c3:AV)(k:Int)(t:S_)(a:Nat)(ha:a<=b.length)(N:Nat)(hN:4<=N) :
  match (tk b r q i n a).bind λcs m=>(CL b m).bind λfl m=>if b.length-m<=7∧1∉b.drop m then R.ok (⟨cs,q,k,t,fl⟩:fe) m else .er 7 with
  |.ok f m=>∃s M,(Dn prog).code (.seq WI Px) ⟨Ko,⟨fX [A_ r,A_ n,c2,c3] [.nl,B_ q,A_ k,aG 1 (dw t),.nl] I [] (cU b (a,0)),N⟩⟩=some (.ret,⟨[(4,.ptr 1 0),(5,A_ 0)],⟨[(1,.cells f.ow),(2,.cells (cU b s))],M⟩⟩)
  |.er e=>∃s M,(Dn prog).code (.seq WI Px) ⟨Ko,⟨fX [A_ r,A_ n,c2,c3] [.nl,B_ q,A_ k,aG 1 (dw t),.nl] I [] (cU b (a,0)),N⟩⟩=some (.ret,⟨[(4,.ptr 1 0),(5,A_ ((e+1:Nat):Int))],⟨[(1,.cells zF),(2,.cells (cU b s))],M⟩⟩):=by
 have e0:aG 9 (dP [])=.nl:=rfl;have h:=aoS b hb r hr q i hi I iv hI (A_ n) c2 c3 (A_ k) (aG 1 (dw t)) .nl n o_ n 0 a [] N o_ rfl ha hN;rw[e0]at h
 cases e:tk b r q i n a with
 |er e1 =>
  rw[e]at h;obtain⟨s,M,h1,h2⟩:=h;rw[cB];refine⟨s,M,?_⟩;rw[ajT [] _ _ _ _ _ _ _ _ _ _ _ h2,<-h1]
 |ok cs m =>
  rw[e]at h;obtain⟨hm,M,h1,h2⟩:=h;rw[az];have h5:=ay8 b hb (dP ([]++cs)) (dw t) q k m hm M
  cases e2:CL b m with
  |er e3 =>
   rw[e2,cB]at h5;obtain⟨s,h5⟩:=h5;rw[cB];exact⟨s,M,by rw[adj [] _ _ _ _ _ _ _ _ _ _ _ _ h2,h5]⟩
  |ok fl p =>
   rw[e2,az]at h5;rw[az];by_cases hc:b.length-p<=7∧1∉b.drop p
   .rw[ac hc]at h5⊢;obtain⟨s,h5⟩:=h5;exact⟨s,M,by rw[adj [] _ _ _ _ _ _ _ _ _ _ _ _ h2,h5];rfl⟩
   .rw[aa hc]at h5⊢;obtain⟨s,h5⟩:=h5;exact⟨s,M,by rw[adj [] _ _ _ _ _ _ _ _ _ _ _ _ h2,h5]⟩
theorem KC (n:Nat)(hn:n=1∨n=2)(I:D_)(f0 f1 f2 f3 f4:AV)(c0 c2 c3:AV)(s:Nat×Nat)(hs:s.2≠0)(N:Nat) :
  (Dn prog).code (.seq WI Px) ⟨Ko,⟨fX [c0,A_ n,c2,c3] [f0,f1,f2,f3,f4] I [] (cU b s),N⟩⟩=aim b s N :=
 ajT [] _ _ _ _ _ _ _ _ _ _ _ (ajq b _ _ _ _ _ _ _ s hs n 0 o_ N) _
theorem aqr (n:Nat)(hn:n=1∨n=2)(c2 c3:AV)(hd:(Z9 b n).2≠0)(e:Nat)(he:(Z9 b n).2=e+1):Uj b [A_ r,A_ n,c2,c3] (.er e):=by
 refine⟨Z9 b n,4,?_⟩;rw[amd b hb (A_ r) c2 c3 n o_];have hs:=aAx b hb (n:=(n:Int));generalize Z9 b n=s at *;rw[<-he];rcases hn with rfl|rfl
 .rw[show((1:Nat):Int)=1 from rfl,ai2 b hb,show(zF:D_)=[.nl,B_ false,A_ 0,.nl,.nl] from rfl,PK _ _ _ _ (.inl rfl)];exact KC b hb r hr 1 (.inl rfl) _ _ _ _ _ _ _ _ _ s hd 4
 .rw[show((2:Nat):Int)=2 from rfl,aiU b hb _ _ _ s hs,vR hd,PK _ _ _ _ (.inr hd)];exact KC b hb r hr 2 (.inr rfl) _ _ _ _ _ _ _ _ _ s hd 4
theorem am1 (n:Nat)(hn:n=1∨n=2)(c2 c3:AV)(a:Nat)(ha:a<=b.length)(x:R fe)
  (hx:x=(tk b r false ab9 n a).bind λcs m=>(CL b m).bind λfl m=>if b.length-m<=7∧1∉b.drop m then R.ok (⟨cs,false,0,[],fl⟩:fe) m else .er 7)
  (h:(Dn prog).code aad ⟨[(2,.ptr 0 0),(4,.ptr 1 0),(6,.ptr 2 0)],⟨hp3 [A_ r,A_ n,c2,c3] zF (cU b (0,0)),3⟩⟩=(Dn prog).code (.seq (.seq me (.cond (.m 62) (acl awn) .skip)) (.seq WI Px)) ⟨Ko,⟨fX [A_ r,A_ n,c2,c3] [.nl,B_ false,A_ 0,.nl,.nl] zI [] (cU b (a,0)),4⟩⟩):Uj b [A_ r,A_ n,c2,c3] x:=by
 rw[PK _ _ _ _ (.inl rfl)]at h;have ht:=aeu b hb r hr n hn false ab9 aur zI zI (.inr ⟨rfl,rfl,rfl⟩) c2 c3 0 [] a ha 4 o_;rw[<-hx,show aG 1 (dw [])=.nl from rfl]at ht;unfold Uj;rw[h];exact ht
theorem aqo (n:Nat)(hn:n=1∨n=2)(c2 c3:AV):Uj b [A_ r,A_ n,c2,c3] (OJ b r n):=by
 have hP1:=λT=>amd b hb (A_ r) c2 c3 n o_ T
 have hdead:=aqr b hb r hr n hn c2 c3;have hs2:Z9 b n=kT (gT b (Nj b n) 4).2 (((gT b (Nj b n) 4).1:Int)=0):=rfl;have hs1:Nj b n=kT (gT b (0,0) 3).2 (((gT b (0,0) 3).1:Int)=n-1):=rfl;unfold OJ aow
 cases e1:bf b (0:Nat) 3 with
 |er e =>
  rw[Ar e1,lQ (bx _)]at hs1;rw[hs1,vR (bx _),lQ (bx _)]at hs2;rw[cB,cB];exact hdead (by rw[hs2];exact bx _) e (by rw[hs2])
 |ok x m =>
 rw[az];by_cases hx:(x:Int)≠n-1
 .rw[pt e1,PJ hx]at hs1;rw[hs1,vR s_,lQ s_]at hs2;rw[ac hx,cB];exact hdead (by rw[hs2];simp) 7 (by rw[hs2])
 rw[aa hx];rw[pt e1,Lg (Classical.not_not.1 hx)]at hs1
 cases e2:bf b m 4 with
 |er e =>
  rw[hs1,Ar e2,lQ (bx _)]at hs2;rw[cB,cB];exact hdead (by rw[hs2];exact bx _) e (by rw[hs2])
 |ok y a =>
 rw[az];by_cases hy:y≠0
 .rw[hs1,pt e2,PJ t_]at hs2;rw[ac hy,cB];exact hdead (by rw[hs2];simp) 7 (by rw[hs2])
 rw[aa hy];rw[hs1,pt e2,Lg t_]at hs2;simp only at hs2;have ha:a<=b.length:=(eC e2).2;rw[hs2]at hP1;clear hs1 hs2 hdead e1 e2 hx hy;rcases hn with rfl|rfl
 .refine am1 b hb r hr 1 (.inl rfl) c2 c3 a ha _ ?_ ((hP1 _).trans (ai2 b hb _ _ _ _ _));rw[aa o_,az];simp only[Po];rw[show decide ((0:Nat)=1)=false from rfl,aa s_,az];simp only[TP,az];rfl
 .have hP:=λT=>(hP1 _).trans (aiU b hb (A_ r) c2 c3 (a,0) ha T)
  clear hP1;rw[ac o_]
  cases e3:bf b a 1 with
  |er e =>
   rw[Ar e3]at hP;rw[cB,cB];refine⟨(a,e+1),4,?_⟩;refine(hP _).trans ?_;rw[PK _ _ _ _ (.inr (bx _))];exact KC b hb r hr 2 (.inr rfl) _ _ _ _ _ _ _ _ _ _ (bx _) 4
  |ok x m =>
  have hm:m<=b.length:=(eC e3).2;rw[pt e3]at hP;rw[az];simp only at hP;by_cases hx:x=1
  rotate_left
  .rw[decide_eq_false hx]at hP⊢;refine am1 b hb r hr 2 (.inr rfl) c2 c3 m hm _ ?_ (hP _);simp only[Po];rw[aa s_,az];simp only[TP,az];rfl
  rw[decide_eq_true hx]at hP⊢;simp only[Po];rw[ac trivial]
  cases e4:nj b m r with
  |er e =>
   rw[cB,cB,cB];exact⟨(0,e+1),4,(hP _).trans (atS b hb r hr _ c2 c3 m e hm e4 _ _)⟩
  |ok i m2 =>
  have p:=SH hr e4;have hi:i.Fit:=al1 hr p.1 p.2.2;have hmx:=jW (gy hr p.1);have him:((i.max.toNat:Nat):Int)=i.max:=o_;have hgl:=hi.len;rw[az];have hs5:(kT (gT b (m2,0) 2).2 (((gT b (m2,0) 2).1:Int)<3)).1<=b.length:=Id (rV p.2.1);obtain⟨w,s6,M,hM,h6,hw,hd,hL⟩:=aq9 b hb [A_ r,A_ 2,c2,c3] .nl (B_ true) .nl (.d (.int .u8 i.seq)) (.d (.int .u8 i.shape)) (.own false 1 (aH i.groups)) i.max.toNat o_ i.groups.length hgl (gT b (m2,0) 2).1 (kT (gT b (m2,0) 2).2 (((gT b (m2,0) 2).1:Int)<3)) hs5 4 o_;rw[him]at hL;have hrun:=(hP _).trans (aun b hb r hr _ c2 c3 m hm i m2 e4 w s6 M hL (.seq WI Px));have dead:∀e,s6.2=e+1->Uj b [A_ r,A_ 2,c2,c3] (.er e):=λe he=>by
   refine⟨s6,M,hrun.trans ?_⟩;rw[<-he];exact KC b hb r hr 2 (.inr rfl) _ _ _ _ _ _ _ _ _ _ o_ M
  cases e5:bf b m2 2 with
  |er e =>
   rw[Ar e5,lQ (bx _)]at hd;rw[cB,cB,cB];exact dead e (by rw[hd (bx _)])
  |ok k m3 =>
  rw[az];by_cases hk:¬k<3
  .rw[pt e5,PJ t_]at hd;rw[ac hk,cB,cB];exact dead 7 (by rw[hd s_])
  rw[aa hk];rw[pt e5]at hw hrun;rw[Lg t_]at hw;have hw:=hw rfl;simp only at hw hrun
  cases e6:(if k=1 then xp b i.max.toNat i.groups.length m3 else R.ok [] m3) with
  |er e =>
   rw[e6]at hw;rw[cB,cB,cB];exact dead e hw
  |ok t m4 =>
   rw[e6]at hw;obtain⟨rfl,rfl⟩:=hw;have ht:=aeu b hb r hr 2 (.inr rfl) true i hi _ i.cells (.inl ⟨rfl,rfl⟩) c2 c3 k w m4 h6 M hM;rw[az,az];simp only[TP,az];unfold Uj;rw[show((2:Nat):Int)=2 from rfl]at ht⊢;have hrun:(Dn prog).code aad ⟨[(2,.ptr 0 0),(4,.ptr 1 0),(6,.ptr 2 0)],⟨hp3 [A_ r,A_ 2,c2,c3] zF (cU b (0,0)),3⟩⟩=_:=hrun;rw[hrun];exact ht
end
def auu {h:am}{a b c:E_}{x:Bool}{y e:Int}:ig h (.tup [.agg [share (aG 9 a),B_ x,A_ y,share (aG 1 b),share (aG 1 c)],A_ e])=some (.tup [.agg [share (aG 9 a),B_ x,A_ y,share (aG 1 b),share (aG 1 c)],A_ e]):=by
 cases a<;>cases b<;>cases c<;>rfl
def at5 (rt n:Int)(cb:Bool)(cz:Int)(X:AV)(l:C_)(hX:dZ X (ai l))(hl:l.length<=100000)(hl2:∀x∈l,x<=255) :
  (pw rt n∧(l.length:Int)<=192*n∧bj prog OZ [mp rt n cb cz,X]=match OJ (bY l) rt.toNat n with
   |.ok f m=>some (.tup [.agg f.ow,A_ 0])
   |.er e=>some (.tup [.agg zF,A_ ((e+1:Nat):Int)]))∨
  (¬(pw rt n∧(l.length:Int)<=192*n)∧∃e:Int,e≠0∧bj prog OZ [mp rt n cb cz,X]=some (.tup [.agg zF,A_ e])):=by
 obtain⟨⟨x1,x2,x3⟩,x4,x5⟩:=hX.facts;obtain⟨vx,ux⟩:=hX.view;have hbl:=bD (l:=l);rw[hbl]at x5;have hcf:=aaO rt n cb cz;simp only[mp]at hcf⊢;rw[aE aon apx rfl];rcases hcf with ⟨hc,ec⟩|⟨hc,ec⟩
 rotate_left
 .refine .inr ⟨λh=>hc h.1,2,k_,?_⟩;simp(maxSteps:=300000) (disch:=omega)[↓ac,↓aa,-br,x1,x2,x3,x4,x5,ec]
 by_cases hn:(l.length:Int)<=192*n
 rotate_left
 .refine .inr ⟨λh=>hn h.2,3,k_,?_⟩;have:=hc.2;simp(maxSteps:=300000) (disch:=omega)[↓ac,↓aa,-br,x1,x2,x3,x4,x5,ec]
 refine .inl ⟨hc,hn,?_⟩;obtain⟨R,rfl⟩:=aB hc.1.1;obtain⟨k,rfl⟩:=aB (show 0<=n by have:=hc.2;omega);have hR:R<=11:=by have:=hc.1.2;omega
 have hk:k=1∨k=2:=by have:=hc.2;omega
 have hu:=FJ l hl hl2 X hX;have ul:=fG (l:=l);have hM:=aqo (bY l) o_ R hR k hk (B_ cb) (A_ cz);rw[au];have c0:((0:Nat):Int)=0:=rfl;obtain⟨T,hT⟩:∃T,T=aad:=⟨_,rfl⟩
 cases hG:OJ (bY l) R k with
 |ok f m =>
  rw[hG]at hM;obtain⟨s,N,hM⟩:=hM;simp only[hp3,cU,c0,<-hT]at hM⊢;generalize ai (bY l)=B at *;simp only[fe.ow]at hM⊢;generalize dP f.chans=A1 at *;generalize dw f.bands=A2 at *;generalize ai f.fill=A3 at *;simp(maxSteps:=300000) (disch:=omega)[↓ac,↓aa,-br,x1,x2,x3,x4,x5,vx,ux,ec,hu,hM,↓auu]
 |er e =>
  rw[hG]at hM;obtain⟨s,N,hM⟩:=hM;simp only[hp3,cU,c0,<-hT]at hM⊢;generalize ai (bY l)=B at *;simp(maxSteps:=300000) (disch:=omega)[↓ac,↓aa,-br,x1,x2,x3,x4,x5,vx,ux,ec,hu,hM]
def da {a b:C_}(ha:bin a)(hb:bin b):bin (a++b):=λx hx=>(be.1 hx).elim (ha x) (hb x)
def lO:bin []:=λx hx=>absurd hx (by simp)
def uZ {α:Type}{f:α->C_}{l:List α}(h:∀x,bin (f x)):bin (l.flatMap f):=λx hx=>by
 obtain⟨y,_,hy⟩:=kz.1 hx;exact h y x hy
def nG {c:Prop}[Decidable c]{a b:C_}(ha:bin a)(hb:bin b):bin (if c then a else b):=by split<;>assumption
def awk {g:G_}:∀{k w:Nat},bin (J5 g k w)
 |0,_=>lO
 |k+1,w=>da (nG dx dx) awk
def alX {i:aN}:bin (ln i):=da dx (da dx (da dx (nG (da dx awk) (da dx dx))))
def Ut {i e:Nat}:bin (kf i e):=da dx dx
def axw {i:aN}{g:H_}:bin (OY i g):=uZ λl=>uZ λs=>da dx (uZ λn=>dx)
def ash:∀{l t:G_}{w z:Int},bin (qk l t w z)
 |k::r,n::t,w,z=>da (nG lO (nG (nG dx Ut) Ut)) ash
 |[],_,_,_=>lO
 |_::_,[],_,_=>lO
def al2:∀{l:H_}{t:J_}{w z:Int},bin (oy l t w z)
 |l::r,t::s,w,z=>by
  rw[oy];refine da ash ?_;split
  .exact al2
  .exact lO
 |[],_,_,_=>lO
 |_::_,[],_,_=>lO
def aAB {sh:Bool}{l:AA_}:bin (zu sh l):=by
 refine da dx ?_
 cases l with
 |nil=>exact lO
 |cons f r=>exact da dx (uZ λf=>da dx (da dx (nG lO (da dx (da dx (uZ λc=>dx))))))
def awX {i:Nat}{v:G_}:bin (Aj i v):=by
 refine nG Ut (da Ut (da (uZ λv=>nG lO (nG ?_ ?_)) (uZ λv=>nG (da ?_ ?_) lO)))
 .intro x hx;simp at hx;omega
 .intro x hx;simp at hx;omega
 .intro x hx;rw[dc hx];omega
 .intro x hx;rcases ay.1 hx with h|h
  .omega
  .exact dx x h
def azt {r:Nat}{c:cK}{q:Bool}:bin (Dq r c q):=by
 refine da dx (da (nG lO alX) (da axw (da al2 (da (nG ?_ ?_) (uZ λp=>awX)))))
 .intro x hx;simp only[ay,be,cq,ee]at hx;rcases hx with h|h|h|h
  .omega
  .omega
  .exact(uZ λl=>aAB:bin (jx c.info.short c.tns)) x h
  .omega
 .intro x hx;simp at hx;omega
def acB {l:C_}:bin (bY l):=uZ λn=>dx
def axF {l:U_}:bin (t8 l):=uZ λn=>dx
def aD0 {R:Nat}{n:Int}{f:fe}:bin (mU R n f):=by
 refine da (da (da (da (nG (da dx dx) (nG (da (da (da (da (da dx dx) dx) ?_) dx) axF) (da (da dx dx) dx))) (uZ λc=>azt)) (nG lO (da dx (da dx (da (nG dx lO) acB))))) dx) ?_
 .unfold US;split
  .exact lO
  .exact alX
 .intro x hx;rw[dc hx];omega
def aAg {n:Nat}:(n+L3 n) % 8=0:=by unfold L3;omega
def aDI {R:Nat}{n:Int}{f:fe}:(mU R n f).length % 8=0:=by
 rw[mU,xR,aj,bm];exact aAg
def XD:∀(k:Nat) {b:C_},b.length=8*k->bin b->∃l:C_,b=bY l∧∀x∈l,x<=255
 |0,b,h,_=>⟨[],by rw[ax h];rfl,s_⟩
 |k+1,b,h,hb=>by
  obtain⟨l,h1,h2⟩:=XD k (b:=b.drop 8) (by rw[cM];omega) (λx hx=>hb x (bJ hx));have hl:(b.take 8).length=8:=by rw[b6];omega
  have ht:bin (b.take 8):=λx hx=>hb x (dl hx)
  have hp:=UB (n:=0) ht;have hv:=Jj (n:=0) (i:=0) ht o_;rw[hl]at hp hv;refine⟨val (b.take 8) 0::l,?_,λx hx=>?_⟩
  .show b=ar _ 8++bY l;rw[hp,<-h1,aU]
  .rcases ay.1 hx with rfl|hx
   .simp at hv;omega
   .exact h2 x hx
def asl (rt n:Int)(cb:Bool)(cz:Int)(f:fe)(hf:f.Fit)(X Y Z:AV)(hX:dZ X (dP f.chans))(hY:dZ Y (dw f.bands))(hZ:dZ Z (ai f.fill)) :
  (pw rt n∧uJ rt.toNat n f∧((mU rt.toNat n f).length:Int)<=1536*n∧∀l:C_,mU rt.toNat n f=bY l->(∀x∈l,x<=255)->bj prog MA [mp rt n cb cz,qR f X Y Z]=some (.tup [.own true 1 (ai l),A_ 0]))∨
  (¬(pw rt n∧uJ rt.toNat n f∧((mU rt.toNat n f).length:Int)<=1536*n)∧∃e:Int,e≠0∧bj prog zN [mp rt n cb cz,qR f X Y Z]=some (A_ e)∧bj prog MA [mp rt n cb cz,qR f X Y Z]=some (.tup [.nl,A_ e])):=by
 have hC:=ad0 rt n cb cz f hf X Y Z hX hY hZ;obtain⟨⟨x1,x2,x3⟩,x4,x5⟩:=hX.facts;obtain⟨⟨y1,y2,y3⟩,y4,y5⟩:=hY.facts;obtain⟨⟨z1,z2,z3⟩,z4,z5⟩:=hZ.facts;obtain⟨⟨vx,ux⟩,wx⟩:=hX.one;obtain⟨⟨vy,uy⟩,wy⟩:=hY.one;obtain⟨⟨vz,uz⟩,wz⟩:=hZ.one;rcases hC with ⟨h1,h2,h3,hC⟩|⟨h1,e,he,hC⟩
 rotate_left
 .refine .inr ⟨h1,e,he,hC,?_⟩;simp only[mp,qR]at hC⊢;rw[aE VP VS rfl];simp(maxSteps:=300000) (disch:=omega)[↓ac,↓aa,-br,x1,x2,x3,x4,y1,y2,y3,y4,z1,z2,z3,z4,ux,uy,uz,vx,vy,vz,wx,wy,wz,hC,he]
 refine .inl ⟨h1,h2,h3,λl hw hl=>?_⟩;obtain⟨R,rfl⟩:=aB h1.1.1;simp only[au]at h2 h3 hw;have hR:R<=11:=by have:=h1.1.2;omega
 have hW:=WT R hR n h1.2 cb cz f hf h2 X Y Z hX hY hZ;have hn:=h1.2;rw[hw]at hW h3;rw[fG]at h3;have hP:=adU l o_ hl;simp only[mp,qR]at hC hW⊢;generalize ai (bY l)=B at *;rw[aE VP VS rfl];simp(maxSteps:=300000) (disch:=omega)[↓ac,↓aa,-br,x1,x2,x3,x4,y1,y2,y3,y4,z1,z2,z3,z4,ux,uy,uz,vx,vy,vz,wx,wy,wz,hC,hW,hP]
abbrev Zr (f:fe)(X Y Z:AV):D_:=[X,B_ f.common,A_ f.mask,Y,Z]
abbrev QD (f:fe)(X Y Z X' Y' Z':AV)(N:Nat):HS:=⟨[(0,.cells (Zr f X Y Z)),(1,.cells (Zr f X' Y' Z'))],N⟩
def axY (f:fe)(hf:f.Fit)(X Y Z X' Y' Z':AV)(hX:dZ X (dP f.chans))(hX':dZ X' (dP f.chans))(N:Nat):∀(r:AH_) (i:Nat),f.chans.drop i=r->
  (Dn prog).code (.loop lG) ⟨[(2,.ptr 0 0),(3,.ptr 1 0),(5,A_ i)],QD f X Y Z X' Y' Z' N⟩=some (.exit 0,⟨[(2,.ptr 0 0),(3,.ptr 1 0)],QD f X Y Z X' Y' Z' N⟩):=by
 intro r;have hl:=EX (l:=f.chans);have hcl:=hf.chans.1
 induction r with
 |nil =>
  intro i hd;have hi:=aY hd;obtain⟨⟨x1,x2,x3⟩,x4,x5⟩:=hX.facts;rw[hl]at x5;simp only[QD,Zr];rw[ah za];simp(maxSteps:=300000) (disch:=omega)[↓ac,↓aa,x1,x2,x5]
 |cons c r ih =>
  intro i hd;have hlt:=bw hd;have hg:=AQ hd;have hne:dP f.chans≠[]:=λh=>by have:=aV List.length h;rw[hl,bg]at this;omega
  have hxe:=hX.ne hne;have hxe':=hX'.ne hne;subst hxe hxe';have hcf:=hf.chans.2 c (bJ (by rw[hd];exact .head _));have hS:=apv c hcf;have h5:=ih (i+1) (bt hd);have c1:((i+1:Nat):Int)=(i:Int)+1:=rfl;rw[c1]at h5;simp only[QD,Zr,cK.av]at h5 hS⊢;rw[ah za,<-h5];generalize dP f.chans=CC at *;simp(maxSteps:=300000) (disch:=omega)[↓ac,↓aa,-getElem?_pos,hg,hS,hl]
def ayl (f:fe)(hf:f.Fit)(X Z X' Z':AV)(N:Nat)(j:Nat)(l:U_)(q:S_)(hj:f.bands.drop j=l::q)(hl:l.length<=1000):∀(r:U_) (i:Nat),l.drop i=r->
  (Dn prog).code (.loop lm) ⟨[(2,.ptr 0 0),(3,.ptr 1 0),(6,A_ j),(7,A_ i)],QD f X (.d (.lst (dw f.bands))) Z X' (.d (.lst (dw f.bands))) Z' N⟩=some (.exit 4,⟨[(2,.ptr 0 0),(3,.ptr 1 0),(6,A_ j)],QD f X (.d (.lst (dw f.bands))) Z X' (.d (.lst (dw f.bands))) Z' N⟩):=by
 intro r;have hg1:=xy hj;have hll:=sS (l:=l);have hjl:=bw hj;have hbl:=hf.bands.1
 induction r with
 |nil =>
  intro i hd;have hi:=aY hd;simp only[QD,Zr];rw[ah yR];simp(maxSteps:=300000) (disch:=omega)[↓ac,↓aa,-getElem?_pos,hg1,hll]
 |cons c r ih =>
  intro i hd;have hlt:=bw hd;have hg:=amV hd;have h5:=ih (i+1) (bt hd);have c1:((i+1:Nat):Int)=(i:Int)+1:=rfl;rw[c1]at h5;simp only[QD,Zr]at h5⊢;rw[ah yR,<-h5];generalize dw f.bands=BB at *;generalize gS l=B at *;simp(maxSteps:=300000) (disch:=omega)[↓ac,↓aa,-getElem?_pos,hg1,hg,hll]
def axb (f:fe)(hf:f.Fit)(X Y Z X' Y' Z':AV)(hY:dZ Y (dw f.bands))(hY':dZ Y' (dw f.bands))(N:Nat):∀(r:S_) (j:Nat),f.bands.drop j=r->
  (Dn prog).code (.loop lB) ⟨[(2,.ptr 0 0),(3,.ptr 1 0),(6,A_ j)],QD f X Y Z X' Y' Z' N⟩=some (.exit 2,⟨[],⟨[],N⟩⟩):=by
 intro r;have hl:=Ke (t:=f.bands);have hbl:=hf.bands.1
 induction r with
 |nil =>
  intro i hd;have hi:=aY hd;obtain⟨⟨x1,x2,x3⟩,x4,x5⟩:=hY.facts;rw[hl]at x5;simp only[QD,Zr];rw[ah zg];simp(maxSteps:=300000) (disch:=omega)[↓ac,↓aa,x1,x2,x5]
 |cons c r ih =>
  intro i hd;have hlt:=bw hd;have hg:=xy hd;have hne:dw f.bands≠[]:=λh=>by have:=aV List.length h;rw[hl,bg]at this;omega
  have hxe:=hY.ne hne;have hxe':=hY'.ne hne;subst hxe hxe';have hcl:=hf.bands.2 c (bJ (by rw[hd];exact .head _));have hll:=sS (l:=c);have h1:=ayl f hf X Z X' Z' N i c r hd hcl c 0 rfl;have h5:=ih (i+1) (bt hd);have c1:((i+1:Nat):Int)=(i:Int)+1:=rfl;have c0:((0:Nat):Int)=0:=rfl;rw[c1]at h5;rw[c0]at h1;simp only[QD,Zr]at h1 h5⊢;rw[ah zg,<-h5];generalize dw f.bands=BB at *;generalize gS c=B at *;simp(maxSteps:=300000) (disch:=omega)[↓ac,↓aa,-getElem?_pos,hg,h1,hl]
def apn (f:fe)(hf:f.Fit)(X Y Z X' Y' Z':AV)(hX:dZ X (dP f.chans))(hY:dZ Y (dw f.bands))(hZ:dZ Z (ai f.fill))(hX':dZ X' (dP f.chans))(hY':dZ Y' (dw f.bands))(hZ':dZ Z' (ai f.fill)) :
  bj prog Co [qR f X Y Z,qR f X' Y' Z']=some (B_ true):=by
 have h0:=axY f hf X Y Z X' Y' Z' hX hX' 2 f.chans 0 rfl;have h2:=axb f hf X Y Z X' Y' Z' hY hY' 2 f.bands 0 rfl;obtain⟨⟨x1,x2,x3⟩,x4,x5⟩:=hX.facts;obtain⟨⟨y1,y2,y3⟩,y4,y5⟩:=hY.facts;obtain⟨⟨z1,z2,z3⟩,z4,z5⟩:=hZ.facts;obtain⟨⟨a1,a2,a3⟩,a4,a5⟩:=hX'.facts;obtain⟨⟨b1,b2,b3⟩,b4,b5⟩:=hY'.facts;obtain⟨⟨d1,d2,d3⟩,d4,d5⟩:=hZ'.facts;have ts:∀{W:AV},dZ W (ai f.fill)->∀h,Nc h W=some (.str (f.fill.map Nat.toUInt8)):=λ{W} hW h=>by
  rcases hW with rfl|⟨rfl,e⟩
  .exact Zq
  .have:f.fill=[]:=ax (by rw[<-bD (l:=f.fill),e];rfl);rw[this];rfl
 have t1:=ts hZ;have t2:=ts hZ';have c0:((0:Nat):Int)=0:=rfl;rw[c0]at h0 h2;simp only[QD,Zr,qR]at h0 h2⊢;rw[aE OE PT rfl];simp(maxSteps:=300000) (disch:=omega)[↓ac,↓aa,-br,x1,x2,x3,x4,x5,y1,y2,y3,y4,y5,z1,z2,z3,z4,z5,a1,a2,a3,a4,a5,b1,b2,b3,b4,b5,d1,d2,d3,d4,d5,t1,t2,h0,h2]
def ama {w:AV}{b:Bool}(e:iU w=B_ b):w=B_ b:=by
 unfold iU at e;split at e
 .cases w<;>simp[qD,qL,n9]at e⊢<;>exact e
 .exact e
def ave {h:am}{v:AV}{b:Bool}(e:ig h v=some (B_ b)):v=B_ b:=by
 unfold ig at e;split at e
 .split at e
  .simp only[ae]at e;exact absurd (ama e) (by simp)
  .simp at e
 .split at e
  .rename_i x q hq;simp only[ae]at e;have hx:=ama e;subst hx;unfold gg at hq;split at hq
   .split at hq<;>simp at hq
   .unfold jU at hq;split at hq
    .simp only[ae,aP]at hq;exact hq.1
    .simp at hq
    .simp at hq
    .split at hq
     .split at hq<;>simp at hq
     .simp at hq
    .simp at hq
  .simp at e
def aoA {P:Nat->Z_}{f:FuncId}{as:D_}{b:Bool}(h:bj P f as=some (B_ b)):∃m hs,(run P m).call f as ⟨[],0⟩=some (B_ b,hs):=by
 unfold bj at h
 cases hc:(Dn P).call f as ⟨[],0⟩ with
 |none=>rw[hc]at h;simp[uA]at h
 |some q =>
  obtain⟨v,hs⟩:=q;rw[hc]at h;have:=ave h;subst this;obtain⟨m,hm⟩:=Em hc;exact⟨m,hs,hm⟩
def avJ:∀{a b:W_},a.map AV.d=b.map AV.d->a=b
 |[],[],_=>rfl
 |[],_::_,h=>by simp at h
 |_::_,[],h=>by simp at h
 |x::a,y::b,h=>by
  simp only[ct,List.cons.injEq,AV.d.injEq]at h;rw[h.1,avJ h.2]
def agc:BG_:=[.int .i64,.int .i64,.bool,.int .i64]
def agw:BG_:=[.lst awu,.bool,.int .i64,.lst [.lst [.bool]],.lst [.int .u8]]
structure fe.Rng (f:fe):Prop where
 chans:∀c∈f.chans,c.Rng
 mask:i64 f.mask
 fill:∀n∈f.fill,n<=255
def azj {d:D}(h:sJ (.lst [.int .u8]) d):∃l:C_,d=.lst (ai l)∧∀n∈l,n<=255:=by
 obtain⟨xs,rfl,h⟩:=Je h;obtain⟨l,rfl,hl⟩:=Bu (f:=λn:Nat=>[.int .u8 (n:Int)]) (Q:=λn=>n<=255) (λx hx=>by
  obtain⟨d,rfl,hd⟩:=HD hx;obtain⟨n,rfl,hn⟩:=apj hd;exact⟨n,rfl,hn⟩) h
 exact⟨l,rfl,hl⟩
def aA5 {x:W_}(h:OkDs agw x):∃f:fe,x.map .d=f.av∧f.Rng:=by
 obtain⟨a1,r,rfl,h1,h⟩:=ta h;obtain⟨a2,r,rfl,h2,h⟩:=ta h;obtain⟨a3,r,rfl,h3,h⟩:=ta h;obtain⟨a4,r,rfl,h4,h⟩:=ta h;obtain⟨a5,rfl,h5⟩:=HD h;obtain⟨xs,rfl,h1⟩:=Je h1;obtain⟨l1,rfl,g1⟩:=Bu (f:=cK.cells) (Q:=cK.Rng) (λx hx=>by
  obtain⟨c,e,hc⟩:=aAN hx;exact⟨c,avJ e,hc⟩) h1
 obtain⟨b2,rfl⟩:=N6 h2;obtain⟨n3,rfl,g3⟩:=tA h3;obtain⟨xs,rfl,h4⟩:=Je h4;obtain⟨l4,rfl,g4⟩:=Bu (f:=λr:U_=>[.lst (gS r)]) (Q:=λ_=>True) (λx hx=>by
  obtain⟨d,rfl,hd⟩:=HD hx;obtain⟨ys,rfl,hd⟩:=Je hd;obtain⟨l,rfl,_⟩:=Bu (f:=λb:Bool=>[.bool b]) (Q:=λ_=>True) (λx hx=>by
   obtain⟨d,rfl,hd⟩:=HD hx;obtain⟨b,rfl⟩:=N6 hd;exact⟨b,rfl,trivial⟩) hd
  exact⟨l,rfl,trivial⟩) h4
 obtain⟨l5,rfl,g5⟩:=azj h5;exact⟨⟨l1,b2,n3,l4,l5⟩,rfl,g1,g3,g5⟩
def fe.Rng.fit {f:fe}(h:f.Rng)(s:ahe f):f.Fit where
 chans:=⟨by have:=s.chans.1;omega,λc hc=>(h.chans c hc).fit (s.chans.2 c hc)⟩
 mask:=h.mask
 bands:=⟨by have:=s.bands.1;omega,λl hl=>by have:=s.bands.2 l hl;omega⟩
 fill:=by have:=s.fill;omega
 fillI:=h.fill
def aA6 {x:W_}(h:OkDs agc x):∃(rt n:Int) (cb:Bool) (cz:Int),x.map AV.d=[AV.d (.int .i64 rt),A_ n,B_ cb,A_ cz]:=by
 obtain⟨a1,r,rfl,h1,h⟩:=ta h;obtain⟨a2,r,rfl,h2,h⟩:=ta h;obtain⟨a3,r,rfl,h3,h⟩:=ta h;obtain⟨a4,rfl,h4⟩:=HD h;obtain⟨n1,rfl,_⟩:=tA h1;obtain⟨n2,rfl,_⟩:=tA h2;obtain⟨b3,rfl⟩:=N6 h3;obtain⟨n4,rfl,_⟩:=tA h4;exact⟨n1,n2,b3,n4,rfl⟩
def aCH {R:Nat}{n:Int}{f:fe}:At (mU R n f) 0 (uv R n f).length (uv R n f):=⟨dB _,o_,_,rfl⟩
def aqI {R:Nat}(hR:R<=11){n:Int}(hn:n=1∨n=2){f:fe}(hf:f.Fit)(ok:uJ R n f):OJ (mU R n f) R n=.ok f (uv R n f).length:=by
 have hl:(mU R n f).length=(uv R n f).length+L3 (uv R n f).length:=by
  show(xR (uv R n f)).length=_;rw[xR,aj,bm]
 have hd:(mU R n f).drop (uv R n f).length=List.replicate (L3 (uv R n f).length) 0:=by
  show(xR (uv R n f)).drop _=_;rw[xR,xf]
 have hp:L3 (uv R n f).length<=7:=by unfold L3;omega
 rw[OJ,aqS hR hn hf ok aCH,az,ac];refine⟨o_,?_⟩;rw[hd];intro h;have:=dc h;omega
def Xt {h:am}{l:C_}{a:Nat}(ha:a<=l.length)(hl:l.length<=1000000000):mQ h 1 (.d (.lst (ai l))) none (some (A_ (a:Int))) none=some (.d (.lst (ai (l.take a)))):=by
 have e2:eh (A_ (a:Int)) (ai l).length=some a:=by rw[yk o_ (by rw[bD];omega)];simp
 have e3:GI 1 (ai l)=true:=by cases l<;>rfl
 simp only[mQ,okSl,vT,lenOf,xn,wp,e2,e3,sub];have e4:((ai l).drop 0).take (a-0)=ai (l.take a):=by
  unfold ai;rw[mK,Nat.sub_zero,List.map_take]
 rw[e4]
structure pV where
 rate:Int
 chans:Int
 crc:Bool
 len:Int
 full:Int
abbrev pV.cells (h:pV):D_:=[A_ h.rate,A_ h.chans,B_ h.crc,A_ h.len,A_ h.full]
abbrev Bg:pV:=⟨0,0,false,0,0⟩
def dR (c:Bool):Nat:=if c then 9 else 7
def KR (c:Bool):bj prog Mb [B_ c]=some (A_ (dR c)):=by
 rw[aE akG ak8 rfl]
 cases c
 .simp(maxSteps:=300000) (disch:=omega)[↓ac,↓aa,dR]
 .simp(maxSteps:=300000) (disch:=omega)[↓ac,↓aa,dR]
def mg (h:pV):Prop:=(0<=h.rate∧h.rate<=11)∧(h.chans=1∨h.chans=2)∧(0<=h.full∧h.full<=2047)∧(dR h.crc:Int)<h.len∧h.len<=dR h.crc+192*h.chans
instance (h:pV):Decidable (mg h):=by unfold mg;infer_instance
def aaV (h:pV):bj prog RY [.agg h.cells]=some (B_ (decide (mg h))):=by
 obtain⟨r,n,c,l,f⟩:=h;have hs:=KR c;have h79:dR c=7∨dR c=9:=by cases c<;>simp[dR]
 rw[aE ait aic rfl];by_cases h1:0<=r
 rotate_left
 .rw[decide_eq_false (by simp only[mg];omega)];generalize dR c=S at *;simp(maxSteps:=300000) (disch:=omega)[↓ac,↓aa,hs]
 by_cases h2:r<=11
 rotate_left
 .rw[decide_eq_false (by simp only[mg];omega)];generalize dR c=S at *;simp(maxSteps:=300000) (disch:=omega)[↓ac,↓aa,hs]
 by_cases h3:n=1∨n=2
 rotate_left
 .rw[decide_eq_false (by simp only[mg];omega)];generalize dR c=S at *;simp(maxSteps:=300000) (disch:=omega)[↓ac,↓aa,hs]
 by_cases h4:0<=f
 rotate_left
 .rw[decide_eq_false (by simp only[mg];omega)];generalize dR c=S at *;rcases h3 with rfl|rfl<;>simp(maxSteps:=300000) (disch:=omega)[↓ac,↓aa,hs]
 by_cases h5:f<=2047
 rotate_left
 .rw[decide_eq_false (by simp only[mg];omega)];generalize dR c=S at *;rcases h3 with rfl|rfl<;>simp(maxSteps:=300000) (disch:=omega)[↓ac,↓aa,hs]
 by_cases h6:(dR c:Int)<l
 rotate_left
 .rw[decide_eq_false (by simp only[mg];omega)];generalize dR c=S at *;rcases h3 with rfl|rfl<;>simp(maxSteps:=300000) (disch:=omega)[↓ac,↓aa,hs]
 by_cases h7:l<=dR c+192*n
 .rw[decide_eq_true (by simp only[mg];omega)];generalize dR c=S at *;rcases h3 with rfl|rfl<;>simp(maxSteps:=300000) (disch:=omega)[↓ac,↓aa,hs]
 .rw[decide_eq_false (by simp only[mg];omega)];generalize dR c=S at *;rcases h3 with rfl|rfl<;>simp(maxSteps:=300000) (disch:=omega)[↓ac,↓aa,hs]
def abK {l:C_}{i x:Nat}{r:C_}(h:l.drop i=x::r):(ai l)[i]?=some [.int .u8 (x:Int)]:=by
 have:=aV (λl=>l[0]?) h;simp only[ca,b8,dY]at this;exact oH this
def auH (x y:C_)(hl:x.length=y.length)(hx:x.length<=1000000):∀(r s:C_) (i:Nat),x.drop i=r->y.drop i=s->
  (Dn prog).code (.loop lF) ⟨[(0,.d (.lst (ai x))),(1,.d (.lst (ai y))),(12,A_ x.length),(13,A_ i)],⟨[],0⟩⟩ =
  if r=s then some (.exit 0,⟨[],⟨[],0⟩⟩) else some (.ret,⟨[(4,B_ false)],⟨[],0⟩⟩):=by
 intro r
 induction r with
 |nil =>
  intro s i h1 h2;have hi:=aY h1;have hs:s=[]:=by rw[<-h2];exact ck (by omega)
  rw[hs,ac rfl,ah yT];simp(maxSteps:=300000) (disch:=omega)[↓ac,↓aa]
 |cons a r ih =>
  intro s i h1 h2;have hi:=bw h1;obtain⟨b,s,rfl⟩:∃b s',s=b::s':=by
   cases s with
   |nil=>have:=aY h2;omega
   |cons b s=>exact⟨b,s,rfl⟩
  have g1:=abK h1;have g2:=abK h2;have d1:x.drop (i+1)=r:=by rw[<-ge,h1];rfl
  have d2:y.drop (i+1)=s:=by rw[<-ge,h2];rfl
  have ih1:=ih s (i+1) d1 d2;rw[show((i+1:Nat):Int)=(i:Int)+1 from rfl]at ih1;rw[ah yT];by_cases hab:a=b
  .subst hab;have e:(a::r=a::s)=(r=s):=s_;simp only[e];rw[<-ih1];simp(maxSteps:=300000) (disch:=omega)[↓ac,↓aa,g1,g2]
  .have e:¬(a::r=b::s):=by simp[hab]
   rw[aa e];simp(maxSteps:=300000) (disch:=omega)[↓ac,↓aa,g1,g2,hab]
def apM (x y:C_)(hx:x.length<=1000000)(hy:y.length<=1000000):bj prog Cp [.d (.lst (ai x)),.d (.lst (ai y))]=some (B_ (decide (x=y))):=by
 have hxl:=bD (l:=x);have hyl:=bD (l:=y);rw[aE OI Pq rfl];by_cases h:x.length=y.length
 .have h0:=auH x y h hx x y 0 rfl rfl;have c0:((0:Nat):Int)=0:=rfl;rw[c0]at h0;by_cases e:x=y
  .rw[ac e]at h0;rw[decide_eq_true e];generalize ai x=X at *;generalize ai y=Y at *;simp(maxSteps:=300000) (disch:=omega)[↓ac,↓aa,h0,hxl,hyl]
  .rw[aa e]at h0;rw[decide_eq_false e];generalize ai x=X at *;generalize ai y=Y at *;simp(maxSteps:=300000) (disch:=omega)[↓ac,↓aa,h0,hxl,hyl]
 .rw[decide_eq_false (λe=>h (by rw[e]))];generalize ai x=X at *;generalize ai y=Y at *;simp(maxSteps:=300000) (disch:=omega)[↓ac,↓aa,hxl,hyl]
def cN (c:Bool):Int:=if c then 0 else 1
def po (h:pV):G_:=[4095,12,0,1,0,2,cN h.crc,1,1,2,h.rate,4,0,1,h.chans,3,0,1,0,1,0,2,h.len,13,h.full,11,0,2]
def QG (h:pV):D_:=(po h).map λn=>A_ n
def Wx (h:pV):bj prog afQ [.agg h.cells]=some (.agg (QG h)):=by
 obtain⟨r,n,c,l,f⟩:=h
 cases c
 .exact BX 300 (by kernel_rfl)
 .exact BX 300 (by kernel_rfl)
def fB (h:pV)(i:Nat):C_:=ar ((po h).getD (2*i) 0).toNat ((po h).getD (2*i+1) 0).toNat
def jY (h:pV)(i:Nat):C_:=(List.range i).flatMap (fB h)
def aif {h:pV}{i:Nat}:jY h (i+1)=jY h i++fB h i:=by
 rw[jY,List.range_succ,List.flatMap_append];simp[jY]
def aAO {h:pV}:∀{i:Nat},i<14->(fB h i).length<=13:=by
 intro i hi;rw[fB,df];obtain rfl|rfl|rfl|rfl|rfl|rfl|rfl|rfl|rfl|rfl|rfl|rfl|rfl|rfl:i=0∨i=1∨i=2∨i=3∨i=4∨i=5∨i=6∨i=7∨i=8∨i=9∨i=10∨i=11∨i=12∨i=13:=o_
 all_goals simp[po]
def ac3 {h:pV}:∀{i:Nat},i<=14->(jY h i).length<=13*i
 |0,_=>by simp[jY]
 |i+1,hi=>by
  have h1:=ac3 (h:=h) (i:=i) o_;have h2:=aAO (h:=h) (i:=i) o_;rw[aif,aj];omega
def aw1 {h:pV}(ok:mg h){i:Nat}(hi:i<14):ou ((po h).getD (2*i) 0) ((po h).getD (2*i+1) 0)∧(po h).getD (2*i) 0<=10000:=by
 obtain⟨r,n,c,l,f⟩:=h;simp only[mg]at ok;have h79:dR c=7∨dR c=9:=by cases c<;>simp[dR]
 have hc:cN c=0∨cN c=1:=by cases c<;>simp[cN]
 obtain rfl|rfl|rfl|rfl|rfl|rfl|rfl|rfl|rfl|rfl|rfl|rfl|rfl|rfl:i=0∨i=1∨i=2∨i=3∨i=4∨i=5∨i=6∨i=7∨i=8∨i=9∨i=10∨i=11∨i=12∨i=13:=o_
 all_goals simp[po,ou];try omega
def PX {h:pV}:(QG h).map ot=QG h∧shareAll (QG h)=QG h:=⟨rfl,rfl⟩
def ast {h:pV}{i:Nat}(hi:i<14):ixV 14 2 true (.agg (QG h)) (A_ i)=some (.agg [A_ ((po h).getD (2*i) 0),A_ ((po h).getD (2*i+1) 0)]):=by
 obtain rfl|rfl|rfl|rfl|rfl|rfl|rfl|rfl|rfl|rfl|rfl|rfl|rfl|rfl:i=0∨i=1∨i=2∨i=3∨i=4∨i=5∨i=6∨i=7∨i=8∨i=9∨i=10∨i=11∨i=12∨i=13:=o_
 all_goals rfl
def ak1 (h:pV)(ok:mg h):∀(k i N:Nat) (x:AV),i+k=14->(x=.nl∧i=0∨x=.own false 1 (ai (jY h i))∧0<i)->
  ∃M,(Dn prog).code (.loop si) ⟨[(2,x),(6,.agg (QG h)),(7,A_ i)],⟨[],N⟩⟩=some (.exit 0,⟨[(2,.own false 1 (ai (jY h 14)))],⟨[],M⟩⟩):=by
 intro k
 induction k with
 |zero =>
  intro i N x hi hx;obtain rfl:i=14:=o_;rcases hx with ⟨_,hx⟩|⟨rfl,_⟩
  .omega
  refine⟨N,?_⟩;rw[ah H0];generalize ai (jY h 14)=W at *;simp(maxSteps:=300000) (disch:=omega)[↓ac,↓aa]
 |succ k ih =>
  intro i N x hi hx;have hP:=aw1 ok (i:=i) o_;have hX:=ast (h:=h) (i:=i) o_;have hlw:=ac3 (h:=h) (i:=i) o_;obtain⟨M,ih1⟩:=ih (i+1) (N+1) (.own false 1 (ai (jY h (i+1)))) o_ (.inr ⟨rfl,o_⟩);refine⟨M,?_⟩;rw[show((i+1:Nat):Int)=(i:Int)+1 from rfl,aif]at ih1;have hB:∀y:AV,(y=.d (.lst (ai (jY h i)))∨y=.nl∧jY h i=[])->bj prog yc [y,A_ ((po h).getD (2*i) 0),A_ ((po h).getD (2*i+1) 0)]=some (.tup [.own true 1 (ai (jY h i++fB h i)),A_ 0]):=λy hy=>by
   have:=md (jY h i) ((po h).getD (2*i) 0) ((po h).getD (2*i+1) 0) o_ (by have:=hP.1;have:=hP.2;simp only[ou]at *;omega) y hy;rw[ac hP.1]at this;exact this
  have hwl:=bD (l:=jY h i);rw[<-ih1];clear ih ih1;obtain⟨hfm,hfs⟩:=PX (h:=h);rw[ah H0];generalize jY h i++fB h i=Q at *;generalize (po h).getD (2*i) 0=A at *;generalize (po h).getD (2*i+1) 0=B at *;generalize QG h=F at *;rcases hx with ⟨rfl,rfl⟩|⟨rfl,h0⟩
  .have hb:=hB .nl (.inr ⟨rfl,rfl⟩);have c0:((0:Nat):Int)=0:=rfl;rw[c0]at hX⊢;simp(maxSteps:=300000) (disch:=omega)[↓ac,↓aa,hfm,hfs,hX,hb]
  .have hb:=hB (.d (.lst (ai (jY h i)))) (.inl rfl);generalize ai (jY h i)=Z at *;generalize ai Q=V at *;simp(maxSteps:=300000) (disch:=omega)[↓ac,↓aa,hfm,hfs,hX,hb]
def S5 (h:pV)(ok:mg h):bj prog E4 [.agg h.cells]=some (.own true 1 (ai (jY h 14))):=by
 have hf:=Wx h;obtain⟨M,hl⟩:=ak1 h ok 14 0 1 .nl rfl (.inl ⟨rfl,rfl⟩);have c0:((0:Nat):Int)=0:=rfl;obtain⟨hfm,hfs⟩:=PX (h:=h);rw[c0]at hl;rw[aE acD ac2 rfl];generalize QG h=F at *;simp(maxSteps:=300000) (disch:=omega)[↓ac,↓aa,hf,hfm,hfs,hl]
def gv (l:C_)(a s:Nat):Nat:=val ((l.drop a).take s) 0
def aDq {l:C_}(hl:l.length=56)(hb:bin l){a s:Nat}(h:a+s<=56)(hs:s<=31):bj prog yg [.d (.lst (ai l)),A_ a,A_ s]=some (.tup [A_ (gv l a s),A_ ((a+s:Nat):Int),A_ 0]):=by
 have hd:bin ((l.drop a).take s):=λx hx=>hb x (bJ (dl hx))
 have hg:bf l (a:Int) (s:Int)=.ok (gv l a s) (a+s):=by
  unfold bf;rw[ac o_,aa o_,au,au,ac hd];rfl
 have hv:gv l a s<2 ^ s:=by
  have:=Jj (n:=0) (i:=0) hd o_;have e:((l.drop a).take s).length=s:=by rw[b6,cM];omega
  rw[e,bv]at this;exact this
 rw[ic l a s o_ o_,hg,eY ⟨by rw[au];exact hv,o_⟩]
def DC (l:C_)(i:Nat):pV:=⟨if 5<i then gv l 18 4 else 0,if 7<i then gv l 23 3 else 0,if 3<i then decide (gv l 15 1=0) else false,if 11<i then gv l 30 13 else 0,if 12<i then gv l 43 11 else 0⟩
def mh (l:C_):pV:=⟨gv l 18 4,gv l 23 3,decide (gv l 15 1=0),gv l 30 13,gv l 43 11⟩
def xz:C_:=[0,12,13,15,16,18,22,23,26,27,28,30,43,54,56]
def ayD (X:AV)(l:C_)(hl:l.length=56)(hb:bin l):∀(k i N:Nat),i+k=14->1<=N->
  ∃M,N<=M∧(Dn prog).code (.loop yj) ⟨[(0,X),(2,.ptr 0 0),(4,.own false 1 (ai l)),(6,A_ (xz.getD i 0)),(23,.agg (QG Bg)),(24,A_ i)],⟨[(0,.cells (DC l i).cells)],N⟩⟩ =
   some (.exit 0,⟨[(0,X),(2,.ptr 0 0),(4,.own false 1 (ai l))],⟨[(0,.cells (mh l).cells)],M⟩⟩):=by
 intro k
 induction k with
 |zero =>
  intro i N hi hN;obtain rfl:i=14:=o_;refine⟨N,al _,?_⟩;rw[ah NC];generalize ai l=W at *;simp(maxSteps:=300000) (disch:=omega)[↓ac,↓aa,DC,mh]
 |succ k ih =>
  intro i N hi hN;have hg:=λa s h1 h2=>aDq hl hb (a:=a) (s:=s) h1 h2
  obtain⟨M,hM,ih1⟩:=ih (i+1) (N+1) o_ o_;refine⟨M,o_,?_⟩;rw[show((i+1:Nat):Int)=(i:Int)+1 from rfl]at ih1;rw[<-ih1];clear ih ih1;rw[ah NC];obtain⟨hfm,hfs⟩:=PX (h:=Bg);have hX:=ast (h:=Bg) (i:=i) o_;generalize QG Bg=F at *;generalize ai l=W at *;obtain rfl|rfl|rfl|rfl|rfl|rfl|rfl|rfl|rfl|rfl|rfl|rfl|rfl|rfl:i=0∨i=1∨i=2∨i=3∨i=4∨i=5∨i=6∨i=7∨i=8∨i=9∨i=10∨i=11∨i=12∨i=13:=o_
  .have h:=hg 0 12 o_ o_;simp at h;simp[po,cN]at hX;simp(maxSteps:=300000) (disch:=omega)[↓ac,↓aa,DC,xz,hfm,hfs,hX,h]
  .have h:=hg 12 1 o_ o_;simp at h;simp[po,cN]at hX;simp(maxSteps:=300000) (disch:=omega)[↓ac,↓aa,DC,xz,hfm,hfs,hX,h]
  .have h:=hg 13 2 o_ o_;simp at h;simp[po,cN]at hX;simp(maxSteps:=300000) (disch:=omega)[↓ac,↓aa,DC,xz,hfm,hfs,hX,h]
  .have h:=hg 15 1 o_ o_;simp at h;simp[po,cN]at hX;by_cases hz:gv l 15 1=0
   .rw[hz]at h;simp(maxSteps:=300000) (disch:=omega)[↓ac,↓aa,DC,xz,hfm,hfs,hX,h,hz]
   .simp(maxSteps:=300000) (disch:=omega)[↓ac,↓aa,DC,xz,hfm,hfs,hX,h,hz]
  .have h:=hg 16 2 o_ o_;simp at h;simp[po,cN]at hX;simp(maxSteps:=300000) (disch:=omega)[↓ac,↓aa,DC,xz,hfm,hfs,hX,h]
  .have h:=hg 18 4 o_ o_;simp at h;simp[po,cN]at hX;simp(maxSteps:=300000) (disch:=omega)[↓ac,↓aa,DC,xz,hfm,hfs,hX,h]
  .have h:=hg 22 1 o_ o_;simp at h;simp[po,cN]at hX;simp(maxSteps:=300000) (disch:=omega)[↓ac,↓aa,DC,xz,hfm,hfs,hX,h]
  .have h:=hg 23 3 o_ o_;simp at h;simp[po,cN]at hX;simp(maxSteps:=300000) (disch:=omega)[↓ac,↓aa,DC,xz,hfm,hfs,hX,h]
  .have h:=hg 26 1 o_ o_;simp at h;simp[po,cN]at hX;simp(maxSteps:=300000) (disch:=omega)[↓ac,↓aa,DC,xz,hfm,hfs,hX,h]
  .have h:=hg 27 1 o_ o_;simp at h;simp[po,cN]at hX;simp(maxSteps:=300000) (disch:=omega)[↓ac,↓aa,DC,xz,hfm,hfs,hX,h]
  .have h:=hg 28 2 o_ o_;simp at h;simp[po,cN]at hX;simp(maxSteps:=300000) (disch:=omega)[↓ac,↓aa,DC,xz,hfm,hfs,hX,h]
  .have h:=hg 30 13 o_ o_;simp at h;simp[po,cN]at hX;simp(maxSteps:=300000) (disch:=omega)[↓ac,↓aa,DC,xz,hfm,hfs,hX,h]
  .have h:=hg 43 11 o_ o_;simp at h;simp[po,cN]at hX;simp(maxSteps:=300000) (disch:=omega)[↓ac,↓aa,DC,xz,hfm,hfs,hX,h]
  .have h:=hg 54 2 o_ o_;simp at h;simp[po,cN]at hX;simp(maxSteps:=300000) (disch:=omega)[↓ac,↓aa,DC,xz,hfm,hfs,hX,h]
def om (b:C_):Int:=if b.length<7∨b.length<dR (mh (bY (b.take 7))).crc then 5 else if mg (mh (bY (b.take 7)))∧jY (mh (bY (b.take 7))) 14=bY (b.take 7) then 0 else 8
def bX (b:C_):pV:=if om b=0 then mh (bY (b.take 7)) else Bg
def Tu (b:C_)(hb:b.length<=100000)(hb2:∀x∈b,x<=255)(X:AV)(hX:dZ X (ai b)):bj prog WD [X]=some (.tup [.agg (bX b).cells,A_ (om b)]):=by
 obtain⟨⟨x1,x2,x3⟩,x4,x5⟩:=hX.facts;rw[bD]at x5;by_cases h7:b.length<7
 .have e:om b=5:=by rw[om,ac (.inl h7)]
  have e2:bX b=Bg:=by rw[bX,e,aa k_]
  rw[e,e2,aE WR VU rfl];simp(maxSteps:=300000) (disch:=omega)[↓ac,↓aa,x1,x2,x3,x4,x5]
 have hne:ai b≠[]:=λh=>by
  have:=aV List.length h;rw[bD,bg]at this;omega
 rw[hX.ne hne];have hs7:∀h,mQ h 1 (.d (.lst (ai b))) none (some (A_ 7)) none=some (.d (.lst (ai (b.take 7)))):=λh=>Xt (h:=h) (a:=7) o_ (by omega)
 have hU:=FJ (b.take 7) (by rw[b6];omega) (λx hx=>hb2 x (dl hx)) _ dZ.d;have hbl:=bD (l:=b);obtain⟨l,hl⟩:∃l,l=bY (b.take 7):=⟨_,rfl⟩
 have hl56:l.length=56:=by rw[hl,fG,b6];omega
 have hbin:bin l:=by rw[hl];exact acB
 rw[<-hl]at hU;have hf:=Wx Bg;obtain⟨M,hM,h0⟩:=ayD (.d (.lst (ai b))) l hl56 hbin 14 0 1 rfl o_;have c0:((0:Nat):Int)=0:=rfl;have hi0:DC l 0=Bg:=by simp[DC]
 have ho0:((xz.getD 0 0:Nat):Int)=0:=rfl;rw[c0,hi0,ho0]at h0;have hS:=KR (mh l).crc;have hR:=aaV (mh l);have hW:mg (mh l)->bj prog E4 [.agg (mh l).cells]=some (.own true 1 (ai (jY (mh l) 14))):=S5 _;have hwl:=ac3 (h:=mh l) (i:=14) o_;have hE:=apM (jY (mh l) 14) l o_ o_;have h79:dR (mh l).crc=7∨dR (mh l).crc=9:=by cases (mh l).crc<;>simp[dR]
 have eE:om b=if b.length<dR (mh l).crc then 5 else if mg (mh l)∧jY (mh l) 14=l then 0 else 8:=by
  rw[om,<-hl];by_cases hq:b.length<dR (mh l).crc
  .rw[ac (Or.inr hq),ac hq]
  .rw[aa o_,aa hq]
 have eH:bX b=if om b=0 then mh l else Bg:=by rw[bX,<-hl]
 rw[eH,eE];clear eH eE;obtain⟨hfm,hfs⟩:=PX (h:=Bg);generalize QG Bg=F at *;generalize mh l=h at *;obtain⟨r,n,c,len,fu⟩:=h;simp only[]at hS h79⊢;generalize dR c=S at *;rw[aE WR VU rfl];generalize ai (b.take 7)=T7 at *;generalize ai b=B at *;generalize ai l=L at *;by_cases h1:b.length<S
 .rw[ac h1,aa (show ¬(5:Int)=0 by decide)];simp(maxSteps:=300000) (disch:=omega)[↓ac,↓aa,hs7,hU,hf,hfm,hfs,h0,hS,hR,hE,hbl]
 .rw[aa h1];by_cases h2:mg ⟨r,n,c,len,fu⟩
  .have hW:=hW h2;rw[decide_eq_true h2]at hR;by_cases h3:jY ⟨r,n,c,len,fu⟩ 14=l
   .rw[ac (And.intro h2 h3),ac rfl];rw[decide_eq_true h3]at hE;generalize ai (jY ⟨r,n,c,len,fu⟩ 14)=W at *;simp(maxSteps:=300000) (disch:=omega)[↓ac,↓aa,hs7,hU,hf,hfm,hfs,h0,hS,hR,hW,hE,hbl]
   .rw[aa (λh=>h3 (And.right h)),aa (show ¬(8:Int)=0 by decide)];rw[decide_eq_false h3]at hE;generalize ai (jY ⟨r,n,c,len,fu⟩ 14)=W at *;simp(maxSteps:=300000) (disch:=omega)[↓ac,↓aa,hs7,hU,hf,hfm,hfs,h0,hS,hR,hW,hE,hbl]
  .rw[aa (λh=>h2 (And.left h)),aa (show ¬(8:Int)=0 by decide)];rw[decide_eq_false h2]at hR;simp(maxSteps:=300000) (disch:=omega)[↓ac,↓aa,hs7,hU,hf,hfm,hfs,h0,hS,hR,hbl]
def Ig (w x:Nat):Nat:=if w / 32768=x then 2*w % 65536 else (2*w % 65536) ^^^ 32773
def ahp {w x:Nat}:Ig w x<65536:=by
 unfold Ig;split
 .omega
 .exact Nat.xor_lt_two_pow (n:=16) o_ (by omega)
def auv (w x:Nat)(hw:w<65536)(hx:x<=1)(N:Nat):(Dn prog).call JJ [.d (.int .u8 x),.ptr 0 0] ⟨[(0,.cells [.d (.int .u16 w)])],N⟩=some (.tup [],⟨[(0,.cells [.d (.int .u16 (Ig w x))])],N⟩):=by
 have e1:(w:Int).fdiv 32768=((w / 32768:Nat):Int):=by rw[fD _ o_];rfl
 have e3:((w:Int)*2) % 65536=((2*w % 65536:Nat):Int):=o_;have hq:w / 32768<=1:=o_;have tn:km .u16=65536:=rfl;have hx2:=aBt (k:=.u16) (a:=2*w % 65536) (b:=32773) (by rw[tn];omega) (by rw[tn];omega) (by rw[tn];exact Nat.xor_lt_two_pow (x:=2*w % 65536) (y:=32773) (n:=16) o_ o_);have hw2:wr .u16 ((w:Int)*2)=((2*w % 65536:Nat):Int):=by
  rw[adA,<-e3];rfl
 have c2:((32773:Nat):Int)=32773:=rfl;rw[c2]at hx2;unfold Ig;generalize hd:2*w % 65536=d at *;generalize hy:d ^^^ 32773=y at *;generalize hqq:w / 32768=q at *;have hdl:d<65536:=o_;rw[ba ai6 ajV rfl];by_cases h:q=x
 .subst h;simp(maxSteps:=300000) (disch:=omega)[↓ac,↓aa,e1,hw2]
 .have h2:¬(q:Int)=x:=o_;rw[aa h];simp(maxSteps:=300000) (disch:=omega)[↓ac,↓aa,e1,hw2,h2,hx2]
def aAv (b:C_)(hb:bin b)(hl:b.length<=1000000):∀(r:C_) (i w:Nat),b.drop i=r->w<65536->
  (Dn prog).code (.loop Av) ⟨[(6,.ptr 0 0),(7,.fn JJ [] [.ptr 0 0]),(19,.d (.lst (ai b))),(20,A_ b.length),(21,A_ i)],⟨[(0,.cells [.d (.int .u16 w)])],1⟩⟩ =
  some (.exit 0,⟨[(6,.ptr 0 0)],⟨[(0,.cells [.d (.int .u16 ((r.foldl Ig w:Nat):Int))])],1⟩⟩):=by
 intro r
 induction r with
 |nil =>
  intro i w h1 hw;have hi:=aY h1;rw[ah QH];simp(maxSteps:=300000) (disch:=omega)[↓ac,↓aa]
 |cons a r ih =>
  intro i w h1 hw;have hi:=bw h1;have g1:=abK h1;have d1:b.drop (i+1)=r:=by rw[<-ge,h1];rfl
  have ha:a<=1:=hb a (bJ (i:=i) (by rw[h1];exact .head _));have hc:=auv w a hw ha 1;have ih1:=ih (i+1) (Ig w a) d1 ahp;rw[show((i+1:Nat):Int)=(i:Int)+1 from rfl]at ih1;rw[jw,<-ih1,ah QH];generalize ai b=B at *;simp(maxSteps:=300000) (disch:=omega)[↓ac,↓aa,g1,hc]
def xq (b:C_):Nat:=b.foldl Ig 65535
def ag1:∀{b:C_}{w:Nat},w<65536->b.foldl Ig w<65536
 |[],_,h=>h
 |a::r,w,_=>ag1 (b:=r) ahp
def IG {b:C_}:xq b<65536:=ag1 (by omega)
def aAp (b:C_)(hb:bin b)(hl:b.length<=1000000):bj prog agK [.d (.lst (ai b))]=some (.tup [A_ (xq b),A_ 0]):=by
 have h0:=aAv b hb hl b 0 65535 rfl o_;have c0:((0:Nat):Int)=0:=rfl;have c1:((65535:Nat):Int)=65535:=rfl;have hbl:=bD (l:=b);have hlt:=IG (b:=b);rw[c0,c1]at h0;have hO:bj prog aa9 [A_ 65535,.d (.lst (ai b))]=some (.tup [A_ (xq b),A_ 0]):=by
  unfold xq at hlt⊢;rw[aE aoI aok rfl];generalize b.foldl Ig 65535=W at *;generalize ai b=B at *;simp(maxSteps:=300000) (disch:=omega)[↓ac,↓aa,h0,hbl]
 rw[aE avu atW rfl];generalize ai b=B at *;simp(maxSteps:=300000) (disch:=omega)[↓ac,↓aa,hO]
def axV {h:am}{b:C_}(h1:1<=b.length)(h2:b.length<=900000000):et 1 h .nl (ai b)=some (.own true 1 (ai b),h):=by
 cases b with
 |nil=>simp at h1
 |cons x r =>
  have e:ai (x::r)=[.int .u8 x]::ai r:=rfl;have e2:=bD (l:=r);rw[aq]at h2;rw[e,ann,e2,b9 (by simp only[aX];omega)];rfl
def atQ {h:am}{p:Bool}{a b:C_}(h1:a.length+b.length<=900000000):et 1 h (.own p 1 (ai a)) (ai b)=some (.own false 1 (ai a++ai b),h):=by
 rw[U1,bD,bD,b9 (by simp only[aX];omega),b9 (by simp only[aX];omega)];rfl
def azE (xs:AD_)(hx:∀x∈xs,(1<=x.length∧x.length<=10000)∧∀n∈x,n<=255)(hxl:xs.length<=10):∀(r:AD_) (i:Nat) (acc:C_) (A:AV),xs.drop i=r->(A=.nl∧acc=[]∨A=.own false 1 (ai acc))->acc.length<=80000*i->
  ∃A',(A'=.nl∧acc++r.flatMap bY=[]∨A'=.own false 1 (ai (acc++r.flatMap bY)))∧(Dn prog).code (.loop AC) ⟨[(3,A),(10,.d (.lst (py xs))),(11,A_ xs.length),(12,A_ i)],⟨[],0⟩⟩=some (.exit 0,⟨[(3,A')],⟨[],0⟩⟩):=by
 intro r
 induction r with
 |nil =>
  intro i acc A h1 hA ha;have hi:=aY h1;refine⟨A,by simpa using hA,?_⟩;rw[ah QY];rcases hA with ⟨rfl,_⟩|rfl
  .simp(maxSteps:=300000) (disch:=omega)[↓ac,↓aa]
  .generalize ai acc=C at *;simp(maxSteps:=300000) (disch:=omega)[↓ac,↓aa]
 |cons x r ih =>
  intro i acc A h1 hA ha;have hi:=bw h1;have g1:=Lo h1;have d1:xs.drop (i+1)=r:=by rw[<-ge,h1];rfl
  obtain⟨⟨hx0,hx1⟩,hx2⟩:=hx x (bJ (i:=i) (by rw[h1];exact .head _));have hU:=FJ x o_ hx2 _ dZ.d;have hul:=fG (l:=x);have hal:=bD (l:=acc);have hull:=bD (l:=bY x);obtain⟨A',hA',ih1⟩:=ih (i+1) (acc++bY x) (.own false 1 (ai (acc++bY x))) d1 (.inr rfl) (by rw[aj];omega);rw[aA,<-aD]at hA';refine⟨A',hA',?_⟩;rw[show((i+1:Nat):Int)=(i:Int)+1 from rfl,xa]at ih1;rw[<-ih1,ah QY];clear ih ih1;have hxl2:=adV (t:=xs);rcases hA with ⟨rfl,rfl⟩|rfl
  .have e0:ai []=[]:=rfl;rw[e0,aK];have ha1:=λh=>axV (h:=h) (b:=bY x) o_ (by omega)
   have ho:=Pj (l:=bY x);generalize ai (bY x)=V at *;generalize py xs=XS at *;simp(maxSteps:=300000) (disch:=omega)[↓ac,↓aa,-getElem?_pos,g1,hU,ha1,ho]
  .have ha1:=λh p=>atQ (h:=h) (p:=p) (a:=acc) (b:=bY x) (by omega)
   have ho:=Pj (l:=bY x);generalize ai (bY x)=V at *;generalize ai acc=C at *;generalize py xs=XS at *;simp(maxSteps:=300000) (disch:=omega)[↓ac,↓aa,-getElem?_pos,-U1,g1,hU,ha1,ho]
def ajM (xs:AD_)(hx:∀x∈xs,(1<=x.length∧x.length<=10000)∧∀n∈x,n<=255)(hxl:xs.length<=10)(hne:xs.flatMap bY≠[]):bj prog Dy [.d (.lst (py xs))]=some (A_ (xq (xs.flatMap bY))):=by
 obtain⟨A',hA',h0⟩:=azE xs hx hxl xs 0 [] .nl rfl (.inl ⟨rfl,rfl⟩) s_;have c0:((0:Nat):Int)=0:=rfl;rw[c0]at h0;rw[aK]at hA';have hbl:(xs.flatMap bY).length<=80000*xs.length:=by
  clear h0 hA' hxl hne
  induction xs with
  |nil=>simp
  |cons x r ih =>
   have h1:=ih λy hy=>hx y (.tail _ hy)
   have h2:=(hx x (.head _)).1.2;rw[aD,aj,aq,fG];omega
 have hxl2:=adV (t:=xs);have hb:bin (xs.flatMap bY):=λy hy=>by
  obtain⟨x,_,hy⟩:=kz.1 hy;exact acB y hy
 have hC:=aAp (xs.flatMap bY) hb o_;rw[aE aoF aoc rfl];rcases hA' with ⟨rfl,hA'⟩|rfl
 .exact absurd hA' hne
 .generalize ai (xs.flatMap bY)=V at *;generalize py xs=XS at *;simp(maxSteps:=300000) (disch:=omega)[↓ac,↓aa,hxl2,h0,hC]
def gZ (g:AV)(w:Bool)(x y:Y_):Y_ :=
 match g with
 |.d (.bool b)=>match b == w with
  |true=>y
  |false=>x
 |.tup []=>x
 |_=>none
@[simp] def aJR {x y:Y_}:gZ (B_ true) true x y=y:=rfl
@[simp] def aJp {x y:Y_}:gZ (B_ false) true x y=x:=rfl
def aC4 {g g2:AV}{w:Bool}{x y:Y_}(h:g=g2):gZ g w x y=gZ g2 w x y:=by rw[h]
attribute [congr] aC4
@[simp] def aH7 {P:Nat->Z_}{d s m:Nat}{w:Bool}{ps:V_}{e:aW}{hs:HS}:cY (Dn P) ⟨some d,some (s,w),.mks m ps,[]⟩ ⟨e,hs⟩=bA (get e s) λg=>gZ g w (some ⟨put e d (.tup []),hs⟩) (bQ P (.mks m ps) e hs λv e hs=>some ⟨put e d (firm v),hs⟩):=by
 have h:=J1 (P:=P) (i:=⟨some d,none,.mks m ps,[]⟩) (e:=e) (hs:=hs) (k:=λe hs=>some ⟨e,hs⟩);have h2:VZ P ⟨some d,none,.mks m ps,[]⟩ e hs (λe hs=>some ⟨e,hs⟩)=bQ P (.mks m ps) e hs λv e hs=>some ⟨put e d (firm v),hs⟩:=rfl
 rw[h2]at h;rw[h];unfold cY;simp only
 cases get e s with
 |none=>rfl
 |some g =>
  simp only[bA];have key:∀x:Y_,x=bA x λst=>some ⟨st.env,st.hs⟩:=λx=>by cases x<;>rfl
  cases g with
  |d x =>
   cases x with
   |bool b =>
    unfold gZ;simp only
    cases b == w with
    |true=>exact key _
    |false=>rfl
   |_=>rfl
  |tup l=>cases l<;>rfl
  |_=>rfl
def FV (b:C_):Prop:=xq ([b.take 7,b.drop 9].flatMap bY)=b.getD 7 0*256+b.getD 8 0
instance (b:C_):Decidable (FV b):=by unfold FV;infer_instance
def rdR (b:C_):R fe:=OJ (bY (b.drop (dR (bX b).crc))) (bX b).rate.toNat (bX b).chans
def C7 (b:C_):Int :=
 if om b≠0 then om b
 else if (b.length:Int)<(bX b).len then 5
 else if (bX b).len<b.length then 8
 else if (bX b).crc=true∧¬FV b then 250
 else match rdR b with
  |.ok _ _=>0
  |.er e=>((e+1:Nat):Int)
def zFr:fe:=⟨[],false,0,[],[]⟩
def V8 (b:C_):fe:=if C7 b=0 then (match rdR b with|.ok f _=>f|.er _=>zFr) else zFr
def rdH (b:C_):pV:=if C7 b=0 then bX b else Bg
def Zu (b:C_):D_:=if C7 b=0 then (V8 b).ow else zF
def avm {b:C_}(h:om b=0):mg (bX b)∧dR (bX b).crc<=b.length∧7<=b.length∧bX b=mh (bY (b.take 7))∧jY (bX b) 14=bY (b.take 7):=by
 have e:bX b=mh (bY (b.take 7)):=by rw[bX,ac h]
 rw[e];unfold om at h;split at h
 .omega
 .rename_i h1;split at h
  .rename_i h2;exact⟨h2.1,o_,o_,rfl,h2.2⟩
  .omega
def abx {x y:Nat}(hx:x<=255)(hy:y<=255):fk .or (A_ ((x:Int)*256)) (A_ y)=some (.int .i64 ((x:Int)*256+y)):=by
 have e:=ki (i:=8) (b:=y) o_ x;have e2:x*256 |||y=x*256+y:=by rw[show x*256=2 ^ 8*x by omega];exact e.symm
 have tn:km .i64=9223372036854775808:=rfl;have h:=anF (k:=.i64) (a:=x*256) (b:=y) (by rw[tn];omega) (by rw[tn];omega) (by rw[e2,tn];omega);rw[e2]at h;simpa using h
def getD_some {b:C_}{i:Nat}(h:i<b.length):b[i]?=some (b.getD i 0):=by
 rw[dh,bB h];rfl
def Ua {x y:C_}:py [x,y]=[[.lst (ai x)],[.lst (ai y)]]:=rfl
def dZ.res {x:AV}{l:E_}(h:dZ x l):(∀hp,jU hp x=some (x,hp))∧n9 x=x:=by
 rcases h with rfl|⟨rfl,rfl⟩<;>exact⟨λ_=>rfl,rfl⟩
def rd9 (b:C_)(hb:b.length<=9000)(h9:9<=b.length)(hb2:∀x∈b,x<=255)(r n l f:Int)(O1 O2:D_)(s:Int)(hsum:bj prog Dy [.d (.lst [[.lst (ai (b.take 7))],[.lst (ai (b.drop 9))]])]=some (A_ s)) :
  ∃E:aW,(Dn prog).code (.seq Fj (K [0,43,44,45,46,47,48,49,50,51,52,53,54,55,56,57,58,59])) ⟨[(0,.d (.lst (ai b))),(2,.ptr 0 0),(3,.ptr 1 0),(5,.ptr 2 0),(7,.d (.lst (ai (b.drop 9))))],⟨[(0,.cells O1),(1,.cells O2),(2,.cells [A_ r,A_ n,B_ true,A_ l,A_ f])],3⟩⟩ =
  some (.normal,⟨[(2,.ptr 0 0),(3,.ptr 1 0),(5,.ptr 2 0),(7,.d (.lst (ai (b.drop 9)))),(60,B_ ((!decide (s=(b.getD 7 0:Nat)*256+(b.getD 8 0:Nat)))))],⟨[(0,.cells O1),(1,.cells O2),(2,.cells [A_ r,A_ n,B_ true,A_ l,A_ f])],3⟩⟩):=by
 refine⟨[],?_⟩;have st7:∀h,mQ h 1 (.d (.lst (ai b))) none (some (A_ 7)) none=some (.d (.lst (ai (b.take 7)))):=λh=>Xt (h:=h) (a:=7) o_ (by omega)
 have m7:∀x,b.getD x 0<=255:=λx=>by
  rw[dh]
  cases h:b[x]? with
  |none=>simp
  |some v=>exact hb2 v (dH h)
 have hob:=abx (m7 7) (m7 8);have m77:=m7 7;have m8:=m7 8;have hbl:=bD (l:=b);by_cases h8:9<=b.length
 .have g7:=oH (getD_some (b:=b) (i:=7) o_);have g8:=oH (getD_some (b:=b) (i:=8) o_);clear m7 hb2;generalize b.getD 7 0=B7 at *;generalize b.getD 8 0=B8 at *;generalize ai (b.take 7)=T7 at *;generalize ai (b.drop 9)=D9 at *;generalize ai b=B at *;by_cases he:s=(B7:Int)*256+B8
  .rw[decide_eq_true he];simp(config := { maxSteps:=3000000 }) (disch:=omega)[↓ac,↓aa,-getElem?_pos,st7,hsum,g7,g8,hob,he]
  .rw[decide_eq_false he];simp(config := { maxSteps:=3000000 }) (disch:=omega)[↓ac,↓aa,-getElem?_pos,st7,hsum,g7,g8,hob,he]
 .omega
def ari (b:C_)(hb:b.length<=9000)(hb2:∀x∈b,x<=255)(X:AV)(hX:dZ X (ai b)):bj prog VL [X]=some (.tup [.agg (rdH b).cells,.agg (Zu b),A_ (C7 b)]):=by
 obtain⟨⟨x1,x2,x3⟩,x4,x5⟩:=hX.facts;obtain⟨vx,ux⟩:=hX.view;rw[bD]at x5;have hH:=Tu b o_ hb2 X hX;by_cases h0:om b=0
 rotate_left
 .have e:C7 b=om b:=by rw[C7,ac h0]
  have eH:bX b=Bg:=by rw[bX,aa h0]
  have e1:rdH b=Bg:=by rw[rdH,aa (by rw[e];exact h0)]
  have e2:Zu b=zF:=by rw[Zu,aa (by rw[e];exact h0)]
  rw[e,e1,e2];rw[eH]at hH;generalize om b=E at *;rw[aE oD oC rfl];simp(maxSteps:=300000) (disch:=omega)[↓ac,↓aa,vx,ux,x1,x2,x3,x4,x5,hH,h0,zF]
 obtain⟨ok,hS,h7,hd,hw⟩:=avm h0;have hne:ai b≠[]:=λh=>by
  have:=aV List.length h;rw[bD,bg]at this;omega
 have hXd:=hX.ne hne;subst hXd;rw[h0]at hH;have hbl:=bD (l:=b);have h79:dR (bX b).crc=7∨dR (bX b).crc=9:=by cases (bX b).crc<;>simp[dR]
 have hSz:=KR (bX b).crc;have zA:∀e:Int,e≠0->C7 b=e->rdH b=Bg∧Zu b=zF:=λe he h=>⟨by rw[rdH,h,aa he],by rw[Zu,h,aa he]⟩
 by_cases h1:(b.length:Int)<(bX b).len
 .have e:C7 b=5:=by rw[C7,aa (by rw[h0];decide),ac h1]
  obtain⟨e1,e2⟩:=zA 5 k_ e;rw[e,e1,e2];generalize bX b=HH at *;obtain⟨r,n,c,l,f⟩:=HH
  dsimp only at h1
  rw[aE oD oC rfl];generalize ai b=B at *;simp(maxSteps:=300000) (disch:=omega)[↓ac,↓aa,hH,hbl,zF]
 by_cases h2:(bX b).len<b.length
 .have e:C7 b=8:=by rw[C7,aa (by rw[h0];decide),aa h1,ac h2]
  obtain⟨e1,e2⟩:=zA 8 k_ e;rw[e,e1,e2];generalize bX b=HH at *;obtain⟨r,n,c,l,f⟩:=HH
  dsimp only at h1 h2
  rw[aE oD oC rfl];generalize ai b=B at *;simp(maxSteps:=300000) (disch:=omega)[↓ac,↓aa,hH,hbl,zF]
 have hlb:(dR (bX b).crc:Int)<b.length:=by have:=ok.2.2.2.1;omega
 have sd7:∀h,mQ h 1 (.d (.lst (ai b))) (some (A_ 7)) none none=some (.d (.lst (ai (b.drop 7)))):=λh=>W5 (h:=h) (a:=7) o_ (by omega)
 have sd9:9<=b.length->∀h,mQ h 1 (.d (.lst (ai b))) (some (A_ 9)) none none=some (.d (.lst (ai (b.drop 9)))):=λh9 h=>W5 (h:=h) (a:=9) o_ (by omega)
 have st7:∀h,mQ h 1 (.d (.lst (ai b))) none (some (A_ 7)) none=some (.d (.lst (ai (b.take 7)))):=λh=>Xt (h:=h) (a:=7) o_ (by omega)
 have hsum:(bX b).crc=true->bj prog Dy [.d (.lst (py [b.take 7,b.drop 9]))]=some (A_ (xq ([b.take 7,b.drop 9].flatMap bY))):=λhc=>ajM _ (λx hx=>by
   simp only[ay,cq,ee]at hx;rcases hx with rfl|rfl
   .exact⟨⟨by rw[b6];omega,by rw[b6];omega⟩,λn hn=>hb2 n (dl hn)⟩
   .exact⟨⟨by have:=ok.2.2.2.1;rw[hc]at this;have h9:dR true=9:=rfl;rw[cM];omega,by rw[cM];omega⟩,λn hn=>hb2 n (bJ hn)⟩) s_ (λh=>by
   have:=aV List.length h;simp only[aD,aj,fG,b6,bg]at this;omega)
 have hcfg:pw (bX b).rate (bX b).chans:=by
  have:=ok.1;have:=ok.2.1;exact⟨by unfold dW;omega,o_⟩
 have hlen:((b.drop (dR (bX b).crc)).length:Int)<=192*(bX b).chans:=by
  have h5:=ok.2.2.2.2;rw[cM];omega
 have hraw:=at5 (bX b).rate (bX b).chans false 0 (.d (.lst (ai (b.drop (dR (bX b).crc))))) (b.drop (dR (bX b).crc)) dZ.d (by rw[cM];omega) (λx hx=>hb2 x (bJ hx));rcases hraw with ⟨_,_,hraw⟩|⟨hraw,_⟩
 rotate_left
 .exact absurd ⟨hcfg,hlen⟩ hraw
 have hrdR:OJ (bY (b.drop (dR (bX b).crc))) (bX b).rate.toNat (bX b).chans=rdR b:=rfl;rw[hrdR]at hraw;have m7:∀x,b.getD x 0<=255:=λx=>by
  rw[dh]
  cases h:b[x]? with
  |none=>simp
  |some v=>exact hb2 v (dH h)
 by_cases hc:(bX b).crc=true∧¬FV b
 .have e:C7 b=250:=by rw[C7,aa (by rw[h0];decide),aa h1,aa h2,ac hc]
  obtain⟨e1,e2⟩:=zA 250 k_ e;rw[e,e1,e2];obtain⟨hc1,hc2⟩:=hc;have hsum:=hsum hc1;have hcl:=IG (b:=[b.take 7,b.drop 9].flatMap bY);rw[FV]at hc2;have hob:=abx (m7 7) (m7 8);have hS9:dR (bX b).crc=9:=by rw[hc1];rfl
  have g7:=oH (getD_some (b:=b) (i:=7) o_);have g8:=oH (getD_some (b:=b) (i:=8) o_);have hne2:¬((xq ([b.take 7,b.drop 9].flatMap bY):Nat):Int)=(b.getD 7 0:Nat)*256+(b.getD 8 0:Nat):=o_;rw[hS9]at hSz hS hraw;rw[Ua]at hsum;have sd9:=sd9 o_;obtain⟨_,hr9⟩:=rd9 b hb o_ hb2 (bX b).rate (bX b).chans (bX b).len (bX b).full [A_ 0,A_ 0,B_ false,A_ 0,A_ 0] [.nl,B_ false,A_ 0,.nl,.nl] _ hsum;rw[decide_eq_false hne2]at hr9;clear g7 g8 hob hsum hne2 hcl;generalize b.getD 7 0=B7 at *;generalize b.getD 8 0=B8 at *;generalize xq ([b.take 7,b.drop 9].flatMap bY)=CN at *;generalize bX b=HH at *;obtain⟨r,n,c,l,f⟩:=HH
  dsimp only at h1 h2 hc1 hSz
  subst hc1;rw[aE oD oC rfl];clear hraw;generalize ai (b.drop 9)=D9 at *;generalize ai b=B at *;simp(maxSteps:=300000) (disch:=omega)[↓ac,↓aa,sd9,hH,hbl,hSz,↓hr9,zF]
 have hns:(bX b).crc=true->FV b:=λh=>ll λh2=>hc ⟨h,h2⟩
 have eE:C7 b=match rdR b with|.ok _ _=>0|.er e=>((e+1:Nat):Int):=by rw[C7,aa (by rw[h0];decide),aa h1,aa h2,aa hc]
 have hob:=abx (m7 7) (m7 8);have g7:=oH (getD_some (b:=b) (i:=7) o_)
 cases hG:rdR b with
 |ok f m =>
  rw[hG]at eE hraw;simp only at eE hraw;have e1:rdH b=bX b:=by rw[rdH,ac eE]
  have e2:Zu b=f.ow:=by rw[Zu,ac eE,V8,ac eE,hG]
  rw[eE,e1,e2];have hX:dZ (share (aG 9 (dP f.chans))) (dP f.chans):=BM;have hY:dZ (share (aG 1 (dw f.bands))) (dw f.bands):=BM;have hZ:dZ (share (aG 1 (ai f.fill))) (ai f.fill):=BM;simp only[fe.ow]at hraw⊢;generalize share (aG 9 (dP f.chans))=X at *;generalize share (aG 1 (dw f.bands))=Y at *;generalize share (aG 1 (ai f.fill))=Z at *;obtain⟨⟨q1,q2,q3⟩,q4,q5⟩:=hX.facts;obtain⟨⟨y1,y2,y3⟩,y4,y5⟩:=hY.facts;obtain⟨⟨z1,z2,z3⟩,z4,z5⟩:=hZ.facts;obtain⟨t1,t2⟩:=hX.res;obtain⟨t3,t4⟩:=hY.res;obtain⟨t5,t6⟩:=hZ.res;have w1:=hX.one.1.2;have w2:=hY.one.1.2;have w3:=hZ.one.1.2
  cases hcc:(bX b).crc with
  |false =>
   rw[hcc]at hSz hraw;have hS7:dR false=7:=rfl;rw[hS7]at hSz hraw;generalize bX b=HH at *;obtain⟨r,n,c,l,fu⟩:=HH
   dsimp only at h1 h2 hcc hSz hraw
   subst hcc;rw[aE oD oC rfl];clear hsum hns hc g7;generalize ai b=B at *;simp(maxSteps:=300000) (disch:=omega)[↓ac,↓aa,-br,sd7,hH,hbl,hSz,hraw,t1,t2,t3,t4,t5,t6,w1,w2,w3,q1,q2,q3,q4,y1,y2,y3,y4,z1,z2,z3,z4]
  |true =>
   have hsum:=hsum hcc;have hns:=hns hcc;rw[FV]at hns;rw[hcc]at hSz hraw hS;have hS9:dR true=9:=rfl;rw[hS9]at hSz hraw hS;have g8:=oH (getD_some (b:=b) (i:=8) o_);have heq:((xq ([b.take 7,b.drop 9].flatMap bY):Nat):Int)=(b.getD 7 0:Nat)*256+(b.getD 8 0:Nat):=o_;have hcl:=IG (b:=[b.take 7,b.drop 9].flatMap bY);rw[Ua]at hsum;have sd9:=sd9 o_;obtain⟨_,hr9⟩:=rd9 b hb o_ hb2 (bX b).rate (bX b).chans (bX b).len (bX b).full [A_ 0,A_ 0,B_ false,A_ 0,A_ 0] [.nl,B_ false,A_ 0,.nl,.nl] _ hsum;rw[decide_eq_true heq]at hr9;clear g7 g8 hob hsum heq hcl hns;generalize bX b=HH at *;obtain⟨r,n,c,l,fu⟩:=HH
   dsimp only at h1 h2 hcc hSz hraw
   subst hcc;rw[aE oD oC rfl];clear hc m7;generalize ai (b.drop 9)=D9 at *;generalize ai b=B at *;simp(maxSteps:=300000) (disch:=omega)[↓ac,↓aa,-br,sd9,↓hr9,hH,hbl,hSz,hraw,t1,t2,t3,t4,t5,t6,w1,w2,w3,q1,q2,q3,q4,y1,y2,y3,y4,z1,z2,z3,z4]
 |er e =>
  rw[hG]at eE hraw;simp only at eE hraw;obtain⟨e1,e2⟩:=zA ((e+1:Nat):Int) o_ eE;rw[eE,e1,e2];have hE0:¬((e+1:Nat):Int)=0:=o_;generalize ((e+1:Nat):Int)=E at *
  cases hcc:(bX b).crc with
  |false =>
   rw[hcc]at hSz hraw;have hS7:dR false=7:=rfl;rw[hS7]at hSz hraw;generalize bX b=HH at *;obtain⟨r,n,c,l,fu⟩:=HH
   dsimp only at h1 h2 hcc hSz hraw
   subst hcc;rw[aE oD oC rfl];clear hsum hns hc g7;generalize ai b=B at *;simp(maxSteps:=300000) (disch:=omega)[↓ac,↓aa,sd7,hH,hbl,hSz,hraw,hE0,zF]
  |true =>
   have hsum:=hsum hcc;have hns:=hns hcc;rw[FV]at hns;rw[hcc]at hSz hraw hS;have hS9:dR true=9:=rfl;rw[hS9]at hSz hraw hS;have g8:=oH (getD_some (b:=b) (i:=8) o_);have heq:((xq ([b.take 7,b.drop 9].flatMap bY):Nat):Int)=(b.getD 7 0:Nat)*256+(b.getD 8 0:Nat):=o_;have hcl:=IG (b:=[b.take 7,b.drop 9].flatMap bY);rw[Ua]at hsum;have sd9:=sd9 o_;obtain⟨_,hr9⟩:=rd9 b hb o_ hb2 (bX b).rate (bX b).chans (bX b).len (bX b).full [A_ 0,A_ 0,B_ false,A_ 0,A_ 0] [.nl,B_ false,A_ 0,.nl,.nl] _ hsum;rw[decide_eq_true heq]at hr9;clear g7 g8 hob hsum heq hcl hns;generalize bX b=HH at *;obtain⟨r,n,c,l,fu⟩:=HH
   dsimp only at h1 h2 hcc hSz hraw
   subst hcc;rw[aE oD oC rfl];clear hc m7;generalize ai (b.drop 9)=D9 at *;generalize ai b=B at *;simp(maxSteps:=300000) (disch:=omega)[↓ac,↓aa,sd9,↓hr9,hH,hbl,hSz,hraw,hE0,zF]
def stP (rt n:Int)(cb:Bool)(b:C_):Prop:=om b=0∧(bX b).rate=rt∧(bX b).chans=n∧(bX b).crc=cb∧(bX b).len<=b.length
instance {rt n:Int}{cb:Bool}{b:C_}:Decidable (stP rt n cb b):=by unfold stP;infer_instance
structure Slt where
 pos:Nat
 len:Nat
 lost:Bool
 fr:fe
abbrev Slt.cells (s:Slt):W_:=[.int .i64 s.pos,.int .i64 s.len,.bool s.lost,.lst (dP s.fr.chans),.bool s.fr.common,.int .i64 s.fr.mask,.lst (dw s.fr.bands),.lst (ai s.fr.fill)]
def asz (b:C_):∃X Y Z:AV,dZ X (dP (V8 b).chans)∧dZ Y (dw (V8 b).bands)∧dZ Z (ai (V8 b).fill)∧Zu b=[X,B_ ((V8 b).common),A_ ((V8 b).mask),Y,Z]:=by
 unfold Zu;by_cases h:C7 b=0
 .rw[ac h];exact⟨_,_,_,BM,BM,BM,rfl⟩
 .rw[aa h,V8,aa h];exact⟨.nl,.nl,.nl,.inr ⟨rfl,rfl⟩,.inr ⟨rfl,rfl⟩,.inr ⟨rfl,rfl⟩,rfl⟩
section
variable (rt n:Int)(cb:Bool)(cz:Int)(b:C_)(hb:b.length<=9000)(hb2:∀x∈b,x<=255)
include hb hb2
end
theorem dZ.toD {x:AV}{l:E_}(h:dZ x l):toD x=some (.lst l):=by
 rcases h with rfl|⟨rfl,rfl⟩<;>rfl
section
variable (rt n:Int)(cb:Bool)(cz:Int)(b:C_)(hb:b.length<=8999)(hb2:∀x∈b,x<=255)
include hb hb2
end
instance {rt n:Int}:Decidable (pw rt n):=by unfold pw;infer_instance
def de {x k a s:Nat}{l:C_}:gv (ar x k++l) (k+a) s=gv l a s:=by
 unfold gv;rw[List.drop_append,df,show k+a-k=a by omega,ck (by rw[df];omega),aK]
def M6 {v s:Nat}{l:C_}(h:v<2 ^ s):gv (ar v s++l) 0 s=v:=by
 unfold gv;rw[mK,List.take_append_of_le_length (by rw[df];exact al _),cg (by rw[df];exact al _),U3,Nat.zero_mul,bv,eK h]
def NX (h:pV):jY h 14=ar 4095 12++(ar 0 1++(ar 0 2++(ar (cN h.crc).toNat 1++(ar 1 2++(ar h.rate.toNat 4++(ar 0 1++(ar h.chans.toNat 3++(ar 0 1++(ar 0 1++(ar 0 2++(ar h.len.toNat 13++(ar h.full.toNat 11++ar 0 2)))))))))))):=by
 simp[jY,fB,po,List.range,List.range.loop]
def ayB {h:pV}(ok:mg h):mh (jY h 14)=h:=by
 obtain⟨r,n,c,l,f⟩:=h;simp only[mg]at ok;have h79:dR c=7∨dR c=9:=by cases c<;>simp[dR]
 obtain⟨R,rfl⟩:=aB ok.1.1;obtain⟨N,rfl⟩:=aB (show 0<=n by omega);obtain⟨L,rfl⟩:=aB (show 0<=l by omega);obtain⟨F,rfl⟩:=aB (show 0<=f by omega);have hc:(cN c).toNat<2 ^ 1:=by cases c<;>decide
 have e1:gv (jY ⟨R,N,c,L,F⟩ 14) 18 4=R:=by
  rw[NX];simp only[au];rw[show 18=12+(1+(2+(1+(2+0)))) by rfl,de,de,de,de,de,M6 o_]
 have e2:gv (jY ⟨R,N,c,L,F⟩ 14) 23 3=N:=by
  rw[NX];simp only[au];rw[show 23=12+(1+(2+(1+(2+(4+(1+0)))))) by rfl,de,de,de,de,de,de,de,M6 o_]
 have e3:gv (jY ⟨R,N,c,L,F⟩ 14) 15 1=(cN c).toNat:=by
  rw[NX,show 15=12+(1+(2+0)) by rfl,de,de,de,M6 hc]
 have e4:gv (jY ⟨R,N,c,L,F⟩ 14) 30 13=L:=by
  rw[NX];simp only[au];rw[show 30=12+(1+(2+(1+(2+(4+(1+(3+(1+(1+(2+0)))))))))) by rfl,de,de,de,de,de,de,de,de,de,de,de,M6 o_]
 have e5:gv (jY ⟨R,N,c,L,F⟩ 14) 43 11=F:=by
  rw[NX];simp only[au];rw[show 43=12+(1+(2+(1+(2+(4+(1+(3+(1+(1+(2+(13+0))))))))))) by rfl,de,de,de,de,de,de,de,de,de,de,de,de,M6 o_]
 rw[mh,e1,e2,e3,e4,e5]
 cases c<;>rfl
def zB:C_:=[255,241,64,64,1,96,20,0,0,0,7]
def aGR:om zB=0∧dR (bX zB).crc=7∧(bX zB).rate=0∧(bX zB).chans=1∧(bX zB).len=11∧(bX zB).crc=false:=e_
def aF5:∀x∈zB,x<=255:=k_
def R7 {h:pV}:(jY h 14).length=56:=by rw[NX];simp
def aDQ {h:pV}:bin (jY h 14):=by
 intro x hx;obtain⟨i,_,hx⟩:=kz.1 hx;exact dx x hx
def mC (cb:Bool)(h l:C_):C_:=if cb then [xq ([h,l].flatMap bY) / 256,xq ([h,l].flatMap bY) % 256] else []
def Z6 (rt n:Int)(cb:Bool)(cz full:Int)(f:fe)(hf:f.Fit)(X Y Z:AV)(hX:dZ X (dP f.chans))(hY:dZ Y (dw f.bands))(hZ:dZ Z (ai f.fill))(l h7:C_)(hl:mU rt.toNat n f=bY l)(hl2:∀x∈l,x<=255)(h71:jY ⟨rt,n,cb,((dR cb+l.length:Nat):Int),full⟩ 14=bY h7)(h72:∀x∈h7,x<=255) :
  ((pw rt n∧uJ rt.toNat n f∧(l.length:Int)<=192*n)∧mg ⟨rt,n,cb,((dR cb+l.length:Nat):Int),full⟩∧bj prog xj [mp rt n cb cz,A_ full,qR f X Y Z]=some (.tup [.own true 1 (ai (h7++(mC cb h7 l++l))),A_ 0]))∨
  ((pw rt n∧uJ rt.toNat n f∧(l.length:Int)<=192*n)∧¬mg ⟨rt,n,cb,((dR cb+l.length:Nat):Int),full⟩∧bj prog xj [mp rt n cb cz,A_ full,qR f X Y Z]=some (.tup [.nl,A_ 2]))∨
  (¬(pw rt n∧uJ rt.toNat n f∧(l.length:Int)<=192*n)∧∃e:Int,e≠0∧bj prog zN [mp rt n cb cz,qR f X Y Z]=some (A_ e)∧bj prog xj [mp rt n cb cz,A_ full,qR f X Y Z]=some (.tup [.nl,A_ e])):=by
 have hW:=asl rt n cb cz f hf X Y Z hX hY hZ;have hu:((mU rt.toNat n f).length:Int)=8*(l.length:Int):=by rw[hl,fG];omega
 obtain⟨⟨x1,x2,x3⟩,x4,x5⟩:=hX.facts;obtain⟨⟨y1,y2,y3⟩,y4,y5⟩:=hY.facts;obtain⟨⟨z1,z2,z3⟩,z4,z5⟩:=hZ.facts;obtain⟨⟨vx,ux⟩,wx⟩:=hX.one;obtain⟨⟨vy,uy⟩,wy⟩:=hY.one;obtain⟨⟨vz,uz⟩,wz⟩:=hZ.one;rw[hu]at hW;rcases hW with ⟨k1,k2,k3,hW⟩|⟨hno,e,he,hC,hW⟩
 rotate_left
 .refine .inr (.inr ⟨λh=>hno ⟨h.1,h.2.1,o_⟩,e,he,hC,?_⟩);simp only[mp,qR]at hW⊢;rw[aE C3 CW rfl];simp(maxSteps:=300000) (disch:=omega)[↓ac,↓aa,-br,x1,x2,x3,x4,y1,y2,y3,y4,z1,z2,z3,z4,ux,uy,uz,vx,vy,vz,wx,wy,wz,hW]
 have hW:=hW l hl hl2;have hn2:=k1.2;have hll:l.length<=400:=o_;have hbl:=bD (l:=l);have hsz:=KR cb;have hR:=aaV ⟨rt,n,cb,((dR cb+l.length:Nat):Int),full⟩;have c1:((dR cb+l.length:Nat):Int)=(dR cb:Int)+l.length:=rfl;have h79:dR cb=7∨dR cb=9:=by cases cb<;>simp[dR]
 by_cases ok:mg ⟨rt,n,cb,((dR cb+l.length:Nat):Int),full⟩
 rotate_left
 .refine .inr (.inl ⟨⟨k1,k2,o_⟩,ok,?_⟩);rw[decide_eq_false ok]at hR;simp only[mp,qR,c1]at hW hR⊢;clear h71 ok;generalize dR cb=S at *;rw[aE C3 CW rfl];generalize ai l=BL at *;simp(maxSteps:=300000) (disch:=omega)[↓ac,↓aa,-br,x1,x2,x3,x4,y1,y2,y3,y4,z1,z2,z3,z4,ux,uy,uz,vx,vy,vz,wx,wy,wz,hW,hsz,hR,hbl]
 refine .inl ⟨⟨k1,k2,o_⟩,ok,?_⟩;have hw:=S5 _ ok;rw[decide_eq_true ok]at hR;have h7l:h7.length=7:=by
  have:=aV List.length h71;rw[R7,fG]at this;omega
 rw[h71]at hw;have hP:=adU h7 o_ h72;have h7b:=bD (l:=h7);have ob:=Pj (l:=l);have l1:1<=l.length:=by
  have:=ok.2.2.2.1;simp only[]at this;omega
 have hsum:=ajM [h7,l] (λx hx=>by
  simp only[ay,cq,ee]at hx;rcases hx with rfl|rfl
  .exact⟨⟨o_,o_⟩,h72⟩
  .exact⟨⟨o_,o_⟩,hl2⟩) s_ (λh=>by
  have:=aV List.length h;simp only[aD,aj,fG,bg]at this;omega)
 have hcl:=IG (b:=[h7,l].flatMap bY);rw[Ua]at hsum;unfold mC;generalize xq ([h7,l].flatMap bY)=C at *;have e8:(C:Int).fdiv 256=((C / 256:Nat):Int):=by rw[fD _ o_];rfl
 have hC8:C / 256<=255:=o_;have hw8:wr .u8 (C:Int)=((C % 256:Nat):Int):=by rw[adA];rfl
 simp only[mp,qR,c1]at hW hR hw⊢;clear h71 ok
 cases cb with
 |false =>
  have hs7:((dR false:Nat):Int)=7:=rfl;rw[hs7]at hR hw hsz;have e0:ai (h7++((if false=true then [C / 256,C % 256] else [])++l))=ai h7++ai l:=xa;rw[e0];rw[aE C3 CW rfl];generalize ai (bY h7)=U7 at *;simp(maxSteps:=300000) (disch:=omega)[↓ac,↓aa,-br,x1,x2,x3,x4,y1,y2,y3,y4,z1,z2,z3,z4,ux,uy,uz,vx,vy,vz,wx,wy,wz,hW,hsz,hR,hbl,hw,hP,h7b,ob]
 |true =>
  have hs9:((dR true:Nat):Int)=9:=rfl;rw[hs9]at hR hw hsz;have e0:ai (h7++((if true=true then [C / 256,C % 256] else [])++l))=ai h7++([[.int .u8 ((C / 256:Nat):Int)],[.int .u8 ((C % 256:Nat):Int)]]++ai l):=by rw[xa,ac rfl,xa];rfl
  rw[e0];generalize C % 256=C2 at *;generalize C / 256=C1 at *;rw[aE C3 CW rfl];generalize ai (bY h7)=U7 at *;simp(config := { maxSteps:=3000000 }) (disch:=omega)[↓ac,↓aa,-br,x1,x2,x3,x4,y1,y2,y3,y4,z1,z2,z3,z4,ux,uy,uz,vx,vy,vz,wx,wy,wz,hW,hsz,hR,hbl,hw,hP,h7b,ob,hsum,e8,hw8]
def al4 {H:pV}{h7 t:C_}(ok:mg H)(hw:jY H 14=bY h7)(ht:dR H.crc<=7+t.length):om (h7++t)=0∧bX (h7++t)=H:=by
 have h7l:h7.length=7:=by
  have:=aV List.length hw;rw[R7,fG]at this;omega
 have e1:(h7++t).take 7=h7:=by rw[<-h7l,List.take_left]
 have e2:mh (bY ((h7++t).take 7))=H:=by rw[e1,<-hw,ayB ok]
 have e3:om (h7++t)=0:=by
  rw[om,e2,aa (by rw[aj];omega),ac ⟨ok,by rw[e1];exact hw⟩]
 exact⟨e3,by rw[bX,ac e3,e2]⟩
def ahk {cb:Bool}{h l:C_}:(mC cb h l).length+7=dR cb:=by cases cb<;>rfl
def axp {rt n:Int}{cb:Bool}{full:Int}{f:fe}{l h7:C_}{m:Nat}(ok:mg ⟨rt,n,cb,((dR cb+l.length:Nat):Int),full⟩)(hw:jY ⟨rt,n,cb,((dR cb+l.length:Nat):Int),full⟩ 14=bY h7)(hG:OJ (bY l) rt.toNat n=.ok f m) :
  C7 (h7++(mC cb h7 l++l))=0∧V8 (h7++(mC cb h7 l++l))=f∧rdH (h7++(mC cb h7 l++l))=⟨rt,n,cb,((dR cb+l.length:Nat):Int),full⟩:=by
 have hsl:=ahk (cb:=cb) (h:=h7) (l:=l);have h7l:h7.length=7:=by
  have:=aV List.length hw;rw[R7,fG]at this;omega
 obtain⟨e1,e2⟩:=al4 (t:=mC cb h7 l++l) ok hw (by rw[aj];simp only[];omega);have hd:(h7++(mC cb h7 l++l)).drop (dR cb)=l:=by
  rw[<-aA,List.drop_left' (by rw[aj];omega)]
 have hr:rdR (h7++(mC cb h7 l++l))=.ok f m:=by
  rw[rdR,e2,hd,hG]
 have hbl:(h7++(mC cb h7 l++l)).length=dR cb+l.length:=by
  rw[aj,aj];omega
 have hs:¬(cb=true∧¬FV (h7++(mC cb h7 l++l))):=by
  rintro ⟨rfl,h⟩
  refine h ?_;have hd9:(h7++(mC true h7 l++l)).drop 9=l:=hd;have ht:(h7++(mC true h7 l++l)).take 7=h7:=by rw[<-h7l,List.take_left]
  rw[FV,hd9,ht];have hsb:mC true h7 l=[xq ([h7,l].flatMap bY) / 256,xq ([h7,l].flatMap bY) % 256]:=rfl;rw[hsb];generalize xq ([h7,l].flatMap bY)=C;have g7:(h7++([C / 256,C % 256]++l)).getD 7 0=C / 256:=by
   rw[dh,bW o_,h7l];rfl
  have g8:(h7++([C / 256,C % 256]++l)).getD 8 0=C % 256:=by
   rw[dh,bW o_,h7l];rfl
  rw[g7,g8];omega
 have hE:C7 (h7++(mC cb h7 l++l))=0:=by
  rw[C7,aa (by rw[e1];decide),e2,hbl];simp only[];rw[aa o_,aa o_,aa hs,hr]
 exact⟨hE,by rw[V8,ac hE,hr],by rw[rdH,ac hE,e2]⟩
@[simp] def aDG {n:Bool}{k:U_}{x y:Rd}:dE (.bina n k x y)=false:=rfl
@[simp] def aB0 {n:Bool}{k:U_}{x y:Rd}:zW (.bina n k x y)=false:=rfl
@[simp] def aFI {P:Nat->Z_}{d s:Nat}{w n:Bool}{k:U_}{x y:Rd}{e:aW}{hs:HS}:cY (Dn P) ⟨some d,some (s,w),.bina n k x y,[]⟩ ⟨e,hs⟩=bA (get e s) λg=>gZ g w (some ⟨put e d (.tup []),hs⟩) (bQ P (.bina n k x y) e hs λv e hs=>some ⟨put e d (firm v),hs⟩):=by
 have h:=J1 (P:=P) (i:=⟨some d,none,.bina n k x y,[]⟩) (e:=e) (hs:=hs) (k:=λe hs=>some ⟨e,hs⟩);have h2:VZ P ⟨some d,none,.bina n k x y,[]⟩ e hs (λe hs=>some ⟨e,hs⟩)=bQ P (.bina n k x y) e hs λv e hs=>some ⟨put e d (firm v),hs⟩:=rfl
 rw[h2]at h;rw[h];unfold cY;simp only
 cases get e s with
 |none=>rfl
 |some g =>
  simp only[bA];have key:∀x:Y_,x=bA x λst=>some ⟨st.env,st.hs⟩:=λx=>by cases x<;>rfl
  cases g with
  |d x =>
   cases x with
   |bool b =>
    unfold gZ;simp only
    cases b == w with
    |true=>exact key _
    |false=>rfl
   |_=>rfl
  |tup l=>cases l<;>rfl
  |_=>rfl
def arI:∃p,bj prog RB []=some (.tup [mp 0 1 false 0,.agg [.own p 9 (dP [c0]),B_ false,A_ 0,.nl,.nl],B_ true]):=⟨false,BX 600 (by kernel_rfl)⟩
def axv:bj prog xj [mp 0 1 false 0,A_ 5,.agg [.d (.lst (dP [c0])),B_ false,A_ 0,.nl,.nl]]=some (.tup [.own true 1 (ai zB),A_ 0]):=by
 have hF:mU (0:Int).toNat 1 F0=bY [0,0,0,7]:=by rw[show(0:Int).toNat=0 from rfl,ayy];decide
 have h:=Z6 0 1 false 0 5 F0 azm (.d (.lst (dP [c0]))) .nl .nl dZ.d (.inr ⟨rfl,rfl⟩) (.inr ⟨rfl,rfl⟩) [0,0,0,7] [255,241,64,64,1,96,20] hF k_ e_ k_;have hk:pw 0 1∧uJ (0:Int).toNat 1 F0∧(([0,0,0,7]:C_).length:Int)<=192*1:=⟨avQ.1,avQ.2,k_⟩
 rcases h with ⟨_,_,h⟩|⟨_,h,_⟩|⟨h,_⟩
 .exact h
 .exact absurd k_ h
 .exact absurd hk h
def alr:bj prog Cc []=some (B_ true):=by
 obtain⟨p,h1⟩:=arI;have h2:=axv;have h3:=Tu zB k_ aF5 (.d (.lst (ai zB))) dZ.d;obtain⟨g1,g2,g3,g4,g5,g6⟩:=aGR;have g7:(bX zB).full=5:=e_;rw[g1]at h3;have hts:=λh=>Zq (h:=h) (b:=zB)
 have hst:zB.map Nat.toUInt8=[255,241,64,64,1,96,20,0,0,0,7]:=rfl;rw[hst]at hts;have hcs:(bX zB).cells=[A_ 0,A_ 1,B_ false,A_ 11,A_ 5]:=by simp only[pV.cells,g3,g4,g5,g6,g7]
 rw[hcs]at h3;have hbn:K5 false [true,true,false,true,true] (.agg [A_ 0,A_ 1,B_ false,A_ 11,A_ 5]) (.agg [A_ 0,A_ 1,B_ false,A_ 11,A_ 5])=some (.bool true):=rfl;simp only[mp]at h1 h2;generalize dP [c0]=C at *;have hfl:=Pj (l:=zB);generalize ai zB=E at *;rw[aE Nn Ol rfl];simp(config := { maxSteps:=3000000 }) (disch:=omega)[↓ac,↓aa,h1,h2,h3,hts,hbn]
def awQ {r n l f:Int}{c:Bool}:K5 false [true,true,false,true,true] (.agg [A_ r,A_ n,B_ c,A_ l,A_ f]) (.agg [A_ r,A_ n,B_ c,A_ l,A_ f])=some (.bool true):=by
 have hk:mD IntKind.i64 IntKind.i64=true:=rfl
 cases c<;>simp[K5,bz,hk]
def arJ (rt n:Int)(cb:Bool)(cz full:Int)(f:fe)(hf:ahe f->f.Fit):bj prog xb [mp rt n cb cz,A_ full,.agg f.av]=some (B_ true):=by
 have ha:=alr;rcases ayH f with ⟨hs,hg⟩|hg
 rotate_left
 .simp only[fe.av]at hg⊢;rw[aE kw kD rfl];simp(maxSteps:=300000) (disch:=omega)[↓ac,↓aa,ha,hg]
 have hF:=hf hs;obtain⟨l,hl,hl2⟩:=XD ((mU rt.toNat n f).length / 8) (b:=mU rt.toNat n f) (by have:=aDI (R:=rt.toNat) (n:=n) (f:=f);omega) aD0;obtain⟨h7,h71,h72⟩:=XD 7 (b:=jY ⟨rt,n,cb,((dR cb+l.length:Nat):Int),full⟩ 14) (by rw[R7]) aDQ;have hW:=Z6 rt n cb cz full f hF _ _ _ dZ.d dZ.d dZ.d l h7 hl hl2 h71 h72;rcases hW with ⟨hk,ok,hW⟩|⟨hk,hok,hW⟩|⟨_,e,he,hC,hW⟩
 rotate_left
 .have hu:((mU rt.toNat n f).length:Int)=8*(l.length:Int):=by rw[hl,fG];omega
  have hC:=ad0 rt n cb cz f hF _ _ _ dZ.d dZ.d dZ.d;rcases hC with ⟨_,_,_,hC⟩|⟨hC,_⟩
  rotate_left
  .exact absurd ⟨hk.1,hk.2.1,by have:=hk.2.2;omega⟩ hC
  have hfu:full<0∨2047<full:=by
   have h1:=hk.1;have h2:=hk.2.2;have l1:1<=l.length:=by
    have hb1:(uv rt.toNat n f).length<=(mU rt.toNat n f).length:=by
     show _<=(xR (uv rt.toNat n f)).length;rw[xR,aj];omega
    have hb2:3<=(uv rt.toNat n f).length:=by rw[uv,aj,df];omega
    omega
   rcases Int.lt_or_le full 0 with h|h
   .exact .inl h
   rcases Int.lt_or_le 2047 full with h3|h3
   .exact .inr h3
   refine absurd ⟨?_,h1.2,⟨h,h3⟩,?_,?_⟩ hok
   .have:=h1.1;unfold dW at this;exact⟨by simp only[];omega,by simp only[];omega⟩
   .simp only[];omega
   .simp only[];omega
  simp only[fe.av,mp,qR]at hg hC hW⊢;rw[aE kw kD rfl];rcases hfu with hfu|hfu
  .simp(maxSteps:=300000) (disch:=omega)[↓ac,↓aa,ha,hg,hC,hW]
  .by_cases h0:full<0
   .omega
   .simp(maxSteps:=300000) (disch:=omega)[↓ac,↓aa,ha,hg,hC,hW]
 .simp only[fe.av,mp,qR]at hg hC hW⊢;rw[aE kw kD rfl];simp(maxSteps:=300000) (disch:=omega)[↓ac,↓aa,ha,hg,hC,hW,he]
 obtain⟨hcf,hok,hlen⟩:=hk;have hR0:=hcf.1;unfold dW at hR0;have hn:=hcf.2;have hG:=aqI (R:=rt.toNat) o_ hn hF hok;rw[hl]at hG;obtain⟨r1,r2,r3⟩:=axp ok h71 hG;have hsl:=ahk (cb:=cb) (h:=h7) (l:=l);have h7l:h7.length=7:=by
  have:=aV List.length h71;rw[R7,fG]at this;omega
 obtain⟨e1,e2⟩:=al4 (t:=mC cb h7 l++l) ok h71 (by rw[aj];simp only[];omega);have hbl:(h7++(mC cb h7 l++l)).length=dR cb+l.length:=by
  rw[aj,aj];omega
 have hb2:∀x∈h7++(mC cb h7 l++l),x<=255:=λx hx=>by
  rcases be.1 hx with hx|hx
  .exact h72 x hx
  rcases be.1 hx with hx|hx
  .unfold mC at hx;have:=IG (b:=[h7,l].flatMap bY);split at hx
   .simp only[ay,cq,ee]at hx;rcases hx with rfl|rfl<;>omega
   .simp at hx
  .exact hl2 x hx
 have h79:dR cb=7∨dR cb=9:=by cases cb<;>simp[dR]
 have hRd:=ari (h7++(mC cb h7 l++l)) o_ hb2 (.d (.lst (ai (h7++(mC cb h7 l++l))))) dZ.d;have hHd:=Tu (h7++(mC cb h7 l++l)) o_ hb2 (.d (.lst (ai (h7++(mC cb h7 l++l))))) dZ.d;obtain⟨X,Y,Z,hX,hY,hZ,hA⟩:=asz (h7++(mC cb h7 l++l));rw[r2]at hX hY hZ;rw[r1,r3,hA,r2]at hRd;rw[e1,e2]at hHd;have hS:=apn f hF X Y Z _ _ _ hX hY hZ dZ.d dZ.d dZ.d;obtain⟨⟨x1,x2,x3⟩,x4,x5⟩:=hX.facts;obtain⟨⟨y1,y2,y3⟩,y4,y5⟩:=hY.facts;obtain⟨⟨z1,z2,z3⟩,z4,z5⟩:=hZ.facts;obtain⟨⟨vx,ux⟩,wx⟩:=hX.one;obtain⟨⟨vy,uy⟩,wy⟩:=hY.one;obtain⟨⟨vz,uz⟩,wz⟩:=hZ.one;have hBl:=bD (l:=h7++(mC cb h7 l++l));rw[hbl]at hBl;have c1:((dR cb+l.length:Nat):Int)=(dR cb:Int)+l.length:=rfl;have hbn:=fun(r n l f:Int) (c:Bool)=>awQ (r:=r) (n:=n) (l:=l) (f:=f) (c:=c)
 simp only[fe.av,mp,qR,pV.cells,c1]at hg hW hRd hHd hS⊢;clear h71 ok hG r1 r2 r3 e1 e2 hb2 hbl hl h7l hsl;generalize dR cb=S at *;generalize ai (h7++(mC cb h7 l++l))=W at *;rw[aE kw kD rfl];simp(config := { maxSteps:=3000000 }) (disch:=omega)[↓ac,↓aa,-br,x1,x2,x3,x4,y1,y2,y3,y4,z1,z2,z3,z4,ux,uy,uz,vx,vy,vz,wx,wy,wz,ha,hg,hW,hRd,hHd,hS,hBl,hbn]
@[simp] def aJw {x y:Y_}:gZ (B_ true) false x y=x:=rfl
@[simp] def aJv {x y:Y_}:gZ (B_ false) false x y=y:=rfl
@[simp] def aJ5 {w:Bool}{x y:Y_}:gZ (.tup []) w x y=x:=rfl
def YU {H:Type}:∀{ds:List (DataW H)},xO [(true,agc),(false,[.int .i64]),(true,agw)] ds->(∃d1 d2 d3,ds=[d1,d2,d3])∧∃(rt n:Int) (cb:Bool) (cz full:Int) (f:fe),f.Rng∧Ku [(true,agc),(false,[Ty.int .i64]),(true,agw)] ds=[mp rt n cb cz,A_ full,.agg f.av]
 |[d1,d2,d3],h=>by
  simp only[xO,and_true]at h;obtain⟨h1,h2,h3⟩:=h;obtain⟨rt,n,cb,cz,e1⟩:=aA6 h1;obtain⟨x2,e2,h2⟩:=HD h2;obtain⟨k,rfl,hk⟩:=tA h2;obtain⟨f,e3,hf⟩:=aA5 h3;refine⟨⟨_,_,_,rfl⟩,rt,n,cb,cz,k,f,hf,?_⟩;simp only[Ku,e2,e3,agj,e1]
 |[],h=>by simp[xO]at h
 |[_],h=>by simp[xO]at h
 |[_,_],h=>by simp[xO]at h
 |_::_::_::_::_,h=>by simp[xO]at h
end Go.Vm
end
