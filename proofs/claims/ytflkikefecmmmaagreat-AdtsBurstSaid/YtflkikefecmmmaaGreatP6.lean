import Derived.Test.YtflkikefecmmmaaGreatP5
set_option linter.unusedVariables false
set_option linter.unusedSimpArgs false
set_option linter.defProp false
set_option linter.unusedSectionVars false
noncomputable section
namespace Go.Vm
set_option maxRecDepth 100000
set_option maxHeartbeats 8000000
def ahU:∀{r t:G_}{w z:Int},ee r t w z≠none->r.length=t.length∧∀n∈t,-1<=n∧n<=511
 |[],[],_,_,_=>⟨rfl,s_⟩
 |[],_::_,_,_,h=>absurd rfl h
 |_::_,[],_,_,h=>absurd rfl h
 |k::r,v::t,w,z,h=>by
  obtain⟨c1,c2,c3⟩:=qt h;rw[c3]at h;obtain⟨i1,i2⟩:=ahU h;refine⟨by rw[aq,aq,i1],λn hn=>?_⟩;rcases ay.1 hn with rfl|hn
  .by_cases h0:k=0
   .have:=c1 h0;omega
   .exact SI (c2 h0)
  .exact i2 n hn
def ado:∀{g:H_}{t:K_}{w z:Int},na g t w z≠none->∀l∈t,∀n∈l,-1<=n∧n<=511
 |[],[],_,_,_=>by simp
 |[],_::_,_,_,h=>absurd rfl h
 |_::_,[],_,_,h=>absurd rfl h
 |l::r,t::s,w,z,h=>by
  rw[na]at h
  cases e:ee (aN l) t w z with
  |none=>rw[e]at h;exact absurd rfl h
  |some p =>
   rw[e]at h;intro q hq;rcases ay.1 hq with rfl|hq
   .exact(ahU (by rw[e];simp)).2
   .exact ado h q hq
abbrev K3 (v:Hd×G_):cQ:=⟨v.1.gain,v.1.inf,v.1.S,v.1.T,v.1.F,v.2⟩
def aA9 {o p:Nat}(ho:o<=1)(hp:p<=1)(h:ZQ (o:Int) p=0):o=0∧p=0:=by
 unfold ZQ at h;split at h<;>omega
def auh {b:C_}(hb:b.length<=1000000000){r:Nat}{i:aO}{q:Bool}(hr:r<=11)(hi:i.Fit){a:Int}{v:Hd×G_}{n:Nat}(h:CC b a r q i=.ok v n) :
  ∃A:Nat,a=A∧(K3 v).Fit∧nG r (K3 v)∧At b A n (C9 r (K3 v) q)∧(q=true->v.1.inf=i):=by
 unfold CC at h;obtain⟨u0,n0,e0,g0⟩:=aU.1 h;clear h;have ha:=amY e0;obtain⟨A,rfl⟩:=aA ha;have f0:=(cy (s:=0) o_).1 e0;have f0':n0=A∧A<=b.length:=eD.1 f0.2;obtain⟨f0a,f0b⟩:=f0'
 cases f0a
 by_cases hm:q=true∧¬i.may r
 .rw[ac hm]at g0;exact absurd g0 (by simp)
 rw[aa hm]at g0;have hq:q=true->i.may r:=λh=>lv λh2=>hm ⟨h,h2⟩
 obtain⟨H,nH,eH,g1⟩:=aU.1 g0;clear g0;obtain⟨Z,nZ,eZ,g2⟩:=aU.1 g1;clear g1;by_cases hend:H.od=0∧(H.is=1->pf H.F=true)
 rotate_left
 .rw[aa hend]at g2;exact absurd g2 (by simp)
 rw[ac hend]at g2;injection g2 with h1 h2
 subst h1 h2;have hR:ep (r:Int):=o_;have pH:=(OE b hb r hR q i hi _ (.inl rfl) (λh=>by rw[ar];exact hq h) n0 o_ 0 0).2;rw[ar]at pH;have p:=pH H nH eH;unfold Dt at eH;obtain⟨g,n1,e1,y1⟩:=aU.1 eH;clear eH;obtain⟨j,n2,e2,y2⟩:=aU.1 y1;clear y1;obtain⟨S,n3,e3,y3⟩:=aU.1 y2;clear y2;obtain⟨T,n4,e4,y4⟩:=aU.1 y3;clear y3;obtain⟨o,n5,e5,y5⟩:=aU.1 y4;clear y4;obtain⟨s,n6,e6,y6⟩:=aU.1 y5;clear y5;obtain⟨F,n7,e7,y7⟩:=aU.1 y6;clear y6;obtain⟨o2,n8,e8,y8⟩:=aU.1 y7;clear y7;injection y8 with k1 k2
 subst k1 k2;simp only at hend eZ p;have f1:=(cy (s:=8) o_).1 e1;have hjm:j.may r:=p.may;have hm11:=gR hr hjm;have f2:At b n1 n2 (if q then [] else lH j)∧(q=true->j=i):=by
  cases q with
  |true =>
   rw[ac rfl]at e2⊢;injection e2 with k1 k2
   subst k1 k2;exact⟨eD.2 ⟨rfl,(dF f1.2).2.1⟩,λ_=>rfl⟩
  |false =>
   rw[aa s_]at e2⊢;exact⟨((PQ hr).1 e2).2,λh=>absurd h s_⟩
 have f3:=(Zv hm11 (dF f2.1).2.1).1 e3;have f4:=(adL (dF f3.2).2.1 (λl hl=>acx (f3.1.2 l hl)) o_).1 e4;have f5:=ao4 e5;have f6:=ao4 e6;have f8:=ao4 e8;have hoo:=aA9 f5.1 f8.1 hend.1;have hF:T2 j F∧At b n4 n8 (if pf F then 0::1::(jJ j.short F++[0]) else [0,0,0]):=by
  rw[hoo.1]at f5;rw[hoo.2]at f8;by_cases hs:s=1
  .rw[ac hs]at e7;have f7:=(al6 (dF f6.2).2.1).1 e7;rw[hend.2 hs];rw[hs]at f6;exact⟨f7.1,bb (X:=[0]) |>.2 ⟨n5,f5.2,bb (X:=[1]) |>.2 ⟨n6,f6.2,bb.2 ⟨n7,f7.2,f8.2⟩⟩⟩⟩
  .rw[aa hs]at e7;have hs0:s=0:=o_;injection e7 with k1 k2
   subst k1 k2;have han:pf (List.replicate j.many ([]:AA_))=false:=by
    rw[pf,mX];intro l hl;rw[cH hl];simp
   rw[han];rw[hs0]at f6;exact⟨⟨by rw[aL],λl hl=>by rw[cH hl];exact⟨dD _,s_⟩⟩,bb (X:=[0]) |>.2 ⟨n5,f5.2,bb (X:=[0]) |>.2 ⟨n6,f6.2,f8.2⟩⟩⟩
 have hg:=p.gain;simp only at hg;obtain⟨l1,l2,l3⟩:=arC (c:=⟨g,j,S,T,F,Z⟩) hr hjm f3.1 (dF hF.2).2.1 eZ;have hmx:=ka hm11;have hmm:=zD j;obtain⟨q1,q2⟩:=d8 hm11;have hgl:j.groups.length<=8:=by have:=mT (λn hn=>(q1 n hn).1);omega
 have hSl:S.length<=8:=by have:=f3.1.1;omega
 have hTl:T.length=S.length:=by have:=aP List.length p.T;simpa using this
 have hft:=p.fit;simp only at hft;refine⟨n0,rfl,?_,?_,?_,f2.2⟩
 .refine⟨by simp only[];omega,hft,⟨by simp only[];omega,λl hl=>by have:=p.Sl l hl;omega⟩,λl hl x hx=>?_,⟨by simp only[];omega,λl hl=>?_⟩,λl hl x hx=>by have:=ado f4.1 l hl x hx;omega,⟨by have:=hF.1.1;simp only[];omega,λl hl=>by have:=p.F.2 l hl;exact⟨o_,λf hf=>by have:=this.2 f hf;omega⟩⟩,λl hl f hf=>?_,by have:=l1.1;simp only[]at this⊢;omega,l3⟩
  .have:=uc (f3.1.2 l hl) o_ x hx;have a1:=this.1;have a2:=this.2;omega
  .have h1:l.length∈T.map List.length:=dC.2 ⟨l,hl,rfl⟩;rw[show T.map List.length=S.map (λl=>(aN l).length) from p.T]at h1;obtain⟨x,hx,e⟩:=dC.1 h1;have:=Gg (f3.1.2 x hx);omega
  .have hw:=hF.1.2 l hl
   cases l with
   |nil=>exact absurd hf (by simp)
   |cons f0 lr =>
    have:=(hw.2 f0 rfl f hf).1;obtain⟨⟨b1,b2⟩,⟨b3,b4⟩,_,_,b5⟩:=this;have lf:AW j.short<=63:=by cases j.short<;>decide
    have of:xo j.short<=12:=by cases j.short<;>decide
    refine⟨o_,λx hx=>?_⟩;have:=b5 x hx;have hh:dS f.fine<=8∧4<=dS f.fine:=by cases f.fine<;>decide
    omega
 .exact⟨by simp only[];omega,hjm,f3.1,f4.1,hF.1,l1⟩
 .exact bb.2 ⟨n1,by simpa using f1.2,bb.2 ⟨n2,f2.1,bb.2 ⟨n3,f3.2,bb.2 ⟨n4,f4.2,bb.2 ⟨n8,hF.2,l2⟩⟩⟩⟩⟩
def AL {t:Ty}:∀{ds:W_},OkDs [t] ds->∃d,ds=[d]∧rg t d
 |[],h=>by simp[OkDs]at h
 |[d],h=>⟨d,rfl,by simpa [OkDs] using h⟩
 |_::_::_,h=>by simp[OkDs]at h
def tg {t:Ty}{ts:BG_}:∀{ds:W_},OkDs (t::ts) ds->∃d r,ds=d::r∧rg t d∧OkDs ts r
 |[],h=>by simp[OkDs]at h
 |d::r,h=>⟨d,r,rfl,by simpa only[OkDs] using h⟩
def agG {k:IntKind}:∀{d:D},rg (.int k) d->∃n,d=.int k n∧(Lit.int k n).wf=true
 |.int j n,h=>by
  simp only[rg]at h;obtain⟨rfl,h⟩:=h;exact⟨n,rfl,h⟩
 |.bool _,h=>by simp[rg]at h
 |.str _,h=>by simp[rg]at h
 |.lst _,h=>by simp[rg]at h
def sZ {d:D}(h:rg (.int .i64) d):∃n,d=.int .i64 n∧i64 n:=by
 obtain⟨n,e,h⟩:=agG h;refine⟨n,e,?_⟩;simp[Lit.wf,IntKind.min,IntKind.max,IntKind.signed,IntKind.bits]at h;omega
def anv {d:D}(h:rg (.int .u8) d):∃n:Nat,d=.int .u8 n∧n<=255:=by
 obtain⟨n,e,h⟩:=agG h;simp[Lit.wf,IntKind.min,IntKind.max,IntKind.signed,IntKind.bits]at h;refine⟨n.toNat,?_,o_⟩;rw[e,lE h.1]
def Io:∀{d:D},rg .bool d->∃b,d=.bool b
 |.bool b,_=>⟨b,rfl⟩
 |.int _ _,h=>by simp[rg]at h
 |.str _,h=>by simp[rg]at h
 |.lst _,h=>by simp[rg]at h
def J5 {es:BG_}:∀{d:D},rg (.lst es) d->∃xs,d=.lst xs∧∀x∈xs,OkDs es x
 |.lst xs,h=>⟨xs,rfl,by simpa only[rg] using h⟩
 |.int _ _,h=>by simp[rg]at h
 |.str _,h=>by simp[rg]at h
 |.bool _,h=>by simp[rg]at h
def Bb {α:Type}{es:BG_}{f:α->W_}{Q:α->Prop}(h1:∀x,OkDs es x->∃a,x=f a∧Q a):∀{xs:E_},(∀x∈xs,OkDs es x)->∃l:List α,xs=l.map f∧∀a∈l,Q a
 |[],_=>⟨[],rfl,s_⟩
 |x::r,h=>by
  obtain⟨a,rfl,ha⟩:=h1 x (h x (.head _));obtain⟨l,rfl,hl⟩:=Bb h1 (xs:=r) λy hy=>h y (.tail _ hy)
  exact⟨a::l,rfl,λb hb=>(ay.1 hb).elim (λe=>e▸ha) (hl b)⟩
def acr {d:D}(h:rg (.lst [.int .i64]) d):∃ns,d=.lst (aI ns)∧∀n∈ns,i64 n:=by
 obtain⟨xs,rfl,h⟩:=J5 h;obtain⟨l,rfl,hl⟩:=Bb (f:=λn=>[.int .i64 n]) (Q:=i64) (λx hx=>by
  obtain⟨d,rfl,hd⟩:=AL hx;obtain⟨n,rfl,hn⟩:=sZ hd;exact⟨n,rfl,hn⟩) h
 exact⟨l,rfl,hl⟩
def awc:BG_:=[.int .i64,.int .i64]
def avA:BG_:=[.int .i64,.int .i64,.bool,.bool,.lst [.int .i64]]
def avE:BG_:=[.int .i64,.int .u8,.int .u8,.int .i64,.lst [.int .i64],.lst [.lst awc],.lst [.lst [.int .i64]],.lst [.lst avA],.lst [.int .i64]]
def aAv {x:W_}(h:OkDs awc x):∃s:ba,x=s.cells∧i64 s.book∧i64 s.len:=by
 obtain⟨a,r,rfl,ha,h⟩:=tg h;obtain⟨b,rfl,hb⟩:=AL h;obtain⟨n,rfl,hn⟩:=sZ ha;obtain⟨m,rfl,hm⟩:=sZ hb;exact⟨⟨n,m⟩,rfl,hn,hm⟩
def aBu {x:W_}(h:OkDs avA x):∃f:ct,x=f.cells∧(i64 f.len∧i64 f.order)∧∀y∈f.coefs,i64 y:=by
 obtain⟨a,r,rfl,ha,h⟩:=tg h;obtain⟨b,r,rfl,hb,h⟩:=tg h;obtain⟨c,r,rfl,hc,h⟩:=tg h;obtain⟨d,r,rfl,hd,h⟩:=tg h;obtain⟨e,rfl,he⟩:=AL h;obtain⟨n,rfl,hn⟩:=sZ ha;obtain⟨m,rfl,hm⟩:=sZ hb;obtain⟨p,rfl⟩:=Io hc;obtain⟨q,rfl⟩:=Io hd;obtain⟨l,rfl,hl⟩:=acr he;exact⟨⟨n,m,p,q,l⟩,rfl,⟨hn,hm⟩,hl⟩
def acZ {α:Type}{es:BG_}{f:α->W_}{Q:α->Prop}(h1:∀x,OkDs es x->∃a,x=f a∧Q a){d:D}(h:rg (.lst [.lst es]) d):∃l:List (List α),d=.lst (l.map λr=>[.lst (r.map f)])∧∀r∈l,∀a∈r,Q a:=by
 obtain⟨xs,rfl,h⟩:=J5 h;obtain⟨l,rfl,hl⟩:=Bb (f:=λr:List α=>[.lst (r.map f)]) (Q:=λr=>∀a∈r,Q a) (λx hx=>by
  obtain⟨d,rfl,hd⟩:=AL hx;obtain⟨xs,rfl,h⟩:=J5 hd;obtain⟨r,rfl,hr⟩:=Bb h1 h;exact⟨r,rfl,hr⟩) h
 exact⟨l,rfl,hl⟩
structure cQ.Rng (c:cQ):Prop where
 gain:i64 c.gain
 seq:c.info.seq<=255
 shape:c.info.shape<=255
 max:i64 c.info.max
 groups:∀n∈c.info.groups,i64 n
 secI:∀l∈c.sects,∀s∈l,i64 s.book∧i64 s.len
 stepI:∀l∈c.steps,∀n∈l,i64 n
 fltI:∀l∈c.tns,∀f∈l,(i64 f.len∧i64 f.order)∧∀x∈f.coefs,i64 x
 lineI:∀n∈c.lines,i64 n
def aBI {x:W_}(h:OkDs avE x):∃c:cQ,x.map .d=c.av∧c.Rng:=by
 obtain⟨a1,r,rfl,h1,h⟩:=tg h;obtain⟨a2,r,rfl,h2,h⟩:=tg h;obtain⟨a3,r,rfl,h3,h⟩:=tg h;obtain⟨a4,r,rfl,h4,h⟩:=tg h;obtain⟨a5,r,rfl,h5,h⟩:=tg h;obtain⟨a6,r,rfl,h6,h⟩:=tg h;obtain⟨a7,r,rfl,h7,h⟩:=tg h;obtain⟨a8,r,rfl,h8,h⟩:=tg h;obtain⟨a9,rfl,h9⟩:=AL h;obtain⟨n1,rfl,g1⟩:=sZ h1;obtain⟨n2,rfl,g2⟩:=anv h2;obtain⟨n3,rfl,g3⟩:=anv h3;obtain⟨n4,rfl,g4⟩:=sZ h4;obtain⟨l5,rfl,g5⟩:=acr h5;obtain⟨l6,rfl,g6⟩:=acZ (f:=ba.cells) (λx hx=>aAv hx) h6;obtain⟨l7,rfl,g7⟩:=acZ (f:=λn=>[.int .i64 n]) (Q:=i64) (λx hx=>by
  obtain⟨d,rfl,hd⟩:=AL hx;obtain⟨n,rfl,hn⟩:=sZ hd;exact⟨n,rfl,hn⟩) h7
 obtain⟨l8,rfl,g8⟩:=acZ (f:=ct.cells) (λx hx=>aBu hx) h8;obtain⟨l9,rfl,g9⟩:=acr h9;exact⟨⟨n1,⟨n2,n3,n4,l5⟩,l6,l7,l8,l9⟩,rfl,g1,g2,g3,g4,g5,g6,g7,g8,g9⟩
def cQ.Rng.fit {c:cQ}(h:c.Rng)(s:afX c):c.Fit where
 gain:=h.gain
 info:=⟨h.seq,h.shape,h.max,by have:=s.groups;omega,h.groups⟩
 sects:=⟨by have:=s.sects.1;omega,λl hl=>by have:=s.sects.2 l hl;omega⟩
 secI:=h.secI
 steps:=⟨by have:=s.steps.1;omega,λl hl=>by have:=s.steps.2 l hl;omega⟩
 stepI:=h.stepI
 tns:=⟨by have:=s.tns.1;omega,λl hl=>⟨by have:=(s.tns.2 l hl).1;omega,λf hf=>by have:=(s.tns.2 l hl).2 f hf;omega⟩⟩
 fltI:=h.fltI
 lines:=by have:=s.lines;omega
 lineI:=h.lineI
abbrev gm (C F I:D_)(T:am)(c:D_):am:=(0,.cells C)::(1,.cells F)::(2,.cells c)::(3,.cells I)::T
def aoM (C F I:D_)(T:am):Hr (gm C F I T) 2:=⟨λc=>by simp,λc d=>by simp⟩
def mh (b:C_):Nat->Nat×Nat->V_×Nat×Nat
 |0,s=>([],s)
 |k+1,s=>(decide ((gT b s 1).1=1)::(mh b k (gT b s 1).2).1,(mh b k (gT b s 1).2).2)
def ahG {b:C_}:∀{k:Nat}{s:Nat×Nat},(mh b k s).1.length=k
 |0,_=>rfl
 |k+1,s=>by rw[mh,aq,ahG]
def amF {b:C_}:∀{k:Nat}{s:Nat×Nat},s.1<=b.length->(mh b k s).2.1<=b.length
 |0,_,h=>h
 |k+1,s,h=>amF (k:=k) (s:=(gT b s 1).2) (rD h)
def adE {b:C_}:∀{k:Nat}{s:Nat×Nat},s.2≠0->(mh b k s).2=s
 |0,_,h=>rfl
 |k+1,s,h=>by rw[mh];simp only[vH h];exact adE h
def HQ (b:C_):Nat->Nat->R V_
 |0,a=>.ok [] a
 |k+1,a=>(bi b a 1).bind λx n=>(HQ b k n).bind λl m=>.ok (decide (x=1)::l) m
def aqo {b:C_}:∀{k a:Nat},Lk (HQ b k a) (λl=>(mh b k (a,0)).1=l) (mh b k (a,0)).2
 |0,a=>⟨rfl,rfl⟩
 |k+1,a=>by
  rw[HQ,mh]
  cases e:bi b a 1 with
  |er q =>
   rw[Ae e];simp only;rw[adE (bz _)];exact rfl
  |ok x n =>
   rw[pB e,az];have h:=aqo (b:=b) (k:=k) (a:=n)
   cases e2:HQ b k n with
   |er q=>rw[e2]at h;exact h
   |ok l m=>rw[e2]at h;exact⟨by rw[h.1],h.2⟩
def axY {l:V_}{i:Nat}{x:Bool}:(iD l).set i [.bool x]=iD (l.set i x):=by simp[iD,jU]
def ayE (b:C_)(hb:b.length<=1000000000)(C F I:D_)(mx:Nat)(hm:mx<=1000)(N:Nat)(hN:4<=N)(y104 y105:D):∀(k i:Nat) (acc:V_) (s:Nat×Nat),i+k=mx->acc.length=i->s.1<=b.length->
  (Dn prog).code (.loop An) ⟨[(2,.ptr 0 0),(4,.ptr 1 0),(6,.ptr 2 0),(7,.ptr 3 0),(8,.sl N 0 mx),(104,.d y104),(105,.d y105),(121,A_ mx),(122,A_ i)],⟨gm C F I [(N,.arr 1 (iD (acc++List.replicate k false)))] (cV b s),N+1⟩⟩ =
  some (.exit 3,⟨[(2,.ptr 0 0),(4,.ptr 1 0),(6,.ptr 2 0),(7,.ptr 3 0),(8,.sl N 0 mx),(104,.d y104),(105,.d y105)],⟨gm C F I [(N,.arr 1 (iD (acc++(mh b k s).1)))] (cV b (mh b k s).2),N+1⟩⟩):=by
 intro k
 induction k with
 |zero =>
  intro i acc s hi hl hs;have:i=mx:=o_;subst this;rw[ah Qs,mh];simp(maxSteps:=9^6)(disch:=omega)[↓ac,↓aa]
 |succ k ih =>
  intro i acc s hi hl hs;have h1:=gF (aoM C F I [(N,.arr 1 (iD (acc++List.replicate (k+1) false)))]) b hb s hs 1 (N+1);have h5:=λx=>ih (i+1) (acc++[x]) (gT b s 1).2 o_ g_ (rD hs)
  have c1:((i+1:Nat):Int)=(i:Int)+1:=rfl;have hset:∀x:Bool,(iD (acc++List.replicate (k+1) false)).set i [.bool x]=iD (acc++[x]++List.replicate k false):=λx=>by
   rw[axY,<-hl,cx,Ur,ax];rfl
  have hget:(iD (acc++List.replicate (k+1) false))[i]?=some [.bool false]:=by
   rw[iD,b9,bg o_,hl,uE,cx];rfl
  rw[c1]at h5;rw[mh];generalize gT b s 1=g at *;obtain⟨x,s1⟩:=g;simp only at h1 h5⊢;have h5:=h5 (decide (x=1));have hset:=hset (decide (x=1));have e:acc++decide (x=1)::(mh b k s1).1=acc++[decide (x=1)]++(mh b k s1).1:=s_;rw[e,ah Qs,<-h5];have n0:N≠0∧N≠1∧N≠2∧N≠3:=o_;simp only[gm,cV]at h1⊢;generalize iD (acc++List.replicate (k+1) false)=Z at *;by_cases hx:x=1
  .rw[dT_ hx]at hset⊢;have hx2:(x:Int)=1:=o_;simp(maxSteps:=9^6)(disch:=omega)[↓ac,↓aa,h1,hget,hset,hx2,n0]
  .rw[dF_ hx]at hset⊢;have hx2:¬(x:Int)=1:=o_;simp(maxSteps:=9^6)(disch:=omega)[↓ac,↓aa,h1,hget,hset,hx2,n0]
@[simp ↓] def aHq {β:Type}{P:Nat->Z_}{i:Nat}{e:aZ}{h:am}{m:Nat}{k:AV->aZ->HS->Option β}:bW P (.frz i) e ⟨h,m⟩ k=bA (get e i) λv=>k (.tup []) (put e i (zJ h v).1) ⟨(zJ h v).2,m⟩:=by
 rw[JO];show gK (Yz i ⟨e,⟨h,m⟩⟩) k=_;unfold Yz;simp only[]
 cases get e i<;>rfl
def avp (o:Option Obj)(h:am)(id off len:Nat):AV×am :=
 match o with
 |some (.arr m xs)=>if off+len<=xs.length then (.own false m (sub xs off len),del h id) else (.sl id off len,h)
 |_=>(.sl id off len,h)
@[simp] def aIB {h:am}{id off len:Nat}:zJ h (.sl id off len)=avp (get h id) h id off len:=by
 simp only[zJ,avp]
 cases get h id with
 |none=>rfl
 |some o =>
  cases o with
  |arr m xs =>
   simp only[];by_cases hl:off+len<=xs.length
   .rw[ac hl,show Nat.ble (off+len) xs.length=true by rw[bp];exact hl]
   .rw[aa hl,show Nat.ble (off+len) xs.length=false from Bool.eq_false_iff.2 λh=>hl (by rwa [bp]at h)]
  |cells=>rfl
  |loop=>rfl
@[simp ↓] def aIH {m:Nat}{xs:E_}{h:am}{id off len:Nat}:avp (some (.arr m xs)) h id off len=if off+len<=xs.length then (.own false m (sub xs off len),del h id) else (.sl id off len,h):=(rfl)
def w8 (b:C_)(mx:Nat):Nat->Nat->R T_
 |0,a=>.ok [] a
 |g+1,a=>(HQ b mx a).bind λl n=>(w8 b mx g n).bind λt m=>.ok (l::t) m
abbrev KC (g j:Int):aZ:=[(2,.ptr 0 0),(4,.ptr 1 0),(6,.ptr 2 0),(7,.ptr 3 0),(104,A_ g),(105,A_ j)]
abbrev TU:aZ:=[(2,.ptr 0 0),(4,.ptr 1 0),(6,.ptr 2 0),(7,.ptr 3 0)]
section
variable (b:C_)(hb:b.length<=1000000000)(C:D_)(f0 f1 f4:AV)(i0 i1 i3:AV)(mx:Nat)(hm:mx<=1000)
theorem LG (F I:D_)(s:Nat×Nat)(g:Int)(N:Nat) :
  (Dn prog).code (.loop fX) ⟨KC g g,⟨gm C F I [] (cV b s),N⟩⟩=some (.exit 1,⟨TU,⟨gm C F I [] (cV b s),N⟩⟩):=by
 rw[ah Gq];simp(maxSteps:=9^6)(disch:=omega)[↓ac,↓aa]
theorem VS (f3:AV)(I:D_)(s:Nat×Nat)(mk:Int)(g j:Int)(hj:j<g)(h:mk≠1∨s.2≠0)(N:Nat) :
  (Dn prog).code (.loop fX) ⟨KC g j,⟨gm C [f0,f1,A_ mk,f3,f4] I [] (cV b s),N⟩⟩=some (.exit 1,⟨TU,⟨gm C [f0,f1,A_ mk,f3,f4] I [] (cV b s),N⟩⟩):=by
 obtain⟨a,e⟩:=s;rw[ah Gq];simp only[gm,cV];by_cases hk:mk=1
 .have he:e≠0:=h.resolve_left (λh=>h hk);subst hk;simp(maxSteps:=9^6)(disch:=omega)[↓ac,↓aa,he]
 .simp(maxSteps:=9^6)(disch:=omega)[↓ac,↓aa,hk]
include hb hm
theorem aia (a:Nat)(ha:a<=b.length)(acc:T_)(hacc:acc.length<=1000)(g j:Nat)(hj:j<g)(hg:g<=1000)(N:Nat)(hN:4<=N) :
  (Dn prog).code (.loop fX) ⟨KC g j,⟨gm C [f0,f1,A_ 1,aE 1 (eh acc),f4] [i0,i1,A_ mx,i3] [] (cV b (a,0)),N⟩⟩ =
  (Dn prog).code (.loop fX) ⟨KC g (j+1:Nat),⟨gm C [f0,f1,A_ 1,aE 1 (eh (acc++[(mh b mx (a,0)).1])),f4] [i0,i1,A_ mx,i3] [] (cV b (mh b mx (a,0)).2),N+1⟩⟩:=by
 have h1:=ayE b hb C [f0,f1,A_ 1,aE 1 (eh acc),f4] [i0,i1,A_ mx,i3] mx hm N hN (.int .i64 g) (.int .i64 j) mx 0 [] (a,0) o_ rfl ha;have hk:=Ea (z:=[.bool false]) (n:=mx) o_;rw[awY]at hk;have c1:((j+1:Nat):Int)=(j:Int)+1:=rfl;have c0:((0:Nat):Int)=0:=rfl;have hl:(mh b mx (a,0)).1.length=mx:=ahG;have hrl:(iD (List.replicate mx false)).length=mx:=by rw[xV,aL]
 have hbl:(iD (mh b mx (a,0)).1).length=mx:=by rw[xV,hl]
 have ht:List.take mx (iD (mh b mx (a,0)).1)=iD (mh b mx (a,0)).1:=bH o_;have hA:(eh acc).length=acc.length:=N7;have e:aE 1 (eh (acc++[(mh b mx (a,0)).1]))=.own false 1 (eh acc++[[.lst (iD (mh b mx (a,0)).1)]]):=by rw[arS,oM]
 have n0:N≠0∧N≠1∧N≠2∧N≠3:=o_;rw[c1,e];simp only[aK,cV,gm,c0]at h1⊢;generalize mh b mx (a,0)=r at *;obtain⟨l,s⟩:=r;simp only at *;generalize iD (List.replicate mx false)=Z at *;generalize iD l=B at *;generalize eh acc=A at *;rw[ah Gq]
 cases A with
 |nil=>simp(maxSteps:=9^6)(disch:=omega)[↓ac,↓aa,hk,h1,hrl,hbl,ht,n0]
 |cons y r=>simp(maxSteps:=9^6)(disch:=omega)[↓ac,↓aa,hk,h1,hrl,hbl,ht,n0]
theorem anP (g:Nat)(hg:g<=1000):∀(c j a:Nat) (acc:T_) (N:Nat),j+c=g->acc.length=j->a<=b.length->4<=N->
  ∃(w:T_) (s:Nat×Nat) (M:Nat),4<=M∧s.1<=b.length∧Lk (w8 b mx c a) (λt=>w=acc++t) s∧
  (Dn prog).code (.loop fX) ⟨KC g j,⟨gm C [f0,f1,A_ 1,aE 1 (eh acc),f4] [i0,i1,A_ mx,i3] [] (cV b (a,0)),N⟩⟩ =
  some (.exit 1,⟨TU,⟨gm C [f0,f1,A_ 1,aE 1 (eh w),f4] [i0,i1,A_ mx,i3] [] (cV b s),M⟩⟩):=by
 intro c
 induction c with
 |zero =>
  intro j a acc N hj hl ha hN;obtain rfl:j=g:=o_;exact⟨acc,(a,0),N,hN,ha,⟨s_,rfl⟩,LG b C _ _ _ _ _⟩
 |succ c ih =>
  intro j a acc N hj hl ha hN;rw[aia b hb C f0 f1 f4 i0 i1 i3 mx hm a ha acc o_ g j o_ hg N hN,w8];have hr:=aqo (b:=b) (k:=mx) (a:=a);have hle:(mh b mx (a,0)).2.1<=b.length:=amF ha;generalize mh b mx (a,0)=r at *;obtain⟨l,s⟩:=r
  cases e:HQ b mx a with
  |ok l2 n =>
   rw[e]at hr;obtain⟨h1,h2⟩:=hr;simp only at h1 h2 hle;subst h1 h2;obtain⟨w,s6,M,k1,k2,k3,k4⟩:=ih (j+1) n (acc++[l]) (N+1) o_ g_ hle o_;refine⟨w,s6,M,k1,k2,?_,k4⟩;rw[az]
   cases e2:w8 b mx c n with
   |er q=>rw[e2]at k3;exact k3
   |ok t q=>rw[e2]at k3;exact⟨by rw[k3.1,ax];rfl,k3.2⟩
  |er e0 =>
   rw[e]at hr;have hd:s.2=e0+1:=hr;refine⟨acc++[l],s,N+1,o_,hle,hd,?_⟩;by_cases hc:c=0
   .have:j+1=g:=o_;rw[this];exact LG b C _ _ _ _ _
   .exact VS b C f0 f1 f4 _ _ s 1 g (j+1:Nat) o_ (.inr o_) _
theorem aq5 (g:Nat)(hg:g<=1000)(k:Nat)(s:Nat×Nat)(hs:s.1<=b.length)(N:Nat)(hN:4<=N) :
  ∃(w:T_) (s6:Nat×Nat) (M:Nat),4<=M∧s6.1<=b.length∧(s.2=0->Lk (if k=1 then w8 b mx g s.1 else .ok [] s.1) (λt=>w=t) s6)∧(s.2≠0->s6=s)∧
  (Dn prog).code (.loop fX) ⟨KC g 0,⟨gm C [f0,f1,A_ k,.nl,f4] [i0,i1,A_ mx,i3] [] (cV b s),N⟩⟩ =
  some (.exit 1,⟨TU,⟨gm C [f0,f1,A_ k,aE 1 (eh w),f4] [i0,i1,A_ mx,i3] [] (cV b s6),M⟩⟩):=by
 have e0:aE 1 (eh [])=.nl:=rfl;obtain⟨a,e⟩:=s;by_cases h:k=1∧e=0
 .obtain⟨rfl,rfl⟩:=h;obtain⟨w,s6,M,k1,k2,k3,k4⟩:=anP b hb C f0 f1 f4 i0 i1 i3 mx hm g hg g 0 a [] N o_ rfl hs hN;rw[e0]at k4;exact⟨w,s6,M,k1,k2,λ_=>by simpa using k3,λh=>absurd rfl h,k4⟩
 .refine⟨[],(a,e),N,hN,hs,λhe=>?_,λ_=>rfl,?_⟩
  .rw[aa (λhk=>h ⟨hk,he⟩)];exact⟨rfl,by rw[show e=0 from he]⟩
  .rw[e0];by_cases hg0:g=0
   .subst hg0;exact LG b C _ _ _ _ _
   .exact VS b C f0 f1 f4 _ _ (a,e) k g 0 o_ t_ _
end
def sj (b:C_)(r:Nat)(q:Bool)(i:aO):Nat->Nat->R BA_
 |0,a=>.ok [] a
 |k+1,a=>(CC b a r q i).bind λv n=>(sj b r q i k n).bind λl m=>.ok (K3 v::l) m
abbrev CZ (n i:Int):aZ:=[(2,.ptr 0 0),(4,.ptr 1 0),(6,.ptr 2 0),(7,.ptr 3 0),(140,A_ n),(141,A_ i)]
abbrev zF:D_:=[.nl,B_ false,A_ 0,.nl,.nl]
def ao6 (q:Bool)(i:aO)(I iv:D_):Prop:=(I=[.d (.int .u8 i.seq),.d (.int .u8 i.shape),A_ i.max,.own false 1 (aI i.groups)]∧iv=i.cells)∨(I=zI∧q=false∧iv=zI)
section
variable (b:C_)(hb:b.length<=1000000000)
theorem akE (C F I:D_)(s:Nat×Nat)(n:Int)(N:Nat)(hN:4<=N) :
  (Dn prog).code (.loop fI) ⟨CZ n n,⟨gm C F I [] (cV b s),N⟩⟩=some (.exit 5,⟨[(4,.ptr 1 0),(6,.ptr 2 0)],⟨[(1,.cells F),(2,.cells (cV b s))],N⟩⟩):=by
 rw[ah zY];simp(maxSteps:=9^6)(disch:=omega)[↓ac,↓aa]
theorem ahI (C I:D_)(f0 f1 f2 f3 f4:AV)(s:Nat×Nat)(hs:s.2≠0)(n i:Int)(hi:i<n)(N:Nat) :
  (Dn prog).code (.loop fI) ⟨CZ n i,⟨gm C [f0,f1,f2,f3,f4] I [] (cV b s),N⟩⟩=some (.ret,⟨[(4,.ptr 1 0),(5,A_ s.2)],⟨[(1,.cells zF),(2,.cells (cV b s))],N⟩⟩):=by
 obtain⟨a,e⟩:=s;simp only at hs;rw[ah zY];simp only[gm,cV];simp(maxSteps:=9^6)(disch:=omega)[↓ac,↓aa,hs]
include hb
theorem ah1 (r:Nat)(hr:r<=11)(q:Bool)(i:aO)(hi:i.Fit)(I iv:D_)(hI:ao6 q i I iv)(c1 c2 c3 f2 f3 f4:AV)(a:Nat)(ha:a<=b.length)(acc:BA_)(hacc:acc.length<=100)(v:Hd×G_)(m:Nat)(hv:CC b a r q i=.ok v m)(n j:Nat)(hj:j<n)(hn:n<=2)(N:Nat)(hN:4<=N) :
  (Dn prog).code (.loop fI) ⟨CZ n j,⟨gm [A_ r,c1,c2,c3] [aE 9 (eq acc),B_ q,f2,f3,f4] I [] (cV b (a,0)),N⟩⟩ =
  (Dn prog).code (.loop fI) ⟨CZ n (j+1:Nat),⟨gm [A_ r,c1,c2,c3] [aE 9 (eq (acc++[K3 v])),B_ q,f2,f3,f4] I [] (cV b (m,0)),N+1⟩⟩:=by
 have hiv:iv=i.cells∨q=false∧iv=zI:=hI.imp And.right λh=>⟨h.2.1,h.2.2⟩
 have hG:=amC b hb a o_ r hr q i hi iv hiv;rw[hv]at hG;have cj:((j+1:Nat):Int)=(j:Int)+1:=rfl;have c0:((0:Nat):Int)=0:=rfl;have hA:(eq acc).length=acc.length:=Jt;have e:aE 9 (eq (acc++[K3 v]))=.own false 9 (eq acc++[[.int .i64 v.1.gain,.int .u8 v.1.inf.seq,.int .u8 v.1.inf.shape,.int .i64 v.1.inf.max,.lst (aI v.1.inf.groups),.lst (bO v.1.S),.lst (dj v.1.T),.lst (dk v.1.F),.lst (aI v.2)]]):=by rw[aq9,oM]
 have n0:N≠0∧N≠1∧N≠2∧N≠3:=o_;rw[cj,e];simp only[cV,gm,c0,avv,TF]at hG⊢;generalize eq acc=A at *;generalize aI v.2=Z at *;rcases hI with ⟨rfl,rfl⟩|⟨rfl,rfl,rfl⟩
 all_goals
  simp only[aO.cells,zI]at hG⊢;rw[ah zY]
  cases A with
  |nil=>simp(maxSteps:=9^6)(disch:=omega)[↓ac,↓aa,hG,n0]
  |cons y w=>simp(maxSteps:=9^6)(disch:=omega)[↓ac,↓aa,hG,n0]
theorem aoU (r:Nat)(hr:r<=11)(q:Bool)(i:aO)(hi:i.Fit)(I iv:D_)(hI:ao6 q i I iv)(c1 c2 c3 f0 f2 f3 f4:AV)(a:Nat)(ha:a<=b.length)(e:Nat)(hv:CC b a r q i=.er e)(n j:Nat)(hj:j<n)(hn:n<=2)(N:Nat)(hN:4<=N) :
  (Dn prog).code (.loop fI) ⟨CZ n j,⟨gm [A_ r,c1,c2,c3] [f0,B_ q,f2,f3,f4] I [] (cV b (a,0)),N⟩⟩ =
  some (.ret,⟨[(4,.ptr 1 0),(5,A_ ((e+1:Nat):Int))],⟨[(1,.cells zF),(2,.cells (cV b (0,e+1)))],N+1⟩⟩):=by
 have hiv:iv=i.cells∨q=false∧iv=zI:=hI.imp And.right λh=>⟨h.2.1,h.2.2⟩
 have hG:=amC b hb a o_ r hr q i hi iv hiv;rw[hv]at hG;have ce:((e+1:Nat):Int)=(e:Int)+1:=rfl;have c0:((0:Nat):Int)=0:=rfl;have n0:N≠0∧N≠1∧N≠2∧N≠3:=o_;have e1:¬((e:Int)+1=0):=o_;simp only[cV,gm,c0,ce,avv,Ca]at hG⊢;rcases hI with ⟨rfl,rfl⟩|⟨rfl,rfl,rfl⟩
 all_goals
  simp only[aO.cells,zI]at hG⊢;rw[ah zY];simp(maxSteps:=9^6)(disch:=omega)[↓ac,↓aa,hG,n0,e1]
end
def atX (w:C_)(hw:w.length<=1000000000)(N:Nat):∀(r:C_) (i:Nat),w.drop i=r->
  (1∉r->(Dn prog).code (.loop js) ⟨[(0,.d (.lst (ai w))),(1,.d (.int .u8 1)),(7,A_ w.length),(8,A_ i)],⟨[],N⟩⟩=some (.exit 0,⟨[],⟨[],N⟩⟩))∧
  (1∈r->∃k:Nat,(Dn prog).code (.loop js) ⟨[(0,.d (.lst (ai w))),(1,.d (.int .u8 1)),(7,A_ w.length),(8,A_ i)],⟨[],N⟩⟩=some (.ret,⟨[(4,A_ k)],⟨[],N⟩⟩)):=by
 intro r
 induction r with
 |nil =>
  intro i hd;have hi:=bv hd;refine⟨λ_=>?_,λh=>absurd h s_⟩;rw[ah yG];simp(maxSteps:=9^6)(disch:=omega)[↓ac,↓aa]
 |cons x r ih =>
  intro i hd;have hlt:=bV hd;have hg:(ai w)[i]?=some [.int .u8 x]:=by
   have:=aP (λl=>l[0]?) hd;simp only[ck,ca,ej]at this;rw[ai,b9,this];rfl
  have h5:=ih (i+1) (bK hd);have c1:((i+1:Nat):Int)=(i:Int)+1:=rfl;rw[c1]at h5;rw[ah yG];generalize ai w=W at *;by_cases hx:x=1
  .refine⟨λh=>absurd (by rw[hx];exact .head _) h,λ_=>⟨i,?_⟩⟩;have hx2:(1:Int)=(x:Int):=o_;simp(maxSteps:=9^6)(disch:=omega)[↓ac,↓aa,hg,<-hx2]
  .have hx2:¬(1:Int)=(x:Int):=o_;refine⟨λh=>?_,λh=>?_⟩
   .rw[<-h5.1 λh2=>h (.tail _ h2)];simp(maxSteps:=9^6)(disch:=omega)[↓ac,↓aa,hg,hx2]
   .obtain⟨k,hk⟩:=h5.2 (by
    rcases ay.1 h with h|h
    .exact absurd h.symm hx
    .exact h)
    refine⟨k,?_⟩;rw[<-hk];simp(maxSteps:=9^6)(disch:=omega)[↓ac,↓aa,hg,hx2]
def anx (w:C_)(hw:w.length<=1000000000):bq prog qg [.d (.lst (ai w)),.d (.int .u8 1)]=some (B_ (decide (1∈w))):=by
 obtain⟨h1,h2⟩:=atX w hw 0 w 0 rfl;have hl:=bB (l:=w);have c0:((0:Nat):Int)=0:=rfl;rw[c0]at h1 h2;by_cases h:1∈w
 .obtain⟨k,hk⟩:=h2 h;have hI:bq prog uw [.d (.lst (ai w)),.d (.int .u8 1)]=some (A_ k):=by
   rw[aG Cn CG rfl];generalize ai w=W at *;simp(maxSteps:=9^6)(disch:=omega)[↓ac,↓aa,hl,hk]
  rw[dT_ h,aG yF yN rfl];simp(maxSteps:=9^6)(disch:=omega)[↓ac,↓aa,hI]
 .have hk:=h1 h;have hI:bq prog uw [.d (.lst (ai w)),.d (.int .u8 1)]=some (A_ (-1)):=by
   rw[aG Cn CG rfl];generalize ai w=W at *;simp(maxSteps:=9^6)(disch:=omega)[↓ac,↓aa,hl,hk]
  rw[dF_ h,aG yF yN rfl];simp(maxSteps:=9^6)(disch:=omega)[↓ac,↓aa,hI]
abbrev hp3 (C F c:D_):am:=[(0,.cells C),(1,.cells F),(2,.cells c)]
def aor (C F:D_):Hr (hp3 C F) 2:=⟨λc=>by simp,λc d=>by simp⟩
def MB (b:C_)(n:Int):Nat×Nat:=kT (gT b (0,0) 3).2 (((gT b (0,0) 3).1:Int)=n-1)
def Zk (b:C_)(n:Int):Nat×Nat:=kT (gT b (MB b n) 4).2 (((gT b (MB b n) 4).1:Int)=0)
section
variable (b:C_)(hb:b.length<=1000000000)
include hb
theorem asl {n:Int}:(MB b n).1<=b.length:=H0 (rD (dD _))
theorem aBJ {n:Int}:(Zk b n).1<=b.length:=H0 (rD (asl b hb))
theorem amX (c0 c2 c3:AV)(n:Int)(hn:n=1∨n=2)(T:VC) :
  (Dn prog).code (.seq (.seq uZ (K [41])) (.seq Ak (.seq Ac T))) ⟨[(2,.ptr 0 0),(4,.ptr 1 0),(6,.ptr 2 0)],⟨hp3 [c0,A_ n,c2,c3] zF (cV b (0,0)),3⟩⟩ =
  (Dn prog).code T ⟨[(2,.ptr 0 0),(4,.ptr 1 0),(6,.ptr 2 0),(7,.ptr 3 0)],⟨gm [c0,A_ n,c2,c3] zF zI [] (cV b (Zk b n)),4⟩⟩:=by
 have h1:=gF (aor [c0,A_ n,c2,c3] zF) b hb (0,0) (dD _) 3 3;have h2:=nD (aor [c0,A_ n,c2,c3] zF) b (gT b (0,0) 3).2 (((gT b (0,0) 3).1:Int)=n-1) 3;have h3:=gF (aor [c0,A_ n,c2,c3] zF) b hb (MB b n) (asl b hb) 4 3;have h4:=nD (aor [c0,A_ n,c2,c3] zF) b (gT b (MB b n) 4).2 (((gT b (MB b n) 4).1:Int)=0) 3;have e1:MB b n=kT (gT b (0,0) 3).2 (((gT b (0,0) 3).1:Int)=n-1):=rfl;have e2:Zk b n=kT (gT b (MB b n) 4).2 (((gT b (MB b n) 4).1:Int)=0):=rfl;rw[<-e1]at h2;rw[<-e2]at h4;clear e1 e2;generalize Zk b n=s4 at *;generalize MB b n=s2 at *;generalize gT b (0,0) 3=g1 at *;obtain⟨x1,s1⟩:=g1;generalize gT b s2 4=g3 at *;obtain⟨x3,s3⟩:=g3;have c0':((0:Nat):Int)=0:=rfl;simp only[cV,hp3,gm,c0',zF]at h1 h2 h3 h4⊢;by_cases k1:(x1:Int)=n-1
 .rw[dT_ k1]at h2;by_cases k2:(x3:Int)=0
  .rw[dT_ k2]at h4;simp(maxSteps:=9^6)(disch:=omega)[↓ac,↓aa,h1,h2,h3,h4]
  .rw[dF_ k2]at h4;simp(maxSteps:=9^6)(disch:=omega)[↓ac,↓aa,h1,h2,h3,h4]
 .rw[dF_ k1]at h2;by_cases k2:(x3:Int)=0
  .rw[dT_ k2]at h4;simp(maxSteps:=9^6)(disch:=omega)[↓ac,↓aa,h1,h2,h3,h4]
  .rw[dF_ k2]at h4;simp(maxSteps:=9^6)(disch:=omega)[↓ac,↓aa,h1,h2,h3,h4]
theorem aig (c0 c2 c3:AV)(s:Nat×Nat)(T:VC) :
  (Dn prog).code (.seq (.seq sm (.cond (.m 49) sE .skip)) T) ⟨[(2,.ptr 0 0),(4,.ptr 1 0),(6,.ptr 2 0),(7,.ptr 3 0)],⟨gm [c0,A_ 1,c2,c3] zF zI [] (cV b s),4⟩⟩ =
  (Dn prog).code T ⟨[(2,.ptr 0 0),(4,.ptr 1 0),(6,.ptr 2 0),(7,.ptr 3 0)],⟨gm [c0,A_ 1,c2,c3] zF zI [] (cV b s),4⟩⟩:=by
 simp only[cV,gm,zF];simp(maxSteps:=9^6)(disch:=omega)[↓ac,↓aa]
theorem ahi (c0 c2 c3:AV)(s:Nat×Nat)(hs:s.1<=b.length)(T:VC) :
  (Dn prog).code (.seq (.seq sm (.cond (.m 49) sE .skip)) T) ⟨[(2,.ptr 0 0),(4,.ptr 1 0),(6,.ptr 2 0),(7,.ptr 3 0)],⟨gm [c0,A_ 2,c2,c3] zF zI [] (cV b s),4⟩⟩ =
  (Dn prog).code T ⟨[(2,.ptr 0 0),(4,.ptr 1 0),(6,.ptr 2 0),(7,.ptr 3 0)],⟨gm [c0,A_ 2,c2,c3] [.nl,B_ ((decide ((gT b s 1).1=1))),A_ 0,.nl,.nl] zI [] (cV b (gT b s 1).2),4⟩⟩:=by
 have h1:=gF (aoM [c0,A_ 2,c2,c3] zF zI []) b hb s hs 1 4;generalize gT b s 1=g at *;obtain⟨x,s1⟩:=g;simp only[cV,gm,zF]at h1⊢;by_cases hx:x=1
 .have hx2:(x:Int)=1:=o_;simp(maxSteps:=9^6)(disch:=omega)[↓ac,↓aa,h1,hx,hx2]
 .have hx2:¬(x:Int)=1:=o_;simp(maxSteps:=9^6)(disch:=omega)[↓ac,↓aa,h1,hx,hx2]
end
def gb3 {b:C_}{a v n:Nat}:bi b (a:Int) 3=.ok v n↔v<8∧At b a n (au v 3):=cy (s:=3) (by omega)
def gb4 {b:C_}{a v n:Nat}:bi b (a:Int) 4=.ok v n↔v<16∧At b a n (au v 4):=cy (s:=4) (by omega)
def gb8 {b:C_}{a v n:Nat}:bi b (a:Int) 8=.ok v n↔v<256∧At b a n (au v 8):=cy (s:=8) (by omega)
def gb2 {b:C_}{a v n:Nat}:bi b (a:Int) 2=.ok v n↔v<4∧At b a n (au v 2):=cy (s:=2) (by omega)
def gb1 {b:C_}{a v n:Nat}:bi b (a:Int) 1=.ok v n↔v<2∧At b a n (au v 1):=cy (s:=1) (by omega)
def Kx {b:C_}:∀{k a m:Nat}{l:C_},a<=b.length->(nU b k a=.ok l m↔l.length=k∧(∀x∈l,x<=255)∧At b a m (bu l))
 |0,a,m,l,ha=>by
  rw[nU];constructor
  .intro h;injection h with h1 h2
   subst h1 h2;exact⟨rfl,s_,eD.2 ⟨rfl,ha⟩⟩
  .rintro ⟨h1,_,h3⟩
   obtain rfl:=aB h1;rw[(eD.1 h3).1]
 |k+1,a,m,l,ha=>by
  rw[nU,aU];constructor
  .rintro ⟨x,n,e1,h⟩
   obtain⟨r,p,e2,h⟩:=aU.1 h;injection h with h1 h2;subst h1 h2;obtain⟨hx,f1⟩:=gb8.1 e1;obtain⟨h1,h2,f2⟩:=(Kx (dF f1).2.1).1 e2;exact⟨by rw[aq,h1],λy hy=>by
    rcases ay.1 hy with rfl|hy
    .omega
    .exact h2 y hy,bb.2 ⟨n,f1,f2⟩⟩
  .rintro ⟨h1,h2,h3⟩
   cases l with
   |nil=>simp at h1
   |cons x r =>
    obtain⟨n,f1,f2⟩:=(bb (X:=au x 8)).1 h3;refine⟨x,n,gb8.2 ⟨by have:=h2 x (.head _);omega,f1⟩,aU.2 ⟨r,m,(Kx (dF f1).2.1).2 ⟨by simpa using h1,λy hy=>h2 y (.tail _ hy),f2⟩,rfl⟩⟩
def arK {b:C_}{a m x:Nat}:bi b (a:Int) 1=.ok x m↔x=cond (decide (x=1)) 1 0∧At b a m (au (cond (decide (x=1)) 1 0) 1):=by
 rw[gb1];constructor
 .rintro ⟨h1,h2⟩
  have:x=0∨x=1:=o_;rcases this with rfl|rfl<;>exact⟨rfl,h2⟩
 .rintro ⟨h1,h2⟩
  rw[<-h1]at h2;refine⟨?_,h2⟩;rw[h1]
  cases decide (x=1)<;>simp
def N9 {b:C_}:∀{k a m:Nat}{l:V_},a<=b.length->(HQ b k a=.ok l m↔l.length=k∧At b a m (tV l))
 |0,a,m,l,ha=>by
  rw[HQ];constructor
  .intro h;injection h with h1 h2
   subst h1 h2;exact⟨rfl,eD.2 ⟨rfl,ha⟩⟩
  .rintro ⟨h1,h3⟩
   obtain rfl:=aB h1;rw[(eD.1 h3).1]
 |k+1,a,m,l,ha=>by
  rw[HQ,aU];constructor
  .rintro ⟨x,n,e1,h⟩
   obtain⟨r,p,e2,h⟩:=aU.1 h;injection h with h1 h2;subst h1 h2;obtain⟨hx,f1⟩:=arK.1 e1;obtain⟨h1,f2⟩:=(N9 (dF f1).2.1).1 e2;exact⟨by rw[aq,h1],bb.2 ⟨n,f1,f2⟩⟩
  .rintro ⟨h1,h3⟩
   cases l with
   |nil=>simp at h1
   |cons x r =>
    obtain⟨n,f1,f2⟩:=(bb (X:=au (cond x 1 0) 1)).1 h3;have hd:decide ((cond x 1 0:Nat)=1)=x:=by cases x<;>rfl
    refine⟨cond x 1 0,n,arK.2 (by rw[hd];exact⟨rfl,f1⟩),aU.2 ⟨r,m,(N9 (dF f1).2.1).2 ⟨by simpa using h1,f2⟩,by rw[hd]⟩⟩
def ac9 {a c:V_}:tV (a++c)=tV a++tV c:=by simp[tV]
def RP {b:C_}{mx:Nat}:∀{g a m:Nat}{t:T_},a<=b.length->(w8 b mx g a=.ok t m↔t.length=g∧(∀l∈t,l.length=mx)∧At b a m (tV t.flatten))
 |0,a,m,t,ha=>by
  rw[w8];constructor
  .intro h;injection h with h1 h2
   subst h1 h2;exact⟨rfl,s_,eD.2 ⟨rfl,ha⟩⟩
  .rintro ⟨h1,_,h3⟩
   obtain rfl:=aB h1;rw[(eD.1 h3).1]
 |g+1,a,m,t,ha=>by
  rw[w8,aU];constructor
  .rintro ⟨l,n,e1,h⟩
   obtain⟨r,p,e2,h⟩:=aU.1 h;injection h with h1 h2;subst h1 h2;obtain⟨hx,f1⟩:=(N9 ha).1 e1;obtain⟨h1,h2,f2⟩:=(RP (dF f1).2.1).1 e2;refine⟨by rw[aq,h1],λy hy=>?_,by rw[dG,ac9];exact bb.2 ⟨n,f1,f2⟩⟩;rcases ay.1 hy with rfl|hy
   .exact hx
   .exact h2 y hy
  .rintro ⟨h1,h2,h3⟩
   cases t with
   |nil=>simp at h1
   |cons l r =>
    rw[dG,ac9]at h3;obtain⟨n,f1,f2⟩:=bb.1 h3;exact⟨l,n,(N9 ha).2 ⟨h2 l (.head _),f1⟩,aU.2 ⟨r,m,(RP (dF f1).2.1).2 ⟨by simpa using h1,λy hy=>h2 y (.tail _ hy),f2⟩,rfl⟩⟩
def agS {b:C_}{a m:Nat}{l:C_}(ha:a<=b.length):CL b a=.ok l m↔(l.length<=269∧∀x∈l,x<=255)∧At b a m (nk l++au 7 3):=by
 unfold CL;rw[aU];constructor
 .rintro ⟨x,n,e1,h⟩
  obtain⟨hx,f1⟩:=gb3.1 e1;by_cases h6:x=6
  .rw[ac h6]at h;subst h6;obtain⟨k,n2,e2,h⟩:=aU.1 h;obtain⟨hk,f2⟩:=gb4.1 e2;by_cases hk0:k=0
   .rw[ac hk0]at h;exact absurd h (by simp)
   rw[aa hk0]at h;obtain⟨c,n3,e3,h⟩:=aU.1 h;obtain⟨w,n4,e4,h⟩:=aU.1 h;obtain⟨z,n5,e5,h⟩:=aU.1 h;by_cases hz:z=7
   rotate_left
   .rw[aa hz]at h;exact absurd h (by simp)
   rw[ac hz]at h;injection h with g1 g2
   subst g1 g2 hz;have f5:=(gb3.1 e5).2;have key:At b n2 n3 (if 15<=c then au (c-14) 8 else [])∧min c 15=k∧1<=c∧c<=269:=by
    by_cases h15:k=15
    .rw[ac h15]at e3;obtain⟨y,n6,e6,h⟩:=aU.1 e3;obtain⟨hy,f6⟩:=gb8.1 e6;by_cases hy0:y=0
     .rw[ac hy0]at h;exact absurd h (by simp)
     rw[aa hy0]at h;injection h with g1 g2
     subst g1 g2;rw[ac o_,dx];exact⟨f6,o_,o_,o_⟩
    .rw[aa h15]at e3;injection e3 with g1 g2
     subst g1 g2;rw[aa o_];exact⟨eD.2 ⟨rfl,(dF f2).2.1⟩,o_,o_,o_⟩
   obtain⟨f3,k1,k2,k3⟩:=key;obtain⟨w1,w2,f4⟩:=(Kx (dF f3).2.1).1 e4;refine⟨⟨o_,w2⟩,?_⟩;have hne:w≠[]:=λh=>by rw[h]at w1;simp at w1;omega
   rw[nk,aa hne,w1,k1];exact bb.2 ⟨n4,bb.2 ⟨n,f1,bb.2 ⟨n2,f2,bb.2 ⟨n3,f3,f4⟩⟩⟩,f5⟩
  .rw[aa h6]at h;by_cases h7:x=7
   rotate_left
   .rw[aa h7]at h;exact absurd h (by simp)
   rw[ac h7]at h;injection h with g1 g2
   subst g1 g2 h7;exact⟨⟨s_,s_⟩,by rw[nk,ac rfl];exact f1⟩
 .rintro ⟨⟨h1,h2⟩,h3⟩
  by_cases h0:l=[]
  .rw[nk,ac h0,aK]at h3;exact⟨7,m,gb3.2 ⟨o_,h3⟩,by rw[aa o_,ac rfl,h0]⟩
  have hl0:l.length≠0:=λh=>h0 (aB h)
  rw[nk,aa h0]at h3;obtain⟨n4,h3,f5⟩:=bb.1 h3;obtain⟨n,f1,h3⟩:=bb.1 h3;obtain⟨n2,f2,h3⟩:=bb.1 h3;obtain⟨n3,f3,f4⟩:=bb.1 h3;refine⟨6,n,gb3.2 ⟨o_,f1⟩,?_⟩;rw[ac rfl,aU];refine⟨_,n2,gb4.2 ⟨o_,f2⟩,?_⟩;rw[aa o_,aU];refine⟨l.length,n3,?_,aU.2 ⟨l,n4,(Kx (dF f3).2.1).2 ⟨rfl,h2,f4⟩,aU.2 ⟨7,m,gb3.2 ⟨o_,f5⟩,ac rfl⟩⟩⟩;by_cases h15:15<=l.length
  .rw[ac h15]at f3;rw[ac o_,aU];exact⟨l.length-14,n3,gb8.2 ⟨o_,f3⟩,by rw[aa o_,show l.length-14+14=l.length by omega]⟩
  .rw[aa h15]at f3;rw[aa o_,(eD.1 f3).1,show min l.length 15=l.length by omega]
abbrev aco:aO:=⟨0,0,0,[]⟩
def NV (b:C_)(r:Nat)(q:Bool)(a:Nat):R (aO×Nat×T_) :=
 if q=true then (nb b a r).bind λi m=>(bi b m 2).bind λk m=>if ¬k<3 then .er 7 else (if k=1 then w8 b i.max.toNat i.groups.length m else .ok [] m).bind λl m=>.ok (i,k,l) m
 else .ok (aco,0,[]) a
def apw (b:C_)(r:Nat)(n:Int):R fJ :=
 (bi b (0:Nat) 3).bind λx m=>if (x:Int)≠n-1 then .er 7 else
 (bi b m 4).bind λx m=>if x≠0 then .er 7 else
 (if n=2 then bi b m 1 else .ok 0 m).bind λqv m =>
 (NV b r (decide (qv=1)) m).bind λh m =>
 (sj b r (decide (qv=1)) h.1 n.toNat m).bind λcs m =>
 (CL b m).bind λfl m=>.ok ⟨cs,decide (qv=1),h.2.1,h.2.2,fl⟩ m
def t9 (R:Nat)(n:Int)(f:fJ):C_:=ic n f++iZ R f.common f.chans++nk f.fill++au 7 3
def aBl {b:C_}{a:Int}{r:Nat}{i j:aO}:CC b a r false i=CC b a r false j:=by
 unfold CC Dt;simp
def axv {i j:aO}(h:Au i j):i=j:=by
 obtain⟨⟨h1,h2⟩,h3,h4⟩:=h
 cases i;cases j;simp_all
def Wo {b:C_}{r:Nat}(hr:r<=11){q:Bool}{i:aO}:∀{l:BA_}{a m:Nat},(∀c∈l,c.Fit∧nG r c∧(q=true->c.info=i))->At b a m (iZ r q l)->sj b r q i l.length a=.ok l m
 |[],a,m,_,h=>by rw[show iZ r q []=[] from rfl,eD]at h;rw[bt,sj,h.1]
 |c::l,a,m,hc,h=>by
  obtain⟨n,f1,f2⟩:=(bb (X:=C9 r c q)).1 h;obtain⟨c1,c2,c3⟩:=hc c (.head _);have h1:=aqS hr c1 c2 f1;have h1:CC b a r q i=.ok (⟨c.gain.toNat,c.info,c.sects,c.steps,c.tns,0,if pf c.tns then 1 else 0⟩,c.lines) n:=by
   cases q with
   |true=>rw[<-c3 rfl];exact h1
   |false=>rw[aBl (j:=c.info)];exact h1
  have hg:=c2.gain;rw[aq,sj,h1,az,Wo hr (λd hd=>hc d (.tail _ hd)) f2,az]
  congr 2
  obtain⟨g,ci,S,T,F,Z⟩:=c;simp only[K3]
  congr 1
  simp only at hg;omega
def asS {a b k:Nat}(ha:a<2 ^ k)(hb:b<2 ^ k)(h:au a k=au b k):a=b:=by
 have h1:=Ie (v:=a) (s:=k) (n:=0);have h2:=Ie (v:=b) (s:=k) (n:=0);rw[h,h2]at h1;rw[dA ha,dA hb]at h1;omega
def ard {b:C_}{r:Nat}(hr:r<=11){n:Int}(hn:n=1∨n=2){f:fJ}(hf:f.Fit)(ok:tw r n f){m:Nat}(h:At b 0 m (t9 r n f)):apw b r n=.ok f m:=by
 obtain⟨n3,h,f7⟩:=(bb (X:=ic n f++iZ r f.common f.chans++nk f.fill)).1 h;obtain⟨n2,h,f6⟩:=(bb (X:=ic n f++iZ r f.common f.chans)).1 h;obtain⟨n1,h,f5⟩:=bb.1 h;have hfl:CL b n2=.ok f.fill m:=(agS (dF f6).1).2 ⟨⟨ok.fill,hf.fillI⟩,bb.2 ⟨n3,f6,f7⟩⟩;have hln:=ok.len;have hrest:=ok.rest;have hcs:∀i:aO,(∀c∈f.chans,f.common=true->c.info=i)->sj b r f.common i n.toNat n1=.ok f.chans n2:=λi hi=>by
  rw[show n.toNat=f.chans.length by omega];exact Wo hr (λc hc=>⟨hf.chans.2 c hc,ok.may c hc,hi c hc⟩) f5
 have key:(f.common=true->n=2)∧(f.common=false->f.mask=0∧f.bands=[]):=by
  cases hch:f.chans with
  |nil=>rw[hch]at hrest;exact hrest.elim
  |cons c t =>
   rw[hch]at hrest hln;simp only[I9]at hrest;constructor
   .intro hq;rw[ac hq]at hrest;obtain⟨⟨d,hd,_⟩,_⟩:=hrest
    cases t with
    |nil=>simp at hd
    |cons _ _=>simp at hln;omega
   .intro hq;rw[aa (by simp[hq])]at hrest;exact hrest
 unfold apw;rcases hn with rfl|rfl
 .have hq:f.common=false:=by
   cases h:f.common with
   |false=>rfl
   |true=>have:=key.1 h;omega
  rw[ic,ac rfl]at h;obtain⟨a1,g1,g2⟩:=bb.1 h;obtain⟨k1,k2⟩:=key.2 hq;have h5:=hcs aco (λc _ hc=>by rw[hq]at hc;exact absurd hc s_);rw[hq]at h5;rw[gb3.2 ⟨o_,g1⟩,az,aa s_,gb4.2 ⟨o_,g2⟩,az,aa s_,aa o_,az];simp only[NV];rw[show decide ((0:Nat)=1)=false from rfl,aa s_,az,h5,az,hfl,az];obtain⟨cs,q,mk,bd,fl⟩:=f;simp only at hq k1 k2;rw[hq,k1,k2];rfl
 .rw[ic,aa o_]at h
  cases hq:f.common with
  |false =>
   rw[hq,aa s_]at h;obtain⟨a2,h,g3⟩:=bb.1 h;obtain⟨a1,g1,g2⟩:=bb.1 h;obtain⟨k1,k2⟩:=key.2 hq;have h5:=hcs aco (λc _ hc=>by rw[hq]at hc;exact absurd hc s_);rw[hq]at h5;rw[gb3.2 ⟨o_,g1⟩,az,aa s_,gb4.2 ⟨o_,g2⟩,az,aa s_,ac rfl,gb1.2 ⟨o_,g3⟩,az];simp only[NV];rw[show decide ((0:Nat)=1)=false from rfl,aa s_,az,h5,az,hfl,az];obtain⟨cs,q,mk,bd,fl⟩:=f;simp only at hq k1 k2;rw[hq,k1,k2];rfl
  |true =>
   rw[hq,ac rfl]at h;obtain⟨a5,h,g6⟩:=bb.1 h;obtain⟨a4,h,g5⟩:=bb.1 h;obtain⟨a3,h,g4⟩:=bb.1 h;obtain⟨a2,h,g3⟩:=bb.1 h;obtain⟨a1,g1,g2⟩:=bb.1 h;have hmk:=ok.mask
   cases hch:f.chans with
   |nil=>rw[hch]at hrest;exact hrest.elim
   |cons c t =>
    have hin:∀d∈f.chans,f.common=true->d.info=c.info:=λd hd _=>by
     rw[hch]at hrest hln hd;simp only[I9,hq,bj]at hrest;obtain⟨⟨e,he,hs⟩,_⟩:=hrest
     cases t with
     |nil=>simp at he
     |cons x y =>
      have hy:y=[]:=aB (by simp at hln;omega);subst hy;simp only[List.head?_cons,Option.mem_def,ae]at he;subst he;simp only[ay,b8,eg]at hd;rcases hd with rfl|rfl
      .rfl
      .exact(axv hs).symm
    have h5:=hcs c.info hin;rw[hq]at h5;have hm:=ok.may c (by rw[hch];exact .head _);have hI:nb b (a3:Int) r=.ok c.info a4:=(PQ hr).2 ⟨hm.info,by simpa [TE,hch] using g4⟩;have hmx:=ka (gR hr hm.info);rw[hch]at hrest;simp only[I9,hq,bj]at hrest;have hB:(if f.mask.toNat=1 then w8 b c.info.max.toNat c.info.groups.length a5 else .ok [] a5)=.ok f.bands n1:=by
     have hr2:=hrest.2;by_cases h1:f.mask=1
     .rw[ac h1]at hr2;rw[ac o_];exact(RP (dF g6).1).2 ⟨hr2.1,λl hl=>by have:=hr2.2 l hl;omega,g6⟩
     .rw[aa h1]at hr2;rw[aa o_,hr2];rw[hr2]at g6;rw[(eD.1 g6).1]
    rw[gb3.2 ⟨o_,g1⟩,az,aa s_,gb4.2 ⟨o_,g2⟩,az,aa s_,ac rfl,gb1.2 ⟨o_,g3⟩,az];simp only[NV];simp only[decide_true];rw[ac trivial,hI,az,gb2.2 ⟨o_,g5⟩,az,aa o_,hB,az,az,h5,az,hfl,az];obtain⟨cs,q,mk,bd,fl⟩:=f;simp only at hq hmk;rw[hq,show((mk.toNat:Nat):Int)=mk by omega]
abbrev JR:aZ:=[(2,.ptr 0 0),(4,.ptr 1 0),(6,.ptr 2 0),(7,.ptr 3 0)]
def N5 (C:D_)(q:Bool)(b:C_)(s:Nat×Nat)(h:q=false∨s.2≠0)(B T:VC) :
  (Dn prog).code (.seq (.seq lT (.cond (.m 62) B .skip)) T) ⟨JR,⟨gm C [.nl,B_ q,A_ 0,.nl,.nl] zI [] (cV b s),4⟩⟩ =
  (Dn prog).code T ⟨JR,⟨gm C [.nl,B_ q,A_ 0,.nl,.nl] zI [] (cV b s),4⟩⟩:=by
 obtain⟨a,e⟩:=s;simp only[cV,gm]
 cases q with
 |false=>simp(maxSteps:=9^6)(disch:=omega)[↓ac,↓aa]
 |true =>
  have he:e≠0:=h.resolve_left s_;simp(maxSteps:=9^6)(disch:=omega)[↓ac,↓aa,he]
abbrev aa4 (B:VC):VC:=(.seq (.seq (.seq xR (K [63])) (.seq DQ (.cond (.m 88) (.seq (.seq (F 2) (F 7)) (.seq yz .ret)) .skip))) B)
abbrev aiJ (b:C_)(s:Nat×Nat)(N:Nat):J_:=some (.ret,⟨[(4,.ptr 1 0),(5,A_ s.2)],⟨[(1,.cells zF),(2,.cells (cV b s))],N⟩⟩)
section
variable (b:C_)(hb:b.length<=1000000000)(r:Nat)(hr:r<=11)
include hb hr
theorem ave (c1 c2 c3:AV)(a e:Nat)(ha:a<=b.length)(he:nb b a r=.er e)(B T:VC) :
  (Dn prog).code (.seq (.seq lT (.cond (.m 62) (aa4 B) .skip)) T) ⟨JR,⟨gm [A_ r,c1,c2,c3] [.nl,B_ true,A_ 0,.nl,.nl] zI [] (cV b (a,0)),4⟩⟩ =
  some (.ret,⟨[(4,.ptr 1 0),(5,A_ ((e+1:Nat):Int))],⟨[(1,.cells zF),(2,.cells (cV b (0,e+1)))],4⟩⟩):=by
 have h:=XN b a r hb o_;rw[ac o_,ar,he,jf]at h;have c0:((0:Nat):Int)=0:=rfl;have ce:((e+1:Nat):Int)=(e:Int)+1:=rfl;have e1:¬((e:Int)+1=0):=o_;simp only[cV,gm,c0,ce,zF,aa4]at h⊢;simp(maxSteps:=9^6)(disch:=omega)[↓ac,↓aa,h,e1]
theorem avr (c1 c2 c3:AV)(a:Nat)(ha:a<=b.length)(i:aO)(m:Nat)(he:nb b a r=.ok i m)(w:T_)(s6:Nat×Nat)(M:Nat)
  (hL:(Dn prog).code (.loop fX) ⟨KC i.groups.length 0,⟨gm [A_ r,c1,c2,c3] [.nl,B_ true,A_ ((gT b (m,0) 2).1),.nl,.nl] [.d (.int .u8 i.seq),.d (.int .u8 i.shape),A_ i.max,.own false 1 (aI i.groups)] [] (cV b (kT (gT b (m,0) 2).2 (((gT b (m,0) 2).1:Int)<3))),4⟩⟩ =
   some (.exit 1,⟨TU,⟨gm [A_ r,c1,c2,c3] [.nl,B_ true,A_ ((gT b (m,0) 2).1),aE 1 (eh w),.nl] [.d (.int .u8 i.seq),.d (.int .u8 i.shape),A_ i.max,.own false 1 (aI i.groups)] [] (cV b s6),M⟩⟩))(T:VC) :
  (Dn prog).code (.seq (.seq lT (.cond (.m 62) (aa4 (.seq yo (.seq yu (.seq ym (.block 1 (.seq (.loop fX) (K [104,105]))))))) .skip)) T) ⟨JR,⟨gm [A_ r,c1,c2,c3] [.nl,B_ true,A_ 0,.nl,.nl] zI [] (cV b (a,0)),4⟩⟩ =
  (Dn prog).code T ⟨JR,⟨gm [A_ r,c1,c2,c3] [.nl,B_ true,A_ ((gT b (m,0) 2).1),aE 1 (eh w),.nl] [.d (.int .u8 i.seq),.d (.int .u8 i.shape),A_ i.max,.own false 1 (aI i.groups)] [] (cV b s6),M⟩⟩:=by
 have hp:=R7 hr he;have h:=XN b a r hb o_;rw[ac o_,ar,he,fp hp]at h;have h1:=gF (aoM [A_ r,c1,c2,c3] [.nl,B_ true,A_ 0,.nl,.nl] [.d (.int .u8 i.seq),.d (.int .u8 i.shape),A_ i.max,.own false 1 (aI i.groups)] []) b hb (m,0) hp.2.1 2 4;have h2:=nD (aoM [A_ r,c1,c2,c3] [.nl,B_ true,A_ ((gT b (m,0) 2).1),.nl,.nl] [.d (.int .u8 i.seq),.d (.int .u8 i.shape),A_ i.max,.own false 1 (aI i.groups)] []) b (gT b (m,0) 2).2 (((gT b (m,0) 2).1:Int)<3) 4;have hg:=iR (l:=i.groups);have c0:((0:Nat):Int)=0:=rfl;generalize kT (gT b (m,0) 2).2 (((gT b (m,0) 2).1:Int)<3)=s5 at *;generalize gT b (m,0) 2=g at *;obtain⟨x,s4⟩:=g;clear hp he;simp only[cV,gm,c0,aa4,SJ,TU,KC]at h h1 h2 hL⊢;generalize aI i.groups=Z at *;by_cases k1:(x:Int)<3
 .rw[dT_ k1]at h2;simp(maxSteps:=9^6)(disch:=omega)[↓ac,↓aa,h,h1,h2,hL,hg]
 .rw[dF_ k1]at h2;simp(maxSteps:=9^6)(disch:=omega)[↓ac,↓aa,h,h1,h2,hL,hg]
end
abbrev W0 (b:C_)(F:D_)(s:Nat×Nat)(N:Nat):St:=⟨[(4,.ptr 1 0),(6,.ptr 2 0)],⟨[(1,.cells F),(2,.cells (cV b s))],N⟩⟩
section
variable (b:C_)(hb:b.length<=1000000000)(r:Nat)(hr:r<=11)
include hb hr
theorem an5 (q:Bool)(i:aO)(hi:i.Fit)(I iv:D_)(hI:ao6 q i I iv)(c1 c2 c3 f2 f3 f4:AV)(n:Nat)(hn:n<=2):∀(k j a:Nat) (acc:BA_) (N:Nat),j+k=n->acc.length=j->a<=b.length->4<=N->
  match sj b r q i k a with
  |.ok l m=>m<=b.length∧∃M,4<=M∧(Dn prog).code (.loop fI) ⟨CZ n j,⟨gm [A_ r,c1,c2,c3] [aE 9 (eq acc),B_ q,f2,f3,f4] I [] (cV b (a,0)),N⟩⟩=some (.exit 5,W0 b [aE 9 (eq (acc++l)),B_ q,f2,f3,f4] (m,0) M)
  |.er e=>∃s M,s.2=e+1∧(Dn prog).code (.loop fI) ⟨CZ n j,⟨gm [A_ r,c1,c2,c3] [aE 9 (eq acc),B_ q,f2,f3,f4] I [] (cV b (a,0)),N⟩⟩=aiJ b s M:=by
 intro k
 induction k with
 |zero =>
  intro j a acc N hj hl ha hN;obtain rfl:j=n:=o_;simp only[sj];exact⟨ha,N,hN,by rw[akE b _ _ _ _ _ _ hN,bh]⟩
 |succ k ih =>
  intro j a acc N hj hl ha hN;rw[sj]
  cases e:CC b a r q i with
  |er e0 =>
   rw[cG];exact⟨(0,e0+1),N+1,rfl,aoU b hb r hr q i hi I iv hI c1 c2 c3 _ f2 f3 f4 a ha e0 e n j o_ hn N hN⟩
  |ok v m =>
   obtain⟨A,_,_,_,f1,_⟩:=auh hb hr hi e;have hm:=(dF f1).2.1;have h:=ih (j+1) m (acc++[K3 v]) (N+1) o_ g_ hm o_;rw[ah1 b hb r hr q i hi I iv hI c1 c2 c3 f2 f3 f4 a ha acc o_ v m e n j o_ hn N hN,az]
   cases e2:sj b r q i k m with
   |er e0=>rw[e2]at h;exact h
   |ok l p =>
    rw[e2]at h;obtain⟨h1,M,h2,h3⟩:=h;exact⟨h1,M,h2,by rw[h3,ax];rfl⟩
end
abbrev Vl:VC:=(.seq D2 (.block 5 (.seq (.loop fI) (.seq (.seq (K [140,141]) (F 2)) (F 7)))))
def abT (C F I:D_)(b:C_)(s:Nat×Nat)(c0 c2 c3:AV)(n:Nat)(N:Nat)(F2:D_)(s2:Nat×Nat)(M:Nat)
  (hL:(Dn prog).code (.loop fI) ⟨CZ n 0,⟨gm [c0,A_ n,c2,c3] F I [] (cV b s),N⟩⟩=some (.exit 5,W0 b F2 s2 M))(T:VC) :
  (Dn prog).code (.seq Vl T) ⟨JR,⟨gm [c0,A_ n,c2,c3] F I [] (cV b s),N⟩⟩=(Dn prog).code T (W0 b F2 s2 M):=by
 simp only[cV,gm,CZ,W0,Vl]at hL⊢;simp(maxSteps:=9^6)(disch:=omega)[↓ac,↓aa,hL]
def ai5 (C F I:D_)(b:C_)(s:Nat×Nat)(c0 c2 c3:AV)(n:Nat)(N:Nat)(s2:Nat×Nat)(M:Nat)
  (hL:(Dn prog).code (.loop fI) ⟨CZ n 0,⟨gm [c0,A_ n,c2,c3] F I [] (cV b s),N⟩⟩=aiJ b s2 M)(T:VC) :
  (Dn prog).code (.seq Vl T) ⟨JR,⟨gm [c0,A_ n,c2,c3] F I [] (cV b s),N⟩⟩=aiJ b s2 M:=by
 simp only[cV,gm,CZ,aiJ,Vl]at hL⊢;simp(maxSteps:=9^6)(disch:=omega)[↓ac,↓aa,hL]
abbrev OJ:VC:=(.seq DR (.seq (.seq DY (.cond (.m 204) (.seq yk .ret) .skip)) (.seq (.seq (.seq Fe (K [6,221,222,223,224,225,226,227,228,229,230,231])) (.cond (.m 232) (.seq Eo .ret) .skip)) (.seq Ej .ret))))
def az2 (F:D_):Hr (λc=>[(1,.cells F),(2,.cells c)]) 2:=⟨λc=>by simp,λc d=>by simp⟩
def Xa {h:am}{l:C_}{a:Nat}(ha:a<=l.length)(hl:l.length<=1000000000):mF h 1 (.d (.lst (ai l))) (some (A_ (a:Int))) none none=some (.d (.lst (ai (l.drop a)))):=by
 have e2:eK (A_ (a:Int)) (ai l).length=some a:=by rw[yp o_ (by rw[bB];omega)];simp
 have e3:Gp 1 (ai l)=true:=by cases l<;>rfl
 simp only[mF,okSl,vt,lenOf,xb,v7,e2,e3,sub];have e4:((ai l).drop a).take ((ai l).length-a)=ai (l.drop a):=by
  rw[bH (by rw[cP];exact ak _)];unfold ai;rw[List.map_drop]
 rw[e4]
def P0 {m:Nat}{xs:E_}:mW (share (aE m xs))=share (aE m xs):=by cases xs<;>rfl
def awz (b:C_)(hb:b.length<=1000000000)(xs ys:E_)(q:Bool)(k:Int)(m:Nat)(hm:m<=b.length)(N:Nat) :
  match (CL b m).bind λfl m=>if b.length-m<=7∧1∉b.drop m then R.ok fl m else .er 7 with
  |.ok fl p=>∃s,(Dn prog).code OJ (W0 b [aE 9 xs,B_ q,A_ k,aE 1 ys,.nl] (m,0) N)=some (.ret,⟨[(4,.ptr 1 0),(5,A_ 0)],⟨[(1,.cells [share (aE 9 xs),B_ q,A_ k,share (aE 1 ys),share (aE 1 (ai fl))]),(2,.cells (cV b s))],N⟩⟩)
  |.er e=>∃s,(Dn prog).code OJ (W0 b [aE 9 xs,B_ q,A_ k,aE 1 ys,.nl] (m,0) N)=some (.ret,⟨[(4,.ptr 1 0),(5,A_ ((e+1:Nat):Int))],⟨[(1,.cells zF),(2,.cells (cV b s))],N⟩⟩):=by
 obtain⟨w,x,s,h1,h2⟩:=an4 (az2 [aE 9 xs,B_ q,A_ k,aE 1 ys,.nl]) b hb m hm N;have c0:((0:Nat):Int)=0:=rfl;have hbl:=bB (l:=b);obtain⟨a,e⟩:=s;unfold Hl at h1;simp only[W0,cV,c0,OJ]at h1⊢
 cases hf:CL b m with
 |er e0 =>
  rw[hf]at h2;rw[cG];have he:e=e0+1:=h2;subst he;have ce:((e0+1:Nat):Int)=(e0:Int)+1:=rfl;have e1:¬((e0:Int)+1=0):=o_;refine⟨(a,e0+1),?_⟩;simp only[ce]at h1⊢;generalize ai w=W at *;simp(maxSteps:=9^6)(disch:=omega)[↓ac,↓aa,-bl,Im,P0,Et,h1,e1]
 |ok fl p =>
  rw[hf]at h2;obtain⟨h3,h4⟩:=h2;simp only[aR]at h4;obtain⟨h4,h5⟩:=h4;subst h3 h4 h5;have hp:a<=b.length:=by have:=(agS hm).1 hf;exact(dF this.2).2.1
  have hC:=anx (b.drop a) (by rw[cP];omega);have hS:=λh=>Xa (h:=h) hp hb
  rw[az];simp only[c0]at h1⊢;have ez:zF=[.nl,B_ false,A_ 0,.nl,.nl]:=rfl;by_cases k1:b.length-a<=7
  .by_cases k2:1∈b.drop a
   .rw[aa (λh=>h.2 k2)];rw[dT_ k2]at hC;refine⟨(a,0),?_⟩;generalize ai (b.drop a)=D at *;generalize ai b=B at *;generalize ai w=W at *;simp(maxSteps:=9^6)(disch:=omega)[↓ac,↓aa,-bl,Im,P0,Et,h1,hC,hS,hbl]
   .rw[ac ⟨k1,k2⟩];rw[dF_ k2]at hC;refine⟨(a,0),?_⟩;generalize ai (b.drop a)=D at *;generalize ai b=B at *;generalize ai w=W at *;simp(maxSteps:=9^6)(disch:=omega)[↓ac,↓aa,-bl,Im,P0,Et,h1,hC,hS,hbl]
  .rw[aa (λh=>k1 h.1)];refine⟨(a,0),?_⟩;generalize ai (b.drop a)=D at *;generalize ai b=B at *;generalize ai w=W at *;simp(maxSteps:=9^6)(disch:=omega)[↓ac,↓aa,-bl,Im,P0,Et,h1,hC,hS,hbl]
def aue:aco.Fit:=⟨k_,k_,k_,k_,s_⟩
abbrev qH:=@Int.tdiv_eq_ediv_of_nonneg
def aw8 {x k:Nat}(hk:k<8):x / 2 ^ (8-k)*2 ^ (8-k)+x / 2 ^ (7-k) % 2*2 ^ (7-k)=x / 2 ^ (7-k)*2 ^ (7-k):=by
 have e:8-k=(7-k)+1:=o_;rw[e,da,<-Nat.div_div_eq_div_mul,<-rM,Nat.mul_right_comm,<-dh]
 congr 1
 have:=px (x / 2 ^ (7-k)) 2;omega
def aCT {x k:Nat}(hk:k<8):(x / 2 ^ (8-k)*2 ^ (8-k)) |||(x / 2 ^ (7-k) % 2*2 ^ (7-k))=x / 2 ^ (7-k)*2 ^ (7-k):=by
 rw[<-aw8 hk,dM (x / 2 ^ (8-k)),kx];have e:8-k=(7-k)+1:=o_;rw[e,da];have h2:0<2 ^ (7-k):=bN _;have:x / 2 ^ (7-k) % 2<2:=dl _ o_;have:x / 2 ^ (7-k) % 2=0∨x / 2 ^ (7-k) % 2=1:=o_;rcases this with h|h<;>rw[h]<;>omega
def aws {x k:Nat}(h:x<=255):x / 2 ^ k*2 ^ k<=255:=aM (Nat.div_mul_le_self _ _) h
def agE {x:Nat}:∀{n k:Nat},k<n->(au x n)[k]?=some (x / 2 ^ (n-1-k) % 2)
 |n+1,0,_=>by rw[au];simp
 |n+1,k+1,h=>by rw[au,mP,agE o_];congr 4;omega
def oD {l:C_}{i x:Nat}(h:l[i]?=some x):(ai l)[i]?=some [.int .u8 (x:Int)]:=by rw[ai,b9,h];rfl
def asa (w a:C_)(hw:w.length<=16777216)(n:Nat)(i j k p x q:Nat)(hi:i=8*j+k)(hk:k<8)(hwi:w[i]?=some x)(hx:x<=1)(ha:a[j]?=some p)(hp:p<=255)(hq:p |||x*2 ^ (7-k)=q)(hq2:q<=255)(hn:a.length=n)(N:Nat) :
  (Dn prog).code (.loop kh) ⟨[(4,.sl 0 0 n),(15,.d (.lst (ai w))),(16,A_ w.length),(17,A_ i)],⟨[(0,.arr 1 (ai a))],N⟩⟩ =
  (Dn prog).code (.loop kh) ⟨[(4,.sl 0 0 n),(15,.d (.lst (ai w))),(16,A_ w.length),(17,A_ ((i+1:Nat):Int))],⟨[(0,.arr 1 (ai (a.set j q)))],N⟩⟩:=by
 have hil:i<w.length:=(aJ.1 hwi).1;have hjn:j<n:=hn▸(aJ.1 ha).1;have g1:=oD hwi;have g2:=oD ha;have t1:(i:Int).tdiv 8=(j:Int):=by rw[qH o_];omega
 have t2:(i:Int).tmod 8=(k:Int):=by rw[eJ o_];omega
 have hpw:2 ^ (7-k)<=2 ^ 7:=aw o_ o_;have hxm:x*2 ^ (7-k)<=128:=aM (qB hx hpw) o_;have sh:fe .shl (.d (.int .u8 (x:Int))) (A_ (7-(k:Int)))=some (.int .u8 ((x*2 ^ (7-k):Nat):Int)):=by
  have e:min (7-(k:Int)).toNat IntKind.u8.bits=7-k:=by show min _ 8=_;omega
  rw[sY o_,e];have:((x:Int)*((2 ^ (7-k):Nat):Int))=((x*2 ^ (7-k):Nat):Int):=(vV _ _).symm;rw[this];have:∀z:Nat,z<=128->wr .u8 (z:Int)=z:=λz h=>by simp(disch:=omega)
  rw[this _ hxm]
 have tn:jM .u8=256:=rfl;have or':=aoX (k:=.u8) (a:=p) (b:=x*2 ^ (7-k)) o_ o_ (by rw[hq];omega);rw[hq]at or';have c1:((i+1:Nat):Int)=(i:Int)+1:=rfl;have hx2:¬(x:Int) > 1:=o_;rw[ah My,c1];generalize x*2 ^ (7-k)=z at *;generalize hA:ai a=A at *;have hs:A.set j [.int .u8 (q:Int)]=ai (a.set j q):=by rw[<-hA,avn]
 clear hn ha;generalize ai w=W at *;simp(maxSteps:=9^6)(disch:=omega)[↓ac,↓aa,g1,g2,t1,t2,sh,or',hs,-sY]
def asF (w:C_)(hw:w.length<=16777216)(n j x:Nat)(hx:x<=255)(A Z:C_)(hA:A.length=j)(hn:A.length+1+Z.length=n)(hb:∀k,k<8->w[8*j+k]?=some (x / 2 ^ (7-k) % 2))(N:Nat):∀(c k:Nat),k+c=8->
  (Dn prog).code (.loop kh) ⟨[(4,.sl 0 0 n),(15,.d (.lst (ai w))),(16,A_ w.length),(17,A_ ((8*j+k:Nat):Int))],⟨[(0,.arr 1 (ai (A++x / 2 ^ (8-k)*2 ^ (8-k)::Z)))],N⟩⟩ =
  (Dn prog).code (.loop kh) ⟨[(4,.sl 0 0 n),(15,.d (.lst (ai w))),(16,A_ w.length),(17,A_ ((8*j+8:Nat):Int))],⟨[(0,.arr 1 (ai (A++x::Z)))],N⟩⟩:=by
 intro c
 induction c with
 |zero =>
  intro k hk;obtain rfl:k=8:=o_;simp
 |succ c ih =>
  intro k hk;rw[asa w _ hw n (8*j+k) j k _ _ (x / 2 ^ (8-(k+1))*2 ^ (8-(k+1))) rfl o_ (hb k o_) (by have:=dl (x / 2 ^ (7-k)) (y:=2) o_;omega) (by rw[<-hA];simp;rfl) (aws hx) (by rw[aCT o_,show 8-(k+1)=7-k by omega]) (aws hx) g_ N];rw[<-hA,Ur,hA];exact ih (k+1) (by omega)
def asW (w:C_)(hw:w.length<=16777216)(n N:Nat):∀(r A:C_),w=bu A++bu r->(∀x∈r,x<=255)->A.length+r.length=n->
  (Dn prog).code (.loop kh) ⟨[(4,.sl 0 0 n),(15,.d (.lst (ai w))),(16,A_ w.length),(17,A_ ((8*A.length:Nat):Int))],⟨[(0,.arr 1 (ai (A++List.replicate r.length 0)))],N⟩⟩ =
  some (.exit 0,⟨[(4,.sl 0 0 n)],⟨[(0,.arr 1 (ai (A++r)))],N⟩⟩):=by
 intro r
 induction r with
 |nil =>
  intro A hA hr hn;have hl:w.length=8*A.length:=by rw[hA,aj,dI];simp[bu]
  rw[ah My,<-hl];simp(maxSteps:=9^6)(disch:=omega)[↓ac,↓aa]
 |cons x r ih =>
  intro A hA hr hn;have h0:x / 2 ^ (8-0)*2 ^ (8-0)=0:=by
   have:=hr x (.head _);have:x / 256=0:=o_;show x / 256*256=0;rw[this]
  have hb:∀k,k<8->w[8*A.length+k]?=some (x / 2 ^ (7-k) % 2):=λk hk=>by
   have e:bu (x::r)=au x 8++bu r:=rfl;rw[hA,e,bg (by rw[dI];omega),dI,gx,bU (by rw[cM];exact hk),agE hk]
  have h1:=asF w hw n A.length x (hr x (.head _)) A (List.replicate r.length 0) rfl (by simp at hn⊢;omega) hb N 8 0 rfl;rw[h0]at h1;have h2:=ih (A++[x]) (by rw[hA];simp[bu]) (λy hy=>hr y (.tail _ hy)) (by simp at hn⊢;omega);rw[aq,cx];have e1:8*A.length+8=8*(A++[x]).length:=by simp;omega
  rw[e1]at h1;simp only[ax,cw]at h2;rw[<-h2,<-h1];rfl
def adD (l:C_)(hl:8*l.length<=16777216)(hl2:∀n∈l,n<=255):bq prog VL [.d (.lst (ai (bu l)))]=some (.tup [.own true 1 (ai l),A_ 0]):=by
 have hu:=dI (l:=l);have hbu:=bB (l:=bu l);have hk:=Ea (z:=[.int .u8 0]) (n:=l.length) o_;have e:List.replicate l.length [D.int .u8 0]=ai (List.replicate l.length 0):=by simp[ai]
 rw[e]at hk;have ha:=asW (bu l) o_ l.length 1 l [] (by simp[bu]) hl2 s_;have t1:(8*(l.length:Int)+7).tdiv 8=(l.length:Int):=by rw[qH o_];omega
 have c0:((8*([]:C_).length:Nat):Int)=0:=rfl;have c8:((8*l.length:Nat):Int)=8*(l.length:Int):=s_;have hz:(ai (List.replicate l.length 0)).length=l.length:=by rw[bB,aL]
 have ht:List.take l.length (ai l)=ai l:=bH (by rw[bB];omega);have hbl:=bB (l:=l);rw[c0,hu,c8]at ha;rw[hu]at hbu;simp only[aK]at ha;rw[aG alF akV rfl];generalize ai (bu l)=W at *;generalize ai (List.replicate l.length 0)=Z at *;generalize ai l=B at *;simp(maxSteps:=9^6)(disch:=omega)[↓ac,↓aa,hk,ha,t1,hbu,hbl,hz,ht]
def OC (b:C_)(r:Nat)(n:Int):R fJ:=(apw b r n).bind λf m=>if b.length-m<=7∧1∉b.drop m then .ok f m else .er 7
abbrev fJ.ow (f:fJ):D_:=[share (aE 9 (eq f.chans)),B_ f.common,A_ f.mask,share (aE 1 (eh f.bands)),share (aE 1 (ai f.fill))]
def Sn {α β γ:Type}{x:R α}{f:α->Nat->R β}{g:β->Nat->R γ}:(x.bind f).bind g=x.bind λv n=>(f v n).bind g:=by cases x<;>rfl
abbrev av0:VC:=(.seq yo (.seq yu (.seq ym (.block 1 (.seq (.loop fX) (K [104,105]))))))
abbrev YC:VC:=(.seq (.seq uZ (K [41])) (.seq Ak (.seq Ac (.seq (.seq sm (.cond (.m 49) sE .skip)) (.seq (.seq lT (.cond (.m 62) (aa4 av0) .skip)) (.seq Vl OJ))))))
def TS (b:C_)(C:D_)(x:R fJ):Prop :=
 match x with
 |.ok f m=>∃s N,(Dn prog).code YC ⟨[(2,.ptr 0 0),(4,.ptr 1 0),(6,.ptr 2 0)],⟨hp3 C zF (cV b (0,0)),3⟩⟩=some (.ret,⟨[(4,.ptr 1 0),(5,A_ 0)],⟨[(1,.cells f.ow),(2,.cells (cV b s))],N⟩⟩)
 |.er e=>∃s N,(Dn prog).code YC ⟨[(2,.ptr 0 0),(4,.ptr 1 0),(6,.ptr 2 0)],⟨hp3 C zF (cV b (0,0)),3⟩⟩=some (.ret,⟨[(4,.ptr 1 0),(5,A_ ((e+1:Nat):Int))],⟨[(1,.cells zF),(2,.cells (cV b s))],N⟩⟩)
section
variable (b:C_)(hb:b.length<=1000000000)(r:Nat)(hr:r<=11)
include hb hr
theorem adq (n:Nat)(hn:n=1∨n=2)(q:Bool)(i:aO)(hi:i.Fit)(I iv:D_)(hI:ao6 q i I iv)(c2 c3:AV)(k:Int)(t:T_)(a:Nat)(ha:a<=b.length)(N:Nat)(hN:4<=N) :
  match (sj b r q i n a).bind λcs m=>(CL b m).bind λfl m=>if b.length-m<=7∧1∉b.drop m then R.ok (⟨cs,q,k,t,fl⟩:fJ) m else .er 7 with
  |.ok f m=>∃s M,(Dn prog).code (.seq Vl OJ) ⟨JR,⟨gm [A_ r,A_ n,c2,c3] [.nl,B_ q,A_ k,aE 1 (eh t),.nl] I [] (cV b (a,0)),N⟩⟩=some (.ret,⟨[(4,.ptr 1 0),(5,A_ 0)],⟨[(1,.cells f.ow),(2,.cells (cV b s))],M⟩⟩)
  |.er e=>∃s M,(Dn prog).code (.seq Vl OJ) ⟨JR,⟨gm [A_ r,A_ n,c2,c3] [.nl,B_ q,A_ k,aE 1 (eh t),.nl] I [] (cV b (a,0)),N⟩⟩=some (.ret,⟨[(4,.ptr 1 0),(5,A_ ((e+1:Nat):Int))],⟨[(1,.cells zF),(2,.cells (cV b s))],M⟩⟩):=by
 have e0:aE 9 (eq [])=.nl:=rfl;have h:=an5 b hb r hr q i hi I iv hI (A_ n) c2 c3 (A_ k) (aE 1 (eh t)) .nl n o_ n 0 a [] N o_ rfl ha hN;rw[e0]at h
 cases e:sj b r q i n a with
 |er e1 =>
  rw[e]at h;obtain⟨s,M,h1,h2⟩:=h;rw[cG];refine⟨s,M,?_⟩;rw[ai5 [] _ _ _ _ _ _ _ _ _ _ _ h2,<-h1]
 |ok cs m =>
  rw[e]at h;obtain⟨hm,M,h1,h2⟩:=h;rw[az];have h5:=awz b hb (eq ([]++cs)) (eh t) q k m hm M
  cases e2:CL b m with
  |er e3 =>
   rw[e2,cG]at h5;obtain⟨s,h5⟩:=h5;rw[cG];exact⟨s,M,by rw[abT [] _ _ _ _ _ _ _ _ _ _ _ _ h2,h5]⟩
  |ok fl p =>
   rw[e2,az]at h5;rw[az];by_cases hc:b.length-p<=7∧1∉b.drop p
   .rw[ac hc]at h5⊢;obtain⟨s,h5⟩:=h5;exact⟨s,M,by rw[abT [] _ _ _ _ _ _ _ _ _ _ _ _ h2,h5];rfl⟩
   .rw[aa hc]at h5⊢;obtain⟨s,h5⟩:=h5;exact⟨s,M,by rw[abT [] _ _ _ _ _ _ _ _ _ _ _ _ h2,h5]⟩
theorem KR (n:Nat)(hn:n=1∨n=2)(I:D_)(f0 f1 f2 f3 f4:AV)(c0 c2 c3:AV)(s:Nat×Nat)(hs:s.2≠0)(N:Nat) :
  (Dn prog).code (.seq Vl OJ) ⟨JR,⟨gm [c0,A_ n,c2,c3] [f0,f1,f2,f3,f4] I [] (cV b s),N⟩⟩=aiJ b s N :=
 ai5 [] _ _ _ _ _ _ _ _ _ _ _ (ahI b _ _ _ _ _ _ _ s hs n 0 o_ N) _
theorem asC (n:Nat)(hn:n=1∨n=2)(c2 c3:AV)(hd:(Zk b n).2≠0)(e:Nat)(he:(Zk b n).2=e+1):TS b [A_ r,A_ n,c2,c3] (.er e):=by
 refine⟨Zk b n,4,?_⟩;rw[amX b hb (A_ r) c2 c3 n o_];have hs:=aBJ b hb (n:=(n:Int));generalize Zk b n=s at *;rw[<-he];rcases hn with rfl|rfl
 .rw[show((1:Nat):Int)=1 from rfl,aig b hb,show(zF:D_)=[.nl,B_ false,A_ 0,.nl,.nl] from rfl,N5 _ _ _ _ (.inl rfl)];exact KR b hb r hr 1 (.inl rfl) _ _ _ _ _ _ _ _ _ s hd 4
 .rw[show((2:Nat):Int)=2 from rfl,ahi b hb _ _ _ s hs,vH hd,N5 _ _ _ _ (.inr hd)];exact KR b hb r hr 2 (.inr rfl) _ _ _ _ _ _ _ _ _ s hd 4
theorem alS (n:Nat)(hn:n=1∨n=2)(c2 c3:AV)(a:Nat)(ha:a<=b.length)(x:R fJ)
  (hx:x=(sj b r false aco n a).bind λcs m=>(CL b m).bind λfl m=>if b.length-m<=7∧1∉b.drop m then R.ok (⟨cs,false,0,[],fl⟩:fJ) m else .er 7)
  (h:(Dn prog).code YC ⟨[(2,.ptr 0 0),(4,.ptr 1 0),(6,.ptr 2 0)],⟨hp3 [A_ r,A_ n,c2,c3] zF (cV b (0,0)),3⟩⟩=(Dn prog).code (.seq (.seq lT (.cond (.m 62) (aa4 av0) .skip)) (.seq Vl OJ)) ⟨JR,⟨gm [A_ r,A_ n,c2,c3] [.nl,B_ false,A_ 0,.nl,.nl] zI [] (cV b (a,0)),4⟩⟩):TS b [A_ r,A_ n,c2,c3] x:=by
 rw[N5 _ _ _ _ (.inl rfl)]at h;have ht:=adq b hb r hr n hn false aco aue zI zI (.inr ⟨rfl,rfl,rfl⟩) c2 c3 0 [] a ha 4 o_;rw[<-hx,show aE 1 (eh [])=.nl from rfl]at ht;unfold TS;rw[h];exact ht
theorem ar2 (n:Nat)(hn:n=1∨n=2)(c2 c3:AV):TS b [A_ r,A_ n,c2,c3] (OC b r n):=by
 have hP1:=λT=>amX b hb (A_ r) c2 c3 n o_ T
 have hdead:=asC b hb r hr n hn c2 c3;have hs2:Zk b n=kT (gT b (MB b n) 4).2 (((gT b (MB b n) 4).1:Int)=0):=rfl;have hs1:MB b n=kT (gT b (0,0) 3).2 (((gT b (0,0) 3).1:Int)=n-1):=rfl;unfold OC apw
 cases e1:bi b (0:Nat) 3 with
 |er e =>
  rw[Ae e1,mb (bz _)]at hs1;rw[hs1,vH (bz _),mb (bz _)]at hs2;rw[cG,cG];exact hdead (by rw[hs2];exact bz _) e (by rw[hs2])
 |ok x m =>
 rw[az];by_cases hx:(x:Int)≠n-1
 .rw[pB e1,N3 hx]at hs1;rw[hs1,vH s_,mb s_]at hs2;rw[ac hx,cG];exact hdead (by rw[hs2];simp) 7 (by rw[hs2])
 rw[aa hx];rw[pB e1,Lf (Classical.not_not.1 hx)]at hs1
 cases e2:bi b m 4 with
 |er e =>
  rw[hs1,Ae e2,mb (bz _)]at hs2;rw[cG,cG];exact hdead (by rw[hs2];exact bz _) e (by rw[hs2])
 |ok y a =>
 rw[az];by_cases hy:y≠0
 .rw[hs1,pB e2,N3 t_]at hs2;rw[ac hy,cG];exact hdead (by rw[hs2];simp) 7 (by rw[hs2])
 rw[aa hy];rw[hs1,pB e2,Lf t_]at hs2;simp only at hs2;have ha:a<=b.length:=(eV e2).2;rw[hs2]at hP1;clear hs1 hs2 hdead e1 e2 hx hy;rcases hn with rfl|rfl
 .refine alS b hb r hr 1 (.inl rfl) c2 c3 a ha _ ?_ ((hP1 _).trans (aig b hb _ _ _ _ _));rw[aa o_,az];simp only[NV];rw[show decide ((0:Nat)=1)=false from rfl,aa s_,az];simp only[Sn,az];rfl
 .have hP:=λT=>(hP1 _).trans (ahi b hb (A_ r) c2 c3 (a,0) ha T)
  clear hP1;rw[ac o_]
  cases e3:bi b a 1 with
  |er e =>
   rw[Ae e3]at hP;rw[cG,cG];refine⟨(a,e+1),4,?_⟩;refine(hP _).trans ?_;rw[N5 _ _ _ _ (.inr (bz _))];exact KR b hb r hr 2 (.inr rfl) _ _ _ _ _ _ _ _ _ _ (bz _) 4
  |ok x m =>
  have hm:m<=b.length:=(eV e3).2;rw[pB e3]at hP;rw[az];simp only at hP;by_cases hx:x=1
  rotate_left
  .rw[dF_ hx]at hP⊢;refine alS b hb r hr 2 (.inr rfl) c2 c3 m hm _ ?_ (hP _);simp only[NV];rw[aa s_,az];simp only[Sn,az];rfl
  rw[dT_ hx]at hP⊢;simp only[NV];rw[ac trivial]
  cases e4:nb b m r with
  |er e =>
   rw[cG,cG,cG];exact⟨(0,e+1),4,(hP _).trans (ave b hb r hr _ c2 c3 m e hm e4 _ _)⟩
  |ok i m2 =>
  have p:=R7 hr e4;have hi:i.Fit:=am0 hr p.1 p.2.2;have hmx:=ka (gR hr p.1);have him:((i.max.toNat:Nat):Int)=i.max:=o_;have hgl:=hi.len;rw[az];have hs5:(kT (gT b (m2,0) 2).2 (((gT b (m2,0) 2).1:Int)<3)).1<=b.length:=H0 (rD p.2.1);obtain⟨w,s6,M,hM,h6,hw,hd,hL⟩:=aq5 b hb [A_ r,A_ 2,c2,c3] .nl (B_ true) .nl (.d (.int .u8 i.seq)) (.d (.int .u8 i.shape)) (.own false 1 (aI i.groups)) i.max.toNat o_ i.groups.length hgl (gT b (m2,0) 2).1 (kT (gT b (m2,0) 2).2 (((gT b (m2,0) 2).1:Int)<3)) hs5 4 o_;rw[him]at hL;have hrun:=(hP _).trans (avr b hb r hr _ c2 c3 m hm i m2 e4 w s6 M hL (.seq Vl OJ));have dead:∀e,s6.2=e+1->TS b [A_ r,A_ 2,c2,c3] (.er e):=λe he=>by
   refine⟨s6,M,hrun.trans ?_⟩;rw[<-he];exact KR b hb r hr 2 (.inr rfl) _ _ _ _ _ _ _ _ _ _ o_ M
  cases e5:bi b m2 2 with
  |er e =>
   rw[Ae e5,mb (bz _)]at hd;rw[cG,cG,cG];exact dead e (by rw[hd (bz _)])
  |ok k m3 =>
  rw[az];by_cases hk:¬k<3
  .rw[pB e5,N3 t_]at hd;rw[ac hk,cG,cG];exact dead 7 (by rw[hd s_])
  rw[aa hk];rw[pB e5]at hw hrun;rw[Lf t_]at hw;have hw:=hw rfl;simp only at hw hrun
  cases e6:(if k=1 then w8 b i.max.toNat i.groups.length m3 else R.ok [] m3) with
  |er e =>
   rw[e6]at hw;rw[cG,cG,cG];exact dead e hw
  |ok t m4 =>
   rw[e6]at hw;obtain⟨rfl,rfl⟩:=hw;have ht:=adq b hb r hr 2 (.inr rfl) true i hi _ i.cells (.inl ⟨rfl,rfl⟩) c2 c3 k w m4 h6 M hM;rw[az,az];simp only[Sn,az];unfold TS;rw[show((2:Nat):Int)=2 from rfl]at ht⊢;have hrun:(Dn prog).code YC ⟨[(2,.ptr 0 0),(4,.ptr 1 0),(6,.ptr 2 0)],⟨hp3 [A_ r,A_ 2,c2,c3] zF (cV b (0,0)),3⟩⟩=_:=hrun;rw[hrun];exact ht
end
def atx {h:am}{a b c:E_}{x:Bool}{y e:Int}:iu h (.tup [.agg [share (aE 9 a),B_ x,A_ y,share (aE 1 b),share (aE 1 c)],A_ e])=some (.tup [.agg [share (aE 9 a),B_ x,A_ y,share (aE 1 b),share (aE 1 c)],A_ e]):=by
 cases a<;>cases b<;>cases c<;>rfl
def asR (rt n:Int)(cb:Bool)(cz:Int)(X:AV)(l:C_)(hX:fy X (ai l))(hl:l.length<=100000)(hl2:∀x∈l,x<=255) :
  (oy rt n∧(l.length:Int)<=192*n∧bq prog PZ [lO rt n cb cz,X]=match OC (bu l) rt.toNat n with
   |.ok f m=>some (.tup [.agg f.ow,A_ 0])
   |.er e=>some (.tup [.agg zF,A_ ((e+1:Nat):Int)]))∨
  (¬(oy rt n∧(l.length:Int)<=192*n)∧∃e:Int,e≠0∧bq prog PZ [lO rt n cb cz,X]=some (.tup [.agg zF,A_ e])):=by
 obtain⟨⟨x1,x2,x3⟩,x4,x5⟩:=hX.facts;obtain⟨vx,ux⟩:=hX.view;have hbl:=bB (l:=l);rw[hbl]at x5;have hcf:=Z3 rt n cb cz;simp only[lO]at hcf⊢;rw[aG aoj an0 rfl];rcases hcf with ⟨hc,ec⟩|⟨hc,ec⟩
 rotate_left
 .refine .inr ⟨λh=>hc h.1,2,k_,?_⟩;simp(maxSteps:=9^6)(disch:=omega)[↓ac,↓aa,-bl,x1,x2,x3,x4,x5,ec]
 by_cases hn:(l.length:Int)<=192*n
 rotate_left
 .refine .inr ⟨λh=>hn h.2,3,k_,?_⟩;have:=hc.2;simp(maxSteps:=9^6)(disch:=omega)[↓ac,↓aa,-bl,x1,x2,x3,x4,x5,ec]
 refine .inl ⟨hc,hn,?_⟩;obtain⟨R,rfl⟩:=aA hc.1.1;obtain⟨k,rfl⟩:=aA (show 0<=n by have:=hc.2;omega);have hR:R<=11:=by have:=hc.1.2;omega
 have hk:k=1∨k=2:=by have:=hc.2;omega
 have hu:=Fx l hl hl2 X hX;have ul:=dI (l:=l);have hM:=ar2 (bu l) o_ R hR k hk (B_ cb) (A_ cz);rw[ar];have c0:((0:Nat):Int)=0:=rfl;obtain⟨T,hT⟩:∃T,T=YC:=⟨_,rfl⟩
 cases hG:OC (bu l) R k with
 |ok f m =>
  rw[hG]at hM;obtain⟨s,N,hM⟩:=hM;simp only[hp3,cV,c0,<-hT]at hM⊢;generalize ai (bu l)=B at *;simp only[fJ.ow]at hM⊢;generalize eq f.chans=A1 at *;generalize eh f.bands=A2 at *;generalize ai f.fill=A3 at *;simp(maxSteps:=9^6)(disch:=omega)[↓ac,↓aa,-bl,x1,x2,x3,x4,x5,vx,ux,ec,hu,hM,↓atx]
 |er e =>
  rw[hG]at hM;obtain⟨s,N,hM⟩:=hM;simp only[hp3,cV,c0,<-hT]at hM⊢;generalize ai (bu l)=B at *;simp(maxSteps:=9^6)(disch:=omega)[↓ac,↓aa,-bl,x1,x2,x3,x4,x5,vx,ux,ec,hu,hM]
def de {a b:C_}(ha:bin a)(hb:bin b):bin (a++b):=λx hx=>(aW.1 hx).elim (ha x) (hb x)
def mf:bin []:=λx hx=>absurd hx (by simp)
def vj {α:Type}{f:α->C_}{l:List α}(h:∀x,bin (f x)):bin (l.flatMap f):=λx hx=>by
 obtain⟨y,_,hy⟩:=jg.1 hx;exact h y x hy
def nQ {c:Prop}[Decidable c]{a b:C_}(ha:bin a)(hb:bin b):bin (if c then a else b):=by split<;>assumption
def awo {g:G_}:∀{k w:Nat},bin (Jr g k w)
 |0,_=>mf
 |k+1,w=>de (nQ dB dB) awo
def alK {i:aO}:bin (lH i):=de dB (de dB (de dB (nQ (de dB awo) (de dB dB))))
def Ut {i e:Nat}:bin (kt i e):=de dB dB
def awJ {i:aO}{g:H_}:bin (PI i g):=vj λl=>vj λs=>de dB (vj λn=>dB)
def arY:∀{l t:G_}{w z:Int},bin (qa l t w z)
 |k::r,n::t,w,z=>de (nQ mf (nQ (nQ dB Ut) Ut)) arY
 |[],_,_,_=>mf
 |_::_,[],_,_=>mf
def alM:∀{l:H_}{t:K_}{w z:Int},bin (oz l t w z)
 |l::r,t::s,w,z=>by
  rw[oz];refine de arY ?_;split
  .exact alM
  .exact mf
 |[],_,_,_=>mf
 |_::_,[],_,_=>mf
def aBO {sh:Bool}{l:AA_}:bin (zj sh l):=by
 refine de dB ?_
 cases l with
 |nil=>exact mf
 |cons f r=>exact de dB (vj λf=>de dB (de dB (nQ mf (de dB (de dB (vj λc=>dB))))))
def ax1 {i:Nat}{v:G_}:bin (zW i v):=by
 refine nQ Ut (de Ut (de (vj λv=>nQ mf (nQ ?_ ?_)) (vj λv=>nQ (de ?_ ?_) mf)))
 .intro x hx;simp at hx;omega
 .intro x hx;simp at hx;omega
 .intro x hx;rw[cH hx];omega
 .intro x hx;rcases ay.1 hx with h|h
  .omega
  .exact dB x h
def azs {r:Nat}{c:cQ}{q:Bool}:bin (C9 r c q):=by
 refine de dB (de (nQ mf alK) (de awJ (de alM (de (nQ ?_ ?_) (vj λp=>ax1)))))
 .intro x hx;simp only[ay,aW,b8,eg]at hx;rcases hx with h|h|h|h
  .omega
  .omega
  .exact(vj λl=>aBO:bin (jJ c.info.short c.tns)) x h
  .omega
 .intro x hx;simp at hx;omega
def NO {l:C_}:bin (bu l):=vj λn=>dB
def awP {l:V_}:bin (tV l):=vj λn=>dB
def aDj {R:Nat}{n:Int}{f:fJ}:bin (ml R n f):=by
 refine de (de (de (de (nQ (de dB dB) (nQ (de (de (de (de (de dB dB) dB) ?_) dB) awP) (de (de dB dB) dB))) (vj λc=>azs)) (nQ mf (de dB (de dB (de (nQ dB mf) NO))))) dB) ?_
 .unfold TE;split
  .exact mf
  .exact alK
 .intro x hx;rw[cH hx];omega
def az8 {n:Nat}:(n+Lp n) % 8=0:=by unfold Lp;omega
def aCN {R:Nat}{n:Int}{f:fJ}:(ml R n f).length % 8=0:=by
 rw[ml,wN,aj,aL];exact az8
def XP:∀(k:Nat) {b:C_},b.length=8*k->bin b->∃l:C_,b=bu l∧∀x∈l,x<=255
 |0,b,h,_=>⟨[],by rw[aB h];rfl,s_⟩
 |k+1,b,h,hb=>by
  obtain⟨l,h1,h2⟩:=XP k (b:=b.drop 8) (by rw[cP];omega) (λx hx=>hb x (c7 hx));have hl:(b.take 8).length=8:=by rw[b7];omega
  have ht:bin (b.take 8):=λx hx=>hb x (dr hx)
  have hp:=Uw (n:=0) ht;have hv:=Jq (n:=0) (i:=0) ht o_;rw[hl]at hp hv;refine⟨val (b.take 8) 0::l,?_,λx hx=>?_⟩
  .show b=au _ 8++bu l;rw[hp,<-h1,aX]
  .rcases ay.1 hx with rfl|hx
   .simp at hv;omega
   .exact h2 x hx
def asb (rt n:Int)(cb:Bool)(cz:Int)(f:fJ)(hf:f.Fit)(X Y Z:AV)(hX:fy X (eq f.chans))(hY:fy Y (eh f.bands))(hZ:fy Z (ai f.fill)) :
  (oy rt n∧tw rt.toNat n f∧((ml rt.toNat n f).length:Int)<=1536*n∧∀l:C_,ml rt.toNat n f=bu l->(∀x∈l,x<=255)->bq prog Mp [lO rt n cb cz,pO f X Y Z]=some (.tup [.own true 1 (ai l),A_ 0]))∨
  (¬(oy rt n∧tw rt.toNat n f∧((ml rt.toNat n f).length:Int)<=1536*n)∧∃e:Int,e≠0∧bq prog zO [lO rt n cb cz,pO f X Y Z]=some (A_ e)∧bq prog Mp [lO rt n cb cz,pO f X Y Z]=some (.tup [.nl,A_ e])):=by
 have hC:=apU rt n cb cz f hf X Y Z hX hY hZ;obtain⟨⟨x1,x2,x3⟩,x4,x5⟩:=hX.facts;obtain⟨⟨y1,y2,y3⟩,y4,y5⟩:=hY.facts;obtain⟨⟨z1,z2,z3⟩,z4,z5⟩:=hZ.facts;obtain⟨⟨vx,ux⟩,wx⟩:=hX.one;obtain⟨⟨vy,uy⟩,wy⟩:=hY.one;obtain⟨⟨vz,uz⟩,wz⟩:=hZ.one;rcases hC with ⟨h1,h2,h3,hC⟩|⟨h1,e,he,hC⟩
 rotate_left
 .refine .inr ⟨h1,e,he,hC,?_⟩;simp only[lO,pO]at hC⊢;rw[aG Vz Wv rfl];simp(maxSteps:=9^6)(disch:=omega)[↓ac,↓aa,-bl,x1,x2,x3,x4,y1,y2,y3,y4,z1,z2,z3,z4,ux,uy,uz,vx,vy,vz,wx,wy,wz,hC,he]
 refine .inl ⟨h1,h2,h3,λl hw hl=>?_⟩;obtain⟨R,rfl⟩:=aA h1.1.1;simp only[ar]at h2 h3 hw;have hR:R<=11:=by have:=h1.1.2;omega
 have hW:=Vk R hR n h1.2 cb cz f hf h2 X Y Z hX hY hZ;have hn:=h1.2;rw[hw]at hW h3;rw[dI]at h3;have hP:=adD l o_ hl;simp only[lO,pO]at hC hW⊢;generalize ai (bu l)=B at *;rw[aG Vz Wv rfl];simp(maxSteps:=9^6)(disch:=omega)[↓ac,↓aa,-bl,x1,x2,x3,x4,y1,y2,y3,y4,z1,z2,z3,z4,ux,uy,uz,vx,vy,vz,wx,wy,wz,hC,hW,hP]
def alX {w:AV}{b:Bool}(e:ji w=B_ b):w=B_ b:=by
 unfold ji at e;split at e
 .cases w<;>simp[qr,qo,nS]at e⊢<;>exact e
 .exact e
def avc {h:am}{v:AV}{b:Bool}(e:iu h v=some (B_ b)):v=B_ b:=by
 unfold iu at e;split at e
 .split at e
  .simp only[ae]at e;exact absurd (alX e) (by simp)
  .simp at e
 .split at e
  .rename_i x q hq;simp only[ae]at e;have hx:=alX e;subst hx;unfold gz at hq;split at hq
   .split at hq<;>simp at hq
   .unfold kj at hq;split at hq
    .simp only[ae,aR]at hq;exact hq.1
    .simp at hq
    .simp at hq
    .split at hq
     .split at hq<;>simp at hq
     .simp at hq
    .simp at hq
  .simp at e
def aox {P:Nat->Z_}{f:FuncId}{as:D_}{b:Bool}(h:bq P f as=some (B_ b)):∃m hs,(run P m).call f as ⟨[],0⟩=some (B_ b,hs):=by
 unfold bq at h
 cases hc:(Dn P).call f as ⟨[],0⟩ with
 |none=>rw[hc]at h;simp[tZ]at h
 |some q =>
  obtain⟨v,hs⟩:=q;rw[hc]at h;have:=avc h;subst this;obtain⟨m,hm⟩:=DV hc;exact⟨m,hs,hm⟩
def avG:∀{a b:W_},a.map AV.d=b.map AV.d->a=b
 |[],[],_=>rfl
 |[],_::_,h=>by simp at h
 |_::_,[],h=>by simp at h
 |x::a,y::b,h=>by
  simp only[bL,List.cons.injEq,AV.d.injEq]at h;rw[h.1,avG h.2]
def agd:BG_:=[.int .i64,.int .i64,.bool,.int .i64]
def af3:BG_:=[.lst avE,.bool,.int .i64,.lst [.lst [.bool]],.lst [.int .u8]]
structure fJ.Rng (f:fJ):Prop where
 chans:∀c∈f.chans,c.Rng
 mask:i64 f.mask
 fill:∀n∈f.fill,n<=255
def ax8 {d:D}(h:rg (.lst [.int .u8]) d):∃l:C_,d=.lst (ai l)∧∀n∈l,n<=255:=by
 obtain⟨xs,rfl,h⟩:=J5 h;obtain⟨l,rfl,hl⟩:=Bb (f:=λn:Nat=>[.int .u8 (n:Int)]) (Q:=λn=>n<=255) (λx hx=>by
  obtain⟨d,rfl,hd⟩:=AL hx;obtain⟨n,rfl,hn⟩:=anv hd;exact⟨n,rfl,hn⟩) h
 exact⟨l,rfl,hl⟩
def az3 {x:W_}(h:OkDs af3 x):∃f:fJ,x.map .d=f.av∧f.Rng:=by
 obtain⟨a1,r,rfl,h1,h⟩:=tg h;obtain⟨a2,r,rfl,h2,h⟩:=tg h;obtain⟨a3,r,rfl,h3,h⟩:=tg h;obtain⟨a4,r,rfl,h4,h⟩:=tg h;obtain⟨a5,rfl,h5⟩:=AL h;obtain⟨xs,rfl,h1⟩:=J5 h1;obtain⟨l1,rfl,g1⟩:=Bb (f:=cQ.cells) (Q:=cQ.Rng) (λx hx=>by
  obtain⟨c,e,hc⟩:=aBI hx;exact⟨c,avG e,hc⟩) h1
 obtain⟨b2,rfl⟩:=Io h2;obtain⟨n3,rfl,g3⟩:=sZ h3;obtain⟨xs,rfl,h4⟩:=J5 h4;obtain⟨l4,rfl,g4⟩:=Bb (f:=λr:V_=>[.lst (iD r)]) (Q:=λ_=>True) (λx hx=>by
  obtain⟨d,rfl,hd⟩:=AL hx;obtain⟨ys,rfl,hd⟩:=J5 hd;obtain⟨l,rfl,_⟩:=Bb (f:=λb:Bool=>[.bool b]) (Q:=λ_=>True) (λx hx=>by
   obtain⟨d,rfl,hd⟩:=AL hx;obtain⟨b,rfl⟩:=Io hd;exact⟨b,rfl,trivial⟩) hd
  exact⟨l,rfl,trivial⟩) h4
 obtain⟨l5,rfl,g5⟩:=ax8 h5;exact⟨⟨l1,b2,n3,l4,l5⟩,rfl,g1,g3,g5⟩
def fJ.Rng.fit {f:fJ}(h:f.Rng)(s:ajF f):f.Fit where
 chans:=⟨by have:=s.chans.1;omega,λc hc=>(h.chans c hc).fit (s.chans.2 c hc)⟩
 mask:=h.mask
 bands:=⟨by have:=s.bands.1;omega,λl hl=>by have:=s.bands.2 l hl;omega⟩
 fill:=by have:=s.fill;omega
 fillI:=h.fill
def azP {x:W_}(h:OkDs agd x):∃(rt n:Int) (cb:Bool) (cz:Int),x.map AV.d=[AV.d (.int .i64 rt),A_ n,B_ cb,A_ cz]:=by
 obtain⟨a1,r,rfl,h1,h⟩:=tg h;obtain⟨a2,r,rfl,h2,h⟩:=tg h;obtain⟨a3,r,rfl,h3,h⟩:=tg h;obtain⟨a4,rfl,h4⟩:=AL h;obtain⟨n1,rfl,_⟩:=sZ h1;obtain⟨n2,rfl,_⟩:=sZ h2;obtain⟨b3,rfl⟩:=Io h3;obtain⟨n4,rfl,_⟩:=sZ h4;exact⟨n1,n2,b3,n4,rfl⟩
def aDf {R:Nat}{n:Int}{f:fJ}:At (ml R n f) 0 (t9 R n f).length (t9 R n f):=⟨dD _,o_,_,rfl⟩
def aqK {R:Nat}(hR:R<=11){n:Int}(hn:n=1∨n=2){f:fJ}(hf:f.Fit)(ok:tw R n f):OC (ml R n f) R n=.ok f (t9 R n f).length:=by
 have hl:(ml R n f).length=(t9 R n f).length+Lp (t9 R n f).length:=by
  show(wN (t9 R n f)).length=_;rw[wN,aj,aL]
 have hd:(ml R n f).drop (t9 R n f).length=List.replicate (Lp (t9 R n f).length) 0:=by
  show(wN (t9 R n f)).drop _=_;rw[wN,xw]
 have hp:Lp (t9 R n f).length<=7:=by unfold Lp;omega
 rw[OC,ard hR hn hf ok aDf,az,ac];refine⟨o_,?_⟩;rw[hd];intro h;have:=cH h;omega
def WJ {h:am}{l:C_}{a:Nat}(ha:a<=l.length)(hl:l.length<=1000000000):mF h 1 (.d (.lst (ai l))) none (some (A_ (a:Int))) none=some (.d (.lst (ai (l.take a)))):=by
 have e2:eK (A_ (a:Int)) (ai l).length=some a:=by rw[yp o_ (by rw[bB];omega)];simp
 have e3:Gp 1 (ai l)=true:=by cases l<;>rfl
 simp only[mF,okSl,vt,lenOf,xb,v7,e2,e3,sub];have e4:((ai l).drop 0).take (a-0)=ai (l.take a):=by
  unfold ai;rw[mN,Nat.sub_zero,List.map_take]
 rw[e4]
structure nM where
 rate:Int
 chans:Int
 crc:Bool
 len:Int
 full:Int
abbrev nM.cells (h:nM):D_:=[A_ h.rate,A_ h.chans,B_ h.crc,A_ h.len,A_ h.full]
abbrev AM:nM:=⟨0,0,false,0,0⟩
def dz (c:Bool):Nat:=if c then 9 else 7
def Kk (c:Bool):bq prog LA [B_ c]=some (A_ (dz c)):=by
 rw[aG alv alm rfl]
 cases c
 .simp(maxSteps:=9^6)(disch:=omega)[↓ac,↓aa,dz]
 .simp(maxSteps:=9^6)(disch:=omega)[↓ac,↓aa,dz]
def kw (h:nM):Prop:=(0<=h.rate∧h.rate<=11)∧(h.chans=1∨h.chans=2)∧(0<=h.full∧h.full<=2047)∧(dz h.crc:Int)<h.len∧h.len<=dz h.crc+192*h.chans
instance (h:nM):Decidable (kw h):=by unfold kw;infer_instance
def aaX (h:nM):bq prog Rz [.agg h.cells]=some (B_ (decide (kw h))):=by
 obtain⟨r,n,c,l,f⟩:=h;have hs:=Kk c;have h79:dz c=7∨dz c=9:=by cases c<;>simp[dz]
 rw[aG aic ahp rfl];by_cases h1:0<=r
 rotate_left
 .rw[dF_ (by simp only[kw];omega)];generalize dz c=S at *;simp(maxSteps:=9^6)(disch:=omega)[↓ac,↓aa,hs]
 by_cases h2:r<=11
 rotate_left
 .rw[dF_ (by simp only[kw];omega)];generalize dz c=S at *;simp(maxSteps:=9^6)(disch:=omega)[↓ac,↓aa,hs]
 by_cases h3:n=1∨n=2
 rotate_left
 .rw[dF_ (by simp only[kw];omega)];generalize dz c=S at *;simp(maxSteps:=9^6)(disch:=omega)[↓ac,↓aa,hs]
 by_cases h4:0<=f
 rotate_left
 .rw[dF_ (by simp only[kw];omega)];generalize dz c=S at *;rcases h3 with rfl|rfl<;>simp(maxSteps:=9^6)(disch:=omega)[↓ac,↓aa,hs]
 by_cases h5:f<=2047
 rotate_left
 .rw[dF_ (by simp only[kw];omega)];generalize dz c=S at *;rcases h3 with rfl|rfl<;>simp(maxSteps:=9^6)(disch:=omega)[↓ac,↓aa,hs]
 by_cases h6:(dz c:Int)<l
 rotate_left
 .rw[dF_ (by simp only[kw];omega)];generalize dz c=S at *;rcases h3 with rfl|rfl<;>simp(maxSteps:=9^6)(disch:=omega)[↓ac,↓aa,hs]
 by_cases h7:l<=dz c+192*n
 .rw[dT_ (by simp only[kw];omega)];generalize dz c=S at *;rcases h3 with rfl|rfl<;>simp(maxSteps:=9^6)(disch:=omega)[↓ac,↓aa,hs]
 .rw[dF_ (by simp only[kw];omega)];generalize dz c=S at *;rcases h3 with rfl|rfl<;>simp(maxSteps:=9^6)(disch:=omega)[↓ac,↓aa,hs]
def acX {l:C_}{i x:Nat}{r:C_}(h:l.drop i=x::r):(ai l)[i]?=some [.int .u8 (x:Int)]:=by
 have:=aP (λl=>l[0]?) h;simp only[ck,ca,ej]at this;exact oD this
def auF (x y:C_)(hl:x.length=y.length)(hx:x.length<=1000000):∀(r s:C_) (i:Nat),x.drop i=r->y.drop i=s->
  (Dn prog).code (.loop lG) ⟨[(0,.d (.lst (ai x))),(1,.d (.lst (ai y))),(12,A_ x.length),(13,A_ i)],⟨[],0⟩⟩ =
  if r=s then some (.exit 0,⟨[],⟨[],0⟩⟩) else some (.ret,⟨[(4,B_ false)],⟨[],0⟩⟩):=by
 intro r
 induction r with
 |nil =>
  intro s i h1 h2;have hi:=bv h1;have hs:s=[]:=by rw[<-h2];exact co (by omega)
  rw[hs,ac rfl,ah yP];simp(maxSteps:=9^6)(disch:=omega)[↓ac,↓aa]
 |cons a r ih =>
  intro s i h1 h2;have hi:=bV h1;obtain⟨b,s,rfl⟩:∃b s',s=b::s':=by
   cases s with
   |nil=>have:=bv h2;omega
   |cons b s=>exact⟨b,s,rfl⟩
  have g1:=acX h1;have g2:=acX h2;have d1:x.drop (i+1)=r:=by rw[<-gw,h1];rfl
  have d2:y.drop (i+1)=s:=by rw[<-gw,h2];rfl
  have ih1:=ih s (i+1) d1 d2;rw[show((i+1:Nat):Int)=(i:Int)+1 from rfl]at ih1;rw[ah yP];by_cases hab:a=b
  .subst hab;have e:(a::r=a::s)=(r=s):=s_;simp only[e];rw[<-ih1];simp(maxSteps:=9^6)(disch:=omega)[↓ac,↓aa,g1,g2]
  .have e:¬(a::r=b::s):=by simp[hab]
   rw[aa e];simp(maxSteps:=9^6)(disch:=omega)[↓ac,↓aa,g1,g2,hab]
def aod (x y:C_)(hx:x.length<=1000000)(hy:y.length<=1000000):bq prog CU [.d (.lst (ai x)),.d (.lst (ai y))]=some (B_ (decide (x=y))):=by
 have hxl:=bB (l:=x);have hyl:=bB (l:=y);rw[aG PA Pj rfl];by_cases h:x.length=y.length
 .have h0:=auF x y h hx x y 0 rfl rfl;have c0:((0:Nat):Int)=0:=rfl;rw[c0]at h0;by_cases e:x=y
  .rw[ac e]at h0;rw[dT_ e];generalize ai x=X at *;generalize ai y=Y at *;simp(maxSteps:=9^6)(disch:=omega)[↓ac,↓aa,h0,hxl,hyl]
  .rw[aa e]at h0;rw[dF_ e];generalize ai x=X at *;generalize ai y=Y at *;simp(maxSteps:=9^6)(disch:=omega)[↓ac,↓aa,h0,hxl,hyl]
 .rw[dF_ (λe=>h (by rw[e]))];generalize ai x=X at *;generalize ai y=Y at *;simp(maxSteps:=9^6)(disch:=omega)[↓ac,↓aa,hxl,hyl]
def cN (c:Bool):Int:=if c then 0 else 1
def pr (h:nM):G_:=[4095,12,0,1,0,2,cN h.crc,1,1,2,h.rate,4,0,1,h.chans,3,0,1,0,1,0,2,h.len,13,h.full,11,0,2]
def QI (h:nM):D_:=(pr h).map λn=>A_ n
def Ws (h:nM):bq prog afF [.agg h.cells]=some (.agg (QI h)):=by
 obtain⟨r,n,c,l,f⟩:=h
 cases c
 .exact BP 300 (by kernel_rfl)
 .exact BP 300 (by kernel_rfl)
def fB (h:nM)(i:Nat):C_:=au ((pr h).getD (2*i) 0).toNat ((pr h).getD (2*i+1) 0).toNat
def jz (h:nM)(i:Nat):C_:=(List.range i).flatMap (fB h)
def ajq {h:nM}{i:Nat}:jz h (i+1)=jz h i++fB h i:=by
 rw[jz,List.range_succ,List.flatMap_append];simp[jz]
def aAQ {h:nM}:∀{i:Nat},i<14->(fB h i).length<=13:=by
 intro i hi;rw[fB,cM];obtain rfl|rfl|rfl|rfl|rfl|rfl|rfl|rfl|rfl|rfl|rfl|rfl|rfl|rfl:i=0∨i=1∨i=2∨i=3∨i=4∨i=5∨i=6∨i=7∨i=8∨i=9∨i=10∨i=11∨i=12∨i=13:=o_
 all_goals simp[pr]
def acj {h:nM}:∀{i:Nat},i<=14->(jz h i).length<=13*i
 |0,_=>by simp[jz]
 |i+1,hi=>by
  have h1:=acj (h:=h) (i:=i) o_;have h2:=aAQ (h:=h) (i:=i) o_;rw[ajq,aj];omega
def aw7 {h:nM}(ok:kw h){i:Nat}(hi:i<14):om ((pr h).getD (2*i) 0) ((pr h).getD (2*i+1) 0)∧(pr h).getD (2*i) 0<=10000:=by
 obtain⟨r,n,c,l,f⟩:=h;simp only[kw]at ok;have h79:dz c=7∨dz c=9:=by cases c<;>simp[dz]
 have hc:cN c=0∨cN c=1:=by cases c<;>simp[cN]
 obtain rfl|rfl|rfl|rfl|rfl|rfl|rfl|rfl|rfl|rfl|rfl|rfl|rfl|rfl:i=0∨i=1∨i=2∨i=3∨i=4∨i=5∨i=6∨i=7∨i=8∨i=9∨i=10∨i=11∨i=12∨i=13:=o_
 all_goals simp[pr,om];try omega
def PT {h:nM}:(QI h).map mW=QI h∧shareAll (QI h)=QI h:=⟨rfl,rfl⟩
def aqq {h:nM}{i:Nat}(hi:i<14):ixV 14 2 true (.agg (QI h)) (A_ i)=some (.agg [A_ ((pr h).getD (2*i) 0),A_ ((pr h).getD (2*i+1) 0)]):=by
 obtain rfl|rfl|rfl|rfl|rfl|rfl|rfl|rfl|rfl|rfl|rfl|rfl|rfl|rfl:i=0∨i=1∨i=2∨i=3∨i=4∨i=5∨i=6∨i=7∨i=8∨i=9∨i=10∨i=11∨i=12∨i=13:=o_
 all_goals rfl
def ajX (h:nM)(ok:kw h):∀(k i N:Nat) (x:AV),i+k=14->(x=.nl∧i=0∨x=.own false 1 (ai (jz h i))∧0<i)->
  ∃M,(Dn prog).code (.loop rT) ⟨[(2,x),(6,.agg (QI h)),(7,A_ i)],⟨[],N⟩⟩=some (.exit 0,⟨[(2,.own false 1 (ai (jz h 14)))],⟨[],M⟩⟩):=by
 intro k
 induction k with
 |zero =>
  intro i N x hi hx;obtain rfl:i=14:=o_;rcases hx with ⟨_,hx⟩|⟨rfl,_⟩
  .omega
  refine⟨N,?_⟩;rw[ah HG];generalize ai (jz h 14)=W at *;simp(maxSteps:=9^6)(disch:=omega)[↓ac,↓aa]
 |succ k ih =>
  intro i N x hi hx;have hP:=aw7 ok (i:=i) o_;have hX:=aqq (h:=h) (i:=i) o_;have hlw:=acj (h:=h) (i:=i) o_;obtain⟨M,ih1⟩:=ih (i+1) (N+1) (.own false 1 (ai (jz h (i+1)))) o_ (.inr ⟨rfl,o_⟩);refine⟨M,?_⟩;rw[show((i+1:Nat):Int)=(i:Int)+1 from rfl,ajq]at ih1;have hB:∀y:AV,(y=.d (.lst (ai (jz h i)))∨y=.nl∧jz h i=[])->bq prog yx [y,A_ ((pr h).getD (2*i) 0),A_ ((pr h).getD (2*i+1) 0)]=some (.tup [.own true 1 (ai (jz h i++fB h i)),A_ 0]):=λy hy=>by
   have:=lW (jz h i) ((pr h).getD (2*i) 0) ((pr h).getD (2*i+1) 0) o_ (by have:=hP.1;have:=hP.2;simp only[om]at *;omega) y hy;rw[ac hP.1]at this;exact this
  have hwl:=bB (l:=jz h i);rw[<-ih1];clear ih ih1;obtain⟨hfm,hfs⟩:=PT (h:=h);rw[ah HG];generalize jz h i++fB h i=Q at *;generalize (pr h).getD (2*i) 0=A at *;generalize (pr h).getD (2*i+1) 0=B at *;generalize QI h=F at *;rcases hx with ⟨rfl,rfl⟩|⟨rfl,h0⟩
  .have hb:=hB .nl (.inr ⟨rfl,rfl⟩);have c0:((0:Nat):Int)=0:=rfl;rw[c0]at hX⊢;simp(maxSteps:=9^6)(disch:=omega)[↓ac,↓aa,hfm,hfs,hX,hb]
  .have hb:=hB (.d (.lst (ai (jz h i)))) (.inl rfl);generalize ai (jz h i)=Z at *;generalize ai Q=V at *;simp(maxSteps:=9^6)(disch:=omega)[↓ac,↓aa,hfm,hfs,hX,hb]
def SM (h:nM)(ok:kw h):bq prog E9 [.agg h.cells]=some (.own true 1 (ai (jz h 14))):=by
 have hf:=Ws h;obtain⟨M,hl⟩:=ajX h ok 14 0 1 .nl rfl (.inl ⟨rfl,rfl⟩);have c0:((0:Nat):Int)=0:=rfl;obtain⟨hfm,hfs⟩:=PT (h:=h);rw[c0]at hl;rw[aG ab7 acB rfl];generalize QI h=F at *;simp(maxSteps:=9^6)(disch:=omega)[↓ac,↓aa,hf,hfm,hfs,hl]
def gv (l:C_)(a s:Nat):Nat:=val ((l.drop a).take s) 0
def aB8 {l:C_}(hl:l.length=56)(hb:bin l){a s:Nat}(h:a+s<=56)(hs:s<=31):bq prog yf [.d (.lst (ai l)),A_ a,A_ s]=some (.tup [A_ (gv l a s),A_ ((a+s:Nat):Int),A_ 0]):=by
 have hd:bin ((l.drop a).take s):=λx hx=>hb x (c7 (dr hx))
 have hg:bi l (a:Int) (s:Int)=.ok (gv l a s) (a+s):=by
  unfold bi;rw[ac o_,aa o_,ar,ar,ac hd];rfl
 have hv:gv l a s<2 ^ s:=by
  have:=Jq (n:=0) (i:=0) hd o_;have e:((l.drop a).take s).length=s:=by rw[b7,cP];omega
  rw[e,bn]at this;exact this
 rw[ik l a s o_ o_,hg,fp ⟨by rw[ar];exact hv,o_⟩]
def CQ (l:C_)(i:Nat):nM:=⟨if 5<i then gv l 18 4 else 0,if 7<i then gv l 23 3 else 0,if 3<i then decide (gv l 15 1=0) else false,if 11<i then gv l 30 13 else 0,if 12<i then gv l 43 11 else 0⟩
def mc (l:C_):nM:=⟨gv l 18 4,gv l 23 3,decide (gv l 15 1=0),gv l 30 13,gv l 43 11⟩
def xy:C_:=[0,12,13,15,16,18,22,23,26,27,28,30,43,54,56]
def ax9 (X:AV)(l:C_)(hl:l.length=56)(hb:bin l):∀(k i N:Nat),i+k=14->1<=N->
  ∃M,N<=M∧(Dn prog).code (.loop xU) ⟨[(0,X),(2,.ptr 0 0),(4,.own false 1 (ai l)),(6,A_ (xy.getD i 0)),(23,.agg (QI AM)),(24,A_ i)],⟨[(0,.cells (CQ l i).cells)],N⟩⟩ =
   some (.exit 0,⟨[(0,X),(2,.ptr 0 0),(4,.own false 1 (ai l))],⟨[(0,.cells (mc l).cells)],M⟩⟩):=by
 intro k
 induction k with
 |zero =>
  intro i N hi hN;obtain rfl:i=14:=o_;refine⟨N,ak _,?_⟩;rw[ah MU];generalize ai l=W at *;simp(maxSteps:=9^6)(disch:=omega)[↓ac,↓aa,CQ,mc]
 |succ k ih =>
  intro i N hi hN;have hg:=λa s h1 h2=>aB8 hl hb (a:=a) (s:=s) h1 h2
  obtain⟨M,hM,ih1⟩:=ih (i+1) (N+1) o_ o_;refine⟨M,o_,?_⟩;rw[show((i+1:Nat):Int)=(i:Int)+1 from rfl]at ih1;rw[<-ih1];clear ih ih1;rw[ah MU];obtain⟨hfm,hfs⟩:=PT (h:=AM);have hX:=aqq (h:=AM) (i:=i) o_;generalize QI AM=F at *;generalize ai l=W at *;obtain rfl|rfl|rfl|rfl|rfl|rfl|rfl|rfl|rfl|rfl|rfl|rfl|rfl|rfl:i=0∨i=1∨i=2∨i=3∨i=4∨i=5∨i=6∨i=7∨i=8∨i=9∨i=10∨i=11∨i=12∨i=13:=o_
  .have h:=hg 0 12 o_ o_;simp at h;simp[pr,cN]at hX;simp(maxSteps:=9^6)(disch:=omega)[↓ac,↓aa,CQ,xy,hfm,hfs,hX,h]
  .have h:=hg 12 1 o_ o_;simp at h;simp[pr,cN]at hX;simp(maxSteps:=9^6)(disch:=omega)[↓ac,↓aa,CQ,xy,hfm,hfs,hX,h]
  .have h:=hg 13 2 o_ o_;simp at h;simp[pr,cN]at hX;simp(maxSteps:=9^6)(disch:=omega)[↓ac,↓aa,CQ,xy,hfm,hfs,hX,h]
  .have h:=hg 15 1 o_ o_;simp at h;simp[pr,cN]at hX;by_cases hz:gv l 15 1=0
   .rw[hz]at h;simp(maxSteps:=9^6)(disch:=omega)[↓ac,↓aa,CQ,xy,hfm,hfs,hX,h,hz]
   .simp(maxSteps:=9^6)(disch:=omega)[↓ac,↓aa,CQ,xy,hfm,hfs,hX,h,hz]
  .have h:=hg 16 2 o_ o_;simp at h;simp[pr,cN]at hX;simp(maxSteps:=9^6)(disch:=omega)[↓ac,↓aa,CQ,xy,hfm,hfs,hX,h]
  .have h:=hg 18 4 o_ o_;simp at h;simp[pr,cN]at hX;simp(maxSteps:=9^6)(disch:=omega)[↓ac,↓aa,CQ,xy,hfm,hfs,hX,h]
  .have h:=hg 22 1 o_ o_;simp at h;simp[pr,cN]at hX;simp(maxSteps:=9^6)(disch:=omega)[↓ac,↓aa,CQ,xy,hfm,hfs,hX,h]
  .have h:=hg 23 3 o_ o_;simp at h;simp[pr,cN]at hX;simp(maxSteps:=9^6)(disch:=omega)[↓ac,↓aa,CQ,xy,hfm,hfs,hX,h]
  .have h:=hg 26 1 o_ o_;simp at h;simp[pr,cN]at hX;simp(maxSteps:=9^6)(disch:=omega)[↓ac,↓aa,CQ,xy,hfm,hfs,hX,h]
  .have h:=hg 27 1 o_ o_;simp at h;simp[pr,cN]at hX;simp(maxSteps:=9^6)(disch:=omega)[↓ac,↓aa,CQ,xy,hfm,hfs,hX,h]
  .have h:=hg 28 2 o_ o_;simp at h;simp[pr,cN]at hX;simp(maxSteps:=9^6)(disch:=omega)[↓ac,↓aa,CQ,xy,hfm,hfs,hX,h]
  .have h:=hg 30 13 o_ o_;simp at h;simp[pr,cN]at hX;simp(maxSteps:=9^6)(disch:=omega)[↓ac,↓aa,CQ,xy,hfm,hfs,hX,h]
  .have h:=hg 43 11 o_ o_;simp at h;simp[pr,cN]at hX;simp(maxSteps:=9^6)(disch:=omega)[↓ac,↓aa,CQ,xy,hfm,hfs,hX,h]
  .have h:=hg 54 2 o_ o_;simp at h;simp[pr,cN]at hX;simp(maxSteps:=9^6)(disch:=omega)[↓ac,↓aa,CQ,xy,hfm,hfs,hX,h]
def og (b:C_):Int:=if b.length<7∨b.length<dz (mc (bu (b.take 7))).crc then 5 else if kw (mc (bu (b.take 7)))∧jz (mc (bu (b.take 7))) 14=bu (b.take 7) then 0 else 8
def b6 (b:C_):nM:=if og b=0 then mc (bu (b.take 7)) else AM
def aeo (b:C_)(hb:b.length<=100000)(hb2:∀x∈b,x<=255)(X:AV)(hX:fy X (ai b)):bq prog VJ [X]=some (.tup [.agg (b6 b).cells,A_ (og b)]):=by
 obtain⟨⟨x1,x2,x3⟩,x4,x5⟩:=hX.facts;rw[bB]at x5;by_cases h7:b.length<7
 .have e:og b=5:=by rw[og,ac (.inl h7)]
  have e2:b6 b=AM:=by rw[b6,e,aa k_]
  rw[e,e2,aG Vr Va rfl];simp(maxSteps:=9^6)(disch:=omega)[↓ac,↓aa,x1,x2,x3,x4,x5]
 have hne:ai b≠[]:=λh=>by
  have:=aP List.length h;rw[bB,bt]at this;omega
 rw[hX.ne hne];have hs7:∀h,mF h 1 (.d (.lst (ai b))) none (some (A_ 7)) none=some (.d (.lst (ai (b.take 7)))):=λh=>WJ (h:=h) (a:=7) o_ (by omega)
 have hU:=Fx (b.take 7) (by rw[b7];omega) (λx hx=>hb2 x (dr hx)) _ fy.d;have hbl:=bB (l:=b);obtain⟨l,hl⟩:∃l,l=bu (b.take 7):=⟨_,rfl⟩
 have hl56:l.length=56:=by rw[hl,dI,b7];omega
 have hbin:bin l:=by rw[hl];exact NO
 rw[<-hl]at hU;have hf:=Ws AM;obtain⟨M,hM,h0⟩:=ax9 (.d (.lst (ai b))) l hl56 hbin 14 0 1 rfl o_;have c0:((0:Nat):Int)=0:=rfl;have hi0:CQ l 0=AM:=by simp[CQ]
 have ho0:((xy.getD 0 0:Nat):Int)=0:=rfl;rw[c0,hi0,ho0]at h0;have hS:=Kk (mc l).crc;have hR:=aaX (mc l);have hW:kw (mc l)->bq prog E9 [.agg (mc l).cells]=some (.own true 1 (ai (jz (mc l) 14))):=SM _;have hwl:=acj (h:=mc l) (i:=14) o_;have hE:=aod (jz (mc l) 14) l o_ o_;have h79:dz (mc l).crc=7∨dz (mc l).crc=9:=by cases (mc l).crc<;>simp[dz]
 have eE:og b=if b.length<dz (mc l).crc then 5 else if kw (mc l)∧jz (mc l) 14=l then 0 else 8:=by
  rw[og,<-hl];by_cases hq:b.length<dz (mc l).crc
  .rw[ac (Or.inr hq),ac hq]
  .rw[aa o_,aa hq]
 have eH:b6 b=if og b=0 then mc l else AM:=by rw[b6,<-hl]
 rw[eH,eE];clear eH eE;obtain⟨hfm,hfs⟩:=PT (h:=AM);generalize QI AM=F at *;generalize mc l=h at *;obtain⟨r,n,c,len,fu⟩:=h;simp only[]at hS h79⊢;generalize dz c=S at *;rw[aG Vr Va rfl];generalize ai (b.take 7)=T7 at *;generalize ai b=B at *;generalize ai l=L at *;by_cases h1:b.length<S
 .rw[ac h1,aa (show ¬(5:Int)=0 by decide)];simp(maxSteps:=9^6)(disch:=omega)[↓ac,↓aa,hs7,hU,hf,hfm,hfs,h0,hS,hR,hE,hbl]
 .rw[aa h1];by_cases h2:kw ⟨r,n,c,len,fu⟩
  .have hW:=hW h2;rw[dT_ h2]at hR;by_cases h3:jz ⟨r,n,c,len,fu⟩ 14=l
   .rw[ac (And.intro h2 h3),ac rfl];rw[dT_ h3]at hE;generalize ai (jz ⟨r,n,c,len,fu⟩ 14)=W at *;simp(maxSteps:=9^6)(disch:=omega)[↓ac,↓aa,hs7,hU,hf,hfm,hfs,h0,hS,hR,hW,hE,hbl]
   .rw[aa (λh=>h3 (And.right h)),aa (show ¬(8:Int)=0 by decide)];rw[dF_ h3]at hE;generalize ai (jz ⟨r,n,c,len,fu⟩ 14)=W at *;simp(maxSteps:=9^6)(disch:=omega)[↓ac,↓aa,hs7,hU,hf,hfm,hfs,h0,hS,hR,hW,hE,hbl]
  .rw[aa (λh=>h2 (And.left h)),aa (show ¬(8:Int)=0 by decide)];rw[dF_ h2]at hR;simp(maxSteps:=9^6)(disch:=omega)[↓ac,↓aa,hs7,hU,hf,hfm,hfs,h0,hS,hR,hbl]
def kq (w x:Nat):Nat:=if w / 32768=x then 2*w % 65536 else (2*w % 65536) ^^^ 32773
def JN {w x:Nat}:kq w x<65536:=by
 unfold kq;split
 .omega
 .exact Nat.xor_lt_two_pow (n:=16) o_ (by omega)
def atp (w x:Nat)(hw:w<65536)(hx:x<=1)(N:Nat):(Dn prog).call JW [.d (.int .u8 x),.ptr 0 0] ⟨[(0,.cells [.d (.int .u16 w)])],N⟩=some (.tup [],⟨[(0,.cells [.d (.int .u16 (kq w x))])],N⟩):=by
 have e1:(w:Int).fdiv 32768=((w / 32768:Nat):Int):=by rw[dK _ o_];rfl
 have e3:((w:Int)*2) % 65536=((2*w % 65536:Nat):Int):=o_;have hq:w / 32768<=1:=o_;have tn:jM .u16=65536:=rfl;have hx2:=ap2 (k:=.u16) (a:=2*w % 65536) (b:=32773) (by rw[tn];omega) (by rw[tn];omega) (by rw[tn];exact Nat.xor_lt_two_pow (x:=2*w % 65536) (y:=32773) (n:=16) o_ o_);have hw2:wr .u16 ((w:Int)*2)=((2*w % 65536:Nat):Int):=by
  rw[acu,<-e3];rfl
 have c2:((32773:Nat):Int)=32773:=rfl;rw[c2]at hx2;unfold kq;generalize hd:2*w % 65536=d at *;generalize hy:d ^^^ 32773=y at *;generalize hqq:w / 32768=q at *;have hdl:d<65536:=o_;rw[be agk ajt rfl];by_cases h:q=x
 .subst h;simp(maxSteps:=9^6)(disch:=omega)[↓ac,↓aa,e1,hw2]
 .have h2:¬(q:Int)=x:=o_;rw[aa h];simp(maxSteps:=9^6)(disch:=omega)[↓ac,↓aa,e1,hw2,h2,hx2]
def aBr (b:C_)(hb:bin b)(hl:b.length<=1000000):∀(r:C_) (i w:Nat),b.drop i=r->w<65536->
  (Dn prog).code (.loop Af) ⟨[(6,.ptr 0 0),(7,.fn JW [] [.ptr 0 0]),(19,.d (.lst (ai b))),(20,A_ b.length),(21,A_ i)],⟨[(0,.cells [.d (.int .u16 w)])],1⟩⟩ =
  some (.exit 0,⟨[(6,.ptr 0 0)],⟨[(0,.cells [.d (.int .u16 ((r.foldl kq w:Nat):Int))])],1⟩⟩):=by
 intro r
 induction r with
 |nil =>
  intro i w h1 hw;have hi:=bv h1;rw[ah QF];simp(maxSteps:=9^6)(disch:=omega)[↓ac,↓aa]
 |cons a r ih =>
  intro i w h1 hw;have hi:=bV h1;have g1:=acX h1;have d1:b.drop (i+1)=r:=by rw[<-gw,h1];rfl
  have ha:a<=1:=hb a (c7 (i:=i) (by rw[h1];exact .head _));have hc:=atp w a hw ha 1;have ih1:=ih (i+1) (kq w a) d1 JN;rw[show((i+1:Nat):Int)=(i:Int)+1 from rfl]at ih1;rw[ef,<-ih1,ah QF];generalize ai b=B at *;simp(maxSteps:=9^6)(disch:=omega)[↓ac,↓aa,g1,hc]
def nq (b:C_):Nat:=b.foldl kq 65535
def ajs:∀{b:C_}{w:Nat},w<65536->b.foldl kq w<65536
 |[],_,h=>h
 |a::r,w,_=>ajs (b:=r) JN
def EO {b:C_}:nq b<65536:=ajs (by omega)
def aAy (b:C_)(hb:bin b)(hl:b.length<=1000000):bq prog ag5 [.d (.lst (ai b))]=some (.tup [A_ (nq b),A_ 0]):=by
 have h0:=aBr b hb hl b 0 65535 rfl o_;have c0:((0:Nat):Int)=0:=rfl;have c1:((65535:Nat):Int)=65535:=rfl;have hbl:=bB (l:=b);have hlt:=EO (b:=b);rw[c0,c1]at h0;have hO:bq prog aa1 [A_ 65535,.d (.lst (ai b))]=some (.tup [A_ (nq b),A_ 0]):=by
  unfold nq at hlt⊢;rw[aG aoo aoG rfl];generalize b.foldl kq 65535=W at *;generalize ai b=B at *;simp(maxSteps:=9^6)(disch:=omega)[↓ac,↓aa,h0,hbl]
 rw[aG auB atK rfl];generalize ai b=B at *;simp(maxSteps:=9^6)(disch:=omega)[↓ac,↓aa,hO]
def ayK {h:am}{b:C_}(h1:1<=b.length)(h2:b.length<=900000000):eM 1 h .nl (ai b)=some (.own true 1 (ai b),h):=by
 cases b with
 |nil=>simp at h1
 |cons x r =>
  have e:ai (x::r)=[.int .u8 x]::ai r:=rfl;have e2:=bB (l:=r);rw[aq]at h2;rw[e,al3,e2,cf (by simp only[aY];omega)];rfl
def avu {h:am}{p:Bool}{a b:C_}(h1:a.length+b.length<=900000000):eM 1 h (.own p 1 (ai a)) (ai b)=some (.own false 1 (ai a++ai b),h):=by
 rw[T8,bB,bB,cf (by simp only[aY];omega),cf (by simp only[aY];omega)];rfl
def aBN (xs:AD_)(hx:∀x∈xs,(1<=x.length∧x.length<=10000)∧∀n∈x,n<=255)(hxl:xs.length<=10):∀(r:AD_) (i:Nat) (acc:C_) (A:AV),xs.drop i=r->(A=.nl∧acc=[]∨A=.own false 1 (ai acc))->acc.length<=80000*i->
  ∃A',(A'=.nl∧acc++r.flatMap bu=[]∨A'=.own false 1 (ai (acc++r.flatMap bu)))∧(Dn prog).code (.loop Aa) ⟨[(3,A),(10,.d (.lst (pz xs))),(11,A_ xs.length),(12,A_ i)],⟨[],0⟩⟩=some (.exit 0,⟨[(3,A')],⟨[],0⟩⟩):=by
 intro r
 induction r with
 |nil =>
  intro i acc A h1 hA ha;have hi:=bv h1;refine⟨A,by simpa using hA,?_⟩;rw[ah QD];rcases hA with ⟨rfl,_⟩|rfl
  .simp(maxSteps:=9^6)(disch:=omega)[↓ac,↓aa]
  .generalize ai acc=C at *;simp(maxSteps:=9^6)(disch:=omega)[↓ac,↓aa]
 |cons x r ih =>
  intro i acc A h1 hA ha;have hi:=bV h1;have g1:=K4 h1;have d1:xs.drop (i+1)=r:=by rw[<-gw,h1];rfl
  obtain⟨⟨hx0,hx1⟩,hx2⟩:=hx x (c7 (i:=i) (by rw[h1];exact .head _));have hU:=Fx x o_ hx2 _ fy.d;have hul:=dI (l:=x);have hal:=bB (l:=acc);have hull:=bB (l:=bu x);obtain⟨A',hA',ih1⟩:=ih (i+1) (acc++bu x) (.own false 1 (ai (acc++bu x))) d1 (.inr rfl) (by rw[aj];omega);rw[ax,<-aC]at hA';refine⟨A',hA',?_⟩;rw[show((i+1:Nat):Int)=(i:Int)+1 from rfl,wZ]at ih1;rw[<-ih1,ah QD];clear ih ih1;have hxl2:=adz (t:=xs);rcases hA with ⟨rfl,rfl⟩|rfl
  .have e0:ai []=[]:=rfl;rw[e0,aK];have ha1:=λh=>ayK (h:=h) (b:=bu x) o_ (by omega)
   have ho:=Pf (l:=bu x);generalize ai (bu x)=V at *;generalize pz xs=XS at *;simp(maxSteps:=9^6)(disch:=omega)[↓ac,↓aa,-getElem?_pos,g1,hU,ha1,ho]
  .have ha1:=λh p=>avu (h:=h) (p:=p) (a:=acc) (b:=bu x) (by omega)
   have ho:=Pf (l:=bu x);generalize ai (bu x)=V at *;generalize ai acc=C at *;generalize pz xs=XS at *;simp(maxSteps:=9^6)(disch:=omega)[↓ac,↓aa,-getElem?_pos,-T8,g1,hU,ha1,ho]
def ai4 (xs:AD_)(hx:∀x∈xs,(1<=x.length∧x.length<=10000)∧∀n∈x,n<=255)(hxl:xs.length<=10)(hne:xs.flatMap bu≠[]):bq prog CE [.d (.lst (pz xs))]=some (A_ (nq (xs.flatMap bu))):=by
 obtain⟨A',hA',h0⟩:=aBN xs hx hxl xs 0 [] .nl rfl (.inl ⟨rfl,rfl⟩) s_;have c0:((0:Nat):Int)=0:=rfl;rw[c0]at h0;rw[aK]at hA';have hbl:(xs.flatMap bu).length<=80000*xs.length:=by
  clear h0 hA' hxl hne
  induction xs with
  |nil=>simp
  |cons x r ih =>
   have h1:=ih λy hy=>hx y (.tail _ hy)
   have h2:=(hx x (.head _)).1.2;rw[aC,aj,aq,dI];omega
 have hxl2:=adz (t:=xs);have hb:bin (xs.flatMap bu):=λy hy=>by
  obtain⟨x,_,hy⟩:=jg.1 hy;exact NO y hy
 have hC:=aAy (xs.flatMap bu) hb o_;rw[aG aoi aoC rfl];rcases hA' with ⟨rfl,hA'⟩|rfl
 .exact absurd hA' hne
 .generalize ai (xs.flatMap bu)=V at *;generalize pz xs=XS at *;simp(maxSteps:=9^6)(disch:=omega)[↓ac,↓aa,hxl2,h0,hC]
def gZ (g:AV)(w:Bool)(x y:Y_):Y_ :=
 match g with
 |.d (.bool b)=>match b == w with
  |true=>y
  |false=>x
 |.tup []=>x
 |_=>none
@[simp] def aJy {x y:Y_}:gZ (B_ true) true x y=y:=rfl
@[simp] def aJA {x y:Y_}:gZ (B_ false) true x y=x:=rfl
def aC7 {g g2:AV}{w:Bool}{x y:Y_}(h:g=g2):gZ g w x y=gZ g2 w x y:=by rw[h]
attribute [congr] aC7
@[simp] def aHG {P:Nat->Z_}{d s m:Nat}{w:Bool}{ps:U_}{e:aZ}{hs:HS}:cZ (Dn P) ⟨some d,some (s,w),.mks m ps,[]⟩ ⟨e,hs⟩=bA (get e s) λg=>gZ g w (some ⟨put e d (.tup []),hs⟩) (bW P (.mks m ps) e hs λv e hs=>some ⟨put e d (firm v),hs⟩):=by
 have h:=J9 (P:=P) (i:=⟨some d,none,.mks m ps,[]⟩) (e:=e) (hs:=hs) (k:=λe hs=>some ⟨e,hs⟩);have h2:Wn P ⟨some d,none,.mks m ps,[]⟩ e hs (λe hs=>some ⟨e,hs⟩)=bW P (.mks m ps) e hs λv e hs=>some ⟨put e d (firm v),hs⟩:=rfl
 rw[h2]at h;rw[h];unfold cZ;simp only
 cases get e s with
 |none=>rfl
 |some g =>
  simp only[bA];have key:∀x:Y_,x=bA x λst=>some ⟨st.env,st.hs⟩:=λx=>by cases x<;>rfl
  cases g with
  |d x =>
   cases x with
   |bool b =>
    unfold gZ;simp only
    cases b == w with
    |true=>exact key _
    |false=>rfl
   |_=>rfl
  |tup l=>cases l<;>rfl
  |_=>rfl
def xQ (b:C_):Prop:=nq ([b.take 7,b.drop 9].flatMap bu)=b.getD 7 0*256+b.getD 8 0
instance (b:C_):Decidable (xQ b):=by unfold xQ;infer_instance
def rdR (b:C_):R fJ:=OC (bu (b.drop (dz (b6 b).crc))) (b6 b).rate.toNat (b6 b).chans
def yM (b:C_):Int :=
 if og b≠0 then og b
 else if (b.length:Int)<(b6 b).len then 5
 else if (b6 b).len<b.length then 8
 else if (b6 b).crc=true∧¬xQ b then 250
 else match rdR b with
  |.ok _ _=>0
  |.er e=>((e+1:Nat):Int)
def zFr:fJ:=⟨[],false,0,[],[]⟩
def Wq (b:C_):fJ:=if yM b=0 then (match rdR b with|.ok f _=>f|.er _=>zFr) else zFr
def YE (b:C_):nM:=if yM b=0 then b6 b else AM
def YI (b:C_):D_:=if yM b=0 then (Wq b).ow else zF
def avt {b:C_}(h:og b=0):kw (b6 b)∧dz (b6 b).crc<=b.length∧7<=b.length∧b6 b=mc (bu (b.take 7))∧jz (b6 b) 14=bu (b.take 7):=by
 have e:b6 b=mc (bu (b.take 7)):=by rw[b6,ac h]
 rw[e];unfold og at h;split at h
 .omega
 .rename_i h1;split at h
  .rename_i h2;exact⟨h2.1,o_,o_,rfl,h2.2⟩
  .omega
def abc {x y:Nat}(hx:x<=255)(hy:y<=255):fe .or (A_ ((x:Int)*256)) (A_ y)=some (.int .i64 ((x:Int)*256+y)):=by
 have e:=kx (i:=8) (b:=y) o_ x;have e2:x*256 |||y=x*256+y:=by rw[show x*256=2 ^ 8*x by omega];exact e.symm
 have tn:jM .i64=9223372036854775808:=rfl;have h:=aoX (k:=.i64) (a:=x*256) (b:=y) (by rw[tn];omega) (by rw[tn];omega) (by rw[e2,tn];omega);rw[e2]at h;simpa using h
def getD_some {b:C_}{i:Nat}(h:i<b.length):b[i]?=some (b.getD i 0):=by
 rw[aV,bC h];rfl
def UF {x y:C_}:pz [x,y]=[[.lst (ai x)],[.lst (ai y)]]:=rfl
def fy.res {x:AV}{l:E_}(h:fy x l):(∀hp,kj hp x=some (x,hp))∧nS x=x:=by
 rcases h with rfl|⟨rfl,rfl⟩<;>exact⟨λ_=>rfl,rfl⟩
def rd9 (b:C_)(hb:b.length<=9000)(h9:9<=b.length)(hb2:∀x∈b,x<=255)(r n l f:Int)(O1 O2:D_)(s:Int)(hsum:bq prog CE [.d (.lst [[.lst (ai (b.take 7))],[.lst (ai (b.drop 9))]])]=some (A_ s)) :
  ∃E:aZ,(Dn prog).code (.seq EE (K [0,43,44,45,46,47,48,49,50,51,52,53,54,55,56,57,58,59])) ⟨[(0,.d (.lst (ai b))),(2,.ptr 0 0),(3,.ptr 1 0),(5,.ptr 2 0),(7,.d (.lst (ai (b.drop 9))))],⟨[(0,.cells O1),(1,.cells O2),(2,.cells [A_ r,A_ n,B_ true,A_ l,A_ f])],3⟩⟩ =
  some (.normal,⟨[(2,.ptr 0 0),(3,.ptr 1 0),(5,.ptr 2 0),(7,.d (.lst (ai (b.drop 9)))),(60,B_ ((!decide (s=(b.getD 7 0:Nat)*256+(b.getD 8 0:Nat)))))],⟨[(0,.cells O1),(1,.cells O2),(2,.cells [A_ r,A_ n,B_ true,A_ l,A_ f])],3⟩⟩):=by
 refine⟨[],?_⟩;have st7:∀h,mF h 1 (.d (.lst (ai b))) none (some (A_ 7)) none=some (.d (.lst (ai (b.take 7)))):=λh=>WJ (h:=h) (a:=7) o_ (by omega)
 have m7:∀x,b.getD x 0<=255:=λx=>by
  rw[aV]
  cases h:b[x]? with
  |none=>simp
  |some v=>exact hb2 v (dt h)
 have hob:=abc (m7 7) (m7 8);have m77:=m7 7;have m8:=m7 8;have hbl:=bB (l:=b);by_cases h8:9<=b.length
 .have g7:=oD (getD_some (b:=b) (i:=7) o_);have g8:=oD (getD_some (b:=b) (i:=8) o_);clear m7 hb2;generalize b.getD 7 0=B7 at *;generalize b.getD 8 0=B8 at *;generalize ai (b.take 7)=T7 at *;generalize ai (b.drop 9)=D9 at *;generalize ai b=B at *;by_cases he:s=(B7:Int)*256+B8
  .rw[dT_ he];simp(config := { maxSteps:=9^7 }) (disch:=omega)[↓ac,↓aa,-getElem?_pos,st7,hsum,g7,g8,hob,he]
  .rw[dF_ he];simp(config := { maxSteps:=9^7 }) (disch:=omega)[↓ac,↓aa,-getElem?_pos,st7,hsum,g7,g8,hob,he]
 .omega
def adw (b:C_)(hb:b.length<=9000)(hb2:∀x∈b,x<=255)(X:AV)(hX:fy X (ai b)):bq prog Fz [X]=some (.tup [.agg (YE b).cells,.agg (YI b),A_ (yM b)]):=by
 obtain⟨⟨x1,x2,x3⟩,x4,x5⟩:=hX.facts;obtain⟨vx,ux⟩:=hX.view;rw[bB]at x5;have hH:=aeo b o_ hb2 X hX;by_cases h0:og b=0
 rotate_left
 .have e:yM b=og b:=by rw[yM,ac h0]
  have eH:b6 b=AM:=by rw[b6,aa h0]
  have e1:YE b=AM:=by rw[YE,aa (by rw[e];exact h0)]
  have e2:YI b=zF:=by rw[YI,aa (by rw[e];exact h0)]
  rw[e,e1,e2];rw[eH]at hH;generalize og b=E at *;rw[aG oK oI rfl];simp(maxSteps:=9^6)(disch:=omega)[↓ac,↓aa,vx,ux,x1,x2,x3,x4,x5,hH,h0,zF]
 obtain⟨ok,hS,h7,hd,hw⟩:=avt h0;have hne:ai b≠[]:=λh=>by
  have:=aP List.length h;rw[bB,bt]at this;omega
 have hXd:=hX.ne hne;subst hXd;rw[h0]at hH;have hbl:=bB (l:=b);have h79:dz (b6 b).crc=7∨dz (b6 b).crc=9:=by cases (b6 b).crc<;>simp[dz]
 have hSz:=Kk (b6 b).crc;have zA:∀e:Int,e≠0->yM b=e->YE b=AM∧YI b=zF:=λe he h=>⟨by rw[YE,h,aa he],by rw[YI,h,aa he]⟩
 by_cases h1:(b.length:Int)<(b6 b).len
 .have e:yM b=5:=by rw[yM,aa (by rw[h0];decide),ac h1]
  obtain⟨e1,e2⟩:=zA 5 k_ e;rw[e,e1,e2];generalize b6 b=HH at *;obtain⟨r,n,c,l,f⟩:=HH
  dsimp only at h1
  rw[aG oK oI rfl];generalize ai b=B at *;simp(maxSteps:=9^6)(disch:=omega)[↓ac,↓aa,hH,hbl,zF]
 by_cases h2:(b6 b).len<b.length
 .have e:yM b=8:=by rw[yM,aa (by rw[h0];decide),aa h1,ac h2]
  obtain⟨e1,e2⟩:=zA 8 k_ e;rw[e,e1,e2];generalize b6 b=HH at *;obtain⟨r,n,c,l,f⟩:=HH
  dsimp only at h1 h2
  rw[aG oK oI rfl];generalize ai b=B at *;simp(maxSteps:=9^6)(disch:=omega)[↓ac,↓aa,hH,hbl,zF]
 have hlb:(dz (b6 b).crc:Int)<b.length:=by have:=ok.2.2.2.1;omega
 have sd7:∀h,mF h 1 (.d (.lst (ai b))) (some (A_ 7)) none none=some (.d (.lst (ai (b.drop 7)))):=λh=>Xa (h:=h) (a:=7) o_ (by omega)
 have sd9:9<=b.length->∀h,mF h 1 (.d (.lst (ai b))) (some (A_ 9)) none none=some (.d (.lst (ai (b.drop 9)))):=λh9 h=>Xa (h:=h) (a:=9) o_ (by omega)
 have st7:∀h,mF h 1 (.d (.lst (ai b))) none (some (A_ 7)) none=some (.d (.lst (ai (b.take 7)))):=λh=>WJ (h:=h) (a:=7) o_ (by omega)
 have hsum:(b6 b).crc=true->bq prog CE [.d (.lst (pz [b.take 7,b.drop 9]))]=some (A_ (nq ([b.take 7,b.drop 9].flatMap bu))):=λhc=>ai4 _ (λx hx=>by
   simp only[ay,b8,eg]at hx;rcases hx with rfl|rfl
   .exact⟨⟨by rw[b7];omega,by rw[b7];omega⟩,λn hn=>hb2 n (dr hn)⟩
   .exact⟨⟨by have:=ok.2.2.2.1;rw[hc]at this;have h9:dz true=9:=rfl;rw[cP];omega,by rw[cP];omega⟩,λn hn=>hb2 n (c7 hn)⟩) s_ (λh=>by
   have:=aP List.length h;simp only[aC,aj,dI,b7,bt]at this;omega)
 have hcfg:oy (b6 b).rate (b6 b).chans:=by
  have:=ok.1;have:=ok.2.1;exact⟨by unfold ep;omega,o_⟩
 have hlen:((b.drop (dz (b6 b).crc)).length:Int)<=192*(b6 b).chans:=by
  have h5:=ok.2.2.2.2;rw[cP];omega
 have hraw:=asR (b6 b).rate (b6 b).chans false 0 (.d (.lst (ai (b.drop (dz (b6 b).crc))))) (b.drop (dz (b6 b).crc)) fy.d (by rw[cP];omega) (λx hx=>hb2 x (c7 hx));rcases hraw with ⟨_,_,hraw⟩|⟨hraw,_⟩
 rotate_left
 .exact absurd ⟨hcfg,hlen⟩ hraw
 have hrdR:OC (bu (b.drop (dz (b6 b).crc))) (b6 b).rate.toNat (b6 b).chans=rdR b:=rfl;rw[hrdR]at hraw;have m7:∀x,b.getD x 0<=255:=λx=>by
  rw[aV]
  cases h:b[x]? with
  |none=>simp
  |some v=>exact hb2 v (dt h)
 by_cases hc:(b6 b).crc=true∧¬xQ b
 .have e:yM b=250:=by rw[yM,aa (by rw[h0];decide),aa h1,aa h2,ac hc]
  obtain⟨e1,e2⟩:=zA 250 k_ e;rw[e,e1,e2];obtain⟨hc1,hc2⟩:=hc;have hsum:=hsum hc1;have hcl:=EO (b:=[b.take 7,b.drop 9].flatMap bu);rw[xQ]at hc2;have hob:=abc (m7 7) (m7 8);have hS9:dz (b6 b).crc=9:=by rw[hc1];rfl
  have g7:=oD (getD_some (b:=b) (i:=7) o_);have g8:=oD (getD_some (b:=b) (i:=8) o_);have hne2:¬((nq ([b.take 7,b.drop 9].flatMap bu):Nat):Int)=(b.getD 7 0:Nat)*256+(b.getD 8 0:Nat):=o_;rw[hS9]at hSz hS hraw;rw[UF]at hsum;have sd9:=sd9 o_;obtain⟨_,hr9⟩:=rd9 b hb o_ hb2 (b6 b).rate (b6 b).chans (b6 b).len (b6 b).full [A_ 0,A_ 0,B_ false,A_ 0,A_ 0] [.nl,B_ false,A_ 0,.nl,.nl] _ hsum;rw[dF_ hne2]at hr9;clear g7 g8 hob hsum hne2 hcl;generalize b.getD 7 0=B7 at *;generalize b.getD 8 0=B8 at *;generalize nq ([b.take 7,b.drop 9].flatMap bu)=CN at *;generalize b6 b=HH at *;obtain⟨r,n,c,l,f⟩:=HH
  dsimp only at h1 h2 hc1 hSz
  subst hc1;rw[aG oK oI rfl];clear hraw;generalize ai (b.drop 9)=D9 at *;generalize ai b=B at *;simp(maxSteps:=9^6)(disch:=omega)[↓ac,↓aa,sd9,hH,hbl,hSz,↓hr9,zF]
 have hns:(b6 b).crc=true->xQ b:=λh=>lv λh2=>hc ⟨h,h2⟩
 have eE:yM b=match rdR b with|.ok _ _=>0|.er e=>((e+1:Nat):Int):=by rw[yM,aa (by rw[h0];decide),aa h1,aa h2,aa hc]
 have hob:=abc (m7 7) (m7 8);have g7:=oD (getD_some (b:=b) (i:=7) o_)
 cases hG:rdR b with
 |ok f m =>
  rw[hG]at eE hraw;simp only at eE hraw;have e1:YE b=b6 b:=by rw[YE,ac eE]
  have e2:YI b=f.ow:=by rw[YI,ac eE,Wq,ac eE,hG]
  rw[eE,e1,e2];have hX:fy (share (aE 9 (eq f.chans))) (eq f.chans):=BN;have hY:fy (share (aE 1 (eh f.bands))) (eh f.bands):=BN;have hZ:fy (share (aE 1 (ai f.fill))) (ai f.fill):=BN;simp only[fJ.ow]at hraw⊢;generalize share (aE 9 (eq f.chans))=X at *;generalize share (aE 1 (eh f.bands))=Y at *;generalize share (aE 1 (ai f.fill))=Z at *;obtain⟨⟨q1,q2,q3⟩,q4,q5⟩:=hX.facts;obtain⟨⟨y1,y2,y3⟩,y4,y5⟩:=hY.facts;obtain⟨⟨z1,z2,z3⟩,z4,z5⟩:=hZ.facts;obtain⟨t1,t2⟩:=hX.res;obtain⟨t3,t4⟩:=hY.res;obtain⟨t5,t6⟩:=hZ.res;have w1:=hX.one.1.2;have w2:=hY.one.1.2;have w3:=hZ.one.1.2
  cases hcc:(b6 b).crc with
  |false =>
   rw[hcc]at hSz hraw;have hS7:dz false=7:=rfl;rw[hS7]at hSz hraw;generalize b6 b=HH at *;obtain⟨r,n,c,l,fu⟩:=HH
   dsimp only at h1 h2 hcc hSz hraw
   subst hcc;rw[aG oK oI rfl];clear hsum hns hc g7;generalize ai b=B at *;simp(maxSteps:=9^6)(disch:=omega)[↓ac,↓aa,-bl,sd7,hH,hbl,hSz,hraw,t1,t2,t3,t4,t5,t6,w1,w2,w3,q1,q2,q3,q4,y1,y2,y3,y4,z1,z2,z3,z4]
  |true =>
   have hsum:=hsum hcc;have hns:=hns hcc;rw[xQ]at hns;rw[hcc]at hSz hraw hS;have hS9:dz true=9:=rfl;rw[hS9]at hSz hraw hS;have g8:=oD (getD_some (b:=b) (i:=8) o_);have heq:((nq ([b.take 7,b.drop 9].flatMap bu):Nat):Int)=(b.getD 7 0:Nat)*256+(b.getD 8 0:Nat):=o_;have hcl:=EO (b:=[b.take 7,b.drop 9].flatMap bu);rw[UF]at hsum;have sd9:=sd9 o_;obtain⟨_,hr9⟩:=rd9 b hb o_ hb2 (b6 b).rate (b6 b).chans (b6 b).len (b6 b).full [A_ 0,A_ 0,B_ false,A_ 0,A_ 0] [.nl,B_ false,A_ 0,.nl,.nl] _ hsum;rw[dT_ heq]at hr9;clear g7 g8 hob hsum heq hcl hns;generalize b6 b=HH at *;obtain⟨r,n,c,l,fu⟩:=HH
   dsimp only at h1 h2 hcc hSz hraw
   subst hcc;rw[aG oK oI rfl];clear hc m7;generalize ai (b.drop 9)=D9 at *;generalize ai b=B at *;simp(maxSteps:=9^6)(disch:=omega)[↓ac,↓aa,-bl,sd9,↓hr9,hH,hbl,hSz,hraw,t1,t2,t3,t4,t5,t6,w1,w2,w3,q1,q2,q3,q4,y1,y2,y3,y4,z1,z2,z3,z4]
 |er e =>
  rw[hG]at eE hraw;simp only at eE hraw;obtain⟨e1,e2⟩:=zA ((e+1:Nat):Int) o_ eE;rw[eE,e1,e2];have hE0:¬((e+1:Nat):Int)=0:=o_;generalize ((e+1:Nat):Int)=E at *
  cases hcc:(b6 b).crc with
  |false =>
   rw[hcc]at hSz hraw;have hS7:dz false=7:=rfl;rw[hS7]at hSz hraw;generalize b6 b=HH at *;obtain⟨r,n,c,l,fu⟩:=HH
   dsimp only at h1 h2 hcc hSz hraw
   subst hcc;rw[aG oK oI rfl];clear hsum hns hc g7;generalize ai b=B at *;simp(maxSteps:=9^6)(disch:=omega)[↓ac,↓aa,sd7,hH,hbl,hSz,hraw,hE0,zF]
  |true =>
   have hsum:=hsum hcc;have hns:=hns hcc;rw[xQ]at hns;rw[hcc]at hSz hraw hS;have hS9:dz true=9:=rfl;rw[hS9]at hSz hraw hS;have g8:=oD (getD_some (b:=b) (i:=8) o_);have heq:((nq ([b.take 7,b.drop 9].flatMap bu):Nat):Int)=(b.getD 7 0:Nat)*256+(b.getD 8 0:Nat):=o_;have hcl:=EO (b:=[b.take 7,b.drop 9].flatMap bu);rw[UF]at hsum;have sd9:=sd9 o_;obtain⟨_,hr9⟩:=rd9 b hb o_ hb2 (b6 b).rate (b6 b).chans (b6 b).len (b6 b).full [A_ 0,A_ 0,B_ false,A_ 0,A_ 0] [.nl,B_ false,A_ 0,.nl,.nl] _ hsum;rw[dT_ heq]at hr9;clear g7 g8 hob hsum heq hcl hns;generalize b6 b=HH at *;obtain⟨r,n,c,l,fu⟩:=HH
   dsimp only at h1 h2 hcc hSz hraw
   subst hcc;rw[aG oK oI rfl];clear hc m7;generalize ai (b.drop 9)=D9 at *;generalize ai b=B at *;simp(maxSteps:=9^6)(disch:=omega)[↓ac,↓aa,sd9,↓hr9,hH,hbl,hSz,hraw,hE0,zF]
def stP (rt n:Int)(cb:Bool)(b:C_):Prop:=og b=0∧(b6 b).rate=rt∧(b6 b).chans=n∧(b6 b).crc=cb∧(b6 b).len<=b.length
instance {rt n:Int}{cb:Bool}{b:C_}:Decidable (stP rt n cb b):=by unfold stP;infer_instance
structure Slt where
 pos:Nat
 len:Nat
 lost:Bool
 fr:fJ
abbrev Slt.cells (s:Slt):W_:=[.int .i64 s.pos,.int .i64 s.len,.bool s.lost,.lst (eq s.fr.chans),.bool s.fr.common,.int .i64 s.fr.mask,.lst (eh s.fr.bands),.lst (ai s.fr.fill)]
def ade (b:C_):∃X Y Z:AV,fy X (eq (Wq b).chans)∧fy Y (eh (Wq b).bands)∧fy Z (ai (Wq b).fill)∧YI b=[X,B_ ((Wq b).common),A_ ((Wq b).mask),Y,Z]:=by
 unfold YI;by_cases h:yM b=0
 .rw[ac h];exact⟨_,_,_,BN,BN,BN,rfl⟩
 .rw[aa h,Wq,aa h];exact⟨.nl,.nl,.nl,.inr ⟨rfl,rfl⟩,.inr ⟨rfl,rfl⟩,.inr ⟨rfl,rfl⟩,rfl⟩
section
variable (rt n:Int)(cb:Bool)(cz:Int)(b:C_)(hb:b.length<=9000)(hb2:∀x∈b,x<=255)
include hb hb2
end
theorem fy.toD {x:AV}{l:E_}(h:fy x l):toD x=some (.lst l):=by
 rcases h with rfl|⟨rfl,rfl⟩<;>rfl
section
variable (rt n:Int)(cb:Bool)(cz:Int)(b:C_)(hb:b.length<=8999)(hb2:∀x∈b,x<=255)
include hb hb2
end
instance {rt n:Int}:Decidable (oy rt n):=by unfold oy;infer_instance
def dg {x k a s:Nat}{l:C_}:gv (au x k++l) (k+a) s=gv l a s:=by
 unfold gv;rw[List.drop_append,cM,show k+a-k=a by omega,co (by rw[cM];omega),aK]
def MW {v s:Nat}{l:C_}(h:v<2 ^ s):gv (au v s++l) 0 s=v:=by
 unfold gv;rw[mN,List.take_append_of_le_length (by rw[cM];exact ak _),bH (by rw[cM];exact ak _),Ie,Nat.zero_mul,bn,dA h]
def Nc (h:nM):jz h 14=au 4095 12++(au 0 1++(au 0 2++(au (cN h.crc).toNat 1++(au 1 2++(au h.rate.toNat 4++(au 0 1++(au h.chans.toNat 3++(au 0 1++(au 0 1++(au 0 2++(au h.len.toNat 13++(au h.full.toNat 11++au 0 2)))))))))))):=by
 simp[jz,fB,pr,List.range,List.range.loop]
def awN {h:nM}(ok:kw h):mc (jz h 14)=h:=by
 obtain⟨r,n,c,l,f⟩:=h;simp only[kw]at ok;have h79:dz c=7∨dz c=9:=by cases c<;>simp[dz]
 obtain⟨R,rfl⟩:=aA ok.1.1;obtain⟨N,rfl⟩:=aA (show 0<=n by omega);obtain⟨L,rfl⟩:=aA (show 0<=l by omega);obtain⟨F,rfl⟩:=aA (show 0<=f by omega);have hc:(cN c).toNat<2 ^ 1:=by cases c<;>decide
 have e1:gv (jz ⟨R,N,c,L,F⟩ 14) 18 4=R:=by
  rw[Nc];simp only[ar];rw[show 18=12+(1+(2+(1+(2+0)))) by rfl,dg,dg,dg,dg,dg,MW o_]
 have e2:gv (jz ⟨R,N,c,L,F⟩ 14) 23 3=N:=by
  rw[Nc];simp only[ar];rw[show 23=12+(1+(2+(1+(2+(4+(1+0)))))) by rfl,dg,dg,dg,dg,dg,dg,dg,MW o_]
 have e3:gv (jz ⟨R,N,c,L,F⟩ 14) 15 1=(cN c).toNat:=by
  rw[Nc,show 15=12+(1+(2+0)) by rfl,dg,dg,dg,MW hc]
 have e4:gv (jz ⟨R,N,c,L,F⟩ 14) 30 13=L:=by
  rw[Nc];simp only[ar];rw[show 30=12+(1+(2+(1+(2+(4+(1+(3+(1+(1+(2+0)))))))))) by rfl,dg,dg,dg,dg,dg,dg,dg,dg,dg,dg,dg,MW o_]
 have e5:gv (jz ⟨R,N,c,L,F⟩ 14) 43 11=F:=by
  rw[Nc];simp only[ar];rw[show 43=12+(1+(2+(1+(2+(4+(1+(3+(1+(1+(2+(13+0))))))))))) by rfl,dg,dg,dg,dg,dg,dg,dg,dg,dg,dg,dg,dg,MW o_]
 rw[mc,e1,e2,e3,e4,e5]
 cases c<;>rfl
def zi:C_:=[255,241,64,64,1,96,20,0,0,0,7]
def aFV:og zi=0∧dz (b6 zi).crc=7∧(b6 zi).rate=0∧(b6 zi).chans=1∧(b6 zi).len=11∧(b6 zi).crc=false:=e_
def aF0:∀x∈zi,x<=255:=k_
def Jg {h:nM}:(jz h 14).length=56:=by rw[Nc];simp
def aB9 {h:nM}:bin (jz h 14):=by
 intro x hx;obtain⟨i,_,hx⟩:=jg.1 hx;exact dB x hx
def gp (cb:Bool)(h l:C_):C_:=if cb then [nq ([h,l].flatMap bu) / 256,nq ([h,l].flatMap bu) % 256] else []
def Yj (rt n:Int)(cb:Bool)(cz full:Int)(f:fJ)(hf:f.Fit)(X Y Z:AV)(hX:fy X (eq f.chans))(hY:fy Y (eh f.bands))(hZ:fy Z (ai f.fill))(l h7:C_)(hl:ml rt.toNat n f=bu l)(hl2:∀x∈l,x<=255)(h71:jz ⟨rt,n,cb,((dz cb+l.length:Nat):Int),full⟩ 14=bu h7)(h72:∀x∈h7,x<=255) :
  ((oy rt n∧tw rt.toNat n f∧(l.length:Int)<=192*n)∧kw ⟨rt,n,cb,((dz cb+l.length:Nat):Int),full⟩∧bq prog xK [lO rt n cb cz,A_ full,pO f X Y Z]=some (.tup [.own true 1 (ai (h7++(gp cb h7 l++l))),A_ 0]))∨
  ((oy rt n∧tw rt.toNat n f∧(l.length:Int)<=192*n)∧¬kw ⟨rt,n,cb,((dz cb+l.length:Nat):Int),full⟩∧bq prog xK [lO rt n cb cz,A_ full,pO f X Y Z]=some (.tup [.nl,A_ 2]))∨
  (¬(oy rt n∧tw rt.toNat n f∧(l.length:Int)<=192*n)∧∃e:Int,e≠0∧bq prog zO [lO rt n cb cz,pO f X Y Z]=some (A_ e)∧bq prog xK [lO rt n cb cz,A_ full,pO f X Y Z]=some (.tup [.nl,A_ e])):=by
 have hW:=asb rt n cb cz f hf X Y Z hX hY hZ;have hu:((ml rt.toNat n f).length:Int)=8*(l.length:Int):=by rw[hl,dI];omega
 obtain⟨⟨x1,x2,x3⟩,x4,x5⟩:=hX.facts;obtain⟨⟨y1,y2,y3⟩,y4,y5⟩:=hY.facts;obtain⟨⟨z1,z2,z3⟩,z4,z5⟩:=hZ.facts;obtain⟨⟨vx,ux⟩,wx⟩:=hX.one;obtain⟨⟨vy,uy⟩,wy⟩:=hY.one;obtain⟨⟨vz,uz⟩,wz⟩:=hZ.one;rw[hu]at hW;rcases hW with ⟨k1,k2,k3,hW⟩|⟨hno,e,he,hC,hW⟩
 rotate_left
 .refine .inr (.inr ⟨λh=>hno ⟨h.1,h.2.1,o_⟩,e,he,hC,?_⟩);simp only[lO,pO]at hW⊢;rw[aG Da CT rfl];simp(maxSteps:=9^6)(disch:=omega)[↓ac,↓aa,-bl,x1,x2,x3,x4,y1,y2,y3,y4,z1,z2,z3,z4,ux,uy,uz,vx,vy,vz,wx,wy,wz,hW]
 have hW:=hW l hl hl2;have hn2:=k1.2;have hll:l.length<=400:=o_;have hbl:=bB (l:=l);have hsz:=Kk cb;have hR:=aaX ⟨rt,n,cb,((dz cb+l.length:Nat):Int),full⟩;have c1:((dz cb+l.length:Nat):Int)=(dz cb:Int)+l.length:=rfl;have h79:dz cb=7∨dz cb=9:=by cases cb<;>simp[dz]
 by_cases ok:kw ⟨rt,n,cb,((dz cb+l.length:Nat):Int),full⟩
 rotate_left
 .refine .inr (.inl ⟨⟨k1,k2,o_⟩,ok,?_⟩);rw[dF_ ok]at hR;simp only[lO,pO,c1]at hW hR⊢;clear h71 ok;generalize dz cb=S at *;rw[aG Da CT rfl];generalize ai l=BL at *;simp(maxSteps:=9^6)(disch:=omega)[↓ac,↓aa,-bl,x1,x2,x3,x4,y1,y2,y3,y4,z1,z2,z3,z4,ux,uy,uz,vx,vy,vz,wx,wy,wz,hW,hsz,hR,hbl]
 refine .inl ⟨⟨k1,k2,o_⟩,ok,?_⟩;have hw:=SM _ ok;rw[dT_ ok]at hR;have h7l:h7.length=7:=by
  have:=aP List.length h71;rw[Jg,dI]at this;omega
 rw[h71]at hw;have hP:=adD h7 o_ h72;have h7b:=bB (l:=h7);have ob:=Pf (l:=l);have l1:1<=l.length:=by
  have:=ok.2.2.2.1;simp only[]at this;omega
 have hsum:=ai4 [h7,l] (λx hx=>by
  simp only[ay,b8,eg]at hx;rcases hx with rfl|rfl
  .exact⟨⟨o_,o_⟩,h72⟩
  .exact⟨⟨o_,o_⟩,hl2⟩) s_ (λh=>by
  have:=aP List.length h;simp only[aC,aj,dI,bt]at this;omega)
 have hcl:=EO (b:=[h7,l].flatMap bu);rw[UF]at hsum;unfold gp;generalize nq ([h7,l].flatMap bu)=C at *;have e8:(C:Int).fdiv 256=((C / 256:Nat):Int):=by rw[dK _ o_];rfl
 have hC8:C / 256<=255:=o_;have hw8:wr .u8 (C:Int)=((C % 256:Nat):Int):=by rw[acu];rfl
 simp only[lO,pO,c1]at hW hR hw⊢;clear h71 ok
 cases cb with
 |false =>
  have hs7:((dz false:Nat):Int)=7:=rfl;rw[hs7]at hR hw hsz;have e0:ai (h7++((if false=true then [C / 256,C % 256] else [])++l))=ai h7++ai l:=wZ;rw[e0];rw[aG Da CT rfl];generalize ai (bu h7)=U7 at *;simp(maxSteps:=9^6)(disch:=omega)[↓ac,↓aa,-bl,x1,x2,x3,x4,y1,y2,y3,y4,z1,z2,z3,z4,ux,uy,uz,vx,vy,vz,wx,wy,wz,hW,hsz,hR,hbl,hw,hP,h7b,ob]
 |true =>
  have hs9:((dz true:Nat):Int)=9:=rfl;rw[hs9]at hR hw hsz;have e0:ai (h7++((if true=true then [C / 256,C % 256] else [])++l))=ai h7++([[.int .u8 ((C / 256:Nat):Int)],[.int .u8 ((C % 256:Nat):Int)]]++ai l):=by rw[wZ,ac rfl,wZ];rfl
  rw[e0];generalize C % 256=C2 at *;generalize C / 256=C1 at *;rw[aG Da CT rfl];generalize ai (bu h7)=U7 at *;simp(config := { maxSteps:=9^7 }) (disch:=omega)[↓ac,↓aa,-bl,x1,x2,x3,x4,y1,y2,y3,y4,z1,z2,z3,z4,ux,uy,uz,vx,vy,vz,wx,wy,wz,hW,hsz,hR,hbl,hw,hP,h7b,ob,hsum,e8,hw8]
def acO {H:nM}{h7 t:C_}(ok:kw H)(hw:jz H 14=bu h7)(ht:dz H.crc<=7+t.length):og (h7++t)=0∧b6 (h7++t)=H:=by
 have h7l:h7.length=7:=by
  have:=aP List.length hw;rw[Jg,dI]at this;omega
 have e1:(h7++t).take 7=h7:=by rw[<-h7l,List.take_left]
 have e2:mc (bu ((h7++t).take 7))=H:=by rw[e1,<-hw,awN ok]
 have e3:og (h7++t)=0:=by
  rw[og,e2,aa (by rw[aj];omega),ac ⟨ok,by rw[e1];exact hw⟩]
 exact⟨e3,by rw[b6,ac e3,e2]⟩
def aie {cb:Bool}{h l:C_}:(gp cb h l).length+7=dz cb:=by cases cb<;>rfl
def ayp {rt n:Int}{cb:Bool}{full:Int}{f:fJ}{l h7:C_}{m:Nat}(ok:kw ⟨rt,n,cb,((dz cb+l.length:Nat):Int),full⟩)(hw:jz ⟨rt,n,cb,((dz cb+l.length:Nat):Int),full⟩ 14=bu h7)(hG:OC (bu l) rt.toNat n=.ok f m) :
  yM (h7++(gp cb h7 l++l))=0∧Wq (h7++(gp cb h7 l++l))=f∧YE (h7++(gp cb h7 l++l))=⟨rt,n,cb,((dz cb+l.length:Nat):Int),full⟩:=by
 have hsl:=aie (cb:=cb) (h:=h7) (l:=l);have h7l:h7.length=7:=by
  have:=aP List.length hw;rw[Jg,dI]at this;omega
 obtain⟨e1,e2⟩:=acO (t:=gp cb h7 l++l) ok hw (by rw[aj];simp only[];omega);have hd:(h7++(gp cb h7 l++l)).drop (dz cb)=l:=by
  rw[<-ax,List.drop_left' (by rw[aj];omega)]
 have hr:rdR (h7++(gp cb h7 l++l))=.ok f m:=by
  rw[rdR,e2,hd,hG]
 have hbl:(h7++(gp cb h7 l++l)).length=dz cb+l.length:=by
  rw[aj,aj];omega
 have hs:¬(cb=true∧¬xQ (h7++(gp cb h7 l++l))):=by
  rintro ⟨rfl,h⟩
  refine h ?_;have hd9:(h7++(gp true h7 l++l)).drop 9=l:=hd;have ht:(h7++(gp true h7 l++l)).take 7=h7:=by rw[<-h7l,List.take_left]
  rw[xQ,hd9,ht];have hsb:gp true h7 l=[nq ([h7,l].flatMap bu) / 256,nq ([h7,l].flatMap bu) % 256]:=rfl;rw[hsb];generalize nq ([h7,l].flatMap bu)=C;have g7:(h7++([C / 256,C % 256]++l)).getD 7 0=C / 256:=by
   rw[aV,bg o_,h7l];rfl
  have g8:(h7++([C / 256,C % 256]++l)).getD 8 0=C % 256:=by
   rw[aV,bg o_,h7l];rfl
  rw[g7,g8];omega
 have hE:yM (h7++(gp cb h7 l++l))=0:=by
  rw[yM,aa (by rw[e1];decide),e2,hbl];simp only[];rw[aa o_,aa o_,aa hs,hr]
 exact⟨hE,by rw[Wq,ac hE,hr],by rw[YE,ac hE,e2]⟩
@[simp] def aDd {n:Bool}{k:V_}{x y:Rd}:dH (.bina n k x y)=false:=rfl
@[simp] def aBW {n:Bool}{k:V_}{x y:Rd}:zE (.bina n k x y)=false:=rfl
@[simp] def aGe {P:Nat->Z_}{d s:Nat}{w n:Bool}{k:V_}{x y:Rd}{e:aZ}{hs:HS}:cZ (Dn P) ⟨some d,some (s,w),.bina n k x y,[]⟩ ⟨e,hs⟩=bA (get e s) λg=>gZ g w (some ⟨put e d (.tup []),hs⟩) (bW P (.bina n k x y) e hs λv e hs=>some ⟨put e d (firm v),hs⟩):=by
 have h:=J9 (P:=P) (i:=⟨some d,none,.bina n k x y,[]⟩) (e:=e) (hs:=hs) (k:=λe hs=>some ⟨e,hs⟩);have h2:Wn P ⟨some d,none,.bina n k x y,[]⟩ e hs (λe hs=>some ⟨e,hs⟩)=bW P (.bina n k x y) e hs λv e hs=>some ⟨put e d (firm v),hs⟩:=rfl
 rw[h2]at h;rw[h];unfold cZ;simp only
 cases get e s with
 |none=>rfl
 |some g =>
  simp only[bA];have key:∀x:Y_,x=bA x λst=>some ⟨st.env,st.hs⟩:=λx=>by cases x<;>rfl
  cases g with
  |d x =>
   cases x with
   |bool b =>
    unfold gZ;simp only
    cases b == w with
    |true=>exact key _
    |false=>rfl
   |_=>rfl
  |tup l=>cases l<;>rfl
  |_=>rfl
def apS:∃p,bq prog Q8 []=some (.tup [lO 0 1 false 0,.agg [.own p 9 (eq [c0]),B_ false,A_ 0,.nl,.nl],B_ true]):=⟨false,BP 600 (by kernel_rfl)⟩
def ayv:bq prog xK [lO 0 1 false 0,A_ 5,.agg [.d (.lst (eq [c0])),B_ false,A_ 0,.nl,.nl]]=some (.tup [.own true 1 (ai zi),A_ 0]):=by
 have hF:ml (0:Int).toNat 1 F0=bu [0,0,0,7]:=by rw[show(0:Int).toNat=0 from rfl,axq];decide
 have h:=Yj 0 1 false 0 5 F0 azJ (.d (.lst (eq [c0]))) .nl .nl fy.d (.inr ⟨rfl,rfl⟩) (.inr ⟨rfl,rfl⟩) [0,0,0,7] [255,241,64,64,1,96,20] hF k_ e_ k_;have hk:oy 0 1∧tw (0:Int).toNat 1 F0∧(([0,0,0,7]:C_).length:Int)<=192*1:=⟨avV.1,avV.2,k_⟩
 rcases h with ⟨_,_,h⟩|⟨_,h,_⟩|⟨h,_⟩
 .exact h
 .exact absurd k_ h
 .exact absurd hk h
def alB:bq prog A8 []=some (B_ true):=by
 obtain⟨p,h1⟩:=apS;have h2:=ayv;have h3:=aeo zi k_ aF0 (.d (.lst (ai zi))) fy.d;obtain⟨g1,g2,g3,g4,g5,g6⟩:=aFV;have g7:(b6 zi).full=5:=e_;rw[g1]at h3;have hts:=λh=>anK (h:=h) (b:=zi)
 have hst:zi.map Nat.toUInt8=[255,241,64,64,1,96,20,0,0,0,7]:=rfl;rw[hst]at hts;have hcs:(b6 zi).cells=[A_ 0,A_ 1,B_ false,A_ 11,A_ 5]:=by simp only[nM.cells,g3,g4,g5,g6,g7]
 rw[hcs]at h3;have hbn:af1 false [true,true,false,true,true] (.agg [A_ 0,A_ 1,B_ false,A_ 11,A_ 5]) (.agg [A_ 0,A_ 1,B_ false,A_ 11,A_ 5])=some (.bool true):=rfl;simp only[lO]at h1 h2;generalize eq [c0]=C at *;have hfl:=Pf (l:=zi);generalize ai zi=E at *;rw[aG MG MS rfl];simp(config := { maxSteps:=9^7 }) (disch:=omega)[↓ac,↓aa,h1,h2,h3,hts,hbn]
def aDb {rt n:Int}{cb:Bool}{full:Int}{f:fJ}{l h7:C_}(hF:f.Fit)(hk:oy rt n∧tw rt.toNat n f∧(l.length:Int)<=192*n)(hl:ml rt.toNat n f=bu l)(hl2:∀x∈l,x<=255)(ok:kw ⟨rt,n,cb,((dz cb+l.length:Nat):Int),full⟩)(h71:jz ⟨rt,n,cb,((dz cb+l.length:Nat):Int),full⟩ 14=bu h7)(h72:∀x∈h7,x<=255) :
  (h7++(gp cb h7 l++l)).length=dz cb+l.length∧(dz cb+l.length<=400)∧(∀x∈h7++(gp cb h7 l++l),x<=255)∧b6 (h7++(gp cb h7 l++l))=⟨rt,n,cb,((dz cb+l.length:Nat):Int),full⟩∧∃X Y Z,fy X (eq f.chans)∧fy Y (eh f.bands)∧fy Z (ai f.fill)∧bq prog Fz [.d (.lst (ai (h7++(gp cb h7 l++l))))]=some (.tup [.agg (nM.cells ⟨rt,n,cb,((dz cb+l.length:Nat):Int),full⟩),pO f X Y Z,A_ 0]):=by
 obtain⟨hcf,hok,hlen⟩:=hk;have hR0:=hcf.1;unfold ep at hR0;have hn:=hcf.2;have hG:=aqK (R:=rt.toNat) o_ hn hF hok;rw[hl]at hG;obtain⟨r1,r2,r3⟩:=ayp ok h71 hG;have hsl:=aie (cb:=cb) (h:=h7) (l:=l);have h7l:h7.length=7:=by
  have:=aP List.length h71;rw[Jg,dI]at this;omega
 obtain⟨e1,e2⟩:=acO (t:=gp cb h7 l++l) ok h71 (by rw[aj];simp only[];omega);have hbl:(h7++(gp cb h7 l++l)).length=dz cb+l.length:=by
  rw[aj,aj];omega
 have hb2:∀x∈h7++(gp cb h7 l++l),x<=255:=λx hx=>by
  rcases aW.1 hx with hx|hx
  .exact h72 x hx
  rcases aW.1 hx with hx|hx
  .unfold gp at hx;have:=EO (b:=[h7,l].flatMap bu);split at hx
   .simp only[ay,b8,eg]at hx;rcases hx with rfl|rfl<;>omega
   .simp at hx
  .exact hl2 x hx
 have h79:dz cb=7∨dz cb=9:=by cases cb<;>simp[dz]
 have hRd:=adw (h7++(gp cb h7 l++l)) o_ hb2 (.d (.lst (ai (h7++(gp cb h7 l++l))))) fy.d;obtain⟨X,Y,Z,hX,hY,hZ,hA⟩:=ade (h7++(gp cb h7 l++l));rw[r2]at hX hY hZ;rw[r1,r3,hA,r2]at hRd;exact⟨hbl,o_,hb2,e2,X,Y,Z,hX,hY,hZ,hRd⟩
def aqn:∀{x y:C_},(∀a∈x,a<=255)->(∀a∈y,a<=255)->x.map Nat.toUInt8=y.map Nat.toUInt8->x=y
 |[],[],_,_,_=>rfl
 |[],_::_,_,_,h=>by simp at h
 |_::_,[],_,_,h=>by simp at h
 |a::x,b::y,hx,hy,h=>by
  rw[bL,bL]at h;injection h with h1 h2
  have ha:=hx a (.head _);have hb:=hy b (.head _);have e:=aP UInt8.toNat h1;have ea:(Nat.toUInt8 a).toNat=a:=by simp;omega
  have eb:(Nat.toUInt8 b).toNat=b:=by simp;omega
  rw[ea,eb]at e;rw[e,aqn (λc hc=>hx c (.tail _ hc)) (λc hc=>hy c (.tail _ hc)) h2]
@[simp] def aJw {x y:Y_}:gZ (B_ true) false x y=x:=rfl
@[simp] def aJL {x y:Y_}:gZ (B_ false) false x y=y:=rfl
@[simp] def aKj {w:Bool}{x y:Y_}:gZ (.tup []) w x y=x:=rfl
def Hx (w:Nat):Nat:=kq w 0
def acN {w:Nat}(hw:w<65536)(i:Nat):(Hx w).testBit i=((decide (1<=i∧i<16) && w.testBit (i-1)) ^^ (w.testBit 15 && (32773:Nat).testBit i)):=by
 have e2:(2*w % 65536).testBit i=(decide (1<=i∧i<16) && w.testBit (i-1)):=by
  rw[show 65536=2 ^ 16 by rfl,Nat.testBit_mod_two_pow,show 2*w=2 ^ 1*w by omega,Nat.testBit_two_pow_mul];by_cases h1:i<16<;>by_cases h2:1<=i<;>simp[h1,h2]
 have e3:w.testBit 15=decide (w / 32768=1):=by
  rw[Nat.testBit_eq_decide_div_mod_eq];have:w / 2 ^ 15 % 2=w / 32768:=by
   have:w / 2 ^ 15=w / 32768:=rfl;omega
  rw[this]
 unfold Hx kq;by_cases h:w / 32768=0
 .rw[ac h,e2,e3,h];simp
 .have h1:w / 32768=1:=o_;rw[aa h,Nat.testBit_xor,e2,e3,h1];simp
def Uc {a b:Nat}(ha:a<65536)(hb:b<65536):Hx (a ^^^ b)=Hx a ^^^ Hx b:=by
 have hab:a ^^^ b<65536:=Nat.xor_lt_two_pow (n:=16) ha hb;apply Nat.eq_of_testBit_eq;intro i;rw[Nat.testBit_xor,acN hab,acN ha,acN hb,Nat.testBit_xor,Nat.testBit_xor];generalize decide (1<=i∧i<16)=p;generalize a.testBit (i-1)=q;generalize b.testBit (i-1)=r;generalize a.testBit 15=s;generalize b.testBit 15=t;generalize (32773:Nat).testBit i=u
 cases p<;>cases q<;>cases r<;>cases s<;>cases t<;>cases u<;>rfl
def Pt {v:Nat}(h:v<32768):Hx v=2*v:=by
 unfold Hx kq;rw[ac o_,dA o_]
def aAl {w:Nat}(hw:w<65536)(h:w≠0):Hx w≠0:=by
 unfold Hx kq;split
 .omega
 .intro hq;have:=aP (λn=>n.testBit 0) hq;rw[Nat.testBit_xor]at this;simp at this
def ajc {w:Nat}:Hx w<65536:=JN
def Ug {w x:Nat}(hw:w<65536)(hx:x<=1):kq w x=Hx (w ^^^ (32768*x)):=by
 have:x=0∨x=1:=o_;rcases this with rfl|rfl
 .simp[Hx]
 .rw[Nat.mul_one,Uc hw o_];have e:Hx 32768=32773:=k_;rw[e];unfold Hx kq;have hd:w / 32768=0∨w / 32768=1:=o_;rcases hd with h|h
  .rw[aa o_,ac h]
  .rw[ac h,aa o_,Nat.xor_assoc,Nat.xor_self,Nat.xor_zero]
def PL:Nat->Nat->Nat
 |0,w=>w
 |k+1,w=>PL k (Hx w)
def aci:∀{k w:Nat},w<65536->w≠0->PL k w≠0
 |0,_,_,h=>h
 |k+1,w,h1,h2=>aci (k:=k) ajc (aAl h1 h2)
def HD:C_->Nat->Nat
 |[],_=>0
 |_::_,0=>0
 |x::r,e+1=>(x*2 ^ e) ^^^ HD r e
def Tk:∀{r:C_}{e:Nat},bin r->HD r e<2 ^ e
 |[],e,_=>bN e
 |_::_,0,_=>by simp[HD]
 |x::r,e+1,h=>by
  have hx:=h x (.head _);have h1:=Tk (r:=r) (e:=e) λy hy=>h y (.tail _ hy)
  have h2:2 ^ e<2 ^ (e+1):=Nat.pow_lt_pow_right o_ o_;rw[HD];refine Nat.xor_lt_two_pow ?_ o_;have:x=0∨x=1:=o_;rcases this with rfl|rfl<;>simp<;>omega
def alJ:∀{r:C_}{e:Nat},bin r->r.length<=e->e<=15->HD r (e+1)=2*HD r e
 |[],_,_,_,_=>rfl
 |_::_,0,_,h,_=>by simp at h
 |x::r,e+1,h,hl,he=>by
  have hx:=h x (.head _);have hb:bin r:=λy hy=>h y (.tail _ hy)
  have h1:=Tk (e:=e) hb;have hp:2 ^ e<=2 ^ 14:=aw o_ o_;rw[HD,HD,alJ hb (by simpa using hl) o_];have hq:x*2 ^ e<32768:=by
   have:x=0∨x=1:=o_;rcases this with rfl|rfl<;>omega
  have hxx:x*2 ^ e ^^^ HD r e<32768:=Nat.xor_lt_two_pow (n:=15) hq o_;rw[<-Pt hxx,Uc o_ o_,Pt hq,Pt o_,da]
  congr 1
  rw[<-rM,dM]
def ar8:∀{r:C_}{e:Nat},bin r->r.length<=e->1∈r->HD r e≠0
 |[],_,_,_,h=>by simp at h
 |_::_,0,_,h,_=>by simp at h
 |x::r,e+1,h,hl,h1=>by
  have hx:=h x (.head _);have hb:bin r:=λy hy=>h y (.tail _ hy)
  have hv:=Tk (e:=e) hb;rw[HD];intro hz;have hz2:x*2 ^ e=HD r e:=by
   have:=aP (λn=>n ^^^ HD r e) hz;simpa [Nat.xor_assoc] using this
  have:x=0∨x=1:=o_;rcases this with rfl|rfl
  .rcases ay.1 h1 with h1|h1
   .omega
   .exact ar8 hb (by simpa using hl) h1 (by omega)
  .omega
def ar9:∀{u:C_}{w:Nat},bin u->u.length<=16->w<65536->u.foldl kq w=PL u.length (w ^^^ HD u 16)
 |[],w,_,_,_=>by simp[HD,PL]
 |x::r,w,h,hl,hw=>by
  have hx:=h x (.head _);have hb:bin r:=λy hy=>h y (.tail _ hy)
  have hl2:r.length<=15:=by simpa using hl
  have h1:w ^^^ 32768*x<65536:=Nat.xor_lt_two_pow (n:=16) hw o_;have hv:=Tk (e:=15) hb;rw[ef,Ug hw hx,ar9 hb o_ ajc,alJ hb hl2 o_,<-Pt hv,<-Uc h1 o_,aq,PL,HD,Nat.xor_assoc]
  congr 3
  rw[dM]
def ag8:∀{k:Nat}{w:Nat},(List.replicate k 0).foldl kq w=PL k w
 |0,_=>rfl
 |k+1,w=>by rw[cx,ef,ag8];rfl
def ap3:∀{k:Nat},PL k 0=0
 |0=>rfl
 |k+1=>by rw[PL,show Hx 0=0 by decide,ap3]
def adT:∀{e b:C_}{w w':Nat},e.length=b.length->bin e->bin b->w<65536->w'<65536->(List.zipWith (λx y=>x ^^^ y) b e).foldl kq (w ^^^ w')=b.foldl kq w ^^^ e.foldl kq w'
 |[],[],w,w',_,_,_,_,_=>rfl
 |x::e,y::b,w,w',hl,he,hb,hw,hw'=>by
  have hx:=he x (.head _);have hy:=hb y (.head _);have hxy:y ^^^ x<=1:=by
   have h1:x=0∨x=1:=o_;have h2:y=0∨y=1:=o_;rcases h1 with rfl|rfl<;>rcases h2 with rfl|rfl<;>decide
  have hm:32768*(y ^^^ x)=(32768*y) ^^^ (32768*x):=by
   have h1:x=0∨x=1:=o_;have h2:y=0∨y=1:=o_;rcases h1 with rfl|rfl<;>rcases h2 with rfl|rfl<;>decide
  have hww:w ^^^ w'<65536:=Nat.xor_lt_two_pow (n:=16) hw hw';have k1:w ^^^ 32768*y<65536:=Nat.xor_lt_two_pow (n:=16) hw o_;have k2:w' ^^^ 32768*x<65536:=Nat.xor_lt_two_pow (n:=16) hw' o_;have hs:kq (w ^^^ w') (y ^^^ x)=kq w y ^^^ kq w' x:=by
   rw[Ug hww hxy,Ug hw hy,Ug hw' hx,<-Uc k1 k2,hm]
   congr 1
   rw[Nat.xor_assoc,Nat.xor_assoc]
   congr 1
   rw[<-Nat.xor_assoc,Nat.xor_comm w',Nat.xor_assoc]
  rw[List.zipWith_cons_cons,ef,ef,ef,hs];exact adT (by simpa using hl) (λz hz=>he z (.tail _ hz)) (λz hz=>hb z (.tail _ hz)) JN JN
def awu {b:C_}(hb:bin b){k m:Nat}{u:C_}(hu:bin u)(hl:u.length<=16)(h1:1∈u)(hlen:k+u.length+m=b.length):nq (List.zipWith (λx y=>x ^^^ y) b (List.replicate k 0++(u++List.replicate m 0)))≠nq b:=by
 have he:bin (List.replicate k 0++(u++List.replicate m 0)):=λy hy=>by
  rcases aW.1 hy with hy|hy
  .rw[cH hy];omega
  rcases aW.1 hy with hy|hy
  .exact hu y hy
  .rw[cH hy];omega
 have h:=adT (e:=List.replicate k 0++(u++List.replicate m 0)) (b:=b) (w:=65535) (w':=0) g_ he hb o_ o_;rw[Nat.xor_zero]at h;unfold nq;rw[h,List.foldl_append,List.foldl_append,ag8,ag8,ap3,ar9 hu hl o_,Nat.zero_xor];have hv:=Tk (e:=16) hu;have hlt:∀{k w:Nat},w<65536->PL k w<65536:=by
  intro k
  induction k with
  |zero=>intro w h;exact h
  |succ k ih=>intro w h;exact ih ajc
 have hn:=aci (k:=m) (hlt (k:=u.length) o_) (aci (k:=u.length) o_ (ar8 hu hl h1));intro hq;have:=aP (λn=>b.foldl kq 65535 ^^^ n) hq;simp only[Nat.xor_self]at this;rw[<-Nat.xor_assoc,Nat.xor_self,Nat.zero_xor]at this;exact hn this
def CJ (d:C_)(k:Nat):C_:=d.set (k / 8) (d.getD (k / 8) 0 ^^^ (128 / 2 ^ (k % 8)))
def Ux {d:C_}{k:Nat}:(CJ d k).length=d.length:=by simp[CJ]
def amh {x r:C_}{k:Nat}(h:8*x.length<=k):CJ (x++r) k=x++CJ r (k-8*x.length):=by
 have e1:(k-8*x.length) / 8=k / 8-x.length:=o_;have e2:(k-8*x.length) % 8=k % 8:=o_;have e3:x.length<=k / 8:=o_;unfold CJ;rw[e1,e2,fg _ _ e3,aV,aV,bg e3]
def atr {x r:C_}{k:Nat}(h:k<8*x.length):CJ (x++r) k=CJ x k++r:=by
 have e3:k / 8<x.length:=o_;unfold CJ;rw[List.set_append_left _ _ e3,aV,aV,bU e3]
def aiG {d:C_}{k:Nat}(h:∀x∈d,x<=255):∀x∈CJ d k,x<=255:=λx hx=>by
 rcases fU hx with hx|rfl
 .exact h x hx
 .have h1:d.getD (k / 8) 0<2 ^ 8:=by
   rw[aV]
   cases hd:d[k / 8]? with
   |none=>decide
   |some y=>have:=h y (dt hd);simp only[Option.getD_some];omega
  have h2:128 / 2 ^ (k % 8)<2 ^ 8:=Nat.lt_of_le_of_lt (fV _ _) k_;have:=Nat.xor_lt_two_pow h1 h2;omega
def aDa:∀a<256,∀k<8,au (a ^^^ (128 / 2 ^ k)) 8=(au a 8).set k ((au a 8).getD k 0 ^^^ 1):=e_
def ajD:∀{d:C_}{k:Nat},(∀x∈d,x<=255)->k<8*d.length->bu (CJ d k)=(bu d).set k ((bu d).getD k 0 ^^^ 1)
 |[],k,_,h=>absurd h (by simp)
 |a::r,k,h,hk=>by
  have e0:∀(x:Nat) (r:C_),bu (x::r)=au x 8++bu r:=λ_ _=>rfl
  by_cases h8:k<8
  .have e:CJ (a::r) k=(a ^^^ (128 / 2 ^ k))::r:=by
    unfold CJ;rw[show k / 8=0 by omega,show k % 8=k by omega];rfl
   have hl:k<(au a 8).length:=by rw[cM];exact h8
   have ha:=h a (.head _);rw[e,e0,e0,aDa a o_ k h8,List.set_append_left _ _ hl,aV,aV,bU hl]
  .have e:CJ (a::r) k=a::CJ r (k-8):=by
    have:=amh (x:=[a]) (r:=r) (k:=k) (by simp only[List.length_singleton];omega);exact this
   have hl:(au a 8).length<=k:=by rw[cM];omega
   rw[aq]at hk;rw[e,e0,e0,ajD (λx hx=>h x (.tail _ hx)) o_,fg _ _ hl,cM,aV,aV,bg hl,cM]
def mq (w lo many fi:Nat):Nat->Nat->C_->C_
 |0,_,d=>d
 |f+1,i,d=>if fi+i<many then mq w lo many fi f (i+1) (if w / 2 ^ i % 2=1 then CJ d (lo+fi+i) else d) else d
def Ij {w lo many fi:Nat}:∀{f i:Nat}{d:C_},(mq w lo many fi f i d).length=d.length
 |0,_,_=>rfl
 |f+1,i,d=>by
  rw[mq];split
  .rw[Ij];split
   .exact Ux
   .rfl
  .rfl
def YP {w lo many fi:Nat}:∀{f i:Nat}{d:C_},(∀x∈d,x<=255)->∀x∈mq w lo many fi f i d,x<=255
 |0,_,_,h=>h
 |f+1,i,d,h=>by
  rw[mq];split
  .refine YP ?_;split
   .exact aiG h
   .exact h
  .exact h
def acw {w lo many fi:Nat}{x:C_}(h:8*x.length<=lo):∀{f i:Nat}{r:C_},mq w lo many fi f i (x++r)=x++mq w (lo-8*x.length) many fi f i r
 |0,_,_=>rfl
 |f+1,i,r=>by
  rw[mq,mq];by_cases c:fi+i<many
  .rw[ac c,ac c,<-acw h]
   congr 1
   by_cases c2:w / 2 ^ i % 2=1
   .rw[ac c2,ac c2,amh o_,show lo+fi+i-8*x.length=lo-8*x.length+fi+i by omega]
   .rw[aa c2,aa c2]
  .rw[aa c,aa c]
def XH {w lo many fi:Nat}{r:C_}:∀{f i:Nat}{x:C_},lo+many<=8*x.length->mq w lo many fi f i (x++r)=mq w lo many fi f i x++r
 |0,_,_,_=>rfl
 |f+1,i,x,h=>by
  rw[mq,mq];by_cases c:fi+i<many
  .rw[ac c,ac c];by_cases c2:w / 2 ^ i % 2=1
   .rw[ac c2,ac c2,atr o_,XH (by rw[Ux];exact h)]
   .rw[aa c2,aa c2,XH h]
  .rw[aa c,aa c]
def ub (w:Nat):Nat->C_
 |0=>[]
 |n+1=>ub w n++[w / 2 ^ n % 2]
def xi {w:Nat}:∀{n:Nat},(ub w n).length=n
 |0=>rfl
 |n+1=>by rw[ub,aj,xi];rfl
def anJ {w:Nat}:∀{n:Nat},bin (ub w n)
 |0=>λx hx=>by simp[ub]at hx
 |n+1=>λx hx=>by
  rw[ub]at hx;rcases aW.1 hx with hx|hx
  .exact anJ x hx
  .simp only[List.mem_singleton]at hx;omega
abbrev zx (b e:C_):C_:=List.zipWith (λx y=>x ^^^ y) b e
def aqx:∀{b e:C_}{k:Nat},b.length=e.length->e.getD k 0=0->k<b.length->(zx b e).set k ((zx b e).getD k 0 ^^^ 1)=zx b (e.set k 1)
 |[],_,_,_,_,h=>absurd h (by simp)
 |_::_,[],_,h,_,_=>absurd h (by simp)
 |a::b,c::e,0,_,h0,_=>by
  have:c=0:=h0;subst this;show(a ^^^ 0 ^^^ 1)::_=(a ^^^ 1)::_;rw[Nat.xor_zero]
 |a::b,c::e,k+1,hl,h0,hk=>by
  have:=aqx (b:=b) (e:=e) (k:=k) (by simpa using hl) h0 (by simpa using hk);show _::(zx b e).set k ((zx b e).getD k 0 ^^^ 1)=_::zx b (e.set k 1);rw[this]
def aow:∀{b:C_}{n:Nat},b.length=n->zx b (List.replicate n 0)=b
 |[],0,_=>rfl
 |a::b,n+1,h=>by
  show(a ^^^ 0)::zx b (List.replicate n 0)=_;rw[Nat.xor_zero,aow (by simpa using h)]
def agz:∀{x y:C_},(∀a∈x,a<=255)->(∀a∈y,a<=255)->bu x=bu y->x=y
 |[],[],_,_,_=>rfl
 |[],_::_,_,_,h=>by have:=aP List.length h;rw[dI,dI]at this;simp at this
 |_::_,[],_,_,h=>by have:=aP List.length h;rw[dI,dI]at this;simp at this
 |a::x,b::y,hx,hy,h=>by
  have h:au a 8++bu x=au b 8++bu y:=h;obtain⟨h1,h2⟩:=List.append_inj h (by rw[cM,cM]);have ha:=hx a (.head _);have hb:=hy b (.head _);rw[asS o_ o_ h1,agz (λz hz=>hx z (.tail _ hz)) (λz hz=>hy z (.tail _ hz)) h2]
def ahl {w lo many fi:Nat}{B:C_}:∀{f i r:Nat}{d:C_},(∀x∈d,x<=255)->d.length=B.length->lo+many<=8*B.length->lo+fi+i+r=8*B.length->fi+i<=many->bu d=zx (bu B) (List.replicate (lo+fi) 0++(ub w i++List.replicate r 0))->
  ∃n r',n<=i+f∧lo+fi+n+r'=8*B.length∧bu (mq w lo many fi f i d)=zx (bu B) (List.replicate (lo+fi) 0++(ub w n++List.replicate r' 0))
 |0,i,r,d,_,_,_,hr,_,h=>⟨i,r,o_,hr,h⟩
 |f+1,i,r,d,hd,hl,hm,hr,hi,h=>by
  rw[mq];by_cases c:fi+i<many
  rotate_left
  .rw[aa c];exact⟨i,r,o_,hr,h⟩
  rw[ac c];obtain⟨r,rfl⟩:∃q,r=q+1:=⟨r-1,o_⟩
  have hbl:=dI (l:=B);have hEl:(List.replicate (lo+fi) 0++(ub w i++List.replicate (r+1) 0)).length=8*B.length:=by
   simp only[aj,aL,xi];omega
  have key:bu (if w / 2 ^ i % 2=1 then CJ d (lo+fi+i) else d)=zx (bu B) (List.replicate (lo+fi) 0++(ub w (i+1)++List.replicate r 0)):=by
   by_cases c2:w / 2 ^ i % 2=1
   .rw[ac c2,ajD hd o_,h,aqx (by rw[hbl,hEl]) ?_ (by rw[hbl];omega)]
    .congr 1
     rw[fg _ _ (by simp only[aL];omega),fg _ _ (by simp only[aL,xi];omega)];simp only[aL,xi];rw[show lo+fi+i-(lo+fi)-i=0 by omega,ub,c2,ax];rfl
    .rw[aV,bg (by simp only[aL];omega),bg (by simp only[aL,xi];omega)];simp only[aL,xi];rw[show lo+fi+i-(lo+fi)-i=0 by omega];rfl
   .rw[aa c2,h,ub,show w / 2 ^ i % 2=0 by omega,ax];rfl
  obtain⟨n,r',h1,h2,h3⟩:=ahl (f:=f) (i:=i+1) (r:=r) (d:=if w / 2 ^ i % 2=1 then CJ d (lo+fi+i) else d) (by split;exact aiG hd;exact hd) (by split;rw[Ux];exact hl;exact hl) hm o_ o_ key;exact⟨n,r',o_,h2,h3⟩
def azM {a b e f:C_}(h:a.length=e.length):zx (a++b) (e++f)=zx a e++zx b f:=List.zipWith_append h
def aC1 {w many fi:Nat}{h7 l:C_}(hl2:∀x∈l,x<=255)(hm:many=8*l.length)(hfi:fi<=many):mq w 0 many fi 16 0 l=l∨(mq w 0 many fi 16 0 l≠l∧nq ([h7,mq w 0 many fi 16 0 l].flatMap bu)≠nq ([h7,l].flatMap bu)):=by
 have hbl:=dI (l:=l);have hb7:=dI (l:=h7);obtain⟨n,r,h1,h2,h3⟩:=ahl (w:=w) (lo:=0) (many:=many) (fi:=fi) (B:=l) (f:=16) (i:=0) (r:=many-fi) (d:=l) hl2 rfl o_ o_ o_ (by
  rw[show List.replicate (0+fi) 0++(ub w 0++List.replicate (many-fi) 0)=List.replicate many 0 by
   rw[ub,aK,List.replicate_append_replicate,show 0+fi+(many-fi)=many by omega]]
  rw[aow o_])
 by_cases hu:1∈ub w n
 .refine .inr ⟨λe=>?_,?_⟩
  .have hb:=awu (b:=bu l) NO (k:=fi) (m:=r) anJ (by rw[xi];omega) hu (by rw[xi,hbl];omega);rw[bn]at h3;unfold zx at h3;rw[<-h3,e]at hb;exact hb rfl
  .have hb:=awu (b:=[h7,l].flatMap bu) (by
    intro x hx;obtain⟨y,_,hx⟩:=jg.1 hx;exact NO x hx) (k:=(bu h7).length+fi) (m:=r) anJ (by rw[xi];omega) hu (by
    simp only[aC,fb,bh,aj,xi];omega)
   have e:zx ([h7,l].flatMap bu) (List.replicate ((bu h7).length+fi) 0++(ub w n++List.replicate r 0))=[h7,mq w 0 many fi 16 0 l].flatMap bu:=by
    simp only[aC,fb,bh];rw[<-List.replicate_append_replicate,ax,azM (by rw[aL]),aow rfl,h3,bn]
   unfold zx at e;rw[e]at hb;exact hb
 .refine .inl (agz (YP hl2) hl2 ?_);have e:ub w n=List.replicate n 0:=List.eq_replicate_iff.2 ⟨xi,λx hx=>by
   have:=anJ x hx;rcases Nat.eq_zero_or_pos x with h|h
   .exact h
   .exact absurd (show x=1 by omega▸hx) hu⟩
  rw[h3,e,List.replicate_append_replicate,List.replicate_append_replicate,aow o_]
def alV {h7 l:C_}{x y:Nat}(h7l:h7.length=7):xQ (h7++([x,y]++l))↔nq ([h7,l].flatMap bu)=x*256+y:=by
 have hd9:(h7++([x,y]++l)).drop 9=l:=by
  rw[<-ax,List.drop_left' (by rw[aj,h7l];rfl)]
 have ht:(h7++([x,y]++l)).take 7=h7:=by rw[<-h7l,List.take_left]
 have g7:(h7++([x,y]++l)).getD 7 0=x:=by
  rw[aV,bg o_,h7l];rfl
 have g8:(h7++([x,y]++l)).getD 8 0=y:=by
  rw[aV,bg o_,h7l];rfl
 rw[xQ,hd9,ht,g7,g8]
def ask {rt n full:Int}{L:Nat}{h7 t:C_}(ok:kw ⟨rt,n,true,((dz true+L:Nat):Int),full⟩)(hw:jz ⟨rt,n,true,((dz true+L:Nat):Int),full⟩ 14=bu h7)(ht:t.length=2+L)(hs:¬xQ (h7++t)):yM (h7++t)=250:=by
 have h7l:h7.length=7:=by
  have:=aP List.length hw;rw[Jg,dI]at this;omega
 have h9:dz true=9:=rfl;obtain⟨e1,e2⟩:=acO (t:=t) ok hw t_;have hbl:(h7++t).length=dz true+L:=by rw[aj];omega
 rw[yM,aa (by rw[e1];decide),e2,hbl];simp only[];rw[aa o_,aa o_,ac ⟨trivial,hs⟩]
def azE {rt n full:Int}{h7 l:C_}(hl2:∀x∈l,x<=255)(h72:∀x∈h7,x<=255)(ok:kw ⟨rt,n,true,((dz true+l.length:Nat):Int),full⟩)(hw:jz ⟨rt,n,true,((dz true+l.length:Nat):Int),full⟩ 14=bu h7)(w lo many fi:Nat)(hc:(lo=56∧many=16)∨(lo=72∧many=8*l.length))(hfi:fi<=many) :
  mq w lo many fi 16 0 (h7++(gp true h7 l++l))=h7++(gp true h7 l++l)∨(mq w lo many fi 16 0 (h7++(gp true h7 l++l))≠h7++(gp true h7 l++l)∧yM (mq w lo many fi 16 0 (h7++(gp true h7 l++l)))=250):=by
 have h7l:h7.length=7:=by
  have:=aP List.length hw;rw[Jg,dI]at this;omega
 have hsb:gp true h7 l=[nq ([h7,l].flatMap bu) / 256,nq ([h7,l].flatMap bu) % 256]:=rfl;have hcl:=EO (b:=[h7,l].flatMap bu);rcases hc with ⟨rfl,rfl⟩|⟨rfl,hm⟩
 .rw[acw o_,h7l,show 56-8*7=0 by omega,XH (by rw[hsb];simp)];have hs2:∀x∈gp true h7 l,x<=255:=λx hx=>by
   rw[hsb]at hx;simp only[ay,b8,eg]at hx;rcases hx with rfl|rfl<;>omega
  have t1:=YP (w:=w) (lo:=0) (many:=16) (fi:=fi) (f:=16) (i:=0) hs2;have t2:=Ij (w:=w) (lo:=0) (many:=16) (fi:=fi) (f:=16) (i:=0) (d:=gp true h7 l);generalize mq w 0 16 fi 16 0 (gp true h7 l)=s at *;by_cases he:s=gp true h7 l
  .rw[he];exact .inl rfl
  .refine .inr ⟨λh=>he ?_,ask ok hw (by rw[aj,t2,hsb];rfl) λh=>?_⟩
   .exact List.append_cancel_right (List.append_cancel_left h)
   .rw[hsb]at t2 he
    match s,t2 with
    |[x,y],_ =>
     have hx:=t1 x (.head _);have hy:=t1 y (.tail _ (.head _));have h:=(alV h7l).1 h;refine he ?_;rw[h,show(x*256+y) / 256=x by omega,show(x*256+y) % 256=y by omega]
 .have ea:∀z:C_,h7++(gp true h7 l++z)=(h7++gp true h7 l)++z:=λz=>by rw[ax]
  have hl9:(h7++gp true h7 l).length=9:=by rw[aj,h7l,hsb];rfl
  rw[ea,acw o_,hl9,show 72-8*9=0 by omega];rcases aC1 (w:=w) (many:=many) (fi:=fi) (h7:=h7) hl2 hm hfi with h|⟨h1,h2⟩
  .rw[h];exact .inl rfl
  .refine .inr ⟨λh=>h1 (List.append_cancel_left h),?_⟩;rw[<-ea];refine ask ok hw (by rw[aj,Ij,hsb];rfl) λh=>?_
   rw[hsb]at h;have h:=(alV h7l).1 h;exact h2 (by rw[h];omega)
def ar7 {l:C_}{i:Nat}(h:i<l.length):(ai l)[i]?=some [.int .u8 (nth l i:Nat)]:=by simp[ai,yg h]
def aqs {l:C_}{i:Nat}{x:Nat}:(ai l).set i [.int .u8 (x:Int)]=ai (l.set i x):=by simp[ai,jU]
def azh {x y:Nat}(hx:x<=255)(hy:y<=255):fe .xor (.d (.int .u8 (x:Int))) (.d (.int .u8 (y:Int)))=some (.int .u8 ((x ^^^ y:Nat):Int)):=by
 have tn:jM .u8=256:=rfl;have h:=Nat.xor_lt_two_pow (show x<2 ^ 8 by omega) (show y<2 ^ 8 by omega);exact ap2 (k:=.u8) (by rw[tn];omega) (by rw[tn];omega) (by rw[tn];omega)
def aA1 {k:Nat}(hk:k<=63):fe .shr (.d (.int .u8 128)) (A_ (k:Int))=some (.int .u8 ((128 / 2 ^ k:Nat):Int)):=by
 have e:((128:Nat):Int)=128:=rfl;rw[jH o_,<-e,dK _ (jK _)];by_cases h:k<=8
 .have:min ((k:Int)).toNat IntKind.u8.bits=k:=by simp only[ar,IntKind.bits];omega
  rw[this,<-Int.natCast_ediv]
 .have:min ((k:Int)).toNat IntKind.u8.bits=8:=by simp only[ar,IntKind.bits];omega
  rw[this,gI (bc (show 128<2 ^ 8 by decide) (aw k_ o_))];rfl
def ayN {w k:Nat}(hk:k<=16):fe .shr (.d (.int .u16 (w:Int))) (A_ (k:Int))=some (.int .u16 ((w / 2 ^ k:Nat):Int)):=by
 rw[jH o_];have:min ((k:Int)).toNat IntKind.u16.bits=k:=by simp only[ar,IntKind.bits];omega
 rw[this,dK _ (jK _),<-Int.natCast_ediv]
def axG {w:Nat}(hw:w<65536):fe .and (.d (.int .u16 (w:Int))) (.d (.int .u16 1))=some (.int .u16 ((w % 2:Nat):Int)):=by
 have tn:jM .u16=65536:=rfl;have:=agr (k:=.u16) (a:=w) (b:=1) (by rw[tn];exact hw) k_;rw[Nat.and_one_is_mod]at this;exact this
structure HpB (hp:C_->am)(D:Nat):Prop where
 get:∀xs,get (hp xs) D=some (.arr 1 (ai xs))
 put:∀xs ys,put (hp xs) D (.arr 1 (ai ys))=hp ys
def at1 {hp:C_->am}{D:Nat}(H:HpB hp D)(X:AV)(len:Nat)(hlen:len<=1000000000)(w lo many fi N:Nat)(hw:w<65536)(hm:lo+many<=8*len)(hfi:fi<=many):∀(f i:Nat) (xs:C_),i+f=16->xs.length=len->(∀x∈xs,x<=255)->
  (Dn prog).code (.loop fZ) ⟨[(5,.d (.int .u16 w)),(14,X),(16,.sl D 0 len),(17,A_ lo),(18,A_ many),(19,A_ fi),(20,A_ i)],⟨hp xs,N⟩⟩ =
  some (.exit 0,⟨[(14,X),(16,.sl D 0 len)],⟨hp (mq w lo many fi f i xs),N⟩⟩):=by
 intro f
 induction f with
 |zero =>
  intro i xs hi hx hb;obtain rfl:i=16:=o_;rw[ah sq];simp(maxSteps:=9^6)(disch:=omega)[↓ac,↓aa,mq]
 |succ f ih =>
  intro i xs hi hx hb;rw[ah sq];by_cases c:fi+i<many
  rotate_left
  .rw[mq,aa c];simp(maxSteps:=9^6)(disch:=omega)[↓ac,↓aa]
  have c1:((i+1:Nat):Int)=(i:Int)+1:=rfl;have hs:=ayN (w:=w) (k:=i) o_;have hw2:w / 2 ^ i<65536:=Nat.lt_of_le_of_lt (fV _ _) hw;have ha:=axG hw2;rw[mq,ac c];generalize w / 2 ^ i=v at *;by_cases c2:v % 2=1
  .rw[c2]at ha;have h:=ih (i+1) (CJ xs (lo+fi+i)) o_ (by rw[Ux];exact hx) (aiG hb);rw[c1]at h;rw[ac c2,<-h];have e1:(lo:Int)+fi+i=((lo+fi+i:Nat):Int):=o_;have hfl:CJ xs (lo+fi+i)=xs.set ((lo+fi+i) / 8) (nth xs ((lo+fi+i) / 8) ^^^ 128 / 2 ^ ((lo+fi+i) % 8)):=rfl;rw[hfl];have hk:lo+fi+i<8*len:=o_;generalize lo+fi+i=k at *;have hk8:k / 8<xs.length:=o_;have hy:nth xs (k / 8)<=255:=by rw[Z6 hk8];exact hb _ (List.getElem_mem hk8)
   have hsh:=aA1 (k:=k % 8) o_;have hxr:=azh hy (show 128 / 2 ^ (k % 8)<=255 from aM (fV _ _) k_);have hg:=ar7 hk8;have hst:=aqs (l:=xs) (i:=k / 8) (x:=nth xs (k / 8) ^^^ 128 / 2 ^ (k % 8));generalize hpp:k / 8=p at *;generalize hqq:k % 8=q at *;have d1:(k:Int) / 8=(p:Int):=o_;have d2:(k:Int).tmod 8=(q:Int):=by rw[eJ o_];omega
   generalize nth xs p ^^^ 128 / 2 ^ q=Z at *;generalize 128 / 2 ^ q=Y at *;generalize hn:nth xs p=Y0 at *;simp(maxSteps:=9^6)(disch:=omega)[↓ac,↓aa,-jH,hs,ha,H.get,H.put,e1,hsh,hxr,hg,hst,d1,d2,hn]
  .rw[show v % 2=0 by omega]at ha;have h:=ih (i+1) xs o_ hx hb;rw[c1]at h;rw[aa c2,<-h];simp(maxSteps:=9^6)(disch:=omega)[↓ac,↓aa,hs,ha]
def fy.dull {x:AV}{l:E_}(h:fy x l):∃y,FC x=y∧(share y=y∧firm y=y∧AV.cells y=[y])∧bl y=true∧mW y=y∧ud y=false:=by
 rcases h with rfl|⟨rfl,rfl⟩
 .exact⟨_,rfl,⟨rfl,rfl,rfl⟩,rfl,rfl,rfl⟩
 .exact⟨_,rfl,⟨rfl,rfl,rfl⟩,rfl,rfl,rfl⟩
def anz {h:am}{b:C_}:Dq h (.own false 1 (ai b))=some (.str (b.map Nat.toUInt8)):=by
 simp[Dq,Og]
def aex {b:C_}{n:Nat}(h:b.length=n)(hn:n<=1000000):Dq [(3,.arr 1 (ai b))] (.sl 3 0 n)=some (.str (b.map Nat.toUInt8)):=by
 subst h;have hb:=bB (l:=b);have ht:(ai b).take b.length=ai b:=bH o_;simp(disch:=omega)[Dq,Og,ht]
def apx (rt n:Int)(cb:Bool)(cz full:Int)(f:fJ)(hf:ajF f->f.Fit)(a w:Nat)(ha0:a<65536)(hw0:w<65536)(inn:Bool):bq prog wg [lO rt n cb cz,A_ full,.agg f.av,.d (.int .u16 a),B_ inn,.d (.int .u16 w)]=some (B_ true):=by
 have ha:=alB;rcases awZ f with ⟨hs,hg⟩|hg
 rotate_left
 .simp only[fJ.av,lO]at hg⊢;rw[aG iy iA rfl];simp(maxSteps:=9^6)(disch:=omega)[↓ac,↓aa,ha,hg]
 have hF:=hf hs;obtain⟨l,hl,hl2⟩:=XP ((ml rt.toNat n f).length / 8) (b:=ml rt.toNat n f) (by have:=aCN (R:=rt.toNat) (n:=n) (f:=f);omega) aDj;obtain⟨h7,h71,h72⟩:=XP 7 (b:=jz ⟨rt,n,true,((dz true+l.length:Nat):Int),full⟩ 14) (by rw[Jg]) aB9;have hW:=Yj rt n true cz full f hF _ _ _ fy.d fy.d fy.d l h7 hl hl2 h71 h72;rcases hW with ⟨hk,ok,hW⟩|⟨hk,hok,hW⟩|⟨_,e,he,hC,hW⟩
 rotate_left
 .simp only[fJ.av,lO,pO]at hg hW⊢;rw[aG iy iA rfl];simp(maxSteps:=9^6)(disch:=omega)[↓ac,↓aa,ha,hg,hW]
 .simp only[fJ.av,lO,pO]at hg hC hW⊢;rw[aG iy iA rfl];simp(maxSteps:=9^6)(disch:=omega)[↓ac,↓aa,ha,hg,hW,he]
 have l1:1<=l.length:=by
  have hu:((ml rt.toNat n f).length:Int)=8*(l.length:Int):=by rw[hl,dI];omega
  have hb1:(t9 rt.toNat n f).length<=(ml rt.toNat n f).length:=by
   show _<=(wN (t9 rt.toNat n f)).length;rw[wN,aj];omega
  have hb2:3<=(t9 rt.toNat n f).length:=by rw[t9,aj,cM];omega
  omega
 obtain⟨hbl,hB400,hB2,_,X,Y,Z,hX,hY,hZ,hRd⟩:=aDb hF hk hl hl2 ok h71 h72;have hBr:=λlo many fi hc hfi=>azE (w:=w) hl2 h72 ok h71 lo many fi hc hfi
 have hsz:dz true=9:=rfl;rw[hsz]at hbl hB400;clear h71 h72 hl ok hk;generalize h7++(gp true h7 l++l)=B at *;have hfin:∀lo many fi:Nat,(lo=56∧many=16)∨(lo=72∧many=8*l.length)->fi<=many->∃(H:nM) (Fr:fJ) (X Y Z:AV) (g:Int),fy X (eq Fr.chans)∧fy Y (eh Fr.bands)∧fy Z (ai Fr.fill)∧bq prog Fz [.d (.lst (ai (mq w lo many fi 16 0 B)))]=some (.tup [.agg H.cells,pO Fr X Y Z,A_ g])∧(g=0∧(mq w lo many fi 16 0 B).map Nat.toUInt8=B.map Nat.toUInt8∨g=250∧(mq w lo many fi 16 0 B).map Nat.toUInt8≠B.map Nat.toUInt8):=by
  intro lo many fi hc hfi;rcases hBr lo many fi hc hfi with h|⟨h1,h2⟩
  .rw[h];exact⟨_,_,_,_,_,_,hX,hY,hZ,hRd,.inl ⟨rfl,rfl⟩⟩
  .have t1:=YP (w:=w) (lo:=lo) (many:=many) (fi:=fi) (f:=16) (i:=0) hB2;have t2:=Ij (w:=w) (lo:=lo) (many:=many) (fi:=fi) (f:=16) (i:=0) (d:=B);have hR:=adw (mq w lo many fi 16 0 B) o_ t1 (.d (.lst (ai (mq w lo many fi 16 0 B)))) fy.d;obtain⟨X,Y,Z,hX,hY,hZ,hA⟩:=ade (mq w lo many fi 16 0 B);rw[h2,hA]at hR;exact⟨_,_,_,_,_,_,hX,hY,hZ,hR,.inr ⟨rfl,λh=>h1 (aqn t1 hB2 h)⟩⟩
 clear hBr hRd;simp only[fJ.av,lO,pO]at hg hW⊢;have hBl:=bB (l:=B);rw[hbl]at hBl;have hL:∀lo many fi:Nat,lo+many<=8*(9+l.length)->fi<=many->(Dn prog).code (.loop fZ) ⟨[(5,.d (.int .u16 w)),(14,.own false 1 (ai B)),(16,.sl 3 0 (9+l.length)),(17,A_ lo),(18,A_ many),(19,A_ fi),(20,A_ (0:Nat))],⟨[(3,.arr 1 (ai B))],4⟩⟩=some (.exit 0,⟨[(14,.own false 1 (ai B)),(16,.sl 3 0 (9+l.length))],⟨[(3,.arr 1 (ai (mq w lo many fi 16 0 B)))],4⟩⟩):=λlo many fi h1 h2 =>
  at1 (hp:=λxs=>[(3,.arr 1 (ai xs))]) (D:=3) ⟨λ_=>rfl,λ_ _=>rfl⟩ _ (9+l.length) o_ w lo many fi 4 hw0 o_ h2 16 0 B o_ o_ hB2
 have d72:((72:Nat):Int)=72:=rfl;have d56:((56:Nat):Int)=56:=rfl;have d16:((16:Nat):Int)=16:=rfl;have d0:((0:Nat):Int)=0:=rfl;have ht1:=λh=>anz (h:=h) (b:=B)
 cases inn
 .obtain⟨H,Fr,X,Y,Z,g,hX,hY,hZ,hR,hgs⟩:=hfin 72 (8*l.length) (a % (8*l.length)) (.inr ⟨rfl,rfl⟩) (Nat.le_of_lt (dl _ o_));have hL:=hL 72 (8*l.length) (a % (8*l.length)) o_ (Nat.le_of_lt (dl _ o_));have hlen:=Ij (w:=w) (lo:=72) (many:=8*l.length) (fi:=a % (8*l.length)) (f:=16) (i:=0) (d:=B);generalize hD:mq w 72 (8*l.length) (a % (8*l.length)) 16 0 B=D at *;rw[d72,d0]at hL;have ht2:=aex (b:=D) (n:=9+l.length) o_ o_;have hDl:=bB (l:=D);rw[hlen,hbl]at hDl;have hDt:(ai D).take (9+l.length)=ai D:=bH o_;obtain⟨⟨x1,x2,x3⟩,x4,x5⟩:=hX.facts;obtain⟨⟨y1,y2,y3⟩,y4,y5⟩:=hY.facts;obtain⟨⟨z1,z2,z3⟩,z4,z5⟩:=hZ.facts;obtain⟨⟨vx,ux⟩,wx⟩:=hX.one;obtain⟨⟨vy,uy⟩,wy⟩:=hY.one;obtain⟨⟨vz,uz⟩,wz⟩:=hZ.one;obtain⟨X',dX,⟨j1,j2,j3⟩,j4,uj,wj⟩:=hX.dull;obtain⟨Y',dY,⟨k1,k2,k3⟩,k4,uk,wk⟩:=hY.dull;obtain⟨Z',dZ,⟨l1,l2,l3⟩,l4,ul,wl⟩:=hZ.dull;have dd:∀n:Int,FC (A_ n)=A_ n:=λ_=>rfl
  have db:∀b:Bool,FC (B_ b)=B_ b:=λ_=>rfl
  have e1:8*(9+(l.length:Int))-72=((8*l.length:Nat):Int):=o_;have e2:(a:Int).tmod ((8*l.length:Nat):Int)=((a % (8*l.length):Nat):Int):=by
   rw[eJ o_];exact(Int.natCast_emod _ _).symm
  simp only[pO,nM.cells]at hR;rw[aG iy iA rfl];simp(maxSteps:=9^6)(disch:=omega)[↓ac,↓aa,-bl,ha,hg,hW,hBl];rw[e1,e2,hL];clear hL hfin;generalize ai D=BD at *;generalize ai B=BB at *;generalize D.map Nat.toUInt8=TD at *;generalize B.map Nat.toUInt8=TB at *;have hd3:∀g:Int,Cg (.tup [.agg [A_ H.rate,A_ H.chans,B_ H.crc,A_ H.len,A_ H.full],.agg [X,B_ Fr.common,A_ Fr.mask,Y,Z],A_ g])=.tup [.agg [A_ H.rate,A_ H.chans,B_ H.crc,A_ H.len,A_ H.full],.agg [X',B_ Fr.common,A_ Fr.mask,Y',Z'],A_ g]:=λg=>by
   simp only[Cg,H7,bL,List.map_nil,dX,dY,dZ,dd,db]
  rcases hgs with ⟨rfl,rfl⟩|⟨rfl,hne⟩
  .simp(maxSteps:=9^6)(disch:=omega)[↓ac,↓aa,-bl,x1,x2,x3,x4,y1,y2,y3,y4,z1,z2,z3,z4,ux,uy,uz,vx,vy,vz,wx,wy,wz,j1,j2,j3,j4,k1,k2,k3,k4,l1,l2,l3,l4,uj,uk,ul,wj,wk,wl,hR,ht1,ht2,hDl,hBl,hDt,hd3]
  .have hne2:=Ne.symm hne;simp(maxSteps:=9^6)(disch:=omega)[↓ac,↓aa,-bl,x1,x2,x3,x4,y1,y2,y3,y4,z1,z2,z3,z4,ux,uy,uz,vx,vy,vz,wx,wy,wz,j1,j2,j3,j4,k1,k2,k3,k4,l1,l2,l3,l4,uj,uk,ul,wj,wk,wl,hR,ht1,ht2,hDl,hBl,hDt,hd3,hne,hne2]
 .obtain⟨H,Fr,X,Y,Z,g,hX,hY,hZ,hR,hgs⟩:=hfin 56 16 (a % 16) (.inl ⟨rfl,rfl⟩) (Nat.le_of_lt (dl _ o_));have hL:=hL 56 16 (a % 16) o_ (Nat.le_of_lt (dl _ o_));have hlen:=Ij (w:=w) (lo:=56) (many:=16) (fi:=a % 16) (f:=16) (i:=0) (d:=B);generalize hD:mq w 56 16 (a % 16) 16 0 B=D at *;rw[d56,d16,d0]at hL;have ht2:=aex (b:=D) (n:=9+l.length) o_ o_;have hDl:=bB (l:=D);rw[hlen,hbl]at hDl;have hDt:(ai D).take (9+l.length)=ai D:=bH o_;obtain⟨⟨x1,x2,x3⟩,x4,x5⟩:=hX.facts;obtain⟨⟨y1,y2,y3⟩,y4,y5⟩:=hY.facts;obtain⟨⟨z1,z2,z3⟩,z4,z5⟩:=hZ.facts;obtain⟨⟨vx,ux⟩,wx⟩:=hX.one;obtain⟨⟨vy,uy⟩,wy⟩:=hY.one;obtain⟨⟨vz,uz⟩,wz⟩:=hZ.one;obtain⟨X',dX,⟨j1,j2,j3⟩,j4,uj,wj⟩:=hX.dull;obtain⟨Y',dY,⟨k1,k2,k3⟩,k4,uk,wk⟩:=hY.dull;obtain⟨Z',dZ,⟨l1,l2,l3⟩,l4,ul,wl⟩:=hZ.dull;have dd:∀n:Int,FC (A_ n)=A_ n:=λ_=>rfl
  have db:∀b:Bool,FC (B_ b)=B_ b:=λ_=>rfl
  have e2:(a:Int).tmod 16=((a % 16:Nat):Int):=by
   rw[eJ o_];omega
  simp only[pO,nM.cells]at hR;rw[aG iy iA rfl];simp(maxSteps:=9^6)(disch:=omega)[↓ac,↓aa,-bl,ha,hg,hW,hBl];rw[e2,hL];clear hL hfin;generalize ai D=BD at *;generalize ai B=BB at *;generalize D.map Nat.toUInt8=TD at *;generalize B.map Nat.toUInt8=TB at *;have hd3:∀g:Int,Cg (.tup [.agg [A_ H.rate,A_ H.chans,B_ H.crc,A_ H.len,A_ H.full],.agg [X,B_ Fr.common,A_ Fr.mask,Y,Z],A_ g])=.tup [.agg [A_ H.rate,A_ H.chans,B_ H.crc,A_ H.len,A_ H.full],.agg [X',B_ Fr.common,A_ Fr.mask,Y',Z'],A_ g]:=λg=>by
   simp only[Cg,H7,bL,List.map_nil,dX,dY,dZ,dd,db]
  rcases hgs with ⟨rfl,rfl⟩|⟨rfl,hne⟩
  .simp(maxSteps:=9^6)(disch:=omega)[↓ac,↓aa,-bl,x1,x2,x3,x4,y1,y2,y3,y4,z1,z2,z3,z4,ux,uy,uz,vx,vy,vz,wx,wy,wz,j1,j2,j3,j4,k1,k2,k3,k4,l1,l2,l3,l4,uj,uk,ul,wj,wk,wl,hR,ht1,ht2,hDl,hBl,hDt,hd3]
  .have hne2:=Ne.symm hne;simp(maxSteps:=9^6)(disch:=omega)[↓ac,↓aa,-bl,x1,x2,x3,x4,y1,y2,y3,y4,z1,z2,z3,z4,ux,uy,uz,vx,vy,vz,wx,wy,wz,j1,j2,j3,j4,k1,k2,k3,k4,l1,l2,l3,l4,uj,uk,ul,wj,wk,wl,hR,ht1,ht2,hDl,hBl,hDt,hd3,hne,hne2]
def arg {d:D}(h:rg (.int .u16) d):∃n:Nat,d=.int .u16 n∧n<65536:=by
 obtain⟨n,e,h⟩:=agG h;simp[Lit.wf,IntKind.min,IntKind.max,IntKind.signed,IntKind.bits]at h;refine⟨n.toNat,?_,o_⟩;rw[e,lE h.1]
def VK {H:Type}:∀{ds:List (DataW H)},qM [(true,agd),(false,[.int .i64]),(true,af3),(false,[.int .u16]),(false,[.bool]),(false,[.int .u16])] ds->(∃d1 d2 d3 d4 d5 d6,ds=[d1,d2,d3,d4,d5,d6])∧∃(rt n:Int) (cb:Bool) (cz full:Int) (f:fJ) (a w:Nat) (q:Bool),f.Rng∧a<65536∧w<65536∧I6 [(true,agd),(false,[Ty.int .i64]),(true,af3),(false,[Ty.int .u16]),(false,[Ty.bool]),(false,[Ty.int .u16])] ds=[lO rt n cb cz,A_ full,.agg f.av,.d (.int .u16 a),B_ q,.d (.int .u16 w)]
 |[d1,d2,d3,d4,d5,d6],h=>by
  simp only[qM,and_true]at h;obtain⟨h1,h2,h3,h4,h5,h6⟩:=h;obtain⟨rt,n,cb,cz,e1⟩:=azP h1;obtain⟨x2,e2,h2⟩:=AL h2;obtain⟨k,rfl,hk⟩:=sZ h2;obtain⟨f,e3,hf⟩:=az3 h3;obtain⟨x4,e4,h4⟩:=AL h4;obtain⟨a,rfl,ha⟩:=arg h4;obtain⟨x5,e5,h5⟩:=AL h5;obtain⟨q,rfl⟩:=Io h5;obtain⟨x6,e6,h6⟩:=AL h6;obtain⟨w,rfl,hw⟩:=arg h6;refine⟨⟨_,_,_,_,_,_,rfl⟩,rt,n,cb,cz,k,f,a,w,q,hf,ha,hw,?_⟩;simp only[I6,e2,e3,e4,e5,e6,afY,e1]
 |[],h=>by simp[qM]at h
 |[_],h=>by simp[qM]at h
 |[_,_],h=>by simp[qM]at h
 |[_,_,_],h=>by simp[qM]at h
 |[_,_,_,_],h=>by simp[qM]at h
 |[_,_,_,_,_],h=>by simp[qM]at h
 |_::_::_::_::_::_::_::_,h=>by simp[qM]at h
end Go.Vm
end
