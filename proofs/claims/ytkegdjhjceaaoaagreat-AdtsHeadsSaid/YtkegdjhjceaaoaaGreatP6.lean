import Derived.Test.YtkegdjhjceaaoaaGreatP5
set_option linter.unusedVariables false
set_option linter.unusedSimpArgs false
set_option linter.defProp false
set_option linter.unusedSectionVars false
noncomputable section
namespace Go.Vm
set_option maxRecDepth 100000
set_option maxHeartbeats 8000000
def aeF {tl:C_}{bks:G_}:∀{ls:G_}{i:Nat},(∀j v,ls[j]?=some v->Oo tl bks (i+j) v)->xJ tl bks i ls
 |[],i,_=>trivial
 |u::r,i,h=>⟨h 0 u rfl,aeF λj v hv=>by
   have:=h (j+1) v (by simpa using hv)
   rwa [show i+(j+1)=i+1+j by omega]at this⟩
def aey {r:Nat}{c:cJ}:∀{k w:Nat},(∀w',w<=w'->w'<w+k->xJ ((offs r c.info.short).drop 1) (aM (xD c w')) 0 (zD c w'))->Kn r c k w
 |0,w,_=>trivial
 |k+1,w,h=>⟨h w (al _) o_,aey λw' h1 h2=>h w' o_ o_⟩
def arB {b:C_}{r:Nat}{c:cJ}(hr:r<=11)(hm:c.info.may r)(hS:ke c.info c.sects){n m:Nat}(hn:n<=b.length)(h:kF b (OE r c.info c.sects) n Z0=.ok c.lines m):Uq r c∧At b n m (oh r c)∧∀v∈c.lines,i64 v:=by
 have hm11:=gC hr hm;obtain⟨g1,g2⟩:=dV hm11;obtain⟨i1,i2,i3,i4⟩:=aah hn (by rw[bm]) (λp hp=>XQ hm hS hr hp) (auf hr hm hS) h;obtain⟨hw1,hw⟩:=Is c.info;have key:∀i v,c.lines[i]?=some v->v=0∨∃p∈OE r c.info c.sects,(p.2<=i∧i<p.2+bI p.1)∧v.natAbs<=jb p.1:=by
  intro i v hv;by_cases hp:∃p∈OE r c.info c.sects,p.2<=i∧i<p.2+bI p.1
  .obtain⟨p,h1,h2,h3⟩:=hp;refine .inr ⟨p,h1,⟨h2,h3⟩,(i3 p h1).2 v ?_⟩;refine dJ (i:=i-p.2) ?_;rw[UU o_,<-hv]
   congr 1
   omega
  .left;have:=i4 i (λp hp2 hh=>hp ⟨p,hp2,hh⟩);rw[hv]at this;have hi:=(aJ.1 hv).1;rw[jr,ac o_]at this;injection this
 refine⟨⟨i1,aey λw _ hwm=>aeF λx v hv=>?_⟩,i2,λv hv=>?_⟩
 .rw[bv]at hwm⊢;have hx:x<c.info.wide:=by
   have:=(aJ.1 hv).1;rw[zD,b7]at this;omega
  rw[zD,jC,ac hx,cf]at hv;rcases key _ _ hv with h0|⟨p,hp,⟨q1,q2⟩,q3⟩
  .exact .inl h0
  .right;obtain⟨w',g,j,l,e1,e2,e3,e4,e5,e6,y,e7,e8⟩:=Ng hS.2 (λn hn=>(g1 n hn).1) hp;obtain⟨p1,p2,p3⟩:=oQ (r,c.info.short) (fI o_);simp only at p1 p2 p3;have hl:=hS.2 l (dJ e1);have hbs:=GQ hl;have hjl:=(aJ.1 e5).1;have hmx:=hm.2.2.2.1;have hmy:sm r (decide (c.info.seq=2))=(offs r c.info.short).length-1:=rfl;have hj1:j+1<(offs r c.info.short).length:=o_;have hU:=asv hr c.info;have hu:=hU.up j hj1;have hxf:=OJ (d:=bI p.1) (by rcases E9 p.1 with h|h<;>omega) (by rcases E9 p.1 with h|h<;>rw[h]<;>omega) e7;have ho:nth (offs r c.info.short) (j+1)<=c.info.wide:=by
    have:=bH.1 p3 _ (jy hj1);simp only[decide_eq_true_eq]at this
    rwa [hw1]at this
   have hww:w'=w∧nth (offs r c.info.short) j<=x∧x<nth (offs r c.info.short) (j+1):=by
    rcases hw with ⟨a1,a2⟩|⟨a1,a2⟩<;>rw[a1]at q1 q2 ho hx<;>omega
   obtain⟨rfl,c1,c2⟩:=hww;have hba:=ajv (i:=x) (λj hj=>(hU.up j hj).1) hj1 c1 c2;have hsa:xD c w'=l:=by
    rw[xD,dh,show lH c.info.groups (w':Int)=g by rw[<-e4];congr 1,e1];rfl
   exact⟨p.1,by rw[hba,hsa,e5],o_,by simpa using q3⟩
 .obtain⟨i,hi,e⟩:=iC.1 hv;rcases key i v (by rw[bC hi,e]) with h0|⟨p,hp,_,q3⟩
  .omega
  .have:=auQ (XQ hm hS hr hp).1;omega
def ag0:∀{r t:G_}{w z:Int},dW r t w z≠none->r.length=t.length∧∀n∈t,-1<=n∧n<=511
 |[],[],_,_,_=>⟨rfl,s_⟩
 |[],_::_,_,_,h=>absurd rfl h
 |_::_,[],_,_,h=>absurd rfl h
 |k::r,v::t,w,z,h=>by
  obtain⟨c1,c2,c3⟩:=qu h;rw[c3]at h;obtain⟨i1,i2⟩:=ag0 h;refine⟨by rw[aq,aq,i1],λn hn=>?_⟩;rcases ay.1 hn with rfl|hn
  .by_cases h0:k=0
   .have:=c1 h0;omega
   .exact Su (c2 h0)
  .exact i2 n hn
def aeB:∀{g:H_}{t:J_}{w z:Int},mZ g t w z≠none->∀l∈t,∀n∈l,-1<=n∧n<=511
 |[],[],_,_,_=>by simp
 |[],_::_,_,_,h=>absurd rfl h
 |_::_,[],_,_,h=>absurd rfl h
 |l::r,t::s,w,z,h=>by
  rw[mZ]at h
  cases e:dW (aM l) t w z with
  |none=>rw[e]at h;exact absurd rfl h
  |some p =>
   rw[e]at h;intro q hq;rcases ay.1 hq with rfl|hq
   .exact(ag0 (by rw[e];simp)).2
   .exact aeB h q hq
abbrev KZ (v:Hd×G_):cJ:=⟨v.1.gain,v.1.inf,v.1.S,v.1.T,v.1.F,v.2⟩
def aA3 {o p:Nat}(ho:o<=1)(hp:p<=1)(h:Zw (o:Int) p=0):o=0∧p=0:=by
 unfold Zw at h;split at h<;>omega
def avH {b:C_}(hb:b.length<=1000000000){r:Nat}{i:aN}{q:Bool}(hr:r<=11)(hi:i.Fit){a:Int}{v:Hd×G_}{n:Nat}(h:Ds b a r q i=.ok v n) :
  ∃A:Nat,a=A∧(KZ v).Fit∧nB r (KZ v)∧At b A n (DK r (KZ v) q)∧(q=true->v.1.inf=i):=by
 unfold Ds at h;obtain⟨u0,n0,e0,g0⟩:=aS.1 h;clear h;have ha:=amT e0;obtain⟨A,rfl⟩:=aB ha;have f0:=(cx (s:=0) o_).1 e0;have f0':n0=A∧A<=b.length:=eg.1 f0.2;obtain⟨f0a,f0b⟩:=f0'
 cases f0a
 by_cases hm:q=true∧¬i.may r
 .rw[ac hm]at g0;exact absurd g0 (by simp)
 rw[aa hm]at g0;have hq:q=true->i.may r:=λh=>lx λh2=>hm ⟨h,h2⟩
 obtain⟨H,nH,eH,g1⟩:=aS.1 g0;clear g0;obtain⟨Z,nZ,eZ,g2⟩:=aS.1 g1;clear g1;by_cases hend:H.od=0∧(H.is=1->pb H.F=true)
 rotate_left
 .rw[aa hend]at g2;exact absurd g2 (by simp)
 rw[ac hend]at g2;injection g2 with h1 h2
 subst h1 h2;have hR:dY (r:Int):=o_;have pH:=(Qu b hb r hR q i hi _ (.inl rfl) (λh=>by rw[au];exact hq h) n0 o_ 0 0).2;rw[au]at pH;have p:=pH H nH eH;unfold C8 at eH;obtain⟨g,n1,e1,y1⟩:=aS.1 eH;clear eH;obtain⟨j,n2,e2,y2⟩:=aS.1 y1;clear y1;obtain⟨S,n3,e3,y3⟩:=aS.1 y2;clear y2;obtain⟨T,n4,e4,y4⟩:=aS.1 y3;clear y3;obtain⟨o,n5,e5,y5⟩:=aS.1 y4;clear y4;obtain⟨s,n6,e6,y6⟩:=aS.1 y5;clear y5;obtain⟨F,n7,e7,y7⟩:=aS.1 y6;clear y6;obtain⟨o2,n8,e8,y8⟩:=aS.1 y7;clear y7;injection y8 with k1 k2
 subst k1 k2;simp only at hend eZ p;have f1:=(cx (s:=8) o_).1 e1;have hjm:j.may r:=p.may;have hm11:=gC hr hjm;have f2:At b n1 n2 (if q then [] else lE j)∧(q=true->j=i):=by
  cases q with
  |true =>
   rw[ac rfl]at e2⊢;injection e2 with k1 k2
   subst k1 k2;exact⟨eg.2 ⟨rfl,(dB f1.2).2.1⟩,λ_=>rfl⟩
  |false =>
   rw[aa s_]at e2⊢;exact⟨((Qi hr).1 e2).2,λh=>absurd h s_⟩
 have f3:=(aaQ hm11 (dB f2.1).2.1).1 e3;have f4:=(aeL (dB f3.2).2.1 (λl hl=>adb (f3.1.2 l hl)) o_).1 e4;have f5:=aoP e5;have f6:=aoP e6;have f8:=aoP e8;have hoo:=aA3 f5.1 f8.1 hend.1;have hF:UI j F∧At b n4 n8 (if pb F then 0::1::(jF j.short F++[0]) else [0,0,0]):=by
  rw[hoo.1]at f5;rw[hoo.2]at f8;by_cases hs:s=1
  .rw[ac hs]at e7;have f7:=(ank (dB f6.2).2.1).1 e7;rw[hend.2 hs];rw[hs]at f6;exact⟨f7.1,aZ (X:=[0]) |>.2 ⟨n5,f5.2,aZ (X:=[1]) |>.2 ⟨n6,f6.2,aZ.2 ⟨n7,f7.2,f8.2⟩⟩⟩⟩
  .rw[aa hs]at e7;have hs0:s=0:=o_;injection e7 with k1 k2
   subst k1 k2;have han:pb (List.replicate j.many ([]:AA_))=false:=by
    rw[pb,nt];intro l hl;rw[da hl];simp
   rw[han];rw[hs0]at f6;exact⟨⟨by rw[bm],λl hl=>by rw[da hl];exact⟨dA _,s_⟩⟩,aZ (X:=[0]) |>.2 ⟨n5,f5.2,aZ (X:=[0]) |>.2 ⟨n6,f6.2,f8.2⟩⟩⟩
 have hg:=p.gain;simp only at hg;obtain⟨l1,l2,l3⟩:=arB (c:=⟨g,j,S,T,F,Z⟩) hr hjm f3.1 (dB hF.2).2.1 eZ;have hmx:=jY hm11;have hmm:=Aj j;obtain⟨q1,q2⟩:=dV hm11;have hgl:j.groups.length<=8:=by have:=nu (λn hn=>(q1 n hn).1);omega
 have hSl:S.length<=8:=by have:=f3.1.1;omega
 have hTl:T.length=S.length:=by have:=aT List.length p.T;simpa using this
 have hft:=p.fit;simp only at hft;refine⟨n0,rfl,?_,?_,?_,f2.2⟩
 .refine⟨by simp only[];omega,hft,⟨by simp only[];omega,λl hl=>by have:=p.Sl l hl;omega⟩,λl hl x hx=>?_,⟨by simp only[];omega,λl hl=>?_⟩,λl hl x hx=>by have:=aeB f4.1 l hl x hx;omega,⟨by have:=hF.1.1;simp only[];omega,λl hl=>by have:=p.F.2 l hl;exact⟨o_,λf hf=>by have:=this.2 f hf;omega⟩⟩,λl hl f hf=>?_,by have:=l1.1;simp only[]at this⊢;omega,l3⟩
  .have:=uv (f3.1.2 l hl) o_ x hx;have a1:=this.1;have a2:=this.2;omega
  .have h1:l.length∈T.map List.length:=dy.2 ⟨l,hl,rfl⟩;rw[show T.map List.length=S.map (λl=>(aM l).length) from p.T]at h1;obtain⟨x,hx,e⟩:=dy.1 h1;have:=GQ (f3.1.2 x hx);omega
  .have hw:=hF.1.2 l hl
   cases l with
   |nil=>exact absurd hf (by simp)
   |cons f0 lr =>
    have:=(hw.2 f0 rfl f hf).1;obtain⟨⟨b1,b2⟩,⟨b3,b4⟩,_,_,b5⟩:=this;have lf:Bu j.short<=63:=by cases j.short<;>decide
    have of:xE j.short<=12:=by cases j.short<;>decide
    refine⟨o_,λx hx=>?_⟩;have:=b5 x hx;have hh:dM f.fine<=8∧4<=dM f.fine:=by cases f.fine<;>decide
    omega
 .exact⟨by simp only[];omega,hjm,f3.1,f4.1,hF.1,l1⟩
 .exact aZ.2 ⟨n1,by simpa using f1.2,aZ.2 ⟨n2,f2.1,aZ.2 ⟨n3,f3.2,aZ.2 ⟨n4,f4.2,aZ.2 ⟨n8,hF.2,l2⟩⟩⟩⟩⟩
def Be {t:Ty}:∀{ds:W_},OkDs [t] ds->∃d,ds=[d]∧tk t d
 |[],h=>by simp[OkDs]at h
 |[d],h=>⟨d,rfl,by simpa [OkDs] using h⟩
 |_::_::_,h=>by simp[OkDs]at h
def sH {t:Ty}{ts:BG_}:∀{ds:W_},OkDs (t::ts) ds->∃d r,ds=d::r∧tk t d∧OkDs ts r
 |[],h=>by simp[OkDs]at h
 |d::r,h=>⟨d,r,rfl,by simpa only[OkDs] using h⟩
def aro {k:IntKind}:∀{d:D},tk (.int k) d->∃n,d=.int k n∧(Lit.int k n).wf=true
 |.int j n,h=>by
  simp only[tk]at h;obtain⟨rfl,h⟩:=h;exact⟨n,rfl,h⟩
 |.bool _,h=>by simp[tk]at h
 |.str _,h=>by simp[tk]at h
 |.lst _,h=>by simp[tk]at h
def qM {d:D}(h:tk (.int .i64) d):∃n,d=.int .i64 n∧i64 n:=by
 obtain⟨n,e,h⟩:=aro h;refine⟨n,e,?_⟩;simp[Lit.wf,IntKind.min,IntKind.max,IntKind.signed,IntKind.bits]at h;omega
def apt {d:D}(h:tk (.int .u8) d):∃n:Nat,d=.int .u8 n∧n<=255:=by
 obtain⟨n,e,h⟩:=aro h;simp[Lit.wf,IntKind.min,IntKind.max,IntKind.signed,IntKind.bits]at h;refine⟨n.toNat,?_,o_⟩;rw[e,qk h.1]
def NV:∀{d:D},tk .bool d->∃b,d=.bool b
 |.bool b,_=>⟨b,rfl⟩
 |.int _ _,h=>by simp[tk]at h
 |.str _,h=>by simp[tk]at h
 |.lst _,h=>by simp[tk]at h
def JN {es:BG_}:∀{d:D},tk (.lst es) d->∃xs,d=.lst xs∧∀x∈xs,OkDs es x
 |.lst xs,h=>⟨xs,rfl,by simpa only[tk] using h⟩
 |.int _ _,h=>by simp[tk]at h
 |.str _,h=>by simp[tk]at h
 |.bool _,h=>by simp[tk]at h
def Bw {α:Type}{es:BG_}{f:α->W_}{Q:α->Prop}(h1:∀x,OkDs es x->∃a,x=f a∧Q a):∀{xs:E_},(∀x∈xs,OkDs es x)->∃l:List α,xs=l.map f∧∀a∈l,Q a
 |[],_=>⟨[],rfl,s_⟩
 |x::r,h=>by
  obtain⟨a,rfl,ha⟩:=h1 x (h x (.head _));obtain⟨l,rfl,hl⟩:=Bw h1 (xs:=r) λy hy=>h y (.tail _ hy)
  exact⟨a::l,rfl,λb hb=>(ay.1 hb).elim (λe=>e▸ha) (hl b)⟩
def ab9 {d:D}(h:tk (.lst [.int .i64]) d):∃ns,d=.lst (aH ns)∧∀n∈ns,i64 n:=by
 obtain⟨xs,rfl,h⟩:=JN h;obtain⟨l,rfl,hl⟩:=Bw (f:=λn=>[.int .i64 n]) (Q:=i64) (λx hx=>by
  obtain⟨d,rfl,hd⟩:=Be hx;obtain⟨n,rfl,hn⟩:=qM hd;exact⟨n,rfl,hn⟩) h
 exact⟨l,rfl,hl⟩
def av8:BG_:=[.int .i64,.int .i64]
def awE:BG_:=[.int .i64,.int .i64,.bool,.bool,.lst [.int .i64]]
def awn:BG_:=[.int .i64,.int .u8,.int .u8,.int .i64,.lst [.int .i64],.lst [.lst av8],.lst [.lst [.int .i64]],.lst [.lst awE],.lst [.int .i64]]
def az3 {x:W_}(h:OkDs av8 x):∃s:aU,x=s.cells∧i64 s.book∧i64 s.len:=by
 obtain⟨a,r,rfl,ha,h⟩:=sH h;obtain⟨b,rfl,hb⟩:=Be h;obtain⟨n,rfl,hn⟩:=qM ha;obtain⟨m,rfl,hm⟩:=qM hb;exact⟨⟨n,m⟩,rfl,hn,hm⟩
def aBq {x:W_}(h:OkDs awE x):∃f:b6,x=f.cells∧(i64 f.len∧i64 f.order)∧∀y∈f.coefs,i64 y:=by
 obtain⟨a,r,rfl,ha,h⟩:=sH h;obtain⟨b,r,rfl,hb,h⟩:=sH h;obtain⟨c,r,rfl,hc,h⟩:=sH h;obtain⟨d,r,rfl,hd,h⟩:=sH h;obtain⟨e,rfl,he⟩:=Be h;obtain⟨n,rfl,hn⟩:=qM ha;obtain⟨m,rfl,hm⟩:=qM hb;obtain⟨p,rfl⟩:=NV hc;obtain⟨q,rfl⟩:=NV hd;obtain⟨l,rfl,hl⟩:=ab9 he;exact⟨⟨n,m,p,q,l⟩,rfl,⟨hn,hm⟩,hl⟩
def acL {α:Type}{es:BG_}{f:α->W_}{Q:α->Prop}(h1:∀x,OkDs es x->∃a,x=f a∧Q a){d:D}(h:tk (.lst [.lst es]) d):∃l:List (List α),d=.lst (l.map λr=>[.lst (r.map f)])∧∀r∈l,∀a∈r,Q a:=by
 obtain⟨xs,rfl,h⟩:=JN h;obtain⟨l,rfl,hl⟩:=Bw (f:=λr:List α=>[.lst (r.map f)]) (Q:=λr=>∀a∈r,Q a) (λx hx=>by
  obtain⟨d,rfl,hd⟩:=Be hx;obtain⟨xs,rfl,h⟩:=JN hd;obtain⟨r,rfl,hr⟩:=Bw h1 h;exact⟨r,rfl,hr⟩) h
 exact⟨l,rfl,hl⟩
structure cJ.Rng (c:cJ):Prop where
 gain:i64 c.gain
 seq:c.info.seq<=255
 shape:c.info.shape<=255
 max:i64 c.info.max
 groups:∀n∈c.info.groups,i64 n
 secI:∀l∈c.sects,∀s∈l,i64 s.book∧i64 s.len
 stepI:∀l∈c.steps,∀n∈l,i64 n
 fltI:∀l∈c.tns,∀f∈l,(i64 f.len∧i64 f.order)∧∀x∈f.coefs,i64 x
 lineI:∀n∈c.lines,i64 n
def azW {x:W_}(h:OkDs awn x):∃c:cJ,x.map .d=c.av∧c.Rng:=by
 obtain⟨a1,r,rfl,h1,h⟩:=sH h;obtain⟨a2,r,rfl,h2,h⟩:=sH h;obtain⟨a3,r,rfl,h3,h⟩:=sH h;obtain⟨a4,r,rfl,h4,h⟩:=sH h;obtain⟨a5,r,rfl,h5,h⟩:=sH h;obtain⟨a6,r,rfl,h6,h⟩:=sH h;obtain⟨a7,r,rfl,h7,h⟩:=sH h;obtain⟨a8,r,rfl,h8,h⟩:=sH h;obtain⟨a9,rfl,h9⟩:=Be h;obtain⟨n1,rfl,g1⟩:=qM h1;obtain⟨n2,rfl,g2⟩:=apt h2;obtain⟨n3,rfl,g3⟩:=apt h3;obtain⟨n4,rfl,g4⟩:=qM h4;obtain⟨l5,rfl,g5⟩:=ab9 h5;obtain⟨l6,rfl,g6⟩:=acL (f:=aU.cells) (λx hx=>az3 hx) h6;obtain⟨l7,rfl,g7⟩:=acL (f:=λn=>[.int .i64 n]) (Q:=i64) (λx hx=>by
  obtain⟨d,rfl,hd⟩:=Be hx;obtain⟨n,rfl,hn⟩:=qM hd;exact⟨n,rfl,hn⟩) h7
 obtain⟨l8,rfl,g8⟩:=acL (f:=b6.cells) (λx hx=>aBq hx) h8;obtain⟨l9,rfl,g9⟩:=ab9 h9;exact⟨⟨n1,⟨n2,n3,n4,l5⟩,l6,l7,l8,l9⟩,rfl,g1,g2,g3,g4,g5,g6,g7,g8,g9⟩
def cJ.Rng.fit {c:cJ}(h:c.Rng)(s:agR c):c.Fit where
 gain:=h.gain
 info:=⟨h.seq,h.shape,h.max,by have:=s.groups;omega,h.groups⟩
 sects:=⟨by have:=s.sects.1;omega,λl hl=>by have:=s.sects.2 l hl;omega⟩
 secI:=h.secI
 steps:=⟨by have:=s.steps.1;omega,λl hl=>by have:=s.steps.2 l hl;omega⟩
 stepI:=h.stepI
 tns:=⟨by have:=s.tns.1;omega,λl hl=>⟨by have:=(s.tns.2 l hl).1;omega,λf hf=>by have:=(s.tns.2 l hl).2 f hf;omega⟩⟩
 fltI:=h.fltI
 lines:=by have:=s.lines;omega
 lineI:=h.lineI
abbrev fY (C F I:D_)(T:am)(c:D_):am:=(0,.cells C)::(1,.cells F)::(2,.cells c)::(3,.cells I)::T
def aoC (C F I:D_)(T:am):Hr (fY C F I T) 2:=⟨λc=>by simp,λc d=>by simp⟩
def mj (b:C_):Nat->Nat×Nat->U_×Nat×Nat
 |0,s=>([],s)
 |k+1,s=>(decide ((gT b s 1).1=1)::(mj b k (gT b s 1).2).1,(mj b k (gT b s 1).2).2)
def ahs {b:C_}:∀{k:Nat}{s:Nat×Nat},(mj b k s).1.length=k
 |0,_=>rfl
 |k+1,s=>by rw[mj,aq,ahs]
def anI {b:C_}:∀{k:Nat}{s:Nat×Nat},s.1<=b.length->(mj b k s).2.1<=b.length
 |0,_,h=>h
 |k+1,s,h=>anI (k:=k) (s:=(gT b s 1).2) (r7 h)
def aew {b:C_}:∀{k:Nat}{s:Nat×Nat},s.2≠0->(mj b k s).2=s
 |0,_,h=>rfl
 |k+1,s,h=>by rw[mj];simp only[vS h];exact aew h
def IF (b:C_):Nat->Nat->R U_
 |0,a=>.ok [] a
 |k+1,a=>(bf b a 1).bind λx n=>(IF b k n).bind λl m=>.ok (decide (x=1)::l) m
def aqN {b:C_}:∀{k a:Nat},Lk (IF b k a) (λl=>(mj b k (a,0)).1=l) (mj b k (a,0)).2
 |0,a=>⟨rfl,rfl⟩
 |k+1,a=>by
  rw[IF,mj]
  cases e:bf b a 1 with
  |er q =>
   rw[AE e];simp only;rw[aew (bz _)];exact rfl
  |ok x n =>
   rw[pB e,az];have h:=aqN (b:=b) (k:=k) (a:=n)
   cases e2:IF b k n with
   |er q=>rw[e2]at h;exact h
   |ok l m=>rw[e2]at h;exact⟨by rw[h.1],h.2⟩
def axU {l:U_}{i:Nat}{x:Bool}:(gX l).set i [.bool x]=gX (l.set i x):=by simp[gX,mg]
def azf (b:C_)(hb:b.length<=1000000000)(C F I:D_)(mx:Nat)(hm:mx<=1000)(N:Nat)(hN:4<=N)(y104 y105:D):∀(k i:Nat) (acc:U_) (s:Nat×Nat),i+k=mx->acc.length=i->s.1<=b.length->
  (Dn prog).code (.loop AQ) ⟨[(2,.ptr 0 0),(4,.ptr 1 0),(6,.ptr 2 0),(7,.ptr 3 0),(8,.sl N 0 mx),(104,.d y104),(105,.d y105),(121,A_ mx),(122,A_ i)],⟨fY C F I [(N,.arr 1 (gX (acc++List.replicate k false)))] (cU b s),N+1⟩⟩ =
  some (.exit 3,⟨[(2,.ptr 0 0),(4,.ptr 1 0),(6,.ptr 2 0),(7,.ptr 3 0),(8,.sl N 0 mx),(104,.d y104),(105,.d y105)],⟨fY C F I [(N,.arr 1 (gX (acc++(mj b k s).1)))] (cU b (mj b k s).2),N+1⟩⟩):=by
 intro k
 induction k with
 |zero =>
  intro i acc s hi hl hs;have:i=mx:=o_;subst this;rw[ah Rk,mj];simp(maxSteps:=300000) (disch:=omega)[↓ac,↓aa]
 |succ k ih =>
  intro i acc s hi hl hs;have h1:=gm (aoC C F I [(N,.arr 1 (gX (acc++List.replicate (k+1) false)))]) b hb s hs 1 (N+1);have h5:=λx=>ih (i+1) (acc++[x]) (gT b s 1).2 o_ g_ (r7 hs)
  have c1:((i+1:Nat):Int)=(i:Int)+1:=rfl;have hset:∀x:Bool,(gX (acc++List.replicate (k+1) false)).set i [.bool x]=gX (acc++[x]++List.replicate k false):=λx=>by
   rw[axU,<-hl,cL,U6,aA];rfl
  have hget:(gX (acc++List.replicate (k+1) false))[i]?=some [.bool false]:=by
   rw[gX,b8,bZ o_,hl,uG,cL];rfl
  rw[c1]at h5;rw[mj];generalize gT b s 1=g at *;obtain⟨x,s1⟩:=g;simp only at h1 h5⊢;have h5:=h5 (decide (x=1));have hset:=hset (decide (x=1));have e:acc++decide (x=1)::(mj b k s1).1=acc++[decide (x=1)]++(mj b k s1).1:=s_;rw[e,ah Rk,<-h5];have n0:N≠0∧N≠1∧N≠2∧N≠3:=o_;simp only[fY,cU]at h1⊢;generalize gX (acc++List.replicate (k+1) false)=Z at *;by_cases hx:x=1
  .rw[decide_eq_true hx]at hset⊢;have hx2:(x:Int)=1:=o_;simp(maxSteps:=300000) (disch:=omega)[↓ac,↓aa,h1,hget,hset,hx2,n0]
  .rw[decide_eq_false hx]at hset⊢;have hx2:¬(x:Int)=1:=o_;simp(maxSteps:=300000) (disch:=omega)[↓ac,↓aa,h1,hget,hset,hx2,n0]
@[simp ↓] def aIb {β:Type}{P:Nat->Z_}{i:Nat}{e:aW}{h:am}{m:Nat}{k:AV->aW->HS->Option β}:bR P (.frz i) e ⟨h,m⟩ k=bA (get e i) λv=>k (.tup []) (put e i (Aa h v).1) ⟨(Aa h v).2,m⟩:=by
 rw[Kq];show gz (Y6 i ⟨e,⟨h,m⟩⟩) k=_;unfold Y6;simp only[]
 cases get e i<;>rfl
def avy (o:Option Obj)(h:am)(id off len:Nat):AV×am :=
 match o with
 |some (.arr m xs)=>if off+len<=xs.length then (.own false m (sub xs off len),del h id) else (.sl id off len,h)
 |_=>(.sl id off len,h)
@[simp] def aI6 {h:am}{id off len:Nat}:Aa h (.sl id off len)=avy (get h id) h id off len:=by
 simp only[Aa,avy]
 cases get h id with
 |none=>rfl
 |some o =>
  cases o with
  |arr m xs =>
   simp only[];by_cases hl:off+len<=xs.length
   .rw[ac hl,show Nat.ble (off+len) xs.length=true by rw[bp];exact hl]
   .rw[aa hl,show Nat.ble (off+len) xs.length=false from Bool.eq_false_iff.2 λh=>hl (by rwa [bp]at h)]
  |cells=>rfl
  |loop=>rfl
@[simp ↓] def aJx {m:Nat}{xs:E_}{h:am}{id off len:Nat}:avy (some (.arr m xs)) h id off len=if off+len<=xs.length then (.own false m (sub xs off len),del h id) else (.sl id off len,h):=(rfl)
def xx (b:C_)(mx:Nat):Nat->Nat->R S_
 |0,a=>.ok [] a
 |g+1,a=>(IF b mx a).bind λl n=>(xx b mx g n).bind λt m=>.ok (l::t) m
abbrev Lb (g j:Int):aW:=[(2,.ptr 0 0),(4,.ptr 1 0),(6,.ptr 2 0),(7,.ptr 3 0),(104,A_ g),(105,A_ j)]
abbrev Vs:aW:=[(2,.ptr 0 0),(4,.ptr 1 0),(6,.ptr 2 0),(7,.ptr 3 0)]
section
variable (b:C_)(hb:b.length<=1000000000)(C:D_)(f0 f1 f4:AV)(i0 i1 i3:AV)(mx:Nat)(hm:mx<=1000)
theorem L0 (F I:D_)(s:Nat×Nat)(g:Int)(N:Nat) :
  (Dn prog).code (.loop fO) ⟨Lb g g,⟨fY C F I [] (cU b s),N⟩⟩=some (.exit 1,⟨Vs,⟨fY C F I [] (cU b s),N⟩⟩):=by
 rw[ah Hs];simp(maxSteps:=300000) (disch:=omega)[↓ac,↓aa]
theorem V8 (f3:AV)(I:D_)(s:Nat×Nat)(mk:Int)(g j:Int)(hj:j<g)(h:mk≠1∨s.2≠0)(N:Nat) :
  (Dn prog).code (.loop fO) ⟨Lb g j,⟨fY C [f0,f1,A_ mk,f3,f4] I [] (cU b s),N⟩⟩=some (.exit 1,⟨Vs,⟨fY C [f0,f1,A_ mk,f3,f4] I [] (cU b s),N⟩⟩):=by
 obtain⟨a,e⟩:=s;rw[ah Hs];simp only[fY,cU];by_cases hk:mk=1
 .have he:e≠0:=h.resolve_left (λh=>h hk);subst hk;simp(maxSteps:=300000) (disch:=omega)[↓ac,↓aa,he]
 .simp(maxSteps:=300000) (disch:=omega)[↓ac,↓aa,hk]
include hb hm
theorem aiv (a:Nat)(ha:a<=b.length)(acc:S_)(hacc:acc.length<=1000)(g j:Nat)(hj:j<g)(hg:g<=1000)(N:Nat)(hN:4<=N) :
  (Dn prog).code (.loop fO) ⟨Lb g j,⟨fY C [f0,f1,A_ 1,aG 1 (dj acc),f4] [i0,i1,A_ mx,i3] [] (cU b (a,0)),N⟩⟩ =
  (Dn prog).code (.loop fO) ⟨Lb g (j+1:Nat),⟨fY C [f0,f1,A_ 1,aG 1 (dj (acc++[(mj b mx (a,0)).1])),f4] [i0,i1,A_ mx,i3] [] (cU b (mj b mx (a,0)).2),N+1⟩⟩:=by
 have h1:=azf b hb C [f0,f1,A_ 1,aG 1 (dj acc),f4] [i0,i1,A_ mx,i3] mx hm N hN (.int .i64 g) (.int .i64 j) mx 0 [] (a,0) o_ rfl ha;have hk:=Fs (z:=[.bool false]) (n:=mx) o_;rw[azw]at hk;have c1:((j+1:Nat):Int)=(j:Int)+1:=rfl;have c0:((0:Nat):Int)=0:=rfl;have hl:(mj b mx (a,0)).1.length=mx:=ahs;have hrl:(gX (List.replicate mx false)).length=mx:=by rw[tz,bm]
 have hbl:(gX (mj b mx (a,0)).1).length=mx:=by rw[tz,hl]
 have ht:List.take mx (gX (mj b mx (a,0)).1)=gX (mj b mx (a,0)).1:=ck o_;have hA:(dj acc).length=acc.length:=KE;have e:aG 1 (dj (acc++[(mj b mx (a,0)).1]))=.own false 1 (dj acc++[[.lst (gX (mj b mx (a,0)).1)]]):=by rw[arE,oM]
 have n0:N≠0∧N≠1∧N≠2∧N≠3:=o_;rw[c1,e];simp only[aK,cU,fY,c0]at h1⊢;generalize mj b mx (a,0)=r at *;obtain⟨l,s⟩:=r;simp only at *;generalize gX (List.replicate mx false)=Z at *;generalize gX l=B at *;generalize dj acc=A at *;rw[ah Hs]
 cases A with
 |nil=>simp(maxSteps:=300000) (disch:=omega)[↓ac,↓aa,hk,h1,hrl,hbl,ht,n0]
 |cons y r=>simp(maxSteps:=300000) (disch:=omega)[↓ac,↓aa,hk,h1,hrl,hbl,ht,n0]
theorem anU (g:Nat)(hg:g<=1000):∀(c j a:Nat) (acc:S_) (N:Nat),j+c=g->acc.length=j->a<=b.length->4<=N->
  ∃(w:S_) (s:Nat×Nat) (M:Nat),4<=M∧s.1<=b.length∧Lk (xx b mx c a) (λt=>w=acc++t) s∧
  (Dn prog).code (.loop fO) ⟨Lb g j,⟨fY C [f0,f1,A_ 1,aG 1 (dj acc),f4] [i0,i1,A_ mx,i3] [] (cU b (a,0)),N⟩⟩ =
  some (.exit 1,⟨Vs,⟨fY C [f0,f1,A_ 1,aG 1 (dj w),f4] [i0,i1,A_ mx,i3] [] (cU b s),M⟩⟩):=by
 intro c
 induction c with
 |zero =>
  intro j a acc N hj hl ha hN;obtain rfl:j=g:=o_;exact⟨acc,(a,0),N,hN,ha,⟨s_,rfl⟩,L0 b C _ _ _ _ _⟩
 |succ c ih =>
  intro j a acc N hj hl ha hN;rw[aiv b hb C f0 f1 f4 i0 i1 i3 mx hm a ha acc o_ g j o_ hg N hN,xx];have hr:=aqN (b:=b) (k:=mx) (a:=a);have hle:(mj b mx (a,0)).2.1<=b.length:=anI ha;generalize mj b mx (a,0)=r at *;obtain⟨l,s⟩:=r
  cases e:IF b mx a with
  |ok l2 n =>
   rw[e]at hr;obtain⟨h1,h2⟩:=hr;simp only at h1 h2 hle;subst h1 h2;obtain⟨w,s6,M,k1,k2,k3,k4⟩:=ih (j+1) n (acc++[l]) (N+1) o_ g_ hle o_;refine⟨w,s6,M,k1,k2,?_,k4⟩;rw[az]
   cases e2:xx b mx c n with
   |er q=>rw[e2]at k3;exact k3
   |ok t q=>rw[e2]at k3;exact⟨by rw[k3.1,aA];rfl,k3.2⟩
  |er e0 =>
   rw[e]at hr;have hd:s.2=e0+1:=hr;refine⟨acc++[l],s,N+1,o_,hle,hd,?_⟩;by_cases hc:c=0
   .have:j+1=g:=o_;rw[this];exact L0 b C _ _ _ _ _
   .exact V8 b C f0 f1 f4 _ _ s 1 g (j+1:Nat) o_ (.inr o_) _
theorem asP (g:Nat)(hg:g<=1000)(k:Nat)(s:Nat×Nat)(hs:s.1<=b.length)(N:Nat)(hN:4<=N) :
  ∃(w:S_) (s6:Nat×Nat) (M:Nat),4<=M∧s6.1<=b.length∧(s.2=0->Lk (if k=1 then xx b mx g s.1 else .ok [] s.1) (λt=>w=t) s6)∧(s.2≠0->s6=s)∧
  (Dn prog).code (.loop fO) ⟨Lb g 0,⟨fY C [f0,f1,A_ k,.nl,f4] [i0,i1,A_ mx,i3] [] (cU b s),N⟩⟩ =
  some (.exit 1,⟨Vs,⟨fY C [f0,f1,A_ k,aG 1 (dj w),f4] [i0,i1,A_ mx,i3] [] (cU b s6),M⟩⟩):=by
 have e0:aG 1 (dj [])=.nl:=rfl;obtain⟨a,e⟩:=s;by_cases h:k=1∧e=0
 .obtain⟨rfl,rfl⟩:=h;obtain⟨w,s6,M,k1,k2,k3,k4⟩:=anU b hb C f0 f1 f4 i0 i1 i3 mx hm g hg g 0 a [] N o_ rfl hs hN;rw[e0]at k4;exact⟨w,s6,M,k1,k2,λ_=>by simpa using k3,λh=>absurd rfl h,k4⟩
 .refine⟨[],(a,e),N,hN,hs,λhe=>?_,λ_=>rfl,?_⟩
  .rw[aa (λhk=>h ⟨hk,he⟩)];exact⟨rfl,by rw[show e=0 from he]⟩
  .rw[e0];by_cases hg0:g=0
   .subst hg0;exact L0 b C _ _ _ _ _
   .exact V8 b C f0 f1 f4 _ _ (a,e) k g 0 o_ t_ _
end
def tf (b:C_)(r:Nat)(q:Bool)(i:aN):Nat->Nat->R AH_
 |0,a=>.ok [] a
 |k+1,a=>(Ds b a r q i).bind λv n=>(tf b r q i k n).bind λl m=>.ok (KZ v::l) m
abbrev CM (n i:Int):aW:=[(2,.ptr 0 0),(4,.ptr 1 0),(6,.ptr 2 0),(7,.ptr 3 0),(140,A_ n),(141,A_ i)]
abbrev zF:D_:=[.nl,B_ false,A_ 0,.nl,.nl]
def apZ (q:Bool)(i:aN)(I iv:D_):Prop:=(I=[.d (.int .u8 i.seq),.d (.int .u8 i.shape),A_ i.max,.own false 1 (aH i.groups)]∧iv=i.cells)∨(I=zI∧q=false∧iv=zI)
section
variable (b:C_)(hb:b.length<=1000000000)
theorem ak7 (C F I:D_)(s:Nat×Nat)(n:Int)(N:Nat)(hN:4<=N) :
  (Dn prog).code (.loop fA) ⟨CM n n,⟨fY C F I [] (cU b s),N⟩⟩=some (.exit 5,⟨[(4,.ptr 1 0),(6,.ptr 2 0)],⟨[(1,.cells F),(2,.cells (cU b s))],N⟩⟩):=by
 rw[ah AH];simp(maxSteps:=300000) (disch:=omega)[↓ac,↓aa]
theorem aj9 (C I:D_)(f0 f1 f2 f3 f4:AV)(s:Nat×Nat)(hs:s.2≠0)(n i:Int)(hi:i<n)(N:Nat) :
  (Dn prog).code (.loop fA) ⟨CM n i,⟨fY C [f0,f1,f2,f3,f4] I [] (cU b s),N⟩⟩=some (.ret,⟨[(4,.ptr 1 0),(5,A_ s.2)],⟨[(1,.cells zF),(2,.cells (cU b s))],N⟩⟩):=by
 obtain⟨a,e⟩:=s;simp only at hs;rw[ah AH];simp only[fY,cU];simp(maxSteps:=300000) (disch:=omega)[↓ac,↓aa,hs]
include hb
theorem ajc (r:Nat)(hr:r<=11)(q:Bool)(i:aN)(hi:i.Fit)(I iv:D_)(hI:apZ q i I iv)(c1 c2 c3 f2 f3 f4:AV)(a:Nat)(ha:a<=b.length)(acc:AH_)(hacc:acc.length<=100)(v:Hd×G_)(m:Nat)(hv:Ds b a r q i=.ok v m)(n j:Nat)(hj:j<n)(hn:n<=2)(N:Nat)(hN:4<=N) :
  (Dn prog).code (.loop fA) ⟨CM n j,⟨fY [A_ r,c1,c2,c3] [aG 9 (dH acc),B_ q,f2,f3,f4] I [] (cU b (a,0)),N⟩⟩ =
  (Dn prog).code (.loop fA) ⟨CM n (j+1:Nat),⟨fY [A_ r,c1,c2,c3] [aG 9 (dH (acc++[KZ v])),B_ q,f2,f3,f4] I [] (cU b (m,0)),N+1⟩⟩:=by
 have hiv:iv=i.cells∨q=false∧iv=zI:=hI.imp And.right λh=>⟨h.2.1,h.2.2⟩
 have hG:=amE b hb a o_ r hr q i hi iv hiv;rw[hv]at hG;have cj:((j+1:Nat):Int)=(j:Int)+1:=rfl;have c0:((0:Nat):Int)=0:=rfl;have hA:(dH acc).length=acc.length:=Eq;have e:aG 9 (dH (acc++[KZ v]))=.own false 9 (dH acc++[[.int .i64 v.1.gain,.int .u8 v.1.inf.seq,.int .u8 v.1.inf.shape,.int .i64 v.1.inf.max,.lst (aH v.1.inf.groups),.lst (bF v.1.S),.lst (cZ v.1.T),.lst (cT v.1.F),.lst (aH v.2)]]):=by rw[asm,oM]
 have n0:N≠0∧N≠1∧N≠2∧N≠3:=o_;rw[cj,e];simp only[cU,fY,c0,atn,UD]at hG⊢;generalize dH acc=A at *;generalize aH v.2=Z at *;rcases hI with ⟨rfl,rfl⟩|⟨rfl,rfl,rfl⟩
 all_goals
  simp only[aN.cells,zI]at hG⊢;rw[ah AH]
  cases A with
  |nil=>simp(maxSteps:=300000) (disch:=omega)[↓ac,↓aa,hG,n0]
  |cons y w=>simp(maxSteps:=300000) (disch:=omega)[↓ac,↓aa,hG,n0]
theorem aod (r:Nat)(hr:r<=11)(q:Bool)(i:aN)(hi:i.Fit)(I iv:D_)(hI:apZ q i I iv)(c1 c2 c3 f0 f2 f3 f4:AV)(a:Nat)(ha:a<=b.length)(e:Nat)(hv:Ds b a r q i=.er e)(n j:Nat)(hj:j<n)(hn:n<=2)(N:Nat)(hN:4<=N) :
  (Dn prog).code (.loop fA) ⟨CM n j,⟨fY [A_ r,c1,c2,c3] [f0,B_ q,f2,f3,f4] I [] (cU b (a,0)),N⟩⟩ =
  some (.ret,⟨[(4,.ptr 1 0),(5,A_ ((e+1:Nat):Int))],⟨[(1,.cells zF),(2,.cells (cU b (0,e+1)))],N+1⟩⟩):=by
 have hiv:iv=i.cells∨q=false∧iv=zI:=hI.imp And.right λh=>⟨h.2.1,h.2.2⟩
 have hG:=amE b hb a o_ r hr q i hi iv hiv;rw[hv]at hG;have ce:((e+1:Nat):Int)=(e:Int)+1:=rfl;have c0:((0:Nat):Int)=0:=rfl;have n0:N≠0∧N≠1∧N≠2∧N≠3:=o_;have e1:¬((e:Int)+1=0):=o_;simp only[cU,fY,c0,ce,atn,Cz]at hG⊢;rcases hI with ⟨rfl,rfl⟩|⟨rfl,rfl,rfl⟩
 all_goals
  simp only[aN.cells,zI]at hG⊢;rw[ah AH];simp(maxSteps:=300000) (disch:=omega)[↓ac,↓aa,hG,n0,e1]
end
def atN (w:C_)(hw:w.length<=1000000000)(N:Nat):∀(r:C_) (i:Nat),w.drop i=r->
  (1∉r->(Dn prog).code (.loop jm) ⟨[(0,.d (.lst (ai w))),(1,.d (.int .u8 1)),(7,A_ w.length),(8,A_ i)],⟨[],N⟩⟩=some (.exit 0,⟨[],⟨[],N⟩⟩))∧
  (1∈r->∃k:Nat,(Dn prog).code (.loop jm) ⟨[(0,.d (.lst (ai w))),(1,.d (.int .u8 1)),(7,A_ w.length),(8,A_ i)],⟨[],N⟩⟩=some (.ret,⟨[(4,A_ k)],⟨[],N⟩⟩)):=by
 intro r
 induction r with
 |nil =>
  intro i hd;have hi:=aY hd;refine⟨λ_=>?_,λh=>absurd h s_⟩;rw[ah zi];simp(maxSteps:=300000) (disch:=omega)[↓ac,↓aa]
 |cons x r ih =>
  intro i hd;have hlt:=bw hd;have hg:(ai w)[i]?=some [.int .u8 x]:=by
   have:=aT (λl=>l[0]?) hd;simp only[cf,b9,dX]at this;rw[ai,b8,this];rfl
  have h5:=ih (i+1) (bu hd);have c1:((i+1:Nat):Int)=(i:Int)+1:=rfl;rw[c1]at h5;rw[ah zi];generalize ai w=W at *;by_cases hx:x=1
  .refine⟨λh=>absurd (by rw[hx];exact .head _) h,λ_=>⟨i,?_⟩⟩;have hx2:(1:Int)=(x:Int):=o_;simp(maxSteps:=300000) (disch:=omega)[↓ac,↓aa,hg,<-hx2]
  .have hx2:¬(1:Int)=(x:Int):=o_;refine⟨λh=>?_,λh=>?_⟩
   .rw[<-h5.1 λh2=>h (.tail _ h2)];simp(maxSteps:=300000) (disch:=omega)[↓ac,↓aa,hg,hx2]
   .obtain⟨k,hk⟩:=h5.2 (by
    rcases ay.1 h with h|h
    .exact absurd h.symm hx
    .exact h)
    refine⟨k,?_⟩;rw[<-hk];simp(maxSteps:=300000) (disch:=omega)[↓ac,↓aa,hg,hx2]
def aoM (w:C_)(hw:w.length<=1000000000):bh prog qe [.d (.lst (ai w)),.d (.int .u8 1)]=some (B_ (decide (1∈w))):=by
 obtain⟨h1,h2⟩:=atN w hw 0 w 0 rfl;have hl:=bx (l:=w);have c0:((0:Nat):Int)=0:=rfl;rw[c0]at h1 h2;by_cases h:1∈w
 .obtain⟨k,hk⟩:=h2 h;have hI:bh prog uS [.d (.lst (ai w)),.d (.int .u8 1)]=some (A_ k):=by
   rw[aD DL De rfl];generalize ai w=W at *;simp(maxSteps:=300000) (disch:=omega)[↓ac,↓aa,hl,hk]
  rw[decide_eq_true h,aD zo zh rfl];simp(maxSteps:=300000) (disch:=omega)[↓ac,↓aa,hI]
 .have hk:=h1 h;have hI:bh prog uS [.d (.lst (ai w)),.d (.int .u8 1)]=some (A_ (-1)):=by
   rw[aD DL De rfl];generalize ai w=W at *;simp(maxSteps:=300000) (disch:=omega)[↓ac,↓aa,hl,hk]
  rw[decide_eq_false h,aD zo zh rfl];simp(maxSteps:=300000) (disch:=omega)[↓ac,↓aa,hI]
abbrev hp3 (C F c:D_):am:=[(0,.cells C),(1,.cells F),(2,.cells c)]
def ap5 (C F:D_):Hr (hp3 C F) 2:=⟨λc=>by simp,λc d=>by simp⟩
def NS (b:C_)(n:Int):Nat×Nat:=kT (gT b (0,0) 3).2 (((gT b (0,0) 3).1:Int)=n-1)
def ZV (b:C_)(n:Int):Nat×Nat:=kT (gT b (NS b n) 4).2 (((gT b (NS b n) 4).1:Int)=0)
section
variable (b:C_)(hb:b.length<=1000000000)
include hb
theorem aq3 {n:Int}:(NS b n).1<=b.length:=Iz (r7 (dA _))
theorem azV {n:Int}:(ZV b n).1<=b.length:=Iz (r7 (aq3 b hb))
theorem amt (c0 c2 c3:AV)(n:Int)(hn:n=1∨n=2)(T:VC) :
  (Dn prog).code (.seq (.seq vq (K [41])) (.seq As (.seq AD T))) ⟨[(2,.ptr 0 0),(4,.ptr 1 0),(6,.ptr 2 0)],⟨hp3 [c0,A_ n,c2,c3] zF (cU b (0,0)),3⟩⟩ =
  (Dn prog).code T ⟨[(2,.ptr 0 0),(4,.ptr 1 0),(6,.ptr 2 0),(7,.ptr 3 0)],⟨fY [c0,A_ n,c2,c3] zF zI [] (cU b (ZV b n)),4⟩⟩:=by
 have h1:=gm (ap5 [c0,A_ n,c2,c3] zF) b hb (0,0) (dA _) 3 3;have h2:=nJ (ap5 [c0,A_ n,c2,c3] zF) b (gT b (0,0) 3).2 (((gT b (0,0) 3).1:Int)=n-1) 3;have h3:=gm (ap5 [c0,A_ n,c2,c3] zF) b hb (NS b n) (aq3 b hb) 4 3;have h4:=nJ (ap5 [c0,A_ n,c2,c3] zF) b (gT b (NS b n) 4).2 (((gT b (NS b n) 4).1:Int)=0) 3;have e1:NS b n=kT (gT b (0,0) 3).2 (((gT b (0,0) 3).1:Int)=n-1):=rfl;have e2:ZV b n=kT (gT b (NS b n) 4).2 (((gT b (NS b n) 4).1:Int)=0):=rfl;rw[<-e1]at h2;rw[<-e2]at h4;clear e1 e2;generalize ZV b n=s4 at *;generalize NS b n=s2 at *;generalize gT b (0,0) 3=g1 at *;obtain⟨x1,s1⟩:=g1;generalize gT b s2 4=g3 at *;obtain⟨x3,s3⟩:=g3;have c0':((0:Nat):Int)=0:=rfl;simp only[cU,hp3,fY,c0',zF]at h1 h2 h3 h4⊢;by_cases k1:(x1:Int)=n-1
 .rw[decide_eq_true k1]at h2;by_cases k2:(x3:Int)=0
  .rw[decide_eq_true k2]at h4;simp(maxSteps:=300000) (disch:=omega)[↓ac,↓aa,h1,h2,h3,h4]
  .rw[decide_eq_false k2]at h4;simp(maxSteps:=300000) (disch:=omega)[↓ac,↓aa,h1,h2,h3,h4]
 .rw[decide_eq_false k1]at h2;by_cases k2:(x3:Int)=0
  .rw[decide_eq_true k2]at h4;simp(maxSteps:=300000) (disch:=omega)[↓ac,↓aa,h1,h2,h3,h4]
  .rw[decide_eq_false k2]at h4;simp(maxSteps:=300000) (disch:=omega)[↓ac,↓aa,h1,h2,h3,h4]
theorem aiC (c0 c2 c3:AV)(s:Nat×Nat)(T:VC) :
  (Dn prog).code (.seq (.seq sF (.cond (.m 49) tg .skip)) T) ⟨[(2,.ptr 0 0),(4,.ptr 1 0),(6,.ptr 2 0),(7,.ptr 3 0)],⟨fY [c0,A_ 1,c2,c3] zF zI [] (cU b s),4⟩⟩ =
  (Dn prog).code T ⟨[(2,.ptr 0 0),(4,.ptr 1 0),(6,.ptr 2 0),(7,.ptr 3 0)],⟨fY [c0,A_ 1,c2,c3] zF zI [] (cU b s),4⟩⟩:=by
 simp only[cU,fY,zF];simp(maxSteps:=300000) (disch:=omega)[↓ac,↓aa]
theorem ahj (c0 c2 c3:AV)(s:Nat×Nat)(hs:s.1<=b.length)(T:VC) :
  (Dn prog).code (.seq (.seq sF (.cond (.m 49) tg .skip)) T) ⟨[(2,.ptr 0 0),(4,.ptr 1 0),(6,.ptr 2 0),(7,.ptr 3 0)],⟨fY [c0,A_ 2,c2,c3] zF zI [] (cU b s),4⟩⟩ =
  (Dn prog).code T ⟨[(2,.ptr 0 0),(4,.ptr 1 0),(6,.ptr 2 0),(7,.ptr 3 0)],⟨fY [c0,A_ 2,c2,c3] [.nl,B_ ((decide ((gT b s 1).1=1))),A_ 0,.nl,.nl] zI [] (cU b (gT b s 1).2),4⟩⟩:=by
 have h1:=gm (aoC [c0,A_ 2,c2,c3] zF zI []) b hb s hs 1 4;generalize gT b s 1=g at *;obtain⟨x,s1⟩:=g;simp only[cU,fY,zF]at h1⊢;by_cases hx:x=1
 .have hx2:(x:Int)=1:=o_;simp(maxSteps:=300000) (disch:=omega)[↓ac,↓aa,h1,hx,hx2]
 .have hx2:¬(x:Int)=1:=o_;simp(maxSteps:=300000) (disch:=omega)[↓ac,↓aa,h1,hx,hx2]
end
def gb3 {b:C_}{a v n:Nat}:bf b (a:Int) 3=.ok v n↔v<8∧At b a n (ar v 3):=cx (s:=3) (by omega)
def gb4 {b:C_}{a v n:Nat}:bf b (a:Int) 4=.ok v n↔v<16∧At b a n (ar v 4):=cx (s:=4) (by omega)
def gb8 {b:C_}{a v n:Nat}:bf b (a:Int) 8=.ok v n↔v<256∧At b a n (ar v 8):=cx (s:=8) (by omega)
def gb2 {b:C_}{a v n:Nat}:bf b (a:Int) 2=.ok v n↔v<4∧At b a n (ar v 2):=cx (s:=2) (by omega)
def gb1 {b:C_}{a v n:Nat}:bf b (a:Int) 1=.ok v n↔v<2∧At b a n (ar v 1):=cx (s:=1) (by omega)
def Lf {b:C_}:∀{k a m:Nat}{l:C_},a<=b.length->(nX b k a=.ok l m↔l.length=k∧(∀x∈l,x<=255)∧At b a m (bX l))
 |0,a,m,l,ha=>by
  rw[nX];constructor
  .intro h;injection h with h1 h2
   subst h1 h2;exact⟨rfl,s_,eg.2 ⟨rfl,ha⟩⟩
  .rintro ⟨h1,_,h3⟩
   obtain rfl:=ax h1;rw[(eg.1 h3).1]
 |k+1,a,m,l,ha=>by
  rw[nX,aS];constructor
  .rintro ⟨x,n,e1,h⟩
   obtain⟨r,p,e2,h⟩:=aS.1 h;injection h with h1 h2;subst h1 h2;obtain⟨hx,f1⟩:=gb8.1 e1;obtain⟨h1,h2,f2⟩:=(Lf (dB f1).2.1).1 e2;exact⟨by rw[aq,h1],λy hy=>by
    rcases ay.1 hy with rfl|hy
    .omega
    .exact h2 y hy,aZ.2 ⟨n,f1,f2⟩⟩
  .rintro ⟨h1,h2,h3⟩
   cases l with
   |nil=>simp at h1
   |cons x r =>
    obtain⟨n,f1,f2⟩:=(aZ (X:=ar x 8)).1 h3;refine⟨x,n,gb8.2 ⟨by have:=h2 x (.head _);omega,f1⟩,aS.2 ⟨r,m,(Lf (dB f1).2.1).2 ⟨by simpa using h1,λy hy=>h2 y (.tail _ hy),f2⟩,rfl⟩⟩
def ar5 {b:C_}{a m x:Nat}:bf b (a:Int) 1=.ok x m↔x=cond (decide (x=1)) 1 0∧At b a m (ar (cond (decide (x=1)) 1 0) 1):=by
 rw[gb1];constructor
 .rintro ⟨h1,h2⟩
  have:x=0∨x=1:=o_;rcases this with rfl|rfl<;>exact⟨rfl,h2⟩
 .rintro ⟨h1,h2⟩
  rw[<-h1]at h2;refine⟨?_,h2⟩;rw[h1]
  cases decide (x=1)<;>simp
def P8 {b:C_}:∀{k a m:Nat}{l:U_},a<=b.length->(IF b k a=.ok l m↔l.length=k∧At b a m (uQ l))
 |0,a,m,l,ha=>by
  rw[IF];constructor
  .intro h;injection h with h1 h2
   subst h1 h2;exact⟨rfl,eg.2 ⟨rfl,ha⟩⟩
  .rintro ⟨h1,h3⟩
   obtain rfl:=ax h1;rw[(eg.1 h3).1]
 |k+1,a,m,l,ha=>by
  rw[IF,aS];constructor
  .rintro ⟨x,n,e1,h⟩
   obtain⟨r,p,e2,h⟩:=aS.1 h;injection h with h1 h2;subst h1 h2;obtain⟨hx,f1⟩:=ar5.1 e1;obtain⟨h1,f2⟩:=(P8 (dB f1).2.1).1 e2;exact⟨by rw[aq,h1],aZ.2 ⟨n,f1,f2⟩⟩
  .rintro ⟨h1,h3⟩
   cases l with
   |nil=>simp at h1
   |cons x r =>
    obtain⟨n,f1,f2⟩:=(aZ (X:=ar (cond x 1 0) 1)).1 h3;have hd:decide ((cond x 1 0:Nat)=1)=x:=by cases x<;>rfl
    refine⟨cond x 1 0,n,ar5.2 (by rw[hd];exact⟨rfl,f1⟩),aS.2 ⟨r,m,(P8 (dB f1).2.1).2 ⟨by simpa using h1,f2⟩,by rw[hd]⟩⟩
def ae0 {a c:U_}:uQ (a++c)=uQ a++uQ c:=by simp[uQ]
def Tw {b:C_}{mx:Nat}:∀{g a m:Nat}{t:S_},a<=b.length->(xx b mx g a=.ok t m↔t.length=g∧(∀l∈t,l.length=mx)∧At b a m (uQ t.flatten))
 |0,a,m,t,ha=>by
  rw[xx];constructor
  .intro h;injection h with h1 h2
   subst h1 h2;exact⟨rfl,s_,eg.2 ⟨rfl,ha⟩⟩
  .rintro ⟨h1,_,h3⟩
   obtain rfl:=ax h1;rw[(eg.1 h3).1]
 |g+1,a,m,t,ha=>by
  rw[xx,aS];constructor
  .rintro ⟨l,n,e1,h⟩
   obtain⟨r,p,e2,h⟩:=aS.1 h;injection h with h1 h2;subst h1 h2;obtain⟨hx,f1⟩:=(P8 ha).1 e1;obtain⟨h1,h2,f2⟩:=(Tw (dB f1).2.1).1 e2;refine⟨by rw[aq,h1],λy hy=>?_,by rw[dC,ae0];exact aZ.2 ⟨n,f1,f2⟩⟩;rcases ay.1 hy with rfl|hy
   .exact hx
   .exact h2 y hy
  .rintro ⟨h1,h2,h3⟩
   cases t with
   |nil=>simp at h1
   |cons l r =>
    rw[dC,ae0]at h3;obtain⟨n,f1,f2⟩:=aZ.1 h3;exact⟨l,n,(P8 ha).2 ⟨h2 l (.head _),f1⟩,aS.2 ⟨r,m,(Tw (dB f1).2.1).2 ⟨by simpa using h1,λy hy=>h2 y (.tail _ hy),f2⟩,rfl⟩⟩
def ajJ {b:C_}{a m:Nat}{l:C_}(ha:a<=b.length):CH b a=.ok l m↔(l.length<=269∧∀x∈l,x<=255)∧At b a m (ni l++ar 7 3):=by
 unfold CH;rw[aS];constructor
 .rintro ⟨x,n,e1,h⟩
  obtain⟨hx,f1⟩:=gb3.1 e1;by_cases h6:x=6
  .rw[ac h6]at h;subst h6;obtain⟨k,n2,e2,h⟩:=aS.1 h;obtain⟨hk,f2⟩:=gb4.1 e2;by_cases hk0:k=0
   .rw[ac hk0]at h;exact absurd h (by simp)
   rw[aa hk0]at h;obtain⟨c,n3,e3,h⟩:=aS.1 h;obtain⟨w,n4,e4,h⟩:=aS.1 h;obtain⟨z,n5,e5,h⟩:=aS.1 h;by_cases hz:z=7
   rotate_left
   .rw[aa hz]at h;exact absurd h (by simp)
   rw[ac hz]at h;injection h with g1 g2
   subst g1 g2 hz;have f5:=(gb3.1 e5).2;have key:At b n2 n3 (if 15<=c then ar (c-14) 8 else [])∧min c 15=k∧1<=c∧c<=269:=by
    by_cases h15:k=15
    .rw[ac h15]at e3;obtain⟨y,n6,e6,h⟩:=aS.1 e3;obtain⟨hy,f6⟩:=gb8.1 e6;by_cases hy0:y=0
     .rw[ac hy0]at h;exact absurd h (by simp)
     rw[aa hy0]at h;injection h with g1 g2
     subst g1 g2;rw[ac o_,dr];exact⟨f6,o_,o_,o_⟩
    .rw[aa h15]at e3;injection e3 with g1 g2
     subst g1 g2;rw[aa o_];exact⟨eg.2 ⟨rfl,(dB f2).2.1⟩,o_,o_,o_⟩
   obtain⟨f3,k1,k2,k3⟩:=key;obtain⟨w1,w2,f4⟩:=(Lf (dB f3).2.1).1 e4;refine⟨⟨o_,w2⟩,?_⟩;have hne:w≠[]:=λh=>by rw[h]at w1;simp at w1;omega
   rw[ni,aa hne,w1,k1];exact aZ.2 ⟨n4,aZ.2 ⟨n,f1,aZ.2 ⟨n2,f2,aZ.2 ⟨n3,f3,f4⟩⟩⟩,f5⟩
  .rw[aa h6]at h;by_cases h7:x=7
   rotate_left
   .rw[aa h7]at h;exact absurd h (by simp)
   rw[ac h7]at h;injection h with g1 g2
   subst g1 g2 h7;exact⟨⟨s_,s_⟩,by rw[ni,ac rfl];exact f1⟩
 .rintro ⟨⟨h1,h2⟩,h3⟩
  by_cases h0:l=[]
  .rw[ni,ac h0,aK]at h3;exact⟨7,m,gb3.2 ⟨o_,h3⟩,by rw[aa o_,ac rfl,h0]⟩
  have hl0:l.length≠0:=λh=>h0 (ax h)
  rw[ni,aa h0]at h3;obtain⟨n4,h3,f5⟩:=aZ.1 h3;obtain⟨n,f1,h3⟩:=aZ.1 h3;obtain⟨n2,f2,h3⟩:=aZ.1 h3;obtain⟨n3,f3,f4⟩:=aZ.1 h3;refine⟨6,n,gb3.2 ⟨o_,f1⟩,?_⟩;rw[ac rfl,aS];refine⟨_,n2,gb4.2 ⟨o_,f2⟩,?_⟩;rw[aa o_,aS];refine⟨l.length,n3,?_,aS.2 ⟨l,n4,(Lf (dB f3).2.1).2 ⟨rfl,h2,f4⟩,aS.2 ⟨7,m,gb3.2 ⟨o_,f5⟩,ac rfl⟩⟩⟩;by_cases h15:15<=l.length
  .rw[ac h15]at f3;rw[ac o_,aS];exact⟨l.length-14,n3,gb8.2 ⟨o_,f3⟩,by rw[aa o_,show l.length-14+14=l.length by omega]⟩
  .rw[aa h15]at f3;rw[aa o_,(eg.1 f3).1,show min l.length 15=l.length by omega]
abbrev acC:aN:=⟨0,0,0,[]⟩
def P4 (b:C_)(r:Nat)(q:Bool)(a:Nat):R (aN×Nat×S_) :=
 if q=true then (mY b a r).bind λi m=>(bf b m 2).bind λk m=>if ¬k<3 then .er 7 else (if k=1 then xx b i.max.toNat i.groups.length m else .ok [] m).bind λl m=>.ok (i,k,l) m
 else .ok (acC,0,[]) a
def apI (b:C_)(r:Nat)(n:Int):R eC :=
 (bf b (0:Nat) 3).bind λx m=>if (x:Int)≠n-1 then .er 7 else
 (bf b m 4).bind λx m=>if x≠0 then .er 7 else
 (if n=2 then bf b m 1 else .ok 0 m).bind λqv m =>
 (P4 b r (decide (qv=1)) m).bind λh m =>
 (tf b r (decide (qv=1)) h.1 n.toNat m).bind λcs m =>
 (CH b m).bind λfl m=>.ok ⟨cs,decide (qv=1),h.2.1,h.2.2,fl⟩ m
def Cx (R:Nat)(n:Int)(f:eC):C_:=gR n f++iV R f.common f.chans++ni f.fill++ar 7 3
def aAO {b:C_}{a:Int}{r:Nat}{i j:aN}:Ds b a r false i=Ds b a r false j:=by
 unfold Ds C8;simp
def azv {i j:aN}(h:AR i j):i=j:=by
 obtain⟨⟨h1,h2⟩,h3,h4⟩:=h
 cases i;cases j;simp_all
def WF {b:C_}{r:Nat}(hr:r<=11){q:Bool}{i:aN}:∀{l:AH_}{a m:Nat},(∀c∈l,c.Fit∧nB r c∧(q=true->c.info=i))->At b a m (iV r q l)->tf b r q i l.length a=.ok l m
 |[],a,m,_,h=>by rw[show iV r q []=[] from rfl,eg]at h;rw[bg,tf,h.1]
 |c::l,a,m,hc,h=>by
  obtain⟨n,f1,f2⟩:=(aZ (X:=DK r c q)).1 h;obtain⟨c1,c2,c3⟩:=hc c (.head _);have h1:=arj hr c1 c2 f1;have h1:Ds b a r q i=.ok (⟨c.gain.toNat,c.info,c.sects,c.steps,c.tns,0,if pb c.tns then 1 else 0⟩,c.lines) n:=by
   cases q with
   |true=>rw[<-c3 rfl];exact h1
   |false=>rw[aAO (j:=c.info)];exact h1
  have hg:=c2.gain;rw[aq,tf,h1,az,WF hr (λd hd=>hc d (.tail _ hd)) f2,az]
  congr 2
  obtain⟨g,ci,S,T,F,Z⟩:=c;simp only[KZ]
  congr 1
  simp only at hg;omega
def ar6 {b:C_}{r:Nat}(hr:r<=11){n:Int}(hn:n=1∨n=2){f:eC}(hf:f.Fit)(ok:sW r n f){m:Nat}(h:At b 0 m (Cx r n f)):apI b r n=.ok f m:=by
 obtain⟨n3,h,f7⟩:=(aZ (X:=gR n f++iV r f.common f.chans++ni f.fill)).1 h;obtain⟨n2,h,f6⟩:=(aZ (X:=gR n f++iV r f.common f.chans)).1 h;obtain⟨n1,h,f5⟩:=aZ.1 h;have hfl:CH b n2=.ok f.fill m:=(ajJ (dB f6).1).2 ⟨⟨ok.fill,hf.fillI⟩,aZ.2 ⟨n3,f6,f7⟩⟩;have hln:=ok.len;have hrest:=ok.rest;have hcs:∀i:aN,(∀c∈f.chans,f.common=true->c.info=i)->tf b r f.common i n.toNat n1=.ok f.chans n2:=λi hi=>by
  rw[show n.toNat=f.chans.length by omega];exact WF hr (λc hc=>⟨hf.chans.2 c hc,ok.may c hc,hi c hc⟩) f5
 have key:(f.common=true->n=2)∧(f.common=false->f.mask=0∧f.bands=[]):=by
  cases hch:f.chans with
  |nil=>rw[hch]at hrest;exact hrest.elim
  |cons c t =>
   rw[hch]at hrest hln;simp only[Jx]at hrest;constructor
   .intro hq;rw[ac hq]at hrest;obtain⟨⟨d,hd,_⟩,_⟩:=hrest
    cases t with
    |nil=>simp at hd
    |cons _ _=>simp at hln;omega
   .intro hq;rw[aa (by simp[hq])]at hrest;exact hrest
 unfold apI;rcases hn with rfl|rfl
 .have hq:f.common=false:=by
   cases h:f.common with
   |false=>rfl
   |true=>have:=key.1 h;omega
  rw[gR,ac rfl]at h;obtain⟨a1,g1,g2⟩:=aZ.1 h;obtain⟨k1,k2⟩:=key.2 hq;have h5:=hcs acC (λc _ hc=>by rw[hq]at hc;exact absurd hc s_);rw[hq]at h5;rw[gb3.2 ⟨o_,g1⟩,az,aa s_,gb4.2 ⟨o_,g2⟩,az,aa s_,aa o_,az];simp only[P4];rw[show decide ((0:Nat)=1)=false from rfl,aa s_,az,h5,az,hfl,az];obtain⟨cs,q,mk,bd,fl⟩:=f;simp only at hq k1 k2;rw[hq,k1,k2];rfl
 .rw[gR,aa o_]at h
  cases hq:f.common with
  |false =>
   rw[hq,aa s_]at h;obtain⟨a2,h,g3⟩:=aZ.1 h;obtain⟨a1,g1,g2⟩:=aZ.1 h;obtain⟨k1,k2⟩:=key.2 hq;have h5:=hcs acC (λc _ hc=>by rw[hq]at hc;exact absurd hc s_);rw[hq]at h5;rw[gb3.2 ⟨o_,g1⟩,az,aa s_,gb4.2 ⟨o_,g2⟩,az,aa s_,ac rfl,gb1.2 ⟨o_,g3⟩,az];simp only[P4];rw[show decide ((0:Nat)=1)=false from rfl,aa s_,az,h5,az,hfl,az];obtain⟨cs,q,mk,bd,fl⟩:=f;simp only at hq k1 k2;rw[hq,k1,k2];rfl
  |true =>
   rw[hq,ac rfl]at h;obtain⟨a5,h,g6⟩:=aZ.1 h;obtain⟨a4,h,g5⟩:=aZ.1 h;obtain⟨a3,h,g4⟩:=aZ.1 h;obtain⟨a2,h,g3⟩:=aZ.1 h;obtain⟨a1,g1,g2⟩:=aZ.1 h;have hmk:=ok.mask
   cases hch:f.chans with
   |nil=>rw[hch]at hrest;exact hrest.elim
   |cons c t =>
    have hin:∀d∈f.chans,f.common=true->d.info=c.info:=λd hd _=>by
     rw[hch]at hrest hln hd;simp only[Jx,hq,bi]at hrest;obtain⟨⟨e,he,hs⟩,_⟩:=hrest
     cases t with
     |nil=>simp at he
     |cons x y =>
      have hy:y=[]:=ax (by simp at hln;omega);subst hy;simp only[List.head?_cons,Option.mem_def,ae]at he;subst he;simp only[ay,co,d8]at hd;rcases hd with rfl|rfl
      .rfl
      .exact(azv hs).symm
    have h5:=hcs c.info hin;rw[hq]at h5;have hm:=ok.may c (by rw[hch];exact .head _);have hI:mY b (a3:Int) r=.ok c.info a4:=(Qi hr).2 ⟨hm.info,by simpa [Vf,hch] using g4⟩;have hmx:=jY (gC hr hm.info);rw[hch]at hrest;simp only[Jx,hq,bi]at hrest;have hB:(if f.mask.toNat=1 then xx b c.info.max.toNat c.info.groups.length a5 else .ok [] a5)=.ok f.bands n1:=by
     have hr2:=hrest.2;by_cases h1:f.mask=1
     .rw[ac h1]at hr2;rw[ac o_];exact(Tw (dB g6).1).2 ⟨hr2.1,λl hl=>by have:=hr2.2 l hl;omega,g6⟩
     .rw[aa h1]at hr2;rw[aa o_,hr2];rw[hr2]at g6;rw[(eg.1 g6).1]
    rw[gb3.2 ⟨o_,g1⟩,az,aa s_,gb4.2 ⟨o_,g2⟩,az,aa s_,ac rfl,gb1.2 ⟨o_,g3⟩,az];simp only[P4];simp only[decide_true];rw[ac trivial,hI,az,gb2.2 ⟨o_,g5⟩,az,aa o_,hB,az,az,h5,az,hfl,az];obtain⟨cs,q,mk,bd,fl⟩:=f;simp only at hq hmk;rw[hq,show((mk.toNat:Nat):Int)=mk by omega]
abbrev J9:aW:=[(2,.ptr 0 0),(4,.ptr 1 0),(6,.ptr 2 0),(7,.ptr 3 0)]
def PY (C:D_)(q:Bool)(b:C_)(s:Nat×Nat)(h:q=false∨s.2≠0)(B T:VC) :
  (Dn prog).code (.seq (.seq lV (.cond (.m 62) B .skip)) T) ⟨J9,⟨fY C [.nl,B_ q,A_ 0,.nl,.nl] zI [] (cU b s),4⟩⟩ =
  (Dn prog).code T ⟨J9,⟨fY C [.nl,B_ q,A_ 0,.nl,.nl] zI [] (cU b s),4⟩⟩:=by
 obtain⟨a,e⟩:=s;simp only[cU,fY]
 cases q with
 |false=>simp(maxSteps:=300000) (disch:=omega)[↓ac,↓aa]
 |true =>
  have he:e≠0:=h.resolve_left s_;simp(maxSteps:=300000) (disch:=omega)[↓ac,↓aa,he]
abbrev abX (B:VC):VC:=(.seq (.seq (.seq ym (K [63])) (.seq ET (.cond (.m 88) (.seq (.seq (F 2) (F 7)) (.seq ye .ret)) .skip))) B)
abbrev aim (b:C_)(s:Nat×Nat)(N:Nat):K_:=some (.ret,⟨[(4,.ptr 1 0),(5,A_ s.2)],⟨[(1,.cells zF),(2,.cells (cU b s))],N⟩⟩)
section
variable (b:C_)(hb:b.length<=1000000000)(r:Nat)(hr:r<=11)
include hb hr
theorem au7 (c1 c2 c3:AV)(a e:Nat)(ha:a<=b.length)(he:mY b a r=.er e)(B T:VC) :
  (Dn prog).code (.seq (.seq lV (.cond (.m 62) (abX B) .skip)) T) ⟨J9,⟨fY [A_ r,c1,c2,c3] [.nl,B_ true,A_ 0,.nl,.nl] zI [] (cU b (a,0)),4⟩⟩ =
  some (.ret,⟨[(4,.ptr 1 0),(5,A_ ((e+1:Nat):Int))],⟨[(1,.cells zF),(2,.cells (cU b (0,e+1)))],4⟩⟩):=by
 have h:=Yh b a r hb o_;rw[ac o_,au,he,jg]at h;have c0:((0:Nat):Int)=0:=rfl;have ce:((e+1:Nat):Int)=(e:Int)+1:=rfl;have e1:¬((e:Int)+1=0):=o_;simp only[cU,fY,c0,ce,zF,abX]at h⊢;simp(maxSteps:=300000) (disch:=omega)[↓ac,↓aa,h,e1]
theorem at5 (c1 c2 c3:AV)(a:Nat)(ha:a<=b.length)(i:aN)(m:Nat)(he:mY b a r=.ok i m)(w:S_)(s6:Nat×Nat)(M:Nat)
  (hL:(Dn prog).code (.loop fO) ⟨Lb i.groups.length 0,⟨fY [A_ r,c1,c2,c3] [.nl,B_ true,A_ ((gT b (m,0) 2).1),.nl,.nl] [.d (.int .u8 i.seq),.d (.int .u8 i.shape),A_ i.max,.own false 1 (aH i.groups)] [] (cU b (kT (gT b (m,0) 2).2 (((gT b (m,0) 2).1:Int)<3))),4⟩⟩ =
   some (.exit 1,⟨Vs,⟨fY [A_ r,c1,c2,c3] [.nl,B_ true,A_ ((gT b (m,0) 2).1),aG 1 (dj w),.nl] [.d (.int .u8 i.seq),.d (.int .u8 i.shape),A_ i.max,.own false 1 (aH i.groups)] [] (cU b s6),M⟩⟩))(T:VC) :
  (Dn prog).code (.seq (.seq lV (.cond (.m 62) (abX (.seq yJ (.seq yd (.seq yg (.block 1 (.seq (.loop fO) (K [104,105]))))))) .skip)) T) ⟨J9,⟨fY [A_ r,c1,c2,c3] [.nl,B_ true,A_ 0,.nl,.nl] zI [] (cU b (a,0)),4⟩⟩ =
  (Dn prog).code T ⟨J9,⟨fY [A_ r,c1,c2,c3] [.nl,B_ true,A_ ((gT b (m,0) 2).1),aG 1 (dj w),.nl] [.d (.int .u8 i.seq),.d (.int .u8 i.shape),A_ i.max,.own false 1 (aH i.groups)] [] (cU b s6),M⟩⟩:=by
 have hp:=Sz hr he;have h:=Yh b a r hb o_;rw[ac o_,au,he,fe hp]at h;have h1:=gm (aoC [A_ r,c1,c2,c3] [.nl,B_ true,A_ 0,.nl,.nl] [.d (.int .u8 i.seq),.d (.int .u8 i.shape),A_ i.max,.own false 1 (aH i.groups)] []) b hb (m,0) hp.2.1 2 4;have h2:=nJ (aoC [A_ r,c1,c2,c3] [.nl,B_ true,A_ ((gT b (m,0) 2).1),.nl,.nl] [.d (.int .u8 i.seq),.d (.int .u8 i.shape),A_ i.max,.own false 1 (aH i.groups)] []) b (gT b (m,0) 2).2 (((gT b (m,0) 2).1:Int)<3) 4;have hg:=iD (l:=i.groups);have c0:((0:Nat):Int)=0:=rfl;generalize kT (gT b (m,0) 2).2 (((gT b (m,0) 2).1:Int)<3)=s5 at *;generalize gT b (m,0) 2=g at *;obtain⟨x,s4⟩:=g;clear hp he;simp only[cU,fY,c0,abX,Uf,Vs,Lb]at h h1 h2 hL⊢;generalize aH i.groups=Z at *;by_cases k1:(x:Int)<3
 .rw[decide_eq_true k1]at h2;simp(maxSteps:=300000) (disch:=omega)[↓ac,↓aa,h,h1,h2,hL,hg]
 .rw[decide_eq_false k1]at h2;simp(maxSteps:=300000) (disch:=omega)[↓ac,↓aa,h,h1,h2,hL,hg]
end
abbrev Xi (b:C_)(F:D_)(s:Nat×Nat)(N:Nat):St:=⟨[(4,.ptr 1 0),(6,.ptr 2 0)],⟨[(1,.cells F),(2,.cells (cU b s))],N⟩⟩
section
variable (b:C_)(hb:b.length<=1000000000)(r:Nat)(hr:r<=11)
include hb hr
theorem apu (q:Bool)(i:aN)(hi:i.Fit)(I iv:D_)(hI:apZ q i I iv)(c1 c2 c3 f2 f3 f4:AV)(n:Nat)(hn:n<=2):∀(k j a:Nat) (acc:AH_) (N:Nat),j+k=n->acc.length=j->a<=b.length->4<=N->
  match tf b r q i k a with
  |.ok l m=>m<=b.length∧∃M,4<=M∧(Dn prog).code (.loop fA) ⟨CM n j,⟨fY [A_ r,c1,c2,c3] [aG 9 (dH acc),B_ q,f2,f3,f4] I [] (cU b (a,0)),N⟩⟩=some (.exit 5,Xi b [aG 9 (dH (acc++l)),B_ q,f2,f3,f4] (m,0) M)
  |.er e=>∃s M,s.2=e+1∧(Dn prog).code (.loop fA) ⟨CM n j,⟨fY [A_ r,c1,c2,c3] [aG 9 (dH acc),B_ q,f2,f3,f4] I [] (cU b (a,0)),N⟩⟩=aim b s M:=by
 intro k
 induction k with
 |zero =>
  intro j a acc N hj hl ha hN;obtain rfl:j=n:=o_;simp only[tf];exact⟨ha,N,hN,by rw[ak7 b _ _ _ _ _ _ hN,bj]⟩
 |succ k ih =>
  intro j a acc N hj hl ha hN;rw[tf]
  cases e:Ds b a r q i with
  |er e0 =>
   rw[cB];exact⟨(0,e0+1),N+1,rfl,aod b hb r hr q i hi I iv hI c1 c2 c3 _ f2 f3 f4 a ha e0 e n j o_ hn N hN⟩
  |ok v m =>
   obtain⟨A,_,_,_,f1,_⟩:=avH hb hr hi e;have hm:=(dB f1).2.1;have h:=ih (j+1) m (acc++[KZ v]) (N+1) o_ g_ hm o_;rw[ajc b hb r hr q i hi I iv hI c1 c2 c3 f2 f3 f4 a ha acc o_ v m e n j o_ hn N hN,az]
   cases e2:tf b r q i k m with
   |er e0=>rw[e2]at h;exact h
   |ok l p =>
    rw[e2]at h;obtain⟨h1,M,h2,h3⟩:=h;exact⟨h1,M,h2,by rw[h3,aA];rfl⟩
end
abbrev Wf:VC:=(.seq Eu (.block 5 (.seq (.loop fA) (.seq (.seq (K [140,141]) (F 2)) (F 7)))))
def acO (C F I:D_)(b:C_)(s:Nat×Nat)(c0 c2 c3:AV)(n:Nat)(N:Nat)(F2:D_)(s2:Nat×Nat)(M:Nat)
  (hL:(Dn prog).code (.loop fA) ⟨CM n 0,⟨fY [c0,A_ n,c2,c3] F I [] (cU b s),N⟩⟩=some (.exit 5,Xi b F2 s2 M))(T:VC) :
  (Dn prog).code (.seq Wf T) ⟨J9,⟨fY [c0,A_ n,c2,c3] F I [] (cU b s),N⟩⟩=(Dn prog).code T (Xi b F2 s2 M):=by
 simp only[cU,fY,CM,Xi,Wf]at hL⊢;simp(maxSteps:=300000) (disch:=omega)[↓ac,↓aa,hL]
def aiS (C F I:D_)(b:C_)(s:Nat×Nat)(c0 c2 c3:AV)(n:Nat)(N:Nat)(s2:Nat×Nat)(M:Nat)
  (hL:(Dn prog).code (.loop fA) ⟨CM n 0,⟨fY [c0,A_ n,c2,c3] F I [] (cU b s),N⟩⟩=aim b s2 M)(T:VC) :
  (Dn prog).code (.seq Wf T) ⟨J9,⟨fY [c0,A_ n,c2,c3] F I [] (cU b s),N⟩⟩=aim b s2 M:=by
 simp only[cU,fY,CM,aim,Wf]at hL⊢;simp(maxSteps:=300000) (disch:=omega)[↓ac,↓aa,hL]
abbrev QE:VC:=(.seq EY (.seq (.seq Fd (.cond (.m 204) (.seq yq .ret) .skip)) (.seq (.seq (.seq Fv (K [6,221,222,223,224,225,226,227,228,229,230,231])) (.cond (.m 232) (.seq Ew .ret) .skip)) (.seq Fe .ret))))
def aBQ (F:D_):Hr (λc=>[(1,.cells F),(2,.cells c)]) 2:=⟨λc=>by simp,λc d=>by simp⟩
def Xr {h:am}{l:C_}{a:Nat}(ha:a<=l.length)(hl:l.length<=1000000000):mR h 1 (.d (.lst (ai l))) (some (A_ (a:Int))) none none=some (.d (.lst (ai (l.drop a)))):=by
 have e2:ej (A_ (a:Int)) (ai l).length=some a:=by rw[yK o_ (by rw[bx];omega)];simp
 have e3:Gt 1 (ai l)=true:=by cases l<;>rfl
 simp only[mR,okSl,vR,lenOf,xu,wR,e2,e3,sub];have e4:((ai l).drop a).take ((ai l).length-a)=ai (l.drop a):=by
  rw[ck (by rw[cM];exact al _)];unfold ai;rw[List.map_drop]
 rw[e4]
def PH {m:Nat}{xs:E_}:oE (share (aG m xs))=share (aG m xs):=by cases xs<;>rfl
def ayQ (b:C_)(hb:b.length<=1000000000)(xs ys:E_)(q:Bool)(k:Int)(m:Nat)(hm:m<=b.length)(N:Nat) :
  match (CH b m).bind λfl m=>if b.length-m<=7∧1∉b.drop m then R.ok fl m else .er 7 with
  |.ok fl p=>∃s,(Dn prog).code QE (Xi b [aG 9 xs,B_ q,A_ k,aG 1 ys,.nl] (m,0) N)=some (.ret,⟨[(4,.ptr 1 0),(5,A_ 0)],⟨[(1,.cells [share (aG 9 xs),B_ q,A_ k,share (aG 1 ys),share (aG 1 (ai fl))]),(2,.cells (cU b s))],N⟩⟩)
  |.er e=>∃s,(Dn prog).code QE (Xi b [aG 9 xs,B_ q,A_ k,aG 1 ys,.nl] (m,0) N)=some (.ret,⟨[(4,.ptr 1 0),(5,A_ ((e+1:Nat):Int))],⟨[(1,.cells zF),(2,.cells (cU b s))],N⟩⟩):=by
 obtain⟨w,x,s,h1,h2⟩:=aog (aBQ [aG 9 xs,B_ q,A_ k,aG 1 ys,.nl]) b hb m hm N;have c0:((0:Nat):Int)=0:=rfl;have hbl:=bx (l:=b);obtain⟨a,e⟩:=s;unfold HZ at h1;simp only[Xi,cU,c0,QE]at h1⊢
 cases hf:CH b m with
 |er e0 =>
  rw[hf]at h2;rw[cB];have he:e=e0+1:=h2;subst he;have ce:((e0+1:Nat):Int)=(e0:Int)+1:=rfl;have e1:¬((e0:Int)+1=0):=o_;refine⟨(a,e0+1),?_⟩;simp only[ce]at h1⊢;generalize ai w=W at *;simp(maxSteps:=300000) (disch:=omega)[↓ac,↓aa,-bn,IX,PH,Fc,h1,e1]
 |ok fl p =>
  rw[hf]at h2;obtain⟨h3,h4⟩:=h2;simp only[aP]at h4;obtain⟨h4,h5⟩:=h4;subst h3 h4 h5;have hp:a<=b.length:=by have:=(ajJ hm).1 hf;exact(dB this.2).2.1
  have hC:=aoM (b.drop a) (by rw[cM];omega);have hS:=λh=>Xr (h:=h) hp hb
  rw[az];simp only[c0]at h1⊢;have ez:zF=[.nl,B_ false,A_ 0,.nl,.nl]:=rfl;by_cases k1:b.length-a<=7
  .by_cases k2:1∈b.drop a
   .rw[aa (λh=>h.2 k2)];rw[decide_eq_true k2]at hC;refine⟨(a,0),?_⟩;generalize ai (b.drop a)=D at *;generalize ai b=B at *;generalize ai w=W at *;simp(maxSteps:=300000) (disch:=omega)[↓ac,↓aa,-bn,IX,PH,Fc,h1,hC,hS,hbl]
   .rw[ac ⟨k1,k2⟩];rw[decide_eq_false k2]at hC;refine⟨(a,0),?_⟩;generalize ai (b.drop a)=D at *;generalize ai b=B at *;generalize ai w=W at *;simp(maxSteps:=300000) (disch:=omega)[↓ac,↓aa,-bn,IX,PH,Fc,h1,hC,hS,hbl]
  .rw[aa (λh=>k1 h.1)];refine⟨(a,0),?_⟩;generalize ai (b.drop a)=D at *;generalize ai b=B at *;generalize ai w=W at *;simp(maxSteps:=300000) (disch:=omega)[↓ac,↓aa,-bn,IX,PH,Fc,h1,hC,hS,hbl]
def at7:acC.Fit:=⟨k_,k_,k_,k_,s_⟩
abbrev qX:=@Int.tdiv_eq_ediv_of_nonneg
def ayT {x k:Nat}(hk:k<8):x / 2 ^ (8-k)*2 ^ (8-k)+x / 2 ^ (7-k) % 2*2 ^ (7-k)=x / 2 ^ (7-k)*2 ^ (7-k):=by
 have e:8-k=(7-k)+1:=o_;rw[e,df,<-Nat.div_div_eq_div_mul,<-zL,Nat.mul_right_comm,<-dg]
 congr 1
 have:=pD (x / 2 ^ (7-k)) 2;omega
def aDu {x k:Nat}(hk:k<8):(x / 2 ^ (8-k)*2 ^ (8-k)) |||(x / 2 ^ (7-k) % 2*2 ^ (7-k))=x / 2 ^ (7-k)*2 ^ (7-k):=by
 rw[<-ayT hk,eq (x / 2 ^ (8-k)),kp];have e:8-k=(7-k)+1:=o_;rw[e,df];have h2:0<2 ^ (7-k):=bU _;have:x / 2 ^ (7-k) % 2<2:=ef _ o_;have:x / 2 ^ (7-k) % 2=0∨x / 2 ^ (7-k) % 2=1:=o_;rcases this with h|h<;>rw[h]<;>omega
def awP {x k:Nat}(h:x<=255):x / 2 ^ k*2 ^ k<=255:=aO (Nat.div_mul_le_self _ _) h
def ahQ {x:Nat}:∀{n k:Nat},k<n->(ar x n)[k]?=some (x / 2 ^ (n-1-k) % 2)
 |n+1,0,_=>by rw[ar];simp
 |n+1,k+1,h=>by rw[ar,mF,ahQ o_];congr 4;omega
def oO {l:C_}{i x:Nat}(h:l[i]?=some x):(ai l)[i]?=some [.int .u8 (x:Int)]:=by rw[ai,b8,h];rfl
def arW (w a:C_)(hw:w.length<=16777216)(n:Nat)(i j k p x q:Nat)(hi:i=8*j+k)(hk:k<8)(hwi:w[i]?=some x)(hx:x<=1)(ha:a[j]?=some p)(hp:p<=255)(hq:p |||x*2 ^ (7-k)=q)(hq2:q<=255)(hn:a.length=n)(N:Nat) :
  (Dn prog).code (.loop jZ) ⟨[(4,.sl 0 0 n),(15,.d (.lst (ai w))),(16,A_ w.length),(17,A_ i)],⟨[(0,.arr 1 (ai a))],N⟩⟩ =
  (Dn prog).code (.loop jZ) ⟨[(4,.sl 0 0 n),(15,.d (.lst (ai w))),(16,A_ w.length),(17,A_ ((i+1:Nat):Int))],⟨[(0,.arr 1 (ai (a.set j q)))],N⟩⟩:=by
 have hil:i<w.length:=(aJ.1 hwi).1;have hjn:j<n:=hn▸(aJ.1 ha).1;have g1:=oO hwi;have g2:=oO ha;have t1:(i:Int).tdiv 8=(j:Int):=by rw[qX o_];omega
 have t2:(i:Int).tmod 8=(k:Int):=by rw[kV o_];omega
 have hpw:2 ^ (7-k)<=2 ^ 7:=aw o_ o_;have hxm:x*2 ^ (7-k)<=128:=aO (qK hx hpw) o_;have sh:fo .shl (.d (.int .u8 (x:Int))) (A_ (7-(k:Int)))=some (.int .u8 ((x*2 ^ (7-k):Nat):Int)):=by
  have e:min (7-(k:Int)).toNat IntKind.u8.bits=7-k:=by show min _ 8=_;omega
  rw[tJ o_,e];have:((x:Int)*((2 ^ (7-k):Nat):Int))=((x*2 ^ (7-k):Nat):Int):=(we _ _).symm;rw[this];have:∀z:Nat,z<=128->wr .u8 (z:Int)=z:=λz h=>by simp(disch:=omega)
  rw[this _ hxm]
 have tn:kr .u8=256:=rfl;have or':=apw (k:=.u8) (a:=p) (b:=x*2 ^ (7-k)) o_ o_ (by rw[hq];omega);rw[hq]at or';have c1:((i+1:Nat):Int)=(i:Int)+1:=rfl;have hx2:¬(x:Int) > 1:=o_;rw[ah N4,c1];generalize x*2 ^ (7-k)=z at *;generalize hA:ai a=A at *;have hs:A.set j [.int .u8 (q:Int)]=ai (a.set j q):=by rw[<-hA,auE]
 clear hn ha;generalize ai w=W at *;simp(maxSteps:=300000) (disch:=omega)[↓ac,↓aa,g1,g2,t1,t2,sh,or',hs,-tJ]
def asA (w:C_)(hw:w.length<=16777216)(n j x:Nat)(hx:x<=255)(A Z:C_)(hA:A.length=j)(hn:A.length+1+Z.length=n)(hb:∀k,k<8->w[8*j+k]?=some (x / 2 ^ (7-k) % 2))(N:Nat):∀(c k:Nat),k+c=8->
  (Dn prog).code (.loop jZ) ⟨[(4,.sl 0 0 n),(15,.d (.lst (ai w))),(16,A_ w.length),(17,A_ ((8*j+k:Nat):Int))],⟨[(0,.arr 1 (ai (A++x / 2 ^ (8-k)*2 ^ (8-k)::Z)))],N⟩⟩ =
  (Dn prog).code (.loop jZ) ⟨[(4,.sl 0 0 n),(15,.d (.lst (ai w))),(16,A_ w.length),(17,A_ ((8*j+8:Nat):Int))],⟨[(0,.arr 1 (ai (A++x::Z)))],N⟩⟩:=by
 intro c
 induction c with
 |zero =>
  intro k hk;obtain rfl:k=8:=o_;simp
 |succ c ih =>
  intro k hk;rw[arW w _ hw n (8*j+k) j k _ _ (x / 2 ^ (8-(k+1))*2 ^ (8-(k+1))) rfl o_ (hb k o_) (by have:=ef (x / 2 ^ (7-k)) (y:=2) o_;omega) (by rw[<-hA];simp;rfl) (awP hx) (by rw[aDu o_,show 8-(k+1)=7-k by omega]) (awP hx) g_ N];rw[<-hA,U6,hA];exact ih (k+1) (by omega)
def avU (w:C_)(hw:w.length<=16777216)(n N:Nat):∀(r A:C_),w=bX A++bX r->(∀x∈r,x<=255)->A.length+r.length=n->
  (Dn prog).code (.loop jZ) ⟨[(4,.sl 0 0 n),(15,.d (.lst (ai w))),(16,A_ w.length),(17,A_ ((8*A.length:Nat):Int))],⟨[(0,.arr 1 (ai (A++List.replicate r.length 0)))],N⟩⟩ =
  some (.exit 0,⟨[(4,.sl 0 0 n)],⟨[(0,.arr 1 (ai (A++r)))],N⟩⟩):=by
 intro r
 induction r with
 |nil =>
  intro A hA hr hn;have hl:w.length=8*A.length:=by rw[hA,aj,fP];simp[bX]
  rw[ah N4,<-hl];simp(maxSteps:=300000) (disch:=omega)[↓ac,↓aa]
 |cons x r ih =>
  intro A hA hr hn;have h0:x / 2 ^ (8-0)*2 ^ (8-0)=0:=by
   have:=hr x (.head _);have:x / 256=0:=o_;show x / 256*256=0;rw[this]
  have hb:∀k,k<8->w[8*A.length+k]?=some (x / 2 ^ (7-k) % 2):=λk hk=>by
   have e:bX (x::r)=ar x 8++bX r:=rfl;rw[hA,e,bZ (by rw[fP];omega),fP,gj,cw (by rw[dk];exact hk),ahQ hk]
  have h1:=asA w hw n A.length x (hr x (.head _)) A (List.replicate r.length 0) rfl (by simp at hn⊢;omega) hb N 8 0 rfl;rw[h0]at h1;have h2:=ih (A++[x]) (by rw[hA];simp[bX]) (λy hy=>hr y (.tail _ hy)) (by simp at hn⊢;omega);rw[aq,cL];have e1:8*A.length+8=8*(A++[x]).length:=by simp;omega
  rw[e1]at h1;simp only[aA,cu]at h2;rw[<-h2,<-h1];rfl
def aeh (l:C_)(hl:8*l.length<=16777216)(hl2:∀n∈l,n<=255):bh prog WK [.d (.lst (ai (bX l)))]=some (.tup [.own true 1 (ai l),A_ 0]):=by
 have hu:=fP (l:=l);have hbu:=bx (l:=bX l);have hk:=Fs (z:=[.int .u8 0]) (n:=l.length) o_;have e:List.replicate l.length [D.int .u8 0]=ai (List.replicate l.length 0):=by simp[ai]
 rw[e]at hk;have ha:=avU (bX l) o_ l.length 1 l [] (by simp[bX]) hl2 s_;have t1:(8*(l.length:Int)+7).tdiv 8=(l.length:Int):=by rw[qX o_];omega
 have c0:((8*([]:C_).length:Nat):Int)=0:=rfl;have c8:((8*l.length:Nat):Int)=8*(l.length:Int):=s_;have hz:(ai (List.replicate l.length 0)).length=l.length:=by rw[bx,bm]
 have ht:List.take l.length (ai l)=ai l:=ck (by rw[bx];omega);have hbl:=bx (l:=l);rw[c0,hu,c8]at ha;rw[hu]at hbu;simp only[aK]at ha;rw[aD alc alH rfl];generalize ai (bX l)=W at *;generalize ai (List.replicate l.length 0)=Z at *;generalize ai l=B at *;simp(maxSteps:=300000) (disch:=omega)[↓ac,↓aa,hk,ha,t1,hbu,hbl,hz,ht]
def QH (b:C_)(r:Nat)(n:Int):R eC:=(apI b r n).bind λf m=>if b.length-m<=7∧1∉b.drop m then .ok f m else .er 7
abbrev eC.ow (f:eC):D_:=[share (aG 9 (dH f.chans)),B_ f.common,A_ f.mask,share (aG 1 (dj f.bands)),share (aG 1 (ai f.fill))]
def Se {α β γ:Type}{x:R α}{f:α->Nat->R β}{g:β->Nat->R γ}:(x.bind f).bind g=x.bind λv n=>(f v n).bind g:=by cases x<;>rfl
abbrev awe:VC:=(.seq yJ (.seq yd (.seq yg (.block 1 (.seq (.loop fO) (K [104,105]))))))
abbrev Zm:VC:=(.seq (.seq vq (K [41])) (.seq As (.seq AD (.seq (.seq sF (.cond (.m 49) tg .skip)) (.seq (.seq lV (.cond (.m 62) (abX awe) .skip)) (.seq Wf QE))))))
def Ux (b:C_)(C:D_)(x:R eC):Prop :=
 match x with
 |.ok f m=>∃s N,(Dn prog).code Zm ⟨[(2,.ptr 0 0),(4,.ptr 1 0),(6,.ptr 2 0)],⟨hp3 C zF (cU b (0,0)),3⟩⟩=some (.ret,⟨[(4,.ptr 1 0),(5,A_ 0)],⟨[(1,.cells f.ow),(2,.cells (cU b s))],N⟩⟩)
 |.er e=>∃s N,(Dn prog).code Zm ⟨[(2,.ptr 0 0),(4,.ptr 1 0),(6,.ptr 2 0)],⟨hp3 C zF (cU b (0,0)),3⟩⟩=some (.ret,⟨[(4,.ptr 1 0),(5,A_ ((e+1:Nat):Int))],⟨[(1,.cells zF),(2,.cells (cU b s))],N⟩⟩)
section
variable (b:C_)(hb:b.length<=1000000000)(r:Nat)(hr:r<=11)
include hb hr
theorem aee (n:Nat)(hn:n=1∨n=2)(q:Bool)(i:aN)(hi:i.Fit)(I iv:D_)(hI:apZ q i I iv)(c2 c3:AV)(k:Int)(t:S_)(a:Nat)(ha:a<=b.length)(N:Nat)(hN:4<=N) :
  match (tf b r q i n a).bind λcs m=>(CH b m).bind λfl m=>if b.length-m<=7∧1∉b.drop m then R.ok (⟨cs,q,k,t,fl⟩:eC) m else .er 7 with
  |.ok f m=>∃s M,(Dn prog).code (.seq Wf QE) ⟨J9,⟨fY [A_ r,A_ n,c2,c3] [.nl,B_ q,A_ k,aG 1 (dj t),.nl] I [] (cU b (a,0)),N⟩⟩=some (.ret,⟨[(4,.ptr 1 0),(5,A_ 0)],⟨[(1,.cells f.ow),(2,.cells (cU b s))],M⟩⟩)
  |.er e=>∃s M,(Dn prog).code (.seq Wf QE) ⟨J9,⟨fY [A_ r,A_ n,c2,c3] [.nl,B_ q,A_ k,aG 1 (dj t),.nl] I [] (cU b (a,0)),N⟩⟩=some (.ret,⟨[(4,.ptr 1 0),(5,A_ ((e+1:Nat):Int))],⟨[(1,.cells zF),(2,.cells (cU b s))],M⟩⟩):=by
 have e0:aG 9 (dH [])=.nl:=rfl;have h:=apu b hb r hr q i hi I iv hI (A_ n) c2 c3 (A_ k) (aG 1 (dj t)) .nl n o_ n 0 a [] N o_ rfl ha hN;rw[e0]at h
 cases e:tf b r q i n a with
 |er e1 =>
  rw[e]at h;obtain⟨s,M,h1,h2⟩:=h;rw[cB];refine⟨s,M,?_⟩;rw[aiS [] _ _ _ _ _ _ _ _ _ _ _ h2,<-h1]
 |ok cs m =>
  rw[e]at h;obtain⟨hm,M,h1,h2⟩:=h;rw[az];have h5:=ayQ b hb (dH ([]++cs)) (dj t) q k m hm M
  cases e2:CH b m with
  |er e3 =>
   rw[e2,cB]at h5;obtain⟨s,h5⟩:=h5;rw[cB];exact⟨s,M,by rw[acO [] _ _ _ _ _ _ _ _ _ _ _ _ h2,h5]⟩
  |ok fl p =>
   rw[e2,az]at h5;rw[az];by_cases hc:b.length-p<=7∧1∉b.drop p
   .rw[ac hc]at h5⊢;obtain⟨s,h5⟩:=h5;exact⟨s,M,by rw[acO [] _ _ _ _ _ _ _ _ _ _ _ _ h2,h5];rfl⟩
   .rw[aa hc]at h5⊢;obtain⟨s,h5⟩:=h5;exact⟨s,M,by rw[acO [] _ _ _ _ _ _ _ _ _ _ _ _ h2,h5]⟩
theorem K7 (n:Nat)(hn:n=1∨n=2)(I:D_)(f0 f1 f2 f3 f4:AV)(c0 c2 c3:AV)(s:Nat×Nat)(hs:s.2≠0)(N:Nat) :
  (Dn prog).code (.seq Wf QE) ⟨J9,⟨fY [c0,A_ n,c2,c3] [f0,f1,f2,f3,f4] I [] (cU b s),N⟩⟩=aim b s N :=
 aiS [] _ _ _ _ _ _ _ _ _ _ _ (aj9 b _ _ _ _ _ _ _ s hs n 0 o_ N) _
theorem asI (n:Nat)(hn:n=1∨n=2)(c2 c3:AV)(hd:(ZV b n).2≠0)(e:Nat)(he:(ZV b n).2=e+1):Ux b [A_ r,A_ n,c2,c3] (.er e):=by
 refine⟨ZV b n,4,?_⟩;rw[amt b hb (A_ r) c2 c3 n o_];have hs:=azV b hb (n:=(n:Int));generalize ZV b n=s at *;rw[<-he];rcases hn with rfl|rfl
 .rw[show((1:Nat):Int)=1 from rfl,aiC b hb,show(zF:D_)=[.nl,B_ false,A_ 0,.nl,.nl] from rfl,PY _ _ _ _ (.inl rfl)];exact K7 b hb r hr 1 (.inl rfl) _ _ _ _ _ _ _ _ _ s hd 4
 .rw[show((2:Nat):Int)=2 from rfl,ahj b hb _ _ _ s hs,vS hd,PY _ _ _ _ (.inr hd)];exact K7 b hb r hr 2 (.inr rfl) _ _ _ _ _ _ _ _ _ s hd 4
theorem amh (n:Nat)(hn:n=1∨n=2)(c2 c3:AV)(a:Nat)(ha:a<=b.length)(x:R eC)
  (hx:x=(tf b r false acC n a).bind λcs m=>(CH b m).bind λfl m=>if b.length-m<=7∧1∉b.drop m then R.ok (⟨cs,false,0,[],fl⟩:eC) m else .er 7)
  (h:(Dn prog).code Zm ⟨[(2,.ptr 0 0),(4,.ptr 1 0),(6,.ptr 2 0)],⟨hp3 [A_ r,A_ n,c2,c3] zF (cU b (0,0)),3⟩⟩=(Dn prog).code (.seq (.seq lV (.cond (.m 62) (abX awe) .skip)) (.seq Wf QE)) ⟨J9,⟨fY [A_ r,A_ n,c2,c3] [.nl,B_ false,A_ 0,.nl,.nl] zI [] (cU b (a,0)),4⟩⟩):Ux b [A_ r,A_ n,c2,c3] x:=by
 rw[PY _ _ _ _ (.inl rfl)]at h;have ht:=aee b hb r hr n hn false acC at7 zI zI (.inr ⟨rfl,rfl,rfl⟩) c2 c3 0 [] a ha 4 o_;rw[<-hx,show aG 1 (dj [])=.nl from rfl]at ht;unfold Ux;rw[h];exact ht
theorem asC (n:Nat)(hn:n=1∨n=2)(c2 c3:AV):Ux b [A_ r,A_ n,c2,c3] (QH b r n):=by
 have hP1:=λT=>amt b hb (A_ r) c2 c3 n o_ T
 have hdead:=asI b hb r hr n hn c2 c3;have hs2:ZV b n=kT (gT b (NS b n) 4).2 (((gT b (NS b n) 4).1:Int)=0):=rfl;have hs1:NS b n=kT (gT b (0,0) 3).2 (((gT b (0,0) 3).1:Int)=n-1):=rfl;unfold QH apI
 cases e1:bf b (0:Nat) 3 with
 |er e =>
  rw[AE e1,ml (bz _)]at hs1;rw[hs1,vS (bz _),ml (bz _)]at hs2;rw[cB,cB];exact hdead (by rw[hs2];exact bz _) e (by rw[hs2])
 |ok x m =>
 rw[az];by_cases hx:(x:Int)≠n-1
 .rw[pB e1,OT hx]at hs1;rw[hs1,vS s_,ml s_]at hs2;rw[ac hx,cB];exact hdead (by rw[hs2];simp) 7 (by rw[hs2])
 rw[aa hx];rw[pB e1,K4 (Classical.not_not.1 hx)]at hs1
 cases e2:bf b m 4 with
 |er e =>
  rw[hs1,AE e2,ml (bz _)]at hs2;rw[cB,cB];exact hdead (by rw[hs2];exact bz _) e (by rw[hs2])
 |ok y a =>
 rw[az];by_cases hy:y≠0
 .rw[hs1,pB e2,OT t_]at hs2;rw[ac hy,cB];exact hdead (by rw[hs2];simp) 7 (by rw[hs2])
 rw[aa hy];rw[hs1,pB e2,K4 t_]at hs2;simp only at hs2;have ha:a<=b.length:=(eD e2).2;rw[hs2]at hP1;clear hs1 hs2 hdead e1 e2 hx hy;rcases hn with rfl|rfl
 .refine amh b hb r hr 1 (.inl rfl) c2 c3 a ha _ ?_ ((hP1 _).trans (aiC b hb _ _ _ _ _));rw[aa o_,az];simp only[P4];rw[show decide ((0:Nat)=1)=false from rfl,aa s_,az];simp only[Se,az];rfl
 .have hP:=λT=>(hP1 _).trans (ahj b hb (A_ r) c2 c3 (a,0) ha T)
  clear hP1;rw[ac o_]
  cases e3:bf b a 1 with
  |er e =>
   rw[AE e3]at hP;rw[cB,cB];refine⟨(a,e+1),4,?_⟩;refine(hP _).trans ?_;rw[PY _ _ _ _ (.inr (bz _))];exact K7 b hb r hr 2 (.inr rfl) _ _ _ _ _ _ _ _ _ _ (bz _) 4
  |ok x m =>
  have hm:m<=b.length:=(eD e3).2;rw[pB e3]at hP;rw[az];simp only at hP;by_cases hx:x=1
  rotate_left
  .rw[decide_eq_false hx]at hP⊢;refine amh b hb r hr 2 (.inr rfl) c2 c3 m hm _ ?_ (hP _);simp only[P4];rw[aa s_,az];simp only[Se,az];rfl
  rw[decide_eq_true hx]at hP⊢;simp only[P4];rw[ac trivial]
  cases e4:mY b m r with
  |er e =>
   rw[cB,cB,cB];exact⟨(0,e+1),4,(hP _).trans (au7 b hb r hr _ c2 c3 m e hm e4 _ _)⟩
  |ok i m2 =>
  have p:=Sz hr e4;have hi:i.Fit:=amU hr p.1 p.2.2;have hmx:=jY (gC hr p.1);have him:((i.max.toNat:Nat):Int)=i.max:=o_;have hgl:=hi.len;rw[az];have hs5:(kT (gT b (m2,0) 2).2 (((gT b (m2,0) 2).1:Int)<3)).1<=b.length:=Iz (r7 p.2.1);obtain⟨w,s6,M,hM,h6,hw,hd,hL⟩:=asP b hb [A_ r,A_ 2,c2,c3] .nl (B_ true) .nl (.d (.int .u8 i.seq)) (.d (.int .u8 i.shape)) (.own false 1 (aH i.groups)) i.max.toNat o_ i.groups.length hgl (gT b (m2,0) 2).1 (kT (gT b (m2,0) 2).2 (((gT b (m2,0) 2).1:Int)<3)) hs5 4 o_;rw[him]at hL;have hrun:=(hP _).trans (at5 b hb r hr _ c2 c3 m hm i m2 e4 w s6 M hL (.seq Wf QE));have dead:∀e,s6.2=e+1->Ux b [A_ r,A_ 2,c2,c3] (.er e):=λe he=>by
   refine⟨s6,M,hrun.trans ?_⟩;rw[<-he];exact K7 b hb r hr 2 (.inr rfl) _ _ _ _ _ _ _ _ _ _ o_ M
  cases e5:bf b m2 2 with
  |er e =>
   rw[AE e5,ml (bz _)]at hd;rw[cB,cB,cB];exact dead e (by rw[hd (bz _)])
  |ok k m3 =>
  rw[az];by_cases hk:¬k<3
  .rw[pB e5,OT t_]at hd;rw[ac hk,cB,cB];exact dead 7 (by rw[hd s_])
  rw[aa hk];rw[pB e5]at hw hrun;rw[K4 t_]at hw;have hw:=hw rfl;simp only at hw hrun
  cases e6:(if k=1 then xx b i.max.toNat i.groups.length m3 else R.ok [] m3) with
  |er e =>
   rw[e6]at hw;rw[cB,cB,cB];exact dead e hw
  |ok t m4 =>
   rw[e6]at hw;obtain⟨rfl,rfl⟩:=hw;have ht:=aee b hb r hr 2 (.inr rfl) true i hi _ i.cells (.inl ⟨rfl,rfl⟩) c2 c3 k w m4 h6 M hM;rw[az,az];simp only[Se,az];unfold Ux;rw[show((2:Nat):Int)=2 from rfl]at ht⊢;have hrun:(Dn prog).code Zm ⟨[(2,.ptr 0 0),(4,.ptr 1 0),(6,.ptr 2 0)],⟨hp3 [A_ r,A_ 2,c2,c3] zF (cU b (0,0)),3⟩⟩=_:=hrun;rw[hrun];exact ht
end
def avc {h:am}{a b c:E_}{x:Bool}{y e:Int}:io h (.tup [.agg [share (aG 9 a),B_ x,A_ y,share (aG 1 b),share (aG 1 c)],A_ e])=some (.tup [.agg [share (aG 9 a),B_ x,A_ y,share (aG 1 b),share (aG 1 c)],A_ e]):=by
 cases a<;>cases b<;>cases c<;>rfl
def au8 (rt n:Int)(cb:Bool)(cz:Int)(X:AV)(l:C_)(hX:dZ X (ai l))(hl:l.length<=100000)(hl2:∀x∈l,x<=255) :
  (ox rt n∧(l.length:Int)<=192*n∧bh prog Qm [jN rt n cb cz,X]=match QH (bX l) rt.toNat n with
   |.ok f m=>some (.tup [.agg f.ow,A_ 0])
   |.er e=>some (.tup [.agg zF,A_ ((e+1:Nat):Int)]))∨
  (¬(ox rt n∧(l.length:Int)<=192*n)∧∃e:Int,e≠0∧bh prog Qm [jN rt n cb cz,X]=some (.tup [.agg zF,A_ e])):=by
 obtain⟨⟨x1,x2,x3⟩,x4,x5⟩:=hX.facts;obtain⟨vx,ux⟩:=hX.view;have hbl:=bx (l:=l);rw[hbl]at x5;have hcf:=ZB rt n cb cz;simp only[jN]at hcf⊢;rw[aD anR apG rfl];rcases hcf with ⟨hc,ec⟩|⟨hc,ec⟩
 rotate_left
 .refine .inr ⟨λh=>hc h.1,2,k_,?_⟩;simp(maxSteps:=300000) (disch:=omega)[↓ac,↓aa,-bn,x1,x2,x3,x4,x5,ec]
 by_cases hn:(l.length:Int)<=192*n
 rotate_left
 .refine .inr ⟨λh=>hn h.2,3,k_,?_⟩;have:=hc.2;simp(maxSteps:=300000) (disch:=omega)[↓ac,↓aa,-bn,x1,x2,x3,x4,x5,ec]
 refine .inl ⟨hc,hn,?_⟩;obtain⟨R,rfl⟩:=aB hc.1.1;obtain⟨k,rfl⟩:=aB (show 0<=n by have:=hc.2;omega);have hR:R<=11:=by have:=hc.1.2;omega
 have hk:k=1∨k=2:=by have:=hc.2;omega
 have hu:=Gd l hl hl2 X hX;have ul:=fP (l:=l);have hM:=asC (bX l) o_ R hR k hk (B_ cb) (A_ cz);rw[au];have c0:((0:Nat):Int)=0:=rfl;obtain⟨T,hT⟩:∃T,T=Zm:=⟨_,rfl⟩
 cases hG:QH (bX l) R k with
 |ok f m =>
  rw[hG]at hM;obtain⟨s,N,hM⟩:=hM;simp only[hp3,cU,c0,<-hT]at hM⊢;generalize ai (bX l)=B at *;simp only[eC.ow]at hM⊢;generalize dH f.chans=A1 at *;generalize dj f.bands=A2 at *;generalize ai f.fill=A3 at *;simp(maxSteps:=300000) (disch:=omega)[↓ac,↓aa,-bn,x1,x2,x3,x4,x5,vx,ux,ec,hu,hM,↓avc]
 |er e =>
  rw[hG]at hM;obtain⟨s,N,hM⟩:=hM;simp only[hp3,cU,c0,<-hT]at hM⊢;generalize ai (bX l)=B at *;simp(maxSteps:=300000) (disch:=omega)[↓ac,↓aa,-bn,x1,x2,x3,x4,x5,vx,ux,ec,hu,hM]
def dc {a b:C_}(ha:bin a)(hb:bin b):bin (a++b):=λx hx=>(ba.1 hx).elim (ha x) (hb x)
def lY:bin []:=λx hx=>absurd hx (by simp)
def vI {α:Type}{f:α->C_}{l:List α}(h:∀x,bin (f x)):bin (l.flatMap f):=λx hx=>by
 obtain⟨y,_,hy⟩:=kU.1 hx;exact h y x hy
def oa {c:Prop}[Decidable c]{a b:C_}(ha:bin a)(hb:bin b):bin (if c then a else b):=by split<;>assumption
def awU {g:G_}:∀{k w:Nat},bin (JJ g k w)
 |0,_=>lY
 |k+1,w=>dc (oa dx dx) awU
def anK {i:aN}:bin (lE i):=dc dx (dc dx (dc dx (oa (dc dx awU) (dc dx dx))))
def U3 {i e:Nat}:bin (kl i e):=dc dx dx
def ayM {i:aN}{g:H_}:bin (O9 i g):=vI λl=>vI λs=>dc dx (vI λn=>dx)
def asl:∀{l t:G_}{w z:Int},bin (qg l t w z)
 |k::r,n::t,w,z=>dc (oa lY (oa (oa dx U3) U3)) asl
 |[],_,_,_=>lY
 |_::_,[],_,_=>lY
def anC:∀{l:H_}{t:J_}{w z:Int},bin (oz l t w z)
 |l::r,t::s,w,z=>by
  rw[oz];refine dc asl ?_;split
  .exact anC
  .exact lY
 |[],_,_,_=>lY
 |_::_,[],_,_=>lY
def aBI {sh:Bool}{l:AA_}:bin (zx sh l):=by
 refine dc dx ?_
 cases l with
 |nil=>exact lY
 |cons f r=>exact dc dx (vI λf=>dc dx (dc dx (oa lY (dc dx (dc dx (vI λc=>dx))))))
def ayF {i:Nat}{v:G_}:bin (Ar i v):=by
 refine oa U3 (dc U3 (dc (vI λv=>oa lY (oa ?_ ?_)) (vI λv=>oa (dc ?_ ?_) lY)))
 .intro x hx;simp at hx;omega
 .intro x hx;simp at hx;omega
 .intro x hx;rw[da hx];omega
 .intro x hx;rcases ay.1 hx with h|h
  .omega
  .exact dx x h
def aBa {r:Nat}{c:cJ}{q:Bool}:bin (DK r c q):=by
 refine dc dx (dc (oa lY anK) (dc ayM (dc anC (dc (oa ?_ ?_) (vI λp=>ayF)))))
 .intro x hx;simp only[ay,ba,co,d8]at hx;rcases hx with h|h|h|h
  .omega
  .omega
  .exact(vI λl=>aBI:bin (jF c.info.short c.tns)) x h
  .omega
 .intro x hx;simp at hx;omega
def adg {l:C_}:bin (bX l):=vI λn=>dx
def azn {l:U_}:bin (uQ l):=vI λn=>dx
def aDF {R:Nat}{n:Int}{f:eC}:bin (nq R n f):=by
 refine dc (dc (dc (dc (oa (dc dx dx) (oa (dc (dc (dc (dc (dc dx dx) dx) ?_) dx) azn) (dc (dc dx dx) dx))) (vI λc=>aBa)) (oa lY (dc dx (dc dx (dc (oa dx lY) adg))))) dx) ?_
 .unfold Vf;split
  .exact lY
  .exact anK
 .intro x hx;rw[da hx];omega
def aAF {n:Nat}:(n+MU n) % 8=0:=by unfold MU;omega
def aEh {R:Nat}{n:Int}{f:eC}:(nq R n f).length % 8=0:=by
 rw[nq,Bn,aj,bm];exact aAF
def X9:∀(k:Nat) {b:C_},b.length=8*k->bin b->∃l:C_,b=bX l∧∀x∈l,x<=255
 |0,b,h,_=>⟨[],by rw[ax h];rfl,s_⟩
 |k+1,b,h,hb=>by
  obtain⟨l,h1,h2⟩:=X9 k (b:=b.drop 8) (by rw[cM];omega) (λx hx=>hb x (bK hx));have hl:(b.take 8).length=8:=by rw[b7];omega
  have ht:bin (b.take 8):=λx hx=>hb x (dn hx)
  have hp:=U8 (n:=0) ht;have hv:=JS (n:=0) (i:=0) ht o_;rw[hl]at hp hv;refine⟨val (b.take 8) 0::l,?_,λx hx=>?_⟩
  .show b=ar _ 8++bX l;rw[hp,<-h1,aV]
  .rcases ay.1 hx with rfl|hx
   .simp at hv;omega
   .exact h2 x hx
def as9 (rt n:Int)(cb:Bool)(cz:Int)(f:eC)(hf:f.Fit)(X Y Z:AV)(hX:dZ X (dH f.chans))(hY:dZ Y (dj f.bands))(hZ:dZ Z (ai f.fill)) :
  (ox rt n∧sW rt.toNat n f∧((nq rt.toNat n f).length:Int)<=1536*n∧∀l:C_,nq rt.toNat n f=bX l->(∀x∈l,x<=255)->bh prog MD [jN rt n cb cz,qB f X Y Z]=some (.tup [.own true 1 (ai l),A_ 0]))∨
  (¬(ox rt n∧sW rt.toNat n f∧((nq rt.toNat n f).length:Int)<=1536*n)∧∃e:Int,e≠0∧bh prog Ai [jN rt n cb cz,qB f X Y Z]=some (A_ e)∧bh prog MD [jN rt n cb cz,qB f X Y Z]=some (.tup [.nl,A_ e])):=by
 have hC:=ata rt n cb cz f hf X Y Z hX hY hZ;obtain⟨⟨x1,x2,x3⟩,x4,x5⟩:=hX.facts;obtain⟨⟨y1,y2,y3⟩,y4,y5⟩:=hY.facts;obtain⟨⟨z1,z2,z3⟩,z4,z5⟩:=hZ.facts;obtain⟨⟨vx,ux⟩,wx⟩:=hX.one;obtain⟨⟨vy,uy⟩,wy⟩:=hY.one;obtain⟨⟨vz,uz⟩,wz⟩:=hZ.one;rcases hC with ⟨h1,h2,h3,hC⟩|⟨h1,e,he,hC⟩
 rotate_left
 .refine .inr ⟨h1,e,he,hC,?_⟩;simp only[jN,qB]at hC⊢;rw[aD V2 WB rfl];simp(maxSteps:=300000) (disch:=omega)[↓ac,↓aa,-bn,x1,x2,x3,x4,y1,y2,y3,y4,z1,z2,z3,z4,ux,uy,uz,vx,vy,vz,wx,wy,wz,hC,he]
 refine .inl ⟨h1,h2,h3,λl hw hl=>?_⟩;obtain⟨R,rfl⟩:=aB h1.1.1;simp only[au]at h2 h3 hw;have hR:R<=11:=by have:=h1.1.2;omega
 have hW:=Wn R hR n h1.2 cb cz f hf h2 X Y Z hX hY hZ;have hn:=h1.2;rw[hw]at hW h3;rw[fP]at h3;have hP:=aeh l o_ hl;simp only[jN,qB]at hC hW⊢;generalize ai (bX l)=B at *;rw[aD V2 WB rfl];simp(maxSteps:=300000) (disch:=omega)[↓ac,↓aa,-bn,x1,x2,x3,x4,y1,y2,y3,y4,z1,z2,z3,z4,ux,uy,uz,vx,vy,vz,wx,wy,wz,hC,hW,hP]
abbrev fcl (f:eC)(X Y Z:AV):D_:=[X,B_ f.common,A_ f.mask,Y,Z]
abbrev QT (f:eC)(X Y Z X' Y' Z':AV)(N:Nat):HS:=⟨[(0,.cells (fcl f X Y Z)),(1,.cells (fcl f X' Y' Z'))],N⟩
def ay5 (f:eC)(hf:f.Fit)(X Y Z X' Y' Z':AV)(hX:dZ X (dH f.chans))(hX':dZ X' (dH f.chans))(N:Nat):∀(r:AH_) (i:Nat),f.chans.drop i=r->
  (Dn prog).code (.loop lD) ⟨[(2,.ptr 0 0),(3,.ptr 1 0),(5,A_ i)],QT f X Y Z X' Y' Z' N⟩=some (.exit 0,⟨[(2,.ptr 0 0),(3,.ptr 1 0)],QT f X Y Z X' Y' Z' N⟩):=by
 intro r;have hl:=Eq (l:=f.chans);have hcl:=hf.chans.1
 induction r with
 |nil =>
  intro i hd;have hi:=aY hd;obtain⟨⟨x1,x2,x3⟩,x4,x5⟩:=hX.facts;rw[hl]at x5;simp only[QT,fcl];rw[ah yX];simp(maxSteps:=300000) (disch:=omega)[↓ac,↓aa,x1,x2,x5]
 |cons c r ih =>
  intro i hd;have hlt:=bw hd;have hg:=A8 hd;have hne:dH f.chans≠[]:=λh=>by have:=aT List.length h;rw[hl,bg]at this;omega
  have hxe:=hX.ne hne;have hxe':=hX'.ne hne;subst hxe hxe';have hcf:=hf.chans.2 c (bK (by rw[hd];exact .head _));have hS:=anX c hcf;have h5:=ih (i+1) (bu hd);have c1:((i+1:Nat):Int)=(i:Int)+1:=rfl;rw[c1]at h5;simp only[QT,fcl,cJ.av]at h5 hS⊢;rw[ah yX,<-h5];generalize dH f.chans=CC at *;simp(maxSteps:=300000) (disch:=omega)[↓ac,↓aa,-getElem?_pos,hg,hS,hl]
def ayw (f:eC)(hf:f.Fit)(X Z X' Z':AV)(N:Nat)(j:Nat)(l:U_)(q:S_)(hj:f.bands.drop j=l::q)(hl:l.length<=1000):∀(r:U_) (i:Nat),l.drop i=r->
  (Dn prog).code (.loop lJ) ⟨[(2,.ptr 0 0),(3,.ptr 1 0),(6,A_ j),(7,A_ i)],QT f X (.d (.lst (dj f.bands))) Z X' (.d (.lst (dj f.bands))) Z' N⟩=some (.exit 4,⟨[(2,.ptr 0 0),(3,.ptr 1 0),(6,A_ j)],QT f X (.d (.lst (dj f.bands))) Z X' (.d (.lst (dj f.bands))) Z' N⟩):=by
 intro r;have hg1:=xY hj;have hll:=tz (l:=l);have hjl:=bw hj;have hbl:=hf.bands.1
 induction r with
 |nil =>
  intro i hd;have hi:=aY hd;simp only[QT,fcl];rw[ah zp];simp(maxSteps:=300000) (disch:=omega)[↓ac,↓aa,-getElem?_pos,hg1,hll]
 |cons c r ih =>
  intro i hd;have hlt:=bw hd;have hg:=ann hd;have h5:=ih (i+1) (bu hd);have c1:((i+1:Nat):Int)=(i:Int)+1:=rfl;rw[c1]at h5;simp only[QT,fcl]at h5⊢;rw[ah zp,<-h5];generalize dj f.bands=BB at *;generalize gX l=B at *;simp(maxSteps:=300000) (disch:=omega)[↓ac,↓aa,-getElem?_pos,hg1,hg,hll]
def azr (f:eC)(hf:f.Fit)(X Y Z X' Y' Z':AV)(hY:dZ Y (dj f.bands))(hY':dZ Y' (dj f.bands))(N:Nat):∀(r:S_) (j:Nat),f.bands.drop j=r->
  (Dn prog).code (.loop lG) ⟨[(2,.ptr 0 0),(3,.ptr 1 0),(6,A_ j)],QT f X Y Z X' Y' Z' N⟩=some (.exit 2,⟨[],⟨[],N⟩⟩):=by
 intro r;have hl:=KE (t:=f.bands);have hbl:=hf.bands.1
 induction r with
 |nil =>
  intro i hd;have hi:=aY hd;obtain⟨⟨x1,x2,x3⟩,x4,x5⟩:=hY.facts;rw[hl]at x5;simp only[QT,fcl];rw[ah zg];simp(maxSteps:=300000) (disch:=omega)[↓ac,↓aa,x1,x2,x5]
 |cons c r ih =>
  intro i hd;have hlt:=bw hd;have hg:=xY hd;have hne:dj f.bands≠[]:=λh=>by have:=aT List.length h;rw[hl,bg]at this;omega
  have hxe:=hY.ne hne;have hxe':=hY'.ne hne;subst hxe hxe';have hcl:=hf.bands.2 c (bK (by rw[hd];exact .head _));have hll:=tz (l:=c);have h1:=ayw f hf X Z X' Z' N i c r hd hcl c 0 rfl;have h5:=ih (i+1) (bu hd);have c1:((i+1:Nat):Int)=(i:Int)+1:=rfl;have c0:((0:Nat):Int)=0:=rfl;rw[c1]at h5;rw[c0]at h1;simp only[QT,fcl]at h1 h5⊢;rw[ah zg,<-h5];generalize dj f.bands=BB at *;generalize gX c=B at *;simp(maxSteps:=300000) (disch:=omega)[↓ac,↓aa,-getElem?_pos,hg,h1,hl]
def ZZ (f:eC)(hf:f.Fit)(X Y Z X' Y' Z':AV)(hX:dZ X (dH f.chans))(hY:dZ Y (dj f.bands))(hZ:dZ Z (ai f.fill))(hX':dZ X' (dH f.chans))(hY':dZ Y' (dj f.bands))(hZ':dZ Z' (ai f.fill)) :
  bh prog DB [qB f X Y Z,qB f X' Y' Z']=some (B_ true):=by
 have h0:=ay5 f hf X Y Z X' Y' Z' hX hX' 2 f.chans 0 rfl;have h2:=azr f hf X Y Z X' Y' Z' hY hY' 2 f.bands 0 rfl;obtain⟨⟨x1,x2,x3⟩,x4,x5⟩:=hX.facts;obtain⟨⟨y1,y2,y3⟩,y4,y5⟩:=hY.facts;obtain⟨⟨z1,z2,z3⟩,z4,z5⟩:=hZ.facts;obtain⟨⟨a1,a2,a3⟩,a4,a5⟩:=hX'.facts;obtain⟨⟨b1,b2,b3⟩,b4,b5⟩:=hY'.facts;obtain⟨⟨d1,d2,d3⟩,d4,d5⟩:=hZ'.facts;have ts:∀{W:AV},dZ W (ai f.fill)->∀h,Ot h W=some (.str (f.fill.map Nat.toUInt8)):=λ{W} hW h=>by
  rcases hW with rfl|⟨rfl,e⟩
  .exact IJ
  .have:f.fill=[]:=ax (by rw[<-bx (l:=f.fill),e];rfl);rw[this];rfl
 have t1:=ts hZ;have t2:=ts hZ';have c0:((0:Nat):Int)=0:=rfl;rw[c0]at h0 h2;simp only[QT,fcl,qB]at h0 h2⊢;rw[aD PF PN rfl];simp(maxSteps:=300000) (disch:=omega)[↓ac,↓aa,-bn,x1,x2,x3,x4,x5,y1,y2,y3,y4,y5,z1,z2,z3,z4,z5,a1,a2,a3,a4,a5,b1,b2,b3,b4,b5,d1,d2,d3,d4,d5,t1,t2,h0,h2]
def amV {w:AV}{b:Bool}(e:iY w=B_ b):w=B_ b:=by
 unfold iY at e;split at e
 .cases w<;>simp[qJ,q7,og]at e⊢<;>exact e
 .exact e
def auv {h:am}{v:AV}{b:Bool}(e:io h v=some (B_ b)):v=B_ b:=by
 unfold io at e;split at e
 .split at e
  .simp only[ae]at e;exact absurd (amV e) (by simp)
  .simp at e
 .split at e
  .rename_i x q hq;simp only[ae]at e;have hx:=amV e;subst hx;unfold ge at hq;split at hq
   .split at hq<;>simp at hq
   .unfold j6 at hq;split at hq
    .simp only[ae,aP]at hq;exact hq.1
    .simp at hq
    .simp at hq
    .split at hq
     .split at hq<;>simp at hq
     .simp at hq
    .simp at hq
  .simp at e
def aof {P:Nat->Z_}{f:FuncId}{as:D_}{b:Bool}(h:bh P f as=some (B_ b)):∃m hs,(run P m).call f as ⟨[],0⟩=some (B_ b,hs):=by
 unfold bh at h
 cases hc:(Dn P).call f as ⟨[],0⟩ with
 |none=>rw[hc]at h;simp[uL]at h
 |some q =>
  obtain⟨v,hs⟩:=q;rw[hc]at h;have:=auv h;subst this;obtain⟨m,hm⟩:=Fr hc;exact⟨m,hs,hm⟩
def awO:∀{a b:W_},a.map AV.d=b.map AV.d->a=b
 |[],[],_=>rfl
 |[],_::_,h=>by simp at h
 |_::_,[],h=>by simp at h
 |x::a,y::b,h=>by
  simp only[bY,List.cons.injEq,AV.d.injEq]at h;rw[h.1,awO h.2]
def agF:BG_:=[.int .i64,.int .i64,.bool,.int .i64]
def agx:BG_:=[.lst awn,.bool,.int .i64,.lst [.lst [.bool]],.lst [.int .u8]]
structure eC.Rng (f:eC):Prop where
 chans:∀c∈f.chans,c.Rng
 mask:i64 f.mask
 fill:∀n∈f.fill,n<=255
def acb {d:D}(h:tk (.lst [.int .u8]) d):∃l:C_,d=.lst (ai l)∧∀n∈l,n<=255:=by
 obtain⟨xs,rfl,h⟩:=JN h;obtain⟨l,rfl,hl⟩:=Bw (f:=λn:Nat=>[.int .u8 (n:Int)]) (Q:=λn=>n<=255) (λx hx=>by
  obtain⟨d,rfl,hd⟩:=Be hx;obtain⟨n,rfl,hn⟩:=apt hd;exact⟨n,rfl,hn⟩) h
 exact⟨l,rfl,hl⟩
def aAe {x:W_}(h:OkDs agx x):∃f:eC,x.map .d=f.av∧f.Rng:=by
 obtain⟨a1,r,rfl,h1,h⟩:=sH h;obtain⟨a2,r,rfl,h2,h⟩:=sH h;obtain⟨a3,r,rfl,h3,h⟩:=sH h;obtain⟨a4,r,rfl,h4,h⟩:=sH h;obtain⟨a5,rfl,h5⟩:=Be h;obtain⟨xs,rfl,h1⟩:=JN h1;obtain⟨l1,rfl,g1⟩:=Bw (f:=cJ.cells) (Q:=cJ.Rng) (λx hx=>by
  obtain⟨c,e,hc⟩:=azW hx;exact⟨c,awO e,hc⟩) h1
 obtain⟨b2,rfl⟩:=NV h2;obtain⟨n3,rfl,g3⟩:=qM h3;obtain⟨xs,rfl,h4⟩:=JN h4;obtain⟨l4,rfl,g4⟩:=Bw (f:=λr:U_=>[.lst (gX r)]) (Q:=λ_=>True) (λx hx=>by
  obtain⟨d,rfl,hd⟩:=Be hx;obtain⟨ys,rfl,hd⟩:=JN hd;obtain⟨l,rfl,_⟩:=Bw (f:=λb:Bool=>[.bool b]) (Q:=λ_=>True) (λx hx=>by
   obtain⟨d,rfl,hd⟩:=Be hx;obtain⟨b,rfl⟩:=NV hd;exact⟨b,rfl,trivial⟩) hd
  exact⟨l,rfl,trivial⟩) h4
 obtain⟨l5,rfl,g5⟩:=acb h5;exact⟨⟨l1,b2,n3,l4,l5⟩,rfl,g1,g3,g5⟩
def eC.Rng.fit {f:eC}(h:f.Rng)(s:aax f):f.Fit where
 chans:=⟨by have:=s.chans.1;omega,λc hc=>(h.chans c hc).fit (s.chans.2 c hc)⟩
 mask:=h.mask
 bands:=⟨by have:=s.bands.1;omega,λl hl=>by have:=s.bands.2 l hl;omega⟩
 fill:=by have:=s.fill;omega
 fillI:=h.fill
def aAy {x:W_}(h:OkDs agF x):∃(rt n:Int) (cb:Bool) (cz:Int),x.map AV.d=[AV.d (.int .i64 rt),A_ n,B_ cb,A_ cz]:=by
 obtain⟨a1,r,rfl,h1,h⟩:=sH h;obtain⟨a2,r,rfl,h2,h⟩:=sH h;obtain⟨a3,r,rfl,h3,h⟩:=sH h;obtain⟨a4,rfl,h4⟩:=Be h;obtain⟨n1,rfl,_⟩:=qM h1;obtain⟨n2,rfl,_⟩:=qM h2;obtain⟨b3,rfl⟩:=NV h3;obtain⟨n4,rfl,_⟩:=qM h4;exact⟨n1,n2,b3,n4,rfl⟩
def aDM {R:Nat}{n:Int}{f:eC}:At (nq R n f) 0 (Cx R n f).length (Cx R n f):=⟨dA _,o_,_,rfl⟩
def arv {R:Nat}(hR:R<=11){n:Int}(hn:n=1∨n=2){f:eC}(hf:f.Fit)(ok:sW R n f):QH (nq R n f) R n=.ok f (Cx R n f).length:=by
 have hl:(nq R n f).length=(Cx R n f).length+MU (Cx R n f).length:=by
  show(Bn (Cx R n f)).length=_;rw[Bn,aj,bm]
 have hd:(nq R n f).drop (Cx R n f).length=List.replicate (MU (Cx R n f).length) 0:=by
  show(Bn (Cx R n f)).drop _=_;rw[Bn,w9]
 have hp:MU (Cx R n f).length<=7:=by unfold MU;omega
 rw[QH,ar6 hR hn hf ok aDM,az,ac];refine⟨o_,?_⟩;rw[hd];intro h;have:=da h;omega
def Xx {h:am}{l:C_}{a:Nat}(ha:a<=l.length)(hl:l.length<=1000000000):mR h 1 (.d (.lst (ai l))) none (some (A_ (a:Int))) none=some (.d (.lst (ai (l.take a)))):=by
 have e2:ej (A_ (a:Int)) (ai l).length=some a:=by rw[yK o_ (by rw[bx];omega)];simp
 have e3:Gt 1 (ai l)=true:=by cases l<;>rfl
 simp only[mR,okSl,vR,lenOf,xu,wR,e2,e3,sub];have e4:((ai l).drop 0).take (a-0)=ai (l.take a):=by
  unfold ai;rw[mW,Nat.sub_zero,List.map_take]
 rw[e4]
structure mU where
 rate:Int
 chans:Int
 crc:Bool
 len:Int
 full:Int
abbrev mU.cells (h:mU):D_:=[A_ h.rate,A_ h.chans,B_ h.crc,A_ h.len,A_ h.full]
abbrev Bs:mU:=⟨0,0,false,0,0⟩
def dG (c:Bool):Nat:=if c then 9 else 7
def Lm (c:Bool):bh prog MQ [B_ c]=some (A_ (dG c)):=by
 rw[aD akS al5 rfl]
 cases c
 .simp(maxSteps:=300000) (disch:=omega)[↓ac,↓aa,dG]
 .simp(maxSteps:=300000) (disch:=omega)[↓ac,↓aa,dG]
def ln (h:mU):Prop:=(0<=h.rate∧h.rate<=11)∧(h.chans=1∨h.chans=2)∧(0<=h.full∧h.full<=2047)∧(dG h.crc:Int)<h.len∧h.len<=dG h.crc+192*h.chans
instance (h:mU):Decidable (ln h):=by unfold ln;infer_instance
def Z9 (h:mU):bh prog Sv [.agg h.cells]=some (B_ (decide (ln h))):=by
 obtain⟨r,n,c,l,f⟩:=h;have hs:=Lm c;have h79:dG c=7∨dG c=9:=by cases c<;>simp[dG]
 rw[aD aix agU rfl];by_cases h1:0<=r
 rotate_left
 .rw[decide_eq_false (by simp only[ln];omega)];generalize dG c=S at *;simp(maxSteps:=300000) (disch:=omega)[↓ac,↓aa,hs]
 by_cases h2:r<=11
 rotate_left
 .rw[decide_eq_false (by simp only[ln];omega)];generalize dG c=S at *;simp(maxSteps:=300000) (disch:=omega)[↓ac,↓aa,hs]
 by_cases h3:n=1∨n=2
 rotate_left
 .rw[decide_eq_false (by simp only[ln];omega)];generalize dG c=S at *;simp(maxSteps:=300000) (disch:=omega)[↓ac,↓aa,hs]
 by_cases h4:0<=f
 rotate_left
 .rw[decide_eq_false (by simp only[ln];omega)];generalize dG c=S at *;rcases h3 with rfl|rfl<;>simp(maxSteps:=300000) (disch:=omega)[↓ac,↓aa,hs]
 by_cases h5:f<=2047
 rotate_left
 .rw[decide_eq_false (by simp only[ln];omega)];generalize dG c=S at *;rcases h3 with rfl|rfl<;>simp(maxSteps:=300000) (disch:=omega)[↓ac,↓aa,hs]
 by_cases h6:(dG c:Int)<l
 rotate_left
 .rw[decide_eq_false (by simp only[ln];omega)];generalize dG c=S at *;rcases h3 with rfl|rfl<;>simp(maxSteps:=300000) (disch:=omega)[↓ac,↓aa,hs]
 by_cases h7:l<=dG c+192*n
 .rw[decide_eq_true (by simp only[ln];omega)];generalize dG c=S at *;rcases h3 with rfl|rfl<;>simp(maxSteps:=300000) (disch:=omega)[↓ac,↓aa,hs]
 .rw[decide_eq_false (by simp only[ln];omega)];generalize dG c=S at *;rcases h3 with rfl|rfl<;>simp(maxSteps:=300000) (disch:=omega)[↓ac,↓aa,hs]
def ab1 {l:C_}{i x:Nat}{r:C_}(h:l.drop i=x::r):(ai l)[i]?=some [.int .u8 (x:Int)]:=by
 have:=aT (λl=>l[0]?) h;simp only[cf,b9,dX]at this;exact oO this
def auj (x y:C_)(hl:x.length=y.length)(hx:x.length<=1000000):∀(r s:C_) (i:Nat),x.drop i=r->y.drop i=s->
  (Dn prog).code (.loop lK) ⟨[(0,.d (.lst (ai x))),(1,.d (.lst (ai y))),(12,A_ x.length),(13,A_ i)],⟨[],0⟩⟩ =
  if r=s then some (.exit 0,⟨[],⟨[],0⟩⟩) else some (.ret,⟨[(4,B_ false)],⟨[],0⟩⟩):=by
 intro r
 induction r with
 |nil =>
  intro s i h1 h2;have hi:=aY h1;have hs:s=[]:=by rw[<-h2];exact cm (by omega)
  rw[hs,ac rfl,ah zk];simp(maxSteps:=300000) (disch:=omega)[↓ac,↓aa]
 |cons a r ih =>
  intro s i h1 h2;have hi:=bw h1;obtain⟨b,s,rfl⟩:∃b s',s=b::s':=by
   cases s with
   |nil=>have:=aY h2;omega
   |cons b s=>exact⟨b,s,rfl⟩
  have g1:=ab1 h1;have g2:=ab1 h2;have d1:x.drop (i+1)=r:=by rw[<-gb,h1];rfl
  have d2:y.drop (i+1)=s:=by rw[<-gb,h2];rfl
  have ih1:=ih s (i+1) d1 d2;rw[show((i+1:Nat):Int)=(i:Int)+1 from rfl]at ih1;rw[ah zk];by_cases hab:a=b
  .subst hab;have e:(a::r=a::s)=(r=s):=s_;simp only[e];rw[<-ih1];simp(maxSteps:=300000) (disch:=omega)[↓ac,↓aa,g1,g2]
  .have e:¬(a::r=b::s):=by simp[hab]
   rw[aa e];simp(maxSteps:=300000) (disch:=omega)[↓ac,↓aa,g1,g2,hab]
def ap2 (x y:C_)(hx:x.length<=1000000)(hy:y.length<=1000000):bh prog DH [.d (.lst (ai x)),.d (.lst (ai y))]=some (B_ (decide (x=y))):=by
 have hxl:=bx (l:=x);have hyl:=bx (l:=y);rw[aD Pb Pz rfl];by_cases h:x.length=y.length
 .have h0:=auj x y h hx x y 0 rfl rfl;have c0:((0:Nat):Int)=0:=rfl;rw[c0]at h0;by_cases e:x=y
  .rw[ac e]at h0;rw[decide_eq_true e];generalize ai x=X at *;generalize ai y=Y at *;simp(maxSteps:=300000) (disch:=omega)[↓ac,↓aa,h0,hxl,hyl]
  .rw[aa e]at h0;rw[decide_eq_false e];generalize ai x=X at *;generalize ai y=Y at *;simp(maxSteps:=300000) (disch:=omega)[↓ac,↓aa,h0,hxl,hyl]
 .rw[decide_eq_false (λe=>h (by rw[e]))];generalize ai x=X at *;generalize ai y=Y at *;simp(maxSteps:=300000) (disch:=omega)[↓ac,↓aa,hxl,hyl]
def cN (c:Bool):Int:=if c then 0 else 1
def pq (h:mU):G_:=[4095,12,0,1,0,2,cN h.crc,1,1,2,h.rate,4,0,1,h.chans,3,0,1,0,1,0,2,h.len,13,h.full,11,0,2]
def Rx (h:mU):D_:=(pq h).map λn=>A_ n
def Wy (h:mU):bh prog afk [.agg h.cells]=some (.agg (Rx h)):=by
 obtain⟨r,n,c,l,f⟩:=h
 cases c
 .exact BJ 300 (by kernel_rfl)
 .exact BJ 300 (by kernel_rfl)
def fB (h:mU)(i:Nat):C_:=ar ((pq h).getD (2*i) 0).toNat ((pq h).getD (2*i+1) 0).toNat
def jO (h:mU)(i:Nat):C_:=(List.range i).flatMap (fB h)
def ajN {h:mU}{i:Nat}:jO h (i+1)=jO h i++fB h i:=by
 rw[jO,List.range_succ,List.flatMap_append];simp[jO]
def aAC {h:mU}:∀{i:Nat},i<14->(fB h i).length<=13:=by
 intro i hi;rw[fB,dk];obtain rfl|rfl|rfl|rfl|rfl|rfl|rfl|rfl|rfl|rfl|rfl|rfl|rfl|rfl:i=0∨i=1∨i=2∨i=3∨i=4∨i=5∨i=6∨i=7∨i=8∨i=9∨i=10∨i=11∨i=12∨i=13:=o_
 all_goals simp[pq]
def acV {h:mU}:∀{i:Nat},i<=14->(jO h i).length<=13*i
 |0,_=>by simp[jO]
 |i+1,hi=>by
  have h1:=acV (h:=h) (i:=i) o_;have h2:=aAC (h:=h) (i:=i) o_;rw[ajN,aj];omega
def axB {h:mU}(ok:ln h){i:Nat}(hi:i<14):ou ((pq h).getD (2*i) 0) ((pq h).getD (2*i+1) 0)∧(pq h).getD (2*i) 0<=10000:=by
 obtain⟨r,n,c,l,f⟩:=h;simp only[ln]at ok;have h79:dG c=7∨dG c=9:=by cases c<;>simp[dG]
 have hc:cN c=0∨cN c=1:=by cases c<;>simp[cN]
 obtain rfl|rfl|rfl|rfl|rfl|rfl|rfl|rfl|rfl|rfl|rfl|rfl|rfl|rfl:i=0∨i=1∨i=2∨i=3∨i=4∨i=5∨i=6∨i=7∨i=8∨i=9∨i=10∨i=11∨i=12∨i=13:=o_
 all_goals simp[pq,ou];try omega
def OY {h:mU}:(Rx h).map oE=Rx h∧shareAll (Rx h)=Rx h:=⟨rfl,rfl⟩
def aq2 {h:mU}{i:Nat}(hi:i<14):ixV 14 2 true (.agg (Rx h)) (A_ i)=some (.agg [A_ ((pq h).getD (2*i) 0),A_ ((pq h).getD (2*i+1) 0)]):=by
 obtain rfl|rfl|rfl|rfl|rfl|rfl|rfl|rfl|rfl|rfl|rfl|rfl|rfl|rfl:i=0∨i=1∨i=2∨i=3∨i=4∨i=5∨i=6∨i=7∨i=8∨i=9∨i=10∨i=11∨i=12∨i=13:=o_
 all_goals rfl
def alb (h:mU)(ok:ln h):∀(k i N:Nat) (x:AV),i+k=14->(x=.nl∧i=0∨x=.own false 1 (ai (jO h i))∧0<i)->
  ∃M,(Dn prog).code (.loop rQ) ⟨[(2,x),(6,.agg (Rx h)),(7,A_ i)],⟨[],N⟩⟩=some (.exit 0,⟨[(2,.own false 1 (ai (jO h 14)))],⟨[],M⟩⟩):=by
 intro k
 induction k with
 |zero =>
  intro i N x hi hx;obtain rfl:i=14:=o_;rcases hx with ⟨_,hx⟩|⟨rfl,_⟩
  .omega
  refine⟨N,?_⟩;rw[ah Ia];generalize ai (jO h 14)=W at *;simp(maxSteps:=300000) (disch:=omega)[↓ac,↓aa]
 |succ k ih =>
  intro i N x hi hx;have hP:=axB ok (i:=i) o_;have hX:=aq2 (h:=h) (i:=i) o_;have hlw:=acV (h:=h) (i:=i) o_;obtain⟨M,ih1⟩:=ih (i+1) (N+1) (.own false 1 (ai (jO h (i+1)))) o_ (.inr ⟨rfl,o_⟩);refine⟨M,?_⟩;rw[show((i+1:Nat):Int)=(i:Int)+1 from rfl,ajN]at ih1;have hB:∀y:AV,(y=.d (.lst (ai (jO h i)))∨y=.nl∧jO h i=[])->bh prog yr [y,A_ ((pq h).getD (2*i) 0),A_ ((pq h).getD (2*i+1) 0)]=some (.tup [.own true 1 (ai (jO h i++fB h i)),A_ 0]):=λy hy=>by
   have:=me (jO h i) ((pq h).getD (2*i) 0) ((pq h).getD (2*i+1) 0) o_ (by have:=hP.1;have:=hP.2;simp only[ou]at *;omega) y hy;rw[ac hP.1]at this;exact this
  have hwl:=bx (l:=jO h i);rw[<-ih1];clear ih ih1;obtain⟨hfm,hfs⟩:=OY (h:=h);rw[ah Ia];generalize jO h i++fB h i=Q at *;generalize (pq h).getD (2*i) 0=A at *;generalize (pq h).getD (2*i+1) 0=B at *;generalize Rx h=F at *;rcases hx with ⟨rfl,rfl⟩|⟨rfl,h0⟩
  .have hb:=hB .nl (.inr ⟨rfl,rfl⟩);have c0:((0:Nat):Int)=0:=rfl;rw[c0]at hX⊢;simp(maxSteps:=300000) (disch:=omega)[↓ac,↓aa,hfm,hfs,hX,hb]
  .have hb:=hB (.d (.lst (ai (jO h i)))) (.inl rfl);generalize ai (jO h i)=Z at *;generalize ai Q=V at *;simp(maxSteps:=300000) (disch:=omega)[↓ac,↓aa,hfm,hfs,hX,hb]
def TS (h:mU)(ok:ln h):bh prog FW [.agg h.cells]=some (.own true 1 (ai (jO h 14))):=by
 have hf:=Wy h;obtain⟨M,hl⟩:=alb h ok 14 0 1 .nl rfl (.inl ⟨rfl,rfl⟩);have c0:((0:Nat):Int)=0:=rfl;obtain⟨hfm,hfs⟩:=OY (h:=h);rw[c0]at hl;rw[aD adm aca rfl];generalize Rx h=F at *;simp(maxSteps:=300000) (disch:=omega)[↓ac,↓aa,hf,hfm,hfs,hl]
def gv (l:C_)(a s:Nat):Nat:=val ((l.drop a).take s) 0
def aEd {l:C_}(hl:l.length=56)(hb:bin l){a s:Nat}(h:a+s<=56)(hs:s<=31):bh prog yh [.d (.lst (ai l)),A_ a,A_ s]=some (.tup [A_ (gv l a s),A_ ((a+s:Nat):Int),A_ 0]):=by
 have hd:bin ((l.drop a).take s):=λx hx=>hb x (bK (dn hx))
 have hg:bf l (a:Int) (s:Int)=.ok (gv l a s) (a+s):=by
  unfold bf;rw[ac o_,aa o_,au,au,ac hd];rfl
 have hv:gv l a s<2 ^ s:=by
  have:=JS (n:=0) (i:=0) hd o_;have e:((l.drop a).take s).length=s:=by rw[b7,cM];omega
  rw[e,bv]at this;exact this
 rw[gY l a s o_ o_,hg,fe ⟨by rw[au];exact hv,o_⟩]
def DX (l:C_)(i:Nat):mU:=⟨if 5<i then gv l 18 4 else 0,if 7<i then gv l 23 3 else 0,if 3<i then decide (gv l 15 1=0) else false,if 11<i then gv l 30 13 else 0,if 12<i then gv l 43 11 else 0⟩
def mf (l:C_):mU:=⟨gv l 18 4,gv l 23 3,decide (gv l 15 1=0),gv l 30 13,gv l 43 11⟩
def xp:C_:=[0,12,13,15,16,18,22,23,26,27,28,30,43,54,56]
def axJ (X:AV)(l:C_)(hl:l.length=56)(hb:bin l):∀(k i N:Nat),i+k=14->1<=N->
  ∃M,N<=M∧(Dn prog).code (.loop yj) ⟨[(0,X),(2,.ptr 0 0),(4,.own false 1 (ai l)),(6,A_ (xp.getD i 0)),(23,.agg (Rx Bs)),(24,A_ i)],⟨[(0,.cells (DX l i).cells)],N⟩⟩ =
   some (.exit 0,⟨[(0,X),(2,.ptr 0 0),(4,.own false 1 (ai l))],⟨[(0,.cells (mf l).cells)],M⟩⟩):=by
 intro k
 induction k with
 |zero =>
  intro i N hi hN;obtain rfl:i=14:=o_;refine⟨N,al _,?_⟩;rw[ah Oj];generalize ai l=W at *;simp(maxSteps:=300000) (disch:=omega)[↓ac,↓aa,DX,mf]
 |succ k ih =>
  intro i N hi hN;have hg:=λa s h1 h2=>aEd hl hb (a:=a) (s:=s) h1 h2
  obtain⟨M,hM,ih1⟩:=ih (i+1) (N+1) o_ o_;refine⟨M,o_,?_⟩;rw[show((i+1:Nat):Int)=(i:Int)+1 from rfl]at ih1;rw[<-ih1];clear ih ih1;rw[ah Oj];obtain⟨hfm,hfs⟩:=OY (h:=Bs);have hX:=aq2 (h:=Bs) (i:=i) o_;generalize Rx Bs=F at *;generalize ai l=W at *;obtain rfl|rfl|rfl|rfl|rfl|rfl|rfl|rfl|rfl|rfl|rfl|rfl|rfl|rfl:i=0∨i=1∨i=2∨i=3∨i=4∨i=5∨i=6∨i=7∨i=8∨i=9∨i=10∨i=11∨i=12∨i=13:=o_
  .have h:=hg 0 12 o_ o_;simp at h;simp[pq,cN]at hX;simp(maxSteps:=300000) (disch:=omega)[↓ac,↓aa,DX,xp,hfm,hfs,hX,h]
  .have h:=hg 12 1 o_ o_;simp at h;simp[pq,cN]at hX;simp(maxSteps:=300000) (disch:=omega)[↓ac,↓aa,DX,xp,hfm,hfs,hX,h]
  .have h:=hg 13 2 o_ o_;simp at h;simp[pq,cN]at hX;simp(maxSteps:=300000) (disch:=omega)[↓ac,↓aa,DX,xp,hfm,hfs,hX,h]
  .have h:=hg 15 1 o_ o_;simp at h;simp[pq,cN]at hX;by_cases hz:gv l 15 1=0
   .rw[hz]at h;simp(maxSteps:=300000) (disch:=omega)[↓ac,↓aa,DX,xp,hfm,hfs,hX,h,hz]
   .simp(maxSteps:=300000) (disch:=omega)[↓ac,↓aa,DX,xp,hfm,hfs,hX,h,hz]
  .have h:=hg 16 2 o_ o_;simp at h;simp[pq,cN]at hX;simp(maxSteps:=300000) (disch:=omega)[↓ac,↓aa,DX,xp,hfm,hfs,hX,h]
  .have h:=hg 18 4 o_ o_;simp at h;simp[pq,cN]at hX;simp(maxSteps:=300000) (disch:=omega)[↓ac,↓aa,DX,xp,hfm,hfs,hX,h]
  .have h:=hg 22 1 o_ o_;simp at h;simp[pq,cN]at hX;simp(maxSteps:=300000) (disch:=omega)[↓ac,↓aa,DX,xp,hfm,hfs,hX,h]
  .have h:=hg 23 3 o_ o_;simp at h;simp[pq,cN]at hX;simp(maxSteps:=300000) (disch:=omega)[↓ac,↓aa,DX,xp,hfm,hfs,hX,h]
  .have h:=hg 26 1 o_ o_;simp at h;simp[pq,cN]at hX;simp(maxSteps:=300000) (disch:=omega)[↓ac,↓aa,DX,xp,hfm,hfs,hX,h]
  .have h:=hg 27 1 o_ o_;simp at h;simp[pq,cN]at hX;simp(maxSteps:=300000) (disch:=omega)[↓ac,↓aa,DX,xp,hfm,hfs,hX,h]
  .have h:=hg 28 2 o_ o_;simp at h;simp[pq,cN]at hX;simp(maxSteps:=300000) (disch:=omega)[↓ac,↓aa,DX,xp,hfm,hfs,hX,h]
  .have h:=hg 30 13 o_ o_;simp at h;simp[pq,cN]at hX;simp(maxSteps:=300000) (disch:=omega)[↓ac,↓aa,DX,xp,hfm,hfs,hX,h]
  .have h:=hg 43 11 o_ o_;simp at h;simp[pq,cN]at hX;simp(maxSteps:=300000) (disch:=omega)[↓ac,↓aa,DX,xp,hfm,hfs,hX,h]
  .have h:=hg 54 2 o_ o_;simp at h;simp[pq,cN]at hX;simp(maxSteps:=300000) (disch:=omega)[↓ac,↓aa,DX,xp,hfm,hfs,hX,h]
def ip (b:C_):Int:=if b.length<7∨b.length<dG (mf (bX (b.take 7))).crc then 5 else if ln (mf (bX (b.take 7)))∧jO (mf (bX (b.take 7))) 14=bX (b.take 7) then 0 else 8
def bJ (b:C_):mU:=if ip b=0 then mf (bX (b.take 7)) else Bs
def Lx (b:C_)(hb:b.length<=100000)(hb2:∀x∈b,x<=255)(X:AV)(hX:dZ X (ai b)):bh prog Xc [X]=some (.tup [.agg (bJ b).cells,A_ (ip b)]):=by
 obtain⟨⟨x1,x2,x3⟩,x4,x5⟩:=hX.facts;rw[bx]at x5;by_cases h7:b.length<7
 .have e:ip b=5:=by rw[ip,ac (.inl h7)]
  have e2:bJ b=Bs:=by rw[bJ,e,aa k_]
  rw[e,e2,aD WS Ws rfl];simp(maxSteps:=300000) (disch:=omega)[↓ac,↓aa,x1,x2,x3,x4,x5]
 have hne:ai b≠[]:=λh=>by
  have:=aT List.length h;rw[bx,bg]at this;omega
 rw[hX.ne hne];have hs7:∀h,mR h 1 (.d (.lst (ai b))) none (some (A_ 7)) none=some (.d (.lst (ai (b.take 7)))):=λh=>Xx (h:=h) (a:=7) o_ (by omega)
 have hU:=Gd (b.take 7) (by rw[b7];omega) (λx hx=>hb2 x (dn hx)) _ dZ.d;have hbl:=bx (l:=b);obtain⟨l,hl⟩:∃l,l=bX (b.take 7):=⟨_,rfl⟩
 have hl56:l.length=56:=by rw[hl,fP,b7];omega
 have hbin:bin l:=by rw[hl];exact adg
 rw[<-hl]at hU;have hf:=Wy Bs;obtain⟨M,hM,h0⟩:=axJ (.d (.lst (ai b))) l hl56 hbin 14 0 1 rfl o_;have c0:((0:Nat):Int)=0:=rfl;have hi0:DX l 0=Bs:=by simp[DX]
 have ho0:((xp.getD 0 0:Nat):Int)=0:=rfl;rw[c0,hi0,ho0]at h0;have hS:=Lm (mf l).crc;have hR:=Z9 (mf l);have hW:ln (mf l)->bh prog FW [.agg (mf l).cells]=some (.own true 1 (ai (jO (mf l) 14))):=TS _;have hwl:=acV (h:=mf l) (i:=14) o_;have hE:=ap2 (jO (mf l) 14) l o_ o_;have h79:dG (mf l).crc=7∨dG (mf l).crc=9:=by cases (mf l).crc<;>simp[dG]
 have eE:ip b=if b.length<dG (mf l).crc then 5 else if ln (mf l)∧jO (mf l) 14=l then 0 else 8:=by
  rw[ip,<-hl];by_cases hq:b.length<dG (mf l).crc
  .rw[ac (Or.inr hq),ac hq]
  .rw[aa o_,aa hq]
 have eH:bJ b=if ip b=0 then mf l else Bs:=by rw[bJ,<-hl]
 rw[eH,eE];clear eH eE;obtain⟨hfm,hfs⟩:=OY (h:=Bs);generalize Rx Bs=F at *;generalize mf l=h at *;obtain⟨r,n,c,len,fu⟩:=h;simp only[]at hS h79⊢;generalize dG c=S at *;rw[aD WS Ws rfl];generalize ai (b.take 7)=T7 at *;generalize ai b=B at *;generalize ai l=L at *;by_cases h1:b.length<S
 .rw[ac h1,aa (show ¬(5:Int)=0 by decide)];simp(maxSteps:=300000) (disch:=omega)[↓ac,↓aa,hs7,hU,hf,hfm,hfs,h0,hS,hR,hE,hbl]
 .rw[aa h1];by_cases h2:ln ⟨r,n,c,len,fu⟩
  .have hW:=hW h2;rw[decide_eq_true h2]at hR;by_cases h3:jO ⟨r,n,c,len,fu⟩ 14=l
   .rw[ac (And.intro h2 h3),ac rfl];rw[decide_eq_true h3]at hE;generalize ai (jO ⟨r,n,c,len,fu⟩ 14)=W at *;simp(maxSteps:=300000) (disch:=omega)[↓ac,↓aa,hs7,hU,hf,hfm,hfs,h0,hS,hR,hW,hE,hbl]
   .rw[aa (λh=>h3 (And.right h)),aa (show ¬(8:Int)=0 by decide)];rw[decide_eq_false h3]at hE;generalize ai (jO ⟨r,n,c,len,fu⟩ 14)=W at *;simp(maxSteps:=300000) (disch:=omega)[↓ac,↓aa,hs7,hU,hf,hfm,hfs,h0,hS,hR,hW,hE,hbl]
  .rw[aa (λh=>h2 (And.left h)),aa (show ¬(8:Int)=0 by decide)];rw[decide_eq_false h2]at hR;simp(maxSteps:=300000) (disch:=omega)[↓ac,↓aa,hs7,hU,hf,hfm,hfs,h0,hS,hR,hbl]
def Iq (w x:Nat):Nat:=if w / 32768=x then 2*w % 65536 else (2*w % 65536) ^^^ 32773
def ajW {w x:Nat}:Iq w x<65536:=by
 unfold Iq;split
 .omega
 .exact Nat.xor_lt_two_pow (n:=16) o_ (by omega)
def avL (w x:Nat)(hw:w<65536)(hx:x<=1)(N:Nat):(Dn prog).call Jh [.d (.int .u8 x),.ptr 0 0] ⟨[(0,.cells [.d (.int .u16 w)])],N⟩=some (.tup [],⟨[(0,.cells [.d (.int .u16 (Iq w x))])],N⟩):=by
 have e1:(w:Int).fdiv 32768=((w / 32768:Nat):Int):=by rw[fD _ o_];rfl
 have e3:((w:Int)*2) % 65536=((2*w % 65536:Nat):Int):=o_;have hq:w / 32768<=1:=o_;have tn:kr .u16=65536:=rfl;have hx2:=aAq (k:=.u16) (a:=2*w % 65536) (b:=32773) (by rw[tn];omega) (by rw[tn];omega) (by rw[tn];exact Nat.xor_lt_two_pow (x:=2*w % 65536) (y:=32773) (n:=16) o_ o_);have hw2:wr .u16 ((w:Int)*2)=((2*w % 65536:Nat):Int):=by
  rw[acg,<-e3];rfl
 have c2:((32773:Nat):Int)=32773:=rfl;rw[c2]at hx2;unfold Iq;generalize hd:2*w % 65536=d at *;generalize hy:d ^^^ 32773=y at *;generalize hqq:w / 32768=q at *;have hdl:d<65536:=o_;rw[bb aiu ajf rfl];by_cases h:q=x
 .subst h;simp(maxSteps:=300000) (disch:=omega)[↓ac,↓aa,e1,hw2]
 .have h2:¬(q:Int)=x:=o_;rw[aa h];simp(maxSteps:=300000) (disch:=omega)[↓ac,↓aa,e1,hw2,h2,hx2]
def aAw (b:C_)(hb:bin b)(hl:b.length<=1000000):∀(r:C_) (i w:Nat),b.drop i=r->w<65536->
  (Dn prog).code (.loop AL) ⟨[(6,.ptr 0 0),(7,.fn Jh [] [.ptr 0 0]),(19,.d (.lst (ai b))),(20,A_ b.length),(21,A_ i)],⟨[(0,.cells [.d (.int .u16 w)])],1⟩⟩ =
  some (.exit 0,⟨[(6,.ptr 0 0)],⟨[(0,.cells [.d (.int .u16 ((r.foldl Iq w:Nat):Int))])],1⟩⟩):=by
 intro r
 induction r with
 |nil =>
  intro i w h1 hw;have hi:=aY h1;rw[ah Q0];simp(maxSteps:=300000) (disch:=omega)[↓ac,↓aa]
 |cons a r ih =>
  intro i w h1 hw;have hi:=bw h1;have g1:=ab1 h1;have d1:b.drop (i+1)=r:=by rw[<-gb,h1];rfl
  have ha:a<=1:=hb a (bK (i:=i) (by rw[h1];exact .head _));have hc:=avL w a hw ha 1;have ih1:=ih (i+1) (Iq w a) d1 ajW;rw[show((i+1:Nat):Int)=(i:Int)+1 from rfl]at ih1;rw[jx,<-ih1,ah Q0];generalize ai b=B at *;simp(maxSteps:=300000) (disch:=omega)[↓ac,↓aa,g1,hc]
def xQ (b:C_):Nat:=b.foldl Iq 65535
def ahd:∀{b:C_}{w:Nat},w<65536->b.foldl Iq w<65536
 |[],_,h=>h
 |a::r,w,_=>ahd (b:=r) ajW
def IN {b:C_}:xQ b<65536:=ahd (by omega)
def aBA (b:C_)(hb:bin b)(hl:b.length<=1000000):bh prog aip [.d (.lst (ai b))]=some (.tup [A_ (xQ b),A_ 0]):=by
 have h0:=aAw b hb hl b 0 65535 rfl o_;have c0:((0:Nat):Int)=0:=rfl;have c1:((65535:Nat):Int)=65535:=rfl;have hbl:=bx (l:=b);have hlt:=IN (b:=b);rw[c0,c1]at h0;have hO:bh prog ZR [A_ 65535,.d (.lst (ai b))]=some (.tup [A_ (xQ b),A_ 0]):=by
  unfold xQ at hlt⊢;rw[aD ap0 aoL rfl];generalize b.foldl Iq 65535=W at *;generalize ai b=B at *;simp(maxSteps:=300000) (disch:=omega)[↓ac,↓aa,h0,hbl]
 rw[aD auD au6 rfl];generalize ai b=B at *;simp(maxSteps:=300000) (disch:=omega)[↓ac,↓aa,hO]
def ayB {h:am}{b:C_}(h1:1<=b.length)(h2:b.length<=900000000):et 1 h .nl (ai b)=some (.own true 1 (ai b),h):=by
 cases b with
 |nil=>simp at h1
 |cons x r =>
  have e:ai (x::r)=[.int .u8 x]::ai r:=rfl;have e2:=bx (l:=r);rw[aq]at h2;rw[e,anL,e2,ca (by simp only[aX];omega)];rfl
def att {h:am}{p:Bool}{a b:C_}(h1:a.length+b.length<=900000000):et 1 h (.own p 1 (ai a)) (ai b)=some (.own false 1 (ai a++ai b),h):=by
 rw[Uw,bx,bx,ca (by simp only[aX];omega),ca (by simp only[aX];omega)];rfl
def aA4 (xs:AD_)(hx:∀x∈xs,(1<=x.length∧x.length<=10000)∧∀n∈x,n<=255)(hxl:xs.length<=10):∀(r:AD_) (i:Nat) (acc:C_) (A:AV),xs.drop i=r->(A=.nl∧acc=[]∨A=.own false 1 (ai acc))->acc.length<=80000*i->
  ∃A',(A'=.nl∧acc++r.flatMap bX=[]∨A'=.own false 1 (ai (acc++r.flatMap bX)))∧(Dn prog).code (.loop AP) ⟨[(3,A),(10,.d (.lst (pE xs))),(11,A_ xs.length),(12,A_ i)],⟨[],0⟩⟩=some (.exit 0,⟨[(3,A')],⟨[],0⟩⟩):=by
 intro r
 induction r with
 |nil =>
  intro i acc A h1 hA ha;have hi:=aY h1;refine⟨A,by simpa using hA,?_⟩;rw[ah Rl];rcases hA with ⟨rfl,_⟩|rfl
  .simp(maxSteps:=300000) (disch:=omega)[↓ac,↓aa]
  .generalize ai acc=C at *;simp(maxSteps:=300000) (disch:=omega)[↓ac,↓aa]
 |cons x r ih =>
  intro i acc A h1 hA ha;have hi:=bw h1;have g1:=Ll h1;have d1:xs.drop (i+1)=r:=by rw[<-gb,h1];rfl
  obtain⟨⟨hx0,hx1⟩,hx2⟩:=hx x (bK (i:=i) (by rw[h1];exact .head _));have hU:=Gd x o_ hx2 _ dZ.d;have hul:=fP (l:=x);have hal:=bx (l:=acc);have hull:=bx (l:=bX x);obtain⟨A',hA',ih1⟩:=ih (i+1) (acc++bX x) (.own false 1 (ai (acc++bX x))) d1 (.inr rfl) (by rw[aj];omega);rw[aA,<-aE]at hA';refine⟨A',hA',?_⟩;rw[show((i+1:Nat):Int)=(i:Int)+1 from rfl,tS]at ih1;rw[<-ih1,ah Rl];clear ih ih1;have hxl2:=aeR (t:=xs);rcases hA with ⟨rfl,rfl⟩|rfl
  .have e0:ai []=[]:=rfl;rw[e0,aK];have ha1:=λh=>ayB (h:=h) (b:=bX x) o_ (by omega)
   have ho:=Fu (l:=bX x);generalize ai (bX x)=V at *;generalize pE xs=XS at *;simp(maxSteps:=300000) (disch:=omega)[↓ac,↓aa,-getElem?_pos,g1,hU,ha1,ho]
  .have ha1:=λh p=>att (h:=h) (p:=p) (a:=acc) (b:=bX x) (by omega)
   have ho:=Fu (l:=bX x);generalize ai (bX x)=V at *;generalize ai acc=C at *;generalize pE xs=XS at *;simp(maxSteps:=300000) (disch:=omega)[↓ac,↓aa,-getElem?_pos,-Uw,g1,hU,ha1,ho]
def ai7 (xs:AD_)(hx:∀x∈xs,(1<=x.length∧x.length<=10000)∧∀n∈x,n<=255)(hxl:xs.length<=10)(hne:xs.flatMap bX≠[]):bh prog Dt [.d (.lst (pE xs))]=some (A_ (xQ (xs.flatMap bX))):=by
 obtain⟨A',hA',h0⟩:=aA4 xs hx hxl xs 0 [] .nl rfl (.inl ⟨rfl,rfl⟩) s_;have c0:((0:Nat):Int)=0:=rfl;rw[c0]at h0;rw[aK]at hA';have hbl:(xs.flatMap bX).length<=80000*xs.length:=by
  clear h0 hA' hxl hne
  induction xs with
  |nil=>simp
  |cons x r ih =>
   have h1:=ih λy hy=>hx y (.tail _ hy)
   have h2:=(hx x (.head _)).1.2;rw[aE,aj,aq,fP];omega
 have hxl2:=aeR (t:=xs);have hb:bin (xs.flatMap bX):=λy hy=>by
  obtain⟨x,_,hy⟩:=kU.1 hy;exact adg y hy
 have hC:=aBA (xs.flatMap bX) hb o_;rw[aD apq anW rfl];rcases hA' with ⟨rfl,hA'⟩|rfl
 .exact absurd hA' hne
 .generalize ai (xs.flatMap bX)=V at *;generalize pE xs=XS at *;simp(maxSteps:=300000) (disch:=omega)[↓ac,↓aa,hxl2,h0,hC]
def gZ (g:AV)(w:Bool)(x y:Y_):Y_ :=
 match g with
 |.d (.bool b)=>match b == w with
  |true=>y
  |false=>x
 |.tup []=>x
 |_=>none
@[simp] def aKm {x y:Y_}:gZ (B_ true) true x y=y:=rfl
@[simp] def aKc {x y:Y_}:gZ (B_ false) true x y=x:=rfl
def aD5 {g g2:AV}{w:Bool}{x y:Y_}(h:g=g2):gZ g w x y=gZ g2 w x y:=by rw[h]
attribute [congr] aD5
@[simp] def aIv {P:Nat->Z_}{d s m:Nat}{w:Bool}{ps:V_}{e:aW}{hs:HS}:cX (Dn P) ⟨some d,some (s,w),.mks m ps,[]⟩ ⟨e,hs⟩=bA (get e s) λg=>gZ g w (some ⟨put e d (.tup []),hs⟩) (bR P (.mks m ps) e hs λv e hs=>some ⟨put e d (firm v),hs⟩):=by
 have h:=Ky (P:=P) (i:=⟨some d,none,.mks m ps,[]⟩) (e:=e) (hs:=hs) (k:=λe hs=>some ⟨e,hs⟩);have h2:Xb P ⟨some d,none,.mks m ps,[]⟩ e hs (λe hs=>some ⟨e,hs⟩)=bR P (.mks m ps) e hs λv e hs=>some ⟨put e d (firm v),hs⟩:=rfl
 rw[h2]at h;rw[h];unfold cX;simp only
 cases get e s with
 |none=>rfl
 |some g =>
  simp only[bA];have key:∀x:Y_,x=bA x λst=>some ⟨st.env,st.hs⟩:=λx=>by cases x<;>rfl
  cases g with
  |d x =>
   cases x with
   |bool b =>
    unfold gZ;simp only
    cases b == w with
    |true=>exact key _
    |false=>rfl
   |_=>rfl
  |tup l=>cases l<;>rfl
  |_=>rfl
def Ga (b:C_):Prop:=xQ ([b.take 7,b.drop 9].flatMap bX)=b.getD 7 0*256+b.getD 8 0
instance (b:C_):Decidable (Ga b):=by unfold Ga;infer_instance
def rdR (b:C_):R eC:=QH (bX (b.drop (dG (bJ b).crc))) (bJ b).rate.toNat (bJ b).chans
def C4 (b:C_):Int :=
 if ip b≠0 then ip b
 else if (b.length:Int)<(bJ b).len then 5
 else if (bJ b).len<b.length then 8
 else if (bJ b).crc=true∧¬Ga b then 250
 else match rdR b with
  |.ok _ _=>0
  |.er e=>((e+1:Nat):Int)
def zFr:eC:=⟨[],false,0,[],[]⟩
def WN (b:C_):eC:=if C4 b=0 then (match rdR b with|.ok f _=>f|.er _=>zFr) else zFr
def rdH (b:C_):mU:=if C4 b=0 then bJ b else Bs
def YQ (b:C_):D_:=if C4 b=0 then (WN b).ow else zF
def ai6 {b:C_}(h:ip b=0):ln (bJ b)∧dG (bJ b).crc<=b.length∧7<=b.length∧bJ b=mf (bX (b.take 7))∧jO (bJ b) 14=bX (b.take 7):=by
 have e:bJ b=mf (bX (b.take 7)):=by rw[bJ,ac h]
 rw[e];unfold ip at h;split at h
 .omega
 .rename_i h1;split at h
  .rename_i h2;exact⟨h2.1,o_,o_,rfl,h2.2⟩
  .omega
def ade {x y:Nat}(hx:x<=255)(hy:y<=255):fo .or (A_ ((x:Int)*256)) (A_ y)=some (.int .i64 ((x:Int)*256+y)):=by
 have e:=kp (i:=8) (b:=y) o_ x;have e2:x*256 |||y=x*256+y:=by rw[show x*256=2 ^ 8*x by omega];exact e.symm
 have tn:kr .i64=9223372036854775808:=rfl;have h:=apw (k:=.i64) (a:=x*256) (b:=y) (by rw[tn];omega) (by rw[tn];omega) (by rw[e2,tn];omega);rw[e2]at h;simpa using h
def getD_some {b:C_}{i:Nat}(h:i<b.length):b[i]?=some (b.getD i 0):=by
 rw[dh,bC h];rfl
def Vl {x y:C_}:pE [x,y]=[[.lst (ai x)],[.lst (ai y)]]:=rfl
def dZ.res {x:AV}{l:E_}(h:dZ x l):(∀hp,j6 hp x=some (x,hp))∧og x=x:=by
 rcases h with rfl|⟨rfl,rfl⟩<;>exact⟨λ_=>rfl,rfl⟩
def rd9 (b:C_)(hb:b.length<=9000)(h9:9<=b.length)(hb2:∀x∈b,x<=255)(r n l f:Int)(O1 O2:D_)(s:Int)(hsum:bh prog Dt [.d (.lst [[.lst (ai (b.take 7))],[.lst (ai (b.drop 9))]])]=some (A_ s)) :
  ∃E:aW,(Dn prog).code (.seq ER (K [0,43,44,45,46,47,48,49,50,51,52,53,54,55,56,57,58,59])) ⟨[(0,.d (.lst (ai b))),(2,.ptr 0 0),(3,.ptr 1 0),(5,.ptr 2 0),(7,.d (.lst (ai (b.drop 9))))],⟨[(0,.cells O1),(1,.cells O2),(2,.cells [A_ r,A_ n,B_ true,A_ l,A_ f])],3⟩⟩ =
  some (.normal,⟨[(2,.ptr 0 0),(3,.ptr 1 0),(5,.ptr 2 0),(7,.d (.lst (ai (b.drop 9)))),(60,B_ ((!decide (s=(b.getD 7 0:Nat)*256+(b.getD 8 0:Nat)))))],⟨[(0,.cells O1),(1,.cells O2),(2,.cells [A_ r,A_ n,B_ true,A_ l,A_ f])],3⟩⟩):=by
 refine⟨[],?_⟩;have st7:∀h,mR h 1 (.d (.lst (ai b))) none (some (A_ 7)) none=some (.d (.lst (ai (b.take 7)))):=λh=>Xx (h:=h) (a:=7) o_ (by omega)
 have m7:∀x,b.getD x 0<=255:=λx=>by
  rw[dh]
  cases h:b[x]? with
  |none=>simp
  |some v=>exact hb2 v (dJ h)
 have hob:=ade (m7 7) (m7 8);have m77:=m7 7;have m8:=m7 8;have hbl:=bx (l:=b);by_cases h8:9<=b.length
 .have g7:=oO (getD_some (b:=b) (i:=7) o_);have g8:=oO (getD_some (b:=b) (i:=8) o_);clear m7 hb2;generalize b.getD 7 0=B7 at *;generalize b.getD 8 0=B8 at *;generalize ai (b.take 7)=T7 at *;generalize ai (b.drop 9)=D9 at *;generalize ai b=B at *;by_cases he:s=(B7:Int)*256+B8
  .rw[decide_eq_true he];simp(config := { maxSteps:=3000000 }) (disch:=omega)[↓ac,↓aa,-getElem?_pos,st7,hsum,g7,g8,hob,he]
  .rw[decide_eq_false he];simp(config := { maxSteps:=3000000 }) (disch:=omega)[↓ac,↓aa,-getElem?_pos,st7,hsum,g7,g8,hob,he]
 .omega
def aqL (b:C_)(hb:b.length<=9000)(hb2:∀x∈b,x<=255)(X:AV)(hX:dZ X (ai b)):bh prog F8 [X]=some (.tup [.agg (rdH b).cells,.agg (YQ b),A_ (C4 b)]):=by
 obtain⟨⟨x1,x2,x3⟩,x4,x5⟩:=hX.facts;obtain⟨vx,ux⟩:=hX.view;rw[bx]at x5;have hH:=Lx b o_ hb2 X hX;by_cases h0:ip b=0
 rotate_left
 .have e:C4 b=ip b:=by rw[C4,ac h0]
  have eH:bJ b=Bs:=by rw[bJ,aa h0]
  have e1:rdH b=Bs:=by rw[rdH,aa (by rw[e];exact h0)]
  have e2:YQ b=zF:=by rw[YQ,aa (by rw[e];exact h0)]
  rw[e,e1,e2];rw[eH]at hH;generalize ip b=E at *;rw[aD oP oI rfl];simp(maxSteps:=300000) (disch:=omega)[↓ac,↓aa,vx,ux,x1,x2,x3,x4,x5,hH,h0,zF]
 obtain⟨ok,hS,h7,hd,hw⟩:=ai6 h0;have hne:ai b≠[]:=λh=>by
  have:=aT List.length h;rw[bx,bg]at this;omega
 have hXd:=hX.ne hne;subst hXd;rw[h0]at hH;have hbl:=bx (l:=b);have h79:dG (bJ b).crc=7∨dG (bJ b).crc=9:=by cases (bJ b).crc<;>simp[dG]
 have hSz:=Lm (bJ b).crc;have zA:∀e:Int,e≠0->C4 b=e->rdH b=Bs∧YQ b=zF:=λe he h=>⟨by rw[rdH,h,aa he],by rw[YQ,h,aa he]⟩
 by_cases h1:(b.length:Int)<(bJ b).len
 .have e:C4 b=5:=by rw[C4,aa (by rw[h0];decide),ac h1]
  obtain⟨e1,e2⟩:=zA 5 k_ e;rw[e,e1,e2];generalize bJ b=HH at *;obtain⟨r,n,c,l,f⟩:=HH
  dsimp only at h1
  rw[aD oP oI rfl];generalize ai b=B at *;simp(maxSteps:=300000) (disch:=omega)[↓ac,↓aa,hH,hbl,zF]
 by_cases h2:(bJ b).len<b.length
 .have e:C4 b=8:=by rw[C4,aa (by rw[h0];decide),aa h1,ac h2]
  obtain⟨e1,e2⟩:=zA 8 k_ e;rw[e,e1,e2];generalize bJ b=HH at *;obtain⟨r,n,c,l,f⟩:=HH
  dsimp only at h1 h2
  rw[aD oP oI rfl];generalize ai b=B at *;simp(maxSteps:=300000) (disch:=omega)[↓ac,↓aa,hH,hbl,zF]
 have hlb:(dG (bJ b).crc:Int)<b.length:=by have:=ok.2.2.2.1;omega
 have sd7:∀h,mR h 1 (.d (.lst (ai b))) (some (A_ 7)) none none=some (.d (.lst (ai (b.drop 7)))):=λh=>Xr (h:=h) (a:=7) o_ (by omega)
 have sd9:9<=b.length->∀h,mR h 1 (.d (.lst (ai b))) (some (A_ 9)) none none=some (.d (.lst (ai (b.drop 9)))):=λh9 h=>Xr (h:=h) (a:=9) o_ (by omega)
 have st7:∀h,mR h 1 (.d (.lst (ai b))) none (some (A_ 7)) none=some (.d (.lst (ai (b.take 7)))):=λh=>Xx (h:=h) (a:=7) o_ (by omega)
 have hsum:(bJ b).crc=true->bh prog Dt [.d (.lst (pE [b.take 7,b.drop 9]))]=some (A_ (xQ ([b.take 7,b.drop 9].flatMap bX))):=λhc=>ai7 _ (λx hx=>by
   simp only[ay,co,d8]at hx;rcases hx with rfl|rfl
   .exact⟨⟨by rw[b7];omega,by rw[b7];omega⟩,λn hn=>hb2 n (dn hn)⟩
   .exact⟨⟨by have:=ok.2.2.2.1;rw[hc]at this;have h9:dG true=9:=rfl;rw[cM];omega,by rw[cM];omega⟩,λn hn=>hb2 n (bK hn)⟩) s_ (λh=>by
   have:=aT List.length h;simp only[aE,aj,fP,b7,bg]at this;omega)
 have hcfg:ox (bJ b).rate (bJ b).chans:=by
  have:=ok.1;have:=ok.2.1;exact⟨by unfold dY;omega,o_⟩
 have hlen:((b.drop (dG (bJ b).crc)).length:Int)<=192*(bJ b).chans:=by
  have h5:=ok.2.2.2.2;rw[cM];omega
 have hraw:=au8 (bJ b).rate (bJ b).chans false 0 (.d (.lst (ai (b.drop (dG (bJ b).crc))))) (b.drop (dG (bJ b).crc)) dZ.d (by rw[cM];omega) (λx hx=>hb2 x (bK hx));rcases hraw with ⟨_,_,hraw⟩|⟨hraw,_⟩
 rotate_left
 .exact absurd ⟨hcfg,hlen⟩ hraw
 have hrdR:QH (bX (b.drop (dG (bJ b).crc))) (bJ b).rate.toNat (bJ b).chans=rdR b:=rfl;rw[hrdR]at hraw;have m7:∀x,b.getD x 0<=255:=λx=>by
  rw[dh]
  cases h:b[x]? with
  |none=>simp
  |some v=>exact hb2 v (dJ h)
 by_cases hc:(bJ b).crc=true∧¬Ga b
 .have e:C4 b=250:=by rw[C4,aa (by rw[h0];decide),aa h1,aa h2,ac hc]
  obtain⟨e1,e2⟩:=zA 250 k_ e;rw[e,e1,e2];obtain⟨hc1,hc2⟩:=hc;have hsum:=hsum hc1;have hcl:=IN (b:=[b.take 7,b.drop 9].flatMap bX);rw[Ga]at hc2;have hob:=ade (m7 7) (m7 8);have hS9:dG (bJ b).crc=9:=by rw[hc1];rfl
  have g7:=oO (getD_some (b:=b) (i:=7) o_);have g8:=oO (getD_some (b:=b) (i:=8) o_);have hne2:¬((xQ ([b.take 7,b.drop 9].flatMap bX):Nat):Int)=(b.getD 7 0:Nat)*256+(b.getD 8 0:Nat):=o_;rw[hS9]at hSz hS hraw;rw[Vl]at hsum;have sd9:=sd9 o_;obtain⟨_,hr9⟩:=rd9 b hb o_ hb2 (bJ b).rate (bJ b).chans (bJ b).len (bJ b).full [A_ 0,A_ 0,B_ false,A_ 0,A_ 0] [.nl,B_ false,A_ 0,.nl,.nl] _ hsum;rw[decide_eq_false hne2]at hr9;clear g7 g8 hob hsum hne2 hcl;generalize b.getD 7 0=B7 at *;generalize b.getD 8 0=B8 at *;generalize xQ ([b.take 7,b.drop 9].flatMap bX)=CN at *;generalize bJ b=HH at *;obtain⟨r,n,c,l,f⟩:=HH
  dsimp only at h1 h2 hc1 hSz
  subst hc1;rw[aD oP oI rfl];clear hraw;generalize ai (b.drop 9)=D9 at *;generalize ai b=B at *;simp(maxSteps:=300000) (disch:=omega)[↓ac,↓aa,sd9,hH,hbl,hSz,↓hr9,zF]
 have hns:(bJ b).crc=true->Ga b:=λh=>lx λh2=>hc ⟨h,h2⟩
 have eE:C4 b=match rdR b with|.ok _ _=>0|.er e=>((e+1:Nat):Int):=by rw[C4,aa (by rw[h0];decide),aa h1,aa h2,aa hc]
 have hob:=ade (m7 7) (m7 8);have g7:=oO (getD_some (b:=b) (i:=7) o_)
 cases hG:rdR b with
 |ok f m =>
  rw[hG]at eE hraw;simp only at eE hraw;have e1:rdH b=bJ b:=by rw[rdH,ac eE]
  have e2:YQ b=f.ow:=by rw[YQ,ac eE,WN,ac eE,hG]
  rw[eE,e1,e2];have hX:dZ (share (aG 9 (dH f.chans))) (dH f.chans):=BR;have hY:dZ (share (aG 1 (dj f.bands))) (dj f.bands):=BR;have hZ:dZ (share (aG 1 (ai f.fill))) (ai f.fill):=BR;simp only[eC.ow]at hraw⊢;generalize share (aG 9 (dH f.chans))=X at *;generalize share (aG 1 (dj f.bands))=Y at *;generalize share (aG 1 (ai f.fill))=Z at *;obtain⟨⟨q1,q2,q3⟩,q4,q5⟩:=hX.facts;obtain⟨⟨y1,y2,y3⟩,y4,y5⟩:=hY.facts;obtain⟨⟨z1,z2,z3⟩,z4,z5⟩:=hZ.facts;obtain⟨t1,t2⟩:=hX.res;obtain⟨t3,t4⟩:=hY.res;obtain⟨t5,t6⟩:=hZ.res;have w1:=hX.one.1.2;have w2:=hY.one.1.2;have w3:=hZ.one.1.2
  cases hcc:(bJ b).crc with
  |false =>
   rw[hcc]at hSz hraw;have hS7:dG false=7:=rfl;rw[hS7]at hSz hraw;generalize bJ b=HH at *;obtain⟨r,n,c,l,fu⟩:=HH
   dsimp only at h1 h2 hcc hSz hraw
   subst hcc;rw[aD oP oI rfl];clear hsum hns hc g7;generalize ai b=B at *;simp(maxSteps:=300000) (disch:=omega)[↓ac,↓aa,-bn,sd7,hH,hbl,hSz,hraw,t1,t2,t3,t4,t5,t6,w1,w2,w3,q1,q2,q3,q4,y1,y2,y3,y4,z1,z2,z3,z4]
  |true =>
   have hsum:=hsum hcc;have hns:=hns hcc;rw[Ga]at hns;rw[hcc]at hSz hraw hS;have hS9:dG true=9:=rfl;rw[hS9]at hSz hraw hS;have g8:=oO (getD_some (b:=b) (i:=8) o_);have heq:((xQ ([b.take 7,b.drop 9].flatMap bX):Nat):Int)=(b.getD 7 0:Nat)*256+(b.getD 8 0:Nat):=o_;have hcl:=IN (b:=[b.take 7,b.drop 9].flatMap bX);rw[Vl]at hsum;have sd9:=sd9 o_;obtain⟨_,hr9⟩:=rd9 b hb o_ hb2 (bJ b).rate (bJ b).chans (bJ b).len (bJ b).full [A_ 0,A_ 0,B_ false,A_ 0,A_ 0] [.nl,B_ false,A_ 0,.nl,.nl] _ hsum;rw[decide_eq_true heq]at hr9;clear g7 g8 hob hsum heq hcl hns;generalize bJ b=HH at *;obtain⟨r,n,c,l,fu⟩:=HH
   dsimp only at h1 h2 hcc hSz hraw
   subst hcc;rw[aD oP oI rfl];clear hc m7;generalize ai (b.drop 9)=D9 at *;generalize ai b=B at *;simp(maxSteps:=300000) (disch:=omega)[↓ac,↓aa,-bn,sd9,↓hr9,hH,hbl,hSz,hraw,t1,t2,t3,t4,t5,t6,w1,w2,w3,q1,q2,q3,q4,y1,y2,y3,y4,z1,z2,z3,z4]
 |er e =>
  rw[hG]at eE hraw;simp only at eE hraw;obtain⟨e1,e2⟩:=zA ((e+1:Nat):Int) o_ eE;rw[eE,e1,e2];have hE0:¬((e+1:Nat):Int)=0:=o_;generalize ((e+1:Nat):Int)=E at *
  cases hcc:(bJ b).crc with
  |false =>
   rw[hcc]at hSz hraw;have hS7:dG false=7:=rfl;rw[hS7]at hSz hraw;generalize bJ b=HH at *;obtain⟨r,n,c,l,fu⟩:=HH
   dsimp only at h1 h2 hcc hSz hraw
   subst hcc;rw[aD oP oI rfl];clear hsum hns hc g7;generalize ai b=B at *;simp(maxSteps:=300000) (disch:=omega)[↓ac,↓aa,sd7,hH,hbl,hSz,hraw,hE0,zF]
  |true =>
   have hsum:=hsum hcc;have hns:=hns hcc;rw[Ga]at hns;rw[hcc]at hSz hraw hS;have hS9:dG true=9:=rfl;rw[hS9]at hSz hraw hS;have g8:=oO (getD_some (b:=b) (i:=8) o_);have heq:((xQ ([b.take 7,b.drop 9].flatMap bX):Nat):Int)=(b.getD 7 0:Nat)*256+(b.getD 8 0:Nat):=o_;have hcl:=IN (b:=[b.take 7,b.drop 9].flatMap bX);rw[Vl]at hsum;have sd9:=sd9 o_;obtain⟨_,hr9⟩:=rd9 b hb o_ hb2 (bJ b).rate (bJ b).chans (bJ b).len (bJ b).full [A_ 0,A_ 0,B_ false,A_ 0,A_ 0] [.nl,B_ false,A_ 0,.nl,.nl] _ hsum;rw[decide_eq_true heq]at hr9;clear g7 g8 hob hsum heq hcl hns;generalize bJ b=HH at *;obtain⟨r,n,c,l,fu⟩:=HH
   dsimp only at h1 h2 hcc hSz hraw
   subst hcc;rw[aD oP oI rfl];clear hc m7;generalize ai (b.drop 9)=D9 at *;generalize ai b=B at *;simp(maxSteps:=300000) (disch:=omega)[↓ac,↓aa,sd9,↓hr9,hH,hbl,hSz,hraw,hE0,zF]
def stP (rt n:Int)(cb:Bool)(b:C_):Prop:=ip b=0∧(bJ b).rate=rt∧(bJ b).chans=n∧(bJ b).crc=cb∧(bJ b).len<=b.length
instance {rt n:Int}{cb:Bool}{b:C_}:Decidable (stP rt n cb b):=by unfold stP;infer_instance
structure Slt where
 pos:Nat
 len:Nat
 lost:Bool
 fr:eC
abbrev Slt.cells (s:Slt):W_:=[.int .i64 s.pos,.int .i64 s.len,.bool s.lost,.lst (dH s.fr.chans),.bool s.fr.common,.int .i64 s.fr.mask,.lst (dj s.fr.bands),.lst (ai s.fr.fill)]
def arD (b:C_):∃X Y Z:AV,dZ X (dH (WN b).chans)∧dZ Y (dj (WN b).bands)∧dZ Z (ai (WN b).fill)∧YQ b=[X,B_ ((WN b).common),A_ ((WN b).mask),Y,Z]:=by
 unfold YQ;by_cases h:C4 b=0
 .rw[ac h];exact⟨_,_,_,BR,BR,BR,rfl⟩
 .rw[aa h,WN,aa h];exact⟨.nl,.nl,.nl,.inr ⟨rfl,rfl⟩,.inr ⟨rfl,rfl⟩,.inr ⟨rfl,rfl⟩,rfl⟩
section
variable (rt n:Int)(cb:Bool)(cz:Int)(b:C_)(hb:b.length<=9000)(hb2:∀x∈b,x<=255)
include hb hb2
end
theorem dZ.toD {x:AV}{l:E_}(h:dZ x l):toD x=some (.lst l):=by
 rcases h with rfl|⟨rfl,rfl⟩<;>rfl
section
variable (rt n:Int)(cb:Bool)(cz:Int)(b:C_)(hb:b.length<=8999)(hb2:∀x∈b,x<=255)
include hb hb2
end
instance {rt n:Int}:Decidable (ox rt n):=by unfold ox;infer_instance
def de {x k a s:Nat}{l:C_}:gv (ar x k++l) (k+a) s=gv l a s:=by
 unfold gv;rw[List.drop_append,dk,show k+a-k=a by omega,cm (by rw[dk];omega),aK]
def M6 {v s:Nat}{l:C_}(h:v<2 ^ s):gv (ar v s++l) 0 s=v:=by
 unfold gv;rw[mW,List.take_append_of_le_length (by rw[dk];exact al _),ck (by rw[dk];exact al _),U9,Nat.zero_mul,bv,eM h]
def OO (h:mU):jO h 14=ar 4095 12++(ar 0 1++(ar 0 2++(ar (cN h.crc).toNat 1++(ar 1 2++(ar h.rate.toNat 4++(ar 0 1++(ar h.chans.toNat 3++(ar 0 1++(ar 0 1++(ar 0 2++(ar h.len.toNat 13++(ar h.full.toNat 11++ar 0 2)))))))))))):=by
 simp[jO,fB,pq,List.range,List.range.loop]
def axs {h:mU}(ok:ln h):mf (jO h 14)=h:=by
 obtain⟨r,n,c,l,f⟩:=h;simp only[ln]at ok;have h79:dG c=7∨dG c=9:=by cases c<;>simp[dG]
 obtain⟨R,rfl⟩:=aB ok.1.1;obtain⟨N,rfl⟩:=aB (show 0<=n by omega);obtain⟨L,rfl⟩:=aB (show 0<=l by omega);obtain⟨F,rfl⟩:=aB (show 0<=f by omega);have hc:(cN c).toNat<2 ^ 1:=by cases c<;>decide
 have e1:gv (jO ⟨R,N,c,L,F⟩ 14) 18 4=R:=by
  rw[OO];simp only[au];rw[show 18=12+(1+(2+(1+(2+0)))) by rfl,de,de,de,de,de,M6 o_]
 have e2:gv (jO ⟨R,N,c,L,F⟩ 14) 23 3=N:=by
  rw[OO];simp only[au];rw[show 23=12+(1+(2+(1+(2+(4+(1+0)))))) by rfl,de,de,de,de,de,de,de,M6 o_]
 have e3:gv (jO ⟨R,N,c,L,F⟩ 14) 15 1=(cN c).toNat:=by
  rw[OO,show 15=12+(1+(2+0)) by rfl,de,de,de,M6 hc]
 have e4:gv (jO ⟨R,N,c,L,F⟩ 14) 30 13=L:=by
  rw[OO];simp only[au];rw[show 30=12+(1+(2+(1+(2+(4+(1+(3+(1+(1+(2+0)))))))))) by rfl,de,de,de,de,de,de,de,de,de,de,de,M6 o_]
 have e5:gv (jO ⟨R,N,c,L,F⟩ 14) 43 11=F:=by
  rw[OO];simp only[au];rw[show 43=12+(1+(2+(1+(2+(4+(1+(3+(1+(1+(2+(13+0))))))))))) by rfl,de,de,de,de,de,de,de,de,de,de,de,de,M6 o_]
 rw[mf,e1,e2,e3,e4,e5]
 cases c<;>rfl
def zw:C_:=[255,241,64,64,1,96,20,0,0,0,7]
def aGT:ip zw=0∧dG (bJ zw).crc=7∧(bJ zw).rate=0∧(bJ zw).chans=1∧(bJ zw).len=11∧(bJ zw).crc=false:=e_
def aGE:∀x∈zw,x<=255:=k_
def Si {h:mU}:(jO h 14).length=56:=by rw[OO];simp
def aDg {h:mU}:bin (jO h 14):=by
 intro x hx;obtain⟨i,_,hx⟩:=kU.1 hx;exact dx x hx
def mM (cb:Bool)(h l:C_):C_:=if cb then [xQ ([h,l].flatMap bX) / 256,xQ ([h,l].flatMap bX) % 256] else []
def aaW (rt n:Int)(cb:Bool)(cz full:Int)(f:eC)(hf:f.Fit)(X Y Z:AV)(hX:dZ X (dH f.chans))(hY:dZ Y (dj f.bands))(hZ:dZ Z (ai f.fill))(l h7:C_)(hl:nq rt.toNat n f=bX l)(hl2:∀x∈l,x<=255)(h71:jO ⟨rt,n,cb,((dG cb+l.length:Nat):Int),full⟩ 14=bX h7)(h72:∀x∈h7,x<=255) :
  ((ox rt n∧sW rt.toNat n f∧(l.length:Int)<=192*n)∧ln ⟨rt,n,cb,((dG cb+l.length:Nat):Int),full⟩∧bh prog pi [jN rt n cb cz,A_ full,qB f X Y Z]=some (.tup [.own true 1 (ai (h7++(mM cb h7 l++l))),A_ 0]))∨
  ((ox rt n∧sW rt.toNat n f∧(l.length:Int)<=192*n)∧¬ln ⟨rt,n,cb,((dG cb+l.length:Nat):Int),full⟩∧bh prog pi [jN rt n cb cz,A_ full,qB f X Y Z]=some (.tup [.nl,A_ 2]))∨
  (¬(ox rt n∧sW rt.toNat n f∧(l.length:Int)<=192*n)∧∃e:Int,e≠0∧bh prog Ai [jN rt n cb cz,qB f X Y Z]=some (A_ e)∧bh prog pi [jN rt n cb cz,A_ full,qB f X Y Z]=some (.tup [.nl,A_ e])):=by
 have hW:=as9 rt n cb cz f hf X Y Z hX hY hZ;have hu:((nq rt.toNat n f).length:Int)=8*(l.length:Int):=by rw[hl,fP];omega
 obtain⟨⟨x1,x2,x3⟩,x4,x5⟩:=hX.facts;obtain⟨⟨y1,y2,y3⟩,y4,y5⟩:=hY.facts;obtain⟨⟨z1,z2,z3⟩,z4,z5⟩:=hZ.facts;obtain⟨⟨vx,ux⟩,wx⟩:=hX.one;obtain⟨⟨vy,uy⟩,wy⟩:=hY.one;obtain⟨⟨vz,uz⟩,wz⟩:=hZ.one;rw[hu]at hW;rcases hW with ⟨k1,k2,k3,hW⟩|⟨hno,e,he,hC,hW⟩
 rotate_left
 .refine .inr (.inr ⟨λh=>hno ⟨h.1,h.2.1,o_⟩,e,he,hC,?_⟩);simp only[jN,qB]at hW⊢;rw[aD Df CT rfl];simp(maxSteps:=300000) (disch:=omega)[↓ac,↓aa,-bn,x1,x2,x3,x4,y1,y2,y3,y4,z1,z2,z3,z4,ux,uy,uz,vx,vy,vz,wx,wy,wz,hW]
 have hW:=hW l hl hl2;have hn2:=k1.2;have hll:l.length<=400:=o_;have hbl:=bx (l:=l);have hsz:=Lm cb;have hR:=Z9 ⟨rt,n,cb,((dG cb+l.length:Nat):Int),full⟩;have c1:((dG cb+l.length:Nat):Int)=(dG cb:Int)+l.length:=rfl;have h79:dG cb=7∨dG cb=9:=by cases cb<;>simp[dG]
 by_cases ok:ln ⟨rt,n,cb,((dG cb+l.length:Nat):Int),full⟩
 rotate_left
 .refine .inr (.inl ⟨⟨k1,k2,o_⟩,ok,?_⟩);rw[decide_eq_false ok]at hR;simp only[jN,qB,c1]at hW hR⊢;clear h71 ok;generalize dG cb=S at *;rw[aD Df CT rfl];generalize ai l=BL at *;simp(maxSteps:=300000) (disch:=omega)[↓ac,↓aa,-bn,x1,x2,x3,x4,y1,y2,y3,y4,z1,z2,z3,z4,ux,uy,uz,vx,vy,vz,wx,wy,wz,hW,hsz,hR,hbl]
 refine .inl ⟨⟨k1,k2,o_⟩,ok,?_⟩;have hw:=TS _ ok;rw[decide_eq_true ok]at hR;have h7l:h7.length=7:=by
  have:=aT List.length h71;rw[Si,fP]at this;omega
 rw[h71]at hw;have hP:=aeh h7 o_ h72;have h7b:=bx (l:=h7);have ob:=Fu (l:=l);have l1:1<=l.length:=by
  have:=ok.2.2.2.1;simp only[]at this;omega
 have hsum:=ai7 [h7,l] (λx hx=>by
  simp only[ay,co,d8]at hx;rcases hx with rfl|rfl
  .exact⟨⟨o_,o_⟩,h72⟩
  .exact⟨⟨o_,o_⟩,hl2⟩) s_ (λh=>by
  have:=aT List.length h;simp only[aE,aj,fP,bg]at this;omega)
 have hcl:=IN (b:=[h7,l].flatMap bX);rw[Vl]at hsum;unfold mM;generalize xQ ([h7,l].flatMap bX)=C at *;have e8:(C:Int).fdiv 256=((C / 256:Nat):Int):=by rw[fD _ o_];rfl
 have hC8:C / 256<=255:=o_;have hw8:wr .u8 (C:Int)=((C % 256:Nat):Int):=by rw[acg];rfl
 simp only[jN,qB,c1]at hW hR hw⊢;clear h71 ok
 cases cb with
 |false =>
  have hs7:((dG false:Nat):Int)=7:=rfl;rw[hs7]at hR hw hsz;have e0:ai (h7++((if false=true then [C / 256,C % 256] else [])++l))=ai h7++ai l:=tS;rw[e0];rw[aD Df CT rfl];generalize ai (bX h7)=U7 at *;simp(maxSteps:=300000) (disch:=omega)[↓ac,↓aa,-bn,x1,x2,x3,x4,y1,y2,y3,y4,z1,z2,z3,z4,ux,uy,uz,vx,vy,vz,wx,wy,wz,hW,hsz,hR,hbl,hw,hP,h7b,ob]
 |true =>
  have hs9:((dG true:Nat):Int)=9:=rfl;rw[hs9]at hR hw hsz;have e0:ai (h7++((if true=true then [C / 256,C % 256] else [])++l))=ai h7++([[.int .u8 ((C / 256:Nat):Int)],[.int .u8 ((C % 256:Nat):Int)]]++ai l):=by rw[tS,ac rfl,tS];rfl
  rw[e0];generalize C % 256=C2 at *;generalize C / 256=C1 at *;rw[aD Df CT rfl];generalize ai (bX h7)=U7 at *;simp(config := { maxSteps:=3000000 }) (disch:=omega)[↓ac,↓aa,-bn,x1,x2,x3,x4,y1,y2,y3,y4,z1,z2,z3,z4,ux,uy,uz,vx,vy,vz,wx,wy,wz,hW,hsz,hR,hbl,hw,hP,h7b,ob,hsum,e8,hw8]
def anb {H:mU}{h7 t:C_}(ok:ln H)(hw:jO H 14=bX h7)(ht:dG H.crc<=7+t.length):ip (h7++t)=0∧bJ (h7++t)=H:=by
 have h7l:h7.length=7:=by
  have:=aT List.length hw;rw[Si,fP]at this;omega
 have e1:(h7++t).take 7=h7:=by rw[<-h7l,List.take_left]
 have e2:mf (bX ((h7++t).take 7))=H:=by rw[e1,<-hw,axs ok]
 have e3:ip (h7++t)=0:=by
  rw[ip,e2,aa (by rw[aj];omega),ac ⟨ok,by rw[e1];exact hw⟩]
 exact⟨e3,by rw[bJ,ac e3,e2]⟩
def ajq {cb:Bool}{h l:C_}:(mM cb h l).length+7=dG cb:=by cases cb<;>rfl
def ayZ {rt n:Int}{cb:Bool}{full:Int}{f:eC}{l h7:C_}{m:Nat}(ok:ln ⟨rt,n,cb,((dG cb+l.length:Nat):Int),full⟩)(hw:jO ⟨rt,n,cb,((dG cb+l.length:Nat):Int),full⟩ 14=bX h7)(hG:QH (bX l) rt.toNat n=.ok f m) :
  C4 (h7++(mM cb h7 l++l))=0∧WN (h7++(mM cb h7 l++l))=f∧rdH (h7++(mM cb h7 l++l))=⟨rt,n,cb,((dG cb+l.length:Nat):Int),full⟩:=by
 have hsl:=ajq (cb:=cb) (h:=h7) (l:=l);have h7l:h7.length=7:=by
  have:=aT List.length hw;rw[Si,fP]at this;omega
 obtain⟨e1,e2⟩:=anb (t:=mM cb h7 l++l) ok hw (by rw[aj];simp only[];omega);have hd:(h7++(mM cb h7 l++l)).drop (dG cb)=l:=by
  rw[<-aA,List.drop_left' (by rw[aj];omega)]
 have hr:rdR (h7++(mM cb h7 l++l))=.ok f m:=by
  rw[rdR,e2,hd,hG]
 have hbl:(h7++(mM cb h7 l++l)).length=dG cb+l.length:=by
  rw[aj,aj];omega
 have hs:¬(cb=true∧¬Ga (h7++(mM cb h7 l++l))):=by
  rintro ⟨rfl,h⟩
  refine h ?_;have hd9:(h7++(mM true h7 l++l)).drop 9=l:=hd;have ht:(h7++(mM true h7 l++l)).take 7=h7:=by rw[<-h7l,List.take_left]
  rw[Ga,hd9,ht];have hsb:mM true h7 l=[xQ ([h7,l].flatMap bX) / 256,xQ ([h7,l].flatMap bX) % 256]:=rfl;rw[hsb];generalize xQ ([h7,l].flatMap bX)=C;have g7:(h7++([C / 256,C % 256]++l)).getD 7 0=C / 256:=by
   rw[dh,bZ o_,h7l];rfl
  have g8:(h7++([C / 256,C % 256]++l)).getD 8 0=C % 256:=by
   rw[dh,bZ o_,h7l];rfl
  rw[g7,g8];omega
 have hE:C4 (h7++(mM cb h7 l++l))=0:=by
  rw[C4,aa (by rw[e1];decide),e2,hbl];simp only[];rw[aa o_,aa o_,aa hs,hr]
 exact⟨hE,by rw[WN,ac hE,hr],by rw[rdH,ac hE,e2]⟩
@[simp] def aCV {n:Bool}{k:U_}{x y:Rd}:dE (.bina n k x y)=false:=rfl
@[simp] def aCo {n:Bool}{k:U_}{x y:Rd}:Af (.bina n k x y)=false:=rfl
@[simp] def aGo {P:Nat->Z_}{d s:Nat}{w n:Bool}{k:U_}{x y:Rd}{e:aW}{hs:HS}:cX (Dn P) ⟨some d,some (s,w),.bina n k x y,[]⟩ ⟨e,hs⟩=bA (get e s) λg=>gZ g w (some ⟨put e d (.tup []),hs⟩) (bR P (.bina n k x y) e hs λv e hs=>some ⟨put e d (firm v),hs⟩):=by
 have h:=Ky (P:=P) (i:=⟨some d,none,.bina n k x y,[]⟩) (e:=e) (hs:=hs) (k:=λe hs=>some ⟨e,hs⟩);have h2:Xb P ⟨some d,none,.bina n k x y,[]⟩ e hs (λe hs=>some ⟨e,hs⟩)=bR P (.bina n k x y) e hs λv e hs=>some ⟨put e d (firm v),hs⟩:=rfl
 rw[h2]at h;rw[h];unfold cX;simp only
 cases get e s with
 |none=>rfl
 |some g =>
  simp only[bA];have key:∀x:Y_,x=bA x λst=>some ⟨st.env,st.hs⟩:=λx=>by cases x<;>rfl
  cases g with
  |d x =>
   cases x with
   |bool b =>
    unfold gZ;simp only
    cases b == w with
    |true=>exact key _
    |false=>rfl
   |_=>rfl
  |tup l=>cases l<;>rfl
  |_=>rfl
def asG:∃p,bh prog R3 []=some (.tup [jN 0 1 false 0,.agg [.own p 9 (dH [c0]),B_ false,A_ 0,.nl,.nl],B_ true]):=⟨false,BJ 600 (by kernel_rfl)⟩
def ayH:bh prog pi [jN 0 1 false 0,A_ 5,.agg [.d (.lst (dH [c0])),B_ false,A_ 0,.nl,.nl]]=some (.tup [.own true 1 (ai zw),A_ 0]):=by
 have hF:nq (0:Int).toNat 1 F0=bX [0,0,0,7]:=by rw[show(0:Int).toNat=0 from rfl,aw4];decide
 have h:=aaW 0 1 false 0 5 F0 aBN (.d (.lst (dH [c0]))) .nl .nl dZ.d (.inr ⟨rfl,rfl⟩) (.inr ⟨rfl,rfl⟩) [0,0,0,7] [255,241,64,64,1,96,20] hF k_ e_ k_;have hk:ox 0 1∧sW (0:Int).toNat 1 F0∧(([0,0,0,7]:C_).length:Int)<=192*1:=⟨awb.1,awb.2,k_⟩
 rcases h with ⟨_,_,h⟩|⟨_,h,_⟩|⟨h,_⟩
 .exact h
 .exact absurd k_ h
 .exact absurd hk h
def akO:bh prog Ca []=some (B_ true):=by
 obtain⟨p,h1⟩:=asG;have h2:=ayH;have h3:=Lx zw k_ aGE (.d (.lst (ai zw))) dZ.d;obtain⟨g1,g2,g3,g4,g5,g6⟩:=aGT;have g7:(bJ zw).full=5:=e_;rw[g1]at h3;have hts:=λh=>IJ (h:=h) (b:=zw)
 have hst:zw.map Nat.toUInt8=[255,241,64,64,1,96,20,0,0,0,7]:=rfl;rw[hst]at hts;have hcs:(bJ zw).cells=[A_ 0,A_ 1,B_ false,A_ 11,A_ 5]:=by simp only[mU.cells,g3,g4,g5,g6,g7]
 rw[hcs]at h3;have hbn:Lp false [true,true,false,true,true] (.agg [A_ 0,A_ 1,B_ false,A_ 11,A_ 5]) (.agg [A_ 0,A_ 1,B_ false,A_ 11,A_ 5])=some (.bool true):=rfl;simp only[jN]at h1 h2;generalize dH [c0]=C at *;have hfl:=Fu (l:=zw);generalize ai zw=E at *;rw[aD OD NJ rfl];simp(config := { maxSteps:=3000000 }) (disch:=omega)[↓ac,↓aa,h1,h2,h3,hts,hbn]
def aDn {rt n:Int}{cb:Bool}{full:Int}{f:eC}{l h7:C_}(hF:f.Fit)(hk:ox rt n∧sW rt.toNat n f∧(l.length:Int)<=192*n)(hl:nq rt.toNat n f=bX l)(hl2:∀x∈l,x<=255)(ok:ln ⟨rt,n,cb,((dG cb+l.length:Nat):Int),full⟩)(h71:jO ⟨rt,n,cb,((dG cb+l.length:Nat):Int),full⟩ 14=bX h7)(h72:∀x∈h7,x<=255) :
  (h7++(mM cb h7 l++l)).length=dG cb+l.length∧(dG cb+l.length<=400)∧(∀x∈h7++(mM cb h7 l++l),x<=255)∧bJ (h7++(mM cb h7 l++l))=⟨rt,n,cb,((dG cb+l.length:Nat):Int),full⟩∧∃X Y Z,dZ X (dH f.chans)∧dZ Y (dj f.bands)∧dZ Z (ai f.fill)∧bh prog F8 [.d (.lst (ai (h7++(mM cb h7 l++l))))]=some (.tup [.agg (mU.cells ⟨rt,n,cb,((dG cb+l.length:Nat):Int),full⟩),qB f X Y Z,A_ 0]):=by
 obtain⟨hcf,hok,hlen⟩:=hk;have hR0:=hcf.1;unfold dY at hR0;have hn:=hcf.2;have hG:=arv (R:=rt.toNat) o_ hn hF hok;rw[hl]at hG;obtain⟨r1,r2,r3⟩:=ayZ ok h71 hG;have hsl:=ajq (cb:=cb) (h:=h7) (l:=l);have h7l:h7.length=7:=by
  have:=aT List.length h71;rw[Si,fP]at this;omega
 obtain⟨e1,e2⟩:=anb (t:=mM cb h7 l++l) ok h71 (by rw[aj];simp only[];omega);have hbl:(h7++(mM cb h7 l++l)).length=dG cb+l.length:=by
  rw[aj,aj];omega
 have hb2:∀x∈h7++(mM cb h7 l++l),x<=255:=λx hx=>by
  rcases ba.1 hx with hx|hx
  .exact h72 x hx
  rcases ba.1 hx with hx|hx
  .unfold mM at hx;have:=IN (b:=[h7,l].flatMap bX);split at hx
   .simp only[ay,co,d8]at hx;rcases hx with rfl|rfl<;>omega
   .simp at hx
  .exact hl2 x hx
 have h79:dG cb=7∨dG cb=9:=by cases cb<;>simp[dG]
 have hRd:=aqL (h7++(mM cb h7 l++l)) o_ hb2 (.d (.lst (ai (h7++(mM cb h7 l++l))))) dZ.d;obtain⟨X,Y,Z,hX,hY,hZ,hA⟩:=arD (h7++(mM cb h7 l++l));rw[r2]at hX hY hZ;rw[r1,r3,hA,r2]at hRd;exact⟨hbl,o_,hb2,e2,X,Y,Z,hX,hY,hZ,hRd⟩
def asW:∀{x y:C_},(∀a∈x,a<=255)->(∀a∈y,a<=255)->x.map Nat.toUInt8=y.map Nat.toUInt8->x=y
 |[],[],_,_,_=>rfl
 |[],_::_,_,_,h=>by simp at h
 |_::_,[],_,_,h=>by simp at h
 |a::x,b::y,hx,hy,h=>by
  rw[bY,bY]at h;injection h with h1 h2
  have ha:=hx a (.head _);have hb:=hy b (.head _);have e:=aT UInt8.toNat h1;have ea:(Nat.toUInt8 a).toNat=a:=by simp;omega
  have eb:(Nat.toUInt8 b).toNat=b:=by simp;omega
  rw[ea,eb]at e;rw[e,asW (λc hc=>hx c (.tail _ hc)) (λc hc=>hy c (.tail _ hc)) h2]
def avQ {b m:C_}(h:ip b=0):ip (b++m)=0∧bJ (b++m)=bJ b:=by
 obtain⟨ok,h1,h2,h3,h4⟩:=ai6 h;have e:(b++m).take 7=b.take 7:=List.take_append_of_le_length h2;have e2:ip (b++m)=0:=by
  rw[ip,e,<-h3,aa (by rw[aj];omega),ac ⟨ok,h4⟩]
 exact⟨e2,by rw[bJ,ac e2,e,h3]⟩
def au1 {r n l f:Int}{c:Bool}:Lp true [true,true,false,true,true] (.agg [A_ r,A_ n,B_ c,A_ l,A_ f]) (.agg [A_ r,A_ n,B_ c,A_ l,A_ f])=some (.bool false):=by
 have hk:mV IntKind.i64 IntKind.i64=true:=rfl
 cases c<;>simp[Lp,bB,hk]
@[simp] def aJR {x y:Y_}:gZ (B_ true) false x y=x:=rfl
@[simp] def aJ5 {x y:Y_}:gZ (B_ false) false x y=y:=rfl
@[simp] def aKI {w:Bool}{x y:Y_}:gZ (.tup []) w x y=x:=rfl
def ai5:∀{x y:C_},ai x=ai y->x=y
 |[],[],_=>rfl
 |[],_::_,h=>by simp[ai]at h
 |_::_,[],h=>by simp[ai]at h
 |a::x,b::y,h=>by
  have e1:ai (a::x)=[.int .u8 a]::ai x:=rfl;have e2:ai (b::y)=[.int .u8 b]::ai y:=rfl;rw[e1,e2]at h;injection h with h1 h2
  simp at h1;rw[ai5 h2,show a=b by omega]
def aDl (rt n:Int)(cb:Bool)(cz:Int)(f:eC)(hF:f.Fit):∃L:Nat,∀full:Int,
  (∃B X Y Z,B.length=L∧(∀x∈B,x<=255)∧(bJ B).full=full∧dZ X (dH f.chans)∧dZ Y (dj f.bands)∧dZ Z (ai f.fill)∧bh prog pi [jN rt n cb cz,A_ full,.agg f.av]=some (.tup [.own true 1 (ai B),A_ 0])∧∃H:mU,bh prog F8 [.d (.lst (ai B))]=some (.tup [.agg H.cells,qB f X Y Z,A_ 0]))∨
  ∃e:Int,e≠0∧bh prog pi [jN rt n cb cz,A_ full,.agg f.av]=some (.tup [.nl,A_ e]):=by
 obtain⟨l,hl,hl2⟩:=X9 ((nq rt.toNat n f).length / 8) (b:=nq rt.toNat n f) (by have:=aEh (R:=rt.toNat) (n:=n) (f:=f);omega) aDF;refine⟨dG cb+l.length,λfull=>?_⟩;obtain⟨h7,h71,h72⟩:=X9 7 (b:=jO ⟨rt,n,cb,((dG cb+l.length:Nat):Int),full⟩ 14) (by rw[Si]) aDg;have hW:=aaW rt n cb cz full f hF _ _ _ dZ.d dZ.d dZ.d l h7 hl hl2 h71 h72;rcases hW with ⟨hk,ok,hW⟩|⟨_,_,hW⟩|⟨_,e,he,_,hW⟩
 .obtain⟨b1,_,b2,b3,X,Y,Z,hX,hY,hZ,hR⟩:=aDn hF hk hl hl2 ok h71 h72;exact .inl ⟨_,X,Y,Z,b1,b2,by rw[b3],hX,hY,hZ,hW,_,hR⟩
 .exact .inr ⟨2,k_,hW⟩
 .exact .inr ⟨e,he,hW⟩
def apE (b m:C_)(hb2:∀x∈b,x<=255)(hm2:∀x∈m,x<=255)(rt n:Int)(cb:Bool)(cz full other:Int)(f:eC)(hf:aax f->f.Fit):bh prog w8 [.d (.lst (ai b)),.d (.lst (ai m)),jN rt n cb cz,A_ full,A_ other,.agg f.av]=some (B_ true):=by
 have ha:=akO;have hbl:=bx (l:=b);have hml:=bx (l:=m);have hgr:(aax f∧bh prog j9 [.agg f.av]=some (B_ false))∨bh prog j9 [.agg f.av]=some (B_ true):=ay7 f;by_cases hb:b.length<=2000
 rotate_left
 .simp only[eC.av,jN];rw[aD eU eQ rfl];generalize ai b=B at *;generalize ai m=BM at *;simp(maxSteps:=300000) (disch:=omega)[↓ac,↓aa,ha,hbl,hml]
 by_cases hm:m.length<=2000
 rotate_left
 .simp only[eC.av,jN];rw[aD eU eQ rfl];generalize ai b=B at *;generalize ai m=BM at *;simp(maxSteps:=300000) (disch:=omega)[↓ac,↓aa,ha,hbl,hml]
 rcases hgr with ⟨hs,hg⟩|hg
 rotate_left
 .simp only[eC.av,jN]at hg⊢;rw[aD eU eQ rfl];generalize ai b=B at *;generalize ai m=BM at *;simp(maxSteps:=300000) (disch:=omega)[↓ac,↓aa,ha,hg,hbl,hml]
 have hF:=hf hs;have hH1:=Lx b o_ hb2 (.d (.lst (ai b))) dZ.d;have hH2:=Lx (b++m) (by rw[aj];omega) (λx hx=>by
  rcases ba.1 hx with h|h
  .exact hb2 x h
  .exact hm2 x h) (.d (.lst (ai (b++m)))) dZ.d
 have e1:ai (b++m)=ai b++ai m:=tS;rw[e1]at hH2;have o1:=Fu (l:=b);have o2:=Fu (l:=m);have hbn:=fun(r n l f:Int) (c:Bool)=>au1 (r:=r) (n:=n) (l:=l) (f:=f) (c:=c)
 obtain⟨L,hW⟩:=aDl rt n cb cz f hF;have hW1:=hW full;have hW2:=hW other;clear hW;have key:ip b=0∧ip (b++m)=0∧bJ (b++m)=bJ b∨ip b≠0:=by
  by_cases h:ip b=0
  .exact .inl ⟨h,avQ h⟩
  .exact .inr h
 generalize bJ (b++m)=H2 at *;generalize bJ b=H1 at *;generalize ip (b++m)=E2 at *;generalize ip b=E1 at *;obtain⟨a1,a2,a3,a4,a5⟩:=H1;obtain⟨d1,d2,d3,d4,d5⟩:=H2;rcases hW1 with ⟨B1,X1,Y1,Z1,p1,p2,p3,hX1,hY1,hZ1,hW1,HA,hR1⟩|⟨e1,he1,hW1⟩
 rotate_left
 .rcases hW2 with ⟨B2,_,_,_,_,_,_,_,_,_,hW2,_⟩|⟨e2,he2,hW2⟩
  .simp only[eC.av,jN,mU.cells]at hg hH1 hH2 hW1 hW2⊢;generalize ai b=B at *;generalize ai m=BM at *;rw[aD eU eQ rfl];rcases key with ⟨rfl,rfl,hq⟩|hq
   .injection hq with q1 q2 q3 q4 q5;subst q1 q2 q3 q4 q5
    simp(config := { maxSteps:=3000000 }) (disch:=omega)[↓ac,↓aa,ha,hg,hbl,hml,hH1,hH2,o1,o2,hbn,hW1,hW2]
   .simp(config := { maxSteps:=3000000 }) (disch:=omega)[↓ac,↓aa,ha,hg,hbl,hml,hH1,hH2,o1,o2,hbn,hW1,hW2]
  .simp only[eC.av,jN,mU.cells]at hg hH1 hH2 hW1 hW2⊢;generalize ai b=B at *;generalize ai m=BM at *;rw[aD eU eQ rfl];rcases key with ⟨rfl,rfl,hq⟩|hq
   .injection hq with q1 q2 q3 q4 q5;subst q1 q2 q3 q4 q5
    simp(config := { maxSteps:=3000000 }) (disch:=omega)[↓ac,↓aa,ha,hg,hbl,hml,hH1,hH2,o1,o2,hbn,hW1,hW2]
   .simp(config := { maxSteps:=3000000 }) (disch:=omega)[↓ac,↓aa,ha,hg,hbl,hml,hH1,hH2,o1,o2,hbn,hW1,hW2]
 rcases hW2 with ⟨B2,X2,Y2,Z2,r1,r2,r3,hX2,hY2,hZ2,hW2,HB,hR2⟩|⟨e2,he2,hW2⟩
 rotate_left
 .simp only[eC.av,jN,mU.cells]at hg hH1 hH2 hW1 hW2⊢;generalize ai b=B at *;generalize ai m=BM at *;rw[aD eU eQ rfl];rcases key with ⟨rfl,rfl,hq⟩|hq
  .injection hq with q1 q2 q3 q4 q5;subst q1 q2 q3 q4 q5
   simp(config := { maxSteps:=3000000 }) (disch:=omega)[↓ac,↓aa,ha,hg,hbl,hml,hH1,hH2,o1,o2,hbn,hW1,hW2]
  .simp(config := { maxSteps:=3000000 }) (disch:=omega)[↓ac,↓aa,ha,hg,hbl,hml,hH1,hH2,o1,o2,hbn,hW1,hW2]
 have hS:=ZZ f hF X1 Y1 Z1 X2 Y2 Z2 hX1 hY1 hZ1 hX2 hY2 hZ2;have hSs:=ZZ f hF X1 Y1 Z1 X1 Y1 Z1 hX1 hY1 hZ1 hX1 hY1 hZ1;obtain⟨⟨x1,x2,x3⟩,x4,x5⟩:=hX1.facts;obtain⟨⟨y1,y2,y3⟩,y4,y5⟩:=hY1.facts;obtain⟨⟨z1,z2,z3⟩,z4,z5⟩:=hZ1.facts;obtain⟨⟨vx,ux⟩,wx⟩:=hX1.one;obtain⟨⟨vy,uy⟩,wy⟩:=hY1.one;obtain⟨⟨vz,uz⟩,wz⟩:=hZ1.one;obtain⟨⟨j1,j2,j3⟩,j4,j5⟩:=hX2.facts;obtain⟨⟨k1,k2,k3⟩,k4,k5⟩:=hY2.facts;obtain⟨⟨l1,l2,l3⟩,l4,l5⟩:=hZ2.facts;obtain⟨⟨vj,uj⟩,wj⟩:=hX2.one;obtain⟨⟨vk,uk⟩,wk⟩:=hY2.one;obtain⟨⟨vl,ul⟩,wl⟩:=hZ2.one;have hl1:=bx (l:=B1);have hl2:=bx (l:=B2);rw[p1]at hl1;rw[r1]at hl2;have ht1:=λh=>IJ (h:=h) (b:=B1)
 have ht2:=λh=>IJ (h:=h) (b:=B2)
 have hst:full=other∧B1.map Nat.toUInt8=B2.map Nat.toUInt8∨full≠other∧B1.map Nat.toUInt8≠B2.map Nat.toUInt8:=by
  by_cases hfo:full=other
  .refine .inl ⟨hfo,?_⟩;subst hfo;rw[hW1]at hW2;injection hW2 with hW2
   injection hW2 with hW2
   injection hW2 with hW2 _
   injection hW2 with _ _ hW2
   rw[ai5 hW2]
  .refine .inr ⟨hfo,λh=>?_⟩;have:=asW p2 r2 h;rw[this,r3]at p3;exact hfo p3.symm
 simp only[eC.av,qB,jN,mU.cells]at hg hH1 hH2 hW1 hW2 hR1 hR2 hS hSs⊢;clear p1 p2 p3 r1 r2 r3;generalize B1.map Nat.toUInt8=T1 at *;generalize B2.map Nat.toUInt8=T2 at *;generalize ai B1=C1 at *;generalize ai B2=C2 at *;generalize ai b=B at *;generalize ai m=BM at *;rw[aD eU eQ rfl];rcases hst with ⟨hfo,hst⟩|⟨hfo,hst⟩
 .subst hfo hst;rcases key with ⟨rfl,rfl,hq⟩|hq
  .injection hq with q1 q2 q3 q4 q5;subst q1 q2 q3 q4 q5
   simp(config := { maxSteps:=3000000 }) (disch:=omega)[↓ac,↓aa,-bn,x1,x2,x3,x4,y1,y2,y3,y4,z1,z2,z3,z4,ux,uy,uz,vx,vy,vz,wx,wy,wz,j1,j2,j3,j4,k1,k2,k3,k4,l1,l2,l3,l4,uj,uk,ul,vj,vk,vl,wj,wk,wl,ha,hg,hbl,hml,hH1,hH2,o1,o2,hbn,hW1,hR1,hSs,hl1,hl2,ht1,ht2]
  .simp(config := { maxSteps:=3000000 }) (disch:=omega)[↓ac,↓aa,-bn,x1,x2,x3,x4,y1,y2,y3,y4,z1,z2,z3,z4,ux,uy,uz,vx,vy,vz,wx,wy,wz,j1,j2,j3,j4,k1,k2,k3,k4,l1,l2,l3,l4,uj,uk,ul,vj,vk,vl,wj,wk,wl,ha,hg,hbl,hml,hH1,hH2,o1,o2,hbn,hW1,hR1,hSs,hl1,hl2,ht1,ht2]
 .rcases key with ⟨rfl,rfl,hq⟩|hq
  .injection hq with q1 q2 q3 q4 q5;subst q1 q2 q3 q4 q5
   simp(config := { maxSteps:=3000000 }) (disch:=omega)[↓ac,↓aa,-bn,x1,x2,x3,x4,y1,y2,y3,y4,z1,z2,z3,z4,ux,uy,uz,vx,vy,vz,wx,wy,wz,j1,j2,j3,j4,k1,k2,k3,k4,l1,l2,l3,l4,uj,uk,ul,vj,vk,vl,wj,wk,wl,ha,hg,hbl,hml,hH1,hH2,o1,o2,hbn,hW1,hW2,hR1,hR2,hS,hl1,hl2,ht1,ht2,hfo,hst]
  .simp(config := { maxSteps:=3000000 }) (disch:=omega)[↓ac,↓aa,-bn,x1,x2,x3,x4,y1,y2,y3,y4,z1,z2,z3,z4,ux,uy,uz,vx,vy,vz,wx,wy,wz,j1,j2,j3,j4,k1,k2,k3,k4,l1,l2,l3,l4,uj,uk,ul,vj,vk,vl,wj,wk,wl,ha,hg,hbl,hml,hH1,hH2,o1,o2,hbn,hW1,hW2,hR1,hR2,hS,hl1,hl2,ht1,ht2,hfo,hst]
def W0 {H:Type}:∀{ds:List (DataW H)},qC [(false,[.lst [.int .u8]]),(false,[.lst [.int .u8]]),(true,agF),(false,[.int .i64]),(false,[.int .i64]),(true,agx)] ds->(∃d1 d2 d3 d4 d5 d6,ds=[d1,d2,d3,d4,d5,d6])∧∃(b m:C_) (rt n:Int) (cb:Bool) (cz full other:Int) (f:eC),(∀x∈b,x<=255)∧(∀x∈m,x<=255)∧f.Rng∧I2 [(false,[Ty.lst [.int .u8]]),(false,[Ty.lst [.int .u8]]),(true,agF),(false,[Ty.int .i64]),(false,[Ty.int .i64]),(true,agx)] ds=[.d (.lst (ai b)),.d (.lst (ai m)),jN rt n cb cz,A_ full,A_ other,.agg f.av]
 |[d1,d2,d3,d4,d5,d6],h=>by
  simp only[qC,and_true]at h;obtain⟨h1,h2,h3,h4,h5,h6⟩:=h;obtain⟨x1,e1,h1⟩:=Be h1;obtain⟨b,rfl,hb⟩:=acb h1;obtain⟨x2,e2,h2⟩:=Be h2;obtain⟨m,rfl,hm⟩:=acb h2;obtain⟨rt,n,cb,cz,e3⟩:=aAy h3;obtain⟨x4,e4,h4⟩:=Be h4;obtain⟨k,rfl,hk⟩:=qM h4;obtain⟨x5,e5,h5⟩:=Be h5;obtain⟨o,rfl,ho⟩:=qM h5;obtain⟨f,e6,hf⟩:=aAe h6;refine⟨⟨_,_,_,_,_,_,rfl⟩,b,m,rt,n,cb,cz,k,o,f,hb,hm,hf,?_⟩;simp only[I2,e1,e2,e4,e5,e6,agJ,e3]
 |[],h=>by simp[qC]at h
 |[_],h=>by simp[qC]at h
 |[_,_],h=>by simp[qC]at h
 |[_,_,_],h=>by simp[qC]at h
 |[_,_,_,_],h=>by simp[qC]at h
 |[_,_,_,_,_],h=>by simp[qC]at h
 |_::_::_::_::_::_::_::_,h=>by simp[qC]at h
end Go.Vm
end
