import Derived.Test.YtpidphkolofkfaaGreatP5
set_option linter.unusedVariables false
set_option linter.unusedSimpArgs false
set_option linter.defProp false
set_option linter.unusedSectionVars false
noncomputable section
namespace Go.Vm
set_option maxRecDepth 100000
set_option maxHeartbeats 4000000
def aeG:∀ {r t:G_}{w z:Int},dJ r t w z≠none->r.length=t.length∧∀ n∈t,-1<=n∧n<=511
 | [],[],_,_,_=>⟨rfl,s_⟩
 | [],_::_,_,_,h=>absurd rfl h
 | _::_,[],_,_,h=>absurd rfl h
 | k::r,v::t,w,z,h=>by
  obtain⟨c1,c2,c3⟩:=pY h;rw[c3]at h;obtain⟨i1,i2⟩:=aeG h;refine⟨by rw[aq,aq,i1],fun n hn=>?_⟩;rcases az.1 hn with rfl | hn
  .by_cases h0:k=0
   .have:=c1 h0;omega
   .exact Sg (c2 h0)
  .exact i2 n hn
def acT:∀ {g:H_}{t:J_}{w z:Int},mC g t w z≠none->∀ l∈t,∀ n∈l,-1<=n∧n<=511
 | [],[],_,_,_=>by simp
 | [],_::_,_,_,h=>absurd rfl h
 | _::_,[],_,_,h=>absurd rfl h
 | l::r,t::s,w,z,h=>by
  rw[mC]at h
  cases e:dJ (aK l) t w z with
  | none=>rw[e]at h;exact absurd rfl h
  | some p =>
   rw[e]at h;intro q hq;rcases az.1 hq with rfl | hq
   .exact(aeG (by rw[e];simp)).2
   .exact acT h q hq
abbrev Ko (v:Hd×G_):cu:=⟨v.1.gain,v.1.inf,v.1.S,v.1.T,v.1.F,v.2⟩
def aw0 {o p:Nat}(ho:o<=1) (hp:p<=1) (h:Yh (o:Int) p=0):o=0∧p=0:=by
 unfold Yh at h;split at h<;>omega
def arp {b:C_}(hb:b.length<=1000000000) {r:Nat}{i:aL}{q:Bool}(hr:r<=11) (hi:i.Fit) {a:Int}{v:Hd×G_}{n:Nat}(h:Ci b a r q i=.ok v n) :
  ∃ A:Nat,a=A∧(Ko v).Fit∧mR r (Ko v)∧At b A n (Cu r (Ko v) q)∧(q=true->v.1.inf=i):=by
 unfold Ci at h;obtain⟨u0,n0,e0,g0⟩:=aS.1 h;clear h;have ha:=ak0 e0;obtain⟨A,rfl⟩:=aB ha;have f0:=(ca (s:=0) o_).1 e0;have f0':n0=A∧A<=b.length:=dT.1 f0.2;obtain⟨f0a,f0b⟩:=f0'
 cases f0a
 by_cases hm:q=true∧¬ i.may r
 .rw[ac hm]at g0;exact absurd g0 (by simp)
 rw[aa hm]at g0;have hq:q=true->i.may r:=fun h=>qK fun h2=>hm ⟨h,h2⟩
 obtain⟨H,nH,eH,g1⟩:=aS.1 g0;clear g0;obtain⟨Z,nZ,eZ,g2⟩:=aS.1 g1;clear g1;by_cases hend:H.od=0∧(H.is=1->oB H.F=true)
 rotate_left
 .rw[aa hend]at g2;exact absurd g2 (by simp)
 rw[ac hend]at g2;injection g2 with h1 h2
 subst h1 h2;have hR:dV (r:Int):=o_;have pH:=(Ns b hb r hR q i hi _ (.inl rfl) (fun h=>by rw[au];exact hq h) n0 o_ 0 0).2;rw[au]at pH;have p:=pH H nH eH;unfold Cq at eH;obtain⟨g,n1,e1,y1⟩:=aS.1 eH;clear eH;obtain⟨j,n2,e2,y2⟩:=aS.1 y1;clear y1;obtain⟨S,n3,e3,y3⟩:=aS.1 y2;clear y2;obtain⟨T,n4,e4,y4⟩:=aS.1 y3;clear y3;obtain⟨o,n5,e5,y5⟩:=aS.1 y4;clear y4;obtain⟨s,n6,e6,y6⟩:=aS.1 y5;clear y5;obtain⟨F,n7,e7,y7⟩:=aS.1 y6;clear y6;obtain⟨o2,n8,e8,y8⟩:=aS.1 y7;clear y7;injection y8 with k1 k2
 subst k1 k2;simp only at hend eZ p;have f1:=(ca (s:=8) o_).1 e1;have hjm:j.may r:=p.may;have hm11:=gh hr hjm;have f2:At b n1 n2 (if q then [] else kX j)∧(q=true->j=i):=by
  cases q with
  | true =>
   rw[ac rfl]at e2⊢;injection e2 with k1 k2
   subst k1 k2;exact⟨dT.2 ⟨rfl,(dn f1.2).2.1⟩,fun _=>rfl⟩
  | false =>
   rw[aa s_]at e2⊢;exact⟨((NL hr).1 e2).2,fun h=>absurd h s_⟩
 have f3:=(XE hm11 (dn f2.1).2.1).1 e3;have f4:=(ack (dn f3.2).2.1 (fun l hl=>abg (f3.1.2 l hl)) o_).1 e4;have f5:=am4 e5;have f6:=am4 e6;have f8:=am4 e8;have hoo:=aw0 f5.1 f8.1 hend.1;have hF:Td j F∧At b n4 n8 (if oB F then 0::1::(jl j.short F++[0]) else [0,0,0]):=by
  rw[hoo.1]at f5;rw[hoo.2]at f8;by_cases hs:s=1
  .rw[ac hs]at e7;have f7:=(akn (dn f6.2).2.1).1 e7;rw[hend.2 hs];rw[hs]at f6;exact⟨f7.1,aX (X:=[0]) |>.2 ⟨n5,f5.2,aX (X:=[1]) |>.2 ⟨n6,f6.2,aX.2 ⟨n7,f7.2,f8.2⟩⟩⟩⟩
  .rw[aa hs]at e7;have hs0:s=0:=o_;injection e7 with k1 k2
   subst k1 k2;have han:oB (List.replicate j.many ([]:AA_))=false:=by
    rw[oB,mu];intro l hl;rw[cY hl];simp
   rw[han];rw[hs0]at f6;exact⟨⟨by rw[bi],fun l hl=>by rw[cY hl];exact⟨dl _,s_⟩⟩,aX (X:=[0]) |>.2 ⟨n5,f5.2,aX (X:=[0]) |>.2 ⟨n6,f6.2,f8.2⟩⟩⟩
 have hg:=p.gain;simp only at hg;obtain⟨l1,l2,l3⟩:=an8 (c:=⟨g,j,S,T,F,Z⟩) hr hjm f3.1 (dn hF.2).2.1 eZ;have hmx:=jK hm11;have hmm:=zk j;obtain⟨q1,q2⟩:=dG hm11;have hgl:j.groups.length<=8:=by have:=mE (fun n hn=>(q1 n hn).1);omega
 have hSl:S.length<=8:=by have:=f3.1.1;omega
 have hTl:T.length=S.length:=by have:=bl List.length p.T;simpa using this
 have hft:=p.fit;simp only at hft;refine⟨n0,rfl,?_,?_,?_,f2.2⟩
 .refine⟨by simp only[];omega,hft,⟨by simp only[];omega,fun l hl=>by have:=p.Sl l hl;omega⟩,fun l hl x hx=>?_,⟨by simp only[];omega,fun l hl=>?_⟩,fun l hl x hx=>by have:=acT f4.1 l hl x hx;omega,⟨by have:=hF.1.1;simp only[];omega,fun l hl=>by have:=p.F.2 l hl;exact⟨o_,fun f hf=>by have:=this.2 f hf;omega⟩⟩,fun l hl f hf=>?_,by have:=l1.1;simp only[]at this⊢;omega,l3⟩
  .have:=tU (f3.1.2 l hl) o_ x hx;have a1:=this.1;have a2:=this.2;omega
  .have h1:l.length∈T.map List.length:=dj.2 ⟨l,hl,rfl⟩;rw[show T.map List.length=S.map (fun l=>(aK l).length) from p.T]at h1;obtain⟨x,hx,e⟩:=dj.1 h1;have:=Fq (f3.1.2 x hx);omega
  .have hw:=hF.1.2 l hl
   cases l with
   | nil=>exact absurd hf (by simp)
   | cons f0 lr =>
    have:=(hw.2 f0 rfl f hf).1;obtain⟨⟨b1,b2⟩,⟨b3,b4⟩,_,_,b5⟩:=this;have lf:Ac j.short<=63:=by cases j.short<;>decide
    have of:wE j.short<=12:=by cases j.short<;>decide
    refine⟨o_,fun x hx=>?_⟩;have:=b5 x hx;have hh:dB f.fine<=8∧4<=dB f.fine:=by cases f.fine<;>decide
    omega
 .exact⟨by simp only[];omega,hjm,f3.1,f4.1,hF.1,l1⟩
 .exact aX.2 ⟨n1,by simpa using f1.2,aX.2 ⟨n2,f2.1,aX.2 ⟨n3,f3.2,aX.2 ⟨n4,f4.2,aX.2 ⟨n8,hF.2,l2⟩⟩⟩⟩⟩
def Ia {t:Ty}:∀ {ds:W_},OkDs [t] ds->∃ d,ds=[d]∧rZ t d
 | [],h=>by simp[OkDs]at h
 | [d],h=>⟨d,rfl,by simpa [OkDs] using h⟩
 | _::_::_,h=>by simp[OkDs]at h
def sy {t:Ty}{ts:BG_}:∀ {ds:W_},OkDs (t::ts) ds->∃ d r,ds=d::r∧rZ t d∧OkDs ts r
 | [],h=>by simp[OkDs]at h
 | d::r,h=>⟨d,r,rfl,by simpa only[OkDs] using h⟩
def aoK {k:IntKind}:∀ {d:D},rZ (.int k) d->∃ n,d=.int k n∧(Lit.int k n).wf=true
 | .int j n,h=>by
  simp only[rZ]at h;obtain⟨rfl,h⟩:=h;exact⟨n,rfl,h⟩
 | .bool _,h=>by simp[rZ]at h
 | .str _,h=>by simp[rZ]at h
 | .lst _,h=>by simp[rZ]at h
def uj {d:D}(h:rZ (.int .i64) d):∃ n,d=.int .i64 n∧i64 n:=by
 obtain⟨n,e,h⟩:=aoK h;refine⟨n,e,?_⟩;simp[Lit.wf,IntKind.min,IntKind.max,IntKind.signed,IntKind.bits]at h;omega
def am1 {d:D}(h:rZ (.int .u8) d):∃ n:Nat,d=.int .u8 n∧n<=255:=by
 obtain⟨n,e,h⟩:=aoK h;simp[Lit.wf,IntKind.min,IntKind.max,IntKind.signed,IntKind.bits]at h;refine⟨n.toNat,?_,o_⟩;rw[e,px h.1]
def MJ:∀ {d:D},rZ .bool d->∃ b,d=.bool b
 | .bool b,_=>⟨b,rfl⟩
 | .int _ _,h=>by simp[rZ]at h
 | .str _,h=>by simp[rZ]at h
 | .lst _,h=>by simp[rZ]at h
def If {es:BG_}:∀ {d:D},rZ (.lst es) d->∃ xs,d=.lst xs∧∀ x∈xs,OkDs es x
 | .lst xs,h=>⟨xs,rfl,by simpa only[rZ] using h⟩
 | .int _ _,h=>by simp[rZ]at h
 | .str _,h=>by simp[rZ]at h
 | .bool _,h=>by simp[rZ]at h
def Bi {α:Type}{es:BG_}{f:α->W_}{Q:α->Prop}(h1:∀ x,OkDs es x->∃ a,x=f a∧Q a):∀ {xs:E_},(∀ x∈xs,OkDs es x)->∃ l:List α,xs=l.map f∧∀ a∈l,Q a
 | [],_=>⟨[],rfl,s_⟩
 | x::r,h=>by
  obtain⟨a,rfl,ha⟩:=h1 x (h x (.head _));obtain⟨l,rfl,hl⟩:=Bi h1 (xs:=r) fun y hy=>h y (.tail _ hy)
  exact⟨a::l,rfl,fun b hb=>(az.1 hb).elim (fun e=>e▸ha) (hl b)⟩
def abp {d:D}(h:rZ (.lst [.int .i64]) d):∃ ns,d=.lst (aF ns)∧∀ n∈ns,i64 n:=by
 obtain⟨xs,rfl,h⟩:=If h;obtain⟨l,rfl,hl⟩:=Bi (f:=fun n=>[.int .i64 n]) (Q:=i64) (fun x hx=>by
  obtain⟨d,rfl,hd⟩:=Ia hx;obtain⟨n,rfl,hn⟩:=uj hd;exact⟨n,rfl,hn⟩) h
 exact⟨l,rfl,hl⟩
def atj:BG_:=[.int .i64,.int .i64]
def atZ:BG_:=[.int .i64,.int .i64,.bool,.bool,.lst [.int .i64]]
def atY:BG_:=[.int .i64,.int .u8,.int .u8,.int .i64,.lst [.int .i64],.lst [.lst atj],.lst [.lst [.int .i64]],.lst [.lst atZ],.lst [.int .i64]]
def ax6 {x:W_}(h:OkDs atj x):∃ s:aU,x=s.cells∧i64 s.book∧i64 s.len:=by
 obtain⟨a,r,rfl,ha,h⟩:=sy h;obtain⟨b,rfl,hb⟩:=Ia h;obtain⟨n,rfl,hn⟩:=uj ha;obtain⟨m,rfl,hm⟩:=uj hb;exact⟨⟨n,m⟩,rfl,hn,hm⟩
def ay1 {x:W_}(h:OkDs atZ x):∃ f:bT,x=f.cells∧(i64 f.len∧i64 f.order)∧∀ y∈f.coefs,i64 y:=by
 obtain⟨a,r,rfl,ha,h⟩:=sy h;obtain⟨b,r,rfl,hb,h⟩:=sy h;obtain⟨c,r,rfl,hc,h⟩:=sy h;obtain⟨d,r,rfl,hd,h⟩:=sy h;obtain⟨e,rfl,he⟩:=Ia h;obtain⟨n,rfl,hn⟩:=uj ha;obtain⟨m,rfl,hm⟩:=uj hb;obtain⟨p,rfl⟩:=MJ hc;obtain⟨q,rfl⟩:=MJ hd;obtain⟨l,rfl,hl⟩:=abp he;exact⟨⟨n,m,p,q,l⟩,rfl,⟨hn,hm⟩,hl⟩
def ZR {α:Type}{es:BG_}{f:α->W_}{Q:α->Prop}(h1:∀ x,OkDs es x->∃ a,x=f a∧Q a) {d:D}(h:rZ (.lst [.lst es]) d):∃ l:List (List α),d=.lst (l.map fun r=>[.lst (r.map f)])∧∀ r∈l,∀ a∈r,Q a:=by
 obtain⟨xs,rfl,h⟩:=If h;obtain⟨l,rfl,hl⟩:=Bi (f:=fun r:List α=>[.lst (r.map f)]) (Q:=fun r=>∀ a∈r,Q a) (fun x hx=>by
  obtain⟨d,rfl,hd⟩:=Ia hx;obtain⟨xs,rfl,h⟩:=If hd;obtain⟨r,rfl,hr⟩:=Bi h1 h;exact⟨r,rfl,hr⟩) h
 exact⟨l,rfl,hl⟩
structure cu.Rng (c:cu):Prop where
 gain:i64 c.gain
 seq:c.info.seq<=255
 shape:c.info.shape<=255
 max:i64 c.info.max
 groups:∀ n∈c.info.groups,i64 n
 secI:∀ l∈c.sects,∀ s∈l,i64 s.book∧i64 s.len
 stepI:∀ l∈c.steps,∀ n∈l,i64 n
 fltI:∀ l∈c.tns,∀ f∈l,(i64 f.len∧i64 f.order)∧∀ x∈f.coefs,i64 x
 lineI:∀ n∈c.lines,i64 n
def axI {x:W_}(h:OkDs atY x):∃ c:cu,x.map .d=c.av∧c.Rng:=by
 obtain⟨a1,r,rfl,h1,h⟩:=sy h;obtain⟨a2,r,rfl,h2,h⟩:=sy h;obtain⟨a3,r,rfl,h3,h⟩:=sy h;obtain⟨a4,r,rfl,h4,h⟩:=sy h;obtain⟨a5,r,rfl,h5,h⟩:=sy h;obtain⟨a6,r,rfl,h6,h⟩:=sy h;obtain⟨a7,r,rfl,h7,h⟩:=sy h;obtain⟨a8,r,rfl,h8,h⟩:=sy h;obtain⟨a9,rfl,h9⟩:=Ia h;obtain⟨n1,rfl,g1⟩:=uj h1;obtain⟨n2,rfl,g2⟩:=am1 h2;obtain⟨n3,rfl,g3⟩:=am1 h3;obtain⟨n4,rfl,g4⟩:=uj h4;obtain⟨l5,rfl,g5⟩:=abp h5;obtain⟨l6,rfl,g6⟩:=ZR (f:=aU.cells) (fun x hx=>ax6 hx) h6;obtain⟨l7,rfl,g7⟩:=ZR (f:=fun n=>[.int .i64 n]) (Q:=i64) (fun x hx=>by
  obtain⟨d,rfl,hd⟩:=Ia hx;obtain⟨n,rfl,hn⟩:=uj hd;exact⟨n,rfl,hn⟩) h7
 obtain⟨l8,rfl,g8⟩:=ZR (f:=bT.cells) (fun x hx=>ay1 hx) h8;obtain⟨l9,rfl,g9⟩:=abp h9;exact⟨⟨n1,⟨n2,n3,n4,l5⟩,l6,l7,l8,l9⟩,rfl,g1,g2,g3,g4,g5,g6,g7,g8,g9⟩
def cu.Rng.fit {c:cu}(h:c.Rng) (s:aeu c):c.Fit where
 gain:=h.gain
 info:=⟨h.seq,h.shape,h.max,by have:=s.groups;omega,h.groups⟩
 sects:=⟨by have:=s.sects.1;omega,fun l hl=>by have:=s.sects.2 l hl;omega⟩
 secI:=h.secI
 steps:=⟨by have:=s.steps.1;omega,fun l hl=>by have:=s.steps.2 l hl;omega⟩
 stepI:=h.stepI
 tns:=⟨by have:=s.tns.1;omega,fun l hl=>⟨by have:=(s.tns.2 l hl).1;omega,fun f hf=>by have:=(s.tns.2 l hl).2 f hf;omega⟩⟩
 fltI:=h.fltI
 lines:=by have:=s.lines;omega
 lineI:=h.lineI
abbrev fN (C F I:D_) (T:ak) (c:D_):ak:=(0,.cells C)::(1,.cells F)::(2,.cells c)::(3,.cells I)::T
def amT (C F I:D_) (T:ak):Hr (fN C F I T) 2:=⟨fun c=>by simp,fun c d=>by simp⟩
def ln (b:C_):Nat->Nat×Nat->U_×Nat×Nat
 | 0,s=>([],s)
 | k+1,s=>(decide ((gT b s 1).1=1)::(ln b k (gT b s 1).2).1,(ln b k (gT b s 1).2).2)
def ahM {b:C_}:∀ {k:Nat}{s:Nat×Nat},(ln b k s).1.length=k
 | 0,_=>rfl
 | k+1,s=>by rw[ln,aq,ahM]
def ajU {b:C_}:∀ {k:Nat}{s:Nat×Nat},s.1<=b.length->(ln b k s).2.1<=b.length
 | 0,_,h=>h
 | k+1,s,h=>ajU (k:=k) (s:=(gT b s 1).2) (rg h)
def abL {b:C_}:∀ {k:Nat}{s:Nat×Nat},s.2≠0->(ln b k s).2=s
 | 0,_,h=>rfl
 | k+1,s,h=>by rw[ln];simp only[uT h];exact abL h
def G6 (b:C_):Nat->Nat->R U_
 | 0,a=>.ok [] a
 | k+1,a=>(bc b a 1).bind fun x n=>(G6 b k n).bind fun l m=>.ok (decide (x=1)::l) m
def aoA {b:C_}:∀ {k a:Nat},Lk (G6 b k a) (fun l=>(ln b k (a,0)).1=l) (ln b k (a,0)).2
 | 0,a=>⟨rfl,rfl⟩
 | k+1,a=>by
  rw[G6,ln]
  cases e:bc b a 1 with
  | er q =>
   rw[zM e];simp only;rw[abL (bt _)];exact rfl
  | ok x n =>
   rw[oI e,ay];have h:=aoA (b:=b) (k:=k) (a:=n)
   cases e2:G6 b k n with
   | er q=>rw[e2]at h;exact h
   | ok l m=>rw[e2]at h;exact⟨by rw[h.1],h.2⟩
def avT {l:U_}{i:Nat}{x:Bool}:(gE l).set i [.bool x]=gE (l.set i x):=by simp[gE,lL]
def au0 (b:C_) (hb:b.length<=1000000000) (C F I:D_) (mx:Nat) (hm:mx<=1000) (N:Nat) (hN:4<=N) (y104 y105:D):∀ (k i:Nat) (acc:U_) (s:Nat×Nat),i+k=mx->acc.length=i->s.1<=b.length->
  (Dn prog).code (.loop zV) ⟨[(2,.ptr 0 0),(4,.ptr 1 0),(6,.ptr 2 0),(7,.ptr 3 0),(8,.sl N 0 mx),(104,.d y104),(105,.d y105),(121,A_ mx),(122,A_ i)],⟨fN C F I [(N,.arr 1 (gE (acc++List.replicate k false)))] (cM b s),N+1⟩⟩ =
  some (.exit 3,⟨[(2,.ptr 0 0),(4,.ptr 1 0),(6,.ptr 2 0),(7,.ptr 3 0),(8,.sl N 0 mx),(104,.d y104),(105,.d y105)],⟨fN C F I [(N,.arr 1 (gE (acc++(ln b k s).1)))] (cM b (ln b k s).2),N+1⟩⟩):=by
 intro k
 induction k with
 | zero =>
  intro i acc s hi hl hs;have:i=mx:=o_;subst this;rw[ah Pm,ln];simp (maxSteps:=300000) (disch:=omega) [↓ac,↓aa]
 | succ k ih =>
  intro i acc s hi hl hs;have h1:=fW (amT C F I [(N,.arr 1 (gE (acc++List.replicate (k+1) false)))]) b hb s hs 1 (N+1);have h5:=fun x=>ih (i+1) (acc++[x]) (gT b s 1).2 o_ g_ (rg hs)
  have c1:((i+1:Nat):Int)=(i:Int)+1:=rfl;have hset:∀ x:Bool,(gE (acc++List.replicate (k+1) false)).set i [.bool x]=gE (acc++[x]++List.replicate k false):=fun x=>by
   rw[avT,<-hl,cy,Tc,aA];rfl
  have hget:(gE (acc++List.replicate (k+1) false))[i]?=some [.bool false]:=by
   rw[gE,bU,cw o_,hl,tY,cy];rfl
  rw[c1]at h5;rw[ln];generalize gT b s 1=g at *;obtain⟨x,s1⟩:=g;simp only at h1 h5⊢;have h5:=h5 (decide (x=1));have hset:=hset (decide (x=1));have e:acc++decide (x=1)::(ln b k s1).1=acc++[decide (x=1)]++(ln b k s1).1:=s_;rw[e,ah Pm,<-h5];have n0:N≠0∧N≠1∧N≠2∧N≠3:=o_;simp only[fN,cM]at h1⊢;generalize gE (acc++List.replicate (k+1) false)=Z at *;by_cases hx:x=1
  .rw[decide_eq_true hx]at hset⊢;have hx2:(x:Int)=1:=o_;simp (maxSteps:=300000) (disch:=omega) [↓ac,↓aa,h1,hget,hset,hx2,n0]
  .rw[decide_eq_false hx]at hset⊢;have hx2:¬ (x:Int)=1:=o_;simp (maxSteps:=300000) (disch:=omega) [↓ac,↓aa,h1,hget,hset,hx2,n0]
@[simp ↓] def aEq {β:Type}{P:Nat->Y_}{i:Nat}{e:aV}{h:ak}{m:Nat}{k:AV->aV->HS->Option β}:bS P (.frz i) e ⟨h,m⟩ k=bA (get e i) fun v=>k (.tup []) (put e i (zo h v).1) ⟨(zo h v).2,m⟩:=by
 rw[Ic];show gb (YT i ⟨e,⟨h,m⟩⟩) k=_;unfold YT;simp only[]
 cases get e i<;>rfl
def asd (o:Option Obj) (h:ak) (id off len:Nat):AV×ak :=
 match o with
 | some (.arr m xs)=>if off+len<=xs.length then (.own false m (sub xs off len),del h id) else (.sl id off len,h)
 | _=>(.sl id off len,h)
@[simp] def aFA {h:ak}{id off len:Nat}:zo h (.sl id off len)=asd (get h id) h id off len:=by
 simp only[zo,asd]
 cases get h id with
 | none=>rfl
 | some o =>
  cases o with
  | arr m xs =>
   simp only[];by_cases hl:off+len<=xs.length
   .rw[ac hl,show Nat.ble (off+len) xs.length=true by rw[bj];exact hl]
   .rw[aa hl,show Nat.ble (off+len) xs.length=false from Bool.eq_false_iff.2 fun h=>hl (by rwa [bj]at h)]
  | cells=>rfl
  | loop=>rfl
@[simp ↓] def aGi {m:Nat}{xs:E_}{h:ak}{id off len:Nat}:asd (some (.arr m xs)) h id off len=if off+len<=xs.length then (.own false m (sub xs off len),del h id) else (.sl id off len,h):=(rfl)
def ww (b:C_) (mx:Nat):Nat->Nat->R S_
 | 0,a=>.ok [] a
 | g+1,a=>(G6 b mx a).bind fun l n=>(ww b mx g n).bind fun t m=>.ok (l::t) m
abbrev JH (g j:Int):aV:=[(2,.ptr 0 0),(4,.ptr 1 0),(6,.ptr 2 0),(7,.ptr 3 0),(104,A_ g),(105,A_ j)]
abbrev S3:aV:=[(2,.ptr 0 0),(4,.ptr 1 0),(6,.ptr 2 0),(7,.ptr 3 0)]
section
variable (b:C_) (hb:b.length<=1000000000) (C:D_) (f0 f1 f4:AV) (i0 i1 i3:AV) (mx:Nat) (hm:mx<=1000)
theorem K5 (F I:D_) (s:Nat×Nat) (g:Int) (N:Nat) :
  (Dn prog).code (.loop fC) ⟨JH g g,⟨fN C F I [] (cM b s),N⟩⟩=some (.exit 1,⟨S3,⟨fN C F I [] (cM b s),N⟩⟩):=by
 rw[ah FO];simp (maxSteps:=300000) (disch:=omega) [↓ac,↓aa]
theorem U6 (f3:AV) (I:D_) (s:Nat×Nat) (mk:Int) (g j:Int) (hj:j<g) (h:mk≠1∨s.2≠0) (N:Nat) :
  (Dn prog).code (.loop fC) ⟨JH g j,⟨fN C [f0,f1,A_ mk,f3,f4] I [] (cM b s),N⟩⟩=some (.exit 1,⟨S3,⟨fN C [f0,f1,A_ mk,f3,f4] I [] (cM b s),N⟩⟩):=by
 obtain⟨a,e⟩:=s;rw[ah FO];simp only[fN,cM];by_cases hk:mk=1
 .have he:e≠0:=h.resolve_left (fun h=>h hk);subst hk;simp (maxSteps:=300000) (disch:=omega) [↓ac,↓aa,he]
 .simp (maxSteps:=300000) (disch:=omega) [↓ac,↓aa,hk]
include hb hm
theorem agi (a:Nat) (ha:a<=b.length) (acc:S_) (hacc:acc.length<=1000) (g j:Nat) (hj:j<g) (hg:g<=1000) (N:Nat) (hN:4<=N) :
  (Dn prog).code (.loop fC) ⟨JH g j,⟨fN C [f0,f1,A_ 1,aD 1 (dr acc),f4] [i0,i1,A_ mx,i3] [] (cM b (a,0)),N⟩⟩ =
  (Dn prog).code (.loop fC) ⟨JH g (j+1:Nat),⟨fN C [f0,f1,A_ 1,aD 1 (dr (acc++[(ln b mx (a,0)).1])),f4] [i0,i1,A_ mx,i3] [] (cM b (ln b mx (a,0)).2),N+1⟩⟩:=by
 have h1:=au0 b hb C [f0,f1,A_ 1,aD 1 (dr acc),f4] [i0,i1,A_ mx,i3] mx hm N hN (.int .i64 g) (.int .i64 j) mx 0 [] (a,0) o_ rfl ha;have hk:=DT (z:=[.bool false]) (n:=mx) o_;rw[avn]at hk;have c1:((j+1:Nat):Int)=(j:Int)+1:=rfl;have c0:((0:Nat):Int)=0:=rfl;have hl:(ln b mx (a,0)).1.length=mx:=ahM;have hrl:(gE (List.replicate mx false)).length=mx:=by rw[sQ,bi]
 have hbl:(gE (ln b mx (a,0)).1).length=mx:=by rw[sQ,hl]
 have ht:List.take mx (gE (ln b mx (a,0)).1)=gE (ln b mx (a,0)).1:=ck o_;have hA:(dr acc).length=acc.length:=Ig;have e:aD 1 (dr (acc++[(ln b mx (a,0)).1]))=.own false 1 (dr acc++[[.lst (gE (ln b mx (a,0)).1)]]):=by rw[ap1,nM]
 have n0:N≠0∧N≠1∧N≠2∧N≠3:=o_;rw[c1,e];simp only[aO,cM,fN,c0]at h1⊢;generalize ln b mx (a,0)=r at *;obtain⟨l,s⟩:=r;simp only at *;generalize gE (List.replicate mx false)=Z at *;generalize gE l=B at *;generalize dr acc=A at *;rw[ah FO]
 cases A with
 | nil=>simp (maxSteps:=300000) (disch:=omega) [↓ac,↓aa,hk,h1,hrl,hbl,ht,n0]
 | cons y r=>simp (maxSteps:=300000) (disch:=omega) [↓ac,↓aa,hk,h1,hrl,hbl,ht,n0]
theorem amu (g:Nat) (hg:g<=1000):∀ (c j a:Nat) (acc:S_) (N:Nat),j+c=g->acc.length=j->a<=b.length->4<=N->
  ∃ (w:S_) (s:Nat×Nat) (M:Nat),4<=M∧s.1<=b.length∧Lk (ww b mx c a) (fun t=>w=acc++t) s∧
  (Dn prog).code (.loop fC) ⟨JH g j,⟨fN C [f0,f1,A_ 1,aD 1 (dr acc),f4] [i0,i1,A_ mx,i3] [] (cM b (a,0)),N⟩⟩ =
  some (.exit 1,⟨S3,⟨fN C [f0,f1,A_ 1,aD 1 (dr w),f4] [i0,i1,A_ mx,i3] [] (cM b s),M⟩⟩):=by
 intro c
 induction c with
 | zero =>
  intro j a acc N hj hl ha hN;obtain rfl:j=g:=o_;exact⟨acc,(a,0),N,hN,ha,⟨s_,rfl⟩,K5 b C _ _ _ _ _⟩
 | succ c ih =>
  intro j a acc N hj hl ha hN;rw[agi b hb C f0 f1 f4 i0 i1 i3 mx hm a ha acc o_ g j o_ hg N hN,ww];have hr:=aoA (b:=b) (k:=mx) (a:=a);have hle:(ln b mx (a,0)).2.1<=b.length:=ajU ha;generalize ln b mx (a,0)=r at *;obtain⟨l,s⟩:=r
  cases e:G6 b mx a with
  | ok l2 n =>
   rw[e]at hr;obtain⟨h1,h2⟩:=hr;simp only at h1 h2 hle;subst h1 h2;obtain⟨w,s6,M,k1,k2,k3,k4⟩:=ih (j+1) n (acc++[l]) (N+1) o_ g_ hle o_;refine⟨w,s6,M,k1,k2,?_,k4⟩;rw[ay]
   cases e2:ww b mx c n with
   | er q=>rw[e2]at k3;exact k3
   | ok t q=>rw[e2]at k3;exact⟨by rw[k3.1,aA];rfl,k3.2⟩
  | er e0 =>
   rw[e]at hr;have hd:s.2=e0+1:=hr;refine⟨acc++[l],s,N+1,o_,hle,hd,?_⟩;by_cases hc:c=0
   .have:j+1=g:=o_;rw[this];exact K5 b C _ _ _ _ _
   .exact U6 b C f0 f1 f4 _ _ s 1 g (j+1:Nat) o_ (.inr o_) _
theorem an1 (g:Nat) (hg:g<=1000) (k:Nat) (s:Nat×Nat) (hs:s.1<=b.length) (N:Nat) (hN:4<=N) :
  ∃ (w:S_) (s6:Nat×Nat) (M:Nat),4<=M∧s6.1<=b.length∧(s.2=0->Lk (if k=1 then ww b mx g s.1 else .ok [] s.1) (fun t=>w=t) s6)∧(s.2≠0->s6=s)∧
  (Dn prog).code (.loop fC) ⟨JH g 0,⟨fN C [f0,f1,A_ k,.nl,f4] [i0,i1,A_ mx,i3] [] (cM b s),N⟩⟩ =
  some (.exit 1,⟨S3,⟨fN C [f0,f1,A_ k,aD 1 (dr w),f4] [i0,i1,A_ mx,i3] [] (cM b s6),M⟩⟩):=by
 have e0:aD 1 (dr [])=.nl:=rfl;obtain⟨a,e⟩:=s;by_cases h:k=1∧e=0
 .obtain⟨rfl,rfl⟩:=h;obtain⟨w,s6,M,k1,k2,k3,k4⟩:=amu b hb C f0 f1 f4 i0 i1 i3 mx hm g hg g 0 a [] N o_ rfl hs hN;rw[e0]at k4;exact⟨w,s6,M,k1,k2,fun _=>by simpa using k3,fun h=>absurd rfl h,k4⟩
 .refine⟨[],(a,e),N,hN,hs,fun he=>?_,fun _=>rfl,?_⟩
  .rw[aa (fun hk=>h ⟨hk,he⟩)];exact⟨rfl,by rw[show e=0 from he]⟩
  .rw[e0];by_cases hg0:g=0
   .subst hg0;exact K5 b C _ _ _ _ _
   .exact U6 b C f0 f1 f4 _ _ (a,e) k g 0 o_ t_ _
end
def rE (b:C_) (r:Nat) (q:Bool) (i:aL):Nat->Nat->R AG_
 | 0,a=>.ok [] a
 | k+1,a=>(Ci b a r q i).bind fun v n=>(rE b r q i k n).bind fun l m=>.ok (Ko v::l) m
abbrev Bz (n i:Int):aV:=[(2,.ptr 0 0),(4,.ptr 1 0),(6,.ptr 2 0),(7,.ptr 3 0),(140,A_ n),(141,A_ i)]
abbrev zF:D_:=[.nl,B_ false,A_ 0,.nl,.nl]
def alS (q:Bool) (i:aL) (I iv:D_):Prop:=(I=[.d (.int .u8 i.seq),.d (.int .u8 i.shape),A_ i.max,.own false 1 (aF i.groups)]∧iv=i.cells)∨(I=zI∧q=false∧iv=zI)
section
variable (b:C_) (hb:b.length<=1000000000)
theorem ai5 (C F I:D_) (s:Nat×Nat) (n:Int) (N:Nat) (hN:4<=N) :
  (Dn prog).code (.loop eY) ⟨Bz n n,⟨fN C F I [] (cM b s),N⟩⟩=some (.exit 5,⟨[(4,.ptr 1 0),(6,.ptr 2 0)],⟨[(1,.cells F),(2,.cells (cM b s))],N⟩⟩):=by
 rw[ah zE];simp (maxSteps:=300000) (disch:=omega) [↓ac,↓aa]
theorem afw (C I:D_) (f0 f1 f2 f3 f4:AV) (s:Nat×Nat) (hs:s.2≠0) (n i:Int) (hi:i<n) (N:Nat) :
  (Dn prog).code (.loop eY) ⟨Bz n i,⟨fN C [f0,f1,f2,f3,f4] I [] (cM b s),N⟩⟩=some (.ret,⟨[(4,.ptr 1 0),(5,A_ s.2)],⟨[(1,.cells zF),(2,.cells (cM b s))],N⟩⟩):=by
 obtain⟨a,e⟩:=s;simp only at hs;rw[ah zE];simp only[fN,cM];simp (maxSteps:=300000) (disch:=omega) [↓ac,↓aa,hs]
include hb
theorem ahz (r:Nat) (hr:r<=11) (q:Bool) (i:aL) (hi:i.Fit) (I iv:D_) (hI:alS q i I iv) (c1 c2 c3 f2 f3 f4:AV) (a:Nat) (ha:a<=b.length) (acc:AG_) (hacc:acc.length<=100) (v:Hd×G_) (m:Nat) (hv:Ci b a r q i=.ok v m) (n j:Nat) (hj:j<n) (hn:n<=2) (N:Nat) (hN:4<=N) :
  (Dn prog).code (.loop eY) ⟨Bz n j,⟨fN [A_ r,c1,c2,c3] [aD 9 (dt acc),B_ q,f2,f3,f4] I [] (cM b (a,0)),N⟩⟩ =
  (Dn prog).code (.loop eY) ⟨Bz n (j+1:Nat),⟨fN [A_ r,c1,c2,c3] [aD 9 (dt (acc++[Ko v])),B_ q,f2,f3,f4] I [] (cM b (m,0)),N+1⟩⟩:=by
 have hiv:iv=i.cells∨q=false∧iv=zI:=hI.imp And.right fun h=>⟨h.2.1,h.2.2⟩
 have hG:=ak2 b hb a o_ r hr q i hi iv hiv;rw[hv]at hG;have cj:((j+1:Nat):Int)=(j:Int)+1:=rfl;have c0:((0:Nat):Int)=0:=rfl;have hA:(dt acc).length=acc.length:=Dt;have e:aD 9 (dt (acc++[Ko v]))=.own false 9 (dt acc++[[.int .i64 v.1.gain,.int .u8 v.1.inf.seq,.int .u8 v.1.inf.shape,.int .i64 v.1.inf.max,.lst (aF v.1.inf.groups),.lst (bD v.1.S),.lst (cS v.1.T),.lst (cK v.1.F),.lst (aF v.2)]]):=by rw[apo,nM]
 have n0:N≠0∧N≠1∧N≠2∧N≠3:=o_;rw[cj,e];simp only[cM,fN,c0,asv,SB]at hG⊢;generalize dt acc=A at *;generalize aF v.2=Z at *;rcases hI with ⟨rfl,rfl⟩ | ⟨rfl,rfl,rfl⟩
 all_goals
  simp only[aL.cells,zI]at hG⊢;rw[ah zE]
  cases A with
  | nil=>simp (maxSteps:=300000) (disch:=omega) [↓ac,↓aa,hG,n0]
  | cons y w=>simp (maxSteps:=300000) (disch:=omega) [↓ac,↓aa,hG,n0]
theorem amW (r:Nat) (hr:r<=11) (q:Bool) (i:aL) (hi:i.Fit) (I iv:D_) (hI:alS q i I iv) (c1 c2 c3 f0 f2 f3 f4:AV) (a:Nat) (ha:a<=b.length) (e:Nat) (hv:Ci b a r q i=.er e) (n j:Nat) (hj:j<n) (hn:n<=2) (N:Nat) (hN:4<=N) :
  (Dn prog).code (.loop eY) ⟨Bz n j,⟨fN [A_ r,c1,c2,c3] [f0,B_ q,f2,f3,f4] I [] (cM b (a,0)),N⟩⟩ =
  some (.ret,⟨[(4,.ptr 1 0),(5,A_ ((e+1:Nat):Int))],⟨[(1,.cells zF),(2,.cells (cM b (0,e+1)))],N+1⟩⟩):=by
 have hiv:iv=i.cells∨q=false∧iv=zI:=hI.imp And.right fun h=>⟨h.2.1,h.2.2⟩
 have hG:=ak2 b hb a o_ r hr q i hi iv hiv;rw[hv]at hG;have ce:((e+1:Nat):Int)=(e:Int)+1:=rfl;have c0:((0:Nat):Int)=0:=rfl;have n0:N≠0∧N≠1∧N≠2∧N≠3:=o_;have e1:¬ ((e:Int)+1=0):=o_;simp only[cM,fN,c0,ce,asv,Cd]at hG⊢;rcases hI with ⟨rfl,rfl⟩ | ⟨rfl,rfl,rfl⟩
 all_goals
  simp only[aL.cells,zI]at hG⊢;rw[ah zE];simp (maxSteps:=300000) (disch:=omega) [↓ac,↓aa,hG,n0,e1]
end
def arH (w:C_) (hw:w.length<=1000000000) (N:Nat):∀ (r:C_) (i:Nat),w.drop i=r->
  (1∉r->(Dn prog).code (.loop iU) ⟨[(0,.d (.lst (am w))),(1,.d (.int .u8 1)),(7,A_ w.length),(8,A_ i)],⟨[],N⟩⟩=some (.exit 0,⟨[],⟨[],N⟩⟩))∧
  (1∈r->∃ k:Nat,(Dn prog).code (.loop iU) ⟨[(0,.d (.lst (am w))),(1,.d (.int .u8 1)),(7,A_ w.length),(8,A_ i)],⟨[],N⟩⟩=some (.ret,⟨[(4,A_ k)],⟨[],N⟩⟩)):=by
 intro r
 induction r with
 | nil =>
  intro i hd;have hi:=bb hd;refine⟨fun _=>?_,fun h=>absurd h s_⟩;rw[ah xX];simp (maxSteps:=300000) (disch:=omega) [↓ac,↓aa]
 | cons x r ih =>
  intro i hd;have hlt:=bv hd;have hg:(am w)[i]?=some [.int .u8 x]:=by
   have:=bl (fun l=>l[0]?) hd;simp only[b6,b7,dY]at this;rw[am,bU,this];rfl
  have h5:=ih (i+1) (bn hd);have c1:((i+1:Nat):Int)=(i:Int)+1:=rfl;rw[c1]at h5;rw[ah xX];generalize am w=W at *;by_cases hx:x=1
  .refine⟨fun h=>absurd (by rw[hx];exact .head _) h,fun _=>⟨i,?_⟩⟩;have hx2:(1:Int)=(x:Int):=o_;simp (maxSteps:=300000) (disch:=omega) [↓ac,↓aa,hg,<-hx2]
  .have hx2:¬ (1:Int)=(x:Int):=o_;refine⟨fun h=>?_,fun h=>?_⟩
   .rw[<-h5.1 fun h2=>h (.tail _ h2)];simp (maxSteps:=300000) (disch:=omega) [↓ac,↓aa,hg,hx2]
   .obtain⟨k,hk⟩:=h5.2 (by
    rcases az.1 h with h | h
    .exact absurd h.symm hx
    .exact h)
    refine⟨k,?_⟩;rw[<-hk];simp (maxSteps:=300000) (disch:=omega) [↓ac,↓aa,hg,hx2]
def als (w:C_) (hw:w.length<=1000000000):br prog ph [.d (.lst (am w)),.d (.int .u8 1)]=some (B_ (decide (1∈w))):=by
 obtain⟨h1,h2⟩:=arH w hw 0 w 0 rfl;have hl:=cT (l:=w);have c0:((0:Nat):Int)=0:=rfl;rw[c0]at h1 h2;by_cases h:1∈w
 .obtain⟨k,hk⟩:=h2 h;have hI:br prog tP [.d (.lst (am w)),.d (.int .u8 1)]=some (A_ k):=by
   rw[aJ CR CL rfl];generalize am w=W at *;simp (maxSteps:=300000) (disch:=omega) [↓ac,↓aa,hl,hk]
  rw[decide_eq_true h,aJ xW xY rfl];simp (maxSteps:=300000) (disch:=omega) [↓ac,↓aa,hI]
 .have hk:=h1 h;have hI:br prog tP [.d (.lst (am w)),.d (.int .u8 1)]=some (A_ (-1)):=by
   rw[aJ CR CL rfl];generalize am w=W at *;simp (maxSteps:=300000) (disch:=omega) [↓ac,↓aa,hl,hk]
  rw[decide_eq_false h,aJ xW xY rfl];simp (maxSteps:=300000) (disch:=omega) [↓ac,↓aa,hI]
abbrev hp3 (C F c:D_):ak:=[(0,.cells C),(1,.cells F),(2,.cells c)]
def amH (C F:D_):Hr (hp3 C F) 2:=⟨fun c=>by simp,fun c d=>by simp⟩
def M3 (b:C_) (n:Int):Nat×Nat:=kT (gT b (0,0) 3).2 (((gT b (0,0) 3).1:Int)=n-1)
def Zx (b:C_) (n:Int):Nat×Nat:=kT (gT b (M3 b n) 4).2 (((gT b (M3 b n) 4).1:Int)=0)
section
variable (b:C_) (hb:b.length<=1000000000)
include hb
theorem apM {n:Int}:(M3 b n).1<=b.length:=Hl (rg (dl _))
theorem ayY {n:Int}:(Zx b n).1<=b.length:=Hl (rg (apM b hb))
theorem akH (c0 c2 c3:AV) (n:Int) (hn:n=1∨n=2) (T:VC) :
  (Dn prog).code (.seq (.seq uw (K [41])) (.seq zW (.seq zN T))) ⟨[(2,.ptr 0 0),(4,.ptr 1 0),(6,.ptr 2 0)],⟨hp3 [c0,A_ n,c2,c3] zF (cM b (0,0)),3⟩⟩ =
  (Dn prog).code T ⟨[(2,.ptr 0 0),(4,.ptr 1 0),(6,.ptr 2 0),(7,.ptr 3 0)],⟨fN [c0,A_ n,c2,c3] zF zI [] (cM b (Zx b n)),4⟩⟩:=by
 have h1:=fW (amH [c0,A_ n,c2,c3] zF) b hb (0,0) (dl _) 3 3;have h2:=mO (amH [c0,A_ n,c2,c3] zF) b (gT b (0,0) 3).2 (((gT b (0,0) 3).1:Int)=n-1) 3;have h3:=fW (amH [c0,A_ n,c2,c3] zF) b hb (M3 b n) (apM b hb) 4 3;have h4:=mO (amH [c0,A_ n,c2,c3] zF) b (gT b (M3 b n) 4).2 (((gT b (M3 b n) 4).1:Int)=0) 3;have e1:M3 b n=kT (gT b (0,0) 3).2 (((gT b (0,0) 3).1:Int)=n-1):=rfl;have e2:Zx b n=kT (gT b (M3 b n) 4).2 (((gT b (M3 b n) 4).1:Int)=0):=rfl;rw[<-e1]at h2;rw[<-e2]at h4;clear e1 e2;generalize Zx b n=s4 at *;generalize M3 b n=s2 at *;generalize gT b (0,0) 3=g1 at *;obtain⟨x1,s1⟩:=g1;generalize gT b s2 4=g3 at *;obtain⟨x3,s3⟩:=g3;have c0':((0:Nat):Int)=0:=rfl;simp only[cM,hp3,fN,c0',zF]at h1 h2 h3 h4⊢;by_cases k1:(x1:Int)=n-1
 .rw[decide_eq_true k1]at h2;by_cases k2:(x3:Int)=0
  .rw[decide_eq_true k2]at h4;simp (maxSteps:=300000) (disch:=omega) [↓ac,↓aa,h1,h2,h3,h4]
  .rw[decide_eq_false k2]at h4;simp (maxSteps:=300000) (disch:=omega) [↓ac,↓aa,h1,h2,h3,h4]
 .rw[decide_eq_false k1]at h2;by_cases k2:(x3:Int)=0
  .rw[decide_eq_true k2]at h4;simp (maxSteps:=300000) (disch:=omega) [↓ac,↓aa,h1,h2,h3,h4]
  .rw[decide_eq_false k2]at h4;simp (maxSteps:=300000) (disch:=omega) [↓ac,↓aa,h1,h2,h3,h4]
theorem aeX (c0 c2 c3:AV) (s:Nat×Nat) (T:VC) :
  (Dn prog).code (.seq (.seq sF (.cond (.m 49) rY .skip)) T) ⟨[(2,.ptr 0 0),(4,.ptr 1 0),(6,.ptr 2 0),(7,.ptr 3 0)],⟨fN [c0,A_ 1,c2,c3] zF zI [] (cM b s),4⟩⟩ =
  (Dn prog).code T ⟨[(2,.ptr 0 0),(4,.ptr 1 0),(6,.ptr 2 0),(7,.ptr 3 0)],⟨fN [c0,A_ 1,c2,c3] zF zI [] (cM b s),4⟩⟩:=by
 simp only[cM,fN,zF];simp (maxSteps:=300000) (disch:=omega) [↓ac,↓aa]
theorem agd (c0 c2 c3:AV) (s:Nat×Nat) (hs:s.1<=b.length) (T:VC) :
  (Dn prog).code (.seq (.seq sF (.cond (.m 49) rY .skip)) T) ⟨[(2,.ptr 0 0),(4,.ptr 1 0),(6,.ptr 2 0),(7,.ptr 3 0)],⟨fN [c0,A_ 2,c2,c3] zF zI [] (cM b s),4⟩⟩ =
  (Dn prog).code T ⟨[(2,.ptr 0 0),(4,.ptr 1 0),(6,.ptr 2 0),(7,.ptr 3 0)],⟨fN [c0,A_ 2,c2,c3] [.nl,B_ ((decide ((gT b s 1).1=1))),A_ 0,.nl,.nl] zI [] (cM b (gT b s 1).2),4⟩⟩:=by
 have h1:=fW (amT [c0,A_ 2,c2,c3] zF zI []) b hb s hs 1 4;generalize gT b s 1=g at *;obtain⟨x,s1⟩:=g;simp only[cM,fN,zF]at h1⊢;by_cases hx:x=1
 .have hx2:(x:Int)=1:=o_;simp (maxSteps:=300000) (disch:=omega) [↓ac,↓aa,h1,hx,hx2]
 .have hx2:¬ (x:Int)=1:=o_;simp (maxSteps:=300000) (disch:=omega) [↓ac,↓aa,h1,hx,hx2]
end
def gb3 {b:C_}{a v n:Nat}:bc b (a:Int) 3=.ok v n↔v<8∧At b a n (ar v 3):=ca (s:=3) (by omega)
def gb4 {b:C_}{a v n:Nat}:bc b (a:Int) 4=.ok v n↔v<16∧At b a n (ar v 4):=ca (s:=4) (by omega)
def gb8 {b:C_}{a v n:Nat}:bc b (a:Int) 8=.ok v n↔v<256∧At b a n (ar v 8):=ca (s:=8) (by omega)
def gb2 {b:C_}{a v n:Nat}:bc b (a:Int) 2=.ok v n↔v<4∧At b a n (ar v 2):=ca (s:=2) (by omega)
def gb1 {b:C_}{a v n:Nat}:bc b (a:Int) 1=.ok v n↔v<2∧At b a n (ar v 1):=ca (s:=1) (by omega)
def JW {b:C_}:∀ {k a m:Nat}{l:C_},a<=b.length->(mU b k a=.ok l m↔l.length=k∧(∀ x∈l,x<=255)∧At b a m (fF l))
 | 0,a,m,l,ha=>by
  rw[mU];constructor
  .intro h;injection h with h1 h2
   subst h1 h2;exact⟨rfl,s_,dT.2 ⟨rfl,ha⟩⟩
  .rintro ⟨h1,_,h3⟩
   obtain rfl:=ax h1;rw[(dT.1 h3).1]
 | k+1,a,m,l,ha=>by
  rw[mU,aS];constructor
  .rintro ⟨x,n,e1,h⟩
   obtain⟨r,p,e2,h⟩:=aS.1 h;injection h with h1 h2;subst h1 h2;obtain⟨hx,f1⟩:=gb8.1 e1;obtain⟨h1,h2,f2⟩:=(JW (dn f1).2.1).1 e2;exact⟨by rw[aq,h1],fun y hy=>by
    rcases az.1 hy with rfl | hy
    .omega
    .exact h2 y hy,aX.2 ⟨n,f1,f2⟩⟩
  .rintro ⟨h1,h2,h3⟩
   cases l with
   | nil=>simp at h1
   | cons x r =>
    obtain⟨n,f1,f2⟩:=(aX (X:=ar x 8)).1 h3;refine⟨x,n,gb8.2 ⟨by have:=h2 x (.head _);omega,f1⟩,aS.2 ⟨r,m,(JW (dn f1).2.1).2 ⟨by simpa using h1,fun y hy=>h2 y (.tail _ hy),f2⟩,rfl⟩⟩
def anR {b:C_}{a m x:Nat}:bc b (a:Int) 1=.ok x m↔x=cond (decide (x=1)) 1 0∧At b a m (ar (cond (decide (x=1)) 1 0) 1):=by
 rw[gb1];constructor
 .rintro ⟨h1,h2⟩
  have:x=0∨x=1:=o_;rcases this with rfl | rfl<;>exact⟨rfl,h2⟩
 .rintro ⟨h1,h2⟩
  rw[<-h1]at h2;refine⟨?_,h2⟩;rw[h1]
  cases decide (x=1)<;>simp
def Ol {b:C_}:∀ {k a m:Nat}{l:U_},a<=b.length->(G6 b k a=.ok l m↔l.length=k∧At b a m (tp l))
 | 0,a,m,l,ha=>by
  rw[G6];constructor
  .intro h;injection h with h1 h2
   subst h1 h2;exact⟨rfl,dT.2 ⟨rfl,ha⟩⟩
  .rintro ⟨h1,h3⟩
   obtain rfl:=ax h1;rw[(dT.1 h3).1]
 | k+1,a,m,l,ha=>by
  rw[G6,aS];constructor
  .rintro ⟨x,n,e1,h⟩
   obtain⟨r,p,e2,h⟩:=aS.1 h;injection h with h1 h2;subst h1 h2;obtain⟨hx,f1⟩:=anR.1 e1;obtain⟨h1,f2⟩:=(Ol (dn f1).2.1).1 e2;exact⟨by rw[aq,h1],aX.2 ⟨n,f1,f2⟩⟩
  .rintro ⟨h1,h3⟩
   cases l with
   | nil=>simp at h1
   | cons x r =>
    obtain⟨n,f1,f2⟩:=(aX (X:=ar (cond x 1 0) 1)).1 h3;have hd:decide ((cond x 1 0:Nat)=1)=x:=by cases x<;>rfl
    refine⟨cond x 1 0,n,anR.2 (by rw[hd];exact⟨rfl,f1⟩),aS.2 ⟨r,m,(Ol (dn f1).2.1).2 ⟨by simpa using h1,f2⟩,by rw[hd]⟩⟩
def ab1 {a c:U_}:tp (a++c)=tp a++tp c:=by simp[tp]
def QP {b:C_}{mx:Nat}:∀ {g a m:Nat}{t:S_},a<=b.length->(ww b mx g a=.ok t m↔t.length=g∧(∀ l∈t,l.length=mx)∧At b a m (tp t.flatten))
 | 0,a,m,t,ha=>by
  rw[ww];constructor
  .intro h;injection h with h1 h2
   subst h1 h2;exact⟨rfl,s_,dT.2 ⟨rfl,ha⟩⟩
  .rintro ⟨h1,_,h3⟩
   obtain rfl:=ax h1;rw[(dT.1 h3).1]
 | g+1,a,m,t,ha=>by
  rw[ww,aS];constructor
  .rintro ⟨l,n,e1,h⟩
   obtain⟨r,p,e2,h⟩:=aS.1 h;injection h with h1 h2;subst h1 h2;obtain⟨hx,f1⟩:=(Ol ha).1 e1;obtain⟨h1,h2,f2⟩:=(QP (dn f1).2.1).1 e2;refine⟨by rw[aq,h1],fun y hy=>?_,by rw[dq,ab1];exact aX.2 ⟨n,f1,f2⟩⟩;rcases az.1 hy with rfl | hy
   .exact hx
   .exact h2 y hy
  .rintro ⟨h1,h2,h3⟩
   cases t with
   | nil=>simp at h1
   | cons l r =>
    rw[dq,ab1]at h3;obtain⟨n,f1,f2⟩:=aX.1 h3;exact⟨l,n,(Ol ha).2 ⟨h2 l (.head _),f1⟩,aS.2 ⟨r,m,(QP (dn f1).2.1).2 ⟨by simpa using h1,fun y hy=>h2 y (.tail _ hy),f2⟩,rfl⟩⟩
def ahu {b:C_}{a m:Nat}{l:C_}(ha:a<=b.length):Cy b a=.ok l m↔(l.length<=269∧∀ x∈l,x<=255)∧At b a m (mq l++ar 7 3):=by
 unfold Cy;rw[aS];constructor
 .rintro ⟨x,n,e1,h⟩
  obtain⟨hx,f1⟩:=gb3.1 e1;by_cases h6:x=6
  .rw[ac h6]at h;subst h6;obtain⟨k,n2,e2,h⟩:=aS.1 h;obtain⟨hk,f2⟩:=gb4.1 e2;by_cases hk0:k=0
   .rw[ac hk0]at h;exact absurd h (by simp)
   rw[aa hk0]at h;obtain⟨c,n3,e3,h⟩:=aS.1 h;obtain⟨w,n4,e4,h⟩:=aS.1 h;obtain⟨z,n5,e5,h⟩:=aS.1 h;by_cases hz:z=7
   rotate_left
   .rw[aa hz]at h;exact absurd h (by simp)
   rw[ac hz]at h;injection h with g1 g2
   subst g1 g2 hz;have f5:=(gb3.1 e5).2;have key:At b n2 n3 (if 15<=c then ar (c-14) 8 else [])∧min c 15=k∧1<=c∧c<=269:=by
    by_cases h15:k=15
    .rw[ac h15]at e3;obtain⟨y,n6,e6,h⟩:=aS.1 e3;obtain⟨hy,f6⟩:=gb8.1 e6;by_cases hy0:y=0
     .rw[ac hy0]at h;exact absurd h (by simp)
     rw[aa hy0]at h;injection h with g1 g2
     subst g1 g2;rw[ac o_,dh];exact⟨f6,o_,o_,o_⟩
    .rw[aa h15]at e3;injection e3 with g1 g2
     subst g1 g2;rw[aa o_];exact⟨dT.2 ⟨rfl,(dn f2).2.1⟩,o_,o_,o_⟩
   obtain⟨f3,k1,k2,k3⟩:=key;obtain⟨w1,w2,f4⟩:=(JW (dn f3).2.1).1 e4;refine⟨⟨o_,w2⟩,?_⟩;have hne:w≠[]:=fun h=>by rw[h]at w1;simp at w1;omega
   rw[mq,aa hne,w1,k1];exact aX.2 ⟨n4,aX.2 ⟨n,f1,aX.2 ⟨n2,f2,aX.2 ⟨n3,f3,f4⟩⟩⟩,f5⟩
  .rw[aa h6]at h;by_cases h7:x=7
   rotate_left
   .rw[aa h7]at h;exact absurd h (by simp)
   rw[ac h7]at h;injection h with g1 g2
   subst g1 g2 h7;exact⟨⟨s_,s_⟩,by rw[mq,ac rfl];exact f1⟩
 .rintro ⟨⟨h1,h2⟩,h3⟩
  by_cases h0:l=[]
  .rw[mq,ac h0,aO]at h3;exact⟨7,m,gb3.2 ⟨o_,h3⟩,by rw[aa o_,ac rfl,h0]⟩
  have hl0:l.length≠0:=fun h=>h0 (ax h)
  rw[mq,aa h0]at h3;obtain⟨n4,h3,f5⟩:=aX.1 h3;obtain⟨n,f1,h3⟩:=aX.1 h3;obtain⟨n2,f2,h3⟩:=aX.1 h3;obtain⟨n3,f3,f4⟩:=aX.1 h3;refine⟨6,n,gb3.2 ⟨o_,f1⟩,?_⟩;rw[ac rfl,aS];refine⟨_,n2,gb4.2 ⟨o_,f2⟩,?_⟩;rw[aa o_,aS];refine⟨l.length,n3,?_,aS.2 ⟨l,n4,(JW (dn f3).2.1).2 ⟨rfl,h2,f4⟩,aS.2 ⟨7,m,gb3.2 ⟨o_,f5⟩,ac rfl⟩⟩⟩;by_cases h15:15<=l.length
  .rw[ac h15]at f3;rw[ac o_,aS];exact⟨l.length-14,n3,gb8.2 ⟨o_,f3⟩,by rw[aa o_,show l.length-14+14=l.length by omega]⟩
  .rw[aa h15]at f3;rw[aa o_,(dT.1 f3).1,show min l.length 15=l.length by omega]
abbrev aav:aL:=⟨0,0,0,[]⟩
def OZ (b:C_) (r:Nat) (q:Bool) (a:Nat):R (aL×Nat×S_) :=
 if q=true then (mt b a r).bind fun i m=>(bc b m 2).bind fun k m=>if ¬ k<3 then .er 7 else (if k=1 then ww b i.max.toNat i.groups.length m else .ok [] m).bind fun l m=>.ok (i,k,l) m
 else .ok (aav,0,[]) a
def am2 (b:C_) (r:Nat) (n:Int):R fA :=
 (bc b (0:Nat) 3).bind fun x m=>if (x:Int)≠n-1 then .er 7 else
 (bc b m 4).bind fun x m=>if x≠0 then .er 7 else
 (if n=2 then bc b m 1 else .ok 0 m).bind fun qv m =>
 (OZ b r (decide (qv=1)) m).bind fun h m =>
 (rE b r (decide (qv=1)) h.1 n.toNat m).bind fun cs m =>
 (Cy b m).bind fun fl m=>.ok ⟨cs,decide (qv=1),h.2.1,h.2.2,fl⟩ m
def BT (R:Nat) (n:Int) (f:fA):C_:=gu n f++iy R f.common f.chans++mq f.fill++ar 7 3
def ax8 {b:C_}{a:Int}{r:Nat}{i j:aL}:Ci b a r false i=Ci b a r false j:=by
 unfold Ci Cq;simp
def avu {i j:aL}(h:zP i j):i=j:=by
 obtain⟨⟨h1,h2⟩,h3,h4⟩:=h
 cases i;cases j;simp_all
def Uw {b:C_}{r:Nat}(hr:r<=11) {q:Bool}{i:aL}:∀ {l:AG_}{a m:Nat},(∀ c∈l,c.Fit∧mR r c∧(q=true->c.info=i))->At b a m (iy r q l)->rE b r q i l.length a=.ok l m
 | [],a,m,_,h=>by rw[show iy r q []=[] from rfl,dT]at h;rw[bu,rE,h.1]
 | c::l,a,m,hc,h=>by
  obtain⟨n,f1,f2⟩:=(aX (X:=Cu r c q)).1 h;obtain⟨c1,c2,c3⟩:=hc c (.head _);have h1:=an7 hr c1 c2 f1;have h1:Ci b a r q i=.ok (⟨c.gain.toNat,c.info,c.sects,c.steps,c.tns,0,if oB c.tns then 1 else 0⟩,c.lines) n:=by
   cases q with
   | true=>rw[<-c3 rfl];exact h1
   | false=>rw[ax8 (j:=c.info)];exact h1
  have hg:=c2.gain;rw[aq,rE,h1,ay,Uw hr (fun d hd=>hc d (.tail _ hd)) f2,ay]
  congr 2
  obtain⟨g,ci,S,T,F,Z⟩:=c;simp only[Ko]
  congr 1
  simp only at hg;omega
def aob {b:C_}{r:Nat}(hr:r<=11) {n:Int}(hn:n=1∨n=2) {f:fA}(hf:f.Fit) (ok:Ab r n f) {m:Nat}(h:At b 0 m (BT r n f)):am2 b r n=.ok f m:=by
 obtain⟨n3,h,f7⟩:=(aX (X:=gu n f++iy r f.common f.chans++mq f.fill)).1 h;obtain⟨n2,h,f6⟩:=(aX (X:=gu n f++iy r f.common f.chans)).1 h;obtain⟨n1,h,f5⟩:=aX.1 h;have hfl:Cy b n2=.ok f.fill m:=(ahu (dn f6).1).2 ⟨⟨ok.fill,hf.fillI⟩,aX.2 ⟨n3,f6,f7⟩⟩;have hln:=ok.len;have hrest:=ok.rest;have hcs:∀ i:aL,(∀ c∈f.chans,f.common=true->c.info=i)->rE b r f.common i n.toNat n1=.ok f.chans n2:=fun i hi=>by
  rw[show n.toNat=f.chans.length by omega];exact Uw hr (fun c hc=>⟨hf.chans.2 c hc,ok.may c hc,hi c hc⟩) f5
 have key:(f.common=true->n=2)∧(f.common=false->f.mask=0∧f.bands=[]):=by
  cases hch:f.chans with
  | nil=>rw[hch]at hrest;exact hrest.elim
  | cons c t =>
   rw[hch]at hrest hln;simp only[HM]at hrest;constructor
   .intro hq;rw[ac hq]at hrest;obtain⟨⟨d,hd,_⟩,_⟩:=hrest
    cases t with
    | nil=>simp at hd
    | cons _ _=>simp at hln;omega
   .intro hq;rw[aa (by simp[hq])]at hrest;exact hrest
 unfold am2;rcases hn with rfl | rfl
 .have hq:f.common=false:=by
   cases h:f.common with
   | false=>rfl
   | true=>have:=key.1 h;omega
  rw[gu,ac rfl]at h;obtain⟨a1,g1,g2⟩:=aX.1 h;obtain⟨k1,k2⟩:=key.2 hq;have h5:=hcs aav (fun c _ hc=>by rw[hq]at hc;exact absurd hc s_);rw[hq]at h5;rw[gb3.2 ⟨o_,g1⟩,ay,aa s_,gb4.2 ⟨o_,g2⟩,ay,aa s_,aa o_,ay];simp only[OZ];rw[show decide ((0:Nat)=1)=false from rfl,aa s_,ay,h5,ay,hfl,ay];obtain⟨cs,q,mk,bd,fl⟩:=f;simp only at hq k1 k2;rw[hq,k1,k2];rfl
 .rw[gu,aa o_]at h
  cases hq:f.common with
  | false =>
   rw[hq,aa s_]at h;obtain⟨a2,h,g3⟩:=aX.1 h;obtain⟨a1,g1,g2⟩:=aX.1 h;obtain⟨k1,k2⟩:=key.2 hq;have h5:=hcs aav (fun c _ hc=>by rw[hq]at hc;exact absurd hc s_);rw[hq]at h5;rw[gb3.2 ⟨o_,g1⟩,ay,aa s_,gb4.2 ⟨o_,g2⟩,ay,aa s_,ac rfl,gb1.2 ⟨o_,g3⟩,ay];simp only[OZ];rw[show decide ((0:Nat)=1)=false from rfl,aa s_,ay,h5,ay,hfl,ay];obtain⟨cs,q,mk,bd,fl⟩:=f;simp only at hq k1 k2;rw[hq,k1,k2];rfl
  | true =>
   rw[hq,ac rfl]at h;obtain⟨a5,h,g6⟩:=aX.1 h;obtain⟨a4,h,g5⟩:=aX.1 h;obtain⟨a3,h,g4⟩:=aX.1 h;obtain⟨a2,h,g3⟩:=aX.1 h;obtain⟨a1,g1,g2⟩:=aX.1 h;have hmk:=ok.mask
   cases hch:f.chans with
   | nil=>rw[hch]at hrest;exact hrest.elim
   | cons c t =>
    have hin:∀ d∈f.chans,f.common=true->d.info=c.info:=fun d hd _=>by
     rw[hch]at hrest hln hd;simp only[HM,hq,bf]at hrest;obtain⟨⟨e,he,hs⟩,_⟩:=hrest
     cases t with
     | nil=>simp at he
     | cons x y =>
      have hy:y=[]:=ax (by simp at hln;omega);subst hy;simp only[List.head?_cons,Option.mem_def,ae]at he;subst he;simp only[az,cQ,fh]at hd;rcases hd with rfl | rfl
      .rfl
      .exact(avu hs).symm
    have h5:=hcs c.info hin;rw[hq]at h5;have hm:=ok.may c (by rw[hch];exact .head _);have hI:mt b (a3:Int) r=.ok c.info a4:=(NL hr).2 ⟨hm.info,by simpa [SV,hch] using g4⟩;have hmx:=jK (gh hr hm.info);rw[hch]at hrest;simp only[HM,hq,bf]at hrest;have hB:(if f.mask.toNat=1 then ww b c.info.max.toNat c.info.groups.length a5 else .ok [] a5)=.ok f.bands n1:=by
     have hr2:=hrest.2;by_cases h1:f.mask=1
     .rw[ac h1]at hr2;rw[ac o_];exact(QP (dn g6).1).2 ⟨hr2.1,fun l hl=>by have:=hr2.2 l hl;omega,g6⟩
     .rw[aa h1]at hr2;rw[aa o_,hr2];rw[hr2]at g6;rw[(dT.1 g6).1]
    rw[gb3.2 ⟨o_,g1⟩,ay,aa s_,gb4.2 ⟨o_,g2⟩,ay,aa s_,ac rfl,gb1.2 ⟨o_,g3⟩,ay];simp only[OZ];simp only[decide_true];rw[ac trivial,hI,ay,gb2.2 ⟨o_,g5⟩,ay,aa o_,hB,ay,ay,h5,ay,hfl,ay];obtain⟨cs,q,mk,bd,fl⟩:=f;simp only at hq hmk;rw[hq,show ((mk.toNat:Nat):Int)=mk by omega]
abbrev I7:aV:=[(2,.ptr 0 0),(4,.ptr 1 0),(6,.ptr 2 0),(7,.ptr 3 0)]
def OO (C:D_) (q:Bool) (b:C_) (s:Nat×Nat) (h:q=false∨s.2≠0) (B T:VC) :
  (Dn prog).code (.seq (.seq lD (.cond (.m 62) B .skip)) T) ⟨I7,⟨fN C [.nl,B_ q,A_ 0,.nl,.nl] zI [] (cM b s),4⟩⟩ =
  (Dn prog).code T ⟨I7,⟨fN C [.nl,B_ q,A_ 0,.nl,.nl] zI [] (cM b s),4⟩⟩:=by
 obtain⟨a,e⟩:=s;simp only[cM,fN]
 cases q with
 | false=>simp (maxSteps:=300000) (disch:=omega) [↓ac,↓aa]
 | true =>
  have he:e≠0:=h.resolve_left s_;simp (maxSteps:=300000) (disch:=omega) [↓ac,↓aa,he]
abbrev aal (B:VC):VC:=(.seq (.seq (.seq xy (K [63])) (.seq D6 (.cond (.m 88) (.seq (.seq (F 2) (F 7)) (.seq xI .ret)) .skip))) B)
abbrev aff (b:C_) (s:Nat×Nat) (N:Nat):K_:=some (.ret,⟨[(4,.ptr 1 0),(5,A_ s.2)],⟨[(1,.cells zF),(2,.cells (cM b s))],N⟩⟩)
section
variable (b:C_) (hb:b.length<=1000000000) (r:Nat) (hr:r<=11)
include hb hr
theorem aqT (c1 c2 c3:AV) (a e:Nat) (ha:a<=b.length) (he:mt b a r=.er e) (B T:VC) :
  (Dn prog).code (.seq (.seq lD (.cond (.m 62) (aal B) .skip)) T) ⟨I7,⟨fN [A_ r,c1,c2,c3] [.nl,B_ true,A_ 0,.nl,.nl] zI [] (cM b (a,0)),4⟩⟩ =
  some (.ret,⟨[(4,.ptr 1 0),(5,A_ ((e+1:Nat):Int))],⟨[(1,.cells zF),(2,.cells (cM b (0,e+1)))],4⟩⟩):=by
 have h:=Vo b a r hb o_;rw[ac o_,au,he,iK]at h;have c0:((0:Nat):Int)=0:=rfl;have ce:((e+1:Nat):Int)=(e:Int)+1:=rfl;have e1:¬ ((e:Int)+1=0):=o_;simp only[cM,fN,c0,ce,zF,aal]at h⊢;simp (maxSteps:=300000) (disch:=omega) [↓ac,↓aa,h,e1]
theorem asx (c1 c2 c3:AV) (a:Nat) (ha:a<=b.length) (i:aL) (m:Nat) (he:mt b a r=.ok i m) (w:S_) (s6:Nat×Nat) (M:Nat)
  (hL:(Dn prog).code (.loop fC) ⟨JH i.groups.length 0,⟨fN [A_ r,c1,c2,c3] [.nl,B_ true,A_ ((gT b (m,0) 2).1),.nl,.nl] [.d (.int .u8 i.seq),.d (.int .u8 i.shape),A_ i.max,.own false 1 (aF i.groups)] [] (cM b (kT (gT b (m,0) 2).2 (((gT b (m,0) 2).1:Int)<3))),4⟩⟩ =
   some (.exit 1,⟨S3,⟨fN [A_ r,c1,c2,c3] [.nl,B_ true,A_ ((gT b (m,0) 2).1),aD 1 (dr w),.nl] [.d (.int .u8 i.seq),.d (.int .u8 i.shape),A_ i.max,.own false 1 (aF i.groups)] [] (cM b s6),M⟩⟩)) (T:VC) :
  (Dn prog).code (.seq (.seq lD (.cond (.m 62) (aal (.seq xw (.seq xR (.seq xQ (.block 1 (.seq (.loop fC) (K [104,105]))))))) .skip)) T) ⟨I7,⟨fN [A_ r,c1,c2,c3] [.nl,B_ true,A_ 0,.nl,.nl] zI [] (cM b (a,0)),4⟩⟩ =
  (Dn prog).code T ⟨I7,⟨fN [A_ r,c1,c2,c3] [.nl,B_ true,A_ ((gT b (m,0) 2).1),aD 1 (dr w),.nl] [.d (.int .u8 i.seq),.d (.int .u8 i.shape),A_ i.max,.own false 1 (aF i.groups)] [] (cM b s6),M⟩⟩:=by
 have hp:=Sq hr he;have h:=Vo b a r hb o_;rw[ac o_,au,he,eI hp]at h;have h1:=fW (amT [A_ r,c1,c2,c3] [.nl,B_ true,A_ 0,.nl,.nl] [.d (.int .u8 i.seq),.d (.int .u8 i.shape),A_ i.max,.own false 1 (aF i.groups)] []) b hb (m,0) hp.2.1 2 4;have h2:=mO (amT [A_ r,c1,c2,c3] [.nl,B_ true,A_ ((gT b (m,0) 2).1),.nl,.nl] [.d (.int .u8 i.seq),.d (.int .u8 i.shape),A_ i.max,.own false 1 (aF i.groups)] []) b (gT b (m,0) 2).2 (((gT b (m,0) 2).1:Int)<3) 4;have hg:=iB (l:=i.groups);have c0:((0:Nat):Int)=0:=rfl;generalize kT (gT b (m,0) 2).2 (((gT b (m,0) 2).1:Int)<3)=s5 at *;generalize gT b (m,0) 2=g at *;obtain⟨x,s4⟩:=g;clear hp he;simp only[cM,fN,c0,aal,Sh,S3,JH]at h h1 h2 hL⊢;generalize aF i.groups=Z at *;by_cases k1:(x:Int)<3
 .rw[decide_eq_true k1]at h2;simp (maxSteps:=300000) (disch:=omega) [↓ac,↓aa,h,h1,h2,hL,hg]
 .rw[decide_eq_false k1]at h2;simp (maxSteps:=300000) (disch:=omega) [↓ac,↓aa,h,h1,h2,hL,hg]
end
abbrev WE (b:C_) (F:D_) (s:Nat×Nat) (N:Nat):St:=⟨[(4,.ptr 1 0),(6,.ptr 2 0)],⟨[(1,.cells F),(2,.cells (cM b s))],N⟩⟩
section
variable (b:C_) (hb:b.length<=1000000000) (r:Nat) (hr:r<=11)
include hb hr
theorem alE (q:Bool) (i:aL) (hi:i.Fit) (I iv:D_) (hI:alS q i I iv) (c1 c2 c3 f2 f3 f4:AV) (n:Nat) (hn:n<=2):∀ (k j a:Nat) (acc:AG_) (N:Nat),j+k=n->acc.length=j->a<=b.length->4<=N->
  match rE b r q i k a with
  | .ok l m=>m<=b.length∧∃ M,4<=M∧(Dn prog).code (.loop eY) ⟨Bz n j,⟨fN [A_ r,c1,c2,c3] [aD 9 (dt acc),B_ q,f2,f3,f4] I [] (cM b (a,0)),N⟩⟩=some (.exit 5,WE b [aD 9 (dt (acc++l)),B_ q,f2,f3,f4] (m,0) M)
  | .er e=>∃ s M,s.2=e+1∧(Dn prog).code (.loop eY) ⟨Bz n j,⟨fN [A_ r,c1,c2,c3] [aD 9 (dt acc),B_ q,f2,f3,f4] I [] (cM b (a,0)),N⟩⟩=aff b s M:=by
 intro k
 induction k with
 | zero =>
  intro j a acc N hj hl ha hN;obtain rfl:j=n:=o_;simp only[rE];exact⟨ha,N,hN,by rw[ai5 b _ _ _ _ _ _ hN,bg]⟩
 | succ k ih =>
  intro j a acc N hj hl ha hN;rw[rE]
  cases e:Ci b a r q i with
  | er e0 =>
   rw[cm];exact⟨(0,e0+1),N+1,rfl,amW b hb r hr q i hi I iv hI c1 c2 c3 _ f2 f3 f4 a ha e0 e n j o_ hn N hN⟩
  | ok v m =>
   obtain⟨A,_,_,_,f1,_⟩:=arp hb hr hi e;have hm:=(dn f1).2.1;have h:=ih (j+1) m (acc++[Ko v]) (N+1) o_ g_ hm o_;rw[ahz b hb r hr q i hi I iv hI c1 c2 c3 f2 f3 f4 a ha acc o_ v m e n j o_ hn N hN,ay]
   cases e2:rE b r q i k m with
   | er e0=>rw[e2]at h;exact h
   | ok l p =>
    rw[e2]at h;obtain⟨h1,M,h2,h3⟩:=h;exact⟨h1,M,h2,by rw[h3,aA];rfl⟩
end
abbrev Uj:VC:=(.seq EB (.block 5 (.seq (.loop eY) (.seq (.seq (K [140,141]) (F 2)) (F 7)))))
def aaz (C F I:D_) (b:C_) (s:Nat×Nat) (c0 c2 c3:AV) (n:Nat) (N:Nat) (F2:D_) (s2:Nat×Nat) (M:Nat)
  (hL:(Dn prog).code (.loop eY) ⟨Bz n 0,⟨fN [c0,A_ n,c2,c3] F I [] (cM b s),N⟩⟩=some (.exit 5,WE b F2 s2 M)) (T:VC) :
  (Dn prog).code (.seq Uj T) ⟨I7,⟨fN [c0,A_ n,c2,c3] F I [] (cM b s),N⟩⟩=(Dn prog).code T (WE b F2 s2 M):=by
 simp only[cM,fN,Bz,WE,Uj]at hL⊢;simp (maxSteps:=300000) (disch:=omega) [↓ac,↓aa,hL]
def afV (C F I:D_) (b:C_) (s:Nat×Nat) (c0 c2 c3:AV) (n:Nat) (N:Nat) (s2:Nat×Nat) (M:Nat)
  (hL:(Dn prog).code (.loop eY) ⟨Bz n 0,⟨fN [c0,A_ n,c2,c3] F I [] (cM b s),N⟩⟩=aff b s2 M) (T:VC) :
  (Dn prog).code (.seq Uj T) ⟨I7,⟨fN [c0,A_ n,c2,c3] F I [] (cM b s),N⟩⟩=aff b s2 M:=by
 simp only[cM,fN,Bz,aff,Uj]at hL⊢;simp (maxSteps:=300000) (disch:=omega) [↓ac,↓aa,hL]
abbrev N6:VC:=(.seq Dj (.seq (.seq Ek (.cond (.m 204) (.seq xA .ret) .skip)) (.seq (.seq (.seq DI (K [6,221,222,223,224,225,226,227,228,229,230,231])) (.cond (.m 232) (.seq Dw .ret) .skip)) (.seq Dy .ret))))
def ayV (F:D_):Hr (fun c=>[(1,.cells F),(2,.cells c)]) 2:=⟨fun c=>by simp,fun c d=>by simp⟩
def arZ {h:ak}{l:C_}{a:Nat}(ha:a<=l.length) (hl:l.length<=1000000000):tG h 1 (.d (.lst (am l))) (some (A_ (a:Int))) none none=some (.d (.lst (am (l.drop a)))):=by
 have e2:ef (A_ (a:Int)) (am l).length=some a:=by rw[zG o_ (by rw[cT];omega)];simp
 have e3:Jk 1 (am l)=true:=by cases l<;>rfl
 simp only[tG,okSl,xB,lenOf,yS,xx,e2,e3,sub];have e4:((am l).drop a).take ((am l).length-a)=am (l.drop a):=by
  rw[ck (by rw[dM];exact ai _)];unfold am;rw[List.map_drop]
 rw[e4]
def NT {m:Nat}{xs:E_}:oF (share (aD m xs))=share (aD m xs):=by cases xs<;>rfl
def avP (b:C_) (hb:b.length<=1000000000) (xs ys:E_) (q:Bool) (k:Int) (m:Nat) (hm:m<=b.length) (N:Nat) :
  match (Cy b m).bind fun fl m=>if b.length-m<=7∧1∉b.drop m then R.ok fl m else .er 7 with
  | .ok fl p=>∃ s,(Dn prog).code N6 (WE b [aD 9 xs,B_ q,A_ k,aD 1 ys,.nl] (m,0) N)=some (.ret,⟨[(4,.ptr 1 0),(5,A_ 0)],⟨[(1,.cells [share (aD 9 xs),B_ q,A_ k,share (aD 1 ys),share (aD 1 (am fl))]),(2,.cells (cM b s))],N⟩⟩)
  | .er e=>∃ s,(Dn prog).code N6 (WE b [aD 9 xs,B_ q,A_ k,aD 1 ys,.nl] (m,0) N)=some (.ret,⟨[(4,.ptr 1 0),(5,A_ ((e+1:Nat):Int))],⟨[(1,.cells zF),(2,.cells (cM b s))],N⟩⟩):=by
 obtain⟨w,x,s,h1,h2⟩:=ann (ayV [aD 9 xs,B_ q,A_ k,aD 1 ys,.nl]) b hb m hm N;have c0:((0:Nat):Int)=0:=rfl;have hbl:=cT (l:=b);obtain⟨a,e⟩:=s;unfold FT at h1;simp only[WE,cM,c0,N6]at h1⊢
 cases hf:Cy b m with
 | er e0 =>
  rw[hf]at h2;rw[cm];have he:e=e0+1:=h2;subst he;have ce:((e0+1:Nat):Int)=(e0:Int)+1:=rfl;have e1:¬ ((e0:Int)+1=0):=o_;refine⟨(a,e0+1),?_⟩;simp only[ce]at h1⊢;generalize am w=W at *;simp (maxSteps:=300000) (disch:=omega) [↓ac,↓aa,-bw,HC,NT,DX,h1,e1]
 | ok fl p =>
  rw[hf]at h2;obtain⟨h3,h4⟩:=h2;simp only[aP]at h4;obtain⟨h4,h5⟩:=h4;subst h3 h4 h5;have hp:a<=b.length:=by have:=(ahu hm).1 hf;exact(dn this.2).2.1
  have hC:=als (b.drop a) (by rw[dM];omega);have hS:=fun h=>arZ (h:=h) hp hb
  rw[ay];simp only[c0]at h1⊢;have ez:zF=[.nl,B_ false,A_ 0,.nl,.nl]:=rfl;by_cases k1:b.length-a<=7
  .by_cases k2:1∈b.drop a
   .rw[aa (fun h=>h.2 k2)];rw[decide_eq_true k2]at hC;refine⟨(a,0),?_⟩;generalize am (b.drop a)=D at *;generalize am b=B at *;generalize am w=W at *;simp (maxSteps:=300000) (disch:=omega) [↓ac,↓aa,-bw,HC,NT,DX,h1,hC,hS,hbl]
   .rw[ac ⟨k1,k2⟩];rw[decide_eq_false k2]at hC;refine⟨(a,0),?_⟩;generalize am (b.drop a)=D at *;generalize am b=B at *;generalize am w=W at *;simp (maxSteps:=300000) (disch:=omega) [↓ac,↓aa,-bw,HC,NT,DX,h1,hC,hS,hbl]
  .rw[aa (fun h=>k1 h.1)];refine⟨(a,0),?_⟩;generalize am (b.drop a)=D at *;generalize am b=B at *;generalize am w=W at *;simp (maxSteps:=300000) (disch:=omega) [↓ac,↓aa,-bw,HC,NT,DX,h1,hC,hS,hbl]
def aqM:aav.Fit:=⟨k_,k_,k_,k_,s_⟩
abbrev qe:=@Int.tdiv_eq_ediv_of_nonneg
def avo {x k:Nat}(hk:k<8):x / 2 ^ (8-k)*2 ^ (8-k)+x / 2 ^ (7-k) % 2*2 ^ (7-k)=x / 2 ^ (7-k)*2 ^ (7-k):=by
 have e:8-k=(7-k)+1:=o_;rw[e,cZ,<-Nat.div_div_eq_div_mul,<-yG,Nat.mul_right_comm,<-da]
 congr 1
 have:=oG (x / 2 ^ (7-k)) 2;omega
def az2 {x k:Nat}(hk:k<8):(x / 2 ^ (8-k)*2 ^ (8-k)) ||| (x / 2 ^ (7-k) % 2*2 ^ (7-k))=x / 2 ^ (7-k)*2 ^ (7-k):=by
 rw[<-avo hk,dX (x / 2 ^ (8-k)),oV];have e:8-k=(7-k)+1:=o_;rw[e,cZ];have h2:0<2 ^ (7-k):=bO _;have:x / 2 ^ (7-k) % 2<2:=dW _ o_;have:x / 2 ^ (7-k) % 2=0∨x / 2 ^ (7-k) % 2=1:=o_;rcases this with h | h<;>rw[h]<;>omega
def atg {x k:Nat}(h:x<=255):x / 2 ^ k*2 ^ k<=255:=aM (Nat.div_mul_le_self _ _) h
def ahm {x:Nat}:∀ {n k:Nat},k<n->(ar x n)[k]?=some (x / 2 ^ (n-1-k) % 2)
 | n+1,0,_=>by rw[ar];simp
 | n+1,k+1,h=>by rw[ar,mb,ahm o_];congr 4;omega
def acr {l:C_}{i x:Nat}(h:l[i]?=some x):(am l)[i]?=some [.int .u8 (x:Int)]:=by rw[am,bU,h];rfl
def apK (w a:C_) (hw:w.length<=16777216) (n:Nat) (i j k p x q:Nat) (hi:i=8*j+k) (hk:k<8) (hwi:w[i]?=some x) (hx:x<=1) (ha:a[j]?=some p) (hp:p<=255) (hq:p ||| x*2 ^ (7-k)=q) (hq2:q<=255) (hn:a.length=n) (N:Nat) :
  (Dn prog).code (.loop jG) ⟨[(4,.sl 0 0 n),(15,.d (.lst (am w))),(16,A_ w.length),(17,A_ i)],⟨[(0,.arr 1 (am a))],N⟩⟩ =
  (Dn prog).code (.loop jG) ⟨[(4,.sl 0 0 n),(15,.d (.lst (am w))),(16,A_ w.length),(17,A_ ((i+1:Nat):Int))],⟨[(0,.arr 1 (am (a.set j q)))],N⟩⟩:=by
 have hil:i<w.length:=(aI.1 hwi).1;have hjn:j<n:=hn▸(aI.1 ha).1;have g1:=acr hwi;have g2:=acr ha;have t1:(i:Int).tdiv 8=(j:Int):=by rw[qe o_];omega
 have t2:(i:Int).tmod 8=(k:Int):=by rw[kj o_];omega
 have hpw:2 ^ (7-k)<=2 ^ 7:=aw o_ o_;have hxm:x*2 ^ (7-k)<=128:=aM (qm hx hpw) o_;have sh:fo .shl (.d (.int .u8 (x:Int))) (A_ (7-(k:Int)))=some (.int .u8 ((x*2 ^ (7-k):Nat):Int)):=by
  have e:min (7-(k:Int)).toNat IntKind.u8.bits=7-k:=by show min _ 8=_;omega
  rw[rX o_,e];have:((x:Int)*((2 ^ (7-k):Nat):Int))=((x*2 ^ (7-k):Nat):Int):=(vq _ _).symm;rw[this];have:∀ z:Nat,z<=128->wr .u8 (z:Int)=z:=fun z h=>by simp (disch:=omega)
  rw[this _ hxm]
 have tn:pq .u8=256:=rfl;have or':=at4 (k:=.u8) (a:=p) (b:=x*2 ^ (7-k)) o_ o_ (by rw[hq];omega);rw[hq]at or';have c1:((i+1:Nat):Int)=(i:Int)+1:=rfl;have hx2:¬ (x:Int) > 1:=o_;rw[ah MC,c1];generalize x*2 ^ (7-k)=z at *;generalize hA:am a=A at *;have hs:A.set j [.int .u8 (q:Int)]=am (a.set j q):=by rw[<-hA,aq1]
 clear hn ha;generalize am w=W at *;simp (maxSteps:=300000) (disch:=omega) [↓ac,↓aa,g1,g2,t1,t2,sh,or',hs,-rX]
def ap5 (w:C_) (hw:w.length<=16777216) (n j x:Nat) (hx:x<=255) (A Z:C_) (hA:A.length=j) (hn:A.length+1+Z.length=n) (hb:∀ k,k<8->w[8*j+k]?=some (x / 2 ^ (7-k) % 2)) (N:Nat):∀ (c k:Nat),k+c=8->
  (Dn prog).code (.loop jG) ⟨[(4,.sl 0 0 n),(15,.d (.lst (am w))),(16,A_ w.length),(17,A_ ((8*j+k:Nat):Int))],⟨[(0,.arr 1 (am (A++x / 2 ^ (8-k)*2 ^ (8-k)::Z)))],N⟩⟩ =
  (Dn prog).code (.loop jG) ⟨[(4,.sl 0 0 n),(15,.d (.lst (am w))),(16,A_ w.length),(17,A_ ((8*j+8:Nat):Int))],⟨[(0,.arr 1 (am (A++x::Z)))],N⟩⟩:=by
 intro c
 induction c with
 | zero =>
  intro k hk;obtain rfl:k=8:=o_;simp
 | succ c ih =>
  intro k hk;rw[apK w _ hw n (8*j+k) j k _ _ (x / 2 ^ (8-(k+1))*2 ^ (8-(k+1))) rfl o_ (hb k o_) (by have:=dW (x / 2 ^ (7-k)) (y:=2) o_;omega) (by rw[<-hA];simp;rfl) (atg hx) (by rw[az2 o_,show 8-(k+1)=7-k by omega]) (atg hx) g_ N];rw[<-hA,Tc,hA];exact ih (k+1) (by omega)
def ar1 (w:C_) (hw:w.length<=16777216) (n N:Nat):∀ (r A:C_),w=fF A++fF r->(∀ x∈r,x<=255)->A.length+r.length=n->
  (Dn prog).code (.loop jG) ⟨[(4,.sl 0 0 n),(15,.d (.lst (am w))),(16,A_ w.length),(17,A_ ((8*A.length:Nat):Int))],⟨[(0,.arr 1 (am (A++List.replicate r.length 0)))],N⟩⟩ =
  some (.exit 0,⟨[(4,.sl 0 0 n)],⟨[(0,.arr 1 (am (A++r)))],N⟩⟩):=by
 intro r
 induction r with
 | nil =>
  intro A hA hr hn;have hl:w.length=8*A.length:=by rw[hA,al,ov];simp[fF]
  rw[ah MC,<-hl];simp (maxSteps:=300000) (disch:=omega) [↓ac,↓aa]
 | cons x r ih =>
  intro A hA hr hn;have h0:x / 2 ^ (8-0)*2 ^ (8-0)=0:=by
   have:=hr x (.head _);have:x / 256=0:=o_;show x / 256*256=0;rw[this]
  have hb:∀ k,k<8->w[8*A.length+k]?=some (x / 2 ^ (7-k) % 2):=fun k hk=>by
   have e:fF (x::r)=ar x 8++fF r:=rfl;rw[hA,e,cw (by rw[ov];omega),ov,fS,b9 (by rw[dL];exact hk),ahm hk]
  have h1:=ap5 w hw n A.length x (hr x (.head _)) A (List.replicate r.length 0) rfl (by simp at hn⊢;omega) hb N 8 0 rfl;rw[h0]at h1;have h2:=ih (A++[x]) (by rw[hA];simp[fF]) (fun y hy=>hr y (.tail _ hy)) (by simp at hn⊢;omega);rw[aq,cy];have e1:8*A.length+8=8*(A++[x]).length:=by simp;omega
  rw[e1]at h1;simp only[aA,b8]at h2;rw[<-h2,<-h1];rfl
def apL (l:C_) (hl:8*l.length<=16777216) (hl2:∀ n∈l,n<=255):br prog K7 [.d (.lst (am (fF l)))]=some (.tup [.own true 1 (am l),A_ 0]):=by
 have hu:=ov (l:=l);have hbu:=cT (l:=fF l);have hk:=DT (z:=[.int .u8 0]) (n:=l.length) o_;have e:List.replicate l.length [D.int .u8 0]=am (List.replicate l.length 0):=by simp[am]
 rw[e]at hk;have ha:=ar1 (fF l) o_ l.length 1 l [] (by simp[fF]) hl2 s_;have t1:(8*(l.length:Int)+7).tdiv 8=(l.length:Int):=by rw[qe o_];omega
 have c0:((8*([]:C_).length:Nat):Int)=0:=rfl;have c8:((8*l.length:Nat):Int)=8*(l.length:Int):=s_;have hz:(am (List.replicate l.length 0)).length=l.length:=by rw[cT,bi]
 have ht:List.take l.length (am l)=am l:=ck (by rw[cT];omega);have hbl:=cT (l:=l);rw[c0,hu,c8]at ha;rw[hu]at hbu;simp only[aO]at ha;rw[aJ aiT ajj rfl];generalize am (fF l)=W at *;generalize am (List.replicate l.length 0)=Z at *;generalize am l=B at *;simp (maxSteps:=300000) (disch:=omega) [↓ac,↓aa,hk,ha,t1,hbu,hbl,hz,ht]
def abh (b:C_) (r:Nat) (n:Int):R fA:=(am2 b r n).bind fun f m=>if b.length-m<=7∧1∉b.drop m then .ok f m else .er 7
abbrev fA.ow (f:fA):D_:=[share (aD 9 (dt f.chans)),B_ f.common,A_ f.mask,share (aD 1 (dr f.bands)),share (aD 1 (am f.fill))]
def Qs {α β γ:Type}{x:R α}{f:α->Nat->R β}{g:β->Nat->R γ}:(x.bind f).bind g=x.bind fun v n=>(f v n).bind g:=by cases x<;>rfl
abbrev atK:VC:=(.seq xw (.seq xR (.seq xQ (.block 1 (.seq (.loop fC) (K [104,105]))))))
abbrev Yj:VC:=(.seq (.seq uw (K [41])) (.seq zW (.seq zN (.seq (.seq sF (.cond (.m 49) rY .skip)) (.seq (.seq lD (.cond (.m 62) (aal atK) .skip)) (.seq Uj N6))))))
def Tp (b:C_) (C:D_) (x:R fA):Prop :=
 match x with
 | .ok f m=>∃ s N,(Dn prog).code Yj ⟨[(2,.ptr 0 0),(4,.ptr 1 0),(6,.ptr 2 0)],⟨hp3 C zF (cM b (0,0)),3⟩⟩=some (.ret,⟨[(4,.ptr 1 0),(5,A_ 0)],⟨[(1,.cells f.ow),(2,.cells (cM b s))],N⟩⟩)
 | .er e=>∃ s N,(Dn prog).code Yj ⟨[(2,.ptr 0 0),(4,.ptr 1 0),(6,.ptr 2 0)],⟨hp3 C zF (cM b (0,0)),3⟩⟩=some (.ret,⟨[(4,.ptr 1 0),(5,A_ ((e+1:Nat):Int))],⟨[(1,.cells zF),(2,.cells (cM b s))],N⟩⟩)
section
variable (b:C_) (hb:b.length<=1000000000) (r:Nat) (hr:r<=11)
include hb hr
theorem aci (n:Nat) (hn:n=1∨n=2) (q:Bool) (i:aL) (hi:i.Fit) (I iv:D_) (hI:alS q i I iv) (c2 c3:AV) (k:Int) (t:S_) (a:Nat) (ha:a<=b.length) (N:Nat) (hN:4<=N) :
  match (rE b r q i n a).bind fun cs m=>(Cy b m).bind fun fl m=>if b.length-m<=7∧1∉b.drop m then R.ok (⟨cs,q,k,t,fl⟩:fA) m else .er 7 with
  | .ok f m=>∃ s M,(Dn prog).code (.seq Uj N6) ⟨I7,⟨fN [A_ r,A_ n,c2,c3] [.nl,B_ q,A_ k,aD 1 (dr t),.nl] I [] (cM b (a,0)),N⟩⟩=some (.ret,⟨[(4,.ptr 1 0),(5,A_ 0)],⟨[(1,.cells f.ow),(2,.cells (cM b s))],M⟩⟩)
  | .er e=>∃ s M,(Dn prog).code (.seq Uj N6) ⟨I7,⟨fN [A_ r,A_ n,c2,c3] [.nl,B_ q,A_ k,aD 1 (dr t),.nl] I [] (cM b (a,0)),N⟩⟩=some (.ret,⟨[(4,.ptr 1 0),(5,A_ ((e+1:Nat):Int))],⟨[(1,.cells zF),(2,.cells (cM b s))],M⟩⟩):=by
 have e0:aD 9 (dt [])=.nl:=rfl;have h:=alE b hb r hr q i hi I iv hI (A_ n) c2 c3 (A_ k) (aD 1 (dr t)) .nl n o_ n 0 a [] N o_ rfl ha hN;rw[e0]at h
 cases e:rE b r q i n a with
 | er e1 =>
  rw[e]at h;obtain⟨s,M,h1,h2⟩:=h;rw[cm];refine⟨s,M,?_⟩;rw[afV [] _ _ _ _ _ _ _ _ _ _ _ h2,<-h1]
 | ok cs m =>
  rw[e]at h;obtain⟨hm,M,h1,h2⟩:=h;rw[ay];have h5:=avP b hb (dt ([]++cs)) (dr t) q k m hm M
  cases e2:Cy b m with
  | er e3 =>
   rw[e2,cm]at h5;obtain⟨s,h5⟩:=h5;rw[cm];exact⟨s,M,by rw[aaz [] _ _ _ _ _ _ _ _ _ _ _ _ h2,h5]⟩
  | ok fl p =>
   rw[e2,ay]at h5;rw[ay];by_cases hc:b.length-p<=7∧1∉b.drop p
   .rw[ac hc]at h5⊢;obtain⟨s,h5⟩:=h5;exact⟨s,M,by rw[aaz [] _ _ _ _ _ _ _ _ _ _ _ _ h2,h5];rfl⟩
   .rw[aa hc]at h5⊢;obtain⟨s,h5⟩:=h5;exact⟨s,M,by rw[aaz [] _ _ _ _ _ _ _ _ _ _ _ _ h2,h5]⟩
theorem Kj (n:Nat) (hn:n=1∨n=2) (I:D_) (f0 f1 f2 f3 f4:AV) (c0 c2 c3:AV) (s:Nat×Nat) (hs:s.2≠0) (N:Nat) :
  (Dn prog).code (.seq Uj N6) ⟨I7,⟨fN [c0,A_ n,c2,c3] [f0,f1,f2,f3,f4] I [] (cM b s),N⟩⟩=aff b s N :=
 afV [] _ _ _ _ _ _ _ _ _ _ _ (afw b _ _ _ _ _ _ _ s hs n 0 o_ N) _
theorem aoV (n:Nat) (hn:n=1∨n=2) (c2 c3:AV) (hd:(Zx b n).2≠0) (e:Nat) (he:(Zx b n).2=e+1):Tp b [A_ r,A_ n,c2,c3] (.er e):=by
 refine⟨Zx b n,4,?_⟩;rw[akH b hb (A_ r) c2 c3 n o_];have hs:=ayY b hb (n:=(n:Int));generalize Zx b n=s at *;rw[<-he];rcases hn with rfl | rfl
 .rw[show ((1:Nat):Int)=1 from rfl,aeX b hb,show (zF:D_)=[.nl,B_ false,A_ 0,.nl,.nl] from rfl,OO _ _ _ _ (.inl rfl)];exact Kj b hb r hr 1 (.inl rfl) _ _ _ _ _ _ _ _ _ s hd 4
 .rw[show ((2:Nat):Int)=2 from rfl,agd b hb _ _ _ s hs,uT hd,OO _ _ _ _ (.inr hd)];exact Kj b hb r hr 2 (.inr rfl) _ _ _ _ _ _ _ _ _ s hd 4
theorem ajL (n:Nat) (hn:n=1∨n=2) (c2 c3:AV) (a:Nat) (ha:a<=b.length) (x:R fA)
  (hx:x=(rE b r false aav n a).bind fun cs m=>(Cy b m).bind fun fl m=>if b.length-m<=7∧1∉b.drop m then R.ok (⟨cs,false,0,[],fl⟩:fA) m else .er 7)
  (h:(Dn prog).code Yj ⟨[(2,.ptr 0 0),(4,.ptr 1 0),(6,.ptr 2 0)],⟨hp3 [A_ r,A_ n,c2,c3] zF (cM b (0,0)),3⟩⟩=(Dn prog).code (.seq (.seq lD (.cond (.m 62) (aal atK) .skip)) (.seq Uj N6)) ⟨I7,⟨fN [A_ r,A_ n,c2,c3] [.nl,B_ false,A_ 0,.nl,.nl] zI [] (cM b (a,0)),4⟩⟩):Tp b [A_ r,A_ n,c2,c3] x:=by
 rw[OO _ _ _ _ (.inl rfl)]at h;have ht:=aci b hb r hr n hn false aav aqM zI zI (.inr ⟨rfl,rfl,rfl⟩) c2 c3 0 [] a ha 4 o_;rw[<-hx,show aD 1 (dr [])=.nl from rfl]at ht;unfold Tp;rw[h];exact ht
theorem apY (n:Nat) (hn:n=1∨n=2) (c2 c3:AV):Tp b [A_ r,A_ n,c2,c3] (abh b r n):=by
 have hP1:=fun T=>akH b hb (A_ r) c2 c3 n o_ T
 have hdead:=aoV b hb r hr n hn c2 c3;have hs2:Zx b n=kT (gT b (M3 b n) 4).2 (((gT b (M3 b n) 4).1:Int)=0):=rfl;have hs1:M3 b n=kT (gT b (0,0) 3).2 (((gT b (0,0) 3).1:Int)=n-1):=rfl;unfold abh am2
 cases e1:bc b (0:Nat) 3 with
 | er e =>
  rw[zM e1,lM (bt _)]at hs1;rw[hs1,uT (bt _),lM (bt _)]at hs2;rw[cm,cm];exact hdead (by rw[hs2];exact bt _) e (by rw[hs2])
 | ok x m =>
 rw[ay];by_cases hx:(x:Int)≠n-1
 .rw[oI e1,OS hx]at hs1;rw[hs1,uT s_,lM s_]at hs2;rw[ac hx,cm];exact hdead (by rw[hs2];simp) 7 (by rw[hs2])
 rw[aa hx];rw[oI e1,Ke (Classical.not_not.1 hx)]at hs1
 cases e2:bc b m 4 with
 | er e =>
  rw[hs1,zM e2,lM (bt _)]at hs2;rw[cm,cm];exact hdead (by rw[hs2];exact bt _) e (by rw[hs2])
 | ok y a =>
 rw[ay];by_cases hy:y≠0
 .rw[hs1,oI e2,OS t_]at hs2;rw[ac hy,cm];exact hdead (by rw[hs2];simp) 7 (by rw[hs2])
 rw[aa hy];rw[hs1,oI e2,Ke t_]at hs2;simp only at hs2;have ha:a<=b.length:=(ed e2).2;rw[hs2]at hP1;clear hs1 hs2 hdead e1 e2 hx hy;rcases hn with rfl | rfl
 .refine ajL b hb r hr 1 (.inl rfl) c2 c3 a ha _ ?_ ((hP1 _).trans (aeX b hb _ _ _ _ _));rw[aa o_,ay];simp only[OZ];rw[show decide ((0:Nat)=1)=false from rfl,aa s_,ay];simp only[Qs,ay];rfl
 .have hP:=fun T=>(hP1 _).trans (agd b hb (A_ r) c2 c3 (a,0) ha T)
  clear hP1;rw[ac o_]
  cases e3:bc b a 1 with
  | er e =>
   rw[zM e3]at hP;rw[cm,cm];refine⟨(a,e+1),4,?_⟩;refine(hP _).trans ?_;rw[OO _ _ _ _ (.inr (bt _))];exact Kj b hb r hr 2 (.inr rfl) _ _ _ _ _ _ _ _ _ _ (bt _) 4
  | ok x m =>
  have hm:m<=b.length:=(ed e3).2;rw[oI e3]at hP;rw[ay];simp only at hP;by_cases hx:x=1
  rotate_left
  .rw[decide_eq_false hx]at hP⊢;refine ajL b hb r hr 2 (.inr rfl) c2 c3 m hm _ ?_ (hP _);simp only[OZ];rw[aa s_,ay];simp only[Qs,ay];rfl
  rw[decide_eq_true hx]at hP⊢;simp only[OZ];rw[ac trivial]
  cases e4:mt b m r with
  | er e =>
   rw[cm,cm,cm];exact⟨(0,e+1),4,(hP _).trans (aqT b hb r hr _ c2 c3 m e hm e4 _ _)⟩
  | ok i m2 =>
  have p:=Sq hr e4;have hi:i.Fit:=aky hr p.1 p.2.2;have hmx:=jK (gh hr p.1);have him:((i.max.toNat:Nat):Int)=i.max:=o_;have hgl:=hi.len;rw[ay];have hs5:(kT (gT b (m2,0) 2).2 (((gT b (m2,0) 2).1:Int)<3)).1<=b.length:=Hl (rg p.2.1);obtain⟨w,s6,M,hM,h6,hw,hd,hL⟩:=an1 b hb [A_ r,A_ 2,c2,c3] .nl (B_ true) .nl (.d (.int .u8 i.seq)) (.d (.int .u8 i.shape)) (.own false 1 (aF i.groups)) i.max.toNat o_ i.groups.length hgl (gT b (m2,0) 2).1 (kT (gT b (m2,0) 2).2 (((gT b (m2,0) 2).1:Int)<3)) hs5 4 o_;rw[him]at hL;have hrun:=(hP _).trans (asx b hb r hr _ c2 c3 m hm i m2 e4 w s6 M hL (.seq Uj N6));have dead:∀ e,s6.2=e+1->Tp b [A_ r,A_ 2,c2,c3] (.er e):=fun e he=>by
   refine⟨s6,M,hrun.trans ?_⟩;rw[<-he];exact Kj b hb r hr 2 (.inr rfl) _ _ _ _ _ _ _ _ _ _ o_ M
  cases e5:bc b m2 2 with
  | er e =>
   rw[zM e5,lM (bt _)]at hd;rw[cm,cm,cm];exact dead e (by rw[hd (bt _)])
  | ok k m3 =>
  rw[ay];by_cases hk:¬ k<3
  .rw[oI e5,OS t_]at hd;rw[ac hk,cm,cm];exact dead 7 (by rw[hd s_])
  rw[aa hk];rw[oI e5]at hw hrun;rw[Ke t_]at hw;have hw:=hw rfl;simp only at hw hrun
  cases e6:(if k=1 then ww b i.max.toNat i.groups.length m3 else R.ok [] m3) with
  | er e =>
   rw[e6]at hw;rw[cm,cm,cm];exact dead e hw
  | ok t m4 =>
   rw[e6]at hw;obtain⟨rfl,rfl⟩:=hw;have ht:=aci b hb r hr 2 (.inr rfl) true i hi _ i.cells (.inl ⟨rfl,rfl⟩) c2 c3 k w m4 h6 M hM;rw[ay,ay];simp only[Qs,ay];unfold Tp;rw[show ((2:Nat):Int)=2 from rfl]at ht⊢;have hrun:(Dn prog).code Yj ⟨[(2,.ptr 0 0),(4,.ptr 1 0),(6,.ptr 2 0)],⟨hp3 [A_ r,A_ 2,c2,c3] zF (cM b (0,0)),3⟩⟩=_:=hrun;rw[hrun];exact ht
end
def arh {h:ak}{a b c:E_}{x:Bool}{y e:Int}:gQ h (.tup [.agg [share (aD 9 a),B_ x,A_ y,share (aD 1 b),share (aD 1 c)],A_ e])=some (.tup [.agg [share (aD 9 a),B_ x,A_ y,share (aD 1 b),share (aD 1 c)],A_ e]):=by
 cases a<;>cases b<;>cases c<;>rfl
def arG (rt n:Int) (cb:Bool) (cz:Int) (X:AV) (l:C_) (hX:fu X (am l)) (hl:l.length<=100000) (hl2:∀ x∈l,x<=255) :
  (Cx rt n∧(l.length:Int)<=192*n∧br prog OD [nR rt n cb cz,X]=match abh (fF l) rt.toNat n with
   | .ok f m=>some (.tup [.agg f.ow,A_ 0])
   | .er e=>some (.tup [.agg zF,A_ ((e+1:Nat):Int)]))∨
  (¬ (Cx rt n∧(l.length:Int)<=192*n)∧∃ e:Int,e≠0∧br prog OD [nR rt n cb cz,X]=some (.tup [.agg zF,A_ e])):=by
 obtain⟨⟨x1,x2,x3⟩,x4,x5⟩:=hX.facts;obtain⟨vx,ux⟩:=hX.view;have hbl:=cT (l:=l);rw[hbl]at x5;have hcf:=Ys rt n cb cz;simp only[nR]at hcf⊢;rw[aJ am8 alx rfl];rcases hcf with ⟨hc,ec⟩ | ⟨hc,ec⟩
 rotate_left
 .refine .inr ⟨fun h=>hc h.1,2,k_,?_⟩;simp (maxSteps:=300000) (disch:=omega) [↓ac,↓aa,-bw,x1,x2,x3,x4,x5,ec]
 by_cases hn:(l.length:Int)<=192*n
 rotate_left
 .refine .inr ⟨fun h=>hn h.2,3,k_,?_⟩;have:=hc.2;simp (maxSteps:=300000) (disch:=omega) [↓ac,↓aa,-bw,x1,x2,x3,x4,x5,ec]
 refine .inl ⟨hc,hn,?_⟩;obtain⟨R,rfl⟩:=aB hc.1.1;obtain⟨k,rfl⟩:=aB (show 0<=n by have:=hc.2;omega);have hR:R<=11:=by have:=hc.1.2;omega
 have hk:k=1∨k=2:=by have:=hc.2;omega
 have hu:=U2 l hl hl2 X hX;have ul:=ov (l:=l);have hM:=apY (fF l) o_ R hR k hk (B_ cb) (A_ cz);rw[au];have c0:((0:Nat):Int)=0:=rfl;obtain⟨T,hT⟩:∃ T,T=Yj:=⟨_,rfl⟩
 cases hG:abh (fF l) R k with
 | ok f m =>
  rw[hG]at hM;obtain⟨s,N,hM⟩:=hM;simp only[hp3,cM,c0,<-hT]at hM⊢;generalize am (fF l)=B at *;simp only[fA.ow]at hM⊢;generalize dt f.chans=A1 at *;generalize dr f.bands=A2 at *;generalize am f.fill=A3 at *;simp (maxSteps:=300000) (disch:=omega) [↓ac,↓aa,-bw,x1,x2,x3,x4,x5,vx,ux,ec,hu,hM,↓arh]
 | er e =>
  rw[hG]at hM;obtain⟨s,N,hM⟩:=hM;simp only[hp3,cM,c0,<-hT]at hM⊢;generalize am (fF l)=B at *;simp (maxSteps:=300000) (disch:=omega) [↓ac,↓aa,-bw,x1,x2,x3,x4,x5,vx,ux,ec,hu,hM]
def cX {a b:C_}(ha:bin a) (hb:bin b):bin (a++b):=fun x hx=>(be.1 hx).elim (ha x) (hb x)
def lJ:bin []:=fun x hx=>absurd hx (by simp)
def uo {α:Type}{f:α->C_}{l:List α}(h:∀ x,bin (f x)):bin (l.flatMap f):=fun x hx=>by
 obtain⟨y,_,hy⟩:=ub.1 hx;exact h y x hy
def mT {c:Prop}[Decidable c] {a b:C_}(ha:bin a) (hb:bin b):bin (if c then a else b):=by split<;>assumption
def atP {g:G_}:∀ {k w:Nat},bin (Ij g k w)
 | 0,_=>lJ
 | k+1,w=>cX (mT dp dp) atP
def akK {i:aL}:bin (kX i):=cX dp (cX dp (cX dp (mT (cX dp atP) (cX dp dp))))
def S7 {i e:Nat}:bin (jQ i e):=cX dp dp
def avd {i:aL}{g:H_}:bin (NJ i g):=uo fun l=>uo fun s=>cX dp (uo fun n=>dp)
def aou:∀ {l t:G_}{w z:Int},bin (pg l t w z)
 | k::r,n::t,w,z=>cX (mT lJ (mT (mT dp S7) S7)) aou
 | [],_,_,_=>lJ
 | _::_,[],_,_=>lJ
def aks:∀ {l:H_}{t:J_}{w z:Int},bin (nq l t w z)
 | l::r,t::s,w,z=>by
  rw[nq];refine cX aou ?_;split
  .exact aks
  .exact lJ
 | [],_,_,_=>lJ
 | _::_,[],_,_=>lJ
def ayj {sh:Bool}{l:AA_}:bin (yI sh l):=by
 refine cX dp ?_
 cases l with
 | nil=>exact lJ
 | cons f r=>exact cX dp (uo fun f=>cX dp (cX dp (mT lJ (cX dp (cX dp (uo fun c=>dp))))))
def auW {i:Nat}{v:G_}:bin (zX i v):=by
 refine mT S7 (cX S7 (cX (uo fun v=>mT lJ (mT ?_ ?_)) (uo fun v=>mT (cX ?_ ?_) lJ)))
 .intro x hx;simp at hx;omega
 .intro x hx;simp at hx;omega
 .intro x hx;rw[cY hx];omega
 .intro x hx;rcases az.1 hx with h | h
  .omega
  .exact dp x h
def ax0 {r:Nat}{c:cu}{q:Bool}:bin (Cu r c q):=by
 refine cX dp (cX (mT lJ akK) (cX avd (cX aks (cX (mT ?_ ?_) (uo fun p=>auW)))))
 .intro x hx;simp only[az,be,cQ,fh]at hx;rcases hx with h | h | h | h
  .omega
  .omega
  .exact(uo fun l=>ayj:bin (jl c.info.short c.tns)) x h
  .omega
 .intro x hx;simp at hx;omega
def auQ {l:C_}:bin (fF l):=uo fun n=>dp
def avp {l:U_}:bin (tp l):=uo fun n=>dp
def az6 {R:Nat}{n:Int}{f:fA}:bin (oL R n f):=by
 refine cX (cX (cX (cX (mT (cX dp dp) (mT (cX (cX (cX (cX (cX dp dp) dp) ?_) dp) avp) (cX (cX dp dp) dp))) (uo fun c=>ax0)) (mT lJ (cX dp (cX dp (cX (mT dp lJ) auQ))))) dp) ?_
 .unfold SV;split
  .exact lJ
  .exact akK
 .intro x hx;rw[cY hx];omega
def axC {n:Nat}:(n+Lj n) % 8=0:=by unfold Lj;omega
def azH {R:Nat}{n:Int}{f:fA}:(oL R n f).length % 8=0:=by
 rw[oL,Ax,al,bi];exact axC
def af2:∀ (k:Nat) {b:C_},b.length=8*k->bin b->∃ l:C_,b=fF l∧∀ x∈l,x<=255
 | 0,b,h,_=>⟨[],by rw[ax h];rfl,s_⟩
 | k+1,b,h,hb=>by
  obtain⟨l,h1,h2⟩:=af2 k (b:=b.drop 8) (by rw[dM];omega) (fun x hx=>hb x (cH hx));have hl:(b.take 8).length=8:=by rw[di];omega
  have ht:bin (b.take 8):=fun x hx=>hb x (eG hx)
  have hp:=S8 (n:=0) ht;have hv:=L6 (n:=0) (i:=0) ht o_;rw[hl]at hp hv;refine⟨val (b.take 8) 0::l,?_,fun x hx=>?_⟩
  .show b=ar _ 8++fF l;rw[hp,<-h1,aT]
  .rcases az.1 hx with rfl | hx
   .simp at hv;omega
   .exact h2 x hx
def apw (rt n:Int) (cb:Bool) (cz:Int) (f:fA) (hf:f.Fit) (X Y Z:AV) (hX:fu X (dt f.chans)) (hY:fu Y (dr f.bands)) (hZ:fu Z (am f.fill)) :
  (Cx rt n∧Ab rt.toNat n f∧((oL rt.toNat n f).length:Int)<=1536*n∧∀ l:C_,oL rt.toNat n f=fF l->(∀ x∈l,x<=255)->br prog ER [nR rt n cb cz,wg f X Y Z]=some (.tup [.own true 1 (am l),A_ 0]))∨
  (¬ (Cx rt n∧Ab rt.toNat n f∧((oL rt.toNat n f).length:Int)<=1536*n)∧∃ e:Int,e≠0∧br prog yW [nR rt n cb cz,wg f X Y Z]=some (A_ e)∧br prog ER [nR rt n cb cz,wg f X Y Z]=some (.tup [.nl,A_ e])):=by
 have hC:=abK rt n cb cz f hf X Y Z hX hY hZ;obtain⟨⟨x1,x2,x3⟩,x4,x5⟩:=hX.facts;obtain⟨⟨y1,y2,y3⟩,y4,y5⟩:=hY.facts;obtain⟨⟨z1,z2,z3⟩,z4,z5⟩:=hZ.facts;obtain⟨⟨vx,ux⟩,wx⟩:=hX.one;obtain⟨⟨vy,uy⟩,wy⟩:=hY.one;obtain⟨⟨vz,uz⟩,wz⟩:=hZ.one;rcases hC with ⟨h1,h2,h3,hC⟩ | ⟨h1,e,he,hC⟩
 rotate_left
 .refine .inr ⟨h1,e,he,hC,?_⟩;simp only[nR,wg]at hC⊢;rw[aJ Kv KB rfl];simp (maxSteps:=300000) (disch:=omega) [↓ac,↓aa,-bw,x1,x2,x3,x4,y1,y2,y3,y4,z1,z2,z3,z4,ux,uy,uz,vx,vy,vz,wx,wy,wz,hC,he]
 refine .inl ⟨h1,h2,h3,fun l hw hl=>?_⟩;obtain⟨R,rfl⟩:=aB h1.1.1;simp only[au]at h2 h3 hw;have hR:R<=11:=by have:=h1.1.2;omega
 have hW:=Ld R hR n h1.2 cb cz f hf h2 X Y Z hX hY hZ;have hn:=h1.2;rw[hw]at hW h3;rw[ov]at h3;have hP:=apL l o_ hl;simp only[nR,wg]at hC hW⊢;generalize am (fF l)=B at *;rw[aJ Kv KB rfl];simp (maxSteps:=300000) (disch:=omega) [↓ac,↓aa,-bw,x1,x2,x3,x4,y1,y2,y3,y4,z1,z2,z3,z4,ux,uy,uz,vx,vy,vz,wx,wy,wz,hC,hW,hP]
abbrev XC (f:fA) (X Y Z:AV):D_:=[X,B_ f.common,A_ f.mask,Y,Z]
abbrev PX (f:fA) (X Y Z X' Y' Z':AV) (N:Nat):HS:=⟨[(0,.cells (XC f X Y Z)),(1,.cells (XC f X' Y' Z'))],N⟩
def auT (f:fA) (hf:f.Fit) (X Y Z X' Y' Z':AV) (hX:fu X (dt f.chans)) (hX':fu X' (dt f.chans)) (N:Nat):∀ (r:AG_) (i:Nat),f.chans.drop i=r->
  (Dn prog).code (.loop kQ) ⟨[(2,.ptr 0 0),(3,.ptr 1 0),(5,A_ i)],PX f X Y Z X' Y' Z' N⟩=some (.exit 0,⟨[(2,.ptr 0 0),(3,.ptr 1 0)],PX f X Y Z X' Y' Z' N⟩):=by
 intro r;have hl:=Dt (l:=f.chans);have hcl:=hf.chans.1
 induction r with
 | nil =>
  intro i hd;have hi:=bb hd;obtain⟨⟨x1,x2,x3⟩,x4,x5⟩:=hX.facts;rw[hl]at x5;simp only[PX,XC];rw[ah yg];simp (maxSteps:=300000) (disch:=omega) [↓ac,↓aa,x1,x2,x5]
 | cons c r ih =>
  intro i hd;have hlt:=bv hd;have hg:=Ad hd;have hne:dt f.chans≠[]:=fun h=>by have:=bl List.length h;rw[hl,bu]at this;omega
  have hxe:=hX.ne hne;have hxe':=hX'.ne hne;subst hxe hxe';have hcf:=hf.chans.2 c (cH (by rw[hd];exact .head _));have hS:=amX c hcf;have h5:=ih (i+1) (bn hd);have c1:((i+1:Nat):Int)=(i:Int)+1:=rfl;rw[c1]at h5;simp only[PX,XC,cu.av]at h5 hS⊢;rw[ah yg,<-h5];generalize dt f.chans=CC at *;simp (maxSteps:=300000) (disch:=omega) [↓ac,↓aa,-getElem?_pos,hg,hS,hl]
def awK (f:fA) (hf:f.Fit) (X Z X' Z':AV) (N:Nat) (j:Nat) (l:U_) (q:S_) (hj:f.bands.drop j=l::q) (hl:l.length<=1000):∀ (r:U_) (i:Nat),l.drop i=r->
  (Dn prog).code (.loop kV) ⟨[(2,.ptr 0 0),(3,.ptr 1 0),(6,A_ j),(7,A_ i)],PX f X (.d (.lst (dr f.bands))) Z X' (.d (.lst (dr f.bands))) Z' N⟩=some (.exit 4,⟨[(2,.ptr 0 0),(3,.ptr 1 0),(6,A_ j)],PX f X (.d (.lst (dr f.bands))) Z X' (.d (.lst (dr f.bands))) Z' N⟩):=by
 intro r;have hg1:=xc hj;have hll:=sQ (l:=l);have hjl:=bv hj;have hbl:=hf.bands.1
 induction r with
 | nil =>
  intro i hd;have hi:=bb hd;simp only[PX,XC];rw[ah yn];simp (maxSteps:=300000) (disch:=omega) [↓ac,↓aa,-getElem?_pos,hg1,hll]
 | cons c r ih =>
  intro i hd;have hlt:=bv hd;have hg:=akF hd;have h5:=ih (i+1) (bn hd);have c1:((i+1:Nat):Int)=(i:Int)+1:=rfl;rw[c1]at h5;simp only[PX,XC]at h5⊢;rw[ah yn,<-h5];generalize dr f.bands=BB at *;generalize gE l=B at *;simp (maxSteps:=300000) (disch:=omega) [↓ac,↓aa,-getElem?_pos,hg1,hg,hll]
def auw (f:fA) (hf:f.Fit) (X Y Z X' Y' Z':AV) (hY:fu Y (dr f.bands)) (hY':fu Y' (dr f.bands)) (N:Nat):∀ (r:S_) (j:Nat),f.bands.drop j=r->
  (Dn prog).code (.loop kP) ⟨[(2,.ptr 0 0),(3,.ptr 1 0),(6,A_ j)],PX f X Y Z X' Y' Z' N⟩=some (.exit 2,⟨[],⟨[],N⟩⟩):=by
 intro r;have hl:=Ig (t:=f.bands);have hbl:=hf.bands.1
 induction r with
 | nil =>
  intro i hd;have hi:=bb hd;obtain⟨⟨x1,x2,x3⟩,x4,x5⟩:=hY.facts;rw[hl]at x5;simp only[PX,XC];rw[ah xZ];simp (maxSteps:=300000) (disch:=omega) [↓ac,↓aa,x1,x2,x5]
 | cons c r ih =>
  intro i hd;have hlt:=bv hd;have hg:=xc hd;have hne:dr f.bands≠[]:=fun h=>by have:=bl List.length h;rw[hl,bu]at this;omega
  have hxe:=hY.ne hne;have hxe':=hY'.ne hne;subst hxe hxe';have hcl:=hf.bands.2 c (cH (by rw[hd];exact .head _));have hll:=sQ (l:=c);have h1:=awK f hf X Z X' Z' N i c r hd hcl c 0 rfl;have h5:=ih (i+1) (bn hd);have c1:((i+1:Nat):Int)=(i:Int)+1:=rfl;have c0:((0:Nat):Int)=0:=rfl;rw[c1]at h5;rw[c0]at h1;simp only[PX,XC]at h1 h5⊢;rw[ah xZ,<-h5];generalize dr f.bands=BB at *;generalize gE c=B at *;simp (maxSteps:=300000) (disch:=omega) [↓ac,↓aa,-getElem?_pos,hg,h1,hl]
def anA (f:fA) (hf:f.Fit) (X Y Z X' Y' Z':AV) (hX:fu X (dt f.chans)) (hY:fu Y (dr f.bands)) (hZ:fu Z (am f.fill)) (hX':fu X' (dt f.chans)) (hY':fu Y' (dr f.bands)) (hZ':fu Z' (am f.fill)) :
  br prog Ca [wg f X Y Z,wg f X' Y' Z']=some (B_ true):=by
 have h0:=auT f hf X Y Z X' Y' Z' hX hX' 2 f.chans 0 rfl;have h2:=auw f hf X Y Z X' Y' Z' hY hY' 2 f.bands 0 rfl;obtain⟨⟨x1,x2,x3⟩,x4,x5⟩:=hX.facts;obtain⟨⟨y1,y2,y3⟩,y4,y5⟩:=hY.facts;obtain⟨⟨z1,z2,z3⟩,z4,z5⟩:=hZ.facts;obtain⟨⟨a1,a2,a3⟩,a4,a5⟩:=hX'.facts;obtain⟨⟨b1,b2,b3⟩,b4,b5⟩:=hY'.facts;obtain⟨⟨d1,d2,d3⟩,d4,d5⟩:=hZ'.facts;have ts:∀ {W:AV},fu W (am f.fill)->∀ h,Mf h W=some (.str (f.fill.map Nat.toUInt8)):=fun {W} hW h=>by
  rcases hW with rfl | ⟨rfl,e⟩
  .exact amv
  .have:f.fill=[]:=ax (by rw[<-cT (l:=f.fill),e];rfl);rw[this];rfl
 have t1:=ts hZ;have t2:=ts hZ';have c0:((0:Nat):Int)=0:=rfl;rw[c0]at h0 h2;simp only[PX,XC,wg]at h0 h2⊢;rw[aJ Nc Nw rfl];simp (maxSteps:=300000) (disch:=omega) [↓ac,↓aa,-bw,x1,x2,x3,x4,x5,y1,y2,y3,y4,y5,z1,z2,z3,z4,z5,a1,a2,a3,a4,a5,b1,b2,b3,b4,b5,d1,d2,d3,d4,d5,t1,t2,h0,h2]
def ajS {w:AV}{b:Bool}(e:iP w=B_ b):w=B_ b:=by
 unfold iP at e;split at e
 .cases w<;>simp[qh,pR,om]at e⊢<;>exact e
 .exact e
def asY {h:ak}{v:AV}{b:Bool}(e:gQ h v=some (B_ b)):v=B_ b:=by
 unfold gQ at e;split at e
 .split at e
  .simp only[ae]at e;exact absurd (ajS e) (by simp)
  .simp at e
 .split at e
  .rename_i x q hq;simp only[ae]at e;have hx:=ajS e;subst hx;unfold fQ at hq;split at hq
   .split at hq<;>simp at hq
   .unfold kt at hq;split at hq
    .simp only[ae,aP]at hq;exact hq.1
    .simp at hq
    .simp at hq
    .split at hq
     .split at hq<;>simp at hq
     .simp at hq
    .simp at hq
  .simp at e
def amU {P:Nat->Y_}{f:FuncId}{as:D_}{b:Bool}(h:br P f as=some (B_ b)):∃ m hs,(run P m).call f as ⟨[],0⟩=some (B_ b,hs):=by
 unfold br at h
 cases hc:(Dn P).call f as ⟨[],0⟩ with
 | none=>rw[hc]at h;simp[tD]at h
 | some q =>
  obtain⟨v,hs⟩:=q;rw[hc]at h;have:=asY h;subst this;obtain⟨m,hm⟩:=DF hc;exact⟨m,hs,hm⟩
def atb:∀ {a b:W_},a.map AV.d=b.map AV.d->a=b
 | [],[],_=>rfl
 | [],_::_,h=>by simp at h
 | _::_,[],h=>by simp at h
 | x::a,y::b,h=>by
  simp only[bZ,List.cons.injEq,AV.d.injEq]at h;rw[h.1,atb h.2]
def aev:BG_:=[.int .i64,.int .i64,.bool,.int .i64]
def aeh:BG_:=[.lst atY,.bool,.int .i64,.lst [.lst [.bool]],.lst [.int .u8]]
structure fA.Rng (f:fA):Prop where
 chans:∀ c∈f.chans,c.Rng
 mask:i64 f.mask
 fill:∀ n∈f.fill,n<=255
def avx {d:D}(h:rZ (.lst [.int .u8]) d):∃ l:C_,d=.lst (am l)∧∀ n∈l,n<=255:=by
 obtain⟨xs,rfl,h⟩:=If h;obtain⟨l,rfl,hl⟩:=Bi (f:=fun n:Nat=>[.int .u8 (n:Int)]) (Q:=fun n=>n<=255) (fun x hx=>by
  obtain⟨d,rfl,hd⟩:=Ia hx;obtain⟨n,rfl,hn⟩:=am1 hd;exact⟨n,rfl,hn⟩) h
 exact⟨l,rfl,hl⟩
def ayb {x:W_}(h:OkDs aeh x):∃ f:fA,x.map .d=f.av∧f.Rng:=by
 obtain⟨a1,r,rfl,h1,h⟩:=sy h;obtain⟨a2,r,rfl,h2,h⟩:=sy h;obtain⟨a3,r,rfl,h3,h⟩:=sy h;obtain⟨a4,r,rfl,h4,h⟩:=sy h;obtain⟨a5,rfl,h5⟩:=Ia h;obtain⟨xs,rfl,h1⟩:=If h1;obtain⟨l1,rfl,g1⟩:=Bi (f:=cu.cells) (Q:=cu.Rng) (fun x hx=>by
  obtain⟨c,e,hc⟩:=axI hx;exact⟨c,atb e,hc⟩) h1
 obtain⟨b2,rfl⟩:=MJ h2;obtain⟨n3,rfl,g3⟩:=uj h3;obtain⟨xs,rfl,h4⟩:=If h4;obtain⟨l4,rfl,g4⟩:=Bi (f:=fun r:U_=>[.lst (gE r)]) (Q:=fun _=>True) (fun x hx=>by
  obtain⟨d,rfl,hd⟩:=Ia hx;obtain⟨ys,rfl,hd⟩:=If hd;obtain⟨l,rfl,_⟩:=Bi (f:=fun b:Bool=>[.bool b]) (Q:=fun _=>True) (fun x hx=>by
   obtain⟨d,rfl,hd⟩:=Ia hx;obtain⟨b,rfl⟩:=MJ hd;exact⟨b,rfl,trivial⟩) hd
  exact⟨l,rfl,trivial⟩) h4
 obtain⟨l5,rfl,g5⟩:=avx h5;exact⟨⟨l1,b2,n3,l4,l5⟩,rfl,g1,g3,g5⟩
def fA.Rng.fit {f:fA}(h:f.Rng) (s:agF f):f.Fit where
 chans:=⟨by have:=s.chans.1;omega,fun c hc=>(h.chans c hc).fit (s.chans.2 c hc)⟩
 mask:=h.mask
 bands:=⟨by have:=s.bands.1;omega,fun l hl=>by have:=s.bands.2 l hl;omega⟩
 fill:=by have:=s.fill;omega
 fillI:=h.fill
def ayE {x:W_}(h:OkDs aev x):∃ (rt n:Int) (cb:Bool) (cz:Int),x.map AV.d=[AV.d (.int .i64 rt),A_ n,B_ cb,A_ cz]:=by
 obtain⟨a1,r,rfl,h1,h⟩:=sy h;obtain⟨a2,r,rfl,h2,h⟩:=sy h;obtain⟨a3,r,rfl,h3,h⟩:=sy h;obtain⟨a4,rfl,h4⟩:=Ia h;obtain⟨n1,rfl,_⟩:=uj h1;obtain⟨n2,rfl,_⟩:=uj h2;obtain⟨b3,rfl⟩:=MJ h3;obtain⟨n4,rfl,_⟩:=uj h4;exact⟨n1,n2,b3,n4,rfl⟩
def aAS {R:Nat}{n:Int}{f:fA}:At (oL R n f) 0 (BT R n f).length (BT R n f):=⟨dl _,o_,_,rfl⟩
def ao1 {R:Nat}(hR:R<=11) {n:Int}(hn:n=1∨n=2) {f:fA}(hf:f.Fit) (ok:Ab R n f):abh (oL R n f) R n=.ok f (BT R n f).length:=by
 have hl:(oL R n f).length=(BT R n f).length+Lj (BT R n f).length:=by
  show (Ax (BT R n f)).length=_;rw[Ax,al,bi]
 have hd:(oL R n f).drop (BT R n f).length=List.replicate (Lj (BT R n f).length) 0:=by
  show (Ax (BT R n f)).drop _=_;rw[Ax,xf]
 have hp:Lj (BT R n f).length<=7:=by unfold Lj;omega
 rw[abh,aob hR hn hf ok aAS,ay,ac];refine⟨o_,?_⟩;rw[hd];intro h;have:=cY h;omega
def aqk (rt n:Int) (cb:Bool) (cz:Int) (f:fA) (hf:agF f->f.Fit):br prog yd [nR rt n cb cz,.agg f.av]=some (B_ true):=by
 have ha:=alu;rcases awM f with ⟨hs,hg⟩ | hg
 rotate_left
 .simp only[fA.av]at hg⊢;rw[aJ pk pn rfl];simp (maxSteps:=300000) (disch:=omega) [↓ac,↓aa,ha,hg]
 have hF:=hf hs;have hW:=apw rt n cb cz f hF _ _ _ fu.d fu.d fu.d;rcases hW with ⟨hcf,hok,hlen,hW⟩ | ⟨_,e,he,hC,hW⟩
 rotate_left
 .simp only[fA.av,nR,wg]at hg hC hW⊢;rw[aJ pk pn rfl];simp (maxSteps:=300000) (disch:=omega) [↓ac,↓aa,ha,hg,hC,hW,he]
 obtain⟨R,rfl⟩:=aB hcf.1.1;rw[au]at hok hlen hW;have hR:R<=11:=by have:=hcf.1.2;omega
 have hn:=hcf.2;obtain⟨l,hl,hl2⟩:=af2 ((oL R n f).length / 8) (b:=oL R n f) (by have:=azH (R:=R) (n:=n) (f:=f);omega) az6;have hW:=hW l hl hl2;have hu:=ov (l:=l);have hbl:=cT (l:=l);have hB:=V7 R n cb cz f hF _ _ _ fu.d fu.d fu.d;rw[au,hl,hu]at hB;rcases hB with ⟨_,_,hB⟩ | ⟨hB,_⟩
 rotate_left
 .exact absurd ⟨hcf,hok⟩ hB
 rw[hl,hu]at hlen;have hRd:=arG R n cb cz (.d (.lst (am l))) l fu.d o_ hl2;rcases hRd with ⟨_,hlr,hRd⟩ | ⟨hRd,_⟩
 rotate_left
 .exact absurd ⟨hcf,o_⟩ hRd
 rw[au,<-hl,ao1 hR hn hF hok]at hRd;simp only[fA.ow]at hRd;have hX:fu (share (aD 9 (dt f.chans))) (dt f.chans):=R9;have hY:fu (share (aD 1 (dr f.bands))) (dr f.bands):=R9;have hZ:fu (share (aD 1 (am f.fill))) (am f.fill):=R9;generalize share (aD 9 (dt f.chans))=X at *;generalize share (aD 1 (dr f.bands))=Y at *;generalize share (aD 1 (am f.fill))=Z at *;have hS:=anA f hF X Y Z _ _ _ hX hY hZ fu.d fu.d fu.d;obtain⟨⟨x1,x2,x3⟩,x4,x5⟩:=hX.facts;obtain⟨⟨y1,y2,y3⟩,y4,y5⟩:=hY.facts;obtain⟨⟨z1,z2,z3⟩,z4,z5⟩:=hZ.facts;obtain⟨⟨vx,ux⟩,wx⟩:=hX.one;obtain⟨⟨vy,uy⟩,wy⟩:=hY.one;obtain⟨⟨vz,uz⟩,wz⟩:=hZ.one;have c8:((8*l.length:Nat):Int)=8*(l.length:Int):=s_;simp only[fA.av,nR,wg,c8]at hg hW hB hRd hS⊢;generalize am l=W at *;rw[aJ pk pn rfl];simp (maxSteps:=300000) (disch:=omega) [↓ac,↓aa,-bw,x1,x2,x3,x4,y1,y2,y3,y4,z1,z2,z3,z4,ux,uy,uz,vx,vy,vz,wx,wy,wz,ha,hg,hW,hB,hRd,hS,hbl]
def W5 {H:Type}:∀ {ds:List (DataW H)},yN [(true,aev),(true,aeh)] ds->(∃ d1 d2,ds=[d1,d2])∧∃ (rt n:Int) (cb:Bool) (cz:Int) (f:fA),f.Rng∧H8 [(true,aev),(true,aeh)] ds=[nR rt n cb cz,.agg f.av]
 | [d1,d2],h=>by
  simp only[yN,and_true]at h;obtain⟨h1,h2⟩:=h;obtain⟨rt,n,cb,cz,e1⟩:=ayE h1;obtain⟨f,e2,hf⟩:=ayb h2;refine⟨⟨_,_,rfl⟩,rt,n,cb,cz,f,hf,?_⟩;simp only[H8,aek,e1,e2]
 | [],h=>by simp[yN]at h
 | [_],h=>by simp[yN]at h
 | _::_::_::_,h=>by simp[yN]at h
end Go.Vm
end
