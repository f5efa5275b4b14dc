import Derived.Test.YtpidphkolofkfaaGreatP4
set_option linter.unusedVariables false
set_option linter.unusedSimpArgs false
set_option linter.defProp false
set_option linter.unusedSectionVars false
noncomputable section
namespace Go.Vm
set_option maxRecDepth 100000
set_option maxHeartbeats 4000000
def I6 {α:Type}{f:α->C_}{k:Nat}:∀ {l:List α},(∀ x∈l,(f x).length<=k)->(l.flatMap f).length<=k*l.length
 | [],_=>by simp
 | x::r,h=>by
  have a:=h x (.head _);have b:=I6 (l:=r) fun y hy=>h y (.tail _ hy)
  rw[aH,al,aq,Nat.mul_add];omega
def aj7 {d hi:Nat}:∀ {f x:Nat},(sc d hi f x).length<=f
 | 0,_=>by simp[sc]
 | f+1,x=>by
  rw[sc];split
  .have:=aj7 (d:=d) (hi:=hi) (f:=f) (x:=x+d);simp only[aq];omega
  .simp
def ald {os:C_}{d b:Nat}:∀ {k w:Nat},(qJ os d b k w).length<=300*k
 | 0,_=>by simp[qJ]
 | k+1,w=>by
  have a:=aj7 (d:=d) (hi:=nth os (b+1)) (f:=300) (x:=nth os b);have b:=ald (os:=os) (d:=d) (b:=b) (k:=k) (w:=w+1);rw[qJ,al,gJ];omega
def akG {os:C_}{d n first:Nat}(hn:n<=8):∀ {k b:Nat},(zn os d n first k b).length<=2400*k
 | 0,_=>by simp[zn]
 | k+1,b=>by
  have a:=ald (os:=os) (d:=d) (b:=b) (k:=n) (w:=first);have c:=akG (os:=os) (d:=d) (first:=first) hn (k:=k) (b:=b+1);rw[zn,al];omega
def akM {os:C_}{n first:Nat}(hn:n<=8):∀ {r:P_}{b:Nat}{lf:Int},fitsS lf r->0<=lf->(AD os n first r b).length<=2400*lf.toNat
 | [],b,lf,h,h0=>by simp[AD]
 | s::r,b,lf,h,h0=>by
  obtain⟨⟨⟨l1,l2⟩,_⟩,h2⟩:=h;have a:=akG (os:=os) (d:=bH s.book.toNat) (first:=first) hn (k:=s.len.toNat) (b:=b);have c:=akM (os:=os) (first:=first) hn (b:=b+s.len.toNat) h2 o_;rw[AD,al];split
  .simp only[bu];omega
  .rw[gJ];omega
def akw {os:C_}{m:Int}(hm:0<=m∧m<=40):∀ {r:H_}{q:G_}{first:Nat},fq m r->(∀ n∈q,n<=8)->(qn os r q first).length<=100000*q.length
 | [],q,first,_,_=>by simp[qn]
 | l::r,[],first,_,_=>by simp[qn]
 | l::r,n::q,first,hf,hn=>by
  have h1:=hn n (.head _);have a:=akM (os:=os) (n:=n.toNat) (first:=first) o_ (b:=0) (hf l (.head _)) hm.1;have c:=akw (os:=os) hm (r:=r) (q:=q) (first:=first+n.toNat) (fun x hx=>hf x (.tail _ hx)) (fun x hx=>hn x (.tail _ hx));rw[qn,al,aq];omega
def XY {r:Nat}{c:cu}(hc:c.Fit) (h:mR r c) (hr:r<=11):(nf r c).length<=160000000:=by
 have hm11:=gh hr h.info;obtain⟨g1,g2⟩:=dG hm11;have hmm:c.info.many<=8:=by unfold aL.many;split<;>omega
 have hgl:c.info.groups.length<=8:=by have:=mE (fun n hn=>(g1 n hn).1);omega
 have a:=akw (os:=offs r c.info.short) (jK hm11) (first:=0) h.sects.2 fun n hn=>(g1 n hn).2
 have b:=I6 (f:=wb c) (k:=200) (l:=qn (offs r c.info.short) c.sects c.info.groups 0) fun p hp=>by
  obtain⟨h1,h2,h3⟩:=Rj hc h hr hp;exact(acS h1 h3).2
 unfold nf;omega
def Q9:∀ {g:H_}{t:J_}{w z:Int}{m:Int},0<=m∧m<=40->fq m g->mC g t w z≠none->(nq g t w z).length<=800*g.length
 | [],[],_,_,_,_,_,_=>by simp[nq]
 | [],_::_,_,_,_,_,_,h=>absurd rfl h
 | _::_,[],_,_,_,_,_,h=>absurd rfl h
 | l::r,t::s,w,z,m,hm,hf,h=>by
  rw[mC]at h
  cases hr:dJ (aK l) t w z with
  | none=>rw[hr]at h;exact absurd rfl h
  | some fin =>
   rw[hr]at h;have a:=VN (bks:=aK l) (t:=t) (w:=w) (z:=z) (by rw[hr];simp);have b:=ta (hf l (.head _)) hm.1;have c:=Q9 (g:=r) (t:=s) (w:=fin.1) (z:=fin.2) hm (fun x hx=>hf x (.tail _ hx)) h;rw[nq,hr,al,aq];simp only;omega
def J6 {i:aL}:(kX i).length<=20:=by
 unfold kX;split<;>simp[ZF]
def acq {i:aL}{g:H_}(hm:i.may 11) (hg:jF i g):(NJ i g).length<=600000*g.length:=by
 have hsz:1<=i.fsz∧i.fsz<=5:=by unfold aL.fsz;split<;>omega
 have hmx:=jK hm;refine I6 fun l hl=>?_
 have hf:=hg.2 l hl;have a:=Sb hsz (tU hf o_);have b:l.length<=100:=by
  rcases Ih hf with h | h
  .omega
  .subst h;simp
 omega
def Cu (r:Nat) (c:cu) (common:Bool):C_ :=
 ar c.gain.toNat 8++((if common then [] else kX c.info)++(NJ c.info c.sects++(nq c.sects c.steps c.gain (-1)++((if oB c.tns then 0::1::(jl c.info.short c.tns++[0]) else [0,0,0])++nf r c))))
def auF (b:C_) (hb:b.length<=300000000) (x:AV) (hx:x=.d (.lst (am b))∨x=.nl∧b=[]) (rt:Int) (c:cu) (hc:c.Fit) (common:Bool) :
  (dV rt∧mR rt.toNat c∧br prog Fd [x,A_ rt,.agg c.av,B_ common]=some (.tup [.own true 1 (am (b++Cu rt.toNat c common)),A_ 0]))∨
  (∃ e:Int,e≠0∧br prog jo [A_ rt,.agg c.av]=some (A_ e)∧(dV rt->¬ mR rt.toNat c)∧br prog Fd [x,A_ rt,.agg c.av,B_ common]=some (.tup [.nl,A_ e])):=by
 have bad:∀ e:Int,e≠0->br prog jo [A_ rt,.agg c.av]=some (A_ e)->br prog Fd [x,A_ rt,.agg c.av,B_ common]=some (.tup [.nl,A_ e]):=by
  intro e he hC;simp only[cu.av]at hC⊢;rw[aJ abP acs rfl];rcases hx with rfl | ⟨rfl,rfl⟩
  all_goals simp (maxSteps:=300000) (disch:=omega) [↓ac,↓aa,hC,he]
 rcases OB rt c hc with ⟨hr,h,hC⟩ | ⟨hr,h,hC⟩ | ⟨hr,hC⟩
 .refine .inl ⟨hr,h,?_⟩;obtain⟨R,rfl⟩:=aB hr.1;simp only[au]at h⊢;have hR:R<=11:=o_;have hm11:=gh hR h.info;have hmx:=jK hm11;obtain⟨g1,g2⟩:=dG hm11;have hmm:c.info.many<=8:=by unfold aL.many;split<;>omega
  have hgl:c.info.groups.length<=8:=by have:=mE (fun n hn=>(g1 n hn).1);omega
  have hgs:c.sects.length<=8:=by have:=h.sects.1;omega
  have k1:=J6 (i:=c.info);have k2:=acq hm11 h.sects;have k3:=Q9 hmx h.sects.2 h.steps;have k4:(jl c.info.short c.tns).length<=1000*c.tns.length:=I6 fun l hl=>aa5 (h.tns.2 l hl)
  have k5:=XY hc h hR;have htl:=h.tns.1;have hx8:(8:Int).toNat=8:=rfl;have p1:=mG b c.gain 8 o_ (by have:=h.gain;omega) x hx;rw[ac (by have:=h.gain;simp only[rq,hx8];omega),hx8]at p1;obtain⟨B1,hB1⟩:∃ B1,B1=b++ar c.gain.toNat 8:=⟨_,rfl⟩
  have l1:B1.length=b.length+8:=by rw[hB1];simp
  rw[<-hB1]at p1;have p2:=agy B1 o_ _ (.inl rfl) R c.info hc.info;rw[ac hr,au,ac h.info]at p2;obtain⟨B2,hB2⟩:∃ B2,B2=B1++(if common then [] else kX c.info):=⟨_,rfl⟩
  have l2:B2.length<=b.length+28:=by rw[hB2,al];split<;>(try simp only[bu])<;>omega
  have p3:=as0 B2 o_ _ (.inl rfl) c.info hc.info hm11 c.sects hc.sects h.sects;obtain⟨B3,hB3⟩:∃ B3,B3=B2++NJ c.info c.sects:=⟨_,rfl⟩
  have l3:B3.length<=b.length+5000000:=by rw[hB3,al];omega
  rw[<-hB3]at p3;have p4:=aoz B3 o_ _ (.inl rfl) c.gain c.info.max c.sects c.steps h.gain hgs hmx h.sects.2 hc.sects.2 h.steps fun l hl=>by have:=hc.steps.2 l hl;omega
  obtain⟨B4,hB4⟩:∃ B4,B4=B3++nq c.sects c.steps c.gain (-1):=⟨_,rfl⟩
  have l4:B4.length<=b.length+6000000:=by rw[hB4,al];omega
  rw[<-hB4]at p4;have p5:=Rs c.tns o_ fun l hl=>by have:=(hc.tns.2 l hl).1;omega
  have p6:=ain (B4++[0,1]) g_ _ (.inl rfl) c.info hc.info hm11 c.tns h.tns fun l hl f hf=>(hc.fltI l hl f hf).2
  obtain⟨B5,hB5⟩:∃ B5,B5=B4++(if oB c.tns then 0::1::(jl c.info.short c.tns++[0]) else [0,0,0]):=⟨_,rfl⟩
  have l5:B5.length<=b.length+7000000:=by rw[hB5,al];split<;>simp<;>omega
  have hfin:b++Cu R c common=B5++nf R c:=by rw[hB5,hB4,hB3,hB2,hB1];simp only[Cu,aA]
  obtain⟨C2,M,p7⟩:=aqx R hR c hc h (.d (.lst (am B5))) rfl o_;have p8:=OG R hR c.info (.lst (bD c.sects)) [(0,.cells c.av),(1,.cells uX),(2,.cells [.ptr 1 0]),(3,.cells [.nl])] 4 (fun p hp=>by
   simp only[az,cQ,fh]at hp;rcases hp with rfl | rfl | rfl | rfl<;>simp only[]<;>omega)
  rw[hfin];have hbl:(am (nf R c)).length=(nf R c).length:=cT;have hb5:(am B5).length=B5.length:=cT;have hb4:(am B4).length=B4.length:=cT;have hb01:am B4++[[D.int .u8 0],[D.int .u8 1]]=am (B4++[0,1]):=by simp[am]
  have hb000:am B4++[[D.int .u8 0],[D.int .u8 0],[D.int .u8 0]]=am (B4++[0,0,0]):=by simp[am]
  have hb6:am (B4++[0,1]++jl c.info.short c.tns)++[[D.int .u8 0]]=am (B4++[0,1]++jl c.info.short c.tns++[0]):=by simp[am]
  have hl6n:(B4++[0,1]++jl c.info.short c.tns).length<=400000000:=by simp;omega
  have hl6:(am (B4++[0,1]++jl c.info.short c.tns)).length<=400000000:=by rw[cT];simp;omega
  simp only[FQ,cu.av,aL.cells,aQ,aO]at hC p2 p3 p4 p6 p7 p8⊢;rw[aJ abP acs rfl]
  cases hcm:common with
  | true =>
   rw[hcm]at hB2;simp only[bf,bg]at hB2;subst hB2
   cases haf:oB c.tns with
   | true =>
    rw[haf]at hB5 p5;simp only[bf]at hB5;have e5:B4++[0,1]++jl c.info.short c.tns++[0]=B5:=by rw[hB5];simp
    rw[e5]at hb6;generalize nf R c=LL at *;generalize B4++[0,1]++jl c.info.short c.tns=B6 at *;generalize B4++[0,1]=B7 at *;rcases hx with rfl | ⟨rfl,rfl⟩
    .simp (config := { maxSteps:=1000000 }) (disch:=omega) [↓ac,↓aa,rd,hC,p1,p3,p4,p5,p6,hb01,hb6,hb000,p8,p7]
     try omega
    .simp (config := { maxSteps:=1000000 }) (disch:=omega) [↓ac,↓aa,rd,hC,p1,p3,p4,p5,p6,hb01,hb6,hb000,p8,p7]
     try omega
   | false =>
    rw[haf]at hB5 p5;simp only[ao,bh]at hB5;rw[<-hB5]at hb000;generalize nf R c=LL at *;generalize B4++[0,1]++jl c.info.short c.tns=B6 at *;generalize B4++[0,1]=B7 at *;rcases hx with rfl | ⟨rfl,rfl⟩
    .simp (config := { maxSteps:=1000000 }) (disch:=omega) [↓ac,↓aa,rd,hC,p1,p3,p4,p5,p6,hb01,hb6,hb000,p8,p7]
     try omega
    .simp (config := { maxSteps:=1000000 }) (disch:=omega) [↓ac,↓aa,rd,hC,p1,p3,p4,p5,p6,hb01,hb6,hb000,p8,p7]
     try omega
  | false =>
   rw[hcm]at hB2;simp only[ao,bh]at hB2;rw[<-hB2]at p2
   cases haf:oB c.tns with
   | true =>
    rw[haf]at hB5 p5;simp only[bf]at hB5;have e5:B4++[0,1]++jl c.info.short c.tns++[0]=B5:=by rw[hB5];simp
    rw[e5]at hb6;generalize nf R c=LL at *;generalize B4++[0,1]++jl c.info.short c.tns=B6 at *;generalize B4++[0,1]=B7 at *;rcases hx with rfl | ⟨rfl,rfl⟩
    .simp (config := { maxSteps:=1000000 }) (disch:=omega) [↓ac,↓aa,rd,hC,p1,p2,p3,p4,p5,p6,hb01,hb6,hb000,p8,p7]
     try omega
    .simp (config := { maxSteps:=1000000 }) (disch:=omega) [↓ac,↓aa,rd,hC,p1,p2,p3,p4,p5,p6,hb01,hb6,hb000,p8,p7]
     try omega
   | false =>
    rw[haf]at hB5 p5;simp only[ao,bh]at hB5;rw[<-hB5]at hb000;generalize nf R c=LL at *;generalize B4++[0,1]++jl c.info.short c.tns=B6 at *;generalize B4++[0,1]=B7 at *;rcases hx with rfl | ⟨rfl,rfl⟩
    .simp (config := { maxSteps:=1000000 }) (disch:=omega) [↓ac,↓aa,rd,hC,p1,p2,p3,p4,p5,p6,hb01,hb6,hb000,p8,p7]
     try omega
    .simp (config := { maxSteps:=1000000 }) (disch:=omega) [↓ac,↓aa,rd,hC,p1,p2,p3,p4,p5,p6,hb01,hb6,hb000,p8,p7]
     try omega
 .exact .inr ⟨8,o_,hC,fun _=>h,bad 8 o_ hC⟩
 .exact .inr ⟨2,o_,hC,fun h=>absurd h hr,bad 2 o_ hC⟩
abbrev qk:=@List.tail_drop
structure aeu (c:cu):Prop where
 groups:c.info.groups.length<=40
 sects:c.sects.length<=40∧∀ l∈c.sects,l.length<=100
 steps:c.steps.length<=40∧∀ l∈c.steps,l.length<=200
 tns:c.tns.length<=40∧∀ l∈c.tns,l.length<=20∧∀ f∈l,f.coefs.length<=100
 lines:c.lines.length<=2000
def aqX (c:cu) (hl:c.sects.length<=40):∀ (r:H_) (i:Nat),c.sects.drop i=r->
  ((∀ l∈r,l.length<=100)∧(Dn prog).code (.loop ik) ⟨[(1,.ptr 0 0),(3,A_ i)],⟨[(0,.cells c.av)],1⟩⟩=some (.exit 0,⟨[(1,.ptr 0 0)],⟨[(0,.cells c.av)],1⟩⟩))∨
  (Dn prog).code (.loop ik) ⟨[(1,.ptr 0 0),(3,A_ i)],⟨[(0,.cells c.av)],1⟩⟩=some (.ret,⟨[(2,B_ true)],⟨[],1⟩⟩):=by
 intro r
 induction r with
 | nil =>
  intro i hd;have hi:=bb hd;refine .inl ⟨s_,?_⟩;rw[ah kg];simp (maxSteps:=300000) (disch:=omega) [↓aa]
 | cons l r ih =>
  intro i hd;have hg:=kH hd;have hlt:=bv hd;have hd1:c.sects.drop (i+1)=r:=by rw[<-qk,hd];rfl
  have ih1:=ih (i+1) hd1;rw[show ((i+1:Nat):Int)=(i:Int)+1 from rfl]at ih1;by_cases hn:l.length<=100
  .rcases ih1 with ⟨ha,e⟩ | e
   .refine .inl ⟨fun q hq=>?_,?_⟩
    .rcases az.1 hq with rfl | hq
     .exact hn
     .exact ha q hq
    .rw[ah kg];simp (maxSteps:=300000) (disch:=omega) [↓ac,↓aa,hg,e]
   .refine .inr ?_;rw[ah kg];simp (maxSteps:=300000) (disch:=omega) [↓ac,↓aa,hg,e]
  .refine .inr ?_;rw[ah kg];simp (maxSteps:=300000) (disch:=omega) [↓ac,↓aa,hg]
def aqI (c:cu) (hl:c.steps.length<=40):∀ (r:J_) (i:Nat),c.steps.drop i=r->
  ((∀ l∈r,l.length<=200)∧(Dn prog).code (.loop iE) ⟨[(1,.ptr 0 0),(4,A_ i)],⟨[(0,.cells c.av)],1⟩⟩=some (.exit 2,⟨[(1,.ptr 0 0)],⟨[(0,.cells c.av)],1⟩⟩))∨
  (Dn prog).code (.loop iE) ⟨[(1,.ptr 0 0),(4,A_ i)],⟨[(0,.cells c.av)],1⟩⟩=some (.ret,⟨[(2,B_ true)],⟨[],1⟩⟩):=by
 intro r
 induction r with
 | nil =>
  intro i hd;have hi:=bb hd;refine .inl ⟨s_,?_⟩;rw[ah kb];simp (maxSteps:=300000) (disch:=omega) [↓aa]
 | cons l r ih =>
  intro i hd;have hg:=E3 hd;have hlt:=bv hd;have hd1:c.steps.drop (i+1)=r:=by rw[<-qk,hd];rfl
  have ih1:=ih (i+1) hd1;rw[show ((i+1:Nat):Int)=(i:Int)+1 from rfl]at ih1;by_cases hn:l.length<=200
  .rcases ih1 with ⟨ha,e⟩ | e
   .refine .inl ⟨fun q hq=>?_,?_⟩
    .rcases az.1 hq with rfl | hq
     .exact hn
     .exact ha q hq
    .rw[ah kb];simp (maxSteps:=300000) (disch:=omega) [↓ac,↓aa,hg,e]
   .refine .inr ?_;rw[ah kb];simp (maxSteps:=300000) (disch:=omega) [↓ac,↓aa,hg,e]
  .refine .inr ?_;rw[ah kb];simp (maxSteps:=300000) (disch:=omega) [↓ac,↓aa,hg]
def aq4 (c:cu) (w:Nat) (full:AA_) (q:N_) (hw:c.tns.drop w=full::q) (hl:full.length<=20):∀ (r:AA_) (i:Nat),full.drop i=r->
  ((∀ f∈r,f.coefs.length<=100)∧(Dn prog).code (.loop io) ⟨[(1,.ptr 0 0),(5,A_ w),(6,A_ i)],⟨[(0,.cells c.av)],1⟩⟩=some (.exit 6,⟨[(1,.ptr 0 0),(5,A_ w)],⟨[(0,.cells c.av)],1⟩⟩))∨
  (Dn prog).code (.loop io) ⟨[(1,.ptr 0 0),(5,A_ w),(6,A_ i)],⟨[(0,.cells c.av)],1⟩⟩=some (.ret,⟨[(2,B_ true)],⟨[],1⟩⟩):=by
 have hg1:=tj hw;have hw1:=bv hw;intro r
 induction r with
 | nil =>
  intro i hd;have hi:=bb hd;refine .inl ⟨s_,?_⟩;rw[ah kh];simp (maxSteps:=300000) (disch:=omega) [↓aa,↓ac,hg1]
 | cons l r ih =>
  intro i hd;have hg:=An hd;have hlt:=bv hd;have hd1:full.drop (i+1)=r:=by rw[<-qk,hd];rfl
  have ih1:=ih (i+1) hd1;rw[show ((i+1:Nat):Int)=(i:Int)+1 from rfl]at ih1;by_cases hn:l.coefs.length<=100
  .rcases ih1 with ⟨ha,e⟩ | e
   .refine .inl ⟨fun q hq=>?_,?_⟩
    .rcases az.1 hq with rfl | hq
     .exact hn
     .exact ha q hq
    .rw[ah kh];simp (maxSteps:=300000) (disch:=omega) [↓ac,↓aa,hg,hg1,e]
   .refine .inr ?_;rw[ah kh];simp (maxSteps:=300000) (disch:=omega) [↓ac,↓aa,hg,hg1,e]
  .refine .inr ?_;rw[ah kh];simp (maxSteps:=300000) (disch:=omega) [↓ac,↓aa,hg,hg1]
def aq7 (c:cu) (hl:c.tns.length<=40):∀ (r:N_) (i:Nat),c.tns.drop i=r->
  ((∀ l∈r,l.length<=20∧∀ f∈l,f.coefs.length<=100)∧(Dn prog).code (.loop iD) ⟨[(1,.ptr 0 0),(5,A_ i)],⟨[(0,.cells c.av)],1⟩⟩=some (.exit 4,⟨[],⟨[],1⟩⟩))∨
  (Dn prog).code (.loop iD) ⟨[(1,.ptr 0 0),(5,A_ i)],⟨[(0,.cells c.av)],1⟩⟩=some (.ret,⟨[(2,B_ true)],⟨[],1⟩⟩):=by
 intro r
 induction r with
 | nil =>
  intro i hd;have hi:=bb hd;refine .inl ⟨s_,?_⟩;rw[ah iC];simp (maxSteps:=300000) (disch:=omega) [↓aa]
 | cons l r ih =>
  intro i hd;have hg:=tj hd;have hlt:=bv hd;have hd1:c.tns.drop (i+1)=r:=by rw[<-qk,hd];rfl
  have ih1:=ih (i+1) hd1;rw[show ((i+1:Nat):Int)=(i:Int)+1 from rfl]at ih1;by_cases hn:l.length<=20
  .rcases aq4 c i l r hd hn l 0 rfl with ⟨h2,e2⟩ | e2
   .rw[show ((0:Nat):Int)=0 from rfl]at e2;rcases ih1 with ⟨ha,e⟩ | e
    .refine .inl ⟨fun q hq=>?_,?_⟩
     .rcases az.1 hq with rfl | hq
      .exact⟨hn,h2⟩
      .exact ha q hq
     .rw[ah iC];simp (maxSteps:=300000) (disch:=omega) [↓ac,↓aa,hg,e2,e]
    .refine .inr ?_;rw[ah iC];simp (maxSteps:=300000) (disch:=omega) [↓ac,↓aa,hg,e2,e]
   .refine .inr ?_;rw[show ((0:Nat):Int)=0 from rfl]at e2;rw[ah iC];simp (maxSteps:=300000) (disch:=omega) [↓ac,↓aa,hg,e2]
  .refine .inr ?_;rw[ah iC];simp (maxSteps:=300000) (disch:=omega) [↓ac,↓aa,hg]
def aAG (c:cu):(aeu c∧br prog rQ [.agg c.av]=some (B_ false))∨br prog rQ [.agg c.av]=some (B_ true):=by
 by_cases h1:c.info.groups.length<=40
 rotate_left
 .refine .inr ?_;rw[aJ dS dU rfl];simp (maxSteps:=300000) (disch:=omega) [↓ac,↓aa]
 by_cases h2:c.sects.length<=40
 rotate_left
 .refine .inr ?_;rw[aJ dS dU rfl];simp (maxSteps:=300000) (disch:=omega) [↓ac,↓aa]
 by_cases h3:c.steps.length<=40
 rotate_left
 .refine .inr ?_;rw[aJ dS dU rfl];simp (maxSteps:=300000) (disch:=omega) [↓ac,↓aa]
 by_cases h4:c.tns.length<=40
 rotate_left
 .refine .inr ?_;rw[aJ dS dU rfl];simp (maxSteps:=300000) (disch:=omega) [↓ac,↓aa]
 by_cases h5:c.lines.length<=2000
 rotate_left
 .refine .inr ?_;rw[aJ dS dU rfl];simp (maxSteps:=300000) (disch:=omega) [↓ac,↓aa]
 rcases aqX c h2 _ 0 rfl with ⟨a0,e0⟩ | e0
 rotate_left
 .refine .inr ?_;rw[show ((0:Nat):Int)=0 from rfl]at e0;rw[aJ dS dU rfl];simp (maxSteps:=300000) (disch:=omega) [↓ac,↓aa,e0]
 rcases aqI c h3 _ 0 rfl with ⟨a1,e1⟩ | e1
 rotate_left
 .refine .inr ?_;rw[show ((0:Nat):Int)=0 from rfl]at e0 e1;rw[aJ dS dU rfl];simp (maxSteps:=300000) (disch:=omega) [↓ac,↓aa,e0,e1]
 rcases aq7 c h4 _ 0 rfl with ⟨a3,e3⟩ | e3
 rotate_left
 .refine .inr ?_;rw[show ((0:Nat):Int)=0 from rfl]at e0 e1 e3;rw[aJ dS dU rfl];simp (maxSteps:=300000) (disch:=omega) [↓ac,↓aa,e0,e1,e3]
 refine .inl ⟨⟨h1,⟨h2,a0⟩,⟨h3,a1⟩,⟨h4,a3⟩,h5⟩,?_⟩;rw[show ((0:Nat):Int)=0 from rfl]at e0 e1 e3;rw[aJ dS dU rfl];simp (maxSteps:=300000) (disch:=omega) [↓ac,↓aa,e0,e1,e3]
abbrev sR (book:Int):Int:=if book=13 then 511 else 255
def kK (b:C_) (a book was:Int):R Int :=
 if was<0 then (bc b a 9).bind fun v n=>.ok (v:Int) n
 else (Id b a).bind fun d n=>if was+d<0∨sR book<was+d then .er 7 else .ok (was+d) n
abbrev aDn (b:C_) (book:Int) (v:Int) (n:Nat):Prop:=(0<=v∧v<=511)∧n<=b.length
def aas {b:C_}{a:Int}{d:Int}{n:Nat}(h:Id b a=.ok d n):pSt b d n:=by
 rw[Id]at h
 cases h1:zA 12 b a with
 | er e=>rw[h1]at h;exact absurd h (by simp)
 | ok e m =>
  rw[h1,ay]at h;obtain⟨k1,k2⟩:=SI o_ h1;have h2:e<121:=k1;injection h with g1 g2
  subst g1 g2;exact⟨o_,k2⟩
def Yz {b:C_}{a book was:Int}{v:Int}{n:Nat}(h:kK b a book was=.ok v n):aDn b book v n:=by
 rw[kK]at h;split at h
 .cases h1:bc b a 9 with
  | er e=>rw[h1]at h;exact absurd h (by simp)
  | ok v0 m =>
   rw[h1,ay]at h;have hp:=ed h1;have h2:v0<512:=hp.1;have h3:=hp.2;injection h with g1 g2
   subst g1 g2;exact⟨o_,h3⟩
 .cases h1:Id b a with
  | er e=>rw[h1]at h;exact absurd h (by simp)
  | ok d m =>
   rw[h1,ay]at h;have hp:=aas h1;split at h
   .exact absurd h (by simp)
   .rename_i hn;injection h with g1 g2
    subst g1 g2;refine⟨?_,hp.2⟩;simp only[sR]at hn;split at hn<;>omega
def oC (b:C_):G_->Int->Int->Int->R (G_×Int×Int)
 | [],a,w,z=>.ok ([],w,z) a.toNat
 | k::r,a,w,z=>if k=13 then (kK b a 13 z).bind fun v n=>(oC b r n w v).bind fun q n=>.ok (v::q.1,q.2) n
  else if 0<k then (kK b a k w).bind fun v n=>(oC b r n v z).bind fun q n=>.ok (v::q.1,q.2) n
  else (oC b r a w z).bind fun q n=>.ok (0::q.1,q.2) n
abbrev inW (w:Int):Prop:=-1<=w∧w<=511
abbrev aCx (b:C_) (r:G_) (q:G_×Int×Int) (n:Nat):Prop:=q.1.length=r.length∧(inW q.2.1∧inW q.2.2)∧n<=b.length
def QU {b:C_}:∀ {r:G_}{a:Nat}{w z:Int}{q:G_×Int×Int}{n:Nat},a<=b.length->inW w->inW z->oC b r a w z=.ok q n->aCx b r q n
 | [],a,w,z,q,n,ha,hw,hz,h=>by
  rw[oC]at h;injection h with g1 g2
  subst g1 g2;exact⟨rfl,⟨hw,hz⟩,by simpa using ha⟩
 | k::r,a,w,z,q,n,ha,hw,hz,h=>by
  rw[oC]at h;split at h
  .cases h1:kK b a 13 z with
   | er e=>rw[h1]at h;exact absurd h (by simp)
   | ok v m =>
    rw[h1,ay]at h;have hp:=Yz h1
    cases h2:oC b r m w v with
    | er e=>rw[h2]at h;exact absurd h (by simp)
    | ok q1 m1 =>
     rw[h2,ay]at h;have hq:=QU hp.2 hw ⟨by have:=hp.1.1;omega,hp.1.2⟩ h2;injection h with g1 g2
     subst g1 g2;exact⟨by simp[hq.1],hq.2⟩
  .split at h
   .cases h1:kK b a k w with
    | er e=>rw[h1]at h;exact absurd h (by simp)
    | ok v m =>
     rw[h1,ay]at h;have hp:=Yz h1
     cases h2:oC b r m v z with
     | er e=>rw[h2]at h;exact absurd h (by simp)
     | ok q1 m1 =>
      rw[h2,ay]at h;have hq:=QU hp.2 ⟨by have:=hp.1.1;omega,hp.1.2⟩ hz h2;injection h with g1 g2
      subst g1 g2;exact⟨by simp[hq.1],hq.2⟩
   .cases h2:oC b r a w z with
    | er e=>rw[h2]at h;exact absurd h (by simp)
    | ok q1 m1 =>
     rw[h2,ay]at h;have hq:=QU ha hw hz h2;injection h with g1 g2
     subst g1 g2;exact⟨by simp[hq.1],hq.2⟩
def mW (b:C_):H_->Int->Int->Int->R J_
 | [],a,_,_=>.ok [] a.toNat
 | l::r,a,w,z=>(oC b (aK l) a w z).bind fun q n=>(mW b r n q.2.1 q.2.2).bind fun t n=>.ok (q.1::t) n
abbrev pSc (b:C_) (g:H_) (t:J_) (n:Nat):Prop:=t.map List.length=g.map (fun l=>(aK l).length)∧n<=b.length
def VZ {b:C_}:∀ {g:H_}{a:Nat}{w z:Int}{t:J_}{n:Nat},a<=b.length->inW w->inW z->mW b g a w z=.ok t n->pSc b g t n
 | [],a,w,z,t,n,ha,hw,hz,h=>by
  rw[mW]at h;injection h with g1 g2
  subst g1 g2;exact⟨rfl,by simpa using ha⟩
 | l::r,a,w,z,t,n,ha,hw,hz,h=>by
  rw[mW]at h
  cases h1:oC b (aK l) a w z with
  | er e=>rw[h1]at h;exact absurd h (by simp)
  | ok q m =>
   rw[h1,ay]at h;have hp:=QU ha hw hz h1
   cases h2:mW b r m q.2.1 q.2.2 with
   | er e=>rw[h2]at h;exact absurd h (by simp)
   | ok t1 m1 =>
    rw[h2,ay]at h;have hq:=VZ hp.2.2 hp.2.1.1 hp.2.1.2 h2;injection h with g1 g2
    subst g1 g2;exact⟨by simp only[bZ,hq.1,hp.1],hq.2⟩
def ar9 {t:J_}{l:G_}:cS (t++[l])=cS t++[[.lst (aF l)]]:=by simp[cS]
def amr {l:P_}(hl:l.length<=1000) (hs:∀ s∈l,0<=s.len∧s.len<=1000):(aK l).length<=1000*l.length:=by
 induction l with
 | nil=>simp[aK]
 | cons s r ih =>
  have h1:=hs s (.head _);have h2:=ih (by simp at hl;omega) fun q hq=>hs q (.tail _ hq)
  simp only[aK,aH,al,bi,aq]at h2⊢;omega
abbrev aet (l:P_):Prop:=l.length<=1000∧∀ s∈l,0<=s.len∧s.len<=1000
def yZ (b:C_) (g:H_) (a gain:Int):R J_:=if 0<=a∧a<=b.length then mW b g a gain (-1) else .er 1
structure SG where
 row:G_
 nx:Nat
 w:Int
 z:Int
def BU {A0 A1 A2 A3:Obj}{R:ak}(book n s z:Int) (N:Nat) (hn:-100000<=n∧n<=100000) (hs:-100000<=s∧s<=100000) (hz:-100000<=z∧z<=100000) :
  (Dn prog).call pW [.ptr 4 0,A_ book,A_ n] ⟨(0,A0)::(1,A1)::(2,A2)::(3,A3)::(4,.cells [A_ s,A_ z])::R,N⟩ =
   if lO book n s z then some (B_ true,⟨if book=13 then (0,A0)::(1,A1)::(2,A2)::(3,A3)::(4,.cells [A_ s,A_ n])::R else (0,A0)::(1,A1)::(2,A2)::(3,A3)::(4,.cells [A_ n,A_ z])::R,N⟩) else some (B_ false,⟨(0,A0)::(1,A1)::(2,A2)::(3,A3)::(4,.cells [A_ s,A_ z])::R,N⟩) :=
 Nk (hp:=fun s z=>(0,A0)::(1,A1)::(2,A2)::(3,A3)::(4,.cells [A_ s,A_ z])::R) (A:=4) ⟨fun s z=>by simp,fun s z s' z'=>by simp⟩ book n s z N hn hs hz
section
variable (b:C_) (full:H_) (ss:J_) (l:P_) (i N:Nat)
abbrev aey:aV:=[(4,.ptr 0 0),(8,.ptr 1 0),(9,.ptr 2 0),(10,.ptr 3 0),(11,.ptr 5 0),(14,.ptr N 0),(35,.d (.lst (bD full))),(36,A_ full.length),(37,A_ i),(42,.fn i9 [] [.ptr (N+1) 0])]
abbrev FG (q:Bool) (p:BH_) (x1 x2 x3:AV) (row:G_) (w z:Int) (T:ak):ak :=
 (0,.cells [.d (.lst (am b))])::(1,.cells [x1])::(2,.cells [x2])::(3,.cells [x3])::(4,.cells [A_ w,A_ z])::(5,.cells [.ptr 4 0])::(N,.cells [aD 1 (aF row)])::(N+1,.cells [.d (.lst (gI l))])::(N+1+1,.loop (aey full i N) [43,44] xr xh q p)::T
abbrev hpG (s:SG) (T:ak):ak:=FG b full l i N false none (aD 1 (cS ss)) (A_ s.nx) (A_ 0) s.row s.w s.z T
abbrev hqG (s:Nat×SG) (T:ak):ak:=FG b full l i N false (some .ret) .nl (A_ 0) (A_ ((s.1:Int)+1)) s.2.row s.2.w s.2.z T
end
def N4 (b:C_) (k:Int) (s:SG):Sum SG (Nat×SG) :=
 if k=13 then (match kK b s.nx 13 s.z with
  | .ok v n=>.inl ⟨s.row++[v],n,s.w,v⟩
  | .er e=>.inr (e,s))
 else if 0<k then (match kK b s.nx k s.w with
  | .ok v n=>.inl ⟨s.row++[v],n,v,s.z⟩
  | .er e=>.inr (e,s))
 else .inl ⟨s.row++[0],s.nx,s.w,s.z⟩
def amz (b:C_) (a:Nat) (s:SG):Prop:=s.nx<=b.length∧(0<=s.w∧s.w<=511)∧inW s.z∧s.row.length=a∧a<=1000000
def az9 (b:C_) (hb:b.length<=1000000000) (full:H_) (ss:J_) (l:P_) (i N:Nat) (hN:6<=N) (a:Nat) (k:Int) (hk:0<=k∧k<=13) (s:SG) (hs:amz b a s) (K M:Nat) (o:Obj) (hK:N+1+1+1<=K) :
  cf (Dn prog) (.yield (N+1+1)) [A_ (a:Int),A_ k] ⟨hpG b full ss l i N s [(K,o)],M⟩ =
  match N4 b k s with
  | .inl s2=>some (B_ true,⟨hpG b full ss l i N s2 [(K,o)],M⟩)
  | .inr z=>some (B_ false,⟨hqG b full l i N z [(K,o)],M⟩):=by
 obtain⟨h1,h2,h3,h4,h5⟩:=hs;obtain⟨n0,n1,n2,n3,n4⟩:(N≠0∧N≠1∧N≠2∧N≠3∧N≠4∧N≠5)∧(N+1≠0∧N+1≠1∧N+1≠2∧N+1≠3∧N+1≠4∧N+1≠5)∧(N+1+1≠0∧N+1+1≠1∧N+1+1≠2∧N+1+1≠3∧N+1+1≠4∧N+1+1≠5)∧N+1+1≠N∧N+1+1≠N+1:=o_;have hrl:=iB (l:=s.row);have eo:∀ v,AV.own false 1 (aF (s.row++[v]))=aD 1 (aF (s.row++[v])):=fun v=>by rw[W7];exact nM.symm
 have hS:=agH b s.nx hb o_;have hG:=il b s.nx 9 hb o_;have hz0:=h3.1;have hz1:=h3.2;rw[N4];by_cases e1:k=13
 .subst e1;rw[ac rfl];by_cases hz:s.z<0
  .cases hg:bc b s.nx 9 with
   | ok v n =>
    have hp:=ed hg;have hv:v<512:=hp.1;have hn:=hp.2;rw[hg,eI hp]at hG;have ho:kK b s.nx 13 s.z=.ok (v:Int) n:=by rw[kK,ac hz,hg,ay]
    have hT:lO 13 v s.w s.z:=by rw[lO,ac rfl];omega
    rw[ho];simp (maxSteps:=300000) (disch:=omega) [iN,iF,↓ac,↓aa,n0,n1,n2,n3,n4,BU,hG,ac hT];exact eo _
   | er e =>
    rw[hg,iK]at hG;have ho:kK b s.nx 13 s.z=.er e:=by rw[kK,ac hz,hg,cm]
    rw[ho];simp (maxSteps:=300000) (disch:=omega) [iN,iF,↓ac,↓aa,n0,n1,n2,n3,n4,BU,hG]
  .cases hg:Id b s.nx with
   | ok d n =>
    have hp:=aas hg;have hd:=hp.1;have hn:=hp.2;rw[hg,eI hp]at hS;by_cases hr:s.z+d<0∨sR 13<s.z+d
    .have ho:kK b s.nx 13 s.z=.er 7:=by rw[kK,aa hz,hg,ay,ac hr]
     have hT:¬ lO 13 (d+s.z) s.w s.z:=by rw[lO,ac rfl];simp only[sR,ac]at hr;omega
     rw[ho];simp (maxSteps:=300000) (disch:=omega) [iN,iF,↓ac,↓aa,n0,n1,n2,n3,n4,BU,hS,aa hT]
    .have ho:kK b s.nx 13 s.z=.ok (s.z+d) n:=by rw[kK,aa hz,hg,ay,aa hr]
     have hT:lO 13 (d+s.z) s.w s.z:=by rw[lO,ac rfl];simp only[sR,ac]at hr;omega
     rw[ho,Int.add_comm];simp (maxSteps:=300000) (disch:=omega) [iN,iF,↓ac,↓aa,n0,n1,n2,n3,n4,BU,hS,ac hT];exact eo _
   | er e =>
    rw[hg,iK]at hS;have ho:kK b s.nx 13 s.z=.er e:=by rw[kK,aa hz,hg,cm]
    rw[ho];simp (maxSteps:=300000) (disch:=omega) [iN,iF,↓ac,↓aa,n0,n1,n2,n3,n4,BU,hS]
 .rw[aa e1];by_cases e2:0<k
  .rw[ac e2];have hw:¬ s.w<0:=o_
   cases hg:Id b s.nx with
   | ok d n =>
    have hp:=aas hg;have hd:=hp.1;have hn:=hp.2;rw[hg,eI hp]at hS;by_cases hr:s.w+d<0∨sR k<s.w+d
    .have ho:kK b s.nx k s.w=.er 7:=by rw[kK,aa hw,hg,ay,ac hr]
     have hT:¬ lO k (d+s.w) s.w s.z:=by rw[lO,aa e1];simp only[sR,aa e1]at hr;omega
     rw[ho];simp (maxSteps:=300000) (disch:=omega) [iN,iF,↓ac,↓aa,n0,n1,n2,n3,n4,BU,hS,aa hT,e1]
    .have ho:kK b s.nx k s.w=.ok (s.w+d) n:=by rw[kK,aa hw,hg,ay,aa hr]
     have hT:lO k (d+s.w) s.w s.z:=by rw[lO,aa e1];simp only[sR,aa e1]at hr;omega
     rw[ho,Int.add_comm];simp (maxSteps:=300000) (disch:=omega) [iN,iF,↓ac,↓aa,n0,n1,n2,n3,n4,BU,hS,ac hT,e1];exact eo _
   | er e =>
    rw[hg,iK]at hS;have ho:kK b s.nx k s.w=.er e:=by rw[kK,aa hw,hg,cm]
    rw[ho];simp (maxSteps:=300000) (disch:=omega) [iN,iF,↓ac,↓aa,n0,n1,n2,n3,n4,BU,hS,e1]
  .rw[aa e2];have:k=0:=o_;subst this;simp (maxSteps:=300000) (disch:=omega) [iN,iF,↓ac,↓aa,n0,n1,n2,n3,n4,BU,e1];exact eo _
def avO {b:C_}{a:Nat}{k:Int}{s s2:SG}(hs:amz b a s) (ha:a<1000000) (h:N4 b k s=.inl s2):amz b (a+1) s2:=by
 obtain⟨h1,h2,h3,h4,h5⟩:=hs;have h3':=h3;rw[N4]at h;split at h
 .split at h
  .rename_i v n ho;have hp:=Yz ho;obtain⟨⟨hv1,hv2⟩,hn⟩:=hp;injection h with h;subst h
   exact⟨hn,h2,⟨by simp only[];omega,hv2⟩,by simp[h4],o_⟩
  .exact nomatch h
 .split at h
  .split at h
   .rename_i v n ho;have hp:=Yz ho;obtain⟨⟨hv1,hv2⟩,hn⟩:=hp;injection h with h;subst h
    exact⟨hn,⟨hv1,hv2⟩,h3,by simp[h4],o_⟩
   .exact nomatch h
  .injection h with h;subst h
   exact⟨h1,h2,h3,by simp[h4],o_⟩
def SK {b:C_}:∀ {r:G_}{a:Nat}{s:SG},(∀ q n,oC b r s.nx s.w s.z=.ok q n->u9 (fun _ k s=>N4 b k s) r a s=.inl ⟨s.row++q.1,n,q.2.1,q.2.2⟩)∧(∀ e,oC b r s.nx s.w s.z=.er e->∃ z,u9 (fun _ k s=>N4 b k s) r a s=.inr (e,z))
 | [],a,s=>⟨fun q n h=>by
   rw[oC]at h;injection h with g1 g2
   subst g1 g2;rw[u9];simp,fun e h=>by rw[oC]at h;exact absurd h s_⟩
 | k::r,a,s=>by
  rw[oC,u9,N4];by_cases e1:k=13
  .rw[ac e1,ac e1]
   cases ho:kK b s.nx 13 s.z with
   | er e=>exact⟨fun q n h=>by rw[cm]at h;exact absurd h s_,fun e' h=>by rw[cm]at h;injection h with h;subst h;exact⟨s,rfl⟩⟩
   | ok v n =>
    simp only[ay];have ih:=SK (b:=b) (r:=r) (a:=a+1) (s:=⟨s.row++[v],n,s.w,v⟩)
    cases hr:oC b r n s.w v with
    | er e=>exact⟨fun q n h=>by rw[cm]at h;exact absurd h s_,fun e' h=>by rw[cm]at h;injection h with h;subst h;exact ih.2 e hr⟩
    | ok q m =>
     refine⟨fun q' n' h=>?_,fun e h=>by rw[ay]at h;exact absurd h s_⟩;rw[ay]at h;injection h with g1 g2
     subst g1 g2;rw[ih.1 q m hr];simp
  .rw[aa e1,aa e1];by_cases e2:0<k
   .rw[ac e2,ac e2]
    cases ho:kK b s.nx k s.w with
    | er e=>exact⟨fun q n h=>by rw[cm]at h;exact absurd h s_,fun e' h=>by rw[cm]at h;injection h with h;subst h;exact⟨s,rfl⟩⟩
    | ok v n =>
     simp only[ay];have ih:=SK (b:=b) (r:=r) (a:=a+1) (s:=⟨s.row++[v],n,v,s.z⟩)
     cases hr:oC b r n v s.z with
     | er e=>exact⟨fun q n h=>by rw[cm]at h;exact absurd h s_,fun e' h=>by rw[cm]at h;injection h with h;subst h;exact ih.2 e hr⟩
     | ok q m =>
      refine⟨fun q' n' h=>?_,fun e h=>by rw[ay]at h;exact absurd h s_⟩;rw[ay]at h;injection h with g1 g2
      subst g1 g2;rw[ih.1 q m hr];simp
   .rw[aa e2,aa e2];have ih:=SK (b:=b) (r:=r) (a:=a+1) (s:=⟨s.row++[0],s.nx,s.w,s.z⟩)
    cases hr:oC b r s.nx s.w s.z with
    | er e=>exact⟨fun q n h=>by rw[cm]at h;exact absurd h s_,fun e' h=>by rw[cm]at h;injection h with h;subst h;exact ih.2 e hr⟩
    | ok q m =>
     refine⟨fun q' n' h=>?_,fun e h=>by rw[ay]at h;exact absurd h s_⟩;rw[ay]at h;injection h with g1 g2
     subst g1 g2;simp only;rw[ih.1 q m hr];simp
def axt (b:C_) (hb:b.length<=1000000000) (full:H_) (ss:J_) (l:P_) (i N:Nat) (hN:6<=N) (hk:∀ k∈aK l,0<=k∧k<=13) (hl:(aK l).length<=1000000) :
  Rnd (hpG b full ss l i N) (hqG b full l i N) (N+1+1+1) (N+1+1) (aK l) (fun _ k s=>N4 b k s) (amz b):=by
 intro a k s K o M hak hi hK hKM;have hal:a<(aK l).length:=(aI.1 hak).1;have h:=az9 b hb full ss l i N hN a k (hk k (eE hak)) s hi K M o hK
 cases hg:N4 b k s with
 | inl s2 =>
  rw[hg]at h;exact .inl ⟨s2,hg,avO hi o_ hg,h⟩
 | inr z =>
  rw[hg]at h;exact .inr ⟨z,hg,h⟩
def aA1 {b:C_}{full:H_}{ss:J_}{l:P_}{i N:Nat}(hN:6<=N):Tl (hpG b full ss l i N) (N+1+1+1):=by
 obtain⟨n0,n1,n2,n3,n4⟩:(N≠0∧N≠1∧N≠2∧N≠3∧N≠4∧N≠5)∧(N+1≠0∧N+1≠1∧N+1≠2∧N+1≠3∧N+1≠4∧N+1≠5)∧(N+1+1≠0∧N+1+1≠1∧N+1+1≠2∧N+1+1≠3∧N+1+1≠4∧N+1+1≠5)∧N+1+1≠N∧N+1+1≠N+1:=o_;constructor
 .intro s K o h;simp (maxSteps:=300000) (disch:=omega) [↓aa]
 .intro s K o o' h;simp (maxSteps:=300000) (disch:=omega) [↓aa]
 .intro s K o h;simp (maxSteps:=300000) (disch:=omega) [↓aa]
 .intro s K o h;simp (maxSteps:=300000) (disch:=omega) [↓aa]
def az1 {b:C_}{full:H_}{l:P_}{i N:Nat}(hN:6<=N):Tl (hqG b full l i N) (N+1+1+1):=by
 obtain⟨n0,n1,n2,n3,n4⟩:(N≠0∧N≠1∧N≠2∧N≠3∧N≠4∧N≠5)∧(N+1≠0∧N+1≠1∧N+1≠2∧N+1≠3∧N+1≠4∧N+1≠5)∧(N+1+1≠0∧N+1+1≠1∧N+1+1≠2∧N+1+1≠3∧N+1+1≠4∧N+1+1≠5)∧N+1+1≠N∧N+1+1≠N+1:=o_;constructor
 .intro s K o h;simp (maxSteps:=300000) (disch:=omega) [↓aa]
 .intro s K o o' h;simp (maxSteps:=300000) (disch:=omega) [↓aa]
 .intro s K o h;simp (maxSteps:=300000) (disch:=omega) [↓aa]
 .intro s K o h;simp (maxSteps:=300000) (disch:=omega) [↓aa]
def RI (x:D) (A0 A1 A2 A3 A4 A5 A6:Obj) (N:Nat) (hN:6<=N):(Dn prog).call GC [.d x] ⟨[(0,A0),(1,A1),(2,A2),(3,A3),(4,A4),(5,A5),(N,A6)],N+1⟩=some (.fn i9 [] [.ptr (N+1) 0],⟨[(0,A0),(1,A1),(2,A2),(3,A3),(4,A4),(5,A5),(N,A6),(N+1,.cells [.d x])],N+1+1⟩):=by
 rw[KR];simp (maxSteps:=300000) (disch:=omega) [↓aa]
def alL (l:P_):Prop:=∀ k∈aK l,0<=k∧k<=13
abbrev hpL (b:C_) (ss:J_) (nx:Nat) (w z:Int):ak:=[(0,.cells [.d (.lst (am b))]),(1,.cells [aD 1 (cS ss)]),(2,.cells [A_ nx]),(3,.cells [A_ 0]),(4,.cells [A_ w,A_ z]),(5,.cells [.ptr 4 0])]
def afu (b:C_) (hb:b.length<=1000000000) (full:H_) (hfl:full.length<=1000):∀ (g:H_) (i N:Nat) (ss:J_) (nx:Nat) (w z:Int),full.drop i=g->(∀ l∈g,aet l∧alL l)->nx<=b.length->(0<=w∧w<=511)->inW z->ss.length<=i->6<=N->
  (∀ t n,mW b g nx w z=.ok t n->∃ M A4,(Dn prog).code (.loop lB) ⟨[(4,.ptr 0 0),(8,.ptr 1 0),(9,.ptr 2 0),(10,.ptr 3 0),(11,.ptr 5 0),(35,.d (.lst (bD full))),(36,A_ full.length),(37,A_ i)],⟨hpL b ss nx w z,N⟩⟩ =
   some (.exit 0,⟨[(8,.ptr 1 0),(9,.ptr 2 0),(10,.ptr 3 0)],⟨[(1,.cells [aD 1 (cS (ss++t))]),(2,.cells [A_ n]),(3,.cells [A_ 0]),(4,A4)],M⟩⟩))∧
  (∀ e,mW b g nx w z=.er e->∃ M I K T,(Dn prog).code (.loop lB) ⟨[(4,.ptr 0 0),(8,.ptr 1 0),(9,.ptr 2 0),(10,.ptr 3 0),(11,.ptr 5 0),(35,.d (.lst (bD full))),(36,A_ full.length),(37,A_ i)],⟨hpL b ss nx w z,N⟩⟩ =
   some (.ret,⟨aey full I K,⟨(0,.cells [.d (.lst (am b))])::(1,.cells [.nl])::(2,.cells [A_ 0])::(3,.cells [A_ ((e:Int)+1)])::T,M⟩⟩)):=by
 intro g
 induction g with
 | nil =>
  intro i N ss nx w z hd hok hnx hw hz hss hN;have hk:=bb hd;refine⟨fun t n h=>?_,fun e h=>by rw[mW]at h;exact absurd h s_⟩;rw[mW]at h;injection h with g1 g2
  subst g1 g2;refine⟨N,.cells [A_ w,A_ z],?_⟩;rw[ah Dp];simp (maxSteps:=300000) (disch:=omega) [↓ac,↓aa]
 | cons l r ih =>
  intro i N ss nx w z hd hok hnx hw hz hss hN;have hlt:=bv hd;have hg:=kH hd;obtain⟨hl,hbk⟩:=hok l (.head _);have hbl:=amr hl.1 hl.2;have hsl:=apE (t:=ss);obtain⟨n0,n1,n2,n3,n4⟩:(N≠0∧N≠1∧N≠2∧N≠3∧N≠4∧N≠5)∧(N+1≠0∧N+1≠1∧N+1≠2∧N+1≠3∧N+1≠4∧N+1≠5)∧(N+1+1≠0∧N+1+1≠1∧N+1+1≠2∧N+1+1≠3∧N+1+1≠4∧N+1+1≠5)∧N+1+1≠N∧N+1+1≠N+1:=o_;have hB:=aa9 (p:=N+1) (aA1 (b:=b) (full:=full) (ss:=ss) (l:=l) (i:=i) hN) (az1 (b:=b) (full:=full) (l:=l) (i:=i) hN) l (axt b hb full ss l i N hN hbk o_) (fun s=>by simp (maxSteps:=300000) (disch:=omega) [↓aa,↓ac]) o_ hl.2 (N+1+1+1) ⟨[],nx,w,z⟩ (ai _) ⟨hnx,hw,hz,rfl,o_⟩;have hrow:=SK (b:=b) (r:=aK l) (a:=0) (s:=⟨[],nx,w,z⟩);have n00:aF []=[]:=rfl;have c1:((i+1:Nat):Int)=(i:Int)+1:=rfl;rw[mW]
  cases hr:oC b (aK l) nx w z with
  | er e =>
   obtain⟨zz,hz2⟩:=hrow.2 e hr;rw[hz2]at hB;refine⟨fun t n h=>by rw[cm]at h;exact absurd h s_,fun e' h=>?_⟩;rw[cm]at h;injection h with h;subst h;rcases hB with ⟨s2,M,e1,_⟩ | ⟨q,M,e1,e2,e3⟩
   .exact nomatch e1
   .injection e1 with e1
    subst e1;simp only[hpG,hqG,FG,n00,qB,aey]at e3;refine⟨M,i,N,[(4,.cells [A_ zz.w,A_ zz.z]),(5,.cells [.ptr 4 0]),(N,.cells [aD 1 (aF zz.row)]),(N+1,.cells [.d (.lst (gI l))])],?_⟩;rw[ah Dp];simp (maxSteps:=300000) (disch:=omega) [↓ac,↓aa,hg,n0,n1,n2,n3,n4,RI,rd,e3]
  | ok q m =>
   have hp:=QU hnx ⟨o_,o_⟩ hz hr;obtain⟨p1,⟨p2,p3⟩,p4⟩:=hp;have hz2:=hrow.1 q m hr;rw[hz2]at hB;rcases hB with ⟨s2,M,e1,ei,e2,e3⟩ | ⟨q,M,e1,_⟩
   rotate_left
   .exact nomatch e1
   injection e1 with e1
   subst e1;obtain⟨_,hw2,hz3,_⟩:=ei;simp only[aO]at e3 hw2 hz3;have h5:=ih (i+1) M (ss++[q.1]) m q.2.1 q.2.2 (bn hd) (fun x hx=>hok x (.tail _ hx)) p4 hw2 hz3 g_ o_;rw[c1]at h5;simp only[ay];have step:(Dn prog).code (.loop lB) ⟨[(4,.ptr 0 0),(8,.ptr 1 0),(9,.ptr 2 0),(10,.ptr 3 0),(11,.ptr 5 0),(35,.d (.lst (bD full))),(36,A_ full.length),(37,A_ i)],⟨hpL b ss nx w z,N⟩⟩ =
     (Dn prog).code (.loop lB) ⟨[(4,.ptr 0 0),(8,.ptr 1 0),(9,.ptr 2 0),(10,.ptr 3 0),(11,.ptr 5 0),(35,.d (.lst (bD full))),(36,A_ full.length),(37,A_ ((i:Int)+1))],⟨hpL b (ss++[q.1]) m q.2.1 q.2.2,M⟩⟩:=by
    simp only[hpG,hqG,FG,n00,qB,aey]at e3;simp only[hpL,ar9,nM];rw[ah Dp];simp (maxSteps:=300000) (disch:=omega) [↓ac,↓aa,hg,n0,n1,n2,n3,n4,RI,rd,e3]
   rw[step]
   cases hs:mW b r m q.2.1 q.2.2 with
   | er e =>
    refine⟨fun t n h=>by rw[cm]at h;exact absurd h s_,fun e' h=>?_⟩;rw[cm]at h;injection h with h
    subst h;exact h5.2 e hs
   | ok t0 m0 =>
    refine⟨fun t n h=>?_,fun e h=>by rw[ay]at h;exact absurd h s_⟩;rw[ay]at h;injection h with g1 g2
    subst g1 g2;obtain⟨M2,A4,f⟩:=h5.1 t0 m0 hs;refine⟨M2,A4,?_⟩;rw[f,aA];rfl
def DX {m:Nat}{xs:E_}:share (share (aD m xs))=share (aD m xs):=by cases xs<;>rfl
def akt {m:Nat}{xs:E_}:firm (share (aD m xs))=share (aD m xs):=by cases xs<;>rfl
def afX {m:Nat}{xs:E_}:AV.cells (share (aD m xs))=[share (aD m xs)]:=by cases xs<;>rfl
def HC {m:Nat}{xs:E_}:bw (share (aD m xs))=true:=by cases xs<;>rfl
def ar2 {h:ak}{m:Nat}{xs:E_}{a b:Int}:gQ h (.tup [share (aD m xs),A_ a,A_ b])=some (.tup [share (aD m xs),A_ a,A_ b]):=by cases xs<;>rfl
def api (b:C_) (hb:b.length<=1000000000) (a gain m:Int) (ha:i64 a) (hg:0<=gain∧gain<=255) (g:H_) (hl:g.length<=8) (hm:0<=m∧m<=40) (hf:fq m g) (hf2:∀ l∈g,l.length<=1000) (hok:∀ l∈g,aet l∧alL l):br prog Ue [.d (.lst (am b)),A_ a,A_ gain,.d (.lst (bD g))] =
  rK (pSc b g) (yZ b g a gain) (fun t n=>some (.tup [share (aD 1 (cS t)),A_ n,A_ 0])) (fun e=>some (.tup [.nl,A_ 0,A_ (e+1)])):=by
 have hmay:=ab8 gain m g hg hl hm fun l h=>⟨hf l h,hf2 l h⟩
 have hG:=il b a 0 hb ha;have e0:∀ a,bc b a 0=if 0<=a∧a<=b.length then .ok 0 a.toNat else .er 1:=by
  intro a;by_cases h:0<=a∧a<=b.length
  .rw[ac h,bc];simp[h,bin,val]
  .rw[aa h,bc];simp[h]
 rw[aJ ajv aim rfl,yZ];by_cases h1:0<=a∧a<=b.length
 .obtain⟨A,rfl⟩:=aB h1.1;rw[ac h1];rw[e0,ac h1,eI ⟨k_,o_⟩]at hG;have hL:=afu b hb g o_ g 0 6 [] A gain (-1) rfl hok o_ ⟨hg.1,o_⟩ ⟨o_,o_⟩ (ai _) (ai _);have c0:((0:Nat):Int)=0:=rfl;have n0:cS []=[]:=rfl;simp only[c0,n0,qB,hpL,aO]at hL;simp only[au]at hG
  cases hs:mW b g A gain (-1) with
  | ok t n =>
   have hp:=VZ o_ ⟨o_,o_⟩ ⟨o_,o_⟩ hs;obtain⟨M,A4,f⟩:=hL.1 t n hs;rw[eI hp];simp (maxSteps:=300000) (disch:=omega) [↓ac,↓aa,hmay,hG,f,-XQ,ar2,-bw,akt,afX,HC,DX]
  | er e =>
   obtain⟨M,I,K,T,f⟩:=hL.2 e hs;rw[iK];simp (maxSteps:=300000) (disch:=omega) [↓ac,↓aa,hmay,hG,f]
 .rw[aa h1,iK];rw[e0,aa h1,iK]at hG;simp (maxSteps:=300000) (disch:=omega) [↓ac,↓aa,hmay,hG]
abbrev HT (b:C_) (st:RS) (R:ak):ak:=(0,.cells [.d (.lst (am b))])::(2,.cells [A_ (ra st)])::(3,.cells [A_ (re st)])::R
def Et (b:C_) (s:Int) (st:RS) (R:ak) (N:Nat) (hb:b.length<=1000000000) (ha:st.fit):(Dn prog).call CQ [A_ s,.ptr 3 0,.ptr 0 0,.ptr 2 0] ⟨HT b st R,N⟩ =
  some (A_ (sV b st s),⟨HT b (sN b st s) R,N⟩):=by
 rw[ba Zo X4 rfl];obtain⟨a,e⟩:=st;have hf:i64 a:=ha;by_cases he:e=0
 .subst he;simp (maxSteps:=300000) (disch:=omega) [J3,ra,re,sV,sN]
 .simp (maxSteps:=300000) (disch:=omega) [ra,re,sV,sN,he]
def R4 (v sz:Nat):Int:=(v:Int)-((v / 2 ^ (sz-1)*2 ^ sz:Nat):Int)
def yf (b:C_) (sz:Nat):Nat->RS->G_
 | 0,_=>[]
 | k+1,st=>R4 (sV b st sz) sz::yf b sz k (sN b st sz)
def wH (b:C_) (sz:Nat):Nat->RS->RS
 | 0,st=>st
 | k+1,st=>wH b sz k (sN b st sz)
def abv {b:C_}{sz:Nat}(hb:b.length<=1000000000):∀ {k:Nat}{st:RS},st.fit->(wH b sz k st).fit
 | 0,_,h=>h
 | _+1,_,h=>by rw[wH];exact abv hb (fR hb h)
def aaU {b:C_}{sz:Nat}:∀ {k:Nat}{st:RS},(yf b sz k st).length=k
 | 0,_=>rfl
 | k+1,st=>by rw[yf,aq,aaU]
def aEa {q s:Nat}(hq:q<=1) (hs:s<=4):fo .shl (A_ (q:Int)) (A_ (s:Int))=some (.int .i64 ((q*2 ^ s:Nat):Int)):=by
 have h:∀ q:Nat,q<=1->∀ s:Nat,s<=4->fo .shl (A_ (q:Int)) (A_ (s:Int))=some (.int .i64 ((q*2 ^ s:Nat):Int)):=by
  intro q hq s hs;obtain rfl | rfl:q=0∨q=1:=o_
  all_goals
   obtain rfl | rfl | rfl | rfl | rfl:s=0∨s=1∨s=2∨s=3∨s=4:=o_
   all_goals rfl
 exact h q hq s hs
abbrev Q8:AV:=.fn CQ [] [.ptr 3 0,.ptr 0 0,.ptr 2 0]
def avj (b:C_) (hb:b.length<=1000000000) (SZ:Obj) (a0 a1 a2 a3 x6 x13:AV) (y12 y15 y32 y33 y46 y47:D) (nar:Int) (sz ord N M:Nat) (hsz:2<=sz∧sz<=4) (ho:ord<=100) (hN:5<=N):∀ (k j:Nat) (st:RS) (acc:G_),j+k=ord->acc.length=j->st.fit->
  (Dn prog).code (.loop tK) ⟨[(6,x6),(7,.ptr 2 0),(8,.ptr 3 0),(10,Q8),(11,.ptr 4 0),(12,.d y12),(13,x13),(15,.d y15),(16,.ptr N 0),(17,A_ nar),(18,A_ sz),(32,.d y32),(33,.d y33),(46,.d y46),(47,.d y47),(80,A_ ord),(81,A_ j)],⟨HT b st [(4,SZ),(N,.cells [a0,a1,a2,a3,aD 1 (aF acc)])],M⟩⟩ =
  some (.exit 4,⟨[(6,x6),(7,.ptr 2 0),(8,.ptr 3 0),(10,Q8),(11,.ptr 4 0),(12,.d y12),(13,x13),(15,.d y15),(16,.ptr N 0),(17,A_ nar),(18,A_ sz),(32,.d y32),(33,.d y33),(46,.d y46),(47,.d y47)],⟨HT b (wH b sz k st) [(4,SZ),(N,.cells [a0,a1,a2,a3,aD 1 (aF (acc++yf b sz k st))])],M⟩⟩):=by
 obtain⟨n0,n2,n3,n4⟩:N≠0∧N≠2∧N≠3∧N≠4:=o_;intro k
 induction k with
 | zero =>
  intro j st acc h1 h2 h3;rw[ah H5,yf,wH,bg];simp (maxSteps:=300000) (disch:=omega) [↓ac,↓aa]
 | succ k ih =>
  intro j st acc h1 h2 h3;have hg:=Et b sz st [(4,SZ),(N,.cells [a0,a1,a2,a3,aD 1 (aF acc)])] M hb h3;have hv:=vV (b:=b) (st:=st) (s:=sz);have h5:=ih (j+1) (sN b st sz) (acc++[R4 (sV b st sz) sz]) o_ g_ (fR hb h3);have c1:((j+1:Nat):Int)=(j:Int)+1:=rfl;have c2:((sz-1:Nat):Int)=(sz:Int)-1:=o_;have hla:=iB (l:=acc);simp only[au]at hv;have hp:2 ^ (sz-1)*2=2 ^ sz:=by rw[<-cZ];congr 1;omega
  have hp0:=bO (sz-1);have hq:sV b st sz / 2 ^ (sz-1)<=1:=by
   have:sV b st sz / 2 ^ (sz-1)<2:=(Nat.div_lt_iff_lt_mul hp0).2 o_;omega
  have hp4:2 ^ sz<=2 ^ 4:=aw o_ hsz.2;have w1:=alh (n:=sV b st sz) (k:=sz-1) o_;have w2:=aEa hq hsz.2;rw[c2]at w1;have hcf:R4 (sV b st sz) sz=(sV b st sz:Int)-((sV b st sz / 2 ^ (sz-1)*2 ^ sz:Nat):Int):=rfl;have hqq:sV b st sz / 2 ^ (sz-1)*2 ^ sz<=16:=by
   have:=qm hq hp4;omega
  rw[c1,aA,W7,nM]at h5;simp only[HT]at hg h5⊢;rw[ah H5,yf,wH,show acc++R4 (sV b st sz) sz::yf b sz k (sN b st sz)=acc++([R4 (sV b st sz) sz]++yf b sz k (sN b st sz)) from rfl,<-h5,hcf];clear h5 ih;generalize sV b st sz / 2 ^ (sz-1)*2 ^ sz=Q2 at *;generalize sV b st sz / 2 ^ (sz-1)=Q at *;simp (maxSteps:=300000) (disch:=omega) [↓ac,↓aa,n0,n2,n3,n4,hg,-lh,-rX,w1,w2]
def J5 (l:G_) (s:Nat):Bool:=decide (∀ c∈l,-((2 ^ (s-1):Nat):Int)<=c∧c<((2 ^ (s-1):Nat):Int))
def r5 (b:C_) (x1 x2:Nat) (st:RS):Nat:=sV b (sN b st x1) x2
def yR (b:C_) (x1 x2:Nat) (st:RS):RS:=sN b (sN b st x1) x2
def flD (b:C_) (x1 x2:Nat) (st:RS):Nat:=sV b (yR b x1 x2 st) 1
def GU (b:C_) (x1 x2:Nat) (st:RS):Nat:=sV b (sN b (yR b x1 x2 st) 1) 1
def Pg (b:C_) (x1 x2:Nat) (st:RS):RS:=sN b (sN b (yR b x1 x2 st) 1) 1
def I8 (b:C_) (x1 x2:Nat) (fine:Bool) (st:RS):Nat:=fB fine-GU b x1 x2 st
def Me (b:C_) (x1 x2:Nat) (fine:Bool) (st:RS):bT :=
 if r5 b x1 x2 st=0 then ⟨sV b st x1,0,false,fine,[]⟩
 else ⟨sV b st x1,r5 b x1 x2 st,decide (flD b x1 x2 st=1),fine,yf b (I8 b x1 x2 fine st) (r5 b x1 x2 st) (Pg b x1 x2 st)⟩
def JQ (b:C_) (x1 x2:Nat) (fine:Bool) (st:RS):Bool :=
 if r5 b x1 x2 st=0 then false else decide (GU b x1 x2 st=0) && J5 (yf b (I8 b x1 x2 fine st) (r5 b x1 x2 st) (Pg b x1 x2 st)) (I8 b x1 x2 fine st-1)
def yj (b:C_) (x1 x2:Nat) (fine:Bool) (st:RS):RS :=
 if r5 b x1 x2 st=0 then yR b x1 x2 st else wH b (I8 b x1 x2 fine st) (r5 b x1 x2 st) (Pg b x1 x2 st)
def jh (b:C_) (x1 x2:Nat) (fine:Bool):Nat->Bool->RS->Option (AA_×Bool×RS)
 | 0,o,st=>some ([],o,st)
 | k+1,o,st=>if 12<r5 b x1 x2 st∧(yR b x1 x2 st).e=0 then none
  else match jh b x1 x2 fine k (o || JQ b x1 x2 fine st) (yj b x1 x2 fine st) with
   | none=>none
   | some q=>some (Me b x1 x2 fine st::q.1,q.2)
def awr {b:C_}{x1 x2:Nat}{fine:Bool}{st:RS}(hb:b.length<=1000000000) (h:st.fit):(yj b x1 x2 fine st).fit:=by
 unfold yj;split
 .exact fR hb (fR hb h)
 .exact abv hb (fR hb (fR hb (fR hb (fR hb h))))
def ax9 {b:C_}{st:RS}{s:Int}(h:sV b st s≠0):(sN b st s).e=0:=by
 unfold sV at h
 grind [sN,vO,eO]
abbrev Un (y0 y3 y4:AV) (x1 x2:Nat):Obj:=.cells [y0,A_ x1,A_ x2,y3,y4]
def acQ {t:AA_}{f:bT}:ej (t++[f])=ej t++[[.int .i64 f.len,.int .i64 f.order,.bool f.down,.bool f.fine,.lst (aF f.coefs)]]:=by grind [ej]
def awj (b:C_) (hb:b.length<=1000000000) (y0 y3 y4:AV) (x1 x2:Nat) (hx:x1<=6∧x2<=5) (x6:AV) (fine:Bool) (y32 y33:D) (many:Nat) (hm:many<=3):∀ (k j N:Nat) (o:Bool) (st:RS) (acc:AA_),j+k=many->acc.length=j->st.fit->5<=N->
  ∃ M,N<=M∧(Dn prog).code (.loop ij) ⟨[(6,x6),(7,.ptr 2 0),(8,.ptr 3 0),(10,Q8),(11,.ptr 4 0),(12,B_ o),(13,aD 5 (ej acc)),(15,B_ fine),(32,.d y32),(33,.d y33),(46,A_ many),(47,A_ j)],⟨HT b st [(4,Un y0 y3 y4 x1 x2)],N⟩⟩ =
  match jh b x1 x2 fine k o st with
  | none=>some (.ret,⟨[(6,.nl),(7,.ptr 2 0),(8,.ptr 3 0)],⟨[(0,.cells [.d (.lst (am b))]),(2,.cells [A_ 0]),(3,.cells [A_ 8])],M⟩⟩)
  | some (l,o2,st2)=>some (.exit 2,⟨[(6,x6),(7,.ptr 2 0),(8,.ptr 3 0),(10,Q8),(11,.ptr 4 0),(12,B_ o2),(13,aD 5 (ej (acc++l))),(32,.d y32),(33,.d y33)],⟨HT b st2 [(4,Un y0 y3 y4 x1 x2)],M⟩⟩):=by
 intro k
 induction k with
 | zero =>
  intro j N o st acc h1 h2 h3 hN;refine⟨N,ai _,?_⟩;rw[ah uc,jh];simp only[bg];simp (disch:=omega) [↓aa]
 | succ k ih =>
  intro j N o st acc h1 h2 h3 hN;obtain⟨n0,n2,n3,n4⟩:N≠0∧N≠2∧N≠3∧N≠4:=o_;have f1:=fR (s:=x1) hb h3;have f2:=fR (s:=x2) hb f1;have f3:=fR (s:=1) hb f2;have f4:=fR (s:=1) hb f3;have g1:=fun R N=>Et b x1 st R N hb h3
  have g2:=fun R N=>Et b x2 (sN b st x1) R N hb f1
  have g3:=fun R N=>Et b 1 (sN b (sN b st x1) x2) R N hb f2
  have g4:=fun R N=>Et b 1 (sN b (sN b (sN b st x1) x2) 1) R N hb f3
  have v1:=vV (b:=b) (st:=st) (s:=x1);have v2:=vV (b:=b) (st:=sN b st x1) (s:=x2);have v3:=vV (b:=b) (st:=sN b (sN b st x1) x2) (s:=1);have v4:=vV (b:=b) (st:=sN b (sN b (sN b st x1) x2) 1) (s:=1);have k1:2 ^ x1<=2 ^ 6:=aw o_ hx.1;have k2:2 ^ x2<=2 ^ 5:=aw o_ hx.2;have t1:(1:Int).toNat=1:=rfl;simp only[au,t1]at v1 v2 v3 v4;have hO:r5 b x1 x2 st=sV b (sN b st x1) x2:=rfl;have hS:yR b x1 x2 st=sN b (sN b st x1) x2:=rfl;have c1:((j+1:Nat):Int)=(j:Int)+1:=rfl;have hla:=arn (l:=acc);rw[jh,hO,hS];simp only[HT]at g1 g2 g3 g4;by_cases hbad:12<sV b (sN b st x1) x2∧(sN b (sN b st x1) x2).e=0
  .rw[ac hbad];obtain⟨hb1,hb2⟩:=hbad;have hre:re (sN b (sN b st x1) x2)=0:=hb2;refine⟨N+1,o_,?_⟩;simp only[HT];rw[ah uc];simp (disch:=omega) [↓ac,↓aa,g1,g2,hre]
  .rw[aa hbad];by_cases hO0:sV b (sN b st x1) x2=0
   .have eF:Me b x1 x2 fine st=⟨sV b st x1,0,false,fine,[]⟩:=by grind [Me]
    have eX:JQ b x1 x2 fine st=false:=by grind [JQ]
    have eN:yj b x1 x2 fine st=sN b (sN b st x1) x2:=by grind [yj]
    rw[eF,eX,eN,rl];obtain⟨M,hM,h5⟩:=ih (j+1) (N+1) o (sN b (sN b st x1) x2) (acc++[⟨sV b st x1,0,false,fine,[]⟩]) o_ u_ f2 o_;refine⟨M,o_,?_⟩;have key:(Dn prog).code (.loop ij) ⟨[(6,x6),(7,.ptr 2 0),(8,.ptr 3 0),(10,Q8),(11,.ptr 4 0),(12,B_ o),(13,aD 5 (ej acc)),(15,B_ fine),(32,.d y32),(33,.d y33),(46,A_ many),(47,A_ j)],⟨HT b st [(4,Un y0 y3 y4 x1 x2)],N⟩⟩ =
      (Dn prog).code (.loop ij) ⟨[(6,x6),(7,.ptr 2 0),(8,.ptr 3 0),(10,Q8),(11,.ptr 4 0),(12,B_ o),(13,aD 5 (ej (acc++[⟨sV b st x1,0,false,fine,[]⟩]))),(15,B_ fine),(32,.d y32),(33,.d y33),(46,A_ many),(47,A_ ((j+1:Nat):Int))],⟨HT b (sN b (sN b st x1) x2) [(4,Un y0 y3 y4 x1 x2)],N+1⟩⟩:=by
     have n00:aF []=[]:=rfl;simp only[HT,c1,acQ,nM,n00];clear h5 ih;rw[ah uc];simp (disch:=omega) [↓ac,↓aa,g1,g2,hO0]
    grind
   .have he:(sN b (sN b st x1) x2).e=0:=ax9 hO0;have hO12:sV b (sN b st x1) x2<=12:=by
     omega
    have hre:re (sN b (sN b st x1) x2)=0:=he;have hw4:3<=fB fine∧fB fine<=4:=by grind [fB]
    have hwide:br prog D8 [B_ fine]=some (A_ ((fB fine:Nat):Int)):=by grind [Iw,fB]
    obtain⟨W,hW⟩:∃ W,W=sV b (sN b (sN b (sN b st x1) x2) 1) 1:=⟨_,rfl⟩
    obtain⟨Dd,hDd⟩:∃ Dd,Dd=sV b (sN b (sN b st x1) x2) 1:=⟨_,rfl⟩
    obtain⟨T4,hT4⟩:∃ T4,T4=sN b (sN b (sN b (sN b st x1) x2) 1) 1:=⟨_,rfl⟩
    obtain⟨sz,hsz⟩:∃ sz,sz=fB fine-W:=⟨_,rfl⟩
    rw[<-hW]at v4 g4;rw[<-hDd]at v3 g3;rw[<-hT4]at g4 f4;have c00:((0:Nat):Int)=0:=rfl;simp only[hre,c00]at g3;have hszI:((fB fine:Nat):Int)-(W:Int)=(sz:Int):=o_;have hsz1:(sz:Int)-1=((sz-1:Nat):Int):=o_;have hne:r5 b x1 x2 st≠0:=o_;have eF:Me b x1 x2 fine st=⟨sV b st x1,sV b (sN b st x1) x2,decide (Dd=1),fine,yf b sz (sV b (sN b st x1) x2) T4⟩:=by
     grind [Me,I8,GU,Pg,flD]
    have eX:JQ b x1 x2 fine st=(decide (W=0) && J5 (yf b sz (sV b (sN b st x1) x2) T4) (sz-1)):=by
     grind [JQ,I8,GU,Pg]
    have eN:yj b x1 x2 fine st=wH b sz (sV b (sN b st x1) x2) T4:=by
     grind [yj,I8,GU,Pg]
    have f5:(wH b sz (sV b (sN b st x1) x2) T4).fit:=abv hb f4;have hcl:=aaU (b:=b) (sz:=sz) (k:=sV b (sN b st x1) x2) (st:=T4);have hL0:=fun a0 a2 y46 y47 N M hN=>avj b hb (Un y0 y3 y4 x1 x2) a0 (A_ (sV b (sN b st x1) x2)) a2 (B_ fine) x6 (aD 5 (ej acc)) (.bool o) (.bool fine) y32 y33 y46 y47 W sz (sV b (sN b st x1) x2) N M o_ o_ hN (sV b (sN b st x1) x2) 0 T4 [] o_ rfl f4
    have n00:aF []=[]:=rfl;have c0:((0:Nat):Int)=0:=rfl;simp only[n00,qB,aO,c0,HT]at hL0;have hDec:decide ((Dd:Int)=1)=decide (Dd=1):=d_;rw[eF,eX,eN];generalize sV b (sN b st x1) x2=O at *;obtain⟨CS,hCS⟩:∃ CS,CS=yf b sz O T4:=⟨_,rfl⟩
    rw[<-hCS]at hL0 hcl;rw[<-hCS];obtain⟨M,hM,h5⟩:=ih (j+1) (N+1) (o || (decide (W=0) && J5 CS (sz-1))) (wH b sz O T4) (acc++[⟨sV b st x1,O,decide (Dd=1),fine,CS⟩]) o_ u_ f5 o_;refine⟨M,o_,?_⟩;have hshare:share (aD 1 (aF CS))=.d (.lst (aF CS)):=by
     cases CS with
     | nil=>grind
     | cons x r=>rfl
    have key:(Dn prog).code (.loop ij) ⟨[(6,x6),(7,.ptr 2 0),(8,.ptr 3 0),(10,Q8),(11,.ptr 4 0),(12,B_ o),(13,aD 5 (ej acc)),(15,B_ fine),(32,.d y32),(33,.d y33),(46,A_ many),(47,A_ j)],⟨HT b st [(4,Un y0 y3 y4 x1 x2)],N⟩⟩ =
      (Dn prog).code (.loop ij) ⟨[(6,x6),(7,.ptr 2 0),(8,.ptr 3 0),(10,Q8),(11,.ptr 4 0),(12,B_ ((o || (decide (W=0) && J5 CS (sz-1))))),(13,aD 5 (ej (acc++[⟨sV b st x1,O,decide (Dd=1),fine,CS⟩]))),(15,B_ fine),(32,.d y32),(33,.d y33),(46,A_ many),(47,A_ ((j+1:Nat):Int))],⟨HT b (wH b sz O T4) [(4,Un y0 y3 y4 x1 x2)],N+1⟩⟩:=by
     simp only[HT,c1,acQ,nM];clear h5 ih;have hfit:=La CS o_ (sz-1) o_;have hfit2:br prog GA [.d (.lst (aF CS)),A_ ((sz-1:Nat):Int)]=some (B_ (J5 CS (sz-1))):=hfit;rw[ah uc];obtain⟨B1,hB1⟩:∃ B1,B1=decide (Dd=1):=⟨_,rfl⟩
     rw[<-hB1]
     cases o with
     | true =>
      by_cases hD1:Dd=1
      .rw[hB1,decide_eq_true hD1];simp (disch:=omega) [↓ac,↓aa,g1,g2,g3,g4,hre,hwide,hszI,hL0]
      .rw[hB1,decide_eq_false hD1];simp (disch:=omega) [↓ac,↓aa,g1,g2,g3,g4,hre,hwide,hszI,hL0]
     | false =>
      by_cases hW0:W=0
      .rw[decide_eq_true hW0];by_cases hD1:Dd=1
       .rw[hB1,decide_eq_true hD1];simp (disch:=omega) [↓ac,↓aa,g1,g2,g3,g4,hre,hwide,hszI,hL0,hshare,hsz1,hfit2]
       .rw[hB1,decide_eq_false hD1];simp (disch:=omega) [↓ac,↓aa,g1,g2,g3,g4,hre,hwide,hszI,hL0,hshare,hsz1,hfit2]
      .rw[decide_eq_false hW0];by_cases hD1:Dd=1
       .rw[hB1,decide_eq_true hD1];simp (disch:=omega) [↓ac,↓aa,g1,g2,g3,g4,hre,hwide,hszI,hL0]
       .rw[hB1,decide_eq_false hD1];simp (disch:=omega) [↓ac,↓aa,g1,g2,g3,g4,hre,hwide,hszI,hL0]
    grind
abbrev np:=@Bool.true_and
def Sn (b:C_) (x0:Nat) (st:RS):Bool:=decide (0<sV b st x0) && decide (sV b (sN b st x0) 1=1)
def Dh (b:C_) (x0:Nat) (st:RS):RS:=if 0<sV b st x0 then sN b (sN b st x0) 1 else sN b st x0
def py (b:C_) (x0 x1 x2:Nat):Nat->Bool->RS->Option (N_×Bool×RS)
 | 0,o,st=>some ([],o,st)
 | k+1,o,st=>match jh b x1 x2 (Sn b x0 st) (sV b st x0) o (Dh b x0 st) with
  | none=>none
  | some q=>match py b x0 x1 x2 k q.2.1 q.2.2 with
   | none=>none
   | some w=>some (q.1::w.1,w.2)
def ams {t:N_}{l:AA_}:cK (t++[l])=cK t++[[.lst (ej l)]]:=by simp[cK]
def aj6 {b:C_}{x0:Nat}{st:RS}(hb:b.length<=1000000000) (h:st.fit):(Dh b x0 st).fit:=by
 unfold Dh;split
 .exact fR hb (fR hb h)
 .exact fR hb h
def Vk {b:C_}{x1 x2:Nat}{fine:Bool}(hb:b.length<=1000000000):∀ {k:Nat}{o:Bool}{st:RS}{l:AA_}{o2:Bool}{st2:RS},st.fit->jh b x1 x2 fine k o st=some (l,o2,st2)->st2.fit∧l.length=k
 | 0,o,st,l,o2,st2,h,e=>by
  rw[jh]at e;injection e with e
  injection e with e1 e
  injection e with e2 e3
  subst e1 e3;exact⟨h,rfl⟩
 | k+1,o,st,l,o2,st2,h,e=>by
  rw[jh]at e;split at e
  .exact absurd e (by simp)
  .cases hq:jh b x1 x2 fine k (o || JQ b x1 x2 fine st) (yj b x1 x2 fine st) with
   | none=>rw[hq]at e;exact absurd e (by simp)
   | some q =>
    obtain⟨q1,q2,q3⟩:=q;rw[hq]at e;injection e with e;injection e with e1 e
    injection e with e2 e3
    obtain⟨i1,i2⟩:=Vk hb (awr hb h) hq;subst e1 e3;exact⟨i1,by simp[i2]⟩
def auV (b:C_) (hb:b.length<=1000000000) (y3 y4:AV) (x0 x1 x2:Nat) (hx:x0<=2∧x1<=6∧x2<=5) (many:Nat) (hm:many<=8):∀ (k j N:Nat) (o:Bool) (st:RS) (acc:N_),j+k=many->acc.length=j->st.fit->5<=N->
  ∃ M,N<=M∧(Dn prog).code (.loop lI) ⟨[(6,aD 1 (cK acc)),(7,.ptr 2 0),(8,.ptr 3 0),(10,Q8),(11,.ptr 4 0),(12,B_ o),(32,A_ many),(33,A_ j)],⟨HT b st [(4,Un (A_ x0) y3 y4 x1 x2)],N⟩⟩ =
  match py b x0 x1 x2 k o st with
  | none=>some (.ret,⟨[(6,.nl),(7,.ptr 2 0),(8,.ptr 3 0)],⟨[(0,.cells [.d (.lst (am b))]),(2,.cells [A_ 0]),(3,.cells [A_ 8])],M⟩⟩)
  | some (t,o2,st2)=>some (.exit 0,⟨[(6,aD 1 (cK (acc++t))),(7,.ptr 2 0),(8,.ptr 3 0),(12,B_ o2)],⟨HT b st2 [],M⟩⟩):=by
 intro k
 induction k with
 | zero =>
  intro j N o st acc h1 h2 h3 hN;refine⟨N,ai _,?_⟩;rw[ah Aq,py];simp only[bg];simp (maxSteps:=300000) (disch:=omega) [↓ac,↓aa]
 | succ k ih =>
  intro j N o st acc h1 h2 h3 hN;have f1:=fR (s:=x0) hb h3;have g1:=fun R N=>Et b x0 st R N hb h3
  have g2:=fun R N=>Et b 1 (sN b st x0) R N hb f1
  have v1:=vV (b:=b) (st:=st) (s:=x0);have v2:=vV (b:=b) (st:=sN b st x0) (s:=1);have k1:2 ^ x0<=2 ^ 2:=aw o_ hx.1;have t1:(1:Int).toNat=1:=rfl;simp only[au,t1]at v1 v2;have c1:((j+1:Nat):Int)=(j:Int)+1:=rfl;have c0:((0:Nat):Int)=0:=rfl;have n00:ej []=[]:=rfl;have hla:=acN (t:=acc);have hfs:=aj6 (x0:=x0) hb h3;obtain⟨M1,hM1,hL1⟩:=awj b hb (A_ x0) y3 y4 x1 x2 hx.2 (aD 1 (cK acc)) (Sn b x0 st) (.int .i64 many) (.int .i64 j) (sV b st x0) o_ (sV b st x0) 0 N o (Dh b x0 st) [] o_ rfl hfs hN;have hF:Sn b x0 st=(decide (0<sV b st x0) && decide (sV b (sN b st x0) 1=1)):=rfl;have hS:Dh b x0 st=if 0<sV b st x0 then sN b (sN b st x0) 1 else sN b st x0:=rfl
  rw[py];simp only[HT,c0,n00,qB,aO]at g1 g2 hL1
  cases hfl:jh b x1 x2 (Sn b x0 st) (sV b st x0) o (Dh b x0 st) with
  | none =>
   rw[hfl]at hL1;refine⟨M1,hM1,?_⟩;simp only[HT];rw[ah Aq];rw[hF,hS]at hL1;by_cases hp:0<sV b st x0
   .rw[ac hp,decide_eq_true hp,np]at hL1;by_cases hd:sV b (sN b st x0) 1=1
    .rw[decide_eq_true hd]at hL1;simp (maxSteps:=300000) (disch:=omega) [↓ac,↓aa,g1,g2,hL1]
    .rw[decide_eq_false hd]at hL1;simp (maxSteps:=300000) (disch:=omega) [↓ac,↓aa,g1,g2,hL1]
   .have h0:sV b st x0=0:=o_;rw[aa hp,decide_eq_false hp,Bool.false_and,h0,c0]at hL1;simp (maxSteps:=300000) (disch:=omega) [↓ac,↓aa,g1,g2,h0,hL1]
  | some q =>
   obtain⟨l,o2,st2⟩:=q;rw[hfl]at hL1;obtain⟨i1,i2⟩:=Vk hb hfs hfl;obtain⟨M,hM,h5⟩:=ih (j+1) M1 o2 st2 (acc++[l]) o_ g_ i1 o_;refine⟨M,o_,?_⟩;have key:(Dn prog).code (.loop lI) ⟨[(6,aD 1 (cK acc)),(7,.ptr 2 0),(8,.ptr 3 0),(10,Q8),(11,.ptr 4 0),(12,B_ o),(32,A_ many),(33,A_ j)],⟨HT b st [(4,Un (A_ x0) y3 y4 x1 x2)],N⟩⟩ =
     (Dn prog).code (.loop lI) ⟨[(6,aD 1 (cK (acc++[l]))),(7,.ptr 2 0),(8,.ptr 3 0),(10,Q8),(11,.ptr 4 0),(12,B_ o2),(32,A_ many),(33,A_ ((j+1:Nat):Int))],⟨HT b st2 [(4,Un (A_ x0) y3 y4 x1 x2)],M1⟩⟩:=by
    simp only[HT,c1,ams,nM];clear h5 ih;rw[hF,hS]at hL1;rw[ah Aq];by_cases hp:0<sV b st x0
    .rw[ac hp,decide_eq_true hp,np]at hL1;by_cases hd:sV b (sN b st x0) 1=1
     .rw[decide_eq_true hd]at hL1;simp (maxSteps:=300000) (disch:=omega) [↓ac,↓aa,g1,g2,hL1]
     .rw[decide_eq_false hd]at hL1;simp (maxSteps:=300000) (disch:=omega) [↓ac,↓aa,g1,g2,hL1]
    .have h0:sV b st x0=0:=o_;rw[aa hp,decide_eq_false hp,Bool.false_and,h0,c0]at hL1;simp (maxSteps:=300000) (disch:=omega) [↓ac,↓aa,g1,g2,h0,hL1]
   rw[key,h5];simp only
   cases py b x0 x1 x2 k o2 st2 with
   | none=>rfl
   | some w =>
    obtain⟨t,o3,st3⟩:=w;simp only[aA,aQ,aO]
attribute [simp ↓ high] arE awq
def roC:AV->Bool
 | .d _=>true
 | .nl=>true
 | .own _ _ _=>true
 | _=>false
@[simp] def aGT {x:D}:roC (.d x)=true:=rfl
abbrev cY:=@List.eq_of_mem_replicate
def aga:∀ (b:C_),uR (am b)=some (b.map Nat.toUInt8)
 | []=>rfl
 | n::r=>by
  have h:am (n::r)=[.int .u8 (.ofNat n)]::am r:=rfl;rw[h,uR,aga r,bZ]
@[simp] def amv {h:ak}{b:C_}:Mf h (.d (.lst (am b)))=some (.str (b.map Nat.toUInt8)):=by
 simp only[Mf,aok,aga]
def c0:cu:=⟨0,⟨0,0,0,[1]⟩,[[]],[[]],[[]],List.replicate 256 0⟩
def aoh:c0.Fit where
 gain:=k_
 info:=⟨k_,k_,k_,k_,by intro n hn;simp[c0]at hn;subst hn;decide⟩
 sects:=⟨by simp[c0],by simp[c0]⟩
 secI:=by simp[c0]
 steps:=⟨by simp[c0],by simp[c0]⟩
 stepI:=by simp[c0]
 tns:=⟨by simp[c0],by simp[c0]⟩
 fltI:=by simp[c0]
 lines:=by simp[c0]
 lineI:=by
  intro n hn;have:=cY hn;omega
def afZ:br prog jo [A_ 0,.agg c0.av]=some (A_ 0):=DV 400 (by kernel_rfl)
def ahf {r:Nat}{c:cu}(hc:c.Fit) (h:mR r c) (hR:r<=11) (q:Bool):(Cu r c q).length<=170000000:=by
 have hm11:=gh hR h.info;have hmx:=jK hm11;obtain⟨g1,g2⟩:=dG hm11;have hmm:c.info.many<=8:=by unfold aL.many;split<;>omega
 have hgl:c.info.groups.length<=8:=by have:=mE (fun n hn=>(g1 n hn).1);omega
 have hgs:c.sects.length<=8:=by have:=h.sects.1;omega
 have k1:=J6 (i:=c.info);have k2:=acq hm11 h.sects;have k3:=Q9 hmx h.sects.2 h.steps;have k4:(jl c.info.short c.tns).length<=1000*c.tns.length:=I6 fun l hl=>aa5 (h.tns.2 l hl)
 have k5:=XY hc h hR;have htl:=h.tns.1;have e1:(if q then [] else kX c.info).length<=20:=by split<;>(try simp only[bu])<;>omega
 have e2:(if oB c.tns then 0::1::(jl c.info.short c.tns++[0]) else [0,0,0]).length<=10000:=by split<;>simp<;>omega
 unfold Cu;simp only[al,dL];omega
abbrev cu.cells (c:cu):W_:=[.int .i64 c.gain,.int .u8 c.info.seq,.int .u8 c.info.shape,.int .i64 c.info.max,.lst (aF c.info.groups),.lst (bD c.sects),.lst (cS c.steps),.lst (cK c.tns),.lst (aF c.lines)]
def dt (l:AG_):E_:=l.map cu.cells
@[simp] def Dt {l:AG_}:(dt l).length=l.length:=by simp[dt]
def Ad {g:AG_}{i:Nat}{c:cu}{r:AG_}(h:g.drop i=c::r):(dt g)[i]?=some [.int .i64 c.gain,.int .u8 c.info.seq,.int .u8 c.info.shape,.int .i64 c.info.max,.lst (aF c.info.groups),.lst (bD c.sects),.lst (cS c.steps),.lst (cK c.tns),.lst (aF c.lines)]:=by
 have:=bl (fun l=>l[0]?) h;simp only[b6,dY,b7]at this;rw[dt,bU,this];rfl
def apo {g:AG_}{c:cu}:dt (g++[c])=dt g++[[.int .i64 c.gain,.int .u8 c.info.seq,.int .u8 c.info.shape,.int .i64 c.info.max,.lst (aF c.info.groups),.lst (bD c.sects),.lst (cS c.steps),.lst (cK c.tns),.lst (aF c.lines)]]:=by simp[dt]
def gE (l:U_):E_:=l.map fun b=>[.bool b]
@[simp] def sQ {l:U_}:(gE l).length=l.length:=by simp[gE]
def akF {g:U_}{i:Nat}{c:Bool}{r:U_}(h:g.drop i=c::r):(gE g)[i]?=some [.bool c]:=by
 have:=bl (fun l=>l[0]?) h;simp only[b6,dY,b7]at this;rw[gE,bU,this];rfl
@[simp] def aE6 {l:U_}:fT 1 (gE l)=true:=S2
def avJ {a b:U_}:gE (a++b)=gE a++gE b:=by simp[gE]
def dr (t:S_):E_:=t.map fun l=>[.lst (gE l)]
@[simp] def Ig {t:S_}:(dr t).length=t.length:=by simp[dr]
def xc {g:S_}{i:Nat}{l:U_}{r:S_}(h:g.drop i=l::r):(dr g)[i]?=some [.lst (gE l)]:=by
 have:=bl (fun l=>l[0]?) h;simp only[b6,dY,b7]at this;rw[dr,bU,this];rfl
def ap1 {t:S_}{l:U_}:dr (t++[l])=dr t++[[.lst (gE l)]]:=by simp[dr]
structure fA where
 chans:AG_
 common:Bool
 mask:Int
 bands:S_
 fill:C_
structure fA.Fit (f:fA):Prop where
 chans:f.chans.length<=1000∧∀ c∈f.chans,c.Fit
 mask:i64 f.mask
 bands:f.bands.length<=1000∧∀ l∈f.bands,l.length<=1000
 fill:f.fill.length<=100000
 fillI:∀ n∈f.fill,n<=255
abbrev fA.av (f:fA):D_:=[.d (.lst (dt f.chans)),B_ f.common,A_ f.mask,.d (.lst (dr f.bands)),.d (.lst (am f.fill))]
structure agF (f:fA):Prop where
 chans:f.chans.length<=10∧∀ c∈f.chans,aeu c
 bands:f.bands.length<=40∧∀ l∈f.bands,l.length<=200
 fill:f.fill.length<=2000
def alN (f:fA):∀ (r:AG_) (i:Nat),f.chans.drop i=r->i<=10->
  ((i+r.length<=10->∀ c∈r,aeu c)∧(Dn prog).code (.loop ip) ⟨[(1,.ptr 0 0),(3,A_ i)],⟨[(0,.cells f.av)],1⟩⟩=some (.exit 0,⟨[(1,.ptr 0 0)],⟨[(0,.cells f.av)],1⟩⟩))∨
  (Dn prog).code (.loop ip) ⟨[(1,.ptr 0 0),(3,A_ i)],⟨[(0,.cells f.av)],1⟩⟩=some (.ret,⟨[(2,B_ true)],⟨[],1⟩⟩):=by
 intro r
 induction r with
 | nil =>
  intro i hd h10;have hi:=bb hd;refine .inl ⟨s_,?_⟩;rw[ah iu];simp (maxSteps:=300000) (disch:=omega) [↓aa]
 | cons c r ih =>
  intro i hd h10;have hg:=Ad hd;have hlt:=bv hd;by_cases hi:i<10
  .have ih1:=ih (i+1) (bn hd) o_;rw[show ((i+1:Nat):Int)=(i:Int)+1 from rfl]at ih1;rcases aAG c with ⟨hs,hG⟩ | hG
   .simp only[cu.av]at hG;rcases ih1 with ⟨ha,e⟩ | e
    .refine .inl ⟨fun h q hq=>?_,?_⟩
     .rcases az.1 hq with rfl | hq
      .exact hs
      .exact ha (by simp only[aq]at h;omega) q hq
     .rw[ah iu];simp (maxSteps:=300000) (disch:=omega) [↓ac,↓aa,hg,hG,e]
    .refine .inr ?_;rw[ah iu];simp (maxSteps:=300000) (disch:=omega) [↓ac,↓aa,hg,hG,e]
   .simp only[cu.av]at hG;refine .inr ?_;rw[ah iu];simp (maxSteps:=300000) (disch:=omega) [↓ac,↓aa,hg,hG]
  .refine .inl ⟨fun h=>by simp only[aq]at h;omega,?_⟩;rw[ah iu];simp (maxSteps:=300000) (disch:=omega) [↓ac,↓aa]
def anp (f:fA):∀ (r:S_) (i:Nat),f.bands.drop i=r->i<=40->
  ((i+r.length<=40->∀ l∈r,l.length<=200)∧(Dn prog).code (.loop ig) ⟨[(1,.ptr 0 0),(4,A_ i)],⟨[(0,.cells f.av)],1⟩⟩=some (.exit 2,⟨[(1,.ptr 0 0)],⟨[(0,.cells f.av)],1⟩⟩))∨
  (Dn prog).code (.loop ig) ⟨[(1,.ptr 0 0),(4,A_ i)],⟨[(0,.cells f.av)],1⟩⟩=some (.ret,⟨[(2,B_ true)],⟨[],1⟩⟩):=by
 intro r
 induction r with
 | nil =>
  intro i hd h10;have hi:=bb hd;refine .inl ⟨s_,?_⟩;rw[ah gZ];simp (maxSteps:=300000) (disch:=omega) [↓aa]
 | cons l r ih =>
  intro i hd h10;have hg:=xc hd;have hlt:=bv hd;by_cases hi:i<40
  .have ih1:=ih (i+1) (bn hd) o_;rw[show ((i+1:Nat):Int)=(i:Int)+1 from rfl]at ih1;by_cases hn:l.length<=200
   .rcases ih1 with ⟨ha,e⟩ | e
    .refine .inl ⟨fun h q hq=>?_,?_⟩
     .rcases az.1 hq with rfl | hq
      .exact hn
      .exact ha (by simp only[aq]at h;omega) q hq
     .rw[ah gZ];simp (maxSteps:=300000) (disch:=omega) [↓ac,↓aa,hg,e]
    .refine .inr ?_;rw[ah gZ];simp (maxSteps:=300000) (disch:=omega) [↓ac,↓aa,hg,e]
   .refine .inr ?_;rw[ah gZ];simp (maxSteps:=300000) (disch:=omega) [↓ac,↓aa,hg]
  .refine .inl ⟨fun h=>by simp only[aq]at h;omega,?_⟩;rw[ah gZ];simp (maxSteps:=300000) (disch:=omega) [↓ac,↓aa]
def awM (f:fA):(agF f∧br prog rJ [.agg f.av]=some (B_ false))∨br prog rJ [.agg f.av]=some (B_ true):=by
 have h0:=alN f f.chans 0 rfl o_;have h1:=anp f f.bands 0 rfl o_;have c0:((0:Nat):Int)=0:=rfl;rw[c0]at h0 h1;simp only[fA.av,bz]at h0 h1⊢;rw[aJ L8 Mr rfl];rcases h0 with ⟨a0,e0⟩ | e0
 .rcases h1 with ⟨a1,e1⟩ | e1
  .by_cases hc:f.chans.length<=10
   .by_cases hb:f.bands.length<=40
    .by_cases hx:f.fill.length<=2000
     .refine .inl ⟨⟨⟨hc,a0 hc⟩,⟨hb,a1 hb⟩,hx⟩,?_⟩;simp (maxSteps:=300000) (disch:=omega) [↓ac,↓aa,e0,e1]
     .refine .inr ?_;simp (maxSteps:=300000) (disch:=omega) [↓ac,↓aa,e0,e1]
    .refine .inr ?_;simp (maxSteps:=300000) (disch:=omega) [↓ac,↓aa,e0,e1]
   .refine .inr ?_;simp (maxSteps:=300000) (disch:=omega) [↓ac,↓aa,e0,e1]
  .refine .inr ?_;simp (maxSteps:=300000) (disch:=omega) [↓ac,↓aa,e0,e1]
 .refine .inr ?_;simp (maxSteps:=300000) (disch:=omega) [↓ac,↓aa,e0]
def zP (i j:aL):Prop:=(i.seq=j.seq∧i.shape=j.shape)∧i.max=j.max∧i.groups=j.groups
instance {i j:aL}:Decidable (zP i j):=inferInstanceAs (Decidable (_∧_))
def aod (i j:aL) (hi:i.Fit) (hj:j.Fit):br prog Uy [.agg i.cells,.agg j.cells]=some (B_ (decide (zP i j))):=by
 have he:=QQ i.groups j.groups (by have:=hi.len;omega) (by have:=hj.len;omega);simp only[aL.cells];rw[aJ ajC ah2 rfl];by_cases h1:i.seq=j.seq
 .by_cases h2:i.shape=j.shape
  .by_cases h3:i.max=j.max
   .by_cases h4:i.groups=j.groups
    .rw[ac h4]at he;rw[decide_eq_true (show zP i j from ⟨⟨h1,h2⟩,h3,h4⟩)];simp (maxSteps:=300000) (disch:=omega) [↓ac,↓aa,he]
    .rw[aa h4]at he;rw[decide_eq_false (fun h:zP i j=>h4 h.2.2)];simp (maxSteps:=300000) (disch:=omega) [↓ac,↓aa,he]
   .rw[decide_eq_false (fun h:zP i j=>h3 h.2.1)];simp (maxSteps:=300000) (disch:=omega) [↓ac,↓aa]
  .rw[decide_eq_false (fun h:zP i j=>h2 h.1.2)];simp (maxSteps:=300000) (disch:=omega) [↓ac,↓aa]
 .rw[decide_eq_false (fun h:zP i j=>h1 h.1.1)];simp (maxSteps:=300000) (disch:=omega) [↓ac,↓aa]
def K3 (rt:Int) (c:cu):Bool:=match br prog jo [A_ rt,.agg c.av] with
 | some (.d (.int _ n))=>n != 0
 | _=>true
def V8 (rt:Int) (hr:dV rt) (c:cu) (hc:c.Fit):∃ n:Int,br prog jo [A_ rt,.agg c.av]=some (A_ n)∧K3 rt c=(n != 0)∧(K3 rt c=false↔mR rt.toNat c):=by
 rcases OB rt c hc with ⟨_,h,hC⟩ | ⟨_,h,hC⟩ | ⟨h,_⟩
 .refine⟨0,hC,by rw[K3,hC],?_⟩;rw[K3,hC];simp[h]
 .refine⟨8,hC,by rw[K3,hC],?_⟩;rw[K3,hC];simp[h]
 .exact absurd hr h
def awf (rt:Int) (hr:dV rt) (a1 a2 a3:AV) (c:cu) (hc:c.Fit) (H:ak) (M:Nat) (hp:get H 0=some (.cells [A_ rt,a1,a2,a3])) (hM:Lt H M) :
  (Dn prog).call Gn [.agg c.av,.ptr 0 0] ⟨H,M⟩=some (B_ (K3 rt c),⟨H,M+1⟩):=by
 have e1:=fun o=>uU (o:=o) hM
 have e2:=fun o=>xi (o:=o) hM
 have e3:=fun o=>AB (N:=M) (o:=o) hp
 have e5:=fun o=>LO (o:=o) hM
 have e6:=fun o o'=>HG (o:=o) (o':=o') hM
 obtain⟨n,hC,hB,_⟩:=V8 rt hr c hc;rw[hB];simp only[cu.av]at hC⊢;rw[ba ac4 adP rfl];by_cases hn:n=0
 .subst hn;simp (maxSteps:=300000) (disch:=omega) [↓ac,↓aa,e1,e2,e3,e5,e6,hC]
 .simp (maxSteps:=300000) (disch:=omega) [↓ac,↓aa,e1,e2,e3,e5,e6,hC,hn]
def abq (F:AV) (P:cu->Bool) (l:AG_) (hl:l.length<=1000000000) (h:ak) (N0:Nat) (hF:firm (share F)=F) (hc:∀ f∈l,∀ N,N0<=N->cf (Dn prog) F [.agg f.av] ⟨h,N⟩=some (B_ (P f),⟨h,N+1⟩)):∀ (r:AG_) (i N:Nat),l.drop i=r->N0<=N->
  (r.any P=true∧∃ k M:Nat,N<=M∧(Dn prog).code (.loop fP) ⟨[(0,.d (.lst (dt l))),(1,F),(7,A_ l.length),(8,A_ i)],⟨h,N⟩⟩=some (.ret,⟨[(4,A_ k)],⟨h,M⟩⟩))∨
  (r.any P=false∧∃ M,N<=M∧(Dn prog).code (.loop fP) ⟨[(0,.d (.lst (dt l))),(1,F),(7,A_ l.length),(8,A_ i)],⟨h,N⟩⟩=some (.exit 0,⟨[],⟨h,M⟩⟩)):=by
 intro r
 induction r with
 | nil =>
  intro i N hd hN;have hi:=bb hd;refine .inr ⟨rfl,N,ai _,?_⟩;rw[ah iY];simp (maxSteps:=300000) (disch:=omega) [↓aa]
 | cons v r ih =>
  intro i N hd hN;have hg:=Ad hd;have hlt:=bv hd;have hv:=hc v (by rw[<-aT i l,hd];simp) N hN;have h5:=ih (i+1) (N+1) (bn hd) o_;have c1:((i+1:Nat):Int)=(i:Int)+1:=rfl;rw[c1]at h5
  cases hp:P v with
  | true =>
   rw[hp]at hv;refine .inl ⟨by rw[eM,hp];rfl,i,N+1,o_,?_⟩;rw[ah iY];simp (maxSteps:=300000) (disch:=omega) [↓ac,↓aa,hg,hF,hv]
  | false =>
   rw[hp]at hv;rw[eM,hp,na];rcases h5 with ⟨e1,k,M,e3,e2⟩ | ⟨e1,M,e3,e2⟩
   .refine .inl ⟨e1,k,M,o_,?_⟩;rw[ah iY,<-e2];simp (maxSteps:=300000) (disch:=omega) [↓ac,↓aa,hg,hF,hv]
   .refine .inr ⟨e1,M,o_,?_⟩;rw[ah iY,<-e2];simp (maxSteps:=300000) (disch:=omega) [↓ac,↓aa,hg,hF,hv]
def abo (F:AV) (P:cu->Bool) (l:AG_) (hl:l.length<=1000000000) (h:ak) (N:Nat) (hF:firm (share F)=F) (hF2:firm F=F) (hc:∀ f∈l,∀ M,N<=M->cf (Dn prog) F [.agg f.av] ⟨h,M⟩=some (B_ (P f),⟨h,M+1⟩)) :
  ∃ M,N<=M∧(Dn prog).call ti [.d (.lst (dt l)),F] ⟨h,N⟩=some (B_ (l.any P),⟨h,M⟩):=by
 have h1:=abq F P l hl h N hF hc l 0 N rfl (ai _);have c0:((0:Nat):Int)=0:=rfl;rw[c0]at h1;have h2:∃ (k:Int) (M:Nat),N<=M∧(0<=k↔l.any P=true)∧(Dn prog).call wo [.d (.lst (dt l)),F] ⟨h,N⟩=some (A_ k,⟨h,M⟩):=by
  rcases h1 with ⟨e1,k,M,e3,e2⟩ | ⟨e1,M,e3,e2⟩
  .refine⟨k,M,e3,⟨fun _=>e1,fun _=>by omega⟩,?_⟩;rw[ba wA wQ rfl];simp (maxSteps:=300000) (disch:=omega) [e2]
  .refine⟨-1,M,e3,⟨fun h=>by omega,fun h=>by rw[e1]at h;exact absurd h s_⟩,?_⟩;rw[ba wA wQ rfl];simp (maxSteps:=300000) (disch:=omega) [e2]
 obtain⟨k,M,e3,e1,e2⟩:=h2;refine⟨M,e3,?_⟩;rw[ba Fx Fe rfl]
 cases hp:l.any P with
 | true =>
  have:=e1.2 hp;simp (maxSteps:=300000) (disch:=omega) [↓ac,hF2,e2]
 | false =>
  have:¬ 0<=k:=fun h=>by rw[e1.1 h]at hp;exact absurd hp (by simp)
  simp (maxSteps:=300000) (disch:=omega) [↓aa,hF2,e2]
def ZQ (F:AV) (P:(U_)->Bool) (l:S_) (hl:l.length<=1000000000) (h:ak) (N0:Nat) (hF:firm (share F)=F) (hc:∀ f∈l,∀ N,N0<=N->cf (Dn prog) F [.d (.lst (gE f))] ⟨h,N⟩=some (B_ (P f),⟨h,N⟩)):∀ (r:S_) (i N:Nat),l.drop i=r->N0<=N->
  (r.any P=true∧∃ k M:Nat,N<=M∧(Dn prog).code (.loop fL) ⟨[(0,.d (.lst (dr l))),(1,F),(7,A_ l.length),(8,A_ i)],⟨h,N⟩⟩=some (.ret,⟨[(4,A_ k)],⟨h,M⟩⟩))∨
  (r.any P=false∧∃ M,N<=M∧(Dn prog).code (.loop fL) ⟨[(0,.d (.lst (dr l))),(1,F),(7,A_ l.length),(8,A_ i)],⟨h,N⟩⟩=some (.exit 0,⟨[],⟨h,M⟩⟩)):=by
 intro r
 induction r with
 | nil =>
  intro i N hd hN;have hi:=bb hd;refine .inr ⟨rfl,N,ai _,?_⟩;rw[ah iR];simp (maxSteps:=300000) (disch:=omega) [↓aa]
 | cons v r ih =>
  intro i N hd hN;have hg:=xc hd;have hlt:=bv hd;have hv:=hc v (by rw[<-aT i l,hd];simp) N hN;have h5:=ih (i+1) N (bn hd) o_;have c1:((i+1:Nat):Int)=(i:Int)+1:=rfl;rw[c1]at h5
  cases hp:P v with
  | true =>
   rw[hp]at hv;refine .inl ⟨by rw[eM,hp];rfl,i,N,o_,?_⟩;rw[ah iR];simp (maxSteps:=300000) (disch:=omega) [↓ac,↓aa,hg,hF,hv]
  | false =>
   rw[hp]at hv;rw[eM,hp,na];rcases h5 with ⟨e1,k,M,e3,e2⟩ | ⟨e1,M,e3,e2⟩
   .refine .inl ⟨e1,k,M,o_,?_⟩;rw[ah iR,<-e2];simp (maxSteps:=300000) (disch:=omega) [↓ac,↓aa,hg,hF,hv]
   .refine .inr ⟨e1,M,o_,?_⟩;rw[ah iR,<-e2];simp (maxSteps:=300000) (disch:=omega) [↓ac,↓aa,hg,hF,hv]
def ZS (F:AV) (P:(U_)->Bool) (l:S_) (hl:l.length<=1000000000) (h:ak) (N:Nat) (hF:firm (share F)=F) (hF2:firm F=F) (hc:∀ f∈l,∀ M,N<=M->cf (Dn prog) F [.d (.lst (gE f))] ⟨h,M⟩=some (B_ (P f),⟨h,M⟩)) :
  ∃ M,N<=M∧(Dn prog).call so [.d (.lst (dr l)),F] ⟨h,N⟩=some (B_ (l.any P),⟨h,M⟩):=by
 have h1:=ZQ F P l hl h N hF hc l 0 N rfl (ai _);have c0:((0:Nat):Int)=0:=rfl;rw[c0]at h1;have h2:∃ (k:Int) (M:Nat),N<=M∧(0<=k↔l.any P=true)∧(Dn prog).call v6 [.d (.lst (dr l)),F] ⟨h,N⟩=some (A_ k,⟨h,M⟩):=by
  rcases h1 with ⟨e1,k,M,e3,e2⟩ | ⟨e1,M,e3,e2⟩
  .refine⟨k,M,e3,⟨fun _=>e1,fun _=>by omega⟩,?_⟩;rw[ba vK vY rfl];simp (maxSteps:=300000) (disch:=omega) [e2]
  .refine⟨-1,M,e3,⟨fun h=>by omega,fun h=>by rw[e1]at h;exact absurd h s_⟩,?_⟩;rw[ba vK vY rfl];simp (maxSteps:=300000) (disch:=omega) [e2]
 obtain⟨k,M,e3,e1,e2⟩:=h2;refine⟨M,e3,?_⟩;rw[ba DJ Di rfl]
 cases hp:l.any P with
 | true =>
  have:=e1.2 hp;simp (maxSteps:=300000) (disch:=omega) [↓ac,hF2,e2]
 | false =>
  have:¬ 0<=k:=fun h=>by rw[e1.1 h]at hp;exact absurd hp (by simp)
  simp (maxSteps:=300000) (disch:=omega) [↓aa,hF2,e2]
def ave (i:aL) (l:U_) (hl:l.length<=1000000) (H:ak) (K N:Nat) (hp:get H K=some (.cells i.cells)):(Dn prog).call Gl [.d (.lst (gE l)),.ptr K 0] ⟨H,N⟩=some (B_ ((decide ((l.length:Int)≠i.max))),⟨H,N⟩):=by
 have hb:=sQ (l:=l);rw[ba acX ac0 rfl];by_cases h:(l.length:Int)=i.max
 .simp (maxSteps:=300000) (disch:=omega) [hp,h]
 .simp (maxSteps:=300000) (disch:=omega) [hp,h]
abbrev mu:=@List.any_eq_false
def fu (x:AV) (l:E_):Prop:=x=.d (.lst l)∨x=.nl∧l=[]
theorem fu.d {l:E_}:fu (.d (.lst l)) l:=.inl rfl
def fu.facts {x:AV}{l:E_}(h:fu x l):(share x=x∧firm x=x∧AV.cells x=[x])∧bw x=true∧lenOf x=some l.length:=by
 rcases h with rfl | ⟨rfl,rfl⟩<;>exact⟨⟨rfl,rfl,rfl⟩,rfl,rfl⟩
def fu.ne {x:AV}{l:E_}(h:fu x l) (hl:l≠[]):x=.d (.lst l):=by
 rcases h with h | ⟨_,h⟩
 .exact h
 .exact absurd h hl
def HM (f:fA):AG_->Prop
 | []=>False
 | c::r=>if f.common then (∃ d∈r.head?,zP c.info d.info)∧(if f.mask=1 then f.bands.length=c.info.groups.length∧∀ l∈f.bands,(l.length:Int)=c.info.max else f.bands=[]) else f.mask=0∧f.bands=[]
structure Ab (rt:Nat) (n:Int) (f:fA):Prop where
 len:(f.chans.length:Int)=n
 fill:f.fill.length<=269
 mask:0<=f.mask∧f.mask<=2
 may:∀ c∈f.chans,mR rt c
 rest:HM f f.chans
abbrev nR (rt n:Int) (b:Bool) (z:Int):AV:=.agg [A_ rt,A_ n,B_ b,A_ z]
abbrev wg (f:fA) (X Y Z:AV):AV:=.agg [X,B_ f.common,A_ f.mask,Y,Z]
def aoi (rt n:Int) (cb:Bool) (cz:Int) (hr:dV rt) (hn:n=1∨n=2) (f:fA) (hf:f.Fit) (X Y Z:AV) (hX:fu X (dt f.chans)) (hY:fu Y (dr f.bands)) (hZ:fu Z (am f.fill)) :
  (Ab rt.toNat n f∧br prog KH [nR rt n cb cz,wg f X Y Z]=some (B_ true))∨(¬ Ab rt.toNat n f∧br prog KH [nR rt n cb cz,wg f X Y Z]=some (B_ false)):=by
 obtain⟨⟨x1,x2,x3⟩,x4,x5⟩:=hX.facts;obtain⟨⟨y1,y2,y3⟩,y4,y5⟩:=hY.facts;obtain⟨⟨z1,z2,z3⟩,z4,z5⟩:=hZ.facts;have xl:=Dt (l:=f.chans);have yl:=Ig (t:=f.bands);have zl:=cT (l:=f.fill);have hcl:=hf.chans.1;have hbl:=hf.bands.1;have hfl:=hf.fill;rw[aJ aij ah7 rfl];by_cases h1:(f.chans.length:Int)=n
 rotate_left
 .refine .inr ⟨fun h=>h1 h.len,?_⟩;simp (maxSteps:=300000) (disch:=omega) [↓ac,↓aa,-bw,x1,x2,x3,x4,x5,y1,y2,y3,y4,y5,z1,z2,z3,z4,z5]
 by_cases h2:f.fill.length<=269
 rotate_left
 .refine .inr ⟨fun h=>h2 h.fill,?_⟩;simp (maxSteps:=300000) (disch:=omega) [↓ac,↓aa,-bw,x1,x2,x3,x4,x5,y1,y2,y3,y4,y5,z1,z2,z3,z4,z5]
 by_cases h3:0<=f.mask
 rotate_left
 .refine .inr ⟨fun h=>h3 h.mask.1,?_⟩;simp (maxSteps:=300000) (disch:=omega) [↓ac,↓aa,-bw,x1,x2,x3,x4,x5,y1,y2,y3,y4,y5,z1,z2,z3,z4,z5]
 by_cases h4:f.mask<=2
 rotate_left
 .refine .inr ⟨fun h=>h4 h.mask.2,?_⟩;simp (maxSteps:=300000) (disch:=omega) [↓ac,↓aa,-bw,x1,x2,x3,x4,x5,y1,y2,y3,y4,y5,z1,z2,z3,z4,z5]
 have hne:dt f.chans≠[]:=fun h=>by have:=bl List.length h;rw[Dt,bu]at this;omega
 have hxe:=hX.ne hne;subst hxe;obtain⟨M,hM,e1⟩:=abo (.fn Gn [] [.ptr 0 0]) (K3 rt) f.chans o_ [(0,.cells [A_ rt,A_ n,B_ cb,A_ cz]),(1,.cells [.d (.lst (dt f.chans)),B_ f.common,A_ f.mask,Y,Z])] 2 rfl rfl fun c hc M hM=>by
  have:=awf rt hr (A_ n) (B_ cb) (A_ cz) c (hf.chans.2 c hc) [(0,.cells [A_ rt,A_ n,B_ cb,A_ cz]),(1,.cells [.d (.lst (dt f.chans)),B_ f.common,A_ f.mask,Y,Z])] M s_ (by
   intro p hp;simp only[az,cQ,fh]at hp;rcases hp with rfl | rfl<;>simp only[]<;>omega)
  simpa using this
 have hbad:f.chans.any (K3 rt)=false↔∀ c∈f.chans,mR rt.toNat c:=by
  rw[mu];constructor
  .intro h c hc;obtain⟨_,_,_,hb⟩:=V8 rt hr c (hf.chans.2 c hc);exact hb.1 (by simpa using h c hc)
  .intro h c hc;obtain⟨_,_,_,hb⟩:=V8 rt hr c (hf.chans.2 c hc);rw[hb.2 (h c hc)];simp
 cases hB:f.chans.any (K3 rt) with
 | true =>
  rw[hB]at e1;refine .inr ⟨fun h=>by rw[hbad.2 h.may]at hB;exact absurd hB s_,?_⟩;simp (maxSteps:=300000) (disch:=omega) [↓ac,↓aa,-bw,x5,y1,y2,y3,y4,y5,z1,z2,z3,z4,z5,e1]
 | false =>
  rw[hB]at e1;have hmay:=hbad.1 hB
  cases hch:f.chans with
  | nil=>rw[hch]at h1;simp at h1;omega
  | cons c r =>
   have hdr:f.chans.drop 0=c::r:=hch;obtain⟨k0,g0⟩:=aI.1 (Ad hdr);have hci:=(hf.chans.2 c (by rw[hch];exact .head _)).info;have hfin:Ab rt.toNat n f↔HM f (c::r):=⟨fun h=>by rw[<-hch];exact h.rest,fun h=>⟨h1,h2,⟨h3,h4⟩,hmay,by rw[hch];exact h⟩⟩
   rw[<-hch]
   cases hcm:f.common with
   | false =>
    have hT:HM f (c::r)↔f.mask=0∧f.bands=[]:=by simp only[HM,hcm,ao,bh]
    rw[hcm]at e1;by_cases h5:f.mask=0
    .by_cases h6:f.bands.length=0
     .refine .inl ⟨hfin.2 (hT.2 ⟨h5,ax h6⟩),?_⟩;simp (maxSteps:=300000) (disch:=omega) [↓ac,↓aa,-bw,hcm,x5,y1,y2,y3,y4,y5,z1,z2,z3,z4,z5,e1,g0]
     .refine .inr ⟨fun h=>h6 (by rw[(hT.1 (hfin.1 h)).2];rfl),?_⟩;simp (maxSteps:=300000) (disch:=omega) [↓ac,↓aa,-bw,hcm,x5,y1,y2,y3,y4,y5,z1,z2,z3,z4,z5,e1,g0]
    .refine .inr ⟨fun h=>h5 (hT.1 (hfin.1 h)).1,?_⟩;simp (maxSteps:=300000) (disch:=omega) [↓ac,↓aa,-bw,hcm,x5,y1,y2,y3,y4,y5,z1,z2,z3,z4,z5,e1,g0]
   | true =>
    rw[hcm]at e1;have hT:HM f (c::r)↔(∃ d∈r.head?,zP c.info d.info)∧(if f.mask=1 then f.bands.length=c.info.groups.length∧∀ l∈f.bands,(l.length:Int)=c.info.max else f.bands=[]):=by simp only[HM,hcm,bf]
    rcases hn with rfl | rfl
    .have hr0:r=[]:=ax (by rw[hch]at h1;simp only[aq]at h1;omega);refine .inr ⟨fun h=>?_,?_⟩
     .obtain⟨⟨d,hd,_⟩,_⟩:=hT.1 (hfin.1 h);rw[hr0]at hd;simp at hd
     .simp (maxSteps:=300000) (disch:=omega) [↓ac,↓aa,-bw,hcm,x5,y1,y2,y3,y4,y5,z1,z2,z3,z4,z5,e1,g0]
    .cases r with
     | nil=>rw[hch]at h1;simp at h1
     | cons d r2 =>
      obtain⟨k1,g1⟩:=aI.1 (Ad (bn hdr));have hsm:=aod c.info d.info hci (hf.chans.2 d (by rw[hch];exact .tail _ (.head _))).info;simp only[aL.cells]at hsm;have hm0:=hmay c (by rw[hch];exact .head _);obtain⟨q1,q2⟩:=dG (gh (r:=rt.toNat) o_ hm0.info);have hmm:1<=c.info.many:=by unfold aL.many;split<;>omega
      have hgn:c.info.groups.length≠0:=fun h=>by rw[ax h]at q2;simp at q2;omega
      have hgi:=iB (l:=c.info.groups);have hg8:c.info.groups.length<=1000:=hci.len;by_cases hs:zP c.info d.info
      rotate_left
      .rw[decide_eq_false hs]at hsm;refine .inr ⟨fun h=>?_,?_⟩
       .obtain⟨⟨d',hd',hss⟩,_⟩:=hT.1 (hfin.1 h);simp only[List.head?_cons,Option.mem_def,ae]at hd';subst hd';exact hs hss
       .simp (maxSteps:=300000) (disch:=omega) [↓ac,↓aa,-bw,hcm,x5,y1,y2,y3,y4,y5,z1,z2,z3,z4,z5,e1,g0,g1,hsm]
      rw[decide_eq_true hs]at hsm;have hhd:∃ d'∈(d::r2).head?,zP c.info d'.info:=⟨d,s_,hs⟩
      by_cases h5:f.mask=1
      rotate_left
      .rw[aa h5]at hT;by_cases h6:f.bands.length=0
       .refine .inl ⟨hfin.2 (hT.2 ⟨hhd,ax h6⟩),?_⟩;simp (maxSteps:=300000) (disch:=omega) [↓ac,↓aa,-bw,hcm,x5,y1,y2,y3,y4,y5,z1,z2,z3,z4,z5,e1,g0,g1,hsm]
       .refine .inr ⟨fun h=>h6 (by rw[(hT.1 (hfin.1 h)).2];rfl),?_⟩;simp (maxSteps:=300000) (disch:=omega) [↓ac,↓aa,-bw,hcm,x5,y1,y2,y3,y4,y5,z1,z2,z3,z4,z5,e1,g0,g1,hsm]
      rw[ac h5]at hT;by_cases h6:f.bands.length=c.info.groups.length
      rotate_left
      .refine .inr ⟨fun h=>h6 (hT.1 (hfin.1 h)).2.1,?_⟩;simp (maxSteps:=300000) (disch:=omega) [↓ac,↓aa,-bw,hcm,x5,y1,y2,y3,y4,y5,z1,z2,z3,z4,z5,e1,g0,g1,hsm]
      have hye:=hY.ne fun h=>by have:=bl List.length h;rw[Ig,bu]at this;omega
      subst hye;obtain⟨M2,hM2,e2⟩:=ZS (.fn Gl [] [.ptr M 0]) (fun l=>decide ((l.length:Int)≠c.info.max)) f.bands o_ [(0,.cells [A_ rt,A_ 2,B_ cb,A_ cz]),(1,.cells [.d (.lst (dt f.chans)),B_ true,A_ f.mask,.d (.lst (dr f.bands)),Z]),(M,.cells c.info.cells)] (M+1) rfl rfl fun l hl N hN=>by
       have:=ave c.info l (by have:=hf.bands.2 l hl;omega) [(0,.cells [A_ rt,A_ 2,B_ cb,A_ cz]),(1,.cells [.d (.lst (dt f.chans)),B_ true,A_ f.mask,.d (.lst (dr f.bands)),Z]),(M,.cells c.info.cells)] M N (by
        obtain⟨m0,m1⟩:M≠0∧M≠1:=o_;simp (maxSteps:=300000) (disch:=omega) [↓ac,↓aa])
       simpa using this
      simp only[aL.cells]at e2
      cases hB2:f.bands.any (fun l=>decide ((l.length:Int)≠c.info.max)) with
      | true =>
       rw[hB2]at e2;refine .inr ⟨fun h=>?_,?_⟩
       .obtain⟨l,hl,hx⟩:=List.any_eq_true.1 hB2;exact of_decide_eq_true hx ((hT.1 (hfin.1 h)).2.2 l hl)
       .simp (maxSteps:=300000) (disch:=omega) [↓ac,↓aa,-bw,hcm,x5,y5,z1,z2,z3,z4,z5,e1,g0,g1,hsm,e2]
      | false =>
       rw[hB2]at e2;refine .inl ⟨hfin.2 (hT.2 ⟨hhd,h6,fun l hl=>?_⟩),?_⟩
       .have:=mu.1 hB2 l hl;simpa using this
       .simp (maxSteps:=300000) (disch:=omega) [↓ac,↓aa,-bw,hcm,x5,y5,z1,z2,z3,z4,z5,e1,g0,g1,hsm,e2]
def aqZ {l:U_}:∀ x∈gE l,∀ y∈x,lR y=true:=by
 intro x hx y hy;simp only[gE,dj]at hx;obtain⟨b,_,rfl⟩:=hx;simp only[az,cQ,fh]at hy;subst hy;rfl
def YB (xs:S_) (hx:xs.length<=1000) (h:ak) (N:Nat):∀ (r:S_) (i:Nat) (n:Nat),xs.drop i=r->n+r.flatten.length<=1000000000->
  (Dn prog).code (.loop kr) ⟨[(0,.d (.lst (dr xs))),(3,A_ n),(9,.d (.lst (dr xs))),(10,A_ xs.length),(11,A_ i)],⟨h,N⟩⟩ =
  some (.exit 0,⟨[(0,.d (.lst (dr xs))),(3,A_ (n+r.flatten.length:Nat))],⟨h,N⟩⟩):=by
 intro r
 induction r with
 | nil =>
  intro i n hd hn;have hi:=bb hd;rw[ah oy];simp (maxSteps:=300000) (disch:=omega) [↓aa]
 | cons l r ih =>
  intro i n hd hn;have hg:=xc hd;have hlt:=bv hd;simp only[dq,al]at hn⊢;have h5:=ih (i+1) (n+l.length) (bn hd) o_;have c1:((i+1:Nat):Int)=(i:Int)+1:=rfl;have c2:((n+l.length:Nat):Int)=(n:Int)+l.length:=rfl;rw[c1,c2,dy]at h5;rw[ah oy,<-h5];simp (maxSteps:=300000) (disch:=omega) [↓ac,↓aa,hg,sQ]
def anx (xs:S_) (hx:xs.length<=1000) (h:ak) (N:Nat):∀ (r:S_) (i:Nat) (acc:U_),xs.drop i=r->acc.length+r.flatten.length<=1000000000->
  (Dn prog).code (.loop ib) ⟨[(6,.own false 1 (gE acc)),(25,.d (.lst (dr xs))),(26,A_ xs.length),(27,A_ i)],⟨h,N⟩⟩ =
  some (.exit 2,⟨[(6,.own false 1 (gE (acc++r.flatten)))],⟨h,N⟩⟩):=by
 intro r
 induction r with
 | nil =>
  intro i acc hd hn;have hi:=bb hd;rw[ah fK];simp (maxSteps:=300000) (disch:=omega) [↓aa]
 | cons l r ih =>
  intro i acc hd hn;have hg:=xc hd;have hlt:=bv hd;simp only[dq,al]at hn⊢;have h5:=ih (i+1) (acc++l) (bn hd) (by simp only[al];omega);have c1:((i+1:Nat):Int)=(i:Int)+1:=rfl;rw[c1,aA]at h5;rw[ah fK,<-h5];simp (maxSteps:=300000) (disch:=omega) [↓ac,↓aa,hg,sQ,avJ]
def as8 (n:Nat) (hn:0<n∧n<=1000000000):(Dn prog).call vj [.nl,A_ n] ⟨[],0⟩=some (.sl 0 0 0,⟨[(0,.arr 1 (List.replicate n [.bool false]))],1⟩):=by
 have e1:ef (A_ n) aW=some n:=by rw[zG o_ (by simp only[aW];omega)];simp
 have e2:Hi [.bool false] [] .nl (A_ n)=some (.own true 1 (List.replicate n [.bool false]),[]):=by
  unfold Hi;rw[e1];obtain⟨m,rfl⟩:∃ m,n=m+1:=⟨n-1,o_⟩
  simp (maxSteps:=300000) (disch:=omega) [cy,↓ac]
 have e0:ef (A_ 0) n=some 0:=zG o_ o_;have e3:tG [] 1 .nl none (some (.int .i64 0)) none=some .nl:=rfl;have e4:tG [(0,.arr 1 (List.replicate n [D.bool false]))] 1 (.sl 0 0 n) none (some (.int .i64 0)) none=some (.sl 0 0 0):=by
  simp[tG,okSl,xB,lenOf,yS,e0,xx]
 rw[ba Dg C8 rfl];simp (maxSteps:=300000) (disch:=omega) [↓ac,↓aa,aa2,e2,e3,e4]
def ara (xs:S_) (hx:xs.length<=1000) (hn:0<xs.flatten.length∧xs.flatten.length<=1000000000):br prog sk [.d (.lst (dr xs))]=some (.own true 1 (gE xs.flatten)):=by
 have h0:=YB xs hx [] 0 xs 0 0 rfl o_;have h2:=as8 xs.flatten.length hn;have c0:((0:Nat):Int)=0:=rfl;rw[bz,c0]at h0;have hne:xs≠[]:=by intro h;subst h;simp at hn
 obtain⟨l,r,e⟩:=c7 hne;have h1:=anx xs hx [] 1 r 1 l (by rw[e];rfl) (by rw[e]at hn;simpa using hn.2);have hg:=xc (g:=xs) (i:=0) (l:=l) (r:=r) (by rw[e];rfl);have hlt:0<xs.length:=bJ.2 hne;have e5:l++r.flatten=xs.flatten:=by rw[e];rfl
 rw[e5]at h1;have hll:l.length<=1000000000:=by rw[<-e5,al]at hn;omega
 clear e5 e;generalize xs.flatten=F at *;have c1:((1:Nat):Int)=1:=rfl;rw[c1]at h1;rw[aJ AZ Bc rfl];simp (maxSteps:=300000) (disch:=omega) [↓ac,↓aa,h0,h2];rw[ah fK];simp (maxSteps:=300000) (disch:=omega) [↓ac,↓aa,hg,sQ,h1];exact aqZ
def ahT (xs:S_) (hx:xs.length<=1000) (h:ak) (N:Nat):∀ (r:S_) (i:Nat),xs.drop i=r->(∀ l∈r,l=[])->
  (Dn prog).code (.loop ib) ⟨[(6,.nl),(25,.d (.lst (dr xs))),(26,A_ xs.length),(27,A_ i)],⟨h,N⟩⟩ =
  some (.exit 2,⟨[(6,.nl)],⟨h,N⟩⟩):=by
 intro r
 induction r with
 | nil =>
  intro i hd hn;have hi:=bb hd;rw[ah fK];simp (maxSteps:=300000) (disch:=omega) [↓aa]
 | cons l r ih =>
  intro i hd hn;have hl:=hn l (.head _);subst hl;have hg:=xc hd;have hlt:=bv hd;have h5:=ih (i+1) (bn hd) fun q hq=>hn q (.tail _ hq)
  have c1:((i+1:Nat):Int)=(i:Int)+1:=rfl;have n0:gE []=[]:=rfl;rw[c1]at h5;rw[n0]at hg;rw[ah fK,<-h5];simp (maxSteps:=300000) (disch:=omega) [↓ac,↓aa,hg]
def S9:(Dn prog).call vj [.nl,A_ 0] ⟨[],0⟩=some (.nl,⟨[],0⟩):=by
 rw[ba Dg C8 rfl];simp (maxSteps:=300000) (disch:=omega) [↓ac,↓aa,aa2]
def auK (xs:S_) (hx:xs.length<=1000) (hn:xs.flatten.length<=1000000000) (X:AV) (hX:fu X (dr xs)):∃ v,br prog sk [X]=some v∧firm v=aD 1 (gE xs.flatten):=by
 by_cases h:0<xs.flatten.length
 .have hne:dr xs≠[]:=fun h2=>by
   have:=bl List.length h2;rw[Ig,bu]at this;rw[ax this]at h;simp at h
  refine⟨.own true 1 (gE xs.flatten),by rw[hX.ne hne];exact ara xs hx ⟨h,hn⟩,?_⟩;rw[lx]
  .rfl
  .intro h2;have:=bl List.length h2;rw[sQ,bu]at this;omega
 .have h0:xs.flatten=[]:=ax o_;have hz:∀ l∈xs,l=[]:=fun l hl=>List.flatten_eq_nil_iff.1 h0 l hl
  refine⟨.nl,?_,by rw[h0];rfl⟩;rw[aJ AZ Bc rfl];rcases hX with rfl | ⟨rfl,hX⟩
  .have e0:=YB xs hx [] 0 xs 0 0 rfl o_;have e1:=ahT xs hx [] 0 xs 0 rfl hz;have c0:((0:Nat):Int)=0:=rfl;rw[bz,c0,h0,bu,c0]at e0;rw[c0]at e1;simp (maxSteps:=300000) (disch:=omega) [↓ac,↓aa,e0,e1,S9]
  .simp (maxSteps:=300000) (disch:=omega) [↓ac,↓aa,S9];rw[ah oy];simp (maxSteps:=300000) (disch:=omega) [↓ac,↓aa,S9];rw[ah fK];simp (maxSteps:=300000) (disch:=omega) [↓ac,↓aa,S9]
def fF (l:C_):C_:=l.flatMap fun n=>ar n 8
def ov:∀ {l:C_},(fF l).length=8*l.length
 | []=>rfl
 | n::r=>by have:=ov (l:=r);rw[fF]at this⊢;rw[aH,al,dL,aq];omega
abbrev aC1 (l:C_) (i:Int) (N:Nat):aV:=[(4,.ptr 0 0),(15,.d (.lst (am l))),(16,A_ l.length),(17,A_ i),(23,.fn pE [] [.ptr (N+1) 0,.ptr N 0])]
abbrev hp8 (l:C_) (i n:Int) (N:Nat) (b:C_):ak:=[(0,.cells [.own false 1 (am b)]),(N,.cells [A_ n]),(N+1,.cells [A_ 8]),(N+2,.loop (aC1 l i N) [24] tA tS false none)]
def aDu (l:C_) (i n:Int) (N:Nat) (hN:1<=N) (b:C_) (x:Nat) (hb:b.length<=800000000) :
  cf (Dn prog) (.yield (N+2)) [.d (.int .u8 (x:Int))] ⟨hp8 l i n N b,N+2+1⟩=some (B_ true,⟨hp8 l i n N (b++[x]),N+2+1⟩):=by
 have hl:=cT (l:=b);have n1:N≠0∧N+1≠0∧N+2≠0:=o_;simp (maxSteps:=300000) (disch:=omega) [VK,Wr,↓ac,↓aa]
def ayO (n k:Int) (c:Obj) (N:Nat) (hN:1<=N):(Dn prog).call Lv [A_ n,A_ k] ⟨[(0,c)],N⟩=some (.fn pE [] [.ptr (N+1) 0,.ptr N 0],⟨[(0,c),(N,.cells [A_ n]),(N+1,.cells [A_ k])],N+1+1⟩):=by
 rw[ba UN UQ rfl];simp (maxSteps:=300000) (disch:=omega) [↓ac,↓aa]
def aki {z:W_}{n:Int}(h:0<=n∧n<=1000000000):E8 z (A_ 0) (A_ n)=some (.own true z.length []):=by
 obtain⟨n,rfl⟩:=aB h.1;have h1:ef (A_ (n:Int)) aW=some n:=by rw[zG o_ (by simp only[aW];omega)];simp
 have h2:ef (A_ 0) n=some 0:=zG o_ o_;simp only[E8,h1,h2];rfl
def apB (l:C_) (hl:l.length<=100000) (hl2:∀ n∈l,n<=255):∀ (r:C_) (i N:Nat) (b:C_),l.drop i=r->b.length<=8*i->1<=N->
  ∃ M,(Dn prog).code (.loop tT) ⟨[(4,.ptr 0 0),(15,.d (.lst (am l))),(16,A_ l.length),(17,A_ i)],⟨[(0,.cells [.own false 1 (am b)])],N⟩⟩ =
  some (.exit 0,⟨[(4,.ptr 0 0)],⟨[(0,.cells [.own false 1 (am (b++fF r))])],M⟩⟩):=by
 intro r
 induction r with
 | nil =>
  intro i N b hd hb hN;have hi:=bb hd;refine⟨N,?_⟩;rw[ah Ay];simp (maxSteps:=300000) (disch:=omega) [↓ac,↓aa,fF]
 | cons n r ih =>
  intro i N b hd hb hN;have hlt:=bv hd;have hn:=hl2 n (cH (by rw[hd];exact .head _));have hg:(am l)[i]?=some [.int .u8 n]:=by
   have:=bl (fun l=>l[0]?) hd;simp only[b6,b7,dY]at this;rw[am,bU,this];rfl
  have h1:=aoy (hp:=hp8 l i n N) (l:=N+2) (p:=N) (q:=N+1) (N:=N+2+1) (st:=fun s x=>s++[x]) (dk:=fun k s=>s.length+k<=800000000) (fun k s x h=>by simp only[al,aq,bu];omega) n 8 o_ (by omega)
   (fun s=>by simp (maxSteps:=300000) (disch:=omega) [↓aa,↓ac]) (fun s=>by simp (maxSteps:=300000) (disch:=omega) [↓aa,↓ac]) (fun k s x h _=>aDu l i n N hN s x o_) b (by omega)
  rw[aeL]at h1;obtain⟨M,h5⟩:=ih (i+1) (N+2+1) (b++ar n 8) (bn hd) g_ o_;refine⟨M,?_⟩;have c1:((i+1:Nat):Int)=(i:Int)+1:=rfl;have e:b++fF (n::r)=b++ar n 8++fF r:=by rw[fF,aH,aA];rfl
  rw[c1]at h5;have n1:N≠0∧N+1≠0∧N+2≠0:=o_;rw[ah Ay,e,<-h5];simp (maxSteps:=300000) (disch:=omega) [↓ac,↓aa,hg,n1,rd,ayO,h1]
def U2 (l:C_) (hl:l.length<=100000) (hl2:∀ n∈l,n<=255) (X:AV) (hX:fu X (am l)):br prog GF [X]=some (.tup [.own true 1 (am (fF l)),A_ 0]):=by
 have hl3:=cT (l:=l);have n0:am []=[]:=rfl;have c0:((0:Nat):Int)=0:=rfl;obtain⟨M,h⟩:=apB l hl hl2 l 0 1 [] rfl s_ (ai _);rw[c0,n0,aO]at h;rw[aJ adu acU rfl];rcases hX with rfl | ⟨rfl,hX⟩
 .simp (maxSteps:=300000) (disch:=omega) [↓ac,↓aa,aki,h]
 .have:l=[]:=ax (by rw[hX]at hl3;simpa using hl3.symm);subst this;simp (maxSteps:=300000) (disch:=omega) [↓ac,↓aa,aki];rw[ah Ay];simp (maxSteps:=300000) (disch:=omega) [↓ac,↓aa,fF];rfl
def adM {hp:AV->ak}{p N:Nat}(H:Hv hp p) {x:AV}{b:C_}(hx:inB x b) (hb:b.length<=900000000) (n s:Int) (ho:rq n s) (hn:i64 n) :
  (Dn prog).call fk [A_ n,A_ s,.ptr p 0] ⟨hp x,N⟩=some (.tup [],⟨hp (.own false 1 (am (b++ar n.toNat s.toNat))),N⟩):=by
 have h1:=fun x hx=>mG b n s hb hn x hx
 simp only[ac ho]at h1;rw[ba XU Y8 rfl];rcases hx with rfl | rfl | ⟨rfl,rfl⟩
 .have h2:=h1 _ (.inl rfl);simp (maxSteps:=300000) (disch:=omega) [H.get,H.put,h2]
 .have h2:=h1 _ (.inl rfl);simp (maxSteps:=300000) (disch:=omega) [H.get,H.put,h2]
 .have h2:=h1 _ (.inr ⟨rfl,rfl⟩);simp (maxSteps:=300000) (disch:=omega) [H.get,H.put,h2]
def HF {hp:AV->ak}{p N:Nat}(H:Hv hp p) {x:AV}{b:C_}(hx:inB x b) (hb:b.length<=900000000) (n s:Nat) (hs:s<=31) (ho:n<2 ^ s) (nI sI:Int) (en:nI=n) (es:sI=s) :
  (Dn prog).call fk [A_ nI,A_ sI,.ptr p 0] ⟨hp x,N⟩=some (.tup [],⟨hp (.own false 1 (am (b++ar n s))),N⟩):=by
 subst en es;have h31:2 ^ s<=2 ^ 31:=aw o_ hs;exact adM H hx hb n s (by simp only[rq,au];omega) (by omega)
def aj9 (b:Bool):br prog ach [B_ b]=some (A_ (cond b 1 0:Nat)):=by
 rw[aJ ao5 apu rfl]
 cases b<;>simp (maxSteps:=300000) (disch:=omega)
abbrev Ya (C F:D_) (v:AV):ak:=[(0,.cells C),(1,.cells F),(2,.cells [v])]
def axK (C F:D_):Hv (Ya C F) 2:=⟨fun v=>by simp,fun v w=>by simp⟩
def tp (l:U_):C_:=l.flatMap fun b=>ar (cond b 1 0) 1
def QK:∀ {l:U_},(tp l).length=l.length
 | []=>rfl
 | n::r=>by have:=QK (l:=r);rw[tp]at this⊢;rw[aH,al,dL,aq];omega
def alG (C F:D_) (l:U_) (hl:l.length<=1000000) (N:Nat):∀ (r:U_) (i:Nat) (b:C_),l.drop i=r->b.length+r.length<=900000000->
  (Dn prog).code (.loop tW) ⟨[(2,.ptr 0 0),(3,.ptr 1 0),(4,.ptr 2 0),(5,.fn fk [] [.ptr 2 0]),(45,aD 1 (gE l)),(46,A_ l.length),(47,A_ i)],⟨Ya C F (.own false 1 (am b)),N⟩⟩ =
  some (.exit 1,⟨[(2,.ptr 0 0),(3,.ptr 1 0),(4,.ptr 2 0),(5,.fn fk [] [.ptr 2 0])],⟨Ya C F (.own false 1 (am (b++tp r))),N⟩⟩):=by
 intro r
 induction r with
 | nil =>
  intro i b hd hb;have hi:=bb hd;rw[ah Jo];simp (maxSteps:=300000) (disch:=omega) [↓aa,tp]
 | cons x r ih =>
  intro i b hd hb;simp only[aq]at hb;have hg:=akF hd;have hlt:=bv hd;have hne:gE l≠[]:=fun h=>by have:=bl List.length h;rw[sQ,bu]at this;omega
  have hc:(cond x 1 0:Nat)<=1:=by cases x<;>decide
  have h1:=HF (axK C F) (N:=N) (jJ (b:=b)) o_ (cond x 1 0) 1 k_ o_ (cond x 1 0:Nat) 1 rfl rfl;have h2:=aj9 x;have h5:=ih (i+1) (b++ar (cond x 1 0) 1) (bn hd) g_;have c1:((i+1:Nat):Int)=(i:Int)+1:=rfl;rw[c1,aA,lx hne]at h5;have e:tp (x::r)=ar (cond x 1 0) 1++tp r:=rfl;simp only[Ya]at h1 h5⊢;rw[ah Jo,e,<-h5,lx hne];generalize ((cond x 1 0:Nat):Int)=K at *;simp (maxSteps:=300000) (disch:=omega) [↓ac,↓aa,hg,h1,h2]
def iy (rt:Nat) (q:Bool) (l:AG_):C_:=l.flatMap fun c=>Cu rt c q
def Pc {rt:Nat}{q:Bool}(hR:rt<=11):∀ {l:AG_},(∀ c∈l,c.Fit∧mR rt c)->(iy rt q l).length<=170000000*l.length
 | [],_=>by simp[iy]
 | c::r,h=>by
  have a:=ahf (h c (.head _)).1 (h c (.head _)).2 hR q;have b:=Pc hR (l:=r) (q:=q) fun x hx=>h x (.tail _ hx)
  rw[iy]at b⊢;rw[aH,al,aq];omega
def amm (R:Nat) (hR:R<=11) (n:Int) (c2 c3:AV) (f:fA) (A:AV) (m:Int) (Y Z:AV) (l:AG_) (hl:l.length<=2) (hc:∀ c∈l,c.Fit∧mR R c):∀ (r:AG_) (i N:Nat) (b:C_),l.drop i=r->b.length<=1000+170000000*i->3<=N->
  ∃ M,(Dn prog).code (.loop tI) ⟨[(2,.ptr 0 0),(3,.ptr 1 0),(4,.ptr 2 0),(5,.fn fk [] [.ptr 2 0]),(63,.d (.lst (dt l))),(64,A_ l.length),(65,A_ i)],⟨Ya [A_ R,A_ n,c2,c3] [A,B_ f.common,A_ m,Y,Z] (.own false 1 (am b)),N⟩⟩ =
  some (.exit 3,⟨[(3,.ptr 1 0),(4,.ptr 2 0),(5,.fn fk [] [.ptr 2 0])],⟨[(1,.cells [A,B_ f.common,A_ m,Y,Z]),(2,.cells [.own false 1 (am (b++iy R f.common r))])],M⟩⟩):=by
 intro r
 induction r with
 | nil =>
  intro i N b hd hb hN;have hi:=bb hd;refine⟨N,?_⟩;rw[ah I4];simp (maxSteps:=300000) (disch:=omega) [↓aa,iy]
 | cons c r ih =>
  intro i N b hd hb hN;have hg:=Ad hd;have hlt:=bv hd;obtain⟨hcf,hcm⟩:=hc c (cH (by rw[hd];exact .head _));have hil:=ahf hcf hcm hR f.common;have hp:br prog Fd [.d (.lst (am b)),A_ R,.agg c.av,B_ f.common]=some (.tup [.own true 1 (am (b++Cu R c f.common)),A_ 0]):=by
   rcases auF b o_ _ (.inl rfl) R c hcf f.common with ⟨_,_,h⟩ | ⟨e,he,h,h2,_⟩
   .simpa using h
   .exact absurd hcm (by have:=h2 (by simp only[dV];omega);simpa using this)
  simp only[cu.av]at hp;obtain⟨M,h5⟩:=ih (i+1) (N+1) (b++Cu R c f.common) (bn hd) g_ o_;refine⟨M,?_⟩;have c1:((i+1:Nat):Int)=(i:Int)+1:=rfl;rw[c1,aA]at h5;have e:iy R f.common (c::r)=Cu R c f.common++iy R f.common r:=rfl;have n0:N≠0∧N≠1∧N≠2:=o_;simp only[Ya]at h5⊢;rw[ah I4,e,<-h5];generalize b++Cu R c f.common=B1 at *;simp (maxSteps:=300000) (disch:=omega) [↓ac,↓aa,hg,hp]
abbrev kj:=@Int.tmod_eq_emod_of_nonneg
def Lj (n:Nat):Nat:=(8-n % 8) % 8
def Ax (b:C_):C_:=b++List.replicate (Lj b.length) 0
def mq (l:C_):C_:=if l=[] then [] else ar 6 3++(ar (min l.length 15) 4++((if 15<=l.length then ar (l.length-14) 8 else [])++fF l))
def aD6:Hv (fun v=>[(2,.cells [v])]) 2:=⟨fun v=>by simp,fun v w=>by simp⟩
def al5 (F:D_):Hv (fun v=>[(1,.cells F),(2,.cells [v])]) 2:=⟨fun v=>by simp,fun v w=>by simp⟩
def QR {a b:C_}:am (a++b)=am a++am b:=by simp[am]
def aru {h:ak}{b:C_}(hb:b.length<=900000000) (k:Nat) (hk:k<=8) (K:Int) (hK:K=k):Hi [.int .u8 0] h (.own false 1 (am b)) (A_ K)=some (.own false 1 (am (b++List.replicate k 0)),h):=by
 subst hK;have e1:ef (A_ k) aW=some k:=by rw[zG o_ (by simp only[aW];omega)];simp
 have e2:List.replicate k [D.int .u8 0]=am (List.replicate k 0):=by simp[am]
 have e3:(am (List.replicate k 0)).length=k:=by rw[cT];simp
 have hl:=cT (l:=b);unfold Hi;rw[e1];simp only[e2,QR];generalize am (List.replicate k 0)=Z at *;generalize am b=B at *;simp (maxSteps:=300000) (disch:=omega);exact⟨o_,ac o_⟩
def ai3 (b:C_) (hb:b.length<=800000000) (N:Nat):(Dn prog).code (.seq qP (.seq qX .ret)) ⟨[(4,.ptr 2 0),(5,.fn fk [] [.ptr 2 0])],⟨[(2,.cells [.own false 1 (am b)])],N⟩⟩ =
  some (.ret,⟨[(4,.ptr 2 0)],⟨[(2,.cells [.own false 1 (am (Ax (b++ar 7 3)))])],N⟩⟩):=by
 have h1:=HF aD6 (N:=N) (jJ (b:=b)) o_ 7 3 k_ k_ 7 3 rfl rfl;have hl:(am (b++ar 7 3)).length=b.length+3:=by rw[cT,al,dL]
 obtain⟨r,hr⟩:∃ r,r=(b.length+3) % 8:=⟨_,rfl⟩
 have t1:((b.length:Int)+3).tmod 8=(r:Int):=by rw[kj o_];omega
 have t2:(8-(r:Int)).tmod 8=(((8-r) % 8:Nat):Int):=by rw[kj o_];omega
 have e:b++ar 7 3++List.replicate ((8-r) % 8) 0=Ax (b++ar 7 3):=by rw[Ax,Lj,al,dL,hr]
 have h2:=fun h K hK=>aru (h:=h) (b:=b++ar 7 3) g_ ((8-r) % 8) o_ K hK
 rw[e]at h2;have h3:=fun h=>h2 h _ t2
 generalize Ax (b++ar 7 3)=B2 at *;generalize b++ar 7 3=B1 at *;simp (maxSteps:=300000) (disch:=omega) [↓ac,↓aa,h1,hl,t1,h3]
def ahj (A0 A1 A2 A3 Z:AV) (l:C_) (hl:l.length<=269) (hl2:∀ n∈l,n<=255) (hZ:fu Z (am l)) (b:C_) (hb:b.length<=700000000) (N:Nat) (T:VC) :
  (Dn prog).code (.seq (.seq qL
 (.seq qM
 (.cond (.m 84)
 (.seq qS
 (.seq q9
 (.seq (.seq qW
 (.cond (.m 92)
 qR
 (.seq (K [10]) .skip)))
 (.seq (.seq rA (F 3))
 rk))))
 (.seq (.seq (K [10]) (F 3)) .skip)))) T) ⟨[(3,.ptr 1 0),(4,.ptr 2 0),(5,.fn fk [] [.ptr 2 0])],⟨[(1,.cells [A0,A1,A2,A3,Z]),(2,.cells [.own false 1 (am b)])],N⟩⟩ =
  (Dn prog).code T ⟨[(4,.ptr 2 0),(5,.fn fk [] [.ptr 2 0])],⟨[(2,.cells [.own false 1 (am (b++mq l))])],N⟩⟩:=by
 obtain⟨⟨z1,z2,z3⟩,z4,z5⟩:=hZ.facts;have zl:=cT (l:=l);have hu:=U2 l o_ hl2 Z hZ;have ul:=ov (l:=l);have uz:=cT (l:=fF l);by_cases h0:l.length=0
 .have:l=[]:=ax h0;rw[mq,ac this,bg];simp (maxSteps:=300000) (disch:=omega) [↓ac,↓aa,-bw,z1,z2,z3,z4,z5]
 have hne:l≠[]:=fun h=>h0 (by rw[h];rfl)
 have hze:=hZ.ne fun h=>h0 (by rw[h]at zl;exact zl.symm)
 subst hze;rw[mq,aa hne];have p1:=HF (al5 [A0,A1,A2,A3,.d (.lst (am l))]) (N:=N) (jJ (b:=b)) o_ 6 3 k_ k_ 6 3 rfl rfl;have p2:=fun nI h=>HF (al5 [A0,A1,A2,A3,.d (.lst (am l))]) (N:=N) (jJ (b:=b++ar 6 3)) g_ (min l.length 15) 4 k_ o_ nI 4 h rfl
 by_cases h15:15<=l.length
 .have p3:=HF (al5 [A0,A1,A2,A3,.d (.lst (am l))]) (N:=N) (jJ (b:=b++ar 6 3++ar (min l.length 15) 4)) g_ (l.length-14) 8 k_ o_ ((l.length:Int)-14) 8 o_ rfl;rw[ac h15];simp only[<-aA];have hl3:(b++ar 6 3++ar (min l.length 15) 4++ar (l.length-14) 8).length<=800000000:=by simp;omega
  have e:am (b++ar 6 3++ar (min l.length 15) 4++ar (l.length-14) 8)++am (fF l)=am (b++ar 6 3++ar (min l.length 15) 4++ar (l.length-14) 8++fF l):=QR.symm;generalize b++ar 6 3++ar (min l.length 15) 4++ar (l.length-14) 8++fF l=B9 at *;generalize b++ar 6 3++ar (min l.length 15) 4++ar (l.length-14) 8=B3 at *;generalize b++ar 6 3++ar (min l.length 15) 4=B2 at *;generalize b++ar 6 3=B1 at *;generalize fF l=U at *;by_cases h16:15<l.length
  .have p2:=p2 15 o_;simp (maxSteps:=300000) (disch:=omega) [↓ac,↓aa,-bw,z1,z2,z3,z4,z5,p1,p2,p3,hu,e]
  .have p2:=p2 l.length o_;simp (maxSteps:=300000) (disch:=omega) [↓ac,↓aa,-bw,z1,z2,z3,z4,z5,p1,p2,p3,hu,e]
 .rw[aa h15,aO];simp only[<-aA];have hl3:(b++ar 6 3++ar (min l.length 15) 4).length<=800000000:=by simp;omega
  have e:am (b++ar 6 3++ar (min l.length 15) 4)++am (fF l)=am (b++ar 6 3++ar (min l.length 15) 4++fF l):=QR.symm;generalize b++ar 6 3++ar (min l.length 15) 4++fF l=B9 at *;generalize b++ar 6 3++ar (min l.length 15) 4=B2 at *;generalize b++ar 6 3=B1 at *;generalize fF l=U at *;have p2:=p2 l.length o_;simp (maxSteps:=300000) (disch:=omega) [↓ac,↓aa,-bw,z1,z2,z3,z4,z5,p1,p2,hu,e]
def SV (f:fA):C_:=match f.chans with
 | []=>[]
 | c::_=>kX c.info
def gu (n:Int) (f:fA):C_:=if n=1 then ar 0 3++ar 0 4 else if f.common then ar 1 3++ar 0 4++ar 1 1++SV f++ar f.mask.toNat 2++tp f.bands.flatten else ar 1 3++ar 0 4++ar 0 1
def oL (R:Nat) (n:Int) (f:fA):C_:=Ax (gu n f++iy R f.common f.chans++mq f.fill++ar 7 3)
def ab2 {k:Nat}:∀ {l:S_},(∀ x∈l,x.length<=k)->l.flatten.length<=k*l.length
 | [],_=>by simp
 | x::r,h=>by
  have a:=h x (.head _);have b:=ab2 (l:=r) fun y hy=>h y (.tail _ hy)
  rw[dq,al,aq,Nat.mul_add];omega
def ab9 {R:Nat}(hR:R<=11) {n:Int}{f:fA}(ok:Ab R n f):f.bands.flatten.length<=320:=by
 have h:=ok.rest
 cases hc:f.chans with
 | nil=>rw[hc]at h;exact h.elim
 | cons c r =>
  rw[hc]at h;have hm:=ok.may c (by rw[hc];exact .head _);have hmx:=jK (gh hR hm.info);obtain⟨g1,g2⟩:=dG (gh hR hm.info);have hmm:c.info.many<=8:=by unfold aL.many;split<;>omega
  have hgl:c.info.groups.length<=8:=by have:=mE (fun n hn=>(g1 n hn).1);omega
  simp only[HM]at h;split at h
  .obtain⟨_,h⟩:=h;split at h
   .obtain⟨h1,h2⟩:=h;have:=ab2 (k:=40) (l:=f.bands) fun x hx=>by have:=h2 x hx;omega
    omega
   .rw[h];simp
  .rw[h.2];simp
def fu.view {x:AV}{l:E_}(h:fu x l):(∀ hp,viewArg hp x=some x)∧tB x=false:=by
 rcases h with rfl | ⟨rfl,rfl⟩<;>exact⟨fun _=>rfl,rfl⟩
def Ld (R:Nat) (hR:R<=11) (n:Int) (hn:n=1∨n=2) (cb:Bool) (cz:Int) (f:fA) (hf:f.Fit) (ok:Ab R n f) (X Y Z:AV) (hX:fu X (dt f.chans)) (hY:fu Y (dr f.bands)) (hZ:fu Z (am f.fill)) :
  br prog F5 [nR R n cb cz,wg f X Y Z]=some (.own true 1 (am (oL R n f))):=by
 obtain⟨⟨y1,y2,y3⟩,y4,y5⟩:=hY.facts;obtain⟨⟨z1,z2,z3⟩,z4,z5⟩:=hZ.facts;have hlen:=ok.len;have hfl:=ok.fill;have hmk:=ok.mask;have hne:dt f.chans≠[]:=fun h=>by have:=bl List.length h;rw[Dt,bu]at this;omega
 have hxe:=hX.ne hne;subst hxe;have hmay:∀ c∈f.chans,c.Fit∧mR R c:=fun c hc=>⟨hf.chans.2 c hc,ok.may c hc⟩
 have hcl:=Pc hR (q:=f.common) hmay;have hbl:=ab9 hR ok;have hr:dV R:=by simp only[dV];omega
 rw[aJ adN adc rfl];obtain⟨T,hT⟩:∃ T,T=(VC.seq (.seq qL
 (.seq qM
 (.cond (.m 84)
 (.seq qS
 (.seq q9
 (.seq (.seq qW
 (.cond (.m 92)
 qR
 (.seq (K [10]) .skip)))
 (.seq (.seq rA (F 3))
 rk))))
 (.seq (.seq (K [10]) (F 3)) .skip))))
 (.seq qP
 (.seq qX
 .ret))):=⟨_,rfl⟩
 rw[<-hT];have hfill:(mq f.fill).length<=10000:=by
  unfold mq;split
  .simp
  .simp only[al,dL,ov];split<;>simp<;>omega
 have hTr:∀ (b:C_) (N:Nat),b.length<=600000000->(Dn prog).code T ⟨[(3,.ptr 1 0),(4,.ptr 2 0),(5,.fn fk [] [.ptr 2 0])],⟨[(1,.cells [.d (.lst (dt f.chans)),B_ f.common,A_ f.mask,Y,Z]),(2,.cells [.own false 1 (am b)])],N⟩⟩=some (.ret,⟨[(4,.ptr 2 0)],⟨[(2,.cells [.own false 1 (am (Ax (b++mq f.fill++ar 7 3)))])],N⟩⟩):=by
  intro b N hb;rw[hT,ahj _ _ _ _ Z f.fill hfl hf.fillI hZ b o_ N _,ai3 _ (by rw[al];omega)]
 have hL:=fun(b:C_) (hb:b.length<=1000)=>amm R hR n (B_ cb) (A_ cz) f (.d (.lst (dt f.chans))) f.mask Y Z f.chans o_ hmay f.chans 0 3 b rfl o_ (ai _)
 have c0:((0:Nat):Int)=0:=rfl;simp only[c0,Ya]at hL;have pp:=fun {x:AV}{b:C_}(hx:inB x b) (hb:b.length<=1000)=>HF (axK [A_ R,A_ n,B_ cb,A_ cz] [.d (.lst (dt f.chans)),B_ f.common,A_ f.mask,Y,Z]) (N:=3) hx (by omega)
 simp only[Ya]at pp;by_cases hn1:n=1
 .subst hn1;have q1:=pp (.inr (.inr ⟨rfl,rfl⟩)) s_ 0 3 k_ k_ 0 3 rfl rfl;have q2:=pp (jJ (b:=[]++ar 0 3)) s_ 0 4 k_ k_ 0 4 rfl rfl;have e:gu 1 f=[]++ar 0 3++ar 0 4:=by rw[gu,ac rfl];rfl
  obtain⟨M,h1⟩:=hL (gu 1 f) (by rw[e];simp);have h2:=hTr (gu 1 f++iy R f.common f.chans) M (by rw[al,e];simp;omega);have ew:Ax (gu 1 f++iy R f.common f.chans++mq f.fill++ar 7 3)=oL R 1 f:=rfl;rw[<-e]at q2;rw[ew]at h2;generalize oL R 1 f=W at *;generalize gu 1 f++iy R f.common f.chans=B2 at *;generalize gu 1 f=B1 at *;generalize []++ar 0 3=B0 at *;simp (maxSteps:=300000) (disch:=omega) [↓ac,↓aa,-bw,y1,y2,y3,y4,y5,z1,z2,z3,z4,z5,q1,q2,h1,h2]
 have hn2:n=2:=o_;subst hn2
 cases hch:f.chans with
 | nil=>rw[hch]at hlen;simp at hlen
 | cons c r =>
 have hdr:f.chans.drop 0=c::r:=hch;obtain⟨k0,g0⟩:=aI.1 (Ad hdr);have hcm:=ok.may c (by rw[hch];exact .head _);rw[<-hch];have q1:=pp (.inr (.inr ⟨rfl,rfl⟩)) s_ 1 3 k_ k_ 1 3 rfl rfl;have q2:=pp (jJ (b:=[]++ar 1 3)) s_ 0 4 k_ k_ 0 4 rfl rfl;have hb1:=aj9 f.common;have xl:=Dt (l:=f.chans)
 cases hco:f.common with
 | false =>
  have q3:=pp (jJ (b:=[]++ar 1 3++ar 0 4)) s_ 0 1 k_ k_ 0 1 rfl rfl;have e:gu 2 f=[]++ar 1 3++ar 0 4++ar 0 1:=by rw[gu,aa k_,hco];rfl
  obtain⟨M,h1⟩:=hL (gu 2 f) (by rw[e];simp);have h2:=hTr (gu 2 f++iy R f.common f.chans) M (by rw[al,e];simp;omega);have ew:Ax (gu 2 f++iy R f.common f.chans++mq f.fill++ar 7 3)=oL R 2 f:=rfl;rw[<-e]at q3;rw[ew]at h2;rw[hco]at q1 q2 q3 h1 h2 hb1;generalize oL R 2 f=W at *;generalize gu 2 f++iy R false f.chans=B2 at *;generalize gu 2 f=B1 at *;generalize []++ar 1 3++ar 0 4=B00 at *;generalize []++ar 1 3=B0 at *;simp only[cond]at hb1;simp (maxSteps:=300000) (disch:=omega) [↓ac,↓aa,-bw,y1,y2,y3,y4,y5,z1,z2,z3,z4,z5,hco,hb1,q1,q2,q3,h1,h2]
 | true =>
  have ht:=ok.rest;simp only[hch,HM,hco,bf]at ht;have hil:=J6 (i:=c.info);have q3:=pp (jJ (b:=[]++ar 1 3++ar 0 4)) s_ 1 1 k_ k_ 1 1 rfl rfl;have q4:=agy ([]++ar 1 3++ar 0 4++ar 1 1) s_ _ (.inl rfl) R c.info (hf.chans.2 c (by rw[hch];exact .head _)).info;rw[ac hr,au,ac hcm.info]at q4;have q5:=pp (jJ (b:=[]++ar 1 3++ar 0 4++ar 1 1++kX c.info)) g_ f.mask.toNat 2 k_ o_ f.mask 2 o_ rfl;have q6:=alG [A_ R,A_ 2,B_ cb,A_ cz] [.d (.lst (dt f.chans)),B_ true,A_ f.mask,Y,Z] f.bands.flatten o_ 3 f.bands.flatten 0 ([]++ar 1 3++ar 0 4++ar 1 1++kX c.info++ar f.mask.toNat 2) rfl (by simp only[al,dL,bu];omega);obtain⟨v,v1,v2⟩:=auK f.bands hf.bands.1 o_ Y hY;have e:gu 2 f=[]++ar 1 3++ar 0 4++ar 1 1++kX c.info++ar f.mask.toNat 2++tp f.bands.flatten:=by rw[gu,aa k_,hco,ac rfl,SV,hch];rfl
  have hml:=QK (l:=f.bands.flatten);obtain⟨M,h1⟩:=hL (gu 2 f) (by rw[e];simp;omega);have h2:=hTr (gu 2 f++iy R f.common f.chans) M (by rw[al,e];simp;omega);have ew:Ax (gu 2 f++iy R f.common f.chans++mq f.fill++ar 7 3)=oL R 2 f:=rfl;rw[<-e]at q6;rw[ew]at h2;rw[hco]at q1 q2 q3 q5 h1 h2 hb1;rw[c0]at q6;simp only[Ya,aL.cells]at q4 q6;generalize oL R 2 f=W at *;generalize gu 2 f++iy R true f.chans=B2 at *;generalize gu 2 f=B1 at *;generalize []++ar 1 3++ar 0 4++ar 1 1++kX c.info++ar f.mask.toNat 2=B04 at *;generalize []++ar 1 3++ar 0 4++ar 1 1++kX c.info=B03 at *;generalize []++ar 1 3++ar 0 4++ar 1 1=B02 at *;generalize []++ar 1 3++ar 0 4=B01 at *;generalize []++ar 1 3=B0 at *;obtain⟨vw1,vw2⟩:=hY.view;have hfv:lenOf (share (aD 1 (gE f.bands.flatten)))=some f.bands.flatten.length:=by
   rw[<-sQ (l:=f.bands.flatten)]
   cases gE f.bands.flatten<;>rfl
  simp only[cond]at hb1;clear e hbl hml;generalize f.bands.flatten=FL at *;simp (maxSteps:=300000) (disch:=omega) [↓ac,↓aa,-bw,y1,y2,y3,y4,y5,z1,z2,z3,z4,z5,hco,g0,hb1,q1,q2,q3,q4,q5,q6,vw1,vw2,v1,v2,hfv,h1,h2]
def Cx (rt n:Int):Prop:=dV rt∧(n=1∨n=2)
def Ys (rt n:Int) (cb:Bool) (cz:Int):(Cx rt n∧br prog Jc [nR rt n cb cz]=some (B_ true))∨(¬ Cx rt n∧br prog Jc [nR rt n cb cz]=some (B_ false)):=by
 rw[aJ agK ahv rfl];by_cases h1:0<=rt
 rotate_left
 .refine .inr ⟨fun h=>h1 h.1.1,?_⟩;simp (maxSteps:=300000) (disch:=omega) [↓ac,↓aa]
 by_cases h2:rt<=11
 rotate_left
 .refine .inr ⟨fun h=>h2 h.1.2,?_⟩;simp (maxSteps:=300000) (disch:=omega) [↓ac,↓aa]
 by_cases h3:n=1
 .refine .inl ⟨⟨⟨h1,h2⟩,.inl h3⟩,?_⟩;simp (maxSteps:=300000) (disch:=omega) [↓ac,↓aa,h3]
 by_cases h4:n=2
 .refine .inl ⟨⟨⟨h1,h2⟩,.inr h4⟩,?_⟩;simp (maxSteps:=300000) (disch:=omega) [↓ac,↓aa,h4]
 .refine .inr ⟨fun h=>h.2.elim h3 h4,?_⟩;simp (maxSteps:=300000) (disch:=omega) [↓ac,↓aa,h3,h4]
def akc {R:Nat}(hR:R<=11) {n:Int}{f:fA}(hf:f.Fit) (ok:Ab R n f) (hn:n<=2):(oL R n f).length<=400000000:=by
 have h1:=Pc hR (q:=f.common) (l:=f.chans) fun c hc=>⟨hf.chans.2 c hc,ok.may c hc⟩
 have h2:=ab9 hR ok;have h3:=QK (l:=f.bands.flatten);have h4:=ok.len;have h5:=ok.fill;have h6:(mq f.fill).length<=10000:=by
  unfold mq;split
  .simp
  .simp only[al,dL,ov];split<;>simp<;>omega
 have h7:(SV f).length<=20:=by
  unfold SV;split
  .simp
  .exact J6
 have h8:(gu n f).length<=1000:=by
  unfold gu;split
  .simp
  .split
   .simp only[al,dL];omega
   .simp
 have h9:∀ m,Lj m<=7:=fun m=>by unfold Lj;omega
 have h10:=h9 (gu n f++iy R f.common f.chans++mq f.fill++ar 7 3).length;rw[oL,Ax,al,bi];simp only[al,dL]at h10⊢;omega
theorem fu.one {x:AV}{l:E_}(h:fu x l):((∀ hp,viewOne hp x=some x)∧oF x=x)∧vw x=false:=by
 rcases h with rfl | ⟨rfl,rfl⟩<;>exact⟨⟨fun _=>rfl,rfl⟩,rfl⟩
def V7 (rt n:Int) (cb:Bool) (cz:Int) (f:fA) (hf:f.Fit) (X Y Z:AV) (hX:fu X (dt f.chans)) (hY:fu Y (dr f.bands)) (hZ:fu Z (am f.fill)) :
  (Cx rt n∧Ab rt.toNat n f∧br prog Hm [nR rt n cb cz,wg f X Y Z]=some (.tup [A_ ((oL rt.toNat n f).length),A_ 0]))∨
  (¬ (Cx rt n∧Ab rt.toNat n f)∧∃ e:Int,e≠0∧br prog Hm [nR rt n cb cz,wg f X Y Z]=some (.tup [A_ 0,A_ e])):=by
 obtain⟨⟨x1,x2,x3⟩,x4,x5⟩:=hX.facts;obtain⟨⟨y1,y2,y3⟩,y4,y5⟩:=hY.facts;obtain⟨⟨z1,z2,z3⟩,z4,z5⟩:=hZ.facts;obtain⟨⟨vx,ux⟩,wx⟩:=hX.one;obtain⟨⟨vy,uy⟩,wy⟩:=hY.one;obtain⟨⟨vz,uz⟩,wz⟩:=hZ.one;have hcf:=Ys rt n cb cz;simp only[nR,wg]at hcf;rcases hcf with ⟨hc,ec⟩ | ⟨hc,ec⟩
 rotate_left
 .refine .inr ⟨fun h=>hc h.1,2,k_,?_⟩;rw[aJ NH Nd rfl];simp (maxSteps:=300000) (disch:=omega) [↓ac,↓aa,-bw,x1,x2,x3,x4,y1,y2,y3,y4,z1,z2,z3,z4,ec]
 have hrg:=aoi rt n cb cz hc.1 hc.2 f hf X Y Z hX hY hZ;simp only[nR,wg]at hrg;rcases hrg with ⟨hr,er⟩ | ⟨hr,er⟩
 rotate_left
 .refine .inr ⟨fun h=>hr h.2,8,k_,?_⟩;rw[aJ NH Nd rfl];simp (maxSteps:=300000) (disch:=omega) [↓ac,↓aa,-bw,x1,x2,x3,x4,y1,y2,y3,y4,z1,z2,z3,z4,ux,uy,uz,vx,vy,vz,wx,wy,wz,ec,er]
 refine .inl ⟨hc,hr,?_⟩;obtain⟨R,rfl⟩:=aB hc.1.1;simp only[au]at hr⊢;have hR:R<=11:=by have:=hc.1.2;omega
 have hw:=Ld R hR n hc.2 cb cz f hf hr X Y Z hX hY hZ;have hwl:=akc hR hf hr (by rcases hc.2 with h | h<;>omega);have hbl:=cT (l:=oL R n f);simp only[nR,wg]at hw;generalize oL R n f=W at *;rw[aJ NH Nd rfl];simp (maxSteps:=300000) (disch:=omega) [↓ac,↓aa,-bw,x1,x2,x3,x4,y1,y2,y3,y4,z1,z2,z3,z4,ux,uy,uz,vx,vy,vz,wx,wy,wz,ec,er,hw]
def abK (rt n:Int) (cb:Bool) (cz:Int) (f:fA) (hf:f.Fit) (X Y Z:AV) (hX:fu X (dt f.chans)) (hY:fu Y (dr f.bands)) (hZ:fu Z (am f.fill)) :
  (Cx rt n∧Ab rt.toNat n f∧((oL rt.toNat n f).length:Int)<=1536*n∧br prog yW [nR rt n cb cz,wg f X Y Z]=some (A_ 0))∨
  (¬ (Cx rt n∧Ab rt.toNat n f∧((oL rt.toNat n f).length:Int)<=1536*n)∧∃ e:Int,e≠0∧br prog yW [nR rt n cb cz,wg f X Y Z]=some (A_ e)):=by
 obtain⟨⟨x1,x2,x3⟩,x4,x5⟩:=hX.facts;obtain⟨⟨y1,y2,y3⟩,y4,y5⟩:=hY.facts;obtain⟨⟨z1,z2,z3⟩,z4,z5⟩:=hZ.facts;obtain⟨⟨vx,ux⟩,wx⟩:=hX.one;obtain⟨⟨vy,uy⟩,wy⟩:=hY.one;obtain⟨⟨vz,uz⟩,wz⟩:=hZ.one;have hb:=V7 rt n cb cz f hf X Y Z hX hY hZ;simp only[nR,wg]at hb;rw[aJ aiL ajt rfl];rcases hb with ⟨hc,hr,eb⟩ | ⟨hx,e,he,eb⟩
 .have hwl:=akc (by have:=hc.1;omega) hf hr (by rcases hc.2 with h | h<;>omega);have hn:=hc.2;by_cases hl:((oL rt.toNat n f).length:Int)<=1536*n
  .refine .inl ⟨hc,hr,hl,?_⟩;generalize oL rt.toNat n f=W at *;simp (maxSteps:=300000) (disch:=omega) [↓ac,↓aa,-bw,x1,x2,x3,x4,y1,y2,y3,y4,z1,z2,z3,z4,ux,uy,uz,vx,vy,vz,wx,wy,wz,eb]
  .refine .inr ⟨fun h=>hl h.2.2,9,k_,?_⟩;generalize oL rt.toNat n f=W at *;simp (maxSteps:=300000) (disch:=omega) [↓ac,↓aa,-bw,x1,x2,x3,x4,y1,y2,y3,y4,z1,z2,z3,z4,ux,uy,uz,vx,vy,vz,wx,wy,wz,eb]
 .refine .inr ⟨fun h=>hx ⟨h.1,h.2.1⟩,e,he,?_⟩;simp (maxSteps:=300000) (disch:=omega) [↓ac,↓aa,-bw,x1,x2,x3,x4,y1,y2,y3,y4,z1,z2,z3,z4,ux,uy,uz,vx,vy,vz,wx,wy,wz,eb,he]
def F0:fA:=⟨[c0],false,0,[],[]⟩
def awc:∃ p,br prog Qe []=some (.tup [nR 0 1 false 0,.agg [.own p 9 (dt [c0]),B_ false,A_ 0,.nl,.nl],B_ true]):=⟨false,DV 600 (by kernel_rfl)⟩
def azf:mR 0 c0:=by
 rcases OB 0 c0 aoh with ⟨_,h,_⟩ | ⟨_,_,h⟩ | ⟨_,h⟩
 .exact h
 .rw[afZ]at h;simp at h
 .rw[afZ]at h;simp at h
def afI:F0.Fit where
 chans:=⟨by simp[F0],fun c hc=>by simp only[F0,az,cQ,fh]at hc;subst hc;exact aoh⟩
 mask:=k_
 bands:=by simp[F0]
 fill:=by simp[F0]
 fillI:=by simp[F0]
def aeo:Cx 0 1∧Ab 0 1 F0:=by
 refine⟨⟨k_,.inl rfl⟩,rfl,k_,k_,fun c hc=>?_,?_⟩
 .simp only[F0,az,cQ,fh]at hc;subst hc;exact azf
 .exact⟨rfl,rfl⟩
def aaT:oL 0 1 F0=List.replicate 29 0++[1,1,1]:=e_
def awt:br prog K7 [.d (.lst (am (List.replicate 29 0++[1,1,1])))]=some (.tup [.own true 1 (am [0,0,0,7]),A_ 0]):=DV 600 (by kernel_rfl)
def awD:br prog Hm [nR 0 1 false 0,.agg [.d (.lst (dt [c0])),B_ false,A_ 0,.nl,.nl]]=some (.tup [A_ 32,A_ 0]):=by
 rcases V7 0 1 false 0 F0 afI (.d (.lst (dt [c0]))) .nl .nl fu.d (.inr ⟨rfl,rfl⟩) (.inr ⟨rfl,rfl⟩) with ⟨_,_,h⟩ | ⟨h,_⟩
 .rw[show (0:Int).toNat=0 from rfl,aaT]at h;exact h
 .exact absurd aeo h
def aqK:br prog ER [nR 0 1 false 0,.agg [.d (.lst (dt [c0])),B_ false,A_ 0,.nl,.nl]]=some (.tup [.own true 1 (am [0,0,0,7]),A_ 0]):=by
 have h1:br prog yW [nR 0 1 false 0,.agg [.d (.lst (dt [c0])),B_ false,A_ 0,.nl,.nl]]=some (A_ 0):=by
  rcases abK 0 1 false 0 F0 afI (.d (.lst (dt [c0]))) .nl .nl fu.d (.inr ⟨rfl,rfl⟩) (.inr ⟨rfl,rfl⟩) with ⟨_,_,_,h⟩ | ⟨h,_⟩
  .exact h
  .exact absurd ⟨aeo.1,aeo.2,by rw[show (0:Int).toNat=0 from rfl,aaT];decide⟩ h
 have h2:br prog F5 [nR 0 1 false 0,wg F0 (.d (.lst (dt [c0]))) .nl .nl]=_:=Ld 0 k_ 1 (.inl rfl) false 0 F0 afI aeo.2 (.d (.lst (dt [c0]))) .nl .nl fu.d (.inr ⟨rfl,rfl⟩) (.inr ⟨rfl,rfl⟩);have h3:=awt;rw[aaT]at h2;simp only[nR,wg,show F0.common=false from rfl,show F0.mask=0 from rfl]at h1 h2⊢;generalize dt [c0]=C at *;generalize List.replicate 29 0++[1,1,1]=B at *;rw[aJ Kv KB rfl];simp (maxSteps:=300000) (disch:=omega) [↓ac,↓aa,h1,h2,h3]
def alu:br prog AP []=some (B_ true):=by
 obtain⟨p,h1⟩:=awc;have h2:=awD;have h3:=aqK;simp only[nR]at h1 h2 h3;obtain⟨C,hC⟩:∃ C,C=dt [c0]:=⟨_,rfl⟩
 rw[<-hC]at h1 h2 h3;rw[show am [0,0,0,7]=[[.int .u8 0],[.int .u8 0],[.int .u8 0],[.int .u8 7]] from rfl]at h3;rw[aJ L5 Mw rfl];simp (maxSteps:=300000) (disch:=omega) [↓ac,↓aa,h1,h2,h3]
def R9 {m:Nat}{xs:E_}:fu (share (aD m xs)) xs:=by
 cases xs with
 | nil=>exact .inr ⟨rfl,rfl⟩
 | cons x r=>exact .inl rfl
def avn {n:Nat}:List.replicate n [D.bool false]=gE (List.replicate n false):=by simp[gE]
def x0T (sh:Bool):Nat:=if sh then 1 else 2
def x1T (sh:Bool):Nat:=if sh then 4 else 6
def x2T (sh:Bool):Nat:=if sh then 3 else 5
def WF (b:C_) (i:aL) (a:Int):Option (N_×Bool×RS):=py b (x0T i.short) (x1T i.short) (x2T i.short) i.many false ⟨a,0⟩
def Oj (b:C_) (i:aL) (a:Int):R N_ :=
 match WF b i a with
 | none=>.er 7
 | some (t,o,st)=>if st.e≠0 then .er (st.e-1) else if o then .er 7 else .ok t st.a.toNat
def WW {b:C_}{x1 x2:Nat}{fine:Bool}:∀ {k:Nat}{o:Bool}{st:RS}{l:AA_}{o2:Bool}{st2:RS},jh b x1 x2 fine k o st=some (l,o2,st2)->l.length=k∧∀ f∈l,f.coefs.length<=12
 | 0,o,st,l,o2,st2,e=>by
  rw[jh]at e;injection e with e
  injection e with e1 e
  subst e1;exact⟨rfl,s_⟩
 | k+1,o,st,l,o2,st2,e=>by
  rw[jh]at e;split at e
  .exact absurd e (by simp)
  .rename_i hbad
   cases hq:jh b x1 x2 fine k (o || JQ b x1 x2 fine st) (yj b x1 x2 fine st) with
   | none=>rw[hq]at e;exact absurd e (by simp)
   | some q =>
    obtain⟨q1,q2,q3⟩:=q;rw[hq]at e;injection e with e;injection e with e1 e
    obtain⟨i1,i2⟩:=WW hq;subst e1;refine⟨by simp[i1],fun f hf=>?_⟩;rcases az.1 hf with rfl | hf
    .unfold Me;split
     .simp
     .rename_i h0;simp only[aaU];have he:(yR b x1 x2 st).e=0:=ax9 h0;rcases bB 12 (r5 b x1 x2 st) with h | h
      .exact absurd ⟨h,he⟩ hbad
      .exact h
    .exact i2 f hf
def Xp {b:C_}{x0 x1 x2:Nat}(hb:b.length<=1000000000) (h2:x0<=2):∀ {k:Nat}{o:Bool}{st:RS}{t:N_}{o2:Bool}{st2:RS},st.fit->py b x0 x1 x2 k o st=some (t,o2,st2)->st2.fit∧t.length=k∧∀ l∈t,l.length<=3∧∀ f∈l,f.coefs.length<=12
 | 0,o,st,t,o2,st2,h,e=>by
  rw[py]at e;injection e with e
  injection e with e1 e
  injection e with e2 e3
  subst e1 e3;exact⟨h,rfl,s_⟩
 | k+1,o,st,t,o2,st2,h,e=>by
  rw[py]at e
  cases hq:jh b x1 x2 (Sn b x0 st) (sV b st x0) o (Dh b x0 st) with
  | none=>rw[hq]at e;exact absurd e (by simp)
  | some q =>
   obtain⟨q1,q2,q3⟩:=q;rw[hq]at e;simp only at e
   cases hw:py b x0 x1 x2 k q2 q3 with
   | none=>rw[hw]at e;exact absurd e (by simp)
   | some w =>
    obtain⟨w1,w2,w3⟩:=w;rw[hw]at e;injection e with e;injection e with e1 e
    injection e with e2 e3
    obtain⟨f1,f2⟩:=Vk hb (aj6 hb h) hq;obtain⟨i1,i2,i3⟩:=Xp hb h2 f1 hw;obtain⟨j1,j2⟩:=WW hq;have v1:=vV (b:=b) (st:=st) (s:=x0);have k1:2 ^ x0<=2 ^ 2:=aw o_ h2;simp only[au]at v1;subst e1 e3;refine⟨i1,by simp[i2],fun l hl=>?_⟩;rcases az.1 hl with rfl | hl
    .exact⟨o_,j2⟩
    .exact i3 l hl
abbrev pTn (b:C_) (i:aL) (t:N_) (n:Nat):Prop:=t.length=i.many∧n<=b.length∧∀ l∈t,l.length<=3∧∀ f∈l,f.coefs.length<=12
def arc {h:ak}{t:N_}{n e:Int}(ht:t≠[]):gQ h (.tup [aD 1 (cK t),A_ n,A_ e])=some (.tup [aD 1 (cK t),A_ n,A_ e]):=by
 cases t with
 | nil=>exact absurd rfl ht
 | cons x r=>rfl
def RS.inB (b:C_) (st:RS):Prop:=0<=st.a∧st.a<=b.length
def EJ {b:C_}{st:RS}{s:Int}(h:st.e=0∨st.inB b):(sN b st s).inB b:=by
 unfold sN;split
 .have:=ali (b:=b) (a:=st.a) (s:=s);show 0<=_∧_;simp only[];omega
 .rename_i he;exact h.resolve_left he
def aqi {b:C_}{sz:Nat}:∀ {k:Nat}{st:RS},st.inB b->(wH b sz k st).inB b
 | 0,_,h=>h
 | _+1,_,h=>by rw[wH];exact aqi (EJ (.inr h))
def ay5 {b:C_}{x1 x2:Nat}{fine:Bool}{st:RS}(h:st.inB b):(yj b x1 x2 fine st).inB b:=by
 unfold yj;split
 .exact EJ (.inr (EJ (.inr h)))
 .exact aqi (EJ (.inr (EJ (.inr (EJ (.inr (EJ (.inr h))))))))
def akm {b:C_}{x1 x2:Nat}{fine:Bool}:∀ {k:Nat}{o:Bool}{st:RS}{l:AA_}{o2:Bool}{st2:RS},st.inB b->jh b x1 x2 fine k o st=some (l,o2,st2)->st2.inB b
 | 0,o,st,l,o2,st2,h,e=>by
  rw[jh]at e;injection e with e
  injection e with e1 e
  injection e with e2 e3
  subst e3;exact h
 | k+1,o,st,l,o2,st2,h,e=>by
  rw[jh]at e;split at e
  .exact absurd e (by simp)
  .cases hq:jh b x1 x2 fine k (o || JQ b x1 x2 fine st) (yj b x1 x2 fine st) with
   | none=>rw[hq]at e;exact absurd e (by simp)
   | some q =>
    obtain⟨q1,q2,q3⟩:=q;rw[hq]at e;injection e with e;injection e with e1 e
    injection e with e2 e3
    subst e3;exact akm (ay5 h) hq
def aw2 {b:C_}{x0:Nat}{st:RS}(h:st.e=0∨st.inB b):(Dh b x0 st).inB b:=by
 unfold Dh;split
 .exact EJ (.inr (EJ h))
 .exact EJ h
def aae {b:C_}{x0 x1 x2:Nat}:∀ {k:Nat}{o:Bool}{st:RS}{t:N_}{o2:Bool}{st2:RS},st.inB b∨(st.e=0∧1<=k)->py b x0 x1 x2 k o st=some (t,o2,st2)->st2.inB b
 | 0,o,st,t,o2,st2,h,e=>by
  rw[py]at e;injection e with e
  injection e with e1 e
  injection e with e2 e3
  subst e3;rcases h with h | ⟨_,h⟩
  .exact h
  .omega
 | k+1,o,st,t,o2,st2,h,e=>by
  rw[py]at e
  cases hq:jh b x1 x2 (Sn b x0 st) (sV b st x0) o (Dh b x0 st) with
  | none=>rw[hq]at e;exact absurd e (by simp)
  | some q =>
   obtain⟨q1,q2,q3⟩:=q;rw[hq]at e;simp only at e
   cases hw:py b x0 x1 x2 k q2 q3 with
   | none=>rw[hw]at e;exact absurd e (by simp)
   | some w =>
    obtain⟨w1,w2,w3⟩:=w;rw[hw]at e;injection e with e;injection e with e1 e
    injection e with e2 e3
    subst e3;have h0:st.e=0∨st.inB b:=by rcases h with h | ⟨h,_⟩;exact .inr h;exact .inl h
    exact aae (.inl (akm (aw2 h0) hq)) hw
def zk (i:aL):1<=i.many∧i.many<=8:=by unfold aL.many;split<;>omega
theorem aqp {b:C_}{i:aL}{a:Int}(hb:b.length<=1000000000) (ha:i64 a) {t:N_}{n:Nat}(h:Oj b i a=.ok t n):pTn b i t n:=by
 rw[Oj]at h
 cases hq:WF b i a with
 | none=>rw[hq]at h;exact absurd h (by simp)
 | some q =>
  obtain⟨t',o,st⟩:=q;rw[hq]at h;simp only at h;rw[WF]at hq;obtain⟨j1,j2,j3⟩:=Xp (st:=⟨a,0⟩) hb (by unfold x0T;split<;>omega) (show RS.fit ⟨a,0⟩ from ha) hq;have j4:=aae (.inr ⟨rfl,(zk i).1⟩) hq;split at h
  .exact absurd h (by simp)
  .split at h
   .exact absurd h (by simp)
   .injection h with g1 g2
    subst g1 g2;obtain⟨k1,k2⟩:=j4;exact⟨j2,o_,j3⟩
def ajx (b:C_) (hb:b.length<=1000000000) (a:Int) (ha:i64 a) (i:aL) (hi:i.Fit) (hm:i.may 11):br prog Pl [.d (.lst (am b)),A_ a,.agg i.cells] =
  rK (pTn b i) (Oj b i a) (fun t n=>some (.tup [aD 1 (cK t),A_ n,A_ 0])) (fun e=>some (.tup [.nl,A_ 0,A_ (e+1)])):=by
 have hw:=oi i hi;rw[ac hm]at hw;have hsz:=zp i;obtain⟨m1,m8⟩:=zk i;obtain⟨M,hM,hL⟩:=auV b hb (A_ (if i.short then 1 else 3)) (A_ (if i.short then 7 else 12)) (x0T i.short) (x1T i.short) (x2T i.short) (by unfold x0T x1T x2T;cases i.short<;>decide) i.many m8 i.many 0 5 false ⟨a,0⟩ [] o_ rfl ha (ai _);have c0:((0:Nat):Int)=0:=rfl;have n0:cK []=[]:=rfl;have hq0:py b (x0T i.short) (x1T i.short) (x2T i.short) i.many false ⟨a,0⟩=WF b i a:=rfl;have hra:ra ⟨a,0⟩=a:=rfl;have hre:re ⟨a,0⟩=0:=rfl;rw[hq0]at hL;simp only[c0,n0,qB,aO,HT,hra,hre]at hL;have hszv:lY i.short=[A_ (x0T i.short:Nat),A_ (x1T i.short:Nat),A_ (x2T i.short:Nat),A_ (if i.short then 1 else 3),A_ (if i.short then 7 else 12)]:=by
  cases i.short<;>rfl
 rw[hszv]at hsz;have hp:=fun t n=>aqp (b:=b) (i:=i) (a:=a) (t:=t) (n:=n) hb ha
 have hin0:∀ t o st,WF b i a=some (t,o,st)->st.inB b:=fun t o st h=>aae (.inr ⟨rfl,m1⟩) h
 rw[Oj]at hp⊢;rw[aJ adC adj rfl];simp only[aL.cells]at hw hsz⊢;generalize x0T i.short=X0 at *;generalize x1T i.short=X1 at *;generalize x2T i.short=X2 at *;generalize (if i.short then (1:Int) else 3)=Y3 at *;generalize (if i.short then (7:Int) else 12)=Y4 at *
 cases hq:WF b i a with
 | none =>
  rw[hq]at hL;simp only at hL⊢;rw[iK];simp (maxSteps:=300000) (disch:=omega) [↓ac,↓aa,hw,hsz,hL]
 | some q =>
  obtain⟨t,o,st⟩:=q;rw[hq]at hL hp;simp only at hL hp⊢;obtain⟨sa,se⟩:=st;by_cases he:se=0
  .subst he;have hin:=hin0 t o ⟨sa,0⟩ hq;obtain⟨k1,k2⟩:=hin;simp only at k1 k2;obtain⟨A,rfl⟩:=aB k1;have hra2:ra ⟨(A:Int),0⟩=(A:Int):=rfl;have hre2:re ⟨(A:Int),0⟩=0:=rfl;simp only[hra2,hre2,c0]at hL
   cases o with
   | true =>
    simp only[ne_eq,not_true_eq_false,bh,bf]at hp⊢;rw[iK];simp (maxSteps:=300000) (disch:=omega) [↓ac,↓aa,hw,hsz,hL]
   | false =>
    simp only[ne_eq,not_true_eq_false,bh,ao]at hp⊢;have hpt:=hp t _ rfl;have htn:t≠[]:=fun h=>by rw[h]at hpt;have:=hpt.1;simp at this;omega
    rw[eI hpt];have hrt:=fun h n e=>arc (h:=h) (n:=n) (e:=e) htn
    simp (maxSteps:=300000) (disch:=omega) [↓ac,↓aa,hw,hsz,hL,-XQ,hrt]
  .have hre2:re ⟨sa,se⟩=se:=rfl;have hse:((se-1:Nat):Int)+1=(se:Int):=o_;simp only[hre2]at hL;simp only[ne_eq,he,not_false_eq_true,bf]at hp⊢;rw[iK,hse];simp (maxSteps:=300000) (disch:=omega) [↓ac,↓aa,hw,hsz,hL,he]
abbrev Aa:D_:=[.ptr 0 0,.ptr 5 0,.ptr 4 0,.ptr 6 0]
abbrev age:AV:=.fn Lp [] [.ptr 0 0,.ptr 5 0,.ptr 6 0]
abbrev xb:D_:=[.fn yL [] Aa,.fn nL [] [.ptr 3 0,.ptr 4 0,.ptr 2 0,.ptr 0 0,.ptr 5 0,.ptr 1 0,.ptr 6 0],.fn za [] Aa,.fn yQ [] Aa,.fn zm [] [.ptr 9 0,.ptr 7 0],.fn yX [] [.ptr 9 0,.ptr 8 0],.fn nP [] [.ptr 8 0,.ptr 0 0,.ptr 5 0,.ptr 4 0,.ptr 6 0],.fn zj [] [.ptr 7 0,.ptr 9 0]]
abbrev eV (b:C_) (r:Int) (q:Bool) (iv cs:D_) (nx e od is:Int):ak:=[(0,.cells [.d (.lst (am b))]),(1,.cells [A_ r]),(2,.cells [B_ q]),(3,.cells iv),(4,.cells cs),(5,.cells [A_ nx]),(6,.cells [A_ e]),(7,.cells [A_ od]),(8,.cells [A_ is]),(9,.cells [age]),(10,.cells xb)]
def arQ {m:Nat}{xs:E_}:BJ (share (aD m xs))=share (aD m xs):=by cases xs<;>rfl
def adS (x:AV) (l:G_) (hl:l.length<=1000000000) (hx:elems [] x=some (aF l)):br prog C6 [x]=some (.own true 1 (aF l)):=by
 have hl2:(aF l).length=l.length:=iB;rw[aJ Qd P7 rfl];have h4:Nat.ble l.length 4294967296=true:=by rw[bj];omega
 rw[iI];simp (maxSteps:=300000) (disch:=omega) [cW,MT,hx,h4]
def acv (i:aL) (hi:i.groups.length<=1000000):br prog EP [.agg i.cells]=some (.agg (Sh i)):=by
 have h:=adS (.d (.lst (aF i.groups))) i.groups o_ rfl;simp only[aL.cells];rw[aJ aiU aid rfl];simp (maxSteps:=300000) (disch:=omega) [↓ac,↓aa,h]
abbrev zI:D_:=[.d (.int .u8 0),.d (.int .u8 0),A_ 0,.nl]
def amk:br prog EP [.agg zI]=some (.agg (Sh ⟨0,0,0,[]⟩)):=DV 400 (by kernel_rfl)
section
variable (b:C_) (r:Int) (q:Bool) (iv:D_) (nx od is:Int) (N:Nat)
theorem avF (hq:q=true) (i:aL) (hi:i.groups.length<=1000000) (hiv:iv=i.cells) (a0 a1 a2 a3 a4 a5 a6 a7 a8:AV):(Dn prog).call nL [.ptr 3 0,.ptr 4 0,.ptr 2 0,.ptr 0 0,.ptr 5 0,.ptr 1 0,.ptr 6 0] ⟨eV b r q iv [a0,a1,a2,a3,a4,a5,a6,a7,a8] nx 0 od is,N⟩ =
  some (.tup [],⟨eV b r q iv [a0,.d (.int .u8 i.seq),.d (.int .u8 i.shape),A_ i.max,.own false 1 (aF i.groups),a5,a6,a7,a8] nx 0 od is,N⟩):=by
 subst hq hiv;have h:=acv i hi;simp only[aL.cells,Sh]at h⊢;rw[ba UB Uo rfl];simp (maxSteps:=300000) (disch:=omega) [↓ac,↓aa,h]
def auz (i:aL) (hi:i.Fit) (hm:i.may 11) (h1:is≠1) (a0 a5 a6 a7 a8:AV):(Dn prog).call nP [.ptr 8 0,.ptr 0 0,.ptr 5 0,.ptr 4 0,.ptr 6 0] ⟨eV b r q iv [a0,.d (.int .u8 i.seq),.d (.int .u8 i.shape),A_ i.max,.own false 1 (aF i.groups),a5,a6,a7,a8] nx 0 od is,N⟩ =
  some (.tup [],⟨eV b r q iv [a0,.d (.int .u8 i.seq),.d (.int .u8 i.shape),A_ i.max,.own false 1 (aF i.groups),a5,a6,.own false 1 (cK (List.replicate i.many [])),a8] nx 0 od is,N⟩):=by
 have hw:=oi i hi;rw[ac hm]at hw;have hmm:=zk i;have hk:=DT (z:=[.lst []]) (n:=i.many) o_;have e:List.replicate i.many [D.lst []]=cK (List.replicate i.many []):=by simp[cK,ej]
 rw[e]at hk;simp only[aL.cells]at hw;rw[ba UU UT rfl];simp (maxSteps:=300000) (disch:=omega) [↓ac,↓aa,h1,hw,hk]
end
section
variable (b:C_) (hb:b.length<=1000000000) (r:Int) (q:Bool) (iv:D_) (nx od is:Int) (hn:i64 nx) (N:Nat)
include hb hn
theorem ayf (a0 a1 a2 a3 a4 a5 a6 a7 a8:AV):(Dn prog).call yL Aa ⟨eV b r q iv [a0,a1,a2,a3,a4,a5,a6,a7,a8] nx 0 od is,N⟩ =
  rK (pG b 8) (bc b nx 8) (fun v n=>some (.tup [],⟨eV b r q iv [A_ v,a1,a2,a3,a4,a5,a6,a7,a8] n 0 od is,N⟩)) (fun e=>some (.tup [],⟨eV b r q iv [A_ 0,a1,a2,a3,a4,a5,a6,a7,a8] 0 (e+1) od is,N⟩)):=by
 have h:=il b nx 8 hb hn;rw[ba ajD ajn rfl];simp (maxSteps:=300000) (disch:=omega) [↓ac,↓aa,h]
theorem al1 (cs:D_):(Dn prog).call Lp [.ptr 0 0,.ptr 5 0,.ptr 6 0] ⟨eV b r q iv cs nx 0 od is,N⟩ =
  rK (pG b 1) (bc b nx 1) (fun v n=>some (A_ v,⟨eV b r q iv cs n 0 od is,N⟩)) (fun e=>some (A_ 0,⟨eV b r q iv cs 0 (e+1) od is,N⟩)):=by
 have h:=il b nx 1 hb hn;rw[ba aiX aiJ rfl];simp (maxSteps:=300000) (disch:=omega) [↓ac,↓aa,h]
theorem ax5 (cs:D_):(Dn prog).call zm [.ptr 9 0,.ptr 7 0] ⟨eV b r q iv cs nx 0 od is,N⟩ =
  rK (pG b 1) (bc b nx 1) (fun v n=>some (.tup [],⟨eV b r q iv cs n 0 v is,N⟩)) (fun e=>some (.tup [],⟨eV b r q iv cs 0 (e+1) 0 is,N⟩)):=by
 have h:=al1 b hb r q iv nx od is hn N cs;rw[ba aiO ah6 rfl];simp (maxSteps:=300000) (disch:=omega) [↓ac,↓aa,h]
theorem axr (cs:D_):(Dn prog).call yX [.ptr 9 0,.ptr 8 0] ⟨eV b r q iv cs nx 0 od is,N⟩ =
  rK (pG b 1) (bc b nx 1) (fun v n=>some (.tup [],⟨eV b r q iv cs n 0 od v,N⟩)) (fun e=>some (.tup [],⟨eV b r q iv cs 0 (e+1) od 0,N⟩)):=by
 have h:=al1 b hb r q iv nx od is hn N cs;rw[ba ajB ahU rfl];simp (maxSteps:=300000) (disch:=omega) [↓ac,↓aa,h]
theorem axh (cs:D_) (ho:0<=od∧od<=1):(Dn prog).call zj [.ptr 7 0,.ptr 9 0] ⟨eV b r q iv cs nx 0 od is,N⟩ =
  rK (pG b 1) (bc b nx 1) (fun v n=>some (.tup [],⟨eV b r q iv cs n 0 (Yh od v) is,N⟩)) (fun e=>some (.tup [],⟨eV b r q iv cs 0 (e+1) od is,N⟩)):=by
 have h:=al1 b hb r q iv nx od is hn N cs;rw[ba aiE ajr rfl];simp (maxSteps:=300000) (disch:=omega) [↓ac,↓aa,h];refine YJ (fun _ _ h=>ed h) (fun v n e2 hp=>?_) fun e e2=>by simp (maxSteps:=300000) (disch:=omega) [Xr]
 have hv:v<2:=hp.1;simp (maxSteps:=300000) (disch:=omega) [Xr]
theorem axm (i:aL) (hi:i.Fit) (hm:i.may 11) (hg:i.groups≠[]) (a0 a5 a6 a7 a8:AV):(Dn prog).call za Aa ⟨eV b r q iv [a0,.d (.int .u8 i.seq),.d (.int .u8 i.shape),A_ i.max,.own false 1 (aF i.groups),a5,a6,a7,a8] nx 0 od is,N⟩ =
  rK (Ui b i.max.toNat i.groups.length) (uV b i nx) (fun g n=>some (.tup [],⟨eV b r q iv [a0,.d (.int .u8 i.seq),.d (.int .u8 i.shape),A_ i.max,.own false 1 (aF i.groups),aD 1 (bD g),a6,a7,a8] n 0 od is,N⟩)) (fun e=>some (.tup [],⟨eV b r q iv [a0,.d (.int .u8 i.seq),.d (.int .u8 i.shape),A_ i.max,.own false 1 (aF i.groups),.nl,a6,a7,a8] 0 (e+1) od is,N⟩)):=by
 have h:=ar4 b nx i hb hn hi hm;simp only[aL.cells]at h;rw[ba aju ah9 rfl];simp (maxSteps:=300000) (disch:=omega) [↓ac,↓aa,-bw,h]
theorem axi (g:Int) (hg:0<=g∧g<=255) (m:Int) (hm:0<=m∧m<=40) (S:H_) (hS:S≠[]) (hl:S.length<=8) (hf:fq m S) (hf2:∀ l∈S,l.length<=1000) (hok:∀ l∈S,aet l∧alL l) (a1 a2 a3 a4 a6 a7 a8:AV):(Dn prog).call yQ Aa ⟨eV b r q iv [A_ g,a1,a2,a3,a4,aD 1 (bD S),a6,a7,a8] nx 0 od is,N⟩ =
  rK (pSc b S) (yZ b S nx g) (fun t n=>some (.tup [],⟨eV b r q iv [A_ g,a1,a2,a3,a4,aD 1 (bD S),share (aD 1 (cS t)),a7,a8] n 0 od is,N⟩)) (fun e=>some (.tup [],⟨eV b r q iv [A_ g,a1,a2,a3,a4,aD 1 (bD S),.nl,a7,a8] 0 (e+1) od is,N⟩)):=by
 have h:=api b hb nx g m hn hg S hl hm hf hf2 hok;rw[ba aib ajg rfl]
 cases S with
 | nil=>exact absurd rfl hS
 | cons s0 S0 =>
  have e:aD 1 (bD (s0::S0))=.own false 1 (bD (s0::S0)):=rfl;rw[e];simp (maxSteps:=300000) (disch:=omega) [↓ac,↓aa,-bw,h,akt,arQ,afX,HC,DX]
theorem akx (hq:q=false) (hr:dV r) (i:aL) (hi:i.groups.length<=1000000) (hiv:iv=i.cells∨iv=zI) (a0 a1 a2 a3 a4 a5 a6 a7 a8:AV):(Dn prog).call nL [.ptr 3 0,.ptr 4 0,.ptr 2 0,.ptr 0 0,.ptr 5 0,.ptr 1 0,.ptr 6 0] ⟨eV b r q iv [a0,a1,a2,a3,a4,a5,a6,a7,a8] nx 0 od is,N⟩ =
  rK (pI b r.toNat) (mt b nx r.toNat) (fun j n=>some (.tup [],⟨eV b r q iv [a0,.d (.int .u8 j.seq),.d (.int .u8 j.shape),A_ j.max,.own false 1 (aF j.groups),a5,a6,a7,a8] n 0 od is,N⟩)) (fun e=>some (.tup [],⟨eV b r q iv [a0,.d (.int .u8 0),.d (.int .u8 0),A_ 0,.nl,a5,a6,a7,a8] 0 (e+1) od is,N⟩)):=by
 subst hq;have h:=acv i hi;have h0:=amk;have hG:=Vo b nx r hb hn;rw[ac hr]at hG;rcases hiv with rfl | rfl
 all_goals
  simp only[aL.cells,Sh,VE]at h hG⊢;rw[ba UB Uo rfl];simp (maxSteps:=300000) (disch:=omega) [↓ac,↓aa,h,h0,hG]
theorem akI (i:aL) (hi:i.Fit) (hm:i.may 11) (h1:is=1) (a0 a5 a6 a7 a8:AV):(Dn prog).call nP [.ptr 8 0,.ptr 0 0,.ptr 5 0,.ptr 4 0,.ptr 6 0] ⟨eV b r q iv [a0,.d (.int .u8 i.seq),.d (.int .u8 i.shape),A_ i.max,.own false 1 (aF i.groups),a5,a6,a7,a8] nx 0 od is,N⟩ =
  rK (pTn b i) (Oj b i nx) (fun t n=>some (.tup [],⟨eV b r q iv [a0,.d (.int .u8 i.seq),.d (.int .u8 i.shape),A_ i.max,.own false 1 (aF i.groups),a5,a6,aD 1 (cK t),a8] n 0 od is,N⟩)) (fun e=>some (.tup [],⟨eV b r q iv [a0,.d (.int .u8 i.seq),.d (.int .u8 i.shape),A_ i.max,.own false 1 (aF i.groups),a5,a6,.nl,a8] 0 (e+1) od is,N⟩)):=by
 subst h1;have h:=ajx b hb nx hn i hi hm;simp only[aL.cells]at h;rw[ba UU UT rfl];simp (maxSteps:=300000) (disch:=omega) [↓ac,↓aa,-bw,h]
end
abbrev ael:D_:=[A_ 0,.d (.int .u8 0),.d (.int .u8 0),A_ 0,.nl,.nl,.nl,.nl,.nl]
abbrev ZW (i:Int):aV:=[(5,.ptr 0 0),(7,.ptr 1 0),(10,.ptr 4 0),(11,.ptr 5 0),(12,.ptr 6 0),(13,.ptr 7 0),(14,.ptr 8 0),(60,.sl 10 0 8),(61,A_ 8),(62,A_ i)]
abbrev axf:aV:=[(5,.ptr 0 0),(7,.ptr 1 0),(10,.ptr 4 0),(11,.ptr 5 0),(12,.ptr 6 0),(13,.ptr 7 0),(14,.ptr 8 0)]
section
variable (b:C_) (r:Int) (q:Bool) (iv:D_) (N:Nat)
def ap6 {cs cs2:D_}{nx nx2 e0 od od2 is is2:Int}(i:Nat) (hi:i<8) (f:FuncId) (caps:D_) (hF:xb[i]?=some (.fn f [] caps)) (hF2:firm (firm (firm (share (.fn f [] caps))))=.fn f [] caps)
  (h:(Dn prog).call f caps ⟨eV b r q iv cs nx 0 od is,N⟩=some (.tup [],⟨eV b r q iv cs2 nx2 0 od2 is2,N⟩)) :
  (Dn prog).code (.loop j0) ⟨ZW i,⟨eV b r q iv cs nx e0 od is,N⟩⟩=(Dn prog).code (.loop j0) ⟨ZW ((i+1:Nat):Int),⟨eV b r q iv cs2 nx2 0 od2 is2,N⟩⟩:=by
 have c1:((i+1:Nat):Int)=(i:Int)+1:=rfl;obtain⟨hlt,e⟩:=aI.1 hF;rw[c1,ah Ix];simp (maxSteps:=300000) (disch:=omega) [↓ac,↓aa,e,hF2,h]
theorem axZ {cs:D_}{a0 a1 a2 a3 a4 a5 a6 a7 a8:AV}{nx nx2 e0 od od2 is is2:Int}(i:Nat) (hi:i<8) (f:FuncId) (caps:D_) (hF:xb[i]?=some (.fn f [] caps)) (hF2:firm (firm (firm (share (.fn f [] caps))))=.fn f [] caps) (e:Nat)
  (h:(Dn prog).call f caps ⟨eV b r q iv cs nx 0 od is,N⟩=some (.tup [],⟨eV b r q iv [a0,a1,a2,a3,a4,a5,a6,a7,a8] nx2 ((e:Int)+1) od2 is2,N⟩)) :
  (Dn prog).code (.loop j0) ⟨ZW i,⟨eV b r q iv cs nx e0 od is,N⟩⟩=some (.ret,⟨[(10,.ptr 4 0),(11,.ptr 5 0),(12,.ptr 6 0)],⟨eV b r q iv ael 0 ((e:Int)+1) od2 is2,N⟩⟩):=by
 obtain⟨hlt,e1⟩:=aI.1 hF;rw[ah Ix];simp (maxSteps:=300000) (disch:=omega) [↓ac,↓aa,e1,hF2,h]
theorem aun {cs:D_}{nx e0 od is:Int}:(Dn prog).code (.loop j0) ⟨ZW 8,⟨eV b r q iv cs nx e0 od is,N⟩⟩=some (.exit 0,⟨axf,⟨eV b r q iv cs nx e0 od is,N⟩⟩):=by
 rw[ah Ix];simp (maxSteps:=300000) (disch:=omega) [↓ac,↓aa]
end
abbrev px:=@Int.toNat_of_nonneg
structure Hd where
 gain:Nat
 inf:aL
 S:H_
 T:J_
 F:N_
 od:Int
 is:Nat
def Cq (b:C_) (a:Int) (r:Nat) (q:Bool) (i:aL):R Hd :=
 (bc b a 8).bind fun g n=>(if q then R.ok i n else mt b n r).bind fun j n=>(uV b j n).bind fun S n=>(yZ b S n g).bind fun T n =>
  (bc b n 1).bind fun o n=>(bc b n 1).bind fun s n=>(if s=1 then Oj b j n else R.ok (List.replicate j.many []) n).bind fun F n=>(bc b n 1).bind fun p n=>R.ok ⟨g,j,S,T,F,Yh o p,s⟩ n
abbrev afR (H:Hd):D_:=[A_ H.gain,.d (.int .u8 H.inf.seq),.d (.int .u8 H.inf.shape),A_ H.inf.max,.own false 1 (aF H.inf.groups),aD 1 (bD H.S),share (aD 1 (cS H.T)),aD 1 (cK H.F),.nl]
section
variable (b:C_) (r:Int) (q:Bool) (iv:D_) (N:Nat)
def V4 (e0:Int) (i:Nat) (cs:D_) (nx od is:Int) (x:R Hd):Prop :=
 (∀ H n,x=.ok H n->(Dn prog).code (.loop j0) ⟨ZW i,⟨eV b r q iv cs nx e0 od is,N⟩⟩=some (.exit 0,⟨axf,⟨eV b r q iv (afR H) n 0 H.od H.is,N⟩⟩))∧
 (∀ e,x=.er e->∃ od2 is2,(Dn prog).code (.loop j0) ⟨ZW i,⟨eV b r q iv cs nx e0 od is,N⟩⟩=some (.ret,⟨[(10,.ptr 4 0),(11,.ptr 5 0),(12,.ptr 6 0)],⟨eV b r q iv ael 0 ((e:Int)+1) od2 is2,N⟩⟩))
theorem axc {e0:Int}{i:Nat}{cs cs2:D_}{nx nx2 od od2 is is2:Int}{x:R Hd}(hi:i<8) (f:FuncId) (caps:D_) (hF:xb[i]?=some (.fn f [] caps)) (hF2:firm (firm (firm (share (.fn f [] caps))))=.fn f [] caps)
  (h:(Dn prog).call f caps ⟨eV b r q iv cs nx 0 od is,N⟩=some (.tup [],⟨eV b r q iv cs2 nx2 0 od2 is2,N⟩)) (ho:V4 b r q iv N 0 (i+1) cs2 nx2 od2 is2 x):V4 b r q iv N e0 i cs nx od is x:=by
 refine⟨fun H n e=>?_,fun e h2=>?_⟩
 .rw[ap6 b r q iv N i hi f caps hF hF2 h];exact ho.1 H n e
 .rw[ap6 b r q iv N i hi f caps hF hF2 h];exact ho.2 e h2
theorem ay9 {e0:Int}{i:Nat}{cs:D_}{a0 a1 a2 a3 a4 a5 a6 a7 a8:AV}{nx nx2 od od2 is is2:Int}{e:Nat}(hi:i<8) (f:FuncId) (caps:D_) (hF:xb[i]?=some (.fn f [] caps)) (hF2:firm (firm (firm (share (.fn f [] caps))))=.fn f [] caps)
  (h:(Dn prog).call f caps ⟨eV b r q iv cs nx 0 od is,N⟩=some (.tup [],⟨eV b r q iv [a0,a1,a2,a3,a4,a5,a6,a7,a8] nx2 ((e:Int)+1) od2 is2,N⟩)):V4 b r q iv N e0 i cs nx od is (.er e):=by
 refine⟨fun H n h2=>absurd h2 s_,fun e' h2=>?_⟩
 grind [axZ]
end
def ane {b:C_}{i:aL}{g:H_}{n:Nat}(hm:i.may 11) (h:Ui b i.max.toNat i.groups.length g n) :
  g≠[]∧g.length<=8∧jF i g∧(∀ l∈g,l.length<=100)∧∀ l∈g,aet l∧alL l:=by
 obtain⟨h1,h2,h3⟩:=h;have hmx:=jK hm;obtain⟨q1,q2⟩:=dG hm;have hmm:=zk i;have hgl:i.groups.length<=8:=by have:=mE (fun n hn=>(q1 n hn).1);omega
 have hgn:i.groups≠[]:=fun h=>by grind
 have hg1:=bJ.2 hgn;have hmc:((i.max.toNat:Nat):Int)=i.max:=px hmx.1;have hf:∀ l∈g,fitsS i.max l:=fun l hl=>by simp_all
 refine⟨fun h=>by simp_all,o_,⟨h3,hf⟩,fun l hl=>by grind,fun l hl=>⟨⟨d_,fun s hs=>?_⟩,O9 (hf l hl)⟩⟩;have:=tU (hf l hl) o_ s hs;omega
def qz {α β:Type}{x:R α}{f:α->Nat->R β}{v:β}{n:Nat}(h:x.bind f=.ok v n):∃ u m,x=.ok u m∧f u m=.ok v n:=by
 cases x with
 | ok u m=>exact⟨u,m,rfl,h⟩
 | er e=>simp_all
def afJ {α:Type}{c:Prop}[Decidable c] {v w:α}{n m:Nat}(h:Rz c v n=.ok w m):c∧v=w∧n=m:=by
 grind [Rz]
def akU {b:C_}:∀ {k a:Nat}{l:C_}{n:Nat},a<=b.length->zU b k a=.ok l n->n<=b.length
 | 0,a,l,n,ha,h=>by
  grind [zU]
 | k+1,a,l,n,ha,h=>by
  obtain⟨v,m,h1,h⟩:=qz h;obtain⟨l2,m2,h2,h⟩:=qz h;have:=akU (ed h1).2 h2
  simp_all
theorem Sq {b:C_}{a:Int}{r:Nat}(hr:r<=11) {i:aL}{n:Nat}(h:mt b a r=.ok i n):pI b r i n:=by
 obtain⟨o,n1,h1,h⟩:=qz h;obtain⟨q,n2,h2,h⟩:=qz h;obtain⟨s,n3,h3,h⟩:=qz h;have key:i.may r∧n<=b.length:=by
  split at h
  .obtain⟨m,n4,h4,h⟩:=qz h;obtain⟨l,n5,h5,h⟩:=qz h;obtain⟨hc,e1,e2⟩:=afJ h;have:=akU (ed h4).2 h5
   simp_all
  .obtain⟨m,n4,h4,h⟩:=qz h;obtain⟨p,n5,h5,h⟩:=qz h;obtain⟨hc,e1,e2⟩:=afJ h;have:=(ed h5).2
   simp_all
 obtain⟨g1,g2⟩:=dG (gh hr key.1);have hmm:=zk i;exact⟨key.1,key.2,by have:=mE (fun n hn=>(g1 n hn).1);omega⟩
structure pHd (b:C_) (r:Nat) (H:Hd) (n:Nat):Prop where
 gain:H.gain<=255
 fit:H.inf.Fit
 may:H.inf.may r
 S:jF H.inf H.S
 Sl:∀ l∈H.S,l.length<=100
 T:H.T.map List.length=H.S.map (fun l=>(aK l).length)
 F:H.F.length=H.inf.many∧∀ l∈H.F,l.length<=3∧∀ f∈l,f.coefs.length<=12
 od:0<=H.od∧H.od<=1
 is:H.is<=1
 n:n<=b.length
theorem aky {r:Nat}{i:aL}(hr:r<=11) (h:i.may r) (hl:i.groups.length<=100):i.Fit:=by
 have h11:=gh hr h;have hmx:=jK h11;obtain⟨g1,g2⟩:=dG h11;exact⟨by have:=h.1;omega,by have:=h.2.1;omega,o_,o_,fun n hn=>by grind⟩
abbrev QX (b:C_) (r:Nat) (x:R Hd):Prop:=∀ H n,x=.ok H n->pHd b r H n
def AX {b:C_}{r:Int}{q:Bool}{iv:D_}{N R0:Nat}{e0:Int}{i:Nat}{cs cs2:D_}{nx nx2 od od2 is is2:Int}{x:R Hd}(hi:i<8) (f:FuncId) (caps:D_) (hF:xb[i]?=some (.fn f [] caps)) (hF2:firm (firm (firm (share (.fn f [] caps))))=.fn f [] caps)
  (h:(Dn prog).call f caps ⟨eV b r q iv cs nx 0 od is,N⟩=some (.tup [],⟨eV b r q iv cs2 nx2 0 od2 is2,N⟩)) (ho:V4 b r q iv N 0 (i+1) cs2 nx2 od2 is2 x∧QX b R0 x):V4 b r q iv N e0 i cs nx od is x∧QX b R0 x :=
 by grind [axc]
def A9 {b:C_}{r:Int}{q:Bool}{iv:D_}{N R0:Nat}{e0:Int}{i:Nat}{cs:D_}{a0 a1 a2 a3 a4 a5 a6 a7 a8:AV}{nx nx2 od od2 is is2:Int}{e:Nat}(hi:i<8) (f:FuncId) (caps:D_) (hF:xb[i]?=some (.fn f [] caps)) (hF2:firm (firm (firm (share (.fn f [] caps))))=.fn f [] caps)
  (h:(Dn prog).call f caps ⟨eV b r q iv cs nx 0 od is,N⟩=some (.tup [],⟨eV b r q iv [a0,a1,a2,a3,a4,a5,a6,a7,a8] nx2 ((e:Int)+1) od2 is2,N⟩)):V4 b r q iv N e0 i cs nx od is (.er e)∧QX b R0 (.er e) :=
 by grind [ay9]
def apX {b:C_}{i:aL}{a:Int}{g:H_}{n:Nat}(h:uV b i a=.ok g n):Ui b i.max.toNat i.groups.length g n:=by
 rw[uV]at h;split at h
 .exact TD o_ h
 simp_all
def asu {b:C_}{g:H_}{a gain:Int}(hg:0<=gain∧gain<=255) {t:J_}{n:Nat}(h:yZ b g a gain=.ok t n):pSc b g t n:=by
 rw[yZ]at h;split at h
 .rename_i ha;obtain⟨A,rfl⟩:=aB ha.1;exact VZ o_ ⟨o_,o_⟩ ⟨o_,o_⟩ h
 simp_all
def Ns (b:C_) (hb:b.length<=1000000000) (r:Int) (hr:dV r) (q:Bool) (i:aL) (hi:i.Fit) (iv:D_) (hiv:iv=i.cells∨q=false∧iv=zI) (hq:q=true->i.may r.toNat) (nx:Int) (hn:i64 nx) (e0:Int) (N:Nat) :
  V4 b r q iv N e0 0 ael nx 0 0 (Cq b nx r.toNat q i)∧QX b r.toNat (Cq b nx r.toNat q i):=by
 have hR:r.toNat<=11:=o_;rw[Cq];have h:=ayf b hb r q iv nx 0 0 hn N (A_ 0) (.d (.int .u8 0)) (.d (.int .u8 0)) (A_ 0) .nl .nl .nl .nl .nl
 cases e1:bc b nx 8 with
 | er e=>rw[e1,iK]at h;exact A9 k_ yL Aa rfl rfl h
 | ok g n1 =>
 have p1:=ed e1;have hg:g<256:=p1.1;have hn1:=p1.2;have i1:i64 (n1:Int):=o_;rw[e1,eI p1]at h;rw[ay];refine AX k_ yL Aa rfl rfl h ?_;clear h;have key:∃ X:R aL,X=(if q=true then R.ok i n1 else mt b n1 r.toNat)∧(∀ j n,X=.ok j n->((j.Fit∧j.may r.toNat)∧n<=b.length)∧(Dn prog).call nL [.ptr 3 0,.ptr 4 0,.ptr 2 0,.ptr 0 0,.ptr 5 0,.ptr 1 0,.ptr 6 0] ⟨eV b r q iv [A_ g,.d (.int .u8 0),.d (.int .u8 0),A_ 0,.nl,.nl,.nl,.nl,.nl] n1 0 0 0,N⟩=some (.tup [],⟨eV b r q iv [A_ g,.d (.int .u8 j.seq),.d (.int .u8 j.shape),A_ j.max,.own false 1 (aF j.groups),.nl,.nl,.nl,.nl] n 0 0 0,N⟩))∧
   (∀ e,X=.er e->(Dn prog).call nL [.ptr 3 0,.ptr 4 0,.ptr 2 0,.ptr 0 0,.ptr 5 0,.ptr 1 0,.ptr 6 0] ⟨eV b r q iv [A_ g,.d (.int .u8 0),.d (.int .u8 0),A_ 0,.nl,.nl,.nl,.nl,.nl] n1 0 0 0,N⟩=some (.tup [],⟨eV b r q iv [A_ g,.d (.int .u8 0),.d (.int .u8 0),A_ 0,.nl,.nl,.nl,.nl,.nl] 0 ((e:Int)+1) 0 0,N⟩)):=by
  refine⟨_,rfl,fun j n h=>?_,fun e h=>?_⟩
  .grind [avF,aL.Fit.len,Sq,akx,eI,aky]
  .cases hqc:q with
   | true=>simp_all
   | false =>
    rw[hqc]at h;simp only[ao,bh]at h;have h3:=akx b hb r false iv n1 0 0 i1 N rfl hr i (by have:=hi.len;omega) (hiv.imp id And.right) (A_ g) (.d (.int .u8 0)) (.d (.int .u8 0)) (A_ 0) .nl .nl .nl .nl .nl
    simp_all
 obtain⟨X,hX,hX1,hX2⟩:=key;rw[<-hX]
 cases e2:X with
 | er e=>exact A9 k_ nL _ rfl rfl (hX2 e e2)
 | ok j n2 =>
 obtain⟨⟨⟨hj,hjm⟩,hn2⟩,h⟩:=hX1 j n2 e2;have i2:i64 (n2:Int):=o_;have hjm11:=gh hR hjm;have hmx:=jK hjm11;obtain⟨gr1,gr2⟩:=dG hjm11;have hmm:=zk j;have hgn:j.groups≠[]:=fun h=>by grind
 rw[ay];refine AX k_ nL _ rfl rfl h ?_;clear h hX hX1 hX2 e2 X;have h:=axm b hb r q iv n2 0 0 i2 N j hj hjm11 hgn (A_ g) .nl .nl .nl .nl
 cases e3:uV b j n2 with
 | er e=>rw[e3,iK]at h;exact A9 k_ za Aa rfl rfl h
 | ok S n3 =>
 have p3:=apX e3;have hn3:=p3.2.1;have i3:i64 (n3:Int):=o_;obtain⟨s1,s2,s3,s4,s5⟩:=ane hjm11 p3;rw[e3,eI p3]at h;rw[ay];refine AX k_ za Aa rfl rfl h ?_;clear h;have h:=axi b hb r q iv n3 0 0 i3 N g o_ j.max hmx S s1 s2 s3.2 (fun l hl=>by simp_all) s5 (.d (.int .u8 j.seq)) (.d (.int .u8 j.shape)) (A_ j.max) (.own false 1 (aF j.groups)) .nl .nl .nl
 cases e4:yZ b S n3 g with
 | er e=>rw[e4,iK]at h;exact A9 k_ yQ Aa rfl rfl h
 | ok T n4 =>
 have p4:=asu o_ e4;have hn4:=p4.2;have i4:i64 (n4:Int):=o_;rw[e4,eI p4]at h;rw[ay];refine AX k_ yQ Aa rfl rfl h ?_;clear h;have h:=ax5 b hb r q iv n4 0 0 i4 N [A_ g,.d (.int .u8 j.seq),.d (.int .u8 j.shape),A_ j.max,.own false 1 (aF j.groups),aD 1 (bD S),share (aD 1 (cS T)),.nl,.nl]
 cases e5:bc b n4 1 with
 | er e=>rw[e5,iK]at h;exact A9 k_ zm _ rfl rfl h
 | ok o n5 =>
 have p5:=ed e5;have ho:o<2:=p5.1;have hn5:=p5.2;have i5:i64 (n5:Int):=o_;rw[e5,eI p5]at h;rw[ay];refine AX k_ zm _ rfl rfl h ?_;clear h;have h:=axr b hb r q iv n5 o 0 i5 N [A_ g,.d (.int .u8 j.seq),.d (.int .u8 j.shape),A_ j.max,.own false 1 (aF j.groups),aD 1 (bD S),share (aD 1 (cS T)),.nl,.nl]
 cases e6:bc b n5 1 with
 | er e=>rw[e6,iK]at h;exact A9 k_ yX _ rfl rfl h
 | ok s n6 =>
 have p6:=ed e6;have hs:s<2:=p6.1;have hn6:=p6.2;have i6:i64 (n6:Int):=o_;rw[e6,eI p6]at h;rw[ay];refine AX k_ yX _ rfl rfl h ?_;clear h;have key:∃ X:R N_,X=(if s=1 then Oj b j n6 else R.ok (List.replicate j.many []) n6)∧(∀ F n,X=.ok F n->pTn b j F n∧(Dn prog).call nP [.ptr 8 0,.ptr 0 0,.ptr 5 0,.ptr 4 0,.ptr 6 0] ⟨eV b r q iv [A_ g,.d (.int .u8 j.seq),.d (.int .u8 j.shape),A_ j.max,.own false 1 (aF j.groups),aD 1 (bD S),share (aD 1 (cS T)),.nl,.nl] n6 0 o s,N⟩=some (.tup [],⟨eV b r q iv [A_ g,.d (.int .u8 j.seq),.d (.int .u8 j.shape),A_ j.max,.own false 1 (aF j.groups),aD 1 (bD S),share (aD 1 (cS T)),aD 1 (cK F),.nl] n 0 o s,N⟩))∧
   (∀ e,X=.er e->(Dn prog).call nP [.ptr 8 0,.ptr 0 0,.ptr 5 0,.ptr 4 0,.ptr 6 0] ⟨eV b r q iv [A_ g,.d (.int .u8 j.seq),.d (.int .u8 j.shape),A_ j.max,.own false 1 (aF j.groups),aD 1 (bD S),share (aD 1 (cS T)),.nl,.nl] n6 0 o s,N⟩=some (.tup [],⟨eV b r q iv [A_ g,.d (.int .u8 j.seq),.d (.int .u8 j.shape),A_ j.max,.own false 1 (aF j.groups),aD 1 (bD S),share (aD 1 (cS T)),.nl,.nl] 0 ((e:Int)+1) o s,N⟩)):=by
  refine⟨_,rfl,fun F n h=>?_,fun e h=>?_⟩
  .by_cases h1:s=1
   .grind [aqp,akI,eI]
   .rw[aa h1]at h;injection h with g1 g2
    subst g1 g2;have h3:=auz b r q iv n6 o s N j hj hjm11 o_ (A_ g) (aD 1 (bD S)) (share (aD 1 (cS T))) .nl .nl;refine⟨⟨s_,hn6,fun l hl=>by simp_all⟩,?_⟩;have e9:aD 1 (cK (List.replicate j.many []))=.own false 1 (cK (List.replicate j.many [])):=lx (fun hz=>by
     grind [acN])
    simp_all
  grind [akI,iK]
 obtain⟨X,hX,hX1,hX2⟩:=key;rw[<-hX]
 cases e7:X with
 | er e=>exact A9 k_ nP _ rfl rfl (hX2 e e7)
 | ok F n7 =>
 obtain⟨p7,h⟩:=hX1 F n7 e7;have i7:i64 (n7:Int):=o_;rw[ay];refine AX k_ nP _ rfl rfl h ?_;have h:=axh b hb r q iv n7 o s i7 N [A_ g,.d (.int .u8 j.seq),.d (.int .u8 j.shape),A_ j.max,.own false 1 (aF j.groups),aD 1 (bD S),share (aD 1 (cS T)),aD 1 (cK F),.nl] (by omega)
 cases e8:bc b n7 1 with
 | er e=>rw[e8,iK]at h;exact A9 k_ zj _ rfl rfl h
 | ok p n8 =>
 have p8:=ed e8;have hn8:=p8.2;rw[e8,eI p8]at h;rw[ay];refine AX k_ zj _ rfl rfl h ⟨⟨fun H n hh=>?_,fun e hh=>absurd hh s_⟩,fun H n hh=>?_⟩
 .grind [aun]
 .injection hh with g1 g2
  subst g1 g2;exact⟨d_,hj,hjm,s3,s4,p4.1,⟨p7.1,p7.2.2⟩,by grind [Yh],d_,hn8⟩
structure GO where
 o1:Obj
 o2:Obj
 o3:Obj
 o7:Obj
 o8:Obj
 o9:Obj
 oX:Obj
 o14:Obj
 o15:Obj
 o16:Obj
abbrev GH (b:C_) (g:GO) (cs:D_) (nx e:Int) (Z:G_) (C:D_) (lo:Obj) (T:ak):ak:=(0,.cells [.d (.lst (am b))])::(1,g.o1)::(2,g.o2)::(3,g.o3)::(4,.cells cs)::(5,.cells [A_ nx])::(6,.cells [A_ e])::(7,g.o7)::(8,g.o8)::(9,g.o9)::(10,g.oX)::(11,.arr 1 (aF Z))::(12,.cells C)::(13,.cells [.ptr 12 0])::(14,g.o14)::(15,g.o15)::(16,g.o16)::(17,lo)::T
abbrev azi:aV:=[(5,.ptr 0 0),(10,.ptr 4 0),(11,.ptr 5 0),(12,.ptr 6 0),(13,.ptr 7 0),(14,.ptr 8 0),(18,.ptr 13 0),(82,.fn iT [] [.ptr 15 0,.ptr 14 0,.ptr 16 0])]
def are {Z l:G_}{a:Nat}:aG (aF Z) a (aF l)=aF (aG Z a l):=by simp[aG,aF]
def awy {h:ak}{xs:E_}{id a b n:Nat}(hab:a<=b) (hb:b<=n) (hn:n<=1000000000) (hg:get h id=some (.arr 1 xs)) (x y:Int) (hx:x=a) (hy:y=b):tG h 1 (.sl id 0 n) (some (A_ x)) (some (A_ y)) none=some (.sl id a (b-a)):=by
 subst hx hy;have e1:ef (A_ (b:Int)) n=some b:=by rw[zG o_ o_];simp
 have e2:ef (A_ (a:Int)) b=some a:=by rw[zG o_ o_];simp
 have e3:okSl h 1 (.sl id 0 n)=true:=by simp only[okSl,hg];rfl
 simp only[tG,e3,xB,lenOf,yS,xx,e1,e2,bz]
def av5 {h:ak}{Z l:G_}{id a n:Nat}{y:AV}(hn:l.length=n) (hb:a+n<=Z.length) (he:elems h y=some (aF l)) (hg:get h id=some (.arr 1 (aF Z))):agA 1 h (.sl id a n) y=some (.int .i64 (n:Nat),put h id (.arr 1 (aF (aG Z a l)))):=by
 have e1:Nat.ble (a+n) (aF Z).length=true:=by rw[bj,iB];exact hb
 have e2:min n (aF l).length=n:=by rw[iB,hn,Nat.min_self]
 have e3:(aF l).take n=aF l:=ck (by rw[iB];omega);have e4:(fT 1 (aF l) && Nat.beq 1 1 && Nat.ble (a+n) (aF Z).length)=true:=by rw[aq9,e1];rfl
 simp only[agA,he,hg,e4,e2,e3,are];rfl
def awY {F:D_->ak}{A N:Nat}(hL:∀ C,Lt (F C) N) (hg:∀ C T,get (F C++T) A=some (.cells C)) (hp:∀ C T C',put (F C++T) A (.cells C')=F C'++T):Bk (fun C T=>F C++T) A N:=by
 refine⟨hg,hp,fun C o=>?_,fun C o o'=>HG (hL C),fun C o=>xi (hL C),fun C o=>?_⟩
 .show put (F C++[]) N o=_;rw[bg];exact uU (hL C)
 .show _=F C++[];rw[bg];exact LO (hL C)
def axA (b:C_) (g:GO) (cs:D_) (nx e0:Int) (Z:G_) (lo:Obj) (K:Nat) (hK:18<=K) (o w:Obj) (N:Nat) (hN:K<N):Bk (fun C T=>GH b g cs nx e0 Z C lo [(K,o),(N,w)]++T) 12 (N+1):=by
 refine awY (fun C p hp=>?_) (fun C T=>rfl) (fun C T C'=>rfl);simp only[az,cQ,fh]at hp;rcases hp with rfl | rfl | rfl | rfl | rfl | rfl | rfl | rfl | rfl | rfl | rfl | rfl | rfl | rfl | rfl | rfl | rfl | rfl | rfl | rfl<;>simp only[]<;>omega
abbrev qf (d:Bool):Obj:=.loop azi [83] sj sU d none
abbrev NC:Obj:=.loop azi [83] sj sU false (some .ret)
abbrev plO (p:Nat×Nat):Obj:=.cells [A_ (p.1:Int),A_ (p.2:Int),A_ ((p.2+bH p.1:Nat):Int)]
def aAq (b:C_) (g:GO) (a0 a1 a2 a3 a4 a5 a6 a7:AV) (nx e0:Int) (Z:G_) (hZ:Z.length=256) (C:D_) (hC:G7 C) (p:Nat×Nat) (hp:(1<=p.1∧p.1<=11)∧p.2+bH p.1<=256) (l:G_) (hl:l.length=bH p.1) (n2:Nat) (hh:br prog xK [.d (.lst (am b)),A_ nx,nD p.1]=some (.tup [.own true 1 (aF l),A_ n2,A_ 0])) (K:Nat) (o:Obj) (hK:18<=K) (N:Nat) (hN:K<N) :
  cf (Dn prog) (.yield 17) [.agg [A_ (p.1:Int),A_ (p.2:Int),A_ ((p.2+bH p.1:Nat):Int)]] ⟨GH b g [a0,a1,a2,a3,a4,a5,a6,a7,.sl 11 0 256] nx e0 Z C (qf false) [(K,o)],N⟩ =
  some (B_ true,⟨GH b g [a0,a1,a2,a3,a4,a5,a6,a7,.sl 11 0 256] n2 0 (aG Z p.2 l) (aG C (4*p.1) (qQ p.1)) (qf false) [(K,o)],N+1+1⟩):=by
 obtain⟨h1,h2⟩:=hp;have hB:=RB (axA b g [a0,a1,a2,a3,a4,a5,a6,a7,.sl 11 0 256] nx e0 Z (qf true) K hK o (plO p) N hN) C hC p.1 h1;have hs:=fun C2=>awy (h:=GH b g [a0,a1,a2,a3,a4,a5,a6,a7,.sl 11 0 256] n2 0 Z C2 (qf true) [(K,o),(N,plO p)]) (xs:=aF Z) (id:=11) (a:=p.2) (b:=p.2+bH p.1) (n:=256) o_ h2 o_ rfl (p.2:Int) _ rfl rfl
 rw[fS]at hs;have hc:=fun C2=>av5 (h:=GH b g [a0,a1,a2,a3,a4,a5,a6,a7,.sl 11 0 256] n2 0 Z C2 (qf true) [(K,o),(N,plO p)]) (id:=11) (a:=p.2) (n:=bH p.1) (y:=.own false 1 (aF l)) hl o_ rfl rfl
 generalize aG C (4*p.1) (qQ p.1)=C2 at *;replace hs:=hs C2;replace hc:=hc C2;obtain⟨TO,hT⟩:∃ TO:Int,TO=((p.2+bH p.1:Nat):Int):=⟨_,rfl⟩
 simp only[GH,plO,qf,aQ,aO,nD]at hB hs hc hh⊢;rw[<-hT]at hB hs hc⊢;obtain⟨o1,o2,o3,o7,o8,o9,oX,o14,o15,o16⟩:=g;simp only[]at *;have eA:∀ st,(Dn prog).code sj st=(Dn prog).code FC st:=fun _=>rfl
 have eB:∀ st,(Dn prog).code sU st=(Dn prog).code (.block 3
  (.seq Gi
  (.seq (.seq (.seq zH (Vm.K [18,84]))
  (.seq F3
  (.cond (.m 96)
  (.seq (.seq (Vm.K [20]) (F 19)) (.seq (.seq zq (Vm.K [12]))
  .ret))
  (.seq (Vm.K [11,12]) .skip))))
  (.seq GB (F 19))))) st:=fun _=>rfl
 simp (config := { maxSteps:=1000000 }) (disch:=omega) [↓ac,↓aa,eA,eB,hh,hB,hs,hc]
def aAN (b:C_) (g:GO) (a0 a1 a2 a3 a4 a5 a6 a7:AV) (nx e0:Int) (Z:G_) (C:D_) (hC:G7 C) (p:Nat×Nat) (hp:(1<=p.1∧p.1<=11)∧p.2+bH p.1<=256) (e:Nat) (hh:br prog xK [.d (.lst (am b)),A_ nx,nD p.1]=some (.tup [.nl,A_ 0,A_ (e+1)])) (K:Nat) (o:Obj) (hK:18<=K) (N:Nat) (hN:K<N) :
  cf (Dn prog) (.yield 17) [.agg [A_ (p.1:Int),A_ (p.2:Int),A_ ((p.2+bH p.1:Nat):Int)]] ⟨GH b g [a0,a1,a2,a3,a4,a5,a6,a7,.sl 11 0 256] nx e0 Z C (qf false) [(K,o)],N⟩ =
  some (B_ false,⟨GH b g ael 0 ((e:Int)+1) Z (aG C (4*p.1) (qQ p.1)) NC [(K,o)],N+1+1⟩):=by
 obtain⟨h1,h2⟩:=hp;have hB:=RB (axA b g [a0,a1,a2,a3,a4,a5,a6,a7,.sl 11 0 256] nx e0 Z (qf true) K hK o (plO p) N hN) C hC p.1 h1;generalize aG C (4*p.1) (qQ p.1)=C2 at *;obtain⟨TO,hT⟩:∃ TO:Int,TO=((p.2+bH p.1:Nat):Int):=⟨_,rfl⟩
 simp only[GH,plO,qf,NC,aQ,aO,nD]at hB hh⊢;rw[<-hT]at hB⊢;obtain⟨o1,o2,o3,o7,o8,o9,oX,o14,o15,o16⟩:=g;simp only[]at *;have eA:∀ st,(Dn prog).code sj st=(Dn prog).code FC st:=fun _=>rfl
 have eB:∀ st,(Dn prog).code sU st=(Dn prog).code (.block 3
  (.seq Gi
  (.seq (.seq (.seq zH (Vm.K [18,84]))
  (.seq F3
  (.cond (.m 96)
  (.seq (.seq (Vm.K [20]) (F 19)) (.seq (.seq zq (Vm.K [12]))
  .ret))
  (.seq (Vm.K [11,12]) .skip))))
  (.seq GB (F 19))))) st:=fun _=>rfl
 simp (config := { maxSteps:=1000000 }) (disch:=omega) [↓ac,↓aa,eA,eB,hh,hB]
def Wf {r:Nat}{jj:aL}{SS:H_}(hm:jj.may r) (hS:jF jj SS) (hr:r<=11) {p:Nat×Nat}(hp:p∈qn (offs r jj.short) SS jj.groups 0):(1<=p.1∧p.1<=11)∧p.2+bH p.1<=256:=by
 have hm11:=gh hr hm;obtain⟨g1,g2⟩:=dG hm11;obtain⟨w,g,j,l,e1,e2,e3,e4,e5,e6,x,e7,e8⟩:=My hS.2 (fun n hn=>(g1 n hn).1) hp;obtain⟨o1,o2,o3⟩:=nT (r,jj.short) (fp o_);simp only at o1 o2 o3;have hmx:=hm.2.2.2.1;have hlm:l∈SS:=eE e1;have hbl:=ta (hS.2 l hlm) hm.2.2.1;have hjl:j<(aK l).length:=(aI.1 e5).1;have hmy:qO r (decide (jj.seq=2))=(offs r jj.short).length-1:=rfl;have hj1:j+1<(offs r jj.short).length:=o_;have hoj:nth (offs r jj.short) j<nth (offs r jj.short) (j+1)∧(nth (offs r jj.short) (j+1)-nth (offs r jj.short) j) % 4=0:=by
  have:=bG.1 o1 j (dR.2 o_);simpa using this
 have hos:∀ k,k+1<(offs r jj.short).length->nth (offs r jj.short) k<nth (offs r jj.short) (k+1):=fun k hk=>by
  have:=bG.1 o1 k (dR.2 o_);simp only[af,decide_eq_true_eq]at this;exact this.1
 have hd4:bH p.1=4∨bH p.1=2:=by unfold bH;split<;>simp
 have hx:=MB (d:=bH p.1) o_ (by rcases hd4 with h | h<;>rw[h]<;>omega) e7;have hw:(w:Int)<jj.many:=o_;have ho256:nth (offs r jj.short) (j+1)<=cond jj.short 32 256:=by
  have:=bG.1 o3 _ (jg hj1);simpa using this
 have hcond:(cond jj.short 32 256:Nat)=jj.wide:=by
  unfold aL.short aL.wide;by_cases h:jj.seq=2
  .rw[decide_eq_true h,ac h];rfl
  .rw[decide_eq_false h,aa h];rfl
 rw[hcond]at ho256;have hww:w*32=w*jj.wide∧w*jj.wide+jj.wide<=256:=by
  unfold aL.many at hw;unfold aL.wide;split at hw
  .rename_i h2;rw[ac h2];omega
  .rename_i h2;rw[aa h2];omega
 exact⟨e6,o_⟩
def ayg:∀ id∈List.range 12,1<=id->d9 id=bH id:=e_
def ko (b:C_):R_->Nat->G_->R G_
 | [],n,Z=>.ok Z n
 | p::r,n,Z=>(EI p.1 b n).bind fun l m=>ko b r m (aG Z p.2 l)
abbrev StG:Type:=D_×Nat×G_
abbrev VB (b:C_) (p:Nat×Nat) (s:StG):Sum StG (D_×Nat×G_):=match EI p.1 b s.2.1 with
 | .ok l n=>.inl (aG s.1 (4*p.1) (qQ p.1),n,aG s.2.2 p.2 l)
 | .er e=>.inr (aG s.1 (4*p.1) (qQ p.1),e,s.2.2)
abbrev Cd:D_:=[A_ 0,.d (.int .u8 0),.d (.int .u8 0),A_ 0,.nl,.nl,.nl,.nl,.nl]
abbrev aCM (B:Nat) (r:R_) (s:StG):Prop:=G7 s.1∧s.2.1<=B∧s.2.2.length=256∧(∀ x∈s.2.2,-40000<=x∧x<=40000)∧∀ p∈r,(1<=p.1∧p.1<=11)∧p.2+bH p.1<=256
def WB {Z l:G_}{a:Nat}(h:a+l.length<=Z.length):(aG Z a l).length=Z.length:=by
 simp only[aG,al,di,dM];omega
def auI {Z l:G_}{a:Nat}{x:Int}(h:x∈aG Z a l):x∈Z∨x∈l:=by
 simp only[aG,be]at h;rcases h with (h | h) | h
 .exact .inl (eG h)
 .exact .inr h
 .exact .inl (cH h)
def azM (b:C_) (hb:b.length<=1000000000) (g:GO) (a0 a1 a2 a3 a4 a5 a6 a7:AV):Rf (fun(s:StG) T=>GH b g [a0,a1,a2,a3,a4,a5,a6,a7,.sl 11 0 256] s.2.1 0 s.2.2 s.1 (qf false) T) (fun(z:D_×Nat×G_) T=>GH b g Cd 0 ((z.2.1:Int)+1) z.2.2 z.1 NC T) 18 17 (VB b) (aCM b.length):=by
 intro p r s K o N hi hK hN;obtain⟨C,n0,Z⟩:=s;obtain⟨i1,i2,i3,i4,i5⟩:=hi;simp only at i1 i2 i3 i4;have hp:=i5 p (.head _);have hH:=asB p.1 b n0 hb o_ hp.1;have hd:=ayg p.1 (dR.2 o_) hp.1.1
 cases e:EI p.1 b n0 with
 | ok l n =>
  have hq:=avH ⟨hp.1.1,o_⟩ e;rw[e,eI hq]at hH;obtain⟨q1,q2,q3⟩:=hq;have hl:l.length=bH p.1:=o_;refine .inl ⟨(aG C (4*p.1) (qQ p.1),n,aG Z p.2 l),N+1+1,o_,by simp only[VB,e],⟨abV i1 hp.1,q2,?_,fun x hx=>?_,fun q hq=>i5 q (.tail _ hq)⟩,aAq b g a0 a1 a2 a3 a4 a5 a6 a7 n0 0 Z i3 C i1 p hp l hl n hH K o hK N hN⟩
  .show (aG Z p.2 l).length=256;rw[WB o_];exact i3
  .rcases auI hx with h | h
   .exact i4 x h
   .exact q3 x h
 | er e2 =>
  rw[e,iK]at hH;exact .inr ⟨(aG C (4*p.1) (qQ p.1),e2,Z),N+1+1,o_,by simp only[VB,e],aAN b g a0 a1 a2 a3 a4 a5 a6 a7 n0 0 Z C i1 p hp e2 hH K o hK N hN⟩
def atS {b:C_}:∀ {r:R_}{C:D_}{n:Nat}{Z:G_},(∀ Z2 m,ko b r n Z=.ok Z2 m->∃ C2,kW (VB b) r (C,n,Z)=.inl (C2,m,Z2))∧∀ e,ko b r n Z=.er e->∃ C2 Z2,kW (VB b) r (C,n,Z)=.inr (C2,e,Z2)
 | [],C,n,Z=>⟨fun Z2 m h=>by
   injection h with g1 g2
   subst g1 g2;exact⟨C,rfl⟩,fun e h=>absurd h (by simp[ko])⟩
 | p::r,C,n,Z=>by
  rw[ko,kW]
  cases e:EI p.1 b n with
  | ok l m =>
   simp only[VB,e,ay];exact atS
  | er e2 =>
   simp only[VB,e];exact⟨fun Z2 m h=>absurd h s_,fun e3 h=>by
    injection h with h
    subst h;exact⟨_,_,rfl⟩⟩
def at2 {b:C_}{g:GO}{cs:D_}{nx e0:Int}{Z:G_}{C:D_}{lo:Obj}{L:Nat}(hL:18<=L):Lt (GH b g cs nx e0 Z C lo []) L:=by
 intro p hp;simp only[az,cQ,fh]at hp;rcases hp with rfl | rfl | rfl | rfl | rfl | rfl | rfl | rfl | rfl | rfl | rfl | rfl | rfl | rfl | rfl | rfl | rfl | rfl<;>simp only[]<;>omega
def aoG {σ:Type}{F:σ->ak}{L:Nat}(hL:∀ s,Lt (F s) L):Tl (fun s T=>F s++T) L:=by
 refine⟨fun s K o h=>?_,fun s K o o' h=>HG (Kn (hL s) h),fun s K o h=>xi (Kn (hL s) h),fun s K o h=>?_⟩
 .show put (F s++[]) K o=_;rw[bg];exact uU (Kn (hL s) h)
 .show _=F s++[];rw[bg];exact LO (Kn (hL s) h)
abbrev MQ (r:Nat) (jj:aL) (S:H_):R_:=qn (offs r jj.short) S jj.groups 0
abbrev Z0:G_:=List.replicate 256 0
def acp (b:C_) (hb:b.length<=1000000000) (g:GO) (a0 a1 a2 a3 a4 a5 a6 a7:AV) (r:Nat) (hr:r<=11) (jj:aL) (hj:jj.Fit) (hm:jj.may r) (S:H_) (hS:jF jj S) (g14:g.o14=.cells jj.cells) (g15:g.o15=.cells [.d (.lst (bD S))]) (g16:g.o16=.cells [.own false 1 (cR (offs r jj.short))]) (n:Nat) (hn:n<=b.length) :
  (∀ Z m,ko b (MQ r jj S) n Z0=.ok Z m->Z.length=256∧(∀ x∈Z,-40000<=x∧x<=40000)∧m<=b.length∧∃ C2 M,(Dn prog).call iT [.yield 17,.ptr 15 0,.ptr 14 0,.ptr 16 0] ⟨GH b g [a0,a1,a2,a3,a4,a5,a6,a7,.sl 11 0 256] n 0 Z0 uX (qf false) [],18⟩=some (.tup [],⟨GH b g [a0,a1,a2,a3,a4,a5,a6,a7,.sl 11 0 256] m 0 Z C2 (qf false) [],M⟩))∧
  (∀ e,ko b (MQ r jj S) n Z0=.er e->∃ C2 Z2 M,(Dn prog).call iT [.yield 17,.ptr 15 0,.ptr 14 0,.ptr 16 0] ⟨GH b g [a0,a1,a2,a3,a4,a5,a6,a7,.sl 11 0 256] n 0 Z0 uX (qf false) [],18⟩=some (.tup [],⟨GH b g Cd 0 ((e:Int)+1) Z2 C2 NC [],M⟩)):=by
 obtain⟨o1,o2,o3,o4⟩:=AE (r,jj.short) (fp o_);obtain⟨p1,p2,p3⟩:=nT (r,jj.short) (fp o_);simp only at o1 o2 o3 o4 p1 p2 p3;have hmx:=hm.2.2.2.1;have hmy:qO r (decide (jj.seq=2))=(offs r jj.short).length-1:=rfl;have hhi:∀ x∈offs r jj.short,x<=256:=fun x hx=>by
  have:=bG.1 p3 x hx;simp only[decide_eq_true_eq]at this;have:(cond jj.short 32 256:Nat)<=256:=by cases jj.short<;>decide
  omega
 have hT:Tl (fun(s:StG) T=>GH b g [a0,a1,a2,a3,a4,a5,a6,a7,.sl 11 0 256] s.2.1 0 s.2.2 s.1 (qf false) T) 18:=aoG (F:=fun(s:StG)=>GH b g [a0,a1,a2,a3,a4,a5,a6,a7,.sl 11 0 256] s.2.1 0 s.2.2 s.1 (qf false) []) (fun s=>at2 (ai _));have hT2:Tl (fun(z:D_×Nat×G_) T=>GH b g Cd 0 ((z.2.1:Int)+1) z.2.2 z.1 NC T) 18:=aoG (F:=fun(z:D_×Nat×G_)=>GH b g Cd 0 ((z.2.1:Int)+1) z.2.2 z.1 NC []) (fun s=>at2 (ai _));have hpl:=afC (P:=⟨17,14,16,S,offs r jj.short⟩) jj hj (gh hr hm) 15 hT hT2 (azM b hb g a0 a1 a2 a3 a4 a5 a6 a7) (fun s=>by rw[<-g15];rfl) (fun s T=>by rw[<-g14];rfl) (fun s T=>by rw[<-g16];rfl) t_ hhi t_ hS 18 (ai _) (uX,n,Z0) ⟨ae0,hn,by simp only[bi],fun x hx=>by rw[cY hx];omega,fun p hp=>Wf hm hS hr hp⟩;have hru:=atS (b:=b) (r:=MQ r jj S) (C:=uX) (n:=n) (Z:=Z0);refine⟨fun Z m e=>?_,fun e1 e=>?_⟩
 .obtain⟨C2,h1⟩:=hru.1 Z m e;rcases hpl with ⟨s2,M,hM,e1,⟨i1,i2,i3,i4,i5⟩,e5⟩ | ⟨z,M,hM,e1,e3⟩
  .rw[h1]at e1;injection e1 with e1
   subst e1;exact⟨i3,i4,i2,C2,M,e5⟩
  .rw[h1]at e1;exact absurd e1 (by simp)
 .obtain⟨C2,Z2,h1⟩:=hru.2 e1 e;rcases hpl with ⟨s2,M,hM,e1,⟨i1,i2,i3,i4,i5⟩,e5⟩ | ⟨z,M,hM,e1,e3⟩
  .rw[h1]at e1;exact absurd e1 (by simp)
  .rw[h1]at e1;injection e1 with e1
   subst e1;exact⟨C2,Z2,M,e3⟩
def aua:E8 [.int .i64 0] (A_ 256) (A_ 256)=some (.own true 1 (aF Z0)):=(DT (z:=[.int .i64 0]) (n:=256) o_).trans (by simp[aF])
def anN:(aF Z0).length=256:=by rw[iB,bi]
abbrev SB (H:Hd) (Z:G_):D_:=[A_ H.gain,.d (.int .u8 H.inf.seq),.d (.int .u8 H.inf.shape),A_ H.inf.max,.d (.lst (aF H.inf.groups)),.d (.lst (bD H.S)),.d (.lst (cS H.T)),.d (.lst (cK H.F)),.own true 1 (aF Z)]
def amO:∀ r<12,(br prog wm [A_ ((r:Nat):Int),.agg zI]=some (A_ 8)):=by
 intro r hr;have:r=0∨r=1∨r=2∨r=3∨r=4∨r=5∨r=6∨r=7∨r=8∨r=9∨r=10∨r=11:=o_;rcases this with rfl | rfl | rfl | rfl | rfl | rfl | rfl | rfl | rfl | rfl | rfl | rfl<;>exact DV 400 (by kernel_rfl)
def Nz {r:Nat}{q:Bool}{i:aL}{iv:D_}(hr:r<=11) (hi:i.Fit) (hiv:iv=i.cells∨q=false∧iv=zI) (hq:q=true->i.may r):∃ k:Int,(q=true->k=0)∧br prog wm [A_ r,.agg iv]=some (A_ k):=by
 rcases hiv with rfl | ⟨rfl,rfl⟩
 .have hI:=xE r i hi;rw[ac o_,au]at hI;by_cases hm:i.may r
  .rw[ac hm]at hI;exact⟨0,fun _=>rfl,hI⟩
  .rw[aa hm]at hI;exact⟨8,fun h=>absurd (hq h) hm,hI⟩
 .exact⟨8,fun h=>absurd h s_,amO r o_⟩
def auf (b:C_) (hb:b.length<=1000000000) (a:Int) (ha:i64 a) (r:Nat) (hr:r<=11) (q:Bool) (i:aL) (hi:i.Fit) (iv:D_) (hiv:iv=i.cells∨q=false∧iv=zI) (hq:q=true->i.may r) (n0:Nat) (e0:bc b a 0=.ok 0 n0) (H:Hd) (n:Nat) (eH:Cq b n0 r q i=.ok H n) (Z:G_) (m:Nat) (eL:ko b (MQ r H.inf H.S) n Z0=.ok Z m):br prog tg [.d (.lst (am b)),A_ a,A_ r,B_ q,.agg iv] =
  if H.od=0∧(H.is=1->oB H.F=true) then some (.tup [.agg (SB H Z),A_ m,A_ 0])
  else some (.tup [.agg Cd,A_ 0,A_ 8]):=by
 have hR:dV (r:Int):=o_;have hB:=il b a 0 hb ha;have p0:=ed e0;rw[e0,eI p0]at hB;obtain⟨k,hk0,hI⟩:=Nz hr hi hiv hq;have hh:=Ns b hb r hR q i hi iv hiv (fun h=>by rw[au];exact hq h) n0 (by have:=p0.2;omega) k 11;rw[au]at hh;have p1:=hh.2 H n eH;have hl:=hh.1.1 H n eH;have hM:=kF r false;rw[ac hR]at hM;obtain⟨G,j,S,T,Ft,od,is⟩:=H;have hF:=Rs Ft (by have:=p1.F.1;simp only at this;have:=zk j;omega) (fun l hl=>by have:=(p1.F.2 l hl).1;omega);simp only[afR]at hl eL;obtain⟨q1,q2,q3,C2,M,hp⟩:=(acp b hb ⟨.cells [.junk],.cells [B_ q],.cells iv,.cells [A_ od],.cells [A_ is],.cells [age],.cells xb,.cells j.cells,.cells [.d (.lst (bD S))],.cells [.own false 1 (cR (offs r j.short))]⟩ (A_ G) (.d (.int .u8 j.seq)) (.d (.int .u8 j.shape)) (A_ j.max) (.own false 1 (aF j.groups)) (aD 1 (bD S)) (share (aD 1 (cS T))) (aD 1 (cK Ft)) r hr j p1.fit p1.may S p1.S rfl rfl rfl n p1.n).1 Z m eL;have hj11:=gh hr p1.may;have hSl:S.length=j.groups.length:=p1.S.1;have hTl:=bl List.length p1.T;simp only[gJ]at hTl;have hFl:=p1.F.1;simp only at hFl;have hmn:=zk j;have hgn:j.groups≠[]:=fun h=>by have:=(dG hj11).2;rw[h]at this;simp at this;omega
 have hg1:=bJ.2 hgn;obtain⟨s1,S1,rfl⟩:=c7 (bJ.1 (show 0<S.length by omega));obtain⟨t1,T1,rfl⟩:=c7 (bJ.1 (show 0<T.length by omega));obtain⟨f1,F1,rfl⟩:=c7 (bJ.1 (show 0<Ft.length by omega));have eS:aD 1 (bD (s1::S1))=.own false 1 (bD (s1::S1)):=rfl;have eT:share (aD 1 (cS (t1::T1)))=.d (.lst (cS (t1::T1))):=rfl;have eF:aD 1 (cK (f1::F1))=.own false 1 (cK (f1::F1)):=rfl;have hP:=OG r hr j (.lst (bD (s1::S1))) [(0,.cells [.d (.lst (am b))]),(1,.cells [.junk]),(2,.cells [B_ q]),(3,.cells iv),(4,.cells [A_ G,.d (.int .u8 j.seq),.d (.int .u8 j.shape),A_ j.max,.own false 1 (aF j.groups),.own false 1 (bD (s1::S1)),.d (.lst (cS (t1::T1))),.own false 1 (cK (f1::F1)),.sl 11 0 256]),(5,.cells [A_ n]),(6,.cells [A_ 0]),(7,.cells [A_ od]),(8,.cells [A_ is]),(9,.cells [age]),(10,.cells xb),(11,.arr 1 (aF Z0)),(12,.cells uX),(13,.cells [.ptr 12 0])] 14 (fun p hp=>by
  simp only[az,cQ,fh]at hp;rcases hp with rfl | rfl | rfl | rfl | rfl | rfl | rfl | rfl | rfl | rfl | rfl | rfl | rfl | rfl<;>simp only[]<;>omega)
 have c0:((0:Nat):Int)=0:=rfl;rw[eS,eT,eF]at hl hp;simp only[SB,aL.cells,GH,qf,aQ,aO,c0]at hI hl hp hP hB⊢;clear hh p1 eL eH q2 eS eT eF hi;generalize bD (s1::S1)=SS at *;generalize cS (t1::T1)=TT at *;generalize cK (f1::F1)=FF at *;generalize hz:aF Z0=z0 at *;have hk:=aua;have hz2:=anN;rw[hz]at hk hz2;rw[aJ Fu Fc rfl];have hmk:JN 1 xb=true:=rfl;simp only[xb,Aa]at hmk;have hZt:List.take 256 Z=Z:=ck o_;have hoi:(od=0∧((((is:Nat):Int)=1∧oB (f1::F1)=true)∨(((is:Nat):Int)≠1)))∨(od=0∧((is:Nat):Int)=1∧oB (f1::F1)=false)∨od≠0:=by
  cases oB (f1::F1)<;>simp<;>omega
 have hii:(is=1)=(((is:Nat):Int)=1):=propext o_;simp only[hii];clear hii;generalize oB (f1::F1)=an at *;generalize ((is:Nat):Int)=iz at *;rcases hoi with ⟨h1,⟨h2,h3⟩ | h2⟩ | ⟨h1,h2,h3⟩ | h1
 .subst h3;rw[ac ⟨h1,fun _=>rfl⟩];rcases hiv with rfl | ⟨rfl,rfl⟩
  .simp only[aL.cells]at hI hl hp hP⊢
   cases q with
   | true =>
    have:=hk0 rfl;subst this;simp (config := { maxSteps:=1000000 }) (disch:=omega) [↓ac,↓aa,rd,hB,hM,hI,hl,hk,hz2,hP,hp,hmk,hF,q1,hZt]
   | false=>simp (config := { maxSteps:=1000000 }) (disch:=omega) [↓ac,↓aa,rd,hB,hM,hI,hl,hk,hz2,hP,hp,hmk,hF,q1,hZt]
  .simp only[zI]at hI hl hp hP⊢;simp (config := { maxSteps:=1000000 }) (disch:=omega) [↓ac,↓aa,rd,hB,hM,hI,hl,hk,hz2,hP,hp,hmk,hF,q1,hZt]
 .rw[ac ⟨h1,fun h=>absurd h h2⟩];rcases hiv with rfl | ⟨rfl,rfl⟩
  .simp only[aL.cells]at hI hl hp hP⊢
   cases q with
   | true =>
    have:=hk0 rfl;subst this;simp (config := { maxSteps:=1000000 }) (disch:=omega) [↓ac,↓aa,rd,hB,hM,hI,hl,hk,hz2,hP,hp,hmk,hF,q1,hZt]
   | false=>simp (config := { maxSteps:=1000000 }) (disch:=omega) [↓ac,↓aa,rd,hB,hM,hI,hl,hk,hz2,hP,hp,hmk,hF,q1,hZt]
  .simp only[zI]at hI hl hp hP⊢;simp (config := { maxSteps:=1000000 }) (disch:=omega) [↓ac,↓aa,rd,hB,hM,hI,hl,hk,hz2,hP,hp,hmk,hF,q1,hZt]
 .subst h3;rw[aa (fun h=>absurd (h.2 h2) s_)];rcases hiv with rfl | ⟨rfl,rfl⟩
  .simp only[aL.cells]at hI hl hp hP⊢
   cases q with
   | true =>
    have:=hk0 rfl;subst this;simp (config := { maxSteps:=1000000 }) (disch:=omega) [↓ac,↓aa,rd,hB,hM,hI,hl,hk,hz2,hP,hp,hmk,hF,q1,hZt]
   | false=>simp (config := { maxSteps:=1000000 }) (disch:=omega) [↓ac,↓aa,rd,hB,hM,hI,hl,hk,hz2,hP,hp,hmk,hF,q1,hZt]
  .simp only[zI]at hI hl hp hP⊢;simp (config := { maxSteps:=1000000 }) (disch:=omega) [↓ac,↓aa,rd,hB,hM,hI,hl,hk,hz2,hP,hp,hmk,hF,q1,hZt]
 .rw[aa (fun h=>absurd h.1 h1)];rcases hiv with rfl | ⟨rfl,rfl⟩
  .simp only[aL.cells]at hI hl hp hP⊢
   cases q with
   | true =>
    have:=hk0 rfl;subst this;simp (config := { maxSteps:=1000000 }) (disch:=omega) [↓ac,↓aa,rd,hB,hM,hI,hl,hk,hz2,hP,hp,hmk,hF,q1,hZt]
   | false=>simp (config := { maxSteps:=1000000 }) (disch:=omega) [↓ac,↓aa,rd,hB,hM,hI,hl,hk,hz2,hP,hp,hmk,hF,q1,hZt]
  .simp only[zI]at hI hl hp hP⊢;simp (config := { maxSteps:=1000000 }) (disch:=omega) [↓ac,↓aa,rd,hB,hM,hI,hl,hk,hz2,hP,hp,hmk,hF,q1,hZt]
abbrev qK:=@Classical.byContradiction
def aph (b:C_) (hb:b.length<=1000000000) (a:Int) (ha:i64 a) (r:Nat) (hr:r<=11) (q:Bool) (i:aL) (iv:D_) (hiv:iv=i.cells∨q=false∧iv=zI) (e:Nat) (e0:bc b a 0=.er e):br prog tg [.d (.lst (am b)),A_ a,A_ r,B_ q,.agg iv] =
  some (.tup [.agg Cd,A_ 0,A_ (e+1)]):=by
 have hR:dV (r:Int):=o_;have hB:=il b a 0 hb ha;rw[e0,iK]at hB;have hM:=kF r false;rw[ac hR]at hM;rcases hiv with rfl | ⟨rfl,rfl⟩
 all_goals
  simp only[aL.cells,zI];rw[aJ Fu Fc rfl];simp (config := { maxSteps:=1000000 }) (disch:=omega) [↓ac,↓aa,rd,hB,hM]
def asw (b:C_) (hb:b.length<=1000000000) (a:Int) (ha:i64 a) (r:Nat) (hr:r<=11) (i:aL) (hi:i.Fit) (hm:¬ i.may r) (n0:Nat) (e0:bc b a 0=.ok 0 n0):br prog tg [.d (.lst (am b)),A_ a,A_ r,B_ true,.agg i.cells] =
  some (.tup [.agg Cd,A_ 0,A_ 8]):=by
 have hR:dV (r:Int):=o_;have hB:=il b a 0 hb ha;have p0:=ed e0;rw[e0,eI p0]at hB;have hM:=kF r false;rw[ac hR]at hM;have hI:=xE r i hi;rw[ac hR,au,aa hm]at hI;have c0:((0:Nat):Int)=0:=rfl;simp only[aL.cells,c0]at hI hB⊢;rw[aJ Fu Fc rfl];simp (config := { maxSteps:=1000000 }) (disch:=omega) [↓ac,↓aa,rd,hB,hM,hI]
def arm (b:C_) (hb:b.length<=1000000000) (a:Int) (ha:i64 a) (r:Nat) (hr:r<=11) (q:Bool) (i:aL) (hi:i.Fit) (iv:D_) (hiv:iv=i.cells∨q=false∧iv=zI) (hq:q=true->i.may r) (n0:Nat) (e0:bc b a 0=.ok 0 n0) (e:Nat) (eH:Cq b n0 r q i=.er e):br prog tg [.d (.lst (am b)),A_ a,A_ r,B_ q,.agg iv] =
  some (.tup [.agg Cd,A_ 0,A_ (e+1)]):=by
 have hR:dV (r:Int):=o_;have hB:=il b a 0 hb ha;have p0:=ed e0;rw[e0,eI p0]at hB;obtain⟨k,hk0,hI⟩:=Nz hr hi hiv hq;have hh:=Ns b hb r hR q i hi iv hiv (fun h=>by rw[au];exact hq h) n0 (by have:=p0.2;omega) k 11;rw[au]at hh;obtain⟨od2,is2,hl⟩:=hh.1.2 e eH;have hM:=kF r false;rw[ac hR]at hM;have c0:((0:Nat):Int)=0:=rfl;simp only[aL.cells,c0]at hI hl hB⊢;clear hh eH hi hq;rw[aJ Fu Fc rfl];have hmk:JN 1 xb=true:=rfl;simp only[xb,Aa]at hmk;rcases hiv with rfl | ⟨rfl,rfl⟩
 .simp only[aL.cells]at hI hl⊢
  cases q with
  | true =>
   have:=hk0 rfl;subst this;simp (config := { maxSteps:=1000000 }) (disch:=omega) [↓ac,↓aa,rd,hB,hM,hI,hl,hmk]
  | false=>simp (config := { maxSteps:=1000000 }) (disch:=omega) [↓ac,↓aa,rd,hB,hM,hI,hl,hmk]
 .simp only[zI]at hI hl⊢;simp (config := { maxSteps:=1000000 }) (disch:=omega) [↓ac,↓aa,rd,hB,hM,hI,hl,hmk]
def ard (b:C_) (hb:b.length<=1000000000) (a:Int) (ha:i64 a) (r:Nat) (hr:r<=11) (q:Bool) (i:aL) (hi:i.Fit) (iv:D_) (hiv:iv=i.cells∨q=false∧iv=zI) (hq:q=true->i.may r) (n0:Nat) (e0:bc b a 0=.ok 0 n0) (H:Hd) (n:Nat) (eH:Cq b n0 r q i=.ok H n) (e:Nat) (eL:ko b (MQ r H.inf H.S) n Z0=.er e):br prog tg [.d (.lst (am b)),A_ a,A_ r,B_ q,.agg iv] =
  some (.tup [.agg Cd,A_ 0,A_ (e+1)]):=by
 have hR:dV (r:Int):=o_;have hB:=il b a 0 hb ha;have p0:=ed e0;rw[e0,eI p0]at hB;obtain⟨k,hk0,hI⟩:=Nz hr hi hiv hq;have hh:=Ns b hb r hR q i hi iv hiv (fun h=>by rw[au];exact hq h) n0 (by have:=p0.2;omega) k 11;rw[au]at hh;have p1:=hh.2 H n eH;have hl:=hh.1.1 H n eH;have hM:=kF r false;rw[ac hR]at hM;obtain⟨G,j,S,T,Ft,od,is⟩:=H;simp only[afR]at hl eL;obtain⟨C2,Z2,M,hp⟩:=(acp b hb ⟨.cells [.junk],.cells [B_ q],.cells iv,.cells [A_ od],.cells [A_ is],.cells [age],.cells xb,.cells j.cells,.cells [.d (.lst (bD S))],.cells [.own false 1 (cR (offs r j.short))]⟩ (A_ G) (.d (.int .u8 j.seq)) (.d (.int .u8 j.shape)) (A_ j.max) (.own false 1 (aF j.groups)) (aD 1 (bD S)) (share (aD 1 (cS T))) (aD 1 (cK Ft)) r hr j p1.fit p1.may S p1.S rfl rfl rfl n p1.n).2 e eL;have hj11:=gh hr p1.may;have hSl:S.length=j.groups.length:=p1.S.1;have hTl:=bl List.length p1.T;simp only[gJ]at hTl;have hFl:=p1.F.1;simp only at hFl;have hmn:=zk j;have hgn:j.groups≠[]:=fun h=>by have:=(dG hj11).2;rw[h]at this;simp at this;omega
 have hg1:=bJ.2 hgn;obtain⟨s1,S1,rfl⟩:=c7 (bJ.1 (show 0<S.length by omega));obtain⟨t1,T1,rfl⟩:=c7 (bJ.1 (show 0<T.length by omega));obtain⟨f1,F1,rfl⟩:=c7 (bJ.1 (show 0<Ft.length by omega));have eS:aD 1 (bD (s1::S1))=.own false 1 (bD (s1::S1)):=rfl;have eT:share (aD 1 (cS (t1::T1)))=.d (.lst (cS (t1::T1))):=rfl;have eF:aD 1 (cK (f1::F1))=.own false 1 (cK (f1::F1)):=rfl;have hP:=OG r hr j (.lst (bD (s1::S1))) [(0,.cells [.d (.lst (am b))]),(1,.cells [.junk]),(2,.cells [B_ q]),(3,.cells iv),(4,.cells [A_ G,.d (.int .u8 j.seq),.d (.int .u8 j.shape),A_ j.max,.own false 1 (aF j.groups),.own false 1 (bD (s1::S1)),.d (.lst (cS (t1::T1))),.own false 1 (cK (f1::F1)),.sl 11 0 256]),(5,.cells [A_ n]),(6,.cells [A_ 0]),(7,.cells [A_ od]),(8,.cells [A_ is]),(9,.cells [age]),(10,.cells xb),(11,.arr 1 (aF Z0)),(12,.cells uX),(13,.cells [.ptr 12 0])] 14 (fun p hp=>by
  simp only[az,cQ,fh]at hp;rcases hp with rfl | rfl | rfl | rfl | rfl | rfl | rfl | rfl | rfl | rfl | rfl | rfl | rfl | rfl<;>simp only[]<;>omega)
 have c0:((0:Nat):Int)=0:=rfl;rw[eS,eT,eF]at hl hp;simp only[aL.cells,GH,qf,NC,aQ,aO,c0]at hI hl hp hP hB⊢;clear hh p1 eL eH eS eT eF hi;generalize bD (s1::S1)=SS at *;generalize cS (t1::T1)=TT at *;generalize cK (f1::F1)=FF at *;generalize hz:aF Z0=z0 at *;have hk:=aua;have hz2:=anN;rw[hz]at hk hz2;rw[aJ Fu Fc rfl];have hmk:JN 1 xb=true:=rfl;simp only[xb,Aa]at hmk;rcases hiv with rfl | ⟨rfl,rfl⟩
 .simp only[aL.cells]at hI hl hp hP⊢
  cases q with
  | true =>
   have:=hk0 rfl;subst this;simp (config := { maxSteps:=1000000 }) (disch:=omega) [↓ac,↓aa,rd,hB,hM,hI,hl,hk,hz2,hP,hp,hmk]
  | false=>simp (config := { maxSteps:=1000000 }) (disch:=omega) [↓ac,↓aa,rd,hB,hM,hI,hl,hk,hz2,hP,hp,hmk]
 .simp only[zI]at hI hl hp hP⊢;simp (config := { maxSteps:=1000000 }) (disch:=omega) [↓ac,↓aa,rd,hB,hM,hI,hl,hk,hz2,hP,hp,hmk]
def Ci (b:C_) (a:Int) (r:Nat) (q:Bool) (i:aL):R (Hd×G_) :=
 (bc b a 0).bind fun _ n=>if q=true∧¬ i.may r then .er 7 else (Cq b n r q i).bind fun H n=>(ko b (MQ r H.inf H.S) n Z0).bind fun Z m=>if H.od=0∧(H.is=1->oB H.F=true) then .ok (H,Z) m else .er 7
abbrev asv (x:R (Hd×G_)):M_:=match x with
 | .ok v m=>some (.tup [.agg (SB v.1 v.2),A_ m,A_ 0])
 | .er e=>some (.tup [.agg Cd,A_ 0,A_ (e+1)])
def ak2 (b:C_) (hb:b.length<=1000000000) (a:Int) (ha:i64 a) (r:Nat) (hr:r<=11) (q:Bool) (i:aL) (hi:i.Fit) (iv:D_) (hiv:iv=i.cells∨q=false∧iv=zI):br prog tg [.d (.lst (am b)),A_ a,A_ r,B_ q,.agg iv]=asv (Ci b a r q i):=by
 unfold Ci
 cases e0:bc b a 0 with
 | er e=>exact aph b hb a ha r hr q i iv hiv e e0
 | ok v n0 =>
 have hv:v=0:=by have:v<1:=(ed e0).1;omega
 subst hv;rw[ay];by_cases hm:q=true∧¬ i.may r
 .rw[ac hm];obtain⟨rfl,hm⟩:=hm
  cases hiv.resolve_right fun h=>absurd h.1 (by simp)
  exact asw b hb a ha r hr i hi hm n0 e0
 .rw[aa hm];have hq:q=true->i.may r:=fun h=>qK fun h2=>hm ⟨h,h2⟩
  cases eH:Cq b n0 r q i with
  | er e=>exact arm b hb a ha r hr q i hi iv hiv hq n0 e0 e eH
  | ok H n =>
  rw[ay]
  cases eL:ko b (MQ r H.inf H.S) n Z0 with
  | er e=>exact ard b hb a ha r hr q i hi iv hiv hq n0 e0 H n eH e eL
  | ok Z m =>
   rw[ay,auf b hb a ha r hr q i hi iv hiv hq n0 e0 H n eH Z m eL];by_cases h:H.od=0∧(H.is=1->oB H.F=true)
   .rw[ac h,ac h]
   .rw[aa h,aa h];rfl
def asE (l:G_) (hl:l.length<=1000000) (h:ak) (N:Nat):∀ (r:G_) (i:Nat),l.drop i=r->(Dn prog).code (.loop kN) ⟨[(0,.d (.lst (aF l))),(1,.d (.lst (aF l))),(5,A_ i)],⟨h,N⟩⟩=some (.exit 0,⟨[],⟨h,N⟩⟩):=by
 intro r
 induction r with
 | nil =>
  intro i hd;have hi:=bb hd;rw[ah yi];simp (maxSteps:=300000) (disch:=omega) [↓ac,↓aa]
 | cons v r ih =>
  intro i hd;have hg:=xC hd;have hlt:=bv hd;have e:=ih (i+1) (bn hd);rw[show ((i+1:Nat):Int)=(i:Int)+1 from rfl]at e;rw[ah yi];simp (maxSteps:=300000) (disch:=omega) [↓ac,↓aa,hg,e]
def Hk (l:G_) (hl:l.length<=1000000):br prog CJ [.d (.lst (aF l)),.d (.lst (aF l))]=some (B_ true):=by
 have e:=asE l hl [] 0 l 0 rfl;rw[show ((0:Nat):Int)=0 from rfl]at e;rw[aJ N2 Nh rfl];simp (maxSteps:=300000) (disch:=omega) [↓ac,↓aa,e]
def anw (i:aL) (hi:i.groups.length<=1000000):br prog Bq [.agg i.cells,.agg i.cells]=some (B_ true):=by
 have e:=Hk i.groups hi;simp only[aL.cells];rw[aJ Nt NS rfl];simp (maxSteps:=300000) (disch:=omega) [↓ac,↓aa,e]
def ary (l:J_) (hl:l.length<=1000000) (hq:∀ x∈l,x.length<=1000000) (h:ak) (N:Nat):∀ (r:J_) (i:Nat),l.drop i=r->(Dn prog).code (.loop iQ) ⟨[(0,.d (.lst (cS l))),(1,.d (.lst (cS l))),(5,A_ i)],⟨h,N⟩⟩=some (.exit 0,⟨[],⟨h,N⟩⟩):=by
 intro r
 induction r with
 | nil =>
  intro i hd;have hi:=bb hd;rw[ah r7];simp (maxSteps:=300000) (disch:=omega) [↓ac,↓aa]
 | cons v r ih =>
  intro i hd;have hg:=E3 hd;have hlt:=bv hd;have hv:=hq v (cH (by rw[hd];exact .head _));have e:=ih (i+1) (bn hd);have e2:=Hk v hv;rw[show ((i+1:Nat):Int)=(i:Int)+1 from rfl]at e;rw[ah r7];simp (maxSteps:=300000) (disch:=omega) [↓ac,↓aa,hg,e,e2]
def Yk (l:J_) (hl:l.length<=1000000) (hq:∀ x∈l,x.length<=1000000):br prog vU [.d (.lst (cS l)),.d (.lst (cS l))]=some (B_ true):=by
 have e:=ary l hl hq [] 0 l 0 rfl;rw[show ((0:Nat):Int)=0 from rfl]at e;rw[aJ Hb G8 rfl];simp (maxSteps:=300000) (disch:=omega) [↓ac,↓aa,e]
def apZ (x y:Int):Yg true [true,true] (.agg [A_ x,A_ y]) (.agg [A_ x,A_ y])=some (.bool false):=by
 simp[Yg,bx,mX]
def avM (full:H_) (w:Nat) (l:P_) (q:H_) (hw:full.drop w=l::q) (hf:full.length<=1000000) (hl:l.length<=1000000) (h:ak) (N:Nat):∀ (r:P_) (i:Nat),l.drop i=r->(Dn prog).code (.loop gq) ⟨[(0,.d (.lst (bD full))),(1,.d (.lst (bD full))),(5,A_ w),(6,A_ i)],⟨h,N⟩⟩=some (.exit 2,⟨[(0,.d (.lst (bD full))),(1,.d (.lst (bD full))),(5,A_ w)],⟨h,N⟩⟩):=by
 have hg1:=kH hw;have hw1:=bv hw;intro r
 induction r with
 | nil =>
  intro i hd;have hi:=bb hd;rw[ah pc];simp (maxSteps:=300000) (disch:=omega) [↓ac,↓aa,hg1]
 | cons v r ih =>
  intro i hd;have hg:=wZ hd;have hlt:=bv hd;have e:=ih (i+1) (bn hd);rw[show ((i+1:Nat):Int)=(i:Int)+1 from rfl]at e;rw[ah pc];simp (maxSteps:=300000) (disch:=omega) [↓ac,↓aa,hg,hg1,e,apZ]
def awp (full:H_) (hf:full.length<=1000000) (hq:∀ x∈full,x.length<=1000000) (h:ak) (N:Nat):∀ (r:H_) (i:Nat),full.drop i=r->(Dn prog).code (.loop gy) ⟨[(0,.d (.lst (bD full))),(1,.d (.lst (bD full))),(5,A_ i)],⟨h,N⟩⟩=some (.exit 0,⟨[],⟨h,N⟩⟩):=by
 intro r
 induction r with
 | nil =>
  intro i hd;have hi:=bb hd;rw[ah oS];simp (maxSteps:=300000) (disch:=omega) [↓ac,↓aa]
 | cons v r ih =>
  intro i hd;have hg:=kH hd;have hlt:=bv hd;have hv:=hq v (cH (by rw[hd];exact .head _));have e:=ih (i+1) (bn hd);have e2:=avM full i v r hd hf hv h N v 0 rfl;rw[show ((i+1:Nat):Int)=(i:Int)+1 from rfl]at e;rw[show ((0:Nat):Int)=0 from rfl]at e2;rw[ah oS];simp (maxSteps:=300000) (disch:=omega) [↓ac,↓aa,hg,e,e2]
def R7 (l:H_) (hl:l.length<=1000000) (hq:∀ x∈l,x.length<=1000000):br prog rU [.d (.lst (bD l)),.d (.lst (bD l))]=some (B_ true):=by
 have e:=awp l hl hq [] 0 l 0 rfl;rw[show ((0:Nat):Int)=0 from rfl]at e;rw[aJ Ee DP rfl];simp (maxSteps:=300000) (disch:=omega) [↓ac,↓aa,e]
def axv (full:N_) (w:Nat) (l:AA_) (q:N_) (hw:full.drop w=l::q) (hf:full.length<=1000000) (hl:l.length<=1000000) (hc:∀ f∈l,f.coefs.length<=1000000):∀ (r:AA_) (i N:Nat),l.drop i=r->∃ M,(Dn prog).code (.loop jr) ⟨[(0,.d (.lst (cK full))),(1,.d (.lst (cK full))),(5,A_ w),(6,A_ i)],⟨[],N⟩⟩=some (.exit 2,⟨[(0,.d (.lst (cK full))),(1,.d (.lst (cK full))),(5,A_ w)],⟨[],M⟩⟩):=by
 have hg1:=tj hw;have hw1:=bv hw;intro r
 induction r with
 | nil =>
  intro i N hd;have hi:=bb hd;refine⟨N,?_⟩;rw[ah uC];simp (maxSteps:=300000) (disch:=omega) [↓ac,↓aa,hg1]
 | cons v r ih =>
  intro i N hd;have hg:=An hd;have hlt:=bv hd;have hv:=hc v (cH (by rw[hd];exact .head _));have e2:=Hk v.coefs hv;obtain⟨M,e⟩:=ih (i+1) (N+1+1) (bn hd);rw[show ((i+1:Nat):Int)=(i:Int)+1 from rfl]at e;refine⟨M,?_⟩;rw[ah uC];simp (maxSteps:=300000) (disch:=omega) [↓ac,↓aa,hg,hg1,e,e2]
def axl (full:N_) (hf:full.length<=1000000) (hq:∀ x∈full,x.length<=1000000) (hc:∀ x∈full,∀ f∈x,f.coefs.length<=1000000):∀ (r:N_) (i N:Nat),full.drop i=r->∃ M,(Dn prog).code (.loop jq) ⟨[(0,.d (.lst (cK full))),(1,.d (.lst (cK full))),(5,A_ i)],⟨[],N⟩⟩=some (.exit 0,⟨[],⟨[],M⟩⟩):=by
 intro r
 induction r with
 | nil =>
  intro i N hd;have hi:=bb hd;refine⟨N,?_⟩;rw[ah ui];simp (maxSteps:=300000) (disch:=omega) [↓ac,↓aa]
 | cons v r ih =>
  intro i N hd;have hg:=tj hd;have hlt:=bv hd;have hm:v∈full:=cH (by rw[hd];exact .head _);have hv:=hq v hm;obtain⟨M1,e2⟩:=axv full i v r hd hf hv (hc v hm) v 0 N rfl;obtain⟨M,e⟩:=ih (i+1) M1 (bn hd);rw[show ((i+1:Nat):Int)=(i:Int)+1 from rfl]at e;rw[show ((0:Nat):Int)=0 from rfl]at e2;refine⟨M,?_⟩;rw[ah ui];simp (maxSteps:=300000) (disch:=omega) [↓ac,↓aa,hg,e,e2]
def adD (l:N_) (hl:l.length<=1000000) (hq:∀ x∈l,x.length<=1000000) (hc:∀ x∈l,∀ f∈x,f.coefs.length<=1000000):br prog yo [.d (.lst (cK l)),.d (.lst (cK l))]=some (B_ true):=by
 obtain⟨M,e⟩:=axl l hl hq hc l 0 0 rfl;rw[show ((0:Nat):Int)=0 from rfl]at e;rw[aJ Jt Jw rfl];simp (maxSteps:=300000) (disch:=omega) [↓ac,↓aa,e]
def amX (c:cu) (hc:c.Fit):br prog Cp [.agg c.av,.agg c.av]=some (B_ true):=by
 have hg:=hc.info.len;have hl:=hc.lines;have h1:=anw c.info o_;have h2:=Hk c.lines o_;have h3:=R7 c.sects (by have:=hc.sects.1;omega) (fun l h=>by have:=hc.sects.2 l h;omega);have h4:=Yk c.steps (by have:=hc.steps.1;omega) (fun l h=>by have:=hc.steps.2 l h;omega);have h5:=adD c.tns (by have:=hc.tns.1;omega) (fun l h=>by have:=(hc.tns.2 l h).1;omega) (fun l h f hf=>by have:=(hc.tns.2 l h).2 f hf;omega);simp only[cu.av,aL.cells]at h1⊢;rw[aJ NR NZ rfl];simp (maxSteps:=300000) (disch:=omega) [↓ac,↓aa,h1,h2,h3,h4,h5]
abbrev xf:=@List.drop_left
abbrev dX:=@Nat.mul_comm
abbrev yG:=@Nat.mul_assoc
abbrev nz:=@Nat.add_mul_div_right
def At (b:C_) (a n:Nat) (X:C_):Prop:=a<=b.length∧n=a+X.length∧∃ t,b.drop a=X++t
def dT {b:C_}{a n:Nat}:At b a n []↔n=a∧a<=b.length:=by
 constructor
 .rintro ⟨h1,h2,_⟩
  exact⟨by simpa using h2,h1⟩
 .rintro ⟨h1,h2⟩
  exact⟨h2,by simpa using h1,b.drop a,rfl⟩
def dn {b:C_}{a n:Nat}{X:C_}(h:At b a n X):a<=b.length∧n<=b.length∧n=a+X.length:=by
 obtain⟨h1,h2,t,h3⟩:=h;have:=bl List.length h3;rw[dM,al]at this;exact⟨h1,o_,h2⟩
def aX {b:C_}{a n:Nat}{X Y:C_}:At b a n (X++Y)↔∃ m,At b a m X∧At b m n Y:=by
 constructor
 .intro h;have hl:=dn h;obtain⟨h1,h2,t,h3⟩:=h;rw[al]at h2;refine⟨a+X.length,⟨h1,rfl,Y++t,by rw[h3,aA]⟩,o_,o_,t,?_⟩;rw[<-jC,h3,aA,xf]
 .rintro ⟨m,⟨h1,h2,t,h3⟩,h4,h5,t2,h6⟩
  refine⟨h1,by rw[al];omega,t2,?_⟩;rw[h2,<-jC,h3,xf]at h6;rw[h3,h6,aA]
def dp {n:Nat}:∀ {k:Nat},bin (ar n k)
 | 0=>by simp[ar,bin]
 | k+1=>by
  intro x hx;rw[ar]at hx;rcases az.1 hx with h | h
  .omega
  .exact dp x h
def abl {v:Nat}:∀ {s n:Nat},val (ar v s) n=n*2 ^ s+v % 2 ^ s
 | 0,n=>by simp[ar,val,Nat.mod_one]
 | k+1,n=>by
  rw[ar,val,abl,Nat.mod_pow_succ,cZ,da];have:2*n*2 ^ k=n*(2 ^ k*2):=by rw[dX 2 n,yG,dX 2 (2 ^ k)]
  rw[this,dX (v / 2 ^ k % 2)];omega
def agJ:∀ {l:C_}{n:Nat},val l n=n*2 ^ l.length+val l 0
 | [],n=>by simp[val]
 | x::r,n=>by
  rw[val,val,agJ,agJ (n:=2*0+x),aq,cZ,da];have:2*n*2 ^ r.length=n*(2 ^ r.length*2):=by rw[dX 2 n,yG,dX 2 (2 ^ r.length)]
  rw[this];simp only[Nat.mul_zero,bz];omega
def S8:∀ {l:C_}{n:Nat},bin l->ar (val l n) l.length=l
 | [],n,_=>rfl
 | x::r,n,h=>by
  have hr:bin r:=fun y hy=>h y (.tail _ hy)
  have hx:=h x (.head _);have h0:=L6 (l:=r) (n:=0) (i:=0) hr o_;rw[bz]at h0;have e:val r (2*n+x) / 2 ^ r.length % 2=x:=by
   rw[agJ,oE,nz _ _ (Nat.pow_pos k_),iH h0];omega
  rw[val,aq,ar,e,S8 hr]
def ca {b:C_}{a s v n:Nat}(hs:s<=31):bc b (a:Int) (s:Int)=.ok v n↔v<2 ^ s∧At b a n (ar v s):=by
 unfold bc;simp only[au];constructor
 .intro h;by_cases h1:(0<=(s:Int)∧(s:Int)<=31)∧0<=(a:Int)∧(a:Int)<=b.length
  .rw[ac h1]at h;by_cases h2:((b.length:Nat):Int)-a<s
   .rw[ac h2]at h;exact absurd h (by simp)
   .rw[aa h2]at h;by_cases h3:bin ((b.drop a).take s)
    .rw[ac h3]at h;injection h with e1 e2
     have hl:((b.drop a).take s).length=s:=by rw[di,dM];omega
     have h4:=L6 (n:=0) (i:=0) h3 o_;have h5:=S8 (n:=0) h3;rw[hl,e1]at h4 h5;rw[bz]at h4;refine⟨h4,o_,by rw[dL];omega,(b.drop a).drop s,?_⟩;rw[h5,aT]
    .rw[aa h3]at h;exact absurd h (by simp)
  .rw[aa h1]at h;exact absurd h (by simp)
 .rintro ⟨hv,h⟩
  have hl:=dn h;obtain⟨h1,h2,t,h3⟩:=h;rw[dL]at h2;have e:(b.drop a).take s=ar v s:=by rw[h3,List.take_left' dL]
  rw[ac o_,aa o_,e,ac dp,abl,fj hv,h2];simp
def ak0 {b:C_}{a:Int}{s:Int}{v n:Nat}(h:bc b a s=.ok v n):0<=a:=by
 unfold bc at h;by_cases h1:(0<=s∧s<=31)∧0<=a∧a<=b.length
 .exact h1.2.1
 .rw[aa h1]at h;exact absurd h (by simp)
def Tn {α:Type}{c:Prop}[Decidable c] {v w:α}{n m:Nat}:Rz c v n=.ok w m↔c∧v=w∧n=m:=by
 unfold Rz;by_cases h:c
 .rw[ac h];exact⟨fun e=>by injection e with e1 e2;exact⟨h,e1,e2⟩,fun⟨_,e1,e2⟩=>by rw[e1,e2]⟩
 .rw[aa h];exact⟨fun e=>absurd e s_,fun e=>absurd e.1 h⟩
def aS {α β:Type}{x:R α}{f:α->Nat->R β}{v:β}{n:Nat}:x.bind f=.ok v n↔∃ u m,x=.ok u m∧f u m=.ok v n :=
 ⟨qz,fun⟨u,m,h1,h2⟩=>by rw[h1];exact h2⟩
def ZJ:Nat->AD_
 | 0=>[[]]
 | k+1=>(ZJ k).map (0::·)++(ZJ k).map (1::·)
def akb:∀ {l:C_},bin l->l∈ZJ l.length
 | [],_=>by simp[ZJ]
 | x::r,h=>by
  have ih:=akb (l:=r) fun y hy=>h y (.tail _ hy)
  have hx:=h x (.head _);rw[aq,ZJ,be,dj,dj];rcases Nat.le_one_iff_eq_zero_or_eq_one.1 hx with rfl | rfl
  .exact .inl ⟨r,ih,rfl⟩
  .exact .inr ⟨r,ih,rfl⟩
def agl:Nat->Nat->J_
 | 0,_=>[]
 | f+1,0=>[[]]
 | f+1,n+1=>(List.range (n+1)).flatMap fun k=>(agl f (n-k)).map (((k:Int)+1)::·)
def ake:∀ {g:G_}{f n:Nat},(∀ x∈g,1<=x)->g.sum=n->n<f->g∈agl f n
 | [],f,n,_,h,hf=>by
  obtain⟨f,rfl⟩:=Nat.exists_eq_add_of_lt hf;have:n=0:=by simp at h;omega
  subst this;simp[agl]
 | x::r,f,n,hx,h,hf=>by
  have h1:=hx x (.head _);have h2:=mE (l:=r) fun y hy=>hx y (.tail _ hy)
  rw[kD]at h;obtain⟨f,rfl⟩:∃ k,f=k+1:=⟨f-1,o_⟩
  obtain⟨n,rfl⟩:∃ k,n=k+1:=⟨n-1,o_⟩
  have ih:=ake (g:=r) (f:=f) (n:=n-(x.toNat-1)) (fun y hy=>hx y (.tail _ hy)) o_ o_;rw[agl,ub];exact⟨x.toNat-1,dR.2 o_,dj.2 ⟨r,ih,by congr 1;omega⟩⟩
def auG:∀ l∈ZJ 7,Ij (grow [1] l) 7 0=l:=e_
def au8:∀ g∈agl 9 8,grow [1] (Ij g 7 0)=g:=e_
def OY {b:C_}:∀ {k a n:Nat}{l:C_},a<=b.length->(zU b k a=.ok l n↔(l.length=k∧bin l)∧At b a n l)
 | 0,a,n,l,ha=>by
  rw[zU];constructor
  .intro h;injection h with e1 e2
   subst e1 e2;exact⟨⟨rfl,by simp[bin]⟩,dT.2 ⟨rfl,ha⟩⟩
  .rintro ⟨⟨h1,_⟩,h2⟩
   have:=ax h1;subst this;rw[(dT.1 h2).1]
 | k+1,a,n,l,ha=>by
  rw[zU,aS];constructor
  .rintro ⟨v,m,h1,h2⟩
   obtain⟨g1,g2⟩:=(ca (s:=1) o_).1 h1;obtain⟨l2,m2,h3,h4⟩:=aS.1 h2;injection h4 with e1 e2;subst e1 e2;obtain⟨⟨i1,i2⟩,i3⟩:=(OY (dn g2).2.1).1 h3;refine⟨⟨by rw[aq,i1],fun x hx=>?_⟩,?_⟩
   .rcases az.1 hx with rfl | hx
    .omega
    .exact i2 x hx
   .have e:ar v 1=[v]:=by simp[ar];omega
    rw[e]at g2;exact aX.2 ⟨m,g2,i3⟩
  .rintro ⟨⟨h1,h2⟩,h3⟩
   cases l with
   | nil=>simp at h1
   | cons v r =>
    have hv:=h2 v (.head _);obtain⟨m,g1,g2⟩:=aX (X:=[v]) (Y:=r) |>.1 h3;have e:ar v 1=[v]:=by simp[ar];omega
    rw[<-e]at g1;have hr:=(OY (k:=k) (dn g2).1).2 ⟨⟨by simpa using h1,fun y hy=>h2 y (.tail _ hy)⟩,g2⟩;exact⟨v,m,(ca (s:=1) o_).2 ⟨o_,g1⟩,by rw[hr];rfl⟩
def ak5 {g:G_}:∀ {k w:Nat},bin (Ij g k w)
 | 0,_=>by simp[Ij,bin]
 | k+1,w=>by
  intro x hx;rw[Ij]at hx;rcases be.1 hx with h | h
  .revert h
   split<;>exact fun h=>dp x h
  .exact ak5 x h
def NL {b:C_}{a r n:Nat}{j:aL}(hr:r<=11):mt b (a:Int) r=.ok j n↔j.may r∧At b a n (kX j):=by
 unfold mt kX;constructor
 .intro h;obtain⟨o,n1,h1,h⟩:=aS.1 h;obtain⟨q,n2,h2,h⟩:=aS.1 h;obtain⟨s,n3,h3,h⟩:=aS.1 h;have k1:=(ca (s:=1) o_).1 h1;have k2:=(ca (s:=2) o_).1 h2;have k3:=(ca (s:=1) o_).1 h3;by_cases hq:q=2
  .rw[ac hq]at h;obtain⟨m,n4,h4,h⟩:=aS.1 h;obtain⟨l,n5,h5,h⟩:=aS.1 h;obtain⟨⟨ho,hm⟩,e1,e2⟩:=Tn.1 h;have k4:=(ca (s:=4) o_).1 h4;have k5:=(OY (dn k4.2).2.1).1 h5;subst e1 e2 ho;refine⟨hm,aX.2 ⟨n1,k1.2,aX.2 ⟨n2,k2.2,aX.2 ⟨n3,k3.2,?_⟩⟩⟩⟩;simp only[hq,bf,au];refine aX.2 ⟨n4,k4.2,?_⟩;rw[auG l (by have:=akb k5.1.2;rwa [k5.1.1]at this)];exact k5.2
  .rw[aa hq]at h;obtain⟨m,n4,h4,h⟩:=aS.1 h;obtain⟨p,n5,h5,h⟩:=aS.1 h;obtain⟨⟨⟨ho,hp⟩,hm⟩,e1,e2⟩:=Tn.1 h;have k4:=(ca (s:=6) o_).1 h4;have k5:=(ca (s:=1) o_).1 h5;subst e1 e2 ho hp;refine⟨hm,aX.2 ⟨n1,k1.2,aX.2 ⟨n2,k2.2,aX.2 ⟨n3,k3.2,?_⟩⟩⟩⟩;simp only[aa hq,au];exact aX.2 ⟨n4,k4.2,k5.2⟩
 .rintro ⟨hm,h0⟩
  obtain⟨n1,k1,h1⟩:=aX.1 h0;obtain⟨n2,k2,h2⟩:=aX.1 h1;obtain⟨n3,k3,h3⟩:=aX.1 h2;clear h0 h1 h2;have g11:=gh hr hm;have hmx:=jK g11;obtain⟨s,sh,m,g⟩:=j;have hs:s<=3:=hm.1;have hsh:sh<=1:=hm.2.1;simp only at hmx h3 k2 k3;obtain⟨M,rfl⟩:=aB hmx.1;refine aS.2 ⟨0,n1,(ca (s:=1) o_).2 ⟨o_,k1⟩,aS.2 ⟨s,n2,(ca (s:=2) o_).2 ⟨o_,k2⟩,aS.2 ⟨sh,n3,(ca (s:=1) o_).2 ⟨o_,k3⟩,?_⟩⟩⟩;have hmb:(M:Int)<=qO r (decide (s=2)):=hm.2.2.2.1;have hgr:aL.grouped _:=hm.2.2.2.2;unfold aL.grouped at hgr;simp only[au]at h3 hgr;by_cases hq:s=2
  .subst hq;have m4:M<2 ^ 4:=by
    have:=(OK (r,true) (fp o_)).2;simp only[decide_true]at hmb this;omega
   rw[ac rfl]at h3 hgr⊢;obtain⟨n4,k4,h4⟩:=aX.1 h3;have hg:=au8 g (ake (fun x hx=>(hgr.1 x hx).1) hgr.2.1 o_);exact aS.2 ⟨M,n4,(ca (s:=4) o_).2 ⟨m4,k4⟩,aS.2 ⟨Ij g 7 0,n,(OY (dn k4).2.1).2 ⟨⟨ZF,ak5⟩,h4⟩,Tn.2 ⟨⟨rfl,by rw[hg];exact hm⟩,by rw[hg],rfl⟩⟩⟩
  .have m6:=Iu (r:=r) (s:=decide (s=2)) o_;rw[aa hq]at h3 hgr⊢;obtain⟨n4,k4,h4⟩:=aX.1 h3
   cases hgr
   exact aS.2 ⟨M,n4,(ca (s:=6) o_).2 ⟨o_,k4⟩,aS.2 ⟨0,n,(ca (s:=1) o_).2 ⟨o_,h4⟩,Tn.2 ⟨⟨⟨rfl,rfl⟩,hm⟩,rfl,rfl⟩⟩⟩
def aj0 {aW:Nat}(hm:1<=aW):∀ {f g n:Nat},n<=f->n<=g->ep aW f n=ep aW g n
 | 0,0,n,_,_=>rfl
 | 0,g+1,n,h,_=>by
  have:n=0:=o_;subst this;rw[ep,ep,aa o_]
 | f+1,0,n,_,h=>by
  have:n=0:=o_;subst this;rw[ep,ep,aa o_]
 | f+1,g+1,n,h1,h2=>by
  rw[ep,ep];by_cases h:aW<=n
  .rw[ac h,ac h,aj0 hm (f:=f) (g:=g) (n:=n-aW) o_ o_]
  .rw[aa h,aa h]
def ate {aW d:Nat}(hm:1<=aW) (h:aW<=d):ep aW d d=aW::ep aW (d-aW) (d-aW):=by
 obtain⟨e,rfl⟩:∃ e,d=e+1:=⟨d-1,o_⟩
 rw[ep,ac h,aj0 hm (f:=e) (g:=e+1-aW) o_ o_]
def atC {aW d:Nat}(h:d<aW):ep aW d d=[d]:=by
 cases d with
 | zero=>rfl
 | succ e=>rw[ep,aa o_]
def Ts {b:C_}{sz aW left:Nat}(hs:1<=sz∧sz<=5) (hm:aW=2 ^ sz-1):∀ {f a acc n m:Nat},left<acc+f->
  (yE b sz aW left f a acc=.ok n m↔(acc<=n∧n<=left)∧At b a m ((ep aW (n-acc) (n-acc)).flatMap fun x=>ar x sz))
 | 0,a,acc,n,m,hf=>by
  rw[yE];exact⟨fun h=>absurd h s_,fun h=>by omega⟩
 | f+1,a,acc,n,m,hf=>by
  have h2:2 ^ 1<=2 ^ sz:=aw o_ hs.1;rw[yE,aS];constructor
  .rintro ⟨x,m1,h1,h⟩
   obtain⟨g1,g2⟩:=(ca o_).1 h1;by_cases hl:left<acc+x
   .rw[ac hl]at h;exact absurd h (by simp)
   rw[aa hl]at h;by_cases hx:x=aW
   .rw[ac hx,Ts hs hm o_]at h;obtain⟨h3,h4⟩:=h;refine⟨o_,?_⟩;rw[ate o_ o_,aH,aX];refine⟨m1,by rw[<-hx];exact g2,?_⟩;rw[show n-acc-aW=n-(acc+x) by omega];exact h4
   .rw[aa hx]at h;injection h with e1 e2
    subst e1 e2;refine⟨o_,?_⟩;rw[show acc+x-acc=x by omega,atC o_];simpa using g2
  .rintro ⟨h1,h⟩
   by_cases hd:aW<=n-acc
   .rw[ate o_ hd,aH,aX]at h;obtain⟨m1,k1,k2⟩:=h;refine⟨aW,m1,(ca o_).2 ⟨o_,k1⟩,?_⟩;rw[aa o_,ac rfl,Ts hs hm o_];refine⟨o_,?_⟩;rw[show n-(acc+aW)=n-acc-aW by omega];exact k2
   .rw[atC o_]at h;simp only[aH,fY,bg]at h;refine⟨n-acc,m,(ca o_).2 ⟨o_,h⟩,?_⟩;rw[aa o_,aa o_,show acc+(n-acc)=n by omega]
def akL {b:C_}{sz left a m:Nat}{s:aU}(hs:1<=sz∧sz<=5):Jr b sz left a=.ok s m↔s.right left∧At b a m (KF sz s):=by
 rw[Jr,aS,KF];constructor
 .rintro ⟨k,m1,h1,h⟩
  obtain⟨g1,g2⟩:=(ca (s:=4) o_).1 h1;by_cases hk:k=12∨13<k
  .rw[ac hk]at h;exact absurd h (by simp)
  rw[aa hk]at h;obtain⟨n,m2,h2,h⟩:=aS.1 h;obtain⟨g3,g4⟩:=(Ts hs rfl o_).1 h2;by_cases h0:n=0
  .rw[ac h0]at h;exact absurd h (by simp)
  rw[aa h0]at h;injection h with e1 e2
  subst e1 e2;refine⟨⟨⟨by simp only[];omega,by simp only[];omega⟩,by simp only[MM];omega⟩,aX.2 ⟨m1,g2,?_⟩⟩;simpa using g4
 .rintro ⟨⟨⟨h1,h2⟩,h3,h4⟩,h⟩
  obtain⟨k,n⟩:=s;simp only at h1 h2 h3 h4 h;obtain⟨k,rfl⟩:=aB h3;obtain⟨n,rfl⟩:=aB (show 0<=n by omega);simp only[au]at h;obtain⟨m1,k1,k2⟩:=aX.1 h;refine⟨k,m1,(ca (s:=4) o_).2 ⟨o_,k1⟩,?_⟩;rw[aa o_];refine aS.2 ⟨n,m,(Ts hs rfl o_).2 ⟨o_,by simpa using k2⟩,?_⟩;rw[aa o_]
def JY {b:C_}{sz:Nat}(hs:1<=sz∧sz<=5):∀ {f left a m:Nat}{l:P_},left<=f->a<=b.length->(kp b sz f left a=.ok l m↔fitsS left l∧At b a m (pJ sz l))
 | 0,left,a,m,l,hf,ha=>by
  have:left=0:=o_;subst this;rw[kp];constructor
  .intro h;injection h with e1 e2
   subst e1 e2;exact⟨rfl,dT.2 ⟨rfl,ha⟩⟩
  .rintro ⟨h1,h2⟩
   cases l with
   | nil=>rw[(dT.1 h2).1]
   | cons s l=>have:=h1.1.1;omega
 | f+1,left,a,m,l,hf,ha=>by
  rw[kp];by_cases h0:left=0
  .subst h0;rw[ac rfl];constructor
   .intro h;injection h with e1 e2
    subst e1 e2;exact⟨rfl,dT.2 ⟨rfl,ha⟩⟩
   .rintro ⟨h1,h2⟩
    cases l with
    | nil=>rw[(dT.1 h2).1]
    | cons s l=>have:=h1.1.1;omega
  .rw[aa h0,aS];constructor
   .rintro ⟨s,m1,h1,h⟩
    obtain⟨g1,g2⟩:=(akL hs).1 h1;obtain⟨l2,m2,h2,h⟩:=aS.1 h;injection h with e1 e2;subst e1 e2;have hr:=g1.1;obtain⟨g3,g4⟩:=(JY hs o_ (dn g2).2.1).1 h2;refine⟨⟨g1,?_⟩,aX.2 ⟨m1,g2,g4⟩⟩
    rwa [show ((left-s.len.toNat:Nat):Int)=left-s.len by omega]at g3
   .rintro ⟨h1,h2⟩
    cases l with
    | nil=>exact absurd h1 (by show ¬ ((left:Int)=0);omega)
    | cons s l =>
     obtain⟨k1,k2⟩:=h1;obtain⟨m1,j1,j2⟩:=aX.1 (show At b a m (KF sz s++pJ sz l) from h2);have hr:=k1.1;refine⟨s,m1,(akL hs).2 ⟨k1,j1⟩,aS.2 ⟨l,m,(JY hs o_ (dn j1).2.1).2 ⟨?_,j2⟩,rfl⟩⟩
     rwa [show ((left-s.len.toNat:Nat):Int)=left-s.len by omega]
def WH {b:C_}{sz aW:Nat}(hs:1<=sz∧sz<=5):∀ {k a m:Nat}{g:H_},a<=b.length->(tN b sz aW k a=.ok g m↔(g.length=k∧∀ l∈g,fitsS aW l)∧At b a m (g.flatMap (pJ sz)))
 | 0,a,m,g,ha=>by
  rw[tN];constructor
  .intro h;injection h with e1 e2
   subst e1 e2;exact⟨⟨rfl,s_⟩,dT.2 ⟨rfl,ha⟩⟩
  .rintro ⟨⟨h1,_⟩,h2⟩
   have:=ax h1;subst this;rw[(dT.1 h2).1]
 | k+1,a,m,g,ha=>by
  rw[tN,aS];constructor
  .rintro ⟨l,m1,h1,h⟩
   obtain⟨g1,g2⟩:=(JY hs (ai _) ha).1 h1;obtain⟨r,m2,h2,h⟩:=aS.1 h;injection h with e1 e2;subst e1 e2;obtain⟨⟨g3,g4⟩,g5⟩:=(WH hs (dn g2).2.1).1 h2;refine⟨⟨by rw[aq,g3],fun q hq=>?_⟩,aX.2 ⟨m1,g2,g5⟩⟩;rcases az.1 hq with rfl | hq
   .exact g1
   .exact g4 q hq
  .rintro ⟨⟨h1,h2⟩,h3⟩
   cases g with
   | nil=>simp at h1
   | cons l r =>
    obtain⟨m1,j1,j2⟩:=aX.1 (show At b a m (pJ sz l++r.flatMap (pJ sz)) from h3);exact⟨l,m1,(JY hs (ai _) ha).2 ⟨h2 l (.head _),j1⟩,aS.2 ⟨r,m,(WH hs (dn j1).2.1).2 ⟨⟨by simpa using h1,fun q hq=>h2 q (.tail _ hq)⟩,j2⟩,rfl⟩⟩
def XE {b:C_}{i:aL}{a m:Nat}{g:H_}(hm:i.may 11) (ha:a<=b.length):uV b i (a:Int)=.ok g m↔jF i g∧At b a m (NJ i g):=by
 have hmx:=jK hm;obtain⟨M,hM⟩:=aB hmx.1;have hs:1<=i.fsz∧i.fsz<=5:=by unfold aL.fsz;split<;>omega
 rw[uV,ac o_,au,WH hs ha,px hmx.1];exact Iff.rfl
def YN:∀ id∈ids,(cg id).length=bm id∧(List.range (bm id)).all (fun e=>Nat.beq (nth (cg id) (nth (dC id) e)) e && Nat.beq (nth (dC id) (nth (cg id) e)) e)=true:=e_
def act {id e:Nat}(h:ju id) (he:e<bm id):nth (cg id) (nth (dC id) e)=e∧nth (dC id) (nth (cg id) e)=e:=by
 have h1:=bG.1 (YN id (fO h)).2 e (dR.2 he);rw[af,aC,aC]at h1;exact h1
abbrev pO:=@Nat.add_mul_mod_self_right
abbrev oG:=@Nat.div_add_mod
def J8 {b:C_}:∀ {f m a k n:Nat},mi b f m (a:Int)=.ok k n↔(m<=k∧k<m+f)∧At b a n (List.replicate (k-m) 0++[1])
 | 0,m,a,k,n=>by
  rw[mi];exact⟨fun h=>absurd h s_,fun h=>by omega⟩
 | f+1,m,a,k,n=>by
  rw[mi,aS];constructor
  .rintro ⟨v,m1,h1,h⟩
   obtain⟨g1,g2⟩:=(ca (s:=1) o_).1 h1;have e:ar v 1=[v]:=by simp[ar];omega
   rw[e]at g2;by_cases hv:v=1
   .rw[ac hv]at h;injection h with e1 e2
    subst e1 e2 hv;exact⟨o_,by simpa using g2⟩
   .have:v=0:=o_;subst this;rw[aa hv,J8]at h;obtain⟨h2,h3⟩:=h;refine⟨o_,?_⟩;rw[show k-m=(k-(m+1))+1 by omega,cy,aQ];exact aX (X:=[0]) |>.2 ⟨m1,g2,h3⟩
  .rintro ⟨h1,h⟩
   by_cases hk:k=m
   .subst hk;rw[tY]at h;refine⟨1,n,(ca (s:=1) o_).2 ⟨o_,?_⟩,by rw[ac rfl]⟩;simpa [ar] using h
   .rw[show k-m=(k-(m+1))+1 by omega,cy,aQ]at h;obtain⟨m1,k1,k2⟩:=aX (X:=[0]) |>.1 h;refine⟨0,m1,(ca (s:=1) o_).2 ⟨o_,by simpa [ar] using k1⟩,?_⟩;rw[aa o_,J8];exact⟨o_,k2⟩
def abY {r:C_}:∀ {k:Nat},val (List.replicate k 0++r) 0=val r 0
 | 0=>rfl
 | k+1=>by rw[cy,aQ,val];exact abY
def abC {k hi:Nat}(h:hi<2 ^ k):ar (2 ^ k+hi) (2*k+1)=List.replicate k 0++[1]++ar hi k:=by
 have hb:bin (List.replicate k 0++(1::ar hi k)):=by
  intro x hx;rcases be.1 hx with h | h
  .have:=cY h;omega
  .rcases az.1 h with h | h
   .omega
   .exact dp x h
 have h1:=S8 (n:=0) hb;rw[abY,val,abl,fj h,al,bi,aq,dL]at h1;rw[aA,b8,<-h1]
 congr 1
 all_goals omega
def akd {n k:Nat}(h1:2 ^ k<=n) (h2:n<2 ^ (k+1)):cG n=k+1:=by
 have hp:=bO k;have a:=Hz (n:=n);have b:=uS (n:=n) o_;rcases Nat.lt_trichotomy (cG n) (k+1) with h | h | h
 .have:=aw (n:=2) o_ (show cG n<=k by omega);omega
 .exact h
 .have:=aw (n:=2) o_ (show k+1<=cG n-1 by omega);omega
def DB {id:Nat}(hid:ju id) {b:C_}{a e n:Nat}:zA id b (a:Int)=.ok e n↔e<bm id∧At b a n (jQ id e):=by
 obtain⟨r1,r2,r3⟩:=Nj id (fO hid);have hl:=(YN id (fO hid)).1;have hm:bm id<=300:=by have:=lT id (fO hid);omega
 have hP:1<=2 ^ bK id:=bO _;rw[zA,aS];unfold jQ;constructor
 .rintro ⟨k,n1,h1,h⟩
  obtain⟨⟨_,k9⟩,g1⟩:=J8.1 h1;obtain⟨hi,n2,h2,h⟩:=aS.1 h;obtain⟨g2,g3⟩:=(ca o_).1 h2;obtain⟨lo,n3,h3,h⟩:=aS.1 h;obtain⟨g4,g5⟩:=(ca o_).1 h3;by_cases hx:(cg id).length<=(2 ^ k+hi-1)*2 ^ bK id+lo
  .rw[ac hx]at h;exact absurd h (by simp)
  rw[aa hx]at h;injection h with e1 e2
  subst e1 e2;have hk:=bO k;have he:=act hid (e:=(2 ^ k+hi-1)*2 ^ bK id+lo) o_;have hlt:nth (cg id) ((2 ^ k+hi-1)*2 ^ bK id+lo)<bm id:=(Kh (by have:=hid.2;omega)).2.2.2 _ (jg o_);refine⟨hlt,?_⟩;rw[he.2];have d1:((2 ^ k+hi-1)*2 ^ bK id+lo) / 2 ^ bK id=2 ^ k+hi-1:=by
   rw[oE,nz _ _ hP,iH g4,bz]
  have d2:((2 ^ k+hi-1)*2 ^ bK id+lo) % 2 ^ bK id=lo:=by
   rw[oE,pO,fj g4]
  rw[d1,d2,show 2 ^ k+hi-1+1=2 ^ k+hi by omega,akd (k:=k) o_ (by rw[cZ];omega),show 2*(k+1)-1=2*k+1 by omega,abC g2];exact aX.2 ⟨n2,aX.2 ⟨n1,g1,g3⟩,g5⟩
 .rintro ⟨he,h⟩
  have hr:=aab hid he;have hf:=(act hid he).1;generalize nth (dC id) e=r at *;have hq:1<=r / 2 ^ bK id+1:=kY _ _;have hdv:r / 2 ^ bK id<=r:=lj _ _;have hdm:=oG r (2 ^ bK id);have hmod:r % 2 ^ bK id<2 ^ bK id:=dW _ hP;generalize r / 2 ^ bK id=q at *;generalize r % 2 ^ bK id=lo at *;have l1:=Hz (n:=q+1);have l2:=uS (n:=q+1) o_;have l0:1<=cG (q+1):=by
   rcases Nat.eq_zero_or_pos (cG (q+1)) with h0 | h0
   .rw[h0]at l1;omega
   .exact h0
  obtain⟨k,hk⟩:∃ k,cG (q+1)=k+1:=⟨cG (q+1)-1,o_⟩
  rw[hk]at l1 l2 h;rw[dh]at l2;rw[cZ]at l1;have k9:k<10:=by
   rcases bB k 10 with h | h
   .exact h
   .have:=aw (n:=2) o_ h;omega
  obtain⟨hi,hhi⟩:∃ hi,q+1=2 ^ k+hi:=⟨q+1-2 ^ k,o_⟩
  have hh:hi<2 ^ k:=o_;rw[show 2*(k+1)-1=2*k+1 by omega,hhi,abC hh]at h;obtain⟨n2,j1,j2⟩:=aX.1 h;obtain⟨n1,j3,j4⟩:=aX.1 j1;have ei:(2 ^ k+hi-1)*2 ^ bK id+lo=r:=by rw[<-hhi,dh,dX];omega
  refine⟨k,n1,J8.2 ⟨o_,by simpa using j3⟩,aS.2 ⟨hi,n2,(ca o_).2 ⟨hh,j4⟩,aS.2 ⟨lo,n,(ca o_).2 ⟨hmod,j2⟩,?_⟩⟩⟩;rw[ei,aa o_,hf]
def Rw {low:Int}{w:Nat}{v:Int}:∀ {l:G_}{n:Nat},lH low w (l++[v]) n=lH low w l n*w+(v-low).toNat
 | [],n=>rfl
 | x::r,n=>by rw[aQ,lH,lH,Rw]
def ab6 {low:Int}{w:Nat}(hw:1<=w):∀ {d e:Nat},e<w ^ d->lH low w (lQ low w d e) 0=e
 | 0,e,h=>by rw[Nat.pow_zero]at h;rw[lQ,lH];omega
 | d+1,e,h=>by
  rw[lQ,Rw,ab6 hw (by rw[cZ]at h;exact Nat.div_lt_of_lt_mul (by rwa [dX])),show ((e % w:Nat):Int)+low-low=((e % w:Nat):Int) by omega,au,dX];exact oG e w
def aeB {low:Int}{w:Nat}(hw:1<=w):∀ (r:G_),(∀ v∈r,low<=v∧v<low+w)->lQ low w r.reverse.length (lH low w r.reverse 0)=r.reverse
 | [],_=>rfl
 | v::r,h=>by
  have ih:=aeB hw r fun x hx=>h x (.tail _ hx)
  have hv:=h v (.head _);rw[sv,al,List.length_singleton,Rw,lQ];have hx:(v-low).toNat<w:=o_;rw[oE (_*w),nz _ _ hw,iH hx,bz,ih,pO,fj hx]
  congr 2
  omega
def apJ {low:Int}{w:Nat}(hw:1<=w) {l:G_}(h:∀ v∈l,low<=v∧v<low+w):lQ low w l.length (lH low w l 0)=l:=by
 have:=aeB hw l.reverse fun v hv=>h v (List.mem_reverse.1 hv)
 rwa [List.reverse_reverse]at this
def sgB:G_->C_->C_
 | v::r,s::ss=>(if v=0 then [] else [s])++sgB r ss
 | _,_=>[]
def WX:G_->C_->Prop
 | v::r,s::ss=>(s<=1∧(v=0->s=0))∧WX r ss
 | [],[]=>True
 | _,_=>False
def Rk {s:Nat}(h:s<=1):ar s 1=[s]:=by simp[ar];omega
def Bd {b:C_}:∀ {vs:G_}{ss:C_}{a n:Nat},a<=b.length->(kz b vs a=.ok ss n↔WX vs ss∧At b a n (sgB vs ss))
 | [],ss,a,n,ha=>by
  rw[kz];constructor
  .intro h;injection h with e1 e2
   subst e1 e2;exact⟨trivial,dT.2 ⟨rfl,ha⟩⟩
  .rintro ⟨h1,h2⟩
   cases ss with
   | nil=>rw[(dT.1 h2).1]
   | cons s ss=>exact absurd h1 (by simp[WX])
 | v::r,ss,a,n,ha=>by
  rw[kz];by_cases hv:v=0
  .rw[ac hv,aS];constructor
   .rintro ⟨l,m,h1,h⟩
    injection h with e1 e2
    subst e1 e2;obtain⟨g1,g2⟩:=(Bd ha).1 h1;exact⟨⟨⟨o_,fun _=>rfl⟩,g1⟩,by rw[sgB,ac hv];exact g2⟩
   .rintro ⟨h1,h2⟩
    cases ss with
    | nil=>exact absurd h1 (by simp[WX])
    | cons s ss =>
     have:=h1.1.2 hv;subst this;rw[sgB,ac hv]at h2;exact⟨ss,n,(Bd ha).2 ⟨h1.2,h2⟩,rfl⟩
  .rw[aa hv,aS];constructor
   .rintro ⟨s,m,h1,h⟩
    obtain⟨g1,g2⟩:=(ca (s:=1) o_).1 h1;rw[Rk o_]at g2;obtain⟨l,m2,h2,h⟩:=aS.1 h;injection h with e1 e2;subst e1 e2;obtain⟨g3,g4⟩:=(Bd (dn g2).2.1).1 h2;exact⟨⟨⟨o_,fun h=>absurd h hv⟩,g3⟩,by rw[sgB,aa hv];exact aX.2 ⟨m,g2,g4⟩⟩
   .rintro ⟨h1,h2⟩
    cases ss with
    | nil=>exact absurd h1 (by simp[WX])
    | cons s ss =>
     rw[sgB,aa hv]at h2;obtain⟨m,k1,k2⟩:=aX.1 h2;have hs:=h1.1.1;exact⟨s,m,(ca (s:=1) o_).2 ⟨o_,by rw[Rk hs];exact k1⟩,aS.2 ⟨ss,n,(Bd (dn k1).2.1).2 ⟨h1.2,k2⟩,rfl⟩⟩
def M6 {b:C_}:∀ {f m a k n:Nat},xS b f m a=.ok k n↔(m<=k∧k<m+f)∧At b a n (List.replicate (k-m) 1++[0])
 | 0,m,a,k,n=>by
  rw[xS];exact⟨fun h=>absurd h s_,fun h=>by omega⟩
 | f+1,m,a,k,n=>by
  rw[xS,aS];constructor
  .rintro ⟨v,m1,h1,h⟩
   obtain⟨g1,g2⟩:=(ca (s:=1) o_).1 h1;rw[Rk o_]at g2;by_cases hv:v=1
   .subst hv;rw[ac rfl,M6]at h;obtain⟨h2,h3⟩:=h;refine⟨o_,?_⟩;rw[show k-m=(k-(m+1))+1 by omega,cy,aQ];exact aX (X:=[1]) |>.2 ⟨m1,g2,h3⟩
   .have:v=0:=o_;subst this;rw[aa hv]at h;injection h with e1 e2
    subst e1 e2;exact⟨o_,by simpa using g2⟩
  .rintro ⟨h1,h⟩
   by_cases hk:k=m
   .subst hk;rw[tY]at h;refine⟨0,n,(ca (s:=1) o_).2 ⟨o_,?_⟩,by rw[aa o_]⟩;simpa [ar] using h
   .rw[show k-m=(k-(m+1))+1 by omega,cy,aQ]at h;obtain⟨m1,k1,k2⟩:=aX (X:=[1]) |>.1 h;refine⟨1,m1,(ca (s:=1) o_).2 ⟨o_,by simpa [ar] using k1⟩,?_⟩;rw[ac rfl,M6];exact⟨o_,k2⟩
abbrev aqE (x:Nat):C_:=List.replicate (cG x-5) 1++(0::ar (x % 2 ^ (cG x-1)) (cG x-1))
def ajK {b:C_}{a x n:Nat}:OP b a=.ok x n↔(16<=x∧x<=8191)∧At b a n (aqE x):=by
 rw[OP,aS];constructor
 .rintro ⟨m,n1,h1,h⟩
  obtain⟨⟨_,m9⟩,g1⟩:=M6.1 h1;obtain⟨y,n2,h2,h⟩:=aS.1 h;obtain⟨g2,g3⟩:=(ca o_).1 h2;injection h with e1 e2;subst e1 e2;have p1:=aw (n:=2) o_ (show 4<=m+4 by omega);have p2:=aw (n:=2) o_ (show m+4<=12 by omega);have hl:=akd (n:=2 ^ (m+4)+y) (k:=m+4) o_ (by have:2 ^ (m+4+1)=2 ^ (m+4)*2:=cZ _ _;omega);refine⟨o_,?_⟩;unfold aqE;rw[hl,show m+4+1-5=m by omega,dh,Nat.add_mod_left,fj g2];have:List.replicate m 1++(0::ar y (m+4))=(List.replicate m 1++[0])++ar y (m+4):=s_;rw[this];exact aX.2 ⟨n1,by simpa using g1,g3⟩
 .rintro ⟨⟨h1,h2⟩,h⟩
  have l1:=Hz (n:=x);have l2:=uS (n:=x) o_;have k5:5<=cG x:=by
   rcases bB (cG x) 5 with h | h
   .have:=aw (n:=2) o_ (show cG x<=4 by omega);omega
   .exact h
  have k13:cG x<=13:=by
   rcases bB 13 (cG x) with h | h
   .have:=aw (n:=2) o_ (show 13<=cG x-1 by omega);omega
   .exact h
  obtain⟨m,hm⟩:∃ m,cG x=m+5:=⟨cG x-5,o_⟩
  unfold aqE at h;rw[hm]at h l1 l2;rw[show m+5-1=m+4 by omega]at h l2;have l3:2 ^ (m+5)=2 ^ (m+4)*2:=cZ _ _;rw[dh]at h;have:List.replicate m 1++(0::ar (x % 2 ^ (m+4)) (m+4))=(List.replicate m 1++[0])++ar (x % 2 ^ (m+4)) (m+4):=s_;rw[this]at h;obtain⟨n1,j1,j2⟩:=aX.1 h;have hx:x % 2 ^ (m+4)=x-2 ^ (m+4):=by rw[Nat.mod_eq_sub_mod l2,fj o_]
  refine⟨m,n1,M6.2 ⟨o_,by simpa using j1⟩,aS.2 ⟨x % 2 ^ (m+4),n,(ca o_).2 ⟨o_,j2⟩,?_⟩⟩;rw[hx]
  congr 1
  omega
def sgn (v:Int):Nat:=if v<0 then 1 else 0
def Ef {b:C_}{id:Nat}{M:Nat}(hM:id=11->M=8191):∀ {vs:G_}{ss:C_}{l:G_}{a n:Nat},a<=b.length->WX vs ss->(∀ v∈vs,0<=v∧(id=11->v<=16)∧(id≠11->v<=M))->
  (mo b id vs ss a=.ok l n↔(vs=l.map (ky id)∧ss=l.map sgn∧∀ v∈l,v.natAbs<=M)∧At b a n (l.flatMap (wF id)))
 | [],[],l,a,n,ha,hs,hv=>by
  have e0:mo b id [] [] a=.ok [] a:=by simp[mo]
  rw[e0];constructor
  .intro h;injection h with e1 e2
   subst e1 e2;exact⟨⟨rfl,rfl,s_⟩,dT.2 ⟨rfl,ha⟩⟩
  .rintro ⟨⟨h1,h2,_⟩,h3⟩
   cases l with
   | nil=>rw[(dT.1 h3).1]
   | cons x r=>exact absurd h1 (by simp)
 | [],s::ss,l,a,n,ha,hs,hv=>absurd hs (by simp[WX])
 | v::r,[],l,a,n,ha,hs,hv=>absurd hs (by simp[WX])
 | v::r,s::ss,l,a,n,ha,hs,hv=>by
  obtain⟨⟨s1,s2⟩,hs⟩:=hs;obtain⟨v0,v11,vM⟩:=hv v (.head _);have hv:=fun x hx=>hv x (.tail _ hx)
  have sg1:∀ x:Int,0<=x->(x=0->s=0)->sgn (sg s x)=s∧(sg s x).natAbs=x.toNat:=fun x h0 h1=>by
   unfold sgn sg;by_cases h:s=1
   .rw[ac h,ac o_];omega
   .rw[aa h,aa o_];omega
  have sg2:∀ (y:Int),s=sgn y->sg s (y.natAbs:Int)=y:=fun y h=>by
   unfold sgn at h;unfold sg;by_cases h2:y<0
   .rw[ac h2]at h;rw[ac h];omega
   .rw[aa h2]at h;rw[aa o_];omega
  rw[mo];by_cases hg:id=11∧v=16
  .rw[ac hg,aS];obtain⟨h11,hv16⟩:=hg;constructor
   .rintro ⟨x,m,h1,h⟩
    obtain⟨g1,g2⟩:=ajK.1 h1;obtain⟨l2,m2,h2,h⟩:=aS.1 h;injection h with e1 e2;subst e1 e2;obtain⟨⟨g3,g4,g5⟩,g6⟩:=(Ef hM (dn g2).2.1 hs hv).1 h2;obtain⟨q1,q2⟩:=sg1 x o_ o_;have q3:(sg s (x:Int)).natAbs=x:=o_;refine⟨⟨?_,?_,?_⟩,?_⟩
    .rw[bZ,<-g3,ky,ac o_,hv16]
    .rw[bZ,<-g4,q1]
    .intro y hy;rcases az.1 hy with rfl | hy
     .rw[q3,hM h11];omega
     .exact g5 y hy
    .rw[aH,wF,ac o_,q3];exact aX.2 ⟨m,g2,g6⟩
   .rintro ⟨⟨h1,h2,h3⟩,h4⟩
    cases l with
    | nil=>exact absurd h1 (by simp)
    | cons y l =>
     rw[bZ]at h1 h2;injection h1 with h1 h1t
     injection h2 with h2 h2t
     have hy:=h3 y (.head _);rw[hM h11]at hy;have h16:16<=y.natAbs:=by
      rw[ky]at h1;by_cases h:id=11∧16<=y.natAbs
      .exact h.2
      .rw[aa h]at h1;omega
     rw[aH,wF,ac ⟨h11,h16⟩]at h4;obtain⟨m,k1,k2⟩:=aX.1 h4;refine⟨y.natAbs,m,ajK.2 ⟨o_,k1⟩,aS.2 ⟨l,n,(Ef hM (dn k1).2.1 hs hv).2 ⟨⟨h1t,h2t,fun z hz=>h3 z (.tail _ hz)⟩,k2⟩,?_⟩⟩;rw[sg2 y h2]
  .rw[aa hg,aS];constructor
   .rintro ⟨l2,m,h1,h⟩
    injection h with e1 e2
    subst e1 e2;obtain⟨⟨g3,g4,g5⟩,g6⟩:=(Ef hM ha hs hv).1 h1;obtain⟨q1,q2⟩:=sg1 v v0 s2;have hng:¬ (id=11∧16<=(sg s v).natAbs):=o_;refine⟨⟨?_,?_,?_⟩,?_⟩
    .rw[bZ,<-g3,ky,aa hng];congr 1;omega
    .rw[bZ,<-g4,q1]
    .intro y hy;rcases az.1 hy with rfl | hy
     .by_cases h11:id=11
      .have:=hM h11;have:=v11 h11;omega
      .have:=vM h11;omega
     .exact g5 y hy
    .rw[aH,wF,aa hng,aO];exact g6
   .rintro ⟨⟨h1,h2,h3⟩,h4⟩
    cases l with
    | nil=>exact absurd h1 (by simp)
    | cons y l =>
     rw[bZ]at h1 h2;injection h1 with h1 h1t
     injection h2 with h2 h2t
     have hng:¬ (id=11∧16<=y.natAbs):=fun h=>by
      rw[ky,ac h]at h1;exact hg ⟨h.1,h1⟩
     rw[ky,aa hng]at h1;rw[aH,wF,aa hng,aO]at h4;refine⟨l,n,(Ef hM ha hs hv).2 ⟨⟨h1t,h2t,fun z hz=>h3 z (.tail _ hz)⟩,h4⟩,?_⟩;rw[h1,sg2 y h2]
def aeS {id:Nat}{v:Int}:ky id v=0↔v=0:=by
 unfold ky;by_cases h:id=11∧16<=v.natAbs
 .rw[ac h];omega
 .rw[aa h];omega
def abr {id:Nat}:∀ {l:G_},sgB (l.map (ky id)) (l.map sgn)=l.flatMap qg
 | []=>rfl
 | v::r=>by
  rw[bZ,bZ,sgB,abr,aH]
  congr 1
  unfold qg sgn;by_cases h:v=0
  .rw[ac (aeS.2 h),ac h]
  .rw[aa (fun h2=>h (aeS.1 h2)),aa h];split<;>rfl
def aaw {id:Nat}:∀ {l:G_},WX (l.map (ky id)) (l.map sgn)
 | []=>trivial
 | v::r=>⟨⟨by unfold sgn;split<;>omega,fun h=>by rw[aeS]at h;subst h;rfl⟩,aaw⟩
def auJ:gv 11=8191:=e_
def af4 {id:Nat}(hid:1<=id∧id<=11) {b:C_}{a n:Nat}{l:G_}:EI id b (a:Int)=.ok l n↔OJ id l∧At b a n (zX id l):=by
 have hok:ju id:=⟨hid.1,o_⟩
 obtain⟨m1,m2,m3,m4⟩:=Cc id (Tw hid);obtain⟨k1,k2,k3,k4,k5,k6,k7⟩:=lT id (fO hok);have hmany:bm id=cx id ^ d9 id:=rfl;have lt:∀ {vs:G_},Sc id vs->lH (de id) (cx id) vs 0<bm id:=fun {vs} h=>by
  have:=Ht (n:=0) (j:=0) h.2 s_;rw[bz,h.1,<-hmany]at this;exact this
 have back:∀ {vs:G_},Sc id vs->mr id (lH (de id) (cx id) vs 0)=vs:=fun {vs} h=>by
  have:=apJ k3 h.2;rw[h.1]at this;exact this
 have forth:∀ {e:Nat},e<bm id->lH (de id) (cx id) (mr id e) 0=e∧∀ v∈mr id e,de id<=v∧v<de id+cx id:=fun {e} h=>⟨ab6 k3 (by rwa [<-hmany]),Il k3⟩
 rw[EI,aS];unfold zX;by_cases hs:kA id=true
 .simp only[ac hs];obtain⟨q1,q2⟩:=m1 hs;constructor
  .rintro ⟨e,m,h1,h⟩
   obtain⟨g1,g2⟩:=(DB hok).1 h1;injection h with e1 e2;subst e1 e2;obtain⟨f1,f2⟩:=forth g1;refine⟨⟨by rw[EY,m3],fun v hv=>by have:=f2 v hv;omega⟩,?_⟩;rw[f1];exact g2
  .rintro ⟨h1,h2⟩
   have hi:=(Nq hid h1).1 hs;exact⟨_,n,(DB hok).2 ⟨lt hi,h2⟩,by rw[back hi]⟩
 .have hs2:kA id=false:=by simpa using hs
  simp only[aa hs];obtain⟨q1,q2,q3⟩:=m2 hs2;have h11:id=11->gv id=8191:=fun h=>by rw[h];exact auJ
  constructor
  .rintro ⟨e,m,h1,h⟩
   obtain⟨g1,g2⟩:=(DB hok).1 h1;obtain⟨ss,m2,h2,h⟩:=aS.1 h;obtain⟨g3,g4⟩:=(Bd (dn g2).2.1).1 h2;obtain⟨f1,f2⟩:=forth g1;have hv:∀ v∈mr id e,0<=v∧(id=11->v<=16)∧(id≠11->v<=gv id):=fun v hv=>by
    have:=f2 v hv;refine⟨o_,fun h=>by have:=q3 h;omega,fun h=>by have:=q2 h;omega⟩
   obtain⟨⟨g5,g6,g7⟩,g8⟩:=(Ef h11 (dn g4).2.1 g3 hv).1 h;have hl:l.length=bH id:=by
    have:=bl List.length g5;rw[EY,gJ]at this;omega
   refine⟨⟨hl,g7⟩,aX.2 ⟨m,?_,aX.2 ⟨m2,?_,g8⟩⟩⟩
   .rw[<-g5,f1];exact g2
   .rw[<-abr (id:=id),<-g5,<-g6];exact g4
  .rintro ⟨h1,h2⟩
   have hi:=(Nq hid h1).2 hs2;obtain⟨m,j1,j2⟩:=aX.1 h2;obtain⟨p,j3,j4⟩:=aX.1 j2;have hv:∀ v∈l.map (ky id),0<=v∧(id=11->v<=16)∧(id≠11->v<=gv id):=fun v hv=>by
    have:=hi.2 v hv;refine⟨o_,fun h=>by have:=q3 h;omega,fun h=>by have:=q2 h;omega⟩
   refine⟨_,m,(DB hok).2 ⟨lt hi,j1⟩,?_⟩;rw[back hi];refine aS.2 ⟨l.map sgn,p,(Bd (dn j1).2.1).2 ⟨aaw,by rw[abr];exact j3⟩,?_⟩;exact(Ef h11 (dn j3).2.1 aaw hv).2 ⟨⟨rfl,rfl,h1.2⟩,j4⟩
def auy:bm 12=121:=e_
def ajQ {b:C_}{a n:Nat}{d:Int}:Id b (a:Int)=.ok d n↔(-60<=d∧d<=60)∧At b a n (jQ 12 (d+60).toNat):=by
 have hok:ju 12:=o_;have h12:=auy;rw[Id,aS];constructor
 .rintro ⟨e,m,h1,h⟩
  obtain⟨g1,g2⟩:=(DB hok).1 h1;injection h with e1 e2;subst e1 e2;refine⟨o_,?_⟩;rw[show ((e:Int)-60+60).toNat=e by omega];exact g2
 .rintro ⟨h1,h2⟩
  refine⟨(d+60).toNat,n,(DB hok).2 ⟨o_,h2⟩,?_⟩
  congr 1
  omega
def SU {b:C_}{a n:Nat}{k w v:Int}(hw:w<0->k=13):kK b (a:Int) k w=.ok v n↔((0<=v∧v<=sR k)∧(w<0∨(w-60<=v∧v<=w+60)))∧At b a n (if w<0 then ar v.toNat 9 else jQ 12 (v-w+60).toNat):=by
 rw[kK];by_cases h0:w<0
 .have hk:=hw h0;have hm:sR k=511:=ac hk;rw[ac h0,ac h0,aS,hm];constructor
  .rintro ⟨x,m,h1,h⟩
   obtain⟨g1,g2⟩:=(ca (s:=9) o_).1 h1;injection h with e1 e2;subst e1 e2;exact⟨⟨o_,.inl h0⟩,by simpa using g2⟩
  .rintro ⟨⟨h1,_⟩,h2⟩
   exact⟨v.toNat,n,(ca (s:=9) o_).2 ⟨o_,h2⟩,by congr 1;omega⟩
 .rw[aa h0,aa h0,aS];constructor
  .rintro ⟨d,m,h1,h⟩
   obtain⟨g1,g2⟩:=ajQ.1 h1;by_cases hx:w+d<0∨sR k<w+d
   .rw[ac hx]at h;exact absurd h (by simp)
   rw[aa hx]at h;injection h with e1 e2
   subst e1 e2;refine⟨⟨o_,.inr o_⟩,?_⟩;rw[show w+d-w+60=d+60 by omega];exact g2
  .rintro ⟨⟨h1,h2⟩,h3⟩
   refine⟨v-w,n,ajQ.2 ⟨o_,h3⟩,?_⟩;rw[aa o_]
   congr 1
   omega
def s13 {v w z:Int}:qZ 13 v w z=if z<0 then ar v.toNat 9 else jQ 12 (v-z+60).toNat:=by rw[qZ,aa k_,ac rfl]
def t13 {v w z:Int}:jY 13 v w z=(w,v):=by rw[jY,aa k_,ac rfl]
def Ba {b:C_}:∀ {r:G_}{t:G_}{a n:Nat}{w z w2 z2:Int},a<=b.length->(∀ k∈r,0<=k)->0<=w->
  (oC b r (a:Int) w z=.ok (t,w2,z2) n↔dJ r t w z=some (w2,z2)∧At b a n (pg r t w z))
 | [],t,a,n,w,z,w2,z2,ha,hr,hw=>by
  rw[oC,au];constructor
  .intro h;injection h with e1 e2
   injection e1 with e1 e3
   injection e3 with e3 e4
   subst e1 e2 e3 e4;exact⟨rfl,dT.2 ⟨rfl,ha⟩⟩
  .rintro ⟨h1,h2⟩
   cases t with
   | nil =>
    injection h1 with h1
    injection h1 with e1 e2
    subst e1 e2;rw[(dT.1 h2).1]
   | cons x t=>exact absurd h1 (by simp[dJ])
 | k::r,t,a,n,w,z,w2,z2,ha,hr,hw=>by
  have hk:=hr k (.head _);have hr2:∀ k∈r,0<=k:=fun x hx=>hr x (.tail _ hx)
  rw[oC];by_cases h13:k=13
  .subst h13;rw[ac rfl,aS];have hm:sR 13=511:=rfl;constructor
   .rintro ⟨v,m,h1,h⟩
    obtain⟨g1,g2⟩:=(SU (fun _=>rfl)).1 h1;obtain⟨⟨t2,u2,y2⟩,m2,h2,h⟩:=aS.1 h;injection h with e1 e2;injection e1 with e1 e3
    injection e3 with e3 e4
    simp only at e1 e3 e4;subst e1 e2 e3 e4;obtain⟨g3,g4⟩:=(Ba (dn g2).2.1 hr2 hw).1 h2;refine⟨?_,?_⟩
    .rw[dJ,aa k_,ac (by unfold lO;rw[ac rfl];omega),ac rfl];exact g3
    .rw[pg,s13,t13];exact aX.2 ⟨m,g2,g4⟩
   .rintro ⟨h1,h2⟩
    cases t with
    | nil=>exact absurd h1 (by simp[dJ])
    | cons v t =>
     obtain⟨c1,c2,c3⟩:=pY (by rw[h1];simp);have hT:=c2 k_;unfold lO at hT;rw[ac rfl]at hT;rw[c3,jY,aa k_,ac rfl]at h1;rw[pg,s13,t13]at h2;obtain⟨m,j1,j2⟩:=aX.1 h2;exact⟨v,m,(SU (fun _=>rfl)).2 ⟨o_,j1⟩,aS.2 ⟨(t,w2,z2),n,(Ba (dn j1).2.1 hr2 hw).2 ⟨h1,j2⟩,rfl⟩⟩
  .rw[aa h13];by_cases h0:0<k
   .have hm:sR k=255:=aa h13;have hk0:¬ k=0:=o_;rw[ac h0,aS];constructor
    .rintro ⟨v,m,h1,h⟩
     obtain⟨g1,g2⟩:=(SU (fun h=>by omega)).1 h1;obtain⟨⟨t2,u2,y2⟩,m2,h2,h⟩:=aS.1 h;injection h with e1 e2;injection e1 with e1 e3
     injection e3 with e3 e4
     simp only at e1 e3 e4;subst e1 e2 e3 e4;rw[aa o_]at g2;obtain⟨g3,g4⟩:=(Ba (dn g2).2.1 hr2 g1.1.1).1 h2;refine⟨?_,?_⟩
     .rw[dJ,aa hk0,ac (by unfold lO;rw[aa h13];omega),aa h13];exact g3
     .rw[pg,qZ,aa hk0,aa h13,jY,aa hk0,aa h13];exact aX.2 ⟨m,g2,g4⟩
    .rintro ⟨h1,h2⟩
     cases t with
     | nil=>exact absurd h1 (by simp[dJ])
     | cons v t =>
      obtain⟨c1,c2,c3⟩:=pY (by rw[h1];simp);have hT:=c2 hk0;unfold lO at hT;rw[aa h13]at hT;rw[c3,jY,aa hk0,aa h13]at h1;rw[pg,qZ,aa hk0,aa h13,jY,aa hk0,aa h13]at h2;obtain⟨m,j1,j2⟩:=aX.1 h2;exact⟨v,m,(SU (fun h=>by omega)).2 ⟨o_,by rw[aa o_];exact j1⟩,aS.2 ⟨(t,w2,z2),n,(Ba (dn j1).2.1 hr2 hT.1.1).2 ⟨h1,j2⟩,rfl⟩⟩
   .have hk0:k=0:=o_;subst hk0;rw[aa h0,aS];constructor
    .rintro ⟨⟨t2,u2,y2⟩,m2,h2,h⟩
     injection h with e1 e2
     injection e1 with e1 e3
     injection e3 with e3 e4
     simp only at e1 e3 e4;subst e1 e2 e3 e4;obtain⟨g3,g4⟩:=(Ba ha hr2 hw).1 h2;refine⟨?_,?_⟩
     .rw[dJ,ac rfl,ac rfl];exact g3
     .rw[pg,qZ,ac rfl,jY,ac rfl,aO];exact g4
    .rintro ⟨h1,h2⟩
     cases t with
     | nil=>exact absurd h1 (by simp[dJ])
     | cons v t =>
      obtain⟨c1,c2,c3⟩:=pY (by rw[h1];simp);have:=c1 rfl;subst this;rw[c3,jY,ac rfl]at h1;rw[pg,qZ,ac rfl,jY,ac rfl,aO]at h2;exact⟨(t,w2,z2),n,(Ba ha hr2 hw).2 ⟨h1,h2⟩,rfl⟩
def afF:∀ {r t:G_}{w z w2 z2:Int},0<=w->dJ r t w z=some (w2,z2)->0<=w2
 | [],[],w,z,w2,z2,hw,h=>by
  injection h with h
  injection h with e1 e2
  omega
 | [],_::_,w,z,w2,z2,hw,h=>absurd h (by simp[dJ])
 | _::_,[],w,z,w2,z2,hw,h=>absurd h (by simp[dJ])
 | k::r,v::t,w,z,w2,z2,hw,h=>by
  obtain⟨c1,c2,c3⟩:=pY (by rw[h];simp);rw[c3]at h;refine afF ?_ h;unfold jY;by_cases h0:k=0
  .rw[ac h0];exact hw
  .rw[aa h0];have:=c2 h0;unfold lO at this;split
   .exact hw
   .rename_i h13;rw[aa h13]at this;exact this.1.1
def QW {b:C_}:∀ {g:H_}{t:J_}{a n:Nat}{w z:Int},a<=b.length->(∀ l∈g,∀ k∈aK l,0<=k)->0<=w->
  (mW b g (a:Int) w z=.ok t n↔mC g t w z≠none∧At b a n (nq g t w z))
 | [],t,a,n,w,z,ha,hr,hw=>by
  rw[mW,au];constructor
  .intro h;injection h with e1 e2
   subst e1 e2;exact⟨by simp[mC],dT.2 ⟨rfl,ha⟩⟩
  .rintro ⟨h1,h2⟩
   cases t with
   | nil=>rw[(dT.1 h2).1]
   | cons x t=>exact absurd rfl h1
 | l::r,t,a,n,w,z,ha,hr,hw=>by
  have hl:=hr l (.head _);have hr2:∀ q∈r,∀ k∈aK q,0<=k:=fun q hq=>hr q (.tail _ hq)
  rw[mW,aS];constructor
  .rintro ⟨⟨t1,w1,z1⟩,m,h1,h⟩
   obtain⟨g1,g2⟩:=(Ba ha hl hw).1 h1;obtain⟨t2,m2,h2,h⟩:=aS.1 h;injection h with e1 e2;subst e1 e2;obtain⟨g3,g4⟩:=(QW (dn g2).2.1 hr2 (afF hw g1)).1 h2;refine⟨?_,?_⟩
   .rw[mC,g1];exact g3
   .rw[nq,g1];exact aX.2 ⟨m,g2,g4⟩
  .rintro ⟨h1,h2⟩
   cases t with
   | nil=>exact absurd rfl h1
   | cons t1 t =>
    rw[mC]at h1;rw[nq]at h2
    cases e:dJ (aK l) t1 w z with
    | none=>rw[e]at h1;exact absurd rfl h1
    | some p =>
     obtain⟨w1,z1⟩:=p;rw[e]at h1 h2;obtain⟨m,j1,j2⟩:=aX.1 h2;exact⟨(t1,w1,z1),m,(Ba ha hl hw).2 ⟨e,j1⟩,aS.2 ⟨t,n,(QW (dn j1).2.1 hr2 (afF hw e)).2 ⟨h1,j2⟩,rfl⟩⟩
def ack {b:C_}{g:H_}{t:J_}{a n:Nat}{w:Int}(ha:a<=b.length) (hr:∀ l∈g,∀ k∈aK l,0<=k) (hw:0<=w):yZ b g (a:Int) w=.ok t n↔A8 w g t∧At b a n (nq g t w (-1)):=by
 rw[yZ,ac o_,QW ha hr hw]
def SC {Z l:G_}{a i:Nat}(h:a+l.length<=Z.length):(aG Z a l)[i]?=if a<=i∧i<a+l.length then l[i-a]? else Z[i]?:=by
 have h1:(Z.take a).length=a:=by rw[di];omega
 unfold aG;by_cases h2:i<a
 .rw[aa o_,aA,b9 o_,jk,ac h2]
 .by_cases h3:i<a+l.length
  .rw[ac o_,aA,cw o_,h1,b9 o_]
  .rw[aa o_,cw (by rw[al];omega),al,h1,b6]
   congr 1
   omega
abbrev cut (Z:G_) (p:Nat×Nat):G_:=(Z.drop p.2).take (bH p.1)
def SE {Z:G_}{p:Nat×Nat}{i:Nat}(h:i<bH p.1):(cut Z p)[i]?=Z[p.2+i]?:=by
 rw[cut,jk,ac h,b6]
def ak7 {Z:G_}{p:Nat×Nat}(h:p.2+bH p.1<=Z.length):(cut Z p).length=bH p.1:=by
 rw[cut,di,dM];omega
def Vd {b:C_}{Zc:G_}(hl:Zc.length=256):∀ {pl:R_}{n m:Nat}{Z:G_},n<=b.length->Z.length=256->(∀ p∈pl,(1<=p.1∧p.1<=11)∧p.2+bH p.1<=256∧OJ p.1 (cut Zc p))->
  (∀ i,(∃ p∈pl,p.2<=i∧i<p.2+bH p.1)∨Z[i]?=Zc[i]?)->At b n m (pl.flatMap fun p=>zX p.1 (cut Zc p))->ko b pl n Z=.ok Zc m
 | [],n,m,Z,hn,hz,hp,hc,h=>by
  rw[ko,(dT.1 h).1]
  congr 1
  apply dF;intro i;rcases hc i with ⟨p,hp,_⟩ | h
  .exact absurd hp (by simp)
  .exact h
 | p::r,n,m,Z,hn,hz,hp,hc,h=>by
  obtain⟨p1,p2,p3⟩:=hp p (.head _);rw[aH]at h;obtain⟨k,j1,j2⟩:=aX.1 h;have hcl:=ak7 (Z:=Zc) (p:=p) o_;rw[ko,(af4 p1).2 ⟨p3,j1⟩,ay];refine Vd hl (dn j1).2.1 (by rw[WB o_];exact hz) (fun q hq=>hp q (.tail _ hq)) (fun i=>?_) j2;rcases hc i with ⟨q,hq,h1,h2⟩ | h3
  .rcases az.1 hq with rfl | hq
   .right;rw[SC o_,ac o_,SE o_]
    congr 1
    omega
   .exact .inl ⟨q,hq,h1,h2⟩
  .right;rw[SC o_];split
   .rw[SE o_];congr 1;omega
   .exact h3
def ap2 {d hi i:Nat}(hd:1<=d):∀ {f lo:Nat},lo<=i->i<hi->hi<=lo+f->∃ x∈sc d hi f lo,x<=i∧i<x+d
 | 0,lo,h1,h2,h3=>by omega
 | f+1,lo,h1,h2,h3=>by
  rw[sc,ac o_];rcases bB i (lo+d) with h | h
  .exact⟨lo,.head _,h1,h⟩
  .obtain⟨x,hx,e⟩:=ap2 hd (f:=f) h h2 o_;exact⟨x,.tail _ hx,e⟩
def afT {os:C_}{d b x:Nat}:∀ {k w0 w:Nat},w0<=w->w<w0+k->x∈sc d (nth os (b+1)) 300 (nth os b)->w*32+x∈qJ os d b k w0
 | 0,w0,w,h1,h2,_=>by omega
 | k+1,w0,w,h1,h2,h=>by
  rw[qJ,be];rcases bB w0 w with h3 | h3
  .exact .inr (afT h3 o_ h)
  .have:w=w0:=o_;subst this;exact .inl (dj.2 ⟨x,h,rfl⟩)
def ao8 {os:C_}{d n first y b:Nat}:∀ {k b0:Nat},b0<=b->b<b0+k->y∈qJ os d b n first->y∈zn os d n first k b0
 | 0,b0,h1,h2,_=>by omega
 | k+1,b0,h1,h2,h=>by
  rw[zn,be];rcases bB b0 b with h3 | h3
  .exact .inr (ao8 h3 o_ h)
  .have:b=b0:=o_;subst this;exact .inl h
def ap4 {os:C_}{n first k y:Nat}(hk:1<=k∧k<=11):∀ {r:P_}{b j:Nat},(aK r)[j]?=some (k:Int)->y∈qJ os (bH k) (b+j) n first->(k,y)∈AD os n first r b
 | [],b,j,h,_=>absurd h (by simp[aK])
 | s::r,b,j,h,hy=>by
  have eb:aK (s::r)=List.replicate s.len.toNat s.book++aK r:=by rw[aK,aH];rfl
  rw[eb]at h;rw[AD,be];rcases bB j s.len.toNat with h1 | h1
  .left;rw[b9 (by simpa using h1),je,ac h1,ae]at h;rw[h,aa o_,au];exact dj.2 ⟨y,ao8 (b:=b+j) o_ o_ hy,rfl⟩
  .right;rw[cw (by simpa using h1),bi]at h;exact ap4 hk h (by rw[show b+s.len.toNat+(j-s.len.toNat)=b+j by omega];exact hy)
def anJ {os:C_}{k x j w:Nat}(hk:1<=k∧k<=11):∀ {r:H_}{q:G_}{first:Nat}{l:P_},(∀ n∈q,1<=n)->first<=w->(w:Int)<first+q.sum->r[kO q ((w:Int)-first)]?=some l->(aK l)[j]?=some (k:Int)->x∈sc (bH k) (nth os (j+1)) 300 (nth os j)->(k,w*32+x)∈qn os r q first
 | [],q,first,l,hq,h1,h2,h3,h4,h5=>absurd h3 (by simp)
 | l0::r,[],first,l,hq,h1,h2,h3,h4,h5=>by simp at h2;omega
 | l0::r,n::q,first,l,hq,h1,h2,h3,h4,h5=>by
  have hn:=hq n (.head _);rw[qn,be];rw[kO]at h3;rw[kD]at h2;by_cases h:(w:Int)-first<n
  .rw[ac h]at h3;simp only[b7,ae]at h3;subst h3;exact .inl (ap4 hk h4 (by rw[bz];exact afT h1 o_ h5))
  .rw[aa h,mb]at h3;right;refine anJ hk (fun y hy=>hq y (.tail _ hy)) o_ o_ ?_ h4 h5;rw[show (w:Int)-((first+n.toNat:Nat):Int)=(w:Int)-first-n by omega];exact h3
def af7 {i:Nat}:∀ {tl:C_}{lo:Nat},lo<=i->(∃ x∈tl,i<x)->kq tl i<tl.length∧nth (lo::tl) (kq tl i)<=i∧i<nth (lo::tl) (kq tl i+1)
 | [],lo,_,h=>by obtain⟨x,hx,_⟩:=h;exact absurd hx (by simp)
 | x::r,lo,h1,h2=>by
  rw[kq];by_cases h:x<=i
  .rw[ac h];have ih:=af7 (tl:=r) h (by
    obtain⟨y,hy,e⟩:=h2;rcases az.1 hy with rfl | hy
    .omega
    .exact⟨y,hy,e⟩)
   exact⟨by rw[aq];omega,ih.2⟩
  .rw[aa h];exact⟨s_,h1,by show i<x;omega⟩
def Hh (i:aL):(cond i.short 32 256:Nat)=i.wide∧((i.wide=32∧i.many=8)∨(i.wide=256∧i.many=1)):=by
 unfold aL.short aL.wide aL.many;by_cases h:i.seq=2
 .rw[decide_eq_true h,ac h,ac h];exact⟨rfl,.inl ⟨rfl,rfl⟩⟩
 .rw[decide_eq_false h,aa h,aa h];exact⟨rfl,.inr ⟨rfl,rfl⟩⟩
def ao9 {r:Nat}(hr:r<=11) (s:Bool):offs r s=0::(offs r s).drop 1:=by
 obtain⟨o1,o2,o3,o4⟩:=AE (r,s) (fp o_);obtain⟨p1,p2,p3⟩:=nT (r,s) (fp o_);simp only at o4 p2
 cases e:offs r s with
 | nil=>rw[e]at o4;simp at o4
 | cons x t =>
  rw[e]at p2;have:x=0:=p2;rw[this];rfl
def avy {r:Nat}(hr:r<=11) (i:aL) {x:Nat}(hx:x<i.wide):∃ j,j=kq ((offs r i.short).drop 1) x∧j+1<(offs r i.short).length∧nth (offs r i.short) j<=x∧x<nth (offs r i.short) (j+1):=by
 obtain⟨o1,o2,o3,o4⟩:=AE (r,i.short) (fp o_);simp only at o1;have hw:=(Hh i).1;rw[hw]at o1;have hm:i.wide∈(offs r i.short).drop 1:=by simpa using o1
 have h:=af7 (i:=x) (tl:=(offs r i.short).drop 1) (lo:=0) (dl _) ⟨_,hm,hx⟩;rw[<-ao9 hr]at h;refine⟨_,rfl,?_,h.2⟩;have:=h.1;rw[dM]at this;omega
def alZ {r:Nat}{c:cu}(h:mR r c) (hr:r<=11) {i:Nat}{v:Int}(hv:c.lines[i]?=some v) (h0:v≠0):∃ p∈MQ r c.info c.sects,p.2<=i∧i<p.2+bH p.1:=by
 have hm11:=gh hr h.info;obtain⟨g1,g2⟩:=dG hm11;have hi:i<256:=by
  have:=(aI.1 hv).1;have:=h.lines.1;omega
 obtain⟨hw1,hw⟩:=Hh c.info;have hwp:0<c.info.wide:=o_;have hdm:=oG i c.info.wide;have hx:=dW i hwp;have hwm:i / c.info.wide<c.info.many:=by
  rcases hw with ⟨a,b⟩ | ⟨a,b⟩<;>rw[a,b]<;>omega
 have hw32:i / c.info.wide*32+i % c.info.wide=i:=by
  rcases hw with ⟨a,b⟩ | ⟨a,b⟩<;>rw[a]<;>omega
 have e1:(yw c (i / c.info.wide))[i % c.info.wide]?=some v:=by
  rw[yw,jk,ac hx,b6,dX,hdm,hv]
 have h2:=RN (Sa h.lines.2 (dl _) (show _<0+c.info.many by omega)) e1;rw[bz]at h2;rcases h2 with h2 | ⟨k,k1,k2,k3⟩
 .exact absurd h2 h0
 obtain⟨j,j1,j2,j3,j4⟩:=avy hr c.info hx;rw[<-j1]at k1;obtain⟨K,rfl⟩:=aB (show 0<=k by omega);have hd:1<=bH K:=by unfold bH;split<;>omega
 have ho:nth (offs r c.info.short) (j+1)<=256:=by
  obtain⟨p1,p2,p3⟩:=nT (r,c.info.short) (fp o_);have:=bG.1 p3 _ (jg j2);simp only[decide_eq_true_eq]at this;rw[hw1]at this;omega
 obtain⟨x,x1,x2,x3⟩:=ap2 hd (f:=300) j3 j4 o_;generalize i / c.info.wide=w at *;generalize i % c.info.wide=y at *;have hgl:kO c.info.groups (w:Int)<c.sects.length:=by
  have:=ahk (l:=c.info.groups) (w:=w) o_ (fun n hn=>(g1 n hn).1) o_;have:=h.sects.1;omega
 refine⟨(K,w*32+x),anJ (l:=xg c w) o_ (fun n hn=>(g1 n hn).1) (dl _) o_ ?_ k1 x1,by simp only[];omega,by simp only[];omega⟩;rw[show (w:Int)-((0:Nat):Int)=w by omega,xg,ke,bE hgl];rfl
def anq {b:C_}{r:Nat}{c:cu}(hc:c.Fit) (h:mR r c) (hr:r<=11) {n m:Nat}(hn:n<=b.length) (ha:At b n m (nf r c)):ko b (MQ r c.info c.sects) n Z0=.ok c.lines m:=by
 refine Vd h.lines.1 hn (by rw[bi]) (fun p hp=>Rj hc h hr hp) (fun i=>?_) ha
 cases e:c.lines[i]? with
 | none =>
  right;have:=List.getElem?_eq_none_iff.1 e;have:=h.lines.1;rw[gP (by rw[bi];omega)]
 | some v =>
  by_cases h0:v=0
  .right;subst h0;have:=(aI.1 e).1;have:=h.lines.1;rw[je,ac o_]
  .exact .inl (alZ h hr e h0)
def AW (b:C_) (st s2:RS) (X:C_):Prop:=∃ a n:Nat,st=⟨a,0⟩∧s2=⟨n,0⟩∧At b a n X
def amB (b:C_) (st:RS):Prop:=∃ a:Nat,st=⟨a,0⟩∧a<=b.length
def iJ {b:C_}{st s2:RS}{X Y:C_}:AW b st s2 (X++Y)↔∃ m,AW b st m X∧AW b m s2 Y:=by
 constructor
 .rintro ⟨a,n,e1,e2,h⟩
  obtain⟨m,h1,h2⟩:=aX.1 h;exact⟨⟨m,0⟩,⟨a,m,e1,rfl,h1⟩,⟨m,n,rfl,e2,h2⟩⟩
 .rintro ⟨m,⟨a,n,e1,e2,h⟩,⟨a2,n2,e3,e4,h2⟩⟩
  rw[e2]at e3;injection e3 with e3 _
  have:n=a2:=o_;subst this;exact⟨a,n2,e1,e4,aX.2 ⟨n,h,h2⟩⟩
def AG {b:C_}{st s2:RS}:AW b st s2 []↔s2=st∧amB b st:=by
 constructor
 .rintro ⟨a,n,e1,e2,h⟩
  obtain⟨h1,h2⟩:=dT.1 h;exact⟨by rw[e1,e2,h1],a,e1,h2⟩
 .intro hh;obtain⟨a,e,h⟩:=hh.2;exact⟨a,a,e,by rw[hh.1,e],dT.2 ⟨rfl,h⟩⟩
def EF {b:C_}{st s2:RS}{X:C_}(h:AW b st s2 X):amB b st∧amB b s2∧st.e=0∧s2.e=0:=by
 obtain⟨a,n,e1,e2,h⟩:=h;have:=dn h;exact⟨⟨a,e1,this.1⟩,⟨n,e2,this.2.1⟩,by rw[e1],by rw[e2]⟩
def Wi {b:C_}{st:RS}{s:Nat}(h:(sN b st s).e=0):st.e=0:=by
 unfold sN at h;by_cases h0:st.e=0
 .exact h0
 .rw[aa h0]at h;exact absurd h h0
def Lm {b:C_}{st:RS}{s:Nat}(hs:s<=31) (h:(sN b st s).e=0):sV b st s<2 ^ s∧AW b st (sN b st s) (ar (sV b st s) s):=by
 have h0:=Wi h;obtain⟨a,e⟩:=st;simp only at h0;subst h0
 cases hg:bc b a s with
 | er e=>rw[(CD hg).2]at h;exact absurd h (by simp)
 | ok v n =>
  rw[(kf hg).1,(kf hg).2];have ha:=ak0 hg;obtain⟨A,rfl⟩:=aB ha;obtain⟨g1,g2⟩:=(ca hs).1 hg;exact⟨g1,A,n,rfl,rfl,g2⟩
def QF {b:C_}{st s2:RS}{s v:Nat}(hs:s<=31) (hv:v<2 ^ s) (h:AW b st s2 (ar v s)):sV b st s=v∧sN b st s=s2:=by
 obtain⟨a,n,rfl,rfl,h⟩:=h;exact kf ((ca hs).2 ⟨hv,h⟩)
abbrev nx (b:C_) (st:RS):Prop:=st.e=0->amB b st
def aDl {v sz:Nat}(hz:1<=sz) (hv:v<2 ^ sz):(-((2 ^ (sz-1):Nat):Int)<=R4 v sz∧R4 v sz<((2 ^ (sz-1):Nat):Int))∧(R4 v sz % ((2 ^ sz:Nat):Int)).toNat=v:=by
 obtain⟨k,rfl⟩:∃ k,sz=k+1:=⟨sz-1,o_⟩
 have e:2 ^ (k+1)=2*2 ^ k:=by rw[cZ,dX]
 have hp:=bO k;unfold R4;rw[dh];rw[e]at hv⊢;rcases bB v (2 ^ k) with h | h
 .rw[iH h,Nat.zero_mul];refine⟨o_,?_⟩;rw[jE o_ o_];omega
 .have:v / 2 ^ k=1:=pw o_ o_;rw[this,Nat.one_mul];refine⟨o_,?_⟩;have e3:((v:Int)-((2*2 ^ k:Nat):Int)) % ((2*2 ^ k:Nat):Int)=v:=by
   rw[Int.sub_emod_right,jE o_ o_]
  rw[e3];omega
def aCz {c:Int}{sz:Nat}(hz:1<=sz) (h:-((2 ^ (sz-1):Nat):Int)<=c∧c<((2 ^ (sz-1):Nat):Int)):(c % ((2 ^ sz:Nat):Int)).toNat<2 ^ sz∧R4 (c % ((2 ^ sz:Nat):Int)).toNat sz=c:=by
 obtain⟨k,rfl⟩:∃ k,sz=k+1:=⟨sz-1,o_⟩
 have e:2 ^ (k+1)=2*2 ^ k:=by rw[cZ,dX]
 have hp:=bO k;rw[dh]at h;unfold R4;rw[dh,e];rcases Int.lt_or_le c 0 with h0 | h0
 .have e3:c % ((2*2 ^ k:Nat):Int)=c+((2*2 ^ k:Nat):Int):=by
   rw[<-Int.add_emod_right,jE o_ o_]
  rw[e3];have e4:(c+((2*2 ^ k:Nat):Int)).toNat / 2 ^ k=1:=pw o_ o_;rw[e4];omega
 .rw[jE o_ o_,iH o_];omega
def ayl {b:C_}{sz:Nat}(hz:1<=sz∧sz<=31):∀ {k:Nat}{st:RS},nx b st->(wH b sz k st).e=0->(yf b sz k st).length=k∧(∀ c∈yf b sz k st,-((2 ^ (sz-1):Nat):Int)<=c∧c<((2 ^ (sz-1):Nat):Int))∧AW b st (wH b sz k st) (pT sz (yf b sz k st))
 | 0,st,hn,h=>⟨rfl,by simp[yf],AG.2 ⟨rfl,hn h⟩⟩
 | k+1,st,hn,h=>by
  rw[wH]at h;have hn2:nx b (sN b st sz):=fun h1=>(EF (Lm hz.2 h1).2).2.1
  obtain⟨i1,i2,i3⟩:=ayl hz (k:=k) hn2 h;obtain⟨j1,j2⟩:=Lm hz.2 (EF i3).2.2.1;obtain⟨v1,v2⟩:=aDl hz.1 j1;rw[yf,wH];refine⟨by rw[aq,i1],fun c hc=>?_,?_⟩
  .rcases az.1 hc with rfl | hc
   .exact v1
   .exact i2 c hc
  .rw[pT,aH,v2];exact iJ.2 ⟨_,j2,i3⟩
def azb {b:C_}{sz:Nat}(hz:1<=sz∧sz<=31):∀ {l:G_}{st s2:RS},(∀ c∈l,-((2 ^ (sz-1):Nat):Int)<=c∧c<((2 ^ (sz-1):Nat):Int))->AW b st s2 (pT sz l)->yf b sz l.length st=l∧wH b sz l.length st=s2
 | [],st,s2,hl,h=>⟨rfl,(AG.1 h).1.symm⟩
 | c::r,st,s2,hl,h=>by
  rw[pT,aH]at h;obtain⟨m,h1,h2⟩:=iJ.1 h;obtain⟨v1,v2⟩:=aCz hz.1 (hl c (.head _));obtain⟨w1,w2⟩:=QF hz.2 v1 h1;obtain⟨i1,i2⟩:=azb hz (l:=r) (fun x hx=>hl x (.tail _ hx)) h2;rw[aq,yf,wH,w1,w2,v2,i1,i2];exact⟨rfl,rfl⟩
def asA {b:C_}{sz:Nat}:∀ {k:Nat}{st:RS},(wH b sz k st).e=0->st.e=0
 | 0,_,h=>h
 | k+1,st,h=>by rw[wH]at h;exact Wi (asA h)
def SM {b:C_}{st:RS}{s:Nat}(hs:s<=31):nx b (sN b st s):=fun h=>(EF (Lm hs h).2).2.1
def axM {b:C_}{sz:Nat}(hz:sz<=31):∀ {k:Nat}{st:RS},nx b st->nx b (wH b sz k st)
 | 0,_,h=>h
 | k+1,st,h=>by rw[wH];exact axM hz (SM hz)
def an3 {fine:Bool}{w:Nat}(hw:w<=1):1<=fB fine-w∧fB fine-w<=31:=by unfold fB;split<;>omega
def atq (fine:Bool) (l:G_) (s:Nat) (hs:s=fB fine-1):J5 l s=decide (∀ c∈l,-(dB fine / 2)<=c∧c<dB fine / 2):=by
 subst hs
 cases fine<;>rfl
def Qy (sh:Bool):Ac sh=((2 ^ bN sh:Nat):Int)-1∧bN sh<=31∧bM sh<=31∧eu sh<=31:=by cases sh<;>decide
def apy {d:Nat}(h:d<2 ^ 1):dP (decide (d=1))=d:=by
 unfold dP;by_cases h1:d=1
 .rw[h1];rfl
 .rw[decide_eq_false h1];simp;omega
def aC7 {b:C_}{sh fine:Bool}{st:RS}(hO:¬ (12<r5 b (bN sh) (bM sh) st∧(yR b (bN sh) (bM sh) st).e=0)) (hX:JQ b (bN sh) (bM sh) fine st=false) (he:(yj b (bN sh) (bM sh) fine st).e=0) :
  (CT sh (Me b (bN sh) (bM sh) fine st)∧(Me b (bN sh) (bM sh) fine st).fine=fine)∧AW b st (yj b (bN sh) (bM sh) fine st) (su sh (Me b (bN sh) (bM sh) fine st)):=by
 obtain⟨l1,l2,l3,_⟩:=Qy sh;have hS:(yR b (bN sh) (bM sh) st).e=0:=by
  unfold yj at he;by_cases h0:r5 b (bN sh) (bM sh) st=0
  .rw[ac h0]at he;exact he
  .rw[aa h0]at he;have:=asA he;exact Wi (s:=1) (Wi (s:=1) this)
 have r2:=Lm (st:=sN b st (bN sh)) (s:=bM sh) l3 hS;have r1:=Lm (st:=st) (s:=bN sh) l2 (Wi (s:=bM sh) hS);have hO2:((r5 b (bN sh) (bM sh) st:Nat):Int)<=wE sh:=by
  have h1:r5 b (bN sh) (bM sh) st<2 ^ bM sh:=r2.1;have h2:r5 b (bN sh) (bM sh) st<=12:=by
   rcases bB 12 (r5 b (bN sh) (bM sh) st) with h | h
   .exact absurd ⟨h,hS⟩ hO
   .exact h
  cases sh
  .show _<=(12:Int);omega
  .have:2 ^ bM true=8:=rfl;show _<=(7:Int);omega
 have hr1:=r1.1;have q2:AW b (sN b st (bN sh)) (yR b (bN sh) (bM sh) st) (ar (r5 b (bN sh) (bM sh) st) (bM sh)):=r2.2;unfold yj at he⊢;unfold Me;by_cases h0:r5 b (bN sh) (bM sh) st=0
 .rw[ac h0]at he⊢;rw[ac h0];rw[h0]at q2;refine⟨⟨⟨⟨by simp only[];omega,by simp only[];omega⟩,⟨s_,by simp only[];cases sh<;>decide⟩,rfl,fun _=>rfl,s_⟩,rfl⟩,?_⟩;unfold su;simp only[bf,bg];exact iJ.2 ⟨_,by simpa using r1.2,by simpa using q2⟩
 .rw[aa h0]at he⊢;rw[aa h0];have hT:=asA he;have r4:=Lm (st:=sN b (yR b (bN sh) (bM sh) st) (1:Nat)) (s:=1) o_ hT;have r3:=Lm (st:=yR b (bN sh) (bM sh) st) (s:=1) o_ (Wi (s:=1) hT);have hd:flD b (bN sh) (bM sh) st<2 ^ 1:=r3.1;have hw:GU b (bN sh) (bM sh) st<2 ^ 1:=r4.1;have q3:AW b (yR b (bN sh) (bM sh) st) (sN b (yR b (bN sh) (bM sh) st) (1:Nat)) (ar (flD b (bN sh) (bM sh) st) 1):=r3.2;have q4:AW b (sN b (yR b (bN sh) (bM sh) st) (1:Nat)) (Pg b (bN sh) (bM sh) st) (ar (GU b (bN sh) (bM sh) st) 1):=r4.2;have hz:=an3 (fine:=fine) (w:=GU b (bN sh) (bM sh) st) o_;have c:=ayl (sz:=I8 b (bN sh) (bM sh) fine st) hz (k:=r5 b (bN sh) (bM sh) st) (SM (st:=sN b (yR b (bN sh) (bM sh) st) (1:Nat)) (s:=1) o_) he;unfold JQ at hX;rw[aa h0]at hX;obtain⟨c1,c2,c3⟩:=c;have c3:AW b (Pg b (bN sh) (bM sh) st) _ _:=c3;have hZ:I8 b (bN sh) (bM sh) fine st=fB fine-GU b (bN sh) (bM sh) st:=rfl;generalize hcf:yf b (I8 b (bN sh) (bM sh) fine st) (r5 b (bN sh) (bM sh) st) (sN b (sN b (yR b (bN sh) (bM sh) st) (1:Nat)) (1:Nat))=cs at *;have hcf2:yf b (I8 b (bN sh) (bM sh) fine st) (r5 b (bN sh) (bM sh) st) (Pg b (bN sh) (bM sh) st)=cs:=hcf;rw[hcf2]at hX⊢;have hrng:∀ c∈cs,-dB fine<=c∧c<dB fine:=fun c hc=>by
   have:=c2 c hc;rw[hZ]at this;have hw2:GU b (bN sh) (bM sh) st=0∨GU b (bN sh) (bM sh) st=1:=o_;rcases hw2 with e | e<;>rw[e]at this<;>cases fine<;>simp only[fB,dB]at this⊢<;>simp at this⊢<;>omega
  have hnar:dP (decide (∀ c∈cs,-(dB fine / 2)<=c∧c<dB fine / 2))=GU b (bN sh) (bM sh) st:=by
   rw[<-atq fine cs _ rfl];have hw2:GU b (bN sh) (bM sh) st=0∨GU b (bN sh) (bM sh) st=1:=o_;rcases hw2 with e | e
   .rw[e]at hX hZ⊢;rw[hZ]at hX;simp only[decide_true,np,Nat.sub_zero]at hX;rw[hX];rfl
   .rw[e]at hZ⊢;have:J5 cs (fB fine-1)=true:=by
     rw[J5,decide_eq_true_eq];intro c hc;have:=c2 c hc;rw[hZ]at this
     cases fine<;>simp only[fB]at this⊢<;>simp at this⊢<;>omega
    rw[this];rfl
  refine⟨⟨⟨⟨by simp only[];omega,by simp only[];omega⟩,⟨by simp only[];omega,hO2⟩,by simp only[];rw[c1],fun h=>absurd h t_,hrng⟩,rfl⟩,?_⟩;unfold su;rw[aa t_];refine iJ.2 ⟨_,by simpa using r1.2,iJ.2 ⟨_,by simpa using q2,iJ.2 ⟨_,by simp only[];rw[apy hd];exact q3,iJ.2 ⟨Pg b (bN sh) (bM sh) st,?_,?_⟩⟩⟩⟩
  .simp only[fG];rw[hnar];exact q4
  .simp only[tH,fG];rw[hnar];exact c3
def aCX {b:C_}{sh:Bool}{f:bT}{st s2:RS}(hf:CT sh f) (h:AW b st s2 (su sh f)) :
  Me b (bN sh) (bM sh) f.fine st=f∧yj b (bN sh) (bM sh) f.fine st=s2∧JQ b (bN sh) (bM sh) f.fine st=false∧¬ (12<r5 b (bN sh) (bM sh) st):=by
 obtain⟨l1,l2,l3,_⟩:=Qy sh;obtain⟨len,ord,down,fine,cs⟩:=f;obtain⟨⟨f1,f2⟩,⟨f3,f4⟩,f5,f6,f7⟩:=hf;simp only at f1 f2 f3 f4 f5 f6 f7⊢;obtain⟨len,rfl⟩:=aB f1;obtain⟨ord,rfl⟩:=aB f3;have hordF:ord<2 ^ bM sh∧ord<=12:=by
  cases sh
  .have:(ord:Int)<=12:=f4;have:2 ^ bM false=32:=rfl;omega
  .have:(ord:Int)<=7:=f4;have:2 ^ bM true=8:=rfl;omega
 unfold su at h;simp only[au]at h;obtain⟨m1,h1,h⟩:=iJ.1 h;obtain⟨m2,h2,h⟩:=iJ.1 h;obtain⟨v1,n1⟩:=QF l2 (show len<2 ^ bN sh by omega) h1;obtain⟨v2,n2⟩:=QF l3 hordF.1 h2;have hO:r5 b (bN sh) (bM sh) st=ord:=by unfold r5;rw[n1,v2]
 have hS:yR b (bN sh) (bM sh) st=m2:=by unfold yR;rw[n1,n2]
 refine⟨?_,?_,?_,by rw[hO];omega⟩
 all_goals
  by_cases h0:ord=0
  .subst h0;have hc:cs=[]:=ax o_;have hd:=f6 rfl;subst hc hd;simp only[Int.natCast_zero,bf]at h;have hs2:=(AG.1 h).1
   first
    | (unfold Me;rw[ac hO,v1];rfl)
    | (unfold yj;rw[ac hO,hS,hs2])
    | (unfold JQ;rw[ac hO])
  .rw[aa o_]at h;obtain⟨m3,h3,h⟩:=iJ.1 h;obtain⟨m4,h4,h5⟩:=iJ.1 h;have b1:∀ x:Bool,dP x<2 ^ 1:=fun x=>by cases x<;>decide
   obtain⟨v3,n3⟩:=QF (s:=1) o_ (b1 down) h3;obtain⟨v4,n4⟩:=QF (s:=1) o_ (b1 _) h4;have hD:flD b (bN sh) (bM sh) st=dP down:=by unfold flD;rw[hS];exact v3
   have hT:Pg b (bN sh) (bM sh) st=m4:=by
    unfold Pg;rw[hS];show sN b (sN b m2 (1:Nat)) (1:Nat)=m4;rw[n3,n4]
   have hW:GU b (bN sh) (bM sh) st=dP (fG ⟨len,ord,down,fine,cs⟩):=by
    unfold GU;rw[hS];show sV b (sN b m2 (1:Nat)) (1:Nat)=_;rw[n3,v4]
   have hZ:I8 b (bN sh) (bM sh) fine st=tH ⟨len,ord,down,fine,cs⟩:=by unfold I8;rw[hW];rfl
   have hw1:dP (fG ⟨len,ord,down,fine,cs⟩)<=1:=by cases fG ⟨len,ord,down,fine,cs⟩<;>decide
   have hz:=an3 (fine:=fine) hw1;have hrng:∀ c∈cs,-((2 ^ (tH ⟨len,ord,down,fine,cs⟩-1):Nat):Int)<=c∧c<((2 ^ (tH ⟨len,ord,down,fine,cs⟩-1):Nat):Int):=fun c hc=>by
    have a:=f7 c hc
    cases hn:fG ⟨len,ord,down,fine,cs⟩ with
    | true =>
     have b:=(of_decide_eq_true hn) c hc;simp only[tH,hn]
     cases fine<;>simp only[fB,dP,dB]at b⊢<;>simp at b⊢<;>omega
    | false =>
     simp only[tH,hn]
     cases fine<;>simp only[fB,dP,dB]at a⊢<;>simp at a⊢<;>omega
   have hco:cs.length=ord:=o_;obtain⟨c1,c2⟩:=azb (sz:=tH ⟨len,ord,down,fine,cs⟩) hz hrng h5;rw[hco]at c1 c2
   first
    | (unfold Me;rw[aa o_,v1,hO,hD,hZ,hT,c1];congr 1;cases down<;>rfl)
    | (unfold yj;rw[aa o_,hO,hZ,hT,c2])
    | (unfold JQ;rw[aa o_,hO,hZ,hT,c1,hW];cases hn:fG ⟨len,ord,down,fine,cs⟩;rw[show tH ⟨len,ord,down,fine,cs⟩-1=fB fine-1 from (by rw[tH,hn];rfl),atq fine cs _ rfl];show (_ && fG ⟨len,ord,down,fine,cs⟩)=false;rw[hn,Bool.and_false];rfl)
def apf {b:C_}{sh fine:Bool}{st:RS}:nx b (yj b (bN sh) (bM sh) fine st):=by
 obtain⟨l1,l2,l3,_⟩:=Qy sh;unfold yj;by_cases h0:r5 b (bN sh) (bM sh) st=0
 .rw[ac h0];exact SM l3
 .rw[aa h0];have hz:I8 b (bN sh) (bM sh) fine st<=31:=by unfold I8 fB;split<;>omega
  exact axM hz (SM (st:=sN b (yR b (bN sh) (bM sh) st) (1:Nat)) (s:=1) o_)
def atL {b:C_}{sh fine:Bool}:∀ {k:Nat}{o:Bool}{st st2:RS}{l:AA_},nx b st->jh b (bN sh) (bM sh) fine k o st=some (l,false,st2)->st2.e=0->
  o=false∧l.length=k∧(∀ f∈l,CT sh f∧f.fine=fine)∧AW b st st2 (l.flatMap (su sh))
 | 0,o,st,st2,l,hn,h,he=>by
  rw[jh]at h;injection h with h
  injection h with e1 h
  injection h with e2 e3
  subst e1 e2 e3;exact⟨rfl,rfl,s_,AG.2 ⟨rfl,hn he⟩⟩
 | k+1,o,st,st2,l,hn,h,he=>by
  rw[jh]at h;by_cases hO:12<r5 b (bN sh) (bM sh) st∧(yR b (bN sh) (bM sh) st).e=0
  .rw[ac hO]at h;exact absurd h (by simp)
  rw[aa hO]at h
  cases hq:jh b (bN sh) (bM sh) fine k (o || JQ b (bN sh) (bM sh) fine st) (yj b (bN sh) (bM sh) fine st) with
  | none=>rw[hq]at h;exact absurd h (by simp)
  | some q =>
   obtain⟨l2,o2,s3⟩:=q;rw[hq]at h;simp only[ae,aP]at h;obtain⟨e1,e2,e3⟩:=h;subst e1 e2 e3;obtain⟨i1,i2,i3,i4⟩:=atL apf hq he;rw[Bool.or_eq_false_iff]at i1;obtain⟨⟨j1,j2⟩,j3⟩:=aC7 hO i1.2 (EF i4).2.2.1;refine⟨i1.1,by rw[aq,i2],fun f hf=>?_,?_⟩
   .rcases az.1 hf with rfl | hf
    .exact⟨j1,j2⟩
    .exact i3 f hf
   .rw[aH];exact iJ.2 ⟨_,j3,i4⟩
def at1 {b:C_}{sh fine:Bool}:∀ {l:AA_}{st st2:RS},(∀ f∈l,CT sh f∧f.fine=fine)->AW b st st2 (l.flatMap (su sh))->jh b (bN sh) (bM sh) fine l.length false st=some (l,false,st2)
 | [],st,st2,hl,h=>by rw[(AG.1 h).1];rfl
 | f::r,st,st2,hl,h=>by
  obtain⟨h1,h2⟩:=hl f (.head _);rw[aH]at h;obtain⟨m,k1,k2⟩:=iJ.1 h;obtain⟨j1,j2,j3,j4⟩:=aCX h1 k1;rw[h2]at j1 j2 j3;rw[aq,jh,aa (fun h=>j4 h.1),j3,j2,rl,at1 (fun x hx=>hl x (.tail _ hx)) k2,j1]
def alX (sh:Bool):x0T sh=eu sh∧x1T sh=bN sh∧x2T sh=bM sh∧2 ^ eu sh=qq sh+1:=by cases sh<;>decide
def abB {sh:Bool}{f:bT}{r:AA_}:yI sh (f::r)=ar (f::r).length (eu sh)++(ar (dP f.fine) 1++(f::r).flatMap (su sh)):=rfl
def afY {sh:Bool}:yI sh []=ar 0 (eu sh):=by simp[yI]
def atz {b:C_}{sh:Bool}:∀ {k:Nat}{o:Bool}{st st2:RS}{t:N_},nx b st->py b (eu sh) (bN sh) (bM sh) k o st=some (t,false,st2)->st2.e=0->
  o=false∧t.length=k∧(∀ l∈t,t9 sh l)∧AW b st st2 (jl sh t)
 | 0,o,st,st2,t,hn,h,he=>by
  rw[py]at h;injection h with h
  injection h with e1 h
  injection h with e2 e3
  subst e1 e2 e3;exact⟨rfl,rfl,s_,AG.2 ⟨rfl,hn he⟩⟩
 | k+1,o,st,st2,t,hn,h,he=>by
  obtain⟨l1,l2,l3,l4⟩:=Qy sh;obtain⟨_,_,_,x4⟩:=alX sh;rw[py]at h
  cases hq:jh b (bN sh) (bM sh) (Sn b (eu sh) st) (sV b st (eu sh)) o (Dh b (eu sh) st) with
  | none=>rw[hq]at h;exact absurd h (by simp)
  | some q =>
   obtain⟨l,o2,s3⟩:=q;rw[hq]at h;simp only at h
   cases hw:py b (eu sh) (bN sh) (bM sh) k o2 s3 with
   | none=>rw[hw]at h;exact absurd h (by simp)
   | some w =>
    obtain⟨t2,o3,s4⟩:=w;rw[hw]at h;simp only[ae,aP]at h;obtain⟨e1,e2,e3⟩:=h;subst e1 e2 e3;have hwn:nx b (Dh b (eu sh) st):=by
     unfold Dh;split
     .exact SM (st:=sN b st (eu sh)) (s:=1) (by omega)
     .exact SM l4
    have hs3:nx b s3:=by
     have:∀ {k:Nat}{o o2:Bool}{st st2:RS}{l:AA_},nx b st->jh b (bN sh) (bM sh) (Sn b (eu sh) st) k o st=some (l,o2,st2)->True:=fun _ _=>trivial
     have g:∀ {fine:Bool}{k:Nat}{o o2:Bool}{st st2:RS}{l:AA_},nx b st->jh b (bN sh) (bM sh) fine k o st=some (l,o2,st2)->nx b st2:=by
      intro fine k
      induction k with
      | zero =>
       intro o o2 st st2 l hn h;rw[jh]at h;injection h with h
       injection h with e1 h
       injection h with e2 e3
       subst e3;exact hn
      | succ k ih =>
       intro o o2 st st2 l hn h;rw[jh]at h;split at h
       .exact absurd h (by simp)
       .split at h
        .exact absurd h (by simp)
        .rename_i q hq;obtain⟨a,b2,c⟩:=q;simp only[ae,aP]at h;obtain⟨e1,e2,e3⟩:=h;subst e3;exact ih apf hq
     exact g hwn hq
    obtain⟨i1,i2,i3,i4⟩:=atz hs3 hw he;subst i1;obtain⟨j1,j2,j3,j4⟩:=atL hwn hq (EF i4).2.2.1;have hwe:=(EF j4).2.2.1;unfold Dh at hwe j4;refine⟨j1,by rw[aq,i2],fun x hx=>?_,?_⟩
    .rcases az.1 hx with rfl | hx
     .refine⟨?_,fun f0 hf0 f hf=>?_⟩
      .have:=vV (b:=b) (st:=st) (s:=(eu sh:Int));rw[au]at this;omega
      .have a1:=j3 f hf;have a2:=j3 f0 (List.mem_of_mem_head? hf0);exact⟨a1.1,by rw[a1.2,a2.2]⟩
     .exact i3 x hx
    .rw[jl,aH];refine iJ.2 ⟨s3,?_,i4⟩
     cases l with
     | nil =>
      have h0:sV b st (eu sh)=0:=by rw[<-j2];rfl
      rw[aa o_]at hwe j4;have:=(Lm l4 hwe).2;rw[h0]at this;rw[afY,(AG.1 j4).1];exact this
     | cons f r =>
      have hp:0<sV b st (eu sh):=by rw[<-j2];simp
      rw[ac hp]at hwe j4;have r1:=(Lm l4 (Wi (s:=1) hwe)).2;obtain⟨b1,r2⟩:=Lm (st:=sN b st (eu sh)) (s:=1) o_ hwe;rw[abB,j2];refine iJ.2 ⟨_,r1,iJ.2 ⟨_,?_,j4⟩⟩;have hfi:dP f.fine=sV b (sN b st (eu sh)) (1:Nat):=by
       rw[(j3 f (.head _)).2,Sn,decide_eq_true hp,np];exact apy b1
      rw[hfi];exact r2
def ati {b:C_}{sh:Bool}:∀ {t:N_}{st st2:RS},(∀ l∈t,t9 sh l)->AW b st st2 (jl sh t)->py b (eu sh) (bN sh) (bM sh) t.length false st=some (t,false,st2)
 | [],st,st2,hl,h=>by rw[(AG.1 h).1];rfl
 | l::r,st,st2,hl,h=>by
  obtain⟨l1,l2,l3,l4⟩:=Qy sh;obtain⟨_,_,_,x4⟩:=alX sh;obtain⟨h1,h2⟩:=hl l (.head _);rw[jl,aH]at h;obtain⟨m,k1,k2⟩:=iJ.1 h;have ih:=ati (fun x hx=>hl x (.tail _ hx)) k2;rw[aq,py]
  cases l with
  | nil =>
   rw[afY]at k1;obtain⟨v1,n1⟩:=QF l4 (bO _) k1;have hS:Dh b (eu sh) st=m:=by rw[Dh,aa o_,n1]
   rw[v1,hS];simp only[jh];rw[ih]
  | cons f q =>
   rw[abB]at k1;obtain⟨m1,j1,k1⟩:=iJ.1 k1;obtain⟨m2,j2,j3⟩:=iJ.1 k1;obtain⟨v1,n1⟩:=QF l4 o_ j1;have b1:dP f.fine<2 ^ 1:=by cases f.fine<;>decide
   obtain⟨v2,n2⟩:=QF (s:=1) o_ b1 j2;have hp:0<sV b st (eu sh):=by rw[v1];simp
   have hS:Dh b (eu sh) st=m2:=by
    rw[Dh,ac hp,n1];exact n2
   have hF:Sn b (eu sh) st=f.fine:=by
    rw[Sn,decide_eq_true hp,np,n1];have:sV b m1 1=dP f.fine:=v2;rw[this]
    cases f.fine<;>rfl
   rw[hS,hF,v1,at1 (fun x hx=>h2 f rfl x hx) j3];simp only;rw[ih]
def akn {b:C_}{i:aL}{a n:Nat}{t:N_}(ha:a<=b.length):Oj b i (a:Int)=.ok t n↔Td i t∧At b a n (jl i.short t):=by
 obtain⟨x0,x1,x2,_⟩:=alX i.short;rw[Oj,WF,x0,x1,x2];constructor
 .intro h
  cases hq:py b (eu i.short) (bN i.short) (bM i.short) i.many false ⟨a,0⟩ with
  | none=>rw[hq]at h;exact absurd h (by simp)
  | some q =>
   obtain⟨t2,o,st⟩:=q;rw[hq]at h;simp only at h;by_cases he:st.e≠0
   .rw[ac he]at h;exact absurd h (by simp)
   rw[aa he]at h
   cases o with
   | true=>simp at h
   | false =>
    simp only[ao,bh]at h;injection h with e1 e2
    subst e1;obtain⟨_,g2,g3,a2,n2,e3,e4,g5⟩:=atz (fun _=>⟨a,rfl,ha⟩) hq (by simpa using he);injection e3 with e3 _
    have:a=a2:=o_;subst this;rw[e4]at e2;simp only[au]at e2;subst e2;exact⟨⟨g2,g3⟩,g5⟩
 .rintro ⟨⟨h1,h2⟩,h3⟩
  have:=ati h2 (show AW b ⟨a,0⟩ ⟨n,0⟩ _ from ⟨a,n,rfl,rfl,h3⟩);rw[h1]at this;rw[this];simp
def abg {lf:Int}:∀ {l:P_},fitsS lf l->∀ k∈aK l,0<=k
 | [],_,k,h=>by simp[aK]at h
 | s::r,hf,k,h=>by
  obtain⟨⟨_,h1⟩,h2⟩:=hf;have eb:aK (s::r)=List.replicate s.len.toNat s.book++aK r:=by rw[aK,aH];rfl
  rw[eb,be]at h;rcases h with h | h
  .rw[cY h];exact h1.1
  .exact abg h2 k h
def aqV {i:aL}{t:N_}(h:t.length=i.many) (ha:oB t=false):t=List.replicate i.many []:=by
 rw[oB,mu]at ha;rw[List.eq_replicate_iff];refine⟨h,fun l hl=>?_⟩;have:=ha l hl;simp only[decide_eq_true_eq]at this;exact ax (by omega)
def TB {b:C_}{a n v:Nat}(hv:v<=1) (h:At b a n [v]):bc b (a:Int) 1=.ok v n:=(ca (s:=1) o_).2 ⟨o_,by rw[Rk hv];exact h⟩
def am4 {b:C_}{a n v:Nat}(h:bc b (a:Int) 1=.ok v n):v<=1∧At b a n [v]:=by
 obtain⟨h1,h2⟩:=(ca (s:=1) o_).1 h;rw[Rk o_]at h2;exact⟨o_,h2⟩
def an7 {b:C_}{r:Nat}{c:cu}{q:Bool}(hr:r<=11) (hc:c.Fit) (h:mR r c) {a n:Nat}(ha:At b a n (Cu r c q)) :
  Ci b (a:Int) r q c.info=.ok (⟨c.gain.toNat,c.info,c.sects,c.steps,c.tns,0,if oB c.tns then 1 else 0⟩,c.lines) n:=by
 have hm11:=gh hr h.info;have hg:=h.gain;obtain⟨n1,k1,ha1⟩:=aX.1 ha;obtain⟨n2,k2,ha2⟩:=aX.1 ha1;obtain⟨n3,k3,ha3⟩:=aX.1 ha2;obtain⟨n4,k4,ha4⟩:=aX.1 ha3;obtain⟨n5,k5,k6⟩:=aX.1 ha4;have e0:bc b (a:Int) 0=.ok 0 a:=(ca (s:=0) o_).2 ⟨o_,dT.2 ⟨rfl,(dn ha).1⟩⟩;have e1:bc b (a:Int) 8=.ok c.gain.toNat n1:=(ca (s:=8) o_).2 ⟨o_,k1⟩;have e2:(if q then R.ok c.info n1 else mt b n1 r)=.ok c.info n2:=by
  cases q with
  | true=>rw[ac rfl]at k2⊢;rw[(dT.1 k2).1]
  | false=>rw[aa s_]at k2⊢;exact(NL hr).2 ⟨h.info,k2⟩
 have e3:uV b c.info (n2:Int)=.ok c.sects n3:=(XE hm11 (dn k3).1).2 ⟨h.sects,k3⟩;have e4:yZ b c.sects (n3:Int) (c.gain.toNat:Int)=.ok c.steps n4:=by
  rw[show ((c.gain.toNat:Nat):Int)=c.gain by omega];exact(ack (dn k4).1 (fun l hl=>abg (h.sects.2 l hl)) hg.1).2 ⟨h.steps,k4⟩
 have e6:=anq hc h hr (dn k6).1 k6;have hm:¬ (q=true∧¬ c.info.may r):=fun hh=>hh.2 h.info
 unfold Ci Cq;rw[e0,ay,aa hm,e1,ay,e2,ay,e3,ay,e4,ay]
 cases hF:oB c.tns with
 | true =>
  rw[hF]at k5;simp only[bf]at k5;obtain⟨m1,j1,k5⟩:=aX (X:=[0]) |>.1 k5;obtain⟨m2,j2,k5⟩:=aX (X:=[1]) |>.1 k5;obtain⟨m3,j3,j4⟩:=aX.1 k5;have e5:=(akn (dn j3).1).2 ⟨h.tns,j3⟩;rw[TB o_ j1,ay,TB o_ j2,ay,ac rfl,e5,ay,TB o_ j4,ay,ay,e6,ay,ac ⟨rfl,fun _=>hF⟩];rfl
 | false =>
  rw[hF]at k5;simp only[ao,bh]at k5;obtain⟨m1,j1,k5⟩:=aX (X:=[0]) |>.1 k5;obtain⟨m2,j2,j4⟩:=aX (X:=[0]) |>.1 k5;have ht:=aqV h.tns.1 hF;rw[TB o_ j1,ay,TB o_ j2,ay,aa o_,ay,TB o_ j4,ay,ay,e6,ay,ac ⟨rfl,fun hh=>absurd hh s_⟩,<-ht];rfl
abbrev apart (p q:Nat×Nat):Prop:=p.2+bH p.1<=q.2∨q.2+bH q.1<=p.2
structure OsW (os:C_) (W:Nat):Prop where
 up:∀ j,j+1<os.length->nth os j<nth os (j+1)∧(nth os (j+1)-nth os j) % 4=0
 win:∀ w w',w<W->w'<W->w≠w'->∀ j,j+1<os.length->nth os (j+1)<=32
def at9 {os:C_}{W:Nat}(h:OsW os W):∀ {k b:Nat},b+1+k<os.length->nth os (b+1)<=nth os (b+1+k)
 | 0,b,_=>ai _
 | k+1,b,hk=>by
  have:=at9 h (k:=k) (b:=b) o_;have h2:=(h.up (b+1+k) o_).1;rw[show b+1+(k+1)=b+1+k+1 by omega];omega
def aqB (os:C_) (w b d y:Nat):Prop:=(w*32+nth os b<=y∧y+d<=w*32+nth os (b+1))∧b+1<os.length
def Fn {os:C_}{W:Nat}(h:OsW os W) {d b k w y:Nat}(hd:d=4∨d=2) (hb:b+1<os.length) (hy:y∈qJ os d b k w):∃ w',w<=w'∧w'<w+k∧aqB os w' b d y:=by
 obtain⟨w',x,h1,h2,h3,rfl⟩:=aaA hy;have hu:=h.up b hb;have:=MB (d:=d) o_ (by rcases hd with e | e<;>rw[e]<;>omega) h3;exact⟨w',h1,h2,⟨o_,o_⟩,hb⟩
def Jz {os:C_}{W:Nat}(h:OsW os W) {w b d y w' b' d' y':Nat}(hw:w<W) (hw':w'<W) (h1:aqB os w b d y) (h2:aqB os w' b' d' y') (hne:w≠w'∨b<b'):y+d<=y'∨y'+d'<=y:=by
 obtain⟨⟨a1,a2⟩,a3⟩:=h1;obtain⟨⟨c1,c2⟩,c3⟩:=h2;by_cases e:w=w'
 .have hb:b<b':=by rcases hne with h | h;exact absurd e h;exact h
  have:=at9 h (k:=b'-(b+1)) (b:=b) o_;rw[show b+1+(b'-(b+1))=b' by omega]at this;left;subst e;omega
 .have k1:=h.win w w' hw hw' e b a3;have k2:=h.win w w' hw hw' e b' c3;omega
def aoP {d hi:Nat}:∀ {f lo:Nat},(∀ y∈sc d hi f lo,lo<=y)∧(sc d hi f lo).Pairwise fun x y=>x+d<=y
 | 0,lo=>⟨by simp[sc],by simp[sc]⟩
 | f+1,lo=>by
  obtain⟨h1,h2⟩:=aoP (d:=d) (hi:=hi) (f:=f) (lo:=lo+d);rw[sc];by_cases h:lo<hi
  .rw[ac h];refine⟨fun y hy=>?_,bR.2 ⟨fun y hy=>h1 y hy,h2⟩⟩;rcases az.1 hy with rfl | hy
   .exact ai _
   .have:=h1 y hy;omega
  .rw[aa h];exact⟨s_,s_⟩
abbrev apD (d:Nat) (x y:Nat):Prop:=x+d<=y∨y+d<=x
def aqo {os:C_}{W:Nat}(h:OsW os W) {d b:Nat}(hd:d=4∨d=2) (hb:b+1<os.length):∀ {k w:Nat},w+k<=W->(qJ os d b k w).Pairwise (apD d)
 | 0,w,_=>by simp[qJ]
 | k+1,w,hk=>by
  rw[qJ,dg];refine⟨?_,aqo h hd hb o_,fun x hx y hy=>?_⟩
  .rw[List.pairwise_map];exact(aoP.2).imp fun {a c} hac=>.inl (by omega)
  .obtain⟨w2,e1,e2,e3⟩:=Fn h hd hb hy;have hx':x∈qJ os d b 1 w:=by
    rw[qJ,be];exact .inl hx
   obtain⟨w1,e4,e5,e6⟩:=Fn h hd hb hx';exact Jz h o_ o_ e6 e3 (.inl o_)
def aoF {os:C_}{W:Nat}(h:OsW os W) {d n first:Nat}(hd:d=4∨d=2) (hw:first+n<=W):∀ {k b:Nat},b+k<os.length->(zn os d n first k b).Pairwise (apD d)
 | 0,b,_=>by simp[zn]
 | k+1,b,hk=>by
  rw[zn,dg];refine⟨aqo h hd o_ hw,aoF h hd hw o_,fun x hx y hy=>?_⟩;obtain⟨w1,e4,e5,e6⟩:=Fn h hd o_ hx;obtain⟨b',c1,c2,c3⟩:=SO hy;obtain⟨w2,e1,e2,e3⟩:=Fn h hd o_ c3;exact Jz h o_ o_ e6 e3 (.inr o_)
def Ey (id:Nat):bH id=4∨bH id=2:=by unfold bH;split<;>simp
def ao2 {os:C_}{W:Nat}(h:OsW os W) {n first:Nat}(hw:first+n<=W):∀ {r:P_}{b:Nat}{lf:Int},fitsS lf r->(b:Int)+lf<os.length->(AD os n first r b).Pairwise apart
 | [],b,lf,_,_=>by simp[AD]
 | s::r,b,lf,hf,hb=>by
  obtain⟨⟨⟨l1,l2⟩,b1,b2⟩,hf2⟩:=hf;rw[AD,dg];refine⟨?_,ao2 h hw hf2 o_,fun x hx y hy=>?_⟩
  .by_cases h0:s.book=0∨s.book=13
   .rw[ac h0];simp
   .rw[aa h0,List.pairwise_map];exact aoF h (Ey _) hw (by omega)
  .by_cases h0:s.book=0∨s.book=13
   .rw[ac h0]at hx;simp at hx
   .rw[aa h0]at hx;obtain⟨x',hx',rfl⟩:=dj.1 hx;obtain⟨b',c1,c2,c3⟩:=SO hx';obtain⟨w1,e4,e5,e6⟩:=Fn h (Ey _) o_ c3;obtain⟨j,f1,f2,f3⟩:=S4 hf2 hy;have hj:(j:Int)<lf-s.len:=by
     have h1:=(aI.1 f1).1;have:∀ {l:P_}{m:Int},fitsS m l->((aK l).length:Int)=m:=by
      intro l
      induction l with
      | nil=>intro m hm;rw[show m=0 from hm];simp[aK]
      | cons q l ih =>
       intro m hm;have eb:aK (q::l)=List.replicate q.len.toNat q.book++aK l:=by rw[aK,aH];rfl
       have:=ih hm.2;have hq:=hm.1.1.1;rw[eb,al,bi];omega
     have:=this hf2;omega
    obtain⟨w2,e1,e2,e3⟩:=Fn h (Ey _) o_ f3;exact Jz h o_ o_ e6 e3 (.inr o_)
def Fq:∀ {l:P_}{m:Int},fitsS m l->((aK l).length:Int)=m
 | [],m,h=>by rw[show m=0 from h];simp[aK]
 | q::l,m,hm=>by
  have eb:aK (q::l)=List.replicate q.len.toNat q.book++aK l:=by rw[aK,aH];rfl
  have:=Fq hm.2;have hq:=hm.1.1.1;rw[eb,al,bi];omega
def aoW {os:C_}{W:Nat}(h:OsW os W) {m:Int}(hm:m<os.length):∀ {r:H_}{q:G_}{first:Nat},fq m r->(∀ n∈q,1<=n)->(first:Int)+q.sum<=W->(qn os r q first).Pairwise apart
 | [],q,first,_,_,_=>by simp[qn]
 | l::r,[],first,_,_,_=>by simp[qn]
 | l::r,n::q,first,hf,hq,hW=>by
  have hn:=hq n (.head _);have hq2:∀ n∈q,1<=n:=fun x hx=>hq x (.tail _ hx)
  have hqs:0<=q.sum:=by have:=mE hq2;omega
  have hl:=hf l (.head _);rw[kD]at hW;rw[qn,dg];refine⟨ao2 h o_ hl o_,aoW h hm (fun x hx=>hf x (.tail _ hx)) hq2 o_,fun x hx y hy=>?_⟩;obtain⟨j,f1,f2,f3⟩:=S4 hl hx;have hj:=(aI.1 f1).1;have hjl:=Fq hl;obtain⟨w1,e4,e5,e6⟩:=Fn h (Ey _) o_ f3;obtain⟨w,g,j2,l2,g1,g2,g3,g4,g5,g6,z,g7,g8⟩:=My (fun x hx=>hf x (.tail _ hx)) hq2 hy;have hj2:=(aI.1 g5).1;have hjl2:=Fq (hf l2 (.tail _ (eE g1)));have hy2:y.2∈qJ os (bH y.1) j2 1 w:=by rw[g8];exact afT (ai _) o_ g7
  obtain⟨w2,e1,e2,e3⟩:=Fn h (Ey _) o_ hy2;exact Jz h o_ o_ e6 e3 (.inl o_)
def aoo {r:Nat}(hr:r<=11) (i:aL):OsW (offs r i.short) i.many:=by
 obtain⟨p1,p2,p3⟩:=nT (r,i.short) (fp o_);simp only at p1 p2 p3;obtain⟨w1,w2⟩:=Hh i;refine⟨fun j hj=>?_,fun w w' h1 h2 h3 j hj=>?_⟩
 .have:=bG.1 p1 j (dR.2 o_);simpa using this
 .have:=bG.1 p3 _ (jg hj);simp only[decide_eq_true_eq]at this;omega
def asq {r:Nat}(hr:r<=11) {j:aL}{S:H_}(hm:j.may r) (hS:jF j S):(MQ r j S).Pairwise apart:=by
 obtain⟨g1,g2⟩:=dG (gh hr hm);have hmx:=hm.2.2.2.1;have hmy:qO r (decide (j.seq=2))=(offs r j.short).length-1:=rfl;obtain⟨o1,o2,o3,o4⟩:=AE (r,j.short) (fp o_);simp only at o4;exact aoW (aoo hr j) (m:=j.max) o_ hS.2 (fun n hn=>(g1 n hn).1) (by omega)
def YH {b:C_}:∀ {pl:R_}{n m:Nat}{Z Z2:G_},n<=b.length->Z.length=256->(∀ p∈pl,(1<=p.1∧p.1<=11)∧p.2+bH p.1<=256)->pl.Pairwise apart->ko b pl n Z=.ok Z2 m->
  Z2.length=256∧At b n m (pl.flatMap fun p=>zX p.1 (cut Z2 p))∧(∀ p∈pl,OJ p.1 (cut Z2 p))∧∀ i,(∀ p∈pl,¬ (p.2<=i∧i<p.2+bH p.1))->Z2[i]?=Z[i]?
 | [],n,m,Z,Z2,hn,hz,hp,hw,h=>by
  rw[ko]at h;injection h with e1 e2
  subst e1 e2;exact⟨hz,dT.2 ⟨rfl,hn⟩,s_,fun i _=>rfl⟩
 | p::r,n,m,Z,Z2,hn,hz,hp,hw,h=>by
  rw[ko]at h;obtain⟨l,k,h1,h2⟩:=aS.1 h;obtain⟨p1,p2⟩:=hp p (.head _);obtain⟨w1,w2⟩:=bR.1 hw;obtain⟨g1,g2⟩:=(af4 p1).1 h1;have hll:=g1.1;obtain⟨i1,i2,i3,i4⟩:=YH (dn g2).2.1 (by rw[WB o_];exact hz) (fun q hq=>hp q (.tail _ hq)) w2 h2;have hcut:cut Z2 p=l:=by
   apply dF;intro i;by_cases hi:i<bH p.1
   .rw[SE hi,i4 (p.2+i) (fun q hq hh=>by
     have:=w1 q hq;have:=hp q (.tail _ hq);omega),SC o_,ac o_]
    congr 1
    omega
   .have:=ak7 (Z:=Z2) (p:=p) o_;rw[gP o_,gP o_]
  refine⟨i1,?_,fun q hq=>?_,fun i hi=>?_⟩
  .rw[aH,hcut];exact aX.2 ⟨k,g2,i2⟩
  .rcases az.1 hq with rfl | hq
   .rw[hcut];exact g1
   .exact i3 q hq
  .have:=hi p (.head _);rw[i4 i (fun q hq=>hi q (.tail _ hq)),SC o_,aa o_]
def acR {tl:C_}{bks:G_}:∀ {ls:G_}{i:Nat},(∀ j v,ls[j]?=some v->MX tl bks (i+j) v)->xe tl bks i ls
 | [],i,_=>trivial
 | u::r,i,h=>⟨h 0 u rfl,acR fun j v hv=>by
   have:=h (j+1) v (by simpa using hv)
   rwa [show i+(j+1)=i+1+j by omega]at this⟩
def abU {r:Nat}{c:cu}:∀ {k w:Nat},(∀ w',w<=w'->w'<w+k->xe ((offs r c.info.short).drop 1) (aK (xg c w')) 0 (yw c w'))->IJ r c k w
 | 0,w,_=>trivial
 | k+1,w,h=>⟨h w (ai _) o_,abU fun w' h1 h2=>h w' o_ o_⟩
def an8 {b:C_}{r:Nat}{c:cu}(hr:r<=11) (hm:c.info.may r) (hS:jF c.info c.sects) {n m:Nat}(hn:n<=b.length) (h:ko b (MQ r c.info c.sects) n Z0=.ok c.lines m):SR r c∧At b n m (nf r c)∧∀ v∈c.lines,i64 v:=by
 have hm11:=gh hr hm;obtain⟨g1,g2⟩:=dG hm11;obtain⟨i1,i2,i3,i4⟩:=YH hn (by rw[bi]) (fun p hp=>Wf hm hS hr hp) (asq hr hm hS) h;obtain⟨hw1,hw⟩:=Hh c.info;have key:∀ i v,c.lines[i]?=some v->v=0∨∃ p∈MQ r c.info c.sects,(p.2<=i∧i<p.2+bH p.1)∧v.natAbs<=gv p.1:=by
  intro i v hv;by_cases hp:∃ p∈MQ r c.info c.sects,p.2<=i∧i<p.2+bH p.1
  .obtain⟨p,h1,h2,h3⟩:=hp;refine .inr ⟨p,h1,⟨h2,h3⟩,(i3 p h1).2 v ?_⟩;refine eE (i:=i-p.2) ?_;rw[SE o_,<-hv]
   congr 1
   omega
  .left;have:=i4 i (fun p hp2 hh=>hp ⟨p,hp2,hh⟩);rw[hv]at this;have hi:=(aI.1 hv).1;rw[je,ac o_]at this;injection this
 refine⟨⟨i1,abU fun w _ hwm=>acR fun x v hv=>?_⟩,i2,fun v hv=>?_⟩
 .rw[bz]at hwm⊢;have hx:x<c.info.wide:=by
   have:=(aI.1 hv).1;rw[yw,di]at this;omega
  rw[yw,jk,ac hx,b6]at hv;rcases key _ _ hv with h0 | ⟨p,hp,⟨q1,q2⟩,q3⟩
  .exact .inl h0
  .right;obtain⟨w',g,j,l,e1,e2,e3,e4,e5,e6,y,e7,e8⟩:=My hS.2 (fun n hn=>(g1 n hn).1) hp;obtain⟨p1,p2,p3⟩:=nT (r,c.info.short) (fp o_);simp only at p1 p2 p3;have hl:=hS.2 l (eE e1);have hbs:=Fq hl;have hjl:=(aI.1 e5).1;have hmx:=hm.2.2.2.1;have hmy:qO r (decide (c.info.seq=2))=(offs r c.info.short).length-1:=rfl;have hj1:j+1<(offs r c.info.short).length:=o_;have hU:=aoo hr c.info;have hu:=hU.up j hj1;have hxf:=MB (d:=bH p.1) (by rcases Ey p.1 with h | h<;>omega) (by rcases Ey p.1 with h | h<;>rw[h]<;>omega) e7;have ho:nth (offs r c.info.short) (j+1)<=c.info.wide:=by
    have:=bG.1 p3 _ (jg hj1);simp only[decide_eq_true_eq]at this
    rwa [hw1]at this
   have hww:w'=w∧nth (offs r c.info.short) j<=x∧x<nth (offs r c.info.short) (j+1):=by
    rcases hw with ⟨a1,a2⟩ | ⟨a1,a2⟩<;>rw[a1]at q1 q2 ho hx<;>omega
   obtain⟨rfl,c1,c2⟩:=hww;have hba:=ahO (i:=x) (fun j hj=>(hU.up j hj).1) hj1 c1 c2;have hsa:xg c w'=l:=by
    rw[xg,ke,show kO c.info.groups (w':Int)=g by rw[<-e4];congr 1,e1];rfl
   exact⟨p.1,by rw[hba,hsa,e5],o_,by simpa using q3⟩
 .obtain⟨i,hi,e⟩:=ie.1 hv;rcases key i v (by rw[bE hi,e]) with h0 | ⟨p,hp,_,q3⟩
  .omega
  .have:=agU (Wf hm hS hr hp).1;omega
end Go.Vm
end
