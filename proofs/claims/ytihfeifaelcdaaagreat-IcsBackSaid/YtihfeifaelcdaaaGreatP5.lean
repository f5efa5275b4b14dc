import Derived.Test.YtihfeifaelcdaaaGreatP4
set_option linter.unusedVariables false
set_option linter.unusedSimpArgs false
noncomputable section
namespace Go.Vm
set_option maxRecDepth 100000
set_option maxHeartbeats 4000000
@[simp] theorem aE0 {sh:Bool}:(iD sh)[0]?=some (.d (.int .i64 (b9 sh:Int))):=by cases sh<;>rfl
@[simp] theorem aEP {sh:Bool}:(iD sh)[1]?=some (.d (.int .i64 (aL sh:Int))):=by cases sh<;>rfl
@[simp] theorem aFd {sh:Bool}:(iD sh)[2]?=some (.d (.int .i64 (aJ sh:Int))):=by cases sh<;>rfl
@[simp] theorem aAo {sh:Bool}:(iD sh).map kY=iD sh:=by cases sh<;>rfl
theorem te {hp:AV→ac}{p N:Nat}(H:Hv hp p) {b:List Nat}(hb:b.length≤900000000) (n:Int) (s:Nat) (hs:s≤31) (h0:0≤n) (h1:n.toNat<2 ^ s) (m:Nat) (hm:m=n.toNat) (sI:Int) (es:sI=s) :
  (Dn prog).call iI [.d (.int .i64 n),.d (.int .i64 sI),.ptr p 0] ⟨hp (.own false 1 (af b)),N⟩=some (.tup [],⟨hp (.own false 1 (af (b++aj m s))),N⟩):=by
 have h31:2 ^ s≤2 ^ 31:=Nat.pow_le_pow_right (by omega) hs;have h:=aeP H (N:=N) hb n s hs (by omega) sI es
 simp_all [Int.emod_eq_of_lt]
abbrev ayf (sh:Bool) (N:Nat) (f:aR) (v:AV):ac:=[(0,.cells [v]),(2,.cells (iD sh)),(N,.cells f.av)]
theorem aia (sh:Bool) (N:Nat) (hN:3≤N) (f:aR):Hv (ayf sh N f) 0:=⟨fun v=>by simp,fun v w=>by simp⟩
theorem Q9 (f:aR):1≤mA f∧cN f.fine≤4∧3≤cN f.fine∧bL (cV f)≤1:=by
 grind [mA,cN,bL]
theorem ayB (sh:Bool) (full:List (List aR)) (i:Int) (l:List aR) (hl:l.length≤100) (k N:Nat) (hN:3≤N) (f:aR) (r:List aR) (hd:l.drop k=f::r) (hf:uK sh f) (hcI:∀ c∈f.coefs,i64 c) (b:List Nat) (hb:b.length≤800000000) :
  (Dn prog).code jF ⟨TU full i [(52,.d (.lst (b7 l))),(53,.d (.int .i64 l.length)),(54,.d (.int .i64 k))],⟨Q0 sh (.own false 1 (af b)),N⟩⟩ =
  some (.normal,⟨TU full i [(52,.d (.lst (b7 l))),(53,.d (.int .i64 l.length)),(54,.d (.int .i64 ((k+1:Nat):Int)))],⟨Q0 sh (.own false 1 (af (b++lj sh f))),N+1⟩⟩):=by
 have hg:=rW hd;have hlt:=aU hd;obtain⟨⟨l1,l2⟩,⟨o1,o2⟩,c1,d1,c2⟩:=hf;have hlw:uh sh<2 ^ aL sh∧aL sh≤6∧qg sh<2 ^ aJ sh∧aJ sh≤5∧qg sh≤12:=by cases sh<;>decide
 obtain⟨w1,w2,w3,w4,w5⟩:=hlw;have wN1:((2 ^ aL sh:Nat):Int)=2 ^ aL sh:=by simp
 have wN2:((2 ^ aJ sh:Nat):Int)=2 ^ aJ sh:=by simp
 have p1:=te (aia sh N hN f) (N:=N+1) (b:=b) (by omega) f.len (aL sh) (by omega) l1 (by omega) f.len.toNat rfl (aL sh) rfl;have p2:=te (aia sh N hN f) (N:=N+1) (b:=b++aj f.len.toNat (aL sh)) (by simp;omega) f.order (aJ sh) (by omega) o1 (by omega) f.order.toNat rfl (aJ sh) rfl;have n0:N≠0∧N≠1∧N≠2:=by omega
 obtain⟨n0,n1,n2⟩:=n0;have c9:((k+1:Nat):Int)=(k:Int)+1:=rfl;rw[c9,jF.eq_1];by_cases h0:f.order=0
 ·have e:b++lj sh f=b++aj f.len.toNat (aL sh)++aj f.order.toNat (aJ sh):=by grind [lj]
  rw[e];generalize b++aj f.len.toNat (aL sh)++aj f.order.toNat (aJ sh)=B2 at *;generalize b++aj f.len.toNat (aL sh)=B1 at *;simp only[ayf,aR.av]at p1 p2;simp (disch:=omega) [↓if_pos,↓if_neg,hg,p1,p2]
 ·have hw:=Ct f.fine;obtain⟨q1,q2,q3,q4⟩:=Q9 f;have hcl:f.coefs.length≤100:=by omega
  have hft:=Eu f.coefs (by omega) (cN f.fine-1) (by omega);have hh:((2 ^ (cN f.fine-1-1):Nat):Int)=bI f.fine / 2:=by unfold cN bI;grind
  have hwI:(if f.fine=true then (4:Int) else 3)=(cN f.fine:Int):=by grind [cN]
  have hwS:((cN f.fine-1:Nat):Int)=(cN f.fine:Int)-1:=by omega
  have hnr:decide (∀ c∈f.coefs,-(bI f.fine / 2)≤c∧c<bI f.fine / 2)=cV f:=rfl;rw[hh,hnr,hwS]at hft;rw[hwI]at hw;have hb1:=xw f.down;have hb2:=xw (cV f);have e1:(if f.down=true then (1:Int) else 0)=(bL f.down:Int):=by cases f.down<;>rfl
  have e2:(if cV f=true then (1:Int) else 0)=(bL (cV f):Int):=by cases cV f<;>rfl
  rw[e1]at hb1;rw[e2]at hb2;have hbd:bL f.down≤1:=by omega
  have p3:=te (aia sh N hN f) (N:=N+1) (b:=b++aj f.len.toNat (aL sh)++aj f.order.toNat (aJ sh)) (by simp;omega) (bL f.down) 1 (by omega) (by omega) (by omega) (bL f.down) (by simp) 1 rfl;have p4:=te (aia sh N hN f) (N:=N+1) (b:=b++aj f.len.toNat (aL sh)++aj f.order.toNat (aJ sh)++aj (bL f.down) 1) (by simp;omega) (bL (cV f)) 1 (by omega) (by omega) (by omega) (bL (cV f)) (by simp) 1 rfl;have p5:=azy sh full i l k (cV f) (cN f.fine) (by omega) f.coefs hcl hcI (N+1) f.coefs 0 (b++aj f.len.toNat (aL sh)++aj f.order.toNat (aJ sh)++aj (bL f.down) 1++aj (bL (cV f)) 1) rfl (by simp;omega);have c0:((0:Nat):Int)=0:=rfl;have hlc:=fE (l:=f.coefs);have e:b++lj sh f=b++aj f.len.toNat (aL sh)++aj f.order.toNat (aJ sh)++aj (bL f.down) 1++aj (bL (cV f)) 1++kA (cN f.fine-bL (cV f)) f.coefs:=by
   rw[lj,if_neg h0];simp only[List.append_assoc];rfl
  rw[c0]at p5;rw[e];generalize b++aj f.len.toNat (aL sh)++aj f.order.toNat (aJ sh)++aj (bL f.down) 1++aj (bL (cV f)) 1=B4 at *;generalize b++aj f.len.toNat (aL sh)++aj f.order.toNat (aJ sh)=B2 at *;simp (disch:=omega) [↓if_pos,↓if_neg,hg,p1,p2,p3,p4,p5,hw,hft,hb1,hb2,hlc]
theorem ali {sh:Bool}{f:aR}(hf:uK sh f):(lj sh f).length≤100:=by
 obtain⟨⟨l1,l2⟩,⟨o1,o2⟩,c1,d1,c2⟩:=hf;have hlw:aL sh≤6∧aJ sh≤5∧qg sh≤12:=by cases sh<;>decide
 obtain⟨q1,q2,q3,q4⟩:=Q9 f;have hcw:mA f≤4:=by unfold mA;omega
 have h1:mA f*f.coefs.length≤4*f.coefs.length:=Nat.mul_le_mul_right _ hcw
 grind [lj,d8,Va]
theorem aqj (sh:Bool) (full:List (List aR)) (i:Int) (l:List aR) (hl:l.length≤100):∀ (r:List aR) (k N:Nat) (b:List Nat),l.drop k=r→3≤N→(∀ f∈r,uK sh f∧∀ c∈f.coefs,i64 c)→b.length+100*r.length≤800000000→
  ∃ M,3≤M∧(Dn prog).code (.loop jF) ⟨TU full i [(52,.d (.lst (b7 l))),(53,.d (.int .i64 l.length)),(54,.d (.int .i64 k))],⟨Q0 sh (.own false 1 (af b)),N⟩⟩ =
  some (.exit 2,⟨TU full i [],⟨Q0 sh (.own false 1 (af (b++r.flatMap (lj sh)))),M⟩⟩):=by
 intro r
 induction r with
 | nil =>
  intro k N b hd hN hr hb;have hi:=aK hd;refine⟨N,hN,?_⟩;rw[aa jF.eq_1,List.flatMap_nil,List.append_nil];simp (disch:=omega) [↓if_neg]
 | cons f r ih =>
  intro k N b hd hN hr hb;obtain⟨h1,h2⟩:=hr f (.head _);have h3:=ali h1;obtain⟨M,hM,e⟩:=ih (k+1) (N+1) (b++lj sh f) (aP hd) (by omega) (fun q hq=>hr q (.tail _ hq)) (by grind)
  grind [aa,ayB,Gj]
theorem abC {sh:Bool}{l:List aR}(h:mw sh l):(rY sh l).length≤1000:=by
 have hm:kJ sh≤3∧b9 sh≤2:=by cases sh<;>decide
 have h1:=h.1;unfold rY;rw[List.length_append,d8]
 cases l with
 | nil=>grind
 | cons f0 r =>
  have h2:=h.2 f0 (by simp);have:∀ q:List aR,(∀ f∈q,uK sh f)→(q.flatMap (lj sh)).length≤100*q.length:=by
   intro q
   induction q<;>grind [ali]
  grind [d8]
theorem ayg (i:am) (full:List (List aR)) (hl:full.length≤1000):∀ (r:List (List aR)) (j N:Nat) (b:List Nat),full.drop j=r→3≤N→(∀ l∈r,mw i.short l∧∀ f∈l,∀ c∈f.coefs,i64 c)→b.length+1000*r.length≤700000000→
  ∃ M,(Dn prog).code (.loop jX) ⟨TU full j [],⟨Q0 i.short (.own false 1 (af b)),N⟩⟩ =
  some (.exit 0,⟨[(3,.ptr 0 0)],⟨[(0,.cells [.own false 1 (af (b++fL i.short r))])],M⟩⟩):=by
 intro r
 induction r with
 | nil =>
  intro j N b hd hN hr hb;have hi:=aK hd;refine⟨N,?_⟩;rw[aa jX.eq_1,fL,List.flatMap_nil,List.append_nil];simp (disch:=omega) [↓if_neg]
 | cons l r ih =>
  intro j N b hd hN hr hb;simp only[List.length_cons]at hb;have hg:=lT hd;have hlt:=aU hd;obtain⟨h1,h2⟩:=hr l (.head _);have hwl:=abC h1;have hm:kJ i.short≤3∧b9 i.short≤2∧kJ i.short<2 ^ b9 i.short:=by cases i.short<;>decide
  obtain⟨m1,m2,m3⟩:=hm;have hll:=h1.1;have p1:=te (asG i.short) (N:=N) (b:=b) (by omega) l.length (b9 i.short) (by omega) (by omega) (by omega) l.length (by simp) (b9 i.short) rfl;have c1:((j+1:Nat):Int)=(j:Int)+1:=rfl;have c0:((0:Nat):Int)=0:=rfl
  cases l with
  | nil =>
   have eb:rY i.short []=aj 0 (b9 i.short):=by simp[rY]
   obtain⟨M2,hM2,p2⟩:=aqj i.short full j [] (by simp) [] 0 N (b++rY i.short []) rfl hN (by simp) (by grind);obtain⟨M,e⟩:=ih (j+1) M2 (b++rY i.short []) (aP hd) hM2 (fun q hq=>hr q (.tail _ hq)) (by grind);refine⟨M,?_⟩;have ea:b++fL i.short ([]::r)=b++rY i.short []++fL i.short r:=by grind [fL]
   rw[eb]at ea e p2;simp only[List.length_nil,List.flatMap_nil,List.append_nil]at p1 p2;rw[c1]at e;rw[c0]at p1 p2;have n0:b7 []=[]:=rfl;rw[n0]at hg p2;rw[ea];generalize b++aj 0 (b9 i.short)++fL i.short r=BB at *;generalize b++aj 0 (b9 i.short)=B1 at *;simp only[Q0]at p1 p2 e⊢;rw[←e,aa jX.eq_1];simp (disch:=omega) [↓if_pos,↓if_neg,hg,p1,p2]
  | cons f0 r0 =>
   have hgf:=rW (l:=f0::r0) (i:=0) (s:=f0) (r:=r0) rfl;have hb1:=xw f0.fine;have e1:(if f0.fine=true then (1:Int) else 0)=(bL f0.fine:Int):=by cases f0.fine<;>rfl
   rw[e1]at hb1;have hbd:bL f0.fine≤1:=by omega
   have hok:∀ f∈f0::r0,uK i.short f∧∀ c∈f.coefs,i64 c:=fun f hf=>⟨(h1.2 f0 (by simp) f hf).1,h2 f hf⟩
   have p2:=te (asG i.short) (N:=N) (b:=b++aj (f0::r0).length (b9 i.short)) (by simp;omega) (bL f0.fine) 1 (by omega) (by omega) (by omega) (bL f0.fine) (by simp) 1 rfl;obtain⟨M2,hM2,p3⟩:=aqj i.short full j (f0::r0) (by omega) (f0::r0) 0 N (b++aj (f0::r0).length (b9 i.short)++aj (bL f0.fine) 1) rfl hN hok (by grind [d8]);have eb:b++aj (f0::r0).length (b9 i.short)++aj (bL f0.fine) 1++(f0::r0).flatMap (lj i.short)=b++rY i.short (f0::r0):=by grind [rY]
   obtain⟨M,e⟩:=ih (j+1) M2 (b++rY i.short (f0::r0)) (aP hd) hM2 (fun q hq=>hr q (.tail _ hq)) (by grind);refine⟨M,?_⟩;have ea:b++fL i.short ((f0::r0)::r)=b++rY i.short (f0::r0)++fL i.short r:=by grind [fL]
   have hll2:1≤(f0::r0).length:=by simp
   rw[eb]at p3;rw[c1]at e;rw[c0]at p3;rw[ea];generalize b++aj (f0::r0).length (b9 i.short)++aj (bL f0.fine) 1=B2 at *;generalize hLL:(f0::r0).length=LL at *;have hfl:(b7 (f0::r0)).length=LL:=by simp_all
   obtain⟨hgl,hge⟩:=List.getElem?_eq_some_iff.1 hgf;rw[←e,aa jX.eq_1];simp (disch:=omega) [↓if_pos,↓if_neg,hg,hge,hfl,hb1,p1,p2,p3]
theorem alq (i:am) (f0:aR) (l:List aR) (f:aR) (hf:uK i.short f∧f.fine=f0.fine) (H:ac) (p q M:Nat) (hp:get H p=some (.cells i.cells)) (hq:get H q=some (.cells [.d (.lst (b7 (f0::l)))])) (hl:(f0::l).length≤1000000) (hM:Lt H M) :
  (Dn prog).call jk [.agg f.av,.ptr p 0,.ptr q 0] ⟨H,M⟩=some (.d (.bool false),⟨H,M+1⟩):=by
 have e1:=fun o=>pJ (o:=o) hM
 have e2:=fun o=>tk (o:=o) hM
 have e3:=fun o=>wh (N:=M) (o:=o) hp
 have e4:=fun o=>wh (N:=M) (o:=o) hq
 have e5:=fun o=>No (o:=o) hM
 have e6:=ahd i f hf.1;have hfn:=hf.2;have hg:=rW (l:=f0::l) (i:=0) (s:=f0) (r:=l) rfl;rw[aD OW qi.eq_1 rfl];simp only[aR.av,am.cells]at e3 e6⊢
 cases hf2:f0.fine<;>rw[hf2]at hg hfn<;>rw[hfn]at e6⊢<;>
  simp (disch:=omega) [e1,e2,e3,e4,e5,e6,hg]
theorem air (i:am) (full:List (List aR)) (hl:full.length≤1000):∀ (r:List (List aR)) (j N:Nat) (H:ac),full.drop j=r→get H 0=some (.cells i.cells)→Lt H N→1≤N→(∀ l∈r,mw i.short l)→
  ∃ H2 M,(Dn prog).code (.loop kK) ⟨[(2,.ptr 0 0),(21,.d (.lst (bi full))),(22,.d (.int .i64 full.length)),(23,.d (.int .i64 j))],⟨H,N⟩⟩=some (.exit 0,⟨[],⟨H2,M⟩⟩):=by
 intro r
 induction r with
 | nil =>
  intro j N H hd hH hL hN hr;have hi:=aK hd;refine⟨H,N,?_⟩;rw[aa kK.eq_1];simp (disch:=omega) [↓if_neg]
 | cons l r ih =>
  intro j N H hd hH hL hN hr;have hg:=lT hd;have hlt:=aU hd;have hW:=hr l (.head _);have hm:kJ i.short≤3:=by cases i.short<;>decide
  have hll:=hW.1;have e1:=fun o=>pJ (o:=o) hL
  have e2:=fun o=>tk (o:=o) hL
  have e3:=fun o=>wh (N:=N) (o:=o) hH
  have e4:=fun o o'=>GM (o:=o) (o':=o') hL
  have hsz:=qN i;have hix:ixV 5 1 false (.agg (iD i.short)) (.d (.int .i64 3))=some (.d (.int .i64 (kJ i.short:Int))):=by cases i.short<;>rfl
  have hcf:∃ M,N+1≤M∧(Dn prog).call bW [.d (.lst (b7 l)),.fn jk [] [.ptr 0 0,.ptr N 0]] ⟨H++[(N,.cells [.d (.lst (b7 l))])],N+1⟩=some (.d (.bool false),⟨H++[(N,.cells [.d (.lst (b7 l))])],M⟩):=by
   have h:=wE (.fn jk [] [.ptr 0 0,.ptr N 0]) (fun _=>false) l (by omega) (H++[(N,.cells [.d (.lst (b7 l))])]) (N+1) rfl rfl fun f hf M hM=>by
    cases l with
    | nil=>simp at hf
    | cons f0 r0 =>
     have:=alq i f0 r0 f (hW.2 f0 (by simp) f hf) (H++[(N,.cells [.d (.lst (b7 (f0::r0)))])]) 0 N M (e3 _) (e2 _) (by omega) (DG (Gb hL) hM)
     simp_all
   grind
  obtain⟨M,hM,e5⟩:=hcf;obtain⟨H2,M2,f2⟩:=ih (j+1) M (H++[(N,.cells [.d (.lst (b7 l))])]) (aP hd) (e3 _) (DG (Gb hL) hM) (by omega) (fun q hq=>hr q (.tail _ hq));refine⟨H2,M2,?_⟩;simp only[am.cells]at e3 hsz;rw[aa kK.eq_1,←f2];simp (disch:=omega) [↓if_pos,↓if_neg,hg,e1,e2,e3,e4,e5,hsz,hix]
theorem agO (i:am) (hi:i.Fit) (hm:i.may 11) (t:List (List aR)) (ht:VB i t):aO prog uw [.agg i.cells,.d (.lst (bi t))]=some (.d (.int .i64 0)):=by
 have hw:=jD i hi;have hmm:i.many≤8:=by grind [am.many]
 obtain⟨H2,M,e⟩:=air i t (by omega) t 0 1 [(0,.cells i.cells)] rfl (by simp) (fun p hp=>by simp_all) (by omega) ht.2;have c0:((0:Nat):Int)=0:=rfl;rw[c0]at e;simp only[am.cells]at hw e;rw[aq Yy uk.eq_1 rfl];simp (disch:=omega) [↓if_pos,hw,e]
theorem alH (b:List Nat) (hb:b.length≤600000000) (x:AV) (hx:x=.d (.lst (af b))∨x=.nl∧b=[]) (i:am) (hi:i.Fit) (hm:i.may 11) (t:List (List aR)) (ht:VB i t) (htI:∀ l∈t,∀ f∈l,∀ c∈f.coefs,i64 c):aO prog zD [x,.agg i.cells,.d (.lst (bi t))] =
  some (.tup [.own true 1 (af (b++fL i.short t)),.d (.int .i64 0)]):=by
 have hc:=agO i hi hm t ht;have hmm:i.many≤8:=by grind [am.many]
 obtain⟨M,e⟩:=ayg i t (by omega) t 0 3 b rfl (by omega) (fun l hl=>⟨ht.2 l hl,htI l hl⟩) (by omega);have hcl:aO prog eq [x]=some (.own true 1 (af b)):=by
  refine GP x b (by omega) ?_;rcases hx with rfl | ⟨rfl,rfl⟩<;>rfl
 have hsz:=qN i;have hl5:(iD i.short).length=5:=by cases i.short<;>rfl
 have hall:(iD i.short).all bM=true:=by cases i.short<;>rfl
 have hfm:(iD i.short).map kY=iD i.short:=by simp_all
 have c0:((0:Nat):Int)=0:=rfl;rw[c0]at e;simp only[am.cells,Q0,TU]at hc e hsz;rw[aq aga yE.eq_1 rfl];rcases hx with rfl | ⟨rfl,rfl⟩
 ·simp (disch:=omega) [↓if_pos,↓if_neg,hc,hcl,hsz,hl5,hall,hfm,e]
 ·simp (disch:=omega) [↓if_pos,↓if_neg,hc,hcl,hsz,hl5,hall,hfm,e]
abbrev HT (b:List Nat) (st:RS) (R:ac):ac:=(0,.cells [.d (.lst (af b))])::(2,.cells [.d (.int .i64 (ra st))])::(3,.cells [.d (.int .i64 (re st))])::R
theorem wt (b:List Nat) (s:Int) (st:RS) (R:ac) (N:Nat) (hb:b.length≤1000000000) (ha:st.fit):(Dn prog).call n9 [.d (.int .i64 s),.ptr 3 0,.ptr 0 0,.ptr 2 0] ⟨HT b st R,N⟩ =
  some (.d (.int .i64 (sV b st s)),⟨HT b (sN b st s) R,N⟩):=by
 rw[aD VH um.eq_1 rfl];obtain⟨a,e⟩:=st;have hf:i64 a:=ha;by_cases he:e=0
 ·subst he;simp (maxSteps:=300000) (disch:=omega) [DM,ra,re,sV,sN]
 ·simp (maxSteps:=300000) (disch:=omega) [ra,re,sV,sN,he]
def K3 (v sz:Nat):Int:=(v:Int)-((v / 2 ^ (sz-1)*2 ^ sz:Nat):Int)
def qa (b:List Nat) (sz:Nat):Nat→RS→List Int
 | 0,_=>[]
 | k+1,st=>K3 (sV b st sz) sz::qa b sz k (sN b st sz)
def oA (b:List Nat) (sz:Nat):Nat→RS→RS
 | 0,st=>st
 | k+1,st=>oA b sz k (sN b st sz)
theorem abp {b:List Nat}{sz:Nat}(hb:b.length≤1000000000):∀ {k:Nat}{st:RS},st.fit→(oA b sz k st).fit
 | 0,_,h=>h
 | _+1,_,h=>by rw[oA];exact abp hb (db hb h)
theorem aaY {b:List Nat}{sz:Nat}:∀ {k:Nat}{st:RS},(qa b sz k st).length=k
 | 0,_=>rfl
 | k+1,st=>by rw[qa,List.length_cons,aaY]
theorem aCP {q s:Nat}(hq:q≤1) (hs:s≤4):c8 .shl (.d (.int .i64 (q:Int))) (.d (.int .i64 (s:Int)))=some (.int .i64 ((q*2 ^ s:Nat):Int)):=by
 have h:∀ q:Nat,q≤1→∀ s:Nat,s≤4→c8 .shl (.d (.int .i64 (q:Int))) (.d (.int .i64 (s:Int)))=some (.int .i64 ((q*2 ^ s:Nat):Int)):=by
  intro q hq s hs;obtain rfl | rfl:q=0∨q=1:=by omega
  all_goals
   obtain rfl | rfl | rfl | rfl | rfl:s=0∨s=1∨s=2∨s=3∨s=4:=by omega
   all_goals rfl
 exact h q hq s hs
abbrev Lg:AV:=.fn n9 [] [.ptr 3 0,.ptr 0 0,.ptr 2 0]
theorem av1 (b:List Nat) (hb:b.length≤1000000000) (SZ:Obj) (a0 a1 a2 a3 x6 x13:AV) (y12 y15 y32 y33 y46 y47:D) (nar:Int) (sz ord N M:Nat) (hsz:2≤sz∧sz≤4) (ho:ord≤100) (hN:5≤N):∀ (k j:Nat) (st:RS) (acc:List Int),j+k=ord→acc.length=j→st.fit→
  (Dn prog).code (.loop mz) ⟨[(6,x6),(7,.ptr 2 0),(8,.ptr 3 0),(10,Lg),(11,.ptr 4 0),(12,.d y12),(13,x13),(15,.d y15),(16,.ptr N 0),(17,.d (.int .i64 nar)),(18,.d (.int .i64 sz)),(32,.d y32),(33,.d y33),(46,.d y46),(47,.d y47),(80,.d (.int .i64 ord)),(81,.d (.int .i64 j))],⟨HT b st [(4,SZ),(N,.cells [a0,a1,a2,a3,ax 1 (ai acc)])],M⟩⟩ =
  some (.exit 4,⟨[(6,x6),(7,.ptr 2 0),(8,.ptr 3 0),(10,Lg),(11,.ptr 4 0),(12,.d y12),(13,x13),(15,.d y15),(16,.ptr N 0),(17,.d (.int .i64 nar)),(18,.d (.int .i64 sz)),(32,.d y32),(33,.d y33),(46,.d y46),(47,.d y47)],⟨HT b (oA b sz k st) [(4,SZ),(N,.cells [a0,a1,a2,a3,ax 1 (ai (acc++qa b sz k st))])],M⟩⟩):=by
 obtain⟨n0,n2,n3,n4⟩:N≠0∧N≠2∧N≠3∧N≠4:=by omega
 intro k
 induction k with
 | zero =>
  intro j st acc h1 h2 h3;rw[aa mz.eq_1,qa,oA,List.append_nil];simp (maxSteps:=300000) (disch:=omega) [↓if_pos,↓if_neg]
 | succ k ih =>
  intro j st acc h1 h2 h3;have hg:=wt b sz st [(4,SZ),(N,.cells [a0,a1,a2,a3,ax 1 (ai acc)])] M hb h3;have hv:=oa (b:=b) (st:=st) (s:=sz);have h5:=ih (j+1) (sN b st sz) (acc++[K3 (sV b st sz) sz]) (by omega) (by simp;omega) (db hb h3);have c1:((j+1:Nat):Int)=(j:Int)+1:=rfl;have c2:((sz-1:Nat):Int)=(sz:Int)-1:=by omega
  have hla:=fE (l:=acc);simp only[Int.toNat_natCast]at hv;have hp:2 ^ (sz-1)*2=2 ^ sz:=by rw[←Nat.pow_succ];congr 1;omega
  have hp0:=Nat.two_pow_pos (sz-1);have hq:sV b st sz / 2 ^ (sz-1)≤1:=by
   have:sV b st sz / 2 ^ (sz-1)<2:=(Nat.div_lt_iff_lt_mul hp0).2 (by omega);omega
  have hp4:2 ^ sz≤2 ^ 4:=Nat.pow_le_pow_right (by omega) hsz.2;have w1:=aoN (n:=sV b st sz) (k:=sz-1) (by omega);have w2:=aCP hq hsz.2;rw[c2]at w1;have hcf:K3 (sV b st sz) sz=(sV b st sz:Int)-((sV b st sz / 2 ^ (sz-1)*2 ^ sz:Nat):Int):=rfl;have hqq:sV b st sz / 2 ^ (sz-1)*2 ^ sz≤16:=by
   have:=Nat.mul_le_mul hq hp4;omega
  rw[c1,List.append_assoc,X8,lY]at h5;simp only[HT]at hg h5⊢;rw[aa mz.eq_1,qa,oA,show acc++K3 (sV b st sz) sz::qa b sz k (sN b st sz)=acc++([K3 (sV b st sz) sz]++qa b sz k (sN b st sz)) from rfl,←h5,hcf];clear h5 ih;generalize sV b st sz / 2 ^ (sz-1)*2 ^ sz=Q2 at *;generalize sV b st sz / 2 ^ (sz-1)=Q at *;simp (maxSteps:=300000) (disch:=omega) [↓if_pos,↓if_neg,n0,n2,n3,n4,hg,-gO,-oW,w1,w2]
def DK (l:List Int) (s:Nat):Bool:=decide (∀ c∈l,-((2 ^ (s-1):Nat):Int)≤c∧c<((2 ^ (s-1):Nat):Int))
def lr (b:List Nat) (x1 x2:Nat) (st:RS):Nat:=sV b (sN b st x1) x2
def qC (b:List Nat) (x1 x2:Nat) (st:RS):RS:=sN b (sN b st x1) x2
def flD (b:List Nat) (x1 x2:Nat) (st:RS):Nat:=sV b (qC b x1 x2 st) 1
def Aa (b:List Nat) (x1 x2:Nat) (st:RS):Nat:=sV b (sN b (qC b x1 x2 st) 1) 1
def JC (b:List Nat) (x1 x2:Nat) (st:RS):RS:=sN b (sN b (qC b x1 x2 st) 1) 1
def Bx (b:List Nat) (x1 x2:Nat) (fine:Bool) (st:RS):Nat:=cN fine-Aa b x1 x2 st
def FC (b:List Nat) (x1 x2:Nat) (fine:Bool) (st:RS):aR :=
 if lr b x1 x2 st=0 then ⟨sV b st x1,0,false,fine,[]⟩
 else ⟨sV b st x1,lr b x1 x2 st,decide (flD b x1 x2 st=1),fine,qa b (Bx b x1 x2 fine st) (lr b x1 x2 st) (JC b x1 x2 st)⟩
def DN (b:List Nat) (x1 x2:Nat) (fine:Bool) (st:RS):Bool :=
 if lr b x1 x2 st=0 then false else decide (Aa b x1 x2 st=0) && DK (qa b (Bx b x1 x2 fine st) (lr b x1 x2 st) (JC b x1 x2 st)) (Bx b x1 x2 fine st-1)
def qd (b:List Nat) (x1 x2:Nat) (fine:Bool) (st:RS):RS :=
 if lr b x1 x2 st=0 then qC b x1 x2 st else oA b (Bx b x1 x2 fine st) (lr b x1 x2 st) (JC b x1 x2 st)
def eQ (b:List Nat) (x1 x2:Nat) (fine:Bool):Nat→Bool→RS→Option (List aR×Bool×RS)
 | 0,o,st=>some ([],o,st)
 | k+1,o,st=>if 12<lr b x1 x2 st∧(qC b x1 x2 st).e=0 then none
  else match eQ b x1 x2 fine k (o || DN b x1 x2 fine st) (qd b x1 x2 fine st) with
   | none=>none
   | some q=>some (FC b x1 x2 fine st::q.1,q.2)
theorem awl {b:List Nat}{x1 x2:Nat}{fine:Bool}{st:RS}(hb:b.length≤1000000000) (h:st.fit):(qd b x1 x2 fine st).fit:=by
 unfold qd;split
 ·exact db hb (db hb h)
 ·exact abp hb (db hb (db hb (db hb (db hb h))))
theorem ay6 {b:List Nat}{st:RS}{s:Int}(h:sV b st s≠0):(sN b st s).e=0:=by
 unfold sV at h
 grind [sN,vO,eO]
abbrev Ro (y0 y3 y4:AV) (x1 x2:Nat):Obj:=.cells [y0,.d (.int .i64 x1),.d (.int .i64 x2),y3,y4]
theorem afc {t:List aR}{f:aR}:b7 (t++[f])=b7 t++[[.int .i64 f.len,.int .i64 f.order,.bool f.down,.bool f.fine,.lst (ai f.coefs)]]:=by grind [b7]
theorem awJ (b:List Nat) (hb:b.length≤1000000000) (y0 y3 y4:AV) (x1 x2:Nat) (hx:x1≤6∧x2≤5) (x6:AV) (fine:Bool) (y32 y33:D) (many:Nat) (hm:many≤3):∀ (k j N:Nat) (o:Bool) (st:RS) (acc:List aR),j+k=many→acc.length=j→st.fit→5≤N→
  ∃ M,N≤M∧(Dn prog).code (.loop cH) ⟨[(6,x6),(7,.ptr 2 0),(8,.ptr 3 0),(10,Lg),(11,.ptr 4 0),(12,.d (.bool o)),(13,ax 5 (b7 acc)),(15,.d (.bool fine)),(32,.d y32),(33,.d y33),(46,.d (.int .i64 many)),(47,.d (.int .i64 j))],⟨HT b st [(4,Ro y0 y3 y4 x1 x2)],N⟩⟩ =
  match eQ b x1 x2 fine k o st with
  | none=>some (.ret,⟨[(6,.nl),(7,.ptr 2 0),(8,.ptr 3 0)],⟨[(0,.cells [.d (.lst (af b))]),(2,.cells [.d (.int .i64 0)]),(3,.cells [.d (.int .i64 8)])],M⟩⟩)
  | some (l,o2,st2)=>some (.exit 2,⟨[(6,x6),(7,.ptr 2 0),(8,.ptr 3 0),(10,Lg),(11,.ptr 4 0),(12,.d (.bool o2)),(13,ax 5 (b7 (acc++l))),(32,.d y32),(33,.d y33)],⟨HT b st2 [(4,Ro y0 y3 y4 x1 x2)],M⟩⟩):=by
 intro k
 induction k with
 | zero =>
  intro j N o st acc h1 h2 h3 hN;refine⟨N,Nat.le_refl _,?_⟩;rw[aa cH.eq_1,eQ];simp only[List.append_nil];simp (disch:=omega) [↓if_neg]
 | succ k ih =>
  intro j N o st acc h1 h2 h3 hN;obtain⟨n0,n2,n3,n4⟩:N≠0∧N≠2∧N≠3∧N≠4:=by omega
  have f1:=db (s:=x1) hb h3;have f2:=db (s:=x2) hb f1;have f3:=db (s:=1) hb f2;have f4:=db (s:=1) hb f3;have g1:=fun R N=>wt b x1 st R N hb h3
  have g2:=fun R N=>wt b x2 (sN b st x1) R N hb f1
  have g3:=fun R N=>wt b 1 (sN b (sN b st x1) x2) R N hb f2
  have g4:=fun R N=>wt b 1 (sN b (sN b (sN b st x1) x2) 1) R N hb f3
  have v1:=oa (b:=b) (st:=st) (s:=x1);have v2:=oa (b:=b) (st:=sN b st x1) (s:=x2);have v3:=oa (b:=b) (st:=sN b (sN b st x1) x2) (s:=1);have v4:=oa (b:=b) (st:=sN b (sN b (sN b st x1) x2) 1) (s:=1);have k1:2 ^ x1≤2 ^ 6:=Nat.pow_le_pow_right (by omega) hx.1;have k2:2 ^ x2≤2 ^ 5:=Nat.pow_le_pow_right (by omega) hx.2;have t1:(1:Int).toNat=1:=rfl;simp only[Int.toNat_natCast,t1]at v1 v2 v3 v4;have hO:lr b x1 x2 st=sV b (sN b st x1) x2:=rfl;have hS:qC b x1 x2 st=sN b (sN b st x1) x2:=rfl;have c1:((j+1:Nat):Int)=(j:Int)+1:=rfl;have hla:=asy (l:=acc);rw[eQ,hO,hS];simp only[HT]at g1 g2 g3 g4;by_cases hbad:12<sV b (sN b st x1) x2∧(sN b (sN b st x1) x2).e=0
  ·rw[if_pos hbad];obtain⟨hb1,hb2⟩:=hbad;have hre:re (sN b (sN b st x1) x2)=0:=hb2;refine⟨N+1,by omega,?_⟩;simp only[HT];rw[aa cH.eq_1];simp (disch:=omega) [↓if_pos,↓if_neg,g1,g2,hre]
  ·rw[if_neg hbad];by_cases hO0:sV b (sN b st x1) x2=0
   ·have eF:FC b x1 x2 fine st=⟨sV b st x1,0,false,fine,[]⟩:=by grind [FC]
    have eX:DN b x1 x2 fine st=false:=by grind [DN]
    have eN:qd b x1 x2 fine st=sN b (sN b st x1) x2:=by grind [qd]
    rw[eF,eX,eN,Bool.or_false];obtain⟨M,hM,h5⟩:=ih (j+1) (N+1) o (sN b (sN b st x1) x2) (acc++[⟨sV b st x1,0,false,fine,[]⟩]) (by omega) (by simp_all) f2 (by omega);refine⟨M,by omega,?_⟩;have key:(Dn prog).code (.loop cH) ⟨[(6,x6),(7,.ptr 2 0),(8,.ptr 3 0),(10,Lg),(11,.ptr 4 0),(12,.d (.bool o)),(13,ax 5 (b7 acc)),(15,.d (.bool fine)),(32,.d y32),(33,.d y33),(46,.d (.int .i64 many)),(47,.d (.int .i64 j))],⟨HT b st [(4,Ro y0 y3 y4 x1 x2)],N⟩⟩ =
      (Dn prog).code (.loop cH) ⟨[(6,x6),(7,.ptr 2 0),(8,.ptr 3 0),(10,Lg),(11,.ptr 4 0),(12,.d (.bool o)),(13,ax 5 (b7 (acc++[⟨sV b st x1,0,false,fine,[]⟩]))),(15,.d (.bool fine)),(32,.d y32),(33,.d y33),(46,.d (.int .i64 many)),(47,.d (.int .i64 ((j+1:Nat):Int)))],⟨HT b (sN b (sN b st x1) x2) [(4,Ro y0 y3 y4 x1 x2)],N+1⟩⟩:=by
     have n00:ai []=[]:=rfl;simp only[HT,c1,afc,lY,n00];clear h5 ih;rw[aa cH.eq_1];simp (disch:=omega) [↓if_pos,↓if_neg,g1,g2,hO0]
    grind
   ·have he:(sN b (sN b st x1) x2).e=0:=ay6 hO0;have hO12:sV b (sN b st x1) x2≤12:=by
     omega
    have hre:re (sN b (sN b st x1) x2)=0:=he;have hw4:3≤cN fine∧cN fine≤4:=by grind [cN]
    have hwide:aO prog jy [.d (.bool fine)]=some (.d (.int .i64 ((cN fine:Nat):Int))):=by grind [Ct,cN]
    obtain⟨W,hW⟩:∃ W,W=sV b (sN b (sN b (sN b st x1) x2) 1) 1:=⟨_,rfl⟩
    obtain⟨Dd,hDd⟩:∃ Dd,Dd=sV b (sN b (sN b st x1) x2) 1:=⟨_,rfl⟩
    obtain⟨T4,hT4⟩:∃ T4,T4=sN b (sN b (sN b (sN b st x1) x2) 1) 1:=⟨_,rfl⟩
    obtain⟨sz,hsz⟩:∃ sz,sz=cN fine-W:=⟨_,rfl⟩
    rw[←hW]at v4 g4;rw[←hDd]at v3 g3;rw[←hT4]at g4 f4;have c00:((0:Nat):Int)=0:=rfl;simp only[hre,c00]at g3;have hszI:((cN fine:Nat):Int)-(W:Int)=(sz:Int):=by omega
    have hsz1:(sz:Int)-1=((sz-1:Nat):Int):=by omega
    have hne:lr b x1 x2 st≠0:=by omega
    have eF:FC b x1 x2 fine st=⟨sV b st x1,sV b (sN b st x1) x2,decide (Dd=1),fine,qa b sz (sV b (sN b st x1) x2) T4⟩:=by
     grind [FC,Bx,Aa,JC,flD]
    have eX:DN b x1 x2 fine st=(decide (W=0) && DK (qa b sz (sV b (sN b st x1) x2) T4) (sz-1)):=by
     grind [DN,Bx,Aa,JC]
    have eN:qd b x1 x2 fine st=oA b sz (sV b (sN b st x1) x2) T4:=by
     grind [qd,Bx,Aa,JC]
    have f5:(oA b sz (sV b (sN b st x1) x2) T4).fit:=abp hb f4;have hcl:=aaY (b:=b) (sz:=sz) (k:=sV b (sN b st x1) x2) (st:=T4);have hL0:=fun a0 a2 y46 y47 N M hN=>av1 b hb (Ro y0 y3 y4 x1 x2) a0 (.d (.int .i64 (sV b (sN b st x1) x2))) a2 (.d (.bool fine)) x6 (ax 5 (b7 acc)) (.bool o) (.bool fine) y32 y33 y46 y47 W sz (sV b (sN b st x1) x2) N M (by omega) (by omega) hN (sV b (sN b st x1) x2) 0 T4 [] (by omega) rfl f4
    have n00:ai []=[]:=rfl;have c0:((0:Nat):Int)=0:=rfl;simp only[n00,kL,List.nil_append,c0,HT]at hL0;have hDec:decide ((Dd:Int)=1)=decide (Dd=1):=by grind
    rw[eF,eX,eN];generalize sV b (sN b st x1) x2=O at *;obtain⟨CS,hCS⟩:∃ CS,CS=qa b sz O T4:=⟨_,rfl⟩
    rw[←hCS]at hL0 hcl;rw[←hCS];obtain⟨M,hM,h5⟩:=ih (j+1) (N+1) (o || (decide (W=0) && DK CS (sz-1))) (oA b sz O T4) (acc++[⟨sV b st x1,O,decide (Dd=1),fine,CS⟩]) (by omega) (by simp_all) f5 (by omega);refine⟨M,by omega,?_⟩;have hshare:share (ax 1 (ai CS))=.d (.lst (ai CS)):=by
     cases CS with
     | nil=>grind
     | cons x r=>rfl
    have key:(Dn prog).code (.loop cH) ⟨[(6,x6),(7,.ptr 2 0),(8,.ptr 3 0),(10,Lg),(11,.ptr 4 0),(12,.d (.bool o)),(13,ax 5 (b7 acc)),(15,.d (.bool fine)),(32,.d y32),(33,.d y33),(46,.d (.int .i64 many)),(47,.d (.int .i64 j))],⟨HT b st [(4,Ro y0 y3 y4 x1 x2)],N⟩⟩ =
      (Dn prog).code (.loop cH) ⟨[(6,x6),(7,.ptr 2 0),(8,.ptr 3 0),(10,Lg),(11,.ptr 4 0),(12,.d (.bool (o || (decide (W=0) && DK CS (sz-1))))),(13,ax 5 (b7 (acc++[⟨sV b st x1,O,decide (Dd=1),fine,CS⟩]))),(15,.d (.bool fine)),(32,.d y32),(33,.d y33),(46,.d (.int .i64 many)),(47,.d (.int .i64 ((j+1:Nat):Int)))],⟨HT b (oA b sz O T4) [(4,Ro y0 y3 y4 x1 x2)],N+1⟩⟩:=by
     simp only[HT,c1,afc,lY];clear h5 ih;have hfit:=Eu CS (by omega) (sz-1) (by omega);have hfit2:aO prog kp [.d (.lst (ai CS)),.d (.int .i64 ((sz-1:Nat):Int))]=some (.d (.bool (DK CS (sz-1)))):=hfit;rw[aa cH.eq_1];obtain⟨B1,hB1⟩:∃ B1,B1=decide (Dd=1):=⟨_,rfl⟩
     rw[←hB1]
     cases o with
     | true =>
      by_cases hD1:Dd=1
      ·rw[hB1,decide_eq_true hD1];simp (disch:=omega) [↓if_pos,↓if_neg,g1,g2,g3,g4,hre,hwide,hszI,hL0]
      ·rw[hB1,decide_eq_false hD1];simp (disch:=omega) [↓if_pos,↓if_neg,g1,g2,g3,g4,hre,hwide,hszI,hL0]
     | false =>
      by_cases hW0:W=0
      ·rw[decide_eq_true hW0];by_cases hD1:Dd=1
       ·rw[hB1,decide_eq_true hD1];simp (disch:=omega) [↓if_pos,↓if_neg,g1,g2,g3,g4,hre,hwide,hszI,hL0,hshare,hsz1,hfit2]
       ·rw[hB1,decide_eq_false hD1];simp (disch:=omega) [↓if_pos,↓if_neg,g1,g2,g3,g4,hre,hwide,hszI,hL0,hshare,hsz1,hfit2]
      ·rw[decide_eq_false hW0];by_cases hD1:Dd=1
       ·rw[hB1,decide_eq_true hD1];simp (disch:=omega) [↓if_pos,↓if_neg,g1,g2,g3,g4,hre,hwide,hszI,hL0]
       ·rw[hB1,decide_eq_false hD1];simp (disch:=omega) [↓if_pos,↓if_neg,g1,g2,g3,g4,hre,hwide,hszI,hL0]
    grind
def Ky (b:List Nat) (x0:Nat) (st:RS):Bool:=decide (0<sV b st x0) && decide (sV b (sN b st x0) 1=1)
def v7 (b:List Nat) (x0:Nat) (st:RS):RS:=if 0<sV b st x0 then sN b (sN b st x0) 1 else sN b st x0
def kf (b:List Nat) (x0 x1 x2:Nat):Nat→Bool→RS→Option (List (List aR)×Bool×RS)
 | 0,o,st=>some ([],o,st)
 | k+1,o,st=>match eQ b x1 x2 (Ky b x0 st) (sV b st x0) o (v7 b x0 st) with
  | none=>none
  | some q=>match kf b x0 x1 x2 k q.2.1 q.2.2 with
   | none=>none
   | some w=>some (q.1::w.1,w.2)
theorem aoJ {t:List (List aR)}{l:List aR}:bi (t++[l])=bi t++[[.lst (b7 l)]]:=by simp[bi]
theorem amS {b:List Nat}{x0:Nat}{st:RS}(hb:b.length≤1000000000) (h:st.fit):(v7 b x0 st).fit:=by
 unfold v7;split
 ·exact db hb (db hb h)
 ·exact db hb h
theorem SH {b:List Nat}{x1 x2:Nat}{fine:Bool}(hb:b.length≤1000000000):∀ {k:Nat}{o:Bool}{st:RS}{l:List aR}{o2:Bool}{st2:RS},st.fit→eQ b x1 x2 fine k o st=some (l,o2,st2)→st2.fit∧l.length=k
 | 0,o,st,l,o2,st2,h,e=>by
  rw[eQ]at e;injection e with e
  injection e with e1 e
  injection e with e2 e3
  subst e1 e3;exact⟨h,rfl⟩
 | k+1,o,st,l,o2,st2,h,e=>by
  rw[eQ]at e;split at e
  ·exact absurd e (by simp)
  ·cases hq:eQ b x1 x2 fine k (o || DN b x1 x2 fine st) (qd b x1 x2 fine st) with
   | none=>rw[hq]at e;exact absurd e (by simp)
   | some q =>
    obtain⟨q1,q2,q3⟩:=q;rw[hq]at e;injection e with e
    injection e with e1 e
    injection e with e2 e3
    obtain⟨i1,i2⟩:=SH hb (awl hb h) hq;subst e1 e3;exact⟨i1,by simp[i2]⟩
theorem aws (b:List Nat) (hb:b.length≤1000000000) (y3 y4:AV) (x0 x1 x2:Nat) (hx:x0≤2∧x1≤6∧x2≤5) (many:Nat) (hm:many≤8):∀ (k j N:Nat) (o:Bool) (st:RS) (acc:List (List aR)),j+k=many→acc.length=j→st.fit→5≤N→
  ∃ M,N≤M∧(Dn prog).code (.loop fk) ⟨[(6,ax 1 (bi acc)),(7,.ptr 2 0),(8,.ptr 3 0),(10,Lg),(11,.ptr 4 0),(12,.d (.bool o)),(32,.d (.int .i64 many)),(33,.d (.int .i64 j))],⟨HT b st [(4,Ro (.d (.int .i64 x0)) y3 y4 x1 x2)],N⟩⟩ =
  match kf b x0 x1 x2 k o st with
  | none=>some (.ret,⟨[(6,.nl),(7,.ptr 2 0),(8,.ptr 3 0)],⟨[(0,.cells [.d (.lst (af b))]),(2,.cells [.d (.int .i64 0)]),(3,.cells [.d (.int .i64 8)])],M⟩⟩)
  | some (t,o2,st2)=>some (.exit 0,⟨[(6,ax 1 (bi (acc++t))),(7,.ptr 2 0),(8,.ptr 3 0),(12,.d (.bool o2))],⟨HT b st2 [],M⟩⟩):=by
 intro k
 induction k with
 | zero =>
  intro j N o st acc h1 h2 h3 hN;refine⟨N,Nat.le_refl _,?_⟩;rw[aa fk.eq_1,kf];simp only[List.append_nil];simp (maxSteps:=300000) (disch:=omega) [↓if_pos,↓if_neg]
 | succ k ih =>
  intro j N o st acc h1 h2 h3 hN;have f1:=db (s:=x0) hb h3;have g1:=fun R N=>wt b x0 st R N hb h3
  have g2:=fun R N=>wt b 1 (sN b st x0) R N hb f1
  have v1:=oa (b:=b) (st:=st) (s:=x0);have v2:=oa (b:=b) (st:=sN b st x0) (s:=1);have k1:2 ^ x0≤2 ^ 2:=Nat.pow_le_pow_right (by omega) hx.1;have t1:(1:Int).toNat=1:=rfl;simp only[Int.toNat_natCast,t1]at v1 v2;have c1:((j+1:Nat):Int)=(j:Int)+1:=rfl;have c0:((0:Nat):Int)=0:=rfl;have n00:b7 []=[]:=rfl;have hla:=ae5 (t:=acc);have hfs:=amS (x0:=x0) hb h3;obtain⟨M1,hM1,hL1⟩:=awJ b hb (.d (.int .i64 x0)) y3 y4 x1 x2 hx.2 (ax 1 (bi acc)) (Ky b x0 st) (.int .i64 many) (.int .i64 j) (sV b st x0) (by omega) (sV b st x0) 0 N o (v7 b x0 st) [] (by omega) rfl hfs hN;have hF:Ky b x0 st=(decide (0<sV b st x0) && decide (sV b (sN b st x0) 1=1)):=rfl;have hS:v7 b x0 st=if 0<sV b st x0 then sN b (sN b st x0) 1 else sN b st x0:=rfl
  rw[kf];simp only[HT,c0,n00,kL,List.nil_append]at g1 g2 hL1
  cases hfl:eQ b x1 x2 (Ky b x0 st) (sV b st x0) o (v7 b x0 st) with
  | none =>
   rw[hfl]at hL1;refine⟨M1,hM1,?_⟩;simp only[HT];rw[aa fk.eq_1];rw[hF,hS]at hL1;by_cases hp:0<sV b st x0
   ·rw[if_pos hp,decide_eq_true hp,Bool.true_and]at hL1;by_cases hd:sV b (sN b st x0) 1=1
    ·rw[decide_eq_true hd]at hL1;simp (maxSteps:=300000) (disch:=omega) [↓if_pos,↓if_neg,g1,g2,hL1]
    ·rw[decide_eq_false hd]at hL1;simp (maxSteps:=300000) (disch:=omega) [↓if_pos,↓if_neg,g1,g2,hL1]
   ·have h0:sV b st x0=0:=by omega
    rw[if_neg hp,decide_eq_false hp,Bool.false_and,h0,c0]at hL1;simp (maxSteps:=300000) (disch:=omega) [↓if_pos,↓if_neg,g1,g2,h0,hL1]
  | some q =>
   obtain⟨l,o2,st2⟩:=q;rw[hfl]at hL1;obtain⟨i1,i2⟩:=SH hb hfs hfl;obtain⟨M,hM,h5⟩:=ih (j+1) M1 o2 st2 (acc++[l]) (by omega) (by simp;omega) i1 (by omega);refine⟨M,by omega,?_⟩;have key:(Dn prog).code (.loop fk) ⟨[(6,ax 1 (bi acc)),(7,.ptr 2 0),(8,.ptr 3 0),(10,Lg),(11,.ptr 4 0),(12,.d (.bool o)),(32,.d (.int .i64 many)),(33,.d (.int .i64 j))],⟨HT b st [(4,Ro (.d (.int .i64 x0)) y3 y4 x1 x2)],N⟩⟩ =
     (Dn prog).code (.loop fk) ⟨[(6,ax 1 (bi (acc++[l]))),(7,.ptr 2 0),(8,.ptr 3 0),(10,Lg),(11,.ptr 4 0),(12,.d (.bool o2)),(32,.d (.int .i64 many)),(33,.d (.int .i64 ((j+1:Nat):Int)))],⟨HT b st2 [(4,Ro (.d (.int .i64 x0)) y3 y4 x1 x2)],M1⟩⟩:=by
    simp only[HT,c1,aoJ,lY];clear h5 ih;rw[hF,hS]at hL1;rw[aa fk.eq_1];by_cases hp:0<sV b st x0
    ·rw[if_pos hp,decide_eq_true hp,Bool.true_and]at hL1;by_cases hd:sV b (sN b st x0) 1=1
     ·rw[decide_eq_true hd]at hL1;simp (maxSteps:=300000) (disch:=omega) [↓if_pos,↓if_neg,g1,g2,hL1]
     ·rw[decide_eq_false hd]at hL1;simp (maxSteps:=300000) (disch:=omega) [↓if_pos,↓if_neg,g1,g2,hL1]
    ·have h0:sV b st x0=0:=by omega
     rw[if_neg hp,decide_eq_false hp,Bool.false_and,h0,c0]at hL1;simp (maxSteps:=300000) (disch:=omega) [↓if_pos,↓if_neg,g1,g2,h0,hL1]
   rw[key,h5];simp only
   cases kf b x0 x1 x2 k o2 st2 with
   | none=>rfl
   | some w =>
    obtain⟨t,o3,st3⟩:=w;simp only[List.append_assoc,List.cons_append,List.nil_append]
def x0T (sh:Bool):Nat:=if sh then 1 else 2
def x1T (sh:Bool):Nat:=if sh then 4 else 6
def x2T (sh:Bool):Nat:=if sh then 3 else 5
def Uq (b:List Nat) (i:am) (a:Int):Option (List (List aR)×Bool×RS):=kf b (x0T i.short) (x1T i.short) (x2T i.short) i.many false ⟨a,0⟩
def I2 (b:List Nat) (i:am) (a:Int):R (List (List aR)) :=
 match Uq b i a with
 | none=>.er 7
 | some (t,o,st)=>if st.e≠0 then .er (st.e-1) else if o then .er 7 else .ok t st.a.toNat
theorem Xl {b:List Nat}{x1 x2:Nat}{fine:Bool}:∀ {k:Nat}{o:Bool}{st:RS}{l:List aR}{o2:Bool}{st2:RS},eQ b x1 x2 fine k o st=some (l,o2,st2)→l.length=k∧∀ f∈l,f.coefs.length≤12
 | 0,o,st,l,o2,st2,e=>by
  rw[eQ]at e;injection e with e
  injection e with e1 e
  subst e1;exact⟨rfl,by simp⟩
 | k+1,o,st,l,o2,st2,e=>by
  rw[eQ]at e;split at e
  ·exact absurd e (by simp)
  ·rename_i hbad
   cases hq:eQ b x1 x2 fine k (o || DN b x1 x2 fine st) (qd b x1 x2 fine st) with
   | none=>rw[hq]at e;exact absurd e (by simp)
   | some q =>
    obtain⟨q1,q2,q3⟩:=q;rw[hq]at e;injection e with e
    injection e with e1 e
    obtain⟨i1,i2⟩:=Xl hq;subst e1;refine⟨by simp[i1],fun f hf=>?_⟩;rcases List.mem_cons.1 hf with rfl | hf
    ·unfold FC;split
     ·simp
     ·rename_i h0;simp only[aaY];have he:(qC b x1 x2 st).e=0:=ay6 h0;rcases Nat.lt_or_ge 12 (lr b x1 x2 st) with h | h
      ·exact absurd ⟨h,he⟩ hbad
      ·exact h
    ·exact i2 f hf
theorem WR {b:List Nat}{x0 x1 x2:Nat}(hb:b.length≤1000000000) (h2:x0≤2):∀ {k:Nat}{o:Bool}{st:RS}{t:List (List aR)}{o2:Bool}{st2:RS},st.fit→kf b x0 x1 x2 k o st=some (t,o2,st2)→st2.fit∧t.length=k∧∀ l∈t,l.length≤3∧∀ f∈l,f.coefs.length≤12
 | 0,o,st,t,o2,st2,h,e=>by
  rw[kf]at e;injection e with e
  injection e with e1 e
  injection e with e2 e3
  subst e1 e3;exact⟨h,rfl,by simp⟩
 | k+1,o,st,t,o2,st2,h,e=>by
  rw[kf]at e
  cases hq:eQ b x1 x2 (Ky b x0 st) (sV b st x0) o (v7 b x0 st) with
  | none=>rw[hq]at e;exact absurd e (by simp)
  | some q =>
   obtain⟨q1,q2,q3⟩:=q;rw[hq]at e;simp only at e
   cases hw:kf b x0 x1 x2 k q2 q3 with
   | none=>rw[hw]at e;exact absurd e (by simp)
   | some w =>
    obtain⟨w1,w2,w3⟩:=w;rw[hw]at e;injection e with e
    injection e with e1 e
    injection e with e2 e3
    obtain⟨f1,f2⟩:=SH hb (amS hb h) hq;obtain⟨i1,i2,i3⟩:=WR hb h2 f1 hw;obtain⟨j1,j2⟩:=Xl hq;have v1:=oa (b:=b) (st:=st) (s:=x0);have k1:2 ^ x0≤2 ^ 2:=Nat.pow_le_pow_right (by omega) h2;simp only[Int.toNat_natCast]at v1;subst e1 e3;refine⟨i1,by simp[i2],fun l hl=>?_⟩;rcases List.mem_cons.1 hl with rfl | hl
    ·exact⟨by omega,j2⟩
    ·exact i3 l hl
abbrev pTn (b:List Nat) (i:am) (t:List (List aR)) (n:Nat):Prop:=t.length=i.many∧n≤b.length∧∀ l∈t,l.length≤3∧∀ f∈l,f.coefs.length≤12
theorem atq {h:ac}{t:List (List aR)}{n e:Int}(ht:t≠[]):eZ h (.tup [ax 1 (bi t),.d (.int .i64 n),.d (.int .i64 e)])=some (.tup [ax 1 (bi t),.d (.int .i64 n),.d (.int .i64 e)]):=by
 cases t with
 | nil=>exact absurd rfl ht
 | cons x r=>rfl
def RS.inB (b:List Nat) (st:RS):Prop:=0≤st.a∧st.a≤b.length
theorem xG {b:List Nat}{st:RS}{s:Int}(h:st.e=0∨st.inB b):(sN b st s).inB b:=by
 unfold sN;split
 ·have:=aph (b:=b) (a:=st.a) (s:=s);show 0≤_∧_;simp only[];omega
 ·rename_i he;exact h.resolve_left he
theorem aq3 {b:List Nat}{sz:Nat}:∀ {k:Nat}{st:RS},st.inB b→(oA b sz k st).inB b
 | 0,_,h=>h
 | _+1,_,h=>by rw[oA];exact aq3 (xG (.inr h))
theorem ayH {b:List Nat}{x1 x2:Nat}{fine:Bool}{st:RS}(h:st.inB b):(qd b x1 x2 fine st).inB b:=by
 unfold qd;split
 ·exact xG (.inr (xG (.inr h)))
 ·exact aq3 (xG (.inr (xG (.inr (xG (.inr (xG (.inr h))))))))
theorem ano {b:List Nat}{x1 x2:Nat}{fine:Bool}:∀ {k:Nat}{o:Bool}{st:RS}{l:List aR}{o2:Bool}{st2:RS},st.inB b→eQ b x1 x2 fine k o st=some (l,o2,st2)→st2.inB b
 | 0,o,st,l,o2,st2,h,e=>by
  rw[eQ]at e;injection e with e
  injection e with e1 e
  injection e with e2 e3
  subst e3;exact h
 | k+1,o,st,l,o2,st2,h,e=>by
  rw[eQ]at e;split at e
  ·exact absurd e (by simp)
  ·cases hq:eQ b x1 x2 fine k (o || DN b x1 x2 fine st) (qd b x1 x2 fine st) with
   | none=>rw[hq]at e;exact absurd e (by simp)
   | some q =>
    obtain⟨q1,q2,q3⟩:=q;rw[hq]at e;injection e with e
    injection e with e1 e
    injection e with e2 e3
    subst e3;exact ano (ayH h) hq
theorem ayY {b:List Nat}{x0:Nat}{st:RS}(h:st.e=0∨st.inB b):(v7 b x0 st).inB b:=by
 unfold v7;split
 ·exact xG (.inr (xG h))
 ·exact xG h
theorem acB {b:List Nat}{x0 x1 x2:Nat}:∀ {k:Nat}{o:Bool}{st:RS}{t:List (List aR)}{o2:Bool}{st2:RS},st.inB b∨(st.e=0∧1≤k)→kf b x0 x1 x2 k o st=some (t,o2,st2)→st2.inB b
 | 0,o,st,t,o2,st2,h,e=>by
  rw[kf]at e;injection e with e
  injection e with e1 e
  injection e with e2 e3
  subst e3;rcases h with h | ⟨_,h⟩
  ·exact h
  ·omega
 | k+1,o,st,t,o2,st2,h,e=>by
  rw[kf]at e
  cases hq:eQ b x1 x2 (Ky b x0 st) (sV b st x0) o (v7 b x0 st) with
  | none=>rw[hq]at e;exact absurd e (by simp)
  | some q =>
   obtain⟨q1,q2,q3⟩:=q;rw[hq]at e;simp only at e
   cases hw:kf b x0 x1 x2 k q2 q3 with
   | none=>rw[hw]at e;exact absurd e (by simp)
   | some w =>
    obtain⟨w1,w2,w3⟩:=w;rw[hw]at e;injection e with e
    injection e with e1 e
    injection e with e2 e3
    subst e3;have h0:st.e=0∨st.inB b:=by rcases h with h | ⟨h,_⟩;exact .inr h;exact .inl h
    exact acB (.inl (ano (ayY h0) hq)) hw
theorem uT (i:am):1≤i.many∧i.many≤8:=by unfold am.many;split<;>omega
theorem arT {b:List Nat}{i:am}{a:Int}(hb:b.length≤1000000000) (ha:i64 a) {t:List (List aR)}{n:Nat}(h:I2 b i a=.ok t n):pTn b i t n:=by
 rw[I2]at h
 cases hq:Uq b i a with
 | none=>rw[hq]at h;exact absurd h (by simp)
 | some q =>
  obtain⟨t',o,st⟩:=q;rw[hq]at h;simp only at h;rw[Uq]at hq;obtain⟨j1,j2,j3⟩:=WR (st:=⟨a,0⟩) hb (by unfold x0T;split<;>omega) (show RS.fit ⟨a,0⟩ from ha) hq;have j4:=acB (.inr ⟨rfl,(uT i).1⟩) hq;split at h
  ·exact absurd h (by simp)
  ·split at h
   ·exact absurd h (by simp)
   ·injection h with g1 g2
    subst g1 g2;obtain⟨k1,k2⟩:=j4;exact⟨j2,by omega,j3⟩
theorem ams (b:List Nat) (hb:b.length≤1000000000) (a:Int) (ha:i64 a) (i:am) (hi:i.Fit) (hm:i.may 11):aO prog zq [.d (.lst (af b)),.d (.int .i64 a),.agg i.cells] =
  rK (pTn b i) (I2 b i a) (fun t n=>some (.tup [ax 1 (bi t),.d (.int .i64 n),.d (.int .i64 0)])) (fun e=>some (.tup [.nl,.d (.int .i64 0),.d (.int .i64 (e+1))])):=by
 have hw:=jD i hi;rw[if_pos hm]at hw;have hsz:=qN i;obtain⟨m1,m8⟩:=uT i;obtain⟨M,hM,hL⟩:=aws b hb (.d (.int .i64 (if i.short then 1 else 3))) (.d (.int .i64 (if i.short then 7 else 12))) (x0T i.short) (x1T i.short) (x2T i.short) (by unfold x0T x1T x2T;cases i.short<;>decide) i.many m8 i.many 0 5 false ⟨a,0⟩ [] (by omega) rfl ha (Nat.le_refl _);have c0:((0:Nat):Int)=0:=rfl;have n0:bi []=[]:=rfl;have hq0:kf b (x0T i.short) (x1T i.short) (x2T i.short) i.many false ⟨a,0⟩=Uq b i a:=rfl;have hra:ra ⟨a,0⟩=a:=rfl;have hre:re ⟨a,0⟩=0:=rfl;rw[hq0]at hL;simp only[c0,n0,kL,List.nil_append,HT,hra,hre]at hL;have hszv:iD i.short=[.d (.int .i64 (x0T i.short:Nat)),.d (.int .i64 (x1T i.short:Nat)),.d (.int .i64 (x2T i.short:Nat)),.d (.int .i64 (if i.short then 1 else 3)),.d (.int .i64 (if i.short then 7 else 12))]:=by
  cases i.short<;>rfl
 rw[hszv]at hsz;have hp:=fun t n=>arT (b:=b) (i:=i) (a:=a) (t:=t) (n:=n) hb ha
 have hin0:∀ t o st,Uq b i a=some (t,o,st)→st.inB b:=fun t o st h=>acB (.inr ⟨rfl,m1⟩) h
 rw[I2]at hp⊢;rw[aq ahP y7.eq_1 rfl];simp only[am.cells]at hw hsz⊢;generalize x0T i.short=X0 at *;generalize x1T i.short=X1 at *;generalize x2T i.short=X2 at *;generalize (if i.short then (1:Int) else 3)=Y3 at *;generalize (if i.short then (7:Int) else 12)=Y4 at *
 cases hq:Uq b i a with
 | none =>
  rw[hq]at hL;simp only at hL⊢;rw[fc];simp (maxSteps:=300000) (disch:=omega) [↓if_pos,↓if_neg,hw,hsz,hL]
 | some q =>
  obtain⟨t,o,st⟩:=q;rw[hq]at hL hp;simp only at hL hp⊢;obtain⟨sa,se⟩:=st;by_cases he:se=0
  ·subst he;have hin:=hin0 t o ⟨sa,0⟩ hq;obtain⟨k1,k2⟩:=hin;simp only at k1 k2;obtain⟨A,rfl⟩:=Int.eq_ofNat_of_zero_le k1;have hra2:ra ⟨(A:Int),0⟩=(A:Int):=rfl;have hre2:re ⟨(A:Int),0⟩=0:=rfl;simp only[hra2,hre2,c0]at hL
   cases o with
   | true =>
    simp only[ne_eq,not_true_eq_false,if_false,if_true]at hp⊢;rw[fc];simp (maxSteps:=300000) (disch:=omega) [↓if_pos,↓if_neg,hw,hsz,hL]
   | false =>
    simp only[ne_eq,not_true_eq_false,if_false,Bool.false_eq_true]at hp⊢;have hpt:=hp t _ rfl;have htn:t≠[]:=fun h=>by rw[h]at hpt;have:=hpt.1;simp at this;omega
    rw[cG hpt];have hrt:=fun h n e=>atq (h:=h) (n:=n) (e:=e) htn
    simp (maxSteps:=300000) (disch:=omega) [↓if_pos,↓if_neg,hw,hsz,hL,-Xd,hrt]
  ·have hre2:re ⟨sa,se⟩=se:=rfl;have hse:((se-1:Nat):Int)+1=(se:Int):=by omega
   simp only[hre2]at hL;simp only[ne_eq,he,not_false_eq_true,if_true]at hp⊢;rw[fc,hse];simp (maxSteps:=300000) (disch:=omega) [↓if_pos,↓if_neg,hw,hsz,hL,he]
abbrev sJ:List AV:=[.ptr 0 0,.ptr 5 0,.ptr 4 0,.ptr 6 0]
abbrev ajc:AV:=.fn xx [] [.ptr 0 0,.ptr 5 0,.ptr 6 0]
abbrev oU:List AV:=[.fn ni [] sJ,.fn ic [] [.ptr 3 0,.ptr 4 0,.ptr 2 0,.ptr 0 0,.ptr 5 0,.ptr 1 0,.ptr 6 0],.fn mZ [] sJ,.fn mX [] sJ,.fn na [] [.ptr 9 0,.ptr 7 0],.fn nq [] [.ptr 9 0,.ptr 8 0],.fn il [] [.ptr 8 0,.ptr 0 0,.ptr 5 0,.ptr 4 0,.ptr 6 0],.fn mY [] [.ptr 7 0,.ptr 9 0]]
abbrev cq (b:List Nat) (r:Int) (q:Bool) (iv cs:List AV) (nx e od is:Int):ac:=[(0,.cells [.d (.lst (af b))]),(1,.cells [.d (.int .i64 r)]),(2,.cells [.d (.bool q)]),(3,.cells iv),(4,.cells cs),(5,.cells [.d (.int .i64 nx)]),(6,.cells [.d (.int .i64 e)]),(7,.cells [.d (.int .i64 od)]),(8,.cells [.d (.int .i64 is)]),(9,.cells [ajc]),(10,.cells oU)]
theorem asu {m:Nat}{xs:List (List D)}:u7 (share (ax m xs))=share (ax m xs):=by cases xs<;>rfl
theorem ahn (x:AV) (l:List Int) (hl:l.length≤1000000000) (hx:elems [] x=some (ai l)):aO prog nG [x]=some (.own true 1 (ai l)):=by
 have hl2:(ai l).length=l.length:=fE;rw[aq JM nz.eq_1 rfl];have h4:Nat.ble l.length 4294967296=true:=by rw[Nat.ble_eq];omega
 rw[eh];simp (maxSteps:=300000) (disch:=omega) [bp,FB,hx,h4]
theorem aeG (i:am) (hi:i.groups.length≤1000000):aO prog qw [.agg i.cells]=some (.agg (Uj i)):=by
 have h:=ahn (.d (.lst (ai i.groups))) i.groups (by omega) rfl;simp only[am.cells];rw[aq alU Fq.eq_1 rfl];simp (maxSteps:=300000) (disch:=omega) [↓if_pos,↓if_neg,h]
abbrev zI:List AV:=[.d (.int .u8 0),.d (.int .u8 0),.d (.int .i64 0),.nl]
theorem an9:aO prog qw [.agg zI]=some (.agg (Uj ⟨0,0,0,[]⟩)):=wV 400 (by kernel_rfl)
section
variable (b:List Nat) (r:Int) (q:Bool) (iv:List AV) (nx od is:Int) (N:Nat)
theorem avY (hq:q=true) (i:am) (hi:i.groups.length≤1000000) (hiv:iv=i.cells) (a0 a1 a2 a3 a4 a5 a6 a7 a8:AV):(Dn prog).call ic [.ptr 3 0,.ptr 4 0,.ptr 2 0,.ptr 0 0,.ptr 5 0,.ptr 1 0,.ptr 6 0] ⟨cq b r q iv [a0,a1,a2,a3,a4,a5,a6,a7,a8] nx 0 od is,N⟩ =
  some (.tup [],⟨cq b r q iv [a0,.d (.int .u8 i.seq),.d (.int .u8 i.shape),.d (.int .i64 i.max),.own false 1 (ai i.groups),a5,a6,a7,a8] nx 0 od is,N⟩):=by
 subst hq hiv;have h:=aeG i hi;simp only[am.cells,Uj]at h⊢;rw[aD Rw xz.eq_1 rfl];simp (maxSteps:=300000) (disch:=omega) [↓if_pos,↓if_neg,h]
theorem axr (i:am) (hi:i.Fit) (hm:i.may 11) (h1:is≠1) (a0 a5 a6 a7 a8:AV):(Dn prog).call il [.ptr 8 0,.ptr 0 0,.ptr 5 0,.ptr 4 0,.ptr 6 0] ⟨cq b r q iv [a0,.d (.int .u8 i.seq),.d (.int .u8 i.shape),.d (.int .i64 i.max),.own false 1 (ai i.groups),a5,a6,a7,a8] nx 0 od is,N⟩ =
  some (.tup [],⟨cq b r q iv [a0,.d (.int .u8 i.seq),.d (.int .u8 i.shape),.d (.int .i64 i.max),.own false 1 (ai i.groups),a5,a6,.own false 1 (bi (List.replicate i.many [])),a8] nx 0 od is,N⟩):=by
 have hw:=jD i hi;rw[if_pos hm]at hw;have hmm:=uT i;have hk:=Fy (z:=[.lst []]) (n:=i.many) (by omega);have e:List.replicate i.many [D.lst []]=bi (List.replicate i.many []):=by simp[bi,b7]
 rw[e]at hk;simp only[am.cells]at hw;rw[aD Rc xA.eq_1 rfl];simp (maxSteps:=300000) (disch:=omega) [↓if_pos,↓if_neg,h1,hw,hk]
end
section
variable (b:List Nat) (hb:b.length≤1000000000) (r:Int) (q:Bool) (iv:List AV) (nx od is:Int) (hn:i64 nx) (N:Nat)
include hb hn
theorem axy (a0 a1 a2 a3 a4 a5 a6 a7 a8:AV):(Dn prog).call ni sJ ⟨cq b r q iv [a0,a1,a2,a3,a4,a5,a6,a7,a8] nx 0 od is,N⟩ =
  rK (pG b 8) (aQ b nx 8) (fun v n=>some (.tup [],⟨cq b r q iv [.d (.int .i64 v),a1,a2,a3,a4,a5,a6,a7,a8] n 0 od is,N⟩)) (fun e=>some (.tup [],⟨cq b r q iv [.d (.int .i64 0),a1,a2,a3,a4,a5,a6,a7,a8] 0 (e+1) od is,N⟩)):=by
 have h:=ez b nx 8 hb hn;rw[aD amq Fe.eq_1 rfl];simp (maxSteps:=300000) (disch:=omega) [↓if_pos,↓if_neg,h]
theorem apC (cs:List AV):(Dn prog).call xx [.ptr 0 0,.ptr 5 0,.ptr 6 0] ⟨cq b r q iv cs nx 0 od is,N⟩ =
  rK (pG b 1) (aQ b nx 1) (fun v n=>some (.d (.int .i64 v),⟨cq b r q iv cs n 0 od is,N⟩)) (fun e=>some (.d (.int .i64 0),⟨cq b r q iv cs 0 (e+1) od is,N⟩)):=by
 have h:=ez b nx 1 hb hn;rw[aD amc EC.eq_1 rfl];simp (maxSteps:=300000) (disch:=omega) [↓if_pos,↓if_neg,h]
theorem ay9 (cs:List AV):(Dn prog).call na [.ptr 9 0,.ptr 7 0] ⟨cq b r q iv cs nx 0 od is,N⟩ =
  rK (pG b 1) (aQ b nx 1) (fun v n=>some (.tup [],⟨cq b r q iv cs n 0 v is,N⟩)) (fun e=>some (.tup [],⟨cq b r q iv cs 0 (e+1) 0 is,N⟩)):=by
 have h:=apC b hb r q iv nx od is hn N cs;rw[aD al0 Fg.eq_1 rfl];simp (maxSteps:=300000) (disch:=omega) [↓if_pos,↓if_neg,h]
theorem ayU (cs:List AV):(Dn prog).call nq [.ptr 9 0,.ptr 8 0] ⟨cq b r q iv cs nx 0 od is,N⟩ =
  rK (pG b 1) (aQ b nx 1) (fun v n=>some (.tup [],⟨cq b r q iv cs n 0 od v,N⟩)) (fun e=>some (.tup [],⟨cq b r q iv cs 0 (e+1) od 0,N⟩)):=by
 have h:=apC b hb r q iv nx od is hn N cs;rw[aD alL Ef.eq_1 rfl];simp (maxSteps:=300000) (disch:=omega) [↓if_pos,↓if_neg,h]
theorem axv (cs:List AV) (ho:0≤od∧od≤1):(Dn prog).call mY [.ptr 7 0,.ptr 9 0] ⟨cq b r q iv cs nx 0 od is,N⟩ =
  rK (pG b 1) (aQ b nx 1) (fun v n=>some (.tup [],⟨cq b r q iv cs n 0 (orB od v) is,N⟩)) (fun e=>some (.tup [],⟨cq b r q iv cs 0 (e+1) od is,N⟩)):=by
 have h:=apC b hb r q iv nx od is hn N cs;rw[aD aml Fa.eq_1 rfl];simp (maxSteps:=300000) (disch:=omega) [↓if_pos,↓if_neg,h];refine WX (fun _ _ h=>cZ h) (fun v n e2 hp=>?_) fun e e2=>by simp (maxSteps:=300000) (disch:=omega) [YL]
 have hv:v<2:=hp.1;simp (maxSteps:=300000) (disch:=omega) [YL]
theorem axL (i:am) (hi:i.Fit) (hm:i.may 11) (hg:i.groups≠[]) (a0 a5 a6 a7 a8:AV):(Dn prog).call mZ sJ ⟨cq b r q iv [a0,.d (.int .u8 i.seq),.d (.int .u8 i.shape),.d (.int .i64 i.max),.own false 1 (ai i.groups),a5,a6,a7,a8] nx 0 od is,N⟩ =
  rK (Rt b i.max.toNat i.groups.length) (nb b i nx) (fun g n=>some (.tup [],⟨cq b r q iv [a0,.d (.int .u8 i.seq),.d (.int .u8 i.shape),.d (.int .i64 i.max),.own false 1 (ai i.groups),ax 1 (aC g),a6,a7,a8] n 0 od is,N⟩)) (fun e=>some (.tup [],⟨cq b r q iv [a0,.d (.int .u8 i.seq),.d (.int .u8 i.shape),.d (.int .i64 i.max),.own false 1 (ai i.groups),.nl,a6,a7,a8] 0 (e+1) od is,N⟩)):=by
 have h:=atC b nx i hb hn hi hm;simp only[am.cells]at h;rw[aD al1 Ea.eq_1 rfl];simp (maxSteps:=300000) (disch:=omega) [↓if_pos,↓if_neg,-bM,h]
theorem ayI (g:Int) (hg:0≤g∧g≤255) (m:Int) (hm:0≤m∧m≤40) (S:List (List ao)) (hS:S≠[]) (hl:S.length≤8) (hf:cP m S) (hf2:∀ l∈S,l.length≤1000) (hok:∀ l∈S,ah6 l∧apj l) (a1 a2 a3 a4 a6 a7 a8:AV):(Dn prog).call mX sJ ⟨cq b r q iv [.d (.int .i64 g),a1,a2,a3,a4,ax 1 (aC S),a6,a7,a8] nx 0 od is,N⟩ =
  rK (pSc b S) (qt b S nx g) (fun t n=>some (.tup [],⟨cq b r q iv [.d (.int .i64 g),a1,a2,a3,a4,ax 1 (aC S),share (ax 1 (bq t)),a7,a8] n 0 od is,N⟩)) (fun e=>some (.tup [],⟨cq b r q iv [.d (.int .i64 g),a1,a2,a3,a4,ax 1 (aC S),.nl,a7,a8] 0 (e+1) od is,N⟩)):=by
 have h:=arB b hb nx g m hn hg S hl hm hf hf2 hok;rw[aD alu Ed.eq_1 rfl]
 cases S with
 | nil=>exact absurd rfl hS
 | cons s0 S0 =>
  have e:ax 1 (aC (s0::S0))=.own false 1 (aC (s0::S0)):=rfl;rw[e];simp (maxSteps:=300000) (disch:=omega) [↓if_pos,↓if_neg,-bM,h,am5,asu,ajW,anJ,ajk]
theorem amM (hq:q=false) (hr:dc r) (i:am) (hi:i.groups.length≤1000000) (hiv:iv=i.cells∨iv=zI) (a0 a1 a2 a3 a4 a5 a6 a7 a8:AV):(Dn prog).call ic [.ptr 3 0,.ptr 4 0,.ptr 2 0,.ptr 0 0,.ptr 5 0,.ptr 1 0,.ptr 6 0] ⟨cq b r q iv [a0,a1,a2,a3,a4,a5,a6,a7,a8] nx 0 od is,N⟩ =
  rK (pI b r.toNat) (pp b nx r.toNat) (fun j n=>some (.tup [],⟨cq b r q iv [a0,.d (.int .u8 j.seq),.d (.int .u8 j.shape),.d (.int .i64 j.max),.own false 1 (ai j.groups),a5,a6,a7,a8] n 0 od is,N⟩)) (fun e=>some (.tup [],⟨cq b r q iv [a0,.d (.int .u8 0),.d (.int .u8 0),.d (.int .i64 0),.nl,a5,a6,a7,a8] 0 (e+1) od is,N⟩)):=by
 subst hq;have h:=aeG i hi;have h0:=an9;have hG:=atO b nx r hb hn;rw[if_pos hr]at hG;rcases hiv with rfl | rfl
 all_goals
  simp only[am.cells,Uj,Ua]at h hG⊢;rw[aD Rw xz.eq_1 rfl];simp (maxSteps:=300000) (disch:=omega) [↓if_pos,↓if_neg,h,h0,hG]
theorem anB (i:am) (hi:i.Fit) (hm:i.may 11) (h1:is=1) (a0 a5 a6 a7 a8:AV):(Dn prog).call il [.ptr 8 0,.ptr 0 0,.ptr 5 0,.ptr 4 0,.ptr 6 0] ⟨cq b r q iv [a0,.d (.int .u8 i.seq),.d (.int .u8 i.shape),.d (.int .i64 i.max),.own false 1 (ai i.groups),a5,a6,a7,a8] nx 0 od is,N⟩ =
  rK (pTn b i) (I2 b i nx) (fun t n=>some (.tup [],⟨cq b r q iv [a0,.d (.int .u8 i.seq),.d (.int .u8 i.shape),.d (.int .i64 i.max),.own false 1 (ai i.groups),a5,a6,ax 1 (bi t),a8] n 0 od is,N⟩)) (fun e=>some (.tup [],⟨cq b r q iv [a0,.d (.int .u8 i.seq),.d (.int .u8 i.shape),.d (.int .i64 i.max),.own false 1 (ai i.groups),a5,a6,.nl,a8] 0 (e+1) od is,N⟩)):=by
 subst h1;have h:=ams b hb nx hn i hi hm;simp only[am.cells]at h;rw[aD Rc xA.eq_1 rfl];simp (maxSteps:=300000) (disch:=omega) [↓if_pos,↓if_neg,-bM,h]
end
abbrev ah4:List AV:=[.d (.int .i64 0),.d (.int .u8 0),.d (.int .u8 0),.d (.int .i64 0),.nl,.nl,.nl,.nl,.nl]
abbrev aaW (i:Int):ar:=[(5,.ptr 0 0),(7,.ptr 1 0),(10,.ptr 4 0),(11,.ptr 5 0),(12,.ptr 6 0),(13,.ptr 7 0),(14,.ptr 8 0),(60,.sl 10 0 8),(61,.d (.int .i64 8)),(62,.d (.int .i64 i))]
abbrev ay5:ar:=[(5,.ptr 0 0),(7,.ptr 1 0),(10,.ptr 4 0),(11,.ptr 5 0),(12,.ptr 6 0),(13,.ptr 7 0),(14,.ptr 8 0)]
section
variable (b:List Nat) (r:Int) (q:Bool) (iv:List AV) (N:Nat)
theorem ap6 {cs cs2:List AV}{nx nx2 e0 od od2 is is2:Int}(i:Nat) (hi:i<8) (f:FuncId) (caps:List AV) (hF:oU[i]?=some (.fn f [] caps)) (hF2:firm (firm (firm (share (.fn f [] caps))))=.fn f [] caps)
  (h:(Dn prog).call f caps ⟨cq b r q iv cs nx 0 od is,N⟩=some (.tup [],⟨cq b r q iv cs2 nx2 0 od2 is2,N⟩)) :
  (Dn prog).code (.loop eV) ⟨aaW i,⟨cq b r q iv cs nx e0 od is,N⟩⟩=(Dn prog).code (.loop eV) ⟨aaW ((i+1:Nat):Int),⟨cq b r q iv cs2 nx2 0 od2 is2,N⟩⟩:=by
 have c1:((i+1:Nat):Int)=(i:Int)+1:=rfl;obtain⟨hlt,e⟩:=List.getElem?_eq_some_iff.1 hF;rw[c1,aa eV.eq_1];simp (maxSteps:=300000) (disch:=omega) [↓if_pos,↓if_neg,e,hF2,h]
theorem aym {cs:List AV}{a0 a1 a2 a3 a4 a5 a6 a7 a8:AV}{nx nx2 e0 od od2 is is2:Int}(i:Nat) (hi:i<8) (f:FuncId) (caps:List AV) (hF:oU[i]?=some (.fn f [] caps)) (hF2:firm (firm (firm (share (.fn f [] caps))))=.fn f [] caps) (e:Nat)
  (h:(Dn prog).call f caps ⟨cq b r q iv cs nx 0 od is,N⟩=some (.tup [],⟨cq b r q iv [a0,a1,a2,a3,a4,a5,a6,a7,a8] nx2 ((e:Int)+1) od2 is2,N⟩)) :
  (Dn prog).code (.loop eV) ⟨aaW i,⟨cq b r q iv cs nx e0 od is,N⟩⟩=some (.ret,⟨[(10,.ptr 4 0),(11,.ptr 5 0),(12,.ptr 6 0)],⟨cq b r q iv ah4 0 ((e:Int)+1) od2 is2,N⟩⟩):=by
 obtain⟨hlt,e1⟩:=List.getElem?_eq_some_iff.1 hF;rw[aa eV.eq_1];simp (maxSteps:=300000) (disch:=omega) [↓if_pos,↓if_neg,e1,hF2,h]
theorem awE {cs:List AV}{nx e0 od is:Int}:(Dn prog).code (.loop eV) ⟨aaW 8,⟨cq b r q iv cs nx e0 od is,N⟩⟩=some (.exit 0,⟨ay5,⟨cq b r q iv cs nx e0 od is,N⟩⟩):=by
 rw[aa eV.eq_1];simp (maxSteps:=300000) (disch:=omega) [↓if_pos,↓if_neg]
end
structure Hd where
 gain:Nat
 inf:am
 S:List (List ao)
 T:List (List Int)
 F:List (List aR)
 od:Int
 is:Nat
def AL (b:List Nat) (a:Int) (r:Nat) (q:Bool) (i:am):R Hd :=
 (aQ b a 8).bind fun g n=>(if q then R.ok i n else pp b n r).bind fun j n=>(nb b j n).bind fun S n=>(qt b S n g).bind fun T n =>
  (aQ b n 1).bind fun o n=>(aQ b n 1).bind fun s n=>(if s=1 then I2 b j n else R.ok (List.replicate j.many []) n).bind fun F n=>(aQ b n 1).bind fun p n=>R.ok ⟨g,j,S,T,F,orB o p,s⟩ n
abbrev aiD (H:Hd):List AV:=[.d (.int .i64 H.gain),.d (.int .u8 H.inf.seq),.d (.int .u8 H.inf.shape),.d (.int .i64 H.inf.max),.own false 1 (ai H.inf.groups),ax 1 (aC H.S),share (ax 1 (bq H.T)),ax 1 (bi H.F),.nl]
section
variable (b:List Nat) (r:Int) (q:Bool) (iv:List AV) (N:Nat)
def Uv (e0:Int) (i:Nat) (cs:List AV) (nx od is:Int) (x:R Hd):Prop :=
 (∀ H n,x=.ok H n→(Dn prog).code (.loop eV) ⟨aaW i,⟨cq b r q iv cs nx e0 od is,N⟩⟩=some (.exit 0,⟨ay5,⟨cq b r q iv (aiD H) n 0 H.od H.is,N⟩⟩))∧
 (∀ e,x=.er e→∃ od2 is2,(Dn prog).code (.loop eV) ⟨aaW i,⟨cq b r q iv cs nx e0 od is,N⟩⟩=some (.ret,⟨[(10,.ptr 4 0),(11,.ptr 5 0),(12,.ptr 6 0)],⟨cq b r q iv ah4 0 ((e:Int)+1) od2 is2,N⟩⟩))
theorem ay8 {e0:Int}{i:Nat}{cs cs2:List AV}{nx nx2 od od2 is is2:Int}{x:R Hd}(hi:i<8) (f:FuncId) (caps:List AV) (hF:oU[i]?=some (.fn f [] caps)) (hF2:firm (firm (firm (share (.fn f [] caps))))=.fn f [] caps)
  (h:(Dn prog).call f caps ⟨cq b r q iv cs nx 0 od is,N⟩=some (.tup [],⟨cq b r q iv cs2 nx2 0 od2 is2,N⟩)) (ho:Uv b r q iv N 0 (i+1) cs2 nx2 od2 is2 x):Uv b r q iv N e0 i cs nx od is x:=by
 refine⟨fun H n e=>?_,fun e h2=>?_⟩
 ·rw[ap6 b r q iv N i hi f caps hF hF2 h];exact ho.1 H n e
 ·rw[ap6 b r q iv N i hi f caps hF hF2 h];exact ho.2 e h2
theorem axw {e0:Int}{i:Nat}{cs:List AV}{a0 a1 a2 a3 a4 a5 a6 a7 a8:AV}{nx nx2 od od2 is is2:Int}{e:Nat}(hi:i<8) (f:FuncId) (caps:List AV) (hF:oU[i]?=some (.fn f [] caps)) (hF2:firm (firm (firm (share (.fn f [] caps))))=.fn f [] caps)
  (h:(Dn prog).call f caps ⟨cq b r q iv cs nx 0 od is,N⟩=some (.tup [],⟨cq b r q iv [a0,a1,a2,a3,a4,a5,a6,a7,a8] nx2 ((e:Int)+1) od2 is2,N⟩)):Uv b r q iv N e0 i cs nx od is (.er e):=by
 refine⟨fun H n h2=>absurd h2 (by simp),fun e' h2=>?_⟩
 grind [aym]
end
theorem aox {b:List Nat}{i:am}{g:List (List ao)}{n:Nat}(hm:i.may 11) (h:Rt b i.max.toNat i.groups.length g n) :
  g≠[]∧g.length≤8∧gX i g∧(∀ l∈g,l.length≤100)∧∀ l∈g,ah6 l∧apj l:=by
 obtain⟨h1,h2,h3⟩:=h;have hmx:=jx hm;obtain⟨q1,q2⟩:=cD hm;have hmm:=uT i;have hgl:i.groups.length≤8:=by have:=lk (fun n hn=>(q1 n hn).1);omega
 have hgn:i.groups≠[]:=fun h=>by grind
 have hg1:=List.length_pos_iff.2 hgn;have hmc:((i.max.toNat:Nat):Int)=i.max:=Int.toNat_of_nonneg hmx.1;have hf:∀ l∈g,fitsS i.max l:=fun l hl=>by simp_all
 refine⟨fun h=>by simp_all,by omega,⟨h3,hf⟩,fun l hl=>by grind,fun l hl=>⟨⟨by grind,fun s hs=>?_⟩,HA (hf l hl)⟩⟩;have:=px (hf l hl) (by omega) s hs;omega
theorem kQ {α β:Type}{x:R α}{f:α→Nat→R β}{v:β}{n:Nat}(h:x.bind f=.ok v n):∃ u m,x=.ok u m∧f u m=.ok v n:=by
 cases x with
 | ok u m=>exact⟨u,m,rfl,h⟩
 | er e=>simp_all
theorem akz {α:Type}{c:Prop}[Decidable c] {v w:α}{n m:Nat}(h:MZ c v n=.ok w m):c∧v=w∧n=m:=by
 grind [MZ]
theorem anq {b:List Nat}:∀ {k a:Nat}{l:List Nat}{n:Nat},a≤b.length→qH b k a=.ok l n→n≤b.length
 | 0,a,l,n,ha,h=>by
  grind [qH]
 | k+1,a,l,n,ha,h=>by
  obtain⟨v,m,h1,h⟩:=kQ h;obtain⟨l2,m2,h2,h⟩:=kQ h;have:=anq (cZ h1).2 h2
  simp_all
theorem arW {b:List Nat}{a:Int}{r:Nat}(hr:r≤11) {i:am}{n:Nat}(h:pp b a r=.ok i n):pI b r i n:=by
 obtain⟨o,n1,h1,h⟩:=kQ h;obtain⟨q,n2,h2,h⟩:=kQ h;obtain⟨s,n3,h3,h⟩:=kQ h;have key:i.may r∧n≤b.length:=by
  split at h
  ·obtain⟨m,n4,h4,h⟩:=kQ h;obtain⟨l,n5,h5,h⟩:=kQ h;obtain⟨hc,e1,e2⟩:=akz h;have:=anq (cZ h4).2 h5
   simp_all
  ·obtain⟨m,n4,h4,h⟩:=kQ h;obtain⟨p,n5,h5,h⟩:=kQ h;obtain⟨hc,e1,e2⟩:=akz h;have:=(cZ h5).2
   simp_all
 obtain⟨g1,g2⟩:=cD (iw hr key.1);have hmm:=uT i;exact⟨key.1,key.2,by have:=lk (fun n hn=>(g1 n hn).1);omega⟩
structure pHd (b:List Nat) (r:Nat) (H:Hd) (n:Nat):Prop where
 gain:H.gain≤255
 fit:H.inf.Fit
 may:H.inf.may r
 S:gX H.inf H.S
 Sl:∀ l∈H.S,l.length≤100
 T:H.T.map List.length=H.S.map (fun l=>(al l).length)
 F:H.F.length=H.inf.many∧∀ l∈H.F,l.length≤3∧∀ f∈l,f.coefs.length≤12
 od:0≤H.od∧H.od≤1
 is:H.is≤1
 n:n≤b.length
theorem avg {r:Nat}{i:am}(hr:r≤11) (h:i.may r) (hl:i.groups.length≤100):i.Fit:=by
 have h11:=iw hr h;have hmx:=jx h11;obtain⟨g1,g2⟩:=cD h11;exact⟨by have:=h.1;omega,by have:=h.2.1;omega,by omega,by omega,fun n hn=>by grind⟩
abbrev QX (b:List Nat) (r:Nat) (x:R Hd):Prop:=∀ H n,x=.ok H n→pHd b r H n
theorem ti {b:List Nat}{r:Int}{q:Bool}{iv:List AV}{N R0:Nat}{e0:Int}{i:Nat}{cs cs2:List AV}{nx nx2 od od2 is is2:Int}{x:R Hd}(hi:i<8) (f:FuncId) (caps:List AV) (hF:oU[i]?=some (.fn f [] caps)) (hF2:firm (firm (firm (share (.fn f [] caps))))=.fn f [] caps)
  (h:(Dn prog).call f caps ⟨cq b r q iv cs nx 0 od is,N⟩=some (.tup [],⟨cq b r q iv cs2 nx2 0 od2 is2,N⟩)) (ho:Uv b r q iv N 0 (i+1) cs2 nx2 od2 is2 x∧QX b R0 x):Uv b r q iv N e0 i cs nx od is x∧QX b R0 x :=
 by grind [ay8]
theorem s9 {b:List Nat}{r:Int}{q:Bool}{iv:List AV}{N R0:Nat}{e0:Int}{i:Nat}{cs:List AV}{a0 a1 a2 a3 a4 a5 a6 a7 a8:AV}{nx nx2 od od2 is is2:Int}{e:Nat}(hi:i<8) (f:FuncId) (caps:List AV) (hF:oU[i]?=some (.fn f [] caps)) (hF2:firm (firm (firm (share (.fn f [] caps))))=.fn f [] caps)
  (h:(Dn prog).call f caps ⟨cq b r q iv cs nx 0 od is,N⟩=some (.tup [],⟨cq b r q iv [a0,a1,a2,a3,a4,a5,a6,a7,a8] nx2 ((e:Int)+1) od2 is2,N⟩)):Uv b r q iv N e0 i cs nx od is (.er e)∧QX b R0 (.er e) :=
 by grind [axw]
theorem apL {b:List Nat}{i:am}{a:Int}{g:List (List ao)}{n:Nat}(h:nb b i a=.ok g n):Rt b i.max.toNat i.groups.length g n:=by
 rw[nb]at h;split at h
 ·exact NS (by omega) h
 simp_all
theorem atK {b:List Nat}{g:List (List ao)}{a gain:Int}(hg:0≤gain∧gain≤255) {t:List (List Int)}{n:Nat}(h:qt b g a gain=.ok t n):pSc b g t n:=by
 rw[qt]at h;split at h
 ·rename_i ha;obtain⟨A,rfl⟩:=Int.eq_ofNat_of_zero_le ha.1;exact SJ (by omega) ⟨by omega,by omega⟩ ⟨by omega,by omega⟩ h
 simp_all
theorem T2 (b:List Nat) (hb:b.length≤1000000000) (r:Int) (hr:dc r) (q:Bool) (i:am) (hi:i.Fit) (iv:List AV) (hiv:iv=i.cells∨q=false∧iv=zI) (hq:q=true→i.may r.toNat) (nx:Int) (hn:i64 nx) (e0:Int) (N:Nat) :
  Uv b r q iv N e0 0 ah4 nx 0 0 (AL b nx r.toNat q i)∧QX b r.toNat (AL b nx r.toNat q i):=by
 have hR:r.toNat≤11:=by omega
 rw[AL];have h:=axy b hb r q iv nx 0 0 hn N (.d (.int .i64 0)) (.d (.int .u8 0)) (.d (.int .u8 0)) (.d (.int .i64 0)) .nl .nl .nl .nl .nl
 cases e1:aQ b nx 8 with
 | er e=>rw[e1,fc]at h;exact s9 (by decide) ni sJ rfl rfl h
 | ok g n1 =>
 have p1:=cZ e1;have hg:g<256:=p1.1;have hn1:=p1.2;have i1:i64 (n1:Int):=by omega
 rw[e1,cG p1]at h;rw[ak];refine ti (by decide) ni sJ rfl rfl h ?_;clear h;have key:∃ X:R am,X=(if q=true then R.ok i n1 else pp b n1 r.toNat)∧(∀ j n,X=.ok j n→((j.Fit∧j.may r.toNat)∧n≤b.length)∧(Dn prog).call ic [.ptr 3 0,.ptr 4 0,.ptr 2 0,.ptr 0 0,.ptr 5 0,.ptr 1 0,.ptr 6 0] ⟨cq b r q iv [.d (.int .i64 g),.d (.int .u8 0),.d (.int .u8 0),.d (.int .i64 0),.nl,.nl,.nl,.nl,.nl] n1 0 0 0,N⟩=some (.tup [],⟨cq b r q iv [.d (.int .i64 g),.d (.int .u8 j.seq),.d (.int .u8 j.shape),.d (.int .i64 j.max),.own false 1 (ai j.groups),.nl,.nl,.nl,.nl] n 0 0 0,N⟩))∧
   (∀ e,X=.er e→(Dn prog).call ic [.ptr 3 0,.ptr 4 0,.ptr 2 0,.ptr 0 0,.ptr 5 0,.ptr 1 0,.ptr 6 0] ⟨cq b r q iv [.d (.int .i64 g),.d (.int .u8 0),.d (.int .u8 0),.d (.int .i64 0),.nl,.nl,.nl,.nl,.nl] n1 0 0 0,N⟩=some (.tup [],⟨cq b r q iv [.d (.int .i64 g),.d (.int .u8 0),.d (.int .u8 0),.d (.int .i64 0),.nl,.nl,.nl,.nl,.nl] 0 ((e:Int)+1) 0 0,N⟩)):=by
  refine⟨_,rfl,fun j n h=>?_,fun e h=>?_⟩
  ·grind [avY,am.Fit.len,arW,amM,cG,avg]
  ·cases hqc:q with
   | true=>simp_all
   | false =>
    rw[hqc]at h;simp only[Bool.false_eq_true,if_false]at h;have h3:=amM b hb r false iv n1 0 0 i1 N rfl hr i (by have:=hi.len;omega) (hiv.imp id And.right) (.d (.int .i64 g)) (.d (.int .u8 0)) (.d (.int .u8 0)) (.d (.int .i64 0)) .nl .nl .nl .nl .nl
    simp_all
 obtain⟨X,hX,hX1,hX2⟩:=key;rw[←hX]
 cases e2:X with
 | er e=>exact s9 (by decide) ic _ rfl rfl (hX2 e e2)
 | ok j n2 =>
 obtain⟨⟨⟨hj,hjm⟩,hn2⟩,h⟩:=hX1 j n2 e2;have i2:i64 (n2:Int):=by omega
 have hjm11:=iw hR hjm;have hmx:=jx hjm11;obtain⟨gr1,gr2⟩:=cD hjm11;have hmm:=uT j;have hgn:j.groups≠[]:=fun h=>by grind
 rw[ak];refine ti (by decide) ic _ rfl rfl h ?_;clear h hX hX1 hX2 e2 X;have h:=axL b hb r q iv n2 0 0 i2 N j hj hjm11 hgn (.d (.int .i64 g)) .nl .nl .nl .nl
 cases e3:nb b j n2 with
 | er e=>rw[e3,fc]at h;exact s9 (by decide) mZ sJ rfl rfl h
 | ok S n3 =>
 have p3:=apL e3;have hn3:=p3.2.1;have i3:i64 (n3:Int):=by omega
 obtain⟨s1,s2,s3,s4,s5⟩:=aox hjm11 p3;rw[e3,cG p3]at h;rw[ak];refine ti (by decide) mZ sJ rfl rfl h ?_;clear h;have h:=ayI b hb r q iv n3 0 0 i3 N g (by omega) j.max hmx S s1 s2 s3.2 (fun l hl=>by simp_all) s5 (.d (.int .u8 j.seq)) (.d (.int .u8 j.shape)) (.d (.int .i64 j.max)) (.own false 1 (ai j.groups)) .nl .nl .nl
 cases e4:qt b S n3 g with
 | er e=>rw[e4,fc]at h;exact s9 (by decide) mX sJ rfl rfl h
 | ok T n4 =>
 have p4:=atK (by omega) e4;have hn4:=p4.2;have i4:i64 (n4:Int):=by omega
 rw[e4,cG p4]at h;rw[ak];refine ti (by decide) mX sJ rfl rfl h ?_;clear h;have h:=ay9 b hb r q iv n4 0 0 i4 N [.d (.int .i64 g),.d (.int .u8 j.seq),.d (.int .u8 j.shape),.d (.int .i64 j.max),.own false 1 (ai j.groups),ax 1 (aC S),share (ax 1 (bq T)),.nl,.nl]
 cases e5:aQ b n4 1 with
 | er e=>rw[e5,fc]at h;exact s9 (by decide) na _ rfl rfl h
 | ok o n5 =>
 have p5:=cZ e5;have ho:o<2:=p5.1;have hn5:=p5.2;have i5:i64 (n5:Int):=by omega
 rw[e5,cG p5]at h;rw[ak];refine ti (by decide) na _ rfl rfl h ?_;clear h;have h:=ayU b hb r q iv n5 o 0 i5 N [.d (.int .i64 g),.d (.int .u8 j.seq),.d (.int .u8 j.shape),.d (.int .i64 j.max),.own false 1 (ai j.groups),ax 1 (aC S),share (ax 1 (bq T)),.nl,.nl]
 cases e6:aQ b n5 1 with
 | er e=>rw[e6,fc]at h;exact s9 (by decide) nq _ rfl rfl h
 | ok s n6 =>
 have p6:=cZ e6;have hs:s<2:=p6.1;have hn6:=p6.2;have i6:i64 (n6:Int):=by omega
 rw[e6,cG p6]at h;rw[ak];refine ti (by decide) nq _ rfl rfl h ?_;clear h;have key:∃ X:R (List (List aR)),X=(if s=1 then I2 b j n6 else R.ok (List.replicate j.many []) n6)∧(∀ F n,X=.ok F n→pTn b j F n∧(Dn prog).call il [.ptr 8 0,.ptr 0 0,.ptr 5 0,.ptr 4 0,.ptr 6 0] ⟨cq b r q iv [.d (.int .i64 g),.d (.int .u8 j.seq),.d (.int .u8 j.shape),.d (.int .i64 j.max),.own false 1 (ai j.groups),ax 1 (aC S),share (ax 1 (bq T)),.nl,.nl] n6 0 o s,N⟩=some (.tup [],⟨cq b r q iv [.d (.int .i64 g),.d (.int .u8 j.seq),.d (.int .u8 j.shape),.d (.int .i64 j.max),.own false 1 (ai j.groups),ax 1 (aC S),share (ax 1 (bq T)),ax 1 (bi F),.nl] n 0 o s,N⟩))∧
   (∀ e,X=.er e→(Dn prog).call il [.ptr 8 0,.ptr 0 0,.ptr 5 0,.ptr 4 0,.ptr 6 0] ⟨cq b r q iv [.d (.int .i64 g),.d (.int .u8 j.seq),.d (.int .u8 j.shape),.d (.int .i64 j.max),.own false 1 (ai j.groups),ax 1 (aC S),share (ax 1 (bq T)),.nl,.nl] n6 0 o s,N⟩=some (.tup [],⟨cq b r q iv [.d (.int .i64 g),.d (.int .u8 j.seq),.d (.int .u8 j.shape),.d (.int .i64 j.max),.own false 1 (ai j.groups),ax 1 (aC S),share (ax 1 (bq T)),.nl,.nl] 0 ((e:Int)+1) o s,N⟩)):=by
  refine⟨_,rfl,fun F n h=>?_,fun e h=>?_⟩
  ·by_cases h1:s=1
   ·grind [arT,anB,cG]
   ·rw[if_neg h1]at h;injection h with g1 g2
    subst g1 g2;have h3:=axr b r q iv n6 o s N j hj hjm11 (by omega) (.d (.int .i64 g)) (ax 1 (aC S)) (share (ax 1 (bq T))) .nl .nl;refine⟨⟨by simp,hn6,fun l hl=>by simp_all⟩,?_⟩;have e9:ax 1 (bi (List.replicate j.many []))=.own false 1 (bi (List.replicate j.many [])):=lR (fun hz=>by
     grind [ae5])
    simp_all
  grind [anB,fc]
 obtain⟨X,hX,hX1,hX2⟩:=key;rw[←hX]
 cases e7:X with
 | er e=>exact s9 (by decide) il _ rfl rfl (hX2 e e7)
 | ok F n7 =>
 obtain⟨p7,h⟩:=hX1 F n7 e7;have i7:i64 (n7:Int):=by omega
 rw[ak];refine ti (by decide) il _ rfl rfl h ?_;have h:=axv b hb r q iv n7 o s i7 N [.d (.int .i64 g),.d (.int .u8 j.seq),.d (.int .u8 j.shape),.d (.int .i64 j.max),.own false 1 (ai j.groups),ax 1 (aC S),share (ax 1 (bq T)),ax 1 (bi F),.nl] (by omega)
 cases e8:aQ b n7 1 with
 | er e=>rw[e8,fc]at h;exact s9 (by decide) mY _ rfl rfl h
 | ok p n8 =>
 have p8:=cZ e8;have hn8:=p8.2;rw[e8,cG p8]at h;rw[ak];refine ti (by decide) mY _ rfl rfl h ⟨⟨fun H n hh=>?_,fun e hh=>absurd hh (by simp)⟩,fun H n hh=>?_⟩
 ·grind [awE]
 ·injection hh with g1 g2
  subst g1 g2;exact⟨by grind,hj,hjm,s3,s4,p4.1,⟨p7.1,p7.2.2⟩,by grind [orB],by grind,hn8⟩
theorem av4 (id:Nat):aO prog DI [.d (.int .i64 id)]=some (.d (.int .i64 (aM id))):=by
 rw[aq aqP LU.eq_1 rfl];unfold aM;by_cases h:id<5
 ·simp (disch:=omega) [↓if_pos]
 ·simp (disch:=omega) [↓if_neg]
def pY (d hi:Nat):Nat→Nat→List Nat
 | 0,_=>[]
 | f+1,x=>if x<hi then x::pY d hi f (x+d) else []
def qp (os:List Nat) (d b:Nat):Nat→Nat→List Nat
 | 0,_=>[]
 | k+1,w=>(pY d (nth os (b+1)) 300 (nth os b)).map (fun x=>w*32+x)++qp os d b k (w+1)
def v6 (os:List Nat) (d n first:Nat):Nat→Nat→List Nat
 | 0,_=>[]
 | k+1,b=>qp os d b n first++v6 os d n first k (b+1)
def xJ (os:List Nat) (n first:Nat):List ao→Nat→List (Nat×Nat)
 | [],_=>[]
 | s::r,b=>(if s.book=0∨s.book=13 then [] else (v6 os (aM s.book.toNat) n first s.len.toNat b).map fun x=>(s.book.toNat,x))++xJ os n first r (b+s.len.toNat)
def mN (os:List Nat):List (List ao)→List Int→Nat→List (Nat×Nat)
 | l::r,n::g,first=>xJ os n.toNat first l 0++mN os r g (first+n.toNat)
 | _,_,_=>[]
def gJ {σ τ:Type}(st:Nat×Nat→σ→Sum σ τ):List (Nat×Nat)→σ→Sum σ τ
 | [],s=>.inl s
 | p::r,s=>match st p s with
  | .inl s=>gJ st r s
  | .inr z=>.inr z
theorem xR {σ τ:Type}{st:Nat×Nat→σ→Sum σ τ}:∀ {l r:List (Nat×Nat)}{s:σ},gJ st (l++r) s=match gJ st l s with
  | .inl s=>gJ st r s
  | .inr z=>.inr z
 | [],r,s=>rfl
 | p::l,r,s=>by
  rw[List.cons_append,gJ,gJ]
  cases st p s with
  | inl s=>simp only[xR]
  | inr z=>rfl
def KK {σ τ:Type}(hp:σ→ac→ac) (hq:τ→ac→ac) (L l:Nat) (st:Nat×Nat→σ→Sum σ τ) (bw:List (Nat×Nat)→σ→Prop):Prop :=
 ∀ p r s K o N,bw (p::r) s→L≤K→K<N→
  (∃ s2 M,N≤M∧st p s=.inl s2∧bw r s2∧bf (Dn prog) (.yield l) [.agg [.d (.int .i64 (p.1:Int)),.d (.int .i64 (p.2:Int)),.d (.int .i64 ((p.2+aM p.1:Nat):Int))]] ⟨hp s [(K,o)],N⟩=some (.d (.bool true),⟨hp s2 [(K,o)],M⟩))∨
  (∃ z M,N≤M∧st p s=.inr z∧bf (Dn prog) (.yield l) [.agg [.d (.int .i64 (p.1:Int)),.d (.int .i64 (p.2:Int)),.d (.int .i64 ((p.2+aM p.1:Nat):Int))]] ⟨hp s [(K,o)],N⟩=some (.d (.bool false),⟨hq z [(K,o)],M⟩))
structure PlS where
 l:Nat
 p2:Nat
 p3:Nat
 full:List (List ao)
 os:List Nat
abbrev eP (P:PlS) (first g b:Int) (r:ar):ar:=(0,.yield P.l)::(2,.ptr P.p2 0)::(3,.ptr P.p3 0)::(5,.d (.int .i64 first))::(6,.d (.int .i64 g))::(8,.d (.int .i64 b))::r
abbrev DZ (P:PlS) (g:Int) (r:ar):ar:=(14,.d (.lst (aC P.full)))::(15,.d (.int .i64 P.full.length))::(16,.d (.int .i64 g))::r
abbrev My (ls:List ao) (k:Int):ar:=[(21,.d (.lst (dL ls))),(22,.d (.int .i64 ls.length)),(23,.d (.int .i64 k))]
section
variable {σ τ:Type}{hp:σ→ac→ac}{hq:τ→ac→ac}{L:Nat}{P:PlS}{st:Nat×Nat→σ→Sum σ τ}{bw:List (Nat×Nat)→σ→Prop}
theorem aAT (H:Tl hp L) (H2:Tl hq L) (hY:KK hp hq L P.l st bw) (hg3:∀ s T,get (hp s T) P.p3=some (.cells [.own false 1 (bj P.os)])) (s0:ao) (bk:Nat) (hbk:s0.book=bk) (hb1:1≤bk∧bk≤11) (b:Nat) (hb:b+1<P.os.length) (ho:P.os.length≤100) (hhi:nth P.os (b+1)≤256) (first g en gi k:Int) (w:Nat) (hw:w≤8) (ls:List ao) (K:Nat) (hK:L≤K) (rest:List (Nat×Nat)):∀ (f x N:Nat) (s:σ),nth P.os (b+1)≤x+f→x≤300→K<N→bw ((pY (aM bk) (nth P.os (b+1)) f x).map (fun y=>(bk,w*32+y))++rest) s→
  (∃ s2 M,N≤M∧gJ st ((pY (aM bk) (nth P.os (b+1)) f x).map (fun y=>(bk,w*32+y))) s=.inl s2∧bw rest s2∧
   (Dn prog).code (.loop dF) ⟨eP P first g b ((10,.ptr K 0)::(11,.d (.int .i64 en))::(12,.d (.int .i64 w))::(13,.d (.int .i64 x))::DZ P gi (My ls k)),⟨hp s [(K,.cells [.d (.int .i64 s0.book),.d (.int .i64 s0.len)])],N⟩⟩ =
   some (.exit 8,⟨eP P first g b ((10,.ptr K 0)::(11,.d (.int .i64 en))::(12,.d (.int .i64 w))::DZ P gi (My ls k)),⟨hp s2 [(K,.cells [.d (.int .i64 s0.book),.d (.int .i64 s0.len)])],M⟩⟩))∨
  (∃ z M,N≤M∧gJ st ((pY (aM bk) (nth P.os (b+1)) f x).map (fun y=>(bk,w*32+y))) s=.inr z∧
   (Dn prog).code (.loop dF) ⟨eP P first g b ((10,.ptr K 0)::(11,.d (.int .i64 en))::(12,.d (.int .i64 w))::(13,.d (.int .i64 x))::DZ P gi (My ls k)),⟨hp s [(K,.cells [.d (.int .i64 s0.book),.d (.int .i64 s0.len)])],N⟩⟩ =
   some (.ret,⟨[],⟨hq z [],M⟩⟩)):=by
 have hG:=fun s o=>H.get s K o hK
 have hD2:=fun s o=>H2.del s K o hK
 have hd4:aM bk≤4∧2≤aM bk:=by grind [aM]
 have hdim:=av4 bk;have hgo:(bj P.os)[b+1]?=some [.int .i64 (nth P.os (b+1):Nat)]:=xa hb;have hne:bj P.os≠[]:=by grind
 intro f
 induction f with
 | zero =>
  intro x N s h1 h2 hKN hi;refine .inl ⟨s,N,Nat.le_refl _,rfl,hi,?_⟩;rw[aa dF.eq_1];simp (disch:=omega) [↓if_neg,hg3,hgo]
 | succ f ih =>
  intro x N s h1 h2 hKN hi;by_cases hx:x<nth P.os (b+1)
  ·rw[pY,if_pos hx,List.map_cons,List.cons_append]at hi;rw[pY,if_pos hx,List.map_cons,gJ];have c1:((x+aM bk:Nat):Int)=(x:Int)+aM bk:=rfl;have c2:((w*32+x:Nat):Int)=(w:Int)*32+x:=by omega
   have c3:((w*32+x+aM bk:Nat):Int)=(w:Int)*32+x+aM bk:=by omega
   rcases hY (bk,w*32+x) _ s K (.cells [.d (.int .i64 s0.book),.d (.int .i64 s0.len)]) N hi hK hKN with ⟨s2,M,hM,e1,e2,e3⟩ | ⟨z,M,hM,e1,e3⟩
   ·rw[e1];simp only[c2,c3]at e3;have h9:=ih (x+aM bk) M s2 (by omega) (by omega) (by omega) e2;rw[c1]at h9;rw[hbk]at h9 e3⊢;rcases h9 with ⟨s3,M2,hM2,f1,f2,f3⟩ | ⟨z,M2,hM2,f1,f3⟩
    ·refine .inl ⟨s3,M2,by omega,f1,f2,?_⟩;rw[←f3,aa dF.eq_1];simp (disch:=omega) [↓if_pos,hg3,hgo,hG,hdim,-io,e3]
    ·refine .inr ⟨z,M2,by omega,f1,?_⟩;rw[←f3,aa dF.eq_1];simp (disch:=omega) [↓if_pos,hg3,hgo,hG,hdim,-io,e3]
   ·rw[e1];simp only[c2,c3]at e3;rw[hbk]at e3⊢;refine .inr ⟨z,M,hM,rfl,?_⟩;rw[aa dF.eq_1];simp (disch:=omega) [↓if_pos,hg3,hgo,hG,hdim,-io,e3,hD2]
  ·rw[pY,if_neg hx]at hi;rw[pY,if_neg hx];refine .inl ⟨s,N,Nat.le_refl _,rfl,hi,?_⟩;rw[aa dF.eq_1];simp (disch:=omega) [↓if_neg,hg3,hgo]
theorem aAw (i:am) (hil:i.groups.length≤1000) (H:Tl hp L) (H2:Tl hq L) (hY:KK hp hq L P.l st bw) (hg2:∀ s T,get (hp s T) P.p2=some (.cells i.cells)) (hg3:∀ s T,get (hp s T) P.p3=some (.cells [.own false 1 (bj P.os)])) (s0:ao) (bk:Nat) (hbk:s0.book=bk) (hb1:1≤bk∧bk≤11) (b:Nat) (hb:b+1<P.os.length) (ho:P.os.length≤100) (hhi:∀ x∈P.os,x≤256) (first n g:Nat) (hgl:g<i.groups.length) (hn:nth i.groups g=n) (hfn:first+n≤8) (en gi k:Int) (ls:List ao) (K:Nat) (hK:L≤K) (rest:List (Nat×Nat)):∀ (j w N:Nat) (s:σ),w+j=first+n→K<N→bw ((qp P.os (aM bk) b j w).map (fun y=>(bk,y))++rest) s→
  (∃ s2 M,N≤M∧gJ st ((qp P.os (aM bk) b j w).map (fun y=>(bk,y))) s=.inl s2∧bw rest s2∧
   (Dn prog).code (.loop eC) ⟨eP P first g b ((10,.ptr K 0)::(11,.d (.int .i64 en))::(12,.d (.int .i64 w))::DZ P gi (My ls k)),⟨hp s [(K,.cells [.d (.int .i64 s0.book),.d (.int .i64 s0.len)])],N⟩⟩ =
   some (.exit 6,⟨eP P first g b ((10,.ptr K 0)::(11,.d (.int .i64 en))::DZ P gi (My ls k)),⟨hp s2 [(K,.cells [.d (.int .i64 s0.book),.d (.int .i64 s0.len)])],M⟩⟩))∨
  (∃ z M,N≤M∧gJ st ((qp P.os (aM bk) b j w).map (fun y=>(bk,y))) s=.inr z∧
   (Dn prog).code (.loop eC) ⟨eP P first g b ((10,.ptr K 0)::(11,.d (.int .i64 en))::(12,.d (.int .i64 w))::DZ P gi (My ls k)),⟨hp s [(K,.cells [.d (.int .i64 s0.book),.d (.int .i64 s0.len)])],N⟩⟩ =
   some (.ret,⟨[],⟨hq z [],M⟩⟩)):=by
 have hgo:(bj P.os)[b]?=some [.int .i64 (nth P.os b:Nat)]:=xa (by omega);have hob:=hhi (nth P.os b) (gn (by omega));have hob1:=hhi (nth P.os (b+1)) (gn hb);simp only[am.cells]at hg2;intro j
 induction j with
 | zero =>
  intro w N s h1 hKN hi;refine .inl ⟨s,N,Nat.le_refl _,rfl,hi,?_⟩;rw[aa eC.eq_1];simp (disch:=omega) [↓if_neg,hg2,hn]
 | succ j ih =>
  intro w N s h1 hKN hi;have c1:((w+1:Nat):Int)=(w:Int)+1:=rfl;have em:(qp P.os (aM bk) b (j+1) w).map (fun y=>(bk,y))=(pY (aM bk) (nth P.os (b+1)) 300 (nth P.os b)).map (fun y=>(bk,w*32+y))++(qp P.os (aM bk) b j (w+1)).map (fun y=>(bk,y)):=by
   simp_all [qp]
  rw[em]at hi⊢;rw[List.append_assoc]at hi;rw[xR];rcases aAT H H2 hY hg3 s0 bk hbk hb1 b hb ho hob1 first g en gi k w (by omega) ls K hK _ 300 (nth P.os b) N s (by omega) (by omega) hKN hi with ⟨s2,M,hM,e1,e2,e3⟩ | ⟨z,M,hM,e1,e3⟩
  ·rw[e1];have h9:=ih (w+1) M s2 (by omega) (by omega) e2;rcases h9 with ⟨s3,M2,hM2,f1,f2,f3⟩ | ⟨z,M2,hM2,f1,f3⟩
   ·refine .inl ⟨s3,M2,by omega,f1,f2,?_⟩;rw[←f3,aa eC.eq_1];simp (disch:=omega) [↓if_pos,hg2,hg3,hgo,hn,e3]
   ·refine .inr ⟨z,M2,by omega,f1,?_⟩;rw[←f3,aa eC.eq_1];simp (disch:=omega) [↓if_pos,hg2,hg3,hgo,hn,e3]
  ·rw[e1];refine .inr ⟨z,M,hM,rfl,?_⟩;rw[aa eC.eq_1];simp (disch:=omega) [↓if_pos,hg2,hg3,hgo,hn,e3]
theorem aBn (i:am) (hil:i.groups.length≤1000) (H:Tl hp L) (H2:Tl hq L) (hY:KK hp hq L P.l st bw) (hg2:∀ s T,get (hp s T) P.p2=some (.cells i.cells)) (hg3:∀ s T,get (hp s T) P.p3=some (.cells [.own false 1 (bj P.os)])) (s0:ao) (bk:Nat) (hbk:s0.book=bk) (hb1:bk≤11∨bk=13) (ho:P.os.length≤100) (hhi:∀ x∈P.os,x≤256) (first n g:Nat) (hgl:g<i.groups.length) (hn:nth i.groups g=n) (hfn:first+n≤8) (en:Nat) (hen:en<P.os.length) (gi k:Int) (ls:List ao) (K:Nat) (hK:L≤K) (rest:List (Nat×Nat)):∀ (j b N:Nat) (s:σ),b+j=en→K<N→bw ((if bk=0∨bk=13 then [] else (v6 P.os (aM bk) n first j b).map (fun y=>(bk,y)))++rest) s→
  (∃ s2 M,N≤M∧gJ st (if bk=0∨bk=13 then [] else (v6 P.os (aM bk) n first j b).map (fun y=>(bk,y))) s=.inl s2∧bw rest s2∧
   (Dn prog).code (.loop cO) ⟨eP P first g b ((10,.ptr K 0)::(11,.d (.int .i64 en))::DZ P gi (My ls k)),⟨hp s [(K,.cells [.d (.int .i64 s0.book),.d (.int .i64 s0.len)])],N⟩⟩ =
   some (.exit 4,⟨eP P first g en (DZ P gi (My ls k)),⟨hp s2 [],M⟩⟩))∨
  (∃ z M,N≤M∧gJ st (if bk=0∨bk=13 then [] else (v6 P.os (aM bk) n first j b).map (fun y=>(bk,y))) s=.inr z∧
   (Dn prog).code (.loop cO) ⟨eP P first g b ((10,.ptr K 0)::(11,.d (.int .i64 en))::DZ P gi (My ls k)),⟨hp s [(K,.cells [.d (.int .i64 s0.book),.d (.int .i64 s0.len)])],N⟩⟩ =
   some (.ret,⟨[],⟨hq z [],M⟩⟩)):=by
 have hG:=fun s o=>H.get s K o hK
 have hD:=fun s o=>H.del s K o hK
 intro j
 induction j with
 | zero =>
  intro b N s h1 hKN hi;have eb:b=en:=by omega
  subst eb;have e0:(if bk=0∨bk=13 then [] else (v6 P.os (aM bk) n first 0 b).map (fun y=>(bk,y)))=[]:=by split<;>rfl
  rw[e0]at hi⊢;refine .inl ⟨s,N,Nat.le_refl _,rfl,hi,?_⟩;rw[aa cO.eq_1];simp (disch:=omega) [↓if_neg,hD]
 | succ j ih =>
  intro b N s h1 hKN hi;have c1:((b+1:Nat):Int)=(b:Int)+1:=rfl;by_cases h0:bk=0∨bk=13
  ·rw[if_pos h0]at hi⊢;have h9:=ih (b+1) N s (by omega) hKN (by simp_all);rw[if_pos h0,c1]at h9;rw[hbk]at h9⊢;rcases h9 with ⟨s3,M2,hM2,f1,f2,f3⟩ | ⟨z,M2,hM2,f1,f3⟩
   ·refine .inl ⟨s3,M2,by omega,f1,f2,?_⟩;rw[←f3,aa cO.eq_1];rcases h0 with h0 | h0<;>simp (disch:=omega) [↓if_pos,↓if_neg,hG]
   ·refine .inr ⟨z,M2,by omega,f1,?_⟩;rw[←f3,aa cO.eq_1];rcases h0 with h0 | h0<;>simp (disch:=omega) [↓if_pos,↓if_neg,hG]
  ·rw[if_neg h0]at hi⊢;have em:(v6 P.os (aM bk) n first (j+1) b).map (fun y=>(bk,y))=(qp P.os (aM bk) b n first).map (fun y=>(bk,y))++(v6 P.os (aM bk) n first j (b+1)).map (fun y=>(bk,y)):=by
    grind [v6]
   rw[em]at hi⊢;rw[List.append_assoc]at hi;rw[xR];rcases aAw i hil H H2 hY hg2 hg3 s0 bk hbk (by omega) b (by omega) ho hhi first n g hgl hn hfn en gi k ls K hK _ n first N s rfl hKN hi with ⟨s2,M,hM,e1,e2,e3⟩ | ⟨z,M,hM,e1,e3⟩
   ·rw[e1];have h9:=ih (b+1) M s2 (by omega) (by omega) (by simp_all);rw[if_neg h0,c1]at h9;rw[hbk]at h9 e3⊢;rcases h9 with ⟨s3,M2,hM2,f1,f2,f3⟩ | ⟨z,M2,hM2,f1,f3⟩
    ·refine .inl ⟨s3,M2,by omega,f1,f2,?_⟩;rw[←f3,aa cO.eq_1];simp (disch:=omega) [↓if_pos,↓if_neg,hG,e3]
    ·refine .inr ⟨z,M2,by omega,f1,?_⟩;rw[←f3,aa cO.eq_1];simp (disch:=omega) [↓if_pos,↓if_neg,hG,e3]
   ·rw[e1];refine .inr ⟨z,M,hM,rfl,?_⟩;rw[aa cO.eq_1];simp (disch:=omega) [↓if_pos,↓if_neg,hG,e3]
theorem aAu (i:am) (hil:i.groups.length≤1000) (H:Tl hp L) (H2:Tl hq L) (hY:KK hp hq L P.l st bw) (hg2:∀ s T,get (hp s T) P.p2=some (.cells i.cells)) (hg3:∀ s T,get (hp s T) P.p3=some (.cells [.own false 1 (bj P.os)])) (ho:P.os.length≤100) (hhi:∀ x∈P.os,x≤256) (first n g:Nat) (hgl:g<i.groups.length) (hn:nth i.groups g=n) (hfn:first+n≤8) (gi:Int) (ls:List ao) (hls:ls.length≤1000) (rest:List (Nat×Nat)):∀ (r:List ao) (k b N:Nat) (lf:Int) (s:σ),ls.drop k=r→fitsS lf r→(b:Int)+lf<P.os.length→L≤N→bw (xJ P.os n first r b++rest) s→
  (∃ s2 M,N≤M∧gJ st (xJ P.os n first r b) s=.inl s2∧bw rest s2∧
   (Dn prog).code (.loop ew) ⟨eP P first g b (DZ P gi (My ls k)),⟨hp s [],N⟩⟩ =
   some (.exit 2,⟨(0,.yield P.l)::(2,.ptr P.p2 0)::(3,.ptr P.p3 0)::(5,.d (.int .i64 first))::(6,.d (.int .i64 g))::DZ P gi [],⟨hp s2 [],M⟩⟩))∨
  (∃ z M,N≤M∧gJ st (xJ P.os n first r b) s=.inr z∧
   (Dn prog).code (.loop ew) ⟨eP P first g b (DZ P gi (My ls k)),⟨hp s [],N⟩⟩ =
   some (.ret,⟨[],⟨hq z [],M⟩⟩)):=by
 intro r
 induction r with
 | nil =>
  intro k b N lf s hd hf hb hN hi;have hk:=aK hd;refine .inl ⟨s,N,Nat.le_refl _,rfl,hi,?_⟩;rw[aa ew.eq_1];simp (disch:=omega) [↓if_neg]
 | cons s0 r ih =>
  intro k b N lf s hd hf hb hN hi;have hg:=oj hd;have hlt:=aU hd;obtain⟨⟨⟨l1,l2⟩,b1,b2⟩,hf2⟩:=hf;obtain⟨bk,hbk⟩:=Int.eq_ofNat_of_zero_le b1;have hbt:s0.book.toNat=bk:=by omega
  have hif:(s0.book=0∨s0.book=13)↔(bk=0∨bk=13):=by omega
  have em:xJ P.os n first (s0::r) b=(if bk=0∨bk=13 then [] else (v6 P.os (aM bk) n first s0.len.toNat b).map (fun y=>(bk,y)))++xJ P.os n first r (b+s0.len.toNat):=by
   grind [xJ]
  rw[em]at hi⊢;rw[List.append_assoc]at hi;rw[xR];have hp1:=fun s o=>H.put s N o hN
  have hp2:=fun s o o'=>H.put2 s N o o' hN
  have hG:=fun s o=>H.get s N o hN
  have c1:((k+1:Nat):Int)=(k:Int)+1:=rfl;have cE:((b+s0.len.toNat:Nat):Int)=(b:Int)+s0.len:=by omega
  rcases aBn i hil H H2 hY hg2 hg3 s0 bk hbk (by omega) ho hhi first n g hgl hn hfn (b+s0.len.toNat) (by omega) gi k ls N hN _ s0.len.toNat b (N+1) s rfl (by omega) hi with ⟨s2,M,hM,e1,e2,e3⟩ | ⟨z,M,hM,e1,e3⟩
  ·rw[e1];have h9:=ih (k+1) (b+s0.len.toNat) M (lf-s0.len) s2 (aP hd) hf2 (by omega) (by omega) e2;rw[c1,cE]at h9;rw[cE]at e3;rcases h9 with ⟨s3,M2,hM2,f1,f2,f3⟩ | ⟨z,M2,hM2,f1,f3⟩
   ·refine .inl ⟨s3,M2,by omega,f1,f2,?_⟩;rw[←f3,aa ew.eq_1];simp (disch:=omega) [↓if_pos,hg,hp1,hp2,hG,e3]
   ·refine .inr ⟨z,M2,by omega,f1,?_⟩;rw[←f3,aa ew.eq_1];simp (disch:=omega) [↓if_pos,hg,hp1,hp2,hG,e3]
  ·rw[e1];rw[cE]at e3;refine .inr ⟨z,M,by omega,rfl,?_⟩;rw[aa ew.eq_1];simp (disch:=omega) [↓if_pos,hg,hp1,hp2,hG,e3]
theorem aBs (i:am) (hil:i.groups.length≤1000) (H:Tl hp L) (H2:Tl hq L) (hY:KK hp hq L P.l st bw) (hg2:∀ s T,get (hp s T) P.p2=some (.cells i.cells)) (hg3:∀ s T,get (hp s T) P.p3=some (.cells [.own false 1 (bj P.os)])) (ho:P.os.length≤100) (hhi:∀ x∈P.os,x≤256) (m:Int) (hm:0≤m∧m<P.os.length) (hfl:P.full.length≤1000) (hlc:∀ l∈P.full,l.length≤1000) (hgg:∀ n∈i.groups,1≤n) (rest:List (Nat×Nat)):∀ (r:List (List ao)) (q:List Int) (g first N:Nat) (s:σ),P.full.drop g=r→i.groups.drop g=q→r.length=q.length→cP m r→(first:Int)+q.sum≤8→L≤N→bw (mN P.os r q first++rest) s→
  (∃ s2 M,N≤M∧gJ st (mN P.os r q first) s=.inl s2∧bw rest s2∧
   (Dn prog).code (.loop eu) ⟨(0,.yield P.l)::(2,.ptr P.p2 0)::(3,.ptr P.p3 0)::(5,.d (.int .i64 first))::DZ P g [],⟨hp s [],N⟩⟩=some (.exit 0,⟨[],⟨hp s2 [],M⟩⟩))∨
  (∃ z M,N≤M∧gJ st (mN P.os r q first) s=.inr z∧
   (Dn prog).code (.loop eu) ⟨(0,.yield P.l)::(2,.ptr P.p2 0)::(3,.ptr P.p3 0)::(5,.d (.int .i64 first))::DZ P g [],⟨hp s [],N⟩⟩=some (.ret,⟨[],⟨hq z [],M⟩⟩)):=by
 have hg2':=hg2;simp only[am.cells]at hg2';intro r
 induction r with
 | nil =>
  intro q g first N s hd hd2 hl hf hs hN hi
  have hk:=aK hd;have hq0:q=[]:=by grind
  subst hq0;refine .inl ⟨s,N,Nat.le_refl _,rfl,hi,?_⟩;rw[aa eu.eq_1];simp (disch:=omega) [↓if_neg]
 | cons l r ih =>
  intro q g first N s hd hd2 hl hf hs hN hi
  cases q with
  | nil=>simp at hl
  | cons n0 q =>
   have hg:=gw hd;have hlt:=aU hd;have hlt2:=aU hd2;have hn0:nth i.groups g=n0:=by
    grind [kR]
   have hn1:=hgg n0 (by grind [gn]);obtain⟨n,hn⟩:=Int.eq_ofNat_of_zero_le (show 0≤n0 by omega);have hnt:n0.toNat=n:=by omega
   have hqs:0≤q.sum:=by
    have:∀ x∈q,1≤x:=fun x hx=>hgg x (by grind)
    have:=lk this;omega
   rw[List.sum_cons]at hs;have em:mN P.os (l::r) (n0::q) first=xJ P.os n first l 0++mN P.os r q (first+n):=by rw[mN,hnt]
   rw[em]at hi⊢;rw[List.append_assoc]at hi;rw[xR];have hml:l∈P.full:=by rw[←List.take_append_drop g P.full,hd];simp
   have c0:((0:Nat):Int)=0:=rfl;have c1:((g+1:Nat):Int)=(g:Int)+1:=rfl;have cF:((first+n:Nat):Int)=(first:Int)+n:=rfl;simp only[List.length_cons,Nat.add_right_cancel_iff]at hl;rcases aAu i hil H H2 hY hg2 hg3 ho hhi first n g hlt2 (by omega) (by omega) g l (hlc l hml) _ l 0 0 N m s rfl (hf l (.head _)) (by omega) hN hi with ⟨s2,M,hM,e1,e2,e3⟩ | ⟨z,M,hM,e1,e3⟩
   ·rw[e1];have h9:=ih q (g+1) (first+n) M s2 (aP hd) (aP hd2) hl (fun x hx=>hf x (.tail _ hx)) (by omega) (by omega) e2;rw[c1,cF]at h9;rw[c0]at e3;rw[hn]at hn0;rcases h9 with ⟨s3,M2,hM2,f1,f2,f3⟩ | ⟨z,M2,hM2,f1,f3⟩
    ·refine .inl ⟨s3,M2,by omega,f1,f2,?_⟩;rw[←f3,aa eu.eq_1];simp (disch:=omega) [↓if_pos,hg,hg2',hn0,e3]
    ·refine .inr ⟨z,M2,by omega,f1,?_⟩;rw[←f3,aa eu.eq_1];simp (disch:=omega) [↓if_pos,hg,hg2',hn0,e3]
   ·rw[e1];rw[c0]at e3;refine .inr ⟨z,M,hM,rfl,?_⟩;rw[aa eu.eq_1];simp (disch:=omega) [↓if_pos,hg,e3]
end
theorem ain {σ τ:Type}{hp:σ→ac→ac}{hq:τ→ac→ac}{L:Nat}{P:PlS}{st:Nat×Nat→σ→Sum σ τ}{bw:List (Nat×Nat)→σ→Prop}(i:am) (hi:i.Fit) (hm:i.may 11) (p1:Nat) (H:Tl hp L) (H2:Tl hq L) (hY:KK hp hq L P.l st bw) (hg1:∀ s,get (hp s []) p1=some (.cells [.d (.lst (aC P.full))])) (hg2:∀ s T,get (hp s T) P.p2=some (.cells i.cells)) (hg3:∀ s T,get (hp s T) P.p3=some (.cells [.own false 1 (bj P.os)])) (ho:P.os.length≤100) (hhi:∀ x∈P.os,x≤256) (hmo:i.max<P.os.length) (hf:gX i P.full) (N:Nat) (hN:L≤N) (s:σ) (hs:bw (mN P.os P.full i.groups 0) s) :
  (∃ s2 M,N≤M∧gJ st (mN P.os P.full i.groups 0) s=.inl s2∧bw [] s2∧(Dn prog).call dA [.yield P.l,.ptr p1 0,.ptr P.p2 0,.ptr P.p3 0] ⟨hp s [],N⟩=some (.tup [],⟨hp s2 [],M⟩))∨
  (∃ z M,N≤M∧gJ st (mN P.os P.full i.groups 0) s=.inr z∧(Dn prog).call dA [.yield P.l,.ptr p1 0,.ptr P.p2 0,.ptr P.p3 0] ⟨hp s [],N⟩=some (.tup [],⟨hq z [],M⟩)):=by
 have hmx:=jx hm;obtain⟨g1,g2⟩:=cD hm;have hmm:i.many≤8:=by unfold am.many;split<;>omega
 have hgl:i.groups.length≤8:=by have:=lk (fun n hn=>(g1 n hn).1);omega
 have hlc:∀ l∈P.full,l.length≤1000:=fun l hl=>by
  rcases Cp (hf.2 l hl) with h | h
  ·omega
  ·subst h;simp
 have hfl:=hf.1;have c0:((0:Nat):Int)=0:=rfl;have h:=aBs i hi.len H H2 hY hg2 hg3 ho hhi i.max ⟨hmx.1,hmo⟩ (by omega) hlc (fun n hn=>(g1 n hn).1) [] P.full i.groups 0 0 N s rfl rfl hfl hf.2 (by omega) hN (by rw[List.append_nil];exact hs);rw[c0]at h;rw[aD ab0 wS.eq_1 rfl];rcases h with ⟨s2,M,hM,e1,e2,e3⟩ | ⟨z,M,hM,e1,e3⟩
 ·refine .inl ⟨s2,M,hM,e1,e2,?_⟩;simp (maxSteps:=300000) (disch:=omega) [hg1,e3]
 ·refine .inr ⟨z,M,hM,e1,?_⟩;simp (maxSteps:=300000) (disch:=omega) [hg1,e3]
theorem Ig (r:Nat) (hr:r≤11) (i:am) (y:D) (H:ac) (N:Nat) (hL:Lt H N):(Dn prog).call uO [.d (.int .i64 r),.agg i.cells,.d y] ⟨H,N⟩=some (.fn dA [] [.ptr (N+1) 0,.ptr N 0,.ptr (N+1+1) 0],⟨H++[(N,.cells i.cells)]++[(N+1,.cells [.d y])]++[(N+1+1,.cells [.own false 1 (bj (offs r i.short))])],N+1+1+1⟩):=by
 have hof:=uv r i.short;rw[if_pos (by omega)]at hof;simp only[Int.toNat_natCast]at hof;have L1:=Gb (o:=.cells i.cells) hL;have L2:=Gb (o:=.cells [.d y]) L1;have e1:=fun o=>pJ (o:=o) hL
 have e2:=fun o=>pJ (o:=o) L1
 have e3:=fun o=>pJ (o:=o) L2
 have e4:=wh (N:=N+1) (o:=.cells [.d y]) (tk (o:=.cells i.cells) hL);have e5:=fun o=>tk (o:=o) L2
 have e6:=fun o o'=>GM (o:=o) (o':=o') L2
 have hsh:i.short=decide (i.seq=2):=rfl;rw[aD akI Bo.eq_1 rfl];simp only[am.cells]at e1 e2 e3 e4 e5 e6⊢;by_cases hs2:i.seq=2
 ·rw[decide_eq_true hs2]at hsh;rw[hsh]at hof⊢;simp (maxSteps:=300000) (disch:=omega) [↓if_pos,↓if_neg,hof,e1,e2,e3,e4,e5,e6,-List.append_assoc]
 ·rw[decide_eq_false hs2]at hsh;rw[hsh]at hof⊢;simp (maxSteps:=300000) (disch:=omega) [↓if_pos,↓if_neg,hof,e1,e2,e3,e4,e5,e6,-List.append_assoc]
abbrev ayr:List AV:=[.d (.int .i64 0),.d (.int .i64 0),.nl,.nl]
abbrev lc (id:Nat):List AV:=[.d (.int .i64 id),.d (.int .i64 (aG id)),.own false 1 (bj (aW id)),.own false 1 (bj (bF id))]
def AB (C:List AV):Prop:=C.length=48∧∀ id,id<12→sub C (4*id) 4=ayr∨(1≤id∧sub C (4*id) 4=lc id)
theorem H0 {α:Type}{C:List α}{a k:Nat}(hk:k<4):(sub C a 4)[k]?=C[a+k]?:=by
 unfold sub;rw[List.getElem?_take,if_pos hk,List.getElem?_drop]
theorem LA {α:Type}{C W:List α}{a:Nat}(hw:W.length=4) (ha:a+4≤C.length):sub (ah C a W) a 4=W:=by
 unfold sub ah;have h1:(C.take a).length=a:=by rw[List.length_take];omega
 rw[List.append_assoc,List.drop_append_of_le_length (by omega),List.drop_eq_nil_of_le (by omega),List.nil_append,←hw,List.take_left'];rfl
theorem agE {α:Type}{C W:List α}{a b:Nat}(hw:W.length=4) (ha:a+4≤C.length) (hb:b+4≤C.length) (h:b+4≤a∨a+4≤b):sub (ah C a W) b 4=sub C b 4:=by
 apply List.ext_getElem?;intro k;by_cases hk:k<4
 ·rw[H0 hk,H0 hk];unfold ah;have h1:(C.take a).length=a:=by rw[List.length_take];omega
  rcases h with h | h
  ·rw[List.append_assoc,List.getElem?_append_left (by omega),List.getElem?_take,if_pos (by omega)]
  ·rw[List.getElem?_append_right (by rw[List.length_append];omega),List.getElem?_drop,List.length_append,h1,hw]
   congr 1;omega
 ·unfold sub;rw[List.getElem?_eq_none (by rw[List.length_take];omega),List.getElem?_eq_none (by rw[List.length_take];omega)]
theorem ana {α:Type}{C W:List α}{a:Nat}(hw:W.length=4) (ha:a+4≤C.length):(ah C a W).length=C.length:=by
 unfold ah;simp only[List.length_append,List.length_take,List.length_drop];omega
theorem asw {C W:List AV}{a:Nat}(ha:a+4≤C.length) (h:sub C a 4=W):ah C a W=C:=by
 subst h;unfold ah sub;rw[List.length_take,List.length_drop,show a+min 4 (C.length-a)=a+4 by omega,List.append_assoc,←List.drop_drop,List.take_append_drop,List.take_append_drop]
theorem afd {C:List AV}(h:AB C) {id:Nat}(hid:1≤id∧id≤11):AB (ah C (4*id) (lc id)):=by
 refine⟨by rw[ana rfl (by rw[h.1];omega)];exact h.1,fun j hj=>?_⟩;by_cases e:j=id
 ·subst e;exact .inr ⟨hid.1,LA rfl (by rw[h.1];omega)⟩
 ·rw[agE rfl (by rw[h.1];omega) (by rw[h.1];omega) (by omega)];exact h.2 j hj
structure Bk (hp:List AV→ac→ac) (A N:Nat):Prop where
 gA:∀ C T,get (hp C T) A=some (.cells C)
 pA:∀ C T C',put (hp C T) A (.cells C')=hp C' T
 pN:∀ C o,put (hp C []) N o=hp C [(N,o)]
 pN2:∀ C o o',put (hp C [(N,o)]) N o'=hp C [(N,o')]
 gN:∀ C o,get (hp C [(N,o)]) N=some o
 dN:∀ C o,del (hp C [(N,o)]) N=hp C []
theorem L9 {hp:List AV→ac→ac}{A N:Nat}(H:Bk hp A N) (C:List AV) (hC:AB C) (id:Nat) (hid:1≤id∧id≤11):(Dn prog).call iV [.ptr A 0,.d (.int .i64 id)] ⟨hp C [],N⟩=some (jr id,⟨hp (ah C (4*id) (lc id)) [],N+1⟩):=by
 have hb:=S9 id (by omega);simp only[Ny]at hb;have h48:=hC.1;have hia:∀ p,Dy 12 4 (.ptr p 0) (.d (.int .i64 id))=some (.ptr p (4*id)):=fun p=>by
  have hb2:Nat.ble 12 id=false:=by rw[aaA];exact decide_eq_false (by omega)
  simp only[Dy,Nv (show (0:Int)≤id by omega),Int.toNat_natCast,hb2,gP];rw[Nat.zero_add,Nat.mul_comm]
 rw[aD VZ uo.eq_1 rfl];rcases hC.2 id (by omega) with h0 | ⟨_,h1⟩
 ·have e0:C[4*id]?=some (.d (.int .i64 0)):=by rw[←Nat.add_zero (4*id),←H0 (by omega),h0];rfl
  obtain⟨hl0,e0⟩:=List.getElem?_eq_some_iff.1 e0;have hsm:=LA (C:=C) (W:=lc id) (a:=4*id) rfl (by rw[h48];omega);have hsl:=ana (C:=C) (W:=lc id) (a:=4*id) rfl (by rw[h48];omega);rw[h48]at hsl;simp (maxSteps:=300000) (disch:=omega) [↓if_pos,↓if_neg,H.gA,H.pA,H.pN,H.pN2,H.gN,H.dN,hia,e0,hb,-ah,-sub,-HM,-apz,hsm,hsl];simp
 ·have e0:C[4*id]?=some (.d (.int .i64 id)):=by rw[←Nat.add_zero (4*id),←H0 (by omega),h1];rfl
  obtain⟨hl0,e0⟩:=List.getElem?_eq_some_iff.1 e0;rw[asw (by omega) h1];simp (maxSteps:=300000) (disch:=omega) [↓if_pos,↓if_neg,H.gA,H.pA,H.pN,H.pN2,H.gN,H.dN,hia,e0,hb,-ah,-sub,-HM,-apz,h1];simp
theorem adN (l:List aR) (hl:l.length≤100000) (h:ac) (N:Nat):(Dn prog).call mg [.d (.lst (b7 l))] ⟨h,N⟩=some (.d (.bool (decide (0<l.length))),⟨h,N⟩):=by
 rw[aD Uw sf.eq_1 rfl];by_cases h0:0<l.length
 ·rw[decide_eq_true h0];simp (maxSteps:=300000) (disch:=omega) [↓if_pos]
 ·rw[decide_eq_false h0];simp (maxSteps:=300000) (disch:=omega) [↓if_neg]
theorem Za (F:AV) (P:List aR→Bool) (l:List (List aR)) (hl:l.length≤1000000000) (h:ac) (N:Nat) (hF:firm (share F)=F) (hc:∀ v∈l,bf (Dn prog) F [.d (.lst (b7 v))] ⟨h,N⟩=some (.d (.bool (P v)),⟨h,N⟩)):∀ (r:List (List aR)) (i:Nat),l.drop i=r→
  (r.any P=true∧∃ k:Nat,(Dn prog).code (.loop bC) ⟨[(0,.d (.lst (bi l))),(1,F),(7,.d (.int .i64 l.length)),(8,.d (.int .i64 i))],⟨h,N⟩⟩=some (.ret,⟨[(4,.d (.int .i64 k))],⟨h,N⟩⟩))∨
  (r.any P=false∧(Dn prog).code (.loop bC) ⟨[(0,.d (.lst (bi l))),(1,F),(7,.d (.int .i64 l.length)),(8,.d (.int .i64 i))],⟨h,N⟩⟩=some (.exit 0,⟨[],⟨h,N⟩⟩)):=by
 intro r
 induction r with
 | nil =>
  intro i hd;have hi:=aK hd;refine .inr ⟨rfl,?_⟩;rw[aa bC.eq_1];simp (maxSteps:=300000) (disch:=omega) [↓if_neg]
 | cons v r ih =>
  intro i hd;have hg:=lT hd;have hlt:=aU hd;have hv:=hc v (by rw[←List.take_append_drop i l,hd];simp);have h5:=ih (i+1) (aP hd);have c1:((i+1:Nat):Int)=(i:Int)+1:=rfl;rw[c1]at h5
  cases hp:P v with
  | true =>
   rw[hp]at hv;refine .inl ⟨by rw[List.any_cons,hp];rfl,i,?_⟩;rw[aa bC.eq_1];simp (maxSteps:=300000) (disch:=omega) [↓if_pos,↓if_neg,hg,hF,hv]
  | false =>
   rw[hp]at hv;rw[List.any_cons,hp,Bool.false_or];rcases h5 with ⟨e1,k,e2⟩ | ⟨e1,e2⟩
   ·refine .inl ⟨e1,k,?_⟩;rw[aa bC.eq_1,←e2];simp (maxSteps:=300000) (disch:=omega) [↓if_pos,↓if_neg,hg,hF,hv]
   ·refine .inr ⟨e1,?_⟩;rw[aa bC.eq_1,←e2];simp (maxSteps:=300000) (disch:=omega) [↓if_pos,↓if_neg,hg,hF,hv]
theorem Yw (F:AV) (P:List aR→Bool) (l:List (List aR)) (hl:l.length≤1000000000) (h:ac) (N:Nat) (hF:firm (share F)=F) (hF2:firm F=F) (hc:∀ v∈l,bf (Dn prog) F [.d (.lst (b7 v))] ⟨h,N⟩=some (.d (.bool (P v)),⟨h,N⟩)) :
  (Dn prog).call fR [.d (.lst (bi l)),F] ⟨h,N⟩=some (.d (.bool (l.any P)),⟨h,N⟩):=by
 have h1:=Za F P l hl h N hF hc l 0 rfl;have c0:((0:Nat):Int)=0:=rfl;rw[c0]at h1;have h2:∃ k:Int,(0≤k↔l.any P=true)∧(Dn prog).call iF [.d (.lst (bi l)),F] ⟨h,N⟩=some (.d (.int .i64 k),⟨h,N⟩):=by
  rcases h1 with ⟨e1,k,e2⟩ | ⟨e1,e2⟩
  ·refine⟨k,⟨fun _=>e1,fun _=>by omega⟩,?_⟩;rw[aD lZ eG.eq_1 rfl];simp (maxSteps:=300000) (disch:=omega) [e2]
  ·refine⟨-1,⟨fun h=>by omega,fun h=>by rw[e1]at h;exact absurd h (by simp)⟩,?_⟩;rw[aD lZ eG.eq_1 rfl];simp (maxSteps:=300000) (disch:=omega) [e2]
 obtain⟨k,e1,e2⟩:=h2;rw[aD tY fY.eq_1 rfl]
 cases hp:l.any P with
 | true =>
  have:=e1.2 hp;simp (maxSteps:=300000) (disch:=omega) [↓if_pos,hF2,e2]
 | false =>
  have:¬ 0≤k:=fun h=>by rw[e1.1 h]at hp;exact absurd hp (by simp)
  simp (maxSteps:=300000) (disch:=omega) [↓if_neg,hF2,e2]
def nF (t:List (List aR)):Bool:=t.any fun l=>decide (0<l.length)
theorem Ly (t:List (List aR)) (ht:t.length≤100000) (ht2:∀ l∈t,l.length≤100000):aO prog pV [.d (.lst (bi t))]=some (.d (.bool (nF t))):=by
 have h:=Yw (.fn mg [] []) (fun l=>decide (0<l.length)) t (by omega) [] 0 rfl rfl fun v hv=>by
  have:=adN v (ht2 v hv) [] 0;simpa using this
 rw[aq aes wm.eq_1 rfl];unfold nF;simp (maxSteps:=300000) (disch:=omega) [h]
theorem abb {d hi:Nat}(hd:1≤d):∀ {f lo x:Nat},(hi-lo) % d=0→x∈pY d hi f lo→lo≤x∧x+d≤hi∧(x-lo) % d=0
 | 0,lo,x,_,h=>by simp[pY]at h
 | f+1,lo,x,hm,h=>by
  rw[pY]at h;by_cases h1:lo<hi
  ·rw[if_pos h1]at h;have h2:lo+d≤hi:=by
    rcases Nat.lt_or_ge (hi-lo) d with h3 | h3
    ·rw[Nat.mod_eq_of_lt h3]at hm;omega
    ·omega
   rcases List.mem_cons.1 h with e | e
   ·subst e;exact⟨Nat.le_refl _,h2,by simp⟩
   ·have h4:(hi-(lo+d)) % d=0:=by
     have:hi-lo=hi-(lo+d)+d:=by omega
     rw[this,Nat.add_mod_right]at hm;exact hm
    have ⟨a,b,c⟩:=abb hd h4 e;refine⟨by omega,b,?_⟩;have:x-lo=x-(lo+d)+d:=by omega
    rw[this,Nat.add_mod_right];exact c
  ·rw[if_neg h1]at h;simp at h
theorem anA {os:List Nat}{d b:Nat}:∀ {k w y:Nat},y∈qp os d b k w→∃ w' x,w≤w'∧w'<w+k∧x∈pY d (nth os (b+1)) 300 (nth os b)∧y=w'*32+x
 | 0,w,y,h=>by simp[qp]at h
 | k+1,w,y,h=>by
  rw[qp,List.mem_append]at h;rcases h with h | h
  ·obtain⟨x,hx,e⟩:=List.mem_map.1 h;exact⟨w,x,Nat.le_refl _,by omega,hx,e.symm⟩
  ·obtain⟨w',x,a,b,c,e⟩:=anA h;exact⟨w',x,by omega,by omega,c,e⟩
theorem ang {os:List Nat}{d n first:Nat}:∀ {k b y:Nat},y∈v6 os d n first k b→∃ b',b≤b'∧b'<b+k∧y∈qp os d b' n first
 | 0,b,y,h=>by simp[v6]at h
 | k+1,b,y,h=>by
  rw[v6,List.mem_append]at h;rcases h with h | h
  ·exact⟨b,Nat.le_refl _,by omega,h⟩
  ·obtain⟨b',a,c,e⟩:=ang h;exact⟨b',by omega,by omega,e⟩
theorem amw {os:List Nat}{n first:Nat}:∀ {r:List ao}{b:Nat}{lf:Int}{p:Nat×Nat},fitsS lf r→p∈xJ os n first r b→∃ j,(al r)[j]?=some (p.1:Int)∧(1≤p.1∧p.1≤11)∧p.2∈qp os (aM p.1) (b+j) n first
 | [],b,lf,p,_,h=>by simp[xJ]at h
 | s::r,b,lf,p,hf,h=>by
  obtain⟨⟨⟨l1,l2⟩,b1,b2⟩,hf2⟩:=hf;have eb:al (s::r)=List.replicate s.len.toNat s.book++al r:=by rw[al,List.flatMap_cons];rfl
  rw[xJ,List.mem_append]at h;rcases h with h | h
  ·by_cases h0:s.book=0∨s.book=13
   ·rw[if_pos h0]at h;simp at h
   ·rw[if_neg h0]at h;obtain⟨y,hy,e⟩:=List.mem_map.1 h;subst e;obtain⟨b',c1,c2,c3⟩:=ang hy;refine⟨b'-b,?_,by simp only[];omega,by rw[show b+(b'-b)=b' by omega];exact c3⟩;rw[eb,List.getElem?_append_left (by simp;omega),List.getElem?_replicate,if_pos (by omega)];simp only[Option.some.injEq];omega
  ·obtain⟨j,a,c,e⟩:=amw hf2 h;refine⟨s.len.toNat+j,?_,c,by rw[←Nat.add_assoc];exact e⟩;rw[eb,List.getElem?_append_right (by simp),List.length_replicate,Nat.add_sub_cancel_left];exact a
theorem aav {os:List Nat}{m:Int}:∀ {r:List (List ao)}{q:List Int}{first:Nat}{p:Nat×Nat},cP m r→(∀ n∈q,1≤n)→p∈mN os r q first→∃ (w g j:Nat) (l:List ao),r[g]?=some l∧first≤w∧(w:Int)<first+q.sum∧im q ((w:Int)-first)=g∧(al l)[j]?=some (p.1:Int)∧(1≤p.1∧p.1≤11)∧∃ x∈pY (aM p.1) (nth os (j+1)) 300 (nth os j),p.2=w*32+x
 | [],q,first,p,_,_,h=>by simp[mN]at h
 | l::r,[],first,p,_,_,h=>by simp[mN]at h
 | l::r,n::q,first,p,hf,hn,h=>by
  have hn1:=hn n (.head _);have hqs:0≤q.sum:=by have:=lk fun x hx=>hn x (.tail _ hx);omega
  rw[mN,List.mem_append]at h;rw[List.sum_cons];rcases h with h | h
  ·obtain⟨j,a,c,e⟩:=amw (hf l (.head _)) h;rw[Nat.zero_add]at e;obtain⟨w,x,e1,e2,e3,e4⟩:=anA e;refine⟨w,0,j,l,rfl,e1,by omega,?_,a,c,x,e3,e4⟩;rw[im,if_pos (by omega)]
  ·obtain⟨w,g,j,l',e1,e2,e3,e4,e5,e6,e7⟩:=aav (fun x hx=>hf x (.tail _ hx)) (fun x hx=>hn x (.tail _ hx)) h;refine⟨w,g+1,j,l',by simpa using e1,by omega,by omega,?_,e5,e6,e7⟩;rw[im,if_neg (by omega)];have:(w:Int)-first-n=(w:Int)-((first+n.toNat:Nat):Int):=by omega
   rw[this,e4]
theorem nh:∀ x∈AF,((List.range ((offs x.1 x.2).length-1)).all fun j=>decide (nth (offs x.1 x.2) j<nth (offs x.1 x.2) (j+1)) && decide ((nth (offs x.1 x.2) (j+1)-nth (offs x.1 x.2) j) % 4=0))=true∧nth (offs x.1 x.2) 0=0∧(offs x.1 x.2).all (fun y=>decide (y≤cond x.2 32 256))=true:=by decide +kernel
theorem MH {tl:List Nat}{bks:List Int}:∀ {ls:List Int}{i j:Nat}{v:Int},u6 tl bks i ls→ls[j]?=some v→MI tl bks (i+j) v
 | [],i,j,v,_,h=>by simp at h
 | u::r,i,0,v,h,e=>by
  simp only[List.getElem?_cons_zero,Option.some.injEq]at e;subst e;exact h.1
 | u::r,i,j+1,v,h,e=>by
  have:=MH (j:=j) h.2 (by simpa using e);rw[show i+(j+1)=i+1+j by omega];exact this
theorem Mp {r:Nat}{c:bJ}:∀ {k w w':Nat},F9 r c k w→w≤w'→w'<w+k→u6 ((offs r c.info.short).drop 1) (al (ym c w')) 0 (wZ c w')
 | 0,w,w',_,h1,h2=>by omega
 | k+1,w,w',h,h1,h2=>by
  rcases Nat.lt_or_ge w w' with h3 | h3
  ·exact Mp h.2 h3 (by omega)
  ·have:w'=w:=by omega
   subst this;exact h.1
theorem asS {os:List Nat}{b i:Nat}(hs:∀ j,j+1<os.length→nth os j<nth os (j+1)) (hb:b+1<os.length) (h1:nth os b≤i) (h2:i<nth os (b+1)):fV (os.drop 1) i=b:=by
 have hmono:∀ k j,j+k<os.length→nth os j≤nth os (j+k):=by
  intro k
  induction k with
  | zero=>intro j _;exact Nat.le_refl _
  | succ k ih =>
   intro j hj;have a:=ih j (by omega);have b:=hs (j+k) (by omega);rw[show j+(k+1)=j+k+1 by omega];omega
 have hlen:(os.drop 1).length=os.length-1:=by simp
 rw[XY (b:=b) (by omega) ?_]
 ·have hdd:(os.drop 1).drop b=os.drop (b+1):=by rw[List.drop_drop];congr 1;omega
  rw[hdd,kR hb,fV,if_neg (by omega)];rfl
 ·intro x hx;obtain⟨j,hj,e⟩:=List.mem_iff_getElem.1 hx;have hj2:j<b:=by have:=hj;simp only[List.length_take]at this;omega
  rw[List.getElem_take,List.getElem_drop]at e;have hn:nth os (1+j)=x:=by
   have h9:=sY (l:=os) (i:=1+j) (by omega);rw[List.getElem?_eq_getElem (by omega),e]at h9;injection h9 with h9;exact h9.symm
  have:=hmono (b-(1+j)) (1+j) (by omega);rw[show 1+j+(b-(1+j))=b by omega]at this;omega
theorem Kt {r:Nat}{c:bJ}(hc:c.Fit) (h:ql r c) (hr:r≤11) {p:Nat×Nat}(hp:p∈mN (offs r c.info.short) c.sects c.info.groups 0):(1≤p.1∧p.1≤11)∧p.2+aM p.1≤256∧Kk p.1 ((c.lines.drop p.2).take (aM p.1)):=by
 have hm11:=iw hr h.info;obtain⟨g1,g2⟩:=cD hm11;obtain⟨w,g,j,l,e1,e2,e3,e4,e5,e6,x,e7,e8⟩:=aav h.sects.2 (fun n hn=>(g1 n hn).1) hp;obtain⟨o1,o2,o3⟩:=nh (r,c.info.short) (dI (by omega));simp only at o1 o2 o3;have hmx:=h.info.2.2.2.1;have hlm:l∈c.sects:=List.mem_of_getElem? e1;have hbl:=lX (h.sects.2 l hlm) h.info.2.2.1;have hjl:j<(al l).length:=(List.getElem?_eq_some_iff.1 e5).1;have hmy:nU r (decide (c.info.seq=2))=(offs r c.info.short).length-1:=rfl;have hj1:j+1<(offs r c.info.short).length:=by omega
 have hoj:nth (offs r c.info.short) j<nth (offs r c.info.short) (j+1)∧(nth (offs r c.info.short) (j+1)-nth (offs r c.info.short) j) % 4=0:=by
  have:=List.all_eq_true.1 o1 j (List.mem_range.2 (by omega));simpa using this
 have hos:∀ k,k+1<(offs r c.info.short).length→nth (offs r c.info.short) k<nth (offs r c.info.short) (k+1):=fun k hk=>by
  have:=List.all_eq_true.1 o1 k (List.mem_range.2 (by omega));simp only[Bool.and_eq_true,decide_eq_true_eq]at this;exact this.1
 have hd4:aM p.1=4∨aM p.1=2:=by unfold aM;split<;>simp
 have hx:=abb (d:=aM p.1) (by omega) (by rcases hd4 with h | h<;>rw[h]<;>omega) e7;have hw:(w:Int)<c.info.many:=by omega
 have ho256:nth (offs r c.info.short) (j+1)≤cond c.info.short 32 256:=by
  have:=List.all_eq_true.1 o3 _ (gn hj1);simpa using this
 have hcond:(cond c.info.short 32 256:Nat)=c.info.wide:=by
  unfold am.short am.wide;by_cases h:c.info.seq=2
  ·rw[decide_eq_true h,if_pos h];rfl
  ·rw[decide_eq_false h,if_neg h];rfl
 rw[hcond]at ho256;have hww:w*32=w*c.info.wide∧w*c.info.wide+c.info.wide≤256:=by
  unfold am.many at hw;unfold am.wide;split at hw
  ·rename_i h2;rw[if_pos h2];omega
  ·rename_i h2;rw[if_neg h2];omega
 have hl:=h.lines.1;have hle:p.2+aM p.1≤256:=by omega
 refine⟨e6,hle,?_,fun v hv=>?_⟩
 ·rw[List.length_take,List.length_drop];omega
 ·obtain⟨k,hk,ek⟩:=List.mem_iff_getElem.1 hv;have hk2:k<aM p.1:=by have:=hk;simp only[List.length_take]at this;omega
  rw[List.getElem_take,List.getElem_drop]at ek;have hf:=Mp h.lines.2 (w':=w) (by omega) (by omega);have hwl:(wZ c w)[x+k]?=some v:=by
   unfold wZ;rw[List.getElem?_take,if_pos (by omega),List.getElem?_drop,show w*c.info.wide+(x+k)=p.2+k by omega,List.getElem?_eq_getElem (by omega),ek]
  have hlo:=MH hf hwl;rw[Nat.zero_add]at hlo;have hgr:im c.info.groups w=g:=by rw[←e4];congr 1
  have hsa:ym c w=l:=by
   unfold ym;rw[hgr,List.getD_eq_getElem?_getD,e1];rfl
  have hba:=asS (i:=x+k) hos hj1 (by omega) (by omega);unfold MI at hlo;rw[hsa,hba,e5]at hlo;rcases hlo with h0 | ⟨k',a1,a2,a3⟩
  ·subst h0;simp
  ·injection a1 with a1
   subst a1;simpa using a3
abbrev FQ (c:bJ) (os:List Nat) (q:Obj) (C:List AV) (v:AV) (T:ac):ac :=
 (0,.cells c.av)::(1,.cells C)::(2,.cells [.ptr 1 0])::(3,.cells [v])::(4,.cells c.info.cells)::(5,.cells [.d (.lst (aC c.sects))])::(6,.cells [.own false 1 (bj os)])::(7,q)::T
abbrev ayA (x0:AV):ar:=[(0,x0),(6,.ptr 0 0),(11,.ptr 2 0),(12,.ptr 3 0),(86,.fn dA [] [.ptr 5 0,.ptr 4 0,.ptr 6 0])]
abbrev Nq (x0:AV):Obj:=.loop (ayA x0) [87] oH oT false none
def nV (c:bJ) (p:Nat×Nat):List Nat:=xy p.1 ((c.lines.drop p.2).take (aM p.1))
theorem afq {id:Nat}(hid:1≤id∧id≤11) {vs:List Int}(hv:Kk id vs):1≤(xy id vs).length∧(xy id vs).length≤200:=by
 have hok:fl id:=by omega
 obtain⟨m1,m2,m3,m4⟩:=uA id (NA hid);obtain⟨f1,f2⟩:=Hz hid hv;have hd4:aM id≤4:=by unfold aM;split<;>omega
 have hvl:=hv.1;have hv8:∀ v∈vs,v.natAbs≤8191:=fun v h=>Nat.le_trans (hv.2 v h) m4
 have hmany:ay id=ba id ^ bU id:=rfl;unfold xy;by_cases hs:gp id=true
 ·have hin:=f1 hs;have hlt:=AU (n:=0) (j:=0) hin.2 (by simp);rw[Nat.zero_add,hin.1,←hmany]at hlt;have:=sW hok hlt;rw[if_pos hs];omega
 ·have hin:=f2 (by simpa using hs);have hlt:=AU (n:=0) (j:=0) hin.2 (by simp);rw[Nat.zero_add,hin.1,←hmany]at hlt;have:=sW hok hlt;have hsl:=akY (vs:=vs);have hel:=RE (id:=id) hv8;rw[if_neg hs];simp only[List.length_append];omega
theorem azf {m:Nat}{xs ys:List (List D)}(hl:xs.length+ys.length≤1000000000):∃ v,(∀ h,ct m h (ax m xs) ys=some (v,h))∧firm v=ax m (xs++ys):=by
 obtain⟨v,h1,h2⟩:=are (m:=m) (h:=[]) hl;refine⟨v,fun h=>?_,h2⟩
 cases xs with
 | nil =>
  cases ys with
  | nil=>injection h1 with h1;injection h1 with h1;subst h1;rfl
  | cons y r =>
   simp only[kL,awH,ZI,au]at h1⊢;split at h1
   ·rename_i h9;rw[if_pos h9];injection h1 with h1;injection h1 with h1;subst h1;rfl
   ·exact absurd h1 (by simp)
 | cons x r =>
  simp only[aeL,amR,ZI,anG,amF,au]at h1⊢;split at h1
  ·rename_i h9;rw[if_pos h9];split at h1
   ·rename_i h8;rw[if_pos h8];split at h1
    ·rename_i h7;rw[if_pos h7];injection h1 with h1;injection h1 with h1;subst h1;rfl
    ·exact absurd h1 (by simp)
   ·exact absurd h1 (by simp)
  ·exact absurd h1 (by simp)
theorem aDW (c:bJ) (hl:c.lines.length=256) (os:List Nat) (x0:AV) (hx0:share x0=x0) (p:Nat×Nat) (hp:(1≤p.1∧p.1≤11)∧p.2+aM p.1≤256∧Kk p.1 ((c.lines.drop p.2).take (aM p.1))) (C:List AV) (hC:AB C) (acc:List Nat) (hacc:acc.length≤900000000) (K:Nat) (o:Obj) (hK:8≤K) (N:Nat) (hN:K<N) :
  bf (Dn prog) (.yield 7) [.agg [.d (.int .i64 (p.1:Int)),.d (.int .i64 (p.2:Int)),.d (.int .i64 ((p.2+aM p.1:Nat):Int))]] ⟨FQ c os (Nq x0) C (ax 1 (af acc)) [(K,o)],N⟩=some (.d (.bool true),⟨FQ c os (Nq x0) (ah C (4*p.1) (lc p.1)) (ax 1 (af (acc++nV c p))) [(K,o)],N+1+1⟩):=by
 obtain⟨h1,h2,h3⟩:=hp;have hH:=as8 [] (by simp) .nl (.inr ⟨rfl,rfl⟩) p.1 h1 _ h3;have hhl:=afq h1 h3;rw[List.nil_append]at hH;have hsl:=fun h=>aj5 (h:=h) (l:=c.lines) (a:=p.2) (b:=p.2+aM p.1) (by omega) (by omega) (p.2:Int) ((p.2+aM p.1:Nat):Int) rfl rfl
 simp only[Nat.add_sub_cancel_left]at hsl;have hBk:Bk (fun C T=>FQ c os (.loop (ayA x0) [87] oH oT true none) C (ax 1 (af acc)) ([(K,o),(N,.cells [.d (.int .i64 (p.1:Int)),.d (.int .i64 (p.2:Int)),.d (.int .i64 ((p.2+aM p.1:Nat):Int))])]++T)) 1 (N+1):=by
  have hK0:K≠0∧K≠1∧K≠2:=by omega
  constructor
  ·intro C T;simp
  ·intro C T C';simp
  ·intro C o;simp (disch:=omega) [↓if_neg]
  ·intro C o o';simp (disch:=omega) [↓if_neg]
  ·intro C o;simp (disch:=omega) [↓if_neg]
  ·intro C o;simp (disch:=omega) [↓if_neg]
 have hB:=L9 hBk C hC p.1 h1;generalize ah C (4*p.1) (lc p.1)=C2 at *;have hbl:(af (nV c p)).length=(nV c p).length:=eI;have hba:(af acc).length=acc.length:=eI;obtain⟨wv,hw1,hw2⟩:=azf (m:=1) (xs:=af acc) (ys:=af (nV c p)) (by unfold nV;unfold nV at hbl;omega);have hne:af (acc++nV c p)≠[]:=by
  intro h;have:=congrArg List.length h;rw[eI,List.length_append,List.length_nil]at this;unfold nV at this;omega
 rw[ajX,lR hne]at hw2;rw[lR hne];have hLB:xy p.1 ((c.lines.drop p.2).take (aM p.1))=nV c p:=rfl;rw[hLB]at hH;simp only[jr,List.append_nil]at hB hH;simp only[FQ,bJ.av,am.cells,List.cons_append,List.nil_append,oH,oT]at hB⊢;generalize nV c p=LB at *;generalize (c.lines.drop p.2).take (aM p.1)=LS at *;generalize ((p.2+aM p.1:Nat):Int)=TO at *;simp (config := { maxSteps:=1000000 }) (disch:=omega) [oH,oT,↓if_pos,↓if_neg,hx0,hsl,hH,hB,hw1,hw2]
theorem aAI (c:bJ) (hl:c.lines.length=256) (os:List Nat) (x0:AV) (hx0:share x0=x0) (TOT:List Nat) (hT:TOT.length≤900000000):KK (fun(s:List AV×List Nat) T=>FQ c os (Nq x0) s.1 (ax 1 (af s.2)) T) noH 8 7 (fun p s=>.inl (ah s.1 (4*p.1) (lc p.1),s.2++nV c p))
  (fun r s=>AB s.1∧s.2++r.flatMap (nV c)=TOT∧∀ p∈r,(1≤p.1∧p.1≤11)∧p.2+aM p.1≤256∧Kk p.1 ((c.lines.drop p.2).take (aM p.1))):=by
 intro p r s K o N hi hK hN;obtain⟨i1,i2,i3⟩:=hi;have hp:=i3 p (.head _);have hal:s.2.length≤900000000:=by rw[←i2,List.length_append]at hT;omega
 refine .inl ⟨_,N+1+1,by omega,rfl,⟨afd i1 hp.1,?_,fun q hq=>i3 q (.tail _ hq)⟩,aDW c hl os x0 hx0 p hp s.1 i1 s.2 hal K o hK N hN⟩;rw[List.flatMap_cons,←List.append_assoc]at i2;exact i2
theorem aCO {c:bJ}{os:List Nat}{x0:AV}:Tl (fun(s:List AV×List Nat) T=>FQ c os (Nq x0) s.1 (ax 1 (af s.2)) T) 8:=by
 constructor
 ·intro s K o h;simp (disch:=omega) [↓if_neg]
 ·intro s K o o' h;simp (disch:=omega) [↓if_neg]
 ·intro s K o h;simp (disch:=omega) [↓if_neg]
 ·intro s K o h;simp (disch:=omega) [↓if_neg]
def jI (r:Nat) (c:bJ):List Nat:=(mN (offs r c.info.short) c.sects c.info.groups 0).flatMap (nV c)
abbrev nv:List AV:=[.d (.int .i64 0),.d (.int .i64 0),.nl,.nl,.d (.int .i64 0),.d (.int .i64 0),.nl,.nl,.d (.int .i64 0),.d (.int .i64 0),.nl,.nl,.d (.int .i64 0),.d (.int .i64 0),.nl,.nl,.d (.int .i64 0),.d (.int .i64 0),.nl,.nl,.d (.int .i64 0),.d (.int .i64 0),.nl,.nl,.d (.int .i64 0),.d (.int .i64 0),.nl,.nl,.d (.int .i64 0),.d (.int .i64 0),.nl,.nl,.d (.int .i64 0),.d (.int .i64 0),.nl,.nl,.d (.int .i64 0),.d (.int .i64 0),.nl,.nl,.d (.int .i64 0),.d (.int .i64 0),.nl,.nl,.d (.int .i64 0),.d (.int .i64 0),.nl,.nl]
theorem ajr:AB nv:=by
 refine⟨rfl,fun id hid=>.inl ?_⟩;obtain rfl | rfl | rfl | rfl | rfl | rfl | rfl | rfl | rfl | rfl | rfl | rfl:id=0∨id=1∨id=2∨id=3∨id=4∨id=5∨id=6∨id=7∨id=8∨id=9∨id=10∨id=11:=by omega
 all_goals rfl
theorem asN (r:Nat) (hr:r≤11) (c:bJ) (hc:c.Fit) (h:ql r c) (x0:AV) (hx0:share x0=x0) (hlen:(jI r c).length≤900000000):∃ C2 M,(Dn prog).call dA [.yield 7,.ptr 5 0,.ptr 4 0,.ptr 6 0] ⟨FQ c (offs r c.info.short) (Nq x0) nv .nl [],8⟩=some (.tup [],⟨FQ c (offs r c.info.short) (Nq x0) C2 (ax 1 (af (jI r c))) [],M⟩):=by
 obtain⟨o1,o2,o3,o4⟩:=yv (r,c.info.short) (dI (by omega));obtain⟨p1,p2,p3⟩:=nh (r,c.info.short) (dI (by omega));simp only at o1 o2 o3 o4 p1 p2 p3;have hmx:=h.info.2.2.2.1;have hmy:nU r (decide (c.info.seq=2))=(offs r c.info.short).length-1:=rfl;have hhi:∀ x∈offs r c.info.short,x≤256:=fun x hx=>by
  have:=List.all_eq_true.1 p3 x hx;simp only[decide_eq_true_eq]at this;have:(cond c.info.short 32 256:Nat)≤256:=by cases c.info.short<;>decide
  omega
 have hpl:=ain (P:=⟨7,4,6,c.sects,offs r c.info.short⟩) c.info hc.info (iw hr h.info) 5 (aCO (c:=c) (os:=offs r c.info.short) (x0:=x0)) apm (aAI c h.lines.1 (offs r c.info.short) x0 hx0 (jI r c) hlen) (fun s=>by simp) (fun s T=>by simp) (fun s T=>by simp) (by simp only[];omega) hhi (by simp only[];omega) h.sects 8 (Nat.le_refl _) (nv,[]) ⟨ajr,by simp only[jI,List.nil_append],fun p hp=>Kt hc h hr hp⟩;rcases hpl with ⟨s2,M,hM,e1,⟨e2,e3,e4⟩,e5⟩ | ⟨z,_⟩
 ·rw[List.flatMap_nil,List.append_nil]at e3;rw[e3]at e5;exact⟨s2.1,M,e5⟩
 ·exact nomatch z
structure GO where
 o1:Obj
 o2:Obj
 o3:Obj
 o7:Obj
 o8:Obj
 o9:Obj
 oX:Obj
 o14:Obj
 o15:Obj
 o16:Obj
abbrev GH (b:List Nat) (g:GO) (cs:List AV) (nx e:Int) (Z:List Int) (C:List AV) (lo:Obj) (T:ac):ac:=(0,.cells [.d (.lst (af b))])::(1,g.o1)::(2,g.o2)::(3,g.o3)::(4,.cells cs)::(5,.cells [.d (.int .i64 nx)])::(6,.cells [.d (.int .i64 e)])::(7,g.o7)::(8,g.o8)::(9,g.o9)::(10,g.oX)::(11,.arr 1 (ai Z))::(12,.cells C)::(13,.cells [.ptr 12 0])::(14,g.o14)::(15,g.o15)::(16,g.o16)::(17,lo)::T
abbrev ay7:ar:=[(5,.ptr 0 0),(10,.ptr 4 0),(11,.ptr 5 0),(12,.ptr 6 0),(13,.ptr 7 0),(14,.ptr 8 0),(18,.ptr 13 0),(82,.fn dA [] [.ptr 15 0,.ptr 14 0,.ptr 16 0])]
theorem ast {Z l:List Int}{a:Nat}:ah (ai Z) a (ai l)=ai (ah Z a l):=by simp[ah,ai]
theorem avy {h:ac}{xs:List (List D)}{id a b n:Nat}(hab:a≤b) (hb:b≤n) (hn:n≤1000000000) (hg:get h id=some (.arr 1 xs)) (x y:Int) (hx:x=a) (hy:y=b):uB h 1 (.sl id 0 n) (some (.d (.int .i64 x))) (some (.d (.int .i64 y))) none=some (.sl id a (b-a)):=by
 subst hx hy;have e1:df (.d (.int .i64 (b:Int))) n=some b:=by rw[Nh (by omega) (by omega)];simp
 have e2:df (.d (.int .i64 (a:Int))) b=some a:=by rw[Nh (by omega) (by omega)];simp
 have e3:okSl h 1 (.sl id 0 n)=true:=by simp only[okSl,hg];rfl
 simp only[uB,e3,w6,lenOf,xQ,ue,e1,e2,Nat.zero_add]
theorem avx {h:ac}{Z l:List Int}{id a n:Nat}{y:AV}(hn:l.length=n) (hb:a+n≤Z.length) (he:elems h y=some (ai l)) (hg:get h id=some (.arr 1 (ai Z))):aj6 1 h (.sl id a n) y=some (.int .i64 (n:Nat),put h id (.arr 1 (ai (ah Z a l)))):=by
 have e1:Nat.ble (a+n) (ai Z).length=true:=by rw[Nat.ble_eq,fE];exact hb
 have e2:min n (ai l).length=n:=by rw[fE,hn,Nat.min_self]
 have e3:(ai l).take n=ai l:=List.take_of_length_le (by rw[fE];omega);have e4:(dC 1 (ai l) && Nat.beq 1 1 && Nat.ble (a+n) (ai Z).length)=true:=by rw[asa,e1];rfl
 simp only[aj6,he,hg,e4,e2,e3,ast];rfl
theorem axG {F:List AV→ac}{A N:Nat}(hL:∀ C,Lt (F C) N) (hg:∀ C T,get (F C++T) A=some (.cells C)) (hp:∀ C T C',put (F C++T) A (.cells C')=F C'++T):Bk (fun C T=>F C++T) A N:=by
 refine⟨hg,hp,fun C o=>?_,fun C o o'=>GM (hL C),fun C o=>tk (hL C),fun C o=>?_⟩
 ·show put (F C++[]) N o=_;rw[List.append_nil];exact pJ (hL C)
 ·show _=F C++[];rw[List.append_nil];exact No (hL C)
theorem ayQ (b:List Nat) (g:GO) (cs:List AV) (nx e0:Int) (Z:List Int) (lo:Obj) (K:Nat) (hK:18≤K) (o w:Obj) (N:Nat) (hN:K<N):Bk (fun C T=>GH b g cs nx e0 Z C lo [(K,o),(N,w)]++T) 12 (N+1):=by
 refine axG (fun C p hp=>?_) (fun C T=>rfl) (fun C T C'=>rfl);simp only[List.mem_cons,List.not_mem_nil,or_false]at hp;rcases hp with rfl | rfl | rfl | rfl | rfl | rfl | rfl | rfl | rfl | rfl | rfl | rfl | rfl | rfl | rfl | rfl | rfl | rfl | rfl | rfl<;>simp only[]<;>omega
abbrev kI (d:Bool):Obj:=.loop ay7 [83] om oz d none
abbrev Jh:Obj:=.loop ay7 [83] om oz false (some .ret)
abbrev plO (p:Nat×Nat):Obj:=.cells [.d (.int .i64 (p.1:Int)),.d (.int .i64 (p.2:Int)),.d (.int .i64 ((p.2+aM p.1:Nat):Int))]
theorem aAp (b:List Nat) (g:GO) (a0 a1 a2 a3 a4 a5 a6 a7:AV) (nx e0:Int) (Z:List Int) (hZ:Z.length=256) (C:List AV) (hC:AB C) (p:Nat×Nat) (hp:(1≤p.1∧p.1≤11)∧p.2+aM p.1≤256) (l:List Int) (hl:l.length=aM p.1) (n2:Nat) (hh:aO prog pC [.d (.lst (af b)),.d (.int .i64 nx),jr p.1]=some (.tup [.own true 1 (ai l),.d (.int .i64 n2),.d (.int .i64 0)])) (K:Nat) (o:Obj) (hK:18≤K) (N:Nat) (hN:K<N) :
  bf (Dn prog) (.yield 17) [.agg [.d (.int .i64 (p.1:Int)),.d (.int .i64 (p.2:Int)),.d (.int .i64 ((p.2+aM p.1:Nat):Int))]] ⟨GH b g [a0,a1,a2,a3,a4,a5,a6,a7,.sl 11 0 256] nx e0 Z C (kI false) [(K,o)],N⟩ =
  some (.d (.bool true),⟨GH b g [a0,a1,a2,a3,a4,a5,a6,a7,.sl 11 0 256] n2 0 (ah Z p.2 l) (ah C (4*p.1) (lc p.1)) (kI false) [(K,o)],N+1+1⟩):=by
 obtain⟨h1,h2⟩:=hp;have hB:=L9 (ayQ b g [a0,a1,a2,a3,a4,a5,a6,a7,.sl 11 0 256] nx e0 Z (kI true) K hK o (plO p) N hN) C hC p.1 h1;have hs:=fun C2=>avy (h:=GH b g [a0,a1,a2,a3,a4,a5,a6,a7,.sl 11 0 256] n2 0 Z C2 (kI true) [(K,o),(N,plO p)]) (xs:=ai Z) (id:=11) (a:=p.2) (b:=p.2+aM p.1) (n:=256) (by omega) h2 (by omega) rfl (p.2:Int) _ rfl rfl
 rw[Nat.add_sub_cancel_left]at hs;have hc:=fun C2=>avx (h:=GH b g [a0,a1,a2,a3,a4,a5,a6,a7,.sl 11 0 256] n2 0 Z C2 (kI true) [(K,o),(N,plO p)]) (id:=11) (a:=p.2) (n:=aM p.1) (y:=.own false 1 (ai l)) hl (by omega) rfl rfl
 generalize ah C (4*p.1) (lc p.1)=C2 at *;replace hs:=hs C2;replace hc:=hc C2;obtain⟨TO,hT⟩:∃ TO:Int,TO=((p.2+aM p.1:Nat):Int):=⟨_,rfl⟩
 simp only[GH,plO,kI,List.cons_append,List.nil_append,jr]at hB hs hc hh⊢;rw[←hT]at hB hs hc⊢;obtain⟨o1,o2,o3,o7,o8,o9,oX,o14,o15,o16⟩:=g;simp only[]at *;have eA:∀ st,(Dn prog).code om st=(Dn prog).code zH st:=fun _=>rfl
 have eB:∀ st,(Dn prog).code oz st=(Dn prog).code (.block 3
  (.seq yY
  (.seq (.seq (.seq qV (Vm.K [18,84]))
  (.seq zp
  (.cond (.m 96)
  (.seq (.seq (Vm.K [20]) (F 19)) (.seq (.seq qP (Vm.K [12]))
  .ret))
  (.seq (Vm.K [11,12]) .skip))))
  (.seq zM (F 19))))) st:=fun _=>rfl
 simp (config := { maxSteps:=1000000 }) (disch:=omega) [↓if_pos,↓if_neg,eA,eB,hh,hB,hs,hc]
theorem aAH (b:List Nat) (g:GO) (a0 a1 a2 a3 a4 a5 a6 a7:AV) (nx e0:Int) (Z:List Int) (C:List AV) (hC:AB C) (p:Nat×Nat) (hp:(1≤p.1∧p.1≤11)∧p.2+aM p.1≤256) (e:Nat) (hh:aO prog pC [.d (.lst (af b)),.d (.int .i64 nx),jr p.1]=some (.tup [.nl,.d (.int .i64 0),.d (.int .i64 (e+1))])) (K:Nat) (o:Obj) (hK:18≤K) (N:Nat) (hN:K<N) :
  bf (Dn prog) (.yield 17) [.agg [.d (.int .i64 (p.1:Int)),.d (.int .i64 (p.2:Int)),.d (.int .i64 ((p.2+aM p.1:Nat):Int))]] ⟨GH b g [a0,a1,a2,a3,a4,a5,a6,a7,.sl 11 0 256] nx e0 Z C (kI false) [(K,o)],N⟩ =
  some (.d (.bool false),⟨GH b g ah4 0 ((e:Int)+1) Z (ah C (4*p.1) (lc p.1)) Jh [(K,o)],N+1+1⟩):=by
 obtain⟨h1,h2⟩:=hp;have hB:=L9 (ayQ b g [a0,a1,a2,a3,a4,a5,a6,a7,.sl 11 0 256] nx e0 Z (kI true) K hK o (plO p) N hN) C hC p.1 h1;generalize ah C (4*p.1) (lc p.1)=C2 at *;obtain⟨TO,hT⟩:∃ TO:Int,TO=((p.2+aM p.1:Nat):Int):=⟨_,rfl⟩
 simp only[GH,plO,kI,Jh,List.cons_append,List.nil_append,jr]at hB hh⊢;rw[←hT]at hB⊢;obtain⟨o1,o2,o3,o7,o8,o9,oX,o14,o15,o16⟩:=g;simp only[]at *;have eA:∀ st,(Dn prog).code om st=(Dn prog).code zH st:=fun _=>rfl
 have eB:∀ st,(Dn prog).code oz st=(Dn prog).code (.block 3
  (.seq yY
  (.seq (.seq (.seq qV (Vm.K [18,84]))
  (.seq zp
  (.cond (.m 96)
  (.seq (.seq (Vm.K [20]) (F 19)) (.seq (.seq qP (Vm.K [12]))
  .ret))
  (.seq (Vm.K [11,12]) .skip))))
  (.seq zM (F 19))))) st:=fun _=>rfl
 simp (config := { maxSteps:=1000000 }) (disch:=omega) [↓if_pos,↓if_neg,eA,eB,hh,hB]
theorem asj {r:Nat}{jj:am}{SS:List (List ao)}(hm:jj.may r) (hS:gX jj SS) (hr:r≤11) {p:Nat×Nat}(hp:p∈mN (offs r jj.short) SS jj.groups 0):(1≤p.1∧p.1≤11)∧p.2+aM p.1≤256:=by
 have hm11:=iw hr hm;obtain⟨g1,g2⟩:=cD hm11;obtain⟨w,g,j,l,e1,e2,e3,e4,e5,e6,x,e7,e8⟩:=aav hS.2 (fun n hn=>(g1 n hn).1) hp;obtain⟨o1,o2,o3⟩:=nh (r,jj.short) (dI (by omega));simp only at o1 o2 o3;have hmx:=hm.2.2.2.1;have hlm:l∈SS:=List.mem_of_getElem? e1;have hbl:=lX (hS.2 l hlm) hm.2.2.1;have hjl:j<(al l).length:=(List.getElem?_eq_some_iff.1 e5).1;have hmy:nU r (decide (jj.seq=2))=(offs r jj.short).length-1:=rfl;have hj1:j+1<(offs r jj.short).length:=by omega
 have hoj:nth (offs r jj.short) j<nth (offs r jj.short) (j+1)∧(nth (offs r jj.short) (j+1)-nth (offs r jj.short) j) % 4=0:=by
  have:=List.all_eq_true.1 o1 j (List.mem_range.2 (by omega));simpa using this
 have hos:∀ k,k+1<(offs r jj.short).length→nth (offs r jj.short) k<nth (offs r jj.short) (k+1):=fun k hk=>by
  have:=List.all_eq_true.1 o1 k (List.mem_range.2 (by omega));simp only[Bool.and_eq_true,decide_eq_true_eq]at this;exact this.1
 have hd4:aM p.1=4∨aM p.1=2:=by unfold aM;split<;>simp
 have hx:=abb (d:=aM p.1) (by omega) (by rcases hd4 with h | h<;>rw[h]<;>omega) e7;have hw:(w:Int)<jj.many:=by omega
 have ho256:nth (offs r jj.short) (j+1)≤cond jj.short 32 256:=by
  have:=List.all_eq_true.1 o3 _ (gn hj1);simpa using this
 have hcond:(cond jj.short 32 256:Nat)=jj.wide:=by
  unfold am.short am.wide;by_cases h:jj.seq=2
  ·rw[decide_eq_true h,if_pos h];rfl
  ·rw[decide_eq_false h,if_neg h];rfl
 rw[hcond]at ho256;have hww:w*32=w*jj.wide∧w*jj.wide+jj.wide≤256:=by
  unfold am.many at hw;unfold am.wide;split at hw
  ·rename_i h2;rw[if_pos h2];omega
  ·rename_i h2;rw[if_neg h2];omega
 exact⟨e6,by omega⟩
theorem azk:∀ id∈List.range 12,1≤id→bU id=aM id:=by decide +kernel
def jJ (b:List Nat):List (Nat×Nat)→Nat→List Int→R (List Int)
 | [],n,Z=>.ok Z n
 | p::r,n,Z=>(xB p.1 b n).bind fun l m=>jJ b r m (ah Z p.2 l)
abbrev StG:Type:=List AV×Nat×List Int
abbrev Sv (b:List Nat) (p:Nat×Nat) (s:StG):Sum StG (List AV×Nat×List Int):=match xB p.1 b s.2.1 with
 | .ok l n=>.inl (ah s.1 (4*p.1) (lc p.1),n,ah s.2.2 p.2 l)
 | .er e=>.inr (ah s.1 (4*p.1) (lc p.1),e,s.2.2)
abbrev xn:List AV:=[.d (.int .i64 0),.d (.int .u8 0),.d (.int .u8 0),.d (.int .i64 0),.nl,.nl,.nl,.nl,.nl]
abbrev aDb (B:Nat) (r:List (Nat×Nat)) (s:StG):Prop:=AB s.1∧s.2.1≤B∧s.2.2.length=256∧(∀ x∈s.2.2,-40000≤x∧x≤40000)∧∀ p∈r,(1≤p.1∧p.1≤11)∧p.2+aM p.1≤256
theorem akN {Z l:List Int}{a:Nat}(h:a+l.length≤Z.length):(ah Z a l).length=Z.length:=by
 simp only[ah,List.length_append,List.length_take,List.length_drop];omega
theorem axb {Z l:List Int}{a:Nat}{x:Int}(h:x∈ah Z a l):x∈Z∨x∈l:=by
 simp only[ah,List.mem_append]at h;rcases h with (h | h) | h
 ·exact .inl (List.mem_of_mem_take h)
 ·exact .inr h
 ·exact .inl (List.mem_of_mem_drop h)
theorem aAL (b:List Nat) (hb:b.length≤1000000000) (g:GO) (a0 a1 a2 a3 a4 a5 a6 a7:AV):KK (fun(s:StG) T=>GH b g [a0,a1,a2,a3,a4,a5,a6,a7,.sl 11 0 256] s.2.1 0 s.2.2 s.1 (kI false) T) (fun(z:List AV×Nat×List Int) T=>GH b g xn 0 ((z.2.1:Int)+1) z.2.2 z.1 Jh T) 18 17 (Sv b) (aDb b.length):=by
 intro p r s K o N hi hK hN;obtain⟨C,n0,Z⟩:=s;obtain⟨i1,i2,i3,i4,i5⟩:=hi;simp only at i1 i2 i3 i4;have hp:=i5 p (.head _);have hH:=aue p.1 b n0 hb (by omega) hp.1;have hd:=azk p.1 (List.mem_range.2 (by omega)) hp.1.1
 cases e:xB p.1 b n0 with
 | ok l n =>
  have hq:=awt ⟨hp.1.1,by omega⟩ e;rw[e,cG hq]at hH;obtain⟨q1,q2,q3⟩:=hq;have hl:l.length=aM p.1:=by omega
  refine .inl ⟨(ah C (4*p.1) (lc p.1),n,ah Z p.2 l),N+1+1,by omega,by simp only[Sv,e],⟨afd i1 hp.1,q2,?_,fun x hx=>?_,fun q hq=>i5 q (.tail _ hq)⟩,aAp b g a0 a1 a2 a3 a4 a5 a6 a7 n0 0 Z i3 C i1 p hp l hl n hH K o hK N hN⟩
  ·show (ah Z p.2 l).length=256;rw[akN (by omega)];exact i3
  ·rcases axb hx with h | h
   ·exact i4 x h
   ·exact q3 x h
 | er e2 =>
  rw[e,fc]at hH;exact .inr ⟨(ah C (4*p.1) (lc p.1),e2,Z),N+1+1,by omega,by simp only[Sv,e],aAH b g a0 a1 a2 a3 a4 a5 a6 a7 n0 0 Z C i1 p hp e2 hH K o hK N hN⟩
theorem auV {b:List Nat}:∀ {r:List (Nat×Nat)}{C:List AV}{n:Nat}{Z:List Int},(∀ Z2 m,jJ b r n Z=.ok Z2 m→∃ C2,gJ (Sv b) r (C,n,Z)=.inl (C2,m,Z2))∧∀ e,jJ b r n Z=.er e→∃ C2 Z2,gJ (Sv b) r (C,n,Z)=.inr (C2,e,Z2)
 | [],C,n,Z=>⟨fun Z2 m h=>by
   injection h with g1 g2
   subst g1 g2;exact⟨C,rfl⟩,fun e h=>absurd h (by simp[jJ])⟩
 | p::r,C,n,Z=>by
  rw[jJ,gJ]
  cases e:xB p.1 b n with
  | ok l m =>
   simp only[Sv,e,ak];exact auV
  | er e2 =>
   simp only[Sv,e];exact⟨fun Z2 m h=>absurd h (by simp),fun e3 h=>by
    injection h with h
    subst h;exact⟨_,_,rfl⟩⟩
theorem auX {b:List Nat}{g:GO}{cs:List AV}{nx e0:Int}{Z:List Int}{C:List AV}{lo:Obj}{L:Nat}(hL:18≤L):Lt (GH b g cs nx e0 Z C lo []) L:=by
 intro p hp;simp only[List.mem_cons,List.not_mem_nil,or_false]at hp;rcases hp with rfl | rfl | rfl | rfl | rfl | rfl | rfl | rfl | rfl | rfl | rfl | rfl | rfl | rfl | rfl | rfl | rfl | rfl<;>simp only[]<;>omega
theorem ark {σ:Type}{F:σ→ac}{L:Nat}(hL:∀ s,Lt (F s) L):Tl (fun s T=>F s++T) L:=by
 refine⟨fun s K o h=>?_,fun s K o o' h=>GM (DG (hL s) h),fun s K o h=>tk (DG (hL s) h),fun s K o h=>?_⟩
 ·show put (F s++[]) K o=_;rw[List.append_nil];exact pJ (DG (hL s) h)
 ·show _=F s++[];rw[List.append_nil];exact No (DG (hL s) h)
abbrev XB (r:Nat) (jj:am) (S:List (List ao)):List (Nat×Nat):=mN (offs r jj.short) S jj.groups 0
abbrev Z0:List Int:=List.replicate 256 0
theorem ae9 (b:List Nat) (hb:b.length≤1000000000) (g:GO) (a0 a1 a2 a3 a4 a5 a6 a7:AV) (r:Nat) (hr:r≤11) (jj:am) (hj:jj.Fit) (hm:jj.may r) (S:List (List ao)) (hS:gX jj S) (g14:g.o14=.cells jj.cells) (g15:g.o15=.cells [.d (.lst (aC S))]) (g16:g.o16=.cells [.own false 1 (bj (offs r jj.short))]) (n:Nat) (hn:n≤b.length) :
  (∀ Z m,jJ b (XB r jj S) n Z0=.ok Z m→Z.length=256∧(∀ x∈Z,-40000≤x∧x≤40000)∧m≤b.length∧∃ C2 M,(Dn prog).call dA [.yield 17,.ptr 15 0,.ptr 14 0,.ptr 16 0] ⟨GH b g [a0,a1,a2,a3,a4,a5,a6,a7,.sl 11 0 256] n 0 Z0 nv (kI false) [],18⟩=some (.tup [],⟨GH b g [a0,a1,a2,a3,a4,a5,a6,a7,.sl 11 0 256] m 0 Z C2 (kI false) [],M⟩))∧
  (∀ e,jJ b (XB r jj S) n Z0=.er e→∃ C2 Z2 M,(Dn prog).call dA [.yield 17,.ptr 15 0,.ptr 14 0,.ptr 16 0] ⟨GH b g [a0,a1,a2,a3,a4,a5,a6,a7,.sl 11 0 256] n 0 Z0 nv (kI false) [],18⟩=some (.tup [],⟨GH b g xn 0 ((e:Int)+1) Z2 C2 Jh [],M⟩)):=by
 obtain⟨o1,o2,o3,o4⟩:=yv (r,jj.short) (dI (by omega));obtain⟨p1,p2,p3⟩:=nh (r,jj.short) (dI (by omega));simp only at o1 o2 o3 o4 p1 p2 p3;have hmx:=hm.2.2.2.1;have hmy:nU r (decide (jj.seq=2))=(offs r jj.short).length-1:=rfl;have hhi:∀ x∈offs r jj.short,x≤256:=fun x hx=>by
  have:=List.all_eq_true.1 p3 x hx;simp only[decide_eq_true_eq]at this;have:(cond jj.short 32 256:Nat)≤256:=by cases jj.short<;>decide
  omega
 have hT:Tl (fun(s:StG) T=>GH b g [a0,a1,a2,a3,a4,a5,a6,a7,.sl 11 0 256] s.2.1 0 s.2.2 s.1 (kI false) T) 18:=ark (F:=fun(s:StG)=>GH b g [a0,a1,a2,a3,a4,a5,a6,a7,.sl 11 0 256] s.2.1 0 s.2.2 s.1 (kI false) []) (fun s=>auX (Nat.le_refl _));have hT2:Tl (fun(z:List AV×Nat×List Int) T=>GH b g xn 0 ((z.2.1:Int)+1) z.2.2 z.1 Jh T) 18:=ark (F:=fun(z:List AV×Nat×List Int)=>GH b g xn 0 ((z.2.1:Int)+1) z.2.2 z.1 Jh []) (fun s=>auX (Nat.le_refl _));have hpl:=ain (P:=⟨17,14,16,S,offs r jj.short⟩) jj hj (iw hr hm) 15 hT hT2 (aAL b hb g a0 a1 a2 a3 a4 a5 a6 a7) (fun s=>by rw[←g15];rfl) (fun s T=>by rw[←g14];rfl) (fun s T=>by rw[←g16];rfl) (by simp only[];omega) hhi (by simp only[];omega) hS 18 (Nat.le_refl _) (nv,n,Z0) ⟨ajr,hn,by simp only[List.length_replicate],fun x hx=>by rw[List.eq_of_mem_replicate hx];omega,fun p hp=>asj hm hS hr hp⟩;have hru:=auV (b:=b) (r:=XB r jj S) (C:=nv) (n:=n) (Z:=Z0);refine⟨fun Z m e=>?_,fun e1 e=>?_⟩
 ·obtain⟨C2,h1⟩:=hru.1 Z m e;rcases hpl with ⟨s2,M,hM,e1,⟨i1,i2,i3,i4,i5⟩,e5⟩ | ⟨z,M,hM,e1,e3⟩
  ·rw[h1]at e1;injection e1 with e1
   subst e1;exact⟨i3,i4,i2,C2,M,e5⟩
  ·rw[h1]at e1;exact absurd e1 (by simp)
 ·obtain⟨C2,Z2,h1⟩:=hru.2 e1 e;rcases hpl with ⟨s2,M,hM,e1,⟨i1,i2,i3,i4,i5⟩,e5⟩ | ⟨z,M,hM,e1,e3⟩
  ·rw[h1]at e1;exact absurd e1 (by simp)
  ·rw[h1]at e1;injection e1 with e1
   subst e1;exact⟨C2,Z2,M,e3⟩
theorem auC:Bw [.int .i64 0] (.d (.int .i64 256)) (.d (.int .i64 256))=some (.own true 1 (ai Z0)):=(Fy (z:=[.int .i64 0]) (n:=256) (by omega)).trans (by simp[ai])
theorem apX:(ai Z0).length=256:=by rw[fE,List.length_replicate]
abbrev NI (H:Hd) (Z:List Int):List AV:=[.d (.int .i64 H.gain),.d (.int .u8 H.inf.seq),.d (.int .u8 H.inf.shape),.d (.int .i64 H.inf.max),.d (.lst (ai H.inf.groups)),.d (.lst (aC H.S)),.d (.lst (bq H.T)),.d (.lst (bi H.F)),.own true 1 (ai Z)]
theorem ao2:∀ r<12,(aO prog dV [.d (.int .i64 ((r:Nat):Int)),.agg zI]=some (.d (.int .i64 8))):=by
 intro r hr;have:r=0∨r=1∨r=2∨r=3∨r=4∨r=5∨r=6∨r=7∨r=8∨r=9∨r=10∨r=11:=by omega
 rcases this with rfl | rfl | rfl | rfl | rfl | rfl | rfl | rfl | rfl | rfl | rfl | rfl<;>exact wV 400 (by kernel_rfl)
theorem Hg {r:Nat}{q:Bool}{i:am}{iv:List AV}(hr:r≤11) (hi:i.Fit) (hiv:iv=i.cells∨q=false∧iv=zI) (hq:q=true→i.may r):∃ k:Int,(q=true→k=0)∧aO prog dV [.d (.int .i64 r),.agg iv]=some (.d (.int .i64 k)):=by
 rcases hiv with rfl | ⟨rfl,rfl⟩
 ·have hI:=pr r i hi;rw[if_pos (by omega),Int.toNat_natCast]at hI;by_cases hm:i.may r
  ·rw[if_pos hm]at hI;exact⟨0,fun _=>rfl,hI⟩
  ·rw[if_neg hm]at hI;exact⟨8,fun h=>absurd (hq h) hm,hI⟩
 ·exact⟨8,fun h=>absurd h (by simp),ao2 r (by omega)⟩
theorem awk (b:List Nat) (hb:b.length≤1000000000) (a:Int) (ha:i64 a) (r:Nat) (hr:r≤11) (q:Bool) (i:am) (hi:i.Fit) (iv:List AV) (hiv:iv=i.cells∨q=false∧iv=zI) (hq:q=true→i.may r) (n0:Nat) (e0:aQ b a 0=.ok 0 n0) (H:Hd) (n:Nat) (eH:AL b n0 r q i=.ok H n) (Z:List Int) (m:Nat) (eL:jJ b (XB r H.inf H.S) n Z0=.ok Z m):aO prog kB [.d (.lst (af b)),.d (.int .i64 a),.d (.int .i64 r),.d (.bool q),.agg iv] =
  if H.od=0∧(H.is=1→nF H.F=true) then some (.tup [.agg (NI H Z),.d (.int .i64 m),.d (.int .i64 0)])
  else some (.tup [.agg xn,.d (.int .i64 0),.d (.int .i64 8)]):=by
 have hR:dc (r:Int):=by omega
 have hB:=ez b a 0 hb ha;have p0:=cZ e0;rw[e0,cG p0]at hB;obtain⟨k,hk0,hI⟩:=Hg hr hi hiv hq;have hh:=T2 b hb r hR q i hi iv hiv (fun h=>by rw[Int.toNat_natCast];exact hq h) n0 (by have:=p0.2;omega) k 11;rw[Int.toNat_natCast]at hh;have p1:=hh.2 H n eH;have hl:=hh.1.1 H n eH;have hM:=gx r false;rw[if_pos hR]at hM;obtain⟨G,j,S,T,Ft,od,is⟩:=H;have hF:=Ly Ft (by have:=p1.F.1;simp only at this;have:=uT j;omega) (fun l hl=>by have:=(p1.F.2 l hl).1;omega);simp only[aiD]at hl eL;obtain⟨q1,q2,q3,C2,M,hp⟩:=(ae9 b hb ⟨.cells [.junk],.cells [.d (.bool q)],.cells iv,.cells [.d (.int .i64 od)],.cells [.d (.int .i64 is)],.cells [ajc],.cells oU,.cells j.cells,.cells [.d (.lst (aC S))],.cells [.own false 1 (bj (offs r j.short))]⟩ (.d (.int .i64 G)) (.d (.int .u8 j.seq)) (.d (.int .u8 j.shape)) (.d (.int .i64 j.max)) (.own false 1 (ai j.groups)) (ax 1 (aC S)) (share (ax 1 (bq T))) (ax 1 (bi Ft)) r hr j p1.fit p1.may S p1.S rfl rfl rfl n p1.n).1 Z m eL;have hj11:=iw hr p1.may;have hSl:S.length=j.groups.length:=p1.S.1;have hTl:=congrArg List.length p1.T;simp only[List.length_map]at hTl;have hFl:=p1.F.1;simp only at hFl;have hmn:=uT j;have hgn:j.groups≠[]:=fun h=>by have:=(cD hj11).2;rw[h]at this;simp at this;omega
 have hg1:=List.length_pos_iff.2 hgn;obtain⟨s1,S1,rfl⟩:=List.exists_cons_of_ne_nil (List.length_pos_iff.1 (show 0<S.length by omega));obtain⟨t1,T1,rfl⟩:=List.exists_cons_of_ne_nil (List.length_pos_iff.1 (show 0<T.length by omega));obtain⟨f1,F1,rfl⟩:=List.exists_cons_of_ne_nil (List.length_pos_iff.1 (show 0<Ft.length by omega));have eS:ax 1 (aC (s1::S1))=.own false 1 (aC (s1::S1)):=rfl;have eT:share (ax 1 (bq (t1::T1)))=.d (.lst (bq (t1::T1))):=rfl;have eF:ax 1 (bi (f1::F1))=.own false 1 (bi (f1::F1)):=rfl;have hP:=Ig r hr j (.lst (aC (s1::S1))) [(0,.cells [.d (.lst (af b))]),(1,.cells [.junk]),(2,.cells [.d (.bool q)]),(3,.cells iv),(4,.cells [.d (.int .i64 G),.d (.int .u8 j.seq),.d (.int .u8 j.shape),.d (.int .i64 j.max),.own false 1 (ai j.groups),.own false 1 (aC (s1::S1)),.d (.lst (bq (t1::T1))),.own false 1 (bi (f1::F1)),.sl 11 0 256]),(5,.cells [.d (.int .i64 n)]),(6,.cells [.d (.int .i64 0)]),(7,.cells [.d (.int .i64 od)]),(8,.cells [.d (.int .i64 is)]),(9,.cells [ajc]),(10,.cells oU),(11,.arr 1 (ai Z0)),(12,.cells nv),(13,.cells [.ptr 12 0])] 14 (fun p hp=>by
  simp only[List.mem_cons,List.not_mem_nil,or_false]at hp;rcases hp with rfl | rfl | rfl | rfl | rfl | rfl | rfl | rfl | rfl | rfl | rfl | rfl | rfl | rfl<;>simp only[]<;>omega)
 have c0:((0:Nat):Int)=0:=rfl;rw[eS,eT,eF]at hl hp;simp only[NI,am.cells,GH,kI,List.cons_append,List.nil_append,c0]at hI hl hp hP hB⊢;clear hh p1 eL eH q2 eS eT eF hi;generalize aC (s1::S1)=SS at *;generalize bq (t1::T1)=TT at *;generalize bi (f1::F1)=FF at *;generalize hz:ai Z0=z0 at *;have hk:=auC;have hz2:=apX;rw[hz]at hk hz2;rw[aq yi oY.eq_1 rfl];have hmk:DU 1 oU=true:=rfl;simp only[oU,sJ]at hmk;have hZt:List.take 256 Z=Z:=List.take_of_length_le (by omega);have hoi:(od=0∧((((is:Nat):Int)=1∧nF (f1::F1)=true)∨(((is:Nat):Int)≠1)))∨(od=0∧((is:Nat):Int)=1∧nF (f1::F1)=false)∨od≠0:=by
  cases nF (f1::F1)<;>simp<;>omega
 have hii:(is=1)=(((is:Nat):Int)=1):=propext (by omega);simp only[hii];clear hii;generalize nF (f1::F1)=an at *;generalize ((is:Nat):Int)=iz at *;rcases hoi with ⟨h1,⟨h2,h3⟩ | h2⟩ | ⟨h1,h2,h3⟩ | h1
 ·subst h3;rw[if_pos ⟨h1,fun _=>rfl⟩];rcases hiv with rfl | ⟨rfl,rfl⟩
  ·simp only[am.cells]at hI hl hp hP⊢
   cases q with
   | true =>
    have:=hk0 rfl;subst this;simp (config := { maxSteps:=1000000 }) (disch:=omega) [↓if_pos,↓if_neg,rd,hB,hM,hI,hl,hk,hz2,hP,hp,hmk,hF,q1,hZt]
   | false=>simp (config := { maxSteps:=1000000 }) (disch:=omega) [↓if_pos,↓if_neg,rd,hB,hM,hI,hl,hk,hz2,hP,hp,hmk,hF,q1,hZt]
  ·simp only[zI]at hI hl hp hP⊢;simp (config := { maxSteps:=1000000 }) (disch:=omega) [↓if_pos,↓if_neg,rd,hB,hM,hI,hl,hk,hz2,hP,hp,hmk,hF,q1,hZt]
 ·rw[if_pos ⟨h1,fun h=>absurd h h2⟩];rcases hiv with rfl | ⟨rfl,rfl⟩
  ·simp only[am.cells]at hI hl hp hP⊢
   cases q with
   | true =>
    have:=hk0 rfl;subst this;simp (config := { maxSteps:=1000000 }) (disch:=omega) [↓if_pos,↓if_neg,rd,hB,hM,hI,hl,hk,hz2,hP,hp,hmk,hF,q1,hZt]
   | false=>simp (config := { maxSteps:=1000000 }) (disch:=omega) [↓if_pos,↓if_neg,rd,hB,hM,hI,hl,hk,hz2,hP,hp,hmk,hF,q1,hZt]
  ·simp only[zI]at hI hl hp hP⊢;simp (config := { maxSteps:=1000000 }) (disch:=omega) [↓if_pos,↓if_neg,rd,hB,hM,hI,hl,hk,hz2,hP,hp,hmk,hF,q1,hZt]
 ·subst h3;rw[if_neg (fun h=>absurd (h.2 h2) (by simp))];rcases hiv with rfl | ⟨rfl,rfl⟩
  ·simp only[am.cells]at hI hl hp hP⊢
   cases q with
   | true =>
    have:=hk0 rfl;subst this;simp (config := { maxSteps:=1000000 }) (disch:=omega) [↓if_pos,↓if_neg,rd,hB,hM,hI,hl,hk,hz2,hP,hp,hmk,hF,q1,hZt]
   | false=>simp (config := { maxSteps:=1000000 }) (disch:=omega) [↓if_pos,↓if_neg,rd,hB,hM,hI,hl,hk,hz2,hP,hp,hmk,hF,q1,hZt]
  ·simp only[zI]at hI hl hp hP⊢;simp (config := { maxSteps:=1000000 }) (disch:=omega) [↓if_pos,↓if_neg,rd,hB,hM,hI,hl,hk,hz2,hP,hp,hmk,hF,q1,hZt]
 ·rw[if_neg (fun h=>absurd h.1 h1)];rcases hiv with rfl | ⟨rfl,rfl⟩
  ·simp only[am.cells]at hI hl hp hP⊢
   cases q with
   | true =>
    have:=hk0 rfl;subst this;simp (config := { maxSteps:=1000000 }) (disch:=omega) [↓if_pos,↓if_neg,rd,hB,hM,hI,hl,hk,hz2,hP,hp,hmk,hF,q1,hZt]
   | false=>simp (config := { maxSteps:=1000000 }) (disch:=omega) [↓if_pos,↓if_neg,rd,hB,hM,hI,hl,hk,hz2,hP,hp,hmk,hF,q1,hZt]
  ·simp only[zI]at hI hl hp hP⊢;simp (config := { maxSteps:=1000000 }) (disch:=omega) [↓if_pos,↓if_neg,rd,hB,hM,hI,hl,hk,hz2,hP,hp,hmk,hF,q1,hZt]
theorem aq0 (b:List Nat) (hb:b.length≤1000000000) (a:Int) (ha:i64 a) (r:Nat) (hr:r≤11) (q:Bool) (i:am) (iv:List AV) (hiv:iv=i.cells∨q=false∧iv=zI) (e:Nat) (e0:aQ b a 0=.er e):aO prog kB [.d (.lst (af b)),.d (.int .i64 a),.d (.int .i64 r),.d (.bool q),.agg iv] =
  some (.tup [.agg xn,.d (.int .i64 0),.d (.int .i64 (e+1))]):=by
 have hR:dc (r:Int):=by omega
 have hB:=ez b a 0 hb ha;rw[e0,fc]at hB;have hM:=gx r false;rw[if_pos hR]at hM;rcases hiv with rfl | ⟨rfl,rfl⟩
 all_goals
  simp only[am.cells,zI];rw[aq yi oY.eq_1 rfl];simp (config := { maxSteps:=1000000 }) (disch:=omega) [↓if_pos,↓if_neg,rd,hB,hM]
theorem asm (b:List Nat) (hb:b.length≤1000000000) (a:Int) (ha:i64 a) (r:Nat) (hr:r≤11) (i:am) (hi:i.Fit) (hm:¬ i.may r) (n0:Nat) (e0:aQ b a 0=.ok 0 n0):aO prog kB [.d (.lst (af b)),.d (.int .i64 a),.d (.int .i64 r),.d (.bool true),.agg i.cells] =
  some (.tup [.agg xn,.d (.int .i64 0),.d (.int .i64 8)]):=by
 have hR:dc (r:Int):=by omega
 have hB:=ez b a 0 hb ha;have p0:=cZ e0;rw[e0,cG p0]at hB;have hM:=gx r false;rw[if_pos hR]at hM;have hI:=pr r i hi;rw[if_pos hR,Int.toNat_natCast,if_neg hm]at hI;have c0:((0:Nat):Int)=0:=rfl;simp only[am.cells,c0]at hI hB⊢;rw[aq yi oY.eq_1 rfl];simp (config := { maxSteps:=1000000 }) (disch:=omega) [↓if_pos,↓if_neg,rd,hB,hM,hI]
theorem asv (b:List Nat) (hb:b.length≤1000000000) (a:Int) (ha:i64 a) (r:Nat) (hr:r≤11) (q:Bool) (i:am) (hi:i.Fit) (iv:List AV) (hiv:iv=i.cells∨q=false∧iv=zI) (hq:q=true→i.may r) (n0:Nat) (e0:aQ b a 0=.ok 0 n0) (e:Nat) (eH:AL b n0 r q i=.er e):aO prog kB [.d (.lst (af b)),.d (.int .i64 a),.d (.int .i64 r),.d (.bool q),.agg iv] =
  some (.tup [.agg xn,.d (.int .i64 0),.d (.int .i64 (e+1))]):=by
 have hR:dc (r:Int):=by omega
 have hB:=ez b a 0 hb ha;have p0:=cZ e0;rw[e0,cG p0]at hB;obtain⟨k,hk0,hI⟩:=Hg hr hi hiv hq;have hh:=T2 b hb r hR q i hi iv hiv (fun h=>by rw[Int.toNat_natCast];exact hq h) n0 (by have:=p0.2;omega) k 11;rw[Int.toNat_natCast]at hh;obtain⟨od2,is2,hl⟩:=hh.1.2 e eH;have hM:=gx r false;rw[if_pos hR]at hM;have c0:((0:Nat):Int)=0:=rfl;simp only[am.cells,c0]at hI hl hB⊢;clear hh eH hi hq;rw[aq yi oY.eq_1 rfl];have hmk:DU 1 oU=true:=rfl;simp only[oU,sJ]at hmk;rcases hiv with rfl | ⟨rfl,rfl⟩
 ·simp only[am.cells]at hI hl⊢
  cases q with
  | true =>
   have:=hk0 rfl;subst this;simp (config := { maxSteps:=1000000 }) (disch:=omega) [↓if_pos,↓if_neg,rd,hB,hM,hI,hl,hmk]
  | false=>simp (config := { maxSteps:=1000000 }) (disch:=omega) [↓if_pos,↓if_neg,rd,hB,hM,hI,hl,hmk]
 ·simp only[zI]at hI hl⊢;simp (config := { maxSteps:=1000000 }) (disch:=omega) [↓if_pos,↓if_neg,rd,hB,hM,hI,hl,hmk]
theorem auc (b:List Nat) (hb:b.length≤1000000000) (a:Int) (ha:i64 a) (r:Nat) (hr:r≤11) (q:Bool) (i:am) (hi:i.Fit) (iv:List AV) (hiv:iv=i.cells∨q=false∧iv=zI) (hq:q=true→i.may r) (n0:Nat) (e0:aQ b a 0=.ok 0 n0) (H:Hd) (n:Nat) (eH:AL b n0 r q i=.ok H n) (e:Nat) (eL:jJ b (XB r H.inf H.S) n Z0=.er e):aO prog kB [.d (.lst (af b)),.d (.int .i64 a),.d (.int .i64 r),.d (.bool q),.agg iv] =
  some (.tup [.agg xn,.d (.int .i64 0),.d (.int .i64 (e+1))]):=by
 have hR:dc (r:Int):=by omega
 have hB:=ez b a 0 hb ha;have p0:=cZ e0;rw[e0,cG p0]at hB;obtain⟨k,hk0,hI⟩:=Hg hr hi hiv hq;have hh:=T2 b hb r hR q i hi iv hiv (fun h=>by rw[Int.toNat_natCast];exact hq h) n0 (by have:=p0.2;omega) k 11;rw[Int.toNat_natCast]at hh;have p1:=hh.2 H n eH;have hl:=hh.1.1 H n eH;have hM:=gx r false;rw[if_pos hR]at hM;obtain⟨G,j,S,T,Ft,od,is⟩:=H;simp only[aiD]at hl eL;obtain⟨C2,Z2,M,hp⟩:=(ae9 b hb ⟨.cells [.junk],.cells [.d (.bool q)],.cells iv,.cells [.d (.int .i64 od)],.cells [.d (.int .i64 is)],.cells [ajc],.cells oU,.cells j.cells,.cells [.d (.lst (aC S))],.cells [.own false 1 (bj (offs r j.short))]⟩ (.d (.int .i64 G)) (.d (.int .u8 j.seq)) (.d (.int .u8 j.shape)) (.d (.int .i64 j.max)) (.own false 1 (ai j.groups)) (ax 1 (aC S)) (share (ax 1 (bq T))) (ax 1 (bi Ft)) r hr j p1.fit p1.may S p1.S rfl rfl rfl n p1.n).2 e eL;have hj11:=iw hr p1.may;have hSl:S.length=j.groups.length:=p1.S.1;have hTl:=congrArg List.length p1.T;simp only[List.length_map]at hTl;have hFl:=p1.F.1;simp only at hFl;have hmn:=uT j;have hgn:j.groups≠[]:=fun h=>by have:=(cD hj11).2;rw[h]at this;simp at this;omega
 have hg1:=List.length_pos_iff.2 hgn;obtain⟨s1,S1,rfl⟩:=List.exists_cons_of_ne_nil (List.length_pos_iff.1 (show 0<S.length by omega));obtain⟨t1,T1,rfl⟩:=List.exists_cons_of_ne_nil (List.length_pos_iff.1 (show 0<T.length by omega));obtain⟨f1,F1,rfl⟩:=List.exists_cons_of_ne_nil (List.length_pos_iff.1 (show 0<Ft.length by omega));have eS:ax 1 (aC (s1::S1))=.own false 1 (aC (s1::S1)):=rfl;have eT:share (ax 1 (bq (t1::T1)))=.d (.lst (bq (t1::T1))):=rfl;have eF:ax 1 (bi (f1::F1))=.own false 1 (bi (f1::F1)):=rfl;have hP:=Ig r hr j (.lst (aC (s1::S1))) [(0,.cells [.d (.lst (af b))]),(1,.cells [.junk]),(2,.cells [.d (.bool q)]),(3,.cells iv),(4,.cells [.d (.int .i64 G),.d (.int .u8 j.seq),.d (.int .u8 j.shape),.d (.int .i64 j.max),.own false 1 (ai j.groups),.own false 1 (aC (s1::S1)),.d (.lst (bq (t1::T1))),.own false 1 (bi (f1::F1)),.sl 11 0 256]),(5,.cells [.d (.int .i64 n)]),(6,.cells [.d (.int .i64 0)]),(7,.cells [.d (.int .i64 od)]),(8,.cells [.d (.int .i64 is)]),(9,.cells [ajc]),(10,.cells oU),(11,.arr 1 (ai Z0)),(12,.cells nv),(13,.cells [.ptr 12 0])] 14 (fun p hp=>by
  simp only[List.mem_cons,List.not_mem_nil,or_false]at hp;rcases hp with rfl | rfl | rfl | rfl | rfl | rfl | rfl | rfl | rfl | rfl | rfl | rfl | rfl | rfl<;>simp only[]<;>omega)
 have c0:((0:Nat):Int)=0:=rfl;rw[eS,eT,eF]at hl hp;simp only[am.cells,GH,kI,Jh,List.cons_append,List.nil_append,c0]at hI hl hp hP hB⊢;clear hh p1 eL eH eS eT eF hi;generalize aC (s1::S1)=SS at *;generalize bq (t1::T1)=TT at *;generalize bi (f1::F1)=FF at *;generalize hz:ai Z0=z0 at *;have hk:=auC;have hz2:=apX;rw[hz]at hk hz2;rw[aq yi oY.eq_1 rfl];have hmk:DU 1 oU=true:=rfl;simp only[oU,sJ]at hmk;rcases hiv with rfl | ⟨rfl,rfl⟩
 ·simp only[am.cells]at hI hl hp hP⊢
  cases q with
  | true =>
   have:=hk0 rfl;subst this;simp (config := { maxSteps:=1000000 }) (disch:=omega) [↓if_pos,↓if_neg,rd,hB,hM,hI,hl,hk,hz2,hP,hp,hmk]
  | false=>simp (config := { maxSteps:=1000000 }) (disch:=omega) [↓if_pos,↓if_neg,rd,hB,hM,hI,hl,hk,hz2,hP,hp,hmk]
 ·simp only[zI]at hI hl hp hP⊢;simp (config := { maxSteps:=1000000 }) (disch:=omega) [↓if_pos,↓if_neg,rd,hB,hM,hI,hl,hk,hz2,hP,hp,hmk]
def aog (b:List Nat) (a:Int) (r:Nat) (q:Bool) (i:am):R (Hd×List Int) :=
 (aQ b a 0).bind fun _ n=>if q=true∧¬ i.may r then .er 7 else (AL b n r q i).bind fun H n=>(jJ b (XB r H.inf H.S) n Z0).bind fun Z m=>if H.od=0∧(H.is=1→nF H.F=true) then .ok (H,Z) m else .er 7
abbrev axz (x:R (Hd×List Int)):Option AV:=match x with
 | .ok v m=>some (.tup [.agg (NI v.1 v.2),.d (.int .i64 m),.d (.int .i64 0)])
 | .er e=>some (.tup [.agg xn,.d (.int .i64 0),.d (.int .i64 (e+1))])
theorem aw3 (b:List Nat) (hb:b.length≤1000000000) (a:Int) (ha:i64 a) (r:Nat) (hr:r≤11) (q:Bool) (i:am) (hi:i.Fit) (iv:List AV) (hiv:iv=i.cells∨q=false∧iv=zI):aO prog kB [.d (.lst (af b)),.d (.int .i64 a),.d (.int .i64 r),.d (.bool q),.agg iv]=axz (aog b a r q i):=by
 unfold aog
 cases e0:aQ b a 0 with
 | er e=>exact aq0 b hb a ha r hr q i iv hiv e e0
 | ok v n0 =>
 have hv:v=0:=by have:v<1:=(cZ e0).1;omega
 subst hv;rw[ak];by_cases hm:q=true∧¬ i.may r
 ·rw[if_pos hm];obtain⟨rfl,hm⟩:=hm
  cases hiv.resolve_right fun h=>absurd h.1 (by simp)
  exact asm b hb a ha r hr i hi hm n0 e0
 ·rw[if_neg hm];have hq:q=true→i.may r:=fun h=>Classical.byContradiction fun h2=>hm ⟨h,h2⟩
  cases eH:AL b n0 r q i with
  | er e=>exact asv b hb a ha r hr q i hi iv hiv hq n0 e0 e eH
  | ok H n =>
  rw[ak]
  cases eL:jJ b (XB r H.inf H.S) n Z0 with
  | er e=>exact auc b hb a ha r hr q i hi iv hiv hq n0 e0 H n eH e eL
  | ok Z m =>
   rw[ak,awk b hb a ha r hr q i hi iv hiv hq n0 e0 H n eH Z m eL];by_cases h:H.od=0∧(H.is=1→nF H.F=true)
   ·rw[if_pos h,if_pos h]
   ·rw[if_neg h,if_neg h];rfl
theorem Bi {α:Type}{f:α→List Nat}{k:Nat}:∀ {l:List α},(∀ x∈l,(f x).length≤k)→(l.flatMap f).length≤k*l.length
 | [],_=>by simp
 | x::r,h=>by
  have a:=h x (.head _);have b:=Bi (l:=r) fun y hy=>h y (.tail _ hy)
  rw[List.flatMap_cons,List.length_append,List.length_cons,Nat.mul_add];omega
theorem amW {d hi:Nat}:∀ {f x:Nat},(pY d hi f x).length≤f
 | 0,_=>by simp[pY]
 | f+1,x=>by
  rw[pY];split
  ·have:=amW (d:=d) (hi:=hi) (f:=f) (x:=x+d);simp only[List.length_cons];omega
  ·simp
theorem anX {os:List Nat}{d b:Nat}:∀ {k w:Nat},(qp os d b k w).length≤300*k
 | 0,_=>by simp[qp]
 | k+1,w=>by
  have a:=amW (d:=d) (hi:=nth os (b+1)) (f:=300) (x:=nth os b);have b:=anX (os:=os) (d:=d) (b:=b) (k:=k) (w:=w+1);rw[qp,List.length_append,List.length_map];omega
theorem anL {os:List Nat}{d n first:Nat}(hn:n≤8):∀ {k b:Nat},(v6 os d n first k b).length≤2400*k
 | 0,_=>by simp[v6]
 | k+1,b=>by
  have a:=anX (os:=os) (d:=d) (b:=b) (k:=n) (w:=first);have c:=anL (os:=os) (d:=d) (first:=first) hn (k:=k) (b:=b+1);rw[v6,List.length_append];omega
theorem anj {os:List Nat}{n first:Nat}(hn:n≤8):∀ {r:List ao}{b:Nat}{lf:Int},fitsS lf r→0≤lf→(xJ os n first r b).length≤2400*lf.toNat
 | [],b,lf,h,h0=>by simp[xJ]
 | s::r,b,lf,h,h0=>by
  obtain⟨⟨⟨l1,l2⟩,_⟩,h2⟩:=h;have a:=anL (os:=os) (d:=aM s.book.toNat) (first:=first) hn (k:=s.len.toNat) (b:=b);have c:=anj (os:=os) (first:=first) hn (b:=b+s.len.toNat) h2 (by omega);rw[xJ,List.length_append];split
  ·simp only[List.length_nil];omega
  ·rw[List.length_map];omega
theorem anx {os:List Nat}{m:Int}(hm:0≤m∧m≤40):∀ {r:List (List ao)}{q:List Int}{first:Nat},cP m r→(∀ n∈q,n≤8)→(mN os r q first).length≤100000*q.length
 | [],q,first,_,_=>by simp[mN]
 | l::r,[],first,_,_=>by simp[mN]
 | l::r,n::q,first,hf,hn=>by
  have h1:=hn n (.head _);have a:=anj (os:=os) (n:=n.toNat) (first:=first) (by omega) (b:=0) (hf l (.head _)) hm.1;have c:=anx (os:=os) hm (r:=r) (q:=q) (first:=first+n.toNat) (fun x hx=>hf x (.tail _ hx)) (fun x hx=>hn x (.tail _ hx));rw[mN,List.length_append,List.length_cons];omega
theorem Yu {r:Nat}{c:bJ}(hc:c.Fit) (h:ql r c) (hr:r≤11):(jI r c).length≤160000000:=by
 have hm11:=iw hr h.info;obtain⟨g1,g2⟩:=cD hm11;have hmm:c.info.many≤8:=by unfold am.many;split<;>omega
 have hgl:c.info.groups.length≤8:=by have:=lk (fun n hn=>(g1 n hn).1);omega
 have a:=anx (os:=offs r c.info.short) (jx hm11) (first:=0) h.sects.2 fun n hn=>(g1 n hn).2
 have b:=Bi (f:=nV c) (k:=200) (l:=mN (offs r c.info.short) c.sects c.info.groups 0) fun p hp=>by
  obtain⟨h1,h2,h3⟩:=Kt hc h hr hp;exact(afq h1 h3).2
 unfold jI;omega
theorem Ma:∀ {g:List (List ao)}{t:List (List Int)}{w z:Int}{m:Int},0≤m∧m≤40→cP m g→jZ g t w z≠none→(kE g t w z).length≤800*g.length
 | [],[],_,_,_,_,_,_=>by simp[kE]
 | [],_::_,_,_,_,_,_,h=>absurd rfl h
 | _::_,[],_,_,_,_,_,h=>absurd rfl h
 | l::r,t::s,w,z,m,hm,hf,h=>by
  rw[jZ]at h
  cases hr:bK (al l) t w z with
  | none=>rw[hr]at h;exact absurd rfl h
  | some fin =>
   rw[hr]at h;have a:=RT (bks:=al l) (t:=t) (w:=w) (z:=z) (by rw[hr];simp);have b:=lX (hf l (.head _)) hm.1;have c:=Ma (g:=r) (t:=s) (w:=fin.1) (z:=fin.2) hm (fun x hx=>hf x (.tail _ hx)) h;rw[kE,hr,List.length_append,List.length_cons];simp only;omega
theorem afm {i:am}:(nZ i).length≤20:=by
 unfold nZ;split<;>simp[ad1]
theorem aeO {i:am}{g:List (List ao)}(hm:i.may 11) (hg:gX i g):(Ns i g).length≤600000*g.length:=by
 have hsz:1≤i.fsz∧i.fsz≤5:=by unfold am.fsz;split<;>omega
 have hmx:=jx hm;refine Bi fun l hl=>?_
 have hf:=hg.2 l hl;have a:=KS hsz (px hf (by omega));have b:l.length≤100:=by
  rcases Cp hf with h | h
  ·omega
  ·subst h;simp
 omega
def ou (r:Nat) (c:bJ) (common:Bool):List Nat :=
 aj c.gain.toNat 8++((if common then [] else nZ c.info)++(Ns c.info c.sects++(kE c.sects c.steps c.gain (-1)++((if nF c.tns then 0::1::(fL c.info.short c.tns++[0]) else [0,0,0])++jI r c))))
theorem anO (b:List Nat) (hb:b.length≤300000000) (x:AV) (hx:x=.d (.lst (af b))∨x=.nl∧b=[]) (rt:Int) (c:bJ) (hc:c.Fit) (common:Bool) :
  (dc rt∧ql rt.toNat c∧aO prog kq [x,.d (.int .i64 rt),.agg c.av,.d (.bool common)]=some (.tup [.own true 1 (af (b++ou rt.toNat c common)),.d (.int .i64 0)]))∨
  (∃ e:Int,e≠0∧aO prog dW [.d (.int .i64 rt),.agg c.av]=some (.d (.int .i64 e))∧(dc rt→¬ ql rt.toNat c)∧aO prog kq [x,.d (.int .i64 rt),.agg c.av,.d (.bool common)]=some (.tup [.nl,.d (.int .i64 e)])):=by
 have bad:∀ e:Int,e≠0→aO prog dW [.d (.int .i64 rt),.agg c.av]=some (.d (.int .i64 e))→aO prog kq [x,.d (.int .i64 rt),.agg c.av,.d (.bool common)]=some (.tup [.nl,.d (.int .i64 e)]):=by
  intro e he hC;simp only[bJ.av]at hC⊢;rw[aq afy DF.eq_1 rfl];rcases hx with rfl | ⟨rfl,rfl⟩
  all_goals simp (maxSteps:=300000) (disch:=omega) [↓if_pos,↓if_neg,hC,he]
 rcases ao5 rt c hc with ⟨hr,h,hC⟩ | ⟨hr,h,hC⟩ | ⟨hr,hC⟩
 ·refine .inl ⟨hr,h,?_⟩;obtain⟨R,rfl⟩:=Int.eq_ofNat_of_zero_le hr.1;simp only[Int.toNat_natCast]at h⊢;have hR:R≤11:=by omega
  have hm11:=iw hR h.info;have hmx:=jx hm11;obtain⟨g1,g2⟩:=cD hm11;have hmm:c.info.many≤8:=by unfold am.many;split<;>omega
  have hgl:c.info.groups.length≤8:=by have:=lk (fun n hn=>(g1 n hn).1);omega
  have hgs:c.sects.length≤8:=by have:=h.sects.1;omega
  have k1:=afm (i:=c.info);have k2:=aeO hm11 h.sects;have k3:=Ma hmx h.sects.2 h.steps;have k4:(fL c.info.short c.tns).length≤1000*c.tns.length:=Bi fun l hl=>abC (h.tns.2 l hl)
  have k5:=Yu hc h hR;have htl:=h.tns.1;have hx8:(8:Int).toNat=8:=rfl;have p1:=jQ b c.gain 8 (by omega) (by have:=h.gain;omega) x hx;rw[if_pos (by have:=h.gain;simp only[nX,hx8];omega),hx8]at p1;obtain⟨B1,hB1⟩:∃ B1,B1=b++aj c.gain.toNat 8:=⟨_,rfl⟩
  have l1:B1.length=b.length+8:=by rw[hB1];simp
  rw[←hB1]at p1;have p2:=as3 B1 (by omega) _ (.inl rfl) R c.info hc.info;rw[if_pos hr,Int.toNat_natCast,if_pos h.info]at p2;obtain⟨B2,hB2⟩:∃ B2,B2=B1++(if common then [] else nZ c.info):=⟨_,rfl⟩
  have l2:B2.length≤b.length+28:=by rw[hB2,List.length_append];split<;>(try simp only[List.length_nil])<;>omega
  have p3:=atu B2 (by omega) _ (.inl rfl) c.info hc.info hm11 c.sects hc.sects h.sects;obtain⟨B3,hB3⟩:∃ B3,B3=B2++Ns c.info c.sects:=⟨_,rfl⟩
  have l3:B3.length≤b.length+5000000:=by rw[hB3,List.length_append];omega
  rw[←hB3]at p3;have p4:=ap0 B3 (by omega) _ (.inl rfl) c.gain c.info.max c.sects c.steps h.gain hgs hmx h.sects.2 hc.sects.2 h.steps fun l hl=>by have:=hc.steps.2 l hl;omega
  obtain⟨B4,hB4⟩:∃ B4,B4=B3++kE c.sects c.steps c.gain (-1):=⟨_,rfl⟩
  have l4:B4.length≤b.length+6000000:=by rw[hB4,List.length_append];omega
  rw[←hB4]at p4;have p5:=Ly c.tns (by omega) fun l hl=>by have:=(hc.tns.2 l hl).1;omega
  have p6:=alH (B4++[0,1]) (by simp;omega) _ (.inl rfl) c.info hc.info hm11 c.tns h.tns fun l hl f hf=>(hc.fltI l hl f hf).2
  obtain⟨B5,hB5⟩:∃ B5,B5=B4++(if nF c.tns then 0::1::(fL c.info.short c.tns++[0]) else [0,0,0]):=⟨_,rfl⟩
  have l5:B5.length≤b.length+7000000:=by rw[hB5,List.length_append];split<;>simp<;>omega
  have hfin:b++ou R c common=B5++jI R c:=by rw[hB5,hB4,hB3,hB2,hB1];simp only[ou,List.append_assoc]
  obtain⟨C2,M,p7⟩:=asN R hR c hc h (.d (.lst (af B5))) rfl (by omega);have p8:=Ig R hR c.info (.lst (aC c.sects)) [(0,.cells c.av),(1,.cells nv),(2,.cells [.ptr 1 0]),(3,.cells [.nl])] 4 (fun p hp=>by
   simp only[List.mem_cons,List.not_mem_nil,or_false]at hp;rcases hp with rfl | rfl | rfl | rfl<;>simp only[]<;>omega)
  rw[hfin];have hbl:(af (jI R c)).length=(jI R c).length:=eI;have hb5:(af B5).length=B5.length:=eI;have hb4:(af B4).length=B4.length:=eI;have hb01:af B4++[[D.int .u8 0],[D.int .u8 1]]=af (B4++[0,1]):=by simp[af]
  have hb000:af B4++[[D.int .u8 0],[D.int .u8 0],[D.int .u8 0]]=af (B4++[0,0,0]):=by simp[af]
  have hb6:af (B4++[0,1]++fL c.info.short c.tns)++[[D.int .u8 0]]=af (B4++[0,1]++fL c.info.short c.tns++[0]):=by simp[af]
  have hl6n:(B4++[0,1]++fL c.info.short c.tns).length≤400000000:=by simp;omega
  have hl6:(af (B4++[0,1]++fL c.info.short c.tns)).length≤400000000:=by rw[eI];simp;omega
  simp only[FQ,bJ.av,am.cells,List.cons_append,List.nil_append]at hC p2 p3 p4 p6 p7 p8⊢;rw[aq afy DF.eq_1 rfl]
  cases hcm:common with
  | true =>
   rw[hcm]at hB2;simp only[if_true,List.append_nil]at hB2;subst hB2
   cases haf:nF c.tns with
   | true =>
    rw[haf]at hB5 p5;simp only[if_true]at hB5;have e5:B4++[0,1]++fL c.info.short c.tns++[0]=B5:=by rw[hB5];simp
    rw[e5]at hb6;generalize jI R c=LL at *;generalize B4++[0,1]++fL c.info.short c.tns=B6 at *;generalize B4++[0,1]=B7 at *;rcases hx with rfl | ⟨rfl,rfl⟩
    ·simp (config := { maxSteps:=1000000 }) (disch:=omega) [↓if_pos,↓if_neg,rd,hC,p1,p3,p4,p5,p6,hb01,hb6,hb000,p8,p7]
     try omega
    ·simp (config := { maxSteps:=1000000 }) (disch:=omega) [↓if_pos,↓if_neg,rd,hC,p1,p3,p4,p5,p6,hb01,hb6,hb000,p8,p7]
     try omega
   | false =>
    rw[haf]at hB5 p5;simp only[Bool.false_eq_true,if_false]at hB5;rw[←hB5]at hb000;generalize jI R c=LL at *;generalize B4++[0,1]++fL c.info.short c.tns=B6 at *;generalize B4++[0,1]=B7 at *;rcases hx with rfl | ⟨rfl,rfl⟩
    ·simp (config := { maxSteps:=1000000 }) (disch:=omega) [↓if_pos,↓if_neg,rd,hC,p1,p3,p4,p5,p6,hb01,hb6,hb000,p8,p7]
     try omega
    ·simp (config := { maxSteps:=1000000 }) (disch:=omega) [↓if_pos,↓if_neg,rd,hC,p1,p3,p4,p5,p6,hb01,hb6,hb000,p8,p7]
     try omega
  | false =>
   rw[hcm]at hB2;simp only[Bool.false_eq_true,if_false]at hB2;rw[←hB2]at p2
   cases haf:nF c.tns with
   | true =>
    rw[haf]at hB5 p5;simp only[if_true]at hB5;have e5:B4++[0,1]++fL c.info.short c.tns++[0]=B5:=by rw[hB5];simp
    rw[e5]at hb6;generalize jI R c=LL at *;generalize B4++[0,1]++fL c.info.short c.tns=B6 at *;generalize B4++[0,1]=B7 at *;rcases hx with rfl | ⟨rfl,rfl⟩
    ·simp (config := { maxSteps:=1000000 }) (disch:=omega) [↓if_pos,↓if_neg,rd,hC,p1,p2,p3,p4,p5,p6,hb01,hb6,hb000,p8,p7]
     try omega
    ·simp (config := { maxSteps:=1000000 }) (disch:=omega) [↓if_pos,↓if_neg,rd,hC,p1,p2,p3,p4,p5,p6,hb01,hb6,hb000,p8,p7]
     try omega
   | false =>
    rw[haf]at hB5 p5;simp only[Bool.false_eq_true,if_false]at hB5;rw[←hB5]at hb000;generalize jI R c=LL at *;generalize B4++[0,1]++fL c.info.short c.tns=B6 at *;generalize B4++[0,1]=B7 at *;rcases hx with rfl | ⟨rfl,rfl⟩
    ·simp (config := { maxSteps:=1000000 }) (disch:=omega) [↓if_pos,↓if_neg,rd,hC,p1,p2,p3,p4,p5,p6,hb01,hb6,hb000,p8,p7]
     try omega
    ·simp (config := { maxSteps:=1000000 }) (disch:=omega) [↓if_pos,↓if_neg,rd,hC,p1,p2,p3,p4,p5,p6,hb01,hb6,hb000,p8,p7]
     try omega
 ·exact .inr ⟨8,by omega,hC,fun _=>h,bad 8 (by omega) hC⟩
 ·exact .inr ⟨2,by omega,hC,fun h=>absurd h hr,bad 2 (by omega) hC⟩
structure aou (c:bJ):Prop where
 groups:c.info.groups.length≤40
 sects:c.sects.length≤40∧∀ l∈c.sects,l.length≤100
 steps:c.steps.length≤40∧∀ l∈c.steps,l.length≤200
 tns:c.tns.length≤40∧∀ l∈c.tns,l.length≤20∧∀ f∈l,f.coefs.length≤100
 lines:c.lines.length≤2000
theorem asH (c:bJ) (hl:c.sects.length≤40):∀ (r:List (List ao)) (i:Nat),c.sects.drop i=r→
  ((∀ l∈r,l.length≤100)∧(Dn prog).code (.loop cf) ⟨[(1,.ptr 0 0),(3,.d (.int .i64 i))],⟨[(0,.cells c.av)],1⟩⟩=some (.exit 0,⟨[(1,.ptr 0 0)],⟨[(0,.cells c.av)],1⟩⟩))∨
  (Dn prog).code (.loop cf) ⟨[(1,.ptr 0 0),(3,.d (.int .i64 i))],⟨[(0,.cells c.av)],1⟩⟩=some (.ret,⟨[(2,.d (.bool true))],⟨[],1⟩⟩):=by
 intro r
 induction r with
 | nil =>
  intro i hd;have hi:=aK hd;refine .inl ⟨by simp,?_⟩;rw[aa cf.eq_1];simp (maxSteps:=300000) (disch:=omega) [↓if_neg]
 | cons l r ih =>
  intro i hd;have hg:=gw hd;have hlt:=aU hd;have hd1:c.sects.drop (i+1)=r:=by rw[←List.tail_drop,hd];rfl
  have ih1:=ih (i+1) hd1;rw[show ((i+1:Nat):Int)=(i:Int)+1 from rfl]at ih1;by_cases hn:l.length≤100
  ·rcases ih1 with ⟨ha,e⟩ | e
   ·refine .inl ⟨fun q hq=>?_,?_⟩
    ·rcases List.mem_cons.1 hq with rfl | hq
     ·exact hn
     ·exact ha q hq
    ·rw[aa cf.eq_1];simp (maxSteps:=300000) (disch:=omega) [↓if_pos,↓if_neg,hg,e]
   ·refine .inr ?_;rw[aa cf.eq_1];simp (maxSteps:=300000) (disch:=omega) [↓if_pos,↓if_neg,hg,e]
  ·refine .inr ?_;rw[aa cf.eq_1];simp (maxSteps:=300000) (disch:=omega) [↓if_pos,↓if_neg,hg]
theorem aup (c:bJ) (hl:c.steps.length≤40):∀ (r:List (List Int)) (i:Nat),c.steps.drop i=r→
  ((∀ l∈r,l.length≤200)∧(Dn prog).code (.loop cg) ⟨[(1,.ptr 0 0),(4,.d (.int .i64 i))],⟨[(0,.cells c.av)],1⟩⟩=some (.exit 2,⟨[(1,.ptr 0 0)],⟨[(0,.cells c.av)],1⟩⟩))∨
  (Dn prog).code (.loop cg) ⟨[(1,.ptr 0 0),(4,.d (.int .i64 i))],⟨[(0,.cells c.av)],1⟩⟩=some (.ret,⟨[(2,.d (.bool true))],⟨[],1⟩⟩):=by
 intro r
 induction r with
 | nil =>
  intro i hd;have hi:=aK hd;refine .inl ⟨by simp,?_⟩;rw[aa cg.eq_1];simp (maxSteps:=300000) (disch:=omega) [↓if_neg]
 | cons l r ih =>
  intro i hd;have hg:=xP hd;have hlt:=aU hd;have hd1:c.steps.drop (i+1)=r:=by rw[←List.tail_drop,hd];rfl
  have ih1:=ih (i+1) hd1;rw[show ((i+1:Nat):Int)=(i:Int)+1 from rfl]at ih1;by_cases hn:l.length≤200
  ·rcases ih1 with ⟨ha,e⟩ | e
   ·refine .inl ⟨fun q hq=>?_,?_⟩
    ·rcases List.mem_cons.1 hq with rfl | hq
     ·exact hn
     ·exact ha q hq
    ·rw[aa cg.eq_1];simp (maxSteps:=300000) (disch:=omega) [↓if_pos,↓if_neg,hg,e]
   ·refine .inr ?_;rw[aa cg.eq_1];simp (maxSteps:=300000) (disch:=omega) [↓if_pos,↓if_neg,hg,e]
  ·refine .inr ?_;rw[aa cg.eq_1];simp (maxSteps:=300000) (disch:=omega) [↓if_pos,↓if_neg,hg]
theorem atL (c:bJ) (w:Nat) (full:List aR) (q:List (List aR)) (hw:c.tns.drop w=full::q) (hl:full.length≤20):∀ (r:List aR) (i:Nat),full.drop i=r→
  ((∀ f∈r,f.coefs.length≤100)∧(Dn prog).code (.loop cb) ⟨[(1,.ptr 0 0),(5,.d (.int .i64 w)),(6,.d (.int .i64 i))],⟨[(0,.cells c.av)],1⟩⟩=some (.exit 6,⟨[(1,.ptr 0 0),(5,.d (.int .i64 w))],⟨[(0,.cells c.av)],1⟩⟩))∨
  (Dn prog).code (.loop cb) ⟨[(1,.ptr 0 0),(5,.d (.int .i64 w)),(6,.d (.int .i64 i))],⟨[(0,.cells c.av)],1⟩⟩=some (.ret,⟨[(2,.d (.bool true))],⟨[],1⟩⟩):=by
 have hg1:=lT hw;have hw1:=aU hw;intro r
 induction r with
 | nil =>
  intro i hd;have hi:=aK hd;refine .inl ⟨by simp,?_⟩;rw[aa cb.eq_1];simp (maxSteps:=300000) (disch:=omega) [↓if_neg,↓if_pos,hg1]
 | cons l r ih =>
  intro i hd;have hg:=rW hd;have hlt:=aU hd;have hd1:full.drop (i+1)=r:=by rw[←List.tail_drop,hd];rfl
  have ih1:=ih (i+1) hd1;rw[show ((i+1:Nat):Int)=(i:Int)+1 from rfl]at ih1;by_cases hn:l.coefs.length≤100
  ·rcases ih1 with ⟨ha,e⟩ | e
   ·refine .inl ⟨fun q hq=>?_,?_⟩
    ·rcases List.mem_cons.1 hq with rfl | hq
     ·exact hn
     ·exact ha q hq
    ·rw[aa cb.eq_1];simp (maxSteps:=300000) (disch:=omega) [↓if_pos,↓if_neg,hg,hg1,e]
   ·refine .inr ?_;rw[aa cb.eq_1];simp (maxSteps:=300000) (disch:=omega) [↓if_pos,↓if_neg,hg,hg1,e]
  ·refine .inr ?_;rw[aa cb.eq_1];simp (maxSteps:=300000) (disch:=omega) [↓if_pos,↓if_neg,hg,hg1]
theorem at2 (c:bJ) (hl:c.tns.length≤40):∀ (r:List (List aR)) (i:Nat),c.tns.drop i=r→
  ((∀ l∈r,l.length≤20∧∀ f∈l,f.coefs.length≤100)∧(Dn prog).code (.loop bN) ⟨[(1,.ptr 0 0),(5,.d (.int .i64 i))],⟨[(0,.cells c.av)],1⟩⟩=some (.exit 4,⟨[],⟨[],1⟩⟩))∨
  (Dn prog).code (.loop bN) ⟨[(1,.ptr 0 0),(5,.d (.int .i64 i))],⟨[(0,.cells c.av)],1⟩⟩=some (.ret,⟨[(2,.d (.bool true))],⟨[],1⟩⟩):=by
 intro r
 induction r with
 | nil =>
  intro i hd;have hi:=aK hd;refine .inl ⟨by simp,?_⟩;rw[aa bN.eq_1];simp (maxSteps:=300000) (disch:=omega) [↓if_neg]
 | cons l r ih =>
  intro i hd;have hg:=lT hd;have hlt:=aU hd;have hd1:c.tns.drop (i+1)=r:=by rw[←List.tail_drop,hd];rfl
  have ih1:=ih (i+1) hd1;rw[show ((i+1:Nat):Int)=(i:Int)+1 from rfl]at ih1;by_cases hn:l.length≤20
  ·rcases atL c i l r hd hn l 0 rfl with ⟨h2,e2⟩ | e2
   ·rw[show ((0:Nat):Int)=0 from rfl]at e2;rcases ih1 with ⟨ha,e⟩ | e
    ·refine .inl ⟨fun q hq=>?_,?_⟩
     ·rcases List.mem_cons.1 hq with rfl | hq
      ·exact⟨hn,h2⟩
      ·exact ha q hq
     ·rw[aa bN.eq_1];simp (maxSteps:=300000) (disch:=omega) [↓if_pos,↓if_neg,hg,e2,e]
    ·refine .inr ?_;rw[aa bN.eq_1];simp (maxSteps:=300000) (disch:=omega) [↓if_pos,↓if_neg,hg,e2,e]
   ·refine .inr ?_;rw[show ((0:Nat):Int)=0 from rfl]at e2;rw[aa bN.eq_1];simp (maxSteps:=300000) (disch:=omega) [↓if_pos,↓if_neg,hg,e2]
  ·refine .inr ?_;rw[aa bN.eq_1];simp (maxSteps:=300000) (disch:=omega) [↓if_pos,↓if_neg,hg]
theorem aAs (c:bJ):(aou c∧aO prog iN [.agg c.av]=some (.d (.bool false)))∨aO prog iN [.agg c.av]=some (.d (.bool true)):=by
 by_cases h1:c.info.groups.length≤40
 rotate_left
 ·refine .inr ?_;rw[aq bR bz.eq_1 rfl];simp (maxSteps:=300000) (disch:=omega) [↓if_pos,↓if_neg]
 by_cases h2:c.sects.length≤40
 rotate_left
 ·refine .inr ?_;rw[aq bR bz.eq_1 rfl];simp (maxSteps:=300000) (disch:=omega) [↓if_pos,↓if_neg]
 by_cases h3:c.steps.length≤40
 rotate_left
 ·refine .inr ?_;rw[aq bR bz.eq_1 rfl];simp (maxSteps:=300000) (disch:=omega) [↓if_pos,↓if_neg]
 by_cases h4:c.tns.length≤40
 rotate_left
 ·refine .inr ?_;rw[aq bR bz.eq_1 rfl];simp (maxSteps:=300000) (disch:=omega) [↓if_pos,↓if_neg]
 by_cases h5:c.lines.length≤2000
 rotate_left
 ·refine .inr ?_;rw[aq bR bz.eq_1 rfl];simp (maxSteps:=300000) (disch:=omega) [↓if_pos,↓if_neg]
 rcases asH c h2 _ 0 rfl with ⟨a0,e0⟩ | e0
 rotate_left
 ·refine .inr ?_;rw[show ((0:Nat):Int)=0 from rfl]at e0;rw[aq bR bz.eq_1 rfl];simp (maxSteps:=300000) (disch:=omega) [↓if_pos,↓if_neg,e0]
 rcases aup c h3 _ 0 rfl with ⟨a1,e1⟩ | e1
 rotate_left
 ·refine .inr ?_;rw[show ((0:Nat):Int)=0 from rfl]at e0 e1;rw[aq bR bz.eq_1 rfl];simp (maxSteps:=300000) (disch:=omega) [↓if_pos,↓if_neg,e0,e1]
 rcases at2 c h4 _ 0 rfl with ⟨a3,e3⟩ | e3
 rotate_left
 ·refine .inr ?_;rw[show ((0:Nat):Int)=0 from rfl]at e0 e1 e3;rw[aq bR bz.eq_1 rfl];simp (maxSteps:=300000) (disch:=omega) [↓if_pos,↓if_neg,e0,e1,e3]
 refine .inl ⟨⟨h1,⟨h2,a0⟩,⟨h3,a1⟩,⟨h4,a3⟩,h5⟩,?_⟩;rw[show ((0:Nat):Int)=0 from rfl]at e0 e1 e3;rw[aq bR bz.eq_1 rfl];simp (maxSteps:=300000) (disch:=omega) [↓if_pos,↓if_neg,e0,e1,e3]
theorem atX (l:List Int) (hl:l.length≤1000000) (h:ac) (N:Nat):∀ (r:List Int) (i:Nat),l.drop i=r→(Dn prog).code (.loop gG) ⟨[(0,.d (.lst (ai l))),(1,.d (.lst (ai l))),(5,.d (.int .i64 i))],⟨h,N⟩⟩=some (.exit 0,⟨[],⟨h,N⟩⟩):=by
 intro r
 induction r with
 | nil =>
  intro i hd;have hi:=aK hd;rw[aa gG.eq_1];simp (maxSteps:=300000) (disch:=omega) [↓if_pos,↓if_neg]
 | cons v r ih =>
  intro i hd;have hg:=py hd;have hlt:=aU hd;have e:=ih (i+1) (aP hd);rw[show ((i+1:Nat):Int)=(i:Int)+1 from rfl]at e;rw[aa gG.eq_1];simp (maxSteps:=300000) (disch:=omega) [↓if_pos,↓if_neg,hg,e]
theorem AH (l:List Int) (hl:l.length≤1000000):aO prog ej [.d (.lst (ai l)),.d (.lst (ai l))]=some (.d (.bool true)):=by
 have e:=atX l hl [] 0 l 0 rfl;rw[show ((0:Nat):Int)=0 from rfl]at e;rw[aq Iz mB.eq_1 rfl];simp (maxSteps:=300000) (disch:=omega) [↓if_pos,↓if_neg,e]
theorem aoj (i:am) (hi:i.groups.length≤1000000):aO prog mc [.agg i.cells,.agg i.cells]=some (.d (.bool true)):=by
 have e:=AH i.groups hi;simp only[am.cells];rw[aq He mb.eq_1 rfl];simp (maxSteps:=300000) (disch:=omega) [↓if_pos,↓if_neg,e]
theorem ar1 (l:List (List Int)) (hl:l.length≤1000000) (hq:∀ x∈l,x.length≤1000000) (h:ac) (N:Nat):∀ (r:List (List Int)) (i:Nat),l.drop i=r→(Dn prog).code (.loop ec) ⟨[(0,.d (.lst (bq l))),(1,.d (.lst (bq l))),(5,.d (.int .i64 i))],⟨h,N⟩⟩=some (.exit 0,⟨[],⟨h,N⟩⟩):=by
 intro r
 induction r with
 | nil =>
  intro i hd;have hi:=aK hd;rw[aa ec.eq_1];simp (maxSteps:=300000) (disch:=omega) [↓if_pos,↓if_neg]
 | cons v r ih =>
  intro i hd;have hg:=xP hd;have hlt:=aU hd;have hv:=hq v (List.mem_of_mem_drop (by rw[hd];exact .head _));have e:=ih (i+1) (aP hd);have e2:=AH v hv;rw[show ((i+1:Nat):Int)=(i:Int)+1 from rfl]at e;rw[aa ec.eq_1];simp (maxSteps:=300000) (disch:=omega) [↓if_pos,↓if_neg,hg,e,e2]
theorem Zq (l:List (List Int)) (hl:l.length≤1000000) (hq:∀ x∈l,x.length≤1000000):aO prog js [.d (.lst (bq l)),.d (.lst (bq l))]=some (.d (.bool true)):=by
 have e:=ar1 l hl hq [] 0 l 0 rfl;rw[show ((0:Nat):Int)=0 from rfl]at e;rw[aq Aw jm.eq_1 rfl];simp (maxSteps:=300000) (disch:=omega) [↓if_pos,↓if_neg,e]
theorem apV (x y:Int):WN true [true,true] (.agg [.d (.int .i64 x),.d (.int .i64 y)]) (.agg [.d (.int .i64 x),.d (.int .i64 y)])=some (.bool false):=by
 simp[WN,az,jH]
theorem awD (full:List (List ao)) (w:Nat) (l:List ao) (q:List (List ao)) (hw:full.drop w=l::q) (hf:full.length≤1000000) (hl:l.length≤1000000) (h:ac) (N:Nat):∀ (r:List ao) (i:Nat),l.drop i=r→(Dn prog).code (.loop dy) ⟨[(0,.d (.lst (aC full))),(1,.d (.lst (aC full))),(5,.d (.int .i64 w)),(6,.d (.int .i64 i))],⟨h,N⟩⟩=some (.exit 2,⟨[(0,.d (.lst (aC full))),(1,.d (.lst (aC full))),(5,.d (.int .i64 w))],⟨h,N⟩⟩):=by
 have hg1:=gw hw;have hw1:=aU hw;intro r
 induction r with
 | nil =>
  intro i hd;have hi:=aK hd;rw[aa dy.eq_1];simp (maxSteps:=300000) (disch:=omega) [↓if_pos,↓if_neg,hg1]
 | cons v r ih =>
  intro i hd;have hg:=oj hd;have hlt:=aU hd;have e:=ih (i+1) (aP hd);rw[show ((i+1:Nat):Int)=(i:Int)+1 from rfl]at e;rw[aa dy.eq_1];simp (maxSteps:=300000) (disch:=omega) [↓if_pos,↓if_neg,hg,hg1,e,apV]
theorem avJ (full:List (List ao)) (hf:full.length≤1000000) (hq:∀ x∈full,x.length≤1000000) (h:ac) (N:Nat):∀ (r:List (List ao)) (i:Nat),full.drop i=r→(Dn prog).code (.loop dq) ⟨[(0,.d (.lst (aC full))),(1,.d (.lst (aC full))),(5,.d (.int .i64 i))],⟨h,N⟩⟩=some (.exit 0,⟨[],⟨h,N⟩⟩):=by
 intro r
 induction r with
 | nil =>
  intro i hd;have hi:=aK hd;rw[aa dq.eq_1];simp (maxSteps:=300000) (disch:=omega) [↓if_pos,↓if_neg]
 | cons v r ih =>
  intro i hd;have hg:=gw hd;have hlt:=aU hd;have hv:=hq v (List.mem_of_mem_drop (by rw[hd];exact .head _));have e:=ih (i+1) (aP hd);have e2:=awD full i v r hd hf hv h N v 0 rfl;rw[show ((i+1:Nat):Int)=(i:Int)+1 from rfl]at e;rw[show ((0:Nat):Int)=0 from rfl]at e2;rw[aa dq.eq_1];simp (maxSteps:=300000) (disch:=omega) [↓if_pos,↓if_neg,hg,e,e2]
theorem M6 (l:List (List ao)) (hl:l.length≤1000000) (hq:∀ x∈l,x.length≤1000000):aO prog gU [.d (.lst (aC l)),.d (.lst (aC l))]=some (.d (.bool true)):=by
 have e:=avJ l hl hq [] 0 l 0 rfl;rw[show ((0:Nat):Int)=0 from rfl]at e;rw[aq xf gZ.eq_1 rfl];simp (maxSteps:=300000) (disch:=omega) [↓if_pos,↓if_neg,e]
theorem axB (full:List (List aR)) (w:Nat) (l:List aR) (q:List (List aR)) (hw:full.drop w=l::q) (hf:full.length≤1000000) (hl:l.length≤1000000) (hc:∀ f∈l,f.coefs.length≤1000000):∀ (r:List aR) (i N:Nat),l.drop i=r→∃ M,(Dn prog).code (.loop fj) ⟨[(0,.d (.lst (bi full))),(1,.d (.lst (bi full))),(5,.d (.int .i64 w)),(6,.d (.int .i64 i))],⟨[],N⟩⟩=some (.exit 2,⟨[(0,.d (.lst (bi full))),(1,.d (.lst (bi full))),(5,.d (.int .i64 w))],⟨[],M⟩⟩):=by
 have hg1:=lT hw;have hw1:=aU hw;intro r
 induction r with
 | nil =>
  intro i N hd;have hi:=aK hd;refine⟨N,?_⟩;rw[aa fj.eq_1];simp (maxSteps:=300000) (disch:=omega) [↓if_pos,↓if_neg,hg1]
 | cons v r ih =>
  intro i N hd;have hg:=rW hd;have hlt:=aU hd;have hv:=hc v (List.mem_of_mem_drop (by rw[hd];exact .head _));have e2:=AH v.coefs hv;obtain⟨M,e⟩:=ih (i+1) (N+1+1) (aP hd);rw[show ((i+1:Nat):Int)=(i:Int)+1 from rfl]at e;refine⟨M,?_⟩;rw[aa fj.eq_1];simp (maxSteps:=300000) (disch:=omega) [↓if_pos,↓if_neg,hg,hg1,e,e2]
theorem axD (full:List (List aR)) (hf:full.length≤1000000) (hq:∀ x∈full,x.length≤1000000) (hc:∀ x∈full,∀ f∈x,f.coefs.length≤1000000):∀ (r:List (List aR)) (i N:Nat),full.drop i=r→∃ M,(Dn prog).code (.loop fe) ⟨[(0,.d (.lst (bi full))),(1,.d (.lst (bi full))),(5,.d (.int .i64 i))],⟨[],N⟩⟩=some (.exit 0,⟨[],⟨[],M⟩⟩):=by
 intro r
 induction r with
 | nil =>
  intro i N hd;have hi:=aK hd;refine⟨N,?_⟩;rw[aa fe.eq_1];simp (maxSteps:=300000) (disch:=omega) [↓if_pos,↓if_neg]
 | cons v r ih =>
  intro i N hd;have hg:=lT hd;have hlt:=aU hd;have hm:v∈full:=List.mem_of_mem_drop (by rw[hd];exact .head _);have hv:=hq v hm;obtain⟨M1,e2⟩:=axB full i v r hd hf hv (hc v hm) v 0 N rfl;obtain⟨M,e⟩:=ih (i+1) M1 (aP hd);rw[show ((i+1:Nat):Int)=(i:Int)+1 from rfl]at e;rw[show ((0:Nat):Int)=0 from rfl]at e2;refine⟨M,?_⟩;rw[aa fe.eq_1];simp (maxSteps:=300000) (disch:=omega) [↓if_pos,↓if_neg,hg,e,e2]
theorem agn (l:List (List aR)) (hl:l.length≤1000000) (hq:∀ x∈l,x.length≤1000000) (hc:∀ x∈l,∀ f∈x,f.coefs.length≤1000000):aO prog kh [.d (.lst (bi l)),.d (.lst (bi l))]=some (.d (.bool true)):=by
 obtain⟨M,e⟩:=axD l hl hq hc l 0 0 rfl;rw[show ((0:Nat):Int)=0 from rfl]at e;rw[aq Dh kg.eq_1 rfl];simp (maxSteps:=300000) (disch:=omega) [↓if_pos,↓if_neg,e]
theorem ao4 (c:bJ) (hc:c.Fit):aO prog jp [.agg c.av,.agg c.av]=some (.d (.bool true)):=by
 have hg:=hc.info.len;have hl:=hc.lines;have h1:=aoj c.info (by omega);have h2:=AH c.lines (by omega);have h3:=M6 c.sects (by have:=hc.sects.1;omega) (fun l h=>by have:=hc.sects.2 l h;omega);have h4:=Zq c.steps (by have:=hc.steps.1;omega) (fun l h=>by have:=hc.steps.2 l h;omega);have h5:=agn c.tns (by have:=hc.tns.1;omega) (fun l h=>by have:=(hc.tns.2 l h).1;omega) (fun l h f hf=>by have:=(hc.tns.2 l h).2 f hf;omega);simp only[bJ.av,am.cells]at h1⊢;rw[aq I3 ma.eq_1 rfl];simp (maxSteps:=300000) (disch:=omega) [↓if_pos,↓if_neg,h1,h2,h3,h4,h5]
def At (b:List Nat) (a n:Nat) (X:List Nat):Prop:=a≤b.length∧n=a+X.length∧∃ t,b.drop a=X++t
theorem fb {b:List Nat}{a n:Nat}:At b a n []↔n=a∧a≤b.length:=by
 constructor
 ·rintro ⟨h1,h2,_⟩
  exact⟨by simpa using h2,h1⟩
 ·rintro ⟨h1,h2⟩
  exact⟨h2,by simpa using h1,b.drop a,rfl⟩
theorem dh {b:List Nat}{a n:Nat}{X:List Nat}(h:At b a n X):a≤b.length∧n≤b.length∧n=a+X.length:=by
 obtain⟨h1,h2,t,h3⟩:=h;have:=congrArg List.length h3;rw[List.length_drop,List.length_append]at this;exact⟨h1,by omega,h2⟩
theorem aT {b:List Nat}{a n:Nat}{X Y:List Nat}:At b a n (X++Y)↔∃ m,At b a m X∧At b m n Y:=by
 constructor
 ·intro h;have hl:=dh h;obtain⟨h1,h2,t,h3⟩:=h;rw[List.length_append]at h2;refine⟨a+X.length,⟨h1,rfl,Y++t,by rw[h3,List.append_assoc]⟩,by omega,by omega,t,?_⟩;rw[←List.drop_drop,h3,List.append_assoc,List.drop_left]
 ·rintro ⟨m,⟨h1,h2,t,h3⟩,h4,h5,t2,h6⟩
  refine⟨h1,by rw[List.length_append];omega,t2,?_⟩;rw[h2,←List.drop_drop,h3,List.drop_left]at h6;rw[h3,h6,List.append_assoc]
theorem VS {n:Nat}:∀ {k:Nat},bin (aj n k)
 | 0=>by simp[aj,bin]
 | k+1=>by
  intro x hx;rw[aj]at hx;rcases List.mem_cons.1 hx with h | h
  ·omega
  ·exact VS x h
theorem aak {v:Nat}:∀ {s n:Nat},val (aj v s) n=n*2 ^ s+v % 2 ^ s
 | 0,n=>by simp[aj,val,Nat.mod_one]
 | k+1,n=>by
  rw[aj,val,aak,Nat.mod_pow_succ,Nat.pow_succ,Nat.add_mul];have:2*n*2 ^ k=n*(2 ^ k*2):=by rw[Nat.mul_comm 2 n,Nat.mul_assoc,Nat.mul_comm 2 (2 ^ k)]
  rw[this,Nat.mul_comm (v / 2 ^ k % 2)];omega
theorem akg:∀ {l:List Nat}{n:Nat},val l n=n*2 ^ l.length+val l 0
 | [],n=>by simp[val]
 | x::r,n=>by
  rw[val,val,akg,akg (n:=2*0+x),List.length_cons,Nat.pow_succ,Nat.add_mul];have:2*n*2 ^ r.length=n*(2 ^ r.length*2):=by rw[Nat.mul_comm 2 n,Nat.mul_assoc,Nat.mul_comm 2 (2 ^ r.length)]
  rw[this];simp only[Nat.mul_zero,Nat.zero_add];omega
theorem aeo:∀ {l:List Nat}{n:Nat},bin l→aj (val l n) l.length=l
 | [],n,_=>rfl
 | x::r,n,h=>by
  have hr:bin r:=fun y hy=>h y (.tail _ hy)
  have hx:=h x (.head _);have h0:=Ki (l:=r) (n:=0) (i:=0) hr (by omega);rw[Nat.zero_add]at h0;have e:val r (2*n+x) / 2 ^ r.length % 2=x:=by
   rw[akg,Nat.add_comm,Nat.add_mul_div_right _ _ (Nat.pow_pos (by decide)),Nat.div_eq_of_lt h0];omega
  rw[val,List.length_cons,aj,e,aeo hr]
theorem bn {b:List Nat}{a s v n:Nat}(hs:s≤31):aQ b (a:Int) (s:Int)=.ok v n↔v<2 ^ s∧At b a n (aj v s):=by
 unfold aQ;simp only[Int.toNat_natCast];constructor
 ·intro h;by_cases h1:(0≤(s:Int)∧(s:Int)≤31)∧0≤(a:Int)∧(a:Int)≤b.length
  ·rw[if_pos h1]at h;by_cases h2:((b.length:Nat):Int)-a<s
   ·rw[if_pos h2]at h;exact absurd h (by simp)
   ·rw[if_neg h2]at h;by_cases h3:bin ((b.drop a).take s)
    ·rw[if_pos h3]at h;injection h with e1 e2
     have hl:((b.drop a).take s).length=s:=by rw[List.length_take,List.length_drop];omega
     have h4:=Ki (n:=0) (i:=0) h3 (by omega);have h5:=aeo (n:=0) h3;rw[hl,e1]at h4 h5;rw[Nat.zero_add]at h4;refine⟨h4,by omega,by rw[d8];omega,(b.drop a).drop s,?_⟩;rw[h5,List.take_append_drop]
    ·rw[if_neg h3]at h;exact absurd h (by simp)
  ·rw[if_neg h1]at h;exact absurd h (by simp)
 ·rintro ⟨hv,h⟩
  have hl:=dh h;obtain⟨h1,h2,t,h3⟩:=h;rw[d8]at h2;have e:(b.drop a).take s=aj v s:=by rw[h3,List.take_left' d8]
  rw[if_pos (by omega),if_neg (by omega),e,if_pos VS,aak,Nat.mod_eq_of_lt hv,h2];simp
theorem avs {b:List Nat}{a:Int}{s:Int}{v n:Nat}(h:aQ b a s=.ok v n):0≤a:=by
 unfold aQ at h;by_cases h1:(0≤s∧s≤31)∧0≤a∧a≤b.length
 ·exact h1.2.1
 ·rw[if_neg h1]at h;exact absurd h (by simp)
theorem Nw {α:Type}{c:Prop}[Decidable c] {v w:α}{n m:Nat}:MZ c v n=.ok w m↔c∧v=w∧n=m:=by
 unfold MZ;by_cases h:c
 ·rw[if_pos h];exact⟨fun e=>by injection e with e1 e2;exact⟨h,e1,e2⟩,fun⟨_,e1,e2⟩=>by rw[e1,e2]⟩
 ·rw[if_neg h];exact⟨fun e=>absurd e (by simp),fun e=>absurd e.1 h⟩
theorem aE {α β:Type}{x:R α}{f:α→Nat→R β}{v:β}{n:Nat}:x.bind f=.ok v n↔∃ u m,x=.ok u m∧f u m=.ok v n :=
 ⟨kQ,fun⟨u,m,h1,h2⟩=>by rw[h1];exact h2⟩
def Zz:Nat→List (List Nat)
 | 0=>[[]]
 | k+1=>(Zz k).map (0::·)++(Zz k).map (1::·)
theorem ant:∀ {l:List Nat},bin l→l∈Zz l.length
 | [],_=>by simp[Zz]
 | x::r,h=>by
  have ih:=ant (l:=r) fun y hy=>h y (.tail _ hy)
  have hx:=h x (.head _);rw[List.length_cons,Zz,List.mem_append,List.mem_map,List.mem_map];rcases Nat.le_one_iff_eq_zero_or_eq_one.1 hx with rfl | rfl
  ·exact .inl ⟨r,ih,rfl⟩
  ·exact .inr ⟨r,ih,rfl⟩
def aj0:Nat→Nat→List (List Int)
 | 0,_=>[]
 | f+1,0=>[[]]
 | f+1,n+1=>(List.range (n+1)).flatMap fun k=>(aj0 f (n-k)).map (((k:Int)+1)::·)
theorem amJ:∀ {g:List Int}{f n:Nat},(∀ x∈g,1≤x)→g.sum=n→n<f→g∈aj0 f n
 | [],f,n,_,h,hf=>by
  obtain⟨f,rfl⟩:=Nat.exists_eq_add_of_lt hf;have:n=0:=by simp at h;omega
  subst this;simp[aj0]
 | x::r,f,n,hx,h,hf=>by
  have h1:=hx x (.head _);have h2:=lk (l:=r) fun y hy=>hx y (.tail _ hy)
  rw[List.sum_cons]at h;obtain⟨f,rfl⟩:∃ k,f=k+1:=⟨f-1,by omega⟩
  obtain⟨n,rfl⟩:∃ k,n=k+1:=⟨n-1,by omega⟩
  have ih:=amJ (g:=r) (f:=f) (n:=n-(x.toNat-1)) (fun y hy=>hx y (.tail _ hy)) (by omega) (by omega);rw[aj0,List.mem_flatMap];exact⟨x.toNat-1,List.mem_range.2 (by omega),List.mem_map.2 ⟨r,ih,by congr 1;omega⟩⟩
theorem awf:∀ l∈Zz 7,DE (grow [1] l) 7 0=l:=by decide +kernel
theorem avP:∀ g∈aj0 9 8,grow [1] (DE g 7 0)=g:=by decide +kernel
theorem IU {b:List Nat}:∀ {k a n:Nat}{l:List Nat},a≤b.length→(qH b k a=.ok l n↔(l.length=k∧bin l)∧At b a n l)
 | 0,a,n,l,ha=>by
  rw[qH];constructor
  ·intro h;injection h with e1 e2
   subst e1 e2;exact⟨⟨rfl,by simp[bin]⟩,fb.2 ⟨rfl,ha⟩⟩
  ·rintro ⟨⟨h1,_⟩,h2⟩
   have:=List.eq_nil_of_length_eq_zero h1;subst this;rw[(fb.1 h2).1]
 | k+1,a,n,l,ha=>by
  rw[qH,aE];constructor
  ·rintro ⟨v,m,h1,h2⟩
   obtain⟨g1,g2⟩:=(bn (s:=1) (by omega)).1 h1;obtain⟨l2,m2,h3,h4⟩:=aE.1 h2;injection h4 with e1 e2
   subst e1 e2;obtain⟨⟨i1,i2⟩,i3⟩:=(IU (dh g2).2.1).1 h3;refine⟨⟨by rw[List.length_cons,i1],fun x hx=>?_⟩,?_⟩
   ·rcases List.mem_cons.1 hx with rfl | hx
    ·omega
    ·exact i2 x hx
   ·have e:aj v 1=[v]:=by simp[aj];omega
    rw[e]at g2;exact aT.2 ⟨m,g2,i3⟩
  ·rintro ⟨⟨h1,h2⟩,h3⟩
   cases l with
   | nil=>simp at h1
   | cons v r =>
    have hv:=h2 v (.head _);obtain⟨m,g1,g2⟩:=aT (X:=[v]) (Y:=r) |>.1 h3;have e:aj v 1=[v]:=by simp[aj];omega
    rw[←e]at g1;have hr:=(IU (k:=k) (dh g2).1).2 ⟨⟨by simpa using h1,fun y hy=>h2 y (.tail _ hy)⟩,g2⟩;exact⟨v,m,(bn (s:=1) (by omega)).2 ⟨by omega,g1⟩,by rw[hr];rfl⟩
theorem anQ {g:List Int}:∀ {k w:Nat},bin (DE g k w)
 | 0,_=>by simp[DE,bin]
 | k+1,w=>by
  intro x hx;rw[DE]at hx;rcases List.mem_append.1 hx with h | h
  ·revert h
   split<;>exact fun h=>VS x h
  ·exact anQ x h
theorem aoi {b:List Nat}{a r n:Nat}{j:am}(hr:r≤11):pp b (a:Int) r=.ok j n↔j.may r∧At b a n (nZ j):=by
 unfold pp nZ;constructor
 ·intro h;obtain⟨o,n1,h1,h⟩:=aE.1 h;obtain⟨q,n2,h2,h⟩:=aE.1 h;obtain⟨s,n3,h3,h⟩:=aE.1 h;have k1:=(bn (s:=1) (by omega)).1 h1;have k2:=(bn (s:=2) (by omega)).1 h2;have k3:=(bn (s:=1) (by omega)).1 h3;by_cases hq:q=2
  ·rw[if_pos hq]at h;obtain⟨m,n4,h4,h⟩:=aE.1 h;obtain⟨l,n5,h5,h⟩:=aE.1 h;obtain⟨⟨ho,hm⟩,e1,e2⟩:=Nw.1 h;have k4:=(bn (s:=4) (by omega)).1 h4;have k5:=(IU (dh k4.2).2.1).1 h5;subst e1 e2 ho;refine⟨hm,aT.2 ⟨n1,k1.2,aT.2 ⟨n2,k2.2,aT.2 ⟨n3,k3.2,?_⟩⟩⟩⟩;simp only[hq,if_true,Int.toNat_natCast];refine aT.2 ⟨n4,k4.2,?_⟩;rw[awf l (by have:=ant k5.1.2;rwa [k5.1.1]at this)];exact k5.2
  ·rw[if_neg hq]at h;obtain⟨m,n4,h4,h⟩:=aE.1 h;obtain⟨p,n5,h5,h⟩:=aE.1 h;obtain⟨⟨⟨ho,hp⟩,hm⟩,e1,e2⟩:=Nw.1 h;have k4:=(bn (s:=6) (by omega)).1 h4;have k5:=(bn (s:=1) (by omega)).1 h5;subst e1 e2 ho hp;refine⟨hm,aT.2 ⟨n1,k1.2,aT.2 ⟨n2,k2.2,aT.2 ⟨n3,k3.2,?_⟩⟩⟩⟩;simp only[if_neg hq,Int.toNat_natCast];exact aT.2 ⟨n4,k4.2,k5.2⟩
 ·rintro ⟨hm,h0⟩
  obtain⟨n1,k1,h1⟩:=aT.1 h0;obtain⟨n2,k2,h2⟩:=aT.1 h1;obtain⟨n3,k3,h3⟩:=aT.1 h2;clear h0 h1 h2;have g11:=iw hr hm;have hmx:=jx g11;obtain⟨s,sh,m,g⟩:=j;have hs:s≤3:=hm.1;have hsh:sh≤1:=hm.2.1;simp only at hmx h3 k2 k3;obtain⟨M,rfl⟩:=Int.eq_ofNat_of_zero_le hmx.1;refine aE.2 ⟨0,n1,(bn (s:=1) (by omega)).2 ⟨by omega,k1⟩,aE.2 ⟨s,n2,(bn (s:=2) (by omega)).2 ⟨by omega,k2⟩,aE.2 ⟨sh,n3,(bn (s:=1) (by omega)).2 ⟨by omega,k3⟩,?_⟩⟩⟩;have hmb:(M:Int)≤nU r (decide (s=2)):=hm.2.2.2.1;have hgr:am.grouped _:=hm.2.2.2.2;unfold am.grouped at hgr;simp only[Int.toNat_natCast]at h3 hgr;by_cases hq:s=2
  ·subst hq;have m4:M<2 ^ 4:=by
    have:=(Ja (r,true) (dI (by omega))).2;simp only[decide_true]at hmb this;omega
   rw[if_pos rfl]at h3 hgr⊢;obtain⟨n4,k4,h4⟩:=aT.1 h3;have hg:=avP g (amJ (fun x hx=>(hgr.1 x hx).1) hgr.2.1 (by omega));exact aE.2 ⟨M,n4,(bn (s:=4) (by omega)).2 ⟨m4,k4⟩,aE.2 ⟨DE g 7 0,n,(IU (dh k4).2.1).2 ⟨⟨ad1,anQ⟩,h4⟩,Nw.2 ⟨⟨rfl,by rw[hg];exact hm⟩,by rw[hg],rfl⟩⟩⟩
  ·have m6:=CR (r:=r) (s:=decide (s=2)) (by omega);rw[if_neg hq]at h3 hgr⊢;obtain⟨n4,k4,h4⟩:=aT.1 h3
   cases hgr
   exact aE.2 ⟨M,n4,(bn (s:=6) (by omega)).2 ⟨by omega,k4⟩,aE.2 ⟨0,n,(bn (s:=1) (by omega)).2 ⟨by omega,h4⟩,Nw.2 ⟨⟨⟨rfl,rfl⟩,hm⟩,rfl,rfl⟩⟩⟩
theorem anF {au:Nat}(hm:1≤au):∀ {f g n:Nat},n≤f→n≤g→bZ au f n=bZ au g n
 | 0,0,n,_,_=>rfl
 | 0,g+1,n,h,_=>by
  have:n=0:=by omega
  subst this;rw[bZ,bZ,if_neg (by omega)]
 | f+1,0,n,_,h=>by
  have:n=0:=by omega
  subst this;rw[bZ,bZ,if_neg (by omega)]
 | f+1,g+1,n,h1,h2=>by
  rw[bZ,bZ];by_cases h:au≤n
  ·rw[if_pos h,if_pos h,anF hm (f:=f) (g:=g) (n:=n-au) (by omega) (by omega)]
  ·rw[if_neg h,if_neg h]
theorem aur {au d:Nat}(hm:1≤au) (h:au≤d):bZ au d d=au::bZ au (d-au) (d-au):=by
 obtain⟨e,rfl⟩:∃ e,d=e+1:=⟨d-1,by omega⟩
 rw[bZ,if_pos h,anF hm (f:=e) (g:=e+1-au) (by omega) (by omega)]
theorem au4 {au d:Nat}(h:d<au):bZ au d d=[d]:=by
 cases d with
 | zero=>rfl
 | succ e=>rw[bZ,if_neg (by omega)]
theorem NN {b:List Nat}{sz au left:Nat}(hs:1≤sz∧sz≤5) (hm:au=2 ^ sz-1):∀ {f a acc n m:Nat},left<acc+f→
  (qh b sz au left f a acc=.ok n m↔(acc≤n∧n≤left)∧At b a m ((bZ au (n-acc) (n-acc)).flatMap fun x=>aj x sz))
 | 0,a,acc,n,m,hf=>by
  rw[qh];exact⟨fun h=>absurd h (by simp),fun h=>by omega⟩
 | f+1,a,acc,n,m,hf=>by
  have h2:2 ^ 1≤2 ^ sz:=Nat.pow_le_pow_right (by omega) hs.1;rw[qh,aE];constructor
  ·rintro ⟨x,m1,h1,h⟩
   obtain⟨g1,g2⟩:=(bn (by omega)).1 h1;by_cases hl:left<acc+x
   ·rw[if_pos hl]at h;exact absurd h (by simp)
   rw[if_neg hl]at h;by_cases hx:x=au
   ·rw[if_pos hx,NN hs hm (by omega)]at h;obtain⟨h3,h4⟩:=h;refine⟨by omega,?_⟩;rw[aur (by omega) (by omega),List.flatMap_cons,aT];refine⟨m1,by rw[←hx];exact g2,?_⟩;rw[show n-acc-au=n-(acc+x) by omega];exact h4
   ·rw[if_neg hx]at h;injection h with e1 e2
    subst e1 e2;refine⟨by omega,?_⟩;rw[show acc+x-acc=x by omega,au4 (by omega)];simpa using g2
  ·rintro ⟨h1,h⟩
   by_cases hd:au≤n-acc
   ·rw[aur (by omega) hd,List.flatMap_cons,aT]at h;obtain⟨m1,k1,k2⟩:=h;refine⟨au,m1,(bn (by omega)).2 ⟨by omega,k1⟩,?_⟩;rw[if_neg (by omega),if_pos rfl,NN hs hm (by omega)];refine⟨by omega,?_⟩;rw[show n-(acc+au)=n-acc-au by omega];exact k2
   ·rw[au4 (by omega)]at h;simp only[List.flatMap_cons,List.flatMap_nil,List.append_nil]at h;refine⟨n-acc,m,(bn (by omega)).2 ⟨by omega,h⟩,?_⟩;rw[if_neg (by omega),if_neg (by omega),show acc+(n-acc)=n by omega]
theorem anw {b:List Nat}{sz left a m:Nat}{s:ao}(hs:1≤sz∧sz≤5):Cr b sz left a=.ok s m↔s.right left∧At b a m (E5 sz s):=by
 rw[Cr,aE,E5];constructor
 ·rintro ⟨k,m1,h1,h⟩
  obtain⟨g1,g2⟩:=(bn (s:=4) (by omega)).1 h1;by_cases hk:k=12∨13<k
  ·rw[if_pos hk]at h;exact absurd h (by simp)
  rw[if_neg hk]at h;obtain⟨n,m2,h2,h⟩:=aE.1 h;obtain⟨g3,g4⟩:=(NN hs rfl (by omega)).1 h2;by_cases h0:n=0
  ·rw[if_pos h0]at h;exact absurd h (by simp)
  rw[if_neg h0]at h;injection h with e1 e2
  subst e1 e2;refine⟨⟨⟨by simp only[];omega,by simp only[];omega⟩,by simp only[FL];omega⟩,aT.2 ⟨m1,g2,?_⟩⟩;simpa using g4
 ·rintro ⟨⟨⟨h1,h2⟩,h3,h4⟩,h⟩
  obtain⟨k,n⟩:=s;simp only at h1 h2 h3 h4 h;obtain⟨k,rfl⟩:=Int.eq_ofNat_of_zero_le h3;obtain⟨n,rfl⟩:=Int.eq_ofNat_of_zero_le (show 0≤n by omega);simp only[Int.toNat_natCast]at h;obtain⟨m1,k1,k2⟩:=aT.1 h;refine⟨k,m1,(bn (s:=4) (by omega)).2 ⟨by omega,k1⟩,?_⟩;rw[if_neg (by omega)];refine aE.2 ⟨n,m,(NN hs rfl (by omega)).2 ⟨by omega,by simpa using k2⟩,?_⟩;rw[if_neg (by omega)]
theorem DW {b:List Nat}{sz:Nat}(hs:1≤sz∧sz≤5):∀ {f left a m:Nat}{l:List ao},left≤f→a≤b.length→(gj b sz f left a=.ok l m↔fitsS left l∧At b a m (kz sz l))
 | 0,left,a,m,l,hf,ha=>by
  have:left=0:=by omega
  subst this;rw[gj];constructor
  ·intro h;injection h with e1 e2
   subst e1 e2;exact⟨rfl,fb.2 ⟨rfl,ha⟩⟩
  ·rintro ⟨h1,h2⟩
   cases l with
   | nil=>rw[(fb.1 h2).1]
   | cons s l=>have:=h1.1.1;omega
 | f+1,left,a,m,l,hf,ha=>by
  rw[gj];by_cases h0:left=0
  ·subst h0;rw[if_pos rfl];constructor
   ·intro h;injection h with e1 e2
    subst e1 e2;exact⟨rfl,fb.2 ⟨rfl,ha⟩⟩
   ·rintro ⟨h1,h2⟩
    cases l with
    | nil=>rw[(fb.1 h2).1]
    | cons s l=>have:=h1.1.1;omega
  ·rw[if_neg h0,aE];constructor
   ·rintro ⟨s,m1,h1,h⟩
    obtain⟨g1,g2⟩:=(anw hs).1 h1;obtain⟨l2,m2,h2,h⟩:=aE.1 h;injection h with e1 e2
    subst e1 e2;have hr:=g1.1;obtain⟨g3,g4⟩:=(DW hs (by omega) (dh g2).2.1).1 h2;refine⟨⟨g1,?_⟩,aT.2 ⟨m1,g2,g4⟩⟩
    rwa [show ((left-s.len.toNat:Nat):Int)=left-s.len by omega]at g3
   ·rintro ⟨h1,h2⟩
    cases l with
    | nil=>exact absurd h1 (by show ¬ ((left:Int)=0);omega)
    | cons s l =>
     obtain⟨k1,k2⟩:=h1;obtain⟨m1,j1,j2⟩:=aT.1 (show At b a m (E5 sz s++kz sz l) from h2);have hr:=k1.1;refine⟨s,m1,(anw hs).2 ⟨k1,j1⟩,aE.2 ⟨l,m,(DW hs (by omega) (dh j1).2.1).2 ⟨?_,j2⟩,rfl⟩⟩
     rwa [show ((left-s.len.toNat:Nat):Int)=left-s.len by omega]
theorem SP {b:List Nat}{sz au:Nat}(hs:1≤sz∧sz≤5):∀ {k a m:Nat}{g:List (List ao)},a≤b.length→(mj b sz au k a=.ok g m↔(g.length=k∧∀ l∈g,fitsS au l)∧At b a m (g.flatMap (kz sz)))
 | 0,a,m,g,ha=>by
  rw[mj];constructor
  ·intro h;injection h with e1 e2
   subst e1 e2;exact⟨⟨rfl,by simp⟩,fb.2 ⟨rfl,ha⟩⟩
  ·rintro ⟨⟨h1,_⟩,h2⟩
   have:=List.eq_nil_of_length_eq_zero h1;subst this;rw[(fb.1 h2).1]
 | k+1,a,m,g,ha=>by
  rw[mj,aE];constructor
  ·rintro ⟨l,m1,h1,h⟩
   obtain⟨g1,g2⟩:=(DW hs (Nat.le_refl _) ha).1 h1;obtain⟨r,m2,h2,h⟩:=aE.1 h;injection h with e1 e2
   subst e1 e2;obtain⟨⟨g3,g4⟩,g5⟩:=(SP hs (dh g2).2.1).1 h2;refine⟨⟨by rw[List.length_cons,g3],fun q hq=>?_⟩,aT.2 ⟨m1,g2,g5⟩⟩;rcases List.mem_cons.1 hq with rfl | hq
   ·exact g1
   ·exact g4 q hq
  ·rintro ⟨⟨h1,h2⟩,h3⟩
   cases g with
   | nil=>simp at h1
   | cons l r =>
    obtain⟨m1,j1,j2⟩:=aT.1 (show At b a m (kz sz l++r.flatMap (kz sz)) from h3);exact⟨l,m1,(DW hs (Nat.le_refl _) ha).2 ⟨h2 l (.head _),j1⟩,aE.2 ⟨r,m,(SP hs (dh j1).2.1).2 ⟨⟨by simpa using h1,fun q hq=>h2 q (.tail _ hq)⟩,j2⟩,rfl⟩⟩
theorem aoQ {b:List Nat}{i:am}{a m:Nat}{g:List (List ao)}(hm:i.may 11) (ha:a≤b.length):nb b i (a:Int)=.ok g m↔gX i g∧At b a m (Ns i g):=by
 have hmx:=jx hm;obtain⟨M,hM⟩:=Int.eq_ofNat_of_zero_le hmx.1;have hs:1≤i.fsz∧i.fsz≤5:=by unfold am.fsz;split<;>omega
 rw[nb,if_pos (by omega),Int.toNat_natCast,SP hs ha,Int.toNat_of_nonneg hmx.1];exact Iff.rfl
theorem XE:∀ id∈ids,(aW id).length=ay id∧(List.range (ay id)).all (fun e=>Nat.beq (nth (aW id) (nth (bF id) e)) e && Nat.beq (nth (bF id) (nth (aW id) e)) e)=true:=by decide +kernel
theorem ae2 {id e:Nat}(h:fl id) (he:e<ay id):nth (aW id) (nth (bF id) e)=e∧nth (bF id) (nth (aW id) e)=e:=by
 have h1:=List.all_eq_true.1 (XE id (de h)).2 e (List.mem_range.2 he);rw[Bool.and_eq_true,Nat.beq_eq,Nat.beq_eq]at h1;exact h1
theorem DP {b:List Nat}:∀ {f m a k n:Nat},ir b f m (a:Int)=.ok k n↔(m≤k∧k<m+f)∧At b a n (List.replicate (k-m) 0++[1])
 | 0,m,a,k,n=>by
  rw[ir];exact⟨fun h=>absurd h (by simp),fun h=>by omega⟩
 | f+1,m,a,k,n=>by
  rw[ir,aE];constructor
  ·rintro ⟨v,m1,h1,h⟩
   obtain⟨g1,g2⟩:=(bn (s:=1) (by omega)).1 h1;have e:aj v 1=[v]:=by simp[aj];omega
   rw[e]at g2;by_cases hv:v=1
   ·rw[if_pos hv]at h;injection h with e1 e2
    subst e1 e2 hv;exact⟨by omega,by simpa using g2⟩
   ·have:v=0:=by omega
    subst this;rw[if_neg hv,DP]at h;obtain⟨h2,h3⟩:=h;refine⟨by omega,?_⟩;rw[show k-m=(k-(m+1))+1 by omega,List.replicate_succ,List.cons_append];exact aT (X:=[0]) |>.2 ⟨m1,g2,h3⟩
  ·rintro ⟨h1,h⟩
   by_cases hk:k=m
   ·subst hk;rw[Nat.sub_self]at h;refine⟨1,n,(bn (s:=1) (by omega)).2 ⟨by omega,?_⟩,by rw[if_pos rfl]⟩;simpa [aj] using h
   ·rw[show k-m=(k-(m+1))+1 by omega,List.replicate_succ,List.cons_append]at h;obtain⟨m1,k1,k2⟩:=aT (X:=[0]) |>.1 h;refine⟨0,m1,(bn (s:=1) (by omega)).2 ⟨by omega,by simpa [aj] using k1⟩,?_⟩;rw[if_neg (by omega),DP];exact⟨by omega,k2⟩
theorem aeK {r:List Nat}:∀ {k:Nat},val (List.replicate k 0++r) 0=val r 0
 | 0=>rfl
 | k+1=>by rw[List.replicate_succ,List.cons_append,val];exact aeK
theorem ae0 {k hi:Nat}(h:hi<2 ^ k):aj (2 ^ k+hi) (2*k+1)=List.replicate k 0++[1]++aj hi k:=by
 have hb:bin (List.replicate k 0++(1::aj hi k)):=by
  intro x hx;rcases List.mem_append.1 hx with h | h
  ·have:=List.eq_of_mem_replicate h;omega
  ·rcases List.mem_cons.1 h with h | h
   ·omega
   ·exact VS x h
 have h1:=aeo (n:=0) hb;rw[aeK,val,aak,Nat.mod_eq_of_lt h,List.length_append,List.length_replicate,List.length_cons,d8]at h1;rw[List.append_assoc,List.singleton_append,←h1]
 congr 1
 all_goals omega
theorem anp {n k:Nat}(h1:2 ^ k≤n) (h2:n<2 ^ (k+1)):be n=k+1:=by
 have hp:=Nat.two_pow_pos k;have a:=AY (n:=n);have b:=nu (n:=n) (by omega);rcases Nat.lt_trichotomy (be n) (k+1) with h | h | h
 ·have:=Nat.pow_le_pow_right (n:=2) (by omega) (show be n≤k by omega);omega
 ·exact h
 ·have:=Nat.pow_le_pow_right (n:=2) (by omega) (show k+1≤be n-1 by omega);omega
theorem wO {id:Nat}(hid:fl id) {b:List Nat}{a e n:Nat}:qF id b (a:Int)=.ok e n↔e<ay id∧At b a n (fQ id e):=by
 obtain⟨r1,r2,r3⟩:=IC id (de hid);have hl:=(XE id (de hid)).1;have hm:ay id≤300:=by have:=ie id (de hid);omega
 have hP:1≤2 ^ aG id:=Nat.two_pow_pos _;rw[qF,aE];unfold fQ;constructor
 ·rintro ⟨k,n1,h1,h⟩
  obtain⟨⟨_,k9⟩,g1⟩:=DP.1 h1;obtain⟨hi,n2,h2,h⟩:=aE.1 h;obtain⟨g2,g3⟩:=(bn (by omega)).1 h2;obtain⟨lo,n3,h3,h⟩:=aE.1 h;obtain⟨g4,g5⟩:=(bn (by omega)).1 h3;by_cases hx:(aW id).length≤(2 ^ k+hi-1)*2 ^ aG id+lo
  ·rw[if_pos hx]at h;exact absurd h (by simp)
  rw[if_neg hx]at h;injection h with e1 e2
  subst e1 e2;have hk:=Nat.two_pow_pos k;have he:=ae2 hid (e:=(2 ^ k+hi-1)*2 ^ aG id+lo) (by omega);have hlt:nth (aW id) ((2 ^ k+hi-1)*2 ^ aG id+lo)<ay id:=(DH (by have:=hid.2;omega)).2.2.2 _ (gn (by omega));refine⟨hlt,?_⟩;rw[he.2];have d1:((2 ^ k+hi-1)*2 ^ aG id+lo) / 2 ^ aG id=2 ^ k+hi-1:=by
   rw[Nat.add_comm,Nat.add_mul_div_right _ _ hP,Nat.div_eq_of_lt g4,Nat.zero_add]
  have d2:((2 ^ k+hi-1)*2 ^ aG id+lo) % 2 ^ aG id=lo:=by
   rw[Nat.add_comm,Nat.add_mul_mod_self_right,Nat.mod_eq_of_lt g4]
  rw[d1,d2,show 2 ^ k+hi-1+1=2 ^ k+hi by omega,anp (k:=k) (by omega) (by rw[Nat.pow_succ];omega),show 2*(k+1)-1=2*k+1 by omega,ae0 g2];exact aT.2 ⟨n2,aT.2 ⟨n1,g1,g3⟩,g5⟩
 ·rintro ⟨he,h⟩
  have hr:=adc hid he;have hf:=(ae2 hid he).1;generalize nth (bF id) e=r at *;have hq:1≤r / 2 ^ aG id+1:=Nat.le_add_left _ _;have hdv:r / 2 ^ aG id≤r:=Nat.div_le_self _ _;have hdm:=Nat.div_add_mod r (2 ^ aG id);have hmod:r % 2 ^ aG id<2 ^ aG id:=Nat.mod_lt _ hP;generalize r / 2 ^ aG id=q at *;generalize r % 2 ^ aG id=lo at *;have l1:=AY (n:=q+1);have l2:=nu (n:=q+1) (by omega);have l0:1≤be (q+1):=by
   rcases Nat.eq_zero_or_pos (be (q+1)) with h0 | h0
   ·rw[h0]at l1;omega
   ·exact h0
  obtain⟨k,hk⟩:∃ k,be (q+1)=k+1:=⟨be (q+1)-1,by omega⟩
  rw[hk]at l1 l2 h;rw[Nat.add_sub_cancel]at l2;rw[Nat.pow_succ]at l1;have k9:k<10:=by
   rcases Nat.lt_or_ge k 10 with h | h
   ·exact h
   ·have:=Nat.pow_le_pow_right (n:=2) (by omega) h;omega
  obtain⟨hi,hhi⟩:∃ hi,q+1=2 ^ k+hi:=⟨q+1-2 ^ k,by omega⟩
  have hh:hi<2 ^ k:=by omega
  rw[show 2*(k+1)-1=2*k+1 by omega,hhi,ae0 hh]at h;obtain⟨n2,j1,j2⟩:=aT.1 h;obtain⟨n1,j3,j4⟩:=aT.1 j1;have ei:(2 ^ k+hi-1)*2 ^ aG id+lo=r:=by rw[←hhi,Nat.add_sub_cancel,Nat.mul_comm];omega
  refine⟨k,n1,DP.2 ⟨by omega,by simpa using j3⟩,aE.2 ⟨hi,n2,(bn (by omega)).2 ⟨hh,j4⟩,aE.2 ⟨lo,n,(bn (by omega)).2 ⟨hmod,j2⟩,?_⟩⟩⟩;rw[ei,if_neg (by omega),hf]
theorem MA {low:Int}{w:Nat}{v:Int}:∀ {l:List Int}{n:Nat},hU low w (l++[v]) n=hU low w l n*w+(v-low).toNat
 | [],n=>rfl
 | x::r,n=>by rw[List.cons_append,hU,hU,MA]
theorem aeS {low:Int}{w:Nat}(hw:1≤w):∀ {d e:Nat},e<w ^ d→hU low w (ik low w d e) 0=e
 | 0,e,h=>by rw[Nat.pow_zero]at h;rw[ik,hU];omega
 | d+1,e,h=>by
  rw[ik,MA,aeS hw (by rw[Nat.pow_succ]at h;exact Nat.div_lt_of_lt_mul (by rwa [Nat.mul_comm])),show ((e % w:Nat):Int)+low-low=((e % w:Nat):Int) by omega,Int.toNat_natCast,Nat.mul_comm];exact Nat.div_add_mod e w
theorem akZ {low:Int}{w:Nat}(hw:1≤w):∀ (r:List Int),(∀ v∈r,low≤v∧v<low+w)→ik low w r.reverse.length (hU low w r.reverse 0)=r.reverse
 | [],_=>rfl
 | v::r,h=>by
  have ih:=akZ hw r fun x hx=>h x (.tail _ hx)
  have hv:=h v (.head _);rw[List.reverse_cons,List.length_append,List.length_singleton,MA,ik];have hx:(v-low).toNat<w:=by omega
  rw[Nat.add_comm (_*w),Nat.add_mul_div_right _ _ hw,Nat.div_eq_of_lt hx,Nat.zero_add,ih,Nat.add_mul_mod_self_right,Nat.mod_eq_of_lt hx]
  congr 2
  omega
theorem apM {low:Int}{w:Nat}(hw:1≤w) {l:List Int}(h:∀ v∈l,low≤v∧v<low+w):ik low w l.length (hU low w l 0)=l:=by
 have:=akZ hw l.reverse fun v hv=>h v (List.mem_reverse.1 hv)
 rwa [List.reverse_reverse]at this
def sgB:List Int→List Nat→List Nat
 | v::r,s::ss=>(if v=0 then [] else [s])++sgB r ss
 | _,_=>[]
def V4:List Int→List Nat→Prop
 | v::r,s::ss=>(s≤1∧(v=0→s=0))∧V4 r ss
 | [],[]=>True
 | _,_=>False
theorem UV {s:Nat}(h:s≤1):aj s 1=[s]:=by simp[aj];omega
theorem sK {b:List Nat}:∀ {vs:List Int}{ss:List Nat}{a n:Nat},a≤b.length→(ge b vs a=.ok ss n↔V4 vs ss∧At b a n (sgB vs ss))
 | [],ss,a,n,ha=>by
  rw[ge];constructor
  ·intro h;injection h with e1 e2
   subst e1 e2;exact⟨trivial,fb.2 ⟨rfl,ha⟩⟩
  ·rintro ⟨h1,h2⟩
   cases ss with
   | nil=>rw[(fb.1 h2).1]
   | cons s ss=>exact absurd h1 (by simp[V4])
 | v::r,ss,a,n,ha=>by
  rw[ge];by_cases hv:v=0
  ·rw[if_pos hv,aE];constructor
   ·rintro ⟨l,m,h1,h⟩
    injection h with e1 e2
    subst e1 e2;obtain⟨g1,g2⟩:=(sK ha).1 h1;exact⟨⟨⟨by omega,fun _=>rfl⟩,g1⟩,by rw[sgB,if_pos hv];exact g2⟩
   ·rintro ⟨h1,h2⟩
    cases ss with
    | nil=>exact absurd h1 (by simp[V4])
    | cons s ss =>
     have:=h1.1.2 hv;subst this;rw[sgB,if_pos hv]at h2;exact⟨ss,n,(sK ha).2 ⟨h1.2,h2⟩,rfl⟩
  ·rw[if_neg hv,aE];constructor
   ·rintro ⟨s,m,h1,h⟩
    obtain⟨g1,g2⟩:=(bn (s:=1) (by omega)).1 h1;rw[UV (by omega)]at g2;obtain⟨l,m2,h2,h⟩:=aE.1 h;injection h with e1 e2
    subst e1 e2;obtain⟨g3,g4⟩:=(sK (dh g2).2.1).1 h2;exact⟨⟨⟨by omega,fun h=>absurd h hv⟩,g3⟩,by rw[sgB,if_neg hv];exact aT.2 ⟨m,g2,g4⟩⟩
   ·rintro ⟨h1,h2⟩
    cases ss with
    | nil=>exact absurd h1 (by simp[V4])
    | cons s ss =>
     rw[sgB,if_neg hv]at h2;obtain⟨m,k1,k2⟩:=aT.1 h2;have hs:=h1.1.1;exact⟨s,m,(bn (s:=1) (by omega)).2 ⟨by omega,by rw[UV hs];exact k1⟩,aE.2 ⟨ss,n,(sK (dh k1).2.1).2 ⟨h1.2,k2⟩,rfl⟩⟩
theorem Iv {b:List Nat}:∀ {f m a k n:Nat},pR b f m a=.ok k n↔(m≤k∧k<m+f)∧At b a n (List.replicate (k-m) 1++[0])
 | 0,m,a,k,n=>by
  rw[pR];exact⟨fun h=>absurd h (by simp),fun h=>by omega⟩
 | f+1,m,a,k,n=>by
  rw[pR,aE];constructor
  ·rintro ⟨v,m1,h1,h⟩
   obtain⟨g1,g2⟩:=(bn (s:=1) (by omega)).1 h1;rw[UV (by omega)]at g2;by_cases hv:v=1
   ·subst hv;rw[if_pos rfl,Iv]at h;obtain⟨h2,h3⟩:=h;refine⟨by omega,?_⟩;rw[show k-m=(k-(m+1))+1 by omega,List.replicate_succ,List.cons_append];exact aT (X:=[1]) |>.2 ⟨m1,g2,h3⟩
   ·have:v=0:=by omega
    subst this;rw[if_neg hv]at h;injection h with e1 e2
    subst e1 e2;exact⟨by omega,by simpa using g2⟩
  ·rintro ⟨h1,h⟩
   by_cases hk:k=m
   ·subst hk;rw[Nat.sub_self]at h;refine⟨0,n,(bn (s:=1) (by omega)).2 ⟨by omega,?_⟩,by rw[if_neg (by omega)]⟩;simpa [aj] using h
   ·rw[show k-m=(k-(m+1))+1 by omega,List.replicate_succ,List.cons_append]at h;obtain⟨m1,k1,k2⟩:=aT (X:=[1]) |>.1 h;refine⟨1,m1,(bn (s:=1) (by omega)).2 ⟨by omega,by simpa [aj] using k1⟩,?_⟩;rw[if_pos rfl,Iv];exact⟨by omega,k2⟩
abbrev asR (x:Nat):List Nat:=List.replicate (be x-5) 1++(0::aj (x % 2 ^ (be x-1)) (be x-1))
theorem am0 {b:List Nat}{a x n:Nat}:Ij b a=.ok x n↔(16≤x∧x≤8191)∧At b a n (asR x):=by
 rw[Ij,aE];constructor
 ·rintro ⟨m,n1,h1,h⟩
  obtain⟨⟨_,m9⟩,g1⟩:=Iv.1 h1;obtain⟨y,n2,h2,h⟩:=aE.1 h;obtain⟨g2,g3⟩:=(bn (by omega)).1 h2;injection h with e1 e2
  subst e1 e2;have p1:=Nat.pow_le_pow_right (n:=2) (by omega) (show 4≤m+4 by omega);have p2:=Nat.pow_le_pow_right (n:=2) (by omega) (show m+4≤12 by omega);have hl:=anp (n:=2 ^ (m+4)+y) (k:=m+4) (by omega) (by have:2 ^ (m+4+1)=2 ^ (m+4)*2:=Nat.pow_succ _ _;omega);refine⟨by omega,?_⟩;unfold asR;rw[hl,show m+4+1-5=m by omega,Nat.add_sub_cancel,Nat.add_mod_left,Nat.mod_eq_of_lt g2];have:List.replicate m 1++(0::aj y (m+4))=(List.replicate m 1++[0])++aj y (m+4):=by simp
  rw[this];exact aT.2 ⟨n1,by simpa using g1,g3⟩
 ·rintro ⟨⟨h1,h2⟩,h⟩
  have l1:=AY (n:=x);have l2:=nu (n:=x) (by omega);have k5:5≤be x:=by
   rcases Nat.lt_or_ge (be x) 5 with h | h
   ·have:=Nat.pow_le_pow_right (n:=2) (by omega) (show be x≤4 by omega);omega
   ·exact h
  have k13:be x≤13:=by
   rcases Nat.lt_or_ge 13 (be x) with h | h
   ·have:=Nat.pow_le_pow_right (n:=2) (by omega) (show 13≤be x-1 by omega);omega
   ·exact h
  obtain⟨m,hm⟩:∃ m,be x=m+5:=⟨be x-5,by omega⟩
  unfold asR at h;rw[hm]at h l1 l2;rw[show m+5-1=m+4 by omega]at h l2;have l3:2 ^ (m+5)=2 ^ (m+4)*2:=Nat.pow_succ _ _;rw[Nat.add_sub_cancel]at h;have:List.replicate m 1++(0::aj (x % 2 ^ (m+4)) (m+4))=(List.replicate m 1++[0])++aj (x % 2 ^ (m+4)) (m+4):=by simp
  rw[this]at h;obtain⟨n1,j1,j2⟩:=aT.1 h;have hx:x % 2 ^ (m+4)=x-2 ^ (m+4):=by rw[Nat.mod_eq_sub_mod l2,Nat.mod_eq_of_lt (by omega)]
  refine⟨m,n1,Iv.2 ⟨by omega,by simpa using j1⟩,aE.2 ⟨x % 2 ^ (m+4),n,(bn (by omega)).2 ⟨by omega,j2⟩,?_⟩⟩;rw[hx]
  congr 1
  omega
def sgn (v:Int):Nat:=if v<0 then 1 else 0
theorem xg {b:List Nat}{id:Nat}{M:Nat}(hM:id=11→M=8191):∀ {vs:List Int}{ss:List Nat}{l:List Int}{a n:Nat},a≤b.length→V4 vs ss→(∀ v∈vs,0≤v∧(id=11→v≤16)∧(id≠11→v≤M))→
  (iP b id vs ss a=.ok l n↔(vs=l.map (fZ id)∧ss=l.map sgn∧∀ v∈l,v.natAbs≤M)∧At b a n (l.flatMap (oF id)))
 | [],[],l,a,n,ha,hs,hv=>by
  have e0:iP b id [] [] a=.ok [] a:=by simp[iP]
  rw[e0];constructor
  ·intro h;injection h with e1 e2
   subst e1 e2;exact⟨⟨rfl,rfl,by simp⟩,fb.2 ⟨rfl,ha⟩⟩
  ·rintro ⟨⟨h1,h2,_⟩,h3⟩
   cases l with
   | nil=>rw[(fb.1 h3).1]
   | cons x r=>exact absurd h1 (by simp)
 | [],s::ss,l,a,n,ha,hs,hv=>absurd hs (by simp[V4])
 | v::r,[],l,a,n,ha,hs,hv=>absurd hs (by simp[V4])
 | v::r,s::ss,l,a,n,ha,hs,hv=>by
  obtain⟨⟨s1,s2⟩,hs⟩:=hs;obtain⟨v0,v11,vM⟩:=hv v (.head _);have hv:=fun x hx=>hv x (.tail _ hx)
  have sg1:∀ x:Int,0≤x→(x=0→s=0)→sgn (sg s x)=s∧(sg s x).natAbs=x.toNat:=fun x h0 h1=>by
   unfold sgn sg;by_cases h:s=1
   ·rw[if_pos h,if_pos (by omega)];omega
   ·rw[if_neg h,if_neg (by omega)];omega
  have sg2:∀ (y:Int),s=sgn y→sg s (y.natAbs:Int)=y:=fun y h=>by
   unfold sgn at h;unfold sg;by_cases h2:y<0
   ·rw[if_pos h2]at h;rw[if_pos h];omega
   ·rw[if_neg h2]at h;rw[if_neg (by omega)];omega
  rw[iP];by_cases hg:id=11∧v=16
  ·rw[if_pos hg,aE];obtain⟨h11,hv16⟩:=hg;constructor
   ·rintro ⟨x,m,h1,h⟩
    obtain⟨g1,g2⟩:=am0.1 h1;obtain⟨l2,m2,h2,h⟩:=aE.1 h;injection h with e1 e2
    subst e1 e2;obtain⟨⟨g3,g4,g5⟩,g6⟩:=(xg hM (dh g2).2.1 hs hv).1 h2;obtain⟨q1,q2⟩:=sg1 x (by omega) (by omega);have q3:(sg s (x:Int)).natAbs=x:=by omega
    refine⟨⟨?_,?_,?_⟩,?_⟩
    ·rw[List.map_cons,←g3,fZ,if_pos (by omega),hv16]
    ·rw[List.map_cons,←g4,q1]
    ·intro y hy;rcases List.mem_cons.1 hy with rfl | hy
     ·rw[q3,hM h11];omega
     ·exact g5 y hy
    ·rw[List.flatMap_cons,oF,if_pos (by omega),q3];exact aT.2 ⟨m,g2,g6⟩
   ·rintro ⟨⟨h1,h2,h3⟩,h4⟩
    cases l with
    | nil=>exact absurd h1 (by simp)
    | cons y l =>
     rw[List.map_cons]at h1 h2;injection h1 with h1 h1t
     injection h2 with h2 h2t
     have hy:=h3 y (.head _);rw[hM h11]at hy;have h16:16≤y.natAbs:=by
      rw[fZ]at h1;by_cases h:id=11∧16≤y.natAbs
      ·exact h.2
      ·rw[if_neg h]at h1;omega
     rw[List.flatMap_cons,oF,if_pos ⟨h11,h16⟩]at h4;obtain⟨m,k1,k2⟩:=aT.1 h4;refine⟨y.natAbs,m,am0.2 ⟨by omega,k1⟩,aE.2 ⟨l,n,(xg hM (dh k1).2.1 hs hv).2 ⟨⟨h1t,h2t,fun z hz=>h3 z (.tail _ hz)⟩,k2⟩,?_⟩⟩;rw[sg2 y h2]
  ·rw[if_neg hg,aE];constructor
   ·rintro ⟨l2,m,h1,h⟩
    injection h with e1 e2
    subst e1 e2;obtain⟨⟨g3,g4,g5⟩,g6⟩:=(xg hM ha hs hv).1 h1;obtain⟨q1,q2⟩:=sg1 v v0 s2;have hng:¬ (id=11∧16≤(sg s v).natAbs):=by omega
    refine⟨⟨?_,?_,?_⟩,?_⟩
    ·rw[List.map_cons,←g3,fZ,if_neg hng];congr 1;omega
    ·rw[List.map_cons,←g4,q1]
    ·intro y hy;rcases List.mem_cons.1 hy with rfl | hy
     ·by_cases h11:id=11
      ·have:=hM h11;have:=v11 h11;omega
      ·have:=vM h11;omega
     ·exact g5 y hy
    ·rw[List.flatMap_cons,oF,if_neg hng,List.nil_append];exact g6
   ·rintro ⟨⟨h1,h2,h3⟩,h4⟩
    cases l with
    | nil=>exact absurd h1 (by simp)
    | cons y l =>
     rw[List.map_cons]at h1 h2;injection h1 with h1 h1t
     injection h2 with h2 h2t
     have hng:¬ (id=11∧16≤y.natAbs):=fun h=>by
      rw[fZ,if_pos h]at h1;exact hg ⟨h.1,h1⟩
     rw[fZ,if_neg hng]at h1;rw[List.flatMap_cons,oF,if_neg hng,List.nil_append]at h4;refine⟨l,n,(xg hM ha hs hv).2 ⟨⟨h1t,h2t,fun z hz=>h3 z (.tail _ hz)⟩,h4⟩,?_⟩;rw[h1,sg2 y h2]
theorem ajV {id:Nat}{v:Int}:fZ id v=0↔v=0:=by
 unfold fZ;by_cases h:id=11∧16≤v.natAbs
 ·rw[if_pos h];omega
 ·rw[if_neg h];omega
theorem aby {id:Nat}:∀ {l:List Int},sgB (l.map (fZ id)) (l.map sgn)=l.flatMap kx
 | []=>rfl
 | v::r=>by
  rw[List.map_cons,List.map_cons,sgB,aby,List.flatMap_cons]
  congr 1
  unfold kx sgn;by_cases h:v=0
  ·rw[if_pos (ajV.2 h),if_pos h]
  ·rw[if_neg (fun h2=>h (ajV.1 h2)),if_neg h];split<;>rfl
theorem acp {id:Nat}:∀ {l:List Int},V4 (l.map (fZ id)) (l.map sgn)
 | []=>trivial
 | v::r=>⟨⟨by unfold sgn;split<;>omega,fun h=>by rw[ajV]at h;subst h;rfl⟩,acp⟩
theorem avu:dP 11=8191:=by decide +kernel
theorem auh {id:Nat}(hid:1≤id∧id≤11) {b:List Nat}{a n:Nat}{l:List Int}:xB id b (a:Int)=.ok l n↔Kk id l∧At b a n (xy id l):=by
 have hok:fl id:=⟨hid.1,by omega⟩
 obtain⟨m1,m2,m3,m4⟩:=uA id (NA hid);obtain⟨k1,k2,k3,k4,k5,k6,k7⟩:=ie id (de hok);have hmany:ay id=ba id ^ bU id:=rfl;have lt:∀ {vs:List Int},Km id vs→hU (bu id) (ba id) vs 0<ay id:=fun {vs} h=>by
  have:=AU (n:=0) (j:=0) h.2 (by simp);rw[Nat.zero_add,h.1,←hmany]at this;exact this
 have back:∀ {vs:List Int},Km id vs→iM id (hU (bu id) (ba id) vs 0)=vs:=fun {vs} h=>by
  have:=apM k3 h.2;rw[h.1]at this;exact this
 have forth:∀ {e:Nat},e<ay id→hU (bu id) (ba id) (iM id e) 0=e∧∀ v∈iM id e,bu id≤v∧v<bu id+ba id:=fun {e} h=>⟨aeS k3 (by rwa [←hmany]),CP k3⟩
 rw[xB,aE];unfold xy;by_cases hs:gp id=true
 ·simp only[if_pos hs];obtain⟨q1,q2⟩:=m1 hs;constructor
  ·rintro ⟨e,m,h1,h⟩
   obtain⟨g1,g2⟩:=(wO hok).1 h1;injection h with e1 e2
   subst e1 e2;obtain⟨f1,f2⟩:=forth g1;refine⟨⟨by rw[yq,m3],fun v hv=>by have:=f2 v hv;omega⟩,?_⟩;rw[f1];exact g2
  ·rintro ⟨h1,h2⟩
   have hi:=(Hz hid h1).1 hs;exact⟨_,n,(wO hok).2 ⟨lt hi,h2⟩,by rw[back hi]⟩
 ·have hs2:gp id=false:=by simpa using hs
  simp only[if_neg hs];obtain⟨q1,q2,q3⟩:=m2 hs2;have h11:id=11→dP id=8191:=fun h=>by rw[h];exact avu
  constructor
  ·rintro ⟨e,m,h1,h⟩
   obtain⟨g1,g2⟩:=(wO hok).1 h1;obtain⟨ss,m2,h2,h⟩:=aE.1 h;obtain⟨g3,g4⟩:=(sK (dh g2).2.1).1 h2;obtain⟨f1,f2⟩:=forth g1;have hv:∀ v∈iM id e,0≤v∧(id=11→v≤16)∧(id≠11→v≤dP id):=fun v hv=>by
    have:=f2 v hv;refine⟨by omega,fun h=>by have:=q3 h;omega,fun h=>by have:=q2 h;omega⟩
   obtain⟨⟨g5,g6,g7⟩,g8⟩:=(xg h11 (dh g4).2.1 g3 hv).1 h;have hl:l.length=aM id:=by
    have:=congrArg List.length g5;rw[yq,List.length_map]at this;omega
   refine⟨⟨hl,g7⟩,aT.2 ⟨m,?_,aT.2 ⟨m2,?_,g8⟩⟩⟩
   ·rw[←g5,f1];exact g2
   ·rw[←aby (id:=id),←g5,←g6];exact g4
  ·rintro ⟨h1,h2⟩
   have hi:=(Hz hid h1).2 hs2;obtain⟨m,j1,j2⟩:=aT.1 h2;obtain⟨p,j3,j4⟩:=aT.1 j2;have hv:∀ v∈l.map (fZ id),0≤v∧(id=11→v≤16)∧(id≠11→v≤dP id):=fun v hv=>by
    have:=hi.2 v hv;refine⟨by omega,fun h=>by have:=q3 h;omega,fun h=>by have:=q2 h;omega⟩
   refine⟨_,m,(wO hok).2 ⟨lt hi,j1⟩,?_⟩;rw[back hi];refine aE.2 ⟨l.map sgn,p,(sK (dh j1).2.1).2 ⟨acp,by rw[aby];exact j3⟩,?_⟩;exact(xg h11 (dh j3).2.1 acp hv).2 ⟨⟨rfl,rfl,h1.2⟩,j4⟩
theorem awX:ay 12=121:=by decide +kernel
theorem anI {b:List Nat}{a n:Nat}{d:Int}:Cq b (a:Int)=.ok d n↔(-60≤d∧d≤60)∧At b a n (fQ 12 (d+60).toNat):=by
 have hok:fl 12:=by omega
 have h12:=awX;rw[Cq,aE];constructor
 ·rintro ⟨e,m,h1,h⟩
  obtain⟨g1,g2⟩:=(wO hok).1 h1;injection h with e1 e2
  subst e1 e2;refine⟨by omega,?_⟩;rw[show ((e:Int)-60+60).toNat=e by omega];exact g2
 ·rintro ⟨h1,h2⟩
  refine⟨(d+60).toNat,n,(wO hok).2 ⟨by omega,h2⟩,?_⟩
  congr 1
  omega
theorem NZ {b:List Nat}{a n:Nat}{k w v:Int}(hw:w<0→k=13):gy b (a:Int) k w=.ok v n↔((0≤v∧v≤lG k)∧(w<0∨(w-60≤v∧v≤w+60)))∧At b a n (if w<0 then aj v.toNat 9 else fQ 12 (v-w+60).toNat):=by
 rw[gy];by_cases h0:w<0
 ·have hk:=hw h0;have hm:lG k=511:=if_pos hk;rw[if_pos h0,if_pos h0,aE,hm];constructor
  ·rintro ⟨x,m,h1,h⟩
   obtain⟨g1,g2⟩:=(bn (s:=9) (by omega)).1 h1;injection h with e1 e2
   subst e1 e2;exact⟨⟨by omega,.inl h0⟩,by simpa using g2⟩
  ·rintro ⟨⟨h1,_⟩,h2⟩
   exact⟨v.toNat,n,(bn (s:=9) (by omega)).2 ⟨by omega,h2⟩,by congr 1;omega⟩
 ·rw[if_neg h0,if_neg h0,aE];constructor
  ·rintro ⟨d,m,h1,h⟩
   obtain⟨g1,g2⟩:=anI.1 h1;by_cases hx:w+d<0∨lG k<w+d
   ·rw[if_pos hx]at h;exact absurd h (by simp)
   rw[if_neg hx]at h;injection h with e1 e2
   subst e1 e2;refine⟨⟨by omega,.inr (by omega)⟩,?_⟩;rw[show w+d-w+60=d+60 by omega];exact g2
  ·rintro ⟨⟨h1,h2⟩,h3⟩
   refine⟨v-w,n,anI.2 ⟨by omega,h3⟩,?_⟩;rw[if_neg (by omega)]
   congr 1
   omega
theorem s13 {v w z:Int}:kW 13 v w z=if z<0 then aj v.toNat 9 else fQ 12 (v-z+60).toNat:=by rw[kW,if_neg (by decide),if_pos rfl]
theorem t13 {v w z:Int}:fP 13 v w z=(w,v):=by rw[fP,if_neg (by decide),if_pos rfl]
theorem sT {b:List Nat}:∀ {r:List Int}{t:List Int}{a n:Nat}{w z w2 z2:Int},a≤b.length→(∀ k∈r,0≤k)→0≤w→
  (jV b r (a:Int) w z=.ok (t,w2,z2) n↔bK r t w z=some (w2,z2)∧At b a n (kN r t w z))
 | [],t,a,n,w,z,w2,z2,ha,hr,hw=>by
  rw[jV,Int.toNat_natCast];constructor
  ·intro h;injection h with e1 e2
   injection e1 with e1 e3
   injection e3 with e3 e4
   subst e1 e2 e3 e4;exact⟨rfl,fb.2 ⟨rfl,ha⟩⟩
  ·rintro ⟨h1,h2⟩
   cases t with
   | nil =>
    injection h1 with h1
    injection h1 with e1 e2
    subst e1 e2;rw[(fb.1 h2).1]
   | cons x t=>exact absurd h1 (by simp[bK])
 | k::r,t,a,n,w,z,w2,z2,ha,hr,hw=>by
  have hk:=hr k (.head _);have hr2:∀ k∈r,0≤k:=fun x hx=>hr x (.tail _ hx)
  rw[jV];by_cases h13:k=13
  ·subst h13;rw[if_pos rfl,aE];have hm:lG 13=511:=rfl;constructor
   ·rintro ⟨v,m,h1,h⟩
    obtain⟨g1,g2⟩:=(NZ (fun _=>rfl)).1 h1;obtain⟨⟨t2,u2,y2⟩,m2,h2,h⟩:=aE.1 h;injection h with e1 e2
    injection e1 with e1 e3
    injection e3 with e3 e4
    simp only at e1 e3 e4;subst e1 e2 e3 e4;obtain⟨g3,g4⟩:=(sT (dh g2).2.1 hr2 hw).1 h2;refine⟨?_,?_⟩
    ·rw[bK,if_neg (by decide),if_pos (by unfold ib;rw[if_pos rfl];omega),if_pos rfl];exact g3
    ·rw[kN,s13,t13];exact aT.2 ⟨m,g2,g4⟩
   ·rintro ⟨h1,h2⟩
    cases t with
    | nil=>exact absurd h1 (by simp[bK])
    | cons v t =>
     obtain⟨c1,c2,c3⟩:=lV (by rw[h1];simp);have hT:=c2 (by decide);unfold ib at hT;rw[if_pos rfl]at hT;rw[c3,fP,if_neg (by decide),if_pos rfl]at h1;rw[kN,s13,t13]at h2;obtain⟨m,j1,j2⟩:=aT.1 h2;exact⟨v,m,(NZ (fun _=>rfl)).2 ⟨by omega,j1⟩,aE.2 ⟨(t,w2,z2),n,(sT (dh j1).2.1 hr2 hw).2 ⟨h1,j2⟩,rfl⟩⟩
  ·rw[if_neg h13];by_cases h0:0<k
   ·have hm:lG k=255:=if_neg h13;have hk0:¬ k=0:=by omega
    rw[if_pos h0,aE];constructor
    ·rintro ⟨v,m,h1,h⟩
     obtain⟨g1,g2⟩:=(NZ (fun h=>by omega)).1 h1;obtain⟨⟨t2,u2,y2⟩,m2,h2,h⟩:=aE.1 h;injection h with e1 e2
     injection e1 with e1 e3
     injection e3 with e3 e4
     simp only at e1 e3 e4;subst e1 e2 e3 e4;rw[if_neg (by omega)]at g2;obtain⟨g3,g4⟩:=(sT (dh g2).2.1 hr2 g1.1.1).1 h2;refine⟨?_,?_⟩
     ·rw[bK,if_neg hk0,if_pos (by unfold ib;rw[if_neg h13];omega),if_neg h13];exact g3
     ·rw[kN,kW,if_neg hk0,if_neg h13,fP,if_neg hk0,if_neg h13];exact aT.2 ⟨m,g2,g4⟩
    ·rintro ⟨h1,h2⟩
     cases t with
     | nil=>exact absurd h1 (by simp[bK])
     | cons v t =>
      obtain⟨c1,c2,c3⟩:=lV (by rw[h1];simp);have hT:=c2 hk0;unfold ib at hT;rw[if_neg h13]at hT;rw[c3,fP,if_neg hk0,if_neg h13]at h1;rw[kN,kW,if_neg hk0,if_neg h13,fP,if_neg hk0,if_neg h13]at h2;obtain⟨m,j1,j2⟩:=aT.1 h2;exact⟨v,m,(NZ (fun h=>by omega)).2 ⟨by omega,by rw[if_neg (by omega)];exact j1⟩,aE.2 ⟨(t,w2,z2),n,(sT (dh j1).2.1 hr2 hT.1.1).2 ⟨h1,j2⟩,rfl⟩⟩
   ·have hk0:k=0:=by omega
    subst hk0;rw[if_neg h0,aE];constructor
    ·rintro ⟨⟨t2,u2,y2⟩,m2,h2,h⟩
     injection h with e1 e2
     injection e1 with e1 e3
     injection e3 with e3 e4
     simp only at e1 e3 e4;subst e1 e2 e3 e4;obtain⟨g3,g4⟩:=(sT ha hr2 hw).1 h2;refine⟨?_,?_⟩
     ·rw[bK,if_pos rfl,if_pos rfl];exact g3
     ·rw[kN,kW,if_pos rfl,fP,if_pos rfl,List.nil_append];exact g4
    ·rintro ⟨h1,h2⟩
     cases t with
     | nil=>exact absurd h1 (by simp[bK])
     | cons v t =>
      obtain⟨c1,c2,c3⟩:=lV (by rw[h1];simp);have:=c1 rfl;subst this;rw[c3,fP,if_pos rfl]at h1;rw[kN,kW,if_pos rfl,fP,if_pos rfl,List.nil_append]at h2;exact⟨(t,w2,z2),n,(sT ha hr2 hw).2 ⟨h1,h2⟩,rfl⟩
theorem ajK:∀ {r t:List Int}{w z w2 z2:Int},0≤w→bK r t w z=some (w2,z2)→0≤w2
 | [],[],w,z,w2,z2,hw,h=>by
  injection h with h
  injection h with e1 e2
  omega
 | [],_::_,w,z,w2,z2,hw,h=>absurd h (by simp[bK])
 | _::_,[],w,z,w2,z2,hw,h=>absurd h (by simp[bK])
 | k::r,v::t,w,z,w2,z2,hw,h=>by
  obtain⟨c1,c2,c3⟩:=lV (by rw[h];simp);rw[c3]at h;refine ajK ?_ h;unfold fP;by_cases h0:k=0
  ·rw[if_pos h0];exact hw
  ·rw[if_neg h0];have:=c2 h0;unfold ib at this;split
   ·exact hw
   ·rename_i h13;rw[if_neg h13]at this;exact this.1.1
theorem Na {b:List Nat}:∀ {g:List (List ao)}{t:List (List Int)}{a n:Nat}{w z:Int},a≤b.length→(∀ l∈g,∀ k∈al l,0≤k)→0≤w→
  (ji b g (a:Int) w z=.ok t n↔jZ g t w z≠none∧At b a n (kE g t w z))
 | [],t,a,n,w,z,ha,hr,hw=>by
  rw[ji,Int.toNat_natCast];constructor
  ·intro h;injection h with e1 e2
   subst e1 e2;exact⟨by simp[jZ],fb.2 ⟨rfl,ha⟩⟩
  ·rintro ⟨h1,h2⟩
   cases t with
   | nil=>rw[(fb.1 h2).1]
   | cons x t=>exact absurd rfl h1
 | l::r,t,a,n,w,z,ha,hr,hw=>by
  have hl:=hr l (.head _);have hr2:∀ q∈r,∀ k∈al q,0≤k:=fun q hq=>hr q (.tail _ hq)
  rw[ji,aE];constructor
  ·rintro ⟨⟨t1,w1,z1⟩,m,h1,h⟩
   obtain⟨g1,g2⟩:=(sT ha hl hw).1 h1;obtain⟨t2,m2,h2,h⟩:=aE.1 h;injection h with e1 e2
   subst e1 e2;obtain⟨g3,g4⟩:=(Na (dh g2).2.1 hr2 (ajK hw g1)).1 h2;refine⟨?_,?_⟩
   ·rw[jZ,g1];exact g3
   ·rw[kE,g1];exact aT.2 ⟨m,g2,g4⟩
  ·rintro ⟨h1,h2⟩
   cases t with
   | nil=>exact absurd rfl h1
   | cons t1 t =>
    rw[jZ]at h1;rw[kE]at h2
    cases e:bK (al l) t1 w z with
    | none=>rw[e]at h1;exact absurd rfl h1
    | some p =>
     obtain⟨w1,z1⟩:=p;rw[e]at h1 h2;obtain⟨m,j1,j2⟩:=aT.1 h2;exact⟨(t1,w1,z1),m,(sT ha hl hw).2 ⟨e,j1⟩,aE.2 ⟨t,n,(Na (dh j1).2.1 hr2 (ajK hw e)).2 ⟨h1,j2⟩,rfl⟩⟩
theorem arQ {b:List Nat}{g:List (List ao)}{t:List (List Int)}{a n:Nat}{w:Int}(ha:a≤b.length) (hr:∀ l∈g,∀ k∈al l,0≤k) (hw:0≤w):qt b g (a:Int) w=.ok t n↔tc w g t∧At b a n (kE g t w (-1)):=by
 rw[qt,if_pos (by omega),Na ha hr hw]
theorem anr {Z l:List Int}{a i:Nat}(h:a+l.length≤Z.length):(ah Z a l)[i]?=if a≤i∧i<a+l.length then l[i-a]? else Z[i]?:=by
 have h1:(Z.take a).length=a:=by rw[List.length_take];omega
 unfold ah;by_cases h2:i<a
 ·rw[if_neg (by omega),List.append_assoc,List.getElem?_append_left (by omega),List.getElem?_take,if_pos h2]
 ·by_cases h3:i<a+l.length
  ·rw[if_pos (by omega),List.append_assoc,List.getElem?_append_right (by omega),h1,List.getElem?_append_left (by omega)]
  ·rw[if_neg (by omega),List.getElem?_append_right (by rw[List.length_append];omega),List.length_append,h1,List.getElem?_drop]
   congr 1
   omega
abbrev cut (Z:List Int) (p:Nat×Nat):List Int:=(Z.drop p.2).take (aM p.1)
theorem amC {Z:List Int}{p:Nat×Nat}{i:Nat}(h:i<aM p.1):(cut Z p)[i]?=Z[p.2+i]?:=by
 rw[cut,List.getElem?_take,if_pos h,List.getElem?_drop]
theorem awa {Z:List Int}{p:Nat×Nat}(h:p.2+aM p.1≤Z.length):(cut Z p).length=aM p.1:=by
 rw[cut,List.length_take,List.length_drop];omega
theorem Rf {b:List Nat}{Zc:List Int}(hl:Zc.length=256):∀ {pl:List (Nat×Nat)}{n m:Nat}{Z:List Int},n≤b.length→Z.length=256→(∀ p∈pl,(1≤p.1∧p.1≤11)∧p.2+aM p.1≤256∧Kk p.1 (cut Zc p))→
  (∀ i,(∃ p∈pl,p.2≤i∧i<p.2+aM p.1)∨Z[i]?=Zc[i]?)→At b n m (pl.flatMap fun p=>xy p.1 (cut Zc p))→jJ b pl n Z=.ok Zc m
 | [],n,m,Z,hn,hz,hp,hc,h=>by
  rw[jJ,(fb.1 h).1]
  congr 1
  apply List.ext_getElem?;intro i;rcases hc i with ⟨p,hp,_⟩ | h
  ·exact absurd hp (by simp)
  ·exact h
 | p::r,n,m,Z,hn,hz,hp,hc,h=>by
  obtain⟨p1,p2,p3⟩:=hp p (.head _);rw[List.flatMap_cons]at h;obtain⟨k,j1,j2⟩:=aT.1 h;have hcl:=awa (Z:=Zc) (p:=p) (by omega);rw[jJ,(auh p1).2 ⟨p3,j1⟩,ak];refine Rf hl (dh j1).2.1 (by rw[akN (by omega)];exact hz) (fun q hq=>hp q (.tail _ hq)) (fun i=>?_) j2;rcases hc i with ⟨q,hq,h1,h2⟩ | h3
  ·rcases List.mem_cons.1 hq with rfl | hq
   ·right;rw[anr (by omega),if_pos (by omega),amC (by omega)]
    congr 1
    omega
   ·exact .inl ⟨q,hq,h1,h2⟩
  ·right;rw[anr (by omega)];split
   ·rw[amC (by omega)];congr 1;omega
   ·exact h3
theorem aqi {d hi i:Nat}(hd:1≤d):∀ {f lo:Nat},lo≤i→i<hi→hi≤lo+f→∃ x∈pY d hi f lo,x≤i∧i<x+d
 | 0,lo,h1,h2,h3=>by omega
 | f+1,lo,h1,h2,h3=>by
  rw[pY,if_pos (by omega)];rcases Nat.lt_or_ge i (lo+d) with h | h
  ·exact⟨lo,.head _,h1,h⟩
  ·obtain⟨x,hx,e⟩:=aqi hd (f:=f) h h2 (by omega);exact⟨x,.tail _ hx,e⟩
theorem aqA {os:List Nat}{d b x:Nat}:∀ {k w0 w:Nat},w0≤w→w<w0+k→x∈pY d (nth os (b+1)) 300 (nth os b)→w*32+x∈qp os d b k w0
 | 0,w0,w,h1,h2,_=>by omega
 | k+1,w0,w,h1,h2,h=>by
  rw[qp,List.mem_append];rcases Nat.lt_or_ge w0 w with h3 | h3
  ·exact .inr (aqA h3 (by omega) h)
  ·have:w=w0:=by omega
   subst this;exact .inl (List.mem_map.2 ⟨x,h,rfl⟩)
theorem aqG {os:List Nat}{d n first y b:Nat}:∀ {k b0:Nat},b0≤b→b<b0+k→y∈qp os d b n first→y∈v6 os d n first k b0
 | 0,b0,h1,h2,_=>by omega
 | k+1,b0,h1,h2,h=>by
  rw[v6,List.mem_append];rcases Nat.lt_or_ge b0 b with h3 | h3
  ·exact .inr (aqG h3 (by omega) h)
  ·have:b=b0:=by omega
   subst this;exact .inl h
theorem ap7 {os:List Nat}{n first k y:Nat}(hk:1≤k∧k≤11):∀ {r:List ao}{b j:Nat},(al r)[j]?=some (k:Int)→y∈qp os (aM k) (b+j) n first→(k,y)∈xJ os n first r b
 | [],b,j,h,_=>absurd h (by simp[al])
 | s::r,b,j,h,hy=>by
  have eb:al (s::r)=List.replicate s.len.toNat s.book++al r:=by rw[al,List.flatMap_cons];rfl
  rw[eb]at h;rw[xJ,List.mem_append];rcases Nat.lt_or_ge j s.len.toNat with h1 | h1
  ·left;rw[List.getElem?_append_left (by simpa using h1),List.getElem?_replicate,if_pos h1,Option.some.injEq]at h;rw[h,if_neg (by omega),Int.toNat_natCast];exact List.mem_map.2 ⟨y,aqG (b:=b+j) (by omega) (by omega) hy,rfl⟩
  ·right;rw[List.getElem?_append_right (by simpa using h1),List.length_replicate]at h;exact ap7 hk h (by rw[show b+s.len.toNat+(j-s.len.toNat)=b+j by omega];exact hy)
theorem ara {os:List Nat}{k x j w:Nat}(hk:1≤k∧k≤11):∀ {r:List (List ao)}{q:List Int}{first:Nat}{l:List ao},(∀ n∈q,1≤n)→first≤w→(w:Int)<first+q.sum→r[im q ((w:Int)-first)]?=some l→(al l)[j]?=some (k:Int)→x∈pY (aM k) (nth os (j+1)) 300 (nth os j)→(k,w*32+x)∈mN os r q first
 | [],q,first,l,hq,h1,h2,h3,h4,h5=>absurd h3 (by simp)
 | l0::r,[],first,l,hq,h1,h2,h3,h4,h5=>by simp at h2;omega
 | l0::r,n::q,first,l,hq,h1,h2,h3,h4,h5=>by
  have hn:=hq n (.head _);rw[mN,List.mem_append];rw[im]at h3;rw[List.sum_cons]at h2;by_cases h:(w:Int)-first<n
  ·rw[if_pos h]at h3;simp only[List.getElem?_cons_zero,Option.some.injEq]at h3;subst h3;exact .inl (ap7 hk h4 (by rw[Nat.zero_add];exact aqA h1 (by omega) h5))
  ·rw[if_neg h,List.getElem?_cons_succ]at h3;right;refine ara hk (fun y hy=>hq y (.tail _ hy)) (by omega) (by omega) ?_ h4 h5;rw[show (w:Int)-((first+n.toNat:Nat):Int)=(w:Int)-first-n by omega];exact h3
theorem aiM {i:Nat}:∀ {tl:List Nat}{lo:Nat},lo≤i→(∃ x∈tl,i<x)→fV tl i<tl.length∧nth (lo::tl) (fV tl i)≤i∧i<nth (lo::tl) (fV tl i+1)
 | [],lo,_,h=>by obtain⟨x,hx,_⟩:=h;exact absurd hx (by simp)
 | x::r,lo,h1,h2=>by
  rw[fV];by_cases h:x≤i
  ·rw[if_pos h];have ih:=aiM (tl:=r) h (by
    obtain⟨y,hy,e⟩:=h2;rcases List.mem_cons.1 hy with rfl | hy
    ·omega
    ·exact⟨y,hy,e⟩)
   exact⟨by rw[List.length_cons];omega,ih.2⟩
  ·rw[if_neg h];exact⟨by simp,h1,by show i<x;omega⟩
theorem Zj (i:am):(cond i.short 32 256:Nat)=i.wide∧((i.wide=32∧i.many=8)∨(i.wide=256∧i.many=1)):=by
 unfold am.short am.wide am.many;by_cases h:i.seq=2
 ·rw[decide_eq_true h,if_pos h,if_pos h];exact⟨rfl,.inl ⟨rfl,rfl⟩⟩
 ·rw[decide_eq_false h,if_neg h,if_neg h];exact⟨rfl,.inr ⟨rfl,rfl⟩⟩
theorem arR {r:Nat}(hr:r≤11) (s:Bool):offs r s=0::(offs r s).drop 1:=by
 obtain⟨o1,o2,o3,o4⟩:=yv (r,s) (dI (by omega));obtain⟨p1,p2,p3⟩:=nh (r,s) (dI (by omega));simp only at o4 p2
 cases e:offs r s with
 | nil=>rw[e]at o4;simp at o4
 | cons x t =>
  rw[e]at p2;have:x=0:=p2;rw[this];rfl
theorem awR {r:Nat}(hr:r≤11) (i:am) {x:Nat}(hx:x<i.wide):∃ j,j=fV ((offs r i.short).drop 1) x∧j+1<(offs r i.short).length∧nth (offs r i.short) j≤x∧x<nth (offs r i.short) (j+1):=by
 obtain⟨o1,o2,o3,o4⟩:=yv (r,i.short) (dI (by omega));simp only at o1;have hw:=(Zj i).1;rw[hw]at o1;have hm:i.wide∈(offs r i.short).drop 1:=by simpa using o1
 have h:=aiM (i:=x) (tl:=(offs r i.short).drop 1) (lo:=0) (Nat.zero_le _) ⟨_,hm,hx⟩;rw[←arR hr]at h;refine⟨_,rfl,?_,h.2⟩;have:=h.1;rw[List.length_drop]at this;omega
theorem apo {r:Nat}{c:bJ}(h:ql r c) (hr:r≤11) {i:Nat}{v:Int}(hv:c.lines[i]?=some v) (h0:v≠0):∃ p∈XB r c.info c.sects,p.2≤i∧i<p.2+aM p.1:=by
 have hm11:=iw hr h.info;obtain⟨g1,g2⟩:=cD hm11;have hi:i<256:=by
  have:=(List.getElem?_eq_some_iff.1 hv).1;have:=h.lines.1;omega
 obtain⟨hw1,hw⟩:=Zj c.info;have hwp:0<c.info.wide:=by omega
 have hdm:=Nat.div_add_mod i c.info.wide;have hx:=Nat.mod_lt i hwp;have hwm:i / c.info.wide<c.info.many:=by
  rcases hw with ⟨a,b⟩ | ⟨a,b⟩<;>rw[a,b]<;>omega
 have hw32:i / c.info.wide*32+i % c.info.wide=i:=by
  rcases hw with ⟨a,b⟩ | ⟨a,b⟩<;>rw[a]<;>omega
 have e1:(wZ c (i / c.info.wide))[i % c.info.wide]?=some v:=by
  rw[wZ,List.getElem?_take,if_pos hx,List.getElem?_drop,Nat.mul_comm,hdm,hv]
 have h2:=MH (Mp h.lines.2 (Nat.zero_le _) (show _<0+c.info.many by omega)) e1;rw[Nat.zero_add]at h2;rcases h2 with h2 | ⟨k,k1,k2,k3⟩
 ·exact absurd h2 h0
 obtain⟨j,j1,j2,j3,j4⟩:=awR hr c.info hx;rw[←j1]at k1;obtain⟨K,rfl⟩:=Int.eq_ofNat_of_zero_le (show 0≤k by omega);have hd:1≤aM K:=by unfold aM;split<;>omega
 have ho:nth (offs r c.info.short) (j+1)≤256:=by
  obtain⟨p1,p2,p3⟩:=nh (r,c.info.short) (dI (by omega));have:=List.all_eq_true.1 p3 _ (gn j2);simp only[decide_eq_true_eq]at this;rw[hw1]at this;omega
 obtain⟨x,x1,x2,x3⟩:=aqi hd (f:=300) j3 j4 (by omega);generalize i / c.info.wide=w at *;generalize i % c.info.wide=y at *;have hgl:im c.info.groups (w:Int)<c.sects.length:=by
  have:=akL (l:=c.info.groups) (w:=w) (by omega) (fun n hn=>(g1 n hn).1) (by omega);have:=h.sects.1;omega
 refine⟨(K,w*32+x),ara (l:=ym c w) (by omega) (fun n hn=>(g1 n hn).1) (Nat.zero_le _) (by omega) ?_ k1 x1,by simp only[];omega,by simp only[];omega⟩;rw[show (w:Int)-((0:Nat):Int)=w by omega,ym,List.getD_eq_getElem?_getD,List.getElem?_eq_getElem hgl];rfl
theorem aoT {b:List Nat}{r:Nat}{c:bJ}(hc:c.Fit) (h:ql r c) (hr:r≤11) {n m:Nat}(hn:n≤b.length) (ha:At b n m (jI r c)):jJ b (XB r c.info c.sects) n Z0=.ok c.lines m:=by
 refine Rf h.lines.1 hn (by rw[List.length_replicate]) (fun p hp=>Kt hc h hr hp) (fun i=>?_) ha
 cases e:c.lines[i]? with
 | none =>
  right;have:=List.getElem?_eq_none_iff.1 e;have:=h.lines.1;rw[List.getElem?_eq_none (by rw[List.length_replicate];omega)]
 | some v =>
  by_cases h0:v=0
  ·right;subst h0;have:=(List.getElem?_eq_some_iff.1 e).1;have:=h.lines.1;rw[List.getElem?_replicate,if_pos (by omega)]
  ·exact .inl (apo h hr e h0)
def sZ (b:List Nat) (st s2:RS) (X:List Nat):Prop:=∃ a n:Nat,st=⟨a,0⟩∧s2=⟨n,0⟩∧At b a n X
def apk (b:List Nat) (st:RS):Prop:=∃ a:Nat,st=⟨a,0⟩∧a≤b.length
theorem eg {b:List Nat}{st s2:RS}{X Y:List Nat}:sZ b st s2 (X++Y)↔∃ m,sZ b st m X∧sZ b m s2 Y:=by
 constructor
 ·rintro ⟨a,n,e1,e2,h⟩
  obtain⟨m,h1,h2⟩:=aT.1 h;exact⟨⟨m,0⟩,⟨a,m,e1,rfl,h1⟩,⟨m,n,rfl,e2,h2⟩⟩
 ·rintro ⟨m,⟨a,n,e1,e2,h⟩,⟨a2,n2,e3,e4,h2⟩⟩
  rw[e2]at e3;injection e3 with e3 _
  have:n=a2:=by omega
  subst this;exact⟨a,n2,e1,e4,aT.2 ⟨n,h,h2⟩⟩
theorem sO {b:List Nat}{st s2:RS}:sZ b st s2 []↔s2=st∧apk b st:=by
 constructor
 ·rintro ⟨a,n,e1,e2,h⟩
  obtain⟨h1,h2⟩:=fb.1 h;exact⟨by rw[e1,e2,h1],a,e1,h2⟩
 ·intro hh;obtain⟨a,e,h⟩:=hh.2;exact⟨a,a,e,by rw[hh.1,e],fb.2 ⟨rfl,h⟩⟩
theorem wy {b:List Nat}{st s2:RS}{X:List Nat}(h:sZ b st s2 X):apk b st∧apk b s2∧st.e=0∧s2.e=0:=by
 obtain⟨a,n,e1,e2,h⟩:=h;have:=dh h;exact⟨⟨a,e1,this.1⟩,⟨n,e2,this.2.1⟩,by rw[e1],by rw[e2]⟩
theorem RJ {b:List Nat}{st:RS}{s:Nat}(h:(sN b st s).e=0):st.e=0:=by
 unfold sN at h;by_cases h0:st.e=0
 ·exact h0
 ·rw[if_neg h0]at h;exact absurd h h0
theorem D9 {b:List Nat}{st:RS}{s:Nat}(hs:s≤31) (h:(sN b st s).e=0):sV b st s<2 ^ s∧sZ b st (sN b st s) (aj (sV b st s) s):=by
 have h0:=RJ h;obtain⟨a,e⟩:=st;simp only at h0;subst h0
 cases hg:aQ b a s with
 | er e=>rw[(ug hg).2]at h;exact absurd h (by simp)
 | ok v n =>
  rw[(gm hg).1,(gm hg).2];have ha:=avs hg;obtain⟨A,rfl⟩:=Int.eq_ofNat_of_zero_le ha;obtain⟨g1,g2⟩:=(bn hs).1 hg;exact⟨g1,A,n,rfl,rfl,g2⟩
theorem Ld {b:List Nat}{st s2:RS}{s v:Nat}(hs:s≤31) (hv:v<2 ^ s) (h:sZ b st s2 (aj v s)):sV b st s=v∧sN b st s=s2:=by
 obtain⟨a,n,rfl,rfl,h⟩:=h;exact gm ((bn hs).2 ⟨hv,h⟩)
abbrev nx (b:List Nat) (st:RS):Prop:=st.e=0→apk b st
theorem aDu {v sz:Nat}(hz:1≤sz) (hv:v<2 ^ sz):(-((2 ^ (sz-1):Nat):Int)≤K3 v sz∧K3 v sz<((2 ^ (sz-1):Nat):Int))∧(K3 v sz % ((2 ^ sz:Nat):Int)).toNat=v:=by
 obtain⟨k,rfl⟩:∃ k,sz=k+1:=⟨sz-1,by omega⟩
 have e:2 ^ (k+1)=2*2 ^ k:=by rw[Nat.pow_succ,Nat.mul_comm]
 have hp:=Nat.two_pow_pos k;unfold K3;rw[Nat.add_sub_cancel];rw[e]at hv⊢;rcases Nat.lt_or_ge v (2 ^ k) with h | h
 ·rw[Nat.div_eq_of_lt h,Nat.zero_mul];refine⟨by omega,?_⟩;rw[Int.emod_eq_of_lt (by omega) (by omega)];omega
 ·have:v / 2 ^ k=1:=Nat.div_eq_of_lt_le (by omega) (by omega);rw[this,Nat.one_mul];refine⟨by omega,?_⟩;have e3:((v:Int)-((2*2 ^ k:Nat):Int)) % ((2*2 ^ k:Nat):Int)=v:=by
   rw[Int.sub_emod_right,Int.emod_eq_of_lt (by omega) (by omega)]
  rw[e3];omega
theorem aC3 {c:Int}{sz:Nat}(hz:1≤sz) (h:-((2 ^ (sz-1):Nat):Int)≤c∧c<((2 ^ (sz-1):Nat):Int)):(c % ((2 ^ sz:Nat):Int)).toNat<2 ^ sz∧K3 (c % ((2 ^ sz:Nat):Int)).toNat sz=c:=by
 obtain⟨k,rfl⟩:∃ k,sz=k+1:=⟨sz-1,by omega⟩
 have e:2 ^ (k+1)=2*2 ^ k:=by rw[Nat.pow_succ,Nat.mul_comm]
 have hp:=Nat.two_pow_pos k;rw[Nat.add_sub_cancel]at h;unfold K3;rw[Nat.add_sub_cancel,e];rcases Int.lt_or_le c 0 with h0 | h0
 ·have e3:c % ((2*2 ^ k:Nat):Int)=c+((2*2 ^ k:Nat):Int):=by
   rw[←Int.add_emod_right,Int.emod_eq_of_lt (by omega) (by omega)]
  rw[e3];have e4:(c+((2*2 ^ k:Nat):Int)).toNat / 2 ^ k=1:=Nat.div_eq_of_lt_le (by omega) (by omega);rw[e4];omega
 ·rw[Int.emod_eq_of_lt (by omega) (by omega),Nat.div_eq_of_lt (by omega)];omega
theorem ayi {b:List Nat}{sz:Nat}(hz:1≤sz∧sz≤31):∀ {k:Nat}{st:RS},nx b st→(oA b sz k st).e=0→(qa b sz k st).length=k∧(∀ c∈qa b sz k st,-((2 ^ (sz-1):Nat):Int)≤c∧c<((2 ^ (sz-1):Nat):Int))∧sZ b st (oA b sz k st) (kA sz (qa b sz k st))
 | 0,st,hn,h=>⟨rfl,by simp[qa],sO.2 ⟨rfl,hn h⟩⟩
 | k+1,st,hn,h=>by
  rw[oA]at h;have hn2:nx b (sN b st sz):=fun h1=>(wy (D9 hz.2 h1).2).2.1
  obtain⟨i1,i2,i3⟩:=ayi hz (k:=k) hn2 h;obtain⟨j1,j2⟩:=D9 hz.2 (wy i3).2.2.1;obtain⟨v1,v2⟩:=aDu hz.1 j1;rw[qa,oA];refine⟨by rw[List.length_cons,i1],fun c hc=>?_,?_⟩
  ·rcases List.mem_cons.1 hc with rfl | hc
   ·exact v1
   ·exact i2 c hc
  ·rw[kA,List.flatMap_cons,v2];exact eg.2 ⟨_,j2,i3⟩
theorem ax4 {b:List Nat}{sz:Nat}(hz:1≤sz∧sz≤31):∀ {l:List Int}{st s2:RS},(∀ c∈l,-((2 ^ (sz-1):Nat):Int)≤c∧c<((2 ^ (sz-1):Nat):Int))→sZ b st s2 (kA sz l)→qa b sz l.length st=l∧oA b sz l.length st=s2
 | [],st,s2,hl,h=>⟨rfl,(sO.1 h).1.symm⟩
 | c::r,st,s2,hl,h=>by
  rw[kA,List.flatMap_cons]at h;obtain⟨m,h1,h2⟩:=eg.1 h;obtain⟨v1,v2⟩:=aC3 hz.1 (hl c (.head _));obtain⟨w1,w2⟩:=Ld hz.2 v1 h1;obtain⟨i1,i2⟩:=ax4 hz (l:=r) (fun x hx=>hl x (.tail _ hx)) h2;rw[List.length_cons,qa,oA,w1,w2,v2,i1,i2];exact⟨rfl,rfl⟩
theorem as4 {b:List Nat}{sz:Nat}:∀ {k:Nat}{st:RS},(oA b sz k st).e=0→st.e=0
 | 0,_,h=>h
 | k+1,st,h=>by rw[oA]at h;exact RJ (as4 h)
theorem NY {b:List Nat}{st:RS}{s:Nat}(hs:s≤31):nx b (sN b st s):=fun h=>(wy (D9 hs h).2).2.1
theorem azA {b:List Nat}{sz:Nat}(hz:sz≤31):∀ {k:Nat}{st:RS},nx b st→nx b (oA b sz k st)
 | 0,_,h=>h
 | k+1,st,h=>by rw[oA];exact azA hz (NY hz)
theorem apP {fine:Bool}{w:Nat}(hw:w≤1):1≤cN fine-w∧cN fine-w≤31:=by unfold cN;split<;>omega
theorem ava (fine:Bool) (l:List Int) (s:Nat) (hs:s=cN fine-1):DK l s=decide (∀ c∈l,-(bI fine / 2)≤c∧c<bI fine / 2):=by
 subst hs
 cases fine<;>rfl
theorem K8 (sh:Bool):uh sh=((2 ^ aL sh:Nat):Int)-1∧aL sh≤31∧aJ sh≤31∧b9 sh≤31:=by cases sh<;>decide
theorem arM {d:Nat}(h:d<2 ^ 1):bL (decide (d=1))=d:=by
 unfold bL;by_cases h1:d=1
 ·rw[h1];rfl
 ·rw[decide_eq_false h1];simp;omega
theorem aDQ {b:List Nat}{sh fine:Bool}{st:RS}(hO:¬ (12<lr b (aL sh) (aJ sh) st∧(qC b (aL sh) (aJ sh) st).e=0)) (hX:DN b (aL sh) (aJ sh) fine st=false) (he:(qd b (aL sh) (aJ sh) fine st).e=0) :
  (uK sh (FC b (aL sh) (aJ sh) fine st)∧(FC b (aL sh) (aJ sh) fine st).fine=fine)∧sZ b st (qd b (aL sh) (aJ sh) fine st) (lj sh (FC b (aL sh) (aJ sh) fine st)):=by
 obtain⟨l1,l2,l3,_⟩:=K8 sh;have hS:(qC b (aL sh) (aJ sh) st).e=0:=by
  unfold qd at he;by_cases h0:lr b (aL sh) (aJ sh) st=0
  ·rw[if_pos h0]at he;exact he
  ·rw[if_neg h0]at he;have:=as4 he;exact RJ (s:=1) (RJ (s:=1) this)
 have r2:=D9 (st:=sN b st (aL sh)) (s:=aJ sh) l3 hS;have r1:=D9 (st:=st) (s:=aL sh) l2 (RJ (s:=aJ sh) hS);have hO2:((lr b (aL sh) (aJ sh) st:Nat):Int)≤qg sh:=by
  have h1:lr b (aL sh) (aJ sh) st<2 ^ aJ sh:=r2.1;have h2:lr b (aL sh) (aJ sh) st≤12:=by
   rcases Nat.lt_or_ge 12 (lr b (aL sh) (aJ sh) st) with h | h
   ·exact absurd ⟨h,hS⟩ hO
   ·exact h
  cases sh
  ·show _≤(12:Int);omega
  ·have:2 ^ aJ true=8:=rfl;show _≤(7:Int);omega
 have hr1:=r1.1;have q2:sZ b (sN b st (aL sh)) (qC b (aL sh) (aJ sh) st) (aj (lr b (aL sh) (aJ sh) st) (aJ sh)):=r2.2;unfold qd at he⊢;unfold FC;by_cases h0:lr b (aL sh) (aJ sh) st=0
 ·rw[if_pos h0]at he⊢;rw[if_pos h0];rw[h0]at q2;refine⟨⟨⟨⟨by simp only[];omega,by simp only[];omega⟩,⟨by simp,by simp only[];cases sh<;>decide⟩,rfl,fun _=>rfl,by simp⟩,rfl⟩,?_⟩;unfold lj;simp only[if_true,List.append_nil];exact eg.2 ⟨_,by simpa using r1.2,by simpa using q2⟩
 ·rw[if_neg h0]at he⊢;rw[if_neg h0];have hT:=as4 he;have r4:=D9 (st:=sN b (qC b (aL sh) (aJ sh) st) (1:Nat)) (s:=1) (by omega) hT;have r3:=D9 (st:=qC b (aL sh) (aJ sh) st) (s:=1) (by omega) (RJ (s:=1) hT);have hd:flD b (aL sh) (aJ sh) st<2 ^ 1:=r3.1;have hw:Aa b (aL sh) (aJ sh) st<2 ^ 1:=r4.1;have q3:sZ b (qC b (aL sh) (aJ sh) st) (sN b (qC b (aL sh) (aJ sh) st) (1:Nat)) (aj (flD b (aL sh) (aJ sh) st) 1):=r3.2;have q4:sZ b (sN b (qC b (aL sh) (aJ sh) st) (1:Nat)) (JC b (aL sh) (aJ sh) st) (aj (Aa b (aL sh) (aJ sh) st) 1):=r4.2;have hz:=apP (fine:=fine) (w:=Aa b (aL sh) (aJ sh) st) (by omega);have c:=ayi (sz:=Bx b (aL sh) (aJ sh) fine st) hz (k:=lr b (aL sh) (aJ sh) st) (NY (st:=sN b (qC b (aL sh) (aJ sh) st) (1:Nat)) (s:=1) (by omega)) he;unfold DN at hX;rw[if_neg h0]at hX;obtain⟨c1,c2,c3⟩:=c;have c3:sZ b (JC b (aL sh) (aJ sh) st) _ _:=c3;have hZ:Bx b (aL sh) (aJ sh) fine st=cN fine-Aa b (aL sh) (aJ sh) st:=rfl;generalize hcf:qa b (Bx b (aL sh) (aJ sh) fine st) (lr b (aL sh) (aJ sh) st) (sN b (sN b (qC b (aL sh) (aJ sh) st) (1:Nat)) (1:Nat))=cs at *;have hcf2:qa b (Bx b (aL sh) (aJ sh) fine st) (lr b (aL sh) (aJ sh) st) (JC b (aL sh) (aJ sh) st)=cs:=hcf;rw[hcf2]at hX⊢;have hrng:∀ c∈cs,-bI fine≤c∧c<bI fine:=fun c hc=>by
   have:=c2 c hc;rw[hZ]at this;have hw2:Aa b (aL sh) (aJ sh) st=0∨Aa b (aL sh) (aJ sh) st=1:=by omega
   rcases hw2 with e | e<;>rw[e]at this<;>cases fine<;>simp only[cN,bI]at this⊢<;>simp at this⊢<;>omega
  have hnar:bL (decide (∀ c∈cs,-(bI fine / 2)≤c∧c<bI fine / 2))=Aa b (aL sh) (aJ sh) st:=by
   rw[←ava fine cs _ rfl];have hw2:Aa b (aL sh) (aJ sh) st=0∨Aa b (aL sh) (aJ sh) st=1:=by omega
   rcases hw2 with e | e
   ·rw[e]at hX hZ⊢;rw[hZ]at hX;simp only[decide_true,Bool.true_and,Nat.sub_zero]at hX;rw[hX];rfl
   ·rw[e]at hZ⊢;have:DK cs (cN fine-1)=true:=by
     rw[DK,decide_eq_true_eq];intro c hc;have:=c2 c hc;rw[hZ]at this
     cases fine<;>simp only[cN]at this⊢<;>simp at this⊢<;>omega
    rw[this];rfl
  refine⟨⟨⟨⟨by simp only[];omega,by simp only[];omega⟩,⟨by simp only[];omega,hO2⟩,by simp only[];rw[c1],fun h=>absurd h (by simp only[];omega),hrng⟩,rfl⟩,?_⟩;unfold lj;rw[if_neg (by simp only[];omega)];refine eg.2 ⟨_,by simpa using r1.2,eg.2 ⟨_,by simpa using q2,eg.2 ⟨_,by simp only[];rw[arM hd];exact q3,eg.2 ⟨JC b (aL sh) (aJ sh) st,?_,?_⟩⟩⟩⟩
  ·simp only[cV];rw[hnar];exact q4
  ·simp only[mA,cV];rw[hnar];exact c3
theorem aCR {b:List Nat}{sh:Bool}{f:aR}{st s2:RS}(hf:uK sh f) (h:sZ b st s2 (lj sh f)) :
  FC b (aL sh) (aJ sh) f.fine st=f∧qd b (aL sh) (aJ sh) f.fine st=s2∧DN b (aL sh) (aJ sh) f.fine st=false∧¬ (12<lr b (aL sh) (aJ sh) st):=by
 obtain⟨l1,l2,l3,_⟩:=K8 sh;obtain⟨len,ord,down,fine,cs⟩:=f;obtain⟨⟨f1,f2⟩,⟨f3,f4⟩,f5,f6,f7⟩:=hf;simp only at f1 f2 f3 f4 f5 f6 f7⊢;obtain⟨len,rfl⟩:=Int.eq_ofNat_of_zero_le f1;obtain⟨ord,rfl⟩:=Int.eq_ofNat_of_zero_le f3;have hordF:ord<2 ^ aJ sh∧ord≤12:=by
  cases sh
  ·have:(ord:Int)≤12:=f4;have:2 ^ aJ false=32:=rfl;omega
  ·have:(ord:Int)≤7:=f4;have:2 ^ aJ true=8:=rfl;omega
 unfold lj at h;simp only[Int.toNat_natCast]at h;obtain⟨m1,h1,h⟩:=eg.1 h;obtain⟨m2,h2,h⟩:=eg.1 h;obtain⟨v1,n1⟩:=Ld l2 (show len<2 ^ aL sh by omega) h1;obtain⟨v2,n2⟩:=Ld l3 hordF.1 h2;have hO:lr b (aL sh) (aJ sh) st=ord:=by unfold lr;rw[n1,v2]
 have hS:qC b (aL sh) (aJ sh) st=m2:=by unfold qC;rw[n1,n2]
 refine⟨?_,?_,?_,by rw[hO];omega⟩
 all_goals
  by_cases h0:ord=0
  ·subst h0;have hc:cs=[]:=List.eq_nil_of_length_eq_zero (by omega);have hd:=f6 rfl;subst hc hd;simp only[Int.natCast_zero,if_true]at h;have hs2:=(sO.1 h).1
   first
    | (unfold FC;rw[if_pos hO,v1];rfl)
    | (unfold qd;rw[if_pos hO,hS,hs2])
    | (unfold DN;rw[if_pos hO])
  ·rw[if_neg (by omega)]at h;obtain⟨m3,h3,h⟩:=eg.1 h;obtain⟨m4,h4,h5⟩:=eg.1 h;have b1:∀ x:Bool,bL x<2 ^ 1:=fun x=>by cases x<;>decide
   obtain⟨v3,n3⟩:=Ld (s:=1) (by omega) (b1 down) h3;obtain⟨v4,n4⟩:=Ld (s:=1) (by omega) (b1 _) h4;have hD:flD b (aL sh) (aJ sh) st=bL down:=by unfold flD;rw[hS];exact v3
   have hT:JC b (aL sh) (aJ sh) st=m4:=by
    unfold JC;rw[hS];show sN b (sN b m2 (1:Nat)) (1:Nat)=m4;rw[n3,n4]
   have hW:Aa b (aL sh) (aJ sh) st=bL (cV ⟨len,ord,down,fine,cs⟩):=by
    unfold Aa;rw[hS];show sV b (sN b m2 (1:Nat)) (1:Nat)=_;rw[n3,v4]
   have hZ:Bx b (aL sh) (aJ sh) fine st=mA ⟨len,ord,down,fine,cs⟩:=by unfold Bx;rw[hW];rfl
   have hw1:bL (cV ⟨len,ord,down,fine,cs⟩)≤1:=by cases cV ⟨len,ord,down,fine,cs⟩<;>decide
   have hz:=apP (fine:=fine) hw1;have hrng:∀ c∈cs,-((2 ^ (mA ⟨len,ord,down,fine,cs⟩-1):Nat):Int)≤c∧c<((2 ^ (mA ⟨len,ord,down,fine,cs⟩-1):Nat):Int):=fun c hc=>by
    have a:=f7 c hc
    cases hn:cV ⟨len,ord,down,fine,cs⟩ with
    | true =>
     have b:=(of_decide_eq_true hn) c hc;simp only[mA,hn]
     cases fine<;>simp only[cN,bL,bI]at b⊢<;>simp at b⊢<;>omega
    | false =>
     simp only[mA,hn]
     cases fine<;>simp only[cN,bL,bI]at a⊢<;>simp at a⊢<;>omega
   have hco:cs.length=ord:=by omega
   obtain⟨c1,c2⟩:=ax4 (sz:=mA ⟨len,ord,down,fine,cs⟩) hz hrng h5;rw[hco]at c1 c2
   first
    | (unfold FC;rw[if_neg (by omega),v1,hO,hD,hZ,hT,c1];congr 1;cases down<;>rfl)
    | (unfold qd;rw[if_neg (by omega),hO,hZ,hT,c2])
    | (unfold DN
       rw[if_neg (by omega),hO,hZ,hT,c1,hW]
       cases hn:cV ⟨len,ord,down,fine,cs⟩ with
       | true=>rfl
       | false =>
        have e:mA ⟨len,ord,down,fine,cs⟩-1=cN fine-1:=by rw[mA,hn];rfl
        rw[e,ava fine cs _ rfl];show (_ && cV ⟨len,ord,down,fine,cs⟩)=false;rw[hn,Bool.and_false])
theorem aq5 {b:List Nat}{sh fine:Bool}{st:RS}:nx b (qd b (aL sh) (aJ sh) fine st):=by
 obtain⟨l1,l2,l3,_⟩:=K8 sh;unfold qd;by_cases h0:lr b (aL sh) (aJ sh) st=0
 ·rw[if_pos h0];exact NY l3
 ·rw[if_neg h0];have hz:Bx b (aL sh) (aJ sh) fine st≤31:=by unfold Bx cN;split<;>omega
  exact azA hz (NY (st:=sN b (qC b (aL sh) (aJ sh) st) (1:Nat)) (s:=1) (by omega))
theorem auN {b:List Nat}{sh fine:Bool}:∀ {k:Nat}{o:Bool}{st st2:RS}{l:List aR},nx b st→eQ b (aL sh) (aJ sh) fine k o st=some (l,false,st2)→st2.e=0→
  o=false∧l.length=k∧(∀ f∈l,uK sh f∧f.fine=fine)∧sZ b st st2 (l.flatMap (lj sh))
 | 0,o,st,st2,l,hn,h,he=>by
  rw[eQ]at h;injection h with h
  injection h with e1 h
  injection h with e2 e3
  subst e1 e2 e3;exact⟨rfl,rfl,by simp,sO.2 ⟨rfl,hn he⟩⟩
 | k+1,o,st,st2,l,hn,h,he=>by
  rw[eQ]at h;by_cases hO:12<lr b (aL sh) (aJ sh) st∧(qC b (aL sh) (aJ sh) st).e=0
  ·rw[if_pos hO]at h;exact absurd h (by simp)
  rw[if_neg hO]at h
  cases hq:eQ b (aL sh) (aJ sh) fine k (o || DN b (aL sh) (aJ sh) fine st) (qd b (aL sh) (aJ sh) fine st) with
  | none=>rw[hq]at h;exact absurd h (by simp)
  | some q =>
   obtain⟨l2,o2,s3⟩:=q;rw[hq]at h;simp only[Option.some.injEq,Prod.mk.injEq]at h;obtain⟨e1,e2,e3⟩:=h;subst e1 e2 e3;obtain⟨i1,i2,i3,i4⟩:=auN aq5 hq he;rw[Bool.or_eq_false_iff]at i1;obtain⟨⟨j1,j2⟩,j3⟩:=aDQ hO i1.2 (wy i4).2.2.1;refine⟨i1.1,by rw[List.length_cons,i2],fun f hf=>?_,?_⟩
   ·rcases List.mem_cons.1 hf with rfl | hf
    ·exact⟨j1,j2⟩
    ·exact i3 f hf
   ·rw[List.flatMap_cons];exact eg.2 ⟨_,j3,i4⟩
theorem au1 {b:List Nat}{sh fine:Bool}:∀ {l:List aR}{st st2:RS},(∀ f∈l,uK sh f∧f.fine=fine)→sZ b st st2 (l.flatMap (lj sh))→eQ b (aL sh) (aJ sh) fine l.length false st=some (l,false,st2)
 | [],st,st2,hl,h=>by rw[(sO.1 h).1];rfl
 | f::r,st,st2,hl,h=>by
  obtain⟨h1,h2⟩:=hl f (.head _);rw[List.flatMap_cons]at h;obtain⟨m,k1,k2⟩:=eg.1 h;obtain⟨j1,j2,j3,j4⟩:=aCR h1 k1;rw[h2]at j1 j2 j3;rw[List.length_cons,eQ,if_neg (fun h=>j4 h.1),j3,j2,Bool.or_false,au1 (fun x hx=>hl x (.tail _ hx)) k2,j1]
theorem an6 (sh:Bool):x0T sh=b9 sh∧x1T sh=aL sh∧x2T sh=aJ sh∧2 ^ b9 sh=kJ sh+1:=by cases sh<;>decide
theorem aeQ {sh:Bool}{f:aR}{r:List aR}:rY sh (f::r)=aj (f::r).length (b9 sh)++(aj (bL f.fine) 1++(f::r).flatMap (lj sh)):=rfl
theorem ako {sh:Bool}:rY sh []=aj 0 (b9 sh):=by simp[rY]
theorem auJ {b:List Nat}{sh:Bool}:∀ {k:Nat}{o:Bool}{st st2:RS}{t:List (List aR)},nx b st→kf b (b9 sh) (aL sh) (aJ sh) k o st=some (t,false,st2)→st2.e=0→
  o=false∧t.length=k∧(∀ l∈t,mw sh l)∧sZ b st st2 (fL sh t)
 | 0,o,st,st2,t,hn,h,he=>by
  rw[kf]at h;injection h with h
  injection h with e1 h
  injection h with e2 e3
  subst e1 e2 e3;exact⟨rfl,rfl,by simp,sO.2 ⟨rfl,hn he⟩⟩
 | k+1,o,st,st2,t,hn,h,he=>by
  obtain⟨l1,l2,l3,l4⟩:=K8 sh;obtain⟨_,_,_,x4⟩:=an6 sh;rw[kf]at h
  cases hq:eQ b (aL sh) (aJ sh) (Ky b (b9 sh) st) (sV b st (b9 sh)) o (v7 b (b9 sh) st) with
  | none=>rw[hq]at h;exact absurd h (by simp)
  | some q =>
   obtain⟨l,o2,s3⟩:=q;rw[hq]at h;simp only at h
   cases hw:kf b (b9 sh) (aL sh) (aJ sh) k o2 s3 with
   | none=>rw[hw]at h;exact absurd h (by simp)
   | some w =>
    obtain⟨t2,o3,s4⟩:=w;rw[hw]at h;simp only[Option.some.injEq,Prod.mk.injEq]at h;obtain⟨e1,e2,e3⟩:=h;subst e1 e2 e3;have hwn:nx b (v7 b (b9 sh) st):=by
     unfold v7;split
     ·exact NY (st:=sN b st (b9 sh)) (s:=1) (by omega)
     ·exact NY l4
    have hs3:nx b s3:=by
     have:∀ {k:Nat}{o o2:Bool}{st st2:RS}{l:List aR},nx b st→eQ b (aL sh) (aJ sh) (Ky b (b9 sh) st) k o st=some (l,o2,st2)→True:=fun _ _=>trivial
     have g:∀ {fine:Bool}{k:Nat}{o o2:Bool}{st st2:RS}{l:List aR},nx b st→eQ b (aL sh) (aJ sh) fine k o st=some (l,o2,st2)→nx b st2:=by
      intro fine k
      induction k with
      | zero =>
       intro o o2 st st2 l hn h;rw[eQ]at h;injection h with h
       injection h with e1 h
       injection h with e2 e3
       subst e3;exact hn
      | succ k ih =>
       intro o o2 st st2 l hn h;rw[eQ]at h;split at h
       ·exact absurd h (by simp)
       ·split at h
        ·exact absurd h (by simp)
        ·rename_i q hq;obtain⟨a,b2,c⟩:=q;simp only[Option.some.injEq,Prod.mk.injEq]at h;obtain⟨e1,e2,e3⟩:=h;subst e3;exact ih aq5 hq
     exact g hwn hq
    obtain⟨i1,i2,i3,i4⟩:=auJ hs3 hw he;subst i1;obtain⟨j1,j2,j3,j4⟩:=auN hwn hq (wy i4).2.2.1;have hwe:=(wy j4).2.2.1;unfold v7 at hwe j4;refine⟨j1,by rw[List.length_cons,i2],fun x hx=>?_,?_⟩
    ·rcases List.mem_cons.1 hx with rfl | hx
     ·refine⟨?_,fun f0 hf0 f hf=>?_⟩
      ·have:=oa (b:=b) (st:=st) (s:=(b9 sh:Int));rw[Int.toNat_natCast]at this;omega
      ·have a1:=j3 f hf;have a2:=j3 f0 (List.mem_of_mem_head? hf0);exact⟨a1.1,by rw[a1.2,a2.2]⟩
     ·exact i3 x hx
    ·rw[fL,List.flatMap_cons];refine eg.2 ⟨s3,?_,i4⟩
     cases l with
     | nil =>
      have h0:sV b st (b9 sh)=0:=by rw[←j2];rfl
      rw[if_neg (by omega)]at hwe j4;have:=(D9 l4 hwe).2;rw[h0]at this;rw[ako,(sO.1 j4).1];exact this
     | cons f r =>
      have hp:0<sV b st (b9 sh):=by rw[←j2];simp
      rw[if_pos hp]at hwe j4;have r1:=(D9 l4 (RJ (s:=1) hwe)).2;obtain⟨b1,r2⟩:=D9 (st:=sN b st (b9 sh)) (s:=1) (by omega) hwe;rw[aeQ,j2];refine eg.2 ⟨_,r1,eg.2 ⟨_,?_,j4⟩⟩;have hfi:bL f.fine=sV b (sN b st (b9 sh)) (1:Nat):=by
       rw[(j3 f (.head _)).2,Ky,decide_eq_true hp,Bool.true_and];exact arM b1
      rw[hfi];exact r2
theorem auQ {b:List Nat}{sh:Bool}:∀ {t:List (List aR)}{st st2:RS},(∀ l∈t,mw sh l)→sZ b st st2 (fL sh t)→kf b (b9 sh) (aL sh) (aJ sh) t.length false st=some (t,false,st2)
 | [],st,st2,hl,h=>by rw[(sO.1 h).1];rfl
 | l::r,st,st2,hl,h=>by
  obtain⟨l1,l2,l3,l4⟩:=K8 sh;obtain⟨_,_,_,x4⟩:=an6 sh;obtain⟨h1,h2⟩:=hl l (.head _);rw[fL,List.flatMap_cons]at h;obtain⟨m,k1,k2⟩:=eg.1 h;have ih:=auQ (fun x hx=>hl x (.tail _ hx)) k2;rw[List.length_cons,kf]
  cases l with
  | nil =>
   rw[ako]at k1;obtain⟨v1,n1⟩:=Ld l4 (Nat.two_pow_pos _) k1;have hS:v7 b (b9 sh) st=m:=by rw[v7,if_neg (by omega),n1]
   rw[v1,hS];simp only[eQ];rw[ih]
  | cons f q =>
   rw[aeQ]at k1;obtain⟨m1,j1,k1⟩:=eg.1 k1;obtain⟨m2,j2,j3⟩:=eg.1 k1;obtain⟨v1,n1⟩:=Ld l4 (by omega) j1;have b1:bL f.fine<2 ^ 1:=by cases f.fine<;>decide
   obtain⟨v2,n2⟩:=Ld (s:=1) (by omega) b1 j2;have hp:0<sV b st (b9 sh):=by rw[v1];simp
   have hS:v7 b (b9 sh) st=m2:=by
    rw[v7,if_pos hp,n1];exact n2
   have hF:Ky b (b9 sh) st=f.fine:=by
    rw[Ky,decide_eq_true hp,Bool.true_and,n1];have:sV b m1 1=bL f.fine:=v2;rw[this]
    cases f.fine<;>rfl
   rw[hS,hF,v1,au1 (fun x hx=>h2 f rfl x hx) j3];simp only;rw[ih]
theorem awz {b:List Nat}{i:am}{a n:Nat}{t:List (List aR)}(ha:a≤b.length):I2 b i (a:Int)=.ok t n↔VB i t∧At b a n (fL i.short t):=by
 obtain⟨x0,x1,x2,_⟩:=an6 i.short;rw[I2,Uq,x0,x1,x2];constructor
 ·intro h
  cases hq:kf b (b9 i.short) (aL i.short) (aJ i.short) i.many false ⟨a,0⟩ with
  | none=>rw[hq]at h;exact absurd h (by simp)
  | some q =>
   obtain⟨t2,o,st⟩:=q;rw[hq]at h;simp only at h;by_cases he:st.e≠0
   ·rw[if_pos he]at h;exact absurd h (by simp)
   rw[if_neg he]at h
   cases o with
   | true=>simp at h
   | false =>
    simp only[Bool.false_eq_true,if_false]at h;injection h with e1 e2
    subst e1;obtain⟨_,g2,g3,a2,n2,e3,e4,g5⟩:=auJ (fun _=>⟨a,rfl,ha⟩) hq (by simpa using he);injection e3 with e3 _
    have:a=a2:=by omega
    subst this;rw[e4]at e2;simp only[Int.toNat_natCast]at e2;subst e2;exact⟨⟨g2,g3⟩,g5⟩
 ·rintro ⟨⟨h1,h2⟩,h3⟩
  have:=auQ h2 (show sZ b ⟨a,0⟩ ⟨n,0⟩ _ from ⟨a,n,rfl,rfl,h3⟩);rw[h1]at this;rw[this];simp
theorem am1 {lf:Int}:∀ {l:List ao},fitsS lf l→∀ k∈al l,0≤k
 | [],_,k,h=>by simp[al]at h
 | s::r,hf,k,h=>by
  obtain⟨⟨_,h1⟩,h2⟩:=hf;have eb:al (s::r)=List.replicate s.len.toNat s.book++al r:=by rw[al,List.flatMap_cons];rfl
  rw[eb,List.mem_append]at h;rcases h with h | h
  ·rw[List.eq_of_mem_replicate h];exact h1.1
  ·exact am1 h2 k h
theorem aty {i:am}{t:List (List aR)}(h:t.length=i.many) (ha:nF t=false):t=List.replicate i.many []:=by
 rw[nF,List.any_eq_false]at ha;rw[List.eq_replicate_iff];refine⟨h,fun l hl=>?_⟩;have:=ha l hl;simp only[decide_eq_true_eq]at this;exact List.eq_nil_of_length_eq_zero (by omega)
theorem Nj {b:List Nat}{a n v:Nat}(hv:v≤1) (h:At b a n [v]):aQ b (a:Int) 1=.ok v n:=(bn (s:=1) (by omega)).2 ⟨by omega,by rw[UV hv];exact h⟩
theorem aq9 {b:List Nat}{r:Nat}{c:bJ}{q:Bool}(hr:r≤11) (hc:c.Fit) (h:ql r c) {a n:Nat}(ha:At b a n (ou r c q)) :
  aog b (a:Int) r q c.info=.ok (⟨c.gain.toNat,c.info,c.sects,c.steps,c.tns,0,if nF c.tns then 1 else 0⟩,c.lines) n:=by
 have hm11:=iw hr h.info;have hg:=h.gain;obtain⟨n1,k1,ha1⟩:=aT.1 ha;obtain⟨n2,k2,ha2⟩:=aT.1 ha1;obtain⟨n3,k3,ha3⟩:=aT.1 ha2;obtain⟨n4,k4,ha4⟩:=aT.1 ha3;obtain⟨n5,k5,k6⟩:=aT.1 ha4;have e0:aQ b (a:Int) 0=.ok 0 a:=(bn (s:=0) (by omega)).2 ⟨by omega,fb.2 ⟨rfl,(dh ha).1⟩⟩;have e1:aQ b (a:Int) 8=.ok c.gain.toNat n1:=(bn (s:=8) (by omega)).2 ⟨by omega,k1⟩;have e2:(if q then R.ok c.info n1 else pp b n1 r)=.ok c.info n2:=by
  cases q with
  | true=>rw[if_pos rfl]at k2⊢;rw[(fb.1 k2).1]
  | false=>rw[if_neg (by simp)]at k2⊢;exact(aoi hr).2 ⟨h.info,k2⟩
 have e3:nb b c.info (n2:Int)=.ok c.sects n3:=(aoQ hm11 (dh k3).1).2 ⟨h.sects,k3⟩;have e4:qt b c.sects (n3:Int) (c.gain.toNat:Int)=.ok c.steps n4:=by
  rw[show ((c.gain.toNat:Nat):Int)=c.gain by omega];exact(arQ (dh k4).1 (fun l hl=>am1 (h.sects.2 l hl)) hg.1).2 ⟨h.steps,k4⟩
 have e6:=aoT hc h hr (dh k6).1 k6;have hm:¬ (q=true∧¬ c.info.may r):=fun hh=>hh.2 h.info
 unfold aog AL;rw[e0,ak,if_neg hm,e1,ak,e2,ak,e3,ak,e4,ak]
 cases hF:nF c.tns with
 | true =>
  rw[hF]at k5;simp only[if_true]at k5;obtain⟨m1,j1,k5⟩:=aT (X:=[0]) |>.1 k5;obtain⟨m2,j2,k5⟩:=aT (X:=[1]) |>.1 k5;obtain⟨m3,j3,j4⟩:=aT.1 k5;have e5:=(awz (dh j3).1).2 ⟨h.tns,j3⟩;rw[Nj (by omega) j1,ak,Nj (by omega) j2,ak,if_pos rfl,e5,ak,Nj (by omega) j4,ak,ak,e6,ak,if_pos ⟨rfl,fun _=>hF⟩];rfl
 | false =>
  rw[hF]at k5;simp only[Bool.false_eq_true,if_false]at k5;obtain⟨m1,j1,k5⟩:=aT (X:=[0]) |>.1 k5;obtain⟨m2,j2,j4⟩:=aT (X:=[0]) |>.1 k5;have ht:=aty h.tns.1 hF;rw[Nj (by omega) j1,ak,Nj (by omega) j2,ak,if_neg (by omega),ak,Nj (by omega) j4,ak,ak,e6,ak,if_pos ⟨rfl,fun hh=>absurd hh (by simp)⟩,←ht];rfl
theorem aiL:∀ (b:List Nat),ng (af b)=some (b.map Nat.toUInt8)
 | []=>rfl
 | n::r=>by
  have h:af (n::r)=[.int .u8 (.ofNat n)]::af r:=rfl;rw[h,ng,aiL r,List.map_cons]
@[simp] theorem aAP {h:ac}{b:List Nat}:Lm h (.d (.lst (af b)))=some (.str (b.map Nat.toUInt8)):=by
 simp only[Lm,arV,aiL]
def c0:bJ:=⟨0,⟨0,0,0,[1]⟩,[[]],[[]],[[]],List.replicate 256 0⟩
theorem ayh:c0.Fit where
 gain:=by decide
 info:=⟨by decide,by decide,by decide,by decide,by intro n hn;simp[c0]at hn;subst hn;decide⟩
 sects:=⟨by simp[c0],by simp[c0]⟩
 secI:=by simp[c0]
 steps:=⟨by simp[c0],by simp[c0]⟩
 stepI:=by simp[c0]
 tns:=⟨by simp[c0],by simp[c0]⟩
 fltI:=by simp[c0]
 lines:=by simp[c0]
 lineI:=by
  intro n hn;have:=List.eq_of_mem_replicate hn;omega
theorem atT:aO prog dW [.d (.int .i64 0),.agg c0.av]=some (.d (.int .i64 0)):=wV 400 (by kernel_rfl)
theorem aqE (common:Bool):aO prog kq [.nl,.d (.int .i64 0),.agg c0.av,.d (.bool common)]=some (.tup [.own true 1 (af (ou 0 c0 common)),.d (.int .i64 0)]):=by
 rcases anO [] (by simp) .nl (.inr ⟨rfl,rfl⟩) 0 c0 ayh common with ⟨_,_,h⟩ | ⟨e,he,h,_,_⟩
 ·simpa using h
 ·rw[atT]at h;simp at h;omega
theorem awm:aO prog QQ [.d (.int .i64 0),.agg [.d (.int .u8 0),.d (.int .u8 0),.d (.int .i64 0),.d (.lst (ai [1]))]]=some (.tup [.agg [.d (.int .i64 0),.d (.int .u8 0),.d (.int .u8 0),.d (.int .i64 0),.own false 1 (ai [1]),.own false 1 (aC [[]]),.own false 1 (bq [[]]),.own false 1 (bi [[]]),.own false 1 (ai (List.replicate 256 0))],.d (.int .i64 0)]):=wV 400 (by kernel_rfl)
theorem ar3:ou 0 c0 true=List.replicate 11 0:=by decide +kernel
theorem atU:(ou 0 c0 false).length=22:=by decide +kernel
theorem atw:aO prog uI []=some (.agg [.d (.int .u8 0),.d (.int .u8 0),.d (.int .i64 0),.own true 1 (ai [1])]):=wV 100 (by kernel_rfl)
theorem arS:aO prog iO []=some (.d (.bool true)):=by
 have pT:=aqE true;have pF:=aqE false;rw[ar3]at pT;obtain⟨F,hF⟩:∃ F,F=ou 0 c0 false:=⟨_,rfl⟩
 have hl:=atU;rw[←hF]at pF hl;have pz:=awm;have m11:Bw [.int .u8 0] (.d (.int .i64 11)) (.d (.int .i64 11))=some (.own true 1 (af [0,0,0,0,0,0,0,0,0,0,0])):=by kernel_rfl
 obtain⟨Z,hZ⟩:∃ Z:List Int,Z=List.replicate 256 0:=⟨_,rfl⟩
 have a0:c0.av=[.d (.int .i64 0),.d (.int .u8 0),.d (.int .u8 0),.d (.int .i64 0),.d (.lst (ai [1])),.d (.lst (aC [[]])),.d (.lst (bq [[]])),.d (.lst (bi [[]])),.d (.lst (ai Z))]:=by rw[hZ];rfl
 rw[a0]at pT pF;rw[←hZ]at pz;rw[aq F0 lK.eq_1 rfl];simp (maxSteps:=300000) (disch:=omega) [↓if_pos,↓if_neg,atw,pz,pT,pF,hl,m11]
theorem ash {r:Nat}{c:bJ}(hc:c.Fit) (h:ql r c) (hR:r≤11) (q:Bool):(ou r c q).length≤170000000:=by
 have hm11:=iw hR h.info;have hmx:=jx hm11;obtain⟨g1,g2⟩:=cD hm11;have hmm:c.info.many≤8:=by unfold am.many;split<;>omega
 have hgl:c.info.groups.length≤8:=by have:=lk (fun n hn=>(g1 n hn).1);omega
 have hgs:c.sects.length≤8:=by have:=h.sects.1;omega
 have k1:=afm (i:=c.info);have k2:=aeO hm11 h.sects;have k3:=Ma hmx h.sects.2 h.steps;have k4:(fL c.info.short c.tns).length≤1000*c.tns.length:=Bi fun l hl=>abC (h.tns.2 l hl)
 have k5:=Yu hc h hR;have htl:=h.tns.1;have e1:(if q then [] else nZ c.info).length≤20:=by split<;>(try simp only[List.length_nil])<;>omega
 have e2:(if nF c.tns then 0::1::(fL c.info.short c.tns++[0]) else [0,0,0]).length≤10000:=by split<;>simp<;>omega
 unfold ou;simp only[List.length_append,d8];omega
theorem ass (rt:Int) (c:bJ) (hf:aou c→c.Fit) (common:Bool) (bh:List Nat):aO prog qc [.d (.int .i64 rt),.agg c.av,.d (.bool common),.d (.lst (af bh))]=some (.d (.bool true)):=by
 have ha:=arS;have hbl:(af bh).length=bh.length:=eI;rcases aAs c with ⟨hs,hg⟩ | hg
 rotate_left
 ·simp only[bJ.av]at hg⊢;rw[aq gI dg.eq_1 rfl];simp (maxSteps:=300000) (disch:=omega) [↓if_pos,↓if_neg,ha,hg]
 have hc:=hf hs;by_cases hl:bh.length≤10000
 rotate_left
 ·simp only[bJ.av]at hg⊢;rw[aq gI dg.eq_1 rfl];simp (maxSteps:=300000) (disch:=omega) [↓if_pos,↓if_neg,ha,hg]
 rcases anO [] (by simp) .nl (.inr ⟨rfl,rfl⟩) rt c hc common with ⟨hr,h,hp⟩ | ⟨e,he,hC,_,hp⟩
 ·obtain⟨R,rfl⟩:=Int.eq_ofNat_of_zero_le hr.1;simp only[Int.toNat_natCast,List.nil_append]at h hp;have hR:R≤11:=by omega
  have hBl:=ash hc h hR common;have hG:=aw3 (ou R c common++bh) (by rw[List.length_append];omega) 0 (by omega) R hR common c.info hc.info _ (.inl rfl);have hAt:At (ou R c common++bh) 0 (ou R c common).length (ou R c common):=⟨Nat.zero_le _,by omega,bh,rfl⟩
  have hb:=aq9 hR hc h hAt;rw[show ((0:Nat):Int)=0 from rfl]at hb;rw[hb]at hG;have hS:=ao4 c hc;have hg0:((c.gain.toNat:Nat):Int)=c.gain:=by have:=h.gain;omega
  simp only[axz,NI,bJ.av,am.cells,hg0]at hG hg hp hS⊢;have hBB:(af (ou R c common)).length=(ou R c common).length:=eI;generalize ou R c common=B at *;rw[aq gI dg.eq_1 rfl];simp (maxSteps:=300000) (disch:=omega) [↓if_pos,↓if_neg,ha,hg,hp,hG,hS]
 ·simp only[bJ.av]at hg hp hC⊢;rw[aq gI dg.eq_1 rfl];simp (maxSteps:=300000) (disch:=omega) [↓if_pos,↓if_neg,ha,hg,hp,hC,he]
abbrev apart (p q:Nat×Nat):Prop:=p.2+aM p.1≤q.2∨q.2+aM q.1≤p.2
theorem Fk {t:Ty}:∀ {ds:List D},OkDs [t] ds→∃ d,ds=[d]∧lB t d
 | [],h=>by simp[OkDs]at h
 | [d],h=>⟨d,rfl,by simpa [OkDs] using h⟩
 | _::_::_,h=>by simp[OkDs]at h
theorem xb {t:Ty}{ts:List Ty}:∀ {ds:List D},OkDs (t::ts) ds→∃ d r,ds=d::r∧lB t d∧OkDs ts r
 | [],h=>by simp[OkDs]at h
 | d::r,h=>⟨d,r,rfl,by simpa only[OkDs] using h⟩
theorem arI {k:IntKind}:∀ {d:D},lB (.int k) d→∃ n,d=.int k n∧(Lit.int k n).wf=true
 | .int j n,h=>by
  simp only[lB]at h;obtain⟨rfl,h⟩:=h;exact⟨n,rfl,h⟩
 | .bool _,h=>by simp[lB]at h
 | .str _,h=>by simp[lB]at h
 | .lst _,h=>by simp[lB]at h
theorem uc {d:D}(h:lB (.int .i64) d):∃ n,d=.int .i64 n∧i64 n:=by
 obtain⟨n,e,h⟩:=arI h;refine⟨n,e,?_⟩;simp[Lit.wf,IntKind.min,IntKind.max,IntKind.signed,IntKind.bits]at h;omega
theorem aoh {d:D}(h:lB (.int .u8) d):∃ n:Nat,d=.int .u8 n∧n≤255:=by
 obtain⟨n,e,h⟩:=arI h;simp[Lit.wf,IntKind.min,IntKind.max,IntKind.signed,IntKind.bits]at h;refine⟨n.toNat,?_,by omega⟩;rw[e,Int.toNat_of_nonneg h.1]
theorem abc:∀ {d:D},lB .bool d→∃ b,d=.bool b
 | .bool b,_=>⟨b,rfl⟩
 | .int _ _,h=>by simp[lB]at h
 | .str _,h=>by simp[lB]at h
 | .lst _,h=>by simp[lB]at h
theorem XP {es:List Ty}:∀ {d:D},lB (.lst es) d→∃ xs,d=.lst xs∧∀ x∈xs,OkDs es x
 | .lst xs,h=>⟨xs,rfl,by simpa only[lB] using h⟩
 | .int _ _,h=>by simp[lB]at h
 | .str _,h=>by simp[lB]at h
 | .bool _,h=>by simp[lB]at h
theorem GN {α:Type}{es:List Ty}{f:α→List D}{Q:α→Prop}(h1:∀ x,OkDs es x→∃ a,x=f a∧Q a):∀ {xs:List (List D)},(∀ x∈xs,OkDs es x)→∃ l:List α,xs=l.map f∧∀ a∈l,Q a
 | [],_=>⟨[],rfl,by simp⟩
 | x::r,h=>by
  obtain⟨a,rfl,ha⟩:=h1 x (h x (.head _));obtain⟨l,rfl,hl⟩:=GN h1 (xs:=r) fun y hy=>h y (.tail _ hy)
  exact⟨a::l,rfl,fun b hb=>(List.mem_cons.1 hb).elim (fun e=>e▸ha) (hl b)⟩
theorem aaz {d:D}(h:lB (.lst [.int .i64]) d):∃ ns,d=.lst (ai ns)∧∀ n∈ns,i64 n:=by
 obtain⟨xs,rfl,h⟩:=XP h;obtain⟨l,rfl,hl⟩:=GN (f:=fun n=>[.int .i64 n]) (Q:=i64) (fun x hx=>by
  obtain⟨d,rfl,hd⟩:=Fk hx;obtain⟨n,rfl,hn⟩:=uc hd;exact⟨n,rfl,hn⟩) h
 exact⟨l,rfl,hl⟩
def auq:List Ty:=[.int .i64,.int .i64]
def auW:List Ty:=[.int .i64,.int .i64,.bool,.bool,.lst [.int .i64]]
def ail:List Ty:=[.int .i64,.int .u8,.int .u8,.int .i64,.lst [.int .i64],.lst [.lst auq],.lst [.lst [.int .i64]],.lst [.lst auW],.lst [.int .i64]]
theorem ay2 {x:List D}(h:OkDs auq x):∃ s:ao,x=s.cells∧i64 s.book∧i64 s.len:=by
 obtain⟨a,r,rfl,ha,h⟩:=xb h;obtain⟨b,rfl,hb⟩:=Fk h;obtain⟨n,rfl,hn⟩:=uc ha;obtain⟨m,rfl,hm⟩:=uc hb;exact⟨⟨n,m⟩,rfl,hn,hm⟩
theorem azn {x:List D}(h:OkDs auW x):∃ f:aR,x=f.cells∧(i64 f.len∧i64 f.order)∧∀ y∈f.coefs,i64 y:=by
 obtain⟨a,r,rfl,ha,h⟩:=xb h;obtain⟨b,r,rfl,hb,h⟩:=xb h;obtain⟨c,r,rfl,hc,h⟩:=xb h;obtain⟨d,r,rfl,hd,h⟩:=xb h;obtain⟨e,rfl,he⟩:=Fk h;obtain⟨n,rfl,hn⟩:=uc ha;obtain⟨m,rfl,hm⟩:=uc hb;obtain⟨p,rfl⟩:=abc hc;obtain⟨q,rfl⟩:=abc hd;obtain⟨l,rfl,hl⟩:=aaz he;exact⟨⟨n,m,p,q,l⟩,rfl,⟨hn,hm⟩,hl⟩
theorem aeb {α:Type}{es:List Ty}{f:α→List D}{Q:α→Prop}(h1:∀ x,OkDs es x→∃ a,x=f a∧Q a) {d:D}(h:lB (.lst [.lst es]) d):∃ l:List (List α),d=.lst (l.map fun r=>[.lst (r.map f)])∧∀ r∈l,∀ a∈r,Q a:=by
 obtain⟨xs,rfl,h⟩:=XP h;obtain⟨l,rfl,hl⟩:=GN (f:=fun r:List α=>[.lst (r.map f)]) (Q:=fun r=>∀ a∈r,Q a) (fun x hx=>by
  obtain⟨d,rfl,hd⟩:=Fk hx;obtain⟨xs,rfl,h⟩:=XP hd;obtain⟨r,rfl,hr⟩:=GN h1 h;exact⟨r,rfl,hr⟩) h
 exact⟨l,rfl,hl⟩
structure bJ.Rng (c:bJ):Prop where
 gain:i64 c.gain
 seq:c.info.seq≤255
 shape:c.info.shape≤255
 max:i64 c.info.max
 groups:∀ n∈c.info.groups,i64 n
 secI:∀ l∈c.sects,∀ s∈l,i64 s.book∧i64 s.len
 stepI:∀ l∈c.steps,∀ n∈l,i64 n
 fltI:∀ l∈c.tns,∀ f∈l,(i64 f.len∧i64 f.order)∧∀ x∈f.coefs,i64 x
 lineI:∀ n∈c.lines,i64 n
theorem ayL {x:List D}(h:OkDs ail x):∃ c:bJ,x.map .d=c.av∧c.Rng:=by
 obtain⟨a1,r,rfl,h1,h⟩:=xb h;obtain⟨a2,r,rfl,h2,h⟩:=xb h;obtain⟨a3,r,rfl,h3,h⟩:=xb h;obtain⟨a4,r,rfl,h4,h⟩:=xb h;obtain⟨a5,r,rfl,h5,h⟩:=xb h;obtain⟨a6,r,rfl,h6,h⟩:=xb h;obtain⟨a7,r,rfl,h7,h⟩:=xb h;obtain⟨a8,r,rfl,h8,h⟩:=xb h;obtain⟨a9,rfl,h9⟩:=Fk h;obtain⟨n1,rfl,g1⟩:=uc h1;obtain⟨n2,rfl,g2⟩:=aoh h2;obtain⟨n3,rfl,g3⟩:=aoh h3;obtain⟨n4,rfl,g4⟩:=uc h4;obtain⟨l5,rfl,g5⟩:=aaz h5;obtain⟨l6,rfl,g6⟩:=aeb (f:=ao.cells) (fun x hx=>ay2 hx) h6;obtain⟨l7,rfl,g7⟩:=aeb (f:=fun n=>[.int .i64 n]) (Q:=i64) (fun x hx=>by
  obtain⟨d,rfl,hd⟩:=Fk hx;obtain⟨n,rfl,hn⟩:=uc hd;exact⟨n,rfl,hn⟩) h7
 obtain⟨l8,rfl,g8⟩:=aeb (f:=aR.cells) (fun x hx=>azn hx) h8;obtain⟨l9,rfl,g9⟩:=aaz h9;exact⟨⟨n1,⟨n2,n3,n4,l5⟩,l6,l7,l8,l9⟩,rfl,g1,g2,g3,g4,g5,g6,g7,g8,g9⟩
theorem bJ.Rng.fit {c:bJ}(h:c.Rng) (s:aou c):c.Fit where
 gain:=h.gain
 info:=⟨h.seq,h.shape,h.max,by have:=s.groups;omega,h.groups⟩
 sects:=⟨by have:=s.sects.1;omega,fun l hl=>by have:=s.sects.2 l hl;omega⟩
 secI:=h.secI
 steps:=⟨by have:=s.steps.1;omega,fun l hl=>by have:=s.steps.2 l hl;omega⟩
 stepI:=h.stepI
 tns:=⟨by have:=s.tns.1;omega,fun l hl=>⟨by have:=(s.tns.2 l hl).1;omega,fun f hf=>by have:=(s.tns.2 l hl).2 f hf;omega⟩⟩
 fltI:=h.fltI
 lines:=by have:=s.lines;omega
 lineI:=h.lineI
def aGu:List Ty:=[.int .u8,.int .u8,.int .i64,.lst [.int .i64]]
theorem ayX {d:D}(h:lB (.lst [.int .u8]) d):∃ l,d=.lst (af l):=by
 obtain⟨xs,rfl,h⟩:=XP h;obtain⟨l,rfl,hl⟩:=GN (f:=fun n:Nat=>[D.int .u8 (n:Int)]) (Q:=fun n=>n≤255) (fun x hx=>by
  obtain⟨d,rfl,hd⟩:=Fk hx;obtain⟨n,rfl,hn⟩:=aoh hd;exact⟨n,rfl,hn⟩) h
 exact⟨l,rfl⟩
theorem aeD {H:Type}:∀ {ds:List (DataW H)},mM [(false,[.int .i64]),(true,ail),(false,[.bool]),(false,[.lst [.int .u8]])] ds→(∃ d1 d2 d3 d4,ds=[d1,d2,d3,d4])∧∃ (rt:Int) (c:bJ) (q:Bool) (l:List Nat),c.Rng∧CC [(false,[Ty.int .i64]),(true,ail),(false,[.bool]),(false,[.lst [.int .u8]])] ds=[.d (.int .i64 rt),.agg c.av,.d (.bool q),.d (.lst (af l))]
 | [d1,d2,d3,d4],h=>by
  simp only[mM,and_true]at h;obtain⟨h1,h2,h3,h4⟩:=h;obtain⟨x1,e1,h1⟩:=Fk h1;obtain⟨n,rfl,_⟩:=uc h1;obtain⟨c,e2,hc⟩:=ayL h2;obtain⟨x3,e3,h3⟩:=Fk h3;obtain⟨q,rfl⟩:=abc h3;obtain⟨x4,e4,h4⟩:=Fk h4;obtain⟨l,rfl⟩:=ayX h4;refine⟨⟨_,_,_,_,rfl⟩,n,c,q,l,hc,?_⟩;simp only[CC,e1,aik,e2,e3,e4]
 | [],h=>by simp[mM]at h
 | [_],h=>by simp[mM]at h
 | [_,_],h=>by simp[mM]at h
 | [_,_,_],h=>by simp[mM]at h
 | _::_::_::_::_::_,h=>by simp[mM]at h
theorem amy {w:AV}{b:Bool}(e:eM w=.d (.bool b)):w=.d (.bool b):=by
 unfold eM at e;split at e
 ·cases w<;>simp[lD,kG,jG]at e⊢<;>exact e
 ·exact e
theorem at1 {h:ac}{v:AV}{b:Bool}(e:eZ h v=some (.d (.bool b))):v=.d (.bool b):=by
 unfold eZ at e;split at e
 ·split at e
  ·simp only[Option.some.injEq]at e;exact absurd (amy e) (by simp)
  ·simp at e
 ·split at e
  ·rename_i x q hq;simp only[Option.some.injEq]at e;have hx:=amy e;subst hx;unfold dQ at hq;split at hq
   ·split at hq<;>simp at hq
   ·unfold gk at hq;split at hq
    ·simp only[Option.some.injEq,Prod.mk.injEq]at hq;exact hq.1
    ·simp at hq
    ·simp at hq
    ·split at hq
     ·split at hq<;>simp at hq
     ·simp at hq
    ·simp at hq
  ·simp at e
theorem apn {P:Nat→Option ae}{f:FuncId}{as:List AV}{b:Bool}(h:aO P f as=some (.d (.bool b))):∃ m hs,(run P m).call f as ⟨[],0⟩=some (.d (.bool b),hs):=by
 unfold aO at h
 cases hc:(Dn P).call f as ⟨[],0⟩ with
 | none=>rw[hc]at h;simp[mt]at h
 | some q =>
  obtain⟨v,hs⟩:=q;rw[hc]at h;have:=at1 h;subst this;obtain⟨m,hm⟩:=wx hc;exact⟨m,hs,hm⟩
def VP (P:Program) (vf:ae) (f:FuncId):Bool:=auL P vf f || (match vf.body with
 | .clone m=>V8 P m vf f
 | .late i d k a=>aeC P i d k a vf f
 | _=>false)
def T.every (p:Nat→ae→Bool):T→Bool
 | .leaf=>true
 | .node k v a b=>p k v && a.every p && b.every p
theorem T.look_every {p:Nat→ae→Bool}:∀ {t:T}{f:Nat}{vf:ae},t.every p=true→t.look f=some vf→p f vf=true
 | .leaf,_,_,_,h=>by simp[T.look]at h
 | .node k v a b,f,vf,he,h=>by
  simp only[T.every,Bool.and_eq_true]at he;simp only[T.look]at h;split at h
  ·simp_all
  ·split at h
   ·exact T.look_every he.1.2 h
   ·exact T.look_every he.2 h
theorem ak7 {P:Program}{vf:ae}{f:FuncId}(h:VP P vf f=true):auH P vf f:=by
 simp only[VP,Bool.or_eq_true]at h;rcases h with h | h
 ·unfold auL at h;split at h
  ·rename_i fn h1;split at h
   ·rename_i c h2;simp only[Bool.and_eq_true,Nat.ble_eq,bne_iff_ne,ne_eq]at h;obtain⟨⟨⟨k1,k2⟩,k3⟩,k4⟩:=h;exact⟨fn,c,h1,h2,k4,k2,k3,.inl (fu _ _ k1)⟩
   simp_all
  simp_all
 ·split at h
  ·rename_i m hb;unfold V8 at h;split at h
   ·rename_i fn h1;split at h
    ·rename_i c h2;simp only[Bool.and_eq_true,Nat.ble_eq,Nat.beq_eq,bne_iff_ne,ne_eq]at h;obtain⟨⟨⟨⟨⟨⟨k1,k2⟩,k3⟩,k4⟩,k5⟩,k6⟩,k7⟩:=h;exact⟨fn,c,h1,h2,k7,by omega,k3,.inr (.inl ⟨m,hb,k6,k5⟩)⟩
    simp_all
   simp_all
  ·rename_i i d k a hb;unfold aeC at h;split at h
   ·rename_i fn h1;split at h
    ·rename_i c h2;simp only[Bool.and_eq_true,Nat.ble_eq,bne_iff_ne,ne_eq]at h;obtain⟨⟨⟨k1,k2⟩,k3⟩,k4⟩:=h;exact⟨fn,c,h1,h2,k4,k2,k3,.inr (.inr ⟨i,d,k,a,hb,k1⟩)⟩
    simp_all
   simp_all
  simp_all
theorem az8 {P:Program}{t:T}(h:t.every (fun f v=>VP P v f)=true):DL P t.look:=fun f vf hv=>ak7 (T.look_every (p:=fun f v=>VP P v f) h hv)
end Go.Vm
end
