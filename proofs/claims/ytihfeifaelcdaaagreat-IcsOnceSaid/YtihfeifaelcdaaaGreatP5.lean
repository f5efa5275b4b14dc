import Derived.Test.YtihfeifaelcdaaaGreatP4
set_option linter.unusedVariables false
set_option linter.unusedSimpArgs false
noncomputable section
namespace Go.Vm
set_option maxRecDepth 100000
set_option maxHeartbeats 4000000
@[simp] theorem aEx {sh:Bool}:(gY sh)[0]?=some (.d (.int .i64 (bY sh:Int))):=by cases sh<;>rfl
@[simp] theorem aEY {sh:Bool}:(gY sh)[1]?=some (.d (.int .i64 (aL sh:Int))):=by cases sh<;>rfl
@[simp] theorem aEr {sh:Bool}:(gY sh)[2]?=some (.d (.int .i64 (aJ sh:Int))):=by cases sh<;>rfl
@[simp] theorem azR {sh:Bool}:(gY sh).map kM=gY sh:=by cases sh<;>rfl
theorem so {hp:AV→ac}{p N:Nat}(H:Hv hp p) {b:List Nat}(hb:b.length≤900000000) (n:Int) (s:Nat) (hs:s≤31) (h0:0≤n) (h1:n.toNat<2 ^ s) (m:Nat) (hm:m=n.toNat) (sI:Int) (es:sI=s) :
  (Dn prog).call iA [.d (.int .i64 n),.d (.int .i64 sI),.ptr p 0] ⟨hp (.own false 1 (af b)),N⟩=some (.tup [],⟨hp (.own false 1 (af (b++aj m s))),N⟩):=by
 have h31:2 ^ s≤2 ^ 31:=Nat.pow_le_pow_right (by omega) hs;have h:=aew H (N:=N) hb n s hs (by omega) sI es
 simp_all [Int.emod_eq_of_lt]
abbrev axw (sh:Bool) (N:Nat) (f:aV) (v:AV):ac:=[(0,.cells [v]),(2,.cells (gY sh)),(N,.cells f.av)]
theorem aia (sh:Bool) (N:Nat) (hN:3≤N) (f:aV):Hv (axw sh N f) 0:=⟨fun v=>by simp,fun v w=>by simp⟩
theorem Q5 (f:aV):1≤l7 f∧cK f.fine≤4∧3≤cK f.fine∧bL (cN f)≤1:=by
 grind [l7,cK,bL]
theorem axL (sh:Bool) (full:List (List aV)) (i:Int) (l:List aV) (hl:l.length≤100) (k N:Nat) (hN:3≤N) (f:aV) (r:List aV) (hd:l.drop k=f::r) (hf:tK sh f) (hcI:∀ c∈f.coefs,i64 c) (b:List Nat) (hb:b.length≤800000000) :
  (Dn prog).code jH ⟨Sf full i [(52,.d (.lst (bX l))),(53,.d (.int .i64 l.length)),(54,.d (.int .i64 k))],⟨Ri sh (.own false 1 (af b)),N⟩⟩ =
  some (.normal,⟨Sf full i [(52,.d (.lst (bX l))),(53,.d (.int .i64 l.length)),(54,.d (.int .i64 ((k+1:Nat):Int)))],⟨Ri sh (.own false 1 (af (b++lv sh f))),N+1⟩⟩):=by
 have hg:=BM hd;have hlt:=bn hd;obtain⟨⟨l1,l2⟩,⟨o1,o2⟩,c1,d1,c2⟩:=hf;have hlw:qC sh<2 ^ aL sh∧aL sh≤6∧nU sh<2 ^ aJ sh∧aJ sh≤5∧nU sh≤12:=by cases sh<;>decide
 obtain⟨w1,w2,w3,w4,w5⟩:=hlw;have wN1:((2 ^ aL sh:Nat):Int)=2 ^ aL sh:=by simp
 have wN2:((2 ^ aJ sh:Nat):Int)=2 ^ aJ sh:=by simp
 have p1:=so (aia sh N hN f) (N:=N+1) (b:=b) (by omega) f.len (aL sh) (by omega) l1 (by omega) f.len.toNat rfl (aL sh) rfl;have p2:=so (aia sh N hN f) (N:=N+1) (b:=b++aj f.len.toNat (aL sh)) (by simp;omega) f.order (aJ sh) (by omega) o1 (by omega) f.order.toNat rfl (aJ sh) rfl;have n0:N≠0∧N≠1∧N≠2:=by omega
 obtain⟨n0,n1,n2⟩:=n0;have c9:((k+1:Nat):Int)=(k:Int)+1:=rfl;rw[c9,jH.eq_1];by_cases h0:f.order=0
 ·have e:b++lv sh f=b++aj f.len.toNat (aL sh)++aj f.order.toNat (aJ sh):=by grind [lv]
  rw[e];generalize b++aj f.len.toNat (aL sh)++aj f.order.toNat (aJ sh)=B2 at *;generalize b++aj f.len.toNat (aL sh)=B1 at *;simp only[axw,aV.av]at p1 p2;simp (disch:=omega) [↓if_pos,↓if_neg,hg,p1,p2]
 ·have hw:=BC f.fine;obtain⟨q1,q2,q3,q4⟩:=Q5 f;have hcl:f.coefs.length≤100:=by omega
  have hft:=ED f.coefs (by omega) (cK f.fine-1) (by omega);have hh:((2 ^ (cK f.fine-1-1):Nat):Int)=bD f.fine / 2:=by unfold cK bD;grind
  have hwI:(if f.fine=true then (4:Int) else 3)=(cK f.fine:Int):=by grind [cK]
  have hwS:((cK f.fine-1:Nat):Int)=(cK f.fine:Int)-1:=by omega
  have hnr:decide (∀ c∈f.coefs,-(bD f.fine / 2)≤c∧c<bD f.fine / 2)=cN f:=rfl;rw[hh,hnr,hwS]at hft;rw[hwI]at hw;have hb1:=xf f.down;have hb2:=xf (cN f);have e1:(if f.down=true then (1:Int) else 0)=(bL f.down:Int):=by cases f.down<;>rfl
  have e2:(if cN f=true then (1:Int) else 0)=(bL (cN f):Int):=by cases cN f<;>rfl
  rw[e1]at hb1;rw[e2]at hb2;have hbd:bL f.down≤1:=by omega
  have p3:=so (aia sh N hN f) (N:=N+1) (b:=b++aj f.len.toNat (aL sh)++aj f.order.toNat (aJ sh)) (by simp;omega) (bL f.down) 1 (by omega) (by omega) (by omega) (bL f.down) (by simp) 1 rfl;have p4:=so (aia sh N hN f) (N:=N+1) (b:=b++aj f.len.toNat (aL sh)++aj f.order.toNat (aJ sh)++aj (bL f.down) 1) (by simp;omega) (bL (cN f)) 1 (by omega) (by omega) (by omega) (bL (cN f)) (by simp) 1 rfl;have p5:=axU sh full i l k (cN f) (cK f.fine) (by omega) f.coefs hcl hcI (N+1) f.coefs 0 (b++aj f.len.toNat (aL sh)++aj f.order.toNat (aJ sh)++aj (bL f.down) 1++aj (bL (cN f)) 1) rfl (by simp;omega);have c0:((0:Nat):Int)=0:=rfl;have hlc:=eq (l:=f.coefs);have e:b++lv sh f=b++aj f.len.toNat (aL sh)++aj f.order.toNat (aJ sh)++aj (bL f.down) 1++aj (bL (cN f)) 1++kw (cK f.fine-bL (cN f)) f.coefs:=by
   rw[lv,if_neg h0];simp only[List.append_assoc];rfl
  rw[c0]at p5;rw[e];generalize b++aj f.len.toNat (aL sh)++aj f.order.toNat (aJ sh)++aj (bL f.down) 1++aj (bL (cN f)) 1=B4 at *;generalize b++aj f.len.toNat (aL sh)++aj f.order.toNat (aJ sh)=B2 at *;simp (disch:=omega) [↓if_pos,↓if_neg,hg,p1,p2,p3,p4,p5,hw,hft,hb1,hb2,hlc]
theorem aiK {sh:Bool}{f:aV}(hf:tK sh f):(lv sh f).length≤100:=by
 obtain⟨⟨l1,l2⟩,⟨o1,o2⟩,c1,d1,c2⟩:=hf;have hlw:aL sh≤6∧aJ sh≤5∧nU sh≤12:=by cases sh<;>decide
 obtain⟨q1,q2,q3,q4⟩:=Q5 f;have hcw:l7 f≤4:=by unfold l7;omega
 have h1:l7 f*f.coefs.length≤4*f.coefs.length:=Nat.mul_le_mul_right _ hcw
 grind [lv,d9,Yy]
theorem aqr (sh:Bool) (full:List (List aV)) (i:Int) (l:List aV) (hl:l.length≤100):∀ (r:List aV) (k N:Nat) (b:List Nat),l.drop k=r→3≤N→(∀ f∈r,tK sh f∧∀ c∈f.coefs,i64 c)→b.length+100*r.length≤800000000→
  ∃ M,3≤M∧(Dn prog).code (.loop jH) ⟨Sf full i [(52,.d (.lst (bX l))),(53,.d (.int .i64 l.length)),(54,.d (.int .i64 k))],⟨Ri sh (.own false 1 (af b)),N⟩⟩ =
  some (.exit 2,⟨Sf full i [],⟨Ri sh (.own false 1 (af (b++r.flatMap (lv sh)))),M⟩⟩):=by
 intro r
 induction r with
 | nil =>
  intro k N b hd hN hr hb;have hi:=bg hd;refine⟨N,hN,?_⟩;rw[aa jH.eq_1,List.flatMap_nil,List.append_nil];simp (disch:=omega) [↓if_neg]
 | cons f r ih =>
  intro k N b hd hN hr hb;obtain⟨h1,h2⟩:=hr f (.head _);have h3:=aiK h1;obtain⟨M,hM,e⟩:=ih (k+1) (N+1) (b++lv sh f) (aT hd) (by omega) (fun q hq=>hr q (.tail _ hq)) (by grind)
  grind [aa,axL,Gg]
theorem ams {sh:Bool}{l:List aV}(h:lO sh l):(rS sh l).length≤1000:=by
 have hm:ke sh≤3∧bY sh≤2:=by cases sh<;>decide
 have h1:=h.1;unfold rS;rw[List.length_append,d9]
 cases l with
 | nil=>grind
 | cons f0 r =>
  have h2:=h.2 f0 (by simp);have:∀ q:List aV,(∀ f∈q,tK sh f)→(q.flatMap (lv sh)).length≤100*q.length:=by
   intro q
   induction q<;>grind [aiK]
  grind [d9]
theorem azs (i:al) (full:List (List aV)) (hl:full.length≤1000):∀ (r:List (List aV)) (j N:Nat) (b:List Nat),full.drop j=r→3≤N→(∀ l∈r,lO i.short l∧∀ f∈l,∀ c∈f.coefs,i64 c)→b.length+1000*r.length≤700000000→
  ∃ M,(Dn prog).code (.loop jw) ⟨Sf full j [],⟨Ri i.short (.own false 1 (af b)),N⟩⟩ =
  some (.exit 0,⟨[(3,.ptr 0 0)],⟨[(0,.cells [.own false 1 (af (b++fV i.short r))])],M⟩⟩):=by
 intro r
 induction r with
 | nil =>
  intro j N b hd hN hr hb;have hi:=bg hd;refine⟨N,?_⟩;rw[aa jw.eq_1,fV,List.flatMap_nil,List.append_nil];simp (disch:=omega) [↓if_neg]
 | cons l r ih =>
  intro j N b hd hN hr hb;simp only[List.length_cons]at hb;have hg:=DH hd;have hlt:=bn hd;obtain⟨h1,h2⟩:=hr l (.head _);have hwl:=ams h1;have hm:ke i.short≤3∧bY i.short≤2∧ke i.short<2 ^ bY i.short:=by cases i.short<;>decide
  obtain⟨m1,m2,m3⟩:=hm;have hll:=h1.1;have p1:=so (ask i.short) (N:=N) (b:=b) (by omega) l.length (bY i.short) (by omega) (by omega) (by omega) l.length (by simp) (bY i.short) rfl;have c1:((j+1:Nat):Int)=(j:Int)+1:=rfl;have c0:((0:Nat):Int)=0:=rfl
  cases l with
  | nil =>
   have eb:rS i.short []=aj 0 (bY i.short):=by simp[rS]
   obtain⟨M2,hM2,p2⟩:=aqr i.short full j [] (by simp) [] 0 N (b++rS i.short []) rfl hN (by simp) (by grind);obtain⟨M,e⟩:=ih (j+1) M2 (b++rS i.short []) (aT hd) hM2 (fun q hq=>hr q (.tail _ hq)) (by grind);refine⟨M,?_⟩;have ea:b++fV i.short ([]::r)=b++rS i.short []++fV i.short r:=by grind [fV]
   rw[eb]at ea e p2;simp only[List.length_nil,List.flatMap_nil,List.append_nil]at p1 p2;rw[c1]at e;rw[c0]at p1 p2;have n0:bX []=[]:=rfl;rw[n0]at hg p2;rw[ea];generalize b++aj 0 (bY i.short)++fV i.short r=BB at *;generalize b++aj 0 (bY i.short)=B1 at *;simp only[Ri]at p1 p2 e⊢;rw[←e,aa jw.eq_1];simp (disch:=omega) [↓if_pos,↓if_neg,hg,p1,p2]
  | cons f0 r0 =>
   have hgf:=BM (l:=f0::r0) (i:=0) (s:=f0) (r:=r0) rfl;have hb1:=xf f0.fine;have e1:(if f0.fine=true then (1:Int) else 0)=(bL f0.fine:Int):=by cases f0.fine<;>rfl
   rw[e1]at hb1;have hbd:bL f0.fine≤1:=by omega
   have hok:∀ f∈f0::r0,tK i.short f∧∀ c∈f.coefs,i64 c:=fun f hf=>⟨(h1.2 f0 (by simp) f hf).1,h2 f hf⟩
   have p2:=so (ask i.short) (N:=N) (b:=b++aj (f0::r0).length (bY i.short)) (by simp;omega) (bL f0.fine) 1 (by omega) (by omega) (by omega) (bL f0.fine) (by simp) 1 rfl;obtain⟨M2,hM2,p3⟩:=aqr i.short full j (f0::r0) (by omega) (f0::r0) 0 N (b++aj (f0::r0).length (bY i.short)++aj (bL f0.fine) 1) rfl hN hok (by grind [d9]);have eb:b++aj (f0::r0).length (bY i.short)++aj (bL f0.fine) 1++(f0::r0).flatMap (lv i.short)=b++rS i.short (f0::r0):=by grind [rS]
   obtain⟨M,e⟩:=ih (j+1) M2 (b++rS i.short (f0::r0)) (aT hd) hM2 (fun q hq=>hr q (.tail _ hq)) (by grind);refine⟨M,?_⟩;have ea:b++fV i.short ((f0::r0)::r)=b++rS i.short (f0::r0)++fV i.short r:=by grind [fV]
   have hll2:1≤(f0::r0).length:=by simp
   rw[eb]at p3;rw[c1]at e;rw[c0]at p3;rw[ea];generalize b++aj (f0::r0).length (bY i.short)++aj (bL f0.fine) 1=B2 at *;generalize hLL:(f0::r0).length=LL at *;have hfl:(bX (f0::r0)).length=LL:=by simp_all
   obtain⟨hgl,hge⟩:=List.getElem?_eq_some_iff.1 hgf;rw[←e,aa jw.eq_1];simp (disch:=omega) [↓if_pos,↓if_neg,hg,hge,hfl,hb1,p1,p2,p3]
theorem amm (i:al) (f0:aV) (l:List aV) (f:aV) (hf:tK i.short f∧f.fine=f0.fine) (H:ac) (p q M:Nat) (hp:get H p=some (.cells i.cells)) (hq:get H q=some (.cells [.d (.lst (bX (f0::l)))])) (hl:(f0::l).length≤1000000) (hM:Lt H M) :
  (Dn prog).call iV [.agg f.av,.ptr p 0,.ptr q 0] ⟨H,M⟩=some (.d (.bool false),⟨H,M+1⟩):=by
 have e1:=fun o=>pc (o:=o) hM
 have e2:=fun o=>si (o:=o) hM
 have e3:=fun o=>wt (N:=M) (o:=o) hp
 have e4:=fun o=>wt (N:=M) (o:=o) hq
 have e5:=fun o=>Nr (o:=o) hM
 have e6:=ahi i f hf.1;have hfn:=hf.2;have hg:=BM (l:=f0::l) (i:=0) (s:=f0) (r:=l) rfl;rw[aD PH pC.eq_1 rfl];simp only[aV.av,al.cells]at e3 e6⊢
 cases hf2:f0.fine<;>rw[hf2]at hg hfn<;>rw[hfn]at e6⊢<;>
  simp (disch:=omega) [e1,e2,e3,e4,e5,e6,hg]
theorem akY (i:al) (full:List (List aV)) (hl:full.length≤1000):∀ (r:List (List aV)) (j N:Nat) (H:ac),full.drop j=r→get H 0=some (.cells i.cells)→Lt H N→1≤N→(∀ l∈r,lO i.short l)→
  ∃ H2 M,(Dn prog).code (.loop kg) ⟨[(2,.ptr 0 0),(21,.d (.lst (bt full))),(22,.d (.int .i64 full.length)),(23,.d (.int .i64 j))],⟨H,N⟩⟩=some (.exit 0,⟨[],⟨H2,M⟩⟩):=by
 intro r
 induction r with
 | nil =>
  intro j N H hd hH hL hN hr;have hi:=bg hd;refine⟨H,N,?_⟩;rw[aa kg.eq_1];simp (disch:=omega) [↓if_neg]
 | cons l r ih =>
  intro j N H hd hH hL hN hr;have hg:=DH hd;have hlt:=bn hd;have hW:=hr l (.head _);have hm:ke i.short≤3:=by cases i.short<;>decide
  have hll:=hW.1;have e1:=fun o=>pc (o:=o) hL
  have e2:=fun o=>si (o:=o) hL
  have e3:=fun o=>wt (N:=N) (o:=o) hH
  have e4:=fun o o'=>Fq (o:=o) (o':=o') hL
  have hsz:=qm i;have hix:ixV 5 1 false (.agg (gY i.short)) (.d (.int .i64 3))=some (.d (.int .i64 (ke i.short:Int))):=by cases i.short<;>rfl
  have hcf:∃ M,N+1≤M∧(Dn prog).call bS [.d (.lst (bX l)),.fn iV [] [.ptr 0 0,.ptr N 0]] ⟨H++[(N,.cells [.d (.lst (bX l))])],N+1⟩=some (.d (.bool false),⟨H++[(N,.cells [.d (.lst (bX l))])],M⟩):=by
   have h:=wh (.fn iV [] [.ptr 0 0,.ptr N 0]) (fun _=>false) l (by omega) (H++[(N,.cells [.d (.lst (bX l))])]) (N+1) rfl rfl fun f hf M hM=>by
    cases l with
    | nil=>simp at hf
    | cons f0 r0 =>
     have:=amm i f0 r0 f (hW.2 f0 (by simp) f hf) (H++[(N,.cells [.d (.lst (bX (f0::r0)))])]) 0 N M (e3 _) (e2 _) (by omega) (DD (GT hL) hM)
     simp_all
   grind
  obtain⟨M,hM,e5⟩:=hcf;obtain⟨H2,M2,f2⟩:=ih (j+1) M (H++[(N,.cells [.d (.lst (bX l))])]) (aT hd) (e3 _) (DD (GT hL) hM) (by omega) (fun q hq=>hr q (.tail _ hq));refine⟨H2,M2,?_⟩;simp only[al.cells]at e3 hsz;rw[aa kg.eq_1,←f2];simp (disch:=omega) [↓if_pos,↓if_neg,hg,e1,e2,e3,e4,e5,hsz,hix]
theorem af4 (i:al) (hi:i.Fit) (hm:i.may 11) (t:List (List aV)) (ht:NZ i t):aM prog uF [.agg i.cells,.d (.lst (bt t))]=some (.d (.int .i64 0)):=by
 have hw:=jr i hi;have hmm:i.many≤8:=by grind [al.many]
 obtain⟨H2,M,e⟩:=akY i t (by omega) t 0 1 [(0,.cells i.cells)] rfl (by simp) (fun p hp=>by simp_all) (by omega) ht.2;have c0:((0:Nat):Int)=0:=rfl;rw[c0]at e;simp only[al.cells]at hw e;rw[az WF uB.eq_1 rfl];simp (disch:=omega) [↓if_pos,hw,e]
theorem alG (b:List Nat) (hb:b.length≤600000000) (x:AV) (hx:x=.d (.lst (af b))∨x=.nl∧b=[]) (i:al) (hi:i.Fit) (hm:i.may 11) (t:List (List aV)) (ht:NZ i t) (htI:∀ l∈t,∀ f∈l,∀ c∈f.coefs,i64 c):aM prog ya [x,.agg i.cells,.d (.lst (bt t))] =
  some (.tup [.own true 1 (af (b++fV i.short t)),.d (.int .i64 0)]):=by
 have hc:=af4 i hi hm t ht;have hmm:i.many≤8:=by grind [al.many]
 obtain⟨M,e⟩:=azs i t (by omega) t 0 3 b rfl (by omega) (fun l hl=>⟨ht.2 l hl,htI l hl⟩) (by omega);have hcl:aM prog dX [x]=some (.own true 1 (af b)):=by
  refine G9 x b (by omega) ?_;rcases hx with rfl | ⟨rfl,rfl⟩<;>rfl
 have hsz:=qm i;have hl5:(gY i.short).length=5:=by cases i.short<;>rfl
 have hall:(gY i.short).all bJ=true:=by cases i.short<;>rfl
 have hfm:(gY i.short).map kM=gY i.short:=by simp_all
 have c0:((0:Nat):Int)=0:=rfl;rw[c0]at e;simp only[al.cells,Ri,Sf]at hc e hsz;rw[az ahn zn.eq_1 rfl];rcases hx with rfl | ⟨rfl,rfl⟩
 ·simp (disch:=omega) [↓if_pos,↓if_neg,hc,hcl,hsz,hl5,hall,hfm,e]
 ·simp (disch:=omega) [↓if_pos,↓if_neg,hc,hcl,hsz,hl5,hall,hfm,e]
abbrev HT (b:List Nat) (st:RS) (R:ac):ac:=(0,.cells [.d (.lst (af b))])::(2,.cells [.d (.int .i64 (ra st))])::(3,.cells [.d (.int .i64 (re st))])::R
theorem wj (b:List Nat) (s:Int) (st:RS) (R:ac) (N:Nat) (hb:b.length≤1000000000) (ha:st.fit):(Dn prog).call nD [.d (.int .i64 s),.ptr 3 0,.ptr 0 0,.ptr 2 0] ⟨HT b st R,N⟩ =
  some (.d (.int .i64 (sV b st s)),⟨HT b (sN b st s) R,N⟩):=by
 rw[aD Yl ui.eq_1 rfl];obtain⟨a,e⟩:=st;have hf:i64 a:=ha;by_cases he:e=0
 ·subst he;simp (maxSteps:=300000) (disch:=omega) [DQ,ra,re,sV,sN]
 ·simp (maxSteps:=300000) (disch:=omega) [ra,re,sV,sN,he]
def MD (v sz:Nat):Int:=(v:Int)-((v / 2 ^ (sz-1)*2 ^ sz:Nat):Int)
def po (b:List Nat) (sz:Nat):Nat→RS→List Int
 | 0,_=>[]
 | k+1,st=>MD (sV b st sz) sz::po b sz k (sN b st sz)
def ot (b:List Nat) (sz:Nat):Nat→RS→RS
 | 0,st=>st
 | k+1,st=>ot b sz k (sN b st sz)
theorem abg {b:List Nat}{sz:Nat}(hb:b.length≤1000000000):∀ {k:Nat}{st:RS},st.fit→(ot b sz k st).fit
 | 0,_,h=>h
 | _+1,_,h=>by rw[ot];exact abg hb (c7 hb h)
theorem abW {b:List Nat}{sz:Nat}:∀ {k:Nat}{st:RS},(po b sz k st).length=k
 | 0,_=>rfl
 | k+1,st=>by rw[po,List.length_cons,abW]
theorem aDS {q s:Nat}(hq:q≤1) (hs:s≤4):cZ .shl (.d (.int .i64 (q:Int))) (.d (.int .i64 (s:Int)))=some (.int .i64 ((q*2 ^ s:Nat):Int)):=by
 have h:∀ q:Nat,q≤1→∀ s:Nat,s≤4→cZ .shl (.d (.int .i64 (q:Int))) (.d (.int .i64 (s:Int)))=some (.int .i64 ((q*2 ^ s:Nat):Int)):=by
  intro q hq s hs;obtain rfl | rfl:q=0∨q=1:=by omega
  all_goals
   obtain rfl | rfl | rfl | rfl | rfl:s=0∨s=1∨s=2∨s=3∨s=4:=by omega
   all_goals rfl
 exact h q hq s hs
abbrev Kn:AV:=.fn nD [] [.ptr 3 0,.ptr 0 0,.ptr 2 0]
theorem awC (b:List Nat) (hb:b.length≤1000000000) (SZ:Obj) (a0 a1 a2 a3 x6 x13:AV) (y12 y15 y32 y33 y46 y47:D) (nar:Int) (sz ord N M:Nat) (hsz:2≤sz∧sz≤4) (ho:ord≤100) (hN:5≤N):∀ (k j:Nat) (st:RS) (acc:List Int),j+k=ord→acc.length=j→st.fit→
  (Dn prog).code (.loop mj) ⟨[(6,x6),(7,.ptr 2 0),(8,.ptr 3 0),(10,Kn),(11,.ptr 4 0),(12,.d y12),(13,x13),(15,.d y15),(16,.ptr N 0),(17,.d (.int .i64 nar)),(18,.d (.int .i64 sz)),(32,.d y32),(33,.d y33),(46,.d y46),(47,.d y47),(80,.d (.int .i64 ord)),(81,.d (.int .i64 j))],⟨HT b st [(4,SZ),(N,.cells [a0,a1,a2,a3,au 1 (ai acc)])],M⟩⟩ =
  some (.exit 4,⟨[(6,x6),(7,.ptr 2 0),(8,.ptr 3 0),(10,Kn),(11,.ptr 4 0),(12,.d y12),(13,x13),(15,.d y15),(16,.ptr N 0),(17,.d (.int .i64 nar)),(18,.d (.int .i64 sz)),(32,.d y32),(33,.d y33),(46,.d y46),(47,.d y47)],⟨HT b (ot b sz k st) [(4,SZ),(N,.cells [a0,a1,a2,a3,au 1 (ai (acc++po b sz k st))])],M⟩⟩):=by
 obtain⟨n0,n2,n3,n4⟩:N≠0∧N≠2∧N≠3∧N≠4:=by omega
 intro k
 induction k with
 | zero =>
  intro j st acc h1 h2 h3;rw[aa mj.eq_1,po,ot,List.append_nil];simp (maxSteps:=300000) (disch:=omega) [↓if_pos,↓if_neg]
 | succ k ih =>
  intro j st acc h1 h2 h3;have hg:=wj b sz st [(4,SZ),(N,.cells [a0,a1,a2,a3,au 1 (ai acc)])] M hb h3;have hv:=nc (b:=b) (st:=st) (s:=sz);have h5:=ih (j+1) (sN b st sz) (acc++[MD (sV b st sz) sz]) (by omega) (by simp;omega) (c7 hb h3);have c1:((j+1:Nat):Int)=(j:Int)+1:=rfl;have c2:((sz-1:Nat):Int)=(sz:Int)-1:=by omega
  have hla:=eq (l:=acc);simp only[Int.toNat_natCast]at hv;have hp:2 ^ (sz-1)*2=2 ^ sz:=by rw[←Nat.pow_succ];congr 1;omega
  have hp0:=Nat.two_pow_pos (sz-1);have hq:sV b st sz / 2 ^ (sz-1)≤1:=by
   have:sV b st sz / 2 ^ (sz-1)<2:=(Nat.div_lt_iff_lt_mul hp0).2 (by omega);omega
  have hp4:2 ^ sz≤2 ^ 4:=Nat.pow_le_pow_right (by omega) hsz.2;have w1:=an6 (n:=sV b st sz) (k:=sz-1) (by omega);have w2:=aDS hq hsz.2;rw[c2]at w1;have hcf:MD (sV b st sz) sz=(sV b st sz:Int)-((sV b st sz / 2 ^ (sz-1)*2 ^ sz:Nat):Int):=rfl;have hqq:sV b st sz / 2 ^ (sz-1)*2 ^ sz≤16:=by
   have:=Nat.mul_le_mul hq hp4;omega
  rw[c1,List.append_assoc,U2,lJ]at h5;simp only[HT]at hg h5⊢;rw[aa mj.eq_1,po,ot,show acc++MD (sV b st sz) sz::po b sz k (sN b st sz)=acc++([MD (sV b st sz) sz]++po b sz k (sN b st sz)) from rfl,←h5,hcf];clear h5 ih;generalize sV b st sz / 2 ^ (sz-1)*2 ^ sz=Q2 at *;generalize sV b st sz / 2 ^ (sz-1)=Q at *;simp (maxSteps:=300000) (disch:=omega) [↓if_pos,↓if_neg,n0,n2,n3,n4,hg,-gw,-nR,w1,w2]
def Dy (l:List Int) (s:Nat):Bool:=decide (∀ c∈l,-((2 ^ (s-1):Nat):Int)≤c∧c<((2 ^ (s-1):Nat):Int))
def kU (b:List Nat) (x1 x2:Nat) (st:RS):Nat:=sV b (sN b st x1) x2
def pR (b:List Nat) (x1 x2:Nat) (st:RS):RS:=sN b (sN b st x1) x2
def flD (b:List Nat) (x1 x2:Nat) (st:RS):Nat:=sV b (pR b x1 x2 st) 1
def zU (b:List Nat) (x1 x2:Nat) (st:RS):Nat:=sV b (sN b (pR b x1 x2 st) 1) 1
def JG (b:List Nat) (x1 x2:Nat) (st:RS):RS:=sN b (sN b (pR b x1 x2 st) 1) 1
def CI (b:List Nat) (x1 x2:Nat) (fine:Bool) (st:RS):Nat:=cK fine-zU b x1 x2 st
def Gw (b:List Nat) (x1 x2:Nat) (fine:Bool) (st:RS):aV :=
 if kU b x1 x2 st=0 then ⟨sV b st x1,0,false,fine,[]⟩
 else ⟨sV b st x1,kU b x1 x2 st,decide (flD b x1 x2 st=1),fine,po b (CI b x1 x2 fine st) (kU b x1 x2 st) (JG b x1 x2 st)⟩
def DL (b:List Nat) (x1 x2:Nat) (fine:Bool) (st:RS):Bool :=
 if kU b x1 x2 st=0 then false else decide (zU b x1 x2 st=0) && Dy (po b (CI b x1 x2 fine st) (kU b x1 x2 st) (JG b x1 x2 st)) (CI b x1 x2 fine st-1)
def pr (b:List Nat) (x1 x2:Nat) (fine:Bool) (st:RS):RS :=
 if kU b x1 x2 st=0 then pR b x1 x2 st else ot b (CI b x1 x2 fine st) (kU b x1 x2 st) (JG b x1 x2 st)
def ew (b:List Nat) (x1 x2:Nat) (fine:Bool):Nat→Bool→RS→Option (List aV×Bool×RS)
 | 0,o,st=>some ([],o,st)
 | k+1,o,st=>if 12<kU b x1 x2 st∧(pR b x1 x2 st).e=0 then none
  else match ew b x1 x2 fine k (o || DL b x1 x2 fine st) (pr b x1 x2 fine st) with
   | none=>none
   | some q=>some (Gw b x1 x2 fine st::q.1,q.2)
theorem avS {b:List Nat}{x1 x2:Nat}{fine:Bool}{st:RS}(hb:b.length≤1000000000) (h:st.fit):(pr b x1 x2 fine st).fit:=by
 unfold pr;split
 ·exact c7 hb (c7 hb h)
 ·exact abg hb (c7 hb (c7 hb (c7 hb (c7 hb h))))
theorem ay6 {b:List Nat}{st:RS}{s:Int}(h:sV b st s≠0):(sN b st s).e=0:=by
 unfold sV at h
 grind [sN,vO,eO]
abbrev QU (y0 y3 y4:AV) (x1 x2:Nat):Obj:=.cells [y0,.d (.int .i64 x1),.d (.int .i64 x2),y3,y4]
theorem aeG {t:List aV}{f:aV}:bX (t++[f])=bX t++[[.int .i64 f.len,.int .i64 f.order,.bool f.down,.bool f.fine,.lst (ai f.coefs)]]:=by grind [bX]
theorem aww (b:List Nat) (hb:b.length≤1000000000) (y0 y3 y4:AV) (x1 x2:Nat) (hx:x1≤6∧x2≤5) (x6:AV) (fine:Bool) (y32 y33:D) (many:Nat) (hm:many≤3):∀ (k j N:Nat) (o:Bool) (st:RS) (acc:List aV),j+k=many→acc.length=j→st.fit→5≤N→
  ∃ M,N≤M∧(Dn prog).code (.loop cA) ⟨[(6,x6),(7,.ptr 2 0),(8,.ptr 3 0),(10,Kn),(11,.ptr 4 0),(12,.d (.bool o)),(13,au 5 (bX acc)),(15,.d (.bool fine)),(32,.d y32),(33,.d y33),(46,.d (.int .i64 many)),(47,.d (.int .i64 j))],⟨HT b st [(4,QU y0 y3 y4 x1 x2)],N⟩⟩ =
  match ew b x1 x2 fine k o st with
  | none=>some (.ret,⟨[(6,.nl),(7,.ptr 2 0),(8,.ptr 3 0)],⟨[(0,.cells [.d (.lst (af b))]),(2,.cells [.d (.int .i64 0)]),(3,.cells [.d (.int .i64 8)])],M⟩⟩)
  | some (l,o2,st2)=>some (.exit 2,⟨[(6,x6),(7,.ptr 2 0),(8,.ptr 3 0),(10,Kn),(11,.ptr 4 0),(12,.d (.bool o2)),(13,au 5 (bX (acc++l))),(32,.d y32),(33,.d y33)],⟨HT b st2 [(4,QU y0 y3 y4 x1 x2)],M⟩⟩):=by
 intro k
 induction k with
 | zero =>
  intro j N o st acc h1 h2 h3 hN;refine⟨N,Nat.le_refl _,?_⟩;rw[aa cA.eq_1,ew];simp only[List.append_nil];simp (disch:=omega) [↓if_neg]
 | succ k ih =>
  intro j N o st acc h1 h2 h3 hN;obtain⟨n0,n2,n3,n4⟩:N≠0∧N≠2∧N≠3∧N≠4:=by omega
  have f1:=c7 (s:=x1) hb h3;have f2:=c7 (s:=x2) hb f1;have f3:=c7 (s:=1) hb f2;have f4:=c7 (s:=1) hb f3;have g1:=fun R N=>wj b x1 st R N hb h3
  have g2:=fun R N=>wj b x2 (sN b st x1) R N hb f1
  have g3:=fun R N=>wj b 1 (sN b (sN b st x1) x2) R N hb f2
  have g4:=fun R N=>wj b 1 (sN b (sN b (sN b st x1) x2) 1) R N hb f3
  have v1:=nc (b:=b) (st:=st) (s:=x1);have v2:=nc (b:=b) (st:=sN b st x1) (s:=x2);have v3:=nc (b:=b) (st:=sN b (sN b st x1) x2) (s:=1);have v4:=nc (b:=b) (st:=sN b (sN b (sN b st x1) x2) 1) (s:=1);have k1:2 ^ x1≤2 ^ 6:=Nat.pow_le_pow_right (by omega) hx.1;have k2:2 ^ x2≤2 ^ 5:=Nat.pow_le_pow_right (by omega) hx.2;have t1:(1:Int).toNat=1:=rfl;simp only[Int.toNat_natCast,t1]at v1 v2 v3 v4;have hO:kU b x1 x2 st=sV b (sN b st x1) x2:=rfl;have hS:pR b x1 x2 st=sN b (sN b st x1) x2:=rfl;have c1:((j+1:Nat):Int)=(j:Int)+1:=rfl;have hla:=atY (l:=acc);rw[ew,hO,hS];simp only[HT]at g1 g2 g3 g4;by_cases hbad:12<sV b (sN b st x1) x2∧(sN b (sN b st x1) x2).e=0
  ·rw[if_pos hbad];obtain⟨hb1,hb2⟩:=hbad;have hre:re (sN b (sN b st x1) x2)=0:=hb2;refine⟨N+1,by omega,?_⟩;simp only[HT];rw[aa cA.eq_1];simp (disch:=omega) [↓if_pos,↓if_neg,g1,g2,hre]
  ·rw[if_neg hbad];by_cases hO0:sV b (sN b st x1) x2=0
   ·have eF:Gw b x1 x2 fine st=⟨sV b st x1,0,false,fine,[]⟩:=by grind [Gw]
    have eX:DL b x1 x2 fine st=false:=by grind [DL]
    have eN:pr b x1 x2 fine st=sN b (sN b st x1) x2:=by grind [pr]
    rw[eF,eX,eN,Bool.or_false];obtain⟨M,hM,h5⟩:=ih (j+1) (N+1) o (sN b (sN b st x1) x2) (acc++[⟨sV b st x1,0,false,fine,[]⟩]) (by omega) (by simp_all) f2 (by omega);refine⟨M,by omega,?_⟩;have key:(Dn prog).code (.loop cA) ⟨[(6,x6),(7,.ptr 2 0),(8,.ptr 3 0),(10,Kn),(11,.ptr 4 0),(12,.d (.bool o)),(13,au 5 (bX acc)),(15,.d (.bool fine)),(32,.d y32),(33,.d y33),(46,.d (.int .i64 many)),(47,.d (.int .i64 j))],⟨HT b st [(4,QU y0 y3 y4 x1 x2)],N⟩⟩ =
      (Dn prog).code (.loop cA) ⟨[(6,x6),(7,.ptr 2 0),(8,.ptr 3 0),(10,Kn),(11,.ptr 4 0),(12,.d (.bool o)),(13,au 5 (bX (acc++[⟨sV b st x1,0,false,fine,[]⟩]))),(15,.d (.bool fine)),(32,.d y32),(33,.d y33),(46,.d (.int .i64 many)),(47,.d (.int .i64 ((j+1:Nat):Int)))],⟨HT b (sN b (sN b st x1) x2) [(4,QU y0 y3 y4 x1 x2)],N+1⟩⟩:=by
     have n00:ai []=[]:=rfl;simp only[HT,c1,aeG,lJ,n00];clear h5 ih;rw[aa cA.eq_1];simp (disch:=omega) [↓if_pos,↓if_neg,g1,g2,hO0]
    grind
   ·have he:(sN b (sN b st x1) x2).e=0:=ay6 hO0;have hO12:sV b (sN b st x1) x2≤12:=by
     omega
    have hre:re (sN b (sN b st x1) x2)=0:=he;have hw4:3≤cK fine∧cK fine≤4:=by grind [cK]
    have hwide:aM prog jg [.d (.bool fine)]=some (.d (.int .i64 ((cK fine:Nat):Int))):=by grind [BC,cK]
    obtain⟨W,hW⟩:∃ W,W=sV b (sN b (sN b (sN b st x1) x2) 1) 1:=⟨_,rfl⟩
    obtain⟨Dd,hDd⟩:∃ Dd,Dd=sV b (sN b (sN b st x1) x2) 1:=⟨_,rfl⟩
    obtain⟨T4,hT4⟩:∃ T4,T4=sN b (sN b (sN b (sN b st x1) x2) 1) 1:=⟨_,rfl⟩
    obtain⟨sz,hsz⟩:∃ sz,sz=cK fine-W:=⟨_,rfl⟩
    rw[←hW]at v4 g4;rw[←hDd]at v3 g3;rw[←hT4]at g4 f4;have c00:((0:Nat):Int)=0:=rfl;simp only[hre,c00]at g3;have hszI:((cK fine:Nat):Int)-(W:Int)=(sz:Int):=by omega
    have hsz1:(sz:Int)-1=((sz-1:Nat):Int):=by omega
    have hne:kU b x1 x2 st≠0:=by omega
    have eF:Gw b x1 x2 fine st=⟨sV b st x1,sV b (sN b st x1) x2,decide (Dd=1),fine,po b sz (sV b (sN b st x1) x2) T4⟩:=by
     grind [Gw,CI,zU,JG,flD]
    have eX:DL b x1 x2 fine st=(decide (W=0) && Dy (po b sz (sV b (sN b st x1) x2) T4) (sz-1)):=by
     grind [DL,CI,zU,JG]
    have eN:pr b x1 x2 fine st=ot b sz (sV b (sN b st x1) x2) T4:=by
     grind [pr,CI,zU,JG]
    have f5:(ot b sz (sV b (sN b st x1) x2) T4).fit:=abg hb f4;have hcl:=abW (b:=b) (sz:=sz) (k:=sV b (sN b st x1) x2) (st:=T4);have hL0:=fun a0 a2 y46 y47 N M hN=>awC b hb (QU y0 y3 y4 x1 x2) a0 (.d (.int .i64 (sV b (sN b st x1) x2))) a2 (.d (.bool fine)) x6 (au 5 (bX acc)) (.bool o) (.bool fine) y32 y33 y46 y47 W sz (sV b (sN b st x1) x2) N M (by omega) (by omega) hN (sV b (sN b st x1) x2) 0 T4 [] (by omega) rfl f4
    have n00:ai []=[]:=rfl;have c0:((0:Nat):Int)=0:=rfl;simp only[n00,ky,List.nil_append,c0,HT]at hL0;have hDec:decide ((Dd:Int)=1)=decide (Dd=1):=by grind
    rw[eF,eX,eN];generalize sV b (sN b st x1) x2=O at *;obtain⟨CS,hCS⟩:∃ CS,CS=po b sz O T4:=⟨_,rfl⟩
    rw[←hCS]at hL0 hcl;rw[←hCS];obtain⟨M,hM,h5⟩:=ih (j+1) (N+1) (o || (decide (W=0) && Dy CS (sz-1))) (ot b sz O T4) (acc++[⟨sV b st x1,O,decide (Dd=1),fine,CS⟩]) (by omega) (by simp_all) f5 (by omega);refine⟨M,by omega,?_⟩;have hshare:share (au 1 (ai CS))=.d (.lst (ai CS)):=by
     cases CS with
     | nil=>grind
     | cons x r=>rfl
    have key:(Dn prog).code (.loop cA) ⟨[(6,x6),(7,.ptr 2 0),(8,.ptr 3 0),(10,Kn),(11,.ptr 4 0),(12,.d (.bool o)),(13,au 5 (bX acc)),(15,.d (.bool fine)),(32,.d y32),(33,.d y33),(46,.d (.int .i64 many)),(47,.d (.int .i64 j))],⟨HT b st [(4,QU y0 y3 y4 x1 x2)],N⟩⟩ =
      (Dn prog).code (.loop cA) ⟨[(6,x6),(7,.ptr 2 0),(8,.ptr 3 0),(10,Kn),(11,.ptr 4 0),(12,.d (.bool (o || (decide (W=0) && Dy CS (sz-1))))),(13,au 5 (bX (acc++[⟨sV b st x1,O,decide (Dd=1),fine,CS⟩]))),(15,.d (.bool fine)),(32,.d y32),(33,.d y33),(46,.d (.int .i64 many)),(47,.d (.int .i64 ((j+1:Nat):Int)))],⟨HT b (ot b sz O T4) [(4,QU y0 y3 y4 x1 x2)],N+1⟩⟩:=by
     simp only[HT,c1,aeG,lJ];clear h5 ih;have hfit:=ED CS (by omega) (sz-1) (by omega);have hfit2:aM prog jW [.d (.lst (ai CS)),.d (.int .i64 ((sz-1:Nat):Int))]=some (.d (.bool (Dy CS (sz-1)))):=hfit;rw[aa cA.eq_1];obtain⟨B1,hB1⟩:∃ B1,B1=decide (Dd=1):=⟨_,rfl⟩
     rw[←hB1]
     cases o with
     | true =>
      by_cases hD1:Dd=1
      ·rw[hB1,decide_eq_true hD1];simp (disch:=omega) [↓if_pos,↓if_neg,g1,g2,g3,g4,hre,hwide,hszI,hL0]
      ·rw[hB1,decide_eq_false hD1];simp (disch:=omega) [↓if_pos,↓if_neg,g1,g2,g3,g4,hre,hwide,hszI,hL0]
     | false =>
      by_cases hW0:W=0
      ·rw[decide_eq_true hW0];by_cases hD1:Dd=1
       ·rw[hB1,decide_eq_true hD1];simp (disch:=omega) [↓if_pos,↓if_neg,g1,g2,g3,g4,hre,hwide,hszI,hL0,hshare,hsz1,hfit2]
       ·rw[hB1,decide_eq_false hD1];simp (disch:=omega) [↓if_pos,↓if_neg,g1,g2,g3,g4,hre,hwide,hszI,hL0,hshare,hsz1,hfit2]
      ·rw[decide_eq_false hW0];by_cases hD1:Dd=1
       ·rw[hB1,decide_eq_true hD1];simp (disch:=omega) [↓if_pos,↓if_neg,g1,g2,g3,g4,hre,hwide,hszI,hL0]
       ·rw[hB1,decide_eq_false hD1];simp (disch:=omega) [↓if_pos,↓if_neg,g1,g2,g3,g4,hre,hwide,hszI,hL0]
    grind
def ML (b:List Nat) (x0:Nat) (st:RS):Bool:=decide (0<sV b st x0) && decide (sV b (sN b st x0) 1=1)
def vH (b:List Nat) (x0:Nat) (st:RS):RS:=if 0<sV b st x0 then sN b (sN b st x0) 1 else sN b st x0
def jT (b:List Nat) (x0 x1 x2:Nat):Nat→Bool→RS→Option (List (List aV)×Bool×RS)
 | 0,o,st=>some ([],o,st)
 | k+1,o,st=>match ew b x1 x2 (ML b x0 st) (sV b st x0) o (vH b x0 st) with
  | none=>none
  | some q=>match jT b x0 x1 x2 k q.2.1 q.2.2 with
   | none=>none
   | some w=>some (q.1::w.1,w.2)
theorem ao3 {t:List (List aV)}{l:List aV}:bt (t++[l])=bt t++[[.lst (bX l)]]:=by simp[bt]
theorem amy {b:List Nat}{x0:Nat}{st:RS}(hb:b.length≤1000000000) (h:st.fit):(vH b x0 st).fit:=by
 unfold vH;split
 ·exact c7 hb (c7 hb h)
 ·exact c7 hb h
theorem RB {b:List Nat}{x1 x2:Nat}{fine:Bool}(hb:b.length≤1000000000):∀ {k:Nat}{o:Bool}{st:RS}{l:List aV}{o2:Bool}{st2:RS},st.fit→ew b x1 x2 fine k o st=some (l,o2,st2)→st2.fit∧l.length=k
 | 0,o,st,l,o2,st2,h,e=>by
  rw[ew]at e;injection e with e
  injection e with e1 e
  injection e with e2 e3
  subst e1 e3;exact⟨h,rfl⟩
 | k+1,o,st,l,o2,st2,h,e=>by
  rw[ew]at e;split at e
  ·exact absurd e (by simp)
  ·cases hq:ew b x1 x2 fine k (o || DL b x1 x2 fine st) (pr b x1 x2 fine st) with
   | none=>rw[hq]at e;exact absurd e (by simp)
   | some q =>
    obtain⟨q1,q2,q3⟩:=q;rw[hq]at e;injection e with e
    injection e with e1 e
    injection e with e2 e3
    obtain⟨i1,i2⟩:=RB hb (avS hb h) hq;subst e1 e3;exact⟨i1,by simp[i2]⟩
theorem avV (b:List Nat) (hb:b.length≤1000000000) (y3 y4:AV) (x0 x1 x2:Nat) (hx:x0≤2∧x1≤6∧x2≤5) (many:Nat) (hm:many≤8):∀ (k j N:Nat) (o:Bool) (st:RS) (acc:List (List aV)),j+k=many→acc.length=j→st.fit→5≤N→
  ∃ M,N≤M∧(Dn prog).code (.loop eW) ⟨[(6,au 1 (bt acc)),(7,.ptr 2 0),(8,.ptr 3 0),(10,Kn),(11,.ptr 4 0),(12,.d (.bool o)),(32,.d (.int .i64 many)),(33,.d (.int .i64 j))],⟨HT b st [(4,QU (.d (.int .i64 x0)) y3 y4 x1 x2)],N⟩⟩ =
  match jT b x0 x1 x2 k o st with
  | none=>some (.ret,⟨[(6,.nl),(7,.ptr 2 0),(8,.ptr 3 0)],⟨[(0,.cells [.d (.lst (af b))]),(2,.cells [.d (.int .i64 0)]),(3,.cells [.d (.int .i64 8)])],M⟩⟩)
  | some (t,o2,st2)=>some (.exit 0,⟨[(6,au 1 (bt (acc++t))),(7,.ptr 2 0),(8,.ptr 3 0),(12,.d (.bool o2))],⟨HT b st2 [],M⟩⟩):=by
 intro k
 induction k with
 | zero =>
  intro j N o st acc h1 h2 h3 hN;refine⟨N,Nat.le_refl _,?_⟩;rw[aa eW.eq_1,jT];simp only[List.append_nil];simp (maxSteps:=300000) (disch:=omega) [↓if_pos,↓if_neg]
 | succ k ih =>
  intro j N o st acc h1 h2 h3 hN;have f1:=c7 (s:=x0) hb h3;have g1:=fun R N=>wj b x0 st R N hb h3
  have g2:=fun R N=>wj b 1 (sN b st x0) R N hb f1
  have v1:=nc (b:=b) (st:=st) (s:=x0);have v2:=nc (b:=b) (st:=sN b st x0) (s:=1);have k1:2 ^ x0≤2 ^ 2:=Nat.pow_le_pow_right (by omega) hx.1;have t1:(1:Int).toNat=1:=rfl;simp only[Int.toNat_natCast,t1]at v1 v2;have c1:((j+1:Nat):Int)=(j:Int)+1:=rfl;have c0:((0:Nat):Int)=0:=rfl;have n00:bX []=[]:=rfl;have hla:=afz (t:=acc);have hfs:=amy (x0:=x0) hb h3;obtain⟨M1,hM1,hL1⟩:=aww b hb (.d (.int .i64 x0)) y3 y4 x1 x2 hx.2 (au 1 (bt acc)) (ML b x0 st) (.int .i64 many) (.int .i64 j) (sV b st x0) (by omega) (sV b st x0) 0 N o (vH b x0 st) [] (by omega) rfl hfs hN;have hF:ML b x0 st=(decide (0<sV b st x0) && decide (sV b (sN b st x0) 1=1)):=rfl;have hS:vH b x0 st=if 0<sV b st x0 then sN b (sN b st x0) 1 else sN b st x0:=rfl
  rw[jT];simp only[HT,c0,n00,ky,List.nil_append]at g1 g2 hL1
  cases hfl:ew b x1 x2 (ML b x0 st) (sV b st x0) o (vH b x0 st) with
  | none =>
   rw[hfl]at hL1;refine⟨M1,hM1,?_⟩;simp only[HT];rw[aa eW.eq_1];rw[hF,hS]at hL1;by_cases hp:0<sV b st x0
   ·rw[if_pos hp,decide_eq_true hp,Bool.true_and]at hL1;by_cases hd:sV b (sN b st x0) 1=1
    ·rw[decide_eq_true hd]at hL1;simp (maxSteps:=300000) (disch:=omega) [↓if_pos,↓if_neg,g1,g2,hL1]
    ·rw[decide_eq_false hd]at hL1;simp (maxSteps:=300000) (disch:=omega) [↓if_pos,↓if_neg,g1,g2,hL1]
   ·have h0:sV b st x0=0:=by omega
    rw[if_neg hp,decide_eq_false hp,Bool.false_and,h0,c0]at hL1;simp (maxSteps:=300000) (disch:=omega) [↓if_pos,↓if_neg,g1,g2,h0,hL1]
  | some q =>
   obtain⟨l,o2,st2⟩:=q;rw[hfl]at hL1;obtain⟨i1,i2⟩:=RB hb hfs hfl;obtain⟨M,hM,h5⟩:=ih (j+1) M1 o2 st2 (acc++[l]) (by omega) (by simp;omega) i1 (by omega);refine⟨M,by omega,?_⟩;have key:(Dn prog).code (.loop eW) ⟨[(6,au 1 (bt acc)),(7,.ptr 2 0),(8,.ptr 3 0),(10,Kn),(11,.ptr 4 0),(12,.d (.bool o)),(32,.d (.int .i64 many)),(33,.d (.int .i64 j))],⟨HT b st [(4,QU (.d (.int .i64 x0)) y3 y4 x1 x2)],N⟩⟩ =
     (Dn prog).code (.loop eW) ⟨[(6,au 1 (bt (acc++[l]))),(7,.ptr 2 0),(8,.ptr 3 0),(10,Kn),(11,.ptr 4 0),(12,.d (.bool o2)),(32,.d (.int .i64 many)),(33,.d (.int .i64 ((j+1:Nat):Int)))],⟨HT b st2 [(4,QU (.d (.int .i64 x0)) y3 y4 x1 x2)],M1⟩⟩:=by
    simp only[HT,c1,ao3,lJ];clear h5 ih;rw[hF,hS]at hL1;rw[aa eW.eq_1];by_cases hp:0<sV b st x0
    ·rw[if_pos hp,decide_eq_true hp,Bool.true_and]at hL1;by_cases hd:sV b (sN b st x0) 1=1
     ·rw[decide_eq_true hd]at hL1;simp (maxSteps:=300000) (disch:=omega) [↓if_pos,↓if_neg,g1,g2,hL1]
     ·rw[decide_eq_false hd]at hL1;simp (maxSteps:=300000) (disch:=omega) [↓if_pos,↓if_neg,g1,g2,hL1]
    ·have h0:sV b st x0=0:=by omega
     rw[if_neg hp,decide_eq_false hp,Bool.false_and,h0,c0]at hL1;simp (maxSteps:=300000) (disch:=omega) [↓if_pos,↓if_neg,g1,g2,h0,hL1]
   rw[key,h5];simp only
   cases jT b x0 x1 x2 k o2 st2 with
   | none=>rfl
   | some w =>
    obtain⟨t,o3,st3⟩:=w;simp only[List.append_assoc,List.cons_append,List.nil_append]
def x0T (sh:Bool):Nat:=if sh then 1 else 2
def x1T (sh:Bool):Nat:=if sh then 4 else 6
def x2T (sh:Bool):Nat:=if sh then 3 else 5
def Uj (b:List Nat) (i:al) (a:Int):Option (List (List aV)×Bool×RS):=jT b (x0T i.short) (x1T i.short) (x2T i.short) i.many false ⟨a,0⟩
def Ir (b:List Nat) (i:al) (a:Int):R (List (List aV)) :=
 match Uj b i a with
 | none=>.er 7
 | some (t,o,st)=>if st.e≠0 then .er (st.e-1) else if o then .er 7 else .ok t st.a.toNat
theorem U3 {b:List Nat}{x1 x2:Nat}{fine:Bool}:∀ {k:Nat}{o:Bool}{st:RS}{l:List aV}{o2:Bool}{st2:RS},ew b x1 x2 fine k o st=some (l,o2,st2)→l.length=k∧∀ f∈l,f.coefs.length≤12
 | 0,o,st,l,o2,st2,e=>by
  rw[ew]at e;injection e with e
  injection e with e1 e
  subst e1;exact⟨rfl,by simp⟩
 | k+1,o,st,l,o2,st2,e=>by
  rw[ew]at e;split at e
  ·exact absurd e (by simp)
  ·rename_i hbad
   cases hq:ew b x1 x2 fine k (o || DL b x1 x2 fine st) (pr b x1 x2 fine st) with
   | none=>rw[hq]at e;exact absurd e (by simp)
   | some q =>
    obtain⟨q1,q2,q3⟩:=q;rw[hq]at e;injection e with e
    injection e with e1 e
    obtain⟨i1,i2⟩:=U3 hq;subst e1;refine⟨by simp[i1],fun f hf=>?_⟩;rcases List.mem_cons.1 hf with rfl | hf
    ·unfold Gw;split
     ·simp
     ·rename_i h0;simp only[abW];have he:(pR b x1 x2 st).e=0:=ay6 h0;rcases Nat.lt_or_ge 12 (kU b x1 x2 st) with h | h
      ·exact absurd ⟨h,he⟩ hbad
      ·exact h
    ·exact i2 f hf
theorem VQ {b:List Nat}{x0 x1 x2:Nat}(hb:b.length≤1000000000) (h2:x0≤2):∀ {k:Nat}{o:Bool}{st:RS}{t:List (List aV)}{o2:Bool}{st2:RS},st.fit→jT b x0 x1 x2 k o st=some (t,o2,st2)→st2.fit∧t.length=k∧∀ l∈t,l.length≤3∧∀ f∈l,f.coefs.length≤12
 | 0,o,st,t,o2,st2,h,e=>by
  rw[jT]at e;injection e with e
  injection e with e1 e
  injection e with e2 e3
  subst e1 e3;exact⟨h,rfl,by simp⟩
 | k+1,o,st,t,o2,st2,h,e=>by
  rw[jT]at e
  cases hq:ew b x1 x2 (ML b x0 st) (sV b st x0) o (vH b x0 st) with
  | none=>rw[hq]at e;exact absurd e (by simp)
  | some q =>
   obtain⟨q1,q2,q3⟩:=q;rw[hq]at e;simp only at e
   cases hw:jT b x0 x1 x2 k q2 q3 with
   | none=>rw[hw]at e;exact absurd e (by simp)
   | some w =>
    obtain⟨w1,w2,w3⟩:=w;rw[hw]at e;injection e with e
    injection e with e1 e
    injection e with e2 e3
    obtain⟨f1,f2⟩:=RB hb (amy hb h) hq;obtain⟨i1,i2,i3⟩:=VQ hb h2 f1 hw;obtain⟨j1,j2⟩:=U3 hq;have v1:=nc (b:=b) (st:=st) (s:=x0);have k1:2 ^ x0≤2 ^ 2:=Nat.pow_le_pow_right (by omega) h2;simp only[Int.toNat_natCast]at v1;subst e1 e3;refine⟨i1,by simp[i2],fun l hl=>?_⟩;rcases List.mem_cons.1 hl with rfl | hl
    ·exact⟨by omega,j2⟩
    ·exact i3 l hl
abbrev pTn (b:List Nat) (i:al) (t:List (List aV)) (n:Nat):Prop:=t.length=i.many∧n≤b.length∧∀ l∈t,l.length≤3∧∀ f∈l,f.coefs.length≤12
theorem atq {h:ac}{t:List (List aV)}{n e:Int}(ht:t≠[]):eE h (.tup [au 1 (bt t),.d (.int .i64 n),.d (.int .i64 e)])=some (.tup [au 1 (bt t),.d (.int .i64 n),.d (.int .i64 e)]):=by
 cases t with
 | nil=>exact absurd rfl ht
 | cons x r=>rfl
def RS.inB (b:List Nat) (st:RS):Prop:=0≤st.a∧st.a≤b.length
theorem xj {b:List Nat}{st:RS}{s:Int}(h:st.e=0∨st.inB b):(sN b st s).inB b:=by
 unfold sN;split
 ·have:=aph (b:=b) (a:=st.a) (s:=s);show 0≤_∧_;simp only[];omega
 ·rename_i he;exact h.resolve_left he
theorem ap1 {b:List Nat}{sz:Nat}:∀ {k:Nat}{st:RS},st.inB b→(ot b sz k st).inB b
 | 0,_,h=>h
 | _+1,_,h=>by rw[ot];exact ap1 (xj (.inr h))
theorem axO {b:List Nat}{x1 x2:Nat}{fine:Bool}{st:RS}(h:st.inB b):(pr b x1 x2 fine st).inB b:=by
 unfold pr;split
 ·exact xj (.inr (xj (.inr h)))
 ·exact ap1 (xj (.inr (xj (.inr (xj (.inr (xj (.inr h))))))))
theorem anj {b:List Nat}{x1 x2:Nat}{fine:Bool}:∀ {k:Nat}{o:Bool}{st:RS}{l:List aV}{o2:Bool}{st2:RS},st.inB b→ew b x1 x2 fine k o st=some (l,o2,st2)→st2.inB b
 | 0,o,st,l,o2,st2,h,e=>by
  rw[ew]at e;injection e with e
  injection e with e1 e
  injection e with e2 e3
  subst e3;exact h
 | k+1,o,st,l,o2,st2,h,e=>by
  rw[ew]at e;split at e
  ·exact absurd e (by simp)
  ·cases hq:ew b x1 x2 fine k (o || DL b x1 x2 fine st) (pr b x1 x2 fine st) with
   | none=>rw[hq]at e;exact absurd e (by simp)
   | some q =>
    obtain⟨q1,q2,q3⟩:=q;rw[hq]at e;injection e with e
    injection e with e1 e
    injection e with e2 e3
    subst e3;exact anj (axO h) hq
theorem axu {b:List Nat}{x0:Nat}{st:RS}(h:st.e=0∨st.inB b):(vH b x0 st).inB b:=by
 unfold vH;split
 ·exact xj (.inr (xj h))
 ·exact xj h
theorem abz {b:List Nat}{x0 x1 x2:Nat}:∀ {k:Nat}{o:Bool}{st:RS}{t:List (List aV)}{o2:Bool}{st2:RS},st.inB b∨(st.e=0∧1≤k)→jT b x0 x1 x2 k o st=some (t,o2,st2)→st2.inB b
 | 0,o,st,t,o2,st2,h,e=>by
  rw[jT]at e;injection e with e
  injection e with e1 e
  injection e with e2 e3
  subst e3;rcases h with h | ⟨_,h⟩
  ·exact h
  ·omega
 | k+1,o,st,t,o2,st2,h,e=>by
  rw[jT]at e
  cases hq:ew b x1 x2 (ML b x0 st) (sV b st x0) o (vH b x0 st) with
  | none=>rw[hq]at e;exact absurd e (by simp)
  | some q =>
   obtain⟨q1,q2,q3⟩:=q;rw[hq]at e;simp only at e
   cases hw:jT b x0 x1 x2 k q2 q3 with
   | none=>rw[hw]at e;exact absurd e (by simp)
   | some w =>
    obtain⟨w1,w2,w3⟩:=w;rw[hw]at e;injection e with e
    injection e with e1 e
    injection e with e2 e3
    subst e3;have h0:st.e=0∨st.inB b:=by rcases h with h | ⟨h,_⟩;exact .inr h;exact .inl h
    exact abz (.inl (anj (axu h0) hq)) hw
theorem qb (i:al):1≤i.many∧i.many≤8:=by unfold al.many;split<;>omega
theorem apL {b:List Nat}{i:al}{a:Int}(hb:b.length≤1000000000) (ha:i64 a) {t:List (List aV)}{n:Nat}(h:Ir b i a=.ok t n):pTn b i t n:=by
 rw[Ir]at h
 cases hq:Uj b i a with
 | none=>rw[hq]at h;exact absurd h (by simp)
 | some q =>
  obtain⟨t',o,st⟩:=q;rw[hq]at h;simp only at h;rw[Uj]at hq;obtain⟨j1,j2,j3⟩:=VQ (st:=⟨a,0⟩) hb (by unfold x0T;split<;>omega) (show RS.fit ⟨a,0⟩ from ha) hq;have j4:=abz (.inr ⟨rfl,(qb i).1⟩) hq;split at h
  ·exact absurd h (by simp)
  ·split at h
   ·exact absurd h (by simp)
   ·injection h with g1 g2
    subst g1 g2;obtain⟨k1,k2⟩:=j4;exact⟨j2,by omega,j3⟩
theorem alg (b:List Nat) (hb:b.length≤1000000000) (a:Int) (ha:i64 a) (i:al) (hi:i.Fit) (hm:i.may 11):aM prog yv [.d (.lst (af b)),.d (.int .i64 a),.agg i.cells] =
  rK (pTn b i) (Ir b i a) (fun t n=>some (.tup [au 1 (bt t),.d (.int .i64 n),.d (.int .i64 0)])) (fun e=>some (.tup [.nl,.d (.int .i64 0),.d (.int .i64 (e+1))])):=by
 have hw:=jr i hi;rw[if_pos hm]at hw;have hsz:=qm i;obtain⟨m1,m8⟩:=qb i;obtain⟨M,hM,hL⟩:=avV b hb (.d (.int .i64 (if i.short then 1 else 3))) (.d (.int .i64 (if i.short then 7 else 12))) (x0T i.short) (x1T i.short) (x2T i.short) (by unfold x0T x1T x2T;cases i.short<;>decide) i.many m8 i.many 0 5 false ⟨a,0⟩ [] (by omega) rfl ha (Nat.le_refl _);have c0:((0:Nat):Int)=0:=rfl;have n0:bt []=[]:=rfl;have hq0:jT b (x0T i.short) (x1T i.short) (x2T i.short) i.many false ⟨a,0⟩=Uj b i a:=rfl;have hra:ra ⟨a,0⟩=a:=rfl;have hre:re ⟨a,0⟩=0:=rfl;rw[hq0]at hL;simp only[c0,n0,ky,List.nil_append,HT,hra,hre]at hL;have hszv:gY i.short=[.d (.int .i64 (x0T i.short:Nat)),.d (.int .i64 (x1T i.short:Nat)),.d (.int .i64 (x2T i.short:Nat)),.d (.int .i64 (if i.short then 1 else 3)),.d (.int .i64 (if i.short then 7 else 12))]:=by
  cases i.short<;>rfl
 rw[hszv]at hsz;have hp:=fun t n=>apL (b:=b) (i:=i) (a:=a) (t:=t) (n:=n) hb ha
 have hin0:∀ t o st,Uj b i a=some (t,o,st)→st.inB b:=fun t o st h=>abz (.inr ⟨rfl,m1⟩) h
 rw[Ir]at hp⊢;rw[az age yM.eq_1 rfl];simp only[al.cells]at hw hsz⊢;generalize x0T i.short=X0 at *;generalize x1T i.short=X1 at *;generalize x2T i.short=X2 at *;generalize (if i.short then (1:Int) else 3)=Y3 at *;generalize (if i.short then (7:Int) else 12)=Y4 at *
 cases hq:Uj b i a with
 | none =>
  rw[hq]at hL;simp only at hL⊢;rw[eK];simp (maxSteps:=300000) (disch:=omega) [↓if_pos,↓if_neg,hw,hsz,hL]
 | some q =>
  obtain⟨t,o,st⟩:=q;rw[hq]at hL hp;simp only at hL hp⊢;obtain⟨sa,se⟩:=st;by_cases he:se=0
  ·subst he;have hin:=hin0 t o ⟨sa,0⟩ hq;obtain⟨k1,k2⟩:=hin;simp only at k1 k2;obtain⟨A,rfl⟩:=Int.eq_ofNat_of_zero_le k1;have hra2:ra ⟨(A:Int),0⟩=(A:Int):=rfl;have hre2:re ⟨(A:Int),0⟩=0:=rfl;simp only[hra2,hre2,c0]at hL
   cases o with
   | true =>
    simp only[ne_eq,not_true_eq_false,if_false,if_true]at hp⊢;rw[eK];simp (maxSteps:=300000) (disch:=omega) [↓if_pos,↓if_neg,hw,hsz,hL]
   | false =>
    simp only[ne_eq,not_true_eq_false,if_false,Bool.false_eq_true]at hp⊢;have hpt:=hp t _ rfl;have htn:t≠[]:=fun h=>by rw[h]at hpt;have:=hpt.1;simp at this;omega
    rw[cu hpt];have hrt:=fun h n e=>atq (h:=h) (n:=n) (e:=e) htn
    simp (maxSteps:=300000) (disch:=omega) [↓if_pos,↓if_neg,hw,hsz,hL,-VY,hrt]
  ·have hre2:re ⟨sa,se⟩=se:=rfl;have hse:((se-1:Nat):Int)+1=(se:Int):=by omega
   simp only[hre2]at hL;simp only[ne_eq,he,not_false_eq_true,if_true]at hp⊢;rw[eK,hse];simp (maxSteps:=300000) (disch:=omega) [↓if_pos,↓if_neg,hw,hsz,hL,he]
abbrev rV:List AV:=[.ptr 0 0,.ptr 5 0,.ptr 4 0,.ptr 6 0]
abbrev akz:AV:=.fn wZ [] [.ptr 0 0,.ptr 5 0,.ptr 6 0]
abbrev nG:List AV:=[.fn mK [] rV,.fn gJ [] [.ptr 3 0,.ptr 4 0,.ptr 2 0,.ptr 0 0,.ptr 5 0,.ptr 1 0,.ptr 6 0],.fn mJ [] rV,.fn mH [] rV,.fn mO [] [.ptr 9 0,.ptr 7 0],.fn mR [] [.ptr 9 0,.ptr 8 0],.fn gO [] [.ptr 8 0,.ptr 0 0,.ptr 5 0,.ptr 4 0,.ptr 6 0],.fn mG [] [.ptr 7 0,.ptr 9 0]]
abbrev cb (b:List Nat) (r:Int) (q:Bool) (iv cs:List AV) (nx e od is:Int):ac:=[(0,.cells [.d (.lst (af b))]),(1,.cells [.d (.int .i64 r)]),(2,.cells [.d (.bool q)]),(3,.cells iv),(4,.cells cs),(5,.cells [.d (.int .i64 nx)]),(6,.cells [.d (.int .i64 e)]),(7,.cells [.d (.int .i64 od)]),(8,.cells [.d (.int .i64 is)]),(9,.cells [akz]),(10,.cells nG)]
theorem atD {m:Nat}{xs:List (List D)}:tP (share (au m xs))=share (au m xs):=by cases xs<;>rfl
theorem ah1 (x:AV) (l:List Int) (hl:l.length≤1000000000) (hx:elems [] x=some (ai l)):aM prog mX [x]=some (.own true 1 (ai l)):=by
 have hl2:(ai l).length=l.length:=eq;rw[az Ka mW.eq_1 rfl];have h4:Nat.ble l.length 4294967296=true:=by rw[Nat.ble_eq];omega
 rw[dZ];simp (maxSteps:=300000) (disch:=omega) [bj,FN,hx,h4]
theorem aeN (i:al) (hi:i.groups.length≤1000000):aM prog pV [.agg i.cells]=some (.agg (Sg i)):=by
 have h:=ah1 (.d (.lst (ai i.groups))) i.groups (by omega) rfl;simp only[al.cells];rw[az alw E1.eq_1 rfl];simp (maxSteps:=300000) (disch:=omega) [↓if_pos,↓if_neg,h]
abbrev zI:List AV:=[.d (.int .u8 0),.d (.int .u8 0),.d (.int .i64 0),.nl]
theorem aoP:aM prog pV [.agg zI]=some (.agg (Sg ⟨0,0,0,[]⟩)):=sn 400 (by kernel_rfl)
section
variable (b:List Nat) (r:Int) (q:Bool) (iv:List AV) (nx od is:Int) (N:Nat)
theorem av3 (hq:q=true) (i:al) (hi:i.groups.length≤1000000) (hiv:iv=i.cells) (a0 a1 a2 a3 a4 a5 a6 a7 a8:AV):(Dn prog).call gJ [.ptr 3 0,.ptr 4 0,.ptr 2 0,.ptr 0 0,.ptr 5 0,.ptr 1 0,.ptr 6 0] ⟨cb b r q iv [a0,a1,a2,a3,a4,a5,a6,a7,a8] nx 0 od is,N⟩ =
  some (.tup [],⟨cb b r q iv [a0,.d (.int .u8 i.seq),.d (.int .u8 i.shape),.d (.int .i64 i.max),.own false 1 (ai i.groups),a5,a6,a7,a8] nx 0 od is,N⟩):=by
 subst hq hiv;have h:=aeN i hi;simp only[al.cells,Sg]at h⊢;rw[aD Ra xh.eq_1 rfl];simp (maxSteps:=300000) (disch:=omega) [↓if_pos,↓if_neg,h]
theorem avR (i:al) (hi:i.Fit) (hm:i.may 11) (h1:is≠1) (a0 a5 a6 a7 a8:AV):(Dn prog).call gO [.ptr 8 0,.ptr 0 0,.ptr 5 0,.ptr 4 0,.ptr 6 0] ⟨cb b r q iv [a0,.d (.int .u8 i.seq),.d (.int .u8 i.shape),.d (.int .i64 i.max),.own false 1 (ai i.groups),a5,a6,a7,a8] nx 0 od is,N⟩ =
  some (.tup [],⟨cb b r q iv [a0,.d (.int .u8 i.seq),.d (.int .u8 i.shape),.d (.int .i64 i.max),.own false 1 (ai i.groups),a5,a6,.own false 1 (bt (List.replicate i.many [])),a8] nx 0 od is,N⟩):=by
 have hw:=jr i hi;rw[if_pos hm]at hw;have hmm:=qb i;have hk:=Gt (z:=[.lst []]) (n:=i.many) (by omega);have e:List.replicate i.many [D.lst []]=bt (List.replicate i.many []):=by simp[bt,bX]
 rw[e]at hk;simp only[al.cells]at hw;rw[aD QW xo.eq_1 rfl];simp (maxSteps:=300000) (disch:=omega) [↓if_pos,↓if_neg,h1,hw,hk]
end
section
variable (b:List Nat) (hb:b.length≤1000000000) (r:Int) (q:Bool) (iv:List AV) (nx od is:Int) (hn:i64 nx) (N:Nat)
include hb hn
theorem ayp (a0 a1 a2 a3 a4 a5 a6 a7 a8:AV):(Dn prog).call mK rV ⟨cb b r q iv [a0,a1,a2,a3,a4,a5,a6,a7,a8] nx 0 od is,N⟩ =
  rK (pG b 8) (aO b nx 8) (fun v n=>some (.tup [],⟨cb b r q iv [.d (.int .i64 v),a1,a2,a3,a4,a5,a6,a7,a8] n 0 od is,N⟩)) (fun e=>some (.tup [],⟨cb b r q iv [.d (.int .i64 0),a1,a2,a3,a4,a5,a6,a7,a8] 0 (e+1) od is,N⟩)):=by
 have h:=d8 b nx 8 hb hn;rw[aD alu Et.eq_1 rfl];simp (maxSteps:=300000) (disch:=omega) [↓if_pos,↓if_neg,h]
theorem aoQ (cs:List AV):(Dn prog).call wZ [.ptr 0 0,.ptr 5 0,.ptr 6 0] ⟨cb b r q iv cs nx 0 od is,N⟩ =
  rK (pG b 1) (aO b nx 1) (fun v n=>some (.d (.int .i64 v),⟨cb b r q iv cs n 0 od is,N⟩)) (fun e=>some (.d (.int .i64 0),⟨cb b r q iv cs 0 (e+1) od is,N⟩)):=by
 have h:=d8 b nx 1 hb hn;rw[aD amn Ec.eq_1 rfl];simp (maxSteps:=300000) (disch:=omega) [↓if_pos,↓if_neg,h]
theorem ay5 (cs:List AV):(Dn prog).call mO [.ptr 9 0,.ptr 7 0] ⟨cb b r q iv cs nx 0 od is,N⟩ =
  rK (pG b 1) (aO b nx 1) (fun v n=>some (.tup [],⟨cb b r q iv cs n 0 v is,N⟩)) (fun e=>some (.tup [],⟨cb b r q iv cs 0 (e+1) 0 is,N⟩)):=by
 have h:=aoQ b hb r q iv nx od is hn N cs;rw[aD aln EP.eq_1 rfl];simp (maxSteps:=300000) (disch:=omega) [↓if_pos,↓if_neg,h]
theorem ayX (cs:List AV):(Dn prog).call mR [.ptr 9 0,.ptr 8 0] ⟨cb b r q iv cs nx 0 od is,N⟩ =
  rK (pG b 1) (aO b nx 1) (fun v n=>some (.tup [],⟨cb b r q iv cs n 0 od v,N⟩)) (fun e=>some (.tup [],⟨cb b r q iv cs 0 (e+1) od 0,N⟩)):=by
 have h:=aoQ b hb r q iv nx od is hn N cs;rw[aD alo Em.eq_1 rfl];simp (maxSteps:=300000) (disch:=omega) [↓if_pos,↓if_neg,h]
theorem ax0 (cs:List AV) (ho:0≤od∧od≤1):(Dn prog).call mG [.ptr 7 0,.ptr 9 0] ⟨cb b r q iv cs nx 0 od is,N⟩ =
  rK (pG b 1) (aO b nx 1) (fun v n=>some (.tup [],⟨cb b r q iv cs n 0 (WI od v) is,N⟩)) (fun e=>some (.tup [],⟨cb b r q iv cs 0 (e+1) od is,N⟩)):=by
 have h:=aoQ b hb r q iv nx od is hn N cs;rw[aD alj D7.eq_1 rfl];simp (maxSteps:=300000) (disch:=omega) [↓if_pos,↓if_neg,h];refine U5 (fun _ _ h=>cW h) (fun v n e2 hp=>?_) fun e e2=>by simp (maxSteps:=300000) (disch:=omega) [YE]
 have hv:v<2:=hp.1;simp (maxSteps:=300000) (disch:=omega) [YE]
theorem azd (i:al) (hi:i.Fit) (hm:i.may 11) (hg:i.groups≠[]) (a0 a5 a6 a7 a8:AV):(Dn prog).call mJ rV ⟨cb b r q iv [a0,.d (.int .u8 i.seq),.d (.int .u8 i.shape),.d (.int .i64 i.max),.own false 1 (ai i.groups),a5,a6,a7,a8] nx 0 od is,N⟩ =
  rK (Ro b i.max.toNat i.groups.length) (oQ b i nx) (fun g n=>some (.tup [],⟨cb b r q iv [a0,.d (.int .u8 i.seq),.d (.int .u8 i.shape),.d (.int .i64 i.max),.own false 1 (ai i.groups),au 1 (aK g),a6,a7,a8] n 0 od is,N⟩)) (fun e=>some (.tup [],⟨cb b r q iv [a0,.d (.int .u8 i.seq),.d (.int .u8 i.shape),.d (.int .i64 i.max),.own false 1 (ai i.groups),.nl,a6,a7,a8] 0 (e+1) od is,N⟩)):=by
 have h:=asi b nx i hb hn hi hm;simp only[al.cells]at h;rw[aD al8 Fk.eq_1 rfl];simp (maxSteps:=300000) (disch:=omega) [↓if_pos,↓if_neg,-bJ,h]
theorem axA (g:Int) (hg:0≤g∧g≤255) (m:Int) (hm:0≤m∧m≤40) (S:List (List am)) (hS:S≠[]) (hl:S.length≤8) (hf:cB m S) (hf2:∀ l∈S,l.length≤1000) (hok:∀ l∈S,ah9 l∧aoL l) (a1 a2 a3 a4 a6 a7 a8:AV):(Dn prog).call mH rV ⟨cb b r q iv [.d (.int .i64 g),a1,a2,a3,a4,au 1 (aK S),a6,a7,a8] nx 0 od is,N⟩ =
  rK (pSc b S) (uS b S nx g) (fun t n=>some (.tup [],⟨cb b r q iv [.d (.int .i64 g),a1,a2,a3,a4,au 1 (aK S),share (au 1 (bu t)),a7,a8] n 0 od is,N⟩)) (fun e=>some (.tup [],⟨cb b r q iv [.d (.int .i64 g),a1,a2,a3,a4,au 1 (aK S),.nl,a7,a8] 0 (e+1) od is,N⟩)):=by
 have h:=arv b hb nx g m hn hg S hl hm hf hf2 hok;rw[aD amg EY.eq_1 rfl]
 cases S with
 | nil=>exact absurd rfl hS
 | cons s0 S0 =>
  have e:au 1 (aK (s0::S0))=.own false 1 (aK (s0::S0)):=rfl;rw[e];simp (maxSteps:=300000) (disch:=omega) [↓if_pos,↓if_neg,-bJ,h,anx,atD,aiU,anK,aiE]
theorem amY (hq:q=false) (hr:ct r) (i:al) (hi:i.groups.length≤1000000) (hiv:iv=i.cells∨iv=zI) (a0 a1 a2 a3 a4 a5 a6 a7 a8:AV):(Dn prog).call gJ [.ptr 3 0,.ptr 4 0,.ptr 2 0,.ptr 0 0,.ptr 5 0,.ptr 1 0,.ptr 6 0] ⟨cb b r q iv [a0,a1,a2,a3,a4,a5,a6,a7,a8] nx 0 od is,N⟩ =
  rK (pI b r.toNat) (sj b nx r.toNat) (fun j n=>some (.tup [],⟨cb b r q iv [a0,.d (.int .u8 j.seq),.d (.int .u8 j.shape),.d (.int .i64 j.max),.own false 1 (ai j.groups),a5,a6,a7,a8] n 0 od is,N⟩)) (fun e=>some (.tup [],⟨cb b r q iv [a0,.d (.int .u8 0),.d (.int .u8 0),.d (.int .i64 0),.nl,a5,a6,a7,a8] 0 (e+1) od is,N⟩)):=by
 subst hq;have h:=aeN i hi;have h0:=aoP;have hG:=auc b nx r hb hn;rw[if_pos hr]at hG;rcases hiv with rfl | rfl
 all_goals
  simp only[al.cells,Sg,S9]at h hG⊢;rw[aD Ra xh.eq_1 rfl];simp (maxSteps:=300000) (disch:=omega) [↓if_pos,↓if_neg,h,h0,hG]
theorem anG (i:al) (hi:i.Fit) (hm:i.may 11) (h1:is=1) (a0 a5 a6 a7 a8:AV):(Dn prog).call gO [.ptr 8 0,.ptr 0 0,.ptr 5 0,.ptr 4 0,.ptr 6 0] ⟨cb b r q iv [a0,.d (.int .u8 i.seq),.d (.int .u8 i.shape),.d (.int .i64 i.max),.own false 1 (ai i.groups),a5,a6,a7,a8] nx 0 od is,N⟩ =
  rK (pTn b i) (Ir b i nx) (fun t n=>some (.tup [],⟨cb b r q iv [a0,.d (.int .u8 i.seq),.d (.int .u8 i.shape),.d (.int .i64 i.max),.own false 1 (ai i.groups),a5,a6,au 1 (bt t),a8] n 0 od is,N⟩)) (fun e=>some (.tup [],⟨cb b r q iv [a0,.d (.int .u8 i.seq),.d (.int .u8 i.shape),.d (.int .i64 i.max),.own false 1 (ai i.groups),a5,a6,.nl,a8] 0 (e+1) od is,N⟩)):=by
 subst h1;have h:=alg b hb nx hn i hi hm;simp only[al.cells]at h;rw[aD QW xo.eq_1 rfl];simp (maxSteps:=300000) (disch:=omega) [↓if_pos,↓if_neg,-bJ,h]
end
abbrev aie:List AV:=[.d (.int .i64 0),.d (.int .u8 0),.d (.int .u8 0),.d (.int .i64 0),.nl,.nl,.nl,.nl,.nl]
abbrev ZF (i:Int):ao:=[(5,.ptr 0 0),(7,.ptr 1 0),(10,.ptr 4 0),(11,.ptr 5 0),(12,.ptr 6 0),(13,.ptr 7 0),(14,.ptr 8 0),(60,.sl 10 0 8),(61,.d (.int .i64 8)),(62,.d (.int .i64 i))]
abbrev axt:ao:=[(5,.ptr 0 0),(7,.ptr 1 0),(10,.ptr 4 0),(11,.ptr 5 0),(12,.ptr 6 0),(13,.ptr 7 0),(14,.ptr 8 0)]
section
variable (b:List Nat) (r:Int) (q:Bool) (iv:List AV) (N:Nat)
theorem aqC {cs cs2:List AV}{nx nx2 e0 od od2 is is2:Int}(i:Nat) (hi:i<8) (f:FuncId) (caps:List AV) (hF:nG[i]?=some (.fn f [] caps)) (hF2:firm (firm (firm (share (.fn f [] caps))))=.fn f [] caps)
  (h:(Dn prog).call f caps ⟨cb b r q iv cs nx 0 od is,N⟩=some (.tup [],⟨cb b r q iv cs2 nx2 0 od2 is2,N⟩)) :
  (Dn prog).code (.loop eI) ⟨ZF i,⟨cb b r q iv cs nx e0 od is,N⟩⟩=(Dn prog).code (.loop eI) ⟨ZF ((i+1:Nat):Int),⟨cb b r q iv cs2 nx2 0 od2 is2,N⟩⟩:=by
 have c1:((i+1:Nat):Int)=(i:Int)+1:=rfl;obtain⟨hlt,e⟩:=List.getElem?_eq_some_iff.1 hF;rw[c1,aa eI.eq_1];simp (maxSteps:=300000) (disch:=omega) [↓if_pos,↓if_neg,e,hF2,h]
theorem ax9 {cs:List AV}{a0 a1 a2 a3 a4 a5 a6 a7 a8:AV}{nx nx2 e0 od od2 is is2:Int}(i:Nat) (hi:i<8) (f:FuncId) (caps:List AV) (hF:nG[i]?=some (.fn f [] caps)) (hF2:firm (firm (firm (share (.fn f [] caps))))=.fn f [] caps) (e:Nat)
  (h:(Dn prog).call f caps ⟨cb b r q iv cs nx 0 od is,N⟩=some (.tup [],⟨cb b r q iv [a0,a1,a2,a3,a4,a5,a6,a7,a8] nx2 ((e:Int)+1) od2 is2,N⟩)) :
  (Dn prog).code (.loop eI) ⟨ZF i,⟨cb b r q iv cs nx e0 od is,N⟩⟩=some (.ret,⟨[(10,.ptr 4 0),(11,.ptr 5 0),(12,.ptr 6 0)],⟨cb b r q iv aie 0 ((e:Int)+1) od2 is2,N⟩⟩):=by
 obtain⟨hlt,e1⟩:=List.getElem?_eq_some_iff.1 hF;rw[aa eI.eq_1];simp (maxSteps:=300000) (disch:=omega) [↓if_pos,↓if_neg,e1,hF2,h]
theorem avH {cs:List AV}{nx e0 od is:Int}:(Dn prog).code (.loop eI) ⟨ZF 8,⟨cb b r q iv cs nx e0 od is,N⟩⟩=some (.exit 0,⟨axt,⟨cb b r q iv cs nx e0 od is,N⟩⟩):=by
 rw[aa eI.eq_1];simp (maxSteps:=300000) (disch:=omega) [↓if_pos,↓if_neg]
end
structure Hd where
 gain:Nat
 inf:al
 S:List (List am)
 T:List (List Int)
 F:List (List aV)
 od:Int
 is:Nat
def Av (b:List Nat) (a:Int) (r:Nat) (q:Bool) (i:al):R Hd :=
 (aO b a 8).bind fun g n=>(if q then R.ok i n else sj b n r).bind fun j n=>(oQ b j n).bind fun S n=>(uS b S n g).bind fun T n =>
  (aO b n 1).bind fun o n=>(aO b n 1).bind fun s n=>(if s=1 then Ir b j n else R.ok (List.replicate j.many []) n).bind fun F n=>(aO b n 1).bind fun p n=>R.ok ⟨g,j,S,T,F,WI o p,s⟩ n
abbrev aks (H:Hd):List AV:=[.d (.int .i64 H.gain),.d (.int .u8 H.inf.seq),.d (.int .u8 H.inf.shape),.d (.int .i64 H.inf.max),.own false 1 (ai H.inf.groups),au 1 (aK H.S),share (au 1 (bu H.T)),au 1 (bt H.F),.nl]
section
variable (b:List Nat) (r:Int) (q:Bool) (iv:List AV) (N:Nat)
def Tx (e0:Int) (i:Nat) (cs:List AV) (nx od is:Int) (x:R Hd):Prop :=
 (∀ H n,x=.ok H n→(Dn prog).code (.loop eI) ⟨ZF i,⟨cb b r q iv cs nx e0 od is,N⟩⟩=some (.exit 0,⟨axt,⟨cb b r q iv (aks H) n 0 H.od H.is,N⟩⟩))∧
 (∀ e,x=.er e→∃ od2 is2,(Dn prog).code (.loop eI) ⟨ZF i,⟨cb b r q iv cs nx e0 od is,N⟩⟩=some (.ret,⟨[(10,.ptr 4 0),(11,.ptr 5 0),(12,.ptr 6 0)],⟨cb b r q iv aie 0 ((e:Int)+1) od2 is2,N⟩⟩))
theorem axV {e0:Int}{i:Nat}{cs cs2:List AV}{nx nx2 od od2 is is2:Int}{x:R Hd}(hi:i<8) (f:FuncId) (caps:List AV) (hF:nG[i]?=some (.fn f [] caps)) (hF2:firm (firm (firm (share (.fn f [] caps))))=.fn f [] caps)
  (h:(Dn prog).call f caps ⟨cb b r q iv cs nx 0 od is,N⟩=some (.tup [],⟨cb b r q iv cs2 nx2 0 od2 is2,N⟩)) (ho:Tx b r q iv N 0 (i+1) cs2 nx2 od2 is2 x):Tx b r q iv N e0 i cs nx od is x:=by
 refine⟨fun H n e=>?_,fun e h2=>?_⟩
 ·rw[aqC b r q iv N i hi f caps hF hF2 h];exact ho.1 H n e
 ·rw[aqC b r q iv N i hi f caps hF hF2 h];exact ho.2 e h2
theorem ay9 {e0:Int}{i:Nat}{cs:List AV}{a0 a1 a2 a3 a4 a5 a6 a7 a8:AV}{nx nx2 od od2 is is2:Int}{e:Nat}(hi:i<8) (f:FuncId) (caps:List AV) (hF:nG[i]?=some (.fn f [] caps)) (hF2:firm (firm (firm (share (.fn f [] caps))))=.fn f [] caps)
  (h:(Dn prog).call f caps ⟨cb b r q iv cs nx 0 od is,N⟩=some (.tup [],⟨cb b r q iv [a0,a1,a2,a3,a4,a5,a6,a7,a8] nx2 ((e:Int)+1) od2 is2,N⟩)):Tx b r q iv N e0 i cs nx od is (.er e):=by
 refine⟨fun H n h2=>absurd h2 (by simp),fun e' h2=>?_⟩
 grind [ax9]
end
theorem aoJ {b:List Nat}{i:al}{g:List (List am)}{n:Nat}(hm:i.may 11) (h:Ro b i.max.toNat i.groups.length g n) :
  g≠[]∧g.length≤8∧fq i g∧(∀ l∈g,l.length≤100)∧∀ l∈g,ah9 l∧aoL l:=by
 obtain⟨h1,h2,h3⟩:=h;have hmx:=jh hm;obtain⟨q1,q2⟩:=b6 hm;have hmm:=qb i;have hgl:i.groups.length≤8:=by have:=j6 (fun n hn=>(q1 n hn).1);omega
 have hgn:i.groups≠[]:=fun h=>by grind
 have hg1:=List.length_pos_iff.2 hgn;have hmc:((i.max.toNat:Nat):Int)=i.max:=Int.toNat_of_nonneg hmx.1;have hf:∀ l∈g,fitsS i.max l:=fun l hl=>by simp_all
 refine⟨fun h=>by simp_all,by omega,⟨h3,hf⟩,fun l hl=>by grind,fun l hl=>⟨⟨by grind,fun s hs=>?_⟩,ID (hf l hl)⟩⟩;have:=lN (hf l hl) (by omega) s hs;omega
theorem kC {α β:Type}{x:R α}{f:α→Nat→R β}{v:β}{n:Nat}(h:x.bind f=.ok v n):∃ u m,x=.ok u m∧f u m=.ok v n:=by
 cases x with
 | ok u m=>exact⟨u,m,rfl,h⟩
 | er e=>simp_all
theorem aje {α:Type}{c:Prop}[Decidable c] {v w:α}{n m:Nat}(h:MC c v n=.ok w m):c∧v=w∧n=m:=by
 grind [MC]
theorem amK {b:List Nat}:∀ {k a:Nat}{l:List Nat}{n:Nat},a≤b.length→qu b k a=.ok l n→n≤b.length
 | 0,a,l,n,ha,h=>by
  grind [qu]
 | k+1,a,l,n,ha,h=>by
  obtain⟨v,m,h1,h⟩:=kC h;obtain⟨l2,m2,h2,h⟩:=kC h;have:=amK (cW h1).2 h2
  simp_all
theorem ari {b:List Nat}{a:Int}{r:Nat}(hr:r≤11) {i:al}{n:Nat}(h:sj b a r=.ok i n):pI b r i n:=by
 obtain⟨o,n1,h1,h⟩:=kC h;obtain⟨q,n2,h2,h⟩:=kC h;obtain⟨s,n3,h3,h⟩:=kC h;have key:i.may r∧n≤b.length:=by
  split at h
  ·obtain⟨m,n4,h4,h⟩:=kC h;obtain⟨l,n5,h5,h⟩:=kC h;obtain⟨hc,e1,e2⟩:=aje h;have:=amK (cW h4).2 h5
   simp_all
  ·obtain⟨m,n4,h4,h⟩:=kC h;obtain⟨p,n5,h5,h⟩:=kC h;obtain⟨hc,e1,e2⟩:=aje h;have:=(cW h5).2
   simp_all
 obtain⟨g1,g2⟩:=b6 (im hr key.1);have hmm:=qb i;exact⟨key.1,key.2,by have:=j6 (fun n hn=>(g1 n hn).1);omega⟩
structure pHd (b:List Nat) (r:Nat) (H:Hd) (n:Nat):Prop where
 gain:H.gain≤255
 fit:H.inf.Fit
 may:H.inf.may r
 S:fq H.inf H.S
 Sl:∀ l∈H.S,l.length≤100
 T:H.T.map List.length=H.S.map (fun l=>(ak l).length)
 F:H.F.length=H.inf.many∧∀ l∈H.F,l.length≤3∧∀ f∈l,f.coefs.length≤12
 od:0≤H.od∧H.od≤1
 is:H.is≤1
 n:n≤b.length
theorem awR {r:Nat}{i:al}(hr:r≤11) (h:i.may r) (hl:i.groups.length≤100):i.Fit:=by
 have h11:=im hr h;have hmx:=jh h11;obtain⟨g1,g2⟩:=b6 h11;exact⟨by have:=h.1;omega,by have:=h.2.1;omega,by omega,by omega,fun n hn=>by grind⟩
abbrev QX (b:List Nat) (r:Nat) (x:R Hd):Prop:=∀ H n,x=.ok H n→pHd b r H n
theorem sF {b:List Nat}{r:Int}{q:Bool}{iv:List AV}{N R0:Nat}{e0:Int}{i:Nat}{cs cs2:List AV}{nx nx2 od od2 is is2:Int}{x:R Hd}(hi:i<8) (f:FuncId) (caps:List AV) (hF:nG[i]?=some (.fn f [] caps)) (hF2:firm (firm (firm (share (.fn f [] caps))))=.fn f [] caps)
  (h:(Dn prog).call f caps ⟨cb b r q iv cs nx 0 od is,N⟩=some (.tup [],⟨cb b r q iv cs2 nx2 0 od2 is2,N⟩)) (ho:Tx b r q iv N 0 (i+1) cs2 nx2 od2 is2 x∧QX b R0 x):Tx b r q iv N e0 i cs nx od is x∧QX b R0 x :=
 by grind [axV]
theorem sB {b:List Nat}{r:Int}{q:Bool}{iv:List AV}{N R0:Nat}{e0:Int}{i:Nat}{cs:List AV}{a0 a1 a2 a3 a4 a5 a6 a7 a8:AV}{nx nx2 od od2 is is2:Int}{e:Nat}(hi:i<8) (f:FuncId) (caps:List AV) (hF:nG[i]?=some (.fn f [] caps)) (hF2:firm (firm (firm (share (.fn f [] caps))))=.fn f [] caps)
  (h:(Dn prog).call f caps ⟨cb b r q iv cs nx 0 od is,N⟩=some (.tup [],⟨cb b r q iv [a0,a1,a2,a3,a4,a5,a6,a7,a8] nx2 ((e:Int)+1) od2 is2,N⟩)):Tx b r q iv N e0 i cs nx od is (.er e)∧QX b R0 (.er e) :=
 by grind [ay9]
theorem aqY {b:List Nat}{i:al}{a:Int}{g:List (List am)}{n:Nat}(h:oQ b i a=.ok g n):Ro b i.max.toNat i.groups.length g n:=by
 rw[oQ]at h;split at h
 ·exact NI (by omega) h
 simp_all
theorem atK {b:List Nat}{g:List (List am)}{a gain:Int}(hg:0≤gain∧gain≤255) {t:List (List Int)}{n:Nat}(h:uS b g a gain=.ok t n):pSc b g t n:=by
 rw[uS]at h;split at h
 ·rename_i ha;obtain⟨A,rfl⟩:=Int.eq_ofNat_of_zero_le ha.1;exact SY (by omega) ⟨by omega,by omega⟩ ⟨by omega,by omega⟩ h
 simp_all
theorem I7 (b:List Nat) (hb:b.length≤1000000000) (r:Int) (hr:ct r) (q:Bool) (i:al) (hi:i.Fit) (iv:List AV) (hiv:iv=i.cells∨q=false∧iv=zI) (hq:q=true→i.may r.toNat) (nx:Int) (hn:i64 nx) (e0:Int) (N:Nat) :
  Tx b r q iv N e0 0 aie nx 0 0 (Av b nx r.toNat q i)∧QX b r.toNat (Av b nx r.toNat q i):=by
 have hR:r.toNat≤11:=by omega
 rw[Av];have h:=ayp b hb r q iv nx 0 0 hn N (.d (.int .i64 0)) (.d (.int .u8 0)) (.d (.int .u8 0)) (.d (.int .i64 0)) .nl .nl .nl .nl .nl
 cases e1:aO b nx 8 with
 | er e=>rw[e1,eK]at h;exact sB (by decide) mK rV rfl rfl h
 | ok g n1 =>
 have p1:=cW e1;have hg:g<256:=p1.1;have hn1:=p1.2;have i1:i64 (n1:Int):=by omega
 rw[e1,cu p1]at h;rw[aw];refine sF (by decide) mK rV rfl rfl h ?_;clear h;have key:∃ X:R al,X=(if q=true then R.ok i n1 else sj b n1 r.toNat)∧(∀ j n,X=.ok j n→((j.Fit∧j.may r.toNat)∧n≤b.length)∧(Dn prog).call gJ [.ptr 3 0,.ptr 4 0,.ptr 2 0,.ptr 0 0,.ptr 5 0,.ptr 1 0,.ptr 6 0] ⟨cb b r q iv [.d (.int .i64 g),.d (.int .u8 0),.d (.int .u8 0),.d (.int .i64 0),.nl,.nl,.nl,.nl,.nl] n1 0 0 0,N⟩=some (.tup [],⟨cb b r q iv [.d (.int .i64 g),.d (.int .u8 j.seq),.d (.int .u8 j.shape),.d (.int .i64 j.max),.own false 1 (ai j.groups),.nl,.nl,.nl,.nl] n 0 0 0,N⟩))∧
   (∀ e,X=.er e→(Dn prog).call gJ [.ptr 3 0,.ptr 4 0,.ptr 2 0,.ptr 0 0,.ptr 5 0,.ptr 1 0,.ptr 6 0] ⟨cb b r q iv [.d (.int .i64 g),.d (.int .u8 0),.d (.int .u8 0),.d (.int .i64 0),.nl,.nl,.nl,.nl,.nl] n1 0 0 0,N⟩=some (.tup [],⟨cb b r q iv [.d (.int .i64 g),.d (.int .u8 0),.d (.int .u8 0),.d (.int .i64 0),.nl,.nl,.nl,.nl,.nl] 0 ((e:Int)+1) 0 0,N⟩)):=by
  refine⟨_,rfl,fun j n h=>?_,fun e h=>?_⟩
  ·grind [av3,al.Fit.len,ari,amY,cu,awR]
  ·cases hqc:q with
   | true=>simp_all
   | false =>
    rw[hqc]at h;simp only[Bool.false_eq_true,if_false]at h;have h3:=amY b hb r false iv n1 0 0 i1 N rfl hr i (by have:=hi.len;omega) (hiv.imp id And.right) (.d (.int .i64 g)) (.d (.int .u8 0)) (.d (.int .u8 0)) (.d (.int .i64 0)) .nl .nl .nl .nl .nl
    simp_all
 obtain⟨X,hX,hX1,hX2⟩:=key;rw[←hX]
 cases e2:X with
 | er e=>exact sB (by decide) gJ _ rfl rfl (hX2 e e2)
 | ok j n2 =>
 obtain⟨⟨⟨hj,hjm⟩,hn2⟩,h⟩:=hX1 j n2 e2;have i2:i64 (n2:Int):=by omega
 have hjm11:=im hR hjm;have hmx:=jh hjm11;obtain⟨gr1,gr2⟩:=b6 hjm11;have hmm:=qb j;have hgn:j.groups≠[]:=fun h=>by grind
 rw[aw];refine sF (by decide) gJ _ rfl rfl h ?_;clear h hX hX1 hX2 e2 X;have h:=azd b hb r q iv n2 0 0 i2 N j hj hjm11 hgn (.d (.int .i64 g)) .nl .nl .nl .nl
 cases e3:oQ b j n2 with
 | er e=>rw[e3,eK]at h;exact sB (by decide) mJ rV rfl rfl h
 | ok S n3 =>
 have p3:=aqY e3;have hn3:=p3.2.1;have i3:i64 (n3:Int):=by omega
 obtain⟨s1,s2,s3,s4,s5⟩:=aoJ hjm11 p3;rw[e3,cu p3]at h;rw[aw];refine sF (by decide) mJ rV rfl rfl h ?_;clear h;have h:=axA b hb r q iv n3 0 0 i3 N g (by omega) j.max hmx S s1 s2 s3.2 (fun l hl=>by simp_all) s5 (.d (.int .u8 j.seq)) (.d (.int .u8 j.shape)) (.d (.int .i64 j.max)) (.own false 1 (ai j.groups)) .nl .nl .nl
 cases e4:uS b S n3 g with
 | er e=>rw[e4,eK]at h;exact sB (by decide) mH rV rfl rfl h
 | ok T n4 =>
 have p4:=atK (by omega) e4;have hn4:=p4.2;have i4:i64 (n4:Int):=by omega
 rw[e4,cu p4]at h;rw[aw];refine sF (by decide) mH rV rfl rfl h ?_;clear h;have h:=ay5 b hb r q iv n4 0 0 i4 N [.d (.int .i64 g),.d (.int .u8 j.seq),.d (.int .u8 j.shape),.d (.int .i64 j.max),.own false 1 (ai j.groups),au 1 (aK S),share (au 1 (bu T)),.nl,.nl]
 cases e5:aO b n4 1 with
 | er e=>rw[e5,eK]at h;exact sB (by decide) mO _ rfl rfl h
 | ok o n5 =>
 have p5:=cW e5;have ho:o<2:=p5.1;have hn5:=p5.2;have i5:i64 (n5:Int):=by omega
 rw[e5,cu p5]at h;rw[aw];refine sF (by decide) mO _ rfl rfl h ?_;clear h;have h:=ayX b hb r q iv n5 o 0 i5 N [.d (.int .i64 g),.d (.int .u8 j.seq),.d (.int .u8 j.shape),.d (.int .i64 j.max),.own false 1 (ai j.groups),au 1 (aK S),share (au 1 (bu T)),.nl,.nl]
 cases e6:aO b n5 1 with
 | er e=>rw[e6,eK]at h;exact sB (by decide) mR _ rfl rfl h
 | ok s n6 =>
 have p6:=cW e6;have hs:s<2:=p6.1;have hn6:=p6.2;have i6:i64 (n6:Int):=by omega
 rw[e6,cu p6]at h;rw[aw];refine sF (by decide) mR _ rfl rfl h ?_;clear h;have key:∃ X:R (List (List aV)),X=(if s=1 then Ir b j n6 else R.ok (List.replicate j.many []) n6)∧(∀ F n,X=.ok F n→pTn b j F n∧(Dn prog).call gO [.ptr 8 0,.ptr 0 0,.ptr 5 0,.ptr 4 0,.ptr 6 0] ⟨cb b r q iv [.d (.int .i64 g),.d (.int .u8 j.seq),.d (.int .u8 j.shape),.d (.int .i64 j.max),.own false 1 (ai j.groups),au 1 (aK S),share (au 1 (bu T)),.nl,.nl] n6 0 o s,N⟩=some (.tup [],⟨cb b r q iv [.d (.int .i64 g),.d (.int .u8 j.seq),.d (.int .u8 j.shape),.d (.int .i64 j.max),.own false 1 (ai j.groups),au 1 (aK S),share (au 1 (bu T)),au 1 (bt F),.nl] n 0 o s,N⟩))∧
   (∀ e,X=.er e→(Dn prog).call gO [.ptr 8 0,.ptr 0 0,.ptr 5 0,.ptr 4 0,.ptr 6 0] ⟨cb b r q iv [.d (.int .i64 g),.d (.int .u8 j.seq),.d (.int .u8 j.shape),.d (.int .i64 j.max),.own false 1 (ai j.groups),au 1 (aK S),share (au 1 (bu T)),.nl,.nl] n6 0 o s,N⟩=some (.tup [],⟨cb b r q iv [.d (.int .i64 g),.d (.int .u8 j.seq),.d (.int .u8 j.shape),.d (.int .i64 j.max),.own false 1 (ai j.groups),au 1 (aK S),share (au 1 (bu T)),.nl,.nl] 0 ((e:Int)+1) o s,N⟩)):=by
  refine⟨_,rfl,fun F n h=>?_,fun e h=>?_⟩
  ·by_cases h1:s=1
   ·grind [apL,anG,cu]
   ·rw[if_neg h1]at h;injection h with g1 g2
    subst g1 g2;have h3:=avR b r q iv n6 o s N j hj hjm11 (by omega) (.d (.int .i64 g)) (au 1 (aK S)) (share (au 1 (bu T))) .nl .nl;refine⟨⟨by simp,hn6,fun l hl=>by simp_all⟩,?_⟩;have e9:au 1 (bt (List.replicate j.many []))=.own false 1 (bt (List.replicate j.many [])):=lE (fun hz=>by
     grind [afz])
    simp_all
  grind [anG,eK]
 obtain⟨X,hX,hX1,hX2⟩:=key;rw[←hX]
 cases e7:X with
 | er e=>exact sB (by decide) gO _ rfl rfl (hX2 e e7)
 | ok F n7 =>
 obtain⟨p7,h⟩:=hX1 F n7 e7;have i7:i64 (n7:Int):=by omega
 rw[aw];refine sF (by decide) gO _ rfl rfl h ?_;have h:=ax0 b hb r q iv n7 o s i7 N [.d (.int .i64 g),.d (.int .u8 j.seq),.d (.int .u8 j.shape),.d (.int .i64 j.max),.own false 1 (ai j.groups),au 1 (aK S),share (au 1 (bu T)),au 1 (bt F),.nl] (by omega)
 cases e8:aO b n7 1 with
 | er e=>rw[e8,eK]at h;exact sB (by decide) mG _ rfl rfl h
 | ok p n8 =>
 have p8:=cW e8;have hn8:=p8.2;rw[e8,cu p8]at h;rw[aw];refine sF (by decide) mG _ rfl rfl h ⟨⟨fun H n hh=>?_,fun e hh=>absurd hh (by simp)⟩,fun H n hh=>?_⟩
 ·grind [avH]
 ·injection hh with g1 g2
  subst g1 g2;exact⟨by grind,hj,hjm,s3,s4,p4.1,⟨p7.1,p7.2.2⟩,by grind [WI],by grind,hn8⟩
theorem aw2 (id:Nat):aM prog DR [.d (.int .i64 id)]=some (.d (.int .i64 (aI id))):=by
 rw[az arq Mq.eq_1 rfl];unfold aI;by_cases h:id<5
 ·simp (disch:=omega) [↓if_pos]
 ·simp (disch:=omega) [↓if_neg]
def nj (d hi:Nat):Nat→Nat→List Nat
 | 0,_=>[]
 | f+1,x=>if x<hi then x::nj d hi f (x+d) else []
def lF (os:List Nat) (d b:Nat):Nat→Nat→List Nat
 | 0,_=>[]
 | k+1,w=>(nj d (nth os (b+1)) 300 (nth os b)).map (fun x=>w*32+x)++lF os d b k (w+1)
def tU (os:List Nat) (d n first:Nat):Nat→Nat→List Nat
 | 0,_=>[]
 | k+1,b=>lF os d b n first++tU os d n first k (b+1)
def vJ (os:List Nat) (n first:Nat):List am→Nat→List (Nat×Nat)
 | [],_=>[]
 | s::r,b=>(if s.book=0∨s.book=13 then [] else (tU os (aI s.book.toNat) n first s.len.toNat b).map fun x=>(s.book.toNat,x))++vJ os n first r (b+s.len.toNat)
def lm (os:List Nat):List (List am)→List Int→Nat→List (Nat×Nat)
 | l::r,n::g,first=>vJ os n.toNat first l 0++lm os r g (first+n.toNat)
 | _,_,_=>[]
def gp {σ τ:Type}(st:Nat×Nat→σ→Sum σ τ):List (Nat×Nat)→σ→Sum σ τ
 | [],s=>.inl s
 | p::r,s=>match st p s with
  | .inl s=>gp st r s
  | .inr z=>.inr z
theorem xB {σ τ:Type}{st:Nat×Nat→σ→Sum σ τ}:∀ {l r:List (Nat×Nat)}{s:σ},gp st (l++r) s=match gp st l s with
  | .inl s=>gp st r s
  | .inr z=>.inr z
 | [],r,s=>rfl
 | p::l,r,s=>by
  rw[List.cons_append,gp,gp]
  cases st p s with
  | inl s=>simp only[xB]
  | inr z=>rfl
def KZ {σ τ:Type}(hp:σ→ac→ac) (hq:τ→ac→ac) (L l:Nat) (st:Nat×Nat→σ→Sum σ τ) (bw:List (Nat×Nat)→σ→Prop):Prop :=
 ∀ p r s K o N,bw (p::r) s→L≤K→K<N→
  (∃ s2 M,N≤M∧st p s=.inl s2∧bw r s2∧bc (Dn prog) (.yield l) [.agg [.d (.int .i64 (p.1:Int)),.d (.int .i64 (p.2:Int)),.d (.int .i64 ((p.2+aI p.1:Nat):Int))]] ⟨hp s [(K,o)],N⟩=some (.d (.bool true),⟨hp s2 [(K,o)],M⟩))∨
  (∃ z M,N≤M∧st p s=.inr z∧bc (Dn prog) (.yield l) [.agg [.d (.int .i64 (p.1:Int)),.d (.int .i64 (p.2:Int)),.d (.int .i64 ((p.2+aI p.1:Nat):Int))]] ⟨hp s [(K,o)],N⟩=some (.d (.bool false),⟨hq z [(K,o)],M⟩))
structure PlS where
 l:Nat
 p2:Nat
 p3:Nat
 full:List (List am)
 os:List Nat
abbrev eP (P:PlS) (first g b:Int) (r:ao):ao:=(0,.yield P.l)::(2,.ptr P.p2 0)::(3,.ptr P.p3 0)::(5,.d (.int .i64 first))::(6,.d (.int .i64 g))::(8,.d (.int .i64 b))::r
abbrev DE (P:PlS) (g:Int) (r:ao):ao:=(14,.d (.lst (aK P.full)))::(15,.d (.int .i64 P.full.length))::(16,.d (.int .i64 g))::r
abbrev K8 (ls:List am) (k:Int):ao:=[(21,.d (.lst (dA ls))),(22,.d (.int .i64 ls.length)),(23,.d (.int .i64 k))]
section
variable {σ τ:Type}{hp:σ→ac→ac}{hq:τ→ac→ac}{L:Nat}{P:PlS}{st:Nat×Nat→σ→Sum σ τ}{bw:List (Nat×Nat)→σ→Prop}
theorem aAu (H:Tl hp L) (H2:Tl hq L) (hY:KZ hp hq L P.l st bw) (hg3:∀ s T,get (hp s T) P.p3=some (.cells [.own false 1 (bf P.os)])) (s0:am) (bk:Nat) (hbk:s0.book=bk) (hb1:1≤bk∧bk≤11) (b:Nat) (hb:b+1<P.os.length) (ho:P.os.length≤100) (hhi:nth P.os (b+1)≤256) (first g en gi k:Int) (w:Nat) (hw:w≤8) (ls:List am) (K:Nat) (hK:L≤K) (rest:List (Nat×Nat)):∀ (f x N:Nat) (s:σ),nth P.os (b+1)≤x+f→x≤300→K<N→bw ((nj (aI bk) (nth P.os (b+1)) f x).map (fun y=>(bk,w*32+y))++rest) s→
  (∃ s2 M,N≤M∧gp st ((nj (aI bk) (nth P.os (b+1)) f x).map (fun y=>(bk,w*32+y))) s=.inl s2∧bw rest s2∧
   (Dn prog).code (.loop dz) ⟨eP P first g b ((10,.ptr K 0)::(11,.d (.int .i64 en))::(12,.d (.int .i64 w))::(13,.d (.int .i64 x))::DE P gi (K8 ls k)),⟨hp s [(K,.cells [.d (.int .i64 s0.book),.d (.int .i64 s0.len)])],N⟩⟩ =
   some (.exit 8,⟨eP P first g b ((10,.ptr K 0)::(11,.d (.int .i64 en))::(12,.d (.int .i64 w))::DE P gi (K8 ls k)),⟨hp s2 [(K,.cells [.d (.int .i64 s0.book),.d (.int .i64 s0.len)])],M⟩⟩))∨
  (∃ z M,N≤M∧gp st ((nj (aI bk) (nth P.os (b+1)) f x).map (fun y=>(bk,w*32+y))) s=.inr z∧
   (Dn prog).code (.loop dz) ⟨eP P first g b ((10,.ptr K 0)::(11,.d (.int .i64 en))::(12,.d (.int .i64 w))::(13,.d (.int .i64 x))::DE P gi (K8 ls k)),⟨hp s [(K,.cells [.d (.int .i64 s0.book),.d (.int .i64 s0.len)])],N⟩⟩ =
   some (.ret,⟨[],⟨hq z [],M⟩⟩)):=by
 have hG:=fun s o=>H.get s K o hK
 have hD2:=fun s o=>H2.del s K o hK
 have hd4:aI bk≤4∧2≤aI bk:=by grind [aI]
 have hdim:=aw2 bk;have hgo:(bf P.os)[b+1]?=some [.int .i64 (nth P.os (b+1):Nat)]:=wA hb;have hne:bf P.os≠[]:=by grind
 intro f
 induction f with
 | zero =>
  intro x N s h1 h2 hKN hi;refine .inl ⟨s,N,Nat.le_refl _,rfl,hi,?_⟩;rw[aa dz.eq_1];simp (disch:=omega) [↓if_neg,hg3,hgo]
 | succ f ih =>
  intro x N s h1 h2 hKN hi;by_cases hx:x<nth P.os (b+1)
  ·rw[nj,if_pos hx,List.map_cons,List.cons_append]at hi;rw[nj,if_pos hx,List.map_cons,gp];have c1:((x+aI bk:Nat):Int)=(x:Int)+aI bk:=rfl;have c2:((w*32+x:Nat):Int)=(w:Int)*32+x:=by omega
   have c3:((w*32+x+aI bk:Nat):Int)=(w:Int)*32+x+aI bk:=by omega
   rcases hY (bk,w*32+x) _ s K (.cells [.d (.int .i64 s0.book),.d (.int .i64 s0.len)]) N hi hK hKN with ⟨s2,M,hM,e1,e2,e3⟩ | ⟨z,M,hM,e1,e3⟩
   ·rw[e1];simp only[c2,c3]at e3;have h9:=ih (x+aI bk) M s2 (by omega) (by omega) (by omega) e2;rw[c1]at h9;rw[hbk]at h9 e3⊢;rcases h9 with ⟨s3,M2,hM2,f1,f2,f3⟩ | ⟨z,M2,hM2,f1,f3⟩
    ·refine .inl ⟨s3,M2,by omega,f1,f2,?_⟩;rw[←f3,aa dz.eq_1];simp (disch:=omega) [↓if_pos,hg3,hgo,hG,hdim,-gQ,e3]
    ·refine .inr ⟨z,M2,by omega,f1,?_⟩;rw[←f3,aa dz.eq_1];simp (disch:=omega) [↓if_pos,hg3,hgo,hG,hdim,-gQ,e3]
   ·rw[e1];simp only[c2,c3]at e3;rw[hbk]at e3⊢;refine .inr ⟨z,M,hM,rfl,?_⟩;rw[aa dz.eq_1];simp (disch:=omega) [↓if_pos,hg3,hgo,hG,hdim,-gQ,e3,hD2]
  ·rw[nj,if_neg hx]at hi;rw[nj,if_neg hx];refine .inl ⟨s,N,Nat.le_refl _,rfl,hi,?_⟩;rw[aa dz.eq_1];simp (disch:=omega) [↓if_neg,hg3,hgo]
theorem azO (i:al) (hil:i.groups.length≤1000) (H:Tl hp L) (H2:Tl hq L) (hY:KZ hp hq L P.l st bw) (hg2:∀ s T,get (hp s T) P.p2=some (.cells i.cells)) (hg3:∀ s T,get (hp s T) P.p3=some (.cells [.own false 1 (bf P.os)])) (s0:am) (bk:Nat) (hbk:s0.book=bk) (hb1:1≤bk∧bk≤11) (b:Nat) (hb:b+1<P.os.length) (ho:P.os.length≤100) (hhi:∀ x∈P.os,x≤256) (first n g:Nat) (hgl:g<i.groups.length) (hn:nth i.groups g=n) (hfn:first+n≤8) (en gi k:Int) (ls:List am) (K:Nat) (hK:L≤K) (rest:List (Nat×Nat)):∀ (j w N:Nat) (s:σ),w+j=first+n→K<N→bw ((lF P.os (aI bk) b j w).map (fun y=>(bk,y))++rest) s→
  (∃ s2 M,N≤M∧gp st ((lF P.os (aI bk) b j w).map (fun y=>(bk,y))) s=.inl s2∧bw rest s2∧
   (Dn prog).code (.loop ef) ⟨eP P first g b ((10,.ptr K 0)::(11,.d (.int .i64 en))::(12,.d (.int .i64 w))::DE P gi (K8 ls k)),⟨hp s [(K,.cells [.d (.int .i64 s0.book),.d (.int .i64 s0.len)])],N⟩⟩ =
   some (.exit 6,⟨eP P first g b ((10,.ptr K 0)::(11,.d (.int .i64 en))::DE P gi (K8 ls k)),⟨hp s2 [(K,.cells [.d (.int .i64 s0.book),.d (.int .i64 s0.len)])],M⟩⟩))∨
  (∃ z M,N≤M∧gp st ((lF P.os (aI bk) b j w).map (fun y=>(bk,y))) s=.inr z∧
   (Dn prog).code (.loop ef) ⟨eP P first g b ((10,.ptr K 0)::(11,.d (.int .i64 en))::(12,.d (.int .i64 w))::DE P gi (K8 ls k)),⟨hp s [(K,.cells [.d (.int .i64 s0.book),.d (.int .i64 s0.len)])],N⟩⟩ =
   some (.ret,⟨[],⟨hq z [],M⟩⟩)):=by
 have hgo:(bf P.os)[b]?=some [.int .i64 (nth P.os b:Nat)]:=wA (by omega);have hob:=hhi (nth P.os b) (fk (by omega));have hob1:=hhi (nth P.os (b+1)) (fk hb);simp only[al.cells]at hg2;intro j
 induction j with
 | zero =>
  intro w N s h1 hKN hi;refine .inl ⟨s,N,Nat.le_refl _,rfl,hi,?_⟩;rw[aa ef.eq_1];simp (disch:=omega) [↓if_neg,hg2,hn]
 | succ j ih =>
  intro w N s h1 hKN hi;have c1:((w+1:Nat):Int)=(w:Int)+1:=rfl;have em:(lF P.os (aI bk) b (j+1) w).map (fun y=>(bk,y))=(nj (aI bk) (nth P.os (b+1)) 300 (nth P.os b)).map (fun y=>(bk,w*32+y))++(lF P.os (aI bk) b j (w+1)).map (fun y=>(bk,y)):=by
   simp_all [lF]
  rw[em]at hi⊢;rw[List.append_assoc]at hi;rw[xB];rcases aAu H H2 hY hg3 s0 bk hbk hb1 b hb ho hob1 first g en gi k w (by omega) ls K hK _ 300 (nth P.os b) N s (by omega) (by omega) hKN hi with ⟨s2,M,hM,e1,e2,e3⟩ | ⟨z,M,hM,e1,e3⟩
  ·rw[e1];have h9:=ih (w+1) M s2 (by omega) (by omega) e2;rcases h9 with ⟨s3,M2,hM2,f1,f2,f3⟩ | ⟨z,M2,hM2,f1,f3⟩
   ·refine .inl ⟨s3,M2,by omega,f1,f2,?_⟩;rw[←f3,aa ef.eq_1];simp (disch:=omega) [↓if_pos,hg2,hg3,hgo,hn,e3]
   ·refine .inr ⟨z,M2,by omega,f1,?_⟩;rw[←f3,aa ef.eq_1];simp (disch:=omega) [↓if_pos,hg2,hg3,hgo,hn,e3]
  ·rw[e1];refine .inr ⟨z,M,hM,rfl,?_⟩;rw[aa ef.eq_1];simp (disch:=omega) [↓if_pos,hg2,hg3,hgo,hn,e3]
theorem aAg (i:al) (hil:i.groups.length≤1000) (H:Tl hp L) (H2:Tl hq L) (hY:KZ hp hq L P.l st bw) (hg2:∀ s T,get (hp s T) P.p2=some (.cells i.cells)) (hg3:∀ s T,get (hp s T) P.p3=some (.cells [.own false 1 (bf P.os)])) (s0:am) (bk:Nat) (hbk:s0.book=bk) (hb1:bk≤11∨bk=13) (ho:P.os.length≤100) (hhi:∀ x∈P.os,x≤256) (first n g:Nat) (hgl:g<i.groups.length) (hn:nth i.groups g=n) (hfn:first+n≤8) (en:Nat) (hen:en<P.os.length) (gi k:Int) (ls:List am) (K:Nat) (hK:L≤K) (rest:List (Nat×Nat)):∀ (j b N:Nat) (s:σ),b+j=en→K<N→bw ((if bk=0∨bk=13 then [] else (tU P.os (aI bk) n first j b).map (fun y=>(bk,y)))++rest) s→
  (∃ s2 M,N≤M∧gp st (if bk=0∨bk=13 then [] else (tU P.os (aI bk) n first j b).map (fun y=>(bk,y))) s=.inl s2∧bw rest s2∧
   (Dn prog).code (.loop cL) ⟨eP P first g b ((10,.ptr K 0)::(11,.d (.int .i64 en))::DE P gi (K8 ls k)),⟨hp s [(K,.cells [.d (.int .i64 s0.book),.d (.int .i64 s0.len)])],N⟩⟩ =
   some (.exit 4,⟨eP P first g en (DE P gi (K8 ls k)),⟨hp s2 [],M⟩⟩))∨
  (∃ z M,N≤M∧gp st (if bk=0∨bk=13 then [] else (tU P.os (aI bk) n first j b).map (fun y=>(bk,y))) s=.inr z∧
   (Dn prog).code (.loop cL) ⟨eP P first g b ((10,.ptr K 0)::(11,.d (.int .i64 en))::DE P gi (K8 ls k)),⟨hp s [(K,.cells [.d (.int .i64 s0.book),.d (.int .i64 s0.len)])],N⟩⟩ =
   some (.ret,⟨[],⟨hq z [],M⟩⟩)):=by
 have hG:=fun s o=>H.get s K o hK
 have hD:=fun s o=>H.del s K o hK
 intro j
 induction j with
 | zero =>
  intro b N s h1 hKN hi;have eb:b=en:=by omega
  subst eb;have e0:(if bk=0∨bk=13 then [] else (tU P.os (aI bk) n first 0 b).map (fun y=>(bk,y)))=[]:=by split<;>rfl
  rw[e0]at hi⊢;refine .inl ⟨s,N,Nat.le_refl _,rfl,hi,?_⟩;rw[aa cL.eq_1];simp (disch:=omega) [↓if_neg,hD]
 | succ j ih =>
  intro b N s h1 hKN hi;have c1:((b+1:Nat):Int)=(b:Int)+1:=rfl;by_cases h0:bk=0∨bk=13
  ·rw[if_pos h0]at hi⊢;have h9:=ih (b+1) N s (by omega) hKN (by simp_all);rw[if_pos h0,c1]at h9;rw[hbk]at h9⊢;rcases h9 with ⟨s3,M2,hM2,f1,f2,f3⟩ | ⟨z,M2,hM2,f1,f3⟩
   ·refine .inl ⟨s3,M2,by omega,f1,f2,?_⟩;rw[←f3,aa cL.eq_1];rcases h0 with h0 | h0<;>simp (disch:=omega) [↓if_pos,↓if_neg,hG]
   ·refine .inr ⟨z,M2,by omega,f1,?_⟩;rw[←f3,aa cL.eq_1];rcases h0 with h0 | h0<;>simp (disch:=omega) [↓if_pos,↓if_neg,hG]
  ·rw[if_neg h0]at hi⊢;have em:(tU P.os (aI bk) n first (j+1) b).map (fun y=>(bk,y))=(lF P.os (aI bk) b n first).map (fun y=>(bk,y))++(tU P.os (aI bk) n first j (b+1)).map (fun y=>(bk,y)):=by
    grind [tU]
   rw[em]at hi⊢;rw[List.append_assoc]at hi;rw[xB];rcases azO i hil H H2 hY hg2 hg3 s0 bk hbk (by omega) b (by omega) ho hhi first n g hgl hn hfn en gi k ls K hK _ n first N s rfl hKN hi with ⟨s2,M,hM,e1,e2,e3⟩ | ⟨z,M,hM,e1,e3⟩
   ·rw[e1];have h9:=ih (b+1) M s2 (by omega) (by omega) (by simp_all);rw[if_neg h0,c1]at h9;rw[hbk]at h9 e3⊢;rcases h9 with ⟨s3,M2,hM2,f1,f2,f3⟩ | ⟨z,M2,hM2,f1,f3⟩
    ·refine .inl ⟨s3,M2,by omega,f1,f2,?_⟩;rw[←f3,aa cL.eq_1];simp (disch:=omega) [↓if_pos,↓if_neg,hG,e3]
    ·refine .inr ⟨z,M2,by omega,f1,?_⟩;rw[←f3,aa cL.eq_1];simp (disch:=omega) [↓if_pos,↓if_neg,hG,e3]
   ·rw[e1];refine .inr ⟨z,M,hM,rfl,?_⟩;rw[aa cL.eq_1];simp (disch:=omega) [↓if_pos,↓if_neg,hG,e3]
theorem aAm (i:al) (hil:i.groups.length≤1000) (H:Tl hp L) (H2:Tl hq L) (hY:KZ hp hq L P.l st bw) (hg2:∀ s T,get (hp s T) P.p2=some (.cells i.cells)) (hg3:∀ s T,get (hp s T) P.p3=some (.cells [.own false 1 (bf P.os)])) (ho:P.os.length≤100) (hhi:∀ x∈P.os,x≤256) (first n g:Nat) (hgl:g<i.groups.length) (hn:nth i.groups g=n) (hfn:first+n≤8) (gi:Int) (ls:List am) (hls:ls.length≤1000) (rest:List (Nat×Nat)):∀ (r:List am) (k b N:Nat) (lf:Int) (s:σ),ls.drop k=r→fitsS lf r→(b:Int)+lf<P.os.length→L≤N→bw (vJ P.os n first r b++rest) s→
  (∃ s2 M,N≤M∧gp st (vJ P.os n first r b) s=.inl s2∧bw rest s2∧
   (Dn prog).code (.loop ed) ⟨eP P first g b (DE P gi (K8 ls k)),⟨hp s [],N⟩⟩ =
   some (.exit 2,⟨(0,.yield P.l)::(2,.ptr P.p2 0)::(3,.ptr P.p3 0)::(5,.d (.int .i64 first))::(6,.d (.int .i64 g))::DE P gi [],⟨hp s2 [],M⟩⟩))∨
  (∃ z M,N≤M∧gp st (vJ P.os n first r b) s=.inr z∧
   (Dn prog).code (.loop ed) ⟨eP P first g b (DE P gi (K8 ls k)),⟨hp s [],N⟩⟩ =
   some (.ret,⟨[],⟨hq z [],M⟩⟩)):=by
 intro r
 induction r with
 | nil =>
  intro k b N lf s hd hf hb hN hi;have hk:=bg hd;refine .inl ⟨s,N,Nat.le_refl _,rfl,hi,?_⟩;rw[aa ed.eq_1];simp (disch:=omega) [↓if_neg]
 | cons s0 r ih =>
  intro k b N lf s hd hf hb hN hi;have hg:=qJ hd;have hlt:=bn hd;obtain⟨⟨⟨l1,l2⟩,b1,b2⟩,hf2⟩:=hf;obtain⟨bk,hbk⟩:=Int.eq_ofNat_of_zero_le b1;have hbt:s0.book.toNat=bk:=by omega
  have hif:(s0.book=0∨s0.book=13)↔(bk=0∨bk=13):=by omega
  have em:vJ P.os n first (s0::r) b=(if bk=0∨bk=13 then [] else (tU P.os (aI bk) n first s0.len.toNat b).map (fun y=>(bk,y)))++vJ P.os n first r (b+s0.len.toNat):=by
   grind [vJ]
  rw[em]at hi⊢;rw[List.append_assoc]at hi;rw[xB];have hp1:=fun s o=>H.put s N o hN
  have hp2:=fun s o o'=>H.put2 s N o o' hN
  have hG:=fun s o=>H.get s N o hN
  have c1:((k+1:Nat):Int)=(k:Int)+1:=rfl;have cE:((b+s0.len.toNat:Nat):Int)=(b:Int)+s0.len:=by omega
  rcases aAg i hil H H2 hY hg2 hg3 s0 bk hbk (by omega) ho hhi first n g hgl hn hfn (b+s0.len.toNat) (by omega) gi k ls N hN _ s0.len.toNat b (N+1) s rfl (by omega) hi with ⟨s2,M,hM,e1,e2,e3⟩ | ⟨z,M,hM,e1,e3⟩
  ·rw[e1];have h9:=ih (k+1) (b+s0.len.toNat) M (lf-s0.len) s2 (aT hd) hf2 (by omega) (by omega) e2;rw[c1,cE]at h9;rw[cE]at e3;rcases h9 with ⟨s3,M2,hM2,f1,f2,f3⟩ | ⟨z,M2,hM2,f1,f3⟩
   ·refine .inl ⟨s3,M2,by omega,f1,f2,?_⟩;rw[←f3,aa ed.eq_1];simp (disch:=omega) [↓if_pos,hg,hp1,hp2,hG,e3]
   ·refine .inr ⟨z,M2,by omega,f1,?_⟩;rw[←f3,aa ed.eq_1];simp (disch:=omega) [↓if_pos,hg,hp1,hp2,hG,e3]
  ·rw[e1];rw[cE]at e3;refine .inr ⟨z,M,by omega,rfl,?_⟩;rw[aa ed.eq_1];simp (disch:=omega) [↓if_pos,hg,hp1,hp2,hG,e3]
theorem az1 (i:al) (hil:i.groups.length≤1000) (H:Tl hp L) (H2:Tl hq L) (hY:KZ hp hq L P.l st bw) (hg2:∀ s T,get (hp s T) P.p2=some (.cells i.cells)) (hg3:∀ s T,get (hp s T) P.p3=some (.cells [.own false 1 (bf P.os)])) (ho:P.os.length≤100) (hhi:∀ x∈P.os,x≤256) (m:Int) (hm:0≤m∧m<P.os.length) (hfl:P.full.length≤1000) (hlc:∀ l∈P.full,l.length≤1000) (hgg:∀ n∈i.groups,1≤n) (rest:List (Nat×Nat)):∀ (r:List (List am)) (q:List Int) (g first N:Nat) (s:σ),P.full.drop g=r→i.groups.drop g=q→r.length=q.length→cB m r→(first:Int)+q.sum≤8→L≤N→bw (lm P.os r q first++rest) s→
  (∃ s2 M,N≤M∧gp st (lm P.os r q first) s=.inl s2∧bw rest s2∧
   (Dn prog).code (.loop ec) ⟨(0,.yield P.l)::(2,.ptr P.p2 0)::(3,.ptr P.p3 0)::(5,.d (.int .i64 first))::DE P g [],⟨hp s [],N⟩⟩=some (.exit 0,⟨[],⟨hp s2 [],M⟩⟩))∨
  (∃ z M,N≤M∧gp st (lm P.os r q first) s=.inr z∧
   (Dn prog).code (.loop ec) ⟨(0,.yield P.l)::(2,.ptr P.p2 0)::(3,.ptr P.p3 0)::(5,.d (.int .i64 first))::DE P g [],⟨hp s [],N⟩⟩=some (.ret,⟨[],⟨hq z [],M⟩⟩)):=by
 have hg2':=hg2;simp only[al.cells]at hg2';intro r
 induction r with
 | nil =>
  intro q g first N s hd hd2 hl hf hs hN hi
  have hk:=bg hd;have hq0:q=[]:=by grind
  subst hq0;refine .inl ⟨s,N,Nat.le_refl _,rfl,hi,?_⟩;rw[aa ec.eq_1];simp (disch:=omega) [↓if_neg]
 | cons l r ih =>
  intro q g first N s hd hd2 hl hf hs hN hi
  cases q with
  | nil=>simp at hl
  | cons n0 q =>
   have hg:=kr hd;have hlt:=bn hd;have hlt2:=bn hd2;have hn0:nth i.groups g=n0:=by
    grind [kA]
   have hn1:=hgg n0 (by grind [fk]);obtain⟨n,hn⟩:=Int.eq_ofNat_of_zero_le (show 0≤n0 by omega);have hnt:n0.toNat=n:=by omega
   have hqs:0≤q.sum:=by
    have:∀ x∈q,1≤x:=fun x hx=>hgg x (by grind)
    have:=j6 this;omega
   rw[List.sum_cons]at hs;have em:lm P.os (l::r) (n0::q) first=vJ P.os n first l 0++lm P.os r q (first+n):=by rw[lm,hnt]
   rw[em]at hi⊢;rw[List.append_assoc]at hi;rw[xB];have hml:l∈P.full:=by rw[←List.take_append_drop g P.full,hd];simp
   have c0:((0:Nat):Int)=0:=rfl;have c1:((g+1:Nat):Int)=(g:Int)+1:=rfl;have cF:((first+n:Nat):Int)=(first:Int)+n:=rfl;simp only[List.length_cons,Nat.add_right_cancel_iff]at hl;rcases aAm i hil H H2 hY hg2 hg3 ho hhi first n g hlt2 (by omega) (by omega) g l (hlc l hml) _ l 0 0 N m s rfl (hf l (.head _)) (by omega) hN hi with ⟨s2,M,hM,e1,e2,e3⟩ | ⟨z,M,hM,e1,e3⟩
   ·rw[e1];have h9:=ih q (g+1) (first+n) M s2 (aT hd) (aT hd2) hl (fun x hx=>hf x (.tail _ hx)) (by omega) (by omega) e2;rw[c1,cF]at h9;rw[c0]at e3;rw[hn]at hn0;rcases h9 with ⟨s3,M2,hM2,f1,f2,f3⟩ | ⟨z,M2,hM2,f1,f3⟩
    ·refine .inl ⟨s3,M2,by omega,f1,f2,?_⟩;rw[←f3,aa ec.eq_1];simp (disch:=omega) [↓if_pos,hg,hg2',hn0,e3]
    ·refine .inr ⟨z,M2,by omega,f1,?_⟩;rw[←f3,aa ec.eq_1];simp (disch:=omega) [↓if_pos,hg,hg2',hn0,e3]
   ·rw[e1];rw[c0]at e3;refine .inr ⟨z,M,hM,rfl,?_⟩;rw[aa ec.eq_1];simp (disch:=omega) [↓if_pos,hg,e3]
end
theorem ajN {σ τ:Type}{hp:σ→ac→ac}{hq:τ→ac→ac}{L:Nat}{P:PlS}{st:Nat×Nat→σ→Sum σ τ}{bw:List (Nat×Nat)→σ→Prop}(i:al) (hi:i.Fit) (hm:i.may 11) (p1:Nat) (H:Tl hp L) (H2:Tl hq L) (hY:KZ hp hq L P.l st bw) (hg1:∀ s,get (hp s []) p1=some (.cells [.d (.lst (aK P.full))])) (hg2:∀ s T,get (hp s T) P.p2=some (.cells i.cells)) (hg3:∀ s T,get (hp s T) P.p3=some (.cells [.own false 1 (bf P.os)])) (ho:P.os.length≤100) (hhi:∀ x∈P.os,x≤256) (hmo:i.max<P.os.length) (hf:fq i P.full) (N:Nat) (hN:L≤N) (s:σ) (hs:bw (lm P.os P.full i.groups 0) s) :
  (∃ s2 M,N≤M∧gp st (lm P.os P.full i.groups 0) s=.inl s2∧bw [] s2∧(Dn prog).call dq [.yield P.l,.ptr p1 0,.ptr P.p2 0,.ptr P.p3 0] ⟨hp s [],N⟩=some (.tup [],⟨hp s2 [],M⟩))∨
  (∃ z M,N≤M∧gp st (lm P.os P.full i.groups 0) s=.inr z∧(Dn prog).call dq [.yield P.l,.ptr p1 0,.ptr P.p2 0,.ptr P.p3 0] ⟨hp s [],N⟩=some (.tup [],⟨hq z [],M⟩)):=by
 have hmx:=jh hm;obtain⟨g1,g2⟩:=b6 hm;have hmm:i.many≤8:=by unfold al.many;split<;>omega
 have hgl:i.groups.length≤8:=by have:=j6 (fun n hn=>(g1 n hn).1);omega
 have hlc:∀ l∈P.full,l.length≤1000:=fun l hl=>by
  rcases Bh (hf.2 l hl) with h | h
  ·omega
  ·subst h;simp
 have hfl:=hf.1;have c0:((0:Nat):Int)=0:=rfl;have h:=az1 i hi.len H H2 hY hg2 hg3 ho hhi i.max ⟨hmx.1,hmo⟩ (by omega) hlc (fun n hn=>(g1 n hn).1) [] P.full i.groups 0 0 N s rfl rfl hfl hf.2 (by omega) hN (by rw[List.append_nil];exact hs);rw[c0]at h;rw[aD ac9 wa.eq_1 rfl];rcases h with ⟨s2,M,hM,e1,e2,e3⟩ | ⟨z,M,hM,e1,e3⟩
 ·refine .inl ⟨s2,M,hM,e1,e2,?_⟩;simp (maxSteps:=300000) (disch:=omega) [hg1,e3]
 ·refine .inr ⟨z,M,hM,e1,?_⟩;simp (maxSteps:=300000) (disch:=omega) [hg1,e3]
theorem HN (r:Nat) (hr:r≤11) (i:al) (y:D) (H:ac) (N:Nat) (hL:Lt H N):(Dn prog).call uh [.d (.int .i64 r),.agg i.cells,.d y] ⟨H,N⟩=some (.fn dq [] [.ptr (N+1) 0,.ptr N 0,.ptr (N+1+1) 0],⟨H++[(N,.cells i.cells)]++[(N+1,.cells [.d y])]++[(N+1+1,.cells [.own false 1 (bf (offs r i.short))])],N+1+1+1⟩):=by
 have hof:=ug r i.short;rw[if_pos (by omega)]at hof;simp only[Int.toNat_natCast]at hof;have L1:=GT (o:=.cells i.cells) hL;have L2:=GT (o:=.cells [.d y]) L1;have e1:=fun o=>pc (o:=o) hL
 have e2:=fun o=>pc (o:=o) L1
 have e3:=fun o=>pc (o:=o) L2
 have e4:=wt (N:=N+1) (o:=.cells [.d y]) (si (o:=.cells i.cells) hL);have e5:=fun o=>si (o:=o) L2
 have e6:=fun o o'=>Fq (o:=o) (o':=o') L2
 have hsh:i.short=decide (i.seq=2):=rfl;rw[aD aj2 AZ.eq_1 rfl];simp only[al.cells]at e1 e2 e3 e4 e5 e6⊢;by_cases hs2:i.seq=2
 ·rw[decide_eq_true hs2]at hsh;rw[hsh]at hof⊢;simp (maxSteps:=300000) (disch:=omega) [↓if_pos,↓if_neg,hof,e1,e2,e3,e4,e5,e6,-List.append_assoc]
 ·rw[decide_eq_false hs2]at hsh;rw[hsh]at hof⊢;simp (maxSteps:=300000) (disch:=omega) [↓if_pos,↓if_neg,hof,e1,e2,e3,e4,e5,e6,-List.append_assoc]
abbrev azm:List AV:=[.d (.int .i64 0),.d (.int .i64 0),.nl,.nl]
abbrev kI (id:Nat):List AV:=[.d (.int .i64 id),.d (.int .i64 (aG id)),.own false 1 (bf (aS id)),.own false 1 (bf (bF id))]
def An (C:List AV):Prop:=C.length=48∧∀ id,id<12→sub C (4*id) 4=azm∨(1≤id∧sub C (4*id) 4=kI id)
theorem H6 {α:Type}{C:List α}{a k:Nat}(hk:k<4):(sub C a 4)[k]?=C[a+k]?:=by
 unfold sub;rw[List.getElem?_take,if_pos hk,List.getElem?_drop]
theorem Mh {α:Type}{C W:List α}{a:Nat}(hw:W.length=4) (ha:a+4≤C.length):sub (ah C a W) a 4=W:=by
 unfold sub ah;have h1:(C.take a).length=a:=by rw[List.length_take];omega
 rw[List.append_assoc,List.drop_append_of_le_length (by omega),List.drop_eq_nil_of_le (by omega),List.nil_append,←hw,List.take_left'];rfl
theorem agH {α:Type}{C W:List α}{a b:Nat}(hw:W.length=4) (ha:a+4≤C.length) (hb:b+4≤C.length) (h:b+4≤a∨a+4≤b):sub (ah C a W) b 4=sub C b 4:=by
 apply List.ext_getElem?;intro k;by_cases hk:k<4
 ·rw[H6 hk,H6 hk];unfold ah;have h1:(C.take a).length=a:=by rw[List.length_take];omega
  rcases h with h | h
  ·rw[List.append_assoc,List.getElem?_append_left (by omega),List.getElem?_take,if_pos (by omega)]
  ·rw[List.getElem?_append_right (by rw[List.length_append];omega),List.getElem?_drop,List.length_append,h1,hw]
   congr 1;omega
 ·unfold sub;rw[List.getElem?_eq_none (by rw[List.length_take];omega),List.getElem?_eq_none (by rw[List.length_take];omega)]
theorem anI {α:Type}{C W:List α}{a:Nat}(hw:W.length=4) (ha:a+4≤C.length):(ah C a W).length=C.length:=by
 unfold ah;simp only[List.length_append,List.length_take,List.length_drop];omega
theorem asG {C W:List AV}{a:Nat}(ha:a+4≤C.length) (h:sub C a 4=W):ah C a W=C:=by
 subst h;unfold ah sub;rw[List.length_take,List.length_drop,show a+min 4 (C.length-a)=a+4 by omega,List.append_assoc,←List.drop_drop,List.take_append_drop,List.take_append_drop]
theorem afu {C:List AV}(h:An C) {id:Nat}(hid:1≤id∧id≤11):An (ah C (4*id) (kI id)):=by
 refine⟨by rw[anI rfl (by rw[h.1];omega)];exact h.1,fun j hj=>?_⟩;by_cases e:j=id
 ·subst e;exact .inr ⟨hid.1,Mh rfl (by rw[h.1];omega)⟩
 ·rw[agH rfl (by rw[h.1];omega) (by rw[h.1];omega) (by omega)];exact h.2 j hj
structure Bk (hp:List AV→ac→ac) (A N:Nat):Prop where
 gA:∀ C T,get (hp C T) A=some (.cells C)
 pA:∀ C T C',put (hp C T) A (.cells C')=hp C' T
 pN:∀ C o,put (hp C []) N o=hp C [(N,o)]
 pN2:∀ C o o',put (hp C [(N,o)]) N o'=hp C [(N,o')]
 gN:∀ C o,get (hp C [(N,o)]) N=some o
 dN:∀ C o,del (hp C [(N,o)]) N=hp C []
theorem Ma {hp:List AV→ac→ac}{A N:Nat}(H:Bk hp A N) (C:List AV) (hC:An C) (id:Nat) (hid:1≤id∧id≤11):(Dn prog).call iq [.ptr A 0,.d (.int .i64 id)] ⟨hp C [],N⟩=some (iX id,⟨hp (ah C (4*id) (kI id)) [],N+1⟩):=by
 have hb:=TZ id (by omega);simp only[Nw]at hb;have h48:=hC.1;have hia:∀ p,DS 12 4 (.ptr p 0) (.d (.int .i64 id))=some (.ptr p (4*id)):=fun p=>by
  have hb2:Nat.ble 12 id=false:=by rw[Z8];exact decide_eq_false (by omega)
  simp only[DS,NL (show (0:Int)≤id by omega),Int.toNat_natCast,hb2,gy];rw[Nat.zero_add,Nat.mul_comm]
 rw[aD Zm tJ.eq_1 rfl];rcases hC.2 id (by omega) with h0 | ⟨_,h1⟩
 ·have e0:C[4*id]?=some (.d (.int .i64 0)):=by rw[←Nat.add_zero (4*id),←H6 (by omega),h0];rfl
  obtain⟨hl0,e0⟩:=List.getElem?_eq_some_iff.1 e0;have hsm:=Mh (C:=C) (W:=kI id) (a:=4*id) rfl (by rw[h48];omega);have hsl:=anI (C:=C) (W:=kI id) (a:=4*id) rfl (by rw[h48];omega);rw[h48]at hsl;simp (maxSteps:=300000) (disch:=omega) [↓if_pos,↓if_neg,H.gA,H.pA,H.pN,H.pN2,H.gN,H.dN,hia,e0,hb,-ah,-sub,-It,-anZ,hsm,hsl];simp
 ·have e0:C[4*id]?=some (.d (.int .i64 id)):=by rw[←Nat.add_zero (4*id),←H6 (by omega),h1];rfl
  obtain⟨hl0,e0⟩:=List.getElem?_eq_some_iff.1 e0;rw[asG (by omega) h1];simp (maxSteps:=300000) (disch:=omega) [↓if_pos,↓if_neg,H.gA,H.pA,H.pN,H.pN2,H.gN,H.dN,hia,e0,hb,-ah,-sub,-It,-anZ,h1];simp
theorem ael (l:List aV) (hl:l.length≤100000) (h:ac) (N:Nat):(Dn prog).call l8 [.d (.lst (bX l))] ⟨h,N⟩=some (.d (.bool (decide (0<l.length))),⟨h,N⟩):=by
 rw[aD R5 rQ.eq_1 rfl];by_cases h0:0<l.length
 ·rw[decide_eq_true h0];simp (maxSteps:=300000) (disch:=omega) [↓if_pos]
 ·rw[decide_eq_false h0];simp (maxSteps:=300000) (disch:=omega) [↓if_neg]
theorem Xn (F:AV) (P:List aV→Bool) (l:List (List aV)) (hl:l.length≤1000000000) (h:ac) (N:Nat) (hF:firm (share F)=F) (hc:∀ v∈l,bc (Dn prog) F [.d (.lst (bX v))] ⟨h,N⟩=some (.d (.bool (P v)),⟨h,N⟩)):∀ (r:List (List aV)) (i:Nat),l.drop i=r→
  (r.any P=true∧∃ k:Nat,(Dn prog).code (.loop bz) ⟨[(0,.d (.lst (bt l))),(1,F),(7,.d (.int .i64 l.length)),(8,.d (.int .i64 i))],⟨h,N⟩⟩=some (.ret,⟨[(4,.d (.int .i64 k))],⟨h,N⟩⟩))∨
  (r.any P=false∧(Dn prog).code (.loop bz) ⟨[(0,.d (.lst (bt l))),(1,F),(7,.d (.int .i64 l.length)),(8,.d (.int .i64 i))],⟨h,N⟩⟩=some (.exit 0,⟨[],⟨h,N⟩⟩)):=by
 intro r
 induction r with
 | nil =>
  intro i hd;have hi:=bg hd;refine .inr ⟨rfl,?_⟩;rw[aa bz.eq_1];simp (maxSteps:=300000) (disch:=omega) [↓if_neg]
 | cons v r ih =>
  intro i hd;have hg:=DH hd;have hlt:=bn hd;have hv:=hc v (by rw[←List.take_append_drop i l,hd];simp);have h5:=ih (i+1) (aT hd);have c1:((i+1:Nat):Int)=(i:Int)+1:=rfl;rw[c1]at h5
  cases hp:P v with
  | true =>
   rw[hp]at hv;refine .inl ⟨by rw[List.any_cons,hp];rfl,i,?_⟩;rw[aa bz.eq_1];simp (maxSteps:=300000) (disch:=omega) [↓if_pos,↓if_neg,hg,hF,hv]
  | false =>
   rw[hp]at hv;rw[List.any_cons,hp,Bool.false_or];rcases h5 with ⟨e1,k,e2⟩ | ⟨e1,e2⟩
   ·refine .inl ⟨e1,k,?_⟩;rw[aa bz.eq_1,←e2];simp (maxSteps:=300000) (disch:=omega) [↓if_pos,↓if_neg,hg,hF,hv]
   ·refine .inr ⟨e1,?_⟩;rw[aa bz.eq_1,←e2];simp (maxSteps:=300000) (disch:=omega) [↓if_pos,↓if_neg,hg,hF,hv]
theorem Yt (F:AV) (P:List aV→Bool) (l:List (List aV)) (hl:l.length≤1000000000) (h:ac) (N:Nat) (hF:firm (share F)=F) (hF2:firm F=F) (hc:∀ v∈l,bc (Dn prog) F [.d (.lst (bX v))] ⟨h,N⟩=some (.d (.bool (P v)),⟨h,N⟩)) :
  (Dn prog).call fL [.d (.lst (bt l)),F] ⟨h,N⟩=some (.d (.bool (l.any P)),⟨h,N⟩):=by
 have h1:=Xn F P l hl h N hF hc l 0 rfl;have c0:((0:Nat):Int)=0:=rfl;rw[c0]at h1;have h2:∃ k:Int,(0≤k↔l.any P=true)∧(Dn prog).call gZ [.d (.lst (bt l)),F] ⟨h,N⟩=some (.d (.int .i64 k),⟨h,N⟩):=by
  rcases h1 with ⟨e1,k,e2⟩ | ⟨e1,e2⟩
  ·refine⟨k,⟨fun _=>e1,fun _=>by omega⟩,?_⟩;rw[aD lH ep.eq_1 rfl];simp (maxSteps:=300000) (disch:=omega) [e2]
  ·refine⟨-1,⟨fun h=>by omega,fun h=>by rw[e1]at h;exact absurd h (by simp)⟩,?_⟩;rw[aD lH ep.eq_1 rfl];simp (maxSteps:=300000) (disch:=omega) [e2]
 obtain⟨k,e1,e2⟩:=h2;rw[aD tx fT.eq_1 rfl]
 cases hp:l.any P with
 | true =>
  have:=e1.2 hp;simp (maxSteps:=300000) (disch:=omega) [↓if_pos,hF2,e2]
 | false =>
  have:¬ 0≤k:=fun h=>by rw[e1.1 h]at hp;exact absurd hp (by simp)
  simp (maxSteps:=300000) (disch:=omega) [↓if_neg,hF2,e2]
def nJ (t:List (List aV)):Bool:=t.any fun l=>decide (0<l.length)
theorem Ky (t:List (List aV)) (ht:t.length≤100000) (ht2:∀ l∈t,l.length≤100000):aM prog oH [.d (.lst (bt t))]=some (.d (.bool (nJ t))):=by
 have h:=Yt (.fn l8 [] []) (fun l=>decide (0<l.length)) t (by omega) [] 0 rfl rfl fun v hv=>by
  have:=ael v (ht2 v hv) [] 0;simpa using this
 rw[az aaD wR.eq_1 rfl];unfold nJ;simp (maxSteps:=300000) (disch:=omega) [h]
theorem Gz {d hi:Nat}(hd:1≤d):∀ {f lo x:Nat},(hi-lo) % d=0→x∈nj d hi f lo→lo≤x∧x+d≤hi∧(x-lo) % d=0
 | 0,lo,x,_,h=>by simp[nj]at h
 | f+1,lo,x,hm,h=>by
  rw[nj]at h;by_cases h1:lo<hi
  ·rw[if_pos h1]at h;have h2:lo+d≤hi:=by
    rcases Nat.lt_or_ge (hi-lo) d with h3 | h3
    ·rw[Nat.mod_eq_of_lt h3]at hm;omega
    ·omega
   rcases List.mem_cons.1 h with e | e
   ·subst e;exact⟨Nat.le_refl _,h2,by simp⟩
   ·have h4:(hi-(lo+d)) % d=0:=by
     have:hi-lo=hi-(lo+d)+d:=by omega
     rw[this,Nat.add_mod_right]at hm;exact hm
    have ⟨a,b,c⟩:=Gz hd h4 e;refine⟨by omega,b,?_⟩;have:x-lo=x-(lo+d)+d:=by omega
    rw[this,Nat.add_mod_right];exact c
  ·rw[if_neg h1]at h;simp at h
theorem ab2 {os:List Nat}{d b:Nat}:∀ {k w y:Nat},y∈lF os d b k w→∃ w' x,w≤w'∧w'<w+k∧x∈nj d (nth os (b+1)) 300 (nth os b)∧y=w'*32+x
 | 0,w,y,h=>by simp[lF]at h
 | k+1,w,y,h=>by
  rw[lF,List.mem_append]at h;rcases h with h | h
  ·obtain⟨x,hx,e⟩:=List.mem_map.1 h;exact⟨w,x,Nat.le_refl _,by omega,hx,e.symm⟩
  ·obtain⟨w',x,a,b,c,e⟩:=ab2 h;exact⟨w',x,by omega,by omega,c,e⟩
theorem NW {os:List Nat}{d n first:Nat}:∀ {k b y:Nat},y∈tU os d n first k b→∃ b',b≤b'∧b'<b+k∧y∈lF os d b' n first
 | 0,b,y,h=>by simp[tU]at h
 | k+1,b,y,h=>by
  rw[tU,List.mem_append]at h;rcases h with h | h
  ·exact⟨b,Nat.le_refl _,by omega,h⟩
  ·obtain⟨b',a,c,e⟩:=NW h;exact⟨b',by omega,by omega,e⟩
theorem Nv {os:List Nat}{n first:Nat}:∀ {r:List am}{b:Nat}{lf:Int}{p:Nat×Nat},fitsS lf r→p∈vJ os n first r b→∃ j,(ak r)[j]?=some (p.1:Int)∧(1≤p.1∧p.1≤11)∧p.2∈lF os (aI p.1) (b+j) n first
 | [],b,lf,p,_,h=>by simp[vJ]at h
 | s::r,b,lf,p,hf,h=>by
  obtain⟨⟨⟨l1,l2⟩,b1,b2⟩,hf2⟩:=hf;have eb:ak (s::r)=List.replicate s.len.toNat s.book++ak r:=by rw[ak,List.flatMap_cons];rfl
  rw[vJ,List.mem_append]at h;rcases h with h | h
  ·by_cases h0:s.book=0∨s.book=13
   ·rw[if_pos h0]at h;simp at h
   ·rw[if_neg h0]at h;obtain⟨y,hy,e⟩:=List.mem_map.1 h;subst e;obtain⟨b',c1,c2,c3⟩:=NW hy;refine⟨b'-b,?_,by simp only[];omega,by rw[show b+(b'-b)=b' by omega];exact c3⟩;rw[eb,List.getElem?_append_left (by simp;omega),List.getElem?_replicate,if_pos (by omega)];simp only[Option.some.injEq];omega
  ·obtain⟨j,a,c,e⟩:=Nv hf2 h;refine⟨s.len.toNat+j,?_,c,by rw[←Nat.add_assoc];exact e⟩;rw[eb,List.getElem?_append_right (by simp),List.length_replicate,Nat.add_sub_cancel_left];exact a
theorem Ga {os:List Nat}{m:Int}:∀ {r:List (List am)}{q:List Int}{first:Nat}{p:Nat×Nat},cB m r→(∀ n∈q,1≤n)→p∈lm os r q first→∃ (w g j:Nat) (l:List am),r[g]?=some l∧first≤w∧(w:Int)<first+q.sum∧ja q ((w:Int)-first)=g∧(ak l)[j]?=some (p.1:Int)∧(1≤p.1∧p.1≤11)∧∃ x∈nj (aI p.1) (nth os (j+1)) 300 (nth os j),p.2=w*32+x
 | [],q,first,p,_,_,h=>by simp[lm]at h
 | l::r,[],first,p,_,_,h=>by simp[lm]at h
 | l::r,n::q,first,p,hf,hn,h=>by
  have hn1:=hn n (.head _);have hqs:0≤q.sum:=by have:=j6 fun x hx=>hn x (.tail _ hx);omega
  rw[lm,List.mem_append]at h;rw[List.sum_cons];rcases h with h | h
  ·obtain⟨j,a,c,e⟩:=Nv (hf l (.head _)) h;rw[Nat.zero_add]at e;obtain⟨w,x,e1,e2,e3,e4⟩:=ab2 e;refine⟨w,0,j,l,rfl,e1,by omega,?_,a,c,x,e3,e4⟩;rw[ja,if_pos (by omega)]
  ·obtain⟨w,g,j,l',e1,e2,e3,e4,e5,e6,e7⟩:=Ga (fun x hx=>hf x (.tail _ hx)) (fun x hx=>hn x (.tail _ hx)) h;refine⟨w,g+1,j,l',by simpa using e1,by omega,by omega,?_,e5,e6,e7⟩;rw[ja,if_neg (by omega)];have:(w:Int)-first-n=(w:Int)-((first+n.toNat:Nat):Int):=by omega
   rw[this,e4]
theorem mQ:∀ x∈z7,((List.range ((offs x.1 x.2).length-1)).all fun j=>decide (nth (offs x.1 x.2) j<nth (offs x.1 x.2) (j+1)) && decide ((nth (offs x.1 x.2) (j+1)-nth (offs x.1 x.2) j) % 4=0))=true∧nth (offs x.1 x.2) 0=0∧(offs x.1 x.2).all (fun y=>decide (y≤cond x.2 32 256))=true:=by decide +kernel
theorem aeA {tl:List Nat}{bks:List Int}:∀ {ls:List Int}{i j:Nat}{v:Int},nW tl bks i ls→ls[j]?=some v→Gk tl bks (i+j) v
 | [],i,j,v,_,h=>by simp at h
 | u::r,i,0,v,h,e=>by
  simp only[List.getElem?_cons_zero,Option.some.injEq]at e;subst e;exact h.1
 | u::r,i,j+1,v,h,e=>by
  have:=aeA (j:=j) h.2 (by simpa using e);rw[show i+(j+1)=i+1+j by omega];exact this
theorem afm {r:Nat}{c:cg}:∀ {k w w':Nat},BX r c k w→w≤w'→w'<w+k→nW ((offs r c.info.short).drop 1) (ak (tF c w')) 0 (uk c w')
 | 0,w,w',_,h1,h2=>by omega
 | k+1,w,w',h,h1,h2=>by
  rcases Nat.lt_or_ge w w' with h3 | h3
  ·exact afm h.2 h3 (by omega)
  ·have:w'=w:=by omega
   subst this;exact h.1
theorem ajq {os:List Nat}{b i:Nat}(hs:∀ j,j+1<os.length→nth os j<nth os (j+1)) (hb:b+1<os.length) (h1:nth os b≤i) (h2:i<nth os (b+1)):jI (os.drop 1) i=b:=by
 have hmono:∀ k j,j+k<os.length→nth os j≤nth os (j+k):=by
  intro k
  induction k with
  | zero=>intro j _;exact Nat.le_refl _
  | succ k ih =>
   intro j hj;have a:=ih j (by omega);have b:=hs (j+k) (by omega);rw[show j+(k+1)=j+k+1 by omega];omega
 have hlen:(os.drop 1).length=os.length-1:=by simp
 rw[U9 (b:=b) (by omega) ?_]
 ·have hdd:(os.drop 1).drop b=os.drop (b+1):=by rw[List.drop_drop];congr 1;omega
  rw[hdd,kA hb,jI,if_neg (by omega)];rfl
 ·intro x hx;obtain⟨j,hj,e⟩:=List.mem_iff_getElem.1 hx;have hj2:j<b:=by have:=hj;simp only[List.length_take]at this;omega
  rw[List.getElem_take,List.getElem_drop]at e;have hn:nth os (1+j)=x:=by
   have h9:=sD (l:=os) (i:=1+j) (by omega);rw[List.getElem?_eq_getElem (by omega),e]at h9;injection h9 with h9;exact h9.symm
  have:=hmono (b-(1+j)) (1+j) (by omega);rw[show 1+j+(b-(1+j))=b by omega]at this;omega
theorem aeI {r:Nat}{c:cg}(hc:c.Fit) (h:wg r c) (hr:r≤11) {p:Nat×Nat}(hp:p∈lm (offs r c.info.short) c.sects c.info.groups 0):(1≤p.1∧p.1≤11)∧p.2+aI p.1≤256∧K5 p.1 ((c.lines.drop p.2).take (aI p.1)):=by
 have hm11:=im hr h.info;obtain⟨g1,g2⟩:=b6 hm11;obtain⟨w,g,j,l,e1,e2,e3,e4,e5,e6,x,e7,e8⟩:=Ga h.sects.2 (fun n hn=>(g1 n hn).1) hp;obtain⟨o1,o2,o3⟩:=mQ (r,c.info.short) (dQ (by omega));simp only at o1 o2 o3;have hmx:=h.info.2.2.2.1;have hlm:l∈c.sects:=List.mem_of_getElem? e1;have hbl:=lI (h.sects.2 l hlm) h.info.2.2.1;have hjl:j<(ak l).length:=(List.getElem?_eq_some_iff.1 e5).1;have hmy:kL r (decide (c.info.seq=2))=(offs r c.info.short).length-1:=rfl;have hj1:j+1<(offs r c.info.short).length:=by omega
 have hoj:nth (offs r c.info.short) j<nth (offs r c.info.short) (j+1)∧(nth (offs r c.info.short) (j+1)-nth (offs r c.info.short) j) % 4=0:=by
  have:=List.all_eq_true.1 o1 j (List.mem_range.2 (by omega));simpa using this
 have hos:∀ k,k+1<(offs r c.info.short).length→nth (offs r c.info.short) k<nth (offs r c.info.short) (k+1):=fun k hk=>by
  have:=List.all_eq_true.1 o1 k (List.mem_range.2 (by omega));simp only[Bool.and_eq_true,decide_eq_true_eq]at this;exact this.1
 have hd4:aI p.1=4∨aI p.1=2:=by unfold aI;split<;>simp
 have hx:=Gz (d:=aI p.1) (by omega) (by rcases hd4 with h | h<;>rw[h]<;>omega) e7;have hw:(w:Int)<c.info.many:=by omega
 have ho256:nth (offs r c.info.short) (j+1)≤cond c.info.short 32 256:=by
  have:=List.all_eq_true.1 o3 _ (fk hj1);simpa using this
 have hcond:(cond c.info.short 32 256:Nat)=c.info.wide:=by
  unfold al.short al.wide;by_cases h:c.info.seq=2
  ·rw[decide_eq_true h,if_pos h];rfl
  ·rw[decide_eq_false h,if_neg h];rfl
 rw[hcond]at ho256;have hww:w*32=w*c.info.wide∧w*c.info.wide+c.info.wide≤256:=by
  unfold al.many at hw;unfold al.wide;split at hw
  ·rename_i h2;rw[if_pos h2];omega
  ·rename_i h2;rw[if_neg h2];omega
 have hl:=h.lines.1;have hle:p.2+aI p.1≤256:=by omega
 refine⟨e6,hle,?_,fun v hv=>?_⟩
 ·rw[List.length_take,List.length_drop];omega
 ·obtain⟨k,hk,ek⟩:=List.mem_iff_getElem.1 hv;have hk2:k<aI p.1:=by have:=hk;simp only[List.length_take]at this;omega
  rw[List.getElem_take,List.getElem_drop]at ek;have hf:=afm h.lines.2 (w':=w) (by omega) (by omega);have hwl:(uk c w)[x+k]?=some v:=by
   unfold uk;rw[List.getElem?_take,if_pos (by omega),List.getElem?_drop,show w*c.info.wide+(x+k)=p.2+k by omega,List.getElem?_eq_getElem (by omega),ek]
  have hlo:=aeA hf hwl;rw[Nat.zero_add]at hlo;have hgr:ja c.info.groups w=g:=by rw[←e4];congr 1
  have hsa:tF c w=l:=by
   unfold tF;rw[hgr,List.getD_eq_getElem?_getD,e1];rfl
  have hba:=ajq (i:=x+k) hos hj1 (by omega) (by omega);unfold Gk at hlo;rw[hsa,hba,e5]at hlo;rcases hlo with h0 | ⟨k',a1,a2,a3⟩
  ·subst h0;simp
  ·injection a1 with a1
   subst a1;simpa using a3
abbrev FQ (c:cg) (os:List Nat) (q:Obj) (C:List AV) (v:AV) (T:ac):ac :=
 (0,.cells c.av)::(1,.cells C)::(2,.cells [.ptr 1 0])::(3,.cells [v])::(4,.cells c.info.cells)::(5,.cells [.d (.lst (aK c.sects))])::(6,.cells [.own false 1 (bf os)])::(7,q)::T
abbrev ayw (x0:AV):ao:=[(0,x0),(6,.ptr 0 0),(11,.ptr 2 0),(12,.ptr 3 0),(86,.fn dq [] [.ptr 5 0,.ptr 4 0,.ptr 6 0])]
abbrev N3 (x0:AV):Obj:=.loop (ayw x0) [87] oe nS false none
def nt (c:cg) (p:Nat×Nat):List Nat:=xk p.1 ((c.lines.drop p.2).take (aI p.1))
theorem afa {id:Nat}(hid:1≤id∧id≤11) {vs:List Int}(hv:K5 id vs):1≤(xk id vs).length∧(xk id vs).length≤200:=by
 have hok:eY id:=by omega
 obtain⟨m1,m2,m3,m4⟩:=tD id (No hid);obtain⟨f1,f2⟩:=Hs hid hv;have hd4:aI id≤4:=by unfold aI;split<;>omega
 have hvl:=hv.1;have hv8:∀ v∈vs,v.natAbs≤8191:=fun v h=>Nat.le_trans (hv.2 v h) m4
 have hmany:ax id=aW id ^ bQ id:=rfl;unfold xk;by_cases hs:fZ id=true
 ·have hin:=f1 hs;have hlt:=AC (n:=0) (j:=0) hin.2 (by simp);rw[Nat.zero_add,hin.1,←hmany]at hlt;have:=sA hok hlt;rw[if_pos hs];omega
 ·have hin:=f2 (by simpa using hs);have hlt:=AC (n:=0) (j:=0) hin.2 (by simp);rw[Nat.zero_add,hin.1,←hmany]at hlt;have:=sA hok hlt;have hsl:=akH (vs:=vs);have hel:=RK (id:=id) hv8;rw[if_neg hs];simp only[List.length_append];omega
theorem axs {m:Nat}{xs ys:List (List D)}(hl:xs.length+ys.length≤1000000000):∃ v,(∀ h,cf m h (au m xs) ys=some (v,h))∧firm v=au m (xs++ys):=by
 obtain⟨v,h1,h2⟩:=arG (m:=m) (h:=[]) hl;refine⟨v,fun h=>?_,h2⟩
 cases xs with
 | nil =>
  cases ys with
  | nil=>injection h1 with h1;injection h1 with h1;subst h1;rfl
  | cons y r =>
   simp only[ky,aw4,ac5,aq]at h1⊢;split at h1
   ·rename_i h9;rw[if_pos h9];injection h1 with h1;injection h1 with h1;subst h1;rfl
   ·exact absurd h1 (by simp)
 | cons x r =>
  simp only[afl,ant,ac5,amR,anl,aq]at h1⊢;split at h1
  ·rename_i h9;rw[if_pos h9];split at h1
   ·rename_i h8;rw[if_pos h8];split at h1
    ·rename_i h7;rw[if_pos h7];injection h1 with h1;injection h1 with h1;subst h1;rfl
    ·exact absurd h1 (by simp)
   ·exact absurd h1 (by simp)
  ·exact absurd h1 (by simp)
theorem aDV (c:cg) (hl:c.lines.length=256) (os:List Nat) (x0:AV) (hx0:share x0=x0) (p:Nat×Nat) (hp:(1≤p.1∧p.1≤11)∧p.2+aI p.1≤256∧K5 p.1 ((c.lines.drop p.2).take (aI p.1))) (C:List AV) (hC:An C) (acc:List Nat) (hacc:acc.length≤900000000) (K:Nat) (o:Obj) (hK:8≤K) (N:Nat) (hN:K<N) :
  bc (Dn prog) (.yield 7) [.agg [.d (.int .i64 (p.1:Int)),.d (.int .i64 (p.2:Int)),.d (.int .i64 ((p.2+aI p.1:Nat):Int))]] ⟨FQ c os (N3 x0) C (au 1 (af acc)) [(K,o)],N⟩=some (.d (.bool true),⟨FQ c os (N3 x0) (ah C (4*p.1) (kI p.1)) (au 1 (af (acc++nt c p))) [(K,o)],N+1+1⟩):=by
 obtain⟨h1,h2,h3⟩:=hp;have hH:=atz [] (by simp) .nl (.inr ⟨rfl,rfl⟩) p.1 h1 _ h3;have hhl:=afa h1 h3;rw[List.nil_append]at hH;have hsl:=fun h=>akr (h:=h) (l:=c.lines) (a:=p.2) (b:=p.2+aI p.1) (by omega) (by omega) (p.2:Int) ((p.2+aI p.1:Nat):Int) rfl rfl
 simp only[Nat.add_sub_cancel_left]at hsl;have hBk:Bk (fun C T=>FQ c os (.loop (ayw x0) [87] oe nS true none) C (au 1 (af acc)) ([(K,o),(N,.cells [.d (.int .i64 (p.1:Int)),.d (.int .i64 (p.2:Int)),.d (.int .i64 ((p.2+aI p.1:Nat):Int))])]++T)) 1 (N+1):=by
  have hK0:K≠0∧K≠1∧K≠2:=by omega
  constructor
  ·intro C T;simp
  ·intro C T C';simp
  ·intro C o;simp (disch:=omega) [↓if_neg]
  ·intro C o o';simp (disch:=omega) [↓if_neg]
  ·intro C o;simp (disch:=omega) [↓if_neg]
  ·intro C o;simp (disch:=omega) [↓if_neg]
 have hB:=Ma hBk C hC p.1 h1;generalize ah C (4*p.1) (kI p.1)=C2 at *;have hbl:(af (nt c p)).length=(nt c p).length:=eg;have hba:(af acc).length=acc.length:=eg;obtain⟨wv,hw1,hw2⟩:=axs (m:=1) (xs:=af acc) (ys:=af (nt c p)) (by unfold nt;unfold nt at hbl;omega);have hne:af (acc++nt c p)≠[]:=by
  intro h;have:=congrArg List.length h;rw[eg,List.length_append,List.length_nil]at this;unfold nt at this;omega
 rw[aiW,lE hne]at hw2;rw[lE hne];have hLB:xk p.1 ((c.lines.drop p.2).take (aI p.1))=nt c p:=rfl;rw[hLB]at hH;simp only[iX,List.append_nil]at hB hH;simp only[FQ,cg.av,al.cells,List.cons_append,List.nil_append,oe,nS]at hB⊢;generalize nt c p=LB at *;generalize (c.lines.drop p.2).take (aI p.1)=LS at *;generalize ((p.2+aI p.1:Nat):Int)=TO at *;simp (config := { maxSteps:=1000000 }) (disch:=omega) [oe,nS,↓if_pos,↓if_neg,hx0,hsl,hH,hB,hw1,hw2]
theorem azU (c:cg) (hl:c.lines.length=256) (os:List Nat) (x0:AV) (hx0:share x0=x0) (TOT:List Nat) (hT:TOT.length≤900000000):KZ (fun(s:List AV×List Nat) T=>FQ c os (N3 x0) s.1 (au 1 (af s.2)) T) noH 8 7 (fun p s=>.inl (ah s.1 (4*p.1) (kI p.1),s.2++nt c p))
  (fun r s=>An s.1∧s.2++r.flatMap (nt c)=TOT∧∀ p∈r,(1≤p.1∧p.1≤11)∧p.2+aI p.1≤256∧K5 p.1 ((c.lines.drop p.2).take (aI p.1))):=by
 intro p r s K o N hi hK hN;obtain⟨i1,i2,i3⟩:=hi;have hp:=i3 p (.head _);have hal:s.2.length≤900000000:=by rw[←i2,List.length_append]at hT;omega
 refine .inl ⟨_,N+1+1,by omega,rfl,⟨afu i1 hp.1,?_,fun q hq=>i3 q (.tail _ hq)⟩,aDV c hl os x0 hx0 p hp s.1 i1 s.2 hal K o hK N hN⟩;rw[List.flatMap_cons,←List.append_assoc]at i2;exact i2
theorem aDq {c:cg}{os:List Nat}{x0:AV}:Tl (fun(s:List AV×List Nat) T=>FQ c os (N3 x0) s.1 (au 1 (af s.2)) T) 8:=by
 constructor
 ·intro s K o h;simp (disch:=omega) [↓if_neg]
 ·intro s K o o' h;simp (disch:=omega) [↓if_neg]
 ·intro s K o h;simp (disch:=omega) [↓if_neg]
 ·intro s K o h;simp (disch:=omega) [↓if_neg]
def jA (r:Nat) (c:cg):List Nat:=(lm (offs r c.info.short) c.sects c.info.groups 0).flatMap (nt c)
abbrev mE:List AV:=[.d (.int .i64 0),.d (.int .i64 0),.nl,.nl,.d (.int .i64 0),.d (.int .i64 0),.nl,.nl,.d (.int .i64 0),.d (.int .i64 0),.nl,.nl,.d (.int .i64 0),.d (.int .i64 0),.nl,.nl,.d (.int .i64 0),.d (.int .i64 0),.nl,.nl,.d (.int .i64 0),.d (.int .i64 0),.nl,.nl,.d (.int .i64 0),.d (.int .i64 0),.nl,.nl,.d (.int .i64 0),.d (.int .i64 0),.nl,.nl,.d (.int .i64 0),.d (.int .i64 0),.nl,.nl,.d (.int .i64 0),.d (.int .i64 0),.nl,.nl,.d (.int .i64 0),.d (.int .i64 0),.nl,.nl,.d (.int .i64 0),.d (.int .i64 0),.nl,.nl]
theorem akS:An mE:=by
 refine⟨rfl,fun id hid=>.inl ?_⟩;obtain rfl | rfl | rfl | rfl | rfl | rfl | rfl | rfl | rfl | rfl | rfl | rfl:id=0∨id=1∨id=2∨id=3∨id=4∨id=5∨id=6∨id=7∨id=8∨id=9∨id=10∨id=11:=by omega
 all_goals rfl
theorem at1 (r:Nat) (hr:r≤11) (c:cg) (hc:c.Fit) (h:wg r c) (x0:AV) (hx0:share x0=x0) (hlen:(jA r c).length≤900000000):∃ C2 M,(Dn prog).call dq [.yield 7,.ptr 5 0,.ptr 4 0,.ptr 6 0] ⟨FQ c (offs r c.info.short) (N3 x0) mE .nl [],8⟩=some (.tup [],⟨FQ c (offs r c.info.short) (N3 x0) C2 (au 1 (af (jA r c))) [],M⟩):=by
 obtain⟨o1,o2,o3,o4⟩:=DV (r,c.info.short) (dQ (by omega));obtain⟨p1,p2,p3⟩:=mQ (r,c.info.short) (dQ (by omega));simp only at o1 o2 o3 o4 p1 p2 p3;have hmx:=h.info.2.2.2.1;have hmy:kL r (decide (c.info.seq=2))=(offs r c.info.short).length-1:=rfl;have hhi:∀ x∈offs r c.info.short,x≤256:=fun x hx=>by
  have:=List.all_eq_true.1 p3 x hx;simp only[decide_eq_true_eq]at this;have:(cond c.info.short 32 256:Nat)≤256:=by cases c.info.short<;>decide
  omega
 have hpl:=ajN (P:=⟨7,4,6,c.sects,offs r c.info.short⟩) c.info hc.info (im hr h.info) 5 (aDq (c:=c) (os:=offs r c.info.short) (x0:=x0)) aoH (azU c h.lines.1 (offs r c.info.short) x0 hx0 (jA r c) hlen) (fun s=>by simp) (fun s T=>by simp) (fun s T=>by simp) (by simp only[];omega) hhi (by simp only[];omega) h.sects 8 (Nat.le_refl _) (mE,[]) ⟨akS,by simp only[jA,List.nil_append],fun p hp=>aeI hc h hr hp⟩;rcases hpl with ⟨s2,M,hM,e1,⟨e2,e3,e4⟩,e5⟩ | ⟨z,_⟩
 ·rw[List.flatMap_nil,List.append_nil]at e3;rw[e3]at e5;exact⟨s2.1,M,e5⟩
 ·exact nomatch z
structure GO where
 o1:Obj
 o2:Obj
 o3:Obj
 o7:Obj
 o8:Obj
 o9:Obj
 oX:Obj
 o14:Obj
 o15:Obj
 o16:Obj
abbrev GH (b:List Nat) (g:GO) (cs:List AV) (nx e:Int) (Z:List Int) (C:List AV) (lo:Obj) (T:ac):ac:=(0,.cells [.d (.lst (af b))])::(1,g.o1)::(2,g.o2)::(3,g.o3)::(4,.cells cs)::(5,.cells [.d (.int .i64 nx)])::(6,.cells [.d (.int .i64 e)])::(7,g.o7)::(8,g.o8)::(9,g.o9)::(10,g.oX)::(11,.arr 1 (ai Z))::(12,.cells C)::(13,.cells [.ptr 12 0])::(14,g.o14)::(15,g.o15)::(16,g.o16)::(17,lo)::T
abbrev axZ:ao:=[(5,.ptr 0 0),(10,.ptr 4 0),(11,.ptr 5 0),(12,.ptr 6 0),(13,.ptr 7 0),(14,.ptr 8 0),(18,.ptr 13 0),(82,.fn dq [] [.ptr 15 0,.ptr 14 0,.ptr 16 0])]
theorem atJ {Z l:List Int}{a:Nat}:ah (ai Z) a (ai l)=ai (ah Z a l):=by simp[ah,ai]
theorem axc {h:ac}{xs:List (List D)}{id a b n:Nat}(hab:a≤b) (hb:b≤n) (hn:n≤1000000000) (hg:get h id=some (.arr 1 xs)) (x y:Int) (hx:x=a) (hy:y=b):pw h 1 (.sl id 0 n) (some (.d (.int .i64 x))) (some (.d (.int .i64 y))) none=some (.sl id a (b-a)):=by
 subst hx hy;have e1:cD (.d (.int .i64 (b:Int))) n=some b:=by rw[DP (by omega) (by omega)];simp
 have e2:cD (.d (.int .i64 (a:Int))) b=some a:=by rw[DP (by omega) (by omega)];simp
 have e3:okSl h 1 (.sl id 0 n)=true:=by simp only[okSl,hg];rfl
 simp only[pw,e3,r5,lenOf,uD,qh,e1,e2,Nat.zero_add]
theorem axa {h:ac}{Z l:List Int}{id a n:Nat}{y:AV}(hn:l.length=n) (hb:a+n≤Z.length) (he:elems h y=some (ai l)) (hg:get h id=some (.arr 1 (ai Z))):aiz 1 h (.sl id a n) y=some (.int .i64 (n:Nat),put h id (.arr 1 (ai (ah Z a l)))):=by
 have e1:Nat.ble (a+n) (ai Z).length=true:=by rw[Nat.ble_eq,eq];exact hb
 have e2:min n (ai l).length=n:=by rw[eq,hn,Nat.min_self]
 have e3:(ai l).take n=ai l:=List.take_of_length_le (by rw[eq];omega);have e4:(dt 1 (ai l) && Nat.beq 1 1 && Nat.ble (a+n) (ai Z).length)=true:=by rw[asR,e1];rfl
 simp only[aiz,he,hg,e4,e2,e3,atJ];rfl
theorem ayu {F:List AV→ac}{A N:Nat}(hL:∀ C,Lt (F C) N) (hg:∀ C T,get (F C++T) A=some (.cells C)) (hp:∀ C T C',put (F C++T) A (.cells C')=F C'++T):Bk (fun C T=>F C++T) A N:=by
 refine⟨hg,hp,fun C o=>?_,fun C o o'=>Fq (hL C),fun C o=>si (hL C),fun C o=>?_⟩
 ·show put (F C++[]) N o=_;rw[List.append_nil];exact pc (hL C)
 ·show _=F C++[];rw[List.append_nil];exact Nr (hL C)
theorem ayt (b:List Nat) (g:GO) (cs:List AV) (nx e0:Int) (Z:List Int) (lo:Obj) (K:Nat) (hK:18≤K) (o w:Obj) (N:Nat) (hN:K<N):Bk (fun C T=>GH b g cs nx e0 Z C lo [(K,o),(N,w)]++T) 12 (N+1):=by
 refine ayu (fun C p hp=>?_) (fun C T=>rfl) (fun C T C'=>rfl);simp only[List.mem_cons,List.not_mem_nil,or_false]at hp;rcases hp with rfl | rfl | rfl | rfl | rfl | rfl | rfl | rfl | rfl | rfl | rfl | rfl | rfl | rfl | rfl | rfl | rfl | rfl | rfl | rfl<;>simp only[]<;>omega
abbrev ki (d:Bool):Obj:=.loop axZ [83] nY nX d none
abbrev Ig:Obj:=.loop axZ [83] nY nX false (some .ret)
abbrev plO (p:Nat×Nat):Obj:=.cells [.d (.int .i64 (p.1:Int)),.d (.int .i64 (p.2:Int)),.d (.int .i64 ((p.2+aI p.1:Nat):Int))]
theorem aAp (b:List Nat) (g:GO) (a0 a1 a2 a3 a4 a5 a6 a7:AV) (nx e0:Int) (Z:List Int) (hZ:Z.length=256) (C:List AV) (hC:An C) (p:Nat×Nat) (hp:(1≤p.1∧p.1≤11)∧p.2+aI p.1≤256) (l:List Int) (hl:l.length=aI p.1) (n2:Nat) (hh:aM prog oN [.d (.lst (af b)),.d (.int .i64 nx),iX p.1]=some (.tup [.own true 1 (ai l),.d (.int .i64 n2),.d (.int .i64 0)])) (K:Nat) (o:Obj) (hK:18≤K) (N:Nat) (hN:K<N) :
  bc (Dn prog) (.yield 17) [.agg [.d (.int .i64 (p.1:Int)),.d (.int .i64 (p.2:Int)),.d (.int .i64 ((p.2+aI p.1:Nat):Int))]] ⟨GH b g [a0,a1,a2,a3,a4,a5,a6,a7,.sl 11 0 256] nx e0 Z C (ki false) [(K,o)],N⟩ =
  some (.d (.bool true),⟨GH b g [a0,a1,a2,a3,a4,a5,a6,a7,.sl 11 0 256] n2 0 (ah Z p.2 l) (ah C (4*p.1) (kI p.1)) (ki false) [(K,o)],N+1+1⟩):=by
 obtain⟨h1,h2⟩:=hp;have hB:=Ma (ayt b g [a0,a1,a2,a3,a4,a5,a6,a7,.sl 11 0 256] nx e0 Z (ki true) K hK o (plO p) N hN) C hC p.1 h1;have hs:=fun C2=>axc (h:=GH b g [a0,a1,a2,a3,a4,a5,a6,a7,.sl 11 0 256] n2 0 Z C2 (ki true) [(K,o),(N,plO p)]) (xs:=ai Z) (id:=11) (a:=p.2) (b:=p.2+aI p.1) (n:=256) (by omega) h2 (by omega) rfl (p.2:Int) _ rfl rfl
 rw[Nat.add_sub_cancel_left]at hs;have hc:=fun C2=>axa (h:=GH b g [a0,a1,a2,a3,a4,a5,a6,a7,.sl 11 0 256] n2 0 Z C2 (ki true) [(K,o),(N,plO p)]) (id:=11) (a:=p.2) (n:=aI p.1) (y:=.own false 1 (ai l)) hl (by omega) rfl rfl
 generalize ah C (4*p.1) (kI p.1)=C2 at *;replace hs:=hs C2;replace hc:=hc C2;obtain⟨TO,hT⟩:∃ TO:Int,TO=((p.2+aI p.1:Nat):Int):=⟨_,rfl⟩
 simp only[GH,plO,ki,List.cons_append,List.nil_append,iX]at hB hs hc hh⊢;rw[←hT]at hB hs hc⊢;obtain⟨o1,o2,o3,o7,o8,o9,oX,o14,o15,o16⟩:=g;simp only[]at *;have eA:∀ st,(Dn prog).code nY st=(Dn prog).code yW st:=fun _=>rfl
 have eB:∀ st,(Dn prog).code nX st=(Dn prog).code (.block 3
  (.seq yz
  (.seq (.seq (.seq qd (Vm.K [18,84]))
  (.seq zh
  (.cond (.m 96)
  (.seq (.seq (Vm.K [20]) (F 19)) (.seq (.seq qx (Vm.K [12]))
  .ret))
  (.seq (Vm.K [11,12]) .skip))))
  (.seq yC (F 19))))) st:=fun _=>rfl
 simp (config := { maxSteps:=1000000 }) (disch:=omega) [↓if_pos,↓if_neg,eA,eB,hh,hB,hs,hc]
theorem aAh (b:List Nat) (g:GO) (a0 a1 a2 a3 a4 a5 a6 a7:AV) (nx e0:Int) (Z:List Int) (C:List AV) (hC:An C) (p:Nat×Nat) (hp:(1≤p.1∧p.1≤11)∧p.2+aI p.1≤256) (e:Nat) (hh:aM prog oN [.d (.lst (af b)),.d (.int .i64 nx),iX p.1]=some (.tup [.nl,.d (.int .i64 0),.d (.int .i64 (e+1))])) (K:Nat) (o:Obj) (hK:18≤K) (N:Nat) (hN:K<N) :
  bc (Dn prog) (.yield 17) [.agg [.d (.int .i64 (p.1:Int)),.d (.int .i64 (p.2:Int)),.d (.int .i64 ((p.2+aI p.1:Nat):Int))]] ⟨GH b g [a0,a1,a2,a3,a4,a5,a6,a7,.sl 11 0 256] nx e0 Z C (ki false) [(K,o)],N⟩ =
  some (.d (.bool false),⟨GH b g aie 0 ((e:Int)+1) Z (ah C (4*p.1) (kI p.1)) Ig [(K,o)],N+1+1⟩):=by
 obtain⟨h1,h2⟩:=hp;have hB:=Ma (ayt b g [a0,a1,a2,a3,a4,a5,a6,a7,.sl 11 0 256] nx e0 Z (ki true) K hK o (plO p) N hN) C hC p.1 h1;generalize ah C (4*p.1) (kI p.1)=C2 at *;obtain⟨TO,hT⟩:∃ TO:Int,TO=((p.2+aI p.1:Nat):Int):=⟨_,rfl⟩
 simp only[GH,plO,ki,Ig,List.cons_append,List.nil_append,iX]at hB hh⊢;rw[←hT]at hB⊢;obtain⟨o1,o2,o3,o7,o8,o9,oX,o14,o15,o16⟩:=g;simp only[]at *;have eA:∀ st,(Dn prog).code nY st=(Dn prog).code yW st:=fun _=>rfl
 have eB:∀ st,(Dn prog).code nX st=(Dn prog).code (.block 3
  (.seq yz
  (.seq (.seq (.seq qd (Vm.K [18,84]))
  (.seq zh
  (.cond (.m 96)
  (.seq (.seq (Vm.K [20]) (F 19)) (.seq (.seq qx (Vm.K [12]))
  .ret))
  (.seq (Vm.K [11,12]) .skip))))
  (.seq yC (F 19))))) st:=fun _=>rfl
 simp (config := { maxSteps:=1000000 }) (disch:=omega) [↓if_pos,↓if_neg,eA,eB,hh,hB]
theorem SF {r:Nat}{jj:al}{SS:List (List am)}(hm:jj.may r) (hS:fq jj SS) (hr:r≤11) {p:Nat×Nat}(hp:p∈lm (offs r jj.short) SS jj.groups 0):(1≤p.1∧p.1≤11)∧p.2+aI p.1≤256:=by
 have hm11:=im hr hm;obtain⟨g1,g2⟩:=b6 hm11;obtain⟨w,g,j,l,e1,e2,e3,e4,e5,e6,x,e7,e8⟩:=Ga hS.2 (fun n hn=>(g1 n hn).1) hp;obtain⟨o1,o2,o3⟩:=mQ (r,jj.short) (dQ (by omega));simp only at o1 o2 o3;have hmx:=hm.2.2.2.1;have hlm:l∈SS:=List.mem_of_getElem? e1;have hbl:=lI (hS.2 l hlm) hm.2.2.1;have hjl:j<(ak l).length:=(List.getElem?_eq_some_iff.1 e5).1;have hmy:kL r (decide (jj.seq=2))=(offs r jj.short).length-1:=rfl;have hj1:j+1<(offs r jj.short).length:=by omega
 have hoj:nth (offs r jj.short) j<nth (offs r jj.short) (j+1)∧(nth (offs r jj.short) (j+1)-nth (offs r jj.short) j) % 4=0:=by
  have:=List.all_eq_true.1 o1 j (List.mem_range.2 (by omega));simpa using this
 have hos:∀ k,k+1<(offs r jj.short).length→nth (offs r jj.short) k<nth (offs r jj.short) (k+1):=fun k hk=>by
  have:=List.all_eq_true.1 o1 k (List.mem_range.2 (by omega));simp only[Bool.and_eq_true,decide_eq_true_eq]at this;exact this.1
 have hd4:aI p.1=4∨aI p.1=2:=by unfold aI;split<;>simp
 have hx:=Gz (d:=aI p.1) (by omega) (by rcases hd4 with h | h<;>rw[h]<;>omega) e7;have hw:(w:Int)<jj.many:=by omega
 have ho256:nth (offs r jj.short) (j+1)≤cond jj.short 32 256:=by
  have:=List.all_eq_true.1 o3 _ (fk hj1);simpa using this
 have hcond:(cond jj.short 32 256:Nat)=jj.wide:=by
  unfold al.short al.wide;by_cases h:jj.seq=2
  ·rw[decide_eq_true h,if_pos h];rfl
  ·rw[decide_eq_false h,if_neg h];rfl
 rw[hcond]at ho256;have hww:w*32=w*jj.wide∧w*jj.wide+jj.wide≤256:=by
  unfold al.many at hw;unfold al.wide;split at hw
  ·rename_i h2;rw[if_pos h2];omega
  ·rename_i h2;rw[if_neg h2];omega
 exact⟨e6,by omega⟩
theorem ay3:∀ id∈List.range 12,1≤id→bQ id=aI id:=by decide +kernel
def jE (b:List Nat):List (Nat×Nat)→Nat→List Int→R (List Int)
 | [],n,Z=>.ok Z n
 | p::r,n,Z=>(xb p.1 b n).bind fun l m=>jE b r m (ah Z p.2 l)
abbrev StG:Type:=List AV×Nat×List Int
abbrev RR (b:List Nat) (p:Nat×Nat) (s:StG):Sum StG (List AV×Nat×List Int):=match xb p.1 b s.2.1 with
 | .ok l n=>.inl (ah s.1 (4*p.1) (kI p.1),n,ah s.2.2 p.2 l)
 | .er e=>.inr (ah s.1 (4*p.1) (kI p.1),e,s.2.2)
abbrev nB:List AV:=[.d (.int .i64 0),.d (.int .u8 0),.d (.int .u8 0),.d (.int .i64 0),.nl,.nl,.nl,.nl,.nl]
abbrev aDs (B:Nat) (r:List (Nat×Nat)) (s:StG):Prop:=An s.1∧s.2.1≤B∧s.2.2.length=256∧(∀ x∈s.2.2,-40000≤x∧x≤40000)∧∀ p∈r,(1≤p.1∧p.1≤11)∧p.2+aI p.1≤256
theorem ak2 {Z l:List Int}{a:Nat}(h:a+l.length≤Z.length):(ah Z a l).length=Z.length:=by
 simp only[ah,List.length_append,List.length_take,List.length_drop];omega
theorem avZ {Z l:List Int}{a:Nat}{x:Int}(h:x∈ah Z a l):x∈Z∨x∈l:=by
 simp only[ah,List.mem_append]at h;rcases h with (h | h) | h
 ·exact .inl (List.mem_of_mem_take h)
 ·exact .inr h
 ·exact .inl (List.mem_of_mem_drop h)
theorem aAw (b:List Nat) (hb:b.length≤1000000000) (g:GO) (a0 a1 a2 a3 a4 a5 a6 a7:AV):KZ (fun(s:StG) T=>GH b g [a0,a1,a2,a3,a4,a5,a6,a7,.sl 11 0 256] s.2.1 0 s.2.2 s.1 (ki false) T) (fun(z:List AV×Nat×List Int) T=>GH b g nB 0 ((z.2.1:Int)+1) z.2.2 z.1 Ig T) 18 17 (RR b) (aDs b.length):=by
 intro p r s K o N hi hK hN;obtain⟨C,n0,Z⟩:=s;obtain⟨i1,i2,i3,i4,i5⟩:=hi;simp only at i1 i2 i3 i4;have hp:=i5 p (.head _);have hH:=atN p.1 b n0 hb (by omega) hp.1;have hd:=ay3 p.1 (List.mem_range.2 (by omega)) hp.1.1
 cases e:xb p.1 b n0 with
 | ok l n =>
  have hq:=avT ⟨hp.1.1,by omega⟩ e;rw[e,cu hq]at hH;obtain⟨q1,q2,q3⟩:=hq;have hl:l.length=aI p.1:=by omega
  refine .inl ⟨(ah C (4*p.1) (kI p.1),n,ah Z p.2 l),N+1+1,by omega,by simp only[RR,e],⟨afu i1 hp.1,q2,?_,fun x hx=>?_,fun q hq=>i5 q (.tail _ hq)⟩,aAp b g a0 a1 a2 a3 a4 a5 a6 a7 n0 0 Z i3 C i1 p hp l hl n hH K o hK N hN⟩
  ·show (ah Z p.2 l).length=256;rw[ak2 (by omega)];exact i3
  ·rcases avZ hx with h | h
   ·exact i4 x h
   ·exact q3 x h
 | er e2 =>
  rw[e,eK]at hH;exact .inr ⟨(ah C (4*p.1) (kI p.1),e2,Z),N+1+1,by omega,by simp only[RR,e],aAh b g a0 a1 a2 a3 a4 a5 a6 a7 n0 0 Z C i1 p hp e2 hH K o hK N hN⟩
theorem auS {b:List Nat}:∀ {r:List (Nat×Nat)}{C:List AV}{n:Nat}{Z:List Int},(∀ Z2 m,jE b r n Z=.ok Z2 m→∃ C2,gp (RR b) r (C,n,Z)=.inl (C2,m,Z2))∧∀ e,jE b r n Z=.er e→∃ C2 Z2,gp (RR b) r (C,n,Z)=.inr (C2,e,Z2)
 | [],C,n,Z=>⟨fun Z2 m h=>by
   injection h with g1 g2
   subst g1 g2;exact⟨C,rfl⟩,fun e h=>absurd h (by simp[jE])⟩
 | p::r,C,n,Z=>by
  rw[jE,gp]
  cases e:xb p.1 b n with
  | ok l m =>
   simp only[RR,e,aw];exact auS
  | er e2 =>
   simp only[RR,e];exact⟨fun Z2 m h=>absurd h (by simp),fun e3 h=>by
    injection h with h
    subst h;exact⟨_,_,rfl⟩⟩
theorem auV {b:List Nat}{g:GO}{cs:List AV}{nx e0:Int}{Z:List Int}{C:List AV}{lo:Obj}{L:Nat}(hL:18≤L):Lt (GH b g cs nx e0 Z C lo []) L:=by
 intro p hp;simp only[List.mem_cons,List.not_mem_nil,or_false]at hp;rcases hp with rfl | rfl | rfl | rfl | rfl | rfl | rfl | rfl | rfl | rfl | rfl | rfl | rfl | rfl | rfl | rfl | rfl | rfl<;>simp only[]<;>omega
theorem apG {σ:Type}{F:σ→ac}{L:Nat}(hL:∀ s,Lt (F s) L):Tl (fun s T=>F s++T) L:=by
 refine⟨fun s K o h=>?_,fun s K o o' h=>Fq (DD (hL s) h),fun s K o h=>si (DD (hL s) h),fun s K o h=>?_⟩
 ·show put (F s++[]) K o=_;rw[List.append_nil];exact pc (DD (hL s) h)
 ·show _=F s++[];rw[List.append_nil];exact Nr (DD (hL s) h)
abbrev M5 (r:Nat) (jj:al) (S:List (List am)):List (Nat×Nat):=lm (offs r jj.short) S jj.groups 0
abbrev Z0:List Int:=List.replicate 256 0
theorem aeX (b:List Nat) (hb:b.length≤1000000000) (g:GO) (a0 a1 a2 a3 a4 a5 a6 a7:AV) (r:Nat) (hr:r≤11) (jj:al) (hj:jj.Fit) (hm:jj.may r) (S:List (List am)) (hS:fq jj S) (g14:g.o14=.cells jj.cells) (g15:g.o15=.cells [.d (.lst (aK S))]) (g16:g.o16=.cells [.own false 1 (bf (offs r jj.short))]) (n:Nat) (hn:n≤b.length) :
  (∀ Z m,jE b (M5 r jj S) n Z0=.ok Z m→Z.length=256∧(∀ x∈Z,-40000≤x∧x≤40000)∧m≤b.length∧∃ C2 M,(Dn prog).call dq [.yield 17,.ptr 15 0,.ptr 14 0,.ptr 16 0] ⟨GH b g [a0,a1,a2,a3,a4,a5,a6,a7,.sl 11 0 256] n 0 Z0 mE (ki false) [],18⟩=some (.tup [],⟨GH b g [a0,a1,a2,a3,a4,a5,a6,a7,.sl 11 0 256] m 0 Z C2 (ki false) [],M⟩))∧
  (∀ e,jE b (M5 r jj S) n Z0=.er e→∃ C2 Z2 M,(Dn prog).call dq [.yield 17,.ptr 15 0,.ptr 14 0,.ptr 16 0] ⟨GH b g [a0,a1,a2,a3,a4,a5,a6,a7,.sl 11 0 256] n 0 Z0 mE (ki false) [],18⟩=some (.tup [],⟨GH b g nB 0 ((e:Int)+1) Z2 C2 Ig [],M⟩)):=by
 obtain⟨o1,o2,o3,o4⟩:=DV (r,jj.short) (dQ (by omega));obtain⟨p1,p2,p3⟩:=mQ (r,jj.short) (dQ (by omega));simp only at o1 o2 o3 o4 p1 p2 p3;have hmx:=hm.2.2.2.1;have hmy:kL r (decide (jj.seq=2))=(offs r jj.short).length-1:=rfl;have hhi:∀ x∈offs r jj.short,x≤256:=fun x hx=>by
  have:=List.all_eq_true.1 p3 x hx;simp only[decide_eq_true_eq]at this;have:(cond jj.short 32 256:Nat)≤256:=by cases jj.short<;>decide
  omega
 have hT:Tl (fun(s:StG) T=>GH b g [a0,a1,a2,a3,a4,a5,a6,a7,.sl 11 0 256] s.2.1 0 s.2.2 s.1 (ki false) T) 18:=apG (F:=fun(s:StG)=>GH b g [a0,a1,a2,a3,a4,a5,a6,a7,.sl 11 0 256] s.2.1 0 s.2.2 s.1 (ki false) []) (fun s=>auV (Nat.le_refl _));have hT2:Tl (fun(z:List AV×Nat×List Int) T=>GH b g nB 0 ((z.2.1:Int)+1) z.2.2 z.1 Ig T) 18:=apG (F:=fun(z:List AV×Nat×List Int)=>GH b g nB 0 ((z.2.1:Int)+1) z.2.2 z.1 Ig []) (fun s=>auV (Nat.le_refl _));have hpl:=ajN (P:=⟨17,14,16,S,offs r jj.short⟩) jj hj (im hr hm) 15 hT hT2 (aAw b hb g a0 a1 a2 a3 a4 a5 a6 a7) (fun s=>by rw[←g15];rfl) (fun s T=>by rw[←g14];rfl) (fun s T=>by rw[←g16];rfl) (by simp only[];omega) hhi (by simp only[];omega) hS 18 (Nat.le_refl _) (mE,n,Z0) ⟨akS,hn,by simp only[List.length_replicate],fun x hx=>by rw[List.eq_of_mem_replicate hx];omega,fun p hp=>SF hm hS hr hp⟩;have hru:=auS (b:=b) (r:=M5 r jj S) (C:=mE) (n:=n) (Z:=Z0);refine⟨fun Z m e=>?_,fun e1 e=>?_⟩
 ·obtain⟨C2,h1⟩:=hru.1 Z m e;rcases hpl with ⟨s2,M,hM,e1,⟨i1,i2,i3,i4,i5⟩,e5⟩ | ⟨z,M,hM,e1,e3⟩
  ·rw[h1]at e1;injection e1 with e1
   subst e1;exact⟨i3,i4,i2,C2,M,e5⟩
  ·rw[h1]at e1;exact absurd e1 (by simp)
 ·obtain⟨C2,Z2,h1⟩:=hru.2 e1 e;rcases hpl with ⟨s2,M,hM,e1,⟨i1,i2,i3,i4,i5⟩,e5⟩ | ⟨z,M,hM,e1,e3⟩
  ·rw[h1]at e1;exact absurd e1 (by simp)
  ·rw[h1]at e1;injection e1 with e1
   subst e1;exact⟨C2,Z2,M,e3⟩
theorem auy:BA [.int .i64 0] (.d (.int .i64 256)) (.d (.int .i64 256))=some (.own true 1 (ai Z0)):=(Gt (z:=[.int .i64 0]) (n:=256) (by omega)).trans (by simp[ai])
theorem arH:(ai Z0).length=256:=by rw[eq,List.length_replicate]
abbrev Nj (H:Hd) (Z:List Int):List AV:=[.d (.int .i64 H.gain),.d (.int .u8 H.inf.seq),.d (.int .u8 H.inf.shape),.d (.int .i64 H.inf.max),.d (.lst (ai H.inf.groups)),.d (.lst (aK H.S)),.d (.lst (bu H.T)),.d (.lst (bt H.F)),.own true 1 (ai Z)]
theorem aoi:∀ r<12,(aM prog dO [.d (.int .i64 ((r:Nat):Int)),.agg zI]=some (.d (.int .i64 8))):=by
 intro r hr;have:r=0∨r=1∨r=2∨r=3∨r=4∨r=5∨r=6∨r=7∨r=8∨r=9∨r=10∨r=11:=by omega
 rcases this with rfl | rfl | rfl | rfl | rfl | rfl | rfl | rfl | rfl | rfl | rfl | rfl<;>exact sn 400 (by kernel_rfl)
theorem Il {r:Nat}{q:Bool}{i:al}{iv:List AV}(hr:r≤11) (hi:i.Fit) (hiv:iv=i.cells∨q=false∧iv=zI) (hq:q=true→i.may r):∃ k:Int,(q=true→k=0)∧aM prog dO [.d (.int .i64 r),.agg iv]=some (.d (.int .i64 k)):=by
 rcases hiv with rfl | ⟨rfl,rfl⟩
 ·have hI:=pk r i hi;rw[if_pos (by omega),Int.toNat_natCast]at hI;by_cases hm:i.may r
  ·rw[if_pos hm]at hI;exact⟨0,fun _=>rfl,hI⟩
  ·rw[if_neg hm]at hI;exact⟨8,fun h=>absurd (hq h) hm,hI⟩
 ·exact⟨8,fun h=>absurd h (by simp),aoi r (by omega)⟩
theorem av5 (b:List Nat) (hb:b.length≤1000000000) (a:Int) (ha:i64 a) (r:Nat) (hr:r≤11) (q:Bool) (i:al) (hi:i.Fit) (iv:List AV) (hiv:iv=i.cells∨q=false∧iv=zI) (hq:q=true→i.may r) (n0:Nat) (e0:aO b a 0=.ok 0 n0) (H:Hd) (n:Nat) (eH:Av b n0 r q i=.ok H n) (Z:List Int) (m:Nat) (eL:jE b (M5 r H.inf H.S) n Z0=.ok Z m):aM prog gU [.d (.lst (af b)),.d (.int .i64 a),.d (.int .i64 r),.d (.bool q),.agg iv] =
  if H.od=0∧(H.is=1→nJ H.F=true) then some (.tup [.agg (Nj H Z),.d (.int .i64 m),.d (.int .i64 0)])
  else some (.tup [.agg nB,.d (.int .i64 0),.d (.int .i64 8)]):=by
 have hR:ct (r:Int):=by omega
 have hB:=d8 b a 0 hb ha;have p0:=cW e0;rw[e0,cu p0]at hB;obtain⟨k,hk0,hI⟩:=Il hr hi hiv hq;have hh:=I7 b hb r hR q i hi iv hiv (fun h=>by rw[Int.toNat_natCast];exact hq h) n0 (by have:=p0.2;omega) k 11;rw[Int.toNat_natCast]at hh;have p1:=hh.2 H n eH;have hl:=hh.1.1 H n eH;have hM:=fe r false;rw[if_pos hR]at hM;obtain⟨G,j,S,T,Ft,od,is⟩:=H;have hF:=Ky Ft (by have:=p1.F.1;simp only at this;have:=qb j;omega) (fun l hl=>by have:=(p1.F.2 l hl).1;omega);simp only[aks]at hl eL;obtain⟨q1,q2,q3,C2,M,hp⟩:=(aeX b hb ⟨.cells [.junk],.cells [.d (.bool q)],.cells iv,.cells [.d (.int .i64 od)],.cells [.d (.int .i64 is)],.cells [akz],.cells nG,.cells j.cells,.cells [.d (.lst (aK S))],.cells [.own false 1 (bf (offs r j.short))]⟩ (.d (.int .i64 G)) (.d (.int .u8 j.seq)) (.d (.int .u8 j.shape)) (.d (.int .i64 j.max)) (.own false 1 (ai j.groups)) (au 1 (aK S)) (share (au 1 (bu T))) (au 1 (bt Ft)) r hr j p1.fit p1.may S p1.S rfl rfl rfl n p1.n).1 Z m eL;have hj11:=im hr p1.may;have hSl:S.length=j.groups.length:=p1.S.1;have hTl:=congrArg List.length p1.T;simp only[List.length_map]at hTl;have hFl:=p1.F.1;simp only at hFl;have hmn:=qb j;have hgn:j.groups≠[]:=fun h=>by have:=(b6 hj11).2;rw[h]at this;simp at this;omega
 have hg1:=List.length_pos_iff.2 hgn;obtain⟨s1,S1,rfl⟩:=List.exists_cons_of_ne_nil (List.length_pos_iff.1 (show 0<S.length by omega));obtain⟨t1,T1,rfl⟩:=List.exists_cons_of_ne_nil (List.length_pos_iff.1 (show 0<T.length by omega));obtain⟨f1,F1,rfl⟩:=List.exists_cons_of_ne_nil (List.length_pos_iff.1 (show 0<Ft.length by omega));have eS:au 1 (aK (s1::S1))=.own false 1 (aK (s1::S1)):=rfl;have eT:share (au 1 (bu (t1::T1)))=.d (.lst (bu (t1::T1))):=rfl;have eF:au 1 (bt (f1::F1))=.own false 1 (bt (f1::F1)):=rfl;have hP:=HN r hr j (.lst (aK (s1::S1))) [(0,.cells [.d (.lst (af b))]),(1,.cells [.junk]),(2,.cells [.d (.bool q)]),(3,.cells iv),(4,.cells [.d (.int .i64 G),.d (.int .u8 j.seq),.d (.int .u8 j.shape),.d (.int .i64 j.max),.own false 1 (ai j.groups),.own false 1 (aK (s1::S1)),.d (.lst (bu (t1::T1))),.own false 1 (bt (f1::F1)),.sl 11 0 256]),(5,.cells [.d (.int .i64 n)]),(6,.cells [.d (.int .i64 0)]),(7,.cells [.d (.int .i64 od)]),(8,.cells [.d (.int .i64 is)]),(9,.cells [akz]),(10,.cells nG),(11,.arr 1 (ai Z0)),(12,.cells mE),(13,.cells [.ptr 12 0])] 14 (fun p hp=>by
  simp only[List.mem_cons,List.not_mem_nil,or_false]at hp;rcases hp with rfl | rfl | rfl | rfl | rfl | rfl | rfl | rfl | rfl | rfl | rfl | rfl | rfl | rfl<;>simp only[]<;>omega)
 have c0:((0:Nat):Int)=0:=rfl;rw[eS,eT,eF]at hl hp;simp only[Nj,al.cells,GH,ki,List.cons_append,List.nil_append,c0]at hI hl hp hP hB⊢;clear hh p1 eL eH q2 eS eT eF hi;generalize aK (s1::S1)=SS at *;generalize bu (t1::T1)=TT at *;generalize bt (f1::F1)=FF at *;generalize hz:ai Z0=z0 at *;have hk:=auy;have hz2:=arH;rw[hz]at hk hz2;rw[az sH lG.eq_1 rfl];have hmk:DX 1 nG=true:=rfl;simp only[nG,rV]at hmk;have hZt:List.take 256 Z=Z:=List.take_of_length_le (by omega);have hoi:(od=0∧((((is:Nat):Int)=1∧nJ (f1::F1)=true)∨(((is:Nat):Int)≠1)))∨(od=0∧((is:Nat):Int)=1∧nJ (f1::F1)=false)∨od≠0:=by
  cases nJ (f1::F1)<;>simp<;>omega
 have hii:(is=1)=(((is:Nat):Int)=1):=propext (by omega);simp only[hii];clear hii;generalize nJ (f1::F1)=an at *;generalize ((is:Nat):Int)=iz at *;rcases hoi with ⟨h1,⟨h2,h3⟩ | h2⟩ | ⟨h1,h2,h3⟩ | h1
 ·subst h3;rw[if_pos ⟨h1,fun _=>rfl⟩];rcases hiv with rfl | ⟨rfl,rfl⟩
  ·simp only[al.cells]at hI hl hp hP⊢
   cases q with
   | true =>
    have:=hk0 rfl;subst this;simp (config := { maxSteps:=1000000 }) (disch:=omega) [↓if_pos,↓if_neg,rd,hB,hM,hI,hl,hk,hz2,hP,hp,hmk,hF,q1,hZt]
   | false=>simp (config := { maxSteps:=1000000 }) (disch:=omega) [↓if_pos,↓if_neg,rd,hB,hM,hI,hl,hk,hz2,hP,hp,hmk,hF,q1,hZt]
  ·simp only[zI]at hI hl hp hP⊢;simp (config := { maxSteps:=1000000 }) (disch:=omega) [↓if_pos,↓if_neg,rd,hB,hM,hI,hl,hk,hz2,hP,hp,hmk,hF,q1,hZt]
 ·rw[if_pos ⟨h1,fun h=>absurd h h2⟩];rcases hiv with rfl | ⟨rfl,rfl⟩
  ·simp only[al.cells]at hI hl hp hP⊢
   cases q with
   | true =>
    have:=hk0 rfl;subst this;simp (config := { maxSteps:=1000000 }) (disch:=omega) [↓if_pos,↓if_neg,rd,hB,hM,hI,hl,hk,hz2,hP,hp,hmk,hF,q1,hZt]
   | false=>simp (config := { maxSteps:=1000000 }) (disch:=omega) [↓if_pos,↓if_neg,rd,hB,hM,hI,hl,hk,hz2,hP,hp,hmk,hF,q1,hZt]
  ·simp only[zI]at hI hl hp hP⊢;simp (config := { maxSteps:=1000000 }) (disch:=omega) [↓if_pos,↓if_neg,rd,hB,hM,hI,hl,hk,hz2,hP,hp,hmk,hF,q1,hZt]
 ·subst h3;rw[if_neg (fun h=>absurd (h.2 h2) (by simp))];rcases hiv with rfl | ⟨rfl,rfl⟩
  ·simp only[al.cells]at hI hl hp hP⊢
   cases q with
   | true =>
    have:=hk0 rfl;subst this;simp (config := { maxSteps:=1000000 }) (disch:=omega) [↓if_pos,↓if_neg,rd,hB,hM,hI,hl,hk,hz2,hP,hp,hmk,hF,q1,hZt]
   | false=>simp (config := { maxSteps:=1000000 }) (disch:=omega) [↓if_pos,↓if_neg,rd,hB,hM,hI,hl,hk,hz2,hP,hp,hmk,hF,q1,hZt]
  ·simp only[zI]at hI hl hp hP⊢;simp (config := { maxSteps:=1000000 }) (disch:=omega) [↓if_pos,↓if_neg,rd,hB,hM,hI,hl,hk,hz2,hP,hp,hmk,hF,q1,hZt]
 ·rw[if_neg (fun h=>absurd h.1 h1)];rcases hiv with rfl | ⟨rfl,rfl⟩
  ·simp only[al.cells]at hI hl hp hP⊢
   cases q with
   | true =>
    have:=hk0 rfl;subst this;simp (config := { maxSteps:=1000000 }) (disch:=omega) [↓if_pos,↓if_neg,rd,hB,hM,hI,hl,hk,hz2,hP,hp,hmk,hF,q1,hZt]
   | false=>simp (config := { maxSteps:=1000000 }) (disch:=omega) [↓if_pos,↓if_neg,rd,hB,hM,hI,hl,hk,hz2,hP,hp,hmk,hF,q1,hZt]
  ·simp only[zI]at hI hl hp hP⊢;simp (config := { maxSteps:=1000000 }) (disch:=omega) [↓if_pos,↓if_neg,rd,hB,hM,hI,hl,hk,hz2,hP,hp,hmk,hF,q1,hZt]
theorem ar6 (b:List Nat) (a:Int) (r:Int) (hr:¬ ct r) (q:Bool) (i:al):aM prog gU [.d (.lst (af b)),.d (.int .i64 a),.d (.int .i64 r),.d (.bool q),.agg i.cells]=some (.tup [.agg nB,.d (.int .i64 0),.d (.int .i64 2)]):=by
 have hM:=fe r false;rw[if_neg hr]at hM;simp only[al.cells];rw[az sH lG.eq_1 rfl];simp (config := { maxSteps:=1000000 }) (disch:=omega) [↓if_pos,↓if_neg,rd,hM]
theorem aqw (b:List Nat) (hb:b.length≤1000000000) (a:Int) (ha:i64 a) (r:Nat) (hr:r≤11) (q:Bool) (i:al) (iv:List AV) (hiv:iv=i.cells∨q=false∧iv=zI) (e:Nat) (e0:aO b a 0=.er e):aM prog gU [.d (.lst (af b)),.d (.int .i64 a),.d (.int .i64 r),.d (.bool q),.agg iv] =
  some (.tup [.agg nB,.d (.int .i64 0),.d (.int .i64 (e+1))]):=by
 have hR:ct (r:Int):=by omega
 have hB:=d8 b a 0 hb ha;rw[e0,eK]at hB;have hM:=fe r false;rw[if_pos hR]at hM;rcases hiv with rfl | ⟨rfl,rfl⟩
 all_goals
  simp only[al.cells,zI];rw[az sH lG.eq_1 rfl];simp (config := { maxSteps:=1000000 }) (disch:=omega) [↓if_pos,↓if_neg,rd,hB,hM]
theorem atW (b:List Nat) (hb:b.length≤1000000000) (a:Int) (ha:i64 a) (r:Nat) (hr:r≤11) (i:al) (hi:i.Fit) (hm:¬ i.may r) (n0:Nat) (e0:aO b a 0=.ok 0 n0):aM prog gU [.d (.lst (af b)),.d (.int .i64 a),.d (.int .i64 r),.d (.bool true),.agg i.cells] =
  some (.tup [.agg nB,.d (.int .i64 0),.d (.int .i64 8)]):=by
 have hR:ct (r:Int):=by omega
 have hB:=d8 b a 0 hb ha;have p0:=cW e0;rw[e0,cu p0]at hB;have hM:=fe r false;rw[if_pos hR]at hM;have hI:=pk r i hi;rw[if_pos hR,Int.toNat_natCast,if_neg hm]at hI;have c0:((0:Nat):Int)=0:=rfl;simp only[al.cells,c0]at hI hB⊢;rw[az sH lG.eq_1 rfl];simp (config := { maxSteps:=1000000 }) (disch:=omega) [↓if_pos,↓if_neg,rd,hB,hM,hI]
theorem atO (b:List Nat) (hb:b.length≤1000000000) (a:Int) (ha:i64 a) (r:Nat) (hr:r≤11) (q:Bool) (i:al) (hi:i.Fit) (iv:List AV) (hiv:iv=i.cells∨q=false∧iv=zI) (hq:q=true→i.may r) (n0:Nat) (e0:aO b a 0=.ok 0 n0) (e:Nat) (eH:Av b n0 r q i=.er e):aM prog gU [.d (.lst (af b)),.d (.int .i64 a),.d (.int .i64 r),.d (.bool q),.agg iv] =
  some (.tup [.agg nB,.d (.int .i64 0),.d (.int .i64 (e+1))]):=by
 have hR:ct (r:Int):=by omega
 have hB:=d8 b a 0 hb ha;have p0:=cW e0;rw[e0,cu p0]at hB;obtain⟨k,hk0,hI⟩:=Il hr hi hiv hq;have hh:=I7 b hb r hR q i hi iv hiv (fun h=>by rw[Int.toNat_natCast];exact hq h) n0 (by have:=p0.2;omega) k 11;rw[Int.toNat_natCast]at hh;obtain⟨od2,is2,hl⟩:=hh.1.2 e eH;have hM:=fe r false;rw[if_pos hR]at hM;have c0:((0:Nat):Int)=0:=rfl;simp only[al.cells,c0]at hI hl hB⊢;clear hh eH hi hq;rw[az sH lG.eq_1 rfl];have hmk:DX 1 nG=true:=rfl;simp only[nG,rV]at hmk;rcases hiv with rfl | ⟨rfl,rfl⟩
 ·simp only[al.cells]at hI hl⊢
  cases q with
  | true =>
   have:=hk0 rfl;subst this;simp (config := { maxSteps:=1000000 }) (disch:=omega) [↓if_pos,↓if_neg,rd,hB,hM,hI,hl,hmk]
  | false=>simp (config := { maxSteps:=1000000 }) (disch:=omega) [↓if_pos,↓if_neg,rd,hB,hM,hI,hl,hmk]
 ·simp only[zI]at hI hl⊢;simp (config := { maxSteps:=1000000 }) (disch:=omega) [↓if_pos,↓if_neg,rd,hB,hM,hI,hl,hmk]
theorem at2 (b:List Nat) (hb:b.length≤1000000000) (a:Int) (ha:i64 a) (r:Nat) (hr:r≤11) (q:Bool) (i:al) (hi:i.Fit) (iv:List AV) (hiv:iv=i.cells∨q=false∧iv=zI) (hq:q=true→i.may r) (n0:Nat) (e0:aO b a 0=.ok 0 n0) (H:Hd) (n:Nat) (eH:Av b n0 r q i=.ok H n) (e:Nat) (eL:jE b (M5 r H.inf H.S) n Z0=.er e):aM prog gU [.d (.lst (af b)),.d (.int .i64 a),.d (.int .i64 r),.d (.bool q),.agg iv] =
  some (.tup [.agg nB,.d (.int .i64 0),.d (.int .i64 (e+1))]):=by
 have hR:ct (r:Int):=by omega
 have hB:=d8 b a 0 hb ha;have p0:=cW e0;rw[e0,cu p0]at hB;obtain⟨k,hk0,hI⟩:=Il hr hi hiv hq;have hh:=I7 b hb r hR q i hi iv hiv (fun h=>by rw[Int.toNat_natCast];exact hq h) n0 (by have:=p0.2;omega) k 11;rw[Int.toNat_natCast]at hh;have p1:=hh.2 H n eH;have hl:=hh.1.1 H n eH;have hM:=fe r false;rw[if_pos hR]at hM;obtain⟨G,j,S,T,Ft,od,is⟩:=H;simp only[aks]at hl eL;obtain⟨C2,Z2,M,hp⟩:=(aeX b hb ⟨.cells [.junk],.cells [.d (.bool q)],.cells iv,.cells [.d (.int .i64 od)],.cells [.d (.int .i64 is)],.cells [akz],.cells nG,.cells j.cells,.cells [.d (.lst (aK S))],.cells [.own false 1 (bf (offs r j.short))]⟩ (.d (.int .i64 G)) (.d (.int .u8 j.seq)) (.d (.int .u8 j.shape)) (.d (.int .i64 j.max)) (.own false 1 (ai j.groups)) (au 1 (aK S)) (share (au 1 (bu T))) (au 1 (bt Ft)) r hr j p1.fit p1.may S p1.S rfl rfl rfl n p1.n).2 e eL;have hj11:=im hr p1.may;have hSl:S.length=j.groups.length:=p1.S.1;have hTl:=congrArg List.length p1.T;simp only[List.length_map]at hTl;have hFl:=p1.F.1;simp only at hFl;have hmn:=qb j;have hgn:j.groups≠[]:=fun h=>by have:=(b6 hj11).2;rw[h]at this;simp at this;omega
 have hg1:=List.length_pos_iff.2 hgn;obtain⟨s1,S1,rfl⟩:=List.exists_cons_of_ne_nil (List.length_pos_iff.1 (show 0<S.length by omega));obtain⟨t1,T1,rfl⟩:=List.exists_cons_of_ne_nil (List.length_pos_iff.1 (show 0<T.length by omega));obtain⟨f1,F1,rfl⟩:=List.exists_cons_of_ne_nil (List.length_pos_iff.1 (show 0<Ft.length by omega));have eS:au 1 (aK (s1::S1))=.own false 1 (aK (s1::S1)):=rfl;have eT:share (au 1 (bu (t1::T1)))=.d (.lst (bu (t1::T1))):=rfl;have eF:au 1 (bt (f1::F1))=.own false 1 (bt (f1::F1)):=rfl;have hP:=HN r hr j (.lst (aK (s1::S1))) [(0,.cells [.d (.lst (af b))]),(1,.cells [.junk]),(2,.cells [.d (.bool q)]),(3,.cells iv),(4,.cells [.d (.int .i64 G),.d (.int .u8 j.seq),.d (.int .u8 j.shape),.d (.int .i64 j.max),.own false 1 (ai j.groups),.own false 1 (aK (s1::S1)),.d (.lst (bu (t1::T1))),.own false 1 (bt (f1::F1)),.sl 11 0 256]),(5,.cells [.d (.int .i64 n)]),(6,.cells [.d (.int .i64 0)]),(7,.cells [.d (.int .i64 od)]),(8,.cells [.d (.int .i64 is)]),(9,.cells [akz]),(10,.cells nG),(11,.arr 1 (ai Z0)),(12,.cells mE),(13,.cells [.ptr 12 0])] 14 (fun p hp=>by
  simp only[List.mem_cons,List.not_mem_nil,or_false]at hp;rcases hp with rfl | rfl | rfl | rfl | rfl | rfl | rfl | rfl | rfl | rfl | rfl | rfl | rfl | rfl<;>simp only[]<;>omega)
 have c0:((0:Nat):Int)=0:=rfl;rw[eS,eT,eF]at hl hp;simp only[al.cells,GH,ki,Ig,List.cons_append,List.nil_append,c0]at hI hl hp hP hB⊢;clear hh p1 eL eH eS eT eF hi;generalize aK (s1::S1)=SS at *;generalize bu (t1::T1)=TT at *;generalize bt (f1::F1)=FF at *;generalize hz:ai Z0=z0 at *;have hk:=auy;have hz2:=arH;rw[hz]at hk hz2;rw[az sH lG.eq_1 rfl];have hmk:DX 1 nG=true:=rfl;simp only[nG,rV]at hmk;rcases hiv with rfl | ⟨rfl,rfl⟩
 ·simp only[al.cells]at hI hl hp hP⊢
  cases q with
  | true =>
   have:=hk0 rfl;subst this;simp (config := { maxSteps:=1000000 }) (disch:=omega) [↓if_pos,↓if_neg,rd,hB,hM,hI,hl,hk,hz2,hP,hp,hmk]
  | false=>simp (config := { maxSteps:=1000000 }) (disch:=omega) [↓if_pos,↓if_neg,rd,hB,hM,hI,hl,hk,hz2,hP,hp,hmk]
 ·simp only[zI]at hI hl hp hP⊢;simp (config := { maxSteps:=1000000 }) (disch:=omega) [↓if_pos,↓if_neg,rd,hB,hM,hI,hl,hk,hz2,hP,hp,hmk]
def ak0 (b:List Nat) (a:Int) (r:Nat) (q:Bool) (i:al):R (Hd×List Int) :=
 (aO b a 0).bind fun _ n=>if q=true∧¬ i.may r then .er 7 else (Av b n r q i).bind fun H n=>(jE b (M5 r H.inf H.S) n Z0).bind fun Z m=>if H.od=0∧(H.is=1→nJ H.F=true) then .ok (H,Z) m else .er 7
abbrev ayB (x:R (Hd×List Int)):Option AV:=match x with
 | .ok v m=>some (.tup [.agg (Nj v.1 v.2),.d (.int .i64 m),.d (.int .i64 0)])
 | .er e=>some (.tup [.agg nB,.d (.int .i64 0),.d (.int .i64 (e+1))])
theorem awH (b:List Nat) (hb:b.length≤1000000000) (a:Int) (ha:i64 a) (r:Nat) (hr:r≤11) (q:Bool) (i:al) (hi:i.Fit) (iv:List AV) (hiv:iv=i.cells∨q=false∧iv=zI):aM prog gU [.d (.lst (af b)),.d (.int .i64 a),.d (.int .i64 r),.d (.bool q),.agg iv]=ayB (ak0 b a r q i):=by
 unfold ak0
 cases e0:aO b a 0 with
 | er e=>exact aqw b hb a ha r hr q i iv hiv e e0
 | ok v n0 =>
 have hv:v=0:=by have:v<1:=(cW e0).1;omega
 subst hv;rw[aw];by_cases hm:q=true∧¬ i.may r
 ·rw[if_pos hm];obtain⟨rfl,hm⟩:=hm
  cases hiv.resolve_right fun h=>absurd h.1 (by simp)
  exact atW b hb a ha r hr i hi hm n0 e0
 ·rw[if_neg hm];have hq:q=true→i.may r:=fun h=>Classical.byContradiction fun h2=>hm ⟨h,h2⟩
  cases eH:Av b n0 r q i with
  | er e=>exact atO b hb a ha r hr q i hi iv hiv hq n0 e0 e eH
  | ok H n =>
  rw[aw]
  cases eL:jE b (M5 r H.inf H.S) n Z0 with
  | er e=>exact at2 b hb a ha r hr q i hi iv hiv hq n0 e0 H n eH e eL
  | ok Z m =>
   rw[aw,av5 b hb a ha r hr q i hi iv hiv hq n0 e0 H n eH Z m eL];by_cases h:H.od=0∧(H.is=1→nJ H.F=true)
   ·rw[if_pos h,if_pos h]
   ·rw[if_neg h,if_neg h];rfl
theorem IK {α:Type}{f:α→List Nat}{k:Nat}:∀ {l:List α},(∀ x∈l,(f x).length≤k)→(l.flatMap f).length≤k*l.length
 | [],_=>by simp
 | x::r,h=>by
  have a:=h x (.head _);have b:=IK (l:=r) fun y hy=>h y (.tail _ hy)
  rw[List.flatMap_cons,List.length_append,List.length_cons,Nat.mul_add];omega
theorem amw {d hi:Nat}:∀ {f x:Nat},(nj d hi f x).length≤f
 | 0,_=>by simp[nj]
 | f+1,x=>by
  rw[nj];split
  ·have:=amw (d:=d) (hi:=hi) (f:=f) (x:=x+d);simp only[List.length_cons];omega
  ·simp
theorem anb {os:List Nat}{d b:Nat}:∀ {k w:Nat},(lF os d b k w).length≤300*k
 | 0,_=>by simp[lF]
 | k+1,w=>by
  have a:=amw (d:=d) (hi:=nth os (b+1)) (f:=300) (x:=nth os b);have b:=anb (os:=os) (d:=d) (b:=b) (k:=k) (w:=w+1);rw[lF,List.length_append,List.length_map];omega
theorem anL {os:List Nat}{d n first:Nat}(hn:n≤8):∀ {k b:Nat},(tU os d n first k b).length≤2400*k
 | 0,_=>by simp[tU]
 | k+1,b=>by
  have a:=anb (os:=os) (d:=d) (b:=b) (k:=n) (w:=first);have c:=anL (os:=os) (d:=d) (first:=first) hn (k:=k) (b:=b+1);rw[tU,List.length_append];omega
theorem am8 {os:List Nat}{n first:Nat}(hn:n≤8):∀ {r:List am}{b:Nat}{lf:Int},fitsS lf r→0≤lf→(vJ os n first r b).length≤2400*lf.toNat
 | [],b,lf,h,h0=>by simp[vJ]
 | s::r,b,lf,h,h0=>by
  obtain⟨⟨⟨l1,l2⟩,_⟩,h2⟩:=h;have a:=anL (os:=os) (d:=aI s.book.toNat) (first:=first) hn (k:=s.len.toNat) (b:=b);have c:=am8 (os:=os) (first:=first) hn (b:=b+s.len.toNat) h2 (by omega);rw[vJ,List.length_append];split
  ·simp only[List.length_nil];omega
  ·rw[List.length_map];omega
theorem ane {os:List Nat}{m:Int}(hm:0≤m∧m≤40):∀ {r:List (List am)}{q:List Int}{first:Nat},cB m r→(∀ n∈q,n≤8)→(lm os r q first).length≤100000*q.length
 | [],q,first,_,_=>by simp[lm]
 | l::r,[],first,_,_=>by simp[lm]
 | l::r,n::q,first,hf,hn=>by
  have h1:=hn n (.head _);have a:=am8 (os:=os) (n:=n.toNat) (first:=first) (by omega) (b:=0) (hf l (.head _)) hm.1;have c:=ane (os:=os) hm (r:=r) (q:=q) (first:=first+n.toNat) (fun x hx=>hf x (.tail _ hx)) (fun x hx=>hn x (.tail _ hx));rw[lm,List.length_append,List.length_cons];omega
theorem apr {r:Nat}{c:cg}(hc:c.Fit) (h:wg r c) (hr:r≤11):(jA r c).length≤160000000:=by
 have hm11:=im hr h.info;obtain⟨g1,g2⟩:=b6 hm11;have hmm:c.info.many≤8:=by unfold al.many;split<;>omega
 have hgl:c.info.groups.length≤8:=by have:=j6 (fun n hn=>(g1 n hn).1);omega
 have a:=ane (os:=offs r c.info.short) (jh hm11) (first:=0) h.sects.2 fun n hn=>(g1 n hn).2
 have b:=IK (f:=nt c) (k:=200) (l:=lm (offs r c.info.short) c.sects c.info.groups 0) fun p hp=>by
  obtain⟨h1,h2,h3⟩:=aeI hc h hr hp;exact(afa h1 h3).2
 unfold jA;omega
theorem aez:∀ {g:List (List am)}{t:List (List Int)}{w z:Int}{m:Int},0≤m∧m≤40→cB m g→iC g t w z≠none→(kp g t w z).length≤800*g.length
 | [],[],_,_,_,_,_,_=>by simp[kp]
 | [],_::_,_,_,_,_,_,h=>absurd rfl h
 | _::_,[],_,_,_,_,_,h=>absurd rfl h
 | l::r,t::s,w,z,m,hm,hf,h=>by
  rw[iC]at h
  cases hr:bH (ak l) t w z with
  | none=>rw[hr]at h;exact absurd rfl h
  | some fin =>
   rw[hr]at h;have a:=Uz (bks:=ak l) (t:=t) (w:=w) (z:=z) (by rw[hr];simp);have b:=lI (hf l (.head _)) hm.1;have c:=aez (g:=r) (t:=s) (w:=fin.1) (z:=fin.2) hm (fun x hx=>hf x (.tail _ hx)) h;rw[kp,hr,List.length_append,List.length_cons];simp only;omega
theorem arp {i:al}:(nA i).length≤20:=by
 unfold nA;split<;>simp[abK]
theorem aqU {i:al}{g:List (List am)}(hm:i.may 11) (hg:fq i g):(NH i g).length≤600000*g.length:=by
 have hsz:1≤i.fsz∧i.fsz≤5:=by unfold al.fsz;split<;>omega
 have hmx:=jh hm;refine IK fun l hl=>?_
 have hf:=hg.2 l hl;have a:=MK hsz (lN hf (by omega));have b:l.length≤100:=by
  rcases Bh hf with h | h
  ·omega
  ·subst h;simp
 omega
def El (r:Nat) (c:cg) (common:Bool):List Nat :=
 aj c.gain.toNat 8++((if common then [] else nA c.info)++(NH c.info c.sects++(kp c.sects c.steps c.gain (-1)++((if nJ c.tns then 0::1::(fV c.info.short c.tns++[0]) else [0,0,0])++jA r c))))
theorem amD (b:List Nat) (hb:b.length≤300000000) (x:AV) (hx:x=.d (.lst (af b))∨x=.nl∧b=[]) (rt:Int) (c:cg) (hc:c.Fit) (common:Bool) :
  (ct rt∧wg rt.toNat c∧aM prog jd [x,.d (.int .i64 rt),.agg c.av,.d (.bool common)]=some (.tup [.own true 1 (af (b++El rt.toNat c common)),.d (.int .i64 0)]))∨
  (∃ e:Int,e≠0∧aM prog dh [.d (.int .i64 rt),.agg c.av]=some (.d (.int .i64 e))∧(ct rt→¬ wg rt.toNat c)∧aM prog jd [x,.d (.int .i64 rt),.agg c.av,.d (.bool common)]=some (.tup [.nl,.d (.int .i64 e)])):=by
 have bad:∀ e:Int,e≠0→aM prog dh [.d (.int .i64 rt),.agg c.av]=some (.d (.int .i64 e))→aM prog jd [x,.d (.int .i64 rt),.agg c.av,.d (.bool common)]=some (.tup [.nl,.d (.int .i64 e)]):=by
  intro e he hC;simp only[cg.av]at hC⊢;rw[az ae8 DU.eq_1 rfl];rcases hx with rfl | ⟨rfl,rfl⟩
  all_goals simp (maxSteps:=300000) (disch:=omega) [↓if_pos,↓if_neg,hC,he]
 rcases Xo rt c hc with ⟨hr,h,hC⟩ | ⟨hr,h,hC⟩ | ⟨hr,hC⟩
 ·refine .inl ⟨hr,h,?_⟩;obtain⟨R,rfl⟩:=Int.eq_ofNat_of_zero_le hr.1;simp only[Int.toNat_natCast]at h⊢;have hR:R≤11:=by omega
  have hm11:=im hR h.info;have hmx:=jh hm11;obtain⟨g1,g2⟩:=b6 hm11;have hmm:c.info.many≤8:=by unfold al.many;split<;>omega
  have hgl:c.info.groups.length≤8:=by have:=j6 (fun n hn=>(g1 n hn).1);omega
  have hgs:c.sects.length≤8:=by have:=h.sects.1;omega
  have k1:=arp (i:=c.info);have k2:=aqU hm11 h.sects;have k3:=aez hmx h.sects.2 h.steps;have k4:(fV c.info.short c.tns).length≤1000*c.tns.length:=IK fun l hl=>ams (h.tns.2 l hl)
  have k5:=apr hc h hR;have htl:=h.tns.1;have hx8:(8:Int).toNat=8:=rfl;have p1:=jq b c.gain 8 (by omega) (by have:=h.gain;omega) x hx;rw[if_pos (by have:=h.gain;simp only[np,hx8];omega),hx8]at p1;obtain⟨B1,hB1⟩:∃ B1,B1=b++aj c.gain.toNat 8:=⟨_,rfl⟩
  have l1:B1.length=b.length+8:=by rw[hB1];simp
  rw[←hB1]at p1;have p2:=asJ B1 (by omega) _ (.inl rfl) R c.info hc.info;rw[if_pos hr,Int.toNat_natCast,if_pos h.info]at p2;obtain⟨B2,hB2⟩:∃ B2,B2=B1++(if common then [] else nA c.info):=⟨_,rfl⟩
  have l2:B2.length≤b.length+28:=by rw[hB2,List.length_append];split<;>(try simp only[List.length_nil])<;>omega
  have p3:=atg B2 (by omega) _ (.inl rfl) c.info hc.info hm11 c.sects hc.sects h.sects;obtain⟨B3,hB3⟩:∃ B3,B3=B2++NH c.info c.sects:=⟨_,rfl⟩
  have l3:B3.length≤b.length+5000000:=by rw[hB3,List.length_append];omega
  rw[←hB3]at p3;have p4:=aqS B3 (by omega) _ (.inl rfl) c.gain c.info.max c.sects c.steps h.gain hgs hmx h.sects.2 hc.sects.2 h.steps fun l hl=>by have:=hc.steps.2 l hl;omega
  obtain⟨B4,hB4⟩:∃ B4,B4=B3++kp c.sects c.steps c.gain (-1):=⟨_,rfl⟩
  have l4:B4.length≤b.length+6000000:=by rw[hB4,List.length_append];omega
  rw[←hB4]at p4;have p5:=Ky c.tns (by omega) fun l hl=>by have:=(hc.tns.2 l hl).1;omega
  have p6:=alG (B4++[0,1]) (by simp;omega) _ (.inl rfl) c.info hc.info hm11 c.tns h.tns fun l hl f hf=>(hc.fltI l hl f hf).2
  obtain⟨B5,hB5⟩:∃ B5,B5=B4++(if nJ c.tns then 0::1::(fV c.info.short c.tns++[0]) else [0,0,0]):=⟨_,rfl⟩
  have l5:B5.length≤b.length+7000000:=by rw[hB5,List.length_append];split<;>simp<;>omega
  have hfin:b++El R c common=B5++jA R c:=by rw[hB5,hB4,hB3,hB2,hB1];simp only[El,List.append_assoc]
  obtain⟨C2,M,p7⟩:=at1 R hR c hc h (.d (.lst (af B5))) rfl (by omega);have p8:=HN R hR c.info (.lst (aK c.sects)) [(0,.cells c.av),(1,.cells mE),(2,.cells [.ptr 1 0]),(3,.cells [.nl])] 4 (fun p hp=>by
   simp only[List.mem_cons,List.not_mem_nil,or_false]at hp;rcases hp with rfl | rfl | rfl | rfl<;>simp only[]<;>omega)
  rw[hfin];have hbl:(af (jA R c)).length=(jA R c).length:=eg;have hb5:(af B5).length=B5.length:=eg;have hb4:(af B4).length=B4.length:=eg;have hb01:af B4++[[D.int .u8 0],[D.int .u8 1]]=af (B4++[0,1]):=by simp[af]
  have hb000:af B4++[[D.int .u8 0],[D.int .u8 0],[D.int .u8 0]]=af (B4++[0,0,0]):=by simp[af]
  have hb6:af (B4++[0,1]++fV c.info.short c.tns)++[[D.int .u8 0]]=af (B4++[0,1]++fV c.info.short c.tns++[0]):=by simp[af]
  have hl6n:(B4++[0,1]++fV c.info.short c.tns).length≤400000000:=by simp;omega
  have hl6:(af (B4++[0,1]++fV c.info.short c.tns)).length≤400000000:=by rw[eg];simp;omega
  simp only[FQ,cg.av,al.cells,List.cons_append,List.nil_append]at hC p2 p3 p4 p6 p7 p8⊢;rw[az ae8 DU.eq_1 rfl]
  cases hcm:common with
  | true =>
   rw[hcm]at hB2;simp only[if_true,List.append_nil]at hB2;subst hB2
   cases haf:nJ c.tns with
   | true =>
    rw[haf]at hB5 p5;simp only[if_true]at hB5;have e5:B4++[0,1]++fV c.info.short c.tns++[0]=B5:=by rw[hB5];simp
    rw[e5]at hb6;generalize jA R c=LL at *;generalize B4++[0,1]++fV c.info.short c.tns=B6 at *;generalize B4++[0,1]=B7 at *;rcases hx with rfl | ⟨rfl,rfl⟩
    ·simp (config := { maxSteps:=1000000 }) (disch:=omega) [↓if_pos,↓if_neg,rd,hC,p1,p3,p4,p5,p6,hb01,hb6,hb000,p8,p7]
     try omega
    ·simp (config := { maxSteps:=1000000 }) (disch:=omega) [↓if_pos,↓if_neg,rd,hC,p1,p3,p4,p5,p6,hb01,hb6,hb000,p8,p7]
     try omega
   | false =>
    rw[haf]at hB5 p5;simp only[Bool.false_eq_true,if_false]at hB5;rw[←hB5]at hb000;generalize jA R c=LL at *;generalize B4++[0,1]++fV c.info.short c.tns=B6 at *;generalize B4++[0,1]=B7 at *;rcases hx with rfl | ⟨rfl,rfl⟩
    ·simp (config := { maxSteps:=1000000 }) (disch:=omega) [↓if_pos,↓if_neg,rd,hC,p1,p3,p4,p5,p6,hb01,hb6,hb000,p8,p7]
     try omega
    ·simp (config := { maxSteps:=1000000 }) (disch:=omega) [↓if_pos,↓if_neg,rd,hC,p1,p3,p4,p5,p6,hb01,hb6,hb000,p8,p7]
     try omega
  | false =>
   rw[hcm]at hB2;simp only[Bool.false_eq_true,if_false]at hB2;rw[←hB2]at p2
   cases haf:nJ c.tns with
   | true =>
    rw[haf]at hB5 p5;simp only[if_true]at hB5;have e5:B4++[0,1]++fV c.info.short c.tns++[0]=B5:=by rw[hB5];simp
    rw[e5]at hb6;generalize jA R c=LL at *;generalize B4++[0,1]++fV c.info.short c.tns=B6 at *;generalize B4++[0,1]=B7 at *;rcases hx with rfl | ⟨rfl,rfl⟩
    ·simp (config := { maxSteps:=1000000 }) (disch:=omega) [↓if_pos,↓if_neg,rd,hC,p1,p2,p3,p4,p5,p6,hb01,hb6,hb000,p8,p7]
     try omega
    ·simp (config := { maxSteps:=1000000 }) (disch:=omega) [↓if_pos,↓if_neg,rd,hC,p1,p2,p3,p4,p5,p6,hb01,hb6,hb000,p8,p7]
     try omega
   | false =>
    rw[haf]at hB5 p5;simp only[Bool.false_eq_true,if_false]at hB5;rw[←hB5]at hb000;generalize jA R c=LL at *;generalize B4++[0,1]++fV c.info.short c.tns=B6 at *;generalize B4++[0,1]=B7 at *;rcases hx with rfl | ⟨rfl,rfl⟩
    ·simp (config := { maxSteps:=1000000 }) (disch:=omega) [↓if_pos,↓if_neg,rd,hC,p1,p2,p3,p4,p5,p6,hb01,hb6,hb000,p8,p7]
     try omega
    ·simp (config := { maxSteps:=1000000 }) (disch:=omega) [↓if_pos,↓if_neg,rd,hC,p1,p2,p3,p4,p5,p6,hb01,hb6,hb000,p8,p7]
     try omega
 ·exact .inr ⟨8,by omega,hC,fun _=>h,bad 8 (by omega) hC⟩
 ·exact .inr ⟨2,by omega,hC,fun h=>absurd h hr,bad 2 (by omega) hC⟩
structure aAZ (c:cg):Prop where
 groups:c.info.groups.length≤40
 sects:c.sects.length≤40∧∀ l∈c.sects,l.length≤100
 steps:c.steps.length≤40∧∀ l∈c.steps,l.length≤200
 tns:c.tns.length≤40∧∀ l∈c.tns,l.length≤20∧∀ f∈l,f.coefs.length≤100
 lines:c.lines.length≤2000
def At (b:List Nat) (a n:Nat) (X:List Nat):Prop:=a≤b.length∧n=a+X.length∧∃ t,b.drop a=X++t
theorem eC {b:List Nat}{a n:Nat}:At b a n []↔n=a∧a≤b.length:=by
 constructor
 ·rintro ⟨h1,h2,_⟩
  exact⟨by simpa using h2,h1⟩
 ·rintro ⟨h1,h2⟩
  exact⟨h2,by simpa using h1,b.drop a,rfl⟩
theorem cJ {b:List Nat}{a n:Nat}{X:List Nat}(h:At b a n X):a≤b.length∧n≤b.length∧n=a+X.length:=by
 obtain⟨h1,h2,t,h3⟩:=h;have:=congrArg List.length h3;rw[List.length_drop,List.length_append]at this;exact⟨h1,by omega,h2⟩
theorem aQ {b:List Nat}{a n:Nat}{X Y:List Nat}:At b a n (X++Y)↔∃ m,At b a m X∧At b m n Y:=by
 constructor
 ·intro h;have hl:=cJ h;obtain⟨h1,h2,t,h3⟩:=h;rw[List.length_append]at h2;refine⟨a+X.length,⟨h1,rfl,Y++t,by rw[h3,List.append_assoc]⟩,by omega,by omega,t,?_⟩;rw[←List.drop_drop,h3,List.append_assoc,List.drop_left]
 ·rintro ⟨m,⟨h1,h2,t,h3⟩,h4,h5,t2,h6⟩
  refine⟨h1,by rw[List.length_append];omega,t2,?_⟩;rw[h2,←List.drop_drop,h3,List.drop_left]at h6;rw[h3,h6,List.append_assoc]
theorem YD {n:Nat}:∀ {k:Nat},bin (aj n k)
 | 0=>by simp[aj,bin]
 | k+1=>by
  intro x hx;rw[aj]at hx;rcases List.mem_cons.1 hx with h | h
  ·omega
  ·exact YD x h
theorem aap {v:Nat}:∀ {s n:Nat},val (aj v s) n=n*2 ^ s+v % 2 ^ s
 | 0,n=>by simp[aj,val,Nat.mod_one]
 | k+1,n=>by
  rw[aj,val,aap,Nat.mod_pow_succ,Nat.pow_succ,Nat.add_mul];have:2*n*2 ^ k=n*(2 ^ k*2):=by rw[Nat.mul_comm 2 n,Nat.mul_assoc,Nat.mul_comm 2 (2 ^ k)]
  rw[this,Nat.mul_comm (v / 2 ^ k % 2)];omega
theorem aiD:∀ {l:List Nat}{n:Nat},val l n=n*2 ^ l.length+val l 0
 | [],n=>by simp[val]
 | x::r,n=>by
  rw[val,val,aiD,aiD (n:=2*0+x),List.length_cons,Nat.pow_succ,Nat.add_mul];have:2*n*2 ^ r.length=n*(2 ^ r.length*2):=by rw[Nat.mul_comm 2 n,Nat.mul_assoc,Nat.mul_comm 2 (2 ^ r.length)]
  rw[this];simp only[Nat.mul_zero,Nat.zero_add];omega
theorem aaY:∀ {l:List Nat}{n:Nat},bin l→aj (val l n) l.length=l
 | [],n,_=>rfl
 | x::r,n,h=>by
  have hr:bin r:=fun y hy=>h y (.tail _ hy)
  have hx:=h x (.head _);have h0:=KM (l:=r) (n:=0) (i:=0) hr (by omega);rw[Nat.zero_add]at h0;have e:val r (2*n+x) / 2 ^ r.length % 2=x:=by
   rw[aiD,Nat.add_comm,Nat.add_mul_div_right _ _ (Nat.pow_pos (by decide)),Nat.div_eq_of_lt h0];omega
  rw[val,List.length_cons,aj,e,aaY hr]
theorem bi {b:List Nat}{a s v n:Nat}(hs:s≤31):aO b (a:Int) (s:Int)=.ok v n↔v<2 ^ s∧At b a n (aj v s):=by
 unfold aO;simp only[Int.toNat_natCast];constructor
 ·intro h;by_cases h1:(0≤(s:Int)∧(s:Int)≤31)∧0≤(a:Int)∧(a:Int)≤b.length
  ·rw[if_pos h1]at h;by_cases h2:((b.length:Nat):Int)-a<s
   ·rw[if_pos h2]at h;exact absurd h (by simp)
   ·rw[if_neg h2]at h;by_cases h3:bin ((b.drop a).take s)
    ·rw[if_pos h3]at h;injection h with e1 e2
     have hl:((b.drop a).take s).length=s:=by rw[List.length_take,List.length_drop];omega
     have h4:=KM (n:=0) (i:=0) h3 (by omega);have h5:=aaY (n:=0) h3;rw[hl,e1]at h4 h5;rw[Nat.zero_add]at h4;refine⟨h4,by omega,by rw[d9];omega,(b.drop a).drop s,?_⟩;rw[h5,List.take_append_drop]
    ·rw[if_neg h3]at h;exact absurd h (by simp)
  ·rw[if_neg h1]at h;exact absurd h (by simp)
 ·rintro ⟨hv,h⟩
  have hl:=cJ h;obtain⟨h1,h2,t,h3⟩:=h;rw[d9]at h2;have e:(b.drop a).take s=aj v s:=by rw[h3,List.take_left' d9]
  rw[if_pos (by omega),if_neg (by omega),e,if_pos YD,aap,Nat.mod_eq_of_lt hv,h2];simp
theorem am9 {b:List Nat}{a:Int}{s:Int}{v n:Nat}(h:aO b a s=.ok v n):0≤a:=by
 unfold aO at h;by_cases h1:(0≤s∧s≤31)∧0≤a∧a≤b.length
 ·exact h1.2.1
 ·rw[if_neg h1]at h;exact absurd h (by simp)
theorem Ns {α:Type}{c:Prop}[Decidable c] {v w:α}{n m:Nat}:MC c v n=.ok w m↔c∧v=w∧n=m:=by
 unfold MC;by_cases h:c
 ·rw[if_pos h];exact⟨fun e=>by injection e with e1 e2;exact⟨h,e1,e2⟩,fun⟨_,e1,e2⟩=>by rw[e1,e2]⟩
 ·rw[if_neg h];exact⟨fun e=>absurd e (by simp),fun e=>absurd e.1 h⟩
theorem ay {α β:Type}{x:R α}{f:α→Nat→R β}{v:β}{n:Nat}:x.bind f=.ok v n↔∃ u m,x=.ok u m∧f u m=.ok v n :=
 ⟨kC,fun⟨u,m,h1,h2⟩=>by rw[h1];exact h2⟩
def ZC:Nat→List (List Nat)
 | 0=>[[]]
 | k+1=>(ZC k).map (0::·)++(ZC k).map (1::·)
theorem anF:∀ {l:List Nat},bin l→l∈ZC l.length
 | [],_=>by simp[ZC]
 | x::r,h=>by
  have ih:=anF (l:=r) fun y hy=>h y (.tail _ hy)
  have hx:=h x (.head _);rw[List.length_cons,ZC,List.mem_append,List.mem_map,List.mem_map];rcases Nat.le_one_iff_eq_zero_or_eq_one.1 hx with rfl | rfl
  ·exact .inl ⟨r,ih,rfl⟩
  ·exact .inr ⟨r,ih,rfl⟩
def ajY:Nat→Nat→List (List Int)
 | 0,_=>[]
 | f+1,0=>[[]]
 | f+1,n+1=>(List.range (n+1)).flatMap fun k=>(ajY f (n-k)).map (((k:Int)+1)::·)
theorem amS:∀ {g:List Int}{f n:Nat},(∀ x∈g,1≤x)→g.sum=n→n<f→g∈ajY f n
 | [],f,n,_,h,hf=>by
  obtain⟨f,rfl⟩:=Nat.exists_eq_add_of_lt hf;have:n=0:=by simp at h;omega
  subst this;simp[ajY]
 | x::r,f,n,hx,h,hf=>by
  have h1:=hx x (.head _);have h2:=j6 (l:=r) fun y hy=>hx y (.tail _ hy)
  rw[List.sum_cons]at h;obtain⟨f,rfl⟩:∃ k,f=k+1:=⟨f-1,by omega⟩
  obtain⟨n,rfl⟩:∃ k,n=k+1:=⟨n-1,by omega⟩
  have ih:=amS (g:=r) (f:=f) (n:=n-(x.toNat-1)) (fun y hy=>hx y (.tail _ hy)) (by omega) (by omega);rw[ajY,List.mem_flatMap];exact⟨x.toNat-1,List.mem_range.2 (by omega),List.mem_map.2 ⟨r,ih,by congr 1;omega⟩⟩
theorem awg:∀ l∈ZC 7,D2 (grow [1] l) 7 0=l:=by decide +kernel
theorem avy:∀ g∈ajY 9 8,grow [1] (D2 g 7 0)=g:=by decide +kernel
theorem If {b:List Nat}:∀ {k a n:Nat}{l:List Nat},a≤b.length→(qu b k a=.ok l n↔(l.length=k∧bin l)∧At b a n l)
 | 0,a,n,l,ha=>by
  rw[qu];constructor
  ·intro h;injection h with e1 e2
   subst e1 e2;exact⟨⟨rfl,by simp[bin]⟩,eC.2 ⟨rfl,ha⟩⟩
  ·rintro ⟨⟨h1,_⟩,h2⟩
   have:=List.eq_nil_of_length_eq_zero h1;subst this;rw[(eC.1 h2).1]
 | k+1,a,n,l,ha=>by
  rw[qu,ay];constructor
  ·rintro ⟨v,m,h1,h2⟩
   obtain⟨g1,g2⟩:=(bi (s:=1) (by omega)).1 h1;obtain⟨l2,m2,h3,h4⟩:=ay.1 h2;injection h4 with e1 e2
   subst e1 e2;obtain⟨⟨i1,i2⟩,i3⟩:=(If (cJ g2).2.1).1 h3;refine⟨⟨by rw[List.length_cons,i1],fun x hx=>?_⟩,?_⟩
   ·rcases List.mem_cons.1 hx with rfl | hx
    ·omega
    ·exact i2 x hx
   ·have e:aj v 1=[v]:=by simp[aj];omega
    rw[e]at g2;exact aQ.2 ⟨m,g2,i3⟩
  ·rintro ⟨⟨h1,h2⟩,h3⟩
   cases l with
   | nil=>simp at h1
   | cons v r =>
    have hv:=h2 v (.head _);obtain⟨m,g1,g2⟩:=aQ (X:=[v]) (Y:=r) |>.1 h3;have e:aj v 1=[v]:=by simp[aj];omega
    rw[←e]at g1;have hr:=(If (k:=k) (cJ g2).1).2 ⟨⟨by simpa using h1,fun y hy=>h2 y (.tail _ hy)⟩,g2⟩;exact⟨v,m,(bi (s:=1) (by omega)).2 ⟨by omega,g1⟩,by rw[hr];rfl⟩
theorem anq {g:List Int}:∀ {k w:Nat},bin (D2 g k w)
 | 0,_=>by simp[D2,bin]
 | k+1,w=>by
  intro x hx;rw[D2]at hx;rcases List.mem_append.1 hx with h | h
  ·revert h
   split<;>exact fun h=>YD x h
  ·exact anq x h
theorem aoX {b:List Nat}{a r n:Nat}{j:al}(hr:r≤11):sj b (a:Int) r=.ok j n↔j.may r∧At b a n (nA j):=by
 unfold sj nA;constructor
 ·intro h;obtain⟨o,n1,h1,h⟩:=ay.1 h;obtain⟨q,n2,h2,h⟩:=ay.1 h;obtain⟨s,n3,h3,h⟩:=ay.1 h;have k1:=(bi (s:=1) (by omega)).1 h1;have k2:=(bi (s:=2) (by omega)).1 h2;have k3:=(bi (s:=1) (by omega)).1 h3;by_cases hq:q=2
  ·rw[if_pos hq]at h;obtain⟨m,n4,h4,h⟩:=ay.1 h;obtain⟨l,n5,h5,h⟩:=ay.1 h;obtain⟨⟨ho,hm⟩,e1,e2⟩:=Ns.1 h;have k4:=(bi (s:=4) (by omega)).1 h4;have k5:=(If (cJ k4.2).2.1).1 h5;subst e1 e2 ho;refine⟨hm,aQ.2 ⟨n1,k1.2,aQ.2 ⟨n2,k2.2,aQ.2 ⟨n3,k3.2,?_⟩⟩⟩⟩;simp only[hq,if_true,Int.toNat_natCast];refine aQ.2 ⟨n4,k4.2,?_⟩;rw[awg l (by have:=anF k5.1.2;rwa [k5.1.1]at this)];exact k5.2
  ·rw[if_neg hq]at h;obtain⟨m,n4,h4,h⟩:=ay.1 h;obtain⟨p,n5,h5,h⟩:=ay.1 h;obtain⟨⟨⟨ho,hp⟩,hm⟩,e1,e2⟩:=Ns.1 h;have k4:=(bi (s:=6) (by omega)).1 h4;have k5:=(bi (s:=1) (by omega)).1 h5;subst e1 e2 ho hp;refine⟨hm,aQ.2 ⟨n1,k1.2,aQ.2 ⟨n2,k2.2,aQ.2 ⟨n3,k3.2,?_⟩⟩⟩⟩;simp only[if_neg hq,Int.toNat_natCast];exact aQ.2 ⟨n4,k4.2,k5.2⟩
 ·rintro ⟨hm,h0⟩
  obtain⟨n1,k1,h1⟩:=aQ.1 h0;obtain⟨n2,k2,h2⟩:=aQ.1 h1;obtain⟨n3,k3,h3⟩:=aQ.1 h2;clear h0 h1 h2;have g11:=im hr hm;have hmx:=jh g11;obtain⟨s,sh,m,g⟩:=j;have hs:s≤3:=hm.1;have hsh:sh≤1:=hm.2.1;simp only at hmx h3 k2 k3;obtain⟨M,rfl⟩:=Int.eq_ofNat_of_zero_le hmx.1;refine ay.2 ⟨0,n1,(bi (s:=1) (by omega)).2 ⟨by omega,k1⟩,ay.2 ⟨s,n2,(bi (s:=2) (by omega)).2 ⟨by omega,k2⟩,ay.2 ⟨sh,n3,(bi (s:=1) (by omega)).2 ⟨by omega,k3⟩,?_⟩⟩⟩;have hmb:(M:Int)≤kL r (decide (s=2)):=hm.2.2.2.1;have hgr:al.grouped _:=hm.2.2.2.2;unfold al.grouped at hgr;simp only[Int.toNat_natCast]at h3 hgr;by_cases hq:s=2
  ·subst hq;have m4:M<2 ^ 4:=by
    have:=(Jd (r,true) (dQ (by omega))).2;simp only[decide_true]at hmb this;omega
   rw[if_pos rfl]at h3 hgr⊢;obtain⟨n4,k4,h4⟩:=aQ.1 h3;have hg:=avy g (amS (fun x hx=>(hgr.1 x hx).1) hgr.2.1 (by omega));exact ay.2 ⟨M,n4,(bi (s:=4) (by omega)).2 ⟨m4,k4⟩,ay.2 ⟨D2 g 7 0,n,(If (cJ k4).2.1).2 ⟨⟨abK,anq⟩,h4⟩,Ns.2 ⟨⟨rfl,by rw[hg];exact hm⟩,by rw[hg],rfl⟩⟩⟩
  ·have m6:=Ce (r:=r) (s:=decide (s=2)) (by omega);rw[if_neg hq]at h3 hgr⊢;obtain⟨n4,k4,h4⟩:=aQ.1 h3
   cases hgr
   exact ay.2 ⟨M,n4,(bi (s:=6) (by omega)).2 ⟨by omega,k4⟩,ay.2 ⟨0,n,(bi (s:=1) (by omega)).2 ⟨by omega,h4⟩,Ns.2 ⟨⟨⟨rfl,rfl⟩,hm⟩,rfl,rfl⟩⟩⟩
theorem am1 {aq:Nat}(hm:1≤aq):∀ {f g n:Nat},n≤f→n≤g→bV aq f n=bV aq g n
 | 0,0,n,_,_=>rfl
 | 0,g+1,n,h,_=>by
  have:n=0:=by omega
  subst this;rw[bV,bV,if_neg (by omega)]
 | f+1,0,n,_,h=>by
  have:n=0:=by omega
  subst this;rw[bV,bV,if_neg (by omega)]
 | f+1,g+1,n,h1,h2=>by
  rw[bV,bV];by_cases h:aq≤n
  ·rw[if_pos h,if_pos h,am1 hm (f:=f) (g:=g) (n:=n-aq) (by omega) (by omega)]
  ·rw[if_neg h,if_neg h]
theorem auw {aq d:Nat}(hm:1≤aq) (h:aq≤d):bV aq d d=aq::bV aq (d-aq) (d-aq):=by
 obtain⟨e,rfl⟩:∃ e,d=e+1:=⟨d-1,by omega⟩
 rw[bV,if_pos h,am1 hm (f:=e) (g:=e+1-aq) (by omega) (by omega)]
theorem auW {aq d:Nat}(h:d<aq):bV aq d d=[d]:=by
 cases d with
 | zero=>rfl
 | succ e=>rw[bV,if_neg (by omega)]
theorem NY {b:List Nat}{sz aq left:Nat}(hs:1≤sz∧sz≤5) (hm:aq=2 ^ sz-1):∀ {f a acc n m:Nat},left<acc+f→
  (px b sz aq left f a acc=.ok n m↔(acc≤n∧n≤left)∧At b a m ((bV aq (n-acc) (n-acc)).flatMap fun x=>aj x sz))
 | 0,a,acc,n,m,hf=>by
  rw[px];exact⟨fun h=>absurd h (by simp),fun h=>by omega⟩
 | f+1,a,acc,n,m,hf=>by
  have h2:2 ^ 1≤2 ^ sz:=Nat.pow_le_pow_right (by omega) hs.1;rw[px,ay];constructor
  ·rintro ⟨x,m1,h1,h⟩
   obtain⟨g1,g2⟩:=(bi (by omega)).1 h1;by_cases hl:left<acc+x
   ·rw[if_pos hl]at h;exact absurd h (by simp)
   rw[if_neg hl]at h;by_cases hx:x=aq
   ·rw[if_pos hx,NY hs hm (by omega)]at h;obtain⟨h3,h4⟩:=h;refine⟨by omega,?_⟩;rw[auw (by omega) (by omega),List.flatMap_cons,aQ];refine⟨m1,by rw[←hx];exact g2,?_⟩;rw[show n-acc-aq=n-(acc+x) by omega];exact h4
   ·rw[if_neg hx]at h;injection h with e1 e2
    subst e1 e2;refine⟨by omega,?_⟩;rw[show acc+x-acc=x by omega,auW (by omega)];simpa using g2
  ·rintro ⟨h1,h⟩
   by_cases hd:aq≤n-acc
   ·rw[auw (by omega) hd,List.flatMap_cons,aQ]at h;obtain⟨m1,k1,k2⟩:=h;refine⟨aq,m1,(bi (by omega)).2 ⟨by omega,k1⟩,?_⟩;rw[if_neg (by omega),if_pos rfl,NY hs hm (by omega)];refine⟨by omega,?_⟩;rw[show n-(acc+aq)=n-acc-aq by omega];exact k2
   ·rw[auW (by omega)]at h;simp only[List.flatMap_cons,List.flatMap_nil,List.append_nil]at h;refine⟨n-acc,m,(bi (by omega)).2 ⟨by omega,h⟩,?_⟩;rw[if_neg (by omega),if_neg (by omega),show acc+(n-acc)=n by omega]
theorem ani {b:List Nat}{sz left a m:Nat}{s:am}(hs:1≤sz∧sz≤5):CH b sz left a=.ok s m↔s.right left∧At b a m (Ez sz s):=by
 rw[CH,ay,Ez];constructor
 ·rintro ⟨k,m1,h1,h⟩
  obtain⟨g1,g2⟩:=(bi (s:=4) (by omega)).1 h1;by_cases hk:k=12∨13<k
  ·rw[if_pos hk]at h;exact absurd h (by simp)
  rw[if_neg hk]at h;obtain⟨n,m2,h2,h⟩:=ay.1 h;obtain⟨g3,g4⟩:=(NY hs rfl (by omega)).1 h2;by_cases h0:n=0
  ·rw[if_pos h0]at h;exact absurd h (by simp)
  rw[if_neg h0]at h;injection h with e1 e2
  subst e1 e2;refine⟨⟨⟨by simp only[];omega,by simp only[];omega⟩,by simp only[FM];omega⟩,aQ.2 ⟨m1,g2,?_⟩⟩;simpa using g4
 ·rintro ⟨⟨⟨h1,h2⟩,h3,h4⟩,h⟩
  obtain⟨k,n⟩:=s;simp only at h1 h2 h3 h4 h;obtain⟨k,rfl⟩:=Int.eq_ofNat_of_zero_le h3;obtain⟨n,rfl⟩:=Int.eq_ofNat_of_zero_le (show 0≤n by omega);simp only[Int.toNat_natCast]at h;obtain⟨m1,k1,k2⟩:=aQ.1 h;refine⟨k,m1,(bi (s:=4) (by omega)).2 ⟨by omega,k1⟩,?_⟩;rw[if_neg (by omega)];refine ay.2 ⟨n,m,(NY hs rfl (by omega)).2 ⟨by omega,by simpa using k2⟩,?_⟩;rw[if_neg (by omega)]
theorem Dm {b:List Nat}{sz:Nat}(hs:1≤sz∧sz≤5):∀ {f left a m:Nat}{l:List am},left≤f→a≤b.length→(fW b sz f left a=.ok l m↔fitsS left l∧At b a m (kt sz l))
 | 0,left,a,m,l,hf,ha=>by
  have:left=0:=by omega
  subst this;rw[fW];constructor
  ·intro h;injection h with e1 e2
   subst e1 e2;exact⟨rfl,eC.2 ⟨rfl,ha⟩⟩
  ·rintro ⟨h1,h2⟩
   cases l with
   | nil=>rw[(eC.1 h2).1]
   | cons s l=>have:=h1.1.1;omega
 | f+1,left,a,m,l,hf,ha=>by
  rw[fW];by_cases h0:left=0
  ·subst h0;rw[if_pos rfl];constructor
   ·intro h;injection h with e1 e2
    subst e1 e2;exact⟨rfl,eC.2 ⟨rfl,ha⟩⟩
   ·rintro ⟨h1,h2⟩
    cases l with
    | nil=>rw[(eC.1 h2).1]
    | cons s l=>have:=h1.1.1;omega
  ·rw[if_neg h0,ay];constructor
   ·rintro ⟨s,m1,h1,h⟩
    obtain⟨g1,g2⟩:=(ani hs).1 h1;obtain⟨l2,m2,h2,h⟩:=ay.1 h;injection h with e1 e2
    subst e1 e2;have hr:=g1.1;obtain⟨g3,g4⟩:=(Dm hs (by omega) (cJ g2).2.1).1 h2;refine⟨⟨g1,?_⟩,aQ.2 ⟨m1,g2,g4⟩⟩
    rwa [show ((left-s.len.toNat:Nat):Int)=left-s.len by omega]at g3
   ·rintro ⟨h1,h2⟩
    cases l with
    | nil=>exact absurd h1 (by show ¬ ((left:Int)=0);omega)
    | cons s l =>
     obtain⟨k1,k2⟩:=h1;obtain⟨m1,j1,j2⟩:=aQ.1 (show At b a m (Ez sz s++kt sz l) from h2);have hr:=k1.1;refine⟨s,m1,(ani hs).2 ⟨k1,j1⟩,ay.2 ⟨l,m,(Dm hs (by omega) (cJ j1).2.1).2 ⟨?_,j2⟩,rfl⟩⟩
     rwa [show ((left-s.len.toNat:Nat):Int)=left-s.len by omega]
theorem SM {b:List Nat}{sz aq:Nat}(hs:1≤sz∧sz≤5):∀ {k a m:Nat}{g:List (List am)},a≤b.length→(lQ b sz aq k a=.ok g m↔(g.length=k∧∀ l∈g,fitsS aq l)∧At b a m (g.flatMap (kt sz)))
 | 0,a,m,g,ha=>by
  rw[lQ];constructor
  ·intro h;injection h with e1 e2
   subst e1 e2;exact⟨⟨rfl,by simp⟩,eC.2 ⟨rfl,ha⟩⟩
  ·rintro ⟨⟨h1,_⟩,h2⟩
   have:=List.eq_nil_of_length_eq_zero h1;subst this;rw[(eC.1 h2).1]
 | k+1,a,m,g,ha=>by
  rw[lQ,ay];constructor
  ·rintro ⟨l,m1,h1,h⟩
   obtain⟨g1,g2⟩:=(Dm hs (Nat.le_refl _) ha).1 h1;obtain⟨r,m2,h2,h⟩:=ay.1 h;injection h with e1 e2
   subst e1 e2;obtain⟨⟨g3,g4⟩,g5⟩:=(SM hs (cJ g2).2.1).1 h2;refine⟨⟨by rw[List.length_cons,g3],fun q hq=>?_⟩,aQ.2 ⟨m1,g2,g5⟩⟩;rcases List.mem_cons.1 hq with rfl | hq
   ·exact g1
   ·exact g4 q hq
  ·rintro ⟨⟨h1,h2⟩,h3⟩
   cases g with
   | nil=>simp at h1
   | cons l r =>
    obtain⟨m1,j1,j2⟩:=aQ.1 (show At b a m (kt sz l++r.flatMap (kt sz)) from h3);exact⟨l,m1,(Dm hs (Nat.le_refl _) ha).2 ⟨h2 l (.head _),j1⟩,ay.2 ⟨r,m,(SM hs (cJ j1).2.1).2 ⟨⟨by simpa using h1,fun q hq=>h2 q (.tail _ hq)⟩,j2⟩,rfl⟩⟩
theorem ao7 {b:List Nat}{i:al}{a m:Nat}{g:List (List am)}(hm:i.may 11) (ha:a≤b.length):oQ b i (a:Int)=.ok g m↔fq i g∧At b a m (NH i g):=by
 have hmx:=jh hm;obtain⟨M,hM⟩:=Int.eq_ofNat_of_zero_le hmx.1;have hs:1≤i.fsz∧i.fsz≤5:=by unfold al.fsz;split<;>omega
 rw[oQ,if_pos (by omega),Int.toNat_natCast,SM hs ha,Int.toNat_of_nonneg hmx.1];exact Iff.rfl
theorem Ve:∀ id∈ids,(aS id).length=ax id∧(List.range (ax id)).all (fun e=>Nat.beq (nth (aS id) (nth (bF id) e)) e && Nat.beq (nth (bF id) (nth (aS id) e)) e)=true:=by decide +kernel
theorem ae0 {id e:Nat}(h:eY id) (he:e<ax id):nth (aS id) (nth (bF id) e)=e∧nth (bF id) (nth (aS id) e)=e:=by
 have h1:=List.all_eq_true.1 (Ve id (c6 h)).2 e (List.mem_range.2 he);rw[Bool.and_eq_true,Nat.beq_eq,Nat.beq_eq]at h1;exact h1
theorem DF {b:List Nat}:∀ {f m a k n:Nat},ic b f m (a:Int)=.ok k n↔(m≤k∧k<m+f)∧At b a n (List.replicate (k-m) 0++[1])
 | 0,m,a,k,n=>by
  rw[ic];exact⟨fun h=>absurd h (by simp),fun h=>by omega⟩
 | f+1,m,a,k,n=>by
  rw[ic,ay];constructor
  ·rintro ⟨v,m1,h1,h⟩
   obtain⟨g1,g2⟩:=(bi (s:=1) (by omega)).1 h1;have e:aj v 1=[v]:=by simp[aj];omega
   rw[e]at g2;by_cases hv:v=1
   ·rw[if_pos hv]at h;injection h with e1 e2
    subst e1 e2 hv;exact⟨by omega,by simpa using g2⟩
   ·have:v=0:=by omega
    subst this;rw[if_neg hv,DF]at h;obtain⟨h2,h3⟩:=h;refine⟨by omega,?_⟩;rw[show k-m=(k-(m+1))+1 by omega,List.replicate_succ,List.cons_append];exact aQ (X:=[0]) |>.2 ⟨m1,g2,h3⟩
  ·rintro ⟨h1,h⟩
   by_cases hk:k=m
   ·subst hk;rw[Nat.sub_self]at h;refine⟨1,n,(bi (s:=1) (by omega)).2 ⟨by omega,?_⟩,by rw[if_pos rfl]⟩;simpa [aj] using h
   ·rw[show k-m=(k-(m+1))+1 by omega,List.replicate_succ,List.cons_append]at h;obtain⟨m1,k1,k2⟩:=aQ (X:=[0]) |>.1 h;refine⟨0,m1,(bi (s:=1) (by omega)).2 ⟨by omega,by simpa [aj] using k1⟩,?_⟩;rw[if_neg (by omega),DF];exact⟨by omega,k2⟩
theorem aeK {r:List Nat}:∀ {k:Nat},val (List.replicate k 0++r) 0=val r 0
 | 0=>rfl
 | k+1=>by rw[List.replicate_succ,List.cons_append,val];exact aeK
theorem afx {k hi:Nat}(h:hi<2 ^ k):aj (2 ^ k+hi) (2*k+1)=List.replicate k 0++[1]++aj hi k:=by
 have hb:bin (List.replicate k 0++(1::aj hi k)):=by
  intro x hx;rcases List.mem_append.1 hx with h | h
  ·have:=List.eq_of_mem_replicate h;omega
  ·rcases List.mem_cons.1 h with h | h
   ·omega
   ·exact YD x h
 have h1:=aaY (n:=0) hb;rw[aeK,val,aap,Nat.mod_eq_of_lt h,List.length_append,List.length_replicate,List.length_cons,d9]at h1;rw[List.append_assoc,List.singleton_append,←h1]
 congr 1
 all_goals omega
theorem anT {n k:Nat}(h1:2 ^ k≤n) (h2:n<2 ^ (k+1)):bb n=k+1:=by
 have hp:=Nat.two_pow_pos k;have a:=AH (n:=n);have b:=mC (n:=n) (by omega);rcases Nat.lt_trichotomy (bb n) (k+1) with h | h | h
 ·have:=Nat.pow_le_pow_right (n:=2) (by omega) (show bb n≤k by omega);omega
 ·exact h
 ·have:=Nat.pow_le_pow_right (n:=2) (by omega) (show k+1≤bb n-1 by omega);omega
theorem we {id:Nat}(hid:eY id) {b:List Nat}{a e n:Nat}:qz id b (a:Int)=.ok e n↔e<ax id∧At b a n (fS id e):=by
 obtain⟨r1,r2,r3⟩:=Ht id (c6 hid);have hl:=(Ve id (c6 hid)).1;have hm:ax id≤300:=by have:=gP id (c6 hid);omega
 have hP:1≤2 ^ aG id:=Nat.two_pow_pos _;rw[qz,ay];unfold fS;constructor
 ·rintro ⟨k,n1,h1,h⟩
  obtain⟨⟨_,k9⟩,g1⟩:=DF.1 h1;obtain⟨hi,n2,h2,h⟩:=ay.1 h;obtain⟨g2,g3⟩:=(bi (by omega)).1 h2;obtain⟨lo,n3,h3,h⟩:=ay.1 h;obtain⟨g4,g5⟩:=(bi (by omega)).1 h3;by_cases hx:(aS id).length≤(2 ^ k+hi-1)*2 ^ aG id+lo
  ·rw[if_pos hx]at h;exact absurd h (by simp)
  rw[if_neg hx]at h;injection h with e1 e2
  subst e1 e2;have hk:=Nat.two_pow_pos k;have he:=ae0 hid (e:=(2 ^ k+hi-1)*2 ^ aG id+lo) (by omega);have hlt:nth (aS id) ((2 ^ k+hi-1)*2 ^ aG id+lo)<ax id:=(Dx (by have:=hid.2;omega)).2.2.2 _ (fk (by omega));refine⟨hlt,?_⟩;rw[he.2];have d1:((2 ^ k+hi-1)*2 ^ aG id+lo) / 2 ^ aG id=2 ^ k+hi-1:=by
   rw[Nat.add_comm,Nat.add_mul_div_right _ _ hP,Nat.div_eq_of_lt g4,Nat.zero_add]
  have d2:((2 ^ k+hi-1)*2 ^ aG id+lo) % 2 ^ aG id=lo:=by
   rw[Nat.add_comm,Nat.add_mul_mod_self_right,Nat.mod_eq_of_lt g4]
  rw[d1,d2,show 2 ^ k+hi-1+1=2 ^ k+hi by omega,anT (k:=k) (by omega) (by rw[Nat.pow_succ];omega),show 2*(k+1)-1=2*k+1 by omega,afx g2];exact aQ.2 ⟨n2,aQ.2 ⟨n1,g1,g3⟩,g5⟩
 ·rintro ⟨he,h⟩
  have hr:=ac4 hid he;have hf:=(ae0 hid he).1;generalize nth (bF id) e=r at *;have hq:1≤r / 2 ^ aG id+1:=Nat.le_add_left _ _;have hdv:r / 2 ^ aG id≤r:=Nat.div_le_self _ _;have hdm:=Nat.div_add_mod r (2 ^ aG id);have hmod:r % 2 ^ aG id<2 ^ aG id:=Nat.mod_lt _ hP;generalize r / 2 ^ aG id=q at *;generalize r % 2 ^ aG id=lo at *;have l1:=AH (n:=q+1);have l2:=mC (n:=q+1) (by omega);have l0:1≤bb (q+1):=by
   rcases Nat.eq_zero_or_pos (bb (q+1)) with h0 | h0
   ·rw[h0]at l1;omega
   ·exact h0
  obtain⟨k,hk⟩:∃ k,bb (q+1)=k+1:=⟨bb (q+1)-1,by omega⟩
  rw[hk]at l1 l2 h;rw[Nat.add_sub_cancel]at l2;rw[Nat.pow_succ]at l1;have k9:k<10:=by
   rcases Nat.lt_or_ge k 10 with h | h
   ·exact h
   ·have:=Nat.pow_le_pow_right (n:=2) (by omega) h;omega
  obtain⟨hi,hhi⟩:∃ hi,q+1=2 ^ k+hi:=⟨q+1-2 ^ k,by omega⟩
  have hh:hi<2 ^ k:=by omega
  rw[show 2*(k+1)-1=2*k+1 by omega,hhi,afx hh]at h;obtain⟨n2,j1,j2⟩:=aQ.1 h;obtain⟨n1,j3,j4⟩:=aQ.1 j1;have ei:(2 ^ k+hi-1)*2 ^ aG id+lo=r:=by rw[←hhi,Nat.add_sub_cancel,Nat.mul_comm];omega
  refine⟨k,n1,DF.2 ⟨by omega,by simpa using j3⟩,ay.2 ⟨hi,n2,(bi (by omega)).2 ⟨hh,j4⟩,ay.2 ⟨lo,n,(bi (by omega)).2 ⟨hmod,j2⟩,?_⟩⟩⟩;rw[ei,if_neg (by omega),hf]
theorem LV {low:Int}{w:Nat}{v:Int}:∀ {l:List Int}{n:Nat},gG low w (l++[v]) n=gG low w l n*w+(v-low).toNat
 | [],n=>rfl
 | x::r,n=>by rw[List.cons_append,gG,gG,LV]
theorem afk {low:Int}{w:Nat}(hw:1≤w):∀ {d e:Nat},e<w ^ d→gG low w (gL low w d e) 0=e
 | 0,e,h=>by rw[Nat.pow_zero]at h;rw[gL,gG];omega
 | d+1,e,h=>by
  rw[gL,LV,afk hw (by rw[Nat.pow_succ]at h;exact Nat.div_lt_of_lt_mul (by rwa [Nat.mul_comm])),show ((e % w:Nat):Int)+low-low=((e % w:Nat):Int) by omega,Int.toNat_natCast,Nat.mul_comm];exact Nat.div_add_mod e w
theorem akL {low:Int}{w:Nat}(hw:1≤w):∀ (r:List Int),(∀ v∈r,low≤v∧v<low+w)→gL low w r.reverse.length (gG low w r.reverse 0)=r.reverse
 | [],_=>rfl
 | v::r,h=>by
  have ih:=akL hw r fun x hx=>h x (.tail _ hx)
  have hv:=h v (.head _);rw[List.reverse_cons,List.length_append,List.length_singleton,LV,gL];have hx:(v-low).toNat<w:=by omega
  rw[Nat.add_comm (_*w),Nat.add_mul_div_right _ _ hw,Nat.div_eq_of_lt hx,Nat.zero_add,ih,Nat.add_mul_mod_self_right,Nat.mod_eq_of_lt hx]
  congr 2
  omega
theorem ary {low:Int}{w:Nat}(hw:1≤w) {l:List Int}(h:∀ v∈l,low≤v∧v<low+w):gL low w l.length (gG low w l 0)=l:=by
 have:=akL hw l.reverse fun v hv=>h v (List.mem_reverse.1 hv)
 rwa [List.reverse_reverse]at this
def sgB:List Int→List Nat→List Nat
 | v::r,s::ss=>(if v=0 then [] else [s])++sgB r ss
 | _,_=>[]
def Yo:List Int→List Nat→Prop
 | v::r,s::ss=>(s≤1∧(v=0→s=0))∧Yo r ss
 | [],[]=>True
 | _,_=>False
theorem YB {s:Nat}(h:s≤1):aj s 1=[s]:=by simp[aj];omega
theorem sJ {b:List Nat}:∀ {vs:List Int}{ss:List Nat}{a n:Nat},a≤b.length→(fU b vs a=.ok ss n↔Yo vs ss∧At b a n (sgB vs ss))
 | [],ss,a,n,ha=>by
  rw[fU];constructor
  ·intro h;injection h with e1 e2
   subst e1 e2;exact⟨trivial,eC.2 ⟨rfl,ha⟩⟩
  ·rintro ⟨h1,h2⟩
   cases ss with
   | nil=>rw[(eC.1 h2).1]
   | cons s ss=>exact absurd h1 (by simp[Yo])
 | v::r,ss,a,n,ha=>by
  rw[fU];by_cases hv:v=0
  ·rw[if_pos hv,ay];constructor
   ·rintro ⟨l,m,h1,h⟩
    injection h with e1 e2
    subst e1 e2;obtain⟨g1,g2⟩:=(sJ ha).1 h1;exact⟨⟨⟨by omega,fun _=>rfl⟩,g1⟩,by rw[sgB,if_pos hv];exact g2⟩
   ·rintro ⟨h1,h2⟩
    cases ss with
    | nil=>exact absurd h1 (by simp[Yo])
    | cons s ss =>
     have:=h1.1.2 hv;subst this;rw[sgB,if_pos hv]at h2;exact⟨ss,n,(sJ ha).2 ⟨h1.2,h2⟩,rfl⟩
  ·rw[if_neg hv,ay];constructor
   ·rintro ⟨s,m,h1,h⟩
    obtain⟨g1,g2⟩:=(bi (s:=1) (by omega)).1 h1;rw[YB (by omega)]at g2;obtain⟨l,m2,h2,h⟩:=ay.1 h;injection h with e1 e2
    subst e1 e2;obtain⟨g3,g4⟩:=(sJ (cJ g2).2.1).1 h2;exact⟨⟨⟨by omega,fun h=>absurd h hv⟩,g3⟩,by rw[sgB,if_neg hv];exact aQ.2 ⟨m,g2,g4⟩⟩
   ·rintro ⟨h1,h2⟩
    cases ss with
    | nil=>exact absurd h1 (by simp[Yo])
    | cons s ss =>
     rw[sgB,if_neg hv]at h2;obtain⟨m,k1,k2⟩:=aQ.1 h2;have hs:=h1.1.1;exact⟨s,m,(bi (s:=1) (by omega)).2 ⟨by omega,by rw[YB hs];exact k1⟩,ay.2 ⟨ss,n,(sJ (cJ k1).2.1).2 ⟨h1.2,k2⟩,rfl⟩⟩
theorem Ic {b:List Nat}:∀ {f m a k n:Nat},pg b f m a=.ok k n↔(m≤k∧k<m+f)∧At b a n (List.replicate (k-m) 1++[0])
 | 0,m,a,k,n=>by
  rw[pg];exact⟨fun h=>absurd h (by simp),fun h=>by omega⟩
 | f+1,m,a,k,n=>by
  rw[pg,ay];constructor
  ·rintro ⟨v,m1,h1,h⟩
   obtain⟨g1,g2⟩:=(bi (s:=1) (by omega)).1 h1;rw[YB (by omega)]at g2;by_cases hv:v=1
   ·subst hv;rw[if_pos rfl,Ic]at h;obtain⟨h2,h3⟩:=h;refine⟨by omega,?_⟩;rw[show k-m=(k-(m+1))+1 by omega,List.replicate_succ,List.cons_append];exact aQ (X:=[1]) |>.2 ⟨m1,g2,h3⟩
   ·have:v=0:=by omega
    subst this;rw[if_neg hv]at h;injection h with e1 e2
    subst e1 e2;exact⟨by omega,by simpa using g2⟩
  ·rintro ⟨h1,h⟩
   by_cases hk:k=m
   ·subst hk;rw[Nat.sub_self]at h;refine⟨0,n,(bi (s:=1) (by omega)).2 ⟨by omega,?_⟩,by rw[if_neg (by omega)]⟩;simpa [aj] using h
   ·rw[show k-m=(k-(m+1))+1 by omega,List.replicate_succ,List.cons_append]at h;obtain⟨m1,k1,k2⟩:=aQ (X:=[1]) |>.1 h;refine⟨1,m1,(bi (s:=1) (by omega)).2 ⟨by omega,by simpa [aj] using k1⟩,?_⟩;rw[if_pos rfl,Ic];exact⟨by omega,k2⟩
abbrev asZ (x:Nat):List Nat:=List.replicate (bb x-5) 1++(0::aj (x % 2 ^ (bb x-1)) (bb x-1))
theorem amE {b:List Nat}{a x n:Nat}:HW b a=.ok x n↔(16≤x∧x≤8191)∧At b a n (asZ x):=by
 rw[HW,ay];constructor
 ·rintro ⟨m,n1,h1,h⟩
  obtain⟨⟨_,m9⟩,g1⟩:=Ic.1 h1;obtain⟨y,n2,h2,h⟩:=ay.1 h;obtain⟨g2,g3⟩:=(bi (by omega)).1 h2;injection h with e1 e2
  subst e1 e2;have p1:=Nat.pow_le_pow_right (n:=2) (by omega) (show 4≤m+4 by omega);have p2:=Nat.pow_le_pow_right (n:=2) (by omega) (show m+4≤12 by omega);have hl:=anT (n:=2 ^ (m+4)+y) (k:=m+4) (by omega) (by have:2 ^ (m+4+1)=2 ^ (m+4)*2:=Nat.pow_succ _ _;omega);refine⟨by omega,?_⟩;unfold asZ;rw[hl,show m+4+1-5=m by omega,Nat.add_sub_cancel,Nat.add_mod_left,Nat.mod_eq_of_lt g2];have:List.replicate m 1++(0::aj y (m+4))=(List.replicate m 1++[0])++aj y (m+4):=by simp
  rw[this];exact aQ.2 ⟨n1,by simpa using g1,g3⟩
 ·rintro ⟨⟨h1,h2⟩,h⟩
  have l1:=AH (n:=x);have l2:=mC (n:=x) (by omega);have k5:5≤bb x:=by
   rcases Nat.lt_or_ge (bb x) 5 with h | h
   ·have:=Nat.pow_le_pow_right (n:=2) (by omega) (show bb x≤4 by omega);omega
   ·exact h
  have k13:bb x≤13:=by
   rcases Nat.lt_or_ge 13 (bb x) with h | h
   ·have:=Nat.pow_le_pow_right (n:=2) (by omega) (show 13≤bb x-1 by omega);omega
   ·exact h
  obtain⟨m,hm⟩:∃ m,bb x=m+5:=⟨bb x-5,by omega⟩
  unfold asZ at h;rw[hm]at h l1 l2;rw[show m+5-1=m+4 by omega]at h l2;have l3:2 ^ (m+5)=2 ^ (m+4)*2:=Nat.pow_succ _ _;rw[Nat.add_sub_cancel]at h;have:List.replicate m 1++(0::aj (x % 2 ^ (m+4)) (m+4))=(List.replicate m 1++[0])++aj (x % 2 ^ (m+4)) (m+4):=by simp
  rw[this]at h;obtain⟨n1,j1,j2⟩:=aQ.1 h;have hx:x % 2 ^ (m+4)=x-2 ^ (m+4):=by rw[Nat.mod_eq_sub_mod l2,Nat.mod_eq_of_lt (by omega)]
  refine⟨m,n1,Ic.2 ⟨by omega,by simpa using j1⟩,ay.2 ⟨x % 2 ^ (m+4),n,(bi (by omega)).2 ⟨by omega,j2⟩,?_⟩⟩;rw[hx]
  congr 1
  omega
def sgn (v:Int):Nat:=if v<0 then 1 else 0
theorem wM {b:List Nat}{id:Nat}{M:Nat}(hM:id=11→M=8191):∀ {vs:List Int}{ss:List Nat}{l:List Int}{a n:Nat},a≤b.length→Yo vs ss→(∀ v∈vs,0≤v∧(id=11→v≤16)∧(id≠11→v≤M))→
  (iD b id vs ss a=.ok l n↔(vs=l.map (fK id)∧ss=l.map sgn∧∀ v∈l,v.natAbs≤M)∧At b a n (l.flatMap (og id)))
 | [],[],l,a,n,ha,hs,hv=>by
  have e0:iD b id [] [] a=.ok [] a:=by simp[iD]
  rw[e0];constructor
  ·intro h;injection h with e1 e2
   subst e1 e2;exact⟨⟨rfl,rfl,by simp⟩,eC.2 ⟨rfl,ha⟩⟩
  ·rintro ⟨⟨h1,h2,_⟩,h3⟩
   cases l with
   | nil=>rw[(eC.1 h3).1]
   | cons x r=>exact absurd h1 (by simp)
 | [],s::ss,l,a,n,ha,hs,hv=>absurd hs (by simp[Yo])
 | v::r,[],l,a,n,ha,hs,hv=>absurd hs (by simp[Yo])
 | v::r,s::ss,l,a,n,ha,hs,hv=>by
  obtain⟨⟨s1,s2⟩,hs⟩:=hs;obtain⟨v0,v11,vM⟩:=hv v (.head _);have hv:=fun x hx=>hv x (.tail _ hx)
  have sg1:∀ x:Int,0≤x→(x=0→s=0)→sgn (sg s x)=s∧(sg s x).natAbs=x.toNat:=fun x h0 h1=>by
   unfold sgn sg;by_cases h:s=1
   ·rw[if_pos h,if_pos (by omega)];omega
   ·rw[if_neg h,if_neg (by omega)];omega
  have sg2:∀ (y:Int),s=sgn y→sg s (y.natAbs:Int)=y:=fun y h=>by
   unfold sgn at h;unfold sg;by_cases h2:y<0
   ·rw[if_pos h2]at h;rw[if_pos h];omega
   ·rw[if_neg h2]at h;rw[if_neg (by omega)];omega
  rw[iD];by_cases hg:id=11∧v=16
  ·rw[if_pos hg,ay];obtain⟨h11,hv16⟩:=hg;constructor
   ·rintro ⟨x,m,h1,h⟩
    obtain⟨g1,g2⟩:=amE.1 h1;obtain⟨l2,m2,h2,h⟩:=ay.1 h;injection h with e1 e2
    subst e1 e2;obtain⟨⟨g3,g4,g5⟩,g6⟩:=(wM hM (cJ g2).2.1 hs hv).1 h2;obtain⟨q1,q2⟩:=sg1 x (by omega) (by omega);have q3:(sg s (x:Int)).natAbs=x:=by omega
    refine⟨⟨?_,?_,?_⟩,?_⟩
    ·rw[List.map_cons,←g3,fK,if_pos (by omega),hv16]
    ·rw[List.map_cons,←g4,q1]
    ·intro y hy;rcases List.mem_cons.1 hy with rfl | hy
     ·rw[q3,hM h11];omega
     ·exact g5 y hy
    ·rw[List.flatMap_cons,og,if_pos (by omega),q3];exact aQ.2 ⟨m,g2,g6⟩
   ·rintro ⟨⟨h1,h2,h3⟩,h4⟩
    cases l with
    | nil=>exact absurd h1 (by simp)
    | cons y l =>
     rw[List.map_cons]at h1 h2;injection h1 with h1 h1t
     injection h2 with h2 h2t
     have hy:=h3 y (.head _);rw[hM h11]at hy;have h16:16≤y.natAbs:=by
      rw[fK]at h1;by_cases h:id=11∧16≤y.natAbs
      ·exact h.2
      ·rw[if_neg h]at h1;omega
     rw[List.flatMap_cons,og,if_pos ⟨h11,h16⟩]at h4;obtain⟨m,k1,k2⟩:=aQ.1 h4;refine⟨y.natAbs,m,amE.2 ⟨by omega,k1⟩,ay.2 ⟨l,n,(wM hM (cJ k1).2.1 hs hv).2 ⟨⟨h1t,h2t,fun z hz=>h3 z (.tail _ hz)⟩,k2⟩,?_⟩⟩;rw[sg2 y h2]
  ·rw[if_neg hg,ay];constructor
   ·rintro ⟨l2,m,h1,h⟩
    injection h with e1 e2
    subst e1 e2;obtain⟨⟨g3,g4,g5⟩,g6⟩:=(wM hM ha hs hv).1 h1;obtain⟨q1,q2⟩:=sg1 v v0 s2;have hng:¬ (id=11∧16≤(sg s v).natAbs):=by omega
    refine⟨⟨?_,?_,?_⟩,?_⟩
    ·rw[List.map_cons,←g3,fK,if_neg hng];congr 1;omega
    ·rw[List.map_cons,←g4,q1]
    ·intro y hy;rcases List.mem_cons.1 hy with rfl | hy
     ·by_cases h11:id=11
      ·have:=hM h11;have:=v11 h11;omega
      ·have:=vM h11;omega
     ·exact g5 y hy
    ·rw[List.flatMap_cons,og,if_neg hng,List.nil_append];exact g6
   ·rintro ⟨⟨h1,h2,h3⟩,h4⟩
    cases l with
    | nil=>exact absurd h1 (by simp)
    | cons y l =>
     rw[List.map_cons]at h1 h2;injection h1 with h1 h1t
     injection h2 with h2 h2t
     have hng:¬ (id=11∧16≤y.natAbs):=fun h=>by
      rw[fK,if_pos h]at h1;exact hg ⟨h.1,h1⟩
     rw[fK,if_neg hng]at h1;rw[List.flatMap_cons,og,if_neg hng,List.nil_append]at h4;refine⟨l,n,(wM hM ha hs hv).2 ⟨⟨h1t,h2t,fun z hz=>h3 z (.tail _ hz)⟩,h4⟩,?_⟩;rw[h1,sg2 y h2]
theorem ajn {id:Nat}{v:Int}:fK id v=0↔v=0:=by
 unfold fK;by_cases h:id=11∧16≤v.natAbs
 ·rw[if_pos h];omega
 ·rw[if_neg h];omega
theorem adk {id:Nat}:∀ {l:List Int},sgB (l.map (fK id)) (l.map sgn)=l.flatMap ka
 | []=>rfl
 | v::r=>by
  rw[List.map_cons,List.map_cons,sgB,adk,List.flatMap_cons]
  congr 1
  unfold ka sgn;by_cases h:v=0
  ·rw[if_pos (ajn.2 h),if_pos h]
  ·rw[if_neg (fun h2=>h (ajn.1 h2)),if_neg h];split<;>rfl
theorem abA {id:Nat}:∀ {l:List Int},Yo (l.map (fK id)) (l.map sgn)
 | []=>trivial
 | v::r=>⟨⟨by unfold sgn;split<;>omega,fun h=>by rw[ajn]at h;subst h;rfl⟩,abA⟩
theorem awh:di 11=8191:=by decide +kernel
theorem ast {id:Nat}(hid:1≤id∧id≤11) {b:List Nat}{a n:Nat}{l:List Int}:xb id b (a:Int)=.ok l n↔K5 id l∧At b a n (xk id l):=by
 have hok:eY id:=⟨hid.1,by omega⟩
 obtain⟨m1,m2,m3,m4⟩:=tD id (No hid);obtain⟨k1,k2,k3,k4,k5,k6,k7⟩:=gP id (c6 hok);have hmany:ax id=aW id ^ bQ id:=rfl;have lt:∀ {vs:List Int},KY id vs→gG (bq id) (aW id) vs 0<ax id:=fun {vs} h=>by
  have:=AC (n:=0) (j:=0) h.2 (by simp);rw[Nat.zero_add,h.1,←hmany]at this;exact this
 have back:∀ {vs:List Int},KY id vs→iw id (gG (bq id) (aW id) vs 0)=vs:=fun {vs} h=>by
  have:=ary k3 h.2;rw[h.1]at this;exact this
 have forth:∀ {e:Nat},e<ax id→gG (bq id) (aW id) (iw id e) 0=e∧∀ v∈iw id e,bq id≤v∧v<bq id+aW id:=fun {e} h=>⟨afk k3 (by rwa [←hmany]),AQ k3⟩
 rw[xb,ay];unfold xk;by_cases hs:fZ id=true
 ·simp only[if_pos hs];obtain⟨q1,q2⟩:=m1 hs;constructor
  ·rintro ⟨e,m,h1,h⟩
   obtain⟨g1,g2⟩:=(we hok).1 h1;injection h with e1 e2
   subst e1 e2;obtain⟨f1,f2⟩:=forth g1;refine⟨⟨by rw[xL,m3],fun v hv=>by have:=f2 v hv;omega⟩,?_⟩;rw[f1];exact g2
  ·rintro ⟨h1,h2⟩
   have hi:=(Hs hid h1).1 hs;exact⟨_,n,(we hok).2 ⟨lt hi,h2⟩,by rw[back hi]⟩
 ·have hs2:fZ id=false:=by simpa using hs
  simp only[if_neg hs];obtain⟨q1,q2,q3⟩:=m2 hs2;have h11:id=11→di id=8191:=fun h=>by rw[h];exact awh
  constructor
  ·rintro ⟨e,m,h1,h⟩
   obtain⟨g1,g2⟩:=(we hok).1 h1;obtain⟨ss,m2,h2,h⟩:=ay.1 h;obtain⟨g3,g4⟩:=(sJ (cJ g2).2.1).1 h2;obtain⟨f1,f2⟩:=forth g1;have hv:∀ v∈iw id e,0≤v∧(id=11→v≤16)∧(id≠11→v≤di id):=fun v hv=>by
    have:=f2 v hv;refine⟨by omega,fun h=>by have:=q3 h;omega,fun h=>by have:=q2 h;omega⟩
   obtain⟨⟨g5,g6,g7⟩,g8⟩:=(wM h11 (cJ g4).2.1 g3 hv).1 h;have hl:l.length=aI id:=by
    have:=congrArg List.length g5;rw[xL,List.length_map]at this;omega
   refine⟨⟨hl,g7⟩,aQ.2 ⟨m,?_,aQ.2 ⟨m2,?_,g8⟩⟩⟩
   ·rw[←g5,f1];exact g2
   ·rw[←adk (id:=id),←g5,←g6];exact g4
  ·rintro ⟨h1,h2⟩
   have hi:=(Hs hid h1).2 hs2;obtain⟨m,j1,j2⟩:=aQ.1 h2;obtain⟨p,j3,j4⟩:=aQ.1 j2;have hv:∀ v∈l.map (fK id),0≤v∧(id=11→v≤16)∧(id≠11→v≤di id):=fun v hv=>by
    have:=hi.2 v hv;refine⟨by omega,fun h=>by have:=q3 h;omega,fun h=>by have:=q2 h;omega⟩
   refine⟨_,m,(we hok).2 ⟨lt hi,j1⟩,?_⟩;rw[back hi];refine ay.2 ⟨l.map sgn,p,(sJ (cJ j1).2.1).2 ⟨abA,by rw[adk];exact j3⟩,?_⟩;exact(wM h11 (cJ j3).2.1 abA hv).2 ⟨⟨rfl,rfl,h1.2⟩,j4⟩
theorem av4:ax 12=121:=by decide +kernel
theorem amV {b:List Nat}{a n:Nat}{d:Int}:Bf b (a:Int)=.ok d n↔(-60≤d∧d≤60)∧At b a n (fS 12 (d+60).toNat):=by
 have hok:eY 12:=by omega
 have h12:=av4;rw[Bf,ay];constructor
 ·rintro ⟨e,m,h1,h⟩
  obtain⟨g1,g2⟩:=(we hok).1 h1;injection h with e1 e2
  subst e1 e2;refine⟨by omega,?_⟩;rw[show ((e:Int)-60+60).toNat=e by omega];exact g2
 ·rintro ⟨h1,h2⟩
  refine⟨(d+60).toNat,n,(we hok).2 ⟨by omega,h2⟩,?_⟩
  congr 1
  omega
theorem N7 {b:List Nat}{a n:Nat}{k w v:Int}(hw:w<0→k=13):gg b (a:Int) k w=.ok v n↔((0≤v∧v≤ll k)∧(w<0∨(w-60≤v∧v≤w+60)))∧At b a n (if w<0 then aj v.toNat 9 else fS 12 (v-w+60).toNat):=by
 rw[gg];by_cases h0:w<0
 ·have hk:=hw h0;have hm:ll k=511:=if_pos hk;rw[if_pos h0,if_pos h0,ay,hm];constructor
  ·rintro ⟨x,m,h1,h⟩
   obtain⟨g1,g2⟩:=(bi (s:=9) (by omega)).1 h1;injection h with e1 e2
   subst e1 e2;exact⟨⟨by omega,.inl h0⟩,by simpa using g2⟩
  ·rintro ⟨⟨h1,_⟩,h2⟩
   exact⟨v.toNat,n,(bi (s:=9) (by omega)).2 ⟨by omega,h2⟩,by congr 1;omega⟩
 ·rw[if_neg h0,if_neg h0,ay];constructor
  ·rintro ⟨d,m,h1,h⟩
   obtain⟨g1,g2⟩:=amV.1 h1;by_cases hx:w+d<0∨ll k<w+d
   ·rw[if_pos hx]at h;exact absurd h (by simp)
   rw[if_neg hx]at h;injection h with e1 e2
   subst e1 e2;refine⟨⟨by omega,.inr (by omega)⟩,?_⟩;rw[show w+d-w+60=d+60 by omega];exact g2
  ·rintro ⟨⟨h1,h2⟩,h3⟩
   refine⟨v-w,n,amV.2 ⟨by omega,h3⟩,?_⟩;rw[if_neg (by omega)]
   congr 1
   omega
theorem s13 {v w z:Int}:kN 13 v w z=if z<0 then aj v.toNat 9 else fS 12 (v-z+60).toNat:=by rw[kN,if_neg (by decide),if_pos rfl]
theorem t13 {v w z:Int}:fF 13 v w z=(w,v):=by rw[fF,if_neg (by decide),if_pos rfl]
theorem sq {b:List Nat}:∀ {r:List Int}{t:List Int}{a n:Nat}{w z w2 z2:Int},a≤b.length→(∀ k∈r,0≤k)→0≤w→
  (jx b r (a:Int) w z=.ok (t,w2,z2) n↔bH r t w z=some (w2,z2)∧At b a n (kx r t w z))
 | [],t,a,n,w,z,w2,z2,ha,hr,hw=>by
  rw[jx,Int.toNat_natCast];constructor
  ·intro h;injection h with e1 e2
   injection e1 with e1 e3
   injection e3 with e3 e4
   subst e1 e2 e3 e4;exact⟨rfl,eC.2 ⟨rfl,ha⟩⟩
  ·rintro ⟨h1,h2⟩
   cases t with
   | nil =>
    injection h1 with h1
    injection h1 with e1 e2
    subst e1 e2;rw[(eC.1 h2).1]
   | cons x t=>exact absurd h1 (by simp[bH])
 | k::r,t,a,n,w,z,w2,z2,ha,hr,hw=>by
  have hk:=hr k (.head _);have hr2:∀ k∈r,0≤k:=fun x hx=>hr x (.tail _ hx)
  rw[jx];by_cases h13:k=13
  ·subst h13;rw[if_pos rfl,ay];have hm:ll 13=511:=rfl;constructor
   ·rintro ⟨v,m,h1,h⟩
    obtain⟨g1,g2⟩:=(N7 (fun _=>rfl)).1 h1;obtain⟨⟨t2,u2,y2⟩,m2,h2,h⟩:=ay.1 h;injection h with e1 e2
    injection e1 with e1 e3
    injection e3 with e3 e4
    simp only at e1 e3 e4;subst e1 e2 e3 e4;obtain⟨g3,g4⟩:=(sq (cJ g2).2.1 hr2 hw).1 h2;refine⟨?_,?_⟩
    ·rw[bH,if_neg (by decide),if_pos (by unfold gI;rw[if_pos rfl];omega),if_pos rfl];exact g3
    ·rw[kx,s13,t13];exact aQ.2 ⟨m,g2,g4⟩
   ·rintro ⟨h1,h2⟩
    cases t with
    | nil=>exact absurd h1 (by simp[bH])
    | cons v t =>
     obtain⟨c1,c2,c3⟩:=j9 (by rw[h1];simp);have hT:=c2 (by decide);unfold gI at hT;rw[if_pos rfl]at hT;rw[c3,fF,if_neg (by decide),if_pos rfl]at h1;rw[kx,s13,t13]at h2;obtain⟨m,j1,j2⟩:=aQ.1 h2;exact⟨v,m,(N7 (fun _=>rfl)).2 ⟨by omega,j1⟩,ay.2 ⟨(t,w2,z2),n,(sq (cJ j1).2.1 hr2 hw).2 ⟨h1,j2⟩,rfl⟩⟩
  ·rw[if_neg h13];by_cases h0:0<k
   ·have hm:ll k=255:=if_neg h13;have hk0:¬ k=0:=by omega
    rw[if_pos h0,ay];constructor
    ·rintro ⟨v,m,h1,h⟩
     obtain⟨g1,g2⟩:=(N7 (fun h=>by omega)).1 h1;obtain⟨⟨t2,u2,y2⟩,m2,h2,h⟩:=ay.1 h;injection h with e1 e2
     injection e1 with e1 e3
     injection e3 with e3 e4
     simp only at e1 e3 e4;subst e1 e2 e3 e4;rw[if_neg (by omega)]at g2;obtain⟨g3,g4⟩:=(sq (cJ g2).2.1 hr2 g1.1.1).1 h2;refine⟨?_,?_⟩
     ·rw[bH,if_neg hk0,if_pos (by unfold gI;rw[if_neg h13];omega),if_neg h13];exact g3
     ·rw[kx,kN,if_neg hk0,if_neg h13,fF,if_neg hk0,if_neg h13];exact aQ.2 ⟨m,g2,g4⟩
    ·rintro ⟨h1,h2⟩
     cases t with
     | nil=>exact absurd h1 (by simp[bH])
     | cons v t =>
      obtain⟨c1,c2,c3⟩:=j9 (by rw[h1];simp);have hT:=c2 hk0;unfold gI at hT;rw[if_neg h13]at hT;rw[c3,fF,if_neg hk0,if_neg h13]at h1;rw[kx,kN,if_neg hk0,if_neg h13,fF,if_neg hk0,if_neg h13]at h2;obtain⟨m,j1,j2⟩:=aQ.1 h2;exact⟨v,m,(N7 (fun h=>by omega)).2 ⟨by omega,by rw[if_neg (by omega)];exact j1⟩,ay.2 ⟨(t,w2,z2),n,(sq (cJ j1).2.1 hr2 hT.1.1).2 ⟨h1,j2⟩,rfl⟩⟩
   ·have hk0:k=0:=by omega
    subst hk0;rw[if_neg h0,ay];constructor
    ·rintro ⟨⟨t2,u2,y2⟩,m2,h2,h⟩
     injection h with e1 e2
     injection e1 with e1 e3
     injection e3 with e3 e4
     simp only at e1 e3 e4;subst e1 e2 e3 e4;obtain⟨g3,g4⟩:=(sq ha hr2 hw).1 h2;refine⟨?_,?_⟩
     ·rw[bH,if_pos rfl,if_pos rfl];exact g3
     ·rw[kx,kN,if_pos rfl,fF,if_pos rfl,List.nil_append];exact g4
    ·rintro ⟨h1,h2⟩
     cases t with
     | nil=>exact absurd h1 (by simp[bH])
     | cons v t =>
      obtain⟨c1,c2,c3⟩:=j9 (by rw[h1];simp);have:=c1 rfl;subst this;rw[c3,fF,if_pos rfl]at h1;rw[kx,kN,if_pos rfl,fF,if_pos rfl,List.nil_append]at h2;exact⟨(t,w2,z2),n,(sq ha hr2 hw).2 ⟨h1,h2⟩,rfl⟩
theorem alb:∀ {r t:List Int}{w z w2 z2:Int},0≤w→bH r t w z=some (w2,z2)→0≤w2
 | [],[],w,z,w2,z2,hw,h=>by
  injection h with h
  injection h with e1 e2
  omega
 | [],_::_,w,z,w2,z2,hw,h=>absurd h (by simp[bH])
 | _::_,[],w,z,w2,z2,hw,h=>absurd h (by simp[bH])
 | k::r,v::t,w,z,w2,z2,hw,h=>by
  obtain⟨c1,c2,c3⟩:=j9 (by rw[h];simp);rw[c3]at h;refine alb ?_ h;unfold fF;by_cases h0:k=0
  ·rw[if_pos h0];exact hw
  ·rw[if_neg h0];have:=c2 h0;unfold gI at this;split
   ·exact hw
   ·rename_i h13;rw[if_neg h13]at this;exact this.1.1
theorem MV {b:List Nat}:∀ {g:List (List am)}{t:List (List Int)}{a n:Nat}{w z:Int},a≤b.length→(∀ l∈g,∀ k∈ak l,0≤k)→0≤w→
  (iT b g (a:Int) w z=.ok t n↔iC g t w z≠none∧At b a n (kp g t w z))
 | [],t,a,n,w,z,ha,hr,hw=>by
  rw[iT,Int.toNat_natCast];constructor
  ·intro h;injection h with e1 e2
   subst e1 e2;exact⟨by simp[iC],eC.2 ⟨rfl,ha⟩⟩
  ·rintro ⟨h1,h2⟩
   cases t with
   | nil=>rw[(eC.1 h2).1]
   | cons x t=>exact absurd rfl h1
 | l::r,t,a,n,w,z,ha,hr,hw=>by
  have hl:=hr l (.head _);have hr2:∀ q∈r,∀ k∈ak q,0≤k:=fun q hq=>hr q (.tail _ hq)
  rw[iT,ay];constructor
  ·rintro ⟨⟨t1,w1,z1⟩,m,h1,h⟩
   obtain⟨g1,g2⟩:=(sq ha hl hw).1 h1;obtain⟨t2,m2,h2,h⟩:=ay.1 h;injection h with e1 e2
   subst e1 e2;obtain⟨g3,g4⟩:=(MV (cJ g2).2.1 hr2 (alb hw g1)).1 h2;refine⟨?_,?_⟩
   ·rw[iC,g1];exact g3
   ·rw[kp,g1];exact aQ.2 ⟨m,g2,g4⟩
  ·rintro ⟨h1,h2⟩
   cases t with
   | nil=>exact absurd rfl h1
   | cons t1 t =>
    rw[iC]at h1;rw[kp]at h2
    cases e:bH (ak l) t1 w z with
    | none=>rw[e]at h1;exact absurd rfl h1
    | some p =>
     obtain⟨w1,z1⟩:=p;rw[e]at h1 h2;obtain⟨m,j1,j2⟩:=aQ.1 h2;exact⟨(t1,w1,z1),m,(sq ha hl hw).2 ⟨e,j1⟩,ay.2 ⟨t,n,(MV (cJ j1).2.1 hr2 (alb hw e)).2 ⟨h1,j2⟩,rfl⟩⟩
theorem aqf {b:List Nat}{g:List (List am)}{t:List (List Int)}{a n:Nat}{w:Int}(ha:a≤b.length) (hr:∀ l∈g,∀ k∈ak l,0≤k) (hw:0≤w):uS b g (a:Int) w=.ok t n↔sC w g t∧At b a n (kp g t w (-1)):=by
 rw[uS,if_pos (by omega),MV ha hr hw]
theorem anJ {Z l:List Int}{a i:Nat}(h:a+l.length≤Z.length):(ah Z a l)[i]?=if a≤i∧i<a+l.length then l[i-a]? else Z[i]?:=by
 have h1:(Z.take a).length=a:=by rw[List.length_take];omega
 unfold ah;by_cases h2:i<a
 ·rw[if_neg (by omega),List.append_assoc,List.getElem?_append_left (by omega),List.getElem?_take,if_pos h2]
 ·by_cases h3:i<a+l.length
  ·rw[if_pos (by omega),List.append_assoc,List.getElem?_append_right (by omega),h1,List.getElem?_append_left (by omega)]
  ·rw[if_neg (by omega),List.getElem?_append_right (by rw[List.length_append];omega),List.length_append,h1,List.getElem?_drop]
   congr 1
   omega
abbrev cut (Z:List Int) (p:Nat×Nat):List Int:=(Z.drop p.2).take (aI p.1)
theorem amu {Z:List Int}{p:Nat×Nat}{i:Nat}(h:i<aI p.1):(cut Z p)[i]?=Z[p.2+i]?:=by
 rw[cut,List.getElem?_take,if_pos h,List.getElem?_drop]
theorem avu {Z:List Int}{p:Nat×Nat}(h:p.2+aI p.1≤Z.length):(cut Z p).length=aI p.1:=by
 rw[cut,List.length_take,List.length_drop];omega
theorem arm {os:List Nat}{d b x:Nat}:∀ {k w0 w:Nat},w0≤w→w<w0+k→x∈nj d (nth os (b+1)) 300 (nth os b)→w*32+x∈lF os d b k w0
 | 0,w0,w,h1,h2,_=>by omega
 | k+1,w0,w,h1,h2,h=>by
  rw[lF,List.mem_append];rcases Nat.lt_or_ge w0 w with h3 | h3
  ·exact .inr (arm h3 (by omega) h)
  ·have:w=w0:=by omega
   subst this;exact .inl (List.mem_map.2 ⟨x,h,rfl⟩)
theorem YL (i:al):(cond i.short 32 256:Nat)=i.wide∧((i.wide=32∧i.many=8)∨(i.wide=256∧i.many=1)):=by
 unfold al.short al.wide al.many;by_cases h:i.seq=2
 ·rw[decide_eq_true h,if_pos h,if_pos h];exact⟨rfl,.inl ⟨rfl,rfl⟩⟩
 ·rw[decide_eq_false h,if_neg h,if_neg h];exact⟨rfl,.inr ⟨rfl,rfl⟩⟩
def sm (b:List Nat) (st s2:RS) (X:List Nat):Prop:=∃ a n:Nat,st=⟨a,0⟩∧s2=⟨n,0⟩∧At b a n X
def anY (b:List Nat) (st:RS):Prop:=∃ a:Nat,st=⟨a,0⟩∧a≤b.length
theorem dT {b:List Nat}{st s2:RS}{X Y:List Nat}:sm b st s2 (X++Y)↔∃ m,sm b st m X∧sm b m s2 Y:=by
 constructor
 ·rintro ⟨a,n,e1,e2,h⟩
  obtain⟨m,h1,h2⟩:=aQ.1 h;exact⟨⟨m,0⟩,⟨a,m,e1,rfl,h1⟩,⟨m,n,rfl,e2,h2⟩⟩
 ·rintro ⟨m,⟨a,n,e1,e2,h⟩,⟨a2,n2,e3,e4,h2⟩⟩
  rw[e2]at e3;injection e3 with e3 _
  have:n=a2:=by omega
  subst this;exact⟨a,n2,e1,e4,aQ.2 ⟨n,h,h2⟩⟩
theorem sv {b:List Nat}{st s2:RS}:sm b st s2 []↔s2=st∧anY b st:=by
 constructor
 ·rintro ⟨a,n,e1,e2,h⟩
  obtain⟨h1,h2⟩:=eC.1 h;exact⟨by rw[e1,e2,h1],a,e1,h2⟩
 ·intro hh;obtain⟨a,e,h⟩:=hh.2;exact⟨a,a,e,by rw[hh.1,e],eC.2 ⟨rfl,h⟩⟩
theorem wC {b:List Nat}{st s2:RS}{X:List Nat}(h:sm b st s2 X):anY b st∧anY b s2∧st.e=0∧s2.e=0:=by
 obtain⟨a,n,e1,e2,h⟩:=h;have:=cJ h;exact⟨⟨a,e1,this.1⟩,⟨n,e2,this.2.1⟩,by rw[e1],by rw[e2]⟩
theorem RN {b:List Nat}{st:RS}{s:Nat}(h:(sN b st s).e=0):st.e=0:=by
 unfold sN at h;by_cases h0:st.e=0
 ·exact h0
 ·rw[if_neg h0]at h;exact absurd h h0
theorem EZ {b:List Nat}{st:RS}{s:Nat}(hs:s≤31) (h:(sN b st s).e=0):sV b st s<2 ^ s∧sm b st (sN b st s) (aj (sV b st s) s):=by
 have h0:=RN h;obtain⟨a,e⟩:=st;simp only at h0;subst h0
 cases hg:aO b a s with
 | er e=>rw[(ud hg).2]at h;exact absurd h (by simp)
 | ok v n =>
  rw[(fY hg).1,(fY hg).2];have ha:=am9 hg;obtain⟨A,rfl⟩:=Int.eq_ofNat_of_zero_le ha;obtain⟨g1,g2⟩:=(bi hs).1 hg;exact⟨g1,A,n,rfl,rfl,g2⟩
theorem LH {b:List Nat}{st s2:RS}{s v:Nat}(hs:s≤31) (hv:v<2 ^ s) (h:sm b st s2 (aj v s)):sV b st s=v∧sN b st s=s2:=by
 obtain⟨a,n,rfl,rfl,h⟩:=h;exact fY ((bi hs).2 ⟨hv,h⟩)
abbrev nx (b:List Nat) (st:RS):Prop:=st.e=0→anY b st
theorem aCJ {v sz:Nat}(hz:1≤sz) (hv:v<2 ^ sz):(-((2 ^ (sz-1):Nat):Int)≤MD v sz∧MD v sz<((2 ^ (sz-1):Nat):Int))∧(MD v sz % ((2 ^ sz:Nat):Int)).toNat=v:=by
 obtain⟨k,rfl⟩:∃ k,sz=k+1:=⟨sz-1,by omega⟩
 have e:2 ^ (k+1)=2*2 ^ k:=by rw[Nat.pow_succ,Nat.mul_comm]
 have hp:=Nat.two_pow_pos k;unfold MD;rw[Nat.add_sub_cancel];rw[e]at hv⊢;rcases Nat.lt_or_ge v (2 ^ k) with h | h
 ·rw[Nat.div_eq_of_lt h,Nat.zero_mul];refine⟨by omega,?_⟩;rw[Int.emod_eq_of_lt (by omega) (by omega)];omega
 ·have:v / 2 ^ k=1:=Nat.div_eq_of_lt_le (by omega) (by omega);rw[this,Nat.one_mul];refine⟨by omega,?_⟩;have e3:((v:Int)-((2*2 ^ k:Nat):Int)) % ((2*2 ^ k:Nat):Int)=v:=by
   rw[Int.sub_emod_right,Int.emod_eq_of_lt (by omega) (by omega)]
  rw[e3];omega
theorem aEb {c:Int}{sz:Nat}(hz:1≤sz) (h:-((2 ^ (sz-1):Nat):Int)≤c∧c<((2 ^ (sz-1):Nat):Int)):(c % ((2 ^ sz:Nat):Int)).toNat<2 ^ sz∧MD (c % ((2 ^ sz:Nat):Int)).toNat sz=c:=by
 obtain⟨k,rfl⟩:∃ k,sz=k+1:=⟨sz-1,by omega⟩
 have e:2 ^ (k+1)=2*2 ^ k:=by rw[Nat.pow_succ,Nat.mul_comm]
 have hp:=Nat.two_pow_pos k;rw[Nat.add_sub_cancel]at h;unfold MD;rw[Nat.add_sub_cancel,e];rcases Int.lt_or_le c 0 with h0 | h0
 ·have e3:c % ((2*2 ^ k:Nat):Int)=c+((2*2 ^ k:Nat):Int):=by
   rw[←Int.add_emod_right,Int.emod_eq_of_lt (by omega) (by omega)]
  rw[e3];have e4:(c+((2*2 ^ k:Nat):Int)).toNat / 2 ^ k=1:=Nat.div_eq_of_lt_le (by omega) (by omega);rw[e4];omega
 ·rw[Int.emod_eq_of_lt (by omega) (by omega),Nat.div_eq_of_lt (by omega)];omega
theorem axI {b:List Nat}{sz:Nat}(hz:1≤sz∧sz≤31):∀ {k:Nat}{st:RS},nx b st→(ot b sz k st).e=0→(po b sz k st).length=k∧(∀ c∈po b sz k st,-((2 ^ (sz-1):Nat):Int)≤c∧c<((2 ^ (sz-1):Nat):Int))∧sm b st (ot b sz k st) (kw sz (po b sz k st))
 | 0,st,hn,h=>⟨rfl,by simp[po],sv.2 ⟨rfl,hn h⟩⟩
 | k+1,st,hn,h=>by
  rw[ot]at h;have hn2:nx b (sN b st sz):=fun h1=>(wC (EZ hz.2 h1).2).2.1
  obtain⟨i1,i2,i3⟩:=axI hz (k:=k) hn2 h;obtain⟨j1,j2⟩:=EZ hz.2 (wC i3).2.2.1;obtain⟨v1,v2⟩:=aCJ hz.1 j1;rw[po,ot];refine⟨by rw[List.length_cons,i1],fun c hc=>?_,?_⟩
  ·rcases List.mem_cons.1 hc with rfl | hc
   ·exact v1
   ·exact i2 c hc
  ·rw[kw,List.flatMap_cons,v2];exact dT.2 ⟨_,j2,i3⟩
theorem axy {b:List Nat}{sz:Nat}(hz:1≤sz∧sz≤31):∀ {l:List Int}{st s2:RS},(∀ c∈l,-((2 ^ (sz-1):Nat):Int)≤c∧c<((2 ^ (sz-1):Nat):Int))→sm b st s2 (kw sz l)→po b sz l.length st=l∧ot b sz l.length st=s2
 | [],st,s2,hl,h=>⟨rfl,(sv.1 h).1.symm⟩
 | c::r,st,s2,hl,h=>by
  rw[kw,List.flatMap_cons]at h;obtain⟨m,h1,h2⟩:=dT.1 h;obtain⟨v1,v2⟩:=aEb hz.1 (hl c (.head _));obtain⟨w1,w2⟩:=LH hz.2 v1 h1;obtain⟨i1,i2⟩:=axy hz (l:=r) (fun x hx=>hl x (.tail _ hx)) h2;rw[List.length_cons,po,ot,w1,w2,v2,i1,i2];exact⟨rfl,rfl⟩
theorem asU {b:List Nat}{sz:Nat}:∀ {k:Nat}{st:RS},(ot b sz k st).e=0→st.e=0
 | 0,_,h=>h
 | k+1,st,h=>by rw[ot]at h;exact RN (asU h)
theorem NG {b:List Nat}{st:RS}{s:Nat}(hs:s≤31):nx b (sN b st s):=fun h=>(wC (EZ hs h).2).2.1
theorem ax4 {b:List Nat}{sz:Nat}(hz:sz≤31):∀ {k:Nat}{st:RS},nx b st→nx b (ot b sz k st)
 | 0,_,h=>h
 | k+1,st,h=>by rw[ot];exact ax4 hz (NG hz)
theorem aqb {fine:Bool}{w:Nat}(hw:w≤1):1≤cK fine-w∧cK fine-w≤31:=by unfold cK;split<;>omega
theorem auP (fine:Bool) (l:List Int) (s:Nat) (hs:s=cK fine-1):Dy l s=decide (∀ c∈l,-(bD fine / 2)≤c∧c<bD fine / 2):=by
 subst hs
 cases fine<;>rfl
theorem MS (sh:Bool):qC sh=((2 ^ aL sh:Nat):Int)-1∧aL sh≤31∧aJ sh≤31∧bY sh≤31:=by cases sh<;>decide
theorem aqO {d:Nat}(h:d<2 ^ 1):bL (decide (d=1))=d:=by
 unfold bL;by_cases h1:d=1
 ·rw[h1];rfl
 ·rw[decide_eq_false h1];simp;omega
theorem aDT {b:List Nat}{sh fine:Bool}{st:RS}(hO:¬ (12<kU b (aL sh) (aJ sh) st∧(pR b (aL sh) (aJ sh) st).e=0)) (hX:DL b (aL sh) (aJ sh) fine st=false) (he:(pr b (aL sh) (aJ sh) fine st).e=0) :
  (tK sh (Gw b (aL sh) (aJ sh) fine st)∧(Gw b (aL sh) (aJ sh) fine st).fine=fine)∧sm b st (pr b (aL sh) (aJ sh) fine st) (lv sh (Gw b (aL sh) (aJ sh) fine st)):=by
 obtain⟨l1,l2,l3,_⟩:=MS sh;have hS:(pR b (aL sh) (aJ sh) st).e=0:=by
  unfold pr at he;by_cases h0:kU b (aL sh) (aJ sh) st=0
  ·rw[if_pos h0]at he;exact he
  ·rw[if_neg h0]at he;have:=asU he;exact RN (s:=1) (RN (s:=1) this)
 have r2:=EZ (st:=sN b st (aL sh)) (s:=aJ sh) l3 hS;have r1:=EZ (st:=st) (s:=aL sh) l2 (RN (s:=aJ sh) hS);have hO2:((kU b (aL sh) (aJ sh) st:Nat):Int)≤nU sh:=by
  have h1:kU b (aL sh) (aJ sh) st<2 ^ aJ sh:=r2.1;have h2:kU b (aL sh) (aJ sh) st≤12:=by
   rcases Nat.lt_or_ge 12 (kU b (aL sh) (aJ sh) st) with h | h
   ·exact absurd ⟨h,hS⟩ hO
   ·exact h
  cases sh
  ·show _≤(12:Int);omega
  ·have:2 ^ aJ true=8:=rfl;show _≤(7:Int);omega
 have hr1:=r1.1;have q2:sm b (sN b st (aL sh)) (pR b (aL sh) (aJ sh) st) (aj (kU b (aL sh) (aJ sh) st) (aJ sh)):=r2.2;unfold pr at he⊢;unfold Gw;by_cases h0:kU b (aL sh) (aJ sh) st=0
 ·rw[if_pos h0]at he⊢;rw[if_pos h0];rw[h0]at q2;refine⟨⟨⟨⟨by simp only[];omega,by simp only[];omega⟩,⟨by simp,by simp only[];cases sh<;>decide⟩,rfl,fun _=>rfl,by simp⟩,rfl⟩,?_⟩;unfold lv;simp only[if_true,List.append_nil];exact dT.2 ⟨_,by simpa using r1.2,by simpa using q2⟩
 ·rw[if_neg h0]at he⊢;rw[if_neg h0];have hT:=asU he;have r4:=EZ (st:=sN b (pR b (aL sh) (aJ sh) st) (1:Nat)) (s:=1) (by omega) hT;have r3:=EZ (st:=pR b (aL sh) (aJ sh) st) (s:=1) (by omega) (RN (s:=1) hT);have hd:flD b (aL sh) (aJ sh) st<2 ^ 1:=r3.1;have hw:zU b (aL sh) (aJ sh) st<2 ^ 1:=r4.1;have q3:sm b (pR b (aL sh) (aJ sh) st) (sN b (pR b (aL sh) (aJ sh) st) (1:Nat)) (aj (flD b (aL sh) (aJ sh) st) 1):=r3.2;have q4:sm b (sN b (pR b (aL sh) (aJ sh) st) (1:Nat)) (JG b (aL sh) (aJ sh) st) (aj (zU b (aL sh) (aJ sh) st) 1):=r4.2;have hz:=aqb (fine:=fine) (w:=zU b (aL sh) (aJ sh) st) (by omega);have c:=axI (sz:=CI b (aL sh) (aJ sh) fine st) hz (k:=kU b (aL sh) (aJ sh) st) (NG (st:=sN b (pR b (aL sh) (aJ sh) st) (1:Nat)) (s:=1) (by omega)) he;unfold DL at hX;rw[if_neg h0]at hX;obtain⟨c1,c2,c3⟩:=c;have c3:sm b (JG b (aL sh) (aJ sh) st) _ _:=c3;have hZ:CI b (aL sh) (aJ sh) fine st=cK fine-zU b (aL sh) (aJ sh) st:=rfl;generalize hcf:po b (CI b (aL sh) (aJ sh) fine st) (kU b (aL sh) (aJ sh) st) (sN b (sN b (pR b (aL sh) (aJ sh) st) (1:Nat)) (1:Nat))=cs at *;have hcf2:po b (CI b (aL sh) (aJ sh) fine st) (kU b (aL sh) (aJ sh) st) (JG b (aL sh) (aJ sh) st)=cs:=hcf;rw[hcf2]at hX⊢;have hrng:∀ c∈cs,-bD fine≤c∧c<bD fine:=fun c hc=>by
   have:=c2 c hc;rw[hZ]at this;have hw2:zU b (aL sh) (aJ sh) st=0∨zU b (aL sh) (aJ sh) st=1:=by omega
   rcases hw2 with e | e<;>rw[e]at this<;>cases fine<;>simp only[cK,bD]at this⊢<;>simp at this⊢<;>omega
  have hnar:bL (decide (∀ c∈cs,-(bD fine / 2)≤c∧c<bD fine / 2))=zU b (aL sh) (aJ sh) st:=by
   rw[←auP fine cs _ rfl];have hw2:zU b (aL sh) (aJ sh) st=0∨zU b (aL sh) (aJ sh) st=1:=by omega
   rcases hw2 with e | e
   ·rw[e]at hX hZ⊢;rw[hZ]at hX;simp only[decide_true,Bool.true_and,Nat.sub_zero]at hX;rw[hX];rfl
   ·rw[e]at hZ⊢;have:Dy cs (cK fine-1)=true:=by
     rw[Dy,decide_eq_true_eq];intro c hc;have:=c2 c hc;rw[hZ]at this
     cases fine<;>simp only[cK]at this⊢<;>simp at this⊢<;>omega
    rw[this];rfl
  refine⟨⟨⟨⟨by simp only[];omega,by simp only[];omega⟩,⟨by simp only[];omega,hO2⟩,by simp only[];rw[c1],fun h=>absurd h (by simp only[];omega),hrng⟩,rfl⟩,?_⟩;unfold lv;rw[if_neg (by simp only[];omega)];refine dT.2 ⟨_,by simpa using r1.2,dT.2 ⟨_,by simpa using q2,dT.2 ⟨_,by simp only[];rw[aqO hd];exact q3,dT.2 ⟨JG b (aL sh) (aJ sh) st,?_,?_⟩⟩⟩⟩
  ·simp only[cN];rw[hnar];exact q4
  ·simp only[l7,cN];rw[hnar];exact c3
theorem aC6 {b:List Nat}{sh:Bool}{f:aV}{st s2:RS}(hf:tK sh f) (h:sm b st s2 (lv sh f)) :
  Gw b (aL sh) (aJ sh) f.fine st=f∧pr b (aL sh) (aJ sh) f.fine st=s2∧DL b (aL sh) (aJ sh) f.fine st=false∧¬ (12<kU b (aL sh) (aJ sh) st):=by
 obtain⟨l1,l2,l3,_⟩:=MS sh;obtain⟨len,ord,down,fine,cs⟩:=f;obtain⟨⟨f1,f2⟩,⟨f3,f4⟩,f5,f6,f7⟩:=hf;simp only at f1 f2 f3 f4 f5 f6 f7⊢;obtain⟨len,rfl⟩:=Int.eq_ofNat_of_zero_le f1;obtain⟨ord,rfl⟩:=Int.eq_ofNat_of_zero_le f3;have hordF:ord<2 ^ aJ sh∧ord≤12:=by
  cases sh
  ·have:(ord:Int)≤12:=f4;have:2 ^ aJ false=32:=rfl;omega
  ·have:(ord:Int)≤7:=f4;have:2 ^ aJ true=8:=rfl;omega
 unfold lv at h;simp only[Int.toNat_natCast]at h;obtain⟨m1,h1,h⟩:=dT.1 h;obtain⟨m2,h2,h⟩:=dT.1 h;obtain⟨v1,n1⟩:=LH l2 (show len<2 ^ aL sh by omega) h1;obtain⟨v2,n2⟩:=LH l3 hordF.1 h2;have hO:kU b (aL sh) (aJ sh) st=ord:=by unfold kU;rw[n1,v2]
 have hS:pR b (aL sh) (aJ sh) st=m2:=by unfold pR;rw[n1,n2]
 refine⟨?_,?_,?_,by rw[hO];omega⟩
 all_goals
  by_cases h0:ord=0
  ·subst h0;have hc:cs=[]:=List.eq_nil_of_length_eq_zero (by omega);have hd:=f6 rfl;subst hc hd;simp only[Int.natCast_zero,if_true]at h;have hs2:=(sv.1 h).1
   first
    | (unfold Gw;rw[if_pos hO,v1];rfl)
    | (unfold pr;rw[if_pos hO,hS,hs2])
    | (unfold DL;rw[if_pos hO])
  ·rw[if_neg (by omega)]at h;obtain⟨m3,h3,h⟩:=dT.1 h;obtain⟨m4,h4,h5⟩:=dT.1 h;have b1:∀ x:Bool,bL x<2 ^ 1:=fun x=>by cases x<;>decide
   obtain⟨v3,n3⟩:=LH (s:=1) (by omega) (b1 down) h3;obtain⟨v4,n4⟩:=LH (s:=1) (by omega) (b1 _) h4;have hD:flD b (aL sh) (aJ sh) st=bL down:=by unfold flD;rw[hS];exact v3
   have hT:JG b (aL sh) (aJ sh) st=m4:=by
    unfold JG;rw[hS];show sN b (sN b m2 (1:Nat)) (1:Nat)=m4;rw[n3,n4]
   have hW:zU b (aL sh) (aJ sh) st=bL (cN ⟨len,ord,down,fine,cs⟩):=by
    unfold zU;rw[hS];show sV b (sN b m2 (1:Nat)) (1:Nat)=_;rw[n3,v4]
   have hZ:CI b (aL sh) (aJ sh) fine st=l7 ⟨len,ord,down,fine,cs⟩:=by unfold CI;rw[hW];rfl
   have hw1:bL (cN ⟨len,ord,down,fine,cs⟩)≤1:=by cases cN ⟨len,ord,down,fine,cs⟩<;>decide
   have hz:=aqb (fine:=fine) hw1;have hrng:∀ c∈cs,-((2 ^ (l7 ⟨len,ord,down,fine,cs⟩-1):Nat):Int)≤c∧c<((2 ^ (l7 ⟨len,ord,down,fine,cs⟩-1):Nat):Int):=fun c hc=>by
    have a:=f7 c hc
    cases hn:cN ⟨len,ord,down,fine,cs⟩ with
    | true =>
     have b:=(of_decide_eq_true hn) c hc;simp only[l7,hn]
     cases fine<;>simp only[cK,bL,bD]at b⊢<;>simp at b⊢<;>omega
    | false =>
     simp only[l7,hn]
     cases fine<;>simp only[cK,bL,bD]at a⊢<;>simp at a⊢<;>omega
   have hco:cs.length=ord:=by omega
   obtain⟨c1,c2⟩:=axy (sz:=l7 ⟨len,ord,down,fine,cs⟩) hz hrng h5;rw[hco]at c1 c2
   first
    | (unfold Gw;rw[if_neg (by omega),v1,hO,hD,hZ,hT,c1];congr 1;cases down<;>rfl)
    | (unfold pr;rw[if_neg (by omega),hO,hZ,hT,c2])
    | (unfold DL;rw[if_neg (by omega),hO,hZ,hT,c1,hW];cases hn:cN ⟨len,ord,down,fine,cs⟩;rw[show l7 ⟨len,ord,down,fine,cs⟩-1=cK fine-1 from (by rw[l7,hn];rfl),auP fine cs _ rfl];show (_ && cN ⟨len,ord,down,fine,cs⟩)=false;rw[hn,Bool.and_false];rfl)
theorem aqJ {b:List Nat}{sh fine:Bool}{st:RS}:nx b (pr b (aL sh) (aJ sh) fine st):=by
 obtain⟨l1,l2,l3,_⟩:=MS sh;unfold pr;by_cases h0:kU b (aL sh) (aJ sh) st=0
 ·rw[if_pos h0];exact NG l3
 ·rw[if_neg h0];have hz:CI b (aL sh) (aJ sh) fine st≤31:=by unfold CI cK;split<;>omega
  exact ax4 hz (NG (st:=sN b (pR b (aL sh) (aJ sh) st) (1:Nat)) (s:=1) (by omega))
theorem aut {b:List Nat}{sh fine:Bool}:∀ {k:Nat}{o:Bool}{st st2:RS}{l:List aV},nx b st→ew b (aL sh) (aJ sh) fine k o st=some (l,false,st2)→st2.e=0→
  o=false∧l.length=k∧(∀ f∈l,tK sh f∧f.fine=fine)∧sm b st st2 (l.flatMap (lv sh))
 | 0,o,st,st2,l,hn,h,he=>by
  rw[ew]at h;injection h with h
  injection h with e1 h
  injection h with e2 e3
  subst e1 e2 e3;exact⟨rfl,rfl,by simp,sv.2 ⟨rfl,hn he⟩⟩
 | k+1,o,st,st2,l,hn,h,he=>by
  rw[ew]at h;by_cases hO:12<kU b (aL sh) (aJ sh) st∧(pR b (aL sh) (aJ sh) st).e=0
  ·rw[if_pos hO]at h;exact absurd h (by simp)
  rw[if_neg hO]at h
  cases hq:ew b (aL sh) (aJ sh) fine k (o || DL b (aL sh) (aJ sh) fine st) (pr b (aL sh) (aJ sh) fine st) with
  | none=>rw[hq]at h;exact absurd h (by simp)
  | some q =>
   obtain⟨l2,o2,s3⟩:=q;rw[hq]at h;simp only[Option.some.injEq,Prod.mk.injEq]at h;obtain⟨e1,e2,e3⟩:=h;subst e1 e2 e3;obtain⟨i1,i2,i3,i4⟩:=aut aqJ hq he;rw[Bool.or_eq_false_iff]at i1;obtain⟨⟨j1,j2⟩,j3⟩:=aDT hO i1.2 (wC i4).2.2.1;refine⟨i1.1,by rw[List.length_cons,i2],fun f hf=>?_,?_⟩
   ·rcases List.mem_cons.1 hf with rfl | hf
    ·exact⟨j1,j2⟩
    ·exact i3 f hf
   ·rw[List.flatMap_cons];exact dT.2 ⟨_,j3,i4⟩
theorem auZ {b:List Nat}{sh fine:Bool}:∀ {l:List aV}{st st2:RS},(∀ f∈l,tK sh f∧f.fine=fine)→sm b st st2 (l.flatMap (lv sh))→ew b (aL sh) (aJ sh) fine l.length false st=some (l,false,st2)
 | [],st,st2,hl,h=>by rw[(sv.1 h).1];rfl
 | f::r,st,st2,hl,h=>by
  obtain⟨h1,h2⟩:=hl f (.head _);rw[List.flatMap_cons]at h;obtain⟨m,k1,k2⟩:=dT.1 h;obtain⟨j1,j2,j3,j4⟩:=aC6 h1 k1;rw[h2]at j1 j2 j3;rw[List.length_cons,ew,if_neg (fun h=>j4 h.1),j3,j2,Bool.or_false,auZ (fun x hx=>hl x (.tail _ hx)) k2,j1]
theorem aoS (sh:Bool):x0T sh=bY sh∧x1T sh=aL sh∧x2T sh=aJ sh∧2 ^ bY sh=ke sh+1:=by cases sh<;>decide
theorem afe {sh:Bool}{f:aV}{r:List aV}:rS sh (f::r)=aj (f::r).length (bY sh)++(aj (bL f.fine) 1++(f::r).flatMap (lv sh)):=rfl
theorem aiG {sh:Bool}:rS sh []=aj 0 (bY sh):=by simp[rS]
theorem auj {b:List Nat}{sh:Bool}:∀ {k:Nat}{o:Bool}{st st2:RS}{t:List (List aV)},nx b st→jT b (bY sh) (aL sh) (aJ sh) k o st=some (t,false,st2)→st2.e=0→
  o=false∧t.length=k∧(∀ l∈t,lO sh l)∧sm b st st2 (fV sh t)
 | 0,o,st,st2,t,hn,h,he=>by
  rw[jT]at h;injection h with h
  injection h with e1 h
  injection h with e2 e3
  subst e1 e2 e3;exact⟨rfl,rfl,by simp,sv.2 ⟨rfl,hn he⟩⟩
 | k+1,o,st,st2,t,hn,h,he=>by
  obtain⟨l1,l2,l3,l4⟩:=MS sh;obtain⟨_,_,_,x4⟩:=aoS sh;rw[jT]at h
  cases hq:ew b (aL sh) (aJ sh) (ML b (bY sh) st) (sV b st (bY sh)) o (vH b (bY sh) st) with
  | none=>rw[hq]at h;exact absurd h (by simp)
  | some q =>
   obtain⟨l,o2,s3⟩:=q;rw[hq]at h;simp only at h
   cases hw:jT b (bY sh) (aL sh) (aJ sh) k o2 s3 with
   | none=>rw[hw]at h;exact absurd h (by simp)
   | some w =>
    obtain⟨t2,o3,s4⟩:=w;rw[hw]at h;simp only[Option.some.injEq,Prod.mk.injEq]at h;obtain⟨e1,e2,e3⟩:=h;subst e1 e2 e3;have hwn:nx b (vH b (bY sh) st):=by
     unfold vH;split
     ·exact NG (st:=sN b st (bY sh)) (s:=1) (by omega)
     ·exact NG l4
    have hs3:nx b s3:=by
     have:∀ {k:Nat}{o o2:Bool}{st st2:RS}{l:List aV},nx b st→ew b (aL sh) (aJ sh) (ML b (bY sh) st) k o st=some (l,o2,st2)→True:=fun _ _=>trivial
     have g:∀ {fine:Bool}{k:Nat}{o o2:Bool}{st st2:RS}{l:List aV},nx b st→ew b (aL sh) (aJ sh) fine k o st=some (l,o2,st2)→nx b st2:=by
      intro fine k
      induction k with
      | zero =>
       intro o o2 st st2 l hn h;rw[ew]at h;injection h with h
       injection h with e1 h
       injection h with e2 e3
       subst e3;exact hn
      | succ k ih =>
       intro o o2 st st2 l hn h;rw[ew]at h;split at h
       ·exact absurd h (by simp)
       ·split at h
        ·exact absurd h (by simp)
        ·rename_i q hq;obtain⟨a,b2,c⟩:=q;simp only[Option.some.injEq,Prod.mk.injEq]at h;obtain⟨e1,e2,e3⟩:=h;subst e3;exact ih aqJ hq
     exact g hwn hq
    obtain⟨i1,i2,i3,i4⟩:=auj hs3 hw he;subst i1;obtain⟨j1,j2,j3,j4⟩:=aut hwn hq (wC i4).2.2.1;have hwe:=(wC j4).2.2.1;unfold vH at hwe j4;refine⟨j1,by rw[List.length_cons,i2],fun x hx=>?_,?_⟩
    ·rcases List.mem_cons.1 hx with rfl | hx
     ·refine⟨?_,fun f0 hf0 f hf=>?_⟩
      ·have:=nc (b:=b) (st:=st) (s:=(bY sh:Int));rw[Int.toNat_natCast]at this;omega
      ·have a1:=j3 f hf;have a2:=j3 f0 (List.mem_of_mem_head? hf0);exact⟨a1.1,by rw[a1.2,a2.2]⟩
     ·exact i3 x hx
    ·rw[fV,List.flatMap_cons];refine dT.2 ⟨s3,?_,i4⟩
     cases l with
     | nil =>
      have h0:sV b st (bY sh)=0:=by rw[←j2];rfl
      rw[if_neg (by omega)]at hwe j4;have:=(EZ l4 hwe).2;rw[h0]at this;rw[aiG,(sv.1 j4).1];exact this
     | cons f r =>
      have hp:0<sV b st (bY sh):=by rw[←j2];simp
      rw[if_pos hp]at hwe j4;have r1:=(EZ l4 (RN (s:=1) hwe)).2;obtain⟨b1,r2⟩:=EZ (st:=sN b st (bY sh)) (s:=1) (by omega) hwe;rw[afe,j2];refine dT.2 ⟨_,r1,dT.2 ⟨_,?_,j4⟩⟩;have hfi:bL f.fine=sV b (sN b st (bY sh)) (1:Nat):=by
       rw[(j3 f (.head _)).2,ML,decide_eq_true hp,Bool.true_and];exact aqO b1
      rw[hfi];exact r2
theorem auk {b:List Nat}{sh:Bool}:∀ {t:List (List aV)}{st st2:RS},(∀ l∈t,lO sh l)→sm b st st2 (fV sh t)→jT b (bY sh) (aL sh) (aJ sh) t.length false st=some (t,false,st2)
 | [],st,st2,hl,h=>by rw[(sv.1 h).1];rfl
 | l::r,st,st2,hl,h=>by
  obtain⟨l1,l2,l3,l4⟩:=MS sh;obtain⟨_,_,_,x4⟩:=aoS sh;obtain⟨h1,h2⟩:=hl l (.head _);rw[fV,List.flatMap_cons]at h;obtain⟨m,k1,k2⟩:=dT.1 h;have ih:=auk (fun x hx=>hl x (.tail _ hx)) k2;rw[List.length_cons,jT]
  cases l with
  | nil =>
   rw[aiG]at k1;obtain⟨v1,n1⟩:=LH l4 (Nat.two_pow_pos _) k1;have hS:vH b (bY sh) st=m:=by rw[vH,if_neg (by omega),n1]
   rw[v1,hS];simp only[ew];rw[ih]
  | cons f q =>
   rw[afe]at k1;obtain⟨m1,j1,k1⟩:=dT.1 k1;obtain⟨m2,j2,j3⟩:=dT.1 k1;obtain⟨v1,n1⟩:=LH l4 (by omega) j1;have b1:bL f.fine<2 ^ 1:=by cases f.fine<;>decide
   obtain⟨v2,n2⟩:=LH (s:=1) (by omega) b1 j2;have hp:0<sV b st (bY sh):=by rw[v1];simp
   have hS:vH b (bY sh) st=m2:=by
    rw[vH,if_pos hp,n1];exact n2
   have hF:ML b (bY sh) st=f.fine:=by
    rw[ML,decide_eq_true hp,Bool.true_and,n1];have:sV b m1 1=bL f.fine:=v2;rw[this]
    cases f.fine<;>rfl
   rw[hS,hF,v1,auZ (fun x hx=>h2 f rfl x hx) j3];simp only;rw[ih]
theorem aw9 {b:List Nat}{i:al}{a n:Nat}{t:List (List aV)}(ha:a≤b.length):Ir b i (a:Int)=.ok t n↔NZ i t∧At b a n (fV i.short t):=by
 obtain⟨x0,x1,x2,_⟩:=aoS i.short;rw[Ir,Uj,x0,x1,x2];constructor
 ·intro h
  cases hq:jT b (bY i.short) (aL i.short) (aJ i.short) i.many false ⟨a,0⟩ with
  | none=>rw[hq]at h;exact absurd h (by simp)
  | some q =>
   obtain⟨t2,o,st⟩:=q;rw[hq]at h;simp only at h;by_cases he:st.e≠0
   ·rw[if_pos he]at h;exact absurd h (by simp)
   rw[if_neg he]at h
   cases o with
   | true=>simp at h
   | false =>
    simp only[Bool.false_eq_true,if_false]at h;injection h with e1 e2
    subst e1;obtain⟨_,g2,g3,a2,n2,e3,e4,g5⟩:=auj (fun _=>⟨a,rfl,ha⟩) hq (by simpa using he);injection e3 with e3 _
    have:a=a2:=by omega
    subst this;rw[e4]at e2;simp only[Int.toNat_natCast]at e2;subst e2;exact⟨⟨g2,g3⟩,g5⟩
 ·rintro ⟨⟨h1,h2⟩,h3⟩
  have:=auk h2 (show sm b ⟨a,0⟩ ⟨n,0⟩ _ from ⟨a,n,rfl,rfl,h3⟩);rw[h1]at this;rw[this];simp
theorem anE {lf:Int}:∀ {l:List am},fitsS lf l→∀ k∈ak l,0≤k
 | [],_,k,h=>by simp[ak]at h
 | s::r,hf,k,h=>by
  obtain⟨⟨_,h1⟩,h2⟩:=hf;have eb:ak (s::r)=List.replicate s.len.toNat s.book++ak r:=by rw[ak,List.flatMap_cons];rfl
  rw[eb,List.mem_append]at h;rcases h with h | h
  ·rw[List.eq_of_mem_replicate h];exact h1.1
  ·exact anE h2 k h
theorem aoM {b:List Nat}{a n v:Nat}(h:aO b (a:Int) 1=.ok v n):v≤1∧At b a n [v]:=by
 obtain⟨h1,h2⟩:=(bi (s:=1) (by omega)).1 h;rw[YB (by omega)]at h2;exact⟨by omega,h2⟩
theorem ajr:∀ (b:List Nat),mN (af b)=some (b.map Nat.toUInt8)
 | []=>rfl
 | n::r=>by
  have h:af (n::r)=[.int .u8 (.ofNat n)]::af r:=rfl;rw[h,mN,ajr r,List.map_cons]
@[simp] theorem aot {h:ac}{b:List Nat}:L9 h (.d (.lst (af b)))=some (.str (b.map Nat.toUInt8)):=by
 simp only[L9,aqt,ajr]
def c0:cg:=⟨0,⟨0,0,0,[1]⟩,[[]],[[]],[[]],List.replicate 256 0⟩
theorem axT:c0.Fit where
 gain:=by decide
 info:=⟨by decide,by decide,by decide,by decide,by intro n hn;simp[c0]at hn;subst hn;decide⟩
 sects:=⟨by simp[c0],by simp[c0]⟩
 secI:=by simp[c0]
 steps:=⟨by simp[c0],by simp[c0]⟩
 stepI:=by simp[c0]
 tns:=⟨by simp[c0],by simp[c0]⟩
 fltI:=by simp[c0]
 lines:=by simp[c0]
 lineI:=by
  intro n hn;have:=List.eq_of_mem_replicate hn;omega
theorem atQ:aM prog dh [.d (.int .i64 0),.agg c0.av]=some (.d (.int .i64 0)):=sn 400 (by kernel_rfl)
theorem ap2 (common:Bool):aM prog jd [.nl,.d (.int .i64 0),.agg c0.av,.d (.bool common)]=some (.tup [.own true 1 (af (El 0 c0 common)),.d (.int .i64 0)]):=by
 rcases amD [] (by simp) .nl (.inr ⟨rfl,rfl⟩) 0 c0 axT common with ⟨_,_,h⟩ | ⟨e,he,h,_,_⟩
 ·simpa using h
 ·rw[atQ]at h;simp at h;omega
theorem au6:aM prog Q8 [.d (.int .i64 0),.agg [.d (.int .u8 0),.d (.int .u8 0),.d (.int .i64 0),.d (.lst (ai [1]))]]=some (.tup [.agg [.d (.int .i64 0),.d (.int .u8 0),.d (.int .u8 0),.d (.int .i64 0),.own false 1 (ai [1]),.own false 1 (aK [[]]),.own false 1 (bu [[]]),.own false 1 (bt [[]]),.own false 1 (ai (List.replicate 256 0))],.d (.int .i64 0)]):=sn 400 (by kernel_rfl)
theorem at9:El 0 c0 true=List.replicate 11 0:=by decide +kernel
theorem as3:(El 0 c0 false).length=22:=by decide +kernel
theorem atS:aM prog ub []=some (.agg [.d (.int .u8 0),.d (.int .u8 0),.d (.int .i64 0),.own true 1 (ai [1])]):=sn 100 (by kernel_rfl)
theorem apP:aM prog iE []=some (.d (.bool true)):=by
 have pT:=ap2 true;have pF:=ap2 false;rw[at9]at pT;obtain⟨F,hF⟩:∃ F,F=El 0 c0 false:=⟨_,rfl⟩
 have hl:=as3;rw[←hF]at pF hl;have pz:=au6;have m11:BA [.int .u8 0] (.d (.int .i64 11)) (.d (.int .i64 11))=some (.own true 1 (af [0,0,0,0,0,0,0,0,0,0,0])):=by kernel_rfl
 obtain⟨Z,hZ⟩:∃ Z:List Int,Z=List.replicate 256 0:=⟨_,rfl⟩
 have a0:c0.av=[.d (.int .i64 0),.d (.int .u8 0),.d (.int .u8 0),.d (.int .i64 0),.d (.lst (ai [1])),.d (.lst (aK [[]])),.d (.lst (bu [[]])),.d (.lst (bt [[]])),.d (.lst (ai Z))]:=by rw[hZ];rfl
 rw[a0]at pT pF;rw[←hZ]at pz;rw[az GW ln.eq_1 rfl];simp (maxSteps:=300000) (disch:=omega) [↓if_pos,↓if_neg,atS,pz,pT,pF,hl,m11]
abbrev apart (p q:Nat×Nat):Prop:=p.2+aI p.1≤q.2∨q.2+aI q.1≤p.2
structure OsW (os:List Nat) (W:Nat):Prop where
 up:∀ j,j+1<os.length→nth os j<nth os (j+1)∧(nth os (j+1)-nth os j) % 4=0
 win:∀ w w',w<W→w'<W→w≠w'→∀ j,j+1<os.length→nth os (j+1)≤32
theorem auz {os:List Nat}{W:Nat}(h:OsW os W):∀ {k b:Nat},b+1+k<os.length→nth os (b+1)≤nth os (b+1+k)
 | 0,b,_=>Nat.le_refl _
 | k+1,b,hk=>by
  have:=auz h (k:=k) (b:=b) (by omega);have h2:=(h.up (b+1+k) (by omega)).1;rw[show b+1+(k+1)=b+1+k+1 by omega];omega
def asb (os:List Nat) (w b d y:Nat):Prop:=(w*32+nth os b≤y∧y+d≤w*32+nth os (b+1))∧b+1<os.length
theorem xQ {os:List Nat}{W:Nat}(h:OsW os W) {d b k w y:Nat}(hd:d=4∨d=2) (hb:b+1<os.length) (hy:y∈lF os d b k w):∃ w',w≤w'∧w'<w+k∧asb os w' b d y:=by
 obtain⟨w',x,h1,h2,h3,rfl⟩:=ab2 hy;have hu:=h.up b hb;have:=Gz (d:=d) (by omega) (by rcases hd with e | e<;>rw[e]<;>omega) h3;exact⟨w',h1,h2,⟨by omega,by omega⟩,hb⟩
theorem DG {os:List Nat}{W:Nat}(h:OsW os W) {w b d y w' b' d' y':Nat}(hw:w<W) (hw':w'<W) (h1:asb os w b d y) (h2:asb os w' b' d' y') (hne:w≠w'∨b<b'):y+d≤y'∨y'+d'≤y:=by
 obtain⟨⟨a1,a2⟩,a3⟩:=h1;obtain⟨⟨c1,c2⟩,c3⟩:=h2;by_cases e:w=w'
 ·have hb:b<b':=by rcases hne with h | h;exact absurd e h;exact h
  have:=auz h (k:=b'-(b+1)) (b:=b) (by omega);rw[show b+1+(b'-(b+1))=b' by omega]at this;left;subst e;omega
 ·have k1:=h.win w w' hw hw' e b a3;have k2:=h.win w w' hw hw' e b' c3;omega
theorem arE {d hi:Nat}:∀ {f lo:Nat},(∀ y∈nj d hi f lo,lo≤y)∧(nj d hi f lo).Pairwise fun x y=>x+d≤y
 | 0,lo=>⟨by simp[nj],by simp[nj]⟩
 | f+1,lo=>by
  obtain⟨h1,h2⟩:=arE (d:=d) (hi:=hi) (f:=f) (lo:=lo+d);rw[nj];by_cases h:lo<hi
  ·rw[if_pos h];refine⟨fun y hy=>?_,List.pairwise_cons.2 ⟨fun y hy=>h1 y hy,h2⟩⟩;rcases List.mem_cons.1 hy with rfl | hy
   ·exact Nat.le_refl _
   ·have:=h1 y hy;omega
  ·rw[if_neg h];exact⟨by simp,by simp⟩
abbrev apD (d:Nat) (x y:Nat):Prop:=x+d≤y∨y+d≤x
theorem aqq {os:List Nat}{W:Nat}(h:OsW os W) {d b:Nat}(hd:d=4∨d=2) (hb:b+1<os.length):∀ {k w:Nat},w+k≤W→(lF os d b k w).Pairwise (apD d)
 | 0,w,_=>by simp[lF]
 | k+1,w,hk=>by
  rw[lF,List.pairwise_append];refine⟨?_,aqq h hd hb (by omega),fun x hx y hy=>?_⟩
  ·rw[List.pairwise_map];exact(arE.2).imp fun {a c} hac=>.inl (by omega)
  ·obtain⟨w2,e1,e2,e3⟩:=xQ h hd hb hy;have hx':x∈lF os d b 1 w:=by
    rw[lF,List.mem_append];exact .inl hx
   obtain⟨w1,e4,e5,e6⟩:=xQ h hd hb hx';exact DG h (by omega) (by omega) e6 e3 (.inl (by omega))
theorem ap9 {os:List Nat}{W:Nat}(h:OsW os W) {d n first:Nat}(hd:d=4∨d=2) (hw:first+n≤W):∀ {k b:Nat},b+k<os.length→(tU os d n first k b).Pairwise (apD d)
 | 0,b,_=>by simp[tU]
 | k+1,b,hk=>by
  rw[tU,List.pairwise_append];refine⟨aqq h hd (by omega) hw,ap9 h hd hw (by omega),fun x hx y hy=>?_⟩;obtain⟨w1,e4,e5,e6⟩:=xQ h hd (by omega) hx;obtain⟨b',c1,c2,c3⟩:=NW hy;obtain⟨w2,e1,e2,e3⟩:=xQ h hd (by omega) c3;exact DG h (by omega) (by omega) e6 e3 (.inr (by omega))
theorem wL (id:Nat):aI id=4∨aI id=2:=by unfold aI;split<;>simp
theorem apU {os:List Nat}{W:Nat}(h:OsW os W) {n first:Nat}(hw:first+n≤W):∀ {r:List am}{b:Nat}{lf:Int},fitsS lf r→(b:Int)+lf<os.length→(vJ os n first r b).Pairwise apart
 | [],b,lf,_,_=>by simp[vJ]
 | s::r,b,lf,hf,hb=>by
  obtain⟨⟨⟨l1,l2⟩,b1,b2⟩,hf2⟩:=hf;rw[vJ,List.pairwise_append];refine⟨?_,apU h hw hf2 (by omega),fun x hx y hy=>?_⟩
  ·by_cases h0:s.book=0∨s.book=13
   ·rw[if_pos h0];simp
   ·rw[if_neg h0,List.pairwise_map];exact ap9 h (wL _) hw (by omega)
  ·by_cases h0:s.book=0∨s.book=13
   ·rw[if_pos h0]at hx;simp at hx
   ·rw[if_neg h0]at hx;obtain⟨x',hx',rfl⟩:=List.mem_map.1 hx;obtain⟨b',c1,c2,c3⟩:=NW hx';obtain⟨w1,e4,e5,e6⟩:=xQ h (wL _) (by omega) c3;obtain⟨j,f1,f2,f3⟩:=Nv hf2 hy;have hj:(j:Int)<lf-s.len:=by
     have h1:=(List.getElem?_eq_some_iff.1 f1).1;have:∀ {l:List am}{m:Int},fitsS m l→((ak l).length:Int)=m:=by
      intro l
      induction l with
      | nil=>intro m hm;rw[show m=0 from hm];simp[ak]
      | cons q l ih =>
       intro m hm;have eb:ak (q::l)=List.replicate q.len.toNat q.book++ak l:=by rw[ak,List.flatMap_cons];rfl
       have:=ih hm.2;have hq:=hm.1.1.1;rw[eb,List.length_append,List.length_replicate];omega
     have:=this hf2;omega
    obtain⟨w2,e1,e2,e3⟩:=xQ h (wL _) (by omega) f3;exact DG h (by omega) (by omega) e6 e3 (.inr (by omega))
theorem xR:∀ {l:List am}{m:Int},fitsS m l→((ak l).length:Int)=m
 | [],m,h=>by rw[show m=0 from h];simp[ak]
 | q::l,m,hm=>by
  have eb:ak (q::l)=List.replicate q.len.toNat q.book++ak l:=by rw[ak,List.flatMap_cons];rfl
  have:=xR hm.2;have hq:=hm.1.1.1;rw[eb,List.length_append,List.length_replicate];omega
theorem aqe {os:List Nat}{W:Nat}(h:OsW os W) {m:Int}(hm:m<os.length):∀ {r:List (List am)}{q:List Int}{first:Nat},cB m r→(∀ n∈q,1≤n)→(first:Int)+q.sum≤W→(lm os r q first).Pairwise apart
 | [],q,first,_,_,_=>by simp[lm]
 | l::r,[],first,_,_,_=>by simp[lm]
 | l::r,n::q,first,hf,hq,hW=>by
  have hn:=hq n (.head _);have hq2:∀ n∈q,1≤n:=fun x hx=>hq x (.tail _ hx)
  have hqs:0≤q.sum:=by have:=j6 hq2;omega
  have hl:=hf l (.head _);rw[List.sum_cons]at hW;rw[lm,List.pairwise_append];refine⟨apU h (by omega) hl (by omega),aqe h hm (fun x hx=>hf x (.tail _ hx)) hq2 (by omega),fun x hx y hy=>?_⟩;obtain⟨j,f1,f2,f3⟩:=Nv hl hx;have hj:=(List.getElem?_eq_some_iff.1 f1).1;have hjl:=xR hl;obtain⟨w1,e4,e5,e6⟩:=xQ h (wL _) (by omega) f3;obtain⟨w,g,j2,l2,g1,g2,g3,g4,g5,g6,z,g7,g8⟩:=Ga (fun x hx=>hf x (.tail _ hx)) hq2 hy;have hj2:=(List.getElem?_eq_some_iff.1 g5).1;have hjl2:=xR (hf l2 (.tail _ (List.mem_of_getElem? g1)));have hy2:y.2∈lF os (aI y.1) j2 1 w:=by rw[g8];exact arm (Nat.le_refl _) (by omega) g7
  obtain⟨w2,e1,e2,e3⟩:=xQ h (wL _) (by omega) hy2;exact DG h (by omega) (by omega) e6 e3 (.inl (by omega))
theorem ap8 {r:Nat}(hr:r≤11) (i:al):OsW (offs r i.short) i.many:=by
 obtain⟨p1,p2,p3⟩:=mQ (r,i.short) (dQ (by omega));simp only at p1 p2 p3;obtain⟨w1,w2⟩:=YL i;refine⟨fun j hj=>?_,fun w w' h1 h2 h3 j hj=>?_⟩
 ·have:=List.all_eq_true.1 p1 j (List.mem_range.2 (by omega));simpa using this
 ·have:=List.all_eq_true.1 p3 _ (fk hj);simp only[decide_eq_true_eq]at this;omega
theorem as0 {r:Nat}(hr:r≤11) {j:al}{S:List (List am)}(hm:j.may r) (hS:fq j S):(M5 r j S).Pairwise apart:=by
 obtain⟨g1,g2⟩:=b6 (im hr hm);have hmx:=hm.2.2.2.1;have hmy:kL r (decide (j.seq=2))=(offs r j.short).length-1:=rfl;obtain⟨o1,o2,o3,o4⟩:=DV (r,j.short) (dQ (by omega));simp only at o4;exact aqe (ap8 hr j) (m:=j.max) (by omega) hS.2 (fun n hn=>(g1 n hn).1) (by omega)
theorem UX {b:List Nat}:∀ {pl:List (Nat×Nat)}{n m:Nat}{Z Z2:List Int},n≤b.length→Z.length=256→(∀ p∈pl,(1≤p.1∧p.1≤11)∧p.2+aI p.1≤256)→pl.Pairwise apart→jE b pl n Z=.ok Z2 m→
  Z2.length=256∧At b n m (pl.flatMap fun p=>xk p.1 (cut Z2 p))∧(∀ p∈pl,K5 p.1 (cut Z2 p))∧∀ i,(∀ p∈pl,¬ (p.2≤i∧i<p.2+aI p.1))→Z2[i]?=Z[i]?
 | [],n,m,Z,Z2,hn,hz,hp,hw,h=>by
  rw[jE]at h;injection h with e1 e2
  subst e1 e2;exact⟨hz,eC.2 ⟨rfl,hn⟩,by simp,fun i _=>rfl⟩
 | p::r,n,m,Z,Z2,hn,hz,hp,hw,h=>by
  rw[jE]at h;obtain⟨l,k,h1,h2⟩:=ay.1 h;obtain⟨p1,p2⟩:=hp p (.head _);obtain⟨w1,w2⟩:=List.pairwise_cons.1 hw;obtain⟨g1,g2⟩:=(ast p1).1 h1;have hll:=g1.1;obtain⟨i1,i2,i3,i4⟩:=UX (cJ g2).2.1 (by rw[ak2 (by omega)];exact hz) (fun q hq=>hp q (.tail _ hq)) w2 h2;have hcut:cut Z2 p=l:=by
   apply List.ext_getElem?;intro i;by_cases hi:i<aI p.1
   ·rw[amu hi,i4 (p.2+i) (fun q hq hh=>by
     have:=w1 q hq;have:=hp q (.tail _ hq);omega),anJ (by omega),if_pos (by omega)]
    congr 1
    omega
   ·have:=avu (Z:=Z2) (p:=p) (by omega);rw[List.getElem?_eq_none (by omega),List.getElem?_eq_none (by omega)]
  refine⟨i1,?_,fun q hq=>?_,fun i hi=>?_⟩
  ·rw[List.flatMap_cons,hcut];exact aQ.2 ⟨k,g2,i2⟩
  ·rcases List.mem_cons.1 hq with rfl | hq
   ·rw[hcut];exact g1
   ·exact i3 q hq
  ·have:=hi p (.head _);rw[i4 i (fun q hq=>hi q (.tail _ hq)),anJ (by omega),if_neg (by omega)]
theorem aeW {tl:List Nat}{bks:List Int}:∀ {ls:List Int}{i:Nat},(∀ j v,ls[j]?=some v→Gk tl bks (i+j) v)→nW tl bks i ls
 | [],i,_=>trivial
 | u::r,i,h=>⟨h 0 u rfl,aeW fun j v hv=>by
   have:=h (j+1) v (by simpa using hv)
   rwa [show i+(j+1)=i+1+j by omega]at this⟩
theorem aeO {r:Nat}{c:cg}:∀ {k w:Nat},(∀ w',w≤w'→w'<w+k→nW ((offs r c.info.short).drop 1) (ak (tF c w')) 0 (uk c w'))→BX r c k w
 | 0,w,_=>trivial
 | k+1,w,h=>⟨h w (Nat.le_refl _) (by omega),aeO fun w' h1 h2=>h w' (by omega) (by omega)⟩
theorem arY {b:List Nat}{r:Nat}{c:cg}(hr:r≤11) (hm:c.info.may r) (hS:fq c.info c.sects) {n m:Nat}(hn:n≤b.length) (h:jE b (M5 r c.info c.sects) n Z0=.ok c.lines m):NU r c∧At b n m (jA r c)∧∀ v∈c.lines,i64 v:=by
 have hm11:=im hr hm;obtain⟨g1,g2⟩:=b6 hm11;obtain⟨i1,i2,i3,i4⟩:=UX hn (by rw[List.length_replicate]) (fun p hp=>SF hm hS hr hp) (as0 hr hm hS) h;obtain⟨hw1,hw⟩:=YL c.info;have key:∀ i v,c.lines[i]?=some v→v=0∨∃ p∈M5 r c.info c.sects,(p.2≤i∧i<p.2+aI p.1)∧v.natAbs≤di p.1:=by
  intro i v hv;by_cases hp:∃ p∈M5 r c.info c.sects,p.2≤i∧i<p.2+aI p.1
  ·obtain⟨p,h1,h2,h3⟩:=hp;refine .inr ⟨p,h1,⟨h2,h3⟩,(i3 p h1).2 v ?_⟩;refine List.mem_of_getElem? (i:=i-p.2) ?_;rw[amu (by omega),←hv]
   congr 1
   omega
  ·left;have:=i4 i (fun p hp2 hh=>hp ⟨p,hp2,hh⟩);rw[hv]at this;have hi:=(List.getElem?_eq_some_iff.1 hv).1;rw[List.getElem?_replicate,if_pos (by omega)]at this;injection this
 refine⟨⟨i1,aeO fun w _ hwm=>aeW fun x v hv=>?_⟩,i2,fun v hv=>?_⟩
 ·rw[Nat.zero_add]at hwm⊢;have hx:x<c.info.wide:=by
   have:=(List.getElem?_eq_some_iff.1 hv).1;rw[uk,List.length_take]at this;omega
  rw[uk,List.getElem?_take,if_pos hx,List.getElem?_drop]at hv;rcases key _ _ hv with h0 | ⟨p,hp,⟨q1,q2⟩,q3⟩
  ·exact .inl h0
  ·right;obtain⟨w',g,j,l,e1,e2,e3,e4,e5,e6,y,e7,e8⟩:=Ga hS.2 (fun n hn=>(g1 n hn).1) hp;obtain⟨p1,p2,p3⟩:=mQ (r,c.info.short) (dQ (by omega));simp only at p1 p2 p3;have hl:=hS.2 l (List.mem_of_getElem? e1);have hbs:=xR hl;have hjl:=(List.getElem?_eq_some_iff.1 e5).1;have hmx:=hm.2.2.2.1;have hmy:kL r (decide (c.info.seq=2))=(offs r c.info.short).length-1:=rfl;have hj1:j+1<(offs r c.info.short).length:=by omega
   have hU:=ap8 hr c.info;have hu:=hU.up j hj1;have hxf:=Gz (d:=aI p.1) (by rcases wL p.1 with h | h<;>omega) (by rcases wL p.1 with h | h<;>rw[h]<;>omega) e7;have ho:nth (offs r c.info.short) (j+1)≤c.info.wide:=by
    have:=List.all_eq_true.1 p3 _ (fk hj1);simp only[decide_eq_true_eq]at this
    rwa [hw1]at this
   have hww:w'=w∧nth (offs r c.info.short) j≤x∧x<nth (offs r c.info.short) (j+1):=by
    rcases hw with ⟨a1,a2⟩ | ⟨a1,a2⟩<;>rw[a1]at q1 q2 ho hx<;>omega
   obtain⟨rfl,c1,c2⟩:=hww;have hba:=ajq (i:=x) (fun j hj=>(hU.up j hj).1) hj1 c1 c2;have hsa:tF c w'=l:=by
    rw[tF,List.getD_eq_getElem?_getD,show ja c.info.groups (w':Int)=g by rw[←e4];congr 1,e1];rfl
   exact⟨p.1,by rw[hba,hsa,e5],by omega,by simpa using q3⟩
 ·obtain⟨i,hi,e⟩:=List.mem_iff_getElem.1 hv;rcases key i v (by rw[List.getElem?_eq_getElem hi,e]) with h0 | ⟨p,hp,_,q3⟩
  ·omega
  ·have:=ajB (SF hm hS hr hp).1;omega
theorem ajA:∀ {r t:List Int}{w z:Int},bH r t w z≠none→r.length=t.length∧∀ n∈t,-1≤n∧n≤511
 | [],[],_,_,_=>⟨rfl,by simp⟩
 | [],_::_,_,_,h=>absurd rfl h
 | _::_,[],_,_,h=>absurd rfl h
 | k::r,v::t,w,z,h=>by
  obtain⟨c1,c2,c3⟩:=j9 h;rw[c3]at h;obtain⟨i1,i2⟩:=ajA h;refine⟨by rw[List.length_cons,List.length_cons,i1],fun n hn=>?_⟩;rcases List.mem_cons.1 hn with rfl | hn
  ·by_cases h0:k=0
   ·have:=c1 h0;omega
   ·exact KU (c2 h0)
  ·exact i2 n hn
theorem aeD:∀ {g:List (List am)}{t:List (List Int)}{w z:Int},iC g t w z≠none→∀ l∈t,∀ n∈l,-1≤n∧n≤511
 | [],[],_,_,_=>by simp
 | [],_::_,_,_,h=>absurd rfl h
 | _::_,[],_,_,h=>absurd rfl h
 | l::r,t::s,w,z,h=>by
  rw[iC]at h
  cases e:bH (ak l) t w z with
  | none=>rw[e]at h;exact absurd rfl h
  | some p =>
   rw[e]at h;intro q hq;rcases List.mem_cons.1 hq with rfl | hq
   ·exact(ajA (by rw[e];simp)).2
   ·exact aeD h q hq
abbrev wX (v:Hd×List Int):cg:=⟨v.1.gain,v.1.inf,v.1.S,v.1.T,v.1.F,v.2⟩
theorem ayL {o p:Nat}(ho:o≤1) (hp:p≤1) (h:WI (o:Int) p=0):o=0∧p=0:=by
 unfold WI at h;split at h<;>omega
theorem asn {b:List Nat}(hb:b.length≤1000000000) {r:Nat}{i:al}{q:Bool}(hr:r≤11) (hi:i.Fit) {a:Int}{v:Hd×List Int}{n:Nat}(h:ak0 b a r q i=.ok v n) :
  ∃ A:Nat,a=A∧(wX v).Fit∧wg r (wX v)∧At b A n (El r (wX v) q)∧(q=true→v.1.inf=i):=by
 unfold ak0 at h;obtain⟨u0,n0,e0,g0⟩:=ay.1 h;clear h;have ha:=am9 e0;obtain⟨A,rfl⟩:=Int.eq_ofNat_of_zero_le ha;have f0:=(bi (s:=0) (by omega)).1 e0;have f0':n0=A∧A≤b.length:=eC.1 f0.2;obtain⟨f0a,f0b⟩:=f0'
 cases f0a
 by_cases hm:q=true∧¬ i.may r
 ·rw[if_pos hm]at g0;exact absurd g0 (by simp)
 rw[if_neg hm]at g0;have hq:q=true→i.may r:=fun h=>Classical.byContradiction fun h2=>hm ⟨h,h2⟩
 obtain⟨H,nH,eH,g1⟩:=ay.1 g0;clear g0;obtain⟨Z,nZ,eZ,g2⟩:=ay.1 g1;clear g1;by_cases hend:H.od=0∧(H.is=1→nJ H.F=true)
 rotate_left
 ·rw[if_neg hend]at g2;exact absurd g2 (by simp)
 rw[if_pos hend]at g2;injection g2 with h1 h2
 subst h1 h2;have hR:ct (r:Int):=by omega
 have pH:=(I7 b hb r hR q i hi _ (.inl rfl) (fun h=>by rw[Int.toNat_natCast];exact hq h) n0 (by omega) 0 0).2;rw[Int.toNat_natCast]at pH;have p:=pH H nH eH;unfold Av at eH;obtain⟨g,n1,e1,y1⟩:=ay.1 eH;clear eH;obtain⟨j,n2,e2,y2⟩:=ay.1 y1;clear y1;obtain⟨S,n3,e3,y3⟩:=ay.1 y2;clear y2;obtain⟨T,n4,e4,y4⟩:=ay.1 y3;clear y3;obtain⟨o,n5,e5,y5⟩:=ay.1 y4;clear y4;obtain⟨s,n6,e6,y6⟩:=ay.1 y5;clear y5;obtain⟨F,n7,e7,y7⟩:=ay.1 y6;clear y6;obtain⟨o2,n8,e8,y8⟩:=ay.1 y7;clear y7;injection y8 with k1 k2
 subst k1 k2;simp only at hend eZ p;have f1:=(bi (s:=8) (by omega)).1 e1;have hjm:j.may r:=p.may;have hm11:=im hr hjm;have f2:At b n1 n2 (if q then [] else nA j)∧(q=true→j=i):=by
  cases q with
  | true =>
   rw[if_pos rfl]at e2⊢;injection e2 with k1 k2
   subst k1 k2;exact⟨eC.2 ⟨rfl,(cJ f1.2).2.1⟩,fun _=>rfl⟩
  | false =>
   rw[if_neg (by simp)]at e2⊢;exact⟨((aoX hr).1 e2).2,fun h=>absurd h (by simp)⟩
 have f3:=(ao7 hm11 (cJ f2.1).2.1).1 e3;have f4:=(aqf (cJ f3.2).2.1 (fun l hl=>anE (f3.1.2 l hl)) (by omega)).1 e4;have f5:=aoM e5;have f6:=aoM e6;have f8:=aoM e8;have hoo:=ayL f5.1 f8.1 hend.1;have hF:NZ j F∧At b n4 n8 (if nJ F then 0::1::(fV j.short F++[0]) else [0,0,0]):=by
  rw[hoo.1]at f5;rw[hoo.2]at f8;by_cases hs:s=1
  ·rw[if_pos hs]at e7;have f7:=(aw9 (cJ f6.2).2.1).1 e7;rw[hend.2 hs];rw[hs]at f6;exact⟨f7.1,aQ (X:=[0]) |>.2 ⟨n5,f5.2,aQ (X:=[1]) |>.2 ⟨n6,f6.2,aQ.2 ⟨n7,f7.2,f8.2⟩⟩⟩⟩
  ·rw[if_neg hs]at e7;have hs0:s=0:=by omega
   injection e7 with k1 k2
   subst k1 k2;have han:nJ (List.replicate j.many ([]:List aV))=false:=by
    rw[nJ,List.any_eq_false];intro l hl;rw[List.eq_of_mem_replicate hl];simp
   rw[han];rw[hs0]at f6;exact⟨⟨by rw[List.length_replicate],fun l hl=>by rw[List.eq_of_mem_replicate hl];exact⟨Nat.zero_le _,by simp⟩⟩,aQ (X:=[0]) |>.2 ⟨n5,f5.2,aQ (X:=[0]) |>.2 ⟨n6,f6.2,f8.2⟩⟩⟩
 have hg:=p.gain;simp only at hg;obtain⟨l1,l2,l3⟩:=arY (c:=⟨g,j,S,T,F,Z⟩) hr hjm f3.1 (cJ hF.2).2.1 eZ;have hmx:=jh hm11;have hmm:=qb j;obtain⟨q1,q2⟩:=b6 hm11;have hgl:j.groups.length≤8:=by have:=j6 (fun n hn=>(q1 n hn).1);omega
 have hSl:S.length≤8:=by have:=f3.1.1;omega
 have hTl:T.length=S.length:=by have:=congrArg List.length p.T;simpa using this
 have hft:=p.fit;simp only at hft;refine⟨n0,rfl,?_,?_,?_,f2.2⟩
 ·refine⟨by simp only[];omega,hft,⟨by simp only[];omega,fun l hl=>by have:=p.Sl l hl;omega⟩,fun l hl x hx=>?_,⟨by simp only[];omega,fun l hl=>?_⟩,fun l hl x hx=>by have:=aeD f4.1 l hl x hx;omega,⟨by have:=hF.1.1;simp only[];omega,fun l hl=>by have:=p.F.2 l hl;exact⟨by omega,fun f hf=>by have:=this.2 f hf;omega⟩⟩,fun l hl f hf=>?_,by have:=l1.1;simp only[]at this⊢;omega,l3⟩
  ·have:=lN (f3.1.2 l hl) (by omega) x hx;have a1:=this.1;have a2:=this.2;omega
  ·have h1:l.length∈T.map List.length:=List.mem_map.2 ⟨l,hl,rfl⟩;rw[show T.map List.length=S.map (fun l=>(ak l).length) from p.T]at h1;obtain⟨x,hx,e⟩:=List.mem_map.1 h1;have:=xR (f3.1.2 x hx);omega
  ·have hw:=hF.1.2 l hl
   cases l with
   | nil=>exact absurd hf (by simp)
   | cons f0 lr =>
    have:=(hw.2 f0 rfl f hf).1;obtain⟨⟨b1,b2⟩,⟨b3,b4⟩,_,_,b5⟩:=this;have lf:qC j.short≤63:=by cases j.short<;>decide
    have of:nU j.short≤12:=by cases j.short<;>decide
    refine⟨by omega,fun x hx=>?_⟩;have:=b5 x hx;have hh:bD f.fine≤8∧4≤bD f.fine:=by cases f.fine<;>decide
    omega
 ·exact⟨by simp only[];omega,hjm,f3.1,f4.1,hF.1,l1⟩
 ·exact aQ.2 ⟨n1,by simpa using f1.2,aQ.2 ⟨n2,f2.1,aQ.2 ⟨n3,f3.2,aQ.2 ⟨n4,f4.2,aQ.2 ⟨n8,hF.2,l2⟩⟩⟩⟩⟩
theorem aoV (i:al) (hi:i.groups.length≤1000000):aM prog xg [.agg i.cells,.agg i.cells]=some (.d (.bool true)):=by
 have he:=Ks i.groups i.groups hi hi;rw[if_pos rfl]at he;simp only[al.cells];rw[az amp Eb.eq_1 rfl];simp (maxSteps:=300000) (disch:=omega) [↓if_pos,↓if_neg,he]
theorem aqW:aM prog lR [.agg nB,.agg nB]=some (.d (.bool true)):=sn 400 (by kernel_rfl)
theorem ap3 {h:ac}{l X:List Nat}{a n:Nat}(hat:At l a n X) (hl:l.length≤1000000000):pw h 1 (.d (.lst (af l))) (some (.d (.int .i64 (a:Int)))) (some (.d (.int .i64 (n:Int)))) none=some (.d (.lst (af X))):=by
 have hle:=cJ hat;obtain⟨_,hn,t,ht⟩:=hat;have e1:cD (.d (.int .i64 (n:Int))) (af l).length=some n:=by rw[DP (by omega) (by rw[eg];omega)];simp
 have e2:cD (.d (.int .i64 (a:Int))) n=some a:=by rw[DP (by omega) (by omega)];simp
 have e3:CJ 1 (af l)=true:=by cases l<;>rfl
 simp only[pw,okSl,r5,lenOf,uD,qh,e1,e2,e3,sub];have e4:((af l).drop a).take (n-a)=af X:=by
  unfold af;rw[←List.map_drop,←List.map_take,ht,hn,Nat.add_sub_cancel_left,List.take_left' rfl]
 rw[e4]
theorem asS (b:List Nat) (at_ rt:Int) (hat:i64 at_) (common:Bool) (i:al) (hi:i.groups.length≤1000→i.Fit):aM prog jU [.d (.lst (af b)),.d (.int .i64 at_),.d (.int .i64 rt),.d (.bool common),.agg i.cells]=some (.d (.bool true)):=by
 have ha:=apP;have hz:=aqW;have hbl:(af b).length=b.length:=eg;have hgl:(ai i.groups).length=i.groups.length:=eq;by_cases hl:b.length≤10000
 rotate_left
 ·simp only[al.cells];rw[az gu c8.eq_1 rfl];simp (maxSteps:=300000) (disch:=omega) [↓if_pos,↓if_neg,ha]
 by_cases hg:i.groups.length≤1000
 rotate_left
 ·simp only[al.cells];rw[az gu c8.eq_1 rfl];simp (maxSteps:=300000) (disch:=omega) [↓if_pos,↓if_neg,ha]
 have hf:=hi hg;have bad:∀ e:Int,e≠0→aM prog gU [.d (.lst (af b)),.d (.int .i64 at_),.d (.int .i64 rt),.d (.bool common),.agg i.cells]=some (.tup [.agg nB,.d (.int .i64 0),.d (.int .i64 e)])→aM prog jU [.d (.lst (af b)),.d (.int .i64 at_),.d (.int .i64 rt),.d (.bool common),.agg i.cells]=some (.d (.bool true)):=by
  intro e he hG;simp only[al.cells]at hG⊢;rw[az gu c8.eq_1 rfl];simp (maxSteps:=300000) (disch:=omega) [↓if_pos,↓if_neg,ha,hz,hG]
 by_cases hr:ct rt
 rotate_left
 ·exact bad 2 (by omega) (ar6 b at_ rt hr common i)
 obtain⟨R,rfl⟩:=Int.eq_ofNat_of_zero_le hr.1;have hR:R≤11:=by omega
 have hG:=awH b (by omega) at_ hat R hR common i hf _ (.inl rfl)
 cases hx:ak0 b at_ R common i with
 | er e =>
  rw[hx]at hG;exact bad (e+1) (by omega) hG
 | ok v n =>
  rw[hx]at hG;obtain⟨A,rfl,hc,hM,hA,hsame⟩:=asn (by omega) hR hf hx;have hP:aM prog jd [.nl,.d (.int .i64 (R:Int)),.agg (wX v).av,.d (.bool common)]=some (.tup [.own true 1 (af (El R (wX v) common)),.d (.int .i64 0)])∧aM prog dh [.d (.int .i64 (R:Int)),.agg (wX v).av]=some (.d (.int .i64 0)):=by
   constructor
   ·rcases amD [] (by simp) .nl (.inr ⟨rfl,rfl⟩) R (wX v) hc common with ⟨_,_,h⟩ | ⟨e,he,_,h,_⟩
    ·simpa using h
    ·exact absurd hM (by have:=h hr;rwa [Int.toNat_natCast]at this)
   ·rcases Xo R (wX v) hc with ⟨_,_,h⟩ | ⟨_,h,_⟩ | ⟨h,_⟩
    ·exact h
    ·exact absurd hM (by rwa [Int.toNat_natCast]at h)
    ·exact absurd hr h
  have hS:=fun h=>ap3 (h:=h) hA (by omega)
  have hI:common=true→aM prog xg [.agg v.1.inf.cells,.agg i.cells]=some (.d (.bool true)):=fun h=>by
   rw[hsame h];exact aoV i (by omega)
  obtain⟨hP,hC⟩:=hP;obtain⟨H,Z⟩:=v;have hin:=cJ hA;generalize El R (wX (H,Z)) common=B at *;have t1:=aot (h:=[]) (b:=B);simp only[ayB,Nj,wX,cg.av,al.cells]at hG hP hC hI⊢;rw[az gu c8.eq_1 rfl]
  cases common with
  | true =>
   have hI:=hI rfl;simp (config := { maxSteps:=1000000 }) (disch:=omega) [↓if_pos,↓if_neg,ha,hG,hP,hC,hI,hS]
  | false=>simp (config := { maxSteps:=1000000 }) (disch:=omega) [↓if_pos,↓if_neg,ha,hG,hP,hC,hS]
theorem UP {t:Ty}:∀ {ds:List D},OkDs [t] ds→∃ d,ds=[d]∧lK t d
 | [],h=>by simp[OkDs]at h
 | [d],h=>⟨d,rfl,by simpa [OkDs] using h⟩
 | _::_::_,h=>by simp[OkDs]at h
theorem asj {t:Ty}{ts:List Ty}:∀ {ds:List D},OkDs (t::ts) ds→∃ d r,ds=d::r∧lK t d∧OkDs ts r
 | [],h=>by simp[OkDs]at h
 | d::r,h=>⟨d,r,rfl,by simpa only[OkDs] using h⟩
theorem ara {k:IntKind}:∀ {d:D},lK (.int k) d→∃ n,d=.int k n∧(Lit.int k n).wf=true
 | .int j n,h=>by
  simp only[lK]at h;obtain⟨rfl,h⟩:=h;exact⟨n,rfl,h⟩
 | .bool _,h=>by simp[lK]at h
 | .str _,h=>by simp[lK]at h
 | .lst _,h=>by simp[lK]at h
theorem YU {d:D}(h:lK (.int .i64) d):∃ n,d=.int .i64 n∧i64 n:=by
 obtain⟨n,e,h⟩:=ara h;refine⟨n,e,?_⟩;simp[Lit.wf,IntKind.min,IntKind.max,IntKind.signed,IntKind.bits]at h;omega
theorem aoa {d:D}(h:lK (.int .u8) d):∃ n:Nat,d=.int .u8 n∧n≤255:=by
 obtain⟨n,e,h⟩:=ara h;simp[Lit.wf,IntKind.min,IntKind.max,IntKind.signed,IntKind.bits]at h;refine⟨n.toNat,?_,by omega⟩;rw[e,Int.toNat_of_nonneg h.1]
theorem avr:∀ {d:D},lK .bool d→∃ b,d=.bool b
 | .bool b,_=>⟨b,rfl⟩
 | .int _ _,h=>by simp[lK]at h
 | .str _,h=>by simp[lK]at h
 | .lst _,h=>by simp[lK]at h
theorem aq3 {es:List Ty}:∀ {d:D},lK (.lst es) d→∃ xs,d=.lst xs∧∀ x∈xs,OkDs es x
 | .lst xs,h=>⟨xs,rfl,by simpa only[lK] using h⟩
 | .int _ _,h=>by simp[lK]at h
 | .str _,h=>by simp[lK]at h
 | .bool _,h=>by simp[lK]at h
theorem adG {α:Type}{es:List Ty}{f:α→List D}{Q:α→Prop}(h1:∀ x,OkDs es x→∃ a,x=f a∧Q a):∀ {xs:List (List D)},(∀ x∈xs,OkDs es x)→∃ l:List α,xs=l.map f∧∀ a∈l,Q a
 | [],_=>⟨[],rfl,by simp⟩
 | x::r,h=>by
  obtain⟨a,rfl,ha⟩:=h1 x (h x (.head _));obtain⟨l,rfl,hl⟩:=adG h1 (xs:=r) fun y hy=>h y (.tail _ hy)
  exact⟨a::l,rfl,fun b hb=>(List.mem_cons.1 hb).elim (fun e=>e▸ha) (hl b)⟩
theorem awP {d:D}(h:lK (.lst [.int .i64]) d):∃ ns,d=.lst (ai ns)∧∀ n∈ns,i64 n:=by
 obtain⟨xs,rfl,h⟩:=aq3 h;obtain⟨l,rfl,hl⟩:=adG (f:=fun n=>[.int .i64 n]) (Q:=i64) (fun x hx=>by
  obtain⟨d,rfl,hd⟩:=UP hx;obtain⟨n,rfl,hn⟩:=YU hd;exact⟨n,rfl,hn⟩) h
 exact⟨l,rfl,hl⟩
def aBd:List Ty:=[.int .i64,.int .i64]
def aAG:List Ty:=[.int .i64,.int .i64,.bool,.bool,.lst [.int .i64]]
def aGQ:List Ty:=[.int .i64,.int .u8,.int .u8,.int .i64,.lst [.int .i64],.lst [.lst aBd],.lst [.lst [.int .i64]],.lst [.lst aAG],.lst [.int .i64]]
structure cg.Rng (c:cg):Prop where
 gain:i64 c.gain
 seq:c.info.seq≤255
 shape:c.info.shape≤255
 max:i64 c.info.max
 groups:∀ n∈c.info.groups,i64 n
 secI:∀ l∈c.sects,∀ s∈l,i64 s.book∧i64 s.len
 stepI:∀ l∈c.steps,∀ n∈l,i64 n
 fltI:∀ l∈c.tns,∀ f∈l,(i64 f.len∧i64 f.order)∧∀ x∈f.coefs,i64 x
 lineI:∀ n∈c.lines,i64 n
theorem cg.Rng.fit {c:cg}(h:c.Rng) (s:aAZ c):c.Fit where
 gain:=h.gain
 info:=⟨h.seq,h.shape,h.max,by have:=s.groups;omega,h.groups⟩
 sects:=⟨by have:=s.sects.1;omega,fun l hl=>by have:=s.sects.2 l hl;omega⟩
 secI:=h.secI
 steps:=⟨by have:=s.steps.1;omega,fun l hl=>by have:=s.steps.2 l hl;omega⟩
 stepI:=h.stepI
 tns:=⟨by have:=s.tns.1;omega,fun l hl=>⟨by have:=(s.tns.2 l hl).1;omega,fun f hf=>by have:=(s.tns.2 l hl).2 f hf;omega⟩⟩
 fltI:=h.fltI
 lines:=by have:=s.lines;omega
 lineI:=h.lineI
def ah3:List Ty:=[.int .u8,.int .u8,.int .i64,.lst [.int .i64]]
theorem azv {d:D}(h:lK (.lst [.int .u8]) d):∃ l,d=.lst (af l):=by
 obtain⟨xs,rfl,h⟩:=aq3 h;obtain⟨l,rfl,hl⟩:=adG (f:=fun n:Nat=>[D.int .u8 (n:Int)]) (Q:=fun n=>n≤255) (fun x hx=>by
  obtain⟨d,rfl,hd⟩:=UP hx;obtain⟨n,rfl,hn⟩:=aoa hd;exact⟨n,rfl,hn⟩) h
 exact⟨l,rfl⟩
theorem ay4 {x:List D}(h:OkDs ah3 x):∃ i:al,x.map .d=i.cells∧(i.seq≤255∧i.shape≤255)∧i64 i.max∧∀ n∈i.groups,i64 n:=by
 obtain⟨a1,r,rfl,h1,h⟩:=asj h;obtain⟨a2,r,rfl,h2,h⟩:=asj h;obtain⟨a3,r,rfl,h3,h⟩:=asj h;obtain⟨a4,rfl,h4⟩:=UP h;obtain⟨n1,rfl,g1⟩:=aoa h1;obtain⟨n2,rfl,g2⟩:=aoa h2;obtain⟨n3,rfl,g3⟩:=YU h3;obtain⟨l,rfl,g4⟩:=awP h4;exact⟨⟨n1,n2,n3,l⟩,rfl,⟨g1,g2⟩,g3,g4⟩
theorem afB {H:Type}:∀ {ds:List (DataW H)},kT [(false,[.lst [.int .u8]]),(false,[.int .i64]),(false,[.int .i64]),(false,[.bool]),(true,ah3)] ds→(∃ d1 d2 d3 d4 d5,ds=[d1,d2,d3,d4,d5])∧∃ (l:List Nat) (a rt:Int) (q:Bool) (i:al),i64 a∧(i.groups.length≤1000→i.Fit)∧Cu [(false,[.lst [.int .u8]]),(false,[Ty.int .i64]),(false,[.int .i64]),(false,[.bool]),(true,ah3)] ds=[.d (.lst (af l)),.d (.int .i64 a),.d (.int .i64 rt),.d (.bool q),.agg i.cells]
 | [d1,d2,d3,d4,d5],h=>by
  simp only[kT,and_true]at h;obtain⟨h1,h2,h3,h4,h5⟩:=h;obtain⟨x1,e1,h1⟩:=UP h1;obtain⟨l,rfl⟩:=azv h1;obtain⟨x2,e2,h2⟩:=UP h2;obtain⟨a,rfl,ha⟩:=YU h2;obtain⟨x3,e3,h3⟩:=UP h3;obtain⟨n,rfl,_⟩:=YU h3;obtain⟨x4,e4,h4⟩:=UP h4;obtain⟨q,rfl⟩:=avr h4;obtain⟨i,e5,⟨g1,g2⟩,g3,g4⟩:=ay4 h5;refine⟨⟨_,_,_,_,_,rfl⟩,l,a,n,q,i,ha,fun hl=>⟨g1,g2,g3,by omega,g4⟩,?_⟩;simp only[Cu,e1,aij,e2,e3,e4,e5]
 | [],h=>by simp[kT]at h
 | [_],h=>by simp[kT]at h
 | [_,_],h=>by simp[kT]at h
 | [_,_,_],h=>by simp[kT]at h
 | [_,_,_,_],h=>by simp[kT]at h
 | _::_::_::_::_::_::_,h=>by simp[kT]at h
theorem anf {w:AV}{b:Bool}(e:eu w=.d (.bool b)):w=.d (.bool b):=by
 unfold eu at e;split at e
 ·cases w<;>simp[kP,km,jv]at e⊢<;>exact e
 ·exact e
theorem asA {h:ac}{v:AV}{b:Bool}(e:eE h v=some (.d (.bool b))):v=.d (.bool b):=by
 unfold eE at e;split at e
 ·split at e
  ·simp only[Option.some.injEq]at e;exact absurd (anf e) (by simp)
  ·simp at e
 ·split at e
  ·rename_i x q hq;simp only[Option.some.injEq]at e;have hx:=anf e;subst hx;unfold dE at hq;split at hq
   ·split at hq<;>simp at hq
   ·unfold fR at hq;split at hq
    ·simp only[Option.some.injEq,Prod.mk.injEq]at hq;exact hq.1
    ·simp at hq
    ·simp at hq
    ·split at hq
     ·split at hq<;>simp at hq
     ·simp at hq
    ·simp at hq
  ·simp at e
theorem apd {P:Nat→Option ae}{f:FuncId}{as:List AV}{b:Bool}(h:aM P f as=some (.d (.bool b))):∃ m hs,(run P m).call f as ⟨[],0⟩=some (.d (.bool b),hs):=by
 unfold aM at h
 cases hc:(Dn P).call f as ⟨[],0⟩ with
 | none=>rw[hc]at h;simp[lU]at h
 | some q =>
  obtain⟨v,hs⟩:=q;rw[hc]at h;have:=asA h;subst this;obtain⟨m,hm⟩:=wm hc;exact⟨m,hs,hm⟩
def Yz (P:Program) (vf:ae) (f:FuncId):Bool:=auA P vf f || (match vf.body with
 | .clone m=>YY P m vf f
 | .late i d k a=>aeJ P i d k a vf f
 | _=>false)
def T.every (p:Nat→ae→Bool):T→Bool
 | .leaf=>true
 | .node k v a b=>p k v && a.every p && b.every p
theorem T.look_every {p:Nat→ae→Bool}:∀ {t:T}{f:Nat}{vf:ae},t.every p=true→t.look f=some vf→p f vf=true
 | .leaf,_,_,_,h=>by simp[T.look]at h
 | .node k v a b,f,vf,he,h=>by
  simp only[T.every,Bool.and_eq_true]at he;simp only[T.look]at h;split at h
  ·simp_all
  ·split at h
   ·exact T.look_every he.1.2 h
   ·exact T.look_every he.2 h
theorem ajE {P:Program}{vf:ae}{f:FuncId}(h:Yz P vf f=true):auv P vf f:=by
 simp only[Yz,Bool.or_eq_true]at h;rcases h with h | h
 ·unfold auA at h;split at h
  ·rename_i fn h1;split at h
   ·rename_i c h2;simp only[Bool.and_eq_true,Nat.ble_eq,bne_iff_ne,ne_eq]at h;obtain⟨⟨⟨k1,k2⟩,k3⟩,k4⟩:=h;exact⟨fn,c,h1,h2,k4,k2,k3,.inl (fh _ _ k1)⟩
   simp_all
  simp_all
 ·split at h
  ·rename_i m hb;unfold YY at h;split at h
   ·rename_i fn h1;split at h
    ·rename_i c h2;simp only[Bool.and_eq_true,Nat.ble_eq,Nat.beq_eq,bne_iff_ne,ne_eq]at h;obtain⟨⟨⟨⟨⟨⟨k1,k2⟩,k3⟩,k4⟩,k5⟩,k6⟩,k7⟩:=h;exact⟨fn,c,h1,h2,k7,by omega,k3,.inr (.inl ⟨m,hb,k6,k5⟩)⟩
    simp_all
   simp_all
  ·rename_i i d k a hb;unfold aeJ at h;split at h
   ·rename_i fn h1;split at h
    ·rename_i c h2;simp only[Bool.and_eq_true,Nat.ble_eq,bne_iff_ne,ne_eq]at h;obtain⟨⟨⟨k1,k2⟩,k3⟩,k4⟩:=h;exact⟨fn,c,h1,h2,k4,k2,k3,.inr (.inr ⟨i,d,k,a,hb,k1⟩)⟩
    simp_all
   simp_all
  simp_all
theorem az8 {P:Program}{t:T}(h:t.every (fun f v=>Yz P v f)=true):D1 P t.look:=fun f vf hv=>ajE (T.look_every (p:=fun f v=>Yz P v f) h hv)
end Go.Vm
end
