import Derived.Test.YtklpmgeceaaheaaGreatP4
set_option linter.unusedVariables false
set_option linter.unusedSimpArgs false
set_option linter.defProp false
set_option linter.unusedSectionVars false
noncomputable section
namespace Go.Vm
set_option maxRecDepth 100000
set_option maxHeartbeats 8000000
theorem ahJ (b:List Nat) (hb:b.length≤1000000000) (a:Int) (ha:i64 a) (r:Nat) (hr:r≤11) (q:Bool) (i:az) (iv:List AV) (hiv:iv=i.cells∨q=false∧iv=zI) (e:Nat) (e0:aw b a 0=.er e):aS prog mG [.d (.lst (ae b)),.d (.int .i64 a),.d (.int .i64 r),.d (.bool q),.agg iv] =
  some (.tup [.agg vH,.d (.int .i64 0),.d (.int .i64 (e+1))]):=by
 have hR:eM (r:Int):=by omega
 have hB:=dz b a 0 hb ha;rw[e0,dH]at hB;have hM:=gn r false;rw[if_pos hR]at hM;rcases hiv with rfl | ⟨rfl,rfl⟩
 all_goals
  simp only[az.cells,zI];rw[ao yE yd rfl];simp (config := { maxSteps:=1000000 }) (disch:=omega) [↓if_pos,↓if_neg,rd,hB,hM]
theorem akT (b:List Nat) (hb:b.length≤1000000000) (a:Int) (ha:i64 a) (r:Nat) (hr:r≤11) (i:az) (hi:i.Fit) (hm:¬ i.may r) (n0:Nat) (e0:aw b a 0=.ok 0 n0):aS prog mG [.d (.lst (ae b)),.d (.int .i64 a),.d (.int .i64 r),.d (.bool true),.agg i.cells] =
  some (.tup [.agg vH,.d (.int .i64 0),.d (.int .i64 8)]):=by
 have hR:eM (r:Int):=by omega
 have hB:=dz b a 0 hb ha;have p0:=bY e0;rw[e0,bV p0]at hB;have hM:=gn r false;rw[if_pos hR]at hM;have hI:=Af r i hi;rw[if_pos hR,Int.toNat_natCast,if_neg hm]at hI;have c0:((0:Nat):Int)=0:=rfl;simp only[az.cells,c0]at hI hB⊢;rw[ao yE yd rfl];simp (config := { maxSteps:=1000000 }) (disch:=omega) [↓if_pos,↓if_neg,rd,hB,hM,hI]
theorem aiC (b:List Nat) (hb:b.length≤1000000000) (a:Int) (ha:i64 a) (r:Nat) (hr:r≤11) (q:Bool) (i:az) (hi:i.Fit) (iv:List AV) (hiv:iv=i.cells∨q=false∧iv=zI) (hq:q=true→i.may r) (n0:Nat) (e0:aw b a 0=.ok 0 n0) (e:Nat) (eH:Ak b n0 r q i=.er e):aS prog mG [.d (.lst (ae b)),.d (.int .i64 a),.d (.int .i64 r),.d (.bool q),.agg iv] =
  some (.tup [.agg vH,.d (.int .i64 0),.d (.int .i64 (e+1))]):=by
 have hR:eM (r:Int):=by omega
 have hB:=dz b a 0 hb ha;have p0:=bY e0;rw[e0,bV p0]at hB;obtain⟨k,hk0,hI⟩:=Fr hr hi hiv hq;have hh:=Fs b hb r hR q i hi iv hiv (fun h=>by rw[Int.toNat_natCast];exact hq h) n0 (by have:=p0.2;omega) k 11;rw[Int.toNat_natCast]at hh;obtain⟨od2,is2,hl⟩:=hh.1.2 e eH;have hM:=gn r false;rw[if_pos hR]at hM;have c0:((0:Nat):Int)=0:=rfl;simp only[az.cells,c0]at hI hl hB⊢;clear hh eH hi hq;rw[ao yE yd rfl];have hmk:Ke 1 pp=true:=rfl;simp only[pp,tp]at hmk;rcases hiv with rfl | ⟨rfl,rfl⟩
 ·simp only[az.cells]at hI hl⊢
  cases q with
  | true =>
   have:=hk0 rfl;subst this;simp (config := { maxSteps:=1000000 }) (disch:=omega) [↓if_pos,↓if_neg,rd,hB,hM,hI,hl,hmk]
  | false=>simp (config := { maxSteps:=1000000 }) (disch:=omega) [↓if_pos,↓if_neg,rd,hB,hM,hI,hl,hmk]
 ·simp only[zI]at hI hl⊢;simp (config := { maxSteps:=1000000 }) (disch:=omega) [↓if_pos,↓if_neg,rd,hB,hM,hI,hl,hmk]
theorem ak2 (b:List Nat) (hb:b.length≤1000000000) (a:Int) (ha:i64 a) (r:Nat) (hr:r≤11) (q:Bool) (i:az) (hi:i.Fit) (iv:List AV) (hiv:iv=i.cells∨q=false∧iv=zI) (hq:q=true→i.may r) (n0:Nat) (e0:aw b a 0=.ok 0 n0) (H:Hd) (n:Nat) (eH:Ak b n0 r q i=.ok H n) (e:Nat) (eL:jU b (IB r H.inf H.S) n Z0=.er e):aS prog mG [.d (.lst (ae b)),.d (.int .i64 a),.d (.int .i64 r),.d (.bool q),.agg iv] =
  some (.tup [.agg vH,.d (.int .i64 0),.d (.int .i64 (e+1))]):=by
 have hR:eM (r:Int):=by omega
 have hB:=dz b a 0 hb ha;have p0:=bY e0;rw[e0,bV p0]at hB;obtain⟨k,hk0,hI⟩:=Fr hr hi hiv hq;have hh:=Fs b hb r hR q i hi iv hiv (fun h=>by rw[Int.toNat_natCast];exact hq h) n0 (by have:=p0.2;omega) k 11;rw[Int.toNat_natCast]at hh;have p1:=hh.2 H n eH;have hl:=hh.1.1 H n eH;have hM:=gn r false;rw[if_pos hR]at hM;obtain⟨G,j,S,T,Ft,od,is⟩:=H;simp only[Ys]at hl eL;obtain⟨C2,Z2,M,hp⟩:=(UG b hb ⟨.cells [.junk],.cells [.d (.bool q)],.cells iv,.cells [.d (.int .i64 od)],.cells [.d (.int .i64 is)],.cells [YA],.cells pp,.cells j.cells,.cells [.d (.lst (aM S))],.cells [.own false 1 (bB (offs r j.short))]⟩ (.d (.int .i64 G)) (.d (.int .u8 j.seq)) (.d (.int .u8 j.shape)) (.d (.int .i64 j.max)) (.own false 1 (am j.groups)) (ah 1 (aM S)) (share (ah 1 (bO T))) (ah 1 (bt Ft)) r hr j p1.fit p1.may S p1.S rfl rfl rfl n p1.n).2 e eL;have hj11:=kN hr p1.may;have hSl:S.length=j.groups.length:=p1.S.1;have hTl:=congrArg List.length p1.T;simp only[List.length_map]at hTl;have hFl:=p1.F.1;simp only at hFl;have hmn:=pE j;have hgn:j.groups≠[]:=fun h=>by have:=(eR hj11).2;rw[h]at this;simp at this;omega
 have hg1:=List.length_pos_iff.2 hgn;obtain⟨s1,S1,rfl⟩:=List.exists_cons_of_ne_nil (List.length_pos_iff.1 (show 0<S.length by omega));obtain⟨t1,T1,rfl⟩:=List.exists_cons_of_ne_nil (List.length_pos_iff.1 (show 0<T.length by omega));obtain⟨f1,F1,rfl⟩:=List.exists_cons_of_ne_nil (List.length_pos_iff.1 (show 0<Ft.length by omega));have eS:ah 1 (aM (s1::S1))=.own false 1 (aM (s1::S1)):=rfl;have eT:share (ah 1 (bO (t1::T1)))=.d (.lst (bO (t1::T1))):=rfl;have eF:ah 1 (bt (f1::F1))=.own false 1 (bt (f1::F1)):=rfl;have hP:=Qi r hr j (.lst (aM (s1::S1))) [(0,.cells [.d (.lst (ae b))]),(1,.cells [.junk]),(2,.cells [.d (.bool q)]),(3,.cells iv),(4,.cells [.d (.int .i64 G),.d (.int .u8 j.seq),.d (.int .u8 j.shape),.d (.int .i64 j.max),.own false 1 (am j.groups),.own false 1 (aM (s1::S1)),.d (.lst (bO (t1::T1))),.own false 1 (bt (f1::F1)),.sl 11 0 256]),(5,.cells [.d (.int .i64 n)]),(6,.cells [.d (.int .i64 0)]),(7,.cells [.d (.int .i64 od)]),(8,.cells [.d (.int .i64 is)]),(9,.cells [YA]),(10,.cells pp),(11,.arr 1 (am Z0)),(12,.cells wx),(13,.cells [.ptr 12 0])] 14 (fun p hp=>by
  simp only[List.mem_cons,List.not_mem_nil,or_false]at hp;rcases hp with rfl | rfl | rfl | rfl | rfl | rfl | rfl | rfl | rfl | rfl | rfl | rfl | rfl | rfl<;>simp only[]<;>omega)
 have c0:((0:Nat):Int)=0:=rfl;rw[eS,eT,eF]at hl hp;simp only[az.cells,GH,kW,Fo,List.cons_append,List.nil_append,c0]at hI hl hp hP hB⊢;clear hh p1 eL eH eS eT eF hi;generalize aM (s1::S1)=SS at *;generalize bO (t1::T1)=TT at *;generalize bt (f1::F1)=FF at *;generalize hz:am Z0=z0 at *;have hk:=alB;have hz2:=ahQ;rw[hz]at hk hz2;rw[ao yE yd rfl];have hmk:Ke 1 pp=true:=rfl;simp only[pp,tp]at hmk;rcases hiv with rfl | ⟨rfl,rfl⟩
 ·simp only[az.cells]at hI hl hp hP⊢
  cases q with
  | true =>
   have:=hk0 rfl;subst this;simp (config := { maxSteps:=1000000 }) (disch:=omega) [↓if_pos,↓if_neg,rd,hB,hM,hI,hl,hk,hz2,hP,hp,hmk]
  | false=>simp (config := { maxSteps:=1000000 }) (disch:=omega) [↓if_pos,↓if_neg,rd,hB,hM,hI,hl,hk,hz2,hP,hp,hmk]
 ·simp only[zI]at hI hl hp hP⊢;simp (config := { maxSteps:=1000000 }) (disch:=omega) [↓if_pos,↓if_neg,rd,hB,hM,hI,hl,hk,hz2,hP,hp,hmk]
def Jt (b:List Nat) (a:Int) (r:Nat) (q:Bool) (i:az):R (Hd×List Int) :=
 (aw b a 0).bind fun _ n=>if q=true∧¬ i.may r then .er 7 else (Ak b n r q i).bind fun H n=>(jU b (IB r H.inf H.S) n Z0).bind fun Z m=>if H.od=0∧(H.is=1→ve H.F=true) then .ok (H,Z) m else .er 7
abbrev akg (x:R (Hd×List Int)):Option AV:=match x with
 | .ok v m=>some (.tup [.agg (Kr v.1 v.2),.d (.int .i64 m),.d (.int .i64 0)])
 | .er e=>some (.tup [.agg vH,.d (.int .i64 0),.d (.int .i64 (e+1))])
theorem adj (b:List Nat) (hb:b.length≤1000000000) (a:Int) (ha:i64 a) (r:Nat) (hr:r≤11) (q:Bool) (i:az) (hi:i.Fit) (iv:List AV) (hiv:iv=i.cells∨q=false∧iv=zI):aS prog mG [.d (.lst (ae b)),.d (.int .i64 a),.d (.int .i64 r),.d (.bool q),.agg iv]=akg (Jt b a r q i):=by
 unfold Jt
 cases e0:aw b a 0 with
 | er e=>exact ahJ b hb a ha r hr q i iv hiv e e0
 | ok v n0 =>
 have hv:v=0:=by have:v<1:=(bY e0).1;omega
 subst hv;rw[aj];by_cases hm:q=true∧¬ i.may r
 ·rw[if_pos hm];obtain⟨rfl,hm⟩:=hm
  cases hiv.resolve_right fun h=>absurd h.1 (by simp)
  exact akT b hb a ha r hr i hi hm n0 e0
 ·rw[if_neg hm];have hq:q=true→i.may r:=fun h=>Classical.byContradiction fun h2=>hm ⟨h,h2⟩
  cases eH:Ak b n0 r q i with
  | er e=>exact aiC b hb a ha r hr q i hi iv hiv hq n0 e0 e eH
  | ok H n =>
  rw[aj]
  cases eL:jU b (IB r H.inf H.S) n Z0 with
  | er e=>exact ak2 b hb a ha r hr q i hi iv hiv hq n0 e0 H n eH e eL
  | ok Z m =>
   rw[aj,anx b hb a ha r hr q i hi iv hiv hq n0 e0 H n eH Z m eL];by_cases h:H.od=0∧(H.is=1→ve H.F=true)
   ·rw[if_pos h,if_pos h]
   ·rw[if_neg h,if_neg h];rfl
theorem ajB (l:List Int) (hl:l.length≤1000000) (h:af) (N:Nat):∀ (r:List Int) (i:Nat),l.drop i=r→(Dn prog).code (.loop gJ) ⟨[(0,.d (.lst (am l))),(1,.d (.lst (am l))),(5,.d (.int .i64 i))],⟨h,N⟩⟩=some (.exit 0,⟨[],⟨h,N⟩⟩):=by
 intro r
 induction r with
 | nil =>
  intro i hd;have hi:=bn hd;rw[ac qX];simp (maxSteps:=300000) (disch:=omega) [↓if_pos,↓if_neg]
 | cons v r ih =>
  intro i hd;have hg:=ac7 hd;have hlt:=bR hd;have e:=ih (i+1) (cS hd);rw[show ((i+1:Nat):Int)=(i:Int)+1 from rfl]at e;rw[ac qX];simp (maxSteps:=300000) (disch:=omega) [↓if_pos,↓if_neg,hg,e]
theorem Aj (l:List Int) (hl:l.length≤1000000):aS prog uW [.d (.lst (am l)),.d (.lst (am l))]=some (.d (.bool true)):=by
 have e:=ajB l hl [] 0 l 0 rfl;rw[show ((0:Nat):Int)=0 from rfl]at e;rw[ao FX Gr rfl];simp (maxSteps:=300000) (disch:=omega) [↓if_pos,↓if_neg,e]
theorem aeE (i:az) (hi:i.groups.length≤1000000):aS prog uC [.agg i.cells,.agg i.cells]=some (.d (.bool true)):=by
 have e:=Aj i.groups hi;simp only[az.cells];rw[ao GE GK rfl];simp (maxSteps:=300000) (disch:=omega) [↓if_pos,↓if_neg,e]
theorem aiL (l:List (List Int)) (hl:l.length≤1000000) (hq:∀ x∈l,x.length≤1000000) (h:af) (N:Nat):∀ (r:List (List Int)) (i:Nat),l.drop i=r→(Dn prog).code (.loop d9) ⟨[(0,.d (.lst (bO l))),(1,.d (.lst (bO l))),(5,.d (.int .i64 i))],⟨h,N⟩⟩=some (.exit 0,⟨[],⟨h,N⟩⟩):=by
 intro r
 induction r with
 | nil =>
  intro i hd;have hi:=bn hd;rw[ac lT];simp (maxSteps:=300000) (disch:=omega) [↓if_pos,↓if_neg]
 | cons v r ih =>
  intro i hd;have hg:=agR hd;have hlt:=bR hd;have hv:=hq v (List.mem_of_mem_drop (by rw[hd];exact .head _));have e:=ih (i+1) (cS hd);have e2:=Aj v hv;rw[show ((i+1:Nat):Int)=(i:Int)+1 from rfl]at e;rw[ac lT];simp (maxSteps:=300000) (disch:=omega) [↓if_pos,↓if_neg,hg,e,e2]
theorem Rq (l:List (List Int)) (hl:l.length≤1000000) (hq:∀ x∈l,x.length≤1000000):aS prog oQ [.d (.lst (bO l)),.d (.lst (bO l))]=some (.d (.bool true)):=by
 have e:=aiL l hl hq [] 0 l 0 rfl;rw[show ((0:Nat):Int)=0 from rfl]at e;rw[ao Ad Ab rfl];simp (maxSteps:=300000) (disch:=omega) [↓if_pos,↓if_neg,e]
theorem afZ (x y:Int):PH true [true,true] (.agg [.d (.int .i64 x),.d (.int .i64 y)]) (.agg [.d (.int .i64 x),.d (.int .i64 y)])=some (.bool false):=by
 simp[PH,aB,jS]
theorem anA (full:List (List aG)) (w:Nat) (l:List aG) (q:List (List aG)) (hw:full.drop w=l::q) (hf:full.length≤1000000) (hl:l.length≤1000000) (h:af) (N:Nat):∀ (r:List aG) (i:Nat),l.drop i=r→(Dn prog).code (.loop dl) ⟨[(0,.d (.lst (aM full))),(1,.d (.lst (aM full))),(5,.d (.int .i64 w)),(6,.d (.int .i64 i))],⟨h,N⟩⟩=some (.exit 2,⟨[(0,.d (.lst (aM full))),(1,.d (.lst (aM full))),(5,.d (.int .i64 w))],⟨h,N⟩⟩):=by
 have hg1:=xY hw;have hw1:=bR hw;intro r
 induction r with
 | nil =>
  intro i hd;have hi:=bn hd;rw[ac j6];simp (maxSteps:=300000) (disch:=omega) [↓if_pos,↓if_neg,hg1]
 | cons v r ih =>
  intro i hd;have hg:=Gj hd;have hlt:=bR hd;have e:=ih (i+1) (cS hd);rw[show ((i+1:Nat):Int)=(i:Int)+1 from rfl]at e;rw[ac j6];simp (maxSteps:=300000) (disch:=omega) [↓if_pos,↓if_neg,hg,hg1,e,afZ]
theorem anr (full:List (List aG)) (hf:full.length≤1000000) (hq:∀ x∈full,x.length≤1000000) (h:af) (N:Nat):∀ (r:List (List aG)) (i:Nat),full.drop i=r→(Dn prog).code (.loop dj) ⟨[(0,.d (.lst (aM full))),(1,.d (.lst (aM full))),(5,.d (.int .i64 i))],⟨h,N⟩⟩=some (.exit 0,⟨[],⟨h,N⟩⟩):=by
 intro r
 induction r with
 | nil =>
  intro i hd;have hi:=bn hd;rw[ac kb];simp (maxSteps:=300000) (disch:=omega) [↓if_pos,↓if_neg]
 | cons v r ih =>
  intro i hd;have hg:=xY hd;have hlt:=bR hd;have hv:=hq v (List.mem_of_mem_drop (by rw[hd];exact .head _));have e:=ih (i+1) (cS hd);have e2:=anA full i v r hd hf hv h N v 0 rfl;rw[show ((i+1:Nat):Int)=(i:Int)+1 from rfl]at e;rw[show ((0:Nat):Int)=0 from rfl]at e2;rw[ac kb];simp (maxSteps:=300000) (disch:=omega) [↓if_pos,↓if_neg,hg,e,e2]
theorem I0 (l:List (List aG)) (hl:l.length≤1000000) (hq:∀ x∈l,x.length≤1000000):aS prog lS [.d (.lst (aM l)),.d (.lst (aM l))]=some (.d (.bool true)):=by
 have e:=anr l hl hq [] 0 l 0 rfl;rw[show ((0:Nat):Int)=0 from rfl]at e;rw[ao wQ xi rfl];simp (maxSteps:=300000) (disch:=omega) [↓if_pos,↓if_neg,e]
theorem apa (full:List (List bG)) (w:Nat) (l:List bG) (q:List (List bG)) (hw:full.drop w=l::q) (hf:full.length≤1000000) (hl:l.length≤1000000) (hc:∀ f∈l,f.coefs.length≤1000000):∀ (r:List bG) (i N:Nat),l.drop i=r→∃ M,(Dn prog).code (.loop eY) ⟨[(0,.d (.lst (bt full))),(1,.d (.lst (bt full))),(5,.d (.int .i64 w)),(6,.d (.int .i64 i))],⟨[],N⟩⟩=some (.exit 2,⟨[(0,.d (.lst (bt full))),(1,.d (.lst (bt full))),(5,.d (.int .i64 w))],⟨[],M⟩⟩):=by
 have hg1:=Ja hw;have hw1:=bR hw;intro r
 induction r with
 | nil =>
  intro i N hd;have hi:=bn hd;refine⟨N,?_⟩;rw[ac oa];simp (maxSteps:=300000) (disch:=omega) [↓if_pos,↓if_neg,hg1]
 | cons v r ih =>
  intro i N hd;have hg:=akd hd;have hlt:=bR hd;have hv:=hc v (List.mem_of_mem_drop (by rw[hd];exact .head _));have e2:=Aj v.coefs hv;obtain⟨M,e⟩:=ih (i+1) (N+1+1) (cS hd);rw[show ((i+1:Nat):Int)=(i:Int)+1 from rfl]at e;refine⟨M,?_⟩;rw[ac oa];simp (maxSteps:=300000) (disch:=omega) [↓if_pos,↓if_neg,hg,hg1,e,e2]
theorem aqJ (full:List (List bG)) (hf:full.length≤1000000) (hq:∀ x∈full,x.length≤1000000) (hc:∀ x∈full,∀ f∈x,f.coefs.length≤1000000):∀ (r:List (List bG)) (i N:Nat),full.drop i=r→∃ M,(Dn prog).code (.loop eQ) ⟨[(0,.d (.lst (bt full))),(1,.d (.lst (bt full))),(5,.d (.int .i64 i))],⟨[],N⟩⟩=some (.exit 0,⟨[],⟨[],M⟩⟩):=by
 intro r
 induction r with
 | nil =>
  intro i N hd;have hi:=bn hd;refine⟨N,?_⟩;rw[ac nW];simp (maxSteps:=300000) (disch:=omega) [↓if_pos,↓if_neg]
 | cons v r ih =>
  intro i N hd;have hg:=Ja hd;have hlt:=bR hd;have hm:v∈full:=List.mem_of_mem_drop (by rw[hd];exact .head _);have hv:=hq v hm;obtain⟨M1,e2⟩:=apa full i v r hd hf hv (hc v hm) v 0 N rfl;obtain⟨M,e⟩:=ih (i+1) M1 (cS hd);rw[show ((i+1:Nat):Int)=(i:Int)+1 from rfl]at e;rw[show ((0:Nat):Int)=0 from rfl]at e2;refine⟨M,?_⟩;rw[ac nW];simp (maxSteps:=300000) (disch:=omega) [↓if_pos,↓if_neg,hg,e,e2]
theorem V2 (l:List (List bG)) (hl:l.length≤1000000) (hq:∀ x∈l,x.length≤1000000) (hc:∀ x∈l,∀ f∈x,f.coefs.length≤1000000):aS prog rl [.d (.lst (bt l)),.d (.lst (bt l))]=some (.d (.bool true)):=by
 obtain⟨M,e⟩:=aqJ l hl hq hc l 0 0 rfl;rw[show ((0:Nat):Int)=0 from rfl]at e;rw[ao Cv Cu rfl];simp (maxSteps:=300000) (disch:=omega) [↓if_pos,↓if_neg,e]
theorem aeT (c:fb) (hc:c.Fit):aS prog vu [.agg c.av,.agg c.av]=some (.d (.bool true)):=by
 have hg:=hc.info.len;have hl:=hc.lines;have h1:=aeE c.info (by omega);have h2:=Aj c.lines (by omega);have h3:=I0 c.sects (by have:=hc.sects.1;omega) (fun l h=>by have:=hc.sects.2 l h;omega);have h4:=Rq c.steps (by have:=hc.steps.1;omega) (fun l h=>by have:=hc.steps.2 l h;omega);have h5:=V2 c.tns (by have:=hc.tns.1;omega) (fun l h=>by have:=(hc.tns.2 l h).1;omega) (fun l h f hf=>by have:=(hc.tns.2 l h).2 f hf;omega);simp only[fb.av,az.cells]at h1⊢;rw[ao Gb F9 rfl];simp (maxSteps:=300000) (disch:=omega) [↓if_pos,↓if_neg,h1,h2,h3,h4,h5]
def At (b:List Nat) (a n:Nat) (X:List Nat):Prop:=a≤b.length∧n=a+X.length∧∃ t,b.drop a=X++t
theorem bZ {b:List Nat}{a n:Nat}:At b a n []↔n=a∧a≤b.length:=by
 constructor
 ·rintro ⟨h1,h2,_⟩
  exact⟨by simpa using h2,h1⟩
 ·rintro ⟨h1,h2⟩
  exact⟨h2,by simpa using h1,b.drop a,rfl⟩
theorem bv {b:List Nat}{a n:Nat}{X:List Nat}(h:At b a n X):a≤b.length∧n≤b.length∧n=a+X.length:=by
 obtain⟨h1,h2,t,h3⟩:=h;have:=congrArg List.length h3;rw[List.length_drop,List.length_append]at this;exact⟨h1,by omega,h2⟩
theorem ax {b:List Nat}{a n:Nat}{X Y:List Nat}:At b a n (X++Y)↔∃ m,At b a m X∧At b m n Y:=by
 constructor
 ·intro h;have hl:=bv h;obtain⟨h1,h2,t,h3⟩:=h;rw[List.length_append]at h2;refine⟨a+X.length,⟨h1,rfl,Y++t,by rw[h3,List.append_assoc]⟩,by omega,by omega,t,?_⟩;rw[←List.drop_drop,h3,List.append_assoc,List.drop_left]
 ·rintro ⟨m,⟨h1,h2,t,h3⟩,h4,h5,t2,h6⟩
  refine⟨h1,by rw[List.length_append];omega,t2,?_⟩;rw[h2,←List.drop_drop,h3,List.drop_left]at h6;rw[h3,h6,List.append_assoc]
theorem Jy {n:Nat}:∀ {k:Nat},bin (aF n k)
 | 0=>by simp[aF,bin]
 | k+1=>by
  intro x hx;rw[aF]at hx;rcases List.mem_cons.1 hx with h | h
  ·omega
  ·exact Jy x h
theorem E2 {v:Nat}:∀ {s n:Nat},val (aF v s) n=n*2 ^ s+v % 2 ^ s
 | 0,n=>by simp[aF,val,Nat.mod_one]
 | k+1,n=>by
  rw[aF,val,E2,Nat.mod_pow_succ,Nat.pow_succ,Nat.add_mul];have:2*n*2 ^ k=n*(2 ^ k*2):=by rw[Nat.mul_comm 2 n,Nat.mul_assoc,Nat.mul_comm 2 (2 ^ k)]
  rw[this,Nat.mul_comm (v / 2 ^ k % 2)];omega
theorem XY:∀ {l:List Nat}{n:Nat},val l n=n*2 ^ l.length+val l 0
 | [],n=>by simp[val]
 | x::r,n=>by
  rw[val,val,XY,XY (n:=2*0+x),List.length_cons,Nat.pow_succ,Nat.add_mul];have:2*n*2 ^ r.length=n*(2 ^ r.length*2):=by rw[Nat.mul_comm 2 n,Nat.mul_assoc,Nat.mul_comm 2 (2 ^ r.length)]
  rw[this];simp only[Nat.mul_zero,Nat.zero_add];omega
theorem Tm:∀ {l:List Nat}{n:Nat},bin l→aF (val l n) l.length=l
 | [],n,_=>rfl
 | x::r,n,h=>by
  have hr:bin r:=fun y hy=>h y (.tail _ hy)
  have hx:=h x (.head _);have h0:=Ed (l:=r) (n:=0) (i:=0) hr (by omega);rw[Nat.zero_add]at h0;have e:val r (2*n+x) / 2 ^ r.length % 2=x:=by
   rw[XY,Nat.add_comm,Nat.add_mul_div_right _ _ (Nat.pow_pos (by decide)),Nat.div_eq_of_lt h0];omega
  rw[val,List.length_cons,aF,e,Tm hr]
theorem bb {b:List Nat}{a s v n:Nat}(hs:s≤31):aw b (a:Int) (s:Int)=.ok v n↔v<2 ^ s∧At b a n (aF v s):=by
 unfold aw;simp only[Int.toNat_natCast];constructor
 ·intro h;by_cases h1:(0≤(s:Int)∧(s:Int)≤31)∧0≤(a:Int)∧(a:Int)≤b.length
  ·rw[if_pos h1]at h;by_cases h2:((b.length:Nat):Int)-a<s
   ·rw[if_pos h2]at h;exact absurd h (by simp)
   ·rw[if_neg h2]at h;by_cases h3:bin ((b.drop a).take s)
    ·rw[if_pos h3]at h;injection h with e1 e2
     have hl:((b.drop a).take s).length=s:=by rw[List.length_take,List.length_drop];omega
     have h4:=Ed (n:=0) (i:=0) h3 (by omega);have h5:=Tm (n:=0) h3;rw[hl,e1]at h4 h5;rw[Nat.zero_add]at h4;refine⟨h4,by omega,by rw[ti];omega,(b.drop a).drop s,?_⟩;rw[h5,List.take_append_drop]
    ·rw[if_neg h3]at h;exact absurd h (by simp)
  ·rw[if_neg h1]at h;exact absurd h (by simp)
 ·rintro ⟨hv,h⟩
  have hl:=bv h;obtain⟨h1,h2,t,h3⟩:=h;rw[ti]at h2;have e:(b.drop a).take s=aF v s:=by rw[h3,List.take_left' ti]
  rw[if_pos (by omega),if_neg (by omega),e,if_pos Jy,E2,Nat.mod_eq_of_lt hv,h2];simp
theorem adl {b:List Nat}{a:Int}{s:Int}{v n:Nat}(h:aw b a s=.ok v n):0≤a:=by
 unfold aw at h;by_cases h1:(0≤s∧s≤31)∧0≤a∧a≤b.length
 ·exact h1.2.1
 ·rw[if_neg h1]at h;exact absurd h (by simp)
theorem Kd {α:Type}{c:Prop}[Decidable c] {v w:α}{n m:Nat}:JR c v n=.ok w m↔c∧v=w∧n=m:=by
 unfold JR;by_cases h:c
 ·rw[if_pos h];exact⟨fun e=>by injection e with e1 e2;exact⟨h,e1,e2⟩,fun⟨_,e1,e2⟩=>by rw[e1,e2]⟩
 ·rw[if_neg h];exact⟨fun e=>absurd e (by simp),fun e=>absurd e.1 h⟩
theorem ak {α β:Type}{x:R α}{f:α→Nat→R β}{v:β}{n:Nat}:x.bind f=.ok v n↔∃ u m,x=.ok u m∧f u m=.ok v n :=
 ⟨lh,fun⟨u,m,h1,h2⟩=>by rw[h1];exact h2⟩
def Ui:Nat→List (List Nat)
 | 0=>[[]]
 | k+1=>(Ui k).map (0::·)++(Ui k).map (1::·)
theorem ach:∀ {l:List Nat},bin l→l∈Ui l.length
 | [],_=>by simp[Ui]
 | x::r,h=>by
  have ih:=ach (l:=r) fun y hy=>h y (.tail _ hy)
  have hx:=h x (.head _);rw[List.length_cons,Ui,List.mem_append,List.mem_map,List.mem_map];rcases Nat.le_one_iff_eq_zero_or_eq_one.1 hx with rfl | rfl
  ·exact .inl ⟨r,ih,rfl⟩
  ·exact .inr ⟨r,ih,rfl⟩
def ZO:Nat→Nat→List (List Int)
 | 0,_=>[]
 | f+1,0=>[[]]
 | f+1,n+1=>(List.range (n+1)).flatMap fun k=>(ZO f (n-k)).map (((k:Int)+1)::·)
theorem abR:∀ {g:List Int}{f n:Nat},(∀ x∈g,1≤x)→g.sum=n→n<f→g∈ZO f n
 | [],f,n,_,h,hf=>by
  obtain⟨f,rfl⟩:=Nat.exists_eq_add_of_lt hf;have:n=0:=by simp at h;omega
  subst this;simp[ZO]
 | x::r,f,n,hx,h,hf=>by
  have h1:=hx x (.head _);have h2:=oi (l:=r) fun y hy=>hx y (.tail _ hy)
  rw[List.sum_cons]at h;obtain⟨f,rfl⟩:∃ k,f=k+1:=⟨f-1,by omega⟩
  obtain⟨n,rfl⟩:∃ k,n=k+1:=⟨n-1,by omega⟩
  have ih:=abR (g:=r) (f:=f) (n:=n-(x.toNat-1)) (fun y hy=>hx y (.tail _ hy)) (by omega) (by omega);rw[ZO,List.mem_flatMap];exact⟨x.toNat-1,List.mem_range.2 (by omega),List.mem_map.2 ⟨r,ih,by congr 1;omega⟩⟩
theorem am2:∀ l∈Ui 7,L6 (grow [1] l) 7 0=l:=by decide +kernel
theorem amC:∀ g∈ZO 9 8,grow [1] (L6 g 7 0)=g:=by decide +kernel
theorem Gn {b:List Nat}:∀ {k a n:Nat}{l:List Nat},a≤b.length→(qi b k a=.ok l n↔(l.length=k∧bin l)∧At b a n l)
 | 0,a,n,l,ha=>by
  rw[qi];constructor
  ·intro h;injection h with e1 e2
   subst e1 e2;exact⟨⟨rfl,by simp[bin]⟩,bZ.2 ⟨rfl,ha⟩⟩
  ·rintro ⟨⟨h1,_⟩,h2⟩
   have:=List.eq_nil_of_length_eq_zero h1;subst this;rw[(bZ.1 h2).1]
 | k+1,a,n,l,ha=>by
  rw[qi,ak];constructor
  ·rintro ⟨v,m,h1,h2⟩
   obtain⟨g1,g2⟩:=(bb (s:=1) (by omega)).1 h1;obtain⟨l2,m2,h3,h4⟩:=ak.1 h2;injection h4 with e1 e2
   subst e1 e2;obtain⟨⟨i1,i2⟩,i3⟩:=(Gn (bv g2).2.1).1 h3;refine⟨⟨by rw[List.length_cons,i1],fun x hx=>?_⟩,?_⟩
   ·rcases List.mem_cons.1 hx with rfl | hx
    ·omega
    ·exact i2 x hx
   ·have e:aF v 1=[v]:=by simp[aF];omega
    rw[e]at g2;exact ax.2 ⟨m,g2,i3⟩
  ·rintro ⟨⟨h1,h2⟩,h3⟩
   cases l with
   | nil=>simp at h1
   | cons v r =>
    have hv:=h2 v (.head _);obtain⟨m,g1,g2⟩:=ax (X:=[v]) (Y:=r) |>.1 h3;have e:aF v 1=[v]:=by simp[aF];omega
    rw[←e]at g1;have hr:=(Gn (k:=k) (bv g2).1).2 ⟨⟨by simpa using h1,fun y hy=>h2 y (.tail _ hy)⟩,g2⟩;exact⟨v,m,(bb (s:=1) (by omega)).2 ⟨by omega,g1⟩,by rw[hr];rfl⟩
theorem acB {g:List Int}:∀ {k w:Nat},bin (L6 g k w)
 | 0,_=>by simp[L6,bin]
 | k+1,w=>by
  intro x hx;rw[L6]at hx;rcases List.mem_append.1 hx with h | h
  ·revert h
   split<;>exact fun h=>Jy x h
  ·exact acB x h
theorem RE {b:List Nat}{a r n:Nat}{j:az}(hr:r≤11):jK b (a:Int) r=.ok j n↔j.may r∧At b a n (F0 j):=by
 unfold jK F0;constructor
 ·intro h;obtain⟨o,n1,h1,h⟩:=ak.1 h;obtain⟨q,n2,h2,h⟩:=ak.1 h;obtain⟨s,n3,h3,h⟩:=ak.1 h;have k1:=(bb (s:=1) (by omega)).1 h1;have k2:=(bb (s:=2) (by omega)).1 h2;have k3:=(bb (s:=1) (by omega)).1 h3;by_cases hq:q=2
  ·rw[if_pos hq]at h;obtain⟨m,n4,h4,h⟩:=ak.1 h;obtain⟨l,n5,h5,h⟩:=ak.1 h;obtain⟨⟨ho,hm⟩,e1,e2⟩:=Kd.1 h;have k4:=(bb (s:=4) (by omega)).1 h4;have k5:=(Gn (bv k4.2).2.1).1 h5;subst e1 e2 ho;refine⟨hm,ax.2 ⟨n1,k1.2,ax.2 ⟨n2,k2.2,ax.2 ⟨n3,k3.2,?_⟩⟩⟩⟩;simp only[hq,if_true,Int.toNat_natCast];refine ax.2 ⟨n4,k4.2,?_⟩;rw[am2 l (by have:=ach k5.1.2;rwa [k5.1.1]at this)];exact k5.2
  ·rw[if_neg hq]at h;obtain⟨m,n4,h4,h⟩:=ak.1 h;obtain⟨p,n5,h5,h⟩:=ak.1 h;obtain⟨⟨⟨ho,hp⟩,hm⟩,e1,e2⟩:=Kd.1 h;have k4:=(bb (s:=6) (by omega)).1 h4;have k5:=(bb (s:=1) (by omega)).1 h5;subst e1 e2 ho hp;refine⟨hm,ax.2 ⟨n1,k1.2,ax.2 ⟨n2,k2.2,ax.2 ⟨n3,k3.2,?_⟩⟩⟩⟩;simp only[if_neg hq,Int.toNat_natCast];exact ax.2 ⟨n4,k4.2,k5.2⟩
 ·rintro ⟨hm,h0⟩
  obtain⟨n1,k1,h1⟩:=ax.1 h0;obtain⟨n2,k2,h2⟩:=ax.1 h1;obtain⟨n3,k3,h3⟩:=ax.1 h2;clear h0 h1 h2;have g11:=kN hr hm;have hmx:=ox g11;obtain⟨s,sh,m,g⟩:=j;have hs:s≤3:=hm.1;have hsh:sh≤1:=hm.2.1;simp only at hmx h3 k2 k3;obtain⟨M,rfl⟩:=Int.eq_ofNat_of_zero_le hmx.1;refine ak.2 ⟨0,n1,(bb (s:=1) (by omega)).2 ⟨by omega,k1⟩,ak.2 ⟨s,n2,(bb (s:=2) (by omega)).2 ⟨by omega,k2⟩,ak.2 ⟨sh,n3,(bb (s:=1) (by omega)).2 ⟨by omega,k3⟩,?_⟩⟩⟩;have hmb:(M:Int)≤oT r (decide (s=2)):=hm.2.2.2.1;have hgr:az.grouped _:=hm.2.2.2.2;unfold az.grouped at hgr;simp only[Int.toNat_natCast]at h3 hgr;by_cases hq:s=2
  ·subst hq;have m4:M<2 ^ 4:=by
    have:=(Re (r,true) (iX (by omega))).2;simp only[decide_true]at hmb this;omega
   rw[if_pos rfl]at h3 hgr⊢;obtain⟨n4,k4,h4⟩:=ax.1 h3;have hg:=amC g (abR (fun x hx=>(hgr.1 x hx).1) hgr.2.1 (by omega));exact ak.2 ⟨M,n4,(bb (s:=4) (by omega)).2 ⟨m4,k4⟩,ak.2 ⟨L6 g 7 0,n,(Gn (bv k4).2.1).2 ⟨⟨acA,acB⟩,h4⟩,Kd.2 ⟨⟨rfl,by rw[hg];exact hm⟩,by rw[hg],rfl⟩⟩⟩
  ·have m6:=Zu (r:=r) (s:=decide (s=2)) (by omega);rw[if_neg hq]at h3 hgr⊢;obtain⟨n4,k4,h4⟩:=ax.1 h3
   cases hgr
   exact ak.2 ⟨M,n4,(bb (s:=6) (by omega)).2 ⟨by omega,k4⟩,ak.2 ⟨0,n,(bb (s:=1) (by omega)).2 ⟨by omega,h4⟩,Kd.2 ⟨⟨⟨rfl,rfl⟩,hm⟩,rfl,rfl⟩⟩⟩
theorem acn {aP:Nat}(hm:1≤aP):∀ {f g n:Nat},n≤f→n≤g→gk aP f n=gk aP g n
 | 0,0,n,_,_=>rfl
 | 0,g+1,n,h,_=>by
  have:n=0:=by omega
  subst this;rw[gk,gk,if_neg (by omega)]
 | f+1,0,n,_,h=>by
  have:n=0:=by omega
  subst this;rw[gk,gk,if_neg (by omega)]
 | f+1,g+1,n,h1,h2=>by
  rw[gk,gk];by_cases h:aP≤n
  ·rw[if_pos h,if_pos h,acn hm (f:=f) (g:=g) (n:=n-aP) (by omega) (by omega)]
  ·rw[if_neg h,if_neg h]
theorem al8 {aP d:Nat}(hm:1≤aP) (h:aP≤d):gk aP d d=aP::gk aP (d-aP) (d-aP):=by
 obtain⟨e,rfl⟩:∃ e,d=e+1:=⟨d-1,by omega⟩
 rw[gk,if_pos h,acn hm (f:=e) (g:=e+1-aP) (by omega) (by omega)]
theorem alq {aP d:Nat}(h:d<aP):gk aP d d=[d]:=by
 cases d with
 | zero=>rfl
 | succ e=>rw[gk,if_neg (by omega)]
theorem K3 {b:List Nat}{sz aP left:Nat}(hs:1≤sz∧sz≤5) (hm:aP=2 ^ sz-1):∀ {f a acc n m:Nat},left<acc+f→
  (rH b sz aP left f a acc=.ok n m↔(acc≤n∧n≤left)∧At b a m ((gk aP (n-acc) (n-acc)).flatMap fun x=>aF x sz))
 | 0,a,acc,n,m,hf=>by
  rw[rH];exact⟨fun h=>absurd h (by simp),fun h=>by omega⟩
 | f+1,a,acc,n,m,hf=>by
  have h2:2 ^ 1≤2 ^ sz:=Nat.pow_le_pow_right (by omega) hs.1;rw[rH,ak];constructor
  ·rintro ⟨x,m1,h1,h⟩
   obtain⟨g1,g2⟩:=(bb (by omega)).1 h1;by_cases hl:left<acc+x
   ·rw[if_pos hl]at h;exact absurd h (by simp)
   rw[if_neg hl]at h;by_cases hx:x=aP
   ·rw[if_pos hx,K3 hs hm (by omega)]at h;obtain⟨h3,h4⟩:=h;refine⟨by omega,?_⟩;rw[al8 (by omega) (by omega),List.flatMap_cons,ax];refine⟨m1,by rw[←hx];exact g2,?_⟩;rw[show n-acc-aP=n-(acc+x) by omega];exact h4
   ·rw[if_neg hx]at h;injection h with e1 e2
    subst e1 e2;refine⟨by omega,?_⟩;rw[show acc+x-acc=x by omega,alq (by omega)];simpa using g2
  ·rintro ⟨h1,h⟩
   by_cases hd:aP≤n-acc
   ·rw[al8 (by omega) hd,List.flatMap_cons,ax]at h;obtain⟨m1,k1,k2⟩:=h;refine⟨aP,m1,(bb (by omega)).2 ⟨by omega,k1⟩,?_⟩;rw[if_neg (by omega),if_pos rfl,K3 hs hm (by omega)];refine⟨by omega,?_⟩;rw[show n-(acc+aP)=n-acc-aP by omega];exact k2
   ·rw[alq (by omega)]at h;simp only[List.flatMap_cons,List.flatMap_nil,List.append_nil]at h;refine⟨n-acc,m,(bb (by omega)).2 ⟨by omega,h⟩,?_⟩;rw[if_neg (by omega),if_neg (by omega),show acc+(n-acc)=n by omega]
theorem adb {b:List Nat}{sz left a m:Nat}{s:aG}(hs:1≤sz∧sz≤5):B5 b sz left a=.ok s m↔s.right left∧At b a m (afy sz s):=by
 rw[B5,ak,afy];constructor
 ·rintro ⟨k,m1,h1,h⟩
  obtain⟨g1,g2⟩:=(bb (s:=4) (by omega)).1 h1;by_cases hk:k=12∨13<k
  ·rw[if_pos hk]at h;exact absurd h (by simp)
  rw[if_neg hk]at h;obtain⟨n,m2,h2,h⟩:=ak.1 h;obtain⟨g3,g4⟩:=(K3 hs rfl (by omega)).1 h2;by_cases h0:n=0
  ·rw[if_pos h0]at h;exact absurd h (by simp)
  rw[if_neg h0]at h;injection h with e1 e2
  subst e1 e2;refine⟨⟨⟨by simp only[];omega,by simp only[];omega⟩,by simp only[Jd];omega⟩,ax.2 ⟨m1,g2,?_⟩⟩;simpa using g4
 ·rintro ⟨⟨⟨h1,h2⟩,h3,h4⟩,h⟩
  obtain⟨k,n⟩:=s;simp only at h1 h2 h3 h4 h;obtain⟨k,rfl⟩:=Int.eq_ofNat_of_zero_le h3;obtain⟨n,rfl⟩:=Int.eq_ofNat_of_zero_le (show 0≤n by omega);simp only[Int.toNat_natCast]at h;obtain⟨m1,k1,k2⟩:=ax.1 h;refine⟨k,m1,(bb (s:=4) (by omega)).2 ⟨by omega,k1⟩,?_⟩;rw[if_neg (by omega)];refine ak.2 ⟨n,m,(K3 hs rfl (by omega)).2 ⟨by omega,by simpa using k2⟩,?_⟩;rw[if_neg (by omega)]
theorem CX {b:List Nat}{sz:Nat}(hs:1≤sz∧sz≤5):∀ {f left a m:Nat}{l:List aG},left≤f→a≤b.length→(fC b sz f left a=.ok l m↔fitsS left l∧At b a m (Kl sz l))
 | 0,left,a,m,l,hf,ha=>by
  have:left=0:=by omega
  subst this;rw[fC];constructor
  ·intro h;injection h with e1 e2
   subst e1 e2;exact⟨rfl,bZ.2 ⟨rfl,ha⟩⟩
  ·rintro ⟨h1,h2⟩
   cases l with
   | nil=>rw[(bZ.1 h2).1]
   | cons s l=>have:=h1.1.1;omega
 | f+1,left,a,m,l,hf,ha=>by
  rw[fC];by_cases h0:left=0
  ·subst h0;rw[if_pos rfl];constructor
   ·intro h;injection h with e1 e2
    subst e1 e2;exact⟨rfl,bZ.2 ⟨rfl,ha⟩⟩
   ·rintro ⟨h1,h2⟩
    cases l with
    | nil=>rw[(bZ.1 h2).1]
    | cons s l=>have:=h1.1.1;omega
  ·rw[if_neg h0,ak];constructor
   ·rintro ⟨s,m1,h1,h⟩
    obtain⟨g1,g2⟩:=(adb hs).1 h1;obtain⟨l2,m2,h2,h⟩:=ak.1 h;injection h with e1 e2
    subst e1 e2;have hr:=g1.1;obtain⟨g3,g4⟩:=(CX hs (by omega) (bv g2).2.1).1 h2;refine⟨⟨g1,?_⟩,ax.2 ⟨m1,g2,g4⟩⟩
    rwa [show ((left-s.len.toNat:Nat):Int)=left-s.len by omega]at g3
   ·rintro ⟨h1,h2⟩
    cases l with
    | nil=>exact absurd h1 (by show ¬ ((left:Int)=0);omega)
    | cons s l =>
     obtain⟨k1,k2⟩:=h1;obtain⟨m1,j1,j2⟩:=ax.1 (show At b a m (afy sz s++Kl sz l) from h2);have hr:=k1.1;refine⟨s,m1,(adb hs).2 ⟨k1,j1⟩,ak.2 ⟨l,m,(CX hs (by omega) (bv j1).2.1).2 ⟨?_,j2⟩,rfl⟩⟩
     rwa [show ((left-s.len.toNat:Nat):Int)=left-s.len by omega]
theorem NU {b:List Nat}{sz aP:Nat}(hs:1≤sz∧sz≤5):∀ {k a m:Nat}{g:List (List aG)},a≤b.length→(mP b sz aP k a=.ok g m↔(g.length=k∧∀ l∈g,fitsS aP l)∧At b a m (g.flatMap (Kl sz)))
 | 0,a,m,g,ha=>by
  rw[mP];constructor
  ·intro h;injection h with e1 e2
   subst e1 e2;exact⟨⟨rfl,by simp⟩,bZ.2 ⟨rfl,ha⟩⟩
  ·rintro ⟨⟨h1,_⟩,h2⟩
   have:=List.eq_nil_of_length_eq_zero h1;subst this;rw[(bZ.1 h2).1]
 | k+1,a,m,g,ha=>by
  rw[mP,ak];constructor
  ·rintro ⟨l,m1,h1,h⟩
   obtain⟨g1,g2⟩:=(CX hs (Nat.le_refl _) ha).1 h1;obtain⟨r,m2,h2,h⟩:=ak.1 h;injection h with e1 e2
   subst e1 e2;obtain⟨⟨g3,g4⟩,g5⟩:=(NU hs (bv g2).2.1).1 h2;refine⟨⟨by rw[List.length_cons,g3],fun q hq=>?_⟩,ax.2 ⟨m1,g2,g5⟩⟩;rcases List.mem_cons.1 hq with rfl | hq
   ·exact g1
   ·exact g4 q hq
  ·rintro ⟨⟨h1,h2⟩,h3⟩
   cases g with
   | nil=>simp at h1
   | cons l r =>
    obtain⟨m1,j1,j2⟩:=ax.1 (show At b a m (Kl sz l++r.flatMap (Kl sz)) from h3);exact⟨l,m1,(CX hs (Nat.le_refl _) ha).2 ⟨h2 l (.head _),j1⟩,ak.2 ⟨r,m,(NU hs (bv j1).2.1).2 ⟨⟨by simpa using h1,fun q hq=>h2 q (.tail _ hq)⟩,j2⟩,rfl⟩⟩
theorem aeK {b:List Nat}{i:az}{a m:Nat}{g:List (List aG)}(hm:i.may 11) (ha:a≤b.length):qc b i (a:Int)=.ok g m↔qD i g∧At b a m (alR i g):=by
 have hmx:=ox hm;obtain⟨M,hM⟩:=Int.eq_ofNat_of_zero_le hmx.1;have hs:1≤i.fsz∧i.fsz≤5:=by unfold az.fsz;split<;>omega
 rw[qc,if_pos (by omega),Int.toNat_natCast,NU hs ha,Int.toNat_of_nonneg hmx.1];exact Iff.rfl
theorem RN:∀ id∈ids,(bc id).length=aA id∧(List.range (aA id)).all (fun e=>Nat.beq (nth (bc id) (nth (cJ id) e)) e && Nat.beq (nth (cJ id) (nth (bc id) e)) e)=true:=by decide +kernel
theorem UA {id e:Nat}(h:jR id) (he:e<aA id):nth (bc id) (nth (cJ id) e)=e∧nth (cJ id) (nth (bc id) e)=e:=by
 have h1:=List.all_eq_true.1 (RN id (ft h)).2 e (List.mem_range.2 he);rw[Bool.and_eq_true,Nat.beq_eq,Nat.beq_eq]at h1;exact h1
theorem Df {b:List Nat}:∀ {f m a k n:Nat},iB b f m (a:Int)=.ok k n↔(m≤k∧k<m+f)∧At b a n (List.replicate (k-m) 0++[1])
 | 0,m,a,k,n=>by
  rw[iB];exact⟨fun h=>absurd h (by simp),fun h=>by omega⟩
 | f+1,m,a,k,n=>by
  rw[iB,ak];constructor
  ·rintro ⟨v,m1,h1,h⟩
   obtain⟨g1,g2⟩:=(bb (s:=1) (by omega)).1 h1;have e:aF v 1=[v]:=by simp[aF];omega
   rw[e]at g2;by_cases hv:v=1
   ·rw[if_pos hv]at h;injection h with e1 e2
    subst e1 e2 hv;exact⟨by omega,by simpa using g2⟩
   ·have:v=0:=by omega
    subst this;rw[if_neg hv,Df]at h;obtain⟨h2,h3⟩:=h;refine⟨by omega,?_⟩;rw[show k-m=(k-(m+1))+1 by omega,List.replicate_succ,List.cons_append];exact ax (X:=[0]) |>.2 ⟨m1,g2,h3⟩
  ·rintro ⟨h1,h⟩
   by_cases hk:k=m
   ·subst hk;rw[Nat.sub_self]at h;refine⟨1,n,(bb (s:=1) (by omega)).2 ⟨by omega,?_⟩,by rw[if_pos rfl]⟩;simpa [aF] using h
   ·rw[show k-m=(k-(m+1))+1 by omega,List.replicate_succ,List.cons_append]at h;obtain⟨m1,k1,k2⟩:=ax (X:=[0]) |>.1 h;refine⟨0,m1,(bb (s:=1) (by omega)).2 ⟨by omega,by simpa [aF] using k1⟩,?_⟩;rw[if_neg (by omega),Df];exact⟨by omega,k2⟩
theorem Vg {r:List Nat}:∀ {k:Nat},val (List.replicate k 0++r) 0=val r 0
 | 0=>rfl
 | k+1=>by rw[List.replicate_succ,List.cons_append,val];exact Vg
theorem U9 {k hi:Nat}(h:hi<2 ^ k):aF (2 ^ k+hi) (2*k+1)=List.replicate k 0++[1]++aF hi k:=by
 have hb:bin (List.replicate k 0++(1::aF hi k)):=by
  intro x hx;rcases List.mem_append.1 hx with h | h
  ·have:=List.eq_of_mem_replicate h;omega
  ·rcases List.mem_cons.1 h with h | h
   ·omega
   ·exact Jy x h
 have h1:=Tm (n:=0) hb;rw[Vg,val,E2,Nat.mod_eq_of_lt h,List.length_append,List.length_replicate,List.length_cons,ti]at h1;rw[List.append_assoc,List.singleton_append,←h1]
 congr 1
 all_goals omega
theorem acy {n k:Nat}(h1:2 ^ k≤n) (h2:n<2 ^ (k+1)):gS n=k+1:=by
 have hp:=Nat.two_pow_pos k;have a:=Sk (n:=n);have b:=Ua (n:=n) (by omega);rcases Nat.lt_trichotomy (gS n) (k+1) with h | h | h
 ·have:=Nat.pow_le_pow_right (n:=2) (by omega) (show gS n≤k by omega);omega
 ·exact h
 ·have:=Nat.pow_le_pow_right (n:=2) (by omega) (show k+1≤gS n-1 by omega);omega
theorem xj {id:Nat}(hid:jR id) {b:List Nat}{a e n:Nat}:sI id b (a:Int)=.ok e n↔e<aA id∧At b a n (Au id e):=by
 obtain⟨r1,r2,r3⟩:=aah id (ft hid);have hl:=(RN id (ft hid)).1;have hm:aA id≤300:=by have:=qx id (ft hid);omega
 have hP:1≤2 ^ bm id:=Nat.two_pow_pos _;rw[sI,ak];unfold Au;constructor
 ·rintro ⟨k,n1,h1,h⟩
  obtain⟨⟨_,k9⟩,g1⟩:=Df.1 h1;obtain⟨hi,n2,h2,h⟩:=ak.1 h;obtain⟨g2,g3⟩:=(bb (by omega)).1 h2;obtain⟨lo,n3,h3,h⟩:=ak.1 h;obtain⟨g4,g5⟩:=(bb (by omega)).1 h3;by_cases hx:(bc id).length≤(2 ^ k+hi-1)*2 ^ bm id+lo
  ·rw[if_pos hx]at h;exact absurd h (by simp)
  rw[if_neg hx]at h;injection h with e1 e2
  subst e1 e2;have hk:=Nat.two_pow_pos k;have he:=UA hid (e:=(2 ^ k+hi-1)*2 ^ bm id+lo) (by omega);have hlt:nth (bc id) ((2 ^ k+hi-1)*2 ^ bm id+lo)<aA id:=(CP (by have:=hid.2;omega)).2.2.2 _ (ig (by omega));refine⟨hlt,?_⟩;rw[he.2];have d1:((2 ^ k+hi-1)*2 ^ bm id+lo) / 2 ^ bm id=2 ^ k+hi-1:=by
   rw[Nat.add_comm,Nat.add_mul_div_right _ _ hP,Nat.div_eq_of_lt g4,Nat.zero_add]
  have d2:((2 ^ k+hi-1)*2 ^ bm id+lo) % 2 ^ bm id=lo:=by
   rw[Nat.add_comm,Nat.add_mul_mod_self_right,Nat.mod_eq_of_lt g4]
  rw[d1,d2,show 2 ^ k+hi-1+1=2 ^ k+hi by omega,acy (k:=k) (by omega) (by rw[Nat.pow_succ];omega),show 2*(k+1)-1=2*k+1 by omega,U9 g2];exact ax.2 ⟨n2,ax.2 ⟨n1,g1,g3⟩,g5⟩
 ·rintro ⟨he,h⟩
  have hr:=aoh hid he;have hf:=(UA hid he).1;generalize nth (cJ id) e=r at *;have hq:1≤r / 2 ^ bm id+1:=Nat.le_add_left _ _;have hdv:r / 2 ^ bm id≤r:=Nat.div_le_self _ _;have hdm:=Nat.div_add_mod r (2 ^ bm id);have hmod:r % 2 ^ bm id<2 ^ bm id:=Nat.mod_lt _ hP;generalize r / 2 ^ bm id=q at *;generalize r % 2 ^ bm id=lo at *;have l1:=Sk (n:=q+1);have l2:=Ua (n:=q+1) (by omega);have l0:1≤gS (q+1):=by
   rcases Nat.eq_zero_or_pos (gS (q+1)) with h0 | h0
   ·rw[h0]at l1;omega
   ·exact h0
  obtain⟨k,hk⟩:∃ k,gS (q+1)=k+1:=⟨gS (q+1)-1,by omega⟩
  rw[hk]at l1 l2 h;rw[Nat.add_sub_cancel]at l2;rw[Nat.pow_succ]at l1;have k9:k<10:=by
   rcases Nat.lt_or_ge k 10 with h | h
   ·exact h
   ·have:=Nat.pow_le_pow_right (n:=2) (by omega) h;omega
  obtain⟨hi,hhi⟩:∃ hi,q+1=2 ^ k+hi:=⟨q+1-2 ^ k,by omega⟩
  have hh:hi<2 ^ k:=by omega
  rw[show 2*(k+1)-1=2*k+1 by omega,hhi,U9 hh]at h;obtain⟨n2,j1,j2⟩:=ax.1 h;obtain⟨n1,j3,j4⟩:=ax.1 j1;have ei:(2 ^ k+hi-1)*2 ^ bm id+lo=r:=by rw[←hhi,Nat.add_sub_cancel,Nat.mul_comm];omega
  refine⟨k,n1,Df.2 ⟨by omega,by simpa using j3⟩,ak.2 ⟨hi,n2,(bb (by omega)).2 ⟨hh,j4⟩,ak.2 ⟨lo,n,(bb (by omega)).2 ⟨hmod,j2⟩,?_⟩⟩⟩;rw[ei,if_neg (by omega),hf]
theorem Jx {low:Int}{w:Nat}{v:Int}:∀ {l:List Int}{n:Nat},rM low w (l++[v]) n=rM low w l n*w+(v-low).toNat
 | [],n=>rfl
 | x::r,n=>by rw[List.cons_append,rM,rM,Jx]
theorem UB {low:Int}{w:Nat}(hw:1≤w):∀ {d e:Nat},e<w ^ d→rM low w (im low w d e) 0=e
 | 0,e,h=>by rw[Nat.pow_zero]at h;rw[im,rM];omega
 | d+1,e,h=>by
  rw[im,Jx,UB hw (by rw[Nat.pow_succ]at h;exact Nat.div_lt_of_lt_mul (by rwa [Nat.mul_comm])),show ((e % w:Nat):Int)+low-low=((e % w:Nat):Int) by omega,Int.toNat_natCast,Nat.mul_comm];exact Nat.div_add_mod e w
theorem ZR {low:Int}{w:Nat}(hw:1≤w):∀ (r:List Int),(∀ v∈r,low≤v∧v<low+w)→im low w r.reverse.length (rM low w r.reverse 0)=r.reverse
 | [],_=>rfl
 | v::r,h=>by
  have ih:=ZR hw r fun x hx=>h x (.tail _ hx)
  have hv:=h v (.head _);rw[List.reverse_cons,List.length_append,List.length_singleton,Jx,im];have hx:(v-low).toNat<w:=by omega
  rw[Nat.add_comm (_*w),Nat.add_mul_div_right _ _ hw,Nat.div_eq_of_lt hx,Nat.zero_add,ih,Nat.add_mul_mod_self_right,Nat.mod_eq_of_lt hx]
  congr 2
  omega
theorem af1 {low:Int}{w:Nat}(hw:1≤w) {l:List Int}(h:∀ v∈l,low≤v∧v<low+w):im low w l.length (rM low w l 0)=l:=by
 have:=ZR hw l.reverse fun v hv=>h v (List.mem_reverse.1 hv)
 rwa [List.reverse_reverse]at this
def UI:List Int→List Nat→List Nat
 | v::r,s::ss=>(if v=0 then [] else [s])++UI r ss
 | _,_=>[]
def PJ:List Int→List Nat→Prop
 | v::r,s::ss=>(s≤1∧(v=0→s=0))∧PJ r ss
 | [],[]=>True
 | _,_=>False
theorem Qw {s:Nat}(h:s≤1):aF s 1=[s]:=by simp[aF];omega
theorem tL {b:List Nat}:∀ {vs:List Int}{ss:List Nat}{a n:Nat},a≤b.length→(fW b vs a=.ok ss n↔PJ vs ss∧At b a n (UI vs ss))
 | [],ss,a,n,ha=>by
  rw[fW];constructor
  ·intro h;injection h with e1 e2
   subst e1 e2;exact⟨trivial,bZ.2 ⟨rfl,ha⟩⟩
  ·rintro ⟨h1,h2⟩
   cases ss with
   | nil=>rw[(bZ.1 h2).1]
   | cons s ss=>exact absurd h1 (by simp[PJ])
 | v::r,ss,a,n,ha=>by
  rw[fW];by_cases hv:v=0
  ·rw[if_pos hv,ak];constructor
   ·rintro ⟨l,m,h1,h⟩
    injection h with e1 e2
    subst e1 e2;obtain⟨g1,g2⟩:=(tL ha).1 h1;exact⟨⟨⟨by omega,fun _=>rfl⟩,g1⟩,by rw[UI,if_pos hv];exact g2⟩
   ·rintro ⟨h1,h2⟩
    cases ss with
    | nil=>exact absurd h1 (by simp[PJ])
    | cons s ss =>
     have:=h1.1.2 hv;subst this;rw[UI,if_pos hv]at h2;exact⟨ss,n,(tL ha).2 ⟨h1.2,h2⟩,rfl⟩
  ·rw[if_neg hv,ak];constructor
   ·rintro ⟨s,m,h1,h⟩
    obtain⟨g1,g2⟩:=(bb (s:=1) (by omega)).1 h1;rw[Qw (by omega)]at g2;obtain⟨l,m2,h2,h⟩:=ak.1 h;injection h with e1 e2
    subst e1 e2;obtain⟨g3,g4⟩:=(tL (bv g2).2.1).1 h2;exact⟨⟨⟨by omega,fun h=>absurd h hv⟩,g3⟩,by rw[UI,if_neg hv];exact ax.2 ⟨m,g2,g4⟩⟩
   ·rintro ⟨h1,h2⟩
    cases ss with
    | nil=>exact absurd h1 (by simp[PJ])
    | cons s ss =>
     rw[UI,if_neg hv]at h2;obtain⟨m,k1,k2⟩:=ax.1 h2;have hs:=h1.1.1;exact⟨s,m,(bb (s:=1) (by omega)).2 ⟨by omega,by rw[Qw hs];exact k1⟩,ak.2 ⟨ss,n,(tL (bv k1).2.1).2 ⟨h1.2,k2⟩,rfl⟩⟩
theorem Ga {b:List Nat}:∀ {f m a k n:Nat},qp b f m a=.ok k n↔(m≤k∧k<m+f)∧At b a n (List.replicate (k-m) 1++[0])
 | 0,m,a,k,n=>by
  rw[qp];exact⟨fun h=>absurd h (by simp),fun h=>by omega⟩
 | f+1,m,a,k,n=>by
  rw[qp,ak];constructor
  ·rintro ⟨v,m1,h1,h⟩
   obtain⟨g1,g2⟩:=(bb (s:=1) (by omega)).1 h1;rw[Qw (by omega)]at g2;by_cases hv:v=1
   ·subst hv;rw[if_pos rfl,Ga]at h;obtain⟨h2,h3⟩:=h;refine⟨by omega,?_⟩;rw[show k-m=(k-(m+1))+1 by omega,List.replicate_succ,List.cons_append];exact ax (X:=[1]) |>.2 ⟨m1,g2,h3⟩
   ·have:v=0:=by omega
    subst this;rw[if_neg hv]at h;injection h with e1 e2
    subst e1 e2;exact⟨by omega,by simpa using g2⟩
  ·rintro ⟨h1,h⟩
   by_cases hk:k=m
   ·subst hk;rw[Nat.sub_self]at h;refine⟨0,n,(bb (s:=1) (by omega)).2 ⟨by omega,?_⟩,by rw[if_neg (by omega)]⟩;simpa [aF] using h
   ·rw[show k-m=(k-(m+1))+1 by omega,List.replicate_succ,List.cons_append]at h;obtain⟨m1,k1,k2⟩:=ax (X:=[1]) |>.1 h;refine⟨1,m1,(bb (s:=1) (by omega)).2 ⟨by omega,by simpa [aF] using k1⟩,?_⟩;rw[if_pos rfl,Ga];exact⟨by omega,k2⟩
abbrev ajH (x:Nat):List Nat:=List.replicate (gS x-5) 1++(0::aF (x % 2 ^ (gS x-1)) (gS x-1))
theorem acH {b:List Nat}{a x n:Nat}:Gp b a=.ok x n↔(16≤x∧x≤8191)∧At b a n (ajH x):=by
 rw[Gp,ak];constructor
 ·rintro ⟨m,n1,h1,h⟩
  obtain⟨⟨_,m9⟩,g1⟩:=Ga.1 h1;obtain⟨y,n2,h2,h⟩:=ak.1 h;obtain⟨g2,g3⟩:=(bb (by omega)).1 h2;injection h with e1 e2
  subst e1 e2;have p1:=Nat.pow_le_pow_right (n:=2) (by omega) (show 4≤m+4 by omega);have p2:=Nat.pow_le_pow_right (n:=2) (by omega) (show m+4≤12 by omega);have hl:=acy (n:=2 ^ (m+4)+y) (k:=m+4) (by omega) (by have:2 ^ (m+4+1)=2 ^ (m+4)*2:=Nat.pow_succ _ _;omega);refine⟨by omega,?_⟩;unfold ajH;rw[hl,show m+4+1-5=m by omega,Nat.add_sub_cancel,Nat.add_mod_left,Nat.mod_eq_of_lt g2];have:List.replicate m 1++(0::aF y (m+4))=(List.replicate m 1++[0])++aF y (m+4):=by simp
  rw[this];exact ax.2 ⟨n1,by simpa using g1,g3⟩
 ·rintro ⟨⟨h1,h2⟩,h⟩
  have l1:=Sk (n:=x);have l2:=Ua (n:=x) (by omega);have k5:5≤gS x:=by
   rcases Nat.lt_or_ge (gS x) 5 with h | h
   ·have:=Nat.pow_le_pow_right (n:=2) (by omega) (show gS x≤4 by omega);omega
   ·exact h
  have k13:gS x≤13:=by
   rcases Nat.lt_or_ge 13 (gS x) with h | h
   ·have:=Nat.pow_le_pow_right (n:=2) (by omega) (show 13≤gS x-1 by omega);omega
   ·exact h
  obtain⟨m,hm⟩:∃ m,gS x=m+5:=⟨gS x-5,by omega⟩
  unfold ajH at h;rw[hm]at h l1 l2;rw[show m+5-1=m+4 by omega]at h l2;have l3:2 ^ (m+5)=2 ^ (m+4)*2:=Nat.pow_succ _ _;rw[Nat.add_sub_cancel]at h;have:List.replicate m 1++(0::aF (x % 2 ^ (m+4)) (m+4))=(List.replicate m 1++[0])++aF (x % 2 ^ (m+4)) (m+4):=by simp
  rw[this]at h;obtain⟨n1,j1,j2⟩:=ax.1 h;have hx:x % 2 ^ (m+4)=x-2 ^ (m+4):=by rw[Nat.mod_eq_sub_mod l2,Nat.mod_eq_of_lt (by omega)]
  refine⟨m,n1,Ga.2 ⟨by omega,by simpa using j1⟩,ak.2 ⟨x % 2 ^ (m+4),n,(bb (by omega)).2 ⟨by omega,j2⟩,?_⟩⟩;rw[hx]
  congr 1
  omega
def sgn (v:Int):Nat:=if v<0 then 1 else 0
theorem wT {b:List Nat}{id:Nat}{M:Nat}(hM:id=11→M=8191):∀ {vs:List Int}{ss:List Nat}{l:List Int}{a n:Nat},a≤b.length→PJ vs ss→(∀ v∈vs,0≤v∧(id=11→v≤16)∧(id≠11→v≤M))→
  (io b id vs ss a=.ok l n↔(vs=l.map (oL id)∧ss=l.map sgn∧∀ v∈l,v.natAbs≤M)∧At b a n (l.flatMap (Sf id)))
 | [],[],l,a,n,ha,hs,hv=>by
  have e0:io b id [] [] a=.ok [] a:=by simp[io]
  rw[e0];constructor
  ·intro h;injection h with e1 e2
   subst e1 e2;exact⟨⟨rfl,rfl,by simp⟩,bZ.2 ⟨rfl,ha⟩⟩
  ·rintro ⟨⟨h1,h2,_⟩,h3⟩
   cases l with
   | nil=>rw[(bZ.1 h3).1]
   | cons x r=>exact absurd h1 (by simp)
 | [],s::ss,l,a,n,ha,hs,hv=>absurd hs (by simp[PJ])
 | v::r,[],l,a,n,ha,hs,hv=>absurd hs (by simp[PJ])
 | v::r,s::ss,l,a,n,ha,hs,hv=>by
  obtain⟨⟨s1,s2⟩,hs⟩:=hs;obtain⟨v0,v11,vM⟩:=hv v (.head _);have hv:=fun x hx=>hv x (.tail _ hx)
  have sg1:∀ x:Int,0≤x→(x=0→s=0)→sgn (sg s x)=s∧(sg s x).natAbs=x.toNat:=fun x h0 h1=>by
   unfold sgn sg;by_cases h:s=1
   ·rw[if_pos h,if_pos (by omega)];omega
   ·rw[if_neg h,if_neg (by omega)];omega
  have sg2:∀ (y:Int),s=sgn y→sg s (y.natAbs:Int)=y:=fun y h=>by
   unfold sgn at h;unfold sg;by_cases h2:y<0
   ·rw[if_pos h2]at h;rw[if_pos h];omega
   ·rw[if_neg h2]at h;rw[if_neg (by omega)];omega
  rw[io];by_cases hg:id=11∧v=16
  ·rw[if_pos hg,ak];obtain⟨h11,hv16⟩:=hg;constructor
   ·rintro ⟨x,m,h1,h⟩
    obtain⟨g1,g2⟩:=acH.1 h1;obtain⟨l2,m2,h2,h⟩:=ak.1 h;injection h with e1 e2
    subst e1 e2;obtain⟨⟨g3,g4,g5⟩,g6⟩:=(wT hM (bv g2).2.1 hs hv).1 h2;obtain⟨q1,q2⟩:=sg1 x (by omega) (by omega);have q3:(sg s (x:Int)).natAbs=x:=by omega
    refine⟨⟨?_,?_,?_⟩,?_⟩
    ·rw[List.map_cons,←g3,oL,if_pos (by omega),hv16]
    ·rw[List.map_cons,←g4,q1]
    ·intro y hy;rcases List.mem_cons.1 hy with rfl | hy
     ·rw[q3,hM h11];omega
     ·exact g5 y hy
    ·rw[List.flatMap_cons,Sf,if_pos (by omega),q3];exact ax.2 ⟨m,g2,g6⟩
   ·rintro ⟨⟨h1,h2,h3⟩,h4⟩
    cases l with
    | nil=>exact absurd h1 (by simp)
    | cons y l =>
     rw[List.map_cons]at h1 h2;injection h1 with h1 h1t
     injection h2 with h2 h2t
     have hy:=h3 y (.head _);rw[hM h11]at hy;have h16:16≤y.natAbs:=by
      rw[oL]at h1;by_cases h:id=11∧16≤y.natAbs
      ·exact h.2
      ·rw[if_neg h]at h1;omega
     rw[List.flatMap_cons,Sf,if_pos ⟨h11,h16⟩]at h4;obtain⟨m,k1,k2⟩:=ax.1 h4;refine⟨y.natAbs,m,acH.2 ⟨by omega,k1⟩,ak.2 ⟨l,n,(wT hM (bv k1).2.1 hs hv).2 ⟨⟨h1t,h2t,fun z hz=>h3 z (.tail _ hz)⟩,k2⟩,?_⟩⟩;rw[sg2 y h2]
  ·rw[if_neg hg,ak];constructor
   ·rintro ⟨l2,m,h1,h⟩
    injection h with e1 e2
    subst e1 e2;obtain⟨⟨g3,g4,g5⟩,g6⟩:=(wT hM ha hs hv).1 h1;obtain⟨q1,q2⟩:=sg1 v v0 s2;have hng:¬ (id=11∧16≤(sg s v).natAbs):=by omega
    refine⟨⟨?_,?_,?_⟩,?_⟩
    ·rw[List.map_cons,←g3,oL,if_neg hng];congr 1;omega
    ·rw[List.map_cons,←g4,q1]
    ·intro y hy;rcases List.mem_cons.1 hy with rfl | hy
     ·by_cases h11:id=11
      ·have:=hM h11;have:=v11 h11;omega
      ·have:=vM h11;omega
     ·exact g5 y hy
    ·rw[List.flatMap_cons,Sf,if_neg hng,List.nil_append];exact g6
   ·rintro ⟨⟨h1,h2,h3⟩,h4⟩
    cases l with
    | nil=>exact absurd h1 (by simp)
    | cons y l =>
     rw[List.map_cons]at h1 h2;injection h1 with h1 h1t
     injection h2 with h2 h2t
     have hng:¬ (id=11∧16≤y.natAbs):=fun h=>by
      rw[oL,if_pos h]at h1;exact hg ⟨h.1,h1⟩
     rw[oL,if_neg hng]at h1;rw[List.flatMap_cons,Sf,if_neg hng,List.nil_append]at h4;refine⟨l,n,(wT hM ha hs hv).2 ⟨⟨h1t,h2t,fun z hz=>h3 z (.tail _ hz)⟩,h4⟩,?_⟩;rw[h1,sg2 y h2]
theorem YD {id:Nat}{v:Int}:oL id v=0↔v=0:=by
 unfold oL;by_cases h:id=11∧16≤v.natAbs
 ·rw[if_pos h];omega
 ·rw[if_neg h];omega
theorem TF {id:Nat}:∀ {l:List Int},UI (l.map (oL id)) (l.map sgn)=l.flatMap afa
 | []=>rfl
 | v::r=>by
  rw[List.map_cons,List.map_cons,UI,TF,List.flatMap_cons]
  congr 1
  unfold afa sgn;by_cases h:v=0
  ·rw[if_pos (YD.2 h),if_pos h]
  ·rw[if_neg (fun h2=>h (YD.1 h2)),if_neg h];split<;>rfl
theorem SI {id:Nat}:∀ {l:List Int},PJ (l.map (oL id)) (l.map sgn)
 | []=>trivial
 | v::r=>⟨⟨by unfold sgn;split<;>omega,fun h=>by rw[YD]at h;subst h;rfl⟩,SI⟩
theorem aml:sD 11=8191:=by decide +kernel
theorem akS {id:Nat}(hid:1≤id∧id≤11) {b:List Nat}{a n:Nat}{l:List Int}:xV id b (a:Int)=.ok l n↔aj3 id l∧At b a n (WB id l):=by
 have hok:jR id:=⟨hid.1,by omega⟩
 obtain⟨m1,m2,m3,m4⟩:=Fw id (afs hid);obtain⟨k1,k2,k3,k4,k5,k6,k7⟩:=qx id (ft hok);have hmany:aA id=cM id ^ cL id:=rfl;have lt:∀ {vs:List Int},PP id vs→rM (cw id) (cM id) vs 0<aA id:=fun {vs} h=>by
  have:=adc (n:=0) (j:=0) h.2 (by simp);rw[Nat.zero_add,h.1,←hmany]at this;exact this
 have back:∀ {vs:List Int},PP id vs→iR id (rM (cw id) (cM id) vs 0)=vs:=fun {vs} h=>by
  have:=af1 k3 h.2;rw[h.1]at this;exact this
 have forth:∀ {e:Nat},e<aA id→rM (cw id) (cM id) (iR id e) 0=e∧∀ v∈iR id e,cw id≤v∧v<cw id+cM id:=fun {e} h=>⟨UB k3 (by rwa [←hmany]),Br k3⟩
 rw[xV,ak];unfold WB;by_cases hs:jM id=true
 ·simp only[if_pos hs];obtain⟨q1,q2⟩:=m1 hs;constructor
  ·rintro ⟨e,m,h1,h⟩
   obtain⟨g1,g2⟩:=(xj hok).1 h1;injection h with e1 e2
   subst e1 e2;obtain⟨f1,f2⟩:=forth g1;refine⟨⟨by rw[xZ,m3],fun v hv=>by have:=f2 v hv;omega⟩,?_⟩;rw[f1];exact g2
  ·rintro ⟨h1,h2⟩
   have hi:=(Xl hid h1).1 hs;exact⟨_,n,(xj hok).2 ⟨lt hi,h2⟩,by rw[back hi]⟩
 ·have hs2:jM id=false:=by simpa using hs
  simp only[if_neg hs];obtain⟨q1,q2,q3⟩:=m2 hs2;have h11:id=11→sD id=8191:=fun h=>by rw[h];exact aml
  constructor
  ·rintro ⟨e,m,h1,h⟩
   obtain⟨g1,g2⟩:=(xj hok).1 h1;obtain⟨ss,m2,h2,h⟩:=ak.1 h;obtain⟨g3,g4⟩:=(tL (bv g2).2.1).1 h2;obtain⟨f1,f2⟩:=forth g1;have hv:∀ v∈iR id e,0≤v∧(id=11→v≤16)∧(id≠11→v≤sD id):=fun v hv=>by
    have:=f2 v hv;refine⟨by omega,fun h=>by have:=q3 h;omega,fun h=>by have:=q2 h;omega⟩
   obtain⟨⟨g5,g6,g7⟩,g8⟩:=(wT h11 (bv g4).2.1 g3 hv).1 h;have hl:l.length=bp id:=by
    have:=congrArg List.length g5;rw[xZ,List.length_map]at this;omega
   refine⟨⟨hl,g7⟩,ax.2 ⟨m,?_,ax.2 ⟨m2,?_,g8⟩⟩⟩
   ·rw[←g5,f1];exact g2
   ·rw[←TF (id:=id),←g5,←g6];exact g4
  ·rintro ⟨h1,h2⟩
   have hi:=(Xl hid h1).2 hs2;obtain⟨m,j1,j2⟩:=ax.1 h2;obtain⟨p,j3,j4⟩:=ax.1 j2;have hv:∀ v∈l.map (oL id),0≤v∧(id=11→v≤16)∧(id≠11→v≤sD id):=fun v hv=>by
    have:=hi.2 v hv;refine⟨by omega,fun h=>by have:=q3 h;omega,fun h=>by have:=q2 h;omega⟩
   refine⟨_,m,(xj hok).2 ⟨lt hi,j1⟩,?_⟩;rw[back hi];refine ak.2 ⟨l.map sgn,p,(tL (bv j1).2.1).2 ⟨SI,by rw[TF];exact j3⟩,?_⟩;exact(wT h11 (bv j3).2.1 SI hv).2 ⟨⟨rfl,rfl,h1.2⟩,j4⟩
theorem amz:aA 12=121:=by decide +kernel
theorem acV {b:List Nat}{a n:Nat}{d:Int}:A9 b (a:Int)=.ok d n↔(-60≤d∧d≤60)∧At b a n (Au 12 (d+60).toNat):=by
 have hok:jR 12:=by omega
 have h12:=amz;rw[A9,ak];constructor
 ·rintro ⟨e,m,h1,h⟩
  obtain⟨g1,g2⟩:=(xj hok).1 h1;injection h with e1 e2
  subst e1 e2;refine⟨by omega,?_⟩;rw[show ((e:Int)-60+60).toNat=e by omega];exact g2
 ·rintro ⟨h1,h2⟩
  refine⟨(d+60).toNat,n,(xj hok).2 ⟨by omega,h2⟩,?_⟩
  congr 1
  omega
theorem KH {b:List Nat}{a n:Nat}{k w v:Int}(hw:w<0→k=13):gw b (a:Int) k w=.ok v n↔((0≤v∧v≤lV k)∧(w<0∨(w-60≤v∧v≤w+60)))∧At b a n (if w<0 then aF v.toNat 9 else Au 12 (v-w+60).toNat):=by
 rw[gw];by_cases h0:w<0
 ·have hk:=hw h0;have hm:lV k=511:=if_pos hk;rw[if_pos h0,if_pos h0,ak,hm];constructor
  ·rintro ⟨x,m,h1,h⟩
   obtain⟨g1,g2⟩:=(bb (s:=9) (by omega)).1 h1;injection h with e1 e2
   subst e1 e2;exact⟨⟨by omega,.inl h0⟩,by simpa using g2⟩
  ·rintro ⟨⟨h1,_⟩,h2⟩
   exact⟨v.toNat,n,(bb (s:=9) (by omega)).2 ⟨by omega,h2⟩,by congr 1;omega⟩
 ·rw[if_neg h0,if_neg h0,ak];constructor
  ·rintro ⟨d,m,h1,h⟩
   obtain⟨g1,g2⟩:=acV.1 h1;by_cases hx:w+d<0∨lV k<w+d
   ·rw[if_pos hx]at h;exact absurd h (by simp)
   rw[if_neg hx]at h;injection h with e1 e2
   subst e1 e2;refine⟨⟨by omega,.inr (by omega)⟩,?_⟩;rw[show w+d-w+60=d+60 by omega];exact g2
  ·rintro ⟨⟨h1,h2⟩,h3⟩
   refine⟨v-w,n,acV.2 ⟨by omega,h3⟩,?_⟩;rw[if_neg (by omega)]
   congr 1
   omega
theorem s13 {v w z:Int}:GI 13 v w z=if z<0 then aF v.toNat 9 else Au 12 (v-z+60).toNat:=by rw[GI,if_neg (by decide),if_pos rfl]
theorem t13 {v w z:Int}:zY 13 v w z=(w,v):=by rw[zY,if_neg (by decide),if_pos rfl]
theorem tI {b:List Nat}:∀ {r:List Int}{t:List Int}{a n:Nat}{w z w2 z2:Int},a≤b.length→(∀ k∈r,0≤k)→0≤w→
  (jW b r (a:Int) w z=.ok (t,w2,z2) n↔i9 r t w z=some (w2,z2)∧At b a n (Gu r t w z))
 | [],t,a,n,w,z,w2,z2,ha,hr,hw=>by
  rw[jW,Int.toNat_natCast];constructor
  ·intro h;injection h with e1 e2
   injection e1 with e1 e3
   injection e3 with e3 e4
   subst e1 e2 e3 e4;exact⟨rfl,bZ.2 ⟨rfl,ha⟩⟩
  ·rintro ⟨h1,h2⟩
   cases t with
   | nil =>
    injection h1 with h1
    injection h1 with e1 e2
    subst e1 e2;rw[(bZ.1 h2).1]
   | cons x t=>exact absurd h1 (by simp[i9])
 | k::r,t,a,n,w,z,w2,z2,ha,hr,hw=>by
  have hk:=hr k (.head _);have hr2:∀ k∈r,0≤k:=fun x hx=>hr x (.tail _ hx)
  rw[jW];by_cases h13:k=13
  ·subst h13;rw[if_pos rfl,ak];have hm:lV 13=511:=rfl;constructor
   ·rintro ⟨v,m,h1,h⟩
    obtain⟨g1,g2⟩:=(KH (fun _=>rfl)).1 h1;obtain⟨⟨t2,u2,y2⟩,m2,h2,h⟩:=ak.1 h;injection h with e1 e2
    injection e1 with e1 e3
    injection e3 with e3 e4
    simp only at e1 e3 e4;subst e1 e2 e3 e4;obtain⟨g3,g4⟩:=(tI (bv g2).2.1 hr2 hw).1 h2;refine⟨?_,?_⟩
    ·rw[i9,if_neg (by decide),if_pos (by unfold mD;rw[if_pos rfl];omega),if_pos rfl];exact g3
    ·rw[Gu,s13,t13];exact ax.2 ⟨m,g2,g4⟩
   ·rintro ⟨h1,h2⟩
    cases t with
    | nil=>exact absurd h1 (by simp[i9])
    | cons v t =>
     obtain⟨c1,c2,c3⟩:=yo (by rw[h1];simp);have hT:=c2 (by decide);unfold mD at hT;rw[if_pos rfl]at hT;rw[c3,zY,if_neg (by decide),if_pos rfl]at h1;rw[Gu,s13,t13]at h2;obtain⟨m,j1,j2⟩:=ax.1 h2;exact⟨v,m,(KH (fun _=>rfl)).2 ⟨by omega,j1⟩,ak.2 ⟨(t,w2,z2),n,(tI (bv j1).2.1 hr2 hw).2 ⟨h1,j2⟩,rfl⟩⟩
  ·rw[if_neg h13];by_cases h0:0<k
   ·have hm:lV k=255:=if_neg h13;have hk0:¬ k=0:=by omega
    rw[if_pos h0,ak];constructor
    ·rintro ⟨v,m,h1,h⟩
     obtain⟨g1,g2⟩:=(KH (fun h=>by omega)).1 h1;obtain⟨⟨t2,u2,y2⟩,m2,h2,h⟩:=ak.1 h;injection h with e1 e2
     injection e1 with e1 e3
     injection e3 with e3 e4
     simp only at e1 e3 e4;subst e1 e2 e3 e4;rw[if_neg (by omega)]at g2;obtain⟨g3,g4⟩:=(tI (bv g2).2.1 hr2 g1.1.1).1 h2;refine⟨?_,?_⟩
     ·rw[i9,if_neg hk0,if_pos (by unfold mD;rw[if_neg h13];omega),if_neg h13];exact g3
     ·rw[Gu,GI,if_neg hk0,if_neg h13,zY,if_neg hk0,if_neg h13];exact ax.2 ⟨m,g2,g4⟩
    ·rintro ⟨h1,h2⟩
     cases t with
     | nil=>exact absurd h1 (by simp[i9])
     | cons v t =>
      obtain⟨c1,c2,c3⟩:=yo (by rw[h1];simp);have hT:=c2 hk0;unfold mD at hT;rw[if_neg h13]at hT;rw[c3,zY,if_neg hk0,if_neg h13]at h1;rw[Gu,GI,if_neg hk0,if_neg h13,zY,if_neg hk0,if_neg h13]at h2;obtain⟨m,j1,j2⟩:=ax.1 h2;exact⟨v,m,(KH (fun h=>by omega)).2 ⟨by omega,by rw[if_neg (by omega)];exact j1⟩,ak.2 ⟨(t,w2,z2),n,(tI (bv j1).2.1 hr2 hT.1.1).2 ⟨h1,j2⟩,rfl⟩⟩
   ·have hk0:k=0:=by omega
    subst hk0;rw[if_neg h0,ak];constructor
    ·rintro ⟨⟨t2,u2,y2⟩,m2,h2,h⟩
     injection h with e1 e2
     injection e1 with e1 e3
     injection e3 with e3 e4
     simp only at e1 e3 e4;subst e1 e2 e3 e4;obtain⟨g3,g4⟩:=(tI ha hr2 hw).1 h2;refine⟨?_,?_⟩
     ·rw[i9,if_pos rfl,if_pos rfl];exact g3
     ·rw[Gu,GI,if_pos rfl,zY,if_pos rfl,List.nil_append];exact g4
    ·rintro ⟨h1,h2⟩
     cases t with
     | nil=>exact absurd h1 (by simp[i9])
     | cons v t =>
      obtain⟨c1,c2,c3⟩:=yo (by rw[h1];simp);have:=c1 rfl;subst this;rw[c3,zY,if_pos rfl]at h1;rw[Gu,GI,if_pos rfl,zY,if_pos rfl,List.nil_append]at h2;exact⟨(t,w2,z2),n,(tI ha hr2 hw).2 ⟨h1,h2⟩,rfl⟩
theorem W0:∀ {r t:List Int}{w z w2 z2:Int},0≤w→i9 r t w z=some (w2,z2)→0≤w2
 | [],[],w,z,w2,z2,hw,h=>by
  injection h with h
  injection h with e1 e2
  omega
 | [],_::_,w,z,w2,z2,hw,h=>absurd h (by simp[i9])
 | _::_,[],w,z,w2,z2,hw,h=>absurd h (by simp[i9])
 | k::r,v::t,w,z,w2,z2,hw,h=>by
  obtain⟨c1,c2,c3⟩:=yo (by rw[h];simp);rw[c3]at h;refine W0 ?_ h;unfold zY;by_cases h0:k=0
  ·rw[if_pos h0];exact hw
  ·rw[if_neg h0];have:=c2 h0;unfold mD at this;split
   ·exact hw
   ·rename_i h13;rw[if_neg h13]at this;exact this.1.1
theorem Je {b:List Nat}:∀ {g:List (List aG)}{t:List (List Int)}{a n:Nat}{w z:Int},a≤b.length→(∀ l∈g,∀ k∈aL l,0≤k)→0≤w→
  (jo b g (a:Int) w z=.ok t n↔CU g t w z≠none∧At b a n (K5 g t w z))
 | [],t,a,n,w,z,ha,hr,hw=>by
  rw[jo,Int.toNat_natCast];constructor
  ·intro h;injection h with e1 e2
   subst e1 e2;exact⟨by simp[CU],bZ.2 ⟨rfl,ha⟩⟩
  ·rintro ⟨h1,h2⟩
   cases t with
   | nil=>rw[(bZ.1 h2).1]
   | cons x t=>exact absurd rfl h1
 | l::r,t,a,n,w,z,ha,hr,hw=>by
  have hl:=hr l (.head _);have hr2:∀ q∈r,∀ k∈aL q,0≤k:=fun q hq=>hr q (.tail _ hq)
  rw[jo,ak];constructor
  ·rintro ⟨⟨t1,w1,z1⟩,m,h1,h⟩
   obtain⟨g1,g2⟩:=(tI ha hl hw).1 h1;obtain⟨t2,m2,h2,h⟩:=ak.1 h;injection h with e1 e2
   subst e1 e2;obtain⟨g3,g4⟩:=(Je (bv g2).2.1 hr2 (W0 hw g1)).1 h2;refine⟨?_,?_⟩
   ·rw[CU,g1];exact g3
   ·rw[K5,g1];exact ax.2 ⟨m,g2,g4⟩
  ·rintro ⟨h1,h2⟩
   cases t with
   | nil=>exact absurd rfl h1
   | cons t1 t =>
    rw[CU]at h1;rw[K5]at h2
    cases e:i9 (aL l) t1 w z with
    | none=>rw[e]at h1;exact absurd rfl h1
    | some p =>
     obtain⟨w1,z1⟩:=p;rw[e]at h1 h2;obtain⟨m,j1,j2⟩:=ax.1 h2;exact⟨(t1,w1,z1),m,(tI ha hl hw).2 ⟨e,j1⟩,ak.2 ⟨t,n,(Je (bv j1).2.1 hr2 (W0 hw e)).2 ⟨h1,j2⟩,rfl⟩⟩
theorem ahB {b:List Nat}{g:List (List aG)}{t:List (List Int)}{a n:Nat}{w:Int}(ha:a≤b.length) (hr:∀ l∈g,∀ k∈aL l,0≤k) (hw:0≤w):u4 b g (a:Int) w=.ok t n↔KC w g t∧At b a n (K5 g t w (-1)):=by
 rw[u4,if_pos (by omega),Je ha hr hw]
theorem adh {Z l:List Int}{a i:Nat}(h:a+l.length≤Z.length):(ai Z a l)[i]?=if a≤i∧i<a+l.length then l[i-a]? else Z[i]?:=by
 have h1:(Z.take a).length=a:=by rw[List.length_take];omega
 unfold ai;by_cases h2:i<a
 ·rw[if_neg (by omega),List.append_assoc,List.getElem?_append_left (by omega),List.getElem?_take,if_pos h2]
 ·by_cases h3:i<a+l.length
  ·rw[if_pos (by omega),List.append_assoc,List.getElem?_append_right (by omega),h1,List.getElem?_append_left (by omega)]
  ·rw[if_neg (by omega),List.getElem?_append_right (by rw[List.length_append];omega),List.length_append,h1,List.getElem?_drop]
   congr 1
   omega
abbrev cut (Z:List Int) (p:Nat×Nat):List Int:=(Z.drop p.2).take (bp p.1)
theorem ac4 {Z:List Int}{p:Nat×Nat}{i:Nat}(h:i<bp p.1):(cut Z p)[i]?=Z[p.2+i]?:=by
 rw[cut,List.getElem?_take,if_pos h,List.getElem?_drop]
theorem am6 {Z:List Int}{p:Nat×Nat}(h:p.2+bp p.1≤Z.length):(cut Z p).length=bp p.1:=by
 rw[cut,List.length_take,List.length_drop];omega
theorem agt {os:List Nat}{d b x:Nat}:∀ {k w0 w:Nat},w0≤w→w<w0+k→x∈sc d (nth os (b+1)) 300 (nth os b)→w*32+x∈pP os d b k w0
 | 0,w0,w,h1,h2,_=>by omega
 | k+1,w0,w,h1,h2,h=>by
  rw[pP,List.mem_append];rcases Nat.lt_or_ge w0 w with h3 | h3
  ·exact .inr (agt h3 (by omega) h)
  ·have:w=w0:=by omega
   subst this;exact .inl (List.mem_map.2 ⟨x,h,rfl⟩)
theorem QG (i:az):(cond i.short 32 256:Nat)=i.wide∧((i.wide=32∧i.many=8)∨(i.wide=256∧i.many=1)):=by
 unfold az.short az.wide az.many;by_cases h:i.seq=2
 ·rw[decide_eq_true h,if_pos h,if_pos h];exact⟨rfl,.inl ⟨rfl,rfl⟩⟩
 ·rw[decide_eq_false h,if_neg h,if_neg h];exact⟨rfl,.inr ⟨rfl,rfl⟩⟩
def tJ (b:List Nat) (st s2:RS) (X:List Nat):Prop:=∃ a n:Nat,st=⟨a,0⟩∧s2=⟨n,0⟩∧At b a n X
def adW (b:List Nat) (st:RS):Prop:=∃ a:Nat,st=⟨a,0⟩∧a≤b.length
theorem ee {b:List Nat}{st s2:RS}{X Y:List Nat}:tJ b st s2 (X++Y)↔∃ m,tJ b st m X∧tJ b m s2 Y:=by
 constructor
 ·rintro ⟨a,n,e1,e2,h⟩
  obtain⟨m,h1,h2⟩:=ax.1 h;exact⟨⟨m,0⟩,⟨a,m,e1,rfl,h1⟩,⟨m,n,rfl,e2,h2⟩⟩
 ·rintro ⟨m,⟨a,n,e1,e2,h⟩,⟨a2,n2,e3,e4,h2⟩⟩
  rw[e2]at e3;injection e3 with e3 _
  have:n=a2:=by omega
  subst this;exact⟨a,n2,e1,e4,ax.2 ⟨n,h,h2⟩⟩
theorem tZ {b:List Nat}{st s2:RS}:tJ b st s2 []↔s2=st∧adW b st:=by
 constructor
 ·rintro ⟨a,n,e1,e2,h⟩
  obtain⟨h1,h2⟩:=bZ.1 h;exact⟨by rw[e1,e2,h1],a,e1,h2⟩
 ·intro hh;obtain⟨a,e,h⟩:=hh.2;exact⟨a,a,e,by rw[hh.1,e],bZ.2 ⟨rfl,h⟩⟩
theorem wM {b:List Nat}{st s2:RS}{X:List Nat}(h:tJ b st s2 X):adW b st∧adW b s2∧st.e=0∧s2.e=0:=by
 obtain⟨a,n,e1,e2,h⟩:=h;have:=bv h;exact⟨⟨a,e1,this.1⟩,⟨n,e2,this.2.1⟩,by rw[e1],by rw[e2]⟩
theorem OH {b:List Nat}{st:RS}{s:Nat}(h:(sN b st s).e=0):st.e=0:=by
 unfold sN at h;by_cases h0:st.e=0
 ·exact h0
 ·rw[if_neg h0]at h;exact absurd h h0
theorem D0 {b:List Nat}{st:RS}{s:Nat}(hs:s≤31) (h:(sN b st s).e=0):sV b st s<2 ^ s∧tJ b st (sN b st s) (aF (sV b st s) s):=by
 have h0:=OH h;obtain⟨a,e⟩:=st;simp only at h0;subst h0
 cases hg:aw b a s with
 | er e=>rw[(uU hg).2]at h;exact absurd h (by simp)
 | ok v n =>
  rw[(fV hg).1,(fV hg).2];have ha:=adl hg;obtain⟨A,rfl⟩:=Int.eq_ofNat_of_zero_le ha;obtain⟨g1,g2⟩:=(bb hs).1 hg;exact⟨g1,A,n,rfl,rfl,g2⟩
theorem IA {b:List Nat}{st s2:RS}{s v:Nat}(hs:s≤31) (hv:v<2 ^ s) (h:tJ b st s2 (aF v s)):sV b st s=v∧sN b st s=s2:=by
 obtain⟨a,n,rfl,rfl,h⟩:=h;exact fV ((bb hs).2 ⟨hv,h⟩)
abbrev nx (b:List Nat) (st:RS):Prop:=st.e=0→adW b st
theorem avu {v sz:Nat}(hz:1≤sz) (hv:v<2 ^ sz):(-((2 ^ (sz-1):Nat):Int)≤Iz v sz∧Iz v sz<((2 ^ (sz-1):Nat):Int))∧(Iz v sz % ((2 ^ sz:Nat):Int)).toNat=v:=by
 obtain⟨k,rfl⟩:∃ k,sz=k+1:=⟨sz-1,by omega⟩
 have e:2 ^ (k+1)=2*2 ^ k:=by rw[Nat.pow_succ,Nat.mul_comm]
 have hp:=Nat.two_pow_pos k;unfold Iz;rw[Nat.add_sub_cancel];rw[e]at hv⊢;rcases Nat.lt_or_ge v (2 ^ k) with h | h
 ·rw[Nat.div_eq_of_lt h,Nat.zero_mul];refine⟨by omega,?_⟩;rw[Int.emod_eq_of_lt (by omega) (by omega)];omega
 ·have:v / 2 ^ k=1:=Nat.div_eq_of_lt_le (by omega) (by omega);rw[this,Nat.one_mul];refine⟨by omega,?_⟩;have e3:((v:Int)-((2*2 ^ k:Nat):Int)) % ((2*2 ^ k:Nat):Int)=v:=by
   rw[Int.sub_emod_right,Int.emod_eq_of_lt (by omega) (by omega)]
  rw[e3];omega
theorem awa {c:Int}{sz:Nat}(hz:1≤sz) (h:-((2 ^ (sz-1):Nat):Int)≤c∧c<((2 ^ (sz-1):Nat):Int)):(c % ((2 ^ sz:Nat):Int)).toNat<2 ^ sz∧Iz (c % ((2 ^ sz:Nat):Int)).toNat sz=c:=by
 obtain⟨k,rfl⟩:∃ k,sz=k+1:=⟨sz-1,by omega⟩
 have e:2 ^ (k+1)=2*2 ^ k:=by rw[Nat.pow_succ,Nat.mul_comm]
 have hp:=Nat.two_pow_pos k;rw[Nat.add_sub_cancel]at h;unfold Iz;rw[Nat.add_sub_cancel,e];rcases Int.lt_or_le c 0 with h0 | h0
 ·have e3:c % ((2*2 ^ k:Nat):Int)=c+((2*2 ^ k:Nat):Int):=by
   rw[←Int.add_emod_right,Int.emod_eq_of_lt (by omega) (by omega)]
  rw[e3];have e4:(c+((2*2 ^ k:Nat):Int)).toNat / 2 ^ k=1:=Nat.div_eq_of_lt_le (by omega) (by omega);rw[e4];omega
 ·rw[Int.emod_eq_of_lt (by omega) (by omega),Nat.div_eq_of_lt (by omega)];omega
theorem ao0 {b:List Nat}{sz:Nat}(hz:1≤sz∧sz≤31):∀ {k:Nat}{st:RS},nx b st→(oK b sz k st).e=0→(qU b sz k st).length=k∧(∀ c∈qU b sz k st,-((2 ^ (sz-1):Nat):Int)≤c∧c<((2 ^ (sz-1):Nat):Int))∧tJ b st (oK b sz k st) (Jm sz (qU b sz k st))
 | 0,st,hn,h=>⟨rfl,by simp[qU],tZ.2 ⟨rfl,hn h⟩⟩
 | k+1,st,hn,h=>by
  rw[oK]at h;have hn2:nx b (sN b st sz):=fun h1=>(wM (D0 hz.2 h1).2).2.1
  obtain⟨i1,i2,i3⟩:=ao0 hz (k:=k) hn2 h;obtain⟨j1,j2⟩:=D0 hz.2 (wM i3).2.2.1;obtain⟨v1,v2⟩:=avu hz.1 j1;rw[qU,oK];refine⟨by rw[List.length_cons,i1],fun c hc=>?_,?_⟩
  ·rcases List.mem_cons.1 hc with rfl | hc
   ·exact v1
   ·exact i2 c hc
  ·rw[Jm,List.flatMap_cons,v2];exact ee.2 ⟨_,j2,i3⟩
theorem ao6 {b:List Nat}{sz:Nat}(hz:1≤sz∧sz≤31):∀ {l:List Int}{st s2:RS},(∀ c∈l,-((2 ^ (sz-1):Nat):Int)≤c∧c<((2 ^ (sz-1):Nat):Int))→tJ b st s2 (Jm sz l)→qU b sz l.length st=l∧oK b sz l.length st=s2
 | [],st,s2,hl,h=>⟨rfl,(tZ.1 h).1.symm⟩
 | c::r,st,s2,hl,h=>by
  rw[Jm,List.flatMap_cons]at h;obtain⟨m,h1,h2⟩:=ee.1 h;obtain⟨v1,v2⟩:=awa hz.1 (hl c (.head _));obtain⟨w1,w2⟩:=IA hz.2 v1 h1;obtain⟨i1,i2⟩:=ao6 hz (l:=r) (fun x hx=>hl x (.tail _ hx)) h2;rw[List.length_cons,qU,oK,w1,w2,v2,i1,i2];exact⟨rfl,rfl⟩
theorem aiA {b:List Nat}{sz:Nat}:∀ {k:Nat}{st:RS},(oK b sz k st).e=0→st.e=0
 | 0,_,h=>h
 | k+1,st,h=>by rw[oK]at h;exact OH (aiA h)
theorem KO {b:List Nat}{st:RS}{s:Nat}(hs:s≤31):nx b (sN b st s):=fun h=>(wM (D0 hs h).2).2.1
theorem ao1 {b:List Nat}{sz:Nat}(hz:sz≤31):∀ {k:Nat}{st:RS},nx b st→nx b (oK b sz k st)
 | 0,_,h=>h
 | k+1,st,h=>by rw[oK];exact ao1 hz (KO hz)
theorem agq {fine:Bool}{w:Nat}(hw:w≤1):1≤iu fine-w∧iu fine-w≤31:=by unfold iu;split<;>omega
theorem al4 (fine:Bool) (l:List Int) (s:Nat) (hs:s=iu fine-1):Ap l s=decide (∀ c∈l,-(nh fine / 2)≤c∧c<nh fine / 2):=by
 subst hs
 cases fine<;>rfl
theorem Js (sh:Bool):aiW sh=((2 ^ aX sh:Nat):Int)-1∧aX sh≤31∧aT sh≤31∧eU sh≤31:=by cases sh<;>decide
theorem agF {d:Nat}(h:d<2 ^ 1):pU (decide (d=1))=d:=by
 unfold pU;by_cases h1:d=1
 ·rw[h1];rfl
 ·rw[decide_eq_false h1];simp;omega
theorem av1 {b:List Nat}{sh fine:Bool}{st:RS}(hO:¬ (12<lU b (aX sh) (aT sh) st∧(sn b (aX sh) (aT sh) st).e=0)) (hX:Dj b (aX sh) (aT sh) fine st=false) (he:(q9 b (aX sh) (aT sh) fine st).e=0) :
  (OW sh (Fh b (aX sh) (aT sh) fine st)∧(Fh b (aX sh) (aT sh) fine st).fine=fine)∧tJ b st (q9 b (aX sh) (aT sh) fine st) (Ge sh (Fh b (aX sh) (aT sh) fine st)):=by
 obtain⟨l1,l2,l3,_⟩:=Js sh;have hS:(sn b (aX sh) (aT sh) st).e=0:=by
  unfold q9 at he;by_cases h0:lU b (aX sh) (aT sh) st=0
  ·rw[if_pos h0]at he;exact he
  ·rw[if_neg h0]at he;have:=aiA he;exact OH (s:=1) (OH (s:=1) this)
 have r2:=D0 (st:=sN b st (aX sh)) (s:=aT sh) l3 hS;have r1:=D0 (st:=st) (s:=aX sh) l2 (OH (s:=aT sh) hS);have hO2:((lU b (aX sh) (aT sh) st:Nat):Int)≤aka sh:=by
  have h1:lU b (aX sh) (aT sh) st<2 ^ aT sh:=r2.1;have h2:lU b (aX sh) (aT sh) st≤12:=by
   rcases Nat.lt_or_ge 12 (lU b (aX sh) (aT sh) st) with h | h
   ·exact absurd ⟨h,hS⟩ hO
   ·exact h
  cases sh
  ·show _≤(12:Int);omega
  ·have:2 ^ aT true=8:=rfl;show _≤(7:Int);omega
 have hr1:=r1.1;have q2:tJ b (sN b st (aX sh)) (sn b (aX sh) (aT sh) st) (aF (lU b (aX sh) (aT sh) st) (aT sh)):=r2.2;unfold q9 at he⊢;unfold Fh;by_cases h0:lU b (aX sh) (aT sh) st=0
 ·rw[if_pos h0]at he⊢;rw[if_pos h0];rw[h0]at q2;refine⟨⟨⟨⟨by simp only[];omega,by simp only[];omega⟩,⟨by simp,by simp only[];cases sh<;>decide⟩,rfl,fun _=>rfl,by simp⟩,rfl⟩,?_⟩;unfold Ge;simp only[if_true,List.append_nil];exact ee.2 ⟨_,by simpa using r1.2,by simpa using q2⟩
 ·rw[if_neg h0]at he⊢;rw[if_neg h0];have hT:=aiA he;have r4:=D0 (st:=sN b (sn b (aX sh) (aT sh) st) (1:Nat)) (s:=1) (by omega) hT;have r3:=D0 (st:=sn b (aX sh) (aT sh) st) (s:=1) (by omega) (OH (s:=1) hT);have hd:flD b (aX sh) (aT sh) st<2 ^ 1:=r3.1;have hw:zU b (aX sh) (aT sh) st<2 ^ 1:=r4.1;have q3:tJ b (sn b (aX sh) (aT sh) st) (sN b (sn b (aX sh) (aT sh) st) (1:Nat)) (aF (flD b (aX sh) (aT sh) st) 1):=r3.2;have q4:tJ b (sN b (sn b (aX sh) (aT sh) st) (1:Nat)) (Ho b (aX sh) (aT sh) st) (aF (zU b (aX sh) (aT sh) st) 1):=r4.2;have hz:=agq (fine:=fine) (w:=zU b (aX sh) (aT sh) st) (by omega);have c:=ao0 (sz:=Ce b (aX sh) (aT sh) fine st) hz (k:=lU b (aX sh) (aT sh) st) (KO (st:=sN b (sn b (aX sh) (aT sh) st) (1:Nat)) (s:=1) (by omega)) he;unfold Dj at hX;rw[if_neg h0]at hX;obtain⟨c1,c2,c3⟩:=c;have c3:tJ b (Ho b (aX sh) (aT sh) st) _ _:=c3;have hZ:Ce b (aX sh) (aT sh) fine st=iu fine-zU b (aX sh) (aT sh) st:=rfl;generalize hcf:qU b (Ce b (aX sh) (aT sh) fine st) (lU b (aX sh) (aT sh) st) (sN b (sN b (sn b (aX sh) (aT sh) st) (1:Nat)) (1:Nat))=cs at *;have hcf2:qU b (Ce b (aX sh) (aT sh) fine st) (lU b (aX sh) (aT sh) st) (Ho b (aX sh) (aT sh) st)=cs:=hcf;rw[hcf2]at hX⊢;have hrng:∀ c∈cs,-nh fine≤c∧c<nh fine:=fun c hc=>by
   have:=c2 c hc;rw[hZ]at this;have hw2:zU b (aX sh) (aT sh) st=0∨zU b (aX sh) (aT sh) st=1:=by omega
   rcases hw2 with e | e<;>rw[e]at this<;>cases fine<;>simp only[iu,nh]at this⊢<;>simp at this⊢<;>omega
  have hnar:pU (decide (∀ c∈cs,-(nh fine / 2)≤c∧c<nh fine / 2))=zU b (aX sh) (aT sh) st:=by
   rw[←al4 fine cs _ rfl];have hw2:zU b (aX sh) (aT sh) st=0∨zU b (aX sh) (aT sh) st=1:=by omega
   rcases hw2 with e | e
   ·rw[e]at hX hZ⊢;rw[hZ]at hX;simp only[decide_true,Bool.true_and,Nat.sub_zero]at hX;rw[hX];rfl
   ·rw[e]at hZ⊢;have:Ap cs (iu fine-1)=true:=by
     rw[Ap,decide_eq_true_eq];intro c hc;have:=c2 c hc;rw[hZ]at this
     cases fine<;>simp only[iu]at this⊢<;>simp at this⊢<;>omega
    rw[this];rfl
  refine⟨⟨⟨⟨by simp only[];omega,by simp only[];omega⟩,⟨by simp only[];omega,hO2⟩,by simp only[];rw[c1],fun h=>absurd h (by simp only[];omega),hrng⟩,rfl⟩,?_⟩;unfold Ge;rw[if_neg (by simp only[];omega)];refine ee.2 ⟨_,by simpa using r1.2,ee.2 ⟨_,by simpa using q2,ee.2 ⟨_,by simp only[];rw[agF hd];exact q3,ee.2 ⟨Ho b (aX sh) (aT sh) st,?_,?_⟩⟩⟩⟩
  ·simp only[om];rw[hnar];exact q4
  ·simp only[xU,om];rw[hnar];exact c3
theorem awg {b:List Nat}{sh:Bool}{f:bG}{st s2:RS}(hf:OW sh f) (h:tJ b st s2 (Ge sh f)) :
  Fh b (aX sh) (aT sh) f.fine st=f∧q9 b (aX sh) (aT sh) f.fine st=s2∧Dj b (aX sh) (aT sh) f.fine st=false∧¬ (12<lU b (aX sh) (aT sh) st):=by
 obtain⟨l1,l2,l3,_⟩:=Js sh;obtain⟨len,ord,down,fine,cs⟩:=f;obtain⟨⟨f1,f2⟩,⟨f3,f4⟩,f5,f6,f7⟩:=hf;simp only at f1 f2 f3 f4 f5 f6 f7⊢;obtain⟨len,rfl⟩:=Int.eq_ofNat_of_zero_le f1;obtain⟨ord,rfl⟩:=Int.eq_ofNat_of_zero_le f3;have hordF:ord<2 ^ aT sh∧ord≤12:=by
  cases sh
  ·have:(ord:Int)≤12:=f4;have:2 ^ aT false=32:=rfl;omega
  ·have:(ord:Int)≤7:=f4;have:2 ^ aT true=8:=rfl;omega
 unfold Ge at h;simp only[Int.toNat_natCast]at h;obtain⟨m1,h1,h⟩:=ee.1 h;obtain⟨m2,h2,h⟩:=ee.1 h;obtain⟨v1,n1⟩:=IA l2 (show len<2 ^ aX sh by omega) h1;obtain⟨v2,n2⟩:=IA l3 hordF.1 h2;have hO:lU b (aX sh) (aT sh) st=ord:=by unfold lU;rw[n1,v2]
 have hS:sn b (aX sh) (aT sh) st=m2:=by unfold sn;rw[n1,n2]
 refine⟨?_,?_,?_,by rw[hO];omega⟩
 all_goals
  by_cases h0:ord=0
  ·subst h0;have hc:cs=[]:=List.eq_nil_of_length_eq_zero (by omega);have hd:=f6 rfl;subst hc hd;simp only[Int.natCast_zero,if_true]at h;have hs2:=(tZ.1 h).1
   first
    | (unfold Fh;rw[if_pos hO,v1];rfl)
    | (unfold q9;rw[if_pos hO,hS,hs2])
    | (unfold Dj;rw[if_pos hO])
  ·rw[if_neg (by omega)]at h;obtain⟨m3,h3,h⟩:=ee.1 h;obtain⟨m4,h4,h5⟩:=ee.1 h;have b1:∀ x:Bool,pU x<2 ^ 1:=fun x=>by cases x<;>decide
   obtain⟨v3,n3⟩:=IA (s:=1) (by omega) (b1 down) h3;obtain⟨v4,n4⟩:=IA (s:=1) (by omega) (b1 _) h4;have hD:flD b (aX sh) (aT sh) st=pU down:=by unfold flD;rw[hS];exact v3
   have hT:Ho b (aX sh) (aT sh) st=m4:=by
    unfold Ho;rw[hS];show sN b (sN b m2 (1:Nat)) (1:Nat)=m4;rw[n3,n4]
   have hW:zU b (aX sh) (aT sh) st=pU (om ⟨len,ord,down,fine,cs⟩):=by
    unfold zU;rw[hS];show sV b (sN b m2 (1:Nat)) (1:Nat)=_;rw[n3,v4]
   have hZ:Ce b (aX sh) (aT sh) fine st=xU ⟨len,ord,down,fine,cs⟩:=by unfold Ce;rw[hW];rfl
   have hw1:pU (om ⟨len,ord,down,fine,cs⟩)≤1:=by cases om ⟨len,ord,down,fine,cs⟩<;>decide
   have hz:=agq (fine:=fine) hw1;have hrng:∀ c∈cs,-((2 ^ (xU ⟨len,ord,down,fine,cs⟩-1):Nat):Int)≤c∧c<((2 ^ (xU ⟨len,ord,down,fine,cs⟩-1):Nat):Int):=fun c hc=>by
    have a:=f7 c hc
    cases hn:om ⟨len,ord,down,fine,cs⟩ with
    | true =>
     have b:=(of_decide_eq_true hn) c hc;simp only[xU,hn]
     cases fine<;>simp only[iu,pU,nh]at b⊢<;>simp at b⊢<;>omega
    | false =>
     simp only[xU,hn]
     cases fine<;>simp only[iu,pU,nh]at a⊢<;>simp at a⊢<;>omega
   have hco:cs.length=ord:=by omega
   obtain⟨c1,c2⟩:=ao6 (sz:=xU ⟨len,ord,down,fine,cs⟩) hz hrng h5;rw[hco]at c1 c2
   first
    | (unfold Fh;rw[if_neg (by omega),v1,hO,hD,hZ,hT,c1];congr 1;cases down<;>rfl)
    | (unfold q9;rw[if_neg (by omega),hO,hZ,hT,c2])
    | (unfold Dj;rw[if_neg (by omega),hO,hZ,hT,c1,hW];cases hn:om ⟨len,ord,down,fine,cs⟩;rw[show xU ⟨len,ord,down,fine,cs⟩-1=iu fine-1 from (by rw[xU,hn];rfl),al4 fine cs _ rfl];show (_ && om ⟨len,ord,down,fine,cs⟩)=false;rw[hn,Bool.and_false];rfl)
theorem ahX {b:List Nat}{sh fine:Bool}{st:RS}:nx b (q9 b (aX sh) (aT sh) fine st):=by
 obtain⟨l1,l2,l3,_⟩:=Js sh;unfold q9;by_cases h0:lU b (aX sh) (aT sh) st=0
 ·rw[if_pos h0];exact KO l3
 ·rw[if_neg h0];have hz:Ce b (aX sh) (aT sh) fine st≤31:=by unfold Ce iu;split<;>omega
  exact ao1 hz (KO (st:=sN b (sn b (aX sh) (aT sh) st) (1:Nat)) (s:=1) (by omega))
theorem alW {b:List Nat}{sh fine:Bool}:∀ {k:Nat}{o:Bool}{st st2:RS}{l:List bG},nx b st→dU b (aX sh) (aT sh) fine k o st=some (l,false,st2)→st2.e=0→
  o=false∧l.length=k∧(∀ f∈l,OW sh f∧f.fine=fine)∧tJ b st st2 (l.flatMap (Ge sh))
 | 0,o,st,st2,l,hn,h,he=>by
  rw[dU]at h;injection h with h
  injection h with e1 h
  injection h with e2 e3
  subst e1 e2 e3;exact⟨rfl,rfl,by simp,tZ.2 ⟨rfl,hn he⟩⟩
 | k+1,o,st,st2,l,hn,h,he=>by
  rw[dU]at h;by_cases hO:12<lU b (aX sh) (aT sh) st∧(sn b (aX sh) (aT sh) st).e=0
  ·rw[if_pos hO]at h;exact absurd h (by simp)
  rw[if_neg hO]at h
  cases hq:dU b (aX sh) (aT sh) fine k (o || Dj b (aX sh) (aT sh) fine st) (q9 b (aX sh) (aT sh) fine st) with
  | none=>rw[hq]at h;exact absurd h (by simp)
  | some q =>
   obtain⟨l2,o2,s3⟩:=q;rw[hq]at h;simp only[Option.some.injEq,Prod.mk.injEq]at h;obtain⟨e1,e2,e3⟩:=h;subst e1 e2 e3;obtain⟨i1,i2,i3,i4⟩:=alW ahX hq he;rw[Bool.or_eq_false_iff]at i1;obtain⟨⟨j1,j2⟩,j3⟩:=av1 hO i1.2 (wM i4).2.2.1;refine⟨i1.1,by rw[List.length_cons,i2],fun f hf=>?_,?_⟩
   ·rcases List.mem_cons.1 hf with rfl | hf
    ·exact⟨j1,j2⟩
    ·exact i3 f hf
   ·rw[List.flatMap_cons];exact ee.2 ⟨_,j3,i4⟩
theorem alo {b:List Nat}{sh fine:Bool}:∀ {l:List bG}{st st2:RS},(∀ f∈l,OW sh f∧f.fine=fine)→tJ b st st2 (l.flatMap (Ge sh))→dU b (aX sh) (aT sh) fine l.length false st=some (l,false,st2)
 | [],st,st2,hl,h=>by rw[(tZ.1 h).1];rfl
 | f::r,st,st2,hl,h=>by
  obtain⟨h1,h2⟩:=hl f (.head _);rw[List.flatMap_cons]at h;obtain⟨m,k1,k2⟩:=ee.1 h;obtain⟨j1,j2,j3,j4⟩:=awg h1 k1;rw[h2]at j1 j2 j3;rw[List.length_cons,dU,if_neg (fun h=>j4 h.1),j3,j2,Bool.or_false,alo (fun x hx=>hl x (.tail _ hx)) k2,j1]
theorem aeR (sh:Bool):UH sh=eU sh∧XN sh=aX sh∧XZ sh=aT sh∧2 ^ eU sh=adS sh+1:=by cases sh<;>decide
theorem Vj {sh:Bool}{f:bG}{r:List bG}:ae0 sh (f::r)=aF (f::r).length (eU sh)++(aF (pU f.fine) 1++(f::r).flatMap (Ge sh)):=rfl
theorem WS {sh:Bool}:ae0 sh []=aF 0 (eU sh):=by simp[ae0]
theorem alk {b:List Nat}{sh:Bool}:∀ {k:Nat}{o:Bool}{st st2:RS}{t:List (List bG)},nx b st→kw b (eU sh) (aX sh) (aT sh) k o st=some (t,false,st2)→st2.e=0→
  o=false∧t.length=k∧(∀ l∈t,KZ sh l)∧tJ b st st2 (M6 sh t)
 | 0,o,st,st2,t,hn,h,he=>by
  rw[kw]at h;injection h with h
  injection h with e1 h
  injection h with e2 e3
  subst e1 e2 e3;exact⟨rfl,rfl,by simp,tZ.2 ⟨rfl,hn he⟩⟩
 | k+1,o,st,st2,t,hn,h,he=>by
  obtain⟨l1,l2,l3,l4⟩:=Js sh;obtain⟨_,_,_,x4⟩:=aeR sh;rw[kw]at h
  cases hq:dU b (aX sh) (aT sh) (IU b (eU sh) st) (sV b st (eU sh)) o (wc b (eU sh) st) with
  | none=>rw[hq]at h;exact absurd h (by simp)
  | some q =>
   obtain⟨l,o2,s3⟩:=q;rw[hq]at h;simp only at h
   cases hw:kw b (eU sh) (aX sh) (aT sh) k o2 s3 with
   | none=>rw[hw]at h;exact absurd h (by simp)
   | some w =>
    obtain⟨t2,o3,s4⟩:=w;rw[hw]at h;simp only[Option.some.injEq,Prod.mk.injEq]at h;obtain⟨e1,e2,e3⟩:=h;subst e1 e2 e3;have hwn:nx b (wc b (eU sh) st):=by
     unfold wc;split
     ·exact KO (st:=sN b st (eU sh)) (s:=1) (by omega)
     ·exact KO l4
    have hs3:nx b s3:=by
     have:∀ {k:Nat}{o o2:Bool}{st st2:RS}{l:List bG},nx b st→dU b (aX sh) (aT sh) (IU b (eU sh) st) k o st=some (l,o2,st2)→True:=fun _ _=>trivial
     have g:∀ {fine:Bool}{k:Nat}{o o2:Bool}{st st2:RS}{l:List bG},nx b st→dU b (aX sh) (aT sh) fine k o st=some (l,o2,st2)→nx b st2:=by
      intro fine k
      induction k with
      | zero =>
       intro o o2 st st2 l hn h;rw[dU]at h;injection h with h
       injection h with e1 h
       injection h with e2 e3
       subst e3;exact hn
      | succ k ih =>
       intro o o2 st st2 l hn h;rw[dU]at h;split at h
       ·exact absurd h (by simp)
       ·split at h
        ·exact absurd h (by simp)
        ·rename_i q hq;obtain⟨a,b2,c⟩:=q;simp only[Option.some.injEq,Prod.mk.injEq]at h;obtain⟨e1,e2,e3⟩:=h;subst e3;exact ih ahX hq
     exact g hwn hq
    obtain⟨i1,i2,i3,i4⟩:=alk hs3 hw he;subst i1;obtain⟨j1,j2,j3,j4⟩:=alW hwn hq (wM i4).2.2.1;have hwe:=(wM j4).2.2.1;unfold wc at hwe j4;refine⟨j1,by rw[List.length_cons,i2],fun x hx=>?_,?_⟩
    ·rcases List.mem_cons.1 hx with rfl | hx
     ·refine⟨?_,fun f0 hf0 f hf=>?_⟩
      ·have:=oN (b:=b) (st:=st) (s:=(eU sh:Int));rw[Int.toNat_natCast]at this;omega
      ·have a1:=j3 f hf;have a2:=j3 f0 (List.mem_of_mem_head? hf0);exact⟨a1.1,by rw[a1.2,a2.2]⟩
     ·exact i3 x hx
    ·rw[M6,List.flatMap_cons];refine ee.2 ⟨s3,?_,i4⟩
     cases l with
     | nil =>
      have h0:sV b st (eU sh)=0:=by rw[←j2];rfl
      rw[if_neg (by omega)]at hwe j4;have:=(D0 l4 hwe).2;rw[h0]at this;rw[WS,(tZ.1 j4).1];exact this
     | cons f r =>
      have hp:0<sV b st (eU sh):=by rw[←j2];simp
      rw[if_pos hp]at hwe j4;have r1:=(D0 l4 (OH (s:=1) hwe)).2;obtain⟨b1,r2⟩:=D0 (st:=sN b st (eU sh)) (s:=1) (by omega) hwe;rw[Vj,j2];refine ee.2 ⟨_,r1,ee.2 ⟨_,?_,j4⟩⟩;have hfi:pU f.fine=sV b (sN b st (eU sh)) (1:Nat):=by
       rw[(j3 f (.head _)).2,IU,decide_eq_true hp,Bool.true_and];exact agF b1
      rw[hfi];exact r2
theorem alJ {b:List Nat}{sh:Bool}:∀ {t:List (List bG)}{st st2:RS},(∀ l∈t,KZ sh l)→tJ b st st2 (M6 sh t)→kw b (eU sh) (aX sh) (aT sh) t.length false st=some (t,false,st2)
 | [],st,st2,hl,h=>by rw[(tZ.1 h).1];rfl
 | l::r,st,st2,hl,h=>by
  obtain⟨l1,l2,l3,l4⟩:=Js sh;obtain⟨_,_,_,x4⟩:=aeR sh;obtain⟨h1,h2⟩:=hl l (.head _);rw[M6,List.flatMap_cons]at h;obtain⟨m,k1,k2⟩:=ee.1 h;have ih:=alJ (fun x hx=>hl x (.tail _ hx)) k2;rw[List.length_cons,kw]
  cases l with
  | nil =>
   rw[WS]at k1;obtain⟨v1,n1⟩:=IA l4 (Nat.two_pow_pos _) k1;have hS:wc b (eU sh) st=m:=by rw[wc,if_neg (by omega),n1]
   rw[v1,hS];simp only[dU];rw[ih]
  | cons f q =>
   rw[Vj]at k1;obtain⟨m1,j1,k1⟩:=ee.1 k1;obtain⟨m2,j2,j3⟩:=ee.1 k1;obtain⟨v1,n1⟩:=IA l4 (by omega) j1;have b1:pU f.fine<2 ^ 1:=by cases f.fine<;>decide
   obtain⟨v2,n2⟩:=IA (s:=1) (by omega) b1 j2;have hp:0<sV b st (eU sh):=by rw[v1];simp
   have hS:wc b (eU sh) st=m2:=by
    rw[wc,if_pos hp,n1];exact n2
   have hF:IU b (eU sh) st=f.fine:=by
    rw[IU,decide_eq_true hp,Bool.true_and,n1];have:sV b m1 1=pU f.fine:=v2;rw[this]
    cases f.fine<;>rfl
   rw[hS,hF,v1,alo (fun x hx=>h2 f rfl x hx) j3];simp only;rw[ih]
theorem amk {b:List Nat}{i:az}{a n:Nat}{t:List (List bG)}(ha:a≤b.length):FO b i (a:Int)=.ok t n↔afo i t∧At b a n (M6 i.short t):=by
 obtain⟨x0,x1,x2,_⟩:=aeR i.short;rw[FO,Np,x0,x1,x2];constructor
 ·intro h
  cases hq:kw b (eU i.short) (aX i.short) (aT i.short) i.many false ⟨a,0⟩ with
  | none=>rw[hq]at h;exact absurd h (by simp)
  | some q =>
   obtain⟨t2,o,st⟩:=q;rw[hq]at h;simp only at h;by_cases he:st.e≠0
   ·rw[if_pos he]at h;exact absurd h (by simp)
   rw[if_neg he]at h
   cases o with
   | true=>simp at h
   | false =>
    simp only[Bool.false_eq_true,if_false]at h;injection h with e1 e2
    subst e1;obtain⟨_,g2,g3,a2,n2,e3,e4,g5⟩:=alk (fun _=>⟨a,rfl,ha⟩) hq (by simpa using he);injection e3 with e3 _
    have:a=a2:=by omega
    subst this;rw[e4]at e2;simp only[Int.toNat_natCast]at e2;subst e2;exact⟨⟨g2,g3⟩,g5⟩
 ·rintro ⟨⟨h1,h2⟩,h3⟩
  have:=alJ h2 (show tJ b ⟨a,0⟩ ⟨n,0⟩ _ from ⟨a,n,rfl,rfl,h3⟩);rw[h1]at this;rw[this];simp
theorem acU {lf:Int}:∀ {l:List aG},fitsS lf l→∀ k∈aL l,0≤k
 | [],_,k,h=>by simp[aL]at h
 | s::r,hf,k,h=>by
  obtain⟨⟨_,h1⟩,h2⟩:=hf;have eb:aL (s::r)=List.replicate s.len.toNat s.book++aL r:=by rw[aL,List.flatMap_cons];rfl
  rw[eb,List.mem_append]at h;rcases h with h | h
  ·rw[List.eq_of_mem_replicate h];exact h1.1
  ·exact acU h2 k h
theorem aeH {b:List Nat}{a n v:Nat}(h:aw b (a:Int) 1=.ok v n):v≤1∧At b a n [v]:=by
 obtain⟨h1,h2⟩:=(bb (s:=1) (by omega)).1 h;rw[Qw (by omega)]at h2;exact⟨by omega,h2⟩
abbrev apart (p q:Nat×Nat):Prop:=p.2+bp p.1≤q.2∨q.2+bp q.1≤p.2
structure Vf (os:List Nat) (W:Nat):Prop where
 up:∀ j,j+1<os.length→nth os j<nth os (j+1)∧(nth os (j+1)-nth os j) % 4=0
 win:∀ w w',w<W→w'<W→w≠w'→∀ j,j+1<os.length→nth os (j+1)≤32
theorem alz {os:List Nat}{W:Nat}(h:Vf os W):∀ {k b:Nat},b+1+k<os.length→nth os (b+1)≤nth os (b+1+k)
 | 0,b,_=>Nat.le_refl _
 | k+1,b,hk=>by
  have:=alz h (k:=k) (b:=b) (by omega);have h2:=(h.up (b+1+k) (by omega)).1;rw[show b+1+(k+1)=b+1+k+1 by omega];omega
def aja (os:List Nat) (w b d y:Nat):Prop:=(w*32+nth os b≤y∧y+d≤w*32+nth os (b+1))∧b+1<os.length
theorem yl {os:List Nat}{W:Nat}(h:Vf os W) {d b k w y:Nat}(hd:d=4∨d=2) (hb:b+1<os.length) (hy:y∈pP os d b k w):∃ w',w≤w'∧w'<w+k∧aja os w' b d y:=by
 obtain⟨w',x,h1,h2,h3,rfl⟩:=SE hy;have hu:=h.up b hb;have:=KJ (d:=d) (by omega) (by rcases hd with e | e<;>rw[e]<;>omega) h3;exact⟨w',h1,h2,⟨by omega,by omega⟩,hb⟩
theorem Db {os:List Nat}{W:Nat}(h:Vf os W) {w b d y w' b' d' y':Nat}(hw:w<W) (hw':w'<W) (h1:aja os w b d y) (h2:aja os w' b' d' y') (hne:w≠w'∨b<b'):y+d≤y'∨y'+d'≤y:=by
 obtain⟨⟨a1,a2⟩,a3⟩:=h1;obtain⟨⟨c1,c2⟩,c3⟩:=h2;by_cases e:w=w'
 ·have hb:b<b':=by rcases hne with h | h;exact absurd e h;exact h
  have:=alz h (k:=b'-(b+1)) (b:=b) (by omega);rw[show b+1+(b'-(b+1))=b' by omega]at this;left;subst e;omega
 ·have k1:=h.win w w' hw hw' e b a3;have k2:=h.win w w' hw hw' e b' c3;omega
theorem agT {d hi:Nat}:∀ {f lo:Nat},(∀ y∈sc d hi f lo,lo≤y)∧(sc d hi f lo).Pairwise fun x y=>x+d≤y
 | 0,lo=>⟨by simp[sc],by simp[sc]⟩
 | f+1,lo=>by
  obtain⟨h1,h2⟩:=agT (d:=d) (hi:=hi) (f:=f) (lo:=lo+d);rw[sc];by_cases h:lo<hi
  ·rw[if_pos h];refine⟨fun y hy=>?_,List.pairwise_cons.2 ⟨fun y hy=>h1 y hy,h2⟩⟩;rcases List.mem_cons.1 hy with rfl | hy
   ·exact Nat.le_refl _
   ·have:=h1 y hy;omega
  ·rw[if_neg h];exact⟨by simp,by simp⟩
abbrev apD (d:Nat) (x y:Nat):Prop:=x+d≤y∨y+d≤x
theorem ag0 {os:List Nat}{W:Nat}(h:Vf os W) {d b:Nat}(hd:d=4∨d=2) (hb:b+1<os.length):∀ {k w:Nat},w+k≤W→(pP os d b k w).Pairwise (apD d)
 | 0,w,_=>by simp[pP]
 | k+1,w,hk=>by
  rw[pP,List.pairwise_append];refine⟨?_,ag0 h hd hb (by omega),fun x hx y hy=>?_⟩
  ·rw[List.pairwise_map];exact(agT.2).imp fun {a c} hac=>.inl (by omega)
  ·obtain⟨w2,e1,e2,e3⟩:=yl h hd hb hy;have hx':x∈pP os d b 1 w:=by
    rw[pP,List.mem_append];exact .inl hx
   obtain⟨w1,e4,e5,e6⟩:=yl h hd hb hx';exact Db h (by omega) (by omega) e6 e3 (.inl (by omega))
theorem ah4 {os:List Nat}{W:Nat}(h:Vf os W) {d n first:Nat}(hd:d=4∨d=2) (hw:first+n≤W):∀ {k b:Nat},b+k<os.length→(zX os d n first k b).Pairwise (apD d)
 | 0,b,_=>by simp[zX]
 | k+1,b,hk=>by
  rw[zX,List.pairwise_append];refine⟨ag0 h hd (by omega) hw,ah4 h hd hw (by omega),fun x hx y hy=>?_⟩;obtain⟨w1,e4,e5,e6⟩:=yl h hd (by omega) hx;obtain⟨b',c1,c2,c3⟩:=Ks hy;obtain⟨w2,e1,e2,e3⟩:=yl h hd (by omega) c3;exact Db h (by omega) (by omega) e6 e3 (.inr (by omega))
theorem wS (id:Nat):bp id=4∨bp id=2:=by unfold bp;split<;>simp
theorem ah1 {os:List Nat}{W:Nat}(h:Vf os W) {n first:Nat}(hw:first+n≤W):∀ {r:List aG}{b:Nat}{lf:Int},fitsS lf r→(b:Int)+lf<os.length→(Bh os n first r b).Pairwise apart
 | [],b,lf,_,_=>by simp[Bh]
 | s::r,b,lf,hf,hb=>by
  obtain⟨⟨⟨l1,l2⟩,b1,b2⟩,hf2⟩:=hf;rw[Bh,List.pairwise_append];refine⟨?_,ah1 h hw hf2 (by omega),fun x hx y hy=>?_⟩
  ·by_cases h0:s.book=0∨s.book=13
   ·rw[if_pos h0];simp
   ·rw[if_neg h0,List.pairwise_map];exact ah4 h (wS _) hw (by omega)
  ·by_cases h0:s.book=0∨s.book=13
   ·rw[if_pos h0]at hx;simp at hx
   ·rw[if_neg h0]at hx;obtain⟨x',hx',rfl⟩:=List.mem_map.1 hx;obtain⟨b',c1,c2,c3⟩:=Ks hx';obtain⟨w1,e4,e5,e6⟩:=yl h (wS _) (by omega) c3;obtain⟨j,f1,f2,f3⟩:=J6 hf2 hy;have hj:(j:Int)<lf-s.len:=by
     have h1:=(List.getElem?_eq_some_iff.1 f1).1;have:∀ {l:List aG}{m:Int},fitsS m l→((aL l).length:Int)=m:=by
      intro l
      induction l with
      | nil=>intro m hm;rw[show m=0 from hm];simp[aL]
      | cons q l ih =>
       intro m hm;have eb:aL (q::l)=List.replicate q.len.toNat q.book++aL l:=by rw[aL,List.flatMap_cons];rfl
       have:=ih hm.2;have hq:=hm.1.1.1;rw[eb,List.length_append,List.length_replicate];omega
     have:=this hf2;omega
    obtain⟨w2,e1,e2,e3⟩:=yl h (wS _) (by omega) f3;exact Db h (by omega) (by omega) e6 e3 (.inr (by omega))
theorem yg:∀ {l:List aG}{m:Int},fitsS m l→((aL l).length:Int)=m
 | [],m,h=>by rw[show m=0 from h];simp[aL]
 | q::l,m,hm=>by
  have eb:aL (q::l)=List.replicate q.len.toNat q.book++aL l:=by rw[aL,List.flatMap_cons];rfl
  have:=yg hm.2;have hq:=hm.1.1.1;rw[eb,List.length_append,List.length_replicate];omega
theorem aia {os:List Nat}{W:Nat}(h:Vf os W) {m:Int}(hm:m<os.length):∀ {r:List (List aG)}{q:List Int}{first:Nat},CH m r→(∀ n∈q,1≤n)→(first:Int)+q.sum≤W→(sf os r q first).Pairwise apart
 | [],q,first,_,_,_=>by simp[sf]
 | l::r,[],first,_,_,_=>by simp[sf]
 | l::r,n::q,first,hf,hq,hW=>by
  have hn:=hq n (.head _);have hq2:∀ n∈q,1≤n:=fun x hx=>hq x (.tail _ hx)
  have hqs:0≤q.sum:=by have:=oi hq2;omega
  have hl:=hf l (.head _);rw[List.sum_cons]at hW;rw[sf,List.pairwise_append];refine⟨ah1 h (by omega) hl (by omega),aia h hm (fun x hx=>hf x (.tail _ hx)) hq2 (by omega),fun x hx y hy=>?_⟩;obtain⟨j,f1,f2,f3⟩:=J6 hl hx;have hj:=(List.getElem?_eq_some_iff.1 f1).1;have hjl:=yg hl;obtain⟨w1,e4,e5,e6⟩:=yl h (wS _) (by omega) f3;obtain⟨w,g,j2,l2,g1,g2,g3,g4,g5,g6,z,g7,g8⟩:=J5 (fun x hx=>hf x (.tail _ hx)) hq2 hy;have hj2:=(List.getElem?_eq_some_iff.1 g5).1;have hjl2:=yg (hf l2 (.tail _ (List.mem_of_getElem? g1)));have hy2:y.2∈pP os (bp y.1) j2 1 w:=by rw[g8];exact agt (Nat.le_refl _) (by omega) g7
  obtain⟨w2,e1,e2,e3⟩:=yl h (wS _) (by omega) hy2;exact Db h (by omega) (by omega) e6 e3 (.inl (by omega))
theorem ag3 {r:Nat}(hr:r≤11) (i:az):Vf (offs r i.short) i.many:=by
 obtain⟨p1,p2,p3⟩:=xI (r,i.short) (iX (by omega));simp only at p1 p2 p3;obtain⟨w1,w2⟩:=QG i;refine⟨fun j hj=>?_,fun w w' h1 h2 h3 j hj=>?_⟩
 ·have:=List.all_eq_true.1 p1 j (List.mem_range.2 (by omega));simpa using this
 ·have:=List.all_eq_true.1 p3 _ (ig hj);simp only[decide_eq_true_eq]at this;omega
theorem akO {r:Nat}(hr:r≤11) {j:az}{S:List (List aG)}(hm:j.may r) (hS:qD j S):(IB r j S).Pairwise apart:=by
 obtain⟨g1,g2⟩:=eR (kN hr hm);have hmx:=hm.2.2.2.1;have hmy:oT r (decide (j.seq=2))=(offs r j.short).length-1:=rfl;obtain⟨o1,o2,o3,o4⟩:=Vh (r,j.short) (iX (by omega));simp only at o4;exact aia (ag3 hr j) (m:=j.max) (by omega) hS.2 (fun n hn=>(g1 n hn).1) (by omega)
theorem P8 {b:List Nat}:∀ {pl:List (Nat×Nat)}{n m:Nat}{Z Z2:List Int},n≤b.length→Z.length=256→(∀ p∈pl,(1≤p.1∧p.1≤11)∧p.2+bp p.1≤256)→pl.Pairwise apart→jU b pl n Z=.ok Z2 m→
  Z2.length=256∧At b n m (pl.flatMap fun p=>WB p.1 (cut Z2 p))∧(∀ p∈pl,aj3 p.1 (cut Z2 p))∧∀ i,(∀ p∈pl,¬ (p.2≤i∧i<p.2+bp p.1))→Z2[i]?=Z[i]?
 | [],n,m,Z,Z2,hn,hz,hp,hw,h=>by
  rw[jU]at h;injection h with e1 e2
  subst e1 e2;exact⟨hz,bZ.2 ⟨rfl,hn⟩,by simp,fun i _=>rfl⟩
 | p::r,n,m,Z,Z2,hn,hz,hp,hw,h=>by
  rw[jU]at h;obtain⟨l,k,h1,h2⟩:=ak.1 h;obtain⟨p1,p2⟩:=hp p (.head _);obtain⟨w1,w2⟩:=List.pairwise_cons.1 hw;obtain⟨g1,g2⟩:=(akS p1).1 h1;have hll:=g1.1;obtain⟨i1,i2,i3,i4⟩:=P8 (bv g2).2.1 (by rw[W1 (by omega)];exact hz) (fun q hq=>hp q (.tail _ hq)) w2 h2;have hcut:cut Z2 p=l:=by
   apply List.ext_getElem?;intro i;by_cases hi:i<bp p.1
   ·rw[ac4 hi,i4 (p.2+i) (fun q hq hh=>by
     have:=w1 q hq;have:=hp q (.tail _ hq);omega),adh (by omega),if_pos (by omega)]
    congr 1
    omega
   ·have:=am6 (Z:=Z2) (p:=p) (by omega);rw[List.getElem?_eq_none (by omega),List.getElem?_eq_none (by omega)]
  refine⟨i1,?_,fun q hq=>?_,fun i hi=>?_⟩
  ·rw[List.flatMap_cons,hcut];exact ax.2 ⟨k,g2,i2⟩
  ·rcases List.mem_cons.1 hq with rfl | hq
   ·rw[hcut];exact g1
   ·exact i3 q hq
  ·have:=hi p (.head _);rw[i4 i (fun q hq=>hi q (.tail _ hq)),adh (by omega),if_neg (by omega)]
theorem UC {tl:List Nat}{bks:List Int}:∀ {ls:List Int}{i:Nat},(∀ j v,ls[j]?=some v→agx tl bks (i+j) v)→Qq tl bks i ls
 | [],i,_=>trivial
 | u::r,i,h=>⟨h 0 u rfl,UC fun j v hv=>by
   have:=h (j+1) v (by simpa using hv)
   rwa [show i+(j+1)=i+1+j by omega]at this⟩
theorem Us {r:Nat}{c:fb}:∀ {k w:Nat},(∀ w',w≤w'→w'<w+k→Qq ((offs r c.info.short).drop 1) (aL (Rv c w')) 0 (adu c w'))→YP r c k w
 | 0,w,_=>trivial
 | k+1,w,h=>⟨h w (Nat.le_refl _) (by omega),Us fun w' h1 h2=>h w' (by omega) (by omega)⟩
theorem ahx {b:List Nat}{r:Nat}{c:fb}(hr:r≤11) (hm:c.info.may r) (hS:qD c.info c.sects) {n m:Nat}(hn:n≤b.length) (h:jU b (IB r c.info c.sects) n Z0=.ok c.lines m):aci r c∧At b n m (ain r c)∧∀ v∈c.lines,i64 v:=by
 have hm11:=kN hr hm;obtain⟨g1,g2⟩:=eR hm11;obtain⟨i1,i2,i3,i4⟩:=P8 hn (by rw[List.length_replicate]) (fun p hp=>MZ hm hS hr hp) (akO hr hm hS) h;obtain⟨hw1,hw⟩:=QG c.info;have key:∀ i v,c.lines[i]?=some v→v=0∨∃ p∈IB r c.info c.sects,(p.2≤i∧i<p.2+bp p.1)∧v.natAbs≤sD p.1:=by
  intro i v hv;by_cases hp:∃ p∈IB r c.info c.sects,p.2≤i∧i<p.2+bp p.1
  ·obtain⟨p,h1,h2,h3⟩:=hp;refine .inr ⟨p,h1,⟨h2,h3⟩,(i3 p h1).2 v ?_⟩;refine List.mem_of_getElem? (i:=i-p.2) ?_;rw[ac4 (by omega),←hv]
   congr 1
   omega
  ·left;have:=i4 i (fun p hp2 hh=>hp ⟨p,hp2,hh⟩);rw[hv]at this;have hi:=(List.getElem?_eq_some_iff.1 hv).1;rw[List.getElem?_replicate,if_pos (by omega)]at this;injection this
 refine⟨⟨i1,Us fun w _ hwm=>UC fun x v hv=>?_⟩,i2,fun v hv=>?_⟩
 ·rw[Nat.zero_add]at hwm⊢;have hx:x<c.info.wide:=by
   have:=(List.getElem?_eq_some_iff.1 hv).1;rw[adu,List.length_take]at this;omega
  rw[adu,List.getElem?_take,if_pos hx,List.getElem?_drop]at hv;rcases key _ _ hv with h0 | ⟨p,hp,⟨q1,q2⟩,q3⟩
  ·exact .inl h0
  ·right;obtain⟨w',g,j,l,e1,e2,e3,e4,e5,e6,y,e7,e8⟩:=J5 hS.2 (fun n hn=>(g1 n hn).1) hp;obtain⟨p1,p2,p3⟩:=xI (r,c.info.short) (iX (by omega));simp only at p1 p2 p3;have hl:=hS.2 l (List.mem_of_getElem? e1);have hbs:=yg hl;have hjl:=(List.getElem?_eq_some_iff.1 e5).1;have hmx:=hm.2.2.2.1;have hmy:oT r (decide (c.info.seq=2))=(offs r c.info.short).length-1:=rfl;have hj1:j+1<(offs r c.info.short).length:=by omega
   have hU:=ag3 hr c.info;have hu:=hU.up j hj1;have hxf:=KJ (d:=bp p.1) (by rcases wS p.1 with h | h<;>omega) (by rcases wS p.1 with h | h<;>rw[h]<;>omega) e7;have ho:nth (offs r c.info.short) (j+1)≤c.info.wide:=by
    have:=List.all_eq_true.1 p3 _ (ig hj1);simp only[decide_eq_true_eq]at this
    rwa [hw1]at this
   have hww:w'=w∧nth (offs r c.info.short) j≤x∧x<nth (offs r c.info.short) (j+1):=by
    rcases hw with ⟨a1,a2⟩ | ⟨a1,a2⟩<;>rw[a1]at q1 q2 ho hx<;>omega
   obtain⟨rfl,c1,c2⟩:=hww;have hba:=akK (i:=x) (fun j hj=>(hU.up j hj).1) hj1 c1 c2;have hsa:Rv c w'=l:=by
    rw[Rv,List.getD_eq_getElem?_getD,show CA c.info.groups (w':Int)=g by rw[←e4];congr 1,e1];rfl
   exact⟨p.1,by rw[hba,hsa,e5],by omega,by simpa using q3⟩
 ·obtain⟨i,hi,e⟩:=List.mem_iff_getElem.1 hv;rcases key i v (by rw[List.getElem?_eq_getElem hi,e]) with h0 | ⟨p,hp,_,q3⟩
  ·omega
  ·have:=akF (MZ hm hS hr hp).1;omega
theorem XG:∀ {r t:List Int}{w z:Int},i9 r t w z≠none→r.length=t.length∧∀ n∈t,-1≤n∧n≤511
 | [],[],_,_,_=>⟨rfl,by simp⟩
 | [],_::_,_,_,h=>absurd rfl h
 | _::_,[],_,_,h=>absurd rfl h
 | k::r,v::t,w,z,h=>by
  obtain⟨c1,c2,c3⟩:=yo h;rw[c3]at h;obtain⟨i1,i2⟩:=XG h;refine⟨by rw[List.length_cons,List.length_cons,i1],fun n hn=>?_⟩;rcases List.mem_cons.1 hn with rfl | hn
  ·by_cases h0:k=0
   ·have:=c1 h0;omega
   ·exact ap8 (c2 h0)
  ·exact i2 n hn
theorem Uv:∀ {g:List (List aG)}{t:List (List Int)}{w z:Int},CU g t w z≠none→∀ l∈t,∀ n∈l,-1≤n∧n≤511
 | [],[],_,_,_=>by simp
 | [],_::_,_,_,h=>absurd rfl h
 | _::_,[],_,_,h=>absurd rfl h
 | l::r,t::s,w,z,h=>by
  rw[CU]at h
  cases e:i9 (aL l) t w z with
  | none=>rw[e]at h;exact absurd rfl h
  | some p =>
   rw[e]at h;intro q hq;rcases List.mem_cons.1 hq with rfl | hq
   ·exact(XG (by rw[e];simp)).2
   ·exact Uv h q hq
abbrev GG (v:Hd×List Int):fb:=⟨v.1.gain,v.1.inf,v.1.S,v.1.T,v.1.F,v.2⟩
theorem arp {o p:Nat}(ho:o≤1) (hp:p≤1) (h:RB (o:Int) p=0):o=0∧p=0:=by
 unfold RB at h;split at h<;>omega
theorem YF {b:List Nat}(hb:b.length≤1000000000) {r:Nat}{i:az}{q:Bool}(hr:r≤11) (hi:i.Fit) {a:Int}{v:Hd×List Int}{n:Nat}(h:Jt b a r q i=.ok v n) :
  ∃ A:Nat,a=A∧(GG v).Fit∧ajP r (GG v)∧At b A n (apZ r (GG v) q)∧(q=true→v.1.inf=i):=by
 unfold Jt at h;obtain⟨u0,n0,e0,g0⟩:=ak.1 h;clear h;have ha:=adl e0;obtain⟨A,rfl⟩:=Int.eq_ofNat_of_zero_le ha;have f0:=(bb (s:=0) (by omega)).1 e0;have f0':n0=A∧A≤b.length:=bZ.1 f0.2;obtain⟨f0a,f0b⟩:=f0'
 cases f0a
 by_cases hm:q=true∧¬ i.may r
 ·rw[if_pos hm]at g0;exact absurd g0 (by simp)
 rw[if_neg hm]at g0;have hq:q=true→i.may r:=fun h=>Classical.byContradiction fun h2=>hm ⟨h,h2⟩
 obtain⟨H,nH,eH,g1⟩:=ak.1 g0;clear g0;obtain⟨Z,nZ,eZ,g2⟩:=ak.1 g1;clear g1;by_cases hend:H.od=0∧(H.is=1→ve H.F=true)
 rotate_left
 ·rw[if_neg hend]at g2;exact absurd g2 (by simp)
 rw[if_pos hend]at g2;injection g2 with h1 h2
 subst h1 h2;have hR:eM (r:Int):=by omega
 have pH:=(Fs b hb r hR q i hi _ (.inl rfl) (fun h=>by rw[Int.toNat_natCast];exact hq h) n0 (by omega) 0 0).2;rw[Int.toNat_natCast]at pH;have p:=pH H nH eH;unfold Ak at eH;obtain⟨g,n1,e1,y1⟩:=ak.1 eH;clear eH;obtain⟨j,n2,e2,y2⟩:=ak.1 y1;clear y1;obtain⟨S,n3,e3,y3⟩:=ak.1 y2;clear y2;obtain⟨T,n4,e4,y4⟩:=ak.1 y3;clear y3;obtain⟨o,n5,e5,y5⟩:=ak.1 y4;clear y4;obtain⟨s,n6,e6,y6⟩:=ak.1 y5;clear y5;obtain⟨F,n7,e7,y7⟩:=ak.1 y6;clear y6;obtain⟨o2,n8,e8,y8⟩:=ak.1 y7;clear y7;injection y8 with k1 k2
 subst k1 k2;simp only at hend eZ p;have f1:=(bb (s:=8) (by omega)).1 e1;have hjm:j.may r:=p.may;have hm11:=kN hr hjm;have f2:At b n1 n2 (if q then [] else F0 j)∧(q=true→j=i):=by
  cases q with
  | true =>
   rw[if_pos rfl]at e2⊢;injection e2 with k1 k2
   subst k1 k2;exact⟨bZ.2 ⟨rfl,(bv f1.2).2.1⟩,fun _=>rfl⟩
  | false =>
   rw[if_neg (by simp)]at e2⊢;exact⟨((RE hr).1 e2).2,fun h=>absurd h (by simp)⟩
 have f3:=(aeK hm11 (bv f2.1).2.1).1 e3;have f4:=(ahB (bv f3.2).2.1 (fun l hl=>acU (f3.1.2 l hl)) (by omega)).1 e4;have f5:=aeH e5;have f6:=aeH e6;have f8:=aeH e8;have hoo:=arp f5.1 f8.1 hend.1;have hF:afo j F∧At b n4 n8 (if ve F then 0::1::(M6 j.short F++[0]) else [0,0,0]):=by
  rw[hoo.1]at f5;rw[hoo.2]at f8;by_cases hs:s=1
  ·rw[if_pos hs]at e7;have f7:=(amk (bv f6.2).2.1).1 e7;rw[hend.2 hs];rw[hs]at f6;exact⟨f7.1,ax (X:=[0]) |>.2 ⟨n5,f5.2,ax (X:=[1]) |>.2 ⟨n6,f6.2,ax.2 ⟨n7,f7.2,f8.2⟩⟩⟩⟩
  ·rw[if_neg hs]at e7;have hs0:s=0:=by omega
   injection e7 with k1 k2
   subst k1 k2;have han:ve (List.replicate j.many ([]:List bG))=false:=by
    rw[ve,List.any_eq_false];intro l hl;rw[List.eq_of_mem_replicate hl];simp
   rw[han];rw[hs0]at f6;exact⟨⟨by rw[List.length_replicate],fun l hl=>by rw[List.eq_of_mem_replicate hl];exact⟨Nat.zero_le _,by simp⟩⟩,ax (X:=[0]) |>.2 ⟨n5,f5.2,ax (X:=[0]) |>.2 ⟨n6,f6.2,f8.2⟩⟩⟩
 have hg:=p.gain;simp only at hg;obtain⟨l1,l2,l3⟩:=ahx (c:=⟨g,j,S,T,F,Z⟩) hr hjm f3.1 (bv hF.2).2.1 eZ;have hmx:=ox hm11;have hmm:=pE j;obtain⟨q1,q2⟩:=eR hm11;have hgl:j.groups.length≤8:=by have:=oi (fun n hn=>(q1 n hn).1);omega
 have hSl:S.length≤8:=by have:=f3.1.1;omega
 have hTl:T.length=S.length:=by have:=congrArg List.length p.T;simpa using this
 have hft:=p.fit;simp only at hft;refine⟨n0,rfl,?_,?_,?_,f2.2⟩
 ·refine⟨by simp only[];omega,hft,⟨by simp only[];omega,fun l hl=>by have:=p.Sl l hl;omega⟩,fun l hl x hx=>?_,⟨by simp only[];omega,fun l hl=>?_⟩,fun l hl x hx=>by have:=Uv f4.1 l hl x hx;omega,⟨by have:=hF.1.1;simp only[];omega,fun l hl=>by have:=p.F.2 l hl;exact⟨by omega,fun f hf=>by have:=this.2 f hf;omega⟩⟩,fun l hl f hf=>?_,by have:=l1.1;simp only[]at this⊢;omega,l3⟩
  ·have:=GA (f3.1.2 l hl) (by omega) x hx;have a1:=this.1;have a2:=this.2;omega
  ·have h1:l.length∈T.map List.length:=List.mem_map.2 ⟨l,hl,rfl⟩;rw[show T.map List.length=S.map (fun l=>(aL l).length) from p.T]at h1;obtain⟨x,hx,e⟩:=List.mem_map.1 h1;have:=yg (f3.1.2 x hx);omega
  ·have hw:=hF.1.2 l hl
   cases l with
   | nil=>exact absurd hf (by simp)
   | cons f0 lr =>
    have:=(hw.2 f0 rfl f hf).1;obtain⟨⟨b1,b2⟩,⟨b3,b4⟩,_,_,b5⟩:=this;have lf:aiW j.short≤63:=by cases j.short<;>decide
    have of:aka j.short≤12:=by cases j.short<;>decide
    refine⟨by omega,fun x hx=>?_⟩;have:=b5 x hx;have hh:nh f.fine≤8∧4≤nh f.fine:=by cases f.fine<;>decide
    omega
 ·exact⟨by simp only[];omega,hjm,f3.1,f4.1,hF.1,l1⟩
 ·exact ax.2 ⟨n1,by simpa using f1.2,ax.2 ⟨n2,f2.1,ax.2 ⟨n3,f3.2,ax.2 ⟨n4,f4.2,ax.2 ⟨n8,hF.2,l2⟩⟩⟩⟩⟩
theorem IX {h:af}{l X:List Nat}{a n:Nat}(hat:At l a n X) (hl:l.length≤1000000000):gX h 1 (.d (.lst (ae l))) (some (.d (.int .i64 (a:Int)))) (some (.d (.int .i64 (n:Int)))) none=some (.d (.lst (ae X))):=by
 have hle:=bv hat;obtain⟨_,hn,t,ht⟩:=hat;have e1:cB (.d (.int .i64 (n:Int))) (ae l).length=some n:=by rw[An (by omega) (by rw[ba];omega)];simp
 have e2:cB (.d (.int .i64 (a:Int))) n=some a:=by rw[An (by omega) (by omega)];simp
 have e3:uq 1 (ae l)=true:=by cases l<;>rfl
 simp only[gX,okSl,qq,lenOf,sm,qu,e1,e2,e3,sub];have e4:((ae l).drop a).take (n-a)=ae X:=by
  unfold ae;rw[←List.map_drop,←List.map_take,ht,hn,Nat.add_sub_cancel_left,List.take_left' rfl]
 rw[e4]
theorem M9 {t:Ty}:∀ {ds:List D},OkDs [t] ds→∃ d,ds=[d]∧nP t d
 | [],h=>by simp[OkDs]at h
 | [d],h=>⟨d,rfl,by simpa [OkDs] using h⟩
 | _::_::_,h=>by simp[OkDs]at h
theorem aj6 {t:Ty}{ts:List Ty}:∀ {ds:List D},OkDs (t::ts) ds→∃ d r,ds=d::r∧nP t d∧OkDs ts r
 | [],h=>by simp[OkDs]at h
 | d::r,h=>⟨d,r,rfl,by simpa only[OkDs] using h⟩
theorem af8 {k:IntKind}:∀ {d:D},nP (.int k) d→∃ n,d=.int k n∧(Lit.int k n).wf=true
 | .int j n,h=>by
  simp only[nP]at h;obtain⟨rfl,h⟩:=h;exact⟨n,rfl,h⟩
 | .bool _,h=>by simp[nP]at h
 | .str _,h=>by simp[nP]at h
 | .lst _,h=>by simp[nP]at h
theorem WZ {d:D}(h:nP (.int .i64) d):∃ n,d=.int .i64 n∧i64 n:=by
 obtain⟨n,e,h⟩:=af8 h;refine⟨n,e,?_⟩;simp[Lit.wf,IntKind.min,IntKind.max,IntKind.signed,IntKind.bits]at h;omega
theorem aly {d:D}(h:nP (.int .u8) d):∃ n:Nat,d=.int .u8 n∧n≤255:=by
 obtain⟨n,e,h⟩:=af8 h;simp[Lit.wf,IntKind.min,IntKind.max,IntKind.signed,IntKind.bits]at h;refine⟨n.toNat,?_,by omega⟩;rw[e,Int.toNat_of_nonneg h.1]
theorem aoo:∀ {d:D},nP .bool d→∃ b,d=.bool b
 | .bool b,_=>⟨b,rfl⟩
 | .int _ _,h=>by simp[nP]at h
 | .str _,h=>by simp[nP]at h
 | .lst _,h=>by simp[nP]at h
theorem apg {es:List Ty}:∀ {d:D},nP (.lst es) d→∃ xs,d=.lst xs∧∀ x∈xs,OkDs es x
 | .lst xs,h=>⟨xs,rfl,by simpa only[nP] using h⟩
 | .int _ _,h=>by simp[nP]at h
 | .str _,h=>by simp[nP]at h
 | .bool _,h=>by simp[nP]at h
theorem ab6 {α:Type}{es:List Ty}{f:α→List D}{Q:α→Prop}(h1:∀ x,OkDs es x→∃ a,x=f a∧Q a):∀ {xs:List (List D)},(∀ x∈xs,OkDs es x)→∃ l:List α,xs=l.map f∧∀ a∈l,Q a
 | [],_=>⟨[],rfl,by simp⟩
 | x::r,h=>by
  obtain⟨a,rfl,ha⟩:=h1 x (h x (.head _));obtain⟨l,rfl,hl⟩:=ab6 h1 (xs:=r) fun y hy=>h y (.tail _ hy)
  exact⟨a::l,rfl,fun b hb=>(List.mem_cons.1 hb).elim (fun e=>e▸ha) (hl b)⟩
structure fb.Rng (c:fb):Prop where
 gain:i64 c.gain
 seq:c.info.seq≤255
 shape:c.info.shape≤255
 max:i64 c.info.max
 groups:∀ n∈c.info.groups,i64 n
 secI:∀ l∈c.sects,∀ s∈l,i64 s.book∧i64 s.len
 stepI:∀ l∈c.steps,∀ n∈l,i64 n
 fltI:∀ l∈c.tns,∀ f∈l,(i64 f.len∧i64 f.order)∧∀ x∈f.coefs,i64 x
 lineI:∀ n∈c.lines,i64 n
theorem fb.Rng.fit {c:fb}(h:c.Rng) (s:alt c):c.Fit where
 gain:=h.gain
 info:=⟨h.seq,h.shape,h.max,by have:=s.groups;omega,h.groups⟩
 sects:=⟨by have:=s.sects.1;omega,fun l hl=>by have:=s.sects.2 l hl;omega⟩
 secI:=h.secI
 steps:=⟨by have:=s.steps.1;omega,fun l hl=>by have:=s.steps.2 l hl;omega⟩
 stepI:=h.stepI
 tns:=⟨by have:=s.tns.1;omega,fun l hl=>⟨by have:=(s.tns.2 l hl).1;omega,fun f hf=>by have:=(s.tns.2 l hl).2 f hf;omega⟩⟩
 fltI:=h.fltI
 lines:=by have:=s.lines;omega
 lineI:=h.lineI
abbrev cZ (C F I:List AV) (T:af) (c:List AV):af:=(0,.cells C)::(1,.cells F)::(2,.cells c)::(3,.cells I)::T
theorem aev (C F I:List AV) (T:af):Hr (cZ C F I T) 2:=⟨fun c=>by simp,fun c d=>by simp⟩
def ie (b:List Nat):Nat→Nat×Nat→List Bool×Nat×Nat
 | 0,s=>([],s)
 | k+1,s=>(decide ((gT b s 1).1=1)::(ie b k (gT b s 1).2).1,(ie b k (gT b s 1).2).2)
theorem Yp {b:List Nat}:∀ {k:Nat}{s:Nat×Nat},(ie b k s).1.length=k
 | 0,_=>rfl
 | k+1,s=>by rw[ie,List.length_cons,Yp]
theorem acD {b:List Nat}:∀ {k:Nat}{s:Nat×Nat},s.1≤b.length→(ie b k s).2.1≤b.length
 | 0,_,h=>h
 | k+1,s,h=>acD (k:=k) (s:=(gT b s 1).2) (lK h)
theorem U0 {b:List Nat}:∀ {k:Nat}{s:Nat×Nat},s.2≠0→(ie b k s).2=s
 | 0,_,h=>rfl
 | k+1,s,h=>by rw[ie];simp only[oc h];exact U0 h
def Ae (b:List Nat):Nat→Nat→R (List Bool)
 | 0,a=>.ok [] a
 | k+1,a=>(aw b a 1).bind fun x n=>(Ae b k n).bind fun l m=>.ok (decide (x=1)::l) m
theorem ag5 {b:List Nat}:∀ {k a:Nat},Lk (Ae b k a) (fun l=>(ie b k (a,0)).1=l) (ie b k (a,0)).2
 | 0,a=>⟨rfl,rfl⟩
 | k+1,a=>by
  rw[Ae,ie]
  cases e:aw b a 1 with
  | er q =>
   rw[sJ e];simp only;rw[U0 (Nat.succ_ne_zero _)];exact rfl
  | ok x n =>
   rw[j5 e,aj];have h:=ag5 (b:=b) (k:=k) (a:=n)
   cases e2:Ae b k n with
   | er q=>rw[e2]at h;exact h
   | ok l m=>rw[e2]at h;exact⟨by rw[h.1],h.2⟩
theorem anG {l:List Bool}{i:Nat}{x:Bool}:(kJ l).set i [.bool x]=kJ (l.set i x):=by simp[kJ,List.map_set]
theorem amm (b:List Nat) (hb:b.length≤1000000000) (C F I:List AV) (mx:Nat) (hm:mx≤1000) (N:Nat) (hN:4≤N) (y104 y105:D):∀ (k i:Nat) (acc:List Bool) (s:Nat×Nat),i+k=mx→acc.length=i→s.1≤b.length→
  (Dn prog).code (.loop sR) ⟨[(2,.ptr 0 0),(4,.ptr 1 0),(6,.ptr 2 0),(7,.ptr 3 0),(8,.sl N 0 mx),(104,.d y104),(105,.d y105),(121,.d (.int .i64 mx)),(122,.d (.int .i64 i))],⟨cZ C F I [(N,.arr 1 (kJ (acc++List.replicate k false)))] (bg b s),N+1⟩⟩ =
  some (.exit 3,⟨[(2,.ptr 0 0),(4,.ptr 1 0),(6,.ptr 2 0),(7,.ptr 3 0),(8,.sl N 0 mx),(104,.d y104),(105,.d y105)],⟨cZ C F I [(N,.arr 1 (kJ (acc++(ie b k s).1)))] (bg b (ie b k s).2),N+1⟩⟩):=by
 intro k
 induction k with
 | zero =>
  intro i acc s hi hl hs;have:i=mx:=by omega
  subst this;rw[ac HP,ie];simp (maxSteps:=300000) (disch:=omega) [↓if_pos,↓if_neg]
 | succ k ih =>
  intro i acc s hi hl hs;have h1:=dc (aev C F I [(N,.arr 1 (kJ (acc++List.replicate (k+1) false)))]) b hb s hs 1 (N+1);have h5:=fun x=>ih (i+1) (acc++[x]) (gT b s 1).2 (by omega) (by simp;omega) (lK hs)
  have c1:((i+1:Nat):Int)=(i:Int)+1:=rfl;have hset:∀ x:Bool,(kJ (acc++List.replicate (k+1) false)).set i [.bool x]=kJ (acc++[x]++List.replicate k false):=fun x=>by
   rw[anG,←hl,List.replicate_succ,Sb,List.append_assoc];rfl
  have hget:(kJ (acc++List.replicate (k+1) false))[i]?=some [.bool false]:=by
   rw[kJ,List.getElem?_map,List.getElem?_append_right (by omega),hl,Nat.sub_self,List.replicate_succ];rfl
  rw[c1]at h5;rw[ie];generalize gT b s 1=g at *;obtain⟨x,s1⟩:=g;simp only at h1 h5⊢;have h5:=h5 (decide (x=1));have hset:=hset (decide (x=1));have e:acc++decide (x=1)::(ie b k s1).1=acc++[decide (x=1)]++(ie b k s1).1:=by simp
  rw[e,ac HP,←h5];have n0:N≠0∧N≠1∧N≠2∧N≠3:=by omega
  simp only[cZ,bg]at h1⊢;generalize kJ (acc++List.replicate (k+1) false)=Z at *;by_cases hx:x=1
  ·rw[decide_eq_true hx]at hset⊢;have hx2:(x:Int)=1:=by omega
   simp (maxSteps:=300000) (disch:=omega) [↓if_pos,↓if_neg,h1,hget,hset,hx2,n0]
  ·rw[decide_eq_false hx]at hset⊢;have hx2:¬ (x:Int)=1:=by omega
   simp (maxSteps:=300000) (disch:=omega) [↓if_pos,↓if_neg,h1,hget,hset,hx2,n0]
@[simp ↓] theorem awK {β:Type}{P:Nat→Option aa}{i:Nat}{e:aq}{h:af}{m:Nat}{k:AV→aq→HS→Option β}:aK P (.frz i) e ⟨h,m⟩ k=bA (get e i) fun v=>k (.tup []) (put e i (so h v).1) ⟨(so h v).2,m⟩:=by
 rw[AN];show de (PV i ⟨e,⟨h,m⟩⟩) k=_;unfold PV;simp only[]
 cases get e i<;>rfl
def ajp (o:Option Obj) (h:af) (id off len:Nat):AV×af :=
 match o with
 | some (.arr m xs)=>if off+len≤xs.length then (.own false m (sub xs off len),del h id) else (.sl id off len,h)
 | _=>(.sl id off len,h)
@[simp] theorem axO {h:af}{id off len:Nat}:so h (.sl id off len)=ajp (get h id) h id off len:=by
 simp only[so,ajp]
 cases get h id with
 | none=>rfl
 | some o =>
  cases o with
  | arr m xs =>
   simp only[];by_cases hl:off+len≤xs.length
   ·rw[if_pos hl,show Nat.ble (off+len) xs.length=true by rw[Nat.ble_eq];exact hl]
   ·rw[if_neg hl,show Nat.ble (off+len) xs.length=false from Bool.eq_false_iff.2 fun h=>hl (by rwa [Nat.ble_eq]at h)]
  | cells=>rfl
  | loop=>rfl
@[simp ↓] theorem ax3 {m:Nat}{xs:List (List D)}{h:af}{id off len:Nat}:ajp (some (.arr m xs)) h id off len=if off+len≤xs.length then (.own false m (sub xs off len),del h id) else (.sl id off len,h):=(rfl)
def rP (b:List Nat) (mx:Nat):Nat→Nat→R (List (List Bool))
 | 0,a=>.ok [] a
 | g+1,a=>(Ae b mx a).bind fun l n=>(rP b mx g n).bind fun t m=>.ok (l::t) m
abbrev CK (g j:Int):aq:=[(2,.ptr 0 0),(4,.ptr 1 0),(6,.ptr 2 0),(7,.ptr 3 0),(104,.d (.int .i64 g)),(105,.d (.int .i64 j))]
abbrev Kx:aq:=[(2,.ptr 0 0),(4,.ptr 1 0),(6,.ptr 2 0),(7,.ptr 3 0)]
section
variable (b:List Nat) (hb:b.length≤1000000000) (C:List AV) (f0 f1 f4:AV) (i0 i1 i3:AV) (mx:Nat) (hm:mx≤1000)
theorem DB (F I:List AV) (s:Nat×Nat) (g:Int) (N:Nat) :
  (Dn prog).code (.loop cQ) ⟨CK g g,⟨cZ C F I [] (bg b s),N⟩⟩=some (.exit 1,⟨Kx,⟨cZ C F I [] (bg b s),N⟩⟩):=by
 rw[ac zk];simp (maxSteps:=300000) (disch:=omega) [↓if_pos,↓if_neg]
theorem Mb (f3:AV) (I:List AV) (s:Nat×Nat) (mk:Int) (g j:Int) (hj:j<g) (h:mk≠1∨s.2≠0) (N:Nat) :
  (Dn prog).code (.loop cQ) ⟨CK g j,⟨cZ C [f0,f1,.d (.int .i64 mk),f3,f4] I [] (bg b s),N⟩⟩=some (.exit 1,⟨Kx,⟨cZ C [f0,f1,.d (.int .i64 mk),f3,f4] I [] (bg b s),N⟩⟩):=by
 obtain⟨a,e⟩:=s;rw[ac zk];simp only[cZ,bg];by_cases hk:mk=1
 ·have he:e≠0:=h.resolve_left (fun h=>h hk);subst hk;simp (maxSteps:=300000) (disch:=omega) [↓if_pos,↓if_neg,he]
 ·simp (maxSteps:=300000) (disch:=omega) [↓if_pos,↓if_neg,hk]
include hb hm
theorem Y9 (a:Nat) (ha:a≤b.length) (acc:List (List Bool)) (hacc:acc.length≤1000) (g j:Nat) (hj:j<g) (hg:g≤1000) (N:Nat) (hN:4≤N) :
  (Dn prog).code (.loop cQ) ⟨CK g j,⟨cZ C [f0,f1,.d (.int .i64 1),ah 1 (bT acc),f4] [i0,i1,.d (.int .i64 mx),i3] [] (bg b (a,0)),N⟩⟩ =
  (Dn prog).code (.loop cQ) ⟨CK g (j+1:Nat),⟨cZ C [f0,f1,.d (.int .i64 1),ah 1 (bT (acc++[(ie b mx (a,0)).1])),f4] [i0,i1,.d (.int .i64 mx),i3] [] (bg b (ie b mx (a,0)).2),N+1⟩⟩:=by
 have h1:=amm b hb C [f0,f1,.d (.int .i64 1),ah 1 (bT acc),f4] [i0,i1,.d (.int .i64 mx),i3] mx hm N hN (.int .i64 g) (.int .i64 j) mx 0 [] (a,0) (by omega) rfl ha;have hk:=AG (z:=[.bool false]) (n:=mx) (by omega);rw[amn]at hk;have c1:((j+1:Nat):Int)=(j:Int)+1:=rfl;have c0:((0:Nat):Int)=0:=rfl;have hl:(ie b mx (a,0)).1.length=mx:=Yp;have hrl:(kJ (List.replicate mx false)).length=mx:=by rw[JZ,List.length_replicate]
 have hbl:(kJ (ie b mx (a,0)).1).length=mx:=by rw[JZ,hl]
 have ht:List.take mx (kJ (ie b mx (a,0)).1)=kJ (ie b mx (a,0)).1:=List.take_of_length_le (by omega);have hA:(bT acc).length=acc.length:=Yh;have e:ah 1 (bT (acc++[(ie b mx (a,0)).1]))=.own false 1 (bT acc++[[.lst (kJ (ie b mx (a,0)).1)]]):=by rw[af2,gp]
 have n0:N≠0∧N≠1∧N≠2∧N≠3:=by omega
 rw[c1,e];simp only[List.nil_append,bg,cZ,c0]at h1⊢;generalize ie b mx (a,0)=r at *;obtain⟨l,s⟩:=r;simp only at *;generalize kJ (List.replicate mx false)=Z at *;generalize kJ l=B at *;generalize bT acc=A at *;rw[ac zk]
 cases A with
 | nil=>simp (maxSteps:=300000) (disch:=omega) [↓if_pos,↓if_neg,hk,h1,hrl,hbl,ht,n0]
 | cons y r=>simp (maxSteps:=300000) (disch:=omega) [↓if_pos,↓if_neg,hk,h1,hrl,hbl,ht,n0]
theorem ad4 (g:Nat) (hg:g≤1000):∀ (c j a:Nat) (acc:List (List Bool)) (N:Nat),j+c=g→acc.length=j→a≤b.length→4≤N→
  ∃ (w:List (List Bool)) (s:Nat×Nat) (M:Nat),4≤M∧s.1≤b.length∧Lk (rP b mx c a) (fun t=>w=acc++t) s∧
  (Dn prog).code (.loop cQ) ⟨CK g j,⟨cZ C [f0,f1,.d (.int .i64 1),ah 1 (bT acc),f4] [i0,i1,.d (.int .i64 mx),i3] [] (bg b (a,0)),N⟩⟩ =
  some (.exit 1,⟨Kx,⟨cZ C [f0,f1,.d (.int .i64 1),ah 1 (bT w),f4] [i0,i1,.d (.int .i64 mx),i3] [] (bg b s),M⟩⟩):=by
 intro c
 induction c with
 | zero =>
  intro j a acc N hj hl ha hN;obtain rfl:j=g:=by omega
  exact⟨acc,(a,0),N,hN,ha,⟨by simp,rfl⟩,DB b C _ _ _ _ _⟩
 | succ c ih =>
  intro j a acc N hj hl ha hN;rw[Y9 b hb C f0 f1 f4 i0 i1 i3 mx hm a ha acc (by omega) g j (by omega) hg N hN,rP];have hr:=ag5 (b:=b) (k:=mx) (a:=a);have hle:(ie b mx (a,0)).2.1≤b.length:=acD ha;generalize ie b mx (a,0)=r at *;obtain⟨l,s⟩:=r
  cases e:Ae b mx a with
  | ok l2 n =>
   rw[e]at hr;obtain⟨h1,h2⟩:=hr;simp only at h1 h2 hle;subst h1 h2;obtain⟨w,s6,M,k1,k2,k3,k4⟩:=ih (j+1) n (acc++[l]) (N+1) (by omega) (by simp;omega) hle (by omega);refine⟨w,s6,M,k1,k2,?_,k4⟩;rw[aj]
   cases e2:rP b mx c n with
   | er q=>rw[e2]at k3;exact k3
   | ok t q=>rw[e2]at k3;exact⟨by rw[k3.1,List.append_assoc];rfl,k3.2⟩
  | er e0 =>
   rw[e]at hr;have hd:s.2=e0+1:=hr;refine⟨acc++[l],s,N+1,by omega,hle,hd,?_⟩;by_cases hc:c=0
   ·have:j+1=g:=by omega
    rw[this];exact DB b C _ _ _ _ _
   ·exact Mb b C f0 f1 f4 _ _ s 1 g (j+1:Nat) (by omega) (.inr (by omega)) _
theorem ahf (g:Nat) (hg:g≤1000) (k:Nat) (s:Nat×Nat) (hs:s.1≤b.length) (N:Nat) (hN:4≤N) :
  ∃ (w:List (List Bool)) (s6:Nat×Nat) (M:Nat),4≤M∧s6.1≤b.length∧(s.2=0→Lk (if k=1 then rP b mx g s.1 else .ok [] s.1) (fun t=>w=t) s6)∧(s.2≠0→s6=s)∧
  (Dn prog).code (.loop cQ) ⟨CK g 0,⟨cZ C [f0,f1,.d (.int .i64 k),.nl,f4] [i0,i1,.d (.int .i64 mx),i3] [] (bg b s),N⟩⟩ =
  some (.exit 1,⟨Kx,⟨cZ C [f0,f1,.d (.int .i64 k),ah 1 (bT w),f4] [i0,i1,.d (.int .i64 mx),i3] [] (bg b s6),M⟩⟩):=by
 have e0:ah 1 (bT [])=.nl:=rfl;obtain⟨a,e⟩:=s;by_cases h:k=1∧e=0
 ·obtain⟨rfl,rfl⟩:=h;obtain⟨w,s6,M,k1,k2,k3,k4⟩:=ad4 b hb C f0 f1 f4 i0 i1 i3 mx hm g hg g 0 a [] N (by omega) rfl hs hN;rw[e0]at k4;exact⟨w,s6,M,k1,k2,fun _=>by simpa using k3,fun h=>absurd rfl h,k4⟩
 ·refine⟨[],(a,e),N,hN,hs,fun he=>?_,fun _=>rfl,?_⟩
  ·rw[if_neg (fun hk=>h ⟨hk,he⟩)];exact⟨rfl,by rw[show e=0 from he]⟩
  ·rw[e0];by_cases hg0:g=0
   ·subst hg0;exact DB b C _ _ _ _ _
   ·exact Mb b C f0 f1 f4 _ _ (a,e) k g 0 (by omega) (by simp only[];omega) _
end
def nU (b:List Nat) (r:Nat) (q:Bool) (i:az):Nat→Nat→R (List fb)
 | 0,a=>.ok [] a
 | k+1,a=>(Jt b a r q i).bind fun v n=>(nU b r q i k n).bind fun l m=>.ok (GG v::l) m
abbrev vt (n i:Int):aq:=[(2,.ptr 0 0),(4,.ptr 1 0),(6,.ptr 2 0),(7,.ptr 3 0),(140,.d (.int .i64 n)),(141,.d (.int .i64 i))]
abbrev zF:List AV:=[.nl,.d (.bool false),.d (.int .i64 0),.nl,.nl]
def afj (q:Bool) (i:az) (I iv:List AV):Prop:=(I=[.d (.int .u8 i.seq),.d (.int .u8 i.shape),.d (.int .i64 i.max),.own false 1 (am i.groups)]∧iv=i.cells)∨(I=zI∧q=false∧iv=zI)
section
variable (b:List Nat) (hb:b.length≤1000000000)
theorem aar (C F I:List AV) (s:Nat×Nat) (n:Int) (N:Nat) (hN:4≤N) :
  (Dn prog).code (.loop cD) ⟨vt n n,⟨cZ C F I [] (bg b s),N⟩⟩=some (.exit 5,⟨[(4,.ptr 1 0),(6,.ptr 2 0)],⟨[(1,.cells F),(2,.cells (bg b s))],N⟩⟩):=by
 rw[ac sy];simp (maxSteps:=300000) (disch:=omega) [↓if_pos,↓if_neg]
theorem Xf (C I:List AV) (f0 f1 f2 f3 f4:AV) (s:Nat×Nat) (hs:s.2≠0) (n i:Int) (hi:i<n) (N:Nat) :
  (Dn prog).code (.loop cD) ⟨vt n i,⟨cZ C [f0,f1,f2,f3,f4] I [] (bg b s),N⟩⟩=some (.ret,⟨[(4,.ptr 1 0),(5,.d (.int .i64 s.2))],⟨[(1,.cells zF),(2,.cells (bg b s))],N⟩⟩):=by
 obtain⟨a,e⟩:=s;simp only at hs;rw[ac sy];simp only[cZ,bg];simp (maxSteps:=300000) (disch:=omega) [↓if_pos,↓if_neg,hs]
include hb
theorem XE (r:Nat) (hr:r≤11) (q:Bool) (i:az) (hi:i.Fit) (I iv:List AV) (hI:afj q i I iv) (c1 c2 c3 f2 f3 f4:AV) (a:Nat) (ha:a≤b.length) (acc:List fb) (hacc:acc.length≤100) (v:Hd×List Int) (m:Nat) (hv:Jt b a r q i=.ok v m) (n j:Nat) (hj:j<n) (hn:n≤2) (N:Nat) (hN:4≤N) :
  (Dn prog).code (.loop cD) ⟨vt n j,⟨cZ [.d (.int .i64 r),c1,c2,c3] [ah 9 (c4 acc),.d (.bool q),f2,f3,f4] I [] (bg b (a,0)),N⟩⟩ =
  (Dn prog).code (.loop cD) ⟨vt n (j+1:Nat),⟨cZ [.d (.int .i64 r),c1,c2,c3] [ah 9 (c4 (acc++[GG v])),.d (.bool q),f2,f3,f4] I [] (bg b (m,0)),N+1⟩⟩:=by
 have hiv:iv=i.cells∨q=false∧iv=zI:=hI.imp And.right fun h=>⟨h.2.1,h.2.2⟩
 have hG:=adj b hb a (by omega) r hr q i hi iv hiv;rw[hv]at hG;have cj:((j+1:Nat):Int)=(j:Int)+1:=rfl;have c0:((0:Nat):Int)=0:=rfl;have hA:(c4 acc).length=acc.length:=Y5;have e:ah 9 (c4 (acc++[GG v]))=.own false 9 (c4 acc++[[.int .i64 v.1.gain,.int .u8 v.1.inf.seq,.int .u8 v.1.inf.shape,.int .i64 v.1.inf.max,.lst (am v.1.inf.groups),.lst (aM v.1.S),.lst (bO v.1.T),.lst (bt v.1.F),.lst (am v.2)]]):=by rw[agG,gp]
 have n0:N≠0∧N≠1∧N≠2∧N≠3:=by omega
 rw[cj,e];simp only[bg,cZ,c0,akg,Kr]at hG⊢;generalize c4 acc=A at *;generalize am v.2=Z at *;rcases hI with ⟨rfl,rfl⟩ | ⟨rfl,rfl,rfl⟩
 all_goals
  simp only[az.cells,zI]at hG⊢;rw[ac sy]
  cases A with
  | nil=>simp (maxSteps:=300000) (disch:=omega) [↓if_pos,↓if_neg,hG,n0]
  | cons y w=>simp (maxSteps:=300000) (disch:=omega) [↓if_pos,↓if_neg,hG,n0]
theorem adI (r:Nat) (hr:r≤11) (q:Bool) (i:az) (hi:i.Fit) (I iv:List AV) (hI:afj q i I iv) (c1 c2 c3 f0 f2 f3 f4:AV) (a:Nat) (ha:a≤b.length) (e:Nat) (hv:Jt b a r q i=.er e) (n j:Nat) (hj:j<n) (hn:n≤2) (N:Nat) (hN:4≤N) :
  (Dn prog).code (.loop cD) ⟨vt n j,⟨cZ [.d (.int .i64 r),c1,c2,c3] [f0,.d (.bool q),f2,f3,f4] I [] (bg b (a,0)),N⟩⟩ =
  some (.ret,⟨[(4,.ptr 1 0),(5,.d (.int .i64 ((e+1:Nat):Int)))],⟨[(1,.cells zF),(2,.cells (bg b (0,e+1)))],N+1⟩⟩):=by
 have hiv:iv=i.cells∨q=false∧iv=zI:=hI.imp And.right fun h=>⟨h.2.1,h.2.2⟩
 have hG:=adj b hb a (by omega) r hr q i hi iv hiv;rw[hv]at hG;have ce:((e+1:Nat):Int)=(e:Int)+1:=rfl;have c0:((0:Nat):Int)=0:=rfl;have n0:N≠0∧N≠1∧N≠2∧N≠3:=by omega
 have e1:¬ ((e:Int)+1=0):=by omega
 simp only[bg,cZ,c0,ce,akg,vH]at hG⊢;rcases hI with ⟨rfl,rfl⟩ | ⟨rfl,rfl,rfl⟩
 all_goals
  simp only[az.cells,zI]at hG⊢;rw[ac sy];simp (maxSteps:=300000) (disch:=omega) [↓if_pos,↓if_neg,hG,n0,e1]
end
theorem ak0 (w:List Nat) (hw:w.length≤1000000000) (N:Nat):∀ (r:List Nat) (i:Nat),w.drop i=r→
  (1∉r→(Dn prog).code (.loop ej) ⟨[(0,.d (.lst (ae w))),(1,.d (.int .u8 1)),(7,.d (.int .i64 w.length)),(8,.d (.int .i64 i))],⟨[],N⟩⟩=some (.exit 0,⟨[],⟨[],N⟩⟩))∧
  (1∈r→∃ k:Nat,(Dn prog).code (.loop ej) ⟨[(0,.d (.lst (ae w))),(1,.d (.int .u8 1)),(7,.d (.int .i64 w.length)),(8,.d (.int .i64 i))],⟨[],N⟩⟩=some (.ret,⟨[(4,.d (.int .i64 k))],⟨[],N⟩⟩)):=by
 intro r
 induction r with
 | nil =>
  intro i hd;have hi:=bn hd;refine⟨fun _=>?_,fun h=>absurd h (by simp)⟩;rw[ac qO];simp (maxSteps:=300000) (disch:=omega) [↓if_pos,↓if_neg]
 | cons x r ih =>
  intro i hd;have hlt:=bR hd;have hg:(ae w)[i]?=some [.int .u8 x]:=by
   have:=congrArg (fun l=>l[0]?) hd;simp only[List.getElem?_drop,List.getElem?_cons_zero,Nat.add_zero]at this;rw[ae,List.getElem?_map,this];rfl
  have h5:=ih (i+1) (cS hd);have c1:((i+1:Nat):Int)=(i:Int)+1:=rfl;rw[c1]at h5;rw[ac qO];generalize ae w=W at *;by_cases hx:x=1
  ·refine⟨fun h=>absurd (by rw[hx];exact .head _) h,fun _=>⟨i,?_⟩⟩;have hx2:(1:Int)=(x:Int):=by omega
   simp (maxSteps:=300000) (disch:=omega) [↓if_pos,↓if_neg,hg,←hx2]
  ·have hx2:¬ (1:Int)=(x:Int):=by omega
   refine⟨fun h=>?_,fun h=>?_⟩
   ·rw[←h5.1 fun h2=>h (.tail _ h2)];simp (maxSteps:=300000) (disch:=omega) [↓if_pos,↓if_neg,hg,hx2]
   ·obtain⟨k,hk⟩:=h5.2 (by
    rcases List.mem_cons.1 h with h | h
    ·exact absurd h.symm hx
    ·exact h)
    refine⟨k,?_⟩;rw[←hk];simp (maxSteps:=300000) (disch:=omega) [↓if_pos,↓if_neg,hg,hx2]
theorem adX (w:List Nat) (hw:w.length≤1000000000):aS prog kx [.d (.lst (ae w)),.d (.int .u8 1)]=some (.d (.bool (decide (1∈w)))):=by
 obtain⟨h1,h2⟩:=ak0 w hw 0 w 0 rfl;have hl:=ba (l:=w);have c0:((0:Nat):Int)=0:=rfl;rw[c0]at h1 h2;by_cases h:1∈w
 ·obtain⟨k,hk⟩:=h2 h;have hI:aS prog mT [.d (.lst (ae w)),.d (.int .u8 1)]=some (.d (.int .i64 k)):=by
   rw[ao uA vD rfl];generalize ae w=W at *;simp (maxSteps:=300000) (disch:=omega) [↓if_pos,↓if_neg,hl,hk]
  rw[decide_eq_true h,ao qT qN rfl];simp (maxSteps:=300000) (disch:=omega) [↓if_pos,↓if_neg,hI]
 ·have hk:=h1 h;have hI:aS prog mT [.d (.lst (ae w)),.d (.int .u8 1)]=some (.d (.int .i64 (-1))):=by
   rw[ao uA vD rfl];generalize ae w=W at *;simp (maxSteps:=300000) (disch:=omega) [↓if_pos,↓if_neg,hl,hk]
  rw[decide_eq_false h,ao qT qN rfl];simp (maxSteps:=300000) (disch:=omega) [↓if_pos,↓if_neg,hI]
abbrev hp3 (C F c:List AV):af:=[(0,.cells C),(1,.cells F),(2,.cells c)]
theorem aem (C F:List AV):Hr (hp3 C F) 2:=⟨fun c=>by simp,fun c d=>by simp⟩
def Ek (b:List Nat) (n:Int):Nat×Nat:=kT (gT b (0,0) 3).2 (((gT b (0,0) 3).1:Int)=n-1)
def OU (b:List Nat) (n:Int):Nat×Nat:=kT (gT b (Ek b n) 4).2 (((gT b (Ek b n) 4).1:Int)=0)
section
variable (b:List Nat) (hb:b.length≤1000000000)
include hb
theorem ah8 {n:Int}:(Ek b n).1≤b.length:=Ax (lK (Nat.zero_le _))
theorem aqS {n:Int}:(OU b n).1≤b.length:=Ax (lK (ah8 b hb))
theorem acf (c0 c2 c3:AV) (n:Int) (hn:n=1∨n=2) (T:VC) :
  (Dn prog).code (.seq (.seq nT (K [41])) (.seq sv (.seq sq T))) ⟨[(2,.ptr 0 0),(4,.ptr 1 0),(6,.ptr 2 0)],⟨hp3 [c0,.d (.int .i64 n),c2,c3] zF (bg b (0,0)),3⟩⟩ =
  (Dn prog).code T ⟨[(2,.ptr 0 0),(4,.ptr 1 0),(6,.ptr 2 0),(7,.ptr 3 0)],⟨cZ [c0,.d (.int .i64 n),c2,c3] zF zI [] (bg b (OU b n)),4⟩⟩:=by
 have h1:=dc (aem [c0,.d (.int .i64 n),c2,c3] zF) b hb (0,0) (Nat.zero_le _) 3 3;have h2:=jc (aem [c0,.d (.int .i64 n),c2,c3] zF) b (gT b (0,0) 3).2 (((gT b (0,0) 3).1:Int)=n-1) 3;have h3:=dc (aem [c0,.d (.int .i64 n),c2,c3] zF) b hb (Ek b n) (ah8 b hb) 4 3;have h4:=jc (aem [c0,.d (.int .i64 n),c2,c3] zF) b (gT b (Ek b n) 4).2 (((gT b (Ek b n) 4).1:Int)=0) 3;have e1:Ek b n=kT (gT b (0,0) 3).2 (((gT b (0,0) 3).1:Int)=n-1):=rfl;have e2:OU b n=kT (gT b (Ek b n) 4).2 (((gT b (Ek b n) 4).1:Int)=0):=rfl;rw[←e1]at h2;rw[←e2]at h4;clear e1 e2;generalize OU b n=s4 at *;generalize Ek b n=s2 at *;generalize gT b (0,0) 3=g1 at *;obtain⟨x1,s1⟩:=g1;generalize gT b s2 4=g3 at *;obtain⟨x3,s3⟩:=g3;have c0':((0:Nat):Int)=0:=rfl;simp only[bg,hp3,cZ,c0',zF]at h1 h2 h3 h4⊢;by_cases k1:(x1:Int)=n-1
 ·rw[decide_eq_true k1]at h2;by_cases k2:(x3:Int)=0
  ·rw[decide_eq_true k2]at h4;simp (maxSteps:=300000) (disch:=omega) [↓if_pos,↓if_neg,h1,h2,h3,h4]
  ·rw[decide_eq_false k2]at h4;simp (maxSteps:=300000) (disch:=omega) [↓if_pos,↓if_neg,h1,h2,h3,h4]
 ·rw[decide_eq_false k1]at h2;by_cases k2:(x3:Int)=0
  ·rw[decide_eq_true k2]at h4;simp (maxSteps:=300000) (disch:=omega) [↓if_pos,↓if_neg,h1,h2,h3,h4]
  ·rw[decide_eq_false k2]at h4;simp (maxSteps:=300000) (disch:=omega) [↓if_pos,↓if_neg,h1,h2,h3,h4]
theorem YE (c0 c2 c3:AV) (s:Nat×Nat) (T:VC) :
  (Dn prog).code (.seq (.seq mA (.cond (.m 49) me .skip)) T) ⟨[(2,.ptr 0 0),(4,.ptr 1 0),(6,.ptr 2 0),(7,.ptr 3 0)],⟨cZ [c0,.d (.int .i64 1),c2,c3] zF zI [] (bg b s),4⟩⟩ =
  (Dn prog).code T ⟨[(2,.ptr 0 0),(4,.ptr 1 0),(6,.ptr 2 0),(7,.ptr 3 0)],⟨cZ [c0,.d (.int .i64 1),c2,c3] zF zI [] (bg b s),4⟩⟩:=by
 simp only[bg,cZ,zF];simp (maxSteps:=300000) (disch:=omega) [↓if_pos,↓if_neg]
theorem Xx (c0 c2 c3:AV) (s:Nat×Nat) (hs:s.1≤b.length) (T:VC) :
  (Dn prog).code (.seq (.seq mA (.cond (.m 49) me .skip)) T) ⟨[(2,.ptr 0 0),(4,.ptr 1 0),(6,.ptr 2 0),(7,.ptr 3 0)],⟨cZ [c0,.d (.int .i64 2),c2,c3] zF zI [] (bg b s),4⟩⟩ =
  (Dn prog).code T ⟨[(2,.ptr 0 0),(4,.ptr 1 0),(6,.ptr 2 0),(7,.ptr 3 0)],⟨cZ [c0,.d (.int .i64 2),c2,c3] [.nl,.d (.bool (decide ((gT b s 1).1=1))),.d (.int .i64 0),.nl,.nl] zI [] (bg b (gT b s 1).2),4⟩⟩:=by
 have h1:=dc (aev [c0,.d (.int .i64 2),c2,c3] zF zI []) b hb s hs 1 4;generalize gT b s 1=g at *;obtain⟨x,s1⟩:=g;simp only[bg,cZ,zF]at h1⊢;by_cases hx:x=1
 ·have hx2:(x:Int)=1:=by omega
  simp (maxSteps:=300000) (disch:=omega) [↓if_pos,↓if_neg,h1,hx,hx2]
 ·have hx2:¬ (x:Int)=1:=by omega
  simp (maxSteps:=300000) (disch:=omega) [↓if_pos,↓if_neg,h1,hx,hx2]
end
theorem gb3 {b:List Nat}{a v n:Nat}:aw b (a:Int) 3=.ok v n↔v<8∧At b a n (aF v 3):=bb (s:=3) (by omega)
theorem gb4 {b:List Nat}{a v n:Nat}:aw b (a:Int) 4=.ok v n↔v<16∧At b a n (aF v 4):=bb (s:=4) (by omega)
theorem gb8 {b:List Nat}{a v n:Nat}:aw b (a:Int) 8=.ok v n↔v<256∧At b a n (aF v 8):=bb (s:=8) (by omega)
theorem gb2 {b:List Nat}{a v n:Nat}:aw b (a:Int) 2=.ok v n↔v<4∧At b a n (aF v 2):=bb (s:=2) (by omega)
theorem gb1 {b:List Nat}{a v n:Nat}:aw b (a:Int) 1=.ok v n↔v<2∧At b a n (aF v 1):=bb (s:=1) (by omega)
theorem C4 {b:List Nat}:∀ {k a m:Nat}{l:List Nat},a≤b.length→(jm b k a=.ok l m↔l.length=k∧(∀ x∈l,x≤255)∧At b a m (bJ l))
 | 0,a,m,l,ha=>by
  rw[jm];constructor
  ·intro h;injection h with h1 h2
   subst h1 h2;exact⟨rfl,by simp,bZ.2 ⟨rfl,ha⟩⟩
  ·rintro ⟨h1,_,h3⟩
   obtain rfl:=List.eq_nil_of_length_eq_zero h1;rw[(bZ.1 h3).1]
 | k+1,a,m,l,ha=>by
  rw[jm,ak];constructor
  ·rintro ⟨x,n,e1,h⟩
   obtain⟨r,p,e2,h⟩:=ak.1 h;injection h with h1 h2
   subst h1 h2;obtain⟨hx,f1⟩:=gb8.1 e1;obtain⟨h1,h2,f2⟩:=(C4 (bv f1).2.1).1 e2;exact⟨by rw[List.length_cons,h1],fun y hy=>by
    rcases List.mem_cons.1 hy with rfl | hy
    ·omega
    ·exact h2 y hy,ax.2 ⟨n,f1,f2⟩⟩
  ·rintro ⟨h1,h2,h3⟩
   cases l with
   | nil=>simp at h1
   | cons x r =>
    obtain⟨n,f1,f2⟩:=(ax (X:=aF x 8)).1 h3;refine⟨x,n,gb8.2 ⟨by have:=h2 x (.head _);omega,f1⟩,ak.2 ⟨r,m,(C4 (bv f1).2.1).2 ⟨by simpa using h1,fun y hy=>h2 y (.tail _ hy),f2⟩,rfl⟩⟩
theorem aif {b:List Nat}{a m x:Nat}:aw b (a:Int) 1=.ok x m↔x=cond (decide (x=1)) 1 0∧At b a m (aF (cond (decide (x=1)) 1 0) 1):=by
 rw[gb1];constructor
 ·rintro ⟨h1,h2⟩
  have:x=0∨x=1:=by omega
  rcases this with rfl | rfl<;>exact⟨rfl,h2⟩
 ·rintro ⟨h1,h2⟩
  rw[←h1]at h2;refine⟨?_,h2⟩;rw[h1]
  cases decide (x=1)<;>simp
theorem Fm {b:List Nat}:∀ {k a m:Nat}{l:List Bool},a≤b.length→(Ae b k a=.ok l m↔l.length=k∧At b a m (C3 l))
 | 0,a,m,l,ha=>by
  rw[Ae];constructor
  ·intro h;injection h with h1 h2
   subst h1 h2;exact⟨rfl,bZ.2 ⟨rfl,ha⟩⟩
  ·rintro ⟨h1,h3⟩
   obtain rfl:=List.eq_nil_of_length_eq_zero h1;rw[(bZ.1 h3).1]
 | k+1,a,m,l,ha=>by
  rw[Ae,ak];constructor
  ·rintro ⟨x,n,e1,h⟩
   obtain⟨r,p,e2,h⟩:=ak.1 h;injection h with h1 h2
   subst h1 h2;obtain⟨hx,f1⟩:=aif.1 e1;obtain⟨h1,f2⟩:=(Fm (bv f1).2.1).1 e2;exact⟨by rw[List.length_cons,h1],ax.2 ⟨n,f1,f2⟩⟩
  ·rintro ⟨h1,h3⟩
   cases l with
   | nil=>simp at h1
   | cons x r =>
    obtain⟨n,f1,f2⟩:=(ax (X:=aF (cond x 1 0) 1)).1 h3;have hd:decide ((cond x 1 0:Nat)=1)=x:=by cases x<;>rfl
    refine⟨cond x 1 0,n,aif.2 (by rw[hd];exact⟨rfl,f1⟩),ak.2 ⟨r,m,(Fm (bv f1).2.1).2 ⟨by simpa using h1,f2⟩,by rw[hd]⟩⟩
theorem UU {a c:List Bool}:C3 (a++c)=C3 a++C3 c:=by simp[C3]
theorem C6 {b:List Nat}{mx:Nat}:∀ {g a m:Nat}{t:List (List Bool)},a≤b.length→(rP b mx g a=.ok t m↔t.length=g∧(∀ l∈t,l.length=mx)∧At b a m (C3 t.flatten))
 | 0,a,m,t,ha=>by
  rw[rP];constructor
  ·intro h;injection h with h1 h2
   subst h1 h2;exact⟨rfl,by simp,bZ.2 ⟨rfl,ha⟩⟩
  ·rintro ⟨h1,_,h3⟩
   obtain rfl:=List.eq_nil_of_length_eq_zero h1;rw[(bZ.1 h3).1]
 | g+1,a,m,t,ha=>by
  rw[rP,ak];constructor
  ·rintro ⟨l,n,e1,h⟩
   obtain⟨r,p,e2,h⟩:=ak.1 h;injection h with h1 h2
   subst h1 h2;obtain⟨hx,f1⟩:=(Fm ha).1 e1;obtain⟨h1,h2,f2⟩:=(C6 (bv f1).2.1).1 e2;refine⟨by rw[List.length_cons,h1],fun y hy=>?_,by rw[List.flatten_cons,UU];exact ax.2 ⟨n,f1,f2⟩⟩;rcases List.mem_cons.1 hy with rfl | hy
   ·exact hx
   ·exact h2 y hy
  ·rintro ⟨h1,h2,h3⟩
   cases t with
   | nil=>simp at h1
   | cons l r =>
    rw[List.flatten_cons,UU]at h3;obtain⟨n,f1,f2⟩:=ax.1 h3;exact⟨l,n,(Fm ha).2 ⟨h2 l (.head _),f1⟩,ak.2 ⟨r,m,(C6 (bv f1).2.1).2 ⟨by simpa using h1,fun y hy=>h2 y (.tail _ hy),f2⟩,rfl⟩⟩
theorem W4 {b:List Nat}{a m:Nat}{l:List Nat}(ha:a≤b.length):xN b a=.ok l m↔(l.length≤269∧∀ x∈l,x≤255)∧At b a m (He l++aF 7 3):=by
 unfold xN;rw[ak];constructor
 ·rintro ⟨x,n,e1,h⟩
  obtain⟨hx,f1⟩:=gb3.1 e1;by_cases h6:x=6
  ·rw[if_pos h6]at h;subst h6;obtain⟨k,n2,e2,h⟩:=ak.1 h;obtain⟨hk,f2⟩:=gb4.1 e2;by_cases hk0:k=0
   ·rw[if_pos hk0]at h;exact absurd h (by simp)
   rw[if_neg hk0]at h;obtain⟨c,n3,e3,h⟩:=ak.1 h;obtain⟨w,n4,e4,h⟩:=ak.1 h;obtain⟨z,n5,e5,h⟩:=ak.1 h;by_cases hz:z=7
   rotate_left
   ·rw[if_neg hz]at h;exact absurd h (by simp)
   rw[if_pos hz]at h;injection h with g1 g2
   subst g1 g2 hz;have f5:=(gb3.1 e5).2;have key:At b n2 n3 (if 15≤c then aF (c-14) 8 else [])∧min c 15=k∧1≤c∧c≤269:=by
    by_cases h15:k=15
    ·rw[if_pos h15]at e3;obtain⟨y,n6,e6,h⟩:=ak.1 e3;obtain⟨hy,f6⟩:=gb8.1 e6;by_cases hy0:y=0
     ·rw[if_pos hy0]at h;exact absurd h (by simp)
     rw[if_neg hy0]at h;injection h with g1 g2
     subst g1 g2;rw[if_pos (by omega),Nat.add_sub_cancel];exact⟨f6,by omega,by omega,by omega⟩
    ·rw[if_neg h15]at e3;injection e3 with g1 g2
     subst g1 g2;rw[if_neg (by omega)];exact⟨bZ.2 ⟨rfl,(bv f2).2.1⟩,by omega,by omega,by omega⟩
   obtain⟨f3,k1,k2,k3⟩:=key;obtain⟨w1,w2,f4⟩:=(C4 (bv f3).2.1).1 e4;refine⟨⟨by omega,w2⟩,?_⟩;have hne:w≠[]:=fun h=>by rw[h]at w1;simp at w1;omega
   rw[He,if_neg hne,w1,k1];exact ax.2 ⟨n4,ax.2 ⟨n,f1,ax.2 ⟨n2,f2,ax.2 ⟨n3,f3,f4⟩⟩⟩,f5⟩
  ·rw[if_neg h6]at h;by_cases h7:x=7
   rotate_left
   ·rw[if_neg h7]at h;exact absurd h (by simp)
   rw[if_pos h7]at h;injection h with g1 g2
   subst g1 g2 h7;exact⟨⟨by simp,by simp⟩,by rw[He,if_pos rfl];exact f1⟩
 ·rintro ⟨⟨h1,h2⟩,h3⟩
  by_cases h0:l=[]
  ·rw[He,if_pos h0,List.nil_append]at h3;exact⟨7,m,gb3.2 ⟨by omega,h3⟩,by rw[if_neg (by omega),if_pos rfl,h0]⟩
  have hl0:l.length≠0:=fun h=>h0 (List.eq_nil_of_length_eq_zero h)
  rw[He,if_neg h0]at h3;obtain⟨n4,h3,f5⟩:=ax.1 h3;obtain⟨n,f1,h3⟩:=ax.1 h3;obtain⟨n2,f2,h3⟩:=ax.1 h3;obtain⟨n3,f3,f4⟩:=ax.1 h3;refine⟨6,n,gb3.2 ⟨by omega,f1⟩,?_⟩;rw[if_pos rfl,ak];refine⟨_,n2,gb4.2 ⟨by omega,f2⟩,?_⟩;rw[if_neg (by omega),ak];refine⟨l.length,n3,?_,ak.2 ⟨l,n4,(C4 (bv f3).2.1).2 ⟨rfl,h2,f4⟩,ak.2 ⟨7,m,gb3.2 ⟨by omega,f5⟩,if_pos rfl⟩⟩⟩;by_cases h15:15≤l.length
  ·rw[if_pos h15]at f3;rw[if_pos (by omega),ak];exact⟨l.length-14,n3,gb8.2 ⟨by omega,f3⟩,by rw[if_neg (by omega),show l.length-14+14=l.length by omega]⟩
  ·rw[if_neg h15]at f3;rw[if_neg (by omega),(bZ.1 f3).1,show min l.length 15=l.length by omega]
abbrev Yu:az:=⟨0,0,0,[]⟩
def KG (b:List Nat) (r:Nat) (q:Bool) (a:Nat):R (az×Nat×List (List Bool)) :=
 if q=true then (jK b a r).bind fun i m=>(aw b m 2).bind fun k m=>if ¬ k<3 then .er 7 else (if k=1 then rP b i.max.toNat i.groups.length m else .ok [] m).bind fun l m=>.ok (i,k,l) m
 else .ok (Yu,0,[]) a
def aeh (b:List Nat) (r:Nat) (n:Int):R gb :=
 (aw b (0:Nat) 3).bind fun x m=>if (x:Int)≠n-1 then .er 7 else
 (aw b m 4).bind fun x m=>if x≠0 then .er 7 else
 (if n=2 then aw b m 1 else .ok 0 m).bind fun qv m =>
 (KG b r (decide (qv=1)) m).bind fun h m =>
 (nU b r (decide (qv=1)) h.1 n.toNat m).bind fun cs m =>
 (xN b m).bind fun fl m=>.ok ⟨cs,decide (qv=1),h.2.1,h.2.2,fl⟩ m
def adC (R:Nat) (n:Int) (f:gb):List Nat:=adB n f++Xm R f.common f.chans++He f.fill++aF 7 3
theorem Pz {b:List Nat}(hb:b.length≤1000000000) {r:Nat}(hr:r≤11) {q:Bool}{i:az}(hi:i.Fit):∀ {k a m:Nat}{l:List fb},a≤b.length→nU b r q i k a=.ok l m→l.length=k∧(∀ c∈l,c.Fit∧ajP r c∧(q=true→c.info=i))∧At b a m (Xm r q l)
 | 0,a,m,l,ha,h=>by
  rw[nU]at h;injection h with h1 h2
  subst h1 h2;exact⟨rfl,by simp,bZ.2 ⟨rfl,ha⟩⟩
 | k+1,a,m,l,ha,h=>by
  rw[nU]at h;obtain⟨v,n,e1,h⟩:=ak.1 h;obtain⟨t,p,e2,h⟩:=ak.1 h;injection h with h1 h2
  subst h1 h2;obtain⟨A,hA,c1,c2,f1,c3⟩:=YF hb hr hi e1;obtain rfl:a=A:=by omega
  obtain⟨t1,t2,f2⟩:=Pz hb hr hi (bv f1).2.1 e2;refine⟨by rw[List.length_cons,t1],fun d hd=>?_,ax.2 ⟨n,f1,f2⟩⟩;rcases List.mem_cons.1 hd with rfl | hd
  ·exact⟨c1,c2,c3⟩
  ·exact t2 d hd
theorem akP {a b k:Nat}(ha:a<2 ^ k) (hb:b<2 ^ k) (h:aF a k=aF b k):a=b:=by
 have h1:=E2 (v:=a) (s:=k) (n:=0);have h2:=E2 (v:=b) (s:=k) (n:=0);rw[h,h2]at h1;rw[Nat.mod_eq_of_lt ha,Nat.mod_eq_of_lt hb]at h1;omega
abbrev Cp:aq:=[(2,.ptr 0 0),(4,.ptr 1 0),(6,.ptr 2 0),(7,.ptr 3 0)]
theorem Fn (C:List AV) (q:Bool) (b:List Nat) (s:Nat×Nat) (h:q=false∨s.2≠0) (B T:VC) :
  (Dn prog).code (.seq (.seq ib (.cond (.m 62) B .skip)) T) ⟨Cp,⟨cZ C [.nl,.d (.bool q),.d (.int .i64 0),.nl,.nl] zI [] (bg b s),4⟩⟩ =
  (Dn prog).code T ⟨Cp,⟨cZ C [.nl,.d (.bool q),.d (.int .i64 0),.nl,.nl] zI [] (bg b s),4⟩⟩:=by
 obtain⟨a,e⟩:=s;simp only[bg,cZ]
 cases q with
 | false=>simp (maxSteps:=300000) (disch:=omega) [↓if_pos,↓if_neg]
 | true =>
  have he:e≠0:=h.resolve_left (by simp);simp (maxSteps:=300000) (disch:=omega) [↓if_pos,↓if_neg,he]
abbrev T3 (B:VC):VC:=(.seq (.seq (.seq qa (K [63])) (.seq w8 (.cond (.m 88) (.seq (.seq (F 2) (F 7)) (.seq qE .ret)) .skip))) B)
abbrev Yy (b:List Nat) (s:Nat×Nat) (N:Nat):Option (aY×St):=some (.ret,⟨[(4,.ptr 1 0),(5,.d (.int .i64 s.2))],⟨[(1,.cells zF),(2,.cells (bg b s))],N⟩⟩)
section
variable (b:List Nat) (hb:b.length≤1000000000) (r:Nat) (hr:r≤11)
include hb hr
theorem aiX (c1 c2 c3:AV) (a e:Nat) (ha:a≤b.length) (he:jK b a r=.er e) (B T:VC) :
  (Dn prog).code (.seq (.seq ib (.cond (.m 62) (T3 B) .skip)) T) ⟨Cp,⟨cZ [.d (.int .i64 r),c1,c2,c3] [.nl,.d (.bool true),.d (.int .i64 0),.nl,.nl] zI [] (bg b (a,0)),4⟩⟩ =
  some (.ret,⟨[(4,.ptr 1 0),(5,.d (.int .i64 ((e+1:Nat):Int)))],⟨[(1,.cells zF),(2,.cells (bg b (0,e+1)))],4⟩⟩):=by
 have h:=NH b a r hb (by omega);rw[if_pos (by omega),Int.toNat_natCast,he,dH]at h;have c0:((0:Nat):Int)=0:=rfl;have ce:((e+1:Nat):Int)=(e:Int)+1:=rfl;have e1:¬ ((e:Int)+1=0):=by omega
 simp only[bg,cZ,c0,ce,zF,T3]at h⊢;simp (maxSteps:=300000) (disch:=omega) [↓if_pos,↓if_neg,h,e1]
theorem aks (c1 c2 c3:AV) (a:Nat) (ha:a≤b.length) (i:az) (m:Nat) (he:jK b a r=.ok i m) (w:List (List Bool)) (s6:Nat×Nat) (M:Nat)
  (hL:(Dn prog).code (.loop cQ) ⟨CK i.groups.length 0,⟨cZ [.d (.int .i64 r),c1,c2,c3] [.nl,.d (.bool true),.d (.int .i64 (gT b (m,0) 2).1),.nl,.nl] [.d (.int .u8 i.seq),.d (.int .u8 i.shape),.d (.int .i64 i.max),.own false 1 (am i.groups)] [] (bg b (kT (gT b (m,0) 2).2 (((gT b (m,0) 2).1:Int)<3))),4⟩⟩ =
   some (.exit 1,⟨Kx,⟨cZ [.d (.int .i64 r),c1,c2,c3] [.nl,.d (.bool true),.d (.int .i64 (gT b (m,0) 2).1),ah 1 (bT w),.nl] [.d (.int .u8 i.seq),.d (.int .u8 i.shape),.d (.int .i64 i.max),.own false 1 (am i.groups)] [] (bg b s6),M⟩⟩)) (T:VC) :
  (Dn prog).code (.seq (.seq ib (.cond (.m 62) (T3 (.seq ql (.seq qM (.seq qo (.block 1 (.seq (.loop cQ) (K [104,105]))))))) .skip)) T) ⟨Cp,⟨cZ [.d (.int .i64 r),c1,c2,c3] [.nl,.d (.bool true),.d (.int .i64 0),.nl,.nl] zI [] (bg b (a,0)),4⟩⟩ =
  (Dn prog).code T ⟨Cp,⟨cZ [.d (.int .i64 r),c1,c2,c3] [.nl,.d (.bool true),.d (.int .i64 (gT b (m,0) 2).1),ah 1 (bT w),.nl] [.d (.int .u8 i.seq),.d (.int .u8 i.shape),.d (.int .i64 i.max),.own false 1 (am i.groups)] [] (bg b s6),M⟩⟩:=by
 have hp:=CR hr he;have h:=NH b a r hb (by omega);rw[if_pos (by omega),Int.toNat_natCast,he,bV hp]at h;have h1:=dc (aev [.d (.int .i64 r),c1,c2,c3] [.nl,.d (.bool true),.d (.int .i64 0),.nl,.nl] [.d (.int .u8 i.seq),.d (.int .u8 i.shape),.d (.int .i64 i.max),.own false 1 (am i.groups)] []) b hb (m,0) hp.2.1 2 4;have h2:=jc (aev [.d (.int .i64 r),c1,c2,c3] [.nl,.d (.bool true),.d (.int .i64 (gT b (m,0) 2).1),.nl,.nl] [.d (.int .u8 i.seq),.d (.int .u8 i.shape),.d (.int .i64 i.max),.own false 1 (am i.groups)] []) b (gT b (m,0) 2).2 (((gT b (m,0) 2).1:Int)<3) 4;have hg:=mM (l:=i.groups);have c0:((0:Nat):Int)=0:=rfl;generalize kT (gT b (m,0) 2).2 (((gT b (m,0) 2).1:Int)<3)=s5 at *;generalize gT b (m,0) 2=g at *;obtain⟨x,s4⟩:=g;clear hp he;simp only[bg,cZ,c0,T3,Jp,Kx,CK]at h h1 h2 hL⊢;generalize am i.groups=Z at *;by_cases k1:(x:Int)<3
 ·rw[decide_eq_true k1]at h2;simp (maxSteps:=300000) (disch:=omega) [↓if_pos,↓if_neg,h,h1,h2,hL,hg]
 ·rw[decide_eq_false k1]at h2;simp (maxSteps:=300000) (disch:=omega) [↓if_pos,↓if_neg,h,h1,h2,hL,hg]
end
abbrev Nn (b:List Nat) (F:List AV) (s:Nat×Nat) (N:Nat):St:=⟨[(4,.ptr 1 0),(6,.ptr 2 0)],⟨[(1,.cells F),(2,.cells (bg b s))],N⟩⟩
section
variable (b:List Nat) (hb:b.length≤1000000000) (r:Nat) (hr:r≤11)
include hb hr
theorem afc (q:Bool) (i:az) (hi:i.Fit) (I iv:List AV) (hI:afj q i I iv) (c1 c2 c3 f2 f3 f4:AV) (n:Nat) (hn:n≤2):∀ (k j a:Nat) (acc:List fb) (N:Nat),j+k=n→acc.length=j→a≤b.length→4≤N→
  match nU b r q i k a with
  | .ok l m=>m≤b.length∧∃ M,4≤M∧(Dn prog).code (.loop cD) ⟨vt n j,⟨cZ [.d (.int .i64 r),c1,c2,c3] [ah 9 (c4 acc),.d (.bool q),f2,f3,f4] I [] (bg b (a,0)),N⟩⟩=some (.exit 5,Nn b [ah 9 (c4 (acc++l)),.d (.bool q),f2,f3,f4] (m,0) M)
  | .er e=>∃ s M,s.2=e+1∧(Dn prog).code (.loop cD) ⟨vt n j,⟨cZ [.d (.int .i64 r),c1,c2,c3] [ah 9 (c4 acc),.d (.bool q),f2,f3,f4] I [] (bg b (a,0)),N⟩⟩=Yy b s M:=by
 intro k
 induction k with
 | zero =>
  intro j a acc N hj hl ha hN;obtain rfl:j=n:=by omega
  simp only[nU];exact⟨ha,N,hN,by rw[aar b _ _ _ _ _ _ hN,List.append_nil]⟩
 | succ k ih =>
  intro j a acc N hj hl ha hN;rw[nU]
  cases e:Jt b a r q i with
  | er e0 =>
   rw[aU];exact⟨(0,e0+1),N+1,rfl,adI b hb r hr q i hi I iv hI c1 c2 c3 _ f2 f3 f4 a ha e0 e n j (by omega) hn N hN⟩
  | ok v m =>
   obtain⟨A,_,_,_,f1,_⟩:=YF hb hr hi e;have hm:=(bv f1).2.1;have h:=ih (j+1) m (acc++[GG v]) (N+1) (by omega) (by simp;omega) hm (by omega);rw[XE b hb r hr q i hi I iv hI c1 c2 c3 f2 f3 f4 a ha acc (by omega) v m e n j (by omega) hn N hN,aj]
   cases e2:nU b r q i k m with
   | er e0=>rw[e2]at h;exact h
   | ok l p =>
    rw[e2]at h;obtain⟨h1,M,h2,h3⟩:=h;exact⟨h1,M,h2,by rw[h3,List.append_assoc];rfl⟩
end
abbrev Me:VC:=(.seq wH (.block 5 (.seq (.loop cD) (.seq (.seq (K [140,141]) (F 2)) (F 7)))))
theorem T9 (C F I:List AV) (b:List Nat) (s:Nat×Nat) (c0 c2 c3:AV) (n:Nat) (N:Nat) (F2:List AV) (s2:Nat×Nat) (M:Nat)
  (hL:(Dn prog).code (.loop cD) ⟨vt n 0,⟨cZ [c0,.d (.int .i64 n),c2,c3] F I [] (bg b s),N⟩⟩=some (.exit 5,Nn b F2 s2 M)) (T:VC) :
  (Dn prog).code (.seq Me T) ⟨Cp,⟨cZ [c0,.d (.int .i64 n),c2,c3] F I [] (bg b s),N⟩⟩=(Dn prog).code T (Nn b F2 s2 M):=by
 simp only[bg,cZ,vt,Nn,Me]at hL⊢;simp (maxSteps:=300000) (disch:=omega) [↓if_pos,↓if_neg,hL]
theorem aad (C F I:List AV) (b:List Nat) (s:Nat×Nat) (c0 c2 c3:AV) (n:Nat) (N:Nat) (s2:Nat×Nat) (M:Nat)
  (hL:(Dn prog).code (.loop cD) ⟨vt n 0,⟨cZ [c0,.d (.int .i64 n),c2,c3] F I [] (bg b s),N⟩⟩=Yy b s2 M) (T:VC) :
  (Dn prog).code (.seq Me T) ⟨Cp,⟨cZ [c0,.d (.int .i64 n),c2,c3] F I [] (bg b s),N⟩⟩=Yy b s2 M:=by
 simp only[bg,cZ,vt,Yy,Me]at hL⊢;simp (maxSteps:=300000) (disch:=omega) [↓if_pos,↓if_neg,hL]
abbrev GD:VC:=(.seq wG (.seq (.seq wn (.cond (.m 204) (.seq qh .ret) .skip)) (.seq (.seq (.seq wt (K [6,221,222,223,224,225,226,227,228,229,230,231])) (.cond (.m 232) (.seq xA .ret) .skip)) (.seq wF .ret))))
theorem arj (F:List AV):Hr (fun c=>[(1,.cells F),(2,.cells c)]) 2:=⟨fun c=>by simp,fun c d=>by simp⟩
theorem tF {h:af}{l:List Nat}{a:Nat}(ha:a≤l.length) (hl:l.length≤1000000000):gX h 1 (.d (.lst (ae l))) (some (.d (.int .i64 (a:Int)))) none none=some (.d (.lst (ae (l.drop a)))):=by
 have e2:cB (.d (.int .i64 (a:Int))) (ae l).length=some a:=by rw[An (by omega) (by rw[ba];omega)];simp
 have e3:uq 1 (ae l)=true:=by cases l<;>rfl
 simp only[gX,okSl,qq,lenOf,sm,qu,e2,e3,sub];have e4:((ae l).drop a).take ((ae l).length-a)=ae (l.drop a):=by
  rw[List.take_of_length_le (by rw[List.length_drop];exact Nat.le_refl _)];unfold ae;rw[List.map_drop]
 rw[e4]
theorem GS {m:Nat}{xs:List (List D)}:kU (share (ah m xs))=share (ah m xs):=by cases xs<;>rfl
theorem aod (b:List Nat) (hb:b.length≤1000000000) (xs ys:List (List D)) (q:Bool) (k:Int) (m:Nat) (hm:m≤b.length) (N:Nat) :
  match (xN b m).bind fun fl m=>if b.length-m≤7∧1∉b.drop m then R.ok fl m else .er 7 with
  | .ok fl p=>∃ s,(Dn prog).code GD (Nn b [ah 9 xs,.d (.bool q),.d (.int .i64 k),ah 1 ys,.nl] (m,0) N)=some (.ret,⟨[(4,.ptr 1 0),(5,.d (.int .i64 0))],⟨[(1,.cells [share (ah 9 xs),.d (.bool q),.d (.int .i64 k),share (ah 1 ys),share (ah 1 (ae fl))]),(2,.cells (bg b s))],N⟩⟩)
  | .er e=>∃ s,(Dn prog).code GD (Nn b [ah 9 xs,.d (.bool q),.d (.int .i64 k),ah 1 ys,.nl] (m,0) N)=some (.ret,⟨[(4,.ptr 1 0),(5,.d (.int .i64 ((e+1:Nat):Int)))],⟨[(1,.cells zF),(2,.cells (bg b s))],N⟩⟩):=by
 obtain⟨w,x,s,h1,h2⟩:=afv (arj [ah 9 xs,.d (.bool q),.d (.int .i64 k),ah 1 ys,.nl]) b hb m hm N;have c0:((0:Nat):Int)=0:=rfl;have hbl:=ba (l:=b);obtain⟨a,e⟩:=s;unfold yX at h1;simp only[Nn,bg,c0,GD]at h1⊢
 cases hf:xN b m with
 | er e0 =>
  rw[hf]at h2;rw[aU];have he:e=e0+1:=h2;subst he;have ce:((e0+1:Nat):Int)=(e0:Int)+1:=rfl;have e1:¬ ((e0:Int)+1=0):=by omega
  refine⟨(a,e0+1),?_⟩;simp only[ce]at h1⊢;generalize ae w=W at *;simp (maxSteps:=300000) (disch:=omega) [↓if_pos,↓if_neg,-aV,AD,GS,wv,h1,e1]
 | ok fl p =>
  rw[hf]at h2;obtain⟨h3,h4⟩:=h2;simp only[Prod.mk.injEq]at h4;obtain⟨h4,h5⟩:=h4;subst h3 h4 h5;have hp:a≤b.length:=by have:=(W4 hm).1 hf;exact(bv this.2).2.1
  have hC:=adX (b.drop a) (by rw[List.length_drop];omega);have hS:=fun h=>tF (h:=h) hp hb
  rw[aj];simp only[c0]at h1⊢;have ez:zF=[.nl,.d (.bool false),.d (.int .i64 0),.nl,.nl]:=rfl;by_cases k1:b.length-a≤7
  ·by_cases k2:1∈b.drop a
   ·rw[if_neg (fun h=>h.2 k2)];rw[decide_eq_true k2]at hC;refine⟨(a,0),?_⟩;generalize ae (b.drop a)=D at *;generalize ae b=B at *;generalize ae w=W at *;simp (maxSteps:=300000) (disch:=omega) [↓if_pos,↓if_neg,-aV,AD,GS,wv,h1,hC,hS,hbl]
   ·rw[if_pos ⟨k1,k2⟩];rw[decide_eq_false k2]at hC;refine⟨(a,0),?_⟩;generalize ae (b.drop a)=D at *;generalize ae b=B at *;generalize ae w=W at *;simp (maxSteps:=300000) (disch:=omega) [↓if_pos,↓if_neg,-aV,AD,GS,wv,h1,hC,hS,hbl]
  ·rw[if_neg (fun h=>k1 h.1)];refine⟨(a,0),?_⟩;generalize ae (b.drop a)=D at *;generalize ae b=B at *;generalize ae w=W at *;simp (maxSteps:=300000) (disch:=omega) [↓if_pos,↓if_neg,-aV,AD,GS,wv,h1,hC,hS,hbl]
theorem WV:Yu.Fit:=⟨by decide,by decide,by decide,by decide,by simp⟩
theorem agd {b:List Nat}{r:Nat}(hr:r≤11) {q:Bool}{a m:Nat}{h:az×Nat×List (List Bool)}(ha:a≤b.length) (e:KG b r q a=.ok h m) :
  (q=false∧h=(Yu,0,[])∧m=a)∨(q=true∧h.1.may r∧h.1.Fit∧h.2.1<3∧(if h.2.1=1 then h.2.2.length=h.1.groups.length∧∀ l∈h.2.2,(l.length:Int)=h.1.max else h.2.2=[])∧At b a m (F0 h.1++aF h.2.1 2++C3 h.2.2.flatten)):=by
 unfold KG at e
 cases q with
 | false =>
  rw[if_neg (by simp)]at e;injection e with h1 h2
  exact .inl ⟨rfl,h1.symm,h2.symm⟩
 | true =>
  rw[if_pos rfl]at e;obtain⟨i,n1,e1,e⟩:=ak.1 e;obtain⟨k,n2,e2,e⟩:=ak.1 e;obtain⟨i1,f1⟩:=(RE hr).1 e1;obtain⟨k1,f2⟩:=gb2.1 e2;have p1:=CR hr e1;by_cases hk:¬ k<3
  ·rw[if_pos hk]at e;exact absurd e (by simp)
  rw[if_neg hk]at e;obtain⟨l,n3,e3,e⟩:=ak.1 e;injection e with h1 h2
  subst h1 h2;refine .inr ⟨rfl,i1,Sw hr p1.1 p1.2.2,by simp only[];omega,?_,?_⟩
  ·by_cases h1:k=1
   ·simp only[if_pos h1]at e3⊢;obtain⟨g1,g2,g3⟩:=(C6 (bv f2).2.1).1 e3;have:=ox (kN hr i1);exact⟨g1,fun x hx=>by rw[g2 x hx];omega⟩
   ·simp only[if_neg h1]at e3⊢;injection e3 with g1 g2
    exact g1.symm
  ·refine ax.2 ⟨n2,ax.2 ⟨n1,f1,f2⟩,?_⟩;by_cases h1:k=1
   ·simp only[if_pos h1]at e3;exact((C6 (bv f2).2.1).1 e3).2.2
   ·simp only[if_neg h1]at e3;injection e3 with g1 g2
    subst g1 g2;exact bZ.2 ⟨rfl,(bv f2).2.1⟩
theorem aiR {b:List Nat}(hb:b.length≤1000000000) {r:Nat}(hr:r≤11) {n:Int}(hn:n=1∨n=2) {f:gb}{m:Nat}(e:aeh b r n=.ok f m):f.Fit∧aq4 r n f∧At b 0 m (adC r n f):=by
 unfold aeh at e;obtain⟨x,a1,e1,e⟩:=ak.1 e;obtain⟨x1,f1⟩:=gb3.1 e1;by_cases hx:(x:Int)≠n-1
 ·rw[if_pos hx]at e;exact absurd e (by simp)
 rw[if_neg hx]at e;obtain⟨y,a2,e2,e⟩:=ak.1 e;obtain⟨y1,f2⟩:=gb4.1 e2;by_cases hy:y≠0
 ·rw[if_pos hy]at e;exact absurd e (by simp)
 rw[if_neg hy]at e;obtain rfl:y=0:=by omega
 obtain⟨qv,a3,e3,e⟩:=ak.1 e;obtain⟨h,a4,e4,e⟩:=ak.1 e;obtain⟨cs,a5,e5,e⟩:=ak.1 e;obtain⟨fl,a6,e6,e⟩:=ak.1 e;injection e with g1 g2
 subst g1 g2;have f3:qv≤1∧(qv=1→n=2)∧At b a2 a3 (if n=2 then aF qv 1 else []):=by
  by_cases h2:n=2
  ·rw[if_pos h2]at e3⊢;obtain⟨q1,q2⟩:=gb1.1 e3;exact⟨by omega,fun _=>h2,q2⟩
  ·rw[if_neg h2]at e3⊢;injection e3 with q1 q2
   subst q1 q2;exact⟨by omega,fun h=>absurd h (by omega),bZ.2 ⟨rfl,(bv f2).2.1⟩⟩
 obtain⟨q1,q2,f3⟩:=f3;have f4:=agd hr (bv f3).2.1 e4;obtain⟨i,k,bd⟩:=h;have hi:i.Fit:=by
  rcases f4 with ⟨_,h,_⟩ | ⟨_,_,h,_⟩
  ·injection h with h _;rw[h];exact WV
  ·exact h
 have ha4:a4≤b.length:=by
  rcases f4 with ⟨_,_,h⟩ | ⟨_,_,_,_,_,h⟩
  ·rw[h];exact(bv f3).2.1
  ·exact(bv h).2.1
 obtain⟨c1,c2,f5⟩:=Pz hb hr hi ha4 e5;obtain⟨⟨l1,l2⟩,f6⟩:=(W4 (bv f5).2.1).1 e6;have hmx:decide (qv=1)=true→i.max≤40∧i.groups.length≤8:=fun hq=>by
  rcases f4 with ⟨h,_⟩ | ⟨_,h,_⟩
  ·rw[hq]at h;exact absurd h (by simp)
  ·have h:i.may r:=h;have hm:=kN hr h;have:=ox hm;obtain⟨p1,p2⟩:=eR hm;have hmm:=pE i;have:=oi (fun n hn=>(p1 n hn).1);exact⟨by omega,by omega⟩
 have hbd:bd.length≤1000∧∀ l∈bd,l.length≤1000:=by
  rcases f4 with ⟨_,h,_⟩ | ⟨hq,_,_,_,h,_⟩
  ·injection h with _ h;injection h with _ h;rw[h];simp
  ·simp only at h;have:=hmx hq;split at h
   ·exact⟨by omega,fun l hl=>by have:=h.2 l hl;omega⟩
   ·rw[h];simp
 refine⟨⟨⟨by simp only[];omega,fun c hc=>(c2 c hc).1⟩,?_,hbd,by simp only[];omega,l2⟩,⟨by simp only[];omega,l1,?_,fun c hc=>(c2 c hc).2.1,?_⟩,?_⟩
 ·rcases f4 with ⟨_,h,_⟩ | ⟨_,_,_,h,_,_⟩
  ·injection h with _ h;injection h with h _;subst h;simp only[];omega
  ·simp only at h⊢;omega
 ·rcases f4 with ⟨_,h,_⟩ | ⟨_,_,_,h,_,_⟩
  ·injection h with _ h;injection h with h _;subst h;simp only[];omega
  ·simp only at h⊢;omega
 ·cases cs with
  | nil=>simp at c1;omega
  | cons c t =>
   simp only[aqw];rcases f4 with ⟨hq,h,_⟩ | ⟨hq,_,_,_,h,_⟩
   ·injection h with _ h
    injection h with h1 h2
    rw[hq,if_neg (by simp)];exact⟨by rw[h1];rfl,h2⟩
   ·have h2:=q2 (by simpa using hq);rw[hq,if_pos rfl];have ec:=(c2 c (.head _)).2.2 hq;refine⟨?_,?_⟩
    ·cases t with
     | nil=>simp at c1;omega
     | cons d u =>
      refine⟨d,rfl,?_⟩;rw[ec,(c2 d (.tail _ (.head _))).2.2 hq];exact⟨⟨rfl,rfl⟩,rfl,rfl⟩
    ·rw[ec];simp only at h;by_cases h1:k=1
     ·rw[if_pos h1]at h;rw[if_pos (by omega)];exact h
     ·rw[if_neg h1]at h;rw[if_neg (by omega)];exact h
 ·refine ax.1 f6 |>.elim fun a7 hf=>ax.2 ⟨a7,ax.2 ⟨a5,ax.2 ⟨a4,?_,f5⟩,hf.1⟩,hf.2⟩
  unfold adB;rcases hn with rfl | rfl
  ·have hq0:qv=0:=by
     have:qv≠1:=fun h=>by have:=q2 h;omega
     omega
   subst hq0;obtain rfl:x=0:=by omega
   rw[if_pos rfl];rw[if_neg (by omega)]at f3;rcases f4 with ⟨_,_,h⟩ | ⟨h,_⟩
   ·rw[h,(bZ.1 f3).1];exact ax.2 ⟨a1,f1,f2⟩
   ·exact absurd h (by decide)
  ·obtain rfl:x=1:=by omega
   rw[if_neg (by omega)];rw[if_pos rfl]at f3;rcases f4 with ⟨hq,_,h⟩ | ⟨hq,_,_,_,_,h⟩
   ·have hq0:qv=0:=by
      have:qv≠1:=by simpa using hq
      omega
    subst hq0;rw[if_neg (by simp),h];exact ax.2 ⟨a2,ax.2 ⟨a1,f1,f2⟩,f3⟩
   ·have hq1:qv=1:=by simpa using hq
    subst hq1;rw[if_pos (by simp)];obtain⟨b1,h,hb3⟩:=ax.1 h;obtain⟨b2,hb1,hb2⟩:=ax.1 h;have hih:ad8 ⟨cs,decide (1=1),(k:Int),bd,fl⟩=F0 i:=by
     unfold ad8
     cases cs with
     | nil=>simp at c1
     | cons c t=>simp only[(c2 c (.head _)).2.2 rfl]
    rw[hih];simp only[Int.toNat_natCast]at hb2⊢;exact ax.2 ⟨b1,ax.2 ⟨b2,ax.2 ⟨a3,ax.2 ⟨a2,ax.2 ⟨a1,f1,f2⟩,f3⟩,hb1⟩,hb2⟩,hb3⟩
theorem mN {l:List Nat}{i x:Nat}(h:l[i]?=some x):(ae l)[i]?=some [.int .u8 (x:Int)]:=by rw[ae,List.getElem?_map,h];rfl
def DI (b:List Nat) (r:Nat) (n:Int):R gb:=(aeh b r n).bind fun f m=>if b.length-m≤7∧1∉b.drop m then .ok f m else .er 7
abbrev gb.ow (f:gb):List AV:=[share (ah 9 (c4 f.chans)),.d (.bool f.common),.d (.int .i64 f.mask),share (ah 1 (bT f.bands)),share (ah 1 (ae f.fill))]
theorem I3 {α β γ:Type}{x:R α}{f:α→Nat→R β}{g:β→Nat→R γ}:(x.bind f).bind g=x.bind fun v n=>(f v n).bind g:=by cases x<;>rfl
abbrev al3:VC:=(.seq ql (.seq qM (.seq qo (.block 1 (.seq (.loop cQ) (K [104,105]))))))
abbrev QV:VC:=(.seq (.seq nT (K [41])) (.seq sv (.seq sq (.seq (.seq mA (.cond (.m 49) me .skip)) (.seq (.seq ib (.cond (.m 62) (T3 al3) .skip)) (.seq Me GD))))))
def K4 (b:List Nat) (C:List AV) (x:R gb):Prop :=
 match x with
 | .ok f m=>∃ s N,(Dn prog).code QV ⟨[(2,.ptr 0 0),(4,.ptr 1 0),(6,.ptr 2 0)],⟨hp3 C zF (bg b (0,0)),3⟩⟩=some (.ret,⟨[(4,.ptr 1 0),(5,.d (.int .i64 0))],⟨[(1,.cells f.ow),(2,.cells (bg b s))],N⟩⟩)
 | .er e=>∃ s N,(Dn prog).code QV ⟨[(2,.ptr 0 0),(4,.ptr 1 0),(6,.ptr 2 0)],⟨hp3 C zF (bg b (0,0)),3⟩⟩=some (.ret,⟨[(4,.ptr 1 0),(5,.d (.int .i64 ((e+1:Nat):Int)))],⟨[(1,.cells zF),(2,.cells (bg b s))],N⟩⟩)
section
variable (b:List Nat) (hb:b.length≤1000000000) (r:Nat) (hr:r≤11)
include hb hr
theorem Uy (n:Nat) (hn:n=1∨n=2) (q:Bool) (i:az) (hi:i.Fit) (I iv:List AV) (hI:afj q i I iv) (c2 c3:AV) (k:Int) (t:List (List Bool)) (a:Nat) (ha:a≤b.length) (N:Nat) (hN:4≤N) :
  match (nU b r q i n a).bind fun cs m=>(xN b m).bind fun fl m=>if b.length-m≤7∧1∉b.drop m then R.ok (⟨cs,q,k,t,fl⟩:gb) m else .er 7 with
  | .ok f m=>∃ s M,(Dn prog).code (.seq Me GD) ⟨Cp,⟨cZ [.d (.int .i64 r),.d (.int .i64 n),c2,c3] [.nl,.d (.bool q),.d (.int .i64 k),ah 1 (bT t),.nl] I [] (bg b (a,0)),N⟩⟩=some (.ret,⟨[(4,.ptr 1 0),(5,.d (.int .i64 0))],⟨[(1,.cells f.ow),(2,.cells (bg b s))],M⟩⟩)
  | .er e=>∃ s M,(Dn prog).code (.seq Me GD) ⟨Cp,⟨cZ [.d (.int .i64 r),.d (.int .i64 n),c2,c3] [.nl,.d (.bool q),.d (.int .i64 k),ah 1 (bT t),.nl] I [] (bg b (a,0)),N⟩⟩=some (.ret,⟨[(4,.ptr 1 0),(5,.d (.int .i64 ((e+1:Nat):Int)))],⟨[(1,.cells zF),(2,.cells (bg b s))],M⟩⟩):=by
 have e0:ah 9 (c4 [])=.nl:=rfl;have h:=afc b hb r hr q i hi I iv hI (.d (.int .i64 n)) c2 c3 (.d (.int .i64 k)) (ah 1 (bT t)) .nl n (by omega) n 0 a [] N (by omega) rfl ha hN;rw[e0]at h
 cases e:nU b r q i n a with
 | er e1 =>
  rw[e]at h;obtain⟨s,M,h1,h2⟩:=h;rw[aU];refine⟨s,M,?_⟩;rw[aad [] _ _ _ _ _ _ _ _ _ _ _ h2,←h1]
 | ok cs m =>
  rw[e]at h;obtain⟨hm,M,h1,h2⟩:=h;rw[aj];have h5:=aod b hb (c4 ([]++cs)) (bT t) q k m hm M
  cases e2:xN b m with
  | er e3 =>
   rw[e2,aU]at h5;obtain⟨s,h5⟩:=h5;rw[aU];exact⟨s,M,by rw[T9 [] _ _ _ _ _ _ _ _ _ _ _ _ h2,h5]⟩
  | ok fl p =>
   rw[e2,aj]at h5;rw[aj];by_cases hc:b.length-p≤7∧1∉b.drop p
   ·rw[if_pos hc]at h5⊢;obtain⟨s,h5⟩:=h5;exact⟨s,M,by rw[T9 [] _ _ _ _ _ _ _ _ _ _ _ _ h2,h5];rfl⟩
   ·rw[if_neg hc]at h5⊢;obtain⟨s,h5⟩:=h5;exact⟨s,M,by rw[T9 [] _ _ _ _ _ _ _ _ _ _ _ _ h2,h5]⟩
theorem C0 (n:Nat) (hn:n=1∨n=2) (I:List AV) (f0 f1 f2 f3 f4:AV) (c0 c2 c3:AV) (s:Nat×Nat) (hs:s.2≠0) (N:Nat) :
  (Dn prog).code (.seq Me GD) ⟨Cp,⟨cZ [c0,.d (.int .i64 n),c2,c3] [f0,f1,f2,f3,f4] I [] (bg b s),N⟩⟩=Yy b s N :=
 aad [] _ _ _ _ _ _ _ _ _ _ _ (Xf b _ _ _ _ _ _ _ s hs n 0 (by omega) N) _
theorem ahI (n:Nat) (hn:n=1∨n=2) (c2 c3:AV) (hd:(OU b n).2≠0) (e:Nat) (he:(OU b n).2=e+1):K4 b [.d (.int .i64 r),.d (.int .i64 n),c2,c3] (.er e):=by
 refine⟨OU b n,4,?_⟩;rw[acf b hb (.d (.int .i64 r)) c2 c3 n (by omega)];have hs:=aqS b hb (n:=(n:Int));generalize OU b n=s at *;rw[←he];rcases hn with rfl | rfl
 ·rw[show ((1:Nat):Int)=1 from rfl,YE b hb,show (zF:List AV)=[.nl,.d (.bool false),.d (.int .i64 0),.nl,.nl] from rfl,Fn _ _ _ _ (.inl rfl)];exact C0 b hb r hr 1 (.inl rfl) _ _ _ _ _ _ _ _ _ s hd 4
 ·rw[show ((2:Nat):Int)=2 from rfl,Xx b hb _ _ _ s hs,oc hd,Fn _ _ _ _ (.inr hd)];exact C0 b hb r hr 2 (.inr rfl) _ _ _ _ _ _ _ _ _ s hd 4
theorem acR (n:Nat) (hn:n=1∨n=2) (c2 c3:AV) (a:Nat) (ha:a≤b.length) (x:R gb)
  (hx:x=(nU b r false Yu n a).bind fun cs m=>(xN b m).bind fun fl m=>if b.length-m≤7∧1∉b.drop m then R.ok (⟨cs,false,0,[],fl⟩:gb) m else .er 7)
  (h:(Dn prog).code QV ⟨[(2,.ptr 0 0),(4,.ptr 1 0),(6,.ptr 2 0)],⟨hp3 [.d (.int .i64 r),.d (.int .i64 n),c2,c3] zF (bg b (0,0)),3⟩⟩=(Dn prog).code (.seq (.seq ib (.cond (.m 62) (T3 al3) .skip)) (.seq Me GD)) ⟨Cp,⟨cZ [.d (.int .i64 r),.d (.int .i64 n),c2,c3] [.nl,.d (.bool false),.d (.int .i64 0),.nl,.nl] zI [] (bg b (a,0)),4⟩⟩):K4 b [.d (.int .i64 r),.d (.int .i64 n),c2,c3] x:=by
 rw[Fn _ _ _ _ (.inl rfl)]at h;have ht:=Uy b hb r hr n hn false Yu WV zI zI (.inr ⟨rfl,rfl,rfl⟩) c2 c3 0 [] a ha 4 (by omega);rw[←hx,show ah 1 (bT [])=.nl from rfl]at ht;unfold K4;rw[h];exact ht
theorem aho (n:Nat) (hn:n=1∨n=2) (c2 c3:AV):K4 b [.d (.int .i64 r),.d (.int .i64 n),c2,c3] (DI b r n):=by
 have hP1:=fun T=>acf b hb (.d (.int .i64 r)) c2 c3 n (by omega) T
 have hdead:=ahI b hb r hr n hn c2 c3;have hs2:OU b n=kT (gT b (Ek b n) 4).2 (((gT b (Ek b n) 4).1:Int)=0):=rfl;have hs1:Ek b n=kT (gT b (0,0) 3).2 (((gT b (0,0) 3).1:Int)=n-1):=rfl;unfold DI aeh
 cases e1:aw b (0:Nat) 3 with
 | er e =>
  rw[sJ e1,gP (Nat.succ_ne_zero _)]at hs1;rw[hs1,oc (Nat.succ_ne_zero _),gP (Nat.succ_ne_zero _)]at hs2;rw[aU,aU];exact hdead (by rw[hs2];exact Nat.succ_ne_zero _) e (by rw[hs2])
 | ok x m =>
 rw[aj];by_cases hx:(x:Int)≠n-1
 ·rw[j5 e1,GB hx]at hs1;rw[hs1,oc (by simp),gP (by simp)]at hs2;rw[if_pos hx,aU];exact hdead (by rw[hs2];simp) 7 (by rw[hs2])
 rw[if_neg hx];rw[j5 e1,CJ (Classical.not_not.1 hx)]at hs1
 cases e2:aw b m 4 with
 | er e =>
  rw[hs1,sJ e2,gP (Nat.succ_ne_zero _)]at hs2;rw[aU,aU];exact hdead (by rw[hs2];exact Nat.succ_ne_zero _) e (by rw[hs2])
 | ok y a =>
 rw[aj];by_cases hy:y≠0
 ·rw[hs1,j5 e2,GB (by simp only[];omega)]at hs2;rw[if_pos hy,aU];exact hdead (by rw[hs2];simp) 7 (by rw[hs2])
 rw[if_neg hy];rw[hs1,j5 e2,CJ (by simp only[];omega)]at hs2;simp only at hs2;have ha:a≤b.length:=(bY e2).2;rw[hs2]at hP1;clear hs1 hs2 hdead e1 e2 hx hy;rcases hn with rfl | rfl
 ·refine acR b hb r hr 1 (.inl rfl) c2 c3 a ha _ ?_ ((hP1 _).trans (YE b hb _ _ _ _ _));rw[if_neg (by omega),aj];simp only[KG];rw[show decide ((0:Nat)=1)=false from rfl,if_neg (by simp),aj];simp only[I3,aj];rfl
 ·have hP:=fun T=>(hP1 _).trans (Xx b hb (.d (.int .i64 r)) c2 c3 (a,0) ha T)
  clear hP1;rw[if_pos (by omega)]
  cases e3:aw b a 1 with
  | er e =>
   rw[sJ e3]at hP;rw[aU,aU];refine⟨(a,e+1),4,?_⟩;refine(hP _).trans ?_;rw[Fn _ _ _ _ (.inr (Nat.succ_ne_zero _))];exact C0 b hb r hr 2 (.inr rfl) _ _ _ _ _ _ _ _ _ _ (Nat.succ_ne_zero _) 4
  | ok x m =>
  have hm:m≤b.length:=(bY e3).2;rw[j5 e3]at hP;rw[aj];simp only at hP;by_cases hx:x=1
  rotate_left
  ·rw[decide_eq_false hx]at hP⊢;refine acR b hb r hr 2 (.inr rfl) c2 c3 m hm _ ?_ (hP _);simp only[KG];rw[if_neg (by simp),aj];simp only[I3,aj];rfl
  rw[decide_eq_true hx]at hP⊢;simp only[KG];rw[if_pos trivial]
  cases e4:jK b m r with
  | er e =>
   rw[aU,aU,aU];exact⟨(0,e+1),4,(hP _).trans (aiX b hb r hr _ c2 c3 m e hm e4 _ _)⟩
  | ok i m2 =>
  have p:=CR hr e4;have hi:i.Fit:=Sw hr p.1 p.2.2;have hmx:=ox (kN hr p.1);have him:((i.max.toNat:Nat):Int)=i.max:=by omega
  have hgl:=hi.len;rw[aj];have hs5:(kT (gT b (m2,0) 2).2 (((gT b (m2,0) 2).1:Int)<3)).1≤b.length:=Ax (lK p.2.1);obtain⟨w,s6,M,hM,h6,hw,hd,hL⟩:=ahf b hb [.d (.int .i64 r),.d (.int .i64 2),c2,c3] .nl (.d (.bool true)) .nl (.d (.int .u8 i.seq)) (.d (.int .u8 i.shape)) (.own false 1 (am i.groups)) i.max.toNat (by omega) i.groups.length hgl (gT b (m2,0) 2).1 (kT (gT b (m2,0) 2).2 (((gT b (m2,0) 2).1:Int)<3)) hs5 4 (by omega);rw[him]at hL;have hrun:=(hP _).trans (aks b hb r hr _ c2 c3 m hm i m2 e4 w s6 M hL (.seq Me GD));have dead:∀ e,s6.2=e+1→K4 b [.d (.int .i64 r),.d (.int .i64 2),c2,c3] (.er e):=fun e he=>by
   refine⟨s6,M,hrun.trans ?_⟩;rw[←he];exact C0 b hb r hr 2 (.inr rfl) _ _ _ _ _ _ _ _ _ _ (by omega) M
  cases e5:aw b m2 2 with
  | er e =>
   rw[sJ e5,gP (Nat.succ_ne_zero _)]at hd;rw[aU,aU,aU];exact dead e (by rw[hd (Nat.succ_ne_zero _)])
  | ok k m3 =>
  rw[aj];by_cases hk:¬ k<3
  ·rw[j5 e5,GB (by simp only[];omega)]at hd;rw[if_pos hk,aU,aU];exact dead 7 (by rw[hd (by simp)])
  rw[if_neg hk];rw[j5 e5]at hw hrun;rw[CJ (by simp only[];omega)]at hw;have hw:=hw rfl;simp only at hw hrun
  cases e6:(if k=1 then rP b i.max.toNat i.groups.length m3 else R.ok [] m3) with
  | er e =>
   rw[e6]at hw;rw[aU,aU,aU];exact dead e hw
  | ok t m4 =>
   rw[e6]at hw;obtain⟨rfl,rfl⟩:=hw;have ht:=Uy b hb r hr 2 (.inr rfl) true i hi _ i.cells (.inl ⟨rfl,rfl⟩) c2 c3 k w m4 h6 M hM;rw[aj,aj];simp only[I3,aj];unfold K4;rw[show ((2:Nat):Int)=2 from rfl]at ht⊢;have hrun:(Dn prog).code QV ⟨[(2,.ptr 0 0),(4,.ptr 1 0),(6,.ptr 2 0)],⟨hp3 [.d (.int .i64 r),.d (.int .i64 2),c2,c3] zF (bg b (0,0)),3⟩⟩=_:=hrun;rw[hrun];exact ht
end
theorem ai4 {h:af}{a b c:List (List D)}{x:Bool}{y e:Int}:dF h (.tup [.agg [share (ah 9 a),.d (.bool x),.d (.int .i64 y),share (ah 1 b),share (ah 1 c)],.d (.int .i64 e)])=some (.tup [.agg [share (ah 9 a),.d (.bool x),.d (.int .i64 y),share (ah 1 b),share (ah 1 c)],.d (.int .i64 e)]):=by
 cases a<;>cases b<;>cases c<;>rfl
theorem X6 (rt n:Int) (cb:Bool) (cz:Int) (X:AV) (l:List Nat) (hX:ck X (ae l)) (hl:l.length≤100000) (hl2:∀ x∈l,x≤255) :
  (sF rt n∧(l.length:Int)≤192*n∧aS prog Ai [fQ rt n cb cz,X]=match DI (bJ l) rt.toNat n with
   | .ok f m=>some (.tup [.agg f.ow,.d (.int .i64 0)])
   | .er e=>some (.tup [.agg zF,.d (.int .i64 ((e+1:Nat):Int))]))∨
  (¬ (sF rt n∧(l.length:Int)≤192*n)∧∃ e:Int,e≠0∧aS prog Ai [fQ rt n cb cz,X]=some (.tup [.agg zF,.d (.int .i64 e)])):=by
 obtain⟨⟨x1,x2,x3⟩,x4,x5⟩:=hX.facts;obtain⟨vx,ux⟩:=hX.view;have hbl:=ba (l:=l);rw[hbl]at x5;have hcf:=Pm rt n cb cz;simp only[fQ]at hcf⊢;rw[ao aeQ afh rfl];rcases hcf with ⟨hc,ec⟩ | ⟨hc,ec⟩
 rotate_left
 ·refine .inr ⟨fun h=>hc h.1,2,by decide,?_⟩;simp (maxSteps:=300000) (disch:=omega) [↓if_pos,↓if_neg,-aV,x1,x2,x3,x4,x5,ec]
 by_cases hn:(l.length:Int)≤192*n
 rotate_left
 ·refine .inr ⟨fun h=>hn h.2,3,by decide,?_⟩;have:=hc.2;simp (maxSteps:=300000) (disch:=omega) [↓if_pos,↓if_neg,-aV,x1,x2,x3,x4,x5,ec]
 refine .inl ⟨hc,hn,?_⟩;obtain⟨R,rfl⟩:=Int.eq_ofNat_of_zero_le hc.1.1;obtain⟨k,rfl⟩:=Int.eq_ofNat_of_zero_le (show 0≤n by have:=hc.2;omega);have hR:R≤11:=by have:=hc.1.2;omega
 have hk:k=1∨k=2:=by have:=hc.2;omega
 have hu:=DP l hl hl2 X hX;have ul:=tB (l:=l);have hM:=aho (bJ l) (by omega) R hR k hk (.d (.bool cb)) (.d (.int .i64 cz));rw[Int.toNat_natCast];have c0:((0:Nat):Int)=0:=rfl;obtain⟨T,hT⟩:∃ T,T=QV:=⟨_,rfl⟩
 cases hG:DI (bJ l) R k with
 | ok f m =>
  rw[hG]at hM;obtain⟨s,N,hM⟩:=hM;simp only[hp3,bg,c0,←hT]at hM⊢;generalize ae (bJ l)=B at *;simp only[gb.ow]at hM⊢;generalize c4 f.chans=A1 at *;generalize bT f.bands=A2 at *;generalize ae f.fill=A3 at *;simp (maxSteps:=300000) (disch:=omega) [↓if_pos,↓if_neg,-aV,x1,x2,x3,x4,x5,vx,ux,ec,hu,hM,↓ai4]
 | er e =>
  rw[hG]at hM;obtain⟨s,N,hM⟩:=hM;simp only[hp3,bg,c0,←hT]at hM⊢;generalize ae (bJ l)=B at *;simp (maxSteps:=300000) (disch:=omega) [↓if_pos,↓if_neg,-aV,x1,x2,x3,x4,x5,vx,ux,ec,hu,hM]
theorem apB {α:Type}{f:α→List Nat}{l:List α}(h:∀ x,bin (f x)):bin (l.flatMap f):=fun x hx=>by
 obtain⟨y,_,hy⟩:=List.mem_flatMap.1 hx;exact h y x hy
theorem Tf {l:List Nat}:bin (bJ l):=apB fun n=>Jy
abbrev Q0 (f:gb) (X Y Z:AV):List AV:=[X,.d (.bool f.common),.d (.int .i64 f.mask),Y,Z]
abbrev Hg (f:gb) (X Y Z X' Y' Z':AV) (N:Nat):HS:=⟨[(0,.cells (Q0 f X Y Z)),(1,.cells (Q0 f X' Y' Z'))],N⟩
theorem ang (f:gb) (hf:f.Fit) (X Y Z X' Y' Z':AV) (hX:ck X (c4 f.chans)) (hX':ck X' (c4 f.chans)) (N:Nat):∀ (r:List fb) (i:Nat),f.chans.drop i=r→
  (Dn prog).code (.loop gB) ⟨[(2,.ptr 0 0),(3,.ptr 1 0),(5,.d (.int .i64 i))],Hg f X Y Z X' Y' Z' N⟩=some (.exit 0,⟨[(2,.ptr 0 0),(3,.ptr 1 0)],Hg f X Y Z X' Y' Z' N⟩):=by
 intro r;have hl:=Y5 (l:=f.chans);have hcl:=hf.chans.1
 induction r with
 | nil =>
  intro i hd;have hi:=bn hd;obtain⟨⟨x1,x2,x3⟩,x4,x5⟩:=hX.facts;rw[hl]at x5;simp only[Hg,Q0];rw[ac q7];simp (maxSteps:=300000) (disch:=omega) [↓if_pos,↓if_neg,x1,x2,x5]
 | cons c r ih =>
  intro i hd;have hlt:=bR hd;have hg:=aiS hd;have hne:c4 f.chans≠[]:=fun h=>by have:=congrArg List.length h;rw[hl,List.length_nil]at this;omega
  have hxe:=hX.ne hne;have hxe':=hX'.ne hne;subst hxe hxe';have hcf:=hf.chans.2 c (List.mem_of_mem_drop (by rw[hd];exact .head _));have hS:=aeT c hcf;have h5:=ih (i+1) (cS hd);have c1:((i+1:Nat):Int)=(i:Int)+1:=rfl;rw[c1]at h5;simp only[Hg,Q0,fb.av]at h5 hS⊢;rw[ac q7,←h5];generalize c4 f.chans=CC at *;simp (maxSteps:=300000) (disch:=omega) [↓if_pos,↓if_neg,-getElem?_pos,hg,hS,hl]
theorem am3 (f:gb) (hf:f.Fit) (X Z X' Z':AV) (N:Nat) (j:Nat) (l:List Bool) (q:List (List Bool)) (hj:f.bands.drop j=l::q) (hl:l.length≤1000):∀ (r:List Bool) (i:Nat),l.drop i=r→
  (Dn prog).code (.loop gI) ⟨[(2,.ptr 0 0),(3,.ptr 1 0),(6,.d (.int .i64 j)),(7,.d (.int .i64 i))],Hg f X (.d (.lst (bT f.bands))) Z X' (.d (.lst (bT f.bands))) Z' N⟩=some (.exit 4,⟨[(2,.ptr 0 0),(3,.ptr 1 0),(6,.d (.int .i64 j))],Hg f X (.d (.lst (bT f.bands))) Z X' (.d (.lst (bT f.bands))) Z' N⟩):=by
 intro r;have hg1:=Yj hj;have hll:=JZ (l:=l);have hjl:=bR hj;have hbl:=hf.bands.1
 induction r with
 | nil =>
  intro i hd;have hi:=bn hd;simp only[Hg,Q0];rw[ac qR];simp (maxSteps:=300000) (disch:=omega) [↓if_pos,↓if_neg,-getElem?_pos,hg1,hll]
 | cons c r ih =>
  intro i hd;have hlt:=bR hd;have hg:=amo hd;have h5:=ih (i+1) (cS hd);have c1:((i+1:Nat):Int)=(i:Int)+1:=rfl;rw[c1]at h5;simp only[Hg,Q0]at h5⊢;rw[ac qR,←h5];generalize bT f.bands=BB at *;generalize kJ l=B at *;simp (maxSteps:=300000) (disch:=omega) [↓if_pos,↓if_neg,-getElem?_pos,hg1,hg,hll]
theorem am7 (f:gb) (hf:f.Fit) (X Y Z X' Y' Z':AV) (hY:ck Y (bT f.bands)) (hY':ck Y' (bT f.bands)) (N:Nat):∀ (r:List (List Bool)) (j:Nat),f.bands.drop j=r→
  (Dn prog).code (.loop gF) ⟨[(2,.ptr 0 0),(3,.ptr 1 0),(6,.d (.int .i64 j))],Hg f X Y Z X' Y' Z' N⟩=some (.exit 2,⟨[],⟨[],N⟩⟩):=by
 intro r;have hl:=Yh (t:=f.bands);have hbl:=hf.bands.1
 induction r with
 | nil =>
  intro i hd;have hi:=bn hd;obtain⟨⟨x1,x2,x3⟩,x4,x5⟩:=hY.facts;rw[hl]at x5;simp only[Hg,Q0];rw[ac qV];simp (maxSteps:=300000) (disch:=omega) [↓if_pos,↓if_neg,x1,x2,x5]
 | cons c r ih =>
  intro i hd;have hlt:=bR hd;have hg:=Yj hd;have hne:bT f.bands≠[]:=fun h=>by have:=congrArg List.length h;rw[hl,List.length_nil]at this;omega
  have hxe:=hY.ne hne;have hxe':=hY'.ne hne;subst hxe hxe';have hcl:=hf.bands.2 c (List.mem_of_mem_drop (by rw[hd];exact .head _));have hll:=JZ (l:=c);have h1:=am3 f hf X Z X' Z' N i c r hd hcl c 0 rfl;have h5:=ih (i+1) (cS hd);have c1:((i+1:Nat):Int)=(i:Int)+1:=rfl;have c0:((0:Nat):Int)=0:=rfl;rw[c1]at h5;rw[c0]at h1;simp only[Hg,Q0]at h1 h5⊢;rw[ac qV,←h5];generalize bT f.bands=BB at *;generalize kJ c=B at *;simp (maxSteps:=300000) (disch:=omega) [↓if_pos,↓if_neg,-getElem?_pos,hg,h1,hl]
theorem Rp (f:gb) (hf:f.Fit) (X Y Z X' Y' Z':AV) (hX:ck X (c4 f.chans)) (hY:ck Y (bT f.bands)) (hZ:ck Z (ae f.fill)) (hX':ck X' (c4 f.chans)) (hY':ck Y' (bT f.bands)) (hZ':ck Z' (ae f.fill)) :
  aS prog vE [frA f X Y Z,frA f X' Y' Z']=some (.d (.bool true)):=by
 have h0:=ang f hf X Y Z X' Y' Z' hX hX' 2 f.chans 0 rfl;have h2:=am7 f hf X Y Z X' Y' Z' hY hY' 2 f.bands 0 rfl;obtain⟨⟨x1,x2,x3⟩,x4,x5⟩:=hX.facts;obtain⟨⟨y1,y2,y3⟩,y4,y5⟩:=hY.facts;obtain⟨⟨z1,z2,z3⟩,z4,z5⟩:=hZ.facts;obtain⟨⟨a1,a2,a3⟩,a4,a5⟩:=hX'.facts;obtain⟨⟨b1,b2,b3⟩,b4,b5⟩:=hY'.facts;obtain⟨⟨d1,d2,d3⟩,d4,d5⟩:=hZ'.facts;have ts:∀ {W:AV},ck W (ae f.fill)→∀ h,EX h W=some (.str (f.fill.map Nat.toUInt8)):=fun {W} hW h=>by
  rcases hW with rfl | ⟨rfl,e⟩
  ·exact afb
  ·have:f.fill=[]:=List.eq_nil_of_length_eq_zero (by rw[←ba (l:=f.fill),e];rfl);rw[this];rfl
 have t1:=ts hZ;have t2:=ts hZ';have c0:((0:Nat):Int)=0:=rfl;rw[c0]at h0 h2;simp only[Hg,Q0,frA]at h0 h2⊢;rw[ao GW FB rfl];simp (maxSteps:=300000) (disch:=omega) [↓if_pos,↓if_neg,-aV,x1,x2,x3,x4,x5,y1,y2,y3,y4,y5,z1,z2,z3,z4,z5,a1,a2,a3,a4,a5,b1,b2,b3,b4,b5,d1,d2,d3,d4,d5,t1,t2,h0,h2]
theorem acE {w:AV}{b:Bool}(e:ed w=.d (.bool b)):w=.d (.bool b):=by
 unfold ed at e;split at e
 ·cases w<;>simp[kX,kM,ji]at e⊢<;>exact e
 ·exact e
theorem akZ {h:af}{v:AV}{b:Bool}(e:dF h v=some (.d (.bool b))):v=.d (.bool b):=by
 unfold dF at e;split at e
 ·split at e
  ·simp only[Option.some.injEq]at e;exact absurd (acE e) (by simp)
  ·simp at e
 ·split at e
  ·rename_i x q hq;simp only[Option.some.injEq]at e;have hx:=acE e;subst hx;unfold c5 at hq;split at hq
   ·split at hq<;>simp at hq
   ·unfold fD at hq;split at hq
    ·simp only[Option.some.injEq,Prod.mk.injEq]at hq;exact hq.1
    ·simp at hq
    ·simp at hq
    ·split at hq
     ·split at hq<;>simp at hq
     ·simp at hq
    ·simp at hq
  ·simp at e
theorem GX {P:Nat→Option aa}{f:FuncId}{as:List AV}{b:Bool}(h:aS P f as=some (.d (.bool b))):∃ m hs,(run P m).call f as ⟨[],0⟩=some (.d (.bool b),hs):=by
 unfold aS at h
 cases hc:(Dn P).call f as ⟨[],0⟩ with
 | none=>rw[hc]at h;simp[nC]at h
 | some q =>
  obtain⟨v,hs⟩:=q;rw[hc]at h;have:=akZ h;subst this;obtain⟨m,hm⟩:=wp hc;exact⟨m,hs,hm⟩
def xG:List Ty:=[.int .i64,.int .i64,.bool,.int .i64]
structure gb.Rng (f:gb):Prop where
 chans:∀ c∈f.chans,c.Rng
 mask:i64 f.mask
 fill:∀ n∈f.fill,n≤255
theorem KN {d:D}(h:nP (.lst [.int .u8]) d):∃ l:List Nat,d=.lst (ae l)∧∀ n∈l,n≤255:=by
 obtain⟨xs,rfl,h⟩:=apg h;obtain⟨l,rfl,hl⟩:=ab6 (f:=fun n:Nat=>[.int .u8 (n:Int)]) (Q:=fun n=>n≤255) (fun x hx=>by
  obtain⟨d,rfl,hd⟩:=M9 hx;obtain⟨n,rfl,hn⟩:=aly hd;exact⟨n,rfl,hn⟩) h
 exact⟨l,rfl,hl⟩
theorem gb.Rng.fit {f:gb}(h:f.Rng) (s:ars f):f.Fit where
 chans:=⟨by have:=s.chans.1;omega,fun c hc=>(h.chans c hc).fit (s.chans.2 c hc)⟩
 mask:=h.mask
 bands:=⟨by have:=s.bands.1;omega,fun l hl=>by have:=s.bands.2 l hl;omega⟩
 fill:=by have:=s.fill;omega
 fillI:=h.fill
theorem Xs {x:List D}(h:OkDs xG x):∃ (rt n:Int) (cb:Bool) (cz:Int),x.map AV.d=[AV.d (.int .i64 rt),.d (.int .i64 n),.d (.bool cb),.d (.int .i64 cz)]:=by
 obtain⟨a1,r,rfl,h1,h⟩:=aj6 h;obtain⟨a2,r,rfl,h2,h⟩:=aj6 h;obtain⟨a3,r,rfl,h3,h⟩:=aj6 h;obtain⟨a4,rfl,h4⟩:=M9 h;obtain⟨n1,rfl,_⟩:=WZ h1;obtain⟨n2,rfl,_⟩:=WZ h2;obtain⟨b3,rfl⟩:=aoo h3;obtain⟨n4,rfl,_⟩:=WZ h4;exact⟨n1,n2,b3,n4,rfl⟩
theorem aiI {b:List Nat}(hb:b.length≤1000000000) (h8:b.length % 8=0) (hbin:bin b) {r:Nat}(hr:r≤11) {n:Int}(hn:n=1∨n=2) {f:gb}{m:Nat}(e:DI b r n=.ok f m) :
  (f.Fit∧aq4 r n f)∧b=wrB r n f∧At b 0 m (adC r n f)∧b.length≤m+7:=by
 unfold DI at e;obtain⟨f2,m2,e1,e⟩:=ak.1 e;by_cases hc:b.length-m2≤7∧1∉b.drop m2
 rotate_left
 ·rw[if_neg hc]at e;exact absurd e (by simp)
 rw[if_pos hc]at e;injection e with g1 g2
 subst g1 g2;obtain⟨h1,h2,hA⟩:=aiR hb hr hn e1;refine⟨⟨h1,h2⟩,?_,hA,by omega⟩;have hle:=bv hA;obtain⟨_,hm,t,ht⟩:=hA;rw[List.drop_zero]at ht;have hmt:t=b.drop m2:=by rw[ht,hm,Nat.zero_add,List.drop_left]
 have htz:t=List.replicate t.length 0:=List.eq_replicate_iff.2 ⟨rfl,fun x hx=>by
  have h0:=hbin x (by rw[ht];exact List.mem_append_right _ hx);have h1:x≠1:=fun h=>hc.2 (by rw[←hmt,←h];exact hx)
  omega⟩
 have htl:t.length=aiF (adC r n f2).length:=by
  have:=congrArg List.length ht;rw[List.length_append]at this;unfold aiF;omega
 rw[ht,htz,htl];rfl
theorem N6 {h:af}{l:List Nat}{a:Nat}(ha:a≤l.length) (hl:l.length≤1000000000):gX h 1 (.d (.lst (ae l))) none (some (.d (.int .i64 (a:Int)))) none=some (.d (.lst (ae (l.take a)))):=by
 have e2:cB (.d (.int .i64 (a:Int))) (ae l).length=some a:=by rw[An (by omega) (by rw[ba];omega)];simp
 have e3:uq 1 (ae l)=true:=by cases l<;>rfl
 simp only[gX,okSl,qq,lenOf,sm,qu,e2,e3,sub];have e4:((ae l).drop 0).take (a-0)=ae (l.take a):=by
  unfold ae;rw[List.drop_zero,Nat.sub_zero,List.map_take]
 rw[e4]
theorem Ql {H:Type}:∀ {ds:List (DataW H)},eg [(true,xG),(false,[.lst [.int .u8]])] ds→(∃ d1 d2,ds=[d1,d2])∧∃ (rt n:Int) (cb:Bool) (cz:Int) (l:List Nat),(∀ x∈l,x≤255)∧pV [(true,xG),(false,[Ty.lst [.int .u8]])] ds=[fQ rt n cb cz,.d (.lst (ae l))]
 | [d1,d3],h=>by
  simp only[eg,and_true]at h;obtain⟨h1,h3⟩:=h;obtain⟨rt,n,cb,cz,e1⟩:=Xs h1;obtain⟨x3,e3,h3⟩:=M9 h3;obtain⟨k,rfl,hk⟩:=KN h3;refine⟨⟨_,_,rfl⟩,rt,n,cb,cz,k,hk,?_⟩;simp only[pV,e3,Ku,e1]
 | [],h=>by simp[eg]at h
 | [_],h=>by simp[eg]at h
 | _::_::_::_,h=>by simp[eg]at h
structure oY where
 rate:Int
 chans:Int
 crc:Bool
 len:Int
 full:Int
abbrev oY.cells (h:oY):List AV:=[.d (.int .i64 h.rate),.d (.int .i64 h.chans),.d (.bool h.crc),.d (.int .i64 h.len),.d (.int .i64 h.full)]
abbrev tE:oY:=⟨0,0,false,0,0⟩
def dD (c:Bool):Nat:=if c then 9 else 7
theorem Jr (c:Bool):aS prog MP [.d (.bool c)]=some (.d (.int .i64 (dD c))):=by
 rw[ao abv aat rfl]
 cases c
 ·simp (maxSteps:=300000) (disch:=omega) [↓if_pos,↓if_neg,dD]
 ·simp (maxSteps:=300000) (disch:=omega) [↓if_pos,↓if_neg,dD]
def ln (h:oY):Prop:=(0≤h.rate∧h.rate≤11)∧(h.chans=1∨h.chans=2)∧(0≤h.full∧h.full≤2047)∧(dD h.crc:Int)<h.len∧h.len≤dD h.crc+192*h.chans
instance (h:oY):Decidable (ln h):=by unfold ln;infer_instance
theorem adQ (h:oY):aS prog IM [.agg h.cells]=some (.d (.bool (decide (ln h)))):=by
 obtain⟨r,n,c,l,f⟩:=h;have hs:=Jr c;have h79:dD c=7∨dD c=9:=by cases c<;>simp[dD]
 rw[ao W3 Xc rfl];by_cases h1:0≤r
 rotate_left
 ·rw[decide_eq_false (by simp only[ln];omega)];generalize dD c=S at *;simp (maxSteps:=300000) (disch:=omega) [↓if_pos,↓if_neg,hs]
 by_cases h2:r≤11
 rotate_left
 ·rw[decide_eq_false (by simp only[ln];omega)];generalize dD c=S at *;simp (maxSteps:=300000) (disch:=omega) [↓if_pos,↓if_neg,hs]
 by_cases h3:n=1∨n=2
 rotate_left
 ·rw[decide_eq_false (by simp only[ln];omega)];generalize dD c=S at *;simp (maxSteps:=300000) (disch:=omega) [↓if_pos,↓if_neg,hs]
 by_cases h4:0≤f
 rotate_left
 ·rw[decide_eq_false (by simp only[ln];omega)];generalize dD c=S at *;rcases h3 with rfl | rfl<;>simp (maxSteps:=300000) (disch:=omega) [↓if_pos,↓if_neg,hs]
 by_cases h5:f≤2047
 rotate_left
 ·rw[decide_eq_false (by simp only[ln];omega)];generalize dD c=S at *;rcases h3 with rfl | rfl<;>simp (maxSteps:=300000) (disch:=omega) [↓if_pos,↓if_neg,hs]
 by_cases h6:(dD c:Int)<l
 rotate_left
 ·rw[decide_eq_false (by simp only[ln];omega)];generalize dD c=S at *;rcases h3 with rfl | rfl<;>simp (maxSteps:=300000) (disch:=omega) [↓if_pos,↓if_neg,hs]
 by_cases h7:l≤dD c+192*n
 ·rw[decide_eq_true (by simp only[ln];omega)];generalize dD c=S at *;rcases h3 with rfl | rfl<;>simp (maxSteps:=300000) (disch:=omega) [↓if_pos,↓if_neg,hs]
 ·rw[decide_eq_false (by simp only[ln];omega)];generalize dD c=S at *;rcases h3 with rfl | rfl<;>simp (maxSteps:=300000) (disch:=omega) [↓if_pos,↓if_neg,hs]
theorem KD {l:List Nat}{i x:Nat}{r:List Nat}(h:l.drop i=x::r):(ae l)[i]?=some [.int .u8 (x:Int)]:=by
 have:=congrArg (fun l=>l[0]?) h;simp only[List.getElem?_drop,List.getElem?_cons_zero,Nat.add_zero]at this;exact mN this
theorem ak1 (x y:List Nat) (hl:x.length=y.length) (hx:x.length≤1000000):∀ (r s:List Nat) (i:Nat),x.drop i=r→y.drop i=s→
  (Dn prog).code (.loop gG) ⟨[(0,.d (.lst (ae x))),(1,.d (.lst (ae y))),(12,.d (.int .i64 x.length)),(13,.d (.int .i64 i))],⟨[],0⟩⟩ =
  if r=s then some (.exit 0,⟨[],⟨[],0⟩⟩) else some (.ret,⟨[(4,.d (.bool false))],⟨[],0⟩⟩):=by
 intro r
 induction r with
 | nil =>
  intro s i h1 h2;have hi:=bn h1;have hs:s=[]:=by rw[←h2];exact List.drop_eq_nil_of_le (by omega)
  rw[hs,if_pos rfl,ac qS];simp (maxSteps:=300000) (disch:=omega) [↓if_pos,↓if_neg]
 | cons a r ih =>
  intro s i h1 h2;have hi:=bR h1;obtain⟨b,s,rfl⟩:∃ b s',s=b::s':=by
   cases s with
   | nil=>have:=bn h2;omega
   | cons b s=>exact⟨b,s,rfl⟩
  have g1:=KD h1;have g2:=KD h2;have d1:x.drop (i+1)=r:=by rw[←List.tail_drop,h1];rfl
  have d2:y.drop (i+1)=s:=by rw[←List.tail_drop,h2];rfl
  have ih1:=ih s (i+1) d1 d2;rw[show ((i+1:Nat):Int)=(i:Int)+1 from rfl]at ih1;rw[ac qS];by_cases hab:a=b
  ·subst hab;have e:(a::r=a::s)=(r=s):=by simp
   simp only[e];rw[←ih1];simp (maxSteps:=300000) (disch:=omega) [↓if_pos,↓if_neg,g1,g2]
  ·have e:¬ (a::r=b::s):=by simp[hab]
   rw[if_neg e];simp (maxSteps:=300000) (disch:=omega) [↓if_pos,↓if_neg,g1,g2,hab]
theorem ae9 (x y:List Nat) (hx:x.length≤1000000) (hy:y.length≤1000000):aS prog uS [.d (.lst (ae x)),.d (.lst (ae y))]=some (.d (.bool (decide (x=y)))):=by
 have hxl:=ba (l:=x);have hyl:=ba (l:=y);rw[ao FZ Fz rfl];by_cases h:x.length=y.length
 ·have h0:=ak1 x y h hx x y 0 rfl rfl;have c0:((0:Nat):Int)=0:=rfl;rw[c0]at h0;by_cases e:x=y
  ·rw[if_pos e]at h0;rw[decide_eq_true e];generalize ae x=X at *;generalize ae y=Y at *;simp (maxSteps:=300000) (disch:=omega) [↓if_pos,↓if_neg,h0,hxl,hyl]
  ·rw[if_neg e]at h0;rw[decide_eq_false e];generalize ae x=X at *;generalize ae y=Y at *;simp (maxSteps:=300000) (disch:=omega) [↓if_pos,↓if_neg,h0,hxl,hyl]
 ·rw[decide_eq_false (fun e=>h (by rw[e]))];generalize ae x=X at *;generalize ae y=Y at *;simp (maxSteps:=300000) (disch:=omega) [↓if_pos,↓if_neg,hxl,hyl]
def cN (c:Bool):Int:=if c then 0 else 1
def kl (h:oY):List Int:=[4095,12,0,1,0,2,cN h.crc,1,1,2,h.rate,4,0,1,h.chans,3,0,1,0,1,0,2,h.len,13,h.full,11,0,2]
def Hy (h:oY):List AV:=(kl h).map fun n=>.d (.int .i64 n)
theorem LO (h:oY):aS prog VT [.agg h.cells]=some (.agg (Hy h)):=by
 obtain⟨r,n,c,l,f⟩:=h
 cases c
 ·exact tY 300 (by kernel_rfl)
 ·exact tY 300 (by kernel_rfl)
def fB (h:oY) (i:Nat):List Nat:=aF ((kl h).getD (2*i) 0).toNat ((kl h).getD (2*i+1) 0).toNat
def ki (h:oY) (i:Nat):List Nat:=(List.range i).flatMap (fB h)
theorem YW {h:oY}{i:Nat}:ki h (i+1)=ki h i++fB h i:=by
 rw[ki,List.range_succ,List.flatMap_append];simp[ki]
theorem aoZ {h:oY}:∀ {i:Nat},i<14→(fB h i).length≤13:=by
 intro i hi;rw[fB,ti];obtain rfl | rfl | rfl | rfl | rfl | rfl | rfl | rfl | rfl | rfl | rfl | rfl | rfl | rfl:i=0∨i=1∨i=2∨i=3∨i=4∨i=5∨i=6∨i=7∨i=8∨i=9∨i=10∨i=11∨i=12∨i=13:=by omega
 all_goals simp[kl]
theorem TS {h:oY}:∀ {i:Nat},i≤14→(ki h i).length≤13*i
 | 0,_=>by simp[ki]
 | i+1,hi=>by
  have h1:=TS (h:=h) (i:=i) (by omega);have h2:=aoZ (h:=h) (i:=i) (by omega);rw[YW,List.length_append];omega
theorem ane {h:oY}(ok:ln h) {i:Nat}(hi:i<14):CV ((kl h).getD (2*i) 0) ((kl h).getD (2*i+1) 0)∧(kl h).getD (2*i) 0≤10000:=by
 obtain⟨r,n,c,l,f⟩:=h;simp only[ln]at ok;have h79:dD c=7∨dD c=9:=by cases c<;>simp[dD]
 have hc:cN c=0∨cN c=1:=by cases c<;>simp[cN]
 obtain rfl | rfl | rfl | rfl | rfl | rfl | rfl | rfl | rfl | rfl | rfl | rfl | rfl | rfl:i=0∨i=1∨i=2∨i=3∨i=4∨i=5∨i=6∨i=7∨i=8∨i=9∨i=10∨i=11∨i=12∨i=13:=by omega
 all_goals simp[kl,CV];try omega
theorem G6 {h:oY}:(Hy h).map kU=Hy h∧shareAll (Hy h)=Hy h:=⟨rfl,rfl⟩
theorem ahC {h:oY}{i:Nat}(hi:i<14):ixV 14 2 true (.agg (Hy h)) (.d (.int .i64 i))=some (.agg [.d (.int .i64 ((kl h).getD (2*i) 0)),.d (.int .i64 ((kl h).getD (2*i+1) 0))]):=by
 obtain rfl | rfl | rfl | rfl | rfl | rfl | rfl | rfl | rfl | rfl | rfl | rfl | rfl | rfl:i=0∨i=1∨i=2∨i=3∨i=4∨i=5∨i=6∨i=7∨i=8∨i=9∨i=10∨i=11∨i=12∨i=13:=by omega
 all_goals rfl
theorem abG (h:oY) (ok:ln h):∀ (k i N:Nat) (x:AV),i+k=14→(x=.nl∧i=0∨x=.own false 1 (ae (ki h i))∧0<i)→
  ∃ M,(Dn prog).code (.loop lN) ⟨[(2,x),(6,.agg (Hy h)),(7,.d (.int .i64 i))],⟨[],N⟩⟩=some (.exit 0,⟨[(2,.own false 1 (ae (ki h 14)))],⟨[],M⟩⟩):=by
 intro k
 induction k with
 | zero =>
  intro i N x hi hx;obtain rfl:i=14:=by omega
  rcases hx with ⟨_,hx⟩ | ⟨rfl,_⟩
  ·omega
  refine⟨N,?_⟩;rw[ac zN];generalize ae (ki h 14)=W at *;simp (maxSteps:=300000) (disch:=omega) [↓if_pos,↓if_neg]
 | succ k ih =>
  intro i N x hi hx;have hP:=ane ok (i:=i) (by omega);have hX:=ahC (h:=h) (i:=i) (by omega);have hlw:=TS (h:=h) (i:=i) (by omega);obtain⟨M,ih1⟩:=ih (i+1) (N+1) (.own false 1 (ae (ki h (i+1)))) (by omega) (.inr ⟨rfl,by omega⟩);refine⟨M,?_⟩;rw[show ((i+1:Nat):Int)=(i:Int)+1 from rfl,YW]at ih1;have hB:∀ y:AV,(y=.d (.lst (ae (ki h i)))∨y=.nl∧ki h i=[])→aS prog qd [y,.d (.int .i64 ((kl h).getD (2*i) 0)),.d (.int .i64 ((kl h).getD (2*i+1) 0))]=some (.tup [.own true 1 (ae (ki h i++fB h i)),.d (.int .i64 0)]):=fun y hy=>by
   have:=aiY (ki h i) ((kl h).getD (2*i) 0) ((kl h).getD (2*i+1) 0) (by omega) (by have:=hP.1;have:=hP.2;simp only[CV]at *;omega) y hy;rw[if_pos hP.1]at this;exact this
  have hwl:=ba (l:=ki h i);rw[←ih1];clear ih ih1;obtain⟨hfm,hfs⟩:=G6 (h:=h);rw[ac zN];generalize ki h i++fB h i=Q at *;generalize (kl h).getD (2*i) 0=A at *;generalize (kl h).getD (2*i+1) 0=B at *;generalize Hy h=F at *;rcases hx with ⟨rfl,rfl⟩ | ⟨rfl,h0⟩
  ·have hb:=hB .nl (.inr ⟨rfl,rfl⟩);have c0:((0:Nat):Int)=0:=rfl;rw[c0]at hX⊢;simp (maxSteps:=300000) (disch:=omega) [↓if_pos,↓if_neg,hfm,hfs,hX,hb]
  ·have hb:=hB (.d (.lst (ae (ki h i)))) (.inl rfl);generalize ae (ki h i)=Z at *;generalize ae Q=V at *;simp (maxSteps:=300000) (disch:=omega) [↓if_pos,↓if_neg,hfm,hfs,hX,hb]
theorem WT (h:oY) (ok:ln h):aS prog wC [.agg h.cells]=some (.own true 1 (ae (ki h 14))):=by
 have hf:=LO h;obtain⟨M,hl⟩:=abG h ok 14 0 1 .nl rfl (.inl ⟨rfl,rfl⟩);have c0:((0:Nat):Int)=0:=rfl;obtain⟨hfm,hfs⟩:=G6 (h:=h);rw[c0]at hl;rw[ao Tr SO rfl];generalize Hy h=F at *;simp (maxSteps:=300000) (disch:=omega) [↓if_pos,↓if_neg,hf,hfm,hfs,hl]
def gv (l:List Nat) (a s:Nat):Nat:=val ((l.drop a).take s) 0
theorem ask {l:List Nat}(hl:l.length=56) (hb:bin l) {a s:Nat}(h:a+s≤56) (hs:s≤31):aS prog qm [.d (.lst (ae l)),.d (.int .i64 a),.d (.int .i64 s)]=some (.tup [.d (.int .i64 (gv l a s)),.d (.int .i64 ((a+s:Nat):Int)),.d (.int .i64 0)]):=by
 have hd:bin ((l.drop a).take s):=fun x hx=>hb x (List.mem_of_mem_drop (List.mem_of_mem_take hx))
 have hg:aw l (a:Int) (s:Int)=.ok (gv l a s) (a+s):=by
  unfold aw;rw[if_pos (by omega),if_neg (by omega),Int.toNat_natCast,Int.toNat_natCast,if_pos hd];rfl
 have hv:gv l a s<2 ^ s:=by
  have:=Ed (n:=0) (i:=0) hd (by omega);have e:((l.drop a).take s).length=s:=by rw[List.length_take,List.length_drop];omega
  rw[e,Nat.zero_add]at this;exact this
 rw[dz l a s (by omega) (by omega),hg,bV ⟨by rw[Int.toNat_natCast];exact hv,by omega⟩]
def uv (l:List Nat) (i:Nat):oY:=⟨if 5<i then gv l 18 4 else 0,if 7<i then gv l 23 3 else 0,if 3<i then decide (gv l 15 1=0) else false,if 11<i then gv l 30 13 else 0,if 12<i then gv l 43 11 else 0⟩
def jx (l:List Nat):oY:=⟨gv l 18 4,gv l 23 3,decide (gv l 15 1=0),gv l 30 13,gv l 43 11⟩
def px:List Nat:=[0,12,13,15,16,18,22,23,26,27,28,30,43,54,56]
theorem ami (X:AV) (l:List Nat) (hl:l.length=56) (hb:bin l):∀ (k i N:Nat),i+k=14→1≤N→
  ∃ M,N≤M∧(Dn prog).code (.loop p9) ⟨[(0,X),(2,.ptr 0 0),(4,.own false 1 (ae l)),(6,.d (.int .i64 (px.getD i 0))),(23,.agg (Hy tE)),(24,.d (.int .i64 i))],⟨[(0,.cells (uv l i).cells)],N⟩⟩ =
   some (.exit 0,⟨[(0,X),(2,.ptr 0 0),(4,.own false 1 (ae l))],⟨[(0,.cells (jx l).cells)],M⟩⟩):=by
 intro k
 induction k with
 | zero =>
  intro i N hi hN;obtain rfl:i=14:=by omega
  refine⟨N,Nat.le_refl _,?_⟩;rw[ac Er];generalize ae l=W at *;simp (maxSteps:=300000) (disch:=omega) [↓if_pos,↓if_neg,uv,jx]
 | succ k ih =>
  intro i N hi hN;have hg:=fun a s h1 h2=>ask hl hb (a:=a) (s:=s) h1 h2
  obtain⟨M,hM,ih1⟩:=ih (i+1) (N+1) (by omega) (by omega);refine⟨M,by omega,?_⟩;rw[show ((i+1:Nat):Int)=(i:Int)+1 from rfl]at ih1;rw[←ih1];clear ih ih1;rw[ac Er];obtain⟨hfm,hfs⟩:=G6 (h:=tE);have hX:=ahC (h:=tE) (i:=i) (by omega);generalize Hy tE=F at *;generalize ae l=W at *;obtain rfl | rfl | rfl | rfl | rfl | rfl | rfl | rfl | rfl | rfl | rfl | rfl | rfl | rfl:i=0∨i=1∨i=2∨i=3∨i=4∨i=5∨i=6∨i=7∨i=8∨i=9∨i=10∨i=11∨i=12∨i=13:=by omega
  ·have h:=hg 0 12 (by omega) (by omega);simp at h;simp[kl,cN]at hX;simp (maxSteps:=300000) (disch:=omega) [↓if_pos,↓if_neg,uv,px,hfm,hfs,hX,h]
  ·have h:=hg 12 1 (by omega) (by omega);simp at h;simp[kl,cN]at hX;simp (maxSteps:=300000) (disch:=omega) [↓if_pos,↓if_neg,uv,px,hfm,hfs,hX,h]
  ·have h:=hg 13 2 (by omega) (by omega);simp at h;simp[kl,cN]at hX;simp (maxSteps:=300000) (disch:=omega) [↓if_pos,↓if_neg,uv,px,hfm,hfs,hX,h]
  ·have h:=hg 15 1 (by omega) (by omega);simp at h;simp[kl,cN]at hX;by_cases hz:gv l 15 1=0
   ·rw[hz]at h;simp (maxSteps:=300000) (disch:=omega) [↓if_pos,↓if_neg,uv,px,hfm,hfs,hX,h,hz]
   ·simp (maxSteps:=300000) (disch:=omega) [↓if_pos,↓if_neg,uv,px,hfm,hfs,hX,h,hz]
  ·have h:=hg 16 2 (by omega) (by omega);simp at h;simp[kl,cN]at hX;simp (maxSteps:=300000) (disch:=omega) [↓if_pos,↓if_neg,uv,px,hfm,hfs,hX,h]
  ·have h:=hg 18 4 (by omega) (by omega);simp at h;simp[kl,cN]at hX;simp (maxSteps:=300000) (disch:=omega) [↓if_pos,↓if_neg,uv,px,hfm,hfs,hX,h]
  ·have h:=hg 22 1 (by omega) (by omega);simp at h;simp[kl,cN]at hX;simp (maxSteps:=300000) (disch:=omega) [↓if_pos,↓if_neg,uv,px,hfm,hfs,hX,h]
  ·have h:=hg 23 3 (by omega) (by omega);simp at h;simp[kl,cN]at hX;simp (maxSteps:=300000) (disch:=omega) [↓if_pos,↓if_neg,uv,px,hfm,hfs,hX,h]
  ·have h:=hg 26 1 (by omega) (by omega);simp at h;simp[kl,cN]at hX;simp (maxSteps:=300000) (disch:=omega) [↓if_pos,↓if_neg,uv,px,hfm,hfs,hX,h]
  ·have h:=hg 27 1 (by omega) (by omega);simp at h;simp[kl,cN]at hX;simp (maxSteps:=300000) (disch:=omega) [↓if_pos,↓if_neg,uv,px,hfm,hfs,hX,h]
  ·have h:=hg 28 2 (by omega) (by omega);simp at h;simp[kl,cN]at hX;simp (maxSteps:=300000) (disch:=omega) [↓if_pos,↓if_neg,uv,px,hfm,hfs,hX,h]
  ·have h:=hg 30 13 (by omega) (by omega);simp at h;simp[kl,cN]at hX;simp (maxSteps:=300000) (disch:=omega) [↓if_pos,↓if_neg,uv,px,hfm,hfs,hX,h]
  ·have h:=hg 43 11 (by omega) (by omega);simp at h;simp[kl,cN]at hX;simp (maxSteps:=300000) (disch:=omega) [↓if_pos,↓if_neg,uv,px,hfm,hfs,hX,h]
  ·have h:=hg 54 2 (by omega) (by omega);simp at h;simp[kl,cN]at hX;simp (maxSteps:=300000) (disch:=omega) [↓if_pos,↓if_neg,uv,px,hfm,hfs,hX,h]
def iO (b:List Nat):Int:=if b.length<7∨b.length<dD (jx (bJ (b.take 7))).crc then 5 else if ln (jx (bJ (b.take 7)))∧ki (jx (bJ (b.take 7))) 14=bJ (b.take 7) then 0 else 8
def aD (b:List Nat):oY:=if iO b=0 then jx (bJ (b.take 7)) else tE
theorem IF (b:List Nat) (hb:b.length≤100000) (hb2:∀ x∈b,x≤255) (X:AV) (hX:ck X (ae b)):aS prog MJ [X]=some (.tup [.agg (aD b).cells,.d (.int .i64 (iO b))]):=by
 obtain⟨⟨x1,x2,x3⟩,x4,x5⟩:=hX.facts;rw[ba]at x5;by_cases h7:b.length<7
 ·have e:iO b=5:=by rw[iO,if_pos (.inl h7)]
  have e2:aD b=tE:=by rw[aD,e,if_neg (by decide)]
  rw[e,e2,ao ML MT rfl];simp (maxSteps:=300000) (disch:=omega) [↓if_pos,↓if_neg,x1,x2,x3,x4,x5]
 have hne:ae b≠[]:=fun h=>by
  have:=congrArg List.length h;rw[ba,List.length_nil]at this;omega
 rw[hX.ne hne];have hs7:∀ h,gX h 1 (.d (.lst (ae b))) none (some (.d (.int .i64 7))) none=some (.d (.lst (ae (b.take 7)))):=fun h=>N6 (h:=h) (a:=7) (by omega) (by omega)
 have hU:=DP (b.take 7) (by rw[List.length_take];omega) (fun x hx=>hb2 x (List.mem_of_mem_take hx)) _ ck.d;have hbl:=ba (l:=b);obtain⟨l,hl⟩:∃ l,l=bJ (b.take 7):=⟨_,rfl⟩
 have hl56:l.length=56:=by rw[hl,tB,List.length_take];omega
 have hbin:bin l:=by rw[hl];exact Tf
 rw[←hl]at hU;have hf:=LO tE;obtain⟨M,hM,h0⟩:=ami (.d (.lst (ae b))) l hl56 hbin 14 0 1 rfl (by omega);have c0:((0:Nat):Int)=0:=rfl;have hi0:uv l 0=tE:=by simp[uv]
 have ho0:((px.getD 0 0:Nat):Int)=0:=rfl;rw[c0,hi0,ho0]at h0;have hS:=Jr (jx l).crc;have hR:=adQ (jx l);have hW:ln (jx l)→aS prog wC [.agg (jx l).cells]=some (.own true 1 (ae (ki (jx l) 14))):=WT _;have hwl:=TS (h:=jx l) (i:=14) (by omega);have hE:=ae9 (ki (jx l) 14) l (by omega) (by omega);have h79:dD (jx l).crc=7∨dD (jx l).crc=9:=by cases (jx l).crc<;>simp[dD]
 have eE:iO b=if b.length<dD (jx l).crc then 5 else if ln (jx l)∧ki (jx l) 14=l then 0 else 8:=by
  rw[iO,←hl];by_cases hq:b.length<dD (jx l).crc
  ·rw[if_pos (Or.inr hq),if_pos hq]
  ·rw[if_neg (by omega),if_neg hq]
 have eH:aD b=if iO b=0 then jx l else tE:=by rw[aD,←hl]
 rw[eH,eE];clear eH eE;obtain⟨hfm,hfs⟩:=G6 (h:=tE);generalize Hy tE=F at *;generalize jx l=h at *;obtain⟨r,n,c,len,fu⟩:=h;simp only[]at hS h79⊢;generalize dD c=S at *;rw[ao ML MT rfl];generalize ae (b.take 7)=T7 at *;generalize ae b=B at *;generalize ae l=L at *;by_cases h1:b.length<S
 ·rw[if_pos h1,if_neg (show ¬ (5:Int)=0 by decide)];simp (maxSteps:=300000) (disch:=omega) [↓if_pos,↓if_neg,hs7,hU,hf,hfm,hfs,h0,hS,hR,hE,hbl]
 ·rw[if_neg h1];by_cases h2:ln ⟨r,n,c,len,fu⟩
  ·have hW:=hW h2;rw[decide_eq_true h2]at hR;by_cases h3:ki ⟨r,n,c,len,fu⟩ 14=l
   ·rw[if_pos (And.intro h2 h3),if_pos rfl];rw[decide_eq_true h3]at hE;generalize ae (ki ⟨r,n,c,len,fu⟩ 14)=W at *;simp (maxSteps:=300000) (disch:=omega) [↓if_pos,↓if_neg,hs7,hU,hf,hfm,hfs,h0,hS,hR,hW,hE,hbl]
   ·rw[if_neg (fun h=>h3 (And.right h)),if_neg (show ¬ (8:Int)=0 by decide)];rw[decide_eq_false h3]at hE;generalize ae (ki ⟨r,n,c,len,fu⟩ 14)=W at *;simp (maxSteps:=300000) (disch:=omega) [↓if_pos,↓if_neg,hs7,hU,hf,hfm,hfs,h0,hS,hR,hW,hE,hbl]
  ·rw[if_neg (fun h=>h2 (And.left h)),if_neg (show ¬ (8:Int)=0 by decide)];rw[decide_eq_false h2]at hR;simp (maxSteps:=300000) (disch:=omega) [↓if_pos,↓if_neg,hs7,hU,hf,hfm,hfs,h0,hS,hR,hbl]
def Am (w x:Nat):Nat:=if w / 32768=x then 2*w % 65536 else (2*w % 65536) ^^^ 32773
theorem Xn {w x:Nat}:Am w x<65536:=by
 unfold Am;split
 ·omega
 ·exact Nat.xor_lt_two_pow (n:=16) (by omega) (by omega)
theorem ajv (w x:Nat) (hw:w<65536) (hx:x≤1) (N:Nat):(Dn prog).call Be [.d (.int .u8 x),.ptr 0 0] ⟨[(0,.cells [.d (.int .u16 w)])],N⟩=some (.tup [],⟨[(0,.cells [.d (.int .u16 (Am w x))])],N⟩):=by
 have e1:(w:Int).fdiv 32768=((w / 32768:Nat):Int):=by rw[Int.fdiv_eq_ediv_of_nonneg _ (by omega)];rfl
 have e3:((w:Int)*2) % 65536=((2*w % 65536:Nat):Int):=by omega
 have hq:w / 32768≤1:=by omega
 have tn:jw .u16=65536:=rfl;have hx2:=aqM (k:=.u16) (a:=2*w % 65536) (b:=32773) (by rw[tn];omega) (by rw[tn];omega) (by rw[tn];exact Nat.xor_lt_two_pow (x:=2*w % 65536) (y:=32773) (n:=16) (by omega) (by omega));have hw2:wr .u16 ((w:Int)*2)=((2*w % 65536:Nat):Int):=by
  rw[ab1,←e3];rfl
 have c2:((32773:Nat):Int)=32773:=rfl;rw[c2]at hx2;unfold Am;generalize hd:2*w % 65536=d at *;generalize hy:d ^^^ 32773=y at *;generalize hqq:w / 32768=q at *;have hdl:d<65536:=by omega
 rw[aN ZC Xq rfl];by_cases h:q=x
 ·subst h;simp (maxSteps:=300000) (disch:=omega) [↓if_pos,↓if_neg,e1,hw2]
 ·have h2:¬ (q:Int)=x:=by omega
  rw[if_neg h];simp (maxSteps:=300000) (disch:=omega) [↓if_pos,↓if_neg,e1,hw2,h2,hx2]
theorem apH (b:List Nat) (hb:bin b) (hl:b.length≤1000000):∀ (r:List Nat) (i w:Nat),b.drop i=r→w<65536→
  (Dn prog).code (.loop sX) ⟨[(6,.ptr 0 0),(7,.fn Be [] [.ptr 0 0]),(19,.d (.lst (ae b))),(20,.d (.int .i64 b.length)),(21,.d (.int .i64 i))],⟨[(0,.cells [.d (.int .u16 w)])],1⟩⟩ =
  some (.exit 0,⟨[(6,.ptr 0 0)],⟨[(0,.cells [.d (.int .u16 ((r.foldl Am w:Nat):Int))])],1⟩⟩):=by
 intro r
 induction r with
 | nil =>
  intro i w h1 hw;have hi:=bn h1;rw[ac HF];simp (maxSteps:=300000) (disch:=omega) [↓if_pos,↓if_neg]
 | cons a r ih =>
  intro i w h1 hw;have hi:=bR h1;have g1:=KD h1;have d1:b.drop (i+1)=r:=by rw[←List.tail_drop,h1];rfl
  have ha:a≤1:=hb a (List.mem_of_mem_drop (i:=i) (by rw[h1];exact .head _));have hc:=ajv w a hw ha 1;have ih1:=ih (i+1) (Am w a) d1 Xn;rw[show ((i+1:Nat):Int)=(i:Int)+1 from rfl]at ih1;rw[List.foldl_cons,←ih1,ac HF];generalize ae b=B at *;simp (maxSteps:=300000) (disch:=omega) [↓if_pos,↓if_neg,g1,hc]
def AO (b:List Nat):Nat:=b.foldl Am 65535
theorem ZT:∀ {b:List Nat}{w:Nat},w<65536→b.foldl Am w<65536
 | [],_,h=>h
 | a::r,w,_=>ZT (b:=r) Xn
theorem Kp {b:List Nat}:AO b<65536:=ZT (by omega)
theorem aqx (b:List Nat) (hb:bin b) (hl:b.length≤1000000):aS prog Xb [.d (.lst (ae b))]=some (.tup [.d (.int .i64 (AO b)),.d (.int .i64 0)]):=by
 have h0:=apH b hb hl b 0 65535 rfl (by omega);have c0:((0:Nat):Int)=0:=rfl;have c1:((65535:Nat):Int)=65535:=rfl;have hbl:=ba (l:=b);have hlt:=Kp (b:=b);rw[c0,c1]at h0;have hO:aS prog RU [.d (.int .i64 65535),.d (.lst (ae b))]=some (.tup [.d (.int .i64 (AO b)),.d (.int .i64 0)]):=by
  unfold AO at hlt⊢;rw[ao aet afr rfl];generalize b.foldl Am 65535=W at *;generalize ae b=B at *;simp (maxSteps:=300000) (disch:=omega) [↓if_pos,↓if_neg,h0,hbl]
 rw[ao ajq akN rfl];generalize ae b=B at *;simp (maxSteps:=300000) (disch:=omega) [↓if_pos,↓if_neg,hO]
theorem amX {h:af}{b:List Nat}(h1:1≤b.length) (h2:b.length≤900000000):cA 1 h .nl (ae b)=some (.own true 1 (ae b),h):=by
 cases b with
 | nil=>simp at h1
 | cons x r =>
  have e:ae (x::r)=[.int .u8 x]::ae r:=rfl;have e2:=ba (l:=r);rw[List.length_cons]at h2;rw[e,ant,e2,Nat.ble_eq_true_of_le (by simp only[aP];omega)];rfl
theorem aiO {h:af}{p:Bool}{a b:List Nat}(h1:a.length+b.length≤900000000):cA 1 h (.own p 1 (ae a)) (ae b)=some (.own false 1 (ae a++ae b),h):=by
 rw[abY,ba,ba,Nat.ble_eq_true_of_le (by simp only[aP];omega),Nat.ble_eq_true_of_le (by simp only[aP];omega)];rfl
theorem ap5 (xs:List (List Nat)) (hx:∀ x∈xs,(1≤x.length∧x.length≤10000)∧∀ n∈x,n≤255) (hxl:xs.length≤10):∀ (r:List (List Nat)) (i:Nat) (acc:List Nat) (A:AV),xs.drop i=r→(A=.nl∧acc=[]∨A=.own false 1 (ae acc))→acc.length≤80000*i→
  ∃ A',(A'=.nl∧acc++r.flatMap bJ=[]∨A'=.own false 1 (ae (acc++r.flatMap bJ)))∧(Dn prog).code (.loop su) ⟨[(3,A),(10,.d (.lst (vg xs))),(11,.d (.int .i64 xs.length)),(12,.d (.int .i64 i))],⟨[],0⟩⟩=some (.exit 0,⟨[(3,A')],⟨[],0⟩⟩):=by
 intro r
 induction r with
 | nil =>
  intro i acc A h1 hA ha;have hi:=bn h1;refine⟨A,by simpa using hA,?_⟩;rw[ac Hf];rcases hA with ⟨rfl,_⟩ | rfl
  ·simp (maxSteps:=300000) (disch:=omega) [↓if_pos,↓if_neg]
  ·generalize ae acc=C at *;simp (maxSteps:=300000) (disch:=omega) [↓if_pos,↓if_neg]
 | cons x r ih =>
  intro i acc A h1 hA ha;have hi:=bR h1;have g1:=agp h1;have d1:xs.drop (i+1)=r:=by rw[←List.tail_drop,h1];rfl
  obtain⟨⟨hx0,hx1⟩,hx2⟩:=hx x (List.mem_of_mem_drop (i:=i) (by rw[h1];exact .head _));have hU:=DP x (by omega) hx2 _ ck.d;have hul:=tB (l:=x);have hal:=ba (l:=acc);have hull:=ba (l:=bJ x);obtain⟨A',hA',ih1⟩:=ih (i+1) (acc++bJ x) (.own false 1 (ae (acc++bJ x))) d1 (.inr rfl) (by rw[List.length_append];omega);rw[List.append_assoc,←List.flatMap_cons]at hA';refine⟨A',hA',?_⟩;rw[show ((i+1:Nat):Int)=(i:Int)+1 from rfl,Jq]at ih1;rw[←ih1,ac Hf];clear ih ih1;have hxl2:=Uz (t:=xs);rcases hA with ⟨rfl,rfl⟩ | rfl
  ·have e0:ae []=[]:=rfl;rw[e0,List.nil_append];have ha1:=fun h=>amX (h:=h) (b:=bJ x) (by omega) (by omega)
   have ho:=Bb (l:=bJ x);generalize ae (bJ x)=V at *;generalize vg xs=XS at *;simp (maxSteps:=300000) (disch:=omega) [↓if_pos,↓if_neg,-getElem?_pos,g1,hU,ha1,ho]
  ·have ha1:=fun h p=>aiO (h:=h) (p:=p) (a:=acc) (b:=bJ x) (by omega)
   have ho:=Bb (l:=bJ x);generalize ae (bJ x)=V at *;generalize ae acc=C at *;generalize vg xs=XS at *;simp (maxSteps:=300000) (disch:=omega) [↓if_pos,↓if_neg,-getElem?_pos,-abY,g1,hU,ha1,ho]
theorem ajr (xs:List (List Nat)) (hx:∀ x∈xs,(1≤x.length∧x.length≤10000)∧∀ n∈x,n≤255) (hxl:xs.length≤10) (hne:xs.flatMap bJ≠[]):aS prog uP [.d (.lst (vg xs))]=some (.d (.int .i64 (AO (xs.flatMap bJ)))):=by
 obtain⟨A',hA',h0⟩:=ap5 xs hx hxl xs 0 [] .nl rfl (.inl ⟨rfl,rfl⟩) (by simp);have c0:((0:Nat):Int)=0:=rfl;rw[c0]at h0;rw[List.nil_append]at hA';have hbl:(xs.flatMap bJ).length≤80000*xs.length:=by
  clear h0 hA' hxl hne
  induction xs with
  | nil=>simp
  | cons x r ih =>
   have h1:=ih fun y hy=>hx y (.tail _ hy)
   have h2:=(hx x (.head _)).1.2;rw[List.flatMap_cons,List.length_append,List.length_cons,tB];omega
 have hxl2:=Uz (t:=xs);have hb:bin (xs.flatMap bJ):=fun y hy=>by
  obtain⟨x,_,hy⟩:=List.mem_flatMap.1 hy;exact Tf y hy
 have hC:=aqx (xs.flatMap bJ) hb (by omega);rw[ao adZ afw rfl];rcases hA' with ⟨rfl,hA'⟩ | rfl
 ·exact absurd hA' hne
 ·generalize ae (xs.flatMap bJ)=V at *;generalize vg xs=XS at *;simp (maxSteps:=300000) (disch:=omega) [↓if_pos,↓if_neg,hxl2,h0,hC]
def gZ (g:AV) (w:Bool) (x y:Option St):Option St :=
 match g with
 | .d (.bool b)=>match b == w with
  | true=>y
  | false=>x
 | .tup []=>x
 | _=>none
@[simp] theorem ayA {x y:Option St}:gZ (.d (.bool true)) true x y=y:=rfl
@[simp] theorem ay6 {x y:Option St}:gZ (.d (.bool false)) true x y=x:=rfl
theorem asG {g g2:AV}{w:Bool}{x y:Option St}(h:g=g2):gZ g w x y=gZ g2 w x y:=by rw[h]
attribute [congr] asG
@[simp] theorem axe {P:Nat→Option aa}{d s m:Nat}{w:Bool}{ps:List Rd}{e:aq}{hs:HS}:bl (Dn P) ⟨some d,some (s,w),.mks m ps,[]⟩ ⟨e,hs⟩=bA (get e s) fun g=>gZ g w (some ⟨put e d (.tup []),hs⟩) (aK P (.mks m ps) e hs fun v e hs=>some ⟨put e d (firm v),hs⟩):=by
 have h:=Et (P:=P) (i:=⟨some d,none,.mks m ps,[]⟩) (e:=e) (hs:=hs) (k:=fun e hs=>some ⟨e,hs⟩);have h2:Qn P ⟨some d,none,.mks m ps,[]⟩ e hs (fun e hs=>some ⟨e,hs⟩)=aK P (.mks m ps) e hs fun v e hs=>some ⟨put e d (firm v),hs⟩:=rfl
 rw[h2]at h;rw[h];unfold bl;simp only
 cases get e s with
 | none=>rfl
 | some g =>
  simp only[bA];have key:∀ x:Option St,x=bA x fun st=>some ⟨st.env,st.hs⟩:=fun x=>by cases x<;>rfl
  cases g with
  | d x =>
   cases x with
   | bool b =>
    unfold gZ;simp only
    cases b == w with
    | true=>exact key _
    | false=>rfl
   | _=>rfl
  | tup l=>cases l<;>rfl
  | _=>rfl
def Da (b:List Nat):Prop:=AO ([b.take 7,b.drop 9].flatMap bJ)=b.getD 7 0*256+b.getD 8 0
instance (b:List Nat):Decidable (Da b):=by unfold Da;infer_instance
def Vd (b:List Nat):R gb:=DI (bJ (b.drop (dD (aD b).crc))) (aD b).rate.toNat (aD b).chans
def iH (b:List Nat):Int :=
 if iO b≠0 then iO b
 else if (b.length:Int)<(aD b).len then 5
 else if (aD b).len<b.length then 8
 else if (aD b).crc=true∧¬ Da b then 250
 else match Vd b with
  | .ok _ _=>0
  | .er e=>((e+1:Nat):Int)
def Ma:gb:=⟨[],false,0,[],[]⟩
def CM (b:List Nat):gb:=if iH b=0 then (match Vd b with | .ok f _=>f | .er _=>Ma) else Ma
def Ur (b:List Nat):oY:=if iH b=0 then aD b else tE
def P4 (b:List Nat):List AV:=if iH b=0 then (CM b).ow else zF
theorem GC {b:List Nat}(h:iO b=0):ln (aD b)∧dD (aD b).crc≤b.length∧7≤b.length∧aD b=jx (bJ (b.take 7))∧ki (aD b) 14=bJ (b.take 7):=by
 have e:aD b=jx (bJ (b.take 7)):=by rw[aD,if_pos h]
 rw[e];unfold iO at h;split at h
 ·omega
 ·rename_i h1;split at h
  ·rename_i h2;exact⟨h2.1,by omega,by omega,rfl,h2.2⟩
  ·omega
theorem Te {x y:Nat}(hx:x≤255) (hy:y≤255):da .or (.d (.int .i64 ((x:Int)*256))) (.d (.int .i64 y))=some (.int .i64 ((x:Int)*256+y)):=by
 have e:=Nat.two_pow_add_eq_or_of_lt (i:=8) (b:=y) (by omega) x;have e2:x*256 ||| y=x*256+y:=by rw[show x*256=2 ^ 8*x by omega];exact e.symm
 have tn:jw .i64=9223372036854775808:=rfl;have h:=alg (k:=.i64) (a:=x*256) (b:=y) (by rw[tn];omega) (by rw[tn];omega) (by rw[e2,tn];omega);rw[e2]at h;simpa using h
theorem getD_some {b:List Nat}{i:Nat}(h:i<b.length):b[i]?=some (b.getD i 0):=by
 rw[List.getD_eq_getElem?_getD,List.getElem?_eq_getElem h];rfl
theorem Sn {x y:List Nat}:vg [x,y]=[[.lst (ae x)],[.lst (ae y)]]:=rfl
theorem ck.res {x:AV}{l:List (List D)}(h:ck x l):(∀ hp,fD hp x=some (x,hp))∧ji x=x:=by
 rcases h with rfl | ⟨rfl,rfl⟩<;>exact⟨fun _=>rfl,rfl⟩
theorem rd9 (b:List Nat) (hb:b.length≤9000) (h9:9≤b.length) (hb2:∀ x∈b,x≤255) (r n l f:Int) (O1 O2:List AV) (s:Int) (hsum:aS prog uP [.d (.lst [[.lst (ae (b.take 7))],[.lst (ae (b.drop 9))]])]=some (.d (.int .i64 s))) :
  ∃ E:aq,(Dn prog).code (.seq xk (K [0,43,44,45,46,47,48,49,50,51,52,53,54,55,56,57,58,59])) ⟨[(0,.d (.lst (ae b))),(2,.ptr 0 0),(3,.ptr 1 0),(5,.ptr 2 0),(7,.d (.lst (ae (b.drop 9))))],⟨[(0,.cells O1),(1,.cells O2),(2,.cells [.d (.int .i64 r),.d (.int .i64 n),.d (.bool true),.d (.int .i64 l),.d (.int .i64 f)])],3⟩⟩ =
  some (.normal,⟨[(2,.ptr 0 0),(3,.ptr 1 0),(5,.ptr 2 0),(7,.d (.lst (ae (b.drop 9)))),(60,.d (.bool (!decide (s=(b.getD 7 0:Nat)*256+(b.getD 8 0:Nat)))))],⟨[(0,.cells O1),(1,.cells O2),(2,.cells [.d (.int .i64 r),.d (.int .i64 n),.d (.bool true),.d (.int .i64 l),.d (.int .i64 f)])],3⟩⟩):=by
 refine⟨[],?_⟩;have st7:∀ h,gX h 1 (.d (.lst (ae b))) none (some (.d (.int .i64 7))) none=some (.d (.lst (ae (b.take 7)))):=fun h=>N6 (h:=h) (a:=7) (by omega) (by omega)
 have m7:∀ x,b.getD x 0≤255:=fun x=>by
  rw[List.getD_eq_getElem?_getD]
  cases h:b[x]? with
  | none=>simp
  | some v=>exact hb2 v (List.mem_of_getElem? h)
 have hob:=Te (m7 7) (m7 8);have m77:=m7 7;have m8:=m7 8;have hbl:=ba (l:=b);by_cases h8:9≤b.length
 ·have g7:=mN (getD_some (b:=b) (i:=7) (by omega));have g8:=mN (getD_some (b:=b) (i:=8) (by omega));clear m7 hb2;generalize b.getD 7 0=B7 at *;generalize b.getD 8 0=B8 at *;generalize ae (b.take 7)=T7 at *;generalize ae (b.drop 9)=D9 at *;generalize ae b=B at *;by_cases he:s=(B7:Int)*256+B8
  ·rw[decide_eq_true he];simp (config := { maxSteps:=3000000 }) (disch:=omega) [↓if_pos,↓if_neg,-getElem?_pos,st7,hsum,g7,g8,hob,he]
  ·rw[decide_eq_false he];simp (config := { maxSteps:=3000000 }) (disch:=omega) [↓if_pos,↓if_neg,-getElem?_pos,st7,hsum,g7,g8,hob,he]
 ·omega
theorem Io (b:List Nat) (hb:b.length≤9000) (hb2:∀ x∈b,x≤255) (X:AV) (hX:ck X (ae b)):aS prog Md [X]=some (.tup [.agg (Ur b).cells,.agg (P4 b),.d (.int .i64 (iH b))]):=by
 obtain⟨⟨x1,x2,x3⟩,x4,x5⟩:=hX.facts;obtain⟨vx,ux⟩:=hX.view;rw[ba]at x5;have hH:=IF b (by omega) hb2 X hX;by_cases h0:iO b=0
 rotate_left
 ·have e:iH b=iO b:=by rw[iH,if_pos h0]
  have eH:aD b=tE:=by rw[aD,if_neg h0]
  have e1:Ur b=tE:=by rw[Ur,if_neg (by rw[e];exact h0)]
  have e2:P4 b=zF:=by rw[P4,if_neg (by rw[e];exact h0)]
  rw[e,e1,e2];rw[eH]at hH;generalize iO b=E at *;rw[ao jE jC rfl];simp (maxSteps:=300000) (disch:=omega) [↓if_pos,↓if_neg,vx,ux,x1,x2,x3,x4,x5,hH,h0,zF]
 obtain⟨ok,hS,h7,hd,hw⟩:=GC h0;have hne:ae b≠[]:=fun h=>by
  have:=congrArg List.length h;rw[ba,List.length_nil]at this;omega
 have hXd:=hX.ne hne;subst hXd;rw[h0]at hH;have hbl:=ba (l:=b);have h79:dD (aD b).crc=7∨dD (aD b).crc=9:=by cases (aD b).crc<;>simp[dD]
 have hSz:=Jr (aD b).crc;have zA:∀ e:Int,e≠0→iH b=e→Ur b=tE∧P4 b=zF:=fun e he h=>⟨by rw[Ur,h,if_neg he],by rw[P4,h,if_neg he]⟩
 by_cases h1:(b.length:Int)<(aD b).len
 ·have e:iH b=5:=by rw[iH,if_neg (by rw[h0];decide),if_pos h1]
  obtain⟨e1,e2⟩:=zA 5 (by decide) e;rw[e,e1,e2];generalize aD b=HH at *;obtain⟨r,n,c,l,f⟩:=HH
  dsimp only at h1
  rw[ao jE jC rfl];generalize ae b=B at *;simp (maxSteps:=300000) (disch:=omega) [↓if_pos,↓if_neg,hH,hbl,zF]
 by_cases h2:(aD b).len<b.length
 ·have e:iH b=8:=by rw[iH,if_neg (by rw[h0];decide),if_neg h1,if_pos h2]
  obtain⟨e1,e2⟩:=zA 8 (by decide) e;rw[e,e1,e2];generalize aD b=HH at *;obtain⟨r,n,c,l,f⟩:=HH
  dsimp only at h1 h2
  rw[ao jE jC rfl];generalize ae b=B at *;simp (maxSteps:=300000) (disch:=omega) [↓if_pos,↓if_neg,hH,hbl,zF]
 have hlb:(dD (aD b).crc:Int)<b.length:=by have:=ok.2.2.2.1;omega
 have sd7:∀ h,gX h 1 (.d (.lst (ae b))) (some (.d (.int .i64 7))) none none=some (.d (.lst (ae (b.drop 7)))):=fun h=>tF (h:=h) (a:=7) (by omega) (by omega)
 have sd9:9≤b.length→∀ h,gX h 1 (.d (.lst (ae b))) (some (.d (.int .i64 9))) none none=some (.d (.lst (ae (b.drop 9)))):=fun h9 h=>tF (h:=h) (a:=9) (by omega) (by omega)
 have st7:∀ h,gX h 1 (.d (.lst (ae b))) none (some (.d (.int .i64 7))) none=some (.d (.lst (ae (b.take 7)))):=fun h=>N6 (h:=h) (a:=7) (by omega) (by omega)
 have hsum:(aD b).crc=true→aS prog uP [.d (.lst (vg [b.take 7,b.drop 9]))]=some (.d (.int .i64 (AO ([b.take 7,b.drop 9].flatMap bJ)))):=fun hc=>ajr _ (fun x hx=>by
   simp only[List.mem_cons,List.not_mem_nil,or_false]at hx;rcases hx with rfl | rfl
   ·exact⟨⟨by rw[List.length_take];omega,by rw[List.length_take];omega⟩,fun n hn=>hb2 n (List.mem_of_mem_take hn)⟩
   ·exact⟨⟨by have:=ok.2.2.2.1;rw[hc]at this;have h9:dD true=9:=rfl;rw[List.length_drop];omega,by rw[List.length_drop];omega⟩,fun n hn=>hb2 n (List.mem_of_mem_drop hn)⟩) (by simp) (fun h=>by
   have:=congrArg List.length h;simp only[List.flatMap_cons,List.length_append,tB,List.length_take,List.length_nil]at this;omega)
 have hcfg:sF (aD b).rate (aD b).chans:=by
  have:=ok.1;have:=ok.2.1;exact⟨by unfold eM;omega,by omega⟩
 have hlen:((b.drop (dD (aD b).crc)).length:Int)≤192*(aD b).chans:=by
  have h5:=ok.2.2.2.2;rw[List.length_drop];omega
 have hraw:=X6 (aD b).rate (aD b).chans false 0 (.d (.lst (ae (b.drop (dD (aD b).crc))))) (b.drop (dD (aD b).crc)) ck.d (by rw[List.length_drop];omega) (fun x hx=>hb2 x (List.mem_of_mem_drop hx));rcases hraw with ⟨_,_,hraw⟩ | ⟨hraw,_⟩
 rotate_left
 ·exact absurd ⟨hcfg,hlen⟩ hraw
 have hrdR:DI (bJ (b.drop (dD (aD b).crc))) (aD b).rate.toNat (aD b).chans=Vd b:=rfl;rw[hrdR]at hraw;have m7:∀ x,b.getD x 0≤255:=fun x=>by
  rw[List.getD_eq_getElem?_getD]
  cases h:b[x]? with
  | none=>simp
  | some v=>exact hb2 v (List.mem_of_getElem? h)
 by_cases hc:(aD b).crc=true∧¬ Da b
 ·have e:iH b=250:=by rw[iH,if_neg (by rw[h0];decide),if_neg h1,if_neg h2,if_pos hc]
  obtain⟨e1,e2⟩:=zA 250 (by decide) e;rw[e,e1,e2];obtain⟨hc1,hc2⟩:=hc;have hsum:=hsum hc1;have hcl:=Kp (b:=[b.take 7,b.drop 9].flatMap bJ);rw[Da]at hc2;have hob:=Te (m7 7) (m7 8);have hS9:dD (aD b).crc=9:=by rw[hc1];rfl
  have g7:=mN (getD_some (b:=b) (i:=7) (by omega));have g8:=mN (getD_some (b:=b) (i:=8) (by omega));have hne2:¬ ((AO ([b.take 7,b.drop 9].flatMap bJ):Nat):Int)=(b.getD 7 0:Nat)*256+(b.getD 8 0:Nat):=by omega
  rw[hS9]at hSz hS hraw;rw[Sn]at hsum;have sd9:=sd9 (by omega);obtain⟨_,hr9⟩:=rd9 b hb (by omega) hb2 (aD b).rate (aD b).chans (aD b).len (aD b).full [.d (.int .i64 0),.d (.int .i64 0),.d (.bool false),.d (.int .i64 0),.d (.int .i64 0)] [.nl,.d (.bool false),.d (.int .i64 0),.nl,.nl] _ hsum;rw[decide_eq_false hne2]at hr9;clear g7 g8 hob hsum hne2 hcl;generalize b.getD 7 0=B7 at *;generalize b.getD 8 0=B8 at *;generalize AO ([b.take 7,b.drop 9].flatMap bJ)=CN at *;generalize aD b=HH at *;obtain⟨r,n,c,l,f⟩:=HH
  dsimp only at h1 h2 hc1 hSz
  subst hc1;rw[ao jE jC rfl];clear hraw;generalize ae (b.drop 9)=D9 at *;generalize ae b=B at *;simp (maxSteps:=300000) (disch:=omega) [↓if_pos,↓if_neg,sd9,hH,hbl,hSz,↓hr9,zF]
 have hns:(aD b).crc=true→Da b:=fun h=>Classical.byContradiction fun h2=>hc ⟨h,h2⟩
 have eE:iH b=match Vd b with | .ok _ _=>0 | .er e=>((e+1:Nat):Int):=by rw[iH,if_neg (by rw[h0];decide),if_neg h1,if_neg h2,if_neg hc]
 have hob:=Te (m7 7) (m7 8);have g7:=mN (getD_some (b:=b) (i:=7) (by omega))
 cases hG:Vd b with
 | ok f m =>
  rw[hG]at eE hraw;simp only at eE hraw;have e1:Ur b=aD b:=by rw[Ur,if_pos eE]
  have e2:P4 b=f.ow:=by rw[P4,if_pos eE,CM,if_pos eE,hG]
  rw[eE,e1,e2];have hX:ck (share (ah 9 (c4 f.chans))) (c4 f.chans):=gr;have hY:ck (share (ah 1 (bT f.bands))) (bT f.bands):=gr;have hZ:ck (share (ah 1 (ae f.fill))) (ae f.fill):=gr;simp only[gb.ow]at hraw⊢;generalize share (ah 9 (c4 f.chans))=X at *;generalize share (ah 1 (bT f.bands))=Y at *;generalize share (ah 1 (ae f.fill))=Z at *;obtain⟨⟨q1,q2,q3⟩,q4,q5⟩:=hX.facts;obtain⟨⟨y1,y2,y3⟩,y4,y5⟩:=hY.facts;obtain⟨⟨z1,z2,z3⟩,z4,z5⟩:=hZ.facts;obtain⟨t1,t2⟩:=hX.res;obtain⟨t3,t4⟩:=hY.res;obtain⟨t5,t6⟩:=hZ.res;have w1:=hX.one.1.2;have w2:=hY.one.1.2;have w3:=hZ.one.1.2
  cases hcc:(aD b).crc with
  | false =>
   rw[hcc]at hSz hraw;have hS7:dD false=7:=rfl;rw[hS7]at hSz hraw;generalize aD b=HH at *;obtain⟨r,n,c,l,fu⟩:=HH
   dsimp only at h1 h2 hcc hSz hraw
   subst hcc;rw[ao jE jC rfl];clear hsum hns hc g7;generalize ae b=B at *;simp (maxSteps:=300000) (disch:=omega) [↓if_pos,↓if_neg,-aV,sd7,hH,hbl,hSz,hraw,t1,t2,t3,t4,t5,t6,w1,w2,w3,q1,q2,q3,q4,y1,y2,y3,y4,z1,z2,z3,z4]
  | true =>
   have hsum:=hsum hcc;have hns:=hns hcc;rw[Da]at hns;rw[hcc]at hSz hraw hS;have hS9:dD true=9:=rfl;rw[hS9]at hSz hraw hS;have g8:=mN (getD_some (b:=b) (i:=8) (by omega));have heq:((AO ([b.take 7,b.drop 9].flatMap bJ):Nat):Int)=(b.getD 7 0:Nat)*256+(b.getD 8 0:Nat):=by omega
   have hcl:=Kp (b:=[b.take 7,b.drop 9].flatMap bJ);rw[Sn]at hsum;have sd9:=sd9 (by omega);obtain⟨_,hr9⟩:=rd9 b hb (by omega) hb2 (aD b).rate (aD b).chans (aD b).len (aD b).full [.d (.int .i64 0),.d (.int .i64 0),.d (.bool false),.d (.int .i64 0),.d (.int .i64 0)] [.nl,.d (.bool false),.d (.int .i64 0),.nl,.nl] _ hsum;rw[decide_eq_true heq]at hr9;clear g7 g8 hob hsum heq hcl hns;generalize aD b=HH at *;obtain⟨r,n,c,l,fu⟩:=HH
   dsimp only at h1 h2 hcc hSz hraw
   subst hcc;rw[ao jE jC rfl];clear hc m7;generalize ae (b.drop 9)=D9 at *;generalize ae b=B at *;simp (maxSteps:=300000) (disch:=omega) [↓if_pos,↓if_neg,-aV,sd9,↓hr9,hH,hbl,hSz,hraw,t1,t2,t3,t4,t5,t6,w1,w2,w3,q1,q2,q3,q4,y1,y2,y3,y4,z1,z2,z3,z4]
 | er e =>
  rw[hG]at eE hraw;simp only at eE hraw;obtain⟨e1,e2⟩:=zA ((e+1:Nat):Int) (by omega) eE;rw[eE,e1,e2];have hE0:¬ ((e+1:Nat):Int)=0:=by omega
  generalize ((e+1:Nat):Int)=E at *
  cases hcc:(aD b).crc with
  | false =>
   rw[hcc]at hSz hraw;have hS7:dD false=7:=rfl;rw[hS7]at hSz hraw;generalize aD b=HH at *;obtain⟨r,n,c,l,fu⟩:=HH
   dsimp only at h1 h2 hcc hSz hraw
   subst hcc;rw[ao jE jC rfl];clear hsum hns hc g7;generalize ae b=B at *;simp (maxSteps:=300000) (disch:=omega) [↓if_pos,↓if_neg,sd7,hH,hbl,hSz,hraw,hE0,zF]
  | true =>
   have hsum:=hsum hcc;have hns:=hns hcc;rw[Da]at hns;rw[hcc]at hSz hraw hS;have hS9:dD true=9:=rfl;rw[hS9]at hSz hraw hS;have g8:=mN (getD_some (b:=b) (i:=8) (by omega));have heq:((AO ([b.take 7,b.drop 9].flatMap bJ):Nat):Int)=(b.getD 7 0:Nat)*256+(b.getD 8 0:Nat):=by omega
   have hcl:=Kp (b:=[b.take 7,b.drop 9].flatMap bJ);rw[Sn]at hsum;have sd9:=sd9 (by omega);obtain⟨_,hr9⟩:=rd9 b hb (by omega) hb2 (aD b).rate (aD b).chans (aD b).len (aD b).full [.d (.int .i64 0),.d (.int .i64 0),.d (.bool false),.d (.int .i64 0),.d (.int .i64 0)] [.nl,.d (.bool false),.d (.int .i64 0),.nl,.nl] _ hsum;rw[decide_eq_true heq]at hr9;clear g7 g8 hob hsum heq hcl hns;generalize aD b=HH at *;obtain⟨r,n,c,l,fu⟩:=HH
   dsimp only at h1 h2 hcc hSz hraw
   subst hcc;rw[ao jE jC rfl];clear hc m7;generalize ae (b.drop 9)=D9 at *;generalize ae b=B at *;simp (maxSteps:=300000) (disch:=omega) [↓if_pos,↓if_neg,sd9,↓hr9,hH,hbl,hSz,hraw,hE0,zF]
def mH (rt n:Int) (cb:Bool) (b:List Nat):Prop:=iO b=0∧(aD b).rate=rt∧(aD b).chans=n∧(aD b).crc=cb∧(aD b).len≤b.length
instance {rt n:Int}{cb:Bool}{b:List Nat}:Decidable (mH rt n cb b):=by unfold mH;infer_instance
def dw (rt n:Int) (cb:Bool) (b:List Nat):Nat:=if mH rt n cb b then (aD b).len.toNat else 0
theorem ye {rt n:Int}{cb:Bool}{b:List Nat}(h:mH rt n cb b):8≤dw rt n cb b∧dw rt n cb b≤b.length∧((dw rt n cb b:Nat):Int)=(aD b).len∧dw rt n cb b≤1000:=by
 obtain⟨ok,h2,h3,_⟩:=GC h.1;have h4:=h.2.2.2.2;have h79:dD (aD b).crc=7∨dD (aD b).crc=9:=by cases (aD b).crc<;>simp[dD]
 unfold ln at ok;rw[dw,if_pos h];omega
theorem Ml (rt n:Int) (cb:Bool) (cz:Int) (b:List Nat) (hb:b.length≤9000) (hb2:∀ x∈b,x≤255) (X:AV) (hX:ck X (ae b)):aS prog HG [fQ rt n cb cz,X]=some (.d (.int .i64 (dw rt n cb b))):=by
 obtain⟨⟨x1,x2,x3⟩,x4,x5⟩:=hX.facts;obtain⟨vx,ux⟩:=hX.view;rw[ba]at x5;have hH:=IF b (by omega) hb2 X hX;have hlen:∀ h:mH rt n cb b,((dw rt n cb b:Nat):Int)=(aD b).len:=fun h=>(ye h).2.2.1
 simp only[fQ];by_cases h:mH rt n cb b
 ·have e:=hlen h;obtain⟨h1,h2,h3,h4,h5⟩:=h;rw[e];rw[h1]at hH;generalize aD b=HH at *;obtain⟨r,m,c,l,f⟩:=HH;simp only[]at h2 h3 h4 h5⊢;subst h2 h3 h4;rw[ao Hv Hh rfl]
  cases c<;>simp (maxSteps:=300000) (disch:=omega) [↓if_pos,↓if_neg,vx,ux,x1,x2,x3,x4,x5,hH]
 ·have e:dw rt n cb b=0:=by rw[dw,if_neg h]
  rw[e];unfold mH at h;generalize iO b=E at *;generalize aD b=HH at *;obtain⟨r,m,c,l,f⟩:=HH;simp only[]at h⊢;have c0:((0:Nat):Int)=0:=rfl;rw[c0];rw[ao Hv Hh rfl];by_cases h1:E=0
  rotate_left
  ·simp (maxSteps:=300000) (disch:=omega) [↓if_pos,↓if_neg,vx,ux,x1,x2,x3,x4,x5,hH]
  subst h1;by_cases h2:r=rt
  rotate_left
  ·simp (maxSteps:=300000) (disch:=omega) [↓if_pos,↓if_neg,vx,ux,x1,x2,x3,x4,x5,hH]
  subst h2;by_cases h3:m=n
  rotate_left
  ·simp (maxSteps:=300000) (disch:=omega) [↓if_pos,↓if_neg,vx,ux,x1,x2,x3,x4,x5,hH]
  subst h3;by_cases h4:c=cb
  rotate_left
  ·cases c<;>cases cb<;>first | exact absurd rfl h4 | simp (maxSteps:=300000) (disch:=omega) [↓if_pos,↓if_neg,vx,ux,x1,x2,x3,x4,x5,hH]
  subst h4;have h5:(b.length:Int)<l:=by
   rcases Int.lt_or_le (b.length:Int) l with h5 | h5
   ·exact h5
   ·exact absurd ⟨rfl,rfl,rfl,rfl,h5⟩ h
  cases c<;>simp (maxSteps:=300000) (disch:=omega) [↓if_pos,↓if_neg,vx,ux,x1,x2,x3,x4,x5,hH]
def fR:List Nat→Option Nat
 | []=>none
 | x::r=>if x=255 then some 0 else (fR r).map (·+1)
theorem ab7:∀ {b:List Nat}{i:Nat},(∀ x∈b,x≤255)→xF (b.map Nat.toUInt8) 255 i=match fR b with
  | some k=>((i+k:Nat):Int)
  | none=>-1
 | [],_,_=>rfl
 | x::r,i,h=>by
  have hx:=h x (.head _);have e:(Nat.toUInt8 x).toNat=x:=by simp;omega
  rw[List.map_cons,xF,e,fR];by_cases h2:x=255
  ·subst h2;rw[if_pos rfl];rfl
  ·rw[Rj h2,if_neg h2];simp only;rw[ab7 (i:=i+1) fun y hy=>h y (.tail _ hy)]
   cases fR r with
   | none=>rfl
   | some k=>simp only[Option.map_some];rw[show i+1+k=i+(k+1) by omega]
theorem ai1 {β:Type}{P:Nat→Option aa}{x c:Rd}{e:aq}{hs:HS}{k:AV→aq→HS→Option β}:aK P (.idxb x c) e hs k=aZ e x fun x e=>aZ e c fun c e=>bA (Tk hs.heap x c) fun v=>k v e hs:=(rfl)
theorem Ps (b:List Nat) (hb2:∀ x∈b,x≤255):aS prog z7 [.d (.lst (ae b)),.d (.int .u8 255)]=some (.d (.int .i64 (match fR b with
  | some k=>(k:Int)
  | none=>-1))):=by
 have h:Tk [] (.d (.lst (ae b))) (.d (.int .u8 255))=some (.d (.int .i64 (match fR b with
  | some k=>(k:Int)
  | none=>-1))):=by
  have hi:=ab7 (b:=b) (i:=0) hb2;unfold Tk;simp only[Va,indexByte,Nb];have e:((255:Int).toNat % 256)=255:=rfl;rw[e,hi]
  cases fR b with
  | none=>rfl
  | some k=>simp
 rw[ao Lw Lq rfl];generalize ae b=B at *;simp (maxSteps:=300000) (disch:=omega) [↓if_pos,↓if_neg,ai1,h]
structure ef where
 pos:Nat
 len:Nat
 lost:Bool
 fr:gb
abbrev ef.cells (s:ef):List D:=[.int .i64 s.pos,.int .i64 s.len,.bool s.lost,.lst (c4 s.fr.chans),.bool s.fr.common,.int .i64 s.fr.mask,.lst (bT s.fr.bands),.lst (ae s.fr.fill)]
def aR (l:List ef):List (List D):=l.map ef.cells
theorem ep {l:List ef}:(aR l).length=l.length:=by simp[aR]
def qJ (k n:Nat) (b:List Nat):ef:=⟨k,n,decide (iH b≠0),CM b⟩
def dG (rt n:Int) (cb:Bool):List Nat→Nat→Option Nat
 | [],_=>none
 | x::r,k=>if x=255∧mH rt n cb (x::r)∧iH ((x::r).take (dw rt n cb (x::r)))=0 then some k else dG rt n cb r (k+1)
def eC (rt n:Int) (cb:Bool):Nat→Nat→List Nat→List ef
 | 0,_,_=>[]
 | f+1,k,b=>if mH rt n cb b then qJ k (dw rt n cb b) (b.take (dw rt n cb b))::eC rt n cb f (k+dw rt n cb b) (b.drop (dw rt n cb b))
  else match dG rt n cb (b.drop 1) (k+1) with
   | some m=>eC rt n cb f m (b.drop (m-k))
   | none=>[]
theorem LZ:∀ {b:List Nat}{j:Nat},fR b=some j→∃ r,b.drop j=255::r∧j<b.length
 | [],j,h=>by simp[fR]at h
 | x::r,j,h=>by
  rw[fR]at h;split at h
  ·rename_i hx;injection h with h
   subst h hx;exact⟨r,rfl,by simp⟩
  ·cases h2:fR r with
   | none=>rw[h2]at h;simp at h
   | some k =>
    rw[h2]at h;simp at h;subst h;obtain⟨q,h3,h4⟩:=LZ h2;exact⟨q,by rw[List.drop_succ_cons,h3],by simp;omega⟩
theorem Qs {rt n:Int}{cb:Bool}:∀ {b:List Nat}{k:Nat},fR b=none→dG rt n cb b k=none
 | [],_,_=>rfl
 | x::r,k,h=>by
  rw[fR]at h;split at h
  ·simp at h
  ·rename_i hx;rw[dG,if_neg (fun h=>hx h.1)];refine Qs ?_
   cases h2:fR r with
   | none=>rfl
   | some _=>rw[h2]at h;simp at h
theorem PG {rt n:Int}{cb:Bool}:∀ {b:List Nat}{k j:Nat},fR b=some j→dG rt n cb b k=if mH rt n cb (b.drop j)∧iH ((b.drop j).take (dw rt n cb (b.drop j)))=0 then some (k+j) else dG rt n cb (b.drop (j+1)) (k+j+1)
 | [],_,_,h=>by simp[fR]at h
 | x::r,k,j,h=>by
  rw[fR]at h;split at h
  ·rename_i hx;injection h with h
   subst h;rw[dG];simp[hx]
  ·rename_i hx
   cases h2:fR r with
   | none=>rw[h2]at h;simp at h
   | some i =>
    rw[h2]at h;simp at h;subst h;rw[dG,if_neg (fun h=>hx h.1),PG h2,List.drop_succ_cons,List.drop_succ_cons,show k+1+i=k+(i+1) by omega]
theorem Ik (b:List Nat):∃ X Y Z:AV,ck X (c4 (CM b).chans)∧ck Y (bT (CM b).bands)∧ck Z (ae (CM b).fill)∧P4 b=[X,.d (.bool (CM b).common),.d (.int .i64 (CM b).mask),Y,Z]:=by
 unfold P4;by_cases h:iH b=0
 ·rw[if_pos h];exact⟨_,_,_,gr,gr,gr,rfl⟩
 ·rw[if_neg h,CM,if_neg h];exact⟨.nl,.nl,.nl,.inr ⟨rfl,rfl⟩,.inr ⟨rfl,rfl⟩,.inr ⟨rfl,rfl⟩,rfl⟩
section
variable (rt n:Int) (cb:Bool) (cz:Int) (b:List Nat) (hb:b.length≤9000) (hb2:∀ x∈b,x≤255)
include hb hb2
theorem anb (out:AV):∀ (m k N:Nat),b.length-k≤m→k≤9000→1≤N→
  ∃ M,N≤M∧(Dn prog).code (.loop qe) ⟨[(1,.d (.lst (ae b))),(2,.ptr 0 0),(8,out),(14,.d (.int .i64 k))],⟨[(0,.cells [.d (.int .i64 rt),.d (.int .i64 n),.d (.bool cb),.d (.int .i64 cz)])],N⟩⟩ =
  match dG rt n cb (b.drop k) k with
  | none=>some (.exit 2,⟨[(8,out)],⟨[],M⟩⟩)
  | some q=>some (.exit 1,⟨[(1,.d (.lst (ae b))),(2,.ptr 0 0),(8,out),(9,.d (.int .i64 q))],⟨[(0,.cells [.d (.int .i64 rt),.d (.int .i64 n),.d (.bool cb),.d (.int .i64 cz)])],M⟩⟩):=by
 have hbl:=ba (l:=b);have sdr:∀ (k:Nat) h,k≤b.length→gX h 1 (.d (.lst (ae b))) (some (.d (.int .i64 (k:Int)))) none none=some (.d (.lst (ae (b.drop k)))):=fun k h hk=>tF (h:=h) hk (by omega)
 have ssl:∀ (k S:Nat) h,k+S≤b.length→gX h 1 (.d (.lst (ae b))) (some (.d (.int .i64 (k:Int)))) (some (.d (.int .i64 ((k:Int)+S)))) none=some (.d (.lst (ae ((b.drop k).take S)))):=fun k S h hk=>IX (h:=h) (l:=b) (X:=(b.drop k).take S) (a:=k) (n:=k+S) ⟨by omega,by rw[List.length_take,List.length_drop];omega,(b.drop k).drop S,(List.take_append_drop S _).symm⟩ (by omega)
 intro m
 induction m with
 | zero =>
  intro k N h1 h2 hN;refine⟨N,Nat.le_refl _,?_⟩;rw[List.drop_eq_nil_of_le (by omega),dG,ac jJ];generalize ae b=B at *;simp (maxSteps:=300000) (disch:=omega) [↓if_pos,↓if_neg,hbl]
 | succ m ih =>
  intro k N h1 h2 hN;by_cases hk:k<b.length
  rotate_left
  ·refine⟨N,Nat.le_refl _,?_⟩;rw[List.drop_eq_nil_of_le (by omega),dG,ac jJ];generalize ae b=B at *;simp (maxSteps:=300000) (disch:=omega) [↓if_pos,↓if_neg,hbl]
  have sk:=fun h=>sdr k h (by omega)
  have hI:=Ps (b.drop k) fun x hx=>hb2 x (List.mem_of_mem_drop hx)
  cases hf:fR (b.drop k) with
  | none =>
   rw[hf]at hI;refine⟨N,Nat.le_refl _,?_⟩;rw[Qs hf,ac jJ];simp (maxSteps:=300000) (disch:=omega) [↓if_pos,↓if_neg,sk,hI]
  | some j =>
   rw[hf]at hI;obtain⟨r,hr,hj⟩:=LZ hf;rw[List.length_drop]at hj;rw[List.drop_drop]at hr;have skj:∀ h,gX h 1 (.d (.lst (ae b))) (some (.d (.int .i64 ((k:Int)+j)))) none none=some (.d (.lst (ae (b.drop (k+j))))):=fun h=>sdr (k+j) h (by omega)
   have hS:=Ml rt n cb cz (b.drop (k+j)) (by rw[List.length_drop];omega) (fun x hx=>hb2 x (List.mem_of_mem_drop hx)) (.d (.lst (ae (b.drop (k+j))))) ck.d;rw[PG hf,List.drop_drop,List.drop_drop];obtain⟨M1,l1,e1⟩:=ih (k+j+1) N (by omega) (by omega) hN;obtain⟨M2,l2,e2⟩:=ih (k+j+1) (N+2) (by omega) (by omega) (by omega);have c1:((k+j+1:Nat):Int)=(k:Int)+j+1:=rfl;rw[c1,show k+j+1=k+(j+1) by omega]at e1 e2;by_cases hP:mH rt n cb (b.drop (k+j))
   rotate_left
   ·have e0:dw rt n cb (b.drop (k+j))=0:=by rw[dw,if_neg hP]
    rw[e0]at hS;refine⟨M1,by omega,?_⟩;rw[if_neg (fun h=>hP h.1),show k+j+1=k+(j+1) by omega,←e1,ac jJ];simp (maxSteps:=300000) (disch:=omega) [↓if_pos,↓if_neg,sk,skj,hI,hS]
   ·obtain⟨s1,s2,s3,s4⟩:=ye hP;rw[List.length_drop]at s2;have hR:=Io ((b.drop (k+j)).take (dw rt n cb (b.drop (k+j)))) (by rw[List.length_take];omega) (fun x hx=>hb2 x (List.mem_of_mem_drop (List.mem_of_mem_take hx))) _ ck.d;obtain⟨X,Y,Z,hX,hY,hZ,hA⟩:=Ik ((b.drop (k+j)).take (dw rt n cb (b.drop (k+j))));rw[hA]at hR;have ssk:∀ h,gX h 1 (.d (.lst (ae b))) (some (.d (.int .i64 ((k:Int)+j)))) (some (.d (.int .i64 ((k:Int)+j+(dw rt n cb (b.drop (k+j)):Nat))))) none=some (.d (.lst (ae ((b.drop (k+j)).take (dw rt n cb (b.drop (k+j))))))):=fun h=>ssl (k+j) _ h (by omega)
    have w1:=hX.one.1.2;have w2:=hY.one.1.2;have w3:=hZ.one.1.2;obtain⟨⟨q1,q2,q3⟩,q4,q5⟩:=hX.facts;obtain⟨⟨y1,y2,y3⟩,y4,y5⟩:=hY.facts;obtain⟨⟨z1,z2,z3⟩,z4,z5⟩:=hZ.facts;have hS0:¬ ((dw rt n cb (b.drop (k+j)):Nat):Int)=0:=by omega
    by_cases hE:iH ((b.drop (k+j)).take (dw rt n cb (b.drop (k+j))))=0
    ·rw[if_pos ⟨hP,hE⟩];rw[hE]at hR;refine⟨N+2,by omega,?_⟩;clear e1 e2 ih;rw[ac jJ];generalize dw rt n cb (b.drop (k+j))=S at *;simp (maxSteps:=300000) (disch:=omega) [↓if_pos,↓if_neg,-aV,sk,skj,ssk,hI,hS,hS0,hR,w1,w2,w3,q1,q2,q3,q4,y1,y2,y3,y4,z1,z2,z3,z4]
    ·rw[if_neg (fun h=>hE h.2),show k+j+1=k+(j+1) by omega];refine⟨M2,by omega,?_⟩;rw[←e2,ac jJ];clear e1 e2 ih;generalize dw rt n cb (b.drop (k+j))=S at *;generalize iH ((b.drop (k+j)).take S)=E at *;simp (maxSteps:=300000) (disch:=omega) [↓if_pos,↓if_neg,-aV,sk,skj,ssk,hI,hS,hS0,hR,w1,w2,w3,hE,q1,q2,q3,q4,y1,y2,y3,y4,z1,z2,z3,z4]
end
theorem tc {rt n:Int}{cb:Bool}:∀ {b:List Nat}{k q:Nat},dG rt n cb b k=some q→k≤q∧q<k+b.length∧mH rt n cb (b.drop (q-k))∧iH ((b.drop (q-k)).take (dw rt n cb (b.drop (q-k))))=0
 | [],k,q,h=>by simp[dG]at h
 | x::r,k,q,h=>by
  rw[dG]at h;split at h
  ·rename_i h2;injection h with h
   subst h;rw[Nat.sub_self];exact⟨Nat.le_refl _,by simp,h2.2⟩
  ·obtain⟨a,b,c⟩:=tc h;rw[show q-k=(q-(k+1))+1 by omega,List.drop_succ_cons];exact⟨by omega,by rw[List.length_cons];omega,c⟩
theorem ck.toD {x:AV}{l:List (List D)}(h:ck x l):toD x=some (.lst l):=by
 rcases h with rfl | ⟨rfl,rfl⟩<;>rfl
theorem U2 {l:List ef}{s:ef}:aR (l++[s])=aR l++[s.cells]:=by simp[aR]
section
variable (rt n:Int) (cb:Bool) (cz:Int) (b:List Nat) (hb:b.length≤8999) (hb2:∀ x∈b,x≤255)
include hb hb2
theorem ani:∀ (f k N:Nat) (acc:List ef),b.length-k<f→k≤b.length→1≤N→acc.length≤k→
  ∃ M,(Dn prog).code (.loop qA) ⟨[(1,.d (.lst (ae b))),(2,.ptr 0 0),(8,ah 8 (aR acc)),(9,.d (.int .i64 k))],⟨[(0,.cells [.d (.int .i64 rt),.d (.int .i64 n),.d (.bool cb),.d (.int .i64 cz)])],N⟩⟩ =
  some (.ret,⟨[(4,ah 8 (aR (acc++eC rt n cb f k (b.drop k)))),(5,.d (.int .i64 0))],⟨[],M⟩⟩):=by
 have hbl:=ba (l:=b);have sdr:∀ (k:Nat) h,k≤b.length→gX h 1 (.d (.lst (ae b))) (some (.d (.int .i64 (k:Int)))) none none=some (.d (.lst (ae (b.drop k)))):=fun k h hk=>tF (h:=h) hk (by omega)
 have ssl:∀ (k S:Nat) h,k+S≤b.length→gX h 1 (.d (.lst (ae b))) (some (.d (.int .i64 (k:Int)))) (some (.d (.int .i64 ((k:Int)+S)))) none=some (.d (.lst (ae ((b.drop k).take S)))):=fun k S h hk=>IX (h:=h) (l:=b) (X:=(b.drop k).take S) (a:=k) (n:=k+S) ⟨by omega,by rw[List.length_take,List.length_drop];omega,(b.drop k).drop S,(List.take_append_drop S _).symm⟩ (by omega)
 intro f
 induction f with
 | zero=>intro k N acc h1;omega
 | succ f ih =>
  intro k N acc h1 h2 hN hal;have hS:=Ml rt n cb cz (b.drop k) (by rw[List.length_drop];omega) (fun x hx=>hb2 x (List.mem_of_mem_drop hx)) (.d (.lst (ae (b.drop k)))) ck.d;have hsl:=ep (l:=acc);have sk:=fun h=>sdr k h h2
  rw[eC];by_cases hP:mH rt n cb (b.drop k)
  ·obtain⟨s1,s2,s3,s4⟩:=ye hP;rw[List.length_drop]at s2;have hR:=Io ((b.drop k).take (dw rt n cb (b.drop k))) (by rw[List.length_take];omega) (fun x hx=>hb2 x (List.mem_of_mem_drop (List.mem_of_mem_take hx))) _ ck.d;obtain⟨X,Y,Z,hX,hY,hZ,hA⟩:=Ik ((b.drop k).take (dw rt n cb (b.drop k)));rw[hA]at hR;rw[if_pos hP,List.drop_drop];obtain⟨M,e1⟩:=ih (k+dw rt n cb (b.drop k)) (N+2) (acc++[qJ k (dw rt n cb (b.drop k)) ((b.drop k).take (dw rt n cb (b.drop k)))]) (by omega) (by omega) (by omega) (by simp;omega);rw[U2,gp,List.append_assoc,List.singleton_append]at e1;refine⟨M,?_⟩;rw[←e1];clear e1 ih;have ssk:=fun h=>ssl k (dw rt n cb (b.drop k)) h (by omega)
   have v1:=hX.toD;have v2:=hY.toD;have v3:=hZ.toD;have w1:=hX.one.1.2;have w2:=hY.one.1.2;have w3:=hZ.one.1.2;obtain⟨⟨q1,q2,q3⟩,q4,q5⟩:=hX.facts;obtain⟨⟨y1,y2,y3⟩,y4,y5⟩:=hY.facts;obtain⟨⟨z1,z2,z3⟩,z4,z5⟩:=hZ.facts;have c1:((k+dw rt n cb (b.drop k):Nat):Int)=(k:Int)+(dw rt n cb (b.drop k):Nat):=rfl;rw[c1];simp only[qJ,ef.cells];rw[ac w7];generalize dw rt n cb (b.drop k)=S at *;generalize CM ((b.drop k).take S)=FR at *;generalize c4 FR.chans=L1 at *;generalize bT FR.bands=L2 at *;generalize ae FR.fill=L3 at *;generalize iH ((b.drop k).take S)=E at *;generalize hSA:aR acc=SA at *;by_cases hE:E=0
   ·subst hE
    cases SA with
    | nil=>simp (maxSteps:=300000) (disch:=omega) [↓if_pos,↓if_neg,-aV,sk,ssk,hS,hR,v1,v2,v3,w1,w2,w3,q1,q2,q3,q4,y1,y2,y3,y4,z1,z2,z3,z4]
    | cons u v=>simp (maxSteps:=300000) (disch:=omega) [↓if_pos,↓if_neg,-aV,sk,ssk,hS,hR,v1,v2,v3,w1,w2,w3,q1,q2,q3,q4,y1,y2,y3,y4,z1,z2,z3,z4]
   ·have hd:decide (E≠0)=true:=decide_eq_true hE;rw[hd]
    cases SA with
    | nil=>simp (maxSteps:=300000) (disch:=omega) [↓if_pos,↓if_neg,-aV,sk,ssk,hS,hR,v1,v2,v3,w1,w2,w3,q1,q2,q3,q4,y1,y2,y3,y4,z1,z2,z3,z4]
    | cons u v=>simp (maxSteps:=300000) (disch:=omega) [↓if_pos,↓if_neg,-aV,sk,ssk,hS,hR,v1,v2,v3,w1,w2,w3,q1,q2,q3,q4,y1,y2,y3,y4,z1,z2,z3,z4]
  ·have e0:dw rt n cb (b.drop k)=0:=by rw[dw,if_neg hP]
   rw[e0]at hS;rw[if_neg hP,List.drop_drop];obtain⟨M0,l0,e1⟩:=anb rt n cb cz b (by omega) hb2 (ah 8 (aR acc)) (b.length) (k+1) N (by omega) (by omega) hN;rw[show ((k+1:Nat):Int)=(k:Int)+1 from rfl]at e1
   cases hf:dG rt n cb (b.drop (k+1)) (k+1) with
   | none =>
    rw[hf]at e1;refine⟨M0,?_⟩;simp only[List.append_nil]at e1⊢;rw[ac w7];have hfo:firm (ah 8 (aR acc))=ah 8 (aR acc):=IE;generalize ah 8 (aR acc)=OA at *;generalize ae b=B at *;simp (maxSteps:=300000) (disch:=omega) [↓if_pos,↓if_neg,sk,hS,hfo,e1]
   | some q =>
    rw[hf]at e1;obtain⟨f1,f2,_⟩:=tc hf;rw[List.length_drop]at f2;obtain⟨M,e2⟩:=ih q M0 acc (by omega) (by omega) (by omega) (by omega);refine⟨M,?_⟩
    dsimp only at e1⊢
    rw[List.drop_drop,show k+(q-k)=q by omega,←e2,ac w7];clear e2 ih;have hfo:firm (ah 8 (aR acc))=ah 8 (aR acc):=IE;generalize ah 8 (aR acc)=OA at *;generalize ae b=B at *;simp (maxSteps:=300000) (disch:=omega) [↓if_pos,↓if_neg,sk,hS,hfo,e1]
end
instance {rt n:Int}:Decidable (sF rt n):=by unfold sF;infer_instance
theorem afz (rt n:Int) (cb:Bool) (cz:Int) (hn:n≠0):aS prog LW [fQ rt n cb cz,.agg [.nl,.d (.bool false),.d (.int .i64 0),.nl,.nl]]=some (.d (.bool false)):=by
 simp only[fQ];rw[ao aaD aaT rfl];simp (maxSteps:=300000) (disch:=omega) [↓if_pos,↓if_neg]
theorem ahO (rt n:Int) (cb:Bool) (cz:Int):aS prog RQ [fQ rt n cb cz,.agg [.nl,.d (.bool false),.d (.int .i64 0),.nl,.nl]]=some (.tup [.d (.int .i64 0),.d (.int .i64 (if sF rt n then 8 else 2))]):=by
 have hC:=Pm rt n cb cz;simp only[fQ]at hC⊢;rcases hC with ⟨h,hC⟩ | ⟨h,hC⟩
 ·have hR:=afz rt n cb cz (by have:=h.2;omega);simp only[fQ]at hR;rw[if_pos h,ao Qx PL rfl];simp (maxSteps:=300000) (disch:=omega) [↓if_pos,↓if_neg,hC,hR]
 ·rw[if_neg h,ao Qx PL rfl];simp (maxSteps:=300000) (disch:=omega) [↓if_pos,↓if_neg,hC]
def bh (rt n:Int) (cb:Bool) (b:List Nat):List ef:=eC rt n cb (b.length+1) 0 b
theorem pc (rt n:Int) (cb:Bool) (cz:Int) (b:List Nat) (hb:b.length≤8999) (hb2:∀ x∈b,x≤255) :
  (sF rt n∧∃ A,(firm A=ah 8 (aR (bh rt n cb b))∧oS A=ah 8 (aR (bh rt n cb b)))∧aS prog si [fQ rt n cb cz,.d (.lst (ae b))]=some (.tup [A,.d (.int .i64 0)]))∨
  (¬ sF rt n∧aS prog si [fQ rt n cb cz,.d (.lst (ae b))]=some (.tup [.nl,.d (.int .i64 2)])):=by
 have hB:=ahO rt n cb cz;have hbl:=ba (l:=b);by_cases hc:sF rt n
 ·refine .inl ⟨hc,?_⟩;obtain⟨M,h1⟩:=ani rt n cb cz b hb hb2 (b.length+1) 0 1 [] (by omega) (by omega) (by omega) (by simp);have c0:((0:Nat):Int)=0:=rfl;have s0:ah 8 (aR [])=.nl:=rfl;rw[c0,s0,List.nil_append,List.drop_zero]at h1;have e:eC rt n cb (b.length+1) 0 b=bh rt n cb b:=rfl;rw[e]at h1;rw[if_pos hc]at hB;simp only[fQ]at hB⊢;generalize hSS:aR (bh rt n cb b)=SS at *
  cases SS with
  | nil =>
   refine⟨.nl,⟨rfl,rfl⟩,?_⟩;rw[lk]at h1;rw[ao xP xJ rfl];generalize ae b=B at *;simp (maxSteps:=300000) (disch:=omega) [↓if_pos,↓if_neg,Eu,hB,hbl,h1]
  | cons u v =>
   rw[CW]at h1;by_cases hf:((u::v).all fun x=>x.all gD)=true
   ·refine⟨.own true 8 (u::v),⟨rfl,rfl⟩,?_⟩;rw[ao xP xJ rfl];generalize ae b=B at *;simp (maxSteps:=300000) (disch:=omega) [↓if_pos,↓if_neg,Eu,hB,hbl,h1];simpa using hf
   ·refine⟨.own false 8 (u::v),⟨rfl,rfl⟩,?_⟩;rw[ao xP xJ rfl];generalize ae b=B at *;simp (maxSteps:=300000) (disch:=omega) [↓if_pos,↓if_neg,Eu,hB,hbl,h1];simpa using hf
 ·refine .inr ⟨hc,?_⟩;rw[if_neg hc]at hB;simp only[fQ]at hB⊢;rw[ao xP xJ rfl];generalize ae b=B at *;simp (maxSteps:=300000) (disch:=omega) [↓if_pos,↓if_neg,Eu,hB]
def Xa (rt n:Int) (cb:Bool) (b:List Nat):Nat→List ef→Prop
 | _,[]=>True
 | e,s::t=>e≤s.pos∧mH rt n cb (b.drop s.pos)∧s.len=dw rt n cb (b.drop s.pos)∧s.lost=decide (iH ((b.drop s.pos).take s.len)≠0)∧s.fr=CM ((b.drop s.pos).take s.len)∧(e<s.pos→s.lost=false)∧Xa rt n cb b (s.pos+s.len) t
theorem Ot {rt n:Int}{cb:Bool}{b:List Nat}:∀ (f k e:Nat),e≤k→(e<k→mH rt n cb (b.drop k)→iH ((b.drop k).take (dw rt n cb (b.drop k)))=0)→(e<k→mH rt n cb (b.drop k))→Xa rt n cb b e (eC rt n cb f k (b.drop k))
 | 0,k,e,_,_,_=>trivial
 | f+1,k,e,h1,h2,h3=>by
  rw[eC];by_cases hP:mH rt n cb (b.drop k)
  ·rw[if_pos hP,List.drop_drop];refine⟨h1,hP,rfl,rfl,rfl,fun h=>?_,Ot f _ _ (Nat.le_refl _) (fun h=>absurd h (Nat.lt_irrefl _)) (fun h=>absurd h (Nat.lt_irrefl _))⟩;exact decide_eq_false fun h4=>h4 (h2 h hP)
  ·rw[if_neg hP,List.drop_drop];have he:e=k:=by
    rcases Nat.lt_or_ge e k with h | h
    ·exact absurd (h3 h) hP
    ·omega
   cases hf:dG rt n cb (b.drop (k+1)) (k+1) with
   | none=>exact trivial
   | some m =>
    obtain⟨a1,a2,a3,a4⟩:=tc hf;rw[List.drop_drop,show k+1+(m-(k+1))=m by omega]at a3 a4;simp only[];rw[List.drop_drop,show k+(m-k)=m by omega];exact Ot f m e (by omega) (fun _ _=>a4) (fun _=>a3)
def u9 (d:Nat) (l:List ef):List ef:=l.map fun s=>{ s with pos:=s.pos+d }
theorem UP {rt n:Int}{cb:Bool}{d:Nat}:∀ {b:List Nat}{k:Nat},dG rt n cb b (k+d)=(dG rt n cb b k).map (·+d)
 | [],k=>rfl
 | x::r,k=>by
  rw[dG,dG];split
  ·rfl
  ·rw[show k+d+1=(k+1)+d by omega];exact UP
theorem F6 {rt n:Int}{cb:Bool}{d:Nat}:∀ (f k:Nat) (b:List Nat),eC rt n cb f (k+d) b=u9 d (eC rt n cb f k b)
 | 0,k,b=>rfl
 | f+1,k,b=>by
  rw[eC,eC];by_cases hP:mH rt n cb b
  ·rw[if_pos hP,if_pos hP,show k+d+dw rt n cb b=(k+dw rt n cb b)+d by omega,F6 f];rfl
  ·rw[if_neg hP,if_neg hP,show k+d+1=(k+1)+d by omega,UP]
   cases hf:dG rt n cb (b.drop 1) (k+1) with
   | none=>rfl
   | some m =>
    have:=tc hf;simp only[Option.map_some];rw[show m+d-(k+d)=m-k by omega,F6 f]
theorem pT {rt n:Int}{cb:Bool}:∀ (f g k:Nat) (b:List Nat),b.length<f→b.length<g→eC rt n cb f k b=eC rt n cb g k b
 | 0,g,k,b,h,_=>by omega
 | f+1,0,k,b,_,h=>by omega
 | f+1,g+1,k,b,h1,h2=>by
  rw[eC,eC];by_cases hP:mH rt n cb b
  ·have:=ye hP;rw[if_pos hP,if_pos hP,pT f g _ _ (by rw[List.length_drop];omega) (by rw[List.length_drop];omega)]
  ·rw[if_neg hP,if_neg hP]
   cases hf:dG rt n cb (b.drop 1) (k+1) with
   | none=>rfl
   | some m =>
    obtain⟨a1,a2,_⟩:=tc hf;rw[List.length_drop]at a2;exact pT f g _ _ (by rw[List.length_drop];omega) (by rw[List.length_drop];omega)
theorem CT {rt n:Int}{cb:Bool}:∀ (f k:Nat) (b:List Nat) (i:Nat) (s:ef),b.length<f→(eC rt n cb f k b)[i]?=some s→k≤s.pos∧s.pos+s.len≤k+b.length∧(eC rt n cb f k b).drop (i+1)=eC rt n cb f (s.pos+s.len) (b.drop (s.pos+s.len-k))
 | 0,k,b,i,s,h,_=>by omega
 | f+1,k,b,i,s,h,hi=>by
  rw[eC]at hi⊢;by_cases hP:mH rt n cb b
  ·have hn:=ye hP;rw[if_pos hP]at hi⊢
   cases i with
   | zero =>
    simp only[List.getElem?_cons_zero,Option.some.injEq]at hi;subst hi;refine⟨Nat.le_refl _,by simp only[qJ];omega,?_⟩;simp only[qJ,List.drop_succ_cons,List.drop_zero];rw[show k+dw rt n cb b-k=dw rt n cb b by omega];exact pT _ _ _ _ (by rw[List.length_drop];omega) (by rw[List.length_drop];omega)
   | succ i =>
    rw[List.getElem?_cons_succ]at hi;obtain⟨a1,a2,a3⟩:=CT f _ _ i s (by rw[List.length_drop];omega) hi;rw[List.length_drop]at a2;refine⟨by omega,by omega,?_⟩;rw[List.drop_succ_cons,a3,List.drop_drop,show dw rt n cb b+(s.pos+s.len-(k+dw rt n cb b))=s.pos+s.len-k by omega];exact pT _ _ _ _ (by rw[List.length_drop];omega) (by rw[List.length_drop];omega)
  ·rw[if_neg hP]at hi⊢
   cases hf:dG rt n cb (b.drop 1) (k+1) with
   | none=>rw[hf]at hi;simp at hi
   | some m =>
    rw[hf]at hi;simp only[]at hi⊢;obtain⟨b1,b2,_⟩:=tc hf;rw[List.length_drop]at b2;obtain⟨a1,a2,a3⟩:=CT f _ _ i s (by rw[List.length_drop];omega) hi;rw[List.length_drop]at a2;refine⟨by omega,by omega,?_⟩;rw[a3,List.drop_drop,show m-k+(s.pos+s.len-m)=s.pos+s.len-k by omega];exact pT _ _ _ _ (by rw[List.length_drop];omega) (by rw[List.length_drop];omega)
theorem anX {rt n:Int}{cb:Bool}{b:List Nat}{i:Nat}{s:ef}(h:(bh rt n cb b)[i]?=some s):s.pos+s.len≤b.length∧(bh rt n cb b).drop (i+1)=u9 (s.pos+s.len) (bh rt n cb (b.drop (s.pos+s.len))):=by
 obtain⟨_,a2,a3⟩:=CT (b.length+1) 0 b i s (by omega) h;refine⟨by omega,?_⟩;unfold bh;rw[a3,Nat.sub_zero,←F6,Nat.zero_add];exact pT _ _ _ _ (by rw[List.length_drop];omega) (by rw[List.length_drop];omega)
theorem W6 {b:List Nat}(hb2:∀ x∈b,x≤255) (h:iO b=0):∃ r,b=255::r:=by
 obtain⟨_,_,h7,_,hw⟩:=GC h
 cases b with
 | nil=>simp at h7
 | cons x r =>
  refine⟨r,?_⟩;have hx:=hb2 x (.head _);have e1:(bJ ((x::r).take 7)).take 8=aF x 8:=by
   rw[List.take_succ_cons,bJ,List.flatMap_cons,List.take_append_of_le_length (by simp),List.take_of_length_le (by simp)]
  have e2:(ki (aD (x::r)) 14).take 8=aF 255 8:=by
   have e3:ki (aD (x::r)) 14=fB (aD (x::r)) 0++(((List.range 14).drop 1).flatMap (fB (aD (x::r)))):=by
    rw[ki];rfl
   have e4:fB (aD (x::r)) 0=aF 4095 12:=rfl;rw[e3,e4,List.take_append_of_le_length (by simp)];decide
  rw[hw,e1]at e2;rw[akP (by omega) (by omega) e2]
theorem Qj {rt n:Int}{cb:Bool}{b:List Nat}:∀ {a:List Nat}{k:Nat},(∀ x∈a,x≠255)→dG rt n cb (a++b) k=dG rt n cb b (k+a.length)
 | [],k,_=>rfl
 | x::r,k,h=>by
  rw[List.cons_append,dG,if_neg (fun h2=>h x (.head _) h2.1),Qj fun y hy=>h y (.tail _ hy),List.length_cons,show k+1+r.length=k+(r.length+1) by omega]
theorem ard {l:List ef}:u9 0 l=l:=by simp[u9]
theorem aee {rt n:Int}{cb:Bool}{b:List Nat}{s:ef}(h:(bh rt n cb b)[0]?=some s) (h0:s.pos=0):mH rt n cb b∧s.lost=decide (iH (b.take (dw rt n cb b))≠0):=by
 unfold bh at h;rw[eC]at h;by_cases hP:mH rt n cb b
 ·rw[if_pos hP]at h;simp only[List.getElem?_cons_zero,Option.some.injEq]at h;subst h;exact⟨hP,rfl⟩
 ·rw[if_neg hP]at h
  cases hf:dG rt n cb (b.drop 1) (0+1) with
  | none=>rw[hf]at h;simp at h
  | some m =>
   rw[hf]at h;simp only[]at h;obtain⟨a1,a2,_⟩:=tc hf;rw[List.length_drop]at a2;have:=CT b.length m (b.drop (m-0)) 0 s (by rw[List.length_drop];omega) h;omega
theorem PY {rt n:Int}{cb:Bool}{a b:List Nat}(hb2:∀ x∈b,x≤255) (ha2:∀ x∈a,x≤255) (ha:∀ x∈a,x≠255) {s:ef}(h:(bh rt n cb b)[0]?=some s) (h0:s.pos=0) (hl:s.lost=false):bh rt n cb (a++b)=u9 a.length (bh rt n cb b):=by
 obtain⟨hP,hL⟩:=aee h h0;rw[hl]at hL;have hE:iH (b.take (dw rt n cb b))=0:=by
  by_cases hE:iH (b.take (dw rt n cb b))=0
  ·exact hE
  ·rw[decide_eq_true hE]at hL;cases hL
 cases a with
 | nil=>rw[List.nil_append,List.length_nil,ard]
 | cons x r =>
  have hN:¬ mH rt n cb (x::r++b):=fun hq=>by
   obtain⟨q,hq⟩:=W6 (b:=x::r++b) (fun y hy=>by
    rcases List.mem_append.1 hy with hy | hy
    ·exact ha2 y hy
    ·exact hb2 y hy) hq.1
   rw[List.cons_append]at hq;injection hq with hq _
   exact ha x (.head _) hq
  obtain⟨q,hq⟩:=W6 hb2 hP.1;have hF:dG rt n cb b (0+1+r.length)=some (0+1+r.length):=by
   rw[hq]at hP hE⊢;rw[dG,if_pos ⟨rfl,hP,hE⟩]
  unfold bh;rw[eC,if_neg hN,List.cons_append,List.drop_succ_cons,List.drop_zero,Qj fun y hy=>ha y (.tail _ hy),hF];simp only[];rw[show 0+1+r.length-0=(x::r).length by rw[List.length_cons];omega,←List.cons_append,List.drop_left,←F6,show 0+1+r.length=0+(x::r).length by rw[List.length_cons];omega];exact pT _ _ _ _ (by simp;omega) (by omega)
theorem Tv {l:List ef}{i:Nat}{s:ef}{r:List ef}(h:l.drop i=s::r):(aR l)[i]?=some s.cells:=by
 have:=congrArg (fun l=>l[0]?) h;simp only[List.getElem?_drop,List.getElem?_cons_zero,Nat.add_zero]at this;rw[aR,List.getElem?_map,this];rfl
theorem agm (l:List ef) (hl:l.length≤9000) (hf:∀ s∈l,s.fr.Fit):∀ (r:List ef) (i:Nat),l.drop i=r→
  (Dn prog).code (.loop eh) ⟨[(0,.d (.lst (aR l))),(1,.d (.lst (aR l))),(5,.d (.int .i64 i))],⟨[],0⟩⟩=some (.exit 0,⟨[],⟨[],0⟩⟩):=by
 have hsl:=ep (l:=l);intro r
 induction r with
 | nil =>
  intro i h1;have hi:=bn h1;rw[ac kC];generalize aR l=SL at *;simp (maxSteps:=300000) (disch:=omega) [↓if_pos,↓if_neg,hsl]
 | cons s r ih =>
  intro i h1;have hi:=bR h1;have g1:=Tv h1;have d1:l.drop (i+1)=r:=by rw[←List.tail_drop,h1];rfl
  have ih1:=ih (i+1) d1;have hS:=Rp s.fr (hf s (List.mem_of_mem_drop (i:=i) (by rw[h1];exact .head _))) _ _ _ _ _ _ ck.d ck.d ck.d ck.d ck.d ck.d;rw[show ((i+1:Nat):Int)=(i:Int)+1 from rfl]at ih1;rw[←ih1,ac kC];simp only[frA,ef.cells]at hS g1;clear ih ih1;generalize aR l=SL at *;generalize c4 s.fr.chans=L1 at *;generalize bT s.fr.bands=L2 at *;generalize ae s.fr.fill=L3 at *;have hb:s.lost=true∨s.lost=false:=by cases s.lost<;>simp
  rcases hb with hb | hb
  ·rw[hb]at g1;simp (config := { maxSteps:=3000000 }) (disch:=omega) [↓if_pos,↓if_neg,-getElem?_pos,hsl,g1,hS]
  ·rw[hb]at g1;simp (config := { maxSteps:=3000000 }) (disch:=omega) [↓if_pos,↓if_neg,-getElem?_pos,hsl,g1,hS]
theorem Qe (l:List ef) (hl:l.length≤9000) (hf:∀ s∈l,s.fr.Fit) (X Y:AV) (hX:ck X (aR l)) (hY:ck Y (aR l)):aS prog vI [X,Y]=some (.d (.bool true)):=by
 obtain⟨⟨x1,x2,x3⟩,x4,x5⟩:=hX.facts;obtain⟨⟨y1,y2,y3⟩,y4,y5⟩:=hY.facts;rw[ep]at x5 y5
 cases l with
 | nil =>
  rw[ao ut ui rfl];have h0:(Dn prog).code (.loop eh) ⟨[(0,X),(1,Y),(5,.d (.int .i64 0))],⟨[],0⟩⟩=some (.exit 0,⟨[],⟨[],0⟩⟩):=by
   rw[ac kC];simp (maxSteps:=300000) (disch:=omega) [↓if_pos,↓if_neg,x1,x2,x5,y1,y2,y5]
  simp (maxSteps:=300000) (disch:=omega) [↓if_pos,↓if_neg,x1,x2,x5,y1,y2,y5,h0]
 | cons s t =>
  have h0:=agm (s::t) hl hf (s::t) 0 rfl;have c0:((0:Nat):Int)=0:=rfl;have hne:aR (s::t)≠[]:=by simp[aR]
  rw[c0]at h0;have hsl:=ep (l:=s::t);rw[hX.ne hne,hY.ne hne];rw[ao ut ui rfl];generalize aR (s::t)=SL at *;generalize (s::t).length=LN at *;simp (maxSteps:=300000) (disch:=omega) [↓if_pos,↓if_neg,hsl,h0]
theorem aiT (l:List ef) (hl:l.length≤9000) (hp:∀ s∈l,s.pos≤9000) (d:Nat) (hd:d≤9000) (X:AV) (hX:ck X (aR l)):∀ (r:List ef) (i N:Nat) (acc:List ef),l.drop i=r→acc.length≤i→
  ∃ M,(Dn prog).code (.loop fX) ⟨[(0,X),(1,.d (.int .i64 d)),(5,ah 8 (aR acc)),(6,.d (.int .i64 i))],⟨[],N⟩⟩=some (.exit 0,⟨[(5,ah 8 (aR (acc++u9 d r)))],⟨[],M⟩⟩):=by
 obtain⟨⟨x1,x2,x3⟩,x4,x5⟩:=hX.facts;rw[ep]at x5;intro r
 induction r with
 | nil =>
  intro i N acc h1 ha;have hi:=bn h1;refine⟨N,?_⟩;have e:acc++u9 d []=acc:=by simp[u9]
  have hfo:firm (ah 8 (aR acc))=ah 8 (aR acc):=IE;rw[e,ac pq];generalize ah 8 (aR acc)=OA at *;simp (maxSteps:=300000) (disch:=omega) [↓if_pos,↓if_neg,x1,x2,x5,hfo]
 | cons s r ih =>
  intro i N acc h1 ha;have hi:=bR h1;have g1:=Tv h1;have d1:l.drop (i+1)=r:=by rw[←List.tail_drop,h1];rfl
  have hps:=hp s (List.mem_of_mem_drop (i:=i) (by rw[h1];exact .head _));obtain⟨M,ih1⟩:=ih (i+1) (N+1) (acc++[{ s with pos:=s.pos+d }]) d1 (by simp;omega);have e:acc++[{ s with pos:=s.pos+d }]++u9 d r=acc++u9 d (s::r):=by simp[u9]
  have hne:aR l≠[]:=fun h=>by
   have:=congrArg List.length h;rw[ep,List.length_nil]at this;omega
  have hsl:=ep (l:=l);have hal:=ep (l:=acc);refine⟨M,?_⟩;rw[e,show ((i+1:Nat):Int)=(i:Int)+1 from rfl,U2,gp]at ih1;rw[←ih1];clear ih ih1 e;have hXd:=hX.ne hne;subst hXd;rw[ac pq];have c1:((s.pos+d:Nat):Int)=(s.pos:Int)+d:=rfl;simp only[ef.cells,c1]at g1⊢;generalize aR l=SL at *;generalize c4 s.fr.chans=L1 at *;generalize bT s.fr.bands=L2 at *;generalize ae s.fr.fill=L3 at *;generalize aR acc=SA at *
  cases SA with
  | nil=>simp (config := { maxSteps:=3000000 }) (disch:=omega) [↓if_pos,↓if_neg,-getElem?_pos,hsl,g1]
  | cons u v=>simp (config := { maxSteps:=3000000 }) (disch:=omega) [↓if_pos,↓if_neg,-getElem?_pos,hsl,g1]
theorem ac9 {b:List Nat}(hb:b.length≤9000):(CM b).Fit:=by
 have hz:Ma.Fit:=⟨⟨by simp[Ma],by simp[Ma]⟩,by simp only[Ma];omega,⟨by simp[Ma],by simp[Ma]⟩,by simp[Ma],by simp[Ma]⟩
 unfold CM;by_cases h:iH b=0
 ·rw[if_pos h]
  cases hG:Vd b with
  | er e=>exact hz
  | ok f m =>
   simp only[];have h0:iO b=0:=by
    unfold iH at h;by_cases h0:iO b=0
    ·exact h0
    ·rw[if_pos h0]at h;exact h
   have ok:=(GC h0).1;have hl:=tB (l:=b.drop (dD (aD b).crc));rw[List.length_drop]at hl;have:=ok.1;exact(aiI (by omega) (by omega) Tf (by omega) ok.2.1 hG).1.1
 ·rw[if_neg h];exact hz
theorem N9 {rt n:Int}{cb:Bool}{b:List Nat}(hb:b.length≤9000):∀ {l:List ef}{e:Nat},Xa rt n cb b e l→∀ s∈l,s.fr.Fit
 | [],_,_,s,h=>absurd h (by simp)
 | x::t,e,hc,s,h=>by
  rcases List.mem_cons.1 h with rfl | h
  ·rw[hc.2.2.2.2.1];exact ac9 (by rw[List.length_take,List.length_drop];omega)
  ·exact N9 hb hc.2.2.2.2.2.2 s h
theorem ID {rt n:Int}{cb:Bool}{b:List Nat}:Xa rt n cb b 0 (bh rt n cb b):=by
 have:=Ot (rt:=rt) (n:=n) (cb:=cb) (b:=b) (b.length+1) 0 0 (Nat.le_refl _) (fun h=>absurd h (Nat.lt_irrefl _)) (fun h=>absurd h (Nat.lt_irrefl _));rw[List.drop_zero]at this;exact this
theorem AL {rt n:Int}{cb:Bool}{b:List Nat}:∀ {l:List ef}{e:Nat},Xa rt n cb b e l→(l.length:Int)≤b.length-e∨l=[]
 | [],_,_=>.inr rfl
 | x::t,e,hc=>by
  obtain⟨h1,h2,h3,_,_,_,h7⟩:=hc;have:=ye h2;rw[List.length_drop]at this;rcases AL h7 with h | h
  ·left;rw[List.length_cons];omega
  ·left;rw[h,List.length_cons,List.length_nil];omega
theorem JY {rt n:Int}{cb:Bool}{b:List Nat}:∀ {l:List ef}{e:Nat},Xa rt n cb b e l→∀ s∈l,s.pos+s.len≤b.length
 | [],_,_,s,h=>absurd h (by simp)
 | x::t,e,hc,s,h=>by
  obtain⟨h1,h2,h3,_,_,_,h7⟩:=hc;have:=ye h2;rw[List.length_drop]at this;rcases List.mem_cons.1 h with rfl | h
  ·omega
  ·exact JY h7 s h
theorem My (l:List ef) (hl:l.length≤9000) (hp:∀ s∈l,s.pos≤9000) (d:Nat) (hd:d≤9000) (X:AV) (hX:ck X (aR l)):∃ A,(firm A=ah 8 (aR (u9 d l))∧oS A=ah 8 (aR (u9 d l)))∧aS prog tX [X,.d (.int .i64 d)]=some A:=by
 obtain⟨M,h0⟩:=aiT l hl hp d hd X hX l 0 0 [] rfl (by simp);have c0:((0:Nat):Int)=0:=rfl;have s0:ah 8 (aR [])=.nl:=rfl;rw[c0,s0,List.nil_append]at h0;obtain⟨⟨x1,x2,x3⟩,x4,x5⟩:=hX.facts;generalize hSS:aR (u9 d l)=SS at *
 cases SS with
 | nil =>
  refine⟨.nl,⟨rfl,rfl⟩,?_⟩;rw[lk]at h0;rw[ao lX l8 rfl];simp (maxSteps:=300000) (disch:=omega) [↓if_pos,↓if_neg,h0]
 | cons u v =>
  rw[CW]at h0;by_cases hf:((u::v).all fun x=>x.all gD)=true
  ·refine⟨.own true 8 (u::v),⟨rfl,rfl⟩,?_⟩;rw[ao lX l8 rfl];simp (maxSteps:=300000) (disch:=omega) [↓if_pos,↓if_neg,h0];simpa using hf
  ·refine⟨.own false 8 (u::v),⟨rfl,rfl⟩,?_⟩;rw[ao lX l8 rfl];simp (maxSteps:=300000) (disch:=omega) [↓if_pos,↓if_neg,h0];simpa using hf
def bM:List Nat:=[255,241,64,64,1,96,20,0,0,0,7]
theorem anL:aS prog Ai [fQ 0 1 false 0,.d (.lst (ae [0,0,0,7]))]=some (.tup [.agg (gb.ow ⟨[c0],false,0,[],[]⟩),.d (.int .i64 0)]):=tY 400 (by kernel_rfl)
theorem arW:mH 0 1 false bM∧dw 0 1 false bM=11:=by decide +kernel
theorem aqE:mH 0 1 false (bM++bM)∧dw 0 1 false (bM++bM)=11:=by decide +kernel
theorem asr:¬ mH 0 1 false []:=by decide +kernel
theorem avD:iO bM=0∧dD (aD bM).crc=7∧(aD bM).rate=0∧(aD bM).chans=1∧(aD bM).len=11∧(aD bM).crc=false:=by decide +kernel
theorem avU:∀ x∈bM,x≤255:=by decide
theorem arX:iH bM=0:=by
 obtain⟨h1,h2,h3,h4,h5,h6⟩:=avD;have hl:((bM.length:Nat):Int)=11:=rfl;rw[iH,if_neg (by rw[h1];decide),if_neg (by omega),if_neg (by omega),if_neg (by rw[h6];simp)];have hR:=X6 0 1 false 0 (.d (.lst (ae [0,0,0,7]))) [0,0,0,7] ck.d (by simp) (by decide);have e:Vd bM=DI (bJ [0,0,0,7]) (0:Int).toNat 1:=by
  rw[Vd,h2,h3,h4];rfl
 rw[anL]at hR;rcases hR with ⟨_,_,hR⟩ | ⟨_,e2,he,hR⟩
 ·rw[e]
  cases hG:DI (bJ [0,0,0,7]) (0:Int).toNat 1 with
  | ok f m=>rfl
  | er x =>
   rw[hG]at hR;simp at hR;omega
 ·simp at hR;omega
theorem Kz {k:Nat}:(qJ k 11 bM).lost=false:=by
 show decide (iH bM≠0)=false;exact decide_eq_false (fun h=>h arX)
theorem ab9 {f k:Nat}:eC 0 1 false (f+2) k bM=[qJ k 11 bM]:=by
 obtain⟨h1,h2⟩:=arW;rw[eC,if_pos h1,h2];have e1:bM.take 11=bM:=rfl;have e2:bM.drop 11=[]:=rfl;rw[e1,e2,eC,if_neg asr];rfl
theorem ap3:bh 0 1 false (bM++bM)=[qJ 0 11 bM,qJ 11 11 bM]:=by
 obtain⟨h1,h2⟩:=aqE;have e0:(bM++bM).length+1=20+2+1:=rfl;have e1:(bM++bM).take 11=bM:=rfl;have e2:(bM++bM).drop 11=bM:=rfl;rw[bh,e0,eC,if_pos h1,h2,e1,e2,ab9]
theorem ahA:bh 0 1 false bM=[qJ 0 11 bM]:=by
 have e0:bM.length+1=10+2:=rfl;rw[bh,e0,ab9]
theorem art:bh 0 1 false ([0,1]++bM)=[qJ 2 11 bM]:=by
 have h:=PY (rt:=0) (n:=1) (cb:=false) (a:=[0,1]) (b:=bM) avU (by decide) (by decide) (s:=qJ 0 11 bM) (by rw[ahA];rfl) rfl Kz;rw[h,ahA];rfl
theorem aeu:aS prog DV []=some (fQ 0 1 false 0):=tY 100 (by kernel_rfl)
theorem aeV:aS prog DX []=some (.own true 1 (ae bM)):=tY 100 (by kernel_rfl)
theorem aqg {s:ef}:aR [s]=[s.cells]:=rfl
theorem aph {s t:ef}:aR [s,t]=[s.cells,t.cells]:=rfl
theorem Do:aS prog tT []=some (.d (.bool true)):=by
 have hc:=aeu;have he:=aeV;have h2:=pc 0 1 false 0 (bM++bM) (by decide) (by decide);have h3:=pc 0 1 false 0 ([0,1]++bM) (by decide) (by decide);have hk:sF 0 1:=⟨by decide,.inl rfl⟩
 rcases h2 with ⟨_,A,⟨hA,hA2⟩,h2⟩ | ⟨h,_⟩
 rotate_left
 ·exact absurd hk h
 rcases h3 with ⟨_,B,⟨hB,hB2⟩,h3⟩ | ⟨h,_⟩
 rotate_left
 ·exact absurd hk h
 have l1:=Kz (k:=0);have l2:=Kz (k:=11);have l3:=Kz (k:=2);rw[ap3,aph,CW]at hA hA2;rw[art,aqg,CW]at hB hB2;simp only[ef.cells,l1,l2,l3]at hA hB hA2 hB2;simp only[qJ]at hA hB hA2 hB2;have e1:ae (bM++bM)=ae bM++ae bM:=Jq;have e2:ae ([0,1]++bM)=[.int .u8 0]::[.int .u8 1]::ae bM:=rfl;rw[e1]at h2;rw[e2]at h3;have ho:=Bb (l:=bM);have hl:(ae bM).length=11:=rfl;simp only[fQ]at hc h2 h3;generalize CM bM=FR at *;generalize c4 FR.chans=L1 at *;generalize bT FR.bands=L2 at *;generalize ae FR.fill=L3 at *;generalize ae bM=E at *;rw[ao Fc EZ rfl];simp (config := { maxSteps:=3000000 }) (disch:=omega) [↓if_pos,↓if_neg,hc,he,h2,h3,hA,hB,hA2,hB2,ho,hl]
theorem ags {h:af}{l:List ef}{a:Nat}(ha:a≤l.length) (hl:l.length≤1000000000):gX h 8 (.d (.lst (aR l))) (some (.d (.int .i64 (a:Int)))) none none=some (.d (.lst (aR (l.drop a)))):=by
 have e2:cB (.d (.int .i64 (a:Int))) (aR l).length=some a:=by rw[An (by omega) (by rw[ep];omega)];simp
 have e3:uq 8 (aR l)=true:=by cases l<;>rfl
 simp only[gX,okSl,qq,lenOf,sm,qu,e2,e3,sub];have e4:((aR l).drop a).take ((aR l).length-a)=aR (l.drop a):=by
  rw[List.take_of_length_le (by rw[List.length_drop];exact Nat.le_refl _)];unfold aR;rw[List.map_drop]
 rw[e4]
theorem Aw {m:Nat}{xs:List (List D)}:(firm (ah m xs)=ah m xs∧oS (ah m xs)=ah m xs)∧(share (share (ah m xs))=share (ah m xs)∧firm (share (ah m xs))=share (ah m xs))∧(∀ hp,viewArg hp (share (ah m xs))=some (share (ah m xs)))∧lM (share (ah m xs))=false:=by
 have h:ck (share (ah m xs)) xs:=gr;exact⟨⟨IE,by cases xs<;>rfl⟩,⟨h.facts.1.1,h.facts.1.2.1⟩,h.view.1,h.view.2⟩
theorem aqj (rt n:Int) (cb:Bool) (cz:Int) (b:List Nat) (hb2:∀ x∈b,x≤255) (w:Nat) (hw:w≤255):aS prog sj [fQ rt n cb cz,.d (.lst (ae b)),.d (.int .u8 w)]=some (.d (.bool true)):=by
 have ha:=Do;have hbl:=ba (l:=b);by_cases hb:b.length≤3000
 rotate_left
 ·simp only[fQ];rw[ao iq ir rfl];generalize ae b=B at *;simp (maxSteps:=300000) (disch:=omega) [↓if_pos,↓if_neg,ha,hbl]
 have hS:=pc rt n cb cz b (by omega) hb2;rcases hS with ⟨hc,A,⟨hA,hA2⟩,hS⟩ | ⟨_,hS⟩
 rotate_left
 ·simp only[fQ]at hS⊢;rw[ao iq ir rfl];generalize ae b=B at *;simp (maxSteps:=300000) (disch:=omega) [↓if_pos,↓if_neg,ha,hbl,hS]
 by_cases hl0:bh rt n cb b=[]
 ·rw[hl0]at hA hA2;have s0:ah 8 (aR [])=.nl:=rfl;rw[s0]at hA hA2;simp only[fQ]at hS⊢;rw[ao iq ir rfl];generalize ae b=B at *;simp (maxSteps:=300000) (disch:=omega) [↓if_pos,↓if_neg,ha,hbl,hS,hA,hA2]
 have hL:0<(bh rt n cb b).length:=List.length_pos_iff.2 hl0;have hcov:=ID (rt:=rt) (n:=n) (cb:=cb) (b:=b);have hLn:(bh rt n cb b).length≤3000:=by
  rcases AL hcov with h | h
  ·omega
  ·exact absurd h hl0
 obtain⟨k,hk⟩:∃ k,k=w % (bh rt n cb b).length:=⟨_,rfl⟩
 have hkl:k<(bh rt n cb b).length:=by rw[hk];exact Nat.mod_lt _ hL
 obtain⟨s,hs⟩:∃ s,(bh rt n cb b)[k]?=some s:=⟨_,List.getElem?_eq_getElem hkl⟩
 obtain⟨o1,o2⟩:=anX hs;have hS2:=pc rt n cb cz (b.drop (s.pos+s.len)) (by rw[List.length_drop];omega) (fun x hx=>hb2 x (List.mem_of_mem_drop hx));rcases hS2 with ⟨_,B2,⟨hB,hB2⟩,hS2⟩ | ⟨h,_⟩
 rotate_left
 ·exact absurd hc h
 have hcov2:=ID (rt:=rt) (n:=n) (cb:=cb) (b:=b.drop (s.pos+s.len));have hm:(bh rt n cb (b.drop (s.pos+s.len))).length≤3000:=by
  rcases AL hcov2 with h | h
  ·rw[List.length_drop]at h;omega
  ·rw[h];simp
 obtain⟨C,⟨hC,hC2⟩,hM⟩:=My (bh rt n cb (b.drop (s.pos+s.len))) (by omega) (fun x hx=>by have:=JY hcov2 x hx;rw[List.length_drop]at this;omega) (s.pos+s.len) (by omega) (share (ah 8 (aR (bh rt n cb (b.drop (s.pos+s.len)))))) gr;have hfit:∀ x∈(bh rt n cb b).drop (k+1),x.fr.Fit:=fun x hx=>N9 (by omega) hcov x (List.mem_of_mem_drop hx)
 have hE:=Qe ((bh rt n cb b).drop (k+1)) (by rw[List.length_drop];omega) hfit (share (ah 8 (aR ((bh rt n cb b).drop (k+1))))) (.d (.lst (aR ((bh rt n cb b).drop (k+1))))) gr ck.d;rw[←o2]at hC hC2;have hsd:=fun h=>tF (h:=h) (l:=b) (a:=s.pos+s.len) (by omega) (by omega)
 have hss:=fun h=>ags (h:=h) (l:=bh rt n cb b) (a:=k+1) (by omega) (by omega)
 have hg:(aR (bh rt n cb b))[k]?=some s.cells:=by rw[aR,List.getElem?_map,hs];rfl
 have hsl:=ep (l:=bh rt n cb b);have ht:((w:Int)).tmod ((bh rt n cb b).length:Int)=(k:Int):=by rw[hk];rfl
 have hne:aR (bh rt n cb b)≠[]:=fun h=>by
  have:=congrArg List.length h;rw[ep,List.length_nil]at this;omega
 rw[E1 hne]at hA hA2;have c1:((s.pos+s.len:Nat):Int)=(s.pos:Int)+s.len:=rfl;have c2:((k+1:Nat):Int)=(k:Int)+1:=rfl;rw[c1]at hsd hM;rw[c2]at hss;simp only[ef.cells]at hg;simp only[fQ]at hS hS2⊢;rw[ao iq ir rfl];obtain⟨⟨m1,m2⟩,⟨m3,m4⟩,m5,m6⟩:=Aw (m:=8) (xs:=aR ((bh rt n cb b).drop (k+1)));obtain⟨⟨n1,n2⟩,⟨n3,n4⟩,n5,n6⟩:=Aw (m:=8) (xs:=aR (bh rt n cb (b.drop (s.pos+s.len))));generalize ah 8 (aR ((bh rt n cb b).drop (k+1)))=OD at *;generalize aR ((bh rt n cb b).drop (k+1))=SD at *;generalize hOM:ah 8 (aR (bh rt n cb (b.drop (s.pos+s.len))))=OM at *;generalize aR (bh rt n cb b)=SL at *;generalize (bh rt n cb b).length=LN at *;generalize ae (b.drop (s.pos+s.len))=BD at *;generalize ae b=B at *;generalize c4 s.fr.chans=L1 at *;generalize bT s.fr.bands=L2 at *;generalize ae s.fr.fill=L3 at *;simp (config := { maxSteps:=3000000 }) (disch:=omega) [↓if_pos,↓if_neg,-getElem?_pos,ha,hbl,hS,hA,hA2,hsl,ht,hg,hsd,hS2,hB,hB2,hM,hC,hC2,hss,hE,m1,m2,m3,m4,m5,m6,n1,n2,n3,n4,n5,n6]
theorem agw {hp:af}{m:Nat}{xs:List (List D)}:viewArg hp (ah m xs)=some (share (ah m xs)):=by cases xs<;>rfl
theorem akD (rt n:Int) (cb:Bool) (cz:Int) (X:AV) (a:List Nat) (ha:a.length≤3000) (ha2:∀ x∈a,x≤255):∀ (r:List Nat) (i:Nat),a.drop i=r→
  ((∀ x∈r,x≠255)∧(Dn prog).code (.loop cU) ⟨[(1,.d (.lst (ae a))),(2,X),(3,.ptr 0 0),(8,.d (.int .i64 i))],⟨[(0,.cells [.d (.int .i64 rt),.d (.int .i64 n),.d (.bool cb),.d (.int .i64 cz)])],1⟩⟩ =
   some (.exit 0,⟨[(1,.d (.lst (ae a))),(2,X),(3,.ptr 0 0)],⟨[(0,.cells [.d (.int .i64 rt),.d (.int .i64 n),.d (.bool cb),.d (.int .i64 cz)])],1⟩⟩))∨
  (Dn prog).code (.loop cU) ⟨[(1,.d (.lst (ae a))),(2,X),(3,.ptr 0 0),(8,.d (.int .i64 i))],⟨[(0,.cells [.d (.int .i64 rt),.d (.int .i64 n),.d (.bool cb),.d (.int .i64 cz)])],1⟩⟩ =
   some (.ret,⟨[(6,.d (.bool true))],⟨[],1⟩⟩):=by
 have hbl:=ba (l:=a);intro r
 induction r with
 | nil =>
  intro i h1;have hi:=bn h1;refine .inl ⟨by simp,?_⟩;rw[ac dY];generalize ae a=B at *;simp (maxSteps:=300000) (disch:=omega) [↓if_pos,↓if_neg,hbl]
 | cons x r ih =>
  intro i h1;have hi:=bR h1;have g1:=KD h1;have d1:a.drop (i+1)=r:=by rw[←List.tail_drop,h1];rfl
  have hx:=ha2 x (List.mem_of_mem_drop (i:=i) (by rw[h1];exact .head _));have ih1:=ih (i+1) d1;rw[show ((i+1:Nat):Int)=(i:Int)+1 from rfl]at ih1;clear ih;by_cases hq:x=255
  ·refine .inr ?_;subst hq;rw[ac dY];generalize ae a=B at *;simp (maxSteps:=300000) (disch:=omega) [↓if_pos,↓if_neg,-getElem?_pos,hbl,g1]
  ·rcases ih1 with ⟨h2,ih1⟩ | ih1
   ·refine .inl ⟨fun y hy=>?_,?_⟩
    ·rcases List.mem_cons.1 hy with rfl | hy
     ·exact hq
     ·exact h2 y hy
    ·rw[←ih1,ac dY];generalize ae a=B at *;simp (maxSteps:=300000) (disch:=omega) [↓if_pos,↓if_neg,-getElem?_pos,hbl,g1]
   ·refine .inr ?_;rw[←ih1,ac dY];generalize ae a=B at *;simp (maxSteps:=300000) (disch:=omega) [↓if_pos,↓if_neg,-getElem?_pos,hbl,g1]
theorem aim (rt n:Int) (cb:Bool) (cz:Int) (a b:List Nat) (ha2:∀ x∈a,x≤255) (hb2:∀ x∈b,x≤255):aS prog oW [fQ rt n cb cz,.d (.lst (ae a)),.d (.lst (ae b))]=some (.d (.bool true)):=by
 have hal:=Do;have hbl:=ba (l:=b);have hbla:=ba (l:=a);by_cases hla:a.length≤3000
 rotate_left
 ·simp only[fQ];rw[ao b8 b9 rfl];generalize ae a=BA at *;generalize ae b=B at *;simp (maxSteps:=300000) (disch:=omega) [↓if_pos,↓if_neg,hal,hbl,hbla]
 by_cases hb:b.length≤3000
 rotate_left
 ·simp only[fQ];rw[ao b8 b9 rfl];generalize ae a=BA at *;generalize ae b=B at *;simp (maxSteps:=300000) (disch:=omega) [↓if_pos,↓if_neg,hal,hbl,hbla]
 have hL0:=akD rt n cb cz (.d (.lst (ae b))) a hla ha2 a 0 rfl;have c0:((0:Nat):Int)=0:=rfl;rw[c0]at hL0;rcases hL0 with ⟨hna,hL0⟩ | hL0
 rotate_left
 ·simp only[fQ];rw[ao b8 b9 rfl];generalize ae a=BA at *;generalize ae b=B at *;simp (maxSteps:=300000) (disch:=omega) [↓if_pos,↓if_neg,hal,hbl,hbla,hL0]
 have hS:=pc rt n cb cz b (by omega) hb2;have hS2:=pc rt n cb cz (a++b) (by rw[List.length_append];omega) (fun x hx=>by
  rcases List.mem_append.1 hx with h | h
  ·exact ha2 x h
  ·exact hb2 x h)
 have e1:ae (a++b)=ae a++ae b:=Jq;rw[e1]at hS2;have o1:=Bb (l:=a);have o2:=Bb (l:=b);rcases hS with ⟨hc,A,⟨hA,hA2⟩,hS⟩ | ⟨hnc,hS⟩
 rotate_left
 ·rcases hS2 with ⟨h,_⟩ | ⟨_,hS2⟩
  ·exact absurd h hnc
  simp only[fQ]at hS hS2⊢;rw[ao b8 b9 rfl];generalize ae a=BA at *;generalize ae b=B at *;simp (maxSteps:=300000) (disch:=omega) [↓if_pos,↓if_neg,hal,hbl,hbla,hL0,hS,hS2,o1,o2]
 rcases hS2 with ⟨_,D2,⟨hD,hD2⟩,hS2⟩ | ⟨h,_⟩
 rotate_left
 ·exact absurd hc h
 obtain⟨⟨n1,n2⟩,⟨n3,n4⟩,n5,n6⟩:=Aw (m:=8) (xs:=aR (bh rt n cb (a++b)));by_cases hl0:bh rt n cb b=[]
 ·rw[hl0]at hA hA2;have s0:ah 8 (aR [])=.nl:=rfl;rw[s0]at hA hA2;simp only[fQ]at hS hS2⊢;rw[ao b8 b9 rfl];generalize ae a=BA at *;generalize ae b=B at *;generalize ah 8 (aR (bh rt n cb (a++b)))=OD at *;simp (maxSteps:=300000) (disch:=omega) [↓if_pos,↓if_neg,hal,hbl,hbla,hL0,hS,hS2,o1,o2,hA,hA2,hD,hD2,n1,n2]
 have hL:0<(bh rt n cb b).length:=List.length_pos_iff.2 hl0;have hcov:=ID (rt:=rt) (n:=n) (cb:=cb) (b:=b);have hcov2:=ID (rt:=rt) (n:=n) (cb:=cb) (b:=a++b);have hLn:(bh rt n cb b).length≤3000:=by
  rcases AL hcov with h | h
  ·omega
  ·exact absurd h hl0
 have hLn2:(bh rt n cb (a++b)).length≤6000:=by
  rcases AL hcov2 with h | h
  ·rw[List.length_append]at h;omega
  ·rw[h];simp
 obtain⟨s,hs⟩:∃ s,(bh rt n cb b)[0]?=some s:=⟨_,List.getElem?_eq_getElem hL⟩
 have hg:(aR (bh rt n cb b))[0]?=some s.cells:=by rw[aR,List.getElem?_map,hs];rfl
 have hsl:=ep (l:=bh rt n cb b);have hne:aR (bh rt n cb b)≠[]:=fun h=>by
  have:=congrArg List.length h;rw[ep,List.length_nil]at this;omega
 have hsp:=JY hcov s (List.mem_of_getElem? hs);by_cases hgo:s.pos=0∧s.lost=false
 ·obtain⟨h0,hl⟩:=hgo;have hsa:=PY hb2 ha2 hna hs h0 hl;obtain⟨C,⟨hC,hC2⟩,hM⟩:=My (bh rt n cb b) (by omega) (fun x hx=>by have:=JY hcov x hx;omega) a.length (by omega) (.d (.lst (aR (bh rt n cb b)))) ck.d;have hfit:∀ x∈bh rt n cb (a++b),x.fr.Fit:=fun x hx=>N9 (by rw[List.length_append];omega) hcov2 x hx
  have hE:=Qe (bh rt n cb (a++b)) (by omega) hfit (share (ah 8 (aR (bh rt n cb (a++b))))) (share (ah 8 (aR (bh rt n cb (a++b))))) gr gr;rw[←hsa]at hC hC2;rw[E1 hne]at hA hA2;have hv:=fun hp=>agw (hp:=hp) (m:=8) (xs:=aR (bh rt n cb (a++b)))
  simp only[ef.cells,h0,hl]at hg;simp only[fQ]at hS hS2⊢;rw[ao b8 b9 rfl];generalize ah 8 (aR (bh rt n cb (a++b)))=OD at *;generalize aR (bh rt n cb b)=SL at *;generalize (bh rt n cb b).length=LN at *;generalize ae a=BA at *;generalize ae b=B at *;generalize c4 s.fr.chans=L1 at *;generalize bT s.fr.bands=L2 at *;generalize ae s.fr.fill=L3 at *;simp (config := { maxSteps:=3000000 }) (disch:=omega) [↓if_pos,↓if_neg,-getElem?_pos,hal,hbl,hbla,hL0,hS,hS2,o1,o2,hA,hA2,hD,hD2,hsl,hg,hM,hC,hC2,hE,hv,n1,n2,n3,n4,n5,n6]
 ·rw[E1 hne]at hA hA2;simp only[ef.cells]at hg;simp only[fQ]at hS hS2⊢;have hcas:0<s.pos∨s.pos=0∧s.lost=true:=by
   rcases Nat.eq_zero_or_pos s.pos with h | h
   ·right;refine⟨h,?_⟩
    cases hll:s.lost
    ·exact absurd ⟨h,hll⟩ hgo
    ·rfl
   ·exact .inl h
  rw[ao b8 b9 rfl];generalize ah 8 (aR (bh rt n cb (a++b)))=OD at *;generalize aR (bh rt n cb b)=SL at *;generalize (bh rt n cb b).length=LN at *;generalize ae a=BA at *;generalize ae b=B at *;generalize c4 s.fr.chans=L1 at *;generalize bT s.fr.bands=L2 at *;generalize ae s.fr.fill=L3 at *;rcases hcas with hp | ⟨hp,hl⟩
  ·simp (config := { maxSteps:=3000000 }) (disch:=omega) [↓if_pos,↓if_neg,-getElem?_pos,hal,hbl,hbla,hL0,hS,hS2,o1,o2,hA,hA2,hD,hD2,hsl,hg,n1,n2]
  ·rw[hp,hl]at hg;simp (config := { maxSteps:=3000000 }) (disch:=omega) [↓if_pos,↓if_neg,-getElem?_pos,hal,hbl,hbla,hL0,hS,hS2,o1,o2,hA,hA2,hD,hD2,hsl,hg,n1,n2]
theorem ahP (rt n:Int) (cb:Bool) (cz:Int) (b:List Nat) (hb:b.length≤3000) (hb2:∀ x∈b,x≤255) (l:List ef) (hl:l.length≤3000) (X:AV) (hX:ck (share X) (aR l)∧firm X=X) (hX2:lenOf (share X)=some l.length):∀ (r:List ef) (i e N:Nat),l.drop i=r→Xa rt n cb b e r→e≤3000→1≤N→
  ∃ M,(Dn prog).code (.loop dK) ⟨[(1,.d (.lst (ae b))),(2,.ptr 0 0),(6,X),(8,.d (.int .i64 e)),(9,.d (.int .i64 i))],⟨[(0,.cells [.d (.int .i64 rt),.d (.int .i64 n),.d (.bool cb),.d (.int .i64 cz)])],N⟩⟩ =
   some (.exit 0,⟨[],⟨[],M⟩⟩):=by
 obtain⟨hX,hXf⟩:=hX;have hXs:=hX.facts.1.2.1;have hbl:=ba (l:=b);have hsl:=ep (l:=l);intro r
 induction r with
 | nil =>
  intro i e N h1 hc he hN;have hi:=bn h1;refine⟨N,?_⟩;rw[ac lD];generalize ae b=B at *;simp (maxSteps:=300000) (disch:=omega) [↓if_pos,↓if_neg,hX2,hXf,hXs]
 | cons s r ih =>
  intro i e N h1 hc he hN;obtain⟨v1,v2,v3,v4,v5,v6,v7⟩:=hc;have hst:=ye v2;rw[←v3,List.length_drop]at hst;obtain⟨p1,p2,p3,p4,p5⟩:=v2;have hi:=bR h1;have g1:=Tv h1;have d1:l.drop (i+1)=r:=by rw[←List.tail_drop,h1];rfl
  have hne:aR l≠[]:=fun h=>by
   have:=congrArg List.length h;rw[ep,List.length_nil]at this;omega
  have hXd:=hX.ne hne;have hfit:s.fr.Fit:=by rw[v5];exact ac9 (by rw[List.length_take,List.length_drop];omega)
  have hH:=IF (b.drop s.pos) (by rw[List.length_drop];omega) (fun x hx=>hb2 x (List.mem_of_mem_drop hx)) (.d (.lst (ae (b.drop s.pos)))) ck.d;have hR:=Io ((b.drop s.pos).take s.len) (by rw[List.length_take];omega) (fun x hx=>hb2 x (List.mem_of_mem_drop (List.mem_of_mem_take hx))) _ ck.d;obtain⟨Q,Y,Z,hQ,hY,hZ,hA⟩:=Ik ((b.drop s.pos).take s.len);rw[hA,←v5]at hR;rw[←v5]at hQ hY hZ;have hS:=Rp s.fr hfit Q Y Z _ _ _ hQ hY hZ ck.d ck.d ck.d;rw[p1]at hH;have sk:=fun h=>tF (h:=h) (l:=b) (a:=s.pos) (by omega) (by omega)
  have ssk:∀ h,gX h 1 (.d (.lst (ae b))) (some (.d (.int .i64 (s.pos:Int)))) (some (.d (.int .i64 ((s.pos:Int)+s.len)))) none=some (.d (.lst (ae ((b.drop s.pos).take s.len)))):=fun h=>IX (h:=h) (l:=b) (X:=(b.drop s.pos).take s.len) (a:=s.pos) (n:=s.pos+s.len) ⟨by omega,by rw[List.length_take,List.length_drop];omega,(b.drop s.pos).drop s.len,(List.take_append_drop s.len _).symm⟩ (by omega)
  obtain⟨M,ih1⟩:=ih (i+1) (s.pos+s.len) (N+1+1+1+1) d1 v7 (by omega) (by omega);refine⟨M,?_⟩;rw[show ((i+1:Nat):Int)=(i:Int)+1 from rfl,show ((s.pos+s.len:Nat):Int)=(s.pos:Int)+s.len from rfl]at ih1;rw[←ih1];clear ih ih1;obtain⟨⟨q1,q2,q3⟩,q4,q5⟩:=hQ.facts;obtain⟨⟨y1,y2,y3⟩,y4,y5⟩:=hY.facts;obtain⟨⟨z1,z2,z3⟩,z4,z5⟩:=hZ.facts;have w1:=hQ.one.1.2;have w2:=hY.one.1.2;have w3:=hZ.one.1.2;have vq:=hQ.one.1.1;have vy:=hY.one.1.1;have vz:=hZ.one.1.1;have oq:=hQ.one.2;have oy:=hY.one.2;have oz:=hZ.one.2;rw[hXd]at hX2;simp only[ef.cells]at g1;simp only[frA]at hS;rw[ac lD];generalize aD (b.drop s.pos)=HH at *;obtain⟨hr,hn,hcc,hlen,hfu⟩:=HH
  dsimp only at p2 p3 p4 p5 hst
  obtain⟨t1,t2,t3,t4⟩:=hst;subst p2 p3 p4;rw[←t3]at hH;generalize (Ur ((b.drop s.pos).take s.len))=RH at *;generalize ae (b.drop s.pos)=BD at *;generalize ae ((b.drop s.pos).take s.len)=BT at *;generalize ae b=B at *;generalize aR l=SL at *;generalize c4 s.fr.chans=L1 at *;generalize bT s.fr.bands=L2 at *;generalize ae s.fr.fill=L3 at *;by_cases hE:iH ((b.drop s.pos).take s.len)=0
  ·rw[hE]at hR;have hlo:s.lost=false:=by rw[v4,hE];rfl
   rw[hlo]at g1
   cases hcc<;>simp (config := { maxSteps:=3000000 }) (disch:=omega) [↓if_pos,↓if_neg,-getElem?_pos,-aV,hXd,hXf,hX2,hbl,hsl,g1,sk,ssk,hH,hR,hS,q1,q2,q3,q4,y1,y2,y3,y4,z1,z2,z3,z4,w1,w2,w3,vq,vy,vz,oq,oy,oz]
  ·have hlo:s.lost=true:=by rw[v4];exact decide_eq_true hE
   have hse:s.pos=e:=by
    rcases Nat.lt_or_ge e s.pos with h | h
    ·rw[v6 h]at hlo;cases hlo
    ·omega
   rw[hlo]at g1;generalize iH ((b.drop s.pos).take s.len)=E at *
   cases hcc<;>simp (config := { maxSteps:=3000000 }) (disch:=omega) [↓if_pos,↓if_neg,-getElem?_pos,-aV,hXd,hXf,hX2,hbl,hsl,g1,sk,ssk,hH,hR,hS,q1,q2,q3,q4,y1,y2,y3,y4,z1,z2,z3,z4,w1,w2,w3,vq,vy,vz,oq,oy,oz]
theorem aeq (rt n:Int) (cb:Bool) (cz:Int) (b:List Nat) (hb2:∀ x∈b,x≤255):aS prog nJ [fQ rt n cb cz,.d (.lst (ae b))]=some (.d (.bool true)):=by
 have ha:=Do;have hbl:=ba (l:=b);by_cases hb:b.length≤3000
 rotate_left
 ·simp only[fQ];rw[ao iS iW rfl];generalize ae b=B at *;simp (maxSteps:=300000) (disch:=omega) [↓if_pos,↓if_neg,ha,hbl]
 have hS:=pc rt n cb cz b (by omega) hb2;rcases hS with ⟨hc,A,⟨hA,hA2⟩,hS⟩ | ⟨_,hS⟩
 rotate_left
 ·simp only[fQ]at hS⊢;rw[ao iS iW rfl];generalize ae b=B at *;simp (maxSteps:=300000) (disch:=omega) [↓if_pos,↓if_neg,ha,hbl,hS]
 have hcov:=ID (rt:=rt) (n:=n) (cb:=cb) (b:=b);have hLn:(bh rt n cb b).length≤3000:=by
  rcases AL hcov with h | h
  ·omega
  ·rw[h];simp
 have hle:lenOf (share (ah 8 (aR (bh rt n cb b))))=some (bh rt n cb b).length:=by rw[aai,ep]
 obtain⟨M,h0⟩:=ahP rt n cb cz b hb hb2 (bh rt n cb b) hLn (ah 8 (aR (bh rt n cb b))) ⟨gr,IE⟩ hle (bh rt n cb b) 0 0 1 rfl hcov (by omega) (by omega);have c0:((0:Nat):Int)=0:=rfl;obtain⟨⟨n1,n2⟩,⟨n3,n4⟩,n5,n6⟩:=Aw (m:=8) (xs:=aR (bh rt n cb b));rw[c0]at h0;simp only[fQ]at hS⊢;rw[ao iS iW rfl];generalize ah 8 (aR (bh rt n cb b))=OD at *;generalize ae b=B at *;simp (maxSteps:=300000) (disch:=omega) [↓if_pos,↓if_neg,ha,hbl,hS,hA,hA2,n1,n2,h0]
theorem abU {H:Type}:∀ {ds:List (DataW H)},eg [(true,xG),(false,[.lst [.int .u8]]),(false,[.int .u8])] ds→(∃ d1 d2 d3,ds=[d1,d2,d3])∧∃ (rt n:Int) (cb:Bool) (cz:Int) (l:List Nat) (w:Nat),(∀ x∈l,x≤255)∧w≤255∧pV [(true,xG),(false,[Ty.lst [.int .u8]]),(false,[.int .u8])] ds=[fQ rt n cb cz,.d (.lst (ae l)),.d (.int .u8 w)]
 | [d1,d2,d3],h=>by
  simp only[eg,and_true]at h;obtain⟨h1,h2,h3⟩:=h;obtain⟨rt,n,cb,cz,e1⟩:=Xs h1;obtain⟨x2,e2,h2⟩:=M9 h2;obtain⟨k,rfl,hk⟩:=KN h2;obtain⟨x3,e3,h3⟩:=M9 h3;obtain⟨w,rfl,hw⟩:=aly h3;refine⟨⟨_,_,_,rfl⟩,rt,n,cb,cz,k,w,hk,hw,?_⟩;simp only[pV,e2,e3,Ku,e1]
 | [],h=>by simp[eg]at h
 | [_],h=>by simp[eg]at h
 | [_,_],h=>by simp[eg]at h
 | _::_::_::_::_,h=>by simp[eg]at h
theorem PA {H:Type}:∀ {ds:List (DataW H)},eg [(true,xG),(false,[.lst [.int .u8]]),(false,[.lst [.int .u8]])] ds→(∃ d1 d2 d3,ds=[d1,d2,d3])∧∃ (rt n:Int) (cb:Bool) (cz:Int) (a l:List Nat),(∀ x∈a,x≤255)∧(∀ x∈l,x≤255)∧pV [(true,xG),(false,[Ty.lst [.int .u8]]),(false,[Ty.lst [.int .u8]])] ds=[fQ rt n cb cz,.d (.lst (ae a)),.d (.lst (ae l))]
 | [d1,d2,d3],h=>by
  simp only[eg,and_true]at h;obtain⟨h1,h2,h3⟩:=h;obtain⟨rt,n,cb,cz,e1⟩:=Xs h1;obtain⟨x2,e2,h2⟩:=M9 h2;obtain⟨a,rfl,ha⟩:=KN h2;obtain⟨x3,e3,h3⟩:=M9 h3;obtain⟨k,rfl,hk⟩:=KN h3;refine⟨⟨_,_,_,rfl⟩,rt,n,cb,cz,a,k,ha,hk,?_⟩;simp only[pV,e2,e3,Ku,e1]
 | [],h=>by simp[eg]at h
 | [_],h=>by simp[eg]at h
 | [_,_],h=>by simp[eg]at h
 | _::_::_::_::_,h=>by simp[eg]at h
end Go.Vm
end
