import Derived.Test.YtaonpbailcljnaaGreatP6
set_option linter.unusedVariables false
set_option linter.unusedSimpArgs false
set_option linter.defProp false
set_option linter.unusedSectionVars false
noncomputable section
namespace Go.Vm
set_option maxRecDepth 100000
set_option maxHeartbeats 8000000
abbrev cZ:=@List.exists_cons_of_ne_nil
def air:Dp [.int .i64 0] (A_ 256) (A_ 256)=some (.own true 1 (am Z0)):=(xF (z:=[.int .i64 0]) (n:=256) o_).trans (by simp[am])
def aeq:(am Z0).length=256:=by rw[cx,ca]
abbrev Sb (H:Hd)(Z:G_):D_:=[A_ H.gain,.d (.int .u8 H.inf.seq),.d (.int .u8 H.inf.shape),A_ H.inf.max,.d (.lst (am H.inf.groups)),.d (.lst (aV H.S)),.d (.lst (cf H.T)),.d (.lst (bf H.F)),.own true 1 (am Z)]
def ac8:∀r<12,(bl prog tV [A_ ((r:Nat):Int),.agg zI]=some (A_ 8)):=by
 intro r hr;have:r=0∨r=1∨r=2∨r=3∨r=4∨r=5∨r=6∨r=7∨r=8∨r=9∨r=10∨r=11:=o_;rcases this with rfl|rfl|rfl|rfl|rfl|rfl|rfl|rfl|rfl|rfl|rfl|rfl<;>exact F9 400 (by kernel_rfl)
def HY {r:Nat}{q:Bool}{i:ay}{iv:D_}(hr:r<=11)(hi:i.Fit)(hiv:iv=i.cells∨q=false∧iv=zI)(hq:q=true->i.may r):∃k:Int,(q=true->k=0)∧bl prog tV [A_ r,.agg iv]=some (A_ k):=by
 rcases hiv with rfl|⟨rfl,rfl⟩
 .have hI:=CY r i hi;rw[ac o_,ax]at hI;by_cases hm:i.may r
  .rw[ac hm]at hI;exact⟨0,λ_=>rfl,hI⟩
  .rw[aa hm]at hI;exact⟨8,λh=>absurd (hq h) hm,hI⟩
 .exact⟨8,λh=>absurd h s_,ac8 r o_⟩
def akn (b:C_)(hb:b.length<=1000000000)(a:Int)(ha:i64 a)(r:Nat)(hr:r<=11)(q:Bool)(i:ay)(hi:i.Fit)(iv:D_)(hiv:iv=i.cells∨q=false∧iv=zI)(hq:q=true->i.may r)(n0:Nat)(e0:aN b a 0=.ok 0 n0)(H:Hd)(n:Nat)(eH:CV b n0 r q i=.ok H n)(Z:G_)(m:Nat)(eL:cu b (JB r H.inf H.S) n Z0=.ok Z m):bl prog p9 [.d (.lst (aT b)),A_ a,A_ r,B_ q,.agg iv] =
  if H.od=0∧(H.is=1->lj H.F=true) then some (.tup [.agg (Sb H Z),A_ m,A_ 0])
  else some (.tup [.agg j7,A_ 0,A_ 8]):=by
 have hR:de (r:Int):=o_;have hB:=gu b a 0 hb ha;have p0:=b3 e0;rw[e0,bJ p0]at hB;obtain⟨k,hk0,hI⟩:=HY hr hi hiv hq;have hh:=Hv b hb r hR q i hi iv hiv (λh=>by rw[ax];exact hq h) n0 (by have:=p0.2;omega) k 11;rw[ax]at hh;have p1:=hh.2 H n eH;have hl:=hh.1.1 H n eH;have hM:=il r false;rw[ac hR]at hM;obtain⟨G,j,S,T,Ft,od,is⟩:=H;have hF:=VD Ft (by have:=p1.F.1;simp only at this;have:=jH j;omega) (λl hl=>by have:=(p1.F.2 l hl).1;omega);simp only[Wx]at hl eL;obtain⟨q1,q2,q3,C2,M,hp⟩:=(T7 b hb ⟨.cells [.junk],.cells [B_ q],.cells iv,.cells [A_ od],.cells [A_ is],.cells [Wi],.cells tg,.cells j.cells,.cells [.d (.lst (aV S))],.cells [.own false 1 (aF (offs r j.short))]⟩ (A_ G) (.d (.int .u8 j.seq)) (.d (.int .u8 j.shape)) (A_ j.max) (.own false 1 (am j.groups)) (ao 1 (aV S)) (share (ao 1 (cf T))) (ao 1 (bf Ft)) r hr j p1.fit p1.may S p1.S rfl rfl rfl n p1.n).1 Z m eL;have hj11:=kZ hr p1.may;have hSl:S.length=j.groups.length:=p1.S.1;have hTl:=aX List.length p1.T;simp only[fj]at hTl;have hFl:=p1.F.1;simp only at hFl;have hmn:=jH j;have hgn:j.groups≠[]:=λh=>by have:=(fu hj11).2;rw[h]at this;simp at this;omega
 have hg1:=bm.2 hgn;obtain⟨s1,S1,rfl⟩:=cZ (bm.1 (show 0<S.length by omega));obtain⟨t1,T1,rfl⟩:=cZ (bm.1 (show 0<T.length by omega));obtain⟨f1,F1,rfl⟩:=cZ (bm.1 (show 0<Ft.length by omega));have eS:ao 1 (aV (s1::S1))=.own false 1 (aV (s1::S1)):=rfl;have eT:share (ao 1 (cf (t1::T1)))=.d (.lst (cf (t1::T1))):=rfl;have eF:ao 1 (bf (f1::F1))=.own false 1 (bf (f1::F1)):=rfl;have hP:=Qb r hr j (.lst (aV (s1::S1))) [(0,.cells [.d (.lst (aT b))]),(1,.cells [.junk]),(2,.cells [B_ q]),(3,.cells iv),(4,.cells [A_ G,.d (.int .u8 j.seq),.d (.int .u8 j.shape),A_ j.max,.own false 1 (am j.groups),.own false 1 (aV (s1::S1)),.d (.lst (cf (t1::T1))),.own false 1 (bf (f1::F1)),.sl 11 0 256]),(5,.cells [A_ n]),(6,.cells [A_ 0]),(7,.cells [A_ od]),(8,.cells [A_ is]),(9,.cells [Wi]),(10,.cells tg),(11,.arr 1 (am Z0)),(12,.cells z5),(13,.cells [.ptr 12 0])] 14 (λp hp=>by
  simp only[aQ,fQ,mh]at hp;rcases hp with rfl|rfl|rfl|rfl|rfl|rfl|rfl|rfl|rfl|rfl|rfl|rfl|rfl|rfl<;>simp only[]<;>omega)
 have c0:((0:Nat):Int)=0:=rfl;rw[eS,eT,eF]at hl hp;simp only[Sb,ay.cells,GH,nD,aI,aD,c0]at hI hl hp hP hB⊢;clear hh p1 eL eH q2 eS eT eF hi;generalize aV (s1::S1)=SS at *;generalize cf (t1::T1)=TT at *;generalize bf (f1::F1)=FF at *;generalize hz:am Z0=z0 at *;have hk:=air;have hz2:=aeq;rw[hz]at hk hz2;rw[aM xj xN rfl];have hmk:MB 1 tg=true:=rfl;simp only[tg,wV]at hmk;have hZt:List.take 256 Z=Z:=bw o_;have hoi:(od=0∧((((is:Nat):Int)=1∧lj (f1::F1)=true)∨(((is:Nat):Int)≠1)))∨(od=0∧((is:Nat):Int)=1∧lj (f1::F1)=false)∨od≠0:=by
  cases lj (f1::F1)<;>simp<;>omega
 have hii:(is=1)=(((is:Nat):Int)=1):=propext o_;simp only[hii];clear hii;generalize lj (f1::F1)=an at *;generalize ((is:Nat):Int)=iz at *;rcases hoi with ⟨h1,⟨h2,h3⟩|h2⟩|⟨h1,h2,h3⟩|h1
 .subst h3;rw[ac ⟨h1,λ_=>rfl⟩];rcases hiv with rfl|⟨rfl,rfl⟩
  .simp only[ay.cells]at hI hl hp hP⊢
   cases q with
   |true =>
    have:=hk0 rfl;subst this;simp(config := { maxSteps:=9^7 }) (disch:=omega)[↓ac,↓aa,rd,hB,hM,hI,hl,hk,hz2,hP,hp,hmk,hF,q1,hZt]
   |false=>simp(config := { maxSteps:=9^7 }) (disch:=omega)[↓ac,↓aa,rd,hB,hM,hI,hl,hk,hz2,hP,hp,hmk,hF,q1,hZt]
  .simp only[zI]at hI hl hp hP⊢;simp(config := { maxSteps:=9^7 }) (disch:=omega)[↓ac,↓aa,rd,hB,hM,hI,hl,hk,hz2,hP,hp,hmk,hF,q1,hZt]
 .rw[ac ⟨h1,λh=>absurd h h2⟩];rcases hiv with rfl|⟨rfl,rfl⟩
  .simp only[ay.cells]at hI hl hp hP⊢
   cases q with
   |true =>
    have:=hk0 rfl;subst this;simp(config := { maxSteps:=9^7 }) (disch:=omega)[↓ac,↓aa,rd,hB,hM,hI,hl,hk,hz2,hP,hp,hmk,hF,q1,hZt]
   |false=>simp(config := { maxSteps:=9^7 }) (disch:=omega)[↓ac,↓aa,rd,hB,hM,hI,hl,hk,hz2,hP,hp,hmk,hF,q1,hZt]
  .simp only[zI]at hI hl hp hP⊢;simp(config := { maxSteps:=9^7 }) (disch:=omega)[↓ac,↓aa,rd,hB,hM,hI,hl,hk,hz2,hP,hp,hmk,hF,q1,hZt]
 .subst h3;rw[aa (λh=>absurd (h.2 h2) s_)];rcases hiv with rfl|⟨rfl,rfl⟩
  .simp only[ay.cells]at hI hl hp hP⊢
   cases q with
   |true =>
    have:=hk0 rfl;subst this;simp(config := { maxSteps:=9^7 }) (disch:=omega)[↓ac,↓aa,rd,hB,hM,hI,hl,hk,hz2,hP,hp,hmk,hF,q1,hZt]
   |false=>simp(config := { maxSteps:=9^7 }) (disch:=omega)[↓ac,↓aa,rd,hB,hM,hI,hl,hk,hz2,hP,hp,hmk,hF,q1,hZt]
  .simp only[zI]at hI hl hp hP⊢;simp(config := { maxSteps:=9^7 }) (disch:=omega)[↓ac,↓aa,rd,hB,hM,hI,hl,hk,hz2,hP,hp,hmk,hF,q1,hZt]
 .rw[aa (λh=>absurd h.1 h1)];rcases hiv with rfl|⟨rfl,rfl⟩
  .simp only[ay.cells]at hI hl hp hP⊢
   cases q with
   |true =>
    have:=hk0 rfl;subst this;simp(config := { maxSteps:=9^7 }) (disch:=omega)[↓ac,↓aa,rd,hB,hM,hI,hl,hk,hz2,hP,hp,hmk,hF,q1,hZt]
   |false=>simp(config := { maxSteps:=9^7 }) (disch:=omega)[↓ac,↓aa,rd,hB,hM,hI,hl,hk,hz2,hP,hp,hmk,hF,q1,hZt]
  .simp only[zI]at hI hl hp hP⊢;simp(config := { maxSteps:=9^7 }) (disch:=omega)[↓ac,↓aa,rd,hB,hM,hI,hl,hk,hz2,hP,hp,hmk,hF,q1,hZt]
abbrev yH:VC:=(.seq vu
 (.seq (.seq vw
 (.cond (.m 84)
 (.seq (.seq (K [0,1,2]) (F 13)) (.seq uQ
 .ret))
 (.seq (K [15]) .skip)))
 (.seq u9
 (.seq (.seq uF
 (.cond (.m 100)
 (.seq (.seq (K [0,1,2]) (F 13)) (.seq vy
 .ret))
 (.seq (K [15]) .skip)))
 (.seq uN
 (.seq vx
 (.seq (.seq uC
 (.cond (.m 115)
 (.seq (.seq (K [0,1,2,16]) (F 13)) (.seq vg
 .ret))
 (.seq (K [15]) .skip)))
 (.seq uS
 (.seq (.seq uB
 (.cond (.m 129)
 (.seq (.seq (K [1,16]) (F 13)) (.seq vd
 .ret))
 (.seq (K [15]) .skip)))
 (.seq (.seq uH
 (.cond (.m 133)
 (.seq (.seq (K [1]) (F 13)) (.seq u4
 .ret))
 .skip))
 (.seq (.seq uL (F 13))
 .ret)))))))))))
def JL (b:C_)(n:Int)(rt:Nat)(gn:Nat)(j:ay):R (Hd×G_) :=
 (lM b j n).bind λS n=>(pM b S n gn).bind λT n=>(Dh b j n).bind λt n=>(cu b (JB rt j S) n Z0).bind λZ n=>if vN t.1 t.2.1 t.2.2.1 t.2.2.2≠0 then .er 7 else .ok (⟨gn,j,S,T,t.1,0,0⟩,Z) n
abbrev al0 (b:C_)(n rt:Nat):aK:=[(0,.d (.lst (aT b))),(1,A_ n),(2,A_ rt),(10,.ptr 1 0),(13,.ptr 2 0)]
abbrev alH (gn:Nat)(j:ay):ak:=[(1,.cells j7),(2,.cells [A_ gn,.d (.int .u8 j.seq),.d (.int .u8 j.shape),A_ j.max,.own false 1 (am j.groups),.nl,.nl,.nl,.nl])]
abbrev okC (H:Hd)(Z:G_):D_:=[A_ H.gain,.d (.int .u8 H.inf.seq),.d (.int .u8 H.inf.shape),A_ H.inf.max,.own false 1 (am H.inf.groups),.own false 1 (aV H.S),.own false 1 (cf H.T),.own false 1 (bf H.F),.own false 1 (am Z)]
def aht {b:C_}{j:ay}{a:Int}(hb:b.length<=1000000000)(ha:i64 a){F:P_}{o s p n:Nat}(h:Dh b j a=.ok (F,o,s,p) n):F.length=j.many∧n<=b.length∧(∀l∈F,l.length<=3∧∀f∈l,f.coefs.length<=12)∧o<2∧s<2∧p<2:=by
 unfold Dh at h;obtain⟨o',n1,h1,h⟩:=dR h;obtain⟨s',n2,h2,h⟩:=dR h;obtain⟨F',n3,h3,h⟩:=dR h;obtain⟨p',n4,h4,h⟩:=dR h;injection h with e1 e2
 injection e1 with e3 e1
 injection e1 with e4 e1
 injection e1 with e5 e6
 subst e2 e3 e4 e5 e6;have q1:=b3 h1;have q2:=b3 h2;have q4:=b3 h4;refine⟨?_,q4.2,?_,q1.1,q2.1,q4.1⟩
 .split at h3
  .exact(Gl hb (by have:=q2.2;omega) h3).1
  .injection h3 with e1 e2
   subst e1;exact ca
 .split at h3
  .exact(Gl hb (by have:=q2.2;omega) h3).2.2
  .injection h3 with e1 e2
   subst e1;intro l hl;rw[eg hl];exact⟨dr _,λf hf=>by simp at hf⟩
def Yj (b:C_)(hb:b.length<=1000000000)(rt:Nat)(hrt:rt<=11)(gn:Nat)(hgn:gn<=255)(j:ay)(hj:j.Fit)(hm:j.may rt)(n:Nat)(hn:n<=b.length) :
  (∀v m,JL b n rt gn j=.ok v m->(Dn prog).code yH ⟨al0 b n rt,⟨alH gn j,3⟩⟩=some (.ret,⟨[(10,.ptr 1 0),(11,A_ m),(12,A_ 0)],⟨[(1,.cells (okC v.1 v.2))],3⟩⟩))∧
  (∀e,JL b n rt gn j=.er e->(Dn prog).code yH ⟨al0 b n rt,⟨alH gn j,3⟩⟩=some (.ret,⟨[(10,.ptr 1 0),(11,A_ 0),(12,A_ (e+1))],⟨[(1,.cells j7)],3⟩⟩)):=by
 have hm11:=kZ hrt hm;have h1:=acJ b n j hb o_ hj hm11;obtain⟨g1,g2⟩:=fu hm11;have hmn:=jH j;have hgne:j.groups≠[]:=λh=>by rw[h]at g2;simp at g2;omega
 unfold JL
 cases e1:lM b j n with
 |er e =>
  rw[e1,dp]at h1;simp only[cg];refine⟨λv m h=>absurd h s_,λe' h=>?_⟩;injection h with h
  subst h;simp only[ay.cells]at h1;simp(config := { maxSteps:=9^7 }) (disch:=omega)[↓ac,↓aa,h1]
 |ok S n1 =>
 have p1:=Lk e1;rw[e1,bJ p1]at h1;obtain⟨s1,s2,s3,s4,s5⟩:=If hm11 p1;have h2:=abP b hb n1 gn (by have:=p1.2.1;omega) ⟨o_,o_⟩ S o_ (λl hl=>(s5 l hl).1);have hsS:share (ao 1 (aV S))=.d (.lst (aV S)):=Gk (by cases S with|nil=>exact absurd rfl s1|cons x r=>simp[aV]);have eS:ao 1 (aV S)=.own false 1 (aV S):=fZ (by cases S with|nil=>exact absurd rfl s1|cons x r=>simp[aV]);rw[eS]at h1 hsS;rw[au]
 cases e2:pM b S n1 gn with
 |er e =>
  rw[e2,dp]at h2;simp only[cg];refine⟨λv m h=>absurd h s_,λe' h=>?_⟩;injection h with h
  subst h;simp only[ay.cells]at h1;simp(config := { maxSteps:=9^7 }) (disch:=omega)[↓ac,↓aa,h1,h2,hsS]
 |ok T n2 =>
 have p2:Ts b S T n2:=Wu ⟨o_,o_⟩ e2;rw[e2,bJ p2]at h2;have hTn:T≠[]:=λh=>by
  have:=p2.1;rw[h]at this;have:=aX List.length this;simp at this;exact s1 (List.length_eq_zero_iff.1 this.symm)
 have hfT:firm (R9 T n2)=.tup [.own false 1 (cf T),A_ n2,A_ 0]:=by
  rw[alx,fZ (by cases T with|nil=>exact absurd rfl hTn|cons x r=>simp[cf])]
 have h3:=Za b hb n2 (by have:=p2.2;omega) j;rw[au]
 cases e3:Dh b j n2 with
 |er e =>
  rw[e3]at h3;simp only[cg];refine⟨λv m h=>absurd h s_,λe' h=>?_⟩;injection h with h
  subst h;simp only[ay.cells,SE]at h1 h3;simp(config := { maxSteps:=9^7 }) (disch:=omega)[↓ac,↓aa,h1,h2,hfT,hsS,h3]
 |ok t n3 =>
 obtain⟨Ft,o,s,p⟩:=t;rw[e3]at h3;have p3:=aht hb (by have:=p2.2;omega) e3;obtain⟨f1,f2,f3,f4,f5,f6⟩:=p3;have hFn:Ft≠[]:=λh=>by rw[h]at f1;simp at f1;omega
 have h4:=Qu b hb rt hrt j hm S s3 (.int .i64 gn) (.lst (cf T)) (.lst (bf Ft)) n3 f2;have hsT:share (ao 1 (cf T))=.d (.lst (cf T)):=Gk (by cases T with|nil=>exact absurd rfl hTn|cons x r=>simp[cf]);have hsF:share (ao 1 (bf Ft))=.d (.lst (bf Ft)):=Gk (by cases Ft with|nil=>exact absurd rfl hFn|cons x r=>simp[bf]);have eF:ao 1 (bf Ft)=.own false 1 (bf Ft):=fZ (by cases Ft with|nil=>exact absurd rfl hFn|cons x r=>simp[bf]);simp only[au];simp only[ay.cells,SE,EO,eF]at h1 h3 h4 hsF;have hod:vN Ft o s p<=3:=by unfold vN;split<;>omega
 cases e4:cu b (JB rt j S) n3 Z0 with
 |er e =>
  rw[e4]at h4;simp only[abK]at h4;simp only[cg];refine⟨λv m h=>absurd h s_,λe' h=>?_⟩;injection h with h
  subst h;clear hod;generalize vN Ft o s p=od at *;simp(config := { maxSteps:=9^7 }) (disch:=omega)[↓ac,↓aa,h1,h2,hfT,hsS,h3,hsT,hsF,h4]
 |ok Z n4 =>
  rw[e4]at h4;simp only[abK]at h4;simp only[au];generalize vN Ft o s p=od at *;by_cases h0:od=0
  .subst h0;refine⟨λv m h=>?_,λe h=>absurd h s_⟩;simp only[ne_eq,not_true_eq_false,bu]at h;injection h with q1 q2
   subst q1 q2;have c0:((0:Nat):Int)=0:=rfl;rw[c0]at h3;simp(config := { maxSteps:=9^7 }) (disch:=omega)[↓ac,↓aa,h1,h2,hfT,hsS,h3,hsT,hsF,h4]
  .refine⟨λv m h=>absurd h (by rw[ac h0];simp),λe h=>?_⟩;rw[ac h0]at h;injection h with h
   subst h;simp(config := { maxSteps:=9^7 }) (disch:=omega)[↓ac,↓aa,h1,h2,hfT,hsS,h3,hsT,hsF,h4]
abbrev fF:=@Classical.byContradiction
def ahc (b:C_)(a:Int)(r:Int)(hr:¬de r)(q:Bool)(i:ay):bl prog p9 [.d (.lst (aT b)),A_ a,A_ r,B_ q,.agg i.cells]=some (.tup [.agg j7,A_ 0,A_ 2]):=by
 have hM:=il r false;rw[aa hr]at hM;simp only[ay.cells];rw[aM xj xN rfl];simp(config := { maxSteps:=9^7 }) (disch:=omega)[↓ac,↓aa,rd,hM]
def ad7 (b:C_)(hb:b.length<=1000000000)(a:Int)(ha:i64 a)(r:Nat)(hr:r<=11)(q:Bool)(i:ay)(iv:D_)(hiv:iv=i.cells∨q=false∧iv=zI)(e:Nat)(e0:aN b a 0=.er e):bl prog p9 [.d (.lst (aT b)),A_ a,A_ r,B_ q,.agg iv] =
  some (.tup [.agg j7,A_ 0,A_ (e+1)]):=by
 have hR:de (r:Int):=o_;have hB:=gu b a 0 hb ha;rw[e0,dp]at hB;have hM:=il r false;rw[ac hR]at hM;rcases hiv with rfl|⟨rfl,rfl⟩
 all_goals
  simp only[ay.cells,zI];rw[aM xj xN rfl];simp(config := { maxSteps:=9^7 }) (disch:=omega)[↓ac,↓aa,rd,hB,hM]
def ahl (b:C_)(hb:b.length<=1000000000)(a:Int)(ha:i64 a)(r:Nat)(hr:r<=11)(i:ay)(hi:i.Fit)(hm:¬i.may r)(n0:Nat)(e0:aN b a 0=.ok 0 n0):bl prog p9 [.d (.lst (aT b)),A_ a,A_ r,B_ true,.agg i.cells] =
  some (.tup [.agg j7,A_ 0,A_ 8]):=by
 have hR:de (r:Int):=o_;have hB:=gu b a 0 hb ha;have p0:=b3 e0;rw[e0,bJ p0]at hB;have hM:=il r false;rw[ac hR]at hM;have hI:=CY r i hi;rw[ac hR,ax,aa hm]at hI;have c0:((0:Nat):Int)=0:=rfl;simp only[ay.cells,c0]at hI hB⊢;rw[aM xj xN rfl];simp(config := { maxSteps:=9^7 }) (disch:=omega)[↓ac,↓aa,rd,hB,hM,hI]
def af5 (b:C_)(hb:b.length<=1000000000)(a:Int)(ha:i64 a)(r:Nat)(hr:r<=11)(q:Bool)(i:ay)(hi:i.Fit)(iv:D_)(hiv:iv=i.cells∨q=false∧iv=zI)(hq:q=true->i.may r)(n0:Nat)(e0:aN b a 0=.ok 0 n0)(e:Nat)(eH:CV b n0 r q i=.er e):bl prog p9 [.d (.lst (aT b)),A_ a,A_ r,B_ q,.agg iv] =
  some (.tup [.agg j7,A_ 0,A_ (e+1)]):=by
 have hR:de (r:Int):=o_;have hB:=gu b a 0 hb ha;have p0:=b3 e0;rw[e0,bJ p0]at hB;obtain⟨k,hk0,hI⟩:=HY hr hi hiv hq;have hh:=Hv b hb r hR q i hi iv hiv (λh=>by rw[ax];exact hq h) n0 (by have:=p0.2;omega) k 11;rw[ax]at hh;obtain⟨od2,is2,hl⟩:=hh.1.2 e eH;have hM:=il r false;rw[ac hR]at hM;have c0:((0:Nat):Int)=0:=rfl;simp only[ay.cells,c0]at hI hl hB⊢;clear hh eH hi hq;rw[aM xj xN rfl];have hmk:MB 1 tg=true:=rfl;simp only[tg,wV]at hmk;rcases hiv with rfl|⟨rfl,rfl⟩
 .simp only[ay.cells]at hI hl⊢
  cases q with
  |true =>
   have:=hk0 rfl;subst this;simp(config := { maxSteps:=9^7 }) (disch:=omega)[↓ac,↓aa,rd,hB,hM,hI,hl,hmk]
  |false=>simp(config := { maxSteps:=9^7 }) (disch:=omega)[↓ac,↓aa,rd,hB,hM,hI,hl,hmk]
 .simp only[zI]at hI hl⊢;simp(config := { maxSteps:=9^7 }) (disch:=omega)[↓ac,↓aa,rd,hB,hM,hI,hl,hmk]
def agK (b:C_)(hb:b.length<=1000000000)(a:Int)(ha:i64 a)(r:Nat)(hr:r<=11)(q:Bool)(i:ay)(hi:i.Fit)(iv:D_)(hiv:iv=i.cells∨q=false∧iv=zI)(hq:q=true->i.may r)(n0:Nat)(e0:aN b a 0=.ok 0 n0)(H:Hd)(n:Nat)(eH:CV b n0 r q i=.ok H n)(e:Nat)(eL:cu b (JB r H.inf H.S) n Z0=.er e):bl prog p9 [.d (.lst (aT b)),A_ a,A_ r,B_ q,.agg iv] =
  some (.tup [.agg j7,A_ 0,A_ (e+1)]):=by
 have hR:de (r:Int):=o_;have hB:=gu b a 0 hb ha;have p0:=b3 e0;rw[e0,bJ p0]at hB;obtain⟨k,hk0,hI⟩:=HY hr hi hiv hq;have hh:=Hv b hb r hR q i hi iv hiv (λh=>by rw[ax];exact hq h) n0 (by have:=p0.2;omega) k 11;rw[ax]at hh;have p1:=hh.2 H n eH;have hl:=hh.1.1 H n eH;have hM:=il r false;rw[ac hR]at hM;obtain⟨G,j,S,T,Ft,od,is⟩:=H;simp only[Wx]at hl eL;obtain⟨C2,Z2,M,hp⟩:=(T7 b hb ⟨.cells [.junk],.cells [B_ q],.cells iv,.cells [A_ od],.cells [A_ is],.cells [Wi],.cells tg,.cells j.cells,.cells [.d (.lst (aV S))],.cells [.own false 1 (aF (offs r j.short))]⟩ (A_ G) (.d (.int .u8 j.seq)) (.d (.int .u8 j.shape)) (A_ j.max) (.own false 1 (am j.groups)) (ao 1 (aV S)) (share (ao 1 (cf T))) (ao 1 (bf Ft)) r hr j p1.fit p1.may S p1.S rfl rfl rfl n p1.n).2 e eL;have hj11:=kZ hr p1.may;have hSl:S.length=j.groups.length:=p1.S.1;have hTl:=aX List.length p1.T;simp only[fj]at hTl;have hFl:=p1.F.1;simp only at hFl;have hmn:=jH j;have hgn:j.groups≠[]:=λh=>by have:=(fu hj11).2;rw[h]at this;simp at this;omega
 have hg1:=bm.2 hgn;obtain⟨s1,S1,rfl⟩:=cZ (bm.1 (show 0<S.length by omega));obtain⟨t1,T1,rfl⟩:=cZ (bm.1 (show 0<T.length by omega));obtain⟨f1,F1,rfl⟩:=cZ (bm.1 (show 0<Ft.length by omega));have eS:ao 1 (aV (s1::S1))=.own false 1 (aV (s1::S1)):=rfl;have eT:share (ao 1 (cf (t1::T1)))=.d (.lst (cf (t1::T1))):=rfl;have eF:ao 1 (bf (f1::F1))=.own false 1 (bf (f1::F1)):=rfl;have hP:=Qb r hr j (.lst (aV (s1::S1))) [(0,.cells [.d (.lst (aT b))]),(1,.cells [.junk]),(2,.cells [B_ q]),(3,.cells iv),(4,.cells [A_ G,.d (.int .u8 j.seq),.d (.int .u8 j.shape),A_ j.max,.own false 1 (am j.groups),.own false 1 (aV (s1::S1)),.d (.lst (cf (t1::T1))),.own false 1 (bf (f1::F1)),.sl 11 0 256]),(5,.cells [A_ n]),(6,.cells [A_ 0]),(7,.cells [A_ od]),(8,.cells [A_ is]),(9,.cells [Wi]),(10,.cells tg),(11,.arr 1 (am Z0)),(12,.cells z5),(13,.cells [.ptr 12 0])] 14 (λp hp=>by
  simp only[aQ,fQ,mh]at hp;rcases hp with rfl|rfl|rfl|rfl|rfl|rfl|rfl|rfl|rfl|rfl|rfl|rfl|rfl|rfl<;>simp only[]<;>omega)
 have c0:((0:Nat):Int)=0:=rfl;rw[eS,eT,eF]at hl hp;simp only[ay.cells,GH,nD,IB,aI,aD,c0]at hI hl hp hP hB⊢;clear hh p1 eL eH eS eT eF hi;generalize aV (s1::S1)=SS at *;generalize cf (t1::T1)=TT at *;generalize bf (f1::F1)=FF at *;generalize hz:am Z0=z0 at *;have hk:=air;have hz2:=aeq;rw[hz]at hk hz2;rw[aM xj xN rfl];have hmk:MB 1 tg=true:=rfl;simp only[tg,wV]at hmk;rcases hiv with rfl|⟨rfl,rfl⟩
 .simp only[ay.cells]at hI hl hp hP⊢
  cases q with
  |true =>
   have:=hk0 rfl;subst this;simp(config := { maxSteps:=9^7 }) (disch:=omega)[↓ac,↓aa,rd,hB,hM,hI,hl,hk,hz2,hP,hp,hmk]
  |false=>simp(config := { maxSteps:=9^7 }) (disch:=omega)[↓ac,↓aa,rd,hB,hM,hI,hl,hk,hz2,hP,hp,hmk]
 .simp only[zI]at hI hl hp hP⊢;simp(config := { maxSteps:=9^7 }) (disch:=omega)[↓ac,↓aa,rd,hB,hM,hI,hl,hk,hz2,hP,hp,hmk]
def KI (b:C_)(a:Int)(r:Nat)(q:Bool)(i:ay):R (Hd×G_) :=
 (aN b a 0).bind λ_ n=>if q=true∧¬i.may r then .er 7 else (CV b n r q i).bind λH n=>(cu b (JB r H.inf H.S) n Z0).bind λZ m=>if H.od=0∧(H.is=1->lj H.F=true) then .ok (H,Z) m else .er 7
abbrev aqf (x:R (Hd×G_)):L_:=match x with
 |.ok v m=>some (.tup [.agg (Sb v.1 v.2),A_ m,A_ 0])
 |.er e=>some (.tup [.agg j7,A_ 0,A_ (e+1)])
def aiJ (b:C_)(hb:b.length<=1000000000)(a:Int)(ha:i64 a)(r:Nat)(hr:r<=11)(q:Bool)(i:ay)(hi:i.Fit)(iv:D_)(hiv:iv=i.cells∨q=false∧iv=zI):bl prog p9 [.d (.lst (aT b)),A_ a,A_ r,B_ q,.agg iv]=aqf (KI b a r q i):=by
 unfold KI
 cases e0:aN b a 0 with
 |er e=>exact ad7 b hb a ha r hr q i iv hiv e e0
 |ok v n0 =>
 have hv:v=0:=by have:v<1:=(b3 e0).1;omega
 subst hv;rw[au];by_cases hm:q=true∧¬i.may r
 .rw[ac hm];obtain⟨rfl,hm⟩:=hm
  cases hiv.resolve_right λh=>absurd h.1 (by simp)
  exact ahl b hb a ha r hr i hi hm n0 e0
 .rw[aa hm];have hq:q=true->i.may r:=λh=>fF λh2=>hm ⟨h,h2⟩
  cases eH:CV b n0 r q i with
  |er e=>exact af5 b hb a ha r hr q i hi iv hiv hq n0 e0 e eH
  |ok H n =>
  rw[au]
  cases eL:cu b (JB r H.inf H.S) n Z0 with
  |er e=>exact agK b hb a ha r hr q i hi iv hiv hq n0 e0 H n eH e eL
  |ok Z m =>
   rw[au,akn b hb a ha r hr q i hi iv hiv hq n0 e0 H n eH Z m eL];by_cases h:H.od=0∧(H.is=1->lj H.F=true)
   .rw[ac h,ac h]
   .rw[aa h,aa h];rfl
def alz {m:Nat}{y:U_}{r:F_}(hl:(y::r).length<=1000000000)(h:ak):da m h .nl (y::r)=some (.own true m (y::r),h):=by
 have h1:Nat.ble (y::r).length cP=true:=bC (aC hl k_);rw[da,h1];intro h;exact absurd h (by simp)
def amf {m:Nat}(h:ak):da m h .nl []=some (.nl,h):=rfl
def Mk (q s:Nat)(mx:Int)(gs:G_)(hi:gs.length<=1000):∃v,bl prog qV [.agg [.d (.int .u8 q),.d (.int .u8 s),A_ mx,.d (.lst (am gs))]]=some v∧firm v=.agg [.d (.int .u8 q),.d (.int .u8 s),A_ mx,ao 1 (am gs)]:=by
 cases gs with
 |nil =>
  refine⟨.agg [.d (.int .u8 q),.d (.int .u8 s),A_ mx,.nl],?_,rfl⟩;have e:am []=[]:=rfl;rw[aM yL yo rfl,e];simp(maxSteps:=9^6)(disch:=omega)[↓ac,↓aa,amf]
 |cons x r =>
  refine⟨.agg [.d (.int .u8 q),.d (.int .u8 s),A_ mx,.own true 1 (am (x::r))],?_,rfl⟩;have hl:=cx (l:=x::r);have ha:∀h,da 1 h .nl (am (x::r))=some (.own true 1 (am (x::r)),h):=λh=>alz (m:=1) (y:=[.int .i64 x]) (r:=am r) (by have:=cx (l:=r);simp only[aE]at hi⊢;omega) h
  have hk:=WS (l:=x::r);have hl2:(am (x::r)).length<=1000:=o_;generalize am (x::r)=R at *;rw[aM yL yo rfl];simp(maxSteps:=9^6)(disch:=omega)[↓ac,↓aa,ha,hk]
def WN (x:R (Hd×G_)):R (Hd×G_):=match x with
 |.ok v n=>.ok (⟨v.1.gain,v.1.inf,v.1.S,v.1.T,v.1.F,0,0⟩,v.2) n
 |.er e=>.er e
def aoD:∀o p:Nat,o<2->p<2->(Nd o p=0↔o=0∧p=0):=by
 intro o p ho hp;rcases (show o=0∨o=1 by omega) with rfl|rfl<;>rcases (show p=0∨p=1 by omega) with rfl|rfl<;>decide
def akb {b:C_}(hb:b.length<=1000000000){r g:Nat}{j:ay}{n:Int}:WN ((((lM b j n).bind λS n=>(pM b S n g).bind λT n=>(aN b n 1).bind λo n=>(aN b n 1).bind λs n=>(if s=1 then z4 b j n else R.ok (List.replicate j.many []) n).bind λF n=>(aN b n 1).bind λp n=>R.ok (⟨g,j,S,T,F,Nd o p,s⟩:Hd) n)).bind λH n=>(cu b (JB r H.inf H.S) n Z0).bind λZ m=>if H.od=0∧(H.is=1->lj H.F=true) then .ok (H,Z) m else .er 7)=JL b n r g j:=by
 unfold JL Dh
 cases lM b j n with
 |er e=>rfl
 |ok S n1 =>
 simp only[au]
 cases pM b S n1 g with
 |er e=>rfl
 |ok T n2 =>
 simp only[au]
 cases h1:aN b n2 1 with
 |er e=>rfl
 |ok o n3 =>
 simp only[au]
 cases h2:aN b n3 1 with
 |er e=>rfl
 |ok s n4 =>
 simp only[au]
 cases (if s=1 then z4 b j n4 else R.ok (List.replicate j.many []) n4) with
 |er e=>rfl
 |ok F n5 =>
 simp only[au]
 cases h3:aN b n5 1 with
 |er e=>rfl
 |ok p n6 =>
 simp only[au]
 cases cu b (JB r j S) n6 Z0 with
 |er e=>rfl
 |ok Z n7 =>
 simp only[au];have o2:o<2:=(b3 h1).1;have s2:s<2:=(b3 h2).1;have p2:p<2:=(b3 h3).1;have ho:=aoD o p o2 p2;by_cases hc:Nd o p=0∧(s=1->lj F=true)
 .rw[ac hc];obtain⟨h4,h5⟩:=hc;obtain⟨rfl,rfl⟩:=ho.1 h4;have:¬vN F 0 s 0≠0:=by
   unfold vN;by_cases hs:s=1
   .rw[aa (by simp[h5 hs])];simp
   .rw[aa (λh=>hs h.1)];simp
  rw[aa this];rfl
 .rw[aa hc];have:vN F o s p≠0:=by
   intro h;apply hc;unfold vN at h;split at h
   .omega
   .rename_i h5;refine⟨ho.2 o_,λhs=>?_⟩
    cases ha:lj F with
    |true=>rfl
    |false=>exact absurd ⟨hs,ha⟩ h5
  rw[ac this];rfl
def aaN {α β γ:Type}{x:R α}{f:α->Nat->R β}{g:β->Nat->R γ}:(x.bind f).bind g=x.bind λv n=>(f v n).bind g:=by cases x<;>rfl
def L0 {α:Type}{x:R α}{f:α->Nat->R (Hd×G_)}:WN (x.bind f)=x.bind λv n=>WN (f v n):=by cases x<;>rfl
def akq {b:C_}(hb:b.length<=1000000000){a:Int}{r:Nat}{q:Bool}{i:ay}:WN (KI b a r q i)=(aN b a 0).bind λ_ n=>if q=true∧¬i.may r then .er 7 else (aN b n 8).bind λg n=>(if q=true then R.ok i n else np b n r).bind λj n=>JL b n r g j:=by
 unfold KI;rw[L0]
 congr 1
 funext v n;split
 .rfl
 .unfold CV;rw[aaN,L0]
  congr 1
  funext g n;rw[aaN,L0]
  congr 1
  funext j n;exact akb hb
attribute [simp ↓ high] ahx akf
abbrev okJ (H:Hd)(Z:G_):D_:=okC H Z
abbrev Xu (x:R (Hd×G_)):L_:=match x with
 |.ok v m=>some (.tup [.agg (okJ v.1 v.2),A_ m,A_ 0])
 |.er e=>some (.tup [.agg j7,A_ 0,A_ (e+1)])
abbrev aoU (T:VC):VC:=(.seq v8
 (.seq (.seq vT
 (.cond (.m 32)
 (.seq (.seq (K [0,1,2,3]) (F 9)) (.seq wj
 .ret))
 .skip))
 (.seq (.seq v9
 (.cond (.m 40)
 (.seq (.seq (K [0,1,2,3]) (F 9)) (.seq ww
 .ret))
 .skip))
 (.seq (.seq vY (F 9))
 (.seq wu
 (.seq (.seq wl
 (.cond (.m 53)
 (.seq (.seq (K [0,1,2,3,14]) (F 13)) (.seq wy
 .ret))
 (.seq (K [15]) .skip)))
 (.seq wc
 (.seq (.seq uG
 (.cond (.m 59)
 (.seq u5
 (.seq uI
 (.cond (.m 70)
 (.seq (.seq (K [0,1,2]) (F 13)) (.seq uM
 .ret))
 (.seq (K [15]) .skip))))
 .skip)) T))))))))
def xc (T:VC)(hT:T=yH):so=⟨5,[.cell 10 (some 9),.tmp 11,.tmp 12],aoU T⟩:=by rw[hT];rfl
def ag5 (b:C_)(a rt:Int)(hrt:¬de rt)(q:Bool)(cs:D_)(hcs:cs=zI∨∃i:ay,cs=i.cells):bl prog dx [.d (.lst (aT b)),A_ a,A_ rt,B_ q,.agg cs]=some (.tup [.agg j7,A_ 0,A_ 2]):=by
 obtain⟨T,hT⟩:∃T,T=yH:=⟨_,rfl⟩
 have hc:=xc T hT;have hr:rt<0∨0<=rt∧11<rt:=o_;rcases hcs with rfl|⟨i,rfl⟩<;>(rw[aM fl hc rfl];rcases hr with h|⟨h,h2⟩<;>simp(maxSteps:=9^6)(disch:=omega)[↓ac,↓aa])
def adX (b:C_)(hb:b.length<=1000000000)(a:Int)(h0:¬(0<=a∧a<=b.length))(rt:Nat)(hrt:rt<=11)(q:Bool)(cs:D_)(hcs:cs=zI∨∃i:ay,cs=i.cells):bl prog dx [.d (.lst (aT b)),A_ a,A_ rt,B_ q,.agg cs]=some (.tup [.agg j7,A_ 0,A_ 2]):=by
 obtain⟨T,hT⟩:∃T,T=yH:=⟨_,rfl⟩
 have hc:=xc T hT;have hr:a<0∨0<=a∧(b.length:Int)<a:=o_;rcases hcs with rfl|⟨i,rfl⟩<;>(rw[aM fl hc rfl];rcases hr with h|⟨h,h2⟩<;>simp(maxSteps:=9^6)(disch:=omega)[↓ac,↓aa])
def aiv (b:C_)(hb:b.length<=1000000000)(a:Nat)(h0:a<=b.length)(rt:Nat)(hrt:rt<=11)(i:ay)(hi:i.Fit)(hm:¬i.may rt):bl prog dx [.d (.lst (aT b)),A_ a,A_ rt,B_ true,.agg i.cells]=some (.tup [.agg j7,A_ 0,A_ 8]):=by
 obtain⟨T,hT⟩:∃T,T=yH:=⟨_,rfl⟩
 have hc:=xc T hT;have hM:=ER rt i hi o_;rw[ax,aa hm]at hM;simp only[ay.cells]at hM⊢;rw[aM fl hc rfl];simp(maxSteps:=9^6)(disch:=omega)[↓ac,↓aa,hM]
def afG (b:C_)(hb:b.length<=1000000000)(a:Nat)(h0:a<=b.length)(rt:Nat)(hrt:rt<=11)(q:Bool)(qs ss:Nat)(mx:Int)(gs:G_)(hi:gs.length<=1000)(hq:q=true->bl prog gC [A_ rt,.agg [.d (.int .u8 qs),.d (.int .u8 ss),A_ mx,.d (.lst (am gs))]]=some (B_ true))(e:Nat)(he:aN b a 8=.er e)(T:VC)(hT:T=yH):bl prog dx [.d (.lst (aT b)),A_ a,A_ rt,B_ q,.agg [.d (.int .u8 qs),.d (.int .u8 ss),A_ mx,.d (.lst (am gs))]]=some (.tup [.agg j7,A_ 0,A_ (e+1)]):=by
 have hc:=xc T hT;obtain⟨v,t1,t2⟩:=Mk qs ss mx gs hi;have h1:=LI hb o_ he;rw[aM fl hc rfl]
 cases q with
 |true =>
  have hM:=hq rfl;simp(maxSteps:=9^6)(disch:=omega)[↓ac,↓aa,-b9,hM,t1,t2,h1]
 |false=>simp(maxSteps:=9^6)(disch:=omega)[↓ac,↓aa,-b9,t1,t2,h1]
def agT (b:C_)(hb:b.length<=1000000000)(a:Nat)(h0:a<=b.length)(rt:Nat)(hrt:rt<=11)(qs ss:Nat)(mx:Int)(gs:G_)(hi:gs.length<=1000)(g n:Nat)(hg:aN b a 8=.ok g n)(e:Nat)(he:np b n rt=.er e):bl prog dx [.d (.lst (aT b)),A_ a,A_ rt,B_ false,.agg [.d (.int .u8 qs),.d (.int .u8 ss),A_ mx,.d (.lst (am gs))]]=some (.tup [.agg j7,A_ 0,A_ (e+1)]):=by
 obtain⟨T,hT⟩:∃T,T=yH:=⟨_,rfl⟩
 have hc:=xc T hT;obtain⟨v,t1,t2⟩:=Mk qs ss mx gs hi;have h1:=Eh hb o_ hg;have h2:=Tr b n rt hb (by have:=(b3 hg).2;omega);rw[ac o_,ax,he,dp]at h2;rw[aM fl hc rfl];simp(maxSteps:=9^6)(disch:=omega)[↓ac,↓aa,-b9,t1,t2,h1,h2]
def aii {b:C_}{n:Int}{rt gn:Nat}{j:ay}(hm:j.may 11){v:Hd×G_}{m:Nat}(h:JL b n rt gn j=.ok v m):v.1.S≠[]:=by
 unfold JL at h;obtain⟨S,n1,h1,h⟩:=dR h;obtain⟨T,n2,h2,h⟩:=dR h;obtain⟨t,n3,h3,h⟩:=dR h;obtain⟨Z,n4,h4,h⟩:=dR h;have s1:=(If hm (Lk h1)).1;split at h
 .exact absurd h (by simp)
 .injection h with h5 h6
  subst h5;exact s1
def Ys {S:I_}(h:S≠[]):¬∀x∈aV S,∀y∈x,jx y=true:=by
 intro h2
 cases S with
 |nil=>exact h rfl
 |cons l r =>
  have:=h2 [.lst (dH l)] (by simp[aV]) (.lst (dH l)) s_;exact absurd this (by simp[jx])
def ajm (b:C_)(hb:b.length<=1000000000)(a:Nat)(h0:a<=b.length)(rt:Nat)(hrt:rt<=11)(qs ss:Nat)(mx:Int)(gs:G_)(hi:gs.length<=1000)(g n:Nat)(hg:aN b a 8=.ok g n)(j:ay)(m:Nat)(hj:np b n rt=.ok j m):bl prog dx [.d (.lst (aT b)),A_ a,A_ rt,B_ false,.agg [.d (.int .u8 qs),.d (.int .u8 ss),A_ mx,.d (.lst (am gs))]]=Xu (JL b m rt g j):=by
 obtain⟨T,hT⟩:∃T,T=yH:=⟨_,rfl⟩
 have hc:=xc T hT;obtain⟨v,t1,t2⟩:=Mk qs ss mx gs hi;have h1:=Eh hb o_ hg;have hp:=Ua hrt hj;have h2:=Tr b n rt hb (by have:=(b3 hg).2;omega);rw[ac o_,ax,hj,bJ hp]at h2;have hg8:g<256:=(b3 hg).1;obtain⟨u1,u2⟩:=Yj b hb rt hrt g o_ j (Z8 hrt hp.1 hp.2.2) hp.1 m hp.2.1;rw[<-hT]at u1 u2;rw[aM fl hc rfl]
 cases hx:JL b m rt g j with
 |ok v2 n2 =>
  have u:=u1 v2 n2 hx;have nf:=Ys (aii (kZ hrt hp.1) hx);simp(maxSteps:=9^6)(disch:=omega)[↓ac,↓aa,-b9,t1,t2,h1,h2,u];exact λh=>absurd h nf
 |er e =>
  have u:=u2 e hx;simp(maxSteps:=9^6)(disch:=omega)[↓ac,↓aa,-b9,t1,t2,h1,h2,u]
def aiQ (b:C_)(hb:b.length<=1000000000)(a:Nat)(h0:a<=b.length)(rt:Nat)(hrt:rt<=11)(i:ay)(hi:i.Fit)(hm:i.may rt)(g n:Nat)(hg:aN b a 8=.ok g n):bl prog dx [.d (.lst (aT b)),A_ a,A_ rt,B_ true,.agg i.cells]=Xu (JL b n rt g i):=by
 obtain⟨T,hT⟩:∃T,T=yH:=⟨_,rfl⟩
 have hc:=xc T hT;have hM:=ER rt i hi o_;rw[ax,ac hm]at hM;obtain⟨v,t1,t2⟩:=Mk i.seq i.shape i.max i.groups (by have:=hi.len;omega);have hgr:=(fu (kZ hrt hm)).2;have hmn:=jH i;have hgn:ao 1 (am i.groups)=.own false 1 (am i.groups):=fZ (by cases h:i.groups with|nil=>rw[h]at hgr;simp at hgr;omega|cons x r=>simp[am]);rw[hgn]at t2;have h1:=Eh hb o_ hg;have hn:=(b3 hg).2;have hg8:g<256:=(b3 hg).1;obtain⟨u1,u2⟩:=Yj b hb rt hrt g o_ i hi hm n hn;rw[<-hT]at u1 u2;simp only[ay.cells]at hM⊢;rw[aM fl hc rfl]
 cases hx:JL b n rt g i with
 |ok v2 n2 =>
  have u:=u1 v2 n2 hx;have nf:=Ys (aii (kZ hrt hm) hx);simp(maxSteps:=9^6)(disch:=omega)[↓ac,↓aa,-b9,hM,t1,t2,h1,u];exact λh=>absurd h nf
 |er e =>
  have u:=u2 e hx;simp(maxSteps:=9^6)(disch:=omega)[↓ac,↓aa,-b9,hM,t1,t2,h1,u]
def agw {x:R (Hd×G_)}:Xu (WN x)=Xu x:=by cases x<;>rfl
def adP (b:C_)(hb:b.length<=1000000000)(a:Int)(ha:i64 a)(rt:Nat)(hrt:rt<=11)(q:Bool)(i:ay)(hi:i.groups.length<=1000)(hq:q=true->i.Fit):bl prog dx [.d (.lst (aT b)),A_ a,A_ rt,B_ q,.agg i.cells]=Xu (KI b a rt q i):=by
 rw[<-agw,akq hb];by_cases h0:0<=a∧a<=b.length
 .obtain⟨A,rfl⟩:=az h0.1;have hA:A<=b.length:=o_;have e0:aN b A 0=.ok 0 A:=by
   rw[aN,ac ⟨o_,o_,o_⟩,aa o_];simp[bin,val]
  rw[e0,au];by_cases hm:q=true∧¬i.may rt
  .obtain⟨rfl,hm⟩:=hm;rw[ac ⟨rfl,hm⟩];exact aiv b hb A hA rt hrt i (hq rfl) hm
  .rw[aa hm]
   cases e1:aN b A 8 with
   |er e =>
    rw[cg];refine afG b hb A hA rt hrt q i.seq i.shape i.max i.groups hi (λh=>?_) e e1 yH rfl;have hM:=ER rt i (hq h) o_;rw[ax,ac (fF λh2=>hm ⟨h,h2⟩)]at hM;exact hM
   |ok g n =>
    rw[au]
    cases q with
    |true =>
     rw[ac rfl,au];exact aiQ b hb A hA rt hrt i (hq rfl) (fF λh2=>hm ⟨rfl,h2⟩) g n e1
    |false =>
     rw[aa s_]
     cases e2:np b n rt with
     |er e=>exact agT b hb A hA rt hrt i.seq i.shape i.max i.groups hi g n e1 e e2
     |ok j m =>
      rw[au];exact ajm b hb A hA rt hrt i.seq i.shape i.max i.groups hi g n e1 j m e2
 .have e0:aN b a 0=.er 1:=by
   rw[aN,aa (λh=>h0 h.2)]
  rw[e0,cg];exact adX b hb a h0 rt hrt q i.cells (.inr ⟨i,rfl⟩)
structure ano (c:Hn):Prop where
 groups:c.info.groups.length<=40
 sects:c.sects.length<=40∧∀l∈c.sects,l.length<=100
 steps:c.steps.length<=40∧∀l∈c.steps,l.length<=200
 tns:c.tns.length<=40∧∀l∈c.tns,l.length<=20∧∀f∈l,f.coefs.length<=100
 lines:c.lines.length<=2000
def agM (l:G_)(hl:l.length<=1000000)(h:ak)(N:Nat):∀(r:G_) (i:Nat),l.drop i=r->(Dn prog).code (.loop jz) ⟨[(0,.d (.lst (am l))),(1,.d (.lst (am l))),(5,A_ i)],⟨h,N⟩⟩=some (.exit 0,⟨[],⟨h,N⟩⟩):=by
 intro r
 induction r with
 |nil =>
  intro i hd;have hi:=fP hd;rw[ah uE];simp(maxSteps:=9^6)(disch:=omega)[↓ac,↓aa]
 |cons v r ih =>
  intro i hd;have hg:=Db hd;have hlt:=eZ hd;have e:=ih (i+1) (ec hd);rw[show((i+1:Nat):Int)=(i:Int)+1 from rfl]at e;rw[ah uE];simp(maxSteps:=9^6)(disch:=omega)[↓ac,↓aa,hg,e]
def C1 (l:G_)(hl:l.length<=1000000):bl prog ym [.d (.lst (am l)),.d (.lst (am l))]=some (B_ true):=by
 have e:=agM l hl [] 0 l 0 rfl;rw[show((0:Nat):Int)=0 from rfl]at e;rw[aM I0 Ih rfl];simp(maxSteps:=9^6)(disch:=omega)[↓ac,↓aa,e]
def ab0 (i:ay)(hi:i.groups.length<=1000000):bl prog yM [.agg i.cells,.agg i.cells]=some (B_ true):=by
 have e:=C1 i.groups hi;simp only[ay.cells];rw[aM H9 HC rfl];simp(maxSteps:=9^6)(disch:=omega)[↓ac,↓aa,e]
def af2 (l:R_)(hl:l.length<=1000000)(hq:∀x∈l,x.length<=1000000)(h:ak)(N:Nat):∀(r:R_) (i:Nat),l.drop i=r->(Dn prog).code (.loop fS) ⟨[(0,.d (.lst (cf l))),(1,.d (.lst (cf l))),(5,A_ i)],⟨h,N⟩⟩=some (.exit 0,⟨[],⟨h,N⟩⟩):=by
 intro r
 induction r with
 |nil =>
  intro i hd;have hi:=fP hd;rw[ah oK];simp(maxSteps:=9^6)(disch:=omega)[↓ac,↓aa]
 |cons v r ih =>
  intro i hd;have hg:=aez hd;have hlt:=eZ hd;have hv:=hq v (d8 (by rw[hd];exact .head _));have e:=ih (i+1) (ec hd);have e2:=C1 v hv;rw[show((i+1:Nat):Int)=(i:Int)+1 from rfl]at e;rw[ah oK];simp(maxSteps:=9^6)(disch:=omega)[↓ac,↓aa,hg,e,e2]
def PV (l:R_)(hl:l.length<=1000000)(hq:∀x∈l,x.length<=1000000):bl prog sX [.d (.lst (cf l)),.d (.lst (cf l))]=some (B_ true):=by
 have e:=af2 l hl hq [] 0 l 0 rfl;rw[show((0:Nat):Int)=0 from rfl]at e;rw[aM CN CG rfl];simp(maxSteps:=9^6)(disch:=omega)[↓ac,↓aa,e]
def adO (x y:Int):PK true [true,true] (.agg [A_ x,A_ y]) (.agg [A_ x,A_ y])=some (.bool false):=by
 simp[PK,aW,me]
def ajf (full:I_)(w:Nat)(l:V_)(q:I_)(hw:full.drop w=l::q)(hf:full.length<=1000000)(hl:l.length<=1000000)(h:ak)(N:Nat):∀(r:V_) (i:Nat),l.drop i=r->(Dn prog).code (.loop eQ) ⟨[(0,.d (.lst (aV full))),(1,.d (.lst (aV full))),(5,A_ w),(6,A_ i)],⟨h,N⟩⟩=some (.exit 2,⟨[(0,.d (.lst (aV full))),(1,.d (.lst (aV full))),(5,A_ w)],⟨h,N⟩⟩):=by
 have hg1:=tM hw;have hw1:=eZ hw;intro r
 induction r with
 |nil =>
  intro i hd;have hi:=fP hd;rw[ah mE];simp(maxSteps:=9^6)(disch:=omega)[↓ac,↓aa,hg1]
 |cons v r ih =>
  intro i hd;have hg:=Aw hd;have hlt:=eZ hd;have e:=ih (i+1) (ec hd);rw[show((i+1:Nat):Int)=(i:Int)+1 from rfl]at e;rw[ah mE];simp(maxSteps:=9^6)(disch:=omega)[↓ac,↓aa,hg,hg1,e,adO]
def aiR (full:I_)(hf:full.length<=1000000)(hq:∀x∈full,x.length<=1000000)(h:ak)(N:Nat):∀(r:I_) (i:Nat),full.drop i=r->(Dn prog).code (.loop eU) ⟨[(0,.d (.lst (aV full))),(1,.d (.lst (aV full))),(5,A_ i)],⟨h,N⟩⟩=some (.exit 0,⟨[],⟨h,N⟩⟩):=by
 intro r
 induction r with
 |nil =>
  intro i hd;have hi:=fP hd;rw[ah mq];simp(maxSteps:=9^6)(disch:=omega)[↓ac,↓aa]
 |cons v r ih =>
  intro i hd;have hg:=tM hd;have hlt:=eZ hd;have hv:=hq v (d8 (by rw[hd];exact .head _));have e:=ih (i+1) (ec hd);have e2:=ajf full i v r hd hf hv h N v 0 rfl;rw[show((i+1:Nat):Int)=(i:Int)+1 from rfl]at e;rw[show((0:Nat):Int)=0 from rfl]at e2;rw[ah mq];simp(maxSteps:=9^6)(disch:=omega)[↓ac,↓aa,hg,e,e2]
def Li (l:I_)(hl:l.length<=1000000)(hq:∀x∈l,x.length<=1000000):bl prog pt [.d (.lst (aV l)),.d (.lst (aV l))]=some (B_ true):=by
 have e:=aiR l hl hq [] 0 l 0 rfl;rw[show((0:Nat):Int)=0 from rfl]at e;rw[aM Ab AU rfl];simp(maxSteps:=9^6)(disch:=omega)[↓ac,↓aa,e]
def akZ (full:P_)(w:Nat)(l:AC_)(q:P_)(hw:full.drop w=l::q)(hf:full.length<=1000000)(hl:l.length<=1000000)(hc:∀f∈l,f.coefs.length<=1000000):∀(r:AC_) (i N:Nat),l.drop i=r->∃M,(Dn prog).code (.loop gO) ⟨[(0,.d (.lst (bf full))),(1,.d (.lst (bf full))),(5,A_ w),(6,A_ i)],⟨[],N⟩⟩=some (.exit 2,⟨[(0,.d (.lst (bf full))),(1,.d (.lst (bf full))),(5,A_ w)],⟨[],M⟩⟩):=by
 have hg1:=KK hw;have hw1:=eZ hw;intro r
 induction r with
 |nil =>
  intro i N hd;have hi:=fP hd;refine⟨N,?_⟩;rw[ah rl];simp(maxSteps:=9^6)(disch:=omega)[↓ac,↓aa,hg1]
 |cons v r ih =>
  intro i N hd;have hg:=agR hd;have hlt:=eZ hd;have hv:=hc v (d8 (by rw[hd];exact .head _));have e2:=C1 v.coefs hv;obtain⟨M,e⟩:=ih (i+1) (N+1+1) (ec hd);rw[show((i+1:Nat):Int)=(i:Int)+1 from rfl]at e;refine⟨M,?_⟩;rw[ah rl];simp(maxSteps:=9^6)(disch:=omega)[↓ac,↓aa,hg,hg1,e,e2]
def alV (full:P_)(hf:full.length<=1000000)(hq:∀x∈full,x.length<=1000000)(hc:∀x∈full,∀f∈x,f.coefs.length<=1000000):∀(r:P_) (i N:Nat),full.drop i=r->∃M,(Dn prog).code (.loop gQ) ⟨[(0,.d (.lst (bf full))),(1,.d (.lst (bf full))),(5,A_ i)],⟨[],N⟩⟩=some (.exit 0,⟨[],⟨[],M⟩⟩):=by
 intro r
 induction r with
 |nil =>
  intro i N hd;have hi:=fP hd;refine⟨N,?_⟩;rw[ah rI];simp(maxSteps:=9^6)(disch:=omega)[↓ac,↓aa]
 |cons v r ih =>
  intro i N hd;have hg:=KK hd;have hlt:=eZ hd;have hm:v∈full:=d8 (by rw[hd];exact .head _);have hv:=hq v hm;obtain⟨M1,e2⟩:=akZ full i v r hd hf hv (hc v hm) v 0 N rfl;obtain⟨M,e⟩:=ih (i+1) M1 (ec hd);rw[show((i+1:Nat):Int)=(i:Int)+1 from rfl]at e;rw[show((0:Nat):Int)=0 from rfl]at e2;refine⟨M,?_⟩;rw[ah rI];simp(maxSteps:=9^6)(disch:=omega)[↓ac,↓aa,hg,e,e2]
def Ur (l:P_)(hl:l.length<=1000000)(hq:∀x∈l,x.length<=1000000)(hc:∀x∈l,∀f∈x,f.coefs.length<=1000000):bl prog vA [.d (.lst (bf l)),.d (.lst (bf l))]=some (B_ true):=by
 obtain⟨M,e⟩:=alV l hl hq hc l 0 0 rfl;rw[show((0:Nat):Int)=0 from rfl]at e;rw[aM EA Eq rfl];simp(maxSteps:=9^6)(disch:=omega)[↓ac,↓aa,e]
def sgn (v:Int):Nat:=if v<0 then 1 else 0
abbrev cut (Z:G_)(p:Nat×Nat):G_:=(Z.drop p.2).take (bh p.1)
def arb (b:C_)(st:RS):Prop:=∃a:Nat,st=⟨a,0⟩∧a<=b.length
abbrev nx (b:C_)(st:RS):Prop:=st.e=0->arb b st
def VG:∀(b:C_),rV (aT b)=some (b.map Nat.toUInt8)
 |[]=>rfl
 |n::r=>by
  have h:aT (n::r)=[.int .u8 (.ofNat n)]::aT r:=rfl;rw[h,rV,VG r,cT]
@[simp] def anr {h:ak}{b:C_}:Ln h (.d (.lst (aT b)))=some (.str (b.map Nat.toUInt8)):=by
 simp only[Ln,ads,VG]
def c0:Hn:=⟨0,⟨0,0,0,[1]⟩,[[]],[[]],[[]],List.replicate 256 0⟩
abbrev apart (p q:Nat×Nat):Prop:=p.2+bh p.1<=q.2∨q.2+bh q.1<=p.2
def TF:bl prog qR [.agg j7,.agg j7]=some (B_ true):=F9 400 (by kernel_rfl)
def N7 {t:Ty}:∀{ds:U_},OkDs [t] ds->∃d,ds=[d]∧qa t d
 |[],h=>by simp[OkDs]at h
 |[d],h=>⟨d,rfl,by simpa [OkDs] using h⟩
 |_::_::_,h=>by simp[OkDs]at h
def agu {t:Ty}{ts:List Ty}:∀{ds:U_},OkDs (t::ts) ds->∃d r,ds=d::r∧qa t d∧OkDs ts r
 |[],h=>by simp[OkDs]at h
 |d::r,h=>⟨d,r,rfl,by simpa only[OkDs] using h⟩
def aen {k:IntKind}:∀{d:D},qa (.int k) d->∃n,d=.int k n∧(Lit.int k n).wf=true
 |.int j n,h=>by
  simp only[qa]at h;obtain⟨rfl,h⟩:=h;exact⟨n,rfl,h⟩
 |.bool _,h=>by simp[qa]at h
 |.str _,h=>by simp[qa]at h
 |.lst _,h=>by simp[qa]at h
def PD {d:D}(h:qa (.int .i64) d):∃n,d=.int .i64 n∧i64 n:=by
 obtain⟨n,e,h⟩:=aen h;refine⟨n,e,?_⟩;simp[Lit.wf,IntKind.min,IntKind.max,IntKind.signed,IntKind.bits]at h;omega
def acd {d:D}(h:qa (.int .u8) d):∃n:Nat,d=.int .u8 n∧n<=255:=by
 obtain⟨n,e,h⟩:=aen h;simp[Lit.wf,IntKind.min,IntKind.max,IntKind.signed,IntKind.bits]at h;refine⟨n.toNat,?_,o_⟩;rw[e,Int.toNat_of_nonneg h.1]
def akm:∀{d:D},qa .bool d->∃b,d=.bool b
 |.bool b,_=>⟨b,rfl⟩
 |.int _ _,h=>by simp[qa]at h
 |.str _,h=>by simp[qa]at h
 |.lst _,h=>by simp[qa]at h
def adQ {es:List Ty}:∀{d:D},qa (.lst es) d->∃xs,d=.lst xs∧∀x∈xs,OkDs es x
 |.lst xs,h=>⟨xs,rfl,by simpa only[qa] using h⟩
 |.int _ _,h=>by simp[qa]at h
 |.str _,h=>by simp[qa]at h
 |.bool _,h=>by simp[qa]at h
def RJ {α:Type}{es:List Ty}{f:α->U_}{Q:α->Prop}(h1:∀x,OkDs es x->∃a,x=f a∧Q a):∀{xs:F_},(∀x∈xs,OkDs es x)->∃l:List α,xs=l.map f∧∀a∈l,Q a
 |[],_=>⟨[],rfl,s_⟩
 |x::r,h=>by
  obtain⟨a,rfl,ha⟩:=h1 x (h x (.head _));obtain⟨l,rfl,hl⟩:=RJ h1 (xs:=r) λy hy=>h y (.tail _ hy)
  exact⟨a::l,rfl,λb hb=>(aQ.1 hb).elim (λe=>e▸ha) (hl b)⟩
def ajF {d:D}(h:qa (.lst [.int .i64]) d):∃ns,d=.lst (am ns)∧∀n∈ns,i64 n:=by
 obtain⟨xs,rfl,h⟩:=adQ h;obtain⟨l,rfl,hl⟩:=RJ (f:=λn=>[.int .i64 n]) (Q:=i64) (λx hx=>by
  obtain⟨d,rfl,hd⟩:=N7 hx;obtain⟨n,rfl,hn⟩:=PD hd;exact⟨n,rfl,hn⟩) h
 exact⟨l,rfl,hl⟩
structure Hn.Rng (c:Hn):Prop where
 gain:i64 c.gain
 seq:c.info.seq<=255
 shape:c.info.shape<=255
 max:i64 c.info.max
 groups:∀n∈c.info.groups,i64 n
 secI:∀l∈c.sects,∀s∈l,i64 s.book∧i64 s.len
 stepI:∀l∈c.steps,∀n∈l,i64 n
 fltI:∀l∈c.tns,∀f∈l,(i64 f.len∧i64 f.order)∧∀x∈f.coefs,i64 x
 lineI:∀n∈c.lines,i64 n
def Hn.Rng.fit {c:Hn}(h:c.Rng)(s:ano c):c.Fit where
 gain:=h.gain
 info:=⟨h.seq,h.shape,h.max,by have:=s.groups;omega,h.groups⟩
 sects:=⟨by have:=s.sects.1;omega,λl hl=>by have:=s.sects.2 l hl;omega⟩
 secI:=h.secI
 steps:=⟨by have:=s.steps.1;omega,λl hl=>by have:=s.steps.2 l hl;omega⟩
 stepI:=h.stepI
 tns:=⟨by have:=s.tns.1;omega,λl hl=>⟨by have:=(s.tns.2 l hl).1;omega,λf hf=>by have:=(s.tns.2 l hl).2 f hf;omega⟩⟩
 fltI:=h.fltI
 lines:=by have:=s.lines;omega
 lineI:=h.lineI
def Vk:List Ty:=[.int .u8,.int .u8,.int .i64,.lst [.int .i64]]
def alM {d:D}(h:qa (.lst [.int .u8]) d):∃l,d=.lst (aT l):=by
 obtain⟨xs,rfl,h⟩:=adQ h;obtain⟨l,rfl,hl⟩:=RJ (f:=λn:Nat=>[D.int .u8 (n:Int)]) (Q:=λn=>n<=255) (λx hx=>by
  obtain⟨d,rfl,hd⟩:=N7 hx;obtain⟨n,rfl,hn⟩:=acd hd;exact⟨n,rfl,hn⟩) h
 exact⟨l,rfl⟩
def alm {x:U_}(h:OkDs Vk x):∃i:ay,x.map .d=i.cells∧(i.seq<=255∧i.shape<=255)∧i64 i.max∧∀n∈i.groups,i64 n:=by
 obtain⟨a1,r,rfl,h1,h⟩:=agu h;obtain⟨a2,r,rfl,h2,h⟩:=agu h;obtain⟨a3,r,rfl,h3,h⟩:=agu h;obtain⟨a4,rfl,h4⟩:=N7 h;obtain⟨n1,rfl,g1⟩:=acd h1;obtain⟨n2,rfl,g2⟩:=acd h2;obtain⟨n3,rfl,g3⟩:=PD h3;obtain⟨l,rfl,g4⟩:=ajF h4;exact⟨⟨n1,n2,n3,l⟩,rfl,⟨g1,g2⟩,g3,g4⟩
def Tt {H:Type}:∀{ds:List (DataW H)},pV [(false,[.lst [.int .u8]]),(false,[.int .i64]),(false,[.int .i64]),(false,[.bool]),(true,Vk)] ds->(∃d1 d2 d3 d4 d5,ds=[d1,d2,d3,d4,d5])∧∃(l:C_) (a rt:Int) (q:Bool) (i:ay),i64 a∧(i.groups.length<=1000->i.Fit)∧D9 [(false,[.lst [.int .u8]]),(false,[Ty.int .i64]),(false,[.int .i64]),(false,[.bool]),(true,Vk)] ds=[.d (.lst (aT l)),A_ a,A_ rt,B_ q,.agg i.cells]
 |[d1,d2,d3,d4,d5],h=>by
  simp only[pV,and_true]at h;obtain⟨h1,h2,h3,h4,h5⟩:=h;obtain⟨x1,e1,h1⟩:=N7 h1;obtain⟨l,rfl⟩:=alM h1;obtain⟨x2,e2,h2⟩:=N7 h2;obtain⟨a,rfl,ha⟩:=PD h2;obtain⟨x3,e3,h3⟩:=N7 h3;obtain⟨n,rfl,_⟩:=PD h3;obtain⟨x4,e4,h4⟩:=N7 h4;obtain⟨q,rfl⟩:=akm h4;obtain⟨i,e5,⟨g1,g2⟩,g3,g4⟩:=alm h5;refine⟨⟨_,_,_,_,_,rfl⟩,l,a,n,q,i,ha,λhl=>⟨g1,g2,g3,o_,g4⟩,?_⟩;simp only[D9,e1,Vr,e2,e3,e4,e5]
 |[],h=>by simp[pV]at h
 |[_],h=>by simp[pV]at h
 |[_,_],h=>by simp[pV]at h
 |[_,_,_],h=>by simp[pV]at h
 |[_,_,_,_],h=>by simp[pV]at h
 |_::_::_::_::_::_::_,h=>by simp[pV]at h
def al7 (c:Hn)(hg:c.info.groups.length<=1000)(hl:c.lines.length<=100000)(hs:c.sects.length<=1000∧∀l∈c.sects,l.length<=1000)(ht:c.steps.length<=1000∧∀l∈c.steps,l.length<=1000)(hf:c.tns.length<=1000∧∀l∈c.tns,l.length<=1000∧∀f∈l,f.coefs.length<=1000):bl prog qR [.agg c.av,.agg c.av]=some (B_ true):=by
 have h1:=ab0 c.info o_;have h2:=C1 c.lines o_;have h3:=Li c.sects (by have:=hs.1;omega) (λl h=>by have:=hs.2 l h;omega);have h4:=PV c.steps (by have:=ht.1;omega) (λl h=>by have:=ht.2 l h;omega);have h5:=Ur c.tns (by have:=hf.1;omega) (λl h=>by have:=(hf.2 l h).1;omega) (λl h f hm=>by have:=(hf.2 l h).2 f hm;omega);simp only[Hn.av,ay.cells]at h1⊢;rw[aM IC Ie rfl];simp(maxSteps:=9^6)(disch:=omega)[↓ac,↓aa,h1,h2,h3,h4,h5]
def PH {b:C_}:∀{l:O_}{n m:Nat}{Z Z':G_},(∀p∈l,(1<=p.1∧p.1<=11)∧p.2+bh p.1<=256)->Z.length=256->cu b l n Z=.ok Z' m->Z'.length=256
 |[],n,m,Z,Z',_,hZ,h=>by
  rw[cu]at h;injection h with h1 h2
  rw[<-h1];exact hZ
 |p::l,n,m,Z,Z',hp,hZ,h=>by
  rw[cu]at h;obtain⟨v,k,h1,h⟩:=dR h;obtain⟨q1,q2⟩:=hp p (.head _);have hv:=(SO (id:=p.1) ⟨q1.1,o_⟩ h1).1;have hd4:cR p.1=bh p.1:=Xd p.1 (fO.2 o_) q1.1;exact PH (λx hx=>hp x (.tail _ hx)) (by rw[tc o_];exact hZ) h
def akJ {b:C_}(hb:b.length<=1000000000){a:Int}{r:Nat}(hr:r<=11){q:Bool}{i:ay}(hi:i.Fit){H:Hd}{Z:G_}{m:Nat}(h:KI b a r q i=.ok (H,Z) m):(∃n,pHd b r H n)∧Z.length=256:=by
 unfold KI at h;obtain⟨v,n0,h0,h⟩:=dR h;split at h
 .exact absurd h (by simp)
 .rename_i hm;obtain⟨H',n,h1,h⟩:=dR h;obtain⟨Z',m',h2,h⟩:=dR h;have hp:=(Hv b hb r o_ q i hi i.cells (.inl rfl) (λhq=>fF λh2=>hm ⟨hq,by rwa [ax]at h2⟩) n0 (by have:=(b3 h0).2;omega) 0 0).2 H' n (by rw[ax];exact h1);rw[ax]at hp;split at h
  .injection h with e1 e2
   injection e1 with e3 e4
   subst e3 e4;exact⟨⟨n,hp⟩,PH (λp hx=>O7 hp.may hp.S hr hx) s_ h2⟩
  .exact absurd h (by simp)
def afX (l:C_)(a rt:Int)(ha:i64 a)(q:Bool)(i:ay)(hi:i.groups.length<=1000->i.Fit):bl prog uV [.d (.lst (aT l)),A_ a,A_ rt,B_ q,.agg i.cells]=some (B_ true):=by
 have hla:(aT l).length=l.length:=by simp[aT]
 have hga:=cx (l:=i.groups);by_cases h1:l.length<=10000
 .by_cases h2:i.groups.length<=1000
  .have hf:=hi h2;by_cases hr:de rt
   .obtain⟨R,rfl⟩:=az (show 0<=rt by omega);have hG:=aiJ l o_ a ha R o_ q i hf i.cells (.inl rfl);have hJ:=adP l o_ a ha R o_ q i h2 (λ_=>hf);simp only[ay.cells]at hG hJ⊢
    cases hx:KI l a R q i with
    |er e =>
     rw[hx]at hG hJ;have hz:=TF;rw[aM gm gj rfl];simp(maxSteps:=9^6)(disch:=omega)[↓ac,↓aa,hG,hJ,hz]
    |ok v m =>
     obtain⟨H,Z⟩:=v;obtain⟨⟨n,hp⟩,hZ⟩:=akJ o_ o_ hf hx;rw[hx]at hG hJ;have hT:=aX List.length hp.T;simp only[fj]at hT;have hSl:=hp.S.1;have hgl:=hp.fit.len;have hz:=al7 ⟨H.gain,H.inf,H.S,H.T,H.F,Z⟩ hgl (by simp only[];omega) ⟨by simp only[];omega,λl hl=>by have:=hp.Sl l hl;omega⟩ ⟨by simp only[];omega,λt ht=>by
       have h3:t.length∈H.T.map List.length:=dt.2 ⟨t,ht,rfl⟩;rw[hp.T]at h3;obtain⟨s,hs,h4⟩:=dt.1 h3;have h5:=Ku (hp.S.2 s hs) (ud (kZ o_ hp.may)).1;have h6:=(ud (kZ o_ hp.may)).2;omega⟩ ⟨by have:=hp.F.1;have:=jH H.inf;simp only[];omega,λl hl=>⟨by have:=(hp.F.2 l hl).1;omega,λf hf=>by have:=(hp.F.2 l hl).2 f hf;omega⟩⟩
     simp only[Hn.av]at hz;rw[aM gm gj rfl];simp(maxSteps:=9^6)(disch:=omega)[↓ac,↓aa,hG,hJ,hz]
   .have hG:=ahc l a rt hr q i;have hJ:=ag5 l a rt hr q i.cells (.inr ⟨i,rfl⟩);have hz:=TF;simp only[ay.cells]at hG hJ⊢;rw[aM gm gj rfl];simp(maxSteps:=9^6)(disch:=omega)[↓ac,↓aa,hG,hJ,hz]
  .rw[aM gm gj rfl];simp only[ay.cells];simp(maxSteps:=9^6)(disch:=omega)[↓ac,↓aa]
 .rw[aM gm gj rfl];simp only[ay.cells];simp(maxSteps:=9^6)(disch:=omega)[↓ac,↓aa]
end Go.Vm
end
