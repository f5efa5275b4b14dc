import Derived.Test.YtaonpbailcljnaaGreatP5
set_option linter.unusedVariables false
set_option linter.unusedSimpArgs false
set_option linter.defProp false
set_option linter.unusedSectionVars false
noncomputable section
namespace Go.Vm
set_option maxRecDepth 100000
set_option maxHeartbeats 8000000
def LH (x:D)(A0 A1 A2 A3 A4 A5 A6:Obj)(N:Nat)(hN:6<=N):(Dn prog).call BO [.d x] ⟨[(0,A0),(1,A1),(2,A2),(3,A3),(4,A4),(5,A5),(N,A6)],N+1⟩=some (.fn kp [] [.ptr (N+1) 0],⟨[(0,A0),(1,A1),(2,A2),(3,A3),(4,A4),(5,A5),(N,A6),(N+1,.cells [.d x])],N+1+1⟩):=by
 rw[Zb];simp(maxSteps:=9^6)(disch:=omega)[↓aa]
def abl (l:V_):Prop:=∀k∈bZ l,0<=k∧k<=13
abbrev hpL (b:C_)(ss:R_)(nx:Nat)(w z:Int):ak:=[(0,.cells [.d (.lst (aT b))]),(1,.cells [ao 1 (cf ss)]),(2,.cells [A_ nx]),(3,.cells [A_ 0]),(4,.cells [A_ w,A_ z]),(5,.cells [.ptr 4 0])]
def W6 (b:C_)(hb:b.length<=1000000000)(full:I_)(hfl:full.length<=1000):∀(g:I_) (i N:Nat) (ss:R_) (nx:Nat) (w z:Int),full.drop i=g->(∀l∈g,Ms l∧abl l)->nx<=b.length->(0<=w∧w<=511)->EQ z->ss.length<=i->6<=N->
  (∀t n,kU b g nx w z=.ok t n->∃M A4,(Dn prog).code (.loop jL) ⟨[(4,.ptr 0 0),(8,.ptr 1 0),(9,.ptr 2 0),(10,.ptr 3 0),(11,.ptr 5 0),(35,.d (.lst (aV full))),(36,A_ full.length),(37,A_ i)],⟨hpL b ss nx w z,N⟩⟩ =
   some (.exit 0,⟨[(8,.ptr 1 0),(9,.ptr 2 0),(10,.ptr 3 0)],⟨[(1,.cells [ao 1 (cf (ss++t))]),(2,.cells [A_ n]),(3,.cells [A_ 0]),(4,A4)],M⟩⟩))∧
  (∀e,kU b g nx w z=.er e->∃M I K T,(Dn prog).code (.loop jL) ⟨[(4,.ptr 0 0),(8,.ptr 1 0),(9,.ptr 2 0),(10,.ptr 3 0),(11,.ptr 5 0),(35,.d (.lst (aV full))),(36,A_ full.length),(37,A_ i)],⟨hpL b ss nx w z,N⟩⟩ =
   some (.ret,⟨Vn full I K,⟨(0,.cells [.d (.lst (aT b))])::(1,.cells [.nl])::(2,.cells [A_ 0])::(3,.cells [A_ ((e:Int)+1)])::T,M⟩⟩)):=by
 intro g
 induction g with
 |nil =>
  intro i N ss nx w z hd hok hnx hw hz hss hN;have hk:=fP hd;refine⟨λt n h=>?_,λe h=>by rw[kU]at h;exact absurd h s_⟩;rw[kU]at h;injection h with g1 g2
  subst g1 g2;refine⟨N,.cells [A_ w,A_ z],?_⟩;rw[ah Ak];simp(maxSteps:=9^6)(disch:=omega)[↓ac,↓aa]
 |cons l r ih =>
  intro i N ss nx w z hd hok hnx hw hz hss hN;have hlt:=eZ hd;have hg:=tM hd;obtain⟨hl,hbk⟩:=hok l (.head _);have hbl:=P6 hl.1 hl.2;have hsl:=Uf (t:=ss);obtain⟨n0,n1,n2,n3,n4⟩:(N≠0∧N≠1∧N≠2∧N≠3∧N≠4∧N≠5)∧(N+1≠0∧N+1≠1∧N+1≠2∧N+1≠3∧N+1≠4∧N+1≠5)∧(N+1+1≠0∧N+1+1≠1∧N+1+1≠2∧N+1+1≠3∧N+1+1≠4∧N+1+1≠5)∧N+1+1≠N∧N+1+1≠N+1:=o_;have hB:=akt (p:=N+1) (aoK (b:=b) (full:=full) (ss:=ss) (l:=l) (i:=i) hN) (ane (b:=b) (full:=full) (l:=l) (i:=i) hN) l (amz b hb full ss l i N hN hbk o_) (λs=>by simp(maxSteps:=9^6)(disch:=omega)[↓aa,↓ac]) o_ hl.2 (N+1+1+1) ⟨[],nx,w,z⟩ (ai _) ⟨hnx,hw,hz,rfl,o_⟩;have hrow:=Mm (b:=b) (r:=bZ l) (a:=0) (s:=⟨[],nx,w,z⟩);have n00:am []=[]:=rfl;have c1:((i+1:Nat):Int)=(i:Int)+1:=rfl;rw[kU]
  cases hr:mg b (bZ l) nx w z with
  |er e =>
   obtain⟨zz,hz2⟩:=hrow.2 e hr;rw[hz2]at hB;refine⟨λt n h=>by rw[cg]at h;exact absurd h s_,λe' h=>?_⟩;rw[cg]at h;injection h with h;subst h;rcases hB with ⟨s2,M,e1,_⟩|⟨q,M,e1,e2,e3⟩
   .exact nomatch e1
   .injection e1 with e1
    subst e1;simp only[hpG,hqG,FG,n00,c9,Vn]at e3;refine⟨M,i,N,[(4,.cells [A_ zz.w,A_ zz.z]),(5,.cells [.ptr 4 0]),(N,.cells [ao 1 (am zz.row)]),(N+1,.cells [.d (.lst (dH l))])],?_⟩;rw[ah Ak];simp(maxSteps:=9^6)(disch:=omega)[↓ac,↓aa,hg,n0,n1,n2,n3,n4,LH,rd,e3]
  |ok q m =>
   have hp:=px hnx ⟨o_,o_⟩ hz hr;obtain⟨p1,⟨p2,p3⟩,p4⟩:=hp;have hz2:=hrow.1 q m hr;rw[hz2]at hB;rcases hB with ⟨s2,M,e1,ei,e2,e3⟩|⟨q,M,e1,_⟩
   rotate_left
   .exact nomatch e1
   injection e1 with e1
   subst e1;obtain⟨_,hw2,hz3,_⟩:=ei;simp only[aD]at e3 hw2 hz3;have h5:=ih (i+1) M (ss++[q.1]) m q.2.1 q.2.2 (ec hd) (λx hx=>hok x (.tail _ hx)) p4 hw2 hz3 g_ o_;rw[c1]at h5;simp only[au];have step:(Dn prog).code (.loop jL) ⟨[(4,.ptr 0 0),(8,.ptr 1 0),(9,.ptr 2 0),(10,.ptr 3 0),(11,.ptr 5 0),(35,.d (.lst (aV full))),(36,A_ full.length),(37,A_ i)],⟨hpL b ss nx w z,N⟩⟩ =
     (Dn prog).code (.loop jL) ⟨[(4,.ptr 0 0),(8,.ptr 1 0),(9,.ptr 2 0),(10,.ptr 3 0),(11,.ptr 5 0),(35,.d (.lst (aV full))),(36,A_ full.length),(37,A_ ((i:Int)+1))],⟨hpL b (ss++[q.1]) m q.2.1 q.2.2,M⟩⟩:=by
    simp only[hpG,hqG,FG,n00,c9,Vn]at e3;simp only[hpL,WG,dA];rw[ah Ak];simp(maxSteps:=9^6)(disch:=omega)[↓ac,↓aa,hg,n0,n1,n2,n3,n4,LH,rd,e3]
   rw[step]
   cases hs:kU b r m q.2.1 q.2.2 with
   |er e =>
    refine⟨λt n h=>by rw[cg]at h;exact absurd h s_,λe' h=>?_⟩;rw[cg]at h;injection h with h
    subst h;exact h5.2 e hs
   |ok t0 m0 =>
    refine⟨λt n h=>?_,λe h=>by rw[au]at h;exact absurd h s_⟩;rw[au]at h;injection h with g1 g2
    subst g1 g2;obtain⟨M2,A4,f⟩:=h5.1 t0 m0 hs;refine⟨M2,A4,?_⟩;rw[f,aw];rfl
def WF {m:Nat}{xs:F_}:share (share (ao m xs))=share (ao m xs):=by cases xs<;>rfl
def aad {m:Nat}{xs:F_}:firm (share (ao m xs))=share (ao m xs):=by cases xs<;>rfl
def Xx {m:Nat}{xs:F_}:AV.cells (share (ao m xs))=[share (ao m xs)]:=by cases xs<;>rfl
def aa3 {m:Nat}{xs:F_}:b9 (share (ao m xs))=true:=by cases xs<;>rfl
def agN {h:ak}{m:Nat}{xs:F_}{a b:Int}:fq h (.tup [share (ao m xs),A_ a,A_ b])=some (.tup [share (ao m xs),A_ a,A_ b]):=by cases xs<;>rfl
def ae0 (b:C_)(hb:b.length<=1000000000)(a gain m:Int)(ha:i64 a)(hg:0<=gain∧gain<=255)(g:I_)(hl:g.length<=8)(hm:0<=m∧m<=40)(hf:IL m g)(hf2:∀l∈g,l.length<=1000)(hok:∀l∈g,Ms l∧abl l):bl prog Nv [.d (.lst (aT b)),A_ a,A_ gain,.d (.lst (aV g))] =
  rK (Ts b g) (pM b g a gain) (λt n=>some (.tup [share (ao 1 (cf t)),A_ n,A_ 0])) (λe=>some (.tup [.nl,A_ 0,A_ (e+1)])):=by
 have hmay:=afc gain m g hg hl hm λl h=>⟨hf l h,hf2 l h⟩
 have hG:=gu b a 0 hb ha;have e0:∀a,aN b a 0=if 0<=a∧a<=b.length then .ok 0 a.toNat else .er 1:=by
  intro a;by_cases h:0<=a∧a<=b.length
  .rw[ac h,aN];simp[h,bin,val]
  .rw[aa h,aN];simp[h]
 rw[aM Y9 ZA rfl,pM];by_cases h1:0<=a∧a<=b.length
 .obtain⟨A,rfl⟩:=az h1.1;rw[ac h1];rw[e0,ac h1,bJ ⟨k_,o_⟩]at hG;have hL:=W6 b hb g o_ g 0 6 [] A gain (-1) rfl hok o_ ⟨hg.1,o_⟩ ⟨o_,o_⟩ (ai _) (ai _);have c0:((0:Nat):Int)=0:=rfl;have n0:cf []=[]:=rfl;simp only[c0,n0,c9,hpL,aD]at hL;simp only[ax]at hG
  cases hs:kU b g A gain (-1) with
  |ok t n =>
   have hp:=Dq o_ ⟨o_,o_⟩ ⟨o_,o_⟩ hs;obtain⟨M,A4,f⟩:=hL.1 t n hs;rw[bJ hp];simp(maxSteps:=9^6)(disch:=omega)[↓ac,↓aa,hmay,hG,f,-um,agN,-b9,aad,Xx,aa3,WF]
  |er e =>
   obtain⟨M,I,K,T,f⟩:=hL.2 e hs;rw[dp];simp(maxSteps:=9^6)(disch:=omega)[↓ac,↓aa,hmay,hG,f]
 .rw[aa h1,dp];rw[e0,aa h1,dp]at hG;simp(maxSteps:=9^6)(disch:=omega)[↓ac,↓aa,hmay,hG]
abbrev vK:=@List.any_cons
def OQ (F:AV)(P:Int->Bool)(l:G_)(hl:l.length<=1000000000)(h:ak)(N:Nat)(hF:firm (share F)=F)(hc:∀v∈l,cW (Dn prog) F [A_ v] ⟨h,N⟩=some (B_ (P v),⟨h,N⟩)):∀(r:G_) (i:Nat),l.drop i=r->
  (r.any P=true∧∃k:Nat,(Dn prog).code (.loop eI) ⟨[(0,.d (.lst (am l))),(1,F),(7,A_ l.length),(8,A_ i)],⟨h,N⟩⟩=some (.ret,⟨[(4,A_ k)],⟨h,N⟩⟩))∨
  (r.any P=false∧(Dn prog).code (.loop eI) ⟨[(0,.d (.lst (am l))),(1,F),(7,A_ l.length),(8,A_ i)],⟨h,N⟩⟩=some (.exit 0,⟨[],⟨h,N⟩⟩)):=by
 intro r
 induction r with
 |nil =>
  intro i hd;have hi:=fP hd;refine .inr ⟨rfl,?_⟩;rw[ah gM];simp(maxSteps:=9^6)(disch:=omega)[↓aa]
 |cons v r ih =>
  intro i hd;have hg:=Db hd;have hlt:=eZ hd;have hv:=hc v (by rw[<-bM i l,hd];simp);have h5:=ih (i+1) (ec hd);have c1:((i+1:Nat):Int)=(i:Int)+1:=rfl;rw[c1]at h5
  cases hp:P v with
  |true =>
   rw[hp]at hv;refine .inl ⟨by rw[vK,hp];rfl,i,?_⟩;rw[ah gM];simp(maxSteps:=9^6)(disch:=omega)[↓ac,↓aa,hg,hF,hv]
  |false =>
   rw[hp]at hv;rw[vK,hp,Bool.false_or];rcases h5 with ⟨e1,k,e2⟩|⟨e1,e2⟩
   .refine .inl ⟨e1,k,?_⟩;rw[ah gM,<-e2];simp(maxSteps:=9^6)(disch:=omega)[↓ac,↓aa,hg,hF,hv]
   .refine .inr ⟨e1,?_⟩;rw[ah gM,<-e2];simp(maxSteps:=9^6)(disch:=omega)[↓ac,↓aa,hg,hF,hv]
def Po (F:AV)(P:Int->Bool)(l:G_)(hl:l.length<=1000000000)(h:ak)(N:Nat)(hF:firm (share F)=F)(hF2:firm F=F)(hc:∀v∈l,cW (Dn prog) F [A_ v] ⟨h,N⟩=some (B_ (P v),⟨h,N⟩)) :
  (Dn prog).call rR [.d (.lst (am l)),F] ⟨h,N⟩=some (B_ (l.any P),⟨h,N⟩):=by
 have h1:=OQ F P l hl h N hF hc l 0 rfl;have c0:((0:Nat):Int)=0:=rfl;rw[c0]at h1;have h2:∃k:Int,(0<=k↔l.any P=true)∧(Dn prog).call ux [.d (.lst (am l)),F] ⟨h,N⟩=some (A_ k,⟨h,N⟩):=by
  rcases h1 with ⟨e1,k,e2⟩|⟨e1,e2⟩
  .refine⟨k,⟨λ_=>e1,λ_=>by omega⟩,?_⟩;rw[bN vz vp rfl];simp(maxSteps:=9^6)(disch:=omega)[e2]
  .refine⟨-1,⟨λh=>by omega,λh=>by rw[e1]at h;exact absurd h s_⟩,?_⟩;rw[bN vz vp rfl];simp(maxSteps:=9^6)(disch:=omega)[e2]
 obtain⟨k,e1,e2⟩:=h2;rw[bN Ck Ch rfl]
 cases hp:l.any P with
 |true =>
  have:=e1.2 hp;simp(maxSteps:=9^6)(disch:=omega)[↓ac,hF2,e2]
 |false =>
  have:¬0<=k:=λh=>by rw[e1.1 h]at hp;exact absurd hp (by simp)
  simp(maxSteps:=9^6)(disch:=omega)[↓aa,hF2,e2]
def bh (id:Nat):Nat:=if id<5 then 4 else 2
def Ku {l:V_}{lf:Int}(h:fitsS lf l)(h0:0<=lf):((bZ l).length:Int)=lf:=by
 induction l generalizing lf<;>grind [fitsS,bZ]
structure cM where
 len:Int
 order:Int
 down:Bool
 fine:Bool
 coefs:G_
abbrev AC_:=List cM
abbrev P_:=List (AC_)
abbrev cM.cells (f:cM):U_:=[.int .i64 f.len,.int .i64 f.order,.bool f.down,.bool f.fine,.lst (am f.coefs)]
abbrev cM.av (f:cM):D_:=[A_ f.len,A_ f.order,B_ f.down,B_ f.fine,.d (.lst (am f.coefs))]
def gX (l:AC_):F_:=l.map cM.cells
@[simp] def OY {l:AC_}:(gX l).length=l.length:=by simp[gX]
def agR {l:AC_}{i:Nat}{s:cM}{r:AC_}(h:l.drop i=s::r):(gX l)[i]?=some [.int .i64 s.len,.int .i64 s.order,.bool s.down,.bool s.fine,.lst (am s.coefs)]:=by
 grind [List.getElem?_cons_zero,gX]
def bf (t:P_):F_:=t.map λl=>[.lst (gX l)]
@[simp] theorem EJ {t:P_}:(bf t).length=t.length:=by simp[bf]
def KK {g:P_}{i:Nat}{l:AC_}{r:P_}(h:g.drop i=l::r):(bf g)[i]?=some [.lst (gX l)]:=by
 grind [List.getElem?_cons_zero,bf]
def ahC (h:Int):∀(l:G_),l.any (λc=>decide (c < -h∨h<=c))=!decide (∀c∈l,-h<=c∧c<h)
 |[]=>by simp
 |c::r=>by
  grind
def ah6 (fine:Bool):Int:=if fine then 8 else 4
def aqB (sh:Bool):Int:=if sh then 15 else 63
def aqz (sh:Bool):Int:=if sh then 7 else 12
def okF (sh:Bool)(f:cM):Prop:=(0<=f.len∧f.len<=aqB sh)∧(0<=f.order∧f.order<=aqz sh)∧(f.coefs.length:Int)=f.order∧(f.order=0->f.down=false)∧∀c∈f.coefs,-ah6 f.fine<=c∧c<ah6 f.fine
instance {sh:Bool}{f:cM}:Decidable (okF sh f):=by unfold okF;infer_instance
def W3 (b:Bool):bl prog AS [B_ b]=some (A_ (if b then 4 else 3)):=by
 rw[aM SP S3 rfl]
 cases b<;>simp(disch:=omega)
def VK (sh:Bool):D_:=if sh then [A_ 1,A_ 4,A_ 3,A_ 1,A_ 7] else [A_ 2,A_ 6,A_ 5,A_ 3,A_ 12]
def ay.short (i:ay):Bool:=decide (i.seq=2)
def Uz (i:ay):bl prog EH [.agg i.cells]=some (.agg (VK i.short)):=by
 rw[aM RA Rh rfl];unfold VK ay.short;by_cases h:i.seq=2
 .simp(disch:=omega)[↓ac,h]
 .simp(disch:=omega)[↓aa,h]
def anx (m:Nat)(hm:m<=100000)(v:Int)(N:Nat):(Dn prog).call ya [A_ v,.ptr 0 0] ⟨[(0,.cells [A_ m])],N⟩=some (B_ ((decide (v < -(m:Int)∨(m:Int)<=v))),⟨[(0,.cells [A_ m])],N⟩):=by
 rw[bN QQ Rp rfl];by_cases h1:v < -(m:Int)
 .simp(disch:=omega)[↓ac,h1]
 .by_cases h2:(m:Int)<=v
  .simp(disch:=omega)[↓ac,↓aa,h1,h2]
  .simp(disch:=omega)[↓ac,↓aa,h1,h2]
def YT (l:G_)(hl:l.length<=1000000)(s:Nat)(hs:1<=s∧s<=10):bl prog BP [.d (.lst (am l)),A_ s]=some (B_ ((decide (∀c∈l,-((2 ^ (s-1):Nat):Int)<=c∧c<((2 ^ (s-1):Nat):Int))))):=by
 have hp:2 ^ (s-1)<=2 ^ 10:=aA o_ o_;have q2:=aco (m:=s-1) o_;have c1:((s-1:Nat):Int)=(s:Int)-1:=o_;rw[c1]at q2;generalize 2 ^ (s-1)=P at *;have h1:=Po (.fn ya [] [.ptr 0 0]) (λc=>decide (c < -(P:Int)∨(P:Int)<=c)) l o_ [(0,.cells [A_ P])] 1 rfl rfl λv _=>by
  have:=anx P o_ v 1
  simp_all
 rw[ahC]at h1;rw[aM UO UA rfl];simp(disch:=omega)[-Ei,q2,h1]
def Lt (H:ak)(N:Nat):Prop:=∀p∈H,p.1<N
def G6 {H:ak}{N:Nat}{o:Obj}(h:Lt H N):put H N o=H++[(N,o)]:=by
 induction H with
 |nil=>rfl
 |cons p r ih =>
  obtain⟨k,v⟩:=p;have h1:=h (k,v) (.head _);rw[tC,aa o_,aa o_,ih (λp hp=>h p (.tail _ hp)),aI]
def So {H:ak}{N:Nat}{o o':Obj}(h:Lt H N):put (H++[(N,o)]) N o'=H++[(N,o')]:=by
 induction H with
 |nil=>simp_all
 |cons p r ih =>
  obtain⟨k,v⟩:=p;have h1:=h (k,v) (.head _);rw[aI,tC,aa o_,aa o_,ih (λp hp=>h p (.tail _ hp)),aI]
def Ml {H:ak}{N:Nat}{o:Obj}(h:Lt H N):get (H++[(N,o)]) N=some o:=by
 induction H with
 |nil=>simp_all
 |cons p r ih =>
  obtain⟨k,v⟩:=p;have h1:=h (k,v) (.head _);rw[aI,gv,aa o_,ih (λp hp=>h p (.tail _ hp))]
def aiD {H:ak}{N k:Nat}{o o':Obj}(h:get H k=some o'):get (H++[(N,o)]) k=some o':=by
 induction H<;>grind [xH,gv]
def aa0 {H:ak}{N:Nat}{o:Obj}(h:Lt H N):del (H++[(N,o)]) N=H:=by
 induction H with
 |nil=>simp_all
 |cons p r ih =>
  obtain⟨k,v⟩:=p;have h1:=h (k,v) (.head _);rw[aI,ma,aa o_,ih (λp hp=>h p (.tail _ hp))]
def Vw {H:ak}{N M:Nat}(h:Lt H N)(hm:N<=M):Lt H M:=λp hp=>aH (h p hp) hm
def aeQ {H:ak}{N:Nat}{o:Obj}(h:Lt H N):Lt (H++[(N,o)]) (N+1):=by
 intro p hp;rcases bq.1 hp with h1|h1
 .have:=h p h1;omega
 simp_all
@[simp] def asx (a b:Bool):Qh true (B_ a) (B_ b)=some (.bool (a != b)):=by cases a<;>cases b<;>rfl
def ahp (sh:Bool)(f0 f:cM):Bool:=!decide (okF sh f) ||f.fine != f0.fine
structure Hn where
 gain:Int
 info:ay
 sects:I_
 steps:R_
 tns:P_
 lines:G_
abbrev Hn.av (c:Hn):D_:=[A_ c.gain,.d (.int .u8 c.info.seq),.d (.int .u8 c.info.shape),A_ c.info.max,.d (.lst (am c.info.groups)),.d (.lst (aV c.sects)),.d (.lst (cf c.steps)),.d (.lst (bf c.tns)),.d (.lst (am c.lines))]
structure Hn.Fit (c:Hn):Prop where
 gain:i64 c.gain
 info:c.info.Fit
 sects:arm c.sects
 secI:∀l∈c.sects,∀s∈l,i64 s.book∧i64 s.len
 steps:c.steps.length<=1000∧∀l∈c.steps,l.length<=1000
 stepI:∀l∈c.steps,∀n∈l,i64 n
 tns:c.tns.length<=1000∧∀l∈c.tns,l.length<=1000∧∀f∈l,f.coefs.length<=1000
 fltI:∀l∈c.tns,∀f∈l,(i64 f.len∧i64 f.order)∧∀x∈f.coefs,i64 x
 lines:c.lines.length<=100000
 lineI:∀n∈c.lines,i64 n
def ahZ (sh:Bool):Nat:=if sh then 1 else 3
def acK (sh:Bool)(l:AC_):Prop:=l.length<=ahZ sh∧∀f0∈l.head?,∀f∈l,okF sh f∧f.fine=f0.fine
def aj7 {sh:Bool}{f0:cM}{l:AC_}:l.any (ahp sh f0)=false↔∀f∈l,okF sh f∧f.fine=f0.fine:=by
 grind [ahp]
def afY (sh:Bool):AC_->Bool
 |[]=>false
 |f0::r=>(f0::r).any (ahp sh f0)
def afS {sh:Bool}{l:AC_}:acK sh l↔l.length<=ahZ sh∧afY sh l=false:=by
 unfold acK
 cases l with
 |nil=>simp[afY]
 |cons f0 r0 =>
  simp only[afY,aj7]
  simp_all
instance {sh:Bool}{l:AC_}:Decidable (acK sh l):=decidable_of_iff _ afS.symm
def ajH:∀x∈yX,oG x.1 x.2<=40:=e_
def ud {i:ay}(hm:i.may 11):0<=i.max∧i.max<=40:=by
 have h1:=hm.2.2.1;have h2:=hm.2.2.2.1;have h3:=ajH _ (kK (r:=11) (s:=decide (i.seq=2)) o_);simp only[]at h3;omega
instance {m:Int}{g:I_}:Decidable (IL m g):=by unfold IL;infer_instance
instance {gain:Int}{g:I_}{t:R_}:Decidable (aaf gain g t):=by unfold aaf;infer_instance
def ay.wide (i:ay):Nat:=if i.seq=2 then 32 else 256
def afb:∀x∈yX,((offs x.1 x.2).drop 1).contains (cond x.2 32 256)=true∧(offs x.1 x.2).all (λy=>decide (y<=1000))=true∧(offs x.1 x.2).length<=64∧1<=(offs x.1 x.2).length:=e_
def iL (fine:Bool):Nat:=if fine then 4 else 3
def alq (b:Bool):Nat:=if b then 1 else 0
abbrev HT (b:C_)(st:RS)(R:ak):ak:=(0,.cells [.d (.lst (aT b))])::(2,.cells [A_ (ra st)])::(3,.cells [A_ (re st)])::R
def AL (b:C_)(s:Int)(st:RS)(R:ak)(N:Nat)(hb:b.length<=1000000000)(ha:st.fit):(Dn prog).call yU [A_ s,.ptr 3 0,.ptr 0 0,.ptr 2 0] ⟨HT b st R,N⟩ =
  some (A_ (sV b st s),⟨HT b (sN b st s) R,N⟩):=by
 rw[bN Qm QD rfl];obtain⟨a,e⟩:=st;have hf:i64 a:=ha;by_cases he:e=0
 .subst he;simp(maxSteps:=9^6)(disch:=omega)[EX,ra,re,sV,sN]
 .simp(maxSteps:=9^6)(disch:=omega)[ra,re,sV,sN,he]
def LT (v sz:Nat):Int:=(v:Int)-((v / 2 ^ (sz-1)*2 ^ sz:Nat):Int)
def sY (b:C_)(sz:Nat):Nat->RS->G_
 |0,_=>[]
 |k+1,st=>LT (sV b st sz) sz::sY b sz k (sN b st sz)
def tQ (b:C_)(sz:Nat):Nat->RS->RS
 |0,st=>st
 |k+1,st=>tQ b sz k (sN b st sz)
def Sz {b:C_}{sz:Nat}(hb:b.length<=1000000000):∀{k:Nat}{st:RS},st.fit->(tQ b sz k st).fit
 |0,_,h=>h
 |_+1,_,h=>by rw[tQ];exact Sz hb (ek hb h)
def Mj {b:C_}{sz:Nat}:∀{k:Nat}{st:RS},(sY b sz k st).length=k
 |0,_=>rfl
 |k+1,st=>by rw[sY,aE,Mj]
def aqq {q s:Nat}(hq:q<=1)(hs:s<=4):gr .shl (A_ (q:Int)) (A_ (s:Int))=some (.int .i64 ((q*2 ^ s:Nat):Int)):=by
 have h:∀q:Nat,q<=1->∀s:Nat,s<=4->gr .shl (A_ (q:Int)) (A_ (s:Int))=some (.int .i64 ((q*2 ^ s:Nat):Int)):=by
  intro q hq s hs;obtain rfl|rfl:q=0∨q=1:=o_
  all_goals
   obtain rfl|rfl|rfl|rfl|rfl:s=0∨s=1∨s=2∨s=3∨s=4:=o_
   all_goals rfl
 exact h q hq s hs
abbrev K0:AV:=.fn yU [] [.ptr 3 0,.ptr 0 0,.ptr 2 0]
def ajk (b:C_)(hb:b.length<=1000000000)(SZ:Obj)(a0 a1 a2 a3 x6 x13:AV)(y12 y15 y32 y33 y46 y47:D)(nar:Int)(sz ord N M:Nat)(hsz:2<=sz∧sz<=4)(ho:ord<=100)(hN:5<=N):∀(k j:Nat) (st:RS) (acc:G_),j+k=ord->acc.length=j->st.fit->
  (Dn prog).code (.loop qI) ⟨[(6,x6),(7,.ptr 2 0),(8,.ptr 3 0),(10,K0),(11,.ptr 4 0),(12,.d y12),(13,x13),(15,.d y15),(16,.ptr N 0),(17,A_ nar),(18,A_ sz),(32,.d y32),(33,.d y33),(46,.d y46),(47,.d y47),(80,A_ ord),(81,A_ j)],⟨HT b st [(4,SZ),(N,.cells [a0,a1,a2,a3,ao 1 (am acc)])],M⟩⟩ =
  some (.exit 4,⟨[(6,x6),(7,.ptr 2 0),(8,.ptr 3 0),(10,K0),(11,.ptr 4 0),(12,.d y12),(13,x13),(15,.d y15),(16,.ptr N 0),(17,A_ nar),(18,A_ sz),(32,.d y32),(33,.d y33),(46,.d y46),(47,.d y47)],⟨HT b (tQ b sz k st) [(4,SZ),(N,.cells [a0,a1,a2,a3,ao 1 (am (acc++sY b sz k st))])],M⟩⟩):=by
 obtain⟨n0,n2,n3,n4⟩:N≠0∧N≠2∧N≠3∧N≠4:=o_;intro k
 induction k with
 |zero =>
  intro j st acc h1 h2 h3;rw[ah DD,sY,tQ,ba];simp(maxSteps:=9^6)(disch:=omega)[↓ac,↓aa]
 |succ k ih =>
  intro j st acc h1 h2 h3;have hg:=AL b sz st [(4,SZ),(N,.cells [a0,a1,a2,a3,ao 1 (am acc)])] M hb h3;have hv:=jT (b:=b) (st:=st) (s:=sz);have h5:=ih (j+1) (sN b st sz) (acc++[LT (sV b st sz) sz]) o_ g_ (ek hb h3);have c1:((j+1:Nat):Int)=(j:Int)+1:=rfl;have c2:((sz-1:Nat):Int)=(sz:Int)-1:=o_;have hla:=cx (l:=acc);simp only[ax]at hv;have hp:2 ^ (sz-1)*2=2 ^ sz:=by rw[<-gS];congr 1;omega
  have hp0:=gz (sz-1);have hq:sV b st sz / 2 ^ (sz-1)<=1:=by
   have:sV b st sz / 2 ^ (sz-1)<2:=(Nat.div_lt_iff_lt_mul hp0).2 o_;omega
  have hp4:2 ^ sz<=2 ^ 4:=aA o_ hsz.2;have w1:=aqb (n:=sV b st sz) (k:=sz-1) o_;have w2:=aqq hq hsz.2;rw[c2]at w1;have hcf:LT (sV b st sz) sz=(sV b st sz:Int)-((sV b st sz / 2 ^ (sz-1)*2 ^ sz:Nat):Int):=rfl;have hqq:sV b st sz / 2 ^ (sz-1)*2 ^ sz<=16:=by
   have:=tT hq hp4;omega
  rw[c1,aw,za,dA]at h5;simp only[HT]at hg h5⊢;rw[ah DD,sY,tQ,show acc++LT (sV b st sz) sz::sY b sz k (sN b st sz)=acc++([LT (sV b st sz) sz]++sY b sz k (sN b st sz)) from rfl,<-h5,hcf];clear h5 ih;generalize sV b st sz / 2 ^ (sz-1)*2 ^ sz=Q2 at *;generalize sV b st sz / 2 ^ (sz-1)=Q at *;simp(maxSteps:=9^6)(disch:=omega)[↓ac,↓aa,n0,n2,n3,n4,hg,-adH,-Ei,w1,w2]
def oC (l:G_)(s:Nat):Bool:=decide (∀c∈l,-((2 ^ (s-1):Nat):Int)<=c∧c<((2 ^ (s-1):Nat):Int))
def tP (b:C_)(x1 x2:Nat)(st:RS):Nat:=sV b (sN b st x1) x2
def Bj (b:C_)(x1 x2:Nat)(st:RS):RS:=sN b (sN b st x1) x2
def flD (b:C_)(x1 x2:Nat)(st:RS):Nat:=sV b (Bj b x1 x2 st) 1
def TV (b:C_)(x1 x2:Nat)(st:RS):Nat:=sV b (sN b (Bj b x1 x2 st) 1) 1
def PW (b:C_)(x1 x2:Nat)(st:RS):RS:=sN b (sN b (Bj b x1 x2 st) 1) 1
def Ng (b:C_)(x1 x2:Nat)(fine:Bool)(st:RS):Nat:=iL fine-TV b x1 x2 st
def pW (b:C_)(x1 x2:Nat)(fine:Bool)(st:RS):cM :=
 if tP b x1 x2 st=0 then ⟨sV b st x1,0,false,fine,[]⟩
 else ⟨sV b st x1,tP b x1 x2 st,decide (flD b x1 x2 st=1),fine,sY b (Ng b x1 x2 fine st) (tP b x1 x2 st) (PW b x1 x2 st)⟩
def xA (b:C_)(x1 x2:Nat)(fine:Bool)(st:RS):Bool :=
 if tP b x1 x2 st=0 then false else decide (TV b x1 x2 st=0) && oC (sY b (Ng b x1 x2 fine st) (tP b x1 x2 st) (PW b x1 x2 st)) (Ng b x1 x2 fine st-1)
def mD (b:C_)(x1 x2:Nat)(fine:Bool)(st:RS):RS :=
 if tP b x1 x2 st=0 then Bj b x1 x2 st else tQ b (Ng b x1 x2 fine st) (tP b x1 x2 st) (PW b x1 x2 st)
def gp (b:C_)(x1 x2:Nat)(fine:Bool):Nat->Bool->RS->Option (AC_×Bool×RS)
 |0,o,st=>some ([],o,st)
 |k+1,o,st=>if 12<tP b x1 x2 st∧(Bj b x1 x2 st).e=0 then none
  else match gp b x1 x2 fine k (o ||xA b x1 x2 fine st) (mD b x1 x2 fine st) with
   |none=>none
   |some q=>some (pW b x1 x2 fine st::q.1,q.2)
def ajn {b:C_}{x1 x2:Nat}{fine:Bool}{st:RS}(hb:b.length<=1000000000)(h:st.fit):(mD b x1 x2 fine st).fit:=by
 unfold mD;split
 .exact ek hb (ek hb h)
 .exact Sz hb (ek hb (ek hb (ek hb (ek hb h))))
def ahE {b:C_}{st:RS}{s:Int}(h:st.e≠0):sV b st s=0:=by rw[sV,aa h]
def ac0 {b:C_}{st:RS}{s:Int}(h:sV b st s≠0):(sN b st s).e=0:=by
 unfold sV at h;unfold sN;split at h
 .rename_i he;rw[ac he];unfold vO at h;unfold eO;split at h
  .rename_i v n hg;simp only[hg]
  .exact absurd rfl h
 .exact absurd rfl h
abbrev NJ (y0 y3 y4:AV)(x1 x2:Nat):Obj:=.cells [y0,A_ x1,A_ x2,y3,y4]
def KN {t:AC_}{f:cM}:gX (t++[f])=gX t++[[.int .i64 f.len,.int .i64 f.order,.bool f.down,.bool f.fine,.lst (am f.coefs)]]:=by simp[gX,cM.cells]
def akl (b:C_)(hb:b.length<=1000000000)(y0 y3 y4:AV)(x1 x2:Nat)(hx:x1<=6∧x2<=5)(x6:AV)(fine:Bool)(y32 y33:D)(many:Nat)(hm:many<=3):∀(k j N:Nat) (o:Bool) (st:RS) (acc:AC_),j+k=many->acc.length=j->st.fit->5<=N->
  ∃M,N<=M∧(Dn prog).code (.loop fJ) ⟨[(6,x6),(7,.ptr 2 0),(8,.ptr 3 0),(10,K0),(11,.ptr 4 0),(12,B_ o),(13,ao 5 (gX acc)),(15,B_ fine),(32,.d y32),(33,.d y33),(46,A_ many),(47,A_ j)],⟨HT b st [(4,NJ y0 y3 y4 x1 x2)],N⟩⟩ =
  match gp b x1 x2 fine k o st with
  |none=>some (.ret,⟨[(6,.nl),(7,.ptr 2 0),(8,.ptr 3 0)],⟨[(0,.cells [.d (.lst (aT b))]),(2,.cells [A_ 0]),(3,.cells [A_ 8])],M⟩⟩)
  |some (l,o2,st2)=>some (.exit 2,⟨[(6,x6),(7,.ptr 2 0),(8,.ptr 3 0),(10,K0),(11,.ptr 4 0),(12,B_ o2),(13,ao 5 (gX (acc++l))),(32,.d y32),(33,.d y33)],⟨HT b st2 [(4,NJ y0 y3 y4 x1 x2)],M⟩⟩):=by
 intro k
 induction k with
 |zero =>
  intro j N o st acc h1 h2 h3 hN;refine⟨N,ai _,?_⟩;rw[ah qC,gp];simp only[ba];simp(maxSteps:=9^6)(disch:=omega)[↓ac,↓aa]
 |succ k ih =>
  intro j N o st acc h1 h2 h3 hN;obtain⟨n0,n2,n3,n4⟩:N≠0∧N≠2∧N≠3∧N≠4:=o_;have f1:=ek (s:=x1) hb h3;have f2:=ek (s:=x2) hb f1;have f3:=ek (s:=1) hb f2;have f4:=ek (s:=1) hb f3;have g1:=λR N=>AL b x1 st R N hb h3
  have g2:=λR N=>AL b x2 (sN b st x1) R N hb f1
  have g3:=λR N=>AL b 1 (sN b (sN b st x1) x2) R N hb f2
  have g4:=λR N=>AL b 1 (sN b (sN b (sN b st x1) x2) 1) R N hb f3
  have v1:=jT (b:=b) (st:=st) (s:=x1);have v2:=jT (b:=b) (st:=sN b st x1) (s:=x2);have v3:=jT (b:=b) (st:=sN b (sN b st x1) x2) (s:=1);have v4:=jT (b:=b) (st:=sN b (sN b (sN b st x1) x2) 1) (s:=1);have k1:2 ^ x1<=2 ^ 6:=aA o_ hx.1;have k2:2 ^ x2<=2 ^ 5:=aA o_ hx.2;have t1:(1:Int).toNat=1:=rfl;simp only[ax,t1]at v1 v2 v3 v4;have hO:tP b x1 x2 st=sV b (sN b st x1) x2:=rfl;have hS:Bj b x1 x2 st=sN b (sN b st x1) x2:=rfl;have c1:((j+1:Nat):Int)=(j:Int)+1:=rfl;have hla:=OY (l:=acc);rw[gp,hO,hS];simp only[HT]at g1 g2 g3 g4;by_cases hbad:12<sV b (sN b st x1) x2∧(sN b (sN b st x1) x2).e=0
  .rw[ac hbad];obtain⟨hb1,hb2⟩:=hbad;have hre:re (sN b (sN b st x1) x2)=0:=hb2;refine⟨N+1,o_,?_⟩;simp only[HT];rw[ah qC];simp(maxSteps:=9^6)(disch:=omega)[↓ac,↓aa,n0,n2,n3,n4,g1,g2,hre]
  .rw[aa hbad];by_cases hO0:sV b (sN b st x1) x2=0
   .have eF:pW b x1 x2 fine st=⟨sV b st x1,0,false,fine,[]⟩:=by rw[pW,ac (by rw[hO];exact hO0)]
    have eX:xA b x1 x2 fine st=false:=by rw[xA,ac (by rw[hO];exact hO0)]
    have eN:mD b x1 x2 fine st=sN b (sN b st x1) x2:=by rw[mD,ac (by rw[hO];exact hO0)];rfl
    rw[eF,eX,eN,Bool.or_false];obtain⟨M,hM,h5⟩:=ih (j+1) (N+1) o (sN b (sN b st x1) x2) (acc++[⟨sV b st x1,0,false,fine,[]⟩]) o_ g_ f2 o_;refine⟨M,o_,?_⟩;have key:(Dn prog).code (.loop fJ) ⟨[(6,x6),(7,.ptr 2 0),(8,.ptr 3 0),(10,K0),(11,.ptr 4 0),(12,B_ o),(13,ao 5 (gX acc)),(15,B_ fine),(32,.d y32),(33,.d y33),(46,A_ many),(47,A_ j)],⟨HT b st [(4,NJ y0 y3 y4 x1 x2)],N⟩⟩ =
      (Dn prog).code (.loop fJ) ⟨[(6,x6),(7,.ptr 2 0),(8,.ptr 3 0),(10,K0),(11,.ptr 4 0),(12,B_ o),(13,ao 5 (gX (acc++[⟨sV b st x1,0,false,fine,[]⟩]))),(15,B_ fine),(32,.d y32),(33,.d y33),(46,A_ many),(47,A_ ((j+1:Nat):Int))],⟨HT b (sN b (sN b st x1) x2) [(4,NJ y0 y3 y4 x1 x2)],N+1⟩⟩:=by
     have n00:am []=[]:=rfl;simp only[HT,c1,KN,dA,n00];clear h5 ih;rw[ah qC];simp(maxSteps:=9^6)(disch:=omega)[↓ac,↓aa,n0,n2,n3,n4,g1,g2,hO0]
    rw[key,h5]
    cases gp b x1 x2 fine k o (sN b (sN b st x1) x2) with
    |none=>rfl
    |some q =>
     obtain⟨l,o2,st2⟩:=q;simp only[aw,aI,aD]
   .have he:(sN b (sN b st x1) x2).e=0:=ac0 hO0;have hO12:sV b (sN b st x1) x2<=12:=by
     rcases bH 12 (sV b (sN b st x1) x2) with h|h
     .exact absurd ⟨h,he⟩ hbad
     .exact h
    have hre:re (sN b (sN b st x1) x2)=0:=he;have hw4:3<=iL fine∧iL fine<=4:=by unfold iL;split<;>omega
    have hwide:bl prog AS [B_ fine]=some (A_ ((iL fine:Nat):Int)):=by rw[W3];unfold iL;cases fine<;>rfl
    obtain⟨W,hW⟩:∃W,W=sV b (sN b (sN b (sN b st x1) x2) 1) 1:=⟨_,rfl⟩
    obtain⟨Dd,hDd⟩:∃Dd,Dd=sV b (sN b (sN b st x1) x2) 1:=⟨_,rfl⟩
    obtain⟨T4,hT4⟩:∃T4,T4=sN b (sN b (sN b (sN b st x1) x2) 1) 1:=⟨_,rfl⟩
    obtain⟨sz,hsz⟩:∃sz,sz=iL fine-W:=⟨_,rfl⟩
    rw[<-hW]at v4 g4;rw[<-hDd]at v3 g3;rw[<-hT4]at g4 f4;have c00:((0:Nat):Int)=0:=rfl;simp only[hre,c00]at g3;have hszI:((iL fine:Nat):Int)-(W:Int)=(sz:Int):=o_;have hsz1:(sz:Int)-1=((sz-1:Nat):Int):=o_;have hne:tP b x1 x2 st≠0:=by rw[hO];exact hO0
    have eF:pW b x1 x2 fine st=⟨sV b st x1,sV b (sN b st x1) x2,decide (Dd=1),fine,sY b sz (sV b (sN b st x1) x2) T4⟩:=by
     rw[pW,aa hne,Ng,TV,PW,flD,hS,hO,<-hW,<-hDd,<-hT4,<-hsz]
    have eX:xA b x1 x2 fine st=(decide (W=0) && oC (sY b sz (sV b (sN b st x1) x2) T4) (sz-1)):=by
     rw[xA,aa hne,Ng,TV,PW,hS,hO,<-hW,<-hT4,<-hsz]
    have eN:mD b x1 x2 fine st=tQ b sz (sV b (sN b st x1) x2) T4:=by
     rw[mD,aa hne,Ng,TV,PW,hS,hO,<-hW,<-hT4,<-hsz]
    have f5:(tQ b sz (sV b (sN b st x1) x2) T4).fit:=Sz hb f4;have hcl:=Mj (b:=b) (sz:=sz) (k:=sV b (sN b st x1) x2) (st:=T4);have hL0:=λa0 a2 y46 y47 N M hN=>ajk b hb (NJ y0 y3 y4 x1 x2) a0 (A_ (sV b (sN b st x1) x2)) a2 (B_ fine) x6 (ao 5 (gX acc)) (.bool o) (.bool fine) y32 y33 y46 y47 W sz (sV b (sN b st x1) x2) N M o_ o_ hN (sV b (sN b st x1) x2) 0 T4 [] o_ rfl f4
    have n00:am []=[]:=rfl;have c0:((0:Nat):Int)=0:=rfl;simp only[n00,c9,aD,c0,HT]at hL0;have hDec:decide ((Dd:Int)=1)=decide (Dd=1):=by rw[decide_eq_decide];omega
    rw[eF,eX,eN];generalize sV b (sN b st x1) x2=O at *;obtain⟨CS,hCS⟩:∃CS,CS=sY b sz O T4:=⟨_,rfl⟩
    rw[<-hCS]at hL0 hcl;rw[<-hCS];obtain⟨M,hM,h5⟩:=ih (j+1) (N+1) (o ||(decide (W=0) && oC CS (sz-1))) (tQ b sz O T4) (acc++[⟨sV b st x1,O,decide (Dd=1),fine,CS⟩]) o_ g_ f5 o_;refine⟨M,o_,?_⟩;have hshare:share (ao 1 (am CS))=.d (.lst (am CS)):=by
     cases CS with
     |nil=>simp at hcl;omega
     |cons x r=>rfl
    have key:(Dn prog).code (.loop fJ) ⟨[(6,x6),(7,.ptr 2 0),(8,.ptr 3 0),(10,K0),(11,.ptr 4 0),(12,B_ o),(13,ao 5 (gX acc)),(15,B_ fine),(32,.d y32),(33,.d y33),(46,A_ many),(47,A_ j)],⟨HT b st [(4,NJ y0 y3 y4 x1 x2)],N⟩⟩ =
      (Dn prog).code (.loop fJ) ⟨[(6,x6),(7,.ptr 2 0),(8,.ptr 3 0),(10,K0),(11,.ptr 4 0),(12,B_ ((o ||(decide (W=0) && oC CS (sz-1))))),(13,ao 5 (gX (acc++[⟨sV b st x1,O,decide (Dd=1),fine,CS⟩]))),(15,B_ fine),(32,.d y32),(33,.d y33),(46,A_ many),(47,A_ ((j+1:Nat):Int))],⟨HT b (tQ b sz O T4) [(4,NJ y0 y3 y4 x1 x2)],N+1⟩⟩:=by
     simp only[HT,c1,KN,dA];clear h5 ih;have hfit:=YT CS o_ (sz-1) o_;have hfit2:bl prog BP [.d (.lst (am CS)),A_ ((sz-1:Nat):Int)]=some (B_ (oC CS (sz-1))):=hfit;rw[ah qC];obtain⟨B1,hB1⟩:∃B1,B1=decide (Dd=1):=⟨_,rfl⟩
     rw[<-hB1]
     cases o with
     |true =>
      by_cases hD1:Dd=1
      .rw[hB1,dT_ hD1];simp(maxSteps:=9^6)(disch:=omega)[↓ac,↓aa,n0,n2,n3,n4,g1,g2,g3,g4,hre,hwide,hszI,hL0]
      .rw[hB1,dF_ hD1];simp(maxSteps:=9^6)(disch:=omega)[↓ac,↓aa,n0,n2,n3,n4,g1,g2,g3,g4,hre,hwide,hszI,hL0]
     |false =>
      by_cases hW0:W=0
      .rw[dT_ hW0];by_cases hD1:Dd=1
       .rw[hB1,dT_ hD1];simp(maxSteps:=9^6)(disch:=omega)[↓ac,↓aa,n0,n2,n3,n4,g1,g2,g3,g4,hre,hwide,hszI,hL0,hshare,hsz1,hfit2]
       .rw[hB1,dF_ hD1];simp(maxSteps:=9^6)(disch:=omega)[↓ac,↓aa,n0,n2,n3,n4,g1,g2,g3,g4,hre,hwide,hszI,hL0,hshare,hsz1,hfit2]
      .rw[dF_ hW0];by_cases hD1:Dd=1
       .rw[hB1,dT_ hD1];simp(maxSteps:=9^6)(disch:=omega)[↓ac,↓aa,n0,n2,n3,n4,g1,g2,g3,g4,hre,hwide,hszI,hL0]
       .rw[hB1,dF_ hD1];simp(maxSteps:=9^6)(disch:=omega)[↓ac,↓aa,n0,n2,n3,n4,g1,g2,g3,g4,hre,hwide,hszI,hL0]
    rw[key,h5]
    cases gp b x1 x2 fine k (o ||(decide (W=0) && oC CS (sz-1))) (tQ b sz O T4) with
    |none=>rfl
    |some q =>
     obtain⟨l,o2,st2⟩:=q;simp only[aw,aI,aD]
abbrev kV:=@Bool.true_and
def Qn (b:C_)(x0:Nat)(st:RS):Bool:=decide (0<sV b st x0) && decide (sV b (sN b st x0) 1=1)
def zP (b:C_)(x0:Nat)(st:RS):RS:=if 0<sV b st x0 then sN b (sN b st x0) 1 else sN b st x0
def ng (b:C_)(x0 x1 x2:Nat):Nat->Bool->RS->Option (P_×Bool×RS)
 |0,o,st=>some ([],o,st)
 |k+1,o,st=>match gp b x1 x2 (Qn b x0 st) (sV b st x0) o (zP b x0 st) with
  |none=>none
  |some q=>match ng b x0 x1 x2 k q.2.1 q.2.2 with
   |none=>none
   |some w=>some (q.1::w.1,w.2)
def QU {t:P_}{l:AC_}:bf (t++[l])=bf t++[[.lst (gX l)]]:=by simp[bf]
def aaB {b:C_}{x0:Nat}{st:RS}(hb:b.length<=1000000000)(h:st.fit):(zP b x0 st).fit:=by
 unfold zP;split
 .exact ek hb (ek hb h)
 .exact ek hb h
def OJ {b:C_}{x1 x2:Nat}{fine:Bool}(hb:b.length<=1000000000):∀{k:Nat}{o:Bool}{st:RS}{l:AC_}{o2:Bool}{st2:RS},st.fit->gp b x1 x2 fine k o st=some (l,o2,st2)->st2.fit∧l.length=k
 |0,o,st,l,o2,st2,h,e=>by
  rw[gp]at e;injection e with e
  injection e with e1 e
  injection e with e2 e3
  subst e1 e3;exact⟨h,rfl⟩
 |k+1,o,st,l,o2,st2,h,e=>by
  rw[gp]at e;split at e
  .exact absurd e (by simp)
  .cases hq:gp b x1 x2 fine k (o ||xA b x1 x2 fine st) (mD b x1 x2 fine st) with
   |none=>rw[hq]at e;exact absurd e (by simp)
   |some q =>
    obtain⟨q1,q2,q3⟩:=q;rw[hq]at e;injection e with e;injection e with e1 e
    injection e with e2 e3
    obtain⟨i1,i2⟩:=OJ hb (ajn hb h) hq;subst e1 e3;exact⟨i1,by simp[i2]⟩
def ajE (b:C_)(hb:b.length<=1000000000)(y3 y4:AV)(x0 x1 x2:Nat)(hx:x0<=2∧x1<=6∧x2<=5)(many:Nat)(hm:many<=8):∀(k j N:Nat) (o:Bool) (st:RS) (acc:P_),j+k=many->acc.length=j->st.fit->5<=N->
  ∃M,N<=M∧(Dn prog).code (.loop jR) ⟨[(6,ao 1 (bf acc)),(7,.ptr 2 0),(8,.ptr 3 0),(10,K0),(11,.ptr 4 0),(12,B_ o),(32,A_ many),(33,A_ j)],⟨HT b st [(4,NJ (A_ x0) y3 y4 x1 x2)],N⟩⟩ =
  match ng b x0 x1 x2 k o st with
  |none=>some (.ret,⟨[(6,.nl),(7,.ptr 2 0),(8,.ptr 3 0)],⟨[(0,.cells [.d (.lst (aT b))]),(2,.cells [A_ 0]),(3,.cells [A_ 8])],M⟩⟩)
  |some (t,o2,st2)=>some (.exit 0,⟨[(6,ao 1 (bf (acc++t))),(7,.ptr 2 0),(8,.ptr 3 0),(12,B_ o2)],⟨HT b st2 [],M⟩⟩):=by
 intro k
 induction k with
 |zero =>
  intro j N o st acc h1 h2 h3 hN;refine⟨N,ai _,?_⟩;rw[ah wX,ng];simp only[ba];simp(maxSteps:=9^6)(disch:=omega)[↓ac,↓aa]
 |succ k ih =>
  intro j N o st acc h1 h2 h3 hN;have f1:=ek (s:=x0) hb h3;have g1:=λR N=>AL b x0 st R N hb h3
  have g2:=λR N=>AL b 1 (sN b st x0) R N hb f1
  have v1:=jT (b:=b) (st:=st) (s:=x0);have v2:=jT (b:=b) (st:=sN b st x0) (s:=1);have k1:2 ^ x0<=2 ^ 2:=aA o_ hx.1;have t1:(1:Int).toNat=1:=rfl;simp only[ax,t1]at v1 v2;have c1:((j+1:Nat):Int)=(j:Int)+1:=rfl;have c0:((0:Nat):Int)=0:=rfl;have n00:gX []=[]:=rfl;have hla:=EJ (t:=acc);have hfs:=aaB (x0:=x0) hb h3;obtain⟨M1,hM1,hL1⟩:=akl b hb (A_ x0) y3 y4 x1 x2 hx.2 (ao 1 (bf acc)) (Qn b x0 st) (.int .i64 many) (.int .i64 j) (sV b st x0) o_ (sV b st x0) 0 N o (zP b x0 st) [] o_ rfl hfs hN;have hF:Qn b x0 st=(decide (0<sV b st x0) && decide (sV b (sN b st x0) 1=1)):=rfl;have hS:zP b x0 st=if 0<sV b st x0 then sN b (sN b st x0) 1 else sN b st x0:=rfl
  rw[ng];simp only[HT,c0,n00,c9,aD]at g1 g2 hL1
  cases hfl:gp b x1 x2 (Qn b x0 st) (sV b st x0) o (zP b x0 st) with
  |none =>
   rw[hfl]at hL1;refine⟨M1,hM1,?_⟩;simp only[HT];rw[ah wX];rw[hF,hS]at hL1;by_cases hp:0<sV b st x0
   .rw[ac hp,dT_ hp,kV]at hL1;by_cases hd:sV b (sN b st x0) 1=1
    .rw[dT_ hd]at hL1;simp(maxSteps:=9^6)(disch:=omega)[↓ac,↓aa,g1,g2,hL1]
    .rw[dF_ hd]at hL1;simp(maxSteps:=9^6)(disch:=omega)[↓ac,↓aa,g1,g2,hL1]
   .have h0:sV b st x0=0:=o_;rw[aa hp,dF_ hp,Bool.false_and,h0,c0]at hL1;simp(maxSteps:=9^6)(disch:=omega)[↓ac,↓aa,g1,g2,h0,hL1]
  |some q =>
   obtain⟨l,o2,st2⟩:=q;rw[hfl]at hL1;obtain⟨i1,i2⟩:=OJ hb hfs hfl;obtain⟨M,hM,h5⟩:=ih (j+1) M1 o2 st2 (acc++[l]) o_ g_ i1 o_;refine⟨M,o_,?_⟩;have key:(Dn prog).code (.loop jR) ⟨[(6,ao 1 (bf acc)),(7,.ptr 2 0),(8,.ptr 3 0),(10,K0),(11,.ptr 4 0),(12,B_ o),(32,A_ many),(33,A_ j)],⟨HT b st [(4,NJ (A_ x0) y3 y4 x1 x2)],N⟩⟩ =
     (Dn prog).code (.loop jR) ⟨[(6,ao 1 (bf (acc++[l]))),(7,.ptr 2 0),(8,.ptr 3 0),(10,K0),(11,.ptr 4 0),(12,B_ o2),(32,A_ many),(33,A_ ((j+1:Nat):Int))],⟨HT b st2 [(4,NJ (A_ x0) y3 y4 x1 x2)],M1⟩⟩:=by
    simp only[HT,c1,QU,dA];clear h5 ih;rw[hF,hS]at hL1;rw[ah wX];by_cases hp:0<sV b st x0
    .rw[ac hp,dT_ hp,kV]at hL1;by_cases hd:sV b (sN b st x0) 1=1
     .rw[dT_ hd]at hL1;simp(maxSteps:=9^6)(disch:=omega)[↓ac,↓aa,g1,g2,hL1]
     .rw[dF_ hd]at hL1;simp(maxSteps:=9^6)(disch:=omega)[↓ac,↓aa,g1,g2,hL1]
    .have h0:sV b st x0=0:=o_;rw[aa hp,dF_ hp,Bool.false_and,h0,c0]at hL1;simp(maxSteps:=9^6)(disch:=omega)[↓ac,↓aa,g1,g2,h0,hL1]
   rw[key,h5];simp only
   cases ng b x0 x1 x2 k o2 st2 with
   |none=>rfl
   |some w =>
    obtain⟨t,o3,st3⟩:=w;simp only[aw,aI,aD]
def dq (sh:Bool):Nat:=if sh then 1 else 2
def bp (sh:Bool):Nat:=if sh then 4 else 6
def bE (sh:Bool):Nat:=if sh then 3 else 5
def HG (b:C_)(i:ay)(a:Int):Option (P_×Bool×RS):=ng b (dq i.short) (bp i.short) (bE i.short) i.many false ⟨a,0⟩
def z4 (b:C_)(i:ay)(a:Int):R P_ :=
 match HG b i a with
 |none=>.er 7
 |some (t,o,st)=>if st.e≠0 then .er (st.e-1) else if o then .er 7 else .ok t st.a.toNat
def PB {b:C_}{x1 x2:Nat}{fine:Bool}:∀{k:Nat}{o:Bool}{st:RS}{l:AC_}{o2:Bool}{st2:RS},gp b x1 x2 fine k o st=some (l,o2,st2)->l.length=k∧∀f∈l,f.coefs.length<=12
 |0,o,st,l,o2,st2,e=>by
  rw[gp]at e;injection e with e
  injection e with e1 e
  subst e1;exact⟨rfl,s_⟩
 |k+1,o,st,l,o2,st2,e=>by
  rw[gp]at e;split at e
  .exact absurd e (by simp)
  .rename_i hbad
   cases hq:gp b x1 x2 fine k (o ||xA b x1 x2 fine st) (mD b x1 x2 fine st) with
   |none=>rw[hq]at e;exact absurd e (by simp)
   |some q =>
    obtain⟨q1,q2,q3⟩:=q;rw[hq]at e;injection e with e;injection e with e1 e
    obtain⟨i1,i2⟩:=PB hq;subst e1;refine⟨by simp[i1],λf hf=>?_⟩;rcases aQ.1 hf with rfl|hf
    .unfold pW;split
     .simp
     .rename_i h0;simp only[Mj];have he:(Bj b x1 x2 st).e=0:=ac0 h0;rcases bH 12 (tP b x1 x2 st) with h|h
      .exact absurd ⟨h,he⟩ hbad
      .exact h
    .exact i2 f hf
def PR {b:C_}{x0 x1 x2:Nat}(hb:b.length<=1000000000)(h2:x0<=2):∀{k:Nat}{o:Bool}{st:RS}{t:P_}{o2:Bool}{st2:RS},st.fit->ng b x0 x1 x2 k o st=some (t,o2,st2)->st2.fit∧t.length=k∧∀l∈t,l.length<=3∧∀f∈l,f.coefs.length<=12
 |0,o,st,t,o2,st2,h,e=>by
  rw[ng]at e;injection e with e
  injection e with e1 e
  injection e with e2 e3
  subst e1 e3;exact⟨h,rfl,s_⟩
 |k+1,o,st,t,o2,st2,h,e=>by
  rw[ng]at e
  cases hq:gp b x1 x2 (Qn b x0 st) (sV b st x0) o (zP b x0 st) with
  |none=>rw[hq]at e;exact absurd e (by simp)
  |some q =>
   obtain⟨q1,q2,q3⟩:=q;rw[hq]at e;simp only at e
   cases hw:ng b x0 x1 x2 k q2 q3 with
   |none=>rw[hw]at e;exact absurd e (by simp)
   |some w =>
    obtain⟨w1,w2,w3⟩:=w;rw[hw]at e;injection e with e;injection e with e1 e
    injection e with e2 e3
    obtain⟨f1,f2⟩:=OJ hb (aaB hb h) hq;obtain⟨i1,i2,i3⟩:=PR hb h2 f1 hw;obtain⟨j1,j2⟩:=PB hq;have v1:=jT (b:=b) (st:=st) (s:=x0);have k1:2 ^ x0<=2 ^ 2:=aA o_ h2;simp only[ax]at v1;subst e1 e3;refine⟨i1,by simp[i2],λl hl=>?_⟩;rcases aQ.1 hl with rfl|hl
    .exact⟨o_,j2⟩
    .exact i3 l hl
abbrev pTn (b:C_)(i:ay)(t:P_)(n:Nat):Prop:=t.length=i.many∧n<=b.length∧∀l∈t,l.length<=3∧∀f∈l,f.coefs.length<=12
def XS {h:ak}{t:P_}{n e:Int}(ht:t≠[]):fq h (.tup [ao 1 (bf t),A_ n,A_ e])=some (.tup [ao 1 (bf t),A_ n,A_ e]):=by
 cases t with
 |nil=>exact absurd rfl ht
 |cons x r=>rfl
def RS.inB (b:C_)(st:RS):Prop:=0<=st.a∧st.a<=b.length
def Bb {b:C_}{st:RS}{s:Int}(h:st.e=0∨st.inB b):(sN b st s).inB b:=by
 unfold sN;split
 .have:=Vf (b:=b) (a:=st.a) (s:=s);show 0<=_∧_;simp only[];omega
 .rename_i he;exact h.resolve_left he
def adi {b:C_}{sz:Nat}:∀{k:Nat}{st:RS},st.inB b->(tQ b sz k st).inB b
 |0,_,h=>h
 |_+1,_,h=>by rw[tQ];exact adi (Bb (.inr h))
def amx {b:C_}{x1 x2:Nat}{fine:Bool}{st:RS}(h:st.inB b):(mD b x1 x2 fine st).inB b:=by
 unfold mD;split
 .exact Bb (.inr (Bb (.inr h)))
 .exact adi (Bb (.inr (Bb (.inr (Bb (.inr (Bb (.inr h))))))))
def aaV {b:C_}{x1 x2:Nat}{fine:Bool}:∀{k:Nat}{o:Bool}{st:RS}{l:AC_}{o2:Bool}{st2:RS},st.inB b->gp b x1 x2 fine k o st=some (l,o2,st2)->st2.inB b
 |0,o,st,l,o2,st2,h,e=>by
  rw[gp]at e;injection e with e
  injection e with e1 e
  injection e with e2 e3
  subst e3;exact h
 |k+1,o,st,l,o2,st2,h,e=>by
  rw[gp]at e;split at e
  .exact absurd e (by simp)
  .cases hq:gp b x1 x2 fine k (o ||xA b x1 x2 fine st) (mD b x1 x2 fine st) with
   |none=>rw[hq]at e;exact absurd e (by simp)
   |some q =>
    obtain⟨q1,q2,q3⟩:=q;rw[hq]at e;injection e with e;injection e with e1 e
    injection e with e2 e3
    subst e3;exact aaV (amx h) hq
def amh {b:C_}{x0:Nat}{st:RS}(h:st.e=0∨st.inB b):(zP b x0 st).inB b:=by
 unfold zP;split
 .exact Bb (.inr (Bb h))
 .exact Bb h
def Mu {b:C_}{x0 x1 x2:Nat}:∀{k:Nat}{o:Bool}{st:RS}{t:P_}{o2:Bool}{st2:RS},st.inB b∨(st.e=0∧1<=k)->ng b x0 x1 x2 k o st=some (t,o2,st2)->st2.inB b
 |0,o,st,t,o2,st2,h,e=>by
  rw[ng]at e;injection e with e
  injection e with e1 e
  injection e with e2 e3
  subst e3;rcases h with h|⟨_,h⟩
  .exact h
  .omega
 |k+1,o,st,t,o2,st2,h,e=>by
  rw[ng]at e
  cases hq:gp b x1 x2 (Qn b x0 st) (sV b st x0) o (zP b x0 st) with
  |none=>rw[hq]at e;exact absurd e (by simp)
  |some q =>
   obtain⟨q1,q2,q3⟩:=q;rw[hq]at e;simp only at e
   cases hw:ng b x0 x1 x2 k q2 q3 with
   |none=>rw[hw]at e;exact absurd e (by simp)
   |some w =>
    obtain⟨w1,w2,w3⟩:=w;rw[hw]at e;injection e with e;injection e with e1 e
    injection e with e2 e3
    subst e3;have h0:st.e=0∨st.inB b:=by rcases h with h|⟨h,_⟩;exact .inr h;exact .inl h
    exact Mu (.inl (aaV (amh h0) hq)) hw
def jH (i:ay):1<=i.many∧i.many<=8:=by unfold ay.many;split<;>omega
theorem Gl {b:C_}{i:ay}{a:Int}(hb:b.length<=1000000000)(ha:i64 a){t:P_}{n:Nat}(h:z4 b i a=.ok t n):pTn b i t n:=by
 rw[z4]at h
 cases hq:HG b i a with
 |none=>rw[hq]at h;exact absurd h (by simp)
 |some q =>
  obtain⟨t',o,st⟩:=q;rw[hq]at h;simp only at h;rw[HG]at hq;obtain⟨j1,j2,j3⟩:=PR (st:=⟨a,0⟩) hb (by unfold dq;split<;>omega) (show RS.fit ⟨a,0⟩ from ha) hq;have j4:=Mu (.inr ⟨rfl,(jH i).1⟩) hq;split at h
  .exact absurd h (by simp)
  .split at h
   .exact absurd h (by simp)
   .injection h with g1 g2
    subst g1 g2;obtain⟨k1,k2⟩:=j4;exact⟨j2,o_,j3⟩
def ZF (b:C_)(hb:b.length<=1000000000)(a:Int)(ha:i64 a)(i:ay)(hi:i.Fit)(hm:i.may 11):bl prog Jk [.d (.lst (aT b)),A_ a,.agg i.cells] =
  rK (pTn b i) (z4 b i a) (λt n=>some (.tup [ao 1 (bf t),A_ n,A_ 0])) (λe=>some (.tup [.nl,A_ 0,A_ (e+1)])):=by
 have hw:=DH i hi;rw[ac hm]at hw;have hsz:=Uz i;obtain⟨m1,m8⟩:=jH i;obtain⟨M,hM,hL⟩:=ajE b hb (A_ (if i.short then 1 else 3)) (A_ (if i.short then 7 else 12)) (dq i.short) (bp i.short) (bE i.short) (by unfold dq bp bE;cases i.short<;>decide) i.many m8 i.many 0 5 false ⟨a,0⟩ [] o_ rfl ha (ai _);have c0:((0:Nat):Int)=0:=rfl;have n0:bf []=[]:=rfl;have hq0:ng b (dq i.short) (bp i.short) (bE i.short) i.many false ⟨a,0⟩=HG b i a:=rfl;have hra:ra ⟨a,0⟩=a:=rfl;have hre:re ⟨a,0⟩=0:=rfl;rw[hq0]at hL;simp only[c0,n0,c9,aD,HT,hra,hre]at hL;have hszv:VK i.short=[A_ (dq i.short:Nat),A_ (bp i.short:Nat),A_ (bE i.short:Nat),A_ (if i.short then 1 else 3),A_ (if i.short then 7 else 12)]:=by
  cases i.short<;>rfl
 rw[hszv]at hsz;have hp:=λt n=>Gl (b:=b) (i:=i) (a:=a) (t:=t) (n:=n) hb ha
 have hin0:∀t o st,HG b i a=some (t,o,st)->st.inB b:=λt o st h=>Mu (.inr ⟨rfl,m1⟩) h
 rw[z4]at hp⊢;rw[aM UJ Uw rfl];simp only[ay.cells]at hw hsz⊢;generalize dq i.short=X0 at *;generalize bp i.short=X1 at *;generalize bE i.short=X2 at *;generalize (if i.short then (1:Int) else 3)=Y3 at *;generalize (if i.short then (7:Int) else 12)=Y4 at *
 cases hq:HG b i a with
 |none =>
  rw[hq]at hL;simp only at hL⊢;rw[dp];simp(maxSteps:=9^6)(disch:=omega)[↓ac,↓aa,hw,hsz,hL]
 |some q =>
  obtain⟨t,o,st⟩:=q;rw[hq]at hL hp;simp only at hL hp⊢;obtain⟨sa,se⟩:=st;by_cases he:se=0
  .subst he;have hin:=hin0 t o ⟨sa,0⟩ hq;obtain⟨k1,k2⟩:=hin;simp only at k1 k2;obtain⟨A,rfl⟩:=az k1;have hra2:ra ⟨(A:Int),0⟩=(A:Int):=rfl;have hre2:re ⟨(A:Int),0⟩=0:=rfl;simp only[hra2,hre2,c0]at hL
   cases o with
   |true =>
    simp only[ne_eq,not_true_eq_false,bu,bK]at hp⊢;rw[dp];simp(maxSteps:=9^6)(disch:=omega)[↓ac,↓aa,hw,hsz,hL]
   |false =>
    simp only[ne_eq,not_true_eq_false,bu,al]at hp⊢;have hpt:=hp t _ rfl;have htn:t≠[]:=λh=>by rw[h]at hpt;have:=hpt.1;simp at this;omega
    rw[bJ hpt];have hrt:=λh n e=>XS (h:=h) (n:=n) (e:=e) htn
    simp(maxSteps:=9^6)(disch:=omega)[↓ac,↓aa,hw,hsz,hL,-um,hrt]
  .have hre2:re ⟨sa,se⟩=se:=rfl;have hse:((se-1:Nat):Int)+1=(se:Int):=o_;simp only[hre2]at hL;simp only[ne_eq,he,not_false_eq_true,bK]at hp⊢;rw[dp,hse];simp(maxSteps:=9^6)(disch:=omega)[↓ac,↓aa,hw,hsz,hL,he]
def XZ (b:C_)(a s:Int)(hb:b.length<=1000000000)(ha:i64 a):bl prog fh [.d (.lst (aT b)),A_ a,A_ s]=some (.tup [A_ (vO b a s),A_ (nO b a s),A_ (eO b a s)]):=by
 rw[gB b a s hb ha];unfold vO nO eO
 cases h:aN b a s with
 |ok v n=>rw[bJ (b3 h)];simp
 |er e=>simp[rK]
def rX (b:C_)(st:RS)(x s:Int):Int:=if st.e=0 then (if eO b st.a s=0 then (nO b st.a s:Int) else x) else x
def wR {b:C_}{st:RS}{x s:Int}(h:st.e=0->x=st.a)(h2:(sN b st s).e=0):rX b st x s=(sN b st s).a:=by
 unfold rX;unfold sN at h2⊢;by_cases he:st.e=0
 .rw[ac he]at h2⊢;simp only at h2;rw[ac h2,ac he]
 .rw[aa he]at h2⊢;exact absurd h2 he
def rH {b:C_}{st:RS}{x s:Int}(hb:b.length<=1000000000)(h:i64 x):i64 (rX b st x s):=by
 unfold rX;split
 .split
  .have:=Vf (b:=b) (a:=st.a) (s:=s);omega
  .exact h
 .exact h
abbrev kW (b:C_)(st:RS)(x:Int):Obj:=.cells [.d (.lst (aT b)),A_ x,A_ (re st)]
def wY (b:C_)(s:Int)(st:RS)(x:Int)(X:Obj)(R:ak)(N:Nat)(hb:b.length<=1000000000)(ha:i64 x)(hx:st.e=0->x=st.a):(Dn prog).call pX [.ptr 1 0,A_ s] ⟨(0,X)::(1,kW b st x)::R,N⟩ =
  some (A_ (sV b st s),⟨(0,X)::(1,kW b (sN b st s) (rX b st x s))::R,N⟩):=by
 rw[bN Bv Bm rfl];obtain⟨a,e⟩:=st;by_cases he:e=0
 .subst he;have hxa:x=a:=hx rfl;subst hxa;by_cases h0:eO b x s=0
  .simp(maxSteps:=9^6)(disch:=omega)[↓ac,↓aa,XZ,re,sV,sN,rX,h0]
  .have:eO b x s≠0:=h0;simp(maxSteps:=9^6)(disch:=omega)[↓ac,↓aa,XZ,re,sV,sN,rX,h0]
 .simp(maxSteps:=9^6)(disch:=omega)[↓ac,↓aa,re,sV,sN,rX,he]
def LP (i:ay):bl prog wz [.agg i.cells]=some (.tup [A_ (dq i.short:Nat),A_ (bp i.short:Nat),A_ (bE i.short:Nat)]):=by
 rw[aM FH Fe rfl];by_cases h:i.seq=2
 .have hs:i.short=true:=by simp[ay.short,h]
  have hc:(i.seq:Int)=2:=o_;rw[hs];simp(maxSteps:=9^6)(disch:=omega)[↓ac,↓aa,ay.cells,hc,dq,bp,bE]
 .have hs:i.short=false:=by simp[ay.short,h]
  have hc:(i.seq:Int)≠2:=o_;rw[hs];simp(maxSteps:=9^6)(disch:=omega)[↓ac,↓aa,ay.cells,hc,dq,bp,bE]
def QG (i:ay):bl prog qk [.agg i.cells]=some (A_ (i.many:Nat)):=by
 rw[aM HU HL rfl];by_cases h:i.seq=2
 .have hs:i.many=8:=by simp[ay.many,h]
  have hc:(i.seq:Int)=2:=o_;rw[hs];simp(maxSteps:=9^6)(disch:=omega)[↓ac,↓aa,ay.cells,hc]
 .have hs:i.many=1:=by simp[ay.many,h]
  have hc:(i.seq:Int)≠2:=o_;rw[hs];simp(maxSteps:=9^6)(disch:=omega)[↓ac,↓aa,ay.cells,hc]
def abO (fine narrow:Bool):bl prog HX [B_ fine,B_ narrow]=some (A_ (iL fine-alq narrow:Nat)):=by
 cases fine<;>cases narrow<;>exact F9 60 (by kernel_rfl)
def CX (fine:Bool):Nat:=2 ^ (iL fine-1-1)
def UD (len order:Int)(down fine:Bool)(l:G_)(hl:l.length<=1000)(hr:∀c∈l,i64 c)(N:Nat)(Hf:Nat)(hH:Hf<=100):∀(r:G_) (j:Nat),l.drop j=r->
  (Dn prog).code (.loop iw) ⟨[(1,.ptr 0 0),(3,A_ Hf),(4,A_ j)],⟨[(0,.cells [A_ len,A_ order,B_ down,B_ fine,.d (.lst (am l))])],N⟩⟩ =
  if ∀c∈r,-(Hf:Int)<=c∧c<Hf then some (.exit 0,⟨[],⟨[],N⟩⟩) else some (.ret,⟨[(2,B_ false)],⟨[],N⟩⟩):=by
 intro r;have hla:=cx (l:=l)
 induction r with
 |nil =>
  intro j hj;have hjl:l.length<=j:=aO.1 hj;rw[ac s_,ah sR];simp(maxSteps:=9^6)(disch:=omega)[↓ac,↓aa,hla]
 |cons c r ih =>
  intro j hj;have hjl:j<l.length:=by
   rcases bH j l.length with h|h
   .exact h
   .rw[aO.2 h]at hj;exact absurd hj (by simp)
  have hlj:l[j]?=some c:=by
   have:=aX (λl=>l[0]?) hj;simpa [cB] using this
  have hn:l.drop (j+1)=r:=by rw[<-cJ,hj];rfl
  have h5:=ih (j+1) hn;have c1:((j+1:Nat):Int)=(j:Int)+1:=rfl;rw[c1]at h5;have hg:=Db hj;have hci:=hr c (by rw[<-bM j l,hj];simp);rw[ah sR];by_cases hc:-(Hf:Int)<=c∧c<Hf
  .have e:(∀x∈c::r,-(Hf:Int)<=x∧x<Hf)↔∀x∈r,-(Hf:Int)<=x∧x<Hf:=by simp[hc]
   simp only[e];rw[<-h5];obtain⟨hc1,hc2⟩:=hc;simp(maxSteps:=9^6)(disch:=omega)[↓ac,↓aa,-getElem?_pos,hla,hg]
  .rw[aa (λh=>hc (h c (.head _)))];by_cases hc1:-(Hf:Int)<=c
   .have hc2:(Hf:Int)<=c:=o_;simp(maxSteps:=9^6)(disch:=omega)[↓ac,↓aa,-getElem?_pos,hla,hg]
   .simp(maxSteps:=9^6)(disch:=omega)[↓ac,↓aa,-getElem?_pos,hla,hg]
def XG (len order:Int)(down fine:Bool)(l:G_)(hl:l.length<=1000)(hr:∀c∈l,i64 c):bl prog nR [.agg [A_ len,A_ order,B_ down,B_ fine,.d (.lst (am l))]]=some (B_ (oC l (iL fine-1))):=by
 have h:=UD len order down fine l hl hr 1 (CX fine) (by cases fine<;>decide) l 0 rfl;have c0:((0:Nat):Int)=0:=rfl;rw[c0]at h;have hf:oC l (iL fine-1)=decide (∀c∈l,-(CX fine:Int)<=c∧c<CX fine):=rfl;rw[hf,aM E9 FE rfl];by_cases hc:∀c∈l,-(CX fine:Int)<=c∧c<CX fine
 .rw[ac hc]at h;rw[dT_ hc]
  cases fine
  .have e:((CX false:Nat):Int)=2:=rfl;rw[e]at h;simp(maxSteps:=9^6)(disch:=omega)[↓ac,↓aa,h]
  .have e:((CX true:Nat):Int)=4:=rfl;rw[e]at h;simp(maxSteps:=9^6)(disch:=omega)[↓ac,↓aa,h]
 .rw[aa hc]at h;rw[dF_ hc]
  cases fine
  .have e:((CX false:Nat):Int)=2:=rfl;rw[e]at h;simp(maxSteps:=9^6)(disch:=omega)[↓ac,↓aa,h]
  .have e:((CX true:Nat):Int)=4:=rfl;rw[e]at h;simp(maxSteps:=9^6)(disch:=omega)[↓ac,↓aa,h]
def Ni (b:C_)(sz:Nat):Nat->RS->Int->Int
 |0,_,x=>x
 |k+1,st,x=>Ni b sz k (sN b st sz) (rX b st x sz)
def aaF {b:C_}{sz:Nat}(hb:b.length<=1000000000):∀{k:Nat}{st:RS}{x:Int},i64 x->i64 (Ni b sz k st x)
 |0,_,_,h=>h
 |_+1,_,_,h=>by rw[Ni];exact aaF hb (rH hb h)
def adn {b:C_}{sz:Nat}:∀{k:Nat}{st:RS}{x:Int},(st.e=0->x=st.a)->(tQ b sz k st).e=0->Ni b sz k st x=(tQ b sz k st).a
 |0,_,_,h,h2=>h h2
 |_+1,_,_,h,h2=>by rw[tQ]at h2;rw[Ni,tQ];exact adn (λh3=>wR h h3) h2
def amk (b:C_)(hb:b.length<=1000000000)(X0 z6:Obj)(a0 a2 a3:AV)(nar:D)(sz ord A B M:Nat)(hsz:2<=sz∧sz<=4)(ho:ord<=100)(hA:2<=A)(hB:A<B):∀(k j:Nat) (st:RS) (x:Int) (acc:G_),j+k=ord->acc.length=j->i64 x->(st.e=0->x=st.a)->
  (Dn prog).code (.loop iB) ⟨[(0,.ptr 1 0),(6,.ptr A 0),(12,.ptr B 0),(13,.d nar),(14,A_ sz),(15,A_ j)],⟨(0,X0)::(1,kW b st x)::[(A,z6),(B,.cells [a0,A_ ord,a2,a3,ao 1 (am acc)])],M⟩⟩ =
  some (.exit 0,⟨[(6,.ptr A 0),(12,.ptr B 0),(13,.d nar)],⟨(0,X0)::(1,kW b (tQ b sz k st) (Ni b sz k st x))::[(A,z6),(B,.cells [a0,A_ ord,a2,a3,ao 1 (am (acc++sY b sz k st))])],M⟩⟩):=by
 obtain⟨n0,n1,m0,m1,m2,m3⟩:A≠0∧A≠1∧B≠0∧B≠1∧B≠A∧A≠B:=o_;intro k
 induction k with
 |zero =>
  intro j st x acc h1 h2 h3 h4;rw[ah sF,sY,tQ,Ni,ba];simp(maxSteps:=9^6)(disch:=omega)[↓ac,↓aa,n0,n1,m0,m1,m2,m3]
 |succ k ih =>
  intro j st x acc h1 h2 h3 h4;have hg:=wY b sz st x X0 [(A,z6),(B,.cells [a0,A_ ord,a2,a3,ao 1 (am acc)])] M hb h3 h4;have hv:=jT (b:=b) (st:=st) (s:=sz);have h5:=ih (j+1) (sN b st sz) (rX b st x sz) (acc++[LT (sV b st sz) sz]) o_ g_ (rH hb h3) (λh=>wR h4 h);have c1:((j+1:Nat):Int)=(j:Int)+1:=rfl;have c2:((sz-1:Nat):Int)=(sz:Int)-1:=o_;have hla:=cx (l:=acc);simp only[ax]at hv;have hp:2 ^ (sz-1)*2=2 ^ sz:=by rw[<-gS];congr 1;omega
  have hp4:2 ^ sz<=2 ^ 4:=aA o_ hsz.2;have t1:=xD (sz-1) o_;have t2:=xD sz o_;rw[c2]at t1;rw[c1,aw,za,dA]at h5;rw[ah sF,sY,tQ,Ni,show acc++LT (sV b st sz) sz::sY b sz k (sN b st sz)=acc++([LT (sV b st sz) sz]++sY b sz k (sN b st sz)) from rfl,<-h5];clear h5 ih;have hcf:LT (sV b st sz) sz=(sV b st sz:Int)-((sV b st sz / 2 ^ (sz-1)*2 ^ sz:Nat):Int):=rfl;generalize sV b st sz=V at *;by_cases hge:2 ^ (sz-1)<=V
  .have hq:V / 2 ^ (sz-1)=1:=mM o_ o_;rw[hq,Nat.one_mul]at hcf;rw[hcf];generalize 2 ^ (sz-1)=P1 at *;generalize 2 ^ sz=P2 at *;simp(maxSteps:=9^6)(disch:=omega)[↓ac,↓aa,n0,n1,m0,m1,m2,m3,hg,t1,t2]
  .have hq:V / 2 ^ (sz-1)=0:=Nat.div_eq_of_lt o_;have hcf:LT V sz=(V:Int):=by rw[hcf,hq];simp
   rw[hcf];generalize 2 ^ (sz-1)=P1 at *;generalize 2 ^ sz=P2 at *;simp(maxSteps:=9^6)(disch:=omega)[↓ac,↓aa,n0,n1,m0,m1,m2,m3,hg,t1,t2]
def aaw {b:C_}{sz:Nat}(hz:1<=sz):∀{k:Nat}{st:RS},∀c∈sY b sz k st,-((2 ^ (sz-1):Nat):Int)<=c∧c<((2 ^ (sz-1):Nat):Int)
 |0,_,c,h=>by simp[sY]at h
 |k+1,st,c,h=>by
  rw[sY]at h;rcases aQ.1 h with rfl|h
  .have hv:=jT (b:=b) (st:=st) (s:=sz);simp only[ax]at hv;have hp:2 ^ (sz-1)*2=2 ^ sz:=by rw[<-gS];congr 1;omega
   unfold LT;generalize sV b st sz=V at *;by_cases hge:2 ^ (sz-1)<=V
   .have hq:V / 2 ^ (sz-1)=1:=mM o_ o_;rw[hq,Nat.one_mul];generalize 2 ^ (sz-1)=P1 at *;generalize 2 ^ sz=P2 at *;omega
   .have hq:V / 2 ^ (sz-1)=0:=Nat.div_eq_of_lt o_;rw[hq];generalize 2 ^ (sz-1)=P1 at *;generalize 2 ^ sz=P2 at *;omega
  .exact aaw hz c h
abbrev fAV (len order:Int)(down fine:Bool)(C:AV):AV:=.agg [A_ len,A_ order,B_ down,B_ fine,C]
def acw (b:C_)(hb:b.length<=1000000000)(X0:Obj)(i:ay)(fine:Bool)(st:RS)(x:Int)(N:Nat)(hN:2<=N)(hx:i64 x)(hs:st.e=0->x=st.a) :
  ∃(M:Nat) (x':Int),N<=M∧i64 x'∧
   ((12<tP b (bp i.short) (bE i.short) st∧((Bj b (bp i.short) (bE i.short) st).e=0->x'=(Bj b (bp i.short) (bE i.short) st).a)∧
    (Dn prog).call nP [.ptr 1 0,.agg i.cells,B_ fine] ⟨(0,X0)::(1,kW b st x)::[],N⟩=some (.tup [fAV (sV b st (bp i.short)) (tP b (bp i.short) (bE i.short) st) false fine .nl,B_ false],⟨(0,X0)::(1,kW b (Bj b (bp i.short) (bE i.short) st) x')::[],M⟩))∨
    (tP b (bp i.short) (bE i.short) st<=12∧((mD b (bp i.short) (bE i.short) fine st).e=0->x'=(mD b (bp i.short) (bE i.short) fine st).a)∧
    (Dn prog).call nP [.ptr 1 0,.agg i.cells,B_ fine] ⟨(0,X0)::(1,kW b st x)::[],N⟩=some (.tup [fAV (pW b (bp i.short) (bE i.short) fine st).len (pW b (bp i.short) (bE i.short) fine st).order (pW b (bp i.short) (bE i.short) fine st).down fine (share (ao 1 (am (pW b (bp i.short) (bE i.short) fine st).coefs))),B_ (!xA b (bp i.short) (bE i.short) fine st)],⟨(0,X0)::(1,kW b (mD b (bp i.short) (bE i.short) fine st) x')::[],M⟩))):=by
 obtain⟨n0,n1,m0,m1,p0,p1⟩:N≠0∧N≠1∧N+1≠0∧N+1≠1∧N+2≠0∧N+2≠1:=o_;have hfi:=LP i;have hxx:bp i.short<=6∧bE i.short<=5:=by unfold bp bE;cases i.short<;>decide
 have g1:=λR N=>wY b (bp i.short) st x X0 R N hb hx hs
 have x1f:=rH (st:=st) (s:=(bp i.short:Nat)) hb hx;have h1:=λh=>wR (b:=b) (st:=st) (x:=x) (s:=(bp i.short:Nat)) hs h
 have g2:=λR N=>wY b (bE i.short) (sN b st (bp i.short)) (rX b st x (bp i.short)) X0 R N hb x1f h1
 by_cases hO:12<tP b (bp i.short) (bE i.short) st
 .refine⟨N+3,rX b (sN b st (bp i.short)) (rX b st x (bp i.short)) (bE i.short),o_,rH hb x1f,.inl ⟨hO,λh=>wR h1 h,?_⟩⟩;have hsh:i.seq≠2:=by
   intro h;have hs:i.short=true:=by simp[ay.short,h]
   have v2:=jT (b:=b) (st:=sN b st (bp i.short)) (s:=(bE i.short:Nat));rw[hs]at v2 hO;have:tP b (bp true) (bE true) st<8:=v2;omega
  have hc:(i.seq:Int)≠2:=o_;have hO2:12<sV b (sN b st (bp i.short)) (bE i.short):=hO;have eO:tP b (bp i.short) (bE i.short) st=sV b (sN b st (bp i.short)) (bE i.short):=rfl;have eS:Bj b (bp i.short) (bE i.short) st=sN b (sN b st (bp i.short)) (bE i.short):=rfl;rw[eO,eS];simp only[ay.cells]at hfi⊢;generalize bp i.short=s1 at *;generalize bE i.short=s2 at *;rw[bN oc n9 rfl];simp(maxSteps:=9^6)(disch:=omega)[↓ac,↓aa,n0,n1,m0,m1,p0,p1,hfi,hc,g1,g2]
 by_cases hO0:tP b (bp i.short) (bE i.short) st=0
 .have eF:pW b (bp i.short) (bE i.short) fine st=⟨sV b st (bp i.short),0,false,fine,[]⟩:=by rw[pW,ac hO0]
  have eX:xA b (bp i.short) (bE i.short) fine st=false:=by rw[xA,ac hO0]
  have eN:mD b (bp i.short) (bE i.short) fine st=sN b (sN b st (bp i.short)) (bE i.short):=by rw[mD,ac hO0];rfl
  rw[eF,eX,eN];refine⟨N+3,rX b (sN b st (bp i.short)) (rX b st x (bp i.short)) (bE i.short),o_,rH hb x1f,.inr ⟨o_,λh=>wR h1 h,?_⟩⟩;have hO2:sV b (sN b st (bp i.short)) (bE i.short)=0:=hO0;simp only[ay.cells]at hfi⊢;clear hO hO0 eF eX eN;generalize bp i.short=s1 at *;generalize bE i.short=s2 at *;rw[bN oc n9 rfl];have n00:am []=[]:=rfl;rw[n00,c9];by_cases h:i.seq=2
  .have hc:(i.seq:Int)=2:=o_;rw[hc]at hfi⊢;simp(maxSteps:=9^6)(disch:=omega)[↓ac,↓aa,n0,n1,m0,m1,p0,p1,hfi,g1,g2,hO2]
  .have hc:(i.seq:Int)≠2:=o_;simp(maxSteps:=9^6)(disch:=omega)[↓ac,↓aa,n0,n1,m0,m1,p0,p1,hfi,hc,g1,g2,hO2]
 .have he:(sN b (sN b st (bp i.short)) (bE i.short)).e=0:=ac0 hO0;have hO12:sV b (sN b st (bp i.short)) (bE i.short)<=12:=by
   have:¬12<sV b (sN b st (bp i.short)) (bE i.short):=hO;omega
  have hO7:i.seq=2->sV b (sN b st (bp i.short)) (bE i.short)<=7:=λh=>by
   have hs:i.short=true:=by simp[ay.short,h]
   have v2:=jT (b:=b) (st:=sN b st (bp i.short)) (s:=(bE i.short:Nat));rw[hs]at v2⊢;have:sV b (sN b st (bp true)) (bE true)<8:=v2;omega
  have hw4:3<=iL fine∧iL fine<=4:=by unfold iL;split<;>omega
  have hneO:sV b (sN b st (bp i.short)) (bE i.short)≠0:=hO0;have h2:=λh=>wR (b:=b) (st:=sN b st (bp i.short)) (x:=rX b st x (bp i.short)) (s:=(bE i.short:Nat)) h1 h
  have x2f:=rH (st:=sN b st (bp i.short)) (s:=(bE i.short:Nat)) hb x1f;obtain⟨S2,hS2⟩:∃S2,S2=sN b (sN b st (bp i.short)) (bE i.short):=⟨_,rfl⟩
  obtain⟨y2,hy2⟩:∃y2,y2=rX b (sN b st (bp i.short)) (rX b st x (bp i.short)) (bE i.short):=⟨_,rfl⟩
  rw[<-hS2,<-hy2]at h2 g2;rw[<-hy2]at x2f;have g3:=λR N=>wY b 1 S2 y2 X0 R N hb x2f h2
  have h3:=λh=>wR (b:=b) (s:=1) h2 h
  have x3f:=rH (st:=S2) (s:=1) hb x2f;have g4:=λR N=>wY b 1 (sN b S2 1) (rX b S2 y2 1) X0 R N hb x3f h3
  have h4:=λh=>wR (b:=b) (s:=1) h3 h
  have x4f:=rH (st:=sN b S2 1) (s:=1) hb x3f;have v3:=jT (b:=b) (st:=S2) (s:=1);have v4:=jT (b:=b) (st:=sN b S2 1) (s:=1);have t1:(1:Int).toNat=1:=rfl;simp only[t1]at v3 v4;obtain⟨W,hW⟩:∃W,W=sV b (sN b S2 1) 1:=⟨_,rfl⟩
  obtain⟨Dd,hDd⟩:∃Dd,Dd=sV b S2 1:=⟨_,rfl⟩
  obtain⟨T4,hT4⟩:∃T4,T4=sN b (sN b S2 1) 1:=⟨_,rfl⟩
  obtain⟨y4,hy4⟩:∃y4,y4=rX b (sN b S2 1) (rX b S2 y2 1) 1:=⟨_,rfl⟩
  obtain⟨sz,hsz⟩:∃sz,sz=iL fine-W:=⟨_,rfl⟩
  have eS:Bj b (bp i.short) (bE i.short) st=S2:=hS2.symm;have eF:pW b (bp i.short) (bE i.short) fine st=⟨sV b st (bp i.short),sV b (sN b st (bp i.short)) (bE i.short),decide (Dd=1),fine,sY b sz (sV b (sN b st (bp i.short)) (bE i.short)) T4⟩:=by
   rw[pW,aa hO0,Ng,TV,PW,flD,eS,<-hW,<-hDd,<-hT4,<-hsz];rfl
  have eX:xA b (bp i.short) (bE i.short) fine st=(decide (W=0) && oC (sY b sz (sV b (sN b st (bp i.short)) (bE i.short)) T4) (sz-1)):=by
   rw[xA,aa hO0,Ng,TV,PW,eS,<-hW,<-hT4,<-hsz];rfl
  have eN:mD b (bp i.short) (bE i.short) fine st=tQ b sz (sV b (sN b st (bp i.short)) (bE i.short)) T4:=by
   rw[mD,aa hO0,Ng,TV,PW,eS,<-hW,<-hT4,<-hsz];rfl
  rw[eF,eX,eN];rw[<-hW]at v4 g4;rw[<-hDd]at v3 g3;rw[<-hT4,<-hy4]at g4 h4;rw[<-hy4]at x4f;have hL0:=λa0 a2 a3 nar z6=>amk b hb X0 z6 a0 a2 a3 nar sz (sV b (sN b st (bp i.short)) (bE i.short)) (N+1) (N+1+1) (N+1+1+1) o_ o_ o_ o_ (sV b (sN b st (bp i.short)) (bE i.short)) 0 T4 y4 [] o_ rfl x4f h4
  have n00:am []=[]:=rfl;have c0:((0:Nat):Int)=0:=rfl;simp only[n00,c9,aD,c0]at hL0;have hcl:=Mj (b:=b) (sz:=sz) (k:=sV b (sN b st (bp i.short)) (bE i.short)) (st:=T4);have hrg:=aaw (b:=b) (sz:=sz) o_ (k:=sV b (sN b st (bp i.short)) (bE i.short)) (st:=T4);refine⟨N+3,Ni b sz (sV b (sN b st (bp i.short)) (bE i.short)) T4 y4,o_,aaF hb x4f,.inr ⟨o_,λh=>adn h4 h,?_⟩⟩;clear eF eX eN hO hO0;generalize Ni b sz (sV b (sN b st (bp i.short)) (bE i.short)) T4 y4=y5 at *;generalize tQ b sz (sV b (sN b st (bp i.short)) (bE i.short)) T4=T5 at *;generalize sY b sz (sV b (sN b st (bp i.short)) (bE i.short)) T4=CS at *;have hshare:share (ao 1 (am CS))=.d (.lst (am CS)):=by
   cases CS with
   |nil=>simp at hcl;omega
   |cons x r=>rfl
  have hsizes:=abO fine (decide (W=1));have hszI:iL fine-alq (decide (W=1))=sz:=by
   rcases (show W=0∨W=1 by omega) with h|h<;>rw[hsz,h]<;>rfl
  rw[hszI]at hsizes;have hrI:∀c∈CS,i64 c:=λc hc=>by
   have h:=hrg c hc;have hp:2 ^ (sz-1)<=2 ^ 3:=aA o_ o_;generalize 2 ^ (sz-1)=P1 at *;exact⟨o_,o_⟩
  have hnar:=XG (sV b st (bp i.short)) (sV b (sN b st (bp i.short)) (bE i.short)) (decide (Dd=1)) fine CS o_ hrI;have hDec:decide ((Dd:Int)=1)=decide (Dd=1):=by rw[decide_eq_decide];omega
  have hWec:decide ((W:Int)=1)=decide (W=1):=by rw[decide_eq_decide];omega
  have hfin:(decide (W=1) == oC CS (iL fine-1))=!(decide (W=0) && oC CS (sz-1)):=by
   rcases (show W=0∨W=1 by omega) with h|h
   .subst h;have:sz=iL fine:=o_;rw[this];cases oC CS (iL fine-1)<;>rfl
   .subst h;have e:oC CS (iL fine-1)=true:=by
     unfold oC;rw[decide_eq_true_eq,show iL fine-1=sz by omega];exact hrg
    rw[e];rfl
  rw[hshare];simp only[ay.cells]at hfi⊢;clear hrg h1 h2 h3 h4 hrI;generalize oC CS (iL fine-1)=B1 at *;generalize oC CS (sz-1)=B2 at *;generalize sV b (sN b st (bp i.short)) (bE i.short)=O at *;generalize bp i.short=s1 at *;generalize bE i.short=s2 at *;rw[bN oc n9 rfl];clear hW hDd hS2 hT4 hy2 hy4 hsz;have hD2:Dd=0∨Dd=1:=o_;have bb:∀x y:Bool,Qh false (B_ x) (B_ y)=some (.bool (x == y)):=λx y=>by cases x<;>cases y<;>rfl
  have hW2:W=0∨W=1:=o_;by_cases h:i.seq=2
  .have hc:(i.seq:Int)=2:=o_;have:=hO7 h;rw[hc]at hfi⊢;rcases hD2 with rfl|rfl<;>rcases hW2 with rfl|rfl<;>cases B1<;>cases B2<;>simp at hL0 hsizes hnar hfin
   all_goals
    simp(maxSteps:=9^6)(disch:=omega)[↓ac,↓aa,n0,n1,m0,m1,p0,p1,hfi,g1,g2,g3,g4,hsizes,hL0,hshare,hnar,bb]
  .have hc:(i.seq:Int)≠2:=o_;rcases hD2 with rfl|rfl<;>rcases hW2 with rfl|rfl<;>cases B1<;>cases B2<;>simp at hL0 hsizes hnar hfin
   all_goals
    simp(maxSteps:=9^6)(disch:=omega)[↓ac,↓aa,n0,n1,m0,m1,p0,p1,hfi,hc,g1,g2,g3,g4,hsizes,hL0,hshare,hnar,bb]
def Vy {b:C_}{st:RS}{s:Int}(h:st.e≠0):sN b st s=st:=by rw[sN,aa h]
def aaH {b:C_}{x1 x2:Nat}{fine:Bool}{st:RS}(h:st.e≠0):∀(k:Nat) (o:Bool),∃l o2,gp b x1 x2 fine k o st=some (l,o2,st)
 |0,o=>⟨[],o,rfl⟩
 |k+1,o=>by
  have hO:tP b x1 x2 st=0:=by rw[tP,Vy h,ahE h]
  have hN:mD b x1 x2 fine st=st:=by rw[mD,ac hO,Bj,Vy h,Vy h]
  obtain⟨l,o2,q⟩:=aaH (fine:=fine) h k (o ||xA b x1 x2 fine st);exact⟨pW b x1 x2 fine st::l,o2,by rw[gp,aa o_,hN,q]⟩
abbrev qx (x13:AV)(y10 y15:D)(o:Bool)(X:List (Nat×AV)):List (Nat×AV):=(5,.ptr 0 0)::(9,.ptr 1 0)::(10,.d y10)::(13,x13)::(14,B_ o)::(15,.d y15)::X
def af7 (b:C_)(hb:b.length<=1000000000)(i:ay)(fine:Bool)(y10 y15:D)(x13:AV)(many:Nat)(hm:many<=3):∀(k j N:Nat) (o:Bool) (st:RS) (x:Int) (acc:AC_),j+k=many->acc.length=j->2<=N->i64 x->(st.e=0->x=st.a)->
  ∃(M:Nat) (x':Int) (O:Obj),N<=M∧i64 x'∧
  match gp b (bp i.short) (bE i.short) fine k o st with
  |none=>(Dn prog).code (.loop db) ⟨qx x13 y10 y15 o [(16,A_ many),(17,B_ fine),(18,ao 5 (gX acc)),(19,A_ j)],⟨[(0,.cells i.cells),(1,kW b st x)],N⟩⟩ =
    some (.ret,⟨[(6,.nl),(7,A_ 0),(8,A_ 8)],⟨[(1,O)],M⟩⟩)
  |some (l,o2,st2)=>(st2.e=0->x'=st2.a)∧(st2.e=0∨k=0->(Dn prog).code (.loop db) ⟨qx x13 y10 y15 o [(16,A_ many),(17,B_ fine),(18,ao 5 (gX acc)),(19,A_ j)],⟨[(0,.cells i.cells),(1,kW b st x)],N⟩⟩ =
    some (.exit 2,⟨qx x13 y10 y15 o2 [(18,ao 5 (gX (acc++l)))],⟨[(0,.cells i.cells),(1,kW b st2 x')],M⟩⟩))∧
    (st2.e≠0->k≠0->(Dn prog).code (.loop db) ⟨qx x13 y10 y15 o [(16,A_ many),(17,B_ fine),(18,ao 5 (gX acc)),(19,A_ j)],⟨[(0,.cells i.cells),(1,kW b st x)],N⟩⟩ =
    some (.ret,⟨[(6,.nl),(7,A_ 0),(8,A_ (re st2))],⟨[(1,O)],M⟩⟩)):=by
 intro k
 induction k with
 |zero =>
  intro j N o st x acc h1 h2 hN h3 h4;refine⟨N,x,.cells [],ai _,h3,?_⟩;rw[gp];refine⟨h4,λ_=>?_,λ_ h=>absurd rfl h⟩;rw[ba,ah jm];simp(maxSteps:=9^6)(disch:=omega)[↓ac,↓aa]
 |succ k ih =>
  intro j N o st x acc h1 h2 hN h3 h4;obtain⟨M,x',hM,hx',hF⟩:=acw b hb (.cells i.cells) i fine st x N hN h3 h4;obtain⟨n0,n1⟩:M≠0∧M≠1:=o_;have hla:=OY (l:=acc);have c1:((j+1:Nat):Int)=(j:Int)+1:=rfl;rcases hF with ⟨hO,hs,hF⟩|⟨hO,hs,hF⟩
  .have he:(Bj b (bp i.short) (bE i.short) st).e=0:=ac0 (by
    have:tP b (bp i.short) (bE i.short) st≠0:=o_;exact this)
   have hre:re (Bj b (bp i.short) (bE i.short) st)=0:=he;refine⟨M+1,x',kW b (Bj b (bp i.short) (bE i.short) st) x',o_,hx',?_⟩;rw[gp,ac ⟨hO,he⟩];simp only[kW];rw[ah jm];simp only[kW,ay.cells]at hF⊢;generalize tP b (bp i.short) (bE i.short) st=O at *;generalize Bj b (bp i.short) (bE i.short) st=T at *;simp(maxSteps:=9^6)(disch:=omega)[↓ac,↓aa,n0,n1,hF,hre]
  .obtain⟨C,hC⟩:∃C,C=share (ao 1 (am (pW b (bp i.short) (bE i.short) fine st).coefs)):=⟨_,rfl⟩
   have hC1:share C=C∧firm C=C∧nC C=C∧oD C=C∧BA C=some (.lst (am (pW b (bp i.short) (bE i.short) fine st).coefs))∧b9 C=true∧wx C=true∧AV.cells C=[C]:=by
    rw[hC]
    cases (pW b (bp i.short) (bE i.short) fine st).coefs with
    |nil=>exact⟨rfl,rfl,rfl,rfl,rfl,rfl,rfl,rfl⟩
    |cons c r=>exact⟨rfl,rfl,rfl,rfl,rfl,rfl,rfl,rfl⟩
   rw[<-hC]at hF;obtain⟨q1,q2,q3,q4,q5,q6,q7,q8⟩:=hC1;by_cases he:(mD b (bp i.short) (bE i.short) fine st).e=0
   .obtain⟨M2,x2,O2,hM2,hx2,h5⟩:=ih (j+1) (M+1) (o ||xA b (bp i.short) (bE i.short) fine st) (mD b (bp i.short) (bE i.short) fine st) x' (acc++[pW b (bp i.short) (bE i.short) fine st]) o_ g_ o_ hx' hs;refine⟨M2,x2,O2,o_,hx2,?_⟩;have hre:re (mD b (bp i.short) (bE i.short) fine st)=0:=he;have key:(Dn prog).code (.loop db) ⟨qx x13 y10 y15 o [(16,A_ many),(17,B_ fine),(18,ao 5 (gX acc)),(19,A_ j)],⟨[(0,.cells i.cells),(1,kW b st x)],N⟩⟩ =
      (Dn prog).code (.loop db) ⟨qx x13 y10 y15 (o ||xA b (bp i.short) (bE i.short) fine st) [(16,A_ many),(17,B_ fine),(18,ao 5 (gX (acc++[pW b (bp i.short) (bE i.short) fine st]))),(19,A_ ((j+1:Nat):Int))],⟨[(0,.cells i.cells),(1,kW b (mD b (bp i.short) (bE i.short) fine st) x')],M+1⟩⟩:=by
     clear h5 ih;simp only[c1,KN,dA,qx,kW];rw[ah jm];have hord:(pW b (bp i.short) (bE i.short) fine st).order<=12:=by
      unfold pW;split
      .show(0:Int)<=12;decide
      .show((tP b (bp i.short) (bE i.short) st:Nat):Int)<=12;omega
     have hF4:(pW b (bp i.short) (bE i.short) fine st).fine=fine:=by
      unfold pW;split<;>rfl
     simp only[kW,ay.cells]at hF⊢;generalize pW b (bp i.short) (bE i.short) fine st=F at *;generalize xA b (bp i.short) (bE i.short) fine st=B at *;generalize mD b (bp i.short) (bE i.short) fine st=T at *;obtain⟨F1,F2,F3,F4,F5⟩:=F;simp only at hord hF q5 hC hF4⊢;subst hF4
     cases o<;>cases B<;>simp(maxSteps:=9^6)(disch:=omega)[↓ac,↓aa,n0,n1,hF,hre,-b9,q1,q2,q3,q4,q5,q6,q7,q8]
    rw[key,gp,aa (λh=>by omega)]
    cases hfl:gp b (bp i.short) (bE i.short) fine k (o ||xA b (bp i.short) (bE i.short) fine st) (mD b (bp i.short) (bE i.short) fine st) with
    |none =>
     rw[hfl]at h5;exact h5
    |some q =>
     obtain⟨l,o2,st2⟩:=q;rw[hfl]at h5;obtain⟨g1,g2,g3⟩:=h5;refine⟨g1,λh=>?_,λh _=>?_⟩
     .have:=g2 o_;rw[this,aw];rfl
     .by_cases hk:k=0
      .subst hk;rw[gp]at hfl;injection hfl with hfl
       injection hfl with e1 hfl
       injection hfl with e2 e3
       rw[<-e3]at h;exact absurd he h
      .exact g3 h hk
   .obtain⟨l,o2,hfl⟩:=aaH (b:=b) (x1:=bp i.short) (x2:=bE i.short) (fine:=fine) he k (o ||xA b (bp i.short) (bE i.short) fine st);refine⟨M+1,x',kW b (mD b (bp i.short) (bE i.short) fine st) x',o_,hx',?_⟩;rw[gp,aa (λh=>by omega),hfl];refine⟨hs,λh=>by omega,λ_ _=>?_⟩;clear ih;have hre:re (mD b (bp i.short) (bE i.short) fine st)≠0:=by
     intro h;exact he (by unfold re at h;omega)
    simp only[qx,kW];rw[ah jm];simp only[kW,ay.cells]at hF⊢;generalize pW b (bp i.short) (bE i.short) fine st=F at *;generalize xA b (bp i.short) (bE i.short) fine st=B at *;generalize mD b (bp i.short) (bE i.short) fine st=T at *;obtain⟨F1,F2,F3,F4,F5⟩:=F;simp only at hF q5 hC⊢;generalize re T=E at *;simp(maxSteps:=9^6)(disch:=omega)[↓ac,↓aa,n0,n1,hF,hre,-b9,q1,q2,q3,q4,q5,q6,q7,q8]
def alA {b:C_}{x0:Nat}{st:RS}(h:st.e≠0):zP b x0 st=st:=by
 unfold zP;rw[ahE h,aa (Nat.lt_irrefl 0),Vy h]
def aaJ {b:C_}{x0 x1 x2:Nat}{st:RS}(h:st.e≠0):∀(k:Nat) (o:Bool),∃t o2,ng b x0 x1 x2 k o st=some (t,o2,st)
 |0,o=>⟨[],o,rfl⟩
 |k+1,o=>by
  obtain⟨t,o2,q⟩:=aaJ (x0:=x0) (x1:=x1) (x2:=x2) h k o;exact⟨[]::t,o2,by rw[ng,alA h,ahE h,gp];simp only[];rw[q]⟩
def ZX (b:C_)(x0:Nat)(st:RS)(x:Int):Int:=if 0<sV b st x0 then rX b (sN b st x0) (rX b st x x0) 1 else rX b st x x0
def ajl {b:C_}{x0:Nat}{st:RS}{x:Int}(hb:b.length<=1000000000)(h:i64 x):i64 (ZX b x0 st x):=by
 unfold ZX;split
 .exact rH hb (rH hb h)
 .exact rH hb h
def amS {b:C_}{x0:Nat}{st:RS}{x:Int}(h:st.e=0->x=st.a)(h2:(zP b x0 st).e=0):ZX b x0 st x=(zP b x0 st).a:=by
 unfold ZX;unfold zP at h2⊢;split
 .rename_i hp;rw[ac hp]at h2;exact wR (λh3=>wR h h3) h2
 .rename_i hp;rw[aa hp]at h2;exact wR h h2
def ags (b:C_)(hb:b.length<=1000000000)(i:ay):∀(k j N:Nat) (o:Bool) (st:RS) (x:Int) (acc:P_),j+k=i.many->acc.length=j->2<=N->i64 x->(st.e=0->x=st.a)->
  ∃(M:Nat) (x':Int) (O:Obj),N<=M∧i64 x'∧
  match ng b (dq i.short) (bp i.short) (bE i.short) k o st with
  |none=>(Dn prog).code (.loop cq) ⟨qx (ao 1 (bf acc)) (.int .i64 (dq i.short:Nat)) (.int .i64 j) o [],⟨[(0,.cells i.cells),(1,kW b st x)],N⟩⟩ =
    some (.ret,⟨[(6,.nl),(7,A_ 0),(8,A_ 8)],⟨[(1,O)],M⟩⟩)
  |some (t,o2,st2)=>(st2.e=0->x'=st2.a∧(Dn prog).code (.loop cq) ⟨qx (ao 1 (bf acc)) (.int .i64 (dq i.short:Nat)) (.int .i64 j) o [],⟨[(0,.cells i.cells),(1,kW b st x)],N⟩⟩ =
    some (.exit 0,⟨[(9,.ptr 1 0),(13,ao 1 (bf (acc++t))),(14,B_ o2)],⟨[(1,kW b st2 x')],M⟩⟩))∧
    (st2.e≠0->((Dn prog).code (.loop cq) ⟨qx (ao 1 (bf acc)) (.int .i64 (dq i.short:Nat)) (.int .i64 j) o [],⟨[(0,.cells i.cells),(1,kW b st x)],N⟩⟩ =
    some (.ret,⟨[(6,.nl),(7,A_ 0),(8,A_ (re st2))],⟨[(1,O)],M⟩⟩))∨∃V B,(Dn prog).code (.loop cq) ⟨qx (ao 1 (bf acc)) (.int .i64 (dq i.short:Nat)) (.int .i64 j) o [],⟨[(0,.cells i.cells),(1,kW b st x)],N⟩⟩ =
    some (.exit 0,⟨[(9,.ptr 1 0),(13,ao 1 (bf V)),(14,B_ B)],⟨[(1,kW b st2 x')],M⟩⟩)):=by
 have hM8:=(jH i).2;have hmany:=QG i;intro k
 induction k with
 |zero =>
  intro j N o st x acc h1 h2 hN h3 h4;refine⟨N,x,.cells [],ai _,h3,?_⟩;have key:(Dn prog).code (.loop cq) ⟨qx (ao 1 (bf acc)) (.int .i64 (dq i.short:Nat)) (.int .i64 j) o [],⟨[(0,.cells i.cells),(1,kW b st x)],N⟩⟩ =
    some (.exit 0,⟨[(9,.ptr 1 0),(13,ao 1 (bf acc)),(14,B_ o)],⟨[(1,kW b st x)],N⟩⟩):=by
   rw[ah js];simp only[ay.cells]at hmany⊢;generalize i.many=W at *;simp(maxSteps:=9^6)(disch:=omega)[↓ac,↓aa,hmany]
  rw[ng];refine⟨λh=>⟨h4 h,?_⟩,λ_=>.inr ⟨acc,o,key⟩⟩;rw[ba];exact key
 |succ k ih =>
  intro j N o st x acc h1 h2 hN h3 h4;have x1f:=rH (st:=st) (s:=(dq i.short:Nat)) hb h3;have e1:=λh=>wR (b:=b) (st:=st) (x:=x) (s:=(dq i.short:Nat)) h4 h
  have g1:=λR N=>wY b (dq i.short) st x (.cells i.cells) R N hb h3 h4
  have g2:=λR N=>wY b 1 (sN b st (dq i.short)) (rX b st x (dq i.short)) (.cells i.cells) R N hb x1f e1
  have v1:=jT (b:=b) (st:=st) (s:=(dq i.short:Nat));have v2:=jT (b:=b) (st:=sN b st (dq i.short)) (s:=1);have k0:dq i.short<=2:=by unfold dq;split<;>omega
  have k1:2 ^ (dq i.short)<=2 ^ 2:=aA o_ k0;have t1:(1:Int).toNat=1:=rfl;simp only[ax,t1]at v1 v2;have c1:((j+1:Nat):Int)=(j:Int)+1:=rfl;have c0:((0:Nat):Int)=0:=rfl;have n00:gX []=[]:=rfl;have hla:=EJ (t:=acc);have hwx:=ajl (x0:=dq i.short) (st:=st) hb h3;obtain⟨M1,x',O,hM1,hx',hL⟩:=af7 b hb i (Qn b (dq i.short) st) (.int .i64 (dq i.short:Nat)) (.int .i64 j) (ao 1 (bf acc)) (sV b st (dq i.short)) o_ (sV b st (dq i.short)) 0 N o (zP b (dq i.short) st) (ZX b (dq i.short) st x) [] o_ rfl hN hwx (λh=>amS h4 h);simp only[n00,c9,aD,c0]at hL;have hF:Qn b (dq i.short) st=(decide (0<sV b st (dq i.short)) && decide (sV b (sN b st (dq i.short)) 1=1)):=rfl;have hS:zP b (dq i.short) st=if 0<sV b st (dq i.short) then sN b (sN b st (dq i.short)) 1 else sN b st (dq i.short):=rfl
  have hX:ZX b (dq i.short) st x=if 0<sV b st (dq i.short) then rX b (sN b st (dq i.short)) (rX b st x (dq i.short)) 1 else rX b st x (dq i.short):=rfl
  rw[ng]
  cases hfl:gp b (bp i.short) (bE i.short) (Qn b (dq i.short) st) (sV b st (dq i.short)) o (zP b (dq i.short) st) with
  |none =>
   rw[hfl]at hL;refine⟨M1,x',O,hM1,hx',?_⟩;simp only[]at hL⊢;rw[ah js];rw[hF,hS,hX]at hL;simp only[ay.cells]at hL g1 g2 hmany⊢;generalize i.many=W at *;by_cases hp:0<sV b st (dq i.short)
   .rw[ac hp,ac hp,dT_ hp,kV]at hL;by_cases hd:sV b (sN b st (dq i.short)) 1=1
    .rw[dT_ hd]at hL;simp(maxSteps:=9^6)(disch:=omega)[↓ac,↓aa,hmany,g1,g2,hL]
    .rw[dF_ hd]at hL;simp(maxSteps:=9^6)(disch:=omega)[↓ac,↓aa,hmany,g1,g2,hL]
   .have h0:sV b st (dq i.short)=0:=o_;rw[aa hp,aa hp,dF_ hp,Bool.false_and,h0,c0]at hL;simp(maxSteps:=9^6)(disch:=omega)[↓ac,↓aa,hmany,g1,g2,h0,hL]
  |some q =>
   obtain⟨l,o2,st2⟩:=q;rw[hfl]at hL;obtain⟨q1,q2,q3⟩:=hL;by_cases hgo:st2.e=0∨sV b st (dq i.short)=0
   .have hL:=q2 hgo;obtain⟨M,x2,O2,hM,hx2,h5⟩:=ih (j+1) M1 o2 st2 x' (acc++[l]) o_ g_ o_ hx' q1;refine⟨M,x2,O2,o_,hx2,?_⟩;have key:(Dn prog).code (.loop cq) ⟨qx (ao 1 (bf acc)) (.int .i64 (dq i.short:Nat)) (.int .i64 j) o [],⟨[(0,.cells i.cells),(1,kW b st x)],N⟩⟩ =
      (Dn prog).code (.loop cq) ⟨qx (ao 1 (bf (acc++[l]))) (.int .i64 (dq i.short:Nat)) (.int .i64 ((j+1:Nat):Int)) o2 [],⟨[(0,.cells i.cells),(1,kW b st2 x')],M1⟩⟩:=by
     clear h5 ih q2 q3;simp only[c1,QU,dA,qx];rw[hF,hS,hX]at hL;rw[ah js];simp only[ay.cells,qx]at hL g1 g2 hmany⊢;generalize i.many=W at *;by_cases hp:0<sV b st (dq i.short)
     .rw[ac hp,ac hp,dT_ hp,kV]at hL;by_cases hd:sV b (sN b st (dq i.short)) 1=1
      .rw[dT_ hd]at hL;simp(maxSteps:=9^6)(disch:=omega)[↓ac,↓aa,hmany,g1,g2,hL]
      .rw[dF_ hd]at hL;simp(maxSteps:=9^6)(disch:=omega)[↓ac,↓aa,hmany,g1,g2,hL]
     .have h0:sV b st (dq i.short)=0:=o_;rw[aa hp,aa hp,dF_ hp,Bool.false_and,h0,c0]at hL;simp(maxSteps:=9^6)(disch:=omega)[↓ac,↓aa,hmany,g1,g2,h0,hL]
    rw[key];simp only[]
    cases hw:ng b (dq i.short) (bp i.short) (bE i.short) k o2 st2 with
    |none =>
     rw[hw]at h5;exact h5
    |some w =>
     obtain⟨t,o3,st3⟩:=w;rw[hw]at h5;simp only[aw,aI,aD]at h5⊢;exact h5
   .have hne:st2.e≠0:=λh=>hgo (.inl h)
    have hnz:sV b st (dq i.short)≠0:=λh=>hgo (.inr h)
    have hL:=q3 hne hnz;obtain⟨t,o3,hw⟩:=aaJ (b:=b) (x0:=dq i.short) (x1:=bp i.short) (x2:=bE i.short) hne k o2;refine⟨M1,x',O,hM1,hx',?_⟩;simp only[];rw[hw];refine⟨λh=>absurd h hne,λ_=>.inl ?_⟩;clear ih q1 q2 q3;rw[hF,hS,hX]at hL;rw[ah js];simp only[ay.cells,qx]at hL g1 g2 hmany⊢;generalize i.many=W at *;have hp:0<sV b st (dq i.short):=o_;rw[ac hp,ac hp,dT_ hp,kV]at hL;by_cases hd:sV b (sN b st (dq i.short)) 1=1
    .rw[dT_ hd]at hL;simp(maxSteps:=9^6)(disch:=omega)[↓ac,↓aa,hmany,g1,g2,hL]
    .rw[dF_ hd]at hL;simp(maxSteps:=9^6)(disch:=omega)[↓ac,↓aa,hmany,g1,g2,hL]
abbrev vJ:=@List.sum_cons
def aj1 (id:Nat):bl prog Lp [A_ id]=some (A_ (bh id)):=by
 rw[aM afe adr rfl];unfold bh;by_cases h:id<5
 .simp(disch:=omega)[↓ac]
 .simp(disch:=omega)[↓aa]
def rA (d hi:Nat):Nat->Nat->C_
 |0,_=>[]
 |f+1,x=>if x<hi then x::rA d hi f (x+d) else []
def yd (os:C_)(d b:Nat):Nat->Nat->C_
 |0,_=>[]
 |k+1,w=>(rA d (nth os (b+1)) 300 (nth os b)).map (λx=>w*32+x)++yd os d b k (w+1)
def tL (os:C_)(d n first:Nat):Nat->Nat->C_
 |0,_=>[]
 |k+1,b=>yd os d b n first++tL os d n first k (b+1)
def xL (os:C_)(n first:Nat):V_->Nat->O_
 |[],_=>[]
 |s::r,b=>(if s.book=0∨s.book=13 then [] else (tL os (bh s.book.toNat) n first s.len.toNat b).map λx=>(s.book.toNat,x))++xL os n first r (b+s.len.toNat)
def nz (os:C_):I_->G_->Nat->O_
 |l::r,n::g,first=>xL os n.toNat first l 0++nz os r g (first+n.toNat)
 |_,_,_=>[]
def jw {σ τ:Type}(st:Nat×Nat->σ->Sum σ τ):O_->σ->Sum σ τ
 |[],s=>.inl s
 |p::r,s=>match st p s with
  |.inl s=>jw st r s
  |.inr z=>.inr z
def By {σ τ:Type}{st:Nat×Nat->σ->Sum σ τ}:∀{l r:O_}{s:σ},jw st (l++r) s=match jw st l s with
  |.inl s=>jw st r s
  |.inr z=>.inr z
 |[],r,s=>rfl
 |p::l,r,s=>by
  rw[aI,jw,jw]
  cases st p s with
  |inl s=>simp only[By]
  |inr z=>rfl
def ON {σ τ:Type}(hp:σ->ak->ak)(hq:τ->ak->ak)(L l:Nat)(st:Nat×Nat->σ->Sum σ τ)(dW:O_->σ->Prop):Prop :=
 ∀p r s K o N,dW (p::r) s->L<=K->K<N->
  (∃s2 M,N<=M∧st p s=.inl s2∧dW r s2∧cW (Dn prog) (.yield l) [.agg [A_ (p.1:Int),A_ (p.2:Int),A_ ((p.2+bh p.1:Nat):Int)]] ⟨hp s [(K,o)],N⟩=some (B_ true,⟨hp s2 [(K,o)],M⟩))∨
  (∃z M,N<=M∧st p s=.inr z∧cW (Dn prog) (.yield l) [.agg [A_ (p.1:Int),A_ (p.2:Int),A_ ((p.2+bh p.1:Nat):Int)]] ⟨hp s [(K,o)],N⟩=some (B_ false,⟨hq z [(K,o)],M⟩))
structure PlS where
 l:Nat
 p2:Nat
 p3:Nat
 full:I_
 os:C_
abbrev eP (P:PlS)(first g b:Int)(r:aK):aK:=(0,.yield P.l)::(2,.ptr P.p2 0)::(3,.ptr P.p3 0)::(5,A_ first)::(6,A_ g)::(8,A_ b)::r
abbrev EP (P:PlS)(g:Int)(r:aK):aK:=(14,.d (.lst (aV P.full)))::(15,A_ P.full.length)::(16,A_ g)::r
abbrev LG (ls:V_)(k:Int):aK:=[(21,.d (.lst (dH ls))),(22,A_ ls.length),(23,A_ k)]
section
variable {σ τ:Type}{hp:σ->ak->ak}{hq:τ->ak->ak}{L:Nat}{P:PlS}{st:Nat×Nat->σ->Sum σ τ}{dW:O_->σ->Prop}
theorem anM (H:Tl hp L)(H2:Tl hq L)(hY:ON hp hq L P.l st dW)(hg3:∀s T,get (hp s T) P.p3=some (.cells [.own false 1 (aF P.os)]))(s0:be)(bk:Nat)(hbk:s0.book=bk)(hb1:1<=bk∧bk<=11)(b:Nat)(hb:b+1<P.os.length)(ho:P.os.length<=100)(hhi:nth P.os (b+1)<=256)(first g en gi k:Int)(w:Nat)(hw:w<=8)(ls:V_)(K:Nat)(hK:L<=K)(rest:O_):∀(f x N:Nat) (s:σ),nth P.os (b+1)<=x+f->x<=300->K<N->dW ((rA (bh bk) (nth P.os (b+1)) f x).map (λy=>(bk,w*32+y))++rest) s->
  (∃s2 M,N<=M∧jw st ((rA (bh bk) (nth P.os (b+1)) f x).map (λy=>(bk,w*32+y))) s=.inl s2∧dW rest s2∧
   (Dn prog).code (.loop kT) ⟨eP P first g b ((10,.ptr K 0)::(11,A_ en)::(12,A_ w)::(13,A_ x)::EP P gi (LG ls k)),⟨hp s [(K,.cells [A_ s0.book,A_ s0.len])],N⟩⟩ =
   some (.exit 8,⟨eP P first g b ((10,.ptr K 0)::(11,A_ en)::(12,A_ w)::EP P gi (LG ls k)),⟨hp s2 [(K,.cells [A_ s0.book,A_ s0.len])],M⟩⟩))∨
  (∃z M,N<=M∧jw st ((rA (bh bk) (nth P.os (b+1)) f x).map (λy=>(bk,w*32+y))) s=.inr z∧
   (Dn prog).code (.loop kT) ⟨eP P first g b ((10,.ptr K 0)::(11,A_ en)::(12,A_ w)::(13,A_ x)::EP P gi (LG ls k)),⟨hp s [(K,.cells [A_ s0.book,A_ s0.len])],N⟩⟩ =
   some (.ret,⟨[],⟨hq z [],M⟩⟩)):=by
 have hG:=λs o=>H.get s K o hK
 have hD2:=λs o=>H2.del s K o hK
 have hd4:bh bk<=4∧2<=bh bk:=by grind [bh]
 have hdim:=aj1 bk;have hgo:(aF P.os)[b+1]?=some [.int .i64 (nth P.os (b+1):Nat)]:=Ee hb;have hne:aF P.os≠[]:=d_;intro f
 induction f with
 |zero =>
  intro x N s h1 h2 hKN hi;refine .inl ⟨s,N,ai _,rfl,hi,?_⟩;rw[ah kQ];simp(disch:=omega)[↓aa,hg3,hgo]
 |succ f ih =>
  intro x N s h1 h2 hKN hi;by_cases hx:x<nth P.os (b+1)
  .rw[rA,ac hx,cT,aI]at hi;rw[rA,ac hx,cT,jw];have c1:((x+bh bk:Nat):Int)=(x:Int)+bh bk:=rfl;have c2:((w*32+x:Nat):Int)=(w:Int)*32+x:=o_;have c3:((w*32+x+bh bk:Nat):Int)=(w:Int)*32+x+bh bk:=o_;rcases hY (bk,w*32+x) _ s K (.cells [A_ s0.book,A_ s0.len]) N hi hK hKN with ⟨s2,M,hM,e1,e2,e3⟩|⟨z,M,hM,e1,e3⟩
   .rw[e1];simp only[c2,c3]at e3;have h9:=ih (x+bh bk) M s2 o_ o_ o_ e2;rw[c1]at h9;rw[hbk]at h9 e3⊢;rcases h9 with ⟨s3,M2,hM2,f1,f2,f3⟩|⟨z,M2,hM2,f1,f3⟩
    .refine .inl ⟨s3,M2,o_,f1,f2,?_⟩;rw[<-f3,ah kQ];simp(disch:=omega)[↓ac,hg3,hgo,hG,hdim,-qH,e3]
    .refine .inr ⟨z,M2,o_,f1,?_⟩;rw[<-f3,ah kQ];simp(disch:=omega)[↓ac,hg3,hgo,hG,hdim,-qH,e3]
   .rw[e1];simp only[c2,c3]at e3;rw[hbk]at e3⊢;refine .inr ⟨z,M,hM,rfl,?_⟩;rw[ah kQ];simp(disch:=omega)[↓ac,hg3,hgo,hG,hdim,-qH,e3,hD2]
  .rw[rA,aa hx]at hi;rw[rA,aa hx];refine .inl ⟨s,N,ai _,rfl,hi,?_⟩;rw[ah kQ];simp(disch:=omega)[↓aa,hg3,hgo]
theorem aoH (i:ay)(hil:i.groups.length<=1000)(H:Tl hp L)(H2:Tl hq L)(hY:ON hp hq L P.l st dW)(hg2:∀s T,get (hp s T) P.p2=some (.cells i.cells))(hg3:∀s T,get (hp s T) P.p3=some (.cells [.own false 1 (aF P.os)]))(s0:be)(bk:Nat)(hbk:s0.book=bk)(hb1:1<=bk∧bk<=11)(b:Nat)(hb:b+1<P.os.length)(ho:P.os.length<=100)(hhi:∀x∈P.os,x<=256)(first n g:Nat)(hgl:g<i.groups.length)(hn:nth i.groups g=n)(hfn:first+n<=8)(en gi k:Int)(ls:V_)(K:Nat)(hK:L<=K)(rest:O_):∀(j w N:Nat) (s:σ),w+j=first+n->K<N->dW ((yd P.os (bh bk) b j w).map (λy=>(bk,y))++rest) s->
  (∃s2 M,N<=M∧jw st ((yd P.os (bh bk) b j w).map (λy=>(bk,y))) s=.inl s2∧dW rest s2∧
   (Dn prog).code (.loop kY) ⟨eP P first g b ((10,.ptr K 0)::(11,A_ en)::(12,A_ w)::EP P gi (LG ls k)),⟨hp s [(K,.cells [A_ s0.book,A_ s0.len])],N⟩⟩ =
   some (.exit 6,⟨eP P first g b ((10,.ptr K 0)::(11,A_ en)::EP P gi (LG ls k)),⟨hp s2 [(K,.cells [A_ s0.book,A_ s0.len])],M⟩⟩))∨
  (∃z M,N<=M∧jw st ((yd P.os (bh bk) b j w).map (λy=>(bk,y))) s=.inr z∧
   (Dn prog).code (.loop kY) ⟨eP P first g b ((10,.ptr K 0)::(11,A_ en)::(12,A_ w)::EP P gi (LG ls k)),⟨hp s [(K,.cells [A_ s0.book,A_ s0.len])],N⟩⟩ =
   some (.ret,⟨[],⟨hq z [],M⟩⟩)):=by
 have hgo:(aF P.os)[b]?=some [.int .i64 (nth P.os b:Nat)]:=Ee o_;have hob:=hhi (nth P.os b) (jN o_);have hob1:=hhi (nth P.os (b+1)) (jN hb);simp only[ay.cells]at hg2;intro j
 induction j with
 |zero =>
  intro w N s h1 hKN hi;refine .inl ⟨s,N,ai _,rfl,hi,?_⟩;rw[ah ov];simp(disch:=omega)[↓aa,hg2,hn]
 |succ j ih =>
  intro w N s h1 hKN hi;have c1:((w+1:Nat):Int)=(w:Int)+1:=rfl;have em:(yd P.os (bh bk) b (j+1) w).map (λy=>(bk,y))=(rA (bh bk) (nth P.os (b+1)) 300 (nth P.os b)).map (λy=>(bk,w*32+y))++(yd P.os (bh bk) b j (w+1)).map (λy=>(bk,y)):=by
   simp_all [yd]
  rw[em]at hi⊢;rw[aw]at hi;rw[By];rcases anM H H2 hY hg3 s0 bk hbk hb1 b hb ho hob1 first g en gi k w o_ ls K hK _ 300 (nth P.os b) N s o_ o_ hKN hi with ⟨s2,M,hM,e1,e2,e3⟩|⟨z,M,hM,e1,e3⟩
  .rw[e1];have h9:=ih (w+1) M s2 o_ o_ e2;rcases h9 with ⟨s3,M2,hM2,f1,f2,f3⟩|⟨z,M2,hM2,f1,f3⟩
   .refine .inl ⟨s3,M2,o_,f1,f2,?_⟩;rw[<-f3,ah ov];simp(disch:=omega)[↓ac,hg2,hg3,hgo,hn,e3]
   .refine .inr ⟨z,M2,o_,f1,?_⟩;rw[<-f3,ah ov];simp(disch:=omega)[↓ac,hg2,hg3,hgo,hn,e3]
  .rw[e1];refine .inr ⟨z,M,hM,rfl,?_⟩;rw[ah ov];simp(disch:=omega)[↓ac,hg2,hg3,hgo,hn,e3]
theorem anQ (i:ay)(hil:i.groups.length<=1000)(H:Tl hp L)(H2:Tl hq L)(hY:ON hp hq L P.l st dW)(hg2:∀s T,get (hp s T) P.p2=some (.cells i.cells))(hg3:∀s T,get (hp s T) P.p3=some (.cells [.own false 1 (aF P.os)]))(s0:be)(bk:Nat)(hbk:s0.book=bk)(hb1:bk<=11∨bk=13)(ho:P.os.length<=100)(hhi:∀x∈P.os,x<=256)(first n g:Nat)(hgl:g<i.groups.length)(hn:nth i.groups g=n)(hfn:first+n<=8)(en:Nat)(hen:en<P.os.length)(gi k:Int)(ls:V_)(K:Nat)(hK:L<=K)(rest:O_):∀(j b N:Nat) (s:σ),b+j=en->K<N->dW ((if bk=0∨bk=13 then [] else (tL P.os (bh bk) n first j b).map (λy=>(bk,y)))++rest) s->
  (∃s2 M,N<=M∧jw st (if bk=0∨bk=13 then [] else (tL P.os (bh bk) n first j b).map (λy=>(bk,y))) s=.inl s2∧dW rest s2∧
   (Dn prog).code (.loop kR) ⟨eP P first g b ((10,.ptr K 0)::(11,A_ en)::EP P gi (LG ls k)),⟨hp s [(K,.cells [A_ s0.book,A_ s0.len])],N⟩⟩ =
   some (.exit 4,⟨eP P first g en (EP P gi (LG ls k)),⟨hp s2 [],M⟩⟩))∨
  (∃z M,N<=M∧jw st (if bk=0∨bk=13 then [] else (tL P.os (bh bk) n first j b).map (λy=>(bk,y))) s=.inr z∧
   (Dn prog).code (.loop kR) ⟨eP P first g b ((10,.ptr K 0)::(11,A_ en)::EP P gi (LG ls k)),⟨hp s [(K,.cells [A_ s0.book,A_ s0.len])],N⟩⟩ =
   some (.ret,⟨[],⟨hq z [],M⟩⟩)):=by
 have hG:=λs o=>H.get s K o hK
 have hD:=λs o=>H.del s K o hK
 intro j
 induction j with
 |zero =>
  intro b N s h1 hKN hi;have eb:b=en:=o_;subst eb;have e0:(if bk=0∨bk=13 then [] else (tL P.os (bh bk) n first 0 b).map (λy=>(bk,y)))=[]:=by split<;>rfl
  rw[e0]at hi⊢;refine .inl ⟨s,N,ai _,rfl,hi,?_⟩;rw[ah je];simp(disch:=omega)[↓aa,hD]
 |succ j ih =>
  intro b N s h1 hKN hi;have c1:((b+1:Nat):Int)=(b:Int)+1:=rfl;by_cases h0:bk=0∨bk=13
  .rw[ac h0]at hi⊢;have h9:=ih (b+1) N s o_ hKN u_;rw[ac h0,c1]at h9;rw[hbk]at h9⊢;rcases h9 with ⟨s3,M2,hM2,f1,f2,f3⟩|⟨z,M2,hM2,f1,f3⟩
   .refine .inl ⟨s3,M2,o_,f1,f2,?_⟩;rw[<-f3,ah je];rcases h0 with h0|h0<;>simp(disch:=omega)[↓ac,↓aa,hG]
   .refine .inr ⟨z,M2,o_,f1,?_⟩;rw[<-f3,ah je];rcases h0 with h0|h0<;>simp(disch:=omega)[↓ac,↓aa,hG]
  .rw[aa h0]at hi⊢;have em:(tL P.os (bh bk) n first (j+1) b).map (λy=>(bk,y))=(yd P.os (bh bk) b n first).map (λy=>(bk,y))++(tL P.os (bh bk) n first j (b+1)).map (λy=>(bk,y)):=by
    grind [tL]
   rw[em]at hi⊢;rw[aw]at hi;rw[By];rcases aoH i hil H H2 hY hg2 hg3 s0 bk hbk o_ b o_ ho hhi first n g hgl hn hfn en gi k ls K hK _ n first N s rfl hKN hi with ⟨s2,M,hM,e1,e2,e3⟩|⟨z,M,hM,e1,e3⟩
   .rw[e1];have h9:=ih (b+1) M s2 o_ o_ u_;rw[aa h0,c1]at h9;rw[hbk]at h9 e3⊢;rcases h9 with ⟨s3,M2,hM2,f1,f2,f3⟩|⟨z,M2,hM2,f1,f3⟩
    .refine .inl ⟨s3,M2,o_,f1,f2,?_⟩;rw[<-f3,ah je];simp(disch:=omega)[↓ac,↓aa,hG,e3]
    .refine .inr ⟨z,M2,o_,f1,?_⟩;rw[<-f3,ah je];simp(disch:=omega)[↓ac,↓aa,hG,e3]
   .rw[e1];refine .inr ⟨z,M,hM,rfl,?_⟩;rw[ah je];simp(disch:=omega)[↓ac,↓aa,hG,e3]
theorem ann (i:ay)(hil:i.groups.length<=1000)(H:Tl hp L)(H2:Tl hq L)(hY:ON hp hq L P.l st dW)(hg2:∀s T,get (hp s T) P.p2=some (.cells i.cells))(hg3:∀s T,get (hp s T) P.p3=some (.cells [.own false 1 (aF P.os)]))(ho:P.os.length<=100)(hhi:∀x∈P.os,x<=256)(first n g:Nat)(hgl:g<i.groups.length)(hn:nth i.groups g=n)(hfn:first+n<=8)(gi:Int)(ls:V_)(hls:ls.length<=1000)(rest:O_):∀(r:V_) (k b N:Nat) (lf:Int) (s:σ),ls.drop k=r->fitsS lf r->(b:Int)+lf<P.os.length->L<=N->dW (xL P.os n first r b++rest) s->
  (∃s2 M,N<=M∧jw st (xL P.os n first r b) s=.inl s2∧dW rest s2∧
   (Dn prog).code (.loop kO) ⟨eP P first g b (EP P gi (LG ls k)),⟨hp s [],N⟩⟩ =
   some (.exit 2,⟨(0,.yield P.l)::(2,.ptr P.p2 0)::(3,.ptr P.p3 0)::(5,A_ first)::(6,A_ g)::EP P gi [],⟨hp s2 [],M⟩⟩))∨
  (∃z M,N<=M∧jw st (xL P.os n first r b) s=.inr z∧
   (Dn prog).code (.loop kO) ⟨eP P first g b (EP P gi (LG ls k)),⟨hp s [],N⟩⟩ =
   some (.ret,⟨[],⟨hq z [],M⟩⟩)):=by
 intro r
 induction r with
 |nil =>
  intro k b N lf s hd hf hb hN hi;have hk:=fP hd;refine .inl ⟨s,N,ai _,rfl,hi,?_⟩;rw[ah ow];simp(disch:=omega)[↓aa]
 |cons s0 r ih =>
  intro k b N lf s hd hf hb hN hi;have hg:=Aw hd;have hlt:=eZ hd;obtain⟨⟨⟨l1,l2⟩,b1,b2⟩,hf2⟩:=hf;obtain⟨bk,hbk⟩:=az b1;have hbt:s0.book.toNat=bk:=o_;have hif:(s0.book=0∨s0.book=13)↔(bk=0∨bk=13):=o_;have em:xL P.os n first (s0::r) b=(if bk=0∨bk=13 then [] else (tL P.os (bh bk) n first s0.len.toNat b).map (λy=>(bk,y)))++xL P.os n first r (b+s0.len.toNat):=by
   grind [xL]
  rw[em]at hi⊢;rw[aw]at hi;rw[By];have hp1:=λs o=>H.put s N o hN
  have hp2:=λs o o'=>H.put2 s N o o' hN
  have hG:=λs o=>H.get s N o hN
  have c1:((k+1:Nat):Int)=(k:Int)+1:=rfl;have cE:((b+s0.len.toNat:Nat):Int)=(b:Int)+s0.len:=o_;rcases anQ i hil H H2 hY hg2 hg3 s0 bk hbk o_ ho hhi first n g hgl hn hfn (b+s0.len.toNat) o_ gi k ls N hN _ s0.len.toNat b (N+1) s rfl o_ hi with ⟨s2,M,hM,e1,e2,e3⟩|⟨z,M,hM,e1,e3⟩
  .rw[e1];have h9:=ih (k+1) (b+s0.len.toNat) M (lf-s0.len) s2 (ec hd) hf2 o_ o_ e2;rw[c1,cE]at h9;rw[cE]at e3;rcases h9 with ⟨s3,M2,hM2,f1,f2,f3⟩|⟨z,M2,hM2,f1,f3⟩
   .refine .inl ⟨s3,M2,o_,f1,f2,?_⟩;rw[<-f3,ah ow];simp(disch:=omega)[↓ac,hg,hp1,hp2,hG,e3]
   .refine .inr ⟨z,M2,o_,f1,?_⟩;rw[<-f3,ah ow];simp(disch:=omega)[↓ac,hg,hp1,hp2,hG,e3]
  .rw[e1];rw[cE]at e3;refine .inr ⟨z,M,o_,rfl,?_⟩;rw[ah ow];simp(disch:=omega)[↓ac,hg,hp1,hp2,hG,e3]
theorem aog (i:ay)(hil:i.groups.length<=1000)(H:Tl hp L)(H2:Tl hq L)(hY:ON hp hq L P.l st dW)(hg2:∀s T,get (hp s T) P.p2=some (.cells i.cells))(hg3:∀s T,get (hp s T) P.p3=some (.cells [.own false 1 (aF P.os)]))(ho:P.os.length<=100)(hhi:∀x∈P.os,x<=256)(m:Int)(hm:0<=m∧m<P.os.length)(hfl:P.full.length<=1000)(hlc:∀l∈P.full,l.length<=1000)(hgg:∀n∈i.groups,1<=n)(rest:O_):∀(r:I_) (q:G_) (g first N:Nat) (s:σ),P.full.drop g=r->i.groups.drop g=q->r.length=q.length->IL m r->(first:Int)+q.sum<=8->L<=N->dW (nz P.os r q first++rest) s->
  (∃s2 M,N<=M∧jw st (nz P.os r q first) s=.inl s2∧dW rest s2∧
   (Dn prog).code (.loop kP) ⟨(0,.yield P.l)::(2,.ptr P.p2 0)::(3,.ptr P.p3 0)::(5,A_ first)::EP P g [],⟨hp s [],N⟩⟩=some (.exit 0,⟨[],⟨hp s2 [],M⟩⟩))∨
  (∃z M,N<=M∧jw st (nz P.os r q first) s=.inr z∧
   (Dn prog).code (.loop kP) ⟨(0,.yield P.l)::(2,.ptr P.p2 0)::(3,.ptr P.p3 0)::(5,A_ first)::EP P g [],⟨hp s [],N⟩⟩=some (.ret,⟨[],⟨hq z [],M⟩⟩)):=by
 have hg2':=hg2;simp only[ay.cells]at hg2';intro r
 induction r with
 |nil =>
  intro q g first N s hd hd2 hl hf hs hN hi
  have hk:=fP hd;have hq0:q=[]:=d_;subst hq0;refine .inl ⟨s,N,ai _,rfl,hi,?_⟩;rw[ah oF];simp(disch:=omega)[↓aa]
 |cons l r ih =>
  intro q g first N s hd hd2 hl hf hs hN hi
  cases q with
  |nil=>simp at hl
  |cons n0 q =>
   have hg:=tM hd;have hlt:=eZ hd;have hlt2:=eZ hd2;have hn0:nth i.groups g=n0:=by
    grind [lZ]
   have hn1:=hgg n0 (by grind [jN]);obtain⟨n,hn⟩:=az (show 0<=n0 by omega);have hnt:n0.toNat=n:=o_;have hqs:0<=q.sum:=by
    have:∀x∈q,1<=x:=λx hx=>hgg x (by grind)
    have:=ni this;omega
   rw[vJ]at hs;have em:nz P.os (l::r) (n0::q) first=xL P.os n first l 0++nz P.os r q (first+n):=by rw[nz,hnt]
   rw[em]at hi⊢;rw[aw]at hi;rw[By];have hml:l∈P.full:=by rw[<-bM g P.full,hd];simp
   have c0:((0:Nat):Int)=0:=rfl;have c1:((g+1:Nat):Int)=(g:Int)+1:=rfl;have cF:((first+n:Nat):Int)=(first:Int)+n:=rfl;simp only[aE,Nat.add_right_cancel_iff]at hl;rcases ann i hil H H2 hY hg2 hg3 ho hhi first n g hlt2 o_ o_ g l (hlc l hml) _ l 0 0 N m s rfl (hf l (.head _)) o_ hN hi with ⟨s2,M,hM,e1,e2,e3⟩|⟨z,M,hM,e1,e3⟩
   .rw[e1];have h9:=ih q (g+1) (first+n) M s2 (ec hd) (ec hd2) hl (λx hx=>hf x (.tail _ hx)) o_ o_ e2;rw[c1,cF]at h9;rw[c0]at e3;rw[hn]at hn0;rcases h9 with ⟨s3,M2,hM2,f1,f2,f3⟩|⟨z,M2,hM2,f1,f3⟩
    .refine .inl ⟨s3,M2,o_,f1,f2,?_⟩;rw[<-f3,ah oF];simp(disch:=omega)[↓ac,hg,hg2',hn0,e3]
    .refine .inr ⟨z,M2,o_,f1,?_⟩;rw[<-f3,ah oF];simp(disch:=omega)[↓ac,hg,hg2',hn0,e3]
   .rw[e1];rw[c0]at e3;refine .inr ⟨z,M,hM,rfl,?_⟩;rw[ah oF];simp(disch:=omega)[↓ac,hg,e3]
end
def afL {σ τ:Type}{hp:σ->ak->ak}{hq:τ->ak->ak}{L:Nat}{P:PlS}{st:Nat×Nat->σ->Sum σ τ}{dW:O_->σ->Prop}(i:ay)(hi:i.Fit)(hm:i.may 11)(p1:Nat)(H:Tl hp L)(H2:Tl hq L)(hY:ON hp hq L P.l st dW)(hg1:∀s,get (hp s []) p1=some (.cells [.d (.lst (aV P.full))]))(hg2:∀s T,get (hp s T) P.p2=some (.cells i.cells))(hg3:∀s T,get (hp s T) P.p3=some (.cells [.own false 1 (aF P.os)]))(ho:P.os.length<=100)(hhi:∀x∈P.os,x<=256)(hmo:i.max<P.os.length)(hf:Aa i P.full)(N:Nat)(hN:L<=N)(s:σ)(hs:dW (nz P.os P.full i.groups 0) s) :
  (∃s2 M,N<=M∧jw st (nz P.os P.full i.groups 0) s=.inl s2∧dW [] s2∧(Dn prog).call jQ [.yield P.l,.ptr p1 0,.ptr P.p2 0,.ptr P.p3 0] ⟨hp s [],N⟩=some (.tup [],⟨hp s2 [],M⟩))∨
  (∃z M,N<=M∧jw st (nz P.os P.full i.groups 0) s=.inr z∧(Dn prog).call jQ [.yield P.l,.ptr p1 0,.ptr P.p2 0,.ptr P.p3 0] ⟨hp s [],N⟩=some (.tup [],⟨hq z [],M⟩)):=by
 have hmx:=ud hm;obtain⟨g1,g2⟩:=fu hm;have hmm:i.many<=8:=by grind [ay.many]
 have hgl:i.groups.length<=8:=by have:=ni (λn hn=>(g1 n hn).1);omega
 have hlc:∀l∈P.full,l.length<=1000:=λl hl=>by
  rcases VH (hf.2 l hl) with h|h<;>grind
 have hfl:=hf.1;have c0:((0:Nat):Int)=0:=rfl;have h:=aog i hi.len H H2 hY hg2 hg3 ho hhi i.max ⟨hmx.1,hmo⟩ o_ hlc (λn hn=>(g1 n hn).1) [] P.full i.groups 0 0 N s rfl rfl hfl hf.2 o_ hN u_;rw[c0]at h;rw[bN SK SJ rfl];rcases h with ⟨s2,M,hM,e1,e2,e3⟩|⟨z,M,hM,e1,e3⟩
 .refine .inl ⟨s2,M,hM,e1,e2,?_⟩;simp(disch:=omega)[hg1,e3]
 .refine .inr ⟨z,M,hM,e1,?_⟩;simp(disch:=omega)[hg1,e3]
def Qb (r:Nat)(hr:r<=11)(i:ay)(y:D)(H:ak)(N:Nat)(hL:Lt H N):(Dn prog).call KB [A_ r,.agg i.cells,.d y] ⟨H,N⟩=some (.fn jQ [] [.ptr (N+1) 0,.ptr N 0,.ptr (N+1+1) 0],⟨H++[(N,.cells i.cells)]++[(N+1,.cells [.d y])]++[(N+1+1,.cells [.own false 1 (aF (offs r i.short))])],N+1+1+1⟩):=by
 have hof:=DL r i.short;rw[ac o_]at hof;have L1:=aeQ (o:=.cells i.cells) hL;have L2:=aeQ (o:=.cells [.d y]) L1;have e1:=λo=>G6 (o:=o) hL
 have e2:=λo=>G6 (o:=o) L1
 have e3:=λo=>G6 (o:=o) L2
 have e4:=aiD (N:=N+1) (o:=.cells [.d y]) (Ml (o:=.cells i.cells) hL);have e5:=λo=>Ml (o:=o) L2
 have e6:=λo o'=>So (o:=o) (o':=o') L2
 have hsh:i.short=decide (i.seq=2):=rfl;rw[bN XE Yp rfl];simp only[ay.cells]at e1 e2 e3 e4 e5 e6⊢;by_cases hs2:i.seq=2
 .rw[dT_ hs2]at hsh;rw[hsh]at hof⊢;simp(disch:=omega)[↓ac,hof,e1,e2,e3,e4,e5,e6,-List.append_assoc]
 .rw[dF_ hs2]at hsh;rw[hsh]at hof⊢;simp(disch:=omega)[↓aa,hof,e1,e2,e3,e4,e5,e6,-List.append_assoc]
abbrev alO:D_:=[A_ 0,A_ 0,.nl,.nl]
abbrev jq (id:Nat):D_:=[A_ id,A_ (dh id),.own false 1 (aF (bG id)),.own false 1 (aF (dE id))]
def I8 (C:D_):Prop:=C.length=48∧∀id,id<12->sub C (4*id) 4=alO∨(1<=id∧sub C (4*id) 4=jq id)
theorem N8 {α:Type}{C:List α}{a k:Nat}(hk:k<4):(sub C a 4)[k]?=C[a+k]?:=by
 simp_all
def LF {α:Type}{C W:List α}{a:Nat}(hw:W.length=4)(ha:a+4<=C.length):sub (ar C a W) a 4=W:=by
 grind [sub,ar,List.drop_eq_nil_of_le]
def UZ {α:Type}{C W:List α}{a b:Nat}(hw:W.length=4)(ha:a+4<=C.length)(hb:b+4<=C.length)(h:b+4<=a∨a+4<=b):sub (ar C a W) b 4=sub C b 4:=by
 apply dz
 grind [N8,ar,sub]
def aaU {α:Type}{C W:List α}{a:Nat}(hw:W.length=4)(ha:a+4<=C.length):(ar C a W).length=C.length:=by
 grind [ar]
def af8 {C W:D_}{a:Nat}(ha:a+4<=C.length)(h:sub C a 4=W):ar C a W=C:=by
 subst h
 grind [ar,sub,List.take_append_drop]
def afl {C:D_}(h:I8 C){id:Nat}(hid:1<=id∧id<=11):I8 (ar C (4*id) (jq id)):=by
 refine⟨by rw[aaU rfl (by rw[h.1];omega)];exact h.1,λj hj=>?_⟩;by_cases e:j=id
 .subst e;exact .inr ⟨hid.1,LF rfl (by rw[h.1];omega)⟩
 .rw[UZ rfl (by rw[h.1];omega) (by rw[h.1];omega) o_];exact h.2 j hj
structure Bk (hp:D_->ak->ak)(A N:Nat):Prop where
 gA:∀C T,get (hp C T) A=some (.cells C)
 pA:∀C T C',put (hp C T) A (.cells C')=hp C' T
 pN:∀C o,put (hp C []) N o=hp C [(N,o)]
 pN2:∀C o o',put (hp C [(N,o)]) N o'=hp C [(N,o')]
 gN:∀C o,get (hp C [(N,o)]) N=some o
 dN:∀C o,del (hp C [(N,o)]) N=hp C []
def Tn {hp:D_->ak->ak}{A N:Nat}(H:Bk hp A N)(C:D_)(hC:I8 C)(id:Nat)(hid:1<=id∧id<=11):(Dn prog).call sM [.ptr A 0,A_ id] ⟨hp C [],N⟩=some (kr id,⟨hp (ar C (4*id) (jq id)) [],N+1⟩):=by
 have hb:=Xn id o_;have h48:=hC.1;have hia:∀p,EE 12 4 (.ptr p 0) (A_ id)=some (.ptr p (4*id)):=λp=>by
  grind [Sq,EE,nI,MD]
 rw[bN P9 PI rfl];rcases hC.2 id o_ with h0|⟨_,h1⟩
 .have e0:C[4*id]?=some (A_ 0):=by rw[<-c5 (4*id),<-N8 o_,h0];rfl
  obtain⟨hl0,e0⟩:=cK.1 e0;have hsm:=LF (C:=C) (W:=jq id) (a:=4*id) rfl o_;have hsl:=aaU (C:=C) (W:=jq id) (a:=4*id) rfl o_;simp(disch:=omega)[↓ac,H.gA,H.pA,H.pN,H.pN2,H.gN,H.dN,hia,e0,hb,-ar,-sub,-Je,-acP,hsm,hsl];simp
 .have e0:C[4*id]?=some (A_ id):=by rw[<-c5 (4*id),<-N8 o_,h1];rfl
  obtain⟨hl0,e0⟩:=cK.1 e0;rw[af8 o_ h1];simp(disch:=omega)[↓ac,↓aa,H.gA,H.pN,H.pN2,H.gN,H.dN,hia,e0,-ar,-sub,-Je,-acP,h1];simp
def R5 (l:AC_)(hl:l.length<=100000)(h:ak)(N:Nat):(Dn prog).call w7 [.d (.lst (gX l))] ⟨h,N⟩=some (B_ (decide (0<l.length)),⟨h,N⟩):=by
 rw[bN OC OV rfl];by_cases h0:0<l.length
 .rw[dT_ h0];simp(disch:=omega)[↓ac]
 .rw[dF_ h0];simp(disch:=omega)[↓aa]
def P5 (F:AV)(P:AC_->Bool)(l:P_)(hl:l.length<=1000000000)(h:ak)(N:Nat)(hF:firm (share F)=F)(hc:∀v∈l,cW (Dn prog) F [.d (.lst (gX v))] ⟨h,N⟩=some (B_ (P v),⟨h,N⟩)):∀(r:P_) (i:Nat),l.drop i=r->
  (r.any P=true∧∃k:Nat,(Dn prog).code (.loop dK) ⟨[(0,.d (.lst (bf l))),(1,F),(7,A_ l.length),(8,A_ i)],⟨h,N⟩⟩=some (.ret,⟨[(4,A_ k)],⟨h,N⟩⟩))∨
  (r.any P=false∧(Dn prog).code (.loop dK) ⟨[(0,.d (.lst (bf l))),(1,F),(7,A_ l.length),(8,A_ i)],⟨h,N⟩⟩=some (.exit 0,⟨[],⟨h,N⟩⟩)):=by
 intro r
 induction r with
 |nil =>
  intro i hd;have hi:=fP hd;refine .inr ⟨rfl,?_⟩;rw[ah ft];simp(disch:=omega)[↓aa]
 |cons v r ih =>
  intro i hd;have hg:=KK hd;have hlt:=eZ hd;have hv:=hc v (by rw[<-bM i l,hd];simp);have h5:=ih (i+1) (ec hd)
  cases hp:P v with
  |true =>
   rw[hp]at hv;refine .inl ⟨u_,i,?_⟩;rw[ah ft];simp(disch:=omega)[↓ac,hg,hF,hv]
  |false =>
   rw[hp]at hv;rw[vK,hp,Bool.false_or];rcases h5 with ⟨e1,k,e2⟩|⟨e1,e2⟩
   .refine .inl ⟨e1,k,?_⟩;rw[ah ft,<-e2];simp(disch:=omega)[↓ac,hg,hF,hv]
   .refine .inr ⟨e1,?_⟩;rw[ah ft,<-e2];simp(disch:=omega)[↓ac,hg,hF,hv]
def Qi (F:AV)(P:AC_->Bool)(l:P_)(hl:l.length<=1000000000)(h:ak)(N:Nat)(hF:firm (share F)=F)(hF2:firm F=F)(hc:∀v∈l,cW (Dn prog) F [.d (.lst (gX v))] ⟨h,N⟩=some (B_ (P v),⟨h,N⟩)) :
  (Dn prog).call nJ [.d (.lst (bf l)),F] ⟨h,N⟩=some (B_ (l.any P),⟨h,N⟩):=by
 have h1:=P5 F P l hl h N hF hc l 0 rfl;have c0:((0:Nat):Int)=0:=rfl;rw[c0]at h1;have h2:∃k:Int,(0<=k↔l.any P=true)∧(Dn prog).call qc [.d (.lst (bf l)),F] ⟨h,N⟩=some (A_ k,⟨h,N⟩):=by
  rcases h1 with ⟨e1,k,e2⟩|⟨e1,e2⟩
  .refine⟨k,⟨λ_=>e1,λ_=>by omega⟩,?_⟩;rw[bN qi qf rfl];simp(disch:=omega)[e2]
  .refine⟨-1,⟨λh=>by omega,λh=>by simp_all⟩,?_⟩;rw[bN qi qf rfl];simp(disch:=omega)[e2]
 obtain⟨k,e1,e2⟩:=h2;rw[bN yf yx rfl]
 cases hp:l.any P with
 |true =>
  have:=e1.2 hp;simp(disch:=omega)[↓ac,hF2,e2]
 |false =>
  have:¬0<=k:=λh=>by simp_all
  simp(disch:=omega)[↓aa,hF2,e2]
def lj (t:P_):Bool:=t.any λl=>decide (0<l.length)
def VD (t:P_)(ht:t.length<=100000)(ht2:∀l∈t,l.length<=100000):bl prog Ho [.d (.lst (bf t))]=some (B_ (lj t)):=by
 have h:=Qi (.fn w7 [] []) (λl=>decide (0<l.length)) t o_ [] 0 rfl rfl λv hv=>by
  simp_all [R5]
 rw[aM RB SV rfl];unfold lj;simp(disch:=omega)[h]
def abz (b:C_)(hb:b.length<=1000000000)(a:Int)(ha:i64 a)(i:ay):bl prog yJ [.d (.lst (aT b)),A_ a,.agg i.cells] =
  rK (pTn b i) (z4 b i a) (λt n=>some (.tup [ao 1 (bf t),A_ n,A_ 0])) (λe=>some (.tup [.nl,A_ 0,A_ (e+1)])):=by
 obtain⟨m1,m8⟩:=jH i;have hfi:=LP i;obtain⟨M,x',O,hM,hx',hL⟩:=ags b hb i i.many 0 2 false ⟨a,0⟩ a [] o_ rfl (ai _) ha (λ_=>rfl);have c0:((0:Nat):Int)=0:=rfl;have n0:bf []=[]:=rfl;have hre:re ⟨a,0⟩=0:=rfl;have hq0:ng b (dq i.short) (bp i.short) (bE i.short) i.many false ⟨a,0⟩=HG b i a:=rfl;rw[hq0]at hL;simp only[c0,n0,c9,aD,kW,qx,hre]at hL;have hp:=λt n=>Gl (b:=b) (i:=i) (a:=a) (t:=t) (n:=n) hb ha
 have hin0:∀t o st,HG b i a=some (t,o,st)->st.inB b:=λt o st h=>Mu (.inr ⟨rfl,m1⟩) h
 rw[z4]at hp⊢;rw[aM Il Iy rfl];simp only[ay.cells]at hL hfi⊢;generalize dq i.short=X0 at *;generalize bp i.short=X1 at *;generalize bE i.short=X2 at *
 cases hq:HG b i a with
 |none =>
  rw[hq]at hL;simp only at hL⊢;rw[dp];simp(maxSteps:=9^6)(disch:=omega)[↓ac,↓aa,hfi,hL]
 |some q =>
  obtain⟨t,o,st⟩:=q;rw[hq]at hL hp;simp only at hL hp⊢;have hin:=hin0 t o st hq;obtain⟨sa,se⟩:=st;by_cases he:se=0
  .subst he;obtain⟨k1,k2⟩:=hin;simp only at k1 k2;obtain⟨A,rfl⟩:=az k1;obtain⟨rfl,hL⟩:=hL.1 rfl;have hre2:re ⟨(A:Int),0⟩=0:=rfl;simp only[hre2,c0]at hL
   cases o with
   |true =>
    simp only[ne_eq,not_true_eq_false,bu,bK]at hp⊢;rw[dp];simp(maxSteps:=9^6)(disch:=omega)[↓ac,↓aa,hfi,hL]
   |false =>
    simp only[ne_eq,not_true_eq_false,bu,al]at hp⊢;have hpt:=hp t _ rfl;have htn:t≠[]:=λh=>by rw[h]at hpt;have:=hpt.1;simp at this;omega
    rw[bJ hpt];have hrt:=λh n e=>XS (h:=h) (n:=n) (e:=e) htn
    simp(maxSteps:=9^6)(disch:=omega)[↓ac,↓aa,hfi,hL,-um,hrt]
  .have hre2:re ⟨sa,se⟩=se:=rfl;have hse:((se-1:Nat):Int)+1=(se:Int):=o_;have hL:=hL.2 he;simp only[hre2]at hL;simp only[ne_eq,he,not_false_eq_true,bK]at hp⊢;rw[dp,hse];rcases hL with hL|⟨V,B,hL⟩
   .simp(maxSteps:=9^6)(disch:=omega)[↓ac,↓aa,hfi,hL,he]
   .simp(maxSteps:=9^6)(disch:=omega)[↓ac,↓aa,hfi,hL,he]
def agP {t:P_}{j:Nat}{l:AC_}(h:t[j]?=some l):(bf t)[j]?=some [.lst (gX l)]:=by
 simp[bf,h]
def abm (t:P_)(ht:t.length<=100000)(ht2:∀l∈t,l.length<=100000)(N:Nat):∀(r:P_) (j:Nat),t.drop j=r->
  (Dn prog).code (.loop jY) ⟨[(0,.d (.lst (bf t))),(3,A_ j)],⟨[],N⟩⟩ =
  if lj r=true then some (.ret,⟨[(2,B_ true)],⟨[],N⟩⟩) else some (.exit 0,⟨[],⟨[],N⟩⟩):=by
 intro r;have hla:=EJ (t:=t)
 induction r with
 |nil =>
  intro j hj;have hjl:t.length<=j:=aO.1 hj;rw[aa (by simp[lj]),ah wA];simp(maxSteps:=9^6)(disch:=omega)[↓ac,↓aa,hla]
 |cons c r ih =>
  intro j hj;have hjl:j<t.length:=by
   rcases bH j t.length with h|h
   .exact h
   .rw[aO.2 h]at hj;exact absurd hj (by simp)
  have hlj:t[j]?=some c:=by
   have:=aX (λl=>l[0]?) hj;simpa [cB] using this
  have hn:t.drop (j+1)=r:=by rw[<-cJ,hj];rfl
  have h5:=ih (j+1) hn;have c1:((j+1:Nat):Int)=(j:Int)+1:=rfl;rw[c1]at h5;have hg:=agP hlj;have hc:=ht2 c (by rw[<-bM j t,hj];simp);have hcl:=OY (l:=c);rw[ah wA];by_cases h0:c.length=0
  .have e:lj (c::r)=lj r:=by simp[lj,h0]
   rw[e,<-h5];simp(maxSteps:=9^6)(disch:=omega)[↓ac,↓aa,-getElem?_pos,hla,hg,hcl,h0]
  .have e:lj (c::r)=true:=by simp[lj];left;omega
   rw[ac e];simp(maxSteps:=9^6)(disch:=omega)[↓ac,↓aa,-getElem?_pos,hla,hg,hcl]
def ae2 (t:P_)(ht:t.length<=100000)(ht2:∀l∈t,l.length<=100000):bl prog zH [.d (.lst (bf t))]=some (B_ (lj t)):=by
 have h:=abm t ht ht2 0 t 0 rfl;have c0:((0:Nat):Int)=0:=rfl;rw[c0]at h;rw[aM Kg Kb rfl]
 cases ha:lj t with
 |true =>
  rw[ac ha]at h;simp(maxSteps:=9^6)(disch:=omega)[↓ac,↓aa,h]
 |false =>
  rw[aa (by rw[ha];simp)]at h;simp(maxSteps:=9^6)(disch:=omega)[↓ac,↓aa,h]
def YO (k:Nat)(hk:k<=100):bl prog xC [A_ k]=some (B_ (decide (0<k∧k<12))):=by
 rw[aM Gm Gd rfl];by_cases h1:0<k
 .by_cases h2:k<12
  .rw[dT_ ⟨h1,h2⟩];simp(maxSteps:=9^6)(disch:=omega)[↓ac,↓aa]
  .rw[dF_ (λh=>h2 h.2)];simp(maxSteps:=9^6)(disch:=omega)[↓ac,↓aa]
 .rw[dF_ (λh=>h1 h.1)];simp(maxSteps:=9^6)(disch:=omega)[↓ac,↓aa]
def Dh (b:C_)(i:ay)(a:Int):R (P_×Nat×Nat×Nat) :=
 (aN b a 1).bind λo n=>(aN b n 1).bind λs n=>(if s=1 then z4 b i n else R.ok (List.replicate i.many []) n).bind λF n=>(aN b n 1).bind λp n=>R.ok (F,o,s,p) n
def vN (F:P_)(o s p:Nat):Nat:=(if s=1∧lj F=false then 1 else o)+p
abbrev SE (x:R (P_×Nat×Nat×Nat)):L_:=match x with
 |.ok (F,o,s,p) n=>some (.tup [ao 1 (bf F),A_ (vN F o s p:Nat),A_ n,A_ 0])
 |.er e=>some (.tup [.nl,A_ 0,A_ 0,A_ (e+1)])
def Eh {b:C_}{a s:Int}(hb:b.length<=1000000000)(ha:i64 a){v n:Nat}(h:aN b a s=.ok v n):bl prog fh [.d (.lst (aT b)),A_ a,A_ s]=some (.tup [A_ v,A_ n,A_ 0]):=by
 rw[gB b a s hb ha,h,bJ (b3 h)]
def LI {b:C_}{a s:Int}(hb:b.length<=1000000000)(ha:i64 a){e:Nat}(h:aN b a s=.er e):bl prog fh [.d (.lst (aT b)),A_ a,A_ s]=some (.tup [A_ 0,A_ 0,A_ (e+1)]):=by
 rw[gB b a s hb ha,h,dp]
def TG {h:ak}{t:P_}{o n e:Int}:fq h (.tup [ao 1 (bf t),A_ o,A_ n,A_ e])=some (.tup [ao 1 (bf t),A_ o,A_ n,A_ e]):=by
 cases t with
 |nil=>rfl
 |cons x r=>rfl
def adR {n:Nat}:bf (List.replicate n [])=List.replicate n [.lst []]:=by simp[bf,gX]
def Za (b:C_)(hb:b.length<=1000000000)(a:Int)(ha:i64 a)(i:ay):bl prog pz [.d (.lst (aT b)),A_ a,.agg i.cells]=SE (Dh b i a):=by
 have hmany:=QG i;obtain⟨m1,m8⟩:=jH i;rw[aM Gf Ht rfl];unfold Dh
 cases e1:aN b a 1 with
 |er e =>
  have h1:=LI hb ha e1;simp only[cg];simp(maxSteps:=9^6)(disch:=omega)[↓ac,↓aa,h1,ay.cells]
 |ok o n1 =>
 have p1:=b3 e1;have h1:=Eh hb ha e1;have j1:i64 (n1:Int):=by have:=p1.2;omega
 rw[au]
 cases e2:aN b n1 1 with
 |er e =>
  have h2:=LI hb j1 e2;simp only[cg];simp(maxSteps:=9^6)(disch:=omega)[↓ac,↓aa,h1,h2,ay.cells]
 |ok s n2 =>
 have p2:=b3 e2;have h2:=Eh hb j1 e2;have j2:i64 (n2:Int):=by have:=p2.2;omega
 have l1:o<2:=p1.1;have l2:s<2:=p2.1;rw[au];have hc0:((0:Nat):Int)=0:=rfl;have hc1:((1:Nat):Int)=1:=rfl;have hmk:=xF (z:=[.lst []]) (n:=i.many) o_;by_cases hs:s=1
 .subst hs;rw[ac rfl];have hT:=abz b hb n2 j2 i
  cases e3:z4 b i n2 with
  |er e =>
   rw[e3,dp]at hT;simp only[cg];simp only[ay.cells,hc1]at *;generalize i.many=W at *;simp(maxSteps:=9^6)(disch:=omega)[↓ac,↓aa,h1,h2,hT,hmany,hmk]
  |ok F n3 =>
  have p3:=Gl hb j2 e3;rw[e3,bJ p3]at hT;have j3:i64 (n3:Int):=by have:=p3.2.1;omega
  have hA:=ae2 F (by have:=p3.1;omega) (λl hl=>by have:=(p3.2.2 l hl).1;omega);have hFn:F≠[]:=λh=>by rw[h]at p3;have:=p3.1;simp at this;omega
  have hsh:share (ao 1 (bf F))=.d (.lst (bf F)):=Gk (by cases F with|nil=>exact absurd rfl hFn|cons x r=>simp[bf]);rw[au]
  cases e4:aN b n3 1 with
  |er e =>
   have h4:=LI hb j3 e4;simp only[cg];simp only[ay.cells,hc1]at *;generalize i.many=W at *
   cases hAF:lj F<;>simp(maxSteps:=9^6)(disch:=omega)[↓ac,↓aa,h1,h2,hT,hmany,hmk,hA,hAF,hsh,h4]
  |ok p n4 =>
  have p4:=b3 e4;have l4:p<2:=p4.1;have h4:=Eh hb j3 e4;rw[au];simp only[ay.cells,hc1]at *;generalize i.many=W at *
  cases hAF:lj F with
  |false =>
   have ho:((vN F o 1 p:Nat):Int)=1+(p:Int):=by simp[vN,hAF]
   rw[hAF]at hA;simp only[SE,ho];simp(maxSteps:=9^6)(disch:=omega)[↓ac,↓aa,h1,h2,hT,hmany,hmk,hA,hsh,h4,-um,TG]
  |true =>
   have ho:((vN F o 1 p:Nat):Int)=(o:Int)+(p:Int):=by simp[vN,hAF]
   rw[hAF]at hA;simp only[SE,ho];simp(maxSteps:=9^6)(disch:=omega)[↓ac,↓aa,h1,h2,hT,hmany,hmk,hA,hsh,h4,-um,TG]
 .have hs0:s=0:=o_;subst hs0;rw[aa o_,au]
  cases e4:aN b n2 1 with
  |er e =>
   have h4:=LI hb j2 e4;simp only[cg];simp only[ay.cells,hc0]at *;generalize i.many=W at *;simp(maxSteps:=9^6)(disch:=omega)[↓ac,↓aa,h1,h2,hmany,hmk,h4]
  |ok p n4 =>
  have p4:=b3 e4;have l4:p<2:=p4.1;have h4:=Eh hb j2 e4;rw[au];have ho:((vN (List.replicate i.many []) o 0 p:Nat):Int)=(o:Int)+(p:Int):=by simp[vN]
  simp only[SE,ho];have hsh:ao 1 (bf (List.replicate i.many []))=.own false 1 (List.replicate i.many [.lst []]):=by
   rw[adR];exact fZ (λh=>by rw[List.replicate_eq_nil_iff]at h;omega)
  rw[hsh];simp only[ay.cells,hc0]at *;generalize i.many=W at *;simp(maxSteps:=9^6)(disch:=omega)[↓ac,↓aa,h1,h2,hmany,hmk,h4]
abbrev qe:=@Nat.add_sub_cancel_left
def aa1 {d hi:Nat}(hd:1<=d):∀{f lo x:Nat},(hi-lo) % d=0->x∈rA d hi f lo->lo<=x∧x+d<=hi∧(x-lo) % d=0
 |0,lo,x,_,h=>by simp[rA]at h
 |f+1,lo,x,hm,h=>by
  rw[rA]at h;by_cases h1:lo<hi
  .rw[ac h1]at h;have h2:lo+d<=hi:=by
    rcases bH (hi-lo) d with h3|h3
    .rw[Nat.mod_eq_of_lt h3]at hm;omega
    .omega
   rcases aQ.1 h with e|e
   .subst e;exact⟨ai _,h2,s_⟩
   .have h4:(hi-(lo+d)) % d=0:=by
     have:hi-lo=hi-(lo+d)+d:=o_;rw[this,Nat.add_mod_right]at hm;exact hm
    have ⟨a,b,c⟩:=aa1 hd h4 e;refine⟨o_,b,?_⟩;have:x-lo=x-(lo+d)+d:=o_;rw[this,Nat.add_mod_right];exact c
  .rw[aa h1]at h;simp at h
def aai {os:C_}{d b:Nat}:∀{k w y:Nat},y∈yd os d b k w->∃w' x,w<=w'∧w'<w+k∧x∈rA d (nth os (b+1)) 300 (nth os b)∧y=w'*32+x
 |0,w,y,h=>by simp[yd]at h
 |k+1,w,y,h=>by
  rw[yd,bq]at h;rcases h with h|h
  .obtain⟨x,hx,e⟩:=dt.1 h;exact⟨w,x,ai _,o_,hx,e.symm⟩
  .obtain⟨w',x,a,b,c,e⟩:=aai h;exact⟨w',x,o_,o_,c,e⟩
def aam {os:C_}{d n first:Nat}:∀{k b y:Nat},y∈tL os d n first k b->∃b',b<=b'∧b'<b+k∧y∈yd os d b' n first
 |0,b,y,h=>by simp[tL]at h
 |k+1,b,y,h=>by
  rw[tL,bq]at h;rcases h with h|h
  .exact⟨b,ai _,o_,h⟩
  .obtain⟨b',a,c,e⟩:=aam h;exact⟨b',o_,o_,e⟩
def Z9 {os:C_}{n first:Nat}:∀{r:V_}{b:Nat}{lf:Int}{p:Nat×Nat},fitsS lf r->p∈xL os n first r b->∃j,(bZ r)[j]?=some (p.1:Int)∧(1<=p.1∧p.1<=11)∧p.2∈yd os (bh p.1) (b+j) n first
 |[],b,lf,p,_,h=>by simp[xL]at h
 |s::r,b,lf,p,hf,h=>by
  obtain⟨⟨⟨l1,l2⟩,b1,b2⟩,hf2⟩:=hf;have eb:bZ (s::r)=List.replicate s.len.toNat s.book++bZ r:=by rw[bZ,ie];rfl
  rw[xL,bq]at h;rcases h with h|h
  .by_cases h0:s.book=0∨s.book=13
   .rw[ac h0]at h;simp at h
   .rw[aa h0]at h;obtain⟨y,hy,e⟩:=dt.1 h;subst e;obtain⟨b',c1,c2,c3⟩:=aam hy;refine⟨b'-b,?_,by simp only[];omega,by rw[show b+(b'-b)=b' by omega];exact c3⟩;rw[eb,df g_,List.getElem?_replicate,ac o_];simp only[ae];omega
  .obtain⟨j,a,c,e⟩:=Z9 hf2 h;refine⟨s.len.toNat+j,?_,c,by rw[<-bF];exact e⟩;rw[eb,fo s_,ca,qe];exact a
def aaL {os:C_}{m:Int}:∀{r:I_}{q:G_}{first:Nat}{p:Nat×Nat},IL m r->(∀n∈q,1<=n)->p∈nz os r q first->∃(w g j:Nat) (l:V_),r[g]?=some l∧first<=w∧(w:Int)<first+q.sum∧Vc q ((w:Int)-first)=g∧(bZ l)[j]?=some (p.1:Int)∧(1<=p.1∧p.1<=11)∧∃x∈rA (bh p.1) (nth os (j+1)) 300 (nth os j),p.2=w*32+x
 |[],q,first,p,_,_,h=>by simp[nz]at h
 |l::r,[],first,p,_,_,h=>by simp[nz]at h
 |l::r,n::q,first,p,hf,hn,h=>by
  have hn1:=hn n (.head _);have hqs:0<=q.sum:=by have:=ni λx hx=>hn x (.tail _ hx);omega
  rw[nz,bq]at h;rw[vJ];rcases h with h|h
  .obtain⟨j,a,c,e⟩:=Z9 (hf l (.head _)) h;rw[cQ]at e;obtain⟨w,x,e1,e2,e3,e4⟩:=aai e;refine⟨w,0,j,l,rfl,e1,o_,?_,a,c,x,e3,e4⟩;rw[Vc,ac o_]
  .obtain⟨w,g,j,l',e1,e2,e3,e4,e5,e6,e7⟩:=aaL (λx hx=>hf x (.tail _ hx)) (λx hx=>hn x (.tail _ hx)) h;refine⟨w,g+1,j,l',by simpa using e1,o_,o_,?_,e5,e6,e7⟩;rw[Vc,aa o_];have:(w:Int)-first-n=(w:Int)-((first+n.toNat:Nat):Int):=o_
   rw[this,e4]
def FB:∀x∈yX,((List.range ((offs x.1 x.2).length-1)).all λj=>decide (nth (offs x.1 x.2) j<nth (offs x.1 x.2) (j+1)) && decide ((nth (offs x.1 x.2) (j+1)-nth (offs x.1 x.2) j) % 4=0))=true∧nth (offs x.1 x.2) 0=0∧(offs x.1 x.2).all (λy=>decide (y<=cond x.2 32 256))=true:=e_
def sW:G_->Nat->G_
 |[],_=>[]
 |n::r,g=>List.replicate n.toNat (g:Int)++sW r (g+1)
def an6 (a0 a1 a2:AV)(gs:G_)(hgl:gs.length<=8)(g:Nat)(n:Int)(hg:(am gs)[g]?=some [.int .i64 n])(hgn:g<gs.length)(hn:0<=n∧n<=8)(N:Nat):∀(k j:Nat) (acc:G_),j+k=n.toNat->acc.length+k<=100->
  (Dn prog).code (.loop kz) ⟨[(1,.ptr 0 0),(3,ao 1 (am acc)),(4,A_ g),(5,A_ j)],⟨[(0,.cells [a0,a1,a2,.d (.lst (am gs))])],N⟩⟩ =
  some (.exit 2,⟨[(1,.ptr 0 0),(3,ao 1 (am (acc++List.replicate k (g:Int)))),(4,A_ g)],⟨[(0,.cells [a0,a1,a2,.d (.lst (am gs))])],N⟩⟩):=by
 have hla:=cx (l:=gs);intro k
 induction k with
 |zero =>
  intro j acc h1 h2;rw[ah xR,List.replicate_zero,ba];simp(maxSteps:=9^6)(disch:=omega)[↓ac,↓aa,-getElem?_pos,hla,hg]
 |succ k ih =>
  intro j acc h1 h2;have h5:=ih (j+1) (acc++[(g:Int)]) o_ g_;have c1:((j+1:Nat):Int)=(j:Int)+1:=rfl;have hlb:=cx (l:=acc);rw[c1,aw,za,dA]at h5;rw[ah xR,ep,show acc++(g:Int)::List.replicate k (g:Int)=acc++([(g:Int)]++List.replicate k (g:Int)) from rfl,<-h5];clear h5 ih;simp(maxSteps:=9^6)(disch:=omega)[↓ac,↓aa,-getElem?_pos,hla,hlb,hg]
def aox (a0 a1 a2:AV)(gs:G_)(hgl:gs.length<=8)(hgs:∀n∈gs,0<=n∧n<=8)(N:Nat):∀(r:G_) (g:Nat) (acc:G_),gs.drop g=r->acc.length+8*r.length<=64->
  (Dn prog).code (.loop kt) ⟨[(1,.ptr 0 0),(3,ao 1 (am acc)),(4,A_ g)],⟨[(0,.cells [a0,a1,a2,.d (.lst (am gs))])],N⟩⟩ =
  some (.exit 0,⟨[(3,ao 1 (am (acc++sW r g)))],⟨[(0,.cells [a0,a1,a2,.d (.lst (am gs))])],N⟩⟩):=by
 have hla:=cx (l:=gs);intro r
 induction r with
 |nil =>
  intro g acc hj _;have hjl:gs.length<=g:=aO.1 hj;rw[ah xw,sW,ba];simp(maxSteps:=9^6)(disch:=omega)[↓ac,↓aa,hla]
 |cons n r ih =>
  intro g acc hj ha;have hjl:g<gs.length:=by
   rcases bH g gs.length with h|h
   .exact h
   .rw[aO.2 h]at hj;exact absurd hj (by simp)
  have hg:=Db hj;have hn:=hgs n (by rw[<-bM g gs,hj];simp);have hdn:gs.drop (g+1)=r:=by rw[<-cJ,hj];rfl
  simp only[aE]at ha;have h0:=an6 a0 a1 a2 gs hgl g n hg hjl hn N n.toNat 0 acc o_ o_;have h5:=ih (g+1) (acc++List.replicate n.toNat (g:Int)) hdn g_;have c1:((g+1:Nat):Int)=(g:Int)+1:=rfl;have c0:((0:Nat):Int)=0:=rfl;rw[c1,aw]at h5;rw[c0]at h0;rw[sW,<-h5,ah xw];clear h5 ih;simp(maxSteps:=9^6)(disch:=omega)[↓ac,↓aa,-getElem?_pos,hla,h0]
def aa4:∀{l:G_}{g:Nat},(∀n∈l,0<=n)->((sW l g).length:Int)=l.sum
 |[],_,_=>rfl
 |n::r,g,h=>by
  have:=aa4 (l:=r) (g:=g+1) (λx hx=>h x (.tail _ hx));have:=h n (.head _);rw[sW,bt,ca,vJ];omega
def ag7 (i:ay)(hm:i.may 11):bl prog Bg [.agg i.cells]=some (WA (sW i.groups 0)):=by
 obtain⟨g1,g2⟩:=fu hm;have hmm:=jH i;have hsp:=ni (λn hn=>(g1 n hn).1);have h:=aox (.d (.int .u8 i.seq)) (.d (.int .u8 i.shape)) (A_ i.max) i.groups o_ (λn hn=>by have:=g1 n hn;omega) 1 i.groups 0 [] rfl g_;have c0:((0:Nat):Int)=0:=rfl;have n0:am []=[]:=rfl;rw[c0,n0,c9,aD]at h;rw[aM LD LB rfl];simp(maxSteps:=9^6)(disch:=omega)[↓ac,↓aa,h,ay.cells,Xg]
def acO (id:Nat)(h:1<=id∧id<=11):bl prog sk [A_ id]=some (A_ (bh id)):=by
 rw[aM Km J1 rfl];unfold bh;by_cases h5:id<5
 .rw[ac h5];simp(maxSteps:=9^6)(disch:=omega)[↓ac,↓aa]
 .rw[aa h5];simp(maxSteps:=9^6)(disch:=omega)[↓ac,↓aa]
def HD {d hi:Nat}:∀{f x:Nat},(rA d hi f x).length<=f
 |0,_=>ai _
 |f+1,x=>by
  rw[rA];split
  .have:=HD (d:=d) (hi:=hi) (f:=f) (x:=x+d);simp only[aE];omega
  .exact dr _
def xx (os:C_)(d b:Nat)(g:Int):G_->Nat->C_
 |[],_=>[]
 |x::r,w=>(if x=g then (rA d (nth os (b+1)) 300 (nth os b)).map (λx=>w*32+x) else [])++xx os d b g r (w+1)
def baQ (os:C_)(d:Nat)(g:Int)(IN:G_):Nat->Nat->C_
 |0,_=>[]
 |k+1,b=>xx os d b g IN 0++baQ os d g IN k (b+1)
def aas {os:C_}{d b:Nat}{g:Int}:∀{l:G_}{w:Nat},(xx os d b g l w).length<=300*l.length
 |[],_=>ai _
 |x::r,w=>by
  have h1:=aas (os:=os) (d:=d) (b:=b) (g:=g) (l:=r) (w:=w+1);have h2:=HD (d:=d) (hi:=nth os (b+1)) (f:=300) (x:=nth os b);rw[xx,bt];split
  .simp only[fj,aE];omega
  .simp only[ck,aE];omega
section
variable (os:C_)(id:Nat)(hid:1<=id∧id<=11)(ln:Nat)(g b0:Nat)(IN:G_)(N P:Nat)
abbrev TX (os:C_)(g b0:Nat)(P:Nat)(IN:G_)(acc:C_)(b:Nat)(X:aK):aK:=(2,A_ g)::(3,A_ b0)::(9,.ptr P 0)::(11,.own false 1 (aF os))::(12,.own false 1 (am IN))::(13,ao 1 (aF acc))::(14,A_ b)::X
abbrev plH (id:Nat)(ln:Nat)(P:Nat):ak:=[(P,.cells [A_ id,A_ ln])]
include hid
theorem amH (b b1 w:Nat)(hb1:b1=b+1)(hbl:b1<os.length)(hol:os.length<=1000)(hh:nth os b1<=256)(hw:w<=8):∀(f x:Nat) (acc:C_),nth os b1<=x+f->x<=1000->acc.length+f<=100000000->
  (Dn prog).code (.loop iA) ⟨TX os g b0 P IN acc b [(15,A_ w),(16,A_ x)],⟨plH id ln P,N⟩⟩ =
  some (.exit 4,⟨TX os g b0 P IN (acc++((rA (bh id) (nth os b1) f x).map λx=>w*32+x)) b [(15,A_ w)],⟨plH id ln P,N⟩⟩):=by
 have hd:2<=bh id∧bh id<=4:=by unfold bh;split<;>omega
 have hD:=acO id hid;have cb:(b:Int)+1=(b1:Int):=o_;intro f
 induction f with
 |zero =>
  intro x acc h1 h2 h3;rw[ah lk,rA,List.map_nil,ba];generalize bh id=dm at *;simp(maxSteps:=9^6)(disch:=omega)[↓ac,↓aa,cb]
 |succ f ih =>
  intro x acc h1 h2 h3;rw[rA];by_cases hx:x<nth os b1
  .rw[ac hx];have h5:=ih (x+bh id) (acc++[w*32+x]) o_ o_ g_;have c1:((x+bh id:Nat):Int)=(x:Int)+(bh id:Nat):=o_;have c2:((w*32+x:Nat):Int)=(w:Int)*32+x:=o_;simp only[TX]at h5⊢;rw[c1,aw,Lh,dA,c2]at h5;rw[cT,show acc++(w*32+x)::(rA (bh id) (nth os b1) f (x+bh id)).map (λx=>w*32+x)=acc++([w*32+x]++(rA (bh id) (nth os b1) f (x+bh id)).map (λx=>w*32+x)) from rfl,<-h5];clear h5 ih;generalize bh id=dm at *;have hlb:=t4 (l:=acc);rw[ah lk];simp(maxSteps:=9^6)(disch:=omega)[↓ac,↓aa,cb,hD]
  .rw[aa hx,List.map_nil,ba,ah lk];generalize bh id=dm at *;simp(maxSteps:=9^6)(disch:=omega)[↓ac,↓aa,cb]
theorem ams (b:Nat)(hbl:b+1<os.length)(hol:os.length<=1000)(hh:nth os (b+1)<=256)(hh0:nth os b<=256)(hI:IN.length<=8)(hIx:∀x∈IN,i64 x)(hg:g<=100):∀(r:G_) (w:Nat) (acc:C_),IN.drop w=r->acc.length+300*r.length<=10000000->
  (Dn prog).code (.loop ip) ⟨TX os g b0 P IN acc b [(15,A_ w)],⟨plH id ln P,N⟩⟩ =
  some (.exit 2,⟨TX os g b0 P IN (acc++xx os (bh id) b g r w) b [],⟨plH id ln P,N⟩⟩):=by
 have hla:=cx (l:=IN);intro r
 induction r with
 |nil =>
  intro w acc hj _;have hjl:IN.length<=w:=aO.1 hj;rw[ah lE,xx,ba];generalize bh id=dm at *;simp(maxSteps:=9^6)(disch:=omega)[↓ac,↓aa,hla]
 |cons n r ih =>
  intro w acc hj ha;have hjl:w<IN.length:=by
   rcases bH w IN.length with h|h
   .exact h
   .rw[aO.2 h]at hj;exact absurd hj (by simp)
  have hx:=Db hj;have hni:=hIx n (by rw[<-bM w IN,hj];simp);have hdn:IN.drop (w+1)=r:=by rw[<-cJ,hj];rfl
  simp only[aE]at ha;have c1:((w+1:Nat):Int)=(w:Int)+1:=rfl;rw[xx];by_cases hn:n=(g:Int)
  .rw[ac hn];have hfl:=HD (d:=bh id) (hi:=nth os (b+1)) (f:=300) (x:=nth os b);have h0:=amH os id hid ln g b0 IN N P b (b+1) w rfl hbl hol hh o_ 300 (nth os b) acc o_ o_ o_;have h5:=ih (w+1) (acc++(rA (bh id) (nth os (b+1)) 300 (nth os b)).map (λx=>w*32+x)) hdn g_;rw[c1,aw]at h5;rw[<-h5];clear h5 ih;generalize acc++(rA (bh id) (nth os (b+1)) 300 (nth os b)).map (λx=>w*32+x)=acc2 at *;rw[hn]at hx;rw[ah lE];generalize bh id=dm at *;simp(maxSteps:=9^6)(disch:=omega)[↓ac,↓aa,-getElem?_pos,hla,hx,h0]
  .rw[aa hn,aD];have h5:=ih (w+1) acc hdn o_;rw[c1]at h5;rw[<-h5];clear h5 ih;rw[ah lE];generalize bh id=dm at *;simp(maxSteps:=9^6)(disch:=omega)[↓ac,↓aa,-getElem?_pos,hla,hx]
theorem alP (hol:os.length<=1000)(hh:∀b,nth os b<=256)(hI:IN.length<=8)(hIx:∀x∈IN,i64 x)(hg:g<=100)(hlast:b0+ln<os.length):∀(k b:Nat) (acc:C_),b+k=b0+ln->acc.length+2400*k<=5000000->
  (Dn prog).code (.loop ir) ⟨TX os g b0 P IN acc b [],⟨plH id ln P,N⟩⟩ =
  some (.exit 0,⟨[(13,ao 1 (aF (acc++baQ os (bh id) g IN k b)))],⟨[],N⟩⟩):=by
 intro k
 induction k with
 |zero =>
  intro b acc h1 h2;rw[ah sU,baQ,ba];generalize bh id=dm at *;simp(maxSteps:=9^6)(disch:=omega)[↓ac,↓aa]
 |succ k ih =>
  intro b acc h1 h2;have hwl:=aas (os:=os) (d:=bh id) (b:=b) (g:=g) (l:=IN) (w:=0);have h0:=ams os id hid ln g b0 IN N P b o_ hol (hh _) (hh _) hI hIx hg IN 0 acc rfl o_;have h5:=ih (b+1) (acc++xx os (bh id) b g IN 0) o_ g_;have c1:((b+1:Nat):Int)=(b:Int)+1:=rfl;have c0:((0:Nat):Int)=0:=rfl;rw[c0]at h0;simp only[TX]at h0 h5⊢;rw[c1,aw]at h5;rw[baQ,<-h5];clear h5 ih;generalize acc++xx os (bh id) b g IN 0=acc2 at *;generalize bh id=dm at *;rw[ah sU];simp(maxSteps:=9^6)(disch:=omega)[↓ac,↓aa,h0]
end
abbrev wV:D_:=[.ptr 0 0,.ptr 5 0,.ptr 4 0,.ptr 6 0]
abbrev Wi:AV:=.fn FU [] [.ptr 0 0,.ptr 5 0,.ptr 6 0]
abbrev tg:D_:=[.fn wn [] wV,.fn lL [] [.ptr 3 0,.ptr 4 0,.ptr 2 0,.ptr 0 0,.ptr 5 0,.ptr 1 0,.ptr 6 0],.fn vS [] wV,.fn vU [] wV,.fn wa [] [.ptr 9 0,.ptr 7 0],.fn vW [] [.ptr 9 0,.ptr 8 0],.fn lH [] [.ptr 8 0,.ptr 0 0,.ptr 5 0,.ptr 4 0,.ptr 6 0],.fn wd [] [.ptr 7 0,.ptr 9 0]]
abbrev dF (b:C_)(r:Int)(q:Bool)(iv cs:D_)(nx e od is:Int):ak:=[(0,.cells [.d (.lst (aT b))]),(1,.cells [A_ r]),(2,.cells [B_ q]),(3,.cells iv),(4,.cells cs),(5,.cells [A_ nx]),(6,.cells [A_ e]),(7,.cells [A_ od]),(8,.cells [A_ is]),(9,.cells [Wi]),(10,.cells tg)]
def afq {m:Nat}{xs:F_}:oD (share (ao m xs))=share (ao m xs):=by cases xs<;>rfl
def Us (x:AV)(l:G_)(hl:l.length<=1000000000)(hx:elems [] x=some (am l)):bl prog zJ [x]=some (.own true 1 (am l)):=by
 have hl2:(am l).length=l.length:=cx;rw[aM JW Kl rfl];have h4:Nat.ble l.length 4294967296=true:=by rw[aU];omega
 rw[ic];simp(maxSteps:=9^6)(disch:=omega)[cj,Mh,hx,h4]
def Uh (i:ay)(hi:i.groups.length<=1000000):bl prog Fy [.agg i.cells]=some (.agg (FT i)):=by
 have h:=Us (.d (.lst (am i.groups))) i.groups o_ rfl;simp only[ay.cells];rw[aM ZS YC rfl];simp(maxSteps:=9^6)(disch:=omega)[↓ac,↓aa,h]
abbrev zI:D_:=[.d (.int .u8 0),.d (.int .u8 0),A_ 0,.nl]
def acx:bl prog Fy [.agg zI]=some (.agg (FT ⟨0,0,0,[]⟩)):=F9 400 (by kernel_rfl)
section
variable (b:C_)(r:Int)(q:Bool)(iv:D_)(nx od is:Int)(N:Nat)
theorem ajP (hq:q=true)(i:ay)(hi:i.groups.length<=1000000)(hiv:iv=i.cells)(a0 a1 a2 a3 a4 a5 a6 a7 a8:AV):(Dn prog).call lL [.ptr 3 0,.ptr 4 0,.ptr 2 0,.ptr 0 0,.ptr 5 0,.ptr 1 0,.ptr 6 0] ⟨dF b r q iv [a0,a1,a2,a3,a4,a5,a6,a7,a8] nx 0 od is,N⟩ =
  some (.tup [],⟨dF b r q iv [a0,.d (.int .u8 i.seq),.d (.int .u8 i.shape),A_ i.max,.own false 1 (am i.groups),a5,a6,a7,a8] nx 0 od is,N⟩):=by
 subst hq hiv;have h:=Uh i hi;simp only[ay.cells,FT]at h⊢;rw[bN NW NA rfl];simp(maxSteps:=9^6)(disch:=omega)[↓ac,↓aa,h]
theorem ajT (i:ay)(hi:i.Fit)(hm:i.may 11)(h1:is≠1)(a0 a5 a6 a7 a8:AV):(Dn prog).call lH [.ptr 8 0,.ptr 0 0,.ptr 5 0,.ptr 4 0,.ptr 6 0] ⟨dF b r q iv [a0,.d (.int .u8 i.seq),.d (.int .u8 i.shape),A_ i.max,.own false 1 (am i.groups),a5,a6,a7,a8] nx 0 od is,N⟩ =
  some (.tup [],⟨dF b r q iv [a0,.d (.int .u8 i.seq),.d (.int .u8 i.shape),A_ i.max,.own false 1 (am i.groups),a5,a6,.own false 1 (bf (List.replicate i.many [])),a8] nx 0 od is,N⟩):=by
 have hw:=DH i hi;rw[ac hm]at hw;have hmm:=jH i;have hk:=xF (z:=[.lst []]) (n:=i.many) o_;have e:List.replicate i.many [D.lst []]=bf (List.replicate i.many []):=by simp[bf,gX]
 rw[e]at hk;simp only[ay.cells]at hw;rw[bN Nu NZ rfl];simp(maxSteps:=9^6)(disch:=omega)[↓ac,↓aa,h1,hw,hk]
end
section
variable (b:C_)(hb:b.length<=1000000000)(r:Int)(q:Bool)(iv:D_)(nx od is:Int)(hn:i64 nx)(N:Nat)
include hb hn
theorem al6 (a0 a1 a2 a3 a4 a5 a6 a7 a8:AV):(Dn prog).call wn wV ⟨dF b r q iv [a0,a1,a2,a3,a4,a5,a6,a7,a8] nx 0 od is,N⟩ =
  rK (pG b 8) (aN b nx 8) (λv n=>some (.tup [],⟨dF b r q iv [A_ v,a1,a2,a3,a4,a5,a6,a7,a8] n 0 od is,N⟩)) (λe=>some (.tup [],⟨dF b r q iv [A_ 0,a1,a2,a3,a4,a5,a6,a7,a8] 0 (e+1) od is,N⟩)):=by
 have h:=gu b nx 8 hb hn;rw[bN Zr YS rfl];simp(maxSteps:=9^6)(disch:=omega)[↓ac,↓aa,h]
theorem abo (cs:D_):(Dn prog).call FU [.ptr 0 0,.ptr 5 0,.ptr 6 0] ⟨dF b r q iv cs nx 0 od is,N⟩ =
  rK (pG b 1) (aN b nx 1) (λv n=>some (A_ v,⟨dF b r q iv cs n 0 od is,N⟩)) (λe=>some (A_ 0,⟨dF b r q iv cs 0 (e+1) od is,N⟩)):=by
 have h:=gu b nx 1 hb hn;rw[bN Zx Zv rfl];simp(maxSteps:=9^6)(disch:=omega)[↓ac,↓aa,h]
theorem alE (cs:D_):(Dn prog).call wa [.ptr 9 0,.ptr 7 0] ⟨dF b r q iv cs nx 0 od is,N⟩ =
  rK (pG b 1) (aN b nx 1) (λv n=>some (.tup [],⟨dF b r q iv cs n 0 v is,N⟩)) (λe=>some (.tup [],⟨dF b r q iv cs 0 (e+1) 0 is,N⟩)):=by
 have h:=abo b hb r q iv nx od is hn N cs;rw[bN YD Y0 rfl];simp(maxSteps:=9^6)(disch:=omega)[↓ac,↓aa,h]
theorem ale (cs:D_):(Dn prog).call vW [.ptr 9 0,.ptr 8 0] ⟨dF b r q iv cs nx 0 od is,N⟩ =
  rK (pG b 1) (aN b nx 1) (λv n=>some (.tup [],⟨dF b r q iv cs n 0 od v,N⟩)) (λe=>some (.tup [],⟨dF b r q iv cs 0 (e+1) od 0,N⟩)):=by
 have h:=abo b hb r q iv nx od is hn N cs;rw[bN Zk ZC rfl];simp(maxSteps:=9^6)(disch:=omega)[↓ac,↓aa,h]
theorem alc (cs:D_)(ho:0<=od∧od<=1):(Dn prog).call wd [.ptr 7 0,.ptr 9 0] ⟨dF b r q iv cs nx 0 od is,N⟩ =
  rK (pG b 1) (aN b nx 1) (λv n=>some (.tup [],⟨dF b r q iv cs n 0 (Nd od v) is,N⟩)) (λe=>some (.tup [],⟨dF b r q iv cs 0 (e+1) od is,N⟩)):=by
 have h:=abo b hb r q iv nx od is hn N cs;rw[bN ZL YF rfl];simp(maxSteps:=9^6)(disch:=omega)[↓ac,↓aa,h];refine mf (λ_ _ h=>b3 h) (λv n e2 hp=>?_) λe e2=>by simp(maxSteps:=9^6)(disch:=omega)[Qw]
 have hv:v<2:=hp.1;simp(maxSteps:=9^6)(disch:=omega)[Qw]
theorem al9 (i:ay)(hi:i.Fit)(hm:i.may 11)(hg:i.groups≠[])(a0 a5 a6 a7 a8:AV):(Dn prog).call vS wV ⟨dF b r q iv [a0,.d (.int .u8 i.seq),.d (.int .u8 i.shape),A_ i.max,.own false 1 (am i.groups),a5,a6,a7,a8] nx 0 od is,N⟩ =
  rK (Jr b i.max.toNat i.groups.length) (lM b i nx) (λg n=>some (.tup [],⟨dF b r q iv [a0,.d (.int .u8 i.seq),.d (.int .u8 i.shape),A_ i.max,.own false 1 (am i.groups),ao 1 (aV g),a6,a7,a8] n 0 od is,N⟩)) (λe=>some (.tup [],⟨dF b r q iv [a0,.d (.int .u8 i.seq),.d (.int .u8 i.shape),A_ i.max,.own false 1 (am i.groups),.nl,a6,a7,a8] 0 (e+1) od is,N⟩)):=by
 have h:=afV b nx i hb hn hi hm;simp only[ay.cells]at h;rw[bN YI Zs rfl];simp(maxSteps:=9^6)(disch:=omega)[↓ac,↓aa,-b9,h]
theorem alo (g:Int)(hg:0<=g∧g<=255)(m:Int)(hm:0<=m∧m<=40)(S:I_)(hS:S≠[])(hl:S.length<=8)(hf:IL m S)(hf2:∀l∈S,l.length<=1000)(hok:∀l∈S,Ms l∧abl l)(a1 a2 a3 a4 a6 a7 a8:AV):(Dn prog).call vU wV ⟨dF b r q iv [A_ g,a1,a2,a3,a4,ao 1 (aV S),a6,a7,a8] nx 0 od is,N⟩ =
  rK (Ts b S) (pM b S nx g) (λt n=>some (.tup [],⟨dF b r q iv [A_ g,a1,a2,a3,a4,ao 1 (aV S),share (ao 1 (cf t)),a7,a8] n 0 od is,N⟩)) (λe=>some (.tup [],⟨dF b r q iv [A_ g,a1,a2,a3,a4,ao 1 (aV S),.nl,a7,a8] 0 (e+1) od is,N⟩)):=by
 have h:=ae0 b hb nx g m hn hg S hl hm hf hf2 hok;rw[bN YY YH rfl]
 cases S with
 |nil=>exact absurd rfl hS
 |cons s0 S0 =>
  have e:ao 1 (aV (s0::S0))=.own false 1 (aV (s0::S0)):=rfl;rw[e];simp(maxSteps:=9^6)(disch:=omega)[↓ac,↓aa,-b9,h,aad,afq,Xx,aa3,WF]
theorem Z6 (hq:q=false)(hr:de r)(i:ay)(hi:i.groups.length<=1000000)(hiv:iv=i.cells∨iv=zI)(a0 a1 a2 a3 a4 a5 a6 a7 a8:AV):(Dn prog).call lL [.ptr 3 0,.ptr 4 0,.ptr 2 0,.ptr 0 0,.ptr 5 0,.ptr 1 0,.ptr 6 0] ⟨dF b r q iv [a0,a1,a2,a3,a4,a5,a6,a7,a8] nx 0 od is,N⟩ =
  rK (pI b r.toNat) (np b nx r.toNat) (λj n=>some (.tup [],⟨dF b r q iv [a0,.d (.int .u8 j.seq),.d (.int .u8 j.shape),A_ j.max,.own false 1 (am j.groups),a5,a6,a7,a8] n 0 od is,N⟩)) (λe=>some (.tup [],⟨dF b r q iv [a0,.d (.int .u8 0),.d (.int .u8 0),A_ 0,.nl,a5,a6,a7,a8] 0 (e+1) od is,N⟩)):=by
 subst hq;have h:=Uh i hi;have h0:=acx;have hG:=ahu b nx r hb hn;rw[ac hr]at hG;rcases hiv with rfl|rfl
 all_goals
  simp only[ay.cells,FT,fy]at h hG⊢;rw[bN NW NA rfl];simp(maxSteps:=9^6)(disch:=omega)[↓ac,↓aa,h,h0,hG]
theorem Z7 (i:ay)(hi:i.Fit)(hm:i.may 11)(h1:is=1)(a0 a5 a6 a7 a8:AV):(Dn prog).call lH [.ptr 8 0,.ptr 0 0,.ptr 5 0,.ptr 4 0,.ptr 6 0] ⟨dF b r q iv [a0,.d (.int .u8 i.seq),.d (.int .u8 i.shape),A_ i.max,.own false 1 (am i.groups),a5,a6,a7,a8] nx 0 od is,N⟩ =
  rK (pTn b i) (z4 b i nx) (λt n=>some (.tup [],⟨dF b r q iv [a0,.d (.int .u8 i.seq),.d (.int .u8 i.shape),A_ i.max,.own false 1 (am i.groups),a5,a6,ao 1 (bf t),a8] n 0 od is,N⟩)) (λe=>some (.tup [],⟨dF b r q iv [a0,.d (.int .u8 i.seq),.d (.int .u8 i.shape),A_ i.max,.own false 1 (am i.groups),a5,a6,.nl,a8] 0 (e+1) od is,N⟩)):=by
 subst h1;have h:=ZF b hb nx hn i hi hm;simp only[ay.cells]at h;rw[bN Nu NZ rfl];simp(maxSteps:=9^6)(disch:=omega)[↓ac,↓aa,-b9,h]
end
abbrev Vd:D_:=[A_ 0,.d (.int .u8 0),.d (.int .u8 0),A_ 0,.nl,.nl,.nl,.nl,.nl]
abbrev RT (i:Int):aK:=[(5,.ptr 0 0),(7,.ptr 1 0),(10,.ptr 4 0),(11,.ptr 5 0),(12,.ptr 6 0),(13,.ptr 7 0),(14,.ptr 8 0),(60,.sl 10 0 8),(61,A_ 8),(62,A_ i)]
abbrev al4:aK:=[(5,.ptr 0 0),(7,.ptr 1 0),(10,.ptr 4 0),(11,.ptr 5 0),(12,.ptr 6 0),(13,.ptr 7 0),(14,.ptr 8 0)]
section
variable (b:C_)(r:Int)(q:Bool)(iv:D_)(N:Nat)
theorem ae4 {cs cs2:D_}{nx nx2 e0 od od2 is is2:Int}(i:Nat)(hi:i<8)(f:FuncId)(caps:D_)(hF:tg[i]?=some (.fn f [] caps))(hF2:firm (firm (firm (share (.fn f [] caps))))=.fn f [] caps)
  (h:(Dn prog).call f caps ⟨dF b r q iv cs nx 0 od is,N⟩=some (.tup [],⟨dF b r q iv cs2 nx2 0 od2 is2,N⟩)) :
  (Dn prog).code (.loop iX) ⟨RT i,⟨dF b r q iv cs nx e0 od is,N⟩⟩=(Dn prog).code (.loop iX) ⟨RT ((i+1:Nat):Int),⟨dF b r q iv cs2 nx2 0 od2 is2,N⟩⟩:=by
 have c1:((i+1:Nat):Int)=(i:Int)+1:=rfl;obtain⟨hlt,e⟩:=cK.1 hF;rw[c1,ah DF];simp(maxSteps:=9^6)(disch:=omega)[↓ac,↓aa,e,hF2,h]
theorem alu {cs:D_}{a0 a1 a2 a3 a4 a5 a6 a7 a8:AV}{nx nx2 e0 od od2 is is2:Int}(i:Nat)(hi:i<8)(f:FuncId)(caps:D_)(hF:tg[i]?=some (.fn f [] caps))(hF2:firm (firm (firm (share (.fn f [] caps))))=.fn f [] caps)(e:Nat)
  (h:(Dn prog).call f caps ⟨dF b r q iv cs nx 0 od is,N⟩=some (.tup [],⟨dF b r q iv [a0,a1,a2,a3,a4,a5,a6,a7,a8] nx2 ((e:Int)+1) od2 is2,N⟩)) :
  (Dn prog).code (.loop iX) ⟨RT i,⟨dF b r q iv cs nx e0 od is,N⟩⟩=some (.ret,⟨[(10,.ptr 4 0),(11,.ptr 5 0),(12,.ptr 6 0)],⟨dF b r q iv Vd 0 ((e:Int)+1) od2 is2,N⟩⟩):=by
 obtain⟨hlt,e1⟩:=cK.1 hF;rw[ah DF];simp(maxSteps:=9^6)(disch:=omega)[↓ac,↓aa,e1,hF2,h]
theorem ajG {cs:D_}{nx e0 od is:Int}:(Dn prog).code (.loop iX) ⟨RT 8,⟨dF b r q iv cs nx e0 od is,N⟩⟩=some (.exit 0,⟨al4,⟨dF b r q iv cs nx e0 od is,N⟩⟩):=by
 rw[ah DF];simp(maxSteps:=9^6)(disch:=omega)[↓ac,↓aa]
end
structure Hd where
 gain:Nat
 inf:ay
 S:I_
 T:R_
 F:P_
 od:Int
 is:Nat
def CV (b:C_)(a:Int)(r:Nat)(q:Bool)(i:ay):R Hd :=
 (aN b a 8).bind λg n=>(if q then R.ok i n else np b n r).bind λj n=>(lM b j n).bind λS n=>(pM b S n g).bind λT n =>
  (aN b n 1).bind λo n=>(aN b n 1).bind λs n=>(if s=1 then z4 b j n else R.ok (List.replicate j.many []) n).bind λF n=>(aN b n 1).bind λp n=>R.ok ⟨g,j,S,T,F,Nd o p,s⟩ n
abbrev Wx (H:Hd):D_:=[A_ H.gain,.d (.int .u8 H.inf.seq),.d (.int .u8 H.inf.shape),A_ H.inf.max,.own false 1 (am H.inf.groups),ao 1 (aV H.S),share (ao 1 (cf H.T)),ao 1 (bf H.F),.nl]
section
variable (b:C_)(r:Int)(q:Bool)(iv:D_)(N:Nat)
def OZ (e0:Int)(i:Nat)(cs:D_)(nx od is:Int)(x:R Hd):Prop :=
 (∀H n,x=.ok H n->(Dn prog).code (.loop iX) ⟨RT i,⟨dF b r q iv cs nx e0 od is,N⟩⟩=some (.exit 0,⟨al4,⟨dF b r q iv (Wx H) n 0 H.od H.is,N⟩⟩))∧
 (∀e,x=.er e->∃od2 is2,(Dn prog).code (.loop iX) ⟨RT i,⟨dF b r q iv cs nx e0 od is,N⟩⟩=some (.ret,⟨[(10,.ptr 4 0),(11,.ptr 5 0),(12,.ptr 6 0)],⟨dF b r q iv Vd 0 ((e:Int)+1) od2 is2,N⟩⟩))
theorem amF {e0:Int}{i:Nat}{cs cs2:D_}{nx nx2 od od2 is is2:Int}{x:R Hd}(hi:i<8)(f:FuncId)(caps:D_)(hF:tg[i]?=some (.fn f [] caps))(hF2:firm (firm (firm (share (.fn f [] caps))))=.fn f [] caps)
  (h:(Dn prog).call f caps ⟨dF b r q iv cs nx 0 od is,N⟩=some (.tup [],⟨dF b r q iv cs2 nx2 0 od2 is2,N⟩))(ho:OZ b r q iv N 0 (i+1) cs2 nx2 od2 is2 x):OZ b r q iv N e0 i cs nx od is x:=by
 refine⟨λH n e=>?_,λe h2=>?_⟩
 .rw[ae4 b r q iv N i hi f caps hF hF2 h];exact ho.1 H n e
 .rw[ae4 b r q iv N i hi f caps hF hF2 h];exact ho.2 e h2
theorem alh {e0:Int}{i:Nat}{cs:D_}{a0 a1 a2 a3 a4 a5 a6 a7 a8:AV}{nx nx2 od od2 is is2:Int}{e:Nat}(hi:i<8)(f:FuncId)(caps:D_)(hF:tg[i]?=some (.fn f [] caps))(hF2:firm (firm (firm (share (.fn f [] caps))))=.fn f [] caps)
  (h:(Dn prog).call f caps ⟨dF b r q iv cs nx 0 od is,N⟩=some (.tup [],⟨dF b r q iv [a0,a1,a2,a3,a4,a5,a6,a7,a8] nx2 ((e:Int)+1) od2 is2,N⟩)):OZ b r q iv N e0 i cs nx od is (.er e):=by
 refine⟨λH n h2=>absurd h2 s_,λe' h2=>?_⟩
 grind [alu]
end
def If {b:C_}{i:ay}{g:I_}{n:Nat}(hm:i.may 11)(h:Jr b i.max.toNat i.groups.length g n) :
  g≠[]∧g.length<=8∧Aa i g∧(∀l∈g,l.length<=100)∧∀l∈g,Ms l∧abl l:=by
 obtain⟨h1,h2,h3⟩:=h;have hmx:=ud hm;obtain⟨q1,q2⟩:=fu hm;have hmm:=jH i;have hgl:i.groups.length<=8:=by have:=ni (λn hn=>(q1 n hn).1);omega
 have hgn:i.groups≠[]:=λh=>by grind
 have hg1:=bm.2 hgn;have hmc:((i.max.toNat:Nat):Int)=i.max:=Int.toNat_of_nonneg hmx.1;have hf:∀l∈g,fitsS i.max l:=λl hl=>by simp_all
 refine⟨λh=>by simp_all,o_,⟨h3,hf⟩,λl hl=>by grind,λl hl=>⟨⟨d_,λs hs=>?_⟩,agD (hf l hl)⟩⟩;have:=Qr (hf l hl) o_ s hs;omega
def dR {α β:Type}{x:R α}{f:α->Nat->R β}{v:β}{n:Nat}(h:x.bind f=.ok v n):∃u m,x=.ok u m∧f u m=.ok v n:=by
 cases x with
 |ok u m=>exact⟨u,m,rfl,h⟩
 |er e=>simp_all
def XU {α:Type}{c:Prop}[Decidable c]{v w:α}{n m:Nat}(h:SD c v n=.ok w m):c∧v=w∧n=m:=by
 grind [SD]
def abj {b:C_}:∀{k a:Nat}{l:C_}{n:Nat},a<=b.length->iH b k a=.ok l n->n<=b.length
 |0,a,l,n,ha,h=>by
  grind [iH]
 |k+1,a,l,n,ha,h=>by
  obtain⟨v,m,h1,h⟩:=dR h;obtain⟨l2,m2,h2,h⟩:=dR h;have:=abj (b3 h1).2 h2
  simp_all
theorem Ua {b:C_}{a:Int}{r:Nat}(hr:r<=11){i:ay}{n:Nat}(h:np b a r=.ok i n):pI b r i n:=by
 obtain⟨o,n1,h1,h⟩:=dR h;obtain⟨q,n2,h2,h⟩:=dR h;obtain⟨s,n3,h3,h⟩:=dR h;have key:i.may r∧n<=b.length:=by
  split at h
  .obtain⟨m,n4,h4,h⟩:=dR h;obtain⟨l,n5,h5,h⟩:=dR h;obtain⟨hc,e1,e2⟩:=XU h;have:=abj (b3 h4).2 h5
   simp_all
  .obtain⟨m,n4,h4,h⟩:=dR h;obtain⟨p,n5,h5,h⟩:=dR h;obtain⟨hc,e1,e2⟩:=XU h;have:=(b3 h5).2
   simp_all
 obtain⟨g1,g2⟩:=fu (kZ hr key.1);have hmm:=jH i;exact⟨key.1,key.2,by have:=ni (λn hn=>(g1 n hn).1);omega⟩
structure pHd (b:C_)(r:Nat)(H:Hd)(n:Nat):Prop where
 gain:H.gain<=255
 fit:H.inf.Fit
 may:H.inf.may r
 S:Aa H.inf H.S
 Sl:∀l∈H.S,l.length<=100
 T:H.T.map List.length=H.S.map (λl=>(bZ l).length)
 F:H.F.length=H.inf.many∧∀l∈H.F,l.length<=3∧∀f∈l,f.coefs.length<=12
 od:0<=H.od∧H.od<=1
 is:H.is<=1
 n:n<=b.length
theorem Z8 {r:Nat}{i:ay}(hr:r<=11)(h:i.may r)(hl:i.groups.length<=100):i.Fit:=by
 have h11:=kZ hr h;have hmx:=ud h11;obtain⟨g1,g2⟩:=fu h11;exact⟨by have:=h.1;omega,by have:=h.2.1;omega,o_,o_,λn hn=>by grind⟩
abbrev QX (b:C_)(r:Nat)(x:R Hd):Prop:=∀H n,x=.ok H n->pHd b r H n
def xB {b:C_}{r:Int}{q:Bool}{iv:D_}{N R0:Nat}{e0:Int}{i:Nat}{cs cs2:D_}{nx nx2 od od2 is is2:Int}{x:R Hd}(hi:i<8)(f:FuncId)(caps:D_)(hF:tg[i]?=some (.fn f [] caps))(hF2:firm (firm (firm (share (.fn f [] caps))))=.fn f [] caps)
  (h:(Dn prog).call f caps ⟨dF b r q iv cs nx 0 od is,N⟩=some (.tup [],⟨dF b r q iv cs2 nx2 0 od2 is2,N⟩))(ho:OZ b r q iv N 0 (i+1) cs2 nx2 od2 is2 x∧QX b R0 x):OZ b r q iv N e0 i cs nx od is x∧QX b R0 x :=
 by grind [amF]
def xJ {b:C_}{r:Int}{q:Bool}{iv:D_}{N R0:Nat}{e0:Int}{i:Nat}{cs:D_}{a0 a1 a2 a3 a4 a5 a6 a7 a8:AV}{nx nx2 od od2 is is2:Int}{e:Nat}(hi:i<8)(f:FuncId)(caps:D_)(hF:tg[i]?=some (.fn f [] caps))(hF2:firm (firm (firm (share (.fn f [] caps))))=.fn f [] caps)
  (h:(Dn prog).call f caps ⟨dF b r q iv cs nx 0 od is,N⟩=some (.tup [],⟨dF b r q iv [a0,a1,a2,a3,a4,a5,a6,a7,a8] nx2 ((e:Int)+1) od2 is2,N⟩)):OZ b r q iv N e0 i cs nx od is (.er e)∧QX b R0 (.er e) :=
 by grind [alh]
def Lk {b:C_}{i:ay}{a:Int}{g:I_}{n:Nat}(h:lM b i a=.ok g n):Jr b i.max.toNat i.groups.length g n:=by
 rw[lM]at h;split at h
 .exact FW o_ h
 simp_all
def Wu {b:C_}{g:I_}{a gain:Int}(hg:0<=gain∧gain<=255){t:R_}{n:Nat}(h:pM b g a gain=.ok t n):Ts b g t n:=by
 rw[pM]at h;split at h
 .rename_i ha;obtain⟨A,rfl⟩:=az ha.1;exact Dq o_ ⟨o_,o_⟩ ⟨o_,o_⟩ h
 simp_all
def Hv (b:C_)(hb:b.length<=1000000000)(r:Int)(hr:de r)(q:Bool)(i:ay)(hi:i.Fit)(iv:D_)(hiv:iv=i.cells∨q=false∧iv=zI)(hq:q=true->i.may r.toNat)(nx:Int)(hn:i64 nx)(e0:Int)(N:Nat) :
  OZ b r q iv N e0 0 Vd nx 0 0 (CV b nx r.toNat q i)∧QX b r.toNat (CV b nx r.toNat q i):=by
 have hR:r.toNat<=11:=o_;rw[CV];have h:=al6 b hb r q iv nx 0 0 hn N (A_ 0) (.d (.int .u8 0)) (.d (.int .u8 0)) (A_ 0) .nl .nl .nl .nl .nl
 cases e1:aN b nx 8 with
 |er e=>rw[e1,dp]at h;exact xJ k_ wn wV rfl rfl h
 |ok g n1 =>
 have p1:=b3 e1;have hg:g<256:=p1.1;have hn1:=p1.2;have i1:i64 (n1:Int):=o_;rw[e1,bJ p1]at h;rw[au];refine xB k_ wn wV rfl rfl h ?_;clear h;have key:∃X:R ay,X=(if q=true then R.ok i n1 else np b n1 r.toNat)∧(∀j n,X=.ok j n->((j.Fit∧j.may r.toNat)∧n<=b.length)∧(Dn prog).call lL [.ptr 3 0,.ptr 4 0,.ptr 2 0,.ptr 0 0,.ptr 5 0,.ptr 1 0,.ptr 6 0] ⟨dF b r q iv [A_ g,.d (.int .u8 0),.d (.int .u8 0),A_ 0,.nl,.nl,.nl,.nl,.nl] n1 0 0 0,N⟩=some (.tup [],⟨dF b r q iv [A_ g,.d (.int .u8 j.seq),.d (.int .u8 j.shape),A_ j.max,.own false 1 (am j.groups),.nl,.nl,.nl,.nl] n 0 0 0,N⟩))∧
   (∀e,X=.er e->(Dn prog).call lL [.ptr 3 0,.ptr 4 0,.ptr 2 0,.ptr 0 0,.ptr 5 0,.ptr 1 0,.ptr 6 0] ⟨dF b r q iv [A_ g,.d (.int .u8 0),.d (.int .u8 0),A_ 0,.nl,.nl,.nl,.nl,.nl] n1 0 0 0,N⟩=some (.tup [],⟨dF b r q iv [A_ g,.d (.int .u8 0),.d (.int .u8 0),A_ 0,.nl,.nl,.nl,.nl,.nl] 0 ((e:Int)+1) 0 0,N⟩)):=by
  refine⟨_,rfl,λj n h=>?_,λe h=>?_⟩
  .grind [ajP,ay.Fit.len,Ua,Z6,bJ,Z8]
  .cases hqc:q with
   |true=>simp_all
   |false =>
    rw[hqc]at h;simp only[al,bu]at h;have h3:=Z6 b hb r false iv n1 0 0 i1 N rfl hr i (by have:=hi.len;omega) (hiv.imp id And.right) (A_ g) (.d (.int .u8 0)) (.d (.int .u8 0)) (A_ 0) .nl .nl .nl .nl .nl
    simp_all
 obtain⟨X,hX,hX1,hX2⟩:=key;rw[<-hX]
 cases e2:X with
 |er e=>exact xJ k_ lL _ rfl rfl (hX2 e e2)
 |ok j n2 =>
 obtain⟨⟨⟨hj,hjm⟩,hn2⟩,h⟩:=hX1 j n2 e2;have i2:i64 (n2:Int):=o_;have hjm11:=kZ hR hjm;have hmx:=ud hjm11;obtain⟨gr1,gr2⟩:=fu hjm11;have hmm:=jH j;have hgn:j.groups≠[]:=λh=>by grind
 rw[au];refine xB k_ lL _ rfl rfl h ?_;clear h hX hX1 hX2 e2 X;have h:=al9 b hb r q iv n2 0 0 i2 N j hj hjm11 hgn (A_ g) .nl .nl .nl .nl
 cases e3:lM b j n2 with
 |er e=>rw[e3,dp]at h;exact xJ k_ vS wV rfl rfl h
 |ok S n3 =>
 have p3:=Lk e3;have hn3:=p3.2.1;have i3:i64 (n3:Int):=o_;obtain⟨s1,s2,s3,s4,s5⟩:=If hjm11 p3;rw[e3,bJ p3]at h;rw[au];refine xB k_ vS wV rfl rfl h ?_;clear h;have h:=alo b hb r q iv n3 0 0 i3 N g o_ j.max hmx S s1 s2 s3.2 (λl hl=>by simp_all) s5 (.d (.int .u8 j.seq)) (.d (.int .u8 j.shape)) (A_ j.max) (.own false 1 (am j.groups)) .nl .nl .nl
 cases e4:pM b S n3 g with
 |er e=>rw[e4,dp]at h;exact xJ k_ vU wV rfl rfl h
 |ok T n4 =>
 have p4:=Wu o_ e4;have hn4:=p4.2;have i4:i64 (n4:Int):=o_;rw[e4,bJ p4]at h;rw[au];refine xB k_ vU wV rfl rfl h ?_;clear h;have h:=alE b hb r q iv n4 0 0 i4 N [A_ g,.d (.int .u8 j.seq),.d (.int .u8 j.shape),A_ j.max,.own false 1 (am j.groups),ao 1 (aV S),share (ao 1 (cf T)),.nl,.nl]
 cases e5:aN b n4 1 with
 |er e=>rw[e5,dp]at h;exact xJ k_ wa _ rfl rfl h
 |ok o n5 =>
 have p5:=b3 e5;have ho:o<2:=p5.1;have hn5:=p5.2;have i5:i64 (n5:Int):=o_;rw[e5,bJ p5]at h;rw[au];refine xB k_ wa _ rfl rfl h ?_;clear h;have h:=ale b hb r q iv n5 o 0 i5 N [A_ g,.d (.int .u8 j.seq),.d (.int .u8 j.shape),A_ j.max,.own false 1 (am j.groups),ao 1 (aV S),share (ao 1 (cf T)),.nl,.nl]
 cases e6:aN b n5 1 with
 |er e=>rw[e6,dp]at h;exact xJ k_ vW _ rfl rfl h
 |ok s n6 =>
 have p6:=b3 e6;have hs:s<2:=p6.1;have hn6:=p6.2;have i6:i64 (n6:Int):=o_;rw[e6,bJ p6]at h;rw[au];refine xB k_ vW _ rfl rfl h ?_;clear h;have key:∃X:R P_,X=(if s=1 then z4 b j n6 else R.ok (List.replicate j.many []) n6)∧(∀F n,X=.ok F n->pTn b j F n∧(Dn prog).call lH [.ptr 8 0,.ptr 0 0,.ptr 5 0,.ptr 4 0,.ptr 6 0] ⟨dF b r q iv [A_ g,.d (.int .u8 j.seq),.d (.int .u8 j.shape),A_ j.max,.own false 1 (am j.groups),ao 1 (aV S),share (ao 1 (cf T)),.nl,.nl] n6 0 o s,N⟩=some (.tup [],⟨dF b r q iv [A_ g,.d (.int .u8 j.seq),.d (.int .u8 j.shape),A_ j.max,.own false 1 (am j.groups),ao 1 (aV S),share (ao 1 (cf T)),ao 1 (bf F),.nl] n 0 o s,N⟩))∧
   (∀e,X=.er e->(Dn prog).call lH [.ptr 8 0,.ptr 0 0,.ptr 5 0,.ptr 4 0,.ptr 6 0] ⟨dF b r q iv [A_ g,.d (.int .u8 j.seq),.d (.int .u8 j.shape),A_ j.max,.own false 1 (am j.groups),ao 1 (aV S),share (ao 1 (cf T)),.nl,.nl] n6 0 o s,N⟩=some (.tup [],⟨dF b r q iv [A_ g,.d (.int .u8 j.seq),.d (.int .u8 j.shape),A_ j.max,.own false 1 (am j.groups),ao 1 (aV S),share (ao 1 (cf T)),.nl,.nl] 0 ((e:Int)+1) o s,N⟩)):=by
  refine⟨_,rfl,λF n h=>?_,λe h=>?_⟩
  .by_cases h1:s=1
   .grind [Gl,Z7,bJ]
   .rw[aa h1]at h;injection h with g1 g2
    subst g1 g2;have h3:=ajT b r q iv n6 o s N j hj hjm11 o_ (A_ g) (ao 1 (aV S)) (share (ao 1 (cf T))) .nl .nl;refine⟨⟨s_,hn6,λl hl=>by simp_all⟩,?_⟩;have e9:ao 1 (bf (List.replicate j.many []))=.own false 1 (bf (List.replicate j.many [])):=fZ (λhz=>by
     grind [EJ])
    simp_all
  grind [Z7,dp]
 obtain⟨X,hX,hX1,hX2⟩:=key;rw[<-hX]
 cases e7:X with
 |er e=>exact xJ k_ lH _ rfl rfl (hX2 e e7)
 |ok F n7 =>
 obtain⟨p7,h⟩:=hX1 F n7 e7;have i7:i64 (n7:Int):=o_;rw[au];refine xB k_ lH _ rfl rfl h ?_;have h:=alc b hb r q iv n7 o s i7 N [A_ g,.d (.int .u8 j.seq),.d (.int .u8 j.shape),A_ j.max,.own false 1 (am j.groups),ao 1 (aV S),share (ao 1 (cf T)),ao 1 (bf F),.nl] (by omega)
 cases e8:aN b n7 1 with
 |er e=>rw[e8,dp]at h;exact xJ k_ wd _ rfl rfl h
 |ok p n8 =>
 have p8:=b3 e8;have hn8:=p8.2;rw[e8,bJ p8]at h;rw[au];refine xB k_ wd _ rfl rfl h ⟨⟨λH n hh=>?_,λe hh=>absurd hh s_⟩,λH n hh=>?_⟩
 .grind [ajG]
 .injection hh with g1 g2
  subst g1 g2;exact⟨d_,hj,hjm,s3,s4,p4.1,⟨p7.1,p7.2.2⟩,by grind [Nd],d_,hn8⟩
abbrev z5:D_:=[A_ 0,A_ 0,.nl,.nl,A_ 0,A_ 0,.nl,.nl,A_ 0,A_ 0,.nl,.nl,A_ 0,A_ 0,.nl,.nl,A_ 0,A_ 0,.nl,.nl,A_ 0,A_ 0,.nl,.nl,A_ 0,A_ 0,.nl,.nl,A_ 0,A_ 0,.nl,.nl,A_ 0,A_ 0,.nl,.nl,A_ 0,A_ 0,.nl,.nl,A_ 0,A_ 0,.nl,.nl,A_ 0,A_ 0,.nl,.nl]
def ahs:I8 z5:=by
 refine⟨rfl,λid hid=>.inl ?_⟩;obtain rfl|rfl|rfl|rfl|rfl|rfl|rfl|rfl|rfl|rfl|rfl|rfl:id=0∨id=1∨id=2∨id=3∨id=4∨id=5∨id=6∨id=7∨id=8∨id=9∨id=10∨id=11:=o_
 all_goals rfl
structure GO where
 o1:Obj
 o2:Obj
 o3:Obj
 o7:Obj
 o8:Obj
 o9:Obj
 oX:Obj
 o14:Obj
 o15:Obj
 o16:Obj
abbrev GH (b:C_)(g:GO)(cs:D_)(nx e:Int)(Z:G_)(C:D_)(lo:Obj)(T:ak):ak:=(0,.cells [.d (.lst (aT b))])::(1,g.o1)::(2,g.o2)::(3,g.o3)::(4,.cells cs)::(5,.cells [A_ nx])::(6,.cells [A_ e])::(7,g.o7)::(8,g.o8)::(9,g.o9)::(10,g.oX)::(11,.arr 1 (am Z))::(12,.cells C)::(13,.cells [.ptr 12 0])::(14,g.o14)::(15,g.o15)::(16,g.o16)::(17,lo)::T
abbrev alk:aK:=[(5,.ptr 0 0),(10,.ptr 4 0),(11,.ptr 5 0),(12,.ptr 6 0),(13,.ptr 7 0),(14,.ptr 8 0),(18,.ptr 13 0),(82,.fn jQ [] [.ptr 15 0,.ptr 14 0,.ptr 16 0])]
def agJ {Z l:G_}{a:Nat}:ar (am Z) a (am l)=am (ar Z a l):=by simp[ar,am]
def ajg {h:ak}{xs:F_}{id a b n:Nat}(hab:a<=b)(hb:b<=n)(hn:n<=1000000000)(hg:get h id=some (.arr 1 xs))(x y:Int)(hx:x=a)(hy:y=b):O9 h 1 (.sl id 0 n) (some (A_ x)) (some (A_ y)) none=some (.sl id a (b-a)):=by
 subst hx hy;have e1:gD (A_ (b:Int)) n=some b:=by rw[aio o_ o_];simp
 have e2:gD (A_ (a:Int)) b=some a:=by rw[aio o_ o_];simp
 have e3:okSl h 1 (.sl id 0 n)=true:=by simp only[okSl,hg];rfl
 simp only[O9,e3,Hi,lenOf,G5,CI,e1,e2,cQ]
def aiU {h:ak}{Z l:G_}{id a n:Nat}{y:AV}(hn:l.length=n)(hb:a+n<=Z.length)(he:elems h y=some (am l))(hg:get h id=some (.arr 1 (am Z))):Yx 1 h (.sl id a n) y=some (.int .i64 (n:Nat),put h id (.arr 1 (am (ar Z a l)))):=by
 have e1:Nat.ble (a+n) (am Z).length=true:=by rw[aU,cx];exact hb
 have e2:min n (am l).length=n:=by rw[cx,hn,Nat.min_self]
 have e3:(am l).take n=am l:=bw (by rw[cx];omega);have e4:(fA 1 (am l) && Nat.beq 1 1 && Nat.ble (a+n) (am Z).length)=true:=by rw[WS,e1];rfl
 simp only[Yx,he,hg,e4,e2,e3,agJ];rfl
def alp {F:D_->ak}{A N:Nat}(hL:∀C,Lt (F C) N)(hg:∀C T,get (F C++T) A=some (.cells C))(hp:∀C T C',put (F C++T) A (.cells C')=F C'++T):Bk (λC T=>F C++T) A N:=by
 refine⟨hg,hp,λC o=>?_,λC o o'=>So (hL C),λC o=>Ml (hL C),λC o=>?_⟩
 .show put (F C++[]) N o=_;rw[ba];exact G6 (hL C)
 .show _=F C++[];rw[ba];exact aa0 (hL C)
def akV (b:C_)(g:GO)(cs:D_)(nx e0:Int)(Z:G_)(lo:Obj)(K:Nat)(hK:18<=K)(o w:Obj)(N:Nat)(hN:K<N):Bk (λC T=>GH b g cs nx e0 Z C lo [(K,o),(N,w)]++T) 12 (N+1):=by
 refine alp (λC p hp=>?_) (λC T=>rfl) (λC T C'=>rfl);simp only[aQ,fQ,mh]at hp;rcases hp with rfl|rfl|rfl|rfl|rfl|rfl|rfl|rfl|rfl|rfl|rfl|rfl|rfl|rfl|rfl|rfl|rfl|rfl|rfl|rfl<;>simp only[]<;>omega
abbrev nD (d:Bool):Obj:=.loop alk [83] oV oO d none
abbrev IB:Obj:=.loop alk [83] oV oO false (some .ret)
abbrev plO (p:Nat×Nat):Obj:=.cells [A_ (p.1:Int),A_ (p.2:Int),A_ ((p.2+bh p.1:Nat):Int)]
def anb (b:C_)(g:GO)(a0 a1 a2 a3 a4 a5 a6 a7:AV)(nx e0:Int)(Z:G_)(hZ:Z.length=256)(C:D_)(hC:I8 C)(p:Nat×Nat)(hp:(1<=p.1∧p.1<=11)∧p.2+bh p.1<=256)(l:G_)(hl:l.length=bh p.1)(n2:Nat)(hh:bl prog t8 [.d (.lst (aT b)),A_ nx,kr p.1]=some (.tup [.own true 1 (am l),A_ n2,A_ 0]))(K:Nat)(o:Obj)(hK:18<=K)(N:Nat)(hN:K<N) :
  cW (Dn prog) (.yield 17) [.agg [A_ (p.1:Int),A_ (p.2:Int),A_ ((p.2+bh p.1:Nat):Int)]] ⟨GH b g [a0,a1,a2,a3,a4,a5,a6,a7,.sl 11 0 256] nx e0 Z C (nD false) [(K,o)],N⟩ =
  some (B_ true,⟨GH b g [a0,a1,a2,a3,a4,a5,a6,a7,.sl 11 0 256] n2 0 (ar Z p.2 l) (ar C (4*p.1) (jq p.1)) (nD false) [(K,o)],N+1+1⟩):=by
 obtain⟨h1,h2⟩:=hp;have hB:=Tn (akV b g [a0,a1,a2,a3,a4,a5,a6,a7,.sl 11 0 256] nx e0 Z (nD true) K hK o (plO p) N hN) C hC p.1 h1;have hs:=λC2=>ajg (h:=GH b g [a0,a1,a2,a3,a4,a5,a6,a7,.sl 11 0 256] n2 0 Z C2 (nD true) [(K,o),(N,plO p)]) (xs:=am Z) (id:=11) (a:=p.2) (b:=p.2+bh p.1) (n:=256) o_ h2 o_ rfl (p.2:Int) _ rfl rfl
 rw[qe]at hs;have hc:=λC2=>aiU (h:=GH b g [a0,a1,a2,a3,a4,a5,a6,a7,.sl 11 0 256] n2 0 Z C2 (nD true) [(K,o),(N,plO p)]) (id:=11) (a:=p.2) (n:=bh p.1) (y:=.own false 1 (am l)) hl o_ rfl rfl
 generalize ar C (4*p.1) (jq p.1)=C2 at *;replace hs:=hs C2;replace hc:=hc C2;obtain⟨TO,hT⟩:∃TO:Int,TO=((p.2+bh p.1:Nat):Int):=⟨_,rfl⟩
 simp only[GH,plO,nD,aI,aD,kr]at hB hs hc hh⊢;rw[<-hT]at hB hs hc⊢;obtain⟨o1,o2,o3,o7,o8,o9,oX,o14,o15,o16⟩:=g;simp only[]at *;have eA:∀st,(Dn prog).code oV st=(Dn prog).code Ci st:=λ_=>rfl
 have eB:∀st,(Dn prog).code oO st=(Dn prog).code (.block 3
  (.seq Cl
  (.seq (.seq (.seq wP (Vm.K [18,84]))
  (.seq BU
  (.cond (.m 96)
  (.seq (.seq (Vm.K [20]) (F 19)) (.seq (.seq wJ (Vm.K [12]))
  .ret))
  (.seq (Vm.K [11,12]) .skip))))
  (.seq Cd (F 19))))) st:=λ_=>rfl
 simp(config := { maxSteps:=9^7 }) (disch:=omega)[↓ac,↓aa,eA,eB,hh,hB,hs,hc]
def an4 (b:C_)(g:GO)(a0 a1 a2 a3 a4 a5 a6 a7:AV)(nx e0:Int)(Z:G_)(C:D_)(hC:I8 C)(p:Nat×Nat)(hp:(1<=p.1∧p.1<=11)∧p.2+bh p.1<=256)(e:Nat)(hh:bl prog t8 [.d (.lst (aT b)),A_ nx,kr p.1]=some (.tup [.nl,A_ 0,A_ (e+1)]))(K:Nat)(o:Obj)(hK:18<=K)(N:Nat)(hN:K<N) :
  cW (Dn prog) (.yield 17) [.agg [A_ (p.1:Int),A_ (p.2:Int),A_ ((p.2+bh p.1:Nat):Int)]] ⟨GH b g [a0,a1,a2,a3,a4,a5,a6,a7,.sl 11 0 256] nx e0 Z C (nD false) [(K,o)],N⟩ =
  some (B_ false,⟨GH b g Vd 0 ((e:Int)+1) Z (ar C (4*p.1) (jq p.1)) IB [(K,o)],N+1+1⟩):=by
 obtain⟨h1,h2⟩:=hp;have hB:=Tn (akV b g [a0,a1,a2,a3,a4,a5,a6,a7,.sl 11 0 256] nx e0 Z (nD true) K hK o (plO p) N hN) C hC p.1 h1;generalize ar C (4*p.1) (jq p.1)=C2 at *;obtain⟨TO,hT⟩:∃TO:Int,TO=((p.2+bh p.1:Nat):Int):=⟨_,rfl⟩
 simp only[GH,plO,nD,IB,aI,aD,kr]at hB hh⊢;rw[<-hT]at hB⊢;obtain⟨o1,o2,o3,o7,o8,o9,oX,o14,o15,o16⟩:=g;simp only[]at *;have eA:∀st,(Dn prog).code oV st=(Dn prog).code Ci st:=λ_=>rfl
 have eB:∀st,(Dn prog).code oO st=(Dn prog).code (.block 3
  (.seq Cl
  (.seq (.seq (.seq wP (Vm.K [18,84]))
  (.seq BU
  (.cond (.m 96)
  (.seq (.seq (Vm.K [20]) (F 19)) (.seq (.seq wJ (Vm.K [12]))
  .ret))
  (.seq (Vm.K [11,12]) .skip))))
  (.seq Cd (F 19))))) st:=λ_=>rfl
 simp(config := { maxSteps:=9^7 }) (disch:=omega)[↓ac,↓aa,eA,eB,hh,hB]
abbrev eg:=@List.eq_of_mem_replicate
def O7 {r:Nat}{jj:ay}{SS:I_}(hm:jj.may r)(hS:Aa jj SS)(hr:r<=11){p:Nat×Nat}(hp:p∈nz (offs r jj.short) SS jj.groups 0):(1<=p.1∧p.1<=11)∧p.2+bh p.1<=256:=by
 have hm11:=kZ hr hm;obtain⟨g1,g2⟩:=fu hm11;obtain⟨w,g,j,l,e1,e2,e3,e4,e5,e6,x,e7,e8⟩:=aaL hS.2 (λn hn=>(g1 n hn).1) hp;obtain⟨o1,o2,o3⟩:=FB (r,jj.short) (kK o_);simp only at o1 o2 o3;have hmx:=hm.2.2.2.1;have hlm:l∈SS:=iO e1;have hbl:=Ku (hS.2 l hlm) hm.2.2.1;have hjl:j<(bZ l).length:=(cK.1 e5).1;have hmy:oG r (decide (jj.seq=2))=(offs r jj.short).length-1:=rfl;have hj1:j+1<(offs r jj.short).length:=o_;have hoj:nth (offs r jj.short) j<nth (offs r jj.short) (j+1)∧(nth (offs r jj.short) (j+1)-nth (offs r jj.short) j) % 4=0:=by
  have:=bW.1 o1 j (fO.2 o_);simpa using this
 have hos:∀k,k+1<(offs r jj.short).length->nth (offs r jj.short) k<nth (offs r jj.short) (k+1):=λk hk=>by
  have:=bW.1 o1 k (fO.2 o_);simp only[af,decide_eq_true_eq]at this;exact this.1
 have hd4:bh p.1=4∨bh p.1=2:=by unfold bh;split<;>simp
 have hx:=aa1 (d:=bh p.1) o_ (by rcases hd4 with h|h<;>rw[h]<;>omega) e7;have hw:(w:Int)<jj.many:=o_;have ho256:nth (offs r jj.short) (j+1)<=cond jj.short 32 256:=by
  have:=bW.1 o3 _ (jN hj1);simpa using this
 have hcond:(cond jj.short 32 256:Nat)=jj.wide:=by
  unfold ay.short ay.wide;by_cases h:jj.seq=2
  .rw[dT_ h,ac h];rfl
  .rw[dF_ h,aa h];rfl
 rw[hcond]at ho256;have hww:w*32=w*jj.wide∧w*jj.wide+jj.wide<=256:=by
  unfold ay.many at hw;unfold ay.wide;split at hw
  .rename_i h2;rw[ac h2];omega
  .rename_i h2;rw[aa h2];omega
 exact⟨e6,o_⟩
def Xd:∀id∈List.range 12,1<=id->cR id=bh id:=e_
def cu (b:C_):O_->Nat->G_->R G_
 |[],n,Z=>.ok Z n
 |p::r,n,Z=>(wH p.1 b n).bind λl m=>cu b r m (ar Z p.2 l)
abbrev StG:Type:=D_×Nat×G_
abbrev OW (b:C_)(p:Nat×Nat)(s:StG):Sum StG (D_×Nat×G_):=match wH p.1 b s.2.1 with
 |.ok l n=>.inl (ar s.1 (4*p.1) (jq p.1),n,ar s.2.2 p.2 l)
 |.er e=>.inr (ar s.1 (4*p.1) (jq p.1),e,s.2.2)
abbrev j7:D_:=[A_ 0,.d (.int .u8 0),.d (.int .u8 0),A_ 0,.nl,.nl,.nl,.nl,.nl]
abbrev arc (B:Nat)(r:O_)(s:StG):Prop:=I8 s.1∧s.2.1<=B∧s.2.2.length=256∧(∀x∈s.2.2,-40000<=x∧x<=40000)∧∀p∈r,(1<=p.1∧p.1<=11)∧p.2+bh p.1<=256
def agZ {Z l:G_}{a:Nat}(h:a+l.length<=Z.length):(ar Z a l).length=Z.length:=by
 simp only[ar,bt,qT,List.length_drop];omega
def aka {Z l:G_}{a:Nat}{x:Int}(h:x∈ar Z a l):x∈Z∨x∈l:=by
 simp only[ar,bq]at h;rcases h with (h|h)|h
 .exact .inl (fL h)
 .exact .inr h
 .exact .inl (d8 h)
def aoA (b:C_)(hb:b.length<=1000000000)(g:GO)(a0 a1 a2 a3 a4 a5 a6 a7:AV):ON (fun(s:StG) T=>GH b g [a0,a1,a2,a3,a4,a5,a6,a7,.sl 11 0 256] s.2.1 0 s.2.2 s.1 (nD false) T) (fun(z:D_×Nat×G_) T=>GH b g j7 0 ((z.2.1:Int)+1) z.2.2 z.1 IB T) 18 17 (OW b) (arc b.length):=by
 intro p r s K o N hi hK hN;obtain⟨C,n0,Z⟩:=s;obtain⟨i1,i2,i3,i4,i5⟩:=hi;simp only at i1 i2 i3 i4;have hp:=i5 p (.head _);have hH:=agv p.1 b n0 hb o_ hp.1;have hd:=Xd p.1 (fO.2 o_) hp.1.1
 cases e:wH p.1 b n0 with
 |ok l n =>
  have hq:=SO ⟨hp.1.1,o_⟩ e;rw[e,bJ hq]at hH;obtain⟨q1,q2,q3⟩:=hq;have hl:l.length=bh p.1:=o_;refine .inl ⟨(ar C (4*p.1) (jq p.1),n,ar Z p.2 l),N+1+1,o_,by simp only[OW,e],⟨afl i1 hp.1,q2,?_,λx hx=>?_,λq hq=>i5 q (.tail _ hq)⟩,anb b g a0 a1 a2 a3 a4 a5 a6 a7 n0 0 Z i3 C i1 p hp l hl n hH K o hK N hN⟩
  .show(ar Z p.2 l).length=256;rw[agZ o_];exact i3
  .rcases aka hx with h|h
   .exact i4 x h
   .exact q3 x h
 |er e2 =>
  rw[e,dp]at hH;exact .inr ⟨(ar C (4*p.1) (jq p.1),e2,Z),N+1+1,o_,by simp only[OW,e],an4 b g a0 a1 a2 a3 a4 a5 a6 a7 n0 0 Z C i1 p hp e2 hH K o hK N hN⟩
def ahV {b:C_}:∀{r:O_}{C:D_}{n:Nat}{Z:G_},(∀Z2 m,cu b r n Z=.ok Z2 m->∃C2,jw (OW b) r (C,n,Z)=.inl (C2,m,Z2))∧∀e,cu b r n Z=.er e->∃C2 Z2,jw (OW b) r (C,n,Z)=.inr (C2,e,Z2)
 |[],C,n,Z=>⟨λZ2 m h=>by
   injection h with g1 g2
   subst g1 g2;exact⟨C,rfl⟩,λe h=>absurd h (by simp[cu])⟩
 |p::r,C,n,Z=>by
  rw[cu,jw]
  cases e:wH p.1 b n with
  |ok l m =>
   simp only[OW,e,au];exact ahV
  |er e2 =>
   simp only[OW,e];exact⟨λZ2 m h=>absurd h s_,λe3 h=>by
    injection h with h
    subst h;exact⟨_,_,rfl⟩⟩
def aip {b:C_}{g:GO}{cs:D_}{nx e0:Int}{Z:G_}{C:D_}{lo:Obj}{L:Nat}(hL:18<=L):Lt (GH b g cs nx e0 Z C lo []) L:=by
 intro p hp;simp only[aQ,fQ,mh]at hp;rcases hp with rfl|rfl|rfl|rfl|rfl|rfl|rfl|rfl|rfl|rfl|rfl|rfl|rfl|rfl|rfl|rfl|rfl|rfl<;>simp only[]<;>omega
def adG {σ:Type}{F:σ->ak}{L:Nat}(hL:∀s,Lt (F s) L):Tl (λs T=>F s++T) L:=by
 refine⟨λs K o h=>?_,λs K o o' h=>So (Vw (hL s) h),λs K o h=>Ml (Vw (hL s) h),λs K o h=>?_⟩
 .show put (F s++[]) K o=_;rw[ba];exact G6 (Vw (hL s) h)
 .show _=F s++[];rw[ba];exact aa0 (Vw (hL s) h)
abbrev JB (r:Nat)(jj:ay)(S:I_):O_:=nz (offs r jj.short) S jj.groups 0
abbrev Z0:G_:=List.replicate 256 0
def T7 (b:C_)(hb:b.length<=1000000000)(g:GO)(a0 a1 a2 a3 a4 a5 a6 a7:AV)(r:Nat)(hr:r<=11)(jj:ay)(hj:jj.Fit)(hm:jj.may r)(S:I_)(hS:Aa jj S)(g14:g.o14=.cells jj.cells)(g15:g.o15=.cells [.d (.lst (aV S))])(g16:g.o16=.cells [.own false 1 (aF (offs r jj.short))])(n:Nat)(hn:n<=b.length) :
  (∀Z m,cu b (JB r jj S) n Z0=.ok Z m->Z.length=256∧(∀x∈Z,-40000<=x∧x<=40000)∧m<=b.length∧∃C2 M,(Dn prog).call jQ [.yield 17,.ptr 15 0,.ptr 14 0,.ptr 16 0] ⟨GH b g [a0,a1,a2,a3,a4,a5,a6,a7,.sl 11 0 256] n 0 Z0 z5 (nD false) [],18⟩=some (.tup [],⟨GH b g [a0,a1,a2,a3,a4,a5,a6,a7,.sl 11 0 256] m 0 Z C2 (nD false) [],M⟩))∧
  (∀e,cu b (JB r jj S) n Z0=.er e->∃C2 Z2 M,(Dn prog).call jQ [.yield 17,.ptr 15 0,.ptr 14 0,.ptr 16 0] ⟨GH b g [a0,a1,a2,a3,a4,a5,a6,a7,.sl 11 0 256] n 0 Z0 z5 (nD false) [],18⟩=some (.tup [],⟨GH b g j7 0 ((e:Int)+1) Z2 C2 IB [],M⟩)):=by
 obtain⟨o1,o2,o3,o4⟩:=afb (r,jj.short) (kK o_);obtain⟨p1,p2,p3⟩:=FB (r,jj.short) (kK o_);simp only at o1 o2 o3 o4 p1 p2 p3;have hmx:=hm.2.2.2.1;have hmy:oG r (decide (jj.seq=2))=(offs r jj.short).length-1:=rfl;have hhi:∀x∈offs r jj.short,x<=256:=λx hx=>by
  have:=bW.1 p3 x hx;simp only[decide_eq_true_eq]at this;have:(cond jj.short 32 256:Nat)<=256:=by cases jj.short<;>decide
  omega
 have hT:Tl (fun(s:StG) T=>GH b g [a0,a1,a2,a3,a4,a5,a6,a7,.sl 11 0 256] s.2.1 0 s.2.2 s.1 (nD false) T) 18:=adG (F:=fun(s:StG)=>GH b g [a0,a1,a2,a3,a4,a5,a6,a7,.sl 11 0 256] s.2.1 0 s.2.2 s.1 (nD false) []) (λs=>aip (ai _));have hT2:Tl (fun(z:D_×Nat×G_) T=>GH b g j7 0 ((z.2.1:Int)+1) z.2.2 z.1 IB T) 18:=adG (F:=fun(z:D_×Nat×G_)=>GH b g j7 0 ((z.2.1:Int)+1) z.2.2 z.1 IB []) (λs=>aip (ai _));have hpl:=afL (P:=⟨17,14,16,S,offs r jj.short⟩) jj hj (kZ hr hm) 15 hT hT2 (aoA b hb g a0 a1 a2 a3 a4 a5 a6 a7) (λs=>by rw[<-g15];rfl) (λs T=>by rw[<-g14];rfl) (λs T=>by rw[<-g16];rfl) (by simp only[];omega) hhi (by simp only[];omega) hS 18 (ai _) (z5,n,Z0) ⟨ahs,hn,by simp only[ca],λx hx=>by rw[eg hx];omega,λp hp=>O7 hm hS hr hp⟩;have hru:=ahV (b:=b) (r:=JB r jj S) (C:=z5) (n:=n) (Z:=Z0);refine⟨λZ m e=>?_,λe1 e=>?_⟩
 .obtain⟨C2,h1⟩:=hru.1 Z m e;rcases hpl with ⟨s2,M,hM,e1,⟨i1,i2,i3,i4,i5⟩,e5⟩|⟨z,M,hM,e1,e3⟩
  .rw[h1]at e1;injection e1 with e1
   subst e1;exact⟨i3,i4,i2,C2,M,e5⟩
  .rw[h1]at e1;exact absurd e1 (by simp)
 .obtain⟨C2,Z2,h1⟩:=hru.2 e1 e;rcases hpl with ⟨s2,M,hM,e1,⟨i1,i2,i3,i4,i5⟩,e5⟩|⟨z,M,hM,e1,e3⟩
  .rw[h1]at e1;exact absurd e1 (by simp)
  .rw[h1]at e1;injection e1 with e1
   subst e1;exact⟨C2,Z2,M,e3⟩
def R7 {os:C_}{d b:Nat}{g:Int}:∀{l r:G_}{w:Nat},xx os d b g (l++r) w=xx os d b g l w++xx os d b g r (w+l.length)
 |[],r,w=>by simp[xx]
 |x::l,r,w=>by
  rw[aI,xx,xx,R7,aw,aE,bF,qY 1]
def VJ {os:C_}{d b:Nat}{g:Int}:∀{l:G_}{w:Nat},(∀x∈l,x≠g)->xx os d b g l w=[]
 |[],_,_=>rfl
 |x::r,w,h=>by rw[xx,aa (h x (.head _)),VJ (λy hy=>h y (.tail _ hy))];rfl
def aat {os:C_}{d b:Nat}{g:Int}:∀{n w:Nat},xx os d b g (List.replicate n g) w=yd os d b n w
 |0,_=>rfl
 |n+1,w=>by rw[ep,xx,ac rfl,yd,aat]
def aer:∀{l:G_}{k:Nat},∀x∈sW l k,(k:Int)<=x
 |[],_,x,h=>by simp[sW]at h
 |n::r,k,x,h=>by
  rw[sW]at h;rcases bq.1 h with h|h
  .have:=eg h;omega
  .have:=aer x h;omega
def jc (gs:G_):Nat->Nat
 |0=>0
 |g+1=>match gs with
  |[]=>0
  |n::r=>n.toNat+jc r g
def aeL {os:C_}{d b:Nat}:∀{gs:G_}{j k w:Nat}{n:Int},gs[j]?=some n->xx os d b ((k+j:Nat):Int) (sW gs k) w=yd os d b n.toNat (w+jc gs j)
 |[],j,k,w,n,h=>by simp at h
 |m::r,0,k,w,n,h=>by
  simp only[cy,ae]at h;subst h;rw[sW,R7,c5,aat,VJ (λx hx=>by have:=aer x hx;omega),ba];rfl
 |m::r,j+1,k,w,n,h=>by
  simp only[qj]at h;rw[sW,R7,VJ (λx hx=>by have:=eg hx;omega),aD,show k+(j+1)=(k+1)+j by omega,aeL h,ca,jc,bF]
def aeA {os:C_}{d:Nat}{gs:G_}{g:Nat}{n:Int}(h:gs[g]?=some n):∀{k b:Nat},baQ os d g (sW gs 0) k b=tL os d n.toNat (jc gs g) k b
 |0,_=>rfl
 |k+1,b=>by
  have:=aeL (os:=os) (d:=d) (b:=b) (k:=0) (w:=0) h;rw[cQ,cQ]at this;rw[baQ,tL,this,aeA h]
def agm {r:Nat}(hr:r<=11)(s:Bool)(b:Nat):nth (offs r s) b<=256:=by
 rcases bH b (offs r s).length with h|h
 .have o:=(FB (r,s) (kK o_)).2.2;have:=bW.1 o _ (jN h);simp only[decide_eq_true_eq]at this;have hc:cond s 32 256<=256:=by cases s<;>decide
  omega
 .rw[nth,dQ,sP h];exact dr _
def afw (xs:C_):AV:=match xs with
 |[]=>.nl
 |x::r=>.own true 1 (aF (x::r))
def XH (h:ak)(xs:C_):fq h (ao 1 (aF xs))=some (afw xs):=by
 cases xs with
 |nil=>rfl
 |cons x r =>
  have hf:jb (.own false 1 (aF (x::r)))=true:=by
   show((aF (x::r)).all λe=>e.all jx)=true;rw[bW];intro e he;simp only[aF,dt]at he;obtain⟨y,_,rfl⟩:=he;rfl
  show some (dZ (.own false 1 (aF (x::r))))=_;rw[dZ,hf];rfl
@[simp] def atj {xs:C_}:firm (afw xs)=ao 1 (aF xs):=by cases xs<;>rfl
def V4 (r:Nat)(hr:r<=11)(i:ay)(hm:i.may r)(g b0 id ln:Nat)(hid:1<=id∧id<=11)(n:Int)(hg:i.groups[g]?=some n)(hl:((b0+ln:Nat):Int)<=i.max) :
  bl prog v6 [A_ r,.agg i.cells,A_ g,A_ b0,.agg [A_ id,A_ ln]] =
  some (afw (tL (offs r i.short) (bh id) n.toNat (jc i.groups g) ln b0)):=by
 have hm11:=kZ hr hm;have hmx:=hm.2.2.2.1;have hmy:oG r (decide (i.seq=2))=(offs r i.short).length-1:=rfl;have hof:=(C0 (r,i.short) (kK o_))
 simp only at hof;have hol:(offs r i.short).length<=1000:=o_;obtain⟨g1,g2⟩:=fu hm11;have hmm:=jH i;have hsp:=ni (λn hn=>(g1 n hn).1);have hgl:g<i.groups.length:=(cK.1 hg).1;have hil:=aa4 (l:=i.groups) (g:=0) (λn hn=>by have:=g1 n hn;omega);have hI:=ag7 i hm11;have hne:sW i.groups 0≠[]:=λh=>by rw[h]at hil;simp at hil;omega
 have hix:∀x∈sW i.groups 0,i64 x:=by
  have key:∀{l:G_}{k:Nat},∀x∈sW l k,(k:Int)<=x∧x<k+l.length:=by
   intro l
   induction l with
   |nil=>intro k x h;simp[sW]at h
   |cons n r ih =>
    intro k x h;rw[sW]at h;rcases bq.1 h with h|h
    .have:=eg h;simp only[aE];omega
    .have:=ih x h;simp only[aE];omega
  intro x hx;have:=key x hx;omega
 have hO:=JH r i.short o_;rw[ax]at hO;have hmax:=ud hm11;have hb:=aeA (os:=offs r i.short) (d:=bh id) hg (k:=ln) (b:=b0);have h:=alP (offs r i.short) id hid ln g b0 (sW i.groups 0) 2 1 hol (λb=>agm hr _ b) o_ hix o_ o_ ln b0 [] rfl g_;have n0:aF []=[]:=rfl;simp only[TX]at h;rw[aD,hb,n0,c9]at h;have hre:WA (sW i.groups 0)=.own true 1 (am (sW i.groups 0)):=by cases h:sW i.groups 0 with|nil=>exact absurd h hne|cons x r=>rfl
 rw[hre]at hI;clear hb;generalize tL (offs r i.short) (bh id) n.toNat (jc i.groups g) ln b0=R at *;generalize am (sW i.groups 0)=IN at *;rw[aM FP FI rfl];by_cases hs:i.seq=2
 .have e:i.short=true:=by simp[ay.short,hs]
  have hc:(i.seq:Int)=2:=o_;rw[e]at hO h;generalize offs r true=os at *;simp only[ay.cells]at hI⊢;rw[hc]at hI⊢;simp(maxSteps:=9^6)(disch:=omega)[↓ac,↓aa,hO,hI,h,XH]
 .have e:i.short=false:=by simp[ay.short,hs]
  have hc:(i.seq:Int)≠2:=o_;rw[e]at hO h;generalize offs r false=os at *;simp only[ay.cells]at hI⊢;simp(maxSteps:=9^6)(disch:=omega)[↓ac,↓aa,hO,hI,h,hc,XH]
def Hz {b:C_}:∀{l r:O_}{n:Nat}{Z:G_},cu b (l++r) n Z=(cu b l n Z).bind λZ n=>cu b r n Z
 |[],r,n,Z=>rfl
 |p::l,r,n,Z=>by
  rw[aI,cu,cu]
  cases wH p.1 b n with
  |ok v m=>rw[au,au,Hz]
  |er e=>rfl
abbrev GV (b:C_)(a r:Int)(g bd n:Int)(X:aK):aK:=(0,.d (.lst (aT b)))::(1,A_ a)::(2,A_ r)::(7,.ptr 0 0)::(11,.sl 1 0 256)::(12,A_ g)::(13,A_ bd)::(14,A_ n)::X
abbrev xi (cs:D_)(Z:G_)(T:ak):ak:=(0,.cells cs)::(1,.arr 1 (am Z))::T
def an3 (b:C_)(a rt g bd n:Int)(cs:D_)(A B N:Nat)(hA:2<=A)(hB:A<B)(oA oB:Obj)(l:C_)(m:Nat)(hm:m<l.length)(hll:l.length<=100000)(v:G_)(hv:v.length<=100)(hp:nth l m+v.length<=256):∀(r:G_) (j:Nat) (Z:G_),v.drop j=r->Z.length=256->
  (Dn prog).code (.loop fU) ⟨GV b a rt g bd n [(15,.ptr A 0),(16,.ptr B 0),(17,.own false 1 (aF l)),(18,A_ m),(19,.own false 1 (am v)),(22,A_ j)],⟨xi cs Z [(A,oA),(B,oB)],N⟩⟩ =
  some (.exit 6,⟨GV b a rt g bd n [(15,.ptr A 0),(16,.ptr B 0),(17,.own false 1 (aF l)),(18,A_ m)],⟨xi cs (ar Z (nth l m+j) r) [(A,oA),(B,oB)],N⟩⟩):=by
 have hla:=cx (l:=v);intro r
 induction r with
 |nil =>
  intro j Z hj _;have hjl:v.length<=j:=aO.1 hj;rw[ah pi,Lw];simp(maxSteps:=9^6)(disch:=omega)[↓ac,↓aa,hla]
 |cons c r ih =>
  intro j Z hj hZ;have hjl:j<v.length:=by
   rcases bH j v.length with h|h
   .exact h
   .rw[aO.2 h]at hj;exact absurd hj (by simp)
  have hx:=Db hj;have hdn:v.drop (j+1)=r:=by rw[<-cJ,hj];rfl
  have hr:(j+1)+r.length=v.length:=by
   have:=aX List.length hdn;rw[List.length_drop]at this;omega
  have h5:=ih (j+1) (Z.set (nth l m+j) c) hdn g_;have c1:((j+1:Nat):Int)=(j:Int)+1:=rfl;obtain⟨Q,hQ⟩:∃Q,Q=nth l m+j:=⟨_,rfl⟩
  have cp:((nth l m:Nat):Int)+(j:Int)=(Q:Int):=o_;have hzl:=cx (l:=Z);rw[c1,<-bF,Cb o_]at h5;rw[<-h5];clear h5 ih;rw[<-hQ];have hsz:(am Z).set Q [.int .i64 c]=am (Z.set Q c):=by simp[am,lT]
  rw[ah pi];simp(maxSteps:=9^6)(disch:=omega)[↓ac,↓aa,-getElem?_pos,hla,hx,cp,hzl,hsz]
def anY (b:C_)(hb:b.length<=1000000000)(rt g bd n:Int)(cs:D_)(id:Nat)(hid:1<=id∧id<=11)(A B N:Nat)(hA:2<=A)(hB:A<B)(oA:Obj)(l:C_)(hll:l.length<=100000)(hl:∀p∈l,p+bh id<=256):∀(r:C_) (m:Nat) (a:Nat) (Z:G_),l.drop m=r->Z.length=256->a<=b.length->
  (∀Z' a',cu b (r.map λp=>(id,p)) a Z=.ok Z' a'->(Dn prog).code (.loop cS) ⟨GV b a rt g bd n [(15,.ptr A 0),(16,.ptr B 0),(17,ao 1 (aF l)),(18,A_ m)],⟨xi cs Z [(A,oA),(B,.cells (jq id))],N⟩⟩ =
   some (.exit 4,⟨GV b a' rt g bd n [(15,.ptr A 0)],⟨xi cs Z' [(A,oA)],N⟩⟩)∧Z'.length=256∧a'<=b.length)∧
  (∀e,cu b (r.map λp=>(id,p)) a Z=.er e->∃Z',(Dn prog).code (.loop cS) ⟨GV b a rt g bd n [(15,.ptr A 0),(16,.ptr B 0),(17,ao 1 (aF l)),(18,A_ m)],⟨xi cs Z [(A,oA),(B,.cells (jq id))],N⟩⟩ =
   some (.ret,⟨[(8,.nl),(9,A_ 0),(10,A_ (e+1))],⟨[(1,.arr 1 (am Z'))],N⟩⟩)):=by
 intro r
 induction r with
 |nil =>
  intro m a Z hj hZ ha;have hjl:l.length<=m:=aO.1 hj;refine⟨λZ' a' h=>?_,λe h=>absurd h (by simp[cu])⟩;rw[List.map_nil,cu]at h;injection h with h1 h2
  subst h1 h2;refine⟨?_,hZ,ha⟩;rw[ah jO];by_cases hl0:l=[]
  .subst hl0;have n0:aF []=[]:=rfl;rw[n0,c9];generalize bG id=es at *;generalize dE id=rs at *;simp(maxSteps:=9^6)(disch:=omega)[↓ac,↓aa]
  .have e:ao 1 (aF l)=.own false 1 (aF l):=fZ (λh=>hl0 (by simpa [aF] using h));rw[e];generalize bG id=es at *;generalize dE id=rs at *;simp(maxSteps:=9^6)(disch:=omega)[↓ac,↓aa]
 |cons p r ih =>
  intro m a Z hj hZ ha;have hjl:m<l.length:=by
   rcases bH m l.length with h|h
   .exact h
   .rw[aO.2 h]at hj;exact absurd hj (by simp)
  have hnz:aF l≠[]:=λh=>by
   have h2:(aF l).length=0:=by rw[h];rfl
   rw[t4]at h2;omega
  have eo:ao 1 (aF l)=.own false 1 (aF l):=fZ hnz;simp only[eo]at ih⊢;have hdn:l.drop (m+1)=r:=by rw[<-cJ,hj];rfl
  have hlp:nth l m=p:=by
   have:=aX (λl=>l[0]?) hj;simp only[cB,cy,c5]at this;rw[nth,dQ,this];rfl
  have hpm:=hl p (by rw[<-bM m l,hj];simp);have hR:=acZ id b a hb o_ hid;have hbf:=(BJ (id:=id) o_)
  rw[cT,cu];simp only[];have c1:((m+1:Nat):Int)=(m:Int)+1:=rfl;have c0:((0:Nat):Int)=0:=rfl
  cases hh:wH id b a with
  |er e =>
   refine⟨λZ' a' h=>absurd h s_,λe' h=>?_⟩;rw[cg]at h;injection h with h
   subst h;rw[hh,dp]at hR;refine⟨Z,?_⟩;clear ih;rw[ah jO];simp only[kr,jq]at hR⊢;generalize bG id=es at *;generalize dE id=rs at *;simp(maxSteps:=9^6)(disch:=omega)[↓ac,↓aa,hR]
  |ok v a2 =>
   have hv:=SO ⟨hid.1,o_⟩ hh;obtain⟨v1,v2,v3⟩:=hv;have hd4:cR id=bh id:=Xd id (fO.2 o_) hid.1;have hd:2<=bh id∧bh id<=4:=by unfold bh;split<;>omega
   rw[hh,bJ ⟨v1,v2,v3⟩]at hR;have h0:=an3 b a2 rt g bd n cs A B N hA hB oA (.cells (jq id)) l m hjl hll v o_ o_ v 0 Z rfl hZ;have h5:=ih (m+1) a2 (ar Z p v) hdn (by rw[tc o_];exact hZ) v2;rw[au];rw[c1]at h5;rw[c5,hlp,c0]at h0;have key:(Dn prog).code (.loop cS) ⟨GV b a rt g bd n [(15,.ptr A 0),(16,.ptr B 0),(17,.own false 1 (aF l)),(18,A_ m)],⟨xi cs Z [(A,oA),(B,.cells (jq id))],N⟩⟩ =
     (Dn prog).code (.loop cS) ⟨GV b a2 rt g bd n [(15,.ptr A 0),(16,.ptr B 0),(17,.own false 1 (aF l)),(18,A_ ((m:Int)+1))],⟨xi cs (ar Z p v) [(A,oA),(B,.cells (jq id))],N⟩⟩:=by
    clear h5 ih;rw[ah jO];simp only[kr,jq]at hR h0⊢;generalize bG id=es at *;generalize dE id=rs at *;simp(maxSteps:=9^6)(disch:=omega)[↓ac,↓aa,hR,h0]
   rw[key];exact h5
abbrev EO (c0:AV)(i:ay)(S:I_)(c6 c7 c8:AV):D_:=[c0,.d (.int .u8 i.seq),.d (.int .u8 i.shape),A_ i.max,.d (.lst (am i.groups)),.d (.lst (aV S)),c6,c7,c8]
abbrev XL (b:C_)(a r:Int)(g:Int)(X:aK):aK:=(0,.d (.lst (aT b)))::(1,A_ a)::(2,A_ r)::(7,.ptr 0 0)::(11,.sl 1 0 256)::(12,A_ g)::X
def ag1 {os:C_}{d n first:Nat}(hn:n<=8):∀{k b:Nat},(tL os d n first k b).length<=2400*k:=by
 have hw:∀{n b w:Nat},(yd os d b n w).length<=300*n:=by
  intro n
  induction n with
  |zero=>intro b w;exact ai _
  |succ n ih =>
   intro b w;have h1:=ih (b:=b) (w:=w+1);have h2:=HD (d:=d) (hi:=nth os (b+1)) (f:=300) (x:=nth os b);rw[yd,bt,fj];omega
 intro k
 induction k with
 |zero=>intro b;exact ai _
 |succ k ih =>
  intro b;have h1:=ih (b:=b+1);have h2:=hw (n:=n) (b:=b) (w:=first);rw[tL,bt];omega
def ajy {id:Nat}(h:1<=id∧id<=11):i9 id:=⟨h.1,o_⟩
section
variable (b:C_)(hb:b.length<=1000000000)(rt:Nat)(hrt:rt<=11)(i:ay)(hm:i.may rt)(S:I_)(c0 c6 c7 c8:AV)
include hb hrt hm
theorem anj (g:Nat)(l:V_)(hSl:S.length<=100)(hg:(aV S)[g]?=some [.lst (dH l)])(hgl:g<S.length)(hll:l.length<=1000)(n:Int)(hn:i.groups[g]?=some n)(hpl:∀p∈nz (offs rt i.short) S i.groups 0,(1<=p.1∧p.1<=11)∧p.2+bh p.1<=256):∀(r:V_) (k bd a N:Nat) (Z:G_),l.drop k=r->fitsS (i.max-bd) r->Z.length=256->a<=b.length->2<=N->(∀p∈xL (offs rt i.short) n.toNat (jc i.groups g) r bd,p∈nz (offs rt i.short) S i.groups 0)->
  (∀Z' a',cu b (xL (offs rt i.short) n.toNat (jc i.groups g) r bd) a Z=.ok Z' a'->∃M,N<=M∧(Dn prog).code (.loop b8) ⟨GV b a rt g bd k [],⟨xi (EO c0 i S c6 c7 c8) Z [],N⟩⟩ =
   some (.exit 2,⟨XL b a' rt g [],⟨xi (EO c0 i S c6 c7 c8) Z' [],M⟩⟩)∧Z'.length=256∧a'<=b.length)∧
  (∀e,cu b (xL (offs rt i.short) n.toNat (jc i.groups g) r bd) a Z=.er e->∃Z' M,(Dn prog).code (.loop b8) ⟨GV b a rt g bd k [],⟨xi (EO c0 i S c6 c7 c8) Z [],N⟩⟩ =
   some (.ret,⟨[(8,.nl),(9,A_ 0),(10,A_ (e+1))],⟨[(1,.arr 1 (am Z'))],M⟩⟩)):=by
 have hla:=I6 (l:=l);have hlS:=xt (g:=S);have hm11:=kZ hrt hm;have hmx:=ud hm11;obtain⟨g1,g2⟩:=fu hm11;have hn8:=g1 n (iO hn);intro r
 induction r with
 |nil =>
  intro k bd a N Z hj hf hZ ha hN _;have hjl:l.length<=k:=aO.1 hj;refine⟨λZ' a' h=>?_,λe h=>absurd h (by simp[cu,xL])⟩;rw[xL,cu]at h;injection h with h1 h2
  subst h1 h2;refine⟨N,ai _,?_,hZ,ha⟩;rw[ah fY];simp(maxSteps:=9^6)(disch:=omega)[↓ac,↓aa,-getElem?_pos,hla,hlS,hg]
 |cons s r ih =>
  intro k bd a N Z hj hf hZ ha hN hin;have hjl:k<l.length:=by
   rcases bH k l.length with h|h
   .exact h
   .rw[aO.2 h]at hj;exact absurd hj (by simp)
  have hs:=Aw hj;have hdn:l.drop (k+1)=r:=by rw[<-cJ,hj];rfl
  obtain⟨⟨⟨s1,s2⟩,s3⟩,s4⟩:=hf;obtain⟨sb,sl⟩:=s;simp only at s1 s2 s3 s4 hs;have hob:(0<=sb∧sb<=11)∨sb=13:=by unfold adW at s3;omega
  obtain⟨id,rfl⟩:=az (show 0<=sb by omega);obtain⟨ln,rfl⟩:=az (show 0<=sl by omega);have hP:=YO id o_;have c1:((k+1:Nat):Int)=(k:Int)+1:=rfl;have c2:((bd+ln:Nat):Int)=(bd:Int)+ln:=o_;obtain⟨n0,n1,m0,m1,m2⟩:N≠0∧N≠1∧N+1≠0∧N+1≠1∧N+1≠N:=o_;have s5:fitsS (i.max-((bd+ln:Nat):Int)) r:=by
   rw[c2,show i.max-((bd:Int)+ln)=i.max-bd-ln by omega];exact s4
  rw[xL];rw[xL]at hin;simp only[ax]at hin⊢;by_cases h0:(id:Int)=0∨(id:Int)=13
  .rw[ac h0,aD]at hin⊢;have hfl:decide (0<id∧id<12)=false:=dF_ o_;rw[hfl]at hP;obtain⟨i1,i2⟩:=ih (k+1) (bd+ln) a (N+1) Z hdn s5 hZ ha o_ hin;have key:(Dn prog).code (.loop b8) ⟨GV b a rt g bd k [],⟨xi (EO c0 i S c6 c7 c8) Z [],N⟩⟩ =
     (Dn prog).code (.loop b8) ⟨GV b a rt g ((bd+ln:Nat):Int) ((k+1:Nat):Int) [],⟨xi (EO c0 i S c6 c7 c8) Z [],N+1⟩⟩:=by
    clear ih i1 i2;rw[c1,c2,ah fY];simp(maxSteps:=9^6)(disch:=omega)[↓ac,↓aa,-getElem?_pos,hla,hlS,hg,hs,hP,n0,n1]
   rw[key];refine⟨λZ' a' h=>?_,i2⟩;obtain⟨M,hM,q⟩:=i1 Z' a' h;exact⟨M,o_,q⟩
  .rw[aa h0]at hin⊢;have hid:1<=id∧id<=11:=o_;have hfl:decide (0<id∧id<12)=true:=dT_ o_;rw[hfl]at hP;have hB:=ack id (ajy hid);have hpp:=V4 rt hrt i hm g bd id ln hid n hn o_;have hbl:=ag1 (os:=offs rt i.short) (d:=bh id) (n:=n.toNat) (first:=jc i.groups g) o_ (k:=ln) (b:=bd);obtain⟨l1,l2⟩:=anY b hb rt g bd k (EO c0 i S c6 c7 c8) id hid N (N+1) (N+1+1) hN o_ (.cells [A_ id,A_ ln]) (tL (offs rt i.short) (bh id) n.toNat (jc i.groups g) ln bd) o_ (λp hp=>(hpl (id,p) (hin _ (bT _ (dt.2 ⟨p,hp,rfl⟩)))).2) _ 0 a Z rfl hZ ha;have cz:((0:Nat):Int)=0:=rfl;rw[cz]at l1 l2;rw[Hz]
   cases hL:cu b ((tL (offs rt i.short) (bh id) n.toNat (jc i.groups g) ln bd).map λx=>(id,x)) a Z with
   |er e =>
    refine⟨λZ' a' h=>absurd h s_,λe' h=>?_⟩;rw[cg]at h;injection h with h
    subst h;obtain⟨Z',hq⟩:=l2 e hL;refine⟨Z',N+1+1,?_⟩;clear ih l1 l2;rw[ah fY];generalize tL (offs rt i.short) (bh id) n.toNat (jc i.groups g) ln bd=PL at *;simp only[ay.cells,uh,jq]at hpp hB hq⊢;generalize bG id=es at *;generalize dE id=rs at *;simp(maxSteps:=9^6)(disch:=omega)[↓ac,↓aa,-getElem?_pos,hla,hlS,hg,hs,hP,hB,hpp,hq,n0,n1,m0,m1,m2]
   |ok Z1 a1 =>
    obtain⟨hq,hZ1,ha1⟩:=l1 Z1 a1 hL;obtain⟨i1,i2⟩:=ih (k+1) (bd+ln) a1 (N+1+1) Z1 hdn s5 hZ1 ha1 o_ (λp hp=>hin p (dg _ hp));have key:(Dn prog).code (.loop b8) ⟨GV b a rt g bd k [],⟨xi (EO c0 i S c6 c7 c8) Z [],N⟩⟩ =
      (Dn prog).code (.loop b8) ⟨GV b a1 rt g ((bd+ln:Nat):Int) ((k+1:Nat):Int) [],⟨xi (EO c0 i S c6 c7 c8) Z1 [],N+1+1⟩⟩:=by
     clear ih i1 i2 l1 l2;rw[c1,c2,ah fY];generalize tL (offs rt i.short) (bh id) n.toNat (jc i.groups g) ln bd=PL at *;simp only[ay.cells,uh,jq]at hpp hB hq⊢;generalize bG id=es at *;generalize dE id=rs at *;simp(maxSteps:=9^6)(disch:=omega)[↓ac,↓aa,-getElem?_pos,hla,hlS,hg,hs,hP,hB,hpp,hq,n0,n1,m0,m1,m2]
    rw[key,au];refine⟨λZ' a' h=>?_,i2⟩;obtain⟨M,hM,q⟩:=i1 Z' a' h;exact⟨M,o_,q⟩
end
def Xs:∀{gs:G_}{g:Nat}{n:Int}{r:G_},gs.drop g=n::r->jc gs (g+1)=jc gs g+n.toNat
 |[],g,n,r,h=>by simp at h
 |m::gs,0,n,r,h=>by
  simp only[j8,List.cons.injEq]at h;obtain⟨rfl,rfl⟩:=h;rw[jc,jc]
  cases gs<;>simp[jc]
 |m::gs,g+1,n,r,h=>by
  rw[List.drop_succ_cons]at h;have:=Xs h;rw[jc,this,jc];omega
section
variable (b:C_)(hb:b.length<=1000000000)(rt:Nat)(hrt:rt<=11)(i:ay)(hm:i.may rt)(S:I_)(hS:Aa i S)(c0 c6 c7 c8:AV)
include hb hrt hm hS
theorem aos (hpl:∀p∈nz (offs rt i.short) S i.groups 0,(1<=p.1∧p.1<=11)∧p.2+bh p.1<=256):∀(R:I_) (g a N:Nat) (Z:G_),S.drop g=R->Z.length=256->a<=b.length->2<=N->(∀p∈nz (offs rt i.short) R (i.groups.drop g) (jc i.groups g),p∈nz (offs rt i.short) S i.groups 0)->
  (∀Z' a',cu b (nz (offs rt i.short) R (i.groups.drop g) (jc i.groups g)) a Z=.ok Z' a'->∃M,N<=M∧(Dn prog).code (.loop cO) ⟨XL b a rt g [],⟨xi (EO c0 i S c6 c7 c8) Z [],N⟩⟩ =
   some (.exit 0,⟨[(1,A_ a'),(11,.sl 1 0 256)],⟨[(1,.arr 1 (am Z'))],M⟩⟩)∧Z'.length=256∧a'<=b.length)∧
  (∀e,cu b (nz (offs rt i.short) R (i.groups.drop g) (jc i.groups g)) a Z=.er e->∃Z' M,(Dn prog).code (.loop cO) ⟨XL b a rt g [],⟨xi (EO c0 i S c6 c7 c8) Z [],N⟩⟩ =
   some (.ret,⟨[(8,.nl),(9,A_ 0),(10,A_ (e+1))],⟨[(1,.arr 1 (am Z'))],M⟩⟩)):=by
 have hlS:=xt (g:=S);have hm11:=kZ hrt hm;have hmx:=ud hm11;obtain⟨g1,g2⟩:=fu hm11;have hsp:=ni (λn hn=>(g1 n hn).1);have hmn:=jH i;have hSl:S.length=i.groups.length:=hS.1;intro R
 induction R with
 |nil =>
  intro g a N Z hj hZ ha hN _;have hjl:S.length<=g:=aO.1 hj;refine⟨λZ' a' h=>?_,λe h=>absurd h (by rw[show nz (offs rt i.short) [] (i.groups.drop g) (jc i.groups g)=[] by cases i.groups.drop g<;>rfl,cu];simp)⟩;rw[show nz (offs rt i.short) [] (i.groups.drop g) (jc i.groups g)=[] by cases i.groups.drop g<;>rfl,cu]at h;injection h with h1 h2
  subst h1 h2;refine⟨N,ai _,?_,hZ,ha⟩;rw[ah jI];simp(maxSteps:=9^6)(disch:=omega)[↓ac,↓aa,-getElem?_pos,hlS]
 |cons l R ih =>
  intro g a N Z hj hZ ha hN hin;have hgl:g<S.length:=by
   rcases bH g S.length with h|h
   .exact h
   .rw[aO.2 h]at hj;exact absurd hj (by simp)
  have hg:=tM hj;have hdn:S.drop (g+1)=R:=by rw[<-cJ,hj];rfl
  obtain⟨n,G,hG⟩:∃n G,i.groups.drop g=n::G:=by
   cases h:i.groups.drop g with
   |nil=>have:=aO.1 h;omega
   |cons n G=>exact⟨n,G,rfl⟩
  have hGn:i.groups.drop (g+1)=G:=by rw[<-cJ,hG];rfl
  have hn:i.groups[g]?=some n:=by
   have:=aX (λl=>l[0]?) hG;simpa [cB] using this
  have hfl:=hS.2 l (by rw[<-bM g S,hj];simp);have hll:=(Ku hfl hmx.1)
  have hl1000:l.length<=1000:=by
   have:∀{l:V_}{lf:Int},fitsS lf l->(l.length:Int)<=lf:=by
    intro l
    induction l with
    |nil=>intro lf h;simp only[fitsS]at h;simp;omega
    |cons s r ih =>
     intro lf h;have h1:=ih h.2;have h2:=h.1.1.1;simp only[aE];omega
   have:=this hfl;omega
  rw[hG,nz]at hin⊢;have hsuc:=Xs hG;have c0':((0:Nat):Int)=0:=rfl;obtain⟨j1,j2⟩:=anj b hb rt hrt i hm S c0 c6 c7 c8 g l o_ hg hgl hl1000 n hn hpl l 0 0 a N Z rfl (by rw[c0',Int.sub_zero];exact hfl) hZ ha hN (λp hp=>hin p (bT _ hp));rw[c0']at j1 j2;rw[Hz];have c1:((g+1:Nat):Int)=(g:Int)+1:=rfl
  cases hL:cu b (xL (offs rt i.short) n.toNat (jc i.groups g) l 0) a Z with
  |er e =>
   refine⟨λZ' a' h=>absurd h s_,λe' h=>?_⟩;rw[cg]at h;injection h with h
   subst h;obtain⟨Z',M,hq⟩:=j2 e hL;refine⟨Z',M,?_⟩;clear ih j1 j2;rw[ah jI];simp(maxSteps:=9^6)(disch:=omega)[↓ac,↓aa,-getElem?_pos,hlS,hq]
  |ok Z1 a1 =>
   obtain⟨M1,hM1,hq,hZ1,ha1⟩:=j1 Z1 a1 hL;have h5:=ih (g+1) a1 M1 Z1 hdn hZ1 ha1 o_;rw[hGn,hsuc]at h5;obtain⟨i1,i2⟩:=h5 (λp hp=>hin p (dg _ hp));have key:(Dn prog).code (.loop cO) ⟨XL b a rt g [],⟨xi (EO c0 i S c6 c7 c8) Z [],N⟩⟩ =
     (Dn prog).code (.loop cO) ⟨XL b a1 rt ((g+1:Nat):Int) [],⟨xi (EO c0 i S c6 c7 c8) Z1 [],M1⟩⟩:=by
    clear ih i1 i2 h5 j1 j2;rw[c1,ah jI];simp(maxSteps:=9^6)(disch:=omega)[↓ac,↓aa,-getElem?_pos,hlS,hq]
   rw[key,au];refine⟨λZ' a' h=>?_,i2⟩;obtain⟨M,hM,q⟩:=i1 Z' a' h;exact⟨M,o_,q⟩
end
abbrev abK (x:R G_):L_:=match x with
 |.ok Z n=>some (.tup [.own true 1 (am Z),A_ n,A_ 0])
 |.er e=>some (.tup [.nl,A_ 0,A_ (e+1)])
def Qu (b:C_)(hb:b.length<=1000000000)(rt:Nat)(hrt:rt<=11)(i:ay)(hm:i.may rt)(S:I_)(hS:Aa i S)(x0 x6 x7:D)(a:Nat)(ha:a<=b.length) :
  bl prog lg [.d (.lst (aT b)),A_ a,A_ rt,.agg (EO (.d x0) i S (.d x6) (.d x7) .nl)]=abK (cu b (JB rt i S) a Z0):=by
 have hk:Dp [.int .i64 0] (A_ 256) (A_ 256)=some (.own true 1 (am Z0)):=(xF (z:=[.int .i64 0]) (n:=256) o_).trans (by simp[am]);have hz2:(am Z0).length=256:=by rw[cx,ca]
 have hpl:∀p∈nz (offs rt i.short) S i.groups 0,(1<=p.1∧p.1<=11)∧p.2+bh p.1<=256:=λp hp=>O7 hm hS hrt hp
 obtain⟨h1,h2⟩:=aos b hb rt hrt i hm S hS (.d x0) (.d x6) (.d x7) .nl hpl S 0 a 2 Z0 rfl s_ ha (ai _) (λp hp=>by rw[show jc i.groups 0=0 by cases i.groups<;>rfl]at hp;exact hp);have e0:i.groups.drop 0=i.groups:=rfl;have e1:jc i.groups 0=0:=by cases i.groups<;>rfl
 rw[e0,e1]at h1 h2;have c0:((0:Nat):Int)=0:=rfl;rw[c0]at h1 h2;rw[aM CT CZ rfl];show _=abK (cu b (nz (offs rt i.short) S i.groups 0) a Z0);generalize hz:am Z0=z0 at *
 cases hL:cu b (nz (offs rt i.short) S i.groups 0) a Z0 with
 |ok Z n =>
  obtain⟨M,hM,hq,hZ,ha'⟩:=h1 Z n hL;have hzl:=cx (l:=Z);have hZt:List.take 256 Z=Z:=bw o_;simp only[XL,xi,hz]at hq;simp(maxSteps:=9^6)(disch:=omega)[↓ac,↓aa,-getElem?_pos,hk,hz2,hq,hzl,hZt]
 |er e =>
  obtain⟨Z',M,hq⟩:=h2 e hL;simp only[XL,xi,hz]at hq;simp(maxSteps:=9^6)(disch:=omega)[↓ac,↓aa,-getElem?_pos,hk,hz2,hq]
end Go.Vm
end
