import Derived.Test.YtlkdijocbcbcpaaGreatP7
set_option linter.unusedVariables false
set_option linter.unusedSimpArgs false
set_option linter.defProp false
set_option linter.unusedSectionVars false
noncomputable section
namespace Go.Vm
set_option maxRecDepth 100000
set_option maxHeartbeats 8000000
def OZ (xs:C_):AV:=match xs with
 |[]=>.nl
 |x::r=>.own true 1 (ax (x::r))
def agH (h:ak)(xs:C_):eY h (al 1 (ax xs))=some (OZ xs):=by
 cases xs with
 |nil=>rfl
 |cons x r =>
  have hf:iV (.own false 1 (ax (x::r)))=true:=by
   show((ax (x::r)).all λe=>e.all jf)=true;rw[bF];intro e he;simp only[ax,cX]at he;obtain⟨y,_,rfl⟩:=he;rfl
  show some (et (.own false 1 (ax (x::r))))=_;rw[et,hf];rfl
@[simp] def aFa {xs:C_}:firm (OZ xs)=al 1 (ax xs):=by cases xs<;>rfl
def acx {n:Nat}:∀{k:Nat},bh n (k+1)=bh (n / 2) k++[n % 2]
 |0=>by simp[bh]
 |k+1=>by
  rw[bh,acx,bh];rw[Nat.div_div_eq_div_mul,cR,eK];rfl
def XN:∀(k n:Nat),k<=60->n<=4611686018427387904->bn prog DA [A_ n,A_ k]=some (OZ (bh n k))
 |0,n,hk,hn=>by
  have c0:((0:Nat):Int)=0:=rfl;rw[aL D6 Ef rfl,c0];simp(maxSteps:=9^6)(disch:=omega)[↓ac,↓aa,bh,OZ]
 |k+1,n,hk,hn=>by
  have h:=XN k (n / 2) o_ o_;obtain⟨q,hq⟩:∃q,q=n / 2:=⟨_,rfl⟩
  obtain⟨m,hm⟩:∃m,m=n % 2:=⟨_,rfl⟩
  rw[<-hq]at h;have c1:((k+1:Nat):Int)-1=(k:Int):=o_;have c2:((n:Nat):Int).tdiv 2=(q:Int):=by
   rw[rV (mo _)];omega
  have c3:((n:Nat):Int).tmod 2=(m:Int):=by
   rw[rH (mo _)];omega
  have hl:=fJ (l:=bh q k);have hpl:=xA (n:=q) (k:=k);have e:al 1 (ax (bh q k++[m]))=.own false 1 (ax (bh q k)++[[.int .u8 (m:Int)]]):=by
   rw[show ax (bh q k++[m])=ax (bh q k)++[[.int .u8 (m:Int)]] by simp[ax],dy]
  have hr:=λh=>agH h (bh q k++[m])
  simp only[e]at hr;have hm2:m<2:=o_;have hq2:q<=4611686018427387904:=o_;rw[aL D6 Ef rfl,acx,<-hq,<-hm];clear hq hm;generalize bh q k=L at *;simp(maxSteps:=9^6)(disch:=omega)[↓ac,↓aa,c1,c2,c3,h,hr]
  cases L<;>rfl
def afi {l:C_}{i x:Nat}{r:C_}(h:l.drop i=x::r):(ax l)[i]?=some [.int .u8 (x:Int)]:=by
 have:=aY (λl=>l[0]?) h;simp only[bx,bK,cS]at this;rw[ax,bM,this];rfl
def anG (l:C_)(hl:l.length<=100000)(hl2:∀x∈l,x<=255)(N:Nat):∀(r:C_) (i:Nat) (acc:C_),l.drop i=r->acc.length<=8*i->
  (Dn prog).code (.loop kb) ⟨[(0,.d (.lst (ax l))),(3,al 1 (ax acc)),(4,A_ i)],⟨[],N⟩⟩ =
  some (.exit 0,⟨[(3,al 1 (ax (acc++gj r)))],⟨[],N⟩⟩):=by
 have hla:=fJ (l:=l);intro r
 induction r with
 |nil =>
  intro i acc hj _;have hjl:l.length<=i:=aU.1 hj;rw[ah oH,show gj []=[] from rfl,aR];simp(maxSteps:=9^6)(disch:=omega)[↓ac,↓aa,hla]
 |cons x r ih =>
  intro i acc hj ha;have hjl:=ed hj;have hx:=afi hj;have hx2:=hl2 x (cU (by rw[hj];exact .head _));have h5:=ih (i+1) (acc++bh x 8) (dU hj) t_;have c1:((i+1:Nat):Int)=(i:Int)+1:=rfl;have hB:=XN 8 x o_ o_;have c8:((8:Nat):Int)=8:=rfl;obtain⟨y,t,hy⟩:∃y t,bh x 8=y::t:=⟨_,_,rfl⟩
  have hrt:OZ (bh x 8)=.own true 1 (ax (bh x 8)):=by rw[hy];rfl
  rw[c8,hrt]at hB;have hbl:=fJ (l:=acc);have hpl:=xA (n:=x) (k:=8);have hp2:=fJ (l:=bh x 8);obtain⟨w,w1,w2⟩:=axP (m:=1) (xs:=ax acc) (ys:=ax (bh x 8)) o_;have e1:ax acc++ax (bh x 8)=ax (acc++bh x 8):=by simp[ax]
  rw[e1]at w2;rw[c1,aw]at h5;rw[show gj (x::r)=bh x 8++gj r from rfl,<-h5,ah oH];clear h5 ih e1;simp(maxSteps:=9^6)(disch:=omega)[↓ac,↓aa,-getElem?_pos,hla,hx,hB,w1,w2]
def SU (l:C_)(hl:l.length<=100000)(hl2:∀x∈l,x<=255)(X:AV)(hX:kW X (ax l)):bn prog sj [X]=some (OZ (gj l)):=by
 rcases hX with rfl|⟨rfl,hn⟩
 .have h:=anG l hl hl2 0 l 0 [] rfl s_;have c0:((0:Nat):Int)=0:=rfl;have n0:ax []=[]:=rfl;rw[c0,n0,dH,az]at h;rw[aL AP BD rfl];generalize gj l=U at *;simp(maxSteps:=9^6)(disch:=omega)[↓ac,↓aa,h,agH]
 .have hl0:l=[]:=by simpa [ax] using hn
  subst hl0;have e:OZ (gj [])=.nl:=rfl;rw[aL AP BD rfl,e];simp(maxSteps:=9^6)(disch:=omega)[↓ac,↓aa,ah oH]
def KM (rt n:Int)(cb:Bool)(cz:Int):(vp rt n∧bn prog ka [sP rt n cb cz]=some (B_ true))∨(¬vp rt n∧bn prog ka [sP rt n cb cz]=some (B_ false)):=by
 unfold vp;simp only[sP];rw[aL IF IJ rfl];by_cases h1:0<=rt
 .by_cases h2:rt<=11
  .by_cases h3:n=1
   .refine .inl ⟨o_,?_⟩;subst h3;simp(maxSteps:=9^6)(disch:=omega)[↓ac,↓aa]
   .by_cases h4:n=2
    .refine .inl ⟨o_,?_⟩;subst h4;simp(maxSteps:=9^6)(disch:=omega)[↓ac,↓aa]
    .refine .inr ⟨o_,?_⟩;simp(maxSteps:=9^6)(disch:=omega)[↓ac,↓aa,h3,h4]
  .refine .inr ⟨o_,?_⟩;simp(maxSteps:=9^6)(disch:=omega)[↓ac,↓aa]
 .refine .inr ⟨o_,?_⟩;simp(maxSteps:=9^6)(disch:=omega)[↓ac,↓aa]
abbrev hq (C F I:D_)(T:ak)(c:D_):ak:=(0,.cells C)::(1,.cells zF)::(2,.cells c)::(3,.cells F)::(4,.cells I)::T
def abo (C F I:D_)(T:ak):Hr (hq C F I T) 2:=⟨λc=>by simp,λc d=>by simp⟩
section
variable (b:C_)(hb:b.length<=1000000000)(C:D_)(f0 f1 f4:AV)(I:D_)(i0 i1 i3:AV)(mx:Nat)(hm:mx<=1000)(A B:Nat)(hA:5<=A)(hB:A<B)(N:Nat)(oA:Obj)
include hb hm hA hB
theorem az4 (F:D_)(y10:D):∀(k i:Nat) (acc:Y_) (s:Nat×Nat),i+k=mx->acc.length=i->s.1<=b.length->
  (Dn prog).code (.loop j9) ⟨[(0,.ptr 2 0),(2,.ptr 3 0),(6,.ptr A 0),(7,.ptr B 0),(10,.d y10),(11,al 1 (mj acc)),(12,A_ i)],⟨hq C F I [(A,oA),(B,.cells [i0,i1,A_ mx,i3])] (aX b s),N⟩⟩ =
  some (.exit 2,⟨[(0,.ptr 2 0),(2,.ptr 3 0),(6,.ptr A 0),(7,.ptr B 0),(10,.d y10),(11,al 1 (mj (acc++(fD b k s).1)))],⟨hq C F I [(A,oA),(B,.cells [i0,i1,A_ mx,i3])] (aX b (fD b k s).2),N⟩⟩):=by
 intro k
 induction k with
 |zero =>
  intro i acc s hi hl hs;have:i=mx:=o_;subst this;rw[ah xy,fD,aR];simp(maxSteps:=9^6)(disch:=omega)[↓ac,↓aa]
 |succ k ih =>
  intro i acc s hi hl hs;have h1:=rC (abo C F I [(A,oA),(B,.cells [i0,i1,A_ mx,i3])]) b hb s hs 1 N;have h5:=λx=>ih (i+1) (acc++[x]) (gT b s 1).2 o_ t_ (jU hs)
  have c1:((i+1:Nat):Int)=(i:Int)+1:=rfl;have hla:=Ml (l:=acc);have hsn:∀x,mj (acc++[x])=mj acc++[[.bool x]]:=λx=>by simp[mj]
  rw[c1]at h5;rw[fD];generalize gT b s 1=g at *;obtain⟨x,s1⟩:=g;simp only at h1 h5⊢;have h5:=h5 (decide (x=1));rw[aw,hsn,dy]at h5;rw[show acc++decide (x=1)::(fD b k s1).1=acc++([decide (x=1)]++(fD b k s1).1) from rfl,<-h5,ah xy];clear h5 ih hsn;simp only[hq,aX]at h1⊢;have n0:(A≠0∧A≠1∧A≠2∧A≠3∧A≠4)∧(B≠0∧B≠1∧B≠2∧B≠3∧B≠4)∧B≠A:=o_;by_cases hx:x=1
  .rw[dT_ hx];have hx2:(x:Int)=1:=o_;simp(maxSteps:=9^6)(disch:=omega)[↓ac,↓aa,h1,hx2,n0]
  .rw[dF_ hx];have hx2:¬(x:Int)=1:=o_;simp(maxSteps:=9^6)(disch:=omega)[↓ac,↓aa,h1,hx2,n0]
theorem anM (f3:AV)(mk g:Int)(gs:E_)(hgl:gs.length<=1000)(g0:0<=g)(h:mk≠1∨(gs.length:Int)<=g)(c:D_) :
  (Dn prog).code (.loop fG) ⟨[(0,.ptr 2 0),(2,.ptr 3 0),(6,.ptr A 0),(7,.ptr B 0),(10,A_ g)],⟨hq C [f0,f1,A_ mk,f3,f4] I [(A,oA),(B,.cells [i0,i1,A_ mx,.own false 1 (am gs)])] c,N⟩⟩ =
  some (.exit 0,⟨[(6,.ptr A 0),(7,.ptr B 0)],⟨hq C [f0,f1,A_ mk,f3,f4] I [(A,oA),(B,.cells [i0,i1,A_ mx,.own false 1 (am gs)])] c,N⟩⟩):=by
 have hga:=dc (l:=gs);have n0:(A≠0∧A≠1∧A≠2∧A≠3∧A≠4)∧(B≠0∧B≠1∧B≠2∧B≠3∧B≠4)∧B≠A:=o_;rw[ah xc];simp only[hq];by_cases h1:(gs.length:Int)<=g
 .simp(maxSteps:=9^6)(disch:=omega)[↓ac,↓aa,hga,n0]
 .have h2:mk≠1:=h.resolve_right h1;simp(maxSteps:=9^6)(disch:=omega)[↓ac,↓aa,hga,n0,h2]
theorem ay1 (gs:E_)(hgl:gs.length<=1000):∀(k g:Nat) (acc:T_) (s:Nat×Nat),g+k=gs.length->acc.length=g->s.1<=b.length->
  (Dn prog).code (.loop fG) ⟨[(0,.ptr 2 0),(2,.ptr 3 0),(6,.ptr A 0),(7,.ptr B 0),(10,A_ g)],⟨hq C [f0,f1,A_ 1,al 1 (cx acc),f4] I [(A,oA),(B,.cells [i0,i1,A_ mx,.own false 1 (am gs)])] (aX b s),N⟩⟩ =
  some (.exit 0,⟨[(6,.ptr A 0),(7,.ptr B 0)],⟨hq C [f0,f1,A_ 1,al 1 (cx (acc++(u7 b mx k s).1)),f4] I [(A,oA),(B,.cells [i0,i1,A_ mx,.own false 1 (am gs)])] (aX b (u7 b mx k s).2),N⟩⟩):=by
 intro k
 induction k with
 |zero =>
  intro g acc s hi hl hs;rw[u7,aR];exact anM b hb C f0 f1 f4 I i0 i1 mx hm A B hA hB N oA (al 1 (cx acc)) 1 g gs hgl o_ (.inr o_) (aX b s)
 |succ k ih =>
  intro g acc s hi hl hs;have h0:=az4 b hb C I i0 i1 (.own false 1 (am gs)) mx hm A B hA hB N oA [f0,f1,A_ 1,al 1 (cx acc),f4] (.int .i64 g) mx 0 [] s o_ rfl hs;have hle:(fD b mx s).2.1<=b.length:=T6 hs;have h5:=ih (g+1) (acc++[(fD b mx s).1]) (fD b mx s).2 o_ t_ hle;have c1:((g+1:Nat):Int)=(g:Int)+1:=rfl;have c0:((0:Nat):Int)=0:=rfl;have n00:mj []=[]:=rfl;have hga:=dc (l:=gs);have hla:=WD (t:=acc);rw[c1]at h5;rw[u7];rw[c0,n00,dH,az]at h0;generalize fD b mx s=g1 at *;obtain⟨r,s1⟩:=g1;simp only at h0 h5 hle⊢;rw[aw,acu,dy]at h5;rw[show acc++r::(u7 b mx k s1).1=acc++([r]++(u7 b mx k s1).1) from rfl,<-h5,ah xc];clear h5 ih;have n0:(A≠0∧A≠1∧A≠2∧A≠3∧A≠4)∧(B≠0∧B≠1∧B≠2∧B≠3∧B≠4)∧B≠A:=o_;simp only[hq,aX]at h0⊢;generalize mj r=R at *;generalize cx acc=Z at *
  cases R<;>cases Z<;>simp(maxSteps:=9^6)(disch:=omega)[↓ac,↓aa,hga,h0,n0]
end
def RJ (b:C_)(m:Nat):Nat:=(gT b (m,0) 2).1
def Jn (b:C_)(m:Nat):Nat×Nat:=kT (gT b (m,0) 2).2 (((gT b (m,0) 2).1:Int)<3)
def KU (b:C_)(i:aG)(m:Nat):T_×Nat×Nat:=if RJ b m=1 then u7 b i.max.toNat i.groups.length (Jn b m) else ([],Jn b m)
abbrev fT0 (q:Bool):D_:=[.nl,B_ q,A_ 0,.nl,.nl]
abbrev fT1 (k:Nat)(w:T_):D_:=[.nl,B_ true,A_ k,al 1 (cx w),.nl]
section
variable (b:C_)(hb:b.length<=1000000000)(r:Nat)(hr:r<=11)(C:D_)
include hb hr
theorem ayX (a e:Nat)(ha:a<=b.length)(he:fW b a r=.er e) :
  (Dn prog).call jo [.ptr 2 0,A_ r,.ptr 3 0] ⟨hq C (fT0 true) zI [] (aX b (a,0)),5⟩=some (.agg zI,⟨hq C (fT0 true) zI [] (aX b (a,e+1)),7⟩):=by
 have h2:=KE b a r hb o_;rw[ac o_,au,he,ee]at h2;have c0:((0:Nat):Int)=0:=rfl;have ce:((e+1:Nat):Int)=(e:Int)+1:=rfl;rw[bC Bz Bt rfl];simp only[hq,aX,c0,ce];simp(maxSteps:=9^6)(disch:=omega)[↓ac,↓aa,h2]
theorem azt (a:Nat)(ha:a<=b.length)(i:aG)(m:Nat)(he:fW b a r=.ok i m) :
  (Dn prog).call jo [.ptr 2 0,A_ r,.ptr 3 0] ⟨hq C (fT0 true) zI [] (aX b (a,0)),5⟩=some (.agg [.d (.int .u8 i.seq),.d (.int .u8 i.shape),A_ i.max,.own false 1 (am i.groups)],⟨hq C (fT1 (RJ b m) (KU b i m).1) zI [] (aX b (KU b i m).2),7⟩):=by
 have hp:=xI hr he;have h2:=KE b a r hb o_;rw[ac o_,au,he,b9 hp]at h2;have hmx:=mW (iY hr hp.1);obtain⟨M,hM⟩:∃M:Nat,M=i.max.toNat:=⟨_,rfl⟩
 have hMi:i.max=(M:Int):=o_;have T1:ak:=[(5,.cells zI),(6,.cells [.d (.int .u8 i.seq),.d (.int .u8 i.shape),A_ i.max,.own false 1 (am i.groups)])]
 have g1:=rC (abo C (fT0 true) zI [(5,.cells zI),(6,.cells [.d (.int .u8 i.seq),.d (.int .u8 i.shape),A_ i.max,.own false 1 (am i.groups)])]) b hb (m,0) hp.2.1 2 7;have g2:=GQ (abo C [.nl,B_ true,A_ (RJ b m),.nl,.nl] zI [(5,.cells zI),(6,.cells [.d (.int .u8 i.seq),.d (.int .u8 i.shape),A_ i.max,.own false 1 (am i.groups)])]) b (gT b (m,0) 2).2 (((gT b (m,0) 2).1:Int)<3) 7;have hS:kT (gT b (m,0) 2).2 (((gT b (m,0) 2).1:Int)<3)=Jn b m:=rfl;have hK:(gT b (m,0) 2).1=RJ b m:=rfl;have hSl:(Jn b m).1<=b.length:=yE (jU hp.2.1);have hL:(Dn prog).code (.loop fG) ⟨[(0,.ptr 2 0),(2,.ptr 3 0),(6,.ptr 5 0),(7,.ptr 6 0),(10,A_ 0)],⟨hq C [.nl,B_ true,A_ (RJ b m),.nl,.nl] zI [(5,.cells zI),(6,.cells [.d (.int .u8 i.seq),.d (.int .u8 i.shape),A_ M,.own false 1 (am i.groups)])] (aX b (Jn b m)),7⟩⟩ =
   some (.exit 0,⟨[(6,.ptr 5 0),(7,.ptr 6 0)],⟨hq C (fT1 (RJ b m) (KU b i m).1) zI [(5,.cells zI),(6,.cells [.d (.int .u8 i.seq),.d (.int .u8 i.shape),A_ M,.own false 1 (am i.groups)])] (aX b (KU b i m).2),7⟩⟩):=by
  have e0:al 1 (cx [])=.nl:=rfl;have c0:((0:Nat):Int)=0:=rfl;unfold KU;by_cases h1:RJ b m=1
  .rw[ac h1,h1];have:=ay1 b hb C .nl (B_ true) .nl zI (.d (.int .u8 i.seq)) (.d (.int .u8 i.shape)) M o_ 5 6 o_ o_ 7 (.cells zI) i.groups (by have:=hp.2.2;omega) i.groups.length 0 [] (Jn b m) o_ rfl hSl;rw[e0,c0,az]at this;rw[<-hM];exact this
  .rw[aa h1];exact anM b hb C .nl (B_ true) .nl zI (.d (.int .u8 i.seq)) (.d (.int .u8 i.shape)) M o_ 5 6 o_ o_ 7 (.cells zI) .nl (RJ b m) 0 i.groups (by have:=hp.2.2;omega) (Int.le_refl _) (.inl o_) (aX b (Jn b m))
 have hg:=dc (l:=i.groups);have c0:((0:Nat):Int)=0:=rfl;rw[hS]at g2;generalize (KU b i m)=W at *;obtain⟨w,sw⟩:=W;generalize Jn b m=s5 at *;clear hS;generalize hk:RJ b m=kk at *;generalize gT b (m,0) 2=g at *;obtain⟨x,s4⟩:=g;simp only at hK g1 g2 hL;subst hK;rw[bC Bz Bt rfl];simp only[hq,aX,c0,hMi,HB]at h2 g1 g2 hL⊢;generalize am i.groups=Z at *;clear hp he;by_cases k1:(x:Int)<3
 .rw[dT_ k1]at g2;simp(maxSteps:=9^6)(disch:=omega)[↓ac,↓aa,h2,g1,g2,hL]
 .rw[dF_ k1]at g2;simp(maxSteps:=9^6)(disch:=omega)[↓ac,↓aa,h2,g1,g2,hL]
end
def xg:E_->Nat->E_
 |[],_=>[]
 |n::r,g=>List.replicate n.toNat (g:Int)++xg r (g+1)
def aAA (a0 a1 a2:AV)(gs:E_)(hgl:gs.length<=8)(g:Nat)(n:Int)(hg:(am gs)[g]?=some [.int .i64 n])(hgn:g<gs.length)(hn:0<=n∧n<=8)(N:Nat):∀(k j:Nat) (acc:E_),j+k=n.toNat->acc.length+k<=100->
  (Dn prog).code (.loop nj) ⟨[(1,.ptr 0 0),(3,al 1 (am acc)),(4,A_ g),(5,A_ j)],⟨[(0,.cells [a0,a1,a2,.d (.lst (am gs))])],N⟩⟩ =
  some (.exit 2,⟨[(1,.ptr 0 0),(3,al 1 (am (acc++List.replicate k (g:Int)))),(4,A_ g)],⟨[(0,.cells [a0,a1,a2,.d (.lst (am gs))])],N⟩⟩):=by
 have hla:=dc (l:=gs);intro k
 induction k with
 |zero =>
  intro j acc h1 h2;rw[ah Ct,List.replicate_zero,aR];simp(maxSteps:=9^6)(disch:=omega)[↓ac,↓aa,-getElem?_pos,hla,hg]
 |succ k ih =>
  intro j acc h1 h2;have h5:=ih (j+1) (acc++[(g:Int)]) o_ t_;have c1:((j+1:Nat):Int)=(j:Int)+1:=rfl;have hlb:=dc (l:=acc);rw[c1,aw,D3,dy]at h5;rw[ah Ct,cD,show acc++(g:Int)::List.replicate k (g:Int)=acc++([(g:Int)]++List.replicate k (g:Int)) from rfl,<-h5];clear h5 ih;simp(maxSteps:=9^6)(disch:=omega)[↓ac,↓aa,-getElem?_pos,hla,hlb,hg]
def azI (a0 a1 a2:AV)(gs:E_)(hgl:gs.length<=8)(hgs:∀n∈gs,0<=n∧n<=8)(N:Nat):∀(r:E_) (g:Nat) (acc:E_),gs.drop g=r->acc.length+8*r.length<=64->
  (Dn prog).code (.loop ng) ⟨[(1,.ptr 0 0),(3,al 1 (am acc)),(4,A_ g)],⟨[(0,.cells [a0,a1,a2,.d (.lst (am gs))])],N⟩⟩ =
  some (.exit 0,⟨[(3,al 1 (am (acc++xg r g)))],⟨[(0,.cells [a0,a1,a2,.d (.lst (am gs))])],N⟩⟩):=by
 have hla:=dc (l:=gs);intro r
 induction r with
 |nil =>
  intro g acc hj _;have hjl:gs.length<=g:=aU.1 hj;rw[ah CM,xg,aR];simp(maxSteps:=9^6)(disch:=omega)[↓ac,↓aa,hla]
 |cons n r ih =>
  intro g acc hj ha;have hjl:g<gs.length:=by
   rcases bD g gs.length with h|h
   .exact h
   .rw[aU.2 h]at hj;exact absurd hj (by simp)
  have hg:=IT hj;have hn:=hgs n (by rw[<-b8 g gs,hj];simp);have hdn:gs.drop (g+1)=r:=by rw[<-cW,hj];rfl
  simp only[ar]at ha;have h0:=aAA a0 a1 a2 gs hgl g n hg hjl hn N n.toNat 0 acc o_ o_;have h5:=ih (g+1) (acc++List.replicate n.toNat (g:Int)) hdn t_;have c1:((g+1:Nat):Int)=(g:Int)+1:=rfl;have c0:((0:Nat):Int)=0:=rfl;rw[c1,aw]at h5;rw[c0]at h0;rw[xg,<-h5,ah CM];clear h5 ih;simp(maxSteps:=9^6)(disch:=omega)[↓ac,↓aa,-getElem?_pos,hla,h0]
def ajo:∀{l:E_}{g:Nat},(∀n∈l,0<=n)->((xg l g).length:Int)=l.sum
 |[],_,_=>rfl
 |n::r,g,h=>by
  have:=ajo (l:=r) (g:=g+1) (λx hx=>h x (.tail _ hx));have:=h n (.head _);rw[xg,aN,bE,nW];omega
def ash (i:aG)(hm:i.may 11):bn prog GR [.agg i.cells]=some (afy (xg i.groups 0)):=by
 obtain⟨g1,g2⟩:=eR hm;have hmm:=km i;have hsp:=kU (λn hn=>(g1 n hn).1);have h:=azI (.d (.int .u8 i.seq)) (.d (.int .u8 i.shape)) (A_ i.max) i.groups o_ (λn hn=>by have:=g1 n hn;omega) 1 i.groups 0 [] rfl t_;have c0:((0:Nat):Int)=0:=rfl;have n0:am []=[]:=rfl;rw[c0,n0,dH,az]at h;rw[aL Sn SE rfl];simp(maxSteps:=9^6)(disch:=omega)[↓ac,↓aa,h,aG.cells,agf]
def akC (id:Nat)(h:1<=id∧id<=11):bn prog w5 [A_ id]=some (A_ (bt id)):=by
 rw[aL Rn Rt rfl];unfold bt;by_cases h5:id<5
 .rw[ac h5];simp(maxSteps:=9^6)(disch:=omega)[↓ac,↓aa]
 .rw[aa h5];simp(maxSteps:=9^6)(disch:=omega)[↓ac,↓aa]
def PI {d hi:Nat}:∀{f x:Nat},(qc d hi f x).length<=f
 |0,_=>ai _
 |f+1,x=>by
  rw[qc];split
  .have:=PI (d:=d) (hi:=hi) (f:=f) (x:=x+d);simp only[ar];omega
  .exact dp _
def CQ (os:C_)(d b:Nat)(g:Int):E_->Nat->C_
 |[],_=>[]
 |x::r,w=>(if x=g then (qc d (nth os (b+1)) 300 (nth os b)).map (λx=>w*32+x) else [])++CQ os d b g r (w+1)
def baQ (os:C_)(d:Nat)(g:Int)(IN:E_):Nat->Nat->C_
 |0,_=>[]
 |k+1,b=>CQ os d b g IN 0++baQ os d g IN k (b+1)
def aki {os:C_}{d b:Nat}{g:Int}:∀{l:E_}{w:Nat},(CQ os d b g l w).length<=300*l.length
 |[],_=>ai _
 |x::r,w=>by
  have h1:=aki (os:=os) (d:=d) (b:=b) (g:=g) (l:=r) (w:=w+1);have h2:=PI (d:=d) (hi:=nth os (b+1)) (f:=300) (x:=nth os b);rw[CQ,aN];split
  .simp only[gU,ar];omega
  .simp only[ck,ar];omega
section
variable (os:C_)(id:Nat)(hid:1<=id∧id<=11)(ln:Nat)(g b0:Nat)(IN:E_)(N P:Nat)
abbrev plS (os:C_)(g b0:Nat)(P:Nat)(IN:E_)(acc:C_)(b:Nat)(X:aT):aT:=(2,A_ g)::(3,A_ b0)::(9,.ptr P 0)::(11,.own false 1 (aS os))::(12,.own false 1 (am IN))::(13,al 1 (aS acc))::(14,A_ b)::X
abbrev plH (id:Nat)(ln:Nat)(P:Nat):ak:=[(P,.cells [A_ id,A_ ln])]
include hid
theorem aw7 (b b1 w:Nat)(hb1:b1=b+1)(hbl:b1<os.length)(hol:os.length<=1000)(hh:nth os b1<=256)(hw:w<=8):∀(f x:Nat) (acc:C_),nth os b1<=x+f->x<=1000->acc.length+f<=100000000->
  (Dn prog).code (.loop jZ) ⟨plS os g b0 P IN acc b [(15,A_ w),(16,A_ x)],⟨plH id ln P,N⟩⟩ =
  some (.exit 4,⟨plS os g b0 P IN (acc++((qc (bt id) (nth os b1) f x).map λx=>w*32+x)) b [(15,A_ w)],⟨plH id ln P,N⟩⟩):=by
 have hd:2<=bt id∧bt id<=4:=by unfold bt;split<;>omega
 have hD:=akC id hid;have cb:(b:Int)+1=(b1:Int):=o_;intro f
 induction f with
 |zero =>
  intro x acc h1 h2 h3;rw[ah n9,qc,List.map_nil,aR];generalize bt id=dm at *;simp(maxSteps:=9^6)(disch:=omega)[↓ac,↓aa,cb]
 |succ f ih =>
  intro x acc h1 h2 h3;rw[qc];by_cases hx:x<nth os b1
  .rw[ac hx];have h5:=ih (x+bt id) (acc++[w*32+x]) o_ o_ t_;have c1:((x+bt id:Nat):Int)=(x:Int)+(bt id:Nat):=o_;have c2:((w*32+x:Nat):Int)=(w:Int)*32+x:=o_;simp only[plS]at h5⊢;rw[c1,aw,Su,dy,c2]at h5;rw[bZ,show acc++(w*32+x)::(qc (bt id) (nth os b1) f (x+bt id)).map (λx=>w*32+x)=acc++([w*32+x]++(qc (bt id) (nth os b1) f (x+bt id)).map (λx=>w*32+x)) from rfl,<-h5];clear h5 ih;generalize bt id=dm at *;have hlb:=yf (l:=acc);rw[ah n9];simp(maxSteps:=9^6)(disch:=omega)[↓ac,↓aa,cb,hD]
  .rw[aa hx,List.map_nil,aR,ah n9];generalize bt id=dm at *;simp(maxSteps:=9^6)(disch:=omega)[↓ac,↓aa,cb]
theorem axd (b:Nat)(hbl:b+1<os.length)(hol:os.length<=1000)(hh:nth os (b+1)<=256)(hh0:nth os b<=256)(hI:IN.length<=8)(hIx:∀x∈IN,i64 x)(hg:g<=100):∀(r:E_) (w:Nat) (acc:C_),IN.drop w=r->acc.length+300*r.length<=10000000->
  (Dn prog).code (.loop j6) ⟨plS os g b0 P IN acc b [(15,A_ w)],⟨plH id ln P,N⟩⟩ =
  some (.exit 2,⟨plS os g b0 P IN (acc++CQ os (bt id) b g r w) b [],⟨plH id ln P,N⟩⟩):=by
 have hla:=dc (l:=IN);intro r
 induction r with
 |nil =>
  intro w acc hj _;have hjl:IN.length<=w:=aU.1 hj;rw[ah ot,CQ,aR];generalize bt id=dm at *;simp(maxSteps:=9^6)(disch:=omega)[↓ac,↓aa,hla]
 |cons n r ih =>
  intro w acc hj ha;have hjl:w<IN.length:=by
   rcases bD w IN.length with h|h
   .exact h
   .rw[aU.2 h]at hj;exact absurd hj (by simp)
  have hx:=IT hj;have hni:=hIx n (by rw[<-b8 w IN,hj];simp);have hdn:IN.drop (w+1)=r:=by rw[<-cW,hj];rfl
  simp only[ar]at ha;have c1:((w+1:Nat):Int)=(w:Int)+1:=rfl;rw[CQ];by_cases hn:n=(g:Int)
  .rw[ac hn];have hfl:=PI (d:=bt id) (hi:=nth os (b+1)) (f:=300) (x:=nth os b);have h0:=aw7 os id hid ln g b0 IN N P b (b+1) w rfl hbl hol hh o_ 300 (nth os b) acc o_ o_ o_;have h5:=ih (w+1) (acc++(qc (bt id) (nth os (b+1)) 300 (nth os b)).map (λx=>w*32+x)) hdn t_;rw[c1,aw]at h5;rw[<-h5];clear h5 ih;generalize acc++(qc (bt id) (nth os (b+1)) 300 (nth os b)).map (λx=>w*32+x)=acc2 at *;rw[hn]at hx;rw[ah ot];generalize bt id=dm at *;simp(maxSteps:=9^6)(disch:=omega)[↓ac,↓aa,-getElem?_pos,hla,hx,h0]
  .rw[aa hn,az];have h5:=ih (w+1) acc hdn o_;rw[c1]at h5;rw[<-h5];clear h5 ih;rw[ah ot];generalize bt id=dm at *;simp(maxSteps:=9^6)(disch:=omega)[↓ac,↓aa,-getElem?_pos,hla,hx]
theorem awt (hol:os.length<=1000)(hh:∀b,nth os b<=256)(hI:IN.length<=8)(hIx:∀x∈IN,i64 x)(hg:g<=100)(hlast:b0+ln<os.length):∀(k b:Nat) (acc:C_),b+k=b0+ln->acc.length+2400*k<=5000000->
  (Dn prog).code (.loop jX) ⟨plS os g b0 P IN acc b [],⟨plH id ln P,N⟩⟩ =
  some (.exit 0,⟨[(13,al 1 (aS (acc++baQ os (bt id) g IN k b)))],⟨[],N⟩⟩):=by
 intro k
 induction k with
 |zero =>
  intro b acc h1 h2;rw[ah xp,baQ,aR];generalize bt id=dm at *;simp(maxSteps:=9^6)(disch:=omega)[↓ac,↓aa]
 |succ k ih =>
  intro b acc h1 h2;have hwl:=aki (os:=os) (d:=bt id) (b:=b) (g:=g) (l:=IN) (w:=0);have h0:=axd os id hid ln g b0 IN N P b o_ hol (hh _) (hh _) hI hIx hg IN 0 acc rfl o_;have h5:=ih (b+1) (acc++CQ os (bt id) b g IN 0) o_ t_;have c1:((b+1:Nat):Int)=(b:Int)+1:=rfl;have c0:((0:Nat):Int)=0:=rfl;rw[c0]at h0;simp only[plS]at h0 h5⊢;rw[c1,aw]at h5;rw[baQ,<-h5];clear h5 ih;generalize acc++CQ os (bt id) b g IN 0=acc2 at *;generalize bt id=dm at *;rw[ah xp];simp(maxSteps:=9^6)(disch:=omega)[↓ac,↓aa,h0]
end
def aaP {os:C_}{d b:Nat}{g:Int}:∀{l r:E_}{w:Nat},CQ os d b g (l++r) w=CQ os d b g l w++CQ os d b g r (w+l.length)
 |[],r,w=>by simp[CQ]
 |x::l,r,w=>by
  rw[aK,CQ,CQ,aaP,aw,ar,cm,f9 1]
def afB {os:C_}{d b:Nat}{g:Int}:∀{l:E_}{w:Nat},(∀x∈l,x≠g)->CQ os d b g l w=[]
 |[],_,_=>rfl
 |x::r,w,h=>by rw[CQ,aa (h x (.head _)),afB (λy hy=>h y (.tail _ hy))];rfl
def akl {os:C_}{d b:Nat}{g:Int}:∀{n w:Nat},CQ os d b g (List.replicate n g) w=sU os d b n w
 |0,_=>rfl
 |n+1,w=>by rw[cD,CQ,ac rfl,sU,akl]
def apF:∀{l:E_}{k:Nat},∀x∈xg l k,(k:Int)<=x
 |[],_,x,h=>by simp[xg]at h
 |n::r,k,x,h=>by
  rw[xg]at h;rcases bj.1 h with h|h
  .have:=c9 h;omega
  .have:=apF x h;omega
def kq (gs:E_):Nat->Nat
 |0=>0
 |g+1=>match gs with
  |[]=>0
  |n::r=>n.toNat+kq r g
def apE {os:C_}{d b:Nat}:∀{gs:E_}{j k w:Nat}{n:Int},gs[j]?=some n->CQ os d b ((k+j:Nat):Int) (xg gs k) w=sU os d b n.toNat (w+kq gs j)
 |[],j,k,w,n,h=>by simp at h
 |m::r,0,k,w,n,h=>by
  simp only[bK,ae]at h;subst h;rw[xg,aaP,cS,akl,afB (λx hx=>by have:=apF x hx;omega),aR];rfl
 |m::r,j+1,k,w,n,h=>by
  simp only[ur]at h;rw[xg,aaP,afB (λx hx=>by have:=c9 hx;omega),az,show k+(j+1)=(k+1)+j by omega,apE h,bE,kq,cm]
def am9 {os:C_}{d:Nat}{gs:E_}{g:Nat}{n:Int}(h:gs[g]?=some n):∀{k b:Nat},baQ os d g (xg gs 0) k b=uH os d n.toNat (kq gs g) k b
 |0,_=>rfl
 |k+1,b=>by
  have:=apE (os:=os) (d:=d) (b:=b) (k:=0) (w:=0) h;rw[b7,b7]at this;rw[baQ,uH,this,am9 h]
def ar7 {r:Nat}(hr:r<=11)(s:Bool)(b:Nat):nth (offs r s) b<=256:=by
 rcases bD b (offs r s).length with h|h
 .have o:=(BC (r,s) (iZ o_)).2.2;have:=bF.1 o _ (iL h);simp only[decide_eq_true_eq]at this;have hc:cond s 32 256<=256:=by cases s<;>decide
  omega
 .rw[nth,d9,j5 h];exact dp _
def arp (xs:C_):AV:=match xs with
 |[]=>.nl
 |x::r=>.own true 1 (aS (x::r))
def ahr (h:ak)(xs:C_):eY h (al 1 (aS xs))=some (arp xs):=by
 cases xs with
 |nil=>rfl
 |cons x r =>
  have hf:iV (.own false 1 (aS (x::r)))=true:=by
   show((aS (x::r)).all λe=>e.all jf)=true;rw[bF];intro e he;simp only[aS,cX]at he;obtain⟨y,_,rfl⟩:=he;rfl
  show some (et (.own false 1 (aS (x::r))))=_;rw[et,hf];rfl
@[simp] def aE0 {xs:C_}:firm (arp xs)=al 1 (aS xs):=by cases xs<;>rfl
def afK (r:Nat)(hr:r<=11)(i:aG)(hm:i.may r)(g b0 id ln:Nat)(hid:1<=id∧id<=11)(n:Int)(hg:i.groups[g]?=some n)(hl:((b0+ln:Nat):Int)<=i.max) :
  bn prog AM [A_ r,.agg i.cells,A_ g,A_ b0,.agg [A_ id,A_ ln]] =
  some (arp (uH (offs r i.short) (bt id) n.toNat (kq i.groups g) ln b0)):=by
 have hm11:=iY hr hm;have hmx:=hm.2.2.2.1;have hmy:nY r (decide (i.seq=2))=(offs r i.short).length-1:=rfl;have hof:=(IE (r,i.short) (iZ o_))
 simp only at hof;have hol:(offs r i.short).length<=1000:=o_;obtain⟨g1,g2⟩:=eR hm11;have hmm:=km i;have hsp:=kU (λn hn=>(g1 n hn).1);have hgl:g<i.groups.length:=(bJ.1 hg).1;have hil:=ajo (l:=i.groups) (g:=0) (λn hn=>by have:=g1 n hn;omega);have hI:=ash i hm11;have hne:xg i.groups 0≠[]:=λh=>by rw[h]at hil;simp at hil;omega
 have hix:∀x∈xg i.groups 0,i64 x:=by
  have key:∀{l:E_}{k:Nat},∀x∈xg l k,(k:Int)<=x∧x<k+l.length:=by
   intro l
   induction l with
   |nil=>intro k x h;simp[xg]at h
   |cons n r ih =>
    intro k x h;rw[xg]at h;rcases bj.1 h with h|h
    .have:=c9 h;simp only[ar];omega
    .have:=ih x h;simp only[ar];omega
  intro x hx;have:=key x hx;omega
 have hO:=QM r i.short o_;rw[au]at hO;have hmax:=mW hm11;have hb:=am9 (os:=offs r i.short) (d:=bt id) hg (k:=ln) (b:=b0);have h:=awt (offs r i.short) id hid ln g b0 (xg i.groups 0) 2 1 hol (λb=>ar7 hr _ b) o_ hix o_ o_ ln b0 [] rfl t_;have n0:aS []=[]:=rfl;simp only[plS]at h;rw[az,hb,n0,dH]at h;have hre:afy (xg i.groups 0)=.own true 1 (am (xg i.groups 0)):=by cases h:xg i.groups 0 with|nil=>exact absurd h hne|cons x r=>rfl
 rw[hre]at hI;clear hb;generalize uH (offs r i.short) (bt id) n.toNat (kq i.groups g) ln b0=R at *;generalize am (xg i.groups 0)=IN at *;rw[aL LY L0 rfl];by_cases hs:i.seq=2
 .have e:i.short=true:=by simp[aG.short,hs]
  have hc:(i.seq:Int)=2:=o_;rw[e]at hO h;generalize offs r true=os at *;simp only[aG.cells]at hI⊢;rw[hc]at hI⊢;simp(maxSteps:=9^6)(disch:=omega)[↓ac,↓aa,hO,hI,h,ahr]
 .have e:i.short=false:=by simp[aG.short,hs]
  have hc:(i.seq:Int)≠2:=o_;rw[e]at hO h;generalize offs r false=os at *;simp only[aG.cells]at hI⊢;simp(maxSteps:=9^6)(disch:=omega)[↓ac,↓aa,hO,hI,h,hc,ahr]
def ON {b:C_}:∀{l r:Q_}{n:Nat}{Z:E_},dn b (l++r) n Z=(dn b l n Z).bind λZ n=>dn b r n Z
 |[],r,n,Z=>rfl
 |p::l,r,n,Z=>by
  rw[aK,dn,dn]
  cases xw p.1 b n with
  |ok v m=>rw[ao,ao,ON]
  |er e=>rfl
abbrev MS (b:C_)(a r:Int)(g bd n:Int)(X:aT):aT:=(0,.d (.lst (ax b)))::(1,A_ a)::(2,A_ r)::(7,.ptr 0 0)::(11,.sl 1 0 256)::(12,A_ g)::(13,A_ bd)::(14,A_ n)::X
abbrev C1 (cs:D_)(Z:E_)(T:ak):ak:=(0,.cells cs)::(1,.arr 1 (am Z))::T
def aAe (b:C_)(a rt g bd n:Int)(cs:D_)(A B N:Nat)(hA:2<=A)(hB:A<B)(oA oB:Obj)(l:C_)(m:Nat)(hm:m<l.length)(hll:l.length<=100000)(v:E_)(hv:v.length<=100)(hp:nth l m+v.length<=256):∀(r:E_) (j:Nat) (Z:E_),v.drop j=r->Z.length=256->
  (Dn prog).code (.loop iF) ⟨MS b a rt g bd n [(15,.ptr A 0),(16,.ptr B 0),(17,.own false 1 (aS l)),(18,A_ m),(19,.own false 1 (am v)),(22,A_ j)],⟨C1 cs Z [(A,oA),(B,oB)],N⟩⟩ =
  some (.exit 6,⟨MS b a rt g bd n [(15,.ptr A 0),(16,.ptr B 0),(17,.own false 1 (aS l)),(18,A_ m)],⟨C1 cs (aF Z (nth l m+j) r) [(A,oA),(B,oB)],N⟩⟩):=by
 have hla:=dc (l:=v);intro r
 induction r with
 |nil =>
  intro j Z hj _;have hjl:v.length<=j:=aU.1 hj;rw[ah tW,R7];simp(maxSteps:=9^6)(disch:=omega)[↓ac,↓aa,hla]
 |cons c r ih =>
  intro j Z hj hZ;have hjl:j<v.length:=by
   rcases bD j v.length with h|h
   .exact h
   .rw[aU.2 h]at hj;exact absurd hj (by simp)
  have hx:=IT hj;have hdn:v.drop (j+1)=r:=by rw[<-cW,hj];rfl
  have hr:(j+1)+r.length=v.length:=by
   have:=aY List.length hdn;rw[gb]at this;omega
  have h5:=ih (j+1) (Z.set (nth l m+j) c) hdn t_;have c1:((j+1:Nat):Int)=(j:Int)+1:=rfl;obtain⟨Q,hQ⟩:∃Q,Q=nth l m+j:=⟨_,rfl⟩
  have cp:((nth l m:Nat):Int)+(j:Int)=(Q:Int):=o_;have hzl:=dc (l:=Z);rw[c1,<-cm,Hn o_]at h5;rw[<-h5];clear h5 ih;rw[<-hQ];have hsz:(am Z).set Q [.int .i64 c]=am (Z.set Q c):=by simp[am,mf]
  rw[ah tW];simp(maxSteps:=9^6)(disch:=omega)[↓ac,↓aa,-getElem?_pos,hla,hx,cp,hzl,hsz]
def azZ (b:C_)(hb:b.length<=1000000000)(rt g bd n:Int)(cs:D_)(id:Nat)(hid:1<=id∧id<=11)(A B N:Nat)(hA:2<=A)(hB:A<B)(oA:Obj)(l:C_)(hll:l.length<=100000)(hl:∀p∈l,p+bt id<=256):∀(r:C_) (m:Nat) (a:Nat) (Z:E_),l.drop m=r->Z.length=256->a<=b.length->
  (∀Z' a',dn b (r.map λp=>(id,p)) a Z=.ok Z' a'->(Dn prog).code (.loop dQ) ⟨MS b a rt g bd n [(15,.ptr A 0),(16,.ptr B 0),(17,al 1 (aS l)),(18,A_ m)],⟨C1 cs Z [(A,oA),(B,.cells (lH id))],N⟩⟩ =
   some (.exit 4,⟨MS b a' rt g bd n [(15,.ptr A 0)],⟨C1 cs Z' [(A,oA)],N⟩⟩)∧Z'.length=256∧a'<=b.length)∧
  (∀e,dn b (r.map λp=>(id,p)) a Z=.er e->∃Z',(Dn prog).code (.loop dQ) ⟨MS b a rt g bd n [(15,.ptr A 0),(16,.ptr B 0),(17,al 1 (aS l)),(18,A_ m)],⟨C1 cs Z [(A,oA),(B,.cells (lH id))],N⟩⟩ =
   some (.ret,⟨[(8,.nl),(9,A_ 0),(10,A_ (e+1))],⟨[(1,.arr 1 (am Z'))],N⟩⟩)):=by
 intro r
 induction r with
 |nil =>
  intro m a Z hj hZ ha;have hjl:l.length<=m:=aU.1 hj;refine⟨λZ' a' h=>?_,λe h=>absurd h (by simp[dn])⟩;rw[List.map_nil,dn]at h;injection h with h1 h2
  subst h1 h2;refine⟨?_,hZ,ha⟩;rw[ah mc];by_cases hl0:l=[]
  .subst hl0;have n0:aS []=[]:=rfl;rw[n0,dH];generalize bV id=es at *;generalize dl id=rs at *;simp(maxSteps:=9^6)(disch:=omega)[↓ac,↓aa]
  .have e:al 1 (aS l)=.own false 1 (aS l):=fX (λh=>hl0 (by simpa [aS] using h));rw[e];generalize bV id=es at *;generalize dl id=rs at *;simp(maxSteps:=9^6)(disch:=omega)[↓ac,↓aa]
 |cons p r ih =>
  intro m a Z hj hZ ha;have hjl:m<l.length:=by
   rcases bD m l.length with h|h
   .exact h
   .rw[aU.2 h]at hj;exact absurd hj (by simp)
  have hnz:aS l≠[]:=λh=>by
   have h2:(aS l).length=0:=by rw[h];rfl
   rw[yf]at h2;omega
  have eo:al 1 (aS l)=.own false 1 (aS l):=fX hnz;simp only[eo]at ih⊢;have hdn:l.drop (m+1)=r:=by rw[<-cW,hj];rfl
  have hlp:nth l m=p:=by
   have:=aY (λl=>l[0]?) hj;simp only[bx,bK,cS]at this;rw[nth,d9,this];rfl
  have hpm:=hl p (by rw[<-b8 m l,hj];simp);have hR:=akW id b a hb o_ hid;have hbf:=(CU (id:=id) o_)
  rw[bZ,dn];simp only[];have c1:((m+1:Nat):Int)=(m:Int)+1:=rfl;have c0:((0:Nat):Int)=0:=rfl
  cases hh:xw id b a with
  |er e =>
   refine⟨λZ' a' h=>absurd h s_,λe' h=>?_⟩;rw[aQ]at h;injection h with h
   subst h;rw[hh,ee]at hR;refine⟨Z,?_⟩;clear ih;rw[ah mc];simp only[nb,lH]at hR⊢;generalize bV id=es at *;generalize dl id=rs at *;simp(maxSteps:=9^6)(disch:=omega)[↓ac,↓aa,hR]
  |ok v a2 =>
   have hv:=akh ⟨hid.1,o_⟩ hh;obtain⟨v1,v2,v3⟩:=hv;have hd4:dI id=bt id:=anj id (fC.2 o_) hid.1;have hd:2<=bt id∧bt id<=4:=by unfold bt;split<;>omega
   rw[hh,b9 ⟨v1,v2,v3⟩]at hR;have h0:=aAe b a2 rt g bd n cs A B N hA hB oA (.cells (lH id)) l m hjl hll v o_ o_ v 0 Z rfl hZ;have h5:=ih (m+1) a2 (aF Z p v) hdn (by rw[DK o_];exact hZ) v2;rw[ao];rw[c1]at h5;rw[cS,hlp,c0]at h0;have key:(Dn prog).code (.loop dQ) ⟨MS b a rt g bd n [(15,.ptr A 0),(16,.ptr B 0),(17,.own false 1 (aS l)),(18,A_ m)],⟨C1 cs Z [(A,oA),(B,.cells (lH id))],N⟩⟩ =
     (Dn prog).code (.loop dQ) ⟨MS b a2 rt g bd n [(15,.ptr A 0),(16,.ptr B 0),(17,.own false 1 (aS l)),(18,A_ ((m:Int)+1))],⟨C1 cs (aF Z p v) [(A,oA),(B,.cells (lH id))],N⟩⟩:=by
    clear h5 ih;rw[ah mc];simp only[nb,lH]at hR h0⊢;generalize bV id=es at *;generalize dl id=rs at *;simp(maxSteps:=9^6)(disch:=omega)[↓ac,↓aa,hR,h0]
   rw[key];exact h5
abbrev KS (c0:AV)(i:aG)(S:H_)(c6 c7 c8:AV):D_:=[c0,.d (.int .u8 i.seq),.d (.int .u8 i.shape),A_ i.max,.d (.lst (am i.groups)),.d (.lst (bi S)),c6,c7,c8]
abbrev rlX (b:C_)(a r:Int)(g:Int)(X:aT):aT:=(0,.d (.lst (ax b)))::(1,A_ a)::(2,A_ r)::(7,.ptr 0 0)::(11,.sl 1 0 256)::(12,A_ g)::X
def arc {os:C_}{d n first:Nat}(hn:n<=8):∀{k b:Nat},(uH os d n first k b).length<=2400*k:=by
 have hw:∀{n b w:Nat},(sU os d b n w).length<=300*n:=by
  intro n
  induction n with
  |zero=>intro b w;exact ai _
  |succ n ih =>
   intro b w;have h1:=ih (b:=b) (w:=w+1);have h2:=PI (d:=d) (hi:=nth os (b+1)) (f:=300) (x:=nth os b);rw[sU,aN,gU];omega
 intro k
 induction k with
 |zero=>intro b;exact ai _
 |succ k ih =>
  intro b;have h1:=ih (b:=b+1);have h2:=hw (n:=n) (b:=b) (w:=first);rw[uH,aN];omega
def atG {id:Nat}(h:1<=id∧id<=11):iD id:=⟨h.1,o_⟩
section
variable (b:C_)(hb:b.length<=1000000000)(rt:Nat)(hrt:rt<=11)(i:aG)(hm:i.may rt)(S:H_)(c0 c6 c7 c8:AV)
include hb hrt hm
theorem ayW (g:Nat)(l:U_)(hSl:S.length<=100)(hg:(bi S)[g]?=some [.lst (fj l)])(hgl:g<S.length)(hll:l.length<=1000)(n:Int)(hn:i.groups[g]?=some n)(hpl:∀p∈nh (offs rt i.short) S i.groups 0,(1<=p.1∧p.1<=11)∧p.2+bt p.1<=256):∀(r:U_) (k bd a N:Nat) (Z:E_),l.drop k=r->fitsS (i.max-bd) r->Z.length=256->a<=b.length->2<=N->(∀p∈xV (offs rt i.short) n.toNat (kq i.groups g) r bd,p∈nh (offs rt i.short) S i.groups 0)->
  (∀Z' a',dn b (xV (offs rt i.short) n.toNat (kq i.groups g) r bd) a Z=.ok Z' a'->∃M,N<=M∧(Dn prog).code (.loop c5) ⟨MS b a rt g bd k [],⟨C1 (KS c0 i S c6 c7 c8) Z [],N⟩⟩ =
   some (.exit 2,⟨rlX b a' rt g [],⟨C1 (KS c0 i S c6 c7 c8) Z' [],M⟩⟩)∧Z'.length=256∧a'<=b.length)∧
  (∀e,dn b (xV (offs rt i.short) n.toNat (kq i.groups g) r bd) a Z=.er e->∃Z' M,(Dn prog).code (.loop c5) ⟨MS b a rt g bd k [],⟨C1 (KS c0 i S c6 c7 c8) Z [],N⟩⟩ =
   some (.ret,⟨[(8,.nl),(9,A_ 0),(10,A_ (e+1))],⟨[(1,.arr 1 (am Z'))],M⟩⟩)):=by
 have hla:=Pw (l:=l);have hlS:=Cz (g:=S);have hm11:=iY hrt hm;have hmx:=mW hm11;obtain⟨g1,g2⟩:=eR hm11;have hn8:=g1 n (eM hn);intro r
 induction r with
 |nil =>
  intro k bd a N Z hj hf hZ ha hN _;have hjl:l.length<=k:=aU.1 hj;refine⟨λZ' a' h=>?_,λe h=>absurd h (by simp[dn,xV])⟩;rw[xV,dn]at h;injection h with h1 h2
  subst h1 h2;refine⟨N,ai _,?_,hZ,ha⟩;rw[ah iN];simp(maxSteps:=9^6)(disch:=omega)[↓ac,↓aa,-getElem?_pos,hla,hlS,hg]
 |cons s r ih =>
  intro k bd a N Z hj hf hZ ha hN hin;have hjl:k<l.length:=by
   rcases bD k l.length with h|h
   .exact h
   .rw[aU.2 h]at hj;exact absurd hj (by simp)
  have hs:=EY hj;have hdn:l.drop (k+1)=r:=by rw[<-cW,hj];rfl
  obtain⟨⟨⟨s1,s2⟩,s3⟩,s4⟩:=hf;obtain⟨sb,sl⟩:=s;simp only at s1 s2 s3 s4 hs;have hob:(0<=sb∧sb<=11)∨sb=13:=by unfold agd at s3;omega
  obtain⟨id,rfl⟩:=ay (show 0<=sb by omega);obtain⟨ln,rfl⟩:=ay (show 0<=sl by omega);have hP:=aiR id o_;have c1:((k+1:Nat):Int)=(k:Int)+1:=rfl;have c2:((bd+ln:Nat):Int)=(bd:Int)+ln:=o_;obtain⟨n0,n1,m0,m1,m2⟩:N≠0∧N≠1∧N+1≠0∧N+1≠1∧N+1≠N:=o_;have s5:fitsS (i.max-((bd+ln:Nat):Int)) r:=by
   rw[c2,show i.max-((bd:Int)+ln)=i.max-bd-ln by omega];exact s4
  rw[xV];rw[xV]at hin;simp only[au]at hin⊢;by_cases h0:(id:Int)=0∨(id:Int)=13
  .rw[ac h0,az]at hin⊢;have hfl:decide (0<id∧id<12)=false:=dF_ o_;rw[hfl]at hP;obtain⟨i1,i2⟩:=ih (k+1) (bd+ln) a (N+1) Z hdn s5 hZ ha o_ hin;have key:(Dn prog).code (.loop c5) ⟨MS b a rt g bd k [],⟨C1 (KS c0 i S c6 c7 c8) Z [],N⟩⟩ =
     (Dn prog).code (.loop c5) ⟨MS b a rt g ((bd+ln:Nat):Int) ((k+1:Nat):Int) [],⟨C1 (KS c0 i S c6 c7 c8) Z [],N+1⟩⟩:=by
    clear ih i1 i2;rw[c1,c2,ah iN];simp(maxSteps:=9^6)(disch:=omega)[↓ac,↓aa,-getElem?_pos,hla,hlS,hg,hs,hP,n0,n1]
   rw[key];refine⟨λZ' a' h=>?_,i2⟩;obtain⟨M,hM,q⟩:=i1 Z' a' h;exact⟨M,o_,q⟩
  .rw[aa h0]at hin⊢;have hid:1<=id∧id<=11:=o_;have hfl:decide (0<id∧id<12)=true:=dT_ o_;rw[hfl]at hP;have hB:=amS id (atG hid);have hpp:=afK rt hrt i hm g bd id ln hid n hn o_;have hbl:=arc (os:=offs rt i.short) (d:=bt id) (n:=n.toNat) (first:=kq i.groups g) o_ (k:=ln) (b:=bd);obtain⟨l1,l2⟩:=azZ b hb rt g bd k (KS c0 i S c6 c7 c8) id hid N (N+1) (N+1+1) hN o_ (.cells [A_ id,A_ ln]) (uH (offs rt i.short) (bt id) n.toNat (kq i.groups g) ln bd) o_ (λp hp=>(hpl (id,p) (hin _ (cK _ (cX.2 ⟨p,hp,rfl⟩)))).2) _ 0 a Z rfl hZ ha;have cz:((0:Nat):Int)=0:=rfl;rw[cz]at l1 l2;rw[ON]
   cases hL:dn b ((uH (offs rt i.short) (bt id) n.toNat (kq i.groups g) ln bd).map λx=>(id,x)) a Z with
   |er e =>
    refine⟨λZ' a' h=>absurd h s_,λe' h=>?_⟩;rw[aQ]at h;injection h with h
    subst h;obtain⟨Z',hq⟩:=l2 e hL;refine⟨Z',N+1+1,?_⟩;clear ih l1 l2;rw[ah iN];generalize uH (offs rt i.short) (bt id) n.toNat (kq i.groups g) ln bd=PL at *;simp only[aG.cells,yI,lH]at hpp hB hq⊢;generalize bV id=es at *;generalize dl id=rs at *;simp(maxSteps:=9^6)(disch:=omega)[↓ac,↓aa,-getElem?_pos,hla,hlS,hg,hs,hP,hB,hpp,hq,n0,n1,m0,m1,m2]
   |ok Z1 a1 =>
    obtain⟨hq,hZ1,ha1⟩:=l1 Z1 a1 hL;obtain⟨i1,i2⟩:=ih (k+1) (bd+ln) a1 (N+1+1) Z1 hdn s5 hZ1 ha1 o_ (λp hp=>hin p (dK _ hp));have key:(Dn prog).code (.loop c5) ⟨MS b a rt g bd k [],⟨C1 (KS c0 i S c6 c7 c8) Z [],N⟩⟩ =
      (Dn prog).code (.loop c5) ⟨MS b a1 rt g ((bd+ln:Nat):Int) ((k+1:Nat):Int) [],⟨C1 (KS c0 i S c6 c7 c8) Z1 [],N+1+1⟩⟩:=by
     clear ih i1 i2 l1 l2;rw[c1,c2,ah iN];generalize uH (offs rt i.short) (bt id) n.toNat (kq i.groups g) ln bd=PL at *;simp only[aG.cells,yI,lH]at hpp hB hq⊢;generalize bV id=es at *;generalize dl id=rs at *;simp(maxSteps:=9^6)(disch:=omega)[↓ac,↓aa,-getElem?_pos,hla,hlS,hg,hs,hP,hB,hpp,hq,n0,n1,m0,m1,m2]
    rw[key,ao];refine⟨λZ' a' h=>?_,i2⟩;obtain⟨M,hM,q⟩:=i1 Z' a' h;exact⟨M,o_,q⟩
end
def agt:∀{gs:E_}{g:Nat}{n:Int}{r:E_},gs.drop g=n::r->kq gs (g+1)=kq gs g+n.toNat
 |[],g,n,r,h=>by simp at h
 |m::gs,0,n,r,h=>by
  simp only[jP,List.cons.injEq]at h;obtain⟨rfl,rfl⟩:=h;rw[kq,kq]
  cases gs<;>simp[kq]
 |m::gs,g+1,n,r,h=>by
  rw[List.drop_succ_cons]at h;have:=agt h;rw[kq,this,kq];omega
section
variable (b:C_)(hb:b.length<=1000000000)(rt:Nat)(hrt:rt<=11)(i:aG)(hm:i.may rt)(S:H_)(hS:tF i S)(c0 c6 c7 c8:AV)
include hb hrt hm hS
theorem azn (hpl:∀p∈nh (offs rt i.short) S i.groups 0,(1<=p.1∧p.1<=11)∧p.2+bt p.1<=256):∀(R:H_) (g a N:Nat) (Z:E_),S.drop g=R->Z.length=256->a<=b.length->2<=N->(∀p∈nh (offs rt i.short) R (i.groups.drop g) (kq i.groups g),p∈nh (offs rt i.short) S i.groups 0)->
  (∀Z' a',dn b (nh (offs rt i.short) R (i.groups.drop g) (kq i.groups g)) a Z=.ok Z' a'->∃M,N<=M∧(Dn prog).code (.loop dT) ⟨rlX b a rt g [],⟨C1 (KS c0 i S c6 c7 c8) Z [],N⟩⟩ =
   some (.exit 0,⟨[(1,A_ a'),(11,.sl 1 0 256)],⟨[(1,.arr 1 (am Z'))],M⟩⟩)∧Z'.length=256∧a'<=b.length)∧
  (∀e,dn b (nh (offs rt i.short) R (i.groups.drop g) (kq i.groups g)) a Z=.er e->∃Z' M,(Dn prog).code (.loop dT) ⟨rlX b a rt g [],⟨C1 (KS c0 i S c6 c7 c8) Z [],N⟩⟩ =
   some (.ret,⟨[(8,.nl),(9,A_ 0),(10,A_ (e+1))],⟨[(1,.arr 1 (am Z'))],M⟩⟩)):=by
 have hlS:=Cz (g:=S);have hm11:=iY hrt hm;have hmx:=mW hm11;obtain⟨g1,g2⟩:=eR hm11;have hsp:=kU (λn hn=>(g1 n hn).1);have hmn:=km i;have hSl:S.length=i.groups.length:=hS.1;intro R
 induction R with
 |nil =>
  intro g a N Z hj hZ ha hN _;have hjl:S.length<=g:=aU.1 hj;refine⟨λZ' a' h=>?_,λe h=>absurd h (by rw[show nh (offs rt i.short) [] (i.groups.drop g) (kq i.groups g)=[] by cases i.groups.drop g<;>rfl,dn];simp)⟩;rw[show nh (offs rt i.short) [] (i.groups.drop g) (kq i.groups g)=[] by cases i.groups.drop g<;>rfl,dn]at h;injection h with h1 h2
  subst h1 h2;refine⟨N,ai _,?_,hZ,ha⟩;rw[ah mb];simp(maxSteps:=9^6)(disch:=omega)[↓ac,↓aa,-getElem?_pos,hlS]
 |cons l R ih =>
  intro g a N Z hj hZ ha hN hin;have hgl:g<S.length:=by
   rcases bD g S.length with h|h
   .exact h
   .rw[aU.2 h]at hj;exact absurd hj (by simp)
  have hg:=xB hj;have hdn:S.drop (g+1)=R:=by rw[<-cW,hj];rfl
  obtain⟨n,G,hG⟩:∃n G,i.groups.drop g=n::G:=by
   cases h:i.groups.drop g with
   |nil=>have:=aU.1 h;omega
   |cons n G=>exact⟨n,G,rfl⟩
  have hGn:i.groups.drop (g+1)=G:=by rw[<-cW,hG];rfl
  have hn:i.groups[g]?=some n:=by
   have:=aY (λl=>l[0]?) hG;simpa [bx] using this
  have hfl:=hS.2 l (by rw[<-b8 g S,hj];simp);have hll:=(abH hfl hmx.1)
  have hl1000:l.length<=1000:=by
   have:∀{l:U_}{lf:Int},fitsS lf l->(l.length:Int)<=lf:=by
    intro l
    induction l with
    |nil=>intro lf h;simp only[fitsS]at h;simp;omega
    |cons s r ih =>
     intro lf h;have h1:=ih h.2;have h2:=h.1.1.1;simp only[ar];omega
   have:=this hfl;omega
  rw[hG,nh]at hin⊢;have hsuc:=agt hG;have c0':((0:Nat):Int)=0:=rfl;obtain⟨j1,j2⟩:=ayW b hb rt hrt i hm S c0 c6 c7 c8 g l o_ hg hgl hl1000 n hn hpl l 0 0 a N Z rfl (by rw[c0',Int.sub_zero];exact hfl) hZ ha hN (λp hp=>hin p (cK _ hp));rw[c0']at j1 j2;rw[ON];have c1:((g+1:Nat):Int)=(g:Int)+1:=rfl
  cases hL:dn b (xV (offs rt i.short) n.toNat (kq i.groups g) l 0) a Z with
  |er e =>
   refine⟨λZ' a' h=>absurd h s_,λe' h=>?_⟩;rw[aQ]at h;injection h with h
   subst h;obtain⟨Z',M,hq⟩:=j2 e hL;refine⟨Z',M,?_⟩;clear ih j1 j2;rw[ah mb];simp(maxSteps:=9^6)(disch:=omega)[↓ac,↓aa,-getElem?_pos,hlS,hq]
  |ok Z1 a1 =>
   obtain⟨M1,hM1,hq,hZ1,ha1⟩:=j1 Z1 a1 hL;have h5:=ih (g+1) a1 M1 Z1 hdn hZ1 ha1 o_;rw[hGn,hsuc]at h5;obtain⟨i1,i2⟩:=h5 (λp hp=>hin p (dK _ hp));have key:(Dn prog).code (.loop dT) ⟨rlX b a rt g [],⟨C1 (KS c0 i S c6 c7 c8) Z [],N⟩⟩ =
     (Dn prog).code (.loop dT) ⟨rlX b a1 rt ((g+1:Nat):Int) [],⟨C1 (KS c0 i S c6 c7 c8) Z1 [],M1⟩⟩:=by
    clear ih i1 i2 h5 j1 j2;rw[c1,ah mb];simp(maxSteps:=9^6)(disch:=omega)[↓ac,↓aa,-getElem?_pos,hlS,hq]
   rw[key,ao];refine⟨λZ' a' h=>?_,i2⟩;obtain⟨M,hM,q⟩:=i1 Z' a' h;exact⟨M,o_,q⟩
end
abbrev al6 (x:R E_):L_:=match x with
 |.ok Z n=>some (.tup [.own true 1 (am Z),A_ n,A_ 0])
 |.er e=>some (.tup [.nl,A_ 0,A_ (e+1)])
def XE (b:C_)(hb:b.length<=1000000000)(rt:Nat)(hrt:rt<=11)(i:aG)(hm:i.may rt)(S:H_)(hS:tF i S)(x0 x6 x7:D)(a:Nat)(ha:a<=b.length) :
  bn prog oC [.d (.lst (ax b)),A_ a,A_ rt,.agg (KS (.d x0) i S (.d x6) (.d x7) .nl)]=al6 (dn b (If rt i S) a Z0):=by
 have hk:Em [.int .i64 0] (A_ 256) (A_ 256)=some (.own true 1 (am Z0)):=(yW (z:=[.int .i64 0]) (n:=256) o_).trans (by simp[am]);have hz2:(am Z0).length=256:=by rw[dc,bE]
 have hpl:∀p∈nh (offs rt i.short) S i.groups 0,(1<=p.1∧p.1<=11)∧p.2+bt p.1<=256:=λp hp=>PG hm hS hrt hp
 obtain⟨h1,h2⟩:=azn b hb rt hrt i hm S hS (.d x0) (.d x6) (.d x7) .nl hpl S 0 a 2 Z0 rfl s_ ha (ai _) (λp hp=>by rw[show kq i.groups 0=0 by cases i.groups<;>rfl]at hp;exact hp);have e0:i.groups.drop 0=i.groups:=rfl;have e1:kq i.groups 0=0:=by cases i.groups<;>rfl
 rw[e0,e1]at h1 h2;have c0:((0:Nat):Int)=0:=rfl;rw[c0]at h1 h2;rw[aL Iu IH rfl];show _=al6 (dn b (nh (offs rt i.short) S i.groups 0) a Z0);generalize hz:am Z0=z0 at *
 cases hL:dn b (nh (offs rt i.short) S i.groups 0) a Z0 with
 |ok Z n =>
  obtain⟨M,hM,hq,hZ,ha'⟩:=h1 Z n hL;have hzl:=dc (l:=Z);have hZt:List.take 256 Z=Z:=bp o_;simp only[rlX,C1,hz]at hq;simp(maxSteps:=9^6)(disch:=omega)[↓ac,↓aa,-getElem?_pos,hk,hz2,hq,hzl,hZt]
 |er e =>
  obtain⟨Z',M,hq⟩:=h2 e hL;simp only[rlX,C1,hz]at hq;simp(maxSteps:=9^6)(disch:=omega)[↓ac,↓aa,-getElem?_pos,hk,hz2,hq]
abbrev El:VC:=(.seq zC
 (.seq (.seq An
 (.cond (.m 84)
 (.seq (.seq (K [0,1,2]) (F 13)) (.seq zu
 .ret))
 (.seq (K [15]) .skip)))
 (.seq zW
 (.seq (.seq zO
 (.cond (.m 100)
 (.seq (.seq (K [0,1,2]) (F 13)) (.seq zy
 .ret))
 (.seq (K [15]) .skip)))
 (.seq z7
 (.seq zq
 (.seq (.seq Ab
 (.cond (.m 115)
 (.seq (.seq (K [0,1,2,16]) (F 13)) (.seq Aa
 .ret))
 (.seq (K [15]) .skip)))
 (.seq zM
 (.seq (.seq Ag
 (.cond (.m 129)
 (.seq (.seq (K [1,16]) (F 13)) (.seq zR
 .ret))
 (.seq (K [15]) .skip)))
 (.seq (.seq Ar
 (.cond (.m 133)
 (.seq (.seq (K [1]) (F 13)) (.seq zm
 .ret))
 .skip))
 (.seq (.seq Ad (F 13))
 .ret)))))))))))
def QG (b:C_)(n:Int)(rt:Nat)(gn:Nat)(j:aG):R (Hd×E_) :=
 (ma b j n).bind λS n=>(po b S n gn).bind λT n=>(Jj b j n).bind λt n=>(dn b (If rt j S) n Z0).bind λZ n=>if AI t.1 t.2.1 t.2.2.1 t.2.2.2≠0 then .er 7 else .ok (⟨gn,j,S,T,t.1,0,0⟩,Z) n
abbrev awK (b:C_)(n rt:Nat):aT:=[(0,.d (.lst (ax b))),(1,A_ n),(2,A_ rt),(10,.ptr 1 0),(13,.ptr 2 0)]
abbrev axs (gn:Nat)(j:aG):ak:=[(1,.cells mZ),(2,.cells [A_ gn,.d (.int .u8 j.seq),.d (.int .u8 j.shape),A_ j.max,.own false 1 (am j.groups),.nl,.nl,.nl,.nl])]
abbrev okC (H:Hd)(Z:E_):D_:=[A_ H.gain,.d (.int .u8 H.inf.seq),.d (.int .u8 H.inf.shape),A_ H.inf.max,.own false 1 (am H.inf.groups),.own false 1 (bi H.S),.own false 1 (cT H.T),.own false 1 (bv H.F),.own false 1 (am Z)]
def aq0 {b:C_}{j:aG}{a:Int}(hb:b.length<=1000000000)(ha:i64 a){F:N_}{o s p n:Nat}(h:Jj b j a=.ok (F,o,s,p) n):F.length=j.many∧n<=b.length∧(∀l∈F,l.length<=3∧∀f∈l,f.coefs.length<=12)∧o<2∧s<2∧p<2:=by
 unfold Jj at h;obtain⟨o',n1,h1,h⟩:=dS h;obtain⟨s',n2,h2,h⟩:=dS h;obtain⟨F',n3,h3,h⟩:=dS h;obtain⟨p',n4,h4,h⟩:=dS h;injection h with e1 e2
 injection e1 with e3 e1
 injection e1 with e4 e1
 injection e1 with e5 e6
 subst e2 e3 e4 e5 e6;have q1:=cu h1;have q2:=cu h2;have q4:=cu h4;refine⟨?_,q4.2,?_,q1.1,q2.1,q4.1⟩
 .split at h3
  .exact(MY hb (by have:=q2.2;omega) h3).1
  .injection h3 with e1 e2
   subst e1;exact bE
 .split at h3
  .exact(MY hb (by have:=q2.2;omega) h3).2.2
  .injection h3 with e1 e2
   subst e1;intro l hl;rw[c9 hl];exact⟨dp _,λf hf=>by simp at hf⟩
def ahd (b:C_)(hb:b.length<=1000000000)(rt:Nat)(hrt:rt<=11)(gn:Nat)(hgn:gn<=255)(j:aG)(hj:j.Fit)(hm:j.may rt)(n:Nat)(hn:n<=b.length) :
  (∀v m,QG b n rt gn j=.ok v m->(Dn prog).code El ⟨awK b n rt,⟨axs gn j,3⟩⟩=some (.ret,⟨[(10,.ptr 1 0),(11,A_ m),(12,A_ 0)],⟨[(1,.cells (okC v.1 v.2))],3⟩⟩))∧
  (∀e,QG b n rt gn j=.er e->(Dn prog).code El ⟨awK b n rt,⟨axs gn j,3⟩⟩=some (.ret,⟨[(10,.ptr 1 0),(11,A_ 0),(12,A_ (e+1))],⟨[(1,.cells mZ)],3⟩⟩)):=by
 have hm11:=iY hrt hm;have h1:=ame b n j hb o_ hj hm11;obtain⟨g1,g2⟩:=eR hm11;have hmn:=km j;have hgne:j.groups≠[]:=λh=>by rw[h]at g2;simp at g2;omega
 unfold QG
 cases e1:ma b j n with
 |er e =>
  rw[e1,ee]at h1;simp only[aQ];refine⟨λv m h=>absurd h s_,λe' h=>?_⟩;injection h with h
  subst h;simp only[aG.cells]at h1;simp(config := { maxSteps:=9^7 }) (disch:=omega)[↓ac,↓aa,h1]
 |ok S n1 =>
 have p1:=RP e1;rw[e1,b9 p1]at h1;obtain⟨s1,s2,s3,s4,s5⟩:=NJ hm11 p1;have h2:=alE b hb n1 gn (by have:=p1.2.1;omega) ⟨o_,o_⟩ S o_ (λl hl=>(s5 l hl).1);have hsS:share (al 1 (bi S))=.d (.lst (bi S)):=Mw (by cases S with|nil=>exact absurd rfl s1|cons x r=>simp[bi]);have eS:al 1 (bi S)=.own false 1 (bi S):=fX (by cases S with|nil=>exact absurd rfl s1|cons x r=>simp[bi]);rw[eS]at h1 hsS;rw[ao]
 cases e2:po b S n1 gn with
 |er e =>
  rw[e2,ee]at h2;simp only[aQ];refine⟨λv m h=>absurd h s_,λe' h=>?_⟩;injection h with h
  subst h;simp only[aG.cells]at h1;simp(config := { maxSteps:=9^7 }) (disch:=omega)[↓ac,↓aa,h1,h2,hsS]
 |ok T n2 =>
 have p2:pSc b S T n2:=afp ⟨o_,o_⟩ e2;rw[e2,b9 p2]at h2;have hTn:T≠[]:=λh=>by
  have:=p2.1;rw[h]at this;have:=aY List.length this;simp at this;exact s1 (List.length_eq_zero_iff.1 this.symm)
 have hfT:firm (aaL T n2)=.tup [.own false 1 (cT T),A_ n2,A_ 0]:=by
  rw[awB,fX (by cases T with|nil=>exact absurd rfl hTn|cons x r=>simp[cT])]
 have h3:=ahZ b hb n2 (by have:=p2.2;omega) j;rw[ao]
 cases e3:Jj b j n2 with
 |er e =>
  rw[e3]at h3;simp only[aQ];refine⟨λv m h=>absurd h s_,λe' h=>?_⟩;injection h with h
  subst h;simp only[aG.cells,aaY]at h1 h3;simp(config := { maxSteps:=9^7 }) (disch:=omega)[↓ac,↓aa,h1,h2,hfT,hsS,h3]
 |ok t n3 =>
 obtain⟨Ft,o,s,p⟩:=t;rw[e3]at h3;have p3:=aq0 hb (by have:=p2.2;omega) e3;obtain⟨f1,f2,f3,f4,f5,f6⟩:=p3;have hFn:Ft≠[]:=λh=>by rw[h]at f1;simp at f1;omega
 have h4:=XE b hb rt hrt j hm S s3 (.int .i64 gn) (.lst (cT T)) (.lst (bv Ft)) n3 f2;have hsT:share (al 1 (cT T))=.d (.lst (cT T)):=Mw (by cases T with|nil=>exact absurd rfl hTn|cons x r=>simp[cT]);have hsF:share (al 1 (bv Ft))=.d (.lst (bv Ft)):=Mw (by cases Ft with|nil=>exact absurd rfl hFn|cons x r=>simp[bv]);have eF:al 1 (bv Ft)=.own false 1 (bv Ft):=fX (by cases Ft with|nil=>exact absurd rfl hFn|cons x r=>simp[bv]);simp only[ao];simp only[aG.cells,aaY,KS,eF]at h1 h3 h4 hsF;have hod:AI Ft o s p<=3:=by unfold AI;split<;>omega
 cases e4:dn b (If rt j S) n3 Z0 with
 |er e =>
  rw[e4]at h4;simp only[al6]at h4;simp only[aQ];refine⟨λv m h=>absurd h s_,λe' h=>?_⟩;injection h with h
  subst h;clear hod;generalize AI Ft o s p=od at *;simp(config := { maxSteps:=9^7 }) (disch:=omega)[↓ac,↓aa,h1,h2,hfT,hsS,h3,hsT,hsF,h4]
 |ok Z n4 =>
  rw[e4]at h4;simp only[al6]at h4;simp only[ao];generalize AI Ft o s p=od at *;by_cases h0:od=0
  .subst h0;refine⟨λv m h=>?_,λe h=>absurd h s_⟩;simp only[ne_eq,not_true_eq_false,bS]at h;injection h with q1 q2
   subst q1 q2;have c0:((0:Nat):Int)=0:=rfl;rw[c0]at h3;simp(config := { maxSteps:=9^7 }) (disch:=omega)[↓ac,↓aa,h1,h2,hfT,hsS,h3,hsT,hsF,h4]
  .refine⟨λv m h=>absurd h (by rw[ac h0];simp),λe h=>?_⟩;rw[ac h0]at h;injection h with h
   subst h;simp(config := { maxSteps:=9^7 }) (disch:=omega)[↓ac,↓aa,h1,h2,hfT,hsS,h3,hsT,hsF,h4]
def afX (x:R (Hd×E_)):R (Hd×E_):=match x with
 |.ok v n=>.ok (⟨v.1.gain,v.1.inf,v.1.S,v.1.T,v.1.F,0,0⟩,v.2) n
 |.er e=>.er e
def aAn:∀o p:Nat,o<2->p<2->(Qy o p=0↔o=0∧p=0):=by
 intro o p ho hp;rcases (show o=0∨o=1 by omega) with rfl|rfl<;>rcases (show p=0∨p=1 by omega) with rfl|rfl<;>decide
def avS {b:C_}(hb:b.length<=1000000000){r g:Nat}{j:aG}{n:Int}:afX ((((ma b j n).bind λS n=>(po b S n g).bind λT n=>(aE b n 1).bind λo n=>(aE b n 1).bind λs n=>(if s=1 then Cl b j n else R.ok (List.replicate j.many []) n).bind λF n=>(aE b n 1).bind λp n=>R.ok (⟨g,j,S,T,F,Qy o p,s⟩:Hd) n)).bind λH n=>(dn b (If r H.inf H.S) n Z0).bind λZ m=>if H.od=0∧(H.is=1->kF H.F=true) then .ok (H,Z) m else .er 7)=QG b n r g j:=by
 unfold QG Jj
 cases ma b j n with
 |er e=>rfl
 |ok S n1 =>
 simp only[ao]
 cases po b S n1 g with
 |er e=>rfl
 |ok T n2 =>
 simp only[ao]
 cases h1:aE b n2 1 with
 |er e=>rfl
 |ok o n3 =>
 simp only[ao]
 cases h2:aE b n3 1 with
 |er e=>rfl
 |ok s n4 =>
 simp only[ao]
 cases (if s=1 then Cl b j n4 else R.ok (List.replicate j.many []) n4) with
 |er e=>rfl
 |ok F n5 =>
 simp only[ao]
 cases h3:aE b n5 1 with
 |er e=>rfl
 |ok p n6 =>
 simp only[ao]
 cases dn b (If r j S) n6 Z0 with
 |er e=>rfl
 |ok Z n7 =>
 simp only[ao];have o2:o<2:=(cu h1).1;have s2:s<2:=(cu h2).1;have p2:p<2:=(cu h3).1;have ho:=aAn o p o2 p2;by_cases hc:Qy o p=0∧(s=1->kF F=true)
 .rw[ac hc];obtain⟨h4,h5⟩:=hc;obtain⟨rfl,rfl⟩:=ho.1 h4;have:¬AI F 0 s 0≠0:=by
   unfold AI;by_cases hs:s=1
   .rw[aa (by simp[h5 hs])];simp
   .rw[aa (λh=>hs h.1)];simp
  rw[aa this];rfl
 .rw[aa hc];have:AI F o s p≠0:=by
   intro h;apply hc;unfold AI at h;split at h
   .omega
   .rename_i h5;refine⟨ho.2 o_,λhs=>?_⟩
    cases ha:kF F with
    |true=>rfl
    |false=>exact absurd ⟨hs,ha⟩ h5
  rw[ac this];rfl
def aj2 {α β γ:Type}{x:R α}{f:α->Nat->R β}{g:β->Nat->R γ}:(x.bind f).bind g=x.bind λv n=>(f v n).bind g:=by cases x<;>rfl
def SH {α:Type}{x:R α}{f:α->Nat->R (Hd×E_)}:afX (x.bind f)=x.bind λv n=>afX (f v n):=by cases x<;>rfl
def aku {b:C_}(hb:b.length<=1000000000){a:Int}{r:Nat}{q:Bool}{i:aG}:afX (Cp b a r q i)=(aE b a 0).bind λ_ n=>if q=true∧¬i.may r then .er 7 else (aE b n 8).bind λg n=>(if q=true then R.ok i n else fW b n r).bind λj n=>QG b n r g j:=by
 unfold Cp;rw[SH]
 congr 1
 funext v n;split
 .rfl
 .unfold Gi;rw[aj2,SH]
  congr 1
  funext g n;rw[aj2,SH]
  congr 1
  funext j n;exact avS hb
attribute [simp ↓ high] NV Um
abbrev okJ (H:Hd)(Z:E_):D_:=okC H Z
abbrev LN (x:R (Hd×E_)):L_:=match x with
 |.ok v m=>some (.tup [.agg (okJ v.1 v.2),A_ m,A_ 0])
 |.er e=>some (.tup [.agg mZ,A_ 0,A_ (e+1)])
abbrev ay2 (T:VC):VC:=(.seq AZ
 (.seq (.seq By
 (.cond (.m 32)
 (.seq (.seq (K [0,1,2,3]) (F 9)) (.seq Bi
 .ret))
 .skip))
 (.seq (.seq Bn
 (.cond (.m 40)
 (.seq (.seq (K [0,1,2,3]) (F 9)) (.seq AS
 .ret))
 .skip))
 (.seq (.seq Bl (F 9))
 (.seq Bh
 (.seq (.seq Bx
 (.cond (.m 53)
 (.seq (.seq (K [0,1,2,3,14]) (F 13)) (.seq AU
 .ret))
 (.seq (K [15]) .skip)))
 (.seq BA
 (.seq (.seq Ac
 (.cond (.m 59)
 (.seq Ax
 (.seq zY
 (.cond (.m 70)
 (.seq (.seq (K [0,1,2]) (F 13)) (.seq Au
 .ret))
 (.seq (K [15]) .skip))))
 .skip)) T))))))))
def Fo (T:VC)(hT:T=El):wI=⟨5,[.cell 10 (some 9),.tmp 11,.tmp 12],ay2 T⟩:=by rw[hT];rfl
def aow (b:C_)(hb:b.length<=1000000000)(a:Int)(h0:¬(0<=a∧a<=b.length))(rt:Nat)(hrt:rt<=11)(q:Bool)(cs:D_)(hcs:cs=zI∨∃i:aG,cs=i.cells):bn prog eg [.d (.lst (ax b)),A_ a,A_ rt,B_ q,.agg cs]=some (.tup [.agg mZ,A_ 0,A_ 2]):=by
 obtain⟨T,hT⟩:∃T,T=El:=⟨_,rfl⟩
 have hc:=Fo T hT;have hr:a<0∨0<=a∧(b.length:Int)<a:=o_;rcases hcs with rfl|⟨i,rfl⟩<;>(rw[aL jk hc rfl];rcases hr with h|⟨h,h2⟩<;>simp(maxSteps:=9^6)(disch:=omega)[↓ac,↓aa])
def auu (b:C_)(hb:b.length<=1000000000)(a:Nat)(h0:a<=b.length)(rt:Nat)(hrt:rt<=11)(i:aG)(hi:i.Fit)(hm:¬i.may rt):bn prog eg [.d (.lst (ax b)),A_ a,A_ rt,B_ true,.agg i.cells]=some (.tup [.agg mZ,A_ 0,A_ 8]):=by
 obtain⟨T,hT⟩:∃T,T=El:=⟨_,rfl⟩
 have hc:=Fo T hT;have hM:=Kz rt i hi o_;rw[au,aa hm]at hM;simp only[aG.cells]at hM⊢;rw[aL jk hc rfl];simp(maxSteps:=9^6)(disch:=omega)[↓ac,↓aa,hM]
def aeV (b:C_)(hb:b.length<=1000000000)(a:Nat)(h0:a<=b.length)(rt:Nat)(hrt:rt<=11)(q:Bool)(qs ss:Nat)(mx:Int)(gs:E_)(G:AV)(hG:G=.d (.lst (am gs))∨G=.nl)(ht:∃v,bn prog fZ [.agg [.d (.int .u8 qs),.d (.int .u8 ss),A_ mx,G]]=some v∧firm v=.agg [.d (.int .u8 qs),.d (.int .u8 ss),A_ mx,al 1 (am gs)])(hq:q=true->bn prog jl [A_ rt,.agg [.d (.int .u8 qs),.d (.int .u8 ss),A_ mx,G]]=some (B_ true))(e:Nat)(he:aE b a 8=.er e)(T:VC)(hT:T=El):bn prog eg [.d (.lst (ax b)),A_ a,A_ rt,B_ q,.agg [.d (.int .u8 qs),.d (.int .u8 ss),A_ mx,G]]=some (.tup [.agg mZ,A_ 0,A_ (e+1)]):=by
 have hc:=Fo T hT;obtain⟨v,t1,t2⟩:=ht;have h1:=Nl hb o_ he;rw[aL jk hc rfl]
 cases q with
 |true =>
  have hM:=hq rfl;rcases hG with rfl|rfl<;>simp(maxSteps:=9^6)(disch:=omega)[↓ac,↓aa,-bB,hM,t1,t2,h1]
 |false=>rcases hG with rfl|rfl<;>simp(maxSteps:=9^6)(disch:=omega)[↓ac,↓aa,-bB,t1,t2,h1]
def aeu (b:C_)(hb:b.length<=1000000000)(a:Nat)(h0:a<=b.length)(rt:Nat)(hrt:rt<=11)(qs ss:Nat)(mx:Int)(gs:E_)(G:AV)(hG:G=.d (.lst (am gs))∨G=.nl)(ht:∃v,bn prog fZ [.agg [.d (.int .u8 qs),.d (.int .u8 ss),A_ mx,G]]=some v∧firm v=.agg [.d (.int .u8 qs),.d (.int .u8 ss),A_ mx,al 1 (am gs)])(g n:Nat)(hg:aE b a 8=.ok g n)(e:Nat)(he:fW b n rt=.er e):bn prog eg [.d (.lst (ax b)),A_ a,A_ rt,B_ false,.agg [.d (.int .u8 qs),.d (.int .u8 ss),A_ mx,G]]=some (.tup [.agg mZ,A_ 0,A_ (e+1)]):=by
 obtain⟨T,hT⟩:∃T,T=El:=⟨_,rfl⟩
 have hc:=Fo T hT;obtain⟨v,t1,t2⟩:=ht;have h1:=GI hb o_ hg;have h2:=KE b n rt hb (by have:=(cu hg).2;omega);rw[ac o_,au,he,ee]at h2;rw[aL jk hc rfl];rcases hG with rfl|rfl<;>simp(maxSteps:=9^6)(disch:=omega)[↓ac,↓aa,-bB,t1,t2,h1,h2]
def atb {b:C_}{n:Int}{rt gn:Nat}{j:aG}(hm:j.may 11){v:Hd×E_}{m:Nat}(h:QG b n rt gn j=.ok v m):v.1.S≠[]:=by
 unfold QG at h;obtain⟨S,n1,h1,h⟩:=dS h;obtain⟨T,n2,h2,h⟩:=dS h;obtain⟨t,n3,h3,h⟩:=dS h;obtain⟨Z,n4,h4,h⟩:=dS h;have s1:=(NJ hm (RP h1)).1;split at h
 .exact absurd h (by simp)
 .injection h with h5 h6
  subst h5;exact s1
def afD {S:H_}(h:S≠[]):¬∀x∈bi S,∀y∈x,jf y=true:=by
 intro h2
 cases S with
 |nil=>exact h rfl
 |cons l r =>
  have:=h2 [.lst (fj l)] (by simp[bi]) (.lst (fj l)) s_;exact absurd this (by simp[jf])
def ajS (b:C_)(hb:b.length<=1000000000)(a:Nat)(h0:a<=b.length)(rt:Nat)(hrt:rt<=11)(qs ss:Nat)(mx:Int)(gs:E_)(G:AV)(hG:G=.d (.lst (am gs))∨G=.nl)(ht:∃v,bn prog fZ [.agg [.d (.int .u8 qs),.d (.int .u8 ss),A_ mx,G]]=some v∧firm v=.agg [.d (.int .u8 qs),.d (.int .u8 ss),A_ mx,al 1 (am gs)])(g n:Nat)(hg:aE b a 8=.ok g n)(j:aG)(m:Nat)(hj:fW b n rt=.ok j m):bn prog eg [.d (.lst (ax b)),A_ a,A_ rt,B_ false,.agg [.d (.int .u8 qs),.d (.int .u8 ss),A_ mx,G]]=LN (QG b m rt g j):=by
 obtain⟨T,hT⟩:∃T,T=El:=⟨_,rfl⟩
 have hc:=Fo T hT;obtain⟨v,t1,t2⟩:=ht;have h1:=GI hb o_ hg;have hp:=xI hrt hj;have h2:=KE b n rt hb (by have:=(cu hg).2;omega);rw[ac o_,au,hj,b9 hp]at h2;have hg8:g<256:=(cu hg).1;obtain⟨u1,u2⟩:=ahd b hb rt hrt g o_ j (MR hrt hp.1 hp.2.2) hp.1 m hp.2.1;rw[<-hT]at u1 u2;rw[aL jk hc rfl]
 cases hx:QG b m rt g j with
 |ok v2 n2 =>
  have u:=u1 v2 n2 hx;have nf:=afD (atb (iY hrt hp.1) hx);rcases hG with rfl|rfl<;>simp(maxSteps:=9^6)(disch:=omega)[↓ac,↓aa,-bB,t1,t2,h1,h2,u]
  all_goals exact λh=>absurd h nf
 |er e =>
  have u:=u2 e hx;rcases hG with rfl|rfl<;>simp(maxSteps:=9^6)(disch:=omega)[↓ac,↓aa,-bB,t1,t2,h1,h2,u]
def atQ (b:C_)(hb:b.length<=1000000000)(a:Nat)(h0:a<=b.length)(rt:Nat)(hrt:rt<=11)(i:aG)(hi:i.Fit)(hm:i.may rt)(g n:Nat)(hg:aE b a 8=.ok g n):bn prog eg [.d (.lst (ax b)),A_ a,A_ rt,B_ true,.agg i.cells]=LN (QG b n rt g i):=by
 obtain⟨T,hT⟩:∃T,T=El:=⟨_,rfl⟩
 have hc:=Fo T hT;have hM:=Kz rt i hi o_;rw[au,ac hm]at hM;obtain⟨v,t1,t2⟩:=UC i.seq i.shape i.max i.groups (by have:=hi.len;omega);have hgr:=(eR (iY hrt hm)).2;have hmn:=km i;have hgn:al 1 (am i.groups)=.own false 1 (am i.groups):=fX (by cases h:i.groups with|nil=>rw[h]at hgr;simp at hgr;omega|cons x r=>simp[am]);rw[hgn]at t2;have h1:=GI hb o_ hg;have hn:=(cu hg).2;have hg8:g<256:=(cu hg).1;obtain⟨u1,u2⟩:=ahd b hb rt hrt g o_ i hi hm n hn;rw[<-hT]at u1 u2;simp only[aG.cells]at hM⊢;rw[aL jk hc rfl]
 cases hx:QG b n rt g i with
 |ok v2 n2 =>
  have u:=u1 v2 n2 hx;have nf:=afD (atb (iY hrt hm) hx);simp(maxSteps:=9^6)(disch:=omega)[↓ac,↓aa,-bB,hM,t1,t2,h1,u];exact λh=>absurd h nf
 |er e =>
  have u:=u2 e hx;simp(maxSteps:=9^6)(disch:=omega)[↓ac,↓aa,-bB,hM,t1,t2,h1,u]
def agh {x:R (Hd×E_)}:LN (afX x)=LN x:=by cases x<;>rfl
def ace (b:C_)(hb:b.length<=1000000000)(a:Int)(ha:i64 a)(rt:Nat)(hrt:rt<=11)(q:Bool)(i:aG)(hi:i.groups.length<=1000)(hq:q=true->i.Fit):bn prog eg [.d (.lst (ax b)),A_ a,A_ rt,B_ q,.agg i.cells]=LN (Cp b a rt q i):=by
 rw[<-agh,aku hb];by_cases h0:0<=a∧a<=b.length
 .obtain⟨A,rfl⟩:=ay h0.1;have hA:A<=b.length:=o_;have e0:aE b A 0=.ok 0 A:=by
   rw[aE,ac ⟨o_,o_,o_⟩,aa o_];simp[bin,val]
  rw[e0,ao];by_cases hm:q=true∧¬i.may rt
  .obtain⟨rfl,hm⟩:=hm;rw[ac ⟨rfl,hm⟩];exact auu b hb A hA rt hrt i (hq rfl) hm
  .rw[aa hm]
   cases e1:aE b A 8 with
   |er e =>
    rw[aQ];refine aeV b hb A hA rt hrt q i.seq i.shape i.max i.groups _ (.inl rfl) (UC _ _ _ _ hi) (λh=>?_) e e1 El rfl;have hM:=Kz rt i (hq h) o_;rw[au,ac (ig λh2=>hm ⟨h,h2⟩)]at hM;exact hM
   |ok g n =>
    rw[ao]
    cases q with
    |true =>
     rw[ac rfl,ao];exact atQ b hb A hA rt hrt i (hq rfl) (ig λh2=>hm ⟨rfl,h2⟩) g n e1
    |false =>
     rw[aa s_]
     cases e2:fW b n rt with
     |er e=>exact aeu b hb A hA rt hrt i.seq i.shape i.max i.groups _ (.inl rfl) (UC _ _ _ _ hi) g n e1 e e2
     |ok j m =>
      rw[ao];exact ajS b hb A hA rt hrt i.seq i.shape i.max i.groups _ (.inl rfl) (UC _ _ _ _ hi) g n e1 j m e2
 .have e0:aE b a 0=.er 1:=by
   rw[aE,aa (λh=>h0 h.2)]
  rw[e0,aQ];exact aow b hb a h0 rt hrt q i.cells (.inr ⟨i,rfl⟩)
def aai:∃v,bn prog fZ [.agg [.d (.int .u8 ((0:Nat):Int)),.d (.int .u8 ((0:Nat):Int)),A_ 0,.nl]]=some v∧firm v=.agg [.d (.int .u8 ((0:Nat):Int)),.d (.int .u8 ((0:Nat):Int)),A_ 0,al 1 (am [])] :=
 ⟨.agg zI,Fq 400 k_,rfl⟩
def YJ (b:C_)(hb:b.length<=1000000000)(a:Nat)(ha:a<=b.length)(rt:Nat)(hrt:rt<=11)(i:aG):bn prog eg [.d (.lst (ax b)),A_ a,A_ rt,B_ false,.agg zI]=LN (Cp b a rt false i):=by
 rw[<-agh,aku hb];have e0:aE b a 0=.ok 0 a:=by
  rw[aE,ac ⟨o_,o_,o_⟩,aa o_];simp[bin,val]
 rw[e0,ao,aa (λh=>absurd h.1 s_)]
 cases e1:aE b a 8 with
 |er e =>
  rw[aQ];exact aeV b hb a ha rt hrt false 0 0 0 [] _ (.inr rfl) aai (λh=>absurd h s_) e e1 El rfl
 |ok g n =>
  rw[ao,aa s_]
  cases e2:fW b n rt with
  |er e=>exact aeu b hb a ha rt hrt 0 0 0 [] _ (.inr rfl) aai g n e1 e e2
  |ok j m =>
   rw[ao];exact ajS b hb a ha rt hrt 0 0 0 [] _ (.inr rfl) aai g n e1 j m e2
abbrev yH:aT:=[(2,.ptr 0 0),(4,.ptr 1 0),(6,.ptr 2 0),(7,.ptr 3 0),(8,.ptr 4 0)]
abbrev hz3 (C c:D_):ak:=[(0,.cells C),(1,.cells zF),(2,.cells c)]
def Qa (C:D_):Hr (hz3 C) 2:=⟨λc=>by simp,λc d=>by simp⟩
abbrev aqM (T:VC):VC:=(.seq (.seq ll (K [40])) (.seq qF (.seq qX (.seq q9 T))))
abbrev Hx (T:VC):VC:=(.seq (.seq pY (.cond (.m 53) (.seq pW pr) .skip)) T)
section
variable (b:C_)(hb:b.length<=1000000000)
include hb
theorem asD (c0 c2 c3:AV)(n:Int)(hn:n=1∨n=2)(T:VC) :
  (Dn prog).code (aqM T) ⟨[(2,.ptr 0 0),(4,.ptr 1 0),(6,.ptr 2 0)],⟨hz3 [c0,A_ n,c2,c3] (aX b (0,0)),3⟩⟩ =
  (Dn prog).code T ⟨yH,⟨hq [c0,A_ n,c2,c3] zF zI [] (aX b (Id b n)),5⟩⟩:=by
 have h1:=rC (Qa [c0,A_ n,c2,c3]) b hb (0,0) (dp _) 3 3;have h2:=GQ (Qa [c0,A_ n,c2,c3]) b (gT b (0,0) 3).2 (((gT b (0,0) 3).1:Int)=n-1) 3;have h3:=rC (Qa [c0,A_ n,c2,c3]) b hb (xY b n) (aeS b hb) 4 3;have h4:=GQ (Qa [c0,A_ n,c2,c3]) b (gT b (xY b n) 4).2 (((gT b (xY b n) 4).1:Int)=0) 3;have e1:xY b n=kT (gT b (0,0) 3).2 (((gT b (0,0) 3).1:Int)=n-1):=rfl;have e2:Id b n=kT (gT b (xY b n) 4).2 (((gT b (xY b n) 4).1:Int)=0):=rfl;rw[<-e1]at h2;rw[<-e2]at h4;clear e1 e2;generalize Id b n=s4 at *;generalize xY b n=s2 at *;generalize gT b (0,0) 3=g1 at *;obtain⟨x1,s1⟩:=g1;generalize gT b s2 4=g3 at *;obtain⟨x3,s3⟩:=g3;have c0':((0:Nat):Int)=0:=rfl;simp only[aX,hz3,hq,c0',zF,aqM]at h1 h2 h3 h4⊢;by_cases k1:(x1:Int)=n-1
 .rw[dT_ k1]at h2;by_cases k2:(x3:Int)=0
  .rw[dT_ k2]at h4;simp(maxSteps:=9^6)(disch:=omega)[↓ac,↓aa,h1,h2,h3,h4]
  .rw[dF_ k2]at h4;simp(maxSteps:=9^6)(disch:=omega)[↓ac,↓aa,h1,h2,h3,h4]
 .rw[dF_ k1]at h2;by_cases k2:(x3:Int)=0
  .rw[dT_ k2]at h4;simp(maxSteps:=9^6)(disch:=omega)[↓ac,↓aa,h1,h2,h3,h4]
  .rw[dF_ k2]at h4;simp(maxSteps:=9^6)(disch:=omega)[↓ac,↓aa,h1,h2,h3,h4]
theorem anX (c0 c2 c3:AV)(s:Nat×Nat)(T:VC) :
  (Dn prog).code (Hx T) ⟨yH,⟨hq [c0,A_ 1,c2,c3] zF zI [] (aX b s),5⟩⟩ =
  (Dn prog).code T ⟨yH,⟨hq [c0,A_ 1,c2,c3] zF zI [] (aX b s),5⟩⟩:=by
 simp only[aX,hq,zF,Hx];simp(maxSteps:=9^6)(disch:=omega)[↓ac,↓aa]
theorem aeN (c0 c2 c3:AV)(s:Nat×Nat)(hs:s.1<=b.length)(h:(gT b s 1).1≠1)(T:VC) :
  (Dn prog).code (Hx T) ⟨yH,⟨hq [c0,A_ 2,c2,c3] zF zI [] (aX b s),5⟩⟩ =
  (Dn prog).code T ⟨yH,⟨hq [c0,A_ 2,c2,c3] zF zI [] (aX b (gT b s 1).2),5⟩⟩:=by
 have h1:=rC (abo [c0,A_ 2,c2,c3] zF zI []) b hb s hs 1 5;generalize gT b s 1=g at *;obtain⟨x,s1⟩:=g;simp only at h;have hx2:¬(x:Int)=1:=o_;simp only[aX,hq,zF,Hx]at h1⊢;simp(maxSteps:=9^6)(disch:=omega)[↓ac,↓aa,h1,hx2]
theorem ant (r:Nat)(c2 c3:AV)(s:Nat×Nat)(hs:s.1<=b.length)(h:(gT b s 1).1=1)(a:Nat)(ha:(gT b s 1).2=(a,0))(j0 j1 j2 j3:AV)(hj:j3=.nl∨∃xs,j3=.own false 1 xs)(q0 q1 j2':D)(h0:j0=.d q0)(h1':j1=.d q1)(h2':j2=.d j2')(F:D_)(s6:Nat×Nat)
  (hc:(Dn prog).call jo [.ptr 2 0,A_ r,.ptr 3 0] ⟨hq [A_ r,A_ 2,c2,c3] (fT0 true) zI [] (aX b (a,0)),5⟩=some (.agg [j0,j1,j2,j3],⟨hq [A_ r,A_ 2,c2,c3] F zI [] (aX b s6),7⟩))(T:VC) :
  (Dn prog).code (Hx T) ⟨yH,⟨hq [A_ r,A_ 2,c2,c3] zF zI [] (aX b s),5⟩⟩ =
  (Dn prog).code T ⟨yH,⟨hq [A_ r,A_ 2,c2,c3] F [j0,j1,j2,j3] [] (aX b s6),7⟩⟩:=by
 have h1:=rC (abo [A_ r,A_ 2,c2,c3] zF zI []) b hb s hs 1 5;subst h0 h1' h2';generalize gT b s 1=g at *;obtain⟨x,s1⟩:=g;simp only at h ha;subst h ha;have c1:((1:Nat):Int)=1:=rfl;have c0:((0:Nat):Int)=0:=rfl;simp only[aX,hq,zF,Hx,fT0,c1,c0]at h1 hc⊢;rcases hj with rfl|⟨xs,rfl⟩
 .simp(maxSteps:=9^6)(disch:=omega)[↓ac,↓aa,h1,hc]
 .simp(maxSteps:=9^6)(disch:=omega)[↓ac,↓aa,h1,hc]
end
abbrev NF (k:Int):aT:=[(2,.ptr 0 0),(4,.ptr 1 0),(6,.ptr 2 0),(7,.ptr 3 0),(8,.ptr 4 0),(9,A_ k)]
abbrev Wa (F:D_)(s:Nat×Nat)(b:C_)(e:Int)(N:Nat):I_:=some (.ret,⟨[(4,.ptr 1 0),(5,A_ e)],⟨[(1,.cells zF),(2,.cells (aX b s)),(3,.cells F)],N⟩⟩)
abbrev ag7 (b:C_)(F:D_)(s:Nat×Nat)(N:Nat):St:=⟨[(4,.ptr 1 0),(6,.ptr 2 0),(7,.ptr 3 0)],⟨[(1,.cells zF),(2,.cells (aX b s)),(3,.cells F)],N⟩⟩
section
variable (b:C_)(hb:b.length<=1000000000)
theorem axQ (c0 c2 c3:AV)(F I:D_)(s:Nat×Nat)(n:Int)(N:Nat)(hN:5<=N) :
  (Dn prog).code (.loop cG) ⟨NF n,⟨hq [c0,A_ n,c2,c3] F I [] (aX b s),N⟩⟩=some (.exit 0,ag7 b F s N):=by
 rw[ah fk];simp only[hq,aX];simp(maxSteps:=9^6)(disch:=omega)[↓ac,↓aa]
theorem aty (c0 c2 c3:AV)(F I:D_)(s:Nat×Nat)(hs:s.2≠0)(n i:Int)(hi:i<n)(N:Nat) :
  (Dn prog).code (.loop cG) ⟨NF i,⟨hq [c0,A_ n,c2,c3] F I [] (aX b s),N⟩⟩=Wa F s b s.2 N:=by
 obtain⟨a,e⟩:=s;simp only at hs;rw[ah fk];simp only[hq,aX];simp(maxSteps:=9^6)(disch:=omega)[↓ac,↓aa,hs]
include hb
theorem avZ (r:Nat)(hr:r<=11)(q:Bool)(i:aG)(hi:i.Fit)(I iv:D_)(hI:RY q i I iv)(c2 c3 f2 f3 f4:AV)(a:Nat)(ha:a<=b.length)(acc:BB_)(hacc:acc.length<=100)(v:Hd×E_)(m:Nat)(hv:Cp b a r q i=.ok v m)(n j:Nat)(hj:j<n)(hn:n<=2)(N:Nat)(hN:5<=N) :
  (Dn prog).code (.loop cG) ⟨NF j,⟨hq [A_ r,A_ n,c2,c3] [al 9 (dG acc),B_ q,f2,f3,f4] I [] (aX b (a,0)),N⟩⟩ =
  (Dn prog).code (.loop cG) ⟨NF (j+1:Nat),⟨hq [A_ r,A_ n,c2,c3] [al 9 (dG (acc++[Gv v])),B_ q,f2,f3,f4] I [] (aX b (m,0)),N+1⟩⟩:=by
 have cj:((j+1:Nat):Int)=(j:Int)+1:=rfl;have c0:((0:Nat):Int)=0:=rfl;have hA:(dG acc).length=acc.length:=Wf;have e:al 9 (dG (acc++[Gv v]))=.own false 9 (dG acc++[[.int .i64 v.1.gain,.int .u8 v.1.inf.seq,.int .u8 v.1.inf.shape,.int .i64 v.1.inf.max,.lst (am v.1.inf.groups),.lst (bi v.1.S),.lst (cT v.1.T),.lst (bv v.1.F),.lst (am v.2)]]):=by rw[abT,dy]
 have n0:N≠0∧N≠1∧N≠2∧N≠3∧N≠4:=o_;rw[cj,e];rcases hI with ⟨rfl,rfl⟩|⟨rfl,rfl,rfl⟩
 .have hG:=ace b hb a o_ r hr q i (by have:=hi.len;omega) (λ_=>hi);rw[hv]at hG;simp only[aX,hq,c0,LN,okJ,okC,aG.cells]at hG⊢;generalize dG acc=A at *;generalize am v.2=Z at *;rw[ah fk]
  cases A with
  |nil=>simp(maxSteps:=9^6)(disch:=omega)[↓ac,↓aa,hG,n0]
  |cons y w=>simp(maxSteps:=9^6)(disch:=omega)[↓ac,↓aa,hG,n0]
 .have hG:=YJ b hb a ha r hr i;rw[hv]at hG;simp only[aX,hq,c0,LN,okJ,okC,zI]at hG⊢;generalize dG acc=A at *;generalize am v.2=Z at *;rw[ah fk]
  cases A with
  |nil=>simp(maxSteps:=9^6)(disch:=omega)[↓ac,↓aa,hG,n0]
  |cons y w=>simp(maxSteps:=9^6)(disch:=omega)[↓ac,↓aa,hG,n0]
theorem ay6 (r:Nat)(hr:r<=11)(q:Bool)(i:aG)(hi:i.Fit)(I iv:D_)(hI:RY q i I iv)(c2 c3 f0 f2 f3 f4:AV)(a:Nat)(ha:a<=b.length)(e:Nat)(hv:Cp b a r q i=.er e)(n j:Nat)(hj:j<n)(hn:n<=2)(N:Nat)(hN:5<=N) :
  (Dn prog).code (.loop cG) ⟨NF j,⟨hq [A_ r,A_ n,c2,c3] [f0,B_ q,f2,f3,f4] I [] (aX b (a,0)),N⟩⟩ =
  Wa [f0,B_ q,f2,f3,f4] (a,0) b ((e:Int)+1) (N+1):=by
 have c0:((0:Nat):Int)=0:=rfl;have n0:N≠0∧N≠1∧N≠2∧N≠3∧N≠4:=o_;have e1:¬((e:Int)+1=0):=o_;rcases hI with ⟨rfl,rfl⟩|⟨rfl,rfl,rfl⟩
 .have hG:=ace b hb a o_ r hr q i (by have:=hi.len;omega) (λ_=>hi);rw[hv]at hG;simp only[aX,hq,c0,LN,mZ,aG.cells]at hG⊢;rw[ah fk];simp(maxSteps:=9^6)(disch:=omega)[↓ac,↓aa,hG,n0,e1]
 .have hG:=YJ b hb a ha r hr i;rw[hv]at hG;simp only[aX,hq,c0,LN,mZ,zI]at hG⊢;rw[ah fk];simp(maxSteps:=9^6)(disch:=omega)[↓ac,↓aa,hG,n0,e1]
theorem atW (r:Nat)(hr:r<=11)(q:Bool)(i:aG)(hi:i.Fit)(I iv:D_)(hI:RY q i I iv)(c2 c3 f2 f3 f4:AV)(n:Nat)(hn:n<=2):∀(k j a:Nat) (acc:BB_) (N:Nat),j+k=n->acc.length=j->a<=b.length->5<=N->
  match iU b r q i k a with
  |.ok l m=>m<=b.length∧∃M,5<=M∧(Dn prog).code (.loop cG) ⟨NF j,⟨hq [A_ r,A_ n,c2,c3] [al 9 (dG acc),B_ q,f2,f3,f4] I [] (aX b (a,0)),N⟩⟩=some (.exit 0,ag7 b [al 9 (dG (acc++l)),B_ q,f2,f3,f4] (m,0) M)
  |.er e=>∃F s M,(Dn prog).code (.loop cG) ⟨NF j,⟨hq [A_ r,A_ n,c2,c3] [al 9 (dG acc),B_ q,f2,f3,f4] I [] (aX b (a,0)),N⟩⟩=Wa F s b ((e:Int)+1) M:=by
 intro k
 induction k with
 |zero =>
  intro j a acc N hj hl ha hN;obtain rfl:j=n:=o_;simp only[iU];exact⟨ha,N,hN,by rw[axQ b _ _ _ _ _ _ _ _ hN,aR]⟩
 |succ k ih =>
  intro j a acc N hj hl ha hN;rw[iU]
  cases e:Cp b a r q i with
  |er e0 =>
   rw[aQ];exact⟨_,_,_,ay6 b hb r hr q i hi I iv hI c2 c3 _ f2 f3 f4 a ha e0 e n j o_ hn N hN⟩
  |ok v m =>
   obtain⟨A,_,_,_,f1,_⟩:=Xe hb hr hi e;have hm:=(db f1).2.1;have h:=ih (j+1) m (acc++[Gv v]) (N+1) o_ t_ hm o_;rw[avZ b hb r hr q i hi I iv hI c2 c3 f2 f3 f4 a ha acc o_ v m e n j o_ hn N hN,ao]
   cases e2:iU b r q i k m with
   |er e0=>rw[e2]at h;exact h
   |ok l p =>
    rw[e2]at h;obtain⟨h1,M,h2,h3⟩:=h;exact⟨h1,M,h2,by rw[h3,aw];rfl⟩
end
def rG (l:C_)(K:Nat):AV:=match l with|[]=>.nl|_=>.sl K 0 l.length
def yn (l:C_)(K:Nat):ak:=match l with|[]=>[]|_=>[(K,.arr 1 (ax l))]
abbrev uv (F:D_)(T:ak)(c:D_):ak:=(1,.cells zF)::(2,.cells c)::(3,.cells F)::T
def TB (F:D_)(T:ak):Hr (uv F T) 2:=⟨λc=>by simp,λc d=>by simp⟩
section
variable (b:C_)(hb:b.length<=1000000000)(f0 f1 f2 f3:AV)
include hb
theorem apj (F:D_)(T:ak)(s:Nat×Nat)(n i:Int)(h:n<=i∨s.2≠0)(N:Nat) :
  (Dn prog).code (.loop eh) ⟨[(4,.ptr 1 0),(6,.ptr 2 0),(7,.ptr 3 0),(14,A_ n),(16,A_ i)],⟨uv F T (aX b s),N⟩⟩=some (.exit 2,⟨[(4,.ptr 1 0),(6,.ptr 2 0),(7,.ptr 3 0)],⟨uv F T (aX b s),N⟩⟩):=by
 obtain⟨a,e⟩:=s;rw[ah zB];simp only[uv,aX];by_cases h1:n<=i
 .simp(maxSteps:=9^6)(disch:=omega)[↓ac,↓aa]
 .have h2:e≠0:=h.resolve_left h1;simp(maxSteps:=9^6)(disch:=omega)[↓ac,↓aa,h2]
theorem aub (l:C_)(hl:l.length<=1000)(K:Nat)(a:Nat)(ha:a<=b.length)(n i:Int)(hi:i<n)(hi0:0<=i)(hn:n<=1000)(N:Nat)(hN:4<=N)(hK:4<=K∧K<N) :
  (Dn prog).code (.loop eh) ⟨[(4,.ptr 1 0),(6,.ptr 2 0),(7,.ptr 3 0),(14,A_ n),(16,A_ i)],⟨uv [f0,f1,f2,f3,rG l K] (yn l K) (aX b (a,0)),N⟩⟩ =
  (Dn prog).code (.loop eh) ⟨[(4,.ptr 1 0),(6,.ptr 2 0),(7,.ptr 3 0),(14,A_ n),(16,A_ (i+1))],⟨uv [f0,f1,f2,f3,rG (l++[(gT b (a,0) 8).1]) N] (yn (l++[(gT b (a,0) 8).1]) N) (aX b (gT b (a,0) 8).2),N+1⟩⟩:=by
 have h1:=rC (TB [f0,f1,f2,f3,rG l K] (yn l K)) b hb (a,0) ha 8 N;have hv:(gT b (a,0) 8).1<2 ^ 8:=Hv (k:=8) o_;generalize gT b (a,0) 8=g at *;obtain⟨x,s1⟩:=g;simp only at hv h1⊢;have c0:((0:Nat):Int)=0:=rfl;have hx2:x<256:=o_;have e1:rG (l++[x]) N=.sl N 0 (l.length+1):=by cases l<;>simp[rG]
 have e2:yn (l++[x]) N=[(N,.arr 1 (ax (l++[x])))]:=by cases l<;>rfl
 rw[e1,e2];rw[ah zB];have n0:(N≠1∧N≠2∧N≠3)∧(K≠1∧K≠2∧K≠3)∧N≠K:=o_;simp only[uv,aX,c0]at h1⊢
 cases l with
 |nil =>
  simp only[rG,yn]at h1⊢;have e3:ax [x]=[[.int .u8 (x:Int)]]:=rfl;simp(maxSteps:=9^6)(disch:=omega)[↓ac,↓aa,h1,n0,e3]
 |cons y r =>
  simp only[rG,yn]at h1⊢;have hyl:=fJ (l:=y::r);have e3:ax (y::r++[x])=ax (y::r)++[[.int .u8 (x:Int)]]:=by simp[ax]
  have htk:List.take (y::r).length (ax (y::r))=ax (y::r):=bp o_;rw[e3];have hlen:(y::r).length<=1000:=hl;generalize (y::r).length=L at *;generalize ax (y::r)=Y at *;simp(maxSteps:=9^6)(disch:=omega)[↓ac,↓aa,h1,n0,htk,hyl]
theorem ai8 (n:Nat)(hn:n<=1000):∀(k i:Nat) (l:C_) (K:Nat) (s:Nat×Nat) (N:Nat),i+k=n->l.length=i->s.1<=b.length->4<=K∧K<N->
  ∃K' M,(4<=K'∧K'<M)∧(Dn prog).code (.loop eh) ⟨[(4,.ptr 1 0),(6,.ptr 2 0),(7,.ptr 3 0),(14,A_ n),(16,A_ i)],⟨uv [f0,f1,f2,f3,rG l K] (yn l K) (aX b s),N⟩⟩ =
  some (.exit 2,⟨[(4,.ptr 1 0),(6,.ptr 2 0),(7,.ptr 3 0)],⟨uv [f0,f1,f2,f3,rG (l++(oY b k s).1) K'] (yn (l++(oY b k s).1) K') (aX b (oY b k s).2),M⟩⟩):=by
 intro k
 induction k with
 |zero =>
  intro i l K s N hi hl hs hK;refine⟨K,N,hK,?_⟩;rw[oY,aR];exact apj b hb _ _ s n i (.inl o_) N
 |succ k ih =>
  intro i l K s N hi hl hs hK;obtain⟨a,e⟩:=s;by_cases he:e=0
  .subst he;have hst:=aub b hb f0 f1 f2 f3 l o_ K a hs n i o_ o_ o_ N o_ hK;obtain⟨K',M,h1,h2⟩:=ih (i+1) (l++[(gT b (a,0) 8).1]) N (gT b (a,0) 8).2 (N+1) o_ t_ (jU hs) o_;have c1:((i+1:Nat):Int)=(i:Int)+1:=rfl;rw[c1]at h2;refine⟨K',M,h1,?_⟩;rw[hst,h2,oY,ac rfl,aw];rfl
  .refine⟨K,N,hK,?_⟩;rw[oY,aa he,aR];exact apj b hb _ _ (a,e) n i (.inr he) N
end
abbrev sZ (T:VC):VC:=(.seq pO
 (.seq (.seq qa
 (.cond (.m 110)
 (.seq (K [13]) (.seq py
 (.seq pq
 (.seq (.seq px
 (.cond (.m 118)
 (.seq (K [14]) (.seq oW
 (.seq pb
 p9)))
 .skip))
 (.seq (.seq pD
 (.block 2
 (.seq (.loop eh) (K [14,16]))))
 pk)))))
 .skip))
 (.seq pe T)))
abbrev w7:VC:=(.seq (.seq pU
 (.cond (.m 157)
 (.seq (K [7]) (.seq kA
 .ret))
 .skip))
 (.seq (.seq pi
 (.cond (.m 173)
 (.seq (K [6,7]) (.seq pc
 .ret))
 .skip))
 (.seq (.seq oU
 (.block 4
 (.seq (.loop iO) (K [6,17]))))
 (.seq pw
 .ret))))
abbrev amj:aT:=[(4,.ptr 1 0),(6,.ptr 2 0),(7,.ptr 3 0)]
section
variable (b:C_)(hb:b.length<=1000000000)(f0 f1 f2 f3:AV)
include hb
theorem apK (a:Nat)(ha:a<=b.length)(N:Nat)(hN:5<=N)(T:VC):∃K M,(4<=K∧K<M)∧
  (Dn prog).code (sZ T) ⟨amj,⟨uv [f0,f1,f2,f3,.nl] [] (aX b (a,0)),N⟩⟩ =
  (Dn prog).code T ⟨amj,⟨uv [f0,f1,f2,f3,rG (R9 b (a,0)).1 K] (yn (R9 b (a,0)).1 K) (aX b (R9 b (a,0)).2),M⟩⟩:=by
 have H0:=TB [f0,f1,f2,f3,.nl] [];have h1:=rC H0 b hb (a,0) ha 3 N;have l1:(gT b (a,0) 3).2.1<=b.length:=jU ha;have c0:((0:Nat):Int)=0:=rfl;unfold R9;by_cases h6:(gT b (a,0) 3).1=6
 .rw[ac h6];have h2:=rC H0 b hb (gT b (a,0) 3).2 l1 4 N;have l2:=jU (b:=b) (s:=(gT b (a,0) 3).2) (k:=4) l1;have v2:(gT b (gT b (a,0) 3).2 4).1<2 ^ 4:=Hv (k:=4) o_;generalize gT b (a,0) 3=g1 at *;obtain⟨x1,s1⟩:=g1;simp only at h6 h1 h2 l1 l2 v2⊢;subst h6;have h3:=GQ H0 b (gT b s1 4).2 ((0:Int)<((gT b s1 4).1:Nat)) N;have l3:=yE (b:=b) (s:=(gT b s1 4).2) (c:=(0:Int)<((gT b s1 4).1:Nat)) l2;unfold JB;generalize gT b s1 4=g2 at *;obtain⟨x2,s2⟩:=g2;simp only at h2 h3 l2 l3 v2⊢;generalize hs3:kT s2 ((0:Int)<(x2:Nat))=s3 at *;have c6:((6:Nat):Int)=6:=rfl;by_cases h15:x2=15
  .rw[ac h15];have h4:=rC H0 b hb s3 l3 8 N;have l4:=jU (b:=b) (s:=s3) (k:=8) l3;have v4:(gT b s3 8).1<2 ^ 8:=Hv (k:=8) o_;have h5:=GQ H0 b (gT b s3 8).2 ((0:Int)<((gT b s3 8).1:Nat)) N;have l5:=yE (b:=b) (s:=(gT b s3 8).2) (c:=(0:Int)<((gT b s3 8).1:Nat)) l4;generalize gT b s3 8=g3 at *;obtain⟨x3,s4⟩:=g3;simp only at h4 h5 l4 l5 v4⊢;generalize hs5:kT s4 ((0:Int)<(x3:Nat))=s5 at *;obtain⟨K,M,hK,hL⟩:=ai8 b hb f0 f1 f2 f3 (14+x3) o_ (14+x3) 0 [] 4 s5 N o_ rfl l5 o_;rw[az]at hL;have cn:((14+x3:Nat):Int)=14+(x3:Int):=o_;have l6:(oY b (14+x3) s5).2.1<=b.length:=aaG l5;unfold Sv;generalize oY b (14+x3) s5=W at *;obtain⟨w,s6⟩:=W;simp only at hL l6⊢;have h7:=rC (TB [f0,f1,f2,f3,rG w K] (yn w K)) b hb s6 l6 3 M;have h8:=GQ (TB [f0,f1,f2,f3,rG w K] (yn w K)) b (gT b s6 3).2 (((gT b s6 3).1:Int)=7) M;generalize gT b s6 3=g4 at *;obtain⟨x4,s7⟩:=g4;simp only at h7 h8⊢;generalize kT s7 ((x4:Int)=7)=s8 at *;refine⟨K,M,hK,?_⟩;subst h15;have c15:((15:Nat):Int)=15:=rfl;have hp:(0:Int)<((15:Nat):Int):=o_;rw[dT_ hp]at h3;have eN:rG [] 4=.nl∧yn [] 4=[]:=⟨rfl,rfl⟩
   rw[eN.1,eN.2]at hL;rw[cn,c0]at hL;simp only[uv,aX,c0,c6,c15]at h1 h2 h3 h4 h5 h7 h8 hL⊢;clear hs3 hs5 eN;generalize rG w K=V at *;generalize yn w K=X at *;by_cases k1:(0:Int)<(x3:Int)
   .rw[dT_ k1]at h5;by_cases k2:(x4:Int)=7
    .rw[dT_ k2]at h8;simp(maxSteps:=9^6)(disch:=omega)[↓ac,↓aa,h1,h2,h3,h4,h5,h7,h8,hL]
    .rw[dF_ k2]at h8;simp(maxSteps:=9^6)(disch:=omega)[↓ac,↓aa,h1,h2,h3,h4,h5,h7,h8,hL]
   .rw[dF_ k1]at h5;by_cases k2:(x4:Int)=7
    .rw[dT_ k2]at h8;simp(maxSteps:=9^6)(disch:=omega)[↓ac,↓aa,h1,h2,h3,h4,h5,h7,h8,hL]
    .rw[dF_ k2]at h8;simp(maxSteps:=9^6)(disch:=omega)[↓ac,↓aa,h1,h2,h3,h4,h5,h7,h8,hL]
  .rw[aa h15];obtain⟨K,M,hK,hL⟩:=ai8 b hb f0 f1 f2 f3 x2 o_ x2 0 [] 4 s3 N o_ rfl l3 o_;rw[az]at hL;have l6:(oY b x2 s3).2.1<=b.length:=aaG l3;unfold Sv;simp only;generalize oY b x2 s3=W at *;obtain⟨w,s6⟩:=W;simp only at hL l6⊢;have h7:=rC (TB [f0,f1,f2,f3,rG w K] (yn w K)) b hb s6 l6 3 M;have h8:=GQ (TB [f0,f1,f2,f3,rG w K] (yn w K)) b (gT b s6 3).2 (((gT b s6 3).1:Int)=7) M;generalize gT b s6 3=g4 at *;obtain⟨x4,s7⟩:=g4;simp only at h7 h8⊢;generalize kT s7 ((x4:Int)=7)=s8 at *;refine⟨K,M,hK,?_⟩;have n15:¬(x2:Int)=15:=o_;have eN:rG [] 4=.nl∧yn [] 4=[]:=⟨rfl,rfl⟩
   rw[eN.1,eN.2,c0]at hL;simp only[uv,aX,c0,c6]at h1 h2 h3 h7 h8 hL⊢;clear hs3 eN;generalize rG w K=V at *;generalize yn w K=X at *;by_cases k1:(0:Int)<(x2:Int)
   .rw[dT_ k1]at h3;by_cases k2:(x4:Int)=7
    .rw[dT_ k2]at h8;simp(maxSteps:=9^6)(disch:=omega)[↓ac,↓aa,h1,h2,h3,h7,h8,hL,n15]
    .rw[dF_ k2]at h8;simp(maxSteps:=9^6)(disch:=omega)[↓ac,↓aa,h1,h2,h3,h7,h8,hL,n15]
   .rw[dF_ k1]at h3;by_cases k2:(x4:Int)=7
    .rw[dT_ k2]at h8;simp(maxSteps:=9^6)(disch:=omega)[↓ac,↓aa,h1,h2,h3,h7,h8,hL,n15]
    .rw[dF_ k2]at h8;simp(maxSteps:=9^6)(disch:=omega)[↓ac,↓aa,h1,h2,h3,h7,h8,hL,n15]
 .rw[aa h6];have h8:=GQ H0 b (gT b (a,0) 3).2 (((gT b (a,0) 3).1:Int)=7) N;generalize gT b (a,0) 3=g1 at *;obtain⟨x1,s1⟩:=g1;simp only at h6 h1 h8⊢;generalize kT s1 ((x1:Int)=7)=s8 at *;refine⟨4,N,o_,?_⟩;have n6:¬(x1:Int)=6:=o_;have eN:rG [] 4=.nl∧yn [] 4=[]:=⟨rfl,rfl⟩
  rw[eN.1,eN.2];simp only[uv,aX,c0]at h1 h8⊢;by_cases k2:(x1:Int)=7
  .rw[dT_ k2]at h8;simp(maxSteps:=9^6)(disch:=omega)[↓ac,↓aa,h1,h8,n6]
  .rw[dF_ k2]at h8;simp(maxSteps:=9^6)(disch:=omega)[↓ac,↓aa,h1,h8,n6]
end
abbrev jk5:D_:=[.junk,.junk,.junk,.junk,.junk]
section
variable (b:C_)(hb:b.length<=1000000000)(f0 f1 f2 f3 f4:AV)
include hb
theorem L2q (hbn:bin b)(F:D_)(T:ak)(s:Nat×Nat)(N:Nat):∀(r:C_) (k:Nat),b.drop k=r->
  (Dn prog).code (.loop iO) ⟨[(4,.ptr 1 0),(6,.ptr 2 0),(7,.ptr 3 0),(17,A_ k)],⟨uv F T (aX b s),N⟩⟩ =
  if 1∉r then some (.exit 4,⟨[(4,.ptr 1 0),(7,.ptr 3 0)],⟨uv F T (aX b s),N⟩⟩) else some (.ret,⟨[(4,.ptr 1 0),(5,A_ 8)],⟨uv F T (aX b s),N⟩⟩):=by
 have hbl:=fJ (l:=b);intro r
 induction r with
 |nil =>
  intro k hj;have hjl:b.length<=k:=aU.1 hj;rw[ac s_,ah zP];simp only[uv,aX];simp(maxSteps:=9^6)(disch:=omega)[↓ac,↓aa,hbl]
 |cons x r ih =>
  intro k hj;have hjl:=ed hj;have hx:=afi hj;have hx1:=hbn x (cU (by rw[hj];exact .head _));have h5:=ih (k+1) (dU hj);have c1:((k+1:Nat):Int)=(k:Int)+1:=rfl;rw[c1]at h5;rw[ah zP];by_cases hx0:x=0
  .have e:(1∉x::r)=(1∉r):=by rw[hx0];simp
   simp only[e];rw[<-h5];clear h5 ih;subst hx0;simp only[uv,aX];generalize ax b=Bb at *;simp(maxSteps:=9^6)(disch:=omega)[↓ac,↓aa,-getElem?_pos,hbl,hx]
  .have hxe:x=1:=by
    have:x<=1:=hx1;omega
   rw[aa (by rw[hxe];simp)];clear h5 ih;subst hxe;simp only[uv,aX,zF];generalize ax b=Bb at *;simp(maxSteps:=9^6)(disch:=omega)[↓ac,↓aa,-getElem?_pos,hbl,hx]
theorem arq (F:D_)(T:ak)(s:Nat×Nat)(hs:s.2≠0)(N:Nat) :
  (Dn prog).code w7 ⟨amj,⟨uv F T (aX b s),N⟩⟩=some (.ret,⟨[(4,.ptr 1 0),(5,A_ s.2)],⟨uv F T (aX b s),N⟩⟩):=by
 obtain⟨a,e⟩:=s;simp only at hs;simp only[uv,aX,zF];simp(maxSteps:=9^6)(disch:=omega)[↓ac,↓aa,hs]
theorem atT (hbn:bin b)(hc:AV.cells f0=[f0]∧AV.cells f1=[f1]∧AV.cells f2=[f2]∧AV.cells f3=[f3]∧AV.cells f4=[f4])(hi:(bB f0=true∧bB f1=true∧bB f2=true)∧bB f3=true∧bB f4=true)(hf:(jB f0=f0∧jB f1=f1∧jB f2=f2)∧jB f3=f3∧jB f4=f4)(T:ak)(m:Nat)(hm:m<=b.length)(N:Nat):∃O:Obj,
  (Dn prog).code w7 ⟨amj,⟨uv [f0,f1,f2,f3,f4] T (aX b (m,0)),N⟩⟩ =
  if b.length-m<=7∧1∉b.drop m then some (.ret,⟨[(4,.ptr 1 0),(5,A_ 0)],⟨(1,.cells [f0,f1,f2,f3,f4])::(2,.cells (aX b (m,0)))::(3,O)::T,N⟩⟩)
  else some (.ret,⟨[(4,.ptr 1 0),(5,A_ 8)],⟨uv [f0,f1,f2,f3,f4] T (aX b (m,0)),N⟩⟩):=by
 refine⟨.cells jk5,?_⟩;have hbl:=fJ (l:=b);have hL:=L2q b hb hbn [f0,f1,f2,f3,f4] T (m,0) N (b.drop m) m rfl;have c0:((0:Nat):Int)=0:=rfl;obtain⟨⟨i0,i1,i2⟩,i3,i4⟩:=hi;obtain⟨⟨j0,j1,j2⟩,j3,j4⟩:=hf;simp only[uv,aX,zF,c0]at hL⊢;generalize ax b=Bb at *;by_cases k1:b.length-m<=7
 .by_cases k2:1∉b.drop m
  .rw[ac ⟨k1,k2⟩];rw[ac k2]at hL;simp(maxSteps:=9^6)(disch:=omega)[↓ac,↓aa,-bB,hbl,hL,i0,i1,i2,i3,i4,j0,j1,j2,j3,j4]
  .rw[aa (λh=>k2 h.2)];rw[aa k2]at hL;simp(maxSteps:=9^6)(disch:=omega)[↓ac,↓aa,hbl,hL]
 .rw[aa (λh=>k1 h.1)];simp(maxSteps:=9^6)(disch:=omega)[↓ac,↓aa,hbl]
end
abbrev Dr (T:VC):VC:=(.seq (.seq oS
 (.block 0
 (.seq (.loop cG) (.seq (.seq (K [9]) (F 2)) (F 8))))) T)
abbrev Zd:VC:=aqM (Hx (Dr (sZ w7)))
abbrev alO (b:C_)(f:ki)(K:Nat)(O:Obj)(s:Nat×Nat)(N:Nat):I_:=some (.ret,⟨[(4,.ptr 1 0),(5,A_ 0)],⟨(1,.cells [al 9 (dG f.chans),B_ f.common,A_ f.mask,al 1 (cx f.bands),rG f.fill K])::(2,.cells (aX b s))::(3,O)::yn f.fill K,N⟩⟩)
abbrev akQ (e:Nat)(H:ak)(N:Nat):I_:=some (.ret,⟨[(4,.ptr 1 0),(5,A_ ((e:Int)+1))],⟨(1,.cells zF)::H,N⟩⟩)
def Ku {X:I_}{e:Nat}{H:ak}{N:Nat}(h:X=some (.ret,⟨[(4,.ptr 1 0),(5,A_ ((e:Int)+1))],⟨(1,.cells zF)::H,N⟩⟩)):∃H N,X=akQ e H N:=⟨H,N,h⟩
def Uh (b:C_)(C:D_)(x:R ki):Prop :=
 match x with
 |.ok f m=>∃K O s N,4<=K∧(Dn prog).code Zd ⟨[(2,.ptr 0 0),(4,.ptr 1 0),(6,.ptr 2 0)],⟨hz3 C (aX b (0,0)),3⟩⟩=alO b f K O s N
 |.er e=>∃H N,(Dn prog).code Zd ⟨[(2,.ptr 0 0),(4,.ptr 1 0),(6,.ptr 2 0)],⟨hz3 C (aX b (0,0)),3⟩⟩=akQ e H N
section
variable (b:C_)(hb:b.length<=1000000000)(hbn:bin b)(r:Nat)(hr:r<=11)
theorem ayl (c0 c2 c3:AV)(n:Nat)(F I:D_)(s:Nat×Nat)(N:Nat)(F2:D_)(s2:Nat×Nat)(M:Nat)
  (hL:(Dn prog).code (.loop cG) ⟨NF 0,⟨hq [c0,A_ n,c2,c3] F I [] (aX b s),N⟩⟩=some (.exit 0,ag7 b F2 s2 M))(T:VC) :
  (Dn prog).code (Dr T) ⟨yH,⟨hq [c0,A_ n,c2,c3] F I [] (aX b s),N⟩⟩=(Dn prog).code T (ag7 b F2 s2 M):=by
 simp only[hq,aX,ag7,Dr]at hL⊢;simp(maxSteps:=9^6)(disch:=omega)[↓ac,↓aa,hL]
theorem anC (c0 c2 c3:AV)(n:Nat)(F I:D_)(s:Nat×Nat)(N:Nat)(F2:D_)(s2:Nat×Nat)(e:Int)(M:Nat)
  (hL:(Dn prog).code (.loop cG) ⟨NF 0,⟨hq [c0,A_ n,c2,c3] F I [] (aX b s),N⟩⟩=Wa F2 s2 b e M)(T:VC) :
  (Dn prog).code (Dr T) ⟨yH,⟨hq [c0,A_ n,c2,c3] F I [] (aX b s),N⟩⟩=Wa F2 s2 b e M:=by
 simp only[hq,aX,Wa,Dr]at hL⊢;simp(maxSteps:=9^6)(disch:=omega)[↓ac,↓aa,hL]
theorem Nd (n:Nat)(hn:n=1∨n=2)(c0 c2 c3:AV)(F I:D_)(s:Nat×Nat)(hs:s.2≠0)(N:Nat)(T:VC) :
  (Dn prog).code (Dr T) ⟨yH,⟨hq [c0,A_ n,c2,c3] F I [] (aX b s),N⟩⟩=Wa F s b s.2 N :=
 anC b c0 c2 c3 n F I s N F s s.2 N (aty b c0 c2 c3 F I s hs n 0 o_ N) T
include hb hbn hr
theorem apq (n:Nat)(hn:n=1∨n=2)(q:Bool)(i:aG)(hi:i.Fit)(I iv:D_)(hI:RY q i I iv)(c2 c3:AV)(k:Int)(t:T_)(a:Nat)(ha:a<=b.length)(N:Nat)(hN:5<=N) :
  match (iU b r q i n a).bind λcs m=>(uN b m).bind λfl m=>if b.length-m<=7∧1∉b.drop m then R.ok (⟨cs,q,k,t,fl⟩:ki) m else .er 7 with
  |.ok f m=>∃K O s M,4<=K∧(Dn prog).code (Dr (sZ w7)) ⟨yH,⟨hq [A_ r,A_ n,c2,c3] [.nl,B_ q,A_ k,al 1 (cx t),.nl] I [] (aX b (a,0)),N⟩⟩=alO b f K O s M
  |.er e=>∃H M,(Dn prog).code (Dr (sZ w7)) ⟨yH,⟨hq [A_ r,A_ n,c2,c3] [.nl,B_ q,A_ k,al 1 (cx t),.nl] I [] (aX b (a,0)),N⟩⟩=akQ e H M:=by
 have e0:al 9 (dG [])=.nl:=rfl;have h:=atW b hb r hr q i hi I iv hI c2 c3 (A_ k) (al 1 (cx t)) .nl n o_ n 0 a [] N o_ rfl ha hN;have c0:((0:Nat):Int)=0:=rfl;rw[e0,c0]at h
 cases e:iU b r q i n a with
 |er e1 =>
  rw[e]at h;obtain⟨F,s,M,h2⟩:=h;rw[aQ];exact Ku (anC b _ _ _ n _ _ _ _ F s _ M h2 _)
 |ok cs m =>
  rw[e]at h;obtain⟨hm,M,h1,h2⟩:=h;rw[az]at h2;rw[ao];obtain⟨K,M2,hK,h3⟩:=apK b hb (al 9 (dG cs)) (B_ q) (A_ k) (al 1 (cx t)) m hm M h1 w7;have hF:=axA (b:=b) (a:=m);have hrun:=(ayl b _ _ _ n _ _ _ _ _ _ M h2 (sZ w7)).trans h3;generalize R9 b (m,0)=W at *;obtain⟨w,s2⟩:=W;simp only at hF hrun
  cases e2:uN b m with
  |er e3 =>
   rw[e2]at hF;have hd:s2.2=e3+1:=hF;rw[aQ];have h5:=arq b hb [al 9 (dG cs),B_ q,A_ k,al 1 (cx t),rG w K] (yn w K) s2 o_ M2;rw[hd,show((e3+1:Nat):Int)=(e3:Int)+1 from rfl]at h5;exact Ku (hrun.trans h5)
  |ok fl p =>
   rw[e2]at hF;obtain⟨rfl,rfl⟩:=hF;have hp:p<=b.length:=by have:=(V7 hm).1 e2;exact(db this.2).2.1
   rw[ao];have hx:AV.cells (rG w K)=[rG w K]∧bB (rG w K)=true∧jB (rG w K)=rG w K:=by cases w<;>exact⟨rfl,rfl,rfl⟩
   obtain⟨O,h5⟩:=atT b hb (al 9 (dG cs)) (B_ q) (A_ k) (al 1 (cx t)) (rG w K) hbn ⟨akb,rfl,rfl,akb,hx.1⟩ ⟨⟨NV,rfl,rfl⟩,NV,hx.2.1⟩ ⟨⟨Um,rfl,rfl⟩,Um,hx.2.2⟩ (yn w K) p hp M2;by_cases hc:b.length-p<=7∧1∉b.drop p
   .rw[ac hc]at h5⊢;exact⟨K,O,(p,0),M2,hK.1,hrun.trans h5⟩
   .rw[aa hc]at h5⊢;exact Ku (e:=7) (hrun.trans h5)
theorem aw0 (n:Nat)(hn:n=1∨n=2)(c2 c3:AV)(hd:(Id b n).2≠0)(e:Nat)(he:(Id b n).2=e+1):Uh b [A_ r,A_ n,c2,c3] (.er e):=by
 have hP:=asD b hb (A_ r) c2 c3 n o_ (Hx (Dr (sZ w7)));have hs:=apb b hb (n:=(n:Int));generalize Id b n=s at *;rcases hn with rfl|rfl
 .have h5:=hP.trans ((anX b hb _ c2 c3 s _).trans (Nd b 1 (.inl rfl) _ c2 c3 _ _ s hd 5 _));rw[he,show((e+1:Nat):Int)=(e:Int)+1 from rfl]at h5;exact Ku h5
 .have h5:=aeN b hb (A_ r) c2 c3 s hs (by rw[lZ hd];simp) (Dr (sZ w7));rw[lZ hd]at h5;have h6:=hP.trans (h5.trans (Nd b 2 (.inr rfl) _ c2 c3 _ _ s hd 5 _));rw[he,show((e+1:Nat):Int)=(e:Int)+1 from rfl]at h6;exact Ku h6
theorem ao2 (n:Nat)(hn:n=1∨n=2)(c2 c3:AV)(a:Nat)(ha:a<=b.length)(x:R ki)
  (hx:x=(iU b r false Wp n a).bind λcs m=>(uN b m).bind λfl m=>if b.length-m<=7∧1∉b.drop m then R.ok (⟨cs,false,0,[],fl⟩:ki) m else .er 7)
  (h:(Dn prog).code Zd ⟨[(2,.ptr 0 0),(4,.ptr 1 0),(6,.ptr 2 0)],⟨hz3 [A_ r,A_ n,c2,c3] (aX b (0,0)),3⟩⟩=(Dn prog).code (Dr (sZ w7)) ⟨yH,⟨hq [A_ r,A_ n,c2,c3] zF zI [] (aX b (a,0)),5⟩⟩):Uh b [A_ r,A_ n,c2,c3] x:=by
 have ht:=apq b hb hbn r hr n hn false Wp Xb zI zI (.inr ⟨rfl,rfl,rfl⟩) c2 c3 0 [] a ha 5 o_;rw[<-hx,show al 1 (cx [])=.nl from rfl]at ht;unfold Uh;rw[h];exact ht
theorem axq (n:Nat)(hn:n=1∨n=2)(c2 c3:AV):Uh b [A_ r,A_ n,c2,c3] (Ay b r n):=by
 have hP1:=λT=>asD b hb (A_ r) c2 c3 n o_ T
 have hdead:=aw0 b hb hbn r hr n hn c2 c3;have hs2:Id b n=kT (gT b (xY b n) 4).2 (((gT b (xY b n) 4).1:Int)=0):=rfl;have hs1:xY b n=kT (gT b (0,0) 3).2 (((gT b (0,0) 3).1:Int)=n-1):=rfl;unfold Ay WZ
 cases e1:aE b (0:Nat) 3 with
 |er e =>
  rw[lx e1,fm (aB _)]at hs1;rw[hs1,lZ (aB _),fm (aB _)]at hs2;rw[aQ,aQ];exact hdead (by rw[hs2];exact aB _) e (by rw[hs2])
 |ok x m =>
 rw[ao];by_cases hx:(x:Int)≠n-1
 .rw[ef e1,xu hx]at hs1;rw[hs1,lZ s_,fm s_]at hs2;rw[ac hx,aQ];exact hdead (by rw[hs2];simp) 7 (by rw[hs2])
 rw[aa hx];rw[ef e1,qf (Classical.not_not.1 hx)]at hs1
 cases e2:aE b m 4 with
 |er e =>
  rw[hs1,lx e2,fm (aB _)]at hs2;rw[aQ,aQ];exact hdead (by rw[hs2];exact aB _) e (by rw[hs2])
 |ok y a =>
 rw[ao];by_cases hy:y≠0
 .rw[hs1,ef e2,xu w_]at hs2;rw[ac hy,aQ];exact hdead (by rw[hs2];simp) 7 (by rw[hs2])
 rw[aa hy];rw[hs1,ef e2,qf w_]at hs2;simp only at hs2;have ha:a<=b.length:=(cu e2).2;rw[hs2]at hP1;clear hs1 hs2 hdead e1 e2 hx hy;rcases hn with rfl|rfl
 .refine ao2 b hb hbn r hr 1 (.inl rfl) c2 c3 a ha _ ?_ ((hP1 _).trans (anX b hb _ _ _ _ _));rw[aa o_,ao];simp only[Iz];rw[show decide ((0:Nat)=1)=false from rfl,aa s_,ao];simp only[Cv,ao];rfl
 .rw[ac o_]
  cases e3:aE b a 1 with
  |er e =>
   have hP:=(hP1 (Hx (Dr (sZ w7)))).trans (aeN b hb (A_ r) c2 c3 (a,0) ha (by rw[lx e3];simp) (Dr (sZ w7)));rw[lx e3]at hP;rw[aQ,aQ];exact Ku (hP.trans (Nd b 2 (.inr rfl) _ c2 c3 _ _ _ (aB _) 5 _))
  |ok x m =>
  have hm:m<=b.length:=(cu e3).2;rw[ao];by_cases hx:x=1
  rotate_left
  .have hP:=(hP1 (Hx (Dr (sZ w7)))).trans (aeN b hb (A_ r) c2 c3 (a,0) ha (by rw[ef e3];exact hx) (Dr (sZ w7)));rw[ef e3]at hP;rw[dF_ hx];refine ao2 b hb hbn r hr 2 (.inr rfl) c2 c3 m hm _ ?_ hP;simp only[Iz];rw[aa s_,ao];simp only[Cv,ao];rfl
  rw[dT_ hx];simp only[Iz];rw[ac trivial]
  cases e4:fW b m r with
  |er e =>
   rw[aQ,aQ,aQ];have hP:=(hP1 (Hx (Dr (sZ w7)))).trans (ant b hb r c2 c3 (a,0) ha (by rw[ef e3];exact hx) m (by rw[ef e3]) _ _ _ .nl (.inl rfl) _ _ _ rfl rfl rfl _ (m,e+1) (ayX b hb r hr _ m e hm e4) (Dr (sZ w7)));exact Ku (hP.trans (Nd b 2 (.inr rfl) _ c2 c3 _ _ _ (aB _) 7 _))
  |ok i m2 =>
  have p:=xI hr e4;have hi:i.Fit:=MR hr p.1 p.2.2;rw[ao];have hP:=(hP1 (Hx (Dr (sZ w7)))).trans (ant b hb r c2 c3 (a,0) ha (by rw[ef e3];exact hx) m (by rw[ef e3]) _ _ _ _ (.inr ⟨_,rfl⟩) _ _ _ rfl rfl rfl _ _ (azt b hb r hr _ m hm i m2 e4) (Dr (sZ w7)));have hSl:(Jn b m2).1<=b.length:=yE (jU p.2.1);have hWl:(KU b i m2).2.1<=b.length:=by
   unfold KU;split
   .exact ae1 hSl
   .exact hSl
  have dead:∀e,(KU b i m2).2.2=e+1->Uh b [A_ r,A_ 2,c2,c3] (.er e):=λe he=>by
   have h6:=hP.trans (Nd b 2 (.inr rfl) _ c2 c3 _ _ _ o_ 7 _);rw[he,show((e+1:Nat):Int)=(e:Int)+1 from rfl]at h6;exact Ku h6
  cases e5:aE b m2 2 with
  |er e =>
   rw[aQ,aQ,aQ];refine dead e ?_;have hs:Jn b m2=(m2,e+1):=by unfold Jn;rw[lx e5,fm (aB _)]
   unfold KU;split
   .rw[hs,Ip (aB _)]
   .rw[hs]
  |ok k m3 =>
  rw[ao];have hk0:RJ b m2=k:=by unfold RJ;rw[ef e5]
  by_cases hk:¬k<3
  .rw[ac hk,aQ,aQ];refine dead 7 ?_;have hs:Jn b m2=(m3,8):=by unfold Jn;rw[ef e5,xu w_]
   unfold KU;split
   .rw[hs,Ip s_]
   .rw[hs]
  rw[aa hk];have hs:Jn b m2=(m3,0):=by unfold Jn;rw[ef e5,qf w_]
  have hw:Lk (if k=1 then pE b i.max.toNat i.groups.length m3 else R.ok [] m3) (λt=>(KU b i m2).1=t) (KU b i m2).2:=by
   unfold KU;rw[hk0,hs];by_cases h1:k=1
   .rw[ac h1,ac h1];exact aji
   .rw[aa h1,aa h1];exact⟨rfl,rfl⟩
  cases e6:(if k=1 then pE b i.max.toNat i.groups.length m3 else R.ok [] m3) with
  |er e =>
   rw[e6]at hw;rw[aQ,aQ,aQ];exact dead e hw
  |ok t m4 =>
   rw[e6]at hw;obtain⟨hw1,hw2⟩:=hw;rw[hk0,hw1,hw2]at hP;rw[hw2]at hWl;have ht:=apq b hb hbn r hr 2 (.inr rfl) true i hi _ i.cells (.inl ⟨rfl,rfl⟩) c2 c3 k t m4 hWl 7 o_;rw[ao,ao];simp only[Cv,ao];unfold Uh;rw[show((2:Nat):Int)=2 from rfl]at ht⊢;have hrun:(Dn prog).code Zd ⟨[(2,.ptr 0 0),(4,.ptr 1 0),(6,.ptr 2 0)],⟨hz3 [A_ r,A_ 2,c2,c3] (aX b (0,0)),3⟩⟩=_:=hP;rw[hrun];exact ht
end
abbrev XX (f:ki)(X Y Z:AV):D_:=[X,B_ f.common,A_ f.mask,Y,Z]
abbrev Qp (f:ki)(X Y Z X' Y' Z':AV)(N:Nat):HS:=⟨[(0,.cells (XX f X Y Z)),(1,.cells (XX f X' Y' Z'))],N⟩
def atS (f:ki)(hf:f.Fit)(X Y Z X' Y' Z':AV)(hX:kW X (dG f.chans))(hX':kW X' (dG f.chans))(N:Nat):∀(r:BB_) (i:Nat),f.chans.drop i=r->
  (Dn prog).code (.loop lm) ⟨[(2,.ptr 0 0),(3,.ptr 1 0),(5,A_ i)],Qp f X Y Z X' Y' Z' N⟩=some (.exit 0,⟨[(2,.ptr 0 0),(3,.ptr 1 0)],Qp f X Y Z X' Y' Z' N⟩):=by
 intro r;have hl:=Wf (l:=f.chans);have hcl:=hf.chans.1
 induction r with
 |nil =>
  intro i hd;have hi:=eD hd;obtain⟨⟨x1,x2,x3⟩,x4,x5⟩:=hX.facts;rw[hl]at x5;simp only[Qp,XX];rw[ah zD];simp(maxSteps:=9^6)(disch:=omega)[↓ac,↓aa,x1,x2,x5]
 |cons c r ih =>
  intro i hd;have hlt:=ed hd;have hg:=aq9 hd;have hne:dG f.chans≠[]:=λh=>by have:=aY List.length h;rw[hl,ck]at this;omega
  have hxe:=hX.ne hne;have hxe':=hX'.ne hne;subst hxe hxe';have hcf:=hf.chans.2 c (cU (by rw[hd];exact .head _));have hS:=ak7 c hcf;have h5:=ih (i+1) (dU hd);have c1:((i+1:Nat):Int)=(i:Int)+1:=rfl;rw[c1]at h5;simp only[Qp,XX,ip.av]at h5 hS⊢;rw[ah zD,<-h5];generalize dG f.chans=CC at *;simp(maxSteps:=9^6)(disch:=omega)[↓ac,↓aa,-getElem?_pos,hg,hS,hl]
def avK (f:ki)(hf:f.Fit)(X Z X' Z':AV)(N:Nat)(j:Nat)(l:Y_)(q:T_)(hj:f.bands.drop j=l::q)(hl:l.length<=1000):∀(r:Y_) (i:Nat),l.drop i=r->
  (Dn prog).code (.loop lM) ⟨[(2,.ptr 0 0),(3,.ptr 1 0),(6,A_ j),(7,A_ i)],Qp f X (.d (.lst (cx f.bands))) Z X' (.d (.lst (cx f.bands))) Z' N⟩=some (.exit 4,⟨[(2,.ptr 0 0),(3,.ptr 1 0),(6,A_ j)],Qp f X (.d (.lst (cx f.bands))) Z X' (.d (.lst (cx f.bands))) Z' N⟩):=by
 intro r;have hg1:=agT hj;have hll:=Ml (l:=l);have hjl:=ed hj;have hbl:=hf.bands.1
 induction r with
 |nil =>
  intro i hd;have hi:=eD hd;simp only[Qp,XX];rw[ah zw];simp(maxSteps:=9^6)(disch:=omega)[↓ac,↓aa,-getElem?_pos,hg1,hll]
 |cons c r ih =>
  intro i hd;have hlt:=ed hd;have hg:=auD hd;have h5:=ih (i+1) (dU hd);have c1:((i+1:Nat):Int)=(i:Int)+1:=rfl;rw[c1]at h5;simp only[Qp,XX]at h5⊢;rw[ah zw,<-h5];generalize cx f.bands=BB at *;generalize mj l=B at *;simp(maxSteps:=9^6)(disch:=omega)[↓ac,↓aa,-getElem?_pos,hg1,hg,hll]
def auS (f:ki)(hf:f.Fit)(X Y Z X' Y' Z':AV)(hY:kW Y (cx f.bands))(hY':kW Y' (cx f.bands))(N:Nat):∀(r:T_) (j:Nat),f.bands.drop j=r->
  (Dn prog).code (.loop lj) ⟨[(2,.ptr 0 0),(3,.ptr 1 0),(6,A_ j)],Qp f X Y Z X' Y' Z' N⟩=some (.exit 2,⟨[],⟨[],N⟩⟩):=by
 intro r;have hl:=WD (t:=f.bands);have hbl:=hf.bands.1
 induction r with
 |nil =>
  intro i hd;have hi:=eD hd;obtain⟨⟨x1,x2,x3⟩,x4,x5⟩:=hY.facts;rw[hl]at x5;simp only[Qp,XX];rw[ah zi];simp(maxSteps:=9^6)(disch:=omega)[↓ac,↓aa,x1,x2,x5]
 |cons c r ih =>
  intro i hd;have hlt:=ed hd;have hg:=agT hd;have hne:cx f.bands≠[]:=λh=>by have:=aY List.length h;rw[hl,ck]at this;omega
  have hxe:=hY.ne hne;have hxe':=hY'.ne hne;subst hxe hxe';have hcl:=hf.bands.2 c (cU (by rw[hd];exact .head _));have hll:=Ml (l:=c);have h1:=avK f hf X Z X' Z' N i c r hd hcl c 0 rfl;have h5:=ih (i+1) (dU hd);have c1:((i+1:Nat):Int)=(i:Int)+1:=rfl;have c0:((0:Nat):Int)=0:=rfl;rw[c1]at h5;rw[c0]at h1;simp only[Qp,XX]at h1 h5⊢;rw[ah zi,<-h5];generalize cx f.bands=BB at *;generalize mj c=B at *;simp(maxSteps:=9^6)(disch:=omega)[↓ac,↓aa,-getElem?_pos,hg,h1,hl]
def al4 (f:ki)(hf:f.Fit)(X Y Z X' Y' Z':AV)(hX:kW X (dG f.chans))(hY:kW Y (cx f.bands))(hZ:kW Z (ax f.fill))(hX':kW X' (dG f.chans))(hY':kW Y' (cx f.bands))(hZ':kW Z' (ax f.fill)) :
  bn prog vK [frA f X Y Z,frA f X' Y' Z']=some (B_ true):=by
 have h0:=atS f hf X Y Z X' Y' Z' hX hX' 2 f.chans 0 rfl;have h2:=auS f hf X Y Z X' Y' Z' hY hY' 2 f.bands 0 rfl;obtain⟨⟨x1,x2,x3⟩,x4,x5⟩:=hX.facts;obtain⟨⟨y1,y2,y3⟩,y4,y5⟩:=hY.facts;obtain⟨⟨z1,z2,z3⟩,z4,z5⟩:=hZ.facts;obtain⟨⟨a1,a2,a3⟩,a4,a5⟩:=hX'.facts;obtain⟨⟨b1,b2,b3⟩,b4,b5⟩:=hY'.facts;obtain⟨⟨d1,d2,d3⟩,d4,d5⟩:=hZ'.facts;have ts:∀{W:AV},kW W (ax f.fill)->∀h,Nc h W=some (.str (f.fill.map Nat.toUInt8)):=λ{W} hW h=>by
  rcases hW with rfl|⟨rfl,e⟩
  .exact amK
  .have:f.fill=[]:=aI (by rw[<-fJ (l:=f.fill),e];rfl);rw[this];rfl
 have t1:=ts hZ;have t2:=ts hZ';have c0:((0:Nat):Int)=0:=rfl;rw[c0]at h0 h2;simp only[Qp,XX,frA]at h0 h2⊢;rw[aL Qb P5 rfl];simp(maxSteps:=9^6)(disch:=omega)[↓ac,↓aa,-bB,x1,x2,x3,x4,x5,y1,y2,y3,y4,y5,z1,z2,z3,z4,z5,a1,a2,a3,a4,a5,b1,b2,b3,b4,b5,d1,d2,d3,d4,d5,t1,t2,h0,h2]
def ahS:bn prog vK [.agg zF,.agg zF]=some (B_ true):=Fq 400 (by kernel_rfl)
def akj {w:AV}{b:Bool}(e:et w=B_ b):w=B_ b:=by
 unfold et at e;split at e
 .cases w<;>simp[nG,mR,nQ]at e⊢<;>exact e
 .exact e
def arD {h:ak}{v:AV}{b:Bool}(e:eY h v=some (B_ b)):v=B_ b:=by
 unfold eY at e;split at e
 .split at e
  .simp only[ae]at e;exact absurd (akj e) (by simp)
  .simp at e
 .split at e
  .rename_i x q hq;simp only[ae]at e;have hx:=akj e;subst hx;unfold fV at hq;split at hq
   .split at hq<;>simp at hq
   .unfold kJ at hq;split at hq
    .simp only[ae,aM]at hq;exact hq.1
    .simp at hq
    .simp at hq
    .split at hq
     .split at hq<;>simp at hq
     .simp at hq
    .simp at hq
  .simp at e
def ams {P:Nat->X_}{f:FuncId}{as:D_}{b:Bool}(h:bn P f as=some (B_ b)):∃m hs,(run P m).call f as ⟨[],0⟩=some (B_ b,hs):=by
 unfold bn at h
 cases hc:(Dn P).call f as ⟨[],0⟩ with
 |none=>rw[hc]at h;simp[mO]at h
 |some q =>
  obtain⟨v,hs⟩:=q;rw[hc]at h;have:=arD h;subst this;obtain⟨m,hm⟩:=Fw hc;exact⟨m,hs,hm⟩
def adV:List Ty:=[.int .i64,.int .i64,.bool,.int .i64]
structure ki.Rng (f:ki):Prop where
 chans:∀c∈f.chans,c.Rng
 mask:i64 f.mask
 fill:∀n∈f.fill,n<=255
def avR {d:D}(h:v7 (.lst [.int .u8]) d):∃l:C_,d=.lst (ax l)∧∀n∈l,n<=255:=by
 obtain⟨xs,rfl,h⟩:=axe h;obtain⟨l,rfl,hl⟩:=akg (f:=λn:Nat=>[.int .u8 (n:Int)]) (Q:=λn=>n<=255) (λx hx=>by
  obtain⟨d,rfl,hd⟩:=aqR hx;obtain⟨n,rfl,hn⟩:=azy hd;exact⟨n,rfl,hn⟩) h
 exact⟨l,rfl,hl⟩
def ki.Rng.fit {f:ki}(h:f.Rng)(s:ayt f):f.Fit where
 chans:=⟨by have:=s.chans.1;omega,λc hc=>(h.chans c hc).fit (s.chans.2 c hc)⟩
 mask:=h.mask
 bands:=⟨by have:=s.bands.1;omega,λl hl=>by have:=s.bands.2 l hl;omega⟩
 fill:=by have:=s.fill;omega
 fillI:=h.fill
def axS {x:V_}(h:OkDs adV x):∃(rt n:Int) (cb:Bool) (cz:Int),x.map AV.d=[AV.d (.int .i64 rt),A_ n,B_ cb,A_ cz]:=by
 obtain⟨a1,r,rfl,h1,h⟩:=aqz h;obtain⟨a2,r,rfl,h2,h⟩:=aqz h;obtain⟨a3,r,rfl,h3,h⟩:=aqz h;obtain⟨a4,rfl,h4⟩:=aqR h;obtain⟨n1,rfl,_⟩:=aef h1;obtain⟨n2,rfl,_⟩:=aef h2;obtain⟨b3,rfl⟩:=avD h3;obtain⟨n4,rfl,_⟩:=aef h4;exact⟨n1,n2,b3,n4,rfl⟩
def aqy {b:C_}(hb:b.length<=1000000000)(h8:b.length % 8=0)(hbin:bin b){r:Nat}(hr:r<=11){n:Int}(hn:n=1∨n=2){f:ki}{m:Nat}(e:Ay b r n=.ok f m) :
  (f.Fit∧axN r n f)∧b=wrB r n f∧At b 0 m (alo r n f)∧b.length<=m+7:=by
 unfold Ay at e;obtain⟨f2,m2,e1,e⟩:=aH.1 e;by_cases hc:b.length-m2<=7∧1∉b.drop m2
 rotate_left
 .rw[aa hc]at e;exact absurd e (by simp)
 rw[ac hc]at e;injection e with g1 g2
 subst g1 g2;obtain⟨h1,h2,hA⟩:=asc hb hr hn e1;refine⟨⟨h1,h2⟩,?_,hA,o_⟩;have hle:=db hA;obtain⟨_,hm,t,ht⟩:=hA;rw[jP]at ht;have hmt:t=b.drop m2:=by rw[ht,hm,b7,xP]
 have htz:t=List.replicate t.length 0:=List.eq_replicate_iff.2 ⟨rfl,λx hx=>by
  have h0:=hbin x (by rw[ht];exact dK _ hx);have h1:x≠1:=λh=>hc.2 (by rw[<-hmt,<-h];exact hx)
  omega⟩
 have htl:t.length=arC (alo r n f2).length:=by
  have:=aY List.length ht;rw[aN]at this;unfold arC;omega
 rw[ht,htz,htl];rfl
def aqZ:bn prog eU [.nl,A_ 0,A_ 3]=some (.tup [A_ 0,A_ 0,A_ 5]):=Fq 400 (by kernel_rfl)
def asj {r:Nat}{n:Int}:Ay (gj []) r n=.er 4:=by
 have e:aE (gj []) (0:Nat) 3=.er 4:=by
  rw[aE,ac ⟨o_,s_,s_⟩,ac (by simp[gj])]
 unfold Ay WZ;rw[e];rfl
abbrev rd0 (e:Int):D_:=[.nl,A_ 0,A_ e]
def nx0 {hp:D_->ak}{p:Nat}(H:Hr hp p)(N:Nat):(Dn prog).call bL [.ptr p 0,A_ 3] ⟨hp (rd0 0),N⟩=some (A_ 0,⟨hp (rd0 5),N⟩):=by
 have h:=aqZ;rw[bC mF mD rfl];simp(maxSteps:=9^6)(disch:=omega)[↓ac,↓aa,H.get,H.put,h]
def nx5 {hp:D_->ak}{p:Nat}(H:Hr hp p)(k:Int)(N:Nat):(Dn prog).call bL [.ptr p 0,A_ k] ⟨hp (rd0 5),N⟩=some (A_ 0,⟨hp (rd0 5),N⟩):=by
 rw[bC mF mD rfl];simp(maxSteps:=9^6)(disch:=omega)[↓ac,↓aa,H.get,H.put]
def ak5 {hp:D_->ak}{p:Nat}(H:Hr hp p)(c:Bool)(N:Nat):(Dn prog).call dk [.ptr p 0,B_ c] ⟨hp (rd0 5),N⟩=some (.tup [],⟨hp (rd0 5),N⟩):=by
 rw[bC wg vY rfl];simp(maxSteps:=9^6)(disch:=omega)[↓ac,↓aa,H.get,H.put]
def avw (rt n:Int)(cb:Bool)(cz:Int)(hc:vp rt n)(X:AV)(hX:kW X (ax [])):bn prog kx [sP rt n cb cz,X]=some (.tup [.agg zF,A_ 5]):=by
 obtain⟨⟨x1,x2,x3⟩,x4,x5⟩:=hX.facts;obtain⟨vx,ux⟩:=hX.view;have x5':lenOf X=some 0:=x5;have hu:=SU [] s_ s_ X hX;rw[show OZ (gj [])=.nl from rfl]at hu;have hcf:=KM rt n cb cz;have ec:=(hcf.resolve_right (λh=>h.1 hc)).2;have hn:=hc.2;simp only[sP]at ec⊢;have h1:=nx0 (Qa [A_ rt,A_ n,B_ cb,A_ cz]) 3;have h2:=λk=>nx5 (Qa [A_ rt,A_ n,B_ cb,A_ cz]) k 3
 have h3:=λc=>ak5 (Qa [A_ rt,A_ n,B_ cb,A_ cz]) c 3
 have h4:=λk=>nx5 (abo [A_ rt,A_ n,B_ cb,A_ cz] zF zI []) k 5
 simp only[hz3,hq,rd0,zF,zI]at h1 h2 h3 h4⊢;rw[aL oz u9 rfl];rcases hn with rfl|rfl<;>simp(maxSteps:=9^6)(disch:=omega)[↓ac,↓aa,-bB,x1,x2,x3,x4,x5',vx,ux,ec,hu,h1,h2,h3,h4,ah fk]
def PJ (l:C_):AV:=match l with
 |[]=>.nl
 |x::r=>.own true 1 (ax (x::r))
def Zr {b:C_}{r:Nat}{q:Bool}{i:aG}:∀{k a m:Nat}{l:BB_},iU b r q i k a=.ok l m->l.length=k
 |0,a,m,l,h=>by
  rw[iU]at h;injection h with h1 h2
  subst h1;rfl
 |k+1,a,m,l,h=>by
  rw[iU]at h;obtain⟨v,n,h1,h⟩:=dS h;obtain⟨t,p,h2,h⟩:=dS h;injection h with h3 h4
  subst h3;simp[Zr h2]
def XQ {b:C_}{r:Nat}{n:Int}{f:ki}{m:Nat}(h:Ay b r n=.ok f m):f.chans.length=n.toNat:=by
 unfold Ay WZ at h;obtain⟨f2,m2,h1,h⟩:=dS h;have hf:f2=f:=by
  split at h
  .injection h
  .exact absurd h (by simp)
 subst hf;obtain⟨x,n1,_,h1⟩:=dS h1;split at h1
 .exact absurd h1 (by simp)
 obtain⟨y,n2,_,h1⟩:=dS h1;split at h1
 .exact absurd h1 (by simp)
 obtain⟨qv,n3,_,h1⟩:=dS h1;obtain⟨hh,n4,_,h1⟩:=dS h1;obtain⟨cs,n5,h2,h1⟩:=dS h1;obtain⟨fl,n6,_,h1⟩:=dS h1;injection h1 with h3 h4;subst h3;exact Zr h2
def aro {l:BB_}(h:l≠[]):¬∀x∈dG l,∀y∈x,jf y=true:=by
 intro h2
 cases l with
 |nil=>exact h rfl
 |cons c r =>
  have:=h2 c.cells (by simp[dG]) (.lst (am c.info.groups)) (by simp[ip.cells]);exact absurd this (by simp[jf])
def amf (rt n:Int)(cb:Bool)(cz:Int)(X:AV)(l:C_)(hX:kW X (ax l))(hl:l.length<=100000)(hl2:∀x∈l,x<=255) :
  (¬vp rt n->bn prog kx [sP rt n cb cz,X]=some (.tup [.agg zF,A_ 2]))∧
  (vp rt n->¬(l.length:Int)<=192*n->bn prog kx [sP rt n cb cz,X]=some (.tup [.agg zF,A_ 3]))∧
  (vp rt n->(l.length:Int)<=192*n->bn prog kx [sP rt n cb cz,X]=match Ay (gj l) rt.toNat n with
   |.ok f m=>some (.tup [.agg [.own false 9 (dG f.chans),B_ f.common,A_ f.mask,al 1 (cx f.bands),PJ f.fill],A_ 0])
   |.er e=>some (.tup [.agg zF,A_ ((e:Int)+1)])):=by
 obtain⟨⟨x1,x2,x3⟩,x4,x5⟩:=hX.facts;obtain⟨vx,ux⟩:=hX.view;have hbl:=fJ (l:=l);rw[hbl]at x5;have hcf:=KM rt n cb cz;refine⟨λhc=>?_,λhc hn=>?_,λhc hn=>?_⟩
 .have ec:=(hcf.resolve_left (λh=>hc h.1)).2;simp only[sP]at ec⊢;rw[aL oz u9 rfl];simp(maxSteps:=9^6)(disch:=omega)[↓ac,↓aa,-bB,x1,x2,x3,x4,x5,ec]
 .have ec:=(hcf.resolve_right (λh=>h.1 hc)).2;have:=hc.2;simp only[sP]at ec⊢;rw[aL oz u9 rfl];simp(maxSteps:=9^6)(disch:=omega)[↓ac,↓aa,-bB,x1,x2,x3,x4,x5,ec]
 .have ec:=(hcf.resolve_right (λh=>h.1 hc)).2;obtain⟨R,rfl⟩:=ay hc.1.1;have hR:R<=11:=by have:=hc.1.2;omega
  rw[au];by_cases hl0:l=[]
  .subst hl0;rw[asj];exact avw _ _ cb cz hc X hX
  obtain⟨k,rfl⟩:=ay (show 0<=n by have:=hc.2;omega);have hk:k=1∨k=2:=by have:=hc.2;omega
  have hu:=SU l hl hl2 X hX;have ul:=PE (l:=l);have hyn:OZ (gj l)=.own true 1 (ax (gj l)):=by
   cases h:gj l with
   |nil=>rw[h]at ul;have:=bG.2 hl0;simp at ul;omega
   |cons x r=>rfl
  rw[hyn]at hu;have hM:=axq (gj l) o_ anO R hR k hk (B_ cb) (A_ cz);have c0:((0:Nat):Int)=0:=rfl;obtain⟨T,hT⟩:∃T,T=Zd:=⟨_,rfl⟩
  have hcd:oD=⟨2,[.cell 4 (some 5),.tmp 5],(.seq qD
 (.seq (.seq qW
 (.cond (.m 20)
 (.seq (.seq (Vm.K [1]) (F 2)) (.seq qV
 .ret))
 .skip))
 (.seq (.seq qK
 (.cond (.m 27)
 (.seq (.seq (Vm.K [1]) (F 2)) (.seq qR
 .ret))
 .skip))
 (.seq qU T))))⟩:=by rw[hT];rfl
  simp only[sP]at ec⊢;rw[aL oz hcd rfl]
  cases hG:Ay (gj l) R k with
  |er e =>
   rw[hG]at hM;obtain⟨H,N,hM⟩:=hM;simp only[hz3,aX,c0,<-hT]at hM⊢;generalize ax (gj l)=B at *;simp(maxSteps:=9^6)(disch:=omega)[↓ac,↓aa,-bB,x1,x2,x3,x4,x5,vx,ux,ec,hu,hM]
  |ok f m =>
   have hcl:=XQ hG;rw[au]at hcl;have hcn:f.chans≠[]:=λh=>by rw[h]at hcl;simp at hcl;omega
   have nf:=aro hcn;have hC:al 9 (dG f.chans)=.own false 9 (dG f.chans):=fX (by cases h:f.chans with|nil=>exact absurd h hcn|cons x r=>simp[dG]);rw[hG]at hM;obtain⟨K,O,s,N,hK,hM⟩:=hM;simp only[alO,hC]at hM;simp only[hz3,aX,c0,<-hT]at hM⊢;generalize ax (gj l)=B at *;generalize dG f.chans=A1 at *;have nK:K≠1∧K≠2∧K≠3:=o_
   cases hfl:f.fill with
   |nil =>
    rw[hfl]at hM;simp only[rG,yn,PJ]at hM⊢
    cases hbs:f.bands with
    |nil =>
     rw[hbs,show al 1 (cx [])=.nl from rfl]at hM;rw[show al 1 (cx [])=.nl from rfl];simp(maxSteps:=9^6)(disch:=omega)[↓ac,↓aa,-bB,x1,x2,x3,x4,x5,vx,ux,ec,hu,hM]
     all_goals exact λh=>absurd h nf
    |cons t1 t2 =>
     have e1:al 1 (cx (t1::t2))=.own false 1 (cx (t1::t2)):=rfl;rw[hbs,e1]at hM;rw[e1];generalize cx (t1::t2)=A2 at *;simp(maxSteps:=9^6)(disch:=omega)[↓ac,↓aa,-bB,x1,x2,x3,x4,x5,vx,ux,ec,hu,hM]
     all_goals exact λh=>absurd h nf
   |cons y w =>
    rw[hfl]at hM;have hyl:=fJ (l:=y::w);simp only[rG,yn,PJ]at hM⊢;have htk:List.take (y::w).length (ax (y::w))=ax (y::w):=bp o_;generalize (y::w).length=L at *;generalize ax (y::w)=A3 at *
    cases hbs:f.bands with
    |nil =>
     rw[hbs,show al 1 (cx [])=.nl from rfl]at hM;rw[show al 1 (cx [])=.nl from rfl];simp(maxSteps:=9^6)(disch:=omega)[↓ac,↓aa,-bB,x1,x2,x3,x4,x5,vx,ux,ec,hu,hM,hyl,htk,nK]
     all_goals exact λh=>absurd h nf
    |cons t1 t2 =>
     have e1:al 1 (cx (t1::t2))=.own false 1 (cx (t1::t2)):=rfl;rw[hbs,e1]at hM;rw[e1];generalize cx (t1::t2)=A2 at *;simp(maxSteps:=9^6)(disch:=omega)[↓ac,↓aa,-bB,x1,x2,x3,x4,x5,vx,ux,ec,hu,hM,hyl,htk,nK]
     all_goals exact λh=>absurd h nf
def Yw {H:Type}:∀{ds:List (DataW H)},Bv [(true,adV),(false,[.lst [.int .u8]])] ds->(∃d1 d2,ds=[d1,d2])∧∃(rt n:Int) (cb:Bool) (cz:Int) (l:C_),(∀x∈l,x<=255)∧Jo [(true,adV),(false,[Ty.lst [.int .u8]])] ds=[sP rt n cb cz,.d (.lst (ax l))]
 |[d1,d3],h=>by
  simp only[Bv,and_true]at h;obtain⟨h1,h3⟩:=h;obtain⟨rt,n,cb,cz,e1⟩:=axS h1;obtain⟨x3,e3,h3⟩:=aqR h3;obtain⟨k,rfl,hk⟩:=avR h3;refine⟨⟨_,_,rfl⟩,rt,n,cb,cz,k,hk,?_⟩;simp only[Jo,e3,adR,e1]
 |[],h=>by simp[Bv]at h
 |[_],h=>by simp[Bv]at h
 |_::_::_::_,h=>by simp[Bv]at h
def aoA (rt n:Int)(cb:Bool)(cz:Int)(l:C_)(hc:¬vp rt n):bn prog yY [sP rt n cb cz,.d (.lst (ax l))]=some (.tup [.agg zF,A_ 2]):=by
 have hcf:=NX rt n cb cz;have ec:=(hcf.resolve_left (λh=>hc h.1)).2;simp only[sP]at ec⊢;rw[aL OH Pr rfl];simp(maxSteps:=9^6)(disch:=omega)[↓ac,↓aa,ec]
def apl (rt n:Int)(cb:Bool)(cz:Int)(l:C_)(hl:l.length<=100000)(hc:vp rt n)(hn:¬(l.length:Int)<=192*n):bn prog yY [sP rt n cb cz,.d (.lst (ax l))]=some (.tup [.agg zF,A_ 3]):=by
 have hcf:=NX rt n cb cz;have ec:=(hcf.resolve_right (λh=>h.1 hc)).2;have:=hc.2;have hbl:=fJ (l:=l);simp only[sP]at ec⊢;rw[aL OH Pr rfl];simp(maxSteps:=9^6)(disch:=omega)[↓ac,↓aa,ec,hbl]
def anr (rt n:Int)(cb:Bool)(cz:Int)(l:C_)(hl:l.length<=100000)(hl2:∀x∈l,x<=255)(hc:vp rt n)(hn:(l.length:Int)<=192*n):bn prog yY [sP rt n cb cz,.d (.lst (ax l))]=match Ay (gj l) rt.toNat n with
   |.ok f m=>some (.tup [.agg f.ow,A_ 0])
   |.er e=>some (.tup [.agg zF,A_ ((e+1:Nat):Int)]):=by
 rcases arf rt n cb cz _ l kW.d hl hl2 with ⟨_,_,hR⟩|⟨h,_⟩
 .exact hR
 .exact absurd ⟨hc,hn⟩ h
def al1 (rt n:Int)(cb:Bool)(cz:Int)(l:C_)(hl2:∀x∈l,x<=255):bn prog xW [sP rt n cb cz,.d (.lst (ax l))]=some (B_ true):=by
 have hbl:=fJ (l:=l);by_cases h1:l.length<=2000
 rotate_left
 .simp only[sP];rw[aL dX dY rfl];simp(maxSteps:=9^6)(disch:=omega)[↓ac,↓aa,hbl]
 have hR:=amf rt n cb cz _ l kW.d o_ hl2;have hz:=ahS;by_cases hc:vp rt n
 rotate_left
 .have hP:=aoA rt n cb cz l hc;have hQ:=hR.1 hc;simp only[sP,zF]at hP hQ hz⊢;rw[aL dX dY rfl];simp(maxSteps:=9^6)(disch:=omega)[↓ac,↓aa,hbl,hP,hQ,hz]
 by_cases hn:(l.length:Int)<=192*n
 rotate_left
 .have hP:=apl rt n cb cz l o_ hc hn;have hQ:=hR.2.1 hc hn;simp only[sP,zF]at hP hQ hz⊢;rw[aL dX dY rfl];simp(maxSteps:=9^6)(disch:=omega)[↓ac,↓aa,hbl,hP,hQ,hz]
 have hP:=anr rt n cb cz l o_ hl2 hc hn;have hQ:=hR.2.2 hc hn;clear hR
 cases hG:Ay (gj l) rt.toNat n with
 |er e =>
  rw[hG]at hP hQ;have ce:((e+1:Nat):Int)=(e:Int)+1:=rfl;simp only[sP,zF,ce]at hP hQ hz⊢;rw[aL dX dY rfl];simp(maxSteps:=9^6)(disch:=omega)[↓ac,↓aa,hbl,hP,hQ,hz]
 |ok f m =>
  rw[hG]at hP hQ;have ul:=PE (l:=l);have hR11:rt.toNat<=11:=by have:=hc.1;omega
  obtain⟨⟨hf,_⟩,_⟩:=aqy (b:=gj l) o_ o_ anO hR11 hc.2 hG;have hcl:=XQ hG;have hcn:f.chans≠[]:=λh=>by rw[h]at hcl;have:=hc.2;simp at hcl;omega
  have hC:al 9 (dG f.chans)=.own false 9 (dG f.chans):=fX (by cases h:f.chans with|nil=>exact absurd h hcn|cons x r=>simp[dG]);have hCs:share (al 9 (dG f.chans))=.d (.lst (dG f.chans)):=by rw[hC];rfl
  simp only[ki.ow]at hP;rw[hCs]at hP;have hS:=λY Z Y' Z' hY hZ hY' hZ'=>al4 f hf (.d (.lst (dG f.chans))) Y Z (.d (.lst (dG f.chans))) Y' Z' kW.d hY hZ kW.d hY' hZ'
  simp only[sP]at hP hQ⊢;generalize dG f.chans=A1 at *
  cases hbs:f.bands with
  |nil =>
   cases hfl:f.fill with
   |nil =>
    have hs:=hS .nl .nl .nl .nl (.inr ⟨rfl,by rw[hbs];rfl⟩) (.inr ⟨rfl,by rw[hfl];rfl⟩) (.inr ⟨rfl,by rw[hbs];rfl⟩) (.inr ⟨rfl,by rw[hfl];rfl⟩);rw[hbs,hfl]at hP hQ;simp only[PJ,show al 1 (cx [])=.nl from rfl,show al 1 (ax [])=.nl from rfl]at hP hQ;rw[aL dX dY rfl];simp(maxSteps:=9^6)(disch:=omega)[↓ac,↓aa,hbl,hP,hQ,hs]
   |cons y w =>
    have hs:=hS .nl (.d (.lst (ax f.fill))) .nl (.d (.lst (ax f.fill))) (.inr ⟨rfl,by rw[hbs];rfl⟩) kW.d (.inr ⟨rfl,by rw[hbs];rfl⟩) kW.d;rw[hfl]at hs;rw[hbs,hfl]at hP hQ;simp only[PJ,show al 1 (cx [])=.nl from rfl,show share (al 1 (ax (y::w)))=.d (.lst (ax (y::w))) from rfl]at hP hQ;generalize ax (y::w)=A3 at *;rw[aL dX dY rfl];simp(maxSteps:=9^6)(disch:=omega)[↓ac,↓aa,hbl,hP,hQ,hs]
  |cons t1 t2 =>
   cases hfl:f.fill with
   |nil =>
    have hs:=hS (.d (.lst (cx f.bands))) .nl (.d (.lst (cx f.bands))) .nl kW.d (.inr ⟨rfl,by rw[hfl];rfl⟩) kW.d (.inr ⟨rfl,by rw[hfl];rfl⟩);rw[hbs]at hs;rw[hbs,hfl]at hP hQ;simp only[PJ,show al 1 (cx (t1::t2))=.own false 1 (cx (t1::t2)) from rfl,show share (.own false 1 (cx (t1::t2)))=.d (.lst (cx (t1::t2))) from rfl,show al 1 (ax [])=.nl from rfl]at hP hQ;generalize cx (t1::t2)=A2 at *;rw[aL dX dY rfl];simp(maxSteps:=9^6)(disch:=omega)[↓ac,↓aa,hbl,hP,hQ,hs]
   |cons y w =>
    have hs:=hS (.d (.lst (cx f.bands))) (.d (.lst (ax f.fill))) (.d (.lst (cx f.bands))) (.d (.lst (ax f.fill))) kW.d kW.d kW.d kW.d;rw[hbs,hfl]at hs;rw[hbs,hfl]at hP hQ;simp only[PJ,show al 1 (cx (t1::t2))=.own false 1 (cx (t1::t2)) from rfl,show share (.own false 1 (cx (t1::t2)))=.d (.lst (cx (t1::t2))) from rfl,show share (al 1 (ax (y::w)))=.d (.lst (ax (y::w))) from rfl]at hP hQ;generalize cx (t1::t2)=A2 at *;generalize ax (y::w)=A3 at *;rw[aL dX dY rfl];simp(maxSteps:=9^6)(disch:=omega)[↓ac,↓aa,hbl,hP,hQ,hs]
end Go.Vm
end
