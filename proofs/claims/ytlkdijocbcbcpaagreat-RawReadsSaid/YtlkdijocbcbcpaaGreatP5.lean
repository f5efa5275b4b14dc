import Derived.Test.YtlkdijocbcbcpaaGreatP4
set_option linter.unusedVariables false
set_option linter.unusedSimpArgs false
set_option linter.defProp false
set_option linter.unusedSectionVars false
noncomputable section
namespace Go.Vm
set_option maxRecDepth 100000
set_option maxHeartbeats 4000000
def aG.fsz (i:aG):Nat:=if i.seq=2 then 3 else 5
def amo (i:aG):bn prog Sg [.agg i.cells]=some (.tup [A_ i.fsz,A_ ((2 ^ i.fsz-1:Nat):Int)]):=by
 rw[aL aeO agR rfl];unfold aG.fsz;by_cases h:i.seq=2
 .simp(disch:=first|omega|assumption) [↓ac,h]
 .simp(disch:=first|omega|assumption) [↓ac,↓aa]
abbrev agd (k:Int):Prop:=0<=k∧(k<=11∨k=13)
abbrev bl.right (s:bl)(left:Int):Prop:=(1<=s.len∧s.len<=left)∧agd s.book
def amJ (s:bl)(left:Int):bn prog S3 [.agg [A_ s.book,A_ s.len],A_ left]=if s.right left then some (B_ true) else some (B_ false):=by
 rw[aL afY afc rfl];by_cases h1:1<=s.len<;>by_cases h2:s.len<=left<;>by_cases h3:0<=s.book<;>by_cases h4:s.book<=11<;>by_cases h5:s.book=13<;>
  simp(disch:=first|omega|assumption) [↓ac,↓aa]
def Dm (b:C_)(sz left:Nat)(a:Nat):R bl :=
 (aE b a 4).bind λk a=>if k=12∨13<k then .er 7 else (yr b sz (2 ^ sz-1) left (left+1) a 0).bind λn a=>if n=0 then .er 7 else .ok ⟨k,n⟩ a
abbrev pS (b:C_)(left:Nat)(s:bl)(a:Nat):Prop:=(s.right left)∧a<=b.length
def aj4 {γ:Type}{b:C_}{sz left a:Nat}{F:bl->Nat->γ}{G:Nat->γ}:rK (pS b left) (Dm b sz left a) F G=rK (pG b 4) (aE b a 4) (λk a=>if k=12∨13<k then G 7 else rK (pL b left) (yr b sz (2 ^ sz-1) left (left+1) a 0) (λn a=>if n=0 then G 7 else F ⟨k,n⟩ a) G) G:=by
 rw[Dm,ky];refine cy (λ_ _=>rfl) (λk a hp=>?_) λ_=>rfl
 by_cases h:k=12∨13<k
 .simp_all
 .rw[aa h,aa h,aqG];refine cy (λ_ _=>rfl) (λn a hq=>?_) λ_=>rfl
  grind [ee,b9]
def YC {b:C_}{sz left a m:Nat}{s:bl}(h:Dm b sz left a=.ok s m):pS b left s m:=by
 rw[Dm]at h
 cases h1:aE b a 4 with
 |er e=>simp_all
 |ok k a1 =>
  by_cases hk:k=12∨13<k
  .simp_all
  .cases h2:yr b sz (2 ^ sz-1) left (left+1) a1 0 with
   |er e=>simp_all
   |ok n a2 =>
    have hq:=aff h2
    grind [ao]
def jn (b:C_)(sz:Nat):Nat->Nat->Nat->R U_
 |0,_,a=>.ok [] a
 |f+1,left,a=>if left=0 then .ok [] a else (Dm b sz left a).bind λs a=>(jn b sz f (left-s.len.toNat) a).bind λl a=>.ok (s::l) a
def fitsS:Int->U_->Prop
 |left,[]=>left=0
 |left,s::l=>s.right left∧fitsS (left-s.len) l
instance:∀(left:Int) (l:U_),Decidable (fitsS left l)
 |left,[]=>by unfold fitsS;infer_instance
 |left,s::l=>by
  unfold fitsS;have:Decidable (fitsS (left-s.len) l):=instDecidableFitsS _ l
  infer_instance
abbrev Tb (b:C_)(left:Nat)(l:U_)(a:Nat):Prop:=fitsS left l∧a<=b.length∧l.length<=left
def BZ {b:C_}{sz:Nat}:∀{f left a m:Nat}{l:U_},left<=f->a<=b.length->jn b sz f left a=.ok l m->Tb b left l m
 |0,left,a,m,l,h,ha,e=>by
  grind [jn,fitsS]
 |f+1,left,a,m,l,h,ha,e=>by
  simp only[jn]at e;by_cases h0:left=0
  .grind [fitsS]
  .rw[aa h0]at e
   cases h1:Dm b sz left a with
   |er e2=>simp_all
   |ok s a1 =>
    have hs:=YC h1;rw[h1,ao]at e
    cases h2:jn b sz f (left-s.len.toNat) a1 with
    |er e2=>simp_all
    |ok l2 a2 =>
     have ih:=BZ o_ hs.2 h2;rw[h2,ao]at e;injection e with e1 e2
     subst e1 e2;refine⟨⟨hs.1,?_⟩,ih.2.1,?_⟩
     all_goals grind
def acn {γ:Type}{b:C_}{sz f left a:Nat}{F:U_->Nat->γ}{G:Nat->γ}(hf:left<=f+1)(h0:left≠0):rK (Tb b left) (jn b sz (f+1) left a) F G =
  rK (pS b left) (Dm b sz left a) (λs a=>rK (Tb b (left-s.len.toNat)) (jn b sz f (left-s.len.toNat) a) (λl a=>F (s::l) a) G) G:=by
 rw[jn,aa h0,fF (q:=pS b left) λ_ _ h=>YC h];refine cy (λ_ _=>rfl) (λs a hp=>?_) λ_=>rfl
 rw[fF (q:=Tb b (left-s.len.toNat)) λ_ _ h=>BZ o_ hp.2 h];refine cy (λ_ _=>rfl) (λl a hq=>?_) λ_=>rfl
 rw[b9];refine⟨⟨hp.1,?_⟩,hq.2.1,?_⟩
 all_goals grind
def IC {γ:Type}{b:C_}{sz f a:Nat}{F:U_->Nat->γ}{G:Nat->γ}(ha:a<=b.length):rK (Tb b 0) (jn b sz f 0 a) F G=F [] a:=by
 cases f<;>grind [jn,b9,fitsS]
def pt {α γ:Type}{p:α->Nat->Prop}{r:R α}{f f2:α->Nat->γ}{g g2:Nat->γ}(hp:∀v n,r=.ok v n->p v n)(h:∀v n,r=.ok v n->p v n->f v n=f2 v n)(k:∀e,r=.er e->g e=g2 e):rK p r f g=rK p r f2 g2:=by
 cases r<;>simp_all [b9]
def aiy (b:C_)(sz:Nat)(hb:b.length<=1000000000)(hsz:sz<=5)(hs1:1<=sz)(x6:AV)(X:Obj)(y40 y41:D)(left a N:Nat)(G:U_)(h0:left≠0)(h2:left<=1000)(h3:G.length+left<=10000)(h4:1<=N)(ha:a<=b.length) :
  (Dn prog).code wx ⟨[(0,.d (.lst (ax b))),(5,.ptr 0 0),(6,x6),(7,A_ a),(9,A_ sz),(10,A_ ((2 ^ sz-1:Nat):Int)),(11,al 2 (fj G)),(12,A_ left),(40,.d y40),(41,.d y41)],⟨[(0,X)],N⟩⟩ =
  rK (pS b left) (Dm b sz left a) (λs a=>some (.normal,⟨[(0,.d (.lst (ax b))),(5,.ptr 0 0),(6,x6),(7,A_ a),(9,A_ sz),(10,A_ ((2 ^ sz-1:Nat):Int)),(11,al 2 (fj (G++[s]))),(12,A_ ((left-s.len.toNat:Nat):Int)),(40,.d y40),(41,.d y41)],⟨[(0,X)],N+1⟩⟩)) (λe=>U7 e ⟨[(0,X)],N+1⟩):=by
 rw[aj4,HU];have hp3:2 ^ 1<=2 ^ sz:=aA o_ hs1;have hN0:N≠0:=o_;have c0:((0:Nat):Int)=0:=rfl;have h5:=λbk M N hM a h1 h2' ha=>ais b sz (2 ^ sz-1) left hb hsz rfl hs1 h2 x6 (al 2 (fj G)) bk X y40 y41 M N hM (left+1) a 0 h1 h2' ha
 simp only[c0]at h5;have h6:=λk n left=>amJ ⟨k,n⟩ left
 simp(maxSteps:=9^6)(disch:=first|omega|assumption) [↓ac,↓aa,io];refine cy (λ_ _=>rfl) (λk a1 hp=>?_) λ_=>rfl
 have hp1:k<16:=hp.1;by_cases hk:k=12∨13<k
 .grind
 .rw[aa hk,aa o_,h5 k N (N+1) h4 a1 o_ o_ hp.2];simp only[anI,aoh];refine cy (λ_ _=>rfl) (λn a2 hq=>?_) λ_=>rfl
  by_cases hn:n=0
  .have hr:¬bl.right ⟨k,n⟩ left:=u_;simp(disch:=first|omega|assumption) [↓ac,↓aa,h6]
  .have hr:bl.right ⟨k,n⟩ left:=e_;have e1:((left-n:Nat):Int)=(left:Int)-n:=o_;have e2:(fj G).length<1000000000:=by grind [Pw]
   simp(disch:=first|omega|assumption) [↓ac,↓aa,h6,e1,dy]
def Gw (b:C_)(sz:Nat):Nat->Nat->Nat->Nat
 |0,_,_=>0
 |f+1,left,a=>if left=0 then 0 else match Dm b sz left a with
  |.ok s a=>Gw b sz f (left-s.len.toNat) a+1
  |.er _=>1
def aiB (b:C_)(sz:Nat)(hb:b.length<=1000000000)(hsz:sz<=5)(hs1:1<=sz)(x6:AV)(X:Obj)(y40 y41:D):∀(f left a N:Nat) (G:U_),left<=f->left<=1000->G.length+left<=10000->1<=N->a<=b.length->
  (Dn prog).code (.loop wx) ⟨[(0,.d (.lst (ax b))),(5,.ptr 0 0),(6,x6),(7,A_ a),(9,A_ sz),(10,A_ ((2 ^ sz-1:Nat):Int)),(11,al 2 (fj G)),(12,A_ left),(40,.d y40),(41,.d y41)],⟨[(0,X)],N⟩⟩ =
  rK (Tb b left) (jn b sz f left a) (λl a=>some (.exit 2,⟨[(0,.d (.lst (ax b))),(5,.ptr 0 0),(6,x6),(7,A_ a),(9,A_ sz),(10,A_ ((2 ^ sz-1:Nat):Int)),(11,al 2 (fj (G++l))),(40,.d y40),(41,.d y41)],⟨[(0,X)],N+l.length⟩⟩)) (λe=>U7 e ⟨[(0,X)],N+Gw b sz f left a⟩):=by
 intro f
 induction f with
 |zero =>
  intro left a N G h1 h2 h3 h4 ha;have:left=0:=o_;subst this;rw[IC ha,ah HU];simp(disch:=first|omega|assumption) [↓aa]
 |succ f ih =>
  intro left a N G h1 h2 h3 h4 ha;by_cases h0:left=0
  .subst h0;rw[IC ha,ah HU];simp(disch:=first|omega|assumption) [↓aa]
  .rw[acn h1 h0,ah rfl,aiy b sz hb hsz hs1 x6 X y40 y41 left a N G h0 h2 h3 h4 ha,TC];refine pt (λ_ _ h=>YC h) (λs a1 e1 hp=>?_) (λe e1=>?_)
   .rw[Md,ih (left-s.len.toNat) a1 (N+1) (G++[s]) o_ o_ e_ o_ hp.2]
    grind [Gw]
   simp_all [Gw]
def tg (b:C_)(sz bQ:Nat):Nat->Nat->R H_
 |0,a=>.ok [] a
 |k+1,a=>(jn b sz bQ bQ a).bind λl a=>(tg b sz bQ k a).bind λg a=>.ok (l::g) a
abbrev Qs (b:C_)(max k:Nat)(g:H_)(a:Nat):Prop:=(∀l∈g,fitsS max l∧l.length<=max)∧a<=b.length∧g.length=k
def M7 {b:C_}{sz max:Nat}:∀{k a m:Nat}{g:H_},a<=b.length->tg b sz max k a=.ok g m->Qs b max k g m
 |0,a,m,g,ha,h=>by
  grind [tg]
 |k+1,a,m,g,ha,h=>by
  simp only[tg]at h
  cases h1:jn b sz max max a with
  |er e=>simp_all
  |ok l a1 =>
   have hp:=BZ (ai _) ha h1
   cases h2:tg b sz max k a1 with
   |er e=>simp_all
   |ok g2 a2 =>
    have hq:=M7 hp.2.1 h2
    grind [ao]
def ag9 {γ:Type}{b:C_}{sz max k a:Nat}{F:H_->Nat->γ}{G:Nat->γ}(ha:a<=b.length):rK (Qs b max (k+1)) (tg b sz max (k+1) a) F G =
  rK (Tb b max) (jn b sz max max a) (λl a=>rK (Qs b max k) (tg b sz max k a) (λg a=>F (l::g) a) G) G:=by
 rw[tg,fF (q:=Tb b max) λ_ _ h=>BZ (ai _) ha h];refine cy (λ_ _=>rfl) (λl a hp=>?_) λ_=>rfl
 rw[fF (q:=Qs b max k) λ_ _ h=>M7 hp.2.1 h];refine cy (λ_ _=>rfl) (λg a hq=>?_) λ_=>rfl
 grind [b9]
def ack {γ:Type}{b:C_}{sz max a:Nat}{F:H_->Nat->γ}{G:Nat->γ}(ha:a<=b.length):rK (Qs b max 0) (tg b sz max 0 a) F G=F [] a:=by
 grind [tg,b9]
def bi (g:H_):F_:=g.map λl=>[.lst (fj l)]
@[simp] def Cz {g:H_}:(bi g).length=g.length:=by simp[bi]
@[simp] def aAt {g:H_}{l:U_}:bi (g++[l])=bi g++[[.lst (fj l)]]:=by simp[bi]
def VZ:H_->Nat
 |[]=>0
 |l::g=>l.length+VZ g
def VY (b:C_)(sz max:Nat):Nat->Nat->Nat
 |0,_=>0
 |k+1,a=>match jn b sz max max a with
  |.ok l a=>l.length+VY b sz max k a
  |.er _=>Gw b sz max max a
def aiQ (b:C_)(i:aG)(sz mx:Nat)(hmx:i.max=mx)(hb:b.length<=1000000000)(hsz:sz<=5)(hs1:1<=sz)(h2:mx<=1000)(a N j len:Nat)(Gs:H_)(h3:Gs.length<=10000)(h4:1<=N)(ha:a<=b.length)(hj:j<len)(hlen:len<=10000) :
  (Dn prog).code wp ⟨[(0,.d (.lst (ax b))),(5,.ptr 0 0),(6,al 1 (bi Gs)),(7,A_ a),(9,A_ sz),(10,A_ ((2 ^ sz-1:Nat):Int)),(40,A_ len),(41,A_ j)],⟨[(0,.cells i.cells)],N⟩⟩ =
  rK (Tb b mx) (jn b sz mx mx a) (λl a=>some (.normal,⟨[(0,.d (.lst (ax b))),(5,.ptr 0 0),(6,al 1 (bi (Gs++[l]))),(7,A_ a),(9,A_ sz),(10,A_ ((2 ^ sz-1:Nat):Int)),(40,A_ len),(41,A_ ((j+1:Nat):Int))],⟨[(0,.cells i.cells)],N+l.length⟩⟩)) (λe=>U7 e ⟨[(0,.cells i.cells)],N+Gw b sz mx mx a⟩):=by
 rw[Qj];have h5:=λy40 y41=>aiB b sz hb hsz hs1 (al 1 (bi Gs)) (.cells i.cells) y40 y41 mx mx a N [] (ai _) h2 t_ h4 ha
 simp only[fj,List.map_nil,dH,az,aG.cells,hmx]at h5;have e2:(bi Gs).length<1000000000:=by rw[Cz];omega
 simp(maxSteps:=9^6)(disch:=first|omega|assumption) [ac,aa,h5,hmx];refine cy (λ_ _=>rfl) (λl a2 hq=>?_) λe=>rfl
 simp[dy,fj]
def ahz (b:C_)(i:aG)(sz mx:Nat)(hmx:i.max=mx)(hb:b.length<=1000000000)(hsz:sz<=5)(hs1:1<=sz)(h2:mx<=1000)(len:Nat)(hlen:len<=1000):∀(k a N j:Nat) (Gs:H_),j+k=len->Gs.length+k<=10000->1<=N->a<=b.length->
  (Dn prog).code (.loop wp) ⟨[(0,.d (.lst (ax b))),(5,.ptr 0 0),(6,al 1 (bi Gs)),(7,A_ a),(9,A_ sz),(10,A_ ((2 ^ sz-1:Nat):Int)),(40,A_ len),(41,A_ j)],⟨[(0,.cells i.cells)],N⟩⟩ =
  rK (Qs b mx k) (tg b sz mx k a) (λg a=>some (.exit 0,⟨[(6,al 1 (bi (Gs++g))),(7,A_ a)],⟨[(0,.cells i.cells)],N+VZ g⟩⟩)) (λe=>U7 e ⟨[(0,.cells i.cells)],N+VY b sz mx k a⟩):=by
 intro k
 induction k with
 |zero =>
  intro a N j Gs h1 h3 h4 ha;rw[ack ha,ah Qj];simp(maxSteps:=9^6)(disch:=first|omega|assumption) [ac,aa,VZ]
 |succ k ih =>
  intro a N j Gs h1 h3 h4 ha;rw[ag9 ha,ah rfl,aiQ b i sz mx hmx hb hsz hs1 h2 a N j len Gs o_ h4 ha o_ o_,TC];refine pt (λ_ _ h=>BZ (ai _) ha h) (λl a1 e1 hp=>?_) (λe e1=>?_)
  .rw[Md,ih a1 (N+l.length) (j+1) (Gs++[l]) o_ t_ o_ hp.2.1];refine pt (λ_ _ h=>M7 hp.2.1 h) (λg a2 e2 hq=>?_) (λe e2=>?_)
   .simp[VZ,cm]
   .simp[VY,e1,cm]
  .simp[VY,e1]
def agr {m:Nat}{xs:F_}(h:∀x∈xs,∃l,x=[D.lst l])(hf:jQ (al m xs)=true):mR (al m xs)=al m xs:=by
 cases xs with
 |nil=>rfl
 |cons x r =>
  obtain⟨l,rfl⟩:=h x s_;simp[al,jQ,ju,jf]at hf
def ajO {g:H_}:∀x∈bi g,∃l,x=[D.lst l]:=by
 intro x hx;simp only[bi,cX]at hx;obtain⟨l,_,rfl⟩:=hx;exact⟨_,rfl⟩
def ma (b:C_)(i:aG)(a:Int):R H_ :=
 if 0<=a∧a<=b.length then tg b i.fsz i.max.toNat i.groups.length a.toNat else .er 1
def anL {b:C_}{a:Int}:aE b a 0=if 0<=a∧a<=b.length then .ok 0 a.toNat else .er 1:=by
 unfold aE;by_cases h:0<=a∧a<=b.length
 .rw[ac h,ac o_,aa o_,ac (by simp[bin])];simp[val]
 .rw[aa h,aa o_]
def arb (b:C_)(a:Int)(i:aG)(hb:b.length<=1000000000)(ha:i64 a)(hi:i.Fit)(hm:i.may 11):bn prog Y1 [.d (.lst (ax b)),A_ a,.agg i.cells] =
  rK (Qs b i.max.toNat i.groups.length) (ma b i a) (λg n=>some (.tup [al 1 (bi g),A_ n,A_ 0])) (λe=>some (.tup [.nl,A_ 0,A_ (e+1)])):=by
 have hw:=I7 i hi;rw[ac hm]at hw;have hf:=amo i;have hmx:i.max=i.max.toNat:=by have:=hm.2.2.1;omega
 have hmb:i.max.toNat<=1000:=by have:=hm.2.2.2.1;have:=WB (r:=11) (s:=decide (i.seq=2)) o_;omega
 have hsz:1<=i.fsz∧i.fsz<=5:=by unfold aG.fsz;split<;>omega
 have hll:=hi.len;rw[aL aln amx rfl];have hl:=ahz b i i.fsz i.max.toNat hmx hb hsz.2 hsz.1 hmb i.groups.length hi.len;simp only[aG.cells]at hw hf;unfold ma;by_cases h0:0<=a∧a<=b.length
 .obtain⟨A,rfl⟩:=ay h0.1;have h1:=hl i.groups.length A 1 0 [] o_ t_ o_ o_;have c0:((0:Nat):Int)=0:=rfl;simp only[aG.cells,bi,List.map_nil,dH,az,c0]at h1;rw[ac h0];simp(maxSteps:=9^6)(disch:=first|omega|assumption) [ac,aa,hw,hf,io,anL,h0];rw[b9 ⟨s_,o_⟩];simp(maxSteps:=9^6)(disch:=first|omega|assumption) [h1];refine cy (λ_ _=>rfl) (λg n hp=>?_) λ_=>rfl
  have hb:=agr (m:=1) (ajO (g:=g));simp only[bi]at hb⊢;by_cases hf:jQ (al 1 (List.map (λl=>[D.lst (fj l)]) g))=true
  .rw[ac hf,hb hf]
  .rw[aa hf]
 .rw[aa h0];simp(maxSteps:=9^6)(disch:=first|omega|assumption) [ac,aa,hw,hf,io,anL,h0]
def akS (n:Nat)(hn:n<=62)(h:ak)(m:Nat):∀(k i:Nat),i+k=n->
  (Dn prog).code (.loop mw) ⟨[(0,A_ n),(3,A_ ((2 ^ i:Nat):Int)),(4,A_ i)],⟨h,m⟩⟩=some (.exit 0,⟨[(3,A_ ((2 ^ n:Nat):Int))],⟨h,m⟩⟩):=by
 intro k
 induction k with
 |zero =>
  intro i hi;have:i=n:=o_;subst this;rw[ah A9];simp(disch:=first|omega|assumption) [aa]
 |succ k ih =>
  intro i hi;have h1:2 ^ (i+1)=2*2 ^ i:=by rw[cR];omega
  have h2:2 ^ (i+1)<=2 ^ 62:=aA o_ o_;have e1:((2 ^ (i+1):Nat):Int)=2*((2 ^ i:Nat):Int):=o_;have e2:((i+1:Nat):Int)=(i:Int)+1:=o_;rw[<-ih (i+1) o_,e1,e2,ah A9];generalize hP:((2 ^ i:Nat):Int)=P at *;simp(disch:=first|omega|assumption) [ac]
def Cx (n:Nat)(hn:n<=62):bn prog EI [A_ n]=some (A_ ((2 ^ n:Nat):Int)):=by
 rw[aL Rh Q7 rfl];have h:=akS n hn [] 0 n 0 o_;have c0:((0:Nat):Int)=0:=rfl;have c1:((2 ^ 0:Nat):Int)=1:=rfl;rw[c0,c1]at h;generalize hP:((2 ^ n:Nat):Int)=P at *;simp(disch:=first|omega|assumption) [h]
abbrev Z2:Obj:=.cells [A_ 0,A_ 0]
abbrev aCv (e:Nat)(h:HS):I_:=some (.ret,⟨[(8,.ptr 0 0),(9,A_ 0),(10,A_ (e+1))],h⟩)
def afP (b:C_)(sz bQ left:Nat)(hb:b.length<=1000000000)(hsz:sz<=5)(hm:bQ=2 ^ sz-1)(hs1:1<=sz)(hl:left<=1000)(bk:Int)(N:Nat):∀(f a acc:Nat),left<acc+f->acc<=left->a<=b.length->
  (Dn prog).code (.loop mq) ⟨[(0,.d (.lst (ax b))),(1,A_ a),(2,A_ sz),(3,A_ left),(8,.ptr 0 0),(11,A_ bQ),(14,.ptr 1 0)],⟨[(0,Z2),(1,.cells [A_ bk,A_ acc])],N⟩⟩ =
  rK (pL b left) (yr b sz bQ left f a acc) (λn a=>some (.exit 0,⟨[(1,A_ a),(8,.ptr 0 0),(14,.ptr 1 0)],⟨[(0,Z2),(1,.cells [A_ bk,A_ n])],N⟩⟩)) (λe=>aCv e ⟨[(0,Z2)],N⟩):=by
 intro f
 induction f with
 |zero=>intro a acc h1 h2;omega
 |succ f ih =>
  intro a acc h1 h2 ha;rw[ah LJ,ajK];have hp2:2 ^ sz<=2 ^ 5:=aA o_ hsz;have hp3:2 ^ 1<=2 ^ sz:=aA o_ hs1;simp(maxSteps:=9^6)(disch:=first|omega|assumption) [ac,aa,jg,pG];refine cy (λ_ _=>rfl) (λn a' hp=>?_) λ_=>rfl
  have hp4:n<2 ^ sz:=hp.1;by_cases h3:left<acc+n
  .rw[ac h3,ac o_];rfl
  .rw[aa h3,aa o_];by_cases h4:n=bQ
   .subst h4;rw[ac rfl,<-ih a' (acc+n) o_ o_ hp.2];simp(disch:=first|omega|assumption) [aa]
   .rw[aa h4];simp(maxSteps:=9^6)(disch:=first|omega|assumption) [ac,aa]
def aoD (b:C_)(sz left a:Nat)(hb:b.length<=1000000000)(hsz:sz<=5)(hs1:1<=sz)(hl:left<=1000)(ha:a<=b.length):bn prog EJ [.d (.lst (ax b)),A_ a,A_ sz,A_ left] =
  rK (pS b left) (Dm b sz left a) (λs n=>some (.tup [.agg [A_ s.book,A_ s.len],A_ n,A_ 0])) (λe=>some (.tup [.agg [A_ 0,A_ 0],A_ 0,A_ (e+1)])):=by
 rw[aL Ra Rv rfl,aj4];have hp2:2 ^ sz<=2 ^ 5:=aA o_ hsz;have hp3:2 ^ 1<=2 ^ sz:=aA o_ hs1;have hT:=Cx sz o_;have h5:=λbk a h1 h2 ha=>afP b sz (2 ^ sz-1) left hb hsz rfl hs1 hl bk 2 (left+1) a 0 h1 h2 ha
 have c0:((0:Nat):Int)=0:=rfl;have c1:((2 ^ sz-1:Nat):Int)=((2 ^ sz:Nat):Int)-1:=o_;simp only[c0,c1]at h5;generalize hP:2 ^ sz=P at *;simp(maxSteps:=9^6)(disch:=first|omega|assumption) [ac,aa,jg,hT];refine cy (λ_ _=>rfl) (λk a1 hp=>?_) λ_=>rfl
 have hp1:k<16:=hp.1;by_cases hk:k=12∨13<k
 .rw[ac hk,ac o_]
 .rw[aa hk,aa o_,h5 k a1 o_ o_ hp.2];simp only[anI,aoh,Zp,YA];refine cy (λ_ _=>rfl) (λn a2 hq=>?_) λ_=>?_
  .by_cases hn:n=0
   .rw[ac hn];simp(maxSteps:=9^6)(disch:=first|omega|assumption) [ac]
   .rw[aa hn];simp(maxSteps:=9^6)(disch:=first|omega|assumption) [aa]
  .simp
def als (i:aG):bn prog Dq [.agg i.cells]=some (A_ i.fsz):=by
 rw[aL Po PM rfl];unfold aG.fsz;by_cases h:i.seq=2
 .simp(disch:=first|omega|assumption) [ac,aa,h]
 .simp(disch:=first|omega|assumption) [ac,aa,h]
def acI (b:C_)(i:aG)(hb:b.length<=1000000000)(x9:AV)(y10:D)(left a N:Nat)(G:U_)(h0:left≠0)(h2:left<=1000)(h3:G.length+left<=10000)(h4:1<=N)(ha:a<=b.length) :
  (Dn prog).code iS ⟨[(0,.d (.lst (ax b))),(1,A_ a),(5,.ptr 0 0),(9,x9),(10,.d y10),(11,al 2 (fj G)),(12,A_ left)],⟨[(0,.cells i.cells)],N⟩⟩ =
  rK (pS b left) (Dm b i.fsz left a) (λs a=>some (.normal,⟨[(0,.d (.lst (ax b))),(1,A_ a),(5,.ptr 0 0),(9,x9),(10,.d y10),(11,al 2 (fj (G++[s]))),(12,A_ ((left-s.len.toNat:Nat):Int))],⟨[(0,.cells i.cells)],N+1⟩⟩)) (λe=>U7 e ⟨[],N+1⟩):=by
 rw[rg];have hN0:N≠0:=o_;have hsz:1<=i.fsz∧i.fsz<=5:=by unfold aG.fsz;split<;>omega
 have h5:=aoD b i.fsz left a hb hsz.2 hsz.1 h2 ha;have h6:=als i;have e2:(fj G).length<1000000000:=by rw[Pw];omega
 simp only[aG.cells]at h6;generalize Dm b i.fsz left a=RR at *;simp(maxSteps:=9^6)(disch:=first|omega|assumption) [ac,aa,hN0,h5,h6];refine cy (λ_ _=>rfl) (λs a1 hp=>?_) λ_=>rfl
 have hr:=hp.1.1;have e1:((left-s.len.toNat:Nat):Int)=(left:Int)-s.len:=o_;simp(maxSteps:=9^6)(disch:=first|omega|assumption) [e1,dy,hN0]
def adg (b:C_)(i:aG)(hb:b.length<=1000000000)(x9:AV)(y10:D):∀(f left a N:Nat) (G:U_),left<=f->left<=1000->G.length+left<=10000->1<=N->a<=b.length->
  (Dn prog).code (.loop iS) ⟨[(0,.d (.lst (ax b))),(1,A_ a),(5,.ptr 0 0),(9,x9),(10,.d y10),(11,al 2 (fj G)),(12,A_ left)],⟨[(0,.cells i.cells)],N⟩⟩ =
  rK (Tb b left) (jn b i.fsz f left a) (λl a=>some (.exit 2,⟨[(0,.d (.lst (ax b))),(1,A_ a),(5,.ptr 0 0),(9,x9),(10,.d y10),(11,al 2 (fj (G++l)))],⟨[(0,.cells i.cells)],N+l.length⟩⟩)) (λe=>U7 e ⟨[],N+Gw b i.fsz f left a⟩):=by
 intro f
 induction f with
 |zero =>
  intro left a N G h1 h2 h3 h4 ha;have:left=0:=o_;subst this;rw[IC ha,ah rg];simp(maxSteps:=9^6)(disch:=first|omega|assumption) [ac,aa]
 |succ f ih =>
  intro left a N G h1 h2 h3 h4 ha;by_cases h0:left=0
  .subst h0;rw[IC ha,ah rg];simp(maxSteps:=9^6)(disch:=first|omega|assumption) [ac,aa]
  .rw[acn h1 h0,ah rfl,acI b i hb x9 y10 left a N G h0 h2 h3 h4 ha,TC];refine pt (λ_ _ h=>YC h) (λs a1 e1 hp=>?_) (λe e1=>?_)
   .have hr:=hp.1.1;rw[Md,ih (left-s.len.toNat) a1 (N+1) (G++[s]) o_ o_ t_ o_ hp.2];refine pt (λ_ _ h=>BZ o_ hp.2 h) (λl a2 e2 hq=>?_) (λe e2=>?_)
    .simp[cm,f9 1]
    .simp[Gw,h0,e1,cm,f9 1]
   .simp[Gw,h0,e1]
def ac2 (b:C_)(i:aG)(mx:Nat)(hmx:i.max=mx)(hb:b.length<=1000000000)(h2:mx<=1000)(a N j:Nat)(Gs:H_)(h3:Gs.length<=10000)(h4:1<=N)(ha:a<=b.length)(hj:j<i.groups.length)(hlen:i.groups.length<=1000) :
  (Dn prog).code iP ⟨[(0,.d (.lst (ax b))),(1,A_ a),(5,.ptr 0 0),(9,al 1 (bi Gs)),(10,A_ j)],⟨[(0,.cells i.cells)],N⟩⟩ =
  rK (Tb b mx) (jn b i.fsz mx mx a) (λl a=>some (.normal,⟨[(0,.d (.lst (ax b))),(1,A_ a),(5,.ptr 0 0),(9,al 1 (bi (Gs++[l]))),(10,A_ ((j+1:Nat):Int))],⟨[(0,.cells i.cells)],N+l.length⟩⟩)) (λe=>U7 e ⟨[],N+Gw b i.fsz mx mx a⟩):=by
 rw[zo];have h5:=λy10=>adg b i hb (al 1 (bi Gs)) y10 mx mx a N [] (ai _) h2 t_ h4 ha
 simp only[fj,List.map_nil,dH,az,aG.cells,hmx]at h5;have e2:(bi Gs).length<1000000000:=by rw[Cz];omega
 simp(maxSteps:=9^6)(disch:=first|omega|assumption) [ac,aa,h5,hmx];refine cy (λ_ _=>rfl) (λl a2 hq=>?_) λe=>rfl
 simp[dy,fj]
def ado (b:C_)(i:aG)(mx:Nat)(hmx:i.max=mx)(hb:b.length<=1000000000)(h2:mx<=1000)(hlen:i.groups.length<=1000):∀(k a N j:Nat) (Gs:H_),j+k=i.groups.length->Gs.length+k<=10000->1<=N->a<=b.length->
  (Dn prog).code (.loop iP) ⟨[(0,.d (.lst (ax b))),(1,A_ a),(5,.ptr 0 0),(9,al 1 (bi Gs)),(10,A_ j)],⟨[(0,.cells i.cells)],N⟩⟩ =
  rK (Qs b mx k) (tg b i.fsz mx k a) (λg a=>some (.exit 0,⟨[(1,A_ a),(9,al 1 (bi (Gs++g)))],⟨[],N+VZ g⟩⟩)) (λe=>U7 e ⟨[],N+VY b i.fsz mx k a⟩):=by
 intro k
 induction k with
 |zero =>
  intro a N j Gs h1 h3 h4 ha;rw[ack ha,ah zo];simp(maxSteps:=9^6)(disch:=first|omega|assumption) [ac,aa,VZ]
 |succ k ih =>
  intro a N j Gs h1 h3 h4 ha;rw[ag9 ha,ah rfl,ac2 b i mx hmx hb h2 a N j Gs o_ h4 ha o_ o_,TC];refine pt (λ_ _ h=>BZ (ai _) ha h) (λl a1 e1 hp=>?_) (λe e1=>?_)
  .rw[Md,ih a1 (N+l.length) (j+1) (Gs++[l]) o_ t_ o_ hp.2.1];refine pt (λ_ _ h=>M7 hp.2.1 h) (λg a2 e2 hq=>?_) (λe e2=>?_)
   .simp[VZ,cm]
   .simp[VY,e1,cm]
  .simp[VY,e1]
def ame (b:C_)(a:Int)(i:aG)(hb:b.length<=1000000000)(ha:i64 a)(hi:i.Fit)(hm:i.may 11):bn prog vg [.d (.lst (ax b)),A_ a,.agg i.cells] =
  rK (Qs b i.max.toNat i.groups.length) (ma b i a) (λg n=>some (.tup [al 1 (bi g),A_ n,A_ 0])) (λe=>some (.tup [.nl,A_ 0,A_ (e+1)])):=by
 have hmx:i.max=i.max.toNat:=by have:=hm.2.2.1;omega
 have hmb:i.max.toNat<=1000:=by have:=hm.2.2.2.1;have:=WB (r:=11) (s:=decide (i.seq=2)) o_;omega
 have hll:=hi.len;rw[aL Pl Od rfl];have hl:=ado b i i.max.toNat hmx hb hmb hi.len;unfold ma;by_cases h0:0<=a∧a<=b.length
 .obtain⟨A,rfl⟩:=ay h0.1;have h1:=hl i.groups.length A 1 0 [] o_ t_ o_ o_;have c0:((0:Nat):Int)=0:=rfl;simp only[aG.cells,bi,List.map_nil,dH,az,c0]at h1;rw[ac h0];simp(maxSteps:=9^6)(disch:=first|omega|assumption) [ac,aa,h1];refine cy (λ_ _=>rfl) (λg n hp=>?_) λ_=>rfl
  have hb:=agr (m:=1) (ajO (g:=g));simp only[bi]at hb⊢;by_cases hf:jQ (al 1 (List.map (λl=>[D.lst (fj l)]) g))=true
  .rw[ac hf,hb hf]
  .rw[aa hf]
 .rw[aa h0];by_cases h1:a<0
  .simp(maxSteps:=9^6)(disch:=first|omega|assumption) [ac,aa]
  .simp(maxSteps:=9^6)(disch:=first|omega|assumption) [ac,aa]
abbrev lS:=@List.length_set
structure Hp (hp:C_->ak)(D:Nat):Prop where
 get:∀xs,get (hp xs) D=some (.arr 1 (aS xs))
 put:∀xs ys,put (hp xs) D (.arr 1 (aS ys))=hp ys
def swp (xs:C_)(i j:Nat):C_:=(xs.set i (nth xs j)).set j (nth xs i)
@[simp] def yD {xs:C_}{i j:Nat}:(swp xs i j).length=xs.length:=by simp[swp]
def swpR (xs:C_)(a b:Nat):Nat->Nat->C_
 |0,_=>xs
 |k+1,i=>swpR (swp xs (a+i) (b+i)) a b k (i+1)
@[simp] def E8 {a b:Nat}:∀{k i:Nat}{xs:C_},(swpR xs a b k i).length=xs.length
 |0,_,_=>rfl
 |k+1,i,xs=>by rw[swpR,E8,yD]
section
variable {hp:C_->ak}{D:Nat}
theorem ag2 (H:Hp hp D)(len:Nat)(hlen:len<=1000000000)(a b n N:Nat)(ha:a+n<=len)(hb:b+n<=len):∀(k i:Nat) (xs:C_),i+k=n->xs.length=len->
  (Dn prog).code (.loop gh) ⟨[(0,.sl D 0 len),(1,A_ a),(2,A_ b),(3,A_ n),(10,A_ i)],⟨hp xs,N⟩⟩ =
  some (.exit 0,⟨[],⟨hp (swpR xs a b k i),N⟩⟩):=by
 intro k
 induction k with
 |zero =>
  intro i xs hi hx;rw[ah oZ];simp(maxSteps:=9^6)(disch:=omega)[↓ac,↓aa,swpR]
 |succ k ih =>
  intro i xs hi hx;rw[ah oZ];have l1:=lS (as:=xs) (i:=a+i) (a:=nth xs (b+i));simp(maxSteps:=9^6)(disch:=omega)[↓ac,↓aa,H.get,H.put];have h:=ih (i+1) (swp xs (a+i) (b+i)) o_ (by simpa using hx);have c1:((i+1:Nat):Int)=(i:Int)+1:=rfl;rw[c1]at h;rw[swpR,<-h];rfl
theorem SI (H:Hp hp D)(F:AV)(len:Nat)(hlen:len<=1000000000)(a b n N:Nat)(ha:a+n<=len)(hb:b+n<=len)(xs:C_)(hx:xs.length=len) :
  (Dn prog).call sT [.sl D 0 len,A_ a,A_ b,A_ n,F] ⟨hp xs,N⟩=some (.tup [],⟨hp (swpR xs a b n 0),N⟩):=by
 rw[bC EA EC rfl];have h:=ag2 H len hlen a b n N ha hb n 0 xs o_ hx;have c0:((0:Nat):Int)=0:=rfl;rw[c0]at h;simp(maxSteps:=9^6)(disch:=omega)[↓ac,↓aa,h]
def rot (m:Nat):Nat->C_->Nat->Nat->C_
 |0,xs,i,j=>xs
 |f+1,xs,i,j=>if i=j then swpR xs (m-i) m i 0 else if j<i then rot m f (swpR xs (m-i) m j 0) (i-j) j else rot m f (swpR xs (m-i) (m+j-i) i 0) i (j-i)
theorem IK {m:Nat}:∀{f:Nat}{xs:C_}{i j:Nat},(rot m f xs i j).length=xs.length
 |0,_,_,_=>rfl
 |f+1,xs,i,j=>by
  rw[rot];split
  .exact E8
  .split
   .rw[IK,E8]
   .rw[IK,E8]
theorem apo (H:Hp hp D)(F:AV)(hF:share F=F)(hG:firm F=F)(len:Nat)(hlen:len<=1000000000)(m N:Nat):∀(f i j:Nat) (xs:C_),i+j<=f->1<=i->1<=j->i<=m->m+j<=len->xs.length=len->
  ∃(k:Nat) (ys:C_),(Dn prog).code (.loop ie) ⟨[(0,.sl D 0 len),(2,A_ m),(4,F),(10,A_ i),(11,A_ j)],⟨hp xs,N⟩⟩ =
   some (.exit 0,⟨[(0,.sl D 0 len),(2,A_ m),(4,F),(10,A_ k)],⟨hp ys,N⟩⟩)∧k<=m∧m+k<=len∧ys.length=len∧swpR ys (m-k) m k 0=rot m f xs i j:=by
 intro f
 induction f with
 |zero=>intro i j xs h h1 h2;omega
 |succ f ih =>
  intro i j xs h h1 h2 h3 h4 hx;rw[ah Ey];by_cases e:i=j
  .subst e;refine⟨i,xs,?_,h3,h4,hx,?_⟩
   .simp(maxSteps:=9^6)(disch:=omega)[↓ac,↓aa]
   .rw[rot,ac rfl]
  .by_cases e2:j<i
   .obtain⟨k,ys,g1,g2,g3,g4,g5⟩:=ih (i-j) j (swpR xs (m-i) m j 0) o_ o_ h2 o_ h4 (by simpa using hx);refine⟨k,ys,?_,g2,g3,g4,?_⟩
    .have hs:=SI H F len hlen (m-i) m j N o_ o_ xs hx;have c1:((m-i:Nat):Int)=(m:Int)-i:=o_;have c2:((i-j:Nat):Int)=(i:Int)-j:=o_;rw[c1]at hs;rw[c2]at g1;simp(maxSteps:=9^6)(disch:=omega)[↓ac,↓aa,hs,hF,hG,g1]
    .rw[rot,aa e,ac e2,g5]
   .obtain⟨k,ys,g1,g2,g3,g4,g5⟩:=ih i (j-i) (swpR xs (m-i) (m+j-i) i 0) o_ h1 o_ h3 o_ (by simpa using hx);refine⟨k,ys,?_,g2,g3,g4,?_⟩
    .have hs:=SI H F len hlen (m-i) (m+j-i) i N o_ o_ xs hx;have c1:((m-i:Nat):Int)=(m:Int)-i:=o_;have c2:((j-i:Nat):Int)=(j:Int)-i:=o_;have c3:((m+j-i:Nat):Int)=(m:Int)+j-i:=o_;rw[c1,c3]at hs;rw[c2]at g1;simp(maxSteps:=9^6)(disch:=omega)[↓ac,↓aa,hs,hF,hG,g1]
    .rw[rot,aa e,aa e2,g5]
theorem aoP (H:Hp hp D)(F:AV)(hF:share F=F)(hG:firm F=F)(len:Nat)(hlen:len<=1000000000)(a m b N:Nat)(h1:a<m)(h2:m<b)(h3:b<=len)(xs:C_)(hx:xs.length=len) :
  (Dn prog).call v6 [.sl D 0 len,A_ a,A_ m,A_ b,F] ⟨hp xs,N⟩=some (.tup [],⟨hp (rot m (b-a) xs (m-a) (b-m)),N⟩):=by
 obtain⟨k,ys,g1,g2,g3,g4,g5⟩:=apo H F hF hG len hlen m N (b-a) (m-a) (b-m) xs o_ o_ o_ o_ o_ hx;have hs:=SI H F len hlen (m-k) m k N o_ o_ ys g4;have c1:((m-k:Nat):Int)=(m:Int)-k:=o_;have c2:((m-a:Nat):Int)=(m:Int)-a:=o_;have c3:((b-m:Nat):Int)=(b:Int)-m:=o_;rw[c1,g5]at hs;rw[c2,c3]at g1;rw[bC HP Hq rfl];simp(maxSteps:=9^6)(disch:=omega)[↓ac,↓aa,hs,hF,hG,g1]
end
structure Cm (hp:C_->ak)(L:Nat)(F:AV)(C:Nat->Nat->Int):Prop where
 sh:share F=F
 fi:firm F=F
 cl:∀xs N x y,x<L->y<L->dD (Dn prog) F [A_ (x:Nat),A_ (y:Nat)] ⟨hp xs,N⟩=some (A_ (C x y),⟨hp xs,N⟩)
abbrev eV (L:Nat)(xs:C_):Prop:=∀x∈xs,x<L
def eV.nth {L:Nat}{xs:C_}(u:eV L xs){i:Nat}(h:i<xs.length):Vm.nth xs i<L:=u _ (iL h)
def eV.swp {L:Nat}{xs:C_}(u:eV L xs){i j:Nat}(hi:i<xs.length)(hj:j<xs.length):eV L (swp xs i j):=by
 intro x hx;rcases fI hx with h|h
 .rcases fI h with h|h
  .exact u x h
  .exact h▸u.nth hj
 .exact h▸u.nth hi
def eV.swpR {L a b:Nat}:∀{k i:Nat}{xs:C_},eV L xs->a+i+k<=xs.length->b+i+k<=xs.length->eV L (swpR xs a b k i)
 |0,_,_,u,_,_=>u
 |k+1,i,xs,u,h1,h2=>by
  rw[Vm.swpR];exact eV.swpR (u.swp o_ o_) (by rw[yD];omega) (by rw[yD];omega)
def eV.rot {L m:Nat}:∀{f i j:Nat}{xs:C_},eV L xs->i<=m->m+j<=xs.length->eV L (rot m f xs i j)
 |0,_,_,_,u,_,_=>u
 |f+1,i,j,xs,u,h1,h2=>by
  rw[Vm.rot];split
  .exact u.swpR o_ (by omega)
  .split
   .exact(u.swpR o_ o_).rot o_ (by rw[E8];omega)
   .exact(u.swpR o_ o_).rot o_ (by rw[E8];omega)
def insJ (C:Nat->Nat->Int)(a:Nat):Nat->C_->C_
 |0,xs=>xs
 |j+1,xs=>if a<=j∧C (nth xs (j+1)) (nth xs j)<0 then insJ C a j (swp xs (j+1) j) else xs
def insO (C:Nat->Nat->Int)(a:Nat):Nat->Nat->C_->C_
 |0,_,xs=>xs
 |k+1,i,xs=>insO C a k (i+1) (insJ C a i xs)
section
variable {C:Nat->Nat->Int}{a:Nat}
theorem Pm:∀{j:Nat}{xs:C_},(insJ C a j xs).length=xs.length
 |0,_=>rfl
 |j+1,xs=>by
  rw[insJ];split
  .rw[Pm,yD]
  .rfl
theorem W0:∀{k i:Nat}{xs:C_},(insO C a k i xs).length=xs.length
 |0,_,_=>rfl
 |k+1,i,xs=>by rw[insO,W0,Pm]
theorem eV.insJ {L:Nat}:∀{j:Nat}{xs:C_},eV L xs->j<xs.length->eV L (insJ C a j xs)
 |0,_,u,_=>u
 |j+1,xs,u,h=>by
  rw[Vm.insJ];split
  .exact(u.swp h o_).insJ (by rw[yD];omega)
  .exact u
theorem eV.insO {L:Nat}:∀{k i:Nat}{xs:C_},eV L xs->i+k<=xs.length->eV L (insO C a k i xs)
 |0,_,_,u,_=>u
 |k+1,i,xs,u,h=>by
  rw[Vm.insO];exact(u.insJ o_).insO (by rw[Pm];omega)
end
section
variable {hp:C_->ak}{D L:Nat}{F:AV}{C:Nat->Nat->Int}
theorem ao0 (H:Hp hp D)(K:Cm hp L F C)(len:Nat)(hlen:len<=1000000000)(a b I N:Nat):∀(j:Nat) (xs:C_),j<len->xs.length=len->eV L xs->
  (Dn prog).code (.loop fA) ⟨[(0,.sl D 0 len),(1,A_ a),(2,A_ b),(3,F),(8,A_ I),(9,A_ j)],⟨hp xs,N⟩⟩ =
  some (.exit 2,⟨[(0,.sl D 0 len),(1,A_ a),(2,A_ b),(3,F),(8,A_ I)],⟨hp (insJ C a j xs),N⟩⟩):=by
 intro j
 induction j with
 |zero =>
  intro xs hj hx u;rw[ah mI];simp(maxSteps:=9^6)(disch:=omega)[↓ac,↓aa,insJ,K.sh,K.fi]
 |succ j ih =>
  intro xs hj hx u;rw[ah mI];have c1:((j+1:Nat):Int)=(j:Int)+1:=rfl;by_cases h1:a<=j
  .have hc:=K.cl xs N _ _ (u.nth (i:=j+1) o_) (u.nth (i:=j) o_);have l1:=lS (as:=xs) (i:=j+1) (a:=nth xs j);by_cases h2:C (nth xs (j+1)) (nth xs j)<0
   .have h:=ih (swp xs (j+1) j) o_ (by simpa using hx) (u.swp o_ o_);rw[insJ,ac ⟨h1,h2⟩,<-h];simp(maxSteps:=9^6)(disch:=omega)[↓ac,↓aa,K.sh,K.fi,H.get,H.put,hc,c1];rfl
   .rw[insJ,aa (λh=>h2 h.2)];simp(maxSteps:=9^6)(disch:=omega)[↓ac,↓aa,K.sh,K.fi,H.get,H.put,hc,c1]
  .rw[insJ,aa (λh=>h1 h.1)];simp(maxSteps:=9^6)(disch:=omega)[↓ac,↓aa,K.sh,K.fi,c1]
theorem amZ (H:Hp hp D)(K:Cm hp L F C)(len:Nat)(hlen:len<=1000000000)(a b N:Nat)(hb:b<=len):∀(k i:Nat) (xs:C_),i+k=b->xs.length=len->eV L xs->
  (Dn prog).code (.loop fq) ⟨[(0,.sl D 0 len),(1,A_ a),(2,A_ b),(3,F),(8,A_ i)],⟨hp xs,N⟩⟩ =
  some (.exit 0,⟨[],⟨hp (insO C a k i xs),N⟩⟩):=by
 intro k
 induction k with
 |zero =>
  intro i xs hi hx u;rw[ah mN];simp(maxSteps:=9^6)(disch:=omega)[↓ac,↓aa,insO,K.sh,K.fi]
 |succ k ih =>
  intro i xs hi hx u;rw[ah mN];have h0:=ao0 H K len hlen a b i N i xs o_ hx u;have h:=ih (i+1) (insJ C a i xs) o_ (by rw[Pm];exact hx) (u.insJ o_);have c1:((i+1:Nat):Int)=(i:Int)+1:=rfl;rw[c1]at h;rw[insO,<-h];simp(maxSteps:=9^6)(disch:=omega)[↓ac,↓aa,K.sh,K.fi,h0]
theorem QS (H:Hp hp D)(K:Cm hp L F C)(len:Nat)(hlen:len<=1000000000)(a b N:Nat)(hab:a<b)(hb:b<=len)(xs:C_)(hx:xs.length=len)(u:eV L xs) :
  (Dn prog).call oL [.sl D 0 len,A_ a,A_ b,F] ⟨hp xs,N⟩=some (.tup [],⟨hp (insO C a (b-(a+1)) (a+1) xs),N⟩):=by
 rw[bC Bj Bo rfl];have h:=amZ H K len hlen a b N hb (b-(a+1)) (a+1) xs o_ hx u;have c1:((a+1:Nat):Int)=(a:Int)+1:=rfl;rw[c1]at h;simp(maxSteps:=9^6)(disch:=omega)[↓ac,↓aa,K.sh,K.fi,h]
end
abbrev rL:=@Int.fdiv_eq_ediv_of_nonneg
abbrev dz:=@Nat.add_sub_cancel
def Ms (C:Nat->Nat->Int)(xs:C_)(a:Nat):Nat->Nat->Nat->Nat
 |0,i,_=>i
 |f+1,i,j=>if i<j then (if C (nth xs ((i+j) / 2)) (nth xs a)<0 then Ms C xs a f ((i+j) / 2+1) j else Ms C xs a f i ((i+j) / 2)) else i
def Mg (C:Nat->Nat->Int)(xs:C_)(m:Nat):Nat->Nat->Nat->Nat
 |0,i,_=>i
 |f+1,i,j=>if i<j then (if C (nth xs m) (nth xs ((i+j) / 2))<0 then Mg C xs m f i ((i+j) / 2) else Mg C xs m f ((i+j) / 2+1) j) else i
def tM (C:Nat->Nat->Int)(xs:C_)(p:Nat):Nat->Nat->Nat->Nat
 |0,i,_=>i
 |f+1,i,j=>if i<j then (if C (nth xs (p-(i+j) / 2)) (nth xs ((i+j) / 2))<0 then tM C xs p f i ((i+j) / 2) else tM C xs p f ((i+j) / 2+1) j) else i
def shU:Nat->Nat->C_->C_
 |0,_,xs=>xs
 |n+1,k,xs=>shU n (k+1) (swp xs k (k+1))
def shD:Nat->Nat->C_->C_
 |0,_,xs=>xs
 |n+1,k,xs=>shD n (k-1) (swp xs k (k-1))
def Wl {i j:Nat}:((i:Int)+j).fdiv 2=(((i+j) / 2:Nat):Int):=by
 rw[rL _ o_];omega
section
variable {hp:C_->ak}{D L:Nat}{F:AV}{C:Nat->Nat->Int}
theorem aiM (H:Hp hp D)(K:Cm hp L F C)(len:Nat)(hlen:len<=1000000000)(a N:Nat)(ha:a<len)(xs:C_)(hx:xs.length=len)(u:eV L xs):∀(f i j:Nat),j-i<=f->i<=j->j<=len->
  (Dn prog).code (.loop gF) ⟨[(0,.sl D 0 len),(1,A_ a),(4,F),(10,A_ i),(11,A_ j)],⟨hp xs,N⟩⟩ =
  some (.exit 0,⟨[(0,.sl D 0 len),(1,A_ a),(10,A_ (Ms C xs a f i j:Nat))],⟨hp xs,N⟩⟩):=by
 intro f
 induction f with
 |zero =>
  intro i j h1 h2 h3;rw[ah qB];simp(maxSteps:=9^6)(disch:=omega)[↓ac,↓aa,Ms,K.sh,K.fi]
 |succ f ih =>
  intro i j h1 h2 h3;rw[ah qB];by_cases h:i<j
  .have hf:=Wl (i:=i) (j:=j);rw[Ms,ac h];have q1:i<=(i+j) / 2∧(i+j) / 2<j:=o_;generalize (i+j) / 2=q at *;have hc:=K.cl xs N _ _ (u.nth (i:=q) o_) (u.nth (i:=a) o_);by_cases g:C (nth xs q) (nth xs a)<0
   .have h5:=ih (q+1) j o_ o_ h3;rw[ac g,<-h5];simp(maxSteps:=9^6)(disch:=omega)[↓ac,↓aa,K.sh,K.fi,H.get,H.put,hc,hf]
   .have h5:=ih i q o_ o_ o_;rw[aa g,<-h5];simp(maxSteps:=9^6)(disch:=omega)[↓ac,↓aa,K.sh,K.fi,H.get,H.put,hc,hf]
  .rw[Ms,aa h];simp(maxSteps:=9^6)(disch:=omega)[↓ac,↓aa,K.sh,K.fi]
theorem ah5 (H:Hp hp D)(len:Nat)(hlen:len<=1000000000)(I N:Nat)(hI:I<=len):∀(n k:Nat) (xs:C_),k+n=I-1->xs.length=len->
  (Dn prog).code (.loop gB) ⟨[(0,.sl D 0 len),(10,A_ I),(13,A_ k)],⟨hp xs,N⟩⟩=some (.exit 2,⟨[],⟨hp (shU n k xs),N⟩⟩):=by
 intro n
 induction n with
 |zero =>
  intro k xs h hx;rw[ah qy];simp(maxSteps:=9^6)(disch:=omega)[↓ac,↓aa,shU]
 |succ n ih =>
  intro k xs h hx;rw[ah qy];have l1:=lS (as:=xs) (i:=k) (a:=nth xs (k+1));have h5:=ih (k+1) (swp xs k (k+1)) o_ (by simpa using hx);rw[shU,<-h5];simp(maxSteps:=9^6)(disch:=omega)[↓ac,↓aa,H.get,H.put];rfl
theorem aip (H:Hp hp D)(K:Cm hp L F C)(len:Nat)(hlen:len<=1000000000)(m N:Nat)(ha:m<len)(xs:C_)(hx:xs.length=len)(u:eV L xs):∀(f i j:Nat),j-i<=f->i<=j->j<=len->
  (Dn prog).code (.loop gz) ⟨[(0,.sl D 0 len),(2,A_ m),(4,F),(14,A_ i),(15,A_ j)],⟨hp xs,N⟩⟩ =
  some (.exit 4,⟨[(0,.sl D 0 len),(2,A_ m),(14,A_ (Mg C xs m f i j:Nat))],⟨hp xs,N⟩⟩):=by
 intro f
 induction f with
 |zero =>
  intro i j h1 h2 h3;rw[ah qp];simp(maxSteps:=9^6)(disch:=omega)[↓ac,↓aa,Mg,K.sh,K.fi]
 |succ f ih =>
  intro i j h1 h2 h3;rw[ah qp];by_cases h:i<j
  .have hf:=Wl (i:=i) (j:=j);rw[Mg,ac h];have q1:i<=(i+j) / 2∧(i+j) / 2<j:=o_;generalize (i+j) / 2=q at *;have hc:=K.cl xs N _ _ (u.nth (i:=m) o_) (u.nth (i:=q) o_);by_cases g:C (nth xs m) (nth xs q)<0
   .have h5:=ih i q o_ o_ o_;rw[ac g,<-h5];simp(maxSteps:=9^6)(disch:=omega)[↓ac,↓aa,K.sh,K.fi,H.get,H.put,hc,hf]
   .have h5:=ih (q+1) j o_ o_ h3;rw[aa g,<-h5];simp(maxSteps:=9^6)(disch:=omega)[↓ac,↓aa,K.sh,K.fi,H.get,H.put,hc,hf]
  .rw[Mg,aa h];simp(maxSteps:=9^6)(disch:=omega)[↓ac,↓aa,K.sh,K.fi]
theorem ahD (H:Hp hp D)(len:Nat)(hlen:len<=1000000000)(I N:Nat):∀(n k:Nat) (xs:C_),I+n=k->k<len->xs.length=len->
  (Dn prog).code (.loop gI) ⟨[(0,.sl D 0 len),(14,A_ I),(17,A_ k)],⟨hp xs,N⟩⟩=some (.exit 6,⟨[],⟨hp (shD n k xs),N⟩⟩):=by
 intro n
 induction n with
 |zero =>
  intro k xs h hk hx;rw[ah qr];simp(maxSteps:=9^6)(disch:=omega)[↓ac,↓aa,shD]
 |succ n ih =>
  intro k xs h hk hx;obtain⟨q,rfl⟩:∃q,k=q+1:=⟨k-1,o_⟩
  rw[ah qr];have l1:=lS (as:=xs) (i:=q+1) (a:=nth xs q);have h5:=ih q (swp xs (q+1) q) o_ o_ (by simpa using hx);rw[shD,dz,<-h5];simp(maxSteps:=9^6)(disch:=omega)[↓ac,↓aa,H.get,H.put];rfl
theorem Gm (H:Hp hp D)(K:Cm hp L F C)(len:Nat)(hlen:len<=1000000000)(a m b M n p N:Nat)(xs:C_)(hx:xs.length=len)(u:eV L xs):∀(f i j:Nat),j-i<=f->i<=j->j<=len->j<=p+1->p<len+i->
  (Dn prog).code (.loop gC) ⟨[(0,.sl D 0 len),(1,A_ a),(2,A_ m),(3,A_ b),(4,F),(18,A_ M),(19,A_ n),(20,A_ i),(21,A_ j),(22,A_ p)],⟨hp xs,N⟩⟩ =
  some (.exit 8,⟨[(0,.sl D 0 len),(1,A_ a),(2,A_ m),(3,A_ b),(4,F),(18,A_ M),(19,A_ n),(20,A_ (tM C xs p f i j:Nat))],⟨hp xs,N⟩⟩):=by
 intro f
 induction f with
 |zero =>
  intro i j h1 h2 h3 h4 h5;rw[ah qn];simp(maxSteps:=9^6)(disch:=omega)[↓ac,↓aa,tM,K.sh,K.fi]
 |succ f ih =>
  intro i j h1 h2 h3 h4 h5;rw[ah qn];by_cases h:i<j
  .have hf:=Wl (i:=i) (j:=j);rw[tM,ac h];have q1:i<=(i+j) / 2∧(i+j) / 2<j:=o_;generalize (i+j) / 2=q at *;have hp1:p-q<len:=o_;have hpq:((p:Int)-q)=((p-q:Nat):Int):=o_;generalize p-q=r at *;have hc:=K.cl xs N _ _ (u.nth (i:=r) o_) (u.nth (i:=q) o_);by_cases g:C (nth xs r) (nth xs q)<0
   .have h6:=ih i q o_ o_ o_ o_ o_;rw[ac g,<-h6];simp(maxSteps:=9^6)(disch:=omega)[↓ac,↓aa,K.sh,K.fi,H.get,H.put,hc,hf,hpq]
   .have h6:=ih (q+1) j o_ o_ h3 o_ o_;rw[aa g,<-h6];simp(maxSteps:=9^6)(disch:=omega)[↓ac,↓aa,K.sh,K.fi,H.get,H.put,hc,hf,hpq]
  .rw[tM,aa h];simp(maxSteps:=9^6)(disch:=omega)[↓ac,↓aa,K.sh,K.fi]
end
def symM (C:Nat->Nat->Int):Nat->C_->Nat->Nat->Nat->C_
 |0,xs,_,_,_=>xs
 |f+1,xs,a,m,b =>
  if m-a=1 then shU (Ms C xs a (b-m) m b-1-a) a xs
  else if b-m=1 then shD (m-Mg C xs m (m-a) a m) m xs
  else
   let s:=if (a+b) / 2<m then tM C xs ((a+b) / 2+m-1) (b-a) ((a+b) / 2+m-b) ((a+b) / 2) else tM C xs ((a+b) / 2+m-1) (b-a) a m
   let e:=(a+b) / 2+m-s
   let ys:=if s<m∧m<e then rot m (e-s) xs (m-s) (e-m) else xs
   let zs:=if a<s∧s<(a+b) / 2 then symM C f ys a s ((a+b) / 2) else ys
   if (a+b) / 2<e∧e<b then symM C f zs ((a+b) / 2) e b else zs
def Yf {C:Nat->Nat->Int}{xs:C_}{a:Nat}:∀{f i j:Nat},i<=j->i<=Ms C xs a f i j∧Ms C xs a f i j<=j
 |0,i,j,h=>⟨ai _,h⟩
 |f+1,i,j,h=>by
  rw[Ms];split
  .split
   .have:=Yf (C:=C) (xs:=xs) (a:=a) (f:=f) (i:=(i+j) / 2+1) (j:=j) o_;omega
   .have:=Yf (C:=C) (xs:=xs) (a:=a) (f:=f) (i:=i) (j:=(i+j) / 2) o_;omega
  .exact⟨ai _,h⟩
def afo {C:Nat->Nat->Int}{xs:C_}{m:Nat}:∀{f i j:Nat},i<=j->i<=Mg C xs m f i j∧Mg C xs m f i j<=j
 |0,i,j,h=>⟨ai _,h⟩
 |f+1,i,j,h=>by
  rw[Mg];split
  .split
   .have:=afo (C:=C) (xs:=xs) (m:=m) (f:=f) (i:=i) (j:=(i+j) / 2) o_;omega
   .have:=afo (C:=C) (xs:=xs) (m:=m) (f:=f) (i:=(i+j) / 2+1) (j:=j) o_;omega
  .exact⟨ai _,h⟩
theorem JN {C:Nat->Nat->Int}{xs:C_}{p:Nat}:∀{f i j:Nat},i<=j->i<=tM C xs p f i j∧tM C xs p f i j<=j
 |0,i,j,h=>⟨ai _,h⟩
 |f+1,i,j,h=>by
  rw[tM];split
  .split
   .have:=JN (C:=C) (xs:=xs) (p:=p) (f:=f) (i:=i) (j:=(i+j) / 2) o_;omega
   .have:=JN (C:=C) (xs:=xs) (p:=p) (f:=f) (i:=(i+j) / 2+1) (j:=j) o_;omega
  .exact⟨ai _,h⟩
def aj8:∀{n k:Nat}{xs:C_},(shU n k xs).length=xs.length
 |0,_,_=>rfl
 |n+1,k,xs=>by rw[shU,aj8,yD]
def ai2:∀{n k:Nat}{xs:C_},(shD n k xs).length=xs.length
 |0,_,_=>rfl
 |n+1,k,xs=>by rw[shD,ai2,yD]
def eV.shU {L:Nat}:∀{n k:Nat}{xs:C_},eV L xs->k+n<xs.length->eV L (shU n k xs)
 |0,_,_,u,_=>u
 |n+1,k,xs,u,h=>by rw[Vm.shU];exact(u.swp o_ o_).shU (by rw[yD];omega)
def eV.shD {L:Nat}:∀{n k:Nat}{xs:C_},eV L xs->k<xs.length->eV L (shD n k xs)
 |0,_,_,u,_=>u
 |n+1,k,xs,u,h=>by rw[Vm.shD];exact(u.swp o_ o_).shD (by rw[yD];omega)
theorem Cd {C:Nat->Nat->Int}:∀{f:Nat}{xs:C_}{a m b:Nat},(symM C f xs a m b).length=xs.length
 |0,_,_,_,_=>rfl
 |f+1,xs,a,m,b=>by
  rw[symM];split
  .exact aj8
  .split
   .exact ai2
   .simp only
    repeat' split
    all_goals simp only[Cd,IK]
def eV.symM {L:Nat}{C:Nat->Nat->Int}:∀{f:Nat}{xs:C_}{a m b:Nat},eV L xs->a<m->m<b->b<=xs.length->eV L (symM C f xs a m b)
 |0,_,_,_,_,u,_,_,_=>u
 |f+1,xs,a,m,b,u,h1,h2,h3=>by
  rw[Go.Vm.symM];split
  .have:=Yf (C:=C) (xs:=xs) (a:=a) (f:=b-m) (i:=m) (j:=b) o_;exact u.shU (by omega)
  .split
   .exact u.shD (by omega)
   .simp only;generalize hs:(if (a+b) / 2<m then tM C xs ((a+b) / 2+m-1) (b-a) ((a+b) / 2+m-b) ((a+b) / 2) else tM C xs ((a+b) / 2+m-1) (b-a) a m)=s;have s1:s<=m∧s<=(a+b) / 2+m∧a<=s+1∧(a+b) / 2+m-s<=b:=by
     grind [JN]
    generalize hys:(if s<m∧m<(a+b) / 2+m-s then Go.Vm.rot m ((a+b) / 2+m-s-s) xs (m-s) ((a+b) / 2+m-s-m) else xs)=ys;have uy:eV L ys∧ys.length=xs.length:=by
     subst hys;split
     .exact⟨u.rot o_ o_,IK⟩
     grind
    generalize hzs:(if a<s∧s<(a+b) / 2 then Go.Vm.symM C f ys a s ((a+b) / 2) else ys)=zs;have uz:eV L zs∧zs.length=xs.length:=by
     subst hzs;split
     .exact⟨uy.1.symM o_ o_ o_,by grind [Cd]⟩
     omega
    split
    .exact uz.1.symM o_ o_ (by omega)
    grind
section
variable {hp:C_->ak}{D L:Nat}{F:AV}{C:Nat->Nat->Int}
theorem aiE (H:Hp hp D)(K:Cm hp L F C)(len:Nat)(hlen:len<=1000000000)(N f:Nat)(ih:∀(a m b:Nat) (xs:C_),b-a<=f->a<m->m<b->b<=len->xs.length=len->eV L xs->
  (Dn prog).call cP [.sl D 0 len,A_ a,A_ m,A_ b,F] ⟨hp xs,N⟩=some (.tup [],⟨hp (symM C f xs a m b),N⟩))
  (a m b:Nat)(xs:C_)(h1:b-a<=f+1)(h2:a<m)(h3:m<b)(h4:b<=len)(hx:xs.length=len)(u:eV L xs)(c1:¬m-a=1)(c2:¬b-m=1)(c3:(a+b) / 2<m)(d1:(tM C xs ((a+b) / 2+m-1) (b-a) ((a+b) / 2+m-b) ((a+b) / 2)<m∧m<(a+b) / 2+m-tM C xs ((a+b) / 2+m-1) (b-a) ((a+b) / 2+m-b) ((a+b) / 2))) :
  (Dn prog).call cP [.sl D 0 len,A_ a,A_ m,A_ b,F] ⟨hp xs,N⟩=some (.tup [],⟨hp (symM C (f+1) xs a m b),N⟩):=by
 rw[bC eE eG rfl,symM,aa c1,aa c2];simp only;have hf:=Wl (i:=a) (j:=b);have q1:a<(a+b) / 2∧(a+b) / 2<b∧(a+b) / 2*2<=a+b∧a+b<=(a+b) / 2*2+1:=o_;rw[ac c3];generalize (a+b) / 2=M at *;have cn:((M+m:Nat):Int)=(M:Int)+m:=rfl;have cp:((M+m-1:Nat):Int)=(M:Int)+m-1:=o_;have s1:=JN (C:=C) (xs:=xs) (p:=M+m-1) (f:=b-a) (i:=M+m-b) (j:=M) o_;have g4:=Gm H K len hlen a m b M (M+m) (M+m-1) N xs hx u (b-a) (M+m-b) M o_ o_ o_ o_ o_;have ci:((M+m-b:Nat):Int)=(M:Int)+m-b:=o_;rw[cn,cp,ci]at g4;generalize tM C xs (M+m-1) (b-a) (M+m-b) M=s at *;have ce:((M+m-s:Nat):Int)=(M:Int)+m-s:=o_;rw[ac d1];have hr:=aoP H F K.sh K.fi len hlen s m (M+m-s) N d1.1 d1.2 o_ xs hx;have uy:eV L (rot m (M+m-s-s) xs (m-s) (M+m-s-m)):=u.rot o_ o_;have ly:(rot m (M+m-s-s) xs (m-s) (M+m-s-m)).length=len:=by grind [IK]
 generalize rot m (M+m-s-s) xs (m-s) (M+m-s-m)=ys at *;rw[ce]at hr;by_cases d2:a<s∧s<M
 .rw[ac d2];have h6:=ih a s M ys o_ d2.1 d2.2 o_ ly uy;have uz:eV L (symM C f ys a s M):=uy.symM d2.1 d2.2 o_;have lz:(symM C f ys a s M).length=len:=by grind [Cd]
  generalize symM C f ys a s M=zs at *;by_cases d3:M<M+m-s∧M+m-s<b
  .rw[ac d3];have h7:=ih M (M+m-s) b zs o_ d3.1 d3.2 h4 lz uz;rw[ce]at h7
   first
    |(exfalso;omega)
    |simp(disch:=omega)[↓ac,↓aa,K.sh,K.fi,hf,g4,hr,h6,h7]
  .rw[aa d3];have h7:True:=trivial
   first
    |(exfalso;omega)
    |simp(disch:=omega)[↓ac,↓aa,K.sh,K.fi,hf,g4,hr,h6]
 .rw[aa d2];have uz:=uy;have lz:=ly;have h6:True:=trivial;by_cases d3:M<M+m-s∧M+m-s<b
  .rw[ac d3];have h7:=ih M (M+m-s) b ys o_ d3.1 d3.2 h4 lz uz
   first
    |omega
    |simp(disch:=omega)[↓ac,↓aa,K.sh,K.fi,hf,g4,hr,h6,h7]
  .first
    |(omega)
    |simp(disch:=omega)[↓ac,↓aa,K.sh,K.fi,hf,g4,hr]
theorem aih (H:Hp hp D)(K:Cm hp L F C)(len:Nat)(hlen:len<=1000000000)(N f:Nat)(ih:∀(a m b:Nat) (xs:C_),b-a<=f->a<m->m<b->b<=len->xs.length=len->eV L xs->
  (Dn prog).call cP [.sl D 0 len,A_ a,A_ m,A_ b,F] ⟨hp xs,N⟩=some (.tup [],⟨hp (symM C f xs a m b),N⟩))
  (a m b:Nat)(xs:C_)(h1:b-a<=f+1)(h2:a<m)(h3:m<b)(h4:b<=len)(hx:xs.length=len)(u:eV L xs)(c1:¬m-a=1)(c2:¬b-m=1)(c3:(a+b) / 2<m)(d1:¬(tM C xs ((a+b) / 2+m-1) (b-a) ((a+b) / 2+m-b) ((a+b) / 2)<m∧m<(a+b) / 2+m-tM C xs ((a+b) / 2+m-1) (b-a) ((a+b) / 2+m-b) ((a+b) / 2))) :
  (Dn prog).call cP [.sl D 0 len,A_ a,A_ m,A_ b,F] ⟨hp xs,N⟩=some (.tup [],⟨hp (symM C (f+1) xs a m b),N⟩):=by
 rw[bC eE eG rfl,symM,aa c1,aa c2];simp only;have hf:=Wl (i:=a) (j:=b);have q1:a<(a+b) / 2∧(a+b) / 2<b∧(a+b) / 2*2<=a+b∧a+b<=(a+b) / 2*2+1:=o_;rw[ac c3];generalize (a+b) / 2=M at *;have cn:((M+m:Nat):Int)=(M:Int)+m:=rfl;have cp:((M+m-1:Nat):Int)=(M:Int)+m-1:=o_;have s1:=JN (C:=C) (xs:=xs) (p:=M+m-1) (f:=b-a) (i:=M+m-b) (j:=M) o_;have g4:=Gm H K len hlen a m b M (M+m) (M+m-1) N xs hx u (b-a) (M+m-b) M o_ o_ o_ o_ o_;have ci:((M+m-b:Nat):Int)=(M:Int)+m-b:=o_;rw[cn,cp,ci]at g4;generalize tM C xs (M+m-1) (b-a) (M+m-b) M=s at *;have ce:((M+m-s:Nat):Int)=(M:Int)+m-s:=o_;rw[aa d1];have uy:=u;have ly:=hx;have hr:True:=trivial;by_cases d2:a<s∧s<M
 .rw[ac d2];have h6:=ih a s M xs o_ d2.1 d2.2 o_ ly uy;have uz:eV L (symM C f xs a s M):=uy.symM d2.1 d2.2 o_;have lz:(symM C f xs a s M).length=len:=o_;generalize symM C f xs a s M=zs at *;by_cases d3:M<M+m-s∧M+m-s<b
  .rw[ac d3];have h7:=ih M (M+m-s) b zs o_ d3.1 d3.2 h4 lz uz;rw[ce]at h7
   first
    |omega
    |simp(disch:=omega)[↓ac,↓aa,K.sh,K.fi,hf,g4,hr,h6,h7]
  .rw[aa d3];have h7:True:=trivial
   first
    |omega
    |simp(disch:=omega)[↓ac,↓aa,K.sh,K.fi,hf,g4,hr,h6,h7]
 .rw[aa d2];have uz:=uy;have lz:=ly;by_cases d3:M<M+m-s∧M+m-s<b
  .have h7:=ih M (M+m-s) b xs o_ d3.1 d3.2 h4 lz uz;rw[ce]at h7
   first
    |(omega)
    |simp(disch:=omega)[↓ac,↓aa,K.fi,hf,g4,h7]
  .first
    |omega
    |simp(disch:=omega)[↓ac,↓aa,K.sh,K.fi,hf,g4,hr,h6,h7]
theorem ah2 (H:Hp hp D)(K:Cm hp L F C)(len:Nat)(hlen:len<=1000000000)(N f:Nat)(ih:∀(a m b:Nat) (xs:C_),b-a<=f->a<m->m<b->b<=len->xs.length=len->eV L xs->
  (Dn prog).call cP [.sl D 0 len,A_ a,A_ m,A_ b,F] ⟨hp xs,N⟩=some (.tup [],⟨hp (symM C f xs a m b),N⟩))
  (a m b:Nat)(xs:C_)(h1:b-a<=f+1)(h2:a<m)(h3:m<b)(h4:b<=len)(hx:xs.length=len)(u:eV L xs)(c1:¬m-a=1)(c2:¬b-m=1)(c3:¬(a+b) / 2<m)(d1:(tM C xs ((a+b) / 2+m-1) (b-a) a m<m∧m<(a+b) / 2+m-tM C xs ((a+b) / 2+m-1) (b-a) a m)) :
  (Dn prog).call cP [.sl D 0 len,A_ a,A_ m,A_ b,F] ⟨hp xs,N⟩=some (.tup [],⟨hp (symM C (f+1) xs a m b),N⟩):=by
 rw[bC eE eG rfl,symM,aa c1,aa c2];simp only;have hf:=Wl (i:=a) (j:=b);have q1:a<(a+b) / 2∧(a+b) / 2<b∧(a+b) / 2*2<=a+b∧a+b<=(a+b) / 2*2+1:=o_;rw[aa c3];generalize (a+b) / 2=M at *;have cn:((M+m:Nat):Int)=(M:Int)+m:=rfl;have cp:((M+m-1:Nat):Int)=(M:Int)+m-1:=o_;have s1:=JN (C:=C) (xs:=xs) (p:=M+m-1) (f:=b-a) (i:=a) (j:=m) o_;have g4:=Gm H K len hlen a m b M (M+m) (M+m-1) N xs hx u (b-a) a m o_ o_ o_ o_ o_;rw[cn,cp]at g4;generalize tM C xs (M+m-1) (b-a) a m=s at *;have ce:((M+m-s:Nat):Int)=(M:Int)+m-s:=o_;rw[ac d1];have hr:=aoP H F K.sh K.fi len hlen s m (M+m-s) N d1.1 d1.2 o_ xs hx;have uy:eV L (rot m (M+m-s-s) xs (m-s) (M+m-s-m)):=u.rot o_ o_;have ly:(rot m (M+m-s-s) xs (m-s) (M+m-s-m)).length=len:=by grind [IK]
 generalize rot m (M+m-s-s) xs (m-s) (M+m-s-m)=ys at *;rw[ce]at hr;by_cases d2:a<s∧s<M
 .rw[ac d2];have h6:=ih a s M ys o_ d2.1 d2.2 o_ ly uy;have uz:eV L (symM C f ys a s M):=uy.symM d2.1 d2.2 o_;have lz:(symM C f ys a s M).length=len:=by grind [Cd]
  generalize symM C f ys a s M=zs at *;by_cases d3:M<M+m-s∧M+m-s<b
  .rw[ac d3];have h7:=ih M (M+m-s) b zs o_ d3.1 d3.2 h4 lz uz;rw[ce]at h7
   first
    |(exfalso;omega)
    |simp(disch:=omega)[↓ac,↓aa,K.sh,K.fi,hf,g4,hr,h6,h7]
  .rw[aa d3];have h7:True:=trivial
   first
    |omega
    |simp(disch:=omega)[↓ac,↓aa,K.sh,K.fi,hf,g4,hr,h6,h7]
 .rw[aa d2];have uz:=uy;have lz:=ly;have h6:True:=trivial;by_cases d3:M<M+m-s∧M+m-s<b
  .rw[ac d3];have h7:=ih M (M+m-s) b ys o_ d3.1 d3.2 h4 lz uz;rw[ce]at h7
   first
    |(omega)
    |simp(disch:=omega)[↓ac,↓aa,K.sh,K.fi,hf,g4,hr,h7]
  .first
    |(omega)
    |simp(disch:=omega)[↓ac,↓aa,K.sh,K.fi,hf,g4,hr]
theorem ahw (H:Hp hp D)(K:Cm hp L F C)(len:Nat)(hlen:len<=1000000000)(N f:Nat)(ih:∀(a m b:Nat) (xs:C_),b-a<=f->a<m->m<b->b<=len->xs.length=len->eV L xs->
  (Dn prog).call cP [.sl D 0 len,A_ a,A_ m,A_ b,F] ⟨hp xs,N⟩=some (.tup [],⟨hp (symM C f xs a m b),N⟩))
  (a m b:Nat)(xs:C_)(h1:b-a<=f+1)(h2:a<m)(h3:m<b)(h4:b<=len)(hx:xs.length=len)(u:eV L xs)(c1:¬m-a=1)(c2:¬b-m=1)(c3:¬(a+b) / 2<m)(d1:¬(tM C xs ((a+b) / 2+m-1) (b-a) a m<m∧m<(a+b) / 2+m-tM C xs ((a+b) / 2+m-1) (b-a) a m)) :
  (Dn prog).call cP [.sl D 0 len,A_ a,A_ m,A_ b,F] ⟨hp xs,N⟩=some (.tup [],⟨hp (symM C (f+1) xs a m b),N⟩):=by
 rw[bC eE eG rfl,symM,aa c1,aa c2];simp only;have hf:=Wl (i:=a) (j:=b);have q1:a<(a+b) / 2∧(a+b) / 2<b∧(a+b) / 2*2<=a+b∧a+b<=(a+b) / 2*2+1:=o_;rw[aa c3];generalize (a+b) / 2=M at *;have cn:((M+m:Nat):Int)=(M:Int)+m:=rfl;have cp:((M+m-1:Nat):Int)=(M:Int)+m-1:=o_;have s1:=JN (C:=C) (xs:=xs) (p:=M+m-1) (f:=b-a) (i:=a) (j:=m) o_;have g4:=Gm H K len hlen a m b M (M+m) (M+m-1) N xs hx u (b-a) a m o_ o_ o_ o_ o_;rw[cn,cp]at g4;generalize tM C xs (M+m-1) (b-a) a m=s at *;have ce:((M+m-s:Nat):Int)=(M:Int)+m-s:=o_;rw[aa d1];have uy:=u;have ly:=hx;have hr:True:=trivial;by_cases d2:a<s∧s<M
 .rw[ac d2];have h6:=ih a s M xs o_ d2.1 d2.2 o_ ly uy;have uz:eV L (symM C f xs a s M):=uy.symM d2.1 d2.2 o_;have lz:(symM C f xs a s M).length=len:=by grind [Cd]
  generalize symM C f xs a s M=zs at *;by_cases d3:M<M+m-s∧M+m-s<b
  .rw[ac d3];have h7:=ih M (M+m-s) b zs o_ d3.1 d3.2 h4 lz uz;rw[ce]at h7
   first
    |omega
    |simp(disch:=omega)[↓ac,↓aa,K.sh,K.fi,hf,g4,hr,h6,h7]
  .rw[aa d3];have h7:True:=trivial
   first
    |(exfalso;omega)
    |simp(disch:=omega)[↓ac,↓aa,K.sh,K.fi,hf,g4,h6]
 .rw[aa d2];have uz:=uy;have lz:=ly;have h6:True:=trivial;by_cases d3:M<M+m-s∧M+m-s<b
  .first
    |omega
    |simp(disch:=omega)[↓ac,↓aa,K.sh,K.fi,hf,g4,hr,h6,h7]
  .first
    |(omega)
    |simp(disch:=omega)[↓ac,↓aa,hf,g4]
theorem afx (H:Hp hp D)(K:Cm hp L F C)(len:Nat)(hlen:len<=1000000000)(N:Nat):∀(f a m b:Nat) (xs:C_),b-a<=f->a<m->m<b->b<=len->xs.length=len->eV L xs->
  (Dn prog).call cP [.sl D 0 len,A_ a,A_ m,A_ b,F] ⟨hp xs,N⟩=some (.tup [],⟨hp (symM C f xs a m b),N⟩):=by
 intro f
 induction f with
 |zero=>omega
 |succ f ih =>
  intro a m b xs h1 h2 h3 h4 hx u;by_cases c1:m-a=1
  .rw[bC eE eG rfl,symM,ac c1];have hb:=Yf (C:=C) (xs:=xs) (a:=a) (f:=b-m) (i:=m) (j:=b) o_;have g0:=aiM H K len hlen a N o_ xs hx u (b-m) m b o_ o_ h4;generalize Ms C xs a (b-m) m b=I at *;have g1:=ah5 H len hlen I N o_ (I-1-a) a xs o_ hx;simp(disch:=omega)[↓ac,g0,g1]
  .by_cases c2:b-m=1
   .rw[bC eE eG rfl,symM,aa c1,ac c2];have hb:=afo (C:=C) (xs:=xs) (m:=m) (f:=m-a) (i:=a) (j:=m) o_;have g0:=aip H K len hlen m N o_ xs hx u (m-a) a m o_ o_ o_;generalize Mg C xs m (m-a) a m=I at *;have g1:=ahD H len hlen I N (m-I) m xs o_ o_ hx;simp(disch:=omega)[↓ac,↓aa,g0,g1]
   grind [aiE,aih,ah2,ahw]
end
def Ld (C:Nat->Nat->Int)(n:Nat):Nat->C_->Nat->C_×Nat
 |0,xs,a=>(xs,a)
 |f+1,xs,a=>if a+20<=n then Ld C n f (insO C a 19 (a+1) xs) (a+20) else (xs,a)
def Qf (C:Nat->Nat->Int)(n bs:Nat):Nat->C_->Nat->C_×Nat
 |0,xs,a=>(xs,a)
 |f+1,xs,a=>if a+2*bs<=n then Qf C n bs f (symM C (2*bs) xs a (a+bs) (a+2*bs)) (a+2*bs) else (xs,a)
def stE (C:Nat->Nat->Int)(n bs:Nat)(p:C_×Nat):C_:=if p.2+bs<n then symM C (n-p.2) p.1 p.2 (p.2+bs) n else p.1
def Y7 (C:Nat->Nat->Int)(n:Nat):Nat->C_->Nat->C_
 |0,xs,_=>xs
 |f+1,xs,bs=>if bs<n then Y7 C n f (stE C n bs (Qf C n bs n xs 0)) (2*bs) else xs
def stS (C:Nat->Nat->Int)(n:Nat)(p:C_×Nat):C_:=insO C p.2 (n-(p.2+1)) (p.2+1) p.1
def tA (C:Nat->Nat->Int)(n:Nat)(xs:C_):C_:=Y7 C n n (stS C n (Ld C n n xs 0)) 20
section
variable {hp:C_->ak}{D L:Nat}{F:AV}{C:Nat->Nat->Int}
theorem aou (H:Hp hp D)(K:Cm hp L F C)(n:Nat)(hlen:n<=1000000000)(N:Nat):∀(f a:Nat) (xs:C_),n<a+f*20+20->a<=n->xs.length=n->eV L xs->
  (Dn prog).code (.loop il) ⟨[(0,.sl D 0 n),(1,A_ n),(2,F),(6,A_ 20),(7,A_ a),(8,A_ ((a:Int)+20))],⟨hp xs,N⟩⟩ =
  some (.exit 0,⟨[(0,.sl D 0 n),(1,A_ n),(2,F),(6,A_ 20),(7,A_ ((Ld C n f xs a).2))],⟨hp (Ld C n f xs a).1,N⟩⟩)∧
  (Ld C n f xs a).1.length=n∧eV L (Ld C n f xs a).1∧a<=(Ld C n f xs a).2∧(Ld C n f xs a).2<=n∧∃q,(Ld C n f xs a).2=a+20*q:=by
 intro f
 induction f with
 |zero =>
  intro a xs h1 h2 hx u;refine⟨?_,hx,u,ai _,h2,0,rfl⟩;rw[ah sH];simp(maxSteps:=9^6)(disch:=omega)[↓ac,↓aa,Ld,K.sh,K.fi]
 |succ f ih =>
  intro a xs h1 h2 hx u;rw[ah sH,Ld];by_cases h:a+20<=n
  .rw[ac h];have h0:=QS H K n hlen a (a+20) N o_ h xs hx u;rw[show a+20-(a+1)=19 by omega]at h0;obtain⟨g1,g2,g3,g4,g5,q,g6⟩:=ih (a+20) (insO C a 19 (a+1) xs) o_ h (by rw[W0];exact hx) (u.insO o_);refine⟨?_,g2,g3,o_,g5,q+1,o_⟩;have c1:((a+20:Nat):Int)=(a:Int)+20:=rfl;rw[c1]at h0 g1;rw[<-g1];simp(maxSteps:=9^6)(disch:=omega)[↓ac,↓aa,K.sh,K.fi,h0]
  .rw[aa h];refine⟨?_,hx,u,ai _,h2,0,rfl⟩;simp(maxSteps:=9^6)(disch:=omega)[↓ac,↓aa,K.sh,K.fi]
theorem ao4 (H:Hp hp D)(K:Cm hp L F C)(n:Nat)(hlen:n<=1000000000)(bs N:Nat)(hbs:1<=bs)(hb2:bs<=1000000000):∀(f a:Nat) (xs:C_),n<a+f+1->a<=n->xs.length=n->eV L xs->
  (Dn prog).code (.loop ij) ⟨[(0,.sl D 0 n),(1,A_ n),(2,F),(6,A_ bs),(7,A_ a),(8,A_ ((a:Int)+2*(bs:Int)))],⟨hp xs,N⟩⟩ =
  some (.exit 4,⟨[(0,.sl D 0 n),(1,A_ n),(2,F),(6,A_ bs),(7,A_ ((Qf C n bs f xs a).2))],⟨hp (Qf C n bs f xs a).1,N⟩⟩)∧
  (Qf C n bs f xs a).1.length=n∧eV L (Qf C n bs f xs a).1∧(Qf C n bs f xs a).2<=n:=by
 intro f
 induction f with
 |zero =>
  intro a xs h1 h2 hx u;refine⟨?_,hx,u,h2⟩;rw[ah sI];simp(maxSteps:=9^6)(disch:=omega)[↓ac,↓aa,Qf,K.sh,K.fi]
 |succ f ih =>
  intro a xs h1 h2 hx u;rw[ah sI,Qf];by_cases h:a+2*bs<=n
  .rw[ac h];have h0:=afx H K n hlen N (2*bs) a (a+bs) (a+2*bs) xs o_ o_ o_ h hx u;obtain⟨g1,g2,g3,g4⟩:=ih (a+2*bs) (symM C (2*bs) xs a (a+bs) (a+2*bs)) o_ h (by rw[Cd];exact hx) (u.symM o_ o_ o_);refine⟨?_,g2,g3,g4⟩;have c1:((a+bs:Nat):Int)=(a:Int)+bs:=rfl;have c2:((a+2*bs:Nat):Int)=(a:Int)+2*bs:=o_;rw[c1,c2]at h0;rw[c2]at g1;rw[<-g1];simp(maxSteps:=9^6)(disch:=omega)[↓ac,↓aa,K.sh,K.fi,h0]
  .rw[aa h];refine⟨?_,hx,u,h2⟩;simp(maxSteps:=9^6)(disch:=omega)[↓ac,↓aa,K.sh,K.fi]
theorem anS (H:Hp hp D)(K:Cm hp L F C)(n:Nat)(hlen:n<=1000000000)(N:Nat):∀(f bs:Nat) (xs:C_),n<bs+f+1->1<=bs->bs<=2000000000->xs.length=n->eV L xs->
  (Dn prog).code (.loop ik) ⟨[(0,.sl D 0 n),(1,A_ n),(2,F),(6,A_ bs)],⟨hp xs,N⟩⟩ =
  some (.exit 2,⟨[],⟨hp (Y7 C n f xs bs),N⟩⟩)∧(Y7 C n f xs bs).length=n∧eV L (Y7 C n f xs bs):=by
 intro f
 induction f with
 |zero =>
  intro bs xs h1 h2 h3 hx u;refine⟨?_,hx,u⟩;rw[ah sK];simp(maxSteps:=9^6)(disch:=omega)[↓ac,↓aa,Y7,K.sh,K.fi]
 |succ f ih =>
  intro bs xs h1 h2 h3 hx u;rw[ah sK,Y7];by_cases h:bs<n
  .rw[ac h];obtain⟨g1,g2,g3,g4⟩:=ao4 H K n hlen bs N h2 o_ n 0 xs o_ o_ hx u;generalize Qf C n bs n xs 0=p at *;obtain⟨ys,a⟩:=p;simp only at g1 g2 g3 g4;have c0:((0:Nat):Int)=0:=rfl;have cz:(0:Int)+2*(bs:Int)=2*(bs:Int):=o_;have c2:((2*bs:Nat):Int)=2*(bs:Int):=o_;rw[c0,cz]at g1;unfold stE;simp only;by_cases h5:a+bs<n
   .rw[ac h5];have h0:=afx H K n hlen N (n-a) a (a+bs) n ys o_ o_ h5 (ai _) g2 g3;have c1:((a+bs:Nat):Int)=(a:Int)+bs:=rfl;obtain⟨k1,k2,k3⟩:=ih (2*bs) (symM C (n-a) ys a (a+bs) n) o_ o_ o_ (by rw[Cd];exact g2) (g3.symM o_ h5 o_);refine⟨?_,k2,k3⟩;rw[c1]at h0;rw[c2]at k1;have cc:(bs:Int)*2=2*(bs:Int):=o_;rw[<-k1];simp(maxSteps:=9^6)(disch:=omega)[↓ac,↓aa,K.sh,K.fi,g1,h0,cc]
   .rw[aa h5];obtain⟨k1,k2,k3⟩:=ih (2*bs) ys o_ o_ o_ g2 g3;refine⟨?_,k2,k3⟩;rw[c2]at k1;have cc:(bs:Int)*2=2*(bs:Int):=o_;rw[<-k1];simp(maxSteps:=9^6)(disch:=omega)[↓ac,↓aa,K.sh,K.fi,g1,cc]
  .rw[aa h];refine⟨?_,hx,u⟩;simp(maxSteps:=9^6)(disch:=omega)[↓ac,↓aa,K.sh,K.fi]
theorem anT (H:Hp hp D)(K:Cm hp L F C)(n:Nat)(hlen:n<=1000000000)(hn:n % 20≠0)(N:Nat)(xs:C_)(hx:xs.length=n)(u:eV L xs) :
  (Dn prog).call wn [.sl D 0 n,A_ n,F] ⟨hp xs,N⟩=some (.tup [],⟨hp (tA C n xs),N⟩):=by
 rw[bC HM H6 rfl,tA];obtain⟨g1,g2,g3,_,g5,q,g6⟩:=aou H K n hlen N n 0 xs o_ o_ hx u;generalize Ld C n n xs 0=p at *;obtain⟨ys,a⟩:=p;simp only at g1 g2 g3 g5 g6;have h0:=QS H K n hlen a n N o_ (ai _) ys g2 g3;unfold stS;simp only;obtain⟨k1,k2,k3⟩:=anS H K n hlen N n 20 (insO C a (n-(a+1)) (a+1) ys) o_ o_ o_ (by rw[W0];exact g2) (g3.insO o_);have c0:((0:Nat):Int)=0:=rfl;have cz:(0:Int)+20=20:=rfl;have c2:((20:Nat):Int)=20:=rfl;rw[c0,cz]at g1;rw[c2]at k1;simp(maxSteps:=9^6)(disch:=omega)[↓ac,↓aa,K.sh,K.fi,g1,h0,k1]
end
abbrev bF:=@List.all_eq_true
abbrev gm:=@List.not_mem_nil
def dI (id:Nat):Nat:=if id<5 then 4 else if id=12 then 1 else 2
def c4 (id:Nat):Int:=[0,-1,-1,0,0,-4,-4,0,0,0,0,0,-60].getD id 0
def cO (id:Nat):Nat:=[1,3,3,3,3,9,9,8,8,13,13,17,121].getD id 1
def cA (id:Nat):Nat:=[0,0,1,0,1,0,1,1,2,1,2,2,0].getD id 0
def fS (low:Int)(w:Nat):Nat->Nat->E_
 |0,_=>[]
 |d+1,e=>fS low w d (e / w)++[((e % w:Nat):Int)+low]
def iJ (id e:Nat):E_:=fS (c4 id) (cO id) (dI id) e
def yc:E_->Nat
 |[]=>0
 |x::r=>x.natAbs+yc r
def qh (id e:Nat):Nat:=yc (iJ id e)
def aZ (id:Nat):Nat:=cO id ^ dI id
def al7 (s:Nat):Q_->C_
 |[]=>[]
 |(e,z)::r=>match Nat.beq z s with
  |true=>e::al7 s r
  |false=>al7 s r
def ayY (id:Nat):Q_:=(List.range (aZ id)).map λe=>(e,qh id e)
def bV (id:Nat):C_:=let l:=ayY id;(List.range 61).flatMap λs=>al7 s l
def axt (e:Nat):Nat->C_->Nat
 |i,[]=>i
 |i,x::r=>match Nat.beq x e with
  |true=>i
  |false=>axt e (i+1) r
def dl (id:Nat):C_:=let l:=bV id;(List.range (aZ id)).map λe=>axt e 0 l
abbrev iD (id:Nat):Prop:=1<=id∧id<=12
abbrev nb (id:Nat):AV:=.agg [A_ id,A_ (cA id),.d (.lst (aS (bV id))),.d (.lst (aS (dl id)))]
abbrev yI (id:Nat):AV:=.agg [A_ id,A_ (cA id),.own true 1 (aS (bV id)),.own true 1 (aS (dl id))]
def al0:∀id∈List.range 13,cA id<=2∧(bV id).length<=300∧(dl id).length<=300∧(bV id).all (λe=>decide (e<aZ id))=true:=g_
def CU {id:Nat}(h:id<=12):cA id<=2∧(bV id).length<=300∧(dl id).length<=300∧∀e∈bV id,e<aZ id:=by
 obtain⟨a,b,c,d⟩:=al0 id t_;exact⟨a,b,c,λe he=>by simpa using bF.1 d e he⟩
def ids:C_:=[1,2,3,4,5,6,7,8,9,10,11,12]
def dV {id:Nat}(h:iD id):id∈ids:=by
 obtain⟨h1,h2⟩:=h;simp only[ids,aD,gm,mJ];omega
abbrev Xz (id:Nat):AV:=.agg [A_ (dI id),A_ (c4 id),A_ (c4 id+cO id-1),A_ (cA id)]
def WX:∀x∈ids,bn prog apx [A_ x]=some (.tup [Xz x,A_ 0]):=nD 100 ids (by kernel_rfl)
def Iy:∀x∈ids,bn prog Ci [Xz x]=some (A_ (aZ x)):=nD 100 ids (by kernel_rfl)
def yW {z:V_}{n:Nat}(h:n<=1000000000):Em z (A_ n) (A_ n)=some (.own true z.length (List.replicate n z)):=by
 have h0:¬((n:Int)<0):=o_;have h1:Nat.ble n bQ=true:=ca (aP h d_);have h2:Nat.ble n n=true:=by rw[ZZ];simp
 simp only[Em,gJ,h1,h2]
abbrev fB:=@Bool.not_eq_true
abbrev bM:=@List.getElem?_map
abbrev iQ:=@List.getElem?_range
def SA (x:Nat):bn prog H9 [.d (.int .u8 x)]=some (B_ false):=by
 rw[aL US UV rfl];simp(maxSteps:=9^6)(disch:=omega)[↓ac,↓aa]
def ahI (x y:Nat):bn prog EG [.d (.int .u8 x),.d (.int .u8 y)]=some (A_ (if x<y then -1 else if y<x then 1 else 0)):=by
 rw[aL Rf Re rfl];by_cases h1:x<y
 .rw[ac h1];simp(maxSteps:=9^6)(disch:=omega)[↓ac,↓aa,SA]
 .rw[aa h1];by_cases h2:y<x
  .rw[ac h2];simp(maxSteps:=9^6)(disch:=omega)[↓ac,↓aa,SA]
  .rw[aa h2];simp(maxSteps:=9^6)(disch:=omega)[↓ac,↓aa,SA]
@[simp] def aDE {len n S o:Nat}{k:IntKind}{z:Int}(h0:0<=z)(h:z<len):K0 len n (.ptr S o) (.d (.int k z))=some (.ptr S (o+z.toNat*n)):=by
 obtain⟨i,rfl⟩:=ay h0;have hl:Nat.ble len i=false:=by rw[<-fB,bf];omega
 show(match Nat.ble len i with|true=>none|false=>gX (i*n) (.ptr S o))=_;rw[hl];rfl
def gq (id:Nat):C_:=(List.range (aZ id)).map λe=>qh id e
def cC (l:C_)(x y:Nat):Int:=if nth l x<nth l y then -1 else if nth l y<nth l x then 1 else 0
def tK (id:Nat):D_:=(List.range 289).map λe=>.d (.int .u8 (if e<aZ id then qh id e else 0:Nat))
def ZW {id:Nat}:(tK id).length=289:=by simp[tK]
def abm {id x:Nat}(h:x<aZ id)(h2:aZ id<=289):(tK id)[x]?=some (.d (.int .u8 (nth (gq id) x:Nat))):=by
 have e:nth (gq id) x=qh id x:=by
  have:=CY (l:=gq id) (i:=x) (by simp[gq];exact h);rw[gq,bM,iQ h]at this;simpa [gq] using this.symm
 rw[e,tK,bM,iQ o_];simp[h]
def aCl {hp:C_->ak}{S id:Nat}(hS:∀xs,get (hp xs) S=some (.cells (tK id)))(h2:aZ id<=289):Cm hp (aZ id) (.fn Jr [] [.ptr S 0]) (cC (gq id)) where
 sh:=rfl
 fi:=rfl
 cl xs N x y hx hy:=by
  have e1:=abm hx h2;have e2:=abm hy h2;show(Dn prog).call Jr ([]++([A_ (x:Nat),A_ (y:Nat)]++[.ptr S 0])) ⟨hp xs,N⟩=_;simp only[az,aK];rw[bC aeq aga rfl];generalize tK id=Z at *;simp(maxSteps:=9^6)(disch:=omega)[↓ac,↓aa,hS,e1,e2,ahI,cC]
noncomputable section
def aoo {k i:Nat}(h:k=i):Nat.beq k i=true:=by rw[aC];exact h
def atn {k i:Nat}(h:¬k=i):Nat.beq k i=false:=by rw[<-fB,aC];exact h
def nA (l:C_):Nat->Nat:=List.rec (motive:=λ_=>Nat->Nat) (λ_=>0) (λx _ ih i=>Nat.casesOn (motive:=λ_=>Nat) i x (λk=>ih k)) l
def CP:∀(l:C_) (i:Nat),nA l i=nth l i
 |[],i=>by simp[nth];rfl
 |x::l,0=>rfl
 |x::l,i+1=>CP l i
def akT (l:C_):Nat->Nat->C_:=List.rec (motive:=λ_=>Nat->Nat->C_) (λ_ _=>[]) (λx r ih i v=>Nat.casesOn (motive:=λ_=>C_) i (v::r) (λk=>x::ih k v)) l
def akq:∀(l:C_) (i v:Nat),akT l i v=l.set i v
 |[],i,v=>rfl
 |x::l,0,v=>rfl
 |x::l,i+1,v=>by
  show x::akT l i v=_;rw[akq l i v];rfl
def Z9 (xs:C_)(i j:Nat):C_:=akT (akT xs i (nA xs j)) j (nA xs i)
def Us (xs:C_)(i j:Nat):Z9 xs i j=swp xs i j:=by simp only[Z9,swp,akq,CP]
def Vl (l:C_)(x y:Nat):Bool:=Nat.ble (Nat.succ (nA l x)) (nA l y)
def GG (l:C_)(x y:Nat):(Vl l x y=true)=(cC l x y<0):=by
 simp only[Vl,CP,bf,cC];apply propext;constructor
 .intro h;rw[ac o_];omega
 .intro h;split at h
  .omega
  .split at h<;>omega
def TN (a b:Nat):Nat->Nat->C_->C_
 |0,_,xs=>xs
 |k+1,i,xs=>TN a b k (i+1) (Z9 xs (a+i) (b+i))
def NS {a b:Nat}:∀(k i:Nat) (xs:C_),TN a b k i xs=swpR xs a b k i
 |0,_,_=>rfl
 |k+1,i,xs=>by rw[TN,swpR,Us,NS]
def afF (m:Nat):Nat->C_->Nat->Nat->C_
 |0,xs,i,j=>xs
 |f+1,xs,i,j=>match Nat.beq i j with
  |true=>TN (m-i) m i 0 xs
  |false=>match Nat.ble i j with
   |true=>afF m f (TN (m-i) (m+j-i) i 0 xs) i (j-i)
   |false=>afF m f (TN (m-i) m j 0 xs) (i-j) j
def aaA {m:Nat}:∀(f:Nat) (xs:C_) (i j:Nat),afF m f xs i j=rot m f xs i j
 |0,_,_,_=>rfl
 |f+1,xs,i,j=>by
  rw[afF,rot];by_cases h:i=j
  .rw[aoo h,ac h,NS]
  .rw[atn h,aa h];by_cases h2:j<i
   .rw[show Nat.ble i j=false by rw[<-fB,bf];omega,ac h2];simp only[aaA,NS]
   .rw[ca (by omega:i<=j),aa h2];simp only[aaA,NS]
section
variable (l:C_)
def adQ (a:Nat):Nat->C_->C_
 |0,xs=>xs
 |j+1,xs=>match Nat.ble a j with
  |false=>xs
  |true=>match Vl l (nA xs (j+1)) (nA xs j) with
   |true=>adQ a j (Z9 xs (j+1) j)
   |false=>xs
theorem aeb {a:Nat}:∀(j:Nat) (xs:C_),adQ l a j xs=insJ (cC l) a j xs
 |0,_=>rfl
 |j+1,xs=>by
  rw[adQ,insJ];by_cases h:a<=j
  .rw[ca h];simp only[CP]
   cases h2:Vl l (nth xs (j+1)) (nth xs j) with
   |true=>rw[ac ⟨h,by rw[<-GG];exact h2⟩,<-aeb,Us]
   |false=>rw[aa (λq=>by have:=q.2;rw[<-GG,h2]at this;exact absurd this s_)]
  .rw[show Nat.ble a j=false by rw[<-fB,bf];exact h,aa (λq=>h q.1)]
def XH (a:Nat):Nat->Nat->C_->C_
 |0,_,xs=>xs
 |k+1,i,xs=>XH a k (i+1) (adQ l a i xs)
theorem V6 {a:Nat}:∀(k i:Nat) (xs:C_),XH l a k i xs=insO (cC l) a k i xs
 |0,_,_=>rfl
 |k+1,i,xs=>by rw[XH,insO,aeb,V6]
def ae0 (xs:C_)(a:Nat):Nat->Nat->Nat->Nat
 |0,i,_=>i
 |f+1,i,j=>match Nat.ble j i with
  |true=>i
  |false=>match Vl l (nA xs ((i+j) / 2)) (nA xs a) with
   |true=>ae0 xs a f ((i+j) / 2+1) j
   |false=>ae0 xs a f i ((i+j) / 2)
theorem aa8 {xs:C_}{a:Nat}:∀(f i j:Nat),ae0 l xs a f i j=Ms (cC l) xs a f i j
 |0,_,_=>rfl
 |f+1,i,j=>by
  rw[ae0,Ms];by_cases h:i<j
  .rw[show Nat.ble j i=false by rw[<-fB,bf];omega,ac h];simp only[CP]
   cases h2:Vl l (nth xs ((i+j) / 2)) (nth xs a) with
   |true=>rw[ac (by rw[<-GG];exact h2)];simp only[aa8]
   |false=>rw[aa (by rw[<-GG,h2];simp)];simp only[aa8]
  .rw[ca (by omega:j<=i),aa h]
def afE (xs:C_)(m:Nat):Nat->Nat->Nat->Nat
 |0,i,_=>i
 |f+1,i,j=>match Nat.ble j i with
  |true=>i
  |false=>match Vl l (nA xs m) (nA xs ((i+j) / 2)) with
   |true=>afE xs m f i ((i+j) / 2)
   |false=>afE xs m f ((i+j) / 2+1) j
theorem Z8 {xs:C_}{m:Nat}:∀(f i j:Nat),afE l xs m f i j=Mg (cC l) xs m f i j
 |0,_,_=>rfl
 |f+1,i,j=>by
  rw[afE,Mg];by_cases h:i<j
  .rw[show Nat.ble j i=false by rw[<-fB,bf];omega,ac h];simp only[CP]
   cases h2:Vl l (nth xs m) (nth xs ((i+j) / 2)) with
   |true=>rw[ac (by rw[<-GG];exact h2)];simp only[Z8]
   |false=>rw[aa (by rw[<-GG,h2];simp)];simp only[Z8]
  .rw[ca (by omega:j<=i),aa h]
def Z7 (xs:C_)(p:Nat):Nat->Nat->Nat->Nat
 |0,i,_=>i
 |f+1,i,j=>match Nat.ble j i with
  |true=>i
  |false=>match Vl l (nA xs (p-(i+j) / 2)) (nA xs ((i+j) / 2)) with
   |true=>Z7 xs p f i ((i+j) / 2)
   |false=>Z7 xs p f ((i+j) / 2+1) j
theorem aa4 {xs:C_}{p:Nat}:∀(f i j:Nat),Z7 l xs p f i j=tM (cC l) xs p f i j
 |0,_,_=>rfl
 |f+1,i,j=>by
  rw[Z7,tM];by_cases h:i<j
  .rw[show Nat.ble j i=false by rw[<-fB,bf];omega,ac h];simp only[CP]
   cases h2:Vl l (nth xs (p-(i+j) / 2)) (nth xs ((i+j) / 2)) with
   |true=>rw[ac (by rw[<-GG];exact h2)];simp only[aa4]
   |false=>rw[aa (by rw[<-GG,h2];simp)];simp only[aa4]
  .rw[ca (by omega:j<=i),aa h]
def ala:Nat->Nat->C_->C_
 |0,_,xs=>xs
 |n+1,k,xs=>ala n (k+1) (Z9 xs k (k+1))
theorem ajh:∀(n k:Nat) (xs:C_),ala n k xs=shU n k xs
 |0,_,_=>rfl
 |n+1,k,xs=>by rw[ala,shU,Us,ajh]
def akJ:Nat->Nat->C_->C_
 |0,_,xs=>xs
 |n+1,k,xs=>akJ n (k-1) (Z9 xs k (k-1))
theorem ai1:∀(n k:Nat) (xs:C_),akJ n k xs=shD n k xs
 |0,_,_=>rfl
 |n+1,k,xs=>by rw[akJ,shD,Us,ai1]
def TU:Nat->C_->Nat->Nat->Nat->C_
 |0,xs,_,_,_=>xs
 |f+1,xs,a,m,b =>
  if m-a=1 then ala (ae0 l xs a (b-m) m b-1-a) a xs
  else if b-m=1 then akJ (m-afE l xs m (m-a) a m) m xs
  else
   let s:=if (a+b) / 2<m then Z7 l xs ((a+b) / 2+m-1) (b-a) ((a+b) / 2+m-b) ((a+b) / 2) else Z7 l xs ((a+b) / 2+m-1) (b-a) a m
   let e:=(a+b) / 2+m-s
   let ys:=if s<m∧m<e then afF m (e-s) xs (m-s) (e-m) else xs
   let zs:=if a<s∧s<(a+b) / 2 then TU f ys a s ((a+b) / 2) else ys
   if (a+b) / 2<e∧e<b then TU f zs ((a+b) / 2) e b else zs
theorem Xl:∀(f:Nat) (xs:C_) (a m b:Nat),TU l f xs a m b=symM (cC l) f xs a m b
 |0,_,_,_,_=>rfl
 |f+1,xs,a,m,b=>by
  rw[TU,symM];simp only[ajh,ai1,aa8,Z8,aa4,aaA,Xl f]
def ahg (n:Nat):Nat->C_->Nat->C_×Nat
 |0,xs,a=>(xs,a)
 |f+1,xs,a=>if a+20<=n then ahg n f (XH l a 19 (a+1) xs) (a+20) else (xs,a)
theorem ako {n:Nat}:∀(f:Nat) (xs:C_) (a:Nat),ahg l n f xs a=Ld (cC l) n f xs a
 |0,_,_=>rfl
 |f+1,xs,a=>by rw[ahg,Ld];simp only[V6,ako f]
def afz (n bs:Nat):Nat->C_->Nat->C_×Nat
 |0,xs,a=>(xs,a)
 |f+1,xs,a=>if a+2*bs<=n then afz n bs f (TU l (2*bs) xs a (a+bs) (a+2*bs)) (a+2*bs) else (xs,a)
theorem ajT {n bs:Nat}:∀(f:Nat) (xs:C_) (a:Nat),afz l n bs f xs a=Qf (cC l) n bs f xs a
 |0,_,_=>rfl
 |f+1,xs,a=>by rw[afz,Qf];simp only[Xl,ajT f]
def amQ (n bs:Nat)(p:C_×Nat):C_:=if p.2+bs<n then TU l (n-p.2) p.1 p.2 (p.2+bs) n else p.1
theorem auh {n bs:Nat}(p:C_×Nat):amQ l n bs p=stE (cC l) n bs p:=by rw[amQ,stE];simp only[Xl]
def arT (n:Nat)(p:C_×Nat):C_:=XH l p.2 (n-(p.2+1)) (p.2+1) p.1
theorem auq {n:Nat}(p:C_×Nat):arT l n p=stS (cC l) n p:=V6 l _ _ _
def Tg (n:Nat):Nat->C_->Nat->C_
 |0,xs,_=>xs
 |f+1,xs,bs=>if bs<n then Tg n f (amQ l n bs (afz l n bs n xs 0)) (2*bs) else xs
theorem ajc {n:Nat}:∀(f:Nat) (xs:C_) (bs:Nat),Tg l n f xs bs=Y7 (cC l) n f xs bs
 |0,_,_=>rfl
 |f+1,xs,bs=>by rw[Tg,Y7];simp only[auh,ajT,ajc f]
def abg (n:Nat)(xs:C_):C_:=Tg l n n (arT l n (ahg l n n xs 0)) 20
theorem vW {n:Nat}(xs:C_):abg l n xs=tA (cC l) n xs:=by rw[abg,tA,ajc,auq,ako]
def rnd (n bs:Nat)(xs:C_):C_:=amQ l n bs (afz l n bs n xs 0)
end
end
def st1:tA (cC (gq 1)) (aZ 1) (List.range (aZ 1))=bV 1:=by rw[<-vW];decide +kernel
def st3:tA (cC (gq 3)) (aZ 3) (List.range (aZ 3))=bV 3:=by rw[<-vW];decide +kernel
def st5:tA (cC (gq 5)) (aZ 5) (List.range (aZ 5))=bV 5:=by rw[<-vW];decide +kernel
def st7:tA (cC (gq 7)) (aZ 7) (List.range (aZ 7))=bV 7:=by rw[<-vW];decide +kernel
def aB8:tA (cC (gq 12)) (aZ 12) (List.range (aZ 12))=bV 12:=by rw[<-vW];decide +kernel
def st9:tA (cC (gq 9)) (aZ 9) (List.range (aZ 9))=bV 9:=by rw[<-vW];decide +kernel
noncomputable section
def asQ:C_:=[0,1,17,2,18,3,19,4,5,6,7,8,9,10,11,12,13,14,15,16,34,35,20,36,21,37,22,38,23,39,24,25,26,27,28,29,30,31,32,33,51,52,53,54,55,40,56,41,57,42,58,43,59,44,45,46,47,48,49,50,68,69,70,71,72,73,74,75,60,76,61,77,62,78,63,79,64,65,66,67,85,86,87,88,89,90,91,92,93,94,95,80,96,81,97,82,98,83,99,84,102,103,119,104,105,106,107,108,109,110,111,112,113,114,115,100,116,101,117,118,120,136,121,137,122,138,123,139,124,125,126,127,128,129,130,131,132,133,134,135,153,154,155,140,156,141,157,142,158,143,159,144,145,146,147,148,149,150,151,152,170,171,172,173,174,175,160,176,161,177,162,178,163,179,164,165,166,167,168,169,187,188,189,190,191,192,193,194,195,180,196,181,197,182,198,183,199,184,185,186,204,205,206,207,208,209,210,211,212,213,214,215,200,216,201,217,202,218,203,219,221,222,238,223,239,224,225,226,227,228,229,230,231,232,233,234,235,220,236,237,255,240,256,241,257,242,258,243,259,244,245,246,247,248,249,250,251,252,253,254,272,273,274,275,260,276,261,277,262,278,263,279,264,265,266,267,268,269,270,271,280,281,282,283,284,285,286,287,288]
def asW:C_:=[0,1,17,2,18,34,3,19,35,4,20,36,5,21,37,6,22,38,7,23,39,8,24,9,25,10,26,11,27,12,28,13,29,14,30,15,31,16,32,33,51,52,68,53,69,54,70,55,71,40,56,72,41,57,73,42,58,74,43,59,75,44,60,76,45,61,77,46,62,78,47,63,79,48,64,49,65,50,66,67,85,86,102,87,103,119,88,104,89,105,90,106,91,107,92,108,93,109,94,110,95,111,80,96,112,81,97,113,82,98,114,83,99,115,84,100,116,101,117,118,120,136,121,137,153,122,138,154,123,139,155,124,140,156,125,141,157,126,142,158,127,143,159,128,144,129,145,130,146,131,147,132,148,133,149,134,150,135,151,152,170,171,187,172,188,173,189,174,190,175,191,160,176,192,161,177,193,162,178,194,163,179,195,164,180,196,165,181,197,166,182,198,167,183,199,168,184,169,185,186,204,205,221,206,222,238,207,223,239,208,224,209,225,210,226,211,227,212,228,213,229,214,230,215,231,200,216,232,201,217,233,202,218,234,203,219,235,220,236,237,255,240,256,272,241,257,273,242,258,274,243,259,275,244,260,276,245,261,277,246,262,278,247,263,279,248,264,249,265,250,266,251,267,252,268,253,269,254,270,271,280,281,282,283,284,285,286,287,288]
def atv:C_:=[0,1,17,2,18,34,3,19,35,51,4,20,36,52,68,5,21,37,53,69,6,22,38,54,70,7,23,39,55,71,8,24,40,56,72,9,25,41,57,73,10,26,42,58,74,11,27,43,59,75,12,28,44,60,76,13,29,45,61,77,14,30,46,62,78,15,31,47,63,79,16,32,48,64,33,49,65,50,66,67,85,86,102,87,103,119,88,104,120,136,89,105,121,137,153,90,106,122,138,154,91,107,123,139,155,92,108,124,140,156,93,109,125,141,157,94,110,126,142,158,95,111,127,143,159,80,96,112,128,144,81,97,113,129,145,82,98,114,130,146,83,99,115,131,147,84,100,116,132,148,101,117,133,149,118,134,150,135,151,152,170,171,187,172,188,204,173,189,205,221,174,190,206,222,238,175,191,207,223,239,160,176,192,208,224,161,177,193,209,225,162,178,194,210,226,163,179,195,211,227,164,180,196,212,228,165,181,197,213,229,166,182,198,214,230,167,183,199,215,231,168,184,200,216,232,169,185,201,217,233,186,202,218,234,203,219,235,220,236,237,255,240,256,272,241,257,273,242,258,274,243,259,275,244,260,276,245,261,277,246,262,278,247,263,279,248,264,280,249,265,281,250,266,282,251,267,283,252,268,284,253,269,285,254,270,286,271,287,288]
def ata:C_:=[0,1,17,2,18,34,3,19,35,51,4,20,36,52,68,5,21,37,53,69,85,6,22,38,54,70,86,102,7,23,39,55,71,87,103,119,8,24,40,56,72,88,104,120,136,9,25,41,57,73,89,105,121,137,153,10,26,42,58,74,90,106,122,138,154,11,27,43,59,75,91,107,123,139,155,12,28,44,60,76,92,108,124,140,156,13,29,45,61,77,93,109,125,141,157,14,30,46,62,78,94,110,126,142,158,15,31,47,63,79,95,111,127,143,159,16,32,48,64,80,96,112,128,144,33,49,65,81,97,113,129,145,50,66,82,98,114,130,146,67,83,99,115,131,147,84,100,116,132,148,101,117,133,149,118,134,150,135,151,152,170,171,187,172,188,204,173,189,205,221,174,190,206,222,238,175,191,207,223,239,255,160,176,192,208,224,240,256,272,161,177,193,209,225,241,257,273,162,178,194,210,226,242,258,274,163,179,195,211,227,243,259,275,164,180,196,212,228,244,260,276,165,181,197,213,229,245,261,277,166,182,198,214,230,246,262,278,167,183,199,215,231,247,263,279,168,184,200,216,232,248,264,280,169,185,201,217,233,249,265,281,186,202,218,234,250,266,282,203,219,235,251,267,283,220,236,252,268,284,237,253,269,285,254,270,286,271,287,288]
def azv:arT (gq 11) 289 (ahg (gq 11) 289 289 (List.range 289) 0)=asQ:=g_
def aAu:rnd (gq 11) 289 20 asQ=asW:=g_
def azT:rnd (gq 11) 289 40 asW=atv:=g_
def az9:rnd (gq 11) 289 80 atv=ata:=g_
def azD:rnd (gq 11) 289 160 ata=bV 11:=g_
def aDv:tA (cC (gq 11)) 289 (List.range 289)=bV 11:=by
 rw[<-vW,abg,azv];have u:∀(f:Nat) (xs:C_) (bs:Nat),bs<289->Tg (gq 11) 289 (f+1) xs bs=Tg (gq 11) 289 f (rnd (gq 11) 289 bs xs) (2*bs):=λf xs bs h=>by rw[Tg,ac h];rfl
 rw[u 288 _ _ o_,aAu,u 287 _ _ o_,azT,u 286 _ _ o_,az9,u 285 _ _ o_,azD];rw[show(285:Nat)=284+1 from rfl,Tg,aa o_]
end
abbrev cD:=@List.replicate_succ
abbrev oG:=@List.set_append_right
abbrev uW:=@Nat.sub_self
def aqW:gq 2=gq 1∧gq 4=gq 3∧gq 6=gq 5∧gq 8=gq 7∧gq 10=gq 9:=⟨rfl,rfl,rfl,rfl,rfl⟩
def ak4:bV 2=bV 1∧bV 4=bV 3∧bV 6=bV 5∧bV 8=bV 7∧bV 10=bV 9:=⟨rfl,rfl,rfl,rfl,rfl⟩
def awc (id:Nat)(h:iD id):tA (cC (gq id)) (aZ id) (List.range (aZ id))=bV id:=by
 obtain⟨p2,p4,p6,p8,p10⟩:=aqW;obtain⟨q2,q4,q6,q8,q10⟩:=ak4;have h1:id=1∨id=2∨id=3∨id=4∨id=5∨id=6∨id=7∨id=8∨id=9∨id=10∨id=11∨id=12:=o_;rcases h1 with rfl|rfl|rfl|rfl|rfl|rfl|rfl|rfl|rfl|rfl|rfl|rfl
 .exact st1
 .rw[p2,q2];exact st1
 .exact st3
 .rw[p4,q4];exact st3
 .exact st5
 .rw[p6,q6];exact st5
 .exact st7
 .rw[p8,q8];exact st7
 .exact st9
 .rw[p10,q10];exact st9
 .exact aDv
 .exact aB8
def aad:∀id∈ids,aZ id<=289∧aZ id % 20≠0∧1<=aZ id:=g_
def rks (es:C_):Nat->Nat->C_->C_
 |0,_,R=>R
 |k+1,i,R=>rks es k (i+1) (R.set (nth es i) i)
def aul:∀id∈ids,rks (bV id) (aZ id) 0 (List.replicate (aZ id) 0)=dl id:=g_
def aaH:∀id∈ids,(bV id).length=aZ id∧(dl id).length=aZ id∧(bV id).all (λe=>decide (e<aZ id))=true:=g_
def Hs (n i:Nat):C_:=List.range i++List.replicate (n-i) 0
def aq6 {n i:Nat}(h:i<=n):(Hs n i).length=n:=by simp[Hs];omega
def apR {n i:Nat}(h:i<n):(Hs n i).set i i=Hs n (i+1):=by
 unfold Hs;obtain⟨k,hk⟩:∃k,n-i=k+1:=⟨n-i-1,o_⟩
 rw[hk,cD,oG _ _ s_,tD,uW,List.set_cons_zero,List.range_succ,aw]
 congr 2
 rw[show n-(i+1)=k by omega];rfl
section
variable (id n:Nat)(Z:D_)
theorem ah9 (hn:n<=289)(R:C_)(a b c d:AV)(x0 x1:D)(N:Nat):∀(k i:Nat),i+k=n->
  (Dn prog).code (.loop BN) ⟨[(2,.ptr 0 0),(6,.ptr 4 0),(7,.ptr 5 0),(34,A_ n),(35,A_ i)],
   ⟨[(0,.cells [a,b,c,d]),(2,.arr 1 (aS (Hs n i))),(3,.arr 1 (aS R)),(4,.cells [.d x0,.d x1,.sl 2 0 n,.sl 3 0 n]),(5,.cells Z)],N⟩⟩ =
  some (.exit 0,⟨[(2,.ptr 0 0),(6,.ptr 4 0),(7,.ptr 5 0)],⟨[(0,.cells [a,b,c,d]),(2,.arr 1 (aS (Hs n n))),(3,.arr 1 (aS R)),(4,.cells [.d x0,.d x1,.sl 2 0 n,.sl 3 0 n]),(5,.cells Z)],N⟩⟩):=by
 intro k
 induction k with
 |zero =>
  intro i h;have:i=n:=o_;subst this;rw[ah QB];simp(maxSteps:=9^6)(disch:=omega)[ac,aa]
 |succ k ih =>
  intro i h;have l:=aq6 (n:=n) (i:=i) o_;have h5:=ih (i+1) o_;have c1:((i+1:Nat):Int)=(i:Int)+1:=rfl;rw[c1]at h5;rw[ah QB,<-h5,<-apR o_];generalize Hs n i=xs at *;simp(maxSteps:=9^6)(disch:=omega)[ac,aa]
theorem aig (hn:n<=289)(es:C_)(he:es.length=n)(hu:eV n es)(a b c d:AV)(x0 x1:D)(N:Nat):∀(k i:Nat) (R:C_),i+k=n->R.length=n->
  (Dn prog).code (.loop BV) ⟨[(2,.ptr 0 0),(6,.ptr 4 0),(49,.sl 2 0 n),(50,A_ n),(51,A_ i)],
   ⟨[(0,.cells [a,b,c,d]),(2,.arr 1 (aS es)),(3,.arr 1 (aS R)),(4,.cells [.d x0,.d x1,.sl 2 0 n,.sl 3 0 n]),(5,.cells Z)],N⟩⟩ =
  some (.exit 2,⟨[(2,.ptr 0 0),(6,.ptr 4 0)],⟨[(0,.cells [a,b,c,d]),(2,.arr 1 (aS es)),(3,.arr 1 (aS (rks es k i R))),(4,.cells [.d x0,.d x1,.sl 2 0 n,.sl 3 0 n]),(5,.cells Z)],N⟩⟩):=by
 intro k
 induction k with
 |zero =>
  intro i R h hR;rw[ah Qz];simp(maxSteps:=9^6)(disch:=omega)[ac,aa,rks]
 |succ k ih =>
  intro i R h hR;have h5:=ih (i+1) (R.set (nth es i) i) o_ (by simpa using hR);have c1:((i+1:Nat):Int)=(i:Int)+1:=rfl;have hv:=hu.nth (i:=i) o_;rw[c1]at h5;rw[ah Qz,rks,<-h5];simp(maxSteps:=9^6)(disch:=omega)[ac,aa]
end
abbrev mi:=@List.set_eq_take_append_cons_drop
abbrev j5:=@List.getElem?_eq_none
@[simp] def aC3 {h:ak}{n id off:Nat}{k:IntKind}{z:Int}(h0:0<=z)(h1:z<=n):Si h n (.ptr id off) none (some (.d (.int k z))) none=bA (get h id) λo=>bA (cellsOf o) λcs=>dE (Nat.ble (off+n) cs.length) (some (.sl id off z.toNat)):=by
 obtain⟨d,rfl⟩:=ay h0;have hd:Nat.ble d n=true:=ca o_;have hb:I4 n none (some (.d (.int k (d:Int)))) none=some (0,d,n):=by
  show(match (match Nat.ble d n with|true=>some d|false=>none) with|none=>none|some h=>Gp none h n)=_;rw[hd];rfl
 simp only[Si,T7]
 cases get h id with
 |none=>rfl
 |some o =>
  cases o with
  |cells cs =>
   simp only[bA,cellsOf,hb]
   cases Nat.ble (off+n) cs.length<;>simp[dE]
  |arr=>rfl
  |loop=>rfl
def vc (V:E_):D_:=V.map λz=>A_ z
def S8 {V:E_}:(vc V).length=V.length:=by simp[vc]
def an0 {V:E_}{i:Nat}(h:i<V.length):(vc V)[i]?=some (A_ (nth V i)):=by
 rw[vc,bM,CY h];rfl
def awZ {V:E_}{i:Nat}{z:Int}:(vc V).set i (A_ z)=vc (V.set i z):=by simp[vc,mf]
def ad6 {V:E_}{i:Nat}{z:Int}(h:i<V.length):List.take i (vc V)++AV.d (.int .i64 z)::List.drop (i+1) (vc V)=vc (V.set i z):=by
 rw[<-awZ,mi,ac (by rw[S8];exact h)]
def odo (lo hi:Int):Nat->E_->E_
 |0,V=>V
 |i+1,V=>if nth V i+1<=hi then V.set i (nth V i+1) else odo lo hi i (V.set i lo)
abbrev Sm (V:E_):Prop:=∀z∈V,-100000<=z∧z<=100000
section
variable (k1:AV)(dm lo hi pl:Int)(bX:D_)(N:Nat)
theorem apP (d n m:Nat)(hd:d<=4)(V:E_)(hV:V.length=4)(hs:Sm V):∀(k i sum:Nat),i+k=d->sum<=1000000*(i+1)->
  (Dn prog).code (.loop oj) ⟨[(1,.ptr 0 0),(2,.ptr 1 0),(3,.ptr 2 0),(5,A_ n),(6,A_ sum),(21,A_ m),(22,A_ n),(27,.sl 2 0 d),(28,A_ d),(29,A_ i)],
   ⟨[(0,.cells [A_ dm,A_ lo,A_ hi,A_ pl]),(1,.cells bX),(2,.cells (vc V))],N⟩⟩ =
  some (.exit 4,⟨[(1,.ptr 0 0),(2,.ptr 1 0),(3,.ptr 2 0),(5,A_ n),(6,A_ ((sum+yc ((V.take d).drop i):Nat))),(21,A_ m),(22,A_ n)],
   ⟨[(0,.cells [A_ dm,A_ lo,A_ hi,A_ pl]),(1,.cells bX),(2,.cells (vc V))],N⟩⟩):=by
 intro k
 induction k with
 |zero =>
  intro i sum h1 h2;have e:(V.take d).drop i=[]:=cY t_;rw[ah DY,e];simp(maxSteps:=9^6)(disch:=omega)[ac,aa,yc]
 |succ k ih =>
  intro i sum h1 h2;have hg:=an0 (V:=V) (i:=i) o_;have hb:=hs (nth V i) (iL o_);have e:(V.take d).drop i=nth V i::(V.take d).drop (i+1):=by
   rw[sO t_]
   congr 1
   rw[List.getElem_take,SW o_]
  have h5:=ih (i+1) (sum+(nth V i).natAbs) o_ o_;have es:sum+yc ((V.take d).drop i)=sum+(nth V i).natAbs+yc ((V.take d).drop (i+1)):=by rw[e,yc];omega
  rw[es];have c1:((i+1:Nat):Int)=(i:Int)+1:=rfl;rw[c1]at h5;rw[ah DY,<-h5];generalize nth V i=z at *;by_cases hz:z<0
  .have c2:((sum+z.natAbs:Nat):Int)=(sum:Int)+-z:=o_;rw[c2];simp(maxSteps:=9^6)(disch:=omega)[ac,aa,hg]
  .have c2:((sum+z.natAbs:Nat):Int)=(sum:Int)+z:=o_;rw[c2];simp(maxSteps:=9^6)(disch:=omega)[ac,aa,hg]
theorem ari (n m:Nat)(hlo:-1000<=lo∧lo<=1000):∀(j:Nat) (V:E_),j<=4->V.length=4->Sm V->
  (Dn prog).code (.loop oc) ⟨[(1,.ptr 0 0),(2,.ptr 1 0),(3,.ptr 2 0),(9,A_ ((j:Int)-1)),(21,A_ m),(22,A_ n)],
   ⟨[(0,.cells [A_ dm,A_ lo,A_ hi,A_ pl]),(1,.cells bX),(2,.cells (vc V))],N⟩⟩ =
  some (.exit 6,⟨[(1,.ptr 0 0),(2,.ptr 1 0),(3,.ptr 2 0),(21,A_ m),(22,A_ n)],
   ⟨[(0,.cells [A_ dm,A_ lo,A_ hi,A_ pl]),(1,.cells bX),(2,.cells (vc (odo lo hi j V)))],N⟩⟩):=by
 intro j
 induction j with
 |zero =>
  intro V h1 hV hs;rw[ah Dy];simp(maxSteps:=9^6)(disch:=omega)[ac,aa,odo]
 |succ j ih =>
  intro V h1 hV hs;have hg:=an0 (V:=V) (i:=j) o_;have hb:=hs (nth V j) (iL o_);have hgs:∀z,(vc (V.set j z))[j]?=some (A_ z):=λz=>by
   rw[vc,bM,ww o_];rfl
  have c1:((j+1:Nat):Int)-1=(j:Int):=o_;have lp:=λz=>ad6 (V:=V) (i:=j) (z:=z) (by omega)
  have lq:=λy z=>ad6 (V:=V.set j y) (i:=j) (z:=z) (by simp;omega)
  have hss:∀y z,(V.set j y).set j z=V.set j z:=λy z=>List.set_set ..
  have hl2:∀y,(V.set j y).length=4:=λy=>by simpa using hV
  rw[c1,ah Dy,odo];by_cases h:nth V j+1<=hi
  .rw[ac h];generalize nth V j=z at *;simp(maxSteps:=9^6)(disch:=omega)[ac,aa,hg,S8,lp,lq,hss,hl2,hV,hgs]
  .have h5:=ih (V.set j lo) o_ (by simpa using hV) (λz hz=>by
    rcases fI hz with g|g
    .exact hs z g
    .subst g;omega)
   rw[aa h,<-h5];generalize nth V j=z at *;simp(maxSteps:=9^6)(disch:=omega)[ac,aa,hg,S8,lp,lq,hss,hl2,hV,hgs]
def XV (lo:Int):Nat->Nat->E_->E_
 |0,_,V=>V
 |k+1,i,V=>XV lo k (i+1) (V.set i lo)
theorem ap2 (d:Nat)(hd:d<=4):∀(k i:Nat) (V:E_),i+k=d->V.length=4->
  (Dn prog).code (.loop oE) ⟨[(1,.ptr 0 0),(2,.ptr 1 0),(3,.ptr 2 0),(11,A_ d),(12,A_ i)],
   ⟨[(0,.cells [A_ dm,A_ lo,A_ hi,A_ pl]),(1,.cells bX),(2,.cells (vc V))],N⟩⟩ =
  some (.exit 0,⟨[(1,.ptr 0 0),(2,.ptr 1 0),(3,.ptr 2 0)],
   ⟨[(0,.cells [A_ dm,A_ lo,A_ hi,A_ pl]),(1,.cells bX),(2,.cells (vc (XV lo k i V)))],N⟩⟩):=by
 intro k
 induction k with
 |zero =>
  intro i V h1 hV;rw[ah DS];simp(maxSteps:=9^6)(disch:=omega)[ac,aa,XV]
 |succ k ih =>
  intro i V h1 hV;have lp:=λz=>ad6 (V:=V) (i:=i) (z:=z) (by omega)
  have h5:=ih (i+1) (V.set i lo) o_ (by simpa using hV);have c1:((i+1:Nat):Int)=(i:Int)+1:=rfl;rw[c1]at h5;rw[ah DS,XV,<-h5];simp(maxSteps:=9^6)(disch:=omega)[ac,aa,S8,lp,hV]
end
def CH (id n:Nat):E_:=(iJ id n++[0,0,0,0]).take 4
def asH (id n:Nat):Bool:=decide (odo (c4 id) (c4 id+cO id-1) (dI id) (CH id n)=CH id (n+1)) && decide (yc ((CH id n).take (dI id))=qh id n) && decide (qh id n<=255) &&
 (CH id n).all (λz=>decide (-100000<=z) && decide (z<=100000)) && decide ((CH id n).length=4)
def av0:∀id∈ids,(List.range (aZ id)).all (asH id)=true:=g_
def aws {id n:Nat}(h:iD id)(hn:n<aZ id):odo (c4 id) (c4 id+cO id-1) (dI id) (CH id n)=CH id (n+1)∧yc ((CH id n).take (dI id))=qh id n∧qh id n<=255∧Sm (CH id n)∧(CH id n).length=4:=by
 have:=bF.1 (av0 id (dV h)) n (by simpa using hn);simp only[asH,af,decide_eq_true_eq,bF]at this;exact⟨this.1.1.1.1,this.1.1.1.2,this.1.1.2,λz hz=>this.1.2 z hz,this.2⟩
def asy:∀id∈ids,XV (c4 id) (dI id) 0 [0,0,0,0]=CH id 0∧dI id<=4∧1<=dI id∧-1000<=c4 id∧c4 id<=1000∧aZ id<=289:=g_
def vy (id n:Nat):D_:=(List.range 289).map λe=>.d (.int .u8 (if e<n then qh id e else 0:Nat))
def WF {id n:Nat}:(vy id n).length=289:=by simp[vy]
def apW {id n:Nat}(h:n<289):List.take n (vy id n)++AV.d (.int .u8 (qh id n:Nat))::List.drop (n+1) (vy id n)=vy id (n+1):=by
 have e:(vy id n).set n (AV.d (.int .u8 (qh id n:Nat)))=vy id (n+1):=by
  apply dZ;intro j;rw[List.getElem?_set];by_cases hj:n=j
  .subst hj;rw[ac rfl,ac (by rw[WF];exact h),vy,bM,iQ h];simp
  .rw[aa hj,vy,vy,bM,bM];by_cases hl:j<289
   .rw[iQ hl];simp only[wM];by_cases h2:j<n
    .rw[ac h2,ac o_]
    .rw[aa h2,aa o_]
   .rw[j5 t_];rfl
 rw[<-e,mi,ac (by rw[WF];exact h)]
def ars (id:Nat)(h:iD id)(pl:Int)(N:Nat):∀(k n:Nat),n+k=aZ id->
  (Dn prog).code (.loop oy) ⟨[(1,.ptr 0 0),(2,.ptr 1 0),(3,.ptr 2 0),(21,A_ (aZ id)),(22,A_ n)],
   ⟨[(0,.cells [A_ (dI id),A_ (c4 id),A_ (c4 id+cO id-1),A_ pl]),(1,.cells (vy id n)),(2,.cells (vc (CH id n)))],N⟩⟩ =
  some (.exit 2,⟨[(2,.ptr 1 0)],⟨[(1,.cells (vy id (aZ id))),(2,.cells (vc (CH id (aZ id))))],N⟩⟩):=by
 obtain⟨d0,d1,d2,d3,d4,d5⟩:=asy id (dV h);intro k
 induction k with
 |zero =>
  intro n hn;have:n=aZ id:=o_;subst this;rw[ah DG];simp(maxSteps:=9^6)(disch:=omega)[ac,aa]
 |succ k ih =>
  intro n hn;obtain⟨f1,f2,f3,f4,f5⟩:=aws (n:=n) h o_;have g1:=apP (dI id) (c4 id) (c4 id+cO id-1) pl (vy id n) N (dI id) n (aZ id) d1 (CH id n) f5 f4 (dI id) 0 0 o_ o_;have g2:=ari (dI id) (c4 id) (c4 id+cO id-1) pl (vy id (n+1)) N n (aZ id) ⟨d3,d4⟩ (dI id) (CH id n) d1 f5 f4;rw[f1]at g2;rw[jP,f2,b7]at g1;have h5:=ih (n+1) o_;have c1:((n+1:Nat):Int)=(n:Int)+1:=rfl;have c0:((0:Nat):Int)=0:=rfl;rw[c1]at h5;rw[c0]at g1;have hp:=apW (id:=id) (n:=n) o_;have hl:=S8 (V:=CH id n);have ol:=WF (id:=id) (n:=n);rw[ah DG,<-h5];generalize qh id n=z at *;generalize hA:vy id n=A at *;generalize hB:vy id (n+1)=B at *;generalize CH id n=V at *;generalize CH id (n+1)=W at *;simp(maxSteps:=9^6)(disch:=omega)[ac,aa,g1,g2,hp,AV.int]
def LF:D_:=List.replicate 289 (.d (.int .u8 0))
def ae8:LF.length=289:=by simp[LF]
def av6 {id:Nat}:vy id 0=LF:=by
 simp only[vy,Nat.not_lt_zero,bS,LF];rw[List.map_const',tD];rfl
def arL {id:Nat}:vy id (aZ id)=tK id:=rfl
def az5 {x0:AV}{h:ak}{n:Nat}:(Dn prog).code og ⟨[(0,x0)],⟨h,n⟩⟩=eJ (dE ((AV.cells x0).all bB) <|lA (put h n (.cells (AV.cells x0))) λh1=>lA (put h1 (n+1) (.cells LF)) λh2=>some ⟨[(1,.ptr n 0),(2,.ptr (n+1) 0)],⟨h2,n+1+1⟩⟩):=Cy
abbrev Dl (Z:D_):Prop:=∀x∈Z,∃d,x=AV.d d
def aec:∀{Z:D_},(fN 1 Z).1=Z
 |[]=>rfl
 |v::r=>by rw[fN,aec];rfl
def agX {h:ak}:∀{Z:D_},Dl Z->ub h Z=some (Z,h)
 |[],_=>rfl
 |v::r,hz=>by
  obtain⟨d,rfl⟩:=hz v (.head _);have h1:kJ h (.d d)=some (.d d,h):=rfl;rw[ub,h1];simp only[agX (Z:=r) λx hx=>hz x (.tail _ hx)]
def afa:∀{Z:D_},Dl Z->Z.map nQ=Z
 |[],_=>rfl
 |v::r,hz=>by
  obtain⟨d,rfl⟩:=hz v (.head _);rw[bZ,afa λx hx=>hz x (.tail _ hx)];rfl
def asA {id:Nat}:Dl (tK id):=by
 intro x hx;simp only[tK,cX]at hx;obtain⟨e,_,rfl⟩:=hx;exact⟨_,rfl⟩
def Yz (id:Nat)(h:iD id):bn prog gQ [Xz id]=some (.agg (tK id)):=by
 have hin:=dV h;obtain⟨d0,d1,d2,d3,d4,d5⟩:=asy id hin;have hm:=Iy id hin;have h0:=ap2 (dI id) (c4 id) (c4 id+cO id-1) (cA id) LF 3 (dI id) d1 (dI id) 0 [0,0,0,0] o_ rfl;have h3:=ars id h (cA id) 3 (aZ id) 0 o_;have c0:((0:Nat):Int)=0:=rfl;have v0:vc [0,0,0,0]=[A_ 0,A_ 0,A_ 0,A_ 0]:=rfl;rw[d0,c0,v0]at h0;rw[av6,arL,c0]at h3;have zl:=ZW (id:=id);have zr:=λh=>agX (h:=h) (asA (id:=id))
 have zb:=afa (asA (id:=id));have zt:List.take 289 (tK id)=tK id:=bp o_;have z1:=aec (Z:=tK id);simp only[Xz]at hm⊢;rw[aL U0 UZ rfl];generalize tK id=Z at *;generalize vc (CH id 0)=V0 at *;generalize vc (CH id (aZ id))=V1 at *;generalize cA id=pl at *;generalize dI id=dm at *;generalize c4 id=lo at *;generalize cO id=wi at *;generalize aZ id=n at *;simp(maxSteps:=9^6)(disch:=omega)[↓ac,↓aa,hm,h0,h3,-Cy,az5,zt,z1,zr];exact λ_=>zb
def alg {hp:C_->ak}{D L:Nat}{F:AV}{C:Nat->Nat->Int}(H:Hp hp D)(K:Cm hp L F C)(n:Nat)(hlen:n<=1000000000)(hn:n % 20≠0)(N:Nat)(xs:C_)(hx:xs.length=n)(u:eV L xs) :
  (Dn prog).call t4 [.sl D 0 n,F] ⟨hp xs,N⟩=some (.tup [],⟨hp (tA C n xs),N⟩):=by
 have h:=anT H K n hlen hn N xs hx u;rw[bC FW F8 rfl];simp(maxSteps:=9^6)(disch:=omega)[↓ac,↓aa,K.sh,K.fi,h]
def azS {x2:AV}{x4:AV}{x6:AV}{h:ak}{n:Nat}:(Dn prog).code BT ⟨[(2,x2),(4,x4),(6,x6)],⟨h,n⟩⟩=eJ (bP (loadAt h (some 4) 1 (share x4)) λa1 h2=>bA (fh (Dn prog) gQ [firm a1] h2) λa3=>lA (put h2 n (.cells LF)) λh4=>bA (storeAt h4 289 (.ptr n 0) (firm a3)) λh5=>some ⟨[(2,x2),(4,x4),(6,x6),(7,.ptr n 0)],⟨h5,n+1⟩⟩):=Mp
def afG {W Z:D_}(h:W.length=Z.length):aF W 0 Z=Z:=by simp[aF,<-h]
def ae9 {id:Nat}:(tK id).all bB=true:=by
 rw[bF];intro x hx;simp only[tK,cX]at hx;obtain⟨e,_,rfl⟩:=hx;rfl
def agq {id:Nat}:(tK id).map jB=tK id:=by
 simp only[tK,jF];rfl
def aek {n:Nat}:List.replicate n [D.int .i64 0]=aS (List.replicate n 0):=by simp[aS]
def apc (id:Nat)(h:iD id):bn prog II [A_ id]=some (.tup [yI id,A_ 0]):=by
 have hin:=dV h;obtain⟨m1,m2,m3⟩:=aad id hin;obtain⟨e1,e2,e3⟩:=aaH id hin;have hR:=aul id hin;have t1:List.take (aZ id) (bV id)=bV id:=bp o_;have t2:List.take (aZ id) (dl id)=dl id:=bp o_;have hst:=awc id h;have ho:=WX id hin;have hm:=Iy id hin;have hz:=Yz id h;have zl:=ZW (id:=id);have zc:=ae9 (id:=id);have zf:=agq (id:=id);have z9:=ae8;have zd:List.drop (tK id).length LF=[]:=cY o_;have hu:eV (aZ id) (bV id):=λx hx=>by simpa using bF.1 e3 x hx
 have hs:=λa b c d x0 x1 R N=>alg (hp:=λxs=>[(0,.cells [a,b,c,d]),(2,.arr 1 (aS xs)),(3,.arr 1 (aS R)),(4,.cells [.d x0,.d x1,.sl 2 0 (aZ id),.sl 3 0 (aZ id)]),(5,.cells (tK id))]) (D:=2)
  ⟨λxs=>rfl,λxs ys=>rfl⟩ (aCl (S:=5) (λxs=>rfl) m1) (aZ id) o_ m2 N (List.range (aZ id)) s_ (λx hx=>by simpa using hx)
 have h0:=λa b c d x0 x1 R N=>ah9 (aZ id) (tK id) m1 R a b c d x0 x1 N (aZ id) 0 (by omega)
 have h1:=λa b c d x0 x1 N=>aig (aZ id) (tK id) m1 (bV id) e1 hu a b c d x0 x1 N (aZ id) 0 (List.replicate (aZ id) 0) o_ (by simp)
 have hup:Hs (aZ id) (aZ id)=List.range (aZ id):=by simp[Hs]
 have hu0:Hs (aZ id) 0=List.replicate (aZ id) 0:=by simp[Hs]
 rw[hup,hu0]at h0;simp only[hst,hR,Xz]at hs h1 ho hm hz;rw[aL alk ak8 rfl];have hid:(1:Int)<=id∧(id:Int)<=12:=o_;have c0:((0:Nat):Int)=0:=rfl;rw[c0]at h0 h1;simp only[yI];generalize tK id=Z at *;generalize bV id=es at *;generalize dl id=rs at *;generalize cA id=pl at *;generalize dI id=dm at *;generalize c4 id=lo at *;generalize cO id=wi at *;generalize aZ id=n at *;simp(maxSteps:=9^6)(disch:=omega)[↓ac,↓aa,ho,hm,hz,h0,hs,h1,-Mp,azS,afG,zc,zf,zd,yW,aek,AV.int,t1,t2]
def X4:∀x∈ids,bn prog w5 [A_ x]=some (A_ (dI x)):=nD 100 ids (by kernel_rfl)
def OW:∀x∈ids,bn prog ER [A_ x]=some (A_ (c4 x)):=nD 100 ids (by kernel_rfl)
def Vn:∀x∈ids,bn prog N0 [A_ x]=some (A_ (c4 x+cO x-1)):=nD 100 ids (by kernel_rfl)
def ahK:∀x∈ids,bn prog Oy [A_ x]=some (A_ (aZ x)):=nD 100 ids (by kernel_rfl)
def kR (id:Nat):Bool:=decide (c4 id<0)
def afe:∀x∈ids.take 11,bn prog QJ [A_ x]=some (B_ (kR x)):=nD 100 _ (by kernel_rfl)
def acE:∀x∈ids,bn prog LG [A_ x]=some (B_ (kR x)):=nD 100 _ (by kernel_rfl)
abbrev lR:=@Nat.div_le_self
abbrev rH:=@Int.tmod_eq_emod_of_nonneg
abbrev rV:=@Int.tdiv_eq_ediv_of_nonneg
def abQ:∀(l:E_) (x:Int),yc (l++[x])=yc l+x.natAbs
 |[],x=>by simp[yc]
 |y::l,x=>by simp only[aK,yc,abQ l x];omega
def anQ:∀id∈ids,dI id<=4∧1<=cO id∧cO id<=121∧-60<=c4 id∧c4 id<=0:=g_
def acF (id:Nat)(h:iD id)(hp:ak)(N:Nat):∀(k i e n:Nat),i+k=dI id->e<=100000->n<=1000*i->
  (Dn prog).code (.loop lK) ⟨[(0,A_ id),(1,A_ e),(5,A_ (c4 id)),(6,A_ (cO id)),(7,A_ n),(8,A_ i)],⟨hp,N⟩⟩ =
  some (.exit 0,⟨[(7,A_ ((n+yc (fS (c4 id) (cO id) k e):Nat)))],⟨hp,N⟩⟩):=by
 have hd:=X4 id (dV h);obtain⟨d1,d2,d3,d4,d5⟩:=anQ id (dV h);intro k
 induction k with
 |zero =>
  intro i e n h1 h2 h3;rw[ah zQ];simp(maxSteps:=9^6)(disch:=omega)[ac,aa,hd,fS,yc]
 |succ k ih =>
  intro i e n h1 h2 h3;rw[ah zQ];have hm:=gK e (by omega:0<cO id);have hq:e / cO id<=e:=lR _ _;have q1:((e:Int).tmod (cO id:Int))=((e % cO id:Nat):Int):=by rw[rH o_];rfl
  have q2:((e:Int).tdiv (cO id:Int))=((e / cO id:Nat):Int):=by rw[rV o_];rfl
  have hv:(n+yc (fS (c4 id) (cO id) (k+1) e))=(n+(c4 id+((e % cO id:Nat):Int)).natAbs)+yc (fS (c4 id) (cO id) k (e / cO id)):=by
   rw[fS,abQ,Int.add_comm (c4 id)];omega
  rw[hv];have c1:((i+1:Nat):Int)=(i:Int)+1:=rfl;generalize hr:e % cO id=r at *;generalize hqq:e / cO id=q at *;have h5:=ih (i+1) q (n+(c4 id+(r:Int)).natAbs) o_ o_ o_;rw[c1]at h5;rw[<-h5];by_cases hs:c4 id+(r:Int)<0
  .have c2:((n+(c4 id+(r:Int)).natAbs:Nat):Int)=(n:Int)-(c4 id+r):=o_;rw[c2];simp(maxSteps:=9^6)(disch:=omega)[ac,aa,hd,q1,q2]
  .have c2:((n+(c4 id+(r:Int)).natAbs:Nat):Int)=(n:Int)+(c4 id+r):=o_;rw[c2];simp(maxSteps:=9^6)(disch:=omega)[ac,aa,hd,q1,q2]
def alZ (id e:Nat)(h:iD id)(he:e<=100000):bn prog Ex [A_ id,A_ e]=some (A_ (qh id e)):=by
 have hl:=OW id (dV h);have hh:=Vn id (dV h);obtain⟨d1,d2,d3,d4,d5⟩:=anQ id (dV h);have h0:=acF id h [] 0 (dI id) 0 e 0 o_ he o_;have c0:((0:Nat):Int)=0:=rfl;have cw:c4 id+(cO id:Int)-1-c4 id+1=cO id:=o_;rw[b7,c0]at h0;rw[aL NB NI rfl];simp(maxSteps:=9^6)(disch:=omega)[ac,aa,hl,hh,h0,cw,qh,iJ]
abbrev d9:=@List.getD_eq_getElem?_getD
def ps1 (sz:C_)(s:Nat):Nat->Nat->C_->C_->C_×C_
 |0,_,es,R=>(es,R)
 |k+1,i,es,R=>if nth sz i=s then ps1 sz s k (i+1) (es++[i]) (R.set i es.length) else ps1 sz s k (i+1) es R
def ps2 (sz:C_)(n:Nat):Nat->Nat->C_×C_->C_×C_
 |0,_,p=>p
 |f+1,s,p=>if p.1.length<n then ps2 sz n f (s+1) (ps1 sz s n 0 p.1 p.2) else p
def aaV {sz:C_}{s:Nat}:∀{k i:Nat}{es R:C_},(ps1 sz s k i es R).2.length=R.length∧(ps1 sz s k i es R).1.length<=es.length+k
 |0,_,_,_=>⟨rfl,ai _⟩
 |k+1,i,es,R=>by
  rw[ps1];split
  .have:=aaV (sz:=sz) (s:=s) (k:=k) (i:=i+1) (es:=es++[i]) (R:=R.set i es.length);simp only[aN,lS,ar,ck]at this;omega
  .have:=aaV (sz:=sz) (s:=s) (k:=k) (i:=i+1) (es:=es) (R:=R);omega
section
variable (id:Nat)
theorem ac4 (h:iD id)(n:Nat)(hn:n=aZ id)(hn2:n<=289)(a b c d p0 p1 p2 p3:AV)(R:C_)(N:Nat):∀(k i:Nat) (xs:C_),i+k=n->xs.length=n->(∀j,j<i->nth xs j=qh id j)->
  ∃ys,(Dn prog).code (.loop iW) ⟨[(0,A_ id),(2,.ptr 0 0),(3,.ptr 1 0),(4,A_ n),(5,.sl 3 0 n),(6,A_ i)],
   ⟨[(0,.cells [a,b,c,d]),(1,.cells [p0,p1,p2,p3]),(2,.arr 1 (aS R)),(3,.arr 1 (aS xs))],N⟩⟩ =
  some (.exit 0,⟨[(2,.ptr 0 0),(3,.ptr 1 0),(4,A_ n),(5,.sl 3 0 n)],⟨[(0,.cells [a,b,c,d]),(1,.cells [p0,p1,p2,p3]),(2,.arr 1 (aS R)),(3,.arr 1 (aS ys))],N⟩⟩)∧ys.length=n∧∀j,j<n->nth ys j=qh id j:=by
 intro k
 induction k with
 |zero =>
  intro i xs h1 hx hs;have:i=n:=o_;subst this;refine⟨xs,?_,hx,hs⟩;rw[ah zZ];simp(maxSteps:=9^6)(disch:=omega)[ac,aa]
 |succ k ih =>
  intro i xs h1 hx hs;have hz:=alZ id i h o_;obtain⟨ys,g1,g2,g3⟩:=ih (i+1) (xs.set i (qh id i)) o_ (by simpa using hx) (λj hj=>by
   unfold nth;rw[d9,List.getElem?_set];by_cases e:i=j
   .subst e;rw[ac rfl,ac o_];rfl
   .rw[aa e];have:=hs j o_;unfold nth at this;rw[d9]at this;exact this)
  refine⟨ys,?_,g2,g3⟩;have c1:((i+1:Nat):Int)=(i:Int)+1:=rfl;rw[c1]at g1;rw[ah zZ,<-g1];simp(maxSteps:=9^6)(disch:=omega)[ac,aa,hz]
end
section
variable (n:Nat)(sz:C_)(hz:sz.length=n)(hn2:n<=289)(a b c d:AV)(x0 x1:D)(N:Nat)
include hz hn2
theorem acT (s:Nat):∀(k i:Nat) (es R:C_),i+k=n->R.length=n->es.length<=100000+i->
  (Dn prog).code (.loop lJ) ⟨[(2,.ptr 0 0),(3,.ptr 1 0),(4,A_ n),(5,.sl 3 0 n),(7,A_ s),(8,A_ i)],
   ⟨[(0,.cells [a,b,c,d]),(1,.cells [.d x0,.d x1,al 1 (aS es),.sl 2 0 n]),(2,.arr 1 (aS R)),(3,.arr 1 (aS sz))],N⟩⟩ =
  some (.exit 4,⟨[(2,.ptr 0 0),(3,.ptr 1 0),(4,A_ n),(5,.sl 3 0 n),(7,A_ s)],
   ⟨[(0,.cells [a,b,c,d]),(1,.cells [.d x0,.d x1,al 1 (aS (ps1 sz s k i es R).1),.sl 2 0 n]),(2,.arr 1 (aS (ps1 sz s k i es R).2)),(3,.arr 1 (aS sz))],N⟩⟩):=by
 intro k
 induction k with
 |zero =>
  intro i es R h1 hR he;rw[ah Ai];simp(maxSteps:=9^6)(disch:=omega)[ac,aa,ps1]
 |succ k ih =>
  intro i es R h1 hR he;rw[ah Ai,ps1];have c1:((i+1:Nat):Int)=(i:Int)+1:=rfl;by_cases e:nth sz i=s
  .have h5:=ih (i+1) (es++[i]) (R.set i es.length) o_ (by simpa using hR) t_;rw[c1]at h5;rw[ac e,<-h5];have hs:aS (es++[i])=aS es++[[.int .i64 (i:Nat)]]:=by simp[aS]
   have hl:(aS es).length=es.length:=yf;rw[hs,dy];have r0:(aS R).set i [D.int .i64 0]=aS (R.set i 0):=apJ;by_cases hne:es=[]
   .subst hne;have n0:aS ([]:C_)=[]:=rfl;simp(maxSteps:=9^6)(disch:=omega)[ac,aa,dH,n0,r0]
   .rw[fX (by cases es with|nil=>exact absurd rfl hne|cons=>simp[aS])];simp(maxSteps:=9^6)(disch:=omega)[ac,aa]
  .have h5:=ih (i+1) es R o_ hR o_;rw[c1]at h5;rw[aa e,<-h5];simp(maxSteps:=9^6)(disch:=omega)[ac,aa]
theorem ac6:∀(f s:Nat) (es R:C_),R.length=n->es.length<=100000->(ps2 sz n f s (es,R)).1.length≥n->s+f<=100000->
  (Dn prog).code (.loop lD) ⟨[(2,.ptr 0 0),(3,.ptr 1 0),(4,A_ n),(5,.sl 3 0 n),(7,A_ s)],
   ⟨[(0,.cells [a,b,c,d]),(1,.cells [.d x0,.d x1,al 1 (aS es),.sl 2 0 n]),(2,.arr 1 (aS R)),(3,.arr 1 (aS sz))],N⟩⟩ =
  some (.exit 2,⟨[(2,.ptr 0 0),(3,.ptr 1 0)],
   ⟨[(0,.cells [a,b,c,d]),(1,.cells [.d x0,.d x1,al 1 (aS (ps2 sz n f s (es,R)).1),.sl 2 0 n]),(2,.arr 1 (aS (ps2 sz n f s (es,R)).2)),(3,.arr 1 (aS sz))],N⟩⟩):=by
 have hlen:∀es:C_,lenOf (al 1 (aS es))=some es.length:=λes=>by
  cases es with
  |nil=>rfl
  |cons e es=>rw[fX (by simp[aS])];show some (aS (e::es)).length=_;rw[yf]
 have hsh:∀es:C_,lenOf (share (al 1 (aS es)))=some es.length:=λes=>by
  cases es with
  |nil=>rfl
  |cons e es=>rw[fX (by simp[aS])];show some (aS (e::es)).length=_;rw[yf]
 have hfs:∀es:C_,lenOf (firm (share (al 1 (aS es))))=some es.length:=λes=>by
  cases es with
  |nil=>rfl
  |cons e es=>rw[fX (by simp[aS])];show some (aS (e::es)).length=_;rw[yf]
 intro f
 induction f with
 |zero =>
  intro s es R hR he hall hsf;rw[ps2]at hall;simp only at hall;rw[ah Ae,ps2];simp(maxSteps:=9^6)(disch:=omega)[ac,aa,hlen,hsh,hfs]
 |succ f ih =>
  intro s es R hR he hall hsf;rw[ah Ae];rw[ps2]at hall⊢;simp only at hall⊢;by_cases h:es.length<n
  .rw[ac h]at hall⊢;have h1:=acT n sz hz hn2 a b c d x0 x1 N s n 0 es R o_ hR o_;have hl:=aaV (sz:=sz) (s:=s) (k:=n) (i:=0) (es:=es) (R:=R);generalize ps1 sz s n 0 es R=q at *;obtain⟨es2,R2⟩:=q;simp only at h1 hl hall⊢;have h5:=ih (s+1) es2 R2 o_ o_ hall o_;have c1:((s+1:Nat):Int)=(s:Int)+1:=rfl;have c0:((0:Nat):Int)=0:=rfl;rw[c1]at h5;rw[c0]at h1;rw[<-h5];simp(maxSteps:=9^6)(disch:=omega)[ac,aa,hlen,hsh,hfs,h1]
  .rw[aa h]at hall⊢;simp(maxSteps:=9^6)(disch:=omega)[ac,aa,hlen,hsh,hfs]
end
abbrev cW:=@List.drop_drop
def afC (s:Nat):C_->Nat->C_->C_->C_×C_
 |[],_,es,R=>(es,R)
 |z::l,i,es,R=>match Nat.beq z s with
  |true=>afC s l (i+1) (es++[i]) (R.set i es.length)
  |false=>afC s l (i+1) es R
def aar {sz:C_}{s:Nat}:∀(l:C_) (k i:Nat) (es R:C_),sz.drop i=l->l.length=k->ps1 sz s k i es R=afC s l i es R
 |[],k,i,es,R,h,hk=>by
  have:k=0:=by simpa using hk.symm
  subst this;rfl
 |z::l,k,i,es,R,h,hk=>by
  obtain⟨q,rfl⟩:∃q,k=q+1:=⟨l.length,by simpa using hk.symm⟩
  have hz:nth sz i=z:=by
   have:=aY (λl=>l[0]?) h;simp only[bx,bK,cS]at this;unfold nth;rw[d9,this];rfl
  have hd:sz.drop (i+1)=l:=by
   have:=aY (λl=>l.drop 1) h;simpa [cW] using this
  have hq:l.length=q:=by simpa using hk
  rw[ps1,afC,hz];by_cases e:z=s
  .rw[ac e,aoo e,aar l q (i+1) _ _ hd hq]
  .rw[aa e,atn e,aar l q (i+1) _ _ hd hq]
def alM (sz:C_)(n:Nat):Nat->Nat->C_×C_->C_×C_
 |0,_,p=>p
 |f+1,s,p=>match Nat.ble n p.1.length with
  |true=>p
  |false=>alM sz n f (s+1) (afC s sz 0 p.1 p.2)
def akt {sz:C_}{n:Nat}(h:sz.length=n):∀(f s:Nat) (p:C_×C_),ps2 sz n f s p=alM sz n f s p
 |0,_,_=>rfl
 |f+1,s,p=>by
  rw[ps2,alM];by_cases e:p.1.length<n
  .rw[ac e,show Nat.ble n p.1.length=false by rw[<-fB,bf];omega,aar sz n 0 _ _ rfl h,akt h]
  .rw[aa e,ca (by omega:n<=p.1.length)]
def auN:∀id∈ids,alM (gq id) (aZ id) 61 0 ([],List.replicate (aZ id) 0)=(bV id,dl id):=g_
def Uo {id:Nat}:(gq id).length=aZ id:=by simp[gq]
def aus {id j:Nat}(h:j<aZ id):nth (gq id) j=qh id j:=by
 have:=CY (l:=gq id) (i:=j) (by rw[Uo];exact h);rw[gq,bM,iQ h]at this;simpa [gq] using this.symm
def au7 {a b:C_}(h:a.length=b.length)(k:∀j,j<a.length->nth a j=nth b j):a=b:=by
 apply List.ext_getElem h;intro j h1 h2;have:=k j h1
 rwa [SW h1,SW h2]at this
def afs:∀x∈ids,bn prog Mx [A_ x]=some (A_ (cA x)):=nD 100 ids (by kernel_rfl)
def aeG:bn prog CL []=some (yI 12):=(nD 400 [()] (a:=λ_=>[]) (v:=λ_=>yI 12) k_) () (.head _)
def ahL (id:Nat)(h:iD id):bn prog u4 [A_ id]=some (yI id):=by
 have hin:=dV h;obtain⟨m1,m2,m3⟩:=aad id hin;obtain⟨e1,e2,e3⟩:=aaH id hin;have hp:=afs id hin;have hm:=ahK id hin;have h0:=λa b c d p0 p1 p2 p3 R N=>ac4 id h (aZ id) rfl m1 a b c d p0 p1 p2 p3 R N (aZ id) 0 (List.replicate (aZ id) 0) o_ s_ (λj hj=>by omega)
 have h0':∀a b c d p0 p1 p2 p3 R N,(Dn prog).code (.loop iW) ⟨[(0,A_ id),(2,.ptr 0 0),(3,.ptr 1 0),(4,A_ (aZ id)),(5,.sl 3 0 (aZ id)),(6,A_ 0)],
   ⟨[(0,.cells [a,b,c,d]),(1,.cells [p0,p1,p2,p3]),(2,.arr 1 (aS R)),(3,.arr 1 (aS (List.replicate (aZ id) 0)))],N⟩⟩ =
  some (.exit 0,⟨[(2,.ptr 0 0),(3,.ptr 1 0),(4,A_ (aZ id)),(5,.sl 3 0 (aZ id))],⟨[(0,.cells [a,b,c,d]),(1,.cells [p0,p1,p2,p3]),(2,.arr 1 (aS R)),(3,.arr 1 (aS (gq id)))],N⟩⟩):=by
  intro a b c d p0 p1 p2 p3 R N;obtain⟨ys,g1,g2,g3⟩:=h0 a b c d p0 p1 p2 p3 R N;have:ys=gq id:=au7 (by rw[g2,Uo]) λj hj=>by rw[g3 j o_,aus o_]
  rw[this]at g1;exact g1
 have hps:=auN id hin;rw[<-akt Uo]at hps;have h2:=λa b c d x0 x1 N=>ac6 (aZ id) (gq id) Uo m1 a b c d x0 x1 N 61 0 [] (List.replicate (aZ id) 0) s_ s_ (by rw[hps];simp only;omega) (by omega)
 simp only[hps]at h2;have c0:((0:Nat):Int)=0:=rfl;have n0:aS ([]:C_)=[]:=rfl;rw[c0,n0,dH]at h2;have hne:aS (bV id)≠[]:=by
  intro hh;have:=aY List.length hh;rw[yf,e1]at this;simp at this;omega
 rw[fX hne]at h2;have t2:List.take (aZ id) (dl id)=dl id:=bp o_;clear h0 hps;rw[aL NQ PN rfl];have hid:(1:Int)<=id∧(id:Int)<=12:=o_;simp only[yI];generalize gq id=Z at *;generalize bV id=es at *;generalize dl id=rs at *;generalize cA id=pl at *;generalize aZ id=n at *;simp(maxSteps:=9^6)(disch:=omega)[ac,aa,hp,hm,h0',h2,yW,aek,AV.int,t2]
def okR (sz es rs:C_)(i:Nat):Bool:=Nat.beq (nA rs (nA es i)) i &&
 (Nat.beq i 0 ||Nat.blt (nA sz (nA es (i-1))) (nA sz (nA es i)) ||(Nat.beq (nA sz (nA es (i-1))) (nA sz (nA es i)) && Nat.blt (nA es (i-1)) (nA es i)))
def auV:∀id∈ids,(List.range (aZ id)).all (okR (gq id) (bV id) (dl id))=true:=g_
def aov {id i:Nat}(h:iD id)(hi:i<aZ id):nth (dl id) (nth (bV id) i)=i∧(i≠0->nth (gq id) (nth (bV id) (i-1))<nth (gq id) (nth (bV id) i)∨(nth (gq id) (nth (bV id) (i-1))=nth (gq id) (nth (bV id) i)∧nth (bV id) (i-1)<nth (bV id) i)):=by
 have:=bF.1 (auV id (dV h)) i (by simpa using hi);simp only[okR,CP,af,cZ,aC,Nat.blt,bf]at this;refine⟨this.1,λh0=>?_⟩;rcases this.2 with (h1|h1)|h1
 .exact absurd h1 h0
 .exact .inl h1
 .exact .inr h1
section
variable (n:Nat)(hn:n<=289)(sz es rs:C_)(Z:D_)(he:es.length=n)(hr:rs.length=n)(hu:eV n es)(hZ:∀x,x<n->Z[x]?=some (.d (.int .u8 (nth sz x:Nat))))
 (h1:∀i,i<n->nth rs (nth es i)=i)(h2:∀i,i+1<n->nth sz (nth es i)<nth sz (nth es (i+1))∨(nth sz (nth es i)=nth sz (nth es (i+1))∧nth es i<nth es (i+1)))
include hn he hr hu hZ h1 h2
theorem adh (x0 x1:D)(N:Nat):∀(k i:Nat),i+k=n->
  (Dn prog).code (.loop xo) ⟨[(1,.ptr 0 0),(5,.ptr 2 0),(43,.d (.lst (aS es))),(44,A_ n),(45,A_ i)],⟨[(0,.cells [.d x0,.d x1,.d (.lst (aS es)),.d (.lst (aS rs))]),(2,.cells Z)],N⟩⟩ =
  some (.exit 0,⟨[],⟨[],N⟩⟩):=by
 intro k
 induction k with
 |zero =>
  intro i h;rw[ah KG];simp(maxSteps:=9^6)(disch:=omega)[↓ac,↓aa]
 |succ k ih =>
  intro i h;have hv:=hu.nth (i:=i) o_;have e1:=hZ _ hv;have r1:=h1 i o_;have h5:=ih (i+1) o_;have c1:((i+1:Nat):Int)=(i:Int)+1:=rfl;rw[c1]at h5;rw[ah KG,<-h5];by_cases h0:i=0
  .subst h0;have c0:((0:Nat):Int)=0:=rfl;rw[c0];have n0:(0:Int)=((0:Nat):Int):=rfl;simp(maxSteps:=9^6)(disch:=omega)[↓ac,↓aa,r1]
  .obtain⟨q,rfl⟩:∃q,i=q+1:=⟨i-1,o_⟩
   have hw:=hu.nth (i:=q) o_;have e2:=hZ _ hw;rcases h2 q o_ with g|⟨g1,g2⟩
   .simp(maxSteps:=9^6)(disch:=omega)[↓ac,↓aa,r1,e1,e2]
   .simp(maxSteps:=9^6)(disch:=omega)[↓ac,↓aa,r1,e1,e2]
end
def az6 {x1:AV}{x3:AV}{h:ak}{n:Nat}:(Dn prog).code xx ⟨[(1,x1),(3,x3)],⟨h,n⟩⟩=eJ (bP (loadAt h (some 4) 1 (share x3)) λa1 h2=>bA (fh (Dn prog) gQ [firm a1] h2) λa3=>lA (put h2 n (.cells LF)) λh4=>bA (storeAt h4 289 (.ptr n 0) (firm a3)) λh5=>some ⟨[(1,x1),(3,x3),(5,.ptr n 0)],⟨h5,n+1⟩⟩):=JO
def ahG (id:Nat)(h:iD id):bn prog Jb [nb id]=some (B_ true):=by
 have hin:=dV h;obtain⟨m1,m2,m3⟩:=aad id hin;obtain⟨e1,e2,e3⟩:=aaH id hin;have ho:=WX id hin;have hm:=Iy id hin;have hz:=Yz id h;have zl:=ZW (id:=id);have zc:=ae9 (id:=id);have zf:=agq (id:=id);have z9:=ae8;have zd:List.drop (tK id).length LF=[]:=cY o_;have hu:eV (aZ id) (bV id):=λx hx=>by simpa using bF.1 e3 x hx
 have h0:=λx0 x1 N=>adh (aZ id) m1 (gq id) (bV id) (dl id) (tK id) e1 e2 hu (λx hx=>abm hx m1) (λi hi=>(aov h hi).1) (λi hi=>by have:=(aov h hi).2 o_;simpa using this) x0 x1 N (aZ id) 0 (by omega)
 simp only[Xz]at ho hm hz;rw[aL age agE rfl];have hid:(1:Int)<=id∧(id:Int)<=12:=o_;have c0:((0:Nat):Int)=0:=rfl;rw[c0]at h0;simp only[nb];generalize tK id=Z at *;generalize gq id=zs at *;generalize bV id=es at *;generalize dl id=rs at *;generalize cA id=pl at *;generalize dI id=dm at *;generalize c4 id=lo at *;generalize cO id=wi at *;generalize aZ id=n at *;simp(maxSteps:=9^6)(disch:=omega)[↓ac,↓aa,ho,hm,hz,h0,-JO,az6,afG,zc,zf,zd,AV.int,e1,e2]
abbrev mo:=@Int.natCast_nonneg
def jt (b:C_):Nat->Nat->Int->R Nat
 |0,_,_=>.er 7
 |f+1,m,a=>(aE b a 1).bind λv n=>if v=1 then .ok m n else jt b f (m+1) n
abbrev pZ (b:C_)(m n:Nat):Prop:=m<=9∧n<=b.length
def agO {b:C_}:∀{f m k n:Nat}{a:Int},f+m=10->jt b f m a=.ok k n->pZ b k n
 |0,_,_,_,_,_,h=>absurd h (by simp[jt])
 |f+1,m,k,n,a,hf,h=>by
  rw[jt]at h
  cases h1:aE b a 1 with
  |er e=>rw[h1]at h;exact absurd h (by simp)
  |ok v a1 =>
   rw[h1,ao]at h;by_cases hv:v=1
   .rw[ac hv]at h;injection h with e1 e2
    subst e1 e2;exact⟨o_,(cu h1).2⟩
   .rw[aa hv]at h;exact agO o_ h
def asg {α γ:Type}{p:α->Nat->Prop}{b:C_}{f m:Nat}{a:Int}{g:Nat->Nat->R α}{F:α->Nat->γ}{G:Nat->γ}(h:f+m=10):rK p ((jt b f m a).bind g) F G=rK (pZ b) (jt b f m a) (λv n=>rK p (g v n) F G) G:=fF λ_ _ h2=>agO h h2
def acv {γ:Type}{b:C_}{f m:Nat}{a:Int}{F:Nat->Nat->γ}{G:Nat->γ}(h:f+1+m=10):rK (pZ b) (jt b (f+1) m a) F G=rK (pG b 1) (aE b a 1) (λv n=>if v=1 then F m n else rK (pZ b) (jt b f (m+1) n) F G) G:=by
 rw[jt,ky];refine cy (λ_ _=>rfl) (λv n hp=>?_) λ_=>rfl
 by_cases hv:v=1
 .rw[ac hv,ac hv,b9 ⟨o_,hp.2⟩]
 .rw[aa hv,aa hv]
def zg (id:Nat)(b:C_)(a:Int):R Nat :=
 (jt b 10 0 a).bind λm n=>(aE b n m).bind λhi n=>(aE b n (cA id)).bind λlo n =>
  if (bV id).length<=(2 ^ m+hi-1)*2 ^ cA id+lo then .er 7 else .ok (nth (bV id) ((2 ^ m+hi-1)*2 ^ cA id+lo)) n
def agF (b:C_)(hb:b.length<=1000000000)(X:Obj)(N:Nat):∀(f m:Nat) (a:Int),f+m=10->i64 a->
  (Dn prog).code (.loop yZ) ⟨[(1,.d (.lst (ax b))),(3,.ptr 0 0),(7,A_ a),(9,A_ m),(10,A_ 0)],⟨[(0,X)],N⟩⟩ =
  rK (pZ b) (jt b f m a) (λm n=>some (.exit 0,⟨[(1,.d (.lst (ax b))),(3,.ptr 0 0),(7,A_ n),(9,A_ ((m+1:Nat):Int))],⟨[(0,X)],N⟩⟩)) (λe=>some (.ret,⟨[(6,A_ 0),(7,A_ 0),(8,A_ (e+1))],⟨[],N⟩⟩)):=by
 intro f
 induction f with
 |zero =>
  intro m a hf ha;rw[ah FM,jt];simp(maxSteps:=9^6)(disch:=omega)[ac,aa]
 |succ f ih =>
  intro m a hf ha;rw[ah FM,acv hf];simp(maxSteps:=9^6)(disch:=omega)[ac,aa,io];refine cy (λ_ _=>rfl) (λv n hp=>?_) λ_=>rfl
  have hp4:v<2:=hp.1;by_cases h4:v=1
  .subst h4;rw[ac rfl,ah FM];simp(maxSteps:=9^6)(disch:=omega)[ac,aa]
  .have h5:v=0:=o_;subst h5;have h:=ih (m+1) n o_ o_;rw[aa h4];simp at h⊢;exact h
def ZQ (b:C_)(hb:b.length<=1000000000)(X:Obj)(N:Nat):∀(f m:Nat) (a:Int),f+m=10->i64 a->
  (Dn prog).code (.loop kB) ⟨[(1,.d (.lst (ax b))),(2,A_ a),(3,.ptr 0 0),(9,A_ m)],⟨[(0,X)],N⟩⟩ =
  rK (pZ b) (jt b f m a) (λm n=>some (.exit 0,⟨[(1,.d (.lst (ax b))),(2,A_ n),(3,.ptr 0 0),(9,A_ m)],⟨[(0,X)],N⟩⟩)) (λe=>some (.ret,⟨[(6,A_ 0),(7,A_ 0),(8,A_ (e+1))],⟨[],N⟩⟩)):=by
 intro f
 induction f with
 |zero =>
  intro m a hf ha;rw[ah xR,jt];simp(maxSteps:=9^6)(disch:=omega)[ac,aa]
 |succ f ih =>
  intro m a hf ha;rw[ah xR,acv hf];simp(maxSteps:=9^6)(disch:=omega)[ac,aa,jg];refine cy (λ_ _=>rfl) (λv n hp=>?_) λ_=>rfl
  have hp4:v<2:=hp.1;by_cases h4:v=1
  .subst h4;rw[ac rfl];simp(maxSteps:=9^6)(disch:=omega)[ac,aa]
  .have h5:v=0:=o_;subst h5;rw[aa h4,<-ih (m+1) n o_ o_];simp
def akE (id:Nat)(h:iD id):bn prog Jb [nb id]=some (B_ true):=ahG id h
def afT (id:Nat)(h:iD id):bn prog II [A_ id]=some (.tup [yI id,A_ 0]):=apc id h
def amS (id:Nat)(h:iD id):bn prog u4 [A_ id]=some (yI id):=ahL id h
def ahY:bn prog CL []=some (yI 12):=aeG
def ad9 {γ:Type}{id:Nat}{b:C_}{a:Int}(hid:iD id){F:Nat->Nat->γ}{G:Nat->γ}:rK (λe n=>e<aZ id∧n<=b.length) (zg id b a) F G =
  rK (pZ b) (jt b 10 0 a) (λm n=>rK (pG b m) (aE b n m) (λhi n=>rK (pG b (cA id)) (aE b n (cA id)) (λlo n =>
  if (bV id).length<=(2 ^ m+hi-1)*2 ^ cA id+lo then G 7 else F (nth (bV id) ((2 ^ m+hi-1)*2 ^ cA id+lo)) n) G) G) G:=by
 rw[zg,asg rfl];refine cy (λ_ _=>rfl) (λm n hp=>?_) λ_=>rfl
 rw[ky];refine cy (λ_ _=>rfl) (λhi n hp=>?_) λ_=>rfl
 rw[ky];refine cy (λ_ _=>rfl) (λlo n hp=>?_) λ_=>rfl
 by_cases hr:(bV id).length<=(2 ^ m+hi-1)*2 ^ cA id+lo
 .rw[ac hr,ac hr,ee]
 .rw[aa hr,aa hr,b9];exact⟨(CU o_).2.2.2 _ (iL o_),hp.2⟩
abbrev FA:VC:=(.seq (.seq Et (.cond (.m 73) (.seq (.seq (K [7,13]) (F 3)) (.seq DC .ret)) .skip)) (.seq (.seq Dh (F 3)) .ret))
def amT {m:Nat}(h:m<=60):fT .shl (A_ 1) (A_ m)=some (.int .i64 ((2 ^ m:Nat):Int)):=by
 have h2:2 ^ m<=2 ^ 60:=aA o_ h;have h3:min m 64=m:=o_;rw[I9 o_,au,IntKind.bits,h3];generalize 2 ^ m=P at *;rw[YU o_ o_,Int.one_mul]
def alA {x:Int}{m P:Nat}(hP:2 ^ m=P)(hm:m<=60)(h0:0<=x)(h1:x*P<=4611686018427387904):fT .shl (A_ x) (A_ m)=some (.int .i64 (x*P)):=by
 subst hP;have h2:2 ^ m<=2 ^ 60:=aA o_ hm;have h3:min m 64=m:=o_;rw[I9 o_,au,IntKind.bits,h3];have:0<=x*((2 ^ m:Nat):Int):=Int.mul_nonneg h0 (mo _);generalize x*((2 ^ m:Nat):Int)=y at *;rw[YU o_ o_]
def awJ {x:Int}(h0:0<=x)(h1:x<=100000000):fT .shl (A_ x) (A_ 0)=some (.int .i64 x):=by
 have:=alA (x:=x) (m:=0) (P:=1) rfl o_ h0 o_;simpa using this
def axy {x:Int}(h0:0<=x)(h1:x<=100000000):fT .shl (A_ x) (A_ 1)=some (.int .i64 (x*2)):=by
 have:=alA (x:=x) (m:=1) (P:=2) rfl o_ h0 o_;simpa using this
def aym {x:Int}(h0:0<=x)(h1:x<=100000000):fT .shl (A_ x) (A_ 2)=some (.int .i64 (x*4)):=by
 have:=alA (x:=x) (m:=2) (P:=4) rfl o_ h0 o_;simpa using this
def aco (id:Nat)(b:C_)(a:Int)(hb:b.length<=1000000000)(ha:i64 a)(hid:iD id):bn prog Lw [nb id,.d (.lst (ax b)),A_ a] =
  rK (λe n=>e<aZ id∧n<=b.length) (zg id b a) (λe n=>some (.tup [A_ e,A_ n,A_ 0])) (λe=>some (.tup [A_ 0,A_ 0,A_ (e+1)])):=by
 have hr:=akE id hid;have hf:=CU (id:=id) o_;rw[aL aik aii rfl,ad9 hid];have hl:=λX N=>agF b hb X N 10 0 a rfl ha
 have c0:((0:Nat):Int)=0:=rfl;simp only[c0]at hl;simp only[nb]at hr⊢;obtain⟨f1,f2,f3,-⟩:=hf;generalize bV id=es at *;generalize dl id=rs at *;generalize cA id=pl at *;simp(maxSteps:=9^6)(disch:=omega)[ac,aa,hr,hl];refine cy (λ_ _=>rfl) (λm n hp=>?_) λ_=>rfl
 have hp2:2 ^ m<=2 ^ 9:=aA o_ hp.1;have e1:(m:Int)+1-1=m:=o_;have hs1:=amT (m:=m) o_;have hp1:=hp.1;have hpos:0<2 ^ m:=df m;have c1:((1:Nat):Int)=1:=rfl;have c2:((2:Nat):Int)=2:=rfl;generalize hP:2 ^ m=P at *;have fin:∀(x:Nat) (n:Nat) (i1 p:Int),x<=100000->mO (nX [.tmp 6,.tmp 7,.tmp 8] ((Dn prog).code (FA) ⟨[(3,.ptr 0 0),(7,A_ n),(13,A_ x)],⟨[(0,.cells [A_ i1,A_ p,.d (.lst (aS es)),.d (.lst (aS rs))])],1⟩⟩)) =
   if es.length<=x then some (.tup [A_ 0,A_ 0,A_ 8]) else some (.tup [A_ ((nth es x:Nat):Int),A_ n,A_ 0]):=λx n i1 p hx=>by
  by_cases hr:es.length<=x
  .rw[ac hr];simp(maxSteps:=9^6)(disch:=omega)[ac]
  .rw[aa hr];simp(maxSteps:=9^6)(disch:=omega)[aa]
 have hpl:pl=0∨pl=1∨pl=2:=o_;obtain⟨T,ht⟩:∃T,T=FA:=⟨_,rfl⟩
 rw[<-ht]at fin;unfold FA at ht;rw[<-ht];rcases hpl with rfl|rfl|rfl
 all_goals
  simp(maxSteps:=9^6)(disch:=omega)[ac,aa,io,e1,-I9,hs1];refine cy (λ_ _=>rfl) (λhi n hp=>?_) λ_=>rfl
  refine cy (λ_ _=>rfl) (λlo n hq=>?_) λ_=>rfl
  have h1:hi<P:=hP▸hp.1;have h2:lo<4:=aW hq.1 d_;simp(maxSteps:=9^6)(disch:=omega)[-I9,awJ,axy,aym]
 .have e3:((P+hi-1+lo:Nat):Int)=P+hi-1+lo:=o_;rw[<-e3,fin _ n id 0 o_]
 .have e3:(((P+hi-1)*2+lo:Nat):Int)=(P+hi-1)*2+lo:=o_;rw[<-e3,fin _ n id 1 o_]
 .have e3:(((P+hi-1)*4+lo:Nat):Int)=(P+hi-1)*4+lo:=o_;rw[<-e3,fin _ n id 2 o_]
abbrev pf:VC:=(.seq (.seq oF (.cond (.m 83) (.seq (.seq (K [17,19]) (F 3)) (.seq ou .ret)) .skip)) (.seq (.seq oi (F 3)) .ret))
def ap5 {b:C_}{a s:Int}(h:¬(0<=a∧a<=b.length)):aE b a s=.er 1:=by
 unfold aE;rw[aa o_]
def U3 (id:Nat)(b:C_)(a:Int)(hb:b.length<=1000000000)(ha:i64 a)(hid:iD id):bn prog CX [nb id,.d (.lst (ax b)),A_ a] =
  rK (λe n=>e<aZ id∧n<=b.length) (zg id b a) (λe n=>some (.tup [A_ e,A_ n,A_ 0])) (λe=>some (.tup [A_ 0,A_ 0,A_ (e+1)])):=by
 have hf:=CU (id:=id) o_;rw[aL Nf Mv rfl,ad9 hid];have hl:=λX N=>ZQ b hb X N 10 0 a rfl ha
 have c0:((0:Nat):Int)=0:=rfl;simp only[c0]at hl;simp only[nb];obtain⟨f1,f2,f3,-⟩:=hf;generalize bV id=es at *;generalize dl id=rs at *;generalize cA id=pl at *;by_cases h0:0<=a∧a<=b.length
 .have T0:=Cx 0 o_;have T1:=Cx 1 o_;have T2:=Cx 2 o_;simp at T0 T1 T2;simp(maxSteps:=9^6)(disch:=omega)[ac,aa,hl];refine cy (λ_ _=>rfl) (λm n hp=>?_) λ_=>rfl
  have hp2:2 ^ m<=2 ^ 9:=aA o_ hp.1;have hT:=Cx m o_;have hp1:=hp.1;have hpos:0<2 ^ m:=df m;generalize hP:2 ^ m=P at *;have fin:∀(x:Nat) (n:Nat) (i1 p:Int),x<=100000->mO (nX [.tmp 6,.tmp 7,.tmp 8] ((Dn prog).code (pf) ⟨[(3,.ptr 0 0),(17,A_ n),(19,A_ x)],⟨[(0,.cells [A_ i1,A_ p,.d (.lst (aS es)),.d (.lst (aS rs))])],1⟩⟩)) =
    if es.length<=x then some (.tup [A_ 0,A_ 0,A_ 8]) else some (.tup [A_ ((nth es x:Nat):Int),A_ n,A_ 0]):=λx n i1 p hx=>by
   by_cases hr:es.length<=x
   .rw[ac hr];simp(maxSteps:=9^6)(disch:=omega)[ac]
   .rw[aa hr];simp(maxSteps:=9^6)(disch:=omega)[aa]
  have hpl:pl=0∨pl=1∨pl=2:=o_;obtain⟨T,ht⟩:∃T,T=pf:=⟨_,rfl⟩
  rw[<-ht]at fin;unfold pf at ht;rw[<-ht];rcases hpl with rfl|rfl|rfl
  all_goals
   simp(maxSteps:=9^6)(disch:=omega)[ac,aa,jg,hT,T0,T1,T2];refine cy (λ_ _=>rfl) (λhi n hp=>?_) λ_=>rfl
   refine cy (λ_ _=>rfl) (λlo n hq=>?_) λ_=>rfl
   have h1:hi<P:=hP▸hp.1;have h2:lo<4:=aW hq.1 d_;simp(maxSteps:=9^6)(disch:=omega)
  .have e3:((P+hi-1+lo:Nat):Int)=P+hi-1+lo:=o_;rw[<-e3,fin _ n id 0 o_]
  .have e3:(((P+hi-1)*2+lo:Nat):Int)=(P+hi-1)*2+lo:=o_;rw[<-e3,fin _ n id 1 o_]
  .have e3:(((P+hi-1)*4+lo:Nat):Int)=(P+hi-1)*4+lo:=o_;rw[<-e3,fin _ n id 2 o_]
 .rw[show jt b 10 0 a=.er 1 by rw[jt,ap5 h0,aQ],ee];by_cases h1:a<0
  .simp(maxSteps:=9^6)(disch:=omega)[ac,aa]
  .simp(maxSteps:=9^6)(disch:=omega)[ac,aa]
abbrev ib:=@List.singleton_append
def mt:∀id∈ids,1<=dI id∧dI id<=4∧1<=cO id∧cO id<=121∧-60<=c4 id∧c4 id<=0∧aZ id<=300:=g_
def ang (dim low pl:Int)(w:Nat)(hw:w<=1000)(hl:-1000<=low∧low<=1000):bn prog vS [.agg [A_ dim,A_ low,A_ (low+w-1),A_ pl]]=some (A_ w):=by
 rw[aL Wb WN rfl];have e:low+(w:Int)-1-low+1=w:=o_;simp(disch:=omega)[e]
def td (e w:Nat):(e:Int).tdiv w=((e / w:Nat):Int):=rfl
def tm (e w:Nat):(e:Int).tmod w=((e % w:Nat):Int):=rfl
def avQ {j:Nat}{x:Int}{suf:E_}:(List.replicate (j+1) (0:Int)++suf).set j x=List.replicate j 0++x::suf:=by
 rw[List.replicate_succ',aw,oG _ _ s_];simp
def ZV (low:Int)(w pl dim:Nat)(hw:1<=w∧w<=1000)(hl:-1000<=low∧low<=1000):∀(j e:Nat) (suf:E_),j+suf.length=dim->dim<=10->e<=100000->
  (Dn prog).code (.loop mT) ⟨[(1,A_ e),(2,.ptr 0 0),(5,.sl 1 0 dim),(6,A_ (j-1))],⟨[(0,.cells [A_ dim,A_ low,A_ (low+w-1),A_ pl]),(1,.arr 1 (am (List.replicate j 0++suf)))],2⟩⟩ =
   some (.exit 0,⟨[(5,.sl 1 0 dim)],⟨[(1,.arr 1 (am (fS low w j e++suf)))],2⟩⟩):=by
 intro j
 induction j with
 |zero =>
  intro e suf h1 h2 h3;rw[ah CG];simp(disch:=omega)[aa,fS]
 |succ j ih =>
  intro e suf h1 h2 h3;have hm:e % w<w:=gK _ o_;have hd:e / w<=e:=lR _ _;have h:=ih (e / w) ((((e % w:Nat):Int)+low)::suf) t_ h2 o_;rw[fS,aw,ib,<-h,<-avQ,ah CG];have hk:=ang dim low pl w o_ hl;have e1:((j+1:Nat):Int)-1=j:=o_;have hg:(am (List.replicate (j+1) 0++suf))[j]?=some [.int .i64 (nth (List.replicate (j+1) 0++suf) j)]:=B7 t_;simp only[e1];have td:=td e w;have tm:=tm e w;generalize hL:List.replicate (j+1) (0:Int)++suf=L at *;generalize e / w=q at *;generalize e % w=r at *;clear ih h;simp(maxSteps:=9^6)(disch:=omega)[ac,hk,td,tm,hg]
def WA (id e:Nat)(h:iD id)(he:e<=100000):bn prog Hb [Xz id,A_ e]=some (.own true 1 (am (iJ id e))):=by
 obtain⟨k1,k2,k3,k4,k5,k6,k7⟩:=mt id (dV h);have hl:=ZV (c4 id) (cO id) (cA id) (dI id) o_ o_ (dI id) e [] s_ o_ he;rw[aL Tq Sw rfl];simp only[Xz,iJ,aR]at hl⊢;have hr:am (List.replicate (dI id) 0)=List.replicate (dI id) [D.int .i64 0]:=by simp[am]
 rw[hr]at hl;have hv:(fS (c4 id) (cO id) (dI id) e).length=dI id:=by
  have:∀(d e:Nat),(fS (c4 id) (cO id) d e).length=d:=by
   intro d
   induction d with
   |zero=>intro e;rfl
   |succ d ih=>intro e;simp[fS,ih]
  exact this _ _
 generalize c4 id=low at *;generalize cO id=w at *;generalize dI id=dim at *;generalize cA id=pl at *;generalize fS low w dim e=V at *;simp(maxSteps:=9^6)(disch:=omega)[hl,yW];exact⟨o_,by rw[bp o_]⟩
def VS (id e:Nat)(h:iD id)(he:e<aZ id):bn prog H1 [A_ id,A_ e]=some (.tup [.own true 1 (am (iJ id e)),A_ 0]):=by
 obtain⟨k1,k2,k3,k4,k5,k6,k7⟩:=mt id (dV h);have h1:=WX id (dV h);have h2:=Iy id (dV h);have h3:=WA id e h o_;rw[aL ade adn rfl];simp only[Xz]at h1 h2 h3;generalize c4 id=low at *;generalize cO id=w at *;generalize dI id=dim at *;generalize cA id=pl at *;generalize aZ id=mn at *;generalize iJ id e=V at *;simp(maxSteps:=9^6)(disch:=omega)[h1,h2,h3,aa]
def aiS (id:Nat)(hid:iD id):∀(k i e:Nat) (acc:E_),i+k=dI id->acc.length+k<=100->e<=100000->∀(hs:HS),
  (Dn prog).code (.loop nc) ⟨[(0,A_ id),(1,A_ e),(5,A_ (cO id)),(6,al 1 (am acc)),(7,A_ i)],hs⟩ =
   some (.exit 0,⟨[(6,al 1 (am (fS (c4 id) (cO id) k e++acc)))],hs⟩):=by
 obtain⟨k1,k2,k3,k4,k5,k6,k7⟩:=mt id (dV hid);have h1:=X4 id (dV hid);have h2:=OW id (dV hid);generalize c4 id=low at *;generalize cO id=w at *;generalize dI id=dim at *;intro k
 induction k with
 |zero =>
  intro i e acc hi hl he hs;obtain⟨hh,hn⟩:=hs;rw[ah CV];simp(maxSteps:=9^6)(disch:=omega)[aa,h1,fS]
 |succ k ih =>
  intro i e acc hi hl he hs;have hm:e % w<w:=gK _ o_;have hd:e / w<=e:=lR _ _;have h:=ih (i+1) (e / w) ((((e % w:Nat):Int)+low)::acc) o_ t_ o_ hs;obtain⟨hh,hn⟩:=hs;rw[fS,aw,ib,<-h,ah CV];have td:=td e w;have tm:=tm e w;have hla:(am acc).length<1000000000:=by simp;omega
  generalize e / w=q at *;generalize e % w=r at *;clear ih h;simp(maxSteps:=9^6)(disch:=omega)[ac,h1,h2,td,tm];rw[Int.add_comm low];rfl
def arF (id e:Nat)(h:iD id)(he:e<=100000):bn prog GT [A_ id,A_ e]=some (.own true 1 (am (iJ id e))):=by
 have hl:=aiS id h (dI id) 0 e [] o_ (by have:=(mt id (dV h)).2.1;simp;omega) he;obtain⟨k1,k2,k3,k4,k5,k6,k7⟩:=mt id (dV h);have h2:=OW id (dV h);have h3:=Vn id (dV h);have hne:am (iJ id e)≠[]:=by
  unfold iJ;obtain⟨d,hd⟩:∃d,dI id=d+1:=⟨dI id-1,o_⟩
  rw[hd,fS];simp[am]
 have c0:((0:Nat):Int)=0:=rfl;rw[aL Sj RC rfl];unfold iJ at hne⊢;have e1:c4 id+(cO id:Int)-1-c4 id+1=cO id:=o_;have hi0:am []=[]:=rfl;simp only[aR,hi0,dH,c0,fX hne]at hl;generalize c4 id=low at *;generalize cO id=w at *;generalize dI id=dim at *;generalize fS low w dim e=V at *;simp(maxSteps:=9^6)(disch:=omega)[h2,h3,hl,e1]
def rN (b:C_)(st:RS)(s:Int):RS:=if st.e=0 then (if eO b st.a s=0 then ⟨nO b st.a s,0⟩ else ⟨st.a,eO b st.a s⟩) else st
def RW {b:C_}{st:RS}{s:Int}(hb:b.length<=1000000000)(h:st.fit):(rN b st s).fit:=by
 unfold rN;have:=adT (b:=b) (a:=st.a) (s:=s);have h2:i64 st.a:=h;split
 .split
  .show i64 _;simp only[];omega
  .exact h
 .exact h
abbrev rdC (b:C_)(st:RS):Obj:=.cells [.d (.lst (ax b)),A_ (ra st),A_ (re st)]
abbrev h4 (b:C_)(X0 X1 X3:Obj)(st:RS):ak:=[(0,X0),(1,X1),(2,rdC b st),(3,X3)]
def PP (b:C_)(hb:b.length<=1000000000)(X0 X1 X3:Obj)(N:Nat)(st:RS)(s:Int)(hf:st.fit):(Dn prog).call Az [.ptr 2 0,A_ s] ⟨h4 b X0 X1 X3 st,N⟩ =
  some (A_ (sV b st s),⟨h4 b X0 X1 X3 (rN b st s),N⟩):=by
 rw[bC UN UT rfl];obtain⟨a,e⟩:=st;have hf:i64 a:=hf;by_cases he:e=0
 .subst he;by_cases h2:eO b a s=0
  .simp(config := { maxSteps:=9^7 }) (disch:=omega)[Ky,ra,re,sV,rN,h2]
  .simp(config := { maxSteps:=9^7 }) (disch:=omega)[Ky,ra,re,sV,rN,h2]
 .simp(config := { maxSteps:=9^7 }) (disch:=omega)[ra,re,sV,rN,he]
def jc (b:C_):Nat->Nat->RS->Nat×RS
 |0,m,st=>(m,st)
 |f+1,m,st=>if sV b st 1=1∧re (rN b st 1)=0 then jc b f (m+1) (if 8<m+1 then ⟨ra (rN b st 1),8⟩ else rN b st 1) else (m,rN b st 1)
def UJ (b:C_)(hb:b.length<=1000000000)(X0 X1 X3:Obj)(N:Nat):∀(f m:Nat) (st:RS),f+m=10->m<=9->st.fit->(m=9->st.e≠0)->
  (Dn prog).code (.loop kI) ⟨[(0,.ptr 2 0),(3,A_ m)],⟨h4 b X0 X1 X3 st,N⟩⟩ =
  some (.exit 0,⟨[(0,.ptr 2 0),(3,A_ ((jc b f m st).1))],⟨h4 b X0 X1 X3 (jc b f m st).2,N⟩⟩):=by
 intro f
 induction f with
 |zero=>intro m st h1 h0 h2 h3;omega
 |succ f ih =>
  intro m st h1 h0 h2 h3;rw[ah Jw,jc];have hg:=PP b hb X0 X1 X3 N st 1 h2;have hf:=RW (s:=1) hb h2;simp only[h4]at hg;by_cases hc:sV b st 1=1∧re (rN b st 1)=0
  .rw[ac hc];have he:st.e=0:=by
    have:=hc.1;unfold sV at this;by_cases h:st.e=0
    .exact h
    .rw[aa h]at this;omega
   have hm:m≠9:=λh=>h3 h he
   by_cases h8:8<m+1
   .rw[ac h8];have ih:=ih (m+1) ⟨ra (rN b st 1),8⟩ o_ o_ hf (λ_=>by simp);simp only[h4,show ra (⟨ra (rN b st 1),8⟩:RS)=ra (rN b st 1) from rfl,show re (⟨ra (rN b st 1),8⟩:RS)=8 from rfl]at ih⊢;rw[<-ih];simp(maxSteps:=9^6)(disch:=omega)[hg,hc.1,hc.2,↓ac,↓aa];rfl
   .rw[aa h8];have ih:=ih (m+1) (rN b st 1) o_ o_ hf (λh=>by omega);simp only[h4]at ih⊢;rw[<-ih];simp(maxSteps:=9^6)(disch:=omega)[hg,hc.1,hc.2,↓ac,↓aa]
  .rw[aa hc];by_cases h1:sV b st 1=1
   .have h2:¬re (rN b st 1)=0:=λh=>hc ⟨h1,h⟩
    simp(maxSteps:=9^6)(disch:=omega)[hg,h1,h2,↓ac,↓aa]
   .simp(maxSteps:=9^6)(disch:=omega)[hg,h1,↓ac,↓aa]
def WL {b:C_}:∀{f m:Nat}{st:RS},(jc b f m st).1<=m+f
 |0,m,st=>by simp[jc]
 |f+1,m,st=>by
  rw[jc];split
  .have:=WL (b:=b) (f:=f) (m:=m+1) (st:=if 8<m+1 then ⟨ra (rN b st 1),8⟩ else rN b st 1);omega
  .simp only[];omega
def Tj {b:C_}(hb:b.length<=1000000000):∀{f m:Nat}{st:RS},st.fit->(jc b f m st).2.fit
 |0,m,st,h=>by simpa [jc] using h
 |f+1,m,st,h=>by
  have hr:=RW (s:=1) hb h;rw[jc];split
  .refine Tj hb ?_;split
   .exact hr
   .exact hr
  .exact hr
def Sc (b:C_)(st:RS):Nat:=2 ^ ((jc b 10 0 st).1+4)+sV b (jc b 10 0 st).2 (((jc b 10 0 st).1+4:Nat):Int)
def HI (b:C_)(st:RS):RS:=rN b (jc b 10 0 st).2 (((jc b 10 0 st).1+4:Nat):Int)
def asm {b:C_}{st:RS}(hb:b.length<=1000000000)(h:st.fit):(HI b st).fit:=RW hb (Tj hb h)
def ai9 {b:C_}{st:RS}:Sc b st<32768:=by
 unfold Sc;have h1:=WL (b:=b) (f:=10) (m:=0) (st:=st);have h2:=lI (b:=b) (st:=(jc b 10 0 st).2) (s:=(((jc b 10 0 st).1+4:Nat):Int));rw[au]at h2;have h3:2 ^ ((jc b 10 0 st).1+4)<=2 ^ 14:=aA o_ o_;omega
def Z5 (b:C_)(hb:b.length<=1000000000)(X0 X1 X3:Obj)(N:Nat)(st:RS)(hf:st.fit):(Dn prog).call CJ [.ptr 2 0] ⟨h4 b X0 X1 X3 st,N⟩ =
  some (A_ (Sc b st),⟨h4 b X0 X1 X3 (HI b st),N⟩):=by
 rw[bC M3 Nj rfl];have hl:=UJ b hb X0 X1 X3 N 10 0 st rfl o_ hf o_;have hv:=ai9 (b:=b) (st:=st);have h1:=WL (b:=b) (f:=10) (m:=0) (st:=st);have hf2:=Tj (f:=10) (m:=0) hb hf;unfold Sc HI at *;generalize jc b 10 0 st=p at *;obtain⟨m,s2⟩:=p;simp only at hl hv h1 hf2⊢;have hg:=PP b hb X0 X1 X3 N s2 ((m+4:Nat):Int) hf2;have c0:((0:Nat):Int)=0:=rfl;have hs:=amT (m:=m+4) o_;have c1:((m+4:Nat):Int)=(m:Int)+4:=o_;simp only[c0,h4,c1]at hl hg hs;have hpos:0<2 ^ (m+4):=df _;have c2:((2 ^ (m+4)+sV b s2 ((m:Int)+4):Nat):Int)=((2 ^ (m+4):Nat):Int)+sV b s2 ((m:Int)+4):=o_;simp only[h4,c1,c2];rw[c1]at hv;generalize 2 ^ (m+4)=P at *;simp(maxSteps:=9^6)(disch:=omega)[hl,hg,hs,-I9]
def yq (b:C_):E_->RS->C_
 |[],_=>[]
 |v::r,st=>if v=0 then 0::yq b r st else sV b st 1::yq b r (rN b st 1)
def ui (b:C_):E_->RS->RS
 |[],st=>st
 |v::r,st=>if v=0 then ui b r st else ui b r (rN b st 1)
def sg (s:Nat)(v:Int):Int:=if s=1 then -v else v
def Ib (b:C_)(id:Nat):E_->C_->RS->E_
 |v::r,s::ss,st=>if id=11∧v=16 then sg s (Sc b st)::Ib b id r ss (HI b st) else sg s v::Ib b id r ss st
 |_,_,_=>[]
def zU (b:C_)(id:Nat):E_->C_->RS->RS
 |v::r,_::ss,st=>if id=11∧v=16 then zU b id r ss (HI b st) else zU b id r ss st
 |_,_,st=>st
def Uy {α:Type}{a r:List α}{x y:α}:(a++x::r).set a.length y=a++y::r:=by
 rw[oG _ _ o_];simp
def aqn {a r:C_}{x:Nat}:nth (a++x::r) a.length=x:=by simp[nth]
def JH {a r:E_}{x:Int}:nth (a++x::r) a.length=x:=by simp[nth]
def aio (b:C_)(hb:b.length<=1000000000)(X0:Obj)(N:Nat)(vals:E_)(hl:vals.length<=100):∀(vs:E_) (pre:E_) (sgn:C_) (st:RS),vals=pre++vs->sgn.length=pre.length->st.fit->
  (Dn prog).code (.loop wd) ⟨[(5,.ptr 0 0),(6,.sl 1 0 vals.length),(10,.ptr 2 0),(11,.sl 3 0 vals.length),(51,.sl 1 0 vals.length),(52,A_ vals.length),(53,A_ pre.length)],⟨h4 b X0 (.arr 1 (am vals)) (.arr 1 (aS (sgn++List.replicate vs.length 0))) st,N⟩⟩ =
  some (.exit 0,⟨[(5,.ptr 0 0),(6,.sl 1 0 vals.length),(10,.ptr 2 0),(11,.sl 3 0 vals.length)],⟨h4 b X0 (.arr 1 (am vals)) (.arr 1 (aS (sgn++yq b vs st))) (ui b vs st),N⟩⟩):=by
 intro vs
 induction vs with
 |nil =>
  intro pre sgn st h1 h2 h3;rw[aR]at h1;subst h1;rw[ah QO];simp(maxSteps:=9^6)(disch:=omega)[↓aa,yq,ui]
 |cons v vs ih =>
  intro pre sgn st h1 h2 h3;have hlen:vals.length=pre.length+(vs.length+1):=by rw[h1];simp
  have hgv:nth vals pre.length=v:=by rw[h1];exact JH
  have hgi:(am vals)[pre.length]?=some [.int .i64 v]:=by rw[B7 o_,hgv]
  have hg:=λX1 X3=>PP b hb X0 X1 X3 N st 1 h3
  rw[ah QO,ar,cD];have hsl:(aS (sgn++0::List.replicate vs.length 0))[pre.length]?=some [.int .i64 0]:=by
   rw[JD t_,<-h2,aqn];rfl
  simp only[h4]at hg⊢;by_cases hv:v=0
  .subst hv;have ih:=ih (pre++[0]) (sgn++[0]) st (by rw[h1];simp) (by simp[h2]) h3;simp only[h4]at ih;simp only[yq,ui,bR];simp(maxSteps:=9^6)(disch:=omega)[↓ac,↓aa,hgi];simp at ih;exact ih
  .have ih:=ih (pre++[v]) (sgn++[sV b st 1]) (rN b st 1) (by rw[h1];simp) (by simp[h2]) (RW hb h3);simp only[h4]at ih;simp only[yq,ui,aa hv];simp(maxSteps:=9^6)(disch:=omega)[↓ac,↓aa,hgi,hv,hg,hsl];simp at ih;exact ih
def ahJ (b:C_)(hb:b.length<=1000000000)(id:Nat)(pl:Int)(x2 x3:AV)(N len:Nat)(hlen:len<=100)(sgn:C_)(hsg:sgn.length=len):∀(vs:E_) (done:E_) (st:RS),done.length+vs.length=len->(∀v∈vs,0<=v∧v<=130)->st.fit->
  (Dn prog).code (.loop vX) ⟨[(5,.ptr 0 0),(6,.sl 1 0 len),(10,.ptr 2 0),(11,.sl 3 0 len),(66,.sl 1 0 len),(67,A_ len),(68,A_ done.length)],⟨h4 b (.cells [A_ id,A_ pl,x2,x3]) (.arr 1 (am (done++vs))) (.arr 1 (aS sgn)) st,N⟩⟩ =
  some (.exit 2,⟨[(6,.sl 1 0 len),(10,.ptr 2 0)],⟨[(1,.arr 1 (am (done++Ib b id vs (sgn.drop done.length) st))),(2,rdC b (zU b id vs (sgn.drop done.length) st)),(3,.arr 1 (aS sgn))],N⟩⟩):=by
 intro vs
 induction vs with
 |nil =>
  intro done st h1 h2 h3;rw[ah Qk];have:done.length=len:=by simpa using h1
  simp(maxSteps:=9^6)(disch:=omega)[↓aa,Ib,zU]
 |cons v vs ih =>
  intro done st h1 h2 h3;have hv:=h2 v s_;have h1:done.length+(vs.length+1)=len:=by simpa using h1
  have hgi:(am (done++v::vs))[done.length]?=some [.int .i64 v]:=by rw[B7 s_,JH]
  have hgs:(aS sgn)[done.length]?=some [.int .i64 (nth sgn done.length:Nat)]:=JD o_;have hset:∀x:Int,(am (done++v::vs)).set done.length [.int .i64 x]=am (done++x::vs):=λx=>by rw[V8,Uy]
  have hset2:∀y x:Int,(am (done++y::vs)).set done.length [.int .i64 x]=am (done++x::vs):=λy x=>by rw[V8,Uy]
  have hgi2:∀x:Int,(am (done++x::vs))[done.length]?=some [.int .i64 x]:=λx=>by rw[B7 s_,JH]
  have hE:=λX1 X3=>Z5 b hb (.cells [A_ id,A_ pl,x2,x3]) X1 X3 N st h3
  have hel:=ai9 (b:=b) (st:=st);rw[ah Qk,nw o_,Ib,zU];simp only[h4]at hE⊢;by_cases hid:id=11∧v=16
  .obtain⟨rfl,rfl⟩:=hid;rw[ac ⟨rfl,rfl⟩,ac ⟨rfl,rfl⟩];have ih:=ih (done++[sg (nth sgn done.length) (Sc b st)]) (HI b st) t_ (λx hx=>h2 x (by simp[hx])) (asm hb h3);simp only[h4]at ih;simp at ih;have c11:((11:Nat):Int)=11:=rfl;simp only[c11]at hE;by_cases hs:nth sgn done.length=1
   .simp only[sg,ac hs]at ih⊢;simp(maxSteps:=9^6)(disch:=omega)[↓ac,↓aa,hgi,hE,hset,hgs,hgi2,hset2,hs];exact ih
   .simp only[sg,aa hs]at ih⊢;simp(maxSteps:=9^6)(disch:=omega)[↓ac,↓aa,hgi,hE,hset,hgs,hgi2,hset2,hs];exact ih
  .rw[aa hid,aa hid];have ih:=ih (done++[sg (nth sgn done.length) v]) st t_ (λx hx=>h2 x (by simp[hx])) h3;simp only[h4]at ih;simp at ih;by_cases hi:id=11
   .subst hi;have c11:((11:Nat):Int)=11:=rfl;have hv2:v≠16:=λh=>hid ⟨rfl,h⟩
    by_cases hs:nth sgn done.length=1
    .simp only[sg,ac hs]at ih⊢;simp(maxSteps:=9^6)(disch:=omega)[↓ac,↓aa,hgi,hset,hgs,hgi2,hset2,hs,hv2];exact ih
    .simp only[sg,aa hs]at ih⊢;simp(maxSteps:=9^6)(disch:=omega)[↓ac,↓aa,hgi,hset,hgs,hgi2,hset2,hs,hv2];exact ih
   .by_cases hs:nth sgn done.length=1
    .simp only[sg,ac hs]at ih⊢;simp(maxSteps:=9^6)(disch:=omega)[↓ac,↓aa,hgi,hset,hgs,hgi2,hset2,hs];exact ih
    .simp only[sg,aa hs]at ih⊢;simp(maxSteps:=9^6)(disch:=omega)[↓ac,↓aa,hgi,hset,hgs,hgi2,hset2,hs];exact ih
def gv (b:C_):E_->Nat->R C_
 |[],a=>.ok [] a
 |v::r,a=>if v=0 then (gv b r a).bind λl n=>.ok (0::l) n else (aE b a 1).bind λs n=>(gv b r n).bind λl n=>.ok (s::l) n
def oh (b:C_):Nat->Nat->Nat->R Nat
 |0,_,_=>.er 7
 |f+1,m,a=>(aE b a 1).bind λv n=>if v=1 then oh b f (m+1) n else .ok m n
def Jc (b:C_)(a:Nat):R Nat:=(oh b 9 0 a).bind λm n=>(aE b n ((m+4:Nat):Int)).bind λx n=>.ok (2 ^ (m+4)+x) n
def jV (b:C_)(id:Nat):E_->C_->Nat->R E_
 |v::r,s::ss,a=>if id=11∧v=16 then (Jc b a).bind λx n=>(jV b id r ss n).bind λl n=>.ok (sg s x::l) n else (jV b id r ss a).bind λl n=>.ok (sg s v::l) n
 |_,_,a=>.ok [] a
def xw (id:Nat)(b:C_)(a:Int):R E_ :=
 (zg id b a).bind λe n=>if kR id then .ok (iJ id e) n else (gv b (iJ id e) n).bind λss n=>jV b id (iJ id e) ss n
def T9 {b:C_}{a s:Int}{v n:Nat}(h:aE b a s=.ok v n):sV b ⟨a,0⟩ s=v∧rN b ⟨a,0⟩ s=⟨n,0⟩:=by
 constructor<;>simp[sV,rN,vO,nO,eO,h]
def adU {b:C_}{a s:Int}{e:Nat}(h:aE b a s=.er e):sV b ⟨a,0⟩ s=0∧rN b ⟨a,0⟩ s=⟨a,e+1⟩:=by
 constructor<;>simp[sV,rN,vO,nO,eO,h]
def afV {b:C_}{a s:Int}{e:Nat}:sV b ⟨a,e+1⟩ s=0∧rN b ⟨a,e+1⟩ s=⟨a,e+1⟩:=by
 constructor<;>simp[sV,rN]
def aiY {b:C_}{a:Int}{e:Nat}{f m:Nat}:jc b f m ⟨a,e+1⟩=(m,⟨a,e+1⟩):=by
 cases f with
 |zero=>rfl
 |succ f=>rw[jc,afV.1,afV.2,aa s_]
def axf {b:C_}{a:Int}{e:Nat}:HI b ⟨a,e+1⟩=⟨a,e+1⟩:=by
 rw[HI,aiY,afV.2]
def akN {b:C_}{a:Int}{e:Nat}:∀{vs:E_},ui b vs ⟨a,e+1⟩=⟨a,e+1⟩
 |[]=>rfl
 |v::r=>by
  rw[ui];split
  .exact akN
  .rw[afV.2];exact akN
def adB {b:C_}{id:Nat}{a:Int}{e:Nat}:∀{vs:E_}{ss:C_},zU b id vs ss ⟨a,e+1⟩=⟨a,e+1⟩
 |[],_=>by simp[zU]
 |_::_,[]=>by simp[zU]
 |v::r,s::ss=>by
  rw[zU];split
  .rw[axf];exact adB
  .exact adB
def aqX {b:C_}:∀{vs:E_}{a:Nat},match gv b vs a with
  |.ok l n=>yq b vs ⟨a,0⟩=l∧ui b vs ⟨a,0⟩=⟨n,0⟩
  |.er e=>(ui b vs ⟨a,0⟩).e=e+1
 |[],a=>⟨rfl,rfl⟩
 |v::r,a=>by
  simp only[gv,yq,ui];by_cases hv:v=0
  .simp only[ac hv];have ih:=aqX (b:=b) (vs:=r) (a:=a)
   cases h:gv b r a with
   |ok l n=>rw[h]at ih;exact⟨by rw[ih.1],ih.2⟩
   |er e=>rw[h]at ih;exact ih
  .simp only[aa hv]
   cases h1:aE b a 1 with
   |ok s n =>
    rw[(T9 h1).1,(T9 h1).2,ao];have ih:=aqX (b:=b) (vs:=r) (a:=n)
    cases h:gv b r n with
    |ok l n=>rw[h]at ih;exact⟨by rw[ih.1],ih.2⟩
    |er e=>rw[h]at ih;exact ih
   |er e=>rw[(adU h1).2,aQ];simp only[akN]
def apC {b:C_}:∀{f m a:Nat},f+1+m=9->match oh b (f+1) m a with
  |.ok k n=>jc b (f+2) m ⟨a,0⟩=(k,⟨n,0⟩)
  |.er e=>(jc b (f+2) m ⟨a,0⟩).2.e=e+1
 |f,m,a,hm=>by
  rw[oh,jc]
  cases h1:aE b a 1 with
  |er e=>rw[(adU h1).1,(adU h1).2,aQ,aa s_]
  |ok v n =>
   rw[(T9 h1).1,(T9 h1).2,ao];by_cases hv:v=1
   .subst hv;rw[ac rfl,ac ⟨rfl,rfl⟩]
    cases f with
    |zero =>
     rw[ac o_,oh];show(jc b 1 (m+1) ⟨ra ⟨n,0⟩,7+1⟩).2.e=7+1;rw[aiY]
    |succ f =>
     rw[aa o_];exact apC (by omega)
   .rw[aa hv,aa (λh=>hv h.1)]
def aAC {b:C_}{a:Nat}:match Jc b a with
  |.ok v n=>Sc b ⟨a,0⟩=v∧HI b ⟨a,0⟩=⟨n,0⟩
  |.er e=>(HI b ⟨a,0⟩).e=e+1:=by
 rw[Jc,Sc,HI];have h:=apC (b:=b) (f:=8) (m:=0) (a:=a) rfl
 cases h1:oh b 9 0 a with
 |er e =>
  rw[h1]at h;generalize jc b 10 0 ⟨a,0⟩=p at *;obtain⟨m,x,y⟩:=p;simp only at h;subst h;simp only[afV,aQ]
 |ok k n =>
  rw[h1]at h;rw[ao,h]
  cases h2:aE b n ((k+4:Nat):Int) with
  |er e=>simp only[(adU h2).2,aQ]
  |ok v m=>simp only[(T9 h2).1,(T9 h2).2,ao];exact⟨trivial,trivial⟩
def aq1 {b:C_}{id:Nat}:∀{vs:E_}{ss:C_}{a:Nat},match jV b id vs ss a with
  |.ok l n=>Ib b id vs ss ⟨a,0⟩=l∧zU b id vs ss ⟨a,0⟩=⟨n,0⟩
  |.er e=>(zU b id vs ss ⟨a,0⟩).e=e+1
 |[],ss,a=>by simp[jV,Ib,zU]
 |v::r,[],a=>by simp[jV,Ib,zU]
 |v::r,s::ss,a=>by
  rw[jV,Ib,zU];by_cases hc:id=11∧v=16
  .simp only[ac hc];have h:=aAC (b:=b) (a:=a)
   cases h1:Jc b a with
   |er e =>
    rw[h1]at h;generalize HI b ⟨a,0⟩=p at *;obtain⟨x,y⟩:=p;simp only at h;subst h;simp only[adB,aQ]
   |ok x n =>
    rw[h1]at h;rw[h.1,h.2,ao];have ih:=aq1 (b:=b) (id:=id) (vs:=r) (ss:=ss) (a:=n)
    cases h2:jV b id r ss n with
    |ok l n=>rw[h2]at ih;exact⟨by rw[ih.1],ih.2⟩
    |er e=>rw[h2]at ih;exact ih
  .simp only[aa hc];have ih:=aq1 (b:=b) (id:=id) (vs:=r) (ss:=ss) (a:=a)
   cases h2:jV b id r ss a with
   |ok l n=>rw[h2]at ih;exact⟨by rw[ih.1],ih.2⟩
   |er e=>rw[h2]at ih;exact ih
abbrev J8:VC:=(.seq HH (.seq E6 (.seq (.seq Fh (.block 0 (.seq (.loop wd) (K [51,52,53])))) (.seq (.seq Ge (.block 2 (.seq (.loop vX) (.seq (K [11,66,67,68]) (F 5))))) (.seq (.seq FB (.cond (.m 103) (.seq (K [6]) (.seq yN .ret)) .skip)) (.seq yM .ret))))))
def ach {low:Int}{w:Nat}:∀{d e:Nat},(fS low w d e).length=d
 |0,_=>rfl
 |d+1,e=>by simp[fS,ach]
def Gf {low:Int}{w:Nat}(hw:1<=w):∀{d e:Nat},∀x∈fS low w d e,low<=x∧x<low+w
 |0,_,x,h=>by simp[fS]at h
 |d+1,e,x,h=>by
  rw[fS,bj]at h;have:=gK e (show w > 0 by omega);rcases h with h|h
  .exact Gf hw x h
  .simp at h;omega
def C6 {id e:Nat}:(iJ id e).length=dI id:=ach
def JV:∀id∈ids,kR id=false->c4 id=0:=g_
def alx (b:C_)(hb:b.length<=1000000000)(id:Nat)(pl:Int)(x2 x3:AV)(vals:E_)(hl:1<=vals.length∧vals.length<=100)(hv:∀v∈vals,0<=v∧v<=130)(n:Nat)(hn:n<=b.length)(hx2:bB x2=true) :
  mO (nX [.tmp 6,.tmp 7,.tmp 8] ((Dn prog).code J8 ⟨[(0,.d (.lst (ax b))),(5,.ptr 0 0),(6,.sl 1 0 vals.length),(7,A_ n)],⟨[(0,.cells [A_ id,A_ pl,x2,x3]),(1,.arr 1 (am vals))],2⟩⟩)) =
  if re (zU b id vals (yq b vals ⟨n,0⟩) (ui b vals ⟨n,0⟩))=0 then some (.tup [.own true 1 (am (Ib b id vals (yq b vals ⟨n,0⟩) (ui b vals ⟨n,0⟩))),A_ ((ra (zU b id vals (yq b vals ⟨n,0⟩) (ui b vals ⟨n,0⟩)))),A_ 0])
  else some (.tup [.nl,A_ 0,A_ ((re (zU b id vals (yq b vals ⟨n,0⟩) (ui b vals ⟨n,0⟩))))]):=by
 have hf:RS.fit ⟨n,0⟩:=by show i64 _;simp only[];omega
 have sgl:∀(vs:E_) (st:RS),(yq b vs st).length=vs.length:=by
  intro vs
  induction vs with
  |nil=>intro st;rfl
  |cons v r ih=>intro st;rw[yq];split<;>simp[ih]
 have sgf:∀(vs:E_) (st:RS),st.fit->(ui b vs st).fit:=by
  intro vs
  induction vs with
  |nil=>intro st h;exact h
  |cons v r ih =>
   intro st h;rw[ui];split
   .exact ih _ h
   .exact ih _ (RW hb h)
 have l0:=λX0=>aio b hb X0 4 vals hl.2 vals [] [] ⟨n,0⟩ s_ rfl hf
 have l1:=ahJ b hb id pl x2 x3 4 vals.length hl.2 (yq b vals ⟨n,0⟩) (sgl _ _) vals [] (ui b vals ⟨n,0⟩) s_ hv (sgf _ _ hf);have vll:(Ib b id vals (yq b vals ⟨n,0⟩) (ui b vals ⟨n,0⟩)).length=vals.length:=by
  have:∀(vs:E_) (ss:C_) (st:RS),ss.length=vs.length->(Ib b id vs ss st).length=vs.length:=by
   intro vs
   induction vs with
   |nil=>intro ss st h;simp[Ib]
   |cons v r ih =>
    intro ss st h
    cases ss with
    |nil=>simp at h
    |cons s ss =>
     rw[Ib];split<;>simp[ih _ _ (by simpa using h)]
  exact this _ _ _ (sgl _ _)
 have hz:aS (List.replicate vals.length 0)=List.replicate vals.length [.int .i64 0]:=by simp[aS]
 have c0:((0:Nat):Int)=0:=rfl;simp only[az,ck,jP,h4,rdC,hz,c0,aAp,ayV]at l0 l1;generalize zU b id vals (yq b vals ⟨n,0⟩) (ui b vals ⟨n,0⟩)=st3 at *;generalize Ib b id vals (yq b vals ⟨n,0⟩) (ui b vals ⟨n,0⟩)=V3 at *;generalize yq b vals ⟨n,0⟩=S1 at *;generalize ui b vals ⟨n,0⟩=st2 at *;simp(maxSteps:=9^6)(disch:=omega)[l0,l1,yW];by_cases hre:re st3=0
 .rw[ac hre,ac hre,ac (show vals.length<=V3.length by omega),bp o_]
 .rw[aa hre,aa hre]
def arX {b:C_}{id:Nat}{vals:E_}{n:Nat}{γ:Type}{F:E_->Int->γ}{G:Nat->γ} :
  (if re (zU b id vals (yq b vals ⟨n,0⟩) (ui b vals ⟨n,0⟩))=0 then F (Ib b id vals (yq b vals ⟨n,0⟩) (ui b vals ⟨n,0⟩)) (ra (zU b id vals (yq b vals ⟨n,0⟩) (ui b vals ⟨n,0⟩)))
  else G (re (zU b id vals (yq b vals ⟨n,0⟩) (ui b vals ⟨n,0⟩))))=match (gv b vals n).bind λss n=>jV b id vals ss n with
   |.ok l n=>F l n
   |.er e=>G (e+1):=by
 have h1:=aqX (b:=b) (vs:=vals) (a:=n)
 cases h2:gv b vals n with
 |er e =>
  rw[h2]at h1;generalize ui b vals ⟨n,0⟩=p at *;obtain⟨x,y⟩:=p;simp only at h1;subst h1;rw[adB,aQ,aa (by simp[re])];rfl
 |ok ss m =>
  rw[h2]at h1;rw[h1.1,h1.2,ao];have h3:=aq1 (b:=b) (id:=id) (vs:=vals) (ss:=ss) (a:=m)
  cases h4:jV b id vals ss m with
  |er e =>
   rw[h4]at h3;have h5:re (zU b id vals ss ⟨m,0⟩)=e+1:=h3;rw[h5,aa o_]
  |ok l k =>
   rw[h4]at h3;rw[h3.1,h3.2];rfl
abbrev pH (b:C_)(id:Nat)(l:E_)(n:Nat):Prop:=l.length=dI id∧n<=b.length∧∀x∈l,-40000<=x∧x<=40000
def Cr {b:C_}:∀{vs:E_}{a:Nat}{l:C_}{n:Nat},a<=b.length->gv b vs a=.ok l n->l.length=vs.length∧n<=b.length
 |[],a,l,n,ha,h=>by
  simp only[gv]at h;injection h with e1 e2
  subst e1 e2;exact⟨rfl,ha⟩
 |v::r,a,l,n,ha,h=>by
  simp only[gv]at h;by_cases hv:v=0
  .rw[ac hv]at h
   cases h1:gv b r a with
   |er e=>rw[h1]at h;exact absurd h (by simp)
   |ok l2 n2 =>
    have ih:=Cr ha h1;rw[h1,ao]at h;injection h with e1 e2
    subst e1 e2;exact⟨by simp[ih.1],ih.2⟩
  .rw[aa hv]at h
   cases h0:aE b a 1 with
   |er e=>rw[h0]at h;exact absurd h (by simp)
   |ok s m =>
    rw[h0,ao]at h
    cases h1:gv b r m with
    |er e=>rw[h1]at h;exact absurd h (by simp)
    |ok l2 n2 =>
     have ih:=Cr (cu h0).2 h1;rw[h1,ao]at h;injection h with e1 e2
     subst e1 e2;exact⟨by simp[ih.1],ih.2⟩
def Z3 {b:C_}:∀{f m a k n:Nat},f+m=9->oh b f m a=.ok k n->k<=8∧n<=b.length
 |0,_,_,_,_,_,h=>absurd h (by simp[oh])
 |f+1,m,a,k,n,hf,h=>by
  rw[oh]at h
  cases h1:aE b a 1 with
  |er e=>rw[h1]at h;exact absurd h (by simp)
  |ok v a1 =>
   rw[h1,ao]at h;by_cases hv:v=1
   .rw[ac hv]at h;exact Z3 o_ h
   .rw[aa hv]at h;injection h with e1 e2
    subst e1 e2;exact⟨o_,(cu h1).2⟩
def axB {b:C_}{a v n:Nat}(h:Jc b a=.ok v n):v<=30000∧n<=b.length:=by
 rw[Jc]at h
 cases h1:oh b 9 0 a with
 |er e=>rw[h1]at h;exact absurd h (by simp)
 |ok m n1 =>
  have hp:=Z3 rfl h1;rw[h1,ao]at h
  cases h2:aE b n1 ((m+4:Nat):Int) with
  |er e=>rw[h2]at h;exact absurd h (by simp)
  |ok x n2 =>
   have hq:=cu h2;rw[h2,ao]at h;injection h with e1 e2
   subst e1 e2;have h3:2 ^ (m+4)<=2 ^ 12:=aA o_ o_;have h4:=hq.1;rw[au]at h4;exact⟨o_,hq.2⟩
def Mj {b:C_}{id:Nat}:∀{vs:E_}{ss:C_}{a:Nat}{l:E_}{n:Nat},a<=b.length->ss.length=vs.length->(∀v∈vs,-100<=v∧v<=130)->jV b id vs ss a=.ok l n->l.length=vs.length∧n<=b.length∧∀x∈l,-40000<=x∧x<=40000
 |[],ss,a,l,n,ha,hs,hv,h=>by
  simp only[jV]at h;injection h with e1 e2
  subst e1 e2;exact⟨rfl,ha,s_⟩
 |v::r,[],a,l,n,ha,hs,hv,h=>by simp at hs
 |v::r,s::ss,a,l,n,ha,hs,hv,h=>by
  have hs2:ss.length=r.length:=by simpa using hs
  have hv2:∀v∈r,-100<=v∧v<=130:=λx hx=>hv x (by simp[hx])
  have hv1:=hv v s_;have hsg:∀y:Int,-40000<=y->y<=40000->-40000<=sg s y∧sg s y<=40000:=λy h1 h2=>by unfold sg;split<;>omega
  rw[jV]at h;by_cases hc:id=11∧v=16
  .rw[ac hc]at h
   cases h1:Jc b a with
   |er e=>rw[h1]at h;exact absurd h (by simp)
   |ok x n1 =>
    have hp:=axB h1;rw[h1,ao]at h
    cases h2:jV b id r ss n1 with
    |er e=>rw[h2]at h;exact absurd h (by simp)
    |ok l2 n2 =>
     obtain⟨i1,i2,i3⟩:=Mj hp.2 hs2 hv2 h2;rw[h2,ao]at h;injection h with e1 e2;subst e1 e2;refine⟨by simp[i1],i2,λy hy=>?_⟩;rcases aD.1 hy with e|e
     .subst e;exact hsg _ o_ (by omega)
     .exact i3 y e
  .rw[aa hc]at h
   cases h2:jV b id r ss a with
   |er e=>rw[h2]at h;exact absurd h (by simp)
   |ok l2 n2 =>
    obtain⟨i1,i2,i3⟩:=Mj ha hs2 hv2 h2;rw[h2,ao]at h;injection h with e1 e2;subst e1 e2;refine⟨by simp[i1],i2,λy hy=>?_⟩;rcases aD.1 hy with e|e
    .subst e;exact hsg _ o_ (by omega)
    .exact i3 y e
def MN {id:Nat}{b:C_}{a:Int}{e n:Nat}(hid:iD id)(h:zg id b a=.ok e n):e<aZ id∧n<=b.length:=by
 rw[zg]at h
 cases z1:jt b 10 0 a with
 |er e=>rw[z1]at h;exact absurd h (by simp)
 |ok m m1 =>
  rw[z1,ao]at h
  cases z2:aE b m1 m with
  |er e=>rw[z2]at h;exact absurd h (by simp)
  |ok hi m2 =>
   rw[z2,ao]at h
   cases z3:aE b m2 (cA id) with
   |er e=>rw[z3]at h;exact absurd h (by simp)
   |ok lo m3 =>
    rw[z3,ao]at h;by_cases hc:(bV id).length<=(2 ^ m+hi-1)*2 ^ cA id+lo
    .rw[ac hc]at h;exact absurd h (by simp)
    .rw[aa hc]at h;injection h with e1 e2
     subst e1 e2;exact⟨(CU o_).2.2.2 _ (iL o_),(cu z3).2⟩
def akh {id:Nat}{b:C_}{a:Int}{l:E_}{n:Nat}(hid:iD id)(h:xw id b a=.ok l n):pH b id l n:=by
 obtain⟨k1,k2,k3,k4,k5,k6,k7⟩:=mt id (dV hid);rw[xw]at h
 cases h1:zg id b a with
 |er e=>rw[h1]at h;exact absurd h (by simp)
 |ok e n1 =>
  have hp:=(MN hid h1).2;have hv:∀v∈iJ id e,-100<=v∧v<=200:=λv hv=>by
   have:=Gf (low:=c4 id) (w:=cO id) k3 (d:=dI id) (e:=e) v hv;omega
  rw[h1,ao]at h;by_cases hs:kR id=true
  .rw[ac hs]at h;injection h with e1 e2
   subst e1 e2;exact⟨C6,hp,λx hx=>by have:=hv x hx;omega⟩
  .rw[aa hs]at h
   cases h2:gv b (iJ id e) n1 with
   |er e=>rw[h2]at h;exact absurd h (by simp)
   |ok ss n2 =>
    have hq:=Cr hp h2;rw[h2,ao]at h;have hus:=JV id (dV hid) (by simpa using hs);have hv2:∀v∈iJ id e,-100<=v∧v<=130:=λv hv=>by
     have:=Gf (low:=c4 id) (w:=cO id) k3 (d:=dI id) (e:=e) v hv;omega
    have:=Mj hq.2 hq.1 hv2 h;exact⟨by rw[this.1,C6],this.2⟩
def arm (id:Nat)(b:C_)(a:Int)(hb:b.length<=1000000000)(ha:i64 a)(hid:1<=id∧id<=11):bn prog yS [.d (.lst (ax b)),A_ a,nb id] =
  rK (pH b id) (xw id b a) (λl n=>some (.tup [.own true 1 (am l),A_ n,A_ 0])) (λe=>some (.tup [.nl,A_ 0,A_ (e+1)])):=by
 have hok:iD id:=⟨hid.1,o_⟩
 have hr:=aco id b a hb ha hok;have hsg:=afe id (by
  obtain⟨h1,h2⟩:=hid;simp only[ids,List.take,aD,gm,mJ];omega)
 have hV:=λe he=>VS id e hok he
 obtain⟨k1,k2,k3,k4,k5,k6,k7⟩:=mt id (dV hok);have hus:=JV id (dV hok);rw[aL akM amr rfl];obtain⟨T,ht⟩:∃T,T=J8:=⟨_,rfl⟩
 have hT:=λpl x2 x3 vals hl hv n hn hx2=>alx b hb id pl x2 x3 vals hl hv n hn hx2
 rw[<-ht]at hT;unfold J8 at ht;rw[<-ht];simp only[nb]at hr⊢;rw[xw,fF (q:=λe n=>e<aZ id∧n<=b.length) (λe n h=>MN hok h)];have hbl:∀e,(iJ id e).length=dI id:=λe=>C6
 have hbi:=λe=>Gf (low:=c4 id) (w:=cO id) k3 (d:=dI id) (e:=e)
 generalize hes:bV id=es at *;generalize hrs:dl id=rs at *;generalize hpl:cA id=pl at *;simp(maxSteps:=9^6)(disch:=omega)[hr,hsg,ac,aa];refine cy (λ_ _=>rfl) (λe n hp=>?_) λ_=>rfl
 have hVe:=hV e hp.1;have hie:=hbi e;simp only[iJ]at hVe hbl⊢;have hble:=hbl e;generalize fS (c4 id) (cO id) (dI id) e=vals at *;by_cases hs:kR id=true
 .rw[ac hs,b9 ⟨hble,hp.2,λx hx=>by have:=hie x hx;omega⟩];simp(maxSteps:=9^6)(disch:=omega)[hVe,hsg,hs,ac,aa]
 .have hs2:kR id=false:=by simpa using hs
  have hT2:=hT pl (.d (.lst (aS es))) (.d (.lst (aS rs))) vals o_ (λv hv=>by have:=hie v hv;have:=hus hs2;omega) n hp.2 rfl;rw[aa hs];simp(maxSteps:=9^6)(disch:=omega)[hVe,hsg,hs2,ac,aa];rw[hT2];refine(arX (γ:=L_) (F:=λl n=>some (.tup [.own true 1 (am l),A_ n,A_ 0])) (G:=λe=>some (.tup [.nl,A_ 0,A_ e]))).trans ?_
  cases h1:gv b vals n with
  |er e=>simp[rK]
  |ok ss m =>
   have hq:=Cr hp.2 h1;rw[ao]
   cases h2:jV b id vals ss m with
   |er e=>simp[rK]
   |ok l k =>
    have hv2:=Mj hq.2 hq.1 (λv hv=>by have:=hie v hv;omega) h2;rw[b9 ⟨o_,hv2.2⟩]
abbrev pOn (b:C_)(m n:Nat):Prop:=m<=8∧n<=b.length
abbrev azC (e:Nat)(h:HS):I_:=some (.ret,⟨[(4,A_ 0),(5,A_ 0),(6,A_ (e+1))],h⟩)
def W8 (b:C_)(hb:b.length<=1000000000)(hs:HS):∀(f m:Nat) (a:Nat),f+1+m=9->a<=b.length->
  (Dn prog).code (.loop jy) ⟨[(0,.d (.lst (ax b))),(1,A_ a),(7,A_ m)],hs⟩ =
  rK (pOn b) (oh b (f+1) m a) (λm n=>some (.exit 0,⟨[(0,.d (.lst (ax b))),(1,A_ n),(7,A_ m)],hs⟩)) (λe=>azC e hs):=by
 obtain⟨hh,hn⟩:=hs;intro f
 induction f with
 |zero =>
  intro m a hm ha;have:m=8:=o_;subst this;rw[ah wb,oh,ky];have c8:((8:Nat):Int)=8:=rfl;simp only[c8];simp(maxSteps:=9^6)(disch:=omega)[jg];refine cy (λ_ _=>rfl) (λv n hp=>?_) λ_=>rfl
  have hp4:v<2:=hp.1;by_cases h4:v=1
  .subst h4;rw[ac rfl,oh];simp(maxSteps:=9^6)(disch:=omega)[ac,aa]
  .have h5:v=0:=o_;subst h5;rw[aa (c:=(0:Nat)=1) o_,b9 ⟨o_,hp.2⟩];simp(maxSteps:=9^6)(disch:=omega)[ac,aa]
 |succ f ih =>
  intro m a hm ha;rw[ah wb,oh,ky];simp(maxSteps:=9^6)(disch:=omega)[jg];refine cy (λ_ _=>rfl) (λv n hp=>?_) λ_=>rfl
  have hp4:v<2:=hp.1;by_cases h4:v=1
  .subst h4;have h:=ih (m+1) n o_ hp.2;rw[ac rfl];simp(maxSteps:=9^6)(disch:=omega)[ac,aa]at h⊢;exact h
  .have h5:v=0:=o_;subst h5;rw[aa (c:=(0:Nat)=1) o_,b9 ⟨o_,hp.2⟩];simp(maxSteps:=9^6)(disch:=omega)[ac,aa]
def adz (b:C_)(hb:b.length<=1000000000)(a:Nat)(ha:a<=b.length):bn prog zK [.d (.lst (ax b)),A_ a] =
  rK (pOn b) (oh b 9 0 a) (λm n=>rK (pG b ((m+4:Nat):Int)) (aE b n ((m+4:Nat):Int)) (λx n=>some (.tup [A_ (((2 ^ (m+4)+x:Nat):Int)),A_ n,A_ 0])) (λe=>some (.tup [A_ (((2 ^ (m+4):Nat):Int)),A_ 0,A_ (e+1)]))) (λe=>some (.tup [A_ 0,A_ 0,A_ (e+1)])):=by
 have hl:=λhs=>W8 b hb hs 8 0 a rfl ha
 have c0:((0:Nat):Int)=0:=rfl;simp only[c0]at hl;rw[aL Kf Ki rfl];simp(maxSteps:=9^6)(disch:=omega)[hl];refine cy (λ_ _=>rfl) (λm n hp=>?_) λ_=>rfl
 have hp1:=hp.1;have h3:2 ^ (m+4)<=2 ^ 12:=aA o_ o_;have hT:=Cx (m+4) o_;have c1:((m+4:Nat):Int)=(m:Int)+4:=o_;have hge:=λx k (h:aE b n ((m:Int)+4)=.ok x k)=>cu h
 simp only[c1]at hT⊢;have hq2:∀x k,aE b n ((m:Int)+4)=.ok x k->x<2 ^ (m+4):=λx k h=>by
  have:=(hge x k h).1;have e:((m:Int)+4).toNat=m+4:=o_
  rwa [e]at this
 generalize hP:2 ^ (m+4)=P at *;have hPI:((2:Int) ^ (m+4))=(P:Int):=by rw[<-hP];simp
 cases hG:aE b n ((m:Int)+4) with
 |er e =>
  simp(maxSteps:=9^6)(disch:=omega)[jg,hT,hG,hPI]
 |ok x k =>
  have:=hq2 x k hG;have:=hge x k hG;simp(maxSteps:=9^6)(disch:=omega)[jg,hT,hG,b9,this,hPI];omega
abbrev W9 (x:I_):L_:=mO (nX [.tmp 6,.tmp 7,.tmp 8] (xS prog (yi 2 (xS prog x (.seq (K [0,13,16]) (F 5)))) (.seq ph .ret)))
abbrev okV (l:E_)(n:Nat):L_:=some (.tup [.own true 1 (am l),A_ n,A_ 0])
abbrev erV (e:Nat):L_:=some (.tup [.nl,A_ 0,A_ (e+1)])
abbrev pT {α:Type}(_:α)(_:Nat):Prop:=True
def alT {α:Type}{p:α->Nat->Prop}{r:R α}{f:α->Nat->I_}{g:Nat->I_}:W9 (rK p r f g)=rK p r (λv n=>W9 (f v n)) λe=>W9 (g e):=yv W9
def akV {e:Nat}{h:ak}{n:Nat}:W9 (some (.ret,⟨[(6,.nl),(7,A_ 0),(8,A_ (e+1))],⟨h,n⟩⟩))=erV e:=by
 simp[W9]
def asu {α β γ:Type}{x:R β}{f:β->Nat->R α}{F:α->Nat->γ}{G:Nat->γ}:rK pT (x.bind f) F G=rK pT x (λv n=>rK pT (f v n) F G) G:=fF λ_ _ _=>trivial
def axm {α γ:Type}{b:C_}{a:Nat}{f:Nat->Nat->R α}{F:α->Nat->γ}{G:Nat->γ}:rK pT ((Jc b a).bind f) F G=rK (pOn b) (oh b 9 0 a) (λm n=>rK (pG b ((m+4:Nat):Int)) (aE b n ((m+4:Nat):Int)) (λx n=>rK pT (f (2 ^ (m+4)+x) n) F G) G) G:=by
 rw[asu,Jc,fF (q:=pOn b) λ_ _ h=>Z3 rfl h];refine cy (λ_ _=>rfl) (λm n hp=>?_) λ_=>rfl
 rw[ky];refine cy (λ_ _=>rfl) (λx n hp=>?_) λ_=>rfl
 rw[b9 trivial]
def af4 {γ:Type}{x:R E_}{y:Int}{F:E_->Nat->γ}{G:Nat->γ}:rK pT (x.bind λl n=>R.ok (y::l) n) F G=rK pT x (λl n=>F (y::l) n) G:=by
 rw[asu];refine cy (λ_ _=>rfl) (λl n hp=>?_) λ_=>rfl
 rw[b9 trivial]
def ac7 (b:C_)(hb:b.length<=1000000000)(id:Nat)(pl:Int)(x2 x3:AV)(N len:Nat)(hlen:len<=100)(sgn:C_)(hsg:sgn.length=len):∀(vs:E_) (done:E_) (a:Nat),done.length+vs.length=len->(∀v∈vs,0<=v∧v<=130)->a<=b.length->
  W9 ((Dn prog).code (.loop lv) ⟨[(0,.d (.lst (ax b))),(5,.ptr 0 0),(10,A_ a),(12,.sl 1 0 len),(13,.own false 1 (aS sgn)),(16,A_ done.length)],⟨[(0,.cells [A_ id,A_ pl,x2,x3]),(1,.arr 1 (am (done++vs)))],N⟩⟩) =
  rK pT (jV b id vs (sgn.drop done.length) a) (λl n=>okV (done++l) n) erV:=by
 intro vs
 induction vs with
 |nil =>
  intro done a h1 h2 h3;rw[ah zG];have:done.length=len:=by simpa using h1
  simp(maxSteps:=9^6)(disch:=omega)[aa,jV];rw[b9 trivial];simp(maxSteps:=9^6)(disch:=omega)[W9];exact⟨o_,by rw[bp o_]⟩
 |cons v vs ih =>
  intro done a h1 h2 ha;have hv:=h2 v s_;have h1:done.length+(vs.length+1)=len:=by simpa using h1
  have hgi:∀x:Int,(am (done++x::vs))[done.length]?=some [.int .i64 x]:=λx=>by rw[B7 s_,JH]
  have hgs:(aS sgn)[done.length]?=some [.int .i64 (nth sgn done.length:Nat)]:=JD o_;have hset:∀y x:Int,(am (done++y::vs)).set done.length [.int .i64 x]=am (done++x::vs):=λy x=>by rw[V8,Uy]
  have ih2:=fun(x:Int) (n:Nat) (hn:n<=b.length)=>ih (done++[x]) n t_ (λx hx=>h2 x (by simp[hx])) hn
  have e5:∀x:Int,((done++[x]).length:Int)=(done.length:Int)+1:=λx=>by simp
  have e6:∀x:Int,(done++[x]).length=done.length+1:=λx=>by simp
  have e7:∀(x:Int) (l:E_),done++[x]++l=done++x::l:=λx l=>by simp
  have e9:((done.length+1:Nat):Int)=(done.length:Int)+1:=o_;simp only[e5,e6,e7,e9]at ih2;rw[ah zG,nw o_,jV];by_cases hid:id=11∧v=16
  .obtain⟨rfl,rfl⟩:=hid;have c11:((11:Nat):Int)=11:=rfl;have hE:=adz b hb a ha;rw[ac ⟨rfl,rfl⟩,axm];simp only[c11]at ih2⊢;by_cases hs:nth sgn done.length=1
   .simp(maxSteps:=9^6)(disch:=omega)[ac,aa,hgi,hset,hgs,hs,hE];rw[alT];refine cy (λ_ _=>rfl) (λm n hp=>?_) λ_=>akV
    rw[alT];refine cy (λ_ _=>rfl) (λx k hq=>?_) λ_=>akV
    have h3:2 ^ (m+4)<=2 ^ 12:=aA o_ (by have:=hp.1;omega);have h4:x<2 ^ (m+4):=by
     have e:((m:Int)+4).toNat=m+4:=o_;have:=hq.1
     rwa [e]at this
    have e8:((2 ^ (m+4)+x:Nat):Int)=2 ^ (m+4)+(x:Int):=s_;rw[af4,<-e8,YU o_ o_,ih2 _ k hq.2];simp only[sg,bR]
   .simp(maxSteps:=9^6)(disch:=omega)[ac,aa,hgi,hset,hgs,hs,hE];rw[alT];refine cy (λ_ _=>rfl) (λm n hp=>?_) λ_=>akV
    rw[alT];refine cy (λ_ _=>rfl) (λx k hq=>?_) λ_=>akV
    have e8:((2 ^ (m+4)+x:Nat):Int)=2 ^ (m+4)+(x:Int):=s_;rw[af4,ih2 _ k hq.2];simp only[sg,aa hs,e8]
  .rw[aa hid,af4];by_cases hi:id=11
   .subst hi;have c11:((11:Nat):Int)=11:=rfl;have hv2:v≠16:=λh=>hid ⟨rfl,h⟩
    by_cases hs:nth sgn done.length=1
    .simp(maxSteps:=9^6)(disch:=omega)[ac,aa,hgi,hset,hgs,hs,hv2];rw[<-c11,ih2 _ a ha];simp only[sg,hs,bR]
    .simp(maxSteps:=9^6)(disch:=omega)[ac,aa,hgi,hset,hgs,hs,hv2];rw[<-c11,ih2 _ a ha];simp only[sg,aa hs]
   .by_cases hs:nth sgn done.length=1
    .simp(maxSteps:=9^6)(disch:=omega)[ac,aa,hgi,hset,hgs,hs];rw[ih2 _ a ha];simp only[sg,hs,bR]
    .simp(maxSteps:=9^6)(disch:=omega)[ac,aa,hgi,hset,hgs,hs];rw[ih2 _ a ha];simp only[sg,aa hs]
abbrev pSg (b:C_)(k:Nat)(l:C_)(n:Nat):Prop:=l.length=k∧n<=b.length
def aqg {γ:Type}{b:C_}{v:Int}{r:E_}{a:Nat}{F:C_->Nat->γ}{G:Nat->γ}(ha:a<=b.length):rK (pSg b (r.length+1)) (gv b (v::r) a) F G =
  if v=0 then rK (pSg b r.length) (gv b r a) (λl n=>F (0::l) n) G else rK (pG b 1) (aE b a 1) (λs n=>rK (pSg b r.length) (gv b r n) (λl n=>F (s::l) n) G) G:=by
 rw[gv];by_cases hv:v=0
 .rw[ac hv,ac hv,fF (q:=pSg b r.length) λ_ _ h=>Cr ha h];refine cy (λ_ _=>rfl) (λl n hp=>?_) λ_=>rfl
  rw[b9 ⟨by simp[hp.1],hp.2⟩]
 .rw[aa hv,aa hv,ky];refine cy (λ_ _=>rfl) (λs n hp=>?_) λ_=>rfl
  rw[fF (q:=pSg b r.length) λ_ _ h=>Cr hp.2 h];refine cy (λ_ _=>rfl) (λl n hp=>?_) λ_=>rfl
  rw[b9 ⟨by simp[hp.1],hp.2⟩]
@[simp] def Su {a:C_}{x:Nat}:aS (a++[x])=aS a++[[.int .i64 (x:Int)]]:=by simp[aS]
def adf (b:C_)(hb:b.length<=1000000000)(X0:Obj)(N:Nat)(vals:E_)(hl:vals.length<=100)(hv:∀v∈vals,0<=v∧v<=130):∀(vs pre:E_) (sgn:C_) (a:Nat),vals=pre++vs->sgn.length=pre.length->a<=b.length->
  (Dn prog).code (.loop lF) ⟨[(0,.d (.lst (ax b))),(5,.ptr 0 0),(10,A_ a),(12,.sl 1 0 vals.length),(13,al 1 (aS sgn)),(14,A_ pre.length)],⟨[(0,X0),(1,.arr 1 (am vals))],N⟩⟩ =
  rK (pSg b vs.length) (gv b vs a) (λl n=>some (.exit 0,⟨[(0,.d (.lst (ax b))),(5,.ptr 0 0),(10,A_ n),(12,.sl 1 0 vals.length),(13,al 1 (aS (sgn++l)))],⟨[(0,X0),(1,.arr 1 (am vals))],N⟩⟩)) (λe=>U7 e ⟨[(1,.arr 1 (am vals))],N⟩):=by
 intro vs
 induction vs with
 |nil =>
  intro pre sgn a h1 h2 ha;rw[aR]at h1;subst h1;rw[ah zA,gv,b9 ⟨rfl,ha⟩];simp(maxSteps:=9^6)(disch:=omega)[aa]
 |cons v vs ih =>
  intro pre sgn a h1 h2 ha;have hlen:vals.length=pre.length+(vs.length+1):=by rw[h1];simp
  have hgv:nth vals pre.length=v:=by rw[h1];exact JH
  have hgi:(am vals)[pre.length]?=some [.int .i64 v]:=by rw[B7 o_,hgv]
  have hv1:=hv v (by rw[h1];simp);have e2:(aS sgn).length<1000000000:=by simp;omega
  rw[ah zA,ar,aqg ha];by_cases h0:v=0
  .subst h0;have ih:=ih (pre++[0]) (sgn++[0]) a (by rw[h1];simp) (by simp[h2]) ha;simp only[aN,ar,ck,aw,ib,Su,dy]at ih;simp(maxSteps:=9^6)(disch:=omega)[ac,aa,hgi];simp at ih;exact ih
  .rw[aa h0];simp(maxSteps:=9^6)(disch:=omega)[ac,aa,hgi,jg];refine cy (λ_ _=>rfl) (λs n hp=>?_) λ_=>rfl
   have ih:=ih (pre++[v]) (sgn++[s]) n (by rw[h1];simp) (by simp[h2]) hp.2;simp only[aN,ar,ck,aw,ib,Su,dy]at ih;simp at ih;exact ih
def axb {α γ:Type}{p q:α->Nat->Prop}{r:R α}{f:α->Nat->γ}{g:Nat->γ}(h1:∀v n,r=.ok v n->p v n)(h2:∀v n,r=.ok v n->q v n):rK p r f g=rK q r f g:=by
 cases r with
 |ok v n=>rw[b9 (h1 v n rfl),b9 (h2 v n rfl)]
 |er e=>rfl
def akW (id:Nat)(b:C_)(a:Int)(hb:b.length<=1000000000)(ha:i64 a)(hid:1<=id∧id<=11):bn prog En [.d (.lst (ax b)),A_ a,nb id] =
  rK (pH b id) (xw id b a) (λl n=>some (.tup [.own true 1 (am l),A_ n,A_ 0])) (λe=>some (.tup [.nl,A_ 0,A_ (e+1)])):=by
 have hok:iD id:=⟨hid.1,o_⟩
 have hr:=U3 id b a hb ha hok;have hsg:=acE id (dV hok);obtain⟨k1,k2,k3,k4,k5,k6,k7⟩:=mt id (dV hok);have hus:=JV id (dV hok);have hV:=λe (he:e<aZ id)=>arF id e hok (by omega)
 rw[aL P4 OC rfl];simp only[nb]at hr⊢;rw[xw,fF (q:=λe n=>e<aZ id∧n<=b.length) (λe n h=>MN hok h)];have hbl:∀e,(iJ id e).length=dI id:=λe=>C6
 have hbi:=λe=>Gf (low:=c4 id) (w:=cO id) k3 (d:=dI id) (e:=e)
 generalize hes:bV id=es at *;generalize hrs:dl id=rs at *;generalize hpl:cA id=pl at *;simp(maxSteps:=9^6)(disch:=omega)[hr,hsg,ac,aa];refine cy (λ_ _=>rfl) (λe n hp=>?_) λ_=>rfl
 have hVe:=hV e hp.1;have hie:=hbi e;simp only[iJ]at hVe hbl⊢;have hble:=hbl e;generalize fS (c4 id) (cO id) (dI id) e=vals at *;by_cases hs:kR id=true
 .rw[ac hs,b9 ⟨hble,hp.2,λx hx=>by have:=hie x hx;omega⟩];simp(maxSteps:=9^6)(disch:=omega)[hVe,hsg,hs,ac,aa]
 .have hs2:kR id=false:=by simpa using hs
  rw[aa hs];have hvv:∀v∈vals,0<=v∧v<=130:=λv hv=>by have:=hie v hv;have:=hus hs2;omega
  have hl0:=λX0=>adf b hb X0 2 vals o_ hvv vals [] [] n s_ rfl hp.2
  have c0:((0:Nat):Int)=0:=rfl;have hn0:aS []=[]:=rfl;simp only[ck,az,hn0,dH,c0]at hl0;simp(maxSteps:=9^6)(disch:=omega)[hVe,hsg,hs2,ac,aa,hl0];rw[fF (q:=pSg b vals.length) λ_ _ h=>Cr hp.2 h];refine cy (λ_ _=>rfl) (λss m hq=>?_) λ_=>rfl
  have h1:=ac7 b hb id pl (.d (.lst (aS es))) (.d (.lst (aS rs))) 2 vals.length o_ ss hq.1 vals [] m s_ hvv hq.2;have hne:aS ss≠[]:=λh=>by
   have h9:=aY List.length h;rw[yf,ck]at h9;have:=hq.1;omega
  simp only[ck,az,jP,c0]at h1;rw[fX hne];refine h1.trans ?_;refine axb (λl k h=>trivial) (λl k h=>?_);have:=Mj hq.2 hq.1 (λv hv=>by have:=hie v hv;omega) h;exact⟨o_,this.2⟩
abbrev fw:=@Nat.mod_eq_of_lt
def Fl (b:C_)(a:Int):R Int:=(zg 12 b a).bind λe n=>.ok ((e:Int)-60) n
abbrev pSt (b:C_)(d:Int)(n:Nat):Prop:=(-60<=d∧d<=60)∧n<=b.length
def akn {γ:Type}{b:C_}{a:Int}{F:Int->Nat->γ}{G:Nat->γ}:rK (pSt b) (Fl b a) F G=rK (λe n=>e<aZ 12∧n<=b.length) (zg 12 b a) (λe n=>F ((e:Int)-60) n) G:=by
 rw[Fl,fF (q:=λe n=>e<aZ 12∧n<=b.length) (λe n h=>MN o_ h)];refine cy (λ_ _=>rfl) (λe n hp=>?_) λ_=>rfl
 have h1:e<121:=hp.1;rw[b9 ⟨o_,hp.2⟩]
def ahn (b:C_)(a:Int)(hb:b.length<=1000000000)(ha:i64 a):bn prog Nr [.d (.lst (ax b)),A_ a] =
  rK (pSt b) (Fl b a) (λd n=>some (.tup [A_ d,A_ n,A_ 0])) (λe=>some (.tup [A_ 0,A_ 0,A_ (e+1)])):=by
 have hok:iD 12:=o_;have hr:=aco 12 b a hb ha hok;have hg:=afT 12 hok;have hV:=λe he=>VS 12 e hok he
 have c12:((12:Nat):Int)=12:=rfl;rw[aL aag aap rfl,akn];simp only[nb,yI,c12]at hr hg hV⊢;generalize hes:bV 12=es at *;generalize hrs:dl 12=rs at *;generalize hpl:cA 12=pl at *;simp(maxSteps:=9^6)(disch:=omega)[hr,hg,ac,aa];refine cy (λ_ _=>rfl) (λe n hp=>?_) λ_=>rfl
 have h1:e<121:=hp.1;have hv:am (iJ 12 e)=[[.int .i64 ((e:Int)-60)]]:=by
  show am [((e % 121:Nat):Int)+-60]=_;rw[fw h1];rfl
 have hVe:=hV e hp.1;rw[hv]at hVe;simp(maxSteps:=9^6)(disch:=omega)[hVe]
def acV (b:C_)(a:Int)(hb:b.length<=1000000000)(ha:i64 a):bn prog Aw [.d (.lst (ax b)),A_ a] =
  rK (pSt b) (Fl b a) (λd n=>some (.tup [A_ d,A_ n,A_ 0])) (λe=>some (.tup [A_ 0,A_ 0,A_ (e+1)])):=by
 have hok:iD 12:=o_;have hr:=U3 12 b a hb ha hok;have hg:=ahY;have c12:((12:Nat):Int)=12:=rfl;rw[aL Kc Ks rfl,akn];simp only[nb,yI,c12]at hr hg⊢;generalize hes:bV 12=es at *;generalize hrs:dl 12=rs at *;generalize hpl:cA 12=pl at *;simp(maxSteps:=9^6)(disch:=omega)[hr,hg,ac,aa];refine cy (λ_ _=>rfl) (λe n hp=>?_) λ_=>rfl
 have h1:e<121:=hp.1;simp(maxSteps:=9^6)(disch:=omega)
structure H2 (hp:Int->Int->ak)(A:Nat):Prop where
 get:∀s z,get (hp s z) A=some (.cells [A_ s,A_ z])
 put:∀s z s' z',put (hp s z) A (.cells [A_ s',A_ z'])=hp s' z'
abbrev xt (book n s z:Int):Prop:=if book=13 then (0<=n∧n<=511)∧(z<0∨(z-60<=n∧n<=z+60)) else (0<=n∧n<=255)∧(s-60<=n∧n<=s+60)
def amC {hp:Int->Int->ak}{A:Nat}(H:H2 hp A)(book n s z:Int)(N:Nat)(hn:-100000<=n∧n<=100000)(hs:-100000<=s∧s<=100000)(hz:-100000<=z∧z<=100000) :
  (Dn prog).call xJ [.ptr A 0,A_ book,A_ n] ⟨hp s z,N⟩ =
   if xt book n s z then some (B_ true,⟨if book=13 then hp s n else hp n z,N⟩) else some (B_ false,⟨hp s z,N⟩):=by
 rw[bC R3 Td rfl];by_cases hb:book=13
 .by_cases ho:(0<=n∧n<=511)∧(z<0∨(z-60<=n∧n<=z+60))
  .rw[ac (by rw[xt,ac hb];exact ho),ac hb];subst hb;rcases ho with ⟨⟨o1,o2⟩,o3|⟨o3,o4⟩⟩
   .simp(maxSteps:=9^6)(disch:=omega)[↓ac,↓aa,H.get,H.put]
   .by_cases hz0:z<0
    .simp(maxSteps:=9^6)(disch:=omega)[↓ac,↓aa,H.get,H.put]
    .simp(maxSteps:=9^6)(disch:=omega)[↓ac,↓aa,H.get,H.put]
  .rw[aa (by rw[xt,ac hb];exact ho)];subst hb;by_cases o1:n<0
   .simp(maxSteps:=9^6)(disch:=omega)[↓ac,↓aa,H.get,H.put]
   .by_cases o2:511<n
    .simp(maxSteps:=9^6)(disch:=omega)[↓ac,↓aa,H.get,H.put]
    .by_cases o3:n<z-60
     .simp(maxSteps:=9^6)(disch:=omega)[↓ac,↓aa,H.get,H.put]
     .simp(maxSteps:=9^6)(disch:=omega)[↓ac,↓aa,H.get,H.put]
 .by_cases ho:(0<=n∧n<=255)∧(s-60<=n∧n<=s+60)
  .rw[ac (by rw[xt,aa hb];exact ho),aa hb];obtain⟨⟨o1,o2⟩,o3,o4⟩:=ho;simp(maxSteps:=9^6)(disch:=omega)[↓ac,↓aa,H.get,H.put]
  .rw[aa (by rw[xt,aa hb];exact ho)];by_cases o1:n<0
   .simp(maxSteps:=9^6)(disch:=omega)[↓ac,↓aa,H.get,H.put]
   .by_cases o2:255<n
    .simp(maxSteps:=9^6)(disch:=omega)[↓ac,↓aa,H.get,H.put]
    .by_cases o3:n<s-60
     .simp(maxSteps:=9^6)(disch:=omega)[↓ac,↓aa,H.get,H.put]
     .simp(maxSteps:=9^6)(disch:=omega)[↓ac,↓aa,H.get,H.put]
abbrev aU:=@List.drop_eq_nil_iff
def EY {l:U_}{i:Nat}{s:bl}{r:U_}(h:l.drop i=s::r):(fj l)[i]?=some [.int .i64 s.book,.int .i64 s.len]:=by
 have:=aY (λl=>l[0]?) h;simp only[bx,bK,cS]at this;rw[fj,bM,this];rfl
def dU {α:Type}{l:List α}{i:Nat}{s:α}{r:List α}(h:l.drop i=s::r):l.drop (i+1)=r:=by
 have:=aY (λl=>l.drop 1) h;simpa [cW] using this
def ed {α:Type}{l:List α}{i:Nat}{s:α}{r:List α}(h:l.drop i=s::r):i<l.length:=by
 rcases bD i l.length with g|g
 .exact g
 .rw[cY g]at h;exact absurd h (by simp)
def aeX (full:U_)(hl:full.length<=1000000)(x21:AV)(y22 y23:D):∀(l:U_) (i:Nat) (lf c:Int) (N:Nat),full.drop i=l->fitsS lf l->0<=c->lf+c<=1000->
  (Dn prog).code (.loop yR) ⟨[(7,A_ (lf+c)),(21,x21),(22,.d y22),(23,.d y23),(27,.d (.lst (fj full))),(28,A_ full.length),(29,A_ i)],⟨[],N⟩⟩ =
  some (.exit 2,⟨[(21,x21),(22,.d y22),(23,.d y23)],⟨[],N+l.length⟩⟩):=by
 intro l
 induction l with
 |nil =>
  intro i lf c N h hf h0 h1;have hi:full.length<=i:=by simpa [aU] using h
  rw[ah Ny];simp(maxSteps:=9^6)(disch:=omega)[↓ac,↓aa]
 |cons s r ih =>
  intro i lf c N h hf h0 h1;obtain⟨⟨⟨s1,s2⟩,s3,s4⟩,hf2⟩:=hf;have hg:=EY h;have hlt:=ed h;have h5:=ih (i+1) (lf-s.len) c (N+1) (dU h) hf2 h0 o_;have c1:((i+1:Nat):Int)=(i:Int)+1:=rfl;have c2:lf-s.len+c=lf+c-s.len:=o_;rw[c1,c2]at h5;have e:N+(s::r).length=N+1+r.length:=by simp only[ar];omega
  rw[ah Ny,e,<-h5];rcases s4 with s4|s4
  .simp(maxSteps:=9^6)(disch:=omega)[↓ac,↓aa,hg]
  .simp(maxSteps:=9^6)(disch:=omega)[↓ac,↓aa,hg,s4]
def aaa:H_->Nat
 |[]=>0
 |l::r=>l.length+aaa r
def xB {g:H_}{i:Nat}{l:U_}{r:H_}(h:g.drop i=l::r):(bi g)[i]?=some [.lst (fj l)]:=by
 have:=aY (λl=>l[0]?) h;simp only[bx,bK,cS]at this;rw[bi,bM,this];rfl
def ahf (full:H_)(hl:full.length<=1000)(m:Int)(hm:0<=m∧m<=40):∀(g:H_) (i N:Nat),full.drop i=g->(∀l∈g,fitsS m l∧l.length<=1000)->
  (Dn prog).code (.loop yX) ⟨[(21,.d (.lst (bi full))),(22,A_ full.length),(23,A_ i)],⟨[],N⟩⟩=some (.exit 0,⟨[],⟨[],N+aaa g⟩⟩):=by
 intro g
 induction g with
 |nil =>
  intro i N h hf;have hi:full.length<=i:=by simpa [aU] using h
  rw[ah Ni];simp(maxSteps:=9^6)(disch:=omega)[↓ac,↓aa,aaa]
 |cons l r ih =>
  intro i N h hf;have hg:=xB h;have hlt:=ed h;obtain⟨f1,f2⟩:=hf l (.head _);have h0:=aeX l o_ (.d (.lst (bi full))) (.int .i64 full.length) (.int .i64 i) l 0 m (40-m) N rfl f1 o_ o_;have h5:=ih (i+1) (N+l.length) (dU h) λq hq=>hf q (.tail _ hq)
  have c1:((i+1:Nat):Int)=(i:Int)+1:=rfl;have c2:m+(40-m)=40:=o_;have c0:((0:Nat):Int)=0:=rfl;rw[c1]at h5;rw[c2,c0]at h0;have e:N+aaa (l::r)=N+l.length+aaa r:=by rw[aaa];omega
  rw[ah Ni,e,<-h5];simp(maxSteps:=9^6)(disch:=omega)[↓ac,↓aa,hg,h0]
def ao6 (gain m:Int)(g:H_)(hgn:0<=gain∧gain<=255)(hl:g.length<=8)(hm:0<=m∧m<=40)(hf:∀l∈g,fitsS m l∧l.length<=1000) :
  bn prog VT [A_ gain,.d (.lst (bi g))]=some (B_ true):=by
 have h:=ahf g o_ m hm g 0 0 rfl hf;have c0:((0:Nat):Int)=0:=rfl;rw[c0]at h;rw[aL ah1 ahV rfl];simp(maxSteps:=9^6)(disch:=omega)[↓ac,↓aa,h]
def bz (l:U_):E_:=l.flatMap λs=>List.replicate s.len.toNat s.book
def D3 {l:E_}{x:Int}:am (l++[x])=am l++[[.int .i64 x]]:=by simp[am]
def dc {l:E_}:(am l).length=l.length:=by simp[am]
def aaD (full r:U_)(s:bl)(i:Nat)(hd:full.drop i=s::r)(hs:0<=s.len∧s.len<=1000)(h:ak)(N:Nat):∀(k j:Nat) (acc:E_),j+k=s.len.toNat->acc.length<=10000000+j->
  (Dn prog).code (.loop kH) ⟨[(0,.d (.lst (fj full))),(3,al 1 (am acc)),(4,A_ i),(5,A_ j)],⟨h,N⟩⟩ =
  some (.exit 2,⟨[(0,.d (.lst (fj full))),(3,al 1 (am (acc++List.replicate k s.book))),(4,A_ i)],⟨h,N⟩⟩):=by
 have hg:=EY hd;have hlt:=ed hd;intro k
 induction k with
 |zero =>
  intro j acc h1 h2;rw[ah xD];simp(maxSteps:=9^6)(disch:=omega)[ac,aa,hg]
 |succ k ih =>
  intro j acc h1 h2;have hl:=dc (l:=acc);have h5:=ih (j+1) (acc++[s.book]) o_ t_;have c1:((j+1:Nat):Int)=(j:Int)+1:=rfl;rw[c1,aw]at h5;have er:acc++List.replicate (k+1) s.book=acc++([s.book]++List.replicate k s.book):=by rw[cD];rfl
  rw[ah xD,er,<-h5,D3,dy];simp(maxSteps:=9^6)(disch:=omega)[ac,aa,hg]
def abr (full:U_)(hfl:full.length<=1000)(h:ak)(N:Nat):∀(l:U_) (i:Nat) (acc:E_),full.drop i=l->(∀s∈l,0<=s.len∧s.len<=1000)->acc.length<=1000*i->
  (Dn prog).code (.loop ko) ⟨[(0,.d (.lst (fj full))),(3,al 1 (am acc)),(4,A_ i)],⟨h,N⟩⟩ =
  some (.exit 0,⟨[(3,al 1 (am (acc++bz l)))],⟨h,N⟩⟩):=by
 have hsl:(fj full).length=full.length:=Pw;intro l
 induction l with
 |nil =>
  intro i acc h1 h2 h3;have hi:full.length<=i:=by simpa [aU] using h1
  rw[ah ye];simp(maxSteps:=9^6)(disch:=omega)[ac,aa,bz]
 |cons s r ih =>
  intro i acc h1 h2 h3;have hs:=h2 s (.head _);have hlt:=ed h1;have h0:=aaD full r s i h1 hs h N s.len.toNat 0 acc o_ o_;have h5:=ih (i+1) (acc++List.replicate s.len.toNat s.book) (dU h1) (λq hq=>h2 q (.tail _ hq)) t_;have c1:((i+1:Nat):Int)=(i:Int)+1:=rfl;have c0:((0:Nat):Int)=0:=rfl;rw[c1]at h5;rw[c0]at h0;have eb:acc++bz (s::r)=acc++List.replicate s.len.toNat s.book++bz r:=by rw[bz,be,aw];rfl
  rw[ah ye,eb,<-h5];simp(maxSteps:=9^6)(disch:=omega)[ac,aa,h0]
def afy (xs:E_):AV:=match xs with
 |[]=>.nl
 |x::r=>.own true 1 (am (x::r))
def aos (l:E_):((am l).all λe=>e.all jf)=true:=by
 rw[bF];intro e he;simp only[am,cX]at he;obtain⟨y,_,rfl⟩:=he;rfl
def agf (h:ak)(xs:E_):eY h (al 1 (am xs))=some (afy xs):=by
 cases xs with
 |nil=>rfl
 |cons x r =>
  have hf:iV (.own false 1 (am (x::r)))=true:=aos (x::r);show some (et (.own false 1 (am (x::r))))=_;rw[et,hf];rfl
def aif (l:U_)(hl:l.length<=1000)(hs:∀s∈l,0<=s.len∧s.len<=1000):bn prog C4 [.d (.lst (fj l))]=some (afy (bz l)):=by
 have h:=abr l hl [] 0 l 0 [] rfl hs s_;have c0:((0:Nat):Int)=0:=rfl;have n0:am ([]:E_)=[]:=rfl;rw[c0,n0,dH,az]at h;rw[aL Nx Np rfl];simp(maxSteps:=9^6)(disch:=omega)[ac,aa,h,agf]
abbrev nV (book:Int):Int:=if book=13 then 511 else 255
def i9 (b:C_)(a book was:Int):R Int :=
 if was<0 then (aE b a 9).bind λv n=>.ok (v:Int) n
 else (Fl b a).bind λd n=>if was+d<0∨nV book<was+d then .er 7 else .ok (was+d) n
abbrev aan (b:C_)(book:Int)(v:Int)(n:Nat):Prop:=(0<=v∧v<=511)∧n<=b.length
def UG {b:C_}{a:Int}{d:Int}{n:Nat}(h:Fl b a=.ok d n):pSt b d n:=by
 rw[Fl]at h
 cases h1:zg 12 b a with
 |er e=>rw[h1]at h;exact absurd h (by simp)
 |ok e m =>
  rw[h1,ao]at h;obtain⟨k1,k2⟩:=MN o_ h1;have h2:e<121:=k1;injection h with g1 g2
  subst g1 g2;exact⟨o_,k2⟩
def ag1 {γ:Type}{b:C_}{a book was:Int}(hw:was<0){F:Int->Nat->γ}{G:Nat->γ}:rK (aan b book) (i9 b a book was) F G=rK (pG b 9) (aE b a 9) (λv n=>F (v:Int) n) G:=by
 rw[i9,ac hw,ky];refine cy (λ_ _=>rfl) (λv n hp=>?_) λ_=>rfl
 have h1:v<512:=hp.1;rw[b9 ⟨o_,hp.2⟩]
def aez {γ:Type}{b:C_}{a book was:Int}(hw:¬was<0){F:Int->Nat->γ}{G:Nat->γ}:rK (aan b book) (i9 b a book was) F G=rK (pSt b) (Fl b a) (λd n=>if was+d<0∨nV book<was+d then G 7 else F (was+d) n) G:=by
 rw[i9,aa hw,fF (q:=pSt b) (λd n h=>UG h)];refine cy (λ_ _=>rfl) (λd n hp=>?_) λ_=>rfl
 by_cases h:was+d<0∨nV book<was+d
 .rw[ac h,ac h,ee]
 .rw[aa h,aa h,b9 ⟨by simp only[nV]at h;split at h<;>omega,hp.2⟩]
def acp (b:C_)(a book was:Int)(hb:b.length<=1000000000)(ha:i64 a)(hw:-1<=was∧was<=511):bn prog ED [.d (.lst (ax b)),A_ a,A_ book,A_ was] =
  rK (aan b book) (i9 b a book was) (λv n=>some (.tup [A_ v,A_ n,A_ 0])) (λe=>some (.tup [A_ 0,A_ 0,A_ (e+1)])):=by
 rw[aL Rl Ri rfl];have hst:=acV b a hb ha;by_cases h13:book=13
 .by_cases hw0:was<0
  .rw[ag1 hw0];simp(maxSteps:=9^6)(disch:=omega)[ac,aa,jg]
  .rw[aez hw0];simp(maxSteps:=9^6)(disch:=omega)[ac,aa,hst]
 .by_cases hw0:was<0
  .rw[ag1 hw0];simp(maxSteps:=9^6)(disch:=omega)[ac,aa,jg]
  .rw[aez hw0];simp(maxSteps:=9^6)(disch:=omega)[ac,aa,hst]
def GF {b:C_}{a book was:Int}{v:Int}{n:Nat}(h:i9 b a book was=.ok v n):aan b book v n:=by
 rw[i9]at h;split at h
 .cases h1:aE b a 9 with
  |er e=>rw[h1]at h;exact absurd h (by simp)
  |ok v0 m =>
   rw[h1,ao]at h;have hp:=cu h1;have h2:v0<512:=hp.1;have h3:=hp.2;injection h with g1 g2
   subst g1 g2;exact⟨o_,h3⟩
 .cases h1:Fl b a with
  |er e=>rw[h1]at h;exact absurd h (by simp)
  |ok d m =>
   rw[h1,ao]at h;have hp:=UG h1;split at h
   .exact absurd h (by simp)
   .rename_i hn;injection h with g1 g2
    subst g1 g2;refine⟨?_,hp.2⟩;simp only[nV]at hn;split at hn<;>omega
def mC (b:C_):E_->Int->Int->Int->R (E_×Int×Int)
 |[],a,w,z=>.ok ([],w,z) a.toNat
 |k::r,a,w,z=>if k=13 then (i9 b a 13 z).bind λv n=>(mC b r n w v).bind λq n=>.ok (v::q.1,q.2) n
  else if 0<k then (i9 b a k w).bind λv n=>(mC b r n v z).bind λq n=>.ok (v::q.1,q.2) n
  else (mC b r a w z).bind λq n=>.ok (0::q.1,q.2) n
abbrev KL (w:Int):Prop:=-1<=w∧w<=511
abbrev abk (b:C_)(r:E_)(q:E_×Int×Int)(n:Nat):Prop:=q.1.length=r.length∧(KL q.2.1∧KL q.2.2)∧n<=b.length
def uh {b:C_}:∀{r:E_}{a:Nat}{w z:Int}{q:E_×Int×Int}{n:Nat},a<=b.length->KL w->KL z->mC b r a w z=.ok q n->abk b r q n
 |[],a,w,z,q,n,ha,hw,hz,h=>by
  rw[mC]at h;injection h with g1 g2
  subst g1 g2;exact⟨rfl,⟨hw,hz⟩,by simpa using ha⟩
 |k::r,a,w,z,q,n,ha,hw,hz,h=>by
  rw[mC]at h;split at h
  .cases h1:i9 b a 13 z with
   |er e=>rw[h1]at h;exact absurd h (by simp)
   |ok v m =>
    rw[h1,ao]at h;have hp:=GF h1
    cases h2:mC b r m w v with
    |er e=>rw[h2]at h;exact absurd h (by simp)
    |ok q1 m1 =>
     rw[h2,ao]at h;have hq:=uh hp.2 hw ⟨by have:=hp.1.1;omega,hp.1.2⟩ h2;injection h with g1 g2
     subst g1 g2;exact⟨by simp[hq.1],hq.2⟩
  .split at h
   .cases h1:i9 b a k w with
    |er e=>rw[h1]at h;exact absurd h (by simp)
    |ok v m =>
     rw[h1,ao]at h;have hp:=GF h1
     cases h2:mC b r m v z with
     |er e=>rw[h2]at h;exact absurd h (by simp)
     |ok q1 m1 =>
      rw[h2,ao]at h;have hq:=uh hp.2 ⟨by have:=hp.1.1;omega,hp.1.2⟩ hz h2;injection h with g1 g2
      subst g1 g2;exact⟨by simp[hq.1],hq.2⟩
   .cases h2:mC b r a w z with
    |er e=>rw[h2]at h;exact absurd h (by simp)
    |ok q1 m1 =>
     rw[h2,ao]at h;have hq:=uh ha hw hz h2;injection h with g1 g2
     subst g1 g2;exact⟨by simp[hq.1],hq.2⟩
def arz {l:E_}{i:Nat}{k:Int}{r:E_}(h:l.drop i=k::r):(am l)[i]?=some [.int .i64 k]:=by
 have:=aY (λl=>l[0]?) h;simp only[bx,bK,cS]at this;rw[am,bM,this];rfl
def NN {l:E_}(h:l≠[]):share (al 1 (am l))=.d (.lst (am l)):=Mw (by cases l with|nil=>exact absurd rfl h|cons=>simp[am])
abbrev asG (e:Nat)(h:HS):I_:=some (.ret,⟨[(8,.nl),(9,A_ 0),(10,A_ (e+1))],h⟩)
def adk (b:C_)(hb:b.length<=1000000000)(bks:E_)(x3 x11:AV)(y14:D)(h:ak)(N:Nat):∀(r:E_) (k a:Nat) (w z:Int) (acc:E_),bks.drop k=r->bks.length<=1000000->a<=b.length->KL w->KL z->acc.length<=1000000+k->
  (Dn prog).code (.loop lG) ⟨[(0,.d (.lst (ax b))),(1,A_ a),(3,x3),(11,x11),(12,A_ w),(13,A_ z),(14,.d y14),(15,al 1 (am bks)),(16,al 1 (am acc)),(17,A_ k)],⟨h,N⟩⟩ =
  rK (abk b r) (mC b r a w z) (λq n=>some (.exit 2,⟨[(0,.d (.lst (ax b))),(1,A_ n),(3,x3),(11,x11),(12,A_ q.2.1),(13,A_ q.2.2),(14,.d y14),(16,al 1 (am (acc++q.1)))],⟨h,N⟩⟩)) (λe=>asG e ⟨h,N⟩):=by
 intro r
 induction r with
 |nil =>
  intro k a w z acc hd hbl ha hw hz hac;have hk:bks.length<=k:=by simpa [aU] using hd
  have hl:=dc (l:=bks);rw[ah zX,mC,b9 ⟨rfl,⟨hw,hz⟩,by simpa using ha⟩];by_cases hne:bks=[]
  .subst hne;have n0:am ([]:E_)=[]:=rfl;simp(maxSteps:=9^6)(disch:=omega)[ac,aa,n0,dH]
  .simp(maxSteps:=9^6)(disch:=omega)[ac,aa,NN hne]
 |cons x r ih =>
  intro k a w z acc hd hbl ha hw hz hac;have hlt:=ed hd;have hne:bks≠[]:=by intro e;subst e;simp at hlt
  have hg:=arz hd;have hla:=dc (l:=acc);have c1:((k+1:Nat):Int)=(k:Int)+1:=rfl;have h13:=acp b a 13 z hb o_ hz;have hx:=acp b a x w hb o_ hw;rw[ah zX,mC];by_cases e1:x=13
  .subst e1;rw[ac rfl,fF (q:=aan b 13) λ_ _ h=>GF h];simp(maxSteps:=9^6)(disch:=omega)[ac,aa,NN hne,hg,h13,dc];refine pt (λ_ _ h=>GF h) (λv n e2 hp=>?_) λe e2=>rfl
   have hv:KL v:=⟨by have:=hp.1.1;omega,hp.1.2⟩
   have h5:=ih (k+1) n w v (acc++[v]) (dU hd) hbl hp.2 hw hv t_;have eo:al 1 (am (acc++[v]))=.own false 1 (am (acc++[v])):=fX (by simp[am]);rw[c1,eo]at h5;rw[h5,fF (q:=abk b r) λ_ _ h=>uh hp.2 hw hv h];refine pt (λ_ _ h=>uh hp.2 hw hv h) (λq m e3 hq=>?_) λe e3=>rfl
   rw[b9 ⟨by simp[hq.1],hq.2⟩,aw];rfl
  .rw[aa e1];by_cases e2:0<x
   .rw[ac e2,fF (q:=aan b x) λ_ _ h=>GF h];simp(maxSteps:=9^6)(disch:=omega)[ac,aa,NN hne,hg,hx,dc];refine pt (λ_ _ h=>GF h) (λv n e2 hp=>?_) λe e2=>rfl
    have hv:KL v:=⟨by have:=hp.1.1;omega,hp.1.2⟩
    have h5:=ih (k+1) n v z (acc++[v]) (dU hd) hbl hp.2 hv hz t_;have eo:al 1 (am (acc++[v]))=.own false 1 (am (acc++[v])):=fX (by simp[am]);rw[c1,eo]at h5;rw[h5,fF (q:=abk b r) λ_ _ h=>uh hp.2 hv hz h];refine pt (λ_ _ h=>uh hp.2 hv hz h) (λq m e3 hq=>?_) λe e3=>rfl
    rw[b9 ⟨by simp[hq.1],hq.2⟩,aw];rfl
   .rw[aa e2];have h5:=ih (k+1) a w z (acc++[0]) (dU hd) hbl ha hw hz t_;have eo:al 1 (am (acc++[0]))=.own false 1 (am (acc++[0])):=fX (by simp[am]);rw[c1,eo]at h5;rw[fF (q:=abk b r) λ_ _ h=>uh ha hw hz h];simp(maxSteps:=9^6)(disch:=omega)[ac,aa,NN hne,hg,dc];rw[h5];refine pt (λ_ _ h=>uh ha hw hz h) (λq m e3 hq=>?_) λe e3=>rfl
    rw[b9 ⟨by simp[hq.1],hq.2⟩,aw];rfl
def bh (n:Nat):Nat->C_
 |0=>[]
 |k+1=>n / 2 ^ k % 2::bh n k
@[simp] def xA {n:Nat}:∀{k:Nat},(bh n k).length=k
 |0=>rfl
 |k+1=>by rw[bh,ar,xA]
def awR {n k:Nat}(hk:k<=63):fT .shr (A_ (n:Int)) (A_ (k:Int))=some (.int .i64 ((n / 2 ^ k:Nat):Int)):=by
 rw[aed o_];have:min ((k:Int)).toNat IntKind.i64.bits=k:=by simp only[au,IntKind.bits];omega
 rw[this,rL _ (mo _),<-Int.natCast_ediv]
def aCm {a:Nat}(h:a<9223372036854775808):fT .and (A_ (a:Int)) (A_ 1)=some (.int .i64 ((a % 2:Nat):Int)):=by
 have:=axv (k:=.i64) (a:=a) (b:=1) (by simpa [AA,IntKind.signed] using h) d_;rw[Nat.and_one_is_mod]at this;exact this
def an4 {σ:Type}{hp:σ->ak}{l p N:Nat}{st:σ->Nat->σ}{eq:Nat->σ->Prop}(hI:∀k s x,eq (k+1) s->eq k (st s x))(n:Nat)(hn:n<=9223372036854775807)(hg:∀s,get (hp s) p=some (.cells [A_ n]))
  (hy:∀(k:Nat) (s:σ) (x:Nat),eq (k+1) s->x<=1->dD (Dn prog) (.yield l) [.d (.int .u8 (x:Int))] ⟨hp s,N⟩=some (B_ true,⟨hp (st s x),N⟩)):∀(k:Nat) (I:Int) (s:σ),k<=31->eq k s->I=k-1->
  (Dn prog).code (.loop vJ) ⟨[(0,.yield l),(2,.ptr p 0),(4,A_ I)],⟨hp s,N⟩⟩=some (.exit 0,⟨[],⟨hp ((bh n k).foldl st s),N⟩⟩):=by
 intro k
 induction k with
 |zero =>
  intro I s hk hi hI;subst hI;rw[ah I0];simp(disch:=omega)[↓aa,bh]
 |succ k ih =>
  intro I s hk hi hI;subst hI;have c:((k+1:Nat):Int)-1=(k:Int):=o_;have h1:n / 2 ^ k<=n:=lR _ _;have h2:=awR (n:=n) (k:=k) o_;have h3:=aCm (a:=n / 2 ^ k) o_;have h4:=hy k s (n / 2 ^ k % 2) hi o_;have h5:=ih ((k:Int)-1) (st s (n / 2 ^ k % 2)) o_ (hI _ _ _ hi) rfl;rw[c,ah I0,bh,qe];generalize n / 2 ^ k=Q at *;have c2:((Q % 2:Nat):Int)=(Q:Int) % 2:=o_;rw[c2]at h4;simp(disch:=omega)[↓ac,hg,-aed,h2,h3,-rI,h4];exact h5
def awW {σ:Type}{hp:σ->ak}{l p q N:Nat}{st:σ->Nat->σ}{eq:Nat->σ->Prop}(hI:∀k s x,eq (k+1) s->eq k (st s x))(n k:Nat)(hn:n<=9223372036854775807)(hk:k<=31)(hg:∀s,get (hp s) p=some (.cells [A_ n]))(hg2:∀s,get (hp s) q=some (.cells [A_ k]))
  (hy:∀(k:Nat) (s:σ) (x:Nat),eq (k+1) s->x<=1->dD (Dn prog) (.yield l) [.d (.int .u8 (x:Int))] ⟨hp s,N⟩=some (B_ true,⟨hp (st s x),N⟩))(s:σ)(hs:eq k s) :
  (Dn prog).call BR [.yield l,.ptr q 0,.ptr p 0] ⟨hp s,N⟩=some (.tup [],⟨hp ((bh n k).foldl st s),N⟩):=by
 rw[bC acP ac0 rfl];have h:=an4 hI n hn hg hy k ((k:Int)-1) s hk hs rfl;simp(disch:=omega)[hg2,h]
def aqm {l acc:C_}:l.foldl (fun(s:C_) x=>s++[x]) acc=acc++l:=by
 induction l generalizing acc with
 |nil=>simp
 |cons x r ih=>rw[qe,ih];simp
def inB (x:AV)(b:C_):Prop:=x=.own false 1 (ax b)∨x=.d (.lst (ax b))∨x=.nl∧b=[]
def KF:E_->Int->Nat
 |[],_=>0
 |n::r,w=>if w<n then 0 else KF r (w-n)+1
def eR {i:aG}(hm:i.may 11):(∀n∈i.groups,1<=n∧n<=8)∧i.groups.sum=i.many:=by
 obtain⟨_,_,_,_,h⟩:=hm;unfold aG.grouped at h;unfold aG.many;by_cases hs:i.seq=2
 .rw[ac hs]at h⊢;exact⟨h.1,h.2.1⟩
 .rw[aa hs]at h⊢;rw[h];simp
def Zi:∀x∈D5,nY x.1 x.2<=nY 11 x.2∧nY x.1 true<=14:=g_
def iY {r:Nat}{i:aG}(hr:r<=11)(h:i.may r):i.may 11:=by
 obtain⟨h1,h2,h3,h4,h5⟩:=h;have:=(Zi _ (iZ (r:=r) (s:=decide (i.seq=2)) o_)).1;exact⟨h1,h2,h3,by simp only[]at this;omega,h5⟩
def Vz (g:E_):Nat->Nat->C_
 |0,_=>[]
 |k+1,w=>(if KF g w=KF g (w+1) then bh 1 1 else bh 0 1)++Vz g k (w+1)
def ai3 {g:E_}:∀{k w:Nat},(Vz g k w).length=k
 |0,_=>rfl
 |k+1,w=>by rw[Vz,aN,ai3];split<;>simp<;>omega
def N2 (i:aG):C_:=bh 0 1++(bh i.seq 2++(bh i.shape 1++(if i.seq=2 then bh i.max.toNat 4++Vz i.groups 7 0 else bh i.max.toNat 6++bh 0 1)))
def eD {α:Type}{l:List α}{i:Nat}(h:l.drop i=[]):l.length<=i:=u_
abbrev Kv (m:Int)(g:H_):Prop:=∀l∈g,fitsS m l
abbrev aDy (g:H_):Prop:=g.length<=1000∧∀l∈g,l.length<=1000
abbrev tF (i:aG)(g:H_):Prop:=g.length=i.groups.length∧Kv i.max g
def kQ (bQ:Nat):Nat->Nat->C_
 |0,n=>[n]
 |f+1,n=>if bQ<=n then bQ::kQ bQ f (n-bQ) else [n]
def alG (sz:Nat)(s:bl):C_:=bh s.book.toNat 4++(kQ (2 ^ sz-1) s.len.toNat s.len.toNat).flatMap λn=>bh n sz
def TP (sz:Nat)(l:U_):C_:=l.flatMap (alG sz)
def Ot {lf:Int}:∀{l:U_},fitsS lf l->lf<=1000->∀s∈l,s.right 1000
 |[],_,_,s,h=>absurd h (by simp)
 |x::r,hf,h0,s,h=>by
  obtain⟨h1,h2⟩:=hf;rcases aD.1 h with e|e
  .grind
  .exact Ot h2 o_ s e
def asv (i:aG)(g:H_):C_:=g.flatMap (TP i.fsz)
def afq {lf:Int}:∀{l:U_},fitsS lf l->(l.length:Int)<=lf∨l=[]
 |[],_=>.inr rfl
 |x::r,hf=>by
  obtain⟨h1,h2⟩:=hf;have:=afq h2
  grind
end Go.Vm
end
