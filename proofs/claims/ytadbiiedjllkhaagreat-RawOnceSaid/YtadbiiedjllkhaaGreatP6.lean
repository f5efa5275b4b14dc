import Derived.Test.YtadbiiedjllkhaaGreatP5
set_option linter.unusedVariables false
set_option linter.unusedSimpArgs false
set_option linter.defProp false
set_option linter.unusedSectionVars false
noncomputable section
namespace Go.Vm
set_option maxRecDepth 100000
set_option maxHeartbeats 4000000
def mu (b:C_)(r:Nat)(q:Bool)(i:aM):Nat->Nat->R BA_
 |0,a=>.ok [] a
 |k+1,a=>(AT b a r q i).bind λv n=>(mu b r q i k n).bind λl m=>.ok (I6 v::l) m
abbrev Bs (n i:Int):aV:=[(2,.ptr 0 0),(4,.ptr 1 0),(6,.ptr 2 0),(7,.ptr 3 0),(140,A_ n),(141,A_ i)]
abbrev zF:D_:=[.nl,B_ false,A_ 0,.nl,.nl]
def alb (q:Bool)(i:aM)(I iv:D_):Prop:=(I=[.d (.int .u8 i.seq),.d (.int .u8 i.shape),A_ i.max,.own false 1 (aF i.groups)]∧iv=i.cells)∨(I=zI∧q=false∧iv=zI)
section
variable (b:C_)(hb:b.length<=1000000000)
theorem agY (C F I:D_)(s:Nat×Nat)(n:Int)(N:Nat)(hN:4<=N) :
  (Dn prog).code (.loop eQ) ⟨Bs n n,⟨fI C F I [] (cK b s),N⟩⟩=some (.exit 5,⟨[(4,.ptr 1 0),(6,.ptr 2 0)],⟨[(1,.cells F),(2,.cells (cK b s))],N⟩⟩):=by
 rw[ah xU];simp(maxSteps:=300000) (disch:=omega)[↓ac,↓aa]
theorem aeg (C I:D_)(f0 f1 f2 f3 f4:AV)(s:Nat×Nat)(hs:s.2≠0)(n i:Int)(hi:i<n)(N:Nat) :
  (Dn prog).code (.loop eQ) ⟨Bs n i,⟨fI C [f0,f1,f2,f3,f4] I [] (cK b s),N⟩⟩=some (.ret,⟨[(4,.ptr 1 0),(5,A_ s.2)],⟨[(1,.cells zF),(2,.cells (cK b s))],N⟩⟩):=by
 obtain⟨a,e⟩:=s;simp only at hs;rw[ah xU];simp only[fI,cK];simp(maxSteps:=300000) (disch:=omega)[↓ac,↓aa,hs]
include hb
theorem aem (r:Nat)(hr:r<=11)(q:Bool)(i:aM)(hi:i.Fit)(I iv:D_)(hI:alb q i I iv)(c1 c2 c3 f2 f3 f4:AV)(a:Nat)(ha:a<=b.length)(acc:BA_)(hacc:acc.length<=100)(v:Hd×G_)(m:Nat)(hv:AT b a r q i=.ok v m)(n j:Nat)(hj:j<n)(hn:n<=2)(N:Nat)(hN:4<=N) :
  (Dn prog).code (.loop eQ) ⟨Bs n j,⟨fI [A_ r,c1,c2,c3] [aD 9 (dI acc),B_ q,f2,f3,f4] I [] (cK b (a,0)),N⟩⟩ =
  (Dn prog).code (.loop eQ) ⟨Bs n (j+1:Nat),⟨fI [A_ r,c1,c2,c3] [aD 9 (dI (acc++[I6 v])),B_ q,f2,f3,f4] I [] (cK b (m,0)),N+1⟩⟩:=by
 have hiv:iv=i.cells∨q=false∧iv=zI:=hI.imp And.right λh=>⟨h.2.1,h.2.2⟩
 have hG:=ajp b hb a o_ r hr q i hi iv hiv;rw[hv]at hG;have cj:((j+1:Nat):Int)=(j:Int)+1:=rfl;have c0:((0:Nat):Int)=0:=rfl;have hA:(dI acc).length=acc.length:=Gq;have e:aD 9 (dI (acc++[I6 v]))=.own false 9 (dI acc++[[.int .i64 v.1.gain,.int .u8 v.1.inf.seq,.int .u8 v.1.inf.shape,.int .i64 v.1.inf.max,.lst (aF v.1.inf.groups),.lst (bF v.1.S),.lst (c7 v.1.T),.lst (cX v.1.F),.lst (aF v.2)]]):=by rw[an0,mY]
 have n0:N≠0∧N≠1∧N≠2∧N≠3:=o_;rw[cj,e];simp only[cK,fI,c0,aqc,Sc]at hG⊢;generalize dI acc=A at *;generalize aF v.2=Z at *;rcases hI with ⟨rfl,rfl⟩|⟨rfl,rfl,rfl⟩
 all_goals
  simp only[aM.cells,zI]at hG⊢;rw[ah xU]
  cases A with
  |nil=>simp(maxSteps:=300000) (disch:=omega)[↓ac,↓aa,hG,n0]
  |cons y w=>simp(maxSteps:=300000) (disch:=omega)[↓ac,↓aa,hG,n0]
theorem alh (r:Nat)(hr:r<=11)(q:Bool)(i:aM)(hi:i.Fit)(I iv:D_)(hI:alb q i I iv)(c1 c2 c3 f0 f2 f3 f4:AV)(a:Nat)(ha:a<=b.length)(e:Nat)(hv:AT b a r q i=.er e)(n j:Nat)(hj:j<n)(hn:n<=2)(N:Nat)(hN:4<=N) :
  (Dn prog).code (.loop eQ) ⟨Bs n j,⟨fI [A_ r,c1,c2,c3] [f0,B_ q,f2,f3,f4] I [] (cK b (a,0)),N⟩⟩ =
  some (.ret,⟨[(4,.ptr 1 0),(5,A_ ((e+1:Nat):Int))],⟨[(1,.cells zF),(2,.cells (cK b (0,e+1)))],N+1⟩⟩):=by
 have hiv:iv=i.cells∨q=false∧iv=zI:=hI.imp And.right λh=>⟨h.2.1,h.2.2⟩
 have hG:=ajp b hb a o_ r hr q i hi iv hiv;rw[hv]at hG;have ce:((e+1:Nat):Int)=(e:Int)+1:=rfl;have c0:((0:Nat):Int)=0:=rfl;have n0:N≠0∧N≠1∧N≠2∧N≠3:=o_;have e1:¬((e:Int)+1=0):=o_;simp only[cK,fI,c0,ce,aqc,Bg]at hG⊢;rcases hI with ⟨rfl,rfl⟩|⟨rfl,rfl,rfl⟩
 all_goals
  simp only[aM.cells,zI]at hG⊢;rw[ah xU];simp(maxSteps:=300000) (disch:=omega)[↓ac,↓aa,hG,n0,e1]
end
def aqC (w:C_)(hw:w.length<=1000000000)(N:Nat):∀(r:C_) (i:Nat),w.drop i=r->
  (1∉r->(Dn prog).code (.loop iE) ⟨[(0,.d (.lst (ak w))),(1,.d (.int .u8 1)),(7,A_ w.length),(8,A_ i)],⟨[],N⟩⟩=some (.exit 0,⟨[],⟨[],N⟩⟩))∧
  (1∈r->∃k:Nat,(Dn prog).code (.loop iE) ⟨[(0,.d (.lst (ak w))),(1,.d (.int .u8 1)),(7,A_ w.length),(8,A_ i)],⟨[],N⟩⟩=some (.ret,⟨[(4,A_ k)],⟨[],N⟩⟩)):=by
 intro r
 induction r with
 |nil =>
  intro i hd;have hi:=bQ hd;refine⟨λ_=>?_,λh=>absurd h s_⟩;rw[ah xb];simp(maxSteps:=300000) (disch:=omega)[↓ac,↓aa]
 |cons x r ih =>
  intro i hd;have hlt:=cm hd;have hg:(ak w)[i]?=some [.int .u8 x]:=by
   have:=bl (λl=>l[0]?) hd;simp only[bW,bX,dR]at this;rw[ak,bS,this];rfl
  have h5:=ih (i+1) (bE hd);have c1:((i+1:Nat):Int)=(i:Int)+1:=rfl;rw[c1]at h5;rw[ah xb];generalize ak w=W at *;by_cases hx:x=1
  .refine⟨λh=>absurd (by rw[hx];exact .head _) h,λ_=>⟨i,?_⟩⟩;have hx2:(1:Int)=(x:Int):=o_;simp(maxSteps:=300000) (disch:=omega)[↓ac,↓aa,hg,<-hx2]
  .have hx2:¬(1:Int)=(x:Int):=o_;refine⟨λh=>?_,λh=>?_⟩
   .rw[<-h5.1 λh2=>h (.tail _ h2)];simp(maxSteps:=300000) (disch:=omega)[↓ac,↓aa,hg,hx2]
   .obtain⟨k,hk⟩:=h5.2 (by
    rcases aB.1 h with h|h
    .exact absurd h.symm hx
    .exact h)
    refine⟨k,?_⟩;rw[<-hk];simp(maxSteps:=300000) (disch:=omega)[↓ac,↓aa,hg,hx2]
def aj6 (w:C_)(hw:w.length<=1000000000):bq prog oy [.d (.lst (ak w)),.d (.int .u8 1)]=some (B_ (decide (1∈w))):=by
 obtain⟨h1,h2⟩:=aqC w hw 0 w 0 rfl;have hl:=cP (l:=w);have c0:((0:Nat):Int)=0:=rfl;rw[c0]at h1 h2;by_cases h:1∈w
 .obtain⟨k,hk⟩:=h2 h;have hI:bq prog r8 [.d (.lst (ak w)),.d (.int .u8 1)]=some (A_ k):=by
   rw[aU Bb A9 rfl];generalize ak w=W at *;simp(maxSteps:=300000) (disch:=omega)[↓ac,↓aa,hl,hk]
  rw[decide_eq_true h,aU wW w6 rfl];simp(maxSteps:=300000) (disch:=omega)[↓ac,↓aa,hI]
 .have hk:=h1 h;have hI:bq prog r8 [.d (.lst (ak w)),.d (.int .u8 1)]=some (A_ (-1)):=by
   rw[aU Bb A9 rfl];generalize ak w=W at *;simp(maxSteps:=300000) (disch:=omega)[↓ac,↓aa,hl,hk]
  rw[decide_eq_false h,aU wW w6 rfl];simp(maxSteps:=300000) (disch:=omega)[↓ac,↓aa,hI]
abbrev hp3 (C F c:D_):am:=[(0,.cells C),(1,.cells F),(2,.cells c)]
def amd (C F:D_):Hr (hp3 C F) 2:=⟨λc=>by simp,λc d=>by simp⟩
def Ln (b:C_)(n:Int):Nat×Nat:=kT (gT b (0,0) 3).2 (((gT b (0,0) 3).1:Int)=n-1)
def WM (b:C_)(n:Int):Nat×Nat:=kT (gT b (Ln b n) 4).2 (((gT b (Ln b n) 4).1:Int)=0)
section
variable (b:C_)(hb:b.length<=1000000000)
include hb
theorem amV {n:Int}:(Ln b n).1<=b.length:=FZ (qz (dn _))
theorem aw9 {n:Int}:(WM b n).1<=b.length:=FZ (qz (amV b hb))
theorem aiF (c0 c2 c3:AV)(n:Int)(hn:n=1∨n=2)(T:VC) :
  (Dn prog).code (.seq (.seq tz (K [41])) (.seq yf (.seq yg T))) ⟨[(2,.ptr 0 0),(4,.ptr 1 0),(6,.ptr 2 0)],⟨hp3 [c0,A_ n,c2,c3] zF (cK b (0,0)),3⟩⟩ =
  (Dn prog).code T ⟨[(2,.ptr 0 0),(4,.ptr 1 0),(6,.ptr 2 0),(7,.ptr 3 0)],⟨fI [c0,A_ n,c2,c3] zF zI [] (cK b (WM b n)),4⟩⟩:=by
 have h1:=fW (amd [c0,A_ n,c2,c3] zF) b hb (0,0) (dn _) 3 3;have h2:=mc (amd [c0,A_ n,c2,c3] zF) b (gT b (0,0) 3).2 (((gT b (0,0) 3).1:Int)=n-1) 3;have h3:=fW (amd [c0,A_ n,c2,c3] zF) b hb (Ln b n) (amV b hb) 4 3;have h4:=mc (amd [c0,A_ n,c2,c3] zF) b (gT b (Ln b n) 4).2 (((gT b (Ln b n) 4).1:Int)=0) 3;have e1:Ln b n=kT (gT b (0,0) 3).2 (((gT b (0,0) 3).1:Int)=n-1):=rfl;have e2:WM b n=kT (gT b (Ln b n) 4).2 (((gT b (Ln b n) 4).1:Int)=0):=rfl;rw[<-e1]at h2;rw[<-e2]at h4;clear e1 e2;generalize WM b n=s4 at *;generalize Ln b n=s2 at *;generalize gT b (0,0) 3=g1 at *;obtain⟨x1,s1⟩:=g1;generalize gT b s2 4=g3 at *;obtain⟨x3,s3⟩:=g3;have c0':((0:Nat):Int)=0:=rfl;simp only[cK,hp3,fI,c0',zF]at h1 h2 h3 h4⊢;by_cases k1:(x1:Int)=n-1
 .rw[decide_eq_true k1]at h2;by_cases k2:(x3:Int)=0
  .rw[decide_eq_true k2]at h4;simp(maxSteps:=300000) (disch:=omega)[↓ac,↓aa,h1,h2,h3,h4]
  .rw[decide_eq_false k2]at h4;simp(maxSteps:=300000) (disch:=omega)[↓ac,↓aa,h1,h2,h3,h4]
 .rw[decide_eq_false k1]at h2;by_cases k2:(x3:Int)=0
  .rw[decide_eq_true k2]at h4;simp(maxSteps:=300000) (disch:=omega)[↓ac,↓aa,h1,h2,h3,h4]
  .rw[decide_eq_false k2]at h4;simp(maxSteps:=300000) (disch:=omega)[↓ac,↓aa,h1,h2,h3,h4]
theorem ad3 (c0 c2 c3:AV)(s:Nat×Nat)(T:VC) :
  (Dn prog).code (.seq (.seq qG (.cond (.m 49) qM .skip)) T) ⟨[(2,.ptr 0 0),(4,.ptr 1 0),(6,.ptr 2 0),(7,.ptr 3 0)],⟨fI [c0,A_ 1,c2,c3] zF zI [] (cK b s),4⟩⟩ =
  (Dn prog).code T ⟨[(2,.ptr 0 0),(4,.ptr 1 0),(6,.ptr 2 0),(7,.ptr 3 0)],⟨fI [c0,A_ 1,c2,c3] zF zI [] (cK b s),4⟩⟩:=by
 simp only[cK,fI,zF];simp(maxSteps:=300000) (disch:=omega)[↓ac,↓aa]
theorem afG (c0 c2 c3:AV)(s:Nat×Nat)(hs:s.1<=b.length)(T:VC) :
  (Dn prog).code (.seq (.seq qG (.cond (.m 49) qM .skip)) T) ⟨[(2,.ptr 0 0),(4,.ptr 1 0),(6,.ptr 2 0),(7,.ptr 3 0)],⟨fI [c0,A_ 2,c2,c3] zF zI [] (cK b s),4⟩⟩ =
  (Dn prog).code T ⟨[(2,.ptr 0 0),(4,.ptr 1 0),(6,.ptr 2 0),(7,.ptr 3 0)],⟨fI [c0,A_ 2,c2,c3] [.nl,B_ ((decide ((gT b s 1).1=1))),A_ 0,.nl,.nl] zI [] (cK b (gT b s 1).2),4⟩⟩:=by
 have h1:=fW (akK [c0,A_ 2,c2,c3] zF zI []) b hb s hs 1 4;generalize gT b s 1=g at *;obtain⟨x,s1⟩:=g;simp only[cK,fI,zF]at h1⊢;by_cases hx:x=1
 .have hx2:(x:Int)=1:=o_;simp(maxSteps:=300000) (disch:=omega)[↓ac,↓aa,h1,hx,hx2]
 .have hx2:¬(x:Int)=1:=o_;simp(maxSteps:=300000) (disch:=omega)[↓ac,↓aa,h1,hx,hx2]
end
def XN {b:C_}{a v n:Nat}:bb b (a:Int) 3=.ok v n↔v<8∧At b a n (au v 3):=b6 (s:=3) (by omega)
def gb4 {b:C_}{a v n:Nat}:bb b (a:Int) 4=.ok v n↔v<16∧At b a n (au v 4):=b6 (s:=4) (by omega)
def gb8 {b:C_}{a v n:Nat}:bb b (a:Int) 8=.ok v n↔v<256∧At b a n (au v 8):=b6 (s:=8) (by omega)
def gb2 {b:C_}{a v n:Nat}:bb b (a:Int) 2=.ok v n↔v<4∧At b a n (au v 2):=b6 (s:=2) (by omega)
def gb1 {b:C_}{a v n:Nat}:bb b (a:Int) 1=.ok v n↔v<2∧At b a n (au v 1):=b6 (s:=1) (by omega)
def Is {b:C_}:∀{k a m:Nat}{l:C_},a<=b.length->(mA b k a=.ok l m↔l.length=k∧(∀x∈l,x<=255)∧At b a m (dV l))
 |0,a,m,l,ha=>by
  rw[mA];constructor
  .intro h;injection h with h1 h2
   subst h1 h2;exact⟨rfl,s_,dz.2 ⟨rfl,ha⟩⟩
  .rintro ⟨h1,_,h3⟩
   obtain rfl:=az h1;rw[(dz.1 h3).1]
 |k+1,a,m,l,ha=>by
  rw[mA,aJ];constructor
  .rintro ⟨x,n,e1,h⟩
   obtain⟨r,p,e2,h⟩:=aJ.1 h;injection h with h1 h2;subst h1 h2;obtain⟨hx,f1⟩:=gb8.1 e1;obtain⟨h1,h2,f2⟩:=(Is (cA f1).2.1).1 e2;exact⟨by rw[ar,h1],λy hy=>by
    rcases aB.1 hy with rfl|hy
    .omega
    .exact h2 y hy,aN.2 ⟨n,f1,f2⟩⟩
  .rintro ⟨h1,h2,h3⟩
   cases l with
   |nil=>simp at h1
   |cons x r =>
    obtain⟨n,f1,f2⟩:=(aN (X:=au x 8)).1 h3;refine⟨x,n,gb8.2 ⟨by have:=h2 x (.head _);omega,f1⟩,aJ.2 ⟨r,m,(Is (cA f1).2.1).2 ⟨by simpa using h1,λy hy=>h2 y (.tail _ hy),f2⟩,rfl⟩⟩
def amX {b:C_}{a m x:Nat}:bb b (a:Int) 1=.ok x m↔x=cond (decide (x=1)) 1 0∧At b a m (au (cond (decide (x=1)) 1 0) 1):=by
 rw[gb1];constructor
 .rintro ⟨h1,h2⟩
  have:x=0∨x=1:=o_;rcases this with rfl|rfl<;>exact⟨rfl,h2⟩
 .rintro ⟨h1,h2⟩
  rw[<-h1]at h2;refine⟨?_,h2⟩;rw[h1]
  cases decide (x=1)<;>simp
def Mr {b:C_}:∀{k a m:Nat}{l:X_},a<=b.length->(FT b k a=.ok l m↔l.length=k∧At b a m (si l))
 |0,a,m,l,ha=>by
  rw[FT];constructor
  .intro h;injection h with h1 h2
   subst h1 h2;exact⟨rfl,dz.2 ⟨rfl,ha⟩⟩
  .rintro ⟨h1,h3⟩
   obtain rfl:=az h1;rw[(dz.1 h3).1]
 |k+1,a,m,l,ha=>by
  rw[FT,aJ];constructor
  .rintro ⟨x,n,e1,h⟩
   obtain⟨r,p,e2,h⟩:=aJ.1 h;injection h with h1 h2;subst h1 h2;obtain⟨hx,f1⟩:=amX.1 e1;obtain⟨h1,f2⟩:=(Mr (cA f1).2.1).1 e2;exact⟨by rw[ar,h1],aN.2 ⟨n,f1,f2⟩⟩
  .rintro ⟨h1,h3⟩
   cases l with
   |nil=>simp at h1
   |cons x r =>
    obtain⟨n,f1,f2⟩:=(aN (X:=au (cond x 1 0) 1)).1 h3;have hd:decide ((cond x 1 0:Nat)=1)=x:=by cases x<;>rfl
    refine⟨cond x 1 0,n,amX.2 (by rw[hd];exact⟨rfl,f1⟩),aJ.2 ⟨r,m,(Mr (cA f1).2.1).2 ⟨by simpa using h1,f2⟩,by rw[hd]⟩⟩
def abz {a c:X_}:si (a++c)=si a++si c:=by simp[si]
def Ed {b:C_}{mx:Nat}:∀{g a m:Nat}{t:T_},a<=b.length->(v6 b mx g a=.ok t m↔t.length=g∧(∀l∈t,l.length=mx)∧At b a m (si t.flatten))
 |0,a,m,t,ha=>by
  rw[v6];constructor
  .intro h;injection h with h1 h2
   subst h1 h2;exact⟨rfl,s_,dz.2 ⟨rfl,ha⟩⟩
  .rintro ⟨h1,_,h3⟩
   obtain rfl:=az h1;rw[(dz.1 h3).1]
 |g+1,a,m,t,ha=>by
  rw[v6,aJ];constructor
  .rintro ⟨l,n,e1,h⟩
   obtain⟨r,p,e2,h⟩:=aJ.1 h;injection h with h1 h2;subst h1 h2;obtain⟨hx,f1⟩:=(Mr ha).1 e1;obtain⟨h1,h2,f2⟩:=(Ed (cA f1).2.1).1 e2;refine⟨by rw[ar,h1],λy hy=>?_,by rw[dj,abz];exact aN.2 ⟨n,f1,f2⟩⟩;rcases aB.1 hy with rfl|hy
   .exact hx
   .exact h2 y hy
  .rintro ⟨h1,h2,h3⟩
   cases t with
   |nil=>simp at h1
   |cons l r =>
    rw[dj,abz]at h3;obtain⟨n,f1,f2⟩:=aN.1 h3;exact⟨l,n,(Mr ha).2 ⟨h2 l (.head _),f1⟩,aJ.2 ⟨r,m,(Ed (cA f1).2.1).2 ⟨by simpa using h1,λy hy=>h2 y (.tail _ hy),f2⟩,rfl⟩⟩
def Vn {b:C_}{a m:Nat}{l:C_}(ha:a<=b.length):Ap b a=.ok l m↔(l.length<=269∧∀x∈l,x<=255)∧At b a m (lR l++au 7 3):=by
 unfold Ap;rw[aJ];constructor
 .rintro ⟨x,n,e1,h⟩
  obtain⟨hx,f1⟩:=XN.1 e1;by_cases h6:x=6
  .rw[ac h6]at h;subst h6;obtain⟨k,n2,e2,h⟩:=aJ.1 h;obtain⟨hk,f2⟩:=gb4.1 e2;by_cases hk0:k=0
   .rw[ac hk0]at h;exact absurd h (by simp)
   rw[aa hk0]at h;obtain⟨c,n3,e3,h⟩:=aJ.1 h;obtain⟨w,n4,e4,h⟩:=aJ.1 h;obtain⟨z,n5,e5,h⟩:=aJ.1 h;by_cases hz:z=7
   rotate_left
   .rw[aa hz]at h;exact absurd h (by simp)
   rw[ac hz]at h;injection h with g1 g2
   subst g1 g2 hz;have f5:=(XN.1 e5).2;have key:At b n2 n3 (if 15<=c then au (c-14) 8 else [])∧min c 15=k∧1<=c∧c<=269:=by
    by_cases h15:k=15
    .rw[ac h15]at e3;obtain⟨y,n6,e6,h⟩:=aJ.1 e3;obtain⟨hy,f6⟩:=gb8.1 e6;by_cases hy0:y=0
     .rw[ac hy0]at h;exact absurd h (by simp)
     rw[aa hy0]at h;injection h with g1 g2
     subst g1 g2;rw[ac o_,de];exact⟨f6,o_,o_,o_⟩
    .rw[aa h15]at e3;injection e3 with g1 g2
     subst g1 g2;rw[aa o_];exact⟨dz.2 ⟨rfl,(cA f2).2.1⟩,o_,o_,o_⟩
   obtain⟨f3,k1,k2,k3⟩:=key;obtain⟨w1,w2,f4⟩:=(Is (cA f3).2.1).1 e4;refine⟨⟨o_,w2⟩,?_⟩;have hne:w≠[]:=λh=>by rw[h]at w1;simp at w1;omega
   rw[lR,aa hne,w1,k1];exact aN.2 ⟨n4,aN.2 ⟨n,f1,aN.2 ⟨n2,f2,aN.2 ⟨n3,f3,f4⟩⟩⟩,f5⟩
  .rw[aa h6]at h;by_cases h7:x=7
   rotate_left
   .rw[aa h7]at h;exact absurd h (by simp)
   rw[ac h7]at h;injection h with g1 g2
   subst g1 g2 h7;exact⟨⟨s_,s_⟩,by rw[lR,ac rfl];exact f1⟩
 .rintro ⟨⟨h1,h2⟩,h3⟩
  by_cases h0:l=[]
  .rw[lR,ac h0,aO]at h3;exact⟨7,m,XN.2 ⟨o_,h3⟩,by rw[aa o_,ac rfl,h0]⟩
  have hl0:l.length≠0:=λh=>h0 (az h)
  rw[lR,aa h0]at h3;obtain⟨n4,h3,f5⟩:=aN.1 h3;obtain⟨n,f1,h3⟩:=aN.1 h3;obtain⟨n2,f2,h3⟩:=aN.1 h3;obtain⟨n3,f3,f4⟩:=aN.1 h3;refine⟨6,n,XN.2 ⟨o_,f1⟩,?_⟩;rw[ac rfl,aJ];refine⟨_,n2,gb4.2 ⟨o_,f2⟩,?_⟩;rw[aa o_,aJ];refine⟨l.length,n3,?_,aJ.2 ⟨l,n4,(Is (cA f3).2.1).2 ⟨rfl,h2,f4⟩,aJ.2 ⟨7,m,XN.2 ⟨o_,f5⟩,ac rfl⟩⟩⟩;by_cases h15:15<=l.length
  .rw[ac h15]at f3;rw[ac o_,aJ];exact⟨l.length-14,n3,gb8.2 ⟨o_,f3⟩,by rw[aa o_,show l.length-14+14=l.length by omega]⟩
  .rw[aa h15]at f3;rw[aa o_,(dz.1 f3).1,show min l.length 15=l.length by omega]
abbrev Uw:aM:=⟨0,0,0,[]⟩
def FJ (b:C_)(r:Nat)(q:Bool)(a:Nat):R (aM×Nat×T_) :=
 if q=true then (l8 b a r).bind λi m=>(bb b m 2).bind λk m=>if ¬k<3 then .er 7 else (if k=1 then v6 b i.max.toNat i.groups.length m else .ok [] m).bind λl m=>.ok (i,k,l) m
 else .ok (Uw,0,[]) a
def Zi (b:C_)(r:Nat)(n:Int):R kf :=
 (bb b (0:Nat) 3).bind λx m=>if (x:Int)≠n-1 then .er 7 else
 (bb b m 4).bind λx m=>if x≠0 then .er 7 else
 (if n=2 then bb b m 1 else .ok 0 m).bind λqv m =>
 (FJ b r (decide (qv=1)) m).bind λh m =>
 (mu b r (decide (qv=1)) h.1 n.toNat m).bind λcs m =>
 (Ap b m).bind λfl m=>.ok ⟨cs,decide (qv=1),h.2.1,h.2.2,fl⟩ m
def WX (R:Nat)(n:Int)(f:kf):C_:=fT n f++gz R f.common f.chans++lR f.fill++au 7 3
def av7 {b:C_}{a:Int}{r:Nat}{i j:aM}:AT b a r false i=AT b a r false j:=by
 unfold AT Az;simp
def atd {i j:aM}(h:xV i j):i=j:=by
 obtain⟨⟨h1,h2⟩,h3,h4⟩:=h
 cases i;cases j;simp_all
def Tz {b:C_}{r:Nat}(hr:r<=11){q:Bool}{i:aM}:∀{l:BA_}{a m:Nat},(∀c∈l,c.Fit∧lL r c∧(q=true->c.info=i))->At b a m (gz r q l)->mu b r q i l.length a=.ok l m
 |[],a,m,_,h=>by rw[show gz r q []=[] from rfl,dz]at h;rw[bD,mu,h.1]
 |c::l,a,m,hc,h=>by
  obtain⟨n,f1,f2⟩:=(aN (X:=Dc r c q)).1 h;obtain⟨c1,c2,c3⟩:=hc c (.head _);have h1:=aoO hr c1 c2 f1;have h1:AT b a r q i=.ok (⟨c.gain.toNat,c.info,c.sects,c.steps,c.tns,0,if nE c.tns then 1 else 0⟩,c.lines) n:=by
   cases q with
   |true=>rw[<-c3 rfl];exact h1
   |false=>rw[av7 (j:=c.info)];exact h1
  have hg:=c2.gain;rw[ar,mu,h1,ax,Tz hr (λd hd=>hc d (.tail _ hd)) f2,ax]
  congr 2
  obtain⟨g,ci,S,T,F,Z⟩:=c;simp only[I6]
  congr 1
  simp only at hg;omega
def Wl {b:C_}(hb:b.length<=1000000000){r:Nat}(hr:r<=11){q:Bool}{i:aM}(hi:i.Fit):∀{k a m:Nat}{l:BA_},a<=b.length->mu b r q i k a=.ok l m->l.length=k∧(∀c∈l,c.Fit∧lL r c∧(q=true->c.info=i))∧At b a m (gz r q l)
 |0,a,m,l,ha,h=>by
  rw[mu]at h;injection h with h1 h2
  subst h1 h2;exact⟨rfl,s_,dz.2 ⟨rfl,ha⟩⟩
 |k+1,a,m,l,ha,h=>by
  rw[mu]at h;obtain⟨v,n,e1,h⟩:=aJ.1 h;obtain⟨t,p,e2,h⟩:=aJ.1 h;injection h with h1 h2
  subst h1 h2;obtain⟨A,hA,c1,c2,f1,c3⟩:=aeU hb hr hi e1;obtain rfl:a=A:=o_;obtain⟨t1,t2,f2⟩:=Wl hb hr hi (cA f1).2.1 e2;refine⟨by rw[ar,t1],λd hd=>?_,aN.2 ⟨n,f1,f2⟩⟩;rcases aB.1 hd with rfl|hd
  .exact⟨c1,c2,c3⟩
  .exact t2 d hd
def QZ {b:C_}{r:Nat}(hr:r<=11){n:Int}(hn:n=1∨n=2){f:kf}(hf:f.Fit)(ok:xe r n f){m:Nat}(h:At b 0 m (WX r n f)):Zi b r n=.ok f m:=by
 obtain⟨n3,h,f7⟩:=(aN (X:=fT n f++gz r f.common f.chans++lR f.fill)).1 h;obtain⟨n2,h,f6⟩:=(aN (X:=fT n f++gz r f.common f.chans)).1 h;obtain⟨n1,h,f5⟩:=aN.1 h;have hfl:Ap b n2=.ok f.fill m:=(Vn (cA f6).1).2 ⟨⟨ok.fill,hf.fillI⟩,aN.2 ⟨n3,f6,f7⟩⟩;have hln:=ok.len;have hrest:=ok.rest;have hcs:∀i:aM,(∀c∈f.chans,f.common=true->c.info=i)->mu b r f.common i n.toNat n1=.ok f.chans n2:=λi hi=>by
  rw[show n.toNat=f.chans.length by omega];exact Tz hr (λc hc=>⟨hf.chans.2 c hc,ok.may c hc,hi c hc⟩) f5
 have key:(f.common=true->n=2)∧(f.common=false->f.mask=0∧f.bands=[]):=by
  cases hch:f.chans with
  |nil=>rw[hch]at hrest;exact hrest.elim
  |cons c t =>
   rw[hch]at hrest hln;simp only[E6]at hrest;constructor
   .intro hq;rw[ac hq]at hrest;obtain⟨⟨d,hd,_⟩,_⟩:=hrest
    cases t with
    |nil=>simp at hd
    |cons _ _=>simp at hln;omega
   .intro hq;rw[aa (by simp[hq])]at hrest;exact hrest
 unfold Zi;rcases hn with rfl|rfl
 .have hq:f.common=false:=by
   cases h:f.common with
   |false=>rfl
   |true=>have:=key.1 h;omega
  rw[fT,ac rfl]at h;obtain⟨a1,g1,g2⟩:=aN.1 h;obtain⟨k1,k2⟩:=key.2 hq;have h5:=hcs Uw (λc _ hc=>by rw[hq]at hc;exact absurd hc s_);rw[hq]at h5;rw[XN.2 ⟨o_,g1⟩,ax,aa s_,gb4.2 ⟨o_,g2⟩,ax,aa s_,aa o_,ax];simp only[FJ];rw[show decide ((0:Nat)=1)=false from rfl,aa s_,ax,h5,ax,hfl,ax];obtain⟨cs,q,mk,bd,fl⟩:=f;simp only at hq k1 k2;rw[hq,k1,k2];rfl
 .rw[fT,aa o_]at h
  cases hq:f.common with
  |false =>
   rw[hq,aa s_]at h;obtain⟨a2,h,g3⟩:=aN.1 h;obtain⟨a1,g1,g2⟩:=aN.1 h;obtain⟨k1,k2⟩:=key.2 hq;have h5:=hcs Uw (λc _ hc=>by rw[hq]at hc;exact absurd hc s_);rw[hq]at h5;rw[XN.2 ⟨o_,g1⟩,ax,aa s_,gb4.2 ⟨o_,g2⟩,ax,aa s_,ac rfl,gb1.2 ⟨o_,g3⟩,ax];simp only[FJ];rw[show decide ((0:Nat)=1)=false from rfl,aa s_,ax,h5,ax,hfl,ax];obtain⟨cs,q,mk,bd,fl⟩:=f;simp only at hq k1 k2;rw[hq,k1,k2];rfl
  |true =>
   rw[hq,ac rfl]at h;obtain⟨a5,h,g6⟩:=aN.1 h;obtain⟨a4,h,g5⟩:=aN.1 h;obtain⟨a3,h,g4⟩:=aN.1 h;obtain⟨a2,h,g3⟩:=aN.1 h;obtain⟨a1,g1,g2⟩:=aN.1 h;have hmk:=ok.mask
   cases hch:f.chans with
   |nil=>rw[hch]at hrest;exact hrest.elim
   |cons c t =>
    have hin:∀d∈f.chans,f.common=true->d.info=c.info:=λd hd _=>by
     rw[hch]at hrest hln hd;simp only[E6,hq,bc]at hrest;obtain⟨⟨e,he,hs⟩,_⟩:=hrest
     cases t with
     |nil=>simp at he
     |cons x y =>
      have hy:y=[]:=az (by simp at hln;omega);subst hy;simp only[List.head?_cons,Option.mem_def,ae]at he;subst he;simp only[aB,cU,fC]at hd;rcases hd with rfl|rfl
      .rfl
      .exact(atd hs).symm
    have h5:=hcs c.info hin;rw[hq]at h5;have hm:=ok.may c (by rw[hch];exact .head _);have hI:l8 b (a3:Int) r=.ok c.info a4:=(FY hr).2 ⟨hm.info,by simpa [L4,hch] using g4⟩;have hmx:=ig (fG hr hm.info);rw[hch]at hrest;simp only[E6,hq,bc]at hrest;have hB:(if f.mask.toNat=1 then v6 b c.info.max.toNat c.info.groups.length a5 else .ok [] a5)=.ok f.bands n1:=by
     have hr2:=hrest.2;by_cases h1:f.mask=1
     .rw[ac h1]at hr2;rw[ac o_];exact(Ed (cA g6).1).2 ⟨hr2.1,λl hl=>by have:=hr2.2 l hl;omega,g6⟩
     .rw[aa h1]at hr2;rw[aa o_,hr2];rw[hr2]at g6;rw[(dz.1 g6).1]
    rw[XN.2 ⟨o_,g1⟩,ax,aa s_,gb4.2 ⟨o_,g2⟩,ax,aa s_,ac rfl,gb1.2 ⟨o_,g3⟩,ax];simp only[FJ];simp only[decide_true];rw[ac trivial,hI,ax,gb2.2 ⟨o_,g5⟩,ax,aa o_,hB,ax,ax,h5,ax,hfl,ax];obtain⟨cs,q,mk,bd,fl⟩:=f;simp only at hq hmk;rw[hq,show((mk.toNat:Nat):Int)=mk by omega]
abbrev GB:aV:=[(2,.ptr 0 0),(4,.ptr 1 0),(6,.ptr 2 0),(7,.ptr 3 0)]
def Mn (C:D_)(q:Bool)(b:C_)(s:Nat×Nat)(h:q=false∨s.2≠0)(B T:VC) :
  (Dn prog).code (.seq (.seq kE (.cond (.m 62) B .skip)) T) ⟨GB,⟨fI C [.nl,B_ q,A_ 0,.nl,.nl] zI [] (cK b s),4⟩⟩ =
  (Dn prog).code T ⟨GB,⟨fI C [.nl,B_ q,A_ 0,.nl,.nl] zI [] (cK b s),4⟩⟩:=by
 obtain⟨a,e⟩:=s;simp only[cK,fI]
 cases q with
 |false=>simp(maxSteps:=300000) (disch:=omega)[↓ac,↓aa]
 |true =>
  have he:e≠0:=h.resolve_left s_;simp(maxSteps:=300000) (disch:=omega)[↓ac,↓aa,he]
abbrev Y7 (B:VC):VC:=(.seq (.seq (.seq we (K [63])) (.seq Dg (.cond (.m 88) (.seq (.seq (F 2) (F 7)) (.seq wn .ret)) .skip))) B)
abbrev aeM (b:C_)(s:Nat×Nat)(N:Nat):J_:=some (.ret,⟨[(4,.ptr 1 0),(5,A_ s.2)],⟨[(1,.cells zF),(2,.cells (cK b s))],N⟩⟩)
section
variable (b:C_)(hb:b.length<=1000000000)(r:Nat)(hr:r<=11)
include hb hr
theorem arp (c1 c2 c3:AV)(a e:Nat)(ha:a<=b.length)(he:l8 b a r=.er e)(B T:VC) :
  (Dn prog).code (.seq (.seq kE (.cond (.m 62) (Y7 B) .skip)) T) ⟨GB,⟨fI [A_ r,c1,c2,c3] [.nl,B_ true,A_ 0,.nl,.nl] zI [] (cK b (a,0)),4⟩⟩ =
  some (.ret,⟨[(4,.ptr 1 0),(5,A_ ((e+1:Nat):Int))],⟨[(1,.cells zF),(2,.cells (cK b (0,e+1)))],4⟩⟩):=by
 have h:=Ua b a r hb o_;rw[ac o_,aq,he,ie]at h;have c0:((0:Nat):Int)=0:=rfl;have ce:((e+1:Nat):Int)=(e:Int)+1:=rfl;have e1:¬((e:Int)+1=0):=o_;simp only[cK,fI,c0,ce,zF,Y7]at h⊢;simp(maxSteps:=300000) (disch:=omega)[↓ac,↓aa,h,e1]
theorem apU (c1 c2 c3:AV)(a:Nat)(ha:a<=b.length)(i:aM)(m:Nat)(he:l8 b a r=.ok i m)(w:T_)(s6:Nat×Nat)(M:Nat)
  (hL:(Dn prog).code (.loop ft) ⟨Ir i.groups.length 0,⟨fI [A_ r,c1,c2,c3] [.nl,B_ true,A_ ((gT b (m,0) 2).1),.nl,.nl] [.d (.int .u8 i.seq),.d (.int .u8 i.shape),A_ i.max,.own false 1 (aF i.groups)] [] (cK b (kT (gT b (m,0) 2).2 (((gT b (m,0) 2).1:Int)<3))),4⟩⟩ =
   some (.exit 1,⟨RJ,⟨fI [A_ r,c1,c2,c3] [.nl,B_ true,A_ ((gT b (m,0) 2).1),aD 1 (dT w),.nl] [.d (.int .u8 i.seq),.d (.int .u8 i.shape),A_ i.max,.own false 1 (aF i.groups)] [] (cK b s6),M⟩⟩))(T:VC) :
  (Dn prog).code (.seq (.seq kE (.cond (.m 62) (Y7 (.seq wB (.seq wb (.seq wc (.block 1 (.seq (.loop ft) (K [104,105]))))))) .skip)) T) ⟨GB,⟨fI [A_ r,c1,c2,c3] [.nl,B_ true,A_ 0,.nl,.nl] zI [] (cK b (a,0)),4⟩⟩ =
  (Dn prog).code T ⟨GB,⟨fI [A_ r,c1,c2,c3] [.nl,B_ true,A_ ((gT b (m,0) 2).1),aD 1 (dT w),.nl] [.d (.int .u8 i.seq),.d (.int .u8 i.shape),A_ i.max,.own false 1 (aF i.groups)] [] (cK b s6),M⟩⟩:=by
 have hp:=Iz hr he;have h:=Ua b a r hb o_;rw[ac o_,aq,he,eD hp]at h;have h1:=fW (akK [A_ r,c1,c2,c3] [.nl,B_ true,A_ 0,.nl,.nl] [.d (.int .u8 i.seq),.d (.int .u8 i.shape),A_ i.max,.own false 1 (aF i.groups)] []) b hb (m,0) hp.2.1 2 4;have h2:=mc (akK [A_ r,c1,c2,c3] [.nl,B_ true,A_ ((gT b (m,0) 2).1),.nl,.nl] [.d (.int .u8 i.seq),.d (.int .u8 i.shape),A_ i.max,.own false 1 (aF i.groups)] []) b (gT b (m,0) 2).2 (((gT b (m,0) 2).1:Int)<3) 4;have hg:=gQ (l:=i.groups);have c0:((0:Nat):Int)=0:=rfl;generalize kT (gT b (m,0) 2).2 (((gT b (m,0) 2).1:Int)<3)=s5 at *;generalize gT b (m,0) 2=g at *;obtain⟨x,s4⟩:=g;clear hp he;simp only[cK,fI,c0,Y7,P4,RJ,Ir]at h h1 h2 hL⊢;generalize aF i.groups=Z at *;by_cases k1:(x:Int)<3
 .rw[decide_eq_true k1]at h2;simp(maxSteps:=300000) (disch:=omega)[↓ac,↓aa,h,h1,h2,hL,hg]
 .rw[decide_eq_false k1]at h2;simp(maxSteps:=300000) (disch:=omega)[↓ac,↓aa,h,h1,h2,hL,hg]
end
abbrev Vq (b:C_)(F:D_)(s:Nat×Nat)(N:Nat):St:=⟨[(4,.ptr 1 0),(6,.ptr 2 0)],⟨[(1,.cells F),(2,.cells (cK b s))],N⟩⟩
section
variable (b:C_)(hb:b.length<=1000000000)(r:Nat)(hr:r<=11)
include hb hr
theorem alt (q:Bool)(i:aM)(hi:i.Fit)(I iv:D_)(hI:alb q i I iv)(c1 c2 c3 f2 f3 f4:AV)(n:Nat)(hn:n<=2):∀(k j a:Nat) (acc:BA_) (N:Nat),j+k=n->acc.length=j->a<=b.length->4<=N->
  match mu b r q i k a with
  |.ok l m=>m<=b.length∧∃M,4<=M∧(Dn prog).code (.loop eQ) ⟨Bs n j,⟨fI [A_ r,c1,c2,c3] [aD 9 (dI acc),B_ q,f2,f3,f4] I [] (cK b (a,0)),N⟩⟩=some (.exit 5,Vq b [aD 9 (dI (acc++l)),B_ q,f2,f3,f4] (m,0) M)
  |.er e=>∃s M,s.2=e+1∧(Dn prog).code (.loop eQ) ⟨Bs n j,⟨fI [A_ r,c1,c2,c3] [aD 9 (dI acc),B_ q,f2,f3,f4] I [] (cK b (a,0)),N⟩⟩=aeM b s M:=by
 intro k
 induction k with
 |zero =>
  intro j a acc N hj hl ha hN;obtain rfl:j=n:=o_;simp only[mu];exact⟨ha,N,hN,by rw[agY b _ _ _ _ _ _ hN,be]⟩
 |succ k ih =>
  intro j a acc N hj hl ha hN;rw[mu]
  cases e:AT b a r q i with
  |er e0 =>
   rw[co];exact⟨(0,e0+1),N+1,rfl,alh b hb r hr q i hi I iv hI c1 c2 c3 _ f2 f3 f4 a ha e0 e n j o_ hn N hN⟩
  |ok v m =>
   obtain⟨A,_,_,_,f1,_⟩:=aeU hb hr hi e;have hm:=(cA f1).2.1;have h:=ih (j+1) m (acc++[I6 v]) (N+1) o_ g_ hm o_;rw[aem b hb r hr q i hi I iv hI c1 c2 c3 f2 f3 f4 a ha acc o_ v m e n j o_ hn N hN,ax]
   cases e2:mu b r q i k m with
   |er e0=>rw[e2]at h;exact h
   |ok l p =>
    rw[e2]at h;obtain⟨h1,M,h2,h3⟩:=h;exact⟨h1,M,h2,by rw[h3,ay];rfl⟩
end
abbrev S2:VC:=(.seq C3 (.block 5 (.seq (.loop eQ) (.seq (.seq (K [140,141]) (F 2)) (F 7)))))
def Yz (C F I:D_)(b:C_)(s:Nat×Nat)(c0 c2 c3:AV)(n:Nat)(N:Nat)(F2:D_)(s2:Nat×Nat)(M:Nat)
  (hL:(Dn prog).code (.loop eQ) ⟨Bs n 0,⟨fI [c0,A_ n,c2,c3] F I [] (cK b s),N⟩⟩=some (.exit 5,Vq b F2 s2 M))(T:VC) :
  (Dn prog).code (.seq S2 T) ⟨GB,⟨fI [c0,A_ n,c2,c3] F I [] (cK b s),N⟩⟩=(Dn prog).code T (Vq b F2 s2 M):=by
 simp only[cK,fI,Bs,Vq,S2]at hL⊢;simp(maxSteps:=300000) (disch:=omega)[↓ac,↓aa,hL]
def af6 (C F I:D_)(b:C_)(s:Nat×Nat)(c0 c2 c3:AV)(n:Nat)(N:Nat)(s2:Nat×Nat)(M:Nat)
  (hL:(Dn prog).code (.loop eQ) ⟨Bs n 0,⟨fI [c0,A_ n,c2,c3] F I [] (cK b s),N⟩⟩=aeM b s2 M)(T:VC) :
  (Dn prog).code (.seq S2 T) ⟨GB,⟨fI [c0,A_ n,c2,c3] F I [] (cK b s),N⟩⟩=aeM b s2 M:=by
 simp only[cK,fI,Bs,aeM,S2]at hL⊢;simp(maxSteps:=300000) (disch:=omega)[↓ac,↓aa,hL]
abbrev My:VC:=(.seq Dq (.seq (.seq Cb (.cond (.m 204) (.seq wt .ret) .skip)) (.seq (.seq (.seq CR (K [6,221,222,223,224,225,226,227,228,229,230,231])) (.cond (.m 232) (.seq Cc .ret) .skip)) (.seq Cy .ret))))
def axg (F:D_):Hr (λc=>[(1,.cells F),(2,.cells c)]) 2:=⟨λc=>by simp,λc d=>by simp⟩
def apC {h:am}{l:C_}{a:Nat}(ha:a<=l.length)(hl:l.length<=1000000000):pU h 1 (.d (.lst (ak l))) (some (A_ (a:Int))) none none=some (.d (.lst (ak (l.drop a)))):=by
 have e2:dM (A_ (a:Int)) (ak l).length=some a:=by rw[wD o_ (by rw[cP];omega)];simp
 have e3:D1 1 (ak l)=true:=by cases l<;>rfl
 simp only[pU,okSl,tU,lenOf,vF,uN,e2,e3,sub];have e4:((ak l).drop a).take ((ak l).length-a)=ak (l.drop a):=by
  rw[cg (by rw[dZ];exact ai _)];unfold ak;rw[List.map_drop]
 rw[e4]
def Mq {m:Nat}{xs:E_}:nU (share (aD m xs))=share (aD m xs):=by cases xs<;>rfl
def auS (b:C_)(hb:b.length<=1000000000)(xs ys:E_)(q:Bool)(k:Int)(m:Nat)(hm:m<=b.length)(N:Nat) :
  match (Ap b m).bind λfl m=>if b.length-m<=7∧1∉b.drop m then R.ok fl m else .er 7 with
  |.ok fl p=>∃s,(Dn prog).code My (Vq b [aD 9 xs,B_ q,A_ k,aD 1 ys,.nl] (m,0) N)=some (.ret,⟨[(4,.ptr 1 0),(5,A_ 0)],⟨[(1,.cells [share (aD 9 xs),B_ q,A_ k,share (aD 1 ys),share (aD 1 (ak fl))]),(2,.cells (cK b s))],N⟩⟩)
  |.er e=>∃s,(Dn prog).code My (Vq b [aD 9 xs,B_ q,A_ k,aD 1 ys,.nl] (m,0) N)=some (.ret,⟨[(4,.ptr 1 0),(5,A_ ((e+1:Nat):Int))],⟨[(1,.cells zF),(2,.cells (cK b s))],N⟩⟩):=by
 obtain⟨w,x,s,h1,h2⟩:=alp (axg [aD 9 xs,B_ q,A_ k,aD 1 ys,.nl]) b hb m hm N;have c0:((0:Nat):Int)=0:=rfl;have hbl:=cP (l:=b);obtain⟨a,e⟩:=s;unfold El at h1;simp only[Vq,cK,c0,My]at h1⊢
 cases hf:Ap b m with
 |er e0 =>
  rw[hf]at h2;rw[co];have he:e=e0+1:=h2;subst he;have ce:((e0+1:Nat):Int)=(e0:Int)+1:=rfl;have e1:¬((e0:Int)+1=0):=o_;refine⟨(a,e0+1),?_⟩;simp only[ce]at h1⊢;generalize ak w=W at *;simp(maxSteps:=300000) (disch:=omega)[↓ac,↓aa,-bu,Gj,Mq,BW,h1,e1]
 |ok fl p =>
  rw[hf]at h2;obtain⟨h3,h4⟩:=h2;simp only[aQ]at h4;obtain⟨h4,h5⟩:=h4;subst h3 h4 h5;have hp:a<=b.length:=by have:=(Vn hm).1 hf;exact(cA this.2).2.1
  have hC:=aj6 (b.drop a) (by rw[dZ];omega);have hS:=λh=>apC (h:=h) hp hb
  rw[ax];simp only[c0]at h1⊢;have ez:zF=[.nl,B_ false,A_ 0,.nl,.nl]:=rfl;by_cases k1:b.length-a<=7
  .by_cases k2:1∈b.drop a
   .rw[aa (λh=>h.2 k2)];rw[decide_eq_true k2]at hC;refine⟨(a,0),?_⟩;generalize ak (b.drop a)=D at *;generalize ak b=B at *;generalize ak w=W at *;simp(maxSteps:=300000) (disch:=omega)[↓ac,↓aa,-bu,Gj,Mq,BW,h1,hC,hS,hbl]
   .rw[ac ⟨k1,k2⟩];rw[decide_eq_false k2]at hC;refine⟨(a,0),?_⟩;generalize ak (b.drop a)=D at *;generalize ak b=B at *;generalize ak w=W at *;simp(maxSteps:=300000) (disch:=omega)[↓ac,↓aa,-bu,Gj,Mq,BW,h1,hC,hS,hbl]
  .rw[aa (λh=>k1 h.1)];refine⟨(a,0),?_⟩;generalize ak (b.drop a)=D at *;generalize ak b=B at *;generalize ak w=W at *;simp(maxSteps:=300000) (disch:=omega)[↓ac,↓aa,-bu,Gj,Mq,BW,h1,hC,hS,hbl]
def afP:Uw.Fit:=⟨k_,k_,k_,k_,s_⟩
def amN {b:C_}{r:Nat}(hr:r<=11){q:Bool}{a m:Nat}{h:aM×Nat×T_}(ha:a<=b.length)(e:FJ b r q a=.ok h m) :
  (q=false∧h=(Uw,0,[])∧m=a)∨(q=true∧h.1.may r∧h.1.Fit∧h.2.1<3∧(if h.2.1=1 then h.2.2.length=h.1.groups.length∧∀l∈h.2.2,(l.length:Int)=h.1.max else h.2.2=[])∧At b a m (jQ h.1++au h.2.1 2++si h.2.2.flatten)):=by
 unfold FJ at e
 cases q with
 |false =>
  rw[aa s_]at e;injection e with h1 h2
  exact .inl ⟨rfl,h1.symm,h2.symm⟩
 |true =>
  rw[ac rfl]at e;obtain⟨i,n1,e1,e⟩:=aJ.1 e;obtain⟨k,n2,e2,e⟩:=aJ.1 e;obtain⟨i1,f1⟩:=(FY hr).1 e1;obtain⟨k1,f2⟩:=gb2.1 e2;have p1:=Iz hr e1;by_cases hk:¬k<3
  .rw[ac hk]at e;exact absurd e (by simp)
  rw[aa hk]at e;obtain⟨l,n3,e3,e⟩:=aJ.1 e;injection e with h1 h2
  subst h1 h2;refine .inr ⟨rfl,i1,YG hr p1.1 p1.2.2,by simp only[];omega,?_,?_⟩
  .by_cases h1:k=1
   .simp only[ac h1]at e3⊢;obtain⟨g1,g2,g3⟩:=(Ed (cA f2).2.1).1 e3;have:=ig (fG hr i1);exact⟨g1,λx hx=>by rw[g2 x hx];omega⟩
   .simp only[aa h1]at e3⊢;injection e3 with g1 g2
    exact g1.symm
  .refine aN.2 ⟨n2,aN.2 ⟨n1,f1,f2⟩,?_⟩;by_cases h1:k=1
   .simp only[ac h1]at e3;exact((Ed (cA f2).2.1).1 e3).2.2
   .simp only[aa h1]at e3;injection e3 with g1 g2
    subst g1 g2;exact dz.2 ⟨rfl,(cA f2).2.1⟩
def aqE {b:C_}(hb:b.length<=1000000000){r:Nat}(hr:r<=11){n:Int}(hn:n=1∨n=2){f:kf}{m:Nat}(e:Zi b r n=.ok f m):f.Fit∧xe r n f∧At b 0 m (WX r n f):=by
 unfold Zi at e;obtain⟨x,a1,e1,e⟩:=aJ.1 e;obtain⟨x1,f1⟩:=XN.1 e1;by_cases hx:(x:Int)≠n-1
 .rw[ac hx]at e;exact absurd e (by simp)
 rw[aa hx]at e;obtain⟨y,a2,e2,e⟩:=aJ.1 e;obtain⟨y1,f2⟩:=gb4.1 e2;by_cases hy:y≠0
 .rw[ac hy]at e;exact absurd e (by simp)
 rw[aa hy]at e;obtain rfl:y=0:=o_;obtain⟨qv,a3,e3,e⟩:=aJ.1 e;obtain⟨h,a4,e4,e⟩:=aJ.1 e;obtain⟨cs,a5,e5,e⟩:=aJ.1 e;obtain⟨fl,a6,e6,e⟩:=aJ.1 e;injection e with g1 g2;subst g1 g2;have f3:qv<=1∧(qv=1->n=2)∧At b a2 a3 (if n=2 then au qv 1 else []):=by
  by_cases h2:n=2
  .rw[ac h2]at e3⊢;obtain⟨q1,q2⟩:=gb1.1 e3;exact⟨o_,λ_=>h2,q2⟩
  .rw[aa h2]at e3⊢;injection e3 with q1 q2
   subst q1 q2;exact⟨o_,λh=>absurd h o_,dz.2 ⟨rfl,(cA f2).2.1⟩⟩
 obtain⟨q1,q2,f3⟩:=f3;have f4:=amN hr (cA f3).2.1 e4;obtain⟨i,k,bd⟩:=h;have hi:i.Fit:=by
  rcases f4 with ⟨_,h,_⟩|⟨_,_,h,_⟩
  .injection h with h _;rw[h];exact afP
  .exact h
 have ha4:a4<=b.length:=by
  rcases f4 with ⟨_,_,h⟩|⟨_,_,_,_,_,h⟩
  .rw[h];exact(cA f3).2.1
  .exact(cA h).2.1
 obtain⟨c1,c2,f5⟩:=Wl hb hr hi ha4 e5;obtain⟨⟨l1,l2⟩,f6⟩:=(Vn (cA f5).2.1).1 e6;have hmx:decide (qv=1)=true->i.max<=40∧i.groups.length<=8:=λhq=>by
  rcases f4 with ⟨h,_⟩|⟨_,h,_⟩
  .rw[hq]at h;exact absurd h (by simp)
  .have h:i.may r:=h;have hm:=fG hr h;have:=ig hm;obtain⟨p1,p2⟩:=dp hm;have hmm:=vR i;have:=kO (λn hn=>(p1 n hn).1);exact⟨o_,o_⟩
 have hbd:bd.length<=1000∧∀l∈bd,l.length<=1000:=by
  rcases f4 with ⟨_,h,_⟩|⟨hq,_,_,_,h,_⟩
  .injection h with _ h;injection h with _ h;rw[h];simp
  .simp only at h;have:=hmx hq;split at h
   .exact⟨o_,λl hl=>by have:=h.2 l hl;omega⟩
   .rw[h];simp
 refine⟨⟨⟨by simp only[];omega,λc hc=>(c2 c hc).1⟩,?_,hbd,by simp only[];omega,l2⟩,⟨by simp only[];omega,l1,?_,λc hc=>(c2 c hc).2.1,?_⟩,?_⟩
 .rcases f4 with ⟨_,h,_⟩|⟨_,_,_,h,_,_⟩
  .injection h with _ h;injection h with h _;subst h;simp only[];omega
  .simp only at h⊢;omega
 .rcases f4 with ⟨_,h,_⟩|⟨_,_,_,h,_,_⟩
  .injection h with _ h;injection h with h _;subst h;simp only[];omega
  .simp only at h⊢;omega
 .cases cs with
  |nil=>simp at c1;omega
  |cons c t =>
   simp only[E6];rcases f4 with ⟨hq,h,_⟩|⟨hq,_,_,_,h,_⟩
   .injection h with _ h
    injection h with h1 h2
    rw[hq,aa s_];exact⟨by rw[h1];rfl,h2⟩
   .have h2:=q2 (by simpa using hq);rw[hq,ac rfl];have ec:=(c2 c (.head _)).2.2 hq;refine⟨?_,?_⟩
    .cases t with
     |nil=>simp at c1;omega
     |cons d u =>
      refine⟨d,rfl,?_⟩;rw[ec,(c2 d (.tail _ (.head _))).2.2 hq];exact⟨⟨rfl,rfl⟩,rfl,rfl⟩
    .rw[ec];simp only at h;by_cases h1:k=1
     .rw[ac h1]at h;rw[ac o_];exact h
     .rw[aa h1]at h;rw[aa o_];exact h
 .refine aN.1 f6 |>.elim λa7 hf=>aN.2 ⟨a7,aN.2 ⟨a5,aN.2 ⟨a4,?_,f5⟩,hf.1⟩,hf.2⟩
  unfold fT;rcases hn with rfl|rfl
  .have hq0:qv=0:=by
     have:qv≠1:=λh=>by have:=q2 h;omega
     omega
   subst hq0;obtain rfl:x=0:=o_;rw[ac rfl];rw[aa o_]at f3;rcases f4 with ⟨_,_,h⟩|⟨h,_⟩
   .rw[h,(dz.1 f3).1];exact aN.2 ⟨a1,f1,f2⟩
   .exact absurd h (by decide)
  .obtain rfl:x=1:=o_;rw[aa o_];rw[ac rfl]at f3;rcases f4 with ⟨hq,_,h⟩|⟨hq,_,_,_,_,h⟩
   .have hq0:qv=0:=by
      have:qv≠1:=by simpa using hq
      omega
    subst hq0;rw[aa s_,h];exact aN.2 ⟨a2,aN.2 ⟨a1,f1,f2⟩,f3⟩
   .have hq1:qv=1:=by simpa using hq
    subst hq1;rw[ac s_];obtain⟨b1,h,hb3⟩:=aN.1 h;obtain⟨b2,hb1,hb2⟩:=aN.1 h;have hih:L4 ⟨cs,decide (1=1),(k:Int),bd,fl⟩=jQ i:=by
     unfold L4
     cases cs with
     |nil=>simp at c1
     |cons c t=>simp only[(c2 c (.head _)).2.2 rfl]
    rw[hih];simp only[aq]at hb2⊢;exact aN.2 ⟨b1,aN.2 ⟨b2,aN.2 ⟨a3,aN.2 ⟨a2,aN.2 ⟨a1,f1,f2⟩,f3⟩,hb1⟩,hb2⟩,hb3⟩
abbrev py:=@Int.tdiv_eq_ediv_of_nonneg
def atg {x k:Nat}(hk:k<8):x / 2 ^ (8-k)*2 ^ (8-k)+x / 2 ^ (7-k) % 2*2 ^ (7-k)=x / 2 ^ (7-k)*2 ^ (7-k):=by
 have e:8-k=(7-k)+1:=o_;rw[e,cW,<-Nat.div_div_eq_div_mul,<-xi,Nat.mul_right_comm,<-cZ]
 congr 1
 have:=nS (x / 2 ^ (7-k)) 2;omega
def azp {x k:Nat}(hk:k<8):(x / 2 ^ (8-k)*2 ^ (8-k)) |||(x / 2 ^ (7-k) % 2*2 ^ (7-k))=x / 2 ^ (7-k)*2 ^ (7-k):=by
 rw[<-atg hk,dQ (x / 2 ^ (8-k)),oj];have e:8-k=(7-k)+1:=o_;rw[e,cW];have h2:0<2 ^ (7-k):=bM _;have:x / 2 ^ (7-k) % 2<2:=dO _ o_;have:x / 2 ^ (7-k) % 2=0∨x / 2 ^ (7-k) % 2=1:=o_;rcases this with h|h<;>rw[h]<;>omega
def asc {x k:Nat}(h:x<=255):x / 2 ^ k*2 ^ k<=255:=aL (Nat.div_mul_le_self _ _) h
def adO {x:Nat}:∀{n k:Nat},k<n->(au x n)[k]?=some (x / 2 ^ (n-1-k) % 2)
 |n+1,0,_=>by rw[au];simp
 |n+1,k+1,h=>by rw[au,lE,adO o_];congr 4;omega
def abC {l:C_}{i x:Nat}(h:l[i]?=some x):(ak l)[i]?=some [.int .u8 (x:Int)]:=by rw[ak,bS,h];rfl
def anm (w a:C_)(hw:w.length<=16777216)(n:Nat)(i j k p x q:Nat)(hi:i=8*j+k)(hk:k<8)(hwi:w[i]?=some x)(hx:x<=1)(ha:a[j]?=some p)(hp:p<=255)(hq:p |||x*2 ^ (7-k)=q)(hq2:q<=255)(hn:a.length=n)(N:Nat) :
  (Dn prog).code (.loop jp) ⟨[(4,.sl 0 0 n),(15,.d (.lst (ak w))),(16,A_ w.length),(17,A_ i)],⟨[(0,.arr 1 (ak a))],N⟩⟩ =
  (Dn prog).code (.loop jp) ⟨[(4,.sl 0 0 n),(15,.d (.lst (ak w))),(16,A_ w.length),(17,A_ ((i+1:Nat):Int))],⟨[(0,.arr 1 (ak (a.set j q)))],N⟩⟩:=by
 have hil:i<w.length:=(aH.1 hwi).1;have hjn:j<n:=hn▸(aH.1 ha).1;have g1:=abC hwi;have g2:=abC ha;have t1:(i:Int).tdiv 8=(j:Int):=by rw[py o_];omega
 have t2:(i:Int).tmod 8=(k:Int):=by rw[jP o_];omega
 have hpw:2 ^ (7-k)<=2 ^ 7:=aw o_ o_;have hxm:x*2 ^ (7-k)<=128:=aL (pn hx hpw) o_;have sh:fg .shl (.d (.int .u8 (x:Int))) (A_ (7-(k:Int)))=some (.int .u8 ((x*2 ^ (7-k):Nat):Int)):=by
  have e:min (7-(k:Int)).toNat IntKind.u8.bits=7-k:=by show min _ 8=_;omega
  rw[qZ o_,e];have:((x:Int)*((2 ^ (7-k):Nat):Int))=((x*2 ^ (7-k):Nat):Int):=(ub _ _).symm;rw[this];have:∀z:Nat,z<=128->wr .u8 (z:Int)=z:=λz h=>by simp(disch:=omega)
  rw[this _ hxm]
 have tn:oF .u8=256:=rfl;have or':=arO (k:=.u8) (a:=p) (b:=x*2 ^ (7-k)) o_ o_ (by rw[hq];omega);rw[hq]at or';have c1:((i+1:Nat):Int)=(i:Int)+1:=rfl;have hx2:¬(x:Int) > 1:=o_;rw[ah LM,c1];generalize x*2 ^ (7-k)=z at *;generalize hA:ak a=A at *;have hs:A.set j [.int .u8 (q:Int)]=ak (a.set j q):=by rw[<-hA,aqi]
 clear hn ha;generalize ak w=W at *;simp(maxSteps:=300000) (disch:=omega)[↓ac,↓aa,g1,g2,t1,t2,sh,or',hs,-qZ]
def amY (w:C_)(hw:w.length<=16777216)(n j x:Nat)(hx:x<=255)(A Z:C_)(hA:A.length=j)(hn:A.length+1+Z.length=n)(hb:∀k,k<8->w[8*j+k]?=some (x / 2 ^ (7-k) % 2))(N:Nat):∀(c k:Nat),k+c=8->
  (Dn prog).code (.loop jp) ⟨[(4,.sl 0 0 n),(15,.d (.lst (ak w))),(16,A_ w.length),(17,A_ ((8*j+k:Nat):Int))],⟨[(0,.arr 1 (ak (A++x / 2 ^ (8-k)*2 ^ (8-k)::Z)))],N⟩⟩ =
  (Dn prog).code (.loop jp) ⟨[(4,.sl 0 0 n),(15,.d (.lst (ak w))),(16,A_ w.length),(17,A_ ((8*j+8:Nat):Int))],⟨[(0,.arr 1 (ak (A++x::Z)))],N⟩⟩:=by
 intro c
 induction c with
 |zero =>
  intro k hk;obtain rfl:k=8:=o_;simp
 |succ c ih =>
  intro k hk;rw[anm w _ hw n (8*j+k) j k _ _ (x / 2 ^ (8-(k+1))*2 ^ (8-(k+1))) rfl o_ (hb k o_) (by have:=dO (x / 2 ^ (7-k)) (y:=2) o_;omega) (by rw[<-hA];simp;rfl) (asc hx) (by rw[azp o_,show 8-(k+1)=7-k by omega]) (asc hx) g_ N];rw[<-hA,Rv,hA];exact ih (k+1) (by omega)
def ap7 (w:C_)(hw:w.length<=16777216)(n N:Nat):∀(r A:C_),w=dV A++dV r->(∀x∈r,x<=255)->A.length+r.length=n->
  (Dn prog).code (.loop jp) ⟨[(4,.sl 0 0 n),(15,.d (.lst (ak w))),(16,A_ w.length),(17,A_ ((8*A.length:Nat):Int))],⟨[(0,.arr 1 (ak (A++List.replicate r.length 0)))],N⟩⟩ =
  some (.exit 0,⟨[(4,.sl 0 0 n)],⟨[(0,.arr 1 (ak (A++r)))],N⟩⟩):=by
 intro r
 induction r with
 |nil =>
  intro A hA hr hn;have hl:w.length=8*A.length:=by rw[hA,al,mb];simp[dV]
  rw[ah LM,<-hl];simp(maxSteps:=300000) (disch:=omega)[↓ac,↓aa]
 |cons x r ih =>
  intro A hA hr hn;have h0:x / 2 ^ (8-0)*2 ^ (8-0)=0:=by
   have:=hr x (.head _);have:x / 256=0:=o_;show x / 256*256=0;rw[this]
  have hb:∀k,k<8->w[8*A.length+k]?=some (x / 2 ^ (7-k) % 2):=λk hk=>by
   have e:dV (x::r)=au x 8++dV r:=rfl;rw[hA,e,ct (by rw[mb];omega),mb,fL,bZ (by rw[dq];exact hk),adO hk]
  have h1:=amY w hw n A.length x (hr x (.head _)) A (List.replicate r.length 0) rfl (by simp at hn⊢;omega) hb N 8 0 rfl;rw[h0]at h1;have h2:=ih (A++[x]) (by rw[hA];simp[dV]) (λy hy=>hr y (.tail _ hy)) (by simp at hn⊢;omega);rw[ar,cx];have e1:8*A.length+8=8*(A++[x]).length:=by simp;omega
  rw[e1]at h1;simp only[ay,bY]at h2;rw[<-h2,<-h1];rfl
def am5 (l:C_)(hl:8*l.length<=16777216)(hl2:∀n∈l,n<=255):bq prog Kk [.d (.lst (ak (dV l)))]=some (.tup [.own true 1 (ak l),A_ 0]):=by
 have hu:=mb (l:=l);have hbu:=cP (l:=dV l);have hk:=Cl (z:=[.int .u8 0]) (n:=l.length) o_;have e:List.replicate l.length [D.int .u8 0]=ak (List.replicate l.length 0):=by simp[ak]
 rw[e]at hk;have ha:=ap7 (dV l) o_ l.length 1 l [] (by simp[dV]) hl2 s_;have t1:(8*(l.length:Int)+7).tdiv 8=(l.length:Int):=by rw[py o_];omega
 have c0:((8*([]:C_).length:Nat):Int)=0:=rfl;have c8:((8*l.length:Nat):Int)=8*(l.length:Int):=s_;have hz:(ak (List.replicate l.length 0)).length=l.length:=by rw[cP,bn]
 have ht:List.take l.length (ak l)=ak l:=cg (by rw[cP];omega);have hbl:=cP (l:=l);rw[c0,hu,c8]at ha;rw[hu]at hbu;simp only[aO]at ha;rw[aU ahh ahY rfl];generalize ak (dV l)=W at *;generalize ak (List.replicate l.length 0)=Z at *;generalize ak l=B at *;simp(maxSteps:=300000) (disch:=omega)[↓ac,↓aa,hk,ha,t1,hbu,hbl,hz,ht]
def JB (b:C_)(r:Nat)(n:Int):R kf:=(Zi b r n).bind λf m=>if b.length-m<=7∧1∉b.drop m then .ok f m else .er 7
abbrev kf.ow (f:kf):D_:=[share (aD 9 (dI f.chans)),B_ f.common,A_ f.mask,share (aD 1 (dT f.bands)),share (aD 1 (ak f.fill))]
def PJ {α β γ:Type}{x:R α}{f:α->Nat->R β}{g:β->Nat->R γ}:(x.bind f).bind g=x.bind λv n=>(f v n).bind g:=by cases x<;>rfl
abbrev arR:VC:=(.seq wB (.seq wb (.seq wc (.block 1 (.seq (.loop ft) (K [104,105]))))))
abbrev VV:VC:=(.seq (.seq tz (K [41])) (.seq yf (.seq yg (.seq (.seq qG (.cond (.m 49) qM .skip)) (.seq (.seq kE (.cond (.m 62) (Y7 arR) .skip)) (.seq S2 My))))))
def Rr (b:C_)(C:D_)(x:R kf):Prop :=
 match x with
 |.ok f m=>∃s N,(Dn prog).code VV ⟨[(2,.ptr 0 0),(4,.ptr 1 0),(6,.ptr 2 0)],⟨hp3 C zF (cK b (0,0)),3⟩⟩=some (.ret,⟨[(4,.ptr 1 0),(5,A_ 0)],⟨[(1,.cells f.ow),(2,.cells (cK b s))],N⟩⟩)
 |.er e=>∃s N,(Dn prog).code VV ⟨[(2,.ptr 0 0),(4,.ptr 1 0),(6,.ptr 2 0)],⟨hp3 C zF (cK b (0,0)),3⟩⟩=some (.ret,⟨[(4,.ptr 1 0),(5,A_ ((e+1:Nat):Int))],⟨[(1,.cells zF),(2,.cells (cK b s))],N⟩⟩)
section
variable (b:C_)(hb:b.length<=1000000000)(r:Nat)(hr:r<=11)
include hb hr
theorem aaU (n:Nat)(hn:n=1∨n=2)(q:Bool)(i:aM)(hi:i.Fit)(I iv:D_)(hI:alb q i I iv)(c2 c3:AV)(k:Int)(t:T_)(a:Nat)(ha:a<=b.length)(N:Nat)(hN:4<=N) :
  match (mu b r q i n a).bind λcs m=>(Ap b m).bind λfl m=>if b.length-m<=7∧1∉b.drop m then R.ok (⟨cs,q,k,t,fl⟩:kf) m else .er 7 with
  |.ok f m=>∃s M,(Dn prog).code (.seq S2 My) ⟨GB,⟨fI [A_ r,A_ n,c2,c3] [.nl,B_ q,A_ k,aD 1 (dT t),.nl] I [] (cK b (a,0)),N⟩⟩=some (.ret,⟨[(4,.ptr 1 0),(5,A_ 0)],⟨[(1,.cells f.ow),(2,.cells (cK b s))],M⟩⟩)
  |.er e=>∃s M,(Dn prog).code (.seq S2 My) ⟨GB,⟨fI [A_ r,A_ n,c2,c3] [.nl,B_ q,A_ k,aD 1 (dT t),.nl] I [] (cK b (a,0)),N⟩⟩=some (.ret,⟨[(4,.ptr 1 0),(5,A_ ((e+1:Nat):Int))],⟨[(1,.cells zF),(2,.cells (cK b s))],M⟩⟩):=by
 have e0:aD 9 (dI [])=.nl:=rfl;have h:=alt b hb r hr q i hi I iv hI (A_ n) c2 c3 (A_ k) (aD 1 (dT t)) .nl n o_ n 0 a [] N o_ rfl ha hN;rw[e0]at h
 cases e:mu b r q i n a with
 |er e1 =>
  rw[e]at h;obtain⟨s,M,h1,h2⟩:=h;rw[co];refine⟨s,M,?_⟩;rw[af6 [] _ _ _ _ _ _ _ _ _ _ _ h2,<-h1]
 |ok cs m =>
  rw[e]at h;obtain⟨hm,M,h1,h2⟩:=h;rw[ax];have h5:=auS b hb (dI ([]++cs)) (dT t) q k m hm M
  cases e2:Ap b m with
  |er e3 =>
   rw[e2,co]at h5;obtain⟨s,h5⟩:=h5;rw[co];exact⟨s,M,by rw[Yz [] _ _ _ _ _ _ _ _ _ _ _ _ h2,h5]⟩
  |ok fl p =>
   rw[e2,ax]at h5;rw[ax];by_cases hc:b.length-p<=7∧1∉b.drop p
   .rw[ac hc]at h5⊢;obtain⟨s,h5⟩:=h5;exact⟨s,M,by rw[Yz [] _ _ _ _ _ _ _ _ _ _ _ _ h2,h5];rfl⟩
   .rw[aa hc]at h5⊢;obtain⟨s,h5⟩:=h5;exact⟨s,M,by rw[Yz [] _ _ _ _ _ _ _ _ _ _ _ _ h2,h5]⟩
theorem I2 (n:Nat)(hn:n=1∨n=2)(I:D_)(f0 f1 f2 f3 f4:AV)(c0 c2 c3:AV)(s:Nat×Nat)(hs:s.2≠0)(N:Nat) :
  (Dn prog).code (.seq S2 My) ⟨GB,⟨fI [c0,A_ n,c2,c3] [f0,f1,f2,f3,f4] I [] (cK b s),N⟩⟩=aeM b s N :=
 af6 [] _ _ _ _ _ _ _ _ _ _ _ (aeg b _ _ _ _ _ _ _ s hs n 0 o_ N) _
theorem amv (n:Nat)(hn:n=1∨n=2)(c2 c3:AV)(hd:(WM b n).2≠0)(e:Nat)(he:(WM b n).2=e+1):Rr b [A_ r,A_ n,c2,c3] (.er e):=by
 refine⟨WM b n,4,?_⟩;rw[aiF b hb (A_ r) c2 c3 n o_];have hs:=aw9 b hb (n:=(n:Int));generalize WM b n=s at *;rw[<-he];rcases hn with rfl|rfl
 .rw[show((1:Nat):Int)=1 from rfl,ad3 b hb,show(zF:D_)=[.nl,B_ false,A_ 0,.nl,.nl] from rfl,Mn _ _ _ _ (.inl rfl)];exact I2 b hb r hr 1 (.inl rfl) _ _ _ _ _ _ _ _ _ s hd 4
 .rw[show((2:Nat):Int)=2 from rfl,afG b hb _ _ _ s hs,tW hd,Mn _ _ _ _ (.inr hd)];exact I2 b hb r hr 2 (.inr rfl) _ _ _ _ _ _ _ _ _ s hd 4
theorem ajO (n:Nat)(hn:n=1∨n=2)(c2 c3:AV)(a:Nat)(ha:a<=b.length)(x:R kf)
  (hx:x=(mu b r false Uw n a).bind λcs m=>(Ap b m).bind λfl m=>if b.length-m<=7∧1∉b.drop m then R.ok (⟨cs,false,0,[],fl⟩:kf) m else .er 7)
  (h:(Dn prog).code VV ⟨[(2,.ptr 0 0),(4,.ptr 1 0),(6,.ptr 2 0)],⟨hp3 [A_ r,A_ n,c2,c3] zF (cK b (0,0)),3⟩⟩=(Dn prog).code (.seq (.seq kE (.cond (.m 62) (Y7 arR) .skip)) (.seq S2 My)) ⟨GB,⟨fI [A_ r,A_ n,c2,c3] [.nl,B_ false,A_ 0,.nl,.nl] zI [] (cK b (a,0)),4⟩⟩):Rr b [A_ r,A_ n,c2,c3] x:=by
 rw[Mn _ _ _ _ (.inl rfl)]at h;have ht:=aaU b hb r hr n hn false Uw afP zI zI (.inr ⟨rfl,rfl,rfl⟩) c2 c3 0 [] a ha 4 o_;rw[<-hx,show aD 1 (dT [])=.nl from rfl]at ht;unfold Rr;rw[h];exact ht
theorem aor (n:Nat)(hn:n=1∨n=2)(c2 c3:AV):Rr b [A_ r,A_ n,c2,c3] (JB b r n):=by
 have hP1:=λT=>aiF b hb (A_ r) c2 c3 n o_ T
 have hdead:=amv b hb r hr n hn c2 c3;have hs2:WM b n=kT (gT b (Ln b n) 4).2 (((gT b (Ln b n) 4).1:Int)=0):=rfl;have hs1:Ln b n=kT (gT b (0,0) 3).2 (((gT b (0,0) 3).1:Int)=n-1):=rfl;unfold JB Zi
 cases e1:bb b (0:Nat) 3 with
 |er e =>
  rw[xX e1,kL (bm _)]at hs1;rw[hs1,tW (bm _),kL (bm _)]at hs2;rw[co,co];exact hdead (by rw[hs2];exact bm _) e (by rw[hs2])
 |ok x m =>
 rw[ax];by_cases hx:(x:Int)≠n-1
 .rw[nR e1,Mk hx]at hs1;rw[hs1,tW s_,kL s_]at hs2;rw[ac hx,co];exact hdead (by rw[hs2];simp) 7 (by rw[hs2])
 rw[aa hx];rw[nR e1,Je (Classical.not_not.1 hx)]at hs1
 cases e2:bb b m 4 with
 |er e =>
  rw[hs1,xX e2,kL (bm _)]at hs2;rw[co,co];exact hdead (by rw[hs2];exact bm _) e (by rw[hs2])
 |ok y a =>
 rw[ax];by_cases hy:y≠0
 .rw[hs1,nR e2,Mk t_]at hs2;rw[ac hy,co];exact hdead (by rw[hs2];simp) 7 (by rw[hs2])
 rw[aa hy];rw[hs1,nR e2,Je t_]at hs2;simp only at hs2;have ha:a<=b.length:=(dU e2).2;rw[hs2]at hP1;clear hs1 hs2 hdead e1 e2 hx hy;rcases hn with rfl|rfl
 .refine ajO b hb r hr 1 (.inl rfl) c2 c3 a ha _ ?_ ((hP1 _).trans (ad3 b hb _ _ _ _ _));rw[aa o_,ax];simp only[FJ];rw[show decide ((0:Nat)=1)=false from rfl,aa s_,ax];simp only[PJ,ax];rfl
 .have hP:=λT=>(hP1 _).trans (afG b hb (A_ r) c2 c3 (a,0) ha T)
  clear hP1;rw[ac o_]
  cases e3:bb b a 1 with
  |er e =>
   rw[xX e3]at hP;rw[co,co];refine⟨(a,e+1),4,?_⟩;refine(hP _).trans ?_;rw[Mn _ _ _ _ (.inr (bm _))];exact I2 b hb r hr 2 (.inr rfl) _ _ _ _ _ _ _ _ _ _ (bm _) 4
  |ok x m =>
  have hm:m<=b.length:=(dU e3).2;rw[nR e3]at hP;rw[ax];simp only at hP;by_cases hx:x=1
  rotate_left
  .rw[decide_eq_false hx]at hP⊢;refine ajO b hb r hr 2 (.inr rfl) c2 c3 m hm _ ?_ (hP _);simp only[FJ];rw[aa s_,ax];simp only[PJ,ax];rfl
  rw[decide_eq_true hx]at hP⊢;simp only[FJ];rw[ac trivial]
  cases e4:l8 b m r with
  |er e =>
   rw[co,co,co];exact⟨(0,e+1),4,(hP _).trans (arp b hb r hr _ c2 c3 m e hm e4 _ _)⟩
  |ok i m2 =>
  have p:=Iz hr e4;have hi:i.Fit:=YG hr p.1 p.2.2;have hmx:=ig (fG hr p.1);have him:((i.max.toNat:Nat):Int)=i.max:=o_;have hgl:=hi.len;rw[ax];have hs5:(kT (gT b (m2,0) 2).2 (((gT b (m2,0) 2).1:Int)<3)).1<=b.length:=FZ (qz p.2.1);obtain⟨w,s6,M,hM,h6,hw,hd,hL⟩:=an8 b hb [A_ r,A_ 2,c2,c3] .nl (B_ true) .nl (.d (.int .u8 i.seq)) (.d (.int .u8 i.shape)) (.own false 1 (aF i.groups)) i.max.toNat o_ i.groups.length hgl (gT b (m2,0) 2).1 (kT (gT b (m2,0) 2).2 (((gT b (m2,0) 2).1:Int)<3)) hs5 4 o_;rw[him]at hL;have hrun:=(hP _).trans (apU b hb r hr _ c2 c3 m hm i m2 e4 w s6 M hL (.seq S2 My));have dead:∀e,s6.2=e+1->Rr b [A_ r,A_ 2,c2,c3] (.er e):=λe he=>by
   refine⟨s6,M,hrun.trans ?_⟩;rw[<-he];exact I2 b hb r hr 2 (.inr rfl) _ _ _ _ _ _ _ _ _ _ o_ M
  cases e5:bb b m2 2 with
  |er e =>
   rw[xX e5,kL (bm _)]at hd;rw[co,co,co];exact dead e (by rw[hd (bm _)])
  |ok k m3 =>
  rw[ax];by_cases hk:¬k<3
  .rw[nR e5,Mk t_]at hd;rw[ac hk,co,co];exact dead 7 (by rw[hd s_])
  rw[aa hk];rw[nR e5]at hw hrun;rw[Je t_]at hw;have hw:=hw rfl;simp only at hw hrun
  cases e6:(if k=1 then v6 b i.max.toNat i.groups.length m3 else R.ok [] m3) with
  |er e =>
   rw[e6]at hw;rw[co,co,co];exact dead e hw
  |ok t m4 =>
   rw[e6]at hw;obtain⟨rfl,rfl⟩:=hw;have ht:=aaU b hb r hr 2 (.inr rfl) true i hi _ i.cells (.inl ⟨rfl,rfl⟩) c2 c3 k w m4 h6 M hM;rw[ax,ax];simp only[PJ,ax];unfold Rr;rw[show((2:Nat):Int)=2 from rfl]at ht⊢;have hrun:(Dn prog).code VV ⟨[(2,.ptr 0 0),(4,.ptr 1 0),(6,.ptr 2 0)],⟨hp3 [A_ r,A_ 2,c2,c3] zF (cK b (0,0)),3⟩⟩=_:=hrun;rw[hrun];exact ht
end
def aqj {h:am}{a b c:E_}{x:Bool}{y e:Int}:gy h (.tup [.agg [share (aD 9 a),B_ x,A_ y,share (aD 1 b),share (aD 1 c)],A_ e])=some (.tup [.agg [share (aD 9 a),B_ x,A_ y,share (aD 1 b),share (aD 1 c)],A_ e]):=by
 cases a<;>cases b<;>cases c<;>rfl
def adq (rt n:Int)(cb:Bool)(cz:Int)(X:AV)(l:C_)(hX:ke X (ak l))(hl:l.length<=100000)(hl2:∀x∈l,x<=255) :
  (Ax rt n∧(l.length:Int)<=192*n∧bq prog mL [kh rt n cb cz,X]=match JB (dV l) rt.toNat n with
   |.ok f m=>some (.tup [.agg f.ow,A_ 0])
   |.er e=>some (.tup [.agg zF,A_ ((e+1:Nat):Int)]))∨
  (¬(Ax rt n∧(l.length:Int)<=192*n)∧∃e:Int,e≠0∧bq prog mL [kh rt n cb cz,X]=some (.tup [.agg zF,A_ e])):=by
 obtain⟨⟨x1,x2,x3⟩,x4,x5⟩:=hX.facts;obtain⟨vx,ux⟩:=hX.view;have hbl:=cP (l:=l);rw[hbl]at x5;have hcf:=VB rt n cb cz;simp only[kh]at hcf⊢;rw[aU alL aly rfl];rcases hcf with ⟨hc,ec⟩|⟨hc,ec⟩
 rotate_left
 .refine .inr ⟨λh=>hc h.1,2,k_,?_⟩;simp(maxSteps:=300000) (disch:=omega)[↓ac,↓aa,-bu,x1,x2,x3,x4,x5,ec]
 by_cases hn:(l.length:Int)<=192*n
 rotate_left
 .refine .inr ⟨λh=>hn h.2,3,k_,?_⟩;have:=hc.2;simp(maxSteps:=300000) (disch:=omega)[↓ac,↓aa,-bu,x1,x2,x3,x4,x5,ec]
 refine .inl ⟨hc,hn,?_⟩;obtain⟨R,rfl⟩:=aA hc.1.1;obtain⟨k,rfl⟩:=aA (show 0<=n by have:=hc.2;omega);have hR:R<=11:=by have:=hc.1.2;omega
 have hk:k=1∨k=2:=by have:=hc.2;omega
 have hu:=S6 l hl hl2 X hX;have ul:=mb (l:=l);have hM:=aor (dV l) o_ R hR k hk (B_ cb) (A_ cz);rw[aq];have c0:((0:Nat):Int)=0:=rfl;obtain⟨T,hT⟩:∃T,T=VV:=⟨_,rfl⟩
 cases hG:JB (dV l) R k with
 |ok f m =>
  rw[hG]at hM;obtain⟨s,N,hM⟩:=hM;simp only[hp3,cK,c0,<-hT]at hM⊢;generalize ak (dV l)=B at *;simp only[kf.ow]at hM⊢;generalize dI f.chans=A1 at *;generalize dT f.bands=A2 at *;generalize ak f.fill=A3 at *;simp(maxSteps:=300000) (disch:=omega)[↓ac,↓aa,-bu,x1,x2,x3,x4,x5,vx,ux,ec,hu,hM,↓aqj]
 |er e =>
  rw[hG]at hM;obtain⟨s,N,hM⟩:=hM;simp only[hp3,cK,c0,<-hT]at hM⊢;generalize ak (dV l)=B at *;simp(maxSteps:=300000) (disch:=omega)[↓ac,↓aa,-bu,x1,x2,x3,x4,x5,vx,ux,ec,hu,hM]
def avE {α:Type}{f:α->C_}{l:List α}(h:∀x,bin (f x)):bin (l.flatMap f):=λx hx=>by
 obtain⟨y,_,hy⟩:=su.1 hx;exact h y x hy
def ai6 {l:C_}:bin (dV l):=avE λn=>Qk
def amO (rt n:Int)(cb:Bool)(cz:Int)(f:kf)(hf:f.Fit)(X Y Z:AV)(hX:ke X (dI f.chans))(hY:ke Y (dT f.bands))(hZ:ke Z (ak f.fill)) :
  (Ax rt n∧xe rt.toNat n f∧((vW rt.toNat n f).length:Int)<=1536*n∧∀l:C_,vW rt.toNat n f=dV l->(∀x∈l,x<=255)->bq prog DG [kh rt n cb cz,AN f X Y Z]=some (.tup [.own true 1 (ak l),A_ 0]))∨
  (¬(Ax rt n∧xe rt.toNat n f∧((vW rt.toNat n f).length:Int)<=1536*n)∧∃e:Int,e≠0∧bq prog xL [kh rt n cb cz,AN f X Y Z]=some (A_ e)∧bq prog DG [kh rt n cb cz,AN f X Y Z]=some (.tup [.nl,A_ e])):=by
 have hC:=P9 rt n cb cz f hf X Y Z hX hY hZ;obtain⟨⟨x1,x2,x3⟩,x4,x5⟩:=hX.facts;obtain⟨⟨y1,y2,y3⟩,y4,y5⟩:=hY.facts;obtain⟨⟨z1,z2,z3⟩,z4,z5⟩:=hZ.facts;obtain⟨⟨vx,ux⟩,wx⟩:=hX.one;obtain⟨⟨vy,uy⟩,wy⟩:=hY.one;obtain⟨⟨vz,uz⟩,wz⟩:=hZ.one;rcases hC with ⟨h1,h2,h3,hC⟩|⟨h1,e,he,hC⟩
 rotate_left
 .refine .inr ⟨h1,e,he,hC,?_⟩;simp only[kh,AN]at hC⊢;rw[aU Kj J2 rfl];simp(maxSteps:=300000) (disch:=omega)[↓ac,↓aa,-bu,x1,x2,x3,x4,y1,y2,y3,y4,z1,z2,z3,z4,ux,uy,uz,vx,vy,vz,wx,wy,wz,hC,he]
 refine .inl ⟨h1,h2,h3,λl hw hl=>?_⟩;obtain⟨R,rfl⟩:=aA h1.1.1;simp only[aq]at h2 h3 hw;have hR:R<=11:=by have:=h1.1.2;omega
 have hW:=JL R hR n h1.2 cb cz f hf h2 X Y Z hX hY hZ;have hn:=h1.2;rw[hw]at hW h3;rw[mb]at h3;have hP:=am5 l o_ hl;simp only[kh,AN]at hC hW⊢;generalize ak (dV l)=B at *;rw[aU Kj J2 rfl];simp(maxSteps:=300000) (disch:=omega)[↓ac,↓aa,-bu,x1,x2,x3,x4,y1,y2,y3,y4,z1,z2,z3,z4,ux,uy,uz,vx,vy,vz,wx,wy,wz,hC,hW,hP]
def aip:bq prog MX [.agg zF,.agg zF]=some (B_ true):=zR 400 (by kernel_rfl)
def aja {w:AV}{b:Bool}(e:il w=B_ b):w=B_ b:=by
 unfold il at e;split at e
 .cases w<;>simp[oV,ph,nB]at e⊢<;>exact e
 .exact e
def apY {h:am}{v:AV}{b:Bool}(e:gy h v=some (B_ b)):v=B_ b:=by
 unfold gy at e;split at e
 .split at e
  .simp only[ae]at e;exact absurd (aja e) (by simp)
  .simp at e
 .split at e
  .rename_i x q hq;simp only[ae]at e;have hx:=aja e;subst hx;unfold fO at hq;split at hq
   .split at hq<;>simp at hq
   .unfold jT at hq;split at hq
    .simp only[ae,aQ]at hq;exact hq.1
    .simp at hq
    .simp at hq
    .split at hq
     .split at hq<;>simp at hq
     .simp at hq
    .simp at hq
  .simp at e
def akA {P:Nat->Y_}{f:FuncId}{as:D_}{b:Bool}(h:bq P f as=some (B_ b)):∃m hs,(run P m).call f as ⟨[],0⟩=some (B_ b,hs):=by
 unfold bq at h
 cases hc:(Dn P).call f as ⟨[],0⟩ with
 |none=>rw[hc]at h;simp[sf]at h
 |some q =>
  obtain⟨v,hs⟩:=q;rw[hc]at h;have:=apY h;subst this;obtain⟨m,hm⟩:=Ch hc;exact⟨m,hs,hm⟩
def acY:List Ty:=[.int .i64,.int .i64,.bool,.int .i64]
structure kf.Rng (f:kf):Prop where
 chans:∀c∈f.chans,c.Rng
 mask:i64 f.mask
 fill:∀n∈f.fill,n<=255
def atO {d:D}(h:tG (.lst [.int .u8]) d):∃l:C_,d=.lst (ak l)∧∀n∈l,n<=255:=by
 obtain⟨xs,rfl,h⟩:=axz h;obtain⟨l,rfl,hl⟩:=ajN (f:=λn:Nat=>[.int .u8 (n:Int)]) (Q:=λn=>n<=255) (λx hx=>by
  obtain⟨d,rfl,hd⟩:=apw hx;obtain⟨n,rfl,hn⟩:=ay9 hd;exact⟨n,rfl,hn⟩) h
 exact⟨l,rfl,hl⟩
def kf.Rng.fit {f:kf}(h:f.Rng)(s:axq f):f.Fit where
 chans:=⟨by have:=s.chans.1;omega,λc hc=>(h.chans c hc).fit (s.chans.2 c hc)⟩
 mask:=h.mask
 bands:=⟨by have:=s.bands.1;omega,λl hl=>by have:=s.bands.2 l hl;omega⟩
 fill:=by have:=s.fill;omega
 fillI:=h.fill
def axC {x:W_}(h:OkDs acY x):∃(rt n:Int) (cb:Bool) (cz:Int),x.map AV.d=[AV.d (.int .i64 rt),A_ n,B_ cb,A_ cz]:=by
 obtain⟨a1,r,rfl,h1,h⟩:=aqz h;obtain⟨a2,r,rfl,h2,h⟩:=aqz h;obtain⟨a3,r,rfl,h3,h⟩:=aqz h;obtain⟨a4,rfl,h4⟩:=apw h;obtain⟨n1,rfl,_⟩:=afB h1;obtain⟨n2,rfl,_⟩:=afB h2;obtain⟨b3,rfl⟩:=atp h3;obtain⟨n4,rfl,_⟩:=afB h4;exact⟨n1,n2,b3,n4,rfl⟩
def ajb {b t:C_}{a n:Nat}{X:C_}(h:At b a n X):At (b++t) a n X:=by
 obtain⟨h1,h2,u,h3⟩:=h;exact⟨by rw[al];omega,h2,u++t,by rw[List.drop_append_of_le_length h1,h3,ay]⟩
def agc {b:C_}(hb:b.length<=1000000000)(h8:b.length % 8=0)(hbin:bin b){r:Nat}(hr:r<=11){n:Int}(hn:n=1∨n=2){f:kf}{m:Nat}(e:JB b r n=.ok f m) :
  (f.Fit∧xe r n f)∧b=vW r n f∧At b 0 m (WX r n f)∧b.length<=m+7:=by
 unfold JB at e;obtain⟨f2,m2,e1,e⟩:=aJ.1 e;by_cases hc:b.length-m2<=7∧1∉b.drop m2
 rotate_left
 .rw[aa hc]at e;exact absurd e (by simp)
 rw[ac hc]at e;injection e with g1 g2
 subst g1 g2;obtain⟨h1,h2,hA⟩:=aqE hb hr hn e1;refine⟨⟨h1,h2⟩,?_,hA,o_⟩;have hle:=cA hA;obtain⟨_,hm,t,ht⟩:=hA;rw[ll]at ht;have hmt:t=b.drop m2:=by rw[ht,hm,br,vt]
 have htz:t=List.replicate t.length 0:=List.eq_replicate_iff.2 ⟨rfl,λx hx=>by
  have h0:=hbin x (by rw[ht];exact fj _ hx);have h1:x≠1:=λh=>hc.2 (by rw[<-hmt,<-h];exact hx)
  omega⟩
 have htl:t.length=Yo (WX r n f2).length:=by
  have:=bl List.length ht;rw[al]at this;unfold Yo;omega
 rw[ht,htz,htl];rfl
def abu {rt n:Int}(cb:Bool)(cz:Int)(l:C_)(hl:l.length<=100000)(hl2:∀x∈l,x<=255)(h:∀f m,JB (dV l) rt.toNat n≠.ok f m):∃e:Int,e≠0∧bq prog mL [kh rt n cb cz,.d (.lst (ak l))]=some (.tup [.agg zF,A_ e]):=by
 rcases adq rt n cb cz _ l ke.d hl hl2 with ⟨_,_,hR⟩|⟨_,e,he,hR⟩
 .cases hG:JB (dV l) rt.toNat n with
  |ok f m=>exact absurd hG (h f m)
  |er e =>
   rw[hG]at hR;exact⟨_,o_,hR⟩
 .exact⟨e,he,hR⟩
def apv {h:am}{l:C_}{a:Nat}(ha:a<=l.length)(hl:l.length<=1000000000):pU h 1 (.d (.lst (ak l))) none (some (A_ (a:Int))) none=some (.d (.lst (ak (l.take a)))):=by
 have e2:dM (A_ (a:Int)) (ak l).length=some a:=by rw[wD o_ (by rw[cP];omega)];simp
 have e3:D1 1 (ak l)=true:=by cases l<;>rfl
 simp only[pU,okSl,tU,lenOf,vF,uN,e2,e3,sub];have e4:((ak l).drop 0).take (a-0)=ak (l.take a):=by
  unfold ak;rw[ll,Nat.sub_zero,List.map_take]
 rw[e4]
def amQ (rt n:Int)(cb:Bool)(cz:Int)(l:C_)(hl2:∀x∈l,x<=255):bq prog oz [kh rt n cb cz,.d (.lst (ak l))]=some (B_ true):=by
 have ha:=alz;have hz:=aip;have hbl:=cP (l:=l);by_cases hl:l.length<=2000
 rotate_left
 .simp only[kh];rw[aU oI oD rfl];simp(maxSteps:=300000) (disch:=omega)[↓ac,↓aa,ha,hbl]
 have bad:∀e:Int,e≠0->bq prog mL [kh rt n cb cz,.d (.lst (ak l))]=some (.tup [.agg zF,A_ e])->bq prog oz [kh rt n cb cz,.d (.lst (ak l))]=some (B_ true):=by
  intro e he hR;simp only[kh]at hR⊢;rw[aU oI oD rfl];generalize ak l=W at *;simp(maxSteps:=300000) (disch:=omega)[↓ac,↓aa,ha,hz,hR,he,hbl]
 rcases adq rt n cb cz _ l ke.d o_ hl2 with ⟨hcf,hlr,hR⟩|⟨_,e,he,hR⟩
 rotate_left
 .exact bad e he hR
 obtain⟨R,rfl⟩:=aA hcf.1.1;have hR11:R<=11:=by have:=hcf.1.2;omega
 have hn:=hcf.2;rw[aq]at hR
 cases hG:JB (dV l) R n with
 |er e =>
  rw[hG]at hR;exact bad _ o_ hR
 |ok f m =>
 rw[hG]at hR;simp only[kf.ow]at hR;have hul:=mb (l:=l);obtain⟨⟨hF,hok⟩,hw,hA,hm7⟩:=agc o_ o_ ai6 hR11 hn hG;have hAl:=cA hA;have hm3:3<=m:=by
  have:=hAl.2.2;rw[WX,al,dq]at this;omega
 have hX:ke (share (aD 9 (dI f.chans))) (dI f.chans):=Qs;have hY:ke (share (aD 1 (dT f.bands))) (dT f.bands):=Qs;have hZ:ke (share (aD 1 (ak f.fill))) (ak f.fill):=Qs;generalize share (aD 9 (dI f.chans))=X at *;generalize share (aD 1 (dT f.bands))=Y at *;generalize share (aD 1 (ak f.fill))=Z at *;have hfits:((vW R n f).length:Int)<=1536*n:=by rw[<-hw,hul];omega
 rcases amO R n cb cz f hF X Y Z hX hY hZ with ⟨_,_,_,hW⟩|⟨h,_⟩
 rotate_left
 .exact absurd ⟨hcf,by rwa [aq],by rwa [aq]⟩ h
 rw[aq]at hW;have hW:=hW l hw.symm hl2;rcases P9 R n cb cz f hF X Y Z hX hY hZ with ⟨_,_,_,hC⟩|⟨h,_⟩
 rotate_left
 .exact absurd ⟨hcf,by rwa [aq],by rwa [aq]⟩ h
 have hmore:∃e:Int,e≠0∧bq prog mL [kh R n cb cz,.d (.lst (ak (l++[0])))]=some (.tup [.agg zF,A_ e]):=by
  refine abu cb cz (l++[0]) g_ (λx hx=>?_) λf' m' h=>?_
  .rcases bi.1 hx with hx|hx
   .exact hl2 x hx
   .simp at hx;omega
  .have hu:dV (l++[0])=dV l++au 0 8:=by simp[dV]
   rw[aq,hu,JB,QZ hR11 hn hF hok (ajb hA),ax,aa]at h
   .exact absurd h (by simp)
   .rw[al,dq];omega
 have hless:∃e:Int,e≠0∧bq prog mL [kh R n cb cz,.d (.lst (ak (l.take (l.length-1))))]=some (.tup [.agg zF,A_ e]):=by
  refine abu cb cz _ (by rw[cV];omega) (λx hx=>hl2 x (eq hx)) λf' m' h=>?_
  rw[aq]at h;have hsp:dV l=dV (l.take (l.length-1))++dV (l.drop (l.length-1)):=by
   unfold dV;rw[<-List.flatMap_append,aT]
  have hl':=mb (l:=l.take (l.length-1));rw[cV]at hl';obtain⟨⟨k1,k2⟩,_,kA,_⟩:=agc o_ o_ ai6 hR11 hn h;have k4:=QZ hR11 hn k1 k2 (ajb (t:=dV (l.drop (l.length-1))) kA);rw[<-hsp,QZ hR11 hn hF hok hA]at k4;injection k4 with _ k5
  have:=(cA kA).2.1;omega
 obtain⟨e1,he1,hR1⟩:=hmore;obtain⟨e2,he2,hR2⟩:=hless;have hsl:=λh=>apv (h:=h) (l:=l) (a:=l.length-1) o_ (by omega)
 have c1:((l.length-1:Nat):Int)=(l.length:Int)-1:=o_;rw[c1]at hsl;have hap:ak (l++[0])=ak l++[[.int .u8 0]]:=by simp[ak]
 rw[hap]at hR1;obtain⟨⟨x1,x2,x3⟩,x4,x5⟩:=hX.facts;obtain⟨⟨y1,y2,y3⟩,y4,y5⟩:=hY.facts;obtain⟨⟨z1,z2,z3⟩,z4,z5⟩:=hZ.facts;obtain⟨⟨vx,ux⟩,wx⟩:=hX.one;obtain⟨⟨vy,uy⟩,wy⟩:=hY.one;obtain⟨⟨vz,uz⟩,wz⟩:=hZ.one;have ts:=λh=>alN (h:=h) (b:=l)
 have hoE:fB 1 (ak l)=true:=s_;simp only[kh,AN]at hW hC hR hR1 hR2⊢;generalize ak (l.take (l.length-1))=W2 at *;generalize ak l=W at *;rw[aU oI oD rfl];simp(maxSteps:=300000) (disch:=omega)[↓ac,↓aa,-bu,x1,x2,x3,x4,y1,y2,y3,y4,z1,z2,z3,z4,ux,uy,uz,vx,vy,vz,wx,wy,wz,ha,hW,hC,hR,hR1,hR2,hsl,ts,hbl,hoE,he1,he2]
def XG {H:Type}:∀{ds:List (DataW H)},xA [(true,acY),(false,[.lst [.int .u8]])] ds->(∃d1 d2,ds=[d1,d2])∧∃(rt n:Int) (cb:Bool) (cz:Int) (l:C_),(∀x∈l,x<=255)∧Hq [(true,acY),(false,[Ty.lst [.int .u8]])] ds=[kh rt n cb cz,.d (.lst (ak l))]
 |[d1,d3],h=>by
  simp only[xA,and_true]at h;obtain⟨h1,h3⟩:=h;obtain⟨rt,n,cb,cz,e1⟩:=axC h1;obtain⟨x3,e3,h3⟩:=apw h3;obtain⟨k,rfl,hk⟩:=atO h3;refine⟨⟨_,_,rfl⟩,rt,n,cb,cz,k,hk,?_⟩;simp only[Hq,e3,ac7,e1]
 |[],h=>by simp[xA]at h
 |[_],h=>by simp[xA]at h
 |_::_::_::_,h=>by simp[xA]at h
end Go.Vm
end
