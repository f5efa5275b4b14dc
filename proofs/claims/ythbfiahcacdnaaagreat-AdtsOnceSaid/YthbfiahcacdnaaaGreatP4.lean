import Derived.Test.YthbfiahcacdnaaaGreatP3
set_option linter.unusedVariables false
set_option linter.unusedSimpArgs false
set_option linter.defProp false
set_option linter.unusedSectionVars false
noncomputable section
namespace Go.Vm
set_option maxRecDepth 100000
set_option maxHeartbeats 4000000
def KC (C:Nat->Nat->Int)(n:Nat):Nat->C_->Nat->C_×Nat
 |0,xs,a=>(xs,a)
 |f+1,xs,a=>if a+20<=n then KC C n f (insO C a 19 (a+1) xs) (a+20) else (xs,a)
def Qe (C:Nat->Nat->Int)(n bs:Nat):Nat->C_->Nat->C_×Nat
 |0,xs,a=>(xs,a)
 |f+1,xs,a=>if a+2*bs<=n then Qe C n bs f (symM C (2*bs) xs a (a+bs) (a+2*bs)) (a+2*bs) else (xs,a)
def stE (C:Nat->Nat->Int)(n bs:Nat)(p:C_×Nat):C_:=if p.2+bs<n then symM C (n-p.2) p.1 p.2 (p.2+bs) n else p.1
def Za (C:Nat->Nat->Int)(n:Nat):Nat->C_->Nat->C_
 |0,xs,_=>xs
 |f+1,xs,bs=>if bs<n then Za C n f (stE C n bs (Qe C n bs n xs 0)) (2*bs) else xs
def stS (C:Nat->Nat->Int)(n:Nat)(p:C_×Nat):C_:=insO C p.2 (n-(p.2+1)) (p.2+1) p.1
def rV (C:Nat->Nat->Int)(n:Nat)(xs:C_):C_:=Za C n n (stS C n (KC C n n xs 0)) 20
section
variable {hp:C_->am}{D L:Nat}{F:AV}{C:Nat->Nat->Int}
def apE (H:Hp hp D)(K:Cm hp L F C)(n:Nat)(hlen:n<=1000000000)(N:Nat):∀(f a:Nat) (xs:C_),n<a+f*20+20->a<=n->xs.length=n->eU L xs->
  (Dn prog).code (.loop gY) ⟨[(0,.sl D 0 n),(1,A_ n),(2,F),(6,A_ 20),(7,A_ a),(8,A_ ((a:Int)+20))],⟨hp xs,N⟩⟩ =
  some (.exit 0,⟨[(0,.sl D 0 n),(1,A_ n),(2,F),(6,A_ 20),(7,A_ ((KC C n f xs a).2))],⟨hp (KC C n f xs a).1,N⟩⟩)∧
  (KC C n f xs a).1.length=n∧eU L (KC C n f xs a).1∧a<=(KC C n f xs a).2∧(KC C n f xs a).2<=n∧∃q,(KC C n f xs a).2=a+20*q:=by
 intro f
 induction f with
 |zero =>
  intro a xs h1 h2 hx u;refine⟨?_,hx,u,ak _,h2,0,rfl⟩;rw[ah qA];simp(maxSteps:=300000) (disch:=omega)[↓ac,↓aa,KC,K.sh,K.fi]
 |succ f ih =>
  intro a xs h1 h2 hx u;rw[ah qA,KC];by_cases h:a+20<=n
  .rw[ac h];have h0:=QF H K n hlen a (a+20) N o_ h xs hx u;rw[show a+20-(a+1)=19 by omega]at h0;obtain⟨g1,g2,g3,g4,g5,q,g6⟩:=ih (a+20) (insO C a 19 (a+1) xs) o_ h (by rw[Xi];exact hx) (u.insO o_);refine⟨?_,g2,g3,o_,g5,q+1,o_⟩;have c1:((a+20:Nat):Int)=(a:Int)+20:=rfl;rw[c1]at h0 g1;rw[<-g1];simp(maxSteps:=300000) (disch:=omega)[↓ac,↓aa,K.sh,K.fi,h0]
  .rw[aa h];refine⟨?_,hx,u,ak _,h2,0,rfl⟩;simp(maxSteps:=300000) (disch:=omega)[↓ac,↓aa,K.sh,K.fi]
def aqr (H:Hp hp D)(K:Cm hp L F C)(n:Nat)(hlen:n<=1000000000)(bs N:Nat)(hbs:1<=bs)(hb2:bs<=1000000000):∀(f a:Nat) (xs:C_),n<a+f+1->a<=n->xs.length=n->eU L xs->
  (Dn prog).code (.loop ib) ⟨[(0,.sl D 0 n),(1,A_ n),(2,F),(6,A_ bs),(7,A_ a),(8,A_ ((a:Int)+2*(bs:Int)))],⟨hp xs,N⟩⟩ =
  some (.exit 4,⟨[(0,.sl D 0 n),(1,A_ n),(2,F),(6,A_ bs),(7,A_ ((Qe C n bs f xs a).2))],⟨hp (Qe C n bs f xs a).1,N⟩⟩)∧
  (Qe C n bs f xs a).1.length=n∧eU L (Qe C n bs f xs a).1∧(Qe C n bs f xs a).2<=n:=by
 intro f
 induction f with
 |zero =>
  intro a xs h1 h2 hx u;refine⟨?_,hx,u,h2⟩;rw[ah qG];simp(maxSteps:=300000) (disch:=omega)[↓ac,↓aa,Qe,K.sh,K.fi]
 |succ f ih =>
  intro a xs h1 h2 hx u;rw[ah qG,Qe];by_cases h:a+2*bs<=n
  .rw[ac h];have h0:=agd H K n hlen N (2*bs) a (a+bs) (a+2*bs) xs o_ o_ o_ h hx u;obtain⟨g1,g2,g3,g4⟩:=ih (a+2*bs) (symM C (2*bs) xs a (a+bs) (a+2*bs)) o_ h (by rw[Ao];exact hx) (u.symM o_ o_ o_);refine⟨?_,g2,g3,g4⟩;have c1:((a+bs:Nat):Int)=(a:Int)+bs:=rfl;have c2:((a+2*bs:Nat):Int)=(a:Int)+2*bs:=o_;rw[c1,c2]at h0;rw[c2]at g1;rw[<-g1];simp(maxSteps:=300000) (disch:=omega)[↓ac,↓aa,K.sh,K.fi,h0]
  .rw[aa h];refine⟨?_,hx,u,h2⟩;simp(maxSteps:=300000) (disch:=omega)[↓ac,↓aa,K.sh,K.fi]
def arx (H:Hp hp D)(K:Cm hp L F C)(n:Nat)(hlen:n<=1000000000)(N:Nat):∀(f bs:Nat) (xs:C_),n<bs+f+1->1<=bs->bs<=2000000000->xs.length=n->eU L xs->
  (Dn prog).code (.loop ig) ⟨[(0,.sl D 0 n),(1,A_ n),(2,F),(6,A_ bs)],⟨hp xs,N⟩⟩ =
  some (.exit 2,⟨[],⟨hp (Za C n f xs bs),N⟩⟩)∧(Za C n f xs bs).length=n∧eU L (Za C n f xs bs):=by
 intro f
 induction f with
 |zero =>
  intro bs xs h1 h2 h3 hx u;refine⟨?_,hx,u⟩;rw[ah qH];simp(maxSteps:=300000) (disch:=omega)[↓ac,↓aa,Za,K.sh,K.fi]
 |succ f ih =>
  intro bs xs h1 h2 h3 hx u;rw[ah qH,Za];by_cases h:bs<n
  .rw[ac h];obtain⟨g1,g2,g3,g4⟩:=aqr H K n hlen bs N h2 o_ n 0 xs o_ o_ hx u;generalize Qe C n bs n xs 0=p at *;obtain⟨ys,a⟩:=p;simp only at g1 g2 g3 g4;have c0:((0:Nat):Int)=0:=rfl;have cz:(0:Int)+2*(bs:Int)=2*(bs:Int):=o_;have c2:((2*bs:Nat):Int)=2*(bs:Int):=o_;rw[c0,cz]at g1;unfold stE;simp only;by_cases h5:a+bs<n
   .rw[ac h5];have h0:=agd H K n hlen N (n-a) a (a+bs) n ys o_ o_ h5 (ak _) g2 g3;have c1:((a+bs:Nat):Int)=(a:Int)+bs:=rfl;obtain⟨k1,k2,k3⟩:=ih (2*bs) (symM C (n-a) ys a (a+bs) n) o_ o_ o_ (by rw[Ao];exact g2) (g3.symM o_ h5 o_);refine⟨?_,k2,k3⟩;rw[c1]at h0;rw[c2]at k1;have cc:(bs:Int)*2=2*(bs:Int):=o_;rw[<-k1];simp(maxSteps:=300000) (disch:=omega)[↓ac,↓aa,K.sh,K.fi,g1,h0,cc]
   .rw[aa h5];obtain⟨k1,k2,k3⟩:=ih (2*bs) ys o_ o_ o_ g2 g3;refine⟨?_,k2,k3⟩;rw[c2]at k1;have cc:(bs:Int)*2=2*(bs:Int):=o_;rw[<-k1];simp(maxSteps:=300000) (disch:=omega)[↓ac,↓aa,K.sh,K.fi,g1,cc]
  .rw[aa h];refine⟨?_,hx,u⟩;simp(maxSteps:=300000) (disch:=omega)[↓ac,↓aa,K.sh,K.fi]
def arf (H:Hp hp D)(K:Cm hp L F C)(n:Nat)(hlen:n<=1000000000)(hn:n % 20≠0)(N:Nat)(xs:C_)(hx:xs.length=n)(u:eU L xs) :
  (Dn prog).call uh [.sl D 0 n,A_ n,F] ⟨hp xs,N⟩=some (.tup [],⟨hp (rV C n xs),N⟩):=by
 rw[aZ Gq G6 rfl,rV];obtain⟨g1,g2,g3,_,g5,q,g6⟩:=apE H K n hlen N n 0 xs o_ o_ hx u;generalize KC C n n xs 0=p at *;obtain⟨ys,a⟩:=p;simp only at g1 g2 g3 g5 g6;have h0:=QF H K n hlen a n N o_ (ak _) ys g2 g3;unfold stS;simp only;obtain⟨k1,k2,k3⟩:=arx H K n hlen N n 20 (insO C a (n-(a+1)) (a+1) ys) o_ o_ o_ (by rw[Xi];exact g2) (g3.insO o_);have c0:((0:Nat):Int)=0:=rfl;have cz:(0:Int)+20=20:=rfl;have c2:((20:Nat):Int)=20:=rfl;rw[c0,cz]at g1;rw[c2]at k1;simp(maxSteps:=300000) (disch:=omega)[↓ac,↓aa,K.sh,K.fi,g1,h0,k1]
end
abbrev bJ:=@List.all_eq_true
abbrev cW:=@List.not_mem_nil
abbrev fk:=@or_false
def d8 (id:Nat):Nat:=if id<5 then 4 else if id=12 then 1 else 2
def dj (id:Nat):Int:=[0,-1,-1,0,0,-4,-4,0,0,0,0,0,-60].getD id 0
def cH (id:Nat):Nat:=[1,3,3,3,3,9,9,8,8,13,13,17,121].getD id 1
def bM (id:Nat):Nat:=[0,0,1,0,1,0,1,1,2,1,2,2,0].getD id 0
def lJ (low:Int)(w:Nat):Nat->Nat->G_
 |0,_=>[]
 |d+1,e=>lJ low w d (e / w)++[((e % w:Nat):Int)+low]
def mt (id e:Nat):G_:=lJ (dj id) (cH id) (d8 id) e
def NU:G_->Nat
 |[]=>0
 |x::r=>x.natAbs+NU r
def zJ (id e:Nat):Nat:=NU (mt id e)
def bm (id:Nat):Nat:=cH id ^ d8 id
def anq (s:Nat):S_->C_
 |[]=>[]
 |(e,z)::r=>match Nat.beq z s with
  |true=>e::anq s r
  |false=>anq s r
def aA1 (id:Nat):S_:=(List.range (bm id)).map λe=>(e,zJ id e)
def cw (id:Nat):C_:=let l:=aA1 id;(List.range 61).flatMap λs=>anq s l
def aAu (e:Nat):Nat->C_->Nat
 |i,[]=>i
 |i,x::r=>match Nat.beq x e with
  |true=>i
  |false=>aAu e (i+1) r
def dF (id:Nat):C_:=let l:=cw id;(List.range (bm id)).map λe=>aAu e 0 l
abbrev ju (id:Nat):Prop:=1<=id∧id<=12
abbrev nD (id:Nat):AV:=.agg [A_ id,A_ (bM id),.d (.lst (cX (cw id))),.d (.lst (cX (dF id)))]
abbrev ZU (id:Nat):AV:=.agg [A_ id,A_ (bM id),.own true 1 (cX (cw id)),.own true 1 (cX (dF id))]
def aot:∀id∈List.range 13,bM id<=2∧(cw id).length<=300∧(dF id).length<=300∧(cw id).all (λe=>decide (e<bm id))=true:=e_
def Kl {id:Nat}(h:id<=12):bM id<=2∧(cw id).length<=300∧(dF id).length<=300∧∀e∈cw id,e<bm id:=by
 obtain⟨a,b,c,d⟩:=aot id g_;exact⟨a,b,c,λe he=>by simpa using bJ.1 d e he⟩
def ids:C_:=[1,2,3,4,5,6,7,8,9,10,11,12]
def fR {id:Nat}(h:ju id):id∈ids:=by
 obtain⟨h1,h2⟩:=h;simp only[ids,aC,cW,fk];omega
abbrev Vp (id:Nat):AV:=.agg [A_ (d8 id),A_ (dj id),A_ (dj id+cH id-1),A_ (bM id)]
def N1:∀x∈ids,bi prog ao7 [A_ x]=some (.tup [Vp x,A_ 0]):=IE 100 ids (by kernel_rfl)
def HF:∀x∈ids,bi prog Ai [Vp x]=some (A_ (bm x)):=IE 100 ids (by kernel_rfl)
def D7 {z:Y_}{n:Nat}(h:n<=1000000000):Fn z (A_ n) (A_ n)=some (.own true z.length (List.replicate n z)):=by
 have h0:¬((n:Int)<0):=o_;have h1:Nat.ble n aU=true:=bZ (aM h k_);have h2:Nat.ble n n=true:=by rw[ack];simp
 simp only[Fn,dW,h1,h2]
abbrev fZ:=@Bool.not_eq_true
abbrev bY:=@List.getElem?_map
abbrev kM:=@List.getElem?_range
def Tg (x:Nat):bi prog Hq [.d (.int .u8 x)]=some (B_ false):=by
 rw[aH Ut Uu rfl];simp(maxSteps:=300000) (disch:=omega)[↓ac,↓aa]
def aj4 (x y:Nat):bi prog Dr [.d (.int .u8 x),.d (.int .u8 y)]=some (A_ (if x<y then -1 else if y<x then 1 else 0)):=by
 rw[aH QO QU rfl];by_cases h1:x<y
 .rw[ac h1];simp(maxSteps:=300000) (disch:=omega)[↓ac,↓aa,Tg]
 .rw[aa h1];by_cases h2:y<x
  .rw[ac h2];simp(maxSteps:=300000) (disch:=omega)[↓ac,↓aa,Tg]
  .rw[aa h2];simp(maxSteps:=300000) (disch:=omega)[↓ac,↓aa,Tg]
@[simp] def aEe {len n S o:Nat}{k:IntKind}{z:Int}(h0:0<=z)(h:z<len):KY len n (.ptr S o) (.d (.int k z))=some (.ptr S (o+z.toNat*n)):=by
 obtain⟨i,rfl⟩:=az h0;have hl:Nat.ble len i=false:=by rw[<-fZ,bj];omega
 show(match Nat.ble len i with|true=>none|false=>iy (i*n) (.ptr S o))=_;rw[hl];rfl
def jD (id:Nat):C_:=(List.range (bm id)).map λe=>zJ id e
def cC (l:C_)(x y:Nat):Int:=if nth l x<nth l y then -1 else if nth l y<nth l x then 1 else 0
def si (id:Nat):D_:=(List.range 289).map λe=>.d (.int .u8 (if e<bm id then zJ id e else 0:Nat))
def aci {id:Nat}:(si id).length=289:=by simp[si]
def abc {id x:Nat}(h:x<bm id)(h2:bm id<=289):(si id)[x]?=some (.d (.int .u8 (nth (jD id) x:Nat))):=by
 have e:nth (jD id) x=zJ id x:=by
  have:=AO (l:=jD id) (i:=x) (by simp[jD];exact h);rw[jD,bY,kM h]at this;simpa [jD] using this.symm
 rw[e,si,bY,kM o_];simp[h]
def aFr {hp:C_->am}{S id:Nat}(hS:∀xs,get (hp xs) S=some (.cells (si id)))(h2:bm id<=289):Cm hp (bm id) (.fn Iy [] [.ptr S 0]) (cC (jD id)) where
 sh:=rfl
 fi:=rfl
 cl xs N x y hx hy:=by
  have e1:=abc hx h2;have e2:=abc hy h2;show(Dn prog).call Iy ([]++([A_ (x:Nat),A_ (y:Nat)]++[.ptr S 0])) ⟨hp xs,N⟩=_;simp only[aK,aR];rw[aZ ag0 ahf rfl];generalize si id=Z at *;simp(maxSteps:=300000) (disch:=omega)[↓ac,↓aa,hS,e1,e2,aj4,cC]
noncomputable section
def aAr {k i:Nat}(h:k=i):Nat.beq k i=true:=by rw[aB];exact h
def aBP {k i:Nat}(h:¬k=i):Nat.beq k i=false:=by rw[<-fZ,aB];exact h
def mC (l:C_):Nat->Nat:=List.rec (motive:=λ_=>Nat->Nat) (λ_=>0) (λx _ ih i=>Nat.casesOn (motive:=λ_=>Nat) i x (λk=>ih k)) l
def AR:∀(l:C_) (i:Nat),mC l i=nth l i
 |[],i=>by simp[nth];rfl
 |x::l,0=>rfl
 |x::l,i+1=>AR l i
def anh (l:C_):Nat->Nat->C_:=List.rec (motive:=λ_=>Nat->Nat->C_) (λ_ _=>[]) (λx r ih i v=>Nat.casesOn (motive:=λ_=>C_) i (v::r) (λk=>x::ih k v)) l
def alZ:∀(l:C_) (i v:Nat),anh l i v=l.set i v
 |[],i,v=>rfl
 |x::l,0,v=>rfl
 |x::l,i+1,v=>by
  show x::anh l i v=_;rw[alZ l i v];rfl
def aaT (xs:C_)(i j:Nat):C_:=anh (anh xs i (mC xs j)) j (mC xs i)
def Uk (xs:C_)(i j:Nat):aaT xs i j=swp xs i j:=by simp only[aaT,swp,alZ,AR]
def Vg (l:C_)(x y:Nat):Bool:=Nat.ble (Nat.succ (mC l x)) (mC l y)
def Fs (l:C_)(x y:Nat):(Vg l x y=true)=(cC l x y<0):=by
 simp only[Vg,AR,bj,cC];apply propext;constructor
 .intro h;rw[ac o_];omega
 .intro h;split at h
  .omega
  .split at h<;>omega
def TI (a b:Nat):Nat->Nat->C_->C_
 |0,_,xs=>xs
 |k+1,i,xs=>TI a b k (i+1) (aaT xs (a+i) (b+i))
def OK {a b:Nat}:∀(k i:Nat) (xs:C_),TI a b k i xs=swpR xs a b k i
 |0,_,_=>rfl
 |k+1,i,xs=>by rw[TI,swpR,Uk,OK]
def aiR (m:Nat):Nat->C_->Nat->Nat->C_
 |0,xs,i,j=>xs
 |f+1,xs,i,j=>match Nat.beq i j with
  |true=>TI (m-i) m i 0 xs
  |false=>match Nat.ble i j with
   |true=>aiR m f (TI (m-i) (m+j-i) i 0 xs) i (j-i)
   |false=>aiR m f (TI (m-i) m j 0 xs) (i-j) j
def ach {m:Nat}:∀(f:Nat) (xs:C_) (i j:Nat),aiR m f xs i j=rot m f xs i j
 |0,_,_,_=>rfl
 |f+1,xs,i,j=>by
  rw[aiR,rot];by_cases h:i=j
  .rw[aAr h,ac h,OK]
  .rw[aBP h,aa h];by_cases h2:j<i
   .rw[show Nat.ble i j=false by rw[<-fZ,bj];omega,ac h2];simp only[ach,OK]
   .rw[bZ (by omega:i<=j),aa h2];simp only[ach,OK]
section
variable (l:C_)
def afD (a:Nat):Nat->C_->C_
 |0,xs=>xs
 |j+1,xs=>match Nat.ble a j with
  |false=>xs
  |true=>match Vg l (mC xs (j+1)) (mC xs j) with
   |true=>afD a j (aaT xs (j+1) j)
   |false=>xs
def aic {a:Nat}:∀(j:Nat) (xs:C_),afD l a j xs=insJ (cC l) a j xs
 |0,_=>rfl
 |j+1,xs=>by
  rw[afD,insJ];by_cases h:a<=j
  .rw[bZ h];simp only[AR]
   cases h2:Vg l (nth xs (j+1)) (nth xs j) with
   |true=>rw[ac ⟨h,by rw[<-Fs];exact h2⟩,<-aic,Uk]
   |false=>rw[aa (λq=>by have:=q.2;rw[<-Fs,h2]at this;exact absurd this s_)]
  .rw[show Nat.ble a j=false by rw[<-fZ,bj];exact h,aa (λq=>h q.1)]
def Yc (a:Nat):Nat->Nat->C_->C_
 |0,_,xs=>xs
 |k+1,i,xs=>Yc a k (i+1) (afD l a i xs)
def WX {a:Nat}:∀(k i:Nat) (xs:C_),Yc l a k i xs=insO (cC l) a k i xs
 |0,_,_=>rfl
 |k+1,i,xs=>by rw[Yc,insO,aic,WX]
def ais (xs:C_)(a:Nat):Nat->Nat->Nat->Nat
 |0,i,_=>i
 |f+1,i,j=>match Nat.ble j i with
  |true=>i
  |false=>match Vg l (mC xs ((i+j) / 2)) (mC xs a) with
   |true=>ais xs a f ((i+j) / 2+1) j
   |false=>ais xs a f i ((i+j) / 2)
def aaN {xs:C_}{a:Nat}:∀(f i j:Nat),ais l xs a f i j=ME (cC l) xs a f i j
 |0,_,_=>rfl
 |f+1,i,j=>by
  rw[ais,ME];by_cases h:i<j
  .rw[show Nat.ble j i=false by rw[<-fZ,bj];omega,ac h];simp only[AR]
   cases h2:Vg l (nth xs ((i+j) / 2)) (nth xs a) with
   |true=>rw[ac (by rw[<-Fs];exact h2)];simp only[aaN]
   |false=>rw[aa (by rw[<-Fs,h2];simp)];simp only[aaN]
  .rw[bZ (by omega:j<=i),aa h]
def afY (xs:C_)(m:Nat):Nat->Nat->Nat->Nat
 |0,i,_=>i
 |f+1,i,j=>match Nat.ble j i with
  |true=>i
  |false=>match Vg l (mC xs m) (mC xs ((i+j) / 2)) with
   |true=>afY xs m f i ((i+j) / 2)
   |false=>afY xs m f ((i+j) / 2+1) j
def abM {xs:C_}{m:Nat}:∀(f i j:Nat),afY l xs m f i j=Nm (cC l) xs m f i j
 |0,_,_=>rfl
 |f+1,i,j=>by
  rw[afY,Nm];by_cases h:i<j
  .rw[show Nat.ble j i=false by rw[<-fZ,bj];omega,ac h];simp only[AR]
   cases h2:Vg l (nth xs m) (nth xs ((i+j) / 2)) with
   |true=>rw[ac (by rw[<-Fs];exact h2)];simp only[abM]
   |false=>rw[aa (by rw[<-Fs,h2];simp)];simp only[abM]
  .rw[bZ (by omega:j<=i),aa h]
def aaX (xs:C_)(p:Nat):Nat->Nat->Nat->Nat
 |0,i,_=>i
 |f+1,i,j=>match Nat.ble j i with
  |true=>i
  |false=>match Vg l (mC xs (p-(i+j) / 2)) (mC xs ((i+j) / 2)) with
   |true=>aaX xs p f i ((i+j) / 2)
   |false=>aaX xs p f ((i+j) / 2+1) j
def aaS {xs:C_}{p:Nat}:∀(f i j:Nat),aaX l xs p f i j=rT (cC l) xs p f i j
 |0,_,_=>rfl
 |f+1,i,j=>by
  rw[aaX,rT];by_cases h:i<j
  .rw[show Nat.ble j i=false by rw[<-fZ,bj];omega,ac h];simp only[AR]
   cases h2:Vg l (nth xs (p-(i+j) / 2)) (nth xs ((i+j) / 2)) with
   |true=>rw[ac (by rw[<-Fs];exact h2)];simp only[aaS]
   |false=>rw[aa (by rw[<-Fs,h2];simp)];simp only[aaS]
  .rw[bZ (by omega:j<=i),aa h]
def aou:Nat->Nat->C_->C_
 |0,_,xs=>xs
 |n+1,k,xs=>aou n (k+1) (aaT xs k (k+1))
def alt:∀(n k:Nat) (xs:C_),aou n k xs=shU n k xs
 |0,_,_=>rfl
 |n+1,k,xs=>by rw[aou,shU,Uk,alt]
def aop:Nat->Nat->C_->C_
 |0,_,xs=>xs
 |n+1,k,xs=>aop n (k-1) (aaT xs k (k-1))
def al7:∀(n k:Nat) (xs:C_),aop n k xs=shD n k xs
 |0,_,_=>rfl
 |n+1,k,xs=>by rw[aop,shD,Uk,al7]
def TX:Nat->C_->Nat->Nat->Nat->C_
 |0,xs,_,_,_=>xs
 |f+1,xs,a,m,b =>
  if m-a=1 then aou (ais l xs a (b-m) m b-1-a) a xs
  else if b-m=1 then aop (m-afY l xs m (m-a) a m) m xs
  else
   let s:=if (a+b) / 2<m then aaX l xs ((a+b) / 2+m-1) (b-a) ((a+b) / 2+m-b) ((a+b) / 2) else aaX l xs ((a+b) / 2+m-1) (b-a) a m
   let e:=(a+b) / 2+m-s
   let ys:=if s<m∧m<e then aiR m (e-s) xs (m-s) (e-m) else xs
   let zs:=if a<s∧s<(a+b) / 2 then TX f ys a s ((a+b) / 2) else ys
   if (a+b) / 2<e∧e<b then TX f zs ((a+b) / 2) e b else zs
def WB:∀(f:Nat) (xs:C_) (a m b:Nat),TX l f xs a m b=symM (cC l) f xs a m b
 |0,_,_,_,_=>rfl
 |f+1,xs,a,m,b=>by
  rw[TX,symM];simp only[alt,al7,aaN,abM,aaS,ach,WB f]
def aiW (n:Nat):Nat->C_->Nat->C_×Nat
 |0,xs,a=>(xs,a)
 |f+1,xs,a=>if a+20<=n then aiW n f (Yc l a 19 (a+1) xs) (a+20) else (xs,a)
def amv {n:Nat}:∀(f:Nat) (xs:C_) (a:Nat),aiW l n f xs a=KC (cC l) n f xs a
 |0,_,_=>rfl
 |f+1,xs,a=>by rw[aiW,KC];simp only[WX,amv f]
def ahY (n bs:Nat):Nat->C_->Nat->C_×Nat
 |0,xs,a=>(xs,a)
 |f+1,xs,a=>if a+2*bs<=n then ahY n bs f (TX l (2*bs) xs a (a+bs) (a+2*bs)) (a+2*bs) else (xs,a)
def alA {n bs:Nat}:∀(f:Nat) (xs:C_) (a:Nat),ahY l n bs f xs a=Qe (cC l) n bs f xs a
 |0,_,_=>rfl
 |f+1,xs,a=>by rw[ahY,Qe];simp only[WB,alA f]
def ang (n bs:Nat)(p:C_×Nat):C_:=if p.2+bs<n then TX l (n-p.2) p.1 p.2 (p.2+bs) n else p.1
def avP {n bs:Nat}(p:C_×Nat):ang l n bs p=stE (cC l) n bs p:=by rw[ang,stE];simp only[WB]
def as9 (n:Nat)(p:C_×Nat):C_:=Yc l p.2 (n-(p.2+1)) (p.2+1) p.1
def awg {n:Nat}(p:C_×Nat):as9 l n p=stS (cC l) n p:=WX l _ _ _
def Sx (n:Nat):Nat->C_->Nat->C_
 |0,xs,_=>xs
 |f+1,xs,bs=>if bs<n then Sx n f (ang l n bs (ahY l n bs n xs 0)) (2*bs) else xs
def al0 {n:Nat}:∀(f:Nat) (xs:C_) (bs:Nat),Sx l n f xs bs=Za (cC l) n f xs bs
 |0,_,_=>rfl
 |f+1,xs,bs=>by rw[Sx,Za];simp only[avP,alA,al0 f]
def ab1 (n:Nat)(xs:C_):C_:=Sx l n n (as9 l n (aiW l n n xs 0)) 20
def tI {n:Nat}(xs:C_):ab1 l n xs=rV (cC l) n xs:=by rw[ab1,rV,al0,awg,amv]
def rnd (n bs:Nat)(xs:C_):C_:=ang l n bs (ahY l n bs n xs 0)
end
end
def st1:rV (cC (jD 1)) (bm 1) (List.range (bm 1))=cw 1:=by rw[<-tI];decide +kernel
def st3:rV (cC (jD 3)) (bm 3) (List.range (bm 3))=cw 3:=by rw[<-tI];decide +kernel
def st5:rV (cC (jD 5)) (bm 5) (List.range (bm 5))=cw 5:=by rw[<-tI];decide +kernel
def st7:rV (cC (jD 7)) (bm 7) (List.range (bm 7))=cw 7:=by rw[<-tI];decide +kernel
def aFF:rV (cC (jD 12)) (bm 12) (List.range (bm 12))=cw 12:=by rw[<-tI];decide +kernel
def st9:rV (cC (jD 9)) (bm 9) (List.range (bm 9))=cw 9:=by rw[<-tI];decide +kernel
noncomputable section
def auR:C_:=[0,1,17,2,18,3,19,4,5,6,7,8,9,10,11,12,13,14,15,16,34,35,20,36,21,37,22,38,23,39,24,25,26,27,28,29,30,31,32,33,51,52,53,54,55,40,56,41,57,42,58,43,59,44,45,46,47,48,49,50,68,69,70,71,72,73,74,75,60,76,61,77,62,78,63,79,64,65,66,67,85,86,87,88,89,90,91,92,93,94,95,80,96,81,97,82,98,83,99,84,102,103,119,104,105,106,107,108,109,110,111,112,113,114,115,100,116,101,117,118,120,136,121,137,122,138,123,139,124,125,126,127,128,129,130,131,132,133,134,135,153,154,155,140,156,141,157,142,158,143,159,144,145,146,147,148,149,150,151,152,170,171,172,173,174,175,160,176,161,177,162,178,163,179,164,165,166,167,168,169,187,188,189,190,191,192,193,194,195,180,196,181,197,182,198,183,199,184,185,186,204,205,206,207,208,209,210,211,212,213,214,215,200,216,201,217,202,218,203,219,221,222,238,223,239,224,225,226,227,228,229,230,231,232,233,234,235,220,236,237,255,240,256,241,257,242,258,243,259,244,245,246,247,248,249,250,251,252,253,254,272,273,274,275,260,276,261,277,262,278,263,279,264,265,266,267,268,269,270,271,280,281,282,283,284,285,286,287,288]
def avq:C_:=[0,1,17,2,18,34,3,19,35,4,20,36,5,21,37,6,22,38,7,23,39,8,24,9,25,10,26,11,27,12,28,13,29,14,30,15,31,16,32,33,51,52,68,53,69,54,70,55,71,40,56,72,41,57,73,42,58,74,43,59,75,44,60,76,45,61,77,46,62,78,47,63,79,48,64,49,65,50,66,67,85,86,102,87,103,119,88,104,89,105,90,106,91,107,92,108,93,109,94,110,95,111,80,96,112,81,97,113,82,98,114,83,99,115,84,100,116,101,117,118,120,136,121,137,153,122,138,154,123,139,155,124,140,156,125,141,157,126,142,158,127,143,159,128,144,129,145,130,146,131,147,132,148,133,149,134,150,135,151,152,170,171,187,172,188,173,189,174,190,175,191,160,176,192,161,177,193,162,178,194,163,179,195,164,180,196,165,181,197,166,182,198,167,183,199,168,184,169,185,186,204,205,221,206,222,238,207,223,239,208,224,209,225,210,226,211,227,212,228,213,229,214,230,215,231,200,216,232,201,217,233,202,218,234,203,219,235,220,236,237,255,240,256,272,241,257,273,242,258,274,243,259,275,244,260,276,245,261,277,246,262,278,247,263,279,248,264,249,265,250,266,251,267,252,268,253,269,254,270,271,280,281,282,283,284,285,286,287,288]
def auL:C_:=[0,1,17,2,18,34,3,19,35,51,4,20,36,52,68,5,21,37,53,69,6,22,38,54,70,7,23,39,55,71,8,24,40,56,72,9,25,41,57,73,10,26,42,58,74,11,27,43,59,75,12,28,44,60,76,13,29,45,61,77,14,30,46,62,78,15,31,47,63,79,16,32,48,64,33,49,65,50,66,67,85,86,102,87,103,119,88,104,120,136,89,105,121,137,153,90,106,122,138,154,91,107,123,139,155,92,108,124,140,156,93,109,125,141,157,94,110,126,142,158,95,111,127,143,159,80,96,112,128,144,81,97,113,129,145,82,98,114,130,146,83,99,115,131,147,84,100,116,132,148,101,117,133,149,118,134,150,135,151,152,170,171,187,172,188,204,173,189,205,221,174,190,206,222,238,175,191,207,223,239,160,176,192,208,224,161,177,193,209,225,162,178,194,210,226,163,179,195,211,227,164,180,196,212,228,165,181,197,213,229,166,182,198,214,230,167,183,199,215,231,168,184,200,216,232,169,185,201,217,233,186,202,218,234,203,219,235,220,236,237,255,240,256,272,241,257,273,242,258,274,243,259,275,244,260,276,245,261,277,246,262,278,247,263,279,248,264,280,249,265,281,250,266,282,251,267,283,252,268,284,253,269,285,254,270,286,271,287,288]
def avg:C_:=[0,1,17,2,18,34,3,19,35,51,4,20,36,52,68,5,21,37,53,69,85,6,22,38,54,70,86,102,7,23,39,55,71,87,103,119,8,24,40,56,72,88,104,120,136,9,25,41,57,73,89,105,121,137,153,10,26,42,58,74,90,106,122,138,154,11,27,43,59,75,91,107,123,139,155,12,28,44,60,76,92,108,124,140,156,13,29,45,61,77,93,109,125,141,157,14,30,46,62,78,94,110,126,142,158,15,31,47,63,79,95,111,127,143,159,16,32,48,64,80,96,112,128,144,33,49,65,81,97,113,129,145,50,66,82,98,114,130,146,67,83,99,115,131,147,84,100,116,132,148,101,117,133,149,118,134,150,135,151,152,170,171,187,172,188,204,173,189,205,221,174,190,206,222,238,175,191,207,223,239,255,160,176,192,208,224,240,256,272,161,177,193,209,225,241,257,273,162,178,194,210,226,242,258,274,163,179,195,211,227,243,259,275,164,180,196,212,228,244,260,276,165,181,197,213,229,245,261,277,166,182,198,214,230,246,262,278,167,183,199,215,231,247,263,279,168,184,200,216,232,248,264,280,169,185,201,217,233,249,265,281,186,202,218,234,250,266,282,203,219,235,251,267,283,220,236,252,268,284,237,253,269,285,254,270,286,271,287,288]
def aCu:as9 (jD 11) 289 (aiW (jD 11) 289 289 (List.range 289) 0)=auR:=e_
def aBG:rnd (jD 11) 289 20 auR=avq:=e_
def aCC:rnd (jD 11) 289 40 avq=auL:=e_
def aCm:rnd (jD 11) 289 80 auL=avg:=e_
def aAW:rnd (jD 11) 289 160 avg=cw 11:=e_
def aFI:rV (cC (jD 11)) 289 (List.range 289)=cw 11:=by
 rw[<-tI,ab1,aCu];have u:∀(f:Nat) (xs:C_) (bs:Nat),bs<289->Sx (jD 11) 289 (f+1) xs bs=Sx (jD 11) 289 f (rnd (jD 11) 289 bs xs) (2*bs):=λf xs bs h=>by rw[Sx,ac h];rfl
 rw[u 288 _ _ o_,aBG,u 287 _ _ o_,aCC,u 286 _ _ o_,aCm,u 285 _ _ o_,aAW];rw[show(285:Nat)=284+1 from rfl,Sx,aa o_]
end
abbrev cJ:=@List.replicate_succ
abbrev nt:=@List.set_append_right
abbrev t9:=@Nat.sub_self
def arZ:jD 2=jD 1∧jD 4=jD 3∧jD 6=jD 5∧jD 8=jD 7∧jD 10=jD 9:=⟨rfl,rfl,rfl,rfl,rfl⟩
def anz:cw 2=cw 1∧cw 4=cw 3∧cw 6=cw 5∧cw 8=cw 7∧cw 10=cw 9:=⟨rfl,rfl,rfl,rfl,rfl⟩
def azp (id:Nat)(h:ju id):rV (cC (jD id)) (bm id) (List.range (bm id))=cw id:=by
 obtain⟨p2,p4,p6,p8,p10⟩:=arZ;obtain⟨q2,q4,q6,q8,q10⟩:=anz;have h1:id=1∨id=2∨id=3∨id=4∨id=5∨id=6∨id=7∨id=8∨id=9∨id=10∨id=11∨id=12:=o_;rcases h1 with rfl|rfl|rfl|rfl|rfl|rfl|rfl|rfl|rfl|rfl|rfl|rfl
 .exact st1
 .rw[p2,q2];exact st1
 .exact st3
 .rw[p4,q4];exact st3
 .exact st5
 .rw[p6,q6];exact st5
 .exact st7
 .rw[p8,q8];exact st7
 .exact st9
 .rw[p10,q10];exact st9
 .exact aFI
 .exact aFF
def alw:∀id∈ids,bm id<=289∧bm id % 20≠0∧1<=bm id:=e_
def rks (es:C_):Nat->Nat->C_->C_
 |0,_,R=>R
 |k+1,i,R=>rks es k (i+1) (R.set (nth es i) i)
def axD:∀id∈ids,rks (cw id) (bm id) 0 (List.replicate (bm id) 0)=dF id:=e_
def ak4:∀id∈ids,(cw id).length=bm id∧(dF id).length=bm id∧(cw id).all (λe=>decide (e<bm id))=true:=e_
def Gw (n i:Nat):C_:=List.range i++List.replicate (n-i) 0
def arR {n i:Nat}(h:i<=n):(Gw n i).length=n:=by simp[Gw];omega
def atQ {n i:Nat}(h:i<n):(Gw n i).set i i=Gw n (i+1):=by
 unfold Gw;obtain⟨k,hk⟩:∃k,n-i=k+1:=⟨n-i-1,o_⟩
 rw[hk,cJ,nt _ _ s_,rX,t9,List.set_cons_zero,List.range_succ,ax]
 congr 2
 rw[show n-(i+1)=k by omega];rfl
section
variable (id n:Nat)(Z:D_)
def ajs (hn:n<=289)(R:C_)(a b c d:AV)(x0 x1:D)(N:Nat):∀(k i:Nat),i+k=n->
  (Dn prog).code (.loop Aa) ⟨[(2,.ptr 0 0),(6,.ptr 4 0),(7,.ptr 5 0),(34,A_ n),(35,A_ i)],
   ⟨[(0,.cells [a,b,c,d]),(2,.arr 1 (cX (Gw n i))),(3,.arr 1 (cX R)),(4,.cells [.d x0,.d x1,.sl 2 0 n,.sl 3 0 n]),(5,.cells Z)],N⟩⟩ =
  some (.exit 0,⟨[(2,.ptr 0 0),(6,.ptr 4 0),(7,.ptr 5 0)],⟨[(0,.cells [a,b,c,d]),(2,.arr 1 (cX (Gw n n))),(3,.arr 1 (cX R)),(4,.cells [.d x0,.d x1,.sl 2 0 n,.sl 3 0 n]),(5,.cells Z)],N⟩⟩):=by
 intro k
 induction k with
 |zero =>
  intro i h;have:i=n:=o_;subst this;rw[ah QD];simp(maxSteps:=300000) (disch:=omega)[↓ac,↓aa]
 |succ k ih =>
  intro i h;have l:=arR (n:=n) (i:=i) o_;have h5:=ih (i+1) o_;have c1:((i+1:Nat):Int)=(i:Int)+1:=rfl;rw[c1]at h5;rw[ah QD,<-h5,<-atQ o_];generalize Gw n i=xs at *;simp(maxSteps:=300000) (disch:=omega)[↓ac,↓aa]
def akx (hn:n<=289)(es:C_)(he:es.length=n)(hu:eU n es)(a b c d:AV)(x0 x1:D)(N:Nat):∀(k i:Nat) (R:C_),i+k=n->R.length=n->
  (Dn prog).code (.loop z8) ⟨[(2,.ptr 0 0),(6,.ptr 4 0),(49,.sl 2 0 n),(50,A_ n),(51,A_ i)],
   ⟨[(0,.cells [a,b,c,d]),(2,.arr 1 (cX es)),(3,.arr 1 (cX R)),(4,.cells [.d x0,.d x1,.sl 2 0 n,.sl 3 0 n]),(5,.cells Z)],N⟩⟩ =
  some (.exit 2,⟨[(2,.ptr 0 0),(6,.ptr 4 0)],⟨[(0,.cells [a,b,c,d]),(2,.arr 1 (cX es)),(3,.arr 1 (cX (rks es k i R))),(4,.cells [.d x0,.d x1,.sl 2 0 n,.sl 3 0 n]),(5,.cells Z)],N⟩⟩):=by
 intro k
 induction k with
 |zero =>
  intro i R h hR;rw[ah Qs];simp(maxSteps:=300000) (disch:=omega)[↓ac,↓aa,rks]
 |succ k ih =>
  intro i R h hR;have h5:=ih (i+1) (R.set (nth es i) i) o_ (by simpa using hR);have c1:((i+1:Nat):Int)=(i:Int)+1:=rfl;have hv:=hu.nth (i:=i) o_;rw[c1]at h5;rw[ah Qs,rks,<-h5];simp(maxSteps:=300000) (disch:=omega)[↓ac,↓aa]
end
abbrev lH:=@List.set_eq_take_append_cons_drop
abbrev rY:=@List.getElem_take
abbrev jQ:=@List.getElem?_eq_none
abbrev lU:=@List.drop_zero
@[simp] def aEp {h:am}{n id off:Nat}{k:IntKind}{z:Int}(h0:0<=z)(h1:z<=n):SN h n (.ptr id off) none (some (.d (.int k z))) none=bA (get h id) λo=>bA (cellsOf o) λcs=>dG (Nat.ble (off+n) cs.length) (some (.sl id off z.toNat)):=by
 obtain⟨d,rfl⟩:=az h0;have hd:Nat.ble d n=true:=bZ o_;have hb:xg n none (some (.d (.int k (d:Int)))) none=some (0,d,n):=by
  show(match (match Nat.ble d n with|true=>some d|false=>none) with|none=>none|some h=>vI none h n)=_;rw[hd];rfl
 simp only[SN,Ue]
 cases get h id with
 |none=>rfl
 |some o =>
  cases o with
  |cells cs =>
   simp only[bA,cellsOf,hb]
   cases Nat.ble (off+n) cs.length<;>simp[dG]
  |arr=>rfl
  |loop=>rfl
def vc (V:G_):D_:=V.map λz=>A_ z
def SM {V:G_}:(vc V).length=V.length:=by simp[vc]
def apZ {V:G_}{i:Nat}(h:i<V.length):(vc V)[i]?=some (A_ (nth V i)):=by
 rw[vc,bY,AO h];rfl
def ay4 {V:G_}{i:Nat}{z:Int}:(vc V).set i (A_ z)=vc (V.set i z):=by simp[vc,kX]
def afP {V:G_}{i:Nat}{z:Int}(h:i<V.length):List.take i (vc V)++AV.d (.int .i64 z)::List.drop (i+1) (vc V)=vc (V.set i z):=by
 rw[<-ay4,lH,ac (by rw[SM];exact h)]
def odo (lo hi:Int):Nat->G_->G_
 |0,V=>V
 |i+1,V=>if nth V i+1<=hi then V.set i (nth V i+1) else odo lo hi i (V.set i lo)
abbrev Sm (V:G_):Prop:=∀z∈V,-100000<=z∧z<=100000
section
variable (k1:AV)(dm lo hi pl:Int)(cG:D_)(N:Nat)
def asW (d n m:Nat)(hd:d<=4)(V:G_)(hV:V.length=4)(hs:Sm V):∀(k i sum:Nat),i+k=d->sum<=1000000*(i+1)->
  (Dn prog).code (.loop na) ⟨[(1,.ptr 0 0),(2,.ptr 1 0),(3,.ptr 2 0),(5,A_ n),(6,A_ sum),(21,A_ m),(22,A_ n),(27,.sl 2 0 d),(28,A_ d),(29,A_ i)],
   ⟨[(0,.cells [A_ dm,A_ lo,A_ hi,A_ pl]),(1,.cells cG),(2,.cells (vc V))],N⟩⟩ =
  some (.exit 4,⟨[(1,.ptr 0 0),(2,.ptr 1 0),(3,.ptr 2 0),(5,A_ n),(6,A_ ((sum+NU ((V.take d).drop i):Nat))),(21,A_ m),(22,A_ n)],
   ⟨[(0,.cells [A_ dm,A_ lo,A_ hi,A_ pl]),(1,.cells cG),(2,.cells (vc V))],N⟩⟩):=by
 intro k
 induction k with
 |zero =>
  intro i sum h1 h2;have e:(V.take d).drop i=[]:=cy g_;rw[ah C8,e];simp(maxSteps:=300000) (disch:=omega)[↓ac,↓aa,NU]
 |succ k ih =>
  intro i sum h1 h2;have hg:=apZ (V:=V) (i:=i) o_;have hb:=hs (nth V i) (jM o_);have e:(V.take d).drop i=nth V i::(V.take d).drop (i+1):=by
   rw[ee g_]
   congr 1
   rw[rY,afI o_]
  have h5:=ih (i+1) (sum+(nth V i).natAbs) o_ o_;have es:sum+NU ((V.take d).drop i)=sum+(nth V i).natAbs+NU ((V.take d).drop (i+1)):=by rw[e,NU];omega
  rw[es];have c1:((i+1:Nat):Int)=(i:Int)+1:=rfl;rw[c1]at h5;rw[ah C8,<-h5];generalize nth V i=z at *;by_cases hz:z<0
  .have c2:((sum+z.natAbs:Nat):Int)=(sum:Int)+-z:=o_;rw[c2];simp(maxSteps:=300000) (disch:=omega)[↓ac,↓aa,hg]
  .have c2:((sum+z.natAbs:Nat):Int)=(sum:Int)+z:=o_;rw[c2];simp(maxSteps:=300000) (disch:=omega)[↓ac,↓aa,hg]
def arW (n m:Nat)(hlo:-1000<=lo∧lo<=1000):∀(j:Nat) (V:G_),j<=4->V.length=4->Sm V->
  (Dn prog).code (.loop mZ) ⟨[(1,.ptr 0 0),(2,.ptr 1 0),(3,.ptr 2 0),(9,A_ ((j:Int)-1)),(21,A_ m),(22,A_ n)],
   ⟨[(0,.cells [A_ dm,A_ lo,A_ hi,A_ pl]),(1,.cells cG),(2,.cells (vc V))],N⟩⟩ =
  some (.exit 6,⟨[(1,.ptr 0 0),(2,.ptr 1 0),(3,.ptr 2 0),(21,A_ m),(22,A_ n)],
   ⟨[(0,.cells [A_ dm,A_ lo,A_ hi,A_ pl]),(1,.cells cG),(2,.cells (vc (odo lo hi j V)))],N⟩⟩):=by
 intro j
 induction j with
 |zero =>
  intro V h1 hV hs;rw[ah Cs];simp(maxSteps:=300000) (disch:=omega)[↓ac,↓aa,odo]
 |succ j ih =>
  intro V h1 hV hs;have hg:=apZ (V:=V) (i:=j) o_;have hb:=hs (nth V j) (jM o_);have hgs:∀z,(vc (V.set j z))[j]?=some (A_ z):=λz=>by
   rw[vc,bY,uu o_];rfl
  have c1:((j+1:Nat):Int)-1=(j:Int):=o_;have lp:=λz=>afP (V:=V) (i:=j) (z:=z) (by omega)
  have lq:=λy z=>afP (V:=V.set j y) (i:=j) (z:=z) (by simp;omega)
  have hss:∀y z,(V.set j y).set j z=V.set j z:=λy z=>List.set_set ..
  have hl2:∀y,(V.set j y).length=4:=λy=>by simpa using hV
  rw[c1,ah Cs,odo];by_cases h:nth V j+1<=hi
  .rw[ac h];generalize nth V j=z at *;simp(maxSteps:=300000) (disch:=omega)[↓ac,↓aa,hg,SM,lp,lq,hss,hl2,hV,hgs]
  .have h5:=ih (V.set j lo) o_ (by simpa using hV) (λz hz=>by
    rcases ie hz with g|g
    .exact hs z g
    .subst g;omega)
   rw[aa h,<-h5];generalize nth V j=z at *;simp(maxSteps:=300000) (disch:=omega)[↓ac,↓aa,hg,SM,lp,lq,hss,hl2,hV,hgs]
def Y5 (lo:Int):Nat->Nat->G_->G_
 |0,_,V=>V
 |k+1,i,V=>Y5 lo k (i+1) (V.set i lo)
def asL (d:Nat)(hd:d<=4):∀(k i:Nat) (V:G_),i+k=d->V.length=4->
  (Dn prog).code (.loop ng) ⟨[(1,.ptr 0 0),(2,.ptr 1 0),(3,.ptr 2 0),(11,A_ d),(12,A_ i)],
   ⟨[(0,.cells [A_ dm,A_ lo,A_ hi,A_ pl]),(1,.cells cG),(2,.cells (vc V))],N⟩⟩ =
  some (.exit 0,⟨[(1,.ptr 0 0),(2,.ptr 1 0),(3,.ptr 2 0)],
   ⟨[(0,.cells [A_ dm,A_ lo,A_ hi,A_ pl]),(1,.cells cG),(2,.cells (vc (Y5 lo k i V)))],N⟩⟩):=by
 intro k
 induction k with
 |zero =>
  intro i V h1 hV;rw[ah By];simp(maxSteps:=300000) (disch:=omega)[↓ac,↓aa,Y5]
 |succ k ih =>
  intro i V h1 hV;have lp:=λz=>afP (V:=V) (i:=i) (z:=z) (by omega)
  have h5:=ih (i+1) (V.set i lo) o_ (by simpa using hV);have c1:((i+1:Nat):Int)=(i:Int)+1:=rfl;rw[c1]at h5;rw[ah By,Y5,<-h5];simp(maxSteps:=300000) (disch:=omega)[↓ac,↓aa,SM,lp,hV]
end
def AZ (id n:Nat):G_:=(mt id n++[0,0,0,0]).take 4
def auU (id n:Nat):Bool:=decide (odo (dj id) (dj id+cH id-1) (d8 id) (AZ id n)=AZ id (n+1)) && decide (NU ((AZ id n).take (d8 id))=zJ id n) && decide (zJ id n<=255) &&
 (AZ id n).all (λz=>decide (-100000<=z) && decide (z<=100000)) && decide ((AZ id n).length=4)
def aw1:∀id∈ids,(List.range (bm id)).all (auU id)=true:=e_
def aza {id n:Nat}(h:ju id)(hn:n<bm id):odo (dj id) (dj id+cH id-1) (d8 id) (AZ id n)=AZ id (n+1)∧NU ((AZ id n).take (d8 id))=zJ id n∧zJ id n<=255∧Sm (AZ id n)∧(AZ id n).length=4:=by
 have:=bJ.1 (aw1 id (fR h)) n (by simpa using hn);simp only[auU,af,decide_eq_true_eq,bJ]at this;exact⟨this.1.1.1.1,this.1.1.1.2,this.1.1.2,λz hz=>this.1.2 z hz,this.2⟩
def avj:∀id∈ids,Y5 (dj id) (d8 id) 0 [0,0,0,0]=AZ id 0∧d8 id<=4∧1<=d8 id∧-1000<=dj id∧dj id<=1000∧bm id<=289:=e_
def tV (id n:Nat):D_:=(List.range 289).map λe=>.d (.int .u8 (if e<n then zJ id e else 0:Nat))
def Wx {id n:Nat}:(tV id n).length=289:=by simp[tV]
def asH {id n:Nat}(h:n<289):List.take n (tV id n)++AV.d (.int .u8 (zJ id n:Nat))::List.drop (n+1) (tV id n)=tV id (n+1):=by
 have e:(tV id n).set n (AV.d (.int .u8 (zJ id n:Nat)))=tV id (n+1):=by
  apply dK;intro j;rw[List.getElem?_set];by_cases hj:n=j
  .subst hj;rw[ac rfl,ac (by rw[Wx];exact h),tV,bY,kM h];simp
  .rw[aa hj,tV,tV,bY,bY];by_cases hl:j<289
   .rw[kM hl];simp only[u4];by_cases h2:j<n
    .rw[ac h2,ac o_]
    .rw[aa h2,aa o_]
   .rw[jQ g_];rfl
 rw[<-e,lH,ac (by rw[Wx];exact h)]
def asK (id:Nat)(h:ju id)(pl:Int)(N:Nat):∀(k n:Nat),n+k=bm id->
  (Dn prog).code (.loop nz) ⟨[(1,.ptr 0 0),(2,.ptr 1 0),(3,.ptr 2 0),(21,A_ (bm id)),(22,A_ n)],
   ⟨[(0,.cells [A_ (d8 id),A_ (dj id),A_ (dj id+cH id-1),A_ pl]),(1,.cells (tV id n)),(2,.cells (vc (AZ id n)))],N⟩⟩ =
  some (.exit 2,⟨[(2,.ptr 1 0)],⟨[(1,.cells (tV id (bm id))),(2,.cells (vc (AZ id (bm id))))],N⟩⟩):=by
 obtain⟨d0,d1,d2,d3,d4,d5⟩:=avj id (fR h);intro k
 induction k with
 |zero =>
  intro n hn;have:n=bm id:=o_;subst this;rw[ah Ch];simp(maxSteps:=300000) (disch:=omega)[↓ac,↓aa]
 |succ k ih =>
  intro n hn;obtain⟨f1,f2,f3,f4,f5⟩:=aza (n:=n) h o_;have g1:=asW (d8 id) (dj id) (dj id+cH id-1) pl (tV id n) N (d8 id) n (bm id) d1 (AZ id n) f5 f4 (d8 id) 0 0 o_ o_;have g2:=arW (d8 id) (dj id) (dj id+cH id-1) pl (tV id (n+1)) N n (bm id) ⟨d3,d4⟩ (d8 id) (AZ id n) d1 f5 f4;rw[f1]at g2;rw[lU,f2,bC]at g1;have h5:=ih (n+1) o_;have c1:((n+1:Nat):Int)=(n:Int)+1:=rfl;have c0:((0:Nat):Int)=0:=rfl;rw[c1]at h5;rw[c0]at g1;have hp:=asH (id:=id) (n:=n) o_;have hl:=SM (V:=AZ id n);have ol:=Wx (id:=id) (n:=n);rw[ah Ch,<-h5];generalize zJ id n=z at *;generalize hA:tV id n=A at *;generalize hB:tV id (n+1)=B at *;generalize AZ id n=V at *;generalize AZ id (n+1)=W at *;simp(maxSteps:=300000) (disch:=omega)[↓ac,↓aa,g1,g2,hp,AV.int]
def LF:D_:=List.replicate 289 (.d (.int .u8 0))
def ahE:LF.length=289:=by simp[LF]
def aAs {id:Nat}:tV id 0=LF:=by
 simp only[tV,Nat.not_lt_zero,bl,LF];rw[List.map_const',rX];rfl
def atK {id:Nat}:tV id (bm id)=si id:=rfl
def aBx {x0:AV}{h:am}{n:Nat}:(Dn prog).code nB ⟨[(0,x0)],⟨h,n⟩⟩=fg (dG ((AV.cells x0).all bq) <|lA (put h n (.cells (AV.cells x0))) λh1=>lA (put h1 (n+1) (.cells LF)) λh2=>some ⟨[(1,.ptr n 0),(2,.ptr (n+1) 0)],⟨h2,n+1+1⟩⟩):=AM
abbrev Dl (Z:D_):Prop:=∀x∈Z,∃d,x=AV.d d
def agj:∀{Z:D_},(fN 1 Z).1=Z
 |[]=>rfl
 |v::r=>by rw[fN,agj];rfl
def aib {h:am}:∀{Z:D_},Dl Z->sO h Z=some (Z,h)
 |[],_=>rfl
 |v::r,hz=>by
  obtain⟨d,rfl⟩:=hz v (.head _);have h1:jF h (.d d)=some (.d d,h):=rfl;rw[sO,h1];simp only[aib (Z:=r) λx hx=>hz x (.tail _ hx)]
def ahO:∀{Z:D_},Dl Z->Z.map mT=Z
 |[],_=>rfl
 |v::r,hz=>by
  obtain⟨d,rfl⟩:=hz v (.head _);rw[ct,ahO λx hx=>hz x (.tail _ hx)];rfl
def auP {id:Nat}:Dl (si id):=by
 intro x hx;simp only[si,dz]at hx;obtain⟨e,_,rfl⟩:=hx;exact⟨_,rfl⟩
def aab (id:Nat)(h:ju id):bi prog gD [Vp id]=some (.agg (si id)):=by
 have hin:=fR h;obtain⟨d0,d1,d2,d3,d4,d5⟩:=avj id hin;have hm:=HF id hin;have h0:=asL (d8 id) (dj id) (dj id+cH id-1) (bM id) LF 3 (d8 id) d1 (d8 id) 0 [0,0,0,0] o_ rfl;have h3:=asK id h (bM id) 3 (bm id) 0 o_;have c0:((0:Nat):Int)=0:=rfl;have v0:vc [0,0,0,0]=[A_ 0,A_ 0,A_ 0,A_ 0]:=rfl;rw[d0,c0,v0]at h0;rw[aAs,atK,c0]at h3;have zl:=aci (id:=id);have zr:=λh=>aib (h:=h) (auP (id:=id))
 have zb:=ahO (auP (id:=id));have zt:List.take 289 (si id)=si id:=cx o_;have z1:=agj (Z:=si id);simp only[Vp]at hm⊢;rw[aH UE UB rfl];generalize si id=Z at *;generalize vc (AZ id 0)=V0 at *;generalize vc (AZ id (bm id))=V1 at *;generalize bM id=pl at *;generalize d8 id=dm at *;generalize dj id=lo at *;generalize cH id=wi at *;generalize bm id=n at *;simp(maxSteps:=300000) (disch:=omega)[↓ac,↓aa,hm,h0,h3,-AM,aBx,zt,z1,zr];exact λ_=>zb
def aox {hp:C_->am}{D L:Nat}{F:AV}{C:Nat->Nat->Int}(H:Hp hp D)(K:Cm hp L F C)(n:Nat)(hlen:n<=1000000000)(hn:n % 20≠0)(N:Nat)(xs:C_)(hx:xs.length=n)(u:eU L xs) :
  (Dn prog).call rJ [.sl D 0 n,F] ⟨hp xs,N⟩=some (.tup [],⟨hp (rV C n xs),N⟩):=by
 have h:=arf H K n hlen hn N xs hx u;rw[aZ EG Ee rfl];simp(maxSteps:=300000) (disch:=omega)[↓ac,↓aa,K.sh,K.fi,h]
def aBY {x2:AV}{x4:AV}{x6:AV}{h:am}{n:Nat}:(Dn prog).code zH ⟨[(2,x2),(4,x4),(6,x6)],⟨h,n⟩⟩=fg (bP (loadAt h (some 4) 1 (share x4)) λa1 h2=>bA (eJ (Dn prog) gD [firm a1] h2) λa3=>lA (put h2 n (.cells LF)) λh4=>bA (storeAt h4 289 (.ptr n 0) (firm a3)) λh5=>some ⟨[(2,x2),(4,x4),(6,x6),(7,.ptr n 0)],⟨h5,n+1⟩⟩):=Mx
def ahw {W Z:D_}(h:W.length=Z.length):aG W 0 Z=Z:=by simp[aG,<-h]
def aio {id:Nat}:(si id).all bq=true:=by
 rw[bJ];intro x hx;simp only[si,dz]at hx;obtain⟨e,_,rfl⟩:=hx;rfl
def ahL {id:Nat}:(si id).map nu=si id:=by
 simp only[si,tH];rfl
def at0 {n:Nat}:List.replicate n [D.int .i64 0]=cX (List.replicate n 0):=by simp[cX]
def arn (id:Nat)(h:ju id):bi prog HI [A_ id]=some (.tup [ZU id,A_ 0]):=by
 have hin:=fR h;obtain⟨m1,m2,m3⟩:=alw id hin;obtain⟨e1,e2,e3⟩:=ak4 id hin;have hR:=axD id hin;have t1:List.take (bm id) (cw id)=cw id:=cx o_;have t2:List.take (bm id) (dF id)=dF id:=cx o_;have hst:=azp id h;have ho:=N1 id hin;have hm:=HF id hin;have hz:=aab id h;have zl:=aci (id:=id);have zc:=aio (id:=id);have zf:=ahL (id:=id);have z9:=ahE;have zd:List.drop (si id).length LF=[]:=cy o_;have hu:eU (bm id) (cw id):=λx hx=>by simpa using bJ.1 e3 x hx
 have hs:=λa b c d x0 x1 R N=>aox (hp:=λxs=>[(0,.cells [a,b,c,d]),(2,.arr 1 (cX xs)),(3,.arr 1 (cX R)),(4,.cells [.d x0,.d x1,.sl 2 0 (bm id),.sl 3 0 (bm id)]),(5,.cells (si id))]) (D:=2)
  ⟨λxs=>rfl,λxs ys=>rfl⟩ (aFr (S:=5) (λxs=>rfl) m1) (bm id) o_ m2 N (List.range (bm id)) s_ (λx hx=>by simpa using hx)
 have h0:=λa b c d x0 x1 R N=>ajs (bm id) (si id) m1 R a b c d x0 x1 N (bm id) 0 (by omega)
 have h1:=λa b c d x0 x1 N=>akx (bm id) (si id) m1 (cw id) e1 hu a b c d x0 x1 N (bm id) 0 (List.replicate (bm id) 0) o_ (by simp)
 have hup:Gw (bm id) (bm id)=List.range (bm id):=by simp[Gw]
 have hu0:Gw (bm id) 0=List.replicate (bm id) 0:=by simp[Gw]
 rw[hup,hu0]at h0;simp only[hst,hR,Vp]at hs h1 ho hm hz;rw[aH anr aoD rfl];have hid:(1:Int)<=id∧(id:Int)<=12:=o_;have c0:((0:Nat):Int)=0:=rfl;rw[c0]at h0 h1;simp only[ZU];generalize si id=Z at *;generalize cw id=es at *;generalize dF id=rs at *;generalize bM id=pl at *;generalize d8 id=dm at *;generalize dj id=lo at *;generalize cH id=wi at *;generalize bm id=n at *;simp(maxSteps:=300000) (disch:=omega)[↓ac,↓aa,ho,hm,hz,h0,hs,h1,-Mx,aBY,ahw,zc,zf,zd,D7,at0,AV.int,t1,t2]
def kx (id:Nat):Bool:=decide (dj id<0)
def RH:∀x∈ids.take 11,bi prog ae0 [A_ x]=some (B_ (kx x)):=IE 100 _ (by kernel_rfl)
section
variable (id:Nat)
end
section
variable (n:Nat)(sz:C_)(hz:sz.length=n)(hn2:n<=289)(a b c d:AV)(x0 x1:D)(N:Nat)
include hz hn2
end
def okR (sz es rs:C_)(i:Nat):Bool:=Nat.beq (mC rs (mC es i)) i &&
 (Nat.beq i 0 ||Nat.blt (mC sz (mC es (i-1))) (mC sz (mC es i)) ||(Nat.beq (mC sz (mC es (i-1))) (mC sz (mC es i)) && Nat.blt (mC es (i-1)) (mC es i)))
def awI:∀id∈ids,(List.range (bm id)).all (okR (jD id) (cw id) (dF id))=true:=e_
def ap0 {id i:Nat}(h:ju id)(hi:i<bm id):nth (dF id) (nth (cw id) i)=i∧(i≠0->nth (jD id) (nth (cw id) (i-1))<nth (jD id) (nth (cw id) i)∨(nth (jD id) (nth (cw id) (i-1))=nth (jD id) (nth (cw id) i)∧nth (cw id) (i-1)<nth (cw id) i)):=by
 have:=bJ.1 (awI id (fR h)) i (by simpa using hi);simp only[okR,AR,af,cZ,aB,Nat.blt,bj]at this;refine⟨this.1,λh0=>?_⟩;rcases this.2 with (h1|h1)|h1
 .exact absurd h1 h0
 .exact .inl h1
 .exact .inr h1
section
variable (n:Nat)(hn:n<=289)(sz es rs:C_)(Z:D_)(he:es.length=n)(hr:rs.length=n)(hu:eU n es)(hZ:∀x,x<n->Z[x]?=some (.d (.int .u8 (nth sz x:Nat))))
 (h1:∀i,i<n->nth rs (nth es i)=i)(h2:∀i,i+1<n->nth sz (nth es i)<nth sz (nth es (i+1))∨(nth sz (nth es i)=nth sz (nth es (i+1))∧nth es i<nth es (i+1)))
include hn he hr hu hZ h1 h2
theorem aeq (x0 x1:D)(N:Nat):∀(k i:Nat),i+k=n->
  (Dn prog).code (.loop vV) ⟨[(1,.ptr 0 0),(5,.ptr 2 0),(43,.d (.lst (cX es))),(44,A_ n),(45,A_ i)],⟨[(0,.cells [.d x0,.d x1,.d (.lst (cX es)),.d (.lst (cX rs))]),(2,.cells Z)],N⟩⟩ =
  some (.exit 0,⟨[],⟨[],N⟩⟩):=by
 intro k
 induction k with
 |zero =>
  intro i h;rw[ah Ki];simp(maxSteps:=300000) (disch:=omega)[↓ac,↓aa]
 |succ k ih =>
  intro i h;have hv:=hu.nth (i:=i) o_;have e1:=hZ _ hv;have r1:=h1 i o_;have h5:=ih (i+1) o_;have c1:((i+1:Nat):Int)=(i:Int)+1:=rfl;rw[c1]at h5;rw[ah Ki,<-h5];by_cases h0:i=0
  .subst h0;have c0:((0:Nat):Int)=0:=rfl;rw[c0];have n0:(0:Int)=((0:Nat):Int):=rfl;simp(maxSteps:=300000) (disch:=omega)[↓ac,↓aa,r1]
  .obtain⟨q,rfl⟩:∃q,i=q+1:=⟨i-1,o_⟩
   have hw:=hu.nth (i:=q) o_;have e2:=hZ _ hw;rcases h2 q o_ with g|⟨g1,g2⟩
   .simp(maxSteps:=300000) (disch:=omega)[↓ac,↓aa,r1,e1,e2]
   .simp(maxSteps:=300000) (disch:=omega)[↓ac,↓aa,r1,e1,e2]
end
def aCx {x1:AV}{x3:AV}{h:am}{n:Nat}:(Dn prog).code v7 ⟨[(1,x1),(3,x3)],⟨h,n⟩⟩=fg (bP (loadAt h (some 4) 1 (share x3)) λa1 h2=>bA (eJ (Dn prog) gD [firm a1] h2) λa3=>lA (put h2 n (.cells LF)) λh4=>bA (storeAt h4 289 (.ptr n 0) (firm a3)) λh5=>some ⟨[(1,x1),(3,x3),(5,.ptr n 0)],⟨h5,n+1⟩⟩):=IX
def ajt (id:Nat)(h:ju id):bi prog Il [nD id]=some (B_ true):=by
 have hin:=fR h;obtain⟨m1,m2,m3⟩:=alw id hin;obtain⟨e1,e2,e3⟩:=ak4 id hin;have ho:=N1 id hin;have hm:=HF id hin;have hz:=aab id h;have zl:=aci (id:=id);have zc:=aio (id:=id);have zf:=ahL (id:=id);have z9:=ahE;have zd:List.drop (si id).length LF=[]:=cy o_;have hu:eU (bm id) (cw id):=λx hx=>by simpa using bJ.1 e3 x hx
 have h0:=λx0 x1 N=>aeq (bm id) m1 (jD id) (cw id) (dF id) (si id) e1 e2 hu (λx hx=>abc hx m1) (λi hi=>(ap0 h hi).1) (λi hi=>by have:=(ap0 h hi).2 o_;simpa using this) x0 x1 N (bm id) 0 (by omega)
 simp only[Vp]at ho hm hz;rw[aH ahG ahp rfl];have hid:(1:Int)<=id∧(id:Int)<=12:=o_;have c0:((0:Nat):Int)=0:=rfl;rw[c0]at h0;simp only[nD];generalize si id=Z at *;generalize jD id=zs at *;generalize cw id=es at *;generalize dF id=rs at *;generalize bM id=pl at *;generalize d8 id=dm at *;generalize dj id=lo at *;generalize cH id=wi at *;generalize bm id=n at *;simp(maxSteps:=300000) (disch:=omega)[↓ac,↓aa,ho,hm,hz,h0,-IX,aCx,ahw,zc,zf,zd,AV.int,e1,e2]
def mf (b:C_):Nat->Nat->Int->R Nat
 |0,_,_=>.er 7
 |f+1,m,a=>(bb b a 1).bind λv n=>if v=1 then .ok m n else mf b f (m+1) n
abbrev pZ (b:C_)(m n:Nat):Prop:=m<=9∧n<=b.length
def ahi {b:C_}:∀{f m k n:Nat}{a:Int},f+m=10->mf b f m a=.ok k n->pZ b k n
 |0,_,_,_,_,_,h=>absurd h (by simp[mf])
 |f+1,m,k,n,a,hf,h=>by
  rw[mf]at h
  cases h1:bb b a 1 with
  |er e=>rw[h1]at h;exact absurd h (by simp)
  |ok v a1 =>
   rw[h1,aI]at h;by_cases hv:v=1
   .rw[ac hv]at h;injection h with e1 e2
    subst e1 e2;exact⟨o_,(ed h1).2⟩
   .rw[aa hv]at h;exact ahi o_ h
def arY {α γ:Type}{p:α->Nat->Prop}{b:C_}{f m:Nat}{a:Int}{g:Nat->Nat->R α}{F:α->Nat->γ}{G:Nat->γ}(h:f+m=10):rK p ((mf b f m a).bind g) F G=rK (pZ b) (mf b f m a) (λv n=>rK p (g v n) F G) G:=xw λ_ _ h2=>ahi h h2
def aqc {γ:Type}{b:C_}{f m:Nat}{a:Int}{F:Nat->Nat->γ}{G:Nat->γ}(h:f+1+m=10):rK (pZ b) (mf b (f+1) m a) F G=rK (pG b 1) (bb b a 1) (λv n=>if v=1 then F m n else rK (pZ b) (mf b f (m+1) n) F G) G:=by
 rw[mf,IN];refine jP (λ_ _=>rfl) (λv n hp=>?_) λ_=>rfl
 by_cases hv:v=1
 .rw[ac hv,ac hv,eI ⟨o_,hp.2⟩]
 .rw[aa hv,aa hv]
def zC (id:Nat)(b:C_)(a:Int):R Nat :=
 (mf b 10 0 a).bind λm n=>(bb b n m).bind λhi n=>(bb b n (bM id)).bind λlo n =>
  if (cw id).length<=(2 ^ m+hi-1)*2 ^ bM id+lo then .er 7 else .ok (nth (cw id) ((2 ^ m+hi-1)*2 ^ bM id+lo)) n
def agP (b:C_)(hb:b.length<=1000000000)(X:Obj)(N:Nat):∀(f m:Nat) (a:Int),f+m=10->i64 a->
  (Dn prog).code (.loop xN) ⟨[(1,.d (.lst (ai b))),(3,.ptr 0 0),(7,A_ a),(9,A_ m),(10,A_ 0)],⟨[(0,X)],N⟩⟩ =
  rK (pZ b) (mf b f m a) (λm n=>some (.exit 0,⟨[(1,.d (.lst (ai b))),(3,.ptr 0 0),(7,A_ n),(9,A_ ((m+1:Nat):Int))],⟨[(0,X)],N⟩⟩)) (λe=>some (.ret,⟨[(6,A_ 0),(7,A_ 0),(8,A_ (e+1))],⟨[],N⟩⟩)):=by
 intro f
 induction f with
 |zero =>
  intro m a hf ha;rw[ah En,mf];simp(maxSteps:=300000) (disch:=omega)[↓ac,↓aa]
 |succ f ih =>
  intro m a hf ha;rw[ah En,aqc hf];simp(maxSteps:=300000) (disch:=omega)[↓ac,↓aa,gL];refine jP (λ_ _=>rfl) (λv n hp=>?_) λ_=>rfl
  have hp4:v<2:=hp.1;by_cases h4:v=1
  .subst h4;rw[ac rfl,ah En];simp(maxSteps:=300000) (disch:=omega)[↓ac,↓aa]
  .have h5:v=0:=o_;subst h5;have h:=ih (m+1) n o_ o_;rw[aa h4];simp at h⊢;exact h
def YD (id:Nat)(h:ju id):bi prog Il [nD id]=some (B_ true):=ajt id h
def WH (id:Nat)(h:ju id):bi prog HI [A_ id]=some (.tup [ZU id,A_ 0]):=arn id h
def asm {γ:Type}{id:Nat}{b:C_}{a:Int}(hid:ju id){F:Nat->Nat->γ}{G:Nat->γ}:rK (λe n=>e<bm id∧n<=b.length) (zC id b a) F G =
  rK (pZ b) (mf b 10 0 a) (λm n=>rK (pG b m) (bb b n m) (λhi n=>rK (pG b (bM id)) (bb b n (bM id)) (λlo n =>
  if (cw id).length<=(2 ^ m+hi-1)*2 ^ bM id+lo then G 7 else F (nth (cw id) ((2 ^ m+hi-1)*2 ^ bM id+lo)) n) G) G) G:=by
 rw[zC,arY rfl];refine jP (λ_ _=>rfl) (λm n hp=>?_) λ_=>rfl
 rw[IN];refine jP (λ_ _=>rfl) (λhi n hp=>?_) λ_=>rfl
 rw[IN];refine jP (λ_ _=>rfl) (λlo n hp=>?_) λ_=>rfl
 by_cases hr:(cw id).length<=(2 ^ m+hi-1)*2 ^ bM id+lo
 .rw[ac hr,ac hr,iP]
 .rw[aa hr,aa hr,eI];exact⟨(Kl o_).2.2.2 _ (jM o_),hp.2⟩
abbrev ED:VC:=(.seq (.seq Da (.cond (.m 73) (.seq (.seq (K [7,13]) (F 3)) (.seq BU .ret)) .skip)) (.seq (.seq BY (F 3)) .ret))
def Ud {m:Nat}(h:m<=60):eW .shl (A_ 1) (A_ m)=some (.int .i64 ((2 ^ m:Nat):Int)):=by
 have h2:2 ^ m<=2 ^ 60:=aw o_ h;have h3:min m 64=m:=o_;rw[sq o_,au,IntKind.bits,h3];generalize 2 ^ m=P at *;rw[aiA o_ o_,Int.one_mul]
def amT {x:Int}{m P:Nat}(hP:2 ^ m=P)(hm:m<=60)(h0:0<=x)(h1:x*P<=4611686018427387904):eW .shl (A_ x) (A_ m)=some (.int .i64 (x*P)):=by
 subst hP;have h2:2 ^ m<=2 ^ 60:=aw o_ hm;have h3:min m 64=m:=o_;rw[sq o_,au,IntKind.bits,h3];have:0<=x*((2 ^ m:Nat):Int):=Int.mul_nonneg h0 (qn _);generalize x*((2 ^ m:Nat):Int)=y at *;rw[aiA o_ o_]
def ayv {x:Int}(h0:0<=x)(h1:x<=100000000):eW .shl (A_ x) (A_ 0)=some (.int .i64 x):=by
 have:=amT (x:=x) (m:=0) (P:=1) rfl o_ h0 o_;simpa using this
def az9 {x:Int}(h0:0<=x)(h1:x<=100000000):eW .shl (A_ x) (A_ 1)=some (.int .i64 (x*2)):=by
 have:=amT (x:=x) (m:=1) (P:=2) rfl o_ h0 o_;simpa using this
def ayV {x:Int}(h0:0<=x)(h1:x<=100000000):eW .shl (A_ x) (A_ 2)=some (.int .i64 (x*4)):=by
 have:=amT (x:=x) (m:=2) (P:=4) rfl o_ h0 o_;simpa using this
def acW (id:Nat)(b:C_)(a:Int)(hb:b.length<=1000000000)(ha:i64 a)(hid:ju id):bi prog VD [nD id,.d (.lst (ai b)),A_ a] =
  rK (λe n=>e<bm id∧n<=b.length) (zC id b a) (λe n=>some (.tup [A_ e,A_ n,A_ 0])) (λe=>some (.tup [A_ 0,A_ 0,A_ (e+1)])):=by
 have hr:=YD id hid;have hf:=Kl (id:=id) o_;rw[aH ajW ake rfl,asm hid];have hl:=λX N=>agP b hb X N 10 0 a rfl ha
 have c0:((0:Nat):Int)=0:=rfl;simp only[c0]at hl;simp only[nD]at hr⊢;obtain⟨f1,f2,f3,-⟩:=hf;generalize cw id=es at *;generalize dF id=rs at *;generalize bM id=pl at *;simp(maxSteps:=300000) (disch:=omega)[↓ac,↓aa,hr,hl];refine jP (λ_ _=>rfl) (λm n hp=>?_) λ_=>rfl
 have hp2:2 ^ m<=2 ^ 9:=aw o_ hp.1;have e1:(m:Int)+1-1=m:=o_;have hs1:=Ud (m:=m) o_;have hp1:=hp.1;have hpos:0<2 ^ m:=bV m;have c1:((1:Nat):Int)=1:=rfl;have c2:((2:Nat):Int)=2:=rfl;generalize hP:2 ^ m=P at *;have fin:∀(x:Nat) (n:Nat) (i1 p:Int),x<=100000->tj (wB [.tmp 6,.tmp 7,.tmp 8] ((Dn prog).code (ED) ⟨[(3,.ptr 0 0),(7,A_ n),(13,A_ x)],⟨[(0,.cells [A_ i1,A_ p,.d (.lst (cX es)),.d (.lst (cX rs))])],1⟩⟩)) =
   if es.length<=x then some (.tup [A_ 0,A_ 0,A_ 8]) else some (.tup [A_ ((nth es x:Nat):Int),A_ n,A_ 0]):=λx n i1 p hx=>by
  by_cases hr:es.length<=x
  .rw[ac hr];simp(maxSteps:=300000) (disch:=omega)[↓ac]
  .rw[aa hr];simp(maxSteps:=300000) (disch:=omega)[↓aa]
 have hpl:pl=0∨pl=1∨pl=2:=o_;obtain⟨T,ht⟩:∃T,T=ED:=⟨_,rfl⟩
 rw[<-ht]at fin;unfold ED at ht;rw[<-ht];rcases hpl with rfl|rfl|rfl
 all_goals
  simp(maxSteps:=300000) (disch:=omega)[↓ac,↓aa,gL,e1,-sq,hs1];refine jP (λ_ _=>rfl) (λhi n hp=>?_) λ_=>rfl
  refine jP (λ_ _=>rfl) (λlo n hq=>?_) λ_=>rfl
  have h1:hi<P:=hP▸hp.1;have h2:lo<4:=ba hq.1 k_;simp(maxSteps:=300000) (disch:=omega)[-sq,ayv,az9,ayV]
 .have e3:((P+hi-1+lo:Nat):Int)=P+hi-1+lo:=o_;rw[<-e3,fin _ n id 0 o_]
 .have e3:(((P+hi-1)*2+lo:Nat):Int)=(P+hi-1)*2+lo:=o_;rw[<-e3,fin _ n id 1 o_]
 .have e3:(((P+hi-1)*4+lo:Nat):Int)=(P+hi-1)*4+lo:=o_;rw[<-e3,fin _ n id 2 o_]
abbrev cm:=@List.singleton_append
def lK:∀id∈ids,1<=d8 id∧d8 id<=4∧1<=cH id∧cH id<=121∧-60<=dj id∧dj id<=0∧bm id<=300:=e_
def adu (dim low pl:Int)(w:Nat)(hw:w<=1000)(hl:-1000<=low∧low<=1000):bi prog tw [.agg [A_ dim,A_ low,A_ (low+w-1),A_ pl]]=some (A_ w):=by
 rw[aH Xs Xy rfl];have e:low+(w:Int)-1-low+1=w:=o_;simp(disch:=omega)[e]
def td (e w:Nat):(e:Int).tdiv w=((e / w:Nat):Int):=rfl
def tm (e w:Nat):(e:Int).tmod w=((e % w:Nat):Int):=rfl
def avu {j:Nat}{x:Int}{suf:G_}:(List.replicate (j+1) (0:Int)++suf).set j x=List.replicate j 0++x::suf:=by
 rw[List.replicate_succ',ax,nt _ _ s_];simp
def abE (low:Int)(w pl dim:Nat)(hw:1<=w∧w<=1000)(hl:-1000<=low∧low<=1000):∀(j e:Nat) (suf:G_),j+suf.length=dim->dim<=10->e<=100000->
  (Dn prog).code (.loop mp) ⟨[(1,A_ e),(2,.ptr 0 0),(5,.sl 1 0 dim),(6,A_ (j-1))],⟨[(0,.cells [A_ dim,A_ low,A_ (low+w-1),A_ pl]),(1,.arr 1 (aF (List.replicate j 0++suf)))],2⟩⟩ =
   some (.exit 0,⟨[(5,.sl 1 0 dim)],⟨[(1,.arr 1 (aF (lJ low w j e++suf)))],2⟩⟩):=by
 intro j
 induction j with
 |zero =>
  intro e suf h1 h2 h3;rw[ah Bb];simp(disch:=omega)[↓aa,lJ]
 |succ j ih =>
  intro e suf h1 h2 h3;have hm:e % w<w:=eC _ o_;have hd:e / w<=e:=kW _ _;have h:=ih (e / w) ((((e % w:Nat):Int)+low)::suf) g_ h2 o_;rw[lJ,ax,cm,<-h,<-avu,ah Bb];have hk:=adu dim low pl w o_ hl;have e1:((j+1:Nat):Int)-1=j:=o_;have hg:(aF (List.replicate (j+1) 0++suf))[j]?=some [.int .i64 (nth (List.replicate (j+1) 0++suf) j)]:=JC g_;simp only[e1];have td:=td e w;have tm:=tm e w;generalize hL:List.replicate (j+1) (0:Int)++suf=L at *;generalize e / w=q at *;generalize e % w=r at *;clear ih h;simp(maxSteps:=300000) (disch:=omega)[↓ac,hk,td,tm,hg]
def WO (id e:Nat)(h:ju id)(he:e<=100000):bi prog Fu [Vp id,A_ e]=some (.own true 1 (aF (mt id e))):=by
 obtain⟨k1,k2,k3,k4,k5,k6,k7⟩:=lK id (fR h);have hl:=abE (dj id) (cH id) (bM id) (d8 id) o_ o_ (d8 id) e [] s_ o_ he;rw[aH R4 R7 rfl];simp only[Vp,mt,bh]at hl⊢;have hr:aF (List.replicate (d8 id) 0)=List.replicate (d8 id) [D.int .i64 0]:=by simp[aF]
 rw[hr]at hl;have hv:(lJ (dj id) (cH id) (d8 id) e).length=d8 id:=by
  have:∀(d e:Nat),(lJ (dj id) (cH id) d e).length=d:=by
   intro d
   induction d with
   |zero=>intro e;rfl
   |succ d ih=>intro e;simp[lJ,ih]
  exact this _ _
 generalize dj id=low at *;generalize cH id=w at *;generalize d8 id=dim at *;generalize bM id=pl at *;generalize lJ low w dim e=V at *;simp(maxSteps:=300000) (disch:=omega)[hl,D7];exact⟨o_,by rw[cx o_]⟩
def VS (id e:Nat)(h:ju id)(he:e<bm id):bi prog PR [A_ id,A_ e]=some (.tup [.own true 1 (aF (mt id e)),A_ 0]):=by
 obtain⟨k1,k2,k3,k4,k5,k6,k7⟩:=lK id (fR h);have h1:=N1 id (fR h);have h2:=HF id (fR h);have h3:=WO id e h o_;rw[aH aem aez rfl];simp only[Vp]at h1 h2 h3;generalize dj id=low at *;generalize cH id=w at *;generalize d8 id=dim at *;generalize bM id=pl at *;generalize bm id=mn at *;generalize mt id e=V at *;simp(maxSteps:=300000) (disch:=omega)[h1,h2,h3,↓aa]
def rN (b:C_)(st:RS)(s:Int):RS:=if st.e=0 then (if eO b st.a s=0 then ⟨nO b st.a s,0⟩ else ⟨st.a,eO b st.a s⟩) else st
theorem Rk {b:C_}{st:RS}{s:Int}(hb:b.length<=1000000000)(h:st.fit):(rN b st s).fit:=by
 unfold rN;have:=anP (b:=b) (a:=st.a) (s:=s);have h2:i64 st.a:=h;split
 .split
  .show i64 _;simp only[];omega
  .exact h
 .exact h
abbrev rdC (b:C_)(st:RS):Obj:=.cells [.d (.lst (ai b)),A_ (ra st),A_ (re st)]
abbrev h4 (b:C_)(X0 X1 X3:Obj)(st:RS):am:=[(0,X0),(1,X1),(2,rdC b st),(3,X3)]
def NQ (b:C_)(hb:b.length<=1000000000)(X0 X1 X3:Obj)(N:Nat)(st:RS)(s:Int)(hf:st.fit):(Dn prog).call yH [.ptr 2 0,A_ s] ⟨h4 b X0 X1 X3 st,N⟩ =
  some (A_ (sV b st s),⟨h4 b X0 X1 X3 (rN b st s),N⟩):=by
 rw[aZ UI UN rfl];obtain⟨a,e⟩:=st;have hf:i64 a:=hf;by_cases he:e=0
 .subst he;by_cases h2:eO b a s=0
  .simp(config := { maxSteps:=1000000 }) (disch:=omega)[Ke,ra,re,sV,rN,h2]
  .simp(config := { maxSteps:=1000000 }) (disch:=omega)[Ke,ra,re,sV,rN,h2]
 .simp(config := { maxSteps:=1000000 }) (disch:=omega)[ra,re,sV,rN,he]
def i9 (b:C_):Nat->Nat->RS->Nat×RS
 |0,m,st=>(m,st)
 |f+1,m,st=>if sV b st 1=1∧re (rN b st 1)=0 then i9 b f (m+1) (if 8<m+1 then ⟨ra (rN b st 1),8⟩ else rN b st 1) else (m,rN b st 1)
def Uy (b:C_)(hb:b.length<=1000000000)(X0 X1 X3:Obj)(N:Nat):∀(f m:Nat) (st:RS),f+m=10->m<=9->st.fit->(m=9->st.e≠0)->
  (Dn prog).code (.loop j5) ⟨[(0,.ptr 2 0),(3,A_ m)],⟨h4 b X0 X1 X3 st,N⟩⟩ =
  some (.exit 0,⟨[(0,.ptr 2 0),(3,A_ ((i9 b f m st).1))],⟨h4 b X0 X1 X3 (i9 b f m st).2,N⟩⟩):=by
 intro f
 induction f with
 |zero=>intro m st h1 h0 h2 h3;omega
 |succ f ih =>
  intro m st h1 h0 h2 h3;rw[ah Iz,i9];have hg:=NQ b hb X0 X1 X3 N st 1 h2;have hf:=Rk (s:=1) hb h2;simp only[h4]at hg;by_cases hc:sV b st 1=1∧re (rN b st 1)=0
  .rw[ac hc];have he:st.e=0:=by
    have:=hc.1;unfold sV at this;by_cases h:st.e=0
    .exact h
    .rw[aa h]at this;omega
   have hm:m≠9:=λh=>h3 h he
   by_cases h8:8<m+1
   .rw[ac h8];have ih:=ih (m+1) ⟨ra (rN b st 1),8⟩ o_ o_ hf (λ_=>by simp);simp only[h4,show ra (⟨ra (rN b st 1),8⟩:RS)=ra (rN b st 1) from rfl,show re (⟨ra (rN b st 1),8⟩:RS)=8 from rfl]at ih⊢;rw[<-ih];simp(maxSteps:=300000) (disch:=omega)[hg,hc.1,hc.2,↓ac,↓aa];rfl
   .rw[aa h8];have ih:=ih (m+1) (rN b st 1) o_ o_ hf (λh=>by omega);simp only[h4]at ih⊢;rw[<-ih];simp(maxSteps:=300000) (disch:=omega)[hg,hc.1,hc.2,↓ac,↓aa]
  .rw[aa hc];by_cases h1:sV b st 1=1
   .have h2:¬re (rN b st 1)=0:=λh=>hc ⟨h1,h⟩
    simp(maxSteps:=300000) (disch:=omega)[hg,h1,h2,↓ac,↓aa]
   .simp(maxSteps:=300000) (disch:=omega)[hg,h1,↓ac,↓aa]
def Xx {b:C_}:∀{f m:Nat}{st:RS},(i9 b f m st).1<=m+f
 |0,m,st=>by simp[i9]
 |f+1,m,st=>by
  rw[i9];split
  .have:=Xx (b:=b) (f:=f) (m:=m+1) (st:=if 8<m+1 then ⟨ra (rN b st 1),8⟩ else rN b st 1);omega
  .simp only[];omega
def So {b:C_}(hb:b.length<=1000000000):∀{f m:Nat}{st:RS},st.fit->(i9 b f m st).2.fit
 |0,m,st,h=>by simpa [i9] using h
 |f+1,m,st,h=>by
  have hr:=Rk (s:=1) hb h;rw[i9];split
  .refine So hb ?_;split
   .exact hr
   .exact hr
  .exact hr
def Rc (b:C_)(st:RS):Nat:=2 ^ ((i9 b 10 0 st).1+4)+sV b (i9 b 10 0 st).2 (((i9 b 10 0 st).1+4:Nat):Int)
def GY (b:C_)(st:RS):RS:=rN b (i9 b 10 0 st).2 (((i9 b 10 0 st).1+4:Nat):Int)
def ash {b:C_}{st:RS}(hb:b.length<=1000000000)(h:st.fit):(GY b st).fit:=Rk hb (So hb h)
def ak0 {b:C_}{st:RS}:Rc b st<32768:=by
 unfold Rc;have h1:=Xx (b:=b) (f:=10) (m:=0) (st:=st);have h2:=vP (b:=b) (st:=(i9 b 10 0 st).2) (s:=(((i9 b 10 0 st).1+4:Nat):Int));rw[au]at h2;have h3:2 ^ ((i9 b 10 0 st).1+4)<=2 ^ 14:=aw o_ o_;omega
def aaV (b:C_)(hb:b.length<=1000000000)(X0 X1 X3:Obj)(N:Nat)(st:RS)(hf:st.fit):(Dn prog).call A9 [.ptr 2 0] ⟨h4 b X0 X1 X3 st,N⟩ =
  some (A_ (Rc b st),⟨h4 b X0 X1 X3 (GY b st),N⟩):=by
 rw[aZ Nw MH rfl];have hl:=Uy b hb X0 X1 X3 N 10 0 st rfl o_ hf o_;have hv:=ak0 (b:=b) (st:=st);have h1:=Xx (b:=b) (f:=10) (m:=0) (st:=st);have hf2:=So (f:=10) (m:=0) hb hf;unfold Rc GY at *;generalize i9 b 10 0 st=p at *;obtain⟨m,s2⟩:=p;simp only at hl hv h1 hf2⊢;have hg:=NQ b hb X0 X1 X3 N s2 ((m+4:Nat):Int) hf2;have c0:((0:Nat):Int)=0:=rfl;have hs:=Ud (m:=m+4) o_;have c1:((m+4:Nat):Int)=(m:Int)+4:=o_;simp only[c0,h4,c1]at hl hg hs;have hpos:0<2 ^ (m+4):=bV _;have c2:((2 ^ (m+4)+sV b s2 ((m:Int)+4):Nat):Int)=((2 ^ (m+4):Nat):Int)+sV b s2 ((m:Int)+4):=o_;simp only[h4,c1,c2];rw[c1]at hv;generalize 2 ^ (m+4)=P at *;simp(maxSteps:=300000) (disch:=omega)[hl,hg,hs,-sq]
def Bl (b:C_):G_->RS->C_
 |[],_=>[]
 |v::r,st=>if v=0 then 0::Bl b r st else sV b st 1::Bl b r (rN b st 1)
def vQ (b:C_):G_->RS->RS
 |[],st=>st
 |v::r,st=>if v=0 then vQ b r st else vQ b r (rN b st 1)
def sg (s:Nat)(v:Int):Int:=if s=1 then -v else v
def Ip (b:C_)(id:Nat):G_->C_->RS->G_
 |v::r,s::ss,st=>if id=11∧v=16 then sg s (Rc b st)::Ip b id r ss (GY b st) else sg s v::Ip b id r ss st
 |_,_,_=>[]
def zi (b:C_)(id:Nat):G_->C_->RS->RS
 |v::r,_::ss,st=>if id=11∧v=16 then zi b id r ss (GY b st) else zi b id r ss st
 |_,_,st=>st
def Tx {α:Type}{a r:List α}{x y:α}:(a++x::r).set a.length y=a++y::r:=by
 rw[nt _ _ o_];simp
def at4 {a r:C_}{x:Nat}:nth (a++x::r) a.length=x:=by simp[nth]
def W5 {a r:G_}{x:Int}:nth (a++x::r) a.length=x:=by simp[nth]
def ajU (b:C_)(hb:b.length<=1000000000)(X0:Obj)(N:Nat)(vals:G_)(hl:vals.length<=100):∀(vs:G_) (pre:G_) (sgn:C_) (st:RS),vals=pre++vs->sgn.length=pre.length->st.fit->
  (Dn prog).code (.loop uG) ⟨[(5,.ptr 0 0),(6,.sl 1 0 vals.length),(10,.ptr 2 0),(11,.sl 3 0 vals.length),(51,.sl 1 0 vals.length),(52,A_ vals.length),(53,A_ pre.length)],⟨h4 b X0 (.arr 1 (aF vals)) (.arr 1 (cX (sgn++List.replicate vs.length 0))) st,N⟩⟩ =
  some (.exit 0,⟨[(5,.ptr 0 0),(6,.sl 1 0 vals.length),(10,.ptr 2 0),(11,.sl 3 0 vals.length)],⟨h4 b X0 (.arr 1 (aF vals)) (.arr 1 (cX (sgn++Bl b vs st))) (vQ b vs st),N⟩⟩):=by
 intro vs
 induction vs with
 |nil =>
  intro pre sgn st h1 h2 h3;rw[bh]at h1;subst h1;rw[ah Qw];simp(maxSteps:=300000) (disch:=omega)[↓aa,Bl,vQ]
 |cons v vs ih =>
  intro pre sgn st h1 h2 h3;have hlen:vals.length=pre.length+(vs.length+1):=by rw[h1];simp
  have hgv:nth vals pre.length=v:=by rw[h1];exact W5
  have hgi:(aF vals)[pre.length]?=some [.int .i64 v]:=by rw[JC o_,hgv]
  have hg:=λX1 X3=>NQ b hb X0 X1 X3 N st 1 h3
  rw[ah Qw,ar,cJ];have hsl:(cX (sgn++0::List.replicate vs.length 0))[pre.length]?=some [.int .i64 0]:=by
   rw[Eq g_,<-h2,at4];rfl
  simp only[h4]at hg⊢;by_cases hv:v=0
  .subst hv;have ih:=ih (pre++[0]) (sgn++[0]) st (by rw[h1];simp) (by simp[h2]) h3;simp only[h4]at ih;simp only[Bl,vQ,bn];simp(maxSteps:=300000) (disch:=omega)[↓ac,↓aa,hgi];simp at ih;exact ih
  .have ih:=ih (pre++[v]) (sgn++[sV b st 1]) (rN b st 1) (by rw[h1];simp) (by simp[h2]) (Rk hb h3);simp only[h4]at ih;simp only[Bl,vQ,aa hv];simp(maxSteps:=300000) (disch:=omega)[↓ac,↓aa,hgi,hv,hg,hsl];simp at ih;exact ih
def aj0 (b:C_)(hb:b.length<=1000000000)(id:Nat)(pl:Int)(x2 x3:AV)(N len:Nat)(hlen:len<=100)(sgn:C_)(hsg:sgn.length=len):∀(vs:G_) (done:G_) (st:RS),done.length+vs.length=len->(∀v∈vs,0<=v∧v<=130)->st.fit->
  (Dn prog).code (.loop uq) ⟨[(5,.ptr 0 0),(6,.sl 1 0 len),(10,.ptr 2 0),(11,.sl 3 0 len),(66,.sl 1 0 len),(67,A_ len),(68,A_ done.length)],⟨h4 b (.cells [A_ id,A_ pl,x2,x3]) (.arr 1 (aF (done++vs))) (.arr 1 (cX sgn)) st,N⟩⟩ =
  some (.exit 2,⟨[(6,.sl 1 0 len),(10,.ptr 2 0)],⟨[(1,.arr 1 (aF (done++Ip b id vs (sgn.drop done.length) st))),(2,rdC b (zi b id vs (sgn.drop done.length) st)),(3,.arr 1 (cX sgn))],N⟩⟩):=by
 intro vs
 induction vs with
 |nil =>
  intro done st h1 h2 h3;rw[ah QI];have:done.length=len:=by simpa using h1
  simp(maxSteps:=300000) (disch:=omega)[↓aa,Ip,zi]
 |cons v vs ih =>
  intro done st h1 h2 h3;have hv:=h2 v s_;have h1:done.length+(vs.length+1)=len:=by simpa using h1
  have hgi:(aF (done++v::vs))[done.length]?=some [.int .i64 v]:=by rw[JC s_,W5]
  have hgs:(cX sgn)[done.length]?=some [.int .i64 (nth sgn done.length:Nat)]:=Eq o_;have hset:∀x:Int,(aF (done++v::vs)).set done.length [.int .i64 x]=aF (done++x::vs):=λx=>by rw[ags,Tx]
  have hset2:∀y x:Int,(aF (done++y::vs)).set done.length [.int .i64 x]=aF (done++x::vs):=λy x=>by rw[ags,Tx]
  have hgi2:∀x:Int,(aF (done++x::vs))[done.length]?=some [.int .i64 x]:=λx=>by rw[JC s_,W5]
  have hE:=λX1 X3=>aaV b hb (.cells [A_ id,A_ pl,x2,x3]) X1 X3 N st h3
  have hel:=ak0 (b:=b) (st:=st);rw[ah QI,qr o_,Ip,zi];simp only[h4]at hE⊢;by_cases hid:id=11∧v=16
  .obtain⟨rfl,rfl⟩:=hid;rw[ac ⟨rfl,rfl⟩,ac ⟨rfl,rfl⟩];have ih:=ih (done++[sg (nth sgn done.length) (Rc b st)]) (GY b st) g_ (λx hx=>h2 x (by simp[hx])) (ash hb h3);simp only[h4]at ih;simp at ih;have c11:((11:Nat):Int)=11:=rfl;simp only[c11]at hE;by_cases hs:nth sgn done.length=1
   .simp only[sg,ac hs]at ih⊢;simp(maxSteps:=300000) (disch:=omega)[↓ac,↓aa,hgi,hE,hset,hgs,hgi2,hset2,hs];exact ih
   .simp only[sg,aa hs]at ih⊢;simp(maxSteps:=300000) (disch:=omega)[↓ac,↓aa,hgi,hE,hset,hgs,hgi2,hset2,hs];exact ih
  .rw[aa hid,aa hid];have ih:=ih (done++[sg (nth sgn done.length) v]) st g_ (λx hx=>h2 x (by simp[hx])) h3;simp only[h4]at ih;simp at ih;by_cases hi:id=11
   .subst hi;have c11:((11:Nat):Int)=11:=rfl;have hv2:v≠16:=λh=>hid ⟨rfl,h⟩
    by_cases hs:nth sgn done.length=1
    .simp only[sg,ac hs]at ih⊢;simp(maxSteps:=300000) (disch:=omega)[↓ac,↓aa,hgi,hset,hgs,hgi2,hset2,hs,hv2];exact ih
    .simp only[sg,aa hs]at ih⊢;simp(maxSteps:=300000) (disch:=omega)[↓ac,↓aa,hgi,hset,hgs,hgi2,hset2,hs,hv2];exact ih
   .by_cases hs:nth sgn done.length=1
    .simp only[sg,ac hs]at ih⊢;simp(maxSteps:=300000) (disch:=omega)[↓ac,↓aa,hgi,hset,hgs,hgi2,hset2,hs];exact ih
    .simp only[sg,aa hs]at ih⊢;simp(maxSteps:=300000) (disch:=omega)[↓ac,↓aa,hgi,hset,hgs,hgi2,hset2,hs];exact ih
def km (b:C_):G_->Nat->R C_
 |[],a=>.ok [] a
 |v::r,a=>if v=0 then (km b r a).bind λl n=>.ok (0::l) n else (bb b a 1).bind λs n=>(km b r n).bind λl n=>.ok (s::l) n
def xx (b:C_):Nat->Nat->Nat->R Nat
 |0,_,_=>.er 7
 |f+1,m,a=>(bb b a 1).bind λv n=>if v=1 then xx b f (m+1) n else .ok m n
def PH (b:C_)(a:Nat):R Nat:=(xx b 9 0 a).bind λm n=>(bb b n ((m+4:Nat):Int)).bind λx n=>.ok (2 ^ (m+4)+x) n
def ml (b:C_)(id:Nat):G_->C_->Nat->R G_
 |v::r,s::ss,a=>if id=11∧v=16 then (PH b a).bind λx n=>(ml b id r ss n).bind λl n=>.ok (sg s x::l) n else (ml b id r ss a).bind λl n=>.ok (sg s v::l) n
 |_,_,a=>.ok [] a
def Fa (id:Nat)(b:C_)(a:Int):R G_ :=
 (zC id b a).bind λe n=>if kx id then .ok (mt id e) n else (km b (mt id e) n).bind λss n=>ml b id (mt id e) ss n
def Tk {b:C_}{a s:Int}{v n:Nat}(h:bb b a s=.ok v n):sV b ⟨a,0⟩ s=v∧rN b ⟨a,0⟩ s=⟨n,0⟩:=by
 constructor<;>simp[sV,rN,vO,nO,eO,h]
def afl {b:C_}{a s:Int}{e:Nat}(h:bb b a s=.er e):sV b ⟨a,0⟩ s=0∧rN b ⟨a,0⟩ s=⟨a,e+1⟩:=by
 constructor<;>simp[sV,rN,vO,nO,eO,h]
def ahV {b:C_}{a s:Int}{e:Nat}:sV b ⟨a,e+1⟩ s=0∧rN b ⟨a,e+1⟩ s=⟨a,e+1⟩:=by
 constructor<;>simp[sV,rN]
def ak2 {b:C_}{a:Int}{e:Nat}{f m:Nat}:i9 b f m ⟨a,e+1⟩=(m,⟨a,e+1⟩):=by
 cases f with
 |zero=>rfl
 |succ f=>rw[i9,ahV.1,ahV.2,aa s_]
def azb {b:C_}{a:Int}{e:Nat}:GY b ⟨a,e+1⟩=⟨a,e+1⟩:=by
 rw[GY,ak2,ahV.2]
def anM {b:C_}{a:Int}{e:Nat}:∀{vs:G_},vQ b vs ⟨a,e+1⟩=⟨a,e+1⟩
 |[]=>rfl
 |v::r=>by
  rw[vQ];split
  .exact anM
  .rw[ahV.2];exact anM
theorem afz {b:C_}{id:Nat}{a:Int}{e:Nat}:∀{vs:G_}{ss:C_},zi b id vs ss ⟨a,e+1⟩=⟨a,e+1⟩
 |[],_=>by simp[zi]
 |_::_,[]=>by simp[zi]
 |v::r,s::ss=>by
  rw[zi];split
  .rw[azb];exact afz
  .exact afz
def asb {b:C_}:∀{vs:G_}{a:Nat},match km b vs a with
  |.ok l n=>Bl b vs ⟨a,0⟩=l∧vQ b vs ⟨a,0⟩=⟨n,0⟩
  |.er e=>(vQ b vs ⟨a,0⟩).e=e+1
 |[],a=>⟨rfl,rfl⟩
 |v::r,a=>by
  simp only[km,Bl,vQ];by_cases hv:v=0
  .simp only[ac hv];have ih:=asb (b:=b) (vs:=r) (a:=a)
   cases h:km b r a with
   |ok l n=>rw[h]at ih;exact⟨by rw[ih.1],ih.2⟩
   |er e=>rw[h]at ih;exact ih
  .simp only[aa hv]
   cases h1:bb b a 1 with
   |ok s n =>
    rw[(Tk h1).1,(Tk h1).2,aI];have ih:=asb (b:=b) (vs:=r) (a:=n)
    cases h:km b r n with
    |ok l n=>rw[h]at ih;exact⟨by rw[ih.1],ih.2⟩
    |er e=>rw[h]at ih;exact ih
   |er e=>rw[(afl h1).2,cB];simp only[anM]
def aqH {b:C_}:∀{f m a:Nat},f+1+m=9->match xx b (f+1) m a with
  |.ok k n=>i9 b (f+2) m ⟨a,0⟩=(k,⟨n,0⟩)
  |.er e=>(i9 b (f+2) m ⟨a,0⟩).2.e=e+1
 |f,m,a,hm=>by
  rw[xx,i9]
  cases h1:bb b a 1 with
  |er e=>rw[(afl h1).1,(afl h1).2,cB,aa s_]
  |ok v n =>
   rw[(Tk h1).1,(Tk h1).2,aI];by_cases hv:v=1
   .subst hv;rw[ac rfl,ac ⟨rfl,rfl⟩]
    cases f with
    |zero =>
     rw[ac o_,xx];show(i9 b 1 (m+1) ⟨ra ⟨n,0⟩,7+1⟩).2.e=7+1;rw[ak2]
    |succ f =>
     rw[aa o_];exact aqH (by omega)
   .rw[aa hv,aa (λh=>hv h.1)]
def aA9 {b:C_}{a:Nat}:match PH b a with
  |.ok v n=>Rc b ⟨a,0⟩=v∧GY b ⟨a,0⟩=⟨n,0⟩
  |.er e=>(GY b ⟨a,0⟩).e=e+1:=by
 rw[PH,Rc,GY];have h:=aqH (b:=b) (f:=8) (m:=0) (a:=a) rfl
 cases h1:xx b 9 0 a with
 |er e =>
  rw[h1]at h;generalize i9 b 10 0 ⟨a,0⟩=p at *;obtain⟨m,x,y⟩:=p;simp only at h;subst h;simp only[ahV,cB]
 |ok k n =>
  rw[h1]at h;rw[aI,h]
  cases h2:bb b n ((k+4:Nat):Int) with
  |er e=>simp only[(afl h2).2,cB]
  |ok v m=>simp only[(Tk h2).1,(Tk h2).2,aI];exact⟨trivial,trivial⟩
def atr {b:C_}{id:Nat}:∀{vs:G_}{ss:C_}{a:Nat},match ml b id vs ss a with
  |.ok l n=>Ip b id vs ss ⟨a,0⟩=l∧zi b id vs ss ⟨a,0⟩=⟨n,0⟩
  |.er e=>(zi b id vs ss ⟨a,0⟩).e=e+1
 |[],ss,a=>by simp[ml,Ip,zi]
 |v::r,[],a=>by simp[ml,Ip,zi]
 |v::r,s::ss,a=>by
  rw[ml,Ip,zi];by_cases hc:id=11∧v=16
  .simp only[ac hc];have h:=aA9 (b:=b) (a:=a)
   cases h1:PH b a with
   |er e =>
    rw[h1]at h;generalize GY b ⟨a,0⟩=p at *;obtain⟨x,y⟩:=p;simp only at h;subst h;simp only[afz,cB]
   |ok x n =>
    rw[h1]at h;rw[h.1,h.2,aI];have ih:=atr (b:=b) (id:=id) (vs:=r) (ss:=ss) (a:=n)
    cases h2:ml b id r ss n with
    |ok l n=>rw[h2]at ih;exact⟨by rw[ih.1],ih.2⟩
    |er e=>rw[h2]at ih;exact ih
  .simp only[aa hc];have ih:=atr (b:=b) (id:=id) (vs:=r) (ss:=ss) (a:=a)
   cases h2:ml b id r ss a with
   |ok l n=>rw[h2]at ih;exact⟨by rw[ih.1],ih.2⟩
   |er e=>rw[h2]at ih;exact ih
abbrev I4:VC:=(.seq Gf (.seq Eo (.seq (.seq EY (.block 0 (.seq (.loop uG) (K [51,52,53])))) (.seq (.seq Es (.block 2 (.seq (.loop uq) (.seq (K [11,66,67,68]) (F 5))))) (.seq (.seq Et (.cond (.m 103) (.seq (K [6]) (.seq xG .ret)) .skip)) (.seq xX .ret))))))
def adO {low:Int}{w:Nat}:∀{d e:Nat},(lJ low w d e).length=d
 |0,_=>rfl
 |d+1,e=>by simp[lJ,adO]
def JJ {low:Int}{w:Nat}(hw:1<=w):∀{d e:Nat},∀x∈lJ low w d e,low<=x∧x<low+w
 |0,_,x,h=>by simp[lJ]at h
 |d+1,e,x,h=>by
  rw[lJ,bF]at h;have:=eC e (show w > 0 by omega);rcases h with h|h
  .exact JJ hw x h
  grind
theorem Fz {id e:Nat}:(mt id e).length=d8 id:=adO
def agF:∀id∈ids,kx id=false->dj id=0:=e_
def anj (b:C_)(hb:b.length<=1000000000)(id:Nat)(pl:Int)(x2 x3:AV)(vals:G_)(hl:1<=vals.length∧vals.length<=100)(hv:∀v∈vals,0<=v∧v<=130)(n:Nat)(hn:n<=b.length)(hx2:bq x2=true) :
  tj (wB [.tmp 6,.tmp 7,.tmp 8] ((Dn prog).code I4 ⟨[(0,.d (.lst (ai b))),(5,.ptr 0 0),(6,.sl 1 0 vals.length),(7,A_ n)],⟨[(0,.cells [A_ id,A_ pl,x2,x3]),(1,.arr 1 (aF vals))],2⟩⟩)) =
  if re (zi b id vals (Bl b vals ⟨n,0⟩) (vQ b vals ⟨n,0⟩))=0 then some (.tup [.own true 1 (aF (Ip b id vals (Bl b vals ⟨n,0⟩) (vQ b vals ⟨n,0⟩))),A_ ((ra (zi b id vals (Bl b vals ⟨n,0⟩) (vQ b vals ⟨n,0⟩)))),A_ 0])
  else some (.tup [.nl,A_ 0,A_ ((re (zi b id vals (Bl b vals ⟨n,0⟩) (vQ b vals ⟨n,0⟩))))]):=by
 have hf:RS.fit ⟨n,0⟩:=by show i64 _;grind
 have sgl:∀(vs:G_) (st:RS),(Bl b vs st).length=vs.length:=by
  intro vs
  induction vs<;>grind [Bl]
 have sgf:∀(vs:G_) (st:RS),st.fit->(vQ b vs st).fit:=by
  intro vs
  induction vs<;>grind [vQ,Rk]
 have l0:=λX0=>ajU b hb X0 4 vals hl.2 vals [] [] ⟨n,0⟩ s_ rfl hf
 have l1:=aj0 b hb id pl x2 x3 4 vals.length hl.2 (Bl b vals ⟨n,0⟩) (sgl _ _) vals [] (vQ b vals ⟨n,0⟩) s_ hv (sgf _ _ hf);have vll:(Ip b id vals (Bl b vals ⟨n,0⟩) (vQ b vals ⟨n,0⟩)).length=vals.length:=by
  have:∀(vs:G_) (ss:C_) (st:RS),ss.length=vs.length->(Ip b id vs ss st).length=vs.length:=by
   intro vs
   induction vs with
   |nil=>grind [Ip]
   |cons v r ih =>
    intro ss st h
    cases ss<;>grind [Ip]
  simp_all
 have hz:cX (List.replicate vals.length 0)=List.replicate vals.length [.int .i64 0]:=by simp[cX]
 have c0:((0:Nat):Int)=0:=rfl;simp only[aK,bf,lU,h4,rdC,hz,c0,aCa,aBT]at l0 l1;simp(disch:=omega)[l0,l1,D7]
 grind
def ass {b:C_}{id:Nat}{vals:G_}{n:Nat}{γ:Type}{F:G_->Int->γ}{G:Nat->γ} :
  (if re (zi b id vals (Bl b vals ⟨n,0⟩) (vQ b vals ⟨n,0⟩))=0 then F (Ip b id vals (Bl b vals ⟨n,0⟩) (vQ b vals ⟨n,0⟩)) (ra (zi b id vals (Bl b vals ⟨n,0⟩) (vQ b vals ⟨n,0⟩)))
  else G (re (zi b id vals (Bl b vals ⟨n,0⟩) (vQ b vals ⟨n,0⟩))))=match (km b vals n).bind λss n=>ml b id vals ss n with
   |.ok l n=>F l n
   |.er e=>G (e+1):=by
 have h1:=asb (b:=b) (vs:=vals) (a:=n)
 cases h2:km b vals n with
 |er e =>
  generalize vQ b vals ⟨n,0⟩=p at *;obtain⟨x,y⟩:=p
  grind [afz,cB,re]
 |ok ss m =>
  rw[h2]at h1;rw[h1.1,h1.2,aI];have h3:=atr (b:=b) (id:=id) (vs:=vals) (ss:=ss) (a:=m)
  cases h4:ml b id vals ss m with
  |er e =>
   rw[h4]at h3;have h5:re (zi b id vals ss ⟨m,0⟩)=e+1:=h3
   simp_all
  |ok l k =>
   rw[h4]at h3;rw[h3.1,h3.2];rfl
abbrev pH (b:C_)(id:Nat)(l:G_)(n:Nat):Prop:=l.length=d8 id∧n<=b.length∧∀x∈l,-40000<=x∧x<=40000
def OH {b:C_}:∀{vs:G_}{a:Nat}{l:C_}{n:Nat},a<=b.length->km b vs a=.ok l n->l.length=vs.length∧n<=b.length
 |[],a,l,n,ha,h=>by
  grind [km]
 |v::r,a,l,n,ha,h=>by
  simp only[km]at h;by_cases hv:v=0
  .cases h1:km b r a with
   |er e=>simp_all
   |ok l2 n2 =>
    have ih:=OH ha h1
    grind [aI]
  .cases h0:bb b a 1 with
   |er e=>simp_all
   |ok s m =>
    cases h1:km b r m with
    |er e=>simp_all
    |ok l2 n2 =>
     have ih:=OH (ed h0).2 h1
     grind [aI]
def alk {b:C_}:∀{f m a k n:Nat},f+m=9->xx b f m a=.ok k n->k<=8∧n<=b.length
 |0,_,_,_,_,_,h=>absurd h (by simp[xx])
 |f+1,m,a,k,n,hf,h=>by
  rw[xx]at h
  cases h1:bb b a 1 with
  |er e=>simp_all
  |ok v a1 =>
   rw[h1,aI]at h;by_cases hv:v=1
   .rw[ac hv]at h;exact alk o_ h
   .rw[aa hv]at h;injection h with e1 e2
    subst e1 e2;exact⟨o_,(ed h1).2⟩
def azU {b:C_}{a v n:Nat}(h:PH b a=.ok v n):v<=30000∧n<=b.length:=by
 rw[PH]at h
 cases h1:xx b 9 0 a with
 |er e=>simp_all
 |ok m n1 =>
  have hp:=alk rfl h1;rw[h1,aI]at h
  cases h2:bb b n1 ((m+4:Nat):Int) with
  |er e=>simp_all
  |ok x n2 =>
   have hq:=ed h2;rw[h2,aI]at h;have h3:2 ^ (m+4)<=2 ^ 12:=aw o_ (by omega)
   grind
theorem Tj {b:C_}{id:Nat}:∀{vs:G_}{ss:C_}{a:Nat}{l:G_}{n:Nat},a<=b.length->ss.length=vs.length->(∀v∈vs,-100<=v∧v<=130)->ml b id vs ss a=.ok l n->l.length=vs.length∧n<=b.length∧∀x∈l,-40000<=x∧x<=40000
 |[],ss,a,l,n,ha,hs,hv,h=>by
  grind [ml]
 |v::r,[],a,l,n,ha,hs,hv,h=>by simp at hs
 |v::r,s::ss,a,l,n,ha,hs,hv,h=>by
  have hs2:ss.length=r.length:=u_;have hv2:∀v∈r,-100<=v∧v<=130:=λx hx=>hv x (by simp[hx])
  have hv1:=hv v s_;have hsg:∀y:Int,-40000<=y->y<=40000->-40000<=sg s y∧sg s y<=40000:=λy h1 h2=>by grind [sg]
  rw[ml]at h;by_cases hc:id=11∧v=16
  .rw[ac hc]at h
   cases h1:PH b a with
   |er e=>simp_all
   |ok x n1 =>
    have hp:=azU h1;rw[h1,aI]at h
    cases h2:ml b id r ss n1 with
    |er e=>simp_all
    |ok l2 n2 =>
     obtain⟨i1,i2,i3⟩:=Tj hp.2 hs2 hv2 h2
     grind [aI]
  .rw[aa hc]at h
   cases h2:ml b id r ss a with
   |er e=>simp_all
   |ok l2 n2 =>
    obtain⟨i1,i2,i3⟩:=Tj ha hs2 hv2 h2
    grind [aI]
def TK {id:Nat}{b:C_}{a:Int}{e n:Nat}(hid:ju id)(h:zC id b a=.ok e n):e<bm id∧n<=b.length:=by
 rw[zC]at h
 cases z1:mf b 10 0 a with
 |er e=>simp_all
 |ok m m1 =>
  rw[z1,aI]at h
  cases z2:bb b m1 m with
  |er e=>simp_all
  |ok hi m2 =>
   rw[z2,aI]at h
   cases z3:bb b m2 (bM id) with
   |er e=>simp_all
   |ok lo m3 =>
    rw[z3,aI]at h;by_cases hc:(cw id).length<=(2 ^ m+hi-1)*2 ^ bM id+lo
    .simp_all
    .rw[aa hc]at h;injection h with e1 e2
     subst e1 e2;exact⟨(Kl o_).2.2.2 _ (jM o_),(ed z3).2⟩
def av2 {id:Nat}{b:C_}{a:Int}{l:G_}{n:Nat}(hid:ju id)(h:Fa id b a=.ok l n):pH b id l n:=by
 obtain⟨k1,k2,k3,k4,k5,k6,k7⟩:=lK id (fR hid);rw[Fa]at h
 cases h1:zC id b a with
 |er e=>simp_all
 |ok e n1 =>
  have hp:=(TK hid h1).2;have hv:∀v∈mt id e,-100<=v∧v<=200:=λv hv=>by
   have:=JJ (low:=dj id) (w:=cH id) k3 (d:=d8 id) (e:=e) v hv;omega
  rw[h1,aI]at h;by_cases hs:kx id=true
  .grind [Fz]
  .rw[aa hs]at h
   cases h2:km b (mt id e) n1 with
   |er e=>simp_all
   |ok ss n2 =>
    have hq:=OH hp h2;rw[h2,aI]at h;have hv2:∀v∈mt id e,-100<=v∧v<=130:=λv hv=>by
     have:=JJ (low:=dj id) (w:=cH id) k3 (d:=d8 id) (e:=e) v hv;omega
    have:=Tj hq.2 hq.1 hv2 h
    grind [Fz]
def atM (id:Nat)(b:C_)(a:Int)(hb:b.length<=1000000000)(ha:i64 a)(hid:1<=id∧id<=11):bi prog xq [.d (.lst (ai b)),A_ a,nD id] =
  rK (pH b id) (Fa id b a) (λl n=>some (.tup [.own true 1 (aF l),A_ n,A_ 0])) (λe=>some (.tup [.nl,A_ 0,A_ (e+1)])):=by
 have hok:ju id:=⟨hid.1,o_⟩
 have hr:=acW id b a hb ha hok;have hsg:=RH id (by
  obtain⟨h1,h2⟩:=hid;simp only[ids,List.take,aC,cW,fk];omega)
 have hV:=λe he=>VS id e hok he
 obtain⟨k1,k2,k3,k4,k5,k6,k7⟩:=lK id (fR hok);have hus:=agF id (fR hok);rw[aH aoT aoo rfl];obtain⟨T,ht⟩:∃T,T=I4:=⟨_,rfl⟩
 have hT:=λpl x2 x3 vals hl hv n hn hx2=>anj b hb id pl x2 x3 vals hl hv n hn hx2
 rw[<-ht]at hT;unfold I4 at ht;rw[<-ht];simp only[nD]at hr⊢;rw[Fa,xw (q:=λe n=>e<bm id∧n<=b.length) (λe n h=>TK hok h)];have hbl:∀e,(mt id e).length=d8 id:=λe=>Fz
 have hbi:=λe=>JJ (low:=dj id) (w:=cH id) k3 (d:=d8 id) (e:=e)
 generalize hes:cw id=es at *;generalize hrs:dF id=rs at *;generalize hpl:bM id=pl at *;simp(maxSteps:=300000) (disch:=omega)[hr,↓ac,↓aa];refine jP (λ_ _=>rfl) (λe n hp=>?_) λ_=>rfl
 have hVe:=hV e hp.1;have hie:=hbi e;simp only[mt]at hVe hbl⊢;have hble:=hbl e;generalize lJ (dj id) (cH id) (d8 id) e=vals at *;by_cases hs:kx id=true
 .rw[ac hs,eI ⟨hble,hp.2,λx hx=>by grind⟩];simp(disch:=omega)[hVe,hsg,hs,↓ac,↓aa]
 .have hs2:kx id=false:=d_;have hT2:=hT pl (.d (.lst (cX es))) (.d (.lst (cX rs))) vals o_ (λv hv=>by grind) n hp.2 rfl;simp(disch:=omega)[hVe,hsg,hs2,↓ac];rw[hT2];refine(ass (γ:=M_) (F:=λl n=>some (.tup [.own true 1 (aF l),A_ n,A_ 0])) (G:=λe=>some (.tup [.nl,A_ 0,A_ e]))).trans ?_
  cases h1:km b vals n with
  |er e=>simp[rK]
  |ok ss m =>
   have hq:=OH hp.2 h1
   grind [aI,rK,Tj]
abbrev ft:=@Nat.mod_eq_of_lt
def IL (b:C_)(a:Int):R Int:=(zC 12 b a).bind λe n=>.ok ((e:Int)-60) n
abbrev pSt (b:C_)(d:Int)(n:Nat):Prop:=(-60<=d∧d<=60)∧n<=b.length
def axe {γ:Type}{b:C_}{a:Int}{F:Int->Nat->γ}{G:Nat->γ}:rK (pSt b) (IL b a) F G=rK (λe n=>e<bm 12∧n<=b.length) (zC 12 b a) (λe n=>F ((e:Int)-60) n) G:=by
 rw[IL,xw (q:=λe n=>e<bm 12∧n<=b.length) (λe n h=>TK o_ h)];refine jP (λ_ _=>rfl) (λe n hp=>?_) λ_=>rfl
 have h1:e<121:=hp.1;rw[eI ⟨o_,hp.2⟩]
def afG (b:C_)(a:Int)(hb:b.length<=1000000000)(ha:i64 a):bi prog MI [.d (.lst (ai b)),A_ a] =
  rK (pSt b) (IL b a) (λd n=>some (.tup [A_ d,A_ n,A_ 0])) (λe=>some (.tup [A_ 0,A_ 0,A_ (e+1)])):=by
 have hok:ju 12:=o_;have hr:=acW 12 b a hb ha hok;have hg:=WH 12 hok;have hV:=λe he=>VS 12 e hok he
 have c12:((12:Nat):Int)=12:=rfl;rw[aH abL acg rfl,axe];simp only[nD,ZU,c12]at hr hg hV⊢;generalize hes:cw 12=es at *;generalize hrs:dF 12=rs at *;generalize hpl:bM 12=pl at *;simp(maxSteps:=300000) (disch:=omega)[hr,hg,↓ac,↓aa];refine jP (λ_ _=>rfl) (λe n hp=>?_) λ_=>rfl
 have h1:e<121:=hp.1;have hv:aF (mt 12 e)=[[.int .i64 ((e:Int)-60)]]:=by
  show aF [((e % 121:Nat):Int)+-60]=_;rw[ft h1];rfl
 have hVe:=hV e hp.1;rw[hv]at hVe;simp(maxSteps:=300000) (disch:=omega)[hVe]
structure H2 (hp:Int->Int->am)(A:Nat):Prop where
 get:∀s z,get (hp s z) A=some (.cells [A_ s,A_ z])
 put:∀s z s' z',put (hp s z) A (.cells [A_ s',A_ z'])=hp s' z'
abbrev lI (book n s z:Int):Prop:=if book=13 then (0<=n∧n<=511)∧(z<0∨(z-60<=n∧n<=z+60)) else (0<=n∧n<=255)∧(s-60<=n∧n<=s+60)
def PA {hp:Int->Int->am}{A:Nat}(H:H2 hp A)(book n s z:Int)(N:Nat)(hn:-100000<=n∧n<=100000)(hs:-100000<=s∧s<=100000)(hz:-100000<=z∧z<=100000) :
  (Dn prog).call pF [.ptr A 0,A_ book,A_ n] ⟨hp s z,N⟩ =
   if lI book n s z then some (B_ true,⟨if book=13 then hp s n else hp n z,N⟩) else some (B_ false,⟨hp s z,N⟩):=by
 rw[aZ Sf Sz rfl];by_cases hb:book=13
 .by_cases ho:(0<=n∧n<=511)∧(z<0∨(z-60<=n∧n<=z+60))
  .rw[ac (by rw[lI,ac hb];exact ho),ac hb];subst hb;rcases ho with ⟨⟨o1,o2⟩,o3|⟨o3,o4⟩⟩
   .simp(maxSteps:=300000) (disch:=omega)[↓ac,↓aa,H.get,H.put]
   .by_cases hz0:z<0
    .simp(maxSteps:=300000) (disch:=omega)[↓ac,↓aa,H.get,H.put]
    .simp(maxSteps:=300000) (disch:=omega)[↓ac,↓aa,H.get,H.put]
  .rw[aa (by rw[lI,ac hb];exact ho)];subst hb;by_cases o1:n<0
   .simp(maxSteps:=300000) (disch:=omega)[↓ac,↓aa,H.get,H.put]
   .by_cases o2:511<n
    .simp(maxSteps:=300000) (disch:=omega)[↓ac,↓aa,H.get,H.put]
    .by_cases o3:n<z-60
     .simp(maxSteps:=300000) (disch:=omega)[↓ac,↓aa,H.get,H.put]
     .simp(maxSteps:=300000) (disch:=omega)[↓ac,↓aa,H.get,H.put]
 .by_cases ho:(0<=n∧n<=255)∧(s-60<=n∧n<=s+60)
  .rw[ac (by rw[lI,aa hb];exact ho),aa hb];obtain⟨⟨o1,o2⟩,o3,o4⟩:=ho;simp(maxSteps:=300000) (disch:=omega)[↓ac,↓aa,H.get,H.put]
  .rw[aa (by rw[lI,aa hb];exact ho)];by_cases o1:n<0
   .simp(maxSteps:=300000) (disch:=omega)[↓ac,↓aa,H.get,H.put]
   .by_cases o2:255<n
    .simp(maxSteps:=300000) (disch:=omega)[↓ac,↓aa,H.get,H.put]
    .by_cases o3:n<s-60
     .simp(maxSteps:=300000) (disch:=omega)[↓ac,↓aa,H.get,H.put]
     .simp(maxSteps:=300000) (disch:=omega)[↓ac,↓aa,H.get,H.put]
abbrev lV:=@List.drop_drop
def wO {l:Q_}{i:Nat}{s:aW}{r:Q_}(h:l.drop i=s::r):(gK l)[i]?=some [.int .i64 s.book,.int .i64 s.len]:=by
 have:=aX (λl=>l[0]?) h;simp only[b6,ck,dQ]at this;rw[gK,bY,this];rfl
def bt {α:Type}{l:List α}{i:Nat}{s:α}{r:List α}(h:l.drop i=s::r):l.drop (i+1)=r:=by
 have:=aX (λl=>l.drop 1) h;simpa [lV] using this
theorem bE {α:Type}{l:List α}{i:Nat}{s:α}{r:List α}(h:l.drop i=s::r):i<l.length:=by
 rcases bH i l.length with g|g
 .exact g
 .rw[cy g]at h;exact absurd h (by simp)
def afX (full:Q_)(hl:full.length<=1000000)(x21:AV)(y22 y23:D):∀(l:Q_) (i:Nat) (lf c:Int) (N:Nat),full.drop i=l->fitsS lf l->0<=c->lf+c<=1000->
  (Dn prog).code (.loop xQ) ⟨[(7,A_ (lf+c)),(21,x21),(22,.d y22),(23,.d y23),(27,.d (.lst (gK full))),(28,A_ full.length),(29,A_ i)],⟨[],N⟩⟩ =
  some (.exit 2,⟨[(21,x21),(22,.d y22),(23,.d y23)],⟨[],N+l.length⟩⟩):=by
 intro l
 induction l with
 |nil =>
  intro i lf c N h hf h0 h1;have hi:full.length<=i:=by simpa [List.drop_eq_nil_iff] using h
  rw[ah M8];simp(maxSteps:=300000) (disch:=omega)[↓ac,↓aa]
 |cons s r ih =>
  intro i lf c N h hf h0 h1;obtain⟨⟨⟨s1,s2⟩,s3,s4⟩,hf2⟩:=hf;have hg:=wO h;have hlt:=bE h;have h5:=ih (i+1) (lf-s.len) c (N+1) (bt h) hf2 h0 o_;have c1:((i+1:Nat):Int)=(i:Int)+1:=rfl;have c2:lf-s.len+c=lf+c-s.len:=o_;rw[c1,c2]at h5;have e:N+(s::r).length=N+1+r.length:=by simp only[ar];omega
  rw[ah M8,e,<-h5];rcases s4 with s4|s4
  .simp(maxSteps:=300000) (disch:=omega)[↓ac,↓aa,hg]
  .simp(maxSteps:=300000) (disch:=omega)[↓ac,↓aa,hg,s4]
def acD:H_->Nat
 |[]=>0
 |l::r=>l.length+acD r
def lX {g:H_}{i:Nat}{l:Q_}{r:H_}(h:g.drop i=l::r):(bz g)[i]?=some [.lst (gK l)]:=by
 have:=aX (λl=>l[0]?) h;simp only[b6,ck,dQ]at this;rw[bz,bY,this];rfl
def aiP (full:H_)(hl:full.length<=1000)(m:Int)(hm:0<=m∧m<=40):∀(g:H_) (i N:Nat),full.drop i=g->(∀l∈g,fitsS m l∧l.length<=1000)->
  (Dn prog).code (.loop xt) ⟨[(21,.d (.lst (bz full))),(22,A_ full.length),(23,A_ i)],⟨[],N⟩⟩=some (.exit 0,⟨[],⟨[],N+acD g⟩⟩):=by
 intro g
 induction g with
 |nil =>
  intro i N h hf;have hi:full.length<=i:=by simpa [List.drop_eq_nil_iff] using h
  rw[ah Nb];simp(maxSteps:=300000) (disch:=omega)[↓ac,↓aa,acD]
 |cons l r ih =>
  intro i N h hf;have hg:=lX h;have hlt:=bE h;obtain⟨f1,f2⟩:=hf l (.head _);have h0:=afX l o_ (.d (.lst (bz full))) (.int .i64 full.length) (.int .i64 i) l 0 m (40-m) N rfl f1 o_ o_;have h5:=ih (i+1) (N+l.length) (bt h) λq hq=>hf q (.tail _ hq)
  have c1:((i+1:Nat):Int)=(i:Int)+1:=rfl;have c2:m+(40-m)=40:=o_;have c0:((0:Nat):Int)=0:=rfl;rw[c1]at h5;rw[c2,c0]at h0;have e:N+acD (l::r)=N+l.length+acD r:=by rw[acD];omega
  rw[ah Nb,e,<-h5];simp(maxSteps:=300000) (disch:=omega)[↓ac,↓aa,hg,h0]
def adw (gain m:Int)(g:H_)(hgn:0<=gain∧gain<=255)(hl:g.length<=8)(hm:0<=m∧m<=40)(hf:∀l∈g,fitsS m l∧l.length<=1000) :
  bi prog VA [A_ gain,.d (.lst (bz g))]=some (B_ true):=by
 have h:=aiP g o_ m hm g 0 0 rfl hf;have c0:((0:Nat):Int)=0:=rfl;rw[c0]at h;rw[aH ajp aj7 rfl];simp(maxSteps:=300000) (disch:=omega)[↓ac,↓aa,h]
abbrev ge:=@List.flatMap_nil
def Lo:Int->Q_->Option Int
 |lf,[]=>some lf
 |lf,s::r=>if s.right lf then Lo (lf-s.len) r else none
theorem Wz {l:Q_}{lf:Int}:Lo lf l=some 0↔fitsS lf l:=by
 induction l generalizing lf<;>grind [Lo,fitsS]
def aHm {l:Q_}{lf v:Int}(h:Lo lf l=some v)(h0:0<=lf):0<=v∧v<=lf:=by
 induction l generalizing lf<;>grind [Lo]
def bg {α:Type}{l:List α}{i:Nat}(h:l.drop i=[]):l.length<=i:=u_
def aeO (full:Q_)(hl:full.length<=1000000)(X:Obj)(x26:AV)(y27 y28:D):∀(r:Q_) (i:Nat) (lf:Int) (N:Nat),full.drop i=r->0<=lf∧lf<=1000->1<=N->
  ∃M,N<=M∧(Dn prog).code (.loop wc) ⟨[(2,.ptr 0 0),(9,A_ lf),(26,x26),(27,.d y27),(28,.d y28),(34,.d (.lst (gK full))),(35,A_ full.length),(36,A_ i)],⟨[(0,X)],N⟩⟩ =
  match Lo lf r with
  |some v=>some (.exit 2,⟨[(2,.ptr 0 0),(9,A_ v),(26,x26),(27,.d y27),(28,.d y28)],⟨[(0,X)],M⟩⟩)
  |none=>some (.ret,⟨[(4,A_ 8)],⟨[(0,X)],M⟩⟩):=by
 intro r
 induction r with
 |nil =>
  intro i lf N h h0 hN;have hi:=bg h;refine⟨N,ak _,?_⟩;rw[ah BW,Lo];simp(disch:=omega)[↓aa]
 |cons s r ih =>
  intro i lf N h h0 hN;have hg:=wO h;have hlt:=bE h;have h6:=λk n left=>aad ⟨k,n⟩ left
  by_cases hr:s.right lf
  .obtain⟨M,hM,e⟩:=ih (i+1) (lf-s.len) (N+1) (bt h) o_ o_;refine⟨M,o_,?_⟩;rw[ah BW,Lo,ac hr,<-e];simp(disch:=omega)[↓ac,↓aa,hg,h6]
  .refine⟨N+1,o_,?_⟩;rw[ah BW,Lo,aa hr];simp(disch:=omega)[↓ac,↓aa,hg,h6]
abbrev fy (m:Int)(g:H_):Prop:=∀l∈g,fitsS m l
def aeu (i:aO)(hi:i.Fit)(h0:0<=i.max∧i.max<=1000)(full:H_)(hl:full.length<=1000)(hl2:∀l∈full,l.length<=1000):∀(g:H_) (j:Nat) (N:Nat),full.drop j=g->1<=N->
  ∃M,(Dn prog).code (.loop vK) ⟨[(2,.ptr 0 0),(26,.d (.lst (bz full))),(27,A_ full.length),(28,A_ j)],⟨[(0,.cells i.cells)],N⟩⟩ =
  if fy i.max g then some (.exit 0,⟨[],⟨[(0,.cells i.cells)],M⟩⟩) else some (.ret,⟨[(4,A_ 8)],⟨[(0,.cells i.cells)],M⟩⟩):=by
 simp only[aO.cells];intro g
 induction g with
 |nil =>
  intro j N h hN;have hi:=bg h;refine⟨N,?_⟩;rw[ah vD,ac (show fy i.max [] from λ_ h=>by simp at h)];simp(disch:=omega)[↓aa]
 |cons l r ih =>
  intro j N h hN;have hg:=lX h;have hlt:=bE h;have hll:l.length<=1000:=hl2 l (by rw[<-aT j full,h];simp);obtain⟨M,hM,e⟩:=aeO l o_ (.cells i.cells) (.d (.lst (bz full))) (.int .i64 full.length) (.int .i64 j) l 0 i.max N rfl h0 hN;have c0:((0:Nat):Int)=0:=rfl;rw[c0]at e;simp only[aO.cells]at e
  cases hrm:Lo i.max l with
  |none =>
   refine⟨M,?_⟩;rw[hrm]at e;have hn:¬fy i.max (l::r):=λh=>by
    grind [Wz]
   rw[ah vD,aa hn];simp(disch:=omega)[↓ac,hg,e]
  |some v =>
   rw[hrm]at e;by_cases h9:v=0
   .subst h9;obtain⟨M2,e2⟩:=ih (j+1) M (bt h) o_;refine⟨M2,?_⟩;have hf:=Wz.1 hrm;have hx:fy i.max (l::r)↔fy i.max r:=d_;rw[ah vD,auw hx,<-e2];simp(disch:=omega)[↓ac,hg,e]
   .refine⟨M,?_⟩;have hn:¬fy i.max (l::r):=λh=>by
     grind [Wz]
    rw[ah vD,aa hn];simp(disch:=omega)[↓ac,↓aa,hg,e]
abbrev aun (g:H_):Prop:=g.length<=1000∧∀l∈g,l.length<=1000
abbrev jH (i:aO)(g:H_):Prop:=g.length=i.groups.length∧fy i.max g
def amC (i:aO)(hi:i.Fit)(g:H_)(hf:aun g):bi prog S8 [.agg i.cells,.d (.lst (bz g))]=if i.may 11 then if jH i g then some (A_ 0) else some (A_ 8) else some (A_ 8):=by
 have hw:=oD i hi;rw[aH aiv ahA rfl];by_cases hm:i.may 11
 .rw[ac hm]at hw⊢;have h0:0<=i.max∧i.max<=1000:=by have:=hm.2.2.1;have:=hm.2.2.2.1;grind [IS]
  obtain⟨M,e⟩:=aeu i hi h0 g hf.1 hf.2 g 0 1 rfl o_;have c0:((0:Nat):Int)=0:=rfl;rw[c0]at e;simp only[aO.cells]at hw e;by_cases h1:g.length=i.groups.length
  .by_cases h2:fy i.max g
   .rw[ac ⟨h1,h2⟩];simp(disch:=omega)[↓ac,hw,e]
   .rw[aa (λh=>h2 h.2)];rw[aa h2]at e;simp(disch:=omega)[↓ac,hw,e]
  .simp(disch:=omega)[↓ac,↓aa,hw]
 .simp only[aO.cells]at hw;simp(disch:=omega)[↓ac,↓aa,hw]
def eu (aU:Nat):Nat->Nat->C_
 |0,n=>[n]
 |f+1,n=>if aU<=n then aU::eu aU f (n-aU) else [n]
def ajQ {σ:Type}{hp:σ->Int->am}{l p q N:Nat}{st:σ->Nat->σ}{dr:Nat->σ->Prop}(hI:∀k s x,dr (k+1) s->dr k (st s x))(hM:∀j k s,j<=k->dr k s->dr j s)(aU:Nat)(hm:1<=aU∧aU<=1000)(hg:∀s n,get (hp s n) p=some (.cells [A_ n]))(hq:∀s n,get (hp s n) q=some (.cells [A_ aU]))(hpt:∀s n m,put (hp s n) p (.cells [A_ m])=hp s m)
  (hy:∀(k:Nat) (s:σ) (x:Nat) (n:Int),dr (k+1) s->x<=aU->cq (Dn prog) (.yield l) [A_ (x:Int)] ⟨hp s n,N⟩=some (B_ true,⟨hp (st s x) n,N⟩)):∀(f n:Nat) (s:σ),n<=f->n<=1000000->dr (f+1) s->
  ∃(m:Nat) (s2:σ),m<aU∧dr 1 s2∧st s2 m=(eu aU f n).foldl st s∧(Dn prog).code (.loop qc) ⟨[(0,.yield l),(1,.ptr p 0),(2,.ptr q 0)],⟨hp s n,N⟩⟩=some (.exit 0,⟨[(0,.yield l),(1,.ptr p 0)],⟨hp s2 m,N⟩⟩):=by
 intro f
 induction f with
 |zero =>
  intro n s hn hb hi;refine⟨n,s,o_,hi,by rfl,?_⟩;rw[ah wo];simp(disch:=omega)[↓aa,hg,hq]
 |succ f ih =>
  intro n s hn hb hi;by_cases h1:aU<=n
  .obtain⟨m,s2,a1,a2,a3,a4⟩:=ih (n-aU) (st s aU) o_ o_ (hI _ _ _ hi);refine⟨m,s2,a1,a2,by grind [eu],?_⟩;have h2:=hy (f+1) s aU n hi o_;have c1:((n-aU:Nat):Int)=(n:Int)-aU:=o_;rw[c1]at a4;rw[ah wo,<-a4];simp(disch:=omega)[↓ac,hg,hq,hpt,-lM,h2]
  .refine⟨n,s,o_,?_,by grind [eu],?_⟩
   .grind
   .rw[ah wo];simp(disch:=omega)[↓aa,hg,hq]
def asM {σ:Type}{hp:σ->Int->am}{l p q N:Nat}{st:σ->Nat->σ}{dr:Nat->σ->Prop}(hI:∀k s x,dr (k+1) s->dr k (st s x))(hM:∀j k s,j<=k->dr k s->dr j s)(aU:Nat)(hm:1<=aU∧aU<=1000)(hg:∀s n,get (hp s n) p=some (.cells [A_ n]))(hq:∀s n,get (hp s n) q=some (.cells [A_ aU]))(hpt:∀s n m,put (hp s n) p (.cells [A_ m])=hp s m)
  (hy:∀(k:Nat) (s:σ) (x:Nat) (n:Int),dr (k+1) s->x<=aU->cq (Dn prog) (.yield l) [A_ (x:Int)] ⟨hp s n,N⟩=some (B_ true,⟨hp (st s x) n,N⟩))(n:Nat)(s:σ)(hn:n<=1000000)(hi:dr (n+1) s) :
  ∃m:Int,(Dn prog).call mh [.yield l,.ptr p 0,.ptr q 0] ⟨hp s n,N⟩=some (.tup [],⟨hp ((eu aU n n).foldl st s) m,N⟩):=by
 obtain⟨m,s2,a1,a2,a3,a4⟩:=ajQ hI hM aU hm hg hq hpt hy n n s (ak _) hn hi;have h2:=hy 0 s2 m m a2 o_;refine⟨m,?_⟩;rw[aZ X7 YF rfl,<-a3];simp(disch:=omega)[a4,hg,-lM,h2]
def Vy {aU:Nat}(hm:1<=aU):∀{f n:Nat},(eu aU f n).length<=n+1
 |0,n=>by simp[eu]
 |f+1,n=>by
  rw[eu];split
  .have:=Vy hm (f:=f) (n:=n-aU)
   grind
  .simp
def akQ (n m:Int)(h:am)(N:Nat):(Dn prog).call Qc [A_ n,A_ m] ⟨h,N⟩=some (.fn mh [] [.ptr N 0,.ptr (N+1) 0],⟨put (put h N (.cells [A_ n])) (N+1) (.cells [A_ m]),N+2⟩):=by
 rw[aZ ae7 ael rfl];simp(disch:=omega)
def L6 (sz:Nat)(s:aW):C_:=aq s.book.toNat 4++(eu (2 ^ sz-1) s.len.toNat s.len.toNat).flatMap λn=>aq n sz
def adi {sz:Nat}:∀{l acc:C_},l.foldl (fun(s:C_) n=>s++aq n sz) acc=acc++l.flatMap λn=>aq n sz
 |[],acc=>by simp
 |x::r,acc=>by rw[jc,adi];simp
abbrev J4:Obj:=.cells [.junk,.junk,.junk,.junk]
abbrev hpS (sz:Nat)(v:AV):am:=[(0,.cells [v]),(1,J4),(2,.cells [A_ sz])]
abbrev hpF (sz aU N:Nat)(e:aV)(v:AV)(n:Int):am:=[(0,.cells [v]),(1,J4),(2,.cells [A_ sz]),(N+1,.cells [A_ n]),(N+1+1,.cells [A_ aU]),(N+1+2,.loop e [55] zS zM false none)]
abbrev abr (aU:Nat)(y32 y33 y34:D)(full:Q_)(i:Int)(r:aV):aV:=(3,.ptr 0 0)::(9,.ptr 2 0)::(10,A_ aU)::(32,.d y32)::(33,.d y33)::(34,.d y34)::(38,.d (.lst (gK full)))::(39,A_ full.length)::(40,A_ i)::r
def aFd (sz aU N:Nat)(hsz:1<=sz∧sz<=5)(hm:aU<2 ^ sz)(hN:3<=N)(y32 y33 y34:D)(full:Q_)(i:Int)(b:C_)(x:Nat)(n:Int)(hx:x<=aU)(hb:b.length<=800000000) :
  cq (Dn prog) (.yield (N+1+2)) [A_ (x:Int)] ⟨hpF sz aU N (abr aU y32 y33 y34 full i [(54,.fn mh [] [.ptr (N+1) 0,.ptr (N+1+1) 0])]) (.own false 1 (ai b)) n,N+1+2+1⟩ =
  some (B_ true,⟨hpF sz aU N (abr aU y32 y33 y34 full i [(54,.fn mh [] [.ptr (N+1) 0,.ptr (N+1+1) 0])]) (.own false 1 (ai (b++aq x sz))) n,N+1+2+1⟩):=by
 have h5:2 ^ sz<=2 ^ 5:=aw o_ hsz.2;have h1:=lm b x sz o_ o_ _ (.inl rfl);rw[ac d_]at h1;simp(disch:=omega)[afa,ae8,↓ac,↓aa,h1]
theorem akJ (sz aU:Nat)(hsz:1<=sz∧sz<=5)(hm:aU=2 ^ sz-1)(full r:Q_)(hl:full.length<=1000)(s:aW)(y32 y33 y34:D)(i N:Nat)(b:C_)(hd:full.drop i=s::r)(hr:s.right 1000)(hN:3<=N)(hb:b.length<=700000000) :
  (Dn prog).code uI ⟨abr aU y32 y33 y34 full i [],⟨hpS sz (.own false 1 (ai b)),N⟩⟩ =
  some (.normal,⟨abr aU y32 y33 y34 full ((i+1:Nat):Int) [],⟨hpS sz (.own false 1 (ai (b++L6 sz s))),N+4⟩⟩):=by
 have hg:=wO hd;have hlt:=bE hd;have h5:2 ^ sz<=2 ^ 5:=aw o_ hsz.2;have h6:2 ^ 1<=2 ^ sz:=aw o_ hsz.1;have h1:=lm b s.book 4 o_ o_ _ (.inl rfl);have ho:nq s.book 4:=by
  grind
 obtain⟨L,hL⟩:=az (show 0<=s.len by omega);obtain⟨m,h7⟩:=asM (hp:=λb n=>hpF sz aU N (abr aU y32 y33 y34 full i [(54,.fn mh [] [.ptr (N+1) 0,.ptr (N+1+1) 0])]) (.own false 1 (ai b)) n) (l:=N+1+2) (p:=N+1) (q:=N+1+1) (N:=N+1+2+1) (st:=λs n=>s++aq n sz) (dr:=λk s=>s.length+5*k<=750000000)
  (λk s x h=>by grind [dI]) (λj k s h1 h2=>by omega) aU o_ (λs n=>by simp(disch:=omega)[↓aa]) (λs n=>by simp(disch:=omega)[↓aa]) (λs n m=>by simp(disch:=omega)[↓aa])
  (λk s x n h1 h2=>aFd sz aU N hsz o_ hN y32 y33 y34 full i s x n h2 o_) L (b++aq s.book.toNat 4) o_ (by simp;omega)
 rw[adi]at h7;have e:b++aq s.book.toNat 4++(eu aU L L).flatMap (λn=>aq n sz)=b++L6 sz s:=by
  grind [L6]
 rw[e]at h7;rw[hL]at hg;rw[P0];simp(disch:=omega)[↓ac,↓aa,hg,h1,akQ,rd,h7]
def agk {sz:Nat}(hsz:1<=sz∧sz<=5){s:aW}(h:s.right 1000):(L6 sz s).length<=6000:=by
 have h6:2 ^ 1<=2 ^ sz:=aw o_ hsz.1;have h1:=Vy (aU:=2 ^ sz-1) o_ (f:=s.len.toNat) (n:=s.len.toNat);rw[L6,al,dI,List.length_flatMap];have:((eu (2 ^ sz-1) s.len.toNat s.len.toNat).map λn=>(aq n sz).length).sum<=(eu (2 ^ sz-1) s.len.toNat s.len.toNat).length*5:=by
  generalize eu (2 ^ sz-1) s.len.toNat s.len.toNat=l
  induction l<;>grind [dI]
 omega
def qb (sz:Nat)(l:Q_):C_:=l.flatMap (L6 sz)
def tR {lf:Int}:∀{l:Q_},fitsS lf l->lf<=1000->∀s∈l,s.right 1000
 |[],_,_,s,h=>absurd h (by simp)
 |x::r,hf,h0,s,h=>by
  obtain⟨h1,h2⟩:=hf;rcases aC.1 h with e|e
  .grind
  .exact tR h2 o_ s e
def akV (sz aU:Nat)(hsz:1<=sz∧sz<=5)(hm:aU=2 ^ sz-1)(full:Q_)(hl:full.length<=1000)(y32 y33 y34:D):∀(r:Q_) (i N:Nat) (b:C_),full.drop i=r->(∀s∈r,s.right 1000)->3<=N->b.length+6000*r.length<=700000000->
  ∃M,3<=M∧(Dn prog).code (.loop uI) ⟨abr aU y32 y33 y34 full i [],⟨hpS sz (.own false 1 (ai b)),N⟩⟩ =
  some (.exit 2,⟨[(3,.ptr 0 0),(9,.ptr 2 0),(10,A_ aU),(32,.d y32),(33,.d y33),(34,.d y34)],⟨hpS sz (.own false 1 (ai (b++qb sz r))),M⟩⟩):=by
 intro r
 induction r with
 |nil =>
  intro i N b hd hr hN hb;have hi:=bg hd;refine⟨N,hN,?_⟩;rw[ah P0,qb,ge,bh];simp(disch:=omega)[↓aa]
 |cons s r ih =>
  intro i N b hd hr hN hb;have hs:=hr s (.head _);have h1:=agk hsz hs;obtain⟨M,hM,e⟩:=ih (i+1) (N+4) (b++L6 sz s) (bt hd) (λq hq=>hr q (.tail _ hq)) o_ (by grind)
  grind [qb,ah,akJ,Mc]
def TW (i:aO)(g:H_):C_:=g.flatMap (qb i.fsz)
def Tb {sz:Nat}(hsz:1<=sz∧sz<=5):∀{l:Q_},(∀s∈l,s.right 1000)->(qb sz l).length<=6000*l.length
 |[],_=>by simp[qb]
 |s::r,h=>by
  have h1:=agk hsz (h s (.head _));have h2:=Tb hsz (l:=r) λq hq=>h q (.tail _ hq)
  grind [qb]
def akj (sz aU:Nat)(hsz:1<=sz∧sz<=5)(hm:aU=2 ^ sz-1)(m:Int)(hm0:m<=1000)(full:H_)(hl:full.length<=1000):∀(g:H_) (i N:Nat) (b:C_),full.drop i=g->fy m g->(∀l∈g,l.length<=100)->3<=N->b.length+600000*g.length<=700000000->
  ∃M,(Dn prog).code (.loop zB) ⟨[(3,.ptr 0 0),(9,.ptr 2 0),(10,A_ aU),(32,.d (.lst (bz full))),(33,A_ full.length),(34,A_ i)],⟨hpS sz (.own false 1 (ai b)),N⟩⟩ =
  some (.exit 0,⟨[(3,.ptr 0 0)],⟨hpS sz (.own false 1 (ai (b++g.flatMap (qb sz)))),M⟩⟩):=by
 intro g
 induction g with
 |nil =>
  intro i N b hd hf hll hN hb;have hi:=bg hd;refine⟨N,?_⟩;rw[ah PZ,ge,bh];simp(disch:=omega)[↓aa]
 |cons l r ih =>
  intro i N b hd hf hll hN hb;simp only[ar]at hb;have hg:=lX hd;have hlt:=bE hd;have hlen:=hll l (.head _);have hr:=tR (hf l (.head _)) hm0;have h1:=Tb hsz hr;obtain⟨M,hM,e⟩:=akV sz aU hsz hm l o_ (.lst (bz full)) (.int .i64 full.length) (.int .i64 i) l 0 N b rfl hr hN o_;obtain⟨M2,e2⟩:=ih (i+1) M (b++qb sz l) (bt hd) (λq hq=>hf q (.tail _ hq)) (λq hq=>hll q (.tail _ hq)) hM d_;refine⟨M2,?_⟩;have c0:((0:Nat):Int)=0:=rfl;rw[c0]at e;have ea:b++(l::r).flatMap (qb sz)=b++qb sz l++r.flatMap (qb sz):=u_;rw[ah PZ,ea,<-e2];simp(disch:=omega)[↓ac,hg,e]
def Jr {lf:Int}:∀{l:Q_},fitsS lf l->(l.length:Int)<=lf∨l=[]
 |[],_=>.inr rfl
 |x::r,hf=>by
  obtain⟨h1,h2⟩:=hf;have:=Jr h2
  grind
def atD (b:C_)(hb:b.length<=400000000)(x:AV)(hx:x=.d (.lst (ai b))∨x=.nl∧b=[])(i:aO)(hi:i.Fit)(hm:i.may 11)(g:H_)(hf:aun g)(hg:jH i g):bi prog aat [x,.agg i.cells,.d (.lst (bz g))] =
  some (.tup [.own true 1 (ai (b++TW i g)),A_ 0]):=by
 have hc:=amC i hi g hf;rw[ac hm,ac hg]at hc;have h0:0<=i.max∧i.max<=100:=by have:=hm.2.2.1;have:=hm.2.2.2.1;grind [IS]
 have hfd:=YX i;have hsz:1<=i.fsz∧i.fsz<=5:=by grind [aO.fsz]
 have g8:g.length<=8:=by
  have h:=(dO hm).1;have h2:=(dO hm).2;have:=lG (λn hn=>(h n hn).1)
  grind [aO.many]
 have hll:∀l∈g,l.length<=100:=λl hl=>by
  rcases Jr (hg.2 l hl) with h|h<;>grind
 have hp:=lm b 0 0 o_ o_ x hx;rw[ac k_]at hp;have t0:(0:Int).toNat=0:=rfl;rw[t0,aq,bh]at hp;obtain⟨M,e⟩:=akj i.fsz (2 ^ i.fsz-1) hsz rfl i.max o_ g hf.1 g 0 3 b rfl hg.2 hll o_ o_;have c0:((0:Nat):Int)=0:=rfl;rw[c0]at e;simp only[aO.cells]at hc hfd;rw[aH an5 amW rfl,TW];rcases hx with rfl|⟨rfl,rfl⟩
 all_goals simp(disch:=omega)[↓ac,↓aa,hc,hfd,hp,e]
def aP (l:Q_):G_:=l.flatMap λs=>List.replicate s.len.toNat s.book
def Yh {l:G_}{x:Int}:aF (l++[x])=aF l++[[.int .i64 x]]:=by simp[aF]
theorem iA {l:G_}:(aF l).length=l.length:=by simp[aF]
structure Tl {σ:Type}(hp:σ->am->am)(L:Nat):Prop where
 put:∀s K o,L<=K->Go.Vm.put (hp s []) K o=hp s [(K,o)]
 put2:∀s K o o',L<=K->Go.Vm.put (hp s [(K,o)]) K o'=hp s [(K,o')]
 get:∀s K o,L<=K->Go.Vm.get (hp s [(K,o)]) K=some o
 del:∀s K o,L<=K->Go.Vm.del (hp s [(K,o)]) K=hp s []
def u6 {σ τ:Type}(st:Nat->Int->σ->Sum σ τ):G_->Nat->σ->Sum σ τ
 |[],_,s=>.inl s
 |k::r,a,s=>match st a k s with
  |.inl s=>u6 st r (a+1) s
  |.inr z=>.inr z
def ahU {σ τ:Type}{st:Nat->Int->σ->Sum σ τ}:∀{l r:G_}{a:Nat}{s:σ},u6 st (l++r) a s=match u6 st l a s with
  |.inl s=>u6 st r (a+l.length) s
  |.inr z=>.inr z
 |[],r,a,s=>rfl
 |k::l,r,a,s=>by
  rw[aR,u6,u6]
  cases st a k s with
  |inl s=>simp only[ahU,ar];rw[show a+(l.length+1)=a+1+l.length by omega]
  |inr z=>rfl
section
variable {σ τ:Type}{hp:σ->am->am}{hq:τ->am->am}{L l p:Nat}{bks:G_}{st:Nat->Int->σ->Sum σ τ}{dr:Nat->σ->Prop}
def Rnd (hp:σ->am->am)(hq:τ->am->am)(L l:Nat)(bks:G_)(st:Nat->Int->σ->Sum σ τ)(dr:Nat->σ->Prop):Prop :=
 ∀a k s K o N,bks[a]?=some k->dr a s->L<=K->K<N->
  (∃s2,st a k s=.inl s2∧dr (a+1) s2∧cq (Dn prog) (.yield l) [A_ (a:Int),A_ k] ⟨hp s [(K,o)],N⟩=some (B_ true,⟨hp s2 [(K,o)],N⟩))∨
  (∃z,st a k s=.inr z∧cq (Dn prog) (.yield l) [A_ (a:Int),A_ k] ⟨hp s [(K,o)],N⟩=some (B_ false,⟨hq z [(K,o)],N⟩))
def aoy (H:Tl hp L)(H2:Tl hq L)(hY:Rnd hp hq L l bks st dr)(full:Q_)(s0:aW)(hs0:s0.len<=1000)(i K N:Nat)(hK:L<=K)(hKN:K<N):∀(k j a:Nat) (s:σ),j+k=s0.len.toNat->(∀q,q<k->bks[a+q]?=some s0.book)->a+k<=100000000->dr a s->
  (∃s2,u6 st (List.replicate k s0.book) a s=.inl s2∧dr (a+k) s2∧(Dn prog).code (.loop lR) ⟨[(0,.yield l),(3,A_ a),(5,.ptr K 0),(6,.d (.lst (gK full))),(7,A_ full.length),(8,A_ i),(13,A_ s0.len),(14,A_ j)],⟨hp s [(K,.cells [A_ s0.book,A_ s0.len])],N⟩⟩ =
   some (.exit 2,⟨[(0,.yield l),(3,A_ (a+k:Nat)),(6,.d (.lst (gK full))),(7,A_ full.length),(8,A_ i)],⟨hp s2 [],N⟩⟩))∨
  (∃z,u6 st (List.replicate k s0.book) a s=.inr z∧(Dn prog).code (.loop lR) ⟨[(0,.yield l),(3,A_ a),(5,.ptr K 0),(6,.d (.lst (gK full))),(7,A_ full.length),(8,A_ i),(13,A_ s0.len),(14,A_ j)],⟨hp s [(K,.cells [A_ s0.book,A_ s0.len])],N⟩⟩ =
   some (.ret,⟨[],⟨hq z [],N⟩⟩)):=by
 have hG:=λs o=>H.get s K o hK
 have hD:=λs o=>H.del s K o hK
 have hD2:=λs o=>H2.del s K o hK
 intro k
 induction k with
 |zero =>
  intro j a s h1 h2 h3 hi;refine .inl ⟨s,rfl,hi,?_⟩;rw[ah wg];simp(maxSteps:=300000) (disch:=omega)[↓aa,hD]
 |succ k ih =>
  intro j a s h1 h2 h3 hi;have hb:=h2 0 o_;rw[dQ]at hb;have c1:((j+1:Nat):Int)=(j:Int)+1:=rfl;have c2:((a+1:Nat):Int)=(a:Int)+1:=rfl;rw[cJ];rcases hY a s0.book s K (.cells [A_ s0.book,A_ s0.len]) N hb hi hK hKN with ⟨s2,e1,e2,e3⟩|⟨z,e1,e3⟩
  .rw[u6,e1,ah wg];have e4:a+(k+1)=a+1+k:=o_;have h9:=ih (j+1) (a+1) s2 o_ (λq hq=>by rw[show a+1+q=a+(q+1) by omega];exact h2 (q+1) o_) o_ e2;rw[c1,c2]at h9;rw[e4];rcases h9 with ⟨s3,f1,f2,f3⟩|⟨z,f1,f3⟩
   .refine .inl ⟨s3,f1,f2,?_⟩;rw[<-f3];simp(maxSteps:=300000) (disch:=omega)[↓ac,↓aa,hG,-lM,e3]
   .refine .inr ⟨z,f1,?_⟩;rw[<-f3];simp(maxSteps:=300000) (disch:=omega)[↓ac,↓aa,hG,-lM,e3]
  .refine .inr ⟨z,by rw[u6,e1],?_⟩;rw[ah wg];simp(maxSteps:=300000) (disch:=omega)[↓ac,↓aa,hG,-lM,e3,hD2]
def amL (H:Tl hp L)(H2:Tl hq L)(hY:Rnd hp hq L l bks st dr)(full:Q_)(hfl:full.length<=1000):∀(r:Q_) (i a N:Nat) (s:σ),full.drop i=r->(∀q∈r,0<=q.len∧q.len<=1000)->bks.drop a=aP r->a<=1000*i->L<=N->dr a s->
  (∃s2 M,u6 st (aP r) a s=.inl s2∧dr (a+(aP r).length) s2∧N<=M∧(Dn prog).code (.loop lZ) ⟨[(0,.yield l),(3,A_ a),(6,.d (.lst (gK full))),(7,A_ full.length),(8,A_ i)],⟨hp s [],N⟩⟩ =
   some (.exit 0,⟨[],⟨hp s2 [],M⟩⟩))∨
  (∃z M,u6 st (aP r) a s=.inr z∧N<=M∧(Dn prog).code (.loop lZ) ⟨[(0,.yield l),(3,A_ a),(6,.d (.lst (gK full))),(7,A_ full.length),(8,A_ i)],⟨hp s [],N⟩⟩ =
   some (.ret,⟨[],⟨hq z [],M⟩⟩)):=by
 intro r
 induction r with
 |nil =>
  intro i a N s hd hr hb ha hL hi;have hk:=bg hd;refine .inl ⟨s,N,rfl,hi,ak _,?_⟩;rw[ah pY];simp(maxSteps:=300000) (disch:=omega)[↓aa]
 |cons q r ih =>
  intro i a N s hd hr hb ha hL hi;have hq:=hr q (.head _);have hlt:=bE hd;have hg:=wO hd;have eb:aP (q::r)=List.replicate q.len.toNat q.book++aP r:=by rw[aP,aE];rfl
  rw[eb]at hb;have hbk:∀j,j<q.len.toNat->bks[a+j]?=some q.book:=λj hj=>by
   have:=aX (λl=>l[j]?) hb;simp only[b6]at this;rw[this,co (by simpa using hj)];simp[hj]
  have hb2:bks.drop (a+q.len.toNat)=aP r:=by
   have:=aX (λl=>l.drop q.len.toNat) hb;simp only[lV]at this;rw[this,List.drop_left' s_]
  have hp1:=λo=>H.put s N o hL
  have hp2:=λo o'=>H.put2 s N o o' hL
  have hG:=λo=>H.get s N o hL
  have c1:((i+1:Nat):Int)=(i:Int)+1:=rfl;have c0:((0:Nat):Int)=0:=rfl;have h0:=aoy H H2 hY full q hq.2 i N (N+1) hL o_ q.len.toNat 0 a s o_ hbk o_ hi;rw[c0]at h0;rw[eb,ahU];rcases h0 with ⟨s2,e1,e2,e3⟩|⟨z,e1,e3⟩
  .have h9:=ih (i+1) (a+q.len.toNat) (N+1) s2 (bt hd) (λx hx=>hr x (.tail _ hx)) hb2 o_ o_ e2;rw[c1]at h9;rw[e1];simp only[al,bU];rcases h9 with ⟨s3,M,f1,f2,f3,f4⟩|⟨z,M,f1,f3,f4⟩
   .refine .inl ⟨s3,M,f1,by rw[<-dB];exact f2,o_,?_⟩;rw[ah pY,<-f4];simp(maxSteps:=300000) (disch:=omega)[↓ac,↓aa,hg,hp1,hp2,hG,e3]
   .refine .inr ⟨z,M,f1,o_,?_⟩;rw[ah pY,<-f4];simp(maxSteps:=300000) (disch:=omega)[↓ac,↓aa,hg,hp1,hp2,hG,e3]
  .rw[e1];refine .inr ⟨z,N+1,rfl,o_,?_⟩;rw[ah pY];simp(maxSteps:=300000) (disch:=omega)[↓ac,↓aa,hg,hp1,hp2,hG,e3]
def acj (H:Tl hp L)(H2:Tl hq L)(full:Q_)(hY:Rnd hp hq L l (aP full) st dr)(hgp:∀s,get (hp s []) p=some (.cells [.d (.lst (gK full))]))(hfl:full.length<=1000)(hr:∀q∈full,0<=q.len∧q.len<=1000)(N:Nat)(s:σ)(hN:L<=N)(hi:dr 0 s) :
  (∃s2 M,u6 st (aP full) 0 s=.inl s2∧dr (aP full).length s2∧N<=M∧(Dn prog).call jb [.yield l,.ptr p 0] ⟨hp s [],N⟩=some (.tup [],⟨hp s2 [],M⟩))∨
  (∃z M,u6 st (aP full) 0 s=.inr z∧N<=M∧(Dn prog).call jb [.yield l,.ptr p 0] ⟨hp s [],N⟩=some (.tup [],⟨hq z [],M⟩)):=by
 have h:=amL H H2 hY full hfl full 0 0 N s rfl hr rfl o_ hN hi;have c0:((0:Nat):Int)=0:=rfl;rw[c0,bC]at h;rw[aZ ZY XD rfl];rcases h with ⟨s2,M,e1,e2,e3,e4⟩|⟨z,M,e1,e3,e4⟩
 .refine .inl ⟨s2,M,e1,e2,e3,?_⟩;simp(maxSteps:=300000) (disch:=omega)[hgp,e4]
 .refine .inr ⟨z,M,e1,e3,?_⟩;simp(maxSteps:=300000) (disch:=omega)[hgp,e4]
end
def LM (x:D)(h:am)(N:Nat):(Dn prog).call GR [.d x] ⟨h,N⟩=some (.fn jb [] [.ptr N 0],⟨put h N (.cells [.d x]),N+1⟩):=by
 rw[aZ ad6 aer rfl];simp(maxSteps:=300000) (disch:=omega)
abbrev aN:=@List.getElem?_eq_some_iff
def cY (t:K_):E_:=t.map λl=>[.lst (aF l)]
@[simp] def ao4 {t:K_}:(cY t).length=t.length:=by simp[cY]
def Ks {g:K_}{i:Nat}{l:G_}{r:K_}(h:g.drop i=l::r):(cY g)[i]?=some [.lst (aF l)]:=by
 grind [List.getElem?_cons_zero,cY]
def yb {l:G_}{i:Nat}{k:Int}{r:G_}(h:l.drop i=k::r):(aF l)[i]?=some [.int .i64 k]:=by
 grind [List.getElem?_cons_zero,aF]
def dP:G_->G_->Int->Int->Option (Int×Int)
 |[],[],w,z=>some (w,z)
 |k::r,n::t,w,z=>if k=0 then (if n=0 then dP r t w z else none) else if lI k n w z then (if k=13 then dP r t w n else dP r t n z) else none
 |_,_,_,_=>none
def mq:H_->K_->Int->Int->Option (Int×Int)
 |[],[],w,z=>some (w,z)
 |l::r,t::s,w,z=>match dP (aP l) t w z with
  |some (w,z)=>mq r s w z
  |none=>none
 |_,_,_,_=>none
abbrev AP (gain:Int)(g:H_)(t:K_):Prop:=mq g t gain (-1)≠none
theorem Kz:∀{g:H_}{t:K_}{w z:Int},mq g t w z≠none->g.length=t.length
 |[],[],_,_,_=>rfl
 |[],_::_,_,_,h=>absurd rfl h
 |_::_,[],_,_,h=>absurd rfl h
 |l::r,t::s,w,z,h=>by
  rw[mq]at h;split at h
  .simp only[ar,Kz h]
  simp_all
abbrev uk (w:Int):Prop:=-1<=w∧w<=511
def Sy {k n w z:Int}(h:lI k n w z):uk n:=by
 grind
def jZ (k n w z:Int):Int×Int:=if k=0 then (w,z) else if k=13 then (w,n) else (n,z)
def pU {k n:Int}{r t:G_}{w z:Int}(h:dP (k::r) (n::t) w z≠none):(k=0->n=0)∧(k≠0->lI k n w z)∧dP (k::r) (n::t) w z=dP r t (jZ k n w z).1 (jZ k n w z).2:=by
 grind [dP,jZ]
def adD {bks t:G_}{a:Nat}{k:Int}{w z:Int}(hk:bks[a]?=some k)(h:dP (bks.drop a) (t.drop a) w z≠none):∃n,t.drop a=n::t.drop (a+1)∧(k=0->n=0)∧(k≠0->lI k n w z)∧dP (bks.drop a) (t.drop a) w z=dP (bks.drop (a+1)) (t.drop (a+1)) (jZ k n w z).1 (jZ k n w z).2:=by
 obtain⟨hlt,e⟩:=aN.1 hk;have h1:=ee hlt;rw[e]at h1;rw[h1]at h⊢
 cases h2:t.drop a with
 |nil=>rw[h2]at h;exact absurd rfl h
 |cons n r =>
  have h3:t.drop (a+1)=r:=bt h2;rw[h2]at h;obtain⟨a1,a2,a3⟩:=pU h
  simp_all
abbrev hpK (ss:K_)(g N:Nat)(l:Q_)(e:aV)(s:Nat×Int×Int)(T:am):am :=
 (0,.cells [.d (.lst (cY ss))])::(1,.cells [A_ 0])::(2,.cells [A_ s.2.1,A_ s.2.2])::(3,.cells [.ptr 2 0])::(N,.cells [A_ g])::(N+1,.cells [A_ s.1])::(N+1+1,.cells [.d (.lst (gK l))])::(N+1+1+1,.loop e [36,37] lj lF false none)::T
abbrev aoO (gs:H_)(g N:Nat):aV:=[(5,.ptr 0 0),(6,.ptr 1 0),(7,.ptr 3 0),(8,.ptr N 0),(10,.ptr (N+1) 0),(27,.d (.lst (bz gs))),(28,A_ gs.length),(29,A_ g),(35,.fn jb [] [.ptr (N+1+1) 0])]
def aEK {ss:K_}{g N:Nat}{l:Q_}{e:aV}(hN:4<=N):Tl (hpK ss g N l e) (N+1+1+1+1):=by
 constructor
 .intro s K o h;simp(disch:=omega)[↓aa]
 .intro s K o o' h;simp(disch:=omega)[↓aa]
 .intro s K o h;simp(disch:=omega)[↓aa]
 .intro s K o h;simp(disch:=omega)[↓aa]
def noH (z:Empty)(_:am):am:=nomatch z
def aoM {L:Nat}:Tl noH L:=by constructor<;>(grind)
structure LK (F:Obj->Int->Int->Int->am)(ss:K_)(g:Int)(L N:Nat):Prop where
 gl:∀q m w z,get (F q m w z) L=some q
 pl:∀q m w z q',put (F q m w z) L q'=F q' m w z
 g0:∀q m w z,get (F q m w z) 0=some (.cells [.d (.lst (cY ss))])
 g2:∀q m w z,get (F q m w z) 2=some (.cells [A_ w,A_ z])
 p2:∀q m w z w' z',put (F q m w z) 2 (.cells [A_ w',A_ z'])=F q m w' z'
 g3:∀q m w z,get (F q m w z) 3=some (.cells [.ptr 2 0])
 gN:∀q m w z,get (F q m w z) N=some (.cells [A_ g])
 gM:∀q m w z,get (F q m w z) (N+1)=some (.cells [A_ m])
 pM:∀q m w z m',put (F q m w z) (N+1) (.cells [A_ m'])=F q m' w z
def aBM {F:Obj->Int->Int->Int->am}{L:Nat}(ss:K_)(hss:ss.length<=1000)(gs:H_)(hgs:gs.length<=1000)(g N:Nat)(H:LK F ss g L N)(t:G_)(ht:t.length<=100000)(hg:(cY ss)[g]?=some [.lst (aF t)])(a:Nat)(k:Int)(w z:Int)(M:Nat)(n:Int)(r:G_)(hd:t.drop a=n::r)(h0:k=0->n=0)(h1:k≠0->lI k n w z)(hk:0<=k∧k<=13)(hw:uk w)(hz:uk z) :
  cq (Dn prog) (.yield L) [A_ (a:Int),A_ k] ⟨F (.loop (aoO gs g N) [36,37] lj lF false none) a w z,M⟩=some (B_ true,⟨F (.loop (aoO gs g N) [36,37] lj lF false none) (a+1) (jZ k n w z).1 (jZ k n w z).2,M⟩):=by
 have ha:=bE hd;have hn:=yb hd;have gl:g<ss.length:=by
  obtain⟨h,_⟩:=aN.1 hg;simpa using h
 have T:=λq m=>PA (hp:=λw z=>F q m w z) (A:=2) ⟨λs z=>H.g2 q m s z,λs z s' z'=>H.p2 q m s z s' z'⟩ k n w z M
 by_cases k0:k=0
 .have:=h0 k0;subst k0 this;simp(disch:=omega)[Ae,Av,↓ac,↓aa,hg,hn,H.gl,H.pl,H.g0,H.gN,H.gM,H.pM,jZ]
 .have hT:=h1 k0;have hn5:=Sy hT;have T:=λq m=>T q m o_ o_ (by omega)
  simp only[ac hT]at T;have e:(jZ k n w z)=if k=13 then (w,n) else (n,z):=by rw[jZ,aa k0]
  by_cases k13:k=13
  .rw[e,ac k13];simp(disch:=omega)[Ae,Av,↓ac,↓aa,hg,hn,H.gl,H.pl,H.g0,H.g3,H.gN,H.gM,H.pM,T]
  .rw[e,aa k13];simp(disch:=omega)[Ae,Av,↓ac,↓aa,hg,hn,H.gl,H.pl,H.g0,H.g3,H.gN,H.gM,H.pM,T]
abbrev FK (ss:K_)(g N:Nat)(l:Q_)(T:am)(q:Obj)(m w z:Int):am :=
 (0,.cells [.d (.lst (cY ss))])::(1,.cells [A_ 0])::(2,.cells [A_ w,A_ z])::(3,.cells [.ptr 2 0])::(N,.cells [A_ g])::(N+1,.cells [A_ m])::(N+1+1,.cells [.d (.lst (gK l))])::(N+1+1+1,q)::T
def aA4 {ss:K_}{g N:Nat}{l:Q_}{T:am}(hN:4<=N):LK (FK ss g N l T) ss g (N+1+1+1) N:=by
 constructor<;>intro q m w z<;>(try intro q')<;>(try intro q'')<;>simp(disch:=omega)[↓aa]
def aBm (ss:K_)(hss:ss.length<=1000)(gs:H_)(hgs:gs.length<=1000)(g N:Nat)(hN:4<=N)(t:G_)(ht:t.length<=100000)(hg:(cY ss)[g]?=some [.lst (aF t)])(l:Q_)(hl:∀k∈aP l,0<=k∧k<=13)(fin:Int×Int) :
  Rnd (hpK ss g N l (aoO gs g N)) noH (N+1+1+1+1) (N+1+1+1) (aP l) (λa k s=>.inl (a+1,jZ k (nth t a) s.2.1 s.2.2)) (λa s=>s.1=a∧uk s.2.1∧uk s.2.2∧dP ((aP l).drop a) (t.drop a) s.2.1 s.2.2=some fin):=by
 intro a k s K o M hk hi hK hM;obtain⟨i1,i2,i3,i4⟩:=hi;obtain⟨n,d1,d2,d3,d4⟩:=adD hk (by rw[i4];simp);have hn:nth t a=n:=by
  grind [bE,qr]
 have hkm:=hl k d_;rw[i4]at d4;have hgo:uk (jZ k n s.2.1 s.2.2).1∧uk (jZ k n s.2.1 s.2.2).2:=by
  grind [jZ]
 refine .inl ⟨(a+1,jZ k n s.2.1 s.2.2),u_,⟨rfl,hgo.1,hgo.2,d4.symm⟩,?_⟩;obtain⟨m,w,z⟩:=s;subst i1;have:=aBM ss hss gs hgs g N (aA4 (ss:=ss) (g:=g) (l:=l) (T:=[(K,o)]) hN) t ht hg m k w z M n _ d1 d2 d3 hkm i2 i3;exact this
def NA {l:Q_}{lf:Int}(h:fitsS lf l):∀k∈aP l,0<=k∧k<=13:=by
 induction l generalizing lf with
 |nil=>grind [aP]
 |cons s r ih =>
  intro k hk;obtain⟨h1,h2⟩:=h
  grind [aP]
abbrev aFm (ss:K_)(w z:Int):am:=[(0,.cells [.d (.lst (cY ss))]),(1,.cells [A_ 0]),(2,.cells [A_ w,A_ z]),(3,.cells [.ptr 2 0])]
def ahF {t:G_}{a:Nat}{w z:Int}{fin:Int×Int}(h:dP [] (t.drop a) w z=some fin):(w,z)=fin∧t.length<=a:=by
 cases h1:t.drop a<;>simp_all [dP]
theorem Wc:∀{bks t:G_}{w z:Int}{fin:Int×Int},dP bks t w z=some fin->bks.length=t.length
 |[],[],_,_,_,_=>rfl
 |[],_::_,_,_,_,h=>absurd h (by simp[dP])
 |_::_,[],_,_,_,h=>absurd h (by simp[dP])
 |k::r,n::t,w,z,fin,h=>by
  have h1:=pU (by rw[h];simp);rw[h]at h1;have:=Wc h1.2.2.symm
  simp_all
def aaP (ss:K_)(hss:ss.length<=1000)(hss2:∀t∈ss,t.length<=100000)(gs:H_)(hgs:gs.length<=1000)(m:Int)(hm:m<=1000):∀(gr:H_) (sr:K_) (i N:Nat) (w z:Int),gs.drop i=gr->ss.drop i=sr->fy m gr->(∀l∈gr,l.length<=1000)->uk w->uk z->mq gr sr w z≠none->4<=N->
  ∃M w' z',(Dn prog).code (.loop tT) ⟨[(5,.ptr 0 0),(6,.ptr 1 0),(7,.ptr 3 0),(27,.d (.lst (bz gs))),(28,A_ gs.length),(29,A_ i)],⟨aFm ss w z,N⟩⟩ =
  some (.exit 0,⟨[(6,.ptr 1 0)],⟨[(1,.cells [A_ 0]),(2,.cells [A_ w',A_ z'])],M⟩⟩):=by
 intro gr
 induction gr with
 |nil =>
  intro sr i N w z hd hd2 hf hl hw hz hr hN;have hi:=bg hd;refine⟨N,w,z,?_⟩;rw[ah Jn];simp(disch:=omega)[↓ac,↓aa]
 |cons l r ih =>
  intro sr i N w z hd hd2 hf hl hw hz hr hN;have hg:=lX hd;have hlt:=bE hd;have hfl:=hf l (.head _);have hll:=hl l (.head _)
  cases sr with
  |nil=>exact absurd rfl hr
  |cons t s =>
   have hgt:=Ks hd2;have htl:=hss2 t (by rw[<-aT i ss,hd2];simp);have hlt2:=bE hd2;rw[mq]at hr
   cases hrow:dP (aP l) t w z with
   |none=>simp_all
   |some fin =>
    rw[hrow]at hr;have hlen:=Wc hrow;have hb:=acj (p:=N+1+1) (aEK (ss:=ss) (g:=i) (l:=l) (e:=aoO gs i N) hN) aoM l (aBm ss hss gs hgs i N hN t htl hgt l (NA hfl) fin) (λs=>by simp(disch:=omega)[↓aa]) hll (λq hq=>by have:=(tR hfl hm q hq).1;omega) (N+1+1+1+1) (0,w,z) (ak _) ⟨rfl,hw,hz,u_⟩;rcases hb with ⟨⟨m2,w2,z2⟩,M,e1,⟨e2,e3,e4,e5⟩,e6,e7⟩|⟨z,_⟩
    .rw[cy (ak _)]at e5;obtain⟨e8,e9⟩:=ahF e5;subst e8;obtain⟨M2,w3,z3,f⟩:=ih s (i+1) M w2 z2 (bt hd) (bt hd2) (λq hq=>hf q (.tail _ hq)) (λq hq=>hl q (.tail _ hq)) e3 e4 hr o_;refine⟨M2,w3,z3,?_⟩;have c0:((0:Nat):Int)=0:=rfl;simp only[hpK,c0]at e7;rw[ah Jn,<-f];simp(disch:=omega)[↓ac,↓aa,hg,hgt,LM,rd,e7]
    grind
def akI (gain m:Int)(g:H_)(t:K_)(hgn:0<=gain∧gain<=255)(hl:g.length<=8)(hm:0<=m∧m<=40)(hf:fy m g)(hf2:∀l∈g,l.length<=1000)(ht:AP gain g t)(ht2:∀l∈t,l.length<=100000) :
  bi prog PY [A_ gain,.d (.lst (bz g)),.d (.lst (cY t))]=some (A_ 0):=by
 have h1:=adw gain m g hgn hl hm λl h=>⟨hf l h,hf2 l h⟩
 have hlen:=Kz ht;obtain⟨M,w,z,e⟩:=aaP t o_ ht2 g o_ m o_ g t 0 4 gain (-1) rfl rfl hf hf2 o_ o_ ht (ak _);have c0:((0:Nat):Int)=0:=rfl;rw[c0]at e;rw[aH aes afd rfl];simp(disch:=omega)[↓ac,↓aa,h1,e]
abbrev de:=@List.exists_cons_of_ne_nil
def oG (xs:AD_):E_:=xs.map λl=>[.lst (ai l)]
@[simp] def adc {t:AD_}:(oG t).length=t.length:=by simp[oG]
def Kh {g:AD_}{i:Nat}{l:C_}{r:AD_}(h:g.drop i=l::r):(oG g)[i]?=some [.lst (ai l)]:=by
 have:=aX (λl=>l[0]?) h;simp only[b6,ck,dQ]at this;rw[oG,bY,this];rfl
def bw {l:C_}:(ai l).length=l.length:=by simp[ai]
def aqw (xs:AD_)(hx:xs.length<=1000)(h:am)(N:Nat):∀(r:AD_) (i:Nat) (n:Nat),xs.drop i=r->n+r.flatten.length<=1000000000->
  (Dn prog).code (.loop j0) ⟨[(0,.d (.lst (oG xs))),(3,A_ n),(9,.d (.lst (oG xs))),(10,A_ xs.length),(11,A_ i)],⟨h,N⟩⟩ =
  some (.exit 0,⟨[(0,.d (.lst (oG xs))),(3,A_ (n+r.flatten.length:Nat))],⟨h,N⟩⟩):=by
 intro r
 induction r with
 |nil =>
  intro i n hd hn;have hi:=bg hd;rw[ah xc];simp(maxSteps:=300000) (disch:=omega)[↓aa]
 |cons l r ih =>
  intro i n hd hn;have hg:=Kh hd;have hlt:=bE hd;simp only[dt,al]at hn⊢;have h5:=ih (i+1) (n+l.length) (bt hd) o_;have c1:((i+1:Nat):Int)=(i:Int)+1:=rfl;have c2:((n+l.length:Nat):Int)=(n:Int)+l.length:=rfl;rw[c1,c2,dB]at h5;rw[ah xc,<-h5];simp(maxSteps:=300000) (disch:=omega)[↓ac,↓aa,hg,bw]
def aq4 (xs:AD_)(hx:xs.length<=1000)(h:am)(N:Nat):∀(r:AD_) (i:Nat) (acc:C_),xs.drop i=r->acc.length+r.flatten.length<=1000000000->
  (Dn prog).code (.loop j9) ⟨[(6,.own false 1 (ai acc)),(25,.d (.lst (oG xs))),(26,A_ xs.length),(27,A_ i)],⟨h,N⟩⟩ =
  some (.exit 2,⟨[(6,.own false 1 (ai (acc++r.flatten)))],⟨h,N⟩⟩):=by
 intro r
 induction r with
 |nil =>
  intro i acc hd hn;have hi:=bg hd;rw[ah oy];simp(maxSteps:=300000) (disch:=omega)[↓aa]
 |cons l r ih =>
  intro i acc hd hn;have hg:=Kh hd;have hlt:=bE hd;simp only[dt,al]at hn⊢;have h5:=ih (i+1) (acc++l) (bt hd) (by simp only[al];omega);have c1:((i+1:Nat):Int)=(i:Int)+1:=rfl;rw[c1,ax]at h5;rw[ah oy,<-h5];simp(maxSteps:=300000) (disch:=omega)[↓ac,↓aa,hg,bw]
def awq (n:Nat)(hn:0<n∧n<=1000000000):(Dn prog).call Do [.nl,A_ n] ⟨[],0⟩=some (.sl 0 0 0,⟨[(0,.arr 1 (List.replicate n [.int .u8 0]))],1⟩):=by
 have e1:dW (A_ n) aU=some n:=by rw[xy o_ (by simp only[aU];omega)];simp
 have e2:Hx [.int .u8 0] [] .nl (A_ n)=some (.own true 1 (List.replicate n [.int .u8 0]),[]):=by
  unfold Hx;rw[e1];obtain⟨m,rfl⟩:∃m,n=m+1:=⟨n-1,o_⟩
  simp(disch:=omega)[cJ,↓ac]
 have e0:dW (A_ 0) n=some 0:=xy o_ o_;have e3:l7 [] 1 .nl none (some (.int .i64 0)) none=some .nl:=rfl;have e4:l7 [(0,.arr 1 (List.replicate n [D.int .u8 0]))] 1 (.sl 0 0 n) none (some (.int .i64 0)) none=some (.sl 0 0 0):=by
  simp[l7,okSl,uU,lenOf,xg,e0,vI]
 rw[aZ QQ QW rfl];simp(maxSteps:=300000) (disch:=omega)[↓ac,↓aa,abP,e2,e3,e4]
def aiU (xs:AD_)(hx:xs.length<=1000)(hn:0<xs.flatten.length∧xs.flatten.length<=1000000000):bi prog AG [.d (.lst (oG xs))]=some (.own true 1 (ai xs.flatten)):=by
 have h0:=aqw xs hx [] 0 xs 0 0 rfl o_;have h2:=awq xs.flatten.length hn;have c0:((0:Nat):Int)=0:=rfl;rw[bC,c0]at h0;have hne:xs≠[]:=by intro h;subst h;simp at hn
 obtain⟨l,r,e⟩:=de hne;have h1:=aq4 xs hx [] 1 r 1 l (by rw[e];rfl) (by rw[e]at hn;simpa using hn.2);have hg:=Kh (g:=xs) (i:=0) (l:=l) (r:=r) (by rw[e];rfl);have hlt:0<xs.length:=bN.2 hne;have e5:l++r.flatten=xs.flatten:=by rw[e];rfl
 rw[e5]at h1;have hll:l.length<=1000000000:=by rw[<-e5,al]at hn;omega
 clear e5 e;generalize xs.flatten=F at *;have c1:((1:Nat):Int)=1:=rfl;rw[c1]at h1;rw[aH Mm MY rfl];simp(maxSteps:=300000) (disch:=omega)[↓ac,↓aa,h0,h2];rw[ah oy];simp(maxSteps:=300000) (disch:=omega)[↓ac,↓aa,hg,bw,h1]
def cQ (n:Nat):Nat:=if n=0 then 0 else n.log2+1
def H0 {n:Nat}:n<2 ^ cQ n:=by
 unfold cQ;by_cases h:n=0
 .subst h;decide
 .rw[aa h];exact(Nat.log2_lt h).1 (Nat.lt_succ_self _)
def uW {n:Nat}(h:n≠0):2 ^ (cQ n-1)<=n:=by
 unfold cQ;rw[aa h,dp];exact(Nat.le_log2 h).1 (ak _)
def apJ {n k:Nat}(h1:2 ^ k<=n)(h2:n<2 ^ (k+1)):cQ n=k+1:=by
 have h0:n≠0:=by have:=bV k;omega
 unfold cQ;rw[aa h0];have a:=(Nat.le_log2 h0).2 h1;have b:=(Nat.log2_lt h0).2 h2;omega
def asg {n:Nat}(h:256<=n):cQ n=8+cQ (n / 256):=by
 have h0:n / 256≠0:=o_;obtain⟨k,hk⟩:∃k,cQ (n / 256)=k+1:=⟨cQ (n / 256)-1,by unfold cQ;rw[aa h0];omega⟩
 have a:=H0 (n:=n / 256);have b:=uW h0;rw[hk]at a b⊢;rw[dp]at b;rw[apJ (k:=k+8)]
 .omega
 .rw[Nat.pow_add];omega
 .rw[show k+8+1=k+1+8 by omega,Nat.pow_add];omega
def aaR:AG_:=[0,1,2,2,3,3,3,3,4,4,4,4,4,4,4,4,5,5,5,5,5,5,5,5,5,5,5,5,5,5,5,5,6,6,6,6,6,6,6,6,6,6,6,6,6,6,6,6,6,6,6,6,6,6,6,6,6,6,6,6,6,6,6,6,7,7,7,7,7,7,7,7,7,7,7,7,7,7,7,7,7,7,7,7,7,7,7,7,7,7,7,7,7,7,7,7,7,7,7,7,7,7,7,7,7,7,7,7,7,7,7,7,7,7,7,7,7,7,7,7,7,7,7,7,7,7,7,7,8,8,8,8,8,8,8,8,8,8,8,8,8,8,8,8,8,8,8,8,8,8,8,8,8,8,8,8,8,8,8,8,8,8,8,8,8,8,8,8,8,8,8,8,8,8,8,8,8,8,8,8,8,8,8,8,8,8,8,8,8,8,8,8,8,8,8,8,8,8,8,8,8,8,8,8,8,8,8,8,8,8,8,8,8,8,8,8,8,8,8,8,8,8,8,8,8,8,8,8,8,8,8,8,8,8,8,8,8,8,8,8,8,8,8,8,8,8,8,8,8,8,8,8,8,8,8,8]
def auo:∀n,n<256->(aaR[n]?).map UInt8.toNat=some (cQ n):=e_
def ak7 {n:Nat}(h:n<256):anZ (.d (.str aaR)) (.d (.int .u8 n))=some (.int .u8 (cQ n)):=by
 have:=auo n h;show(match aaR[n]? with|some b=>some (D.int .u8 (.ofNat b.toNat))|none=>none)=_
 cases hx:aaR[n]? with
 |none=>rw[hx]at this;exact absurd this (by simp)
 |some b =>
  rw[hx]at this;injection this with this
  show some (D.int .u8 ((b.toNat:Nat):Int))=_;rw[this]
def aEG {n:Nat}:eW .shr (.d (.int .u64 (n:Int))) (.d (.int .u64 8))=some (.int .u64 ((n / 256:Nat):Int)):=by
 rw[kP o_];have:min ((8:Int)).toNat IntKind.u64.bits=8:=rfl;rw[this,fq _ (qn _),<-Int.natCast_ediv]
def agy (n:Nat)(hn:n<65536):bi prog KB [.d (.int .u64 n)]=some (A_ (cQ n)):=by
 have h64:bi prog Hc [.d (.int .u64 n)]=some (A_ (cQ n)):=by
  rw[aH UL Uq rfl];by_cases h:256<=n
  .have h2:=ak7 (n:=n / 256) o_;have h3:=asg h;have h4:cQ (n / 256)<=8:=by
    have a:=uW (n:=n / 256) o_;rcases bH 8 (cQ (n / 256)) with h|h
    .have:2 ^ 8<=2 ^ (cQ (n / 256)-1):=aw o_ o_;omega
    .exact h
   have c1:((n / 256:Nat):Int)=(n:Int) / 256:=o_;rw[aaR,c1]at h2;rw[h3];simp(maxSteps:=300000) (disch:=omega)[↓ac,↓aa,-kP,aEG,h2]
  .have h2:=ak7 (n:=n) o_;have h4:cQ n<=8:=by
    by_cases h0:n=0
    .subst h0;decide
    .have a:=uW (n:=n) h0;rcases bH 8 (cQ n) with h|h
     .have:2 ^ 8<=2 ^ (cQ n-1):=aw o_ o_;omega
     .exact h
   rw[aaR]at h2;simp(maxSteps:=300000) (disch:=omega)[↓ac,↓aa,-kP,h2]
 rw[aH YT Zl rfl];simp(maxSteps:=300000) (disch:=omega)[↓ac,↓aa,h64,an0]
abbrev vA:=@Int.natCast_mul
abbrev mR:=@Nat.and_two_pow_sub_one_eq_mod
def lB (low:Int)(w:Nat):G_->Nat->Nat
 |[],n=>n
 |v::r,n=>lB low w r (n*w+(v-low).toNat)
abbrev S5 (id:Nat)(vs:G_):Prop:=vs.length=d8 id∧∀v∈vs,dj id<=v∧v<dj id+cH id
def HW {low:Int}{w:Nat}:∀{r:G_}{n j:Nat},(∀v∈r,low<=v∧v<low+w)->n<w ^ j->lB low w r n<w ^ (j+r.length)
 |[],n,j,_,h=>h
 |v::r,n,j,hr,h=>by
  have h1:=hr v (.head _);have h2:n*w+(v-low).toNat<w ^ (j+1):=by
   rw[db];have:(n+1)*w<=w ^ j*w:=b8 _ h;rw[dc]at this;omega
  have:=HW (r:=r) (λq hq=>hr q (.tail _ hq)) h2;rw[lB,ar,show j+(r.length+1)=j+1+r.length by omega];exact this
def aep (id:Nat)(hid:ju id)(vs:G_)(hl:vs.length=d8 id)(N:Nat):∀(r:G_) (i n:Nat),vs.drop i=r->(∀v∈r,dj id<=v∧v<dj id+cH id)->n<cH id ^ i->
  (Dn prog).code (.loop wb) ⟨[(6,.ptr 0 0),(8,A_ n),(26,.d (.lst (aF vs))),(27,A_ vs.length),(28,A_ i)],⟨[(0,.cells [A_ (d8 id),A_ (dj id),A_ (dj id+cH id-1),A_ (bM id)])],N⟩⟩ =
  some (.exit 1,⟨[(8,A_ (lB (dj id) (cH id) r n))],⟨[],N⟩⟩):=by
 obtain⟨k1,k2,k3,k4,k5,k6,k7⟩:=lK id (fR hid);have hmany:bm id=cH id ^ d8 id:=rfl;intro r
 induction r with
 |nil =>
  intro i n hd hr hn;have hi:=bg hd;rw[ah J7,lB];simp(maxSteps:=300000) (disch:=omega)[↓aa]
 |cons v r ih =>
  intro i n hd hr hn;have hv:=hr v (.head _);have hg:=yb hd;have hlt:=bE hd;have hw:=adu (d8 id) (dj id) (bM id) (cH id) o_ o_;have h2:n*cH id+(v-dj id).toNat<cH id ^ (i+1):=by
   rw[db];have:(n+1)*cH id<=cH id ^ i*cH id:=b8 _ hn;rw[dc]at this;omega
  have h3:cH id ^ (i+1)<=cH id ^ d8 id:=aw o_ o_;have h5:=ih (i+1) (n*cH id+(v-dj id).toNat) (bt hd) (λq hq=>hr q (.tail _ hq)) h2;have c1:((i+1:Nat):Int)=(i:Int)+1:=rfl;have h4:n*cH id<=300:=o_;have c2:((n*cH id+(v-dj id).toNat:Nat):Int)=(n:Int)*cH id+v-dj id:=by
   have:(((v-dj id).toNat:Nat):Int)=v-dj id:=o_;rw[Int.natCast_add,vA,this];omega
  have h6:0<=(n:Int)*cH id∧(n:Int)*cH id<=300:=by
   have:(n:Int)*cH id=((n*cH id:Nat):Int):=by rw[vA]
   omega
  rw[c1,c2]at h5;rw[ah J7,lB,<-h5];simp(maxSteps:=300000) (disch:=omega)[↓ac,↓aa,hg,hw]
def XX (id:Nat)(hid:ju id)(vs:G_)(hv:S5 id vs):bi prog Sb [A_ id,.d (.lst (aF vs))]=some (.tup [A_ (lB (dj id) (cH id) vs 0),A_ 0]):=by
 have ho:=N1 id (fR hid);have h:=aep id hid vs hv.1 1 vs 0 0 rfl hv.2 (by rw[Nat.pow_zero];omega);have c0:((0:Nat):Int)=0:=rfl;have hl:=hv.1;obtain⟨k1,k2,k3,k4,k5,k6,k7⟩:=lK id (fR hid);simp only[Vp]at ho;rw[c0]at h;rw[aH ahz ah8 rfl];simp(maxSteps:=300000) (disch:=omega)[↓ac,↓aa,ho,h]
def Ol:∀id∈ids,(dF id).all (λe=>decide (e<bm id))=true∧(dF id).length=bm id∧bM id<=2:=e_
def ab3 {id e:Nat}(h:ju id)(he:e<bm id):nth (dF id) e<bm id:=by
 obtain⟨h1,h2,_⟩:=Ol id (fR h);have:=bJ.1 h1 _ (jM (l:=dF id) (i:=e) o_);simpa using this
def ko (id e:Nat):C_:=aq (nth (dF id) e / 2 ^ bM id+1) (2*cQ (nth (dF id) e / 2 ^ bM id+1)-1)++aq (nth (dF id) e % 2 ^ bM id) (bM id)
def ayS {n k P:Nat}(hP:2 ^ k=P)(hk:k<=62)(h:n<9223372036854775808):eW .and (A_ (n:Int)) (A_ ((P:Int)-1))=some (.int .i64 ((n % P:Nat):Int)):=by
 have h1:2 ^ k<=2 ^ 62:=aw o_ hk;have h2:=bV k;have:=ao1 (k:=.i64) (a:=n) (b:=2 ^ k-1) (by simpa [jW,IntKind.signed] using h) (by simp[jW,IntKind.signed];omega);rw[mR]at this;subst hP;have c:((2 ^ k-1:Nat):Int)=((2 ^ k:Nat):Int)-1:=o_;rw[c]at this;exact this
def adB (id e:Nat)(hid:ju id)(he:e<bm id):bi prog VF [nD id,A_ e]=some (.tup [.own true 1 (ai (ko id e)),A_ 0]):=by
 have hr:=YD id hid;obtain⟨h1,h2,h3⟩:=Ol id (fR hid);have hm:bm id<=300:=by have:=lK id (fR hid);omega
 have hrk:=ab3 hid he;have hg:(cX (dF id))[e]?=some [.int .i64 (nth (dF id) e:Nat)]:=Eq o_;unfold ko;simp only[nD]at hr⊢;generalize nth (dF id) e=r at *;have q1:=an6 (n:=r) (k:=bM id) o_;have q2:=Ud (m:=bM id) o_;have hP:1<=2 ^ bM id∧2 ^ bM id<=2 ^ 2:=⟨bV _,aw o_ h3⟩
 have hmod:r % 2 ^ bM id<2 ^ bM id:=eC _ hP.1;have q3:=ayS (n:=r) (k:=bM id) rfl o_ o_;have hdv:r / 2 ^ bM id<=r:=kW _ _;have hr3:r<300:=o_;generalize hPP:2 ^ bM id=PP at *;generalize r / PP=RQ at *;generalize r % PP=RM at *;have q4:=agy (RQ+1) o_;have hL1:=H0 (n:=RQ+1);have hL2:=uW (n:=RQ+1) o_;have hL9:cQ (RQ+1)<=9:=by
  rcases bH 9 (cQ (RQ+1)) with h|h
  .have:2 ^ 9<=2 ^ (cQ (RQ+1)-1):=aw o_ o_;omega
  .exact h
 have hL0:1<=cQ (RQ+1):=by unfold cQ;rw[aa o_];omega
 have hpw:2 ^ cQ (RQ+1)<=2 ^ (2*cQ (RQ+1)-1):=aw o_ o_;have p1:=lm [] ((RQ+1:Nat):Int) ((2*cQ (RQ+1)-1:Nat):Int) s_ o_ .nl (.inr ⟨rfl,rfl⟩);have ho1:nq ((RQ+1:Nat):Int) ((2*cQ (RQ+1)-1:Nat):Int):=by
  simp only[nq,au];generalize 2 ^ (2*cQ (RQ+1)-1)=Z at *;omega
 rw[ac ho1]at p1;have p2:=λb (hb:b.length<=900000000)=>lm b (RM:Int) ((bM id:Nat):Int) hb o_ _ (.inl rfl)
 have ho2:nq (RM:Int) ((bM id:Nat):Int):=by simp only[nq,au,hPP];omega
 simp only[ac ho2]at p2;simp only[au,aK]at p1 p2;have p3:=p2 (aq (RQ+1) (2*cQ (RQ+1)-1)) g_;have c1:((2*cQ (RQ+1)-1:Nat):Int)=2*(cQ (RQ+1):Int)-1:=o_;have c2:((RQ+1:Nat):Int)=(RQ:Int)+1:=rfl;rw[c1,c2]at p1;rw[c2]at q4;clear p2 hL1 hL2 hpw ho1 ho2;generalize aq (RQ+1) (2*cQ (RQ+1)-1)++aq RM (bM id)=RES at *;generalize aq (RQ+1) (2*cQ (RQ+1)-1)=RE1 at *;generalize cQ (RQ+1)=LN at *;generalize bM id=pl at *;generalize cw id=es at *;rw[aH akr ajH rfl];simp(maxSteps:=300000) (disch:=omega)[↓ac,↓aa,hr,hg,-kP,-sq,q1,q2,q3,q4,p1,p3]
abbrev tk:=@List.flatten_nil
abbrev fb:=@List.any_cons
abbrev mW:=@Bool.false_or
def adp {a b:C_}:[[D.lst (ai a)],[D.lst (ai b)]]=oG [a,b]:=rfl
def amJ {a b c d:C_}:[[D.lst (ai a)],[D.lst (ai b)],[D.lst (ai c)],[D.lst (ai d)]]=oG [a,b,c,d]:=rfl
def AN {id e:Nat}(hid:ju id)(he:e<bm id):1<=(ko id e).length∧(ko id e).length<=20:=by
 obtain⟨h1,h2,h3⟩:=Ol id (fR hid);have hm:bm id<=300:=by have:=lK id (fR hid);omega
 have hrk:=ab3 hid he;have hdv:nth (dF id) e / 2 ^ bM id<=nth (dF id) e:=kW _ _;unfold ko;rw[al,dI,dI];generalize nth (dF id) e / 2 ^ bM id=RQ at *;have hL2:=uW (n:=RQ+1) o_;have hL9:cQ (RQ+1)<=9:=by
  rcases bH 9 (cQ (RQ+1)) with h|h
  .have:2 ^ 9<=2 ^ (cQ (RQ+1)-1):=aw o_ o_;omega
  .exact h
 have hL0:1<=cQ (RQ+1):=by unfold cQ;rw[aa o_];omega
 omega
def acZ (b:C_)(hb:b.length<=900000000)(x:AV)(hx:x=.d (.lst (ai b))∨x=.nl∧b=[])(d:Int)(hd:-60<=d∧d<=60):bi prog Fc [x,A_ d]=some (.tup [.own true 1 (ai (b++ko 12 (d+60).toNat)),A_ 0]):=by
 obtain⟨E,rfl⟩:∃E:Nat,d=(E:Int)-60:=⟨(d+60).toNat,o_⟩
 have hok:ju 12:=o_;have he:((E:Int)-60+60).toNat<bm 12:=by show _<121;omega
 have hE:=XX 12 hok [(E:Int)-60] ⟨rfl,λv hv=>by
  rw[List.mem_singleton]at hv;show -60<=v∧v < -60+((121:Nat):Int);omega⟩
 have e1:lB (dj 12) (cH 12) [(E:Int)-60] 0=((E:Int)-60+60).toNat:=by
  show 0*121+((E:Int)-60-(-60)).toNat=_;omega
 have e2:((E:Int)-60+60).toNat=E:=o_;rw[e2]at e1 he⊢;rw[e1]at hE;have hG:=WH 12 hok;have hC:=adB 12 E hok he;have hcl:=AN hok he;have hcat:=aiU [b,ko 12 E] s_ g_;have c12:((12:Nat):Int)=12:=rfl;have i1:aF [(E:Int)-60]=[[.int .i64 ((E:Int)-60)]]:=rfl;simp only[ZU,nD,c12,i1,dt,tk,bh]at hE hG hC hcat;rw[<-adp]at hcat;generalize ko 12 E=CB at *;generalize cw 12=es at *;generalize dF 12=rs at *;generalize bM 12=pl at *;rw[aH aj2 ajh rfl];rcases hx with rfl|⟨rfl,rfl⟩
 .simp(maxSteps:=300000) (disch:=omega)[↓ac,↓aa,hE,hG,hC,hcat]
 .have n0:ai []=[]:=rfl;rw[n0]at hcat;simp(maxSteps:=300000) (disch:=omega)[↓ac,↓aa,hE,hG,hC,hcat]
def W0 (F:AV)(P:Int->Bool)(l:G_)(hl:l.length<=1000000000)(h:am)(N:Nat)(hF:firm (share F)=F)(hc:∀v∈l,cq (Dn prog) F [A_ v] ⟨h,N⟩=some (B_ (P v),⟨h,N⟩)):∀(r:G_) (i:Nat),l.drop i=r->
  (r.any P=true∧∃k:Nat,(Dn prog).code (.loop gm) ⟨[(0,.d (.lst (aF l))),(1,F),(7,A_ l.length),(8,A_ i)],⟨h,N⟩⟩=some (.ret,⟨[(4,A_ k)],⟨h,N⟩⟩))∨
  (r.any P=false∧(Dn prog).code (.loop gm) ⟨[(0,.d (.lst (aF l))),(1,F),(7,A_ l.length),(8,A_ i)],⟨h,N⟩⟩=some (.exit 0,⟨[],⟨h,N⟩⟩)):=by
 intro r
 induction r with
 |nil =>
  intro i hd;have hi:=bg hd;refine .inr ⟨rfl,?_⟩;rw[ah jn];simp(maxSteps:=300000) (disch:=omega)[↓aa]
 |cons v r ih =>
  intro i hd;have hg:=yb hd;have hlt:=bE hd;have hv:=hc v (by rw[<-aT i l,hd];simp);have h5:=ih (i+1) (bt hd);have c1:((i+1:Nat):Int)=(i:Int)+1:=rfl;rw[c1]at h5
  cases hp:P v with
  |true =>
   rw[hp]at hv;refine .inl ⟨by rw[fb,hp];rfl,i,?_⟩;rw[ah jn];simp(maxSteps:=300000) (disch:=omega)[↓ac,↓aa,hg,hF,hv]
  |false =>
   rw[hp]at hv;rw[fb,hp,mW];rcases h5 with ⟨e1,k,e2⟩|⟨e1,e2⟩
   .refine .inl ⟨e1,k,?_⟩;rw[ah jn,<-e2];simp(maxSteps:=300000) (disch:=omega)[↓ac,↓aa,hg,hF,hv]
   .refine .inr ⟨e1,?_⟩;rw[ah jn,<-e2];simp(maxSteps:=300000) (disch:=omega)[↓ac,↓aa,hg,hF,hv]
def Af (F:AV)(P:Int->Bool)(l:G_)(hl:l.length<=1000000000)(h:am)(N:Nat)(hF:firm (share F)=F)(hF2:firm F=F)(hc:∀v∈l,cq (Dn prog) F [A_ v] ⟨h,N⟩=some (B_ (P v),⟨h,N⟩)) :
  (Dn prog).call mD [.d (.lst (aF l)),F] ⟨h,N⟩=some (B_ (l.any P),⟨h,N⟩):=by
 have h1:=W0 F P l hl h N hF hc l 0 rfl;have c0:((0:Nat):Int)=0:=rfl;rw[c0]at h1;have h2:∃k:Int,(0<=k↔l.any P=true)∧(Dn prog).call yi [.d (.lst (aF l)),F] ⟨h,N⟩=some (A_ k,⟨h,N⟩):=by
  rcases h1 with ⟨e1,k,e2⟩|⟨e1,e2⟩
  .refine⟨k,⟨λ_=>e1,λ_=>by omega⟩,?_⟩;rw[aZ yk ym rfl];simp(maxSteps:=300000) (disch:=omega)[e2]
  .refine⟨-1,⟨λh=>by omega,λh=>by rw[e1]at h;exact absurd h s_⟩,?_⟩;rw[aZ yk ym rfl];simp(maxSteps:=300000) (disch:=omega)[e2]
 obtain⟨k,e1,e2⟩:=h2;rw[aZ GK GF rfl]
 cases hp:l.any P with
 |true =>
  have:=e1.2 hp;simp(maxSteps:=300000) (disch:=omega)[↓ac,hF2,e2]
 |false =>
  have:¬0<=k:=λh=>by rw[e1.1 h]at hp;exact absurd hp (by simp)
  simp(maxSteps:=300000) (disch:=omega)[↓aa,hF2,e2]
def iH (id:Nat):Nat:=[0,1,1,2,2,4,4,7,7,12,12,8191,0].getD id 0
abbrev auH:D_:=[A_ 0,A_ 1,A_ 1,A_ 2,A_ 2,A_ 4,A_ 4,A_ 7,A_ 7,A_ 12,A_ 12,A_ 8191,A_ 0]
def aen:bi prog Zk []=some (.agg auH):=A7 100 (by kernel_rfl)
def awV {id:Nat}(h:id<=12):ixV 13 1 false (.agg auH) (A_ id)=some (A_ (iH id)):=by
 obtain rfl|rfl|rfl|rfl|rfl|rfl|rfl|rfl|rfl|rfl|rfl|rfl|rfl:id=0∨id=1∨id=2∨id=3∨id=4∨id=5∨id=6∨id=7∨id=8∨id=9∨id=10∨id=11∨id=12:=o_
 all_goals rfl
def bO (id:Nat):Nat:=if id<5 then 4 else 2
def asx (id:Nat):bi prog ZV [A_ id]=some (A_ (bO id)):=by
 rw[aH amP aok rfl];unfold bO;by_cases h:id<5
 .simp(disch:=omega)[↓ac]
 .simp(disch:=omega)[↓aa]
def LH (m:Nat)(v:Int):Bool:=decide ((m:Int)<v∨v < -(m:Int))
def azB (m:Nat)(hm:m<=100000)(v:Int)(N:Nat):(Dn prog).call GI [A_ v,.ptr 0 0] ⟨[(0,.cells [A_ m])],N⟩=some (B_ (LH m v),⟨[(0,.cells [A_ m])],N⟩):=by
 rw[aZ aeY aeB rfl];unfold LH;by_cases h1:(m:Int)<v
 .simp(maxSteps:=300000) (disch:=omega)[↓ac,h1]
 .by_cases h2:v < -(m:Int)
  .simp(maxSteps:=300000) (disch:=omega)[↓ac,↓aa,h1,h2]
  .simp(maxSteps:=300000) (disch:=omega)[↓ac,↓aa,h1,h2]
def SV (id:Nat)(hid:1<=id∧id<=11)(vs:G_)(hv:vs.length=bO id):bi prog V8 [A_ id,.d (.lst (aF vs))]=some (.tup [B_ ((!(vs.any (LH (iH id))))),A_ 0]):=by
 have hm:iH id<=100000:=by
  obtain rfl|rfl|rfl|rfl|rfl|rfl|rfl|rfl|rfl|rfl|rfl:id=1∨id=2∨id=3∨id=4∨id=5∨id=6∨id=7∨id=8∨id=9∨id=10∨id=11:=o_
  all_goals decide
 have hd4:bO id<=4:=by unfold bO;split<;>omega
 have h1:=Af (.fn GI [] [.ptr 0 0]) (LH (iH id)) vs o_ [(0,.cells [A_ (iH id)])] 1 rfl rfl λv _=>by
  simp(maxSteps:=300000) (disch:=omega)[azB (iH id) hm v 1]
 have h2:=awV (id:=id) o_;have h3:=asx id;rw[aH ai7 ajE rfl];simp(maxSteps:=300000) (disch:=omega)[↓ac,↓aa,h3,aen,h2,h1]
def kt (id:Nat)(v:Int):Int:=if id=11∧16<=v.natAbs then 16 else v.natAbs
def pV (v:Int):C_:=if v=0 then [] else if v<0 then [1] else [0]
def wW (id:Nat)(v:Int):C_:=if id=11∧16<=v.natAbs then List.replicate (cQ v.natAbs-5) 1++(0::aq (v.natAbs % 2 ^ (cQ v.natAbs-1)) (cQ v.natAbs-1)) else []
def Fd (id:Nat)(vs:G_):C_:=if kx id then ko id (lB (dj id) (cH id) vs 0)
 else ko id (lB (dj id) (cH id) (vs.map (kt id)) 0)++(vs.flatMap pV++vs.flatMap (wW id))
def aqQ (v:Int)(h:-100000<=v∧v<=100000):bi prog Va [A_ v]=some (A_ v.natAbs):=by
 rw[aH akE akf rfl];by_cases h0:v<0
 .have:((v.natAbs:Nat):Int)=-v:=o_;rw[this];simp(disch:=omega)[↓ac]
 .have:((v.natAbs:Nat):Int)=v:=o_;rw[this];simp(disch:=omega)[↓aa]
def atk:∀m∈List.range 9,bi prog Md [.d (.lst [[.int .u8 1]]),A_ m]=some (.own true 1 (ai (List.replicate m 1))):=IE 100 (List.range 9) (by kernel_rfl)
def apd {m:Nat}{h:am}{xs ys:E_}(hl:xs.length+ys.length<=1000000000):∃v,dX m h (aD m xs) ys=some (v,h)∧firm v=aD m (xs++ys):=by
 cases xs with
 |nil =>
  cases ys with
  |nil=>exact⟨.nl,rfl,rfl⟩
  |cons y r =>
   simp only[ar,bf]at hl;exact⟨.own true m (y::r),by simp(disch:=omega)[aD,↓ac],rfl⟩
 |cons x r =>
  exact⟨.own false m (x::r++ys),by
   grind [acS,Ua,abj,ams,alL,aU],rfl⟩
def awr {v:Int}(h:-100000<=v∧v<0):wr .u64 v=v+18446744073709551616:=by
 grind [wr,ot,IntKind.wrap,IntKind.bits,IntKind.signed]
def aj1 (id:Nat)(hid:1<=id∧id<=11)(pl ents ranks:D)(x0:AV)(vs:G_)(hl:vs.length<=4)(N:Nat):∀(r:G_) (i:Nat) (sz:G_) (sg es:C_),vs.drop i=r->(∀v∈r,v.natAbs<=8191)->sz.length<=100+i->sg.length<=100+i->es.length<=100+100*i->
  (Dn prog).code (.loop zO) ⟨[(0,x0),(4,.ptr 0 0),(15,aD 1 (aF sz)),(16,aD 1 (ai sg)),(17,aD 1 (ai es)),(69,.d (.lst (aF vs))),(70,A_ vs.length),(71,A_ i)],⟨[(0,.cells [A_ id,.d pl,.d ents,.d ranks])],N⟩⟩ =
  some (.exit 0,⟨[(0,x0),(4,.ptr 0 0),(15,aD 1 (aF (sz++r.map (kt id)))),(16,aD 1 (ai (sg++r.flatMap pV))),(17,aD 1 (ai (es++r.flatMap (wW id))))],⟨[(0,.cells [A_ id,.d pl,.d ents,.d ranks])],N⟩⟩):=by
 intro r
 induction r with
 |nil =>
  intro i sz sg es hd hr h1 h2 h3;have hi:=bg hd;rw[ah Gy];simp(disch:=omega)[↓aa]
 |cons v r ih =>
  intro i sz sg es hd hr h1 h2 h3;have hg:=yb hd;have hlt:=bE hd;have hv:=hr v (.head _);have hs:=aqQ v o_;have c1:((i+1:Nat):Int)=(i:Int)+1:=rfl;have hlg:=bw (l:=sg);have hle:=bw (l:=es);have hsz:=iA (l:=sz);obtain⟨n,hn⟩:∃n,n=v.natAbs:=⟨_,rfl⟩
  rw[<-hn]at hs hv;have hvs:aau .u64 (A_ v)=some (.int .u64 (wr .u64 v)):=rfl;have hpos:0<v->eW .shr (.d (.int .u64 v)) (.d (.int .u64 63))=some (.int .u64 0):=λh=>by
   rw[kP o_];have:min ((63:Int)).toNat IntKind.u64.bits=63:=rfl
   grind
  have hneg:v<0->eW .shr (.d (.int .u64 (wr .u64 v))) (.d (.int .u64 63))=some (.int .u64 1):=λh=>by
   rw[awr o_,kP o_];have:min ((63:Int)).toNat IntKind.u64.bits=63:=rfl
   grind
  have hb1:ai sg++[[D.int .u8 1]]=ai (sg++[1]):=by simp[ai]
  have hb0:ai sg++[[D.int .u8 0]]=ai (sg++[0]):=by simp[ai]
  by_cases he:id=11∧16<=v.natAbs
  .obtain⟨h11,h16⟩:=he;rw[<-hn]at h16;have hL1:=H0 (n:=n);have hL2:=uW (n:=n) o_;have hL13:cQ n<=13:=by
    rcases bH 13 (cQ n) with h|h
    .have:2 ^ 13<=2 ^ (cQ n-1):=aw o_ o_;omega
    .exact h
   have hL5:5<=cQ n:=by
    rcases bH (cQ n) 5 with h|h
    .have:2 ^ cQ n<=2 ^ 4:=aw o_ o_;omega
    .exact h
   obtain⟨m,hm⟩:∃m,cQ n=m+5:=⟨cQ n-5,o_⟩
   have e1:kt id v=16:=by grind [kt]
   have e2:wW id v=List.replicate m 1++(0::aq (n % 2 ^ (m+4)) (m+4)):=by
    grind [wW]
   have hl2:=agy n o_;have hrp:=atk m (dU.2 o_);have hlr:(ai (List.replicate m 1)).length=m:=u_;obtain⟨w,hw1,hw2⟩:=apd (m:=1) (h:=[(0,.cells [A_ id,.d pl,.d ents,.d ranks])]) (xs:=ai es) (ys:=ai (List.replicate m 1)) o_;have hbe:ai es++ai (List.replicate m 1)=ai (es++List.replicate m 1):=ahN;rw[hbe]at hw2;have hlw:(ai (es++List.replicate m 1)).length=es.length+m:=u_;have hbw:ai (es++List.replicate m 1)++[[D.int .u8 0]]=ai (es++List.replicate m 1++[0]):=by simp[ai]
   have hp4:2 ^ (m+4)<=2 ^ 12:=aw o_ o_;have hmod:n % 2 ^ (m+4)<2 ^ (m+4):=eC _ (bV _);have q2:=Ud (m:=m+4) o_;have q3:=ayS (n:=n) (k:=m+4) rfl o_ o_;have p1:=lm (es++List.replicate m 1++[0]) ((n % 2 ^ (m+4):Nat):Int) ((m+4:Nat):Int) d_ o_ _ (.inl rfl);rw[ac d_]at p1;simp only[au]at p1;have c4:((m+4:Nat):Int)=(m:Int)+4:=rfl;have c5:((m+5:Nat):Int)=(m:Int)+5:=rfl;rw[hm,c5]at hl2;rw[c4]at p1 q2;have h5:=λs2 (h:s2.length<=101+i)=>ih (i+1) (sz++[16]) s2 (es++List.replicate m 1++[0]++aq (n % 2 ^ (m+4)) (m+4)) (bt hd) (λq hq=>hr q (.tail _ hq)) d_ o_ (by simp;omega)
   generalize n % 2 ^ (m+4)=RM at *;generalize 2 ^ (m+4)=PP at *;have eo:aD 1 (aF (sz++[16]))=.own false 1 (aF (sz++[16])):=lC (by simp[aF]);have eo3:aD 1 (ai (es++List.replicate m 1++[0]++aq RM (m+4)))=.own false 1 (ai (es++List.replicate m 1++[0]++aq RM (m+4))):=lC (by simp[ai]);have eL:es++List.replicate m 1++[0]++aq RM (m+4)++r.flatMap (wW id)=es++(List.replicate m 1++(0::aq RM (m+4))++r.flatMap (wW id)):=s_;simp only[eo3,eL]at h5;generalize es++List.replicate m 1++[0]++aq RM (m+4)=ES at *;generalize es++List.replicate m 1++[0]=E0 at *;generalize es++List.replicate m 1=EM at *;simp only[c1,eo,ax,cm]at h5;rw[ah Gy,ct,aE,aE,e1,e2];have v0:v≠0:=o_;by_cases hvn:v<0
   .have e3:pV v=[1]:=by grind [pV]
    have eo2:aD 1 (ai (sg++[1]))=.own false 1 (ai (sg++[1])):=lC (by simp[ai]);have h6:=h5 (sg++[1]) d_;simp only[eo2,ax,cm]at h6;rw[e3,cm];simp only[ax,aR]at h6⊢;rw[<-h6];simp(disch:=omega)[↓ac,↓aa,hg,hs,-kP,-sq,hneg hvn,hb1,hl2,hrp,hw1,hw2,hbw,q2,q3,p1]
   .have hvp:0<v:=o_;have e3:pV v=[0]:=by grind [pV]
    have eo2:aD 1 (ai (sg++[0]))=.own false 1 (ai (sg++[0])):=lC (by simp[ai]);have h6:=h5 (sg++[0]) d_;simp only[eo2,ax,cm]at h6;rw[e3,cm];simp only[ax,aR]at h6⊢;rw[<-h6];simp(disch:=omega)[↓ac,↓aa,hg,hs,-kP,-sq,hpos hvp,hb0,hl2,hrp,hw1,hw2,hbw,q2,q3,p1]
  .have e1:kt id v=n:=by grind [kt]
   have e2:wW id v=[]:=by grind [wW]
   have h5:=λs2 (h:s2.length<=101+i)=>ih (i+1) (sz++[(n:Int)]) s2 es (bt hd) (λq hq=>hr q (.tail _ hq)) d_ o_ (by omega)
   have eo:aD 1 (aF (sz++[(n:Int)]))=.own false 1 (aF (sz++[(n:Int)])):=lC (by simp[aF]);simp only[c1,eo,ax,cm]at h5;rw[ah Gy,ct,aE,aE,e1,e2,aK];have hen:¬(id=11∧16<=n):=o_;by_cases v0:v=0
   .have e3:pV v=[]:=by grind [pV]
    rw[e3,aK,<-h5 sg o_];by_cases h11:id=11
    .simp(disch:=omega)[↓ac,↓aa,hg,hs]
    .simp(disch:=omega)[↓ac,↓aa,hg,hs]
   .by_cases hvn:v<0
    .have e3:pV v=[1]:=by grind [pV]
     have eo2:aD 1 (ai (sg++[1]))=.own false 1 (ai (sg++[1])):=lC (by simp[ai]);have h6:=h5 (sg++[1]) d_;simp only[eo2,ax,cm]at h6;rw[e3,cm,<-h6];by_cases h11:id=11
     .simp(disch:=omega)[↓ac,↓aa,hg,hs,-kP,hneg hvn,hb1]
     .simp(disch:=omega)[↓ac,↓aa,hg,hs,-kP,hneg hvn,hb1]
    .have hvp:0<v:=o_;have e3:pV v=[0]:=by grind [pV]
     have eo2:aD 1 (ai (sg++[0]))=.own false 1 (ai (sg++[0])):=lC (by simp[ai]);have h6:=h5 (sg++[0]) d_;simp only[eo2,ax,cm]at h6;rw[e3,cm,<-h6];by_cases h11:id=11
     .simp(disch:=omega)[↓ac,↓aa,hg,hs,-kP,hpos hvp,hb0]
     .simp(disch:=omega)[↓ac,↓aa,hg,hs,-kP,hpos hvp,hb0]
theorem Cl:∀id∈ids.take 11,(kx id=true->dj id=-(iH id:Int)∧cH id=2*iH id+1)∧(kx id=false->dj id=0∧(id≠11->cH id=iH id+1)∧(id=11->cH id=17))∧d8 id=bO id∧iH id<=8191:=e_
theorem Ul {id:Nat}(h:1<=id∧id<=11):id∈ids.take 11:=by
 show id∈[1,2,3,4,5,6,7,8,9,10,11];simp only[aC,cW,fk];omega
abbrev SX (id:Nat)(vs:G_):Prop:=vs.length=bO id∧∀v∈vs,v.natAbs<=iH id
def axw {id:Nat}{vs:G_}(h:∀v∈vs,v.natAbs<=iH id):vs.any (LH (iH id))=false:=by
 grind [LH]
def NZ {id:Nat}(hid:1<=id∧id<=11){vs:G_}(h:SX id vs):(kx id=true->S5 id vs)∧(kx id=false->S5 id (vs.map (kt id))):=by
 grind [Cl,Ul,kt]
def aiq {vs:G_}:(vs.flatMap pV).length<=vs.length:=by
 induction vs<;>grind [pV]
def axZ {id:Nat}{v:Int}(h:v.natAbs<=8191):(wW id v).length<=30:=by
 unfold wW;split
 .have hL2:v.natAbs≠0->2 ^ (cQ v.natAbs-1)<=v.natAbs:=uW;have hL13:cQ v.natAbs<=13:=by
   rcases bH 13 (cQ v.natAbs) with h|h
   .have:2 ^ 13<=2 ^ (cQ v.natAbs-1):=aw o_ o_;omega
   .exact h
  grind [dI]
 .simp
def Wg {id:Nat}:∀{vs:G_},(∀v∈vs,v.natAbs<=8191)->(vs.flatMap (wW id)).length<=30*vs.length
 |[],_=>by simp
 |v::r,h=>by
  have h1:=axZ (id:=id) (h v (.head _));have h2:=Wg (id:=id) (vs:=r) λq hq=>h q (.tail _ hq)
  grind
def ar1 (b:C_)(hb:b.length<=900000000)(x:AV)(hx:x=.d (.lst (ai b))∨x=.nl∧b=[])(id:Nat)(hid:1<=id∧id<=11)(vs:G_)(hv:SX id vs):bi prog Hy [x,nD id,.d (.lst (aF vs))]=some (.tup [.own true 1 (ai (b++Fd id vs)),A_ 0]):=by
 have hok:ju id:=o_;have hF:=SV id hid vs hv.1;rw[axw hv.2]at hF;have hS:=RH id (Ul hid);obtain⟨m1,m2,m3,m4⟩:=Cl id (Ul hid);obtain⟨f1,f2⟩:=NZ hid hv;have hE:=XX id hok;have hC:=λe he=>adB id e hok he
 have hd4:bO id<=4:=by grind [bO]
 have hvl:=hv.1;have hv8:∀v∈vs,v.natAbs<=8191:=λv h=>aM (hv.2 v h) m4
 simp only[nD]at hC⊢;have hmany:bm id=cH id ^ d8 id:=rfl;unfold Fd;by_cases hs:kx id=true
 .rw[hs]at hS;have hin:=f1 hs;have hE:=hE vs hin;have hlt:=HW (n:=0) (j:=0) hin.2 s_;rw[bC,hin.1,<-hmany]at hlt;have hC:=hC _ hlt;have hcl:=AN hok hlt;have hcat:=aiU [b,ko id (lB (dj id) (cH id) vs 0)] s_ d_;simp only[dt,tk,bh]at hcat;rw[<-adp]at hcat;rw[ac hs];generalize ko id (lB (dj id) (cH id) vs 0)=CB at *;generalize lB (dj id) (cH id) vs 0=EN at *;generalize cw id=es at *;generalize dF id=rs at *;generalize bM id=pl at *;rw[aH X8 XP rfl];rcases hx with rfl|⟨rfl,rfl⟩
  .simp(disch:=omega)[↓ac,hF,hS,hE,hC,hcat]
  .have n0:ai []=[]:=rfl;rw[n0]at hcat;simp(disch:=omega)[↓ac,hF,hS,hE,hC,hcat]
 .have hs2:kx id=false:=u_;rw[hs2]at hS;have hin:=f2 hs2;have hE:=hE _ hin;have hlt:=HW (n:=0) (j:=0) hin.2 s_;rw[bC,hin.1,<-hmany]at hlt;have hC:=hC _ hlt;have hcl:=AN hok hlt;have hsl:=aiq (vs:=vs);have hel:=Wg (id:=id) hv8;have hcat:=aiU [b,ko id (lB (dj id) (cH id) (vs.map (kt id)) 0),vs.flatMap pV,vs.flatMap (wW id)] s_ d_;simp only[dt,tk,bh]at hcat;rw[<-amJ]at hcat;have hl0:=λx0=>aj1 id hid (.int .i64 (bM id)) (.lst (cX (cw id))) (.lst (cX (dF id))) x0 vs o_ 1 vs 0 [] [] [] rfl hv8 s_ s_ (by simp)
  have c0:((0:Nat):Int)=0:=rfl;have n0:ai []=[]:=rfl;have n1:aF []=[]:=rfl;have hne:aF (vs.map (kt id))≠[]:=by
   grind [aF,List.length_nil,bO]
  simp only[n0,n1,qp,aK,c0,lC hne]at hl0;rw[aa hs];generalize ko id (lB (dj id) (cH id) (vs.map (kt id)) 0)=CB at *;generalize lB (dj id) (cH id) (vs.map (kt id)) 0=EN at *;generalize cw id=es at *;rw[aH X8 XP rfl];rcases hx with rfl|⟨rfl,rfl⟩
  .simp(disch:=omega)[↓ac,hF,hS,hl0,hE,hC,hcat]
  .rw[n0]at hcat;simp(disch:=omega)[↓ac,hF,hS,hl0,hE,hC,hcat]
def qS (k n w z:Int):C_:=if k=0 then [] else if k=13 then (if z<0 then aq n.toNat 9 else ko 12 (n-z+60).toNat) else ko 12 (n-w+60).toNat
def qo:G_->G_->Int->Int->C_
 |k::r,n::t,w,z=>qS k n w z++qo r t (jZ k n w z).1 (jZ k n w z).2
 |_,_,_,_=>[]
def pT:H_->K_->Int->Int->C_
 |l::r,t::s,w,z=>qo (aP l) t w z++(match dP (aP l) t w z with
  |some (w,z)=>pT r s w z
  |none=>[])
 |_,_,_,_=>[]
def adX {k n w z:Int}(h:k≠0->lI k n w z):(qS k n w z).length<=20:=by
 unfold qS;by_cases h0:k=0
 .simp_all
 .have hok:ju 12:=o_;have hc:=λe (he:e<121)=>(AN (id:=12) (e:=e) hok he).2
  by_cases h13:k=13
  .by_cases hz:z<0
   .simp_all
   grind
  grind
structure LP (F:Obj->AV->Int->Int->am)(ss:K_)(g:Int)(L N:Nat):Prop where
 gl:∀q v w z,get (F q v w z) L=some q
 pl:∀q v w z q',put (F q v w z) L q'=F q' v w z
 g0:∀q v w z,get (F q v w z) 0=some (.cells [v])
 p0:∀q v w z v',put (F q v w z) 0 (.cells [v'])=F q v' w z
 g1:∀q v w z,get (F q v w z) 1=some (.cells [.d (.lst (cY ss))])
 g2:∀q v w z,get (F q v w z) 2=some (.cells [A_ w,A_ z])
 p2:∀q v w z w' z',put (F q v w z) 2 (.cells [A_ w',A_ z'])=F q v w' z'
 g3:∀q v w z,get (F q v w z) 3=some (.cells [.ptr 2 0])
 gN:∀q v w z,get (F q v w z) N=some (.cells [A_ g])
abbrev aFG (gs:H_)(g N:Nat):aV:=[(4,.ptr 0 0),(7,.ptr 1 0),(11,.ptr 3 0),(12,.ptr N 0),(32,.d (.lst (bz gs))),(33,A_ gs.length),(34,A_ g),(40,.fn jb [] [.ptr (N+1) 0])]
abbrev afC (gs:H_)(g N:Nat):Obj:=.loop (aFG gs g N) [41,42] ya xO false none
def aBL {F:Obj->AV->Int->Int->am}{L:Nat}(ss:K_)(hss:ss.length<=1000)(gs:H_)(hgs:gs.length<=1000)(g N:Nat)(H:LP F ss g L N)(t:G_)(ht:t.length<=100000)(hg:(cY ss)[g]?=some [.lst (aF t)])(a:Nat)(k:Int)(b:C_)(hb:b.length<=800000000)(w z:Int)(M:Nat)(n:Int)(r:G_)(hd:t.drop a=n::r)(h0:k=0->n=0)(h1:k≠0->lI k n w z)(hk:0<=k∧k<=13)(hw:uk w)(hz:uk z) :
  cq (Dn prog) (.yield L) [A_ (a:Int),A_ k] ⟨F (afC gs g N) (.own false 1 (ai b)) w z,M⟩=some (B_ true,⟨F (afC gs g N) (.own false 1 (ai (b++qS k n w z))) (jZ k n w z).1 (jZ k n w z).2,M⟩):=by
 have ha:=bE hd;have hn:=yb hd;have gl:g<ss.length:=by
  obtain⟨h,_⟩:=aN.1 hg;simpa using h
 have T:=λq v=>PA (hp:=λw z=>F q v w z) (A:=2) ⟨λs z=>H.g2 q v s z,λs z s' z'=>H.p2 q v s z s' z'⟩ k n w z M
 by_cases k0:k=0
 .have:=h0 k0;subst k0 this;simp(disch:=omega)[xF,xJ,↓ac,↓aa,hg,hn,H.gl,H.pl,H.g1,H.gN,jZ,qS];rfl
 .have hT:=h1 k0;have hn5:=Sy hT;have T:=λq v=>T q v o_ o_ (by omega)
  simp only[ac hT]at T;have e:(jZ k n w z)=if k=13 then (w,n) else (n,z):=by rw[jZ,aa k0]
  have es:qS k n w z=if k=13 then (if z<0 then aq n.toNat 9 else ko 12 (n-z+60).toNat) else ko 12 (n-w+60).toNat:=by grind [qS]
  unfold lI at hT;by_cases k13:k=13
  .rw[ac k13]at hT;rw[e,ac k13,es,ac k13];simp only[ac k13]at T;subst k13;by_cases hz0:z<0
   .rw[ac hz0];have p1:=lm b n 9 o_ o_ _ (.inl rfl);have c9:(9:Int).toNat=9:=rfl;rw[ac d_,c9]at p1;simp(disch:=omega)[xF,xJ,↓ac,↓aa,hg,hn,H.gl,H.pl,H.g0,H.p0,H.g1,H.g2,H.g3,H.gN,T,p1];rfl
   .have p1:=acZ b o_ _ (.inl rfl) (n-z) o_;simp(disch:=omega)[xF,xJ,↓ac,↓aa,hg,hn,H.gl,H.pl,H.g0,H.p0,H.g1,H.g2,H.g3,H.gN,T,p1];rfl
  .rw[aa k13]at hT;rw[e,aa k13,es,aa k13];have p1:=acZ b o_ _ (.inl rfl) (n-w) o_;simp(disch:=omega)[xF,xJ,↓aa,hg,hn,H.gl,H.pl,H.g0,H.p0,H.g1,H.g2,H.g3,H.gN,T,p1];rfl
abbrev FP (ss:K_)(g N:Nat)(l:Q_)(T:am)(q:Obj)(v:AV)(w z:Int):am :=
 (0,.cells [v])::(1,.cells [.d (.lst (cY ss))])::(2,.cells [A_ w,A_ z])::(3,.cells [.ptr 2 0])::(N,.cells [A_ g])::(N+1,.cells [.d (.lst (gK l))])::(N+1+1,q)::T
def aCq {ss:K_}{g N:Nat}{l:Q_}{T:am}(hN:4<=N):LP (FP ss g N l T) ss g (N+1+1) N:=by
 constructor<;>intro q m w z<;>(try intro q')<;>(try intro q'')<;>simp(disch:=omega)[↓aa]
abbrev ayH (ss:K_)(g N:Nat)(l:Q_)(q:Obj)(s:C_×Int×Int)(T:am):am:=FP ss g N l T q (.own false 1 (ai s.1)) s.2.1 s.2.2
def aD9 {ss:K_}{g N:Nat}{l:Q_}{q:Obj}(hN:4<=N):Tl (ayH ss g N l q) (N+1+1+1):=by
 constructor
 .intro s K o h;simp(disch:=omega)[↓aa]
 .intro s K o o' h;simp(disch:=omega)[↓aa]
 .intro s K o h;simp(disch:=omega)[↓aa]
 .intro s K o h;simp(disch:=omega)[↓aa]
def apP {bks t:G_}{a:Nat}{k n:Int}{w z:Int}(hk:bks[a]?=some k)(hd:t.drop a=n::t.drop (a+1)):qo (bks.drop a) (t.drop a) w z=qS k n w z++qo (bks.drop (a+1)) (t.drop (a+1)) (jZ k n w z).1 (jZ k n w z).2:=by
 grind [List.drop_eq_getElem_cons,qo]
def aBW (ss:K_)(hss:ss.length<=1000)(gs:H_)(hgs:gs.length<=1000)(g N:Nat)(hN:4<=N)(t:G_)(ht:t.length<=100000)(hg:(cY ss)[g]?=some [.lst (aF t)])(l:Q_)(hl:∀k∈aP l,0<=k∧k<=13)(hbl:(aP l).length<=100000)(fin:Int×Int)(TOT:C_) :
  Rnd (ayH ss g N l (afC gs g N)) noH (N+1+1+1) (N+1+1) (aP l) (λa k s=>.inl (s.1++qS k (nth t a) s.2.1 s.2.2,jZ k (nth t a) s.2.1 s.2.2)) (λa s=>(s.1.length<=700000000+20*a∧s.1++qo ((aP l).drop a) (t.drop a) s.2.1 s.2.2=TOT)∧uk s.2.1∧uk s.2.2∧dP ((aP l).drop a) (t.drop a) s.2.1 s.2.2=some fin):=by
 intro a k s K o M hk hi hK hM;obtain⟨⟨i0,i1⟩,i2,i3,i4⟩:=hi;obtain⟨n,d1,d2,d3,d4⟩:=adD hk (by rw[i4];simp);have hlt:a<(aP l).length:=d_;have hn:nth t a=n:=by
  grind [bE,qr]
 have hkm:=hl k d_;rw[i4]at d4;rw[apP hk d1]at i1;have hsl:=adX (k:=k) (n:=n) (w:=s.2.1) (z:=s.2.2) d3;have hgo:uk (jZ k n s.2.1 s.2.2).1∧uk (jZ k n s.2.1 s.2.2).2:=by
  grind [jZ]
 refine .inl ⟨(s.1++qS k n s.2.1 s.2.2,jZ k n s.2.1 s.2.2),u_,⟨⟨d_,u_⟩,hgo.1,hgo.2,d4.symm⟩,?_⟩;obtain⟨b,w,z⟩:=s;simp only at i0 i1 i2 i3;exact aBL ss hss gs hgs g N (aCq (ss:=ss) (g:=g) (l:=l) (T:=[(K,o)]) hN) t ht hg a k b o_ w z M n _ d1 d2 d3 hkm i2 i3
abbrev aEM (ss:K_)(v:AV)(w z:Int):am:=[(0,.cells [v]),(1,.cells [.d (.lst (cY ss))]),(2,.cells [A_ w,A_ z]),(3,.cells [.ptr 2 0])]
def W6:∀{bks t:G_}{w z:Int},dP bks t w z≠none->(qo bks t w z).length<=20*bks.length
 |[],[],_,_,_=>by simp[qo]
 |[],_::_,_,_,h=>absurd rfl h
 |_::_,[],_,_,h=>absurd rfl h
 |k::r,n::t,w,z,h=>by
  have h1:=pU h;have h2:=adX h1.2.1;have h3:=W6 (by rw[h1.2.2]at h;exact h)
  grind [qo]
theorem tg {l:Q_}{lf:Int}(h:fitsS lf l)(h0:0<=lf):((aP l).length:Int)=lf:=by
 induction l generalizing lf<;>grind [fitsS,aP]
def afM (ss:K_)(hss:ss.length<=1000)(hss2:∀t∈ss,t.length<=100000)(gs:H_)(hgs:gs.length<=1000)(m:Int)(hm:0<=m∧m<=1000):∀(gr:H_) (sr:K_) (i N:Nat) (b:C_) (w z:Int),gs.drop i=gr->ss.drop i=sr->fy m gr->(∀l∈gr,l.length<=1000)->uk w->uk z->mq gr sr w z≠none->4<=N->b.length+20000*gr.length<=600000000->
  ∃M w' z',(Dn prog).code (.loop xL) ⟨[(4,.ptr 0 0),(7,.ptr 1 0),(11,.ptr 3 0),(32,.d (.lst (bz gs))),(33,A_ gs.length),(34,A_ i)],⟨aEM ss (.own false 1 (ai b)) w z,N⟩⟩ =
  some (.exit 0,⟨[(4,.ptr 0 0)],⟨[(0,.cells [.own false 1 (ai (b++pT gr sr w z))]),(2,.cells [A_ w',A_ z'])],M⟩⟩):=by
 intro gr
 induction gr with
 |nil =>
  intro sr i N b w z hd hd2 hf hl hw hz hr hN hb;have hi:=bg hd;refine⟨N,w,z,?_⟩;have e:b++pT [] sr w z=b:=by grind [pT]
  rw[ah Mr,e];simp(disch:=omega)[↓ac,↓aa]
 |cons l r ih =>
  intro sr i N b w z hd hd2 hf hl hw hz hr hN hb;simp only[ar]at hb;have hg:=lX hd;have hlt:=bE hd;have hfl:=hf l (.head _);have hll:=hl l (.head _);have hbk:=tg hfl hm.1
  cases sr with
  |nil=>exact absurd rfl hr
  |cons t s =>
   have hgt:=Ks hd2;have htl:=hss2 t (by rw[<-aT i ss,hd2];simp);rw[mq]at hr
   cases hrow:dP (aP l) t w z with
   |none=>simp_all
   |some fin =>
    rw[hrow]at hr;have hrl:=W6 (bks:=aP l) (t:=t) (w:=w) (z:=z) u_;have hb1:=acj (p:=N+1) (aD9 (ss:=ss) (g:=i) (l:=l) (q:=afC gs i N) hN) aoM l (aBW ss hss gs hgs i N hN t htl hgt l (NA hfl) o_ fin (b++qo (aP l) t w z)) (λs=>by simp(disch:=omega)[↓aa]) hll (λq hq=>by have:=(tR hfl hm.2 q hq).1;omega) (N+1+1+1) (b,w,z) (ak _) ⟨⟨d_,rfl⟩,hw,hz,u_⟩;rcases hb1 with ⟨⟨b2,w2,z2⟩,M,e1,⟨⟨e2,e2'⟩,e3,e4,e5⟩,e6,e7⟩|⟨z,_⟩
    .rw[cy (ak _)]at e5 e2';obtain⟨e8,e9⟩:=ahF e5;subst e8;have e10:b2=b++qo (aP l) t w z:=by
      grind [qo]
     subst e10;obtain⟨M2,w3,z3,f⟩:=ih s (i+1) M (b++qo (aP l) t w z) w2 z2 (bt hd) (bt hd2) (λq hq=>hf q (.tail _ hq)) (λq hq=>hl q (.tail _ hq)) e3 e4 hr o_ d_;refine⟨M2,w3,z3,?_⟩;have eT:b++pT (l::r) (t::s) w z=b++qo (aP l) t w z++pT r s w2 z2:=by grind [pT]
     rw[ah Mr,eT,<-f];simp(disch:=omega)[↓ac,↓aa,hg,LM,rd,e7]
    grind
def ao3 (b:C_)(hb:b.length<=500000000)(x:AV)(hx:x=.d (.lst (ai b))∨x=.nl∧b=[])(gain m:Int)(g:H_)(t:K_)(hgn:0<=gain∧gain<=255)(hl:g.length<=8)(hm:0<=m∧m<=40)(hf:fy m g)(hf2:∀l∈g,l.length<=1000)(ht:AP gain g t)(ht2:∀l∈t,l.length<=100000) :
  bi prog VP [x,A_ gain,.d (.lst (bz g)),.d (.lst (cY t))]=some (.tup [.own true 1 (ai (b++pT g t gain (-1))),A_ 0]):=by
 have h1:=akI gain m g t hgn hl hm hf hf2 ht ht2;have hlen:=Kz ht;obtain⟨M,w,z,e⟩:=afM t o_ ht2 g o_ m o_ g t 0 4 b gain (-1) rfl rfl hf hf2 o_ o_ ht (ak _) o_;have c0:((0:Nat):Int)=0:=rfl;rw[c0]at e;have hp:=lm b 0 0 o_ o_ x hx;rw[ac k_]at hp;have t0:(0:Int).toNat=0:=rfl;rw[t0,aq,bh]at hp;rw[aH ajY ajn rfl];rcases hx with rfl|⟨rfl,rfl⟩
 all_goals simp(disch:=omega)[↓ac,↓aa,h1,hp,e]
structure cf where
 len:Int
 order:Int
 down:Bool
 fine:Bool
 coefs:G_
abbrev AA_:=List cf
abbrev O_:=List (AA_)
abbrev cf.cells (f:cf):Y_:=[.int .i64 f.len,.int .i64 f.order,.bool f.down,.bool f.fine,.lst (aF f.coefs)]
abbrev cf.av (f:cf):D_:=[A_ f.len,A_ f.order,B_ f.down,B_ f.fine,.d (.lst (aF f.coefs))]
def eq (l:AA_):E_:=l.map cf.cells
@[simp] def asD {l:AA_}:(eq l).length=l.length:=by simp[eq]
def E1 {l:AA_}{i:Nat}{s:cf}{r:AA_}(h:l.drop i=s::r):(eq l)[i]?=some [.int .i64 s.len,.int .i64 s.order,.bool s.down,.bool s.fine,.lst (aF s.coefs)]:=by
 grind [List.getElem?_cons_zero,eq]
def cR (t:O_):E_:=t.map λl=>[.lst (eq l)]
@[simp] theorem acR {t:O_}:(cR t).length=t.length:=by simp[cR]
def AX {g:O_}{i:Nat}{l:AA_}{r:O_}(h:g.drop i=l::r):(cR g)[i]?=some [.lst (eq l)]:=by
 grind [List.getElem?_cons_zero,cR]
def agE (h:Int):∀(l:G_),l.any (λc=>decide (c < -h∨h<=c))=!decide (∀c∈l,-h<=c∧c<h)
 |[]=>by simp
 |c::r=>by
  grind
def dD (fine:Bool):Int:=if fine then 8 else 4
def Ah (sh:Bool):Int:=if sh then 15 else 63
def wp (sh:Bool):Int:=if sh then 7 else 12
def Cg (sh:Bool)(f:cf):Prop:=(0<=f.len∧f.len<=Ah sh)∧(0<=f.order∧f.order<=wp sh)∧(f.coefs.length:Int)=f.order∧(f.order=0->f.down=false)∧∀c∈f.coefs,-dD f.fine<=c∧c<dD f.fine
instance {sh:Bool}{f:cf}:Decidable (Cg sh f):=by unfold Cg;infer_instance
theorem Jz (b:Bool):bi prog DT [B_ b]=some (A_ (if b then 4 else 3)):=by
 rw[aH aaW abH rfl]
 cases b<;>simp(disch:=omega)
def E6 (b:Bool):bi prog Qh [B_ b]=some (A_ (if b then 1 else 0)):=by
 rw[aH aeL aek rfl]
 cases b<;>simp(disch:=omega)
def lY (sh:Bool):D_:=if sh then [A_ 1,A_ 4,A_ 3,A_ 1,A_ 7] else [A_ 2,A_ 6,A_ 5,A_ 3,A_ 12]
def aO.short (i:aO):Bool:=decide (i.seq=2)
def zW (i:aO):bi prog CV [.agg i.cells]=some (.agg (lY i.short)):=by
 rw[aH YO Zj rfl];unfold lY aO.short;by_cases h:i.seq=2
 .simp(disch:=omega)[↓ac,h]
 .simp(disch:=omega)[↓aa,h]
def aBu (m:Nat)(hm:m<=100000)(v:Int)(N:Nat):(Dn prog).call Ci [A_ v,.ptr 0 0] ⟨[(0,.cells [A_ m])],N⟩=some (B_ ((decide (v < -(m:Int)∨(m:Int)<=v))),⟨[(0,.cells [A_ m])],N⟩):=by
 rw[aZ Yn XT rfl];by_cases h1:v < -(m:Int)
 .simp(disch:=omega)[↓ac,h1]
 .by_cases h2:(m:Int)<=v
  .simp(disch:=omega)[↓ac,↓aa,h1,h2]
  .simp(disch:=omega)[↓ac,↓aa,h1,h2]
def K9 (l:G_)(hl:l.length<=1000000)(s:Nat)(hs:1<=s∧s<=10):bi prog Gv [.d (.lst (aF l)),A_ s]=some (B_ ((decide (∀c∈l,-((2 ^ (s-1):Nat):Int)<=c∧c<((2 ^ (s-1):Nat):Int))))):=by
 have hp:2 ^ (s-1)<=2 ^ 10:=aw o_ o_;have q2:=Ud (m:=s-1) o_;have c1:((s-1:Nat):Int)=(s:Int)-1:=o_;rw[c1]at q2;generalize 2 ^ (s-1)=P at *;have h1:=Af (.fn Ci [] [.ptr 0 0]) (λc=>decide (c < -(P:Int)∨(P:Int)<=c)) l o_ [(0,.cells [A_ P])] 1 rfl rfl λv _=>by
  have:=aBu P o_ v 1
  simp_all
 rw[agE]at h1;rw[aH aeU aee rfl];simp(disch:=omega)[-sq,q2,h1]
def aeb (i:aO)(f:cf)(h:Cg i.short f):bi prog Kt [.agg i.cells,.agg f.av]=some (B_ true):=by
 obtain⟨⟨l1,l2⟩,⟨o1,o2⟩,c1,d1,c2⟩:=h;have hs:=zW i;have hw:=Jz f.fine;have hof:wp i.short<=12:=by grind [wp]
 have hft:=K9 f.coefs o_ (if f.fine then 4 else 3) d_;have hh:((2 ^ ((if f.fine then 4 else 3)-1):Nat):Int)=dD f.fine:=by grind [dD]
 rw[hh,decide_eq_true c2]at hft;have hc:(((if f.fine=true then 4 else 3:Nat)):Int)=if f.fine=true then 4 else 3:=d_
 rw[hc]at hft;have hl:=iA (l:=f.coefs);generalize hW:(if f.fine=true then (4:Int) else 3)=W at *;simp only[aO.cells]at hs;have hdn:f.order > 0∨f.order=0∧f.down=false:=by
  grind
 rw[aH aan YE rfl];unfold Ah at l2;unfold wp at o2
 cases hsh:i.short with
 |true =>
  rw[hsh]at l2 o2 hs;simp only[lY,bn]at l2 o2 hs;rcases hdn with hdn|⟨h0,hdn⟩
  .simp(disch:=omega)[↓ac,↓aa,hs,hw,hft]
  .simp(disch:=omega)[↓ac,↓aa,hs,hw,hft,hdn]
 |false =>
  rw[hsh]at l2 o2 hs;simp only[lY]at l2 o2 hs;rcases hdn with hdn|⟨h0,hdn⟩
  .simp(disch:=omega)[↓ac,↓aa,hs,hw,hft]
  .simp(disch:=omega)[↓ac,↓aa,hs,hw,hft,hdn]
def acy (F:AV)(P:cf->Bool)(l:AA_)(hl:l.length<=1000000000)(h:am)(N0:Nat)(hF:firm (share F)=F)(hc:∀f∈l,∀N,N0<=N->cq (Dn prog) F [.agg f.av] ⟨h,N⟩=some (B_ (P f),⟨h,N+1⟩)):∀(r:AA_) (i N:Nat),l.drop i=r->N0<=N->
  (r.any P=true∧∃k M:Nat,N<=M∧(Dn prog).code (.loop fC) ⟨[(0,.d (.lst (eq l))),(1,F),(7,A_ l.length),(8,A_ i)],⟨h,N⟩⟩=some (.ret,⟨[(4,A_ k)],⟨h,M⟩⟩))∨
  (r.any P=false∧∃M,N<=M∧(Dn prog).code (.loop fC) ⟨[(0,.d (.lst (eq l))),(1,F),(7,A_ l.length),(8,A_ i)],⟨h,N⟩⟩=some (.exit 0,⟨[],⟨h,M⟩⟩)):=by
 intro r
 induction r with
 |nil =>
  intro i N hd hN;have hi:=bg hd;refine .inr ⟨rfl,N,ak _,?_⟩;rw[ah ik];simp(disch:=omega)[↓aa]
 |cons v r ih =>
  intro i N hd hN;have hg:=E1 hd;have hlt:=bE hd;have hv:=hc v (by rw[<-aT i l,hd];simp) N hN;have h5:=ih (i+1) (N+1) (bt hd) (by omega)
  cases hp:P v with
  |true =>
   rw[hp]at hv;refine .inl ⟨u_,i,N+1,o_,?_⟩;rw[ah ik];simp(disch:=omega)[↓ac,hg,hF,hv]
  |false =>
   rw[hp]at hv;rw[fb,hp,mW];rcases h5 with ⟨e1,k,M,e3,e2⟩|⟨e1,M,e3,e2⟩
   .refine .inl ⟨e1,k,M,o_,?_⟩;rw[ah ik,<-e2];simp(disch:=omega)[↓ac,hg,hF,hv]
   .refine .inr ⟨e1,M,o_,?_⟩;rw[ah ik,<-e2];simp(disch:=omega)[↓ac,hg,hF,hv]
def Ew (F:AV)(P:cf->Bool)(l:AA_)(hl:l.length<=1000000000)(h:am)(N:Nat)(hF:firm (share F)=F)(hF2:firm F=F)(hc:∀f∈l,∀M,N<=M->cq (Dn prog) F [.agg f.av] ⟨h,M⟩=some (B_ (P f),⟨h,M+1⟩)) :
  ∃M,N<=M∧(Dn prog).call fD [.d (.lst (eq l)),F] ⟨h,N⟩=some (B_ (l.any P),⟨h,M⟩):=by
 have h1:=acy F P l hl h N hF hc l 0 N rfl (ak _);have c0:((0:Nat):Int)=0:=rfl;rw[c0]at h1;have h2:∃(k:Int) (M:Nat),N<=M∧(0<=k↔l.any P=true)∧(Dn prog).call ut [.d (.lst (eq l)),F] ⟨h,N⟩=some (A_ k,⟨h,M⟩):=by
  rcases h1 with ⟨e1,k,M,e3,e2⟩|⟨e1,M,e3,e2⟩
  .refine⟨k,M,e3,⟨λ_=>e1,λ_=>by omega⟩,?_⟩;rw[aZ uv uC rfl];simp(disch:=omega)[e2]
  .refine⟨-1,M,e3,⟨λh=>by omega,λh=>by simp_all⟩,?_⟩;rw[aZ uv uC rfl];simp(disch:=omega)[e2]
 obtain⟨k,M,e3,e1,e2⟩:=h2;refine⟨M,e3,?_⟩;rw[aZ Dk Dg rfl]
 cases hp:l.any P with
 |true =>
  have:=e1.2 hp;simp(disch:=omega)[↓ac,hF2,e2]
 |false =>
  have:¬0<=k:=λh=>by simp_all
  simp(disch:=omega)[↓aa,hF2,e2]
def aeT (lo hi v:Int)(hlo:-100<=lo∧lo<=0)(hhi:0<=hi∧hi<=100)(X:Obj)(N:Nat):(Dn prog).call vR [A_ v,.ptr 1 0,.ptr 2 0] ⟨[(0,X),(1,.cells [A_ lo]),(2,.cells [A_ hi])],N⟩=some (B_ (decide (v<lo∨hi<v)),⟨[(0,X),(1,.cells [A_ lo]),(2,.cells [A_ hi])],N⟩):=by
 rw[aZ XH Yw rfl];by_cases h1:v<lo
 .simp(disch:=omega)[↓ac,h1]
 .by_cases h2:hi<v
  .simp(disch:=omega)[↓ac,↓aa,h1,h2]
  .simp(disch:=omega)[↓ac,↓aa,h1,h2]
def aof (X:Obj)(l:G_)(hl:l.length<=1000000)(fine:Bool):(Dn prog).call mD [.d (.lst (aF l)),.fn vR [] [.ptr 1 0,.ptr 2 0]] ⟨[(0,X),(1,.cells [A_ (-dD fine)]),(2,.cells [A_ (dD fine-1)])],3⟩ =
  some (B_ (!decide (∀c∈l,-dD fine<=c∧c<dD fine)),⟨[(0,X),(1,.cells [A_ (-dD fine)]),(2,.cells [A_ (dD fine-1)])],3⟩):=by
 have hh:4<=dD fine∧dD fine<=8:=by grind [dD]
 have h1:=Af (.fn vR [] [.ptr 1 0,.ptr 2 0]) (λc=>decide (c < -dD fine∨dD fine-1<c)) l o_ [(0,X),(1,.cells [A_ (-dD fine)]),(2,.cells [A_ (dD fine-1)])] 3 rfl rfl λv _=>by
  have:=aeT (-dD fine) (dD fine-1) v o_ o_ X 3
  simp_all
 have e:(λc:Int=>decide (c < -dD fine∨dD fine-1<c))=λc=>decide (c < -dD fine∨dD fine<=c):=by
  grind
 rw[e,agE]at h1;exact h1
def ajA (sh:Bool)(f:cf)(hl:f.coefs.length<=1000000):bi prog QJ [.agg f.av,B_ sh]=some (B_ (decide (Cg sh f))):=by
 rw[aH afe aeE rfl];have hll:=iA (l:=f.coefs);have hls:Ah sh=if sh then 15 else 63:=rfl
 have hos:wp sh=if sh then 7 else 12:=rfl
 by_cases a1:0<=f.len∧f.len<=Ah sh
 .by_cases a2:0<=f.order∧f.order<=wp sh
  .by_cases a3:(f.coefs.length:Int)=f.order
   .by_cases a4:f.order=0∧f.down=true
    .rw[decide_eq_false (λh=>by have:=h.2.2.2.1 a4.1;simp_all)];obtain⟨a4,a5⟩:=a4
     cases sh<;>simp only[Ah,wp,bn,ao,bl]at a1 a2<;>simp(disch:=omega)[↓ac,↓aa,a5]
    .have hc:=aof (.cells f.av) f.coefs hl f.fine;have hd:decide (Cg sh f)=decide (∀c∈f.coefs,-dD f.fine<=c∧c<dD f.fine):=by
      rw[decide_eq_decide];refine⟨λh=>h.2.2.2.2,λh=>⟨a1,a2,a3,λh0=>?_,h⟩⟩
      simp_all
     rw[hd];generalize decide (∀c∈f.coefs,-dD f.fine<=c∧c<dD f.fine)=B at *;have h4:dD false=4:=rfl;have h8:dD true=8:=rfl;by_cases h0:f.order=0
     .have hdn:f.down=false:=by
       simp_all
      cases hfn:f.fine<;>simp only[hfn,h4,h8,Int.reduceNeg,Int.reduceSub]at hc<;>cases sh<;>simp only[Ah,wp,bn,ao,bl]at a1 a2<;>simp(disch:=omega)[↓ac,↓aa,hdn,hfn,hc]
     .cases hfn:f.fine<;>simp only[hfn,h4,h8,Int.reduceNeg,Int.reduceSub]at hc<;>cases sh<;>simp only[Ah,wp,bn,ao,bl]at a1 a2<;>simp(disch:=omega)[↓ac,↓aa,hfn,hc]
   .rw[decide_eq_false (λh=>a3 h.2.2.1)]
    cases sh<;>simp only[Ah,wp,bn,ao,bl]at a1 a2<;>simp(disch:=omega)[↓ac,↓aa]
  .rw[decide_eq_false (λh=>a2 h.2.1)];by_cases b1:f.order<0
   .cases sh<;>simp only[Ah,wp,bn,ao,bl]at a1 a2<;>simp(disch:=omega)[↓ac,↓aa]
   .cases sh<;>simp only[Ah,wp,bn,ao,bl]at a1 a2<;>simp(disch:=omega)[↓ac,↓aa]
 .rw[decide_eq_false (λh=>a1 h.1)];by_cases b1:f.len<0
  .cases sh<;>simp only[Ah,bn,ao,bl]at a1<;>simp(disch:=omega)[↓ac]
  .cases sh<;>simp only[Ah,bn,ao,bl]at a1<;>simp(disch:=omega)[↓ac,↓aa]
def Lt (H:am)(N:Nat):Prop:=∀p∈H,p.1<N
def uO {H:am}{N:Nat}{o:Obj}(h:Lt H N):put H N o=H++[(N,o)]:=by
 induction H with
 |nil=>rfl
 |cons p r ih =>
  obtain⟨k,v⟩:=p;have h1:=h (k,v) (.head _);rw[wn,aa o_,aa o_,ih (λp hp=>h p (.tail _ hp)),aR]
def H1 {H:am}{N:Nat}{o o':Obj}(h:Lt H N):put (H++[(N,o)]) N o'=H++[(N,o')]:=by
 induction H with
 |nil=>simp_all
 |cons p r ih =>
  obtain⟨k,v⟩:=p;have h1:=h (k,v) (.head _);rw[aR,wn,aa o_,aa o_,ih (λp hp=>h p (.tail _ hp)),aR]
def xD {H:am}{N:Nat}{o:Obj}(h:Lt H N):get (H++[(N,o)]) N=some o:=by
 induction H with
 |nil=>simp_all
 |cons p r ih =>
  obtain⟨k,v⟩:=p;have h1:=h (k,v) (.head _);rw[aR,iU,aa o_,ih (λp hp=>h p (.tail _ hp))]
def AK {H:am}{N k:Nat}{o o':Obj}(h:get H k=some o'):get (H++[(N,o)]) k=some o':=by
 induction H<;>grind [AS,iU]
def ML {H:am}{N:Nat}{o:Obj}(h:Lt H N):del (H++[(N,o)]) N=H:=by
 induction H with
 |nil=>simp_all
 |cons p r ih =>
  obtain⟨k,v⟩:=p;have h1:=h (k,v) (.head _);rw[aR,ov,aa o_,ih (λp hp=>h p (.tail _ hp))]
def Kg {H:am}{N M:Nat}(h:Lt H N)(hm:N<=M):Lt H M:=λp hp=>ba (h p hp) hm
def Ny {H:am}{N:Nat}{o:Obj}(h:Lt H N):Lt (H++[(N,o)]) (N+1):=by
 intro p hp;rcases bF.1 hp with h1|h1
 .have:=h p h1;omega
 simp_all
@[simp] def aGA (a b:Bool):afw true (B_ a) (B_ b)=some (.bool (a != b)):=by cases a<;>cases b<;>rfl
def acx (sh:Bool)(f0 f:cf):Bool:=!decide (Cg sh f) ||f.fine != f0.fine
def aqW (sh:Bool)(f0:cf)(l:AA_)(f:cf)(hf:f.coefs.length<=1000000)(H:am)(p q M:Nat)(hp:get H p=some (.cells [B_ sh]))(hq:get H q=some (.cells [.d (.lst (eq (f0::l)))]))(hl:(f0::l).length<=1000000)(hM:Lt H M) :
  (Dn prog).call oq [.agg f.av,.ptr p 0,.ptr q 0] ⟨H,M⟩=some (B_ (acx sh f0 f),⟨H,M+1⟩):=by
 have e1:=λo=>uO (o:=o) hM
 have e2:=λo=>xD (o:=o) hM
 have e3:=λo=>AK (N:=M) (o:=o) hp
 have e4:=λo=>AK (N:=M) (o:=o) hq
 have e5:=λo=>ML (o:=o) hM
 have e6:=ajA sh f hf;have hg:=E1 (l:=f0::l) (i:=0) (s:=f0) (r:=l) rfl;unfold acx;rw[aZ XA WL rfl];simp only[cf.av]at e6⊢
 cases hB:decide (Cg sh f) with
 |false =>
  rw[hB]at e6;simp(disch:=omega)[e1,e2,e3,e5,e6]
 |true =>
  rw[hB]at e6
  cases hf1:f.fine<;>cases hf2:f0.fine<;>rw[hf1]at e6<;>rw[hf2]at hg<;>
   simp(disch:=omega)[e1,e2,e3,e4,e5,e6,hg]
structure c7 where
 gain:Int
 info:aO
 sects:H_
 steps:K_
 tns:O_
 lines:G_
abbrev BB_:=List c7
abbrev c7.av (c:c7):D_:=[A_ c.gain,.d (.int .u8 c.info.seq),.d (.int .u8 c.info.shape),A_ c.info.max,.d (.lst (aF c.info.groups)),.d (.lst (bz c.sects)),.d (.lst (cY c.steps)),.d (.lst (cR c.tns)),.d (.lst (aF c.lines))]
structure c7.Fit (c:c7):Prop where
 gain:i64 c.gain
 info:c.info.Fit
 sects:aun c.sects
 secI:∀l∈c.sects,∀s∈l,i64 s.book∧i64 s.len
 steps:c.steps.length<=1000∧∀l∈c.steps,l.length<=1000
 stepI:∀l∈c.steps,∀n∈l,i64 n
 tns:c.tns.length<=1000∧∀l∈c.tns,l.length<=1000∧∀f∈l,f.coefs.length<=1000
 fltI:∀l∈c.tns,∀f∈l,(i64 f.len∧i64 f.order)∧∀x∈f.coefs,i64 x
 lines:c.lines.length<=100000
 lineI:∀n∈c.lines,i64 n
def pz (sh:Bool):Nat:=if sh then 1 else 3
def tv (sh:Bool)(l:AA_):Prop:=l.length<=pz sh∧∀f0∈l.head?,∀f∈l,Cg sh f∧f.fine=f0.fine
abbrev Tt (i:aO)(t:O_):Prop:=t.length=i.many∧∀l∈t,tv i.short l
def avV {sh:Bool}{f0:cf}{l:AA_}:l.any (acx sh f0)=false↔∀f∈l,Cg sh f∧f.fine=f0.fine:=by
 grind [acx]
def abb (sh:Bool):AA_->Bool
 |[]=>false
 |f0::r=>(f0::r).any (acx sh f0)
theorem afW {sh:Bool}{l:AA_}:tv sh l↔l.length<=pz sh∧abb sh l=false:=by
 unfold tv
 cases l with
 |nil=>simp[abb]
 |cons f0 r0 =>
  simp only[abb,avV]
  simp_all
instance {sh:Bool}{l:AA_}:Decidable (tv sh l):=decidable_of_iff _ afW.symm
def aaz (sh:Bool)(full:O_)(hl:full.length<=1000)(hl2:∀l∈full,l.length<=1000∧∀f∈l,f.coefs.length<=1000):∀(r:O_) (i N:Nat) (H:am),full.drop i=r->get H 1=some (.cells [B_ sh])->Lt H N->2<=N->
  ((∀l∈r,tv sh l)∧∃H2 M,(Dn prog).code (.loop mQ) ⟨[(5,.ptr 1 0),(6,A_ (pz sh)),(20,.d (.lst (cR full))),(21,A_ full.length),(22,A_ i)],⟨H,N⟩⟩=some (.exit 0,⟨[],⟨H2,M⟩⟩))∨
  ((¬∀l∈r,tv sh l)∧∃H2 M,(Dn prog).code (.loop mQ) ⟨[(5,.ptr 1 0),(6,A_ (pz sh)),(20,.d (.lst (cR full))),(21,A_ full.length),(22,A_ i)],⟨H,N⟩⟩=some (.ret,⟨[(4,B_ false)],⟨H2,M⟩⟩)):=by
 intro r
 induction r with
 |nil =>
  intro i N H hd hH hL hN;have hi:=bg hd;refine .inl ⟨s_,H,N,?_⟩;rw[ah mI];simp(disch:=omega)[↓aa]
 |cons l r ih =>
  intro i N H hd hH hL hN;have hg:=AX hd;have hlt:=bE hd;obtain⟨hll,hlc⟩:=hl2 l (by rw[<-aT i full,hd];simp);have hm:pz sh<=3:=by grind [pz]
  have e1:=λo=>uO (o:=o) hL
  have e2:=λo=>xD (o:=o) hL
  have e3:=λo=>AK (N:=N) (o:=o) hH
  have e4:=λo o'=>H1 (o:=o) (o':=o') hL
  have c1:((i+1:Nat):Int)=(i:Int)+1:=rfl;by_cases h1:l.length<=pz sh
  .have hcf:∃M,N+1<=M∧(Dn prog).call fD [.d (.lst (eq l)),.fn oq [] [.ptr 1 0,.ptr N 0]] ⟨H++[(N,.cells [.d (.lst (eq l))])],N+1⟩=some (B_ (abb sh l),⟨H++[(N,.cells [.d (.lst (eq l))])],M⟩):=by
    cases l with
    |nil =>
     exact Ew (.fn oq [] [.ptr 1 0,.ptr N 0]) (λ_=>false) [] s_ _ (N+1) rfl rfl λf hf=>by simp at hf
    |cons f0 r0 =>
     refine Ew (.fn oq [] [.ptr 1 0,.ptr N 0]) (acx sh f0) (f0::r0) o_ _ (N+1) rfl rfl λf hf M hM=>?_
     have:=aqW sh f0 r0 f d_ (H++[(N,.cells [.d (.lst (eq (f0::r0)))])]) 1 N M (e3 _) (e2 _) o_ (Kg (Ny hL) hM)
     simp_all
   obtain⟨M,hM,e5⟩:=hcf;have hW:abb sh l=false↔tv sh l:=by grind [afW]
   generalize abb sh l=B at *
   cases B with
   |true =>
    refine .inr ⟨λh=>?_,H++[(N,.cells [.d (.lst (eq l))])],M,?_⟩
    .simp_all
    .rw[ah mI];simp(disch:=omega)[↓ac,↓aa,hg,e1,e2,e4,e5]
   |false =>
    have h5:=ih (i+1) M (H++[(N,.cells [.d (.lst (eq l))])]) (bt hd) (e3 _) (Kg (Ny hL) hM) o_;rcases h5 with ⟨f1,H2,M2,f2⟩|⟨f1,H2,M2,f2⟩
    .refine .inl ⟨λq hq=>?_,H2,M2,?_⟩
     .grind
     .rw[ah mI,<-f2];simp(disch:=omega)[↓ac,↓aa,hg,e1,e2,e4,e5]
    .refine .inr ⟨λh=>f1 λq hq=>h q (.tail _ hq),H2,M2,?_⟩;rw[ah mI,<-f2];simp(disch:=omega)[↓ac,↓aa,hg,e1,e2,e4,e5]
  .refine .inr ⟨λh=>h1 (h l (.head _)).1,H++[(N,.cells [.d (.lst (eq l))])],N+1,?_⟩;rw[ah mI];simp(disch:=omega)[↓ac,hg,e1,e2,e4]
def ai1 (c:c7)(hc:c.Fit)(w:Nat)(hw:w<=8):bi prog EW [.agg c.av,A_ w]=some (B_ (decide (c.tns.length=w∧∀l∈c.tns,tv c.info.short l))):=by
 have hl:=hc.tns.1;have h0:=aaz c.info.short c.tns hc.tns.1 hc.tns.2 c.tns 0 2 [(1,.cells [B_ c.info.short])] rfl s_ (λp hp=>by simp_all) o_;have c0:((0:Nat):Int)=0:=rfl;rw[c0]at h0;have m1:((1:Nat):Int)=1:=rfl;have m3:((3:Nat):Int)=3:=rfl;rw[aH abk abg rfl];by_cases h1:c.tns.length=w
 .have hsh:c.info.short=decide (c.info.seq=2):=rfl;have e:decide (c.tns.length=w∧∀l∈c.tns,tv c.info.short l)=decide (∀l∈c.tns,tv c.info.short l):=by simp[h1]
  rw[e];rcases h0 with ⟨f1,H2,M2,f2⟩|⟨f1,H2,M2,f2⟩
  .rw[decide_eq_true f1];by_cases hs:c.info.seq=2
   .rw[decide_eq_true hs]at hsh;rw[hsh]at f2;simp only[pz,bn,m1]at f2;simp(disch:=omega)[↓ac,↓aa,f2]
   .rw[decide_eq_false hs]at hsh;rw[hsh]at f2;simp only[pz,ao,bl,m3]at f2;simp(disch:=omega)[↓ac,↓aa,f2]
  .rw[decide_eq_false f1];by_cases hs:c.info.seq=2
   .rw[decide_eq_true hs]at hsh;rw[hsh]at f2;simp only[pz,bn,m1]at f2;simp(disch:=omega)[↓ac,↓aa,f2]
   .rw[decide_eq_false hs]at hsh;rw[hsh]at f2;simp only[pz,ao,bl,m3]at f2;simp(disch:=omega)[↓ac,↓aa,f2]
 .rw[decide_eq_false (λh=>h1 h.1)];by_cases hs:c.info.seq=2
  .simp(disch:=omega)[↓ac,↓aa]
  .simp(disch:=omega)[↓ac,↓aa]
def Gp:Int->Q_->Option Int
 |a,[]=>some a
 |a,s::r=>if (1<=s.len∧s.len<=40)∧MF s.book then Gp (a+s.len) r else none
def abU:∀{l:Q_}{a v:Int},Gp a l=some v->a+l.length<=v∧v<=a+40*l.length
 |[],a,v,h=>by simp only[Gp]at h;injection h with h;simp;omega
 |s::r,a,v,h=>by
  rw[Gp]at h;split at h
  .rename_i h1;have:=abU h;simp only[ar];omega
  .exact absurd h (by simp)
def SO {m:Int}(hm:m<=40):∀{l:Q_}{a:Int},0<=a->(Gp a l=some m↔fitsS (m-a) l)
 |[],a,h=>by
  simp only[Gp,fitsS,ae];omega
 |s::r,a,h=>by
  rw[Gp,fitsS];by_cases h1:(1<=s.len∧s.len<=40)∧MF s.book
  .rw[ac h1,SO hm o_];have e:m-(a+s.len)=m-a-s.len:=o_;rw[e];constructor
   .intro h2;refine⟨⟨⟨h1.1.1,?_⟩,h1.2⟩,h2⟩;have:=(SO (l:=r) (a:=a+s.len) hm o_).2 (by rw[e];exact h2);have:=abU this;omega
   .intro h2;exact h2.2
  .rw[aa h1];constructor
   .intro h2;exact absurd h2 (by simp)
   .intro h2;obtain⟨⟨⟨a1,a2⟩,a3⟩,a4⟩:=h2;exact absurd ⟨⟨a1,o_⟩,a3⟩ h1
def WA (full:Q_)(hl:full.length<=1000)(X:Obj)(x4:AV)(x17:AV)(y18 y19:D):∀(r:Q_) (i:Nat) (a:Int) (N:Nat),full.drop i=r->0<=a∧a<=40*i->1<=N->
  ∃M,N<=M∧(Dn prog).code (.loop qf) ⟨[(1,.ptr 0 0),(4,x4),(5,A_ a),(17,x17),(18,.d y18),(19,.d y19),(23,.d (.lst (gK full))),(24,A_ full.length),(25,A_ i)],⟨[(0,X)],N⟩⟩ =
  match Gp a r with
  |some v=>some (.exit 2,⟨[(1,.ptr 0 0),(4,x4),(5,A_ v),(17,x17),(18,.d y18),(19,.d y19)],⟨[(0,X)],M⟩⟩)
  |none=>some (.ret,⟨[(2,B_ false)],⟨[],M⟩⟩):=by
 intro r
 induction r with
 |nil =>
  intro i a N h h0 hN;have hi:=bg h;refine⟨N,ak _,?_⟩;rw[ah wS,Gp];simp(maxSteps:=300000) (disch:=omega)[↓ac,↓aa]
 |cons s r ih =>
  intro i a N h h0 hN;have hg:=wO h;have hlt:=bE h;have hN0:N≠0:=o_;by_cases hr:(1<=s.len∧s.len<=40)∧MF s.book
  .have hr1:=hr.1;obtain⟨M,hM,e⟩:=ih (i+1) (a+s.len) (N+1) (bt h) o_ o_;refine⟨M,o_,?_⟩;have c1:((i+1:Nat):Int)=(i:Int)+1:=rfl;rw[c1]at e;rw[ah wS,Gp,ac hr,<-e];obtain⟨⟨r1,r2⟩,r3,r4|r4⟩:=hr
   .simp(maxSteps:=300000) (disch:=omega)[↓ac,↓aa,hg,hN0]
   .simp(maxSteps:=300000) (disch:=omega)[↓ac,↓aa,hg,hN0]
  .refine⟨N+1,o_,?_⟩;rw[ah wS,Gp,aa hr];by_cases b1:s.len<1
   .simp(maxSteps:=300000) (disch:=omega)[↓ac,↓aa,hg,hN0]
   .by_cases b2:40<s.len
    .simp(maxSteps:=300000) (disch:=omega)[↓ac,↓aa,hg,hN0]
    .by_cases b3:s.book<0
     .simp(maxSteps:=300000) (disch:=omega)[↓ac,↓aa,hg,hN0]
     .have b4:11<s.book∧s.book≠13:=by
       unfold MF at hr;omega
      obtain⟨b4,b5⟩:=b4;simp(maxSteps:=300000) (disch:=omega)[↓ac,↓aa,hg,hN0]
def awo:∀x∈Hz,qO x.1 x.2<=40:=e_
def je {i:aO}(hm:i.may 11):0<=i.max∧i.max<=40:=by
 have h1:=hm.2.2.1;have h2:=hm.2.2.2.1;have h3:=awo _ (iu (r:=11) (s:=decide (i.seq=2)) o_);simp only[]at h3;omega
def WK (c:c7)(hm:0<=c.info.max∧c.info.max<=40)(hl:c.sects.length<=1000)(hl2:∀l∈c.sects,l.length<=1000):∀(g:H_) (j:Nat) (N:Nat),c.sects.drop j=g->1<=N->
  ∃H M,(Dn prog).code (.loop ql) ⟨[(1,.ptr 0 0),(17,.d (.lst (bz c.sects))),(18,A_ c.sects.length),(19,A_ j)],⟨[(0,.cells c.av)],N⟩⟩ =
  if fy c.info.max g then some (.exit 0,⟨[],⟨H,M⟩⟩) else some (.ret,⟨[(2,B_ false)],⟨H,M⟩⟩):=by
 simp only[c7.av];intro g
 induction g with
 |nil =>
  intro j N h hN;have hi:=bg h;refine⟨[],N,?_⟩;rw[ah pQ,ac (show fy c.info.max [] from λ_ h=>by simp at h)];simp(maxSteps:=300000) (disch:=omega)[↓ac,↓aa]
 |cons l r ih =>
  intro j N h hN;have hg:=lX h;have hlt:=bE h;have hll:l.length<=1000:=hl2 l (by rw[<-aT j c.sects,h];simp);obtain⟨M,hM,e⟩:=WA l hll (.cells c.av) (.d (.lst (gK l))) (.d (.lst (bz c.sects))) (.int .i64 c.sects.length) (.int .i64 j) l 0 0 N rfl o_ hN;have c0:((0:Nat):Int)=0:=rfl;rw[c0]at e;simp only[c7.av]at e;have hiff:=SO (m:=c.info.max) hm.2 (l:=l) (a:=0) o_;rw[Int.sub_zero]at hiff
  cases hrm:Gp 0 l with
  |none =>
   rw[hrm]at e hiff;refine⟨[],M,?_⟩;have hn:¬fy c.info.max (l::r):=λh=>absurd (hiff.2 (h l (.head _))) (by simp)
   rw[ah pQ,aa hn];simp(maxSteps:=300000) (disch:=omega)[↓ac,↓aa,hg,e]
  |some v =>
   rw[hrm]at e hiff;have hv:=abU hrm;by_cases h9:v=c.info.max
   .subst h9;have hf:=hiff.1 rfl;obtain⟨H2,M2,e2⟩:=ih (j+1) M (bt h) o_;refine⟨H2,M2,?_⟩;have hx:fy c.info.max (l::r)↔fy c.info.max r:=by simp[fy,hf]
    have c1:((j+1:Nat):Int)=(j:Int)+1:=rfl;rw[c1]at e2;rw[ah pQ,auw hx,<-e2];simp(maxSteps:=300000) (disch:=omega)[↓ac,↓aa,hg,e]
   .refine⟨[],M,?_⟩;have hn:¬fy c.info.max (l::r):=λh=>by
     have:=hiff.2 (h l (.head _));injection this with this;exact h9 this
    rw[ah pQ,aa hn];simp(maxSteps:=300000) (disch:=omega)[↓ac,↓aa,hg,e]
instance {m:Int}{g:H_}:Decidable (fy m g):=by unfold fy;infer_instance
def aeg (c:c7)(hc:c.Fit)(hm:c.info.may 11):bi prog CL [.agg c.av]=some (B_ (decide (jH c.info c.sects))):=by
 obtain⟨H,M,e⟩:=WK c (je hm) hc.sects.1 hc.sects.2 c.sects 0 1 rfl o_;have c0:((0:Nat):Int)=0:=rfl;rw[c0]at e;simp only[c7.av]at e⊢;have hl1:=hc.sects.1;have hl2:=hc.info.len;rw[aH YQ ZZ rfl];by_cases h1:c.sects.length=c.info.groups.length
 .by_cases h2:fy c.info.max c.sects
  .rw[decide_eq_true ⟨h1,h2⟩];rw[ac h2]at e;simp(maxSteps:=300000) (disch:=omega)[↓ac,↓aa,e]
  .rw[decide_eq_false (λh=>h2 h.2)];rw[aa h2]at e;simp(maxSteps:=300000) (disch:=omega)[↓ac,↓aa,e]
 .rw[decide_eq_false (λh=>h1 h.1)];simp(maxSteps:=300000) (disch:=omega)[↓ac,↓aa]
abbrev rM:=@Nat.add_right_cancel_iff
def J0 (w n:Int)(hw:-1000<=w∧w<=1000)(hn:-1000<=n∧n<=1000):bi prog VG [A_ w,A_ n]=some (B_ (decide (w-60<=n∧n<=w+60))):=by
 rw[aH ajK aki rfl];by_cases h1:w-60<=n
 .by_cases h2:n<=w+60
  .rw[decide_eq_true ⟨h1,h2⟩];simp(disch:=omega)[↓ac]
  .rw[decide_eq_false (λh=>h2 h.2)];simp(disch:=omega)[↓ac,↓aa]
 .rw[decide_eq_false (λh=>h1 h.1)];simp(disch:=omega)[↓aa]
def ahD (full:Q_)(hl:full.length<=1000):∀(r:Q_) (i b N:Nat) (lf:Int) (k:Int),full.drop i=r->fitsS lf r->lf<=1000->(aP r)[b]?=some k->
  ∃M,(Dn prog).code (.loop xE) ⟨[(2,A_ b),(25,.d (.lst (gK full))),(26,A_ full.length),(27,A_ i)],⟨[],N⟩⟩ =
  some (.ret,⟨[(6,A_ k),(7,A_ 0)],⟨[],M⟩⟩):=by
 intro r
 induction r with
 |nil=>grind [aP]
 |cons s r ih =>
  intro i b N lf k h hf h0 hk;have hg:=wO h;have hlt:=bE h;obtain⟨h1,h2⟩:=hf;have eb:aP (s::r)=List.replicate s.len.toNat s.book++aP r:=by grind [aP]
  rw[eb]at hk;by_cases hb:(b:Int)<s.len
  .rw[co u_]at hk;have hk2:k=s.book:=by
    simp_all
   subst hk2;refine⟨N+1,?_⟩;rw[ah MW];simp(disch:=omega)[↓ac,↓aa,hg]
  .rw[ca u_]at hk;simp only[bU]at hk;obtain⟨M,e⟩:=ih (i+1) (b-s.len.toNat) (N+1) (lf-s.len) k (bt h) h2 o_ hk;refine⟨M,?_⟩;have c1:((i+1:Nat):Int)=(i:Int)+1:=rfl;have c2:((b-s.len.toNat:Nat):Int)=(b:Int)-s.len:=o_;have hbl:b<100000000:=by
    grind [tg]
   rw[c1,c2]at e;rw[ah MW,<-e];simp(disch:=omega)[↓ac,↓aa,hg]
def ad3 (g:H_)(hl:g.length<=1000)(hl2:∀l∈g,l.length<=1000)(m:Int)(hm:m<=1000)(hf:fy m g)(j b:Nat)(l:Q_)(r:H_)(hd:g.drop j=l::r)(k:Int)(hk:(aP l)[b]?=some k) :
  bi prog VL [.d (.lst (bz g)),A_ j,A_ b]=some (.tup [A_ k,A_ 0]):=by
 have hg:=lX hd;have hlt:=bE hd;have hmem:l∈g:=by rw[<-aT j g,hd];simp
 have hbl:b<100000000:=by
  have h6:=hf l hmem;rcases Int.le_total 0 m with h|h
  .grind [tg]
  .rcases Jr h6 with h7|h7
   .have:l=[]:=by cases l<;>grind
    grind [aP]
   grind [aP]
 obtain⟨M,e⟩:=ahD l (hl2 l hmem) l 0 b 0 m k rfl (hf l hmem) hm hk;have c0:((0:Nat):Int)=0:=rfl;rw[c0]at e;rw[aH ai4 akS rfl];simp(disch:=omega)[↓aa,hg,e]
def zn (z:Int):Int:=if 0<=z then z else 0
def abT {k n:Int}{r t:G_}{w z:Int}(h:k=0->n≠0)(h1:k≠0->¬lI k n w z):dP (k::r) (n::t) w z=none:=by
 grind [dP]
def ae9 (c:c7)(hl:c.sects.length<=1000)(hl2:∀l∈c.sects,l.length<=1000)(m:Int)(hm:0<=m∧m<=1000)(hf:fy m c.sects)(x23:AV)(y24 y25:D)(j:Nat)(l:Q_)(rr:H_)(hd:c.sects.drop j=l::rr)(t:G_)(ht:t.length<=1000)(hbl:(aP l).length=t.length)(htI:∀n∈t,i64 n)(N:Nat):∀(r:G_) (b:Nat) (w z:Int),t.drop b=r->uk w->uk z->
  ∃H,(Dn prog).code (.loop vS) ⟨[(1,.ptr 0 0),(3,A_ w),(4,A_ (zn z)),(5,B_ (decide (0<=z))),(6,A_ j),(23,x23),(24,.d y24),(25,.d y25),(36,.d (.lst (aF t))),(37,A_ t.length),(38,A_ b)],⟨[(0,.cells c.av)],N⟩⟩ =
  match dP ((aP l).drop b) r w z with
  |some (w,z)=>some (.exit 2,⟨[(1,.ptr 0 0),(3,A_ w),(4,A_ (zn z)),(5,B_ (decide (0<=z))),(23,x23),(24,.d y24),(25,.d y25)],⟨[(0,.cells c.av)],N⟩⟩)
  |none=>some (.ret,⟨[(2,B_ false)],⟨H,N⟩⟩):=by
 simp only[c7.av];intro r
 induction r with
 |nil =>
  intro b w z h hw hz;have hi:=bg h;refine⟨[],?_⟩;rw[ah kj,cy o_,dP];simp(disch:=omega)[↓aa]
 |cons n r ih =>
  intro b w z h hw hz;have hg:=yb h;have hlt:=bE h;have hnI:=htI n (by rw[<-aT b t,h];simp);have hblt:b<(aP l).length:=o_;have hkk:=ee hblt;obtain⟨k,hk⟩:∃k,k=(aP l)[b]:=⟨_,rfl⟩
  have hk?:(aP l)[b]?=some k:=u_;have hmem:l∈c.sects:=by rw[<-aT j c.sects,hd];simp
  have hkr:=NA (hf l hmem) k u_;rw[<-hk]at hkk;have hB:=ad3 c.sects hl hl2 m hm.2 hf j b l rr hd k hk?;have c1:((b+1:Nat):Int)=(b:Int)+1:=rfl;rw[hkk];by_cases k0:k=0
  .by_cases n0:n=0
   .obtain⟨H,e⟩:=ih (b+1) w z (bt h) hw hz;refine⟨H,?_⟩;rw[c1]at e;have eR:dP (k::(aP l).drop (b+1)) (n::r) w z=dP ((aP l).drop (b+1)) r w z:=by grind [dP]
    rw[ah kj,eR,<-e];subst k0 n0;simp(disch:=omega)[↓ac,↓aa,hg,hB]
   .refine⟨[],?_⟩;rw[ah kj,abT (λ_=>n0) (λh=>absurd k0 h)];subst k0;simp(disch:=omega)[↓ac,↓aa,hg,hB]
  .by_cases k13:k=13
   .by_cases ho:lI k n w z
    .have hn5:=Sy ho;obtain⟨H,e⟩:=ih (b+1) w n (bt h) hw hn5;refine⟨H,?_⟩;unfold lI at ho;rw[ac k13]at ho;have hnn:zn n=n:=by grind [zn]
     rw[c1,hnn,decide_eq_true (show 0<=n by omega)]at e;have eR:dP (k::(aP l).drop (b+1)) (n::r) w z=dP ((aP l).drop (b+1)) r w n:=by grind [dP]
     rw[ah kj,eR,<-e];subst k13;by_cases hz0:0<=z
     .have hzn:zn z=z:=by grind [zn]
      have hnr:=J0 z n o_ o_;rw[decide_eq_true (show z-60<=n∧n<=z+60 by omega)]at hnr;rw[hzn,decide_eq_true hz0];simp(disch:=omega)[↓ac,↓aa,hg,hB,hnr]
     .rw[decide_eq_false hz0];simp(disch:=omega)[↓ac,↓aa,hg,hB]
    .refine⟨[],?_⟩;rw[ah kj,abT (λh=>absurd h k0) (λ_=>ho)];unfold lI at ho;rw[ac k13]at ho;subst k13;by_cases b1:n<0
     .simp(disch:=omega)[↓ac,↓aa,hg,hB]
     .by_cases b2:511<n
      .simp(disch:=omega)[↓ac,↓aa,hg,hB]
      .have hz0:0<=z:=o_;have hzn:zn z=z:=by grind [zn]
       have hnr:=J0 z n o_ o_;rw[decide_eq_false (show ¬(z-60<=n∧n<=z+60) by omega)]at hnr;rw[hzn,decide_eq_true hz0];simp(disch:=omega)[↓ac,↓aa,hg,hB,hnr]
   .by_cases ho:lI k n w z
    .have hn5:=Sy ho;obtain⟨H,e⟩:=ih (b+1) n z (bt h) hn5 hz;refine⟨H,?_⟩;have eR:dP (k::(aP l).drop (b+1)) (n::r) w z=dP ((aP l).drop (b+1)) r n z:=by grind [dP]
     unfold lI at ho;rw[aa k13]at ho;rw[c1]at e;have hnr:=J0 w n o_ o_;rw[decide_eq_true (show w-60<=n∧n<=w+60 by omega)]at hnr;rw[ah kj,eR,<-e];simp(disch:=omega)[↓ac,↓aa,hg,hB,hnr]
    .refine⟨[],?_⟩;rw[ah kj,abT (λh=>absurd h k0) (λ_=>ho)];unfold lI at ho;rw[aa k13]at ho;by_cases b1:n<0
     .simp(disch:=omega)[↓ac,↓aa,hg,hB]
     .by_cases b2:255<n
      .simp(disch:=omega)[↓ac,↓aa,hg,hB]
      .have hnr:=J0 w n o_ o_;rw[decide_eq_false (show ¬(w-60<=n∧n<=w+60) by omega)]at hnr;simp(disch:=omega)[↓ac,↓aa,hg,hB,hnr]
def axC {bks:G_}:∀{t:G_}{w z:Int}{fin:Int×Int},uk w->uk z->dP bks t w z=some fin->uk fin.1∧uk fin.2:=by
 induction bks with
 |nil =>
  grind [dP]
 |cons k r ih =>
  intro t w z fin hw hz h
  cases t with
  |nil=>grind [dP]
  |cons n t =>
   obtain⟨h1,h2,h3⟩:=pU (by rw[h];simp)
   grind [jZ]
def aec (c:c7)(hc:c.Fit)(hm:c.info.may 11)(hf:fy c.info.max c.sects):∀(gr:H_) (sr:K_) (j N:Nat) (w z:Int),c.sects.drop j=gr->c.steps.drop j=sr->gr.length=sr.length->uk w->uk z->
  ∃H M,(Dn prog).code (.loop vF) ⟨[(1,.ptr 0 0),(3,A_ w),(4,A_ (zn z)),(5,B_ (decide (0<=z))),(23,.d (.lst (cY c.steps))),(24,A_ c.steps.length),(25,A_ j)],⟨[(0,.cells c.av)],N⟩⟩ =
  match mq gr sr w z with
  |some _=>some (.exit 0,⟨[],⟨H,M⟩⟩)
  |none=>some (.ret,⟨[(2,B_ false)],⟨H,M⟩⟩):=by
 have hmx:=je hm;have hl1:=hc.steps.1;simp only[c7.av];intro gr
 induction gr with
 |nil =>
  intro sr j N w z hd hd2 he hw hz;have hi2:c.steps.length<=j:=by
   grind
  have hsr:sr=[]:=d_;refine⟨[],N,?_⟩;rw[ah vZ,hsr,mq];simp(disch:=omega)[↓ac,↓aa]
 |cons l r ih =>
  intro sr j N w z hd hd2 he hw hz
  cases sr with
  |nil=>simp at he
  |cons t s =>
   simp only[ar,rM]at he;have hgt:=Ks hd2;have hlt2:=bE hd2;have hmt:t∈c.steps:=by rw[<-aT j c.steps,hd2];simp
   have htl:=hc.steps.2 t hmt;have hml:l∈c.sects:=by rw[<-aT j c.sects,hd];simp
   have hbk:=tg (hf l hml) hmx.1;have c0:((0:Nat):Int)=0:=rfl;rw[mq];by_cases hlen:(t.length:Int)=c.info.max
   .obtain⟨H,e⟩:=ae9 c hc.sects.1 hc.sects.2 c.info.max ⟨hmx.1,o_⟩ hf (.d (.lst (cY c.steps))) (.int .i64 c.steps.length) (.int .i64 j) j l r hd t htl o_ (hc.stepI t hmt) N t 0 w z rfl hw hz;rw[c0,lU]at e
    cases hrow:dP (aP l) t w z with
    |none =>
     rw[hrow]at e;refine⟨H,N,?_⟩;rw[ah vZ];simp(disch:=omega)[↓ac,hgt,e]
    |some fin =>
     rw[hrow]at e;obtain⟨f1,f2⟩:=axC hw hz hrow;obtain⟨H2,M2,e2⟩:=ih s (j+1) N fin.1 fin.2 (bt hd) (bt hd2) he f1 f2;refine⟨H2,M2,?_⟩;rw[ah vZ];rw[<-e2];simp(disch:=omega)[↓ac,hgt,e]
   .refine⟨[],N,?_⟩;have hn:dP (aP l) t w z=none:=by
     cases hrow:dP (aP l) t w z<;>grind [Wc]
    rw[ah vZ,hn];simp(disch:=omega)[↓ac,↓aa,hgt]
instance {gain:Int}{g:H_}{t:K_}:Decidable (AP gain g t):=by unfold AP;infer_instance
def aos (c:c7)(hc:c.Fit)(hm:c.info.may 11)(hgn:0<=c.gain∧c.gain<=255)(hs:jH c.info c.sects):bi prog Jw [.agg c.av]=some (B_ (decide (AP c.gain c.sects c.steps))):=by
 have c0:((0:Nat):Int)=0:=rfl;have hnv:zn (-1)=0:=rfl;have hdf:decide ((0:Int)<=-1)=false:=rfl;rw[aH agp aiC rfl];by_cases h1:c.steps.length=c.info.groups.length
 .obtain⟨H,M,e⟩:=aec c hc hm hs.2 c.sects c.steps 0 1 c.gain (-1) rfl rfl o_ o_ o_;rw[c0,hnv,hdf]at e;by_cases hr:mq c.sects c.steps c.gain (-1)=none
  .rw[hr]at e;rw[decide_eq_false (λh=>h hr)];simp(disch:=omega)[↓ac,e]
  .obtain⟨fin,hf⟩:=Option.ne_none_iff_exists'.1 hr;rw[hf]at e;rw[decide_eq_true hr];simp(disch:=omega)[↓ac,e]
 .rw[decide_eq_false (λh=>h1 (by grind [Kz]))];simp(disch:=omega)[↓ac,↓aa]
abbrev rC:=@Bool.or_false
def agu {h:am}{l:G_}{a b:Nat}(hab:a<=b)(hb:b<=l.length)(x y:Int)(hx:x=a)(hy:y=b):l7 h 1 (.d (.lst (aF l))) (some (A_ x)) (some (A_ y)) none=some (.d (.lst (aF ((l.drop a).take (b-a))))):=by
 have e1:dW (A_ (b:Int)) (aF l).length=some b:=by grind [xy,iA]
 have e2:dW (A_ (a:Int)) b=some a:=by grind [xy]
 have e3:FN 1 (aF l)=true:=by cases l<;>rfl
 simp_all [l7,okSl,uU,xg,vI]
def aso {id:Nat}(hid:1<=id∧id<=11):iH id<=8191:=(Cl id (Ul hid)).2.2.2
def ap3 (id:Nat)(hid:1<=id∧id<=11)(v:Int)(hv:i64 v):bi prog Vs [A_ id,A_ v]=some (B_ (decide (v.natAbs<=iH id))):=by
 have i4:[[D.int .i64 v],[D.int .i64 0],[D.int .i64 0],[D.int .i64 0]]=aF [v,0,0,0]:=rfl;have i2:[[D.int .i64 v],[D.int .i64 0]]=aF [v,0]:=rfl;have hz:LH (iH id) 0=false:=by grind [LH]
 have hf:LH (iH id) v=!decide (v.natAbs<=iH id):=by
  grind [LH]
 rw[aH ajm akY rfl];by_cases h4:4<id
 .have h:=SV id hid [v,0] (by grind [bO]);simp only[fb,List.any_nil,hz,hf,rC,Bool.not_not]at h;rw[<-i2]at h;have hs:l7 [] 1 (.own false 1 [[.int .i64 v],[.int .i64 0],[.int .i64 0],[.int .i64 0]]) none (some (A_ 2)) none=some (.d (.lst [[.int .i64 v],[.int .i64 0]])):=rfl;simp(disch:=omega)[↓ac,hs,h]
 .have h:=SV id hid [v,0,0,0] (by grind [bO]);simp only[fb,List.any_nil,hz,hf,rC,Bool.not_not]at h;rw[<-i4]at h;simp(disch:=omega)[↓ac,↓aa,h]
def qP:C_->Nat->Nat
 |[],_=>0
 |x::r,i=>if x<=i then qP r i+1 else 0
def aeX (os:C_)(ho:os.length<=100)(X:Obj)(x4 x54:AV)(y10 y12 y16 y34 y35 y55 y56:D)(i:Nat)(hi:i<=1000)(hoI:∀x∈os,x<=1000)(hp:HS):∀(r:C_) (b:Nat),os.drop (b+1)=r->(∃x∈r,i<x)->
  (Dn prog).code (.loop vW) ⟨[(4,x4),(8,.own false 1 (cX os)),(10,.d y10),(12,.d y12),(14,A_ b),(15,A_ i),(16,.d y16),(34,.d y34),(35,.d y35),(54,x54),(55,.d y55),(56,.d y56)],hp⟩ =
  some (.exit 4,⟨[(4,x4),(8,.own false 1 (cX os)),(10,.d y10),(12,.d y12),(14,A_ (b+qP r i:Nat)),(16,.d y16),(34,.d y34),(35,.d y35),(54,x54),(55,.d y55),(56,.d y56)],hp⟩):=by
 obtain⟨h,n⟩:=hp;intro r
 induction r with
 |nil=>simp_all
 |cons x r ih =>
  intro b hd hx;have hlt:=bE hd;have hnx:nth os (b+1)=x:=by
   grind [qr]
  have hg:(cX os)[b+1]?=some [.int .i64 (x:Int)]:=by grind [Eq]
  have hxI:=hoI x (by grind [jM]);rw[ah Z4,qP];by_cases h1:x<=i
  .have hx2:∃y∈r,i<y:=by
    grind
   have h5:=ih (b+1) (bt hd) hx2;rw[ac h1,show b+(qP r i+1)=b+1+qP r i by omega,<-h5];simp(disch:=omega)[↓ac,hg]
  .simp(disch:=omega)[↓aa,hg]
def aar {l:C_}{i:Nat}:∀{b:Nat},b<=l.length->(∀x∈l.take b,x<=i)->qP l i=b+qP (l.drop b) i:=by
 induction l with
 |nil=>simp_all
 |cons x r ih =>
  intro b hb h
  cases b<;>grind [qP]
def amD {l:C_}{i:Nat}:∀x∈l.take (qP l i),x<=i:=by
 induction l<;>grind [qP]
def aus {l:C_}{i:Nat}:qP l i<=l.length:=by
 induction l<;>grind [qP]
def M9 (tl:C_)(bks:G_)(i:Nat)(v:Int):Prop:=v=0∨∃k,bks[qP tl i]?=some k∧(1<=k∧k<=11)∧v.natAbs<=iH k.toNat
def wI (tl:C_)(bks:G_):Nat->G_->Prop
 |_,[]=>True
 |i,v::r=>M9 tl bks i v∧wI tl bks (i+1) r
def afb (c:c7)(hc:c.Fit)(hm:c.info.may 11)(hf:fy c.info.max c.sects)(os:C_)(ho:os.length<=100)(hoI:∀x∈os,x<=1000)(hne:os≠[])(y10 y34 y35:D)(j:Nat)(l:Q_)(rr:H_)(hd:c.sects.drop j=l::rr)(ls:G_)(hls:ls.length<=1000)(hlI:∀v∈ls,i64 v)(hlast:∀i,i<ls.length->∃x∈os.drop 1,i<x)(N:Nat):∀(r:G_) (i b:Nat),ls.drop i=r->b<=(os.drop 1).length->(∀x∈(os.drop 1).take b,x<=i)->
  (wI (os.drop 1) (aP l) i r∧(Dn prog).code (.loop qa) ⟨[(4,.ptr 0 0),(8,.own false 1 (cX os)),(10,.d y10),(12,A_ j),(14,A_ b),(34,.d y34),(35,.d y35),(54,.d (.lst (aF ls))),(55,A_ ls.length),(56,A_ i)],⟨[(0,.cells c.av)],N⟩⟩ =
   some (.exit 2,⟨[(4,.ptr 0 0),(8,.own false 1 (cX os)),(10,.d y10),(34,.d y34),(35,.d y35)],⟨[(0,.cells c.av)],N⟩⟩))∨
  (¬wI (os.drop 1) (aP l) i r∧(Dn prog).code (.loop qa) ⟨[(4,.ptr 0 0),(8,.own false 1 (cX os)),(10,.d y10),(12,A_ j),(14,A_ b),(34,.d y34),(35,.d y35),(54,.d (.lst (aF ls))),(55,A_ ls.length),(56,A_ i)],⟨[(0,.cells c.av)],N⟩⟩ =
   some (.ret,⟨[(6,B_ false)],⟨[],N⟩⟩)):=by
 have hmx:=je hm;have hml:l∈c.sects:=by rw[<-aT j c.sects,hd];simp
 have hbk:=tg (hf l hml) hmx.1;simp only[c7.av];intro r
 induction r with
 |nil =>
  intro i b h hb hx;have hi:=bg h;refine .inl ⟨trivial,?_⟩;rw[ah iW];simp(disch:=omega)[↓aa]
 |cons v r ih =>
  intro i b h hb hx;have hg:=yb h;have hlt:=bE h;have hvI:=hlI v (by rw[<-aT i ls,h];simp);have c1:((i+1:Nat):Int)=(i:Int)+1:=rfl;by_cases v0:v=0
  .have h5:=ih (i+1) b (bt h) hb λx hx2=>by grind
   rw[c1]at h5;have hL:M9 (os.drop 1) (aP l) i v:=.inl v0;rw[wI];subst v0;rcases h5 with ⟨e1,e2⟩|⟨e1,e2⟩
   .refine .inl ⟨⟨hL,e1⟩,?_⟩;rw[ah iW,<-e2];simp(disch:=omega)[↓ac,hg]
   .refine .inr ⟨λh=>e1 h.2,?_⟩;rw[ah iW,<-e2];simp(disch:=omega)[↓ac,hg]
  .have hsk:=aar hb hx;have hdd:os.drop (b+1)=(os.drop 1).drop b:=u_;have hex:∃x∈os.drop (b+1),i<x:=by
    grind [List.take_append_drop]
   have h0:=aeX os ho (.cells c.av) (.ptr 0 0) (.d (.lst (aF ls))) y10 (.int .i64 j) (.int .i64 v) y34 y35 (.int .i64 ls.length) (.int .i64 i) i o_ hoI ⟨[(0,.cells c.av)],N⟩ (os.drop (b+1)) b rfl hex;rw[hdd,<-hsk]at h0;have hbl:=aus (l:=os.drop 1) (i:=i);have hbt:=amD (l:=os.drop 1) (i:=i);have hol:(os.drop 1).length<=100:=d_;obtain⟨B,hB⟩:∃B,B=qP (os.drop 1) i:=⟨_,rfl⟩
   have h5:=ih (i+1) B (bt h) o_ λx hx2=>by grind
   rw[c1]at h5;simp only[c7.av]at h0;rw[wI];unfold M9;rw[<-hB]at h0⊢;by_cases hBm:(B:Int)<c.info.max
   .have hBl:B<(aP l).length:=o_;obtain⟨k,hk⟩:∃k,(aP l)[B]?=some k:=⟨_,bB hBl⟩
    have hBk:=ad3 c.sects hc.sects.1 hc.sects.2 c.info.max o_ hf j B l rr hd k hk;rw[hk];by_cases hk1:1<=k∧k<=11
    .obtain⟨K,rfl⟩:=az (show 0<=k by omega);have hft:=ap3 K o_ v hvI;by_cases hfit:v.natAbs<=iH K
     .rw[decide_eq_true hfit]at hft;have hL:v=0∨∃k,some (K:Int)=some k∧(1<=k∧k<=11)∧v.natAbs<=iH k.toNat:=.inr ⟨K,rfl,hk1,by simpa using hfit⟩;rcases h5 with ⟨e1,e2⟩|⟨e1,e2⟩
      .refine .inl ⟨⟨hL,e1⟩,?_⟩;rw[ah iW,<-e2];simp(disch:=omega)[↓ac,↓aa,hg,h0,hBk,hft]
      .refine .inr ⟨λh=>e1 h.2,?_⟩;rw[ah iW,<-e2];simp(disch:=omega)[↓ac,↓aa,hg,h0,hBk,hft]
     .rw[decide_eq_false hfit]at hft;refine .inr ⟨λh=>?_,?_⟩
      .grind
      .rw[ah iW];simp(disch:=omega)[↓ac,↓aa,hg,h0,hBk,hft]
    .have hn:¬((v=0∨∃k',some k=some k'∧(1<=k'∧k'<=11)∧v.natAbs<=iH k'.toNat)∧wI (os.drop 1) (aP l) (i+1) r):=λh=>by
      grind
     refine .inr ⟨hn,?_⟩;rw[ah iW];by_cases hk0:k<1
     .simp(disch:=omega)[↓ac,↓aa,hg,h0,hBk]
     .simp(disch:=omega)[↓ac,↓aa,hg,h0,hBk]
   .have hBl:(aP l)[B]?=none:=jQ o_;refine .inr ⟨λh=>?_,?_⟩
    .grind
    .rw[ah iW];simp(disch:=omega)[↓ac,↓aa,hg,h0]
abbrev cu:=@List.length_drop
abbrev fT:=@Nat.add_sub_cancel_left
def arI:∀{l:G_}{w:Int},w<l.sum->(∀n∈l,1<=n)->0<=w->nk l w<l.length
 |[],w,h,_,h0=>by grind
 |n::r,w,h,hn,h0=>by
  rw[nk];split
  .simp
  .have:=arI (l:=r) (w:=w-n) d_ (λm hm=>hn m (.tail _ hm)) (by omega)
   simp_all
def aO.wide (i:aO):Nat:=if i.seq=2 then 32 else 256
def Bv (c:c7)(w:Nat):G_:=(c.lines.drop (w*c.info.wide)).take c.info.wide
def CQ (c:c7)(w:Nat):Q_:=c.sects.getD (nk c.info.groups w) []
def JD (r:Nat)(c:c7):Nat->Nat->Prop
 |0,_=>True
 |k+1,w=>wI ((offs r c.info.short).drop 1) (aP (CQ c w)) 0 (Bv c w)∧JD r c k (w+1)
abbrev TM (r:Nat)(c:c7):Prop:=c.lines.length=256∧JD r c c.info.many 0
def KK:∀x∈Hz,((offs x.1 x.2).drop 1).contains (cond x.2 32 256)=true∧(offs x.1 x.2).all (λy=>decide (y<=1000))=true∧(offs x.1 x.2).length<=64∧1<=(offs x.1 x.2).length:=e_
def aeS (rt:Nat)(hrt:rt<=11)(c:c7)(hc:c.Fit)(hm:c.info.may 11)(hs:jH c.info c.sects)(hl:c.lines.length=256)(N:Nat):∀(k w:Nat),w+k=c.info.many->
  (JD rt c k w∧∃H,(Dn prog).code (.loop qm) ⟨[(4,.ptr 0 0),(8,.own false 1 (cX (offs rt c.info.short))),(10,A_ c.info.wide),(34,A_ c.info.many),(35,A_ w)],⟨[(0,.cells c.av)],N⟩⟩=some (.exit 0,⟨[],⟨H,N⟩⟩))∨
  (¬JD rt c k w∧(Dn prog).code (.loop qm) ⟨[(4,.ptr 0 0),(8,.own false 1 (cX (offs rt c.info.short))),(10,A_ c.info.wide),(34,A_ c.info.many),(35,A_ w)],⟨[(0,.cells c.av)],N⟩⟩=some (.ret,⟨[(6,B_ false)],⟨[],N⟩⟩)):=by
 have hmm:c.info.many*c.info.wide=256∧c.info.many<=8∧c.info.wide<=256∧1<=c.info.many:=by grind [aO.many,aO.wide]
 obtain⟨m1,m2,m3,m4⟩:=hmm;obtain⟨o1,o2,o3,o4⟩:=KK (rt,c.info.short) (iu o_);simp only at o1 o2 o3 o4;obtain⟨g1,g2⟩:=dO hm;have hoI:∀x∈offs rt c.info.short,x<=1000:=λx hx=>by simp_all
 have hcond:(cond c.info.short 32 256:Nat)=c.info.wide:=by
  grind [aO.short,aO.wide]
 rw[hcond]at o1;have hlast:∀i,i<c.info.wide->∃x∈(offs rt c.info.short).drop 1,i<x:=λi hi=>⟨c.info.wide,u_,hi⟩
 intro k
 induction k with
 |zero =>
  intro w hw;refine .inl ⟨trivial,[],?_⟩;rw[ah vT];simp(disch:=omega)[↓ac,↓aa]
 |succ k ih =>
  intro w hw;have hG:=Oy c.info hc.info hm w o_ o_;have hgl:=arI (l:=c.info.groups) (w:=w) o_ (λn hn=>(g1 n hn).1) o_;obtain⟨G,hGe⟩:∃G,G=nk c.info.groups w:=⟨_,rfl⟩
  rw[<-hGe]at hG hgl;have hGs:G<c.sects.length:=o_;have hsa:CQ c w=c.sects[G]:=by grind [CQ]
  have hd:=ee hGs;have hwl:w*c.info.wide+c.info.wide<=256:=by
   grind
  have hwn:(Bv c w).length=c.info.wide:=by unfold Bv;rw[bI,cu];omega
  have hwI:∀v∈Bv c w,i64 v:=λv hv=>hc.lineI v (bG (dh hv))
  have h1:=afb c hc hm hs.2 (offs rt c.info.short) o_ hoI d_ (.int .i64 c.info.wide) (.int .i64 c.info.many) (.int .i64 w) G c.sects[G] _ hd (Bv c w) o_ hwI (λi hi=>hlast i o_) N (Bv c w) 0 0 rfl o_ s_;have h2:=ih (w+1) o_;have c1:((w+1:Nat):Int)=(w:Int)+1:=rfl;have c0:((0:Nat):Int)=0:=rfl;rw[c1]at h2;rw[c0]at h1;rw[hwn]at h1;have hmul:(w:Int)*c.info.wide=((w*c.info.wide:Nat):Int):=o_;have hmul2:((w:Int)+1)*c.info.wide=((w*c.info.wide+c.info.wide:Nat):Int):=d_;have hsl:=agu (h:=[(0,.cells c.av)]) (l:=c.lines) (a:=w*c.info.wide) (b:=w*c.info.wide+c.info.wide) o_ o_ ((w:Int)*c.info.wide) (((w:Int)+1)*c.info.wide) hmul hmul2;rw[fT]at hsl;have hW:((c.lines.drop (w*c.info.wide)).take c.info.wide)=Bv c w:=rfl;rw[hW]at hsl;have hlw:=iA (l:=Bv c w);rw[hwn]at hlw;rw[JD,hsa];simp only[c7.av,aO.cells]at h1 h2 hsl hG⊢;rcases h1 with ⟨e1,e2⟩|⟨e1,e2⟩
  .rcases h2 with ⟨f1,H,f2⟩|⟨f1,f2⟩
   .refine .inl ⟨⟨e1,f1⟩,H,?_⟩;rw[ah vT,<-f2];simp(disch:=omega)[↓ac,hG,hsl,hlw,e2]
   .refine .inr ⟨λh=>f1 h.2,?_⟩;rw[ah vT,<-f2];simp(disch:=omega)[↓ac,hG,hsl,hlw,e2]
  .refine .inr ⟨λh=>e1 h.1,?_⟩;rw[ah vT];simp(disch:=omega)[↓ac,hG,hsl,hlw,e2]
def aoN (rt:Nat)(hrt:rt<=11)(c:c7)(hc:c.Fit)(hm:c.info.may 11)(hs:jH c.info c.sects):(TM rt c∧bi prog CU [A_ rt,.agg c.av,A_ c.info.many]=some (B_ true))∨(¬TM rt c∧bi prog CU [A_ rt,.agg c.av,A_ c.info.many]=some (B_ false)):=by
 have hof:=BC rt c.info.short;rw[aH aiE agz rfl];by_cases hl:c.lines.length=256
 .have h0:=aeS rt hrt c hc hm hs hl 1 c.info.many 0 o_;have c0:((0:Nat):Int)=0:=rfl;rw[c0]at h0;have hq:(256:Int).tdiv c.info.many=c.info.wide:=by grind [aO.many,aO.wide]
  have hmm:1<=c.info.many∧c.info.many<=8∧c.info.wide<=256:=by grind [aO.many]
  by_cases hs2:c.info.seq=2
  .have hsh:c.info.short=true:=decide_eq_true hs2;rw[hsh]at hof h0;rcases h0 with ⟨e1,H,e2⟩|⟨e1,e2⟩
   .refine .inl ⟨⟨hl,e1⟩,?_⟩;simp(disch:=omega)[↓ac,hof,hq,e2]
   .refine .inr ⟨λh=>e1 h.2,?_⟩;simp(disch:=omega)[↓ac,hof,hq,e2]
  .have hsh:c.info.short=false:=decide_eq_false hs2;rw[hsh]at hof h0;rcases h0 with ⟨e1,H,e2⟩|⟨e1,e2⟩
   .refine .inl ⟨⟨hl,e1⟩,?_⟩;simp(disch:=omega)[↓ac,↓aa,hof,hq,e2]
   .refine .inr ⟨λh=>e1 h.2,?_⟩;simp(disch:=omega)[↓ac,↓aa,hof,hq,e2]
 .refine .inr ⟨λh=>hl h.1,?_⟩;simp(disch:=omega)[↓ac,↓aa]
abbrev asf:D_:=[.fn Ep [] [.ptr 1 0],.fn DR [] [.ptr 1 0],.fn D4 [] [.ptr 1 0],.fn DM [] [.ptr 1 0,.ptr 2 0],.fn EH [] [.ptr 0 0,.ptr 1 0,.ptr 2 0]]
abbrev za (rt:Int)(c:c7):am:=[(0,.cells [A_ rt]),(1,.cells c.av),(2,.cells [A_ c.info.many]),(3,.cells asf)]
def xB (rt:Int)(c:c7)(N i:Nat)(hi:i<5)(F:AV)(hF:asf[i]?=some F)(hF2:firm (firm (firm (share F)))=F)(B:Bool)(hB:cq (Dn prog) F [] ⟨za rt c,N⟩=some (B_ B,⟨za rt c,N⟩)) :
  (Dn prog).code (.loop ke) ⟨[(28,.sl 3 0 5),(29,A_ 5),(30,A_ i)],⟨za rt c,N⟩⟩ =
  if B=true then (Dn prog).code (.loop ke) ⟨[(28,.sl 3 0 5),(29,A_ 5),(30,A_ ((i+1:Nat):Int))],⟨za rt c,N⟩⟩ else some (.ret,⟨[(4,A_ 8)],⟨za rt c,N⟩⟩):=by
 have c1:((i+1:Nat):Int)=(i:Int)+1:=rfl;obtain⟨hlt,e⟩:=aN.1 hF;rw[c1,ah KE]
 cases B with
 |true =>
  simp(disch:=omega)[↓ac,↓aa,e,hF2,hB]
 |false =>
  simp(disch:=omega)[↓ac,↓aa,e,hF2,hB]
def awa (rt:Int)(c:c7)(N:Nat):(Dn prog).call Ep [.ptr 1 0] ⟨za rt c,N⟩=some (B_ (decide (0<=c.gain∧c.gain<=255)),⟨za rt c,N⟩):=by
 rw[aZ acp aaU rfl];by_cases h1:0<=c.gain
 .by_cases h2:c.gain<=255
  .rw[decide_eq_true ⟨h1,h2⟩];simp(disch:=omega)[↓ac,↓aa]
  .rw[decide_eq_false (λh=>h2 h.2)];simp(disch:=omega)[↓ac,↓aa]
 .rw[decide_eq_false (λh=>h1 h.1)];simp(disch:=omega)[↓ac,↓aa]
def axs (rt:Int)(c:c7)(N:Nat)(B:Bool)(h:bi prog CL [.agg c.av]=some (B_ B)):(Dn prog).call DR [.ptr 1 0] ⟨za rt c,N⟩=some (B_ B,⟨za rt c,N⟩):=by
 rw[aZ ab6 ab8 rfl];simp(disch:=omega)[h]
def avE (rt:Int)(c:c7)(N:Nat)(B:Bool)(h:bi prog Jw [.agg c.av]=some (B_ B)):(Dn prog).call D4 [.ptr 1 0] ⟨za rt c,N⟩=some (B_ B,⟨za rt c,N⟩):=by
 rw[aZ acC abK rfl];simp(disch:=omega)[h]
def awv (rt:Int)(c:c7)(N:Nat)(B:Bool)(h:bi prog EW [.agg c.av,A_ c.info.many]=some (B_ B)):(Dn prog).call DM [.ptr 1 0,.ptr 2 0] ⟨za rt c,N⟩=some (B_ B,⟨za rt c,N⟩):=by
 rw[aZ acb acn rfl];simp(disch:=omega)[h]
def aml (rt:Int)(c:c7)(N:Nat)(B:Bool)(h:bi prog CU [A_ rt,.agg c.av,A_ c.info.many]=some (B_ B)):(Dn prog).call EH [.ptr 0 0,.ptr 1 0,.ptr 2 0] ⟨za rt c,N⟩=some (B_ B,⟨za rt c,N⟩):=by
 rw[aZ abq aaH rfl];simp(disch:=omega)[h]
structure ph (r:Nat)(c:c7):Prop where
 gain:0<=c.gain∧c.gain<=255
 info:c.info.may r
 sects:jH c.info c.sects
 steps:AP c.gain c.sects c.steps
 tns:Tt c.info c.tns
 lines:TM r c
def Nu {f:FuncId}{caps:D_}{h:am}{N:Nat}:cq (Dn prog) (.fn f [] caps) [] ⟨h,N⟩=(Dn prog).call f caps ⟨h,N⟩:=s_
def Ok (rt:Int)(c:c7)(hc:c.Fit):(dR rt∧ph rt.toNat c∧bi prog jf [A_ rt,.agg c.av]=some (A_ 0))∨
  (dR rt∧¬ph rt.toNat c∧bi prog jf [A_ rt,.agg c.av]=some (A_ 8))∨(¬dR rt∧bi prog jf [A_ rt,.agg c.av]=some (A_ 2)):=by
 have hi:=xp rt c.info hc.info;have hw:=oD c.info hc.info;simp only[aO.cells]at hi hw;by_cases hr:dR rt
 .rw[ac hr]at hi;by_cases hm:c.info.may rt.toNat
  .rw[ac hm]at hi;have hm11:=gQ o_ hm;rw[ac hm11]at hw;have hmm:c.info.many<=8:=by grind [aO.many]
   have cI:(rt.toNat:Int)=rt:=o_;have c0:((0:Nat):Int)=0:=rfl;have fin:∀(e:Int) (X:J_),(Dn prog).code (.loop ke) ⟨[(28,.sl 3 0 5),(29,A_ 5),(30,A_ ((0:Nat):Int))],⟨za rt c,4⟩⟩=X->(X=some (.exit 0,⟨[],⟨za rt c,4⟩⟩)∧e=0∨X=some (.ret,⟨[(4,A_ 8)],⟨za rt c,4⟩⟩)∧e=8)->bi prog jf [A_ rt,.agg c.av]=some (A_ e):=by
    intro e X h hX;rw[c0]at h;simp only[za,asf,c7.av]at h hX;rw[aH Jy Jc rfl];rcases hX with ⟨rfl,rfl⟩|⟨rfl,rfl⟩
    .simp(disch:=omega)[↓ac,↓aa,hi,hw,JY,h]
    .simp(disch:=omega)[↓ac,↓aa,hi,hw,JY,h]
   have s1:=xB rt c 4 0 o_ _ rfl rfl _ (Nu.trans (awa rt c 4));by_cases b1:0<=c.gain∧c.gain<=255
   .rw[ac (decide_eq_true b1)]at s1;have s2:=xB rt c 4 (0+1) o_ _ rfl rfl _ (Nu.trans (axs rt c 4 _ (aeg c hc hm11)));rw[s2]at s1;by_cases b2:jH c.info c.sects
    .rw[ac (decide_eq_true b2)]at s1;have s3:=xB rt c 4 (0+1+1) o_ _ rfl rfl _ (Nu.trans (avE rt c 4 _ (aos c hc hm11 b1 b2)));rw[s3]at s1;by_cases b3:AP c.gain c.sects c.steps
     .rw[ac (decide_eq_true b3)]at s1;have s4:=xB rt c 4 (0+1+1+1) o_ _ rfl rfl _ (Nu.trans (awv rt c 4 _ (ai1 c hc c.info.many hmm)));rw[s4]at s1;by_cases b4:Tt c.info c.tns
      .rw[ac (decide_eq_true b4)]at s1;have hL:=aoN rt.toNat o_ c hc hm11 b2;rw[cI]at hL;rcases hL with ⟨b5,h5⟩|⟨b5,h5⟩
       .have s5:=xB rt c 4 (0+1+1+1+1) o_ _ rfl rfl _ (Nu.trans (aml rt c 4 _ h5));rw[s5]at s1;have s6:(Dn prog).code (.loop ke) ⟨[(28,.sl 3 0 5),(29,A_ 5),(30,A_ ((0+1+1+1+1+1:Nat):Int))],⟨za rt c,4⟩⟩=some (.exit 0,⟨[],⟨za rt c,4⟩⟩):=by
         have c5:((0+1+1+1+1+1:Nat):Int)=5:=rfl;rw[c5,ah KE];simp(disch:=omega)[↓aa]
        rw[s6]at s1;exact .inl ⟨hr,⟨b1,hm,b2,b3,b4,b5⟩,fin 0 _ s1 (.inl ⟨rfl,rfl⟩)⟩
       .have s5:=xB rt c 4 (0+1+1+1+1) o_ _ rfl rfl _ (Nu.trans (aml rt c 4 _ h5))
        grind [ph.lines]
      grind [ph.tns]
     grind [ph.steps]
    grind [ph.sects]
   grind [ph.gain]
  .refine .inr (.inl ⟨hr,λh=>hm h.info,?_⟩);rw[aH Jy Jc rfl];simp(disch:=omega)[↓ac,↓aa,hi]
 .refine .inr (.inr ⟨hr,?_⟩);rw[aH Jy Jc rfl];simp(disch:=omega)[↓ac,↓aa,hi]
def aEC {n:Int}{k P:Nat}(hP:2 ^ k=P)(hk:k<=62):eW .and (A_ n) (A_ ((P:Int)-1))=some (.int .i64 (n % P)):=by
 have h1:2 ^ k<=2 ^ 62:=aw o_ hk;have h2:=bV k;have hd:(P:Int) ∣ 18446744073709551616:=by
  subst hP;have:(2:Nat) ^ k ∣ 2 ^ 64:=Nat.pow_dvd_pow 2 o_;have:=Int.natCast_dvd_natCast.2 this;simpa using this
 have e0:0<=n % 18446744073709551616:=Int.emod_nonneg _ o_;have e1:n % 18446744073709551616 % P=n % P:=Int.emod_emod_of_dvd n hd;refine r5 ?_;rw[lh s_ s_];have c:(P:Int)-1=((P-1:Nat):Int):=o_;rw[c];simp only[jq,F3,BitVec.toNat_and,Fj (show P-1<jW .i64 by simp[jW,IntKind.signed];omega)];have e2:((2 ^ IntKind.i64.bits:Nat):Int)=18446744073709551616:=rfl;rw[BitVec.toNat_ofInt,e2];subst hP;rw[mR];have h3:(n % 18446744073709551616).toNat % 2 ^ k<2 ^ k:=eC _ h2;rw[afn (by simp[jW,IntKind.signed];omega),Int.natCast_emod];have e3:(((n % 18446744073709551616).toNat:Nat):Int)=n % 18446744073709551616:=o_;rw[e3,e1]
def adW {hp:AV->am}{p N:Nat}(H:Hv hp p){b:C_}(hb:b.length<=900000000)(n:Int)(s:Nat)(hs:s<=31)(hn:i64 n)(sI:Int)(es:sI=s) :
  (Dn prog).call pC [A_ n,A_ sI,.ptr p 0] ⟨hp (.own false 1 (ai b)),N⟩=some (.tup [],⟨hp (.own false 1 (ai (b++aq (n % ((2 ^ s:Nat):Int)).toNat s))),N⟩):=by
 subst es;have h31:2 ^ s<=2 ^ 31:=aw o_ hs;have h2:=bV s;have q1:=Ud (m:=s) o_;have q2:=aEC (n:=n) (k:=s) rfl o_;have e0:0<=n % ((2 ^ s:Nat):Int):=Int.emod_nonneg _ o_;have e1:n % ((2 ^ s:Nat):Int)<((2 ^ s:Nat):Int):=Int.emod_lt_of_pos _ o_;have h1:=lm b (n % ((2 ^ s:Nat):Int)) s hb o_ _ (.inl rfl);rw[ac (by simp only[nq,au];omega)]at h1;simp only[au]at h1;generalize n % ((2 ^ s:Nat):Int)=Q at *;generalize 2 ^ s=P at *;rw[aZ ZG Y8 rfl];simp(maxSteps:=300000) (disch:=omega)[H.get,H.put,-sq,q1,q2,h1]
def fM (f:cf):Bool:=decide (∀c∈f.coefs,-(dD f.fine / 2)<=c∧c<dD f.fine / 2)
def fF (fine:Bool):Nat:=if fine then 4 else 3
def dT (b:Bool):Nat:=if b then 1 else 0
def tJ (f:cf):Nat:=fF f.fine-dT (fM f)
def qe (w:Nat)(l:G_):C_:=l.flatMap λc=>aq (c % ((2 ^ w:Nat):Int)).toNat w
def bS (sh:Bool):Nat:=if sh then 4 else 6
def bQ (sh:Bool):Nat:=if sh then 3 else 5
def eD (sh:Bool):Nat:=if sh then 1 else 2
def sJ (sh:Bool)(f:cf):C_:=aq f.len.toNat (bS sh)++(aq f.order.toNat (bQ sh)++if f.order=0 then [] else aq (dT f.down) 1++(aq (dT (fM f)) 1++qe (tJ f) f.coefs))
def As (sh:Bool)(l:AA_):C_:=aq l.length (eD sh)++match l with
 |[]=>[]
 |f0::_=>aq (dT f0.fine) 1++l.flatMap (sJ sh)
def js (sh:Bool)(t:O_):C_:=t.flatMap (As sh)
abbrev Vd (sh:Bool)(v:AV):am:=[(0,.cells [v]),(2,.cells (lY sh))]
abbrev WQ (full:O_)(i:Int)(r:aV):aV:=(3,.ptr 0 0)::(9,.fn pC [] [.ptr 0 0])::(10,.ptr 2 0)::(30,.d (.lst (cR full)))::(31,A_ full.length)::(32,A_ i)::r
def at7 (sh:Bool):Hv (Vd sh) 0:=⟨λv=>by simp,λv w=>by simp⟩
theorem YR {w:Nat}:∀{l:G_},(qe w l).length=w*l.length
 |[]=>by simp[qe]
 |c::r=>by
  have:=YR (w:=w) (l:=r);rw[qe]at this⊢;rw[aE,al,dI,ar,this,Nat.mul_add];omega
def ayX (sh:Bool)(full:O_)(i:Int)(l:AA_)(k:Int)(nw:Bool)(w:Nat)(hw:1<=w-dT nw∧w<=4)(cs:G_)(hcs:cs.length<=100)(hcI:∀c∈cs,i64 c)(N:Nat):∀(r:G_) (j:Nat) (b:C_),cs.drop j=r->b.length+4*r.length<=900000000->
  (Dn prog).code (.loop tF) ⟨(3,.ptr 0 0)::(9,.fn pC [] [.ptr 0 0])::(10,.ptr 2 0)::(15,A_ w)::(16,B_ nw)::(30,.d (.lst (cR full)))::(31,A_ full.length)::(32,A_ i)::[(52,.d (.lst (eq l))),(53,A_ l.length),(54,A_ k),(91,.d (.lst (aF cs))),(92,A_ cs.length),(93,A_ j)],⟨Vd sh (.own false 1 (ai b)),N⟩⟩ =
  some (.exit 4,⟨WQ full i [(52,.d (.lst (eq l))),(53,A_ l.length),(54,A_ k)],⟨Vd sh (.own false 1 (ai (b++qe (w-dT nw) r))),N⟩⟩):=by
 intro r
 induction r with
 |nil =>
  intro j b hd hb;have hi:=bg hd;rw[ah IT];simp(maxSteps:=300000) (disch:=omega)[↓aa,qe]
 |cons c r ih =>
  intro j b hd hb;simp only[ar]at hb;have hg:=yb hd;have hlt:=bE hd;have hcc:=hcI c (by rw[<-aT j cs,hd];simp);have hbit:=E6 nw;have hbI:((dT nw:Nat):Int)=if nw=true then 1 else 0:=by cases nw<;>rfl
  rw[<-hbI]at hbit;have hbb:dT nw<=1:=by cases nw<;>decide
  have hp:=adW (at7 sh) (N:=N) (b:=b) o_ c (w-dT nw) o_ hcc ((w:Int)-dT nw) o_;have h5:=ih (j+1) (b++aq (c % ((2 ^ (w-dT nw):Nat):Int)).toNat (w-dT nw)) (bt hd) g_;have c1:((j+1:Nat):Int)=(j:Int)+1:=rfl;have ea:b++qe (w-dT nw) (c::r)=b++aq (c % ((2 ^ (w-dT nw):Nat):Int)).toNat (w-dT nw)++qe (w-dT nw) r:=by rw[qe,aE,ax];rfl
  rw[c1]at h5;rw[ea,<-h5,ah IT];simp(maxSteps:=300000) (disch:=omega)[↓ac,hg,hbit,hp]
abbrev jI:=@Int.emod_eq_of_lt
@[simp] def aGb {sh:Bool}:(lY sh)[0]?=some (A_ (eD sh:Int)):=by cases sh<;>rfl
@[simp] def aGt {sh:Bool}:(lY sh)[1]?=some (A_ (bS sh:Int)):=by cases sh<;>rfl
@[simp] def aF4 {sh:Bool}:(lY sh)[2]?=some (A_ (bQ sh:Int)):=by cases sh<;>rfl
@[simp] def aBy {sh:Bool}:(lY sh).map nu=lY sh:=by cases sh<;>rfl
def Bf {hp:AV->am}{p N:Nat}(H:Hv hp p){b:C_}(hb:b.length<=900000000)(n:Int)(s:Nat)(hs:s<=31)(h0:0<=n)(h1:n.toNat<2 ^ s)(m:Nat)(hm:m=n.toNat)(sI:Int)(es:sI=s) :
  (Dn prog).call pC [A_ n,A_ sI,.ptr p 0] ⟨hp (.own false 1 (ai b)),N⟩=some (.tup [],⟨hp (.own false 1 (ai (b++aq m s))),N⟩):=by
 have h31:2 ^ s<=2 ^ 31:=aw o_ hs;have h:=adW H (N:=N) hb n s hs o_ sI es
 simp_all [jI]
abbrev ayF (sh:Bool)(N:Nat)(f:cf)(v:AV):am:=[(0,.cells [v]),(2,.cells (lY sh)),(N,.cells f.av)]
def afq (sh:Bool)(N:Nat)(hN:3<=N)(f:cf):Hv (ayF sh N f) 0:=⟨λv=>by simp,λv w=>by simp⟩
def V2 (f:cf):1<=tJ f∧fF f.fine<=4∧3<=fF f.fine∧dT (fM f)<=1:=by
 grind [tJ,fF,dT]
theorem aAa (sh:Bool)(full:O_)(i:Int)(l:AA_)(hl:l.length<=100)(k N:Nat)(hN:3<=N)(f:cf)(r:AA_)(hd:l.drop k=f::r)(hf:Cg sh f)(hcI:∀c∈f.coefs,i64 c)(b:C_)(hb:b.length<=800000000) :
  (Dn prog).code om ⟨WQ full i [(52,.d (.lst (eq l))),(53,A_ l.length),(54,A_ k)],⟨Vd sh (.own false 1 (ai b)),N⟩⟩ =
  some (.normal,⟨WQ full i [(52,.d (.lst (eq l))),(53,A_ l.length),(54,A_ ((k+1:Nat):Int))],⟨Vd sh (.own false 1 (ai (b++sJ sh f))),N+1⟩⟩):=by
 have hg:=E1 hd;have hlt:=bE hd;obtain⟨⟨l1,l2⟩,⟨o1,o2⟩,c1,d1,c2⟩:=hf;have hlw:Ah sh<2 ^ bS sh∧bS sh<=6∧wp sh<2 ^ bQ sh∧bQ sh<=5∧wp sh<=12:=by cases sh<;>decide
 obtain⟨w1,w2,w3,w4,w5⟩:=hlw;have wN1:((2 ^ bS sh:Nat):Int)=2 ^ bS sh:=s_;have wN2:((2 ^ bQ sh:Nat):Int)=2 ^ bQ sh:=s_;have p1:=Bf (afq sh N hN f) (N:=N+1) (b:=b) o_ f.len (bS sh) o_ l1 o_ f.len.toNat rfl (bS sh) rfl;have p2:=Bf (afq sh N hN f) (N:=N+1) (b:=b++aq f.len.toNat (bS sh)) g_ f.order (bQ sh) o_ o1 o_ f.order.toNat rfl (bQ sh) rfl;have n0:N≠0∧N≠1∧N≠2:=o_;obtain⟨n0,n1,n2⟩:=n0;have c9:((k+1:Nat):Int)=(k:Int)+1:=rfl;rw[c9,Jo];by_cases h0:f.order=0
 .have e:b++sJ sh f=b++aq f.len.toNat (bS sh)++aq f.order.toNat (bQ sh):=by grind [sJ]
  rw[e];generalize b++aq f.len.toNat (bS sh)++aq f.order.toNat (bQ sh)=B2 at *;generalize b++aq f.len.toNat (bS sh)=B1 at *;simp only[ayF,cf.av]at p1 p2;simp(disch:=omega)[↓ac,↓aa,hg,p1,p2]
 .have hw:=Jz f.fine;obtain⟨q1,q2,q3,q4⟩:=V2 f;have hcl:f.coefs.length<=100:=o_;have hft:=K9 f.coefs o_ (fF f.fine-1) o_;have hh:((2 ^ (fF f.fine-1-1):Nat):Int)=dD f.fine / 2:=by unfold fF dD;grind
  have hwI:(if f.fine=true then (4:Int) else 3)=(fF f.fine:Int):=by grind [fF]
  have hwS:((fF f.fine-1:Nat):Int)=(fF f.fine:Int)-1:=o_;have hnr:decide (∀c∈f.coefs,-(dD f.fine / 2)<=c∧c<dD f.fine / 2)=fM f:=rfl;rw[hh,hnr,hwS]at hft;rw[hwI]at hw;have hb1:=E6 f.down;have hb2:=E6 (fM f);have e1:(if f.down=true then (1:Int) else 0)=(dT f.down:Int):=by cases f.down<;>rfl
  have e2:(if fM f=true then (1:Int) else 0)=(dT (fM f):Int):=by cases fM f<;>rfl
  rw[e1]at hb1;rw[e2]at hb2;have hbd:dT f.down<=1:=o_;have p3:=Bf (afq sh N hN f) (N:=N+1) (b:=b++aq f.len.toNat (bS sh)++aq f.order.toNat (bQ sh)) g_ (dT f.down) 1 o_ o_ o_ (dT f.down) s_ 1 rfl;have p4:=Bf (afq sh N hN f) (N:=N+1) (b:=b++aq f.len.toNat (bS sh)++aq f.order.toNat (bQ sh)++aq (dT f.down) 1) g_ (dT (fM f)) 1 o_ o_ o_ (dT (fM f)) s_ 1 rfl;have p5:=ayX sh full i l k (fM f) (fF f.fine) o_ f.coefs hcl hcI (N+1) f.coefs 0 (b++aq f.len.toNat (bS sh)++aq f.order.toNat (bQ sh)++aq (dT f.down) 1++aq (dT (fM f)) 1) rfl g_;have c0:((0:Nat):Int)=0:=rfl;have hlc:=iA (l:=f.coefs);have e:b++sJ sh f=b++aq f.len.toNat (bS sh)++aq f.order.toNat (bQ sh)++aq (dT f.down) 1++aq (dT (fM f)) 1++qe (fF f.fine-dT (fM f)) f.coefs:=by
   rw[sJ,aa h0];simp only[ax];rfl
  rw[c0]at p5;rw[e];generalize b++aq f.len.toNat (bS sh)++aq f.order.toNat (bQ sh)++aq (dT f.down) 1++aq (dT (fM f)) 1=B4 at *;generalize b++aq f.len.toNat (bS sh)++aq f.order.toNat (bQ sh)=B2 at *;simp(disch:=omega)[↓ac,↓aa,hg,p1,p2,p3,p4,p5,hw,hft,hb1,hb2,hlc]
theorem aht {sh:Bool}{f:cf}(hf:Cg sh f):(sJ sh f).length<=100:=by
 obtain⟨⟨l1,l2⟩,⟨o1,o2⟩,c1,d1,c2⟩:=hf;have hlw:bS sh<=6∧bQ sh<=5∧wp sh<=12:=by cases sh<;>decide
 obtain⟨q1,q2,q3,q4⟩:=V2 f;have hcw:tJ f<=4:=by unfold tJ;omega
 have h1:tJ f*f.coefs.length<=4*f.coefs.length:=b8 _ hcw
 grind [sJ,dI,YR]
def apk (sh:Bool)(full:O_)(i:Int)(l:AA_)(hl:l.length<=100):∀(r:AA_) (k N:Nat) (b:C_),l.drop k=r->3<=N->(∀f∈r,Cg sh f∧∀c∈f.coefs,i64 c)->b.length+100*r.length<=800000000->
  ∃M,3<=M∧(Dn prog).code (.loop om) ⟨WQ full i [(52,.d (.lst (eq l))),(53,A_ l.length),(54,A_ k)],⟨Vd sh (.own false 1 (ai b)),N⟩⟩ =
  some (.exit 2,⟨WQ full i [],⟨Vd sh (.own false 1 (ai (b++r.flatMap (sJ sh)))),M⟩⟩):=by
 intro r
 induction r with
 |nil =>
  intro k N b hd hN hr hb;have hi:=bg hd;refine⟨N,hN,?_⟩;rw[ah Jo,ge,bh];simp(disch:=omega)[↓aa]
 |cons f r ih =>
  intro k N b hd hN hr hb;obtain⟨h1,h2⟩:=hr f (.head _);have h3:=aht h1;obtain⟨M,hM,e⟩:=ih (k+1) (N+1) (b++sJ sh f) (bt hd) o_ (λq hq=>hr q (.tail _ hq)) (by grind)
  grind [ah,aAa,Mc]
def abR {sh:Bool}{l:AA_}(h:tv sh l):(As sh l).length<=1000:=by
 have hm:pz sh<=3∧eD sh<=2:=by cases sh<;>decide
 have h1:=h.1;unfold As;rw[al,dI]
 cases l with
 |nil=>grind
 |cons f0 r =>
  have h2:=h.2 f0 s_;have:∀q:AA_,(∀f∈q,Cg sh f)->(q.flatMap (sJ sh)).length<=100*q.length:=by
   intro q
   induction q<;>grind [aht]
  grind [dI]
def aym (i:aO)(full:O_)(hl:full.length<=1000):∀(r:O_) (j N:Nat) (b:C_),full.drop j=r->3<=N->(∀l∈r,tv i.short l∧∀f∈l,∀c∈f.coefs,i64 c)->b.length+1000*r.length<=700000000->
  ∃M,(Dn prog).code (.loop ue) ⟨WQ full j [],⟨Vd i.short (.own false 1 (ai b)),N⟩⟩ =
  some (.exit 0,⟨[(3,.ptr 0 0)],⟨[(0,.cells [.own false 1 (ai (b++js i.short r))])],M⟩⟩):=by
 intro r
 induction r with
 |nil =>
  intro j N b hd hN hr hb;have hi:=bg hd;refine⟨N,?_⟩;rw[ah Ag,js,ge,bh];simp(disch:=omega)[↓aa]
 |cons l r ih =>
  intro j N b hd hN hr hb;simp only[ar]at hb;have hg:=AX hd;have hlt:=bE hd;obtain⟨h1,h2⟩:=hr l (.head _);have hwl:=abR h1;have hm:pz i.short<=3∧eD i.short<=2∧pz i.short<2 ^ eD i.short:=by cases i.short<;>decide
  obtain⟨m1,m2,m3⟩:=hm;have hll:=h1.1;have p1:=Bf (at7 i.short) (N:=N) (b:=b) o_ l.length (eD i.short) o_ o_ o_ l.length s_ (eD i.short) rfl;have c1:((j+1:Nat):Int)=(j:Int)+1:=rfl;have c0:((0:Nat):Int)=0:=rfl
  cases l with
  |nil =>
   have eb:As i.short []=aq 0 (eD i.short):=by simp[As]
   obtain⟨M2,hM2,p2⟩:=apk i.short full j [] s_ [] 0 N (b++As i.short []) rfl hN s_ d_;obtain⟨M,e⟩:=ih (j+1) M2 (b++As i.short []) (bt hd) hM2 (λq hq=>hr q (.tail _ hq)) d_;refine⟨M,?_⟩;have ea:b++js i.short ([]::r)=b++As i.short []++js i.short r:=by grind [js]
   rw[eb]at ea e p2;simp only[bf,ge,bh]at p1 p2;rw[c1]at e;rw[c0]at p1 p2;have n0:eq []=[]:=rfl;rw[n0]at hg p2;rw[ea];generalize b++aq 0 (eD i.short)++js i.short r=BB at *;generalize b++aq 0 (eD i.short)=B1 at *;simp only[Vd]at p1 p2 e⊢;rw[<-e,ah Ag];simp(disch:=omega)[↓ac,↓aa,hg,p1,p2]
  |cons f0 r0 =>
   have hgf:=E1 (l:=f0::r0) (i:=0) (s:=f0) (r:=r0) rfl;have hb1:=E6 f0.fine;have e1:(if f0.fine=true then (1:Int) else 0)=(dT f0.fine:Int):=by cases f0.fine<;>rfl
   rw[e1]at hb1;have hbd:dT f0.fine<=1:=o_;have hok:∀f∈f0::r0,Cg i.short f∧∀c∈f.coefs,i64 c:=λf hf=>⟨(h1.2 f0 s_ f hf).1,h2 f hf⟩
   have p2:=Bf (at7 i.short) (N:=N) (b:=b++aq (f0::r0).length (eD i.short)) g_ (dT f0.fine) 1 o_ o_ o_ (dT f0.fine) s_ 1 rfl;obtain⟨M2,hM2,p3⟩:=apk i.short full j (f0::r0) o_ (f0::r0) 0 N (b++aq (f0::r0).length (eD i.short)++aq (dT f0.fine) 1) rfl hN hok (by grind [dI]);have eb:b++aq (f0::r0).length (eD i.short)++aq (dT f0.fine) 1++(f0::r0).flatMap (sJ i.short)=b++As i.short (f0::r0):=by grind [As]
   obtain⟨M,e⟩:=ih (j+1) M2 (b++As i.short (f0::r0)) (bt hd) hM2 (λq hq=>hr q (.tail _ hq)) d_;refine⟨M,?_⟩;have ea:b++js i.short ((f0::r0)::r)=b++As i.short (f0::r0)++js i.short r:=by grind [js]
   have hll2:1<=(f0::r0).length:=s_;rw[eb]at p3;rw[c1]at e;rw[c0]at p3;rw[ea];generalize b++aq (f0::r0).length (eD i.short)++aq (dT f0.fine) 1=B2 at *;generalize hLL:(f0::r0).length=LL at *;have hfl:(eq (f0::r0)).length=LL:=u_;obtain⟨hgl,hge⟩:=aN.1 hgf;rw[<-e,ah Ag];simp(disch:=omega)[↓ac,↓aa,hg,hge,hfl,hb1,p1,p2,p3]
def ai3 (i:aO)(f0:cf)(l:AA_)(f:cf)(hf:Cg i.short f∧f.fine=f0.fine)(H:am)(p q M:Nat)(hp:get H p=some (.cells i.cells))(hq:get H q=some (.cells [.d (.lst (eq (f0::l)))]))(hl:(f0::l).length<=1000000)(hM:Lt H M) :
  (Dn prog).call mO [.agg f.av,.ptr p 0,.ptr q 0] ⟨H,M⟩=some (B_ false,⟨H,M+1⟩):=by
 have e1:=λo=>uO (o:=o) hM
 have e2:=λo=>xD (o:=o) hM
 have e3:=λo=>AK (N:=M) (o:=o) hp
 have e4:=λo=>AK (N:=M) (o:=o) hq
 have e5:=λo=>ML (o:=o) hM
 have e6:=aeb i f hf.1;have hfn:=hf.2;have hg:=E1 (l:=f0::l) (i:=0) (s:=f0) (r:=l) rfl;rw[aZ UC UM rfl];simp only[cf.av,aO.cells]at e3 e6⊢
 cases hf2:f0.fine<;>rw[hf2]at hg hfn<;>rw[hfn]at e6⊢<;>
  simp(disch:=omega)[e1,e2,e3,e4,e5,e6,hg]
def ahv (i:aO)(full:O_)(hl:full.length<=1000):∀(r:O_) (j N:Nat) (H:am),full.drop j=r->get H 0=some (.cells i.cells)->Lt H N->1<=N->(∀l∈r,tv i.short l)->
  ∃H2 M,(Dn prog).code (.loop qg) ⟨[(2,.ptr 0 0),(21,.d (.lst (cR full))),(22,A_ full.length),(23,A_ j)],⟨H,N⟩⟩=some (.exit 0,⟨[],⟨H2,M⟩⟩):=by
 intro r
 induction r with
 |nil =>
  intro j N H hd hH hL hN hr;have hi:=bg hd;refine⟨H,N,?_⟩;rw[ah F4];simp(disch:=omega)[↓aa]
 |cons l r ih =>
  intro j N H hd hH hL hN hr;have hg:=AX hd;have hlt:=bE hd;have hW:=hr l (.head _);have hm:pz i.short<=3:=by cases i.short<;>decide
  have hll:=hW.1;have e1:=λo=>uO (o:=o) hL
  have e2:=λo=>xD (o:=o) hL
  have e3:=λo=>AK (N:=N) (o:=o) hH
  have e4:=λo o'=>H1 (o:=o) (o':=o') hL
  have hsz:=zW i;have hix:ixV 5 1 false (.agg (lY i.short)) (A_ 3)=some (A_ (pz i.short:Int)):=by cases i.short<;>rfl
  have hcf:∃M,N+1<=M∧(Dn prog).call fD [.d (.lst (eq l)),.fn mO [] [.ptr 0 0,.ptr N 0]] ⟨H++[(N,.cells [.d (.lst (eq l))])],N+1⟩=some (B_ false,⟨H++[(N,.cells [.d (.lst (eq l))])],M⟩):=by
   have h:=Ew (.fn mO [] [.ptr 0 0,.ptr N 0]) (λ_=>false) l o_ (H++[(N,.cells [.d (.lst (eq l))])]) (N+1) rfl rfl λf hf M hM=>by
    cases l with
    |nil=>simp at hf
    |cons f0 r0 =>
     have:=ai3 i f0 r0 f (hW.2 f0 s_ f hf) (H++[(N,.cells [.d (.lst (eq (f0::r0)))])]) 0 N M (e3 _) (e2 _) o_ (Kg (Ny hL) hM)
     simp_all
   grind
  obtain⟨M,hM,e5⟩:=hcf;obtain⟨H2,M2,f2⟩:=ih (j+1) M (H++[(N,.cells [.d (.lst (eq l))])]) (bt hd) (e3 _) (Kg (Ny hL) hM) o_ (λq hq=>hr q (.tail _ hq));refine⟨H2,M2,?_⟩;simp only[aO.cells]at e3 hsz;rw[ah F4,<-f2];simp(disch:=omega)[↓ac,↓aa,hg,e1,e2,e3,e4,e5,hsz,hix]
def aed (i:aO)(hi:i.Fit)(hm:i.may 11)(t:O_)(ht:Tt i t):bi prog J5 [.agg i.cells,.d (.lst (cR t))]=some (A_ 0):=by
 have hw:=oD i hi;have hmm:i.many<=8:=by grind [aO.many]
 obtain⟨H2,M,e⟩:=ahv i t o_ t 0 1 [(0,.cells i.cells)] rfl s_ (λp hp=>by simp_all) o_ ht.2;have c0:((0:Nat):Int)=0:=rfl;rw[c0]at e;simp only[aO.cells]at hw e;rw[aH XW aaA rfl];simp(disch:=omega)[↓ac,hw,e]
def akG (b:C_)(hb:b.length<=600000000)(x:AV)(hx:x=.d (.lst (ai b))∨x=.nl∧b=[])(i:aO)(hi:i.Fit)(hm:i.may 11)(t:O_)(ht:Tt i t)(htI:∀l∈t,∀f∈l,∀c∈f.coefs,i64 c):bi prog Gm [x,.agg i.cells,.d (.lst (cR t))] =
  some (.tup [.own true 1 (ai (b++js i.short t)),A_ 0]):=by
 have hc:=aed i hi hm t ht;have hmm:i.many<=8:=by grind [aO.many]
 obtain⟨M,e⟩:=aym i t o_ t 0 3 b rfl o_ (λl hl=>⟨ht.2 l hl,htI l hl⟩) o_;have hcl:bi prog nv [x]=some (.own true 1 (ai b)):=by
  refine Nd x b o_ ?_;rcases hx with rfl|⟨rfl,rfl⟩<;>rfl
 have hsz:=zW i;have hl5:(lY i.short).length=5:=by cases i.short<;>rfl
 have hall:(lY i.short).all bq=true:=by cases i.short<;>rfl
 have hfm:(lY i.short).map nu=lY i.short:=u_;have c0:((0:Nat):Int)=0:=rfl;rw[c0]at e;simp only[aO.cells,Vd,WQ]at hc e hsz;rw[aH ae5 ae3 rfl];rcases hx with rfl|⟨rfl,rfl⟩
 .simp(disch:=omega)[↓ac,↓aa,hc,hcl,hsz,hl5,hall,hfm,e]
 .simp(disch:=omega)[↓ac,↓aa,hc,hcl,hsz,hl5,hall,hfm,e]
def av1 (id:Nat):bi prog Sg [A_ id]=some (A_ (bO id)):=by
 rw[aH aqV apF rfl];unfold bO;by_cases h:id<5
 .simp(disch:=omega)[↓ac]
 .simp(disch:=omega)[↓aa]
def vJ (d hi:Nat):Nat->Nat->C_
 |0,_=>[]
 |f+1,x=>if x<hi then x::vJ d hi f (x+d) else []
def sR (os:C_)(d b:Nat):Nat->Nat->C_
 |0,_=>[]
 |k+1,w=>(vJ d (nth os (b+1)) 300 (nth os b)).map (λx=>w*32+x)++sR os d b k (w+1)
def BZ (os:C_)(d n first:Nat):Nat->Nat->C_
 |0,_=>[]
 |k+1,b=>sR os d b n first++BZ os d n first k (b+1)
def Dv (os:C_)(n first:Nat):Q_->Nat->S_
 |[],_=>[]
 |s::r,b=>(if s.book=0∨s.book=13 then [] else (BZ os (bO s.book.toNat) n first s.len.toNat b).map λx=>(s.book.toNat,x))++Dv os n first r (b+s.len.toNat)
def rF (os:C_):H_->G_->Nat->S_
 |l::r,n::g,first=>Dv os n.toNat first l 0++rF os r g (first+n.toNat)
 |_,_,_=>[]
def kI {σ τ:Type}(st:Nat×Nat->σ->Sum σ τ):S_->σ->Sum σ τ
 |[],s=>.inl s
 |p::r,s=>match st p s with
  |.inl s=>kI st r s
  |.inr z=>.inr z
def FY {σ τ:Type}{st:Nat×Nat->σ->Sum σ τ}:∀{l r:S_}{s:σ},kI st (l++r) s=match kI st l s with
  |.inl s=>kI st r s
  |.inr z=>.inr z
 |[],r,s=>rfl
 |p::l,r,s=>by
  rw[aR,kI,kI]
  cases st p s with
  |inl s=>simp only[FY]
  |inr z=>rfl
def Sp {σ τ:Type}(hp:σ->am->am)(hq:τ->am->am)(L l:Nat)(st:Nat×Nat->σ->Sum σ τ)(dr:S_->σ->Prop):Prop :=
 ∀p r s K o N,dr (p::r) s->L<=K->K<N->
  (∃s2 M,N<=M∧st p s=.inl s2∧dr r s2∧cq (Dn prog) (.yield l) [.agg [A_ (p.1:Int),A_ (p.2:Int),A_ ((p.2+bO p.1:Nat):Int)]] ⟨hp s [(K,o)],N⟩=some (B_ true,⟨hp s2 [(K,o)],M⟩))∨
  (∃z M,N<=M∧st p s=.inr z∧cq (Dn prog) (.yield l) [.agg [A_ (p.1:Int),A_ (p.2:Int),A_ ((p.2+bO p.1:Nat):Int)]] ⟨hp s [(K,o)],N⟩=some (B_ false,⟨hq z [(K,o)],M⟩))
structure PlS where
 l:Nat
 p2:Nat
 p3:Nat
 full:H_
 os:C_
abbrev eP (P:PlS)(first g b:Int)(r:aV):aV:=(0,.yield P.l)::(2,.ptr P.p2 0)::(3,.ptr P.p3 0)::(5,A_ first)::(6,A_ g)::(8,A_ b)::r
abbrev JX (P:PlS)(g:Int)(r:aV):aV:=(14,.d (.lst (bz P.full)))::(15,A_ P.full.length)::(16,A_ g)::r
abbrev Tf (ls:Q_)(k:Int):aV:=[(21,.d (.lst (gK ls))),(22,A_ ls.length),(23,A_ k)]
section
variable {σ τ:Type}{hp:σ->am->am}{hq:τ->am->am}{L:Nat}{P:PlS}{st:Nat×Nat->σ->Sum σ τ}{dr:S_->σ->Prop}
def aCr (H:Tl hp L)(H2:Tl hq L)(hY:Sp hp hq L P.l st dr)(hg3:∀s T,get (hp s T) P.p3=some (.cells [.own false 1 (cX P.os)]))(s0:aW)(bk:Nat)(hbk:s0.book=bk)(hb1:1<=bk∧bk<=11)(b:Nat)(hb:b+1<P.os.length)(ho:P.os.length<=100)(hhi:nth P.os (b+1)<=256)(first g en gi k:Int)(w:Nat)(hw:w<=8)(ls:Q_)(K:Nat)(hK:L<=K)(rest:S_):∀(f x N:Nat) (s:σ),nth P.os (b+1)<=x+f->x<=300->K<N->dr ((vJ (bO bk) (nth P.os (b+1)) f x).map (λy=>(bk,w*32+y))++rest) s->
  (∃s2 M,N<=M∧kI st ((vJ (bO bk) (nth P.os (b+1)) f x).map (λy=>(bk,w*32+y))) s=.inl s2∧dr rest s2∧
   (Dn prog).code (.loop mX) ⟨eP P first g b ((10,.ptr K 0)::(11,A_ en)::(12,A_ w)::(13,A_ x)::JX P gi (Tf ls k)),⟨hp s [(K,.cells [A_ s0.book,A_ s0.len])],N⟩⟩ =
   some (.exit 8,⟨eP P first g b ((10,.ptr K 0)::(11,A_ en)::(12,A_ w)::JX P gi (Tf ls k)),⟨hp s2 [(K,.cells [A_ s0.book,A_ s0.len])],M⟩⟩))∨
  (∃z M,N<=M∧kI st ((vJ (bO bk) (nth P.os (b+1)) f x).map (λy=>(bk,w*32+y))) s=.inr z∧
   (Dn prog).code (.loop mX) ⟨eP P first g b ((10,.ptr K 0)::(11,A_ en)::(12,A_ w)::(13,A_ x)::JX P gi (Tf ls k)),⟨hp s [(K,.cells [A_ s0.book,A_ s0.len])],N⟩⟩ =
   some (.ret,⟨[],⟨hq z [],M⟩⟩)):=by
 have hG:=λs o=>H.get s K o hK
 have hD2:=λs o=>H2.del s K o hK
 have hd4:bO bk<=4∧2<=bO bk:=by grind [bO]
 have hdim:=av1 bk;have hgo:(cX P.os)[b+1]?=some [.int .i64 (nth P.os (b+1):Nat)]:=Eq hb;have hne:cX P.os≠[]:=d_;intro f
 induction f with
 |zero =>
  intro x N s h1 h2 hKN hi;refine .inl ⟨s,N,ak _,rfl,hi,?_⟩;rw[ah mP];simp(disch:=omega)[↓aa,hg3,hgo]
 |succ f ih =>
  intro x N s h1 h2 hKN hi;by_cases hx:x<nth P.os (b+1)
  .rw[vJ,ac hx,ct,aR]at hi;rw[vJ,ac hx,ct,kI];have c1:((x+bO bk:Nat):Int)=(x:Int)+bO bk:=rfl;have c2:((w*32+x:Nat):Int)=(w:Int)*32+x:=o_;have c3:((w*32+x+bO bk:Nat):Int)=(w:Int)*32+x+bO bk:=o_;rcases hY (bk,w*32+x) _ s K (.cells [A_ s0.book,A_ s0.len]) N hi hK hKN with ⟨s2,M,hM,e1,e2,e3⟩|⟨z,M,hM,e1,e3⟩
   .rw[e1];simp only[c2,c3]at e3;have h9:=ih (x+bO bk) M s2 o_ o_ o_ e2;rw[c1]at h9;rw[hbk]at h9 e3⊢;rcases h9 with ⟨s3,M2,hM2,f1,f2,f3⟩|⟨z,M2,hM2,f1,f3⟩
    .refine .inl ⟨s3,M2,o_,f1,f2,?_⟩;rw[<-f3,ah mP];simp(disch:=omega)[↓ac,hg3,hgo,hG,hdim,-lM,e3]
    .refine .inr ⟨z,M2,o_,f1,?_⟩;rw[<-f3,ah mP];simp(disch:=omega)[↓ac,hg3,hgo,hG,hdim,-lM,e3]
   .rw[e1];simp only[c2,c3]at e3;rw[hbk]at e3⊢;refine .inr ⟨z,M,hM,rfl,?_⟩;rw[ah mP];simp(disch:=omega)[↓ac,hg3,hgo,hG,hdim,-lM,e3,hD2]
  .rw[vJ,aa hx]at hi;rw[vJ,aa hx];refine .inl ⟨s,N,ak _,rfl,hi,?_⟩;rw[ah mP];simp(disch:=omega)[↓aa,hg3,hgo]
def aB9 (i:aO)(hil:i.groups.length<=1000)(H:Tl hp L)(H2:Tl hq L)(hY:Sp hp hq L P.l st dr)(hg2:∀s T,get (hp s T) P.p2=some (.cells i.cells))(hg3:∀s T,get (hp s T) P.p3=some (.cells [.own false 1 (cX P.os)]))(s0:aW)(bk:Nat)(hbk:s0.book=bk)(hb1:1<=bk∧bk<=11)(b:Nat)(hb:b+1<P.os.length)(ho:P.os.length<=100)(hhi:∀x∈P.os,x<=256)(first n g:Nat)(hgl:g<i.groups.length)(hn:nth i.groups g=n)(hfn:first+n<=8)(en gi k:Int)(ls:Q_)(K:Nat)(hK:L<=K)(rest:S_):∀(j w N:Nat) (s:σ),w+j=first+n->K<N->dr ((sR P.os (bO bk) b j w).map (λy=>(bk,y))++rest) s->
  (∃s2 M,N<=M∧kI st ((sR P.os (bO bk) b j w).map (λy=>(bk,y))) s=.inl s2∧dr rest s2∧
   (Dn prog).code (.loop mK) ⟨eP P first g b ((10,.ptr K 0)::(11,A_ en)::(12,A_ w)::JX P gi (Tf ls k)),⟨hp s [(K,.cells [A_ s0.book,A_ s0.len])],N⟩⟩ =
   some (.exit 6,⟨eP P first g b ((10,.ptr K 0)::(11,A_ en)::JX P gi (Tf ls k)),⟨hp s2 [(K,.cells [A_ s0.book,A_ s0.len])],M⟩⟩))∨
  (∃z M,N<=M∧kI st ((sR P.os (bO bk) b j w).map (λy=>(bk,y))) s=.inr z∧
   (Dn prog).code (.loop mK) ⟨eP P first g b ((10,.ptr K 0)::(11,A_ en)::(12,A_ w)::JX P gi (Tf ls k)),⟨hp s [(K,.cells [A_ s0.book,A_ s0.len])],N⟩⟩ =
   some (.ret,⟨[],⟨hq z [],M⟩⟩)):=by
 have hgo:(cX P.os)[b]?=some [.int .i64 (nth P.os b:Nat)]:=Eq o_;have hob:=hhi (nth P.os b) (jM o_);have hob1:=hhi (nth P.os (b+1)) (jM hb);simp only[aO.cells]at hg2;intro j
 induction j with
 |zero =>
  intro w N s h1 hKN hi;refine .inl ⟨s,N,ak _,rfl,hi,?_⟩;rw[ah qY];simp(disch:=omega)[↓aa,hg2,hn]
 |succ j ih =>
  intro w N s h1 hKN hi;have c1:((w+1:Nat):Int)=(w:Int)+1:=rfl;have em:(sR P.os (bO bk) b (j+1) w).map (λy=>(bk,y))=(vJ (bO bk) (nth P.os (b+1)) 300 (nth P.os b)).map (λy=>(bk,w*32+y))++(sR P.os (bO bk) b j (w+1)).map (λy=>(bk,y)):=by
   simp_all [sR]
  rw[em]at hi⊢;rw[ax]at hi;rw[FY];rcases aCr H H2 hY hg3 s0 bk hbk hb1 b hb ho hob1 first g en gi k w o_ ls K hK _ 300 (nth P.os b) N s o_ o_ hKN hi with ⟨s2,M,hM,e1,e2,e3⟩|⟨z,M,hM,e1,e3⟩
  .rw[e1];have h9:=ih (w+1) M s2 o_ o_ e2;rcases h9 with ⟨s3,M2,hM2,f1,f2,f3⟩|⟨z,M2,hM2,f1,f3⟩
   .refine .inl ⟨s3,M2,o_,f1,f2,?_⟩;rw[<-f3,ah qY];simp(disch:=omega)[↓ac,hg2,hg3,hgo,hn,e3]
   .refine .inr ⟨z,M2,o_,f1,?_⟩;rw[<-f3,ah qY];simp(disch:=omega)[↓ac,hg2,hg3,hgo,hn,e3]
  .rw[e1];refine .inr ⟨z,M,hM,rfl,?_⟩;rw[ah qY];simp(disch:=omega)[↓ac,hg2,hg3,hgo,hn,e3]
def aBS (i:aO)(hil:i.groups.length<=1000)(H:Tl hp L)(H2:Tl hq L)(hY:Sp hp hq L P.l st dr)(hg2:∀s T,get (hp s T) P.p2=some (.cells i.cells))(hg3:∀s T,get (hp s T) P.p3=some (.cells [.own false 1 (cX P.os)]))(s0:aW)(bk:Nat)(hbk:s0.book=bk)(hb1:bk<=11∨bk=13)(ho:P.os.length<=100)(hhi:∀x∈P.os,x<=256)(first n g:Nat)(hgl:g<i.groups.length)(hn:nth i.groups g=n)(hfn:first+n<=8)(en:Nat)(hen:en<P.os.length)(gi k:Int)(ls:Q_)(K:Nat)(hK:L<=K)(rest:S_):∀(j b N:Nat) (s:σ),b+j=en->K<N->dr ((if bk=0∨bk=13 then [] else (BZ P.os (bO bk) n first j b).map (λy=>(bk,y)))++rest) s->
  (∃s2 M,N<=M∧kI st (if bk=0∨bk=13 then [] else (BZ P.os (bO bk) n first j b).map (λy=>(bk,y))) s=.inl s2∧dr rest s2∧
   (Dn prog).code (.loop mM) ⟨eP P first g b ((10,.ptr K 0)::(11,A_ en)::JX P gi (Tf ls k)),⟨hp s [(K,.cells [A_ s0.book,A_ s0.len])],N⟩⟩ =
   some (.exit 4,⟨eP P first g en (JX P gi (Tf ls k)),⟨hp s2 [],M⟩⟩))∨
  (∃z M,N<=M∧kI st (if bk=0∨bk=13 then [] else (BZ P.os (bO bk) n first j b).map (λy=>(bk,y))) s=.inr z∧
   (Dn prog).code (.loop mM) ⟨eP P first g b ((10,.ptr K 0)::(11,A_ en)::JX P gi (Tf ls k)),⟨hp s [(K,.cells [A_ s0.book,A_ s0.len])],N⟩⟩ =
   some (.ret,⟨[],⟨hq z [],M⟩⟩)):=by
 have hG:=λs o=>H.get s K o hK
 have hD:=λs o=>H.del s K o hK
 intro j
 induction j with
 |zero =>
  intro b N s h1 hKN hi;have eb:b=en:=o_;subst eb;have e0:(if bk=0∨bk=13 then [] else (BZ P.os (bO bk) n first 0 b).map (λy=>(bk,y)))=[]:=by split<;>rfl
  rw[e0]at hi⊢;refine .inl ⟨s,N,ak _,rfl,hi,?_⟩;rw[ah ku];simp(disch:=omega)[↓aa,hD]
 |succ j ih =>
  intro b N s h1 hKN hi;have c1:((b+1:Nat):Int)=(b:Int)+1:=rfl;by_cases h0:bk=0∨bk=13
  .rw[ac h0]at hi⊢;have h9:=ih (b+1) N s o_ hKN u_;rw[ac h0,c1]at h9;rw[hbk]at h9⊢;rcases h9 with ⟨s3,M2,hM2,f1,f2,f3⟩|⟨z,M2,hM2,f1,f3⟩
   .refine .inl ⟨s3,M2,o_,f1,f2,?_⟩;rw[<-f3,ah ku];rcases h0 with h0|h0<;>simp(disch:=omega)[↓ac,↓aa,hG]
   .refine .inr ⟨z,M2,o_,f1,?_⟩;rw[<-f3,ah ku];rcases h0 with h0|h0<;>simp(disch:=omega)[↓ac,↓aa,hG]
  .rw[aa h0]at hi⊢;have em:(BZ P.os (bO bk) n first (j+1) b).map (λy=>(bk,y))=(sR P.os (bO bk) b n first).map (λy=>(bk,y))++(BZ P.os (bO bk) n first j (b+1)).map (λy=>(bk,y)):=by
    grind [BZ]
   rw[em]at hi⊢;rw[ax]at hi;rw[FY];rcases aB9 i hil H H2 hY hg2 hg3 s0 bk hbk o_ b o_ ho hhi first n g hgl hn hfn en gi k ls K hK _ n first N s rfl hKN hi with ⟨s2,M,hM,e1,e2,e3⟩|⟨z,M,hM,e1,e3⟩
   .rw[e1];have h9:=ih (b+1) M s2 o_ o_ u_;rw[aa h0,c1]at h9;rw[hbk]at h9 e3⊢;rcases h9 with ⟨s3,M2,hM2,f1,f2,f3⟩|⟨z,M2,hM2,f1,f3⟩
    .refine .inl ⟨s3,M2,o_,f1,f2,?_⟩;rw[<-f3,ah ku];simp(disch:=omega)[↓ac,↓aa,hG,e3]
    .refine .inr ⟨z,M2,o_,f1,?_⟩;rw[<-f3,ah ku];simp(disch:=omega)[↓ac,↓aa,hG,e3]
   .rw[e1];refine .inr ⟨z,M,hM,rfl,?_⟩;rw[ah ku];simp(disch:=omega)[↓ac,↓aa,hG,e3]
def aBr (i:aO)(hil:i.groups.length<=1000)(H:Tl hp L)(H2:Tl hq L)(hY:Sp hp hq L P.l st dr)(hg2:∀s T,get (hp s T) P.p2=some (.cells i.cells))(hg3:∀s T,get (hp s T) P.p3=some (.cells [.own false 1 (cX P.os)]))(ho:P.os.length<=100)(hhi:∀x∈P.os,x<=256)(first n g:Nat)(hgl:g<i.groups.length)(hn:nth i.groups g=n)(hfn:first+n<=8)(gi:Int)(ls:Q_)(hls:ls.length<=1000)(rest:S_):∀(r:Q_) (k b N:Nat) (lf:Int) (s:σ),ls.drop k=r->fitsS lf r->(b:Int)+lf<P.os.length->L<=N->dr (Dv P.os n first r b++rest) s->
  (∃s2 M,N<=M∧kI st (Dv P.os n first r b) s=.inl s2∧dr rest s2∧
   (Dn prog).code (.loop mL) ⟨eP P first g b (JX P gi (Tf ls k)),⟨hp s [],N⟩⟩ =
   some (.exit 2,⟨(0,.yield P.l)::(2,.ptr P.p2 0)::(3,.ptr P.p3 0)::(5,A_ first)::(6,A_ g)::JX P gi [],⟨hp s2 [],M⟩⟩))∨
  (∃z M,N<=M∧kI st (Dv P.os n first r b) s=.inr z∧
   (Dn prog).code (.loop mL) ⟨eP P first g b (JX P gi (Tf ls k)),⟨hp s [],N⟩⟩ =
   some (.ret,⟨[],⟨hq z [],M⟩⟩)):=by
 intro r
 induction r with
 |nil =>
  intro k b N lf s hd hf hb hN hi;have hk:=bg hd;refine .inl ⟨s,N,ak _,rfl,hi,?_⟩;rw[ah qJ];simp(disch:=omega)[↓aa]
 |cons s0 r ih =>
  intro k b N lf s hd hf hb hN hi;have hg:=wO hd;have hlt:=bE hd;obtain⟨⟨⟨l1,l2⟩,b1,b2⟩,hf2⟩:=hf;obtain⟨bk,hbk⟩:=az b1;have hbt:s0.book.toNat=bk:=o_;have hif:(s0.book=0∨s0.book=13)↔(bk=0∨bk=13):=o_;have em:Dv P.os n first (s0::r) b=(if bk=0∨bk=13 then [] else (BZ P.os (bO bk) n first s0.len.toNat b).map (λy=>(bk,y)))++Dv P.os n first r (b+s0.len.toNat):=by
   grind [Dv]
  rw[em]at hi⊢;rw[ax]at hi;rw[FY];have hp1:=λs o=>H.put s N o hN
  have hp2:=λs o o'=>H.put2 s N o o' hN
  have hG:=λs o=>H.get s N o hN
  have c1:((k+1:Nat):Int)=(k:Int)+1:=rfl;have cE:((b+s0.len.toNat:Nat):Int)=(b:Int)+s0.len:=o_;rcases aBS i hil H H2 hY hg2 hg3 s0 bk hbk o_ ho hhi first n g hgl hn hfn (b+s0.len.toNat) o_ gi k ls N hN _ s0.len.toNat b (N+1) s rfl o_ hi with ⟨s2,M,hM,e1,e2,e3⟩|⟨z,M,hM,e1,e3⟩
  .rw[e1];have h9:=ih (k+1) (b+s0.len.toNat) M (lf-s0.len) s2 (bt hd) hf2 o_ o_ e2;rw[c1,cE]at h9;rw[cE]at e3;rcases h9 with ⟨s3,M2,hM2,f1,f2,f3⟩|⟨z,M2,hM2,f1,f3⟩
   .refine .inl ⟨s3,M2,o_,f1,f2,?_⟩;rw[<-f3,ah qJ];simp(disch:=omega)[↓ac,hg,hp1,hp2,hG,e3]
   .refine .inr ⟨z,M2,o_,f1,?_⟩;rw[<-f3,ah qJ];simp(disch:=omega)[↓ac,hg,hp1,hp2,hG,e3]
  .rw[e1];rw[cE]at e3;refine .inr ⟨z,M,o_,rfl,?_⟩;rw[ah qJ];simp(disch:=omega)[↓ac,hg,hp1,hp2,hG,e3]
def aBa (i:aO)(hil:i.groups.length<=1000)(H:Tl hp L)(H2:Tl hq L)(hY:Sp hp hq L P.l st dr)(hg2:∀s T,get (hp s T) P.p2=some (.cells i.cells))(hg3:∀s T,get (hp s T) P.p3=some (.cells [.own false 1 (cX P.os)]))(ho:P.os.length<=100)(hhi:∀x∈P.os,x<=256)(m:Int)(hm:0<=m∧m<P.os.length)(hfl:P.full.length<=1000)(hlc:∀l∈P.full,l.length<=1000)(hgg:∀n∈i.groups,1<=n)(rest:S_):∀(r:H_) (q:G_) (g first N:Nat) (s:σ),P.full.drop g=r->i.groups.drop g=q->r.length=q.length->fy m r->(first:Int)+q.sum<=8->L<=N->dr (rF P.os r q first++rest) s->
  (∃s2 M,N<=M∧kI st (rF P.os r q first) s=.inl s2∧dr rest s2∧
   (Dn prog).code (.loop mY) ⟨(0,.yield P.l)::(2,.ptr P.p2 0)::(3,.ptr P.p3 0)::(5,A_ first)::JX P g [],⟨hp s [],N⟩⟩=some (.exit 0,⟨[],⟨hp s2 [],M⟩⟩))∨
  (∃z M,N<=M∧kI st (rF P.os r q first) s=.inr z∧
   (Dn prog).code (.loop mY) ⟨(0,.yield P.l)::(2,.ptr P.p2 0)::(3,.ptr P.p3 0)::(5,A_ first)::JX P g [],⟨hp s [],N⟩⟩=some (.ret,⟨[],⟨hq z [],M⟩⟩)):=by
 have hg2':=hg2;simp only[aO.cells]at hg2';intro r
 induction r with
 |nil =>
  intro q g first N s hd hd2 hl hf hs hN hi
  have hk:=bg hd;have hq0:q=[]:=d_;subst hq0;refine .inl ⟨s,N,ak _,rfl,hi,?_⟩;rw[ah qK];simp(disch:=omega)[↓aa]
 |cons l r ih =>
  intro q g first N s hd hd2 hl hf hs hN hi
  cases q with
  |nil=>simp at hl
  |cons n0 q =>
   have hg:=lX hd;have hlt:=bE hd;have hlt2:=bE hd2;have hn0:nth i.groups g=n0:=by
    grind [qr]
   have hn1:=hgg n0 (by grind [jM]);obtain⟨n,hn⟩:=az (show 0<=n0 by omega);have hnt:n0.toNat=n:=o_;have hqs:0<=q.sum:=by
    have:∀x∈q,1<=x:=λx hx=>hgg x (by grind)
    have:=lG this;omega
   rw[mU]at hs;have em:rF P.os (l::r) (n0::q) first=Dv P.os n first l 0++rF P.os r q (first+n):=by rw[rF,hnt]
   rw[em]at hi⊢;rw[ax]at hi;rw[FY];have hml:l∈P.full:=by rw[<-aT g P.full,hd];simp
   have c0:((0:Nat):Int)=0:=rfl;have c1:((g+1:Nat):Int)=(g:Int)+1:=rfl;have cF:((first+n:Nat):Int)=(first:Int)+n:=rfl;simp only[ar,rM]at hl;rcases aBr i hil H H2 hY hg2 hg3 ho hhi first n g hlt2 o_ o_ g l (hlc l hml) _ l 0 0 N m s rfl (hf l (.head _)) o_ hN hi with ⟨s2,M,hM,e1,e2,e3⟩|⟨z,M,hM,e1,e3⟩
   .rw[e1];have h9:=ih q (g+1) (first+n) M s2 (bt hd) (bt hd2) hl (λx hx=>hf x (.tail _ hx)) o_ o_ e2;rw[c1,cF]at h9;rw[c0]at e3;rw[hn]at hn0;rcases h9 with ⟨s3,M2,hM2,f1,f2,f3⟩|⟨z,M2,hM2,f1,f3⟩
    .refine .inl ⟨s3,M2,o_,f1,f2,?_⟩;rw[<-f3,ah qK];simp(disch:=omega)[↓ac,hg,hg2',hn0,e3]
    .refine .inr ⟨z,M2,o_,f1,?_⟩;rw[<-f3,ah qK];simp(disch:=omega)[↓ac,hg,hg2',hn0,e3]
   .rw[e1];rw[c0]at e3;refine .inr ⟨z,M,hM,rfl,?_⟩;rw[ah qK];simp(disch:=omega)[↓ac,hg,e3]
end
def ahX {σ τ:Type}{hp:σ->am->am}{hq:τ->am->am}{L:Nat}{P:PlS}{st:Nat×Nat->σ->Sum σ τ}{dr:S_->σ->Prop}(i:aO)(hi:i.Fit)(hm:i.may 11)(p1:Nat)(H:Tl hp L)(H2:Tl hq L)(hY:Sp hp hq L P.l st dr)(hg1:∀s,get (hp s []) p1=some (.cells [.d (.lst (bz P.full))]))(hg2:∀s T,get (hp s T) P.p2=some (.cells i.cells))(hg3:∀s T,get (hp s T) P.p3=some (.cells [.own false 1 (cX P.os)]))(ho:P.os.length<=100)(hhi:∀x∈P.os,x<=256)(hmo:i.max<P.os.length)(hf:jH i P.full)(N:Nat)(hN:L<=N)(s:σ)(hs:dr (rF P.os P.full i.groups 0) s) :
  (∃s2 M,N<=M∧kI st (rF P.os P.full i.groups 0) s=.inl s2∧dr [] s2∧(Dn prog).call iG [.yield P.l,.ptr p1 0,.ptr P.p2 0,.ptr P.p3 0] ⟨hp s [],N⟩=some (.tup [],⟨hp s2 [],M⟩))∨
  (∃z M,N<=M∧kI st (rF P.os P.full i.groups 0) s=.inr z∧(Dn prog).call iG [.yield P.l,.ptr p1 0,.ptr P.p2 0,.ptr P.p3 0] ⟨hp s [],N⟩=some (.tup [],⟨hq z [],M⟩)):=by
 have hmx:=je hm;obtain⟨g1,g2⟩:=dO hm;have hmm:i.many<=8:=by grind [aO.many]
 have hgl:i.groups.length<=8:=by have:=lG (λn hn=>(g1 n hn).1);omega
 have hlc:∀l∈P.full,l.length<=1000:=λl hl=>by
  rcases Jr (hf.2 l hl) with h|h<;>grind
 have hfl:=hf.1;have c0:((0:Nat):Int)=0:=rfl;have h:=aBa i hi.len H H2 hY hg2 hg3 ho hhi i.max ⟨hmx.1,hmo⟩ o_ hlc (λn hn=>(g1 n hn).1) [] P.full i.groups 0 0 N s rfl rfl hfl hf.2 o_ hN u_;rw[c0]at h;rw[aZ aaO aa9 rfl];rcases h with ⟨s2,M,hM,e1,e2,e3⟩|⟨z,M,hM,e1,e3⟩
 .refine .inl ⟨s2,M,hM,e1,e2,?_⟩;simp(disch:=omega)[hg1,e3]
 .refine .inr ⟨z,M,hM,e1,?_⟩;simp(disch:=omega)[hg1,e3]
def Po (r:Nat)(hr:r<=11)(i:aO)(y:D)(H:am)(N:Nat)(hL:Lt H N):(Dn prog).call RI [A_ r,.agg i.cells,.d y] ⟨H,N⟩=some (.fn iG [] [.ptr (N+1) 0,.ptr N 0,.ptr (N+1+1) 0],⟨H++[(N,.cells i.cells)]++[(N+1,.cells [.d y])]++[(N+1+1,.cells [.own false 1 (cX (offs r i.short))])],N+1+1+1⟩):=by
 have hof:=BC r i.short;rw[ac o_]at hof;have L1:=Ny (o:=.cells i.cells) hL;have L2:=Ny (o:=.cells [.d y]) L1;have e1:=λo=>uO (o:=o) hL
 have e2:=λo=>uO (o:=o) L1
 have e3:=λo=>uO (o:=o) L2
 have e4:=AK (N:=N+1) (o:=.cells [.d y]) (xD (o:=.cells i.cells) hL);have e5:=λo=>xD (o:=o) L2
 have e6:=λo o'=>H1 (o:=o) (o':=o') L2
 have hsh:i.short=decide (i.seq=2):=rfl;rw[aZ agx ahB rfl];simp only[aO.cells]at e1 e2 e3 e4 e5 e6⊢;by_cases hs2:i.seq=2
 .rw[decide_eq_true hs2]at hsh;rw[hsh]at hof⊢;simp(disch:=omega)[↓ac,hof,e1,e2,e3,e4,e5,e6,-List.append_assoc]
 .rw[decide_eq_false hs2]at hsh;rw[hsh]at hof⊢;simp(disch:=omega)[↓aa,hof,e1,e2,e3,e4,e5,e6,-List.append_assoc]
abbrev ay1:D_:=[A_ 0,A_ 0,.nl,.nl]
abbrev q9 (id:Nat):D_:=[A_ id,A_ (bM id),.own false 1 (cX (cw id)),.own false 1 (cX (dF id))]
def HE (C:D_):Prop:=C.length=48∧∀id,id<12->sub C (4*id) 4=ay1∨(1<=id∧sub C (4*id) 4=q9 id)
theorem WW {α:Type}{C:List α}{a k:Nat}(hk:k<4):(sub C a 4)[k]?=C[a+k]?:=by
 simp_all
def RG {α:Type}{C W:List α}{a:Nat}(hw:W.length=4)(ha:a+4<=C.length):sub (aG C a W) a 4=W:=by
 grind [sub,aG,List.drop_eq_nil_of_le]
def ae2 {α:Type}{C W:List α}{a b:Nat}(hw:W.length=4)(ha:a+4<=C.length)(hb:b+4<=C.length)(h:b+4<=a∨a+4<=b):sub (aG C a W) b 4=sub C b 4:=by
 apply dK
 grind [WW,aG,sub]
def amc {α:Type}{C W:List α}{a:Nat}(hw:W.length=4)(ha:a+4<=C.length):(aG C a W).length=C.length:=by
 grind [aG]
def aub {C W:D_}{a:Nat}(ha:a+4<=C.length)(h:sub C a 4=W):aG C a W=C:=by
 subst h
 grind [aG,sub,List.take_append_drop]
def adZ {C:D_}(h:HE C){id:Nat}(hid:1<=id∧id<=11):HE (aG C (4*id) (q9 id)):=by
 refine⟨by rw[amc rfl (by rw[h.1];omega)];exact h.1,λj hj=>?_⟩;by_cases e:j=id
 .subst e;exact .inr ⟨hid.1,RG rfl (by rw[h.1];omega)⟩
 .rw[ae2 rfl (by rw[h.1];omega) (by rw[h.1];omega) o_];exact h.2 j hj
structure Bk (hp:D_->am->am)(A N:Nat):Prop where
 gA:∀C T,get (hp C T) A=some (.cells C)
 pA:∀C T C',put (hp C T) A (.cells C')=hp C' T
 pN:∀C o,put (hp C []) N o=hp C [(N,o)]
 pN2:∀C o o',put (hp C [(N,o)]) N o'=hp C [(N,o')]
 gN:∀C o,get (hp C [(N,o)]) N=some o
 dN:∀C o,del (hp C [(N,o)]) N=hp C []
def Ru {hp:D_->am->am}{A N:Nat}(H:Bk hp A N)(C:D_)(hC:HE C)(id:Nat)(hid:1<=id∧id<=11):(Dn prog).call mj [.ptr A 0,A_ id] ⟨hp C [],N⟩=some (nD id,⟨hp (aG C (4*id) (q9 id)) [],N+1⟩):=by
 have hb:=WH id o_;have h48:=hC.1;have hia:∀p,KY 12 4 (.ptr p 0) (A_ id)=some (.ptr p (4*id)):=λp=>by
  grind [ack,KY,iy,Ts]
 rw[aZ Zn Zo rfl];rcases hC.2 id o_ with h0|⟨_,h1⟩
 .have e0:C[4*id]?=some (A_ 0):=by rw[<-dQ (4*id),<-WW o_,h0];rfl
  obtain⟨hl0,e0⟩:=aN.1 e0;have hsm:=RG (C:=C) (W:=q9 id) (a:=4*id) rfl o_;have hsl:=amc (C:=C) (W:=q9 id) (a:=4*id) rfl o_;simp(disch:=omega)[↓ac,H.gA,H.pA,H.pN,H.pN2,H.gN,H.dN,hia,e0,hb,-aG,-sub,-OA,-amK,hsm,hsl];simp
 .have e0:C[4*id]?=some (A_ id):=by rw[<-dQ (4*id),<-WW o_,h1];rfl
  obtain⟨hl0,e0⟩:=aN.1 e0;rw[aub o_ h1];simp(disch:=omega)[↓ac,↓aa,H.gA,H.pN,H.pN2,H.gN,H.dN,hia,e0,-aG,-sub,-OA,-amK,h1];simp
def abD (l:AA_)(hl:l.length<=100000)(h:am)(N:Nat):(Dn prog).call Ac [.d (.lst (eq l))] ⟨h,N⟩=some (B_ (decide (0<l.length)),⟨h,N⟩):=by
 rw[aZ WS Ww rfl];by_cases h0:0<l.length
 .rw[decide_eq_true h0];simp(disch:=omega)[↓ac]
 .rw[decide_eq_false h0];simp(disch:=omega)[↓aa]
def YK (F:AV)(P:AA_->Bool)(l:O_)(hl:l.length<=1000000000)(h:am)(N:Nat)(hF:firm (share F)=F)(hc:∀v∈l,cq (Dn prog) F [.d (.lst (eq v))] ⟨h,N⟩=some (B_ (P v),⟨h,N⟩)):∀(r:O_) (i:Nat),l.drop i=r->
  (r.any P=true∧∃k:Nat,(Dn prog).code (.loop fw) ⟨[(0,.d (.lst (cR l))),(1,F),(7,A_ l.length),(8,A_ i)],⟨h,N⟩⟩=some (.ret,⟨[(4,A_ k)],⟨h,N⟩⟩))∨
  (r.any P=false∧(Dn prog).code (.loop fw) ⟨[(0,.d (.lst (cR l))),(1,F),(7,A_ l.length),(8,A_ i)],⟨h,N⟩⟩=some (.exit 0,⟨[],⟨h,N⟩⟩)):=by
 intro r
 induction r with
 |nil =>
  intro i hd;have hi:=bg hd;refine .inr ⟨rfl,?_⟩;rw[ah gP];simp(disch:=omega)[↓aa]
 |cons v r ih =>
  intro i hd;have hg:=AX hd;have hlt:=bE hd;have hv:=hc v (by rw[<-aT i l,hd];simp);have h5:=ih (i+1) (bt hd)
  cases hp:P v with
  |true =>
   rw[hp]at hv;refine .inl ⟨u_,i,?_⟩;rw[ah gP];simp(disch:=omega)[↓ac,hg,hF,hv]
  |false =>
   rw[hp]at hv;rw[fb,hp,mW];rcases h5 with ⟨e1,k,e2⟩|⟨e1,e2⟩
   .refine .inl ⟨e1,k,?_⟩;rw[ah gP,<-e2];simp(disch:=omega)[↓ac,hg,hF,hv]
   .refine .inr ⟨e1,?_⟩;rw[ah gP,<-e2];simp(disch:=omega)[↓ac,hg,hF,hv]
def Yv (F:AV)(P:AA_->Bool)(l:O_)(hl:l.length<=1000000000)(h:am)(N:Nat)(hF:firm (share F)=F)(hF2:firm F=F)(hc:∀v∈l,cq (Dn prog) F [.d (.lst (eq v))] ⟨h,N⟩=some (B_ (P v),⟨h,N⟩)) :
  (Dn prog).call qd [.d (.lst (cR l)),F] ⟨h,N⟩=some (B_ (l.any P),⟨h,N⟩):=by
 have h1:=YK F P l hl h N hF hc l 0 rfl;have c0:((0:Nat):Int)=0:=rfl;rw[c0]at h1;have h2:∃k:Int,(0<=k↔l.any P=true)∧(Dn prog).call sY [.d (.lst (cR l)),F] ⟨h,N⟩=some (A_ k,⟨h,N⟩):=by
  rcases h1 with ⟨e1,k,e2⟩|⟨e1,e2⟩
  .refine⟨k,⟨λ_=>e1,λ_=>by omega⟩,?_⟩;rw[aZ te sT rfl];simp(disch:=omega)[e2]
  .refine⟨-1,⟨λh=>by omega,λh=>by simp_all⟩,?_⟩;rw[aZ te sT rfl];simp(disch:=omega)[e2]
 obtain⟨k,e1,e2⟩:=h2;rw[aZ De Bt rfl]
 cases hp:l.any P with
 |true =>
  have:=e1.2 hp;simp(disch:=omega)[↓ac,hF2,e2]
 |false =>
  have:¬0<=k:=λh=>by simp_all
  simp(disch:=omega)[↓aa,hF2,e2]
def vu (t:O_):Bool:=t.any λl=>decide (0<l.length)
def Ss (t:O_)(ht:t.length<=100000)(ht2:∀l∈t,l.length<=100000):bi prog Mw [.d (.lst (cR t))]=some (B_ (vu t)):=by
 have h:=Yv (.fn Ac [] []) (λl=>decide (0<l.length)) t o_ [] 0 rfl rfl λv hv=>by
  simp_all [abD]
 rw[aH abp abm rfl];unfold vu;simp(disch:=omega)[h]
abbrev sX:=@List.getElem?_replicate
abbrev jh:=@List.getElem?_take
abbrev dV:=@List.getD_eq_getElem?_getD
def Mq {d hi:Nat}(hd:1<=d):∀{f lo x:Nat},(hi-lo) % d=0->x∈vJ d hi f lo->lo<=x∧x+d<=hi∧(x-lo) % d=0
 |0,lo,x,_,h=>by simp[vJ]at h
 |f+1,lo,x,hm,h=>by
  rw[vJ]at h;by_cases h1:lo<hi
  .rw[ac h1]at h;have h2:lo+d<=hi:=by
    rcases bH (hi-lo) d with h3|h3
    .rw[ft h3]at hm;omega
    .omega
   rcases aC.1 h with e|e
   .subst e;exact⟨ak _,h2,s_⟩
   .have h4:(hi-(lo+d)) % d=0:=by
     have:hi-lo=hi-(lo+d)+d:=o_;rw[this,Nat.add_mod_right]at hm;exact hm
    have ⟨a,b,c⟩:=Mq hd h4 e;refine⟨o_,b,?_⟩;have:x-lo=x-(lo+d)+d:=o_;rw[this,Nat.add_mod_right];exact c
  .rw[aa h1]at h;simp at h
def abv {os:C_}{d b:Nat}:∀{k w y:Nat},y∈sR os d b k w->∃w' x,w<=w'∧w'<w+k∧x∈vJ d (nth os (b+1)) 300 (nth os b)∧y=w'*32+x
 |0,w,y,h=>by simp[sR]at h
 |k+1,w,y,h=>by
  rw[sR,bF]at h;rcases h with h|h
  .obtain⟨x,hx,e⟩:=dz.1 h;exact⟨w,x,ak _,o_,hx,e.symm⟩
  .obtain⟨w',x,a,b,c,e⟩:=abv h;exact⟨w',x,o_,o_,c,e⟩
def Ug {os:C_}{d n first:Nat}:∀{k b y:Nat},y∈BZ os d n first k b->∃b',b<=b'∧b'<b+k∧y∈sR os d b' n first
 |0,b,y,h=>by simp[BZ]at h
 |k+1,b,y,h=>by
  rw[BZ,bF]at h;rcases h with h|h
  .exact⟨b,ak _,o_,h⟩
  .obtain⟨b',a,c,e⟩:=Ug h;exact⟨b',o_,o_,e⟩
def TY {os:C_}{n first:Nat}:∀{r:Q_}{b:Nat}{lf:Int}{p:Nat×Nat},fitsS lf r->p∈Dv os n first r b->∃j,(aP r)[j]?=some (p.1:Int)∧(1<=p.1∧p.1<=11)∧p.2∈sR os (bO p.1) (b+j) n first
 |[],b,lf,p,_,h=>by simp[Dv]at h
 |s::r,b,lf,p,hf,h=>by
  obtain⟨⟨⟨l1,l2⟩,b1,b2⟩,hf2⟩:=hf;have eb:aP (s::r)=List.replicate s.len.toNat s.book++aP r:=by rw[aP,aE];rfl
  rw[Dv,bF]at h;rcases h with h|h
  .by_cases h0:s.book=0∨s.book=13
   .rw[ac h0]at h;simp at h
   .rw[aa h0]at h;obtain⟨y,hy,e⟩:=dz.1 h;subst e;obtain⟨b',c1,c2,c3⟩:=Ug hy;refine⟨b'-b,?_,by simp only[];omega,by rw[show b+(b'-b)=b' by omega];exact c3⟩;rw[eb,co g_,sX,ac o_];simp only[ae];omega
  .obtain⟨j,a,c,e⟩:=TY hf2 h;refine⟨s.len.toNat+j,?_,c,by rw[<-dB];exact e⟩;rw[eb,ca s_,bU,fT];exact a
def Mk {os:C_}{m:Int}:∀{r:H_}{q:G_}{first:Nat}{p:Nat×Nat},fy m r->(∀n∈q,1<=n)->p∈rF os r q first->∃(w g j:Nat) (l:Q_),r[g]?=some l∧first<=w∧(w:Int)<first+q.sum∧nk q ((w:Int)-first)=g∧(aP l)[j]?=some (p.1:Int)∧(1<=p.1∧p.1<=11)∧∃x∈vJ (bO p.1) (nth os (j+1)) 300 (nth os j),p.2=w*32+x
 |[],q,first,p,_,_,h=>by simp[rF]at h
 |l::r,[],first,p,_,_,h=>by simp[rF]at h
 |l::r,n::q,first,p,hf,hn,h=>by
  have hn1:=hn n (.head _);have hqs:0<=q.sum:=by have:=lG λx hx=>hn x (.tail _ hx);omega
  rw[rF,bF]at h;rw[mU];rcases h with h|h
  .obtain⟨j,a,c,e⟩:=TY (hf l (.head _)) h;rw[bC]at e;obtain⟨w,x,e1,e2,e3,e4⟩:=abv e;refine⟨w,0,j,l,rfl,e1,o_,?_,a,c,x,e3,e4⟩;rw[nk,ac o_]
  .obtain⟨w,g,j,l',e1,e2,e3,e4,e5,e6,e7⟩:=Mk (λx hx=>hf x (.tail _ hx)) (λx hx=>hn x (.tail _ hx)) h;refine⟨w,g+1,j,l',by simpa using e1,o_,o_,?_,e5,e6,e7⟩;rw[nk,aa o_];have:(w:Int)-first-n=(w:Int)-((first+n.toNat:Nat):Int):=o_
   rw[this,e4]
def uR:∀x∈Hz,((List.range ((offs x.1 x.2).length-1)).all λj=>decide (nth (offs x.1 x.2) j<nth (offs x.1 x.2) (j+1)) && decide ((nth (offs x.1 x.2) (j+1)-nth (offs x.1 x.2) j) % 4=0))=true∧nth (offs x.1 x.2) 0=0∧(offs x.1 x.2).all (λy=>decide (y<=cond x.2 32 256))=true:=e_
def acM {tl:C_}{bks:G_}:∀{ls:G_}{i j:Nat}{v:Int},wI tl bks i ls->ls[j]?=some v->M9 tl bks (i+j) v
 |[],i,j,v,_,h=>by simp at h
 |u::r,i,0,v,h,e=>by
  simp only[ck,ae]at e;subst e;exact h.1
 |u::r,i,j+1,v,h,e=>by
  have:=acM (j:=j) h.2 (by simpa using e);rw[show i+(j+1)=i+1+j by omega];exact this
def adb {r:Nat}{c:c7}:∀{k w w':Nat},JD r c k w->w<=w'->w'<w+k->wI ((offs r c.info.short).drop 1) (aP (CQ c w')) 0 (Bv c w')
 |0,w,w',_,h1,h2=>by omega
 |k+1,w,w',h,h1,h2=>by
  rcases bH w w' with h3|h3
  .exact adb h.2 h3 (by omega)
  .have:w'=w:=o_;subst this;exact h.1
def ai0 {os:C_}{b i:Nat}(hs:∀j,j+1<os.length->nth os j<nth os (j+1))(hb:b+1<os.length)(h1:nth os b<=i)(h2:i<nth os (b+1)):qP (os.drop 1) i=b:=by
 have hmono:∀k j,j+k<os.length->nth os j<=nth os (j+k):=by
  intro k
  induction k with
  |zero=>intro j _;exact ak _
  |succ k ih =>
   intro j hj;have a:=ih j o_;have b:=hs (j+k) o_;rw[show j+(k+1)=j+k+1 by omega];omega
 have hlen:(os.drop 1).length=os.length-1:=s_;rw[aar (b:=b) o_ ?_]
 .have hdd:(os.drop 1).drop b=os.drop (b+1):=by rw[lV];congr 1;omega
  rw[hdd,qr hb,qP,aa o_];rfl
 .intro x hx;obtain⟨j,hj,e⟩:=il.1 hx;have hj2:j<b:=by have:=hj;simp only[bI]at this;omega
  rw[rY,List.getElem_drop]at e;have hn:nth os (1+j)=x:=by
   have h9:=AO (l:=os) (i:=1+j) o_;rw[bB o_,e]at h9;injection h9 with h9;exact h9.symm
  have:=hmono (b-(1+j)) (1+j) o_;rw[show 1+j+(b-(1+j))=b by omega]at this;omega
def acI {r:Nat}{c:c7}(hc:c.Fit)(h:ph r c)(hr:r<=11){p:Nat×Nat}(hp:p∈rF (offs r c.info.short) c.sects c.info.groups 0):(1<=p.1∧p.1<=11)∧p.2+bO p.1<=256∧SX p.1 ((c.lines.drop p.2).take (bO p.1)):=by
 have hm11:=gQ hr h.info;obtain⟨g1,g2⟩:=dO hm11;obtain⟨w,g,j,l,e1,e2,e3,e4,e5,e6,x,e7,e8⟩:=Mk h.sects.2 (λn hn=>(g1 n hn).1) hp;obtain⟨o1,o2,o3⟩:=uR (r,c.info.short) (iu o_);simp only at o1 o2 o3;have hmx:=h.info.2.2.2.1;have hlm:l∈c.sects:=di e1;have hbl:=tg (h.sects.2 l hlm) h.info.2.2.1;have hjl:j<(aP l).length:=(aN.1 e5).1;have hmy:qO r (decide (c.info.seq=2))=(offs r c.info.short).length-1:=rfl;have hj1:j+1<(offs r c.info.short).length:=o_;have hoj:nth (offs r c.info.short) j<nth (offs r c.info.short) (j+1)∧(nth (offs r c.info.short) (j+1)-nth (offs r c.info.short) j) % 4=0:=by
  have:=bJ.1 o1 j (dU.2 o_);simpa using this
 have hos:∀k,k+1<(offs r c.info.short).length->nth (offs r c.info.short) k<nth (offs r c.info.short) (k+1):=λk hk=>by
  have:=bJ.1 o1 k (dU.2 o_);simp only[af,decide_eq_true_eq]at this;exact this.1
 have hd4:bO p.1=4∨bO p.1=2:=by unfold bO;split<;>simp
 have hx:=Mq (d:=bO p.1) o_ (by rcases hd4 with h|h<;>rw[h]<;>omega) e7;have hw:(w:Int)<c.info.many:=o_;have ho256:nth (offs r c.info.short) (j+1)<=cond c.info.short 32 256:=by
  have:=bJ.1 o3 _ (jM hj1);simpa using this
 have hcond:(cond c.info.short 32 256:Nat)=c.info.wide:=by
  unfold aO.short aO.wide;by_cases h:c.info.seq=2
  .rw[decide_eq_true h,ac h];rfl
  .rw[decide_eq_false h,aa h];rfl
 rw[hcond]at ho256;have hww:w*32=w*c.info.wide∧w*c.info.wide+c.info.wide<=256:=by
  unfold aO.many at hw;unfold aO.wide;split at hw
  .rename_i h2;rw[ac h2];omega
  .rename_i h2;rw[aa h2];omega
 have hl:=h.lines.1;have hle:p.2+bO p.1<=256:=o_;refine⟨e6,hle,?_,λv hv=>?_⟩
 .rw[bI,cu];omega
 .obtain⟨k,hk,ek⟩:=il.1 hv;have hk2:k<bO p.1:=by have:=hk;simp only[bI]at this;omega
  rw[rY,List.getElem_drop]at ek;have hf:=adb h.lines.2 (w':=w) o_ o_;have hwl:(Bv c w)[x+k]?=some v:=by
   unfold Bv;rw[jh,ac o_,b6,show w*c.info.wide+(x+k)=p.2+k by omega,bB o_,ek]
  have hlo:=acM hf hwl;rw[bC]at hlo;have hgr:nk c.info.groups w=g:=by rw[<-e4];congr 1
  have hsa:CQ c w=l:=by
   unfold CQ;rw[hgr,dV,e1];rfl
  have hba:=ai0 (i:=x+k) hos hj1 o_ o_;unfold M9 at hlo;rw[hsa,hba,e5]at hlo;rcases hlo with h0|⟨k',a1,a2,a3⟩
  .subst h0;simp
  .injection a1 with a1
   subst a1;simpa using a3
end Go.Vm
end
