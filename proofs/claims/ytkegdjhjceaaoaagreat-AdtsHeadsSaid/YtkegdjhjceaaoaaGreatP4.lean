import Derived.Test.YtkegdjhjceaaoaaGreatP3
set_option linter.unusedVariables false
set_option linter.unusedSimpArgs false
set_option linter.defProp false
set_option linter.unusedSectionVars false
noncomputable section
namespace Go.Vm
set_option maxRecDepth 100000
set_option maxHeartbeats 4000000
def Lh (C:Nat->Nat->Int)(n:Nat):Nat->C_->Nat->C_×Nat
 |0,xs,a=>(xs,a)
 |f+1,xs,a=>if a+20<=n then Lh C n f (insO C a 19 (a+1) xs) (a+20) else (xs,a)
def Re (C:Nat->Nat->Int)(n bs:Nat):Nat->C_->Nat->C_×Nat
 |0,xs,a=>(xs,a)
 |f+1,xs,a=>if a+2*bs<=n then Re C n bs f (symM C (2*bs) xs a (a+bs) (a+2*bs)) (a+2*bs) else (xs,a)
def stE (C:Nat->Nat->Int)(n bs:Nat)(p:C_×Nat):C_:=if p.2+bs<n then symM C (n-p.2) p.1 p.2 (p.2+bs) n else p.1
def stL (C:Nat->Nat->Int)(n:Nat):Nat->C_->Nat->C_
 |0,xs,_=>xs
 |f+1,xs,bs=>if bs<n then stL C n f (stE C n bs (Re C n bs n xs 0)) (2*bs) else xs
def stS (C:Nat->Nat->Int)(n:Nat)(p:C_×Nat):C_:=insO C p.2 (n-(p.2+1)) (p.2+1) p.1
def ta (C:Nat->Nat->Int)(n:Nat)(xs:C_):C_:=stL C n n (stS C n (Lh C n n xs 0)) 20
section
variable {hp:C_->am}{D L:Nat}{F:AV}{C:Nat->Nat->Int}
def arH (H:Hp hp D)(K:Cm hp L F C)(n:Nat)(hlen:n<=1000000000)(N:Nat):∀(f a:Nat) (xs:C_),n<a+f*20+20->a<=n->xs.length=n->fm L xs->
  (Dn prog).code (.loop iy) ⟨[(0,.sl D 0 n),(1,A_ n),(2,F),(6,A_ 20),(7,A_ a),(8,A_ ((a:Int)+20))],⟨hp xs,N⟩⟩ =
  some (.exit 0,⟨[(0,.sl D 0 n),(1,A_ n),(2,F),(6,A_ 20),(7,A_ ((Lh C n f xs a).2))],⟨hp (Lh C n f xs a).1,N⟩⟩)∧
  (Lh C n f xs a).1.length=n∧fm L (Lh C n f xs a).1∧a<=(Lh C n f xs a).2∧(Lh C n f xs a).2<=n∧∃q,(Lh C n f xs a).2=a+20*q:=by
 intro f
 induction f with
 |zero =>
  intro a xs h1 h2 hx u;refine⟨?_,hx,u,al _,h2,0,rfl⟩;rw[ah rH];simp(maxSteps:=300000) (disch:=omega)[↓ac,↓aa,Lh,K.sh,K.fi]
 |succ f ih =>
  intro a xs h1 h2 hx u;rw[ah rH,Lh];by_cases h:a+20<=n
  .rw[ac h];have h0:=RP H K n hlen a (a+20) N o_ h xs hx u;rw[show a+20-(a+1)=19 by omega]at h0;obtain⟨g1,g2,g3,g4,g5,q,g6⟩:=ih (a+20) (insO C a 19 (a+1) xs) o_ h (by rw[XL];exact hx) (u.insO o_);refine⟨?_,g2,g3,o_,g5,q+1,o_⟩;have c1:((a+20:Nat):Int)=(a:Int)+20:=rfl;rw[c1]at h0 g1;rw[<-g1];simp(maxSteps:=300000) (disch:=omega)[↓ac,↓aa,K.sh,K.fi,h0]
  .rw[aa h];refine⟨?_,hx,u,al _,h2,0,rfl⟩;simp(maxSteps:=300000) (disch:=omega)[↓ac,↓aa,K.sh,K.fi]
def aq5 (H:Hp hp D)(K:Cm hp L F C)(n:Nat)(hlen:n<=1000000000)(bs N:Nat)(hbs:1<=bs)(hb2:bs<=1000000000):∀(f a:Nat) (xs:C_),n<a+f+1->a<=n->xs.length=n->fm L xs->
  (Dn prog).code (.loop iA) ⟨[(0,.sl D 0 n),(1,A_ n),(2,F),(6,A_ bs),(7,A_ a),(8,A_ ((a:Int)+2*(bs:Int)))],⟨hp xs,N⟩⟩ =
  some (.exit 4,⟨[(0,.sl D 0 n),(1,A_ n),(2,F),(6,A_ bs),(7,A_ ((Re C n bs f xs a).2))],⟨hp (Re C n bs f xs a).1,N⟩⟩)∧
  (Re C n bs f xs a).1.length=n∧fm L (Re C n bs f xs a).1∧(Re C n bs f xs a).2<=n:=by
 intro f
 induction f with
 |zero =>
  intro a xs h1 h2 hx u;refine⟨?_,hx,u,h2⟩;rw[ah rJ];simp(maxSteps:=300000) (disch:=omega)[↓ac,↓aa,Re,K.sh,K.fi]
 |succ f ih =>
  intro a xs h1 h2 hx u;rw[ah rJ,Re];by_cases h:a+2*bs<=n
  .rw[ac h];have h0:=ajt H K n hlen N (2*bs) a (a+bs) (a+2*bs) xs o_ o_ o_ h hx u;obtain⟨g1,g2,g3,g4⟩:=ih (a+2*bs) (symM C (2*bs) xs a (a+bs) (a+2*bs)) o_ h (by rw[A9];exact hx) (u.symM o_ o_ o_);refine⟨?_,g2,g3,g4⟩;have c1:((a+bs:Nat):Int)=(a:Int)+bs:=rfl;have c2:((a+2*bs:Nat):Int)=(a:Int)+2*bs:=o_;rw[c1,c2]at h0;rw[c2]at g1;rw[<-g1];simp(maxSteps:=300000) (disch:=omega)[↓ac,↓aa,K.sh,K.fi,h0]
  .rw[aa h];refine⟨?_,hx,u,h2⟩;simp(maxSteps:=300000) (disch:=omega)[↓ac,↓aa,K.sh,K.fi]
def asE (H:Hp hp D)(K:Cm hp L F C)(n:Nat)(hlen:n<=1000000000)(N:Nat):∀(f bs:Nat) (xs:C_),n<bs+f+1->1<=bs->bs<=2000000000->xs.length=n->fm L xs->
  (Dn prog).code (.loop iw) ⟨[(0,.sl D 0 n),(1,A_ n),(2,F),(6,A_ bs)],⟨hp xs,N⟩⟩ =
  some (.exit 2,⟨[],⟨hp (stL C n f xs bs),N⟩⟩)∧(stL C n f xs bs).length=n∧fm L (stL C n f xs bs):=by
 intro f
 induction f with
 |zero =>
  intro bs xs h1 h2 h3 hx u;refine⟨?_,hx,u⟩;rw[ah rM];simp(maxSteps:=300000) (disch:=omega)[↓ac,↓aa,stL,K.sh,K.fi]
 |succ f ih =>
  intro bs xs h1 h2 h3 hx u;rw[ah rM,stL];by_cases h:bs<n
  .rw[ac h];obtain⟨g1,g2,g3,g4⟩:=aq5 H K n hlen bs N h2 o_ n 0 xs o_ o_ hx u;generalize Re C n bs n xs 0=p at *;obtain⟨ys,a⟩:=p;simp only at g1 g2 g3 g4;have c0:((0:Nat):Int)=0:=rfl;have cz:(0:Int)+2*(bs:Int)=2*(bs:Int):=o_;have c2:((2*bs:Nat):Int)=2*(bs:Int):=o_;rw[c0,cz]at g1;unfold stE;simp only;by_cases h5:a+bs<n
   .rw[ac h5];have h0:=ajt H K n hlen N (n-a) a (a+bs) n ys o_ o_ h5 (al _) g2 g3;have c1:((a+bs:Nat):Int)=(a:Int)+bs:=rfl;obtain⟨k1,k2,k3⟩:=ih (2*bs) (symM C (n-a) ys a (a+bs) n) o_ o_ o_ (by rw[A9];exact g2) (g3.symM o_ h5 o_);refine⟨?_,k2,k3⟩;rw[c1]at h0;rw[c2]at k1;have cc:(bs:Int)*2=2*(bs:Int):=o_;rw[<-k1];simp(maxSteps:=300000) (disch:=omega)[↓ac,↓aa,K.sh,K.fi,g1,h0,cc]
   .rw[aa h5];obtain⟨k1,k2,k3⟩:=ih (2*bs) ys o_ o_ o_ g2 g3;refine⟨?_,k2,k3⟩;rw[c2]at k1;have cc:(bs:Int)*2=2*(bs:Int):=o_;rw[<-k1];simp(maxSteps:=300000) (disch:=omega)[↓ac,↓aa,K.sh,K.fi,g1,cc]
  .rw[aa h];refine⟨?_,hx,u⟩;simp(maxSteps:=300000) (disch:=omega)[↓ac,↓aa,K.sh,K.fi]
def ar0 (H:Hp hp D)(K:Cm hp L F C)(n:Nat)(hlen:n<=1000000000)(hn:n % 20≠0)(N:Nat)(xs:C_)(hx:xs.length=n)(u:fm L xs) :
  (Dn prog).call u9 [.sl D 0 n,A_ n,F] ⟨hp xs,N⟩=some (.tup [],⟨hp (ta C n xs),N⟩):=by
 rw[bb G6 H7 rfl,ta];obtain⟨g1,g2,g3,_,g5,q,g6⟩:=arH H K n hlen N n 0 xs o_ o_ hx u;generalize Lh C n n xs 0=p at *;obtain⟨ys,a⟩:=p;simp only at g1 g2 g3 g5 g6;have h0:=RP H K n hlen a n N o_ (al _) ys g2 g3;unfold stS;simp only;obtain⟨k1,k2,k3⟩:=asE H K n hlen N n 20 (insO C a (n-(a+1)) (a+1) ys) o_ o_ o_ (by rw[XL];exact g2) (g3.insO o_);have c0:((0:Nat):Int)=0:=rfl;have cz:(0:Int)+20=20:=rfl;have c2:((20:Nat):Int)=20:=rfl;rw[c0,cz]at g1;rw[c2]at k1;simp(maxSteps:=300000) (disch:=omega)[↓ac,↓aa,K.sh,K.fi,g1,h0,k1]
end
abbrev bH:=@List.all_eq_true
abbrev co:=@List.not_mem_nil
abbrev d8:=@or_false
def eI (id:Nat):Nat:=if id<5 then 4 else if id=12 then 1 else 2
def dp (id:Nat):Int:=[0,-1,-1,0,0,-4,-4,0,0,0,0,0,-60].getD id 0
def cK (id:Nat):Nat:=[1,3,3,3,3,9,9,8,8,13,13,17,121].getD id 1
def bO (id:Nat):Nat:=[0,0,1,0,1,0,1,1,2,1,2,2,0].getD id 0
def mz (low:Int)(w:Nat):Nat->Nat->G_
 |0,_=>[]
 |d+1,e=>mz low w d (e / w)++[((e % w:Nat):Int)+low]
def nj (id e:Nat):G_:=mz (dp id) (cK id) (eI id) e
def OS:G_->Nat
 |[]=>0
 |x::r=>x.natAbs+OS r
def Aq (id e:Nat):Nat:=OS (nj id e)
def br (id:Nat):Nat:=cK id ^ eI id
def aoX (s:Nat):R_->C_
 |[]=>[]
 |(e,z)::r=>match Nat.beq z s with
  |true=>e::aoX s r
  |false=>aoX s r
def aDT (id:Nat):R_:=(List.range (br id)).map λe=>(e,Aq id e)
def cA (id:Nat):C_:=let l:=aDT id;(List.range 61).flatMap λs=>aoX s l
def aBt (e:Nat):Nat->C_->Nat
 |i,[]=>i
 |i,x::r=>match Nat.beq x e with
  |true=>i
  |false=>aBt e (i+1) r
def dP (id:Nat):C_:=let l:=cA id;(List.range (br id)).map λe=>aBt e 0 l
abbrev jP (id:Nat):Prop:=1<=id∧id<=12
abbrev ov (id:Nat):AV:=.agg [A_ id,A_ (bO id),.d (.lst (cY (cA id))),.d (.lst (cY (dP id)))]
abbrev Zf (id:Nat):AV:=.agg [A_ id,A_ (bO id),.own true 1 (cY (cA id)),.own true 1 (cY (dP id))]
def an7:∀id∈List.range 13,bO id<=2∧(cA id).length<=300∧(dP id).length<=300∧(cA id).all (λe=>decide (e<br id))=true:=e_
def K6 {id:Nat}(h:id<=12):bO id<=2∧(cA id).length<=300∧(dP id).length<=300∧∀e∈cA id,e<br id:=by
 obtain⟨a,b,c,d⟩:=an7 id g_;exact⟨a,b,c,λe he=>by simpa using bH.1 d e he⟩
def ids:C_:=[1,2,3,4,5,6,7,8,9,10,11,12]
def f9 {id:Nat}(h:jP id):id∈ids:=by
 obtain⟨h1,h2⟩:=h;simp only[ids,ay,co,d8];omega
abbrev V6 (id:Nat):AV:=.agg [A_ (eI id),A_ (dp id),A_ (dp id+cK id-1),A_ (bO id)]
def Pr:∀x∈ids,bh prog aqI [A_ x]=some (.tup [V6 x,A_ 0]):=JC 100 ids (by kernel_rfl)
def Iy:∀x∈ids,bh prog Bv [V6 x]=some (A_ (br x)):=JC 100 ids (by kernel_rfl)
def Fs {z:W_}{n:Nat}(h:n<=1000000000):Gn z (A_ n) (A_ n)=some (.own true z.length (List.replicate n z)):=by
 have h0:¬((n:Int)<0):=o_;have h1:Nat.ble n aX=true:=ca (aO h k_);have h2:Nat.ble n n=true:=by rw[abW];simp
 simp only[Gn,ej,h1,h2]
abbrev gq:=@Bool.not_eq_true
abbrev b8:=@List.getElem?_map
abbrev lC:=@List.getElem?_range
def SU (x:Nat):bh prog Ic [.d (.int .u8 x)]=some (B_ false):=by
 rw[aD VG VD rfl];simp(maxSteps:=300000) (disch:=omega)[↓ac,↓aa]
def akF (x y:Nat):bh prog Eb [.d (.int .u8 x),.d (.int .u8 y)]=some (A_ (if x<y then -1 else if y<x then 1 else 0)):=by
 rw[aD R7 RZ rfl];by_cases h1:x<y
 .rw[ac h1];simp(maxSteps:=300000) (disch:=omega)[↓ac,↓aa,SU]
 .rw[aa h1];by_cases h2:y<x
  .rw[ac h2];simp(maxSteps:=300000) (disch:=omega)[↓ac,↓aa,SU]
  .rw[aa h2];simp(maxSteps:=300000) (disch:=omega)[↓ac,↓aa,SU]
@[simp] def aGd {len n S o:Nat}{k:IntKind}{z:Int}(h0:0<=z)(h:z<len):Ly len n (.ptr S o) (.d (.int k z))=some (.ptr S (o+z.toNat*n)):=by
 obtain⟨i,rfl⟩:=aB h0;have hl:Nat.ble len i=false:=by rw[<-gq,bp];omega
 show(match Nat.ble len i with|true=>none|false=>iE (i*n) (.ptr S o))=_;rw[hl];rfl
def kf (id:Nat):C_:=(List.range (br id)).map λe=>Aq id e
def cC (l:C_)(x y:Nat):Int:=if nth l x<nth l y then -1 else if nth l y<nth l x then 1 else 0
def tM (id:Nat):D_:=(List.range 289).map λe=>.d (.int .u8 (if e<br id then Aq id e else 0:Nat))
def acA {id:Nat}:(tM id).length=289:=by simp[tM]
def acS {id x:Nat}(h:x<br id)(h2:br id<=289):(tM id)[x]?=some (.d (.int .u8 (nth (kf id) x:Nat))):=by
 have e:nth (kf id) x=Aq id x:=by
  have:=Co (l:=kf id) (i:=x) (by simp[kf];exact h);rw[kf,b8,lC h]at this;simpa [kf] using this.symm
 rw[e,tM,b8,lC o_];simp[h]
def aGV {hp:C_->am}{S id:Nat}(hS:∀xs,get (hp xs) S=some (.cells (tM id)))(h2:br id<=289):Cm hp (br id) (.fn JW [] [.ptr S 0]) (cC (kf id)) where
 sh:=rfl
 fi:=rfl
 cl xs N x y hx hy:=by
  have e1:=acS hx h2;have e2:=acS hy h2;show(Dn prog).call JW ([]++([A_ (x:Nat),A_ (y:Nat)]++[.ptr S 0])) ⟨hp xs,N⟩=_;simp only[aK,aQ];rw[bb ai4 aiM rfl];generalize tM id=Z at *;simp(maxSteps:=300000) (disch:=omega)[↓ac,↓aa,hS,e1,e2,akF,cC]
noncomputable section
def azQ {k i:Nat}(h:k=i):Nat.beq k i=true:=by rw[aF];exact h
def aDs {k i:Nat}(h:¬k=i):Nat.beq k i=false:=by rw[<-gq,aF];exact h
def nE (l:C_):Nat->Nat:=List.rec (motive:=λ_=>Nat->Nat) (λ_=>0) (λx _ ih i=>Nat.casesOn (motive:=λ_=>Nat) i x (λk=>ih k)) l
def BZ:∀(l:C_) (i:Nat),nE l i=nth l i
 |[],i=>by simp[nth];rfl
 |x::l,0=>rfl
 |x::l,i+1=>BZ l i
def apO (l:C_):Nat->Nat->C_:=List.rec (motive:=λ_=>Nat->Nat->C_) (λ_ _=>[]) (λx r ih i v=>Nat.casesOn (motive:=λ_=>C_) i (v::r) (λk=>x::ih k v)) l
def amP:∀(l:C_) (i v:Nat),apO l i v=l.set i v
 |[],i,v=>rfl
 |x::l,0,v=>rfl
 |x::l,i+1,v=>by
  show x::apO l i v=_;rw[amP l i v];rfl
def adT (xs:C_)(i j:Nat):C_:=apO (apO xs i (nE xs j)) j (nE xs i)
def Uz (xs:C_)(i j:Nat):adT xs i j=swp xs i j:=by simp only[adT,swp,amP,BZ]
def Xa (l:C_)(x y:Nat):Bool:=Nat.ble (Nat.succ (nE l x)) (nE l y)
def GN (l:C_)(x y:Nat):(Xa l x y=true)=(cC l x y<0):=by
 simp only[Xa,BZ,bp,cC];apply propext;constructor
 .intro h;rw[ac o_];omega
 .intro h;split at h
  .omega
  .split at h<;>omega
def Us (a b:Nat):Nat->Nat->C_->C_
 |0,_,xs=>xs
 |k+1,i,xs=>Us a b k (i+1) (adT xs (a+i) (b+i))
def Qq {a b:Nat}:∀(k i:Nat) (xs:C_),Us a b k i xs=swpR xs a b k i
 |0,_,_=>rfl
 |k+1,i,xs=>by rw[Us,swpR,Uz,Qq]
def ah3 (m:Nat):Nat->C_->Nat->Nat->C_
 |0,xs,i,j=>xs
 |f+1,xs,i,j=>match Nat.beq i j with
  |true=>Us (m-i) m i 0 xs
  |false=>match Nat.ble i j with
   |true=>ah3 m f (Us (m-i) (m+j-i) i 0 xs) i (j-i)
   |false=>ah3 m f (Us (m-i) m j 0 xs) (i-j) j
def acZ {m:Nat}:∀(f:Nat) (xs:C_) (i j:Nat),ah3 m f xs i j=rot m f xs i j
 |0,_,_,_=>rfl
 |f+1,xs,i,j=>by
  rw[ah3,rot];by_cases h:i=j
  .rw[azQ h,ac h,Qq]
  .rw[aDs h,aa h];by_cases h2:j<i
   .rw[show Nat.ble i j=false by rw[<-gq,bp];omega,ac h2];simp only[acZ,Qq]
   .rw[ca (by omega:i<=j),aa h2];simp only[acZ,Qq]
section
variable (l:C_)
def agB (a:Nat):Nat->C_->C_
 |0,xs=>xs
 |j+1,xs=>match Nat.ble a j with
  |false=>xs
  |true=>match Xa l (nE xs (j+1)) (nE xs j) with
   |true=>agB a j (adT xs (j+1) j)
   |false=>xs
def ag5 {a:Nat}:∀(j:Nat) (xs:C_),agB l a j xs=insJ (cC l) a j xs
 |0,_=>rfl
 |j+1,xs=>by
  rw[agB,insJ];by_cases h:a<=j
  .rw[ca h];simp only[BZ]
   cases h2:Xa l (nth xs (j+1)) (nth xs j) with
   |true=>rw[ac ⟨h,by rw[<-GN];exact h2⟩,<-ag5,Uz]
   |false=>rw[aa (λq=>by have:=q.2;rw[<-GN,h2]at this;exact absurd this s_)]
  .rw[show Nat.ble a j=false by rw[<-gq,bp];exact h,aa (λq=>h q.1)]
def aba (a:Nat):Nat->Nat->C_->C_
 |0,_,xs=>xs
 |k+1,i,xs=>aba a k (i+1) (agB l a i xs)
def X5 {a:Nat}:∀(k i:Nat) (xs:C_),aba l a k i xs=insO (cC l) a k i xs
 |0,_,_=>rfl
 |k+1,i,xs=>by rw[aba,insO,ag5,X5]
def air (xs:C_)(a:Nat):Nat->Nat->Nat->Nat
 |0,i,_=>i
 |f+1,i,j=>match Nat.ble j i with
  |true=>i
  |false=>match Xa l (nE xs ((i+j) / 2)) (nE xs a) with
   |true=>air xs a f ((i+j) / 2+1) j
   |false=>air xs a f i ((i+j) / 2)
def ab0 {xs:C_}{a:Nat}:∀(f i j:Nat),air l xs a f i j=M9 (cC l) xs a f i j
 |0,_,_=>rfl
 |f+1,i,j=>by
  rw[air,M9];by_cases h:i<j
  .rw[show Nat.ble j i=false by rw[<-gq,bp];omega,ac h];simp only[BZ]
   cases h2:Xa l (nth xs ((i+j) / 2)) (nth xs a) with
   |true=>rw[ac (by rw[<-GN];exact h2)];simp only[ab0]
   |false=>rw[aa (by rw[<-GN,h2];simp)];simp only[ab0]
  .rw[ca (by omega:j<=i),aa h]
def aj8 (xs:C_)(m:Nat):Nat->Nat->Nat->Nat
 |0,i,_=>i
 |f+1,i,j=>match Nat.ble j i with
  |true=>i
  |false=>match Xa l (nE xs m) (nE xs ((i+j) / 2)) with
   |true=>aj8 xs m f i ((i+j) / 2)
   |false=>aj8 xs m f ((i+j) / 2+1) j
def ab3 {xs:C_}{m:Nat}:∀(f i j:Nat),aj8 l xs m f i j=NW (cC l) xs m f i j
 |0,_,_=>rfl
 |f+1,i,j=>by
  rw[aj8,NW];by_cases h:i<j
  .rw[show Nat.ble j i=false by rw[<-gq,bp];omega,ac h];simp only[BZ]
   cases h2:Xa l (nth xs m) (nth xs ((i+j) / 2)) with
   |true=>rw[ac (by rw[<-GN];exact h2)];simp only[ab3]
   |false=>rw[aa (by rw[<-GN,h2];simp)];simp only[ab3]
  .rw[ca (by omega:j<=i),aa h]
def adN (xs:C_)(p:Nat):Nat->Nat->Nat->Nat
 |0,i,_=>i
 |f+1,i,j=>match Nat.ble j i with
  |true=>i
  |false=>match Xa l (nE xs (p-(i+j) / 2)) (nE xs ((i+j) / 2)) with
   |true=>adN xs p f i ((i+j) / 2)
   |false=>adN xs p f ((i+j) / 2+1) j
def acz {xs:C_}{p:Nat}:∀(f i j:Nat),adN l xs p f i j=s9 (cC l) xs p f i j
 |0,_,_=>rfl
 |f+1,i,j=>by
  rw[adN,s9];by_cases h:i<j
  .rw[show Nat.ble j i=false by rw[<-gq,bp];omega,ac h];simp only[BZ]
   cases h2:Xa l (nth xs (p-(i+j) / 2)) (nth xs ((i+j) / 2)) with
   |true=>rw[ac (by rw[<-GN];exact h2)];simp only[acz]
   |false=>rw[aa (by rw[<-GN,h2];simp)];simp only[acz]
  .rw[ca (by omega:j<=i),aa h]
def aoZ:Nat->Nat->C_->C_
 |0,_,xs=>xs
 |n+1,k,xs=>aoZ n (k+1) (adT xs k (k+1))
def amq:∀(n k:Nat) (xs:C_),aoZ n k xs=shU n k xs
 |0,_,_=>rfl
 |n+1,k,xs=>by rw[aoZ,shU,Uz,amq]
def aoq:Nat->Nat->C_->C_
 |0,_,xs=>xs
 |n+1,k,xs=>aoq n (k-1) (adT xs k (k-1))
def amI:∀(n k:Nat) (xs:C_),aoq n k xs=shD n k xs
 |0,_,_=>rfl
 |n+1,k,xs=>by rw[aoq,shD,Uz,amI]
def UX:Nat->C_->Nat->Nat->Nat->C_
 |0,xs,_,_,_=>xs
 |f+1,xs,a,m,b =>
  if m-a=1 then aoZ (air l xs a (b-m) m b-1-a) a xs
  else if b-m=1 then aoq (m-aj8 l xs m (m-a) a m) m xs
  else
   let s:=if (a+b) / 2<m then adN l xs ((a+b) / 2+m-1) (b-a) ((a+b) / 2+m-b) ((a+b) / 2) else adN l xs ((a+b) / 2+m-1) (b-a) a m
   let e:=(a+b) / 2+m-s
   let ys:=if s<m∧m<e then ah3 m (e-s) xs (m-s) (e-m) else xs
   let zs:=if a<s∧s<(a+b) / 2 then UX f ys a s ((a+b) / 2) else ys
   if (a+b) / 2<e∧e<b then UX f zs ((a+b) / 2) e b else zs
def Xo:∀(f:Nat) (xs:C_) (a m b:Nat),UX l f xs a m b=symM (cC l) f xs a m b
 |0,_,_,_,_=>rfl
 |f+1,xs,a,m,b=>by
  rw[UX,symM];simp only[amq,amI,ab0,ab3,acz,acZ,Xo f]
def ajT (n:Nat):Nat->C_->Nat->C_×Nat
 |0,xs,a=>(xs,a)
 |f+1,xs,a=>if a+20<=n then ajT n f (aba l a 19 (a+1) xs) (a+20) else (xs,a)
def amG {n:Nat}:∀(f:Nat) (xs:C_) (a:Nat),ajT l n f xs a=Lh (cC l) n f xs a
 |0,_,_=>rfl
 |f+1,xs,a=>by rw[ajT,Lh];simp only[X5,amG f]
def aho (n bs:Nat):Nat->C_->Nat->C_×Nat
 |0,xs,a=>(xs,a)
 |f+1,xs,a=>if a+2*bs<=n then aho n bs f (UX l (2*bs) xs a (a+bs) (a+2*bs)) (a+2*bs) else (xs,a)
def am0 {n bs:Nat}:∀(f:Nat) (xs:C_) (a:Nat),aho l n bs f xs a=Re (cC l) n bs f xs a
 |0,_,_=>rfl
 |f+1,xs,a=>by rw[aho,Re];simp only[Xo,am0 f]
def ao7 (n bs:Nat)(p:C_×Nat):C_:=if p.2+bs<n then UX l (n-p.2) p.1 p.2 (p.2+bs) n else p.1
def ayi {n bs:Nat}(p:C_×Nat):ao7 l n bs p=stE (cC l) n bs p:=by rw[ao7,stE];simp only[Xo]
def auB (n:Nat)(p:C_×Nat):C_:=aba l p.2 (n-(p.2+1)) (p.2+1) p.1
def azb {n:Nat}(p:C_×Nat):auB l n p=stS (cC l) n p:=X5 l _ _ _
def TX (n:Nat):Nat->C_->Nat->C_
 |0,xs,_=>xs
 |f+1,xs,bs=>if bs<n then TX n f (ao7 l n bs (aho l n bs n xs 0)) (2*bs) else xs
def amv {n:Nat}:∀(f:Nat) (xs:C_) (bs:Nat),TX l n f xs bs=stL (cC l) n f xs bs
 |0,_,_=>rfl
 |f+1,xs,bs=>by rw[TX,stL];simp only[ayi,am0,amv f]
def abU (n:Nat)(xs:C_):C_:=TX l n n (auB l n (ajT l n n xs 0)) 20
def uD {n:Nat}(xs:C_):abU l n xs=ta (cC l) n xs:=by rw[abU,ta,amv,azb,amG]
def rnd (n bs:Nat)(xs:C_):C_:=ao7 l n bs (aho l n bs n xs 0)
end
end
def st1:ta (cC (kf 1)) (br 1) (List.range (br 1))=cA 1:=by rw[<-uD];decide +kernel
def st3:ta (cC (kf 3)) (br 3) (List.range (br 3))=cA 3:=by rw[<-uD];decide +kernel
def st5:ta (cC (kf 5)) (br 5) (List.range (br 5))=cA 5:=by rw[<-uD];decide +kernel
def st7:ta (cC (kf 7)) (br 7) (List.range (br 7))=cA 7:=by rw[<-uD];decide +kernel
def aFJ:ta (cC (kf 12)) (br 12) (List.range (br 12))=cA 12:=by rw[<-uD];decide +kernel
def st9:ta (cC (kf 9)) (br 9) (List.range (br 9))=cA 9:=by rw[<-uD];decide +kernel
noncomputable section
def av1:C_:=[0,1,17,2,18,3,19,4,5,6,7,8,9,10,11,12,13,14,15,16,34,35,20,36,21,37,22,38,23,39,24,25,26,27,28,29,30,31,32,33,51,52,53,54,55,40,56,41,57,42,58,43,59,44,45,46,47,48,49,50,68,69,70,71,72,73,74,75,60,76,61,77,62,78,63,79,64,65,66,67,85,86,87,88,89,90,91,92,93,94,95,80,96,81,97,82,98,83,99,84,102,103,119,104,105,106,107,108,109,110,111,112,113,114,115,100,116,101,117,118,120,136,121,137,122,138,123,139,124,125,126,127,128,129,130,131,132,133,134,135,153,154,155,140,156,141,157,142,158,143,159,144,145,146,147,148,149,150,151,152,170,171,172,173,174,175,160,176,161,177,162,178,163,179,164,165,166,167,168,169,187,188,189,190,191,192,193,194,195,180,196,181,197,182,198,183,199,184,185,186,204,205,206,207,208,209,210,211,212,213,214,215,200,216,201,217,202,218,203,219,221,222,238,223,239,224,225,226,227,228,229,230,231,232,233,234,235,220,236,237,255,240,256,241,257,242,258,243,259,244,245,246,247,248,249,250,251,252,253,254,272,273,274,275,260,276,261,277,262,278,263,279,264,265,266,267,268,269,270,271,280,281,282,283,284,285,286,287,288]
def awF:C_:=[0,1,17,2,18,34,3,19,35,4,20,36,5,21,37,6,22,38,7,23,39,8,24,9,25,10,26,11,27,12,28,13,29,14,30,15,31,16,32,33,51,52,68,53,69,54,70,55,71,40,56,72,41,57,73,42,58,74,43,59,75,44,60,76,45,61,77,46,62,78,47,63,79,48,64,49,65,50,66,67,85,86,102,87,103,119,88,104,89,105,90,106,91,107,92,108,93,109,94,110,95,111,80,96,112,81,97,113,82,98,114,83,99,115,84,100,116,101,117,118,120,136,121,137,153,122,138,154,123,139,155,124,140,156,125,141,157,126,142,158,127,143,159,128,144,129,145,130,146,131,147,132,148,133,149,134,150,135,151,152,170,171,187,172,188,173,189,174,190,175,191,160,176,192,161,177,193,162,178,194,163,179,195,164,180,196,165,181,197,166,182,198,167,183,199,168,184,169,185,186,204,205,221,206,222,238,207,223,239,208,224,209,225,210,226,211,227,212,228,213,229,214,230,215,231,200,216,232,201,217,233,202,218,234,203,219,235,220,236,237,255,240,256,272,241,257,273,242,258,274,243,259,275,244,260,276,245,261,277,246,262,278,247,263,279,248,264,249,265,250,266,251,267,252,268,253,269,254,270,271,280,281,282,283,284,285,286,287,288]
def av3:C_:=[0,1,17,2,18,34,3,19,35,51,4,20,36,52,68,5,21,37,53,69,6,22,38,54,70,7,23,39,55,71,8,24,40,56,72,9,25,41,57,73,10,26,42,58,74,11,27,43,59,75,12,28,44,60,76,13,29,45,61,77,14,30,46,62,78,15,31,47,63,79,16,32,48,64,33,49,65,50,66,67,85,86,102,87,103,119,88,104,120,136,89,105,121,137,153,90,106,122,138,154,91,107,123,139,155,92,108,124,140,156,93,109,125,141,157,94,110,126,142,158,95,111,127,143,159,80,96,112,128,144,81,97,113,129,145,82,98,114,130,146,83,99,115,131,147,84,100,116,132,148,101,117,133,149,118,134,150,135,151,152,170,171,187,172,188,204,173,189,205,221,174,190,206,222,238,175,191,207,223,239,160,176,192,208,224,161,177,193,209,225,162,178,194,210,226,163,179,195,211,227,164,180,196,212,228,165,181,197,213,229,166,182,198,214,230,167,183,199,215,231,168,184,200,216,232,169,185,201,217,233,186,202,218,234,203,219,235,220,236,237,255,240,256,272,241,257,273,242,258,274,243,259,275,244,260,276,245,261,277,246,262,278,247,263,279,248,264,280,249,265,281,250,266,282,251,267,283,252,268,284,253,269,285,254,270,286,271,287,288]
def awA:C_:=[0,1,17,2,18,34,3,19,35,51,4,20,36,52,68,5,21,37,53,69,85,6,22,38,54,70,86,102,7,23,39,55,71,87,103,119,8,24,40,56,72,88,104,120,136,9,25,41,57,73,89,105,121,137,153,10,26,42,58,74,90,106,122,138,154,11,27,43,59,75,91,107,123,139,155,12,28,44,60,76,92,108,124,140,156,13,29,45,61,77,93,109,125,141,157,14,30,46,62,78,94,110,126,142,158,15,31,47,63,79,95,111,127,143,159,16,32,48,64,80,96,112,128,144,33,49,65,81,97,113,129,145,50,66,82,98,114,130,146,67,83,99,115,131,147,84,100,116,132,148,101,117,133,149,118,134,150,135,151,152,170,171,187,172,188,204,173,189,205,221,174,190,206,222,238,175,191,207,223,239,255,160,176,192,208,224,240,256,272,161,177,193,209,225,241,257,273,162,178,194,210,226,242,258,274,163,179,195,211,227,243,259,275,164,180,196,212,228,244,260,276,165,181,197,213,229,245,261,277,166,182,198,214,230,246,262,278,167,183,199,215,231,247,263,279,168,184,200,216,232,248,264,280,169,185,201,217,233,249,265,281,186,202,218,234,250,266,282,203,219,235,251,267,283,220,236,252,268,284,237,253,269,285,254,270,286,271,287,288]
def aCO:auB (kf 11) 289 (ajT (kf 11) 289 289 (List.range 289) 0)=av1:=e_
def aC5:rnd (kf 11) 289 20 av1=awF:=e_
def aC7:rnd (kf 11) 289 40 awF=av3:=e_
def aD1:rnd (kf 11) 289 80 av3=awA:=e_
def aDG:rnd (kf 11) 289 160 awA=cA 11:=e_
def aGA:ta (cC (kf 11)) 289 (List.range 289)=cA 11:=by
 rw[<-uD,abU,aCO];have u:∀(f:Nat) (xs:C_) (bs:Nat),bs<289->TX (kf 11) 289 (f+1) xs bs=TX (kf 11) 289 f (rnd (kf 11) 289 bs xs) (2*bs):=λf xs bs h=>by rw[TX,ac h];rfl
 rw[u 288 _ _ o_,aC5,u 287 _ _ o_,aC7,u 286 _ _ o_,aD1,u 285 _ _ o_,aDG];rw[show(285:Nat)=284+1 from rfl,TX,aa o_]
end
abbrev cL:=@List.replicate_succ
abbrev oq:=@List.set_append_right
abbrev uG:=@Nat.sub_self
def avM:kf 2=kf 1∧kf 4=kf 3∧kf 6=kf 5∧kf 8=kf 7∧kf 10=kf 9:=⟨rfl,rfl,rfl,rfl,rfl⟩
def apB:cA 2=cA 1∧cA 4=cA 3∧cA 6=cA 5∧cA 8=cA 7∧cA 10=cA 9:=⟨rfl,rfl,rfl,rfl,rfl⟩
def aAh (id:Nat)(h:jP id):ta (cC (kf id)) (br id) (List.range (br id))=cA id:=by
 obtain⟨p2,p4,p6,p8,p10⟩:=avM;obtain⟨q2,q4,q6,q8,q10⟩:=apB;have h1:id=1∨id=2∨id=3∨id=4∨id=5∨id=6∨id=7∨id=8∨id=9∨id=10∨id=11∨id=12:=o_;rcases h1 with rfl|rfl|rfl|rfl|rfl|rfl|rfl|rfl|rfl|rfl|rfl|rfl
 .exact st1
 .rw[p2,q2];exact st1
 .exact st3
 .rw[p4,q4];exact st3
 .exact st5
 .rw[p6,q6];exact st5
 .exact st7
 .rw[p8,q8];exact st7
 .exact st9
 .rw[p10,q10];exact st9
 .exact aGA
 .exact aFJ
def anP:∀id∈ids,br id<=289∧br id % 20≠0∧1<=br id:=e_
def rks (es:C_):Nat->Nat->C_->C_
 |0,_,R=>R
 |k+1,i,R=>rks es k (i+1) (R.set (nth es i) i)
def ayV:∀id∈ids,rks (cA id) (br id) 0 (List.replicate (br id) 0)=dP id:=e_
def amH:∀id∈ids,(cA id).length=br id∧(dP id).length=br id∧(cA id).all (λe=>decide (e<br id))=true:=e_
def Hl (n i:Nat):C_:=List.range i++List.replicate (n-i) 0
def ath {n i:Nat}(h:i<=n):(Hl n i).length=n:=by simp[Hl];omega
def atS {n i:Nat}(h:i<n):(Hl n i).set i i=Hl n (i+1):=by
 unfold Hl;obtain⟨k,hk⟩:∃k,n-i=k+1:=⟨n-i-1,o_⟩
 rw[hk,cL,oq _ _ s_,tp,uG,List.set_cons_zero,List.range_succ,aA]
 congr 2
 rw[show n-(i+1)=k by omega];rfl
section
variable (id n:Nat)(Z:D_)
def ak0 (hn:n<=289)(R:C_)(a b c d:AV)(x0 x1:D)(N:Nat):∀(k i:Nat),i+k=n->
  (Dn prog).code (.loop Ap) ⟨[(2,.ptr 0 0),(6,.ptr 4 0),(7,.ptr 5 0),(34,A_ n),(35,A_ i)],
   ⟨[(0,.cells [a,b,c,d]),(2,.arr 1 (cY (Hl n i))),(3,.arr 1 (cY R)),(4,.cells [.d x0,.d x1,.sl 2 0 n,.sl 3 0 n]),(5,.cells Z)],N⟩⟩ =
  some (.exit 0,⟨[(2,.ptr 0 0),(6,.ptr 4 0),(7,.ptr 5 0)],⟨[(0,.cells [a,b,c,d]),(2,.arr 1 (cY (Hl n n))),(3,.arr 1 (cY R)),(4,.cells [.d x0,.d x1,.sl 2 0 n,.sl 3 0 n]),(5,.cells Z)],N⟩⟩):=by
 intro k
 induction k with
 |zero =>
  intro i h;have:i=n:=o_;subst this;rw[ah Rc];simp(maxSteps:=300000) (disch:=omega)[↓ac,↓aa]
 |succ k ih =>
  intro i h;have l:=ath (n:=n) (i:=i) o_;have h5:=ih (i+1) o_;have c1:((i+1:Nat):Int)=(i:Int)+1:=rfl;rw[c1]at h5;rw[ah Rc,<-h5,<-atS o_];generalize Hl n i=xs at *;simp(maxSteps:=300000) (disch:=omega)[↓ac,↓aa]
def akW (hn:n<=289)(es:C_)(he:es.length=n)(hu:fm n es)(a b c d:AV)(x0 x1:D)(N:Nat):∀(k i:Nat) (R:C_),i+k=n->R.length=n->
  (Dn prog).code (.loop AK) ⟨[(2,.ptr 0 0),(6,.ptr 4 0),(49,.sl 2 0 n),(50,A_ n),(51,A_ i)],
   ⟨[(0,.cells [a,b,c,d]),(2,.arr 1 (cY es)),(3,.arr 1 (cY R)),(4,.cells [.d x0,.d x1,.sl 2 0 n,.sl 3 0 n]),(5,.cells Z)],N⟩⟩ =
  some (.exit 2,⟨[(2,.ptr 0 0),(6,.ptr 4 0)],⟨[(0,.cells [a,b,c,d]),(2,.arr 1 (cY es)),(3,.arr 1 (cY (rks es k i R))),(4,.cells [.d x0,.d x1,.sl 2 0 n,.sl 3 0 n]),(5,.cells Z)],N⟩⟩):=by
 intro k
 induction k with
 |zero =>
  intro i R h hR;rw[ah RJ];simp(maxSteps:=300000) (disch:=omega)[↓ac,↓aa,rks]
 |succ k ih =>
  intro i R h hR;have h5:=ih (i+1) (R.set (nth es i) i) o_ (by simpa using hR);have c1:((i+1:Nat):Int)=(i:Int)+1:=rfl;have hv:=hu.nth (i:=i) o_;rw[c1]at h5;rw[ah RJ,rks,<-h5];simp(maxSteps:=300000) (disch:=omega)[↓ac,↓aa]
end
abbrev mr:=@List.set_eq_take_append_cons_drop
abbrev sQ:=@List.getElem_take
abbrev ik:=@List.getElem?_eq_none
abbrev mW:=@List.drop_zero
@[simp] def aHb {h:am}{n id off:Nat}{k:IntKind}{z:Int}(h0:0<=z)(h1:z<=n):TL h n (.ptr id off) none (some (.d (.int k z))) none=bA (get h id) λo=>bA (cellsOf o) λcs=>dQ (Nat.ble (off+n) cs.length) (some (.sl id off z.toNat)):=by
 obtain⟨d,rfl⟩:=aB h0;have hd:Nat.ble d n=true:=ca o_;have hb:xu n none (some (.d (.int k (d:Int)))) none=some (0,d,n):=by
  show(match (match Nat.ble d n with|true=>some d|false=>none) with|none=>none|some h=>wR none h n)=_;rw[hd];rfl
 simp only[TL,UA]
 cases get h id with
 |none=>rfl
 |some o =>
  cases o with
  |cells cs =>
   simp only[bA,cellsOf,hb]
   cases Nat.ble (off+n) cs.length<;>simp[dQ]
  |arr=>rfl
  |loop=>rfl
def vc (V:G_):D_:=V.map λz=>A_ z
def TJ {V:G_}:(vc V).length=V.length:=by simp[vc]
def ask {V:G_}{i:Nat}(h:i<V.length):(vc V)[i]?=some (A_ (nth V i)):=by
 rw[vc,b8,Co h];rfl
def aB9 {V:G_}{i:Nat}{z:Int}:(vc V).set i (A_ z)=vc (V.set i z):=by simp[vc,mg]
def ahT {V:G_}{i:Nat}{z:Int}(h:i<V.length):List.take i (vc V)++AV.d (.int .i64 z)::List.drop (i+1) (vc V)=vc (V.set i z):=by
 rw[<-aB9,mr,ac (by rw[TJ];exact h)]
def odo (lo hi:Int):Nat->G_->G_
 |0,V=>V
 |i+1,V=>if nth V i+1<=hi then V.set i (nth V i+1) else odo lo hi i (V.set i lo)
abbrev Sm (V:G_):Prop:=∀z∈V,-100000<=z∧z<=100000
section
variable (k1:AV)(dm lo hi pl:Int)(cH:D_)(N:Nat)
def auK (d n m:Nat)(hd:d<=4)(V:G_)(hV:V.length=4)(hs:Sm V):∀(k i sum:Nat),i+k=d->sum<=1000000*(i+1)->
  (Dn prog).code (.loop oB) ⟨[(1,.ptr 0 0),(2,.ptr 1 0),(3,.ptr 2 0),(5,A_ n),(6,A_ sum),(21,A_ m),(22,A_ n),(27,.sl 2 0 d),(28,A_ d),(29,A_ i)],
   ⟨[(0,.cells [A_ dm,A_ lo,A_ hi,A_ pl]),(1,.cells cH),(2,.cells (vc V))],N⟩⟩ =
  some (.exit 4,⟨[(1,.ptr 0 0),(2,.ptr 1 0),(3,.ptr 2 0),(5,A_ n),(6,A_ ((sum+OS ((V.take d).drop i):Nat))),(21,A_ m),(22,A_ n)],
   ⟨[(0,.cells [A_ dm,A_ lo,A_ hi,A_ pl]),(1,.cells cH),(2,.cells (vc V))],N⟩⟩):=by
 intro k
 induction k with
 |zero =>
  intro i sum h1 h2;have e:(V.take d).drop i=[]:=cm g_;rw[ah DN,e];simp(maxSteps:=300000) (disch:=omega)[↓ac,↓aa,OS]
 |succ k ih =>
  intro i sum h1 h2;have hg:=ask (V:=V) (i:=i) o_;have hb:=hs (nth V i) (jy o_);have e:(V.take d).drop i=nth V i::(V.take d).drop (i+1):=by
   rw[eJ g_]
   congr 1
   rw[sQ,ag8 o_]
  have h5:=ih (i+1) (sum+(nth V i).natAbs) o_ o_;have es:sum+OS ((V.take d).drop i)=sum+(nth V i).natAbs+OS ((V.take d).drop (i+1)):=by rw[e,OS];omega
  rw[es];have c1:((i+1:Nat):Int)=(i:Int)+1:=rfl;rw[c1]at h5;rw[ah DN,<-h5];generalize nth V i=z at *;by_cases hz:z<0
  .have c2:((sum+z.natAbs:Nat):Int)=(sum:Int)+-z:=o_;rw[c2];simp(maxSteps:=300000) (disch:=omega)[↓ac,↓aa,hg]
  .have c2:((sum+z.natAbs:Nat):Int)=(sum:Int)+z:=o_;rw[c2];simp(maxSteps:=300000) (disch:=omega)[↓ac,↓aa,hg]
def atU (n m:Nat)(hlo:-1000<=lo∧lo<=1000):∀(j:Nat) (V:G_),j<=4->V.length=4->Sm V->
  (Dn prog).code (.loop oF) ⟨[(1,.ptr 0 0),(2,.ptr 1 0),(3,.ptr 2 0),(9,A_ ((j:Int)-1)),(21,A_ m),(22,A_ n)],
   ⟨[(0,.cells [A_ dm,A_ lo,A_ hi,A_ pl]),(1,.cells cH),(2,.cells (vc V))],N⟩⟩ =
  some (.exit 6,⟨[(1,.ptr 0 0),(2,.ptr 1 0),(3,.ptr 2 0),(21,A_ m),(22,A_ n)],
   ⟨[(0,.cells [A_ dm,A_ lo,A_ hi,A_ pl]),(1,.cells cH),(2,.cells (vc (odo lo hi j V)))],N⟩⟩):=by
 intro j
 induction j with
 |zero =>
  intro V h1 hV hs;rw[ah CI];simp(maxSteps:=300000) (disch:=omega)[↓ac,↓aa,odo]
 |succ j ih =>
  intro V h1 hV hs;have hg:=ask (V:=V) (i:=j) o_;have hb:=hs (nth V j) (jy o_);have hgs:∀z,(vc (V.set j z))[j]?=some (A_ z):=λz=>by
   rw[vc,b8,vg o_];rfl
  have c1:((j+1:Nat):Int)-1=(j:Int):=o_;have lp:=λz=>ahT (V:=V) (i:=j) (z:=z) (by omega)
  have lq:=λy z=>ahT (V:=V.set j y) (i:=j) (z:=z) (by simp;omega)
  have hss:∀y z,(V.set j y).set j z=V.set j z:=λy z=>List.set_set ..
  have hl2:∀y,(V.set j y).length=4:=λy=>by simpa using hV
  rw[c1,ah CI,odo];by_cases h:nth V j+1<=hi
  .rw[ac h];generalize nth V j=z at *;simp(maxSteps:=300000) (disch:=omega)[↓ac,↓aa,hg,TJ,lp,lq,hss,hl2,hV,hgs]
  .have h5:=ih (V.set j lo) o_ (by simpa using hV) (λz hz=>by
    rcases iB hz with g|g
    .exact hs z g
    .subst g;omega)
   rw[aa h,<-h5];generalize nth V j=z at *;simp(maxSteps:=300000) (disch:=omega)[↓ac,↓aa,hg,TJ,lp,lq,hss,hl2,hV,hgs]
def aaA (lo:Int):Nat->Nat->G_->G_
 |0,_,V=>V
 |k+1,i,V=>aaA lo k (i+1) (V.set i lo)
def auh (d:Nat)(hd:d<=4):∀(k i:Nat) (V:G_),i+k=d->V.length=4->
  (Dn prog).code (.loop ot) ⟨[(1,.ptr 0 0),(2,.ptr 1 0),(3,.ptr 2 0),(11,A_ d),(12,A_ i)],
   ⟨[(0,.cells [A_ dm,A_ lo,A_ hi,A_ pl]),(1,.cells cH),(2,.cells (vc V))],N⟩⟩ =
  some (.exit 0,⟨[(1,.ptr 0 0),(2,.ptr 1 0),(3,.ptr 2 0)],
   ⟨[(0,.cells [A_ dm,A_ lo,A_ hi,A_ pl]),(1,.cells cH),(2,.cells (vc (aaA lo k i V)))],N⟩⟩):=by
 intro k
 induction k with
 |zero =>
  intro i V h1 hV;rw[ah CA];simp(maxSteps:=300000) (disch:=omega)[↓ac,↓aa,aaA]
 |succ k ih =>
  intro i V h1 hV;have lp:=λz=>ahT (V:=V) (i:=i) (z:=z) (by omega)
  have h5:=ih (i+1) (V.set i lo) o_ (by simpa using hV);have c1:((i+1:Nat):Int)=(i:Int)+1:=rfl;rw[c1]at h5;rw[ah CA,aaA,<-h5];simp(maxSteps:=300000) (disch:=omega)[↓ac,↓aa,TJ,lp,hV]
end
def Bx (id n:Nat):G_:=(nj id n++[0,0,0,0]).take 4
def awt (id n:Nat):Bool:=decide (odo (dp id) (dp id+cK id-1) (eI id) (Bx id n)=Bx id (n+1)) && decide (OS ((Bx id n).take (eI id))=Aq id n) && decide (Aq id n<=255) &&
 (Bx id n).all (λz=>decide (-100000<=z) && decide (z<=100000)) && decide ((Bx id n).length=4)
def ax0:∀id∈ids,(List.range (br id)).all (awt id)=true:=e_
def aBL {id n:Nat}(h:jP id)(hn:n<br id):odo (dp id) (dp id+cK id-1) (eI id) (Bx id n)=Bx id (n+1)∧OS ((Bx id n).take (eI id))=Aq id n∧Aq id n<=255∧Sm (Bx id n)∧(Bx id n).length=4:=by
 have:=bH.1 (ax0 id (f9 h)) n (by simpa using hn);simp only[awt,af,decide_eq_true_eq,bH]at this;exact⟨this.1.1.1.1,this.1.1.1.2,this.1.1.2,λz hz=>this.1.2 z hz,this.2⟩
def awQ:∀id∈ids,aaA (dp id) (eI id) 0 [0,0,0,0]=Bx id 0∧eI id<=4∧1<=eI id∧-1000<=dp id∧dp id<=1000∧br id<=289:=e_
def ut (id n:Nat):D_:=(List.range 289).map λe=>.d (.int .u8 (if e<n then Aq id e else 0:Nat))
def XC {id n:Nat}:(ut id n).length=289:=by simp[ut]
def avJ {id n:Nat}(h:n<289):List.take n (ut id n)++AV.d (.int .u8 (Aq id n:Nat))::List.drop (n+1) (ut id n)=ut id (n+1):=by
 have e:(ut id n).set n (AV.d (.int .u8 (Aq id n:Nat)))=ut id (n+1):=by
  apply dS;intro j;rw[List.getElem?_set];by_cases hj:n=j
  .subst hj;rw[ac rfl,ac (by rw[XC];exact h),ut,b8,lC h];simp
  .rw[aa hj,ut,ut,b8,b8];by_cases hl:j<289
   .rw[lC hl];simp only[wd];by_cases h2:j<n
    .rw[ac h2,ac o_]
    .rw[aa h2,aa o_]
   .rw[ik g_];rfl
 rw[<-e,mr,ac (by rw[XC];exact h)]
def ava (id:Nat)(h:jP id)(pl:Int)(N:Nat):∀(k n:Nat),n+k=br id->
  (Dn prog).code (.loop oA) ⟨[(1,.ptr 0 0),(2,.ptr 1 0),(3,.ptr 2 0),(21,A_ (br id)),(22,A_ n)],
   ⟨[(0,.cells [A_ (eI id),A_ (dp id),A_ (dp id+cK id-1),A_ pl]),(1,.cells (ut id n)),(2,.cells (vc (Bx id n)))],N⟩⟩ =
  some (.exit 2,⟨[(2,.ptr 1 0)],⟨[(1,.cells (ut id (br id))),(2,.cells (vc (Bx id (br id))))],N⟩⟩):=by
 obtain⟨d0,d1,d2,d3,d4,d5⟩:=awQ id (f9 h);intro k
 induction k with
 |zero =>
  intro n hn;have:n=br id:=o_;subst this;rw[ah CW];simp(maxSteps:=300000) (disch:=omega)[↓ac,↓aa]
 |succ k ih =>
  intro n hn;obtain⟨f1,f2,f3,f4,f5⟩:=aBL (n:=n) h o_;have g1:=auK (eI id) (dp id) (dp id+cK id-1) pl (ut id n) N (eI id) n (br id) d1 (Bx id n) f5 f4 (eI id) 0 0 o_ o_;have g2:=atU (eI id) (dp id) (dp id+cK id-1) pl (ut id (n+1)) N n (br id) ⟨d3,d4⟩ (eI id) (Bx id n) d1 f5 f4;rw[f1]at g2;rw[mW,f2,bv]at g1;have h5:=ih (n+1) o_;have c1:((n+1:Nat):Int)=(n:Int)+1:=rfl;have c0:((0:Nat):Int)=0:=rfl;rw[c1]at h5;rw[c0]at g1;have hp:=avJ (id:=id) (n:=n) o_;have hl:=TJ (V:=Bx id n);have ol:=XC (id:=id) (n:=n);rw[ah CW,<-h5];generalize Aq id n=z at *;generalize hA:ut id n=A at *;generalize hB:ut id (n+1)=B at *;generalize Bx id n=V at *;generalize Bx id (n+1)=W at *;simp(maxSteps:=300000) (disch:=omega)[↓ac,↓aa,g1,g2,hp,AV.int]
def MI:D_:=List.replicate 289 (.d (.int .u8 0))
def aj4:MI.length=289:=by simp[MI]
def az2 {id:Nat}:ut id 0=MI:=by
 simp only[ut,Nat.not_lt_zero,bl,MI];rw[List.map_const',tp];rfl
def atC {id:Nat}:ut id (br id)=tM id:=rfl
def aDt {x0:AV}{h:am}{n:Nat}:(Dn prog).code om ⟨[(0,x0)],⟨h,n⟩⟩=fy (dQ ((AV.cells x0).all bn) <|lA (put h n (.cells (AV.cells x0))) λh1=>lA (put h1 (n+1) (.cells MI)) λh2=>some ⟨[(1,.ptr n 0),(2,.ptr (n+1) 0)],⟨h2,n+1+1⟩⟩):=BY
abbrev Dl (Z:D_):Prop:=∀x∈Z,∃d,x=AV.d d
def ahw:∀{Z:D_},(fS 1 Z).1=Z
 |[]=>rfl
 |v::r=>by rw[fS,ahw];rfl
def ajy {h:am}:∀{Z:D_},Dl Z->tB h Z=some (Z,h)
 |[],_=>rfl
 |v::r,hz=>by
  obtain⟨d,rfl⟩:=hz v (.head _);have h1:j6 h (.d d)=some (.d d,h):=rfl;rw[tB,h1];simp only[ajy (Z:=r) λx hx=>hz x (.tail _ hx)]
def aj5:∀{Z:D_},Dl Z->Z.map og=Z
 |[],_=>rfl
 |v::r,hz=>by
  obtain⟨d,rfl⟩:=hz v (.head _);rw[bY,aj5 λx hx=>hz x (.tail _ hx)];rfl
def awd {id:Nat}:Dl (tM id):=by
 intro x hx;simp only[tM,dy]at hx;obtain⟨e,_,rfl⟩:=hx;exact⟨_,rfl⟩
def Zg (id:Nat)(h:jP id):bh prog gW [V6 id]=some (.agg (tM id)):=by
 have hin:=f9 h;obtain⟨d0,d1,d2,d3,d4,d5⟩:=awQ id hin;have hm:=Iy id hin;have h0:=auh (eI id) (dp id) (dp id+cK id-1) (bO id) MI 3 (eI id) d1 (eI id) 0 [0,0,0,0] o_ rfl;have h3:=ava id h (bO id) 3 (br id) 0 o_;have c0:((0:Nat):Int)=0:=rfl;have v0:vc [0,0,0,0]=[A_ 0,A_ 0,A_ 0,A_ 0]:=rfl;rw[d0,c0,v0]at h0;rw[az2,atC,c0]at h3;have zl:=acA (id:=id);have zr:=λh=>ajy (h:=h) (awd (id:=id))
 have zb:=aj5 (awd (id:=id));have zt:List.take 289 (tM id)=tM id:=ck o_;have z1:=ahw (Z:=tM id);simp only[V6]at hm⊢;rw[aD Vv VK rfl];generalize tM id=Z at *;generalize vc (Bx id 0)=V0 at *;generalize vc (Bx id (br id))=V1 at *;generalize bO id=pl at *;generalize eI id=dm at *;generalize dp id=lo at *;generalize cK id=wi at *;generalize br id=n at *;simp(maxSteps:=300000) (disch:=omega)[↓ac,↓aa,hm,h0,h3,-BY,aDt,zt,z1,zr];exact λ_=>zb
def apH {hp:C_->am}{D L:Nat}{F:AV}{C:Nat->Nat->Int}(H:Hp hp D)(K:Cm hp L F C)(n:Nat)(hlen:n<=1000000000)(hn:n % 20≠0)(N:Nat)(xs:C_)(hx:xs.length=n)(u:fm L xs) :
  (Dn prog).call sY [.sl D 0 n,F] ⟨hp xs,N⟩=some (.tup [],⟨hp (ta C n xs),N⟩):=by
 have h:=ar0 H K n hlen hn N xs hx u;rw[bb EZ EV rfl];simp(maxSteps:=300000) (disch:=omega)[↓ac,↓aa,K.sh,K.fi,h]
def aDj {x2:AV}{x4:AV}{x6:AV}{h:am}{n:Nat}:(Dn prog).code AA ⟨[(2,x2),(4,x4),(6,x6)],⟨h,n⟩⟩=fy (bP (loadAt h (some 4) 1 (share x4)) λa1 h2=>bA (fj (Dn prog) gW [firm a1] h2) λa3=>lA (put h2 n (.cells MI)) λh4=>bA (storeAt h4 289 (.ptr n 0) (firm a3)) λh5=>some ⟨[(2,x2),(4,x4),(6,x6),(7,.ptr n 0)],⟨h5,n+1⟩⟩):=N3
def aji {W Z:D_}(h:W.length=Z.length):aI W 0 Z=Z:=by simp[aI,<-h]
def ahJ {id:Nat}:(tM id).all bn=true:=by
 rw[bH];intro x hx;simp only[tM,dy]at hx;obtain⟨e,_,rfl⟩:=hx;rfl
def ahF {id:Nat}:(tM id).map oE=tM id:=by
 simp only[tM,uo];rfl
def avR {n:Nat}:List.replicate n [D.int .i64 0]=cY (List.replicate n 0):=by simp[cY]
def aqM (id:Nat)(h:jP id):bh prog IA [A_ id]=some (.tup [Zf id,A_ 0]):=by
 have hin:=f9 h;obtain⟨m1,m2,m3⟩:=anP id hin;obtain⟨e1,e2,e3⟩:=amH id hin;have hR:=ayV id hin;have t1:List.take (br id) (cA id)=cA id:=ck o_;have t2:List.take (br id) (dP id)=dP id:=ck o_;have hst:=aAh id h;have ho:=Pr id hin;have hm:=Iy id hin;have hz:=Zg id h;have zl:=acA (id:=id);have zc:=ahJ (id:=id);have zf:=ahF (id:=id);have z9:=aj4;have zd:List.drop (tM id).length MI=[]:=cm o_;have hu:fm (br id) (cA id):=λx hx=>by simpa using bH.1 e3 x hx
 have hs:=λa b c d x0 x1 R N=>apH (hp:=λxs=>[(0,.cells [a,b,c,d]),(2,.arr 1 (cY xs)),(3,.arr 1 (cY R)),(4,.cells [.d x0,.d x1,.sl 2 0 (br id),.sl 3 0 (br id)]),(5,.cells (tM id))]) (D:=2)
  ⟨λxs=>rfl,λxs ys=>rfl⟩ (aGV (S:=5) (λxs=>rfl) m1) (br id) o_ m2 N (List.range (br id)) s_ (λx hx=>by simpa using hx)
 have h0:=λa b c d x0 x1 R N=>ak0 (br id) (tM id) m1 R a b c d x0 x1 N (br id) 0 (by omega)
 have h1:=λa b c d x0 x1 N=>akW (br id) (tM id) m1 (cA id) e1 hu a b c d x0 x1 N (br id) 0 (List.replicate (br id) 0) o_ (by simp)
 have hup:Hl (br id) (br id)=List.range (br id):=by simp[Hl]
 have hu0:Hl (br id) 0=List.replicate (br id) 0:=by simp[Hl]
 rw[hup,hu0]at h0;simp only[hst,hR,V6]at hs h1 ho hm hz;rw[aD apd apN rfl];have hid:(1:Int)<=id∧(id:Int)<=12:=o_;have c0:((0:Nat):Int)=0:=rfl;rw[c0]at h0 h1;simp only[Zf];generalize tM id=Z at *;generalize cA id=es at *;generalize dP id=rs at *;generalize bO id=pl at *;generalize eI id=dm at *;generalize dp id=lo at *;generalize cK id=wi at *;generalize br id=n at *;simp(maxSteps:=300000) (disch:=omega)[↓ac,↓aa,ho,hm,hz,h0,hs,h1,-N3,aDj,aji,zc,zf,zd,Fs,avR,AV.int,t1,t2]
def lc (id:Nat):Bool:=decide (dp id<0)
def Sc:∀x∈ids.take 11,bh prog afx [A_ x]=some (B_ (lc x)):=JC 100 _ (by kernel_rfl)
section
variable (id:Nat)
end
section
variable (n:Nat)(sz:C_)(hz:sz.length=n)(hn2:n<=289)(a b c d:AV)(x0 x1:D)(N:Nat)
include hz hn2
end
def okR (sz es rs:C_)(i:Nat):Bool:=Nat.beq (nE rs (nE es i)) i &&
 (Nat.beq i 0 ||Nat.blt (nE sz (nE es (i-1))) (nE sz (nE es i)) ||(Nat.beq (nE sz (nE es (i-1))) (nE sz (nE es i)) && Nat.blt (nE es (i-1)) (nE es i)))
def axT:∀id∈ids,(List.range (br id)).all (okR (kf id) (cA id) (dP id))=true:=e_
def as7 {id i:Nat}(h:jP id)(hi:i<br id):nth (dP id) (nth (cA id) i)=i∧(i≠0->nth (kf id) (nth (cA id) (i-1))<nth (kf id) (nth (cA id) i)∨(nth (kf id) (nth (cA id) (i-1))=nth (kf id) (nth (cA id) i)∧nth (cA id) (i-1)<nth (cA id) i)):=by
 have:=bH.1 (axT id (f9 h)) i (by simpa using hi);simp only[okR,BZ,af,c7,aF,Nat.blt,bp]at this;refine⟨this.1,λh0=>?_⟩;rcases this.2 with (h1|h1)|h1
 .exact absurd h1 h0
 .exact .inl h1
 .exact .inr h1
section
variable (n:Nat)(hn:n<=289)(sz es rs:C_)(Z:D_)(he:es.length=n)(hr:rs.length=n)(hu:fm n es)(hZ:∀x,x<n->Z[x]?=some (.d (.int .u8 (nth sz x:Nat))))
 (h1:∀i,i<n->nth rs (nth es i)=i)(h2:∀i,i+1<n->nth sz (nth es i)<nth sz (nth es (i+1))∨(nth sz (nth es i)=nth sz (nth es (i+1))∧nth es i<nth es (i+1)))
include hn he hr hu hZ h1 h2
theorem afn (x0 x1:D)(N:Nat):∀(k i:Nat),i+k=n->
  (Dn prog).code (.loop wM) ⟨[(1,.ptr 0 0),(5,.ptr 2 0),(43,.d (.lst (cY es))),(44,A_ n),(45,A_ i)],⟨[(0,.cells [.d x0,.d x1,.d (.lst (cY es)),.d (.lst (cY rs))]),(2,.cells Z)],N⟩⟩ =
  some (.exit 0,⟨[],⟨[],N⟩⟩):=by
 intro k
 induction k with
 |zero =>
  intro i h;rw[ah LC];simp(maxSteps:=300000) (disch:=omega)[↓ac,↓aa]
 |succ k ih =>
  intro i h;have hv:=hu.nth (i:=i) o_;have e1:=hZ _ hv;have r1:=h1 i o_;have h5:=ih (i+1) o_;have c1:((i+1:Nat):Int)=(i:Int)+1:=rfl;rw[c1]at h5;rw[ah LC,<-h5];by_cases h0:i=0
  .subst h0;have c0:((0:Nat):Int)=0:=rfl;rw[c0];have n0:(0:Int)=((0:Nat):Int):=rfl;simp(maxSteps:=300000) (disch:=omega)[↓ac,↓aa,r1]
  .obtain⟨q,rfl⟩:∃q,i=q+1:=⟨i-1,o_⟩
   have hw:=hu.nth (i:=q) o_;have e2:=hZ _ hw;rcases h2 q o_ with g|⟨g1,g2⟩
   .simp(maxSteps:=300000) (disch:=omega)[↓ac,↓aa,r1,e1,e2]
   .simp(maxSteps:=300000) (disch:=omega)[↓ac,↓aa,r1,e1,e2]
end
def aD7 {x1:AV}{x3:AV}{h:am}{n:Nat}:(Dn prog).code wL ⟨[(1,x1),(3,x3)],⟨h,n⟩⟩=fy (bP (loadAt h (some 4) 1 (share x3)) λa1 h2=>bA (fj (Dn prog) gW [firm a1] h2) λa3=>lA (put h2 n (.cells MI)) λh4=>bA (storeAt h4 289 (.ptr n 0) (firm a3)) λh5=>some ⟨[(1,x1),(3,x3),(5,.ptr n 0)],⟨h5,n+1⟩⟩):=JU
def alZ (id:Nat)(h:jP id):bh prog Jz [ov id]=some (B_ true):=by
 have hin:=f9 h;obtain⟨m1,m2,m3⟩:=anP id hin;obtain⟨e1,e2,e3⟩:=amH id hin;have ho:=Pr id hin;have hm:=Iy id hin;have hz:=Zg id h;have zl:=acA (id:=id);have zc:=ahJ (id:=id);have zf:=ahF (id:=id);have z9:=aj4;have zd:List.drop (tM id).length MI=[]:=cm o_;have hu:fm (br id) (cA id):=λx hx=>by simpa using bH.1 e3 x hx
 have h0:=λx0 x1 N=>afn (br id) m1 (kf id) (cA id) (dP id) (tM id) e1 e2 hu (λx hx=>acS hx m1) (λi hi=>(as7 h hi).1) (λi hi=>by have:=(as7 h hi).2 o_;simpa using this) x0 x1 N (br id) 0 (by omega)
 simp only[V6]at ho hm hz;rw[aD ajF aib rfl];have hid:(1:Int)<=id∧(id:Int)<=12:=o_;have c0:((0:Nat):Int)=0:=rfl;rw[c0]at h0;simp only[ov];generalize tM id=Z at *;generalize kf id=zs at *;generalize cA id=es at *;generalize dP id=rs at *;generalize bO id=pl at *;generalize eI id=dm at *;generalize dp id=lo at *;generalize cK id=wi at *;generalize br id=n at *;simp(maxSteps:=300000) (disch:=omega)[↓ac,↓aa,ho,hm,hz,h0,-JU,aD7,aji,zc,zf,zd,AV.int,e1,e2]
def mI (b:C_):Nat->Nat->Int->R Nat
 |0,_,_=>.er 7
 |f+1,m,a=>(bf b a 1).bind λv n=>if v=1 then .ok m n else mI b f (m+1) n
abbrev pZ (b:C_)(m n:Nat):Prop:=m<=9∧n<=b.length
def agX {b:C_}:∀{f m k n:Nat}{a:Int},f+m=10->mI b f m a=.ok k n->pZ b k n
 |0,_,_,_,_,_,h=>absurd h (by simp[mI])
 |f+1,m,k,n,a,hf,h=>by
  rw[mI]at h
  cases h1:bf b a 1 with
  |er e=>rw[h1]at h;exact absurd h (by simp)
  |ok v a1 =>
   rw[h1,az]at h;by_cases hv:v=1
   .rw[ac hv]at h;injection h with e1 e2
    subst e1 e2;exact⟨o_,(eD h1).2⟩
   .rw[aa hv]at h;exact agX o_ h
def at4 {α γ:Type}{p:α->Nat->Prop}{b:C_}{f m:Nat}{a:Int}{g:Nat->Nat->R α}{F:α->Nat->γ}{G:Nat->γ}(h:f+m=10):rK p ((mI b f m a).bind g) F G=rK (pZ b) (mI b f m a) (λv n=>rK p (g v n) F G) G:=yH λ_ _ h2=>agX h h2
def arp {γ:Type}{b:C_}{f m:Nat}{a:Int}{F:Nat->Nat->γ}{G:Nat->γ}(h:f+1+m=10):rK (pZ b) (mI b (f+1) m a) F G=rK (pG b 1) (bf b a 1) (λv n=>if v=1 then F m n else rK (pZ b) (mI b f (m+1) n) F G) G:=by
 rw[mI,JR];refine kg (λ_ _=>rfl) (λv n hp=>?_) λ_=>rfl
 by_cases hv:v=1
 .rw[ac hv,ac hv,fe ⟨o_,hp.2⟩]
 .rw[aa hv,aa hv]
def AN (id:Nat)(b:C_)(a:Int):R Nat :=
 (mI b 10 0 a).bind λm n=>(bf b n m).bind λhi n=>(bf b n (bO id)).bind λlo n =>
  if (cA id).length<=(2 ^ m+hi-1)*2 ^ bO id+lo then .er 7 else .ok (nth (cA id) ((2 ^ m+hi-1)*2 ^ bO id+lo)) n
def akc (b:C_)(hb:b.length<=1000000000)(X:Obj)(N:Nat):∀(f m:Nat) (a:Int),f+m=10->i64 a->
  (Dn prog).code (.loop yI) ⟨[(1,.d (.lst (ai b))),(3,.ptr 0 0),(7,A_ a),(9,A_ m),(10,A_ 0)],⟨[(0,X)],N⟩⟩ =
  rK (pZ b) (mI b f m a) (λm n=>some (.exit 0,⟨[(1,.d (.lst (ai b))),(3,.ptr 0 0),(7,A_ n),(9,A_ ((m+1:Nat):Int))],⟨[(0,X)],N⟩⟩)) (λe=>some (.ret,⟨[(6,A_ 0),(7,A_ 0),(8,A_ (e+1))],⟨[],N⟩⟩)):=by
 intro f
 induction f with
 |zero =>
  intro m a hf ha;rw[ah E4,mI];simp(maxSteps:=300000) (disch:=omega)[↓ac,↓aa]
 |succ f ih =>
  intro m a hf ha;rw[ah E4,arp hf];simp(maxSteps:=300000) (disch:=omega)[↓ac,↓aa,gY];refine kg (λ_ _=>rfl) (λv n hp=>?_) λ_=>rfl
  have hp4:v<2:=hp.1;by_cases h4:v=1
  .subst h4;rw[ac rfl,ah E4];simp(maxSteps:=300000) (disch:=omega)[↓ac,↓aa]
  .have h5:v=0:=o_;subst h5;have h:=ih (m+1) n o_ o_;rw[aa h4];simp at h⊢;exact h
def ZY (id:Nat)(h:jP id):bh prog Jz [ov id]=some (B_ true):=alZ id h
def Xt (id:Nat)(h:jP id):bh prog IA [A_ id]=some (.tup [Zf id,A_ 0]):=aqM id h
def avC {γ:Type}{id:Nat}{b:C_}{a:Int}(hid:jP id){F:Nat->Nat->γ}{G:Nat->γ}:rK (λe n=>e<br id∧n<=b.length) (AN id b a) F G =
  rK (pZ b) (mI b 10 0 a) (λm n=>rK (pG b m) (bf b n m) (λhi n=>rK (pG b (bO id)) (bf b n (bO id)) (λlo n =>
  if (cA id).length<=(2 ^ m+hi-1)*2 ^ bO id+lo then G 7 else F (nth (cA id) ((2 ^ m+hi-1)*2 ^ bO id+lo)) n) G) G) G:=by
 rw[AN,at4 rfl];refine kg (λ_ _=>rfl) (λm n hp=>?_) λ_=>rfl
 rw[JR];refine kg (λ_ _=>rfl) (λhi n hp=>?_) λ_=>rfl
 rw[JR];refine kg (λ_ _=>rfl) (λlo n hp=>?_) λ_=>rfl
 by_cases hr:(cA id).length<=(2 ^ m+hi-1)*2 ^ bO id+lo
 .rw[ac hr,ac hr,jg]
 .rw[aa hr,aa hr,fe];exact⟨(K6 o_).2.2.2 _ (jy o_),hp.2⟩
abbrev EB:VC:=(.seq (.seq D0 (.cond (.m 73) (.seq (.seq (K [7,13]) (F 3)) (.seq Cw .ret)) .skip)) (.seq (.seq Dy (F 3)) .ret))
def UE {m:Nat}(h:m<=60):fo .shl (A_ 1) (A_ m)=some (.int .i64 ((2 ^ m:Nat):Int)):=by
 have h2:2 ^ m<=2 ^ 60:=aw o_ h;have h3:min m 64=m:=o_;rw[tJ o_,au,IntKind.bits,h3];generalize 2 ^ m=P at *;rw[ahK o_ o_,Int.one_mul]
def apR {x:Int}{m P:Nat}(hP:2 ^ m=P)(hm:m<=60)(h0:0<=x)(h1:x*P<=4611686018427387904):fo .shl (A_ x) (A_ m)=some (.int .i64 (x*P)):=by
 subst hP;have h2:2 ^ m<=2 ^ 60:=aw o_ hm;have h3:min m 64=m:=o_;rw[tJ o_,au,IntKind.bits,h3];have:0<=x*((2 ^ m:Nat):Int):=Int.mul_nonneg h0 (rA _);generalize x*((2 ^ m:Nat):Int)=y at *;rw[ahK o_ o_]
def aBk {x:Int}(h0:0<=x)(h1:x<=100000000):fo .shl (A_ x) (A_ 0)=some (.int .i64 x):=by
 have:=apR (x:=x) (m:=0) (P:=1) rfl o_ h0 o_;simpa using this
def aBw {x:Int}(h0:0<=x)(h1:x<=100000000):fo .shl (A_ x) (A_ 1)=some (.int .i64 (x*2)):=by
 have:=apR (x:=x) (m:=1) (P:=2) rfl o_ h0 o_;simpa using this
def aB6 {x:Int}(h0:0<=x)(h1:x<=100000000):fo .shl (A_ x) (A_ 2)=some (.int .i64 (x*4)):=by
 have:=apR (x:=x) (m:=2) (P:=4) rfl o_ h0 o_;simpa using this
def ad3 (id:Nat)(b:C_)(a:Int)(hb:b.length<=1000000000)(ha:i64 a)(hid:jP id):bh prog WR [ov id,.d (.lst (ai b)),A_ a] =
  rK (λe n=>e<br id∧n<=b.length) (AN id b a) (λe n=>some (.tup [A_ e,A_ n,A_ 0])) (λe=>some (.tup [A_ 0,A_ 0,A_ (e+1)])):=by
 have hr:=ZY id hid;have hf:=K6 (id:=id) o_;rw[aD akT akp rfl,avC hid];have hl:=λX N=>akc b hb X N 10 0 a rfl ha
 have c0:((0:Nat):Int)=0:=rfl;simp only[c0]at hl;simp only[ov]at hr⊢;obtain⟨f1,f2,f3,-⟩:=hf;generalize cA id=es at *;generalize dP id=rs at *;generalize bO id=pl at *;simp(maxSteps:=300000) (disch:=omega)[↓ac,↓aa,hr,hl];refine kg (λ_ _=>rfl) (λm n hp=>?_) λ_=>rfl
 have hp2:2 ^ m<=2 ^ 9:=aw o_ hp.1;have e1:(m:Int)+1-1=m:=o_;have hs1:=UE (m:=m) o_;have hp1:=hp.1;have hpos:0<2 ^ m:=bU m;have c1:((1:Nat):Int)=1:=rfl;have c2:((2:Nat):Int)=2:=rfl;generalize hP:2 ^ m=P at *;have fin:∀(x:Nat) (n:Nat) (i1 p:Int),x<=100000->uL (xk [.tmp 6,.tmp 7,.tmp 8] ((Dn prog).code (EB) ⟨[(3,.ptr 0 0),(7,A_ n),(13,A_ x)],⟨[(0,.cells [A_ i1,A_ p,.d (.lst (cY es)),.d (.lst (cY rs))])],1⟩⟩)) =
   if es.length<=x then some (.tup [A_ 0,A_ 0,A_ 8]) else some (.tup [A_ ((nth es x:Nat):Int),A_ n,A_ 0]):=λx n i1 p hx=>by
  by_cases hr:es.length<=x
  .rw[ac hr];simp(maxSteps:=300000) (disch:=omega)[↓ac]
  .rw[aa hr];simp(maxSteps:=300000) (disch:=omega)[↓aa]
 have hpl:pl=0∨pl=1∨pl=2:=o_;obtain⟨T,ht⟩:∃T,T=EB:=⟨_,rfl⟩
 rw[<-ht]at fin;unfold EB at ht;rw[<-ht];rcases hpl with rfl|rfl|rfl
 all_goals
  simp(maxSteps:=300000) (disch:=omega)[↓ac,↓aa,gY,e1,-tJ,hs1];refine kg (λ_ _=>rfl) (λhi n hp=>?_) λ_=>rfl
  refine kg (λ_ _=>rfl) (λlo n hq=>?_) λ_=>rfl
  have h1:hi<P:=hP▸hp.1;have h2:lo<4:=be hq.1 k_;simp(maxSteps:=300000) (disch:=omega)[-tJ,aBk,aBw,aB6]
 .have e3:((P+hi-1+lo:Nat):Int)=P+hi-1+lo:=o_;rw[<-e3,fin _ n id 0 o_]
 .have e3:(((P+hi-1)*2+lo:Nat):Int)=(P+hi-1)*2+lo:=o_;rw[<-e3,fin _ n id 1 o_]
 .have e3:(((P+hi-1)*4+lo:Nat):Int)=(P+hi-1)*4+lo:=o_;rw[<-e3,fin _ n id 2 o_]
abbrev cu:=@List.singleton_append
def mD:∀id∈ids,1<=eI id∧eI id<=4∧1<=cK id∧cK id<=121∧-60<=dp id∧dp id<=0∧br id<=300:=e_
def ad8 (dim low pl:Int)(w:Nat)(hw:w<=1000)(hl:-1000<=low∧low<=1000):bh prog t9 [.agg [A_ dim,A_ low,A_ (low+w-1),A_ pl]]=some (A_ w):=by
 rw[aD YN XN rfl];have e:low+(w:Int)-1-low+1=w:=o_;simp(disch:=omega)[e]
def td (e w:Nat):(e:Int).tdiv w=((e / w:Nat):Int):=rfl
def tm (e w:Nat):(e:Int).tmod w=((e % w:Nat):Int):=rfl
def ayk {j:Nat}{x:Int}{suf:G_}:(List.replicate (j+1) (0:Int)++suf).set j x=List.replicate j 0++x::suf:=by
 rw[List.replicate_succ',aA,oq _ _ s_];simp
def ac7 (low:Int)(w pl dim:Nat)(hw:1<=w∧w<=1000)(hl:-1000<=low∧low<=1000):∀(j e:Nat) (suf:G_),j+suf.length=dim->dim<=10->e<=100000->
  (Dn prog).code (.loop nh) ⟨[(1,A_ e),(2,.ptr 0 0),(5,.sl 1 0 dim),(6,A_ (j-1))],⟨[(0,.cells [A_ dim,A_ low,A_ (low+w-1),A_ pl]),(1,.arr 1 (aH (List.replicate j 0++suf)))],2⟩⟩ =
   some (.exit 0,⟨[(5,.sl 1 0 dim)],⟨[(1,.arr 1 (aH (mz low w j e++suf)))],2⟩⟩):=by
 intro j
 induction j with
 |zero =>
  intro e suf h1 h2 h3;rw[ah Ci];simp(disch:=omega)[↓aa,mz]
 |succ j ih =>
  intro e suf h1 h2 h3;have hm:e % w<w:=ef _ o_;have hd:e / w<=e:=lQ _ _;have h:=ih (e / w) ((((e % w:Nat):Int)+low)::suf) g_ h2 o_;rw[mz,aA,cu,<-h,<-ayk,ah Ci];have hk:=ad8 dim low pl w o_ hl;have e1:((j+1:Nat):Int)-1=j:=o_;have hg:(aH (List.replicate (j+1) 0++suf))[j]?=some [.int .i64 (nth (List.replicate (j+1) 0++suf) j)]:=Km g_;simp only[e1];have td:=td e w;have tm:=tm e w;generalize hL:List.replicate (j+1) (0:Int)++suf=L at *;generalize e / w=q at *;generalize e % w=r at *;clear ih h;simp(maxSteps:=300000) (disch:=omega)[↓ac,hk,td,tm,hg]
def Xk (id e:Nat)(h:jP id)(he:e<=100000):bh prog Gy [V6 id,A_ e]=some (.own true 1 (aH (nj id e))):=by
 obtain⟨k1,k2,k3,k4,k5,k6,k7⟩:=mD id (f9 h);have hl:=ac7 (dp id) (cK id) (bO id) (eI id) o_ o_ (eI id) e [] s_ o_ he;rw[aD T9 SY rfl];simp only[V6,nj,bj]at hl⊢;have hr:aH (List.replicate (eI id) 0)=List.replicate (eI id) [D.int .i64 0]:=by simp[aH]
 rw[hr]at hl;have hv:(mz (dp id) (cK id) (eI id) e).length=eI id:=by
  have:∀(d e:Nat),(mz (dp id) (cK id) d e).length=d:=by
   intro d
   induction d with
   |zero=>intro e;rfl
   |succ d ih=>intro e;simp[mz,ih]
  exact this _ _
 generalize dp id=low at *;generalize cK id=w at *;generalize eI id=dim at *;generalize bO id=pl at *;generalize mz low w dim e=V at *;simp(maxSteps:=300000) (disch:=omega)[hl,Fs];exact⟨o_,by rw[ck o_]⟩
def WQ (id e:Nat)(h:jP id)(he:e<br id):bh prog Rh [A_ id,A_ e]=some (.tup [.own true 1 (aH (nj id e)),A_ 0]):=by
 obtain⟨k1,k2,k3,k4,k5,k6,k7⟩:=mD id (f9 h);have h1:=Pr id (f9 h);have h2:=Iy id (f9 h);have h3:=Xk id e h o_;rw[aD af0 afu rfl];simp only[V6]at h1 h2 h3;generalize dp id=low at *;generalize cK id=w at *;generalize eI id=dim at *;generalize bO id=pl at *;generalize br id=mn at *;generalize nj id e=V at *;simp(maxSteps:=300000) (disch:=omega)[h1,h2,h3,↓aa]
def rN (b:C_)(st:RS)(s:Int):RS:=if st.e=0 then (if eO b st.a s=0 then ⟨nO b st.a s,0⟩ else ⟨st.a,eO b st.a s⟩) else st
theorem Un {b:C_}{st:RS}{s:Int}(hb:b.length<=1000000000)(h:st.fit):(rN b st s).fit:=by
 unfold rN;have:=ap6 (b:=b) (a:=st.a) (s:=s);have h2:i64 st.a:=h;split
 .split
  .show i64 _;simp only[];omega
  .exact h
 .exact h
abbrev rdC (b:C_)(st:RS):Obj:=.cells [.d (.lst (ai b)),A_ (ra st),A_ (re st)]
abbrev h4 (b:C_)(X0 X1 X3:Obj)(st:RS):am:=[(0,X0),(1,X1),(2,rdC b st),(3,X3)]
def QG (b:C_)(hb:b.length<=1000000000)(X0 X1 X3:Obj)(N:Nat)(st:RS)(s:Int)(hf:st.fit):(Dn prog).call zO [.ptr 2 0,A_ s] ⟨h4 b X0 X1 X3 st,N⟩ =
  some (A_ (sV b st s),⟨h4 b X0 X1 X3 (rN b st s),N⟩):=by
 rw[bb Vx VR rfl];obtain⟨a,e⟩:=st;have hf:i64 a:=hf;by_cases he:e=0
 .subst he;by_cases h2:eO b a s=0
  .simp(config := { maxSteps:=1000000 }) (disch:=omega)[Lj,ra,re,sV,rN,h2]
  .simp(config := { maxSteps:=1000000 }) (disch:=omega)[Lj,ra,re,sV,rN,h2]
 .simp(config := { maxSteps:=1000000 }) (disch:=omega)[ra,re,sV,rN,he]
def jt (b:C_):Nat->Nat->RS->Nat×RS
 |0,m,st=>(m,st)
 |f+1,m,st=>if sV b st 1=1∧re (rN b st 1)=0 then jt b f (m+1) (if 8<m+1 then ⟨ra (rN b st 1),8⟩ else rN b st 1) else (m,rN b st 1)
def VO (b:C_)(hb:b.length<=1000000000)(X0 X1 X3:Obj)(N:Nat):∀(f m:Nat) (st:RS),f+m=10->m<=9->st.fit->(m=9->st.e≠0)->
  (Dn prog).code (.loop kA) ⟨[(0,.ptr 2 0),(3,A_ m)],⟨h4 b X0 X1 X3 st,N⟩⟩ =
  some (.exit 0,⟨[(0,.ptr 2 0),(3,A_ ((jt b f m st).1))],⟨h4 b X0 X1 X3 (jt b f m st).2,N⟩⟩):=by
 intro f
 induction f with
 |zero=>intro m st h1 h0 h2 h3;omega
 |succ f ih =>
  intro m st h1 h0 h2 h3;rw[ah I4,jt];have hg:=QG b hb X0 X1 X3 N st 1 h2;have hf:=Un (s:=1) hb h2;simp only[h4]at hg;by_cases hc:sV b st 1=1∧re (rN b st 1)=0
  .rw[ac hc];have he:st.e=0:=by
    have:=hc.1;unfold sV at this;by_cases h:st.e=0
    .exact h
    .rw[aa h]at this;omega
   have hm:m≠9:=λh=>h3 h he
   by_cases h8:8<m+1
   .rw[ac h8];have ih:=ih (m+1) ⟨ra (rN b st 1),8⟩ o_ o_ hf (λ_=>by simp);simp only[h4,show ra (⟨ra (rN b st 1),8⟩:RS)=ra (rN b st 1) from rfl,show re (⟨ra (rN b st 1),8⟩:RS)=8 from rfl]at ih⊢;rw[<-ih];simp(maxSteps:=300000) (disch:=omega)[hg,hc.1,hc.2,↓ac,↓aa];rfl
   .rw[aa h8];have ih:=ih (m+1) (rN b st 1) o_ o_ hf (λh=>by omega);simp only[h4]at ih⊢;rw[<-ih];simp(maxSteps:=300000) (disch:=omega)[hg,hc.1,hc.2,↓ac,↓aa]
  .rw[aa hc];by_cases h1:sV b st 1=1
   .have h2:¬re (rN b st 1)=0:=λh=>hc ⟨h1,h⟩
    simp(maxSteps:=300000) (disch:=omega)[hg,h1,h2,↓ac,↓aa]
   .simp(maxSteps:=300000) (disch:=omega)[hg,h1,↓ac,↓aa]
def YI {b:C_}:∀{f m:Nat}{st:RS},(jt b f m st).1<=m+f
 |0,m,st=>by simp[jt]
 |f+1,m,st=>by
  rw[jt];split
  .have:=YI (b:=b) (f:=f) (m:=m+1) (st:=if 8<m+1 then ⟨ra (rN b st 1),8⟩ else rN b st 1);omega
  .simp only[];omega
def TK {b:C_}(hb:b.length<=1000000000):∀{f m:Nat}{st:RS},st.fit->(jt b f m st).2.fit
 |0,m,st,h=>by simpa [jt] using h
 |f+1,m,st,h=>by
  have hr:=Un (s:=1) hb h;rw[jt];split
  .refine TK hb ?_;split
   .exact hr
   .exact hr
  .exact hr
def Ui (b:C_)(st:RS):Nat:=2 ^ ((jt b 10 0 st).1+4)+sV b (jt b 10 0 st).2 (((jt b 10 0 st).1+4:Nat):Int)
def HW (b:C_)(st:RS):RS:=rN b (jt b 10 0 st).2 (((jt b 10 0 st).1+4:Nat):Int)
def avN {b:C_}{st:RS}(hb:b.length<=1000000000)(h:st.fit):(HW b st).fit:=Un hb (TK hb h)
def anh {b:C_}{st:RS}:Ui b st<32768:=by
 unfold Ui;have h1:=YI (b:=b) (f:=10) (m:=0) (st:=st);have h2:=w6 (b:=b) (st:=(jt b 10 0 st).2) (s:=(((jt b 10 0 st).1+4:Nat):Int));rw[au]at h2;have h3:2 ^ ((jt b 10 0 st).1+4)<=2 ^ 14:=aw o_ o_;omega
def ach (b:C_)(hb:b.length<=1000000000)(X0 X1 X3:Obj)(N:Nat)(st:RS)(hf:st.fit):(Dn prog).call BU [.ptr 2 0] ⟨h4 b X0 X1 X3 st,N⟩ =
  some (A_ (Ui b st),⟨h4 b X0 X1 X3 (HW b st),N⟩):=by
 rw[bb NE NP rfl];have hl:=VO b hb X0 X1 X3 N 10 0 st rfl o_ hf o_;have hv:=anh (b:=b) (st:=st);have h1:=YI (b:=b) (f:=10) (m:=0) (st:=st);have hf2:=TK (f:=10) (m:=0) hb hf;unfold Ui HW at *;generalize jt b 10 0 st=p at *;obtain⟨m,s2⟩:=p;simp only at hl hv h1 hf2⊢;have hg:=QG b hb X0 X1 X3 N s2 ((m+4:Nat):Int) hf2;have c0:((0:Nat):Int)=0:=rfl;have hs:=UE (m:=m+4) o_;have c1:((m+4:Nat):Int)=(m:Int)+4:=o_;simp only[c0,h4,c1]at hl hg hs;have hpos:0<2 ^ (m+4):=bU _;have c2:((2 ^ (m+4)+sV b s2 ((m:Int)+4):Nat):Int)=((2 ^ (m+4):Nat):Int)+sV b s2 ((m:Int)+4):=o_;simp only[h4,c1,c2];rw[c1]at hv;generalize 2 ^ (m+4)=P at *;simp(maxSteps:=300000) (disch:=omega)[hl,hg,hs,-tJ]
def BP (b:C_):G_->RS->C_
 |[],_=>[]
 |v::r,st=>if v=0 then 0::BP b r st else sV b st 1::BP b r (rN b st 1)
def wX (b:C_):G_->RS->RS
 |[],st=>st
 |v::r,st=>if v=0 then wX b r st else wX b r (rN b st 1)
def sg (s:Nat)(v:Int):Int:=if s=1 then -v else v
def Jy (b:C_)(id:Nat):G_->C_->RS->G_
 |v::r,s::ss,st=>if id=11∧v=16 then sg s (Ui b st)::Jy b id r ss (HW b st) else sg s v::Jy b id r ss st
 |_,_,_=>[]
def zT (b:C_)(id:Nat):G_->C_->RS->RS
 |v::r,_::ss,st=>if id=11∧v=16 then zT b id r ss (HW b st) else zT b id r ss st
 |_,_,st=>st
def U6 {α:Type}{a r:List α}{x y:α}:(a++x::r).set a.length y=a++y::r:=by
 rw[oq _ _ o_];simp
def atA {a r:C_}{x:Nat}:nth (a++x::r) a.length=x:=by simp[nth]
def XT {a r:G_}{x:Int}:nth (a++x::r) a.length=x:=by simp[nth]
def alU (b:C_)(hb:b.length<=1000000000)(X0:Obj)(N:Nat)(vals:G_)(hl:vals.length<=100):∀(vs:G_) (pre:G_) (sgn:C_) (st:RS),vals=pre++vs->sgn.length=pre.length->st.fit->
  (Dn prog).code (.loop vP) ⟨[(5,.ptr 0 0),(6,.sl 1 0 vals.length),(10,.ptr 2 0),(11,.sl 3 0 vals.length),(51,.sl 1 0 vals.length),(52,A_ vals.length),(53,A_ pre.length)],⟨h4 b X0 (.arr 1 (aH vals)) (.arr 1 (cY (sgn++List.replicate vs.length 0))) st,N⟩⟩ =
  some (.exit 0,⟨[(5,.ptr 0 0),(6,.sl 1 0 vals.length),(10,.ptr 2 0),(11,.sl 3 0 vals.length)],⟨h4 b X0 (.arr 1 (aH vals)) (.arr 1 (cY (sgn++BP b vs st))) (wX b vs st),N⟩⟩):=by
 intro vs
 induction vs with
 |nil =>
  intro pre sgn st h1 h2 h3;rw[bj]at h1;subst h1;rw[ah Q8];simp(maxSteps:=300000) (disch:=omega)[↓aa,BP,wX]
 |cons v vs ih =>
  intro pre sgn st h1 h2 h3;have hlen:vals.length=pre.length+(vs.length+1):=by rw[h1];simp
  have hgv:nth vals pre.length=v:=by rw[h1];exact XT
  have hgi:(aH vals)[pre.length]?=some [.int .i64 v]:=by rw[Km o_,hgv]
  have hg:=λX1 X3=>QG b hb X0 X1 X3 N st 1 h3
  rw[ah Q8,aq,cL];have hsl:(cY (sgn++0::List.replicate vs.length 0))[pre.length]?=some [.int .i64 0]:=by
   rw[EG g_,<-h2,atA];rfl
  simp only[h4]at hg⊢;by_cases hv:v=0
  .subst hv;have ih:=ih (pre++[0]) (sgn++[0]) st (by rw[h1];simp) (by simp[h2]) h3;simp only[h4]at ih;simp only[BP,wX,bi];simp(maxSteps:=300000) (disch:=omega)[↓ac,↓aa,hgi];simp at ih;exact ih
  .have ih:=ih (pre++[v]) (sgn++[sV b st 1]) (rN b st 1) (by rw[h1];simp) (by simp[h2]) (Un hb h3);simp only[h4]at ih;simp only[BP,wX,aa hv];simp(maxSteps:=300000) (disch:=omega)[↓ac,↓aa,hgi,hv,hg,hsl];simp at ih;exact ih
def alX (b:C_)(hb:b.length<=1000000000)(id:Nat)(pl:Int)(x2 x3:AV)(N len:Nat)(hlen:len<=100)(sgn:C_)(hsg:sgn.length=len):∀(vs:G_) (done:G_) (st:RS),done.length+vs.length=len->(∀v∈vs,0<=v∧v<=130)->st.fit->
  (Dn prog).code (.loop u5) ⟨[(5,.ptr 0 0),(6,.sl 1 0 len),(10,.ptr 2 0),(11,.sl 3 0 len),(66,.sl 1 0 len),(67,A_ len),(68,A_ done.length)],⟨h4 b (.cells [A_ id,A_ pl,x2,x3]) (.arr 1 (aH (done++vs))) (.arr 1 (cY sgn)) st,N⟩⟩ =
  some (.exit 2,⟨[(6,.sl 1 0 len),(10,.ptr 2 0)],⟨[(1,.arr 1 (aH (done++Jy b id vs (sgn.drop done.length) st))),(2,rdC b (zT b id vs (sgn.drop done.length) st)),(3,.arr 1 (cY sgn))],N⟩⟩):=by
 intro vs
 induction vs with
 |nil =>
  intro done st h1 h2 h3;rw[ah QR];have:done.length=len:=by simpa using h1
  simp(maxSteps:=300000) (disch:=omega)[↓aa,Jy,zT]
 |cons v vs ih =>
  intro done st h1 h2 h3;have hv:=h2 v s_;have h1:done.length+(vs.length+1)=len:=by simpa using h1
  have hgi:(aH (done++v::vs))[done.length]?=some [.int .i64 v]:=by rw[Km s_,XT]
  have hgs:(cY sgn)[done.length]?=some [.int .i64 (nth sgn done.length:Nat)]:=EG o_;have hset:∀x:Int,(aH (done++v::vs)).set done.length [.int .i64 x]=aH (done++x::vs):=λx=>by rw[ahU,U6]
  have hset2:∀y x:Int,(aH (done++y::vs)).set done.length [.int .i64 x]=aH (done++x::vs):=λy x=>by rw[ahU,U6]
  have hgi2:∀x:Int,(aH (done++x::vs))[done.length]?=some [.int .i64 x]:=λx=>by rw[Km s_,XT]
  have hE:=λX1 X3=>ach b hb (.cells [A_ id,A_ pl,x2,x3]) X1 X3 N st h3
  have hel:=anh (b:=b) (st:=st);rw[ah QR,q9 o_,Jy,zT];simp only[h4]at hE⊢;by_cases hid:id=11∧v=16
  .obtain⟨rfl,rfl⟩:=hid;rw[ac ⟨rfl,rfl⟩,ac ⟨rfl,rfl⟩];have ih:=ih (done++[sg (nth sgn done.length) (Ui b st)]) (HW b st) g_ (λx hx=>h2 x (by simp[hx])) (avN hb h3);simp only[h4]at ih;simp at ih;have c11:((11:Nat):Int)=11:=rfl;simp only[c11]at hE;by_cases hs:nth sgn done.length=1
   .simp only[sg,ac hs]at ih⊢;simp(maxSteps:=300000) (disch:=omega)[↓ac,↓aa,hgi,hE,hset,hgs,hgi2,hset2,hs];exact ih
   .simp only[sg,aa hs]at ih⊢;simp(maxSteps:=300000) (disch:=omega)[↓ac,↓aa,hgi,hE,hset,hgs,hgi2,hset2,hs];exact ih
  .rw[aa hid,aa hid];have ih:=ih (done++[sg (nth sgn done.length) v]) st g_ (λx hx=>h2 x (by simp[hx])) h3;simp only[h4]at ih;simp at ih;by_cases hi:id=11
   .subst hi;have c11:((11:Nat):Int)=11:=rfl;have hv2:v≠16:=λh=>hid ⟨rfl,h⟩
    by_cases hs:nth sgn done.length=1
    .simp only[sg,ac hs]at ih⊢;simp(maxSteps:=300000) (disch:=omega)[↓ac,↓aa,hgi,hset,hgs,hgi2,hset2,hs,hv2];exact ih
    .simp only[sg,aa hs]at ih⊢;simp(maxSteps:=300000) (disch:=omega)[↓ac,↓aa,hgi,hset,hgs,hgi2,hset2,hs,hv2];exact ih
   .by_cases hs:nth sgn done.length=1
    .simp only[sg,ac hs]at ih⊢;simp(maxSteps:=300000) (disch:=omega)[↓ac,↓aa,hgi,hset,hgs,hgi2,hset2,hs];exact ih
    .simp only[sg,aa hs]at ih⊢;simp(maxSteps:=300000) (disch:=omega)[↓ac,↓aa,hgi,hset,hgs,hgi2,hset2,hs];exact ih
def kG (b:C_):G_->Nat->R C_
 |[],a=>.ok [] a
 |v::r,a=>if v=0 then (kG b r a).bind λl n=>.ok (0::l) n else (bf b a 1).bind λs n=>(kG b r n).bind λl n=>.ok (s::l) n
def yx (b:C_):Nat->Nat->Nat->R Nat
 |0,_,_=>.er 7
 |f+1,m,a=>(bf b a 1).bind λv n=>if v=1 then yx b f (m+1) n else .ok m n
def Qt (b:C_)(a:Nat):R Nat:=(yx b 9 0 a).bind λm n=>(bf b n ((m+4:Nat):Int)).bind λx n=>.ok (2 ^ (m+4)+x) n
def nb (b:C_)(id:Nat):G_->C_->Nat->R G_
 |v::r,s::ss,a=>if id=11∧v=16 then (Qt b a).bind λx n=>(nb b id r ss n).bind λl n=>.ok (sg s x::l) n else (nb b id r ss a).bind λl n=>.ok (sg s v::l) n
 |_,_,a=>.ok [] a
def F4 (id:Nat)(b:C_)(a:Int):R G_ :=
 (AN id b a).bind λe n=>if lc id then .ok (nj id e) n else (kG b (nj id e) n).bind λss n=>nb b id (nj id e) ss n
def Uy {b:C_}{a s:Int}{v n:Nat}(h:bf b a s=.ok v n):sV b ⟨a,0⟩ s=v∧rN b ⟨a,0⟩ s=⟨n,0⟩:=by
 constructor<;>simp[sV,rN,vO,nO,eO,h]
def agE {b:C_}{a s:Int}{e:Nat}(h:bf b a s=.er e):sV b ⟨a,0⟩ s=0∧rN b ⟨a,0⟩ s=⟨a,e+1⟩:=by
 constructor<;>simp[sV,rN,vO,nO,eO,h]
def aiX {b:C_}{a s:Int}{e:Nat}:sV b ⟨a,e+1⟩ s=0∧rN b ⟨a,e+1⟩ s=⟨a,e+1⟩:=by
 constructor<;>simp[sV,rN]
def amL {b:C_}{a:Int}{e:Nat}{f m:Nat}:jt b f m ⟨a,e+1⟩=(m,⟨a,e+1⟩):=by
 cases f with
 |zero=>rfl
 |succ f=>rw[jt,aiX.1,aiX.2,aa s_]
def aBv {b:C_}{a:Int}{e:Nat}:HW b ⟨a,e+1⟩=⟨a,e+1⟩:=by
 rw[HW,amL,aiX.2]
def ap9 {b:C_}{a:Int}{e:Nat}:∀{vs:G_},wX b vs ⟨a,e+1⟩=⟨a,e+1⟩
 |[]=>rfl
 |v::r=>by
  rw[wX];split
  .exact ap9
  .rw[aiX.2];exact ap9
theorem agA {b:C_}{id:Nat}{a:Int}{e:Nat}:∀{vs:G_}{ss:C_},zT b id vs ss ⟨a,e+1⟩=⟨a,e+1⟩
 |[],_=>by simp[zT]
 |_::_,[]=>by simp[zT]
 |v::r,s::ss=>by
  rw[zT];split
  .rw[aBv];exact agA
  .exact agA
def avG {b:C_}:∀{vs:G_}{a:Nat},match kG b vs a with
  |.ok l n=>BP b vs ⟨a,0⟩=l∧wX b vs ⟨a,0⟩=⟨n,0⟩
  |.er e=>(wX b vs ⟨a,0⟩).e=e+1
 |[],a=>⟨rfl,rfl⟩
 |v::r,a=>by
  simp only[kG,BP,wX];by_cases hv:v=0
  .simp only[ac hv];have ih:=avG (b:=b) (vs:=r) (a:=a)
   cases h:kG b r a with
   |ok l n=>rw[h]at ih;exact⟨by rw[ih.1],ih.2⟩
   |er e=>rw[h]at ih;exact ih
  .simp only[aa hv]
   cases h1:bf b a 1 with
   |ok s n =>
    rw[(Uy h1).1,(Uy h1).2,az];have ih:=avG (b:=b) (vs:=r) (a:=n)
    cases h:kG b r n with
    |ok l n=>rw[h]at ih;exact⟨by rw[ih.1],ih.2⟩
    |er e=>rw[h]at ih;exact ih
   |er e=>rw[(agE h1).2,cB];simp only[ap9]
def asz {b:C_}:∀{f m a:Nat},f+1+m=9->match yx b (f+1) m a with
  |.ok k n=>jt b (f+2) m ⟨a,0⟩=(k,⟨n,0⟩)
  |.er e=>(jt b (f+2) m ⟨a,0⟩).2.e=e+1
 |f,m,a,hm=>by
  rw[yx,jt]
  cases h1:bf b a 1 with
  |er e=>rw[(agE h1).1,(agE h1).2,cB,aa s_]
  |ok v n =>
   rw[(Uy h1).1,(Uy h1).2,az];by_cases hv:v=1
   .subst hv;rw[ac rfl,ac ⟨rfl,rfl⟩]
    cases f with
    |zero =>
     rw[ac o_,yx];show(jt b 1 (m+1) ⟨ra ⟨n,0⟩,7+1⟩).2.e=7+1;rw[amL]
    |succ f =>
     rw[aa o_];exact asz (by omega)
   .rw[aa hv,aa (λh=>hv h.1)]
def aCJ {b:C_}{a:Nat}:match Qt b a with
  |.ok v n=>Ui b ⟨a,0⟩=v∧HW b ⟨a,0⟩=⟨n,0⟩
  |.er e=>(HW b ⟨a,0⟩).e=e+1:=by
 rw[Qt,Ui,HW];have h:=asz (b:=b) (f:=8) (m:=0) (a:=a) rfl
 cases h1:yx b 9 0 a with
 |er e =>
  rw[h1]at h;generalize jt b 10 0 ⟨a,0⟩=p at *;obtain⟨m,x,y⟩:=p;simp only at h;subst h;simp only[aiX,cB]
 |ok k n =>
  rw[h1]at h;rw[az,h]
  cases h2:bf b n ((k+4:Nat):Int) with
  |er e=>simp only[(agE h2).2,cB]
  |ok v m=>simp only[(Uy h2).1,(Uy h2).2,az];exact⟨trivial,trivial⟩
def atB {b:C_}{id:Nat}:∀{vs:G_}{ss:C_}{a:Nat},match nb b id vs ss a with
  |.ok l n=>Jy b id vs ss ⟨a,0⟩=l∧zT b id vs ss ⟨a,0⟩=⟨n,0⟩
  |.er e=>(zT b id vs ss ⟨a,0⟩).e=e+1
 |[],ss,a=>by simp[nb,Jy,zT]
 |v::r,[],a=>by simp[nb,Jy,zT]
 |v::r,s::ss,a=>by
  rw[nb,Jy,zT];by_cases hc:id=11∧v=16
  .simp only[ac hc];have h:=aCJ (b:=b) (a:=a)
   cases h1:Qt b a with
   |er e =>
    rw[h1]at h;generalize HW b ⟨a,0⟩=p at *;obtain⟨x,y⟩:=p;simp only at h;subst h;simp only[agA,cB]
   |ok x n =>
    rw[h1]at h;rw[h.1,h.2,az];have ih:=atB (b:=b) (id:=id) (vs:=r) (ss:=ss) (a:=n)
    cases h2:nb b id r ss n with
    |ok l n=>rw[h2]at ih;exact⟨by rw[ih.1],ih.2⟩
    |er e=>rw[h2]at ih;exact ih
  .simp only[aa hc];have ih:=atB (b:=b) (id:=id) (vs:=r) (ss:=ss) (a:=a)
   cases h2:nb b id r ss a with
   |ok l n=>rw[h2]at ih;exact⟨by rw[ih.1],ih.2⟩
   |er e=>rw[h2]at ih;exact ih
abbrev Ko:VC:=(.seq H3 (.seq FC (.seq (.seq E3 (.block 0 (.seq (.loop vP) (K [51,52,53])))) (.seq (.seq EE (.block 2 (.seq (.loop u5) (.seq (K [11,66,67,68]) (F 5))))) (.seq (.seq E7 (.cond (.m 103) (.seq (K [6]) (.seq yo .ret)) .skip)) (.seq yT .ret))))))
def ad6 {low:Int}{w:Nat}:∀{d e:Nat},(mz low w d e).length=d
 |0,_=>rfl
 |d+1,e=>by simp[mz,ad6]
def Ke {low:Int}{w:Nat}(hw:1<=w):∀{d e:Nat},∀x∈mz low w d e,low<=x∧x<low+w
 |0,_,x,h=>by simp[mz]at h
 |d+1,e,x,h=>by
  rw[mz,ba]at h;have:=ef e (show w > 0 by omega);rcases h with h|h
  .exact Ke hw x h
  grind
theorem GW {id e:Nat}:(nj id e).length=eI id:=ad6
def ahO:∀id∈ids,lc id=false->dp id=0:=e_
def aqb (b:C_)(hb:b.length<=1000000000)(id:Nat)(pl:Int)(x2 x3:AV)(vals:G_)(hl:1<=vals.length∧vals.length<=100)(hv:∀v∈vals,0<=v∧v<=130)(n:Nat)(hn:n<=b.length)(hx2:bn x2=true) :
  uL (xk [.tmp 6,.tmp 7,.tmp 8] ((Dn prog).code Ko ⟨[(0,.d (.lst (ai b))),(5,.ptr 0 0),(6,.sl 1 0 vals.length),(7,A_ n)],⟨[(0,.cells [A_ id,A_ pl,x2,x3]),(1,.arr 1 (aH vals))],2⟩⟩)) =
  if re (zT b id vals (BP b vals ⟨n,0⟩) (wX b vals ⟨n,0⟩))=0 then some (.tup [.own true 1 (aH (Jy b id vals (BP b vals ⟨n,0⟩) (wX b vals ⟨n,0⟩))),A_ ((ra (zT b id vals (BP b vals ⟨n,0⟩) (wX b vals ⟨n,0⟩)))),A_ 0])
  else some (.tup [.nl,A_ 0,A_ ((re (zT b id vals (BP b vals ⟨n,0⟩) (wX b vals ⟨n,0⟩))))]):=by
 have hf:RS.fit ⟨n,0⟩:=by show i64 _;grind
 have sgl:∀(vs:G_) (st:RS),(BP b vs st).length=vs.length:=by
  intro vs
  induction vs<;>grind [BP]
 have sgf:∀(vs:G_) (st:RS),st.fit->(wX b vs st).fit:=by
  intro vs
  induction vs<;>grind [wX,Un]
 have l0:=λX0=>alU b hb X0 4 vals hl.2 vals [] [] ⟨n,0⟩ s_ rfl hf
 have l1:=alX b hb id pl x2 x3 4 vals.length hl.2 (BP b vals ⟨n,0⟩) (sgl _ _) vals [] (wX b vals ⟨n,0⟩) s_ hv (sgf _ _ hf);have vll:(Jy b id vals (BP b vals ⟨n,0⟩) (wX b vals ⟨n,0⟩)).length=vals.length:=by
  have:∀(vs:G_) (ss:C_) (st:RS),ss.length=vs.length->(Jy b id vs ss st).length=vs.length:=by
   intro vs
   induction vs with
   |nil=>grind [Jy]
   |cons v r ih =>
    intro ss st h
    cases ss<;>grind [Jy]
  simp_all
 have hz:cY (List.replicate vals.length 0)=List.replicate vals.length [.int .i64 0]:=by simp[cY]
 have c0:((0:Nat):Int)=0:=rfl;simp only[aK,bg,mW,h4,rdC,hz,c0,aDp,aDE]at l0 l1;simp(disch:=omega)[l0,l1,Fs]
 grind
def auF {b:C_}{id:Nat}{vals:G_}{n:Nat}{γ:Type}{F:G_->Int->γ}{G:Nat->γ} :
  (if re (zT b id vals (BP b vals ⟨n,0⟩) (wX b vals ⟨n,0⟩))=0 then F (Jy b id vals (BP b vals ⟨n,0⟩) (wX b vals ⟨n,0⟩)) (ra (zT b id vals (BP b vals ⟨n,0⟩) (wX b vals ⟨n,0⟩)))
  else G (re (zT b id vals (BP b vals ⟨n,0⟩) (wX b vals ⟨n,0⟩))))=match (kG b vals n).bind λss n=>nb b id vals ss n with
   |.ok l n=>F l n
   |.er e=>G (e+1):=by
 have h1:=avG (b:=b) (vs:=vals) (a:=n)
 cases h2:kG b vals n with
 |er e =>
  generalize wX b vals ⟨n,0⟩=p at *;obtain⟨x,y⟩:=p
  grind [agA,cB,re]
 |ok ss m =>
  rw[h2]at h1;rw[h1.1,h1.2,az];have h3:=atB (b:=b) (id:=id) (vs:=vals) (ss:=ss) (a:=m)
  cases h4:nb b id vals ss m with
  |er e =>
   rw[h4]at h3;have h5:re (zT b id vals ss ⟨m,0⟩)=e+1:=h3
   simp_all
  |ok l k =>
   rw[h4]at h3;rw[h3.1,h3.2];rfl
abbrev pH (b:C_)(id:Nat)(l:G_)(n:Nat):Prop:=l.length=eI id∧n<=b.length∧∀x∈l,-40000<=x∧x<=40000
def PL {b:C_}:∀{vs:G_}{a:Nat}{l:C_}{n:Nat},a<=b.length->kG b vs a=.ok l n->l.length=vs.length∧n<=b.length
 |[],a,l,n,ha,h=>by
  grind [kG]
 |v::r,a,l,n,ha,h=>by
  simp only[kG]at h;by_cases hv:v=0
  .cases h1:kG b r a with
   |er e=>simp_all
   |ok l2 n2 =>
    have ih:=PL ha h1
    grind [az]
  .cases h0:bf b a 1 with
   |er e=>simp_all
   |ok s m =>
    cases h1:kG b r m with
    |er e=>simp_all
    |ok l2 n2 =>
     have ih:=PL (eD h0).2 h1
     grind [az]
def anO {b:C_}:∀{f m a k n:Nat},f+m=9->yx b f m a=.ok k n->k<=8∧n<=b.length
 |0,_,_,_,_,_,h=>absurd h (by simp[yx])
 |f+1,m,a,k,n,hf,h=>by
  rw[yx]at h
  cases h1:bf b a 1 with
  |er e=>simp_all
  |ok v a1 =>
   rw[h1,az]at h;by_cases hv:v=1
   .rw[ac hv]at h;exact anO o_ h
   .rw[aa hv]at h;injection h with e1 e2
    subst e1 e2;exact⟨o_,(eD h1).2⟩
def aAI {b:C_}{a v n:Nat}(h:Qt b a=.ok v n):v<=30000∧n<=b.length:=by
 rw[Qt]at h
 cases h1:yx b 9 0 a with
 |er e=>simp_all
 |ok m n1 =>
  have hp:=anO rfl h1;rw[h1,az]at h
  cases h2:bf b n1 ((m+4:Nat):Int) with
  |er e=>simp_all
  |ok x n2 =>
   have hq:=eD h2;rw[h2,az]at h;have h3:2 ^ (m+4)<=2 ^ 12:=aw o_ (by omega)
   grind
theorem UR {b:C_}{id:Nat}:∀{vs:G_}{ss:C_}{a:Nat}{l:G_}{n:Nat},a<=b.length->ss.length=vs.length->(∀v∈vs,-100<=v∧v<=130)->nb b id vs ss a=.ok l n->l.length=vs.length∧n<=b.length∧∀x∈l,-40000<=x∧x<=40000
 |[],ss,a,l,n,ha,hs,hv,h=>by
  grind [nb]
 |v::r,[],a,l,n,ha,hs,hv,h=>by simp at hs
 |v::r,s::ss,a,l,n,ha,hs,hv,h=>by
  have hs2:ss.length=r.length:=u_;have hv2:∀v∈r,-100<=v∧v<=130:=λx hx=>hv x (by simp[hx])
  have hv1:=hv v s_;have hsg:∀y:Int,-40000<=y->y<=40000->-40000<=sg s y∧sg s y<=40000:=λy h1 h2=>by grind [sg]
  rw[nb]at h;by_cases hc:id=11∧v=16
  .rw[ac hc]at h
   cases h1:Qt b a with
   |er e=>simp_all
   |ok x n1 =>
    have hp:=aAI h1;rw[h1,az]at h
    cases h2:nb b id r ss n1 with
    |er e=>simp_all
    |ok l2 n2 =>
     obtain⟨i1,i2,i3⟩:=UR hp.2 hs2 hv2 h2
     grind [az]
  .rw[aa hc]at h
   cases h2:nb b id r ss a with
   |er e=>simp_all
   |ok l2 n2 =>
    obtain⟨i1,i2,i3⟩:=UR ha hs2 hv2 h2
    grind [az]
def Vn {id:Nat}{b:C_}{a:Int}{e n:Nat}(hid:jP id)(h:AN id b a=.ok e n):e<br id∧n<=b.length:=by
 rw[AN]at h
 cases z1:mI b 10 0 a with
 |er e=>simp_all
 |ok m m1 =>
  rw[z1,az]at h
  cases z2:bf b m1 m with
  |er e=>simp_all
  |ok hi m2 =>
   rw[z2,az]at h
   cases z3:bf b m2 (bO id) with
   |er e=>simp_all
   |ok lo m3 =>
    rw[z3,az]at h;by_cases hc:(cA id).length<=(2 ^ m+hi-1)*2 ^ bO id+lo
    .simp_all
    .rw[aa hc]at h;injection h with e1 e2
     subst e1 e2;exact⟨(K6 o_).2.2.2 _ (jy o_),(eD z3).2⟩
def axW {id:Nat}{b:C_}{a:Int}{l:G_}{n:Nat}(hid:jP id)(h:F4 id b a=.ok l n):pH b id l n:=by
 obtain⟨k1,k2,k3,k4,k5,k6,k7⟩:=mD id (f9 hid);rw[F4]at h
 cases h1:AN id b a with
 |er e=>simp_all
 |ok e n1 =>
  have hp:=(Vn hid h1).2;have hv:∀v∈nj id e,-100<=v∧v<=200:=λv hv=>by
   have:=Ke (low:=dp id) (w:=cK id) k3 (d:=eI id) (e:=e) v hv;omega
  rw[h1,az]at h;by_cases hs:lc id=true
  .grind [GW]
  .rw[aa hs]at h
   cases h2:kG b (nj id e) n1 with
   |er e=>simp_all
   |ok ss n2 =>
    have hq:=PL hp h2;rw[h2,az]at h;have hv2:∀v∈nj id e,-100<=v∧v<=130:=λv hv=>by
     have:=Ke (low:=dp id) (w:=cK id) k3 (d:=eI id) (e:=e) v hv;omega
    have:=UR hq.2 hq.1 hv2 h
    grind [GW]
def auZ (id:Nat)(b:C_)(a:Int)(hb:b.length<=1000000000)(ha:i64 a)(hid:1<=id∧id<=11):bh prog yw [.d (.lst (ai b)),A_ a,ov id] =
  rK (pH b id) (F4 id b a) (λl n=>some (.tup [.own true 1 (aH l),A_ n,A_ 0])) (λe=>some (.tup [.nl,A_ 0,A_ (e+1)])):=by
 have hok:jP id:=⟨hid.1,o_⟩
 have hr:=ad3 id b a hb ha hok;have hsg:=Sc id (by
  obtain⟨h1,h2⟩:=hid;simp only[ids,List.take,ay,co,d8];omega)
 have hV:=λe he=>WQ id e hok he
 obtain⟨k1,k2,k3,k4,k5,k6,k7⟩:=mD id (f9 hok);have hus:=ahO id (f9 hok);rw[aD aoh ap3 rfl];obtain⟨T,ht⟩:∃T,T=Ko:=⟨_,rfl⟩
 have hT:=λpl x2 x3 vals hl hv n hn hx2=>aqb b hb id pl x2 x3 vals hl hv n hn hx2
 rw[<-ht]at hT;unfold Ko at ht;rw[<-ht];simp only[ov]at hr⊢;rw[F4,yH (q:=λe n=>e<br id∧n<=b.length) (λe n h=>Vn hok h)];have hbl:∀e,(nj id e).length=eI id:=λe=>GW
 have hbi:=λe=>Ke (low:=dp id) (w:=cK id) k3 (d:=eI id) (e:=e)
 generalize hes:cA id=es at *;generalize hrs:dP id=rs at *;generalize hpl:bO id=pl at *;simp(maxSteps:=300000) (disch:=omega)[hr,↓ac,↓aa];refine kg (λ_ _=>rfl) (λe n hp=>?_) λ_=>rfl
 have hVe:=hV e hp.1;have hie:=hbi e;simp only[nj]at hVe hbl⊢;have hble:=hbl e;generalize mz (dp id) (cK id) (eI id) e=vals at *;by_cases hs:lc id=true
 .rw[ac hs,fe ⟨hble,hp.2,λx hx=>by grind⟩];simp(disch:=omega)[hVe,hsg,hs,↓ac,↓aa]
 .have hs2:lc id=false:=d_;have hT2:=hT pl (.d (.lst (cY es))) (.d (.lst (cY rs))) vals o_ (λv hv=>by grind) n hp.2 rfl;simp(disch:=omega)[hVe,hsg,hs2,↓ac];rw[hT2];refine(auF (γ:=M_) (F:=λl n=>some (.tup [.own true 1 (aH l),A_ n,A_ 0])) (G:=λe=>some (.tup [.nl,A_ 0,A_ e]))).trans ?_
  cases h1:kG b vals n with
  |er e=>simp[rK]
  |ok ss m =>
   have hq:=PL hp.2 h1
   grind [az,rK,UR]
abbrev eM:=@Nat.mod_eq_of_lt
def Jc (b:C_)(a:Int):R Int:=(AN 12 b a).bind λe n=>.ok ((e:Int)-60) n
abbrev pSt (b:C_)(d:Int)(n:Nat):Prop:=(-60<=d∧d<=60)∧n<=b.length
def azk {γ:Type}{b:C_}{a:Int}{F:Int->Nat->γ}{G:Nat->γ}:rK (pSt b) (Jc b a) F G=rK (λe n=>e<br 12∧n<=b.length) (AN 12 b a) (λe n=>F ((e:Int)-60) n) G:=by
 rw[Jc,yH (q:=λe n=>e<br 12∧n<=b.length) (λe n h=>Vn o_ h)];refine kg (λ_ _=>rfl) (λe n hp=>?_) λ_=>rfl
 have h1:e<121:=hp.1;rw[fe ⟨o_,hp.2⟩]
def aj7 (b:C_)(a:Int)(hb:b.length<=1000000000)(ha:i64 a):bh prog Na [.d (.lst (ai b)),A_ a] =
  rK (pSt b) (Jc b a) (λd n=>some (.tup [A_ d,A_ n,A_ 0])) (λe=>some (.tup [A_ 0,A_ 0,A_ (e+1)])):=by
 have hok:jP 12:=o_;have hr:=ad3 12 b a hb ha hok;have hg:=Xt 12 hok;have hV:=λe he=>WQ 12 e hok he
 have c12:((12:Nat):Int)=12:=rfl;rw[aD adV acR rfl,azk];simp only[ov,Zf,c12]at hr hg hV⊢;generalize hes:cA 12=es at *;generalize hrs:dP 12=rs at *;generalize hpl:bO 12=pl at *;simp(maxSteps:=300000) (disch:=omega)[hr,hg,↓ac,↓aa];refine kg (λ_ _=>rfl) (λe n hp=>?_) λ_=>rfl
 have h1:e<121:=hp.1;have hv:aH (nj 12 e)=[[.int .i64 ((e:Int)-60)]]:=by
  show aH [((e % 121:Nat):Int)+-60]=_;rw[eM h1];rfl
 have hVe:=hV e hp.1;rw[hv]at hVe;simp(maxSteps:=300000) (disch:=omega)[hVe]
structure H2 (hp:Int->Int->am)(A:Nat):Prop where
 get:∀s z,get (hp s z) A=some (.cells [A_ s,A_ z])
 put:∀s z s' z',put (hp s z) A (.cells [A_ s',A_ z'])=hp s' z'
abbrev mt (book n s z:Int):Prop:=if book=13 then (0<=n∧n<=511)∧(z<0∨(z-60<=n∧n<=z+60)) else (0<=n∧n<=255)∧(s-60<=n∧n<=s+60)
def Qp {hp:Int->Int->am}{A:Nat}(H:H2 hp A)(book n s z:Int)(N:Nat)(hn:-100000<=n∧n<=100000)(hs:-100000<=s∧s<=100000)(hz:-100000<=z∧z<=100000) :
  (Dn prog).call qy [.ptr A 0,A_ book,A_ n] ⟨hp s z,N⟩ =
   if mt book n s z then some (B_ true,⟨if book=13 then hp s n else hp n z,N⟩) else some (B_ false,⟨hp s z,N⟩):=by
 rw[bb Ti S6 rfl];by_cases hb:book=13
 .by_cases ho:(0<=n∧n<=511)∧(z<0∨(z-60<=n∧n<=z+60))
  .rw[ac (by rw[mt,ac hb];exact ho),ac hb];subst hb;rcases ho with ⟨⟨o1,o2⟩,o3|⟨o3,o4⟩⟩
   .simp(maxSteps:=300000) (disch:=omega)[↓ac,↓aa,H.get,H.put]
   .by_cases hz0:z<0
    .simp(maxSteps:=300000) (disch:=omega)[↓ac,↓aa,H.get,H.put]
    .simp(maxSteps:=300000) (disch:=omega)[↓ac,↓aa,H.get,H.put]
  .rw[aa (by rw[mt,ac hb];exact ho)];subst hb;by_cases o1:n<0
   .simp(maxSteps:=300000) (disch:=omega)[↓ac,↓aa,H.get,H.put]
   .by_cases o2:511<n
    .simp(maxSteps:=300000) (disch:=omega)[↓ac,↓aa,H.get,H.put]
    .by_cases o3:n<z-60
     .simp(maxSteps:=300000) (disch:=omega)[↓ac,↓aa,H.get,H.put]
     .simp(maxSteps:=300000) (disch:=omega)[↓ac,↓aa,H.get,H.put]
 .by_cases ho:(0<=n∧n<=255)∧(s-60<=n∧n<=s+60)
  .rw[ac (by rw[mt,aa hb];exact ho),aa hb];obtain⟨⟨o1,o2⟩,o3,o4⟩:=ho;simp(maxSteps:=300000) (disch:=omega)[↓ac,↓aa,H.get,H.put]
  .rw[aa (by rw[mt,aa hb];exact ho)];by_cases o1:n<0
   .simp(maxSteps:=300000) (disch:=omega)[↓ac,↓aa,H.get,H.put]
   .by_cases o2:255<n
    .simp(maxSteps:=300000) (disch:=omega)[↓ac,↓aa,H.get,H.put]
    .by_cases o3:n<s-60
     .simp(maxSteps:=300000) (disch:=omega)[↓ac,↓aa,H.get,H.put]
     .simp(maxSteps:=300000) (disch:=omega)[↓ac,↓aa,H.get,H.put]
abbrev mX:=@List.drop_drop
def xc {l:P_}{i:Nat}{s:aU}{r:P_}(h:l.drop i=s::r):(ie l)[i]?=some [.int .i64 s.book,.int .i64 s.len]:=by
 have:=aT (λl=>l[0]?) h;simp only[cf,b9,dX]at this;rw[ie,b8,this];rfl
def bu {α:Type}{l:List α}{i:Nat}{s:α}{r:List α}(h:l.drop i=s::r):l.drop (i+1)=r:=by
 have:=aT (λl=>l.drop 1) h;simpa [mX] using this
theorem bw {α:Type}{l:List α}{i:Nat}{s:α}{r:List α}(h:l.drop i=s::r):i<l.length:=by
 rcases bD i l.length with g|g
 .exact g
 .rw[cm g]at h;exact absurd h (by simp)
def agW (full:P_)(hl:full.length<=1000000)(x21:AV)(y22 y23:D):∀(l:P_) (i:Nat) (lf c:Int) (N:Nat),full.drop i=l->fitsS lf l->0<=c->lf+c<=1000->
  (Dn prog).code (.loop yy) ⟨[(7,A_ (lf+c)),(21,x21),(22,.d y22),(23,.d y23),(27,.d (.lst (ie full))),(28,A_ full.length),(29,A_ i)],⟨[],N⟩⟩ =
  some (.exit 2,⟨[(21,x21),(22,.d y22),(23,.d y23)],⟨[],N+l.length⟩⟩):=by
 intro l
 induction l with
 |nil =>
  intro i lf c N h hf h0 h1;have hi:full.length<=i:=by simpa [List.drop_eq_nil_iff] using h
  rw[ah OH];simp(maxSteps:=300000) (disch:=omega)[↓ac,↓aa]
 |cons s r ih =>
  intro i lf c N h hf h0 h1;obtain⟨⟨⟨s1,s2⟩,s3,s4⟩,hf2⟩:=hf;have hg:=xc h;have hlt:=bw h;have h5:=ih (i+1) (lf-s.len) c (N+1) (bu h) hf2 h0 o_;have c1:((i+1:Nat):Int)=(i:Int)+1:=rfl;have c2:lf-s.len+c=lf+c-s.len:=o_;rw[c1,c2]at h5;have e:N+(s::r).length=N+1+r.length:=by simp only[aq];omega
  rw[ah OH,e,<-h5];rcases s4 with s4|s4
  .simp(maxSteps:=300000) (disch:=omega)[↓ac,↓aa,hg]
  .simp(maxSteps:=300000) (disch:=omega)[↓ac,↓aa,hg,s4]
def acj:H_->Nat
 |[]=>0
 |l::r=>l.length+acj r
def lj {g:H_}{i:Nat}{l:P_}{r:H_}(h:g.drop i=l::r):(bF g)[i]?=some [.lst (ie l)]:=by
 have:=aT (λl=>l[0]?) h;simp only[cf,b9,dX]at this;rw[bF,b8,this];rfl
def aj3 (full:H_)(hl:full.length<=1000)(m:Int)(hm:0<=m∧m<=40):∀(g:H_) (i N:Nat),full.drop i=g->(∀l∈g,fitsS m l∧l.length<=1000)->
  (Dn prog).code (.loop yC) ⟨[(21,.d (.lst (bF full))),(22,A_ full.length),(23,A_ i)],⟨[],N⟩⟩=some (.exit 0,⟨[],⟨[],N+acj g⟩⟩):=by
 intro g
 induction g with
 |nil =>
  intro i N h hf;have hi:full.length<=i:=by simpa [List.drop_eq_nil_iff] using h
  rw[ah NB];simp(maxSteps:=300000) (disch:=omega)[↓ac,↓aa,acj]
 |cons l r ih =>
  intro i N h hf;have hg:=lj h;have hlt:=bw h;obtain⟨f1,f2⟩:=hf l (.head _);have h0:=agW l o_ (.d (.lst (bF full))) (.int .i64 full.length) (.int .i64 i) l 0 m (40-m) N rfl f1 o_ o_;have h5:=ih (i+1) (N+l.length) (bu h) λq hq=>hf q (.tail _ hq)
  have c1:((i+1:Nat):Int)=(i:Int)+1:=rfl;have c2:m+(40-m)=40:=o_;have c0:((0:Nat):Int)=0:=rfl;rw[c1]at h5;rw[c2,c0]at h0;have e:N+acj (l::r)=N+l.length+acj r:=by rw[acj];omega
  rw[ah NB,e,<-h5];simp(maxSteps:=300000) (disch:=omega)[↓ac,↓aa,hg,h0]
def aep (gain m:Int)(g:H_)(hgn:0<=gain∧gain<=255)(hl:g.length<=8)(hm:0<=m∧m<=40)(hf:∀l∈g,fitsS m l∧l.length<=1000) :
  bh prog WI [A_ gain,.d (.lst (bF g))]=some (B_ true):=by
 have h:=aj3 g o_ m hm g 0 0 rfl hf;have c0:((0:Nat):Int)=0:=rfl;rw[c0]at h;rw[aD akl alA rfl];simp(maxSteps:=300000) (disch:=omega)[↓ac,↓aa,h]
abbrev gw:=@List.flatMap_nil
def Mg:Int->P_->Option Int
 |lf,[]=>some lf
 |lf,s::r=>if s.right lf then Mg (lf-s.len) r else none
theorem Yj {l:P_}{lf:Int}:Mg lf l=some 0↔fitsS lf l:=by
 induction l generalizing lf<;>grind [Mg,fitsS]
def aIY {l:P_}{lf v:Int}(h:Mg lf l=some v)(h0:0<=lf):0<=v∧v<=lf:=by
 induction l generalizing lf<;>grind [Mg]
def aY {α:Type}{l:List α}{i:Nat}(h:l.drop i=[]):l.length<=i:=u_
def agp (full:P_)(hl:full.length<=1000000)(X:Obj)(x26:AV)(y27 y28:D):∀(r:P_) (i:Nat) (lf:Int) (N:Nat),full.drop i=r->0<=lf∧lf<=1000->1<=N->
  ∃M,N<=M∧(Dn prog).code (.loop wF) ⟨[(2,.ptr 0 0),(9,A_ lf),(26,x26),(27,.d y27),(28,.d y28),(34,.d (.lst (ie full))),(35,A_ full.length),(36,A_ i)],⟨[(0,X)],N⟩⟩ =
  match Mg lf r with
  |some v=>some (.exit 2,⟨[(2,.ptr 0 0),(9,A_ v),(26,x26),(27,.d y27),(28,.d y28)],⟨[(0,X)],M⟩⟩)
  |none=>some (.ret,⟨[(4,A_ 8)],⟨[(0,X)],M⟩⟩):=by
 intro r
 induction r with
 |nil =>
  intro i lf N h h0 hN;have hi:=aY h;refine⟨N,al _,?_⟩;rw[ah CV,Mg];simp(disch:=omega)[↓aa]
 |cons s r ih =>
  intro i lf N h h0 hN;have hg:=xc h;have hlt:=bw h;have h6:=λk n left=>aat ⟨k,n⟩ left
  by_cases hr:s.right lf
  .obtain⟨M,hM,e⟩:=ih (i+1) (lf-s.len) (N+1) (bu h) o_ o_;refine⟨M,o_,?_⟩;rw[ah CV,Mg,ac hr,<-e];simp(disch:=omega)[↓ac,↓aa,hg,h6]
  .refine⟨N+1,o_,?_⟩;rw[ah CV,Mg,aa hr];simp(disch:=omega)[↓ac,↓aa,hg,h6]
abbrev fJ (m:Int)(g:H_):Prop:=∀l∈g,fitsS m l
def afF (i:aN)(hi:i.Fit)(h0:0<=i.max∧i.max<=1000)(full:H_)(hl:full.length<=1000)(hl2:∀l∈full,l.length<=1000):∀(g:H_) (j:Nat) (N:Nat),full.drop j=g->1<=N->
  ∃M,(Dn prog).code (.loop wB) ⟨[(2,.ptr 0 0),(26,.d (.lst (bF full))),(27,A_ full.length),(28,A_ j)],⟨[(0,.cells i.cells)],N⟩⟩ =
  if fJ i.max g then some (.exit 0,⟨[],⟨[(0,.cells i.cells)],M⟩⟩) else some (.ret,⟨[(4,A_ 8)],⟨[(0,.cells i.cells)],M⟩⟩):=by
 simp only[aN.cells];intro g
 induction g with
 |nil =>
  intro j N h hN;have hi:=aY h;refine⟨N,?_⟩;rw[ah wO,ac (show fJ i.max [] from λ_ h=>by simp at h)];simp(disch:=omega)[↓aa]
 |cons l r ih =>
  intro j N h hN;have hg:=lj h;have hlt:=bw h;have hll:l.length<=1000:=hl2 l (by rw[<-aV j full,h];simp);obtain⟨M,hM,e⟩:=agp l o_ (.cells i.cells) (.d (.lst (bF full))) (.int .i64 full.length) (.int .i64 j) l 0 i.max N rfl h0 hN;have c0:((0:Nat):Int)=0:=rfl;rw[c0]at e;simp only[aN.cells]at e
  cases hrm:Mg i.max l with
  |none =>
   refine⟨M,?_⟩;rw[hrm]at e;have hn:¬fJ i.max (l::r):=λh=>by
    grind [Yj]
   rw[ah wO,aa hn];simp(disch:=omega)[↓ac,hg,e]
  |some v =>
   rw[hrm]at e;by_cases h9:v=0
   .subst h9;obtain⟨M2,e2⟩:=ih (j+1) M (bu h) o_;refine⟨M2,?_⟩;have hf:=Yj.1 hrm;have hx:fJ i.max (l::r)↔fJ i.max r:=d_;rw[ah wO,awY hx,<-e2];simp(disch:=omega)[↓ac,hg,e]
   .refine⟨M,?_⟩;have hn:¬fJ i.max (l::r):=λh=>by
     grind [Yj]
    rw[ah wO,aa hn];simp(disch:=omega)[↓ac,↓aa,hg,e]
abbrev atX (g:H_):Prop:=g.length<=1000∧∀l∈g,l.length<=1000
abbrev ke (i:aN)(g:H_):Prop:=g.length=i.groups.length∧fJ i.max g
def apj (i:aN)(hi:i.Fit)(g:H_)(hf:atX g):bh prog TY [.agg i.cells,.d (.lst (bF g))]=if i.may 11 then if ke i g then some (A_ 0) else some (A_ 8) else some (A_ 8):=by
 have hw:=pt i hi;rw[aD aiV ahm rfl];by_cases hm:i.may 11
 .rw[ac hm]at hw⊢;have h0:0<=i.max∧i.max<=1000:=by have:=hm.2.2.1;have:=hm.2.2.2.1;grind [JG]
  obtain⟨M,e⟩:=afF i hi h0 g hf.1 hf.2 g 0 1 rfl o_;have c0:((0:Nat):Int)=0:=rfl;rw[c0]at e;simp only[aN.cells]at hw e;by_cases h1:g.length=i.groups.length
  .by_cases h2:fJ i.max g
   .rw[ac ⟨h1,h2⟩];simp(disch:=omega)[↓ac,hw,e]
   .rw[aa (λh=>h2 h.2)];rw[aa h2]at e;simp(disch:=omega)[↓ac,hw,e]
  .simp(disch:=omega)[↓ac,↓aa,hw]
 .simp only[aN.cells]at hw;simp(disch:=omega)[↓ac,↓aa,hw]
def eV (aX:Nat):Nat->Nat->C_
 |0,n=>[n]
 |f+1,n=>if aX<=n then aX::eV aX f (n-aX) else [n]
def alw {σ:Type}{hp:σ->Int->am}{l p q N:Nat}{st:σ->Nat->σ}{dz:Nat->σ->Prop}(hI:∀k s x,dz (k+1) s->dz k (st s x))(hM:∀j k s,j<=k->dz k s->dz j s)(aX:Nat)(hm:1<=aX∧aX<=1000)(hg:∀s n,get (hp s n) p=some (.cells [A_ n]))(hq:∀s n,get (hp s n) q=some (.cells [A_ aX]))(hpt:∀s n m,put (hp s n) p (.cells [A_ m])=hp s m)
  (hy:∀(k:Nat) (s:σ) (x:Nat) (n:Int),dz (k+1) s->x<=aX->cy (Dn prog) (.yield l) [A_ (x:Int)] ⟨hp s n,N⟩=some (B_ true,⟨hp (st s x) n,N⟩)):∀(f n:Nat) (s:σ),n<=f->n<=1000000->dz (f+1) s->
  ∃(m:Nat) (s2:σ),m<aX∧dz 1 s2∧st s2 m=(eV aX f n).foldl st s∧(Dn prog).code (.loop qL) ⟨[(0,.yield l),(1,.ptr p 0),(2,.ptr q 0)],⟨hp s n,N⟩⟩=some (.exit 0,⟨[(0,.yield l),(1,.ptr p 0)],⟨hp s2 m,N⟩⟩):=by
 intro f
 induction f with
 |zero =>
  intro n s hn hb hi;refine⟨n,s,o_,hi,by rfl,?_⟩;rw[ah ya];simp(disch:=omega)[↓aa,hg,hq]
 |succ f ih =>
  intro n s hn hb hi;by_cases h1:aX<=n
  .obtain⟨m,s2,a1,a2,a3,a4⟩:=ih (n-aX) (st s aX) o_ o_ (hI _ _ _ hi);refine⟨m,s2,a1,a2,by grind [eV],?_⟩;have h2:=hy (f+1) s aX n hi o_;have c1:((n-aX:Nat):Int)=(n:Int)-aX:=o_;rw[c1]at a4;rw[ah ya,<-a4];simp(disch:=omega)[↓ac,hg,hq,hpt,-mA,h2]
  .refine⟨n,s,o_,?_,by grind [eV],?_⟩
   .grind
   .rw[ah ya];simp(disch:=omega)[↓aa,hg,hq]
def avh {σ:Type}{hp:σ->Int->am}{l p q N:Nat}{st:σ->Nat->σ}{dz:Nat->σ->Prop}(hI:∀k s x,dz (k+1) s->dz k (st s x))(hM:∀j k s,j<=k->dz k s->dz j s)(aX:Nat)(hm:1<=aX∧aX<=1000)(hg:∀s n,get (hp s n) p=some (.cells [A_ n]))(hq:∀s n,get (hp s n) q=some (.cells [A_ aX]))(hpt:∀s n m,put (hp s n) p (.cells [A_ m])=hp s m)
  (hy:∀(k:Nat) (s:σ) (x:Nat) (n:Int),dz (k+1) s->x<=aX->cy (Dn prog) (.yield l) [A_ (x:Int)] ⟨hp s n,N⟩=some (B_ true,⟨hp (st s x) n,N⟩))(n:Nat)(s:σ)(hn:n<=1000000)(hi:dz (n+1) s) :
  ∃m:Int,(Dn prog).call nc [.yield l,.ptr p 0,.ptr q 0] ⟨hp s n,N⟩=some (.tup [],⟨hp ((eV aX n n).foldl st s) m,N⟩):=by
 obtain⟨m,s2,a1,a2,a3,a4⟩:=alw hI hM aX hm hg hq hpt hy n n s (al _) hn hi;have h2:=hy 0 s2 m m a2 o_;refine⟨m,?_⟩;rw[bb ZM aas rfl,<-a3];simp(disch:=omega)[a4,hg,-mA,h2]
def VZ {aX:Nat}(hm:1<=aX):∀{f n:Nat},(eV aX f n).length<=n+1
 |0,n=>by simp[eV]
 |f+1,n=>by
  rw[eV];split
  .have:=VZ hm (f:=f) (n:=n-aX)
   grind
  .simp
def alt (n m:Int)(h:am)(N:Nat):(Dn prog).call RF [A_ n,A_ m] ⟨h,N⟩=some (.fn nc [] [.ptr N 0,.ptr (N+1) 0],⟨put (put h N (.cells [A_ n])) (N+1) (.cells [A_ m]),N+2⟩):=by
 rw[bb af6 agc rfl];simp(disch:=omega)
def MX (sz:Nat)(s:aU):C_:=ar s.book.toNat 4++(eV (2 ^ sz-1) s.len.toNat s.len.toNat).flatMap λn=>ar n sz
def aeJ {sz:Nat}:∀{l acc:C_},l.foldl (fun(s:C_) n=>s++ar n sz) acc=acc++l.flatMap λn=>ar n sz
 |[],acc=>by simp
 |x::r,acc=>by rw[jx,aeJ];simp
abbrev J4:Obj:=.cells [.junk,.junk,.junk,.junk]
abbrev hpS (sz:Nat)(v:AV):am:=[(0,.cells [v]),(1,J4),(2,.cells [A_ sz])]
abbrev hpF (sz aX N:Nat)(e:aW)(v:AV)(n:Int):am:=[(0,.cells [v]),(1,J4),(2,.cells [A_ sz]),(N+1,.cells [A_ n]),(N+1+1,.cells [A_ aX]),(N+1+2,.loop e [55] AC Au false none)]
abbrev adv (aX:Nat)(y32 y33 y34:D)(full:P_)(i:Int)(r:aW):aW:=(3,.ptr 0 0)::(9,.ptr 2 0)::(10,A_ aX)::(32,.d y32)::(33,.d y33)::(34,.d y34)::(38,.d (.lst (ie full)))::(39,A_ full.length)::(40,A_ i)::r
def aFG (sz aX N:Nat)(hsz:1<=sz∧sz<=5)(hm:aX<2 ^ sz)(hN:3<=N)(y32 y33 y34:D)(full:P_)(i:Int)(b:C_)(x:Nat)(n:Int)(hx:x<=aX)(hb:b.length<=800000000) :
  cy (Dn prog) (.yield (N+1+2)) [A_ (x:Int)] ⟨hpF sz aX N (adv aX y32 y33 y34 full i [(54,.fn nc [] [.ptr (N+1) 0,.ptr (N+1+1) 0])]) (.own false 1 (ai b)) n,N+1+2+1⟩ =
  some (B_ true,⟨hpF sz aX N (adv aX y32 y33 y34 full i [(54,.fn nc [] [.ptr (N+1) 0,.ptr (N+1+1) 0])]) (.own false 1 (ai (b++ar x sz))) n,N+1+2+1⟩):=by
 have h5:2 ^ sz<=2 ^ 5:=aw o_ hsz.2;have h1:=me b x sz o_ o_ _ (.inl rfl);rw[ac d_]at h1;simp(disch:=omega)[afr,agn,↓ac,↓aa,h1]
theorem aky (sz aX:Nat)(hsz:1<=sz∧sz<=5)(hm:aX=2 ^ sz-1)(full r:P_)(hl:full.length<=1000)(s:aU)(y32 y33 y34:D)(i N:Nat)(b:C_)(hd:full.drop i=s::r)(hr:s.right 1000)(hN:3<=N)(hb:b.length<=700000000) :
  (Dn prog).code ve ⟨adv aX y32 y33 y34 full i [],⟨hpS sz (.own false 1 (ai b)),N⟩⟩ =
  some (.normal,⟨adv aX y32 y33 y34 full ((i+1:Nat):Int) [],⟨hpS sz (.own false 1 (ai (b++MX sz s))),N+4⟩⟩):=by
 have hg:=xc hd;have hlt:=bw hd;have h5:2 ^ sz<=2 ^ 5:=aw o_ hsz.2;have h6:2 ^ 1<=2 ^ sz:=aw o_ hsz.1;have h1:=me b s.book 4 o_ o_ _ (.inl rfl);have ho:ou s.book 4:=by
  grind
 obtain⟨L,hL⟩:=aB (show 0<=s.len by omega);obtain⟨m,h7⟩:=avh (hp:=λb n=>hpF sz aX N (adv aX y32 y33 y34 full i [(54,.fn nc [] [.ptr (N+1) 0,.ptr (N+1+1) 0])]) (.own false 1 (ai b)) n) (l:=N+1+2) (p:=N+1) (q:=N+1+1) (N:=N+1+2+1) (st:=λs n=>s++ar n sz) (dz:=λk s=>s.length+5*k<=750000000)
  (λk s x h=>by grind [dk]) (λj k s h1 h2=>by omega) aX o_ (λs n=>by simp(disch:=omega)[↓aa]) (λs n=>by simp(disch:=omega)[↓aa]) (λs n m=>by simp(disch:=omega)[↓aa])
  (λk s x n h1 h2=>aFG sz aX N hsz o_ hN y32 y33 y34 full i s x n h2 o_) L (b++ar s.book.toNat 4) o_ (by simp;omega)
 rw[aeJ]at h7;have e:b++ar s.book.toNat 4++(eV aX L L).flatMap (λn=>ar n sz)=b++MX sz s:=by
  grind [MX]
 rw[e]at h7;rw[hL]at hg;rw[QY];simp(disch:=omega)[↓ac,↓aa,hg,h1,alt,rd,h7]
def akd {sz:Nat}(hsz:1<=sz∧sz<=5){s:aU}(h:s.right 1000):(MX sz s).length<=6000:=by
 have h6:2 ^ 1<=2 ^ sz:=aw o_ hsz.1;have h1:=VZ (aX:=2 ^ sz-1) o_ (f:=s.len.toNat) (n:=s.len.toNat);rw[MX,aj,dk,List.length_flatMap];have:((eV (2 ^ sz-1) s.len.toNat s.len.toNat).map λn=>(ar n sz).length).sum<=(eV (2 ^ sz-1) s.len.toNat s.len.toNat).length*5:=by
  generalize eV (2 ^ sz-1) s.len.toNat s.len.toNat=l
  induction l<;>grind [dk]
 omega
def qS (sz:Nat)(l:P_):C_:=l.flatMap (MX sz)
def uv {lf:Int}:∀{l:P_},fitsS lf l->lf<=1000->∀s∈l,s.right 1000
 |[],_,_,s,h=>absurd h (by simp)
 |x::r,hf,h0,s,h=>by
  obtain⟨h1,h2⟩:=hf;rcases ay.1 h with e|e
  .grind
  .exact uv h2 o_ s e
def ald (sz aX:Nat)(hsz:1<=sz∧sz<=5)(hm:aX=2 ^ sz-1)(full:P_)(hl:full.length<=1000)(y32 y33 y34:D):∀(r:P_) (i N:Nat) (b:C_),full.drop i=r->(∀s∈r,s.right 1000)->3<=N->b.length+6000*r.length<=700000000->
  ∃M,3<=M∧(Dn prog).code (.loop ve) ⟨adv aX y32 y33 y34 full i [],⟨hpS sz (.own false 1 (ai b)),N⟩⟩ =
  some (.exit 2,⟨[(3,.ptr 0 0),(9,.ptr 2 0),(10,A_ aX),(32,.d y32),(33,.d y33),(34,.d y34)],⟨hpS sz (.own false 1 (ai (b++qS sz r))),M⟩⟩):=by
 intro r
 induction r with
 |nil =>
  intro i N b hd hr hN hb;have hi:=aY hd;refine⟨N,hN,?_⟩;rw[ah QY,qS,gw,bj];simp(disch:=omega)[↓aa]
 |cons s r ih =>
  intro i N b hd hr hN hb;have hs:=hr s (.head _);have h1:=akd hsz hs;obtain⟨M,hM,e⟩:=ih (i+1) (N+4) (b++MX sz s) (bu hd) (λq hq=>hr q (.tail _ hq)) o_ (by grind)
  grind [qS,ah,aky,OI]
def O9 (i:aN)(g:H_):C_:=g.flatMap (qS i.fsz)
def SJ {sz:Nat}(hsz:1<=sz∧sz<=5):∀{l:P_},(∀s∈l,s.right 1000)->(qS sz l).length<=6000*l.length
 |[],_=>by simp[qS]
 |s::r,h=>by
  have h1:=akd hsz (h s (.head _));have h2:=SJ hsz (l:=r) λq hq=>h q (.tail _ hq)
  grind [qS]
def akq (sz aX:Nat)(hsz:1<=sz∧sz<=5)(hm:aX=2 ^ sz-1)(m:Int)(hm0:m<=1000)(full:H_)(hl:full.length<=1000):∀(g:H_) (i N:Nat) (b:C_),full.drop i=g->fJ m g->(∀l∈g,l.length<=100)->3<=N->b.length+600000*g.length<=700000000->
  ∃M,(Dn prog).code (.loop Av) ⟨[(3,.ptr 0 0),(9,.ptr 2 0),(10,A_ aX),(32,.d (.lst (bF full))),(33,A_ full.length),(34,A_ i)],⟨hpS sz (.own false 1 (ai b)),N⟩⟩ =
  some (.exit 0,⟨[(3,.ptr 0 0)],⟨hpS sz (.own false 1 (ai (b++g.flatMap (qS sz)))),M⟩⟩):=by
 intro g
 induction g with
 |nil =>
  intro i N b hd hf hll hN hb;have hi:=aY hd;refine⟨N,?_⟩;rw[ah RA,gw,bj];simp(disch:=omega)[↓aa]
 |cons l r ih =>
  intro i N b hd hf hll hN hb;simp only[aq]at hb;have hg:=lj hd;have hlt:=bw hd;have hlen:=hll l (.head _);have hr:=uv (hf l (.head _)) hm0;have h1:=SJ hsz hr;obtain⟨M,hM,e⟩:=ald sz aX hsz hm l o_ (.lst (bF full)) (.int .i64 full.length) (.int .i64 i) l 0 N b rfl hr hN o_;obtain⟨M2,e2⟩:=ih (i+1) M (b++qS sz l) (bu hd) (λq hq=>hf q (.tail _ hq)) (λq hq=>hll q (.tail _ hq)) hM d_;refine⟨M2,?_⟩;have c0:((0:Nat):Int)=0:=rfl;rw[c0]at e;have ea:b++(l::r).flatMap (qS sz)=b++qS sz l++r.flatMap (qS sz):=u_;rw[ah RA,ea,<-e2];simp(disch:=omega)[↓ac,hg,e]
def Kp {lf:Int}:∀{l:P_},fitsS lf l->(l.length:Int)<=lf∨l=[]
 |[],_=>.inr rfl
 |x::r,hf=>by
  obtain⟨h1,h2⟩:=hf;have:=Kp h2
  grind
def at1 (b:C_)(hb:b.length<=400000000)(x:AV)(hx:x=.d (.lst (ai b))∨x=.nl∧b=[])(i:aN)(hi:i.Fit)(hm:i.may 11)(g:H_)(hf:atX g)(hg:ke i g):bh prog Z8 [x,.agg i.cells,.d (.lst (bF g))] =
  some (.tup [.own true 1 (ai (b++O9 i g)),A_ 0]):=by
 have hc:=apj i hi g hf;rw[ac hm,ac hg]at hc;have h0:0<=i.max∧i.max<=100:=by have:=hm.2.2.1;have:=hm.2.2.2.1;grind [JG]
 have hfd:=YZ i;have hsz:1<=i.fsz∧i.fsz<=5:=by grind [aN.fsz]
 have g8:g.length<=8:=by
  have h:=(dV hm).1;have h2:=(dV hm).2;have:=nu (λn hn=>(h n hn).1)
  grind [aN.many]
 have hll:∀l∈g,l.length<=100:=λl hl=>by
  rcases Kp (hg.2 l hl) with h|h<;>grind
 have hp:=me b 0 0 o_ o_ x hx;rw[ac k_]at hp;have t0:(0:Int).toNat=0:=rfl;rw[t0,ar,bj]at hp;obtain⟨M,e⟩:=akq i.fsz (2 ^ i.fsz-1) hsz rfl i.max o_ g hf.1 g 0 3 b rfl hg.2 hll o_ o_;have c0:((0:Nat):Int)=0:=rfl;rw[c0]at e;simp only[aN.cells]at hc hfd;rw[aD aoa anZ rfl,O9];rcases hx with rfl|⟨rfl,rfl⟩
 all_goals simp(disch:=omega)[↓ac,↓aa,hc,hfd,hp,e]
def aM (l:P_):G_:=l.flatMap λs=>List.replicate s.len.toNat s.book
def ZG {l:G_}{x:Int}:aH (l++[x])=aH l++[[.int .i64 x]]:=by simp[aH]
theorem iD {l:G_}:(aH l).length=l.length:=by simp[aH]
structure Tl {σ:Type}(hp:σ->am->am)(L:Nat):Prop where
 put:∀s K o,L<=K->Go.Vm.put (hp s []) K o=hp s [(K,o)]
 put2:∀s K o o',L<=K->Go.Vm.put (hp s [(K,o)]) K o'=hp s [(K,o')]
 get:∀s K o,L<=K->Go.Vm.get (hp s [(K,o)]) K=some o
 del:∀s K o,L<=K->Go.Vm.del (hp s [(K,o)]) K=hp s []
def wa {σ τ:Type}(st:Nat->Int->σ->Sum σ τ):G_->Nat->σ->Sum σ τ
 |[],_,s=>.inl s
 |k::r,a,s=>match st a k s with
  |.inl s=>wa st r (a+1) s
  |.inr z=>.inr z
def ai3 {σ τ:Type}{st:Nat->Int->σ->Sum σ τ}:∀{l r:G_}{a:Nat}{s:σ},wa st (l++r) a s=match wa st l a s with
  |.inl s=>wa st r (a+l.length) s
  |.inr z=>.inr z
 |[],r,a,s=>rfl
 |k::l,r,a,s=>by
  rw[aQ,wa,wa]
  cases st a k s with
  |inl s=>simp only[ai3,aq];rw[show a+(l.length+1)=a+1+l.length by omega]
  |inr z=>rfl
section
variable {σ τ:Type}{hp:σ->am->am}{hq:τ->am->am}{L l p:Nat}{bks:G_}{st:Nat->Int->σ->Sum σ τ}{dz:Nat->σ->Prop}
def Rnd (hp:σ->am->am)(hq:τ->am->am)(L l:Nat)(bks:G_)(st:Nat->Int->σ->Sum σ τ)(dz:Nat->σ->Prop):Prop :=
 ∀a k s K o N,bks[a]?=some k->dz a s->L<=K->K<N->
  (∃s2,st a k s=.inl s2∧dz (a+1) s2∧cy (Dn prog) (.yield l) [A_ (a:Int),A_ k] ⟨hp s [(K,o)],N⟩=some (B_ true,⟨hp s2 [(K,o)],N⟩))∨
  (∃z,st a k s=.inr z∧cy (Dn prog) (.yield l) [A_ (a:Int),A_ k] ⟨hp s [(K,o)],N⟩=some (B_ false,⟨hq z [(K,o)],N⟩))
def aqd (H:Tl hp L)(H2:Tl hq L)(hY:Rnd hp hq L l bks st dz)(full:P_)(s0:aU)(hs0:s0.len<=1000)(i K N:Nat)(hK:L<=K)(hKN:K<N):∀(k j a:Nat) (s:σ),j+k=s0.len.toNat->(∀q,q<k->bks[a+q]?=some s0.book)->a+k<=100000000->dz a s->
  (∃s2,wa st (List.replicate k s0.book) a s=.inl s2∧dz (a+k) s2∧(Dn prog).code (.loop mH) ⟨[(0,.yield l),(3,A_ a),(5,.ptr K 0),(6,.d (.lst (ie full))),(7,A_ full.length),(8,A_ i),(13,A_ s0.len),(14,A_ j)],⟨hp s [(K,.cells [A_ s0.book,A_ s0.len])],N⟩⟩ =
   some (.exit 2,⟨[(0,.yield l),(3,A_ (a+k:Nat)),(6,.d (.lst (ie full))),(7,A_ full.length),(8,A_ i)],⟨hp s2 [],N⟩⟩))∨
  (∃z,wa st (List.replicate k s0.book) a s=.inr z∧(Dn prog).code (.loop mH) ⟨[(0,.yield l),(3,A_ a),(5,.ptr K 0),(6,.d (.lst (ie full))),(7,A_ full.length),(8,A_ i),(13,A_ s0.len),(14,A_ j)],⟨hp s [(K,.cells [A_ s0.book,A_ s0.len])],N⟩⟩ =
   some (.ret,⟨[],⟨hq z [],N⟩⟩)):=by
 have hG:=λs o=>H.get s K o hK
 have hD:=λs o=>H.del s K o hK
 have hD2:=λs o=>H2.del s K o hK
 intro k
 induction k with
 |zero =>
  intro j a s h1 h2 h3 hi;refine .inl ⟨s,rfl,hi,?_⟩;rw[ah xq];simp(maxSteps:=300000) (disch:=omega)[↓aa,hD]
 |succ k ih =>
  intro j a s h1 h2 h3 hi;have hb:=h2 0 o_;rw[dX]at hb;have c1:((j+1:Nat):Int)=(j:Int)+1:=rfl;have c2:((a+1:Nat):Int)=(a:Int)+1:=rfl;rw[cL];rcases hY a s0.book s K (.cells [A_ s0.book,A_ s0.len]) N hb hi hK hKN with ⟨s2,e1,e2,e3⟩|⟨z,e1,e3⟩
  .rw[wa,e1,ah xq];have e4:a+(k+1)=a+1+k:=o_;have h9:=ih (j+1) (a+1) s2 o_ (λq hq=>by rw[show a+1+q=a+(q+1) by omega];exact h2 (q+1) o_) o_ e2;rw[c1,c2]at h9;rw[e4];rcases h9 with ⟨s3,f1,f2,f3⟩|⟨z,f1,f3⟩
   .refine .inl ⟨s3,f1,f2,?_⟩;rw[<-f3];simp(maxSteps:=300000) (disch:=omega)[↓ac,↓aa,hG,-mA,e3]
   .refine .inr ⟨z,f1,?_⟩;rw[<-f3];simp(maxSteps:=300000) (disch:=omega)[↓ac,↓aa,hG,-mA,e3]
  .refine .inr ⟨z,by rw[wa,e1],?_⟩;rw[ah xq];simp(maxSteps:=300000) (disch:=omega)[↓ac,↓aa,hG,-mA,e3,hD2]
def apy (H:Tl hp L)(H2:Tl hq L)(hY:Rnd hp hq L l bks st dz)(full:P_)(hfl:full.length<=1000):∀(r:P_) (i a N:Nat) (s:σ),full.drop i=r->(∀q∈r,0<=q.len∧q.len<=1000)->bks.drop a=aM r->a<=1000*i->L<=N->dz a s->
  (∃s2 M,wa st (aM r) a s=.inl s2∧dz (a+(aM r).length) s2∧N<=M∧(Dn prog).code (.loop mN) ⟨[(0,.yield l),(3,A_ a),(6,.d (.lst (ie full))),(7,A_ full.length),(8,A_ i)],⟨hp s [],N⟩⟩ =
   some (.exit 0,⟨[],⟨hp s2 [],M⟩⟩))∨
  (∃z M,wa st (aM r) a s=.inr z∧N<=M∧(Dn prog).code (.loop mN) ⟨[(0,.yield l),(3,A_ a),(6,.d (.lst (ie full))),(7,A_ full.length),(8,A_ i)],⟨hp s [],N⟩⟩ =
   some (.ret,⟨[],⟨hq z [],M⟩⟩)):=by
 intro r
 induction r with
 |nil =>
  intro i a N s hd hr hb ha hL hi;have hk:=aY hd;refine .inl ⟨s,N,rfl,hi,al _,?_⟩;rw[ah qP];simp(maxSteps:=300000) (disch:=omega)[↓aa]
 |cons q r ih =>
  intro i a N s hd hr hb ha hL hi;have hq:=hr q (.head _);have hlt:=bw hd;have hg:=xc hd;have eb:aM (q::r)=List.replicate q.len.toNat q.book++aM r:=by rw[aM,aE];rfl
  rw[eb]at hb;have hbk:∀j,j<q.len.toNat->bks[a+j]?=some q.book:=λj hj=>by
   have:=aT (λl=>l[j]?) hb;simp only[cf]at this;rw[this,cw (by simpa using hj)];simp[hj]
  have hb2:bks.drop (a+q.len.toNat)=aM r:=by
   have:=aT (λl=>l.drop q.len.toNat) hb;simp only[mX]at this;rw[this,List.drop_left' s_]
  have hp1:=λo=>H.put s N o hL
  have hp2:=λo o'=>H.put2 s N o o' hL
  have hG:=λo=>H.get s N o hL
  have c1:((i+1:Nat):Int)=(i:Int)+1:=rfl;have c0:((0:Nat):Int)=0:=rfl;have h0:=aqd H H2 hY full q hq.2 i N (N+1) hL o_ q.len.toNat 0 a s o_ hbk o_ hi;rw[c0]at h0;rw[eb,ai3];rcases h0 with ⟨s2,e1,e2,e3⟩|⟨z,e1,e3⟩
  .have h9:=ih (i+1) (a+q.len.toNat) (N+1) s2 (bu hd) (λx hx=>hr x (.tail _ hx)) hb2 o_ o_ e2;rw[c1]at h9;rw[e1];simp only[aj,bm];rcases h9 with ⟨s3,M,f1,f2,f3,f4⟩|⟨z,M,f1,f3,f4⟩
   .refine .inl ⟨s3,M,f1,by rw[<-dK];exact f2,o_,?_⟩;rw[ah qP,<-f4];simp(maxSteps:=300000) (disch:=omega)[↓ac,↓aa,hg,hp1,hp2,hG,e3]
   .refine .inr ⟨z,M,f1,o_,?_⟩;rw[ah qP,<-f4];simp(maxSteps:=300000) (disch:=omega)[↓ac,↓aa,hg,hp1,hp2,hG,e3]
  .rw[e1];refine .inr ⟨z,N+1,rfl,o_,?_⟩;rw[ah qP];simp(maxSteps:=300000) (disch:=omega)[↓ac,↓aa,hg,hp1,hp2,hG,e3]
def acp (H:Tl hp L)(H2:Tl hq L)(full:P_)(hY:Rnd hp hq L l (aM full) st dz)(hgp:∀s,get (hp s []) p=some (.cells [.d (.lst (ie full))]))(hfl:full.length<=1000)(hr:∀q∈full,0<=q.len∧q.len<=1000)(N:Nat)(s:σ)(hN:L<=N)(hi:dz 0 s) :
  (∃s2 M,wa st (aM full) 0 s=.inl s2∧dz (aM full).length s2∧N<=M∧(Dn prog).call jv [.yield l,.ptr p 0] ⟨hp s [],N⟩=some (.tup [],⟨hp s2 [],M⟩))∨
  (∃z M,wa st (aM full) 0 s=.inr z∧N<=M∧(Dn prog).call jv [.yield l,.ptr p 0] ⟨hp s [],N⟩=some (.tup [],⟨hq z [],M⟩)):=by
 have h:=apy H H2 hY full hfl full 0 0 N s rfl hr rfl o_ hN hi;have c0:((0:Nat):Int)=0:=rfl;rw[c0,bv]at h;rw[bb aaE abr rfl];rcases h with ⟨s2,M,e1,e2,e3,e4⟩|⟨z,M,e1,e3,e4⟩
 .refine .inl ⟨s2,M,e1,e2,e3,?_⟩;simp(maxSteps:=300000) (disch:=omega)[hgp,e4]
 .refine .inr ⟨z,M,e1,e3,?_⟩;simp(maxSteps:=300000) (disch:=omega)[hgp,e4]
end
def MG (x:D)(h:am)(N:Nat):(Dn prog).call Ha [.d x] ⟨h,N⟩=some (.fn jv [] [.ptr N 0],⟨put h N (.cells [.d x]),N+1⟩):=by
 rw[bb ags af8 rfl];simp(maxSteps:=300000) (disch:=omega)
abbrev aJ:=@List.getElem?_eq_some_iff
def cZ (t:J_):E_:=t.map λl=>[.lst (aH l)]
@[simp] def asV {t:J_}:(cZ t).length=t.length:=by simp[cZ]
def Gq {g:J_}{i:Nat}{l:G_}{r:J_}(h:g.drop i=l::r):(cZ g)[i]?=some [.lst (aH l)]:=by
 grind [List.getElem?_cons_zero,cZ]
def yD {l:G_}{i:Nat}{k:Int}{r:G_}(h:l.drop i=k::r):(aH l)[i]?=some [.int .i64 k]:=by
 grind [List.getElem?_cons_zero,aH]
def dW:G_->G_->Int->Int->Option (Int×Int)
 |[],[],w,z=>some (w,z)
 |k::r,n::t,w,z=>if k=0 then (if n=0 then dW r t w z else none) else if mt k n w z then (if k=13 then dW r t w n else dW r t n z) else none
 |_,_,_,_=>none
def mZ:H_->J_->Int->Int->Option (Int×Int)
 |[],[],w,z=>some (w,z)
 |l::r,t::s,w,z=>match dW (aM l) t w z with
  |some (w,z)=>mZ r s w z
  |none=>none
 |_,_,_,_=>none
abbrev BX (gain:Int)(g:H_)(t:J_):Prop:=mZ g t gain (-1)≠none
theorem K3:∀{g:H_}{t:J_}{w z:Int},mZ g t w z≠none->g.length=t.length
 |[],[],_,_,_=>rfl
 |[],_::_,_,_,h=>absurd rfl h
 |_::_,[],_,_,h=>absurd rfl h
 |l::r,t::s,w,z,h=>by
  rw[mZ]at h;split at h
  .simp only[aq,K3 h]
  simp_all
abbrev u4 (w:Int):Prop:=-1<=w∧w<=511
def Su {k n w z:Int}(h:mt k n w z):u4 n:=by
 grind
def kw (k n w z:Int):Int×Int:=if k=0 then (w,z) else if k=13 then (w,n) else (n,z)
def qu {k n:Int}{r t:G_}{w z:Int}(h:dW (k::r) (n::t) w z≠none):(k=0->n=0)∧(k≠0->mt k n w z)∧dW (k::r) (n::t) w z=dW r t (kw k n w z).1 (kw k n w z).2:=by
 grind [dW,kw]
def aez {bks t:G_}{a:Nat}{k:Int}{w z:Int}(hk:bks[a]?=some k)(h:dW (bks.drop a) (t.drop a) w z≠none):∃n,t.drop a=n::t.drop (a+1)∧(k=0->n=0)∧(k≠0->mt k n w z)∧dW (bks.drop a) (t.drop a) w z=dW (bks.drop (a+1)) (t.drop (a+1)) (kw k n w z).1 (kw k n w z).2:=by
 obtain⟨hlt,e⟩:=aJ.1 hk;have h1:=eJ hlt;rw[e]at h1;rw[h1]at h⊢
 cases h2:t.drop a with
 |nil=>rw[h2]at h;exact absurd rfl h
 |cons n r =>
  have h3:t.drop (a+1)=r:=bu h2;rw[h2]at h;obtain⟨a1,a2,a3⟩:=qu h
  simp_all
abbrev hpK (ss:J_)(g N:Nat)(l:P_)(e:aW)(s:Nat×Int×Int)(T:am):am :=
 (0,.cells [.d (.lst (cZ ss))])::(1,.cells [A_ 0])::(2,.cells [A_ s.2.1,A_ s.2.2])::(3,.cells [.ptr 2 0])::(N,.cells [A_ g])::(N+1,.cells [A_ s.1])::(N+1+1,.cells [.d (.lst (ie l))])::(N+1+1+1,.loop e [36,37] mb mh false none)::T
abbrev apv (gs:H_)(g N:Nat):aW:=[(5,.ptr 0 0),(6,.ptr 1 0),(7,.ptr 3 0),(8,.ptr N 0),(10,.ptr (N+1) 0),(27,.d (.lst (bF gs))),(28,A_ gs.length),(29,A_ g),(35,.fn jv [] [.ptr (N+1+1) 0])]
def aG7 {ss:J_}{g N:Nat}{l:P_}{e:aW}(hN:4<=N):Tl (hpK ss g N l e) (N+1+1+1+1):=by
 constructor
 .intro s K o h;simp(disch:=omega)[↓aa]
 .intro s K o o' h;simp(disch:=omega)[↓aa]
 .intro s K o h;simp(disch:=omega)[↓aa]
 .intro s K o h;simp(disch:=omega)[↓aa]
def noH (z:Empty)(_:am):am:=nomatch z
def ao6 {L:Nat}:Tl noH L:=by constructor<;>(grind)
structure LK (F:Obj->Int->Int->Int->am)(ss:J_)(g:Int)(L N:Nat):Prop where
 gl:∀q m w z,get (F q m w z) L=some q
 pl:∀q m w z q',put (F q m w z) L q'=F q' m w z
 g0:∀q m w z,get (F q m w z) 0=some (.cells [.d (.lst (cZ ss))])
 g2:∀q m w z,get (F q m w z) 2=some (.cells [A_ w,A_ z])
 p2:∀q m w z w' z',put (F q m w z) 2 (.cells [A_ w',A_ z'])=F q m w' z'
 g3:∀q m w z,get (F q m w z) 3=some (.cells [.ptr 2 0])
 gN:∀q m w z,get (F q m w z) N=some (.cells [A_ g])
 gM:∀q m w z,get (F q m w z) (N+1)=some (.cells [A_ m])
 pM:∀q m w z m',put (F q m w z) (N+1) (.cells [A_ m'])=F q m' w z
def aCK {F:Obj->Int->Int->Int->am}{L:Nat}(ss:J_)(hss:ss.length<=1000)(gs:H_)(hgs:gs.length<=1000)(g N:Nat)(H:LK F ss g L N)(t:G_)(ht:t.length<=100000)(hg:(cZ ss)[g]?=some [.lst (aH t)])(a:Nat)(k:Int)(w z:Int)(M:Nat)(n:Int)(r:G_)(hd:t.drop a=n::r)(h0:k=0->n=0)(h1:k≠0->mt k n w z)(hk:0<=k∧k<=13)(hw:u4 w)(hz:u4 z) :
  cy (Dn prog) (.yield L) [A_ (a:Int),A_ k] ⟨F (.loop (apv gs g N) [36,37] mb mh false none) a w z,M⟩=some (B_ true,⟨F (.loop (apv gs g N) [36,37] mb mh false none) (a+1) (kw k n w z).1 (kw k n w z).2,M⟩):=by
 have ha:=bw hd;have hn:=yD hd;have gl:g<ss.length:=by
  obtain⟨h,_⟩:=aJ.1 hg;simpa using h
 have T:=λq m=>Qp (hp:=λw z=>F q m w z) (A:=2) ⟨λs z=>H.g2 q m s z,λs z s' z'=>H.p2 q m s z s' z'⟩ k n w z M
 by_cases k0:k=0
 .have:=h0 k0;subst k0 this;simp(disch:=omega)[AT,Bm,↓ac,↓aa,hg,hn,H.gl,H.pl,H.g0,H.gN,H.gM,H.pM,kw]
 .have hT:=h1 k0;have hn5:=Su hT;have T:=λq m=>T q m o_ o_ (by omega)
  simp only[ac hT]at T;have e:(kw k n w z)=if k=13 then (w,n) else (n,z):=by rw[kw,aa k0]
  by_cases k13:k=13
  .rw[e,ac k13];simp(disch:=omega)[AT,Bm,↓ac,↓aa,hg,hn,H.gl,H.pl,H.g0,H.g3,H.gN,H.gM,H.pM,T]
  .rw[e,aa k13];simp(disch:=omega)[AT,Bm,↓ac,↓aa,hg,hn,H.gl,H.pl,H.g0,H.g3,H.gN,H.gM,H.pM,T]
abbrev FK (ss:J_)(g N:Nat)(l:P_)(T:am)(q:Obj)(m w z:Int):am :=
 (0,.cells [.d (.lst (cZ ss))])::(1,.cells [A_ 0])::(2,.cells [A_ w,A_ z])::(3,.cells [.ptr 2 0])::(N,.cells [A_ g])::(N+1,.cells [A_ m])::(N+1+1,.cells [.d (.lst (ie l))])::(N+1+1+1,q)::T
def aD2 {ss:J_}{g N:Nat}{l:P_}{T:am}(hN:4<=N):LK (FK ss g N l T) ss g (N+1+1+1) N:=by
 constructor<;>intro q m w z<;>(try intro q')<;>(try intro q'')<;>simp(disch:=omega)[↓aa]
def aDf (ss:J_)(hss:ss.length<=1000)(gs:H_)(hgs:gs.length<=1000)(g N:Nat)(hN:4<=N)(t:G_)(ht:t.length<=100000)(hg:(cZ ss)[g]?=some [.lst (aH t)])(l:P_)(hl:∀k∈aM l,0<=k∧k<=13)(fin:Int×Int) :
  Rnd (hpK ss g N l (apv gs g N)) noH (N+1+1+1+1) (N+1+1+1) (aM l) (λa k s=>.inl (a+1,kw k (nth t a) s.2.1 s.2.2)) (λa s=>s.1=a∧u4 s.2.1∧u4 s.2.2∧dW ((aM l).drop a) (t.drop a) s.2.1 s.2.2=some fin):=by
 intro a k s K o M hk hi hK hM;obtain⟨i1,i2,i3,i4⟩:=hi;obtain⟨n,d1,d2,d3,d4⟩:=aez hk (by rw[i4];simp);have hn:nth t a=n:=by
  grind [bw,q9]
 have hkm:=hl k d_;rw[i4]at d4;have hgo:u4 (kw k n s.2.1 s.2.2).1∧u4 (kw k n s.2.1 s.2.2).2:=by
  grind [kw]
 refine .inl ⟨(a+1,kw k n s.2.1 s.2.2),u_,⟨rfl,hgo.1,hgo.2,d4.symm⟩,?_⟩;obtain⟨m,w,z⟩:=s;subst i1;have:=aCK ss hss gs hgs g N (aD2 (ss:=ss) (g:=g) (l:=l) (T:=[(K,o)]) hN) t ht hg m k w z M n _ d1 d2 d3 hkm i2 i3;exact this
def PE {l:P_}{lf:Int}(h:fitsS lf l):∀k∈aM l,0<=k∧k<=13:=by
 induction l generalizing lf with
 |nil=>grind [aM]
 |cons s r ih =>
  intro k hk;obtain⟨h1,h2⟩:=h
  grind [aM]
abbrev aG8 (ss:J_)(w z:Int):am:=[(0,.cells [.d (.lst (cZ ss))]),(1,.cells [A_ 0]),(2,.cells [A_ w,A_ z]),(3,.cells [.ptr 2 0])]
def ahq {t:G_}{a:Nat}{w z:Int}{fin:Int×Int}(h:dW [] (t.drop a) w z=some fin):(w,z)=fin∧t.length<=a:=by
 cases h1:t.drop a<;>simp_all [dW]
theorem YM:∀{bks t:G_}{w z:Int}{fin:Int×Int},dW bks t w z=some fin->bks.length=t.length
 |[],[],_,_,_,_=>rfl
 |[],_::_,_,_,_,h=>absurd h (by simp[dW])
 |_::_,[],_,_,_,h=>absurd h (by simp[dW])
 |k::r,n::t,w,z,fin,h=>by
  have h1:=qu (by rw[h];simp);rw[h]at h1;have:=YM h1.2.2.symm
  simp_all
def acQ (ss:J_)(hss:ss.length<=1000)(hss2:∀t∈ss,t.length<=100000)(gs:H_)(hgs:gs.length<=1000)(m:Int)(hm:m<=1000):∀(gr:H_) (sr:J_) (i N:Nat) (w z:Int),gs.drop i=gr->ss.drop i=sr->fJ m gr->(∀l∈gr,l.length<=1000)->u4 w->u4 z->mZ gr sr w z≠none->4<=N->
  ∃M w' z',(Dn prog).code (.loop uC) ⟨[(5,.ptr 0 0),(6,.ptr 1 0),(7,.ptr 3 0),(27,.d (.lst (bF gs))),(28,A_ gs.length),(29,A_ i)],⟨aG8 ss w z,N⟩⟩ =
  some (.exit 0,⟨[(6,.ptr 1 0)],⟨[(1,.cells [A_ 0]),(2,.cells [A_ w',A_ z'])],M⟩⟩):=by
 intro gr
 induction gr with
 |nil =>
  intro sr i N w z hd hd2 hf hl hw hz hr hN;have hi:=aY hd;refine⟨N,w,z,?_⟩;rw[ah Kw];simp(disch:=omega)[↓ac,↓aa]
 |cons l r ih =>
  intro sr i N w z hd hd2 hf hl hw hz hr hN;have hg:=lj hd;have hlt:=bw hd;have hfl:=hf l (.head _);have hll:=hl l (.head _)
  cases sr with
  |nil=>exact absurd rfl hr
  |cons t s =>
   have hgt:=Gq hd2;have htl:=hss2 t (by rw[<-aV i ss,hd2];simp);have hlt2:=bw hd2;rw[mZ]at hr
   cases hrow:dW (aM l) t w z with
   |none=>simp_all
   |some fin =>
    rw[hrow]at hr;have hlen:=YM hrow;have hb:=acp (p:=N+1+1) (aG7 (ss:=ss) (g:=i) (l:=l) (e:=apv gs i N) hN) ao6 l (aDf ss hss gs hgs i N hN t htl hgt l (PE hfl) fin) (λs=>by simp(disch:=omega)[↓aa]) hll (λq hq=>by have:=(uv hfl hm q hq).1;omega) (N+1+1+1+1) (0,w,z) (al _) ⟨rfl,hw,hz,u_⟩;rcases hb with ⟨⟨m2,w2,z2⟩,M,e1,⟨e2,e3,e4,e5⟩,e6,e7⟩|⟨z,_⟩
    .rw[cm (al _)]at e5;obtain⟨e8,e9⟩:=ahq e5;subst e8;obtain⟨M2,w3,z3,f⟩:=ih s (i+1) M w2 z2 (bu hd) (bu hd2) (λq hq=>hf q (.tail _ hq)) (λq hq=>hl q (.tail _ hq)) e3 e4 hr o_;refine⟨M2,w3,z3,?_⟩;have c0:((0:Nat):Int)=0:=rfl;simp only[hpK,c0]at e7;rw[ah Kw,<-f];simp(disch:=omega)[↓ac,↓aa,hg,hgt,MG,rd,e7]
    grind
def akN (gain m:Int)(g:H_)(t:J_)(hgn:0<=gain∧gain<=255)(hl:g.length<=8)(hm:0<=m∧m<=40)(hf:fJ m g)(hf2:∀l∈g,l.length<=1000)(ht:BX gain g t)(ht2:∀l∈t,l.length<=100000) :
  bh prog Ry [A_ gain,.d (.lst (bF g)),.d (.lst (cZ t))]=some (A_ 0):=by
 have h1:=aep gain m g hgn hl hm λl h=>⟨hf l h,hf2 l h⟩
 have hlen:=K3 ht;obtain⟨M,w,z,e⟩:=acQ t o_ ht2 g o_ m o_ g t 0 4 gain (-1) rfl rfl hf hf2 o_ o_ ht (al _);have c0:((0:Nat):Int)=0:=rfl;rw[c0]at e;rw[aD agk afv rfl];simp(disch:=omega)[↓ac,↓aa,h1,e]
abbrev di:=@List.exists_cons_of_ne_nil
def pE (xs:AD_):E_:=xs.map λl=>[.lst (ai l)]
@[simp] def aeR {t:AD_}:(pE t).length=t.length:=by simp[pE]
def Ll {g:AD_}{i:Nat}{l:C_}{r:AD_}(h:g.drop i=l::r):(pE g)[i]?=some [.lst (ai l)]:=by
 have:=aT (λl=>l[0]?) h;simp only[cf,b9,dX]at this;rw[pE,b8,this];rfl
def bx {l:C_}:(ai l).length=l.length:=by simp[ai]
def aqB (xs:AD_)(hx:xs.length<=1000)(h:am)(N:Nat):∀(r:AD_) (i:Nat) (n:Nat),xs.drop i=r->n+r.flatten.length<=1000000000->
  (Dn prog).code (.loop kM) ⟨[(0,.d (.lst (pE xs))),(3,A_ n),(9,.d (.lst (pE xs))),(10,A_ xs.length),(11,A_ i)],⟨h,N⟩⟩ =
  some (.exit 0,⟨[(0,.d (.lst (pE xs))),(3,A_ (n+r.flatten.length:Nat))],⟨h,N⟩⟩):=by
 intro r
 induction r with
 |nil =>
  intro i n hd hn;have hi:=aY hd;rw[ah xP];simp(maxSteps:=300000) (disch:=omega)[↓aa]
 |cons l r ih =>
  intro i n hd hn;have hg:=Ll hd;have hlt:=bw hd;simp only[dC,aj]at hn⊢;have h5:=ih (i+1) (n+l.length) (bu hd) o_;have c1:((i+1:Nat):Int)=(i:Int)+1:=rfl;have c2:((n+l.length:Nat):Int)=(n:Int)+l.length:=rfl;rw[c1,c2,dK]at h5;rw[ah xP,<-h5];simp(maxSteps:=300000) (disch:=omega)[↓ac,↓aa,hg,bx]
def ara (xs:AD_)(hx:xs.length<=1000)(h:am)(N:Nat):∀(r:AD_) (i:Nat) (acc:C_),xs.drop i=r->acc.length+r.flatten.length<=1000000000->
  (Dn prog).code (.loop kE) ⟨[(6,.own false 1 (ai acc)),(25,.d (.lst (pE xs))),(26,A_ xs.length),(27,A_ i)],⟨h,N⟩⟩ =
  some (.exit 2,⟨[(6,.own false 1 (ai (acc++r.flatten)))],⟨h,N⟩⟩):=by
 intro r
 induction r with
 |nil =>
  intro i acc hd hn;have hi:=aY hd;rw[ah pz];simp(maxSteps:=300000) (disch:=omega)[↓aa]
 |cons l r ih =>
  intro i acc hd hn;have hg:=Ll hd;have hlt:=bw hd;simp only[dC,aj]at hn⊢;have h5:=ih (i+1) (acc++l) (bu hd) (by simp only[aj];omega);have c1:((i+1:Nat):Int)=(i:Int)+1:=rfl;rw[c1,aA]at h5;rw[ah pz,<-h5];simp(maxSteps:=300000) (disch:=omega)[↓ac,↓aa,hg,bx]
def axo (n:Nat)(hn:0<n∧n<=1000000000):(Dn prog).call Ec [.nl,A_ n] ⟨[],0⟩=some (.sl 0 0 0,⟨[(0,.arr 1 (List.replicate n [.int .u8 0]))],1⟩):=by
 have e1:ej (A_ n) aX=some n:=by rw[yK o_ (by simp only[aX];omega)];simp
 have e2:It [.int .u8 0] [] .nl (A_ n)=some (.own true 1 (List.replicate n [.int .u8 0]),[]):=by
  unfold It;rw[e1];obtain⟨m,rfl⟩:∃m,n=m+1:=⟨n-1,o_⟩
  simp(disch:=omega)[cL,↓ac]
 have e0:ej (A_ 0) n=some 0:=yK o_ o_;have e3:mR [] 1 .nl none (some (.int .i64 0)) none=some .nl:=rfl;have e4:mR [(0,.arr 1 (List.replicate n [D.int .u8 0]))] 1 (.sl 0 0 n) none (some (.int .i64 0)) none=some (.sl 0 0 0):=by
  simp[mR,okSl,vR,lenOf,xu,e0,wR]
 rw[bb RR RW rfl];simp(maxSteps:=300000) (disch:=omega)[↓ac,↓aa,acK,e2,e3,e4]
def ajx (xs:AD_)(hx:xs.length<=1000)(hn:0<xs.flatten.length∧xs.flatten.length<=1000000000):bh prog BN [.d (.lst (pE xs))]=some (.own true 1 (ai xs.flatten)):=by
 have h0:=aqB xs hx [] 0 xs 0 0 rfl o_;have h2:=axo xs.flatten.length hn;have c0:((0:Nat):Int)=0:=rfl;rw[bv,c0]at h0;have hne:xs≠[]:=by intro h;subst h;simp at hn
 obtain⟨l,r,e⟩:=di hne;have h1:=ara xs hx [] 1 r 1 l (by rw[e];rfl) (by rw[e]at hn;simpa using hn.2);have hg:=Ll (g:=xs) (i:=0) (l:=l) (r:=r) (by rw[e];rfl);have hlt:0<xs.length:=bN.2 hne;have e5:l++r.flatten=xs.flatten:=by rw[e];rfl
 rw[e5]at h1;have hll:l.length<=1000000000:=by rw[<-e5,aj]at hn;omega
 clear e5 e;generalize xs.flatten=F at *;have c1:((1:Nat):Int)=1:=rfl;rw[c1]at h1;rw[aD NQ M8 rfl];simp(maxSteps:=300000) (disch:=omega)[↓ac,↓aa,h0,h2];rw[ah pz];simp(maxSteps:=300000) (disch:=omega)[↓ac,↓aa,hg,bx,h1]
def cR (n:Nat):Nat:=if n=0 then 0 else n.log2+1
def IK {n:Nat}:n<2 ^ cR n:=by
 unfold cR;by_cases h:n=0
 .subst h;decide
 .rw[aa h];exact(Nat.log2_lt h).1 (Nat.lt_succ_self _)
def vY {n:Nat}(h:n≠0):2 ^ (cR n-1)<=n:=by
 unfold cR;rw[aa h,dr];exact(Nat.le_log2 h).1 (al _)
def asM {n k:Nat}(h1:2 ^ k<=n)(h2:n<2 ^ (k+1)):cR n=k+1:=by
 have h0:n≠0:=by have:=bU k;omega
 unfold cR;rw[aa h0];have a:=(Nat.le_log2 h0).2 h1;have b:=(Nat.log2_lt h0).2 h2;omega
def avT {n:Nat}(h:256<=n):cR n=8+cR (n / 256):=by
 have h0:n / 256≠0:=o_;obtain⟨k,hk⟩:∃k,cR (n / 256)=k+1:=⟨cR (n / 256)-1,by unfold cR;rw[aa h0];omega⟩
 have a:=IK (n:=n / 256);have b:=vY h0;rw[hk]at a b⊢;rw[dr]at b;rw[asM (k:=k+8)]
 .omega
 .rw[Nat.pow_add];omega
 .rw[show k+8+1=k+1+8 by omega,Nat.pow_add];omega
def adl:AG_:=[0,1,2,2,3,3,3,3,4,4,4,4,4,4,4,4,5,5,5,5,5,5,5,5,5,5,5,5,5,5,5,5,6,6,6,6,6,6,6,6,6,6,6,6,6,6,6,6,6,6,6,6,6,6,6,6,6,6,6,6,6,6,6,6,7,7,7,7,7,7,7,7,7,7,7,7,7,7,7,7,7,7,7,7,7,7,7,7,7,7,7,7,7,7,7,7,7,7,7,7,7,7,7,7,7,7,7,7,7,7,7,7,7,7,7,7,7,7,7,7,7,7,7,7,7,7,7,7,8,8,8,8,8,8,8,8,8,8,8,8,8,8,8,8,8,8,8,8,8,8,8,8,8,8,8,8,8,8,8,8,8,8,8,8,8,8,8,8,8,8,8,8,8,8,8,8,8,8,8,8,8,8,8,8,8,8,8,8,8,8,8,8,8,8,8,8,8,8,8,8,8,8,8,8,8,8,8,8,8,8,8,8,8,8,8,8,8,8,8,8,8,8,8,8,8,8,8,8,8,8,8,8,8,8,8,8,8,8,8,8,8,8,8,8,8,8,8,8,8,8,8,8,8,8,8,8]
def auw:∀n,n<256->(adl[n]?).map UInt8.toNat=some (cR n):=e_
def amY {n:Nat}(h:n<256):ape (.d (.str adl)) (.d (.int .u8 n))=some (.int .u8 (cR n)):=by
 have:=auw n h;show(match adl[n]? with|some b=>some (D.int .u8 (.ofNat b.toNat))|none=>none)=_
 cases hx:adl[n]? with
 |none=>rw[hx]at this;exact absurd this (by simp)
 |some b =>
  rw[hx]at this;injection this with this
  show some (D.int .u8 ((b.toNat:Nat):Int))=_;rw[this]
def aHg {n:Nat}:fo .shr (.d (.int .u64 (n:Int))) (.d (.int .u64 8))=some (.int .u64 ((n / 256:Nat):Int)):=by
 rw[lT o_];have:min ((8:Int)).toNat IntKind.u64.bits=8:=rfl;rw[this,fD _ (rA _),<-Int.natCast_ediv]
def ahg (n:Nat)(hn:n<65536):bh prog KY [.d (.int .u64 n)]=some (A_ (cR n)):=by
 have h64:bh prog H8 [.d (.int .u64 n)]=some (A_ (cR n)):=by
  rw[aD VM VJ rfl];by_cases h:256<=n
  .have h2:=amY (n:=n / 256) o_;have h3:=avT h;have h4:cR (n / 256)<=8:=by
    have a:=vY (n:=n / 256) o_;rcases bD 8 (cR (n / 256)) with h|h
    .have:2 ^ 8<=2 ^ (cR (n / 256)-1):=aw o_ o_;omega
    .exact h
   have c1:((n / 256:Nat):Int)=(n:Int) / 256:=o_;rw[adl,c1]at h2;rw[h3];simp(maxSteps:=300000) (disch:=omega)[↓ac,↓aa,-lT,aHg,h2]
  .have h2:=amY (n:=n) o_;have h4:cR n<=8:=by
    by_cases h0:n=0
    .subst h0;decide
    .have a:=vY (n:=n) h0;rcases bD 8 (cR n) with h|h
     .have:2 ^ 8<=2 ^ (cR n-1):=aw o_ o_;omega
     .exact h
   rw[adl]at h2;simp(maxSteps:=300000) (disch:=omega)[↓ac,↓aa,-lT,h2]
 rw[aD abh Zi rfl];simp(maxSteps:=300000) (disch:=omega)[↓ac,↓aa,h64,ao9]
abbrev we:=@Int.natCast_mul
abbrev nW:=@Nat.and_two_pow_sub_one_eq_mod
def mc (low:Int)(w:Nat):G_->Nat->Nat
 |[],n=>n
 |v::r,n=>mc low w r (n*w+(v-low).toNat)
abbrev Sw (id:Nat)(vs:G_):Prop:=vs.length=eI id∧∀v∈vs,dp id<=v∧v<dp id+cK id
def IS {low:Int}{w:Nat}:∀{r:G_}{n j:Nat},(∀v∈r,low<=v∧v<low+w)->n<w ^ j->mc low w r n<w ^ (j+r.length)
 |[],n,j,_,h=>h
 |v::r,n,j,hr,h=>by
  have h1:=hr v (.head _);have h2:n*w+(v-low).toNat<w ^ (j+1):=by
   rw[df];have:(n+1)*w<=w ^ j*w:=ct _ h;rw[dg]at this;omega
  have:=IS (r:=r) (λq hq=>hr q (.tail _ hq)) h2;rw[mc,aq,show j+(r.length+1)=j+1+r.length by omega];exact this
def agv (id:Nat)(hid:jP id)(vs:G_)(hl:vs.length=eI id)(N:Nat):∀(r:G_) (i n:Nat),vs.drop i=r->(∀v∈r,dp id<=v∧v<dp id+cK id)->n<cK id ^ i->
  (Dn prog).code (.loop wG) ⟨[(6,.ptr 0 0),(8,A_ n),(26,.d (.lst (aH vs))),(27,A_ vs.length),(28,A_ i)],⟨[(0,.cells [A_ (eI id),A_ (dp id),A_ (dp id+cK id-1),A_ (bO id)])],N⟩⟩ =
  some (.exit 1,⟨[(8,A_ (mc (dp id) (cK id) r n))],⟨[],N⟩⟩):=by
 obtain⟨k1,k2,k3,k4,k5,k6,k7⟩:=mD id (f9 hid);have hmany:br id=cK id ^ eI id:=rfl;intro r
 induction r with
 |nil =>
  intro i n hd hr hn;have hi:=aY hd;rw[ah LO,mc];simp(maxSteps:=300000) (disch:=omega)[↓aa]
 |cons v r ih =>
  intro i n hd hr hn;have hv:=hr v (.head _);have hg:=yD hd;have hlt:=bw hd;have hw:=ad8 (eI id) (dp id) (bO id) (cK id) o_ o_;have h2:n*cK id+(v-dp id).toNat<cK id ^ (i+1):=by
   rw[df];have:(n+1)*cK id<=cK id ^ i*cK id:=ct _ hn;rw[dg]at this;omega
  have h3:cK id ^ (i+1)<=cK id ^ eI id:=aw o_ o_;have h5:=ih (i+1) (n*cK id+(v-dp id).toNat) (bu hd) (λq hq=>hr q (.tail _ hq)) h2;have c1:((i+1:Nat):Int)=(i:Int)+1:=rfl;have h4:n*cK id<=300:=o_;have c2:((n*cK id+(v-dp id).toNat:Nat):Int)=(n:Int)*cK id+v-dp id:=by
   have:(((v-dp id).toNat:Nat):Int)=v-dp id:=o_;rw[Int.natCast_add,we,this];omega
  have h6:0<=(n:Int)*cK id∧(n:Int)*cK id<=300:=by
   have:(n:Int)*cK id=((n*cK id:Nat):Int):=by rw[we]
   omega
  rw[c1,c2]at h5;rw[ah LO,mc,<-h5];simp(maxSteps:=300000) (disch:=omega)[↓ac,↓aa,hg,hw]
def aaF (id:Nat)(hid:jP id)(vs:G_)(hv:Sw id vs):bh prog Tp [A_ id,.d (.lst (aH vs))]=some (.tup [A_ (mc (dp id) (cK id) vs 0),A_ 0]):=by
 have ho:=Pr id (f9 hid);have h:=agv id hid vs hv.1 1 vs 0 0 rfl hv.2 (by rw[Nat.pow_zero];omega);have c0:((0:Nat):Int)=0:=rfl;have hl:=hv.1;obtain⟨k1,k2,k3,k4,k5,k6,k7⟩:=mD id (f9 hid);simp only[V6]at ho;rw[c0]at h;rw[aD aiI ah4 rfl];simp(maxSteps:=300000) (disch:=omega)[↓ac,↓aa,ho,h]
def Qw:∀id∈ids,(dP id).all (λe=>decide (e<br id))=true∧(dP id).length=br id∧bO id<=2:=e_
def adA {id e:Nat}(h:jP id)(he:e<br id):nth (dP id) e<br id:=by
 obtain⟨h1,h2,_⟩:=Qw id (f9 h);have:=bH.1 h1 _ (jy (l:=dP id) (i:=e) o_);simpa using this
def kl (id e:Nat):C_:=ar (nth (dP id) e / 2 ^ bO id+1) (2*cR (nth (dP id) e / 2 ^ bO id+1)-1)++ar (nth (dP id) e % 2 ^ bO id) (bO id)
def aBd {n k P:Nat}(hP:2 ^ k=P)(hk:k<=62)(h:n<9223372036854775808):fo .and (A_ (n:Int)) (A_ ((P:Int)-1))=some (.int .i64 ((n % P:Nat):Int)):=by
 have h1:2 ^ k<=2 ^ 62:=aw o_ hk;have h2:=bU k;have:=aqD (k:=.i64) (a:=n) (b:=2 ^ k-1) (by simpa [kr,IntKind.signed] using h) (by simp[kr,IntKind.signed];omega);rw[nW]at this;subst hP;have c:((2 ^ k-1:Nat):Int)=((2 ^ k:Nat):Int)-1:=o_;rw[c]at this;exact this
def aeg (id e:Nat)(hid:jP id)(he:e<br id):bh prog W4 [ov id,A_ e]=some (.tup [.own true 1 (ai (kl id e)),A_ 0]):=by
 have hr:=ZY id hid;obtain⟨h1,h2,h3⟩:=Qw id (f9 hid);have hm:br id<=300:=by have:=mD id (f9 hid);omega
 have hrk:=adA hid he;have hg:(cY (dP id))[e]?=some [.int .i64 (nth (dP id) e:Nat)]:=EG o_;unfold kl;simp only[ov]at hr⊢;generalize nth (dP id) e=r at *;have q1:=ao5 (n:=r) (k:=bO id) o_;have q2:=UE (m:=bO id) o_;have hP:1<=2 ^ bO id∧2 ^ bO id<=2 ^ 2:=⟨bU _,aw o_ h3⟩
 have hmod:r % 2 ^ bO id<2 ^ bO id:=ef _ hP.1;have q3:=aBd (n:=r) (k:=bO id) rfl o_ o_;have hdv:r / 2 ^ bO id<=r:=lQ _ _;have hr3:r<300:=o_;generalize hPP:2 ^ bO id=PP at *;generalize r / PP=RQ at *;generalize r % PP=RM at *;have q4:=ahg (RQ+1) o_;have hL1:=IK (n:=RQ+1);have hL2:=vY (n:=RQ+1) o_;have hL9:cR (RQ+1)<=9:=by
  rcases bD 9 (cR (RQ+1)) with h|h
  .have:2 ^ 9<=2 ^ (cR (RQ+1)-1):=aw o_ o_;omega
  .exact h
 have hL0:1<=cR (RQ+1):=by unfold cR;rw[aa o_];omega
 have hpw:2 ^ cR (RQ+1)<=2 ^ (2*cR (RQ+1)-1):=aw o_ o_;have p1:=me [] ((RQ+1:Nat):Int) ((2*cR (RQ+1)-1:Nat):Int) s_ o_ .nl (.inr ⟨rfl,rfl⟩);have ho1:ou ((RQ+1:Nat):Int) ((2*cR (RQ+1)-1:Nat):Int):=by
  simp only[ou,au];generalize 2 ^ (2*cR (RQ+1)-1)=Z at *;omega
 rw[ac ho1]at p1;have p2:=λb (hb:b.length<=900000000)=>me b (RM:Int) ((bO id:Nat):Int) hb o_ _ (.inl rfl)
 have ho2:ou (RM:Int) ((bO id:Nat):Int):=by simp only[ou,au,hPP];omega
 simp only[ac ho2]at p2;simp only[au,aK]at p1 p2;have p3:=p2 (ar (RQ+1) (2*cR (RQ+1)-1)) g_;have c1:((2*cR (RQ+1)-1:Nat):Int)=2*(cR (RQ+1):Int)-1:=o_;have c2:((RQ+1:Nat):Int)=(RQ:Int)+1:=rfl;rw[c1,c2]at p1;rw[c2]at q4;clear p2 hL1 hL2 hpw ho1 ho2;generalize ar (RQ+1) (2*cR (RQ+1)-1)++ar RM (bO id)=RES at *;generalize ar (RQ+1) (2*cR (RQ+1)-1)=RE1 at *;generalize cR (RQ+1)=LN at *;generalize bO id=pl at *;generalize cA id=es at *;rw[aD akX alf rfl];simp(maxSteps:=300000) (disch:=omega)[↓ac,↓aa,hr,hg,-lT,-tJ,q1,q2,q3,q4,p1,p3]
abbrev ub:=@List.flatten_nil
abbrev fq:=@List.any_cons
abbrev oe:=@Bool.false_or
def ae6 {a b:C_}:[[D.lst (ai a)],[D.lst (ai b)]]=pE [a,b]:=rfl
def apV {a b c d:C_}:[[D.lst (ai a)],[D.lst (ai b)],[D.lst (ai c)],[D.lst (ai d)]]=pE [a,b,c,d]:=rfl
def BE {id e:Nat}(hid:jP id)(he:e<br id):1<=(kl id e).length∧(kl id e).length<=20:=by
 obtain⟨h1,h2,h3⟩:=Qw id (f9 hid);have hm:br id<=300:=by have:=mD id (f9 hid);omega
 have hrk:=adA hid he;have hdv:nth (dP id) e / 2 ^ bO id<=nth (dP id) e:=lQ _ _;unfold kl;rw[aj,dk,dk];generalize nth (dP id) e / 2 ^ bO id=RQ at *;have hL2:=vY (n:=RQ+1) o_;have hL9:cR (RQ+1)<=9:=by
  rcases bD 9 (cR (RQ+1)) with h|h
  .have:2 ^ 9<=2 ^ (cR (RQ+1)-1):=aw o_ o_;omega
  .exact h
 have hL0:1<=cR (RQ+1):=by unfold cR;rw[aa o_];omega
 omega
def aeq (b:C_)(hb:b.length<=900000000)(x:AV)(hx:x=.d (.lst (ai b))∨x=.nl∧b=[])(d:Int)(hd:-60<=d∧d<=60):bh prog Gf [x,A_ d]=some (.tup [.own true 1 (ai (b++kl 12 (d+60).toNat)),A_ 0]):=by
 obtain⟨E,rfl⟩:∃E:Nat,d=(E:Int)-60:=⟨(d+60).toNat,o_⟩
 have hok:jP 12:=o_;have he:((E:Int)-60+60).toNat<br 12:=by show _<121;omega
 have hE:=aaF 12 hok [(E:Int)-60] ⟨rfl,λv hv=>by
  rw[List.mem_singleton]at hv;show -60<=v∧v < -60+((121:Nat):Int);omega⟩
 have e1:mc (dp 12) (cK 12) [(E:Int)-60] 0=((E:Int)-60+60).toNat:=by
  show 0*121+((E:Int)-60-(-60)).toNat=_;omega
 have e2:((E:Int)-60+60).toNat=E:=o_;rw[e2]at e1 he⊢;rw[e1]at hE;have hG:=Xt 12 hok;have hC:=aeg 12 E hok he;have hcl:=BE hok he;have hcat:=ajx [b,kl 12 E] s_ g_;have c12:((12:Nat):Int)=12:=rfl;have i1:aH [(E:Int)-60]=[[.int .i64 ((E:Int)-60)]]:=rfl;simp only[Zf,ov,c12,i1,dC,ub,bj]at hE hG hC hcat;rw[<-ae6]at hcat;generalize kl 12 E=CB at *;generalize cA 12=es at *;generalize dP 12=rs at *;generalize bO 12=pl at *;rw[aD alO ak1 rfl];rcases hx with rfl|⟨rfl,rfl⟩
 .simp(maxSteps:=300000) (disch:=omega)[↓ac,↓aa,hE,hG,hC,hcat]
 .have n0:ai []=[]:=rfl;rw[n0]at hcat;simp(maxSteps:=300000) (disch:=omega)[↓ac,↓aa,hE,hG,hC,hcat]
def XA (F:AV)(P:Int->Bool)(l:G_)(hl:l.length<=1000000000)(h:am)(N:Nat)(hF:firm (share F)=F)(hc:∀v∈l,cy (Dn prog) F [A_ v] ⟨h,N⟩=some (B_ (P v),⟨h,N⟩)):∀(r:G_) (i:Nat),l.drop i=r->
  (r.any P=true∧∃k:Nat,(Dn prog).code (.loop gB) ⟨[(0,.d (.lst (aH l))),(1,F),(7,A_ l.length),(8,A_ i)],⟨h,N⟩⟩=some (.ret,⟨[(4,A_ k)],⟨h,N⟩⟩))∨
  (r.any P=false∧(Dn prog).code (.loop gB) ⟨[(0,.d (.lst (aH l))),(1,F),(7,A_ l.length),(8,A_ i)],⟨h,N⟩⟩=some (.exit 0,⟨[],⟨h,N⟩⟩)):=by
 intro r
 induction r with
 |nil =>
  intro i hd;have hi:=aY hd;refine .inr ⟨rfl,?_⟩;rw[ah jI];simp(maxSteps:=300000) (disch:=omega)[↓aa]
 |cons v r ih =>
  intro i hd;have hg:=yD hd;have hlt:=bw hd;have hv:=hc v (by rw[<-aV i l,hd];simp);have h5:=ih (i+1) (bu hd);have c1:((i+1:Nat):Int)=(i:Int)+1:=rfl;rw[c1]at h5
  cases hp:P v with
  |true =>
   rw[hp]at hv;refine .inl ⟨by rw[fq,hp];rfl,i,?_⟩;rw[ah jI];simp(maxSteps:=300000) (disch:=omega)[↓ac,↓aa,hg,hF,hv]
  |false =>
   rw[hp]at hv;rw[fq,hp,oe];rcases h5 with ⟨e1,k,e2⟩|⟨e1,e2⟩
   .refine .inl ⟨e1,k,?_⟩;rw[ah jI,<-e2];simp(maxSteps:=300000) (disch:=omega)[↓ac,↓aa,hg,hF,hv]
   .refine .inr ⟨e1,?_⟩;rw[ah jI,<-e2];simp(maxSteps:=300000) (disch:=omega)[↓ac,↓aa,hg,hF,hv]
def Bl (F:AV)(P:Int->Bool)(l:G_)(hl:l.length<=1000000000)(h:am)(N:Nat)(hF:firm (share F)=F)(hF2:firm F=F)(hc:∀v∈l,cy (Dn prog) F [A_ v] ⟨h,N⟩=some (B_ (P v),⟨h,N⟩)) :
  (Dn prog).call nv [.d (.lst (aH l)),F] ⟨h,N⟩=some (B_ (l.any P),⟨h,N⟩):=by
 have h1:=XA F P l hl h N hF hc l 0 rfl;have c0:((0:Nat):Int)=0:=rfl;rw[c0]at h1;have h2:∃k:Int,(0<=k↔l.any P=true)∧(Dn prog).call yZ [.d (.lst (aH l)),F] ⟨h,N⟩=some (A_ k,⟨h,N⟩):=by
  rcases h1 with ⟨e1,k,e2⟩|⟨e1,e2⟩
  .refine⟨k,⟨λ_=>e1,λ_=>by omega⟩,?_⟩;rw[bb zq za rfl];simp(maxSteps:=300000) (disch:=omega)[e2]
  .refine⟨-1,⟨λh=>by omega,λh=>by rw[e1]at h;exact absurd h s_⟩,?_⟩;rw[bb zq za rfl];simp(maxSteps:=300000) (disch:=omega)[e2]
 obtain⟨k,e1,e2⟩:=h2;rw[bb Hy HG rfl]
 cases hp:l.any P with
 |true =>
  have:=e1.2 hp;simp(maxSteps:=300000) (disch:=omega)[↓ac,hF2,e2]
 |false =>
  have:¬0<=k:=λh=>by rw[e1.1 h]at hp;exact absurd hp (by simp)
  simp(maxSteps:=300000) (disch:=omega)[↓aa,hF2,e2]
def jb (id:Nat):Nat:=[0,1,1,2,2,4,4,7,7,12,12,8191,0].getD id 0
abbrev awz:D_:=[A_ 0,A_ 1,A_ 1,A_ 2,A_ 2,A_ 4,A_ 4,A_ 7,A_ 7,A_ 12,A_ 12,A_ 8191,A_ 0]
def afQ:bh prog Zy []=some (.agg awz):=BJ 100 (by kernel_rfl)
def axI {id:Nat}(h:id<=12):ixV 13 1 false (.agg awz) (A_ id)=some (A_ (jb id)):=by
 obtain rfl|rfl|rfl|rfl|rfl|rfl|rfl|rfl|rfl|rfl|rfl|rfl|rfl:id=0∨id=1∨id=2∨id=3∨id=4∨id=5∨id=6∨id=7∨id=8∨id=9∨id=10∨id=11∨id=12:=o_
 all_goals rfl
def bI (id:Nat):Nat:=if id<5 then 4 else 2
def auy (id:Nat):bh prog aav [A_ id]=some (A_ (bI id)):=by
 rw[aD aoe ao4 rfl];unfold bI;by_cases h:id<5
 .simp(disch:=omega)[↓ac]
 .simp(disch:=omega)[↓aa]
def L8 (m:Nat)(v:Int):Bool:=decide ((m:Int)<v∨v < -(m:Int))
def aBb (m:Nat)(hm:m<=100000)(v:Int)(N:Nat):(Dn prog).call Hh [A_ v,.ptr 0 0] ⟨[(0,.cells [A_ m])],N⟩=some (B_ (L8 m v),⟨[(0,.cells [A_ m])],N⟩):=by
 rw[bb afX afN rfl];unfold L8;by_cases h1:(m:Int)<v
 .simp(maxSteps:=300000) (disch:=omega)[↓ac,h1]
 .by_cases h2:v < -(m:Int)
  .simp(maxSteps:=300000) (disch:=omega)[↓ac,↓aa,h1,h2]
  .simp(maxSteps:=300000) (disch:=omega)[↓ac,↓aa,h1,h2]
def T3 (id:Nat)(hid:1<=id∧id<=11)(vs:G_)(hv:vs.length=bI id):bh prog Xf [A_ id,.d (.lst (aH vs))]=some (.tup [B_ ((!(vs.any (L8 (jb id))))),A_ 0]):=by
 have hm:jb id<=100000:=by
  obtain rfl|rfl|rfl|rfl|rfl|rfl|rfl|rfl|rfl|rfl|rfl:id=1∨id=2∨id=3∨id=4∨id=5∨id=6∨id=7∨id=8∨id=9∨id=10∨id=11:=o_
  all_goals decide
 have hd4:bI id<=4:=by unfold bI;split<;>omega
 have h1:=Bl (.fn Hh [] [.ptr 0 0]) (L8 (jb id)) vs o_ [(0,.cells [A_ (jb id)])] 1 rfl rfl λv _=>by
  simp(maxSteps:=300000) (disch:=omega)[aBb (jb id) hm v 1]
 have h2:=axI (id:=id) o_;have h3:=auy id;rw[aD alQ akB rfl];simp(maxSteps:=300000) (disch:=omega)[↓ac,↓aa,h3,afQ,h2,h1]
def kI (id:Nat)(v:Int):Int:=if id=11∧16<=v.natAbs then 16 else v.natAbs
def qW (v:Int):C_:=if v=0 then [] else if v<0 then [1] else [0]
def xK (id:Nat)(v:Int):C_:=if id=11∧16<=v.natAbs then List.replicate (cR v.natAbs-5) 1++(0::ar (v.natAbs % 2 ^ (cR v.natAbs-1)) (cR v.natAbs-1)) else []
def Ar (id:Nat)(vs:G_):C_:=if lc id then kl id (mc (dp id) (cK id) vs 0)
 else kl id (mc (dp id) (cK id) (vs.map (kI id)) 0)++(vs.flatMap qW++vs.flatMap (xK id))
def aqQ (v:Int)(h:-100000<=v∧v<=100000):bh prog V4 [A_ v]=some (A_ v.natAbs):=by
 rw[aD amc alD rfl];by_cases h0:v<0
 .have:((v.natAbs:Nat):Int)=-v:=o_;rw[this];simp(disch:=omega)[↓ac]
 .have:((v.natAbs:Nat):Int)=v:=o_;rw[this];simp(disch:=omega)[↓aa]
def avp:∀m∈List.range 9,bh prog NR [.d (.lst [[.int .u8 1]]),A_ m]=some (.own true 1 (ai (List.replicate m 1))):=JC 100 (List.range 9) (by kernel_rfl)
def as4 {m:Nat}{h:am}{xs ys:E_}(hl:xs.length+ys.length<=1000000000):∃v,et m h (aG m xs) ys=some (v,h)∧firm v=aG m (xs++ys):=by
 cases xs with
 |nil =>
  cases ys with
  |nil=>exact⟨.nl,rfl,rfl⟩
  |cons y r =>
   simp only[aq,bg]at hl;exact⟨.own true m (y::r),by simp(disch:=omega)[aG,↓ac],rfl⟩
 |cons x r =>
  exact⟨.own false m (x::r++ys),by
   grind [aek,Uw,adE,am6,amK,aX],rfl⟩
def azj {v:Int}(h:-100000<=v∧v<0):wr .u64 v=v+18446744073709551616:=by
 grind [wr,py,IntKind.wrap,IntKind.bits,IntKind.signed]
def alM (id:Nat)(hid:1<=id∧id<=11)(pl ents ranks:D)(x0:AV)(vs:G_)(hl:vs.length<=4)(N:Nat):∀(r:G_) (i:Nat) (sz:G_) (sg es:C_),vs.drop i=r->(∀v∈r,v.natAbs<=8191)->sz.length<=100+i->sg.length<=100+i->es.length<=100+100*i->
  (Dn prog).code (.loop AB) ⟨[(0,x0),(4,.ptr 0 0),(15,aG 1 (aH sz)),(16,aG 1 (ai sg)),(17,aG 1 (ai es)),(69,.d (.lst (aH vs))),(70,A_ vs.length),(71,A_ i)],⟨[(0,.cells [A_ id,.d pl,.d ents,.d ranks])],N⟩⟩ =
  some (.exit 0,⟨[(0,x0),(4,.ptr 0 0),(15,aG 1 (aH (sz++r.map (kI id)))),(16,aG 1 (ai (sg++r.flatMap qW))),(17,aG 1 (ai (es++r.flatMap (xK id))))],⟨[(0,.cells [A_ id,.d pl,.d ents,.d ranks])],N⟩⟩):=by
 intro r
 induction r with
 |nil =>
  intro i sz sg es hd hr h1 h2 h3;have hi:=aY hd;rw[ah HR];simp(disch:=omega)[↓aa]
 |cons v r ih =>
  intro i sz sg es hd hr h1 h2 h3;have hg:=yD hd;have hlt:=bw hd;have hv:=hr v (.head _);have hs:=aqQ v o_;have c1:((i+1:Nat):Int)=(i:Int)+1:=rfl;have hlg:=bx (l:=sg);have hle:=bx (l:=es);have hsz:=iD (l:=sz);obtain⟨n,hn⟩:∃n,n=v.natAbs:=⟨_,rfl⟩
  rw[<-hn]at hs hv;have hvs:YO .u64 (A_ v)=some (.int .u64 (wr .u64 v)):=rfl;have hpos:0<v->fo .shr (.d (.int .u64 v)) (.d (.int .u64 63))=some (.int .u64 0):=λh=>by
   rw[lT o_];have:min ((63:Int)).toNat IntKind.u64.bits=63:=rfl
   grind
  have hneg:v<0->fo .shr (.d (.int .u64 (wr .u64 v))) (.d (.int .u64 63))=some (.int .u64 1):=λh=>by
   rw[azj o_,lT o_];have:min ((63:Int)).toNat IntKind.u64.bits=63:=rfl
   grind
  have hb1:ai sg++[[D.int .u8 1]]=ai (sg++[1]):=by simp[ai]
  have hb0:ai sg++[[D.int .u8 0]]=ai (sg++[0]):=by simp[ai]
  by_cases he:id=11∧16<=v.natAbs
  .obtain⟨h11,h16⟩:=he;rw[<-hn]at h16;have hL1:=IK (n:=n);have hL2:=vY (n:=n) o_;have hL13:cR n<=13:=by
    rcases bD 13 (cR n) with h|h
    .have:2 ^ 13<=2 ^ (cR n-1):=aw o_ o_;omega
    .exact h
   have hL5:5<=cR n:=by
    rcases bD (cR n) 5 with h|h
    .have:2 ^ cR n<=2 ^ 4:=aw o_ o_;omega
    .exact h
   obtain⟨m,hm⟩:∃m,cR n=m+5:=⟨cR n-5,o_⟩
   have e1:kI id v=16:=by grind [kI]
   have e2:xK id v=List.replicate m 1++(0::ar (n % 2 ^ (m+4)) (m+4)):=by
    grind [xK]
   have hl2:=ahg n o_;have hrp:=avp m (d9.2 o_);have hlr:(ai (List.replicate m 1)).length=m:=u_;obtain⟨w,hw1,hw2⟩:=as4 (m:=1) (h:=[(0,.cells [A_ id,.d pl,.d ents,.d ranks])]) (xs:=ai es) (ys:=ai (List.replicate m 1)) o_;have hbe:ai es++ai (List.replicate m 1)=ai (es++List.replicate m 1):=ahh;rw[hbe]at hw2;have hlw:(ai (es++List.replicate m 1)).length=es.length+m:=u_;have hbw:ai (es++List.replicate m 1)++[[D.int .u8 0]]=ai (es++List.replicate m 1++[0]):=by simp[ai]
   have hp4:2 ^ (m+4)<=2 ^ 12:=aw o_ o_;have hmod:n % 2 ^ (m+4)<2 ^ (m+4):=ef _ (bU _);have q2:=UE (m:=m+4) o_;have q3:=aBd (n:=n) (k:=m+4) rfl o_ o_;have p1:=me (es++List.replicate m 1++[0]) ((n % 2 ^ (m+4):Nat):Int) ((m+4:Nat):Int) d_ o_ _ (.inl rfl);rw[ac d_]at p1;simp only[au]at p1;have c4:((m+4:Nat):Int)=(m:Int)+4:=rfl;have c5:((m+5:Nat):Int)=(m:Int)+5:=rfl;rw[hm,c5]at hl2;rw[c4]at p1 q2;have h5:=λs2 (h:s2.length<=101+i)=>ih (i+1) (sz++[16]) s2 (es++List.replicate m 1++[0]++ar (n % 2 ^ (m+4)) (m+4)) (bu hd) (λq hq=>hr q (.tail _ hq)) d_ o_ (by simp;omega)
   generalize n % 2 ^ (m+4)=RM at *;generalize 2 ^ (m+4)=PP at *;have eo:aG 1 (aH (sz++[16]))=.own false 1 (aH (sz++[16])):=md (by simp[aH]);have eo3:aG 1 (ai (es++List.replicate m 1++[0]++ar RM (m+4)))=.own false 1 (ai (es++List.replicate m 1++[0]++ar RM (m+4))):=md (by simp[ai]);have eL:es++List.replicate m 1++[0]++ar RM (m+4)++r.flatMap (xK id)=es++(List.replicate m 1++(0::ar RM (m+4))++r.flatMap (xK id)):=s_;simp only[eo3,eL]at h5;generalize es++List.replicate m 1++[0]++ar RM (m+4)=ES at *;generalize es++List.replicate m 1++[0]=E0 at *;generalize es++List.replicate m 1=EM at *;simp only[c1,eo,aA,cu]at h5;rw[ah HR,bY,aE,aE,e1,e2];have v0:v≠0:=o_;by_cases hvn:v<0
   .have e3:qW v=[1]:=by grind [qW]
    have eo2:aG 1 (ai (sg++[1]))=.own false 1 (ai (sg++[1])):=md (by simp[ai]);have h6:=h5 (sg++[1]) d_;simp only[eo2,aA,cu]at h6;rw[e3,cu];simp only[aA,aQ]at h6⊢;rw[<-h6];simp(disch:=omega)[↓ac,↓aa,hg,hs,-lT,-tJ,hneg hvn,hb1,hl2,hrp,hw1,hw2,hbw,q2,q3,p1]
   .have hvp:0<v:=o_;have e3:qW v=[0]:=by grind [qW]
    have eo2:aG 1 (ai (sg++[0]))=.own false 1 (ai (sg++[0])):=md (by simp[ai]);have h6:=h5 (sg++[0]) d_;simp only[eo2,aA,cu]at h6;rw[e3,cu];simp only[aA,aQ]at h6⊢;rw[<-h6];simp(disch:=omega)[↓ac,↓aa,hg,hs,-lT,-tJ,hpos hvp,hb0,hl2,hrp,hw1,hw2,hbw,q2,q3,p1]
  .have e1:kI id v=n:=by grind [kI]
   have e2:xK id v=[]:=by grind [xK]
   have h5:=λs2 (h:s2.length<=101+i)=>ih (i+1) (sz++[(n:Int)]) s2 es (bu hd) (λq hq=>hr q (.tail _ hq)) d_ o_ (by omega)
   have eo:aG 1 (aH (sz++[(n:Int)]))=.own false 1 (aH (sz++[(n:Int)])):=md (by simp[aH]);simp only[c1,eo,aA,cu]at h5;rw[ah HR,bY,aE,aE,e1,e2,aK];have hen:¬(id=11∧16<=n):=o_;by_cases v0:v=0
   .have e3:qW v=[]:=by grind [qW]
    rw[e3,aK,<-h5 sg o_];by_cases h11:id=11
    .simp(disch:=omega)[↓ac,↓aa,hg,hs]
    .simp(disch:=omega)[↓ac,↓aa,hg,hs]
   .by_cases hvn:v<0
    .have e3:qW v=[1]:=by grind [qW]
     have eo2:aG 1 (ai (sg++[1]))=.own false 1 (ai (sg++[1])):=md (by simp[ai]);have h6:=h5 (sg++[1]) d_;simp only[eo2,aA,cu]at h6;rw[e3,cu,<-h6];by_cases h11:id=11
     .simp(disch:=omega)[↓ac,↓aa,hg,hs,-lT,hneg hvn,hb1]
     .simp(disch:=omega)[↓ac,↓aa,hg,hs,-lT,hneg hvn,hb1]
    .have hvp:0<v:=o_;have e3:qW v=[0]:=by grind [qW]
     have eo2:aG 1 (ai (sg++[0]))=.own false 1 (ai (sg++[0])):=md (by simp[ai]);have h6:=h5 (sg++[0]) d_;simp only[eo2,aA,cu]at h6;rw[e3,cu,<-h6];by_cases h11:id=11
     .simp(disch:=omega)[↓ac,↓aa,hg,hs,-lT,hpos hvp,hb0]
     .simp(disch:=omega)[↓ac,↓aa,hg,hs,-lT,hpos hvp,hb0]
theorem DP:∀id∈ids.take 11,(lc id=true->dp id=-(jb id:Int)∧cK id=2*jb id+1)∧(lc id=false->dp id=0∧(id≠11->cK id=jb id+1)∧(id=11->cK id=17))∧eI id=bI id∧jb id<=8191:=e_
theorem Ur {id:Nat}(h:1<=id∧id<=11):id∈ids.take 11:=by
 show id∈[1,2,3,4,5,6,7,8,9,10,11];simp only[ay,co,d8];omega
abbrev Pn (id:Nat)(vs:G_):Prop:=vs.length=bI id∧∀v∈vs,v.natAbs<=jb id
def axA {id:Nat}{vs:G_}(h:∀v∈vs,v.natAbs<=jb id):vs.any (L8 (jb id))=false:=by
 grind [L8]
def P9 {id:Nat}(hid:1<=id∧id<=11){vs:G_}(h:Pn id vs):(lc id=true->Sw id vs)∧(lc id=false->Sw id (vs.map (kI id))):=by
 grind [DP,Ur,kI]
def ajO {vs:G_}:(vs.flatMap qW).length<=vs.length:=by
 induction vs<;>grind [qW]
def axO {id:Nat}{v:Int}(h:v.natAbs<=8191):(xK id v).length<=30:=by
 unfold xK;split
 .have hL2:v.natAbs≠0->2 ^ (cR v.natAbs-1)<=v.natAbs:=vY;have hL13:cR v.natAbs<=13:=by
   rcases bD 13 (cR v.natAbs) with h|h
   .have:2 ^ 13<=2 ^ (cR v.natAbs-1):=aw o_ o_;omega
   .exact h
  grind [dk]
 .simp
def XK {id:Nat}:∀{vs:G_},(∀v∈vs,v.natAbs<=8191)->(vs.flatMap (xK id)).length<=30*vs.length
 |[],_=>by simp
 |v::r,h=>by
  have h1:=axO (id:=id) (h v (.head _));have h2:=XK (id:=id) (vs:=r) λq hq=>h q (.tail _ hq)
  grind
def aue (b:C_)(hb:b.length<=900000000)(x:AV)(hx:x=.d (.lst (ai b))∨x=.nl∧b=[])(id:Nat)(hid:1<=id∧id<=11)(vs:G_)(hv:Pn id vs):bh prog Iu [x,ov id,.d (.lst (aH vs))]=some (.tup [.own true 1 (ai (b++Ar id vs)),A_ 0]):=by
 have hok:jP id:=o_;have hF:=T3 id hid vs hv.1;rw[axA hv.2]at hF;have hS:=Sc id (Ur hid);obtain⟨m1,m2,m3,m4⟩:=DP id (Ur hid);obtain⟨f1,f2⟩:=P9 hid hv;have hE:=aaF id hok;have hC:=λe he=>aeg id e hok he
 have hd4:bI id<=4:=by grind [bI]
 have hvl:=hv.1;have hv8:∀v∈vs,v.natAbs<=8191:=λv h=>aO (hv.2 v h) m4
 simp only[ov]at hC⊢;have hmany:br id=cK id ^ eI id:=rfl;unfold Ar;by_cases hs:lc id=true
 .rw[hs]at hS;have hin:=f1 hs;have hE:=hE vs hin;have hlt:=IS (n:=0) (j:=0) hin.2 s_;rw[bv,hin.1,<-hmany]at hlt;have hC:=hC _ hlt;have hcl:=BE hok hlt;have hcat:=ajx [b,kl id (mc (dp id) (cK id) vs 0)] s_ d_;simp only[dC,ub,bj]at hcat;rw[<-ae6]at hcat;rw[ac hs];generalize kl id (mc (dp id) (cK id) vs 0)=CB at *;generalize mc (dp id) (cK id) vs 0=EN at *;generalize cA id=es at *;generalize dP id=rs at *;generalize bO id=pl at *;rw[aD YS aaV rfl];rcases hx with rfl|⟨rfl,rfl⟩
  .simp(disch:=omega)[↓ac,hF,hS,hE,hC,hcat]
  .have n0:ai []=[]:=rfl;rw[n0]at hcat;simp(disch:=omega)[↓ac,hF,hS,hE,hC,hcat]
 .have hs2:lc id=false:=u_;rw[hs2]at hS;have hin:=f2 hs2;have hE:=hE _ hin;have hlt:=IS (n:=0) (j:=0) hin.2 s_;rw[bv,hin.1,<-hmany]at hlt;have hC:=hC _ hlt;have hcl:=BE hok hlt;have hsl:=ajO (vs:=vs);have hel:=XK (id:=id) hv8;have hcat:=ajx [b,kl id (mc (dp id) (cK id) (vs.map (kI id)) 0),vs.flatMap qW,vs.flatMap (xK id)] s_ d_;simp only[dC,ub,bj]at hcat;rw[<-apV]at hcat;have hl0:=λx0=>alM id hid (.int .i64 (bO id)) (.lst (cY (cA id))) (.lst (cY (dP id))) x0 vs o_ 1 vs 0 [] [] [] rfl hv8 s_ s_ (by simp)
  have c0:((0:Nat):Int)=0:=rfl;have n0:ai []=[]:=rfl;have n1:aH []=[]:=rfl;have hne:aH (vs.map (kI id))≠[]:=by
   grind [aH,List.length_nil,bI]
  simp only[n0,n1,rl,aK,c0,md hne]at hl0;rw[aa hs];generalize kl id (mc (dp id) (cK id) (vs.map (kI id)) 0)=CB at *;generalize mc (dp id) (cK id) (vs.map (kI id)) 0=EN at *;generalize cA id=es at *;rw[aD YS aaV rfl];rcases hx with rfl|⟨rfl,rfl⟩
  .simp(disch:=omega)[↓ac,hF,hS,hl0,hE,hC,hcat]
  .rw[n0]at hcat;simp(disch:=omega)[↓ac,hF,hS,hl0,hE,hC,hcat]
def sc (k n w z:Int):C_:=if k=0 then [] else if k=13 then (if z<0 then ar n.toNat 9 else kl 12 (n-z+60).toNat) else kl 12 (n-w+60).toNat
def qg:G_->G_->Int->Int->C_
 |k::r,n::t,w,z=>sc k n w z++qg r t (kw k n w z).1 (kw k n w z).2
 |_,_,_,_=>[]
def oz:H_->J_->Int->Int->C_
 |l::r,t::s,w,z=>qg (aM l) t w z++(match dW (aM l) t w z with
  |some (w,z)=>oz r s w z
  |none=>[])
 |_,_,_,_=>[]
def ae2 {k n w z:Int}(h:k≠0->mt k n w z):(sc k n w z).length<=20:=by
 unfold sc;by_cases h0:k=0
 .simp_all
 .have hok:jP 12:=o_;have hc:=λe (he:e<121)=>(BE (id:=12) (e:=e) hok he).2
  by_cases h13:k=13
  .by_cases hz:z<0
   .simp_all
   grind
  grind
structure LP (F:Obj->AV->Int->Int->am)(ss:J_)(g:Int)(L N:Nat):Prop where
 gl:∀q v w z,get (F q v w z) L=some q
 pl:∀q v w z q',put (F q v w z) L q'=F q' v w z
 g0:∀q v w z,get (F q v w z) 0=some (.cells [v])
 p0:∀q v w z v',put (F q v w z) 0 (.cells [v'])=F q v' w z
 g1:∀q v w z,get (F q v w z) 1=some (.cells [.d (.lst (cZ ss))])
 g2:∀q v w z,get (F q v w z) 2=some (.cells [A_ w,A_ z])
 p2:∀q v w z w' z',put (F q v w z) 2 (.cells [A_ w',A_ z'])=F q v w' z'
 g3:∀q v w z,get (F q v w z) 3=some (.cells [.ptr 2 0])
 gN:∀q v w z,get (F q v w z) N=some (.cells [A_ g])
abbrev aGU (gs:H_)(g N:Nat):aW:=[(4,.ptr 0 0),(7,.ptr 1 0),(11,.ptr 3 0),(12,.ptr N 0),(32,.d (.lst (bF gs))),(33,A_ gs.length),(34,A_ g),(40,.fn jv [] [.ptr (N+1) 0])]
abbrev agH (gs:H_)(g N:Nat):Obj:=.loop (aGU gs g N) [41,42] yu yM false none
def aDD {F:Obj->AV->Int->Int->am}{L:Nat}(ss:J_)(hss:ss.length<=1000)(gs:H_)(hgs:gs.length<=1000)(g N:Nat)(H:LP F ss g L N)(t:G_)(ht:t.length<=100000)(hg:(cZ ss)[g]?=some [.lst (aH t)])(a:Nat)(k:Int)(b:C_)(hb:b.length<=800000000)(w z:Int)(M:Nat)(n:Int)(r:G_)(hd:t.drop a=n::r)(h0:k=0->n=0)(h1:k≠0->mt k n w z)(hk:0<=k∧k<=13)(hw:u4 w)(hz:u4 z) :
  cy (Dn prog) (.yield L) [A_ (a:Int),A_ k] ⟨F (agH gs g N) (.own false 1 (ai b)) w z,M⟩=some (B_ true,⟨F (agH gs g N) (.own false 1 (ai (b++sc k n w z))) (kw k n w z).1 (kw k n w z).2,M⟩):=by
 have ha:=bw hd;have hn:=yD hd;have gl:g<ss.length:=by
  obtain⟨h,_⟩:=aJ.1 hg;simpa using h
 have T:=λq v=>Qp (hp:=λw z=>F q v w z) (A:=2) ⟨λs z=>H.g2 q v s z,λs z s' z'=>H.p2 q v s z s' z'⟩ k n w z M
 by_cases k0:k=0
 .have:=h0 k0;subst k0 this;simp(disch:=omega)[yi,yf,↓ac,↓aa,hg,hn,H.gl,H.pl,H.g1,H.gN,kw,sc];rfl
 .have hT:=h1 k0;have hn5:=Su hT;have T:=λq v=>T q v o_ o_ (by omega)
  simp only[ac hT]at T;have e:(kw k n w z)=if k=13 then (w,n) else (n,z):=by rw[kw,aa k0]
  have es:sc k n w z=if k=13 then (if z<0 then ar n.toNat 9 else kl 12 (n-z+60).toNat) else kl 12 (n-w+60).toNat:=by grind [sc]
  unfold mt at hT;by_cases k13:k=13
  .rw[ac k13]at hT;rw[e,ac k13,es,ac k13];simp only[ac k13]at T;subst k13;by_cases hz0:z<0
   .rw[ac hz0];have p1:=me b n 9 o_ o_ _ (.inl rfl);have c9:(9:Int).toNat=9:=rfl;rw[ac d_,c9]at p1;simp(disch:=omega)[yi,yf,↓ac,↓aa,hg,hn,H.gl,H.pl,H.g0,H.p0,H.g1,H.g2,H.g3,H.gN,T,p1];rfl
   .have p1:=aeq b o_ _ (.inl rfl) (n-z) o_;simp(disch:=omega)[yi,yf,↓ac,↓aa,hg,hn,H.gl,H.pl,H.g0,H.p0,H.g1,H.g2,H.g3,H.gN,T,p1];rfl
  .rw[aa k13]at hT;rw[e,aa k13,es,aa k13];have p1:=aeq b o_ _ (.inl rfl) (n-w) o_;simp(disch:=omega)[yi,yf,↓aa,hg,hn,H.gl,H.pl,H.g0,H.p0,H.g1,H.g2,H.g3,H.gN,T,p1];rfl
abbrev FP (ss:J_)(g N:Nat)(l:P_)(T:am)(q:Obj)(v:AV)(w z:Int):am :=
 (0,.cells [v])::(1,.cells [.d (.lst (cZ ss))])::(2,.cells [A_ w,A_ z])::(3,.cells [.ptr 2 0])::(N,.cells [A_ g])::(N+1,.cells [.d (.lst (ie l))])::(N+1+1,q)::T
def aCR {ss:J_}{g N:Nat}{l:P_}{T:am}(hN:4<=N):LP (FP ss g N l T) ss g (N+1+1) N:=by
 constructor<;>intro q m w z<;>(try intro q')<;>(try intro q'')<;>simp(disch:=omega)[↓aa]
abbrev azN (ss:J_)(g N:Nat)(l:P_)(q:Obj)(s:C_×Int×Int)(T:am):am:=FP ss g N l T q (.own false 1 (ai s.1)) s.2.1 s.2.2
def aF3 {ss:J_}{g N:Nat}{l:P_}{q:Obj}(hN:4<=N):Tl (azN ss g N l q) (N+1+1+1):=by
 constructor
 .intro s K o h;simp(disch:=omega)[↓aa]
 .intro s K o o' h;simp(disch:=omega)[↓aa]
 .intro s K o h;simp(disch:=omega)[↓aa]
 .intro s K o h;simp(disch:=omega)[↓aa]
def as5 {bks t:G_}{a:Nat}{k n:Int}{w z:Int}(hk:bks[a]?=some k)(hd:t.drop a=n::t.drop (a+1)):qg (bks.drop a) (t.drop a) w z=sc k n w z++qg (bks.drop (a+1)) (t.drop (a+1)) (kw k n w z).1 (kw k n w z).2:=by
 grind [List.drop_eq_getElem_cons,qg]
def aC6 (ss:J_)(hss:ss.length<=1000)(gs:H_)(hgs:gs.length<=1000)(g N:Nat)(hN:4<=N)(t:G_)(ht:t.length<=100000)(hg:(cZ ss)[g]?=some [.lst (aH t)])(l:P_)(hl:∀k∈aM l,0<=k∧k<=13)(hbl:(aM l).length<=100000)(fin:Int×Int)(TOT:C_) :
  Rnd (azN ss g N l (agH gs g N)) noH (N+1+1+1) (N+1+1) (aM l) (λa k s=>.inl (s.1++sc k (nth t a) s.2.1 s.2.2,kw k (nth t a) s.2.1 s.2.2)) (λa s=>(s.1.length<=700000000+20*a∧s.1++qg ((aM l).drop a) (t.drop a) s.2.1 s.2.2=TOT)∧u4 s.2.1∧u4 s.2.2∧dW ((aM l).drop a) (t.drop a) s.2.1 s.2.2=some fin):=by
 intro a k s K o M hk hi hK hM;obtain⟨⟨i0,i1⟩,i2,i3,i4⟩:=hi;obtain⟨n,d1,d2,d3,d4⟩:=aez hk (by rw[i4];simp);have hlt:a<(aM l).length:=d_;have hn:nth t a=n:=by
  grind [bw,q9]
 have hkm:=hl k d_;rw[i4]at d4;rw[as5 hk d1]at i1;have hsl:=ae2 (k:=k) (n:=n) (w:=s.2.1) (z:=s.2.2) d3;have hgo:u4 (kw k n s.2.1 s.2.2).1∧u4 (kw k n s.2.1 s.2.2).2:=by
  grind [kw]
 refine .inl ⟨(s.1++sc k n s.2.1 s.2.2,kw k n s.2.1 s.2.2),u_,⟨⟨d_,u_⟩,hgo.1,hgo.2,d4.symm⟩,?_⟩;obtain⟨b,w,z⟩:=s;simp only at i0 i1 i2 i3;exact aDD ss hss gs hgs g N (aCR (ss:=ss) (g:=g) (l:=l) (T:=[(K,o)]) hN) t ht hg a k b o_ w z M n _ d1 d2 d3 hkm i2 i3
abbrev aHa (ss:J_)(v:AV)(w z:Int):am:=[(0,.cells [v]),(1,.cells [.d (.lst (cZ ss))]),(2,.cells [A_ w,A_ z]),(3,.cells [.ptr 2 0])]
def YB:∀{bks t:G_}{w z:Int},dW bks t w z≠none->(qg bks t w z).length<=20*bks.length
 |[],[],_,_,_=>by simp[qg]
 |[],_::_,_,_,h=>absurd rfl h
 |_::_,[],_,_,h=>absurd rfl h
 |k::r,n::t,w,z,h=>by
  have h1:=qu h;have h2:=ae2 h1.2.1;have h3:=YB (by rw[h1.2.2]at h;exact h)
  grind [qg]
theorem tW {l:P_}{lf:Int}(h:fitsS lf l)(h0:0<=lf):((aM l).length:Int)=lf:=by
 induction l generalizing lf<;>grind [fitsS,aM]
def ahf (ss:J_)(hss:ss.length<=1000)(hss2:∀t∈ss,t.length<=100000)(gs:H_)(hgs:gs.length<=1000)(m:Int)(hm:0<=m∧m<=1000):∀(gr:H_) (sr:J_) (i N:Nat) (b:C_) (w z:Int),gs.drop i=gr->ss.drop i=sr->fJ m gr->(∀l∈gr,l.length<=1000)->u4 w->u4 z->mZ gr sr w z≠none->4<=N->b.length+20000*gr.length<=600000000->
  ∃M w' z',(Dn prog).code (.loop yF) ⟨[(4,.ptr 0 0),(7,.ptr 1 0),(11,.ptr 3 0),(32,.d (.lst (bF gs))),(33,A_ gs.length),(34,A_ i)],⟨aHa ss (.own false 1 (ai b)) w z,N⟩⟩ =
  some (.exit 0,⟨[(4,.ptr 0 0)],⟨[(0,.cells [.own false 1 (ai (b++oz gr sr w z))]),(2,.cells [A_ w',A_ z'])],M⟩⟩):=by
 intro gr
 induction gr with
 |nil =>
  intro sr i N b w z hd hd2 hf hl hw hz hr hN hb;have hi:=aY hd;refine⟨N,w,z,?_⟩;have e:b++oz [] sr w z=b:=by grind [oz]
  rw[ah Ol,e];simp(disch:=omega)[↓ac,↓aa]
 |cons l r ih =>
  intro sr i N b w z hd hd2 hf hl hw hz hr hN hb;simp only[aq]at hb;have hg:=lj hd;have hlt:=bw hd;have hfl:=hf l (.head _);have hll:=hl l (.head _);have hbk:=tW hfl hm.1
  cases sr with
  |nil=>exact absurd rfl hr
  |cons t s =>
   have hgt:=Gq hd2;have htl:=hss2 t (by rw[<-aV i ss,hd2];simp);rw[mZ]at hr
   cases hrow:dW (aM l) t w z with
   |none=>simp_all
   |some fin =>
    rw[hrow]at hr;have hrl:=YB (bks:=aM l) (t:=t) (w:=w) (z:=z) u_;have hb1:=acp (p:=N+1) (aF3 (ss:=ss) (g:=i) (l:=l) (q:=agH gs i N) hN) ao6 l (aC6 ss hss gs hgs i N hN t htl hgt l (PE hfl) o_ fin (b++qg (aM l) t w z)) (λs=>by simp(disch:=omega)[↓aa]) hll (λq hq=>by have:=(uv hfl hm.2 q hq).1;omega) (N+1+1+1) (b,w,z) (al _) ⟨⟨d_,rfl⟩,hw,hz,u_⟩;rcases hb1 with ⟨⟨b2,w2,z2⟩,M,e1,⟨⟨e2,e2'⟩,e3,e4,e5⟩,e6,e7⟩|⟨z,_⟩
    .rw[cm (al _)]at e5 e2';obtain⟨e8,e9⟩:=ahq e5;subst e8;have e10:b2=b++qg (aM l) t w z:=by
      grind [qg]
     subst e10;obtain⟨M2,w3,z3,f⟩:=ih s (i+1) M (b++qg (aM l) t w z) w2 z2 (bu hd) (bu hd2) (λq hq=>hf q (.tail _ hq)) (λq hq=>hl q (.tail _ hq)) e3 e4 hr o_ d_;refine⟨M2,w3,z3,?_⟩;have eT:b++oz (l::r) (t::s) w z=b++qg (aM l) t w z++oz r s w2 z2:=by grind [oz]
     rw[ah Ol,eT,<-f];simp(disch:=omega)[↓ac,↓aa,hg,MG,rd,e7]
    grind
def ar8 (b:C_)(hb:b.length<=500000000)(x:AV)(hx:x=.d (.lst (ai b))∨x=.nl∧b=[])(gain m:Int)(g:H_)(t:J_)(hgn:0<=gain∧gain<=255)(hl:g.length<=8)(hm:0<=m∧m<=40)(hf:fJ m g)(hf2:∀l∈g,l.length<=1000)(ht:BX gain g t)(ht2:∀l∈t,l.length<=100000) :
  bh prog Wp [x,A_ gain,.d (.lst (bF g)),.d (.lst (cZ t))]=some (.tup [.own true 1 (ai (b++oz g t gain (-1))),A_ 0]):=by
 have h1:=akN gain m g t hgn hl hm hf hf2 ht ht2;have hlen:=K3 ht;obtain⟨M,w,z,e⟩:=ahf t o_ ht2 g o_ m o_ g t 0 4 b gain (-1) rfl rfl hf hf2 o_ o_ ht (al _) o_;have c0:((0:Nat):Int)=0:=rfl;rw[c0]at e;have hp:=me b 0 0 o_ o_ x hx;rw[ac k_]at hp;have t0:(0:Int).toNat=0:=rfl;rw[t0,ar,bj]at hp;rw[aD alk ako rfl];rcases hx with rfl|⟨rfl,rfl⟩
 all_goals simp(disch:=omega)[↓ac,↓aa,h1,hp,e]
structure b6 where
 len:Int
 order:Int
 down:Bool
 fine:Bool
 coefs:G_
abbrev AA_:=List b6
abbrev N_:=List (AA_)
abbrev b6.cells (f:b6):W_:=[.int .i64 f.len,.int .i64 f.order,.bool f.down,.bool f.fine,.lst (aH f.coefs)]
abbrev b6.av (f:b6):D_:=[A_ f.len,A_ f.order,B_ f.down,B_ f.fine,.d (.lst (aH f.coefs))]
def fc (l:AA_):E_:=l.map b6.cells
@[simp] def atl {l:AA_}:(fc l).length=l.length:=by simp[fc]
def Bb {l:AA_}{i:Nat}{s:b6}{r:AA_}(h:l.drop i=s::r):(fc l)[i]?=some [.int .i64 s.len,.int .i64 s.order,.bool s.down,.bool s.fine,.lst (aH s.coefs)]:=by
 grind [List.getElem?_cons_zero,fc]
def cT (t:N_):E_:=t.map λl=>[.lst (fc l)]
@[simp] theorem ad1 {t:N_}:(cT t).length=t.length:=by simp[cT]
def tT {g:N_}{i:Nat}{l:AA_}{r:N_}(h:g.drop i=l::r):(cT g)[i]?=some [.lst (fc l)]:=by
 grind [List.getElem?_cons_zero,cT]
def ah5 (h:Int):∀(l:G_),l.any (λc=>decide (c < -h∨h<=c))=!decide (∀c∈l,-h<=c∧c<h)
 |[]=>by simp
 |c::r=>by
  grind
def dM (fine:Bool):Int:=if fine then 8 else 4
def Bu (sh:Bool):Int:=if sh then 15 else 63
def xE (sh:Bool):Int:=if sh then 7 else 12
def Db (sh:Bool)(f:b6):Prop:=(0<=f.len∧f.len<=Bu sh)∧(0<=f.order∧f.order<=xE sh)∧(f.coefs.length:Int)=f.order∧(f.order=0->f.down=false)∧∀c∈f.coefs,-dM f.fine<=c∧c<dM f.fine
instance {sh:Bool}{f:b6}:Decidable (Db sh f):=by unfold Db;infer_instance
theorem KD (b:Bool):bh prog FH [B_ b]=some (A_ (if b then 4 else 3)):=by
 rw[aD abV aco rfl]
 cases b<;>simp(disch:=omega)
def Gi (b:Bool):bh prog QQ [B_ b]=some (A_ (if b then 1 else 0)):=by
 rw[aD afZ age rfl]
 cases b<;>simp(disch:=omega)
def mG (sh:Bool):D_:=if sh then [A_ 1,A_ 4,A_ 3,A_ 1,A_ 7] else [A_ 2,A_ 6,A_ 5,A_ 3,A_ 12]
def aN.short (i:aN):Bool:=decide (i.seq=2)
def An (i:aN):bh prog Cy [.agg i.cells]=some (.agg (mG i.short)):=by
 rw[aD Z4 aan rfl];unfold mG aN.short;by_cases h:i.seq=2
 .simp(disch:=omega)[↓ac,h]
 .simp(disch:=omega)[↓aa,h]
def aDP (m:Nat)(hm:m<=100000)(v:Int)(N:Nat):(Dn prog).call DQ [A_ v,.ptr 0 0] ⟨[(0,.cells [A_ m])],N⟩=some (B_ ((decide (v < -(m:Int)∨(m:Int)<=v))),⟨[(0,.cells [A_ m])],N⟩):=by
 rw[bb ZT aaX rfl];by_cases h1:v < -(m:Int)
 .simp(disch:=omega)[↓ac,h1]
 .by_cases h2:(m:Int)<=v
  .simp(disch:=omega)[↓ac,↓aa,h1,h2]
  .simp(disch:=omega)[↓ac,↓aa,h1,h2]
def Mu (l:G_)(hl:l.length<=1000000)(s:Nat)(hs:1<=s∧s<=10):bh prog H4 [.d (.lst (aH l)),A_ s]=some (B_ ((decide (∀c∈l,-((2 ^ (s-1):Nat):Int)<=c∧c<((2 ^ (s-1):Nat):Int))))):=by
 have hp:2 ^ (s-1)<=2 ^ 10:=aw o_ o_;have q2:=UE (m:=s-1) o_;have c1:((s-1:Nat):Int)=(s:Int)-1:=o_;rw[c1]at q2;generalize 2 ^ (s-1)=P at *;have h1:=Bl (.fn DQ [] [.ptr 0 0]) (λc=>decide (c < -(P:Int)∨(P:Int)<=c)) l o_ [(0,.cells [A_ P])] 1 rfl rfl λv _=>by
  have:=aDP P o_ v 1
  simp_all
 rw[ah5]at h1;rw[aD agj agb rfl];simp(disch:=omega)[-tJ,q2,h1]
def afH (i:aN)(f:b6)(h:Db i.short f):bh prog LZ [.agg i.cells,.agg f.av]=some (B_ true):=by
 obtain⟨⟨l1,l2⟩,⟨o1,o2⟩,c1,d1,c2⟩:=h;have hs:=An i;have hw:=KD f.fine;have hof:xE i.short<=12:=by grind [xE]
 have hft:=Mu f.coefs o_ (if f.fine then 4 else 3) d_;have hh:((2 ^ ((if f.fine then 4 else 3)-1):Nat):Int)=dM f.fine:=by grind [dM]
 rw[hh,decide_eq_true c2]at hft;have hc:(((if f.fine=true then 4 else 3:Nat)):Int)=if f.fine=true then 4 else 3:=d_
 rw[hc]at hft;have hl:=iD (l:=f.coefs);generalize hW:(if f.fine=true then (4:Int) else 3)=W at *;simp only[aN.cells]at hs;have hdn:f.order > 0∨f.order=0∧f.down=false:=by
  grind
 rw[aD ZK aaB rfl];unfold Bu at l2;unfold xE at o2
 cases hsh:i.short with
 |true =>
  rw[hsh]at l2 o2 hs;simp only[mG,bi]at l2 o2 hs;rcases hdn with hdn|⟨h0,hdn⟩
  .simp(disch:=omega)[↓ac,↓aa,hs,hw,hft]
  .simp(disch:=omega)[↓ac,↓aa,hs,hw,hft,hdn]
 |false =>
  rw[hsh]at l2 o2 hs;simp only[mG]at l2 o2 hs;rcases hdn with hdn|⟨h0,hdn⟩
  .simp(disch:=omega)[↓ac,↓aa,hs,hw,hft]
  .simp(disch:=omega)[↓ac,↓aa,hs,hw,hft,hdn]
def ac5 (F:AV)(P:b6->Bool)(l:AA_)(hl:l.length<=1000000000)(h:am)(N0:Nat)(hF:firm (share F)=F)(hc:∀f∈l,∀N,N0<=N->cy (Dn prog) F [.agg f.av] ⟨h,N⟩=some (B_ (P f),⟨h,N+1⟩)):∀(r:AA_) (i N:Nat),l.drop i=r->N0<=N->
  (r.any P=true∧∃k M:Nat,N<=M∧(Dn prog).code (.loop fL) ⟨[(0,.d (.lst (fc l))),(1,F),(7,A_ l.length),(8,A_ i)],⟨h,N⟩⟩=some (.ret,⟨[(4,A_ k)],⟨h,M⟩⟩))∨
  (r.any P=false∧∃M,N<=M∧(Dn prog).code (.loop fL) ⟨[(0,.d (.lst (fc l))),(1,F),(7,A_ l.length),(8,A_ i)],⟨h,N⟩⟩=some (.exit 0,⟨[],⟨h,M⟩⟩)):=by
 intro r
 induction r with
 |nil =>
  intro i N hd hN;have hi:=aY hd;refine .inr ⟨rfl,N,al _,?_⟩;rw[ah iu];simp(disch:=omega)[↓aa]
 |cons v r ih =>
  intro i N hd hN;have hg:=Bb hd;have hlt:=bw hd;have hv:=hc v (by rw[<-aV i l,hd];simp) N hN;have h5:=ih (i+1) (N+1) (bu hd) (by omega)
  cases hp:P v with
  |true =>
   rw[hp]at hv;refine .inl ⟨u_,i,N+1,o_,?_⟩;rw[ah iu];simp(disch:=omega)[↓ac,hg,hF,hv]
  |false =>
   rw[hp]at hv;rw[fq,hp,oe];rcases h5 with ⟨e1,k,M,e3,e2⟩|⟨e1,M,e3,e2⟩
   .refine .inl ⟨e1,k,M,o_,?_⟩;rw[ah iu,<-e2];simp(disch:=omega)[↓ac,hg,hF,hv]
   .refine .inr ⟨e1,M,o_,?_⟩;rw[ah iu,<-e2];simp(disch:=omega)[↓ac,hg,hF,hv]
def FU (F:AV)(P:b6->Bool)(l:AA_)(hl:l.length<=1000000000)(h:am)(N:Nat)(hF:firm (share F)=F)(hF2:firm F=F)(hc:∀f∈l,∀M,N<=M->cy (Dn prog) F [.agg f.av] ⟨h,M⟩=some (B_ (P f),⟨h,M+1⟩)) :
  ∃M,N<=M∧(Dn prog).call fK [.d (.lst (fc l)),F] ⟨h,N⟩=some (B_ (l.any P),⟨h,M⟩):=by
 have h1:=ac5 F P l hl h N hF hc l 0 N rfl (al _);have c0:((0:Nat):Int)=0:=rfl;rw[c0]at h1;have h2:∃(k:Int) (M:Nat),N<=M∧(0<=k↔l.any P=true)∧(Dn prog).call u6 [.d (.lst (fc l)),F] ⟨h,N⟩=some (A_ k,⟨h,M⟩):=by
  rcases h1 with ⟨e1,k,M,e3,e2⟩|⟨e1,M,e3,e2⟩
  .refine⟨k,M,e3,⟨λ_=>e1,λ_=>by omega⟩,?_⟩;rw[bb vG vA rfl];simp(disch:=omega)[e2]
  .refine⟨-1,M,e3,⟨λh=>by omega,λh=>by simp_all⟩,?_⟩;rw[bb vG vA rfl];simp(disch:=omega)[e2]
 obtain⟨k,M,e3,e1,e2⟩:=h2;refine⟨M,e3,?_⟩;rw[bb D7 D3 rfl]
 cases hp:l.any P with
 |true =>
  have:=e1.2 hp;simp(disch:=omega)[↓ac,hF2,e2]
 |false =>
  have:¬0<=k:=λh=>by simp_all
  simp(disch:=omega)[↓aa,hF2,e2]
def afy (lo hi v:Int)(hlo:-100<=lo∧lo<=0)(hhi:0<=hi∧hi<=100)(X:Obj)(N:Nat):(Dn prog).call wC [A_ v,.ptr 1 0,.ptr 2 0] ⟨[(0,X),(1,.cells [A_ lo]),(2,.cells [A_ hi])],N⟩=some (B_ (decide (v<lo∨hi<v)),⟨[(0,X),(1,.cells [A_ lo]),(2,.cells [A_ hi])],N⟩):=by
 rw[bb Zj ZI rfl];by_cases h1:v<lo
 .simp(disch:=omega)[↓ac,h1]
 .by_cases h2:hi<v
  .simp(disch:=omega)[↓ac,↓aa,h1,h2]
  .simp(disch:=omega)[↓ac,↓aa,h1,h2]
def aoH (X:Obj)(l:G_)(hl:l.length<=1000000)(fine:Bool):(Dn prog).call nv [.d (.lst (aH l)),.fn wC [] [.ptr 1 0,.ptr 2 0]] ⟨[(0,X),(1,.cells [A_ (-dM fine)]),(2,.cells [A_ (dM fine-1)])],3⟩ =
  some (B_ (!decide (∀c∈l,-dM fine<=c∧c<dM fine)),⟨[(0,X),(1,.cells [A_ (-dM fine)]),(2,.cells [A_ (dM fine-1)])],3⟩):=by
 have hh:4<=dM fine∧dM fine<=8:=by grind [dM]
 have h1:=Bl (.fn wC [] [.ptr 1 0,.ptr 2 0]) (λc=>decide (c < -dM fine∨dM fine-1<c)) l o_ [(0,X),(1,.cells [A_ (-dM fine)]),(2,.cells [A_ (dM fine-1)])] 3 rfl rfl λv _=>by
  have:=afy (-dM fine) (dM fine-1) v o_ o_ X 3
  simp_all
 have e:(λc:Int=>decide (c < -dM fine∨dM fine-1<c))=λc=>decide (c < -dM fine∨dM fine<=c):=by
  grind
 rw[e,ah5]at h1;exact h1
def akA (sh:Bool)(f:b6)(hl:f.coefs.length<=1000000):bh prog QV [.agg f.av,B_ sh]=some (B_ (decide (Db sh f))):=by
 rw[aD afe afM rfl];have hll:=iD (l:=f.coefs);have hls:Bu sh=if sh then 15 else 63:=rfl
 have hos:xE sh=if sh then 7 else 12:=rfl
 by_cases a1:0<=f.len∧f.len<=Bu sh
 .by_cases a2:0<=f.order∧f.order<=xE sh
  .by_cases a3:(f.coefs.length:Int)=f.order
   .by_cases a4:f.order=0∧f.down=true
    .rw[decide_eq_false (λh=>by have:=h.2.2.2.1 a4.1;simp_all)];obtain⟨a4,a5⟩:=a4
     cases sh<;>simp only[Bu,xE,bi,ao,bl]at a1 a2<;>simp(disch:=omega)[↓ac,↓aa,a5]
    .have hc:=aoH (.cells f.av) f.coefs hl f.fine;have hd:decide (Db sh f)=decide (∀c∈f.coefs,-dM f.fine<=c∧c<dM f.fine):=by
      rw[decide_eq_decide];refine⟨λh=>h.2.2.2.2,λh=>⟨a1,a2,a3,λh0=>?_,h⟩⟩
      simp_all
     rw[hd];generalize decide (∀c∈f.coefs,-dM f.fine<=c∧c<dM f.fine)=B at *;have h4:dM false=4:=rfl;have h8:dM true=8:=rfl;by_cases h0:f.order=0
     .have hdn:f.down=false:=by
       simp_all
      cases hfn:f.fine<;>simp only[hfn,h4,h8,Int.reduceNeg,Int.reduceSub]at hc<;>cases sh<;>simp only[Bu,xE,bi,ao,bl]at a1 a2<;>simp(disch:=omega)[↓ac,↓aa,hdn,hfn,hc]
     .cases hfn:f.fine<;>simp only[hfn,h4,h8,Int.reduceNeg,Int.reduceSub]at hc<;>cases sh<;>simp only[Bu,xE,bi,ao,bl]at a1 a2<;>simp(disch:=omega)[↓ac,↓aa,hfn,hc]
   .rw[decide_eq_false (λh=>a3 h.2.2.1)]
    cases sh<;>simp only[Bu,xE,bi,ao,bl]at a1 a2<;>simp(disch:=omega)[↓ac,↓aa]
  .rw[decide_eq_false (λh=>a2 h.2.1)];by_cases b1:f.order<0
   .cases sh<;>simp only[Bu,xE,bi,ao,bl]at a1 a2<;>simp(disch:=omega)[↓ac,↓aa]
   .cases sh<;>simp only[Bu,xE,bi,ao,bl]at a1 a2<;>simp(disch:=omega)[↓ac,↓aa]
 .rw[decide_eq_false (λh=>a1 h.1)];by_cases b1:f.len<0
  .cases sh<;>simp only[Bu,bi,ao,bl]at a1<;>simp(disch:=omega)[↓ac]
  .cases sh<;>simp only[Bu,bi,ao,bl]at a1<;>simp(disch:=omega)[↓ac,↓aa]
def Lt (H:am)(N:Nat):Prop:=∀p∈H,p.1<N
def vV {H:am}{N:Nat}{o:Obj}(h:Lt H N):put H N o=H++[(N,o)]:=by
 induction H with
 |nil=>rfl
 |cons p r ih =>
  obtain⟨k,v⟩:=p;have h1:=h (k,v) (.head _);rw[xV,aa o_,aa o_,ih (λp hp=>h p (.tail _ hp)),aQ]
def IR {H:am}{N:Nat}{o o':Obj}(h:Lt H N):put (H++[(N,o)]) N o'=H++[(N,o')]:=by
 induction H with
 |nil=>simp_all
 |cons p r ih =>
  obtain⟨k,v⟩:=p;have h1:=h (k,v) (.head _);rw[aQ,xV,aa o_,aa o_,ih (λp hp=>h p (.tail _ hp)),aQ]
def yk {H:am}{N:Nat}{o:Obj}(h:Lt H N):get (H++[(N,o)]) N=some o:=by
 induction H with
 |nil=>simp_all
 |cons p r ih =>
  obtain⟨k,v⟩:=p;have h1:=h (k,v) (.head _);rw[aQ,jo,aa o_,ih (λp hp=>h p (.tail _ hp))]
def Cj {H:am}{N k:Nat}{o o':Obj}(h:get H k=some o'):get (H++[(N,o)]) k=some o':=by
 induction H<;>grind [Cd,jo]
def N2 {H:am}{N:Nat}{o:Obj}(h:Lt H N):del (H++[(N,o)]) N=H:=by
 induction H with
 |nil=>simp_all
 |cons p r ih =>
  obtain⟨k,v⟩:=p;have h1:=h (k,v) (.head _);rw[aQ,pf,aa o_,ih (λp hp=>h p (.tail _ hp))]
def Lw {H:am}{N M:Nat}(h:Lt H N)(hm:N<=M):Lt H M:=λp hp=>be (h p hp) hm
def M7 {H:am}{N:Nat}{o:Obj}(h:Lt H N):Lt (H++[(N,o)]) (N+1):=by
 intro p hp;rcases ba.1 hp with h1|h1
 .have:=h p h1;omega
 simp_all
@[simp] def aHH (a b:Bool):abv true (B_ a) (B_ b)=some (.bool (a != b)):=by cases a<;>cases b<;>rfl
@[simp] def aHJ (a b:Bool):abv false (B_ a) (B_ b)=some (.bool (a == b)):=by cases a<;>cases b<;>rfl
def adn (sh:Bool)(f0 f:b6):Bool:=!decide (Db sh f) ||f.fine != f0.fine
def arx (sh:Bool)(f0:b6)(l:AA_)(f:b6)(hf:f.coefs.length<=1000000)(H:am)(p q M:Nat)(hp:get H p=some (.cells [B_ sh]))(hq:get H q=some (.cells [.d (.lst (fc (f0::l)))]))(hl:(f0::l).length<=1000000)(hM:Lt H M) :
  (Dn prog).call oY [.agg f.av,.ptr p 0,.ptr q 0] ⟨H,M⟩=some (B_ (adn sh f0 f),⟨H,M+1⟩):=by
 have e1:=λo=>vV (o:=o) hM
 have e2:=λo=>yk (o:=o) hM
 have e3:=λo=>Cj (N:=M) (o:=o) hp
 have e4:=λo=>Cj (N:=M) (o:=o) hq
 have e5:=λo=>N2 (o:=o) hM
 have e6:=akA sh f hf;have hg:=Bb (l:=f0::l) (i:=0) (s:=f0) (r:=l) rfl;unfold adn;rw[bb Xv Ya rfl];simp only[b6.av]at e6⊢
 cases hB:decide (Db sh f) with
 |false =>
  rw[hB]at e6;simp(disch:=omega)[e1,e2,e3,e5,e6]
 |true =>
  rw[hB]at e6
  cases hf1:f.fine<;>cases hf2:f0.fine<;>rw[hf1]at e6<;>rw[hf2]at hg<;>
   simp(disch:=omega)[e1,e2,e3,e4,e5,e6,hg]
structure cJ where
 gain:Int
 info:aN
 sects:H_
 steps:J_
 tns:N_
 lines:G_
abbrev AH_:=List cJ
abbrev cJ.av (c:cJ):D_:=[A_ c.gain,.d (.int .u8 c.info.seq),.d (.int .u8 c.info.shape),A_ c.info.max,.d (.lst (aH c.info.groups)),.d (.lst (bF c.sects)),.d (.lst (cZ c.steps)),.d (.lst (cT c.tns)),.d (.lst (aH c.lines))]
structure cJ.Fit (c:cJ):Prop where
 gain:i64 c.gain
 info:c.info.Fit
 sects:atX c.sects
 secI:∀l∈c.sects,∀s∈l,i64 s.book∧i64 s.len
 steps:c.steps.length<=1000∧∀l∈c.steps,l.length<=1000
 stepI:∀l∈c.steps,∀n∈l,i64 n
 tns:c.tns.length<=1000∧∀l∈c.tns,l.length<=1000∧∀f∈l,f.coefs.length<=1000
 fltI:∀l∈c.tns,∀f∈l,(i64 f.len∧i64 f.order)∧∀x∈f.coefs,i64 x
 lines:c.lines.length<=100000
 lineI:∀n∈c.lines,i64 n
def qx (sh:Bool):Nat:=if sh then 1 else 3
def uU (sh:Bool)(l:AA_):Prop:=l.length<=qx sh∧∀f0∈l.head?,∀f∈l,Db sh f∧f.fine=f0.fine
abbrev UI (i:aN)(t:N_):Prop:=t.length=i.many∧∀l∈t,uU i.short l
def aw3 {sh:Bool}{f0:b6}{l:AA_}:l.any (adn sh f0)=false↔∀f∈l,Db sh f∧f.fine=f0.fine:=by
 grind [adn]
def adh (sh:Bool):AA_->Bool
 |[]=>false
 |f0::r=>(f0::r).any (adn sh f0)
theorem ajz {sh:Bool}{l:AA_}:uU sh l↔l.length<=qx sh∧adh sh l=false:=by
 unfold uU
 cases l with
 |nil=>simp[adh]
 |cons f0 r0 =>
  simp only[adh,aw3]
  simp_all
instance {sh:Bool}{l:AA_}:Decidable (uU sh l):=decidable_of_iff _ ajz.symm
def abz (sh:Bool)(full:N_)(hl:full.length<=1000)(hl2:∀l∈full,l.length<=1000∧∀f∈l,f.coefs.length<=1000):∀(r:N_) (i N:Nat) (H:am),full.drop i=r->get H 1=some (.cells [B_ sh])->Lt H N->2<=N->
  ((∀l∈r,uU sh l)∧∃H2 M,(Dn prog).code (.loop nY) ⟨[(5,.ptr 1 0),(6,A_ (qx sh)),(20,.d (.lst (cT full))),(21,A_ full.length),(22,A_ i)],⟨H,N⟩⟩=some (.exit 0,⟨[],⟨H2,M⟩⟩))∨
  ((¬∀l∈r,uU sh l)∧∃H2 M,(Dn prog).code (.loop nY) ⟨[(5,.ptr 1 0),(6,A_ (qx sh)),(20,.d (.lst (cT full))),(21,A_ full.length),(22,A_ i)],⟨H,N⟩⟩=some (.ret,⟨[(4,B_ false)],⟨H2,M⟩⟩)):=by
 intro r
 induction r with
 |nil =>
  intro i N H hd hH hL hN;have hi:=aY hd;refine .inl ⟨s_,H,N,?_⟩;rw[ah nU];simp(disch:=omega)[↓aa]
 |cons l r ih =>
  intro i N H hd hH hL hN;have hg:=tT hd;have hlt:=bw hd;obtain⟨hll,hlc⟩:=hl2 l (by rw[<-aV i full,hd];simp);have hm:qx sh<=3:=by grind [qx]
  have e1:=λo=>vV (o:=o) hL
  have e2:=λo=>yk (o:=o) hL
  have e3:=λo=>Cj (N:=N) (o:=o) hH
  have e4:=λo o'=>IR (o:=o) (o':=o') hL
  have c1:((i+1:Nat):Int)=(i:Int)+1:=rfl;by_cases h1:l.length<=qx sh
  .have hcf:∃M,N+1<=M∧(Dn prog).call fK [.d (.lst (fc l)),.fn oY [] [.ptr 1 0,.ptr N 0]] ⟨H++[(N,.cells [.d (.lst (fc l))])],N+1⟩=some (B_ (adh sh l),⟨H++[(N,.cells [.d (.lst (fc l))])],M⟩):=by
    cases l with
    |nil =>
     exact FU (.fn oY [] [.ptr 1 0,.ptr N 0]) (λ_=>false) [] s_ _ (N+1) rfl rfl λf hf=>by simp at hf
    |cons f0 r0 =>
     refine FU (.fn oY [] [.ptr 1 0,.ptr N 0]) (adn sh f0) (f0::r0) o_ _ (N+1) rfl rfl λf hf M hM=>?_
     have:=arx sh f0 r0 f d_ (H++[(N,.cells [.d (.lst (fc (f0::r0)))])]) 1 N M (e3 _) (e2 _) o_ (Lw (M7 hL) hM)
     simp_all
   obtain⟨M,hM,e5⟩:=hcf;have hW:adh sh l=false↔uU sh l:=by grind [ajz]
   generalize adh sh l=B at *
   cases B with
   |true =>
    refine .inr ⟨λh=>?_,H++[(N,.cells [.d (.lst (fc l))])],M,?_⟩
    .simp_all
    .rw[ah nU];simp(disch:=omega)[↓ac,↓aa,hg,e1,e2,e4,e5]
   |false =>
    have h5:=ih (i+1) M (H++[(N,.cells [.d (.lst (fc l))])]) (bu hd) (e3 _) (Lw (M7 hL) hM) o_;rcases h5 with ⟨f1,H2,M2,f2⟩|⟨f1,H2,M2,f2⟩
    .refine .inl ⟨λq hq=>?_,H2,M2,?_⟩
     .grind
     .rw[ah nU,<-f2];simp(disch:=omega)[↓ac,↓aa,hg,e1,e2,e4,e5]
    .refine .inr ⟨λh=>f1 λq hq=>h q (.tail _ hq),H2,M2,?_⟩;rw[ah nU,<-f2];simp(disch:=omega)[↓ac,↓aa,hg,e1,e2,e4,e5]
  .refine .inr ⟨λh=>h1 (h l (.head _)).1,H++[(N,.cells [.d (.lst (fc l))])],N+1,?_⟩;rw[ah nU];simp(disch:=omega)[↓ac,hg,e1,e2,e4]
def ahx (c:cJ)(hc:c.Fit)(w:Nat)(hw:w<=8):bh prog FO [.agg c.av,A_ w]=some (B_ (decide (c.tns.length=w∧∀l∈c.tns,uU c.info.short l))):=by
 have hl:=hc.tns.1;have h0:=abz c.info.short c.tns hc.tns.1 hc.tns.2 c.tns 0 2 [(1,.cells [B_ c.info.short])] rfl s_ (λp hp=>by simp_all) o_;have c0:((0:Nat):Int)=0:=rfl;rw[c0]at h0;have m1:((1:Nat):Int)=1:=rfl;have m3:((3:Nat):Int)=3:=rfl;rw[aD abQ adw rfl];by_cases h1:c.tns.length=w
 .have hsh:c.info.short=decide (c.info.seq=2):=rfl;have e:decide (c.tns.length=w∧∀l∈c.tns,uU c.info.short l)=decide (∀l∈c.tns,uU c.info.short l):=by simp[h1]
  rw[e];rcases h0 with ⟨f1,H2,M2,f2⟩|⟨f1,H2,M2,f2⟩
  .rw[decide_eq_true f1];by_cases hs:c.info.seq=2
   .rw[decide_eq_true hs]at hsh;rw[hsh]at f2;simp only[qx,bi,m1]at f2;simp(disch:=omega)[↓ac,↓aa,f2]
   .rw[decide_eq_false hs]at hsh;rw[hsh]at f2;simp only[qx,ao,bl,m3]at f2;simp(disch:=omega)[↓ac,↓aa,f2]
  .rw[decide_eq_false f1];by_cases hs:c.info.seq=2
   .rw[decide_eq_true hs]at hsh;rw[hsh]at f2;simp only[qx,bi,m1]at f2;simp(disch:=omega)[↓ac,↓aa,f2]
   .rw[decide_eq_false hs]at hsh;rw[hsh]at f2;simp only[qx,ao,bl,m3]at f2;simp(disch:=omega)[↓ac,↓aa,f2]
 .rw[decide_eq_false (λh=>h1 h.1)];by_cases hs:c.info.seq=2
  .simp(disch:=omega)[↓ac,↓aa]
  .simp(disch:=omega)[↓ac,↓aa]
def H5:Int->P_->Option Int
 |a,[]=>some a
 |a,s::r=>if (1<=s.len∧s.len<=40)∧OF s.book then H5 (a+s.len) r else none
def adR:∀{l:P_}{a v:Int},H5 a l=some v->a+l.length<=v∧v<=a+40*l.length
 |[],a,v,h=>by simp only[H5]at h;injection h with h;simp;omega
 |s::r,a,v,h=>by
  rw[H5]at h;split at h
  .rename_i h1;have:=adR h;simp only[aq];omega
  .exact absurd h (by simp)
def Tu {m:Int}(hm:m<=40):∀{l:P_}{a:Int},0<=a->(H5 a l=some m↔fitsS (m-a) l)
 |[],a,h=>by
  simp only[H5,fitsS,ae];omega
 |s::r,a,h=>by
  rw[H5,fitsS];by_cases h1:(1<=s.len∧s.len<=40)∧OF s.book
  .rw[ac h1,Tu hm o_];have e:m-(a+s.len)=m-a-s.len:=o_;rw[e];constructor
   .intro h2;refine⟨⟨⟨h1.1.1,?_⟩,h1.2⟩,h2⟩;have:=(Tu (l:=r) (a:=a+s.len) hm o_).2 (by rw[e];exact h2);have:=adR this;omega
   .intro h2;exact h2.2
  .rw[aa h1];constructor
   .intro h2;exact absurd h2 (by simp)
   .intro h2;obtain⟨⟨⟨a1,a2⟩,a3⟩,a4⟩:=h2;exact absurd ⟨⟨a1,o_⟩,a3⟩ h1
def YA (full:P_)(hl:full.length<=1000)(X:Obj)(x4:AV)(x17:AV)(y18 y19:D):∀(r:P_) (i:Nat) (a:Int) (N:Nat),full.drop i=r->0<=a∧a<=40*i->1<=N->
  ∃M,N<=M∧(Dn prog).code (.loop qU) ⟨[(1,.ptr 0 0),(4,x4),(5,A_ a),(17,x17),(18,.d y18),(19,.d y19),(23,.d (.lst (ie full))),(24,A_ full.length),(25,A_ i)],⟨[(0,X)],N⟩⟩ =
  match H5 a r with
  |some v=>some (.exit 2,⟨[(1,.ptr 0 0),(4,x4),(5,A_ v),(17,x17),(18,.d y18),(19,.d y19)],⟨[(0,X)],M⟩⟩)
  |none=>some (.ret,⟨[(2,B_ false)],⟨[],M⟩⟩):=by
 intro r
 induction r with
 |nil =>
  intro i a N h h0 hN;have hi:=aY h;refine⟨N,al _,?_⟩;rw[ah xF,H5];simp(maxSteps:=300000) (disch:=omega)[↓ac,↓aa]
 |cons s r ih =>
  intro i a N h h0 hN;have hg:=xc h;have hlt:=bw h;have hN0:N≠0:=o_;by_cases hr:(1<=s.len∧s.len<=40)∧OF s.book
  .have hr1:=hr.1;obtain⟨M,hM,e⟩:=ih (i+1) (a+s.len) (N+1) (bu h) o_ o_;refine⟨M,o_,?_⟩;have c1:((i+1:Nat):Int)=(i:Int)+1:=rfl;rw[c1]at e;rw[ah xF,H5,ac hr,<-e];obtain⟨⟨r1,r2⟩,r3,r4|r4⟩:=hr
   .simp(maxSteps:=300000) (disch:=omega)[↓ac,↓aa,hg,hN0]
   .simp(maxSteps:=300000) (disch:=omega)[↓ac,↓aa,hg,hN0]
  .refine⟨N+1,o_,?_⟩;rw[ah xF,H5,aa hr];by_cases b1:s.len<1
   .simp(maxSteps:=300000) (disch:=omega)[↓ac,↓aa,hg,hN0]
   .by_cases b2:40<s.len
    .simp(maxSteps:=300000) (disch:=omega)[↓ac,↓aa,hg,hN0]
    .by_cases b3:s.book<0
     .simp(maxSteps:=300000) (disch:=omega)[↓ac,↓aa,hg,hN0]
     .have b4:11<s.book∧s.book≠13:=by
       unfold OF at hr;omega
      obtain⟨b4,b5⟩:=b4;simp(maxSteps:=300000) (disch:=omega)[↓ac,↓aa,hg,hN0]
def azB:∀x∈Ix,sm x.1 x.2<=40:=e_
def jY {i:aN}(hm:i.may 11):0<=i.max∧i.max<=40:=by
 have h1:=hm.2.2.1;have h2:=hm.2.2.2.1;have h3:=azB _ (fI (r:=11) (s:=decide (i.seq=2)) o_);simp only[]at h3;omega
def Yq (c:cJ)(hm:0<=c.info.max∧c.info.max<=40)(hl:c.sects.length<=1000)(hl2:∀l∈c.sects,l.length<=1000):∀(g:H_) (j:Nat) (N:Nat),c.sects.drop j=g->1<=N->
  ∃H M,(Dn prog).code (.loop qF) ⟨[(1,.ptr 0 0),(17,.d (.lst (bF c.sects))),(18,A_ c.sects.length),(19,A_ j)],⟨[(0,.cells c.av)],N⟩⟩ =
  if fJ c.info.max g then some (.exit 0,⟨[],⟨H,M⟩⟩) else some (.ret,⟨[(2,B_ false)],⟨H,M⟩⟩):=by
 simp only[cJ.av];intro g
 induction g with
 |nil =>
  intro j N h hN;have hi:=aY h;refine⟨[],N,?_⟩;rw[ah qR,ac (show fJ c.info.max [] from λ_ h=>by simp at h)];simp(maxSteps:=300000) (disch:=omega)[↓ac,↓aa]
 |cons l r ih =>
  intro j N h hN;have hg:=lj h;have hlt:=bw h;have hll:l.length<=1000:=hl2 l (by rw[<-aV j c.sects,h];simp);obtain⟨M,hM,e⟩:=YA l hll (.cells c.av) (.d (.lst (ie l))) (.d (.lst (bF c.sects))) (.int .i64 c.sects.length) (.int .i64 j) l 0 0 N rfl o_ hN;have c0:((0:Nat):Int)=0:=rfl;rw[c0]at e;simp only[cJ.av]at e;have hiff:=Tu (m:=c.info.max) hm.2 (l:=l) (a:=0) o_;rw[Int.sub_zero]at hiff
  cases hrm:H5 0 l with
  |none =>
   rw[hrm]at e hiff;refine⟨[],M,?_⟩;have hn:¬fJ c.info.max (l::r):=λh=>absurd (hiff.2 (h l (.head _))) (by simp)
   rw[ah qR,aa hn];simp(maxSteps:=300000) (disch:=omega)[↓ac,↓aa,hg,e]
  |some v =>
   rw[hrm]at e hiff;have hv:=adR hrm;by_cases h9:v=c.info.max
   .subst h9;have hf:=hiff.1 rfl;obtain⟨H2,M2,e2⟩:=ih (j+1) M (bu h) o_;refine⟨H2,M2,?_⟩;have hx:fJ c.info.max (l::r)↔fJ c.info.max r:=by simp[fJ,hf]
    have c1:((j+1:Nat):Int)=(j:Int)+1:=rfl;rw[c1]at e2;rw[ah qR,awY hx,<-e2];simp(maxSteps:=300000) (disch:=omega)[↓ac,↓aa,hg,e]
   .refine⟨[],M,?_⟩;have hn:¬fJ c.info.max (l::r):=λh=>by
     have:=hiff.2 (h l (.head _));injection this with this;exact h9 this
    rw[ah qR,aa hn];simp(maxSteps:=300000) (disch:=omega)[↓ac,↓aa,hg,e]
instance {m:Int}{g:H_}:Decidable (fJ m g):=by unfold fJ;infer_instance
def afU (c:cJ)(hc:c.Fit)(hm:c.info.may 11):bh prog DC [.agg c.av]=some (B_ (decide (ke c.info c.sects))):=by
 obtain⟨H,M,e⟩:=Yq c (jY hm) hc.sects.1 hc.sects.2 c.sects 0 1 rfl o_;have c0:((0:Nat):Int)=0:=rfl;rw[c0]at e;simp only[cJ.av]at e⊢;have hl1:=hc.sects.1;have hl2:=hc.info.len;rw[aD aaY aaM rfl];by_cases h1:c.sects.length=c.info.groups.length
 .by_cases h2:fJ c.info.max c.sects
  .rw[decide_eq_true ⟨h1,h2⟩];rw[ac h2]at e;simp(maxSteps:=300000) (disch:=omega)[↓ac,↓aa,e]
  .rw[decide_eq_false (λh=>h2 h.2)];rw[aa h2]at e;simp(maxSteps:=300000) (disch:=omega)[↓ac,↓aa,e]
 .rw[decide_eq_false (λh=>h1 h.1)];simp(maxSteps:=300000) (disch:=omega)[↓ac,↓aa]
abbrev sM:=@Nat.add_right_cancel_iff
def LY (w n:Int)(hw:-1000<=w∧w<=1000)(hn:-1000<=n∧n<=1000):bh prog WJ [A_ w,A_ n]=some (B_ (decide (w-60<=n∧n<=w+60))):=by
 rw[aD ak2 alP rfl];by_cases h1:w-60<=n
 .by_cases h2:n<=w+60
  .rw[decide_eq_true ⟨h1,h2⟩];simp(disch:=omega)[↓ac]
  .rw[decide_eq_false (λh=>h2 h.2)];simp(disch:=omega)[↓ac,↓aa]
 .rw[decide_eq_false (λh=>h1 h.1)];simp(disch:=omega)[↓aa]
def agV (full:P_)(hl:full.length<=1000):∀(r:P_) (i b N:Nat) (lf:Int) (k:Int),full.drop i=r->fitsS lf r->lf<=1000->(aM r)[b]?=some k->
  ∃M,(Dn prog).code (.loop yS) ⟨[(2,A_ b),(25,.d (.lst (ie full))),(26,A_ full.length),(27,A_ i)],⟨[],N⟩⟩ =
  some (.ret,⟨[(6,A_ k),(7,A_ 0)],⟨[],M⟩⟩):=by
 intro r
 induction r with
 |nil=>grind [aM]
 |cons s r ih =>
  intro i b N lf k h hf h0 hk;have hg:=xc h;have hlt:=bw h;obtain⟨h1,h2⟩:=hf;have eb:aM (s::r)=List.replicate s.len.toNat s.book++aM r:=by grind [aM]
  rw[eb]at hk;by_cases hb:(b:Int)<s.len
  .rw[cw u_]at hk;have hk2:k=s.book:=by
    simp_all
   subst hk2;refine⟨N+1,?_⟩;rw[ah NT];simp(disch:=omega)[↓ac,↓aa,hg]
  .rw[bZ u_]at hk;simp only[bm]at hk;obtain⟨M,e⟩:=ih (i+1) (b-s.len.toNat) (N+1) (lf-s.len) k (bu h) h2 o_ hk;refine⟨M,?_⟩;have c1:((i+1:Nat):Int)=(i:Int)+1:=rfl;have c2:((b-s.len.toNat:Nat):Int)=(b:Int)-s.len:=o_;have hbl:b<100000000:=by
    grind [tW]
   rw[c1,c2]at e;rw[ah NT,<-e];simp(disch:=omega)[↓ac,↓aa,hg]
def aeo (g:H_)(hl:g.length<=1000)(hl2:∀l∈g,l.length<=1000)(m:Int)(hm:m<=1000)(hf:fJ m g)(j b:Nat)(l:P_)(r:H_)(hd:g.drop j=l::r)(k:Int)(hk:(aM l)[b]?=some k) :
  bh prog VY [.d (.lst (bF g)),A_ j,A_ b]=some (.tup [A_ k,A_ 0]):=by
 have hg:=lj hd;have hlt:=bw hd;have hmem:l∈g:=by rw[<-aV j g,hd];simp
 have hbl:b<100000000:=by
  have h6:=hf l hmem;rcases Int.le_total 0 m with h|h
  .grind [tW]
  .rcases Kp h6 with h7|h7
   .have:l=[]:=by cases l<;>grind
    grind [aM]
   grind [aM]
 obtain⟨M,e⟩:=agV l (hl2 l hmem) l 0 b 0 m k rfl (hf l hmem) hm hk;have c0:((0:Nat):Int)=0:=rfl;rw[c0]at e;rw[aD ak3 akD rfl];simp(disch:=omega)[↓aa,hg,e]
def zX (z:Int):Int:=if 0<=z then z else 0
def acJ {k n:Int}{r t:G_}{w z:Int}(h:k=0->n≠0)(h1:k≠0->¬mt k n w z):dW (k::r) (n::t) w z=none:=by
 grind [dW]
def agu (c:cJ)(hl:c.sects.length<=1000)(hl2:∀l∈c.sects,l.length<=1000)(m:Int)(hm:0<=m∧m<=1000)(hf:fJ m c.sects)(x23:AV)(y24 y25:D)(j:Nat)(l:P_)(rr:H_)(hd:c.sects.drop j=l::rr)(t:G_)(ht:t.length<=1000)(hbl:(aM l).length=t.length)(htI:∀n∈t,i64 n)(N:Nat):∀(r:G_) (b:Nat) (w z:Int),t.drop b=r->u4 w->u4 z->
  ∃H,(Dn prog).code (.loop w7) ⟨[(1,.ptr 0 0),(3,A_ w),(4,A_ (zX z)),(5,B_ (decide (0<=z))),(6,A_ j),(23,x23),(24,.d y24),(25,.d y25),(36,.d (.lst (aH t))),(37,A_ t.length),(38,A_ b)],⟨[(0,.cells c.av)],N⟩⟩ =
  match dW ((aM l).drop b) r w z with
  |some (w,z)=>some (.exit 2,⟨[(1,.ptr 0 0),(3,A_ w),(4,A_ (zX z)),(5,B_ (decide (0<=z))),(23,x23),(24,.d y24),(25,.d y25)],⟨[(0,.cells c.av)],N⟩⟩)
  |none=>some (.ret,⟨[(2,B_ false)],⟨H,N⟩⟩):=by
 simp only[cJ.av];intro r
 induction r with
 |nil =>
  intro b w z h hw hz;have hi:=aY h;refine⟨[],?_⟩;rw[ah ky,cm o_,dW];simp(disch:=omega)[↓aa]
 |cons n r ih =>
  intro b w z h hw hz;have hg:=yD h;have hlt:=bw h;have hnI:=htI n (by rw[<-aV b t,h];simp);have hblt:b<(aM l).length:=o_;have hkk:=eJ hblt;obtain⟨k,hk⟩:∃k,k=(aM l)[b]:=⟨_,rfl⟩
  have hk?:(aM l)[b]?=some k:=u_;have hmem:l∈c.sects:=by rw[<-aV j c.sects,hd];simp
  have hkr:=PE (hf l hmem) k u_;rw[<-hk]at hkk;have hB:=aeo c.sects hl hl2 m hm.2 hf j b l rr hd k hk?;have c1:((b+1:Nat):Int)=(b:Int)+1:=rfl;rw[hkk];by_cases k0:k=0
  .by_cases n0:n=0
   .obtain⟨H,e⟩:=ih (b+1) w z (bu h) hw hz;refine⟨H,?_⟩;rw[c1]at e;have eR:dW (k::(aM l).drop (b+1)) (n::r) w z=dW ((aM l).drop (b+1)) r w z:=by grind [dW]
    rw[ah ky,eR,<-e];subst k0 n0;simp(disch:=omega)[↓ac,↓aa,hg,hB]
   .refine⟨[],?_⟩;rw[ah ky,acJ (λ_=>n0) (λh=>absurd k0 h)];subst k0;simp(disch:=omega)[↓ac,↓aa,hg,hB]
  .by_cases k13:k=13
   .by_cases ho:mt k n w z
    .have hn5:=Su ho;obtain⟨H,e⟩:=ih (b+1) w n (bu h) hw hn5;refine⟨H,?_⟩;unfold mt at ho;rw[ac k13]at ho;have hnn:zX n=n:=by grind [zX]
     rw[c1,hnn,decide_eq_true (show 0<=n by omega)]at e;have eR:dW (k::(aM l).drop (b+1)) (n::r) w z=dW ((aM l).drop (b+1)) r w n:=by grind [dW]
     rw[ah ky,eR,<-e];subst k13;by_cases hz0:0<=z
     .have hzn:zX z=z:=by grind [zX]
      have hnr:=LY z n o_ o_;rw[decide_eq_true (show z-60<=n∧n<=z+60 by omega)]at hnr;rw[hzn,decide_eq_true hz0];simp(disch:=omega)[↓ac,↓aa,hg,hB,hnr]
     .rw[decide_eq_false hz0];simp(disch:=omega)[↓ac,↓aa,hg,hB]
    .refine⟨[],?_⟩;rw[ah ky,acJ (λh=>absurd h k0) (λ_=>ho)];unfold mt at ho;rw[ac k13]at ho;subst k13;by_cases b1:n<0
     .simp(disch:=omega)[↓ac,↓aa,hg,hB]
     .by_cases b2:511<n
      .simp(disch:=omega)[↓ac,↓aa,hg,hB]
      .have hz0:0<=z:=o_;have hzn:zX z=z:=by grind [zX]
       have hnr:=LY z n o_ o_;rw[decide_eq_false (show ¬(z-60<=n∧n<=z+60) by omega)]at hnr;rw[hzn,decide_eq_true hz0];simp(disch:=omega)[↓ac,↓aa,hg,hB,hnr]
   .by_cases ho:mt k n w z
    .have hn5:=Su ho;obtain⟨H,e⟩:=ih (b+1) n z (bu h) hn5 hz;refine⟨H,?_⟩;have eR:dW (k::(aM l).drop (b+1)) (n::r) w z=dW ((aM l).drop (b+1)) r n z:=by grind [dW]
     unfold mt at ho;rw[aa k13]at ho;rw[c1]at e;have hnr:=LY w n o_ o_;rw[decide_eq_true (show w-60<=n∧n<=w+60 by omega)]at hnr;rw[ah ky,eR,<-e];simp(disch:=omega)[↓ac,↓aa,hg,hB,hnr]
    .refine⟨[],?_⟩;rw[ah ky,acJ (λh=>absurd h k0) (λ_=>ho)];unfold mt at ho;rw[aa k13]at ho;by_cases b1:n<0
     .simp(disch:=omega)[↓ac,↓aa,hg,hB]
     .by_cases b2:255<n
      .simp(disch:=omega)[↓ac,↓aa,hg,hB]
      .have hnr:=LY w n o_ o_;rw[decide_eq_false (show ¬(w-60<=n∧n<=w+60) by omega)]at hnr;simp(disch:=omega)[↓ac,↓aa,hg,hB,hnr]
def ayC {bks:G_}:∀{t:G_}{w z:Int}{fin:Int×Int},u4 w->u4 z->dW bks t w z=some fin->u4 fin.1∧u4 fin.2:=by
 induction bks with
 |nil =>
  grind [dW]
 |cons k r ih =>
  intro t w z fin hw hz h
  cases t with
  |nil=>grind [dW]
  |cons n t =>
   obtain⟨h1,h2,h3⟩:=qu (by rw[h];simp)
   grind [kw]
def afj (c:cJ)(hc:c.Fit)(hm:c.info.may 11)(hf:fJ c.info.max c.sects):∀(gr:H_) (sr:J_) (j N:Nat) (w z:Int),c.sects.drop j=gr->c.steps.drop j=sr->gr.length=sr.length->u4 w->u4 z->
  ∃H M,(Dn prog).code (.loop wV) ⟨[(1,.ptr 0 0),(3,A_ w),(4,A_ (zX z)),(5,B_ (decide (0<=z))),(23,.d (.lst (cZ c.steps))),(24,A_ c.steps.length),(25,A_ j)],⟨[(0,.cells c.av)],N⟩⟩ =
  match mZ gr sr w z with
  |some _=>some (.exit 0,⟨[],⟨H,M⟩⟩)
  |none=>some (.ret,⟨[(2,B_ false)],⟨H,M⟩⟩):=by
 have hmx:=jY hm;have hl1:=hc.steps.1;simp only[cJ.av];intro gr
 induction gr with
 |nil =>
  intro sr j N w z hd hd2 he hw hz;have hi2:c.steps.length<=j:=by
   grind
  have hsr:sr=[]:=d_;refine⟨[],N,?_⟩;rw[ah wE,hsr,mZ];simp(disch:=omega)[↓ac,↓aa]
 |cons l r ih =>
  intro sr j N w z hd hd2 he hw hz
  cases sr with
  |nil=>simp at he
  |cons t s =>
   simp only[aq,sM]at he;have hgt:=Gq hd2;have hlt2:=bw hd2;have hmt:t∈c.steps:=by rw[<-aV j c.steps,hd2];simp
   have htl:=hc.steps.2 t hmt;have hml:l∈c.sects:=by rw[<-aV j c.sects,hd];simp
   have hbk:=tW (hf l hml) hmx.1;have c0:((0:Nat):Int)=0:=rfl;rw[mZ];by_cases hlen:(t.length:Int)=c.info.max
   .obtain⟨H,e⟩:=agu c hc.sects.1 hc.sects.2 c.info.max ⟨hmx.1,o_⟩ hf (.d (.lst (cZ c.steps))) (.int .i64 c.steps.length) (.int .i64 j) j l r hd t htl o_ (hc.stepI t hmt) N t 0 w z rfl hw hz;rw[c0,mW]at e
    cases hrow:dW (aM l) t w z with
    |none =>
     rw[hrow]at e;refine⟨H,N,?_⟩;rw[ah wE];simp(disch:=omega)[↓ac,hgt,e]
    |some fin =>
     rw[hrow]at e;obtain⟨f1,f2⟩:=ayC hw hz hrow;obtain⟨H2,M2,e2⟩:=ih s (j+1) N fin.1 fin.2 (bu hd) (bu hd2) he f1 f2;refine⟨H2,M2,?_⟩;rw[ah wE];rw[<-e2];simp(disch:=omega)[↓ac,hgt,e]
   .refine⟨[],N,?_⟩;have hn:dW (aM l) t w z=none:=by
     cases hrow:dW (aM l) t w z<;>grind [YM]
    rw[ah wE,hn];simp(disch:=omega)[↓ac,↓aa,hgt]
instance {gain:Int}{g:H_}{t:J_}:Decidable (BX gain g t):=by unfold BX;infer_instance
def apr (c:cJ)(hc:c.Fit)(hm:c.info.may 11)(hgn:0<=c.gain∧c.gain<=255)(hs:ke c.info c.sects):bh prog Kc [.agg c.av]=some (B_ (decide (BX c.gain c.sects c.steps))):=by
 have c0:((0:Nat):Int)=0:=rfl;have hnv:zX (-1)=0:=rfl;have hdf:decide ((0:Int)<=-1)=false:=rfl;rw[aD ahG ahp rfl];by_cases h1:c.steps.length=c.info.groups.length
 .obtain⟨H,M,e⟩:=afj c hc hm hs.2 c.sects c.steps 0 1 c.gain (-1) rfl rfl o_ o_ o_;rw[c0,hnv,hdf]at e;by_cases hr:mZ c.sects c.steps c.gain (-1)=none
  .rw[hr]at e;rw[decide_eq_false (λh=>h hr)];simp(disch:=omega)[↓ac,e]
  .obtain⟨fin,hf⟩:=Option.ne_none_iff_exists'.1 hr;rw[hf]at e;rw[decide_eq_true hr];simp(disch:=omega)[↓ac,e]
 .rw[decide_eq_false (λh=>h1 (by grind [K3]))];simp(disch:=omega)[↓ac,↓aa]
abbrev rR:=@Bool.or_false
def aid {h:am}{l:G_}{a b:Nat}(hab:a<=b)(hb:b<=l.length)(x y:Int)(hx:x=a)(hy:y=b):mR h 1 (.d (.lst (aH l))) (some (A_ x)) (some (A_ y)) none=some (.d (.lst (aH ((l.drop a).take (b-a))))):=by
 have e1:ej (A_ (b:Int)) (aH l).length=some b:=by grind [yK,iD]
 have e2:ej (A_ (a:Int)) b=some a:=by grind [yK]
 have e3:Gt 1 (aH l)=true:=by cases l<;>rfl
 simp_all [mR,okSl,vR,xu,wR]
def auQ {id:Nat}(hid:1<=id∧id<=11):jb id<=8191:=(DP id (Ur hid)).2.2.2
def ass (id:Nat)(hid:1<=id∧id<=11)(v:Int)(hv:i64 v):bh prog Ww [A_ id,A_ v]=some (B_ (decide (v.natAbs<=jb id))):=by
 have i4:[[D.int .i64 v],[D.int .i64 0],[D.int .i64 0],[D.int .i64 0]]=aH [v,0,0,0]:=rfl;have i2:[[D.int .i64 v],[D.int .i64 0]]=aH [v,0]:=rfl;have hz:L8 (jb id) 0=false:=by grind [L8]
 have hf:L8 (jb id) v=!decide (v.natAbs<=jb id):=by
  grind [L8]
 rw[aD alF ame rfl];by_cases h4:4<id
 .have h:=T3 id hid [v,0] (by grind [bI]);simp only[fq,List.any_nil,hz,hf,rR,Bool.not_not]at h;rw[<-i2]at h;have hs:mR [] 1 (.own false 1 [[.int .i64 v],[.int .i64 0],[.int .i64 0],[.int .i64 0]]) none (some (A_ 2)) none=some (.d (.lst [[.int .i64 v],[.int .i64 0]])):=rfl;simp(disch:=omega)[↓ac,hs,h]
 .have h:=T3 id hid [v,0,0,0] (by grind [bI]);simp only[fq,List.any_nil,hz,hf,rR,Bool.not_not]at h;rw[<-i4]at h;simp(disch:=omega)[↓ac,↓aa,h]
def mu:C_->Nat->Nat
 |[],_=>0
 |x::r,i=>if x<=i then mu r i+1 else 0
def agt (os:C_)(ho:os.length<=100)(X:Obj)(x4 x54:AV)(y10 y12 y16 y34 y35 y55 y56:D)(i:Nat)(hi:i<=1000)(hoI:∀x∈os,x<=1000)(hp:HS):∀(r:C_) (b:Nat),os.drop (b+1)=r->(∃x∈r,i<x)->
  (Dn prog).code (.loop wS) ⟨[(4,x4),(8,.own false 1 (cY os)),(10,.d y10),(12,.d y12),(14,A_ b),(15,A_ i),(16,.d y16),(34,.d y34),(35,.d y35),(54,x54),(55,.d y55),(56,.d y56)],hp⟩ =
  some (.exit 4,⟨[(4,x4),(8,.own false 1 (cY os)),(10,.d y10),(12,.d y12),(14,A_ (b+mu r i:Nat)),(16,.d y16),(34,.d y34),(35,.d y35),(54,x54),(55,.d y55),(56,.d y56)],hp⟩):=by
 obtain⟨h,n⟩:=hp;intro r
 induction r with
 |nil=>simp_all
 |cons x r ih =>
  intro b hd hx;have hlt:=bw hd;have hnx:nth os (b+1)=x:=by
   grind [q9]
  have hg:(cY os)[b+1]?=some [.int .i64 (x:Int)]:=by grind [EG]
  have hxI:=hoI x (by grind [jy]);rw[ah aaD,mu];by_cases h1:x<=i
  .have hx2:∃y∈r,i<y:=by
    grind
   have h5:=ih (b+1) (bu hd) hx2;rw[ac h1,show b+(mu r i+1)=b+1+mu r i by omega,<-h5];simp(disch:=omega)[↓ac,hg]
  .simp(disch:=omega)[↓aa,hg]
def aaU {l:C_}{i:Nat}:∀{b:Nat},b<=l.length->(∀x∈l.take b,x<=i)->mu l i=b+mu (l.drop b) i:=by
 induction l with
 |nil=>simp_all
 |cons x r ih =>
  intro b hb h
  cases b<;>grind [mu]
def ao1 {l:C_}{i:Nat}:∀x∈l.take (mu l i),x<=i:=by
 induction l<;>grind [mu]
def auT {l:C_}{i:Nat}:mu l i<=l.length:=by
 induction l<;>grind [mu]
def Oo (tl:C_)(bks:G_)(i:Nat)(v:Int):Prop:=v=0∨∃k,bks[mu tl i]?=some k∧(1<=k∧k<=11)∧v.natAbs<=jb k.toNat
def xJ (tl:C_)(bks:G_):Nat->G_->Prop
 |_,[]=>True
 |i,v::r=>Oo tl bks i v∧xJ tl bks (i+1) r
def afl (c:cJ)(hc:c.Fit)(hm:c.info.may 11)(hf:fJ c.info.max c.sects)(os:C_)(ho:os.length<=100)(hoI:∀x∈os,x<=1000)(hne:os≠[])(y10 y34 y35:D)(j:Nat)(l:P_)(rr:H_)(hd:c.sects.drop j=l::rr)(ls:G_)(hls:ls.length<=1000)(hlI:∀v∈ls,i64 v)(hlast:∀i,i<ls.length->∃x∈os.drop 1,i<x)(N:Nat):∀(r:G_) (i b:Nat),ls.drop i=r->b<=(os.drop 1).length->(∀x∈(os.drop 1).take b,x<=i)->
  (xJ (os.drop 1) (aM l) i r∧(Dn prog).code (.loop qN) ⟨[(4,.ptr 0 0),(8,.own false 1 (cY os)),(10,.d y10),(12,A_ j),(14,A_ b),(34,.d y34),(35,.d y35),(54,.d (.lst (aH ls))),(55,A_ ls.length),(56,A_ i)],⟨[(0,.cells c.av)],N⟩⟩ =
   some (.exit 2,⟨[(4,.ptr 0 0),(8,.own false 1 (cY os)),(10,.d y10),(34,.d y34),(35,.d y35)],⟨[(0,.cells c.av)],N⟩⟩))∨
  (¬xJ (os.drop 1) (aM l) i r∧(Dn prog).code (.loop qN) ⟨[(4,.ptr 0 0),(8,.own false 1 (cY os)),(10,.d y10),(12,A_ j),(14,A_ b),(34,.d y34),(35,.d y35),(54,.d (.lst (aH ls))),(55,A_ ls.length),(56,A_ i)],⟨[(0,.cells c.av)],N⟩⟩ =
   some (.ret,⟨[(6,B_ false)],⟨[],N⟩⟩)):=by
 have hmx:=jY hm;have hml:l∈c.sects:=by rw[<-aV j c.sects,hd];simp
 have hbk:=tW (hf l hml) hmx.1;simp only[cJ.av];intro r
 induction r with
 |nil =>
  intro i b h hb hx;have hi:=aY h;refine .inl ⟨trivial,?_⟩;rw[ah jq];simp(disch:=omega)[↓aa]
 |cons v r ih =>
  intro i b h hb hx;have hg:=yD h;have hlt:=bw h;have hvI:=hlI v (by rw[<-aV i ls,h];simp);have c1:((i+1:Nat):Int)=(i:Int)+1:=rfl;by_cases v0:v=0
  .have h5:=ih (i+1) b (bu h) hb λx hx2=>by grind
   rw[c1]at h5;have hL:Oo (os.drop 1) (aM l) i v:=.inl v0;rw[xJ];subst v0;rcases h5 with ⟨e1,e2⟩|⟨e1,e2⟩
   .refine .inl ⟨⟨hL,e1⟩,?_⟩;rw[ah jq,<-e2];simp(disch:=omega)[↓ac,hg]
   .refine .inr ⟨λh=>e1 h.2,?_⟩;rw[ah jq,<-e2];simp(disch:=omega)[↓ac,hg]
  .have hsk:=aaU hb hx;have hdd:os.drop (b+1)=(os.drop 1).drop b:=u_;have hex:∃x∈os.drop (b+1),i<x:=by
    grind [List.take_append_drop]
   have h0:=agt os ho (.cells c.av) (.ptr 0 0) (.d (.lst (aH ls))) y10 (.int .i64 j) (.int .i64 v) y34 y35 (.int .i64 ls.length) (.int .i64 i) i o_ hoI ⟨[(0,.cells c.av)],N⟩ (os.drop (b+1)) b rfl hex;rw[hdd,<-hsk]at h0;have hbl:=auT (l:=os.drop 1) (i:=i);have hbt:=ao1 (l:=os.drop 1) (i:=i);have hol:(os.drop 1).length<=100:=d_;obtain⟨B,hB⟩:∃B,B=mu (os.drop 1) i:=⟨_,rfl⟩
   have h5:=ih (i+1) B (bu h) o_ λx hx2=>by grind
   rw[c1]at h5;simp only[cJ.av]at h0;rw[xJ];unfold Oo;rw[<-hB]at h0⊢;by_cases hBm:(B:Int)<c.info.max
   .have hBl:B<(aM l).length:=o_;obtain⟨k,hk⟩:∃k,(aM l)[B]?=some k:=⟨_,bC hBl⟩
    have hBk:=aeo c.sects hc.sects.1 hc.sects.2 c.info.max o_ hf j B l rr hd k hk;rw[hk];by_cases hk1:1<=k∧k<=11
    .obtain⟨K,rfl⟩:=aB (show 0<=k by omega);have hft:=ass K o_ v hvI;by_cases hfit:v.natAbs<=jb K
     .rw[decide_eq_true hfit]at hft;have hL:v=0∨∃k,some (K:Int)=some k∧(1<=k∧k<=11)∧v.natAbs<=jb k.toNat:=.inr ⟨K,rfl,hk1,by simpa using hfit⟩;rcases h5 with ⟨e1,e2⟩|⟨e1,e2⟩
      .refine .inl ⟨⟨hL,e1⟩,?_⟩;rw[ah jq,<-e2];simp(disch:=omega)[↓ac,↓aa,hg,h0,hBk,hft]
      .refine .inr ⟨λh=>e1 h.2,?_⟩;rw[ah jq,<-e2];simp(disch:=omega)[↓ac,↓aa,hg,h0,hBk,hft]
     .rw[decide_eq_false hfit]at hft;refine .inr ⟨λh=>?_,?_⟩
      .grind
      .rw[ah jq];simp(disch:=omega)[↓ac,↓aa,hg,h0,hBk,hft]
    .have hn:¬((v=0∨∃k',some k=some k'∧(1<=k'∧k'<=11)∧v.natAbs<=jb k'.toNat)∧xJ (os.drop 1) (aM l) (i+1) r):=λh=>by
      grind
     refine .inr ⟨hn,?_⟩;rw[ah jq];by_cases hk0:k<1
     .simp(disch:=omega)[↓ac,↓aa,hg,h0,hBk]
     .simp(disch:=omega)[↓ac,↓aa,hg,h0,hBk]
   .have hBl:(aM l)[B]?=none:=ik o_;refine .inr ⟨λh=>?_,?_⟩
    .grind
    .rw[ah jq];simp(disch:=omega)[↓ac,↓aa,hg,h0]
abbrev cM:=@List.length_drop
abbrev gj:=@Nat.add_sub_cancel_left
def ajZ:∀{l:G_}{w:Int},w<l.sum->(∀n∈l,1<=n)->0<=w->lH l w<l.length
 |[],w,h,_,h0=>by grind
 |n::r,w,h,hn,h0=>by
  rw[lH];split
  .simp
  .have:=ajZ (l:=r) (w:=w-n) d_ (λm hm=>hn m (.tail _ hm)) (by omega)
   simp_all
def aN.wide (i:aN):Nat:=if i.seq=2 then 32 else 256
def zD (c:cJ)(w:Nat):G_:=(c.lines.drop (w*c.info.wide)).take c.info.wide
def xD (c:cJ)(w:Nat):P_:=c.sects.getD (lH c.info.groups w) []
def Kn (r:Nat)(c:cJ):Nat->Nat->Prop
 |0,_=>True
 |k+1,w=>xJ ((offs r c.info.short).drop 1) (aM (xD c w)) 0 (zD c w)∧Kn r c k (w+1)
abbrev Uq (r:Nat)(c:cJ):Prop:=c.lines.length=256∧Kn r c c.info.many 0
def Cl:∀x∈Ix,((offs x.1 x.2).drop 1).contains (cond x.2 32 256)=true∧(offs x.1 x.2).all (λy=>decide (y<=1000))=true∧(offs x.1 x.2).length<=64∧1<=(offs x.1 x.2).length:=e_
def af3 (rt:Nat)(hrt:rt<=11)(c:cJ)(hc:c.Fit)(hm:c.info.may 11)(hs:ke c.info c.sects)(hl:c.lines.length=256)(N:Nat):∀(k w:Nat),w+k=c.info.many->
  (Kn rt c k w∧∃H,(Dn prog).code (.loop qT) ⟨[(4,.ptr 0 0),(8,.own false 1 (cY (offs rt c.info.short))),(10,A_ c.info.wide),(34,A_ c.info.many),(35,A_ w)],⟨[(0,.cells c.av)],N⟩⟩=some (.exit 0,⟨[],⟨H,N⟩⟩))∨
  (¬Kn rt c k w∧(Dn prog).code (.loop qT) ⟨[(4,.ptr 0 0),(8,.own false 1 (cY (offs rt c.info.short))),(10,A_ c.info.wide),(34,A_ c.info.many),(35,A_ w)],⟨[(0,.cells c.av)],N⟩⟩=some (.ret,⟨[(6,B_ false)],⟨[],N⟩⟩)):=by
 have hmm:c.info.many*c.info.wide=256∧c.info.many<=8∧c.info.wide<=256∧1<=c.info.many:=by grind [aN.many,aN.wide]
 obtain⟨m1,m2,m3,m4⟩:=hmm;obtain⟨o1,o2,o3,o4⟩:=Cl (rt,c.info.short) (fI o_);simp only at o1 o2 o3 o4;obtain⟨g1,g2⟩:=dV hm;have hoI:∀x∈offs rt c.info.short,x<=1000:=λx hx=>by simp_all
 have hcond:(cond c.info.short 32 256:Nat)=c.info.wide:=by
  grind [aN.short,aN.wide]
 rw[hcond]at o1;have hlast:∀i,i<c.info.wide->∃x∈(offs rt c.info.short).drop 1,i<x:=λi hi=>⟨c.info.wide,u_,hi⟩
 intro k
 induction k with
 |zero =>
  intro w hw;refine .inl ⟨trivial,[],?_⟩;rw[ah wI];simp(disch:=omega)[↓ac,↓aa]
 |succ k ih =>
  intro w hw;have hG:=PM c.info hc.info hm w o_ o_;have hgl:=ajZ (l:=c.info.groups) (w:=w) o_ (λn hn=>(g1 n hn).1) o_;obtain⟨G,hGe⟩:∃G,G=lH c.info.groups w:=⟨_,rfl⟩
  rw[<-hGe]at hG hgl;have hGs:G<c.sects.length:=o_;have hsa:xD c w=c.sects[G]:=by grind [xD]
  have hd:=eJ hGs;have hwl:w*c.info.wide+c.info.wide<=256:=by
   grind
  have hwn:(zD c w).length=c.info.wide:=by unfold zD;rw[b7,cM];omega
  have hwI:∀v∈zD c w,i64 v:=λv hv=>hc.lineI v (bK (dn hv))
  have h1:=afl c hc hm hs.2 (offs rt c.info.short) o_ hoI d_ (.int .i64 c.info.wide) (.int .i64 c.info.many) (.int .i64 w) G c.sects[G] _ hd (zD c w) o_ hwI (λi hi=>hlast i o_) N (zD c w) 0 0 rfl o_ s_;have h2:=ih (w+1) o_;have c1:((w+1:Nat):Int)=(w:Int)+1:=rfl;have c0:((0:Nat):Int)=0:=rfl;rw[c1]at h2;rw[c0]at h1;rw[hwn]at h1;have hmul:(w:Int)*c.info.wide=((w*c.info.wide:Nat):Int):=o_;have hmul2:((w:Int)+1)*c.info.wide=((w*c.info.wide+c.info.wide:Nat):Int):=d_;have hsl:=aid (h:=[(0,.cells c.av)]) (l:=c.lines) (a:=w*c.info.wide) (b:=w*c.info.wide+c.info.wide) o_ o_ ((w:Int)*c.info.wide) (((w:Int)+1)*c.info.wide) hmul hmul2;rw[gj]at hsl;have hW:((c.lines.drop (w*c.info.wide)).take c.info.wide)=zD c w:=rfl;rw[hW]at hsl;have hlw:=iD (l:=zD c w);rw[hwn]at hlw;rw[Kn,hsa];simp only[cJ.av,aN.cells]at h1 h2 hsl hG⊢;rcases h1 with ⟨e1,e2⟩|⟨e1,e2⟩
  .rcases h2 with ⟨f1,H,f2⟩|⟨f1,f2⟩
   .refine .inl ⟨⟨e1,f1⟩,H,?_⟩;rw[ah wI,<-f2];simp(disch:=omega)[↓ac,hG,hsl,hlw,e2]
   .refine .inr ⟨λh=>f1 h.2,?_⟩;rw[ah wI,<-f2];simp(disch:=omega)[↓ac,hG,hsl,hlw,e2]
  .refine .inr ⟨λh=>e1 h.1,?_⟩;rw[ah wI];simp(disch:=omega)[↓ac,hG,hsl,hlw,e2]
def aoO (rt:Nat)(hrt:rt<=11)(c:cJ)(hc:c.Fit)(hm:c.info.may 11)(hs:ke c.info c.sects):(Uq rt c∧bh prog DW [A_ rt,.agg c.av,A_ c.info.many]=some (B_ true))∨(¬Uq rt c∧bh prog DW [A_ rt,.agg c.av,A_ c.info.many]=some (B_ false)):=by
 have hof:=C3 rt c.info.short;rw[aD ajM ajr rfl];by_cases hl:c.lines.length=256
 .have h0:=af3 rt hrt c hc hm hs hl 1 c.info.many 0 o_;have c0:((0:Nat):Int)=0:=rfl;rw[c0]at h0;have hq:(256:Int).tdiv c.info.many=c.info.wide:=by grind [aN.many,aN.wide]
  have hmm:1<=c.info.many∧c.info.many<=8∧c.info.wide<=256:=by grind [aN.many]
  by_cases hs2:c.info.seq=2
  .have hsh:c.info.short=true:=decide_eq_true hs2;rw[hsh]at hof h0;rcases h0 with ⟨e1,H,e2⟩|⟨e1,e2⟩
   .refine .inl ⟨⟨hl,e1⟩,?_⟩;simp(disch:=omega)[↓ac,hof,hq,e2]
   .refine .inr ⟨λh=>e1 h.2,?_⟩;simp(disch:=omega)[↓ac,hof,hq,e2]
  .have hsh:c.info.short=false:=decide_eq_false hs2;rw[hsh]at hof h0;rcases h0 with ⟨e1,H,e2⟩|⟨e1,e2⟩
   .refine .inl ⟨⟨hl,e1⟩,?_⟩;simp(disch:=omega)[↓ac,↓aa,hof,hq,e2]
   .refine .inr ⟨λh=>e1 h.2,?_⟩;simp(disch:=omega)[↓ac,↓aa,hof,hq,e2]
 .refine .inr ⟨λh=>hl h.1,?_⟩;simp(disch:=omega)[↓ac,↓aa]
abbrev auX:D_:=[.fn Ff [] [.ptr 1 0],.fn EJ [] [.ptr 1 0],.fn Fq [] [.ptr 1 0],.fn EP [] [.ptr 1 0,.ptr 2 0],.fn Fo [] [.ptr 0 0,.ptr 1 0,.ptr 2 0]]
abbrev Ak (rt:Int)(c:cJ):am:=[(0,.cells [A_ rt]),(1,.cells c.av),(2,.cells [A_ c.info.many]),(3,.cells auX)]
def yv (rt:Int)(c:cJ)(N i:Nat)(hi:i<5)(F:AV)(hF:auX[i]?=some F)(hF2:firm (firm (firm (share F)))=F)(B:Bool)(hB:cy (Dn prog) F [] ⟨Ak rt c,N⟩=some (B_ B,⟨Ak rt c,N⟩)) :
  (Dn prog).code (.loop kP) ⟨[(28,.sl 3 0 5),(29,A_ 5),(30,A_ i)],⟨Ak rt c,N⟩⟩ =
  if B=true then (Dn prog).code (.loop kP) ⟨[(28,.sl 3 0 5),(29,A_ 5),(30,A_ ((i+1:Nat):Int))],⟨Ak rt c,N⟩⟩ else some (.ret,⟨[(4,A_ 8)],⟨Ak rt c,N⟩⟩):=by
 have c1:((i+1:Nat):Int)=(i:Int)+1:=rfl;obtain⟨hlt,e⟩:=aJ.1 hF;rw[c1,ah K5]
 cases B with
 |true =>
  simp(disch:=omega)[↓ac,↓aa,e,hF2,hB]
 |false =>
  simp(disch:=omega)[↓ac,↓aa,e,hF2,hB]
def axm (rt:Int)(c:cJ)(N:Nat):(Dn prog).call Ff [.ptr 1 0] ⟨Ak rt c,N⟩=some (B_ (decide (0<=c.gain∧c.gain<=255)),⟨Ak rt c,N⟩):=by
 rw[bb ac3 ace rfl];by_cases h1:0<=c.gain
 .by_cases h2:c.gain<=255
  .rw[decide_eq_true ⟨h1,h2⟩];simp(disch:=omega)[↓ac,↓aa]
  .rw[decide_eq_false (λh=>h2 h.2)];simp(disch:=omega)[↓ac,↓aa]
 .rw[decide_eq_false (λh=>h1 h.1)];simp(disch:=omega)[↓ac,↓aa]
def ax8 (rt:Int)(c:cJ)(N:Nat)(B:Bool)(h:bh prog DC [.agg c.av]=some (B_ B)):(Dn prog).call EJ [.ptr 1 0] ⟨Ak rt c,N⟩=some (B_ B,⟨Ak rt c,N⟩):=by
 rw[bb acW adr rfl];simp(disch:=omega)[h]
def ayy (rt:Int)(c:cJ)(N:Nat)(B:Bool)(h:bh prog Kc [.agg c.av]=some (B_ B)):(Dn prog).call Fq [.ptr 1 0] ⟨Ak rt c,N⟩=some (B_ B,⟨Ak rt c,N⟩):=by
 rw[bb adi acM rfl];simp(disch:=omega)[h]
def ayd (rt:Int)(c:cJ)(N:Nat)(B:Bool)(h:bh prog FO [.agg c.av,A_ c.info.many]=some (B_ B)):(Dn prog).call EP [.ptr 1 0,.ptr 2 0] ⟨Ak rt c,N⟩=some (B_ B,⟨Ak rt c,N⟩):=by
 rw[bb adG acu rfl];simp(disch:=omega)[h]
def am5 (rt:Int)(c:cJ)(N:Nat)(B:Bool)(h:bh prog DW [A_ rt,.agg c.av,A_ c.info.many]=some (B_ B)):(Dn prog).call Fo [.ptr 0 0,.ptr 1 0,.ptr 2 0] ⟨Ak rt c,N⟩=some (B_ B,⟨Ak rt c,N⟩):=by
 rw[bb acY acq rfl];simp(disch:=omega)[h]
structure nB (r:Nat)(c:cJ):Prop where
 gain:0<=c.gain∧c.gain<=255
 info:c.info.may r
 sects:ke c.info c.sects
 steps:BX c.gain c.sects c.steps
 tns:UI c.info c.tns
 lines:Uq r c
def Nh {f:FuncId}{caps:D_}{h:am}{N:Nat}:cy (Dn prog) (.fn f [] caps) [] ⟨h,N⟩=(Dn prog).call f caps ⟨h,N⟩:=s_
def PB (rt:Int)(c:cJ)(hc:c.Fit):(dY rt∧nB rt.toNat c∧bh prog jE [A_ rt,.agg c.av]=some (A_ 0))∨
  (dY rt∧¬nB rt.toNat c∧bh prog jE [A_ rt,.agg c.av]=some (A_ 8))∨(¬dY rt∧bh prog jE [A_ rt,.agg c.av]=some (A_ 2)):=by
 have hi:=yc rt c.info hc.info;have hw:=pt c.info hc.info;simp only[aN.cells]at hi hw;by_cases hr:dY rt
 .rw[ac hr]at hi;by_cases hm:c.info.may rt.toNat
  .rw[ac hm]at hi;have hm11:=gC o_ hm;rw[ac hm11]at hw;have hmm:c.info.many<=8:=by grind [aN.many]
   have cI:(rt.toNat:Int)=rt:=o_;have c0:((0:Nat):Int)=0:=rfl;have fin:∀(e:Int) (X:K_),(Dn prog).code (.loop kP) ⟨[(28,.sl 3 0 5),(29,A_ 5),(30,A_ ((0:Nat):Int))],⟨Ak rt c,4⟩⟩=X->(X=some (.exit 0,⟨[],⟨Ak rt c,4⟩⟩)∧e=0∨X=some (.ret,⟨[(4,A_ 8)],⟨Ak rt c,4⟩⟩)∧e=8)->bh prog jE [A_ rt,.agg c.av]=some (A_ e):=by
    intro e X h hX;rw[c0]at h;simp only[Ak,auX,cJ.av]at h hX;rw[aD JL Jj rfl];rcases hX with ⟨rfl,rfl⟩|⟨rfl,rfl⟩
    .simp(disch:=omega)[↓ac,↓aa,hi,hw,LW,h]
    .simp(disch:=omega)[↓ac,↓aa,hi,hw,LW,h]
   have s1:=yv rt c 4 0 o_ _ rfl rfl _ (Nh.trans (axm rt c 4));by_cases b1:0<=c.gain∧c.gain<=255
   .rw[ac (decide_eq_true b1)]at s1;have s2:=yv rt c 4 (0+1) o_ _ rfl rfl _ (Nh.trans (ax8 rt c 4 _ (afU c hc hm11)));rw[s2]at s1;by_cases b2:ke c.info c.sects
    .rw[ac (decide_eq_true b2)]at s1;have s3:=yv rt c 4 (0+1+1) o_ _ rfl rfl _ (Nh.trans (ayy rt c 4 _ (apr c hc hm11 b1 b2)));rw[s3]at s1;by_cases b3:BX c.gain c.sects c.steps
     .rw[ac (decide_eq_true b3)]at s1;have s4:=yv rt c 4 (0+1+1+1) o_ _ rfl rfl _ (Nh.trans (ayd rt c 4 _ (ahx c hc c.info.many hmm)));rw[s4]at s1;by_cases b4:UI c.info c.tns
      .rw[ac (decide_eq_true b4)]at s1;have hL:=aoO rt.toNat o_ c hc hm11 b2;rw[cI]at hL;rcases hL with ⟨b5,h5⟩|⟨b5,h5⟩
       .have s5:=yv rt c 4 (0+1+1+1+1) o_ _ rfl rfl _ (Nh.trans (am5 rt c 4 _ h5));rw[s5]at s1;have s6:(Dn prog).code (.loop kP) ⟨[(28,.sl 3 0 5),(29,A_ 5),(30,A_ ((0+1+1+1+1+1:Nat):Int))],⟨Ak rt c,4⟩⟩=some (.exit 0,⟨[],⟨Ak rt c,4⟩⟩):=by
         have c5:((0+1+1+1+1+1:Nat):Int)=5:=rfl;rw[c5,ah K5];simp(disch:=omega)[↓aa]
        rw[s6]at s1;exact .inl ⟨hr,⟨b1,hm,b2,b3,b4,b5⟩,fin 0 _ s1 (.inl ⟨rfl,rfl⟩)⟩
       .have s5:=yv rt c 4 (0+1+1+1+1) o_ _ rfl rfl _ (Nh.trans (am5 rt c 4 _ h5))
        grind [nB.lines]
      grind [nB.tns]
     grind [nB.steps]
    grind [nB.sects]
   grind [nB.gain]
  .refine .inr (.inl ⟨hr,λh=>hm h.info,?_⟩);rw[aD JL Jj rfl];simp(disch:=omega)[↓ac,↓aa,hi]
 .refine .inr (.inr ⟨hr,?_⟩);rw[aD JL Jj rfl];simp(disch:=omega)[↓ac,↓aa,hi]
def aHi {n:Int}{k P:Nat}(hP:2 ^ k=P)(hk:k<=62):fo .and (A_ n) (A_ ((P:Int)-1))=some (.int .i64 (n % P)):=by
 have h1:2 ^ k<=2 ^ 62:=aw o_ hk;have h2:=bU k;have hd:(P:Int) ∣ 18446744073709551616:=by
  subst hP;have:(2:Nat) ^ k ∣ 2 ^ 64:=Nat.pow_dvd_pow 2 o_;have:=Int.natCast_dvd_natCast.2 this;simpa using this
 have e0:0<=n % 18446744073709551616:=Int.emod_nonneg _ o_;have e1:n % 18446744073709551616 % P=n % P:=Int.emod_emod_of_dvd n hd;refine sJ ?_;rw[lU s_ s_];have c:(P:Int)-1=((P-1:Nat):Int):=o_;rw[c];simp only[jJ,Gu,BitVec.toNat_and,F9 (show P-1<kr .i64 by simp[kr,IntKind.signed];omega)];have e2:((2 ^ IntKind.i64.bits:Nat):Int)=18446744073709551616:=rfl;rw[BitVec.toNat_ofInt,e2];subst hP;rw[nW];have h3:(n % 18446744073709551616).toNat % 2 ^ k<2 ^ k:=ef _ h2;rw[agK (by simp[kr,IntKind.signed];omega),Int.natCast_emod];have e3:(((n % 18446744073709551616).toNat:Nat):Int)=n % 18446744073709551616:=o_;rw[e3,e1]
def aeE {hp:AV->am}{p N:Nat}(H:Hv hp p){b:C_}(hb:b.length<=900000000)(n:Int)(s:Nat)(hs:s<=31)(hn:i64 n)(sI:Int)(es:sI=s) :
  (Dn prog).call qt [A_ n,A_ sI,.ptr p 0] ⟨hp (.own false 1 (ai b)),N⟩=some (.tup [],⟨hp (.own false 1 (ai (b++ar (n % ((2 ^ s:Nat):Int)).toNat s))),N⟩):=by
 subst es;have h31:2 ^ s<=2 ^ 31:=aw o_ hs;have h2:=bU s;have q1:=UE (m:=s) o_;have q2:=aHi (n:=n) (k:=s) rfl o_;have e0:0<=n % ((2 ^ s:Nat):Int):=Int.emod_nonneg _ o_;have e1:n % ((2 ^ s:Nat):Int)<((2 ^ s:Nat):Int):=Int.emod_lt_of_pos _ o_;have h1:=me b (n % ((2 ^ s:Nat):Int)) s hb o_ _ (.inl rfl);rw[ac (by simp only[ou,au];omega)]at h1;simp only[au]at h1;generalize n % ((2 ^ s:Nat):Int)=Q at *;generalize 2 ^ s=P at *;rw[bb aaH aal rfl];simp(maxSteps:=300000) (disch:=omega)[H.get,H.put,-tJ,q1,q2,h1]
def fT (f:b6):Bool:=decide (∀c∈f.coefs,-(dM f.fine / 2)<=c∧c<dM f.fine / 2)
def fN (fine:Bool):Nat:=if fine then 4 else 3
def ee (b:Bool):Nat:=if b then 1 else 0
def uP (f:b6):Nat:=fN f.fine-ee (fT f)
def qH (w:Nat)(l:G_):C_:=l.flatMap λc=>ar (c % ((2 ^ w:Nat):Int)).toNat w
def bS (sh:Bool):Nat:=if sh then 4 else 6
def bQ (sh:Bool):Nat:=if sh then 3 else 5
def fg (sh:Bool):Nat:=if sh then 1 else 2
def ti (sh:Bool)(f:b6):C_:=ar f.len.toNat (bS sh)++(ar f.order.toNat (bQ sh)++if f.order=0 then [] else ar (ee f.down) 1++(ar (ee (fT f)) 1++qH (uP f) f.coefs))
def zx (sh:Bool)(l:AA_):C_:=ar l.length (fg sh)++match l with
 |[]=>[]
 |f0::_=>ar (ee f0.fine) 1++l.flatMap (ti sh)
def jF (sh:Bool)(t:N_):C_:=t.flatMap (zx sh)
abbrev Wk (sh:Bool)(v:AV):am:=[(0,.cells [v]),(2,.cells (mG sh))]
abbrev Yg (full:N_)(i:Int)(r:aW):aW:=(3,.ptr 0 0)::(9,.fn qt [] [.ptr 0 0])::(10,.ptr 2 0)::(30,.d (.lst (cT full)))::(31,A_ full.length)::(32,A_ i)::r
def avY (sh:Bool):Hv (Wk sh) 0:=⟨λv=>by simp,λv w=>by simp⟩
theorem Z6 {w:Nat}:∀{l:G_},(qH w l).length=w*l.length
 |[]=>by simp[qH]
 |c::r=>by
  have:=Z6 (w:=w) (l:=r);rw[qH]at this⊢;rw[aE,aj,dk,aq,this,Nat.mul_add];omega
def aBz (sh:Bool)(full:N_)(i:Int)(l:AA_)(k:Int)(nw:Bool)(w:Nat)(hw:1<=w-ee nw∧w<=4)(cs:G_)(hcs:cs.length<=100)(hcI:∀c∈cs,i64 c)(N:Nat):∀(r:G_) (j:Nat) (b:C_),cs.drop j=r->b.length+4*r.length<=900000000->
  (Dn prog).code (.loop uF) ⟨(3,.ptr 0 0)::(9,.fn qt [] [.ptr 0 0])::(10,.ptr 2 0)::(15,A_ w)::(16,B_ nw)::(30,.d (.lst (cT full)))::(31,A_ full.length)::(32,A_ i)::[(52,.d (.lst (fc l))),(53,A_ l.length),(54,A_ k),(91,.d (.lst (aH cs))),(92,A_ cs.length),(93,A_ j)],⟨Wk sh (.own false 1 (ai b)),N⟩⟩ =
  some (.exit 4,⟨Yg full i [(52,.d (.lst (fc l))),(53,A_ l.length),(54,A_ k)],⟨Wk sh (.own false 1 (ai (b++qH (w-ee nw) r))),N⟩⟩):=by
 intro r
 induction r with
 |nil =>
  intro j b hd hb;have hi:=aY hd;rw[ah Jk];simp(maxSteps:=300000) (disch:=omega)[↓aa,qH]
 |cons c r ih =>
  intro j b hd hb;simp only[aq]at hb;have hg:=yD hd;have hlt:=bw hd;have hcc:=hcI c (by rw[<-aV j cs,hd];simp);have hbit:=Gi nw;have hbI:((ee nw:Nat):Int)=if nw=true then 1 else 0:=by cases nw<;>rfl
  rw[<-hbI]at hbit;have hbb:ee nw<=1:=by cases nw<;>decide
  have hp:=aeE (avY sh) (N:=N) (b:=b) o_ c (w-ee nw) o_ hcc ((w:Int)-ee nw) o_;have h5:=ih (j+1) (b++ar (c % ((2 ^ (w-ee nw):Nat):Int)).toNat (w-ee nw)) (bu hd) g_;have c1:((j+1:Nat):Int)=(j:Int)+1:=rfl;have ea:b++qH (w-ee nw) (c::r)=b++ar (c % ((2 ^ (w-ee nw):Nat):Int)).toNat (w-ee nw)++qH (w-ee nw) r:=by rw[qH,aE,aA];rfl
  rw[c1]at h5;rw[ea,<-h5,ah Jk];simp(maxSteps:=300000) (disch:=omega)[↓ac,hg,hbit,hp]
abbrev j7:=@Int.emod_eq_of_lt
@[simp] def aHG {sh:Bool}:(mG sh)[0]?=some (A_ (fg sh:Int)):=by cases sh<;>rfl
@[simp] def aHS {sh:Bool}:(mG sh)[1]?=some (A_ (bS sh:Int)):=by cases sh<;>rfl
@[simp] def aH5 {sh:Bool}:(mG sh)[2]?=some (A_ (bQ sh:Int)):=by cases sh<;>rfl
@[simp] def aDU {sh:Bool}:(mG sh).map oE=mG sh:=by cases sh<;>rfl
def Cn {hp:AV->am}{p N:Nat}(H:Hv hp p){b:C_}(hb:b.length<=900000000)(n:Int)(s:Nat)(hs:s<=31)(h0:0<=n)(h1:n.toNat<2 ^ s)(m:Nat)(hm:m=n.toNat)(sI:Int)(es:sI=s) :
  (Dn prog).call qt [A_ n,A_ sI,.ptr p 0] ⟨hp (.own false 1 (ai b)),N⟩=some (.tup [],⟨hp (.own false 1 (ai (b++ar m s))),N⟩):=by
 have h31:2 ^ s<=2 ^ 31:=aw o_ hs;have h:=aeE H (N:=N) hb n s hs o_ sI es
 simp_all [j7]
abbrev aA0 (sh:Bool)(N:Nat)(f:b6)(v:AV):am:=[(0,.cells [v]),(2,.cells (mG sh)),(N,.cells f.av)]
def agM (sh:Bool)(N:Nat)(hN:3<=N)(f:b6):Hv (aA0 sh N f) 0:=⟨λv=>by simp,λv w=>by simp⟩
def We (f:b6):1<=uP f∧fN f.fine<=4∧3<=fN f.fine∧ee (fT f)<=1:=by
 grind [uP,fN,ee]
theorem aB3 (sh:Bool)(full:N_)(i:Int)(l:AA_)(hl:l.length<=100)(k N:Nat)(hN:3<=N)(f:b6)(r:AA_)(hd:l.drop k=f::r)(hf:Db sh f)(hcI:∀c∈f.coefs,i64 c)(b:C_)(hb:b.length<=800000000) :
  (Dn prog).code oZ ⟨Yg full i [(52,.d (.lst (fc l))),(53,A_ l.length),(54,A_ k)],⟨Wk sh (.own false 1 (ai b)),N⟩⟩ =
  some (.normal,⟨Yg full i [(52,.d (.lst (fc l))),(53,A_ l.length),(54,A_ ((k+1:Nat):Int))],⟨Wk sh (.own false 1 (ai (b++ti sh f))),N+1⟩⟩):=by
 have hg:=Bb hd;have hlt:=bw hd;obtain⟨⟨l1,l2⟩,⟨o1,o2⟩,c1,d1,c2⟩:=hf;have hlw:Bu sh<2 ^ bS sh∧bS sh<=6∧xE sh<2 ^ bQ sh∧bQ sh<=5∧xE sh<=12:=by cases sh<;>decide
 obtain⟨w1,w2,w3,w4,w5⟩:=hlw;have wN1:((2 ^ bS sh:Nat):Int)=2 ^ bS sh:=s_;have wN2:((2 ^ bQ sh:Nat):Int)=2 ^ bQ sh:=s_;have p1:=Cn (agM sh N hN f) (N:=N+1) (b:=b) o_ f.len (bS sh) o_ l1 o_ f.len.toNat rfl (bS sh) rfl;have p2:=Cn (agM sh N hN f) (N:=N+1) (b:=b++ar f.len.toNat (bS sh)) g_ f.order (bQ sh) o_ o1 o_ f.order.toNat rfl (bQ sh) rfl;have n0:N≠0∧N≠1∧N≠2:=o_;obtain⟨n0,n1,n2⟩:=n0;have c9:((k+1:Nat):Int)=(k:Int)+1:=rfl;rw[c9,J2];by_cases h0:f.order=0
 .have e:b++ti sh f=b++ar f.len.toNat (bS sh)++ar f.order.toNat (bQ sh):=by grind [ti]
  rw[e];generalize b++ar f.len.toNat (bS sh)++ar f.order.toNat (bQ sh)=B2 at *;generalize b++ar f.len.toNat (bS sh)=B1 at *;simp only[aA0,b6.av]at p1 p2;simp(disch:=omega)[↓ac,↓aa,hg,p1,p2]
 .have hw:=KD f.fine;obtain⟨q1,q2,q3,q4⟩:=We f;have hcl:f.coefs.length<=100:=o_;have hft:=Mu f.coefs o_ (fN f.fine-1) o_;have hh:((2 ^ (fN f.fine-1-1):Nat):Int)=dM f.fine / 2:=by unfold fN dM;grind
  have hwI:(if f.fine=true then (4:Int) else 3)=(fN f.fine:Int):=by grind [fN]
  have hwS:((fN f.fine-1:Nat):Int)=(fN f.fine:Int)-1:=o_;have hnr:decide (∀c∈f.coefs,-(dM f.fine / 2)<=c∧c<dM f.fine / 2)=fT f:=rfl;rw[hh,hnr,hwS]at hft;rw[hwI]at hw;have hb1:=Gi f.down;have hb2:=Gi (fT f);have e1:(if f.down=true then (1:Int) else 0)=(ee f.down:Int):=by cases f.down<;>rfl
  have e2:(if fT f=true then (1:Int) else 0)=(ee (fT f):Int):=by cases fT f<;>rfl
  rw[e1]at hb1;rw[e2]at hb2;have hbd:ee f.down<=1:=o_;have p3:=Cn (agM sh N hN f) (N:=N+1) (b:=b++ar f.len.toNat (bS sh)++ar f.order.toNat (bQ sh)) g_ (ee f.down) 1 o_ o_ o_ (ee f.down) s_ 1 rfl;have p4:=Cn (agM sh N hN f) (N:=N+1) (b:=b++ar f.len.toNat (bS sh)++ar f.order.toNat (bQ sh)++ar (ee f.down) 1) g_ (ee (fT f)) 1 o_ o_ o_ (ee (fT f)) s_ 1 rfl;have p5:=aBz sh full i l k (fT f) (fN f.fine) o_ f.coefs hcl hcI (N+1) f.coefs 0 (b++ar f.len.toNat (bS sh)++ar f.order.toNat (bQ sh)++ar (ee f.down) 1++ar (ee (fT f)) 1) rfl g_;have c0:((0:Nat):Int)=0:=rfl;have hlc:=iD (l:=f.coefs);have e:b++ti sh f=b++ar f.len.toNat (bS sh)++ar f.order.toNat (bQ sh)++ar (ee f.down) 1++ar (ee (fT f)) 1++qH (fN f.fine-ee (fT f)) f.coefs:=by
   rw[ti,aa h0];simp only[aA];rfl
  rw[c0]at p5;rw[e];generalize b++ar f.len.toNat (bS sh)++ar f.order.toNat (bQ sh)++ar (ee f.down) 1++ar (ee (fT f)) 1=B4 at *;generalize b++ar f.len.toNat (bS sh)++ar f.order.toNat (bQ sh)=B2 at *;simp(disch:=omega)[↓ac,↓aa,hg,p1,p2,p3,p4,p5,hw,hft,hb1,hb2,hlc]
theorem ajS {sh:Bool}{f:b6}(hf:Db sh f):(ti sh f).length<=100:=by
 obtain⟨⟨l1,l2⟩,⟨o1,o2⟩,c1,d1,c2⟩:=hf;have hlw:bS sh<=6∧bQ sh<=5∧xE sh<=12:=by cases sh<;>decide
 obtain⟨q1,q2,q3,q4⟩:=We f;have hcw:uP f<=4:=by unfold uP;omega
 have h1:uP f*f.coefs.length<=4*f.coefs.length:=ct _ hcw
 grind [ti,dk,Z6]
def arY (sh:Bool)(full:N_)(i:Int)(l:AA_)(hl:l.length<=100):∀(r:AA_) (k N:Nat) (b:C_),l.drop k=r->3<=N->(∀f∈r,Db sh f∧∀c∈f.coefs,i64 c)->b.length+100*r.length<=800000000->
  ∃M,3<=M∧(Dn prog).code (.loop oZ) ⟨Yg full i [(52,.d (.lst (fc l))),(53,A_ l.length),(54,A_ k)],⟨Wk sh (.own false 1 (ai b)),N⟩⟩ =
  some (.exit 2,⟨Yg full i [],⟨Wk sh (.own false 1 (ai (b++r.flatMap (ti sh)))),M⟩⟩):=by
 intro r
 induction r with
 |nil =>
  intro k N b hd hN hr hb;have hi:=aY hd;refine⟨N,hN,?_⟩;rw[ah J2,gw,bj];simp(disch:=omega)[↓aa]
 |cons f r ih =>
  intro k N b hd hN hr hb;obtain⟨h1,h2⟩:=hr f (.head _);have h3:=ajS h1;obtain⟨M,hM,e⟩:=ih (k+1) (N+1) (b++ti sh f) (bu hd) o_ (λq hq=>hr q (.tail _ hq)) (by grind)
  grind [ah,aB3,OI]
def adB {sh:Bool}{l:AA_}(h:uU sh l):(zx sh l).length<=1000:=by
 have hm:qx sh<=3∧fg sh<=2:=by cases sh<;>decide
 have h1:=h.1;unfold zx;rw[aj,dk]
 cases l with
 |nil=>grind
 |cons f0 r =>
  have h2:=h.2 f0 s_;have:∀q:AA_,(∀f∈q,Db sh f)->(q.flatMap (ti sh)).length<=100*q.length:=by
   intro q
   induction q<;>grind [ajS]
  grind [dk]
def aBr (i:aN)(full:N_)(hl:full.length<=1000):∀(r:N_) (j N:Nat) (b:C_),full.drop j=r->3<=N->(∀l∈r,uU i.short l∧∀f∈l,∀c∈f.coefs,i64 c)->b.length+1000*r.length<=700000000->
  ∃M,(Dn prog).code (.loop uY) ⟨Yg full j [],⟨Wk i.short (.own false 1 (ai b)),N⟩⟩ =
  some (.exit 0,⟨[(3,.ptr 0 0)],⟨[(0,.cells [.own false 1 (ai (b++jF i.short r))])],M⟩⟩):=by
 intro r
 induction r with
 |nil =>
  intro j N b hd hN hr hb;have hi:=aY hd;refine⟨N,?_⟩;rw[ah Bj,jF,gw,bj];simp(disch:=omega)[↓aa]
 |cons l r ih =>
  intro j N b hd hN hr hb;simp only[aq]at hb;have hg:=tT hd;have hlt:=bw hd;obtain⟨h1,h2⟩:=hr l (.head _);have hwl:=adB h1;have hm:qx i.short<=3∧fg i.short<=2∧qx i.short<2 ^ fg i.short:=by cases i.short<;>decide
  obtain⟨m1,m2,m3⟩:=hm;have hll:=h1.1;have p1:=Cn (avY i.short) (N:=N) (b:=b) o_ l.length (fg i.short) o_ o_ o_ l.length s_ (fg i.short) rfl;have c1:((j+1:Nat):Int)=(j:Int)+1:=rfl;have c0:((0:Nat):Int)=0:=rfl
  cases l with
  |nil =>
   have eb:zx i.short []=ar 0 (fg i.short):=by simp[zx]
   obtain⟨M2,hM2,p2⟩:=arY i.short full j [] s_ [] 0 N (b++zx i.short []) rfl hN s_ d_;obtain⟨M,e⟩:=ih (j+1) M2 (b++zx i.short []) (bu hd) hM2 (λq hq=>hr q (.tail _ hq)) d_;refine⟨M,?_⟩;have ea:b++jF i.short ([]::r)=b++zx i.short []++jF i.short r:=by grind [jF]
   rw[eb]at ea e p2;simp only[bg,gw,bj]at p1 p2;rw[c1]at e;rw[c0]at p1 p2;have n0:fc []=[]:=rfl;rw[n0]at hg p2;rw[ea];generalize b++ar 0 (fg i.short)++jF i.short r=BB at *;generalize b++ar 0 (fg i.short)=B1 at *;simp only[Wk]at p1 p2 e⊢;rw[<-e,ah Bj];simp(disch:=omega)[↓ac,↓aa,hg,p1,p2]
  |cons f0 r0 =>
   have hgf:=Bb (l:=f0::r0) (i:=0) (s:=f0) (r:=r0) rfl;have hb1:=Gi f0.fine;have e1:(if f0.fine=true then (1:Int) else 0)=(ee f0.fine:Int):=by cases f0.fine<;>rfl
   rw[e1]at hb1;have hbd:ee f0.fine<=1:=o_;have hok:∀f∈f0::r0,Db i.short f∧∀c∈f.coefs,i64 c:=λf hf=>⟨(h1.2 f0 s_ f hf).1,h2 f hf⟩
   have p2:=Cn (avY i.short) (N:=N) (b:=b++ar (f0::r0).length (fg i.short)) g_ (ee f0.fine) 1 o_ o_ o_ (ee f0.fine) s_ 1 rfl;obtain⟨M2,hM2,p3⟩:=arY i.short full j (f0::r0) o_ (f0::r0) 0 N (b++ar (f0::r0).length (fg i.short)++ar (ee f0.fine) 1) rfl hN hok (by grind [dk]);have eb:b++ar (f0::r0).length (fg i.short)++ar (ee f0.fine) 1++(f0::r0).flatMap (ti i.short)=b++zx i.short (f0::r0):=by grind [zx]
   obtain⟨M,e⟩:=ih (j+1) M2 (b++zx i.short (f0::r0)) (bu hd) hM2 (λq hq=>hr q (.tail _ hq)) d_;refine⟨M,?_⟩;have ea:b++jF i.short ((f0::r0)::r)=b++zx i.short (f0::r0)++jF i.short r:=by grind [jF]
   have hll2:1<=(f0::r0).length:=s_;rw[eb]at p3;rw[c1]at e;rw[c0]at p3;rw[ea];generalize b++ar (f0::r0).length (fg i.short)++ar (ee f0.fine) 1=B2 at *;generalize hLL:(f0::r0).length=LL at *;have hfl:(fc (f0::r0)).length=LL:=u_;obtain⟨hgl,hge⟩:=aJ.1 hgf;rw[<-e,ah Bj];simp(disch:=omega)[↓ac,↓aa,hg,hge,hfl,hb1,p1,p2,p3]
def al3 (i:aN)(f0:b6)(l:AA_)(f:b6)(hf:Db i.short f∧f.fine=f0.fine)(H:am)(p q M:Nat)(hp:get H p=some (.cells i.cells))(hq:get H q=some (.cells [.d (.lst (fc (f0::l)))]))(hl:(f0::l).length<=1000000)(hM:Lt H M) :
  (Dn prog).call nR [.agg f.av,.ptr p 0,.ptr q 0] ⟨H,M⟩=some (B_ false,⟨H,M+1⟩):=by
 have e1:=λo=>vV (o:=o) hM
 have e2:=λo=>yk (o:=o) hM
 have e3:=λo=>Cj (N:=M) (o:=o) hp
 have e4:=λo=>Cj (N:=M) (o:=o) hq
 have e5:=λo=>N2 (o:=o) hM
 have e6:=afH i f hf.1;have hfn:=hf.2;have hg:=Bb (l:=f0::l) (i:=0) (s:=f0) (r:=l) rfl;rw[bb VH VB rfl];simp only[b6.av,aN.cells]at e3 e6⊢
 cases hf2:f0.fine<;>rw[hf2]at hg hfn<;>rw[hfn]at e6⊢<;>
  simp(disch:=omega)[e1,e2,e3,e4,e5,e6,hg]
def ajd (i:aN)(full:N_)(hl:full.length<=1000):∀(r:N_) (j N:Nat) (H:am),full.drop j=r->get H 0=some (.cells i.cells)->Lt H N->1<=N->(∀l∈r,uU i.short l)->
  ∃H2 M,(Dn prog).code (.loop qV) ⟨[(2,.ptr 0 0),(21,.d (.lst (cT full))),(22,A_ full.length),(23,A_ j)],⟨H,N⟩⟩=some (.exit 0,⟨[],⟨H2,M⟩⟩):=by
 intro r
 induction r with
 |nil =>
  intro j N H hd hH hL hN hr;have hi:=aY hd;refine⟨H,N,?_⟩;rw[ah Gz];simp(disch:=omega)[↓aa]
 |cons l r ih =>
  intro j N H hd hH hL hN hr;have hg:=tT hd;have hlt:=bw hd;have hW:=hr l (.head _);have hm:qx i.short<=3:=by cases i.short<;>decide
  have hll:=hW.1;have e1:=λo=>vV (o:=o) hL
  have e2:=λo=>yk (o:=o) hL
  have e3:=λo=>Cj (N:=N) (o:=o) hH
  have e4:=λo o'=>IR (o:=o) (o':=o') hL
  have hsz:=An i;have hix:ixV 5 1 false (.agg (mG i.short)) (A_ 3)=some (A_ (qx i.short:Int)):=by cases i.short<;>rfl
  have hcf:∃M,N+1<=M∧(Dn prog).call fK [.d (.lst (fc l)),.fn nR [] [.ptr 0 0,.ptr N 0]] ⟨H++[(N,.cells [.d (.lst (fc l))])],N+1⟩=some (B_ false,⟨H++[(N,.cells [.d (.lst (fc l))])],M⟩):=by
   have h:=FU (.fn nR [] [.ptr 0 0,.ptr N 0]) (λ_=>false) l o_ (H++[(N,.cells [.d (.lst (fc l))])]) (N+1) rfl rfl λf hf M hM=>by
    cases l with
    |nil=>simp at hf
    |cons f0 r0 =>
     have:=al3 i f0 r0 f (hW.2 f0 s_ f hf) (H++[(N,.cells [.d (.lst (fc (f0::r0)))])]) 0 N M (e3 _) (e2 _) o_ (Lw (M7 hL) hM)
     simp_all
   grind
  obtain⟨M,hM,e5⟩:=hcf;obtain⟨H2,M2,f2⟩:=ih (j+1) M (H++[(N,.cells [.d (.lst (fc l))])]) (bu hd) (e3 _) (Lw (M7 hL) hM) o_ (λq hq=>hr q (.tail _ hq));refine⟨H2,M2,?_⟩;simp only[aN.cells]at e3 hsz;rw[ah Gz,<-f2];simp(disch:=omega)[↓ac,↓aa,hg,e1,e2,e3,e4,e5,hsz,hix]
def afJ (i:aN)(hi:i.Fit)(hm:i.may 11)(t:N_)(ht:UI i t):bh prog Lq [.agg i.cells,.d (.lst (cT t))]=some (A_ 0):=by
 have hw:=pt i hi;have hmm:i.many<=8:=by grind [aN.many]
 obtain⟨H2,M,e⟩:=ajd i t o_ t 0 1 [(0,.cells i.cells)] rfl s_ (λp hp=>by simp_all) o_ ht.2;have c0:((0:Nat):Int)=0:=rfl;rw[c0]at e;simp only[aN.cells]at hw e;rw[aD abd Zb rfl];simp(disch:=omega)[↓ac,hw,e]
def akn (b:C_)(hb:b.length<=600000000)(x:AV)(hx:x=.d (.lst (ai b))∨x=.nl∧b=[])(i:aN)(hi:i.Fit)(hm:i.may 11)(t:N_)(ht:UI i t)(htI:∀l∈t,∀f∈l,∀c∈f.coefs,i64 c):bh prog H6 [x,.agg i.cells,.d (.lst (cT t))] =
  some (.tup [.own true 1 (ai (b++jF i.short t)),A_ 0]):=by
 have hc:=afJ i hi hm t ht;have hmm:i.many<=8:=by grind [aN.many]
 obtain⟨M,e⟩:=aBr i t o_ t 0 3 b rfl o_ (λl hl=>⟨ht.2 l hl,htI l hl⟩) o_;have hcl:bh prog oj [x]=some (.own true 1 (ai b)):=by
  refine Nl x b o_ ?_;rcases hx with rfl|⟨rfl,rfl⟩<;>rfl
 have hsz:=An i;have hl5:(mG i.short).length=5:=by cases i.short<;>rfl
 have hall:(mG i.short).all bn=true:=by cases i.short<;>rfl
 have hfm:(mG i.short).map oE=mG i.short:=u_;have c0:((0:Nat):Int)=0:=rfl;rw[c0]at e;simp only[aN.cells,Wk,Yg]at hc e hsz;rw[aD af4 af7 rfl];rcases hx with rfl|⟨rfl,rfl⟩
 .simp(disch:=omega)[↓ac,↓aa,hc,hcl,hsz,hl5,hall,hfm,e]
 .simp(disch:=omega)[↓ac,↓aa,hc,hcl,hsz,hl5,hall,hfm,e]
def axC (id:Nat):bh prog T8 [A_ id]=some (A_ (bI id)):=by
 rw[aD ary aso rfl];unfold bI;by_cases h:id<5
 .simp(disch:=omega)[↓ac]
 .simp(disch:=omega)[↓aa]
def tN (d hi:Nat):Nat->Nat->C_
 |0,_=>[]
 |f+1,x=>if x<hi then x::tN d hi f (x+d) else []
def rI (os:C_)(d b:Nat):Nat->Nat->C_
 |0,_=>[]
 |k+1,w=>(tN d (nth os (b+1)) 300 (nth os b)).map (λx=>w*32+x)++rI os d b k (w+1)
def Ah (os:C_)(d n first:Nat):Nat->Nat->C_
 |0,_=>[]
 |k+1,b=>rI os d b n first++Ah os d n first k (b+1)
def Cb (os:C_)(n first:Nat):P_->Nat->R_
 |[],_=>[]
 |s::r,b=>(if s.book=0∨s.book=13 then [] else (Ah os (bI s.book.toNat) n first s.len.toNat b).map λx=>(s.book.toNat,x))++Cb os n first r (b+s.len.toNat)
def qw (os:C_):H_->G_->Nat->R_
 |l::r,n::g,first=>Cb os n.toNat first l 0++qw os r g (first+n.toNat)
 |_,_,_=>[]
def lI {σ τ:Type}(st:Nat×Nat->σ->Sum σ τ):R_->σ->Sum σ τ
 |[],s=>.inl s
 |p::r,s=>match st p s with
  |.inl s=>lI st r s
  |.inr z=>.inr z
def GB {σ τ:Type}{st:Nat×Nat->σ->Sum σ τ}:∀{l r:R_}{s:σ},lI st (l++r) s=match lI st l s with
  |.inl s=>lI st r s
  |.inr z=>.inr z
 |[],r,s=>rfl
 |p::l,r,s=>by
  rw[aQ,lI,lI]
  cases st p s with
  |inl s=>simp only[GB]
  |inr z=>rfl
def TZ {σ τ:Type}(hp:σ->am->am)(hq:τ->am->am)(L l:Nat)(st:Nat×Nat->σ->Sum σ τ)(dz:R_->σ->Prop):Prop :=
 ∀p r s K o N,dz (p::r) s->L<=K->K<N->
  (∃s2 M,N<=M∧st p s=.inl s2∧dz r s2∧cy (Dn prog) (.yield l) [.agg [A_ (p.1:Int),A_ (p.2:Int),A_ ((p.2+bI p.1:Nat):Int)]] ⟨hp s [(K,o)],N⟩=some (B_ true,⟨hp s2 [(K,o)],M⟩))∨
  (∃z M,N<=M∧st p s=.inr z∧cy (Dn prog) (.yield l) [.agg [A_ (p.1:Int),A_ (p.2:Int),A_ ((p.2+bI p.1:Nat):Int)]] ⟨hp s [(K,o)],N⟩=some (B_ false,⟨hq z [(K,o)],M⟩))
structure PlS where
 l:Nat
 p2:Nat
 p3:Nat
 full:H_
 os:C_
abbrev eP (P:PlS)(first g b:Int)(r:aW):aW:=(0,.yield P.l)::(2,.ptr P.p2 0)::(3,.ptr P.p3 0)::(5,A_ first)::(6,A_ g)::(8,A_ b)::r
abbrev Ls (P:PlS)(g:Int)(r:aW):aW:=(14,.d (.lst (bF P.full)))::(15,A_ P.full.length)::(16,A_ g)::r
abbrev Tj (ls:P_)(k:Int):aW:=[(21,.d (.lst (ie ls))),(22,A_ ls.length),(23,A_ k)]
section
variable {σ τ:Type}{hp:σ->am->am}{hq:τ->am->am}{L:Nat}{P:PlS}{st:Nat×Nat->σ->Sum σ τ}{dz:R_->σ->Prop}
def aDa (H:Tl hp L)(H2:Tl hq L)(hY:TZ hp hq L P.l st dz)(hg3:∀s T,get (hp s T) P.p3=some (.cells [.own false 1 (cY P.os)]))(s0:aU)(bk:Nat)(hbk:s0.book=bk)(hb1:1<=bk∧bk<=11)(b:Nat)(hb:b+1<P.os.length)(ho:P.os.length<=100)(hhi:nth P.os (b+1)<=256)(first g en gi k:Int)(w:Nat)(hw:w<=8)(ls:P_)(K:Nat)(hK:L<=K)(rest:R_):∀(f x N:Nat) (s:σ),nth P.os (b+1)<=x+f->x<=300->K<N->dz ((tN (bI bk) (nth P.os (b+1)) f x).map (λy=>(bk,w*32+y))++rest) s->
  (∃s2 M,N<=M∧lI st ((tN (bI bk) (nth P.os (b+1)) f x).map (λy=>(bk,w*32+y))) s=.inl s2∧dz rest s2∧
   (Dn prog).code (.loop nN) ⟨eP P first g b ((10,.ptr K 0)::(11,A_ en)::(12,A_ w)::(13,A_ x)::Ls P gi (Tj ls k)),⟨hp s [(K,.cells [A_ s0.book,A_ s0.len])],N⟩⟩ =
   some (.exit 8,⟨eP P first g b ((10,.ptr K 0)::(11,A_ en)::(12,A_ w)::Ls P gi (Tj ls k)),⟨hp s2 [(K,.cells [A_ s0.book,A_ s0.len])],M⟩⟩))∨
  (∃z M,N<=M∧lI st ((tN (bI bk) (nth P.os (b+1)) f x).map (λy=>(bk,w*32+y))) s=.inr z∧
   (Dn prog).code (.loop nN) ⟨eP P first g b ((10,.ptr K 0)::(11,A_ en)::(12,A_ w)::(13,A_ x)::Ls P gi (Tj ls k)),⟨hp s [(K,.cells [A_ s0.book,A_ s0.len])],N⟩⟩ =
   some (.ret,⟨[],⟨hq z [],M⟩⟩)):=by
 have hG:=λs o=>H.get s K o hK
 have hD2:=λs o=>H2.del s K o hK
 have hd4:bI bk<=4∧2<=bI bk:=by grind [bI]
 have hdim:=axC bk;have hgo:(cY P.os)[b+1]?=some [.int .i64 (nth P.os (b+1):Nat)]:=EG hb;have hne:cY P.os≠[]:=d_;intro f
 induction f with
 |zero =>
  intro x N s h1 h2 hKN hi;refine .inl ⟨s,N,al _,rfl,hi,?_⟩;rw[ah n9];simp(disch:=omega)[↓aa,hg3,hgo]
 |succ f ih =>
  intro x N s h1 h2 hKN hi;by_cases hx:x<nth P.os (b+1)
  .rw[tN,ac hx,bY,aQ]at hi;rw[tN,ac hx,bY,lI];have c1:((x+bI bk:Nat):Int)=(x:Int)+bI bk:=rfl;have c2:((w*32+x:Nat):Int)=(w:Int)*32+x:=o_;have c3:((w*32+x+bI bk:Nat):Int)=(w:Int)*32+x+bI bk:=o_;rcases hY (bk,w*32+x) _ s K (.cells [A_ s0.book,A_ s0.len]) N hi hK hKN with ⟨s2,M,hM,e1,e2,e3⟩|⟨z,M,hM,e1,e3⟩
   .rw[e1];simp only[c2,c3]at e3;have h9:=ih (x+bI bk) M s2 o_ o_ o_ e2;rw[c1]at h9;rw[hbk]at h9 e3⊢;rcases h9 with ⟨s3,M2,hM2,f1,f2,f3⟩|⟨z,M2,hM2,f1,f3⟩
    .refine .inl ⟨s3,M2,o_,f1,f2,?_⟩;rw[<-f3,ah n9];simp(disch:=omega)[↓ac,hg3,hgo,hG,hdim,-mA,e3]
    .refine .inr ⟨z,M2,o_,f1,?_⟩;rw[<-f3,ah n9];simp(disch:=omega)[↓ac,hg3,hgo,hG,hdim,-mA,e3]
   .rw[e1];simp only[c2,c3]at e3;rw[hbk]at e3⊢;refine .inr ⟨z,M,hM,rfl,?_⟩;rw[ah n9];simp(disch:=omega)[↓ac,hg3,hgo,hG,hdim,-mA,e3,hD2]
  .rw[tN,aa hx]at hi;rw[tN,aa hx];refine .inl ⟨s,N,al _,rfl,hi,?_⟩;rw[ah n9];simp(disch:=omega)[↓aa,hg3,hgo]
def aD0 (i:aN)(hil:i.groups.length<=1000)(H:Tl hp L)(H2:Tl hq L)(hY:TZ hp hq L P.l st dz)(hg2:∀s T,get (hp s T) P.p2=some (.cells i.cells))(hg3:∀s T,get (hp s T) P.p3=some (.cells [.own false 1 (cY P.os)]))(s0:aU)(bk:Nat)(hbk:s0.book=bk)(hb1:1<=bk∧bk<=11)(b:Nat)(hb:b+1<P.os.length)(ho:P.os.length<=100)(hhi:∀x∈P.os,x<=256)(first n g:Nat)(hgl:g<i.groups.length)(hn:nth i.groups g=n)(hfn:first+n<=8)(en gi k:Int)(ls:P_)(K:Nat)(hK:L<=K)(rest:R_):∀(j w N:Nat) (s:σ),w+j=first+n->K<N->dz ((rI P.os (bI bk) b j w).map (λy=>(bk,y))++rest) s->
  (∃s2 M,N<=M∧lI st ((rI P.os (bI bk) b j w).map (λy=>(bk,y))) s=.inl s2∧dz rest s2∧
   (Dn prog).code (.loop nS) ⟨eP P first g b ((10,.ptr K 0)::(11,A_ en)::(12,A_ w)::Ls P gi (Tj ls k)),⟨hp s [(K,.cells [A_ s0.book,A_ s0.len])],N⟩⟩ =
   some (.exit 6,⟨eP P first g b ((10,.ptr K 0)::(11,A_ en)::Ls P gi (Tj ls k)),⟨hp s2 [(K,.cells [A_ s0.book,A_ s0.len])],M⟩⟩))∨
  (∃z M,N<=M∧lI st ((rI P.os (bI bk) b j w).map (λy=>(bk,y))) s=.inr z∧
   (Dn prog).code (.loop nS) ⟨eP P first g b ((10,.ptr K 0)::(11,A_ en)::(12,A_ w)::Ls P gi (Tj ls k)),⟨hp s [(K,.cells [A_ s0.book,A_ s0.len])],N⟩⟩ =
   some (.ret,⟨[],⟨hq z [],M⟩⟩)):=by
 have hgo:(cY P.os)[b]?=some [.int .i64 (nth P.os b:Nat)]:=EG o_;have hob:=hhi (nth P.os b) (jy o_);have hob1:=hhi (nth P.os (b+1)) (jy hb);simp only[aN.cells]at hg2;intro j
 induction j with
 |zero =>
  intro w N s h1 hKN hi;refine .inl ⟨s,N,al _,rfl,hi,?_⟩;rw[ah r5];simp(disch:=omega)[↓aa,hg2,hn]
 |succ j ih =>
  intro w N s h1 hKN hi;have c1:((w+1:Nat):Int)=(w:Int)+1:=rfl;have em:(rI P.os (bI bk) b (j+1) w).map (λy=>(bk,y))=(tN (bI bk) (nth P.os (b+1)) 300 (nth P.os b)).map (λy=>(bk,w*32+y))++(rI P.os (bI bk) b j (w+1)).map (λy=>(bk,y)):=by
   simp_all [rI]
  rw[em]at hi⊢;rw[aA]at hi;rw[GB];rcases aDa H H2 hY hg3 s0 bk hbk hb1 b hb ho hob1 first g en gi k w o_ ls K hK _ 300 (nth P.os b) N s o_ o_ hKN hi with ⟨s2,M,hM,e1,e2,e3⟩|⟨z,M,hM,e1,e3⟩
  .rw[e1];have h9:=ih (w+1) M s2 o_ o_ e2;rcases h9 with ⟨s3,M2,hM2,f1,f2,f3⟩|⟨z,M2,hM2,f1,f3⟩
   .refine .inl ⟨s3,M2,o_,f1,f2,?_⟩;rw[<-f3,ah r5];simp(disch:=omega)[↓ac,hg2,hg3,hgo,hn,e3]
   .refine .inr ⟨z,M2,o_,f1,?_⟩;rw[<-f3,ah r5];simp(disch:=omega)[↓ac,hg2,hg3,hgo,hn,e3]
  .rw[e1];refine .inr ⟨z,M,hM,rfl,?_⟩;rw[ah r5];simp(disch:=omega)[↓ac,hg2,hg3,hgo,hn,e3]
def aDJ (i:aN)(hil:i.groups.length<=1000)(H:Tl hp L)(H2:Tl hq L)(hY:TZ hp hq L P.l st dz)(hg2:∀s T,get (hp s T) P.p2=some (.cells i.cells))(hg3:∀s T,get (hp s T) P.p3=some (.cells [.own false 1 (cY P.os)]))(s0:aU)(bk:Nat)(hbk:s0.book=bk)(hb1:bk<=11∨bk=13)(ho:P.os.length<=100)(hhi:∀x∈P.os,x<=256)(first n g:Nat)(hgl:g<i.groups.length)(hn:nth i.groups g=n)(hfn:first+n<=8)(en:Nat)(hen:en<P.os.length)(gi k:Int)(ls:P_)(K:Nat)(hK:L<=K)(rest:R_):∀(j b N:Nat) (s:σ),b+j=en->K<N->dz ((if bk=0∨bk=13 then [] else (Ah P.os (bI bk) n first j b).map (λy=>(bk,y)))++rest) s->
  (∃s2 M,N<=M∧lI st (if bk=0∨bk=13 then [] else (Ah P.os (bI bk) n first j b).map (λy=>(bk,y))) s=.inl s2∧dz rest s2∧
   (Dn prog).code (.loop nP) ⟨eP P first g b ((10,.ptr K 0)::(11,A_ en)::Ls P gi (Tj ls k)),⟨hp s [(K,.cells [A_ s0.book,A_ s0.len])],N⟩⟩ =
   some (.exit 4,⟨eP P first g en (Ls P gi (Tj ls k)),⟨hp s2 [],M⟩⟩))∨
  (∃z M,N<=M∧lI st (if bk=0∨bk=13 then [] else (Ah P.os (bI bk) n first j b).map (λy=>(bk,y))) s=.inr z∧
   (Dn prog).code (.loop nP) ⟨eP P first g b ((10,.ptr K 0)::(11,A_ en)::Ls P gi (Tj ls k)),⟨hp s [(K,.cells [A_ s0.book,A_ s0.len])],N⟩⟩ =
   some (.ret,⟨[],⟨hq z [],M⟩⟩)):=by
 have hG:=λs o=>H.get s K o hK
 have hD:=λs o=>H.del s K o hK
 intro j
 induction j with
 |zero =>
  intro b N s h1 hKN hi;have eb:b=en:=o_;subst eb;have e0:(if bk=0∨bk=13 then [] else (Ah P.os (bI bk) n first 0 b).map (λy=>(bk,y)))=[]:=by split<;>rfl
  rw[e0]at hi⊢;refine .inl ⟨s,N,al _,rfl,hi,?_⟩;rw[ah kY];simp(disch:=omega)[↓aa,hD]
 |succ j ih =>
  intro b N s h1 hKN hi;have c1:((b+1:Nat):Int)=(b:Int)+1:=rfl;by_cases h0:bk=0∨bk=13
  .rw[ac h0]at hi⊢;have h9:=ih (b+1) N s o_ hKN u_;rw[ac h0,c1]at h9;rw[hbk]at h9⊢;rcases h9 with ⟨s3,M2,hM2,f1,f2,f3⟩|⟨z,M2,hM2,f1,f3⟩
   .refine .inl ⟨s3,M2,o_,f1,f2,?_⟩;rw[<-f3,ah kY];rcases h0 with h0|h0<;>simp(disch:=omega)[↓ac,↓aa,hG]
   .refine .inr ⟨z,M2,o_,f1,?_⟩;rw[<-f3,ah kY];rcases h0 with h0|h0<;>simp(disch:=omega)[↓ac,↓aa,hG]
  .rw[aa h0]at hi⊢;have em:(Ah P.os (bI bk) n first (j+1) b).map (λy=>(bk,y))=(rI P.os (bI bk) b n first).map (λy=>(bk,y))++(Ah P.os (bI bk) n first j (b+1)).map (λy=>(bk,y)):=by
    grind [Ah]
   rw[em]at hi⊢;rw[aA]at hi;rw[GB];rcases aD0 i hil H H2 hY hg2 hg3 s0 bk hbk o_ b o_ ho hhi first n g hgl hn hfn en gi k ls K hK _ n first N s rfl hKN hi with ⟨s2,M,hM,e1,e2,e3⟩|⟨z,M,hM,e1,e3⟩
   .rw[e1];have h9:=ih (b+1) M s2 o_ o_ u_;rw[aa h0,c1]at h9;rw[hbk]at h9 e3⊢;rcases h9 with ⟨s3,M2,hM2,f1,f2,f3⟩|⟨z,M2,hM2,f1,f3⟩
    .refine .inl ⟨s3,M2,o_,f1,f2,?_⟩;rw[<-f3,ah kY];simp(disch:=omega)[↓ac,↓aa,hG,e3]
    .refine .inr ⟨z,M2,o_,f1,?_⟩;rw[<-f3,ah kY];simp(disch:=omega)[↓ac,↓aa,hG,e3]
   .rw[e1];refine .inr ⟨z,M,hM,rfl,?_⟩;rw[ah kY];simp(disch:=omega)[↓ac,↓aa,hG,e3]
def aDb (i:aN)(hil:i.groups.length<=1000)(H:Tl hp L)(H2:Tl hq L)(hY:TZ hp hq L P.l st dz)(hg2:∀s T,get (hp s T) P.p2=some (.cells i.cells))(hg3:∀s T,get (hp s T) P.p3=some (.cells [.own false 1 (cY P.os)]))(ho:P.os.length<=100)(hhi:∀x∈P.os,x<=256)(first n g:Nat)(hgl:g<i.groups.length)(hn:nth i.groups g=n)(hfn:first+n<=8)(gi:Int)(ls:P_)(hls:ls.length<=1000)(rest:R_):∀(r:P_) (k b N:Nat) (lf:Int) (s:σ),ls.drop k=r->fitsS lf r->(b:Int)+lf<P.os.length->L<=N->dz (Cb P.os n first r b++rest) s->
  (∃s2 M,N<=M∧lI st (Cb P.os n first r b) s=.inl s2∧dz rest s2∧
   (Dn prog).code (.loop nT) ⟨eP P first g b (Ls P gi (Tj ls k)),⟨hp s [],N⟩⟩ =
   some (.exit 2,⟨(0,.yield P.l)::(2,.ptr P.p2 0)::(3,.ptr P.p3 0)::(5,A_ first)::(6,A_ g)::Ls P gi [],⟨hp s2 [],M⟩⟩))∨
  (∃z M,N<=M∧lI st (Cb P.os n first r b) s=.inr z∧
   (Dn prog).code (.loop nT) ⟨eP P first g b (Ls P gi (Tj ls k)),⟨hp s [],N⟩⟩ =
   some (.ret,⟨[],⟨hq z [],M⟩⟩)):=by
 intro r
 induction r with
 |nil =>
  intro k b N lf s hd hf hb hN hi;have hk:=aY hd;refine .inl ⟨s,N,al _,rfl,hi,?_⟩;rw[ah rW];simp(disch:=omega)[↓aa]
 |cons s0 r ih =>
  intro k b N lf s hd hf hb hN hi;have hg:=xc hd;have hlt:=bw hd;obtain⟨⟨⟨l1,l2⟩,b1,b2⟩,hf2⟩:=hf;obtain⟨bk,hbk⟩:=aB b1;have hbt:s0.book.toNat=bk:=o_;have hif:(s0.book=0∨s0.book=13)↔(bk=0∨bk=13):=o_;have em:Cb P.os n first (s0::r) b=(if bk=0∨bk=13 then [] else (Ah P.os (bI bk) n first s0.len.toNat b).map (λy=>(bk,y)))++Cb P.os n first r (b+s0.len.toNat):=by
   grind [Cb]
  rw[em]at hi⊢;rw[aA]at hi;rw[GB];have hp1:=λs o=>H.put s N o hN
  have hp2:=λs o o'=>H.put2 s N o o' hN
  have hG:=λs o=>H.get s N o hN
  have c1:((k+1:Nat):Int)=(k:Int)+1:=rfl;have cE:((b+s0.len.toNat:Nat):Int)=(b:Int)+s0.len:=o_;rcases aDJ i hil H H2 hY hg2 hg3 s0 bk hbk o_ ho hhi first n g hgl hn hfn (b+s0.len.toNat) o_ gi k ls N hN _ s0.len.toNat b (N+1) s rfl o_ hi with ⟨s2,M,hM,e1,e2,e3⟩|⟨z,M,hM,e1,e3⟩
  .rw[e1];have h9:=ih (k+1) (b+s0.len.toNat) M (lf-s0.len) s2 (bu hd) hf2 o_ o_ e2;rw[c1,cE]at h9;rw[cE]at e3;rcases h9 with ⟨s3,M2,hM2,f1,f2,f3⟩|⟨z,M2,hM2,f1,f3⟩
   .refine .inl ⟨s3,M2,o_,f1,f2,?_⟩;rw[<-f3,ah rW];simp(disch:=omega)[↓ac,hg,hp1,hp2,hG,e3]
   .refine .inr ⟨z,M2,o_,f1,?_⟩;rw[<-f3,ah rW];simp(disch:=omega)[↓ac,hg,hp1,hp2,hG,e3]
  .rw[e1];rw[cE]at e3;refine .inr ⟨z,M,o_,rfl,?_⟩;rw[ah rW];simp(disch:=omega)[↓ac,hg,hp1,hp2,hG,e3]
def aCZ (i:aN)(hil:i.groups.length<=1000)(H:Tl hp L)(H2:Tl hq L)(hY:TZ hp hq L P.l st dz)(hg2:∀s T,get (hp s T) P.p2=some (.cells i.cells))(hg3:∀s T,get (hp s T) P.p3=some (.cells [.own false 1 (cY P.os)]))(ho:P.os.length<=100)(hhi:∀x∈P.os,x<=256)(m:Int)(hm:0<=m∧m<P.os.length)(hfl:P.full.length<=1000)(hlc:∀l∈P.full,l.length<=1000)(hgg:∀n∈i.groups,1<=n)(rest:R_):∀(r:H_) (q:G_) (g first N:Nat) (s:σ),P.full.drop g=r->i.groups.drop g=q->r.length=q.length->fJ m r->(first:Int)+q.sum<=8->L<=N->dz (qw P.os r q first++rest) s->
  (∃s2 M,N<=M∧lI st (qw P.os r q first) s=.inl s2∧dz rest s2∧
   (Dn prog).code (.loop nQ) ⟨(0,.yield P.l)::(2,.ptr P.p2 0)::(3,.ptr P.p3 0)::(5,A_ first)::Ls P g [],⟨hp s [],N⟩⟩=some (.exit 0,⟨[],⟨hp s2 [],M⟩⟩))∨
  (∃z M,N<=M∧lI st (qw P.os r q first) s=.inr z∧
   (Dn prog).code (.loop nQ) ⟨(0,.yield P.l)::(2,.ptr P.p2 0)::(3,.ptr P.p3 0)::(5,A_ first)::Ls P g [],⟨hp s [],N⟩⟩=some (.ret,⟨[],⟨hq z [],M⟩⟩)):=by
 have hg2':=hg2;simp only[aN.cells]at hg2';intro r
 induction r with
 |nil =>
  intro q g first N s hd hd2 hl hf hs hN hi
  have hk:=aY hd;have hq0:q=[]:=d_;subst hq0;refine .inl ⟨s,N,al _,rfl,hi,?_⟩;rw[ah rT];simp(disch:=omega)[↓aa]
 |cons l r ih =>
  intro q g first N s hd hd2 hl hf hs hN hi
  cases q with
  |nil=>simp at hl
  |cons n0 q =>
   have hg:=lj hd;have hlt:=bw hd;have hlt2:=bw hd2;have hn0:nth i.groups g=n0:=by
    grind [q9]
   have hn1:=hgg n0 (by grind [jy]);obtain⟨n,hn⟩:=aB (show 0<=n0 by omega);have hnt:n0.toNat=n:=o_;have hqs:0<=q.sum:=by
    have:∀x∈q,1<=x:=λx hx=>hgg x (by grind)
    have:=nu this;omega
   rw[kZ]at hs;have em:qw P.os (l::r) (n0::q) first=Cb P.os n first l 0++qw P.os r q (first+n):=by rw[qw,hnt]
   rw[em]at hi⊢;rw[aA]at hi;rw[GB];have hml:l∈P.full:=by rw[<-aV g P.full,hd];simp
   have c0:((0:Nat):Int)=0:=rfl;have c1:((g+1:Nat):Int)=(g:Int)+1:=rfl;have cF:((first+n:Nat):Int)=(first:Int)+n:=rfl;simp only[aq,sM]at hl;rcases aDb i hil H H2 hY hg2 hg3 ho hhi first n g hlt2 o_ o_ g l (hlc l hml) _ l 0 0 N m s rfl (hf l (.head _)) o_ hN hi with ⟨s2,M,hM,e1,e2,e3⟩|⟨z,M,hM,e1,e3⟩
   .rw[e1];have h9:=ih q (g+1) (first+n) M s2 (bu hd) (bu hd2) hl (λx hx=>hf x (.tail _ hx)) o_ o_ e2;rw[c1,cF]at h9;rw[c0]at e3;rw[hn]at hn0;rcases h9 with ⟨s3,M2,hM2,f1,f2,f3⟩|⟨z,M2,hM2,f1,f3⟩
    .refine .inl ⟨s3,M2,o_,f1,f2,?_⟩;rw[<-f3,ah rT];simp(disch:=omega)[↓ac,hg,hg2',hn0,e3]
    .refine .inr ⟨z,M2,o_,f1,?_⟩;rw[<-f3,ah rT];simp(disch:=omega)[↓ac,hg,hg2',hn0,e3]
   .rw[e1];rw[c0]at e3;refine .inr ⟨z,M,hM,rfl,?_⟩;rw[ah rT];simp(disch:=omega)[↓ac,hg,e3]
end
def ajV {σ τ:Type}{hp:σ->am->am}{hq:τ->am->am}{L:Nat}{P:PlS}{st:Nat×Nat->σ->Sum σ τ}{dz:R_->σ->Prop}(i:aN)(hi:i.Fit)(hm:i.may 11)(p1:Nat)(H:Tl hp L)(H2:Tl hq L)(hY:TZ hp hq L P.l st dz)(hg1:∀s,get (hp s []) p1=some (.cells [.d (.lst (bF P.full))]))(hg2:∀s T,get (hp s T) P.p2=some (.cells i.cells))(hg3:∀s T,get (hp s T) P.p3=some (.cells [.own false 1 (cY P.os)]))(ho:P.os.length<=100)(hhi:∀x∈P.os,x<=256)(hmo:i.max<P.os.length)(hf:ke i P.full)(N:Nat)(hN:L<=N)(s:σ)(hs:dz (qw P.os P.full i.groups 0) s) :
  (∃s2 M,N<=M∧lI st (qw P.os P.full i.groups 0) s=.inl s2∧dz [] s2∧(Dn prog).call jd [.yield P.l,.ptr p1 0,.ptr P.p2 0,.ptr P.p3 0] ⟨hp s [],N⟩=some (.tup [],⟨hp s2 [],M⟩))∨
  (∃z M,N<=M∧lI st (qw P.os P.full i.groups 0) s=.inr z∧(Dn prog).call jd [.yield P.l,.ptr p1 0,.ptr P.p2 0,.ptr P.p3 0] ⟨hp s [],N⟩=some (.tup [],⟨hq z [],M⟩)):=by
 have hmx:=jY hm;obtain⟨g1,g2⟩:=dV hm;have hmm:i.many<=8:=by grind [aN.many]
 have hgl:i.groups.length<=8:=by have:=nu (λn hn=>(g1 n hn).1);omega
 have hlc:∀l∈P.full,l.length<=1000:=λl hl=>by
  rcases Kp (hf.2 l hl) with h|h<;>grind
 have hfl:=hf.1;have c0:((0:Nat):Int)=0:=rfl;have h:=aCZ i hi.len H H2 hY hg2 hg3 ho hhi i.max ⟨hmx.1,hmo⟩ o_ hlc (λn hn=>(g1 n hn).1) [] P.full i.groups 0 0 N s rfl rfl hfl hf.2 o_ hN u_;rw[c0]at h;rw[bb ab4 abZ rfl];rcases h with ⟨s2,M,hM,e1,e2,e3⟩|⟨z,M,hM,e1,e3⟩
 .refine .inl ⟨s2,M,hM,e1,e2,?_⟩;simp(disch:=omega)[hg1,e3]
 .refine .inr ⟨z,M,hM,e1,?_⟩;simp(disch:=omega)[hg1,e3]
def QN (r:Nat)(hr:r<=11)(i:aN)(y:D)(H:am)(N:Nat)(hL:Lt H N):(Dn prog).call Tc [A_ r,.agg i.cells,.d y] ⟨H,N⟩=some (.fn jd [] [.ptr (N+1) 0,.ptr N 0,.ptr (N+1+1) 0],⟨H++[(N,.cells i.cells)]++[(N+1,.cells [.d y])]++[(N+1+1,.cells [.own false 1 (cY (offs r i.short))])],N+1+1+1⟩):=by
 have hof:=C3 r i.short;rw[ac o_]at hof;have L1:=M7 (o:=.cells i.cells) hL;have L2:=M7 (o:=.cells [.d y]) L1;have e1:=λo=>vV (o:=o) hL
 have e2:=λo=>vV (o:=o) L1
 have e3:=λo=>vV (o:=o) L2
 have e4:=Cj (N:=N+1) (o:=.cells [.d y]) (yk (o:=.cells i.cells) hL);have e5:=λo=>yk (o:=o) L2
 have e6:=λo o'=>IR (o:=o) (o':=o') L2
 have hsh:i.short=decide (i.seq=2):=rfl;rw[bb ake ai0 rfl];simp only[aN.cells]at e1 e2 e3 e4 e5 e6⊢;by_cases hs2:i.seq=2
 .rw[decide_eq_true hs2]at hsh;rw[hsh]at hof⊢;simp(disch:=omega)[↓ac,hof,e1,e2,e3,e4,e5,e6,-List.append_assoc]
 .rw[decide_eq_false hs2]at hsh;rw[hsh]at hof⊢;simp(disch:=omega)[↓aa,hof,e1,e2,e3,e4,e5,e6,-List.append_assoc]
abbrev aAW:D_:=[A_ 0,A_ 0,.nl,.nl]
abbrev rO (id:Nat):D_:=[A_ id,A_ (bO id),.own false 1 (cY (cA id)),.own false 1 (cY (dP id))]
def II (C:D_):Prop:=C.length=48∧∀id,id<12->sub C (4*id) 4=aAW∨(1<=id∧sub C (4*id) 4=rO id)
theorem X7 {α:Type}{C:List α}{a k:Nat}(hk:k<4):(sub C a 4)[k]?=C[a+k]?:=by
 simp_all
def SL {α:Type}{C W:List α}{a:Nat}(hw:W.length=4)(ha:a+4<=C.length):sub (aI C a W) a 4=W:=by
 grind [sub,aI,List.drop_eq_nil_of_le]
def ago {α:Type}{C W:List α}{a b:Nat}(hw:W.length=4)(ha:a+4<=C.length)(hb:b+4<=C.length)(h:b+4<=a∨a+4<=b):sub (aI C a W) b 4=sub C b 4:=by
 apply dS
 grind [X7,aI,sub]
def anf {α:Type}{C W:List α}{a:Nat}(hw:W.length=4)(ha:a+4<=C.length):(aI C a W).length=C.length:=by
 grind [aI]
def auk {C W:D_}{a:Nat}(ha:a+4<=C.length)(h:sub C a 4=W):aI C a W=C:=by
 subst h
 grind [aI,sub,List.take_append_drop]
def aef {C:D_}(h:II C){id:Nat}(hid:1<=id∧id<=11):II (aI C (4*id) (rO id)):=by
 refine⟨by rw[anf rfl (by rw[h.1];omega)];exact h.1,λj hj=>?_⟩;by_cases e:j=id
 .subst e;exact .inr ⟨hid.1,SL rfl (by rw[h.1];omega)⟩
 .rw[ago rfl (by rw[h.1];omega) (by rw[h.1];omega) o_];exact h.2 j hj
structure Bk (hp:D_->am->am)(A N:Nat):Prop where
 gA:∀C T,get (hp C T) A=some (.cells C)
 pA:∀C T C',put (hp C T) A (.cells C')=hp C' T
 pN:∀C o,put (hp C []) N o=hp C [(N,o)]
 pN2:∀C o o',put (hp C [(N,o)]) N o'=hp C [(N,o')]
 gN:∀C o,get (hp C [(N,o)]) N=some o
 dN:∀C o,del (hp C [(N,o)]) N=hp C []
def Sf {hp:D_->am->am}{A N:Nat}(H:Bk hp A N)(C:D_)(hC:II C)(id:Nat)(hid:1<=id∧id<=11):(Dn prog).call nf [.ptr A 0,A_ id] ⟨hp C [],N⟩=some (ov id,⟨hp (aI C (4*id) (rO id)) [],N+1⟩):=by
 have hb:=Xt id o_;have h48:=hC.1;have hia:∀p,Ly 12 4 (.ptr p 0) (A_ id)=some (.ptr p (4*id)):=λp=>by
  grind [abW,Ly,iE,UW]
 rw[bb YR aak rfl];rcases hC.2 id o_ with h0|⟨_,h1⟩
 .have e0:C[4*id]?=some (A_ 0):=by rw[<-dX (4*id),<-X7 o_,h0];rfl
  obtain⟨hl0,e0⟩:=aJ.1 e0;have hsm:=SL (C:=C) (W:=rO id) (a:=4*id) rfl o_;have hsl:=anf (C:=C) (W:=rO id) (a:=4*id) rfl o_;simp(disch:=omega)[↓ac,H.gA,H.pA,H.pN,H.pN2,H.gN,H.dN,hia,e0,hb,-aI,-sub,-Pq,-apx,hsm,hsl];simp
 .have e0:C[4*id]?=some (A_ id):=by rw[<-dX (4*id),<-X7 o_,h1];rfl
  obtain⟨hl0,e0⟩:=aJ.1 e0;rw[auk o_ h1];simp(disch:=omega)[↓ac,↓aa,H.gA,H.pN,H.pN2,H.gN,H.dN,hia,e0,-aI,-sub,-Pq,-apx,h1];simp
def acx (l:AA_)(hl:l.length<=100000)(h:am)(N:Nat):(Dn prog).call AW [.d (.lst (fc l))] ⟨h,N⟩=some (B_ (decide (0<l.length)),⟨h,N⟩):=by
 rw[bb XU XM rfl];by_cases h0:0<l.length
 .rw[decide_eq_true h0];simp(disch:=omega)[↓ac]
 .rw[decide_eq_false h0];simp(disch:=omega)[↓aa]
def abg (F:AV)(P:AA_->Bool)(l:N_)(hl:l.length<=1000000000)(h:am)(N:Nat)(hF:firm (share F)=F)(hc:∀v∈l,cy (Dn prog) F [.d (.lst (fc v))] ⟨h,N⟩=some (B_ (P v),⟨h,N⟩)):∀(r:N_) (i:Nat),l.drop i=r->
  (r.any P=true∧∃k:Nat,(Dn prog).code (.loop fG) ⟨[(0,.d (.lst (cT l))),(1,F),(7,A_ l.length),(8,A_ i)],⟨h,N⟩⟩=some (.ret,⟨[(4,A_ k)],⟨h,N⟩⟩))∨
  (r.any P=false∧(Dn prog).code (.loop fG) ⟨[(0,.d (.lst (cT l))),(1,F),(7,A_ l.length),(8,A_ i)],⟨h,N⟩⟩=some (.exit 0,⟨[],⟨h,N⟩⟩)):=by
 intro r
 induction r with
 |nil =>
  intro i hd;have hi:=aY hd;refine .inr ⟨rfl,?_⟩;rw[ah il];simp(disch:=omega)[↓aa]
 |cons v r ih =>
  intro i hd;have hg:=tT hd;have hlt:=bw hd;have hv:=hc v (by rw[<-aV i l,hd];simp);have h5:=ih (i+1) (bu hd)
  cases hp:P v with
  |true =>
   rw[hp]at hv;refine .inl ⟨u_,i,?_⟩;rw[ah il];simp(disch:=omega)[↓ac,hg,hF,hv]
  |false =>
   rw[hp]at hv;rw[fq,hp,oe];rcases h5 with ⟨e1,k,e2⟩|⟨e1,e2⟩
   .refine .inl ⟨e1,k,?_⟩;rw[ah il,<-e2];simp(disch:=omega)[↓ac,hg,hF,hv]
   .refine .inr ⟨e1,?_⟩;rw[ah il,<-e2];simp(disch:=omega)[↓ac,hg,hF,hv]
def Z7 (F:AV)(P:AA_->Bool)(l:N_)(hl:l.length<=1000000000)(h:am)(N:Nat)(hF:firm (share F)=F)(hF2:firm F=F)(hc:∀v∈l,cy (Dn prog) F [.d (.lst (fc v))] ⟨h,N⟩=some (B_ (P v),⟨h,N⟩)) :
  (Dn prog).call qQ [.d (.lst (cT l)),F] ⟨h,N⟩=some (B_ (l.any P),⟨h,N⟩):=by
 have h1:=abg F P l hl h N hF hc l 0 rfl;have c0:((0:Nat):Int)=0:=rfl;rw[c0]at h1;have h2:∃k:Int,(0<=k↔l.any P=true)∧(Dn prog).call tR [.d (.lst (cT l)),F] ⟨h,N⟩=some (A_ k,⟨h,N⟩):=by
  rcases h1 with ⟨e1,k,e2⟩|⟨e1,e2⟩
  .refine⟨k,⟨λ_=>e1,λ_=>by omega⟩,?_⟩;rw[bb tP tY rfl];simp(disch:=omega)[e2]
  .refine⟨-1,⟨λh=>by omega,λh=>by simp_all⟩,?_⟩;rw[bb tP tY rfl];simp(disch:=omega)[e2]
 obtain⟨k,e1,e2⟩:=h2;rw[bb CD C9 rfl]
 cases hp:l.any P with
 |true =>
  have:=e1.2 hp;simp(disch:=omega)[↓ac,hF2,e2]
 |false =>
  have:¬0<=k:=λh=>by simp_all
  simp(disch:=omega)[↓aa,hF2,e2]
def pb (t:N_):Bool:=t.any λl=>decide (0<l.length)
def So (t:N_)(ht:t.length<=100000)(ht2:∀l∈t,l.length<=100000):bh prog Nk [.d (.lst (cT t))]=some (B_ (pb t)):=by
 have h:=Z7 (.fn AW [] []) (λl=>decide (0<l.length)) t o_ [] 0 rfl rfl λv hv=>by
  simp_all [acx]
 rw[aD adf ab8 rfl];unfold pb;simp(disch:=omega)[h]
abbrev jr:=@List.getElem?_replicate
abbrev jC:=@List.getElem?_take
abbrev dh:=@List.getD_eq_getElem?_getD
def OJ {d hi:Nat}(hd:1<=d):∀{f lo x:Nat},(hi-lo) % d=0->x∈tN d hi f lo->lo<=x∧x+d<=hi∧(x-lo) % d=0
 |0,lo,x,_,h=>by simp[tN]at h
 |f+1,lo,x,hm,h=>by
  rw[tN]at h;by_cases h1:lo<hi
  .rw[ac h1]at h;have h2:lo+d<=hi:=by
    rcases bD (hi-lo) d with h3|h3
    .rw[eM h3]at hm;omega
    .omega
   rcases ay.1 h with e|e
   .subst e;exact⟨al _,h2,s_⟩
   .have h4:(hi-(lo+d)) % d=0:=by
     have:hi-lo=hi-(lo+d)+d:=o_;rw[this,Nat.add_mod_right]at hm;exact hm
    have ⟨a,b,c⟩:=OJ hd h4 e;refine⟨o_,b,?_⟩;have:x-lo=x-(lo+d)+d:=o_;rw[this,Nat.add_mod_right];exact c
  .rw[aa h1]at h;simp at h
def adC {os:C_}{d b:Nat}:∀{k w y:Nat},y∈rI os d b k w->∃w' x,w<=w'∧w'<w+k∧x∈tN d (nth os (b+1)) 300 (nth os b)∧y=w'*32+x
 |0,w,y,h=>by simp[rI]at h
 |k+1,w,y,h=>by
  rw[rI,ba]at h;rcases h with h|h
  .obtain⟨x,hx,e⟩:=dy.1 h;exact⟨w,x,al _,o_,hx,e.symm⟩
  .obtain⟨w',x,a,b,c,e⟩:=adC h;exact⟨w',x,o_,o_,c,e⟩
def UT {os:C_}{d n first:Nat}:∀{k b y:Nat},y∈Ah os d n first k b->∃b',b<=b'∧b'<b+k∧y∈rI os d b' n first
 |0,b,y,h=>by simp[Ah]at h
 |k+1,b,y,h=>by
  rw[Ah,ba]at h;rcases h with h|h
  .exact⟨b,al _,o_,h⟩
  .obtain⟨b',a,c,e⟩:=UT h;exact⟨b',o_,o_,e⟩
def U4 {os:C_}{n first:Nat}:∀{r:P_}{b:Nat}{lf:Int}{p:Nat×Nat},fitsS lf r->p∈Cb os n first r b->∃j,(aM r)[j]?=some (p.1:Int)∧(1<=p.1∧p.1<=11)∧p.2∈rI os (bI p.1) (b+j) n first
 |[],b,lf,p,_,h=>by simp[Cb]at h
 |s::r,b,lf,p,hf,h=>by
  obtain⟨⟨⟨l1,l2⟩,b1,b2⟩,hf2⟩:=hf;have eb:aM (s::r)=List.replicate s.len.toNat s.book++aM r:=by rw[aM,aE];rfl
  rw[Cb,ba]at h;rcases h with h|h
  .by_cases h0:s.book=0∨s.book=13
   .rw[ac h0]at h;simp at h
   .rw[aa h0]at h;obtain⟨y,hy,e⟩:=dy.1 h;subst e;obtain⟨b',c1,c2,c3⟩:=UT hy;refine⟨b'-b,?_,by simp only[];omega,by rw[show b+(b'-b)=b' by omega];exact c3⟩;rw[eb,cw g_,jr,ac o_];simp only[ae];omega
  .obtain⟨j,a,c,e⟩:=U4 hf2 h;refine⟨s.len.toNat+j,?_,c,by rw[<-dK];exact e⟩;rw[eb,bZ s_,bm,gj];exact a
def Ng {os:C_}{m:Int}:∀{r:H_}{q:G_}{first:Nat}{p:Nat×Nat},fJ m r->(∀n∈q,1<=n)->p∈qw os r q first->∃(w g j:Nat) (l:P_),r[g]?=some l∧first<=w∧(w:Int)<first+q.sum∧lH q ((w:Int)-first)=g∧(aM l)[j]?=some (p.1:Int)∧(1<=p.1∧p.1<=11)∧∃x∈tN (bI p.1) (nth os (j+1)) 300 (nth os j),p.2=w*32+x
 |[],q,first,p,_,_,h=>by simp[qw]at h
 |l::r,[],first,p,_,_,h=>by simp[qw]at h
 |l::r,n::q,first,p,hf,hn,h=>by
  have hn1:=hn n (.head _);have hqs:0<=q.sum:=by have:=nu λx hx=>hn x (.tail _ hx);omega
  rw[qw,ba]at h;rw[kZ];rcases h with h|h
  .obtain⟨j,a,c,e⟩:=U4 (hf l (.head _)) h;rw[bv]at e;obtain⟨w,x,e1,e2,e3,e4⟩:=adC e;refine⟨w,0,j,l,rfl,e1,o_,?_,a,c,x,e3,e4⟩;rw[lH,ac o_]
  .obtain⟨w,g,j,l',e1,e2,e3,e4,e5,e6,e7⟩:=Ng (λx hx=>hf x (.tail _ hx)) (λx hx=>hn x (.tail _ hx)) h;refine⟨w,g+1,j,l',by simpa using e1,o_,o_,?_,e5,e6,e7⟩;rw[lH,aa o_];have:(w:Int)-first-n=(w:Int)-((first+n.toNat:Nat):Int):=o_
   rw[this,e4]
def oQ:∀x∈Ix,((List.range ((offs x.1 x.2).length-1)).all λj=>decide (nth (offs x.1 x.2) j<nth (offs x.1 x.2) (j+1)) && decide ((nth (offs x.1 x.2) (j+1)-nth (offs x.1 x.2) j) % 4=0))=true∧nth (offs x.1 x.2) 0=0∧(offs x.1 x.2).all (λy=>decide (y<=cond x.2 32 256))=true:=e_
def TI {tl:C_}{bks:G_}:∀{ls:G_}{i j:Nat}{v:Int},xJ tl bks i ls->ls[j]?=some v->Oo tl bks (i+j) v
 |[],i,j,v,_,h=>by simp at h
 |u::r,i,0,v,h,e=>by
  simp only[b9,ae]at e;subst e;exact h.1
 |u::r,i,j+1,v,h,e=>by
  have:=TI (j:=j) h.2 (by simpa using e);rw[show i+(j+1)=i+1+j by omega];exact this
def SW {r:Nat}{c:cJ}:∀{k w w':Nat},Kn r c k w->w<=w'->w'<w+k->xJ ((offs r c.info.short).drop 1) (aM (xD c w')) 0 (zD c w')
 |0,w,w',_,h1,h2=>by omega
 |k+1,w,w',h,h1,h2=>by
  rcases bD w w' with h3|h3
  .exact SW h.2 h3 (by omega)
  .have:w'=w:=o_;subst this;exact h.1
def ajv {os:C_}{b i:Nat}(hs:∀j,j+1<os.length->nth os j<nth os (j+1))(hb:b+1<os.length)(h1:nth os b<=i)(h2:i<nth os (b+1)):mu (os.drop 1) i=b:=by
 have hmono:∀k j,j+k<os.length->nth os j<=nth os (j+k):=by
  intro k
  induction k with
  |zero=>intro j _;exact al _
  |succ k ih =>
   intro j hj;have a:=ih j o_;have b:=hs (j+k) o_;rw[show j+(k+1)=j+k+1 by omega];omega
 have hlen:(os.drop 1).length=os.length-1:=s_;rw[aaU (b:=b) o_ ?_]
 .have hdd:(os.drop 1).drop b=os.drop (b+1):=by rw[mX];congr 1;omega
  rw[hdd,q9 hb,mu,aa o_];rfl
 .intro x hx;obtain⟨j,hj,e⟩:=iC.1 hx;have hj2:j<b:=by have:=hj;simp only[b7]at this;omega
  rw[sQ,List.getElem_drop]at e;have hn:nth os (1+j)=x:=by
   have h9:=Co (l:=os) (i:=1+j) o_;rw[bC o_,e]at h9;injection h9 with h9;exact h9.symm
  have:=hmono (b-(1+j)) (1+j) o_;rw[show 1+j+(b-(1+j))=b by omega]at this;omega
def Sy {r:Nat}{c:cJ}(hc:c.Fit)(h:nB r c)(hr:r<=11){p:Nat×Nat}(hp:p∈qw (offs r c.info.short) c.sects c.info.groups 0):(1<=p.1∧p.1<=11)∧p.2+bI p.1<=256∧Pn p.1 ((c.lines.drop p.2).take (bI p.1)):=by
 have hm11:=gC hr h.info;obtain⟨g1,g2⟩:=dV hm11;obtain⟨w,g,j,l,e1,e2,e3,e4,e5,e6,x,e7,e8⟩:=Ng h.sects.2 (λn hn=>(g1 n hn).1) hp;obtain⟨o1,o2,o3⟩:=oQ (r,c.info.short) (fI o_);simp only at o1 o2 o3;have hmx:=h.info.2.2.2.1;have hlm:l∈c.sects:=dJ e1;have hbl:=tW (h.sects.2 l hlm) h.info.2.2.1;have hjl:j<(aM l).length:=(aJ.1 e5).1;have hmy:sm r (decide (c.info.seq=2))=(offs r c.info.short).length-1:=rfl;have hj1:j+1<(offs r c.info.short).length:=o_;have hoj:nth (offs r c.info.short) j<nth (offs r c.info.short) (j+1)∧(nth (offs r c.info.short) (j+1)-nth (offs r c.info.short) j) % 4=0:=by
  have:=bH.1 o1 j (d9.2 o_);simpa using this
 have hos:∀k,k+1<(offs r c.info.short).length->nth (offs r c.info.short) k<nth (offs r c.info.short) (k+1):=λk hk=>by
  have:=bH.1 o1 k (d9.2 o_);simp only[af,decide_eq_true_eq]at this;exact this.1
 have hd4:bI p.1=4∨bI p.1=2:=by unfold bI;split<;>simp
 have hx:=OJ (d:=bI p.1) o_ (by rcases hd4 with h|h<;>rw[h]<;>omega) e7;have hw:(w:Int)<c.info.many:=o_;have ho256:nth (offs r c.info.short) (j+1)<=cond c.info.short 32 256:=by
  have:=bH.1 o3 _ (jy hj1);simpa using this
 have hcond:(cond c.info.short 32 256:Nat)=c.info.wide:=by
  unfold aN.short aN.wide;by_cases h:c.info.seq=2
  .rw[decide_eq_true h,ac h];rfl
  .rw[decide_eq_false h,aa h];rfl
 rw[hcond]at ho256;have hww:w*32=w*c.info.wide∧w*c.info.wide+c.info.wide<=256:=by
  unfold aN.many at hw;unfold aN.wide;split at hw
  .rename_i h2;rw[ac h2];omega
  .rename_i h2;rw[aa h2];omega
 have hl:=h.lines.1;have hle:p.2+bI p.1<=256:=o_;refine⟨e6,hle,?_,λv hv=>?_⟩
 .rw[b7,cM];omega
 .obtain⟨k,hk,ek⟩:=iC.1 hv;have hk2:k<bI p.1:=by have:=hk;simp only[b7]at this;omega
  rw[sQ,List.getElem_drop]at ek;have hf:=SW h.lines.2 (w':=w) o_ o_;have hwl:(zD c w)[x+k]?=some v:=by
   unfold zD;rw[jC,ac o_,cf,show w*c.info.wide+(x+k)=p.2+k by omega,bC o_,ek]
  have hlo:=TI hf hwl;rw[bv]at hlo;have hgr:lH c.info.groups w=g:=by rw[<-e4];congr 1
  have hsa:xD c w=l:=by
   unfold xD;rw[hgr,dh,e1];rfl
  have hba:=ajv (i:=x+k) hos hj1 o_ o_;unfold Oo at hlo;rw[hsa,hba,e5]at hlo;rcases hlo with h0|⟨k',a1,a2,a3⟩
  .subst h0;simp
  .injection a1 with a1
   subst a1;simpa using a3
end Go.Vm
end
